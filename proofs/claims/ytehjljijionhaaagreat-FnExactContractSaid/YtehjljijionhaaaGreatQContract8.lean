/-
  Parts of the proof of FnExactContract: laws of heaps, contracts of functions.
  Conditions: none.
-/
import Derived.Test.YtehjljijionhaaaGreatQContract7
namespace Go.Proofs.YtehjljijionhaaaGreat
set_option maxRecDepth 100000
open Go.RowKit
def differ (t u : Ten) (x : Int) : Prop := (x ∈ t.l ∧ x ∈ u.l) ∧ t.d.getD (findI t.l x).toNat 0 ≠ u.d.getD (findI u.l x).toNat 0
theorem mism_of {t u : Ten} {x : Int} (h : differ t u x) : mism t u := by
  have hg := findI_get h.1.2
  exact ⟨(findI u.l x).toNat, hg.1, by rw [hg.2]; exact h.1.1, by rw [hg.2]; exact h.2⟩
theorem mism_none {t u : Ten} (hn : u.l.Nodup) (h : ∀ j, j < (joinI t.l u.l).length → ¬ differ t u ((joinI t.l u.l).getD j 0)) : ¬ mism t u := by
  rintro ⟨i, hi, hm, hne⟩
  have hu := mem_getD hi
  obtain ⟨j, hj, e⟩ := getD_of_mem (mem_joinI.2 (.inl hm) : u.l.getD i 0 ∈ joinI t.l u.l)
  refine h j hj ?_
  rw [e]
  refine ⟨⟨hm, hu⟩, ?_⟩
  rw [find_at' hn hi]
  exact hne
theorem dimJ_yes {t u : Ten} {x : Int} (h : x ∈ t.l) : dimJ t u x = t.d.getD (findI t.l x).toNat 0 := if_pos h
theorem dimJ_no {t u : Ten} {x : Int} (h : x ∉ t.l) : dimJ t u x = u.d.getD (findI u.l x).toNat 0 := if_neg h
set_option maxHeartbeats 2000000 in
theorem ct_i_joinAxes (t u : Ten) (a b c a' b' c' : Value) (w : World) (r1 : IntsR t.l a (hp w)) (r2 : IntsR t.d b (hp w)) (r3 : IntsR t.x c (hp w)) (r1' : IntsR u.l a' (hp w)) (r2' : IntsR u.d b' (hp w)) (r3' : IntsR u.x c' (hp w)) (ht : t.l.length = t.d.length) (hu : u.l.length = u.d.length) (htn : t.l.Nodup) (hn : u.l.Nodup) (hs : t.l.length + u.l.length ≤ 100000) :
    Calls Tryz.prog 161 [tenV a b c, tenV a' b' c'].toArray w (Ret w emp (JoinR t u)) := by
  have hjl := joinI_len t.l u.l
  obtain ⟨L, hL⟩ : ∃ L, L = joinI t.l u.l := ⟨_, rfl⟩
  have hLm : (L.map (dimJ t u)).length = L.length := by simp
  refine calls_in Tryz.func161 rfl Tryz.ntmps161 rfl (Sat.start w) ?_
  have hle0 := r1.le
  have hle1 := r2.le
  have hle2 := r3.le
  have hle3 := r1'.le
  have hle4 := r2'.le
  have hle5 := r3'.le
  refine wp_sc ?_
  refine wp_sq ?_
  refine sq_x rfl (x_box rfl rfl) rfl ?_; rintro _ _ ⟨b2, rfl, rfl⟩
  refine sq_x rfl (x_box rfl rfl) rfl ?_; rintro _ _ ⟨b3, rfl, rfl⟩
  refine sq_v rfl (v_assign rfl) rfl ?_
  refine sq_v rfl (v_assign rfl) rfl ?_
  refine sq_v rfl (v_assign rfl) rfl ?_
  refine sq_end ?_
  refine qs_n ?_
  refine wp_sc ?_
  refine wp_sq ?_
  refine sq_v rfl (v_fieldAddr fd_44_0 ty_25 (by decide) rfl) rfl ?_
  refine sq_v rfl (v_loadB 1 ty_25 rfl rfl rfl) rfl ?_
  refine sq_v rfl (v_fieldAddr fd_44_0 ty_25 (by decide) rfl) rfl ?_
  refine sq_v rfl (v_loadB 0 ty_25 rfl rfl rfl) rfl ?_
  refine sq_x rfl (x_call rfl en_88 (fun w s => ct_i_joinLabels _ _ _ _ w (r1.mono (s.get 2 rfl)) (r1'.mono (s.get 2 rfl)) (by first | assumption | omega))) rfl ?_; rintro v17 h17 r17
  refine sq_v rfl (v_assign rfl) rfl ?_
  refine sq_end ?_
  rw [← hL] at r17 hjl
  refine qs_n ?_
  refine wp_sc ?_
  refine wp_sq ?_
  refine sq_v rfl (v_move rfl) rfl ?_
  refine sq_v rfl (v_len Tryz.underlying25 rfl r17.toR.sl) rfl ?_
  refine sq_x rfl (x_makeI Tryz.underlying25 ty_3 rfl rfl (by first | omega | (simp only [List.length_cons, List.length_nil]; omega) | (simp only [List.length_append, List.length_cons, List.length_nil]; omega) | (rw [List.length_set]; omega) | (rw [List.length_replicate]; omega) | (simp; omega)) (by first | omega | (simp only [List.length_cons, List.length_nil]; omega) | (simp only [List.length_append, List.length_cons, List.length_nil]; omega) | (rw [List.length_set]; omega) | (rw [List.length_replicate]; omega) | (simp; omega)) (by first | omega | (simp only [List.length_cons, List.length_nil]; omega) | (simp only [List.length_append, List.length_cons, List.length_nil]; omega) | (rw [List.length_set]; omega) | (rw [List.length_replicate]; omega) | (simp; omega))) rfl ?_; intro v20 h20 r20
  refine sq_v rfl (v_assign rfl) rfl ?_
  refine sq_end ?_
  refine qs_n ?_
  refine wp_sc ?_
  refine wp_sc ?_
  refine wp_sq ?_
  refine sq_v rfl (v_move rfl) rfl ?_
  refine sq_v rfl (v_len Tryz.underlying25 rfl r17.toR.sl) rfl ?_
  refine sq_v rfl (v_move rfl) rfl ?_
  refine sq_end ?_
  refine qs_n ?_
  refine wp_bl ?_
  refine wp_lp (σ := Nat × PH) (fun z_ => [(2, .pointer (some ⟨b2, 0, none⟩)), (3, .pointer (some ⟨b3, 0, none⟩)), (4, .slice none 0 0), (5, .slice none 0 0), (6, .bool false), (7, v17), (8, v20), (21, v17), (22, num L.length), (23, num z_.1)]) (fun z_ => [z_.2, h17, box b3 [a', b', c'] 44, box b2 [a, b, c] 44, hp w]) (fun z_ => z_.1 ≤ L.length ∧ (∀ j, j < z_.1 → ¬ differ t u (L.getD j 0)) ∧ IntsO ((L.map (dimJ t u)).take z_.1 ++ List.replicate ((L.map (dimJ t u)).length - z_.1) 0) v20 z_.2) (fun z_ => L.length - z_.1) (0, h20) (⟨by (try dsimp only); omega, fun j hj => by omega, by (try dsimp only); simpa using r20⟩) ⟨rfl, rfl, rfl, rfl, rfl, rfl, rfl, rfl, rfl, (by first | rfl | exact ksub rfl (by first | omega | (simp; done) | (simp; omega))), trivial⟩ (fun _ s => s) ?_
  rintro ⟨i, g⟩ ⟨hi, hm, q⟩
  dsimp only at hi hm q ⊢
  have hle_q := q.toR.le
  have hll : ((L.map (dimJ t u)).take i ++ List.replicate ((L.map (dimJ t u)).length - i) 0).length = L.length := by simp; omega
  refine wp_sc ?_
  refine wp_sq ?_
  refine sq_v rfl (v_lss rfl rfl) rfl ?_
  refine sq_end ?_
  refine qs_n ?_
  refine wp_sc ?_
  refine wp_cd rfl (fun c24 => ?_) (fun c24 => ?_)
  · refine wp_sk ?_
    refine qs_n ?_
    refine wp_sc ?_
    refine wp_bl ?_
    refine wp_sc ?_
    refine wp_sq ?_
    refine sq_v rfl (v_move rfl) rfl ?_
    refine sq_v rfl (v_idxI Tryz.underlying25 ty_3 rfl rfl r17.toR (by first | omega | (simp only [List.length_cons, List.length_nil]; omega) | (simp only [List.length_append, List.length_cons, List.length_nil]; omega) | (rw [List.length_set]; omega) | (rw [List.length_replicate]; omega) | (simp; omega)) (by first | omega | (simp only [List.length_cons, List.length_nil]; omega) | (simp only [List.length_append, List.length_cons, List.length_nil]; omega) | (rw [List.length_set]; omega) | (rw [List.length_replicate]; omega) | (simp; omega))) rfl ?_
    refine sq_v rfl (v_loadI (k := i) 1 ty_3 rfl rfl r17.toR (by first | omega | (simp only [List.length_cons, List.length_nil]; omega) | (simp only [List.length_append, List.length_cons, List.length_nil]; omega) | (rw [List.length_set]; omega) | (rw [List.length_replicate]; omega) | (simp; omega))) rfl ?_
    refine sq_v rfl (v_assign rfl) rfl ?_
    refine sq_v rfl (v_assign rfl) rfl ?_
    refine sq_end ?_
    have hfr1 := findI_range t.l (L.getD i 0)
    have hfr2 := findI_range u.l (L.getD i 0)
    have hfg1 := findI_ge (xs := t.l) (n := L.getD i 0)
    have hfg2 := findI_ge (xs := u.l) (n := L.getD i 0)
    have hmL : L.getD i 0 ∈ t.l ∨ L.getD i 0 ∈ u.l := mem_joinI.1 (by rw [← hL]; exact mem_getD (by omega))
    refine qs_n ?_
    refine wp_sc ?_
    refine wp_rj 8 [(0, true), (1, true), (3, true), (4, true), (2, false), (5, false), (6, true), (7, true)] mixed_ok (by kernel_rfl) ?_
    refine rj_v rfl rfl (v_loadNB 3 ty_44 rfl rfl rfl rfl) rfl ?_
    refine rj_v rfl rfl (v_move rfl) rfl ?_
    refine rj_v rfl rfl (v_loadNB 2 ty_44 rfl rfl rfl rfl) rfl ?_
    refine rj_v rfl rfl (v_move rfl) rfl ?_
    refine rj_u rfl rfl (x_callv rfl en_172 (fun w s => ct_u_axisOf _ _ _ _ _ _ _ w (r1.mono (s.get 4 rfl)) (r2.mono (s.get 4 rfl)) (r3.mono (s.get 4 rfl)))) rfl ?_
    refine rj_u rfl rfl (x_callv rfl en_172 (fun w s => ct_u_axisOf _ _ _ _ _ _ _ w (r1'.mono (s.get 4 rfl)) (r2'.mono (s.get 4 rfl)) (r3'.mono (s.get 4 rfl)))) rfl ?_
    refine rj_v rfl rfl (v_assign rfl) rfl ?_
    refine rj_v rfl rfl (v_assign rfl) rfl ?_
    refine rj_end ?_
    refine qs_n ?_
    refine wp_sc ?_
    refine wp_sc ?_
    refine wp_rj 19 [(0, true), (1, true), (2, true), (3, true), (4, true), (5, true), (6, true), (7, true), (8, true), (9, true), (10, true), (11, true), (12, true), (13, true), (14, true), (15, true), (16, true), (17, true), (18, true)] mixed_ok (by kernel_rfl) ?_
    refine rj_v rfl rfl (v_move rfl) rfl ?_
    refine rj_v rfl rfl (v_geq rfl rfl) rfl ?_
    refine rj_bd 35 rfl (fun c35 => ?_) (fun c35 => ?_)
    · refine rj_v rfl rfl (v_move rfl) rfl ?_
      refine rj_v rfl rfl (v_move rfl) rfl ?_
      refine rj_v rfl rfl (v_geq rfl rfl) rfl ?_
      refine rj_v rfl rfl (v_pickt rfl rfl) rfl ?_
      refine rj_bd 39 rfl (fun c39 => ?_) (fun c39 => ?_)
      · refine rj_v rfl rfl (v_move rfl) rfl ?_
        refine rj_v rfl rfl (v_fieldAddr fd_44_1 ty_25 (by decide) rfl) rfl ?_
        refine rj_v rfl rfl (v_loadB 3 ty_25 rfl rfl rfl) rfl ?_
        refine rj_v rfl rfl (v_move rfl) rfl ?_
        refine rj_v rfl rfl (v_idxI Tryz.underlying25 ty_3 rfl rfl r2 (by first | omega | (simp only [List.length_cons, List.length_nil]; omega) | (simp only [List.length_append, List.length_cons, List.length_nil]; omega) | (rw [List.length_set]; omega) | (rw [List.length_replicate]; omega) | (simp; omega)) (by first | omega | (simp only [List.length_cons, List.length_nil]; omega) | (simp only [List.length_append, List.length_cons, List.length_nil]; omega) | (rw [List.length_set]; omega) | (rw [List.length_replicate]; omega) | (simp; omega))) rfl ?_
        refine rj_v rfl rfl (v_loadI  4 ty_3 rfl rfl r2 (by first | omega | (simp only [List.length_cons, List.length_nil]; omega) | (simp only [List.length_append, List.length_cons, List.length_nil]; omega) | (rw [List.length_set]; omega) | (rw [List.length_replicate]; omega) | (simp; omega))) rfl ?_
        refine rj_v rfl rfl (v_fieldAddr fd_44_1 ty_25 (by decide) rfl) rfl ?_
        refine rj_v rfl rfl (v_loadB 2 ty_25 rfl rfl rfl) rfl ?_
        refine rj_v rfl rfl (v_move rfl) rfl ?_
        refine rj_v rfl rfl (v_idxI Tryz.underlying25 ty_3 rfl rfl r2' (by first | omega | (simp only [List.length_cons, List.length_nil]; omega) | (simp only [List.length_append, List.length_cons, List.length_nil]; omega) | (rw [List.length_set]; omega) | (rw [List.length_replicate]; omega) | (simp; omega)) (by first | omega | (simp only [List.length_cons, List.length_nil]; omega) | (simp only [List.length_append, List.length_cons, List.length_nil]; omega) | (rw [List.length_set]; omega) | (rw [List.length_replicate]; omega) | (simp; omega))) rfl ?_
        refine rj_v rfl rfl (v_loadI  4 ty_3 rfl rfl r2' (by first | omega | (simp only [List.length_cons, List.length_nil]; omega) | (simp only [List.length_append, List.length_cons, List.length_nil]; omega) | (rw [List.length_set]; omega) | (rw [List.length_replicate]; omega) | (simp; omega))) rfl ?_
        refine rj_v rfl rfl (v_neq rfl rfl) rfl ?_
        refine rj_v rfl rfl (v_pickt rfl rfl) rfl ?_
        refine rj_end ?_
        refine qs_n ?_
        refine wp_cd rfl (fun c52 => ?_) (fun c52 => ?_)
        · refine wp_sc ?_
          refine wp_sq ?_
          refine sq_v rfl (v_assign rfl) rfl ?_
          refine sq_v rfl (v_assign rfl) rfl ?_
          refine sq_v rfl (v_assign rfl) rfl ?_
          refine sq_end ?_
          refine qs_n ?_
          refine wp_rt ?_
          refine qs_r ?_
          refine qs_br ?_
          refine qs_r ?_
          refine qs_r ?_
          refine qs_br ?_
          refine qs_r ?_
          exact qs_ret3 rfl rfl rfl rfl (fin_e (i := 4) rfl (⟨fun _ => rfl, fun h => absurd (mism_of ⟨⟨hfg1.1 c35, hfg2.1 c39⟩, c52⟩) h⟩))
        · refine wp_sk ?_
          refine qs_n ?_
          refine wp_sc ?_
          refine wp_sq ?_
          refine sq_v rfl (v_move rfl) rfl ?_
          refine sq_v rfl (v_geq rfl rfl) rfl ?_
          refine sq_end ?_
          refine qs_n ?_
          refine wp_cd rfl (fun c54 => ?_) (fun c54 => ?_)
          · refine wp_sq ?_
            refine sq_v rfl (v_move rfl) rfl ?_
            refine sq_v rfl (v_move rfl) rfl ?_
            refine sq_v rfl (v_fieldAddr fd_44_1 ty_25 (by decide) rfl) rfl ?_
            refine sq_v rfl (v_loadB 3 ty_25 rfl rfl rfl) rfl ?_
            refine sq_v rfl (v_move rfl) rfl ?_
            refine sq_v rfl (v_idxI Tryz.underlying25 ty_3 rfl rfl r2 (by first | omega | (simp only [List.length_cons, List.length_nil]; omega) | (simp only [List.length_append, List.length_cons, List.length_nil]; omega) | (rw [List.length_set]; omega) | (rw [List.length_replicate]; omega) | (simp; omega)) (by first | omega | (simp only [List.length_cons, List.length_nil]; omega) | (simp only [List.length_append, List.length_cons, List.length_nil]; omega) | (rw [List.length_set]; omega) | (rw [List.length_replicate]; omega) | (simp; omega))) rfl ?_
            refine sq_v rfl (v_loadI  4 ty_3 rfl rfl r2 (by first | omega | (simp only [List.length_cons, List.length_nil]; omega) | (simp only [List.length_append, List.length_cons, List.length_nil]; omega) | (rw [List.length_set]; omega) | (rw [List.length_replicate]; omega) | (simp; omega))) rfl ?_
            refine sq_v rfl (v_idxI Tryz.underlying25 ty_3 rfl rfl q.toR (by first | omega | (simp only [List.length_cons, List.length_nil]; omega) | (simp only [List.length_append, List.length_cons, List.length_nil]; omega) | (rw [List.length_set]; omega) | (rw [List.length_replicate]; omega) | (simp; omega)) (by first | omega | (simp only [List.length_cons, List.length_nil]; omega) | (simp only [List.length_append, List.length_cons, List.length_nil]; omega) | (rw [List.length_set]; omega) | (rw [List.length_replicate]; omega) | (simp; omega))) rfl ?_
            refine sq_m 0 rfl rfl (m_storeI (k := i) 0 ty_3 rfl rfl rfl q (by first | omega | (simp only [List.length_cons, List.length_nil]; omega) | (simp only [List.length_append, List.length_cons, List.length_nil]; omega) | (rw [List.length_set]; omega) | (rw [List.length_replicate]; omega) | (simp; omega))) rfl ?_; rintro _ h_q10_8 ⟨rfl, q10_8⟩
            refine sq_end ?_
            refine qs_bn ?_
            refine qs_n ?_
            refine wp_sq ?_
            refine sq_v rfl (v_add rfl rfl ((by unfold I64; omega))) rfl ?_
            refine sq_v rfl (v_move rfl) rfl ?_
            refine sq_end ?_
            exact qs_bk (i + 1, h_q10_8) ⟨by (try dsimp only); omega, step_all hm (fun h => c52 h.2), by (try dsimp only); rw [← set_prefix (by omega), map_getD (by omega), dimJ_yes (hfg1.1 c35)]; exact q10_8⟩ (by simp only; omega) ⟨rfl, rfl, rfl, rfl, rfl, rfl, rfl, rfl, rfl, (by first | rfl | exact ksub rfl (by first | omega | (simp; done) | (simp; omega))), trivial⟩ (fun _ s => s)
          · refine wp_sq ?_
            refine sq_v rfl (v_move rfl) rfl ?_
            refine sq_v rfl (v_move rfl) rfl ?_
            refine sq_v rfl (v_fieldAddr fd_44_1 ty_25 (by decide) rfl) rfl ?_
            refine sq_v rfl (v_loadB 2 ty_25 rfl rfl rfl) rfl ?_
            have hy0 : 0 ≤ findI u.l (L.getD i 0) := (by first | omega | exact hfg2.2 (hmL.resolve_left fun h => c35 (hfg1.2 h)))
            refine sq_v rfl (v_move rfl) rfl ?_
            refine sq_v rfl (v_idxI Tryz.underlying25 ty_3 rfl rfl r2' (by first | omega | (simp only [List.length_cons, List.length_nil]; omega) | (simp only [List.length_append, List.length_cons, List.length_nil]; omega) | (rw [List.length_set]; omega) | (rw [List.length_replicate]; omega) | (simp; omega)) (by first | omega | (simp only [List.length_cons, List.length_nil]; omega) | (simp only [List.length_append, List.length_cons, List.length_nil]; omega) | (rw [List.length_set]; omega) | (rw [List.length_replicate]; omega) | (simp; omega))) rfl ?_
            refine sq_v rfl (v_loadI  4 ty_3 rfl rfl r2' (by first | omega | (simp only [List.length_cons, List.length_nil]; omega) | (simp only [List.length_append, List.length_cons, List.length_nil]; omega) | (rw [List.length_set]; omega) | (rw [List.length_replicate]; omega) | (simp; omega))) rfl ?_
            refine sq_v rfl (v_idxI Tryz.underlying25 ty_3 rfl rfl q.toR (by first | omega | (simp only [List.length_cons, List.length_nil]; omega) | (simp only [List.length_append, List.length_cons, List.length_nil]; omega) | (rw [List.length_set]; omega) | (rw [List.length_replicate]; omega) | (simp; omega)) (by first | omega | (simp only [List.length_cons, List.length_nil]; omega) | (simp only [List.length_append, List.length_cons, List.length_nil]; omega) | (rw [List.length_set]; omega) | (rw [List.length_replicate]; omega) | (simp; omega))) rfl ?_
            refine sq_m 0 rfl rfl (m_storeI (k := i) 0 ty_3 rfl rfl rfl q (by first | omega | (simp only [List.length_cons, List.length_nil]; omega) | (simp only [List.length_append, List.length_cons, List.length_nil]; omega) | (rw [List.length_set]; omega) | (rw [List.length_replicate]; omega) | (simp; omega))) rfl ?_; rintro _ h_q11_8 ⟨rfl, q11_8⟩
            refine sq_end ?_
            refine qs_bn ?_
            refine qs_n ?_
            refine wp_sq ?_
            refine sq_v rfl (v_add rfl rfl ((by unfold I64; omega))) rfl ?_
            refine sq_v rfl (v_move rfl) rfl ?_
            refine sq_end ?_
            exfalso; omega
      · refine rj_v rfl rfl (v_move rfl) rfl ?_
        refine rj_s rfl rfl rfl ?_
        refine rj_s rfl rfl rfl ?_
        refine rj_s rfl rfl rfl ?_
        refine rj_s rfl rfl rfl ?_
        refine rj_s rfl rfl rfl ?_
        refine rj_s rfl rfl rfl ?_
        refine rj_s rfl rfl rfl ?_
        refine rj_s rfl rfl rfl ?_
        refine rj_s rfl rfl rfl ?_
        refine rj_s rfl rfl rfl ?_
        refine rj_s rfl rfl rfl ?_
        refine rj_v rfl rfl (v_pickf rfl rfl) rfl ?_
        refine rj_end ?_
        refine qs_n ?_
        refine wp_cf rfl ?_
        refine wp_sk ?_
        refine qs_n ?_
        refine wp_sc ?_
        refine wp_sq ?_
        refine sq_v rfl (v_move rfl) rfl ?_
        refine sq_v rfl (v_geq rfl rfl) rfl ?_
        refine sq_end ?_
        refine qs_n ?_
        refine wp_cd rfl (fun c54 => ?_) (fun c54 => ?_)
        · refine wp_sq ?_
          refine sq_v rfl (v_move rfl) rfl ?_
          refine sq_v rfl (v_move rfl) rfl ?_
          refine sq_v rfl (v_fieldAddr fd_44_1 ty_25 (by decide) rfl) rfl ?_
          refine sq_v rfl (v_loadB 3 ty_25 rfl rfl rfl) rfl ?_
          refine sq_v rfl (v_move rfl) rfl ?_
          refine sq_v rfl (v_idxI Tryz.underlying25 ty_3 rfl rfl r2 (by first | omega | (simp only [List.length_cons, List.length_nil]; omega) | (simp only [List.length_append, List.length_cons, List.length_nil]; omega) | (rw [List.length_set]; omega) | (rw [List.length_replicate]; omega) | (simp; omega)) (by first | omega | (simp only [List.length_cons, List.length_nil]; omega) | (simp only [List.length_append, List.length_cons, List.length_nil]; omega) | (rw [List.length_set]; omega) | (rw [List.length_replicate]; omega) | (simp; omega))) rfl ?_
          refine sq_v rfl (v_loadI  4 ty_3 rfl rfl r2 (by first | omega | (simp only [List.length_cons, List.length_nil]; omega) | (simp only [List.length_append, List.length_cons, List.length_nil]; omega) | (rw [List.length_set]; omega) | (rw [List.length_replicate]; omega) | (simp; omega))) rfl ?_
          refine sq_v rfl (v_idxI Tryz.underlying25 ty_3 rfl rfl q.toR (by first | omega | (simp only [List.length_cons, List.length_nil]; omega) | (simp only [List.length_append, List.length_cons, List.length_nil]; omega) | (rw [List.length_set]; omega) | (rw [List.length_replicate]; omega) | (simp; omega)) (by first | omega | (simp only [List.length_cons, List.length_nil]; omega) | (simp only [List.length_append, List.length_cons, List.length_nil]; omega) | (rw [List.length_set]; omega) | (rw [List.length_replicate]; omega) | (simp; omega))) rfl ?_
          refine sq_m 0 rfl rfl (m_storeI (k := i) 0 ty_3 rfl rfl rfl q (by first | omega | (simp only [List.length_cons, List.length_nil]; omega) | (simp only [List.length_append, List.length_cons, List.length_nil]; omega) | (rw [List.length_set]; omega) | (rw [List.length_replicate]; omega) | (simp; omega))) rfl ?_; rintro _ h_q10_8 ⟨rfl, q10_8⟩
          refine sq_end ?_
          refine qs_bn ?_
          refine qs_n ?_
          refine wp_sq ?_
          refine sq_v rfl (v_add rfl rfl ((by unfold I64; omega))) rfl ?_
          refine sq_v rfl (v_move rfl) rfl ?_
          refine sq_end ?_
          exact qs_bk (i + 1, h_q10_8) ⟨by (try dsimp only); omega, step_all hm (fun h => c39 (hfg2.2 h.1.2)), by (try dsimp only); rw [← set_prefix (by omega), map_getD (by omega), dimJ_yes (hfg1.1 c35)]; exact q10_8⟩ (by simp only; omega) ⟨rfl, rfl, rfl, rfl, rfl, rfl, rfl, rfl, rfl, (by first | rfl | exact ksub rfl (by first | omega | (simp; done) | (simp; omega))), trivial⟩ (fun _ s => s)
        · refine wp_sq ?_
          refine sq_v rfl (v_move rfl) rfl ?_
          refine sq_v rfl (v_move rfl) rfl ?_
          refine sq_v rfl (v_fieldAddr fd_44_1 ty_25 (by decide) rfl) rfl ?_
          refine sq_v rfl (v_loadB 2 ty_25 rfl rfl rfl) rfl ?_
          have hy0 : 0 ≤ findI u.l (L.getD i 0) := (by first | omega | exact hfg2.2 (hmL.resolve_left fun h => c35 (hfg1.2 h)))
          refine sq_v rfl (v_move rfl) rfl ?_
          refine sq_v rfl (v_idxI Tryz.underlying25 ty_3 rfl rfl r2' (by first | omega | (simp only [List.length_cons, List.length_nil]; omega) | (simp only [List.length_append, List.length_cons, List.length_nil]; omega) | (rw [List.length_set]; omega) | (rw [List.length_replicate]; omega) | (simp; omega)) (by first | omega | (simp only [List.length_cons, List.length_nil]; omega) | (simp only [List.length_append, List.length_cons, List.length_nil]; omega) | (rw [List.length_set]; omega) | (rw [List.length_replicate]; omega) | (simp; omega))) rfl ?_
          refine sq_v rfl (v_loadI  4 ty_3 rfl rfl r2' (by first | omega | (simp only [List.length_cons, List.length_nil]; omega) | (simp only [List.length_append, List.length_cons, List.length_nil]; omega) | (rw [List.length_set]; omega) | (rw [List.length_replicate]; omega) | (simp; omega))) rfl ?_
          refine sq_v rfl (v_idxI Tryz.underlying25 ty_3 rfl rfl q.toR (by first | omega | (simp only [List.length_cons, List.length_nil]; omega) | (simp only [List.length_append, List.length_cons, List.length_nil]; omega) | (rw [List.length_set]; omega) | (rw [List.length_replicate]; omega) | (simp; omega)) (by first | omega | (simp only [List.length_cons, List.length_nil]; omega) | (simp only [List.length_append, List.length_cons, List.length_nil]; omega) | (rw [List.length_set]; omega) | (rw [List.length_replicate]; omega) | (simp; omega))) rfl ?_
          refine sq_m 0 rfl rfl (m_storeI (k := i) 0 ty_3 rfl rfl rfl q (by first | omega | (simp only [List.length_cons, List.length_nil]; omega) | (simp only [List.length_append, List.length_cons, List.length_nil]; omega) | (rw [List.length_set]; omega) | (rw [List.length_replicate]; omega) | (simp; omega))) rfl ?_; rintro _ h_q11_8 ⟨rfl, q11_8⟩
          refine sq_end ?_
          refine qs_bn ?_
          refine qs_n ?_
          refine wp_sq ?_
          refine sq_v rfl (v_add rfl rfl ((by unfold I64; omega))) rfl ?_
          refine sq_v rfl (v_move rfl) rfl ?_
          refine sq_end ?_
          exfalso; omega
    · refine rj_v rfl rfl (v_move rfl) rfl ?_
      refine rj_s rfl rfl rfl ?_
      refine rj_s rfl rfl rfl ?_
      refine rj_v rfl rfl (v_pickf rfl rfl) rfl ?_
      refine rj_v rfl rfl (v_move rfl) rfl ?_
      refine rj_s rfl rfl rfl ?_
      refine rj_s rfl rfl rfl ?_
      refine rj_s rfl rfl rfl ?_
      refine rj_s rfl rfl rfl ?_
      refine rj_s rfl rfl rfl ?_
      refine rj_s rfl rfl rfl ?_
      refine rj_s rfl rfl rfl ?_
      refine rj_s rfl rfl rfl ?_
      refine rj_s rfl rfl rfl ?_
      refine rj_s rfl rfl rfl ?_
      refine rj_s rfl rfl rfl ?_
      refine rj_v rfl rfl (v_pickf rfl rfl) rfl ?_
      refine rj_end ?_
      refine qs_n ?_
      refine wp_cf rfl ?_
      refine wp_sk ?_
      refine qs_n ?_
      refine wp_sc ?_
      refine wp_sq ?_
      refine sq_v rfl (v_move rfl) rfl ?_
      refine sq_v rfl (v_geq rfl rfl) rfl ?_
      refine sq_end ?_
      refine qs_n ?_
      refine wp_cd rfl (fun c54 => ?_) (fun c54 => ?_)
      · refine wp_sq ?_
        refine sq_v rfl (v_move rfl) rfl ?_
        refine sq_v rfl (v_move rfl) rfl ?_
        refine sq_v rfl (v_fieldAddr fd_44_1 ty_25 (by decide) rfl) rfl ?_
        refine sq_v rfl (v_loadB 3 ty_25 rfl rfl rfl) rfl ?_
        refine sq_v rfl (v_move rfl) rfl ?_
        refine sq_v rfl (v_idxI Tryz.underlying25 ty_3 rfl rfl r2 (by first | omega | (simp only [List.length_cons, List.length_nil]; omega) | (simp only [List.length_append, List.length_cons, List.length_nil]; omega) | (rw [List.length_set]; omega) | (rw [List.length_replicate]; omega) | (simp; omega)) (by first | omega | (simp only [List.length_cons, List.length_nil]; omega) | (simp only [List.length_append, List.length_cons, List.length_nil]; omega) | (rw [List.length_set]; omega) | (rw [List.length_replicate]; omega) | (simp; omega))) rfl ?_
        refine sq_v rfl (v_loadI  4 ty_3 rfl rfl r2 (by first | omega | (simp only [List.length_cons, List.length_nil]; omega) | (simp only [List.length_append, List.length_cons, List.length_nil]; omega) | (rw [List.length_set]; omega) | (rw [List.length_replicate]; omega) | (simp; omega))) rfl ?_
        refine sq_v rfl (v_idxI Tryz.underlying25 ty_3 rfl rfl q.toR (by first | omega | (simp only [List.length_cons, List.length_nil]; omega) | (simp only [List.length_append, List.length_cons, List.length_nil]; omega) | (rw [List.length_set]; omega) | (rw [List.length_replicate]; omega) | (simp; omega)) (by first | omega | (simp only [List.length_cons, List.length_nil]; omega) | (simp only [List.length_append, List.length_cons, List.length_nil]; omega) | (rw [List.length_set]; omega) | (rw [List.length_replicate]; omega) | (simp; omega))) rfl ?_
        refine sq_m 0 rfl rfl (m_storeI (k := i) 0 ty_3 rfl rfl rfl q (by first | omega | (simp only [List.length_cons, List.length_nil]; omega) | (simp only [List.length_append, List.length_cons, List.length_nil]; omega) | (rw [List.length_set]; omega) | (rw [List.length_replicate]; omega) | (simp; omega))) rfl ?_; rintro _ h_q10_8 ⟨rfl, q10_8⟩
        refine sq_end ?_
        refine qs_bn ?_
        refine qs_n ?_
        refine wp_sq ?_
        refine sq_v rfl (v_add rfl rfl ((by unfold I64; omega))) rfl ?_
        refine sq_v rfl (v_move rfl) rfl ?_
        refine sq_end ?_
        exfalso; omega
      · refine wp_sq ?_
        refine sq_v rfl (v_move rfl) rfl ?_
        refine sq_v rfl (v_move rfl) rfl ?_
        refine sq_v rfl (v_fieldAddr fd_44_1 ty_25 (by decide) rfl) rfl ?_
        refine sq_v rfl (v_loadB 2 ty_25 rfl rfl rfl) rfl ?_
        have hy0 : 0 ≤ findI u.l (L.getD i 0) := (by first | omega | exact hfg2.2 (hmL.resolve_left fun h => c35 (hfg1.2 h)))
        refine sq_v rfl (v_move rfl) rfl ?_
        refine sq_v rfl (v_idxI Tryz.underlying25 ty_3 rfl rfl r2' (by first | omega | (simp only [List.length_cons, List.length_nil]; omega) | (simp only [List.length_append, List.length_cons, List.length_nil]; omega) | (rw [List.length_set]; omega) | (rw [List.length_replicate]; omega) | (simp; omega)) (by first | omega | (simp only [List.length_cons, List.length_nil]; omega) | (simp only [List.length_append, List.length_cons, List.length_nil]; omega) | (rw [List.length_set]; omega) | (rw [List.length_replicate]; omega) | (simp; omega))) rfl ?_
        refine sq_v rfl (v_loadI  4 ty_3 rfl rfl r2' (by first | omega | (simp only [List.length_cons, List.length_nil]; omega) | (simp only [List.length_append, List.length_cons, List.length_nil]; omega) | (rw [List.length_set]; omega) | (rw [List.length_replicate]; omega) | (simp; omega))) rfl ?_
        refine sq_v rfl (v_idxI Tryz.underlying25 ty_3 rfl rfl q.toR (by first | omega | (simp only [List.length_cons, List.length_nil]; omega) | (simp only [List.length_append, List.length_cons, List.length_nil]; omega) | (rw [List.length_set]; omega) | (rw [List.length_replicate]; omega) | (simp; omega)) (by first | omega | (simp only [List.length_cons, List.length_nil]; omega) | (simp only [List.length_append, List.length_cons, List.length_nil]; omega) | (rw [List.length_set]; omega) | (rw [List.length_replicate]; omega) | (simp; omega))) rfl ?_
        refine sq_m 0 rfl rfl (m_storeI (k := i) 0 ty_3 rfl rfl rfl q (by first | omega | (simp only [List.length_cons, List.length_nil]; omega) | (simp only [List.length_append, List.length_cons, List.length_nil]; omega) | (rw [List.length_set]; omega) | (rw [List.length_replicate]; omega) | (simp; omega))) rfl ?_; rintro _ h_q11_8 ⟨rfl, q11_8⟩
        refine sq_end ?_
        refine qs_bn ?_
        refine qs_n ?_
        refine wp_sq ?_
        refine sq_v rfl (v_add rfl rfl ((by unfold I64; omega))) rfl ?_
        refine sq_v rfl (v_move rfl) rfl ?_
        refine sq_end ?_
        exact qs_bk (i + 1, h_q11_8) ⟨by (try dsimp only); omega, step_all hm (fun h => c35 (hfg1.2 h.1.1)), by (try dsimp only); rw [← set_prefix (by omega), map_getD (by omega), dimJ_no (fun h => c35 (hfg1.2 h))]; exact q11_8⟩ (by simp only; omega) ⟨rfl, rfl, rfl, rfl, rfl, rfl, rfl, rfl, rfl, (by first | rfl | exact ksub rfl (by first | omega | (simp; done) | (simp; omega))), trivial⟩ (fun _ s => s)
  · refine wp_ex ?_
    refine qs_x ?_
    refine qs_x ?_
    refine qs_bx ?_
    refine qs_n ?_
    refine wp_sc ?_
    refine wp_sq ?_
    refine sq_v rfl (v_move rfl) rfl ?_
    refine sq_v rfl (v_move rfl) rfl ?_
    refine sq_v rfl (v_assign rfl) rfl ?_
    refine sq_v rfl (v_assign rfl) rfl ?_
    refine sq_v rfl (v_assign rfl) rfl ?_
    refine sq_end ?_
    refine qs_n ?_
    refine wp_rt ?_
    refine qs_close [hp w] [h17, g] (fun _ s => s.pick [4, 1, 0] (by decide) rfl) (fun md => ?_)
    have hnm : ¬ mism t u := mism_none hn (by rw [← hL]; exact fun j hj => hm j (by omega))
    have e1 : joinD t u = L.map (dimJ t u) := by rw [hL]; exact joinD_map (dimJ_l htn ht) (dimJ_r hn hu hnm)
    rw [List.take_of_length_le (by rw [List.length_map]; omega), show (L.map (dimJ t u)).length - i = 0 by rw [List.length_map]; omega, List.replicate_zero, List.append_nil] at q
    exact qs_ret3 rfl rfl rfl rfl (fin_t 0 (i := 1) rfl rfl rfl ⟨fun h => absurd h hnm, fun _ => ⟨_, _, rfl, by rw [← hL]; exact r17.toR.mono (md.le h17 (by simp)), by rw [e1]; exact q.toR.mono (md.le g (by simp))⟩⟩)
set_option maxHeartbeats 1000000 in
theorem ct_i_fillTensor (k p n : Int) (ls ds xs : List Int) (a b c : Value) (w : World) (r1 : IntsR ls a (hp w)) (r2 : IntsR ds b (hp w)) (r3 : IntsR xs c (hp w)) (hd : dimsIn ds) (hp1 : prodI ds ≤ 4096) (hx : xs.length ≤ 6) (hl : ls.length ≤ 12) (hdl : ds.length ≤ 12) :
    Calls Tryz.prog 86 [ringV k p n, a, b, c].toArray w (Ret w emp (TenT ⟨ls, ds, (List.replicate (prodI ds).toNat xs).flatten⟩)) := by
  have hp0 := prodI_one fun d h => (dims_mem hd d h).1
  have hm6 : 0 ≤ prodI ds * xs.length ∧ prodI ds * xs.length ≤ 24576 := ⟨Int.mul_nonneg (by omega) (by omega), by have : prodI ds * xs.length ≤ 4096 * 6 := Int.mul_le_mul hp1 (by omega) (by omega) (by omega); omega⟩
  refine calls_in Tryz.func86 rfl Tryz.ntmps86 rfl (Sat.start w) ?_
  have hle0 := r1.le
  have hle1 := r2.le
  have hle2 := r3.le
  refine wp_sc ?_
  refine wp_sq ?_
  refine sq_x rfl (x_box rfl rfl) rfl ?_; rintro _ _ ⟨b4, rfl, rfl⟩
  refine sq_x rfl (x_alloc ty_44 rfl) rfl ?_; rintro _ _ ⟨b8, rfl, rfl⟩
  refine sq_end ?_
  refine qs_n ?_
  refine wp_sc ?_
  refine wp_sq ?_
  refine sq_v rfl (v_move rfl) rfl ?_
  refine sq_x rfl (x_call rfl en_115 (fun w s => ct_i_copyInts _ _ w (r1.mono (s.get 2 rfl)) (by first | assumption | omega))) rfl ?_; rintro v13 h13 r13
  refine sq_v rfl (v_move rfl) rfl ?_
  refine sq_x rfl (x_call rfl en_115 (fun w s => ct_i_copyInts _ _ w (r2.mono (s.get 3 rfl)) (by first | assumption | omega))) rfl ?_; rintro v15 h15 r15
  refine sq_v rfl (v_build [v13, v15, .slice none 0 0] rfl (by obtain ⟨_, _, rfl⟩ := r13.toR.sl; obtain ⟨_, _, rfl⟩ := r15.toR.sl; kernel_rfl)) rfl ?_
  refine sq_x rfl (x_alloc ty_44 rfl) rfl ?_; rintro _ _ ⟨b9, rfl, rfl⟩
  refine sq_m 0 rfl rfl (m_store 0 ty_44 rfl rfl rfl rfl (by simp [r13.toR.sl.one, r15.toR.sl.one, one_sl]) rfl (Nat.le_of_ble_eq_true rfl)) rfl ?_; rintro _ _ ⟨rfl, rfl⟩
  refine sq_end ?_
  refine qs_n ?_
  refine wp_sc ?_
  refine wp_sq ?_
  refine sq_v rfl (v_move rfl) rfl ?_
  refine sq_u rfl (x_callv rfl en_138 (fun w s => ct_i_productOf _ _ w (r2.mono (s.get 5 rfl)) (by first | assumption | omega) (by first | assumption | omega))) rfl ?_
  refine sq_v rfl (v_assign rfl) rfl ?_
  refine sq_end ?_
  refine qs_n ?_
  refine wp_sc ?_
  refine wp_sq ?_
  refine sq_v rfl (v_move rfl) rfl ?_
  refine sq_v rfl (v_move rfl) rfl ?_
  refine sq_v rfl (v_len Tryz.underlying25 rfl r3.sl) rfl ?_
  refine sq_v rfl (v_mul rfl rfl ((by unfold I64; omega))) rfl ?_
  refine sq_x rfl (x_make0I Tryz.underlying25 ty_3 rfl rfl (by first | omega | (simp only [List.length_cons, List.length_nil]; omega) | (simp only [List.length_append, List.length_cons, List.length_nil]; omega) | (rw [List.length_set]; omega) | (rw [List.length_replicate]; omega) | (simp; omega)) (by first | omega | (simp only [List.length_cons, List.length_nil]; omega) | (simp only [List.length_append, List.length_cons, List.length_nil]; omega) | (rw [List.length_set]; omega) | (rw [List.length_replicate]; omega) | (simp; omega)) (by first | omega | (simp only [List.length_cons, List.length_nil]; omega) | (simp only [List.length_append, List.length_cons, List.length_nil]; omega) | (rw [List.length_set]; omega) | (rw [List.length_replicate]; omega) | (simp; omega))) rfl ?_; intro v23 h23 r23
  refine sq_v rfl (v_fieldAddr fd_44_2 ty_25 (by decide) rfl) rfl ?_
  refine sq_m 1 rfl rfl (m_store1 1 ty_25 rfl rfl r23.toR.sl.one rfl (Nat.le_of_ble_eq_true rfl)) rfl ?_; rintro _ _ ⟨rfl, rfl⟩
  refine sq_end ?_
  refine qs_n ?_
  refine wp_sc ?_
  refine wp_sc ?_
  refine wp_sq ?_
  refine sq_v rfl (v_assign rfl) rfl ?_
  refine sq_end ?_
  refine qs_n ?_
  refine wp_bl ?_
  refine wp_lp (σ := Nat × Value × PH) (fun z_ => [(3, c), (8, .pointer (some ⟨b8, 0, none⟩)), (9, .pointer (some ⟨b9, 0, none⟩)), (10, num (prodI ds)), (11, num z_.1)]) (fun z_ => [z_.2.2, box b9 [v13, v15, z_.2.1] 44, h15, h13, box b8 [.slice none 0 0, .slice none 0 0, .slice none 0 0] 44, box b4 [num k, num p, num n] 31, hp w]) (fun z_ => z_.1 ≤ (prodI ds).toNat ∧ IntsO ((List.replicate z_.1 xs).flatten) z_.2.1 z_.2.2) (fun z_ => (prodI ds).toNat - z_.1) (0, v23, h23) (⟨by (try dsimp only); omega, by (try dsimp only); simpa using r23⟩) ⟨rfl, rfl, rfl, rfl, (by first | rfl | exact ksub rfl (by first | omega | (simp; done) | (simp; omega))), trivial⟩ (fun _ s => s) ?_
  rintro ⟨i, v, g⟩ ⟨hi, q⟩
  dsimp only at hi q ⊢
  have hle_q := q.toR.le
  have hfl := flat_rep_len xs i
  have hfb : i * xs.length ≤ 4096 * 6 := Nat.mul_le_mul (by omega) hx
  refine wp_sc ?_
  refine wp_sc ?_
  refine wp_sq ?_
  refine sq_v rfl (v_move rfl) rfl ?_
  refine sq_v rfl (v_move rfl) rfl ?_
  refine sq_v rfl (v_lss rfl rfl) rfl ?_
  refine sq_end ?_
  refine qs_n ?_
  refine wp_cd rfl (fun c27 => ?_) (fun c27 => ?_)
  · refine wp_sk ?_
    refine qs_n ?_
    refine wp_sc ?_
    refine wp_bl ?_
    refine wp_sq ?_
    refine sq_v rfl (v_fieldAddr fd_44_2 ty_25 (by decide) rfl) rfl ?_
    refine sq_v rfl (v_loadB 1 ty_25 rfl rfl rfl) rfl ?_
    refine sq_v rfl (v_move rfl) rfl ?_
    refine sq_m 0 rfl rfl (m_appI 0 6 Tryz.underlying25 ty_3 rfl rfl rfl rfl q rfl r3 (by first | omega | (simp only [List.length_cons, List.length_nil]; omega) | (simp only [List.length_append, List.length_cons, List.length_nil]; omega) | (rw [List.length_set]; omega) | (rw [List.length_replicate]; omega) | (simp; omega))) rfl ?_; intro v33 h_r33 r33
    refine sq_v rfl (v_fieldAddr fd_44_2 ty_25 (by decide) rfl) rfl ?_
    refine sq_m 1 rfl rfl (m_store1 1 ty_25 rfl rfl r33.toR.sl.one rfl (Nat.le_of_ble_eq_true rfl)) rfl ?_; rintro _ _ ⟨rfl, rfl⟩
    refine sq_end ?_
    refine qs_bn ?_
    refine qs_n ?_
    refine wp_sq ?_
    refine sq_v rfl (v_move rfl) rfl ?_
    refine sq_v rfl (v_add rfl rfl ((by unfold I64; omega))) rfl ?_
    refine sq_v rfl (v_assign rfl) rfl ?_
    refine sq_end ?_
    exact qs_bk (i + 1, v33, h_r33) ⟨by (try dsimp only); omega, by (try dsimp only); rw [flat_rep_succ]; exact r33⟩ (by simp only; omega) ⟨rfl, rfl, rfl, rfl, (by first | rfl | exact ksub rfl (by first | omega | (simp; done) | (simp; omega))), trivial⟩ (fun _ s => s)
  · refine wp_ex ?_
    refine qs_x ?_
    refine qs_x ?_
    refine qs_bx ?_
    refine qs_n ?_
    refine wp_sc ?_
    refine wp_sq ?_
    refine sq_v rfl (v_loadNB 1 ty_44 rfl rfl rfl rfl) rfl ?_
    refine sq_m 4 rfl rfl (m_store 4 ty_44 rfl rfl rfl rfl (by simp [r13.toR.sl.one, r15.toR.sl.one, q.toR.sl.one]) rfl (Nat.le_of_ble_eq_true rfl)) rfl ?_; rintro _ _ ⟨rfl, rfl⟩
    refine sq_end ?_
    refine qs_n ?_
    refine wp_rt ?_
    refine qs_close [box b8 _ _, hp w] [h13, h15, g] (fun _ s => s.pick [4, 6, 3, 2, 0] (by decide) rfl) (fun md => ?_)
    exact qs_retc 1 rfl ty_44 rfl rfl rfl (fin_t 0 (i := 2) rfl rfl rfl ⟨_, _, _, rfl, _, _, _, r13, r15, (by rw [show (prodI ds).toNat = i by omega]; exact q), md⟩)
set_option maxHeartbeats 1000000 in
theorem ct_s_l05Zero (k p n : Int) (ls ds : List Int) (a b : Value) (w : World) (hr : ringL k p n) (r1 : IntsR ls a (hp w)) (r2 : IntsR ds b (hp w)) (hd : dimsIn ds) (hp1 : prodI ds ≤ 4096) (hl : ls.length ≤ 12) (hdl : ds.length ≤ 12) :
    Calls Tryz.prog 133 [ringV k p n, a, b].toArray w (Ret w emp (TenT ⟨ls, ds, (List.replicate (prodI ds).toNat (zeroL k p n)).flatten⟩)) := by
  have hp0 := prodI_one fun d h => (dims_mem hd d h).1
  have hwr := width_range hr
  have hzl := zeroL_len k p n
  refine calls_in Tryz.func133 rfl Tryz.ntmps133 rfl (Sat.start w) ?_
  have hle0 := r1.le
  have hle1 := r2.le
  refine wp_sc ?_
  refine wp_sq ?_
  refine sq_x rfl (x_box rfl rfl) rfl ?_; rintro _ _ ⟨b3, rfl, rfl⟩
  refine sq_x rfl (x_alloc ty_44 rfl) rfl ?_; rintro _ _ ⟨b6, rfl, rfl⟩
  refine sq_end ?_
  refine qs_n ?_
  refine wp_sc ?_
  refine wp_sq ?_
  refine sq_v rfl (v_move rfl) rfl ?_
  refine sq_x rfl (x_call rfl en_106 (fun w s => ct_s_l05Ints _ _ w (r1.mono (s.get 2 rfl)) (by first | assumption | omega))) rfl ?_; rintro v10 h10 r10
  refine sq_v rfl (v_move rfl) rfl ?_
  refine sq_x rfl (x_call rfl en_106 (fun w s => ct_s_l05Ints _ _ w (r2.mono (s.get 3 rfl)) (by first | assumption | omega))) rfl ?_; rintro v12 h12 r12
  refine sq_v rfl (v_build [v10, v12, .slice none 0 0] rfl (by obtain ⟨_, _, rfl⟩ := r10.toR.sl; obtain ⟨_, _, rfl⟩ := r12.toR.sl; kernel_rfl)) rfl ?_
  refine sq_x rfl (x_alloc ty_44 rfl) rfl ?_; rintro _ _ ⟨b7, rfl, rfl⟩
  refine sq_m 0 rfl rfl (m_store 0 ty_44 rfl rfl rfl rfl (by simp [r10.toR.sl.one, r12.toR.sl.one, one_sl]) rfl (Nat.le_of_ble_eq_true rfl)) rfl ?_; rintro _ _ ⟨rfl, rfl⟩
  refine sq_end ?_
  refine qs_n ?_
  refine wp_sc ?_
  refine wp_sc ?_
  refine wp_sq ?_
  refine sq_v rfl (v_move rfl) rfl ?_
  refine sq_u rfl (x_callv rfl en_134 (fun w s => ct_s_l05Product _ _ _ w (r2.mono (s.get 5 rfl)) (by first | assumption | omega) (by first | assumption | omega))) rfl ?_
  refine sq_v rfl (v_assign rfl) rfl ?_
  refine sq_end ?_
  refine qs_n ?_
  refine wp_bl ?_
  refine wp_lp (σ := Nat × Value × PH) (fun z_ => [(3, .pointer (some ⟨b3, 0, none⟩)), (6, .pointer (some ⟨b6, 0, none⟩)), (7, .pointer (some ⟨b7, 0, none⟩)), (8, num (prodI ds - z_.1))]) (fun z_ => [z_.2.2, box b7 [v10, v12, z_.2.1] 44, h12, h10, box b6 [.slice none 0 0, .slice none 0 0, .slice none 0 0] 44, box b3 [num k, num p, num n] 31, hp w]) (fun z_ => z_.1 ≤ (prodI ds).toNat ∧ IntsO ((List.replicate z_.1 (zeroL k p n)).flatten) z_.2.1 z_.2.2) (fun z_ => (prodI ds).toNat - z_.1) (0, .slice none 0 0, emp) (⟨by (try dsimp only); omega, by (try dsimp only); simpa using IntsO.nil⟩) ⟨rfl, rfl, rfl, (by first | rfl | exact ksub rfl (by first | omega | (simp; done) | (simp; omega))), trivial⟩ (fun _ s => (emp_sat s)) ?_
  rintro ⟨i, v, g⟩ ⟨hi, q⟩
  dsimp only at hi q ⊢
  have hle_q := q.toR.le
  have hfl := flat_rep_len (zeroL k p n) i
  have hfb : i * (zeroL k p n).length ≤ 4096 * 6 := Nat.mul_le_mul (by omega) (by omega)
  refine wp_sc ?_
  refine wp_sc ?_
  refine wp_sq ?_
  refine sq_v rfl (v_move rfl) rfl ?_
  refine sq_v rfl (v_gtr rfl rfl) rfl ?_
  refine sq_end ?_
  refine qs_n ?_
  refine wp_cd rfl (fun c17 => ?_) (fun c17 => ?_)
  · refine wp_sk ?_
    refine qs_n ?_
    refine wp_sc ?_
    refine wp_bl ?_
    refine wp_rj 4 [(0, true), (1, true), (2, true), (3, false), (4, false), (5, false), (6, false)] mixed_ok (by kernel_rfl) ?_
    refine rj_v rfl rfl (v_fieldAddr fd_44_2 ty_25 (by decide) rfl) rfl ?_
    refine rj_v rfl rfl (v_loadB 1 ty_25 rfl rfl rfl) rfl ?_
    refine rj_v rfl rfl (v_loadNB 5 ty_31 rfl rfl rfl rfl) rfl ?_
    refine rj_x rfl rfl (x_call rfl en_143 (fun w s => ct_s_l02Zero _ _ _ w (by first | assumption | omega))) rfl ?_; rintro v23 h23 r23
    refine rj_m 1 rfl rfl rfl rfl (m_appI 1 0 Tryz.underlying25 ty_3 rfl rfl rfl rfl q rfl r23.toR (by first | omega | (simp only [List.length_cons, List.length_nil]; omega) | (simp only [List.length_append, List.length_cons, List.length_nil]; omega) | (rw [List.length_set]; omega) | (rw [List.length_replicate]; omega) | (simp; omega))) rfl ?_; intro v24 h_r24 r24
    refine rj_fv rfl rfl (v_fieldAddr fd_44_2 ty_25 (by decide) rfl) rfl ?_
    refine rj_m 2 rfl rfl rfl rfl (m_store1 2 ty_25 rfl rfl r24.toR.sl.one rfl (Nat.le_of_ble_eq_true rfl)) rfl ?_; rintro _ _ ⟨rfl, rfl⟩
    refine rj_end ?_
    refine qs_bn ?_
    refine qs_n ?_
    refine wp_sq ?_
    refine sq_v rfl (v_move rfl) rfl ?_
    refine sq_v rfl (v_sub rfl rfl ((by unfold I64; omega))) rfl ?_
    refine sq_v rfl (v_assign rfl) rfl ?_
    refine sq_end ?_
    exact qs_bk (i + 1, v24, h_r24) ⟨by (try dsimp only); omega, by (try dsimp only); rw [flat_rep_succ]; exact r24⟩ (by simp only; omega) ⟨rfl, rfl, rfl, (by first | rfl | exact ksub rfl (by first | omega | (simp; done) | (simp; omega))), trivial⟩ (fun _ s => s.pick [1, 2, 3, 4, 5, 6, 7] (by decide) rfl)
  · refine wp_ex ?_
    refine qs_x ?_
    refine qs_x ?_
    refine qs_bx ?_
    refine qs_n ?_
    refine wp_sc ?_
    refine wp_sq ?_
    refine sq_v rfl (v_loadNB 1 ty_44 rfl rfl rfl rfl) rfl ?_
    refine sq_m 4 rfl rfl (m_store 4 ty_44 rfl rfl rfl rfl (by simp [r10.toR.sl.one, r12.toR.sl.one, q.toR.sl.one]) rfl (Nat.le_of_ble_eq_true rfl)) rfl ?_; rintro _ _ ⟨rfl, rfl⟩
    refine sq_end ?_
    refine qs_n ?_
    refine wp_rt ?_
    refine qs_close [box b6 _ _, hp w] [h10, h12, g] (fun _ s => s.pick [4, 6, 3, 2, 0] (by decide) rfl) (fun md => ?_)
    exact qs_retc 1 rfl ty_44 rfl rfl rfl (fin_t 0 (i := 2) rfl rfl rfl ⟨_, _, _, rfl, _, _, _, r10, r12, (by rw [show (prodI ds).toNat = i by omega]; exact q), md⟩)
theorem ct_s_l05Put (k p n i : Int) (ls ds xs ys : List Int) (a b c v : Value) (w : World) (h : PH) (hr : ringL k p n) (hle : PLe h (hp w)) (ra : IntsR ls a (restP w h)) (rb : IntsR ds b (restP w h)) (rx : IntsO xs c h) (ry : IntsR ys v (restP w h)) (hy : ys.length = (widthI k n).toNat) (hi : 0 ≤ i) (hl : i * widthI k n + widthI k n ≤ xs.length) (hs : xs.length ≤ 1000000) :
    Calls Tryz.prog 135 [ringV k p n, tenV a b c, num i, v].toArray w (Ret w h (fun _ h' => IntsO (putL xs (i * widthI k n).toNat ys) c h')) := by
  have hwr := width_range hr
  have hm0 := Int.mul_nonneg hi (show 0 ≤ widthI k n by omega)
  have hE : ((xs.drop (i * widthI k n).toNat).take ys.length).length = ys.length := by simp; omega
  obtain ⟨E, hEe⟩ : ∃ E, E = (xs.drop (i * widthI k n).toNat).take ys.length := ⟨_, rfl⟩
  have hps := putL_self (xs := xs) (lo := (i * widthI k n).toNat) (m := ys.length) (by omega)
  rw [← hEe] at hE hps
  refine calls_in Tryz.func135 rfl Tryz.ntmps135 rfl (Sat.start2 hle) ?_
  have hle0 := ra.le
  have hle1 := rb.le
  have hle2 := rx.toR.le
  have hle3 := ry.le
  refine wp_sc ?_
  refine wp_sq ?_
  refine sq_x rfl (x_box rfl rfl) rfl ?_; rintro _ _ ⟨b4, rfl, rfl⟩
  refine sq_x rfl (x_box rfl rfl) rfl ?_; rintro _ _ ⟨b5, rfl, rfl⟩
  refine sq_end ?_
  refine qs_n ?_
  refine wp_sc ?_
  refine wp_sq ?_
  refine sq_v rfl (v_loadNB 1 ty_31 rfl rfl rfl rfl) rfl ?_
  refine sq_u rfl (x_callv rfl en_116 (fun w s => ct_s_l02Width _ _ _ w)) rfl ?_
  refine sq_v rfl (v_assign rfl) rfl ?_
  refine sq_end ?_
  refine qs_n ?_
  refine wp_sc ?_
  refine wp_sq ?_
  refine sq_v rfl (v_move rfl) rfl ?_
  refine sq_v rfl (v_len Tryz.underlying25 rfl ry.sl) rfl ?_
  refine sq_v rfl (v_move rfl) rfl ?_
  refine sq_end ?_
  refine qs_n ?_
  refine wp_bl ?_
  refine wp_lp (σ := Nat × PH) (fun z_ => [(2, num i), (3, v), (5, .pointer (some ⟨b5, 0, none⟩)), (8, num (widthI k n)), (13, num ys.length), (14, num z_.1)]) (fun z_ => [box b5 [a, b, c] 44, box b4 [num k, num p, num n] 31, z_.2, (restP w h)]) (fun z_ => z_.1 ≤ ys.length ∧ IntsO (putL xs (i * widthI k n).toNat (mixL ys E z_.1)) c z_.2) (fun z_ => ys.length - z_.1) (0, h) (⟨by (try dsimp only); omega, by (try dsimp only); rw [mix_zero, hps]; exact rx⟩) ⟨rfl, rfl, rfl, rfl, rfl, (by first | rfl | exact ksub rfl (by first | omega | (simp; done) | (simp; omega))), trivial⟩ (fun _ s => s) ?_
  rintro ⟨j, g⟩ ⟨hj, q⟩
  dsimp only at hj q ⊢
  have hle_q := q.toR.le
  have hml := mix_len (A := ys) (B := E) (k := j) (by omega) (by omega)
  have hpl := putL_len (xs := xs) (ys := mixL ys E j) (lo := (i * widthI k n).toNat) (by omega)
  refine wp_sc ?_
  refine wp_sq ?_
  refine sq_v rfl (v_lss rfl rfl) rfl ?_
  refine sq_end ?_
  refine qs_n ?_
  refine wp_sc ?_
  refine wp_cd rfl (fun c15 => ?_) (fun c15 => ?_)
  · refine wp_sk ?_
    refine qs_n ?_
    refine wp_sc ?_
    refine wp_bl ?_
    refine wp_sc ?_
    refine wp_sq ?_
    refine sq_v rfl (v_move rfl) rfl ?_
    refine sq_v rfl (v_assign rfl) rfl ?_
    refine sq_end ?_
    refine qs_n ?_
    refine wp_rj 12 [(0, true), (1, true), (2, true), (3, true), (4, true), (5, true), (6, true), (7, true), (8, true), (9, true), (10, true), (11, true), (12, false)] mixed_ok (by kernel_rfl) ?_
    refine rj_v rfl rfl (v_fieldAddr fd_44_2 ty_25 (by decide) rfl) rfl ?_
    refine rj_v rfl rfl (v_loadB 0 ty_25 rfl rfl rfl) rfl ?_
    refine rj_v rfl rfl (v_move rfl) rfl ?_
    refine rj_v rfl rfl (v_move rfl) rfl ?_
    refine rj_v rfl rfl (v_mul rfl rfl ((by unfold I64; omega))) rfl ?_
    refine rj_v rfl rfl (v_move rfl) rfl ?_
    refine rj_v rfl rfl (v_add rfl rfl ((by unfold I64; omega))) rfl ?_
    refine rj_v rfl rfl (v_move rfl) rfl ?_
    refine rj_v rfl rfl (v_move rfl) rfl ?_
    refine rj_v rfl rfl (v_idxI Tryz.underlying25 ty_3 rfl rfl ry (by first | omega | (simp only [List.length_cons, List.length_nil]; omega) | (simp only [List.length_append, List.length_cons, List.length_nil]; omega) | (rw [List.length_set]; omega) | (rw [List.length_replicate]; omega) | (simp; omega)) (by first | omega | (simp only [List.length_cons, List.length_nil]; omega) | (simp only [List.length_append, List.length_cons, List.length_nil]; omega) | (rw [List.length_set]; omega) | (rw [List.length_replicate]; omega) | (simp; omega))) rfl ?_
    refine rj_v rfl rfl (v_loadI (k := j) 3 ty_3 rfl rfl ry (by first | omega | (simp only [List.length_cons, List.length_nil]; omega) | (simp only [List.length_append, List.length_cons, List.length_nil]; omega) | (rw [List.length_set]; omega) | (rw [List.length_replicate]; omega) | (simp; omega))) rfl ?_
    refine rj_v rfl rfl (v_idxI Tryz.underlying25 ty_3 rfl rfl q.toR (by first | omega | (simp only [List.length_cons, List.length_nil]; omega) | (simp only [List.length_append, List.length_cons, List.length_nil]; omega) | (rw [List.length_set]; omega) | (rw [List.length_replicate]; omega) | (simp; omega)) (by first | omega | (simp only [List.length_cons, List.length_nil]; omega) | (simp only [List.length_append, List.length_cons, List.length_nil]; omega) | (rw [List.length_set]; omega) | (rw [List.length_replicate]; omega) | (simp; omega))) rfl ?_
    refine rj_m 2 rfl rfl rfl rfl (m_storeI 2 ty_3 rfl rfl rfl q (by first | omega | (simp only [List.length_cons, List.length_nil]; omega) | (simp only [List.length_append, List.length_cons, List.length_nil]; omega) | (rw [List.length_set]; omega) | (rw [List.length_replicate]; omega) | (simp; omega))) rfl ?_; rintro _ h_q5_12 ⟨rfl, q5_12⟩
    refine rj_end ?_
    refine qs_bn ?_
    refine qs_n ?_
    refine wp_sq ?_
    refine sq_v rfl (v_add rfl rfl ((by unfold I64; omega))) rfl ?_
    refine sq_v rfl (v_move rfl) rfl ?_
    refine sq_end ?_
    exact qs_bk (j + 1, h_q5_12) ⟨by (try dsimp only); omega, by (try dsimp only); rw [show (i * widthI k n + (j : Int)).toNat = (i * widthI k n).toNat + j by omega, putL_set (by omega) (by omega), mix_set (by omega) (by omega)] at q5_12; exact q5_12⟩ (by simp only; omega) ⟨rfl, rfl, rfl, rfl, rfl, (by first | rfl | exact ksub rfl (by first | omega | (simp; done) | (simp; omega))), trivial⟩ (fun _ s => s)
  · refine wp_ex ?_
    refine qs_x ?_
    refine qs_x ?_
    refine qs_bx ?_
    exact qs_ret0 rfl (fin_m 2 (i := 3) rfl rfl rfl (by rw [mix_end (by omega) (by omega)] at q; exact q))
end Go.Proofs.YtehjljijionhaaaGreat
namespace Go.Proofs.YtehjljijionhaaaGreat
set_option maxRecDepth 100000
open Go.RowKit
set_option maxHeartbeats 8000000 in
theorem ct_s_l08Pair (k p n : Int) (t u : Ten) (f : Int → Int) (K ks : List Int) (a b c a' b' c' v : Value) (w : World) (r1 : IntsR t.l a (hp w)) (r2 : IntsR t.d b (hp w)) (r3 : IntsR t.x c (hp w)) (r1' : IntsR u.l a' (hp w)) (r2' : IntsR u.d b' (hp w)) (r3' : IntsR u.x c' (hp w)) (rk : IntsR ks v (hp w)) (ok : PairOK k p n t u f) (hK : (joinI t.l u.l).filter (fun x => decide (x ∈ ks)) = K) (hk : KeepOK t u f K) (hkr : K.length ≤ 12) :
    Calls Tryz.prog 99 [ringV k p n, tenV a b c, tenV a' b' c', v].toArray w (Ret w emp (TenT (pairT k p n f t u K))) := by
  have hring := ok.tt.1
  have hat := ten_axes ok.tt
  have hau := ten_axes ok.uu
  have htp := ten_prod ok.tt
  have hup := ten_prod ok.uu
  have htl := hat.2.1
  have hul := hau.2.1
  have h12 := hat.1
  have h12' := hau.1
  have hun := axes_nodup hau
  have hKd := map_dim ok.dim hk.sub
  have hKi := map_dims fun x hx => ok.dim x (hk.sub x hx)
  have hKp := hk.small
  have hst := ok.ht
  have hsu := ok.hu
  have hwr := width_range hring
  have hKl : K.length = (K.map f).length := by simp
  obtain ⟨L, hL⟩ : ∃ L, joinI t.l u.l = L := ⟨_, rfl⟩
  obtain ⟨D, hD⟩ : ∃ D, L.map f = D := ⟨_, rfl⟩
  have hjl := joinI_len t.l u.l
  have hnd := ok.nd
  have hDd := map_dim ok.dim (fun _ h => h)
  have hwk := ok.work
  have hmt : ∀ l ∈ t.l, l ∈ joinI t.l u.l := fun l hl => mem_joinI.2 (.inl hl)
  have hmu : ∀ l ∈ u.l, l ∈ joinI t.l u.l := fun l hl => mem_joinI.2 (.inr hl)
  have hmk := hk.sub
  rw [hL] at hjl hnd hDd hwk hmt hmu hmk hK
  rw [hD] at hDd hwk
  have hDi : dimsIn D := fun j hj => hDd _ (mem_getD hj)
  have hD1 : ∀ d ∈ D, 1 ≤ d := fun d hd => (hDd d hd).1
  have hD0 := prodI_one hD1
  have hDl : D.length = L.length := by rw [← hD]; simp
  have hsA := stepsL_len L t.l t.d
  have hsB := stepsL_len L u.l u.d
  have hsC := stepsL_len L K (K.map f)
  have hA : ∀ a ∈ stepsL L t.l t.d, 0 ≤ a ∧ a ≤ 4096 := fun a h => by have := steps_in (fun d hd => (dims_mem (axes_dims hat) d hd).1) a h; omega
  have hB : ∀ a ∈ stepsL L u.l u.d, 0 ≤ a ∧ a ≤ 4096 := fun a h => by have := steps_in (fun d hd => (dims_mem (axes_dims hau) d hd).1) a h; omega
  have hC : ∀ a ∈ stepsL L K (K.map f), 0 ≤ a ∧ a ≤ 4096 := fun a h => by have := steps_in (fun d hd => (hKd d hd).1) a h; omega
  refine calls_in Tryz.func99 rfl Tryz.ntmps99 rfl (Sat.start w) ?_
  have hle0 := r1.le
  have hle1 := r2.le
  have hle2 := r3.le
  have hle3 := r1'.le
  have hle4 := r2'.le
  have hle5 := r3'.le
  have hle6 := rk.le
  refine wp_sc ?_
  refine wp_sq ?_
  refine sq_x rfl (x_box rfl rfl) rfl ?_; rintro _ _ ⟨b4, rfl, rfl⟩
  refine sq_x rfl (x_box rfl rfl) rfl ?_; rintro _ _ ⟨b5, rfl, rfl⟩
  refine sq_x rfl (x_box rfl rfl) rfl ?_; rintro _ _ ⟨b6, rfl, rfl⟩
  refine sq_x rfl (x_alloc ty_44 rfl) rfl ?_; rintro _ _ ⟨b8, rfl, rfl⟩
  refine sq_end ?_
  refine qs_n ?_
  refine wp_sc ?_
  refine wp_sq ?_
  refine sq_v rfl (v_loadNB 2 ty_44 rfl rfl rfl rfl) rfl ?_
  refine sq_v rfl (v_loadNB 1 ty_44 rfl rfl rfl rfl) rfl ?_
  refine sq_x rfl (x_call rfl en_153 (fun w s => ct_u_l08Join f _ _ _ _ _ _ _ _ w (r1.mono (s.get 4 rfl)) (r2.mono (s.get 4 rfl)) (r1'.mono (s.get 4 rfl)) (r2'.mono (s.get 4 rfl)) (by first | assumption | omega) (by first | assumption | omega) (by first | assumption | omega) (by first | assumption | omega))) rfl ?_; rintro _ h27 ⟨v1, v2, rfl, q1, q2⟩
  refine sq_v rfl (v_move rfl) rfl ?_
  refine sq_v rfl (v_extract rfl rfl) rfl ?_
  refine sq_v rfl (v_extract rfl rfl) rfl ?_
  refine sq_v rfl (v_extract rfl rfl) rfl ?_
  refine sq_v rfl (v_assign rfl) rfl ?_
  refine sq_v rfl (v_assign rfl) rfl ?_
  refine sq_v rfl (v_assign rfl) rfl ?_
  refine sq_end ?_
  rw [hL] at q1
  rw [hL, hD] at q2
  refine qs_n ?_
  refine wp_sc ?_
  refine wp_sq ?_
  refine sq_v rfl (v_move rfl) rfl ?_
  refine sq_v rfl (v_move rfl) rfl ?_
  refine sq_v rfl (v_move rfl) rfl ?_
  refine sq_x rfl (x_call rfl en_154 (fun w s => ct_s_l08Keep _ _ _ _ _ _ w (q1.mono (s.get 0 rfl)) (q2.mono (s.get 0 rfl)) (rk.mono (s.get 5 rfl)) (by first | assumption | omega) (by first | assumption | omega))) rfl ?_; rintro _ h34 ⟨k1, k2, g1, g2, rfl, rk1, rk2, mdk⟩
  refine sq_x rfl (x_alloc ty_44 rfl) rfl ?_; rintro _ _ ⟨b12, rfl, rfl⟩
  refine sq_m 0 rfl rfl (m_store 0 ty_44 rfl rfl rfl rfl (by simp [(rk1.toR.mono (mdk.le g1 (by simp))).sl.one, (rk2.toR.mono (mdk.le g2 (by simp))).sl.one, one_sl]) rfl (Nat.le_of_ble_eq_true rfl)) rfl ?_; rintro _ _ ⟨rfl, rfl⟩
  refine sq_end ?_
  rw [hK] at rk1
  rw [← hD, selP_map, hK] at rk2
  refine qs_n ?_
  refine wp_sc ?_
  refine wp_sq ?_
  refine sq_v rfl (v_loadNB 6 ty_31 rfl rfl rfl rfl) rfl ?_
  refine sq_v rfl (v_fieldAddr fd_44_0 ty_25 (by decide) rfl) rfl ?_
  refine sq_v rfl (v_loadB 0 ty_25 rfl rfl rfl) rfl ?_
  refine sq_v rfl (v_fieldAddr fd_44_1 ty_25 (by decide) rfl) rfl ?_
  refine sq_v rfl (v_loadB 0 ty_25 rfl rfl rfl) rfl ?_
  refine sq_x rfl (x_call rfl en_133 (fun w s => ct_s_l05Zero _ _ _ _ _ _ _ w (by first | assumption | omega) ((rk1.toR.mono (mdk.le g1 (by simp))).mono (s.get 1 rfl)) ((rk2.toR.mono (mdk.le g2 (by simp))).mono (s.get 1 rfl)) (by first | assumption | omega) (by first | assumption | omega) (by first | assumption | omega) (by first | assumption | omega))) rfl ?_; rintro _ h40 ⟨va40, vb40, vc40, rfl, o40⟩
  refine sq_m 1 rfl rfl (m_store 1 ty_44 rfl rfl rfl rfl (by simp [o40.toR.1.sl.one, o40.toR.2.1.sl.one, o40.toR.2.2.sl.one]) rfl (Nat.le_of_ble_eq_true rfl)) rfl ?_; rintro _ _ ⟨rfl, rfl⟩
  refine sq_end ?_
  obtain ⟨go1, go2, go3, qo1, qo2, qo3, mdo⟩ := o40
  refine qs_s [box b12 [va40, vb40, vc40] 44, h34, h27, box b8 [.slice none 0 0, .slice none 0 0, .slice none 0 0] 44, box b6 [a', b', c'] 44, box b5 [a, b, c] 44, box b4 [num k, num p, num n] 31, hp w, go1, go2, go3] (fun _ s => Sat.open (A := [box b12 [va40, vb40, vc40] 44, h34, h27, box b8 [.slice none 0 0, .slice none 0 0, .slice none 0 0] 44, box b6 [a', b', c'] 44, box b5 [a, b, c] 44, box b4 [num k, num p, num n] 31, hp w]) mdo (s.pick [0, 1, 2, 3, 4, 5, 6, 7, 8] (by decide) rfl)) ?_
  refine qs_n ?_
  refine wp_sc ?_
  refine wp_sq ?_
  refine sq_v rfl (v_loadNB 5 ty_44 rfl rfl rfl rfl) rfl ?_
  refine sq_v rfl (v_move rfl) rfl ?_
  refine sq_x rfl (x_call rfl en_157 (fun w s => ct_s_l08Steps _ _ _ _ _ _ _ _ w (r1.mono (s.get 7 rfl)) (r2.mono (s.get 7 rfl)) (r3.mono (s.get 7 rfl)) (q1.mono (s.get 2 rfl)) (by first | assumption | omega) (by first | assumption | omega) (dims_mem (axes_dims hat)) (by first | assumption | omega) (by first | assumption | omega) (by first | assumption | omega))) rfl ?_; rintro v43 h43 r43
  refine sq_v rfl (v_assign rfl) rfl ?_
  refine sq_end ?_
  refine qs_n ?_
  refine wp_sc ?_
  refine wp_sq ?_
  refine sq_v rfl (v_loadNB 5 ty_44 rfl rfl rfl rfl) rfl ?_
  refine sq_v rfl (v_move rfl) rfl ?_
  refine sq_x rfl (x_call rfl en_157 (fun w s => ct_s_l08Steps _ _ _ _ _ _ _ _ w (r1'.mono (s.get 8 rfl)) (r2'.mono (s.get 8 rfl)) (r3'.mono (s.get 8 rfl)) (q1.mono (s.get 3 rfl)) (by first | assumption | omega) (by first | assumption | omega) (dims_mem (axes_dims hau)) (by first | assumption | omega) (by first | assumption | omega) (by first | assumption | omega))) rfl ?_; rintro v46 h46 r46
  refine sq_v rfl (v_assign rfl) rfl ?_
  refine sq_end ?_
  refine qs_n ?_
  refine wp_sc ?_
  refine wp_sq ?_
  refine sq_v rfl (v_loadNB 2 ty_44 rfl rfl rfl rfl) rfl ?_
  refine sq_v rfl (v_move rfl) rfl ?_
  refine sq_x rfl (x_call rfl en_157 (fun w s => ct_s_l08Steps K (K.map f) _ _ _ _ _ _ w (qo1.toR.mono (s.get 10 rfl)) (qo2.toR.mono (s.get 11 rfl)) (qo3.toR.mono (s.get 12 rfl)) (q1.mono (s.get 4 rfl)) (by first | assumption | omega) (by first | assumption | omega) hKd (by first | assumption | omega) (by first | assumption | omega) (by first | assumption | omega))) rfl ?_; rintro v49 h49 r49
  refine sq_v rfl (v_assign rfl) rfl ?_
  refine sq_end ?_
  refine qs_n ?_
  refine wp_sc ?_
  refine wp_sq ?_
  refine sq_v rfl (v_move rfl) rfl ?_
  refine sq_v rfl (v_len Tryz.underlying25 rfl q1.sl) rfl ?_
  refine sq_x rfl (x_makeI Tryz.underlying25 ty_3 rfl rfl (by first | omega | (simp only [List.length_cons, List.length_nil]; omega) | (simp only [List.length_append, List.length_cons, List.length_nil]; omega) | (rw [List.length_set]; omega) | (rw [List.length_replicate]; omega) | (simp; omega)) (by first | omega | (simp only [List.length_cons, List.length_nil]; omega) | (simp only [List.length_append, List.length_cons, List.length_nil]; omega) | (rw [List.length_set]; omega) | (rw [List.length_replicate]; omega) | (simp; omega)) (by first | omega | (simp only [List.length_cons, List.length_nil]; omega) | (simp only [List.length_append, List.length_cons, List.length_nil]; omega) | (rw [List.length_set]; omega) | (rw [List.length_replicate]; omega) | (simp; omega))) rfl ?_; intro v52 h52 r52
  refine sq_v rfl (v_assign rfl) rfl ?_
  refine sq_end ?_
  refine qs_n ?_
  refine wp_sc ?_
  refine wp_sc ?_
  refine wp_sq ?_
  refine sq_v rfl (v_move rfl) rfl ?_
  refine sq_u rfl (x_callv rfl en_134 (fun w s => ct_s_l05Product _ _ _ w (q2.mono (s.get 6 rfl)) (by first | assumption | omega) (by first | assumption | omega))) rfl ?_
  refine sq_v rfl (v_assign rfl) rfl ?_
  refine sq_end ?_
  refine qs_n ?_
  refine wp_bl ?_
  refine wp_lp (σ := Nat × PH × PH) (fun z_ => [(4, .pointer (some ⟨b4, 0, none⟩)), (5, .pointer (some ⟨b5, 0, none⟩)), (6, .pointer (some ⟨b6, 0, none⟩)), (8, .pointer (some ⟨b8, 0, none⟩)), (10, v2), (12, .pointer (some ⟨b12, 0, none⟩)), (13, v43), (14, v46), (15, v49), (16, v52), (17, num (prodI D - z_.1)), (44, .agg [a', b', c'].toArray)]) (fun z_ => [z_.2.1, h49, h46, h43, box b12 [va40, vb40, vc40] 44, h34, h27, box b8 [.slice none 0 0, .slice none 0 0, .slice none 0 0] 44, box b6 [a', b', c'] 44, box b5 [a, b, c] 44, box b4 [num k, num p, num n] 31, hp w, go1, go2, z_.2.2]) (fun z_ => z_.1 ≤ (prodI D).toNat ∧ IntsO (idxL D z_.1) v52 z_.2.1 ∧ IntsO (pairX k p n f t u K z_.1) vc40 z_.2.2) (fun z_ => (prodI D).toNat - z_.1) (0, h52, go3) (⟨by (try dsimp only); omega, by (try dsimp only); rw [show ((0 : Nat) : Int) = 0 from rfl, idxL_zero, hDl]; simpa using r52, qo3⟩) ⟨rfl, rfl, rfl, rfl, rfl, rfl, rfl, rfl, rfl, rfl, (by first | rfl | exact ksub rfl (by first | omega | (simp; done) | (simp; omega))), rfl, trivial⟩ (fun _ s => s) ?_
  rintro ⟨m, gi, gx⟩ ⟨hm, qi, qx⟩
  dsimp only at hm qi qx ⊢
  have hle_qi := qi.toR.le
  have hle_qx := qx.toR.le
  have hil := idxL_len D m
  have hil2 := idxL_len D (m + 1)
  have hii := idxL_in hD1 m
  have hib : ∀ b ∈ idxL D m, 0 ≤ b ∧ b ≤ 8 := all_of fun j hj => by have := hii.2 j (by omega); have := hDi j (by omega); omega
  have hpx := ok.small hk m
  refine wp_sc ?_
  refine wp_sc ?_
  refine wp_sq ?_
  refine sq_v rfl (v_move rfl) rfl ?_
  refine sq_v rfl (v_gtr rfl rfl) rfl ?_
  refine sq_end ?_
  refine qs_n ?_
  refine wp_cd rfl (fun c56 => ?_) (fun c56 => ?_)
  · refine wp_sk ?_
    refine qs_n ?_
    refine wp_sc ?_
    refine wp_bl ?_
    refine wp_sc ?_
    refine wp_sq ?_
    refine sq_v rfl (v_assign rfl) rfl ?_
    refine sq_end ?_
    refine qs_n ?_
    refine wp_sc ?_
    refine wp_sq ?_
    refine sq_v rfl (v_assign rfl) rfl ?_
    refine sq_end ?_
    refine qs_n ?_
    refine wp_sc ?_
    refine wp_sq ?_
    refine sq_v rfl (v_assign rfl) rfl ?_
    refine sq_end ?_
    refine qs_n ?_
    refine wp_sc ?_
    refine wp_sc ?_
    refine wp_sq ?_
    refine sq_v rfl (v_move rfl) rfl ?_
    refine sq_v rfl (v_len Tryz.underlying25 rfl qi.toR.sl) rfl ?_
    refine sq_v rfl (v_move rfl) rfl ?_
    refine sq_end ?_
    refine qs_n ?_
    refine wp_bl ?_
    refine wp_lp (σ := Nat × Int × Int × Int) (fun z_ => [(4, .pointer (some ⟨b4, 0, none⟩)), (5, .pointer (some ⟨b5, 0, none⟩)), (6, .pointer (some ⟨b6, 0, none⟩)), (8, .pointer (some ⟨b8, 0, none⟩)), (10, v2), (12, .pointer (some ⟨b12, 0, none⟩)), (13, v43), (14, v46), (15, v49), (16, v52), (17, num (prodI D - m)), (18, num z_.2.1), (19, num z_.2.2.1), (20, num z_.2.2.2), (44, .agg [a', b', c'].toArray), (55, num (prodI D - m)), (56, .bool (decide ((0 : Int) < prodI D - m))), (59, v52), (60, num (idxL D m).length), (61, num z_.1)]) (fun z_ => [gi, h49, h46, h43, box b12 [va40, vb40, vc40] 44, h34, h27, box b8 [.slice none 0 0, .slice none 0 0, .slice none 0 0] 44, box b6 [a', b', c'] 44, box b5 [a, b, c] 44, box b4 [num k, num p, num n] 31, hp w, go1, go2, gx]) (fun z_ => z_.1 ≤ L.length ∧ z_.2.1 = dotTo (stepsL L t.l t.d) (idxL D m) z_.1 ∧ z_.2.2.1 = dotTo (stepsL L u.l u.d) (idxL D m) z_.1 ∧ z_.2.2.2 = dotTo (stepsL L K (K.map f)) (idxL D m) z_.1) (fun z_ => L.length - z_.1) (0, 0, 0, 0) (⟨by (try dsimp only); omega, rfl, rfl, rfl⟩) ⟨rfl, rfl, rfl, rfl, rfl, rfl, rfl, rfl, rfl, rfl, rfl, (by first | rfl | exact ksub rfl (by first | omega | (simp; done) | (simp; omega))), (by first | rfl | exact ksub rfl (by first | omega | (simp; done) | (simp; omega))), (by first | rfl | exact ksub rfl (by first | omega | (simp; done) | (simp; omega))), rfl, rfl, rfl, rfl, rfl, (by first | rfl | exact ksub rfl (by first | omega | (simp; done) | (simp; omega))), trivial⟩ (fun _ s => s) ?_
    rintro ⟨j, x, y, z⟩ ⟨hj, hx, hy, hz⟩
    dsimp only at hj hx hy hz ⊢
    refine wp_sc ?_
    refine wp_sq ?_
    refine sq_v rfl (v_lss rfl rfl) rfl ?_
    refine sq_end ?_
    refine qs_n ?_
    refine wp_sc ?_
    refine wp_cd rfl (fun c62 => ?_) (fun c62 => ?_)
    · refine wp_sk ?_
      refine qs_n ?_
      refine wp_sc ?_
      refine wp_bl ?_
      refine wp_sc ?_
      refine wp_sq ?_
      refine sq_v rfl (v_move rfl) rfl ?_
      refine sq_v rfl (v_idxI Tryz.underlying25 ty_3 rfl rfl qi.toR (by first | omega | (simp only [List.length_cons, List.length_nil]; omega) | (simp only [List.length_append, List.length_cons, List.length_nil]; omega) | (rw [List.length_set]; omega) | (rw [List.length_replicate]; omega) | (simp; omega)) (by first | omega | (simp only [List.length_cons, List.length_nil]; omega) | (simp only [List.length_append, List.length_cons, List.length_nil]; omega) | (rw [List.length_set]; omega) | (rw [List.length_replicate]; omega) | (simp; omega))) rfl ?_
      refine sq_v rfl (v_loadI (k := j) 0 ty_3 rfl rfl qi.toR (by first | omega | (simp only [List.length_cons, List.length_nil]; omega) | (simp only [List.length_append, List.length_cons, List.length_nil]; omega) | (rw [List.length_set]; omega) | (rw [List.length_replicate]; omega) | (simp; omega))) rfl ?_
      refine sq_v rfl (v_assign rfl) rfl ?_
      refine sq_v rfl (v_assign rfl) rfl ?_
      refine sq_end ?_
      have hx0 := dotTo_in hA hib j (by omega) (by omega)
      have hx1 := dotTo_in hA hib (j + 1) (by omega) (by omega)
      have ex : dotTo (stepsL L t.l t.d) (idxL D m) (j + 1) = dotTo (stepsL L t.l t.d) (idxL D m) j + (stepsL L t.l t.d).getD j 0 * (idxL D m).getD j 0 := rfl
      rw [Int.mul_comm] at ex
      have hy0 := dotTo_in hB hib j (by omega) (by omega)
      have hy1 := dotTo_in hB hib (j + 1) (by omega) (by omega)
      have ey : dotTo (stepsL L u.l u.d) (idxL D m) (j + 1) = dotTo (stepsL L u.l u.d) (idxL D m) j + (stepsL L u.l u.d).getD j 0 * (idxL D m).getD j 0 := rfl
      rw [Int.mul_comm] at ey
      have hz0 := dotTo_in hC hib j (by omega) (by omega)
      have hz1 := dotTo_in hC hib (j + 1) (by omega) (by omega)
      have ez : dotTo (stepsL L K (K.map f)) (idxL D m) (j + 1) = dotTo (stepsL L K (K.map f)) (idxL D m) j + (stepsL L K (K.map f)).getD j 0 * (idxL D m).getD j 0 := rfl
      rw [Int.mul_comm] at ez
      refine qs_n ?_
      refine wp_sc ?_
      refine wp_sq ?_
      refine sq_v rfl (v_move rfl) rfl ?_
      refine sq_v rfl (v_move rfl) rfl ?_
      refine sq_v rfl (v_move rfl) rfl ?_
      refine sq_v rfl (v_move rfl) rfl ?_
      refine sq_v rfl (v_idxI Tryz.underlying25 ty_3 rfl rfl r43.toR (by first | omega | (simp only [List.length_cons, List.length_nil]; omega) | (simp only [List.length_append, List.length_cons, List.length_nil]; omega) | (rw [List.length_set]; omega) | (rw [List.length_replicate]; omega) | (simp; omega)) (by first | omega | (simp only [List.length_cons, List.length_nil]; omega) | (simp only [List.length_append, List.length_cons, List.length_nil]; omega) | (rw [List.length_set]; omega) | (rw [List.length_replicate]; omega) | (simp; omega))) rfl ?_
      refine sq_v rfl (v_loadI (k := j) 3 ty_3 rfl rfl r43.toR (by first | omega | (simp only [List.length_cons, List.length_nil]; omega) | (simp only [List.length_append, List.length_cons, List.length_nil]; omega) | (rw [List.length_set]; omega) | (rw [List.length_replicate]; omega) | (simp; omega))) rfl ?_
      refine sq_v rfl (v_mul rfl rfl ((by unfold I64; omega))) rfl ?_
      refine sq_v rfl (v_add rfl rfl ((by unfold I64; omega))) rfl ?_
      refine sq_v rfl (v_assign rfl) rfl ?_
      refine sq_end ?_
      refine qs_n ?_
      refine wp_sc ?_
      refine wp_sq ?_
      refine sq_v rfl (v_move rfl) rfl ?_
      refine sq_v rfl (v_move rfl) rfl ?_
      refine sq_v rfl (v_move rfl) rfl ?_
      refine sq_v rfl (v_move rfl) rfl ?_
      refine sq_v rfl (v_idxI Tryz.underlying25 ty_3 rfl rfl r46.toR (by first | omega | (simp only [List.length_cons, List.length_nil]; omega) | (simp only [List.length_append, List.length_cons, List.length_nil]; omega) | (rw [List.length_set]; omega) | (rw [List.length_replicate]; omega) | (simp; omega)) (by first | omega | (simp only [List.length_cons, List.length_nil]; omega) | (simp only [List.length_append, List.length_cons, List.length_nil]; omega) | (rw [List.length_set]; omega) | (rw [List.length_replicate]; omega) | (simp; omega))) rfl ?_
      refine sq_v rfl (v_loadI (k := j) 2 ty_3 rfl rfl r46.toR (by first | omega | (simp only [List.length_cons, List.length_nil]; omega) | (simp only [List.length_append, List.length_cons, List.length_nil]; omega) | (rw [List.length_set]; omega) | (rw [List.length_replicate]; omega) | (simp; omega))) rfl ?_
      refine sq_v rfl (v_mul rfl rfl ((by unfold I64; omega))) rfl ?_
      refine sq_v rfl (v_add rfl rfl ((by unfold I64; omega))) rfl ?_
      refine sq_v rfl (v_assign rfl) rfl ?_
      refine sq_end ?_
      refine qs_n ?_
      refine wp_sq ?_
      refine sq_v rfl (v_move rfl) rfl ?_
      refine sq_v rfl (v_move rfl) rfl ?_
      refine sq_v rfl (v_move rfl) rfl ?_
      refine sq_v rfl (v_move rfl) rfl ?_
      refine sq_v rfl (v_idxI Tryz.underlying25 ty_3 rfl rfl r49.toR (by first | omega | (simp only [List.length_cons, List.length_nil]; omega) | (simp only [List.length_append, List.length_cons, List.length_nil]; omega) | (rw [List.length_set]; omega) | (rw [List.length_replicate]; omega) | (simp; omega)) (by first | omega | (simp only [List.length_cons, List.length_nil]; omega) | (simp only [List.length_append, List.length_cons, List.length_nil]; omega) | (rw [List.length_set]; omega) | (rw [List.length_replicate]; omega) | (simp; omega))) rfl ?_
      refine sq_v rfl (v_loadI (k := j) 1 ty_3 rfl rfl r49.toR (by first | omega | (simp only [List.length_cons, List.length_nil]; omega) | (simp only [List.length_append, List.length_cons, List.length_nil]; omega) | (rw [List.length_set]; omega) | (rw [List.length_replicate]; omega) | (simp; omega))) rfl ?_
      refine sq_v rfl (v_mul rfl rfl ((by unfold I64; omega))) rfl ?_
      refine sq_v rfl (v_add rfl rfl ((by unfold I64; omega))) rfl ?_
      refine sq_v rfl (v_assign rfl) rfl ?_
      refine sq_end ?_
      refine qs_bn ?_
      refine qs_n ?_
      refine wp_sq ?_
      refine sq_v rfl (v_add rfl rfl ((by unfold I64; omega))) rfl ?_
      refine sq_v rfl (v_move rfl) rfl ?_
      refine sq_end ?_
      exact qs_bk (j + 1, x + (idxL D m).getD j 0 * (stepsL L t.l t.d).getD j 0, y + (idxL D m).getD j 0 * (stepsL L u.l u.d).getD j 0, z + (idxL D m).getD j 0 * (stepsL L K (K.map f)).getD j 0) ⟨by (try dsimp only); omega, by (try dsimp only); omega, by (try dsimp only); omega, by (try dsimp only); omega⟩ (by simp only; omega) ⟨rfl, rfl, rfl, rfl, rfl, rfl, rfl, rfl, rfl, rfl, rfl, (by first | rfl | exact ksub rfl (by first | omega | (simp; done) | (simp; omega))), (by first | rfl | exact ksub rfl (by first | omega | (simp; done) | (simp; omega))), (by first | rfl | exact ksub rfl (by first | omega | (simp; done) | (simp; omega))), rfl, rfl, rfl, rfl, rfl, (by first | rfl | exact ksub rfl (by first | omega | (simp; done) | (simp; omega))), trivial⟩ (fun _ s => s)
    · refine wp_ex ?_
      refine qs_x ?_
      refine qs_x ?_
      refine qs_bx ?_
      refine qs_n ?_
      refine wp_sc ?_
      refine wp_rj 19 [(0, true), (1, true), (2, true), (3, true), (4, true), (5, true), (6, true), (8, true), (9, true), (10, true), (11, true), (13, true), (14, true), (15, true), (7, false), (12, false), (16, false), (17, false), (18, false), (19, false)] mixed_ok (by kernel_rfl) ?_
      obtain ⟨px, hpe⟩ : ∃ px, pairX k p n f t u K m = px := ⟨_, rfl⟩; have ex : x = atI f (joinI t.l u.l) t.l m := (by rw [hx, show j = L.length by omega, atI, dotL, stepsL_len, ← hst, hL, hD]); have ey : y = atI f (joinI t.l u.l) u.l m := (by rw [hy, show j = L.length by omega, atI, dotL, stepsL_len, ← hsu, hL, hD]); have ez : z = atI f (joinI t.l u.l) K m := (by rw [hz, show j = L.length by omega, atI, dotL, stepsL_len, hL, hD]); have hx0 := ok.at_t m; have hy0 := ok.at_u m; have hz0 := ok.at_k hk m; have hXr := ok.el_t m; have hYr := ok.el_u m; have hZr := (ok.all hk m).el hring hz0.1 hz0.2; have hzf := ok.fits hk m; rw [← ex] at hx0 hXr; rw [← ey] at hy0 hYr; rw [← ez] at hz0 hZr hzf; rw [hpe] at hZr hzf hpx qx; have hMr := mulL_in hring hXr hYr; have hSr := addL_in hring hZr hMr; have hxf := elt_fits ok.tt (i := x) hx0.2; have hyf := elt_fits ok.uu (i := y) hy0.2;
      refine rj_v rfl rfl (v_loadNB 10 ty_31 rfl rfl rfl rfl) rfl ?_
      refine rj_v rfl rfl (v_loadNB 4 ty_44 rfl rfl rfl rfl) rfl ?_
      refine rj_v rfl rfl (v_move rfl) rfl ?_
      refine rj_v rfl rfl (v_loadNB 10 ty_31 rfl rfl rfl rfl) rfl ?_
      refine rj_v rfl rfl (v_loadNB 10 ty_31 rfl rfl rfl rfl) rfl ?_
      refine rj_v rfl rfl (v_loadNB 4 ty_44 rfl rfl rfl rfl) rfl ?_
      refine rj_v rfl rfl (v_move rfl) rfl ?_
      refine rj_v rfl rfl (v_loadNB 10 ty_31 rfl rfl rfl rfl) rfl ?_
      refine rj_v rfl rfl (v_loadNB 10 ty_31 rfl rfl rfl rfl) rfl ?_
      refine rj_v rfl rfl (v_loadNB 9 ty_44 rfl rfl rfl rfl) rfl ?_
      refine rj_v rfl rfl (v_move rfl) rfl ?_
      refine rj_v rfl rfl (v_loadNB 10 ty_31 rfl rfl rfl rfl) rfl ?_
      refine rj_v rfl rfl (v_loadNB 8 ty_44 rfl rfl rfl rfl) rfl ?_
      refine rj_v rfl rfl (v_move rfl) rfl ?_
      refine rj_x rfl rfl (x_call rfl en_142 (fun w s => ct_s_l05Get _ _ _ _ _ _ _ _ w (by first | assumption | omega) (qx.toR.mono (s.get 14 rfl)) (by first | assumption | omega) (by first | assumption | omega) (by first | assumption | omega))) rfl ?_; rintro v98 h98 r98
      refine rj_x rfl rfl (x_call rfl en_142 (fun w s => ct_s_l05Get _ _ _ _ _ _ _ _ w (by first | assumption | omega) (r3.mono (s.get 12 rfl)) (by first | assumption | omega) (by first | assumption | omega) (by first | assumption | omega))) rfl ?_; rintro v103 h103 r103
      refine rj_x rfl rfl (x_call rfl en_142 (fun w s => ct_s_l05Get _ _ _ _ _ _ _ _ w (by first | assumption | omega) (r3'.mono (s.get 13 rfl)) (by first | assumption | omega) (by first | assumption | omega) (by first | assumption | omega))) rfl ?_; rintro v107 h107 r107
      refine rj_x rfl rfl (x_call rfl en_159 (fun w s => ct_s_l02Mul _ _ _ _ _ _ _ w (by first | assumption | omega) (r103.toR.mono (s.get 1 rfl)) (r107.toR.mono (s.get 0 rfl)) (by first | assumption | omega) (by first | assumption | omega))) rfl ?_; rintro v108 h108 r108
      refine rj_x rfl rfl (x_call rfl en_158 (fun w s => ct_s_l02Add _ _ _ _ _ _ _ w (by first | assumption | omega) (r98.toR.mono (s.get 3 rfl)) (r108.toR.mono (s.get 0 rfl)) (by first | assumption | omega) (by first | assumption | omega))) rfl ?_; rintro v109 h109 r109
      refine rj_m 19 rfl rfl rfl rfl (x_call rfl en_135 (fun w s => ct_s_l05Put _ _ _ _ _ _ _ _ _ _ _ _ w _ (by first | assumption | omega) (s.get 19 rfl) (qo1.toR.mono (s.getR 19 17 rfl rfl (by decide))) (qo2.toR.mono (s.getR 19 18 rfl rfl (by decide))) qx (r109.toR.mono (s.getR 19 0 rfl rfl (by decide))) hSr.1 (by first | assumption | omega) (by first | assumption | omega) (by first | assumption | omega))) rfl ?_; rintro _ h110 r110
      refine rj_end ?_
      refine qs_n ?_
      refine wp_sc ?_
      refine wp_sq ?_
      refine sq_v rfl (v_move rfl) rfl ?_
      refine sq_v rfl (v_len Tryz.underlying25 rfl qi.toR.sl) rfl ?_
      refine sq_v rfl (v_sub rfl rfl ((by unfold I64; omega))) rfl ?_
      refine sq_v rfl (v_assign rfl) rfl ?_
      refine sq_end ?_
      refine qs_n ?_
      refine wp_bl ?_
      refine wp_lp (σ := Nat × PH) (fun z_ => [(4, .pointer (some ⟨b4, 0, none⟩)), (5, .pointer (some ⟨b5, 0, none⟩)), (6, .pointer (some ⟨b6, 0, none⟩)), (8, .pointer (some ⟨b8, 0, none⟩)), (10, v2), (12, .pointer (some ⟨b12, 0, none⟩)), (13, v43), (14, v46), (15, v49), (16, v52), (17, num (prodI D - m)), (18, num x), (19, num y), (20, num z), (23, num ((z_.1 : Int) - 1)), (44, .agg [a', b', c'].toArray), (55, num (prodI D - m)), (56, .bool (decide ((0 : Int) < prodI D - m))), (59, v52), (60, num (idxL D m).length), (61, num j), (62, .bool (decide ((j : Int) < (idxL D m).length))), (91, .agg [num k, num p, num n].toArray), (92, .agg [va40, vb40, vc40].toArray), (93, num z), (94, .agg [num k, num p, num n].toArray), (95, .agg [num k, num p, num n].toArray), (96, .agg [va40, vb40, vc40].toArray), (97, num z), (98, v98), (99, .agg [num k, num p, num n].toArray), (100, .agg [num k, num p, num n].toArray), (101, .agg [a, b, c].toArray), (102, num x), (103, v103), (104, .agg [num k, num p, num n].toArray), (105, .agg [a', b', c'].toArray), (106, num y), (107, v107), (108, v108), (109, v109), (111, v52), (112, num (idxL D m).length), (113, num ((idxL D m).length - 1))]) (fun z_ => [h109, h108, h107, h103, h98, z_.2, h49, h46, h43, box b12 [va40, vb40, vc40] 44, h34, h27, box b8 [.slice none 0 0, .slice none 0 0, .slice none 0 0] 44, box b6 [a', b', c'] 44, box b5 [a, b, c] 44, box b4 [num k, num p, num n] 31, hp w, go1, go2, h110]) (fun z_ => z_.1 ≤ D.length ∧ ((m : Int) + 1) % prodI (D.drop z_.1) = 0 ∧ IntsO (mixL (idxL D m) (idxL D (m + 1)) z_.1) v52 z_.2) (fun z_ => z_.1) (D.length, gi) (⟨by (try dsimp only); omega, by (try dsimp only); simp [prodI, Int.emod_one], by (try dsimp only); rw [mix_end (by omega) (by omega)]; exact qi⟩) ⟨rfl, rfl, rfl, rfl, rfl, rfl, rfl, rfl, rfl, rfl, rfl, rfl, rfl, rfl, (by first | rfl | exact ksub rfl (by first | omega | (simp; done) | (simp; omega))), rfl, rfl, rfl, rfl, rfl, rfl, rfl, rfl, rfl, rfl, rfl, rfl, rfl, rfl, rfl, rfl, rfl, rfl, rfl, rfl, rfl, rfl, rfl, rfl, rfl, rfl, rfl, rfl, rfl, trivial⟩ (fun _ s => s) ?_
      rintro ⟨q, g2⟩ ⟨hq, hP, qj⟩
      dsimp only at hq hP qj ⊢
      have hle_qj := qj.toR.le
      have hml := mix_len (A := idxL D m) (B := idxL D (m + 1)) (k := q) (by omega) (by omega)
      have em : ((q : Int) - 1).toNat = q - 1 := by omega
      refine wp_sc ?_
      refine wp_sc ?_
      refine wp_sq ?_
      refine sq_v rfl (v_move rfl) rfl ?_
      refine sq_v rfl (v_geq rfl rfl) rfl ?_
      refine sq_end ?_
      refine qs_n ?_
      refine wp_cd rfl (fun c115 => ?_) (fun c115 => ?_)
      · refine wp_sk ?_
        refine qs_n ?_
        refine wp_sc ?_
        refine wp_bl ?_
        refine wp_sc ?_
        refine wp_sq ?_
        refine sq_v rfl (v_move rfl) rfl ?_
        refine sq_v rfl (v_move rfl) rfl ?_
        have hk1 : q - 1 < D.length := (by omega); have hdm := hDd _ (mem_getD hk1); have hlow : (mixL (idxL D m) (idxL D (m + 1)) q).getD ((q : Int) - 1).toNat 0 = digI D m (q - 1) := (by rw [em, mix_low (by omega) (by omega), idxL_get hk1]); have hdg := (idxL_in hD1 m).2 (q - 1) hk1; rw [idxL_get hk1] at hdg
        refine sq_v rfl (v_idxI Tryz.underlying25 ty_3 rfl rfl qj.toR (by first | omega | (simp only [List.length_cons, List.length_nil]; omega) | (simp only [List.length_append, List.length_cons, List.length_nil]; omega) | (rw [List.length_set]; omega) | (rw [List.length_replicate]; omega) | (simp; omega)) (by first | omega | (simp only [List.length_cons, List.length_nil]; omega) | (simp only [List.length_append, List.length_cons, List.length_nil]; omega) | (rw [List.length_set]; omega) | (rw [List.length_replicate]; omega) | (simp; omega))) rfl ?_
        refine sq_v rfl (v_loadI  5 ty_3 rfl rfl qj.toR (by first | omega | (simp only [List.length_cons, List.length_nil]; omega) | (simp only [List.length_append, List.length_cons, List.length_nil]; omega) | (rw [List.length_set]; omega) | (rw [List.length_replicate]; omega) | (simp; omega))) rfl ?_
        refine sq_v rfl (v_add rfl rfl ((by unfold I64; omega))) rfl ?_
        refine sq_v rfl (v_idxI Tryz.underlying25 ty_3 rfl rfl qj.toR (by first | omega | (simp only [List.length_cons, List.length_nil]; omega) | (simp only [List.length_append, List.length_cons, List.length_nil]; omega) | (rw [List.length_set]; omega) | (rw [List.length_replicate]; omega) | (simp; omega)) (by first | omega | (simp only [List.length_cons, List.length_nil]; omega) | (simp only [List.length_append, List.length_cons, List.length_nil]; omega) | (rw [List.length_set]; omega) | (rw [List.length_replicate]; omega) | (simp; omega))) rfl ?_
        refine sq_m 5 rfl rfl (m_storeI 5 ty_3 rfl rfl rfl qj (by first | omega | (simp only [List.length_cons, List.length_nil]; omega) | (simp only [List.length_append, List.length_cons, List.length_nil]; omega) | (rw [List.length_set]; omega) | (rw [List.length_replicate]; omega) | (simp; omega))) rfl ?_; rintro _ h_q25_6 ⟨rfl, q25_6⟩
        refine sq_end ?_
        rw [hlow, em] at q25_6
        refine qs_n ?_
        refine wp_sc ?_
        refine wp_sc ?_
        refine wp_rj 9 [(0, true), (1, true), (2, true), (3, true), (4, true), (5, true), (6, true), (7, true), (8, true)] mixed_ok (by kernel_rfl) ?_
        refine rj_v rfl rfl (v_move rfl) rfl ?_
        refine rj_v rfl rfl (v_move rfl) rfl ?_
        refine rj_v rfl rfl (v_idxI Tryz.underlying25 ty_3 rfl rfl q25_6.toR (by first | omega | (simp only [List.length_cons, List.length_nil]; omega) | (simp only [List.length_append, List.length_cons, List.length_nil]; omega) | (rw [List.length_set]; omega) | (rw [List.length_replicate]; omega) | (simp; omega)) (by first | omega | (simp only [List.length_cons, List.length_nil]; omega) | (simp only [List.length_append, List.length_cons, List.length_nil]; omega) | (rw [List.length_set]; omega) | (rw [List.length_replicate]; omega) | (simp; omega))) rfl ?_
        refine rj_v rfl rfl (v_loadI  5 ty_3 rfl rfl q25_6.toR (by first | omega | (simp only [List.length_cons, List.length_nil]; omega) | (simp only [List.length_append, List.length_cons, List.length_nil]; omega) | (rw [List.length_set]; omega) | (rw [List.length_replicate]; omega) | (simp; omega))) rfl ?_
        refine rj_v rfl rfl (v_move rfl) rfl ?_
        refine rj_v rfl rfl (v_move rfl) rfl ?_
        refine rj_v rfl rfl (v_idxI Tryz.underlying25 ty_3 rfl rfl q2 (by first | omega | (simp only [List.length_cons, List.length_nil]; omega) | (simp only [List.length_append, List.length_cons, List.length_nil]; omega) | (rw [List.length_set]; omega) | (rw [List.length_replicate]; omega) | (simp; omega)) (by first | omega | (simp only [List.length_cons, List.length_nil]; omega) | (simp only [List.length_append, List.length_cons, List.length_nil]; omega) | (rw [List.length_set]; omega) | (rw [List.length_replicate]; omega) | (simp; omega))) rfl ?_
        refine rj_v rfl rfl (v_loadI  11 ty_3 rfl rfl q2 (by first | omega | (simp only [List.length_cons, List.length_nil]; omega) | (simp only [List.length_append, List.length_cons, List.length_nil]; omega) | (rw [List.length_set]; omega) | (rw [List.length_replicate]; omega) | (simp; omega))) rfl ?_
        refine rj_v rfl rfl (v_lss rfl rfl) rfl ?_
        refine rj_end ?_
        have hg4 : ((mixL (idxL D m) (idxL D (m + 1)) q).set (q - 1) (digI D m (q - 1) + 1)).getD ((q : Int) - 1).toNat 0 = digI D m (q - 1) + 1 := by rw [em]; simp only [List.getD]; rw [List.getElem?_set_self (by omega)]; rfl
        have hc : (((mixL (idxL D m) (idxL D (m + 1)) q).set (q - 1) (digI D m (q - 1) + 1)).getD ((q : Int) - 1).toNat 0 < D.getD ((q : Int) - 1).toNat 0) ↔ digI D m (q - 1) + 1 < D.getD (q - 1) 0 := by rw [hg4, em]
        refine qs_n ?_
        refine wp_cd rfl (fun c132 => ?_) (fun c132 => ?_)
        · refine wp_ex ?_
          refine qs_x ?_
          refine qs_by rfl ?_
          refine qs_x ?_
          refine qs_x ?_
          refine qs_bx ?_
          refine qs_bn ?_
          refine qs_n ?_
          refine wp_sq ?_
          refine sq_v rfl (v_move rfl) rfl ?_
          refine sq_v rfl (v_sub rfl rfl ((by unfold I64; omega))) rfl ?_
          refine sq_v rfl (v_assign rfl) rfl ?_
          refine sq_end ?_
          exact qs_bk (m + 1, h_q25_6, h110) ⟨by (try dsimp only); omega, by (try dsimp only); rw [show ((m + 1 : Nat) : Int) = (m : Int) + 1 from rfl, ← idx_yes hD1 (by omega) (by omega) hq hP (hc.1 c132)]; exact q25_6, by (try dsimp only); rw [pairX, hpe, ← ex, ← ey, ← ez]; exact r110⟩ (by simp only; omega) ⟨rfl, rfl, rfl, rfl, rfl, rfl, rfl, rfl, rfl, rfl, (by first | rfl | exact ksub rfl (by first | omega | (simp; done) | (simp; omega))), rfl, trivial⟩ (fun _ s => s.pick [5, 6, 7, 8, 9, 10, 11, 12, 13, 14, 15, 16, 17, 18, 19] (by decide) rfl)
        · refine wp_sk ?_
          refine qs_n ?_
          refine wp_sq ?_
          refine sq_v rfl (v_move rfl) rfl ?_
          refine sq_v rfl (v_move rfl) rfl ?_
          refine sq_v rfl (v_idxI Tryz.underlying25 ty_3 rfl rfl q25_6.toR (by first | omega | (simp only [List.length_cons, List.length_nil]; omega) | (simp only [List.length_append, List.length_cons, List.length_nil]; omega) | (rw [List.length_set]; omega) | (rw [List.length_replicate]; omega) | (simp; omega)) (by first | omega | (simp only [List.length_cons, List.length_nil]; omega) | (simp only [List.length_append, List.length_cons, List.length_nil]; omega) | (rw [List.length_set]; omega) | (rw [List.length_replicate]; omega) | (simp; omega))) rfl ?_
          refine sq_m 5 rfl rfl (m_storeI 5 ty_3 rfl rfl rfl q25_6 (by first | omega | (simp only [List.length_cons, List.length_nil]; omega) | (simp only [List.length_append, List.length_cons, List.length_nil]; omega) | (rw [List.length_set]; omega) | (rw [List.length_replicate]; omega) | (simp; omega))) rfl ?_; rintro _ h_q27_3 ⟨rfl, q27_3⟩
          refine sq_end ?_
          have hno := idx_no hD1 (by omega) (show 1 ≤ q by omega) hq hP (fun h => c132 (hc.2 h))
          rw [em, List.set_set, hno.1] at q27_3
          refine qs_bn ?_
          refine qs_n ?_
          refine wp_sq ?_
          refine sq_v rfl (v_move rfl) rfl ?_
          refine sq_v rfl (v_sub rfl rfl ((by unfold I64; omega))) rfl ?_
          refine sq_v rfl (v_assign rfl) rfl ?_
          refine sq_end ?_
          exact qs_bk (q - 1, h_q27_3) ⟨by (try dsimp only); omega, hno.2, q27_3⟩ (by simp only; omega) ⟨rfl, rfl, rfl, rfl, rfl, rfl, rfl, rfl, rfl, rfl, rfl, rfl, rfl, rfl, (by first | rfl | exact ksub rfl (by first | omega | (simp; done) | (simp; omega))), rfl, rfl, rfl, rfl, rfl, rfl, rfl, rfl, rfl, rfl, rfl, rfl, rfl, rfl, rfl, rfl, rfl, rfl, rfl, rfl, rfl, rfl, rfl, rfl, rfl, rfl, rfl, rfl, rfl, trivial⟩ (fun _ s => s)
      · refine wp_ex ?_
        refine qs_x ?_
        refine qs_x ?_
        refine qs_bx ?_
        refine qs_bn ?_
        refine qs_n ?_
        refine wp_sq ?_
        refine sq_v rfl (v_move rfl) rfl ?_
        refine sq_v rfl (v_sub rfl rfl ((by unfold I64; omega))) rfl ?_
        refine sq_v rfl (v_assign rfl) rfl ?_
        refine sq_end ?_
        exact qs_bk (m + 1, g2, h110) ⟨by (try dsimp only); omega, by (try dsimp only); rw [show q = 0 by omega, mix_zero] at qj; exact qj, by (try dsimp only); rw [pairX, hpe, ← ex, ← ey, ← ez]; exact r110⟩ (by simp only; omega) ⟨rfl, rfl, rfl, rfl, rfl, rfl, rfl, rfl, rfl, rfl, (by first | rfl | exact ksub rfl (by first | omega | (simp; done) | (simp; omega))), rfl, trivial⟩ (fun _ s => s.pick [5, 6, 7, 8, 9, 10, 11, 12, 13, 14, 15, 16, 17, 18, 19] (by decide) rfl)
  · refine wp_ex ?_
    refine qs_x ?_
    refine qs_x ?_
    refine qs_bx ?_
    refine qs_n ?_
    refine wp_sc ?_
    refine wp_sq ?_
    refine sq_v rfl (v_loadNB 4 ty_44 rfl rfl rfl rfl) rfl ?_
    refine sq_m 7 rfl rfl (m_store 7 ty_44 rfl rfl rfl rfl (by simp [qo1.toR.sl.one, qo2.toR.sl.one, qx.toR.sl.one]) rfl (Nat.le_of_ble_eq_true rfl)) rfl ?_; rintro _ _ ⟨rfl, rfl⟩
    refine sq_end ?_
    refine qs_n ?_
    refine wp_rt ?_
    refine qs_close [box b8 _ _, hp w] [go1, go2, gx] (fun _ s => s.pick [7, 11, 12, 13, 14] (by decide) rfl) (fun md => ?_)
    exact qs_retc 1 rfl ty_44 rfl rfl rfl (fin_t 0 (i := 2) rfl rfl rfl ⟨_, _, _, rfl, _, _, _, qo1, qo2, (by rw [pairT, hL, hD, show (prodI D).toNat = m by omega]; exact qx), md⟩)
end Go.Proofs.YtehjljijionhaaaGreat
namespace Go.Proofs.YtehjljijionhaaaGreat
set_option maxRecDepth 100000
open Go.RowKit
theorem ct_L_markTensor (t : Ten) (a b c : Value) (k : Int) (w : World) (h : PH) (hle : PLe h (hp w)) (r : TriO t a b c h) (hk : 0 ≤ k ∧ k + tenSize t ≤ 4611686018427387904) :
    Calls Tryz.prog 31 [tenV a b c, num k].toArray w (Ret w h (TenM a b c k (k + tenSize t))) := by
  obtain ⟨h1, h2, h3, r1, r2, r3, md⟩ := r
  unfold tenSize at hk
  have hent : Sat w [h1, h2, h3, restP w h] w := by
    have s1 := Sat.open (A := [restP w h]) md (Sat.start2 hle)
    exact s1.pick [1, 2, 3, 0] (by decide) rfl
  refine calls_in Tryz.func31 rfl Tryz.ntmps31 rfl hent ?_
  refine wp_sc ?_
  refine wp_sq ?_
  refine sq_x rfl (x_box rfl rfl) rfl ?_; rintro _ _ ⟨b2, rfl, rfl⟩
  refine sq_v rfl (v_assign rfl) rfl ?_
  refine sq_end ?_
  refine qs_n ?_
  refine wp_sc ?_
  refine wp_sq ?_
  refine sq_v rfl (v_fieldAddr fd_44_0 ty_25 (by decide) rfl) rfl ?_
  refine sq_v rfl (v_loadB 0 ty_25 rfl rfl rfl) rfl ?_
  refine sq_v rfl (v_move rfl) rfl ?_
  refine sq_m 1 rfl rfl (x_call rfl en_22 (fun w s => ct_l_markIntS t.l _ _ w _ (s.get 1 rfl) r1 (by omega))) rfl ?_; rintro _ h8 ⟨rfl, r8⟩
  refine sq_v rfl (v_assign rfl) rfl ?_
  refine sq_end ?_
  refine qs_n ?_
  refine wp_sc ?_
  refine wp_sq ?_
  refine sq_v rfl (v_fieldAddr fd_44_1 ty_25 (by decide) rfl) rfl ?_
  refine sq_v rfl (v_loadB 0 ty_25 rfl rfl rfl) rfl ?_
  refine sq_v rfl (v_move rfl) rfl ?_
  refine sq_m 2 rfl rfl (x_call rfl en_22 (fun w s => ct_l_markIntS t.d _ _ w _ (s.get 2 rfl) r2 (by omega))) rfl ?_; rintro _ h12 ⟨rfl, r12⟩
  refine sq_v rfl (v_assign rfl) rfl ?_
  refine sq_end ?_
  refine qs_n ?_
  refine wp_sc ?_
  refine wp_sq ?_
  refine sq_v rfl (v_fieldAddr fd_44_2 ty_25 (by decide) rfl) rfl ?_
  refine sq_v rfl (v_loadB 0 ty_25 rfl rfl rfl) rfl ?_
  refine sq_v rfl (v_move rfl) rfl ?_
  refine sq_m 3 rfl rfl (x_call rfl en_22 (fun w s => ct_l_markIntS t.x _ _ w _ (s.get 3 rfl) r3 (by omega))) rfl ?_; rintro _ h16 ⟨rfl, r16⟩
  refine sq_v rfl (v_assign rfl) rfl ?_
  refine sq_end ?_
  refine qs_n ?_
  refine wp_sc ?_
  refine wp_sq ?_
  refine sq_v rfl (v_move rfl) rfl ?_
  refine sq_v rfl (v_assign rfl) rfl ?_
  refine sq_end ?_
  refine qs_n ?_
  refine wp_rt ?_
  refine qs_close [restP w h] [h8, h12, h16] (fun _ s => s.pick [4, 1, 2, 3] (by decide) rfl) (fun md' => ?_)
  exact qs_ret1 rfl rfl (fin_m (i := 1) 0 rfl rfl rfl ⟨by congr 1; unfold tenSize; omega, ⟨_, _, _⟩, ⟨h8, h12, h16, r8, r12, r16, md'⟩, held_three k _ _ _ (by unfold tenSize; omega)⟩)
theorem ct_L_heldTensor (t : Ten) (a b c : Value) (k k' : Int) (w : World) (r1 : IntsR t.l a (hp w)) (r2 : IntsR t.d b (hp w)) (r3 : IntsR t.x c (hp w)) (hh : HeldL k [t.l, t.d, t.x] k') (hk : 0 ≤ k ∧ k' ≤ 4611686018427387904) :
    Calls Tryz.prog 32 [tenV a b c, num k].toArray w (RetV w (num k')) := by
  obtain ⟨g1, g2, g3, g4⟩ := hh
  have g4 : k + t.l.length + t.d.length + t.x.length = k' := g4
  refine calls_in Tryz.func32 rfl Tryz.ntmps32 rfl (Sat.start w) ?_
  refine wp_sc ?_
  refine wp_sq ?_
  refine sq_x rfl (x_box rfl rfl) rfl ?_; rintro _ _ ⟨b2, rfl, rfl⟩
  refine sq_v rfl (v_assign rfl) rfl ?_
  refine sq_end ?_
  refine qs_n ?_
  refine wp_sc ?_
  refine wp_sq ?_
  refine sq_v rfl (v_fieldAddr fd_44_0 ty_25 (by decide) rfl) rfl ?_
  refine sq_v rfl (v_loadB 0 ty_25 rfl rfl rfl) rfl ?_
  refine sq_v rfl (v_move rfl) rfl ?_
  refine sq_u rfl (x_callv rfl en_23 (fun w s => ct_l_heldIntS _ _ _ w (r1.mono (s.get 1 rfl)) g1 (by omega))) rfl ?_
  refine sq_v rfl (v_assign rfl) rfl ?_
  refine sq_end ?_
  refine qs_n ?_
  refine wp_sc ?_
  refine wp_sc ?_
  refine wp_sq ?_
  refine sq_v rfl (v_move rfl) rfl ?_
  refine sq_v rfl (v_lss rfl rfl) rfl ?_
  refine sq_end ?_
  refine qs_n ?_
  refine wp_cd rfl (fun c10 => ?_) (fun c10 => ?_)
  · refine wp_sc ?_
    refine wp_sq ?_
    refine sq_v rfl (v_assign rfl) rfl ?_
    refine sq_end ?_
    refine qs_n ?_
    refine wp_rt ?_
    refine qs_r ?_
    exact absurd c10 (by omega)
  · refine wp_sk ?_
    refine qs_n ?_
    refine wp_sc ?_
    refine wp_sq ?_
    refine sq_v rfl (v_fieldAddr fd_44_1 ty_25 (by decide) rfl) rfl ?_
    refine sq_v rfl (v_loadB 0 ty_25 rfl rfl rfl) rfl ?_
    refine sq_v rfl (v_move rfl) rfl ?_
    refine sq_u rfl (x_callv rfl en_23 (fun w s => ct_l_heldIntS _ _ _ w (r2.mono (s.get 1 rfl)) g2 (by omega))) rfl ?_
    refine sq_v rfl (v_assign rfl) rfl ?_
    refine sq_end ?_
    refine qs_n ?_
    refine wp_sc ?_
    refine wp_sc ?_
    refine wp_sq ?_
    refine sq_v rfl (v_move rfl) rfl ?_
    refine sq_v rfl (v_lss rfl rfl) rfl ?_
    refine sq_end ?_
    refine qs_n ?_
    refine wp_cd rfl (fun c16 => ?_) (fun c16 => ?_)
    · refine wp_sc ?_
      refine wp_sq ?_
      refine sq_v rfl (v_assign rfl) rfl ?_
      refine sq_end ?_
      refine qs_n ?_
      refine wp_rt ?_
      refine qs_r ?_
      exact absurd c16 (by omega)
    · refine wp_sk ?_
      refine qs_n ?_
      refine wp_sc ?_
      refine wp_sq ?_
      refine sq_v rfl (v_fieldAddr fd_44_2 ty_25 (by decide) rfl) rfl ?_
      refine sq_v rfl (v_loadB 0 ty_25 rfl rfl rfl) rfl ?_
      refine sq_v rfl (v_move rfl) rfl ?_
      refine sq_u rfl (x_callv rfl en_23 (fun w s => ct_l_heldIntS _ _ _ w (r3.mono (s.get 1 rfl)) g3 (by omega))) rfl ?_
      refine sq_v rfl (v_assign rfl) rfl ?_
      refine sq_end ?_
      refine qs_n ?_
      refine wp_sc ?_
      refine wp_sc ?_
      refine wp_sq ?_
      refine sq_v rfl (v_move rfl) rfl ?_
      refine sq_v rfl (v_lss rfl rfl) rfl ?_
      refine sq_end ?_
      refine qs_n ?_
      refine wp_cd rfl (fun c22 => ?_) (fun c22 => ?_)
      · refine wp_sc ?_
        refine wp_sq ?_
        refine sq_v rfl (v_assign rfl) rfl ?_
        refine sq_end ?_
        refine qs_n ?_
        refine wp_rt ?_
        refine qs_r ?_
        exact absurd c22 (by omega)
      · refine wp_sk ?_
        refine qs_n ?_
        refine wp_sc ?_
        refine wp_sq ?_
        refine sq_v rfl (v_move rfl) rfl ?_
        refine sq_v rfl (v_assign rfl) rfl ?_
        refine sq_end ?_
        refine qs_n ?_
        refine wp_rt ?_
        exact qs_ret1 rfl rfl (fin_q (i := 1) rfl (by rw [g4]))
/-- A network and whether there is one. -/
def NetB (k p n : Int) (ts : List Ten) (op : List Int) (b : Bool) (x : Value) (h : PH) : Prop := ∃ vt vo, x = .tuple [netV k p n vt vo, .bool b].toArray ∧ NetO ts op vt vo h
def TenB (t : Ten) (b : Bool) (x : Value) (h : PH) : Prop := ∃ va vb vc, x = .tuple [tenV va vb vc, .bool b].toArray ∧ TriO t va vb vc h
end Go.Proofs.YtehjljijionhaaaGreat
namespace Go.Proofs.YtehjljijionhaaaGreat
set_option maxRecDepth 100000
open Go.RowKit
theorem triO_none : TriO ⟨[], [], []⟩ (.slice none 0 0) (.slice none 0 0) (.slice none 0 0) emp :=
  ⟨emp, emp, emp, IntsO.nil, IntsO.nil, IntsO.nil, ⟨by simp [sepL, PDj.emp], fun x hx => by simp at hx; subst hx; exact PLe.emp _, fun k o e => by cases e⟩⟩
def keepL (t u : Ten) (ks : List Int) : List Int := (joinI t.l u.l).filter fun x => decide (x ∈ ks)
def pairP (k p n : Int) (t u : Ten) (ks : List Int) : Prop := tensorL k p n t.l t.d t.x ∧ tensorL k p n u.l u.d u.x ∧ ¬ mism t u ∧ prodI (joinD t u) ≤ 65536 ∧ 0 ≤ sizeI (keepL t u ks) ((keepL t u ks).map (dimJ t u))
open Classical in
noncomputable def pairB (k p n : Int) (t u : Ten) (ks : List Int) : Bool := decide (pairP k p n t u ks)
open Classical in
noncomputable def pairR (k p n : Int) (t u : Ten) (ks : List Int) : Ten := if pairP k p n t u ks then pairT k p n (dimJ t u) t u (keepL t u ks) else ⟨[], [], []⟩
theorem PairNo {k p n : Int} {t u : Ten} {ks : List Int} (h : ¬ pairP k p n t u ks) : TenB (pairR k p n t u ks) (pairB k p n t u ks) (.tuple [tenV (.slice none 0 0) (.slice none 0 0) (.slice none 0 0), .bool false].toArray) emp :=
  ⟨.slice none 0 0, .slice none 0 0, .slice none 0 0, by simp [pairB, h], by rw [pairR, if_neg h]; exact triO_none⟩
theorem PairYes {k p n : Int} {t u : Ten} {ks : List Int} {a b c : Value} {h : PH} (hp : pairP k p n t u ks) (r : TriO (pairT k p n (dimJ t u) t u (keepL t u ks)) a b c h) : TenB (pairR k p n t u ks) (pairB k p n t u ks) (.tuple [tenV a b c, .bool true].toArray) h :=
  ⟨a, b, c, by simp [pairB, hp], by rw [pairR, if_pos hp]; exact r⟩
theorem pairP.dims {k p n : Int} {t u : Ten} (h1 : tensorL k p n t.l t.d t.x) (h2 : tensorL k p n u.l u.d u.x) (h3 : ¬ mism t u) : t.d = t.l.map (dimJ t u) ∧ u.d = u.l.map (dimJ t u) ∧ joinD t u = (joinI t.l u.l).map (dimJ t u) := by
  have e1 := dimJ_l (u := u) (axes_nodup (ten_axes h1)) (ten_axes h1).2.1
  have e2 := dimJ_r (axes_nodup (ten_axes h2)) (ten_axes h2).2.1 h3
  exact ⟨e1, e2, joinD_map e1 e2⟩
theorem pair_ok {k p n : Int} {t u : Ten} (h1 : tensorL k p n t.l t.d t.x) (h2 : tensorL k p n u.l u.d u.x) (h3 : ¬ mism t u) (h4 : prodI (joinD t u) ≤ 65536) : PairOK k p n t u (dimJ t u) := by
  have e := pairP.dims h1 h2 h3
  exact ⟨h1, h2, e.1, e.2.1, by rw [← e.2.2]; exact h4⟩
theorem keep_ok {k p n : Int} {t u : Ten} {ks : List Int} (ok : PairOK k p n t u (dimJ t u)) (h : 0 ≤ sizeI (keepL t u ks) ((keepL t u ks).map (dimJ t u))) : KeepOK t u (dimJ t u) (keepL t u ks) :=
  ⟨fun l hl => (List.mem_filter.1 hl).1, List.Pairwise.filter _ ok.nd, (sizeI_ge.1 h).2⟩
theorem selP_prod (p : Int → Bool) : ∀ ls ds : List Int, (∀ d ∈ ds, 1 ≤ d) → 1 ≤ prodI (selP p ls ds) ∧ prodI (selP p ls ds) ≤ prodI ds
  | [], ds, h => by
    have := prodI_one h
    cases ds <;> simp [selP, prodI] at * <;> omega
  | l :: ls, [], _ => by simp [selP, prodI]
  | l :: ls, d :: ds, h => by
    have ih := selP_prod p ls ds (fun x hx => h x (by simp [hx]))
    have hd := h d (by simp)
    simp only [selP]
    have h1 : 1 * prodI ds ≤ d * prodI ds := Int.mul_le_mul_of_nonneg_right hd (by omega)
    split
    · rw [prodI_cons, prodI_cons]
      have h2 : d * prodI (selP p ls ds) ≤ d * prodI ds := Int.mul_le_mul_of_nonneg_left ih.2 (by omega)
      have h3 : 1 * 1 ≤ d * prodI (selP p ls ds) := Int.mul_le_mul hd ih.1 (by omega) (by omega)
      omega
    · rw [prodI_cons]; omega
theorem joinD_prod {k p n : Int} {t u : Ten} (h1 : tensorL k p n t.l t.d t.x) (h2 : tensorL k p n u.l u.d u.x) : dimsIn (joinD t u) ∧ 1 ≤ prodI (joinD t u) ∧ prodI (joinD t u) ≤ 16777216 := by
  have a1 := dims_mem (axes_dims (ten_axes h1))
  have a2 := dims_mem (axes_dims (ten_axes h2))
  have p1 := prodI_one fun d hd => (a1 d hd).1
  have s := selP_prod (fun x => decide (x ∉ t.l)) u.l u.d fun d hd => (a2 d hd).1
  have b1 := ten_prod h1
  have b2 := ten_prod h2
  have hm : ∀ (p : Int → Bool) (ls ds : List Int) d, d ∈ selP p ls ds → d ∈ ds := by
    intro p ls
    induction ls with
    | nil => intro ds d hd; cases ds <;> simp [selP] at hd
    | cons l ls ih =>
      intro ds d hd
      cases ds with
      | nil => simp [selP] at hd
      | cons e ds =>
        simp only [selP] at hd
        split at hd
        · rcases List.mem_cons.1 hd with rfl | hd
          · simp
          · exact List.mem_cons_of_mem _ (ih ds d hd)
        · exact List.mem_cons_of_mem _ (ih ds d hd)
  refine ⟨fun j hj => ?_, ?_⟩
  · have := mem_getD hj
    rcases List.mem_append.1 this with h | h
    · exact a1 _ h
    · exact a2 _ (hm _ _ _ _ h)
  · rw [joinD, prodI_append]
    have h3 : 1 * 1 ≤ prodI t.d * prodI (selP (fun x => decide (x ∉ t.l)) u.l u.d) := Int.mul_le_mul p1 s.1 (by omega) (by omega)
    have h4 : prodI t.d * prodI (selP (fun x => decide (x ∉ t.l)) u.l u.d) ≤ 4096 * 4096 := Int.mul_le_mul b1 (by omega) (by omega) (by omega)
    omega
theorem ct_u_joinAxes (t u : Ten) (a b c a' b' c' : Value) (w : World) (r1 : IntsR t.l a (hp w)) (r2 : IntsR t.d b (hp w)) (r3 : IntsR t.x c (hp w)) (r1' : IntsR u.l a' (hp w)) (r2' : IntsR u.d b' (hp w)) (r3' : IntsR u.x c' (hp w)) (ht : t.l.length = t.d.length) (hu : u.l.length = u.d.length) (htn : t.l.Nodup) (hn : u.l.Nodup) (hs : t.l.length + u.l.length ≤ 100000) :
    Calls Tryz.prog 161 [tenV a b c, tenV a' b' c'].toArray w (Ret w emp (fun x h => ∃ v1 v2 bb L D, x = .tuple [v1, v2, .bool bb].toArray ∧ IntsR L v1 h ∧ IntsR D v2 h ∧ (bb = true ↔ ¬ mism t u) ∧ (bb = true → L = joinI t.l u.l ∧ D = joinD t u))) :=
  (ct_i_joinAxes t u a b c a' b' c' w r1 r2 r3 r1' r2' r3' ht hu htn hn hs).mono fun _ _ hh => by
    obtain ⟨x, h', h1, h2, h3⟩ := hh
    refine ⟨x, h', h1, h2, ?_⟩
    by_cases hm : mism t u
    · exact ⟨_, _, false, [], [], h3.1 hm, IntsR.nil _, IntsR.nil _, ⟨fun e => (by cases e), fun e => absurd hm e⟩, fun e => (by cases e)⟩
    · obtain ⟨v1, v2, e, q1, q2⟩ := h3.2 hm
      exact ⟨v1, v2, true, _, _, e, q1, q2, ⟨fun _ => hm, fun _ => rfl⟩, fun _ => ⟨rfl, rfl⟩⟩
theorem setif_yes {A B L : List Int} {i j : Nat} {y z : Int} (hB : B = if y ∈ L.take j then A.set i z else A) (hj : j < L.length) (e : L.getD j 0 = y) : B.set i z = if y ∈ L.take (j + 1) then A.set i z else A := by
  rw [if_pos (by rw [take_succ hj, e]; simp), hB]
  split
  · rw [List.set_set]
  · rfl
theorem setif_no {A B L : List Int} {i j : Nat} {y z : Int} (hB : B = if y ∈ L.take j then A.set i z else A) (hj : j < L.length) (e : ¬ L.getD j 0 = y) : B = if y ∈ L.take (j + 1) then A.set i z else A := by
  have : y ∈ L.take (j + 1) ↔ y ∈ L.take j := by
    rw [take_succ hj, List.mem_append]
    exact ⟨fun h => h.resolve_right fun h => by simp at h; exact e h.symm, .inl⟩
  rw [hB]
  by_cases h : y ∈ L.take j
  · rw [if_pos h, if_pos (this.2 h)]
  · rw [if_neg h, if_neg fun h' => h (this.1 h')]
set_option maxHeartbeats 8000000 in
theorem ct_i_ContractPair (k p n : Int) (t u : Ten) (ks : List Int) (a b c a' b' c' v : Value) (w : World) (r1 : IntsR t.l a (hp w)) (r2 : IntsR t.d b (hp w)) (r3 : IntsR t.x c (hp w)) (r1' : IntsR u.l a' (hp w)) (r2' : IntsR u.d b' (hp w)) (r3' : IntsR u.x c' (hp w)) (rk : IntsR ks v (hp w)) :
    Calls Tryz.prog 101 [ringV k p n, tenV a b c, tenV a' b' c', v].toArray w (Ret w emp (TenB (pairR k p n t u ks) (pairB k p n t u ks))) := by
  have hkr : ∀ {L : List Int} {d : List Int}, 0 ≤ sizeI L d → L.length ≤ 12 ∧ d.length ≤ 12 ∧ dimsIn d := fun {L d} h => by
    have := (sizeI_ge.1 h).1
    have h1 := this.1
    have h2 := this.2.1
    exact ⟨h1, by omega, axes_dims this⟩
  refine calls_in Tryz.func101 rfl Tryz.ntmps101 rfl (Sat.start w) ?_
  have hle0 := r1.le
  have hle1 := r2.le
  have hle2 := r3.le
  have hle3 := r1'.le
  have hle4 := r2'.le
  have hle5 := r3'.le
  have hle6 := rk.le
  refine wp_sc ?_
  refine wp_sq ?_
  refine sq_x rfl (x_box rfl rfl) rfl ?_; rintro _ _ ⟨b4, rfl, rfl⟩
  refine sq_x rfl (x_box rfl rfl) rfl ?_; rintro _ _ ⟨b5, rfl, rfl⟩
  refine sq_x rfl (x_box rfl rfl) rfl ?_; rintro _ _ ⟨b6, rfl, rfl⟩
  refine sq_x rfl (x_alloc ty_44 rfl) rfl ?_; rintro _ _ ⟨b8, rfl, rfl⟩
  refine sq_v rfl (v_assign rfl) rfl ?_
  refine sq_end ?_
  refine qs_n ?_
  refine wp_sc ?_
  refine wp_sc ?_
  refine wp_sq ?_
  refine sq_v rfl (v_loadNB 3 ty_31 rfl rfl rfl rfl) rfl ?_
  refine sq_v rfl (v_loadNB 2 ty_44 rfl rfl rfl rfl) rfl ?_
  refine sq_u rfl (x_callv rfl en_125 (fun w s => ct_i_TensorOk _ _ _ _ _ _ _ _ _ w (r1.mono (s.get 4 rfl)) (r2.mono (s.get 4 rfl)) (r3.mono (s.get 4 rfl)))) rfl ?_
  refine sq_bb 26 rfl (fun c26 => ?_) (fun c26 => ?_)
  · refine sq_v rfl (v_not rfl) rfl ?_
    refine sq_v rfl (v_move rfl) rfl ?_
    refine sq_v rfl (v_loadNB 3 ty_31 rfl rfl rfl rfl) rfl ?_
    refine sq_v rfl (v_loadNB 1 ty_44 rfl rfl rfl rfl) rfl ?_
    refine sq_u rfl (x_callv rfl en_125 (fun w s => ct_i_TensorOk _ _ _ _ _ _ _ _ _ w (r1'.mono (s.get 4 rfl)) (r2'.mono (s.get 4 rfl)) (r3'.mono (s.get 4 rfl)))) rfl ?_
    refine sq_v rfl (v_not rfl) rfl ?_
    refine sq_v rfl (v_pickf rfl rfl) rfl ?_
    refine sq_end ?_
    refine qs_n ?_
    refine wp_cn _ rfl (fun c33 => ?_) (fun c33 => ?_)
    · refine wp_sc ?_
      refine wp_sq ?_
      refine sq_v rfl (v_build [.slice none 0 0, .slice none 0 0, .slice none 0 0] rfl (by kernel_rfl)) rfl ?_
      refine sq_m 0 rfl rfl (m_store 0 ty_44 rfl rfl rfl rfl (by simp [one_sl]) rfl (Nat.le_of_ble_eq_true rfl)) rfl ?_; rintro _ _ ⟨rfl, rfl⟩
      refine sq_v rfl (v_assign rfl) rfl ?_
      refine sq_end ?_
      refine qs_n ?_
      refine wp_rt ?_
      refine qs_r ?_
      exact qs_retct 0 rfl ty_44 rfl rfl rfl rfl (fin_e (i := 4) rfl (PairNo (fun h => by first | exact tensorB_false.1 c26 h.1 | exact tensorB_false.1 c33 h.2.1)))
    · refine wp_sk ?_
      refine qs_n ?_
      refine wp_sc ?_
      refine wp_sq ?_
      have h1 := tensorB_true.1 c26; have h2 := tensorB_true.1 c33; have hat := ten_axes h1; have hau := ten_axes h2; have htl := hat.2.1; have hul := hau.2.1; have h12 := hat.1; have h12' := hau.1; have htn := axes_nodup hat; have hun := axes_nodup hau; have htp := ten_prod h1; have hup := ten_prod h2; have hjd := joinD_prod h1 h2
      refine sq_v rfl (v_loadNB 2 ty_44 rfl rfl rfl rfl) rfl ?_
      refine sq_v rfl (v_loadNB 1 ty_44 rfl rfl rfl rfl) rfl ?_
      refine sq_x rfl (x_call rfl en_161 (fun w s => ct_u_joinAxes _ _ _ _ _ _ _ _ w (r1.mono (s.get 4 rfl)) (r2.mono (s.get 4 rfl)) (r3.mono (s.get 4 rfl)) (r1'.mono (s.get 4 rfl)) (r2'.mono (s.get 4 rfl)) (r3'.mono (s.get 4 rfl)) (by first | assumption | omega) (by first | assumption | omega) (by first | assumption | omega) (by first | assumption | omega) (by first | assumption | omega))) rfl ?_; rintro _ h38 ⟨v1, v2, bb, L, D, rfl, q1, q2, hbb, hLD⟩
      refine sq_v rfl (v_move rfl) rfl ?_
      refine sq_v rfl (v_extract rfl rfl) rfl ?_
      refine sq_v rfl (v_extract rfl rfl) rfl ?_
      refine sq_v rfl (v_extract rfl rfl) rfl ?_
      refine sq_v rfl (v_assign rfl) rfl ?_
      refine sq_v rfl (v_assign rfl) rfl ?_
      refine sq_v rfl (v_assign rfl) rfl ?_
      refine sq_end ?_
      refine qs_n ?_
      refine wp_sc ?_
      refine wp_sc ?_
      refine wp_sq ?_
      refine sq_bb 12 rfl (fun c12 => ?_) (fun c12 => ?_)
      · refine sq_v rfl (v_move rfl) rfl ?_
        refine sq_v rfl (v_not rfl) rfl ?_
        refine sq_v rfl (v_move rfl) rfl ?_
        refine sq_v rfl (v_move rfl) rfl ?_
        have hnm := hbb.1 c12; obtain ⟨eL, eD⟩ := hLD c12; rw [← eD] at hjd; have hjd1 := hjd.1; have hjl := joinI_len t.l u.l; rw [← eL] at hjl
        refine sq_u rfl (x_callv rfl en_138 (fun w s => ct_i_productOf _ _ w (q2.mono (s.get 0 rfl)) (by first | assumption | omega) (by first | assumption | omega))) rfl ?_
        refine sq_v rfl (v_gtr rfl rfl) rfl ?_
        refine sq_v rfl (v_pickf rfl rfl) rfl ?_
        refine sq_end ?_
        refine qs_n ?_
        refine wp_cd rfl (fun c48 => ?_) (fun c48 => ?_)
        · refine wp_sc ?_
          refine wp_sq ?_
          refine sq_v rfl (v_build [.slice none 0 0, .slice none 0 0, .slice none 0 0] rfl (by kernel_rfl)) rfl ?_
          refine sq_m 1 rfl rfl (m_store 1 ty_44 rfl rfl rfl rfl (by simp [one_sl]) rfl (Nat.le_of_ble_eq_true rfl)) rfl ?_; rintro _ _ ⟨rfl, rfl⟩
          refine sq_v rfl (v_assign rfl) rfl ?_
          refine sq_end ?_
          refine qs_n ?_
          refine wp_rt ?_
          refine qs_r ?_
          exact qs_retct 1 rfl ty_44 rfl rfl rfl rfl (fin_e (i := 5) rfl (PairNo (fun h => by first | exact absurd (c12.symm.trans (hbb.2 h.2.2.1)) (by decide) | (have := h.2.2.2.1; rw [← eD] at this; omega))))
        · refine wp_sk ?_
          refine qs_n ?_
          refine wp_sc ?_
          refine wp_sq ?_
          refine sq_v rfl (v_move rfl) rfl ?_
          refine sq_v rfl (v_move rfl) rfl ?_
          refine sq_x rfl (x_call rfl en_162 (fun w s => ct_i_keptOnly _ _ _ _ w (q1.mono (s.get 0 rfl)) (rk.mono (s.get 5 rfl)) (by first | assumption | omega))) rfl ?_; rintro v52 h52 r52
          refine sq_v rfl (v_assign rfl) rfl ?_
          refine sq_end ?_
          obtain ⟨K, hK⟩ : ∃ K, K = L.filter (fun x => decide (x ∈ ks)) := ⟨_, rfl⟩
          have hfl := List.length_filter_le (fun x => decide (x ∈ ks)) L
          rw [← hK] at r52 hfl
          have hKk : K = keepL t u ks := by rw [hK, eL, keepL]
          have ok := pair_ok h1 h2 hnm (by rw [← eD]; omega)
          obtain ⟨ht, hu, eJ⟩ := pairP.dims h1 h2 hnm
          obtain ⟨f, hf⟩ : ∃ f, f = dimJ t u := ⟨_, rfl⟩
          rw [← hf] at ok ht hu eJ
          have eDf : D = L.map f := by rw [eD, eJ, eL]
          have hDL : D.length = L.length := by rw [eDf]; simp
          have hKm : (K.map f).length = K.length := by simp
          have hKL : ∀ x ∈ K, x ∈ L := fun x hx => by rw [hK] at hx; exact (List.mem_filter.1 hx).1
          refine qs_n ?_
          refine wp_sc ?_
          refine wp_sq ?_
          refine sq_v rfl (v_move rfl) rfl ?_
          refine sq_v rfl (v_move rfl) rfl ?_
          refine sq_v rfl (v_len Tryz.underlying25 rfl r52.toR.sl) rfl ?_
          refine sq_x rfl (x_makeI Tryz.underlying25 ty_3 rfl rfl (by first | omega | (simp only [List.length_cons, List.length_nil]; omega) | (simp only [List.length_append, List.length_cons, List.length_nil]; omega) | (rw [List.length_set]; omega) | (rw [List.length_replicate]; omega) | (simp; omega)) (by first | omega | (simp only [List.length_cons, List.length_nil]; omega) | (simp only [List.length_append, List.length_cons, List.length_nil]; omega) | (rw [List.length_set]; omega) | (rw [List.length_replicate]; omega) | (simp; omega)) (by first | omega | (simp only [List.length_cons, List.length_nil]; omega) | (simp only [List.length_append, List.length_cons, List.length_nil]; omega) | (rw [List.length_set]; omega) | (rw [List.length_replicate]; omega) | (simp; omega))) rfl ?_; intro v56 h56 r56
          refine sq_v rfl (v_build [v52, v56, .slice none 0 0] rfl (by obtain ⟨_, _, rfl⟩ := r52.toR.sl; obtain ⟨_, _, rfl⟩ := r56.toR.sl; kernel_rfl)) rfl ?_
          refine sq_x rfl (x_alloc ty_44 rfl) rfl ?_; rintro _ _ ⟨b14, rfl, rfl⟩
          refine sq_m 0 rfl rfl (m_store 0 ty_44 rfl rfl rfl rfl (by simp [r52.toR.sl.one, r56.toR.sl.one, one_sl]) rfl (Nat.le_of_ble_eq_true rfl)) rfl ?_; rintro _ _ ⟨rfl, rfl⟩
          refine sq_end ?_
          refine qs_n ?_
          refine wp_sc ?_
          refine wp_sc ?_
          refine wp_sq ?_
          refine sq_v rfl (v_move rfl) rfl ?_
          refine sq_v rfl (v_len Tryz.underlying25 rfl r52.toR.sl) rfl ?_
          refine sq_v rfl (v_move rfl) rfl ?_
          refine sq_end ?_
          refine qs_n ?_
          refine wp_bl ?_
          refine wp_lp (σ := Nat × PH) (fun z_ => [(4, .pointer (some ⟨b4, 0, none⟩)), (5, .pointer (some ⟨b5, 0, none⟩)), (6, .pointer (some ⟨b6, 0, none⟩)), (8, .pointer (some ⟨b8, 0, none⟩)), (9, .bool false), (10, v1), (11, v2), (14, .pointer (some ⟨b14, 0, none⟩)), (58, v52), (59, num K.length), (60, num z_.1)]) (fun z_ => [box b14 [v52, v56, .slice none 0 0] 44, z_.2, h52, h38, box b8 [.slice none 0 0, .slice none 0 0, .slice none 0 0] 44, box b6 [a', b', c'] 44, box b5 [a, b, c] 44, box b4 [num k, num p, num n] 31, hp w]) (fun z_ => z_.1 ≤ K.length ∧ IntsO ((K.map f).take z_.1 ++ List.replicate ((K.map f).length - z_.1) 0) v56 z_.2) (fun z_ => K.length - z_.1) (0, h56) (⟨by (try dsimp only); omega, by (try dsimp only); simpa using r56⟩) ⟨rfl, rfl, rfl, rfl, rfl, rfl, rfl, rfl, rfl, rfl, (by first | rfl | exact ksub rfl (by first | omega | (simp; done) | (simp; omega))), trivial⟩ (fun _ s => s) ?_
          rintro ⟨i, g⟩ ⟨hi, q⟩
          dsimp only at hi q ⊢
          have hle_q := q.toR.le
          have hll : ((K.map f).take i ++ List.replicate ((K.map f).length - i) 0).length = K.length := by simp; omega
          refine wp_sc ?_
          refine wp_sq ?_
          refine sq_v rfl (v_lss rfl rfl) rfl ?_
          refine sq_end ?_
          refine qs_n ?_
          refine wp_sc ?_
          refine wp_cd rfl (fun c61 => ?_) (fun c61 => ?_)
          · refine wp_sk ?_
            refine qs_n ?_
            refine wp_sc ?_
            refine wp_bl ?_
            refine wp_sc ?_
            refine wp_sq ?_
            refine sq_v rfl (v_move rfl) rfl ?_
            refine sq_v rfl (v_idxI Tryz.underlying25 ty_3 rfl rfl r52.toR (by first | omega | (simp only [List.length_cons, List.length_nil]; omega) | (simp only [List.length_append, List.length_cons, List.length_nil]; omega) | (rw [List.length_set]; omega) | (rw [List.length_replicate]; omega) | (simp; omega)) (by first | omega | (simp only [List.length_cons, List.length_nil]; omega) | (simp only [List.length_append, List.length_cons, List.length_nil]; omega) | (rw [List.length_set]; omega) | (rw [List.length_replicate]; omega) | (simp; omega))) rfl ?_
            refine sq_v rfl (v_loadI (k := i) 2 ty_3 rfl rfl r52.toR (by first | omega | (simp only [List.length_cons, List.length_nil]; omega) | (simp only [List.length_append, List.length_cons, List.length_nil]; omega) | (rw [List.length_set]; omega) | (rw [List.length_replicate]; omega) | (simp; omega))) rfl ?_
            refine sq_v rfl (v_assign rfl) rfl ?_
            refine sq_v rfl (v_assign rfl) rfl ?_
            refine sq_end ?_
            refine qs_n ?_
            refine wp_sc ?_
            refine wp_sq ?_
            refine sq_v rfl (v_move rfl) rfl ?_
            refine sq_v rfl (v_len Tryz.underlying25 rfl q1.sl) rfl ?_
            refine sq_v rfl (v_move rfl) rfl ?_
            refine sq_end ?_
            refine qs_n ?_
            refine wp_bl ?_
            refine wp_lp (σ := Nat × (List Int) × PH) (fun z_ => [(4, .pointer (some ⟨b4, 0, none⟩)), (5, .pointer (some ⟨b5, 0, none⟩)), (6, .pointer (some ⟨b6, 0, none⟩)), (8, .pointer (some ⟨b8, 0, none⟩)), (9, .bool false), (10, v1), (11, v2), (14, .pointer (some ⟨b14, 0, none⟩)), (15, num i), (16, num (K.getD i 0)), (58, v52), (59, num K.length), (60, num i), (61, .bool (decide ((i : Int) < K.length))), (62, num i), (64, num (K.getD i 0)), (65, v1), (66, num L.length), (67, num z_.1)]) (fun z_ => [box b14 [v52, v56, .slice none 0 0] 44, z_.2.2, h52, h38, box b8 [.slice none 0 0, .slice none 0 0, .slice none 0 0] 44, box b6 [a', b', c'] 44, box b5 [a, b, c] 44, box b4 [num k, num p, num n] 31, hp w]) (fun z_ => z_.1 ≤ L.length ∧ (z_.2.1 = if K.getD i 0 ∈ L.take z_.1 then ((K.map f).take i ++ List.replicate ((K.map f).length - i) 0).set i (f (K.getD i 0)) else ((K.map f).take i ++ List.replicate ((K.map f).length - i) 0)) ∧ z_.2.1.length = K.length ∧ IntsO z_.2.1 v56 z_.2.2) (fun z_ => L.length - z_.1) (0, ((K.map f).take i ++ List.replicate ((K.map f).length - i) 0), g) (⟨by (try dsimp only); omega, by (try dsimp only); simp, hll, q⟩) ⟨rfl, rfl, rfl, rfl, rfl, rfl, rfl, rfl, rfl, rfl, rfl, rfl, rfl, rfl, rfl, rfl, rfl, rfl, (by first | rfl | exact ksub rfl (by first | omega | (simp; done) | (simp; omega))), trivial⟩ (fun _ s => s) ?_
            rintro ⟨j, B, g2⟩ ⟨hj, hB, hBl, q2b⟩
            dsimp only at hj hB hBl q2b ⊢
            have hle_q2b := q2b.toR.le
            refine wp_sc ?_
            refine wp_sq ?_
            refine sq_v rfl (v_lss rfl rfl) rfl ?_
            refine sq_end ?_
            refine qs_n ?_
            refine wp_sc ?_
            refine wp_cd rfl (fun c68 => ?_) (fun c68 => ?_)
            · refine wp_sk ?_
              refine qs_n ?_
              refine wp_sc ?_
              refine wp_bl ?_
              refine wp_sc ?_
              refine wp_sq ?_
              refine sq_v rfl (v_move rfl) rfl ?_
              refine sq_v rfl (v_idxI Tryz.underlying25 ty_3 rfl rfl q1 (by first | omega | (simp only [List.length_cons, List.length_nil]; omega) | (simp only [List.length_append, List.length_cons, List.length_nil]; omega) | (rw [List.length_set]; omega) | (rw [List.length_replicate]; omega) | (simp; omega)) (by first | omega | (simp only [List.length_cons, List.length_nil]; omega) | (simp only [List.length_append, List.length_cons, List.length_nil]; omega) | (rw [List.length_set]; omega) | (rw [List.length_replicate]; omega) | (simp; omega))) rfl ?_
              refine sq_v rfl (v_loadI (k := j) 3 ty_3 rfl rfl q1 (by first | omega | (simp only [List.length_cons, List.length_nil]; omega) | (simp only [List.length_append, List.length_cons, List.length_nil]; omega) | (rw [List.length_set]; omega) | (rw [List.length_replicate]; omega) | (simp; omega))) rfl ?_
              refine sq_v rfl (v_assign rfl) rfl ?_
              refine sq_v rfl (v_assign rfl) rfl ?_
              refine sq_end ?_
              refine qs_n ?_
              refine wp_sc ?_
              refine wp_sq ?_
              refine sq_v rfl (v_move rfl) rfl ?_
              refine sq_v rfl (v_move rfl) rfl ?_
              refine sq_v rfl (v_eql rfl rfl) rfl ?_
              refine sq_end ?_
              refine qs_n ?_
              refine wp_cd rfl (fun c74 => ?_) (fun c74 => ?_)
              · refine wp_rj 8 [(0, true), (1, true), (2, true), (3, true), (4, true), (5, true), (6, true), (7, true), (8, false)] mixed_ok (by kernel_rfl) ?_
                refine rj_v rfl rfl (v_fieldAddr fd_44_1 ty_25 (by decide) rfl) rfl ?_
                refine rj_v rfl rfl (v_loadB 0 ty_25 rfl rfl rfl) rfl ?_
                refine rj_v rfl rfl (v_move rfl) rfl ?_
                refine rj_v rfl rfl (v_move rfl) rfl ?_
                refine rj_v rfl rfl (v_move rfl) rfl ?_
                refine rj_v rfl rfl (v_idxI Tryz.underlying25 ty_3 rfl rfl q2 (by first | omega | (simp only [List.length_cons, List.length_nil]; omega) | (simp only [List.length_append, List.length_cons, List.length_nil]; omega) | (rw [List.length_set]; omega) | (rw [List.length_replicate]; omega) | (simp; omega)) (by first | omega | (simp only [List.length_cons, List.length_nil]; omega) | (simp only [List.length_append, List.length_cons, List.length_nil]; omega) | (rw [List.length_set]; omega) | (rw [List.length_replicate]; omega) | (simp; omega))) rfl ?_
                refine rj_v rfl rfl (v_loadI (k := j) 3 ty_3 rfl rfl q2 (by first | omega | (simp only [List.length_cons, List.length_nil]; omega) | (simp only [List.length_append, List.length_cons, List.length_nil]; omega) | (rw [List.length_set]; omega) | (rw [List.length_replicate]; omega) | (simp; omega))) rfl ?_
                refine rj_v rfl rfl (v_idxI Tryz.underlying25 ty_3 rfl rfl q2b.toR (by first | omega | (simp only [List.length_cons, List.length_nil]; omega) | (simp only [List.length_append, List.length_cons, List.length_nil]; omega) | (rw [List.length_set]; omega) | (rw [List.length_replicate]; omega) | (simp; omega)) (by first | omega | (simp only [List.length_cons, List.length_nil]; omega) | (simp only [List.length_append, List.length_cons, List.length_nil]; omega) | (rw [List.length_set]; omega) | (rw [List.length_replicate]; omega) | (simp; omega))) rfl ?_
                refine rj_m 1 rfl rfl rfl rfl (m_storeI (k := i) 1 ty_3 rfl rfl rfl q2b (by first | omega | (simp only [List.length_cons, List.length_nil]; omega) | (simp only [List.length_append, List.length_cons, List.length_nil]; omega) | (rw [List.length_set]; omega) | (rw [List.length_replicate]; omega) | (simp; omega))) rfl ?_; rintro _ h_q15_8 ⟨rfl, q15_8⟩
                refine rj_end ?_
                have eDj : D.getD j 0 = f (K.getD i 0) := by rw [eDf, map_getD (by omega), c74]
                rw [eDj] at q15_8
                refine qs_bn ?_
                refine qs_n ?_
                refine wp_sq ?_
                refine sq_v rfl (v_add rfl rfl ((by unfold I64; omega))) rfl ?_
                refine sq_v rfl (v_move rfl) rfl ?_
                refine sq_end ?_
                exact qs_bk (j + 1, B.set i (f (K.getD i 0)), h_q15_8) ⟨by (try dsimp only); omega, setif_yes hB (by omega) c74, by (try dsimp only); rw [List.length_set]; exact hBl, q15_8⟩ (by simp only; omega) ⟨rfl, rfl, rfl, rfl, rfl, rfl, rfl, rfl, rfl, rfl, rfl, rfl, rfl, rfl, rfl, rfl, rfl, rfl, (by first | rfl | exact ksub rfl (by first | omega | (simp; done) | (simp; omega))), trivial⟩ (fun _ s => s)
              · refine wp_sk ?_
                refine qs_bn ?_
                refine qs_n ?_
                refine wp_sq ?_
                refine sq_v rfl (v_add rfl rfl ((by unfold I64; omega))) rfl ?_
                refine sq_v rfl (v_move rfl) rfl ?_
                refine sq_end ?_
                exact qs_bk (j + 1, B, g2) ⟨by (try dsimp only); omega, setif_no hB (by omega) c74, hBl, q2b⟩ (by simp only; omega) ⟨rfl, rfl, rfl, rfl, rfl, rfl, rfl, rfl, rfl, rfl, rfl, rfl, rfl, rfl, rfl, rfl, rfl, rfl, (by first | rfl | exact ksub rfl (by first | omega | (simp; done) | (simp; omega))), trivial⟩ (fun _ s => s)
            · refine wp_ex ?_
              refine qs_x ?_
              refine qs_x ?_
              refine qs_bx ?_
              refine qs_bn ?_
              refine qs_n ?_
              refine wp_sq ?_
              refine sq_v rfl (v_add rfl rfl ((by unfold I64; omega))) rfl ?_
              refine sq_v rfl (v_move rfl) rfl ?_
              refine sq_end ?_
              exact qs_bk (i + 1, g2) ⟨by (try dsimp only); omega, by (try dsimp only); rw [← set_prefix (by omega), map_getD (by omega)]; rw [if_pos (by rw [List.take_of_length_le (by omega)]; exact hKL _ (mem_getD (by omega)))] at hB; rw [← hB]; exact q2b⟩ (by simp only; omega) ⟨rfl, rfl, rfl, rfl, rfl, rfl, rfl, rfl, rfl, rfl, (by first | rfl | exact ksub rfl (by first | omega | (simp; done) | (simp; omega))), trivial⟩ (fun _ s => s)
          · refine wp_ex ?_
            refine qs_x ?_
            refine qs_x ?_
            refine qs_bx ?_
            refine qs_n ?_
            refine wp_sc ?_
            refine wp_sc ?_
            refine wp_sq ?_
            rw [List.take_of_length_le (by omega), show (K.map f).length - i = 0 by omega, List.replicate_zero, List.append_nil] at q;
            refine sq_v rfl (v_loadNB 0 ty_44 rfl rfl rfl rfl) rfl ?_
            refine sq_u rfl (x_callv rfl en_130 (fun w s => ct_i_TensorSize _ _ _ _ _ w (r52.toR.mono (s.get 2 rfl)) (q.toR.mono (s.get 1 rfl)))) rfl ?_
            refine sq_v rfl (v_eql rfl rfl) rfl ?_
            refine sq_end ?_
            refine qs_n ?_
            refine wp_cd rfl (fun c87 => ?_) (fun c87 => ?_)
            · refine wp_sc ?_
              refine wp_sq ?_
              refine sq_v rfl (v_build [.slice none 0 0, .slice none 0 0, .slice none 0 0] rfl (by kernel_rfl)) rfl ?_
              refine sq_m 4 rfl rfl (m_store 4 ty_44 rfl rfl rfl rfl (by simp [one_sl]) rfl (Nat.le_of_ble_eq_true rfl)) rfl ?_; rintro _ _ ⟨rfl, rfl⟩
              refine sq_v rfl (v_assign rfl) rfl ?_
              refine sq_end ?_
              refine qs_n ?_
              refine wp_rt ?_
              refine qs_r ?_
              exact qs_retct 4 rfl ty_44 rfl rfl rfl rfl (fin_e (i := 8) rfl (PairNo (fun h => by have := h.2.2.2.2; rw [← hKk, ← hf] at this; omega)))
            · refine wp_sk ?_
              refine qs_n ?_
              refine wp_sc ?_
              refine wp_rj 8 [(0, true), (1, true), (2, true), (3, true), (4, true), (5, true), (6, false), (7, false), (8, false)] mixed_ok (by kernel_rfl) ?_
              have hsz : 0 ≤ sizeI K (K.map f) := (by have := sizeI_range K (K.map f); omega); obtain ⟨hK1, hK2, hKi⟩ := hkr hsz; have hk : KeepOK t u f K := (by rw [hf, hKk]; rw [hf] at ok; exact keep_ok ok (by rw [← hKk, ← hf]; exact hsz)); have hKp := hk.small; have hwr := width_range h1.1; have hring := h1.1; have hzl := zeroL_len k p n
              refine rj_v rfl rfl (v_loadNB 7 ty_31 rfl rfl rfl rfl) rfl ?_
              refine rj_v rfl rfl (v_fieldAddr fd_44_0 ty_25 (by decide) rfl) rfl ?_
              refine rj_v rfl rfl (v_loadB 0 ty_25 rfl rfl rfl) rfl ?_
              refine rj_v rfl rfl (v_fieldAddr fd_44_1 ty_25 (by decide) rfl) rfl ?_
              refine rj_v rfl rfl (v_loadB 0 ty_25 rfl rfl rfl) rfl ?_
              refine rj_v rfl rfl (v_loadNB 7 ty_31 rfl rfl rfl rfl) rfl ?_
              refine rj_x rfl rfl (x_call rfl en_144 (fun w s => ct_i_rawZero _ _ _ w (by first | assumption | omega))) rfl ?_; rintro v95 h95 r95
              refine rj_x rfl rfl (x_call rfl en_86 (fun w s => ct_i_fillTensor _ _ _ _ _ _ _ _ _ w (r52.toR.mono (s.get 3 rfl)) (q.toR.mono (s.get 2 rfl)) (r95.toR.mono (s.get 0 rfl)) (by first | assumption | omega) (by first | assumption | omega) (by first | assumption | omega) (by first | assumption | omega) (by first | assumption | omega))) rfl ?_; rintro _ h96 ⟨va96, vb96, vc96, rfl, o96⟩
              refine rj_m 2 rfl rfl rfl rfl (m_store 2 ty_44 rfl rfl rfl rfl (by simp [o96.toR.1.sl.one, o96.toR.2.1.sl.one, o96.toR.2.2.sl.one]) rfl (Nat.le_of_ble_eq_true rfl)) rfl ?_; rintro _ _ ⟨rfl, rfl⟩
              refine rj_end ?_
              obtain ⟨go1, go2, go3, qo1, qo2, qo3, mdo⟩ := o96
              have hKd := map_dim ok.dim hk.sub
              have hnd := ok.nd
              have hDd := map_dim ok.dim (fun _ h => h)
              rw [← eL] at hnd hDd
              rw [← eDf] at hDd
              have hD1 : ∀ d ∈ D, 1 ≤ d := fun d hd => (hDd d hd).1
              have hsA := stepsL_len L t.l t.d
              have hsB := stepsL_len L u.l u.d
              have hsC := stepsL_len L K (K.map f)
              have hA : ∀ a ∈ stepsL L t.l t.d, 0 ≤ a ∧ a ≤ 1048576 := fun a h => by have := steps_in (fun d hd => (dims_mem (axes_dims hat) d hd).1) a h; omega
              have hBs : ∀ a ∈ stepsL L u.l u.d, 0 ≤ a ∧ a ≤ 1048576 := fun a h => by have := steps_in (fun d hd => (dims_mem (axes_dims hau) d hd).1) a h; omega
              have hC : ∀ a ∈ stepsL L K (K.map f), 0 ≤ a ∧ a ≤ 1048576 := fun a h => by have := steps_in (fun d hd => (hKd d hd).1) a h; omega
              refine qs_s [h95, box b14 [va96, vb96, vc96] 44, g, h52, h38, box b8 [.slice none 0 0, .slice none 0 0, .slice none 0 0] 44, box b6 [a', b', c'] 44, box b5 [a, b, c] 44, box b4 [num k, num p, num n] 31, hp w, go1, go2, go3] (fun _ s => Sat.open (A := [h95, box b14 [va96, vb96, vc96] 44, g, h52, h38, box b8 [.slice none 0 0, .slice none 0 0, .slice none 0 0] 44, box b6 [a', b', c'] 44, box b5 [a, b, c] 44, box b4 [num k, num p, num n] 31, hp w]) mdo (s.pick [0, 1, 2, 3, 4, 5, 6, 7, 8, 9, 10] (by decide) rfl)) ?_
              refine qs_n ?_
              refine wp_sc ?_
              refine wp_rj 12 [(0, true), (1, true), (3, true), (4, true), (6, true), (7, true), (2, false), (5, false), (8, false), (9, true), (10, true), (11, true)] mixed_ok (by kernel_rfl) ?_
              refine rj_v rfl rfl (v_loadNB 7 ty_44 rfl rfl rfl rfl) rfl ?_
              refine rj_v rfl rfl (v_move rfl) rfl ?_
              refine rj_v rfl rfl (v_loadNB 6 ty_44 rfl rfl rfl rfl) rfl ?_
              refine rj_v rfl rfl (v_move rfl) rfl ?_
              refine rj_v rfl rfl (v_loadNB 1 ty_44 rfl rfl rfl rfl) rfl ?_
              refine rj_v rfl rfl (v_move rfl) rfl ?_
              refine rj_x rfl rfl (x_call rfl en_163 (fun w s => ct_i_stridesOf _ _ _ _ _ _ _ w (r1.mono (s.get 9 rfl)) (r2.mono (s.get 9 rfl)) (q1.mono (s.get 4 rfl)) (by first | assumption | omega) (dims_mem (axes_dims hat)) (by first | assumption | omega) (by first | assumption | omega))) rfl ?_; rintro v99 h99 r99
              refine rj_x rfl rfl (x_call rfl en_163 (fun w s => ct_i_stridesOf _ _ _ _ _ _ _ w (r1'.mono (s.get 10 rfl)) (r2'.mono (s.get 10 rfl)) (q1.mono (s.get 5 rfl)) (by first | assumption | omega) (dims_mem (axes_dims hau)) (by first | assumption | omega) (by first | assumption | omega))) rfl ?_; rintro v102 h102 r102
              refine rj_x rfl rfl (x_call rfl en_163 (fun w s => ct_i_stridesOf K (K.map f) _ _ _ _ _ w (qo1.toR.mono (s.get 12 rfl)) (qo2.toR.mono (s.get 13 rfl)) (q1.mono (s.get 6 rfl)) (by first | assumption | omega) hKd (by first | assumption | omega) (by first | assumption | omega))) rfl ?_; rintro v105 h105 r105
              refine rj_v rfl rfl (v_assign rfl) rfl ?_
              refine rj_v rfl rfl (v_assign rfl) rfl ?_
              refine rj_v rfl rfl (v_assign rfl) rfl ?_
              refine rj_end ?_
              refine qs_n ?_
              refine wp_sc ?_
              refine wp_sq ?_
              refine sq_v rfl (v_move rfl) rfl ?_
              refine sq_v rfl (v_len Tryz.underlying25 rfl q1.sl) rfl ?_
              refine sq_x rfl (x_makeI Tryz.underlying25 ty_3 rfl rfl (by first | omega | (simp only [List.length_cons, List.length_nil]; omega) | (simp only [List.length_append, List.length_cons, List.length_nil]; omega) | (rw [List.length_set]; omega) | (rw [List.length_replicate]; omega) | (simp; omega)) (by first | omega | (simp only [List.length_cons, List.length_nil]; omega) | (simp only [List.length_append, List.length_cons, List.length_nil]; omega) | (rw [List.length_set]; omega) | (rw [List.length_replicate]; omega) | (simp; omega)) (by first | omega | (simp only [List.length_cons, List.length_nil]; omega) | (simp only [List.length_append, List.length_cons, List.length_nil]; omega) | (rw [List.length_set]; omega) | (rw [List.length_replicate]; omega) | (simp; omega))) rfl ?_; intro v108 h108 r108
              refine sq_v rfl (v_assign rfl) rfl ?_
              refine sq_end ?_
              refine qs_n ?_
              refine wp_sc ?_
              refine wp_sq ?_
              refine sq_v rfl (v_loadNB 12 ty_31 rfl rfl rfl rfl) rfl ?_
              refine sq_u rfl (x_callv rfl en_139 (fun w s => ct_i_rawWidth _ _ _ w)) rfl ?_
              refine sq_x rfl (x_makeI Tryz.underlying25 ty_3 rfl rfl (by first | omega | (simp only [List.length_cons, List.length_nil]; omega) | (simp only [List.length_append, List.length_cons, List.length_nil]; omega) | (rw [List.length_set]; omega) | (rw [List.length_replicate]; omega) | (simp; omega)) (by first | omega | (simp only [List.length_cons, List.length_nil]; omega) | (simp only [List.length_append, List.length_cons, List.length_nil]; omega) | (rw [List.length_set]; omega) | (rw [List.length_replicate]; omega) | (simp; omega)) (by first | omega | (simp only [List.length_cons, List.length_nil]; omega) | (simp only [List.length_append, List.length_cons, List.length_nil]; omega) | (rw [List.length_set]; omega) | (rw [List.length_replicate]; omega) | (simp; omega))) rfl ?_; intro v111 h111 r111
              refine sq_v rfl (v_assign rfl) rfl ?_
              refine sq_end ?_
              refine qs_n ?_
              refine wp_bl ?_
              refine wp_lp (σ := Nat × PH × PH × PH × (List Int)) (fun z_ => [(4, .pointer (some ⟨b4, 0, none⟩)), (5, .pointer (some ⟨b5, 0, none⟩)), (6, .pointer (some ⟨b6, 0, none⟩)), (8, .pointer (some ⟨b8, 0, none⟩)), (9, .bool false), (11, v2), (14, .pointer (some ⟨b14, 0, none⟩)), (19, v99), (20, v102), (21, v105), (22, v108), (23, v111)]) (fun z_ => [z_.2.2.2.1, z_.2.1, h105, h102, h99, h95, box b14 [va96, vb96, vc96] 44, g, h52, h38, box b8 [.slice none 0 0, .slice none 0 0, .slice none 0 0] 44, box b6 [a', b', c'] 44, box b5 [a, b, c] 44, box b4 [num k, num p, num n] 31, hp w, go1, go2, z_.2.2.1]) (fun z_ => z_.1 < (prodI D).toNat ∧ z_.2.2.2.2.length = (widthI k n).toNat ∧ IntsO (idxL D z_.1) v108 z_.2.1 ∧ IntsO (pairX k p n f t u K z_.1) vc96 z_.2.2.1 ∧ IntsO z_.2.2.2.2 v111 z_.2.2.2.1) (fun z_ => (prodI D).toNat - z_.1) (0, h108, go3, h111, (List.replicate (widthI k n : Int).toNat 0)) (⟨by (try dsimp only); omega, by (try dsimp only); simp, by (try dsimp only); rw [show ((0 : Nat) : Int) = 0 from rfl, idxL_zero, hDL]; simpa using r108, qo3, r111⟩) ⟨rfl, rfl, rfl, rfl, rfl, rfl, rfl, rfl, rfl, rfl, rfl, rfl, trivial⟩ (fun _ s => s) ?_
              rintro ⟨m, gi, gx, gz, zs⟩ ⟨hm, hzs, qi, qx, qz⟩
              dsimp only at hm hzs qi qx qz ⊢
              have hle_qi := qi.toR.le
              have hle_qx := qx.toR.le
              have hle_qz := qz.toR.le
              have hil := idxL_len D m
              have hii := idxL_in hD1 m
              have hib : ∀ b ∈ idxL D m, 0 ≤ b ∧ b ≤ 1048576 := all_of fun j hj => by have := hii.2 j (by omega); have := hjd1 j (by omega); omega
              have hpx := ok.small hk m
              have ex : dotL (stepsL L t.l t.d) (idxL D m) = atI f (joinI t.l u.l) t.l m := by rw [atI, ← ht, ← eL, ← eDf]
              have ey : dotL (stepsL L u.l u.d) (idxL D m) = atI f (joinI t.l u.l) u.l m := by rw [atI, ← hu, ← eL, ← eDf]
              have ez : dotL (stepsL L K (K.map f)) (idxL D m) = atI f (joinI t.l u.l) K m := by rw [atI, ← eL, ← eDf]
              have hx0 := ok.at_t m
              have hy0 := ok.at_u m
              have hz0 := ok.at_k hk m
              have hXr := ok.el_t m
              have hYr := ok.el_u m
              have hZr := (ok.all hk m).el hring hz0.1 hz0.2
              have hzf := ok.fits hk m
              rw [← ex] at hx0 hXr
              rw [← ey] at hy0 hYr
              rw [← ez] at hz0 hZr hzf
              have hMr := mulL_in hring hXr hYr
              have hxf := elt_fits ok.tt hx0.2
              have hyf := elt_fits ok.uu hy0.2
              have hz1 := Int.mul_nonneg hz0.1 (show 0 ≤ widthI k n by omega)
              have hz2 := Int.add_mul (dotL (stepsL L K (K.map f)) (idxL D m)) 1 (widthI k n)
              rw [Int.one_mul] at hz2
              have hMl := hMr.1
              refine wp_bl ?_
              refine wp_sc ?_
              refine wp_rj 14 [(0, true), (1, true), (2, true), (3, true), (4, true), (5, true), (8, true), (9, true), (10, true), (11, true), (6, false), (7, false), (12, false), (13, false), (14, false)] mixed_ok (by kernel_rfl) ?_
              refine rj_v rfl rfl (v_loadNB 13 ty_31 rfl rfl rfl rfl) rfl ?_
              refine rj_v rfl rfl (v_move rfl) rfl ?_
              refine rj_v rfl rfl (v_loadNB 13 ty_31 rfl rfl rfl rfl) rfl ?_
              refine rj_v rfl rfl (v_loadNB 12 ty_44 rfl rfl rfl rfl) rfl ?_
              refine rj_v rfl rfl (v_move rfl) rfl ?_
              refine rj_v rfl rfl (v_move rfl) rfl ?_
              refine rj_v rfl rfl (v_loadNB 13 ty_31 rfl rfl rfl rfl) rfl ?_
              refine rj_v rfl rfl (v_loadNB 11 ty_44 rfl rfl rfl rfl) rfl ?_
              refine rj_v rfl rfl (v_move rfl) rfl ?_
              refine rj_v rfl rfl (v_move rfl) rfl ?_
              refine rj_u rfl rfl (x_callv rfl en_165 (fun w s => ct_i_dotOf _ _ _ _ w (r99.toR.mono (s.get 4 rfl)) (qi.toR.mono (s.get 1 rfl)) (by first | assumption | omega) (by first | assumption | omega) (by first | assumption | omega) (by first | assumption | omega))) rfl ?_
              refine rj_u rfl rfl (x_callv rfl en_146 (fun w s => ct_i_rawElem _ _ _ _ _ _ _ _ w (by first | assumption | omega) (r3.mono (s.get 14 rfl)) (by first | assumption | omega) (by first | assumption | omega) (by first | assumption | omega))) rfl ?_
              refine rj_u rfl rfl (x_callv rfl en_165 (fun w s => ct_i_dotOf _ _ _ _ w (r102.toR.mono (s.get 3 rfl)) (qi.toR.mono (s.get 1 rfl)) (by first | assumption | omega) (by first | assumption | omega) (by first | assumption | omega) (by first | assumption | omega))) rfl ?_
              refine rj_u rfl rfl (x_callv rfl en_146 (fun w s => ct_i_rawElem _ _ _ _ _ _ _ _ w (by first | assumption | omega) (r3'.mono (s.get 14 rfl)) (by first | assumption | omega) (by first | assumption | omega) (by first | assumption | omega))) rfl ?_
              refine rj_m 0 rfl rfl rfl rfl (x_call rfl en_164 (fun w s => ct_i_mulInto _ _ _ _ _ _ _ _ _ w _ (by first | assumption | omega) (s.get 0 rfl) qz ((eltV_read r3 (by first | assumption | omega) (by first | assumption | omega) (by first | assumption | omega)).mono (s.getR 0 14 rfl rfl (by decide))) ((eltV_read r3' (by first | assumption | omega) (by first | assumption | omega) (by first | assumption | omega)).mono (s.getR 0 14 rfl rfl (by decide))) (by first | assumption | omega) (by first | assumption | omega) (by first | assumption | omega))) rfl ?_; rintro _ h126 r126
              refine rj_end ?_
              refine qs_n ?_
              refine wp_sc ?_
              refine wp_rj 8 [(0, true), (1, true), (2, true), (3, true), (4, true), (7, true), (5, false), (6, false), (8, false)] mixed_ok (by kernel_rfl) ?_
              refine rj_v rfl rfl (v_loadNB 13 ty_31 rfl rfl rfl rfl) rfl ?_
              refine rj_v rfl rfl (v_loadNB 13 ty_31 rfl rfl rfl rfl) rfl ?_
              refine rj_v rfl rfl (v_loadNB 6 ty_44 rfl rfl rfl rfl) rfl ?_
              refine rj_v rfl rfl (v_move rfl) rfl ?_
              refine rj_v rfl rfl (v_move rfl) rfl ?_
              refine rj_v rfl rfl (v_move rfl) rfl ?_
              refine rj_u rfl rfl (x_callv rfl en_165 (fun w s => ct_i_dotOf _ _ _ _ w (r105.toR.mono (s.get 2 rfl)) (qi.toR.mono (s.get 1 rfl)) (by first | assumption | omega) (by first | assumption | omega) (by first | assumption | omega) (by first | assumption | omega))) rfl ?_
              refine rj_u rfl rfl (x_callv rfl en_146 (fun w s => ct_i_rawElem _ _ _ _ _ _ _ _ w (by first | assumption | omega) (qx.toR.mono (s.get 17 rfl)) (by first | assumption | omega) (by first | assumption | omega) (by first | assumption | omega))) rfl ?_
              refine rj_m 17 rfl rfl rfl rfl (x_call rfl en_166 (fun w s => ct_i_addInto _ _ _ _ _ ((dotL (stepsL L K (K.map f)) (idxL D m) * widthI k n).toNat) (((dotL (stepsL L K (K.map f)) (idxL D m) + 1) * widthI k n).toNat) vc96 _ w _ (by first | assumption | omega) (s.get 17 rfl) qx (r126.toR.mono (s.getR 17 0 rfl rfl (by decide))) (by omega) (by omega) (by rw [hMl]; exact hZr) hMr)) rfl ?_; rintro _ h135 r135
              refine rj_end ?_
              rw [hMl] at r135
              refine qs_n ?_
              refine wp_sc ?_
              refine wp_sq ?_
              refine sq_v rfl (v_move rfl) rfl ?_
              refine sq_v rfl (v_move rfl) rfl ?_
              refine sq_m 1 rfl rfl (x_call rfl en_167 (fun w s => ct_i_nextIndex _ _ _ _ w _ (s.get 1 rfl) (q2.mono (s.getR 1 9 rfl rfl (by decide))) qi (by first | assumption | omega) (by first | assumption | omega) (by first | assumption | omega))) rfl ?_; rintro _ h138 ⟨rfl, r138⟩
              refine sq_v rfl (v_not rfl) rfl ?_
              refine sq_end ?_
              refine qs_n ?_
              refine wp_cnd rfl (fun c139 => ?_) (fun c139 => ?_)
              · refine wp_sc ?_
                refine wp_sq ?_
                refine sq_v rfl (v_loadNB 6 ty_44 rfl rfl rfl rfl) rfl ?_
                refine sq_m 10 rfl rfl (m_store 10 ty_44 rfl rfl rfl rfl (by simp [qo1.toR.sl.one, qo2.toR.sl.one, r135.toR.sl.one]) rfl (Nat.le_of_ble_eq_true rfl)) rfl ?_; rintro _ _ ⟨rfl, rfl⟩
                refine sq_v rfl (v_assign rfl) rfl ?_
                refine sq_end ?_
                refine qs_n ?_
                refine wp_rt ?_
                refine qs_br ?_
                refine qs_r ?_
                refine qs_br ?_
                refine qs_close [box b8 _ _, hp w] [go1, go2, h135] (fun _ s => s.pick [10, 14, 15, 16, 17] (by decide) rfl) (fun md => ?_)
                exact qs_retct 1 rfl ty_44 rfl rfl rfl rfl (fin_t 0 (i := 2) rfl rfl rfl (PairYes ⟨h1, h2, hnm, by rw [← eD]; omega, by rw [← hKk, ← hf]; exact hsz⟩ ⟨_, _, _, (by rw [← hKk, ← hf]; exact qo1), (by rw [← hKk, ← hf]; exact qo2), (by rw [← hKk, ← hf, pairT, ← eL, ← eDf, show (prodI D).toNat = m + 1 by omega, pairX, ← ex, ← ey, ← ez]; exact r135), md⟩))
              · refine wp_sk ?_
                refine qs_bn ?_
                exact qs_bk (m + 1, h138, h135, h126, mulL k p n (elt t.x (widthI k n) (dotL (stepsL L t.l t.d) (idxL D m))) (elt u.x (widthI k n) (dotL (stepsL L u.l u.d) (idxL D m)))) ⟨by (try dsimp only); omega, hMl, r138, by (try dsimp only); rw [pairX, ← ex, ← ey, ← ez]; exact r135, r126⟩ (by simp only; omega) ⟨rfl, rfl, rfl, rfl, rfl, rfl, rfl, rfl, rfl, rfl, rfl, rfl, trivial⟩ (fun _ s => s)
      · refine sq_v rfl (v_move rfl) rfl ?_
        refine sq_v rfl (v_not rfl) rfl ?_
        refine sq_v rfl (v_move rfl) rfl ?_
        refine sq_s rfl rfl ?_
        refine sq_s rfl rfl ?_
        refine sq_s rfl rfl ?_
        refine sq_v rfl (v_pickt rfl rfl) rfl ?_
        refine sq_end ?_
        refine qs_n ?_
        refine wp_ct rfl ?_
        refine wp_sc ?_
        refine wp_sq ?_
        refine sq_v rfl (v_build [.slice none 0 0, .slice none 0 0, .slice none 0 0] rfl (by kernel_rfl)) rfl ?_
        refine sq_m 1 rfl rfl (m_store 1 ty_44 rfl rfl rfl rfl (by simp [one_sl]) rfl (Nat.le_of_ble_eq_true rfl)) rfl ?_; rintro _ _ ⟨rfl, rfl⟩
        refine sq_v rfl (v_assign rfl) rfl ?_
        refine sq_end ?_
        refine qs_n ?_
        refine wp_rt ?_
        refine qs_r ?_
        exact qs_retct 1 rfl ty_44 rfl rfl rfl rfl (fin_e (i := 5) rfl (PairNo (fun h => by first | exact absurd (c12.symm.trans (hbb.2 h.2.2.1)) (by decide) | (have := h.2.2.2.1; rw [← eD] at this; omega))))
  · refine sq_v rfl (v_not rfl) rfl ?_
    refine sq_v rfl (v_move rfl) rfl ?_
    refine sq_s rfl rfl ?_
    refine sq_s rfl rfl ?_
    refine sq_s rfl rfl ?_
    refine sq_s rfl rfl ?_
    refine sq_v rfl (v_pickt rfl rfl) rfl ?_
    refine sq_end ?_
    refine qs_n ?_
    refine wp_ct rfl ?_
    refine wp_sc ?_
    refine wp_sq ?_
    refine sq_v rfl (v_build [.slice none 0 0, .slice none 0 0, .slice none 0 0] rfl (by kernel_rfl)) rfl ?_
    refine sq_m 0 rfl rfl (m_store 0 ty_44 rfl rfl rfl rfl (by simp [one_sl]) rfl (Nat.le_of_ble_eq_true rfl)) rfl ?_; rintro _ _ ⟨rfl, rfl⟩
    refine sq_v rfl (v_assign rfl) rfl ?_
    refine sq_end ?_
    refine qs_n ?_
    refine wp_rt ?_
    refine qs_r ?_
    exact qs_retct 0 rfl ty_44 rfl rfl rfl rfl (fin_e (i := 4) rfl (PairNo (fun h => by first | exact tensorB_false.1 c26 h.1 | exact tensorB_false.1 c33 h.2.1)))
end Go.Proofs.YtehjljijionhaaaGreat
namespace Go.Proofs.YtehjljijionhaaaGreat
set_option maxRecDepth 100000
open Go.RowKit
section
variable (P : Program) (n : Nat) (w0 : World)
def RAK (ops : Array Oper) (m : Nat) (Q : Exit → Act → World → Prop) (f : Nat) (listed : Array Bool) (K : Env) (HS HK : List PH) : Prop :=
  WkL HS HK → HeadInv .any ops m listed → (Region.noSelect ops && tailOK ops m) = true → ∀ (a : Act) (w : World), EnvOK n K a → Sat w0 HS w → RAny P ops Q (Sat w0 HK) m f listed a w
def ROK (ops : Array Oper) (m : Nat) (Q : Exit → Act → World → Prop) (f : Nat) (i : Nat) (listed : Array Bool) (K : Env) (HS HK : List PH) : Prop :=
  WkL HS HK → HeadInv .any ops m (listed.setIfInBounds i true) → (Region.noSelect ops && tailOK ops m) = true → ∀ (a : Act) (w : World), EnvOK n K a → Sat w0 HS w →
    wpOp P ops (OnlyN Q) i (fun a' w' => (i < m → Sat w0 HK w') ∧ RAny P ops Q (Sat w0 HK) m f (listed.setIfInBounds i true) a' w') a w
end
section
variable {P : Program} {n : Nat} {w0 : World} {K : Env} {HS HK : List PH} {Q : Exit → Act → World → Prop} {ops : Array Oper} {m f : Nat} {listed : Array Bool}
theorem rak_of (h : RAK P n w0 ops m Q f listed K HS HS) : RA P n w0 ops m Q f listed K HS := fun inv ht a w e s => h (WkL.refl HS) inv ht a w e s
theorem rak_yield {i : Nat} {oi : Oper} {v : Value} (hc : (decide (i < m) && (Region.ready .any ops listed).contains i && Region.free .any ops listed i) = true) (hi : ops[i]? = some oi) (hy : ∀ a, EnvOK n K a → YieldsIf P ops (Sat w0 HK) oi v a) (hf : fitsK n oi.dst = true)
    (k : RAK P n w0 ops m Q f (listed.setIfInBounds i true) (putK oi.dst v K) HS HK) : RAK P n w0 ops m Q (f + 1) listed K HS HK := fun hwk inv ht a w e s => by
  simp only [Bool.and_eq_true, decide_eq_true_eq] at hc
  obtain ⟨⟨him, hr⟩, hfr⟩ := hc
  have hr' : i ∈ Region.ready .any ops listed := by simpa using hr
  have ht' := ht
  rw [Bool.and_eq_true] at ht'
  exact rany_first hi (Region.noSelect_spec ht'.1) him ht'.2 _ listed a w inv (Region.free_spec hi hfr) hr' (hy a e) (hwk.sat s)
    (k hwk (inv.set hr' him) ht _ _ (e.put v hf) s)
theorem rak_v {i : Nat} {oi : Oper} {v : Value} (hc : (decide (i < m) && (Region.ready .any ops listed).contains i && Region.free .any ops listed i) = true) (hi : ops[i]? = some oi) (hw : wantK ops K oi.guard = some true) (hv : StepV P n w0 K HK oi v) (hf : fitsK n oi.dst = true)
    (k : RAK P n w0 ops m Q f (listed.setIfInBounds i true) (putK oi.dst v K) HS HK) : RAK P n w0 ops m Q (f + 1) listed K HS HK :=
  rak_yield hc hi (fun a e => .inl ⟨e.wanted hw, fun w s => hv a w e s⟩) hf k
theorem rak_alts {l : List Nat} (hc : (decide (Region.ready .any ops listed = l) && (l.all fun i => decide (i < m)) && !l.isEmpty) = true) (k : ∀ i ∈ l, ROK P n w0 ops m Q f i listed K HS HK) : RAK P n w0 ops m Q (f + 1) listed K HS HK := fun hwk inv ht a w e s => by
  simp only [Bool.and_eq_true, decide_eq_true_eq, List.all_eq_true, Bool.not_eq_true'] at hc
  obtain ⟨⟨hr, hm⟩, hne⟩ := hc
  refine ⟨fun h0 => (by rw [hr] at h0; rw [h0] at hne; cases hne), fun j hj => ?_⟩
  have hj' := hj
  rw [hr] at hj
  exact k j hj hwk (inv.set hj' (hm j hj)) ht a w e s
theorem rak_2 {i j : Nat} (hc : (decide (Region.ready .any ops listed = [i, j]) && ([i, j].all fun i => decide (i < m)) && !([i, j] : List Nat).isEmpty) = true) (k1 : ROK P n w0 ops m Q f i listed K HS HK) (k2 : ROK P n w0 ops m Q f j listed K HS HK) : RAK P n w0 ops m Q (f + 1) listed K HS HK :=
  rak_alts hc (fun x hx => by simp only [List.mem_cons, List.not_mem_nil, or_false] at hx; rcases hx with rfl | rfl <;> assumption)
theorem rok_x {i : Nat} {oi : Oper} {T : Value → PH → Prop} (hi : ops[i]? = some oi) (hw : wantK ops K oi.guard = some true) (hx : StepX P n w0 K HS oi emp T) (hf : fitsK n oi.dst = true)
    (k : ∀ v h', T v h' → RAK P n w0 ops m Q f (listed.setIfInBounds i true) (putK oi.dst v K) (h' :: HS) (h' :: HK)) : ROK P n w0 ops m Q f i listed K HS HK := fun hwk inv ht a w e s => by
  unfold wpOp
  simp only [hi]
  rw [if_pos (e.wanted hw)]
  refine .inl (Oper.wp_imp (hx a w e s) (fun a' w' ⟨v, h', ha, u, ht'⟩ => ?_) (fun _ _ _ f => f.elim))
  subst ha
  exact ⟨fun _ => hwk.sat (s.same u), rany_mono (fun _ t => t.drop) _ _ _ _ (k v h' ht' ⟨.inl rfl, hwk⟩ inv ht _ _ (e.put v hf) (s.new u))⟩
/-- What is made here may be turned ahead of the tail: nothing hoisted looks at it. -/
theorem rok_xb {i : Nat} {oi : Oper} {T : Value → PH → Prop} (hi : ops[i]? = some oi) (hw : wantK ops K oi.guard = some true) (hx : StepX P n w0 K HS oi emp T) (hf : fitsK n oi.dst = true)
    (k : ∀ v h', T v h' → RAK P n w0 ops m Q f (listed.setIfInBounds i true) (putK oi.dst v K) (h' :: HS) (emp :: HK)) : ROK P n w0 ops m Q f i listed K HS HK := fun hwk inv ht a w e s => by
  unfold wpOp
  simp only [hi]
  rw [if_pos (e.wanted hw)]
  refine .inl (Oper.wp_imp (hx a w e s) (fun a' w' ⟨v, h', ha, u, ht'⟩ => ?_) (fun _ _ _ f => f.elim))
  subst ha
  exact ⟨fun _ => hwk.sat (s.same u), rany_mono (fun _ t => t.drop) _ _ _ _ (k v h' ht' ⟨.inr rfl, hwk⟩ inv ht _ _ (e.put v hf) (s.new u))⟩
theorem rk_xb {r : List (Nat × Bool)} {i : Nat} {oi : Oper} {T : Value → PH → Prop} (hi : ops[i]? = some oi) (hw : wantK ops K oi.guard = some true) (hx : StepX P n w0 K HS oi emp T) (hf : fitsK n oi.dst = true)
    (k : ∀ v h', T v h' → RK P n w0 ops m Q r (listed.setIfInBounds i true) (putK oi.dst v K) (h' :: HS) (emp :: HK)) : RK P n w0 ops m Q ((i, false) :: r) listed K HS HK :=
  rk_only hi fun h1 h2 _ h4 h5 hwk a w e s => by
    unfold wpOp
    simp only [hi]
    rw [if_pos (e.wanted hw)]
    refine .inl (Oper.wp_imp (hx a w e s) (fun a' w' ⟨v, h', ha, u, ht⟩ => ?_) (fun _ _ _ f => f.elim))
    subst ha
    exact ⟨fun _ => hwk.sat (s.same u), rany_mono (fun _ t => t.drop) _ _ _ _ (k v h' ht ⟨.inr rfl, hwk⟩ (fun i' s' r' e' hlt => h5 (h1 i' s' r' e' hlt)) h2 h4 _ _ (e.put v hf) (s.new u))⟩
theorem rak_rk (order : List (Nat × Bool)) (hc : chk ops m order listed = true) (hl : f = order.length) (h : RK P n w0 ops m Q order listed K HS HK) : RAK P n w0 ops m Q f listed K HS HK := fun hwk inv ht a w e s => by
  rw [hl]
  exact h hwk (fun _ _ _ _ _ => inv) hc ht a w e s
end
end Go.Proofs.YtehjljijionhaaaGreat
namespace Go.Proofs.YtehjljijionhaaaGreat
set_option maxRecDepth 100000
open Go.RowKit
def oneT (k p n : Int) : Ten := ⟨[], [], oneL k p n⟩
theorem one_ten {k p n : Int} (h : ringL k p n) : tensorL k p n (oneT k p n).l (oneT k p n).d (oneT k p n).x := by
  have hs : sizeI [] [] = 1 := by
    have : axesL [] [] := ⟨by decide, rfl, fun j hj => by simp at hj⟩
    rw [sizeI_yes this (by decide)]; rfl
  have ho := oneL_in h
  have hw := width_range h
  refine ⟨h, by simp only [oneT]; omega, ?_, ho.2⟩
  have := ho.1
  simp only [oneT]
  rw [hs]
  omega
theorem one_mism (k p n : Int) (t : Ten) : ¬ mism t (oneT k p n) := by
  rintro ⟨i, hi, _⟩
  simp [oneT] at hi
theorem one_joinD (k p n : Int) (t : Ten) : joinD t (oneT k p n) = t.d := by simp [joinD, oneT, selP]
theorem keep_axes {k p n : Int} {t u : Ten} {f : Int → Int} {K : List Int} (ok : PairOK k p n t u f) (hs : ∀ l ∈ K, l ∈ joinI t.l u.l) (hn : K.Nodup) (h12 : K.length ≤ 12) : axesL K (K.map f) := by
  refine ⟨h12, by simp, fun j hj => ⟨?_, ?_, nodup_not_take hn hj⟩⟩
  · rcases mem_joinI.1 (hs _ (mem_getD hj)) with h | h
    · obtain ⟨i, hi, e⟩ := getD_of_mem h
      rw [← e]; exact ((ten_axes ok.tt).2.2 i hi).1
    · obtain ⟨i, hi, e⟩ := getD_of_mem h
      rw [← e]; exact ((ten_axes ok.uu).2.2 i hi).1
  · rw [map_getD hj]
    exact ok.dim _ (hs _ (mem_getD hj))
theorem sum_pair {k p n : Int} {t : Ten} (h : tensorL k p n t.l t.d t.x) (ks : List Int) : pairP k p n t (oneT k p n) ks := by
  have h1 := one_ten h.1
  have hm := one_mism k p n t
  have hp := ten_prod h
  have ok := pair_ok h h1 hm (by rw [one_joinD]; omega)
  have hd := pairP.dims h h1 hm
  have ej := hd.2.2
  refine ⟨h, h1, hm, by rw [one_joinD]; omega, sizeI_ge.2 ⟨keep_axes ok (fun l hl => (List.mem_filter.1 hl).1) (List.Pairwise.filter _ ok.nd) ?_, ?_⟩⟩
  · have h1 := List.length_filter_le (fun x => decide (x ∈ ks)) (joinI t.l (oneT k p n).l)
    have h2 := joinI_len t.l (oneT k p n).l
    have h3 := (ten_axes h).1
    have h4 : (oneT k p n).l.length = 0 := rfl
    unfold keepL
    omega
  · have hs := selP_prod (fun x => decide (x ∈ ks)) (joinI t.l (oneT k p n).l) (joinD t (oneT k p n)) (by rw [one_joinD]; exact fun d hd => (dims_mem (axes_dims (ten_axes h)) d hd).1)
    rw [ej, selP_map, ← ej, one_joinD] at hs
    exact Int.le_trans hs.2 hp
open Classical in
noncomputable def sumR (k p n : Int) (t : Ten) (ks : List Int) : Ten := if tensorL k p n t.l t.d t.x then pairT k p n (dimJ t (oneT k p n)) t (oneT k p n) (keepL t (oneT k p n) ks) else ⟨[], [], []⟩
theorem sumR_no {k p n : Int} {t : Ten} {ks : List Int} (h : ¬ tensorL k p n t.l t.d t.x) : TenT (sumR k p n t ks) (tenV (.slice none 0 0) (.slice none 0 0) (.slice none 0 0)) emp := by
  rw [sumR, if_neg h]; exact ⟨_, _, _, rfl, triO_none⟩
theorem sumR_pair {k p n : Int} {t : Ten} {ks : List Int} (h : tensorL k p n t.l t.d t.x) : pairR k p n t (oneT k p n) ks = sumR k p n t ks := by
  rw [sumR, if_pos h, pairR, if_pos (sum_pair h ks)]
set_option maxHeartbeats 2000000 in
theorem ct_s_l08Sum (k p n : Int) (t : Ten) (ks : List Int) (a b c v : Value) (w : World) (r1 : IntsR t.l a (hp w)) (r2 : IntsR t.d b (hp w)) (r3 : IntsR t.x c (hp w)) (rk : IntsR ks v (hp w)) (ht : tensorL k p n t.l t.d t.x) :
    Calls Tryz.prog 119 [ringV k p n, tenV a b c, v].toArray w (Ret w emp (TenT (sumR k p n t ks))) := by
  have hring := ht.1
  have hp := sum_pair ht ks
  have ok := pair_ok hp.1 hp.2.1 hp.2.2.1 hp.2.2.2.1
  have hk := keep_ok ok hp.2.2.2.2
  have h12 := (sizeI_ge.1 hp.2.2.2.2).1.1
  refine calls_in Tryz.func119 rfl Tryz.ntmps119 rfl (Sat.start w) ?_
  have hle0 := r1.le
  have hle1 := r2.le
  have hle2 := r3.le
  have hle3 := rk.le
  refine wp_sc ?_
  refine wp_sq ?_
  refine sq_x rfl (x_box rfl rfl) rfl ?_; rintro _ _ ⟨b3, rfl, rfl⟩
  refine sq_x rfl (x_box rfl rfl) rfl ?_; rintro _ _ ⟨b4, rfl, rfl⟩
  refine sq_x rfl (x_alloc ty_44 rfl) rfl ?_; rintro _ _ ⟨b6, rfl, rfl⟩
  refine sq_end ?_
  refine qs_n ?_
  refine wp_sc ?_
  refine wp_rj 7 [(0, true), (1, true), (2, true), (5, true), (3, false), (4, true), (6, false), (7, false)] mixed_ok (by kernel_rfl) ?_
  refine rj_v rfl rfl (v_loadNB 2 ty_31 rfl rfl rfl rfl) rfl ?_
  refine rj_v rfl rfl (v_loadNB 1 ty_44 rfl rfl rfl rfl) rfl ?_
  refine rj_v rfl rfl (v_loadNB 2 ty_31 rfl rfl rfl rfl) rfl ?_
  refine rj_v rfl rfl (v_move rfl) rfl ?_
  refine rj_x rfl rfl (x_call rfl en_68 (fun w s => ct_s_l02One _ _ _ w (by first | assumption | omega))) rfl ?_; rintro v10 h10 r10
  refine rj_v rfl rfl (v_build [.slice none 0 0, .slice none 0 0, v10] rfl (by obtain ⟨_, _, rfl⟩ := r10.toR.sl; kernel_rfl)) rfl ?_
  refine rj_x rfl rfl (x_call rfl en_99 (fun w s => ct_s_l08Pair _ _ _ _ (oneT k p n) (dimJ t (oneT k p n)) (keepL t (oneT k p n) ks) _ _ _ _ _ _ _ _ w (r1.mono (s.get 4 rfl)) (r2.mono (s.get 4 rfl)) (r3.mono (s.get 4 rfl)) (IntsR.nil _) (IntsR.nil _) (r10.toR.mono (s.get 0 rfl)) (rk.mono (s.get 4 rfl)) ok rfl hk h12)) rfl ?_; rintro _ h13 ⟨va13, vb13, vc13, rfl, o13⟩
  refine rj_m 2 rfl rfl rfl rfl (m_store 2 ty_44 rfl rfl rfl rfl (by simp [o13.toR.1.sl.one, o13.toR.2.1.sl.one, o13.toR.2.2.sl.one]) rfl (Nat.le_of_ble_eq_true rfl)) rfl ?_; rintro _ _ ⟨rfl, rfl⟩
  refine rj_end ?_
  refine qs_n ?_
  refine wp_rt ?_
  exact qs_retc 2 rfl ty_44 rfl rfl rfl (fin_t 0 (i := 5) rfl rfl rfl (by rw [sumR, if_pos ht]; exact ⟨_, _, _, rfl, o13⟩))
set_option maxHeartbeats 2000000 in
theorem ct_i_SumLabels (k p n : Int) (t : Ten) (ks : List Int) (a b c v : Value) (w : World) (r1 : IntsR t.l a (hp w)) (r2 : IntsR t.d b (hp w)) (r3 : IntsR t.x c (hp w)) (rk : IntsR ks v (hp w)) :
    Calls Tryz.prog 127 [ringV k p n, tenV a b c, v].toArray w (Ret w emp (TenT (sumR k p n t ks))) := by
  refine calls_in Tryz.func127 rfl Tryz.ntmps127 rfl (Sat.start w) ?_
  have hle0 := r1.le
  have hle1 := r2.le
  have hle2 := r3.le
  have hle3 := rk.le
  refine wp_sc ?_
  refine wp_sq ?_
  refine sq_x rfl (x_box rfl rfl) rfl ?_; rintro _ _ ⟨b3, rfl, rfl⟩
  refine sq_x rfl (x_box rfl rfl) rfl ?_; rintro _ _ ⟨b4, rfl, rfl⟩
  refine sq_x rfl (x_alloc ty_44 rfl) rfl ?_; rintro _ _ ⟨b6, rfl, rfl⟩
  refine sq_end ?_
  refine qs_n ?_
  refine wp_sc ?_
  refine wp_sc ?_
  refine wp_sq ?_
  refine sq_v rfl (v_loadNB 2 ty_31 rfl rfl rfl rfl) rfl ?_
  refine sq_v rfl (v_loadNB 1 ty_44 rfl rfl rfl rfl) rfl ?_
  refine sq_u rfl (x_callv rfl en_125 (fun w s => ct_i_TensorOk _ _ _ _ _ _ _ _ _ w (r1.mono (s.get 3 rfl)) (r2.mono (s.get 3 rfl)) (r3.mono (s.get 3 rfl)))) rfl ?_
  refine sq_v rfl (v_not rfl) rfl ?_
  refine sq_end ?_
  refine qs_n ?_
  refine wp_cn _ rfl (fun c12 => ?_) (fun c12 => ?_)
  · refine wp_sc ?_
    refine wp_sq ?_
    refine sq_v rfl (v_build [.slice none 0 0, .slice none 0 0, .slice none 0 0] rfl (by kernel_rfl)) rfl ?_
    refine sq_m 0 rfl rfl (m_store 0 ty_44 rfl rfl rfl rfl (by simp [one_sl]) rfl (Nat.le_of_ble_eq_true rfl)) rfl ?_; rintro _ _ ⟨rfl, rfl⟩
    refine sq_end ?_
    refine qs_n ?_
    refine wp_rt ?_
    refine qs_r ?_
    exact qs_retc 0 rfl ty_44 rfl rfl rfl (fin_e (i := 3) rfl (sumR_no (tensorB_false.1 c12)))
  · refine wp_sk ?_
    refine qs_n ?_
    refine wp_sc ?_
    refine wp_ra (σ := Nat × PH × PH × Value × Value × Value × Value × Value × Value) 11 (fun z_ => TriO ⟨[], [], oneL k p n⟩ z_.2.2.2.1 z_.2.2.2.2.1 z_.2.2.2.2.2.1 z_.2.2.1 ∧ TriO (pairR k p n t ⟨[], [], oneL k p n⟩ ks) z_.2.2.2.2.2.2.1 z_.2.2.2.2.2.2.2.1 z_.2.2.2.2.2.2.2.2 z_.2.1) (fun z_ => [(6, .pointer (some ⟨b6, 0, none⟩)), (7, .pointer (some ⟨z_.1, 0, none⟩)), (12, .bool (!(tensorB k p n t.l t.d t.x)))]) (fun z_ => [box z_.1 [z_.2.2.2.2.2.2.1, z_.2.2.2.2.2.2.2.1, z_.2.2.2.2.2.2.2.2] 44, z_.2.1, z_.2.2.1, box b6 [.slice none 0 0, .slice none 0 0, .slice none 0 0] 44, box b4 [a, b, c] 44, box b3 [num k, num p, num n] 31, hp w]) mixed_ok (by kernel_rfl) ?_ ?_
    · refine rak_of ?_
      have ht := tensorB_true.1 c12; have hring := ht.1
      refine rak_v (i := 0) (by kernel_rfl) rfl rfl (v_loadNB 2 ty_31 rfl rfl rfl rfl) rfl ?_
      refine rak_v (i := 1) (by kernel_rfl) rfl rfl (v_loadNB 1 ty_44 rfl rfl rfl rfl) rfl ?_
      refine rak_v (i := 2) (by kernel_rfl) rfl rfl (v_loadNB 2 ty_31 rfl rfl rfl rfl) rfl ?_
      refine rak_v (i := 4) (by kernel_rfl) rfl rfl (v_move rfl) rfl ?_
      refine rak_2 (i := 3) (j := 9) (by kernel_rfl) ?_ ?_
      · refine rok_x rfl rfl (x_call rfl en_73 (fun w s => ct_i_scalarOne _ _ _ w (by first | assumption | omega))) rfl ?_; rintro _ h18 ⟨va18, vb18, vc18, rfl, o18⟩
        refine rak_2 (i := 5) (j := 9) (by kernel_rfl) ?_ ?_
        · refine rok_x rfl rfl (x_call rfl en_101 (fun w s => ct_i_ContractPair _ _ _ _ _ _ _ _ _ _ _ _ _ w (r1.mono (s.get 4 rfl)) (r2.mono (s.get 4 rfl)) (r3.mono (s.get 4 rfl)) (o18.toR.1.mono (s.get 0 rfl)) (o18.toR.2.1.mono (s.get 0 rfl)) (o18.toR.2.2.mono (s.get 0 rfl)) (rk.mono (s.get 4 rfl)))) rfl ?_; rintro _ h20 ⟨va20, vb20, vc20, rfl, o20⟩
          refine rak_rk [(6, true), (7, true), (8, true), (9, false), (10, false), (11, false)] (by kernel_rfl) rfl ?_
          refine rk_v rfl rfl (v_move rfl) rfl ?_
          refine rk_v rfl rfl (v_extract rfl rfl) rfl ?_
          refine rk_v rfl rfl (v_extract rfl rfl) rfl ?_
          refine rk_xb rfl rfl (x_alloc ty_44 rfl) rfl ?_; rintro _ _ ⟨b7, rfl, rfl⟩
          refine rk_m 0 rfl rfl rfl rfl (m_store 0 ty_44 rfl rfl rfl rfl (by simp [o20.toR.1.sl.one, o20.toR.2.1.sl.one, o20.toR.2.2.sl.one]) rfl (Nat.le_of_ble_eq_true rfl)) rfl ?_; rintro _ _ ⟨rfl, rfl⟩
          refine rk_fv rfl rfl (v_assign rfl) rfl ?_
          refine rk_end ?_
          exact qs_mid (b7, h20, h18, va18, vb18, vc18, va20, vb20, vc20) ⟨o18, o20⟩ ⟨rfl, rfl, rfl, trivial⟩ (fun _ s => s.pick [0, 1, 2, 3, 4, 5, 6] (by decide) rfl)
        · refine rok_xb rfl rfl (x_alloc ty_44 rfl) rfl ?_; rintro _ _ ⟨b7, rfl, rfl⟩
          refine rak_rk [(5, false), (6, true), (7, true), (8, true), (10, false), (11, false)] (by kernel_rfl) rfl ?_
          refine rk_x rfl rfl (x_call rfl en_101 (fun w s => ct_i_ContractPair _ _ _ _ _ _ _ _ _ _ _ _ _ w (r1.mono (s.get 5 rfl)) (r2.mono (s.get 5 rfl)) (r3.mono (s.get 5 rfl)) (o18.toR.1.mono (s.get 1 rfl)) (o18.toR.2.1.mono (s.get 1 rfl)) (o18.toR.2.2.mono (s.get 1 rfl)) (rk.mono (s.get 5 rfl)))) rfl ?_; rintro _ h20 ⟨va20, vb20, vc20, rfl, o20⟩
          refine rk_v rfl rfl (v_move rfl) rfl ?_
          refine rk_v rfl rfl (v_extract rfl rfl) rfl ?_
          refine rk_v rfl rfl (v_extract rfl rfl) rfl ?_
          refine rk_m 1 rfl rfl rfl rfl (m_store 1 ty_44 rfl rfl rfl rfl (by simp [o20.toR.1.sl.one, o20.toR.2.1.sl.one, o20.toR.2.2.sl.one]) rfl (Nat.le_of_ble_eq_true rfl)) rfl ?_; rintro _ _ ⟨rfl, rfl⟩
          refine rk_fv rfl rfl (v_assign rfl) rfl ?_
          refine rk_end ?_
          exact qs_mid (b7, h20, h18, va18, vb18, vc18, va20, vb20, vc20) ⟨o18, o20⟩ ⟨rfl, rfl, rfl, trivial⟩ (fun _ s => s.pick [1, 0, 2, 3, 4, 5, 6] (by decide) rfl)
      · refine rok_xb rfl rfl (x_alloc ty_44 rfl) rfl ?_; rintro _ _ ⟨b7, rfl, rfl⟩
        refine rak_rk [(3, false), (5, false), (6, true), (7, true), (8, true), (10, false), (11, false)] (by kernel_rfl) rfl ?_
        refine rk_x rfl rfl (x_call rfl en_73 (fun w s => ct_i_scalarOne _ _ _ w (by first | assumption | omega))) rfl ?_; rintro _ h18 ⟨va18, vb18, vc18, rfl, o18⟩
        refine rk_x rfl rfl (x_call rfl en_101 (fun w s => ct_i_ContractPair _ _ _ _ _ _ _ _ _ _ _ _ _ w (r1.mono (s.get 5 rfl)) (r2.mono (s.get 5 rfl)) (r3.mono (s.get 5 rfl)) (o18.toR.1.mono (s.get 0 rfl)) (o18.toR.2.1.mono (s.get 0 rfl)) (o18.toR.2.2.mono (s.get 0 rfl)) (rk.mono (s.get 5 rfl)))) rfl ?_; rintro _ h20 ⟨va20, vb20, vc20, rfl, o20⟩
        refine rk_v rfl rfl (v_move rfl) rfl ?_
        refine rk_v rfl rfl (v_extract rfl rfl) rfl ?_
        refine rk_v rfl rfl (v_extract rfl rfl) rfl ?_
        refine rk_m 2 rfl rfl rfl rfl (m_store 2 ty_44 rfl rfl rfl rfl (by simp [o20.toR.1.sl.one, o20.toR.2.1.sl.one, o20.toR.2.2.sl.one]) rfl (Nat.le_of_ble_eq_true rfl)) rfl ?_; rintro _ _ ⟨rfl, rfl⟩
        refine rk_fv rfl rfl (v_assign rfl) rfl ?_
        refine rk_end ?_
        exact qs_mid (b7, h20, h18, va18, vb18, vc18, va20, vb20, vc20) ⟨o18, o20⟩ ⟨rfl, rfl, rfl, trivial⟩ (fun _ s => s.pick [2, 0, 1, 3, 4, 5, 6] (by decide) rfl)
    · rintro ⟨b7, h20, h18, va18, vb18, vc18, va20, vb20, vc20⟩ ⟨o18, o20⟩
      dsimp only at o18 o20 ⊢
      refine qs_n ?_
      refine wp_sc ?_
      refine wp_sq ?_
      refine sq_v rfl (v_loadNB 0 ty_44 rfl rfl rfl rfl) rfl ?_
      refine sq_m 3 rfl rfl (m_store 3 ty_44 rfl rfl rfl rfl (by simp [o20.toR.1.sl.one, o20.toR.2.1.sl.one, o20.toR.2.2.sl.one]) rfl (Nat.le_of_ble_eq_true rfl)) rfl ?_; rintro _ _ ⟨rfl, rfl⟩
      refine sq_end ?_
      refine qs_n ?_
      refine wp_rt ?_
      exact qs_retc 3 rfl ty_44 rfl rfl rfl (fin_t 1 (i := 6) rfl rfl rfl (by have ht := tensorB_true.1 c12; rw [← sumR_pair ht]; exact ⟨_, _, _, rfl, o20⟩))
end Go.Proofs.YtehjljijionhaaaGreat
namespace Go.Proofs.YtehjljijionhaaaGreat
set_option maxRecDepth 100000
open Go.RowKit
theorem two_off : ∀ {l : List Nat} (_ : l.Nodup) {a b : Nat}, a ∈ l → b ∈ l → a ≠ b → (l.filter fun i => decide (i ≠ a ∧ i ≠ b)).length + 2 = l.length := by
  intro l hn a b ha hb hab
  have hp := List.perm_cons_erase ha
  have hb' : b ∈ l.erase a := (List.mem_erase_of_ne (Ne.symm hab)).2 hb
  have hp2 := List.perm_cons_erase hb'
  have hn2 : (l.erase a).Nodup := hn.erase a
  have e : l.filter (fun i => decide (i ≠ a ∧ i ≠ b)) = (l.erase a).erase b := by
    rw [List.Nodup.erase_eq_filter hn a, List.Nodup.erase_eq_filter (List.Pairwise.filter _ hn) b, List.filter_filter]
    apply List.filter_congr
    intro i _
    rw [Bool.eq_iff_iff]
    simp [and_comm]
  have h1 := hp.length_eq
  have h2 := hp2.length_eq
  simp only [List.length_cons] at h1 h2
  rw [e]
  omega
theorem step_count {op : List Int} {s : Sh} (h : s.ok) {a b : Nat} (ha : a ∈ s.ixs) (hb : b ∈ s.ixs) (hab : a ≠ b) : (s.step op a b).ixs.length + 1 = s.ixs.length := by
  have := two_off (ixs_nodup s) ha hb hab
  rw [step_ixs h, List.length_append, List.length_singleton]
  omega
theorem steps_count {op : List Int} {s : Sh} (h : s.fine) {ss : List Stp} (hok : okSteps op s ss) : ∀ i, i ≤ ss.length → (shTo op s (ss.take i)).ixs.length + i = s.ixs.length
  | 0, _ => by simp [shTo]
  | i + 1, hi => by
    have ih := steps_count h hok i (by omega)
    have hx : ss[i]? = some ss[i] := List.getElem?_eq_getElem (by omega)
    have hst := stepOk_at hok hx
    have h1 := live_ixs.1 hst.1
    have h2 := live_ixs.1 hst.2.1
    rw [shTo_step hx]
    have := step_count (op := op) (shTo_fine h (ss.take i)).1 h1.2 h2.2 (by have := hst.2.2; omega)
    omega
theorem few_steps {op : List Int} {ts : List Ten} (h : ∀ t ∈ ts, axesL t.l t.d) {ss : List Stp} (hok : okSteps op (sh0 ts) ss) : ss.length ≤ ts.length - 1 := by
  have h0 : (sh0 ts).ixs.length = ts.length := by rw [sh0_ixs]; simp
  by_cases e : ss.length = 0
  · omega
  · have hc := steps_count (sh0_fine h) hok (ss.length - 1) (by omega)
    have hx : ss[ss.length - 1]? = some ss[ss.length - 1] := List.getElem?_eq_getElem (by omega)
    have hst := stepOk_at hok hx
    have h1 := live_ixs.1 hst.1
    have h2 := live_ixs.1 hst.2.1
    have h3 := two_off (ixs_nodup (shTo op (sh0 ts) (ss.take (ss.length - 1)))) h1.2 h2.2 (by have := hst.2.2; omega)
    omega
end Go.Proofs.YtehjljijionhaaaGreat
