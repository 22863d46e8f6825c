/-
  Joined axes in the program, tensors of one element throughout, an element put in its place.
  Conditions: none.
-/
import Derived.Test.YtikeobneipjfnaaPairM
import Derived.Test.YtikeobneipjfnaaPerm2
namespace Go.Proofs.Ytikeobneipjfnaa
set_option maxRecDepth 100000
open Go.RowKit
def differ (t u : Ten) (x : Int) : Prop := (x ∈ t.l ∧ x ∈ u.l) ∧ t.d.getD (findI t.l x).toNat 0 ≠ u.d.getD (findI u.l x).toNat 0
theorem mism_of {t u : Ten} {x : Int} (h : differ t u x) : mism t u := by
  have hg := findI_get h.1.2
  exact ⟨(findI u.l x).toNat, hg.1, by rw [hg.2]; exact h.1.1, by rw [hg.2]; exact h.2⟩
theorem mism_none {t u : Ten} (hn : u.l.Nodup) (h : ∀ j, j < (joinI t.l u.l).length → ¬ differ t u ((joinI t.l u.l).getD j 0)) : ¬ mism t u := by
  rintro ⟨i, hi, hm, hne⟩
  have hu := mem_getD hi
  obtain ⟨j, hj, e⟩ := getD_of_mem (mem_joinI.2 (.inl hm) : u.l.getD i 0 ∈ joinI t.l u.l)
  refine h j hj ?_
  rw [e]
  refine ⟨⟨hm, hu⟩, ?_⟩
  rw [find_at' hn hi]
  exact hne
theorem dimJ_yes {t u : Ten} {x : Int} (h : x ∈ t.l) : dimJ t u x = t.d.getD (findI t.l x).toNat 0 := if_pos h
theorem dimJ_no {t u : Ten} {x : Int} (h : x ∉ t.l) : dimJ t u x = u.d.getD (findI u.l x).toNat 0 := if_neg h
set_option maxHeartbeats 2000000 in
theorem ct_i_joinAxes (t u : Ten) (a b c a' b' c' : Value) (w : World) (r1 : IntsR t.l a (hp w)) (r2 : IntsR t.d b (hp w)) (r3 : IntsR t.x c (hp w)) (r1' : IntsR u.l a' (hp w)) (r2' : IntsR u.d b' (hp w)) (r3' : IntsR u.x c' (hp w)) (ht : t.l.length = t.d.length) (hu : u.l.length = u.d.length) (htn : t.l.Nodup) (hn : u.l.Nodup) (hs : t.l.length + u.l.length ≤ 100000) :
    Calls Try.prog 177 [tenV a b c, tenV a' b' c'].toArray w (Ret w emp (JoinR t u)) := by
  have hjl := joinI_len t.l u.l
  obtain ⟨L, hL⟩ : ∃ L, L = joinI t.l u.l := ⟨_, rfl⟩
  have hLm : (L.map (dimJ t u)).length = L.length := by simp
  refine calls_in Try.func177 rfl Try.ntmps177 rfl (Sat.start w) ?_
  have hle0 := r1.le
  have hle1 := r2.le
  have hle2 := r3.le
  have hle3 := r1'.le
  have hle4 := r2'.le
  have hle5 := r3'.le
  refine wp_sc ?_
  refine wp_sq ?_
  refine sq_x rfl (x_box rfl rfl) rfl ?_; rintro _ _ ⟨b2, rfl, rfl⟩
  refine sq_x rfl (x_box rfl rfl) rfl ?_; rintro _ _ ⟨b3, rfl, rfl⟩
  refine sq_v rfl (v_assign rfl) rfl ?_
  refine sq_v rfl (v_assign rfl) rfl ?_
  refine sq_v rfl (v_assign rfl) rfl ?_
  refine sq_end ?_
  refine qs_n ?_
  refine wp_sc ?_
  refine wp_sq ?_
  refine sq_v rfl (v_fieldAddr fd_28_0 ty_24 (by decide) rfl) rfl ?_
  refine sq_v rfl (v_loadB 1 ty_24 rfl rfl rfl) rfl ?_
  refine sq_v rfl (v_fieldAddr fd_28_0 ty_24 (by decide) rfl) rfl ?_
  refine sq_v rfl (v_loadB 0 ty_24 rfl rfl rfl) rfl ?_
  refine sq_x rfl (x_call rfl en_183 (fun w s => ct_i_joinLabels _ _ _ _ w (r1.mono (s.get 2 rfl)) (r1'.mono (s.get 2 rfl)) (by first | assumption | omega))) rfl ?_; rintro v17 h17 r17
  refine sq_v rfl (v_assign rfl) rfl ?_
  refine sq_end ?_
  rw [← hL] at r17 hjl
  refine qs_n ?_
  refine wp_sc ?_
  refine wp_sq ?_
  refine sq_v rfl (v_move rfl) rfl ?_
  refine sq_v rfl (v_len Try.underlying24 rfl r17.toR.sl) rfl ?_
  refine sq_x rfl (x_makeI Try.underlying24 ty_3 rfl rfl (by first | omega | (simp only [List.length_cons, List.length_nil]; omega) | (simp only [List.length_append, List.length_cons, List.length_nil]; omega) | (rw [List.length_set]; omega) | (rw [List.length_replicate]; omega) | (simp; omega)) (by first | omega | (simp only [List.length_cons, List.length_nil]; omega) | (simp only [List.length_append, List.length_cons, List.length_nil]; omega) | (rw [List.length_set]; omega) | (rw [List.length_replicate]; omega) | (simp; omega)) (by first | omega | (simp only [List.length_cons, List.length_nil]; omega) | (simp only [List.length_append, List.length_cons, List.length_nil]; omega) | (rw [List.length_set]; omega) | (rw [List.length_replicate]; omega) | (simp; omega))) rfl ?_; intro v20 h20 r20
  refine sq_v rfl (v_assign rfl) rfl ?_
  refine sq_end ?_
  refine qs_n ?_
  refine wp_sc ?_
  refine wp_sc ?_
  refine wp_sq ?_
  refine sq_v rfl (v_move rfl) rfl ?_
  refine sq_v rfl (v_len Try.underlying24 rfl r17.toR.sl) rfl ?_
  refine sq_v rfl (v_move rfl) rfl ?_
  refine sq_end ?_
  refine qs_n ?_
  refine wp_bl ?_
  refine wp_lp (σ := Nat × PH) (fun z_ => [(2, .pointer (some ⟨b2, 0, none⟩)), (3, .pointer (some ⟨b3, 0, none⟩)), (4, .slice none 0 0), (5, .slice none 0 0), (6, .bool false), (7, v17), (8, v20), (21, v17), (22, num L.length), (23, num z_.1)]) (fun z_ => [z_.2, h17, box b3 [a', b', c'] 28, box b2 [a, b, c] 28, hp w]) (fun z_ => z_.1 ≤ L.length ∧ (∀ j, j < z_.1 → ¬ differ t u (L.getD j 0)) ∧ IntsO ((L.map (dimJ t u)).take z_.1 ++ List.replicate ((L.map (dimJ t u)).length - z_.1) 0) v20 z_.2) (fun z_ => L.length - z_.1) (0, h20) (⟨by (try dsimp only); omega, fun j hj => by omega, by (try dsimp only); simpa using r20⟩) ⟨rfl, rfl, rfl, rfl, rfl, rfl, rfl, rfl, rfl, (by first | rfl | exact ksub rfl (by first | omega | (simp; done) | (simp; omega))), trivial⟩ (fun _ s => s) ?_
  rintro ⟨i, g⟩ ⟨hi, hm, q⟩
  dsimp only at hi hm q ⊢
  have hle_q := q.toR.le
  have hll : ((L.map (dimJ t u)).take i ++ List.replicate ((L.map (dimJ t u)).length - i) 0).length = L.length := by simp; omega
  refine wp_sc ?_
  refine wp_sq ?_
  refine sq_v rfl (v_lss rfl rfl) rfl ?_
  refine sq_end ?_
  refine qs_n ?_
  refine wp_sc ?_
  refine wp_cd rfl (fun c24 => ?_) (fun c24 => ?_)
  · refine wp_sk ?_
    refine qs_n ?_
    refine wp_sc ?_
    refine wp_bl ?_
    refine wp_sc ?_
    refine wp_sq ?_
    refine sq_v rfl (v_move rfl) rfl ?_
    refine sq_v rfl (v_idxI Try.underlying24 ty_3 rfl rfl r17.toR (by first | omega | (simp only [List.length_cons, List.length_nil]; omega) | (simp only [List.length_append, List.length_cons, List.length_nil]; omega) | (rw [List.length_set]; omega) | (rw [List.length_replicate]; omega) | (simp; omega)) (by first | omega | (simp only [List.length_cons, List.length_nil]; omega) | (simp only [List.length_append, List.length_cons, List.length_nil]; omega) | (rw [List.length_set]; omega) | (rw [List.length_replicate]; omega) | (simp; omega))) rfl ?_
    refine sq_v rfl (v_loadI (k := i) 1 ty_3 rfl rfl r17.toR (by first | omega | (simp only [List.length_cons, List.length_nil]; omega) | (simp only [List.length_append, List.length_cons, List.length_nil]; omega) | (rw [List.length_set]; omega) | (rw [List.length_replicate]; omega) | (simp; omega))) rfl ?_
    refine sq_v rfl (v_assign rfl) rfl ?_
    refine sq_v rfl (v_assign rfl) rfl ?_
    refine sq_end ?_
    have hfr1 := findI_range t.l (L.getD i 0)
    have hfr2 := findI_range u.l (L.getD i 0)
    have hfg1 := findI_ge (xs := t.l) (n := L.getD i 0)
    have hfg2 := findI_ge (xs := u.l) (n := L.getD i 0)
    have hmL : L.getD i 0 ∈ t.l ∨ L.getD i 0 ∈ u.l := mem_joinI.1 (by rw [← hL]; exact mem_getD (by omega))
    refine qs_n ?_
    refine wp_sc ?_
    refine wp_rj 8 [(0, true), (1, true), (3, true), (4, true), (2, false), (5, false), (6, true), (7, true)] mixed_ok (by kernel_rfl) ?_
    refine rj_v rfl rfl (v_loadNB 3 ty_28 rfl rfl rfl rfl) rfl ?_
    refine rj_v rfl rfl (v_move rfl) rfl ?_
    refine rj_v rfl rfl (v_loadNB 2 ty_28 rfl rfl rfl rfl) rfl ?_
    refine rj_v rfl rfl (v_move rfl) rfl ?_
    refine rj_u rfl rfl (x_callv rfl en_204 (fun w s => ct_u_axisOf _ _ _ _ _ _ _ w (r1.mono (s.get 4 rfl)) (r2.mono (s.get 4 rfl)) (r3.mono (s.get 4 rfl)))) rfl ?_
    refine rj_u rfl rfl (x_callv rfl en_204 (fun w s => ct_u_axisOf _ _ _ _ _ _ _ w (r1'.mono (s.get 4 rfl)) (r2'.mono (s.get 4 rfl)) (r3'.mono (s.get 4 rfl)))) rfl ?_
    refine rj_v rfl rfl (v_assign rfl) rfl ?_
    refine rj_v rfl rfl (v_assign rfl) rfl ?_
    refine rj_end ?_
    refine qs_n ?_
    refine wp_sc ?_
    refine wp_sc ?_
    refine wp_rj 19 [(0, true), (1, true), (2, true), (3, true), (4, true), (5, true), (6, true), (7, true), (8, true), (9, true), (10, true), (11, true), (12, true), (13, true), (14, true), (15, true), (16, true), (17, true), (18, true)] mixed_ok (by kernel_rfl) ?_
    refine rj_v rfl rfl (v_move rfl) rfl ?_
    refine rj_v rfl rfl (v_geq rfl rfl) rfl ?_
    refine rj_bd 35 rfl (fun c35 => ?_) (fun c35 => ?_)
    · refine rj_v rfl rfl (v_move rfl) rfl ?_
      refine rj_v rfl rfl (v_move rfl) rfl ?_
      refine rj_v rfl rfl (v_geq rfl rfl) rfl ?_
      refine rj_v rfl rfl (v_pickt rfl rfl) rfl ?_
      refine rj_bd 39 rfl (fun c39 => ?_) (fun c39 => ?_)
      · refine rj_v rfl rfl (v_move rfl) rfl ?_
        refine rj_v rfl rfl (v_fieldAddr fd_28_1 ty_24 (by decide) rfl) rfl ?_
        refine rj_v rfl rfl (v_loadB 3 ty_24 rfl rfl rfl) rfl ?_
        refine rj_v rfl rfl (v_move rfl) rfl ?_
        refine rj_v rfl rfl (v_idxI Try.underlying24 ty_3 rfl rfl r2 (by first | omega | (simp only [List.length_cons, List.length_nil]; omega) | (simp only [List.length_append, List.length_cons, List.length_nil]; omega) | (rw [List.length_set]; omega) | (rw [List.length_replicate]; omega) | (simp; omega)) (by first | omega | (simp only [List.length_cons, List.length_nil]; omega) | (simp only [List.length_append, List.length_cons, List.length_nil]; omega) | (rw [List.length_set]; omega) | (rw [List.length_replicate]; omega) | (simp; omega))) rfl ?_
        refine rj_v rfl rfl (v_loadI  4 ty_3 rfl rfl r2 (by first | omega | (simp only [List.length_cons, List.length_nil]; omega) | (simp only [List.length_append, List.length_cons, List.length_nil]; omega) | (rw [List.length_set]; omega) | (rw [List.length_replicate]; omega) | (simp; omega))) rfl ?_
        refine rj_v rfl rfl (v_fieldAddr fd_28_1 ty_24 (by decide) rfl) rfl ?_
        refine rj_v rfl rfl (v_loadB 2 ty_24 rfl rfl rfl) rfl ?_
        refine rj_v rfl rfl (v_move rfl) rfl ?_
        refine rj_v rfl rfl (v_idxI Try.underlying24 ty_3 rfl rfl r2' (by first | omega | (simp only [List.length_cons, List.length_nil]; omega) | (simp only [List.length_append, List.length_cons, List.length_nil]; omega) | (rw [List.length_set]; omega) | (rw [List.length_replicate]; omega) | (simp; omega)) (by first | omega | (simp only [List.length_cons, List.length_nil]; omega) | (simp only [List.length_append, List.length_cons, List.length_nil]; omega) | (rw [List.length_set]; omega) | (rw [List.length_replicate]; omega) | (simp; omega))) rfl ?_
        refine rj_v rfl rfl (v_loadI  4 ty_3 rfl rfl r2' (by first | omega | (simp only [List.length_cons, List.length_nil]; omega) | (simp only [List.length_append, List.length_cons, List.length_nil]; omega) | (rw [List.length_set]; omega) | (rw [List.length_replicate]; omega) | (simp; omega))) rfl ?_
        refine rj_v rfl rfl (v_neq rfl rfl) rfl ?_
        refine rj_v rfl rfl (v_pickt rfl rfl) rfl ?_
        refine rj_end ?_
        refine qs_n ?_
        refine wp_cd rfl (fun c52 => ?_) (fun c52 => ?_)
        · refine wp_sc ?_
          refine wp_sq ?_
          refine sq_v rfl (v_assign rfl) rfl ?_
          refine sq_v rfl (v_assign rfl) rfl ?_
          refine sq_v rfl (v_assign rfl) rfl ?_
          refine sq_end ?_
          refine qs_n ?_
          refine wp_rt ?_
          refine qs_r ?_
          refine qs_br ?_
          refine qs_r ?_
          refine qs_r ?_
          refine qs_br ?_
          refine qs_r ?_
          exact qs_ret3 rfl rfl rfl rfl (fin_e (i := 4) rfl (⟨fun _ => rfl, fun h => absurd (mism_of ⟨⟨hfg1.1 c35, hfg2.1 c39⟩, c52⟩) h⟩))
        · refine wp_sk ?_
          refine qs_n ?_
          refine wp_sc ?_
          refine wp_sq ?_
          refine sq_v rfl (v_move rfl) rfl ?_
          refine sq_v rfl (v_geq rfl rfl) rfl ?_
          refine sq_end ?_
          refine qs_n ?_
          refine wp_cd rfl (fun c54 => ?_) (fun c54 => ?_)
          · refine wp_sq ?_
            refine sq_v rfl (v_move rfl) rfl ?_
            refine sq_v rfl (v_move rfl) rfl ?_
            refine sq_v rfl (v_fieldAddr fd_28_1 ty_24 (by decide) rfl) rfl ?_
            refine sq_v rfl (v_loadB 3 ty_24 rfl rfl rfl) rfl ?_
            refine sq_v rfl (v_move rfl) rfl ?_
            refine sq_v rfl (v_idxI Try.underlying24 ty_3 rfl rfl r2 (by first | omega | (simp only [List.length_cons, List.length_nil]; omega) | (simp only [List.length_append, List.length_cons, List.length_nil]; omega) | (rw [List.length_set]; omega) | (rw [List.length_replicate]; omega) | (simp; omega)) (by first | omega | (simp only [List.length_cons, List.length_nil]; omega) | (simp only [List.length_append, List.length_cons, List.length_nil]; omega) | (rw [List.length_set]; omega) | (rw [List.length_replicate]; omega) | (simp; omega))) rfl ?_
            refine sq_v rfl (v_loadI  4 ty_3 rfl rfl r2 (by first | omega | (simp only [List.length_cons, List.length_nil]; omega) | (simp only [List.length_append, List.length_cons, List.length_nil]; omega) | (rw [List.length_set]; omega) | (rw [List.length_replicate]; omega) | (simp; omega))) rfl ?_
            refine sq_v rfl (v_idxI Try.underlying24 ty_3 rfl rfl q.toR (by first | omega | (simp only [List.length_cons, List.length_nil]; omega) | (simp only [List.length_append, List.length_cons, List.length_nil]; omega) | (rw [List.length_set]; omega) | (rw [List.length_replicate]; omega) | (simp; omega)) (by first | omega | (simp only [List.length_cons, List.length_nil]; omega) | (simp only [List.length_append, List.length_cons, List.length_nil]; omega) | (rw [List.length_set]; omega) | (rw [List.length_replicate]; omega) | (simp; omega))) rfl ?_
            refine sq_m 0 rfl rfl (m_storeI (k := i) 0 ty_3 rfl rfl rfl q (by first | omega | (simp only [List.length_cons, List.length_nil]; omega) | (simp only [List.length_append, List.length_cons, List.length_nil]; omega) | (rw [List.length_set]; omega) | (rw [List.length_replicate]; omega) | (simp; omega))) rfl ?_; rintro _ h_q10_8 ⟨rfl, q10_8⟩
            refine sq_end ?_
            refine qs_bn ?_
            refine qs_n ?_
            refine wp_sq ?_
            refine sq_v rfl (v_add rfl rfl ((by unfold I64; omega))) rfl ?_
            refine sq_v rfl (v_move rfl) rfl ?_
            refine sq_end ?_
            exact qs_bk (i + 1, h_q10_8) ⟨by (try dsimp only); omega, step_all hm (fun h => c52 h.2), by (try dsimp only); rw [← set_prefix (by omega), map_getD (by omega), dimJ_yes (hfg1.1 c35)]; exact q10_8⟩ (by simp only; omega) ⟨rfl, rfl, rfl, rfl, rfl, rfl, rfl, rfl, rfl, (by first | rfl | exact ksub rfl (by first | omega | (simp; done) | (simp; omega))), trivial⟩ (fun _ s => s)
          · refine wp_sq ?_
            refine sq_v rfl (v_move rfl) rfl ?_
            refine sq_v rfl (v_move rfl) rfl ?_
            refine sq_v rfl (v_fieldAddr fd_28_1 ty_24 (by decide) rfl) rfl ?_
            refine sq_v rfl (v_loadB 2 ty_24 rfl rfl rfl) rfl ?_
            have hy0 : 0 ≤ findI u.l (L.getD i 0) := (by first | omega | exact hfg2.2 (hmL.resolve_left fun h => c35 (hfg1.2 h)))
            refine sq_v rfl (v_move rfl) rfl ?_
            refine sq_v rfl (v_idxI Try.underlying24 ty_3 rfl rfl r2' (by first | omega | (simp only [List.length_cons, List.length_nil]; omega) | (simp only [List.length_append, List.length_cons, List.length_nil]; omega) | (rw [List.length_set]; omega) | (rw [List.length_replicate]; omega) | (simp; omega)) (by first | omega | (simp only [List.length_cons, List.length_nil]; omega) | (simp only [List.length_append, List.length_cons, List.length_nil]; omega) | (rw [List.length_set]; omega) | (rw [List.length_replicate]; omega) | (simp; omega))) rfl ?_
            refine sq_v rfl (v_loadI  4 ty_3 rfl rfl r2' (by first | omega | (simp only [List.length_cons, List.length_nil]; omega) | (simp only [List.length_append, List.length_cons, List.length_nil]; omega) | (rw [List.length_set]; omega) | (rw [List.length_replicate]; omega) | (simp; omega))) rfl ?_
            refine sq_v rfl (v_idxI Try.underlying24 ty_3 rfl rfl q.toR (by first | omega | (simp only [List.length_cons, List.length_nil]; omega) | (simp only [List.length_append, List.length_cons, List.length_nil]; omega) | (rw [List.length_set]; omega) | (rw [List.length_replicate]; omega) | (simp; omega)) (by first | omega | (simp only [List.length_cons, List.length_nil]; omega) | (simp only [List.length_append, List.length_cons, List.length_nil]; omega) | (rw [List.length_set]; omega) | (rw [List.length_replicate]; omega) | (simp; omega))) rfl ?_
            refine sq_m 0 rfl rfl (m_storeI (k := i) 0 ty_3 rfl rfl rfl q (by first | omega | (simp only [List.length_cons, List.length_nil]; omega) | (simp only [List.length_append, List.length_cons, List.length_nil]; omega) | (rw [List.length_set]; omega) | (rw [List.length_replicate]; omega) | (simp; omega))) rfl ?_; rintro _ h_q11_8 ⟨rfl, q11_8⟩
            refine sq_end ?_
            refine qs_bn ?_
            refine qs_n ?_
            refine wp_sq ?_
            refine sq_v rfl (v_add rfl rfl ((by unfold I64; omega))) rfl ?_
            refine sq_v rfl (v_move rfl) rfl ?_
            refine sq_end ?_
            exfalso; omega
      · refine rj_v rfl rfl (v_move rfl) rfl ?_
        refine rj_s rfl rfl rfl ?_
        refine rj_s rfl rfl rfl ?_
        refine rj_s rfl rfl rfl ?_
        refine rj_s rfl rfl rfl ?_
        refine rj_s rfl rfl rfl ?_
        refine rj_s rfl rfl rfl ?_
        refine rj_s rfl rfl rfl ?_
        refine rj_s rfl rfl rfl ?_
        refine rj_s rfl rfl rfl ?_
        refine rj_s rfl rfl rfl ?_
        refine rj_s rfl rfl rfl ?_
        refine rj_v rfl rfl (v_pickf rfl rfl) rfl ?_
        refine rj_end ?_
        refine qs_n ?_
        refine wp_cf rfl ?_
        refine wp_sk ?_
        refine qs_n ?_
        refine wp_sc ?_
        refine wp_sq ?_
        refine sq_v rfl (v_move rfl) rfl ?_
        refine sq_v rfl (v_geq rfl rfl) rfl ?_
        refine sq_end ?_
        refine qs_n ?_
        refine wp_cd rfl (fun c54 => ?_) (fun c54 => ?_)
        · refine wp_sq ?_
          refine sq_v rfl (v_move rfl) rfl ?_
          refine sq_v rfl (v_move rfl) rfl ?_
          refine sq_v rfl (v_fieldAddr fd_28_1 ty_24 (by decide) rfl) rfl ?_
          refine sq_v rfl (v_loadB 3 ty_24 rfl rfl rfl) rfl ?_
          refine sq_v rfl (v_move rfl) rfl ?_
          refine sq_v rfl (v_idxI Try.underlying24 ty_3 rfl rfl r2 (by first | omega | (simp only [List.length_cons, List.length_nil]; omega) | (simp only [List.length_append, List.length_cons, List.length_nil]; omega) | (rw [List.length_set]; omega) | (rw [List.length_replicate]; omega) | (simp; omega)) (by first | omega | (simp only [List.length_cons, List.length_nil]; omega) | (simp only [List.length_append, List.length_cons, List.length_nil]; omega) | (rw [List.length_set]; omega) | (rw [List.length_replicate]; omega) | (simp; omega))) rfl ?_
          refine sq_v rfl (v_loadI  4 ty_3 rfl rfl r2 (by first | omega | (simp only [List.length_cons, List.length_nil]; omega) | (simp only [List.length_append, List.length_cons, List.length_nil]; omega) | (rw [List.length_set]; omega) | (rw [List.length_replicate]; omega) | (simp; omega))) rfl ?_
          refine sq_v rfl (v_idxI Try.underlying24 ty_3 rfl rfl q.toR (by first | omega | (simp only [List.length_cons, List.length_nil]; omega) | (simp only [List.length_append, List.length_cons, List.length_nil]; omega) | (rw [List.length_set]; omega) | (rw [List.length_replicate]; omega) | (simp; omega)) (by first | omega | (simp only [List.length_cons, List.length_nil]; omega) | (simp only [List.length_append, List.length_cons, List.length_nil]; omega) | (rw [List.length_set]; omega) | (rw [List.length_replicate]; omega) | (simp; omega))) rfl ?_
          refine sq_m 0 rfl rfl (m_storeI (k := i) 0 ty_3 rfl rfl rfl q (by first | omega | (simp only [List.length_cons, List.length_nil]; omega) | (simp only [List.length_append, List.length_cons, List.length_nil]; omega) | (rw [List.length_set]; omega) | (rw [List.length_replicate]; omega) | (simp; omega))) rfl ?_; rintro _ h_q10_8 ⟨rfl, q10_8⟩
          refine sq_end ?_
          refine qs_bn ?_
          refine qs_n ?_
          refine wp_sq ?_
          refine sq_v rfl (v_add rfl rfl ((by unfold I64; omega))) rfl ?_
          refine sq_v rfl (v_move rfl) rfl ?_
          refine sq_end ?_
          exact qs_bk (i + 1, h_q10_8) ⟨by (try dsimp only); omega, step_all hm (fun h => c39 (hfg2.2 h.1.2)), by (try dsimp only); rw [← set_prefix (by omega), map_getD (by omega), dimJ_yes (hfg1.1 c35)]; exact q10_8⟩ (by simp only; omega) ⟨rfl, rfl, rfl, rfl, rfl, rfl, rfl, rfl, rfl, (by first | rfl | exact ksub rfl (by first | omega | (simp; done) | (simp; omega))), trivial⟩ (fun _ s => s)
        · refine wp_sq ?_
          refine sq_v rfl (v_move rfl) rfl ?_
          refine sq_v rfl (v_move rfl) rfl ?_
          refine sq_v rfl (v_fieldAddr fd_28_1 ty_24 (by decide) rfl) rfl ?_
          refine sq_v rfl (v_loadB 2 ty_24 rfl rfl rfl) rfl ?_
          have hy0 : 0 ≤ findI u.l (L.getD i 0) := (by first | omega | exact hfg2.2 (hmL.resolve_left fun h => c35 (hfg1.2 h)))
          refine sq_v rfl (v_move rfl) rfl ?_
          refine sq_v rfl (v_idxI Try.underlying24 ty_3 rfl rfl r2' (by first | omega | (simp only [List.length_cons, List.length_nil]; omega) | (simp only [List.length_append, List.length_cons, List.length_nil]; omega) | (rw [List.length_set]; omega) | (rw [List.length_replicate]; omega) | (simp; omega)) (by first | omega | (simp only [List.length_cons, List.length_nil]; omega) | (simp only [List.length_append, List.length_cons, List.length_nil]; omega) | (rw [List.length_set]; omega) | (rw [List.length_replicate]; omega) | (simp; omega))) rfl ?_
          refine sq_v rfl (v_loadI  4 ty_3 rfl rfl r2' (by first | omega | (simp only [List.length_cons, List.length_nil]; omega) | (simp only [List.length_append, List.length_cons, List.length_nil]; omega) | (rw [List.length_set]; omega) | (rw [List.length_replicate]; omega) | (simp; omega))) rfl ?_
          refine sq_v rfl (v_idxI Try.underlying24 ty_3 rfl rfl q.toR (by first | omega | (simp only [List.length_cons, List.length_nil]; omega) | (simp only [List.length_append, List.length_cons, List.length_nil]; omega) | (rw [List.length_set]; omega) | (rw [List.length_replicate]; omega) | (simp; omega)) (by first | omega | (simp only [List.length_cons, List.length_nil]; omega) | (simp only [List.length_append, List.length_cons, List.length_nil]; omega) | (rw [List.length_set]; omega) | (rw [List.length_replicate]; omega) | (simp; omega))) rfl ?_
          refine sq_m 0 rfl rfl (m_storeI (k := i) 0 ty_3 rfl rfl rfl q (by first | omega | (simp only [List.length_cons, List.length_nil]; omega) | (simp only [List.length_append, List.length_cons, List.length_nil]; omega) | (rw [List.length_set]; omega) | (rw [List.length_replicate]; omega) | (simp; omega))) rfl ?_; rintro _ h_q11_8 ⟨rfl, q11_8⟩
          refine sq_end ?_
          refine qs_bn ?_
          refine qs_n ?_
          refine wp_sq ?_
          refine sq_v rfl (v_add rfl rfl ((by unfold I64; omega))) rfl ?_
          refine sq_v rfl (v_move rfl) rfl ?_
          refine sq_end ?_
          exfalso; omega
    · refine rj_v rfl rfl (v_move rfl) rfl ?_
      refine rj_s rfl rfl rfl ?_
      refine rj_s rfl rfl rfl ?_
      refine rj_v rfl rfl (v_pickf rfl rfl) rfl ?_
      refine rj_v rfl rfl (v_move rfl) rfl ?_
      refine rj_s rfl rfl rfl ?_
      refine rj_s rfl rfl rfl ?_
      refine rj_s rfl rfl rfl ?_
      refine rj_s rfl rfl rfl ?_
      refine rj_s rfl rfl rfl ?_
      refine rj_s rfl rfl rfl ?_
      refine rj_s rfl rfl rfl ?_
      refine rj_s rfl rfl rfl ?_
      refine rj_s rfl rfl rfl ?_
      refine rj_s rfl rfl rfl ?_
      refine rj_s rfl rfl rfl ?_
      refine rj_v rfl rfl (v_pickf rfl rfl) rfl ?_
      refine rj_end ?_
      refine qs_n ?_
      refine wp_cf rfl ?_
      refine wp_sk ?_
      refine qs_n ?_
      refine wp_sc ?_
      refine wp_sq ?_
      refine sq_v rfl (v_move rfl) rfl ?_
      refine sq_v rfl (v_geq rfl rfl) rfl ?_
      refine sq_end ?_
      refine qs_n ?_
      refine wp_cd rfl (fun c54 => ?_) (fun c54 => ?_)
      · refine wp_sq ?_
        refine sq_v rfl (v_move rfl) rfl ?_
        refine sq_v rfl (v_move rfl) rfl ?_
        refine sq_v rfl (v_fieldAddr fd_28_1 ty_24 (by decide) rfl) rfl ?_
        refine sq_v rfl (v_loadB 3 ty_24 rfl rfl rfl) rfl ?_
        refine sq_v rfl (v_move rfl) rfl ?_
        refine sq_v rfl (v_idxI Try.underlying24 ty_3 rfl rfl r2 (by first | omega | (simp only [List.length_cons, List.length_nil]; omega) | (simp only [List.length_append, List.length_cons, List.length_nil]; omega) | (rw [List.length_set]; omega) | (rw [List.length_replicate]; omega) | (simp; omega)) (by first | omega | (simp only [List.length_cons, List.length_nil]; omega) | (simp only [List.length_append, List.length_cons, List.length_nil]; omega) | (rw [List.length_set]; omega) | (rw [List.length_replicate]; omega) | (simp; omega))) rfl ?_
        refine sq_v rfl (v_loadI  4 ty_3 rfl rfl r2 (by first | omega | (simp only [List.length_cons, List.length_nil]; omega) | (simp only [List.length_append, List.length_cons, List.length_nil]; omega) | (rw [List.length_set]; omega) | (rw [List.length_replicate]; omega) | (simp; omega))) rfl ?_
        refine sq_v rfl (v_idxI Try.underlying24 ty_3 rfl rfl q.toR (by first | omega | (simp only [List.length_cons, List.length_nil]; omega) | (simp only [List.length_append, List.length_cons, List.length_nil]; omega) | (rw [List.length_set]; omega) | (rw [List.length_replicate]; omega) | (simp; omega)) (by first | omega | (simp only [List.length_cons, List.length_nil]; omega) | (simp only [List.length_append, List.length_cons, List.length_nil]; omega) | (rw [List.length_set]; omega) | (rw [List.length_replicate]; omega) | (simp; omega))) rfl ?_
        refine sq_m 0 rfl rfl (m_storeI (k := i) 0 ty_3 rfl rfl rfl q (by first | omega | (simp only [List.length_cons, List.length_nil]; omega) | (simp only [List.length_append, List.length_cons, List.length_nil]; omega) | (rw [List.length_set]; omega) | (rw [List.length_replicate]; omega) | (simp; omega))) rfl ?_; rintro _ h_q10_8 ⟨rfl, q10_8⟩
        refine sq_end ?_
        refine qs_bn ?_
        refine qs_n ?_
        refine wp_sq ?_
        refine sq_v rfl (v_add rfl rfl ((by unfold I64; omega))) rfl ?_
        refine sq_v rfl (v_move rfl) rfl ?_
        refine sq_end ?_
        exfalso; omega
      · refine wp_sq ?_
        refine sq_v rfl (v_move rfl) rfl ?_
        refine sq_v rfl (v_move rfl) rfl ?_
        refine sq_v rfl (v_fieldAddr fd_28_1 ty_24 (by decide) rfl) rfl ?_
        refine sq_v rfl (v_loadB 2 ty_24 rfl rfl rfl) rfl ?_
        have hy0 : 0 ≤ findI u.l (L.getD i 0) := (by first | omega | exact hfg2.2 (hmL.resolve_left fun h => c35 (hfg1.2 h)))
        refine sq_v rfl (v_move rfl) rfl ?_
        refine sq_v rfl (v_idxI Try.underlying24 ty_3 rfl rfl r2' (by first | omega | (simp only [List.length_cons, List.length_nil]; omega) | (simp only [List.length_append, List.length_cons, List.length_nil]; omega) | (rw [List.length_set]; omega) | (rw [List.length_replicate]; omega) | (simp; omega)) (by first | omega | (simp only [List.length_cons, List.length_nil]; omega) | (simp only [List.length_append, List.length_cons, List.length_nil]; omega) | (rw [List.length_set]; omega) | (rw [List.length_replicate]; omega) | (simp; omega))) rfl ?_
        refine sq_v rfl (v_loadI  4 ty_3 rfl rfl r2' (by first | omega | (simp only [List.length_cons, List.length_nil]; omega) | (simp only [List.length_append, List.length_cons, List.length_nil]; omega) | (rw [List.length_set]; omega) | (rw [List.length_replicate]; omega) | (simp; omega))) rfl ?_
        refine sq_v rfl (v_idxI Try.underlying24 ty_3 rfl rfl q.toR (by first | omega | (simp only [List.length_cons, List.length_nil]; omega) | (simp only [List.length_append, List.length_cons, List.length_nil]; omega) | (rw [List.length_set]; omega) | (rw [List.length_replicate]; omega) | (simp; omega)) (by first | omega | (simp only [List.length_cons, List.length_nil]; omega) | (simp only [List.length_append, List.length_cons, List.length_nil]; omega) | (rw [List.length_set]; omega) | (rw [List.length_replicate]; omega) | (simp; omega))) rfl ?_
        refine sq_m 0 rfl rfl (m_storeI (k := i) 0 ty_3 rfl rfl rfl q (by first | omega | (simp only [List.length_cons, List.length_nil]; omega) | (simp only [List.length_append, List.length_cons, List.length_nil]; omega) | (rw [List.length_set]; omega) | (rw [List.length_replicate]; omega) | (simp; omega))) rfl ?_; rintro _ h_q11_8 ⟨rfl, q11_8⟩
        refine sq_end ?_
        refine qs_bn ?_
        refine qs_n ?_
        refine wp_sq ?_
        refine sq_v rfl (v_add rfl rfl ((by unfold I64; omega))) rfl ?_
        refine sq_v rfl (v_move rfl) rfl ?_
        refine sq_end ?_
        exact qs_bk (i + 1, h_q11_8) ⟨by (try dsimp only); omega, step_all hm (fun h => c35 (hfg1.2 h.1.1)), by (try dsimp only); rw [← set_prefix (by omega), map_getD (by omega), dimJ_no (fun h => c35 (hfg1.2 h))]; exact q11_8⟩ (by simp only; omega) ⟨rfl, rfl, rfl, rfl, rfl, rfl, rfl, rfl, rfl, (by first | rfl | exact ksub rfl (by first | omega | (simp; done) | (simp; omega))), trivial⟩ (fun _ s => s)
  · refine wp_ex ?_
    refine qs_x ?_
    refine qs_x ?_
    refine qs_bx ?_
    refine qs_n ?_
    refine wp_sc ?_
    refine wp_sq ?_
    refine sq_v rfl (v_move rfl) rfl ?_
    refine sq_v rfl (v_move rfl) rfl ?_
    refine sq_v rfl (v_assign rfl) rfl ?_
    refine sq_v rfl (v_assign rfl) rfl ?_
    refine sq_v rfl (v_assign rfl) rfl ?_
    refine sq_end ?_
    refine qs_n ?_
    refine wp_rt ?_
    refine qs_close [hp w] [h17, g] (fun _ s => s.pick [4, 1, 0] (by decide) rfl) (fun md => ?_)
    have hnm : ¬ mism t u := mism_none hn (by rw [← hL]; exact fun j hj => hm j (by omega))
    have e1 : joinD t u = L.map (dimJ t u) := by rw [hL]; exact joinD_map (dimJ_l htn ht) (dimJ_r hn hu hnm)
    rw [List.take_of_length_le (by rw [List.length_map]; omega), show (L.map (dimJ t u)).length - i = 0 by rw [List.length_map]; omega, List.replicate_zero, List.append_nil] at q
    exact qs_ret3 rfl rfl rfl rfl (fin_t 0 (i := 1) rfl rfl rfl ⟨fun h => absurd h hnm, fun _ => ⟨_, _, rfl, by rw [← hL]; exact r17.toR.mono (md.le h17 (by simp)), by rw [e1]; exact q.toR.mono (md.le g (by simp))⟩⟩)
set_option maxHeartbeats 1000000 in
theorem ct_i_fillTensor (k p n : Int) (ls ds xs : List Int) (a b c : Value) (w : World) (r1 : IntsR ls a (hp w)) (r2 : IntsR ds b (hp w)) (r3 : IntsR xs c (hp w)) (hd : dimsIn ds) (hp1 : prodI ds ≤ 4096) (hx : xs.length ≤ 6) (hl : ls.length ≤ 12) (hdl : ds.length ≤ 12) :
    Calls Try.prog 134 [ringV k p n, a, b, c].toArray w (Ret w emp (TenT ⟨ls, ds, (List.replicate (prodI ds).toNat xs).flatten⟩)) := by
  have hp0 := prodI_one fun d h => (dims_mem hd d h).1
  have hm6 : 0 ≤ prodI ds * xs.length ∧ prodI ds * xs.length ≤ 24576 := ⟨Int.mul_nonneg (by omega) (by omega), by have : prodI ds * xs.length ≤ 4096 * 6 := Int.mul_le_mul hp1 (by omega) (by omega) (by omega); omega⟩
  refine calls_in Try.func134 rfl Try.ntmps134 rfl (Sat.start w) ?_
  have hle0 := r1.le
  have hle1 := r2.le
  have hle2 := r3.le
  refine wp_sc ?_
  refine wp_sq ?_
  refine sq_x rfl (x_box rfl rfl) rfl ?_; rintro _ _ ⟨b4, rfl, rfl⟩
  refine sq_x rfl (x_alloc ty_28 rfl) rfl ?_; rintro _ _ ⟨b8, rfl, rfl⟩
  refine sq_end ?_
  refine qs_n ?_
  refine wp_sc ?_
  refine wp_sq ?_
  refine sq_v rfl (v_move rfl) rfl ?_
  refine sq_x rfl (x_call rfl en_91 (fun w s => ct_i_copyInts _ _ w (r1.mono (s.get 2 rfl)) (by first | assumption | omega))) rfl ?_; rintro v13 h13 r13
  refine sq_v rfl (v_move rfl) rfl ?_
  refine sq_x rfl (x_call rfl en_91 (fun w s => ct_i_copyInts _ _ w (r2.mono (s.get 3 rfl)) (by first | assumption | omega))) rfl ?_; rintro v15 h15 r15
  refine sq_v rfl (v_build [v13, v15, .slice none 0 0] rfl (by obtain ⟨_, _, rfl⟩ := r13.toR.sl; obtain ⟨_, _, rfl⟩ := r15.toR.sl; kernel_rfl)) rfl ?_
  refine sq_x rfl (x_alloc ty_28 rfl) rfl ?_; rintro _ _ ⟨b9, rfl, rfl⟩
  refine sq_m 0 rfl rfl (m_store 0 ty_28 rfl rfl rfl rfl (by simp [r13.toR.sl.one, r15.toR.sl.one, one_sl]) rfl (Nat.le_of_ble_eq_true rfl)) rfl ?_; rintro _ _ ⟨rfl, rfl⟩
  refine sq_end ?_
  refine qs_n ?_
  refine wp_sc ?_
  refine wp_sq ?_
  refine sq_v rfl (v_move rfl) rfl ?_
  refine sq_u rfl (x_callv rfl en_159 (fun w s => ct_i_productOf _ _ w (r2.mono (s.get 5 rfl)) (by first | assumption | omega) (by first | assumption | omega))) rfl ?_
  refine sq_v rfl (v_assign rfl) rfl ?_
  refine sq_end ?_
  refine qs_n ?_
  refine wp_sc ?_
  refine wp_sq ?_
  refine sq_v rfl (v_move rfl) rfl ?_
  refine sq_v rfl (v_move rfl) rfl ?_
  refine sq_v rfl (v_len Try.underlying24 rfl r3.sl) rfl ?_
  refine sq_v rfl (v_mul rfl rfl ((by unfold I64; omega))) rfl ?_
  refine sq_x rfl (x_make0I Try.underlying24 ty_3 rfl rfl (by first | omega | (simp only [List.length_cons, List.length_nil]; omega) | (simp only [List.length_append, List.length_cons, List.length_nil]; omega) | (rw [List.length_set]; omega) | (rw [List.length_replicate]; omega) | (simp; omega)) (by first | omega | (simp only [List.length_cons, List.length_nil]; omega) | (simp only [List.length_append, List.length_cons, List.length_nil]; omega) | (rw [List.length_set]; omega) | (rw [List.length_replicate]; omega) | (simp; omega)) (by first | omega | (simp only [List.length_cons, List.length_nil]; omega) | (simp only [List.length_append, List.length_cons, List.length_nil]; omega) | (rw [List.length_set]; omega) | (rw [List.length_replicate]; omega) | (simp; omega))) rfl ?_; intro v23 h23 r23
  refine sq_v rfl (v_fieldAddr fd_28_2 ty_24 (by decide) rfl) rfl ?_
  refine sq_m 1 rfl rfl (m_store1 1 ty_24 rfl rfl r23.toR.sl.one rfl (Nat.le_of_ble_eq_true rfl)) rfl ?_; rintro _ _ ⟨rfl, rfl⟩
  refine sq_end ?_
  refine qs_n ?_
  refine wp_sc ?_
  refine wp_sc ?_
  refine wp_sq ?_
  refine sq_v rfl (v_assign rfl) rfl ?_
  refine sq_end ?_
  refine qs_n ?_
  refine wp_bl ?_
  refine wp_lp (σ := Nat × Value × PH) (fun z_ => [(3, c), (8, .pointer (some ⟨b8, 0, none⟩)), (9, .pointer (some ⟨b9, 0, none⟩)), (10, num (prodI ds)), (11, num z_.1)]) (fun z_ => [z_.2.2, box b9 [v13, v15, z_.2.1] 28, h15, h13, box b8 [.slice none 0 0, .slice none 0 0, .slice none 0 0] 28, box b4 [num k, num p, num n] 30, hp w]) (fun z_ => z_.1 ≤ (prodI ds).toNat ∧ IntsO ((List.replicate z_.1 xs).flatten) z_.2.1 z_.2.2) (fun z_ => (prodI ds).toNat - z_.1) (0, v23, h23) (⟨by (try dsimp only); omega, by (try dsimp only); simpa using r23⟩) ⟨rfl, rfl, rfl, rfl, (by first | rfl | exact ksub rfl (by first | omega | (simp; done) | (simp; omega))), trivial⟩ (fun _ s => s) ?_
  rintro ⟨i, v, g⟩ ⟨hi, q⟩
  dsimp only at hi q ⊢
  have hle_q := q.toR.le
  have hfl := flat_rep_len xs i
  have hfb : i * xs.length ≤ 4096 * 6 := Nat.mul_le_mul (by omega) hx
  refine wp_sc ?_
  refine wp_sc ?_
  refine wp_sq ?_
  refine sq_v rfl (v_move rfl) rfl ?_
  refine sq_v rfl (v_move rfl) rfl ?_
  refine sq_v rfl (v_lss rfl rfl) rfl ?_
  refine sq_end ?_
  refine qs_n ?_
  refine wp_cd rfl (fun c27 => ?_) (fun c27 => ?_)
  · refine wp_sk ?_
    refine qs_n ?_
    refine wp_sc ?_
    refine wp_bl ?_
    refine wp_sq ?_
    refine sq_v rfl (v_fieldAddr fd_28_2 ty_24 (by decide) rfl) rfl ?_
    refine sq_v rfl (v_loadB 1 ty_24 rfl rfl rfl) rfl ?_
    refine sq_v rfl (v_move rfl) rfl ?_
    refine sq_m 0 rfl rfl (m_appI 0 6 Try.underlying24 ty_3 rfl rfl rfl rfl q rfl r3 (by first | omega | (simp only [List.length_cons, List.length_nil]; omega) | (simp only [List.length_append, List.length_cons, List.length_nil]; omega) | (rw [List.length_set]; omega) | (rw [List.length_replicate]; omega) | (simp; omega))) rfl ?_; intro v33 h_r33 r33
    refine sq_v rfl (v_fieldAddr fd_28_2 ty_24 (by decide) rfl) rfl ?_
    refine sq_m 1 rfl rfl (m_store1 1 ty_24 rfl rfl r33.toR.sl.one rfl (Nat.le_of_ble_eq_true rfl)) rfl ?_; rintro _ _ ⟨rfl, rfl⟩
    refine sq_end ?_
    refine qs_bn ?_
    refine qs_n ?_
    refine wp_sq ?_
    refine sq_v rfl (v_move rfl) rfl ?_
    refine sq_v rfl (v_add rfl rfl ((by unfold I64; omega))) rfl ?_
    refine sq_v rfl (v_assign rfl) rfl ?_
    refine sq_end ?_
    exact qs_bk (i + 1, v33, h_r33) ⟨by (try dsimp only); omega, by (try dsimp only); rw [flat_rep_succ]; exact r33⟩ (by simp only; omega) ⟨rfl, rfl, rfl, rfl, (by first | rfl | exact ksub rfl (by first | omega | (simp; done) | (simp; omega))), trivial⟩ (fun _ s => s)
  · refine wp_ex ?_
    refine qs_x ?_
    refine qs_x ?_
    refine qs_bx ?_
    refine qs_n ?_
    refine wp_sc ?_
    refine wp_sq ?_
    refine sq_v rfl (v_loadNB 1 ty_28 rfl rfl rfl rfl) rfl ?_
    refine sq_m 4 rfl rfl (m_store 4 ty_28 rfl rfl rfl rfl (by simp [r13.toR.sl.one, r15.toR.sl.one, q.toR.sl.one]) rfl (Nat.le_of_ble_eq_true rfl)) rfl ?_; rintro _ _ ⟨rfl, rfl⟩
    refine sq_end ?_
    refine qs_n ?_
    refine wp_rt ?_
    refine qs_close [box b8 _ _, hp w] [h13, h15, g] (fun _ s => s.pick [4, 6, 3, 2, 0] (by decide) rfl) (fun md => ?_)
    exact qs_retc 1 rfl ty_28 rfl rfl rfl (fin_t 0 (i := 2) rfl rfl rfl ⟨_, _, _, rfl, _, _, _, r13, r15, (by rw [show (prodI ds).toNat = i by omega]; exact q), md⟩)
set_option maxHeartbeats 1000000 in
theorem ct_s_l05Zero (k p n : Int) (ls ds : List Int) (a b : Value) (w : World) (hr : ringL k p n) (r1 : IntsR ls a (hp w)) (r2 : IntsR ds b (hp w)) (hd : dimsIn ds) (hp1 : prodI ds ≤ 4096) (hl : ls.length ≤ 12) (hdl : ds.length ≤ 12) :
    Calls Try.prog 121 [ringV k p n, a, b].toArray w (Ret w emp (TenT ⟨ls, ds, (List.replicate (prodI ds).toNat (zeroL k p n)).flatten⟩)) := by
  have hp0 := prodI_one fun d h => (dims_mem hd d h).1
  have hwr := width_range hr
  have hzl := zeroL_len k p n
  refine calls_in Try.func121 rfl Try.ntmps121 rfl (Sat.start w) ?_
  have hle0 := r1.le
  have hle1 := r2.le
  refine wp_sc ?_
  refine wp_sq ?_
  refine sq_x rfl (x_box rfl rfl) rfl ?_; rintro _ _ ⟨b3, rfl, rfl⟩
  refine sq_x rfl (x_alloc ty_28 rfl) rfl ?_; rintro _ _ ⟨b6, rfl, rfl⟩
  refine sq_end ?_
  refine qs_n ?_
  refine wp_sc ?_
  refine wp_sq ?_
  refine sq_v rfl (v_move rfl) rfl ?_
  refine sq_x rfl (x_call rfl en_88 (fun w s => ct_s_l05Ints _ _ w (r1.mono (s.get 2 rfl)) (by first | assumption | omega))) rfl ?_; rintro v10 h10 r10
  refine sq_v rfl (v_move rfl) rfl ?_
  refine sq_x rfl (x_call rfl en_88 (fun w s => ct_s_l05Ints _ _ w (r2.mono (s.get 3 rfl)) (by first | assumption | omega))) rfl ?_; rintro v12 h12 r12
  refine sq_v rfl (v_build [v10, v12, .slice none 0 0] rfl (by obtain ⟨_, _, rfl⟩ := r10.toR.sl; obtain ⟨_, _, rfl⟩ := r12.toR.sl; kernel_rfl)) rfl ?_
  refine sq_x rfl (x_alloc ty_28 rfl) rfl ?_; rintro _ _ ⟨b7, rfl, rfl⟩
  refine sq_m 0 rfl rfl (m_store 0 ty_28 rfl rfl rfl rfl (by simp [r10.toR.sl.one, r12.toR.sl.one, one_sl]) rfl (Nat.le_of_ble_eq_true rfl)) rfl ?_; rintro _ _ ⟨rfl, rfl⟩
  refine sq_end ?_
  refine qs_n ?_
  refine wp_sc ?_
  refine wp_sc ?_
  refine wp_sq ?_
  refine sq_v rfl (v_move rfl) rfl ?_
  refine sq_u rfl (x_callv rfl en_120 (fun w s => ct_s_l05Product _ _ _ w (r2.mono (s.get 5 rfl)) (by first | assumption | omega) (by first | assumption | omega))) rfl ?_
  refine sq_v rfl (v_assign rfl) rfl ?_
  refine sq_end ?_
  refine qs_n ?_
  refine wp_bl ?_
  refine wp_lp (σ := Nat × Value × PH) (fun z_ => [(3, .pointer (some ⟨b3, 0, none⟩)), (6, .pointer (some ⟨b6, 0, none⟩)), (7, .pointer (some ⟨b7, 0, none⟩)), (8, num (prodI ds - z_.1))]) (fun z_ => [z_.2.2, box b7 [v10, v12, z_.2.1] 28, h12, h10, box b6 [.slice none 0 0, .slice none 0 0, .slice none 0 0] 28, box b3 [num k, num p, num n] 30, hp w]) (fun z_ => z_.1 ≤ (prodI ds).toNat ∧ IntsO ((List.replicate z_.1 (zeroL k p n)).flatten) z_.2.1 z_.2.2) (fun z_ => (prodI ds).toNat - z_.1) (0, .slice none 0 0, emp) (⟨by (try dsimp only); omega, by (try dsimp only); simpa using IntsO.nil⟩) ⟨rfl, rfl, rfl, (by first | rfl | exact ksub rfl (by first | omega | (simp; done) | (simp; omega))), trivial⟩ (fun _ s => (emp_sat s)) ?_
  rintro ⟨i, v, g⟩ ⟨hi, q⟩
  dsimp only at hi q ⊢
  have hle_q := q.toR.le
  have hfl := flat_rep_len (zeroL k p n) i
  have hfb : i * (zeroL k p n).length ≤ 4096 * 6 := Nat.mul_le_mul (by omega) (by omega)
  refine wp_sc ?_
  refine wp_sc ?_
  refine wp_sq ?_
  refine sq_v rfl (v_move rfl) rfl ?_
  refine sq_v rfl (v_gtr rfl rfl) rfl ?_
  refine sq_end ?_
  refine qs_n ?_
  refine wp_cd rfl (fun c17 => ?_) (fun c17 => ?_)
  · refine wp_sk ?_
    refine qs_n ?_
    refine wp_sc ?_
    refine wp_bl ?_
    refine wp_rj 4 [(0, true), (1, true), (2, true), (3, false), (4, false), (5, false), (6, false)] mixed_ok (by kernel_rfl) ?_
    refine rj_v rfl rfl (v_fieldAddr fd_28_2 ty_24 (by decide) rfl) rfl ?_
    refine rj_v rfl rfl (v_loadB 1 ty_24 rfl rfl rfl) rfl ?_
    refine rj_v rfl rfl (v_loadNB 5 ty_30 rfl rfl rfl rfl) rfl ?_
    refine rj_x rfl rfl (x_call rfl en_206 (fun w s => ct_s_l02Zero _ _ _ w (by first | assumption | omega))) rfl ?_; rintro v23 h23 r23
    refine rj_m 1 rfl rfl rfl rfl (m_appI 1 0 Try.underlying24 ty_3 rfl rfl rfl rfl q rfl r23.toR (by first | omega | (simp only [List.length_cons, List.length_nil]; omega) | (simp only [List.length_append, List.length_cons, List.length_nil]; omega) | (rw [List.length_set]; omega) | (rw [List.length_replicate]; omega) | (simp; omega))) rfl ?_; intro v24 h_r24 r24
    refine rj_fv rfl rfl (v_fieldAddr fd_28_2 ty_24 (by decide) rfl) rfl ?_
    refine rj_m 2 rfl rfl rfl rfl (m_store1 2 ty_24 rfl rfl r24.toR.sl.one rfl (Nat.le_of_ble_eq_true rfl)) rfl ?_; rintro _ _ ⟨rfl, rfl⟩
    refine rj_end ?_
    refine qs_bn ?_
    refine qs_n ?_
    refine wp_sq ?_
    refine sq_v rfl (v_move rfl) rfl ?_
    refine sq_v rfl (v_sub rfl rfl ((by unfold I64; omega))) rfl ?_
    refine sq_v rfl (v_assign rfl) rfl ?_
    refine sq_end ?_
    exact qs_bk (i + 1, v24, h_r24) ⟨by (try dsimp only); omega, by (try dsimp only); rw [flat_rep_succ]; exact r24⟩ (by simp only; omega) ⟨rfl, rfl, rfl, (by first | rfl | exact ksub rfl (by first | omega | (simp; done) | (simp; omega))), trivial⟩ (fun _ s => s.pick [1, 2, 3, 4, 5, 6, 7] (by decide) rfl)
  · refine wp_ex ?_
    refine qs_x ?_
    refine qs_x ?_
    refine qs_bx ?_
    refine qs_n ?_
    refine wp_sc ?_
    refine wp_sq ?_
    refine sq_v rfl (v_loadNB 1 ty_28 rfl rfl rfl rfl) rfl ?_
    refine sq_m 4 rfl rfl (m_store 4 ty_28 rfl rfl rfl rfl (by simp [r10.toR.sl.one, r12.toR.sl.one, q.toR.sl.one]) rfl (Nat.le_of_ble_eq_true rfl)) rfl ?_; rintro _ _ ⟨rfl, rfl⟩
    refine sq_end ?_
    refine qs_n ?_
    refine wp_rt ?_
    refine qs_close [box b6 _ _, hp w] [h10, h12, g] (fun _ s => s.pick [4, 6, 3, 2, 0] (by decide) rfl) (fun md => ?_)
    exact qs_retc 1 rfl ty_28 rfl rfl rfl (fin_t 0 (i := 2) rfl rfl rfl ⟨_, _, _, rfl, _, _, _, r10, r12, (by rw [show (prodI ds).toNat = i by omega]; exact q), md⟩)
theorem ct_s_l05Put (k p n i : Int) (ls ds xs ys : List Int) (a b c v : Value) (w : World) (h : PH) (hr : ringL k p n) (hle : PLe h (hp w)) (ra : IntsR ls a (restP w h)) (rb : IntsR ds b (restP w h)) (rx : IntsO xs c h) (ry : IntsR ys v (restP w h)) (hy : ys.length = (widthI k n).toNat) (hi : 0 ≤ i) (hl : i * widthI k n + widthI k n ≤ xs.length) (hs : xs.length ≤ 1000000) :
    Calls Try.prog 125 [ringV k p n, tenV a b c, num i, v].toArray w (Ret w h (fun _ h' => IntsO (putL xs (i * widthI k n).toNat ys) c h')) := by
  have hwr := width_range hr
  have hm0 := Int.mul_nonneg hi (show 0 ≤ widthI k n by omega)
  have hE : ((xs.drop (i * widthI k n).toNat).take ys.length).length = ys.length := by simp; omega
  obtain ⟨E, hEe⟩ : ∃ E, E = (xs.drop (i * widthI k n).toNat).take ys.length := ⟨_, rfl⟩
  have hps := putL_self (xs := xs) (lo := (i * widthI k n).toNat) (m := ys.length) (by omega)
  rw [← hEe] at hE hps
  refine calls_in Try.func125 rfl Try.ntmps125 rfl (Sat.start2 hle) ?_
  have hle0 := ra.le
  have hle1 := rb.le
  have hle2 := rx.toR.le
  have hle3 := ry.le
  refine wp_sc ?_
  refine wp_sq ?_
  refine sq_x rfl (x_box rfl rfl) rfl ?_; rintro _ _ ⟨b4, rfl, rfl⟩
  refine sq_x rfl (x_box rfl rfl) rfl ?_; rintro _ _ ⟨b5, rfl, rfl⟩
  refine sq_end ?_
  refine qs_n ?_
  refine wp_sc ?_
  refine wp_sq ?_
  refine sq_v rfl (v_loadNB 1 ty_30 rfl rfl rfl rfl) rfl ?_
  refine sq_u rfl (x_callv rfl en_170 (fun w s => ct_s_l02Width _ _ _ w)) rfl ?_
  refine sq_v rfl (v_assign rfl) rfl ?_
  refine sq_end ?_
  refine qs_n ?_
  refine wp_sc ?_
  refine wp_sq ?_
  refine sq_v rfl (v_move rfl) rfl ?_
  refine sq_v rfl (v_len Try.underlying24 rfl ry.sl) rfl ?_
  refine sq_v rfl (v_move rfl) rfl ?_
  refine sq_end ?_
  refine qs_n ?_
  refine wp_bl ?_
  refine wp_lp (σ := Nat × PH) (fun z_ => [(2, num i), (3, v), (5, .pointer (some ⟨b5, 0, none⟩)), (8, num (widthI k n)), (13, num ys.length), (14, num z_.1)]) (fun z_ => [box b5 [a, b, c] 28, box b4 [num k, num p, num n] 30, z_.2, (restP w h)]) (fun z_ => z_.1 ≤ ys.length ∧ IntsO (putL xs (i * widthI k n).toNat (mixL ys E z_.1)) c z_.2) (fun z_ => ys.length - z_.1) (0, h) (⟨by (try dsimp only); omega, by (try dsimp only); rw [mix_zero, hps]; exact rx⟩) ⟨rfl, rfl, rfl, rfl, rfl, (by first | rfl | exact ksub rfl (by first | omega | (simp; done) | (simp; omega))), trivial⟩ (fun _ s => s) ?_
  rintro ⟨j, g⟩ ⟨hj, q⟩
  dsimp only at hj q ⊢
  have hle_q := q.toR.le
  have hml := mix_len (A := ys) (B := E) (k := j) (by omega) (by omega)
  have hpl := putL_len (xs := xs) (ys := mixL ys E j) (lo := (i * widthI k n).toNat) (by omega)
  refine wp_sc ?_
  refine wp_sq ?_
  refine sq_v rfl (v_lss rfl rfl) rfl ?_
  refine sq_end ?_
  refine qs_n ?_
  refine wp_sc ?_
  refine wp_cd rfl (fun c15 => ?_) (fun c15 => ?_)
  · refine wp_sk ?_
    refine qs_n ?_
    refine wp_sc ?_
    refine wp_bl ?_
    refine wp_sc ?_
    refine wp_sq ?_
    refine sq_v rfl (v_move rfl) rfl ?_
    refine sq_v rfl (v_assign rfl) rfl ?_
    refine sq_end ?_
    refine qs_n ?_
    refine wp_rj 12 [(0, true), (1, true), (2, true), (3, true), (4, true), (5, true), (6, true), (7, true), (8, true), (9, true), (10, true), (11, true), (12, false)] mixed_ok (by kernel_rfl) ?_
    refine rj_v rfl rfl (v_fieldAddr fd_28_2 ty_24 (by decide) rfl) rfl ?_
    refine rj_v rfl rfl (v_loadB 0 ty_24 rfl rfl rfl) rfl ?_
    refine rj_v rfl rfl (v_move rfl) rfl ?_
    refine rj_v rfl rfl (v_move rfl) rfl ?_
    refine rj_v rfl rfl (v_mul rfl rfl ((by unfold I64; omega))) rfl ?_
    refine rj_v rfl rfl (v_move rfl) rfl ?_
    refine rj_v rfl rfl (v_add rfl rfl ((by unfold I64; omega))) rfl ?_
    refine rj_v rfl rfl (v_move rfl) rfl ?_
    refine rj_v rfl rfl (v_move rfl) rfl ?_
    refine rj_v rfl rfl (v_idxI Try.underlying24 ty_3 rfl rfl ry (by first | omega | (simp only [List.length_cons, List.length_nil]; omega) | (simp only [List.length_append, List.length_cons, List.length_nil]; omega) | (rw [List.length_set]; omega) | (rw [List.length_replicate]; omega) | (simp; omega)) (by first | omega | (simp only [List.length_cons, List.length_nil]; omega) | (simp only [List.length_append, List.length_cons, List.length_nil]; omega) | (rw [List.length_set]; omega) | (rw [List.length_replicate]; omega) | (simp; omega))) rfl ?_
    refine rj_v rfl rfl (v_loadI (k := j) 3 ty_3 rfl rfl ry (by first | omega | (simp only [List.length_cons, List.length_nil]; omega) | (simp only [List.length_append, List.length_cons, List.length_nil]; omega) | (rw [List.length_set]; omega) | (rw [List.length_replicate]; omega) | (simp; omega))) rfl ?_
    refine rj_v rfl rfl (v_idxI Try.underlying24 ty_3 rfl rfl q.toR (by first | omega | (simp only [List.length_cons, List.length_nil]; omega) | (simp only [List.length_append, List.length_cons, List.length_nil]; omega) | (rw [List.length_set]; omega) | (rw [List.length_replicate]; omega) | (simp; omega)) (by first | omega | (simp only [List.length_cons, List.length_nil]; omega) | (simp only [List.length_append, List.length_cons, List.length_nil]; omega) | (rw [List.length_set]; omega) | (rw [List.length_replicate]; omega) | (simp; omega))) rfl ?_
    refine rj_m 2 rfl rfl rfl rfl (m_storeI 2 ty_3 rfl rfl rfl q (by first | omega | (simp only [List.length_cons, List.length_nil]; omega) | (simp only [List.length_append, List.length_cons, List.length_nil]; omega) | (rw [List.length_set]; omega) | (rw [List.length_replicate]; omega) | (simp; omega))) rfl ?_; rintro _ h_q5_12 ⟨rfl, q5_12⟩
    refine rj_end ?_
    refine qs_bn ?_
    refine qs_n ?_
    refine wp_sq ?_
    refine sq_v rfl (v_add rfl rfl ((by unfold I64; omega))) rfl ?_
    refine sq_v rfl (v_move rfl) rfl ?_
    refine sq_end ?_
    exact qs_bk (j + 1, h_q5_12) ⟨by (try dsimp only); omega, by (try dsimp only); rw [show (i * widthI k n + (j : Int)).toNat = (i * widthI k n).toNat + j by omega, putL_set (by omega) (by omega), mix_set (by omega) (by omega)] at q5_12; exact q5_12⟩ (by simp only; omega) ⟨rfl, rfl, rfl, rfl, rfl, (by first | rfl | exact ksub rfl (by first | omega | (simp; done) | (simp; omega))), trivial⟩ (fun _ s => s)
  · refine wp_ex ?_
    refine qs_x ?_
    refine qs_x ?_
    refine qs_bx ?_
    exact qs_ret0 rfl (fin_m 2 (i := 3) rfl rfl rfl (by rw [mix_end (by omega) (by omega)] at q; exact q))
end Go.Proofs.Ytikeobneipjfnaa
