/-
  The walks of the orders of a tensor's labels.
  Conditions: none.
-/
import Derived.Test.YtikeobneipjfnaaPerm
namespace Go.Proofs.Ytikeobneipjfnaa
set_option maxRecDepth 100000
open Go.RowKit
theorem ct_i_axisOf (ls : List Int) (x : Int) (a b c : Value) (w : World) (r : IntsR ls a (hp w)) (hb : b.oneCell' = true) (hc : c.oneCell' = true) : Calls Try.prog 204 [tenV a b c, num x].toArray w (RetV w (num (findI ls x))) := by
  refine calls_in Try.func204 rfl Try.ntmps204 rfl (Sat.start w) ?_
  have hle0 := r.le
  refine wp_sc ?_
  refine wp_sq ?_
  refine sq_x rfl (x_box rfl rfl) rfl ?_; rintro _ _ ⟨b2, rfl, rfl⟩
  refine sq_v rfl (v_assign rfl) rfl ?_
  refine sq_end ?_
  refine qs_n ?_
  refine wp_sc ?_
  refine wp_sc ?_
  refine wp_sq ?_
  refine sq_v rfl (v_fieldAddr fd_28_0 ty_24 (by decide) rfl) rfl ?_
  refine sq_v rfl (v_loadB 0 ty_24 rfl rfl rfl) rfl ?_
  refine sq_v rfl (v_len Try.underlying24 rfl r.sl) rfl ?_
  refine sq_v rfl (v_move rfl) rfl ?_
  refine sq_end ?_
  refine qs_n ?_
  refine wp_bl ?_
  refine wp_lp (σ := Nat) (fun z_ => [(1, num x), (4, num 0), (8, a), (9, num ls.length), (10, num z_)]) (fun z_ => [box b2 [a, b, c] 28, hp w]) (fun z_ => z_ ≤ ls.length ∧ (∀ j, j < z_ → ls.getD j 0 ≠ x)) (fun z_ => ls.length - z_) 0 (⟨by omega, fun j hj => by omega⟩) ⟨rfl, rfl, rfl, rfl, (by first | rfl | exact ksub rfl (by first | omega | (simp; done) | (simp; omega))), trivial⟩ (fun _ s => s) ?_
  rintro i ⟨hi, hv⟩
  refine wp_sc ?_
  refine wp_sq ?_
  refine sq_v rfl (v_lss rfl rfl) rfl ?_
  refine sq_end ?_
  refine qs_n ?_
  refine wp_sc ?_
  refine wp_cd rfl (fun c11 => ?_) (fun c11 => ?_)
  · refine wp_sk ?_
    refine qs_n ?_
    refine wp_sc ?_
    refine wp_bl ?_
    refine wp_sc ?_
    refine wp_sq ?_
    refine sq_v rfl (v_move rfl) rfl ?_
    refine sq_v rfl (v_idxI Try.underlying24 ty_3 rfl rfl r (by first | omega | (simp only [List.length_cons, List.length_nil]; omega) | (simp only [List.length_append, List.length_cons, List.length_nil]; omega) | (rw [List.length_set]; omega) | (rw [List.length_replicate]; omega) | (simp; omega)) (by first | omega | (simp only [List.length_cons, List.length_nil]; omega) | (simp only [List.length_append, List.length_cons, List.length_nil]; omega) | (rw [List.length_set]; omega) | (rw [List.length_replicate]; omega) | (simp; omega))) rfl ?_
    refine sq_v rfl (v_loadI (k := i) 1 ty_3 rfl rfl r (by first | omega | (simp only [List.length_cons, List.length_nil]; omega) | (simp only [List.length_append, List.length_cons, List.length_nil]; omega) | (rw [List.length_set]; omega) | (rw [List.length_replicate]; omega) | (simp; omega))) rfl ?_
    refine sq_v rfl (v_assign rfl) rfl ?_
    refine sq_v rfl (v_assign rfl) rfl ?_
    refine sq_end ?_
    refine qs_n ?_
    refine wp_sc ?_
    refine wp_sq ?_
    refine sq_v rfl (v_move rfl) rfl ?_
    refine sq_v rfl (v_move rfl) rfl ?_
    refine sq_v rfl (v_eql rfl rfl) rfl ?_
    refine sq_end ?_
    refine qs_n ?_
    refine wp_cd rfl (fun c17 => ?_) (fun c17 => ?_)
    · refine wp_sc ?_
      refine wp_sq ?_
      refine sq_v rfl (v_move rfl) rfl ?_
      refine sq_v rfl (v_assign rfl) rfl ?_
      refine sq_end ?_
      refine qs_n ?_
      refine wp_rt ?_
      refine qs_br ?_
      refine qs_r ?_
      refine qs_r ?_
      refine qs_br ?_
      refine qs_r ?_
      exact qs_ret1 rfl rfl (fin_q (i := 1) rfl (by rw [idx_first hv (by omega) c17]))
    · refine wp_sk ?_
      refine qs_bn ?_
      refine qs_n ?_
      refine wp_sq ?_
      refine sq_v rfl (v_add rfl rfl ((by unfold I64; omega))) rfl ?_
      refine sq_v rfl (v_move rfl) rfl ?_
      refine sq_end ?_
      exact qs_bk (i + 1) ⟨by omega, step_all hv c17⟩ (by omega) ⟨rfl, rfl, rfl, rfl, (by first | rfl | exact ksub rfl (by first | omega | (simp; done) | (simp; omega))), trivial⟩ (fun _ s => s)
  · refine wp_ex ?_
    refine qs_x ?_
    refine qs_x ?_
    refine qs_bx ?_
    refine qs_n ?_
    refine wp_sc ?_
    refine wp_sq ?_
    refine sq_v rfl (v_assign rfl) rfl ?_
    refine sq_end ?_
    refine qs_n ?_
    refine wp_rt ?_
    exact qs_ret1 rfl rfl (fin_q (i := 1) rfl (by rw [findI_none (not_mem_of fun j hj => hv j (by omega))]))
set_option maxHeartbeats 1000000 in
theorem ct_s_l06Permute (k p n : Int) (t : Ten) (ls : List Int) (a b c v : Value) (w : World) (r1 : IntsR t.l a (hp w)) (r2 : IntsR t.d b (hp w)) (r3 : IntsR t.x c (hp w)) (rl : IntsR ls v (hp w)) (ok : PermOK k p n t ls) :
    Calls Try.prog 114 [ringV k p n, tenV a b c, v].toArray w (Ret w emp (TenT (permT k n t ls))) := by
  have hlen := ok.len
  have hD := ok.dims
  have hDm := dims_mem hD
  have htd := dims_mem (axes_dims ok.axes)
  have hsm := ok.small
  have hpr := ok.prod
  have hring := ok.ring
  have hDl := permD_len t ls
  have hw := width_range hring
  refine calls_in Try.func114 rfl Try.ntmps114 rfl (Sat.start w) ?_
  have hle0 := r1.le
  have hle1 := r2.le
  have hle2 := r3.le
  have hle3 := rl.le
  refine wp_sc ?_
  refine wp_sq ?_
  refine sq_x rfl (x_box rfl rfl) rfl ?_; rintro _ _ ⟨b3, rfl, rfl⟩
  refine sq_x rfl (x_box rfl rfl) rfl ?_; rintro _ _ ⟨b4, rfl, rfl⟩
  refine sq_x rfl (x_alloc ty_28 rfl) rfl ?_; rintro _ _ ⟨b6, rfl, rfl⟩
  refine sq_end ?_
  refine qs_n ?_
  refine wp_sc ?_
  refine wp_sq ?_
  refine sq_x rfl (x_build0 Try.underlying24 ty_3) rfl ?_; intro v17 h17 (r17 : IntsO [] v17 h17)
  refine sq_v rfl (v_assign rfl) rfl ?_
  refine sq_end ?_
  refine qs_n ?_
  refine wp_sc ?_
  refine wp_sq ?_
  refine sq_x rfl (x_build0 Try.underlying24 ty_3) rfl ?_; intro v18 h18 (r18 : IntsO [] v18 h18)
  refine sq_v rfl (v_assign rfl) rfl ?_
  refine sq_end ?_
  refine qs_n ?_
  refine wp_sc ?_
  refine wp_sc ?_
  refine wp_sq ?_
  refine sq_v rfl (v_move rfl) rfl ?_
  refine sq_v rfl (v_len Try.underlying24 rfl rl.sl) rfl ?_
  refine sq_v rfl (v_move rfl) rfl ?_
  refine sq_end ?_
  refine qs_n ?_
  refine wp_bl ?_
  refine wp_lp (σ := Nat × Value × PH × Value × PH) (fun z_ => [(2, v), (3, .pointer (some ⟨b3, 0, none⟩)), (4, .pointer (some ⟨b4, 0, none⟩)), (6, .pointer (some ⟨b6, 0, none⟩)), (7, z_.2.1), (8, z_.2.2.2.1), (19, v), (20, num ls.length), (21, num z_.1)]) (fun z_ => [z_.2.2.1, z_.2.2.2.2, box b6 [.slice none 0 0, .slice none 0 0, .slice none 0 0] 28, box b4 [a, b, c] 28, box b3 [num k, num p, num n] 30, hp w]) (fun z_ => z_.1 ≤ ls.length ∧ IntsO (idxAt t.l t.d (ls.take z_.1)) z_.2.1 z_.2.2.1 ∧ IntsO ((ls.take z_.1).map (findI t.l)) z_.2.2.2.1 z_.2.2.2.2) (fun z_ => ls.length - z_.1) (0, v17, h17, v18, h18) (⟨by (try dsimp only); omega, r17, r18⟩) ⟨rfl, rfl, rfl, rfl, (by first | rfl | exact ksub rfl (by first | omega | (simp; done) | (simp; omega))), (by first | rfl | exact ksub rfl (by first | omega | (simp; done) | (simp; omega))), rfl, rfl, (by first | rfl | exact ksub rfl (by first | omega | (simp; done) | (simp; omega))), trivial⟩ (fun _ s => s.pick [1, 0, 2, 3, 4, 5] (by decide) rfl) ?_
  rintro ⟨i, v1, h1, v2, h2⟩ ⟨hi, q1, q2⟩
  dsimp only at hi q1 q2 ⊢
  have hle_q1 := q1.toR.le
  have hle_q2 := q2.toR.le
  have hl1 : (idxAt t.l t.d (ls.take i)).length = i := by simp [idxAt]; omega
  have hl2 : ((ls.take i).map (findI t.l)).length = i := by simp; omega
  refine wp_sc ?_
  refine wp_sq ?_
  refine sq_v rfl (v_lss rfl rfl) rfl ?_
  refine sq_end ?_
  refine qs_n ?_
  refine wp_sc ?_
  refine wp_cd rfl (fun c22 => ?_) (fun c22 => ?_)
  · refine wp_sk ?_
    refine qs_n ?_
    refine wp_sc ?_
    refine wp_bl ?_
    refine wp_sc ?_
    refine wp_sq ?_
    refine sq_v rfl (v_idxI Try.underlying24 ty_3 rfl rfl rl (by first | omega | (simp only [List.length_cons, List.length_nil]; omega) | (simp only [List.length_append, List.length_cons, List.length_nil]; omega) | (rw [List.length_set]; omega) | (rw [List.length_replicate]; omega) | (simp; omega)) (by first | omega | (simp only [List.length_cons, List.length_nil]; omega) | (simp only [List.length_append, List.length_cons, List.length_nil]; omega) | (rw [List.length_set]; omega) | (rw [List.length_replicate]; omega) | (simp; omega))) rfl ?_
    refine sq_v rfl (v_loadI (k := i) 5 ty_3 rfl rfl rl (by first | omega | (simp only [List.length_cons, List.length_nil]; omega) | (simp only [List.length_append, List.length_cons, List.length_nil]; omega) | (rw [List.length_set]; omega) | (rw [List.length_replicate]; omega) | (simp; omega))) rfl ?_
    refine sq_v rfl (v_assign rfl) rfl ?_
    refine sq_end ?_
    refine qs_n ?_
    refine wp_sc ?_
    refine wp_sq ?_
    refine sq_v rfl (v_fieldAddr fd_28_0 ty_24 (by decide) rfl) rfl ?_
    refine sq_v rfl (v_loadB 3 ty_24 rfl rfl rfl) rfl ?_
    refine sq_v rfl (v_move rfl) rfl ?_
    refine sq_u rfl (x_callv rfl en_123 (fun w s => ct_s_l05Find _ _ _ w (r1.mono (s.get 5 rfl)))) rfl ?_
    refine sq_v rfl (v_assign rfl) rfl ?_
    refine sq_end ?_
    refine qs_n ?_
    refine wp_sc ?_
    refine wp_sq ?_
    refine sq_v rfl (v_move rfl) rfl ?_
    refine sq_v rfl (v_move rfl) rfl ?_
    refine sq_x rfl (x_buildS [num (findI t.l (ls.getD i 0))] Try.underlying24 ty_3 (by decide) rfl rfl rfl (by decide) (by decide) (by intro v hv; simp at hv; rcases hv with rfl <;> rfl)) rfl ?_; intro v31 h31 (r31 : IntsO [findI t.l (ls.getD i 0)] v31 h31)
    refine sq_m 2 rfl rfl (m_appI 2 0 Try.underlying24 ty_3 rfl rfl rfl rfl q2 rfl r31.toR (by first | omega | (simp only [List.length_cons, List.length_nil]; omega) | (simp only [List.length_append, List.length_cons, List.length_nil]; omega) | (rw [List.length_set]; omega) | (rw [List.length_replicate]; omega) | (simp; omega))) rfl ?_; intro v32 h_r32 r32
    refine sq_v rfl (v_assign rfl) rfl ?_
    refine sq_end ?_
    refine qs_n ?_
    refine wp_sq ?_
    refine sq_v rfl (v_move rfl) rfl ?_
    refine sq_v rfl (v_fieldAddr fd_28_1 ty_24 (by decide) rfl) rfl ?_
    refine sq_v rfl (v_loadB 4 ty_24 rfl rfl rfl) rfl ?_
    refine sq_v rfl (v_move rfl) rfl ?_
    have hf := ok.find (j := i) (by omega)
    refine sq_v rfl (v_idxI Try.underlying24 ty_3 rfl rfl r2 (by first | omega | (simp only [List.length_cons, List.length_nil]; omega) | (simp only [List.length_append, List.length_cons, List.length_nil]; omega) | (rw [List.length_set]; omega) | (rw [List.length_replicate]; omega) | (simp; omega)) (by first | omega | (simp only [List.length_cons, List.length_nil]; omega) | (simp only [List.length_append, List.length_cons, List.length_nil]; omega) | (rw [List.length_set]; omega) | (rw [List.length_replicate]; omega) | (simp; omega))) rfl ?_
    refine sq_v rfl (v_loadI  6 ty_3 rfl rfl r2 (by first | omega | (simp only [List.length_cons, List.length_nil]; omega) | (simp only [List.length_append, List.length_cons, List.length_nil]; omega) | (rw [List.length_set]; omega) | (rw [List.length_replicate]; omega) | (simp; omega))) rfl ?_
    refine sq_x rfl (x_buildS [num (t.d.getD (findI t.l (ls.getD i 0) : Int).toNat 0)] Try.underlying24 ty_3 (by decide) rfl rfl rfl (by decide) (by decide) (by intro v hv; simp at hv; rcases hv with rfl <;> rfl)) rfl ?_; intro v39 h39 (r39 : IntsO [t.d.getD (findI t.l (ls.getD i 0) : Int).toNat 0] v39 h39)
    refine sq_m 2 rfl rfl (m_appI 2 0 Try.underlying24 ty_3 rfl rfl rfl rfl q1 rfl r39.toR (by first | omega | (simp only [List.length_cons, List.length_nil]; omega) | (simp only [List.length_append, List.length_cons, List.length_nil]; omega) | (rw [List.length_set]; omega) | (rw [List.length_replicate]; omega) | (simp; omega))) rfl ?_; intro v40 h_r40 r40
    refine sq_v rfl (v_assign rfl) rfl ?_
    refine sq_end ?_
    refine qs_bn ?_
    refine qs_n ?_
    refine wp_sq ?_
    refine sq_v rfl (v_add rfl rfl ((by unfold I64; omega))) rfl ?_
    refine sq_v rfl (v_move rfl) rfl ?_
    refine sq_end ?_
    exact qs_bk (i + 1, v40, h_r40, v32, h_r32) ⟨by (try dsimp only); omega, by (try dsimp only); rw [idxAt_step (by omega)]; exact r40, by (try dsimp only); rw [take_succ (by omega), List.map_append]; exact r32⟩ (by simp only; omega) ⟨rfl, rfl, rfl, rfl, (by first | rfl | exact ksub rfl (by first | omega | (simp; done) | (simp; omega))), (by first | rfl | exact ksub rfl (by first | omega | (simp; done) | (simp; omega))), rfl, rfl, (by first | rfl | exact ksub rfl (by first | omega | (simp; done) | (simp; omega))), trivial⟩ (fun _ s => s.pick [2, 3, 4, 5, 6, 7] (by decide) rfl)
  · refine wp_ex ?_
    refine qs_x ?_
    refine qs_x ?_
    refine qs_bx ?_
    refine qs_n ?_
    refine wp_sc ?_
    refine wp_sq ?_
    refine sq_v rfl (v_move rfl) rfl ?_
    rw [List.take_of_length_le (by omega)] at q1 q2 hl1 hl2; have hl1' : (permD t ls).length = i := hl1; replace q1 : IntsO (permD t ls) v1 h1 := q1;
    refine sq_x rfl (x_call rfl en_88 (fun w s => ct_s_l05Ints _ _ w (rl.mono (s.get 5 rfl)) (by first | assumption | omega))) rfl ?_; rintro v43 h43 r43
    refine sq_v rfl (v_move rfl) rfl ?_
    refine sq_v rfl (v_build [v43, v1, .slice none 0 0] rfl (by obtain ⟨_, _, rfl⟩ := r43.toR.sl; obtain ⟨_, _, rfl⟩ := q1.toR.sl; kernel_rfl)) rfl ?_
    refine sq_x rfl (x_alloc ty_28 rfl) rfl ?_; rintro _ _ ⟨b12, rfl, rfl⟩
    refine sq_m 0 rfl rfl (m_store 0 ty_28 rfl rfl rfl rfl (by simp [r43.toR.sl.one, q1.toR.sl.one, one_sl]) rfl (Nat.le_of_ble_eq_true rfl)) rfl ?_; rintro _ _ ⟨rfl, rfl⟩
    refine sq_end ?_
    refine qs_n ?_
    refine wp_sc ?_
    refine wp_sq ?_
    refine sq_v rfl (v_move rfl) rfl ?_
    refine sq_v rfl (v_len Try.underlying24 rfl q2.toR.sl) rfl ?_
    refine sq_x rfl (x_makeI Try.underlying24 ty_3 rfl rfl (by first | omega | (simp only [List.length_cons, List.length_nil]; omega) | (simp only [List.length_append, List.length_cons, List.length_nil]; omega) | (rw [List.length_set]; omega) | (rw [List.length_replicate]; omega) | (simp; omega)) (by first | omega | (simp only [List.length_cons, List.length_nil]; omega) | (simp only [List.length_append, List.length_cons, List.length_nil]; omega) | (rw [List.length_set]; omega) | (rw [List.length_replicate]; omega) | (simp; omega)) (by first | omega | (simp only [List.length_cons, List.length_nil]; omega) | (simp only [List.length_append, List.length_cons, List.length_nil]; omega) | (rw [List.length_set]; omega) | (rw [List.length_replicate]; omega) | (simp; omega))) rfl ?_; intro v48 h48 r48
    refine sq_v rfl (v_assign rfl) rfl ?_
    refine sq_end ?_
    refine qs_n ?_
    refine wp_sc ?_
    refine wp_sc ?_
    refine wp_sq ?_
    refine sq_v rfl (v_assign rfl) rfl ?_
    refine sq_end ?_
    refine qs_n ?_
    refine wp_bl ?_
    refine wp_lp (σ := Nat × (List Int) × PH × Value × PH) (fun z_ => [(3, .pointer (some ⟨b3, 0, none⟩)), (4, .pointer (some ⟨b4, 0, none⟩)), (6, .pointer (some ⟨b6, 0, none⟩)), (7, v1), (8, v2), (12, .pointer (some ⟨b12, 0, none⟩)), (13, v48), (14, num z_.1)]) (fun z_ => [z_.2.2.2.2, z_.2.2.1, box b12 [v43, v1, z_.2.2.2.1] 28, h43, h1, h2, box b6 [.slice none 0 0, .slice none 0 0, .slice none 0 0] 28, box b4 [a, b, c] 28, box b3 [num k, num p, num n] 30, hp w]) (fun z_ => z_.1 ≤ (prodI (permD t ls)).toNat ∧ z_.2.1.length = ls.length ∧ IntsO z_.2.1 v48 z_.2.2.1 ∧ IntsO (permX (widthI k n) t ls (permD t ls) z_.1) z_.2.2.2.1 z_.2.2.2.2) (fun z_ => (prodI (permD t ls)).toNat - z_.1) (0, List.replicate ls.length 0, h48, .slice none 0 0, emp) (⟨by (try dsimp only); omega, by (try dsimp only); simp, by (try dsimp only); simpa [hl2, show i = ls.length by omega] using r48, IntsO.nil⟩) ⟨rfl, rfl, rfl, rfl, rfl, rfl, rfl, (by first | rfl | exact ksub rfl (by first | omega | (simp; done) | (simp; omega))), trivial⟩ (fun _ s => (emp_sat s)) ?_
    rintro ⟨m, A, g, vx, hx⟩ ⟨hm, hA, q48, qx⟩
    dsimp only at hm hA q48 qx ⊢
    have hle_q48 := q48.toR.le
    have hle_qx := qx.toR.le
    have hxl := permX_len ok m
    have hil := idxL_len (permD t ls) m
    refine wp_sc ?_
    refine wp_sc ?_
    refine wp_sq ?_
    refine sq_v rfl (v_move rfl) rfl ?_
    refine sq_v rfl (v_move rfl) rfl ?_
    refine sq_u rfl (x_callv rfl en_120 (fun w s => ct_s_l05Product _ _ _ w (q1.toR.mono (s.get 4 rfl)) (by first | assumption | omega) (by first | assumption | omega))) rfl ?_
    refine sq_v rfl (v_lss rfl rfl) rfl ?_
    refine sq_end ?_
    refine qs_n ?_
    refine wp_cd rfl (fun c52 => ?_) (fun c52 => ?_)
    · refine wp_sk ?_
      refine qs_n ?_
      refine wp_sc ?_
      refine wp_bl ?_
      refine wp_sc ?_
      refine wp_sc ?_
      refine wp_sq ?_
      refine sq_v rfl (v_move rfl) rfl ?_
      refine sq_v rfl (v_move rfl) rfl ?_
      refine sq_x rfl (x_call rfl en_122 (fun w s => ct_s_l05Index _ _ _ w (q1.toR.mono (s.get 4 rfl)) (by first | assumption | omega) (by first | assumption | omega) (by first | assumption | omega))) rfl ?_; rintro v57 h57 r57
      refine sq_v rfl (v_len Try.underlying24 rfl r57.toR.sl) rfl ?_
      refine sq_v rfl (v_move rfl) rfl ?_
      refine sq_end ?_
      refine qs_n ?_
      refine wp_bl ?_
      refine wp_lp (σ := Nat × (List Int) × PH) (fun z_ => [(3, .pointer (some ⟨b3, 0, none⟩)), (4, .pointer (some ⟨b4, 0, none⟩)), (6, .pointer (some ⟨b6, 0, none⟩)), (7, v1), (8, v2), (12, .pointer (some ⟨b12, 0, none⟩)), (13, v48), (14, num m), (49, num m), (50, v1), (51, num (min (prodI (permD t ls)) (4096 + 1))), (52, .bool (decide ((m : Int) < min (prodI (permD t ls)) (4096 + 1)))), (55, v1), (56, num m), (57, v57), (58, num (idxL (permD t ls) m).length), (59, num z_.1)]) (fun z_ => [h57, hx, z_.2.2, box b12 [v43, v1, vx] 28, h43, h1, h2, box b6 [.slice none 0 0, .slice none 0 0, .slice none 0 0] 28, box b4 [a, b, c] 28, box b3 [num k, num p, num n] 30, hp w]) (fun z_ => z_.1 ≤ (idxL (permD t ls) m).length ∧ z_.2.1.length = ls.length ∧ (∀ q, q < z_.1 → z_.2.1.getD (findI t.l (ls.getD q 0)).toNat 0 = (idxL (permD t ls) m).getD q 0) ∧ IntsO z_.2.1 v48 z_.2.2) (fun z_ => (idxL (permD t ls) m).length - z_.1) (0, A, g) (⟨by (try dsimp only); omega, hA, fun q hq => by omega, q48⟩) ⟨rfl, rfl, rfl, rfl, rfl, rfl, rfl, rfl, rfl, rfl, rfl, rfl, rfl, rfl, rfl, rfl, (by first | rfl | exact ksub rfl (by first | omega | (simp; done) | (simp; omega))), trivial⟩ (fun _ s => s) ?_
      rintro ⟨j, A2, g2⟩ ⟨hj, hA2, hAq, q48b⟩
      dsimp only at hj hA2 hAq q48b ⊢
      have hle_q48b := q48b.toR.le
      refine wp_sc ?_
      refine wp_sq ?_
      refine sq_v rfl (v_lss rfl rfl) rfl ?_
      refine sq_end ?_
      refine qs_n ?_
      refine wp_sc ?_
      refine wp_cd rfl (fun c60 => ?_) (fun c60 => ?_)
      · refine wp_sk ?_
        refine qs_n ?_
        refine wp_sc ?_
        refine wp_bl ?_
        refine wp_sc ?_
        refine wp_sq ?_
        refine sq_v rfl (v_move rfl) rfl ?_
        refine sq_v rfl (v_idxI Try.underlying24 ty_3 rfl rfl r57.toR (by first | omega | (simp only [List.length_cons, List.length_nil]; omega) | (simp only [List.length_append, List.length_cons, List.length_nil]; omega) | (rw [List.length_set]; omega) | (rw [List.length_replicate]; omega) | (simp; omega)) (by first | omega | (simp only [List.length_cons, List.length_nil]; omega) | (simp only [List.length_append, List.length_cons, List.length_nil]; omega) | (rw [List.length_set]; omega) | (rw [List.length_replicate]; omega) | (simp; omega))) rfl ?_
        refine sq_v rfl (v_loadI (k := j) 0 ty_3 rfl rfl r57.toR (by first | omega | (simp only [List.length_cons, List.length_nil]; omega) | (simp only [List.length_append, List.length_cons, List.length_nil]; omega) | (rw [List.length_set]; omega) | (rw [List.length_replicate]; omega) | (simp; omega))) rfl ?_
        refine sq_v rfl (v_assign rfl) rfl ?_
        refine sq_v rfl (v_assign rfl) rfl ?_
        refine sq_end ?_
        refine qs_n ?_
        refine wp_sq ?_
        refine sq_v rfl (v_move rfl) rfl ?_
        refine sq_v rfl (v_move rfl) rfl ?_
        refine sq_v rfl (v_move rfl) rfl ?_
        refine sq_v rfl (v_idxI Try.underlying24 ty_3 rfl rfl q2.toR (by first | omega | (simp only [List.length_cons, List.length_nil]; omega) | (simp only [List.length_append, List.length_cons, List.length_nil]; omega) | (rw [List.length_set]; omega) | (rw [List.length_replicate]; omega) | (simp; omega)) (by first | omega | (simp only [List.length_cons, List.length_nil]; omega) | (simp only [List.length_append, List.length_cons, List.length_nil]; omega) | (rw [List.length_set]; omega) | (rw [List.length_replicate]; omega) | (simp; omega))) rfl ?_
        have hf := ok.find (j := j) (by omega); have hpj : (ls.map (findI t.l)).getD j 0 = findI t.l (ls.getD j 0) := map_getD (by omega)
        refine sq_v rfl (v_loadI (k := j) 6 ty_3 rfl rfl q2.toR (by first | omega | (simp only [List.length_cons, List.length_nil]; omega) | (simp only [List.length_append, List.length_cons, List.length_nil]; omega) | (rw [List.length_set]; omega) | (rw [List.length_replicate]; omega) | (simp; omega))) rfl ?_
        refine sq_v rfl (v_move rfl) rfl ?_
        refine sq_v rfl (v_idxI Try.underlying24 ty_3 rfl rfl q48b.toR (by first | omega | (simp only [List.length_cons, List.length_nil]; omega) | (simp only [List.length_append, List.length_cons, List.length_nil]; omega) | (rw [List.length_set]; omega) | (rw [List.length_replicate]; omega) | (simp; omega)) (by first | omega | (simp only [List.length_cons, List.length_nil]; omega) | (simp only [List.length_append, List.length_cons, List.length_nil]; omega) | (rw [List.length_set]; omega) | (rw [List.length_replicate]; omega) | (simp; omega))) rfl ?_
        refine sq_m 2 rfl rfl (m_storeI 2 ty_3 rfl rfl rfl q48b (by first | omega | (simp only [List.length_cons, List.length_nil]; omega) | (simp only [List.length_append, List.length_cons, List.length_nil]; omega) | (rw [List.length_set]; omega) | (rw [List.length_replicate]; omega) | (simp; omega))) rfl ?_; rintro _ h_q18_7 ⟨rfl, q18_7⟩
        refine sq_end ?_
        rw [hpj] at q18_7
        refine qs_bn ?_
        refine qs_n ?_
        refine wp_sq ?_
        refine sq_v rfl (v_add rfl rfl ((by unfold I64; omega))) rfl ?_
        refine sq_v rfl (v_move rfl) rfl ?_
        refine sq_end ?_
        exact qs_bk (j + 1, A2.set (findI t.l (ls.getD j 0)).toNat ((idxL (permD t ls) m).getD j 0), h_q18_7) ⟨by (try dsimp only); omega, by (try dsimp only); rw [List.length_set]; exact hA2, ok.at_step hA2 (by omega) hAq, q18_7⟩ (by simp only; omega) ⟨rfl, rfl, rfl, rfl, rfl, rfl, rfl, rfl, rfl, rfl, rfl, rfl, rfl, rfl, rfl, rfl, (by first | rfl | exact ksub rfl (by first | omega | (simp; done) | (simp; omega))), trivial⟩ (fun _ s => s)
      · refine wp_ex ?_
        refine qs_x ?_
        refine qs_x ?_
        refine qs_bx ?_
        refine qs_n ?_
        refine wp_rj 9 [(0, true), (1, true), (2, true), (3, true), (4, true), (5, true), (6, true), (7, false), (8, false), (9, false), (10, false), (11, false)] mixed_ok (by kernel_rfl) ?_
        refine rj_v rfl rfl (v_fieldAddr fd_28_2 ty_24 (by decide) rfl) rfl ?_
        refine rj_v rfl rfl (v_loadB 3 ty_24 rfl rfl rfl) rfl ?_
        refine rj_v rfl rfl (v_loadNB 9 ty_30 rfl rfl rfl rfl) rfl ?_
        refine rj_v rfl rfl (v_loadNB 8 ty_28 rfl rfl rfl rfl) rfl ?_
        refine rj_v rfl rfl (v_fieldAddr fd_28_1 ty_24 (by decide) rfl) rfl ?_
        refine rj_v rfl rfl (v_loadB 8 ty_24 rfl rfl rfl) rfl ?_
        refine rj_v rfl rfl (v_move rfl) rfl ?_
        have hAe := ok.at_end hA2 (idx := idxL (permD t ls) m) (fun q hq => hAq q (by omega)); have hin : idxIn t.d A2 := (by rw [hAe]; exact ok.idx m); have ho := ok.off m; rw [← hAe] at ho; have hef := elt_fits ok.ten ho.2; have hel : (elt t.x (widthI k n) (offL t.d A2)).length ≤ 6 := (by unfold elt; rw [List.length_take]; omega)
        refine rj_u rfl rfl (x_callv rfl en_124 (fun w s => ct_s_l05Offset _ _ _ _ w (r2.mono (s.get 10 rfl)) (q48b.toR.mono (s.get 2 rfl)) (by first | assumption | omega) (by first | assumption | omega) (by first | assumption | omega))) rfl ?_
        refine rj_x rfl rfl (x_call rfl en_127 (fun w s => ct_s_l05Get _ _ _ _ _ _ _ _ w (by first | assumption | omega) (r3.mono (s.get 10 rfl)) (by first | assumption | omega) (by first | assumption | omega) (by first | assumption | omega))) rfl ?_; rintro v80 h80 r80
        refine rj_m 2 rfl rfl rfl rfl (m_appI 2 0 Try.underlying24 ty_3 rfl rfl rfl rfl qx rfl r80.toR (by first | omega | (simp only [List.length_cons, List.length_nil]; omega) | (simp only [List.length_append, List.length_cons, List.length_nil]; omega) | (rw [List.length_set]; omega) | (rw [List.length_replicate]; omega) | (simp; omega))) rfl ?_; intro v81 h_r81 r81
        refine rj_fv rfl rfl (v_fieldAddr fd_28_2 ty_24 (by decide) rfl) rfl ?_
        refine rj_m 4 rfl rfl rfl rfl (m_store1 4 ty_24 rfl rfl r81.toR.sl.one rfl (Nat.le_of_ble_eq_true rfl)) rfl ?_; rintro _ _ ⟨rfl, rfl⟩
        refine rj_end ?_
        refine qs_bn ?_
        refine qs_n ?_
        refine wp_sq ?_
        refine sq_v rfl (v_move rfl) rfl ?_
        refine sq_v rfl (v_add rfl rfl ((by unfold I64; omega))) rfl ?_
        refine sq_v rfl (v_assign rfl) rfl ?_
        refine sq_end ?_
        exact qs_bk (m + 1, A2, g2, v81, h_r81) ⟨by (try dsimp only); omega, hA2, q48b, by (try dsimp only); rw [permX_step, ← hAe]; exact r81⟩ (by simp only; omega) ⟨rfl, rfl, rfl, rfl, rfl, rfl, rfl, (by first | rfl | exact ksub rfl (by first | omega | (simp; done) | (simp; omega))), trivial⟩ (fun _ s => s.pick [2, 3, 4, 5, 6, 7, 8, 9, 10, 11] (by decide) rfl)
    · refine wp_ex ?_
      refine qs_x ?_
      refine qs_x ?_
      refine qs_bx ?_
      refine qs_n ?_
      refine wp_sc ?_
      refine wp_sq ?_
      refine sq_v rfl (v_loadNB 2 ty_28 rfl rfl rfl rfl) rfl ?_
      refine sq_m 6 rfl rfl (m_store 6 ty_28 rfl rfl rfl rfl (by simp [r43.toR.sl.one, q1.toR.sl.one, qx.toR.sl.one]) rfl (Nat.le_of_ble_eq_true rfl)) rfl ?_; rintro _ _ ⟨rfl, rfl⟩
      refine sq_end ?_
      refine qs_n ?_
      refine wp_rt ?_
      refine qs_close [box b6 _ _, hp w] [h43, h1, hx] (fun _ s => s.pick [6, 9, 3, 4, 0] (by decide) rfl) (fun md => ?_)
      exact qs_retc 1 rfl ty_28 rfl rfl rfl (fin_t 0 (i := 2) rfl rfl rfl ⟨_, _, _, rfl, _, _, _, r43, q1, (show IntsO (permX (widthI k n) t ls (permD t ls) (prodI (permD t ls)).toNat) vx hx by rw [show (prodI (permD t ls)).toNat = m by omega]; exact qx), md⟩)
theorem ct_u_axisOf (ls ds xs : List Int) (x : Int) (a b c : Value) (w : World) (r : IntsR ls a (hp w)) (r2 : IntsR ds b (hp w)) (r3 : IntsR xs c (hp w)) : Calls Try.prog 204 [tenV a b c, num x].toArray w (RetV w (num (findI ls x))) :=
  ct_i_axisOf ls x a b c w r r2.sl.one r3.sl.one
set_option maxHeartbeats 1000000 in
theorem ct_i_rawPermute (k p n : Int) (t : Ten) (ls : List Int) (a b c v : Value) (w : World) (r1 : IntsR t.l a (hp w)) (r2 : IntsR t.d b (hp w)) (r3 : IntsR t.x c (hp w)) (rl : IntsR ls v (hp w)) (ok : PermOK k p n t ls) :
    Calls Try.prog 116 [ringV k p n, tenV a b c, v].toArray w (Ret w emp (TenT (permT k n t ls))) := by
  have hlen := ok.len
  have hD := ok.dims
  have hDm := dims_mem hD
  have hD1 : ∀ d ∈ permD t ls, 1 ≤ d := fun d h => (hDm d h).1
  have htd := dims_mem (axes_dims ok.axes)
  have htd1 : ∀ d ∈ t.d, 1 ≤ d := fun d h => (htd d h).1
  have hsm := ok.small
  have hpr := ok.prod
  have hring := ok.ring
  have hDl := permD_len t ls
  have hw := width_range hring
  have hsl := stepsL_len ls t.l t.d
  have hsi := steps_in (labels := ls) (ls := t.l) htd1
  refine calls_in Try.func116 rfl Try.ntmps116 rfl (Sat.start w) ?_
  have hle0 := r1.le
  have hle1 := r2.le
  have hle2 := r3.le
  have hle3 := rl.le
  refine wp_sc ?_
  refine wp_sq ?_
  refine sq_x rfl (x_box rfl rfl) rfl ?_; rintro _ _ ⟨b3, rfl, rfl⟩
  refine sq_x rfl (x_box rfl rfl) rfl ?_; rintro _ _ ⟨b4, rfl, rfl⟩
  refine sq_x rfl (x_alloc ty_28 rfl) rfl ?_; rintro _ _ ⟨b6, rfl, rfl⟩
  refine sq_end ?_
  refine qs_n ?_
  refine wp_sc ?_
  refine wp_ra (σ := Nat × PH × Value × PH × Value) 7 (fun z_ => IntsO ls z_.2.2.2.2 z_.2.2.2.1 ∧ IntsO (List.replicate (ls.length : Int).toNat 0) z_.2.2.1 z_.2.1) (fun z_ => [(2, v), (3, .pointer (some ⟨b3, 0, none⟩)), (4, .pointer (some ⟨b4, 0, none⟩)), (6, .pointer (some ⟨b6, 0, none⟩)), (7, .pointer (some ⟨z_.1, 0, none⟩))]) (fun z_ => [box z_.1 [z_.2.2.2.2, z_.2.2.1, .slice none 0 0] 28, z_.2.1, z_.2.2.2.1, box b6 [.slice none 0 0, .slice none 0 0, .slice none 0 0] 28, box b4 [a, b, c] 28, box b3 [num k, num p, num n] 30, hp w]) mixed_ok (by kernel_rfl) ?_ ?_
  · refine ra_v (i := 0) (by kernel_rfl) rfl rfl (v_move rfl) rfl ?_
    refine ra_v (i := 2) (by kernel_rfl) rfl rfl (v_move rfl) rfl ?_
    refine ra_v (i := 3) (by kernel_rfl) rfl rfl (v_len Try.underlying24 rfl rl.sl) rfl ?_
    refine ra_3 (i := 1) (j := 4) (p := 6) (by kernel_rfl) ?_ ?_ ?_
    · refine ro_x rfl rfl (x_call rfl en_91 (fun w s => ct_i_copyInts _ _ w (rl.mono (s.get 3 rfl)) (by first | assumption | omega))) rfl ?_; rintro v13 h13 r13
      refine ra_2 (i := 4) (j := 6) (by kernel_rfl) ?_ ?_
      · refine ro_x rfl rfl (x_makeI Try.underlying24 ty_3 rfl rfl (by first | omega | (simp only [List.length_cons, List.length_nil]; omega) | (simp only [List.length_append, List.length_cons, List.length_nil]; omega) | (rw [List.length_set]; omega) | (rw [List.length_replicate]; omega) | (simp; omega)) (by first | omega | (simp only [List.length_cons, List.length_nil]; omega) | (simp only [List.length_append, List.length_cons, List.length_nil]; omega) | (rw [List.length_set]; omega) | (rw [List.length_replicate]; omega) | (simp; omega)) (by first | omega | (simp only [List.length_cons, List.length_nil]; omega) | (simp only [List.length_append, List.length_cons, List.length_nil]; omega) | (rw [List.length_set]; omega) | (rw [List.length_replicate]; omega) | (simp; omega))) rfl ?_; intro v16 h16 r16
        refine ra_rj [(5, true), (6, false), (7, false)] (by kernel_rfl) rfl ?_
        refine rj_v rfl rfl (v_build [v13, v16, .slice none 0 0] rfl (by obtain ⟨_, _, rfl⟩ := r13.toR.sl; obtain ⟨_, _, rfl⟩ := r16.toR.sl; kernel_rfl)) rfl ?_
        refine rj_x rfl rfl (x_alloc ty_28 rfl) rfl ?_; rintro _ _ ⟨b7, rfl, rfl⟩
        refine rj_m 0 rfl rfl rfl rfl (m_store 0 ty_28 rfl rfl rfl rfl (by simp [r13.toR.sl.one, r16.toR.sl.one, one_sl]) rfl (Nat.le_of_ble_eq_true rfl)) rfl ?_; rintro _ _ ⟨rfl, rfl⟩
        refine rj_end ?_
        exact qs_mid (b7, h16, v16, h13, v13) ⟨r13, r16⟩ ⟨rfl, rfl, rfl, rfl, rfl, trivial⟩ (fun _ s => s.pick [0, 1, 2, 3, 4, 5, 6] (by decide) rfl)
      · refine ro_x rfl rfl (x_alloc ty_28 rfl) rfl ?_; rintro _ _ ⟨b7, rfl, rfl⟩
        refine ra_rj [(4, false), (5, true), (7, false)] (by kernel_rfl) rfl ?_
        refine rj_x rfl rfl (x_makeI Try.underlying24 ty_3 rfl rfl (by first | omega | (simp only [List.length_cons, List.length_nil]; omega) | (simp only [List.length_append, List.length_cons, List.length_nil]; omega) | (rw [List.length_set]; omega) | (rw [List.length_replicate]; omega) | (simp; omega)) (by first | omega | (simp only [List.length_cons, List.length_nil]; omega) | (simp only [List.length_append, List.length_cons, List.length_nil]; omega) | (rw [List.length_set]; omega) | (rw [List.length_replicate]; omega) | (simp; omega)) (by first | omega | (simp only [List.length_cons, List.length_nil]; omega) | (simp only [List.length_append, List.length_cons, List.length_nil]; omega) | (rw [List.length_set]; omega) | (rw [List.length_replicate]; omega) | (simp; omega))) rfl ?_; intro v16 h16 r16
        refine rj_v rfl rfl (v_build [v13, v16, .slice none 0 0] rfl (by obtain ⟨_, _, rfl⟩ := r13.toR.sl; obtain ⟨_, _, rfl⟩ := r16.toR.sl; kernel_rfl)) rfl ?_
        refine rj_m 1 rfl rfl rfl rfl (m_store 1 ty_28 rfl rfl rfl rfl (by simp [r13.toR.sl.one, r16.toR.sl.one, one_sl]) rfl (Nat.le_of_ble_eq_true rfl)) rfl ?_; rintro _ _ ⟨rfl, rfl⟩
        refine rj_end ?_
        exact qs_mid (b7, h16, v16, h13, v13) ⟨r13, r16⟩ ⟨rfl, rfl, rfl, rfl, rfl, trivial⟩ (fun _ s => s.pick [1, 0, 2, 3, 4, 5, 6] (by decide) rfl)
    · refine ro_x rfl rfl (x_makeI Try.underlying24 ty_3 rfl rfl (by first | omega | (simp only [List.length_cons, List.length_nil]; omega) | (simp only [List.length_append, List.length_cons, List.length_nil]; omega) | (rw [List.length_set]; omega) | (rw [List.length_replicate]; omega) | (simp; omega)) (by first | omega | (simp only [List.length_cons, List.length_nil]; omega) | (simp only [List.length_append, List.length_cons, List.length_nil]; omega) | (rw [List.length_set]; omega) | (rw [List.length_replicate]; omega) | (simp; omega)) (by first | omega | (simp only [List.length_cons, List.length_nil]; omega) | (simp only [List.length_append, List.length_cons, List.length_nil]; omega) | (rw [List.length_set]; omega) | (rw [List.length_replicate]; omega) | (simp; omega))) rfl ?_; intro v16 h16 r16
      refine ra_2 (i := 1) (j := 6) (by kernel_rfl) ?_ ?_
      · refine ro_x rfl rfl (x_call rfl en_91 (fun w s => ct_i_copyInts _ _ w (rl.mono (s.get 4 rfl)) (by first | assumption | omega))) rfl ?_; rintro v13 h13 r13
        refine ra_rj [(5, true), (6, false), (7, false)] (by kernel_rfl) rfl ?_
        refine rj_v rfl rfl (v_build [v13, v16, .slice none 0 0] rfl (by obtain ⟨_, _, rfl⟩ := r13.toR.sl; obtain ⟨_, _, rfl⟩ := r16.toR.sl; kernel_rfl)) rfl ?_
        refine rj_x rfl rfl (x_alloc ty_28 rfl) rfl ?_; rintro _ _ ⟨b7, rfl, rfl⟩
        refine rj_m 0 rfl rfl rfl rfl (m_store 0 ty_28 rfl rfl rfl rfl (by simp [r13.toR.sl.one, r16.toR.sl.one, one_sl]) rfl (Nat.le_of_ble_eq_true rfl)) rfl ?_; rintro _ _ ⟨rfl, rfl⟩
        refine rj_end ?_
        exact qs_mid (b7, h16, v16, h13, v13) ⟨r13, r16⟩ ⟨rfl, rfl, rfl, rfl, rfl, trivial⟩ (fun _ s => s.pick [0, 2, 1, 3, 4, 5, 6] (by decide) rfl)
      · refine ro_x rfl rfl (x_alloc ty_28 rfl) rfl ?_; rintro _ _ ⟨b7, rfl, rfl⟩
        refine ra_rj [(1, false), (5, true), (7, false)] (by kernel_rfl) rfl ?_
        refine rj_x rfl rfl (x_call rfl en_91 (fun w s => ct_i_copyInts _ _ w (rl.mono (s.get 5 rfl)) (by first | assumption | omega))) rfl ?_; rintro v13 h13 r13
        refine rj_v rfl rfl (v_build [v13, v16, .slice none 0 0] rfl (by obtain ⟨_, _, rfl⟩ := r13.toR.sl; obtain ⟨_, _, rfl⟩ := r16.toR.sl; kernel_rfl)) rfl ?_
        refine rj_m 1 rfl rfl rfl rfl (m_store 1 ty_28 rfl rfl rfl rfl (by simp [r13.toR.sl.one, r16.toR.sl.one, one_sl]) rfl (Nat.le_of_ble_eq_true rfl)) rfl ?_; rintro _ _ ⟨rfl, rfl⟩
        refine rj_end ?_
        exact qs_mid (b7, h16, v16, h13, v13) ⟨r13, r16⟩ ⟨rfl, rfl, rfl, rfl, rfl, trivial⟩ (fun _ s => s.pick [1, 2, 0, 3, 4, 5, 6] (by decide) rfl)
    · refine ro_x rfl rfl (x_alloc ty_28 rfl) rfl ?_; rintro _ _ ⟨b7, rfl, rfl⟩
      refine ra_2 (i := 1) (j := 4) (by kernel_rfl) ?_ ?_
      · refine ro_x rfl rfl (x_call rfl en_91 (fun w s => ct_i_copyInts _ _ w (rl.mono (s.get 4 rfl)) (by first | assumption | omega))) rfl ?_; rintro v13 h13 r13
        refine ra_rj [(4, false), (5, true), (7, false)] (by kernel_rfl) rfl ?_
        refine rj_x rfl rfl (x_makeI Try.underlying24 ty_3 rfl rfl (by first | omega | (simp only [List.length_cons, List.length_nil]; omega) | (simp only [List.length_append, List.length_cons, List.length_nil]; omega) | (rw [List.length_set]; omega) | (rw [List.length_replicate]; omega) | (simp; omega)) (by first | omega | (simp only [List.length_cons, List.length_nil]; omega) | (simp only [List.length_append, List.length_cons, List.length_nil]; omega) | (rw [List.length_set]; omega) | (rw [List.length_replicate]; omega) | (simp; omega)) (by first | omega | (simp only [List.length_cons, List.length_nil]; omega) | (simp only [List.length_append, List.length_cons, List.length_nil]; omega) | (rw [List.length_set]; omega) | (rw [List.length_replicate]; omega) | (simp; omega))) rfl ?_; intro v16 h16 r16
        refine rj_v rfl rfl (v_build [v13, v16, .slice none 0 0] rfl (by obtain ⟨_, _, rfl⟩ := r13.toR.sl; obtain ⟨_, _, rfl⟩ := r16.toR.sl; kernel_rfl)) rfl ?_
        refine rj_m 2 rfl rfl rfl rfl (m_store 2 ty_28 rfl rfl rfl rfl (by simp [r13.toR.sl.one, r16.toR.sl.one, one_sl]) rfl (Nat.le_of_ble_eq_true rfl)) rfl ?_; rintro _ _ ⟨rfl, rfl⟩
        refine rj_end ?_
        exact qs_mid (b7, h16, v16, h13, v13) ⟨r13, r16⟩ ⟨rfl, rfl, rfl, rfl, rfl, trivial⟩ (fun _ s => s.pick [2, 0, 1, 3, 4, 5, 6] (by decide) rfl)
      · refine ro_x rfl rfl (x_makeI Try.underlying24 ty_3 rfl rfl (by first | omega | (simp only [List.length_cons, List.length_nil]; omega) | (simp only [List.length_append, List.length_cons, List.length_nil]; omega) | (rw [List.length_set]; omega) | (rw [List.length_replicate]; omega) | (simp; omega)) (by first | omega | (simp only [List.length_cons, List.length_nil]; omega) | (simp only [List.length_append, List.length_cons, List.length_nil]; omega) | (rw [List.length_set]; omega) | (rw [List.length_replicate]; omega) | (simp; omega)) (by first | omega | (simp only [List.length_cons, List.length_nil]; omega) | (simp only [List.length_append, List.length_cons, List.length_nil]; omega) | (rw [List.length_set]; omega) | (rw [List.length_replicate]; omega) | (simp; omega))) rfl ?_; intro v16 h16 r16
        refine ra_rj [(1, false), (5, true), (7, false)] (by kernel_rfl) rfl ?_
        refine rj_x rfl rfl (x_call rfl en_91 (fun w s => ct_i_copyInts _ _ w (rl.mono (s.get 5 rfl)) (by first | assumption | omega))) rfl ?_; rintro v13 h13 r13
        refine rj_v rfl rfl (v_build [v13, v16, .slice none 0 0] rfl (by obtain ⟨_, _, rfl⟩ := r13.toR.sl; obtain ⟨_, _, rfl⟩ := r16.toR.sl; kernel_rfl)) rfl ?_
        refine rj_m 2 rfl rfl rfl rfl (m_store 2 ty_28 rfl rfl rfl rfl (by simp [r13.toR.sl.one, r16.toR.sl.one, one_sl]) rfl (Nat.le_of_ble_eq_true rfl)) rfl ?_; rintro _ _ ⟨rfl, rfl⟩
        refine rj_end ?_
        exact qs_mid (b7, h16, v16, h13, v13) ⟨r13, r16⟩ ⟨rfl, rfl, rfl, rfl, rfl, trivial⟩ (fun _ s => s.pick [2, 1, 0, 3, 4, 5, 6] (by decide) rfl)
  · rintro ⟨b7, h16, v16, h13, v13⟩ ⟨r13, r16⟩
    dsimp only at r13 r16 ⊢
    refine qs_n ?_
    refine wp_sc ?_
    refine wp_sc ?_
    refine wp_sq ?_
    refine sq_v rfl (v_move rfl) rfl ?_
    refine sq_v rfl (v_len Try.underlying24 rfl rl.sl) rfl ?_
    refine sq_v rfl (v_move rfl) rfl ?_
    refine sq_end ?_
    refine qs_n ?_
    refine wp_bl ?_
    refine wp_lp (σ := Nat × PH) (fun z_ => [(2, v), (3, .pointer (some ⟨b3, 0, none⟩)), (4, .pointer (some ⟨b4, 0, none⟩)), (6, .pointer (some ⟨b6, 0, none⟩)), (7, .pointer (some ⟨b7, 0, none⟩)), (18, v), (19, num ls.length), (20, num z_.1)]) (fun z_ => [box b7 [v13, v16, .slice none 0 0] 28, z_.2, h13, box b6 [.slice none 0 0, .slice none 0 0, .slice none 0 0] 28, box b4 [a, b, c] 28, box b3 [num k, num p, num n] 30, hp w]) (fun z_ => z_.1 ≤ ls.length ∧ IntsO ((permD t ls).take z_.1 ++ List.replicate ((permD t ls).length - z_.1) 0) v16 z_.2) (fun z_ => ls.length - z_.1) (0, h16) (⟨by (try dsimp only); omega, by (try dsimp only); simpa [hDl] using r16⟩) ⟨rfl, rfl, rfl, rfl, rfl, rfl, rfl, (by first | rfl | exact ksub rfl (by first | omega | (simp; done) | (simp; omega))), trivial⟩ (fun _ s => s) ?_
    rintro ⟨i, g⟩ ⟨hi, q⟩
    dsimp only at hi q ⊢
    have hle_q := q.toR.le
    have hll : ((permD t ls).take i ++ List.replicate ((permD t ls).length - i) 0).length = ls.length := by simp; omega
    refine wp_sc ?_
    refine wp_sq ?_
    refine sq_v rfl (v_lss rfl rfl) rfl ?_
    refine sq_end ?_
    refine qs_n ?_
    refine wp_sc ?_
    refine wp_cd rfl (fun c21 => ?_) (fun c21 => ?_)
    · refine wp_sk ?_
      refine qs_n ?_
      refine wp_sc ?_
      refine wp_bl ?_
      refine wp_sc ?_
      refine wp_sq ?_
      refine sq_v rfl (v_move rfl) rfl ?_
      refine sq_v rfl (v_idxI Try.underlying24 ty_3 rfl rfl rl (by first | omega | (simp only [List.length_cons, List.length_nil]; omega) | (simp only [List.length_append, List.length_cons, List.length_nil]; omega) | (rw [List.length_set]; omega) | (rw [List.length_replicate]; omega) | (simp; omega)) (by first | omega | (simp only [List.length_cons, List.length_nil]; omega) | (simp only [List.length_append, List.length_cons, List.length_nil]; omega) | (rw [List.length_set]; omega) | (rw [List.length_replicate]; omega) | (simp; omega))) rfl ?_
      refine sq_v rfl (v_loadI (k := i) 6 ty_3 rfl rfl rl (by first | omega | (simp only [List.length_cons, List.length_nil]; omega) | (simp only [List.length_append, List.length_cons, List.length_nil]; omega) | (rw [List.length_set]; omega) | (rw [List.length_replicate]; omega) | (simp; omega))) rfl ?_
      refine sq_v rfl (v_assign rfl) rfl ?_
      refine sq_v rfl (v_assign rfl) rfl ?_
      refine sq_end ?_
      refine qs_n ?_
      refine wp_rj 11 [(0, true), (1, true), (2, true), (3, true), (4, true), (5, true), (6, true), (7, false), (8, true), (9, true), (10, true), (11, false)] mixed_ok (by kernel_rfl) ?_
      refine rj_v rfl rfl (v_fieldAddr fd_28_1 ty_24 (by decide) rfl) rfl ?_
      refine rj_v rfl rfl (v_loadB 0 ty_24 rfl rfl rfl) rfl ?_
      refine rj_v rfl rfl (v_move rfl) rfl ?_
      refine rj_v rfl rfl (v_fieldAddr fd_28_1 ty_24 (by decide) rfl) rfl ?_
      refine rj_v rfl rfl (v_loadB 4 ty_24 rfl rfl rfl) rfl ?_
      refine rj_v rfl rfl (v_loadNB 4 ty_28 rfl rfl rfl rfl) rfl ?_
      refine rj_v rfl rfl (v_move rfl) rfl ?_
      refine rj_u rfl rfl (x_callv rfl en_204 (fun w s => ct_u_axisOf _ _ _ _ _ _ _ w (r1.mono (s.get 6 rfl)) (r2.mono (s.get 6 rfl)) (r3.mono (s.get 6 rfl)))) rfl ?_
      have hf := ok.find (j := i) (by omega)
      refine rj_v rfl rfl (v_idxI Try.underlying24 ty_3 rfl rfl r2 (by first | omega | (simp only [List.length_cons, List.length_nil]; omega) | (simp only [List.length_append, List.length_cons, List.length_nil]; omega) | (rw [List.length_set]; omega) | (rw [List.length_replicate]; omega) | (simp; omega)) (by first | omega | (simp only [List.length_cons, List.length_nil]; omega) | (simp only [List.length_append, List.length_cons, List.length_nil]; omega) | (rw [List.length_set]; omega) | (rw [List.length_replicate]; omega) | (simp; omega))) rfl ?_
      refine rj_v rfl rfl (v_loadI  6 ty_3 rfl rfl r2 (by first | omega | (simp only [List.length_cons, List.length_nil]; omega) | (simp only [List.length_append, List.length_cons, List.length_nil]; omega) | (rw [List.length_set]; omega) | (rw [List.length_replicate]; omega) | (simp; omega))) rfl ?_
      refine rj_v rfl rfl (v_idxI Try.underlying24 ty_3 rfl rfl q.toR (by first | omega | (simp only [List.length_cons, List.length_nil]; omega) | (simp only [List.length_append, List.length_cons, List.length_nil]; omega) | (rw [List.length_set]; omega) | (rw [List.length_replicate]; omega) | (simp; omega)) (by first | omega | (simp only [List.length_cons, List.length_nil]; omega) | (simp only [List.length_append, List.length_cons, List.length_nil]; omega) | (rw [List.length_set]; omega) | (rw [List.length_replicate]; omega) | (simp; omega))) rfl ?_
      refine rj_m 1 rfl rfl rfl rfl (m_storeI (k := i) 1 ty_3 rfl rfl rfl q (by first | omega | (simp only [List.length_cons, List.length_nil]; omega) | (simp only [List.length_append, List.length_cons, List.length_nil]; omega) | (rw [List.length_set]; omega) | (rw [List.length_replicate]; omega) | (simp; omega))) rfl ?_; rintro _ h_q5_11 ⟨rfl, q5_11⟩
      refine rj_end ?_
      refine qs_bn ?_
      refine qs_n ?_
      refine wp_sq ?_
      refine sq_v rfl (v_add rfl rfl ((by unfold I64; omega))) rfl ?_
      refine sq_v rfl (v_move rfl) rfl ?_
      refine sq_end ?_
      exact qs_bk (i + 1, h_q5_11) ⟨by (try dsimp only); omega, by (try dsimp only); rw [← set_prefix (by omega), permD, idxAt, map_getD (by omega)]; exact q5_11⟩ (by simp only; omega) ⟨rfl, rfl, rfl, rfl, rfl, rfl, rfl, (by first | rfl | exact ksub rfl (by first | omega | (simp; done) | (simp; omega))), trivial⟩ (fun _ s => s)
    · refine wp_ex ?_
      refine qs_x ?_
      refine qs_x ?_
      refine qs_bx ?_
      refine qs_n ?_
      refine wp_sc ?_
      refine wp_sq ?_
      refine sq_v rfl (v_loadNB 4 ty_28 rfl rfl rfl rfl) rfl ?_
      refine sq_v rfl (v_move rfl) rfl ?_
      rw [List.take_of_length_le (by omega), show (permD t ls).length - i = 0 by omega, List.replicate_zero, List.append_nil] at q;
      refine sq_x rfl (x_call rfl en_136 (fun w s => ct_i_stridesOf _ _ _ _ _ _ _ w (r1.mono (s.get 6 rfl)) (r2.mono (s.get 6 rfl)) (rl.mono (s.get 6 rfl)) (by first | assumption | omega) (by first | assumption | omega) (by first | assumption | omega) (by first | assumption | omega))) rfl ?_; rintro v39 h39 r39
      refine sq_v rfl (v_assign rfl) rfl ?_
      refine sq_end ?_
      refine qs_n ?_
      refine wp_sc ?_
      refine wp_sq ?_
      refine sq_v rfl (v_move rfl) rfl ?_
      refine sq_v rfl (v_len Try.underlying24 rfl rl.sl) rfl ?_
      refine sq_x rfl (x_makeI Try.underlying24 ty_3 rfl rfl (by first | omega | (simp only [List.length_cons, List.length_nil]; omega) | (simp only [List.length_append, List.length_cons, List.length_nil]; omega) | (rw [List.length_set]; omega) | (rw [List.length_replicate]; omega) | (simp; omega)) (by first | omega | (simp only [List.length_cons, List.length_nil]; omega) | (simp only [List.length_append, List.length_cons, List.length_nil]; omega) | (rw [List.length_set]; omega) | (rw [List.length_replicate]; omega) | (simp; omega)) (by first | omega | (simp only [List.length_cons, List.length_nil]; omega) | (simp only [List.length_append, List.length_cons, List.length_nil]; omega) | (rw [List.length_set]; omega) | (rw [List.length_replicate]; omega) | (simp; omega))) rfl ?_; intro v42 h42 r42
      refine sq_v rfl (v_assign rfl) rfl ?_
      refine sq_end ?_
      refine qs_n ?_
      refine wp_bl ?_
      refine wp_lp (σ := Nat × PH × Value × PH) (fun z_ => [(3, .pointer (some ⟨b3, 0, none⟩)), (4, .pointer (some ⟨b4, 0, none⟩)), (6, .pointer (some ⟨b6, 0, none⟩)), (7, .pointer (some ⟨b7, 0, none⟩)), (10, v39), (11, v42)]) (fun z_ => [z_.2.2.2, z_.2.1, h39, box b7 [v13, v16, z_.2.2.1] 28, g, h13, box b6 [.slice none 0 0, .slice none 0 0, .slice none 0 0] 28, box b4 [a, b, c] 28, box b3 [num k, num p, num n] 30, hp w]) (fun z_ => z_.1 < (prodI (permD t ls)).toNat ∧ IntsO (idxL (permD t ls) z_.1) v42 z_.2.1 ∧ IntsO (permX (widthI k n) t ls (permD t ls) z_.1) z_.2.2.1 z_.2.2.2) (fun z_ => (prodI (permD t ls)).toNat - z_.1) (0, h42, .slice none 0 0, emp) (⟨by (try dsimp only); omega, by (try dsimp only); rw [show ((0 : Nat) : Int) = 0 from rfl, idxL_zero, hDl]; simpa using r42, IntsO.nil⟩) ⟨rfl, rfl, rfl, rfl, rfl, rfl, trivial⟩ (fun _ s => (emp_sat s)) ?_
      rintro ⟨m, g2, vx, hx⟩ ⟨hm, q42, qx⟩
      dsimp only at hm q42 qx ⊢
      have hle_q42 := q42.toR.le
      have hle_qx := qx.toR.le
      have hxl := permX_len ok m
      have hil := idxL_len (permD t ls) m
      have hii := idxL_in hD1 m
      have hdt := ok.dot m
      have ho := ok.off m
      have hef := elt_fits ok.ten ho.2
      have hel : (elt t.x (widthI k n) (offL t.d (idxAt ls (idxL (permD t ls) m) t.l))).length ≤ 6 := by unfold elt; rw [List.length_take]; omega
      have hb : ∀ b ∈ idxL (permD t ls) m, 0 ≤ b ∧ b ≤ 1048576 := all_of fun j hj => by have := hii.2 j (by omega); have := hD j (by omega); omega
      refine wp_bl ?_
      refine wp_sc ?_
      refine wp_rj 8 [(0, true), (1, true), (2, true), (3, true), (4, true), (5, true), (6, false), (7, false), (8, false), (9, false), (10, false)] mixed_ok (by kernel_rfl) ?_
      refine rj_v rfl rfl (v_fieldAddr fd_28_2 ty_24 (by decide) rfl) rfl ?_
      refine rj_v rfl rfl (v_loadB 3 ty_24 rfl rfl rfl) rfl ?_
      refine rj_v rfl rfl (v_loadNB 8 ty_30 rfl rfl rfl rfl) rfl ?_
      refine rj_v rfl rfl (v_loadNB 7 ty_28 rfl rfl rfl rfl) rfl ?_
      refine rj_v rfl rfl (v_move rfl) rfl ?_
      refine rj_v rfl rfl (v_move rfl) rfl ?_
      refine rj_u rfl rfl (x_callv rfl en_140 (fun w s => ct_i_dotOf _ _ _ _ w (r39.toR.mono (s.get 2 rfl)) (q42.toR.mono (s.get 1 rfl)) (fun a h => by have := hsi a h; omega) (by first | assumption | omega) (by first | assumption | omega) (by first | assumption | omega))) rfl ?_
      rw [hdt] at *
      refine rj_u rfl rfl (x_callv rfl en_139 (fun w s => ct_i_rawElem _ _ _ _ _ _ _ _ w (by first | assumption | omega) (r3.mono (s.get 9 rfl)) (by first | assumption | omega) (by first | assumption | omega) (by first | assumption | omega))) rfl ?_
      refine rj_m 0 rfl rfl rfl rfl (m_appI 0 9 Try.underlying24 ty_3 rfl rfl rfl rfl qx rfl (eltV_read r3 (by first | assumption | omega) (by first | assumption | omega) (by first | assumption | omega)) (by first | omega | (simp only [List.length_cons, List.length_nil]; omega) | (simp only [List.length_append, List.length_cons, List.length_nil]; omega) | (rw [List.length_set]; omega) | (rw [List.length_replicate]; omega) | (simp; omega))) rfl ?_; intro v51 h_r51 r51
      refine rj_fv rfl rfl (v_fieldAddr fd_28_2 ty_24 (by decide) rfl) rfl ?_
      refine rj_m 3 rfl rfl rfl rfl (m_store1 3 ty_24 rfl rfl r51.toR.sl.one rfl (Nat.le_of_ble_eq_true rfl)) rfl ?_; rintro _ _ ⟨rfl, rfl⟩
      refine rj_end ?_
      refine qs_n ?_
      refine wp_sc ?_
      refine wp_sq ?_
      refine sq_v rfl (v_fieldAddr fd_28_1 ty_24 (by decide) rfl) rfl ?_
      refine sq_v rfl (v_loadB 3 ty_24 rfl rfl rfl) rfl ?_
      refine sq_v rfl (v_move rfl) rfl ?_
      refine sq_m 1 rfl rfl (x_call rfl en_142 (fun w s => ct_i_nextIndex _ _ _ _ w _ (s.get 1 rfl) (q.toR.mono (s.getR 1 4 rfl rfl (by decide))) q42 (by first | assumption | omega) (by first | assumption | omega) (by first | assumption | omega))) rfl ?_; rintro _ h56 ⟨rfl, r56⟩
      refine sq_v rfl (v_not rfl) rfl ?_
      refine sq_end ?_
      refine qs_n ?_
      refine wp_cnd rfl (fun c57 => ?_) (fun c57 => ?_)
      · refine wp_sc ?_
        refine wp_sq ?_
        refine sq_v rfl (v_loadNB 3 ty_28 rfl rfl rfl rfl) rfl ?_
        refine sq_m 6 rfl rfl (m_store 6 ty_28 rfl rfl rfl rfl (by simp [r13.toR.sl.one, q.toR.sl.one, r51.toR.sl.one]) rfl (Nat.le_of_ble_eq_true rfl)) rfl ?_; rintro _ _ ⟨rfl, rfl⟩
        refine sq_end ?_
        refine qs_n ?_
        refine wp_rt ?_
        refine qs_br ?_
        refine qs_r ?_
        refine qs_br ?_
        refine qs_close [box b6 _ _, hp w] [h13, g, h_r51] (fun _ s => s.pick [6, 9, 5, 4, 0] (by decide) rfl) (fun md => ?_)
        exact qs_retc 1 rfl ty_28 rfl rfl rfl (fin_t 0 (i := 2) rfl rfl rfl ⟨_, _, _, rfl, _, _, _, r13, q, (show IntsO (permX (widthI k n) t ls (permD t ls) (prodI (permD t ls)).toNat) v51 h_r51 by rw [show (prodI (permD t ls)).toNat = m + 1 by omega, permX_step]; exact r51), md⟩)
      · refine wp_sk ?_
        refine qs_bn ?_
        exact qs_bk (m + 1, h56, v51, h_r51) ⟨by (try dsimp only); omega, r56, by (try dsimp only); rw [permX_step]; exact r51⟩ (by simp only; omega) ⟨rfl, rfl, rfl, rfl, rfl, rfl, trivial⟩ (fun _ s => s)
end Go.Proofs.Ytikeobneipjfnaa
