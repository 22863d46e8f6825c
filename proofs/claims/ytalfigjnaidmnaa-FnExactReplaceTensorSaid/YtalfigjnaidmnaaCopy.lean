/-
  Copies of tensors and of networks, in the program and in the reference.
  Conditions: none.
-/
import Derived.Test.YtalfigjnaidmnaaPerm2
import Derived.Test.YtalfigjnaidmnaaOrd4
namespace Go.Proofs.Ytalfigjnaidmnaa
set_option maxRecDepth 100000
open Go.RowKit
theorem Made.un {a b : PH} {la lb : List PH} (ma : Made a la) (mb : Made b lb) (hd : PDj a b) : Made (PUn a b) (la ++ lb) := by
  refine ⟨sepL_append.2 ⟨ma.sep, mb.sep, fun x hx y hy => (((hd.mono (ma.le x hx)).symm).mono (mb.le y hy)).symm⟩, fun x hx => ?_, fun k o e => ?_⟩
  · rcases List.mem_append.1 hx with hx | hx
    · exact (ma.le x hx).trans (PLe.un_l _ _)
    · exact (mb.le x hx).trans (PLe.un_r hd)
  · unfold PUn at e
    split at e
    · rename_i y hy
      cases e
      obtain ⟨x, hx, hxe⟩ := ma.dom k _ hy
      exact ⟨x, by simp [hx], hxe⟩
    · obtain ⟨x, hx, hxe⟩ := mb.dom k _ e
      exact ⟨x, by simp [hx], hxe⟩
/-- Slices that own their cells, all in one part. -/
def OwnH (xss : List (List Int)) (vs : List Value) (h : PH) : Prop := ∃ l, OwnL xss vs l ∧ Made h l
theorem OwnH.nil : OwnH [] [] emp := ⟨[], OwnL.nil, ⟨trivial, fun x hx => by simp at hx, fun k o e => by cases e⟩⟩
theorem OwnH.snoc {ts : List Ten} {t : Ten} {vs : List Value} {a b c : Value} {h h' : PH} (o : OwnH (flat ts) vs h) (r : TriO t a b c h') (hd : PDj h h') : OwnH (flat (ts ++ [t])) (vs ++ [a, b, c]) (PUn h h') := by
  obtain ⟨l, ol, m⟩ := o
  obtain ⟨h1, h2, h3, r1, r2, r3, m'⟩ := r
  refine ⟨l ++ [h1, h2, h3], ?_, m.un m' hd⟩
  rw [flat_append]
  exact ol.append (OwnL.three r1 r2 r3)
theorem ten_len {k p n : Int} {t : Ten} (h : tensorL k p n t.l t.d t.x) : t.l.length ≤ 12 ∧ t.d.length ≤ 12 ∧ t.x.length ≤ 17592186044416 := by
  have hax := tensor_axes h
  have h1 := prodI_one fun d hd => (dims_mem (axes_dims hax) d hd).1
  have := elt_fits h (i := 0) (by omega)
  exact ⟨hax.1, by have := hax.2.1; have := hax.1; omega, this.2⟩
theorem ct_s_l05Copy (t : Ten) (a b c : Value) (w : World) (r1 : IntsR t.l a (hp w)) (r2 : IntsR t.d b (hp w)) (r3 : IntsR t.x c (hp w)) (hl : t.l.length ≤ 12 ∧ t.d.length ≤ 12 ∧ t.x.length ≤ 17592186044416) :
    Calls Try.prog 100 [tenV a b c].toArray w (Ret w emp (TenT t)) := by
  refine calls_in Try.func100 rfl Try.ntmps100 rfl (Sat.start w) ?_
  have hle0 := r1.le
  have hle1 := r2.le
  have hle2 := r3.le
  refine wp_sc ?_
  refine wp_sq ?_
  refine sq_x rfl (x_box rfl rfl) rfl ?_; rintro _ _ ⟨b1, rfl, rfl⟩
  refine sq_x rfl (x_alloc ty_52 rfl) rfl ?_; rintro _ _ ⟨b2, rfl, rfl⟩
  refine sq_end ?_
  refine qs_n ?_
  refine wp_sc ?_
  refine wp_rj 10 [(0, true), (1, true), (3, true), (4, true), (6, true), (7, true), (2, false), (5, false), (8, false), (9, true), (10, false)] mixed_ok (by kernel_rfl) ?_
  refine rj_v rfl rfl (v_fieldAddr fd_52_0 ty_25 (by decide) rfl) rfl ?_
  refine rj_v rfl rfl (v_loadB 1 ty_25 rfl rfl rfl) rfl ?_
  refine rj_v rfl rfl (v_fieldAddr fd_52_1 ty_25 (by decide) rfl) rfl ?_
  refine rj_v rfl rfl (v_loadB 1 ty_25 rfl rfl rfl) rfl ?_
  refine rj_v rfl rfl (v_fieldAddr fd_52_2 ty_25 (by decide) rfl) rfl ?_
  refine rj_v rfl rfl (v_loadB 1 ty_25 rfl rfl rfl) rfl ?_
  refine rj_x rfl rfl (x_call rfl en_79 (fun w s => ct_s_l05Ints _ _ w (r1.mono (s.get 2 rfl)) (by first | assumption | omega))) rfl ?_; rintro v5 h5 r5
  refine rj_x rfl rfl (x_call rfl en_79 (fun w s => ct_s_l05Ints _ _ w (r2.mono (s.get 3 rfl)) (by first | assumption | omega))) rfl ?_; rintro v8 h8 r8
  refine rj_x rfl rfl (x_call rfl en_79 (fun w s => ct_s_l05Ints _ _ w (r3.mono (s.get 4 rfl)) (by first | assumption | omega))) rfl ?_; rintro v11 h11 r11
  refine rj_v rfl rfl (v_build [v5, v8, v11] rfl (by obtain ⟨_, _, rfl⟩ := r5.toR.sl; obtain ⟨_, _, rfl⟩ := r8.toR.sl; obtain ⟨_, _, rfl⟩ := r11.toR.sl; kernel_rfl)) rfl ?_
  refine rj_m 3 rfl rfl rfl rfl (m_store 3 ty_52 rfl rfl rfl rfl (by simp [r5.toR.sl.one, r8.toR.sl.one, r11.toR.sl.one]) rfl (Nat.le_of_ble_eq_true rfl)) rfl ?_; rintro _ _ ⟨rfl, rfl⟩
  refine rj_end ?_
  refine qs_n ?_
  refine wp_rt ?_
  refine qs_close [box b2 _ _, hp w] [h5, h8, h11] (fun _ s => s.pick [3, 5, 2, 1, 0] (by decide) rfl) (fun md => ?_)
  exact qs_retc 1 rfl ty_52 rfl rfl rfl (fin_t 0 (i := 2) rfl rfl rfl ⟨_, _, _, rfl, _, _, _, r5, r8, r11, md⟩)
theorem ct_i_copyTensor (t : Ten) (a b c : Value) (w : World) (r1 : IntsR t.l a (hp w)) (r2 : IntsR t.d b (hp w)) (r3 : IntsR t.x c (hp w)) (hl : t.l.length ≤ 12 ∧ t.d.length ≤ 12 ∧ t.x.length ≤ 17592186044416) :
    Calls Try.prog 104 [tenV a b c].toArray w (Ret w emp (TenT t)) := by
  refine calls_in Try.func104 rfl Try.ntmps104 rfl (Sat.start w) ?_
  have hle0 := r1.le
  have hle1 := r2.le
  have hle2 := r3.le
  refine wp_sc ?_
  refine wp_sq ?_
  refine sq_x rfl (x_box rfl rfl) rfl ?_; rintro _ _ ⟨b1, rfl, rfl⟩
  refine sq_x rfl (x_alloc ty_52 rfl) rfl ?_; rintro _ _ ⟨b2, rfl, rfl⟩
  refine sq_end ?_
  refine qs_n ?_
  refine wp_sc ?_
  refine wp_rj 10 [(0, true), (1, true), (3, true), (4, true), (6, true), (7, true), (2, false), (5, false), (8, false), (9, true), (10, false)] mixed_ok (by kernel_rfl) ?_
  refine rj_v rfl rfl (v_fieldAddr fd_52_0 ty_25 (by decide) rfl) rfl ?_
  refine rj_v rfl rfl (v_loadB 1 ty_25 rfl rfl rfl) rfl ?_
  refine rj_v rfl rfl (v_fieldAddr fd_52_1 ty_25 (by decide) rfl) rfl ?_
  refine rj_v rfl rfl (v_loadB 1 ty_25 rfl rfl rfl) rfl ?_
  refine rj_v rfl rfl (v_fieldAddr fd_52_2 ty_25 (by decide) rfl) rfl ?_
  refine rj_v rfl rfl (v_loadB 1 ty_25 rfl rfl rfl) rfl ?_
  refine rj_x rfl rfl (x_call rfl en_84 (fun w s => ct_i_copyInts _ _ w (r1.mono (s.get 2 rfl)) (by first | assumption | omega))) rfl ?_; rintro v5 h5 r5
  refine rj_x rfl rfl (x_call rfl en_84 (fun w s => ct_i_copyInts _ _ w (r2.mono (s.get 3 rfl)) (by first | assumption | omega))) rfl ?_; rintro v8 h8 r8
  refine rj_x rfl rfl (x_call rfl en_84 (fun w s => ct_i_copyInts _ _ w (r3.mono (s.get 4 rfl)) (by first | assumption | omega))) rfl ?_; rintro v11 h11 r11
  refine rj_v rfl rfl (v_build [v5, v8, v11] rfl (by obtain ⟨_, _, rfl⟩ := r5.toR.sl; obtain ⟨_, _, rfl⟩ := r8.toR.sl; obtain ⟨_, _, rfl⟩ := r11.toR.sl; kernel_rfl)) rfl ?_
  refine rj_m 3 rfl rfl rfl rfl (m_store 3 ty_52 rfl rfl rfl rfl (by simp [r5.toR.sl.one, r8.toR.sl.one, r11.toR.sl.one]) rfl (Nat.le_of_ble_eq_true rfl)) rfl ?_; rintro _ _ ⟨rfl, rfl⟩
  refine rj_end ?_
  refine qs_n ?_
  refine wp_rt ?_
  refine qs_close [box b2 _ _, hp w] [h5, h8, h11] (fun _ s => s.pick [3, 5, 2, 1, 0] (by decide) rfl) (fun md => ?_)
  exact qs_retc 1 rfl ty_52 rfl rfl rfl (fin_t 0 (i := 2) rfl rfl rfl ⟨_, _, _, rfl, _, _, _, r5, r8, r11, md⟩)
set_option maxHeartbeats 2000000 in
theorem ct_s_l14Copy (k p n : Int) (ts : List Ten) (op : List Int) (vt vo : Value) (w : World) (r : TensR ts vt (hp w)) (r' : IntsR op vo (hp w)) (hnet : netL k p n ts op) (hs : op.length ≤ 1048576) :
    Calls Try.prog 99 [netV k p n vt vo].toArray w (Ret w emp (NetT k p n ts op)) := by
  have h12 := hnet.2.1
  refine calls_in Try.func99 rfl Try.ntmps99 rfl (Sat.start w) ?_
  have hle0 := r.le
  obtain ⟨cs_r, rr_r, hc_r⟩ := r.at
  have hle1 := r'.le
  refine wp_sc ?_
  refine wp_sq ?_
  refine sq_x rfl (x_box rfl rfl) rfl ?_; rintro _ _ ⟨b1, rfl, rfl⟩
  refine sq_x rfl (x_alloc ty_33 rfl) rfl ?_; rintro _ _ ⟨b2, rfl, rfl⟩
  refine sq_end ?_
  refine qs_n ?_
  refine wp_sc ?_
  refine wp_ra (σ := Nat × PH × Value) 7 (fun z_ => IntsO op z_.2.2 z_.2.1) (fun z_ => [(0, .agg [num k, num p, num n, vt, vo].toArray), (1, .pointer (some ⟨b1, 0, none⟩)), (2, .pointer (some ⟨b2, 0, none⟩)), (3, .pointer (some ⟨z_.1, 0, none⟩)), (6, .pointer (some ⟨b1, 0, none⟩)), (7, .agg [num k, num p, num n].toArray), (8, .pointer (some ⟨b1, 4, none⟩)), (9, vo), (10, z_.2.2), (11, .agg [num k, num p, num n, .slice none 0 0, z_.2.2].toArray)]) (fun z_ => [box z_.1 [num k, num p, num n, .slice none 0 0, z_.2.2] 33, z_.2.1, box b2 [num 0, num 0, num 0, .slice none 0 0, .slice none 0 0] 33, box b1 [num k, num p, num n, vt, vo] 33, hp w]) mixed_ok (by kernel_rfl) ?_ ?_
  · refine ra_v (i := 0) (by kernel_rfl) rfl rfl (v_fieldAddr fd_33_0 ty_30 (by decide) rfl) rfl ?_
    refine ra_v (i := 1) (by kernel_rfl) rfl rfl (v_loadNB 1 ty_30 rfl rfl rfl rfl) rfl ?_
    refine ra_v (i := 2) (by kernel_rfl) rfl rfl (v_fieldAddr fd_33_2 ty_25 (by decide) rfl) rfl ?_
    refine ra_v (i := 3) (by kernel_rfl) rfl rfl (v_loadB 1 ty_25 rfl rfl rfl) rfl ?_
    refine ra_2 (i := 4) (j := 6) (by kernel_rfl) ?_ ?_
    · refine ro_x rfl rfl (x_call rfl en_79 (fun w s => ct_s_l05Ints _ _ w (r'.mono (s.get 2 rfl)) (by first | assumption | omega))) rfl ?_; rintro v10 h10 r10
      refine ra_rj [(5, true), (6, false), (7, false)] (by kernel_rfl) rfl ?_
      refine rj_v rfl rfl (v_build [num k, num p, num n, .slice none 0 0, v10] rfl (by obtain ⟨_, _, rfl⟩ := r10.toR.sl; kernel_rfl)) rfl ?_
      refine rj_x rfl rfl (x_alloc ty_33 rfl) rfl ?_; rintro _ _ ⟨b3, rfl, rfl⟩
      refine rj_m 0 rfl rfl rfl rfl (m_store 0 ty_33 rfl rfl rfl rfl (by simp [one_int, one_sl, r10.toR.sl.one]) rfl (Nat.le_of_ble_eq_true rfl)) rfl ?_; rintro _ _ ⟨rfl, rfl⟩
      refine rj_end ?_
      exact qs_mid (b3, h10, v10) (r10) ⟨rfl, rfl, rfl, rfl, rfl, rfl, rfl, rfl, rfl, rfl, trivial⟩ (fun _ s => s.pick [0, 1, 2, 3, 4] (by decide) rfl)
    · refine ro_x rfl rfl (x_alloc ty_33 rfl) rfl ?_; rintro _ _ ⟨b3, rfl, rfl⟩
      refine ra_rj [(4, false), (5, true), (7, false)] (by kernel_rfl) rfl ?_
      refine rj_x rfl rfl (x_call rfl en_79 (fun w s => ct_s_l05Ints _ _ w (r'.mono (s.get 3 rfl)) (by first | assumption | omega))) rfl ?_; rintro v10 h10 r10
      refine rj_v rfl rfl (v_build [num k, num p, num n, .slice none 0 0, v10] rfl (by obtain ⟨_, _, rfl⟩ := r10.toR.sl; kernel_rfl)) rfl ?_
      refine rj_m 1 rfl rfl rfl rfl (m_store 1 ty_33 rfl rfl rfl rfl (by simp [one_int, one_sl, r10.toR.sl.one]) rfl (Nat.le_of_ble_eq_true rfl)) rfl ?_; rintro _ _ ⟨rfl, rfl⟩
      refine rj_end ?_
      exact qs_mid (b3, h10, v10) (r10) ⟨rfl, rfl, rfl, rfl, rfl, rfl, rfl, rfl, rfl, rfl, trivial⟩ (fun _ s => s.pick [1, 0, 2, 3, 4] (by decide) rfl)
  · rintro ⟨b3, h10, v10⟩ r10
    dsimp only at r10 ⊢
    refine qs_n ?_
    refine wp_sc ?_
    refine wp_sc ?_
    refine wp_sq ?_
    refine sq_v rfl (v_fieldAddr fd_33_1 ty_31 (by decide) rfl) rfl ?_
    refine sq_v rfl (v_loadB 3 ty_31 rfl rfl rfl) rfl ?_
    refine sq_v rfl (v_len Try.underlying31 rfl r.sl) rfl ?_
    refine sq_v rfl (v_move rfl) rfl ?_
    refine sq_end ?_
    refine qs_n ?_
    refine wp_bl ?_
    refine wp_lp (σ := Nat × Value × PH × (List Value) × PH) (fun z_ => [(2, .pointer (some ⟨b2, 0, none⟩)), (3, .pointer (some ⟨b3, 0, none⟩)), (13, vt), (14, num ts.length), (15, num z_.1)]) (fun z_ => [z_.2.2.2.2, z_.2.2.1, box b3 [num k, num p, num n, z_.2.1, v10] 33, h10, box b2 [num 0, num 0, num 0, .slice none 0 0, .slice none 0 0] 33, box b1 [num k, num p, num n, vt, vo] 33, hp w]) (fun z_ => z_.1 ≤ ts.length ∧ OwnH (flat (ts.take z_.1)) z_.2.2.2.1 z_.2.2.2.2 ∧ RowO (52) z_.2.2.2.1 z_.1 3 z_.2.1 z_.2.2.1) (fun z_ => ts.length - z_.1) (0, .slice none 0 0, emp, [], emp) (⟨by (try dsimp only); omega, OwnH.nil, RowO.nil⟩) ⟨rfl, rfl, rfl, rfl, (by first | rfl | exact ksub rfl (by first | omega | (simp; done) | (simp; omega))), trivial⟩ (fun _ s => (emp_sat (emp_sat s))) ?_
    rintro ⟨i, lx, ha, cs, hl⟩ ⟨hi, hlv, rr⟩
    dsimp only at hi hlv rr ⊢
    refine wp_sc ?_
    refine wp_sq ?_
    refine sq_v rfl (v_lss rfl rfl) rfl ?_
    refine sq_end ?_
    refine qs_n ?_
    refine wp_sc ?_
    refine wp_cd rfl (fun c16 => ?_) (fun c16 => ?_)
    · refine wp_sk ?_
      refine qs_n ?_
      refine wp_sc ?_
      refine wp_bl ?_
      refine wp_sc ?_
      refine wp_sq ?_
      obtain ⟨t17, a17, b17, c17, ht17, hcs17, rl17, rd17, rx17⟩ := hc_r (i) (by first | omega | (rw [List.length_set]; omega))
      refine sq_v rfl (v_indexAddr Try.underlying31 ty_52 rfl rfl rr_r (by decide) (by omega) (by omega)) rfl ?_
      refine sq_v rfl (v_loadNE 6 ty_52 rfl rfl rr_r (by have := rr_r.1; omega) rfl hcs17) rfl ?_
      refine sq_x rfl (x_alloc ty_52 rfl) rfl ?_; rintro _ _ ⟨b5, rfl, rfl⟩
      refine sq_m 0 rfl rfl (m_store 0 ty_52 rfl rfl rfl rfl (by simp [rl17.sl.one, rd17.sl.one, rx17.sl.one]) rfl (Nat.le_of_ble_eq_true rfl)) rfl ?_; rintro _ _ ⟨rfl, rfl⟩
      refine sq_end ?_
      have hl17 := ten_len (hnet.2.2.1 t17 (List.mem_of_getElem? ht17))
      refine qs_n ?_
      refine wp_rj 5 [(0, true), (1, true), (2, true), (3, false), (4, false), (5, false), (6, false), (7, false)] mixed_ok (by kernel_rfl) ?_
      refine rj_v rfl rfl (v_fieldAddr fd_33_1 ty_31 (by decide) rfl) rfl ?_
      refine rj_v rfl rfl (v_loadB 3 ty_31 rfl rfl rfl) rfl ?_
      refine rj_v rfl rfl (v_loadNB 0 ty_52 rfl rfl rfl rfl) rfl ?_
      refine rj_x rfl rfl (x_call rfl en_100 (fun w s => ct_s_l05Copy _ _ _ _ w (rl17.mono (s.get 7 rfl)) (rd17.mono (s.get 7 rfl)) (rx17.mono (s.get 7 rfl)) (by first | assumption | omega))) rfl ?_; rintro _ h22 ⟨va22, vb22, vc22, rfl, o22⟩
      refine rj_x rfl rfl (x_buildS [.agg [va22, vb22, vc22].toArray] Try.underlying31 ty_52 (by decide) rfl rfl rfl (by decide) (by decide) (by intro v hv; simp at hv; subst hv; rfl)) rfl ?_; intro v23 h23 (r23 : RowO 52 [va22, vb22, vc22] 1 3 v23 h23)
      refine rj_m 4 rfl rfl rfl rfl (m_append 4 0 Try.underlying31 ty_52 rfl rfl (by decide) rfl rfl rfl rr rfl r23.toR (by simp [o22.toR.1.sl.one, o22.toR.2.1.sl.one, o22.toR.2.2.sl.one]) (by unfold maxLen; omega) (by omega)) rfl ?_; intro v24 h_r24 (r24 : RowO 52 (cs ++ [va22, vb22, vc22]) (i + 1) 3 v24 h_r24)
      refine rj_fv rfl rfl (v_fieldAddr fd_33_1 ty_31 (by decide) rfl) rfl ?_
      refine rj_m 5 rfl rfl rfl rfl (m_store1 5 ty_31 rfl rfl r24.toR.sl.one rfl (Nat.le_of_ble_eq_true rfl)) rfl ?_; rintro _ _ ⟨rfl, rfl⟩
      refine rj_end ?_
      refine qs_bn ?_
      refine qs_n ?_
      refine wp_sq ?_
      refine sq_v rfl (v_add rfl rfl ((by unfold I64; omega))) rfl ?_
      refine sq_v rfl (v_move rfl) rfl ?_
      refine sq_end ?_
      refine qs_dj 3 1 rfl rfl rfl (fun hdj => ?_)
      exact qs_bk (i + 1, v24, h_r24, cs ++ [va22, vb22, vc22], PUn hl h22) ⟨by (try dsimp only); omega, by (try dsimp only); rw [take_ten ht17]; exact hlv.snoc o22 hdj, r24⟩ (by simp only; omega) ⟨rfl, rfl, rfl, rfl, (by first | rfl | exact ksub rfl (by first | omega | (simp; done) | (simp; omega))), trivial⟩ (fun _ s => Sat.merge (s.pick [3, 1, 4, 5, 6, 7, 8, 9] (by decide) rfl))
    · refine wp_ex ?_
      refine qs_x ?_
      refine qs_x ?_
      refine qs_bx ?_
      refine qs_n ?_
      refine wp_sc ?_
      refine wp_sq ?_
      refine sq_v rfl (v_loadNB 2 ty_33 rfl rfl rfl rfl) rfl ?_
      refine sq_m 4 rfl rfl (m_store 4 ty_33 rfl rfl rfl rfl (by simp [one_int, rr.toR.sl.one, r10.toR.sl.one]) rfl (Nat.le_of_ble_eq_true rfl)) rfl ?_; rintro _ _ ⟨rfl, rfl⟩
      refine sq_end ?_
      refine qs_n ?_
      refine wp_rt ?_
      have ei : i = ts.length := by omega
      subst ei
      rw [List.take_length] at hlv
      obtain ⟨l, ol, md⟩ := hlv
      refine qs_close [box b2 _ _, hp w] (ha :: h10 :: l) (fun _ s => Sat.open (A := [box b2 [num k, num p, num n, lx, v10] 33, hp w, ha, h10]) md (s.pick [0, 4, 6, 1, 3] (by decide) rfl)) (fun md2 => ?_)
      exact qs_retc 1 rfl ty_33 rfl rfl rfl (fin_t 0 (i := 2) rfl rfl rfl ⟨_, _, rfl, cs, ha, h10, l, rr, r10, ol, md2⟩)
set_option maxHeartbeats 2000000 in
theorem ct_i_copyNetwork (k p n : Int) (ts : List Ten) (op : List Int) (vt vo : Value) (w : World) (r : TensR ts vt (hp w)) (r' : IntsR op vo (hp w)) (hnet : netL k p n ts op) (hs : op.length ≤ 1048576) :
    Calls Try.prog 103 [netV k p n vt vo].toArray w (Ret w emp (NetT k p n ts op)) := by
  have h12 := hnet.2.1
  refine calls_in Try.func103 rfl Try.ntmps103 rfl (Sat.start w) ?_
  have hle0 := r.le
  obtain ⟨cs_r, rr_r, hc_r⟩ := r.at
  have hle1 := r'.le
  refine wp_sc ?_
  refine wp_sq ?_
  refine sq_x rfl (x_box rfl rfl) rfl ?_; rintro _ _ ⟨b1, rfl, rfl⟩
  refine sq_x rfl (x_alloc ty_33 rfl) rfl ?_; rintro _ _ ⟨b2, rfl, rfl⟩
  refine sq_end ?_
  refine qs_n ?_
  refine wp_sc ?_
  refine wp_ra (σ := Nat × PH × Value) 7 (fun z_ => IntsO op z_.2.2 z_.2.1) (fun z_ => [(0, .agg [num k, num p, num n, vt, vo].toArray), (1, .pointer (some ⟨b1, 0, none⟩)), (2, .pointer (some ⟨b2, 0, none⟩)), (3, .pointer (some ⟨z_.1, 0, none⟩)), (6, .pointer (some ⟨b1, 0, none⟩)), (7, .agg [num k, num p, num n].toArray), (8, .pointer (some ⟨b1, 4, none⟩)), (9, vo), (10, z_.2.2), (11, .agg [num k, num p, num n, .slice none 0 0, z_.2.2].toArray)]) (fun z_ => [box z_.1 [num k, num p, num n, .slice none 0 0, z_.2.2] 33, z_.2.1, box b2 [num 0, num 0, num 0, .slice none 0 0, .slice none 0 0] 33, box b1 [num k, num p, num n, vt, vo] 33, hp w]) mixed_ok (by kernel_rfl) ?_ ?_
  · refine ra_v (i := 0) (by kernel_rfl) rfl rfl (v_fieldAddr fd_33_0 ty_30 (by decide) rfl) rfl ?_
    refine ra_v (i := 1) (by kernel_rfl) rfl rfl (v_loadNB 1 ty_30 rfl rfl rfl rfl) rfl ?_
    refine ra_v (i := 2) (by kernel_rfl) rfl rfl (v_fieldAddr fd_33_2 ty_25 (by decide) rfl) rfl ?_
    refine ra_v (i := 3) (by kernel_rfl) rfl rfl (v_loadB 1 ty_25 rfl rfl rfl) rfl ?_
    refine ra_2 (i := 4) (j := 6) (by kernel_rfl) ?_ ?_
    · refine ro_x rfl rfl (x_call rfl en_84 (fun w s => ct_i_copyInts _ _ w (r'.mono (s.get 2 rfl)) (by first | assumption | omega))) rfl ?_; rintro v10 h10 r10
      refine ra_rj [(5, true), (6, false), (7, false)] (by kernel_rfl) rfl ?_
      refine rj_v rfl rfl (v_build [num k, num p, num n, .slice none 0 0, v10] rfl (by obtain ⟨_, _, rfl⟩ := r10.toR.sl; kernel_rfl)) rfl ?_
      refine rj_x rfl rfl (x_alloc ty_33 rfl) rfl ?_; rintro _ _ ⟨b3, rfl, rfl⟩
      refine rj_m 0 rfl rfl rfl rfl (m_store 0 ty_33 rfl rfl rfl rfl (by simp [one_int, one_sl, r10.toR.sl.one]) rfl (Nat.le_of_ble_eq_true rfl)) rfl ?_; rintro _ _ ⟨rfl, rfl⟩
      refine rj_end ?_
      exact qs_mid (b3, h10, v10) (r10) ⟨rfl, rfl, rfl, rfl, rfl, rfl, rfl, rfl, rfl, rfl, trivial⟩ (fun _ s => s.pick [0, 1, 2, 3, 4] (by decide) rfl)
    · refine ro_x rfl rfl (x_alloc ty_33 rfl) rfl ?_; rintro _ _ ⟨b3, rfl, rfl⟩
      refine ra_rj [(4, false), (5, true), (7, false)] (by kernel_rfl) rfl ?_
      refine rj_x rfl rfl (x_call rfl en_84 (fun w s => ct_i_copyInts _ _ w (r'.mono (s.get 3 rfl)) (by first | assumption | omega))) rfl ?_; rintro v10 h10 r10
      refine rj_v rfl rfl (v_build [num k, num p, num n, .slice none 0 0, v10] rfl (by obtain ⟨_, _, rfl⟩ := r10.toR.sl; kernel_rfl)) rfl ?_
      refine rj_m 1 rfl rfl rfl rfl (m_store 1 ty_33 rfl rfl rfl rfl (by simp [one_int, one_sl, r10.toR.sl.one]) rfl (Nat.le_of_ble_eq_true rfl)) rfl ?_; rintro _ _ ⟨rfl, rfl⟩
      refine rj_end ?_
      exact qs_mid (b3, h10, v10) (r10) ⟨rfl, rfl, rfl, rfl, rfl, rfl, rfl, rfl, rfl, rfl, trivial⟩ (fun _ s => s.pick [1, 0, 2, 3, 4] (by decide) rfl)
  · rintro ⟨b3, h10, v10⟩ r10
    dsimp only at r10 ⊢
    refine qs_n ?_
    refine wp_sc ?_
    refine wp_sc ?_
    refine wp_sq ?_
    refine sq_v rfl (v_fieldAddr fd_33_1 ty_31 (by decide) rfl) rfl ?_
    refine sq_v rfl (v_loadB 3 ty_31 rfl rfl rfl) rfl ?_
    refine sq_v rfl (v_len Try.underlying31 rfl r.sl) rfl ?_
    refine sq_v rfl (v_move rfl) rfl ?_
    refine sq_end ?_
    refine qs_n ?_
    refine wp_bl ?_
    refine wp_lp (σ := Nat × Value × PH × (List Value) × PH) (fun z_ => [(2, .pointer (some ⟨b2, 0, none⟩)), (3, .pointer (some ⟨b3, 0, none⟩)), (13, vt), (14, num ts.length), (15, num z_.1)]) (fun z_ => [z_.2.2.2.2, z_.2.2.1, box b3 [num k, num p, num n, z_.2.1, v10] 33, h10, box b2 [num 0, num 0, num 0, .slice none 0 0, .slice none 0 0] 33, box b1 [num k, num p, num n, vt, vo] 33, hp w]) (fun z_ => z_.1 ≤ ts.length ∧ OwnH (flat (ts.take z_.1)) z_.2.2.2.1 z_.2.2.2.2 ∧ RowO (52) z_.2.2.2.1 z_.1 3 z_.2.1 z_.2.2.1) (fun z_ => ts.length - z_.1) (0, .slice none 0 0, emp, [], emp) (⟨by (try dsimp only); omega, OwnH.nil, RowO.nil⟩) ⟨rfl, rfl, rfl, rfl, (by first | rfl | exact ksub rfl (by first | omega | (simp; done) | (simp; omega))), trivial⟩ (fun _ s => (emp_sat (emp_sat s))) ?_
    rintro ⟨i, lx, ha, cs, hl⟩ ⟨hi, hlv, rr⟩
    dsimp only at hi hlv rr ⊢
    refine wp_sc ?_
    refine wp_sq ?_
    refine sq_v rfl (v_lss rfl rfl) rfl ?_
    refine sq_end ?_
    refine qs_n ?_
    refine wp_sc ?_
    refine wp_cd rfl (fun c16 => ?_) (fun c16 => ?_)
    · refine wp_sk ?_
      refine qs_n ?_
      refine wp_sc ?_
      refine wp_bl ?_
      refine wp_sc ?_
      refine wp_sq ?_
      obtain ⟨t17, a17, b17, c17, ht17, hcs17, rl17, rd17, rx17⟩ := hc_r (i) (by first | omega | (rw [List.length_set]; omega))
      refine sq_v rfl (v_indexAddr Try.underlying31 ty_52 rfl rfl rr_r (by decide) (by omega) (by omega)) rfl ?_
      refine sq_v rfl (v_loadNE 6 ty_52 rfl rfl rr_r (by have := rr_r.1; omega) rfl hcs17) rfl ?_
      refine sq_x rfl (x_alloc ty_52 rfl) rfl ?_; rintro _ _ ⟨b5, rfl, rfl⟩
      refine sq_m 0 rfl rfl (m_store 0 ty_52 rfl rfl rfl rfl (by simp [rl17.sl.one, rd17.sl.one, rx17.sl.one]) rfl (Nat.le_of_ble_eq_true rfl)) rfl ?_; rintro _ _ ⟨rfl, rfl⟩
      refine sq_end ?_
      have hl17 := ten_len (hnet.2.2.1 t17 (List.mem_of_getElem? ht17))
      refine qs_n ?_
      refine wp_rj 5 [(0, true), (1, true), (2, true), (3, false), (4, false), (5, false), (6, false), (7, false)] mixed_ok (by kernel_rfl) ?_
      refine rj_v rfl rfl (v_fieldAddr fd_33_1 ty_31 (by decide) rfl) rfl ?_
      refine rj_v rfl rfl (v_loadB 3 ty_31 rfl rfl rfl) rfl ?_
      refine rj_v rfl rfl (v_loadNB 0 ty_52 rfl rfl rfl rfl) rfl ?_
      refine rj_x rfl rfl (x_call rfl en_104 (fun w s => ct_i_copyTensor _ _ _ _ w (rl17.mono (s.get 7 rfl)) (rd17.mono (s.get 7 rfl)) (rx17.mono (s.get 7 rfl)) (by first | assumption | omega))) rfl ?_; rintro _ h22 ⟨va22, vb22, vc22, rfl, o22⟩
      refine rj_x rfl rfl (x_buildS [.agg [va22, vb22, vc22].toArray] Try.underlying31 ty_52 (by decide) rfl rfl rfl (by decide) (by decide) (by intro v hv; simp at hv; subst hv; rfl)) rfl ?_; intro v23 h23 (r23 : RowO 52 [va22, vb22, vc22] 1 3 v23 h23)
      refine rj_m 4 rfl rfl rfl rfl (m_append 4 0 Try.underlying31 ty_52 rfl rfl (by decide) rfl rfl rfl rr rfl r23.toR (by simp [o22.toR.1.sl.one, o22.toR.2.1.sl.one, o22.toR.2.2.sl.one]) (by unfold maxLen; omega) (by omega)) rfl ?_; intro v24 h_r24 (r24 : RowO 52 (cs ++ [va22, vb22, vc22]) (i + 1) 3 v24 h_r24)
      refine rj_fv rfl rfl (v_fieldAddr fd_33_1 ty_31 (by decide) rfl) rfl ?_
      refine rj_m 5 rfl rfl rfl rfl (m_store1 5 ty_31 rfl rfl r24.toR.sl.one rfl (Nat.le_of_ble_eq_true rfl)) rfl ?_; rintro _ _ ⟨rfl, rfl⟩
      refine rj_end ?_
      refine qs_bn ?_
      refine qs_n ?_
      refine wp_sq ?_
      refine sq_v rfl (v_add rfl rfl ((by unfold I64; omega))) rfl ?_
      refine sq_v rfl (v_move rfl) rfl ?_
      refine sq_end ?_
      refine qs_dj 3 1 rfl rfl rfl (fun hdj => ?_)
      exact qs_bk (i + 1, v24, h_r24, cs ++ [va22, vb22, vc22], PUn hl h22) ⟨by (try dsimp only); omega, by (try dsimp only); rw [take_ten ht17]; exact hlv.snoc o22 hdj, r24⟩ (by simp only; omega) ⟨rfl, rfl, rfl, rfl, (by first | rfl | exact ksub rfl (by first | omega | (simp; done) | (simp; omega))), trivial⟩ (fun _ s => Sat.merge (s.pick [3, 1, 4, 5, 6, 7, 8, 9] (by decide) rfl))
    · refine wp_ex ?_
      refine qs_x ?_
      refine qs_x ?_
      refine qs_bx ?_
      refine qs_n ?_
      refine wp_sc ?_
      refine wp_sq ?_
      refine sq_v rfl (v_loadNB 2 ty_33 rfl rfl rfl rfl) rfl ?_
      refine sq_m 4 rfl rfl (m_store 4 ty_33 rfl rfl rfl rfl (by simp [one_int, rr.toR.sl.one, r10.toR.sl.one]) rfl (Nat.le_of_ble_eq_true rfl)) rfl ?_; rintro _ _ ⟨rfl, rfl⟩
      refine sq_end ?_
      refine qs_n ?_
      refine wp_rt ?_
      have ei : i = ts.length := by omega
      subst ei
      rw [List.take_length] at hlv
      obtain ⟨l, ol, md⟩ := hlv
      refine qs_close [box b2 _ _, hp w] (ha :: h10 :: l) (fun _ s => Sat.open (A := [box b2 [num k, num p, num n, lx, v10] 33, hp w, ha, h10]) md (s.pick [0, 4, 6, 1, 3] (by decide) rfl)) (fun md2 => ?_)
      exact qs_retc 1 rfl ty_33 rfl rfl rfl (fin_t 0 (i := 2) rfl rfl rfl ⟨_, _, rfl, cs, ha, h10, l, rr, r10, ol, md2⟩)
end Go.Proofs.Ytalfigjnaidmnaa
