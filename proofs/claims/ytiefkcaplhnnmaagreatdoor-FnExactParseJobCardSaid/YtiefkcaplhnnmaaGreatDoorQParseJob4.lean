/-
  Parts of the proof of FnExactParseJob: laws of heaps, contracts of functions.
  Conditions: none.
-/
import Derived.Test.YtiefkcaplhnnmaaGreatDoorQParseJob3
namespace Go.Proofs.YtiefkcaplhnnmaaGreatDoor
set_option maxRecDepth 100000
open Go.RowKit
theorem RowO.nil {e : TypeId} {sz : Nat} : RowO e [] 0 sz (.slice none 0 0) emp := ⟨by simp, .inl ⟨rfl, rfl, rfl⟩⟩
theorem dropTo_len (lv : List Lv) (p q : Nat) : ∀ k, (dropTo lv p q k).length ≤ k
  | 0 => by simp [dropTo]
  | k + 1 => by
    have := dropTo_len lv p q k; have h1 : (lv[k]?).toList.length ≤ 1 := by cases lv[k]? <;> simp
    simp only [dropTo]
    split
    · simp only [List.length_append]; omega
    · omega
theorem dropTo_yes {lv : List Lv} {p q k : Nat} {x : Lv} (h : lv[k]? = some x) (h1 : k ≠ p) (h2 : k ≠ q) : dropTo lv p q (k + 1) = dropTo lv p q k ++ [x] := by
  rw [dropTo, if_pos ⟨h1, h2⟩, h]; rfl
theorem dropTo_no {lv : List Lv} {p q k : Nat} (h : k = p ∨ k = q) : dropTo lv p q (k + 1) = dropTo lv p q k := by
  rw [dropTo, if_neg (by omega)]
set_option maxHeartbeats 2000000 in
theorem ct_i_contract (arr op : List Int) (vo : Value) (sh : Sh) (bb : Nat) (p q : Int) (a b : Nat) (w : World) (h : PH) (hle : PLe h (hp w)) (rs : StO arr vo sh bb h) (ro : IntsR op vo (restP w h)) (h0 : 0 ≤ p) (h1 : 0 ≤ q) (hpa : sh.ixs[p.toNat]? = some a) (hqb : sh.ixs[q.toNat]? = some b)
    (hsz : (sh.lab a).length + (sh.lab b).length ≤ 100000) (hall : sh.all.length ≤ 100000) :
    Calls Tryz.prog 122 [.pointer (some ⟨bb, 0, none⟩), num p, num q].toArray w (Ret w h (fun u h' => u = stepV a b ∧ StO arr vo (sh.step op a b) bb h')) := by
  obtain ⟨hal, hok, lvv, hs, rl, md⟩ := rs; have hll := lv_len sh; have hpl := (List.getElem?_eq_some_iff.1 hpa).1; have hql := (List.getElem?_eq_some_iff.1 hqb).1; have hixl : sh.ixs.length ≤ sh.all.length := by have := List.length_filter_le (fun i => !sh.gone.getD i false) (List.range sh.all.length); simpa [Sh.ixs] using this
  refine calls_in Tryz.func122 rfl Tryz.ntmps122 rfl (Sat.open (A := [restP w h]) md (Sat.start2 hle)) ?_; have hle0 := ro.le; have hle1 := rl.le; obtain ⟨cs_rl, rr_rl, hc_rl⟩ := rl.at; refine wp_sc (wp_sq ?_); refine sq_x rfl (x_alloc ty_69 rfl) rfl ?_; rintro _ _ ⟨b6, rfl, rfl⟩; refine sq_end (qs_n (wp_sc (wp_rj 18 [(0, true), (1, true), (2, true), (3, true), (4, true), (5, true), (6, true), (7, true), (8, true), (9, true), (10, true), (11, true), (12, true), (13, true), (14, true), (15, true), (16, true), (17, false), (18, false)] mixed_ok (by kernel_rfl) (rj_v rfl rfl (v_move rfl) rfl (rj_v rfl rfl (v_nilCheck rfl) rfl (rj_v rfl rfl (v_fieldAddr fd_135_2 ty_133 (by decide) rfl) rfl (rj_v rfl rfl (v_loadB 2 ty_133 rfl rfl (pre_get hal 1 rfl)) rfl (rj_v rfl rfl (v_move rfl) rfl ?_)))))))); obtain ⟨x17, a17, hx17, hcs17, rl17⟩ := hc_rl ((p : Int).toNat) (by first | omega | (rw [List.length_set]; omega)); refine rj_v rfl rfl (v_indexAddr Tryz.underlying133 ty_137 rfl rfl rr_rl (by decide) (by omega) (by omega)) rfl ?_; refine rj_v rfl rfl (v_fieldAddrE fd_137_0 ty_3 (by decide) rfl rr_rl (by have := rr_rl.1; first | omega | (simp only [Int.toNat_natCast]; omega) | (rw [stepCells_len, List.length_set]; omega))) rfl ?_; refine rj_v rfl rfl (v_loadE 3 ty_3 rfl rfl rr_rl (sub_get hcs17 (j := 0) rfl)) rfl (rj_v rfl rfl (v_move rfl) rfl (rj_v rfl rfl (v_nilCheck rfl) rfl (rj_v rfl rfl (v_fieldAddr fd_135_2 ty_133 (by decide) rfl) rfl (rj_v rfl rfl (v_loadB 2 ty_133 rfl rfl (pre_get hal 1 rfl)) rfl (rj_v rfl rfl (v_move rfl) rfl ?_))))); obtain ⟨x25, a25, hx25, hcs25, rl25⟩ := hc_rl ((q : Int).toNat) (by first | omega | (rw [List.length_set]; omega)); refine rj_v rfl rfl (v_indexAddr Tryz.underlying133 ty_137 rfl rfl rr_rl (by decide) (by omega) (by omega)) rfl ?_; refine rj_v rfl rfl (v_fieldAddrE fd_137_0 ty_3 (by decide) rfl rr_rl (by have := rr_rl.1; first | omega | (simp only [Int.toNat_natCast]; omega) | (rw [stepCells_len, List.length_set]; omega))) rfl ?_; refine rj_v rfl rfl (v_loadE 3 ty_3 rfl rfl rr_rl (sub_get hcs25 (j := 0) rfl)) rfl ?_; obtain ⟨i17, hi17, e17⟩ := lv_get hx17; obtain ⟨i25, hi25, e25⟩ := lv_get hx25; rw [hpa] at hi17; rw [hqb] at hi25; cases hi17; cases hi25; subst e17; subst e25; refine rj_v rfl rfl (v_build [num (a : Nat), num (b : Nat)] rfl (by kernel_rfl)) rfl ?_; refine rj_x rfl rfl (x_alloc ty_69 rfl) rfl ?_; rintro _ _ ⟨b7, rfl, rfl⟩; refine rj_m 0 rfl rfl rfl rfl (m_store 0 ty_69 rfl rfl rfl rfl (by simp [Value.oneCell']) rfl (Nat.le_of_ble_eq_true rfl)) rfl ?_; rintro _ _ ⟨rfl, rfl⟩; refine rj_end (qs_n (wp_sc ?_)); refine wp_ra (σ := Nat × PH × Value) 10 (fun z_ => IntsO (sh.res op a b) z_.2.2 z_.2.1) (fun z_ => [(0, .pointer (some ⟨bb, 0, none⟩)), (1, num p), (2, num q), (6, .pointer (some ⟨b6, 0, none⟩)), (7, .pointer (some ⟨b7, 0, none⟩)), (8, .pointer (some ⟨z_.1, 0, none⟩))]) (fun z_ => [box z_.1 [num sh.all.length, z_.2.2] 137, z_.2.1, box b7 [num (a : Nat), num (b : Nat)] 69, box b6 [num 0, num 0] 69, (restP w h), box bb (ints arr ++ [vo, lvv, num sh.all.length]) 135, hs]) mixed_ok (by kernel_rfl) ?_ ?_
  · refine ra_v (i := 0) (by kernel_rfl) rfl rfl (v_move rfl) rfl (ra_v (i := 1) (by kernel_rfl) rfl rfl (v_nilCheck rfl) rfl (ra_v (i := 2) (by kernel_rfl) rfl rfl (v_fieldAddr fd_135_3 ty_3 (by decide) rfl) rfl (ra_v (i := 3) (by kernel_rfl) rfl rfl (v_loadB 3 ty_3 rfl rfl (pre_get hal 2 rfl)) rfl (ra_v (i := 4) (by kernel_rfl) rfl rfl (v_move rfl) rfl (ra_v (i := 5) (by kernel_rfl) rfl rfl (v_move rfl) rfl (ra_v (i := 6) (by kernel_rfl) rfl rfl (v_move rfl) rfl ?_)))))); refine ra_2 (i := 7) (j := 9) (by kernel_rfl) ?_ ?_
    · refine ro_x rfl rfl (x_call rfl en_136 (fun w s => ct_i_resultLabels _ op _ _ sh _ _ _ a b w (StR.box hal hok (s.get 3 rfl) (rl.mono (s.get 4 rfl))) (ro.mono (s.get 2 rfl)) h0 h1 hpa hqb hsz)) rfl ?_; rintro v36 h36 r36; refine ra_rj [(8, true), (9, false), (10, false)] (by kernel_rfl) rfl ?_; refine rj_v rfl rfl (v_build [num sh.all.length, v36] rfl (by obtain ⟨_, _, rfl⟩ := r36.toR.sl; kernel_rfl)) rfl ?_; refine rj_x rfl rfl (x_alloc ty_137 rfl) rfl ?_; rintro _ _ ⟨b8, rfl, rfl⟩; refine rj_m 0 rfl rfl rfl rfl (m_store 0 ty_137 rfl rfl rfl rfl (by simp [one_int, r36.toR.sl.one]) rfl (Nat.le_of_ble_eq_true rfl)) rfl ?_; rintro _ _ ⟨rfl, rfl⟩; refine rj_end ?_; exact qs_mid (b8, h36, v36) (r36) ⟨rfl, rfl, rfl, rfl, rfl, rfl, trivial⟩ (fun _ s => s.pick [0, 1, 2, 3, 4, 5, 6] (by decide) rfl)
    · refine ro_x rfl rfl (x_alloc ty_137 rfl) rfl ?_; rintro _ _ ⟨b8, rfl, rfl⟩; refine ra_rj [(7, false), (8, true), (10, false)] (by kernel_rfl) rfl ?_; refine rj_x rfl rfl (x_call rfl en_136 (fun w s => ct_i_resultLabels _ op _ _ sh _ _ _ a b w (StR.box hal hok (s.get 4 rfl) (rl.mono (s.get 5 rfl))) (ro.mono (s.get 3 rfl)) h0 h1 hpa hqb hsz)) rfl ?_; rintro v36 h36 r36; refine rj_v rfl rfl (v_build [num sh.all.length, v36] rfl (by obtain ⟨_, _, rfl⟩ := r36.toR.sl; kernel_rfl)) rfl ?_; refine rj_m 1 rfl rfl rfl rfl (m_store 1 ty_137 rfl rfl rfl rfl (by simp [one_int, r36.toR.sl.one]) rfl (Nat.le_of_ble_eq_true rfl)) rfl ?_; rintro _ _ ⟨rfl, rfl⟩; refine rj_end ?_; exact qs_mid (b8, h36, v36) (r36) ⟨rfl, rfl, rfl, rfl, rfl, rfl, trivial⟩ (fun _ s => s.pick [1, 0, 2, 3, 4, 5, 6] (by decide) rfl)
  · rintro ⟨b8, h36, v36⟩ r36; dsimp only at r36 ⊢; refine qs_n (wp_sc (wp_sq (sq_v rfl (v_assign rfl) rfl (sq_end (qs_n (wp_sc (wp_sc (wp_sq (sq_v rfl (v_move rfl) rfl (sq_v rfl (v_nilCheck rfl) rfl (sq_v rfl (v_fieldAddr fd_135_2 ty_133 (by decide) rfl) rfl (sq_v rfl (v_loadB 5 ty_133 rfl rfl (pre_get hal 1 rfl)) rfl (sq_v rfl (v_len Tryz.underlying133 rfl rl.sl) rfl (sq_v rfl (v_move rfl) rfl (sq_end (qs_n (wp_bl ?_))))))))))))))))); refine wp_lp (σ := Nat × Value × PH × (List Value)) (fun z_ => [(0, .pointer (some ⟨bb, 0, none⟩)), (1, num p), (2, num q), (6, .pointer (some ⟨b6, 0, none⟩)), (7, .pointer (some ⟨b7, 0, none⟩)), (8, .pointer (some ⟨b8, 0, none⟩)), (9, z_.2.1), (41, lvv), (42, num sh.lv.length), (43, num z_.1)]) (fun z_ => [z_.2.2.1, box b8 [num sh.all.length, v36] 137, h36, box b7 [num (a : Nat), num (b : Nat)] 69, box b6 [num 0, num 0] 69, (restP w h), box bb (ints arr ++ [vo, lvv, num sh.all.length]) 135, hs]) (fun z_ => z_.1 ≤ sh.lv.length ∧ LvL (dropTo sh.lv p.toNat q.toNat z_.1) z_.2.2.2 hs ∧ RowO (137) z_.2.2.2 (dropTo sh.lv p.toNat q.toNat z_.1).length 2 z_.2.1 z_.2.2.1) (fun z_ => sh.lv.length - z_.1) (0, .slice none 0 0, emp, []) (⟨by (try dsimp only); omega, LvL.nil _, RowO.nil⟩) ⟨rfl, rfl, rfl, rfl, rfl, rfl, (by first | rfl | exact ksub rfl (by first | omega | (simp; done) | (simp; omega))), rfl, rfl, (by first | rfl | exact ksub rfl (by first | omega | (simp; done) | (simp; omega))), trivial⟩ (fun _ s => (emp_sat s)) ?_; rintro ⟨j, lx, ha, cs⟩ ⟨hj, hlv, rr⟩; dsimp only at hj hlv rr ⊢; have hdl := dropTo_len sh.lv p.toNat q.toNat j; refine wp_sc (wp_sq (sq_v rfl (v_lss rfl rfl) rfl (sq_end (qs_n (wp_sc ?_))))); refine wp_cd rfl (fun c44 => ?_) (fun c44 => ?_)
    · refine wp_sk (qs_n (wp_sc (wp_bl (wp_sc (wp_sq (sq_v rfl (v_move rfl) rfl ?_)))))); obtain ⟨x46, a46, hx46, hcs46, rl46⟩ := hc_rl (j) (by first | omega | (rw [List.length_set]; omega)); refine sq_v rfl (v_indexAddr Tryz.underlying133 ty_137 rfl rfl rr_rl (by decide) (by omega) (by omega)) rfl ?_; refine sq_v rfl (v_loadNE 7 ty_137 rfl rfl rr_rl (by have := rr_rl.1; omega) rfl hcs46) rfl ?_; refine sq_x rfl (x_alloc ty_137 rfl) rfl ?_; rintro _ _ ⟨b11, rfl, rfl⟩; refine sq_v rfl (v_assign rfl) rfl ?_; refine sq_m 0 rfl rfl (m_store 0 ty_137 rfl rfl rfl rfl (by simp [one_int, rl46.sl.one]) rfl (Nat.le_of_ble_eq_true rfl)) rfl ?_; rintro _ _ ⟨rfl, rfl⟩; refine sq_end (qs_n (wp_sc (wp_sq (sq_v rfl (v_move rfl) rfl (sq_v rfl (v_move rfl) rfl (sq_v rfl (v_neq rfl rfl) rfl ?_)))))); refine sq_bd 50 rfl (fun c50 => ?_) (fun c50 => ?_)
      · refine sq_v rfl (v_move rfl) rfl (sq_v rfl (v_move rfl) rfl (sq_v rfl (v_move rfl) rfl (sq_v rfl (v_neq rfl rfl) rfl (sq_v rfl (v_pickt rfl rfl) rfl (sq_end (qs_n ?_)))))); refine wp_cd rfl (fun c55 => ?_) (fun c55 => ?_)
        · refine wp_sq (sq_v rfl (v_move rfl) rfl (sq_v rfl (v_loadNB 0 ty_137 rfl rfl rfl rfl) rfl ?_)); refine sq_x rfl (x_buildS [.agg [num x46.n, a46].toArray] Tryz.underlying133 ty_137 (by decide) rfl rfl rfl (by decide) (by decide) (by intro v hv; simp at hv; subst hv; rfl)) rfl ?_; intro v58 h58 (r58 : RowO 137 [num x46.n, a46] 1 2 v58 h58); refine sq_m 2 rfl rfl (m_append 2 0 Tryz.underlying133 ty_137 rfl rfl (by decide) rfl rfl rfl rr rfl r58.toR (by simp [one_int, rl46.sl.one]) (by unfold maxLen; omega) (by omega)) rfl ?_; intro v59 h_r59 (r59 : RowO 137 (cs ++ [num x46.n, a46]) ((dropTo sh.lv p.toNat q.toNat j).length + 1) 2 v59 h_r59); refine sq_v rfl (v_assign rfl) rfl (sq_end (qs_bn (qs_n (wp_sq ?_)))); refine sq_v rfl (v_add rfl rfl ((by unfold I64; omega))) rfl ?_; refine sq_v rfl (v_move rfl) rfl (sq_end ?_); exact qs_bk (j + 1, v59, h_r59, cs ++ [num x46.n, a46]) ⟨by (try dsimp only); omega, by (try dsimp only); rw [dropTo_yes hx46 (by omega) (by omega)]; exact hlv.snoc rl46, by (try dsimp only); rw [dropTo_yes hx46 (by omega) (by omega), List.length_append]; exact r59⟩ (by simp only; omega) ⟨rfl, rfl, rfl, rfl, rfl, rfl, (by first | rfl | exact ksub rfl (by first | omega | (simp; done) | (simp; omega))), rfl, rfl, (by first | rfl | exact ksub rfl (by first | omega | (simp; done) | (simp; omega))), trivial⟩ (fun _ s => s.pick [2, 3, 4, 5, 6, 7, 8, 9] (by decide) rfl)
        · refine wp_sk (qs_bn (qs_n (wp_sq ?_))); refine sq_v rfl (v_add rfl rfl ((by unfold I64; omega))) rfl ?_; refine sq_v rfl (v_move rfl) rfl (sq_end ?_); exact qs_bk (j + 1, lx, ha, cs) ⟨by (try dsimp only); omega, by (try dsimp only); rw [dropTo_no (by omega)]; exact hlv, by (try dsimp only); rw [dropTo_no (by omega)]; exact rr⟩ (by simp only; omega) ⟨rfl, rfl, rfl, rfl, rfl, rfl, (by first | rfl | exact ksub rfl (by first | omega | (simp; done) | (simp; omega))), rfl, rfl, (by first | rfl | exact ksub rfl (by first | omega | (simp; done) | (simp; omega))), trivial⟩ (fun _ s => s.pick [1, 2, 3, 4, 5, 6, 7, 8] (by decide) rfl)
      · refine sq_v rfl (v_move rfl) rfl (sq_s rfl rfl (sq_s rfl rfl (sq_s rfl rfl (sq_v rfl (v_pickf rfl rfl) rfl (sq_end (qs_n (wp_cf rfl (wp_sk (qs_bn (qs_n (wp_sq ?_))))))))))); refine sq_v rfl (v_add rfl rfl ((by unfold I64; omega))) rfl ?_; refine sq_v rfl (v_move rfl) rfl (sq_end ?_); exact qs_bk (j + 1, lx, ha, cs) ⟨by (try dsimp only); omega, by (try dsimp only); rw [dropTo_no (by omega)]; exact hlv, by (try dsimp only); rw [dropTo_no (by omega)]; exact rr⟩ (by simp only; omega) ⟨rfl, rfl, rfl, rfl, rfl, rfl, (by first | rfl | exact ksub rfl (by first | omega | (simp; done) | (simp; omega))), rfl, rfl, (by first | rfl | exact ksub rfl (by first | omega | (simp; done) | (simp; omega))), trivial⟩ (fun _ s => s.pick [1, 2, 3, 4, 5, 6, 7, 8] (by decide) rfl)
    · refine wp_ex (qs_x (qs_x (qs_bx (qs_n (wp_sc (wp_sq (sq_v rfl (v_move rfl) rfl (sq_v rfl (v_move rfl) rfl (sq_v rfl (v_loadNB 1 ty_137 rfl rfl rfl rfl) rfl ?_))))))))); refine sq_x rfl (x_buildS [.agg [num sh.all.length, v36].toArray] Tryz.underlying133 ty_137 (by decide) rfl rfl rfl (by decide) (by decide) (by intro v hv; simp at hv; subst hv; rfl)) rfl ?_; intro v64 h64 (r64 : RowO 137 [num sh.all.length, v36] 1 2 v64 h64); refine sq_m 1 rfl rfl (m_append 1 0 Tryz.underlying133 ty_137 rfl rfl (by decide) rfl rfl rfl rr rfl r64.toR (by simp [one_int, r36.toR.sl.one]) (by unfold maxLen; omega) (by omega)) rfl ?_; intro v65 h_r65 (r65 : RowO 137 (cs ++ [num sh.all.length, v36]) ((dropTo sh.lv p.toNat q.toNat j).length + 1) 2 v65 h_r65); refine sq_v rfl (v_nilCheck rfl) rfl (sq_v rfl (v_fieldAddr fd_135_2 ty_133 (by decide) rfl) rfl ?_); refine sq_m 7 rfl rfl (m_store1 7 ty_133 rfl rfl r65.toR.sl.one rfl (by simp [ints_length, hal])) rfl ?_; rintro _ _ ⟨rfl, rfl⟩; rw [pre_set (j := 1) hal]; dsimp only [List.set]; refine sq_end (qs_n (wp_sc (wp_sq (sq_v rfl (v_move rfl) rfl (sq_v rfl (v_nilCheck rfl) rfl (sq_v rfl (v_fieldAddr fd_135_3 ty_3 (by decide) rfl) rfl (sq_v rfl (v_loadB 7 ty_3 rfl rfl (pre_get hal 2 rfl)) rfl ?_))))))); refine sq_v rfl (v_add rfl rfl ((by unfold I64; omega))) rfl ?_; refine sq_v rfl (v_nilCheck rfl) rfl (sq_v rfl (v_fieldAddr fd_135_3 ty_3 (by decide) rfl) rfl ?_); refine sq_m 7 rfl rfl (m_store1 7 ty_3 rfl rfl rfl rfl (by simp [ints_length, hal])) rfl ?_; rintro _ _ ⟨rfl, rfl⟩; rw [pre_set (j := 2) hal]; dsimp only [List.set]; refine sq_end (qs_n (wp_sc (wp_sq (sq_v rfl (v_loadNB 4 ty_69 rfl rfl rfl rfl) rfl ?_)))); refine sq_m 5 rfl rfl (m_store 5 ty_69 rfl rfl rfl rfl (by simp [Value.oneCell']) rfl (Nat.le_of_ble_eq_true rfl)) rfl ?_; rintro _ _ ⟨rfl, rfl⟩; refine sq_end (qs_n (wp_rt ?_)); refine qs_close [box bb _ _, restP w h, box b6 _ _] [hs, h_r65, h36] (fun _ s => s.pick [7, 6, 5, 8, 1, 3] (by decide) rfl) (fun md1 => ?_); refine qs_close [restP w h, box b6 _ _] [box bb _ _, joinP [hs, h_r65, h36]] (fun _ s => s.pick [2, 3, 1, 0] (by decide) rfl) (fun md2 => ?_); have ej : j = sh.lv.length := by omega
      subst ej; have e := step_lv (op := op) hok hpa hqb; have el : ((sh.step op a b).all.length : Int) = sh.all.length + 1 := by simp [Sh.step]
      have hlv' : LvL (sh.step op a b).lv (cs ++ [num sh.all.length, v36]) (joinP [hs, h_r65, h36]) := by rw [e]; exact (hlv.mono (md1.le hs (by simp))).snoc (x := ⟨sh.all.length, sh.res op a b⟩) (r36.toR.mono (md1.le h36 (by simp)))
      have hro := r65.toR.mono (md1.le h_r65 (by simp)); exact qs_retc 2 rfl ty_69 rfl rfl rfl (fin_m 0 (i := 1) rfl rfl rfl ⟨rfl, hal, Sh.step_ok hok a b, v65, _, hlv'.live (by rw [e, List.length_append]; exact hro), by rw [el]; exact md2⟩)
/-- What a step of an order turns. -/
def FollowR (arr op : List Int) (vo : Value) (sh : Sh) (bb : Nat) (x y : Int) (u : Value) (h : PH) : Prop :=
  (sh.live x ∧ sh.live y ∧ x < y → u = .bool true ∧ StO arr vo (sh.step op x.toNat y.toNat) bb h) ∧ (¬ (sh.live x ∧ sh.live y ∧ x < y) → u = .bool false ∧ StO arr vo sh bb h)
theorem ct_i_follow (arr op : List Int) (vo : Value) (sh : Sh) (bb : Nat) (x y : Int) (w : World) (h : PH) (hle : PLe h (hp w)) (rs : StO arr vo sh bb h) (ro : IntsR op vo (restP w h))
    (hsz : ∀ i, (sh.lab i).length ≤ 50000) (hall : sh.all.length ≤ 100000) :
    Calls Tryz.prog 103 [.pointer (some ⟨bb, 0, none⟩), stepV x y].toArray w (Ret w h (FollowR arr op vo sh bb x y)) := by
  obtain ⟨lvv, rr⟩ := rs.toR; refine calls_in Tryz.func103 rfl Tryz.ntmps103 rfl (Sat.start2 hle) ?_; have hle0 := ro.le; refine wp_sc (wp_sq ?_); refine sq_x rfl (x_box rfl rfl) rfl ?_; rintro _ _ ⟨b3, rfl, rfl⟩; refine sq_v rfl (v_assign rfl) rfl (sq_end (qs_n (wp_sc (wp_rj 10 [(0, true), (1, true), (2, true), (4, true), (5, true), (6, true), (3, false), (7, false), (8, true), (9, true)] mixed_ok (by kernel_rfl) (rj_v rfl rfl (v_move rfl) rfl (rj_v rfl rfl (v_fieldAddr fd_69_0 ty_3 (by decide) rfl) rfl (rj_v rfl rfl (v_loadB 0 ty_3 rfl rfl rfl) rfl (rj_v rfl rfl (v_move rfl) rfl (rj_v rfl rfl (v_fieldAddr fd_69_1 ty_3 (by decide) rfl) rfl (rj_v rfl rfl (v_loadB 0 ty_3 rfl rfl rfl) rfl (rj_u rfl rfl (x_callv rfl en_121 (fun w s => ct_i_place _ _ _ _ _ _ w (rr.mono (s.get 1 rfl)))) rfl (rj_u rfl rfl (x_callv rfl en_121 (fun w s => ct_i_place _ _ _ _ _ _ w (rr.mono (s.get 1 rfl)))) rfl ?_)))))))))))); refine rj_v rfl rfl (v_assign rfl) rfl (rj_v rfl rfl (v_assign rfl) rfl (rj_end (qs_n (wp_sc (wp_sc (wp_sq (sq_v rfl (v_move rfl) rfl (sq_v rfl (v_lss rfl rfl) rfl ?_)))))))); refine sq_bd 16 rfl (fun c16 => ?_) (fun c16 => ?_)
  · refine sq_v rfl (v_move rfl) rfl (sq_s rfl rfl (sq_s rfl rfl (sq_v rfl (v_pickt rfl rfl) rfl (sq_v rfl (v_move rfl) rfl (sq_s rfl rfl (sq_s rfl rfl (sq_s rfl rfl (sq_s rfl rfl (sq_s rfl rfl ?_))))))))); refine sq_v rfl (v_pickt rfl rfl) rfl (sq_end (qs_n (wp_ct rfl (wp_sc (wp_sq (sq_v rfl (v_assign rfl) rfl (sq_end (qs_n (wp_rt (qs_r ?_)))))))))); exact qs_ret1 rfl rfl (fin_m 1 (i := 2) rfl rfl rfl (⟨fun hh => by have := place_ge.2 hh.1; omega, fun _ => ⟨rfl, rs⟩⟩))
  · refine sq_v rfl (v_move rfl) rfl (sq_v rfl (v_move rfl) rfl (sq_v rfl (v_lss rfl rfl) rfl (sq_v rfl (v_pickf rfl rfl) rfl ?_))); refine sq_bd 20 rfl (fun c20 => ?_) (fun c20 => ?_)
    · refine sq_v rfl (v_move rfl) rfl (sq_s rfl rfl (sq_s rfl rfl (sq_s rfl rfl (sq_s rfl rfl (sq_s rfl rfl (sq_v rfl (v_pickt rfl rfl) rfl (sq_end (qs_n (wp_ct rfl (wp_sc (wp_sq (sq_v rfl (v_assign rfl) rfl (sq_end (qs_n (wp_rt (qs_r ?_)))))))))))))))); exact qs_ret1 rfl rfl (fin_m 1 (i := 2) rfl rfl rfl (⟨fun hh => by have := place_ge.2 hh.2.1; omega, fun _ => ⟨rfl, rs⟩⟩))
    · refine sq_v rfl (v_move rfl) rfl (sq_v rfl (v_fieldAddr fd_69_0 ty_3 (by decide) rfl) rfl (sq_v rfl (v_loadB 0 ty_3 rfl rfl rfl) rfl (sq_v rfl (v_fieldAddr fd_69_1 ty_3 (by decide) rfl) rfl (sq_v rfl (v_loadB 0 ty_3 rfl rfl rfl) rfl (sq_v rfl (v_geq rfl rfl) rfl (sq_v rfl (v_pickf rfl rfl) rfl (sq_end (qs_n ?_)))))))); refine wp_cd rfl (fun c27 => ?_) (fun c27 => ?_)
      · refine wp_sc (wp_sq (sq_v rfl (v_assign rfl) rfl (sq_end (qs_n (wp_rt (qs_r ?_)))))); exact qs_ret1 rfl rfl (fin_m 1 (i := 2) rfl rfl rfl (⟨fun hh => by have := hh.2.2; omega, fun _ => ⟨rfl, rs⟩⟩))
      · refine wp_sk (qs_n (wp_sc (wp_sq (sq_v rfl (v_move rfl) rfl (sq_v rfl (v_move rfl) rfl (sq_v rfl (v_move rfl) rfl ?_)))))); have lx := place_ge.1 (Int.not_lt.1 c16); have ly := place_ge.1 (Int.not_lt.1 c20); have px := place_at lx; have py := place_at ly; refine sq_m 1 rfl rfl (x_call rfl en_122 (fun w s => ct_i_contract _ op _ sh _ _ _ x.toNat y.toNat w _ (s.get 1 rfl) rs (ro.mono (s.getR 1 2 rfl rfl (by decide))) (by first | assumption | omega) (by first | assumption | omega) px.1 py.1 (by have := hsz x.toNat; have := hsz y.toNat; omega) (by first | assumption | omega))) rfl ?_; rintro _ h31 ⟨rfl, rs31⟩; refine sq_end (qs_n (wp_sc (wp_sq (sq_v rfl (v_assign rfl) rfl (sq_end (qs_n (wp_rt ?_))))))); exact qs_ret1 rfl rfl (fin_m 1 (i := 2) rfl rfl rfl (⟨fun _ => ⟨rfl, rs31⟩, fun hn => absurd ⟨lx, ly, by omega⟩ hn⟩))
def sh0 (ts : List Ten) : Sh := ⟨ts.map (·.l), List.replicate ts.length false⟩
theorem sh0_ok (ts : List Ten) : (sh0 ts).ok := by simp [Sh.ok, sh0]
theorem sh0_ixs (ts : List Ten) : (sh0 ts).ixs = List.range ts.length := by
  unfold Sh.ixs
  have : (sh0 ts).all.length = ts.length := by simp [sh0]
  rw [this, List.filter_eq_self]; intro i hi; simp only [sh0, List.getD, List.getElem?_replicate]
  split <;> rfl
def lvTo (ts : List Ten) (i : Nat) : List Lv := (List.range i).map fun (k : Nat) => ⟨k, (sh0 ts).lab k⟩
theorem sh0_lv (ts : List Ten) : (sh0 ts).lv = lvTo ts ts.length := by rw [Sh.lv, sh0_ixs]; rfl
theorem lvTo_step {ts : List Ten} {i : Nat} {t : Ten} (h : ts[i]? = some t) : lvTo ts (i + 1) = lvTo ts i ++ [⟨i, t.l⟩] := by
  have : (sh0 ts).lab i = t.l := by simp [Sh.lab, sh0, List.getD, h]
  rw [lvTo, List.range_succ, List.map_append]
  simp [lvTo, this]
theorem bplaces_state : bplaces Tryz.prog 135 = some ((List.replicate 100 (num 0) ++ [.slice none 0 0, .slice none 0 0, num 0]).toArray, [(0, 100), (100, 1), (101, 1), (102, 1)]) := by kernel_rfl
theorem built_state (arr : List Int) (vo : Value) (nx : Int) (hal : arr.length = 100) (hvo : vo.oneCell' = true) :
    Tryz.prog.built 135 [(0, .agg (ints arr).toArray), (1, vo), (3, num nx)] = some (stCells arr vo (.slice none 0 0) nx).toArray := by
  rw [built_of bplaces_state]; have f1 := fill_at (place := fun i => ([(0, 100), (100, 1), (101, 1), (102, 1)] : List (Nat × Nat)).toArray[i]?) (A := []) (us := ints arr) (cs := List.replicate 100 (num 0)) (B := [.slice none 0 0, .slice none 0 0, num 0]) (i := 0) (v := .agg (ints arr).toArray) (rest := [(1, vo), (3, num nx)]) rfl rfl (by rw [ints_length]; exact hal) rfl (by simp); have f2 := fill_at (place := fun i => ([(0, 100), (100, 1), (101, 1), (102, 1)] : List (Nat × Nat)).toArray[i]?) (A := ints arr) (us := [vo]) (cs := [.slice none 0 0]) (B := [.slice none 0 0, num 0]) (i := 1) (v := vo) (rest := [(3, num nx)]) rfl (oneCell_cells hvo) rfl (by rw [ints_length]; exact hal) rfl; have f3 := fill_at (place := fun i => ([(0, 100), (100, 1), (101, 1), (102, 1)] : List (Nat × Nat)).toArray[i]?) (A := ints arr ++ [vo, .slice none 0 0]) (us := [num nx]) (cs := [num 0]) (B := []) (i := 3) (v := num nx) (rest := []) rfl rfl rfl (by simp [ints_length, hal]) rfl; simp only [List.nil_append] at f1; rw [f1]; rw [show (ints arr ++ [Value.slice none 0 0, .slice none 0 0, num 0]) = ints arr ++ [.slice none 0 0] ++ [.slice none 0 0, num 0] by simp, f2]; rw [show (ints arr ++ [vo] ++ [Value.slice none 0 0, num 0]) = ints arr ++ [vo, .slice none 0 0] ++ [num 0] ++ [] by simp, f3]
  simp [Instr.fill, stCells]
set_option maxHeartbeats 2000000 in
theorem ct_i_startState (k p n : Int) (ts : List Ten) (op : List Int) (vt vo : Value) (w : World) (r : TensR ts vt (hp w)) (r' : IntsR op vo (hp w)) (hok : ∀ t ∈ ts, axesL t.l t.d) (hts : ts.length ≤ 12) :
    Calls Tryz.prog 102 [netV k p n vt vo].toArray w (Ret w emp (fun u h => ∃ bb arr, u = ptrV bb ∧ StO arr vo (sh0 ts) bb h ∧ (consL ts → arrInv ts arr))) := by
  refine calls_in Tryz.func102 rfl Tryz.ntmps102 rfl (Sat.start w) ?_; have hle0 := r.le; obtain ⟨cs_r, rr_r, hc_r⟩ := r.at; have hle1 := r'.le; refine wp_sc (wp_sq ?_); refine sq_x rfl (x_box rfl rfl) rfl ?_; rintro _ _ ⟨b1, rfl, rfl⟩; refine sq_v rfl (v_assign rfl) rfl (sq_end (qs_n (wp_sc (wp_sq (sq_v rfl (v_fieldAddr fd_39_1 ty_37 (by decide) rfl) rfl (sq_v rfl (v_loadB 0 ty_37 rfl rfl rfl) rfl ?_)))))); refine sq_x rfl (x_call rfl en_85 (fun w s => ct_i_dimsOf _ _ w (r.mono (s.get 1 rfl)) (by first | assumption | omega))) rfl ?_; rintro _ h11 ⟨arr, ok, rfl, hal, hok', hav⟩; refine sq_v rfl (v_move rfl) rfl (sq_v rfl (v_extract rfl rfl) rfl (sq_v rfl (v_extract rfl rfl) rfl ?_)); refine sq_x rfl (x_alloc ty_106 rfl) rfl ?_; rintro _ _ ⟨b3, rfl, rfl⟩; refine sq_m 0 rfl rfl (m_storeW 0 ty_106 rfl rfl rfl (by rw [ints_length]; exact hal) (ints_one arr) rfl (by simp)) rfl ?_; rintro _ _ ⟨rfl, rfl⟩; refine sq_v rfl (v_assign rfl) rfl (sq_end (qs_n (wp_sc (wp_sq ?_)))); refine sq_v rfl (v_loadNB 0 ty_106 rfl rfl (by rw [ints_length]; exact hal) (by rw [List.drop_zero, List.take_of_length_le]; rw [ints_length, hal]; omega)) rfl ?_; refine sq_v rfl (v_fieldAddr fd_39_2 ty_25 (by decide) rfl) rfl (sq_v rfl (v_loadB 2 ty_25 rfl rfl rfl) rfl (sq_v rfl (v_fieldAddr fd_39_1 ty_37 (by decide) rfl) rfl (sq_v rfl (v_loadB 2 ty_37 rfl rfl rfl) rfl (sq_v rfl (v_len Tryz.underlying37 rfl r.sl) rfl (sq_v rfl (v_build (stCells arr vo (.slice none 0 0) ts.length) rfl (built_state arr vo _ hal r'.sl.one)) rfl ?_))))); refine sq_x rfl (x_box rfl rfl) rfl ?_; rintro _ _ ⟨b21, rfl, rfl⟩; refine sq_v rfl (v_assign rfl) rfl (sq_end (qs_n (wp_sc (wp_sc (wp_sq (sq_v rfl (v_fieldAddr fd_39_1 ty_37 (by decide) rfl) rfl (sq_v rfl (v_loadB 3 ty_37 rfl rfl rfl) rfl (sq_v rfl (v_len Tryz.underlying37 rfl r.sl) rfl (sq_v rfl (v_move rfl) rfl (sq_end (qs_n (wp_bl ?_)))))))))))); refine wp_lp (σ := Nat × Value × PH × (List Value) × PH) (fun z_ => [(2, .pointer none), (5, .pointer (some ⟨b21, 0, none⟩)), (23, vt), (24, num ts.length), (25, num z_.1)]) (fun z_ => [z_.2.2.2.2, z_.2.2.1, box b21 (ints arr ++ [vo, z_.2.1, num ts.length]) 135, box b3 (ints arr) 106, h11, box b1 [num k, num p, num n, vt, vo] 39, hp w]) (fun z_ => z_.1 ≤ ts.length ∧ LvL (lvTo ts z_.1) z_.2.2.2.1 z_.2.2.2.2 ∧ RowO (137) z_.2.2.2.1 z_.1 2 z_.2.1 z_.2.2.1) (fun z_ => ts.length - z_.1) (0, .slice none 0 0, emp, [], emp) (⟨by (try dsimp only); omega, LvL.nil _, RowO.nil⟩) ⟨rfl, rfl, rfl, rfl, (by first | rfl | exact ksub rfl (by first | omega | (simp; done) | (simp; omega))), trivial⟩ (fun _ s => (emp_sat (emp_sat s))) ?_; rintro ⟨i, lx, ha, cs, hl⟩ ⟨hi, hlv, rr⟩; dsimp only at hi hlv rr ⊢; refine wp_sc (wp_sq (sq_v rfl (v_lss rfl rfl) rfl (sq_end (qs_n (wp_sc ?_))))); refine wp_cd rfl (fun c26 => ?_) (fun c26 => ?_)
  · refine wp_sk (qs_n (wp_sc (wp_bl (wp_sc (wp_sq (sq_v rfl (v_move rfl) rfl ?_)))))); obtain ⟨t28, a28, b28, c28, ht28, hcs28, rl28, rd28, rx28⟩ := hc_r (i) (by first | omega | (rw [List.length_set]; omega)); refine sq_v rfl (v_indexAddr Tryz.underlying37 ty_42 rfl rfl rr_r (by decide) (by omega) (by omega)) rfl ?_; refine sq_v rfl (v_loadNE 6 ty_42 rfl rfl rr_r (by have := rr_r.1; omega) rfl hcs28) rfl ?_; refine sq_x rfl (x_alloc ty_42 rfl) rfl ?_; rintro _ _ ⟨b7, rfl, rfl⟩; refine sq_v rfl (v_assign rfl) rfl ?_; refine sq_m 0 rfl rfl (m_store 0 ty_42 rfl rfl rfl rfl (by simp [rl28.sl.one, rd28.sl.one, rx28.sl.one]) rfl (Nat.le_of_ble_eq_true rfl)) rfl ?_; rintro _ _ ⟨rfl, rfl⟩; refine sq_end ?_; have hax := hok t28 (List.mem_of_getElem? ht28); have hl12 := hax.1; refine qs_n (wp_rk [false, false, true, false, false, false, false, false] 12 [(0, true), (1, true), (2, true), (3, true), (4, true), (5, true), (6, true), (7, true), (8, false), (9, true), (10, false), (11, false), (12, false), (13, false), (14, false)] mixed_ok (by kernel_rfl) (rk_v rfl rfl (v_move rfl) rfl (rk_v rfl rfl (v_move rfl) rfl (rk_v rfl rfl (v_nilCheck rfl) rfl (rk_v rfl rfl (v_fieldAddr fd_135_2 ty_133 (by decide) rfl) rfl (rk_v rfl rfl (v_loadB 3 ty_133 rfl rfl (pre_get hal 1 rfl)) rfl (rk_v rfl rfl (v_move rfl) rfl (rk_v rfl rfl (v_fieldAddr fd_42_0 ty_25 (by decide) rfl) rfl (rk_v rfl rfl (v_loadB 0 ty_25 rfl rfl rfl) rfl ?_))))))))); refine rk_x rfl rfl (x_call rfl en_112 (fun w s => ct_i_copyInts _ _ w (rl28.mono (s.get 7 rfl)) (by first | assumption | omega))) rfl ?_; rintro v38 h38 r38; refine rk_v rfl rfl (v_build [num i, v38] rfl (by obtain ⟨_, _, rfl⟩ := r38.toR.sl; kernel_rfl)) rfl ?_; refine rk_x rfl rfl (x_buildS [.agg [num i, v38].toArray] Tryz.underlying133 ty_137 (by decide) rfl rfl rfl (by decide) (by decide) (by intro v hv; simp at hv; subst hv; rfl)) rfl ?_; intro v40 h40 (r40 : RowO 137 [num i, v38] 1 2 v40 h40); refine rk_m 4 rfl rfl rfl rfl (m_append 4 0 Tryz.underlying133 ty_137 rfl rfl (by decide) rfl rfl rfl rr rfl r40.toR (by simp [one_int, r38.toR.sl.one]) (by unfold maxLen; omega) (by omega)) rfl ?_; intro v41 h_r41 (r41 : RowO 137 (cs ++ [num i, v38]) (i + 1) 2 v41 h_r41); refine rk_fv rfl rfl (v_nilCheck rfl) rfl (rk_fv rfl rfl (v_fieldAddr fd_135_2 ty_133 (by decide) rfl) rfl ?_); refine rk_mt 5 rfl rfl rfl rfl (m_store1 5 ty_133 rfl rfl r41.toR.sl.one rfl (by simp [ints_length, hal])) rfl ?_; rintro _ _ ⟨rfl, rfl⟩; rw [pre_set (j := 1) hal]; dsimp only [List.set]; refine rk_end (qs_bn (qs_n (wp_sq ?_))); refine sq_v rfl (v_add rfl rfl ((by unfold I64; omega))) rfl ?_; refine sq_v rfl (v_move rfl) rfl (sq_end ?_); refine qs_dj 3 1 rfl rfl rfl (fun hdj => ?_); exact qs_bk (i + 1, v41, h_r41, cs ++ [num i, v38], PUn hl h38) ⟨by (try dsimp only); omega, by (try dsimp only); rw [lvTo_step ht28]; exact (hlv.mono (PLe.un_l _ _)).snoc (x := ⟨i, t28.l⟩) (r38.toR.mono (PLe.un_r hdj)), r41⟩ (by simp only; omega) ⟨rfl, rfl, rfl, rfl, (by first | rfl | exact ksub rfl (by first | omega | (simp; done) | (simp; omega))), trivial⟩ (fun _ s => Sat.merge (s.pick [3, 1, 4, 5, 6, 7, 8, 9] (by decide) rfl))
  · refine wp_ex (qs_x (qs_x (qs_bx (qs_n (wp_sc (wp_sq (sq_v rfl (v_move rfl) rfl (sq_v rfl (v_assign rfl) rfl (sq_end (qs_n (wp_rt ?_))))))))))); refine qs_close [box b21 _ _, hp w] [hl, ha] (fun _ s => s.pick [2, 6, 0, 1] (by decide) rfl) (fun md1 => ?_); refine qs_close [hp w] [box b21 _ _, joinP [hl, ha]] (fun _ s => s.pick [2, 1, 0] (by decide) rfl) (fun md2 => ?_); have ei : i = ts.length := by omega
    subst ei; have el : ((sh0 ts).all.length : Int) = ts.length := by simp [sh0]
    have hll : (lvTo ts ts.length).length = ts.length := by simp [lvTo]
    have hlive := (hlv.mono (md1.le hl (by simp))).live (by rw [hll]; exact rr.toR.mono (md1.le ha (by simp))); exact qs_ret1 rfl rfl (fin_t 0 (i := 1) rfl rfl rfl ⟨b21, arr, rfl, ⟨hal, sh0_ok ts, lx, _, by rw [sh0_lv]; exact hlive, by rw [el]; exact md2⟩, fun hc => hav (hok'.2 hc)⟩)
end Go.Proofs.YtiefkcaplhnnmaaGreatDoor
namespace Go.Proofs.YtiefkcaplhnnmaaGreatDoor
set_option maxRecDepth 100000
open Go.RowKit
theorem pigeon : ∀ {l m : List Int}, l.Nodup → (∀ x ∈ l, x ∈ m) → l.length ≤ m.length
  | [], _, _, _ => by simp
  | a :: r, m, hn, hs => by
    have ha := hs a (by simp); have hn' := List.nodup_cons.1 hn; have ih := pigeon (l := r) (m := m.erase a) hn'.2 (fun x hx => (List.mem_erase_of_ne (fun e => hn'.1 (by rw [← e]; exact hx))).2 (hs x (by simp [hx]))); rw [List.length_erase_of_mem ha] at ih; have : 0 < m.length := List.length_pos_of_mem ha; simp only [List.length_cons]
    omega
theorem joinI_nodup {a b : List Int} (ha : a.Nodup) (hb : b.Nodup) : (joinI a b).Nodup := by
  refine List.nodup_append.2 ⟨ha, List.Pairwise.filter _ hb, fun x hx y hy e => ?_⟩; subst e; have := (List.mem_filter.1 hy).2
  simp [hx] at this
theorem mem_joinI {a b : List Int} {x : Int} : x ∈ joinI a b ↔ x ∈ a ∨ x ∈ b := by
  simp only [joinI, List.mem_append, List.mem_filter, decide_eq_true_eq]
  constructor
  · rintro (h | h)
    · exact .inl h
    · exact .inr h.1
  · rintro (h | h)
    · exact .inl h
    · by_cases hx : x ∈ a
      · exact .inl hx
      · exact .inr ⟨h, hx⟩
/-- Each row of labels is without repetition and of labels of the network. -/
def Sh.fine (s : Sh) : Prop := s.ok ∧ ∀ i, (s.lab i).Nodup ∧ ∀ x ∈ s.lab i, 0 ≤ x ∧ x ≤ 99
theorem few_labels {l : List Int} (h : l.Nodup) (h1 : ∀ x ∈ l, 0 ≤ x ∧ x ≤ 99) : l.length ≤ 100 := by
  have := pigeon (m := (List.range 100).map Int.ofNat) h (fun x hx => by
    have := h1 x hx; simp only [List.mem_map, List.mem_range]; exact ⟨x.toNat, by omega, show ((x.toNat : Nat) : Int) = x by omega⟩)
  simpa using this
theorem Sh.fine.few {s : Sh} (h : s.fine) (i : Nat) : (s.lab i).length ≤ 100 := few_labels (h.2 i).1 (h.2 i).2
theorem res_mem {op : List Int} {s : Sh} {a b : Nat} {x : Int} (h : x ∈ s.res op a b) : x ∈ s.lab a ∨ x ∈ s.lab b := mem_joinI.1 (List.mem_filter.1 h).1
theorem Sh.fine.step {s : Sh} (h : s.fine) (op : List Int) (a b : Nat) : (s.step op a b).fine := by
  refine ⟨Sh.step_ok h.1 a b, fun i => ?_⟩
  rcases Nat.lt_trichotomy i s.all.length with hi | hi | hi
  · rw [step_lab hi]; exact h.2 i
  · subst hi; rw [step_lab_new]; refine ⟨List.Pairwise.filter _ (joinI_nodup (h.2 a).1 (h.2 b).1), fun x hx => ?_⟩
    rcases res_mem hx with hx | hx
    · exact (h.2 a).2 x hx
    · exact (h.2 b).2 x hx
  · have : (s.step op a b).lab i = [] := by simp only [Sh.lab, Sh.step, List.getD]; rw [List.getElem?_eq_none (by simp; omega)]; rfl
    rw [this]; exact ⟨List.nodup_nil, fun x hx => by simp at hx⟩
theorem sh0_fine {ts : List Ten} (h : ∀ t ∈ ts, axesL t.l t.d) : (sh0 ts).fine := by
  refine ⟨sh0_ok ts, fun i => ?_⟩
  by_cases hi : i < ts.length
  · have : (sh0 ts).lab i = ts[i].l := by simp [Sh.lab, sh0, List.getD, hi]
    rw [this]; have hax := h ts[i] (List.getElem_mem hi); exact ⟨axes_nodup hax, fun x hx => by obtain ⟨j, hj, e⟩ := getD_of_mem hx; have := (hax.2.2 j hj).1; rw [e] at this; exact this⟩
  · have : (sh0 ts).lab i = [] := by simp [Sh.lab, sh0, List.getD, Nat.le_of_not_lt hi]
    rw [this]; exact ⟨List.nodup_nil, fun x hx => by simp at hx⟩
/-- The state behind some steps. -/
noncomputable def shTo (op : List Int) (s : Sh) (ss : List Stp) : Sh := ss.foldl (fun s x => s.step op x.a.toNat x.b.toNat) s
theorem shTo_step {op : List Int} {s : Sh} {ss : List Stp} {i : Nat} {x : Stp} (h : ss[i]? = some x) : shTo op s (ss.take (i + 1)) = (shTo op s (ss.take i)).step op x.a.toNat x.b.toNat := by
  obtain ⟨hi, e⟩ := List.getElem?_eq_some_iff.1 h; rw [List.take_succ_eq_append_getElem hi, e, shTo, List.foldl_append]; rfl
theorem shTo_fine {op : List Int} {s : Sh} (h : s.fine) : ∀ ss, (shTo op s ss).fine
  | [] => h
  | x :: r => shTo_fine (h.step op x.a.toNat x.b.toNat) r
theorem shTo_all {op : List Int} : ∀ {s : Sh} {ss : List Stp}, (shTo op s ss).all.length = s.all.length + ss.length
  | s, [] => by simp [shTo]
  | s, x :: r => by
    have := shTo_all (op := op) (s := s.step op x.a.toNat x.b.toNat) (ss := r)
    show (shTo op (s.step op x.a.toNat x.b.toNat) r).all.length = _
    rw [this]
    simp [Sh.step]; omega
def stepOk (s : Sh) (x : Stp) : Prop := s.live x.a ∧ s.live x.b ∧ x.a < x.b
def okSteps (op : List Int) (s : Sh) (ss : List Stp) : Prop := ∀ i, i < ss.length → ∀ x, ss[i]? = some x → stepOk (shTo op s (ss.take i)) x
def orderL (k p n : Int) (ts : List Ten) (op : List Int) (ss : List Stp) : Prop := netL k p n ts op ∧ ss.length = ts.length - 1 ∧ okSteps op (sh0 ts) ss
open Classical in
noncomputable def orderB (k p n : Int) (ts : List Ten) (op : List Int) (ss : List Stp) : Bool := decide (orderL k p n ts op ss)
theorem orderB_no {k p n : Int} {ts : List Ten} {op : List Int} {ss : List Stp} (h : ¬ orderL k p n ts op ss) : Value.bool false = .bool (orderB k p n ts op ss) := by simp [orderB, h]
theorem orderB_yes {k p n : Int} {ts : List Ten} {op : List Int} {ss : List Stp} (h : orderL k p n ts op ss) : Value.bool true = .bool (orderB k p n ts op ss) := by simp [orderB, h]
theorem orderB_true {k p n : Int} {ts : List Ten} {op : List Int} {ss : List Stp} : orderB k p n ts op ss = true ↔ orderL k p n ts op ss := by simp [orderB]
theorem orderB_false {k p n : Int} {ts : List Ten} {op : List Int} {ss : List Stp} : orderB k p n ts op ss = false ↔ ¬ orderL k p n ts op ss := by simp [orderB]
open Classical in
noncomputable def okB (s : Sh) (x y : Int) : Bool := decide (s.live x ∧ s.live y ∧ x < y)
open Classical in
noncomputable def nextSh (op : List Int) (s : Sh) (x y : Int) : Sh := if s.live x ∧ s.live y ∧ x < y then s.step op x.toNat y.toNat else s
theorem okB_true {s : Sh} {x y : Int} : okB s x y = true ↔ s.live x ∧ s.live y ∧ x < y := by simp [okB]
theorem okB_false {s : Sh} {x y : Int} : okB s x y = false ↔ ¬ (s.live x ∧ s.live y ∧ x < y) := by simp [okB]
theorem nextSh_yes {op : List Int} {s : Sh} {x y : Int} (h : okB s x y = true) : nextSh op s x y = s.step op x.toNat y.toNat := if_pos (okB_true.1 h)
theorem nextSh_no {op : List Int} {s : Sh} {x y : Int} (h : okB s x y = false) : nextSh op s x y = s := if_neg (okB_false.1 h)
theorem ct_L_follow (arr op : List Int) (vo : Value) (sh : Sh) (bb : Nat) (x y : Int) (w : World) (h : PH) (hle : PLe h (hp w)) (rs : StO arr vo sh bb h) (ro : IntsR op vo (restP w h))
    (hsz : ∀ i, (sh.lab i).length ≤ 50000) (hall : sh.all.length ≤ 100000) :
    Calls Tryz.prog 103 [.pointer (some ⟨bb, 0, none⟩), stepV x y].toArray w (Ret w h (fun u h' => u = .bool (okB sh x y) ∧ StO arr vo (nextSh op sh x y) bb h')) :=
  (ct_i_follow arr op vo sh bb x y w h hle rs ro hsz hall).mono fun _ _ hh => by
    obtain ⟨u, h', h1, h2, h3⟩ := hh; refine ⟨u, h', h1, h2, ?_⟩
    by_cases hc : sh.live x ∧ sh.live y ∧ x < y
    · have := h3.1 hc; exact ⟨by rw [okB_true.2 hc]; exact this.1, by rw [nextSh_yes (okB_true.2 hc)]; exact this.2⟩
    · have := h3.2 hc; exact ⟨by rw [okB_false.2 hc]; exact this.1, by rw [nextSh_no (okB_false.2 hc)]; exact this.2⟩
set_option maxHeartbeats 1000000 in
theorem ct_i_OrderOk (k p n : Int) (ts : List Ten) (op : List Int) (ss : List Stp) (vt vo v : Value) (w : World) (r : TensR ts vt (hp w)) (r' : IntsR op vo (hp w)) (rv : StepsR ss v (hp w)) (hs : op.length ≤ 1048576) :
    Calls Tryz.prog 70 [netV k p n vt vo, v].toArray w (RetV w (.bool (orderB k p n ts op ss))) := by
  refine calls_in Tryz.func70 rfl Tryz.ntmps70 rfl (Sat.start w) ?_; have hle0 := r.le; obtain ⟨cs_r, rr_r, hc_r⟩ := r.at; have hle1 := r'.le; have hle2 := rv.le; obtain ⟨cs_rv, rr_rv, hc_rv⟩ := rv.at; refine wp_sc (wp_sq ?_); refine sq_x rfl (x_box rfl rfl) rfl ?_; rintro _ _ ⟨b2, rfl, rfl⟩; refine sq_v rfl (v_assign rfl) rfl (sq_end (qs_n (wp_sc (wp_sc (wp_sq (sq_v rfl (v_loadNB 0 ty_39 rfl rfl rfl rfl) rfl (sq_u rfl (x_callv rfl en_47 (fun w s => ct_i_NetworkOk _ _ _ _ _ _ _ w (r.mono (s.get 1 rfl)) (r'.mono (s.get 1 rfl)) (by first | assumption | omega))) rfl ?_))))))); refine sq_bb 9 rfl (fun c9 => ?_) (fun c9 => ?_)
  · refine sq_v rfl (v_not rfl) rfl (sq_v rfl (v_move rfl) rfl (sq_v rfl (v_move rfl) rfl (sq_v rfl (v_len Tryz.underlying41 rfl rv.sl) rfl (sq_v rfl (v_fieldAddr fd_39_1 ty_37 (by decide) rfl) rfl (sq_v rfl (v_loadB 0 ty_37 rfl rfl rfl) rfl (sq_v rfl (v_len Tryz.underlying37 rfl r.sl) rfl ?_)))))); refine sq_v rfl (v_sub rfl rfl ((by unfold I64; omega))) rfl ?_; refine sq_v rfl (v_max rfl rfl) rfl (sq_v rfl (v_neq rfl rfl) rfl (sq_v rfl (v_pickf rfl rfl) rfl (sq_end (qs_n ?_)))); refine wp_cd rfl (fun c20 => ?_) (fun c20 => ?_)
    · refine wp_sc (wp_sq (sq_v rfl (v_assign rfl) rfl (sq_end (qs_n (wp_rt (qs_r ?_)))))); exact qs_ret1 rfl rfl (fin_q (i := 1) rfl (orderB_no (fun h => by have := h.2.1; omega)))
    · refine wp_sk (qs_n (wp_sc (wp_sq (sq_v rfl (v_loadNB 0 ty_39 rfl rfl rfl rfl) rfl ?_)))); have hnet := netB_true.1 c9; have hax := net_axes hnet; have h12 := hnet.2.1; have hfi := sh0_fine hax; refine sq_x rfl (x_call rfl en_102 (fun w s => ct_i_startState _ _ _ _ _ _ _ w (r.mono (s.get 1 rfl)) (r'.mono (s.get 1 rfl)) hax h12)) rfl ?_; rintro _ h22 ⟨bb, arr, rfl, rst, _⟩; refine sq_v rfl (v_assign rfl) rfl (sq_end (qs_n (wp_sc (wp_sc (wp_sq (sq_v rfl (v_move rfl) rfl (sq_v rfl (v_len Tryz.underlying41 rfl rv.sl) rfl (sq_v rfl (v_move rfl) rfl (sq_end (qs_n (wp_bl ?_))))))))))); refine wp_lp (σ := Nat × PH) (fun z_ => [(4, .bool false), (5, ptrV bb), (23, v), (24, num ss.length), (25, num z_.1)]) (fun z_ => [z_.2, box b2 [num k, num p, num n, vt, vo] 39, hp w]) (fun z_ => z_.1 ≤ ss.length ∧ StO arr vo (shTo op (sh0 ts) (ss.take z_.1)) bb z_.2 ∧ (∀ j, j < z_.1 → ∀ x, ss[j]? = some x → stepOk (shTo op (sh0 ts) (ss.take j)) x)) (fun z_ => ss.length - z_.1) (0, h22) (⟨by (try dsimp only); omega, rst, fun j hj => by omega⟩) ⟨rfl, rfl, rfl, rfl, (by first | rfl | exact ksub rfl (by first | omega | (simp; done) | (simp; omega))), trivial⟩ (fun _ s => s) ?_; rintro ⟨i, g⟩ ⟨hi, rst, hks⟩; dsimp only at hi rst hks ⊢; have hfs := shTo_fine (op := op) hfi (ss.take i); have hal := shTo_all (op := op) (s := sh0 ts) (ss := ss.take i); rw [show (sh0 ts).all.length = ts.length by simp [sh0], List.length_take] at hal; refine wp_sc (wp_sq (sq_v rfl (v_lss rfl rfl) rfl (sq_end (qs_n (wp_sc ?_))))); refine wp_cd rfl (fun c26 => ?_) (fun c26 => ?_)
      · refine wp_sk (qs_n (wp_sc (wp_bl (wp_sc (wp_sq ?_))))); obtain ⟨x27, hx27, hcs27⟩ := hc_rv (i) (by first | omega | (rw [List.length_set]; omega)); refine sq_v rfl (v_indexAddr Tryz.underlying41 ty_69 rfl rfl rr_rv (by decide) (by omega) (by first | omega | (rw [List.length_set]; omega))) rfl ?_; refine sq_v rfl (v_loadNE 2 ty_69 rfl rfl rr_rv (by have := rr_rv.1; omega) rfl hcs27) rfl ?_; refine sq_x rfl (x_alloc ty_69 rfl) rfl ?_; rintro _ _ ⟨b7, rfl, rfl⟩; refine sq_m 0 rfl rfl (m_store 0 ty_69 rfl rfl rfl rfl (by simp [Value.oneCell']) rfl (Nat.le_of_ble_eq_true rfl)) rfl ?_; rintro _ _ ⟨rfl, rfl⟩; refine sq_end (qs_n (wp_sc (wp_sq (sq_v rfl (v_move rfl) rfl (sq_v rfl (v_loadNB 0 ty_69 rfl rfl rfl rfl) rfl ?_))))); refine sq_m 1 rfl rfl (x_call rfl en_103 (fun w s => ct_L_follow arr op vo _ bb _ _ w _ (s.get 1 rfl) rst (r'.mono (s.getR 1 3 rfl rfl (by decide))) (fun i => by have := hfs.few i; omega) (by omega))) rfl ?_; rintro _ h31 ⟨rfl, rst'⟩; refine sq_v rfl (v_not rfl) rfl (sq_end (qs_n ?_)); refine wp_cn _ rfl (fun c32 => ?_) (fun c32 => ?_)
        · refine wp_sc (wp_sq (sq_v rfl (v_assign rfl) rfl (sq_end (qs_n (wp_rt (qs_br (qs_r (qs_r (qs_br (qs_r ?_)))))))))); exact qs_ret1 rfl rfl (fin_q (i := 3) rfl (orderB_no (fun h => okB_false.1 c32 (h.2.2 i (by omega) x27 hx27))))
        · refine wp_sk (qs_bn (qs_n (wp_sq ?_))); refine sq_v rfl (v_add rfl rfl ((by unfold I64; omega))) rfl ?_; refine sq_v rfl (v_move rfl) rfl (sq_end ?_); exact qs_bk (i + 1, h31) ⟨by (try dsimp only); omega, by (try dsimp only); rw [nextSh_yes c32] at rst'; rw [shTo_step hx27]; exact rst', step_all hks (fun x hx => by rw [hx27] at hx; cases hx; exact okB_true.1 c32)⟩ (by simp only; omega) ⟨rfl, rfl, rfl, rfl, (by first | rfl | exact ksub rfl (by first | omega | (simp; done) | (simp; omega))), trivial⟩ (fun _ s => s.pick [1, 2, 3] (by decide) rfl)
      · refine wp_ex (qs_x (qs_x (qs_bx (qs_n (wp_sc (wp_sq (sq_v rfl (v_assign rfl) rfl (sq_end (qs_n (wp_rt ?_)))))))))); exact qs_ret1 rfl rfl (fin_q (i := 2) rfl (orderB_yes ⟨hnet, by omega, fun j hj => hks j (by omega)⟩))
  · refine sq_v rfl (v_not rfl) rfl (sq_v rfl (v_move rfl) rfl (sq_s rfl rfl (sq_s rfl rfl (sq_s rfl rfl (sq_s rfl rfl (sq_s rfl rfl (sq_s rfl rfl (sq_s rfl rfl (sq_s rfl rfl ?_))))))))); refine sq_v rfl (v_pickt rfl rfl) rfl (sq_end (qs_n (wp_ct rfl (wp_sc (wp_sq (sq_v rfl (v_assign rfl) rfl (sq_end (qs_n (wp_rt (qs_r ?_)))))))))); exact qs_ret1 rfl rfl (fin_q (i := 1) rfl (orderB_no (fun h => netB_false.1 c9 h.1)))
theorem shTo_gone {op : List Int} {s : Sh} {ss : List Stp} (h : s.ok) : (shTo op s ss).gone.length = s.gone.length + ss.length := by
  induction ss generalizing s with
  | nil => simp [shTo]
  | cons x r ih =>
    have := ih (s := s.step op x.a.toNat x.b.toNat) (Sh.step_ok h _ _)
    show (shTo op (s.step op x.a.toNat x.b.toNat) r).gone.length = _
    rw [this]
    simp [Sh.step]; omega
theorem getD_appB {a b : List Bool} {i : Nat} (h : i < a.length) : (a ++ b).getD i false = a.getD i false := getD_append_left h
theorem set2_rep {G : List Bool} {a b m : Nat} (ha : a < G.length) (hb : b < G.length) : ((G ++ List.replicate (m + 1) false).set a true).set b true = ((G.set a true).set b true ++ [false]) ++ List.replicate m false := by
  rw [List.set_append_left _ _ ha, List.set_append_left _ _ (by rw [List.length_set]; exact hb), List.replicate_succ, List.append_assoc]; rfl
set_option maxHeartbeats 1000000 in
theorem ct_s_OrderOk (k p n : Int) (ts : List Ten) (op : List Int) (ss : List Stp) (vt vo v : Value) (w : World) (r : TensR ts vt (hp w)) (r' : IntsR op vo (hp w)) (rv : StepsR ss v (hp w)) (hs : op.length ≤ 1048576) (hss : ss.length ≤ 1048576) :
    Calls Tryz.prog 58 [netV k p n vt vo, v].toArray w (RetV w (.bool (orderB k p n ts op ss))) := by
  refine calls_in Tryz.func58 rfl Tryz.ntmps58 rfl (Sat.start w) ?_; have hle0 := r.le; obtain ⟨cs_r, rr_r, hc_r⟩ := r.at; have hle1 := r'.le; have hle2 := rv.le; obtain ⟨cs_rv, rr_rv, hc_rv⟩ := rv.at; refine wp_sc (wp_sq ?_); refine sq_x rfl (x_box rfl rfl) rfl ?_; rintro _ _ ⟨b2, rfl, rfl⟩; refine sq_v rfl (v_assign rfl) rfl (sq_end (qs_n (wp_sc (wp_sq (sq_v rfl (v_fieldAddr fd_39_1 ty_37 (by decide) rfl) rfl (sq_v rfl (v_loadB 0 ty_37 rfl rfl rfl) rfl (sq_v rfl (v_len Tryz.underlying37 rfl r.sl) rfl (sq_v rfl (v_assign rfl) rfl (sq_end (qs_n (wp_sc (wp_sc (wp_sq (sq_v rfl (v_loadNB 0 ty_39 rfl rfl rfl rfl) rfl (sq_u rfl (x_callv rfl en_91 (fun w s => ct_s_NetworkOk _ _ _ _ _ _ _ w (r.mono (s.get 1 rfl)) (r'.mono (s.get 1 rfl)) (by first | assumption | omega))) rfl ?_))))))))))))))); refine sq_bb 13 rfl (fun c13 => ?_) (fun c13 => ?_)
  · refine sq_v rfl (v_not rfl) rfl (sq_v rfl (v_move rfl) rfl (sq_v rfl (v_move rfl) rfl (sq_v rfl (v_len Tryz.underlying41 rfl rv.sl) rfl (sq_v rfl (v_move rfl) rfl ?_)))); refine sq_v rfl (v_sub rfl rfl ((by unfold I64; omega))) rfl ?_; refine sq_v rfl (v_max rfl rfl) rfl (sq_v rfl (v_neq rfl rfl) rfl (sq_v rfl (v_pickf rfl rfl) rfl (sq_end (qs_n ?_)))); refine wp_cd rfl (fun c22 => ?_) (fun c22 => ?_)
    · refine wp_sc (wp_sq (sq_v rfl (v_assign rfl) rfl (sq_end (qs_n (wp_rt (qs_r ?_)))))); exact qs_ret1 rfl rfl (fin_q (i := 1) rfl (orderB_no (fun h => by have := h.2.1; omega)))
    · refine wp_sk (qs_n (wp_sc (wp_sq (sq_v rfl (v_move rfl) rfl (sq_v rfl (v_move rfl) rfl (sq_v rfl (v_len Tryz.underlying41 rfl rv.sl) rfl ?_)))))); refine sq_v rfl (v_add rfl rfl ((by unfold I64; omega))) rfl ?_; have hnet := netB_true.1 c13; have h12 := hnet.2.1; refine sq_x rfl (x_makeBl Tryz.underlying116 ty_4 rfl rfl (by first | omega | (simp; omega) | (simp only [List.length_append, List.length_cons, List.length_nil]; omega) | (rw [List.length_set]; omega)) (by first | omega | (simp; omega) | (simp only [List.length_append, List.length_cons, List.length_nil]; omega) | (rw [List.length_set]; omega)) (by first | omega | (simp; omega) | (simp only [List.length_append, List.length_cons, List.length_nil]; omega) | (rw [List.length_set]; omega))) rfl ?_; intro v27 h27 r27; refine sq_v rfl (v_assign rfl) rfl (sq_end (qs_n (wp_sc (wp_sc (wp_sq (sq_v rfl (v_move rfl) rfl (sq_v rfl (v_len Tryz.underlying41 rfl rv.sl) rfl (sq_v rfl (v_move rfl) rfl (sq_end (qs_n (wp_bl ?_))))))))))); refine wp_lp (σ := Nat × (List Bool) × PH) (fun z_ => [(4, .bool false), (5, num ts.length), (6, v27), (28, v), (29, num ss.length), (30, num z_.1)]) (fun z_ => [z_.2.2, box b2 [num k, num p, num n, vt, vo] 39, hp w]) (fun z_ => z_.1 ≤ ss.length ∧ z_.2.1 = (shTo op (sh0 ts) (ss.take z_.1)).gone ++ List.replicate (ss.length - z_.1) false ∧ (∀ j, j < z_.1 → ∀ x, ss[j]? = some x → stepOk (shTo op (sh0 ts) (ss.take j)) x) ∧ BoolsO z_.2.1 v27 z_.2.2) (fun z_ => ss.length - z_.1) (0, List.replicate (ts.length + ss.length) false, h27) (⟨by (try dsimp only); omega, by (try dsimp only); simp [shTo, sh0, List.replicate_append_replicate], fun j hj => by omega, by (try dsimp only); rw [show ((ts.length : Int) + ss.length).toNat = ts.length + ss.length by omega] at r27; exact r27⟩) ⟨rfl, rfl, rfl, rfl, rfl, (by first | rfl | exact ksub rfl (by first | omega | (simp; done) | (simp; omega))), trivial⟩ (fun _ s => s) ?_; rintro ⟨i, us, g⟩ ⟨hi, hus, hks, q⟩; dsimp only at hi hus hks q ⊢; have hle_q := q.toR.le; have hgl := shTo_gone (op := op) (ss := ss.take i) (sh0_ok ts); have hal := shTo_all (op := op) (s := sh0 ts) (ss := ss.take i); rw [show (sh0 ts).all.length = ts.length by simp [sh0], List.length_take] at hal; rw [show (sh0 ts).gone.length = ts.length by simp [sh0], List.length_take] at hgl; have hul : us.length = ts.length + ss.length := by rw [hus, List.length_append, hgl, List.length_replicate]; omega
      have hug : ∀ z : Nat, z < ts.length + i → us.getD z false = (shTo op (sh0 ts) (ss.take i)).gone.getD z false := fun z hz => by rw [hus, getD_appB (by omega)]
      refine wp_sc (wp_sq (sq_v rfl (v_lss rfl rfl) rfl (sq_end (qs_n (wp_sc ?_))))); refine wp_cd rfl (fun c31 => ?_) (fun c31 => ?_)
      · refine wp_sk (qs_n (wp_sc (wp_bl (wp_sc (wp_sq (sq_v rfl (v_move rfl) rfl ?_)))))); obtain ⟨x33, hx33, hcs33⟩ := hc_rv (i) (by first | omega | (rw [List.length_set]; omega)); refine sq_v rfl (v_indexAddr Tryz.underlying41 ty_69 rfl rfl rr_rv (by decide) (by omega) (by first | omega | (rw [List.length_set]; omega))) rfl ?_; refine sq_v rfl (v_loadNE 2 ty_69 rfl rfl rr_rv (by have := rr_rv.1; omega) rfl hcs33) rfl ?_; refine sq_x rfl (x_alloc ty_69 rfl) rfl ?_; rintro _ _ ⟨b8, rfl, rfl⟩; refine sq_v rfl (v_assign rfl) rfl ?_; refine sq_m 0 rfl rfl (m_store 0 ty_69 rfl rfl rfl rfl (by simp [Value.oneCell']) rfl (Nat.le_of_ble_eq_true rfl)) rfl ?_; rintro _ _ ⟨rfl, rfl⟩; refine sq_end (qs_n (wp_sc (wp_sc (wp_sq (sq_v rfl (v_fieldAddr fd_69_0 ty_3 (by decide) rfl) rfl (sq_v rfl (v_loadB 0 ty_3 rfl rfl rfl) rfl (sq_v rfl (v_lss rfl rfl) rfl ?_))))))); refine sq_bd 37 rfl (fun c37 => ?_) (fun c37 => ?_)
        · refine sq_v rfl (v_move rfl) rfl (sq_s rfl rfl (sq_s rfl rfl (sq_s rfl rfl (sq_s rfl rfl (sq_s rfl rfl (sq_v rfl (v_pickt rfl rfl) rfl (sq_v rfl (v_move rfl) rfl (sq_s rfl rfl (sq_s rfl rfl ?_))))))))); refine sq_s rfl rfl (sq_s rfl rfl (sq_s rfl rfl (sq_s rfl rfl (sq_v rfl (v_pickt rfl rfl) rfl (sq_v rfl (v_move rfl) rfl (sq_s rfl rfl (sq_s rfl rfl (sq_s rfl rfl (sq_s rfl rfl ?_))))))))); refine sq_s rfl rfl (sq_v rfl (v_pickt rfl rfl) rfl (sq_v rfl (v_move rfl) rfl (sq_s rfl rfl (sq_s rfl rfl (sq_s rfl rfl (sq_s rfl rfl (sq_s rfl rfl (sq_v rfl (v_pickt rfl rfl) rfl (sq_end (qs_n (wp_ct rfl (wp_sc (wp_sq ?_))))))))))))); refine sq_v rfl (v_assign rfl) rfl (sq_end (qs_n (wp_rt (qs_r (qs_br (qs_r (qs_r (qs_br (qs_r ?_))))))))); exact qs_ret1 rfl rfl (fin_q (i := 3) rfl (orderB_no (fun h => by have := (h.2.2 i (by omega) x33 hx33).1.1; omega)))
        · refine sq_v rfl (v_move rfl) rfl (sq_v rfl (v_fieldAddr fd_69_0 ty_3 (by decide) rfl) rfl (sq_v rfl (v_loadB 0 ty_3 rfl rfl rfl) rfl (sq_v rfl (v_fieldAddr fd_69_1 ty_3 (by decide) rfl) rfl (sq_v rfl (v_loadB 0 ty_3 rfl rfl rfl) rfl (sq_v rfl (v_geq rfl rfl) rfl (sq_v rfl (v_pickf rfl rfl) rfl ?_)))))); refine sq_bd 44 rfl (fun c44 => ?_) (fun c44 => ?_)
          · refine sq_v rfl (v_move rfl) rfl (sq_s rfl rfl (sq_s rfl rfl (sq_s rfl rfl (sq_s rfl rfl (sq_s rfl rfl (sq_s rfl rfl (sq_v rfl (v_pickt rfl rfl) rfl (sq_v rfl (v_move rfl) rfl (sq_s rfl rfl ?_))))))))); refine sq_s rfl rfl (sq_s rfl rfl (sq_s rfl rfl (sq_s rfl rfl (sq_v rfl (v_pickt rfl rfl) rfl (sq_v rfl (v_move rfl) rfl (sq_s rfl rfl (sq_s rfl rfl (sq_s rfl rfl (sq_s rfl rfl ?_))))))))); refine sq_s rfl rfl (sq_v rfl (v_pickt rfl rfl) rfl (sq_end (qs_n (wp_ct rfl (wp_sc (wp_sq (sq_v rfl (v_assign rfl) rfl (sq_end (qs_n (wp_rt (qs_r (qs_br (qs_r (qs_r (qs_br (qs_r ?_)))))))))))))))); exact qs_ret1 rfl rfl (fin_q (i := 3) rfl (orderB_no (fun h => by have := (h.2.2 i (by omega) x33 hx33).2.2; omega)))
          · refine sq_v rfl (v_move rfl) rfl (sq_v rfl (v_fieldAddr fd_69_1 ty_3 (by decide) rfl) rfl (sq_v rfl (v_loadB 0 ty_3 rfl rfl rfl) rfl (sq_v rfl (v_move rfl) rfl (sq_v rfl (v_move rfl) rfl ?_)))); refine sq_v rfl (v_add rfl rfl ((by unfold I64; omega))) rfl ?_; refine sq_v rfl (v_geq rfl rfl) rfl (sq_v rfl (v_pickf rfl rfl) rfl ?_); refine sq_bd 52 rfl (fun c52 => ?_) (fun c52 => ?_)
            · refine sq_v rfl (v_move rfl) rfl (sq_s rfl rfl (sq_s rfl rfl (sq_s rfl rfl (sq_s rfl rfl (sq_s rfl rfl (sq_v rfl (v_pickt rfl rfl) rfl (sq_v rfl (v_move rfl) rfl (sq_s rfl rfl (sq_s rfl rfl ?_))))))))); refine sq_s rfl rfl (sq_s rfl rfl (sq_s rfl rfl (sq_v rfl (v_pickt rfl rfl) rfl (sq_end (qs_n (wp_ct rfl (wp_sc (wp_sq (sq_v rfl (v_assign rfl) rfl (sq_end (qs_n (wp_rt (qs_r (qs_br (qs_r (qs_r (qs_br (qs_r ?_)))))))))))))))))); exact qs_ret1 rfl rfl (fin_q (i := 3) rfl (orderB_no (fun h => by have := (h.2.2 i (by omega) x33 hx33).2.1.2.1; omega)))
            · refine sq_v rfl (v_move rfl) rfl (sq_v rfl (v_move rfl) rfl (sq_v rfl (v_fieldAddr fd_69_0 ty_3 (by decide) rfl) rfl (sq_v rfl (v_loadB 0 ty_3 rfl rfl rfl) rfl ?_))); refine sq_v rfl (v_idxB Tryz.underlying116 ty_4 rfl rfl q.toR (by first | omega | (simp; omega) | (simp only [List.length_append, List.length_cons, List.length_nil]; omega) | (rw [List.length_set]; omega)) (by first | omega | (simp; omega) | (simp only [List.length_append, List.length_cons, List.length_nil]; omega) | (rw [List.length_set]; omega))) rfl ?_; refine sq_v rfl (v_loadBl  1 ty_4 rfl rfl q.toR (by first | omega | (simp; omega) | (simp only [List.length_append, List.length_cons, List.length_nil]; omega) | (rw [List.length_set]; omega))) rfl ?_; refine sq_v rfl (v_pickf rfl rfl) rfl ?_; refine sq_bb 59 rfl (fun c59 => ?_) (fun c59 => ?_)
              · refine sq_v rfl (v_move rfl) rfl (sq_s rfl rfl (sq_s rfl rfl (sq_s rfl rfl (sq_s rfl rfl (sq_s rfl rfl (sq_v rfl (v_pickt rfl rfl) rfl (sq_end (qs_n (wp_ct rfl (wp_sc (wp_sq (sq_v rfl (v_assign rfl) rfl (sq_end (qs_n (wp_rt (qs_r (qs_br (qs_r (qs_r (qs_br (qs_r ?_))))))))))))))))))))); exact qs_ret1 rfl rfl (fin_q (i := 3) rfl (orderB_no (fun h => by have := (h.2.2 i (by omega) x33 hx33).1.2.2; rw [← hug _ (by omega), c59] at this; cases this)))
              · refine sq_v rfl (v_move rfl) rfl (sq_v rfl (v_move rfl) rfl (sq_v rfl (v_fieldAddr fd_69_1 ty_3 (by decide) rfl) rfl (sq_v rfl (v_loadB 0 ty_3 rfl rfl rfl) rfl ?_))); refine sq_v rfl (v_idxB Tryz.underlying116 ty_4 rfl rfl q.toR (by first | omega | (simp; omega) | (simp only [List.length_append, List.length_cons, List.length_nil]; omega) | (rw [List.length_set]; omega)) (by first | omega | (simp; omega) | (simp only [List.length_append, List.length_cons, List.length_nil]; omega) | (rw [List.length_set]; omega))) rfl ?_; refine sq_v rfl (v_loadBl  1 ty_4 rfl rfl q.toR (by first | omega | (simp; omega) | (simp only [List.length_append, List.length_cons, List.length_nil]; omega) | (rw [List.length_set]; omega))) rfl ?_; refine sq_v rfl (v_pickf rfl rfl) rfl (sq_end (qs_n ?_)); refine wp_cb _ rfl (fun c66 => ?_) (fun c66 => ?_)
                · refine wp_sc (wp_sq (sq_v rfl (v_assign rfl) rfl (sq_end (qs_n (wp_rt (qs_r (qs_br (qs_r (qs_r (qs_br (qs_r ?_))))))))))); exact qs_ret1 rfl rfl (fin_q (i := 3) rfl (orderB_no (fun h => by have := (h.2.2 i (by omega) x33 hx33).2.1.2.2; rw [← hug _ (by omega), c66] at this; cases this)))
                · refine wp_sk (qs_n (wp_sc (wp_sq (sq_v rfl (v_move rfl) rfl (sq_v rfl (v_fieldAddr fd_69_0 ty_3 (by decide) rfl) rfl (sq_v rfl (v_loadB 0 ty_3 rfl rfl rfl) rfl ?_)))))); refine sq_v rfl (v_idxB Tryz.underlying116 ty_4 rfl rfl q.toR (by first | omega | (simp; omega) | (simp only [List.length_append, List.length_cons, List.length_nil]; omega) | (rw [List.length_set]; omega)) (by first | omega | (simp; omega) | (simp only [List.length_append, List.length_cons, List.length_nil]; omega) | (rw [List.length_set]; omega))) rfl ?_; refine sq_m 1 rfl rfl (m_storeBl 1 ty_4 rfl rfl rfl q (by first | omega | (simp; omega) | (simp only [List.length_append, List.length_cons, List.length_nil]; omega) | (rw [List.length_set]; omega))) rfl ?_; rintro _ h_q10_4 ⟨rfl, q10_4⟩; refine sq_end (qs_n (wp_sq (sq_v rfl (v_move rfl) rfl (sq_v rfl (v_fieldAddr fd_69_1 ty_3 (by decide) rfl) rfl (sq_v rfl (v_loadB 0 ty_3 rfl rfl rfl) rfl ?_))))); refine sq_v rfl (v_idxB Tryz.underlying116 ty_4 rfl rfl q10_4.toR (by first | omega | (simp; omega) | (simp only [List.length_append, List.length_cons, List.length_nil]; omega) | (rw [List.length_set]; omega)) (by first | omega | (simp; omega) | (simp only [List.length_append, List.length_cons, List.length_nil]; omega) | (rw [List.length_set]; omega))) rfl ?_; refine sq_m 1 rfl rfl (m_storeBl 1 ty_4 rfl rfl rfl q10_4 (by first | omega | (simp; omega) | (simp only [List.length_append, List.length_cons, List.length_nil]; omega) | (rw [List.length_set]; omega))) rfl ?_; rintro _ h_q11_4 ⟨rfl, q11_4⟩; refine sq_end (qs_bn (qs_n (wp_sq ?_))); refine sq_v rfl (v_add rfl rfl ((by unfold I64; omega))) rfl ?_; refine sq_v rfl (v_move rfl) rfl (sq_end ?_); exact qs_bk (i + 1, _, h_q11_4) ⟨by (try dsimp only); omega, by (try dsimp only); rw [hus, show ss.length - i = (ss.length - (i + 1)) + 1 by omega, set2_rep (by omega) (by omega), shTo_step hx33]; rfl, step_all hks (fun x hx => by rw [hx33] at hx; cases hx; exact ⟨⟨by omega, by omega, by rw [← hug _ (by omega)]; exact c59⟩, ⟨by omega, by omega, by rw [← hug _ (by omega)]; exact c66⟩, by omega⟩), q11_4⟩ (by simp only; omega) ⟨rfl, rfl, rfl, rfl, rfl, (by first | rfl | exact ksub rfl (by first | omega | (simp; done) | (simp; omega))), trivial⟩ (fun _ s => s.pick [1, 2, 3] (by decide) rfl)
      · refine wp_ex (qs_x (qs_x (qs_bx (qs_n (wp_sc (wp_sq (sq_v rfl (v_assign rfl) rfl (sq_end (qs_n (wp_rt ?_)))))))))); exact qs_ret1 rfl rfl (fin_q (i := 2) rfl (orderB_yes ⟨hnet, by omega, fun j hj => hks j (by omega)⟩))
  · refine sq_v rfl (v_not rfl) rfl (sq_v rfl (v_move rfl) rfl (sq_s rfl rfl (sq_s rfl rfl (sq_s rfl rfl (sq_s rfl rfl (sq_s rfl rfl (sq_s rfl rfl (sq_v rfl (v_pickt rfl rfl) rfl (sq_end (qs_n (wp_ct rfl (wp_sc (wp_sq ?_))))))))))))); refine sq_v rfl (v_assign rfl) rfl (sq_end (qs_n (wp_rt (qs_r ?_)))); exact qs_ret1 rfl rfl (fin_q (i := 1) rfl (orderB_no (fun h => netB_false.1 c13 h.1)))
end Go.Proofs.YtiefkcaplhnnmaaGreatDoor
namespace Go.Proofs.YtiefkcaplhnnmaaGreatDoor
set_option maxRecDepth 100000
open Go.RowKit
/-- Of the numbers ds those whose label fits p. -/
def selP (p : Int → Bool) : List Int → List Int → List Int
  | l :: ls, d :: ds => if p l then d :: selP p ls ds else selP p ls ds
  | _, _ => []
theorem selP_map (p : Int → Bool) (f : Int → Int) : ∀ ls : List Int, selP p ls (ls.map f) = (ls.filter p).map f
  | [] => rfl
  | l :: ls => by
    have ih := selP_map p f ls; simp only [List.map_cons, selP, List.filter_cons, ih]
    split <;> simp
def joinD (a b : Ten) : List Int := a.d ++ selP (fun x => decide (x ∉ a.l)) b.l b.d
/-- A label of both has two dimensions. -/
def mism (a b : Ten) : Prop := ∃ i, i < b.l.length ∧ b.l.getD i 0 ∈ a.l ∧ a.d.getD (findI a.l (b.l.getD i 0)).toNat 0 ≠ b.d.getD i 0
theorem nodup_not_take {xs : List Int} (h : xs.Nodup) {i : Nat} (hi : i < xs.length) : xs.getD i 0 ∉ xs.take i := by
  intro hm; obtain ⟨j, hj, e⟩ := getD_of_mem hm; simp only [List.length_take] at hj; have e2 : (xs.take i).getD j 0 = xs.getD j 0 := by simp only [List.getD, List.getElem?_take]; rw [if_pos (by omega)]
  rw [e2] at e; have h1 : j < xs.length := by omega
  simp only [List.getD, List.getElem?_eq_getElem h1, List.getElem?_eq_getElem hi, Option.getD_some] at e; have := (List.getElem_inj h).1 e
  omega
theorem joinD_map {t u : Ten} {f : Int → Int} (ht : t.d = t.l.map f) (hu : u.d = u.l.map f) : joinD t u = (joinI t.l u.l).map f := by
  rw [joinD, ht, hu, selP_map, joinI, List.map_append]
end Go.Proofs.YtiefkcaplhnnmaaGreatDoor
namespace Go.Proofs.YtiefkcaplhnnmaaGreatDoor
set_option maxRecDepth 100000
open Go.RowKit
def TensL (ts : List Ten) (cs : List Value) (h : PH) : Prop := cs.length = ts.length * 3 ∧ ∀ (i : Nat) (t : Ten), ts[i]? = some t → TenR t ((cs.drop (i * 3)).take 3) h
theorem TensL.nil (h : PH) : TensL [] [] h := ⟨rfl, fun i x e => by simp at e⟩
theorem TensL.mono {ts : List Ten} {cs : List Value} {h h' : PH} (r : TensL ts cs h) (l : PLe h h') : TensL ts cs h' := ⟨r.1, fun i x e => (r.2 i x e).mono l⟩
theorem TensL.snoc {ts : List Ten} {cs : List Value} {h : PH} (r : TensL ts cs h) {t : Ten} {a b c : Value} (r1 : IntsR t.l a h) (r2 : IntsR t.d b h) (r3 : IntsR t.x c h) : TensL (ts ++ [t]) (cs ++ [a, b, c]) h := by
  refine ⟨by simp [r.1]; omega, fun i y e => ?_⟩
  by_cases hi : i < ts.length
  · rw [List.getElem?_append_left hi] at e; have := r.2 i y e; have e2 : ((cs ++ [a, b, c]).drop (i * 3)).take 3 = (cs.drop (i * 3)).take 3 := by
      rw [List.drop_append, List.take_append]; have hl : 3 - (cs.drop (i * 3)).length = 0 := by simp [r.1]; omega
      rw [hl, List.take_zero, List.append_nil]
    rw [e2]; exact this
  · have hlt := (List.getElem?_eq_some_iff.1 e).1
    simp at hlt
    have : i = ts.length := by omega
    subst this; rw [List.getElem?_append_right (by omega)] at e
    simp at e
    subst e; have e2 : ((cs ++ [a, b, c]).drop (ts.length * 3)).take 3 = [a, b, c] := by
      rw [← r.1, List.drop_left]; rfl
    rw [e2]; exact ⟨a, b, c, rfl, r1, r2, r3⟩
theorem TensL.tens {ts : List Ten} {cs : List Value} {v : Value} {h : PH} (r : TensL ts cs h) (rr : RowR cs ts.length 3 v h) : TensR ts v h := ⟨cs, rr, r.2⟩
theorem PDj.rest {w : World} {h hs : PH} (l : PLe hs h) : PDj hs (restP w h) := fun k => by
  cases e : hs k with
  | none => exact .inl rfl
  | some o => right; simp [restP, l k o e]
theorem Sat.join {w0 w : World} {HS : List PH} {a b : PH} (s : Sat w0 (a :: b :: HS) w) : Sat w0 (PUn a b :: HS) w := s.merge
end Go.Proofs.YtiefkcaplhnnmaaGreatDoor
namespace Go.Proofs.YtiefkcaplhnnmaaGreatDoor
set_option maxRecDepth 100000
open Go.RowKit
/-- The world's heap once more. -/
theorem Sat.whole {w0 w : World} {HS : List PH} {q : PH} (lq : PLe q (hp w0)) (s : Sat w0 (q :: restP w0 q :: HS) w) : Sat w0 (HS ++ [hp w0]) w := by
  have l : PLe (hp w0) (PUn q (restP w0 q)) := fun k o e => by
    unfold PUn restP
    cases hq : q k with
    | none => simp [e]
    | some o' => have := lq k o' hq; rw [e] at this; simp [this]
  have s1 := Sat.less (i := 0) s.merge rfl l; exact Sat.comm (A := [hp w0]) (B := HS) s1
theorem net_dmap {k p n : Int} {ts : List Ten} {op : List Int} (h : netL k p n ts op) : ∀ t ∈ ts, t.d = t.l.map (dimOf ts) := fun t ht => by
  have hax := net_axes h t ht; refine ext_getD (by rw [List.length_map, hax.2.1]) fun j hj => ?_; have hj' : j < t.l.length := by rw [hax.2.1]; exact hj
  rw [map_getD hj', net_dim h ht (mem_getD hj'), find_at hax hj', Int.toNat_natCast]
end Go.Proofs.YtiefkcaplhnnmaaGreatDoor
namespace Go.Proofs.YtiefkcaplhnnmaaGreatDoor
set_option maxRecDepth 100000
open Go.RowKit
theorem stepOk_at {op : List Int} {s : Sh} {ss : List Stp} (h : okSteps op s ss) {i : Nat} {x : Stp} (hx : ss[i]? = some x) : stepOk (shTo op s (ss.take i)) x := h i (List.getElem?_eq_some_iff.1 hx).1 x hx
theorem stepCells_take : ∀ (ss : List Stp) (n : Nat), stepCells (ss.take n) = (stepCells ss).take (n * 2)
  | [], n => by simp [stepCells]
  | s :: r, 0 => by simp [stepCells]
  | s :: r, n + 1 => by
    have := stepCells_take r n; rw [List.take_succ_cons, show (n + 1) * 2 = n * 2 + 1 + 1 by omega]
    show [num s.a, num s.b] ++ stepCells (r.take n) = ([num s.a, num s.b] ++ stepCells r).take (n * 2 + 1 + 1)
    rw [this]; rfl
theorem StepsR.subH {ss : List Stp} {v : Value} {h : PH} (r : StepsR ss v h) {hi : Nat} (h2 : hi ≤ ss.length) : StepsR (ss.take hi) (subV v 0 hi 2) h := by
  have := RowR.sub r (Nat.zero_le hi) h2
  unfold StepsR
  rw [stepCells_take, List.length_take, Nat.min_eq_left h2]
  simpa using this
end Go.Proofs.YtiefkcaplhnnmaaGreatDoor
namespace Go.Proofs.YtiefkcaplhnnmaaGreatDoor
set_option maxRecDepth 100000
open Go.RowKit
theorem StepsR.atS {ss : List Stp} {v : Value} {h : PH} (_ : StepsR ss v h) : ∀ i, i < ss.length → ∃ x, ss[i]? = some x ∧ ((stepCells ss).drop (i * 2)).take 2 = [num x.a, num x.b] :=
  fun _ hi => ⟨_, List.getElem?_eq_getElem hi, stepCells_at (List.getElem?_eq_getElem hi)⟩
theorem stepCells_mid {A B : List Stp} {x : Stp} {i : Nat} (h : A.length = i) : stepCells (A ++ x :: B) = stepCells A ++ [num x.a] ++ ([num x.b] ++ stepCells B) ∧ (stepCells A).length = i * 2 := by
  refine ⟨?_, by rw [stepCells_len, h]⟩; rw [stepCells_append]
  simp [stepCells]
theorem stp_split {ss : List Stp} {i : Nat} (h : i < ss.length) : ss = ss.take i ++ ss.getD i ⟨0, 0⟩ :: ss.drop (i + 1) ∧ (ss.take i).length = i := by
  refine ⟨?_, by simp; omega⟩
  conv => lhs; rw [← List.take_append_drop i ss, List.drop_eq_getElem_cons h]
  simp [List.getD, h]
theorem stp_set {ss : List Stp} {i : Nat} (h : i < ss.length) (y : Stp) : ss.set i y = ss.take i ++ y :: ss.drop (i + 1) := by
  rw [List.set_eq_take_append_cons_drop, if_pos h]
theorem cells_setA {ss : List Stp} {i : Nat} (h : i < ss.length) (a : Int) : (stepCells ss).take (i * 2) ++ [num a] ++ (stepCells ss).drop (i * 2 + 1) = stepCells (ss.set i ⟨a, (ss.getD i ⟨0, 0⟩).b⟩) := by
  obtain ⟨e, hl⟩ := stp_split h; rw [stp_set h]; obtain ⟨e1, h1⟩ := stepCells_mid (B := ss.drop (i + 1)) (x := ss.getD i ⟨0, 0⟩) hl; obtain ⟨e2, h2⟩ := stepCells_mid (B := ss.drop (i + 1)) (x := (⟨a, (ss.getD i ⟨0, 0⟩).b⟩ : Stp)) hl; rw [e2]
  conv => lhs; rw [e]
  rw [e1, ← h1, List.append_assoc (stepCells (ss.take i)), List.take_left, ← List.append_assoc (stepCells (ss.take i)) [num _], List.drop_append]
  simp [List.drop_of_length_le]
theorem cells_setB {ss : List Stp} {i : Nat} (h : i < ss.length) (b : Int) : (stepCells ss).take (i * 2 + 1) ++ [num b] ++ (stepCells ss).drop (i * 2 + 2) = stepCells (ss.set i ⟨(ss.getD i ⟨0, 0⟩).a, b⟩) := by
  obtain ⟨e, hl⟩ := stp_split h; rw [stp_set h]; obtain ⟨e1, h1⟩ := stepCells_mid (B := ss.drop (i + 1)) (x := ss.getD i ⟨0, 0⟩) hl; obtain ⟨e2, h2⟩ := stepCells_mid (B := ss.drop (i + 1)) (x := (⟨(ss.getD i ⟨0, 0⟩).a, b⟩ : Stp)) hl; rw [e2]
  conv => lhs; rw [e]
  have hA : (stepCells (ss.take i) ++ [num (ss.getD i ⟨0, 0⟩).a]).length = i * 2 + 1 := by simp [h1]
  rw [e1, ← hA, List.take_left]; have : (stepCells (ss.take i) ++ [num (ss.getD i ⟨0, 0⟩).a] ++ ([num (ss.getD i ⟨0, 0⟩).b] ++ stepCells (ss.drop (i + 1)))).drop (i * 2 + 2) = stepCells (ss.drop (i + 1)) := by
    rw [← List.append_assoc, ← show ((stepCells (ss.take i) ++ [num (ss.getD i ⟨0, 0⟩).a]) ++ [num (ss.getD i ⟨0, 0⟩).b]).length = i * 2 + 2 by simp [h1], List.drop_left]
  rw [this]
  simp
section
variable {P : Program} {n : Nat} {w0 : World} {K : Env} {HS : List PH} {d : Option Tmp} {ty : TypeId} {ps : String} {af : Array Edge} {g : Option (Nat × Bool)}
theorem m_storeSa {t : TypeId} {x y : Operand} {z : Value} {bytes i : Nat} {sv : Value} {a : Int} {ss : List Stp} {h : PH} (p : Nat) (ht : TyF P t z 1 bytes false) (hx : ev K x = some (eltP sv (i * 2 + 0))) (hy : ev K y = some (num a))
    (hp' : HS[p]? = some h) (r : StepsO ss sv h) (hi : i < ss.length) :
    StepX P n w0 K HS ⟨d, .store t x y, ty, ps, af, g⟩ h (fun v' h' => v' = undef ∧ StepsO (ss.set i ⟨a, (ss.getD i ⟨0, 0⟩).b⟩) sv h') := by
  have := m_storeE (P := P) (n := n) (w0 := w0) (d := d) (ty := ty) (ps := ps) (af := af) (g := g) p ht hx hy (us := [num a]) rfl rfl (by simp [Value.oneCell']) hp' r (by decide) (by rw [stepCells_len]; omega); rw [Nat.add_zero, cells_setA hi] at this
  unfold StepsO
  rw [List.length_set]; exact this
theorem m_storeSb {t : TypeId} {x y : Operand} {z : Value} {bytes i : Nat} {sv : Value} {b : Int} {ss : List Stp} {h : PH} (p : Nat) (ht : TyF P t z 1 bytes false) (hx : ev K x = some (eltP sv (i * 2 + 1))) (hy : ev K y = some (num b))
    (hp' : HS[p]? = some h) (r : StepsO ss sv h) (hi : i < ss.length) :
    StepX P n w0 K HS ⟨d, .store t x y, ty, ps, af, g⟩ h (fun v' h' => v' = undef ∧ StepsO (ss.set i ⟨(ss.getD i ⟨0, 0⟩).a, b⟩) sv h') := by
  have := m_storeE (P := P) (n := n) (w0 := w0) (d := d) (ty := ty) (ps := ps) (af := af) (g := g) p ht hx hy (us := [num b]) rfl rfl (by simp [Value.oneCell']) hp' r (by decide) (by rw [stepCells_len]; omega); rw [show i * 2 + 1 + 1 = i * 2 + 2 by omega, cells_setB hi] at this
  unfold StepsO
  rw [List.length_set]; exact this
end
theorem ct_l_eqStep (a b : Int) (w : World) : Calls Tryz.prog 79 [stepV a b, stepV a b].toArray w (RetV w (.bool true)) := by
  refine calls_in Tryz.func79 rfl Tryz.ntmps79 rfl (Sat.start w) (wp_sc (wp_sq ?_)); refine sq_x rfl (x_box rfl rfl) rfl ?_; rintro _ _ ⟨b2, rfl, rfl⟩; refine sq_x rfl (x_box rfl rfl) rfl ?_; rintro _ _ ⟨b3, rfl, rfl⟩; refine sq_v rfl (v_assign rfl) rfl (sq_end (qs_n (wp_sc (wp_sc (wp_sq (sq_v rfl (v_fieldAddr fd_69_0 ty_3 (by decide) rfl) rfl (sq_v rfl (v_loadB 1 ty_3 rfl rfl rfl) rfl (sq_v rfl (v_fieldAddr fd_69_0 ty_3 (by decide) rfl) rfl (sq_v rfl (v_loadB 0 ty_3 rfl rfl rfl) rfl (sq_v rfl (v_neqs rfl rfl) rfl (sq_end (qs_n (wp_cf rfl (wp_sk (qs_n (wp_sc (wp_sc (wp_sq (sq_v rfl (v_fieldAddr fd_69_1 ty_3 (by decide) rfl) rfl (sq_v rfl (v_loadB 1 ty_3 rfl rfl rfl) rfl (sq_v rfl (v_fieldAddr fd_69_1 ty_3 (by decide) rfl) rfl ?_))))))))))))))))))))); refine sq_v rfl (v_loadB 0 ty_3 rfl rfl rfl) rfl (sq_v rfl (v_neqs rfl rfl) rfl (sq_end (qs_n (wp_cf rfl (wp_sk (qs_n (wp_sc (wp_sq (sq_v rfl (v_assign rfl) rfl (sq_end (qs_n (wp_rt ?_)))))))))))); exact qs_ret1 rfl rfl (fin_v (i := 2) rfl)
theorem ct_l_eqStepS (ss : List Stp) (v u : Value) (w : World) (r : StepsR ss v (hp w)) (r' : StepsR ss u (hp w)) : Calls Tryz.prog 40 [v, u].toArray w (RetV w (.bool true)) := by
  refine calls_in Tryz.func40 rfl Tryz.ntmps40 rfl (Sat.start w) ?_; have hle0 := r.le; obtain ⟨cs_r, rr_r, hc_r⟩ := r.at; have hle1 := r'.le; obtain ⟨cs_r_, rr_r_, hc_r_⟩ := r'.at; refine wp_sc (wp_sq (sq_v rfl (v_assign rfl) rfl (sq_end (qs_n (wp_sc (wp_sc (wp_sq (sq_v rfl (v_move rfl) rfl (sq_v rfl (v_len Tryz.underlying41 rfl r.sl) rfl (sq_v rfl (v_move rfl) rfl (sq_v rfl (v_len Tryz.underlying41 rfl r'.sl) rfl (sq_v rfl (v_neqs rfl rfl) rfl (sq_end (qs_n (wp_cf rfl (wp_sk (qs_n (wp_sc (wp_sc (wp_sq (sq_v rfl (v_assign rfl) rfl (sq_end (qs_n (wp_bl ?_)))))))))))))))))))))))); refine wp_lp (σ := Nat) (fun z_ => [(0, v), (1, u), (4, .bool false), (5, num z_)]) (fun z_ => [hp w]) (fun z_ => z_ ≤ ss.length) (fun z_ => ss.length - z_) 0 (by omega) ⟨rfl, rfl, rfl, (by first | rfl | exact ksub rfl (by first | omega | (simp; done) | (simp; omega))), trivial⟩ (fun _ s => s) ?_; rintro i hi; refine wp_sc (wp_sc (wp_sq (sq_v rfl (v_move rfl) rfl (sq_v rfl (v_move rfl) rfl (sq_v rfl (v_len Tryz.underlying41 rfl r.sl) rfl (sq_v rfl (v_lss rfl rfl) rfl (sq_end (qs_n ?_)))))))); refine wp_cd rfl (fun c14 => ?_) (fun c14 => ?_)
  · refine wp_sk (qs_n (wp_sc (wp_bl (wp_sc (wp_rj 10 [(0, true), (1, true), (2, true), (3, true), (4, true), (5, true), (6, true), (7, true), (8, false), (9, true)] mixed_ok (by kernel_rfl) (rj_v rfl rfl (v_move rfl) rfl (rj_v rfl rfl (v_move rfl) rfl ?_))))))); obtain ⟨x19, hx19, hcs19⟩ := hc_r (i) (by first | omega | (rw [List.length_set]; omega)); refine rj_v rfl rfl (v_indexAddr Tryz.underlying41 ty_69 rfl rfl rr_r (by decide) (by omega) (by first | omega | (rw [List.length_set]; omega))) rfl ?_; refine rj_v rfl rfl (v_loadNE 0 ty_69 rfl rfl rr_r (by have := rr_r.1; omega) rfl hcs19) rfl ?_; refine rj_v rfl rfl (v_move rfl) rfl (rj_v rfl rfl (v_move rfl) rfl ?_); obtain ⟨x23, hx23, hcs23⟩ := hc_r_ (i) (by first | omega | (rw [List.length_set]; omega)); refine rj_v rfl rfl (v_indexAddr Tryz.underlying41 ty_69 rfl rfl rr_r_ (by decide) (by omega) (by first | omega | (rw [List.length_set]; omega))) rfl ?_; refine rj_v rfl rfl (v_loadNE 0 ty_69 rfl rfl rr_r_ (by have := rr_r_.1; omega) rfl hcs23) rfl ?_; obtain rfl : x19 = x23 := (by rw [hx19] at hx23; exact Option.some.inj hx23)
    refine rj_u rfl rfl (x_callv rfl en_79 (fun w s => ct_l_eqStep _ _ w)) rfl (rj_v rfl rfl (v_not rfl) rfl (rj_end (qs_n (wp_cf rfl (wp_sk (qs_bn (qs_n (wp_sq (sq_v rfl (v_move rfl) rfl ?_))))))))); refine sq_v rfl (v_add rfl rfl ((by unfold I64; omega))) rfl ?_; refine sq_v rfl (v_assign rfl) rfl (sq_end ?_); exact qs_bk (i + 1) (by omega) (by omega) ⟨rfl, rfl, rfl, (by first | rfl | exact ksub rfl (by first | omega | (simp; done) | (simp; omega))), trivial⟩ (fun _ s => s)
  · refine wp_ex (qs_x (qs_x (qs_bx (qs_n (wp_sc (wp_sq (sq_v rfl (v_assign rfl) rfl (sq_end (qs_n (wp_rt ?_)))))))))); exact qs_ret1 rfl rfl (fin_v (i := 0) rfl)
def marksS (k : Int) (m : Nat) : List Stp := (List.range m).map fun (i : Nat) => ⟨k + 2 * i, k + 2 * i + 1⟩
theorem marksS_len (k : Int) (m : Nat) : (marksS k m).length = m := by simp [marksS]
theorem marksS_step (k : Int) (m : Nat) : marksS k (m + 1) = marksS k m ++ [⟨k + 2 * m, k + 2 * m + 1⟩] := by simp [marksS, List.range_succ]
theorem marks_set {k : Int} {ss : List Stp} {i : Nat} {b : Int} (h : i < ss.length) : ((marksS k i ++ ss.drop i).set i ⟨k + 2 * i, b⟩).set i ⟨(((marksS k i ++ ss.drop i).set i ⟨k + 2 * i, b⟩).getD i ⟨0, 0⟩).a, k + 2 * i + 1⟩ = marksS k (i + 1) ++ ss.drop (i + 1) := by
  have hl : i < (marksS k i ++ ss.drop i).length := by rw [List.length_append, marksS_len, List.length_drop]; omega
  have e : (((marksS k i ++ ss.drop i).set i ⟨k + 2 * i, b⟩).getD i ⟨0, 0⟩).a = k + 2 * i := by simp only [List.getD]; rw [List.getElem?_set_self hl]; rfl
  rw [e, List.set_set, List.set_append_right _ _ (by rw [marksS_len]; exact Nat.le_refl _), marksS_len, Nat.sub_self, marksS_step, List.drop_eq_getElem_cons h, List.append_assoc]
  rfl
theorem ct_l_markStepS (ss : List Stp) (v : Value) (k : Int) (w : World) (h : PH) (hle : PLe h (hp w)) (r : StepsO ss v h) (hk : 0 ≤ k ∧ k + 2 * ss.length ≤ 4611686018427387904) :
    Calls Tryz.prog 53 [v, num k].toArray w (Ret w h (fun u h' => u = num (k + 2 * ss.length) ∧ StepsO (marksS k ss.length) v h')) := by
  refine calls_in Tryz.func53 rfl Tryz.ntmps53 rfl (Sat.start2 hle) ?_; have hle0 := r.toR.le; obtain ⟨cs_r, rr_r, hc_r⟩ := r.toR.at; refine wp_sc (wp_sq (sq_v rfl (v_assign rfl) rfl (sq_end (qs_n (wp_sc (wp_sc (wp_sq (sq_v rfl (v_assign rfl) rfl (sq_end (qs_n (wp_bl ?_))))))))))); refine wp_lp (σ := Nat × PH) (fun z_ => [(0, v), (1, num (k + 2 * z_.1)), (4, num 0), (5, num z_.1)]) (fun z_ => [z_.2, (restP w h)]) (fun z_ => z_.1 ≤ ss.length ∧ StepsO (marksS k z_.1 ++ ss.drop z_.1) v z_.2) (fun z_ => ss.length - z_.1) (0, h) (⟨by (try dsimp only); omega, by (try dsimp only); simpa [marksS] using r⟩) ⟨rfl, (by first | rfl | exact ksub rfl (by first | omega | (simp; done) | (simp; omega))), rfl, (by first | rfl | exact ksub rfl (by first | omega | (simp; done) | (simp; omega))), trivial⟩ (fun _ s => s) ?_; rintro ⟨i, g⟩ ⟨hi, q⟩; dsimp only at hi q ⊢; obtain ⟨cs_q, rr_q, hc_q⟩ := q.toR.at; have hle_q := q.toR.le; have hl : (marksS k i ++ ss.drop i).length = ss.length := by rw [List.length_append, marksS_len, List.length_drop]; omega
  refine wp_sc (wp_sc (wp_sq (sq_v rfl (v_move rfl) rfl (sq_v rfl (v_move rfl) rfl (sq_v rfl (v_len Tryz.underlying41 rfl q.toR.sl) rfl (sq_v rfl (v_lss rfl rfl) rfl (sq_end (qs_n ?_)))))))); refine wp_cd rfl (fun c9 => ?_) (fun c9 => ?_)
  · refine wp_sk (qs_n (wp_sc (wp_bl (wp_sc (wp_sq (sq_v rfl (v_move rfl) rfl (sq_v rfl (v_move rfl) rfl (sq_v rfl (v_move rfl) rfl ?_)))))))); obtain ⟨x15, hx15, hcs15⟩ := hc_q (i) (by first | omega | (rw [List.length_set]; omega)); refine sq_v rfl (v_indexAddr Tryz.underlying41 ty_69 rfl rfl rr_q (by decide) (by omega) (by first | omega | (rw [List.length_set]; omega))) rfl ?_; refine sq_v rfl (v_fieldAddrE fd_69_0 ty_3 (by decide) rfl rr_q (by have := rr_q.1; first | omega | (simp only [Int.toNat_natCast]; omega) | (rw [stepCells_len, List.length_set]; omega))) rfl ?_; refine sq_m 0 rfl rfl (m_storeSa 0 ty_3 rfl rfl rfl q (by first | omega | (simp; omega) | (simp only [List.length_append, List.length_cons, List.length_nil]; omega) | (rw [List.length_set]; omega))) rfl ?_; rintro _ h_q4_5 ⟨rfl, q4_5⟩; have hc_q4_5 := q4_5.toR.atS; refine sq_end (qs_n (wp_sc (wp_sq (sq_v rfl (v_move rfl) rfl ?_)))); refine sq_v rfl (v_add rfl rfl ((by unfold I64; omega))) rfl ?_; refine sq_v rfl (v_assign rfl) rfl (sq_end (qs_n (wp_sc (wp_sq (sq_v rfl (v_move rfl) rfl (sq_v rfl (v_move rfl) rfl (sq_v rfl (v_move rfl) rfl ?_))))))); obtain ⟨x22, hx22, hcs22⟩ := hc_q4_5 (i) (by first | omega | (rw [List.length_set]; omega)); refine sq_v rfl (v_indexAddr Tryz.underlying41 ty_69 rfl rfl q4_5.toR (by decide) (by omega) (by first | omega | (rw [List.length_set]; omega))) rfl ?_; refine sq_v rfl (v_fieldAddrE fd_69_1 ty_3 (by decide) rfl q4_5.toR (by have := q4_5.toR.1; first | omega | (simp only [Int.toNat_natCast]; omega) | (rw [stepCells_len, List.length_set]; omega))) rfl ?_; refine sq_m 0 rfl rfl (m_storeSb 0 ty_3 rfl rfl rfl q4_5 (by first | omega | (simp; omega) | (simp only [List.length_append, List.length_cons, List.length_nil]; omega) | (rw [List.length_set]; omega))) rfl ?_; rintro _ h_q6_5 ⟨rfl, q6_5⟩; have hc_q6_5 := q6_5.toR.atS; refine sq_end (qs_n (wp_sq (sq_v rfl (v_move rfl) rfl ?_))); refine sq_v rfl (v_add rfl rfl ((by unfold I64; omega))) rfl ?_; refine sq_v rfl (v_assign rfl) rfl (sq_end (qs_bn (qs_n (wp_sq (sq_v rfl (v_move rfl) rfl ?_))))); refine sq_v rfl (v_add rfl rfl ((by unfold I64; omega))) rfl ?_; refine sq_v rfl (v_assign rfl) rfl (sq_end ?_); exact qs_bk (i + 1, h_q6_5) ⟨by (try dsimp only); omega, by (try dsimp only); simp only [Int.toNat_natCast] at q6_5; rw [marks_set (by omega)] at q6_5; exact q6_5⟩ (by simp only; omega) ⟨rfl, (by first | rfl | exact ksub rfl (by first | omega | (simp; done) | (simp; omega))), rfl, (by first | rfl | exact ksub rfl (by first | omega | (simp; done) | (simp; omega))), trivial⟩ (fun _ s => s)
  · refine wp_ex (qs_x (qs_x (qs_bx (qs_n (wp_sc (wp_sq (sq_v rfl (v_move rfl) rfl (sq_v rfl (v_assign rfl) rfl (sq_end (qs_n (wp_rt ?_))))))))))); exact qs_ret1 rfl rfl (fin_m 0 (i := 1) rfl rfl rfl (by rw [show i = ss.length by omega] at q ⊢; rw [List.drop_length, List.append_nil] at q; exact ⟨rfl, q⟩))
theorem ct_l_heldStepS (m : Nat) (v : Value) (k : Int) (w : World) (r : StepsR (marksS k m) v (hp w)) (hk : 0 ≤ k ∧ k + 2 * m ≤ 4611686018427387904) :
    Calls Tryz.prog 56 [v, num k].toArray w (RetV w (num (k + 2 * m))) := by
  have hml := marksS_len k m; have hmg : ∀ (i : Nat) (x : Stp), (marksS k m)[i]? = some x → x = ⟨k + 2 * i, k + 2 * i + 1⟩ := fun i x h => by
    simp only [marksS, List.getElem?_map, Option.map_eq_some_iff] at h; obtain ⟨j, h1, h2⟩ := h; have := List.getElem?_eq_some_iff.1 h1; obtain ⟨_, e⟩ := this
    simp at e
    rw [← h2, e]
  refine calls_in Tryz.func56 rfl Tryz.ntmps56 rfl (Sat.start w) ?_; have hle0 := r.le; obtain ⟨cs_r, rr_r, hc_r⟩ := r.at; refine wp_sc (wp_sq (sq_v rfl (v_assign rfl) rfl (sq_end (qs_n (wp_sc (wp_sc (wp_sq (sq_v rfl (v_assign rfl) rfl (sq_end (qs_n (wp_bl ?_))))))))))); refine wp_lp (σ := Nat) (fun z_ => [(0, v), (1, num (k + 2 * z_)), (4, num 0), (5, num z_)]) (fun z_ => [hp w]) (fun z_ => z_ ≤ (marksS k m).length) (fun z_ => (marksS k m).length - z_) 0 (by omega) ⟨rfl, (by first | rfl | exact ksub rfl (by first | omega | (simp; done) | (simp; omega))), rfl, (by first | rfl | exact ksub rfl (by first | omega | (simp; done) | (simp; omega))), trivial⟩ (fun _ s => s) ?_; rintro i hi; refine wp_sc (wp_sc (wp_sq (sq_v rfl (v_move rfl) rfl (sq_v rfl (v_move rfl) rfl (sq_v rfl (v_len Tryz.underlying41 rfl r.sl) rfl (sq_v rfl (v_lss rfl rfl) rfl (sq_end (qs_n ?_)))))))); refine wp_cd rfl (fun c9 => ?_) (fun c9 => ?_)
  · refine wp_sk (qs_n (wp_sc (wp_bl (wp_sc (wp_sc (wp_sq (sq_v rfl (v_move rfl) rfl (sq_v rfl (v_move rfl) rfl ?_)))))))); obtain ⟨x14, hx14, hcs14⟩ := hc_r (i) (by first | omega | (rw [List.length_set]; omega)); refine sq_v rfl (v_indexAddr Tryz.underlying41 ty_69 rfl rfl rr_r (by decide) (by omega) (by first | omega | (rw [List.length_set]; omega))) rfl ?_; refine sq_v rfl (v_fieldAddrE fd_69_0 ty_3 (by decide) rfl rr_r (by have := rr_r.1; first | omega | (simp only [Int.toNat_natCast]; omega) | (rw [stepCells_len, List.length_set]; omega))) rfl ?_; refine sq_v rfl (v_loadE 0 ty_3 rfl rfl rr_r (sub_get hcs14 (j := 0) rfl)) rfl (sq_v rfl (v_move rfl) rfl (sq_v rfl (v_neq rfl rfl) rfl (sq_end (qs_n ?_)))); refine wp_cd rfl (fun c18 => ?_) (fun c18 => ?_)
    · refine wp_sc (wp_sq (sq_v rfl (v_assign rfl) rfl (sq_end (qs_n (wp_rt (qs_r (qs_br (qs_r (qs_r (qs_br (qs_r ?_))))))))))); exact absurd (by rw [hmg i _ hx14]) c18
    · refine wp_sk (qs_n (wp_sc (wp_sq (sq_v rfl (v_move rfl) rfl ?_)))); refine sq_v rfl (v_add rfl rfl ((by unfold I64; omega))) rfl ?_; refine sq_v rfl (v_assign rfl) rfl (sq_end (qs_n (wp_sc (wp_sc (wp_sq (sq_v rfl (v_move rfl) rfl (sq_v rfl (v_move rfl) rfl ?_))))))); obtain ⟨x23, hx23, hcs23⟩ := hc_r (i) (by first | omega | (rw [List.length_set]; omega)); refine sq_v rfl (v_indexAddr Tryz.underlying41 ty_69 rfl rfl rr_r (by decide) (by omega) (by first | omega | (rw [List.length_set]; omega))) rfl ?_; refine sq_v rfl (v_fieldAddrE fd_69_1 ty_3 (by decide) rfl rr_r (by have := rr_r.1; first | omega | (simp only [Int.toNat_natCast]; omega) | (rw [stepCells_len, List.length_set]; omega))) rfl ?_; refine sq_v rfl (v_loadE 0 ty_3 rfl rfl rr_r (sub_get hcs23 (j := 1) rfl)) rfl (sq_v rfl (v_move rfl) rfl (sq_v rfl (v_neq rfl rfl) rfl (sq_end (qs_n ?_)))); refine wp_cd rfl (fun c27 => ?_) (fun c27 => ?_)
      · refine wp_sc (wp_sq (sq_v rfl (v_assign rfl) rfl (sq_end (qs_n (wp_rt (qs_r (qs_br (qs_r (qs_r (qs_br (qs_r ?_))))))))))); exact absurd (by rw [hmg i _ hx23]) c27
      · refine wp_sk (qs_n (wp_sq (sq_v rfl (v_move rfl) rfl ?_))); refine sq_v rfl (v_add rfl rfl ((by unfold I64; omega))) rfl ?_; refine sq_v rfl (v_assign rfl) rfl (sq_end (qs_bn (qs_n (wp_sq (sq_v rfl (v_move rfl) rfl ?_))))); refine sq_v rfl (v_add rfl rfl ((by unfold I64; omega))) rfl ?_; refine sq_v rfl (v_assign rfl) rfl (sq_end ?_); exact qs_bk (i + 1) (by omega) (by omega) ⟨rfl, (by first | rfl | exact ksub rfl (by first | omega | (simp; done) | (simp; omega))), rfl, (by first | rfl | exact ksub rfl (by first | omega | (simp; done) | (simp; omega))), trivial⟩ (fun _ s => s)
  · refine wp_ex (qs_x (qs_x (qs_bx (qs_n (wp_sc (wp_sq (sq_v rfl (v_move rfl) rfl (sq_v rfl (v_assign rfl) rfl (sq_end (qs_n (wp_rt ?_))))))))))); exact qs_ret1 rfl rfl (fin_q (i := 0) rfl (by congr 1; omega))
end Go.Proofs.YtiefkcaplhnnmaaGreatDoor
namespace Go.Proofs.YtiefkcaplhnnmaaGreatDoor
set_option maxRecDepth 100000
open Go.RowKit
abbrev jobV (a b : Value) (n : Int) (c d e : Value) : Value := .agg [a, b, num n, c, d, e].toArray
def closedL (ts : List Ten) (op : List Int) : List Int := (labelsL ts).filter fun x => decide (x ∉ op)
theorem closed_mem {ts : List Ten} {op : List Int} {x : Int} (h : x ∈ closedL ts op) : (0 ≤ x ∧ x ≤ 99) ∧ 1 ≤ dimOf ts x := by
  have h1 := (List.mem_filter.1 h).1; have := mem_labels.1 h1
  omega
theorem ct_s_l21Closed (k p n : Int) (ts : List Ten) (op : List Int) (vt vo : Value) (w : World) (r : TensR ts vt (hp w)) (r' : IntsR op vo (hp w)) (hok : ∀ t ∈ ts, AxOK t) :
    Calls Tryz.prog 92 [netV k p n vt vo].toArray w (Ret w emp (IntsO (closedL ts op))) := by
  have hll : (labelsL ts).length ≤ 100 := labels_len ts 100; refine calls_in Tryz.func92 rfl Tryz.ntmps92 rfl (Sat.start w) ?_; have hle0 := r.le; obtain ⟨cs_r, rr_r, hc_r⟩ := r.at; have hle1 := r'.le; refine wp_sc (wp_sq ?_); refine sq_x rfl (x_box rfl rfl) rfl ?_; rintro _ _ ⟨b1, rfl, rfl⟩; refine sq_v rfl (v_assign rfl) rfl (sq_end (qs_n (wp_sc (wp_sq ?_)))); refine sq_x rfl (x_build0 Tryz.underlying25 ty_3) rfl ?_; intro v6 h6 (r6 : IntsO [] v6 h6); refine sq_v rfl (v_assign rfl) rfl (sq_end (qs_n (wp_sc (wp_sc (wp_sq (sq_v rfl (v_fieldAddr fd_39_1 ty_37 (by decide) rfl) rfl (sq_v rfl (v_loadB 1 ty_37 rfl rfl rfl) rfl ?_))))))); refine sq_x rfl (x_call rfl en_116 (fun w s => ct_s_l12Labels _ _ w (r.mono (s.get 2 rfl)) (by first | assumption | omega))) rfl ?_; rintro v9 h9 r9; refine sq_v rfl (v_len Tryz.underlying25 rfl r9.toR.sl) rfl (sq_v rfl (v_move rfl) rfl (sq_end (qs_n (wp_bl ?_)))); refine wp_lp (σ := Nat × Value × PH) (fun z_ => [(1, .pointer (some ⟨b1, 0, none⟩)), (2, .slice none 0 0), (3, z_.2.1), (9, v9), (10, num (labelsL ts).length), (11, num z_.1)]) (fun z_ => [z_.2.2, h9, box b1 [num k, num p, num n, vt, vo] 39, hp w]) (fun z_ => z_.1 ≤ (labelsL ts).length ∧ IntsO (((labelsL ts).take z_.1).filter fun x => decide (x ∉ op)) z_.2.1 z_.2.2) (fun z_ => (labelsL ts).length - z_.1) (0, v6, h6) (⟨by (try dsimp only); omega, r6⟩) ⟨rfl, rfl, (by first | rfl | exact ksub rfl (by first | omega | (simp; done) | (simp; omega))), rfl, rfl, (by first | rfl | exact ksub rfl (by first | omega | (simp; done) | (simp; omega))), trivial⟩ (fun _ s => s.pick [1, 0, 2, 3] (by decide) rfl) ?_; rintro ⟨i, lv, lh⟩ ⟨hi, q⟩; dsimp only at hi q ⊢; have hle_q := q.toR.le; have hfl := filter_take_len (labelsL ts) (fun x => decide (x ∉ op)) i; have hmem := findI_ge (xs := op) (n := (labelsL ts).getD i 0); refine wp_sc (wp_sq (sq_v rfl (v_lss rfl rfl) rfl (sq_end (qs_n (wp_sc ?_))))); refine wp_cd rfl (fun c12 => ?_) (fun c12 => ?_)
  · refine wp_sk (qs_n (wp_sc (wp_bl (wp_sc (wp_sq ?_))))); refine sq_v rfl (v_idxI Tryz.underlying25 ty_3 rfl rfl r9.toR (by first | omega | (simp; omega) | (simp only [List.length_append, List.length_cons, List.length_nil]; omega) | (rw [List.length_set]; omega)) (by first | omega | (simp; omega) | (simp only [List.length_append, List.length_cons, List.length_nil]; omega) | (rw [List.length_set]; omega))) rfl ?_; refine sq_v rfl (v_loadI (k := i) 1 ty_3 rfl rfl r9.toR (by first | omega | (simp; omega) | (simp only [List.length_append, List.length_cons, List.length_nil]; omega) | (rw [List.length_set]; omega))) rfl ?_; refine sq_v rfl (v_assign rfl) rfl (sq_end (qs_n (wp_sc (wp_sq (sq_v rfl (v_fieldAddr fd_39_2 ty_25 (by decide) rfl) rfl (sq_v rfl (v_loadB 2 ty_25 rfl rfl rfl) rfl (sq_v rfl (v_move rfl) rfl (sq_u rfl (x_callv rfl en_93 (fun w s => ct_s_l05Find _ _ _ w (r'.mono (s.get 3 rfl)))) rfl (sq_v rfl (v_lss rfl rfl) rfl (sq_end (qs_n ?_))))))))))); refine wp_cd rfl (fun c19 => ?_) (fun c19 => ?_)
    · refine wp_sq (sq_v rfl (v_move rfl) rfl (sq_v rfl (v_move rfl) rfl ?_)); refine sq_x rfl (x_buildS [num ((labelsL ts).getD i 0)] Tryz.underlying25 ty_3 (by decide) rfl rfl rfl (by decide) (by decide) (by intro v hv; simp at hv; rcases hv with rfl <;> rfl)) rfl ?_; intro v22 h22 (r22 : IntsO [(labelsL ts).getD i 0] v22 h22); refine sq_m 1 rfl rfl (m_appI 1 0 Tryz.underlying25 ty_3 rfl rfl rfl rfl q rfl r22.toR (by first | omega | (simp; omega) | (simp only [List.length_append, List.length_cons, List.length_nil]; omega) | (rw [List.length_set]; omega))) rfl ?_; intro v23 h_r23 r23; refine sq_v rfl (v_assign rfl) rfl (sq_end (qs_bn (qs_n (wp_sq ?_)))); refine sq_v rfl (v_add rfl rfl ((by unfold I64; omega))) rfl ?_; refine sq_v rfl (v_move rfl) rfl (sq_end ?_); exact qs_bk (i + 1, v23, h_r23) ⟨by (try dsimp only); omega, by (try dsimp only); rw [filter_yes (by omega) (by simpa using fun h => by have := hmem.2 h; omega)]; exact r23⟩ (by simp only; omega) ⟨rfl, rfl, (by first | rfl | exact ksub rfl (by first | omega | (simp; done) | (simp; omega))), rfl, rfl, (by first | rfl | exact ksub rfl (by first | omega | (simp; done) | (simp; omega))), trivial⟩ (fun _ s => s.pick [1, 2, 3, 4] (by decide) rfl)
    · refine wp_sk (qs_bn (qs_n (wp_sq ?_))); refine sq_v rfl (v_add rfl rfl ((by unfold I64; omega))) rfl ?_; refine sq_v rfl (v_move rfl) rfl (sq_end ?_); exact qs_bk (i + 1, lv, lh) ⟨by (try dsimp only); omega, by (try dsimp only); rw [filter_no (by omega) (by simpa using hmem.1 (by omega))]; exact q⟩ (by simp only; omega) ⟨rfl, rfl, (by first | rfl | exact ksub rfl (by first | omega | (simp; done) | (simp; omega))), rfl, rfl, (by first | rfl | exact ksub rfl (by first | omega | (simp; done) | (simp; omega))), trivial⟩ (fun _ s => s)
  · refine wp_ex (qs_x (qs_x (qs_bx (qs_n (wp_sc (wp_sq (sq_v rfl (v_move rfl) rfl (sq_v rfl (v_assign rfl) rfl (sq_end (qs_n (wp_rt ?_))))))))))); exact qs_ret1 rfl rfl (fin_t 0 (i := 3) rfl rfl rfl (by rw [List.take_of_length_le (by omega)] at q; exact q))
theorem ct_i_ClosedLabels (k p n : Int) (ts : List Ten) (op : List Int) (vt vo : Value) (w : World) (r : TensR ts vt (hp w)) (r' : IntsR op vo (hp w)) (hs : op.length ≤ 1048576) (hnet : netL k p n ts op) :
    Calls Tryz.prog 100 [netV k p n vt vo].toArray w (Ret w emp (IntsO (closedL ts op))) := by
  have hll : (labelsL ts).length ≤ 100 := labels_len ts 100; have e9 : labelsOf k p n ts op = labelsL ts := if_pos hnet; refine calls_in Tryz.func100 rfl Tryz.ntmps100 rfl (Sat.start w) ?_; have hle0 := r.le; obtain ⟨cs_r, rr_r, hc_r⟩ := r.at; have hle1 := r'.le; refine wp_sc (wp_sq ?_); refine sq_x rfl (x_box rfl rfl) rfl ?_; rintro _ _ ⟨b1, rfl, rfl⟩; refine sq_v rfl (v_assign rfl) rfl (sq_end (qs_n (wp_sc (wp_sq (sq_v rfl (v_assign rfl) rfl (sq_end (qs_n (wp_sc (wp_sc (wp_sq (sq_v rfl (v_loadNB 0 ty_39 rfl rfl rfl rfl) rfl ?_))))))))))); refine sq_x rfl (x_call rfl en_120 (fun w s => ct_i_LabelsOf _ _ _ _ _ _ _ w (r.mono (s.get 1 rfl)) (r'.mono (s.get 1 rfl)) (by first | assumption | omega))) rfl ?_; rintro v7 h7 r7; rw [e9] at r7; refine sq_v rfl (v_len Tryz.underlying25 rfl r7.toR.sl) rfl (sq_v rfl (v_move rfl) rfl (sq_end (qs_n (wp_bl ?_)))); refine wp_lp (σ := Nat × Value × PH) (fun z_ => [(1, .pointer (some ⟨b1, 0, none⟩)), (2, .slice none 0 0), (3, z_.2.1), (7, v7), (8, num (labelsL ts).length), (9, num z_.1)]) (fun z_ => [z_.2.2, h7, box b1 [num k, num p, num n, vt, vo] 39, hp w]) (fun z_ => z_.1 ≤ (labelsL ts).length ∧ IntsO (((labelsL ts).take z_.1).filter fun x => decide (x ∉ op)) z_.2.1 z_.2.2) (fun z_ => (labelsL ts).length - z_.1) (0, .slice none 0 0, emp) (⟨by (try dsimp only); omega, IntsO.nil⟩) ⟨rfl, rfl, (by first | rfl | exact ksub rfl (by first | omega | (simp; done) | (simp; omega))), rfl, rfl, (by first | rfl | exact ksub rfl (by first | omega | (simp; done) | (simp; omega))), trivial⟩ (fun _ s => (emp_sat s)) ?_; rintro ⟨i, lv, lh⟩ ⟨hi, q⟩; dsimp only at hi q ⊢; have hle_q := q.toR.le; have hfl := filter_take_len (labelsL ts) (fun x => decide (x ∉ op)) i; refine wp_sc (wp_sq (sq_v rfl (v_lss rfl rfl) rfl (sq_end (qs_n (wp_sc ?_))))); refine wp_cd rfl (fun c10 => ?_) (fun c10 => ?_)
  · refine wp_sk (qs_n (wp_sc (wp_bl (wp_sc (wp_sq ?_))))); refine sq_v rfl (v_idxI Tryz.underlying25 ty_3 rfl rfl r7.toR (by first | omega | (simp; omega) | (simp only [List.length_append, List.length_cons, List.length_nil]; omega) | (rw [List.length_set]; omega)) (by first | omega | (simp; omega) | (simp only [List.length_append, List.length_cons, List.length_nil]; omega) | (rw [List.length_set]; omega))) rfl ?_; refine sq_v rfl (v_loadI (k := i) 1 ty_3 rfl rfl r7.toR (by first | omega | (simp; omega) | (simp only [List.length_append, List.length_cons, List.length_nil]; omega) | (rw [List.length_set]; omega))) rfl ?_; refine sq_v rfl (v_assign rfl) rfl (sq_end (qs_n (wp_sc (wp_sq (sq_v rfl (v_fieldAddr fd_39_2 ty_25 (by decide) rfl) rfl (sq_v rfl (v_loadB 2 ty_25 rfl rfl rfl) rfl (sq_v rfl (v_move rfl) rfl (sq_u rfl (x_callv rfl en_101 (fun w s => ct_i_hasInt _ _ _ w (r'.mono (s.get 3 rfl)))) rfl (sq_v rfl (v_not rfl) rfl (sq_end (qs_n ?_))))))))))); refine wp_cnd rfl (fun c17 => ?_) (fun c17 => ?_)
    · refine wp_sq (sq_v rfl (v_move rfl) rfl (sq_v rfl (v_move rfl) rfl ?_)); refine sq_x rfl (x_buildS [num ((labelsL ts).getD i 0)] Tryz.underlying25 ty_3 (by decide) rfl rfl rfl (by decide) (by decide) (by intro v hv; simp at hv; rcases hv with rfl <;> rfl)) rfl ?_; intro v20 h20 (r20 : IntsO [(labelsL ts).getD i 0] v20 h20); refine sq_m 1 rfl rfl (m_appI 1 0 Tryz.underlying25 ty_3 rfl rfl rfl rfl q rfl r20.toR (by first | omega | (simp; omega) | (simp only [List.length_append, List.length_cons, List.length_nil]; omega) | (rw [List.length_set]; omega))) rfl ?_; intro v21 h_r21 r21; refine sq_v rfl (v_assign rfl) rfl (sq_end (qs_bn (qs_n (wp_sq ?_)))); refine sq_v rfl (v_add rfl rfl ((by unfold I64; omega))) rfl ?_; refine sq_v rfl (v_move rfl) rfl (sq_end ?_); exact qs_bk (i + 1, v21, h_r21) ⟨by (try dsimp only); omega, by (try dsimp only); rw [filter_yes (by omega) (by simpa using c17)]; exact r21⟩ (by simp only; omega) ⟨rfl, rfl, (by first | rfl | exact ksub rfl (by first | omega | (simp; done) | (simp; omega))), rfl, rfl, (by first | rfl | exact ksub rfl (by first | omega | (simp; done) | (simp; omega))), trivial⟩ (fun _ s => s.pick [1, 2, 3, 4] (by decide) rfl)
    · refine wp_sk (qs_bn (qs_n (wp_sq ?_))); refine sq_v rfl (v_add rfl rfl ((by unfold I64; omega))) rfl ?_; refine sq_v rfl (v_move rfl) rfl (sq_end ?_); exact qs_bk (i + 1, lv, lh) ⟨by (try dsimp only); omega, by (try dsimp only); rw [filter_no (by omega) (by simpa using c17)]; exact q⟩ (by simp only; omega) ⟨rfl, rfl, (by first | rfl | exact ksub rfl (by first | omega | (simp; done) | (simp; omega))), rfl, rfl, (by first | rfl | exact ksub rfl (by first | omega | (simp; done) | (simp; omega))), trivial⟩ (fun _ s => s)
  · refine wp_ex (qs_x (qs_x (qs_bx (qs_n (wp_sc (wp_sq (sq_v rfl (v_move rfl) rfl (sq_v rfl (v_assign rfl) rfl (sq_end (qs_n (wp_rt ?_))))))))))); exact qs_ret1 rfl rfl (fin_t 0 (i := 3) rfl rfl rfl (by rw [List.take_of_length_le (by omega)] at q; exact q))
theorem ct_i_openAxes (k p n : Int) (ts : List Ten) (op : List Int) (vt vo : Value) (w : World) (r : TensR ts vt (hp w)) (r' : IntsR op vo (hp w)) (hs : op.length ≤ 1048576) (hnet : netL k p n ts op) :
    Calls Tryz.prog 71 [netV k p n vt vo].toArray w (Ret w emp (fun u h => ∃ u1 u2, u = tenV u1 u2 (.slice none 0 0) ∧ IntsR op u1 h ∧ IntsR (dimsFor ts op) u2 h)) := by
  have hax := net_axes hnet; have hop : ∀ x ∈ op, 0 ≤ x ∧ x ≤ 99 := all_of fun j hj => (open_at hnet.2.2.2.2 hj).1; refine calls_in Tryz.func71 rfl Tryz.ntmps71 rfl (Sat.start w) ?_; have hle0 := r.le; obtain ⟨cs_r, rr_r, hc_r⟩ := r.at; have hle1 := r'.le; refine wp_sc (wp_sq ?_); refine sq_x rfl (x_box rfl rfl) rfl ?_; rintro _ _ ⟨b1, rfl, rfl⟩; refine sq_x rfl (x_alloc ty_42 rfl) rfl ?_; rintro _ _ ⟨b2, rfl, rfl⟩; refine sq_end (qs_n (wp_sc (wp_sq (sq_v rfl (v_fieldAddr fd_39_1 ty_37 (by decide) rfl) rfl (sq_v rfl (v_loadB 1 ty_37 rfl rfl rfl) rfl ?_))))); refine sq_x rfl (x_call rfl en_85 (fun w s => ct_i_dimsOf _ _ w (r.mono (s.get 2 rfl)) (by first | assumption | omega))) rfl ?_; rintro _ h8 ⟨arr, ok, rfl, hal, hok, hav⟩; refine sq_v rfl (v_move rfl) rfl (sq_v rfl (v_extract rfl rfl) rfl (sq_v rfl (v_extract rfl rfl) rfl ?_)); refine sq_x rfl (x_alloc ty_106 rfl) rfl ?_; rintro _ _ ⟨b3, rfl, rfl⟩; refine sq_m 0 rfl rfl (m_storeW 0 ty_106 rfl rfl rfl (by rw [ints_length]; exact hal) (ints_one arr) rfl (by simp)) rfl ?_; rintro _ _ ⟨rfl, rfl⟩; refine sq_v rfl (v_assign rfl) rfl (sq_end (qs_n (wp_sc (wp_sq ?_)))); refine sq_v rfl (v_loadNB 0 ty_106 rfl rfl (by rw [ints_length]; exact hal) (by rw [List.drop_zero, List.take_of_length_le]; rw [ints_length, hal]; omega)) rfl ?_; refine sq_v rfl (v_fieldAddr fd_39_2 ty_25 (by decide) rfl) rfl (sq_v rfl (v_loadB 3 ty_25 rfl rfl rfl) rfl ?_); have hinv := hav (hok.2 hnet.2.2.2.1); have hao := arrOf_eq hinv hop; refine sq_x rfl (x_call rfl en_87 (fun w s => ct_i_axesOf _ _ _ w (r'.mono (s.get 4 rfl)) (by first | assumption | omega) (by first | assumption | omega) (by first | assumption | omega))) rfl ?_; rintro _ h14 ⟨u1, u2, rfl, ru1, ru2⟩; refine sq_m 3 rfl rfl (m_store 3 ty_42 rfl rfl rfl rfl (by simp [ru1.sl.one, ru2.sl.one, one_sl]) rfl (Nat.le_of_ble_eq_true rfl)) rfl ?_; rintro _ _ ⟨rfl, rfl⟩; refine sq_end (qs_n (wp_rt ?_)); exact qs_retc 3 rfl ty_42 rfl rfl rfl (fin_t 0 (i := 5) rfl rfl rfl (⟨u1, u2, rfl, ru1, by rw [← hao]; exact ru2⟩))
def sliceP (ts : List Ten) (op ls : List Int) (i : Nat) : Prop := ls.getD i 0 ∈ closedL ts op ∧ ls.getD i 0 ∉ ls.take i
def slicesL (k p n : Int) (ts : List Ten) (op ls : List Int) : Prop := netL k p n ts op ∧ ls.length ≤ 4 ∧ ∀ i, i < ls.length → sliceP ts op ls i
noncomputable def sliceL (k p n : Int) (ts : List Ten) (op ls : List Int) : Int := @ite _ (slicesL k p n ts op ls) (Classical.propDecidable _) (prodI (dimsFor ts ls)) (-1)
theorem slice_dims {k p n : Int} {ts : List Ten} {op ls : List Int} (h : slicesL k p n ts op ls) : dimsIn (dimsFor ts ls) ∧ (1 ≤ prodI (dimsFor ts ls) ∧ prodI (dimsFor ts ls) ≤ 4096) ∧ ∀ x ∈ ls, 0 ≤ x ∧ x ≤ 99 := by
  have hax := net_ax h.1; have hm : ∀ i, i < ls.length → (0 ≤ ls.getD i 0 ∧ ls.getD i 0 ≤ 99) ∧ 1 ≤ dimOf ts (ls.getD i 0) := fun i hi => closed_mem (h.2.2 i hi).1; have hl : (dimsFor ts ls).length = ls.length := List.length_map _; have hd : dimsIn (dimsFor ts ls) := fun j hj => by
    rw [dimsFor, map_getD (by omega)]; have := hm j (by omega); have := dimOf_range hax (ls.getD j 0)
    omega
  refine ⟨hd, ?_, all_of fun j hj => (hm j hj).1⟩; have h4 : (dimsFor ts ls).length ≤ 4 := by have := h.2.1; omega
  suffices H : ∀ i, i ≤ (dimsFor ts ls).length → 1 ≤ prodI ((dimsFor ts ls).take i) ∧ prodI ((dimsFor ts ls).take i) ≤ 8 ^ i by
    have := H _ (Nat.le_refl _); rw [List.take_length] at this; have h8 : (8 : Int) ^ (dimsFor ts ls).length ≤ 8 ^ 4 := by
      have : (8 : Nat) ^ (dimsFor ts ls).length ≤ 8 ^ 4 := Nat.pow_le_pow_right (by omega) h4
      exact_mod_cast this
    omega
  intro i
  induction i with
  | zero => intro _; simp [prodI]
  | succ i ih =>
    intro hi; have h1 := ih (by omega); have h2 := hd i (by omega); rw [prodI_step (by omega)]; refine ⟨?_, ?_⟩
    · have := Int.mul_le_mul h1.1 h2.1 (by omega) (by omega); omega
    · have := Int.mul_le_mul h1.2 h2.2 (by omega) (by omega : (0 : Int) ≤ 8 ^ i); rw [Int.pow_succ]; omega
set_option maxHeartbeats 1000000 in
theorem ct_s_SliceCount (k p n : Int) (ts : List Ten) (op ls : List Int) (vt vo v : Value) (w : World) (r : TensR ts vt (hp w)) (r' : IntsR op vo (hp w)) (rl : IntsR ls v (hp w)) (hs : op.length ≤ 1048576) :
    Calls Tryz.prog 60 [netV k p n vt vo, v].toArray w (RetV w (num (sliceL k p n ts op ls))) := by
  refine calls_in Tryz.func60 rfl Tryz.ntmps60 rfl (Sat.start w) ?_; have hle0 := r.le; obtain ⟨cs_r, rr_r, hc_r⟩ := r.at; have hle1 := r'.le; have hle2 := rl.le; refine wp_sc (wp_sq ?_); refine sq_x rfl (x_box rfl rfl) rfl ?_; rintro _ _ ⟨b2, rfl, rfl⟩; refine sq_v rfl (v_assign rfl) rfl (sq_end (qs_n (wp_sc (wp_sc (wp_sq (sq_v rfl (v_loadNB 0 ty_39 rfl rfl rfl rfl) rfl (sq_u rfl (x_callv rfl en_91 (fun w s => ct_s_NetworkOk _ _ _ _ _ _ _ w (r.mono (s.get 1 rfl)) (r'.mono (s.get 1 rfl)) (by first | assumption | omega))) rfl ?_))))))); refine sq_bb 9 rfl (fun c9 => ?_) (fun c9 => ?_)
  · refine sq_v rfl (v_not rfl) rfl (sq_v rfl (v_move rfl) rfl (sq_v rfl (v_move rfl) rfl (sq_v rfl (v_len Tryz.underlying25 rfl rl.sl) rfl (sq_v rfl (v_gtr rfl rfl) rfl (sq_v rfl (v_pickf rfl rfl) rfl (sq_end (qs_n ?_))))))); refine wp_cd rfl (fun c15 => ?_) (fun c15 => ?_)
    · refine wp_sc (wp_sq (sq_v rfl (v_assign rfl) rfl (sq_end (qs_n (wp_rt (qs_r ?_)))))); exact qs_ret1 rfl rfl (fin_q (i := 1) rfl (by rw [sliceL, if_neg (fun h => by first | exact netB_false.1 c9 h.1 | (have := h.2.1; omega))]))
    · refine wp_sk (qs_n (wp_sc (wp_sq (sq_v rfl (v_loadNB 0 ty_39 rfl rfl rfl rfl) rfl ?_)))); have hnet := netB_true.1 c9; have hax := net_ax hnet; refine sq_x rfl (x_call rfl en_92 (fun w s => ct_s_l21Closed _ _ _ _ _ _ _ w (r.mono (s.get 1 rfl)) (r'.mono (s.get 1 rfl)) (by first | assumption | omega))) rfl ?_; rintro v17 h17 r17; refine sq_v rfl (v_assign rfl) rfl (sq_end ?_); have hcl : (closedL ts op).length ≤ 100 := Nat.le_trans (List.length_filter_le _ _) (labels_len ts 100); refine qs_n (wp_sc (wp_sc (wp_sq (sq_v rfl (v_move rfl) rfl (sq_v rfl (v_len Tryz.underlying25 rfl rl.sl) rfl (sq_v rfl (v_move rfl) rfl (sq_end (qs_n (wp_bl ?_))))))))); refine wp_lp (σ := Nat) (fun z_ => [(1, v), (2, .pointer (some ⟨b2, 0, none⟩)), (4, num 0), (5, v17), (18, v), (19, num ls.length), (20, num z_)]) (fun z_ => [h17, box b2 [num k, num p, num n, vt, vo] 39, hp w]) (fun z_ => z_ ≤ ls.length ∧ (∀ j, j < z_ → sliceP ts op ls j)) (fun z_ => ls.length - z_) 0 (⟨by omega, fun j hj => by omega⟩) ⟨rfl, rfl, rfl, rfl, rfl, rfl, (by first | rfl | exact ksub rfl (by first | omega | (simp; done) | (simp; omega))), trivial⟩ (fun _ s => s) ?_; rintro i ⟨hi, hv⟩; have hm1 := findI_ge (xs := closedL ts op) (n := ls.getD i 0); have hm2 := findI_ge (xs := ls.take i) (n := ls.getD i 0); refine wp_sc (wp_sq (sq_v rfl (v_lss rfl rfl) rfl (sq_end (qs_n (wp_sc ?_))))); refine wp_cd rfl (fun c21 => ?_) (fun c21 => ?_)
      · refine wp_sk (qs_n (wp_sc (wp_bl (wp_sc (wp_sq (sq_v rfl (v_move rfl) rfl ?_)))))); refine sq_v rfl (v_idxI Tryz.underlying25 ty_3 rfl rfl rl (by first | omega | (simp; omega) | (simp only [List.length_append, List.length_cons, List.length_nil]; omega) | (rw [List.length_set]; omega)) (by first | omega | (simp; omega) | (simp only [List.length_append, List.length_cons, List.length_nil]; omega) | (rw [List.length_set]; omega))) rfl ?_; refine sq_v rfl (v_loadI (k := i) 2 ty_3 rfl rfl rl (by first | omega | (simp; omega) | (simp only [List.length_append, List.length_cons, List.length_nil]; omega) | (rw [List.length_set]; omega))) rfl ?_; refine sq_v rfl (v_assign rfl) rfl (sq_v rfl (v_assign rfl) rfl (sq_end (qs_n (wp_sc (wp_sq (sq_v rfl (v_move rfl) rfl (sq_v rfl (v_move rfl) rfl (sq_u rfl (x_callv rfl en_93 (fun w s => ct_s_l05Find _ _ _ w (r17.toR.mono (s.get 0 rfl)))) rfl (sq_v rfl (v_lss rfl rfl) rfl ?_))))))))); refine sq_bd 28 rfl (fun c28 => ?_) (fun c28 => ?_)
        · refine sq_v rfl (v_move rfl) rfl (sq_s rfl rfl (sq_s rfl rfl (sq_s rfl rfl (sq_s rfl rfl (sq_s rfl rfl (sq_s rfl rfl (sq_v rfl (v_pickt rfl rfl) rfl (sq_end (qs_n (wp_ct rfl (wp_sc (wp_sq (sq_v rfl (v_assign rfl) rfl (sq_end (qs_n (wp_rt (qs_br (qs_r (qs_r (qs_br (qs_r ?_))))))))))))))))))))); exact qs_ret1 rfl rfl (fin_q (i := 2) rfl (by rw [sliceL, if_neg (fun h => by have h1 := h.2.2 i (by omega); have h2 := hm1.2 h1.1; first | omega | exact h1.2 (hm2.1 (by omega)))]))
        · refine sq_v rfl (v_move rfl) rfl (sq_v rfl (v_move rfl) rfl (sq_v rfl (v_move rfl) rfl (sq_v rfl (v_sliceH Tryz.underlying25 ty_3 rfl rfl  rl (by omega) (by omega)) rfl (sq_v rfl (v_move rfl) rfl (sq_u rfl (x_callv rfl en_93 (fun w s => ct_s_l05Find _ _ _ w ((rl.subH (hi := i) (by omega)).mono (s.get 2 rfl)))) rfl (sq_v rfl (v_geq rfl rfl) rfl (sq_v rfl (v_pickf rfl rfl) rfl (sq_end (qs_n ?_))))))))); refine wp_cd rfl (fun c36 => ?_) (fun c36 => ?_)
          · refine wp_sc (wp_sq (sq_v rfl (v_assign rfl) rfl (sq_end (qs_n (wp_rt (qs_br (qs_r (qs_r (qs_br (qs_r ?_)))))))))); exact qs_ret1 rfl rfl (fin_q (i := 2) rfl (by rw [sliceL, if_neg (fun h => by have h1 := h.2.2 i (by omega); have h2 := hm1.2 h1.1; first | omega | exact h1.2 (hm2.1 (by omega)))]))
          · refine wp_sk (qs_bn (qs_n (wp_sq ?_))); refine sq_v rfl (v_add rfl rfl ((by unfold I64; omega))) rfl ?_; refine sq_v rfl (v_move rfl) rfl (sq_end ?_); exact qs_bk (i + 1) ⟨by omega, step_all hv ⟨hm1.1 (by omega), fun h => by have := hm2.2 h; omega⟩⟩ (by omega) ⟨rfl, rfl, rfl, rfl, rfl, rfl, (by first | rfl | exact ksub rfl (by first | omega | (simp; done) | (simp; omega))), trivial⟩ (fun _ s => s)
      · refine wp_ex (qs_x (qs_x (qs_bx (qs_n (wp_sc (wp_sq (sq_v rfl (v_fieldAddr fd_39_1 ty_37 (by decide) rfl) rfl (sq_v rfl (v_loadB 1 ty_37 rfl rfl rfl) rfl (sq_v rfl (v_move rfl) rfl ?_))))))))); have hsl : slicesL k p n ts op ls := ⟨hnet, by omega, fun j hj => hv j (by omega)⟩; have hsd := slice_dims hsl; have hd := hsd.1; refine sq_x rfl (x_call rfl en_63 (fun w s => ct_s_l12Dims _ _ _ _ w (r.mono (s.get 2 rfl)) (rl.mono (s.get 2 rfl)) (by first | assumption | omega) (by first | assumption | omega))) rfl ?_; rintro v41 h41 r41
        skip
        refine sq_u rfl (x_callv rfl en_65 (fun w s => ct_s_l05Product _ _ _ w (r41.toR.mono (s.get 0 rfl)) (by first | assumption | omega) (by first | assumption | omega))) rfl (sq_v rfl (v_assign rfl) rfl (sq_end (qs_n (wp_rt ?_)))); exact qs_ret1 rfl rfl (fin_q (i := 3) rfl (by rw [sliceL, if_pos hsl, Int.min_eq_left (by omega)]))
  · refine sq_v rfl (v_not rfl) rfl (sq_v rfl (v_move rfl) rfl (sq_s rfl rfl (sq_s rfl rfl (sq_s rfl rfl (sq_v rfl (v_pickt rfl rfl) rfl (sq_end (qs_n (wp_ct rfl (wp_sc (wp_sq (sq_v rfl (v_assign rfl) rfl (sq_end (qs_n (wp_rt (qs_r ?_))))))))))))))); exact qs_ret1 rfl rfl (fin_q (i := 1) rfl (by rw [sliceL, if_neg (fun h => by first | exact netB_false.1 c9 h.1 | (have := h.2.1; omega))]))
set_option maxHeartbeats 1000000 in
theorem ct_i_SliceCount (k p n : Int) (ts : List Ten) (op ls : List Int) (vt vo v : Value) (w : World) (r : TensR ts vt (hp w)) (r' : IntsR op vo (hp w)) (rl : IntsR ls v (hp w)) (hs : op.length ≤ 1048576) :
    Calls Tryz.prog 69 [netV k p n vt vo, v].toArray w (RetV w (num (sliceL k p n ts op ls))) := by
  refine calls_in Tryz.func69 rfl Tryz.ntmps69 rfl (Sat.start w) ?_; have hle0 := r.le; obtain ⟨cs_r, rr_r, hc_r⟩ := r.at; have hle1 := r'.le; have hle2 := rl.le; refine wp_sc (wp_sq ?_); refine sq_x rfl (x_box rfl rfl) rfl ?_; rintro _ _ ⟨b2, rfl, rfl⟩; refine sq_v rfl (v_assign rfl) rfl (sq_end (qs_n (wp_sc (wp_sc (wp_sq (sq_v rfl (v_loadNB 0 ty_39 rfl rfl rfl rfl) rfl (sq_u rfl (x_callv rfl en_47 (fun w s => ct_i_NetworkOk _ _ _ _ _ _ _ w (r.mono (s.get 1 rfl)) (r'.mono (s.get 1 rfl)) (by first | assumption | omega))) rfl ?_))))))); refine sq_bb 12 rfl (fun c12 => ?_) (fun c12 => ?_)
  · refine sq_v rfl (v_not rfl) rfl (sq_v rfl (v_move rfl) rfl (sq_v rfl (v_move rfl) rfl (sq_v rfl (v_len Tryz.underlying25 rfl rl.sl) rfl (sq_v rfl (v_gtr rfl rfl) rfl (sq_v rfl (v_pickf rfl rfl) rfl (sq_end (qs_n ?_))))))); refine wp_cd rfl (fun c18 => ?_) (fun c18 => ?_)
    · refine wp_sc (wp_sq (sq_v rfl (v_assign rfl) rfl (sq_end (qs_n (wp_rt (qs_r ?_)))))); exact qs_ret1 rfl rfl (fin_q (i := 1) rfl (by rw [sliceL, if_neg (fun h => by first | exact netB_false.1 c12 h.1 | (have := h.2.1; omega))]))
    · refine wp_sk (qs_n (wp_sc (wp_sq (sq_v rfl (v_loadNB 0 ty_39 rfl rfl rfl rfl) rfl ?_)))); have hnet := netB_true.1 c12; have hax := net_axes hnet; refine sq_x rfl (x_call rfl en_100 (fun w s => ct_i_ClosedLabels _ _ _ _ _ _ _ w (r.mono (s.get 1 rfl)) (r'.mono (s.get 1 rfl)) (by first | assumption | omega) (by first | assumption | omega))) rfl ?_; rintro v20 h20 r20; refine sq_v rfl (v_assign rfl) rfl (sq_end ?_); have hcl : (closedL ts op).length ≤ 100 := Nat.le_trans (List.length_filter_le _ _) (labels_len ts 100); refine qs_n (wp_sc (wp_sc (wp_sq (sq_v rfl (v_move rfl) rfl (sq_v rfl (v_len Tryz.underlying25 rfl rl.sl) rfl (sq_v rfl (v_move rfl) rfl (sq_end (qs_n (wp_bl ?_))))))))); refine wp_lp (σ := Nat) (fun z_ => [(1, v), (2, .pointer (some ⟨b2, 0, none⟩)), (4, num 0), (5, v20), (21, v), (22, num ls.length), (23, num z_)]) (fun z_ => [h20, box b2 [num k, num p, num n, vt, vo] 39, hp w]) (fun z_ => z_ ≤ ls.length ∧ (∀ j, j < z_ → sliceP ts op ls j)) (fun z_ => ls.length - z_) 0 (⟨by omega, fun j hj => by omega⟩) ⟨rfl, rfl, rfl, rfl, rfl, rfl, (by first | rfl | exact ksub rfl (by first | omega | (simp; done) | (simp; omega))), trivial⟩ (fun _ s => s) ?_; rintro i ⟨hi, hv⟩; refine wp_sc (wp_sq (sq_v rfl (v_lss rfl rfl) rfl (sq_end (qs_n (wp_sc ?_))))); refine wp_cd rfl (fun c24 => ?_) (fun c24 => ?_)
      · refine wp_sk (qs_n (wp_sc (wp_bl (wp_sc (wp_sq (sq_v rfl (v_move rfl) rfl ?_)))))); refine sq_v rfl (v_idxI Tryz.underlying25 ty_3 rfl rfl rl (by first | omega | (simp; omega) | (simp only [List.length_append, List.length_cons, List.length_nil]; omega) | (rw [List.length_set]; omega)) (by first | omega | (simp; omega) | (simp only [List.length_append, List.length_cons, List.length_nil]; omega) | (rw [List.length_set]; omega))) rfl ?_; refine sq_v rfl (v_loadI (k := i) 2 ty_3 rfl rfl rl (by first | omega | (simp; omega) | (simp only [List.length_append, List.length_cons, List.length_nil]; omega) | (rw [List.length_set]; omega))) rfl ?_; refine sq_v rfl (v_assign rfl) rfl (sq_v rfl (v_assign rfl) rfl (sq_end (qs_n (wp_sc (wp_sq (sq_v rfl (v_move rfl) rfl (sq_v rfl (v_move rfl) rfl (sq_u rfl (x_callv rfl en_101 (fun w s => ct_i_hasInt _ _ _ w (r20.toR.mono (s.get 0 rfl)))) rfl ?_)))))))); refine sq_bd 30 rfl (fun c30 => ?_) (fun c30 => ?_)
        · refine sq_v rfl (v_not rfl) rfl (sq_v rfl (v_move rfl) rfl (sq_v rfl (v_move rfl) rfl (sq_v rfl (v_move rfl) rfl (sq_v rfl (v_sliceH Tryz.underlying25 ty_3 rfl rfl  rl (by omega) (by omega)) rfl (sq_v rfl (v_move rfl) rfl (sq_u rfl (x_callv rfl en_101 (fun w s => ct_i_hasInt _ _ _ w ((rl.subH (hi := i) (by omega)).mono (s.get 2 rfl)))) rfl (sq_v rfl (v_pickf rfl rfl) rfl (sq_end (qs_n ?_))))))))); refine wp_cd rfl (fun c38 => ?_) (fun c38 => ?_)
          · refine wp_sc (wp_sq (sq_v rfl (v_assign rfl) rfl (sq_end (qs_n (wp_rt (qs_br (qs_r (qs_r (qs_br (qs_r ?_)))))))))); exact qs_ret1 rfl rfl (fin_q (i := 2) rfl (by rw [sliceL, if_neg (fun h => by have h1 := h.2.2 i (by omega); first | exact c30 h1.1 | exact h1.2 c38)]))
          · refine wp_sk (qs_bn (qs_n (wp_sq ?_))); refine sq_v rfl (v_add rfl rfl ((by unfold I64; omega))) rfl ?_; refine sq_v rfl (v_move rfl) rfl (sq_end ?_); exact qs_bk (i + 1) ⟨by omega, step_all hv ⟨c30, c38⟩⟩ (by omega) ⟨rfl, rfl, rfl, rfl, rfl, rfl, (by first | rfl | exact ksub rfl (by first | omega | (simp; done) | (simp; omega))), trivial⟩ (fun _ s => s)
        · refine sq_v rfl (v_not rfl) rfl (sq_v rfl (v_move rfl) rfl (sq_s rfl rfl (sq_s rfl rfl (sq_s rfl rfl (sq_s rfl rfl (sq_s rfl rfl (sq_v rfl (v_pickt rfl rfl) rfl (sq_end (qs_n (wp_ct rfl (wp_sc (wp_sq (sq_v rfl (v_assign rfl) rfl (sq_end (qs_n (wp_rt (qs_br (qs_r (qs_r (qs_br (qs_r ?_))))))))))))))))))))); exact qs_ret1 rfl rfl (fin_q (i := 2) rfl (by rw [sliceL, if_neg (fun h => by have h1 := h.2.2 i (by omega); first | exact c30 h1.1 | exact h1.2 c38)]))
      · refine wp_ex (qs_x (qs_x (qs_bx (qs_n (wp_sc (wp_sq (sq_v rfl (v_fieldAddr fd_39_1 ty_37 (by decide) rfl) rfl (sq_v rfl (v_loadB 1 ty_37 rfl rfl rfl) rfl ?_)))))))); have hsl : slicesL k p n ts op ls := ⟨hnet, by omega, fun j hj => hv j (by omega)⟩; have hsd := slice_dims hsl; have hd := hsd.1; have hl4 := hsl.2.1; refine sq_x rfl (x_call rfl en_85 (fun w s => ct_i_dimsOf _ _ w (r.mono (s.get 2 rfl)) (by first | assumption | omega))) rfl ?_; rintro _ h43 ⟨arr, ok, rfl, hal, hok, hav⟩; refine sq_v rfl (v_move rfl) rfl (sq_v rfl (v_extract rfl rfl) rfl (sq_v rfl (v_extract rfl rfl) rfl ?_)); refine sq_x rfl (x_alloc ty_106 rfl) rfl ?_; rintro _ _ ⟨b8, rfl, rfl⟩; refine sq_m 0 rfl rfl (m_storeW 0 ty_106 rfl rfl rfl (by rw [ints_length]; exact hal) (ints_one arr) rfl (by simp)) rfl ?_; rintro _ _ ⟨rfl, rfl⟩; refine sq_v rfl (v_assign rfl) rfl (sq_end (qs_n (wp_sc (wp_sq ?_)))); refine sq_v rfl (v_loadNB 0 ty_106 rfl rfl (by rw [ints_length]; exact hal) (by rw [List.drop_zero, List.take_of_length_le]; rw [ints_length, hal]; omega)) rfl ?_; refine sq_v rfl (v_move rfl) rfl ?_; have hinv := hav (hok.2 hnet.2.2.2.1); have hao := arrOf_eq hinv hsd.2.2; refine sq_x rfl (x_call rfl en_87 (fun w s => ct_i_axesOf _ _ _ w (rl.mono (s.get 4 rfl)) (by first | assumption | omega) hsd.2.2 (by first | assumption | omega))) rfl ?_; rintro _ h48 ⟨u1, u2, rfl, ru1, ru2⟩; refine sq_v rfl (v_field1 fd_42_1 ty_25 rfl rfl) rfl (sq_u rfl (x_callv rfl en_75 (fun w s => ct_i_productOf _ _ w ((hao ▸ ru2).mono (s.get 0 rfl)) (by first | assumption | omega) (by first | assumption | omega))) rfl (sq_v rfl (v_assign rfl) rfl (sq_end (qs_n (wp_sc (wp_sc (wp_sq (sq_v rfl (v_move rfl) rfl (sq_v rfl (v_gtr rfl rfl) rfl (sq_end (qs_n ?_))))))))))); refine wp_cd rfl (fun c52 => ?_) (fun c52 => ?_)
        · refine wp_sc (wp_sq (sq_v rfl (v_assign rfl) rfl (sq_end (qs_n (wp_rt (qs_r ?_)))))); exact qs_ret1 rfl rfl (fin_q (i := 5) rfl (by omega))
        · refine wp_sk (qs_n (wp_sc (wp_sq (sq_v rfl (v_move rfl) rfl (sq_v rfl (v_assign rfl) rfl (sq_end (qs_n (wp_rt ?_)))))))); exact qs_ret1 rfl rfl (fin_q (i := 5) rfl (by rw [sliceL, if_pos hsl]))
  · refine sq_v rfl (v_not rfl) rfl (sq_v rfl (v_move rfl) rfl (sq_s rfl rfl (sq_s rfl rfl (sq_s rfl rfl (sq_v rfl (v_pickt rfl rfl) rfl (sq_end (qs_n (wp_ct rfl (wp_sc (wp_sq (sq_v rfl (v_assign rfl) rfl (sq_end (qs_n (wp_rt (qs_r ?_))))))))))))))); exact qs_ret1 rfl rfl (fin_q (i := 1) rfl (by rw [sliceL, if_neg (fun h => by first | exact netB_false.1 c12 h.1 | (have := h.2.1; omega))]))
def jobL (k p n : Int) (ts : List Ten) (op ls : List Int) (ss : List Stp) (at_ : Int) (t : Ten) : Prop :=
  orderL k p n ts op ss ∧ (0 ≤ at_ ∧ at_ ≤ sliceL k p n ts op ls) ∧ tensorL k p n t.l t.d t.x ∧ t.l = op ∧ t.d = dimsFor ts op
open Classical in
noncomputable def jobB (k p n : Int) (ts : List Ten) (op ls : List Int) (ss : List Stp) (at_ : Int) (t : Ten) : Bool := decide (jobL k p n ts op ls ss at_ t)
theorem jobB_dec {k p n : Int} {ts : List Ten} {op ls : List Int} {ss : List Stp} {at_ : Int} {t : Ten} {b : Bool} (h : b = true ↔ jobL k p n ts op ls ss at_ t) : Value.bool b = .bool (jobB k p n ts op ls ss at_ t) := by
  unfold jobB
  congr 1
  rw [Bool.eq_iff_iff, h]
  simp
theorem jobB_no {k p n : Int} {ts : List Ten} {op ls : List Int} {ss : List Stp} {at_ : Int} {t : Ten} (h : ¬ jobL k p n ts op ls ss at_ t) : Value.bool false = .bool (jobB k p n ts op ls ss at_ t) := by simp [jobB, h]
set_option maxHeartbeats 1000000 in
theorem ct_s_JobOk (k p n at_ : Int) (ts : List Ten) (op ls : List Int) (ss : List Stp) (t : Ten) (vt vo a b c d e : Value) (w : World) (r : TensR ts vt (hp w)) (r' : IntsR op vo (hp w)) (ra : IntsR ls a (hp w)) (rb : StepsR ss b (hp w)) (rc : IntsR t.l c (hp w)) (rd : IntsR t.d d (hp w)) (re : IntsR t.x e (hp w)) (hs : op.length ≤ 1048576) (hss : ss.length ≤ 1048576) :
    Calls Tryz.prog 22 [netV k p n vt vo, jobV a b at_ c d e].toArray w (RetV w (.bool (jobB k p n ts op ls ss at_ t))) := by
  refine calls_in Tryz.func22 rfl Tryz.ntmps22 rfl (Sat.start w) ?_; have hle0 := r.le; obtain ⟨cs_r, rr_r, hc_r⟩ := r.at; have hle1 := r'.le; have hle2 := ra.le; have hle3 := rb.le; obtain ⟨cs_rb, rr_rb, hc_rb⟩ := rb.at; have hle4 := rc.le; have hle5 := rd.le; have hle6 := re.le; refine wp_sc (wp_sq ?_); refine sq_x rfl (x_box rfl rfl) rfl ?_; rintro _ _ ⟨b2, rfl, rfl⟩; refine sq_x rfl (x_box rfl rfl) rfl ?_; rintro _ _ ⟨b3, rfl, rfl⟩; refine sq_v rfl (v_assign rfl) rfl (sq_end (qs_n (wp_sc (wp_rj 40 [(0, true), (1, true), (2, true), (3, false), (4, true), (5, true), (6, true), (7, true), (8, true), (9, true), (10, false), (11, false), (12, true), (13, true), (14, true), (15, true), (16, true), (17, true), (18, false), (19, true), (20, true), (21, true), (22, true), (23, true), (24, true), (25, true), (26, false), (27, true), (28, true), (29, true), (30, true), (31, true), (32, true), (33, true), (34, true), (35, true), (36, false), (37, false), (38, true), (39, true)] mixed_ok (by kernel_rfl) (rj_v rfl rfl (v_loadNB 1 ty_39 rfl rfl rfl rfl) rfl (rj_v rfl rfl (v_fieldAddr fd_44_1 ty_41 (by decide) rfl) rfl (rj_v rfl rfl (v_loadB 0 ty_41 rfl rfl rfl) rfl (rj_u rfl rfl (x_callv rfl en_58 (fun w s => ct_s_OrderOk _ _ _ _ _ _ _ _ _ w (r.mono (s.get 2 rfl)) (r'.mono (s.get 2 rfl)) (rb.mono (s.get 2 rfl)) (by first | assumption | omega) (by first | assumption | omega))) rfl ?_)))))))); refine rj_bb 8 rfl (fun c8 => ?_) (fun c8 => ?_)
  · refine rj_v rfl rfl (v_move rfl) rfl (rj_v rfl rfl (v_fieldAddr fd_44_2 ty_3 (by decide) rfl) rfl (rj_v rfl rfl (v_loadB 0 ty_3 rfl rfl rfl) rfl (rj_v rfl rfl (v_loadNB 1 ty_39 rfl rfl rfl rfl) rfl (rj_v rfl rfl (v_fieldAddr fd_44_0 ty_25 (by decide) rfl) rfl (rj_v rfl rfl (v_loadB 0 ty_25 rfl rfl rfl) rfl (rj_u rfl rfl (x_callv rfl en_60 (fun w s => ct_s_SliceCount _ _ _ _ _ _ _ _ _ w (r.mono (s.get 2 rfl)) (r'.mono (s.get 2 rfl)) (ra.mono (s.get 2 rfl)) (by first | assumption | omega))) rfl (rj_u rfl rfl (x_callv rfl en_59 (fun w s => ct_s_l01In _ _ _ w)) rfl (rj_v rfl rfl (v_pickt rfl rfl) rfl ?_)))))))); refine rj_bd 17 rfl (fun c17 => ?_) (fun c17 => ?_)
    · refine rj_v rfl rfl (v_move rfl) rfl (rj_v rfl rfl (v_fieldAddr fd_39_0 ty_36 (by decide) rfl) rfl (rj_v rfl rfl (v_loadNB 1 ty_36 rfl rfl rfl rfl) rfl (rj_v rfl rfl (v_fieldAddr fd_44_3 ty_42 (by decide) rfl) rfl (rj_v rfl rfl (v_loadNB 0 ty_42 rfl rfl rfl rfl) rfl (rj_u rfl rfl (x_callv rfl en_61 (fun w s => ct_s_TensorOk _ _ _ _ _ _ _ _ _ w (rc.mono (s.get 2 rfl)) (rd.mono (s.get 2 rfl)) (re.mono (s.get 2 rfl)))) rfl (rj_v rfl rfl (v_pickt rfl rfl) rfl ?_)))))); refine rj_bb 24 rfl (fun c24 => ?_) (fun c24 => ?_)
      · refine rj_v rfl rfl (v_move rfl) rfl (rj_v rfl rfl (v_fieldAddr fd_44_3 ty_42 (by decide) rfl) rfl (rj_v rfl rfl (v_fieldAddr fd_42_0 ty_25 (by decide) rfl) rfl (rj_v rfl rfl (v_loadB 0 ty_25 rfl rfl rfl) rfl (rj_v rfl rfl (v_fieldAddr fd_39_2 ty_25 (by decide) rfl) rfl (rj_v rfl rfl (v_loadB 1 ty_25 rfl rfl rfl) rfl (rj_u rfl rfl (x_callv rfl en_62 (fun w s => ct_s_l06Equal _ _ _ _ w (rc.mono (s.get 2 rfl)) (r'.mono (s.get 2 rfl)))) rfl (rj_v rfl rfl (v_pickt rfl rfl) rfl ?_))))))); refine rj_bd 32 rfl (fun c32 => ?_) (fun c32 => ?_)
        · refine rj_v rfl rfl (v_move rfl) rfl (rj_v rfl rfl (v_fieldAddr fd_44_3 ty_42 (by decide) rfl) rfl (rj_v rfl rfl (v_fieldAddr fd_42_1 ty_25 (by decide) rfl) rfl (rj_v rfl rfl (v_loadB 0 ty_25 rfl rfl rfl) rfl (rj_v rfl rfl (v_fieldAddr fd_39_1 ty_37 (by decide) rfl) rfl (rj_v rfl rfl (v_loadB 1 ty_37 rfl rfl rfl) rfl (rj_v rfl rfl (v_fieldAddr fd_39_2 ty_25 (by decide) rfl) rfl (rj_v rfl rfl (v_loadB 1 ty_25 rfl rfl rfl) rfl ?_))))))); have hord := orderB_true.1 c8; have hnet := hord.1; have hax := net_ax hnet; refine rj_x rfl rfl (x_call rfl en_63 (fun w s => ct_s_l12Dims _ _ _ _ w (r.mono (s.get 2 rfl)) (r'.mono (s.get 2 rfl)) (by first | assumption | omega) (by first | assumption | omega))) rfl ?_; rintro v41 h41 r41; refine rj_u rfl rfl (x_callv rfl en_62 (fun w s => ct_s_l06Equal _ _ _ _ w (rd.mono (s.get 3 rfl)) (r41.toR.mono (s.get 0 rfl)))) rfl (rj_v rfl rfl (v_pickt rfl rfl) rfl (rj_v rfl rfl (v_assign rfl) rfl (rj_end (qs_n (wp_rt ?_))))); exact qs_ret1 rfl rfl (fin_q (i := 3) rfl (by first | exact jobB_no (fun h => orderB_false.1 c8 h.1) | exact jobB_no (fun h => c17 h.2.1) | exact jobB_no (fun h => tensorB_false.1 c24 h.2.2.1) | exact jobB_no (fun h => c32 h.2.2.2.1) | exact jobB_dec (by rw [decide_eq_true_iff]; exact ⟨fun h => ⟨orderB_true.1 c8, c17, tensorB_true.1 c24, c32, h⟩, fun h => h.2.2.2.2⟩)))
        · refine rj_v rfl rfl (v_move rfl) rfl (rj_s rfl rfl rfl (rj_s rfl rfl rfl (rj_s rfl rfl rfl (rj_s rfl rfl rfl (rj_s rfl rfl rfl (rj_s rfl rfl rfl (rj_s rfl rfl rfl (rj_fs rfl rfl rfl (rj_fs rfl rfl rfl ?_))))))))); refine rj_v rfl rfl (v_pickf rfl rfl) rfl (rj_v rfl rfl (v_assign rfl) rfl (rj_end (qs_n (wp_rt ?_)))); exact qs_ret1 rfl rfl (fin_q (i := 2) rfl (by first | exact jobB_no (fun h => orderB_false.1 c8 h.1) | exact jobB_no (fun h => c17 h.2.1) | exact jobB_no (fun h => tensorB_false.1 c24 h.2.2.1) | exact jobB_no (fun h => c32 h.2.2.2.1) | exact jobB_dec (by rw [decide_eq_true_iff]; exact ⟨fun h => ⟨orderB_true.1 c8, c17, tensorB_true.1 c24, c32, h⟩, fun h => h.2.2.2.2⟩)))
      · refine rj_v rfl rfl (v_move rfl) rfl (rj_s rfl rfl rfl (rj_s rfl rfl rfl (rj_s rfl rfl rfl (rj_s rfl rfl rfl (rj_s rfl rfl rfl (rj_fs rfl rfl rfl (rj_v rfl rfl (v_pickf rfl rfl) rfl (rj_v rfl rfl (v_move rfl) rfl (rj_s rfl rfl rfl ?_))))))))); refine rj_s rfl rfl rfl (rj_s rfl rfl rfl (rj_s rfl rfl rfl (rj_s rfl rfl rfl (rj_s rfl rfl rfl (rj_s rfl rfl rfl (rj_fs rfl rfl rfl (rj_fs rfl rfl rfl (rj_v rfl rfl (v_pickf rfl rfl) rfl (rj_v rfl rfl (v_assign rfl) rfl (rj_end (qs_n (wp_rt ?_)))))))))))); exact qs_ret1 rfl rfl (fin_q (i := 2) rfl (by first | exact jobB_no (fun h => orderB_false.1 c8 h.1) | exact jobB_no (fun h => c17 h.2.1) | exact jobB_no (fun h => tensorB_false.1 c24 h.2.2.1) | exact jobB_no (fun h => c32 h.2.2.2.1) | exact jobB_dec (by rw [decide_eq_true_iff]; exact ⟨fun h => ⟨orderB_true.1 c8, c17, tensorB_true.1 c24, c32, h⟩, fun h => h.2.2.2.2⟩)))
    · refine rj_v rfl rfl (v_move rfl) rfl (rj_s rfl rfl rfl (rj_s rfl rfl rfl (rj_s rfl rfl rfl (rj_s rfl rfl rfl (rj_fs rfl rfl rfl (rj_v rfl rfl (v_pickf rfl rfl) rfl (rj_v rfl rfl (v_move rfl) rfl (rj_s rfl rfl rfl (rj_s rfl rfl rfl ?_))))))))); refine rj_s rfl rfl rfl (rj_s rfl rfl rfl (rj_s rfl rfl rfl (rj_fs rfl rfl rfl (rj_v rfl rfl (v_pickf rfl rfl) rfl (rj_v rfl rfl (v_move rfl) rfl (rj_s rfl rfl rfl (rj_s rfl rfl rfl (rj_s rfl rfl rfl (rj_s rfl rfl rfl ?_))))))))); refine rj_s rfl rfl rfl (rj_s rfl rfl rfl (rj_s rfl rfl rfl (rj_fs rfl rfl rfl (rj_fs rfl rfl rfl (rj_v rfl rfl (v_pickf rfl rfl) rfl (rj_v rfl rfl (v_assign rfl) rfl (rj_end (qs_n (wp_rt ?_))))))))); exact qs_ret1 rfl rfl (fin_q (i := 2) rfl (by first | exact jobB_no (fun h => orderB_false.1 c8 h.1) | exact jobB_no (fun h => c17 h.2.1) | exact jobB_no (fun h => tensorB_false.1 c24 h.2.2.1) | exact jobB_no (fun h => c32 h.2.2.2.1) | exact jobB_dec (by rw [decide_eq_true_iff]; exact ⟨fun h => ⟨orderB_true.1 c8, c17, tensorB_true.1 c24, c32, h⟩, fun h => h.2.2.2.2⟩)))
  · refine rj_v rfl rfl (v_move rfl) rfl (rj_s rfl rfl rfl (rj_s rfl rfl rfl (rj_s rfl rfl rfl (rj_s rfl rfl rfl (rj_s rfl rfl rfl (rj_fs rfl rfl rfl (rj_fs rfl rfl rfl (rj_v rfl rfl (v_pickf rfl rfl) rfl (rj_v rfl rfl (v_move rfl) rfl ?_))))))))); refine rj_s rfl rfl rfl (rj_s rfl rfl rfl (rj_s rfl rfl rfl (rj_s rfl rfl rfl (rj_fs rfl rfl rfl (rj_v rfl rfl (v_pickf rfl rfl) rfl (rj_v rfl rfl (v_move rfl) rfl (rj_s rfl rfl rfl (rj_s rfl rfl rfl (rj_s rfl rfl rfl ?_))))))))); refine rj_s rfl rfl rfl (rj_s rfl rfl rfl (rj_fs rfl rfl rfl (rj_v rfl rfl (v_pickf rfl rfl) rfl (rj_v rfl rfl (v_move rfl) rfl (rj_s rfl rfl rfl (rj_s rfl rfl rfl (rj_s rfl rfl rfl (rj_s rfl rfl rfl (rj_s rfl rfl rfl ?_))))))))); refine rj_s rfl rfl rfl (rj_s rfl rfl rfl (rj_fs rfl rfl rfl (rj_fs rfl rfl rfl (rj_v rfl rfl (v_pickf rfl rfl) rfl (rj_v rfl rfl (v_assign rfl) rfl (rj_end (qs_n (wp_rt ?_)))))))); exact qs_ret1 rfl rfl (fin_q (i := 2) rfl (by first | exact jobB_no (fun h => orderB_false.1 c8 h.1) | exact jobB_no (fun h => c17 h.2.1) | exact jobB_no (fun h => tensorB_false.1 c24 h.2.2.1) | exact jobB_no (fun h => c32 h.2.2.2.1) | exact jobB_dec (by rw [decide_eq_true_iff]; exact ⟨fun h => ⟨orderB_true.1 c8, c17, tensorB_true.1 c24, c32, h⟩, fun h => h.2.2.2.2⟩)))
set_option maxHeartbeats 1000000 in
theorem ct_i_JobOk (k p n at_ : Int) (ts : List Ten) (op ls : List Int) (ss : List Stp) (t : Ten) (vt vo a b c d e : Value) (w : World) (r : TensR ts vt (hp w)) (r' : IntsR op vo (hp w)) (ra : IntsR ls a (hp w)) (rb : StepsR ss b (hp w)) (rc : IntsR t.l c (hp w)) (rd : IntsR t.d d (hp w)) (re : IntsR t.x e (hp w)) (hs : op.length ≤ 1048576) :
    Calls Tryz.prog 32 [netV k p n vt vo, jobV a b at_ c d e].toArray w (RetV w (.bool (jobB k p n ts op ls ss at_ t))) := by
  refine calls_in Tryz.func32 rfl Tryz.ntmps32 rfl (Sat.start w) ?_; have hle0 := r.le; obtain ⟨cs_r, rr_r, hc_r⟩ := r.at; have hle1 := r'.le; have hle2 := ra.le; have hle3 := rb.le; obtain ⟨cs_rb, rr_rb, hc_rb⟩ := rb.at; have hle4 := rc.le; have hle5 := rd.le; have hle6 := re.le; refine wp_sc (wp_sq ?_); refine sq_x rfl (x_box rfl rfl) rfl ?_; rintro _ _ ⟨b2, rfl, rfl⟩; refine sq_x rfl (x_box rfl rfl) rfl ?_; rintro _ _ ⟨b3, rfl, rfl⟩; refine sq_v rfl (v_assign rfl) rfl (sq_end (qs_n (wp_sc (wp_sq (sq_v rfl (v_loadNB 1 ty_39 rfl rfl rfl rfl) rfl (sq_v rfl (v_fieldAddr fd_44_0 ty_25 (by decide) rfl) rfl (sq_v rfl (v_loadB 0 ty_25 rfl rfl rfl) rfl (sq_u rfl (x_callv rfl en_69 (fun w s => ct_i_SliceCount _ _ _ _ _ _ _ _ _ w (r.mono (s.get 2 rfl)) (r'.mono (s.get 2 rfl)) (ra.mono (s.get 2 rfl)) (by first | assumption | omega))) rfl (sq_v rfl (v_assign rfl) rfl (sq_end (qs_n (wp_sc (wp_sc (wp_sq (sq_v rfl (v_move rfl) rfl (sq_v rfl (v_eql rfl rfl) rfl ?_)))))))))))))))); refine sq_bd 12 rfl (fun c12 => ?_) (fun c12 => ?_)
  · refine sq_v rfl (v_move rfl) rfl (sq_s rfl rfl (sq_s rfl rfl (sq_s rfl rfl (sq_s rfl rfl (sq_s rfl rfl (sq_v rfl (v_pickt rfl rfl) rfl (sq_v rfl (v_move rfl) rfl (sq_s rfl rfl (sq_s rfl rfl ?_))))))))); refine sq_s rfl rfl (sq_v rfl (v_pickt rfl rfl) rfl (sq_v rfl (v_move rfl) rfl (sq_s rfl rfl (sq_s rfl rfl (sq_s rfl rfl (sq_s rfl rfl (sq_v rfl (v_pickt rfl rfl) rfl (sq_end (qs_n (wp_ct rfl (wp_sc (wp_sq (sq_v rfl (v_assign rfl) rfl (sq_end (qs_n (wp_rt (qs_r ?_))))))))))))))))); exact qs_ret1 rfl rfl (fin_q (i := 2) rfl (jobB_no (fun h => by have h1 := h.2.1; first | omega | exact orderB_false.1 c19 h.1)))
  · refine sq_v rfl (v_move rfl) rfl (sq_v rfl (v_loadNB 1 ty_39 rfl rfl rfl rfl) rfl (sq_v rfl (v_fieldAddr fd_44_1 ty_41 (by decide) rfl) rfl (sq_v rfl (v_loadB 0 ty_41 rfl rfl rfl) rfl (sq_u rfl (x_callv rfl en_70 (fun w s => ct_i_OrderOk _ _ _ _ _ _ _ _ _ w (r.mono (s.get 2 rfl)) (r'.mono (s.get 2 rfl)) (rb.mono (s.get 2 rfl)) (by first | assumption | omega))) rfl (sq_v rfl (v_not rfl) rfl (sq_v rfl (v_pickf rfl rfl) rfl ?_)))))); refine sq_bn 19 rfl (fun c19 => ?_) (fun c19 => ?_)
    · refine sq_v rfl (v_move rfl) rfl (sq_s rfl rfl (sq_s rfl rfl (sq_s rfl rfl (sq_v rfl (v_pickt rfl rfl) rfl (sq_v rfl (v_move rfl) rfl (sq_s rfl rfl (sq_s rfl rfl (sq_s rfl rfl (sq_s rfl rfl ?_))))))))); refine sq_v rfl (v_pickt rfl rfl) rfl (sq_end (qs_n (wp_ct rfl (wp_sc (wp_sq (sq_v rfl (v_assign rfl) rfl (sq_end (qs_n (wp_rt (qs_r ?_)))))))))); exact qs_ret1 rfl rfl (fin_q (i := 2) rfl (jobB_no (fun h => by have h1 := h.2.1; first | omega | exact orderB_false.1 c19 h.1)))
    · refine sq_v rfl (v_move rfl) rfl (sq_v rfl (v_fieldAddr fd_44_2 ty_3 (by decide) rfl) rfl (sq_v rfl (v_loadB 0 ty_3 rfl rfl rfl) rfl (sq_v rfl (v_lss rfl rfl) rfl (sq_v rfl (v_pickf rfl rfl) rfl ?_)))); refine sq_bd 24 rfl (fun c24 => ?_) (fun c24 => ?_)
      · refine sq_v rfl (v_move rfl) rfl (sq_s rfl rfl (sq_s rfl rfl (sq_s rfl rfl (sq_s rfl rfl (sq_v rfl (v_pickt rfl rfl) rfl (sq_end (qs_n (wp_ct rfl (wp_sc (wp_sq (sq_v rfl (v_assign rfl) rfl (sq_end (qs_n (wp_rt (qs_r ?_))))))))))))))); exact qs_ret1 rfl rfl (fin_q (i := 2) rfl (jobB_no (fun h => by have h1 := h.2.1; first | omega | exact orderB_false.1 c19 h.1)))
      · refine sq_v rfl (v_move rfl) rfl (sq_v rfl (v_fieldAddr fd_44_2 ty_3 (by decide) rfl) rfl (sq_v rfl (v_loadB 0 ty_3 rfl rfl rfl) rfl (sq_v rfl (v_move rfl) rfl (sq_v rfl (v_gtr rfl rfl) rfl (sq_v rfl (v_pickf rfl rfl) rfl (sq_end (qs_n ?_))))))); refine wp_cd rfl (fun c30 => ?_) (fun c30 => ?_)
        · refine wp_sc (wp_sq (sq_v rfl (v_assign rfl) rfl (sq_end (qs_n (wp_rt (qs_r ?_)))))); exact qs_ret1 rfl rfl (fin_q (i := 2) rfl (jobB_no (fun h => by have h1 := h.2.1; first | omega | exact orderB_false.1 c19 h.1)))
        · refine wp_sk (qs_n (wp_sc (wp_sq (sq_v rfl (v_loadNB 1 ty_39 rfl rfl rfl rfl) rfl ?_)))); have hord := orderB_true.1 c19; have hnet := hord.1; refine sq_x rfl (x_call rfl en_71 (fun w s => ct_i_openAxes _ _ _ _ _ _ _ w (r.mono (s.get 2 rfl)) (r'.mono (s.get 2 rfl)) (by first | assumption | omega) (by first | assumption | omega))) rfl ?_; rintro _ h32 ⟨u1, u2, rfl, ru1, ru2⟩; refine sq_x rfl (x_alloc ty_42 rfl) rfl ?_; rintro _ _ ⟨b6, rfl, rfl⟩; refine sq_m 0 rfl rfl (m_store 0 ty_42 rfl rfl rfl rfl (by simp [ru1.sl.one, ru2.sl.one, one_sl]) rfl (Nat.le_of_ble_eq_true rfl)) rfl ?_; rintro _ _ ⟨rfl, rfl⟩; refine sq_end (qs_n (wp_sc (wp_sq (sq_v rfl (v_fieldAddr fd_39_0 ty_36 (by decide) rfl) rfl (sq_v rfl (v_loadNB 3 ty_36 rfl rfl rfl rfl) rfl (sq_v rfl (v_fieldAddr fd_44_3 ty_42 (by decide) rfl) rfl (sq_v rfl (v_loadNB 2 ty_42 rfl rfl rfl rfl) rfl (sq_u rfl (x_callv rfl en_72 (fun w s => ct_i_TensorOk _ _ _ _ _ _ _ _ _ w (rc.mono (s.get 4 rfl)) (rd.mono (s.get 4 rfl)) (re.mono (s.get 4 rfl)))) rfl ?_)))))))); refine sq_bb 37 rfl (fun c37 => ?_) (fun c37 => ?_)
          · refine sq_v rfl (v_move rfl) rfl (sq_v rfl (v_fieldAddr fd_44_3 ty_42 (by decide) rfl) rfl (sq_v rfl (v_fieldAddr fd_42_0 ty_25 (by decide) rfl) rfl (sq_v rfl (v_loadB 2 ty_25 rfl rfl rfl) rfl (sq_v rfl (v_fieldAddr fd_42_0 ty_25 (by decide) rfl) rfl (sq_v rfl (v_loadB 0 ty_25 rfl rfl rfl) rfl (sq_u rfl (x_callv rfl en_73 (fun w s => ct_i_equalInts _ _ _ _ w (rc.mono (s.get 4 rfl)) (ru1.mono (s.get 1 rfl)))) rfl (sq_v rfl (v_pickt rfl rfl) rfl ?_))))))); refine sq_bd 45 rfl (fun c45 => ?_) (fun c45 => ?_)
            · refine sq_v rfl (v_move rfl) rfl (sq_v rfl (v_fieldAddr fd_44_3 ty_42 (by decide) rfl) rfl (sq_v rfl (v_fieldAddr fd_42_1 ty_25 (by decide) rfl) rfl (sq_v rfl (v_loadB 2 ty_25 rfl rfl rfl) rfl (sq_v rfl (v_fieldAddr fd_42_1 ty_25 (by decide) rfl) rfl (sq_v rfl (v_loadB 0 ty_25 rfl rfl rfl) rfl (sq_u rfl (x_callv rfl en_73 (fun w s => ct_i_equalInts _ _ _ _ w (rd.mono (s.get 4 rfl)) (ru2.mono (s.get 1 rfl)))) rfl (sq_v rfl (v_pickt rfl rfl) rfl (sq_v rfl (v_assign rfl) rfl (sq_end (qs_n (wp_rt ?_))))))))))); exact qs_ret1 rfl rfl (fin_q (i := 4) rfl (by first | exact jobB_no (fun h => tensorB_false.1 c37 h.2.2.1) | exact jobB_no (fun h => c45 h.2.2.2.1) | exact jobB_dec (by rw [decide_eq_true_iff]; exact ⟨fun h => ⟨hord, ⟨by omega, by omega⟩, tensorB_true.1 c37, c45, h⟩, fun h => h.2.2.2.2⟩)))
            · refine sq_v rfl (v_move rfl) rfl (sq_s rfl rfl (sq_s rfl rfl (sq_s rfl rfl (sq_s rfl rfl (sq_s rfl rfl (sq_s rfl rfl (sq_v rfl (v_pickf rfl rfl) rfl (sq_v rfl (v_assign rfl) rfl (sq_end (qs_n (wp_rt ?_))))))))))); exact qs_ret1 rfl rfl (fin_q (i := 4) rfl (by first | exact jobB_no (fun h => tensorB_false.1 c37 h.2.2.1) | exact jobB_no (fun h => c45 h.2.2.2.1) | exact jobB_dec (by rw [decide_eq_true_iff]; exact ⟨fun h => ⟨hord, ⟨by omega, by omega⟩, tensorB_true.1 c37, c45, h⟩, fun h => h.2.2.2.2⟩)))
          · refine sq_v rfl (v_move rfl) rfl (sq_s rfl rfl (sq_s rfl rfl (sq_s rfl rfl (sq_s rfl rfl (sq_s rfl rfl (sq_s rfl rfl (sq_v rfl (v_pickf rfl rfl) rfl (sq_v rfl (v_move rfl) rfl (sq_s rfl rfl ?_))))))))); refine sq_s rfl rfl (sq_s rfl rfl (sq_s rfl rfl (sq_s rfl rfl (sq_s rfl rfl (sq_v rfl (v_pickf rfl rfl) rfl (sq_v rfl (v_assign rfl) rfl (sq_end (qs_n (wp_rt ?_))))))))); exact qs_ret1 rfl rfl (fin_q (i := 4) rfl (by first | exact jobB_no (fun h => tensorB_false.1 c37 h.2.2.1) | exact jobB_no (fun h => c45 h.2.2.2.1) | exact jobB_dec (by rw [decide_eq_true_iff]; exact ⟨fun h => ⟨hord, ⟨by omega, by omega⟩, tensorB_true.1 c37, c45, h⟩, fun h => h.2.2.2.2⟩)))
end Go.Proofs.YtiefkcaplhnnmaaGreatDoor
namespace Go.Proofs.YtiefkcaplhnnmaaGreatDoor
set_option maxRecDepth 100000
open Go.RowKit
def JobO (ls : List Int) (ss : List Stp) (t : Ten) (a b c d e : Value) (h : PH) : Prop := ∃ h1 h2 h3, IntsO ls a h1 ∧ StepsO ss b h2 ∧ TriO t c d e h3 ∧ Made h [h1, h2, h3]
theorem JobO.toR {ls : List Int} {ss : List Stp} {t : Ten} {a b c d e : Value} {h : PH} (r : JobO ls ss t a b c d e h) : IntsR ls a h ∧ StepsR ss b h ∧ IntsR t.l c h ∧ IntsR t.d d h ∧ IntsR t.x e h := by
  obtain ⟨h1, h2, h3, r1, r2, r3, m⟩ := r; have l := m.le h3 (by simp); exact ⟨r1.toR.mono (m.le h1 (by simp)), r2.toR.mono (m.le h2 (by simp)), r3.toR.1.mono l, r3.toR.2.1.mono l, r3.toR.2.2.mono l⟩
theorem ct_l_eqJob (ls : List Int) (ss : List Stp) (n : Int) (t : Ten) (a b c d e a' b' c' d' e' : Value) (w : World) (ra : IntsR ls a (hp w)) (rb : StepsR ss b (hp w)) (rc : IntsR t.l c (hp w)) (rd : IntsR t.d d (hp w)) (re : IntsR t.x e (hp w)) (ra' : IntsR ls a' (hp w)) (rb' : StepsR ss b' (hp w)) (rc' : IntsR t.l c' (hp w)) (rd' : IntsR t.d d' (hp w)) (re' : IntsR t.x e' (hp w)) :
    Calls Tryz.prog 12 [jobV a b n c d e, jobV a' b' n c' d' e'].toArray w (RetV w (.bool true)) := by
  refine calls_in Tryz.func12 rfl Tryz.ntmps12 rfl (Sat.start w) ?_; have hle0 := ra.le; have hle1 := rb.le; obtain ⟨cs_rb, rr_rb, hc_rb⟩ := rb.at; have hle2 := rc.le; have hle3 := rd.le; have hle4 := re.le; have hle5 := ra'.le; have hle6 := rb'.le; obtain ⟨cs_rb_, rr_rb_, hc_rb_⟩ := rb'.at; have hle7 := rc'.le; have hle8 := rd'.le; have hle9 := re'.le; refine wp_sc (wp_sq ?_); refine sq_x rfl (x_box rfl rfl) rfl ?_; rintro _ _ ⟨b2, rfl, rfl⟩; refine sq_x rfl (x_box rfl rfl) rfl ?_; rintro _ _ ⟨b3, rfl, rfl⟩; refine sq_v rfl (v_assign rfl) rfl (sq_end (qs_n (wp_sc (wp_sc (wp_sq (sq_v rfl (v_fieldAddr fd_44_0 ty_25 (by decide) rfl) rfl (sq_v rfl (v_loadB 1 ty_25 rfl rfl rfl) rfl (sq_v rfl (v_fieldAddr fd_44_0 ty_25 (by decide) rfl) rfl (sq_v rfl (v_loadB 0 ty_25 rfl rfl rfl) rfl (sq_u rfl (x_callv rfl en_39 (fun w s => ct_l_eqIntS _ _ _ _ w (ra.mono (s.get 2 rfl)) (ra'.mono (s.get 2 rfl)) (by first | assumption | exact iota_held _ _ | omega | rfl))) rfl (sq_v rfl (v_not rfl) rfl (sq_end (qs_n (wp_cf rfl (wp_sk (qs_n (wp_sc (wp_sc (wp_sq (sq_v rfl (v_fieldAddr fd_44_1 ty_41 (by decide) rfl) rfl (sq_v rfl (v_loadB 1 ty_41 rfl rfl rfl) rfl ?_))))))))))))))))))))); refine sq_v rfl (v_fieldAddr fd_44_1 ty_41 (by decide) rfl) rfl (sq_v rfl (v_loadB 0 ty_41 rfl rfl rfl) rfl (sq_u rfl (x_callv rfl en_40 (fun w s => ct_l_eqStepS _ _ _ w (rb.mono (s.get 2 rfl)) (rb'.mono (s.get 2 rfl)))) rfl (sq_v rfl (v_not rfl) rfl (sq_end (qs_n (wp_cf rfl (wp_sk (qs_n (wp_sc (wp_sc (wp_sq (sq_v rfl (v_fieldAddr fd_44_2 ty_3 (by decide) rfl) rfl (sq_v rfl (v_loadB 1 ty_3 rfl rfl rfl) rfl (sq_v rfl (v_fieldAddr fd_44_2 ty_3 (by decide) rfl) rfl (sq_v rfl (v_loadB 0 ty_3 rfl rfl rfl) rfl (sq_v rfl (v_neqs rfl rfl) rfl (sq_end (qs_n ?_)))))))))))))))))); refine wp_cf rfl (wp_sk (qs_n (wp_sc (wp_sc (wp_sq (sq_v rfl (v_fieldAddr fd_44_3 ty_42 (by decide) rfl) rfl (sq_v rfl (v_loadNB 1 ty_42 rfl rfl rfl rfl) rfl (sq_v rfl (v_fieldAddr fd_44_3 ty_42 (by decide) rfl) rfl (sq_v rfl (v_loadNB 0 ty_42 rfl rfl rfl rfl) rfl (sq_u rfl (x_callv rfl en_41 (fun w s => ct_l_eqTensor _ _ _ _ _ _ _ w (rc.mono (s.get 2 rfl)) (rd.mono (s.get 2 rfl)) (re.mono (s.get 2 rfl)) (rc'.mono (s.get 2 rfl)) (rd'.mono (s.get 2 rfl)) (re'.mono (s.get 2 rfl)))) rfl (sq_v rfl (v_not rfl) rfl (sq_end (qs_n (wp_cf rfl (wp_sk (qs_n (wp_sc (wp_sq (sq_v rfl (v_assign rfl) rfl (sq_end (qs_n (wp_rt ?_)))))))))))))))))))))); exact qs_ret1 rfl rfl (fin_v (i := 2) rfl)
end Go.Proofs.YtiefkcaplhnnmaaGreatDoor
namespace Go.Proofs.YtiefkcaplhnnmaaGreatDoor
set_option maxRecDepth 100000
open Go.RowKit
/-- A string by its bytes. -/
def strV (l : List UInt8) : Value := .string ⟨l.toArray⟩
theorem str_size (l : List UInt8) : (⟨l.toArray⟩ : ByteArray).size = l.length := by simp [ByteArray.size]
theorem str_one (l : List UInt8) : (strV l).oneCell' = true := rfl
theorem str_mk (s : ByteArray) : Value.string s = strV s.data.toList := by simp [strV]
section
variable {P : Program} {n : Nat} {w0 : World} {K : Env} {HS : List PH} {d : Option Tmp} {ty : TypeId} {ps : String} {af : Array Edge} {g : Option (Nat × Bool)}
theorem v_addS {t t' : TypeId} {x y : Operand} {a b : List UInt8} (hx : ev K x = some (strV a)) (hy : ev K y = some (strV b)) (h : a.length + b.length ≤ 9223372036854775807) : StepV P n w0 K HS ⟨d, .binOp .add t x y t', ty, ps, af, g⟩ (strV (a ++ b)) := fun ac w e _ => by
  have h1 := run_string_add_sum (P := P) w ⟨a.toArray⟩ ⟨b.toArray⟩ (by rw [str_size, str_size]; exact h); rw [ByteArray.mk_append_mk] at h1; have hx' := e.ev hx; have hy' := e.ev hy
  unfold strV at hx' hy' ⊢
  simp [execOp, hx', hy', eqGuard, binOp, h1]
theorem str_list (l : List UInt8) : (⟨l.toArray⟩ : ByteArray).toList = l := ByteArray.toList_mk l
theorem beq_dec (a b : List UInt8) : (a == b) = decide (a = b) := by
  by_cases h : a = b <;> simp [h]
theorem v_eqlS {t t' : TypeId} {x y : Operand} {a b : List UInt8} (_ : P.underlying t = some .string) (hx : ev K x = some (strV a)) (hy : ev K y = some (strV b)) : StepV P n w0 K HS ⟨d, .binOp .eql t x y t', ty, ps, af, g⟩ (.bool (decide (a = b))) := fun ac w e _ => by
  have hx' := e.ev hx; have hy' := e.ev hy
  unfold strV at hx' hy'
  simp only [execOp, hx', hy', eqGuard, binOp_string_eql, str_list, Sem.run_bind, Sem.run_pure, Result.andThen_ok, Bool.not_true, Bool.false_eq_true, if_false, beq_dec]
theorem v_neqS' {t t' : TypeId} {x y : Operand} {a b : List UInt8} (_ : P.underlying t = some .string) (hx : ev K x = some (strV a)) (hy : ev K y = some (strV b)) : StepV P n w0 K HS ⟨d, .binOp .neq t x y t', ty, ps, af, g⟩ (.bool (decide (a ≠ b))) := fun ac w e _ => by
  have hx' := e.ev hx; have hy' := e.ev hy
  unfold strV at hx' hy'
  have : (!(a == b)) = decide (a ≠ b) := by
    by_cases h : a = b <;> simp [h]
  simp only [execOp, hx', hy', eqGuard, binOp_string_neq, str_list, this, Sem.run_bind, Sem.run_pure, Result.andThen_ok, Bool.not_true, Bool.false_eq_true, if_false]
/-- An integer turned into another kind. -/
theorem v_convK {src dst : TypeId} {x : Operand} {q k : IntKind} {a b : Int} (hs : (P.underlying src).isSome = true) (hd : P.underlying dst = some (.int k)) (hx : ev K x = some (.int q a)) (hw : k.wrap a = b) : StepV P n w0 K HS ⟨d, .convert src dst x, ty, ps, af, g⟩ (.int k b) := fun ac w e _ => by
  obtain ⟨u, hu⟩ := Option.isSome_iff_exists.mp hs
  simp [execOp, e.ev hx, convert, run_underlying hu, run_underlying hd, Conv.intToInt, hw]
/-- One byte in a slice as a string. -/
theorem v_convS {src dst e' : TypeId} {x : Operand} {v : Value} {b : Int} {h : PH} (p : Nat) (hs : P.underlying src = some (.slice e')) (he : P.underlying e' = some (.int .u8)) (hd : P.underlying dst = some .string) (hx : ev K x = some v) (hp : HS[p]? = some h)
    (r : RowR [.int .u8 b] 1 1 v h) : StepV P n w0 K HS ⟨d, .convert src dst x, ty, ps, af, g⟩ (strV [UInt8.ofNat b.toNat]) := fun ac w e s => by
  obtain ⟨_, a, c, rfl, _, h4⟩ := r; obtain ⟨blk, o, rfl, hc⟩ := h4 (by decide); have hle := s.get p hp; have h6 := run_convert_bytes_arg (P := P) w src e' hs he blk o 1 c [b] rfl (fun i hi => by
    have : i = 0 := by omega
    subst this; exact cell_of hle (hc 0 _ rfl)) dst hd
  simp [execOp, e.ev hx, h6]
  rfl
end
def strs (xs : List (List UInt8)) : List Value := xs.map strV
theorem strs_length (xs : List (List UInt8)) : (strs xs).length = xs.length := by simp [strs]
theorem strs_get {xs : List (List UInt8)} {k : Nat} (h : k < xs.length) : (strs xs)[k]? = some (strV (xs.getD k [])) := by
  simp [strs, List.getD, h]
theorem strs_one (xs : List (List UInt8)) : ∀ a ∈ strs xs, a.oneCell' = true := by
  intro a ha; simp only [strs, List.mem_map] at ha; obtain ⟨x, _, rfl⟩ := ha
  rfl
theorem strs_append (xs ys : List (List UInt8)) : strs (xs ++ ys) = strs xs ++ strs ys := by simp [strs]
theorem strs_set (xs : List (List UInt8)) (k : Nat) (x : List UInt8) : (strs xs).set k (strV x) = strs (xs.set k x) := by simp [strs, List.map_set]
def StrsR (xs : List (List UInt8)) (v : Value) (h : PH) : Prop := RowR (strs xs) xs.length 1 v h
def StrsO (xs : List (List UInt8)) (v : Value) (h : PH) : Prop := RowO 9 (strs xs) xs.length 1 v h
theorem StrsR.mono {xs : List (List UInt8)} {v : Value} {h h' : PH} (r : StrsR xs v h) (l : PLe h h') : StrsR xs v h' := RowR.mono r l
theorem StrsO.toR {xs : List (List UInt8)} {v : Value} {h : PH} (r : StrsO xs v h) : StrsR xs v h := RowO.toR r
theorem StrsR.sl {xs : List (List UInt8)} {v : Value} {h : PH} (r : StrsR xs v h) : SlL v xs.length := RowR.sl r
theorem StrsR.le {xs : List (List UInt8)} {v : Value} {h : PH} (r : StrsR xs v h) : (xs.length : Int) ≤ 9223372036854775807 := by
  obtain ⟨_, a, c, _, ⟨h, _⟩, _⟩ := r
  unfold maxLen at h
  omega
theorem StrsO.nil : StrsO [] (.slice none 0 0) emp := ⟨rfl, .inl ⟨rfl, rfl, rfl⟩⟩
section
variable {P : Program} {n : Nat} {w0 : World} {K : Env} {HS : List PH} {d : Option Tmp} {ty : TypeId} {ps : String} {af : Array Edge} {g : Option (Nat × Bool)}
theorem v_idxU {t e' : TypeId} {x ix : Operand} {z : Value} {bytes : Nat} {agg : Bool} {v : Value} {k : IntKind} {i : Int} {xs : List (List UInt8)} {h : PH} (ht : P.underlying t = some (.slice e')) (he : TyF P e' z 1 bytes agg)
    (hx : ev K x = some v) (hi : ev K ix = some (.int k i)) (r : StrsR xs v h) (h0 : 0 ≤ i) (h1 : i < xs.length) : StepV P n w0 K HS ⟨d, .indexAddr t x ix, ty, ps, af, g⟩ (eltP v i.toNat) := by
  have := v_indexAddr (P := P) (n := n) (w0 := w0) (HS := HS) (d := d) (ty := ty) (ps := ps) (af := af) (g := g) ht he hx hi r (by decide) h0 h1
  rwa [Nat.mul_one] at this
theorem v_loadU {t : TypeId} {z : Value} {bytes k : Nat} {x : Operand} {v : Value} {xs : List (List UInt8)} {h : PH} (p : Nat) (ht : TyF P t z 1 bytes false) (hx : ev K x = some (eltP v k)) (hp : HS[p]? = some h) (r : StrsR xs v h) (hk : k < xs.length) :
    StepV P n w0 K HS ⟨d, .load t x, ty, ps, af, g⟩ (strV (xs.getD k [])) := v_loadE p ht hx hp r (strs_get hk)
theorem m_storeU {t : TypeId} {x y : Operand} {z : Value} {bytes : Nat} {agg : Bool} {k : Nat} {sv : Value} {a : List UInt8} {xs : List (List UInt8)} {h : PH} (p : Nat) (ht : TyF P t z 1 bytes agg) (hx : ev K x = some (eltP sv k)) (hy : ev K y = some (strV a))
    (hp' : HS[p]? = some h) (r : StrsO xs sv h) (hk : k < xs.length) :
    StepX P n w0 K HS ⟨d, .store t x y, ty, ps, af, g⟩ h (fun v' h' => v' = undef ∧ StrsO (xs.set k a) sv h') := by
  have hk' : k < (strs xs).length := by rw [strs_length]; exact hk
  have := m_storeE (P := P) (n := n) (w0 := w0) (d := d) (ty := ty) (ps := ps) (af := af) (g := g) p ht hx hy (us := [strV a]) rfl rfl (by simp [str_one]) hp' r (by decide) (by omega); rw [set_eq_parts hk', strs_set] at this
  unfold StrsO
  rw [List.length_set]; exact this
theorem x_makeU {t : TypeId} {x y : Operand} {bytes : Nat} {m : Int} (ht : P.underlying t = some (.slice 9)) (he : TyF P 9 (strV []) 1 bytes false)
    (hx : ev K x = some (.int .i64 m)) (hy : ev K y = some (.int .i64 m)) (h0 : 0 ≤ m) (h1 : bytes * m ≤ 281474976710656) (h2 : m ≤ 9223372036854775807) :
    StepX P n w0 K HS ⟨d, .makeSlice t x y, ty, ps, af, g⟩ emp (StrsO (List.replicate m.toNat [])) := by
  have := x_make (P := P) (n := n) (w0 := w0) (HS := HS) (d := d) (ty := ty) (ps := ps) (af := af) (g := g) ht he (zs := [strV []]) rfl rfl hx hy h0 h1 h2; have e1 : (List.replicate m.toNat [strV []]).flatten = strs (List.replicate m.toNat []) := by
    rw [List.flatten_replicate_singleton]; simp [strs]
  rw [e1] at this
  unfold StrsO
  rw [List.length_replicate]; exact this
theorem m_appU {t : TypeId} {x y : Operand} {xs ys : List (List UInt8)} {bytes : Nat} {v u : Value} {h hy' : PH} (p q : Nat) (ht : P.underlying t = some (.slice 9)) (he : TyF P 9 (strV []) 1 bytes false) (hb : bytes = 16)
    (hx : ev K x = some v) (hy : ev K y = some u) (hp' : HS[p]? = some h) (r : StrsO xs v h) (hq : HS[q]? = some hy') (ru : StrsR ys u hy')
    (h47 : xs.length + ys.length ≤ 1759218604441) :
    StepX P n w0 K HS ⟨d, .call ⟨.builtin .append, #[x, y], #[t, t]⟩, ty, ps, af, g⟩ h (StrsO (xs ++ ys)) := by
  subst hb; have := m_append (P := P) (n := n) (w0 := w0) (HS := HS) (d := d) (ty := ty) (ps := ps) (af := af) (g := g) p q ht he (zs := [strV []]) rfl rfl (by decide) hx hy hp' r hq ru (strs_one ys) (by unfold maxLen; omega) (by omega)
  unfold StrsO
  rw [List.length_append, strs_append]; exact this
end
end Go.Proofs.YtiefkcaplhnnmaaGreatDoor
namespace Go.Proofs.YtiefkcaplhnnmaaGreatDoor
set_option maxRecDepth 100000
open Go.Shelf Go.RowKit Go.Sort
def shp_lays156_ren : Go.Shelf.Ren := ⟨fun | 156 => 78 | 165 => 107 | 166 => 108 | 169 => 109 | 240 => 125 | 241 => 126 | 276 => 141 | 277 => 142 | n => n, fun | 31 => 70 | 9 => 9 | 3 => 3 | 4 => 4 | 0 => 0 | 20 => 20 | 72 => 126 | 76 => 114 | 70 => 124 | 37 => 93 | 75 => 113 | 127 => 141 | 164 => 158 | 5 => 5 | 80 => 128 | n => n, fun | n => n⟩
theorem shp_lays156 : Go.Proofs.Lays.n156 Tryz.prog shp_lays156_ren := {
  mixed := by kernel_rfl
  f156 := Tryz.func78.trans (congrArg some (by kernel_rfl))
  f165 := Tryz.func107.trans (congrArg some (by kernel_rfl))
  f166 := Tryz.func108.trans (congrArg some (by kernel_rfl))
  f169 := Tryz.func109.trans (congrArg some (by kernel_rfl))
  f240 := Tryz.func125.trans (congrArg some (by kernel_rfl))
  f241 := Tryz.func126.trans (congrArg some (by kernel_rfl))
  f276 := Tryz.func141.trans (congrArg some (by kernel_rfl))
  f277 := Tryz.func142.trans (congrArg some (by kernel_rfl))
  t0 := Tryz.underlying0
  a0 := Tryz.isAgg0
  z0 := Tryz.sizeOf0
  v0 := Tryz.zeroValue0
  t3 := Tryz.underlying3
  a3 := Tryz.isAgg3
  z3 := Tryz.sizeOf3
  v3 := Tryz.zeroValue3
  t4 := Tryz.underlying4
  a4 := Tryz.isAgg4
  z4 := Tryz.sizeOf4
  v4 := Tryz.zeroValue4
  t9 := Tryz.underlying9
  a9 := Tryz.isAgg9
  z9 := Tryz.sizeOf9
  v9 := Tryz.zeroValue9
  t20 := Tryz.underlying20
  a20 := Tryz.isAgg20
  z20 := Tryz.sizeOf20
  v20 := Tryz.zeroValue20
  t31 := Tryz.underlying70
  a31 := Tryz.isAgg70
  z31 := Tryz.sizeOf70
  v31 := Tryz.zeroValue70
  t37 := Tryz.underlying93
  a37 := Tryz.isAgg93
  z37 := Tryz.sizeOf93
  v37 := Tryz.zeroValue93
  t70 := Tryz.underlying124
  a70 := Tryz.isAgg124
  z70 := Tryz.sizeOf124
  v70 := Tryz.zeroValue124
  t72 := Tryz.underlying126
  a72 := Tryz.isAgg126
  z72 := Tryz.sizeOf126
  v72 := Tryz.zeroValue126
  t75 := Tryz.underlying113
  a75 := Tryz.isAgg113
  z75 := Tryz.sizeOf113
  v75 := Tryz.zeroValue113
  t76 := Tryz.underlying114
  a76 := Tryz.isAgg114
  z76 := Tryz.sizeOf114
  v76 := Tryz.zeroValue114
  t127 := Tryz.underlying141
  a127 := Tryz.isAgg141
  z127 := Tryz.sizeOf141
  v127 := Tryz.zeroValue141
  t164 := Tryz.underlying158
  a164 := Tryz.isAgg158
  z164 := Tryz.sizeOf158
  v164 := Tryz.zeroValue158 }
theorem shp_Builder_Extra_156 : Builder.Extra Tryz.prog shp_lays156_ren := {
  sizeBuilder := by kernel_rfl
  liesBuilder := by kernel_rfl
  t5 := Tryz.underlying5
  a5 := Tryz.isAgg5
  z5 := Tryz.sizeOf5
  v5 := Tryz.zeroValue5
  infoByte := by kernel_rfl
  cellsByte := by kernel_rfl
  sizeByte := by kernel_rfl
  neB5 := by decide }
theorem shp_strings_Join (bk o c : Nat) (xs : List ByteArray) (sep : ByteArray) (w : World) (hcells : ∀ (j : Nat) x, xs[j]? = some x → w.cell? ⟨bk, o + j, none⟩ = some (.string x)) (hbk : bk < w.heap.size) (hN : xs.length ≤ 140737488355328) (hcap : xs.length ≤ c) (hlen : (Lib.join (xs.map (·.data.toList)) sep.data.toList).length ≤ 140737488355328) :
    Calls Tryz.prog 78 #[.slice (some ⟨bk, o, none⟩) xs.length c, .string sep] w fun e w' => e = .returned (.string ⟨(Lib.join (xs.map (·.data.toList)) sep.data.toList).toArray⟩) ∧ Below w.heap.size w w' := Any.strings_Join shp_lays156 shp_Builder_Extra_156 bk o c xs sep w hcells hbk hN hcap hlen
theorem shp_strings_Join_none (a : Option Addr) (c : Nat) (sep : ByteArray) (w : World) :
    Calls Tryz.prog 78 #[.slice a 0 c, .string sep] w fun e w' => e = .returned (.string ⟨#[]⟩) ∧ w' = w := Any.strings_Join_none shp_lays156 shp_Builder_Extra_156 a c sep w
def shp_laysM171_ren : Go.Shelf.Ren := ⟨fun | 171 => 74 | 243 => 106 | 246 => 124 | 283 => 137 | 284 => 138 | 285 => 139 | 286 => 140 | 129 => 152 | 317 => 151 | 318 => 153 | 319 => 154 | 320 => 155 | 337 => 163 | 338 => 164 | n => n, fun | 3 => 3 | 9 => 9 | 2 => 2 | 4 => 4 | 171 => 152 | 0 => 0 | 53 => 153 | 37 => 93 | 5 => 5 | 173 => 156 | 212 => 174 | 51 => 175 | 20 => 20 | 213 => 176 | 46 => 167 | 232 => 190 | 233 => 191 | n => n, fun | 17 => 2 | 18 => 6 | 19 => 7 | n => n⟩
theorem shp_laysM171 : Go.Proofs.LaysM.n171 Tryz.prog shp_laysM171_ren := {
  mixed := by kernel_rfl
  f129 := Tryz.func152.trans (congrArg some (by kernel_rfl))
  f171 := Tryz.func74.trans (congrArg some (by kernel_rfl))
  f243 := Tryz.func106.trans (congrArg some (by kernel_rfl))
  f246 := Tryz.func124.trans (congrArg some (by kernel_rfl))
  f283 := Tryz.func137.trans (congrArg some (by kernel_rfl))
  f284 := Tryz.func138.trans (congrArg some (by kernel_rfl))
  f285 := Tryz.func139.trans (congrArg some (by kernel_rfl))
  f286 := Tryz.func140.trans (congrArg some (by kernel_rfl))
  f317 := Tryz.func151.trans (congrArg some (by kernel_rfl))
  f318 := Tryz.func153.trans (congrArg some (by kernel_rfl))
  f319 := Tryz.func154.trans (congrArg some (by kernel_rfl))
  f320 := Tryz.func155.trans (congrArg some (by kernel_rfl))
  f337 := Tryz.func163.trans (congrArg some (by kernel_rfl))
  f338 := Tryz.func164.trans (congrArg some (by kernel_rfl))
  t0 := Tryz.underlying0
  a0 := Tryz.isAgg0
  z0 := Tryz.sizeOf0
  v0 := Tryz.zeroValue0
  t2 := Tryz.underlying2
  a2 := Tryz.isAgg2
  z2 := Tryz.sizeOf2
  v2 := Tryz.zeroValue2
  t3 := Tryz.underlying3
  a3 := Tryz.isAgg3
  z3 := Tryz.sizeOf3
  v3 := Tryz.zeroValue3
  t4 := Tryz.underlying4
  a4 := Tryz.isAgg4
  z4 := Tryz.sizeOf4
  v4 := Tryz.zeroValue4
  t5 := Tryz.underlying5
  a5 := Tryz.isAgg5
  z5 := Tryz.sizeOf5
  v5 := Tryz.zeroValue5
  t9 := Tryz.underlying9
  a9 := Tryz.isAgg9
  z9 := Tryz.sizeOf9
  v9 := Tryz.zeroValue9
  t20 := Tryz.underlying20
  a20 := Tryz.isAgg20
  z20 := Tryz.sizeOf20
  v20 := Tryz.zeroValue20
  t37 := Tryz.underlying93
  a37 := Tryz.isAgg93
  z37 := Tryz.sizeOf93
  v37 := Tryz.zeroValue93
  t46 := Tryz.underlying167
  a46 := Tryz.isAgg167
  z46 := Tryz.sizeOf167
  v46 := Tryz.zeroValue167
  t51 := Tryz.underlying175
  a51 := Tryz.isAgg175
  z51 := Tryz.sizeOf175
  v51 := Tryz.zeroValue175
  t53 := Tryz.underlying153
  a53 := Tryz.isAgg153
  z53 := Tryz.sizeOf153
  v53 := Tryz.zeroValue153
  t171 := Tryz.underlying152
  a171 := Tryz.isAgg152
  z171 := Tryz.sizeOf152
  v171 := Tryz.zeroValue152
  t173 := Tryz.underlying156
  a173 := Tryz.isAgg156
  z173 := Tryz.sizeOf156
  v173 := Tryz.zeroValue156
  t212 := Tryz.underlying174
  a212 := Tryz.isAgg174
  z212 := Tryz.sizeOf174
  v212 := Tryz.zeroValue174
  t213 := Tryz.underlying176
  a213 := Tryz.isAgg176
  z213 := Tryz.sizeOf176
  t232 := Tryz.underlying190
  a232 := Tryz.isAgg190
  z232 := Tryz.sizeOf190
  v232 := Tryz.zeroValue190
  t233 := Tryz.underlying191
  a233 := Tryz.isAgg191
  z233 := Tryz.sizeOf191
  v233 := Tryz.zeroValue191
  g17 := by kernel_rfl
  g18 := by kernel_rfl
  g19 := by kernel_rfl
  i0 := by kernel_rfl
  i2 := by kernel_rfl
  i3 := by kernel_rfl
  i4 := by kernel_rfl
  i5 := by kernel_rfl
  i9 := by kernel_rfl
  i20 := by kernel_rfl
  i37 := by kernel_rfl
  i46 := by kernel_rfl
  i51 := by kernel_rfl
  i53 := by kernel_rfl
  i171 := by kernel_rfl
  i173 := by kernel_rfl
  i212 := by kernel_rfl
  i232 := by kernel_rfl
  i233 := by kernel_rfl
  m17 := by kernel_rfl
  m18 := by kernel_rfl
  m19 := by kernel_rfl }
theorem shp_strconv_Itoa (n : Int) (h0 : -9223372036854775808 ≤ n) (h1 : n ≤ 9223372036854775807) (w : World) (htab : Lib.TabIs Tryz.prog w "internal/strconv.uint64pow10" .u64 Lib.pow10Tab) :
    Calls Tryz.prog 74 #[.int .i64 n] w fun e w' => e = .returned (.string ⟨(Lib.itoa n).toArray⟩) ∧ ∃ k os, w' = grow (w.drewN k) os := Any.strconv_Itoa shp_laysM171 n h0 h1 w htab
def shp_lays146_ren : Go.Shelf.Ren := ⟨fun | 146 => 83 | 221 => 110 | 268 => 127 | 138 => 128 | 143 => 129 | 195 => 143 | 197 => 144 | 218 => 145 | 219 => 146 | 260 => 156 | 217 => 157 | 225 => 158 | 224 => 159 | 267 => 160 | 266 => 165 | 314 => 166 | n => n, fun | 9 => 9 | 31 => 70 | 3 => 3 | 4 => 4 | 0 => 0 | 105 => 162 | 21 => 21 | 5 => 5 | 46 => 167 | 119 => 184 | 139 => 187 | 138 => 186 | 146 => 188 | 51 => 175 | n => n, fun | 1 => 3 | 3 => 4 | 4 => 5 | n => n⟩
theorem shp_lays146 : Go.Proofs.Lays.n146 Tryz.prog shp_lays146_ren := {
  mixed := by kernel_rfl
  f138 := Tryz.func128.trans (congrArg some (by kernel_rfl))
  f143 := Tryz.func129.trans (congrArg some (by kernel_rfl))
  f146 := Tryz.func83.trans (congrArg some (by kernel_rfl))
  f195 := Tryz.func143.trans (congrArg some (by kernel_rfl))
  f197 := Tryz.func144.trans (congrArg some (by kernel_rfl))
  f217 := Tryz.func157.trans (congrArg some (by kernel_rfl))
  f218 := Tryz.func145.trans (congrArg some (by kernel_rfl))
  f219 := Tryz.func146.trans (congrArg some (by kernel_rfl))
  f221 := Tryz.func110.trans (congrArg some (by kernel_rfl))
  f224 := Tryz.func159.trans (congrArg some (by kernel_rfl))
  f225 := Tryz.func158.trans (congrArg some (by kernel_rfl))
  f260 := Tryz.func156.trans (congrArg some (by kernel_rfl))
  f266 := Tryz.func165.trans (congrArg some (by kernel_rfl))
  f267 := Tryz.func160.trans (congrArg some (by kernel_rfl))
  f268 := Tryz.func127.trans (congrArg some (by kernel_rfl))
  f314 := Tryz.func166.trans (congrArg some (by kernel_rfl))
  t0 := Tryz.underlying0
  a0 := Tryz.isAgg0
  z0 := Tryz.sizeOf0
  v0 := Tryz.zeroValue0
  t3 := Tryz.underlying3
  a3 := Tryz.isAgg3
  z3 := Tryz.sizeOf3
  v3 := Tryz.zeroValue3
  t4 := Tryz.underlying4
  a4 := Tryz.isAgg4
  z4 := Tryz.sizeOf4
  v4 := Tryz.zeroValue4
  t5 := Tryz.underlying5
  a5 := Tryz.isAgg5
  z5 := Tryz.sizeOf5
  v5 := Tryz.zeroValue5
  t9 := Tryz.underlying9
  a9 := Tryz.isAgg9
  z9 := Tryz.sizeOf9
  v9 := Tryz.zeroValue9
  t21 := Tryz.underlying21
  a21 := Tryz.isAgg21
  z21 := Tryz.sizeOf21
  v21 := Tryz.zeroValue21
  t31 := Tryz.underlying70
  a31 := Tryz.isAgg70
  z31 := Tryz.sizeOf70
  v31 := Tryz.zeroValue70
  t46 := Tryz.underlying167
  a46 := Tryz.isAgg167
  z46 := Tryz.sizeOf167
  v46 := Tryz.zeroValue167
  t51 := Tryz.underlying175
  a51 := Tryz.isAgg175
  z51 := Tryz.sizeOf175
  v51 := Tryz.zeroValue175
  t105 := Tryz.underlying162
  a105 := Tryz.isAgg162
  z105 := Tryz.sizeOf162
  v105 := Tryz.zeroValue162
  t119 := Tryz.underlying184
  a119 := Tryz.isAgg184
  z119 := Tryz.sizeOf184
  t138 := Tryz.underlying186
  a138 := Tryz.isAgg186
  z138 := Tryz.sizeOf186
  v138 := Tryz.zeroValue186
  t139 := Tryz.underlying187
  a139 := Tryz.isAgg187
  z139 := Tryz.sizeOf187
  v139 := Tryz.zeroValue187
  t146 := Tryz.underlying188
  a146 := Tryz.isAgg188
  z146 := Tryz.sizeOf188
  v146 := Tryz.zeroValue188
  g1 := by kernel_rfl
  g3 := by kernel_rfl
  g4 := by kernel_rfl }
theorem shp_strings_Split (s sep : ByteArray) (m : Int) (w : World) (hs : s.size < 4294967281) (hm : w.cell? ⟨3, 0, none⟩ = some (.int .i64 m)) (h1 : 1 ≤ sep.size) :
    Calls Tryz.prog 83 #[.string s, .string sep] w fun e w' =>
      e = .returned (.slice (some ⟨w.heap.size, 0, none⟩) (Lib.countB s sep + 1) (Lib.countB s sep + 1)) ∧ w' = w.alloc (.cells ((Lib.splitB sep 0 (Lib.countB s sep) s).map Value.string).toArray 9) := Any.strings_Split shp_lays146 (by kernel_rfl) s sep m w hs hm h1
def shp_laysC172_ren : Go.Shelf.Ren := ⟨fun | 172 => 89 | 244 => 113 | 245 => 114 | 247 => 130 | 279 => 131 | 280 => 132 | 281 => 133 | 282 => 134 | 287 => 147 | 316 => 148 | 171 => 74 | 205 => 149 | 321 => 161 | 322 => 162 | 243 => 106 | 246 => 124 | 283 => 137 | 284 => 138 | 285 => 139 | 286 => 140 | 129 => 152 | 317 => 151 | 318 => 153 | 319 => 154 | 320 => 155 | 337 => 163 | 338 => 164 | n => n, fun | 9 => 9 | 3 => 3 | 75 => 113 | 76 => 114 | 4 => 4 | 5 => 5 | 167 => 144 | 37 => 93 | 0 => 0 | 85 => 145 | 2 => 2 | 168 => 147 | 53 => 153 | 175 => 165 | 46 => 167 | 210 => 170 | 127 => 141 | 145 => 182 | 143 => 180 | 21 => 21 | 171 => 152 | 173 => 156 | 212 => 174 | 51 => 175 | 20 => 20 | 213 => 176 | 232 => 190 | 233 => 191 | 80 => 128 | n => n, fun | 15 => 0 | 16 => 1 | 17 => 2 | 18 => 6 | 19 => 7 | n => n⟩
theorem shp_laysC172 : Go.Proofs.LaysC.n172 Tryz.prog shp_laysC172_ren := {
  mixed := by kernel_rfl
  f129 := Tryz.func152.trans (congrArg some (by kernel_rfl))
  f171 := Tryz.func74.trans (congrArg some (by kernel_rfl))
  f172 := Tryz.func89.trans (congrArg some (by kernel_rfl))
  f205 := Tryz.func149.trans (congrArg some (by kernel_rfl))
  f243 := Tryz.func106.trans (congrArg some (by kernel_rfl))
  f244 := Tryz.func113.trans (congrArg some (by kernel_rfl))
  f245 := Tryz.func114.trans (congrArg some (by kernel_rfl))
  f246 := Tryz.func124.trans (congrArg some (by kernel_rfl))
  f247 := Tryz.func130.trans (congrArg some (by kernel_rfl))
  f279 := Tryz.func131.trans (congrArg some (by kernel_rfl))
  f280 := Tryz.func132.trans (congrArg some (by kernel_rfl))
  f281 := Tryz.func133.trans (congrArg some (by kernel_rfl))
  f282 := Tryz.func134.trans (congrArg some (by kernel_rfl))
  f283 := Tryz.func137.trans (congrArg some (by kernel_rfl))
  f284 := Tryz.func138.trans (congrArg some (by kernel_rfl))
  f285 := Tryz.func139.trans (congrArg some (by kernel_rfl))
  f286 := Tryz.func140.trans (congrArg some (by kernel_rfl))
  f287 := Tryz.func147.trans (congrArg some (by kernel_rfl))
  f316 := Tryz.func148.trans (congrArg some (by kernel_rfl))
  f317 := Tryz.func151.trans (congrArg some (by kernel_rfl))
  f318 := Tryz.func153.trans (congrArg some (by kernel_rfl))
  f319 := Tryz.func154.trans (congrArg some (by kernel_rfl))
  f320 := Tryz.func155.trans (congrArg some (by kernel_rfl))
  f321 := Tryz.func161.trans (congrArg some (by kernel_rfl))
  f322 := Tryz.func162.trans (congrArg some (by kernel_rfl))
  f337 := Tryz.func163.trans (congrArg some (by kernel_rfl))
  f338 := Tryz.func164.trans (congrArg some (by kernel_rfl))
  t0 := Tryz.underlying0
  a0 := Tryz.isAgg0
  z0 := Tryz.sizeOf0
  v0 := Tryz.zeroValue0
  t2 := Tryz.underlying2
  a2 := Tryz.isAgg2
  z2 := Tryz.sizeOf2
  v2 := Tryz.zeroValue2
  t3 := Tryz.underlying3
  a3 := Tryz.isAgg3
  z3 := Tryz.sizeOf3
  v3 := Tryz.zeroValue3
  t4 := Tryz.underlying4
  a4 := Tryz.isAgg4
  z4 := Tryz.sizeOf4
  v4 := Tryz.zeroValue4
  t5 := Tryz.underlying5
  a5 := Tryz.isAgg5
  z5 := Tryz.sizeOf5
  v5 := Tryz.zeroValue5
  t9 := Tryz.underlying9
  a9 := Tryz.isAgg9
  z9 := Tryz.sizeOf9
  v9 := Tryz.zeroValue9
  t20 := Tryz.underlying20
  a20 := Tryz.isAgg20
  z20 := Tryz.sizeOf20
  v20 := Tryz.zeroValue20
  t21 := Tryz.underlying21
  a21 := Tryz.isAgg21
  z21 := Tryz.sizeOf21
  v21 := Tryz.zeroValue21
  t37 := Tryz.underlying93
  a37 := Tryz.isAgg93
  z37 := Tryz.sizeOf93
  v37 := Tryz.zeroValue93
  t46 := Tryz.underlying167
  a46 := Tryz.isAgg167
  z46 := Tryz.sizeOf167
  v46 := Tryz.zeroValue167
  t51 := Tryz.underlying175
  a51 := Tryz.isAgg175
  z51 := Tryz.sizeOf175
  v51 := Tryz.zeroValue175
  t53 := Tryz.underlying153
  a53 := Tryz.isAgg153
  z53 := Tryz.sizeOf153
  v53 := Tryz.zeroValue153
  t75 := Tryz.underlying113
  a75 := Tryz.isAgg113
  z75 := Tryz.sizeOf113
  v75 := Tryz.zeroValue113
  t76 := Tryz.underlying114
  a76 := Tryz.isAgg114
  z76 := Tryz.sizeOf114
  v76 := Tryz.zeroValue114
  t85 := Tryz.underlying145
  a85 := Tryz.isAgg145
  z85 := Tryz.sizeOf145
  v85 := Tryz.zeroValue145
  t127 := Tryz.underlying141
  a127 := Tryz.isAgg141
  z127 := Tryz.sizeOf141
  v127 := Tryz.zeroValue141
  t143 := Tryz.underlying180
  a143 := Tryz.isAgg180
  z143 := Tryz.sizeOf180
  v143 := Tryz.zeroValue180
  t145 := Tryz.underlying182
  a145 := Tryz.isAgg182
  z145 := Tryz.sizeOf182
  v145 := Tryz.zeroValue182
  t167 := Tryz.underlying144
  a167 := Tryz.isAgg144
  z167 := Tryz.sizeOf144
  v167 := Tryz.zeroValue144
  t168 := Tryz.underlying147
  a168 := Tryz.isAgg147
  z168 := Tryz.sizeOf147
  v168 := Tryz.zeroValue147
  t171 := Tryz.underlying152
  a171 := Tryz.isAgg152
  z171 := Tryz.sizeOf152
  v171 := Tryz.zeroValue152
  t173 := Tryz.underlying156
  a173 := Tryz.isAgg156
  z173 := Tryz.sizeOf156
  v173 := Tryz.zeroValue156
  t175 := Tryz.underlying165
  a175 := Tryz.isAgg165
  z175 := Tryz.sizeOf165
  v175 := Tryz.zeroValue165
  t210 := Tryz.underlying170
  a210 := Tryz.isAgg170
  z210 := Tryz.sizeOf170
  v210 := Tryz.zeroValue170
  t212 := Tryz.underlying174
  a212 := Tryz.isAgg174
  z212 := Tryz.sizeOf174
  v212 := Tryz.zeroValue174
  t213 := Tryz.underlying176
  a213 := Tryz.isAgg176
  z213 := Tryz.sizeOf176
  t232 := Tryz.underlying190
  a232 := Tryz.isAgg190
  z232 := Tryz.sizeOf190
  v232 := Tryz.zeroValue190
  t233 := Tryz.underlying191
  a233 := Tryz.isAgg191
  z233 := Tryz.sizeOf191
  v233 := Tryz.zeroValue191
  g15 := by kernel_rfl
  g16 := by kernel_rfl
  g17 := by kernel_rfl
  g18 := by kernel_rfl
  g19 := by kernel_rfl
  t80 := Tryz.underlying128
  a80 := Tryz.isAgg128
  z80 := Tryz.sizeOf128
  v80 := Tryz.zeroValue128
  i0 := by kernel_rfl
  i2 := by kernel_rfl
  i3 := by kernel_rfl
  i4 := by kernel_rfl
  i5 := by kernel_rfl
  i9 := by kernel_rfl
  i20 := by kernel_rfl
  i21 := by kernel_rfl
  i37 := by kernel_rfl
  i46 := by kernel_rfl
  i51 := by kernel_rfl
  i53 := by kernel_rfl
  i75 := by kernel_rfl
  i76 := by kernel_rfl
  i80 := by kernel_rfl
  i85 := by kernel_rfl
  i127 := by kernel_rfl
  i143 := by kernel_rfl
  i145 := by kernel_rfl
  i167 := by kernel_rfl
  i168 := by kernel_rfl
  i171 := by kernel_rfl
  i173 := by kernel_rfl
  i175 := by kernel_rfl
  i210 := by kernel_rfl
  i212 := by kernel_rfl
  i232 := by kernel_rfl
  i233 := by kernel_rfl
  m15 := by kernel_rfl
  m16 := by kernel_rfl
  m17 := by kernel_rfl
  m18 := by kernel_rfl
  m19 := by kernel_rfl
  c0 := by kernel_rfl
  c2 := by kernel_rfl
  c3 := by kernel_rfl
  c4 := by kernel_rfl
  c5 := by kernel_rfl
  c9 := by kernel_rfl
  c20 := by kernel_rfl
  c21 := by kernel_rfl
  c37 := by kernel_rfl
  c46 := by kernel_rfl
  c51 := by kernel_rfl
  c53 := by kernel_rfl
  c75 := by kernel_rfl
  c76 := by kernel_rfl
  c80 := by kernel_rfl
  c85 := by kernel_rfl
  c127 := by kernel_rfl
  c143 := by kernel_rfl
  c145 := by kernel_rfl
  c167 := by kernel_rfl
  c168 := by kernel_rfl
  c171 := by kernel_rfl
  c173 := by kernel_rfl
  c175 := by kernel_rfl
  c210 := by kernel_rfl
  c212 := by kernel_rfl
  c213 := by kernel_rfl
  c232 := by kernel_rfl
  c233 := by kernel_rfl }
theorem shp_strconv_Atoi_ok (s : ByteArray) (hmax : s.size ≤ 9223372036854775806) (v : Int) (h : Lib.atoiAll s.data.toList = .ok v) (w : World) :
    Calls Tryz.prog 89 #[.string s] w fun e w' => e = .returned (.tuple #[.int .i64 v, .nilIface]) ∧ (w' = w ∨ ∃ t, w' = Lib.bytesWorld w 5 t) := Any.strconv_Atoi_ok shp_laysC172 s hmax v h w
theorem shp_strconv_Atoi_syntax_var (s : ByteArray) (hlim : s.size ≤ 281474976710656) (h1 : ∀ v, Lib.atoiAll s.data.toList ≠ .ok v) (h2 : Lib.atoiAll s.data.toList ≠ .range) (tp : TypeId) (p : Value) (w : World) (hvar : w.var? Tryz.prog "strconv.ErrSyntax" = some #[.iface tp p]) :
    Calls Tryz.prog 89 #[.string s] w fun e w' => ∃ N, e = .returned (.tuple #[.int .i64 0, .iface 147 (.pointer (some ⟨N, 0, none⟩))]) ∧ w.heap.size ≤ N ∧ w'.heap[N]? = some (.cells #[.string ⟨#[65, 116, 111, 105]⟩, .string s, .iface tp p] 170 (0, 0)) ∧ Below w.heap.size w w' := Any.strconv_Atoi_syntax_var shp_laysC172 s hlim (by cases e : Lib.atoiAll s.data.toList <;> first | rfl | exact absurd e (h1 _) | exact absurd e h2) tp p w hvar
theorem shp_strconv_Atoi_range_var (s : ByteArray) (hlim : s.size ≤ 281474976710656) (h : Lib.atoiAll s.data.toList = .range) (tp : TypeId) (p : Value) (w : World) (hvar : w.var? Tryz.prog "strconv.ErrRange" = some #[.iface tp p]) :
    Calls Tryz.prog 89 #[.string s] w fun e w' => ∃ N, e = .returned (.tuple #[.int .i64 (Lib.atoiSat s.data.toList), .iface 147 (.pointer (some ⟨N, 0, none⟩))]) ∧ w.heap.size ≤ N ∧ w'.heap[N]? = some (.cells #[.string ⟨#[65, 116, 111, 105]⟩, .string s, .iface tp p] 170 (0, 0)) ∧ Below w.heap.size w w' := Any.strconv_Atoi_range_var shp_laysC172 s hlim h tp p w hvar
end Go.Proofs.YtiefkcaplhnnmaaGreatDoor
namespace Go.Proofs.YtiefkcaplhnnmaaGreatDoor
set_option maxRecDepth 100000
open Go.RowKit Go.Sort
theorem en_74 : EnterOK Tryz.prog 74 := ⟨_, Tryz.func74, by kernel_rfl, rfl⟩
theorem en_78 : EnterOK Tryz.prog 78 := ⟨_, Tryz.func78, by kernel_rfl, rfl⟩
theorem u8_wrap {x : Int} (h : 0 ≤ x ∧ x ≤ 255) : IntKind.u8.wrap x = x := by rw [IntKind.wrap_u8]; omega
theorem i64_wrap {x : Int} (h : I64 x) : IntKind.i64.wrap x = x := h.wrap
/-- A part of the heap bears the table of powers of ten. -/
def PowR (h : PH) : Prop := ∀ w : World, PLe h (hp w) → Lib.TabIs Tryz.prog w "internal/strconv.uint64pow10" .u64 Lib.pow10Tab
theorem PowR.mono {h h' : PH} (r : PowR h) (l : PLe h h') : PowR h' := fun w hw => r w (l.trans hw)
theorem pow_start {w : World} (h : Lib.TabIs Tryz.prog w "internal/strconv.uint64pow10" .u64 Lib.pow10Tab) : PowR (hp w) := fun w' hw => by
  unfold Lib.TabIs World.var? at h ⊢
  cases hg : Tryz.prog.globalNamed "internal/strconv.uint64pow10" with
  | none => rw [hg] at h; cases h
  | some g =>
    rw [hg] at h; simp only [Option.bind_some] at h ⊢
    split at h
    · rename_i cs t f hh
      have := hw g _ hh; simp only [hp] at this; rw [this]; exact h
    · cases h
theorem upd_grow (w : World) (k : Nat) (os : Array Obj) : Upd emp emp w (grow (w.drewN k) os) := by
  refine ⟨rfl, rfl, rfl, ?_, fun j hj _ => ?_, PLe.emp _, fun _ _ e => nomatch e⟩
  · simp [grow, World.drewN]
  · simp only [grow, World.drewN]; rw [Array.getElem?_append_left hj]
theorem upd_below {w w' : World} (h : Below w.heap.size w w') : Upd emp emp w w' :=
  ⟨h.os, h.tape, h.output, h.size, fun k hk _ => h.block k hk, PLe.emp _, fun _ _ e => nomatch e⟩
theorem ct_lib_Itoa (n : Int) (w : World) (tb : PowR (hp w)) (hn : I64 n) : Calls Tryz.prog 74 [num n].toArray w (RetV w (strV (Lib.itoa n))) :=
  (shp_strconv_Itoa n hn.1 hn.2 w (tb w (PLe.refl _))).mono fun e w' ⟨he, k, os, hw⟩ => by
    subst he; subst hw; exact ⟨rfl, upd_grow w k os⟩
theorem str_lists (xs : List (List UInt8)) : (xs.map fun x => (⟨x.toArray⟩ : ByteArray)).map (·.data.toList) = xs := by
  rw [List.map_map]; have : (fun s : ByteArray => s.data.toList) ∘ (fun x : List UInt8 => (⟨x.toArray⟩ : ByteArray)) = id := by
    funext x; simp
  rw [this, List.map_id]
theorem ct_lib_Join (xs : List (List UInt8)) (sep : List UInt8) (v : Value) (w : World) (r : StrsR xs v (hp w)) (hs : xs.length ≤ 1048576) (hl : (Lib.join xs sep).length ≤ 140737488355328) : Calls Tryz.prog 78 [v, strV sep].toArray w (RetV w (strV (Lib.join xs sep))) := by
  obtain ⟨hcl, a, c, rfl, ⟨_, hc⟩, h4⟩ := r
  by_cases h0 : xs.length = 0
  · have e0 : xs = [] := List.eq_nil_of_length_eq_zero h0; subst e0; refine (shp_strings_Join_none a c ⟨sep.toArray⟩ w).mono ?_; rintro e w' ⟨rfl, rfl⟩; exact ⟨rfl, Upd.refl _⟩
  · obtain ⟨b, o, rfl, hcell⟩ := h4 (by omega); have hx : ∀ (j : Nat) (x : ByteArray), (xs.map fun x => (⟨x.toArray⟩ : ByteArray))[j]? = some x → w.cell? ⟨b, o + j, none⟩ = some (.string x) := fun j x hj => by
      rw [← cellP_hp]; refine hcell j _ ?_; simp only [List.getElem?_map, Option.map_eq_some_iff] at hj; obtain ⟨y, hy, rfl⟩ := hj
      simp [strs, strV, hy]
    have hb : b < w.heap.size := by
      have hg := strs_get (xs := xs) (k := 0) (by omega); have := hcell 0 _ hg
      unfold cellP hp at this
      rcases Nat.lt_or_ge b w.heap.size with h | h
      · exact h
      · rw [Array.getElem?_eq_none h] at this; cases this
    have h := shp_strings_Join b o c (xs.map fun x => (⟨x.toArray⟩ : ByteArray)) ⟨sep.toArray⟩ w hx hb (by rw [List.length_map]; omega) (by rw [List.length_map]; exact hc) (by rw [str_lists]; exact hl); rw [List.length_map, str_lists] at h; refine h.mono ?_; rintro e w' ⟨rfl, hw⟩; exact ⟨rfl, upd_below hw⟩
end Go.Proofs.YtiefkcaplhnnmaaGreatDoor
