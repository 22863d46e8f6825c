/-
  The program's state of an order: a step, the beginning, and whether an order is in order.
  Conditions: none.
-/
import Derived.Test.YtikeobneipjfnaaOrd3
import Derived.Test.YtikeobneipjfnaaLaw2
namespace Go.Proofs.Ytikeobneipjfnaa
set_option maxRecDepth 100000
open Go.RowKit
theorem RowO.nil {e : TypeId} {sz : Nat} : RowO e [] 0 sz (.slice none 0 0) emp := ⟨by simp, .inl ⟨rfl, rfl, rfl⟩⟩
theorem dropTo_len (lv : List Lv) (p q : Nat) : ∀ k, (dropTo lv p q k).length ≤ k
  | 0 => by simp [dropTo]
  | k + 1 => by
    have := dropTo_len lv p q k
    have h1 : (lv[k]?).toList.length ≤ 1 := by cases lv[k]? <;> simp
    simp only [dropTo]
    split
    · simp only [List.length_append]; omega
    · omega
theorem dropTo_yes {lv : List Lv} {p q k : Nat} {x : Lv} (h : lv[k]? = some x) (h1 : k ≠ p) (h2 : k ≠ q) : dropTo lv p q (k + 1) = dropTo lv p q k ++ [x] := by
  rw [dropTo, if_pos ⟨h1, h2⟩, h]; rfl
theorem dropTo_no {lv : List Lv} {p q k : Nat} (h : k = p ∨ k = q) : dropTo lv p q (k + 1) = dropTo lv p q k := by
  rw [dropTo, if_neg (by omega)]
set_option maxHeartbeats 2000000 in
theorem ct_i_contract (arr op : List Int) (vo : Value) (sh : Sh) (bb : Nat) (p q : Int) (a b : Nat) (w : World) (h : PH) (hle : PLe h (hp w)) (rs : StO arr vo sh bb h) (ro : IntsR op vo (restP w h)) (h0 : 0 ≤ p) (h1 : 0 ≤ q) (hpa : sh.ixs[p.toNat]? = some a) (hqb : sh.ixs[q.toNat]? = some b)
    (hsz : (sh.lab a).length + (sh.lab b).length ≤ 100000) (hall : sh.all.length ≤ 100000) :
    Calls Try.prog 201 [.pointer (some ⟨bb, 0, none⟩), num p, num q].toArray w (Ret w h (fun u h' => u = stepV a b ∧ StO arr vo (sh.step op a b) bb h')) := by
  obtain ⟨hal, hok, lvv, hs, rl, md⟩ := rs
  have hll := lv_len sh
  have hpl := (List.getElem?_eq_some_iff.1 hpa).1
  have hql := (List.getElem?_eq_some_iff.1 hqb).1
  have hixl : sh.ixs.length ≤ sh.all.length := by have := List.length_filter_le (fun i => !sh.gone.getD i false) (List.range sh.all.length); simpa [Sh.ixs] using this
  refine calls_in Try.func201 rfl Try.ntmps201 rfl (Sat.open (A := [restP w h]) md (Sat.start2 hle)) ?_
  have hle0 := ro.le
  have hle1 := rl.le
  obtain ⟨cs_rl, rr_rl, hc_rl⟩ := rl.at
  refine wp_sc ?_
  refine wp_sq ?_
  refine sq_x rfl (x_alloc ty_114 rfl) rfl ?_; rintro _ _ ⟨b6, rfl, rfl⟩
  refine sq_end ?_
  refine qs_n ?_
  refine wp_sc ?_
  refine wp_rj 18 [(0, true), (1, true), (2, true), (3, true), (4, true), (5, true), (6, true), (7, true), (8, true), (9, true), (10, true), (11, true), (12, true), (13, true), (14, true), (15, true), (16, true), (17, false), (18, false)] mixed_ok (by kernel_rfl) ?_
  refine rj_v rfl rfl (v_move rfl) rfl ?_
  refine rj_v rfl rfl (v_nilCheck rfl) rfl ?_
  refine rj_v rfl rfl (v_fieldAddr fd_216_2 ty_214 (by decide) rfl) rfl ?_
  refine rj_v rfl rfl (v_loadB 2 ty_214 rfl rfl (pre_get hal 1 rfl)) rfl ?_
  refine rj_v rfl rfl (v_move rfl) rfl ?_
  obtain ⟨x17, a17, hx17, hcs17, rl17⟩ := hc_rl ((p : Int).toNat) (by first | omega | (rw [List.length_set]; omega))
  refine rj_v rfl rfl (v_indexAddr Try.underlying214 ty_213 rfl rfl rr_rl (by decide) (by omega) (by omega)) rfl ?_
  refine rj_v rfl rfl (v_fieldAddrE fd_213_0 ty_3 (by decide) rfl rr_rl (by have := rr_rl.1; first | omega | (simp only [Int.toNat_natCast]; omega) | (rw [stepCells_len, List.length_set]; omega))) rfl ?_
  refine rj_v rfl rfl (v_loadE 3 ty_3 rfl rfl rr_rl (sub_get hcs17 (j := 0) rfl)) rfl ?_
  refine rj_v rfl rfl (v_move rfl) rfl ?_
  refine rj_v rfl rfl (v_nilCheck rfl) rfl ?_
  refine rj_v rfl rfl (v_fieldAddr fd_216_2 ty_214 (by decide) rfl) rfl ?_
  refine rj_v rfl rfl (v_loadB 2 ty_214 rfl rfl (pre_get hal 1 rfl)) rfl ?_
  refine rj_v rfl rfl (v_move rfl) rfl ?_
  obtain ⟨x25, a25, hx25, hcs25, rl25⟩ := hc_rl ((q : Int).toNat) (by first | omega | (rw [List.length_set]; omega))
  refine rj_v rfl rfl (v_indexAddr Try.underlying214 ty_213 rfl rfl rr_rl (by decide) (by omega) (by omega)) rfl ?_
  refine rj_v rfl rfl (v_fieldAddrE fd_213_0 ty_3 (by decide) rfl rr_rl (by have := rr_rl.1; first | omega | (simp only [Int.toNat_natCast]; omega) | (rw [stepCells_len, List.length_set]; omega))) rfl ?_
  refine rj_v rfl rfl (v_loadE 3 ty_3 rfl rfl rr_rl (sub_get hcs25 (j := 0) rfl)) rfl ?_
  obtain ⟨i17, hi17, e17⟩ := lv_get hx17; obtain ⟨i25, hi25, e25⟩ := lv_get hx25; rw [hpa] at hi17; rw [hqb] at hi25; cases hi17; cases hi25; subst e17; subst e25
  refine rj_v rfl rfl (v_build [num (a : Nat), num (b : Nat)] rfl (by kernel_rfl)) rfl ?_
  refine rj_x rfl rfl (x_alloc ty_114 rfl) rfl ?_; rintro _ _ ⟨b7, rfl, rfl⟩
  refine rj_m 0 rfl rfl rfl rfl (m_store 0 ty_114 rfl rfl rfl rfl (by simp [Value.oneCell']) rfl (Nat.le_of_ble_eq_true rfl)) rfl ?_; rintro _ _ ⟨rfl, rfl⟩
  refine rj_end ?_
  refine qs_n ?_
  refine wp_sc ?_
  refine wp_ra (σ := Nat × PH × Value) 10 (fun z_ => IntsO (sh.res op a b) z_.2.2 z_.2.1) (fun z_ => [(0, .pointer (some ⟨bb, 0, none⟩)), (1, num p), (2, num q), (6, .pointer (some ⟨b6, 0, none⟩)), (7, .pointer (some ⟨b7, 0, none⟩)), (8, .pointer (some ⟨z_.1, 0, none⟩))]) (fun z_ => [box z_.1 [num sh.all.length, z_.2.2] 213, z_.2.1, box b7 [num (a : Nat), num (b : Nat)] 114, box b6 [num 0, num 0] 114, (restP w h), box bb (ints arr ++ [vo, lvv, num sh.all.length]) 216, hs]) mixed_ok (by kernel_rfl) ?_ ?_
  · refine ra_v (i := 0) (by kernel_rfl) rfl rfl (v_move rfl) rfl ?_
    refine ra_v (i := 1) (by kernel_rfl) rfl rfl (v_nilCheck rfl) rfl ?_
    refine ra_v (i := 2) (by kernel_rfl) rfl rfl (v_fieldAddr fd_216_3 ty_3 (by decide) rfl) rfl ?_
    refine ra_v (i := 3) (by kernel_rfl) rfl rfl (v_loadB 3 ty_3 rfl rfl (pre_get hal 2 rfl)) rfl ?_
    refine ra_v (i := 4) (by kernel_rfl) rfl rfl (v_move rfl) rfl ?_
    refine ra_v (i := 5) (by kernel_rfl) rfl rfl (v_move rfl) rfl ?_
    refine ra_v (i := 6) (by kernel_rfl) rfl rfl (v_move rfl) rfl ?_
    refine ra_2 (i := 7) (j := 9) (by kernel_rfl) ?_ ?_
    · refine ro_x rfl rfl (x_call rfl en_222 (fun w s => ct_i_resultLabels _ op _ _ sh _ _ _ a b w (StR.box hal hok (s.get 3 rfl) (rl.mono (s.get 4 rfl))) (ro.mono (s.get 2 rfl)) h0 h1 hpa hqb hsz)) rfl ?_; rintro v36 h36 r36
      refine ra_rj [(8, true), (9, false), (10, false)] (by kernel_rfl) rfl ?_
      refine rj_v rfl rfl (v_build [num sh.all.length, v36] rfl (by obtain ⟨_, _, rfl⟩ := r36.toR.sl; kernel_rfl)) rfl ?_
      refine rj_x rfl rfl (x_alloc ty_213 rfl) rfl ?_; rintro _ _ ⟨b8, rfl, rfl⟩
      refine rj_m 0 rfl rfl rfl rfl (m_store 0 ty_213 rfl rfl rfl rfl (by simp [one_int, r36.toR.sl.one]) rfl (Nat.le_of_ble_eq_true rfl)) rfl ?_; rintro _ _ ⟨rfl, rfl⟩
      refine rj_end ?_
      exact qs_mid (b8, h36, v36) (r36) ⟨rfl, rfl, rfl, rfl, rfl, rfl, trivial⟩ (fun _ s => s.pick [0, 1, 2, 3, 4, 5, 6] (by decide) rfl)
    · refine ro_x rfl rfl (x_alloc ty_213 rfl) rfl ?_; rintro _ _ ⟨b8, rfl, rfl⟩
      refine ra_rj [(7, false), (8, true), (10, false)] (by kernel_rfl) rfl ?_
      refine rj_x rfl rfl (x_call rfl en_222 (fun w s => ct_i_resultLabels _ op _ _ sh _ _ _ a b w (StR.box hal hok (s.get 4 rfl) (rl.mono (s.get 5 rfl))) (ro.mono (s.get 3 rfl)) h0 h1 hpa hqb hsz)) rfl ?_; rintro v36 h36 r36
      refine rj_v rfl rfl (v_build [num sh.all.length, v36] rfl (by obtain ⟨_, _, rfl⟩ := r36.toR.sl; kernel_rfl)) rfl ?_
      refine rj_m 1 rfl rfl rfl rfl (m_store 1 ty_213 rfl rfl rfl rfl (by simp [one_int, r36.toR.sl.one]) rfl (Nat.le_of_ble_eq_true rfl)) rfl ?_; rintro _ _ ⟨rfl, rfl⟩
      refine rj_end ?_
      exact qs_mid (b8, h36, v36) (r36) ⟨rfl, rfl, rfl, rfl, rfl, rfl, trivial⟩ (fun _ s => s.pick [1, 0, 2, 3, 4, 5, 6] (by decide) rfl)
  · rintro ⟨b8, h36, v36⟩ r36
    dsimp only at r36 ⊢
    refine qs_n ?_
    refine wp_sc ?_
    refine wp_sq ?_
    refine sq_v rfl (v_assign rfl) rfl ?_
    refine sq_end ?_
    refine qs_n ?_
    refine wp_sc ?_
    refine wp_sc ?_
    refine wp_sq ?_
    refine sq_v rfl (v_move rfl) rfl ?_
    refine sq_v rfl (v_nilCheck rfl) rfl ?_
    refine sq_v rfl (v_fieldAddr fd_216_2 ty_214 (by decide) rfl) rfl ?_
    refine sq_v rfl (v_loadB 5 ty_214 rfl rfl (pre_get hal 1 rfl)) rfl ?_
    refine sq_v rfl (v_len Try.underlying214 rfl rl.sl) rfl ?_
    refine sq_v rfl (v_move rfl) rfl ?_
    refine sq_end ?_
    refine qs_n ?_
    refine wp_bl ?_
    refine wp_lp (σ := Nat × Value × PH × (List Value)) (fun z_ => [(0, .pointer (some ⟨bb, 0, none⟩)), (1, num p), (2, num q), (6, .pointer (some ⟨b6, 0, none⟩)), (7, .pointer (some ⟨b7, 0, none⟩)), (8, .pointer (some ⟨b8, 0, none⟩)), (9, z_.2.1), (41, lvv), (42, num sh.lv.length), (43, num z_.1)]) (fun z_ => [z_.2.2.1, box b8 [num sh.all.length, v36] 213, h36, box b7 [num (a : Nat), num (b : Nat)] 114, box b6 [num 0, num 0] 114, (restP w h), box bb (ints arr ++ [vo, lvv, num sh.all.length]) 216, hs]) (fun z_ => z_.1 ≤ sh.lv.length ∧ LvL (dropTo sh.lv p.toNat q.toNat z_.1) z_.2.2.2 hs ∧ RowO (213) z_.2.2.2 (dropTo sh.lv p.toNat q.toNat z_.1).length 2 z_.2.1 z_.2.2.1) (fun z_ => sh.lv.length - z_.1) (0, .slice none 0 0, emp, []) (⟨by (try dsimp only); omega, LvL.nil _, RowO.nil⟩) ⟨rfl, rfl, rfl, rfl, rfl, rfl, (by first | rfl | exact ksub rfl (by first | omega | (simp; done) | (simp; omega))), rfl, rfl, (by first | rfl | exact ksub rfl (by first | omega | (simp; done) | (simp; omega))), trivial⟩ (fun _ s => (emp_sat s)) ?_
    rintro ⟨j, lx, ha, cs⟩ ⟨hj, hlv, rr⟩
    dsimp only at hj hlv rr ⊢
    have hdl := dropTo_len sh.lv p.toNat q.toNat j
    refine wp_sc ?_
    refine wp_sq ?_
    refine sq_v rfl (v_lss rfl rfl) rfl ?_
    refine sq_end ?_
    refine qs_n ?_
    refine wp_sc ?_
    refine wp_cd rfl (fun c44 => ?_) (fun c44 => ?_)
    · refine wp_sk ?_
      refine qs_n ?_
      refine wp_sc ?_
      refine wp_bl ?_
      refine wp_sc ?_
      refine wp_sq ?_
      refine sq_v rfl (v_move rfl) rfl ?_
      obtain ⟨x46, a46, hx46, hcs46, rl46⟩ := hc_rl (j) (by first | omega | (rw [List.length_set]; omega))
      refine sq_v rfl (v_indexAddr Try.underlying214 ty_213 rfl rfl rr_rl (by decide) (by omega) (by omega)) rfl ?_
      refine sq_v rfl (v_loadNE 7 ty_213 rfl rfl rr_rl (by have := rr_rl.1; omega) rfl hcs46) rfl ?_
      refine sq_x rfl (x_alloc ty_213 rfl) rfl ?_; rintro _ _ ⟨b11, rfl, rfl⟩
      refine sq_v rfl (v_assign rfl) rfl ?_
      refine sq_m 0 rfl rfl (m_store 0 ty_213 rfl rfl rfl rfl (by simp [one_int, rl46.sl.one]) rfl (Nat.le_of_ble_eq_true rfl)) rfl ?_; rintro _ _ ⟨rfl, rfl⟩
      refine sq_end ?_
      refine qs_n ?_
      refine wp_sc ?_
      refine wp_sq ?_
      refine sq_v rfl (v_move rfl) rfl ?_
      refine sq_v rfl (v_move rfl) rfl ?_
      refine sq_v rfl (v_neq rfl rfl) rfl ?_
      refine sq_bd 50 rfl (fun c50 => ?_) (fun c50 => ?_)
      · refine sq_v rfl (v_move rfl) rfl ?_
        refine sq_v rfl (v_move rfl) rfl ?_
        refine sq_v rfl (v_move rfl) rfl ?_
        refine sq_v rfl (v_neq rfl rfl) rfl ?_
        refine sq_v rfl (v_pickt rfl rfl) rfl ?_
        refine sq_end ?_
        refine qs_n ?_
        refine wp_cd rfl (fun c55 => ?_) (fun c55 => ?_)
        · refine wp_sq ?_
          refine sq_v rfl (v_move rfl) rfl ?_
          refine sq_v rfl (v_loadNB 0 ty_213 rfl rfl rfl rfl) rfl ?_
          refine sq_x rfl (x_buildS [.agg [num x46.n, a46].toArray] Try.underlying214 ty_213 (by decide) rfl rfl rfl (by decide) (by decide) (by intro v hv; simp at hv; subst hv; rfl)) rfl ?_; intro v58 h58 (r58 : RowO 213 [num x46.n, a46] 1 2 v58 h58)
          refine sq_m 2 rfl rfl (m_append 2 0 Try.underlying214 ty_213 rfl rfl (by decide) rfl rfl rfl rr rfl r58.toR (by simp [one_int, rl46.sl.one]) (by unfold maxLen; omega) (by omega)) rfl ?_; intro v59 h_r59 (r59 : RowO 213 (cs ++ [num x46.n, a46]) ((dropTo sh.lv p.toNat q.toNat j).length + 1) 2 v59 h_r59)
          refine sq_v rfl (v_assign rfl) rfl ?_
          refine sq_end ?_
          refine qs_bn ?_
          refine qs_n ?_
          refine wp_sq ?_
          refine sq_v rfl (v_add rfl rfl ((by unfold I64; omega))) rfl ?_
          refine sq_v rfl (v_move rfl) rfl ?_
          refine sq_end ?_
          exact qs_bk (j + 1, v59, h_r59, cs ++ [num x46.n, a46]) ⟨by (try dsimp only); omega, by (try dsimp only); rw [dropTo_yes hx46 (by omega) (by omega)]; exact hlv.snoc rl46, by (try dsimp only); rw [dropTo_yes hx46 (by omega) (by omega), List.length_append]; exact r59⟩ (by simp only; omega) ⟨rfl, rfl, rfl, rfl, rfl, rfl, (by first | rfl | exact ksub rfl (by first | omega | (simp; done) | (simp; omega))), rfl, rfl, (by first | rfl | exact ksub rfl (by first | omega | (simp; done) | (simp; omega))), trivial⟩ (fun _ s => s.pick [2, 3, 4, 5, 6, 7, 8, 9] (by decide) rfl)
        · refine wp_sk ?_
          refine qs_bn ?_
          refine qs_n ?_
          refine wp_sq ?_
          refine sq_v rfl (v_add rfl rfl ((by unfold I64; omega))) rfl ?_
          refine sq_v rfl (v_move rfl) rfl ?_
          refine sq_end ?_
          exact qs_bk (j + 1, lx, ha, cs) ⟨by (try dsimp only); omega, by (try dsimp only); rw [dropTo_no (by omega)]; exact hlv, by (try dsimp only); rw [dropTo_no (by omega)]; exact rr⟩ (by simp only; omega) ⟨rfl, rfl, rfl, rfl, rfl, rfl, (by first | rfl | exact ksub rfl (by first | omega | (simp; done) | (simp; omega))), rfl, rfl, (by first | rfl | exact ksub rfl (by first | omega | (simp; done) | (simp; omega))), trivial⟩ (fun _ s => s.pick [1, 2, 3, 4, 5, 6, 7, 8] (by decide) rfl)
      · refine sq_v rfl (v_move rfl) rfl ?_
        refine sq_s rfl rfl ?_
        refine sq_s rfl rfl ?_
        refine sq_s rfl rfl ?_
        refine sq_v rfl (v_pickf rfl rfl) rfl ?_
        refine sq_end ?_
        refine qs_n ?_
        refine wp_cf rfl ?_
        refine wp_sk ?_
        refine qs_bn ?_
        refine qs_n ?_
        refine wp_sq ?_
        refine sq_v rfl (v_add rfl rfl ((by unfold I64; omega))) rfl ?_
        refine sq_v rfl (v_move rfl) rfl ?_
        refine sq_end ?_
        exact qs_bk (j + 1, lx, ha, cs) ⟨by (try dsimp only); omega, by (try dsimp only); rw [dropTo_no (by omega)]; exact hlv, by (try dsimp only); rw [dropTo_no (by omega)]; exact rr⟩ (by simp only; omega) ⟨rfl, rfl, rfl, rfl, rfl, rfl, (by first | rfl | exact ksub rfl (by first | omega | (simp; done) | (simp; omega))), rfl, rfl, (by first | rfl | exact ksub rfl (by first | omega | (simp; done) | (simp; omega))), trivial⟩ (fun _ s => s.pick [1, 2, 3, 4, 5, 6, 7, 8] (by decide) rfl)
    · refine wp_ex ?_
      refine qs_x ?_
      refine qs_x ?_
      refine qs_bx ?_
      refine qs_n ?_
      refine wp_sc ?_
      refine wp_sq ?_
      refine sq_v rfl (v_move rfl) rfl ?_
      refine sq_v rfl (v_move rfl) rfl ?_
      refine sq_v rfl (v_loadNB 1 ty_213 rfl rfl rfl rfl) rfl ?_
      refine sq_x rfl (x_buildS [.agg [num sh.all.length, v36].toArray] Try.underlying214 ty_213 (by decide) rfl rfl rfl (by decide) (by decide) (by intro v hv; simp at hv; subst hv; rfl)) rfl ?_; intro v64 h64 (r64 : RowO 213 [num sh.all.length, v36] 1 2 v64 h64)
      refine sq_m 1 rfl rfl (m_append 1 0 Try.underlying214 ty_213 rfl rfl (by decide) rfl rfl rfl rr rfl r64.toR (by simp [one_int, r36.toR.sl.one]) (by unfold maxLen; omega) (by omega)) rfl ?_; intro v65 h_r65 (r65 : RowO 213 (cs ++ [num sh.all.length, v36]) ((dropTo sh.lv p.toNat q.toNat j).length + 1) 2 v65 h_r65)
      refine sq_v rfl (v_nilCheck rfl) rfl ?_
      refine sq_v rfl (v_fieldAddr fd_216_2 ty_214 (by decide) rfl) rfl ?_
      refine sq_m 7 rfl rfl (m_store1 7 ty_214 rfl rfl r65.toR.sl.one rfl (by simp [ints_length, hal])) rfl ?_; rintro _ _ ⟨rfl, rfl⟩; rw [pre_set (j := 1) hal]; dsimp only [List.set]
      refine sq_end ?_
      refine qs_n ?_
      refine wp_sc ?_
      refine wp_sq ?_
      refine sq_v rfl (v_move rfl) rfl ?_
      refine sq_v rfl (v_nilCheck rfl) rfl ?_
      refine sq_v rfl (v_fieldAddr fd_216_3 ty_3 (by decide) rfl) rfl ?_
      refine sq_v rfl (v_loadB 7 ty_3 rfl rfl (pre_get hal 2 rfl)) rfl ?_
      refine sq_v rfl (v_add rfl rfl ((by unfold I64; omega))) rfl ?_
      refine sq_v rfl (v_nilCheck rfl) rfl ?_
      refine sq_v rfl (v_fieldAddr fd_216_3 ty_3 (by decide) rfl) rfl ?_
      refine sq_m 7 rfl rfl (m_store1 7 ty_3 rfl rfl rfl rfl (by simp [ints_length, hal])) rfl ?_; rintro _ _ ⟨rfl, rfl⟩; rw [pre_set (j := 2) hal]; dsimp only [List.set]
      refine sq_end ?_
      refine qs_n ?_
      refine wp_sc ?_
      refine wp_sq ?_
      refine sq_v rfl (v_loadNB 4 ty_114 rfl rfl rfl rfl) rfl ?_
      refine sq_m 5 rfl rfl (m_store 5 ty_114 rfl rfl rfl rfl (by simp [Value.oneCell']) rfl (Nat.le_of_ble_eq_true rfl)) rfl ?_; rintro _ _ ⟨rfl, rfl⟩
      refine sq_end ?_
      refine qs_n ?_
      refine wp_rt ?_
      refine qs_close [box bb _ _, restP w h, box b6 _ _] [hs, h_r65, h36] (fun _ s => s.pick [7, 6, 5, 8, 1, 3] (by decide) rfl) (fun md1 => ?_)
      refine qs_close [restP w h, box b6 _ _] [box bb _ _, joinP [hs, h_r65, h36]] (fun _ s => s.pick [2, 3, 1, 0] (by decide) rfl) (fun md2 => ?_)
      have ej : j = sh.lv.length := by omega
      subst ej
      have e := step_lv (op := op) hok hpa hqb
      have el : ((sh.step op a b).all.length : Int) = sh.all.length + 1 := by simp [Sh.step]
      have hlv' : LvL (sh.step op a b).lv (cs ++ [num sh.all.length, v36]) (joinP [hs, h_r65, h36]) := by rw [e]; exact (hlv.mono (md1.le hs (by simp))).snoc (x := ⟨sh.all.length, sh.res op a b⟩) (r36.toR.mono (md1.le h36 (by simp)))
      have hro := r65.toR.mono (md1.le h_r65 (by simp))
      exact qs_retc 2 rfl ty_114 rfl rfl rfl (fin_m 0 (i := 1) rfl rfl rfl ⟨rfl, hal, Sh.step_ok hok a b, v65, _, hlv'.live (by rw [e, List.length_append]; exact hro), by rw [el]; exact md2⟩)
/-- What a step of an order turns. -/
def FollowR (arr op : List Int) (vo : Value) (sh : Sh) (bb : Nat) (x y : Int) (u : Value) (h : PH) : Prop :=
  (sh.live x ∧ sh.live y ∧ x < y → u = .bool true ∧ StO arr vo (sh.step op x.toNat y.toNat) bb h) ∧ (¬ (sh.live x ∧ sh.live y ∧ x < y) → u = .bool false ∧ StO arr vo sh bb h)
theorem ct_i_follow (arr op : List Int) (vo : Value) (sh : Sh) (bb : Nat) (x y : Int) (w : World) (h : PH) (hle : PLe h (hp w)) (rs : StO arr vo sh bb h) (ro : IntsR op vo (restP w h))
    (hsz : ∀ i, (sh.lab i).length ≤ 50000) (hall : sh.all.length ≤ 100000) :
    Calls Try.prog 151 [.pointer (some ⟨bb, 0, none⟩), stepV x y].toArray w (Ret w h (FollowR arr op vo sh bb x y)) := by
  obtain ⟨lvv, rr⟩ := rs.toR
  refine calls_in Try.func151 rfl Try.ntmps151 rfl (Sat.start2 hle) ?_
  have hle0 := ro.le
  refine wp_sc ?_
  refine wp_sq ?_
  refine sq_x rfl (x_box rfl rfl) rfl ?_; rintro _ _ ⟨b3, rfl, rfl⟩
  refine sq_v rfl (v_assign rfl) rfl ?_
  refine sq_end ?_
  refine qs_n ?_
  refine wp_sc ?_
  refine wp_rj 10 [(0, true), (1, true), (2, true), (4, true), (5, true), (6, true), (3, false), (7, false), (8, true), (9, true)] mixed_ok (by kernel_rfl) ?_
  refine rj_v rfl rfl (v_move rfl) rfl ?_
  refine rj_v rfl rfl (v_fieldAddr fd_114_0 ty_3 (by decide) rfl) rfl ?_
  refine rj_v rfl rfl (v_loadB 0 ty_3 rfl rfl rfl) rfl ?_
  refine rj_v rfl rfl (v_move rfl) rfl ?_
  refine rj_v rfl rfl (v_fieldAddr fd_114_1 ty_3 (by decide) rfl) rfl ?_
  refine rj_v rfl rfl (v_loadB 0 ty_3 rfl rfl rfl) rfl ?_
  refine rj_u rfl rfl (x_callv rfl en_199 (fun w s => ct_i_place _ _ _ _ _ _ w (rr.mono (s.get 1 rfl)))) rfl ?_
  refine rj_u rfl rfl (x_callv rfl en_199 (fun w s => ct_i_place _ _ _ _ _ _ w (rr.mono (s.get 1 rfl)))) rfl ?_
  refine rj_v rfl rfl (v_assign rfl) rfl ?_
  refine rj_v rfl rfl (v_assign rfl) rfl ?_
  refine rj_end ?_
  refine qs_n ?_
  refine wp_sc ?_
  refine wp_sc ?_
  refine wp_sq ?_
  refine sq_v rfl (v_move rfl) rfl ?_
  refine sq_v rfl (v_lss rfl rfl) rfl ?_
  refine sq_bd 16 rfl (fun c16 => ?_) (fun c16 => ?_)
  · refine sq_v rfl (v_move rfl) rfl ?_
    refine sq_s rfl rfl ?_
    refine sq_s rfl rfl ?_
    refine sq_v rfl (v_pickt rfl rfl) rfl ?_
    refine sq_v rfl (v_move rfl) rfl ?_
    refine sq_s rfl rfl ?_
    refine sq_s rfl rfl ?_
    refine sq_s rfl rfl ?_
    refine sq_s rfl rfl ?_
    refine sq_s rfl rfl ?_
    refine sq_v rfl (v_pickt rfl rfl) rfl ?_
    refine sq_end ?_
    refine qs_n ?_
    refine wp_ct rfl ?_
    refine wp_sc ?_
    refine wp_sq ?_
    refine sq_v rfl (v_assign rfl) rfl ?_
    refine sq_end ?_
    refine qs_n ?_
    refine wp_rt ?_
    refine qs_r ?_
    exact qs_ret1 rfl rfl (fin_m 1 (i := 2) rfl rfl rfl (⟨fun hh => by have := place_ge.2 hh.1; omega, fun _ => ⟨rfl, rs⟩⟩))
  · refine sq_v rfl (v_move rfl) rfl ?_
    refine sq_v rfl (v_move rfl) rfl ?_
    refine sq_v rfl (v_lss rfl rfl) rfl ?_
    refine sq_v rfl (v_pickf rfl rfl) rfl ?_
    refine sq_bd 20 rfl (fun c20 => ?_) (fun c20 => ?_)
    · refine sq_v rfl (v_move rfl) rfl ?_
      refine sq_s rfl rfl ?_
      refine sq_s rfl rfl ?_
      refine sq_s rfl rfl ?_
      refine sq_s rfl rfl ?_
      refine sq_s rfl rfl ?_
      refine sq_v rfl (v_pickt rfl rfl) rfl ?_
      refine sq_end ?_
      refine qs_n ?_
      refine wp_ct rfl ?_
      refine wp_sc ?_
      refine wp_sq ?_
      refine sq_v rfl (v_assign rfl) rfl ?_
      refine sq_end ?_
      refine qs_n ?_
      refine wp_rt ?_
      refine qs_r ?_
      exact qs_ret1 rfl rfl (fin_m 1 (i := 2) rfl rfl rfl (⟨fun hh => by have := place_ge.2 hh.2.1; omega, fun _ => ⟨rfl, rs⟩⟩))
    · refine sq_v rfl (v_move rfl) rfl ?_
      refine sq_v rfl (v_fieldAddr fd_114_0 ty_3 (by decide) rfl) rfl ?_
      refine sq_v rfl (v_loadB 0 ty_3 rfl rfl rfl) rfl ?_
      refine sq_v rfl (v_fieldAddr fd_114_1 ty_3 (by decide) rfl) rfl ?_
      refine sq_v rfl (v_loadB 0 ty_3 rfl rfl rfl) rfl ?_
      refine sq_v rfl (v_geq rfl rfl) rfl ?_
      refine sq_v rfl (v_pickf rfl rfl) rfl ?_
      refine sq_end ?_
      refine qs_n ?_
      refine wp_cd rfl (fun c27 => ?_) (fun c27 => ?_)
      · refine wp_sc ?_
        refine wp_sq ?_
        refine sq_v rfl (v_assign rfl) rfl ?_
        refine sq_end ?_
        refine qs_n ?_
        refine wp_rt ?_
        refine qs_r ?_
        exact qs_ret1 rfl rfl (fin_m 1 (i := 2) rfl rfl rfl (⟨fun hh => by have := hh.2.2; omega, fun _ => ⟨rfl, rs⟩⟩))
      · refine wp_sk ?_
        refine qs_n ?_
        refine wp_sc ?_
        refine wp_sq ?_
        refine sq_v rfl (v_move rfl) rfl ?_
        refine sq_v rfl (v_move rfl) rfl ?_
        refine sq_v rfl (v_move rfl) rfl ?_
        have lx := place_ge.1 (Int.not_lt.1 c16); have ly := place_ge.1 (Int.not_lt.1 c20); have px := place_at lx; have py := place_at ly
        refine sq_m 1 rfl rfl (x_call rfl en_201 (fun w s => ct_i_contract _ op _ sh _ _ _ x.toNat y.toNat w _ (s.get 1 rfl) rs (ro.mono (s.getR 1 2 rfl rfl (by decide))) (by first | assumption | omega) (by first | assumption | omega) px.1 py.1 (by have := hsz x.toNat; have := hsz y.toNat; omega) (by first | assumption | omega))) rfl ?_; rintro _ h31 ⟨rfl, rs31⟩
        refine sq_end ?_
        refine qs_n ?_
        refine wp_sc ?_
        refine wp_sq ?_
        refine sq_v rfl (v_assign rfl) rfl ?_
        refine sq_end ?_
        refine qs_n ?_
        refine wp_rt ?_
        exact qs_ret1 rfl rfl (fin_m 1 (i := 2) rfl rfl rfl (⟨fun _ => ⟨rfl, rs31⟩, fun hn => absurd ⟨lx, ly, by omega⟩ hn⟩))
/-! ### the beginning -/
def sh0 (ts : List Ten) : Sh := ⟨ts.map (·.l), List.replicate ts.length false⟩
theorem sh0_ok (ts : List Ten) : (sh0 ts).ok := by simp [Sh.ok, sh0]
theorem sh0_ixs (ts : List Ten) : (sh0 ts).ixs = List.range ts.length := by
  unfold Sh.ixs
  have : (sh0 ts).all.length = ts.length := by simp [sh0]
  rw [this, List.filter_eq_self]
  intro i hi
  simp only [sh0, List.getD, List.getElem?_replicate]
  split <;> rfl
def lvTo (ts : List Ten) (i : Nat) : List Lv := (List.range i).map fun (k : Nat) => ⟨k, (sh0 ts).lab k⟩
theorem sh0_lv (ts : List Ten) : (sh0 ts).lv = lvTo ts ts.length := by rw [Sh.lv, sh0_ixs]; rfl
theorem lvTo_step {ts : List Ten} {i : Nat} {t : Ten} (h : ts[i]? = some t) : lvTo ts (i + 1) = lvTo ts i ++ [⟨i, t.l⟩] := by
  have : (sh0 ts).lab i = t.l := by simp [Sh.lab, sh0, List.getD, h]
  rw [lvTo, List.range_succ, List.map_append]
  simp [lvTo, this]
theorem bplaces_state : bplaces Try.prog 216 = some ((List.replicate 100 (num 0) ++ [.slice none 0 0, .slice none 0 0, num 0]).toArray, [(0, 100), (100, 1), (101, 1), (102, 1)]) := by kernel_rfl
theorem built_state (arr : List Int) (vo : Value) (nx : Int) (hal : arr.length = 100) (hvo : vo.oneCell' = true) :
    Try.prog.built 216 [(0, .agg (ints arr).toArray), (1, vo), (3, num nx)] = some (stCells arr vo (.slice none 0 0) nx).toArray := by
  rw [built_of bplaces_state]
  have f1 := fill_at (place := fun i => ([(0, 100), (100, 1), (101, 1), (102, 1)] : List (Nat × Nat)).toArray[i]?) (A := []) (us := ints arr) (cs := List.replicate 100 (num 0)) (B := [.slice none 0 0, .slice none 0 0, num 0]) (i := 0) (v := .agg (ints arr).toArray) (rest := [(1, vo), (3, num nx)]) rfl rfl (by rw [ints_length]; exact hal) rfl (by simp)
  have f2 := fill_at (place := fun i => ([(0, 100), (100, 1), (101, 1), (102, 1)] : List (Nat × Nat)).toArray[i]?) (A := ints arr) (us := [vo]) (cs := [.slice none 0 0]) (B := [.slice none 0 0, num 0]) (i := 1) (v := vo) (rest := [(3, num nx)]) rfl (oneCell_cells hvo) rfl (by rw [ints_length]; exact hal) rfl
  have f3 := fill_at (place := fun i => ([(0, 100), (100, 1), (101, 1), (102, 1)] : List (Nat × Nat)).toArray[i]?) (A := ints arr ++ [vo, .slice none 0 0]) (us := [num nx]) (cs := [num 0]) (B := []) (i := 3) (v := num nx) (rest := []) rfl rfl rfl (by simp [ints_length, hal]) rfl
  simp only [List.nil_append] at f1
  rw [f1]
  rw [show (ints arr ++ [Value.slice none 0 0, .slice none 0 0, num 0]) = ints arr ++ [.slice none 0 0] ++ [.slice none 0 0, num 0] by simp, f2]
  rw [show (ints arr ++ [vo] ++ [Value.slice none 0 0, num 0]) = ints arr ++ [vo, .slice none 0 0] ++ [num 0] ++ [] by simp, f3]
  simp [Instr.fill, stCells]
set_option maxHeartbeats 2000000 in
theorem ct_i_startState (k p n : Int) (ts : List Ten) (op : List Int) (vt vo : Value) (w : World) (r : TensR ts vt (hp w)) (r' : IntsR op vo (hp w)) (hok : ∀ t ∈ ts, axesL t.l t.d) (hts : ts.length ≤ 12) :
    Calls Try.prog 150 [netV k p n vt vo].toArray w (Ret w emp (fun u h => ∃ bb arr, u = ptrV bb ∧ StO arr vo (sh0 ts) bb h ∧ (consL ts → arrInv ts arr))) := by
  refine calls_in Try.func150 rfl Try.ntmps150 rfl (Sat.start w) ?_
  have hle0 := r.le
  obtain ⟨cs_r, rr_r, hc_r⟩ := r.at
  have hle1 := r'.le
  refine wp_sc ?_
  refine wp_sq ?_
  refine sq_x rfl (x_box rfl rfl) rfl ?_; rintro _ _ ⟨b1, rfl, rfl⟩
  refine sq_v rfl (v_assign rfl) rfl ?_
  refine sq_end ?_
  refine qs_n ?_
  refine wp_sc ?_
  refine wp_sq ?_
  refine sq_v rfl (v_fieldAddr fd_48_1 ty_46 (by decide) rfl) rfl ?_
  refine sq_v rfl (v_loadB 0 ty_46 rfl rfl rfl) rfl ?_
  refine sq_x rfl (x_call rfl en_129 (fun w s => ct_i_dimsOf _ _ w (r.mono (s.get 1 rfl)) (by first | assumption | omega))) rfl ?_; rintro _ h11 ⟨arr, ok, rfl, hal, hok', hav⟩
  refine sq_v rfl (v_move rfl) rfl ?_
  refine sq_v rfl (v_extract rfl rfl) rfl ?_
  refine sq_v rfl (v_extract rfl rfl) rfl ?_
  refine sq_x rfl (x_alloc ty_155 rfl) rfl ?_; rintro _ _ ⟨b3, rfl, rfl⟩
  refine sq_m 0 rfl rfl (m_storeW 0 ty_155 rfl rfl rfl (by rw [ints_length]; exact hal) (ints_one arr) rfl (by simp)) rfl ?_; rintro _ _ ⟨rfl, rfl⟩
  refine sq_v rfl (v_assign rfl) rfl ?_
  refine sq_end ?_
  refine qs_n ?_
  refine wp_sc ?_
  refine wp_sq ?_
  refine sq_v rfl (v_loadNB 0 ty_155 rfl rfl (by rw [ints_length]; exact hal) (by rw [List.drop_zero, List.take_of_length_le]; rw [ints_length, hal]; omega)) rfl ?_
  refine sq_v rfl (v_fieldAddr fd_48_2 ty_24 (by decide) rfl) rfl ?_
  refine sq_v rfl (v_loadB 2 ty_24 rfl rfl rfl) rfl ?_
  refine sq_v rfl (v_fieldAddr fd_48_1 ty_46 (by decide) rfl) rfl ?_
  refine sq_v rfl (v_loadB 2 ty_46 rfl rfl rfl) rfl ?_
  refine sq_v rfl (v_len Try.underlying46 rfl r.sl) rfl ?_
  refine sq_v rfl (v_build (stCells arr vo (.slice none 0 0) ts.length) rfl (built_state arr vo _ hal r'.sl.one)) rfl ?_
  refine sq_x rfl (x_box rfl rfl) rfl ?_; rintro _ _ ⟨b21, rfl, rfl⟩
  refine sq_v rfl (v_assign rfl) rfl ?_
  refine sq_end ?_
  refine qs_n ?_
  refine wp_sc ?_
  refine wp_sc ?_
  refine wp_sq ?_
  refine sq_v rfl (v_fieldAddr fd_48_1 ty_46 (by decide) rfl) rfl ?_
  refine sq_v rfl (v_loadB 3 ty_46 rfl rfl rfl) rfl ?_
  refine sq_v rfl (v_len Try.underlying46 rfl r.sl) rfl ?_
  refine sq_v rfl (v_move rfl) rfl ?_
  refine sq_end ?_
  refine qs_n ?_
  refine wp_bl ?_
  refine wp_lp (σ := Nat × Value × PH × (List Value) × PH) (fun z_ => [(2, .pointer none), (5, .pointer (some ⟨b21, 0, none⟩)), (23, vt), (24, num ts.length), (25, num z_.1)]) (fun z_ => [z_.2.2.2.2, z_.2.2.1, box b21 (ints arr ++ [vo, z_.2.1, num ts.length]) 216, box b3 (ints arr) 155, h11, box b1 [num k, num p, num n, vt, vo] 48, hp w]) (fun z_ => z_.1 ≤ ts.length ∧ LvL (lvTo ts z_.1) z_.2.2.2.1 z_.2.2.2.2 ∧ RowO (213) z_.2.2.2.1 z_.1 2 z_.2.1 z_.2.2.1) (fun z_ => ts.length - z_.1) (0, .slice none 0 0, emp, [], emp) (⟨by (try dsimp only); omega, LvL.nil _, RowO.nil⟩) ⟨rfl, rfl, rfl, rfl, (by first | rfl | exact ksub rfl (by first | omega | (simp; done) | (simp; omega))), trivial⟩ (fun _ s => (emp_sat (emp_sat s))) ?_
  rintro ⟨i, lx, ha, cs, hl⟩ ⟨hi, hlv, rr⟩
  dsimp only at hi hlv rr ⊢
  refine wp_sc ?_
  refine wp_sq ?_
  refine sq_v rfl (v_lss rfl rfl) rfl ?_
  refine sq_end ?_
  refine qs_n ?_
  refine wp_sc ?_
  refine wp_cd rfl (fun c26 => ?_) (fun c26 => ?_)
  · refine wp_sk ?_
    refine qs_n ?_
    refine wp_sc ?_
    refine wp_bl ?_
    refine wp_sc ?_
    refine wp_sq ?_
    refine sq_v rfl (v_move rfl) rfl ?_
    obtain ⟨t28, a28, b28, c28, ht28, hcs28, rl28, rd28, rx28⟩ := hc_r (i) (by first | omega | (rw [List.length_set]; omega))
    refine sq_v rfl (v_indexAddr Try.underlying46 ty_28 rfl rfl rr_r (by decide) (by omega) (by omega)) rfl ?_
    refine sq_v rfl (v_loadNE 6 ty_28 rfl rfl rr_r (by have := rr_r.1; omega) rfl hcs28) rfl ?_
    refine sq_x rfl (x_alloc ty_28 rfl) rfl ?_; rintro _ _ ⟨b7, rfl, rfl⟩
    refine sq_v rfl (v_assign rfl) rfl ?_
    refine sq_m 0 rfl rfl (m_store 0 ty_28 rfl rfl rfl rfl (by simp [rl28.sl.one, rd28.sl.one, rx28.sl.one]) rfl (Nat.le_of_ble_eq_true rfl)) rfl ?_; rintro _ _ ⟨rfl, rfl⟩
    refine sq_end ?_
    have hax := hok t28 (List.mem_of_getElem? ht28)
    have hl12 := hax.1
    refine qs_n ?_
    refine wp_rk [false, false, true, false, false, false, false, false] 12 [(0, true), (1, true), (2, true), (3, true), (4, true), (5, true), (6, true), (7, true), (8, false), (9, true), (10, false), (11, false), (12, false), (13, false), (14, false)] mixed_ok (by kernel_rfl) ?_
    refine rk_v rfl rfl (v_move rfl) rfl ?_
    refine rk_v rfl rfl (v_move rfl) rfl ?_
    refine rk_v rfl rfl (v_nilCheck rfl) rfl ?_
    refine rk_v rfl rfl (v_fieldAddr fd_216_2 ty_214 (by decide) rfl) rfl ?_
    refine rk_v rfl rfl (v_loadB 3 ty_214 rfl rfl (pre_get hal 1 rfl)) rfl ?_
    refine rk_v rfl rfl (v_move rfl) rfl ?_
    refine rk_v rfl rfl (v_fieldAddr fd_28_0 ty_24 (by decide) rfl) rfl ?_
    refine rk_v rfl rfl (v_loadB 0 ty_24 rfl rfl rfl) rfl ?_
    refine rk_x rfl rfl (x_call rfl en_91 (fun w s => ct_i_copyInts _ _ w (rl28.mono (s.get 7 rfl)) (by first | assumption | omega))) rfl ?_; rintro v38 h38 r38
    refine rk_v rfl rfl (v_build [num i, v38] rfl (by obtain ⟨_, _, rfl⟩ := r38.toR.sl; kernel_rfl)) rfl ?_
    refine rk_x rfl rfl (x_buildS [.agg [num i, v38].toArray] Try.underlying214 ty_213 (by decide) rfl rfl rfl (by decide) (by decide) (by intro v hv; simp at hv; subst hv; rfl)) rfl ?_; intro v40 h40 (r40 : RowO 213 [num i, v38] 1 2 v40 h40)
    refine rk_m 4 rfl rfl rfl rfl (m_append 4 0 Try.underlying214 ty_213 rfl rfl (by decide) rfl rfl rfl rr rfl r40.toR (by simp [one_int, r38.toR.sl.one]) (by unfold maxLen; omega) (by omega)) rfl ?_; intro v41 h_r41 (r41 : RowO 213 (cs ++ [num i, v38]) (i + 1) 2 v41 h_r41)
    refine rk_fv rfl rfl (v_nilCheck rfl) rfl ?_
    refine rk_fv rfl rfl (v_fieldAddr fd_216_2 ty_214 (by decide) rfl) rfl ?_
    refine rk_mt 5 rfl rfl rfl rfl (m_store1 5 ty_214 rfl rfl r41.toR.sl.one rfl (by simp [ints_length, hal])) rfl ?_; rintro _ _ ⟨rfl, rfl⟩; rw [pre_set (j := 1) hal]; dsimp only [List.set]
    refine rk_end ?_
    refine qs_bn ?_
    refine qs_n ?_
    refine wp_sq ?_
    refine sq_v rfl (v_add rfl rfl ((by unfold I64; omega))) rfl ?_
    refine sq_v rfl (v_move rfl) rfl ?_
    refine sq_end ?_
    refine qs_dj 3 1 rfl rfl rfl (fun hdj => ?_)
    exact qs_bk (i + 1, v41, h_r41, cs ++ [num i, v38], PUn hl h38) ⟨by (try dsimp only); omega, by (try dsimp only); rw [lvTo_step ht28]; exact (hlv.mono (PLe.un_l _ _)).snoc (x := ⟨i, t28.l⟩) (r38.toR.mono (PLe.un_r hdj)), r41⟩ (by simp only; omega) ⟨rfl, rfl, rfl, rfl, (by first | rfl | exact ksub rfl (by first | omega | (simp; done) | (simp; omega))), trivial⟩ (fun _ s => Sat.merge (s.pick [3, 1, 4, 5, 6, 7, 8, 9] (by decide) rfl))
  · refine wp_ex ?_
    refine qs_x ?_
    refine qs_x ?_
    refine qs_bx ?_
    refine qs_n ?_
    refine wp_sc ?_
    refine wp_sq ?_
    refine sq_v rfl (v_move rfl) rfl ?_
    refine sq_v rfl (v_assign rfl) rfl ?_
    refine sq_end ?_
    refine qs_n ?_
    refine wp_rt ?_
    refine qs_close [box b21 _ _, hp w] [hl, ha] (fun _ s => s.pick [2, 6, 0, 1] (by decide) rfl) (fun md1 => ?_)
    refine qs_close [hp w] [box b21 _ _, joinP [hl, ha]] (fun _ s => s.pick [2, 1, 0] (by decide) rfl) (fun md2 => ?_)
    have ei : i = ts.length := by omega
    subst ei
    have el : ((sh0 ts).all.length : Int) = ts.length := by simp [sh0]
    have hll : (lvTo ts ts.length).length = ts.length := by simp [lvTo]
    have hlive := (hlv.mono (md1.le hl (by simp))).live (by rw [hll]; exact rr.toR.mono (md1.le ha (by simp)))
    exact qs_ret1 rfl rfl (fin_t 0 (i := 1) rfl rfl rfl ⟨b21, arr, rfl, ⟨hal, sh0_ok ts, lx, _, by rw [sh0_lv]; exact hlive, by rw [el]; exact md2⟩, fun hc => hav (hok'.2 hc)⟩)
end Go.Proofs.Ytikeobneipjfnaa
