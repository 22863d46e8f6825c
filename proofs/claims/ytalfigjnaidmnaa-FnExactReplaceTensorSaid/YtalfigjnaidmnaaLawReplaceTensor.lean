/-
  At every network, place and tensor the program's ReplaceTensor returns what the reference's returns; the result shares no memory with an argument.
  Conditions: none.
-/
import Derived.Test.YtalfigjnaidmnaaLiftTen
import Derived.Test.YtalfigjnaidmnaaLaw7
import Derived.Test.YtalfigjnaidmnaaRepl
namespace Go.Proofs.Ytalfigjnaidmnaa
set_option maxRecDepth 100000
open Go.ChangeShapes Go.WideShapes Go.ChangeAt Go.RowKit
theorem ct_L_sReplaceTensor (k p n i : Int) (ts : List Ten) (op : List Int) (u : Ten) (vt vo a b c : Value) (w : World) (r : TensR ts vt (hp w)) (r' : IntsR op vo (hp w)) (r1 : IntsR u.l a (hp w)) (r2 : IntsR u.d b (hp w)) (r3 : IntsR u.x c (hp w)) (hs : op.length ≤ 1048576) :
    Calls Try.prog 45 [netV k p n vt vo, num i, tenV a b c].toArray w (Ret w emp (NetB (ifB (replB k p n ts op i u) k 0) (ifB (replB k p n ts op i u) p 0) (ifB (replB k p n ts op i u) n 0) (replTs k p n ts op i u) (replOp k p n ts op i u) (replB k p n ts op i u))) :=
  ct_s_ReplaceTensor k p n i ts op u vt vo a b c w r r' r1 r2 r3 hs
theorem ct_L_iReplaceTensor (k p n i : Int) (ts : List Ten) (op : List Int) (u : Ten) (vt vo a b c : Value) (w : World) (r : TensR ts vt (hp w)) (r' : IntsR op vo (hp w)) (r1 : IntsR u.l a (hp w)) (r2 : IntsR u.d b (hp w)) (r3 : IntsR u.x c (hp w)) (hs : op.length ≤ 1048576) :
    Calls Try.prog 46 [netV k p n vt vo, num i, tenV a b c].toArray w (Ret w emp (NetB (ifB (replB k p n ts op i u) k 0) (ifB (replB k p n ts op i u) p 0) (ifB (replB k p n ts op i u) n 0) (replTs k p n ts op i u) (replOp k p n ts op i u) (replB k p n ts op i u))) :=
  ct_i_ReplaceTensor k p n i ts op u vt vo a b c w r r' r1 r2 r3 hs
theorem tensSize_drop (ts : List Ten) (i : Nat) : tensSize (ts.drop i) ≤ tensSize ts ∧ tensSize (ts.take i) + tensSize (ts.drop i) = tensSize ts := by
  have h := tensSize_append (ts.take i) (ts.drop i)
  rw [List.take_append_drop] at h
  have := tensSize_nn (ts.take i)
  omega
theorem repl_size (k p n i : Int) (ts : List Ten) (op : List Int) (u : Ten) : 0 ≤ tensSize (replTs k p n ts op i u) ∧ tensSize (replTs k p n ts op i u) ≤ tensSize ts + tenSize u ∧ (replOp k p n ts op i u).length ≤ op.length := by
  have hu := tenSize_nn u
  have ht := tensSize_nn ts
  refine ⟨tensSize_nn _, ?_, ?_⟩
  · unfold replTs
    cases replB k p n ts op i u with
    | false => simp [ifB, tensSize]; omega
    | true =>
      simp only [ifB, if_true]
      rcases Nat.lt_or_ge i.toNat ts.length with h | h
      · rw [List.set_eq_take_append_cons_drop, if_pos h, tensSize_append]
        have h1 := tensSize_drop ts i.toNat
        have h2 := tensSize_drop (ts.drop i.toNat) 1
        rw [List.drop_drop] at h2
        simp only [tensSize]
        omega
      · rw [List.set_eq_of_length_le h]; omega
  · unfold replOp
    cases replB k p n ts op i u with
    | false => simp [ifB]
    | true => simp [ifB]
set_option maxHeartbeats 4000000 in
theorem ct_l_FnExactReplaceTensor (k p n i : Int) (ts : List Ten) (op : List Int) (u : Ten) (vt vo a b c : Value) (w : World) (r : TensR ts vt (hp w)) (r' : IntsR op vo (hp w)) (r1 : IntsR u.l a (hp w)) (r2 : IntsR u.d b (hp w)) (r3 : IntsR u.x c (hp w)) :
    Calls Try.prog 9 [netV k p n vt vo, num i, tenV a b c].toArray w (RetV w (.bool true)) := by
  have hnn := tensSize_nn ts
  have hun := tenSize_nn u
  have hrs := repl_size k p n i ts op u
  refine calls_in Try.func9 rfl Try.ntmps9 rfl (Sat.start w) ?_
  have hle0 := r.le
  obtain ⟨cs_r, rr_r, hc_r⟩ := r.at
  have hle1 := r'.le
  have hle2 := r1.le
  have hle3 := r2.le
  have hle4 := r3.le
  refine wp_sc ?_
  refine wp_sq ?_
  refine sq_x rfl (x_box rfl rfl) rfl ?_; rintro _ _ ⟨b3, rfl, rfl⟩
  refine sq_x rfl (x_box rfl rfl) rfl ?_; rintro _ _ ⟨b5, rfl, rfl⟩
  refine sq_v rfl (v_assign rfl) rfl ?_
  refine sq_end ?_
  refine qs_n ?_
  refine wp_sc ?_
  refine wp_sq ?_
  refine sq_v rfl (v_assign rfl) rfl ?_
  refine sq_end ?_
  refine qs_n ?_
  refine wp_sc ?_
  refine wp_sq ?_
  refine sq_v rfl (v_loadNB 1 ty_27 rfl rfl rfl rfl) rfl ?_
  refine sq_v rfl (v_move rfl) rfl ?_
  refine sq_u rfl (x_callv rfl en_15 (fun w s => ct_l_szNetwork _ _ _ _ _ _ _ _ w (r.mono (s.get 2 rfl)) (r'.mono (s.get 2 rfl)) (by first | assumption | exact iota_held _ _ | omega | rfl))) rfl ?_
  refine sq_v rfl (v_assign rfl) rfl ?_
  refine sq_end ?_
  refine qs_n ?_
  refine wp_sc ?_
  refine wp_sc ?_
  refine wp_sq ?_
  refine sq_v rfl (v_move rfl) rfl ?_
  refine sq_v rfl (v_lss rfl rfl) rfl ?_
  refine sq_end ?_
  refine qs_n ?_
  refine wp_cd rfl (fun c23 => ?_) (fun c23 => ?_)
  · refine wp_sc ?_
    refine wp_sq ?_
    refine sq_v rfl (v_assign rfl) rfl ?_
    refine sq_end ?_
    refine qs_n ?_
    refine wp_rt ?_
    refine qs_r ?_
    exact qs_ret1 rfl rfl (fin_v (i := 2) rfl)
  · have hz23 := szV_ge c23
    refine wp_sk ?_
    refine qs_n ?_
    refine wp_sc ?_
    refine wp_sq ?_
    refine sq_v rfl (v_loadNB 0 ty_50 rfl rfl rfl rfl) rfl ?_
    refine sq_v rfl (v_move rfl) rfl ?_
    refine sq_u rfl (x_callv rfl en_31 (fun w s => ct_l_szTensor _ _ _ _ _ w (r1.mono (s.get 2 rfl)) (r2.mono (s.get 2 rfl)) (r3.mono (s.get 2 rfl)) (by first | assumption | exact iota_held _ _ | omega | rfl))) rfl ?_
    refine sq_v rfl (v_assign rfl) rfl ?_
    refine sq_end ?_
    refine qs_n ?_
    refine wp_sc ?_
    refine wp_sc ?_
    refine wp_sq ?_
    refine sq_v rfl (v_move rfl) rfl ?_
    refine sq_v rfl (v_lss rfl rfl) rfl ?_
    refine sq_end ?_
    refine qs_n ?_
    refine wp_cd rfl (fun c28 => ?_) (fun c28 => ?_)
    · refine wp_sc ?_
      refine wp_sq ?_
      refine sq_v rfl (v_assign rfl) rfl ?_
      refine sq_end ?_
      refine qs_n ?_
      refine wp_rt ?_
      refine qs_r ?_
      exact qs_ret1 rfl rfl (fin_v (i := 2) rfl)
    · have hz28 := szV_ge c28
      refine wp_sk ?_
      refine qs_n ?_
      refine wp_sc ?_
      refine wp_ra (σ := Nat × PH × PH × PH × Value × Value × Value × Value × Value × Value × Value) 11 (fun z_ => NetO ts op z_.2.2.2.2.1 z_.2.2.2.2.2.1 z_.2.2.2.1 ∧ TriO u z_.2.2.2.2.2.2.1 z_.2.2.2.2.2.2.2.1 z_.2.2.2.2.2.2.2.2.1 z_.2.2.1 ∧ NetO (replTs k p n ts op i u) (replOp k p n ts op i u) z_.2.2.2.2.2.2.2.2.2.1 z_.2.2.2.2.2.2.2.2.2.2 z_.2.1) (fun z_ => [(1, num i), (3, .pointer (some ⟨b3, 0, none⟩)), (5, .pointer (some ⟨b5, 0, none⟩)), (6, .bool false), (8, .pointer (some ⟨z_.1, 0, none⟩)), (9, .bool (replB k p n ts op i u)), (23, .bool (decide ((szV 1048576 (ts.length + tensSize ts + op.length) : Int) < 0))), (28, .bool (decide ((szV (szV 1048576 (ts.length + tensSize ts + op.length)) (tenSize u) : Int) < 0)))]) (fun z_ => [box z_.1 [num (ifB (replB k p n ts op i u) k 0), num (ifB (replB k p n ts op i u) p 0), num (ifB (replB k p n ts op i u) n 0), z_.2.2.2.2.2.2.2.2.2.1, z_.2.2.2.2.2.2.2.2.2.2] 33, z_.2.1, z_.2.2.1, z_.2.2.2.1, box b5 [a, b, c] 50, box b3 [num k, num p, num n, vt, vo] 27, hp w]) mixed_ok (by kernel_rfl) ?_ ?_
      · refine rak_of ?_
        refine rak_v (i := 0) (by kernel_rfl) rfl rfl (v_loadNB 1 ty_27 rfl rfl rfl rfl) rfl ?_
        refine rak_v (i := 2) (by kernel_rfl) rfl rfl (v_move rfl) rfl ?_
        refine rak_v (i := 3) (by kernel_rfl) rfl rfl (v_loadNB 0 ty_50 rfl rfl rfl rfl) rfl ?_
        refine rak_2 (i := 1) (j := 9) (by kernel_rfl) ?_ ?_
        · refine rok_x rfl rfl (x_call rfl en_17 (fun w s => ct_L_toNetwork _ _ _ _ _ _ _ w (r.mono (s.get 2 rfl)) (r'.mono (s.get 2 rfl)) (by first | assumption | exact iota_held _ _ | omega | rfl))) rfl ?_; rintro _ h31 ⟨vt31, vo31, rfl, o31⟩
          obtain ⟨cs_T_31, rr_T_31, hc_T_31⟩ := o31.toR.1.at
          refine rak_2 (i := 4) (j := 9) (by kernel_rfl) ?_ ?_
          · refine rok_x rfl rfl (x_call rfl en_34 (fun w s => ct_L_toTensor _ _ _ _ w (r1.mono (s.get 3 rfl)) (r2.mono (s.get 3 rfl)) (r3.mono (s.get 3 rfl)) (by first | assumption | exact iota_held _ _ | omega | rfl))) rfl ?_; rintro _ h34 ⟨va34, vb34, vc34, rfl, o34⟩
            refine rak_2 (i := 5) (j := 9) (by kernel_rfl) ?_ ?_
            · refine rok_x rfl rfl (x_call rfl en_45 (fun w s => ct_L_sReplaceTensor _ _ _ _ _ _ _ _ _ _ _ _ w (o31.toR.1.mono (s.get 1 rfl)) (o31.toR.2.mono (s.get 1 rfl)) (o34.toR.1.mono (s.get 0 rfl)) (o34.toR.2.1.mono (s.get 0 rfl)) (o34.toR.2.2.mono (s.get 0 rfl)) (by first | assumption | exact iota_held _ _ | omega | rfl))) rfl ?_; rintro _ h35 ⟨vt35, vo35, rfl, o35⟩
              obtain ⟨cs_T_35, rr_T_35, hc_T_35⟩ := o35.toR.1.at
              refine rak_rk [(6, true), (7, true), (8, true), (9, false), (10, false), (11, false)] (by kernel_rfl) rfl ?_
              refine rk_v rfl rfl (v_move rfl) rfl ?_
              refine rk_v rfl rfl (v_extract rfl rfl) rfl ?_
              refine rk_v rfl rfl (v_extract rfl rfl) rfl ?_
              refine rk_xb rfl rfl (x_alloc ty_33 rfl) rfl ?_; rintro _ _ ⟨b8, rfl, rfl⟩
              refine rk_m 0 rfl rfl rfl rfl (m_store 0 ty_33 rfl rfl rfl rfl (by simp [one_int, o35.toR.1.sl.one, o35.toR.2.sl.one]) rfl (Nat.le_of_ble_eq_true rfl)) rfl ?_; rintro _ _ ⟨rfl, rfl⟩
              refine rk_fv rfl rfl (v_assign rfl) rfl ?_
              refine rk_end ?_
              exact qs_mid (b8, h35, h34, h31, vt31, vo31, va34, vb34, vc34, vt35, vo35) ⟨o31, o34, o35⟩ ⟨rfl, rfl, rfl, rfl, rfl, rfl, rfl, rfl, trivial⟩ (fun _ s => s.pick [0, 1, 2, 3, 4, 5, 6] (by decide) rfl)
            · refine rok_xb rfl rfl (x_alloc ty_33 rfl) rfl ?_; rintro _ _ ⟨b8, rfl, rfl⟩
              refine rak_rk [(5, false), (6, true), (7, true), (8, true), (10, false), (11, false)] (by kernel_rfl) rfl ?_
              refine rk_x rfl rfl (x_call rfl en_45 (fun w s => ct_L_sReplaceTensor _ _ _ _ _ _ _ _ _ _ _ _ w (o31.toR.1.mono (s.get 2 rfl)) (o31.toR.2.mono (s.get 2 rfl)) (o34.toR.1.mono (s.get 1 rfl)) (o34.toR.2.1.mono (s.get 1 rfl)) (o34.toR.2.2.mono (s.get 1 rfl)) (by first | assumption | exact iota_held _ _ | omega | rfl))) rfl ?_; rintro _ h35 ⟨vt35, vo35, rfl, o35⟩
              obtain ⟨cs_T_35, rr_T_35, hc_T_35⟩ := o35.toR.1.at
              refine rk_v rfl rfl (v_move rfl) rfl ?_
              refine rk_v rfl rfl (v_extract rfl rfl) rfl ?_
              refine rk_v rfl rfl (v_extract rfl rfl) rfl ?_
              refine rk_m 1 rfl rfl rfl rfl (m_store 1 ty_33 rfl rfl rfl rfl (by simp [one_int, o35.toR.1.sl.one, o35.toR.2.sl.one]) rfl (Nat.le_of_ble_eq_true rfl)) rfl ?_; rintro _ _ ⟨rfl, rfl⟩
              refine rk_fv rfl rfl (v_assign rfl) rfl ?_
              refine rk_end ?_
              exact qs_mid (b8, h35, h34, h31, vt31, vo31, va34, vb34, vc34, vt35, vo35) ⟨o31, o34, o35⟩ ⟨rfl, rfl, rfl, rfl, rfl, rfl, rfl, rfl, trivial⟩ (fun _ s => s.pick [1, 0, 2, 3, 4, 5, 6] (by decide) rfl)
          · refine rok_xb rfl rfl (x_alloc ty_33 rfl) rfl ?_; rintro _ _ ⟨b8, rfl, rfl⟩
            refine rak_rk [(4, false), (5, false), (6, true), (7, true), (8, true), (10, false), (11, false)] (by kernel_rfl) rfl ?_
            refine rk_x rfl rfl (x_call rfl en_34 (fun w s => ct_L_toTensor _ _ _ _ w (r1.mono (s.get 4 rfl)) (r2.mono (s.get 4 rfl)) (r3.mono (s.get 4 rfl)) (by first | assumption | exact iota_held _ _ | omega | rfl))) rfl ?_; rintro _ h34 ⟨va34, vb34, vc34, rfl, o34⟩
            refine rk_x rfl rfl (x_call rfl en_45 (fun w s => ct_L_sReplaceTensor _ _ _ _ _ _ _ _ _ _ _ _ w (o31.toR.1.mono (s.get 2 rfl)) (o31.toR.2.mono (s.get 2 rfl)) (o34.toR.1.mono (s.get 0 rfl)) (o34.toR.2.1.mono (s.get 0 rfl)) (o34.toR.2.2.mono (s.get 0 rfl)) (by first | assumption | exact iota_held _ _ | omega | rfl))) rfl ?_; rintro _ h35 ⟨vt35, vo35, rfl, o35⟩
            obtain ⟨cs_T_35, rr_T_35, hc_T_35⟩ := o35.toR.1.at
            refine rk_v rfl rfl (v_move rfl) rfl ?_
            refine rk_v rfl rfl (v_extract rfl rfl) rfl ?_
            refine rk_v rfl rfl (v_extract rfl rfl) rfl ?_
            refine rk_m 2 rfl rfl rfl rfl (m_store 2 ty_33 rfl rfl rfl rfl (by simp [one_int, o35.toR.1.sl.one, o35.toR.2.sl.one]) rfl (Nat.le_of_ble_eq_true rfl)) rfl ?_; rintro _ _ ⟨rfl, rfl⟩
            refine rk_fv rfl rfl (v_assign rfl) rfl ?_
            refine rk_end ?_
            exact qs_mid (b8, h35, h34, h31, vt31, vo31, va34, vb34, vc34, vt35, vo35) ⟨o31, o34, o35⟩ ⟨rfl, rfl, rfl, rfl, rfl, rfl, rfl, rfl, trivial⟩ (fun _ s => s.pick [2, 0, 1, 3, 4, 5, 6] (by decide) rfl)
        · refine rok_xb rfl rfl (x_alloc ty_33 rfl) rfl ?_; rintro _ _ ⟨b8, rfl, rfl⟩
          refine rak_rk [(1, false), (4, false), (5, false), (6, true), (7, true), (8, true), (10, false), (11, false)] (by kernel_rfl) rfl ?_
          refine rk_x rfl rfl (x_call rfl en_17 (fun w s => ct_L_toNetwork _ _ _ _ _ _ _ w (r.mono (s.get 3 rfl)) (r'.mono (s.get 3 rfl)) (by first | assumption | exact iota_held _ _ | omega | rfl))) rfl ?_; rintro _ h31 ⟨vt31, vo31, rfl, o31⟩
          obtain ⟨cs_T_31, rr_T_31, hc_T_31⟩ := o31.toR.1.at
          refine rk_x rfl rfl (x_call rfl en_34 (fun w s => ct_L_toTensor _ _ _ _ w (r1.mono (s.get 4 rfl)) (r2.mono (s.get 4 rfl)) (r3.mono (s.get 4 rfl)) (by first | assumption | exact iota_held _ _ | omega | rfl))) rfl ?_; rintro _ h34 ⟨va34, vb34, vc34, rfl, o34⟩
          refine rk_x rfl rfl (x_call rfl en_45 (fun w s => ct_L_sReplaceTensor _ _ _ _ _ _ _ _ _ _ _ _ w (o31.toR.1.mono (s.get 1 rfl)) (o31.toR.2.mono (s.get 1 rfl)) (o34.toR.1.mono (s.get 0 rfl)) (o34.toR.2.1.mono (s.get 0 rfl)) (o34.toR.2.2.mono (s.get 0 rfl)) (by first | assumption | exact iota_held _ _ | omega | rfl))) rfl ?_; rintro _ h35 ⟨vt35, vo35, rfl, o35⟩
          obtain ⟨cs_T_35, rr_T_35, hc_T_35⟩ := o35.toR.1.at
          refine rk_v rfl rfl (v_move rfl) rfl ?_
          refine rk_v rfl rfl (v_extract rfl rfl) rfl ?_
          refine rk_v rfl rfl (v_extract rfl rfl) rfl ?_
          refine rk_m 3 rfl rfl rfl rfl (m_store 3 ty_33 rfl rfl rfl rfl (by simp [one_int, o35.toR.1.sl.one, o35.toR.2.sl.one]) rfl (Nat.le_of_ble_eq_true rfl)) rfl ?_; rintro _ _ ⟨rfl, rfl⟩
          refine rk_fv rfl rfl (v_assign rfl) rfl ?_
          refine rk_end ?_
          exact qs_mid (b8, h35, h34, h31, vt31, vo31, va34, vb34, vc34, vt35, vo35) ⟨o31, o34, o35⟩ ⟨rfl, rfl, rfl, rfl, rfl, rfl, rfl, rfl, trivial⟩ (fun _ s => s.pick [3, 0, 1, 2, 4, 5, 6] (by decide) rfl)
      · rintro ⟨b8, h35, h34, h31, vt31, vo31, va34, vb34, vc34, vt35, vo35⟩ ⟨o31, o34, o35⟩
        dsimp only at o31 o34 o35 ⊢
        refine qs_n ?_
        refine wp_sc ?_
        refine wp_sq ?_
        refine sq_v rfl (v_loadNB 5 ty_27 rfl rfl rfl rfl) rfl ?_
        refine sq_x rfl (x_call rfl en_17 (fun w s => ct_L_toNetwork _ _ _ _ _ _ _ w (r.mono (s.get 6 rfl)) (r'.mono (s.get 6 rfl)) (by first | assumption | exact iota_held _ _ | omega | rfl))) rfl ?_; rintro _ h39 ⟨vt39, vo39, rfl, o39⟩
        obtain ⟨cs_T_39, rr_T_39, hc_T_39⟩ := o39.toR.1.at
        refine sq_x rfl (x_alloc ty_33 rfl) rfl ?_; rintro _ _ ⟨b10, rfl, rfl⟩
        refine sq_m 0 rfl rfl (m_store 0 ty_33 rfl rfl rfl rfl (by simp [one_int, o39.toR.1.sl.one, o39.toR.2.sl.one]) rfl (Nat.le_of_ble_eq_true rfl)) rfl ?_; rintro _ _ ⟨rfl, rfl⟩
        refine sq_end ?_
        refine qs_n ?_
        refine wp_sc ?_
        refine wp_sq ?_
        refine sq_v rfl (v_loadNB 6 ty_50 rfl rfl rfl rfl) rfl ?_
        refine sq_x rfl (x_call rfl en_34 (fun w s => ct_L_toTensor _ _ _ _ w (r1.mono (s.get 8 rfl)) (r2.mono (s.get 8 rfl)) (r3.mono (s.get 8 rfl)) (by first | assumption | exact iota_held _ _ | omega | rfl))) rfl ?_; rintro _ h41 ⟨va41, vb41, vc41, rfl, o41⟩
        refine sq_x rfl (x_alloc ty_52 rfl) rfl ?_; rintro _ _ ⟨b11, rfl, rfl⟩
        refine sq_m 0 rfl rfl (m_store 0 ty_52 rfl rfl rfl rfl (by simp [o41.toR.1.sl.one, o41.toR.2.1.sl.one, o41.toR.2.2.sl.one]) rfl (Nat.le_of_ble_eq_true rfl)) rfl ?_; rintro _ _ ⟨rfl, rfl⟩
        refine sq_end ?_
        refine qs_n ?_
        refine wp_sc ?_
        refine wp_sq ?_
        refine sq_v rfl (v_loadNB 2 ty_33 rfl rfl rfl rfl) rfl ?_
        refine sq_v rfl (v_move rfl) rfl ?_
        refine sq_v rfl (v_loadNB 0 ty_52 rfl rfl rfl rfl) rfl ?_
        refine sq_x rfl (x_call rfl en_46 (fun w s => ct_L_iReplaceTensor _ _ _ _ _ _ _ _ _ _ _ _ w (o39.toR.1.mono (s.get 3 rfl)) (o39.toR.2.mono (s.get 3 rfl)) (o41.toR.1.mono (s.get 1 rfl)) (o41.toR.2.1.mono (s.get 1 rfl)) (o41.toR.2.2.mono (s.get 1 rfl)) (by first | assumption | exact iota_held _ _ | omega | rfl))) rfl ?_; rintro _ h46 ⟨vt46, vo46, rfl, o46⟩
        obtain ⟨cs_T_46, rr_T_46, hc_T_46⟩ := o46.toR.1.at
        refine sq_v rfl (v_move rfl) rfl ?_
        refine sq_v rfl (v_extract rfl rfl) rfl ?_
        refine sq_v rfl (v_extract rfl rfl) rfl ?_
        refine sq_x rfl (x_alloc ty_33 rfl) rfl ?_; rintro _ _ ⟨b12, rfl, rfl⟩
        refine sq_m 0 rfl rfl (m_store 0 ty_33 rfl rfl rfl rfl (by simp [one_int, o46.toR.1.sl.one, o46.toR.2.sl.one]) rfl (Nat.le_of_ble_eq_true rfl)) rfl ?_; rintro _ _ ⟨rfl, rfl⟩
        refine sq_v rfl (v_assign rfl) rfl ?_
        refine sq_end ?_
        refine qs_n ?_
        refine wp_sc ?_
        refine wp_sc ?_
        refine wp_sq ?_
        refine sq_v rfl (v_loadNB 0 ty_33 rfl rfl rfl rfl) rfl ?_
        refine sq_v rfl (v_loadNB 6 ty_33 rfl rfl rfl rfl) rfl ?_
        refine sq_u rfl (x_callv rfl en_21 (fun w s => ct_l_eqNetwork _ _ _ _ _ _ _ _ _ w (o46.toR.1.mono (s.get 1 rfl)) (o46.toR.2.mono (s.get 1 rfl)) (o35.toR.1.mono (s.get 7 rfl)) (o35.toR.2.mono (s.get 7 rfl)))) rfl ?_
        refine sq_v rfl (v_not rfl) rfl ?_
        refine sq_v rfl (v_move rfl) rfl ?_
        refine sq_v rfl (v_move rfl) rfl ?_
        refine sq_v rfl (v_move rfl) rfl ?_
        refine sq_v rfl (v_neqsb Try.underlying4 rfl rfl) rfl ?_
        refine sq_v rfl (v_pickf rfl rfl) rfl ?_
        refine sq_end ?_
        refine qs_n ?_
        refine wp_cf rfl ?_
        refine wp_sk ?_
        refine qs_n ?_
        refine wp_sc ?_
        refine wp_sc ?_
        refine wp_rj 5 [(0, true), (1, true), (2, false), (3, false), (4, true)] mixed_ok (by kernel_rfl) ?_
        refine rj_v rfl rfl (v_loadNB 4 ty_33 rfl rfl rfl rfl) rfl ?_
        refine rj_v rfl rfl (v_loadNB 11 ty_27 rfl rfl rfl rfl) rfl ?_
        refine rj_x rfl rfl (x_call rfl en_17 (fun w s => ct_L_toNetwork _ _ _ _ _ _ _ w (r.mono (s.get 12 rfl)) (r'.mono (s.get 12 rfl)) (by first | assumption | exact iota_held _ _ | omega | rfl))) rfl ?_; rintro _ h60 ⟨vt60, vo60, rfl, o60⟩
        obtain ⟨cs_T_60, rr_T_60, hc_T_60⟩ := o60.toR.1.at
        refine rj_u rfl rfl (x_callv rfl en_21 (fun w s => ct_l_eqNetwork _ _ _ _ _ _ _ _ _ w (o39.toR.1.mono (s.get 6 rfl)) (o39.toR.2.mono (s.get 6 rfl)) (o60.toR.1.mono (s.get 0 rfl)) (o60.toR.2.mono (s.get 0 rfl)))) rfl ?_
        refine rj_v rfl rfl (v_not rfl) rfl ?_
        refine rj_end ?_
        refine qs_n ?_
        refine wp_cf rfl ?_
        refine wp_sk ?_
        refine qs_n ?_
        refine wp_sc ?_
        refine wp_sc ?_
        refine wp_rj 5 [(0, true), (1, true), (2, false), (3, false), (4, true)] mixed_ok (by kernel_rfl) ?_
        refine rj_v rfl rfl (v_loadNB 3 ty_52 rfl rfl rfl rfl) rfl ?_
        refine rj_v rfl rfl (v_loadNB 11 ty_50 rfl rfl rfl rfl) rfl ?_
        refine rj_x rfl rfl (x_call rfl en_34 (fun w s => ct_L_toTensor _ _ _ _ w (r1.mono (s.get 13 rfl)) (r2.mono (s.get 13 rfl)) (r3.mono (s.get 13 rfl)) (by first | assumption | exact iota_held _ _ | omega | rfl))) rfl ?_; rintro _ h65 ⟨va65, vb65, vc65, rfl, o65⟩
        refine rj_u rfl rfl (x_callv rfl en_36 (fun w s => ct_l_eqTensor _ _ _ _ _ _ _ w (o41.toR.1.mono (s.get 5 rfl)) (o41.toR.2.1.mono (s.get 5 rfl)) (o41.toR.2.2.mono (s.get 5 rfl)) (o65.toR.1.mono (s.get 0 rfl)) (o65.toR.2.1.mono (s.get 0 rfl)) (o65.toR.2.2.mono (s.get 0 rfl)))) rfl ?_
        refine rj_v rfl rfl (v_not rfl) rfl ?_
        refine rj_end ?_
        refine qs_n ?_
        refine wp_cf rfl ?_
        refine wp_sk ?_
        refine qs_n ?_
        refine wp_sc ?_
        refine wp_sq ?_
        refine sq_v rfl (v_assign rfl) rfl ?_
        refine sq_end ?_
        refine qs_n ?_
        refine wp_sc ?_
        refine wp_sq ?_
        refine sq_v rfl (v_loadNB 6 ty_33 rfl rfl rfl rfl) rfl ?_
        refine sq_v rfl (v_move rfl) rfl ?_
        refine sq_m 7 rfl rfl (x_call rfl en_22 (fun w s => ct_L_markNetwork _ _ _ _ _ _ _ _ w _ (s.get 7 rfl) o39 (by first | assumption | exact iota_held _ _ | omega | rfl))) rfl ?_; rintro _ h70 ⟨rfl, ts70, op70, om70, hl70⟩
        obtain ⟨cs_T_70, rr_T_70, hc_T_70⟩ := om70.toR.1.at
        refine sq_v rfl (v_assign rfl) rfl ?_
        refine sq_end ?_
        refine qs_n ?_
        refine wp_sc ?_
        refine wp_sq ?_
        refine sq_v rfl (v_loadNB 4 ty_52 rfl rfl rfl rfl) rfl ?_
        refine sq_v rfl (v_move rfl) rfl ?_
        refine sq_m 5 rfl rfl (x_call rfl en_37 (fun w s => ct_L_markTensor _ _ _ _ _ w _ (s.get 5 rfl) o41 (by first | assumption | exact iota_held _ _ | omega | rfl))) rfl ?_; rintro _ h73 ⟨rfl, t73, om73, hl73⟩
        refine sq_v rfl (v_assign rfl) rfl ?_
        refine sq_end ?_
        refine qs_n ?_
        refine wp_sc ?_
        refine wp_sc ?_
        refine wp_sq ?_
        refine sq_v rfl (v_move rfl) rfl ?_
        refine sq_v rfl (v_lss rfl rfl) rfl ?_
        refine sq_bd 75 rfl (fun c75 => ?_) (fun c75 => ?_)
        · refine sq_v rfl (v_move rfl) rfl ?_
          refine sq_s rfl rfl ?_
          refine sq_s rfl rfl ?_
          refine sq_s rfl rfl ?_
          refine sq_s rfl rfl ?_
          refine sq_v rfl (v_pickt rfl rfl) rfl ?_
          refine sq_v rfl (v_move rfl) rfl ?_
          refine sq_s rfl rfl ?_
          refine sq_s rfl rfl ?_
          refine sq_s rfl rfl ?_
          refine sq_v rfl (v_pickt rfl rfl) rfl ?_
          refine sq_end ?_
          refine qs_n ?_
          refine wp_ct rfl ?_
          refine wp_sc ?_
          refine wp_sq ?_
          refine sq_v rfl (v_assign rfl) rfl ?_
          refine sq_end ?_
          refine qs_n ?_
          refine wp_rt ?_
          refine qs_r ?_
          exfalso; first | omega | contradiction
        · refine sq_v rfl (v_move rfl) rfl ?_
          refine sq_v rfl (v_loadNB 2 ty_33 rfl rfl rfl rfl) rfl ?_
          refine sq_v rfl (v_loadNB 8 ty_33 rfl rfl rfl rfl) rfl ?_
          refine sq_u rfl (x_callv rfl en_21 (fun w s => ct_l_eqNetwork _ _ _ _ _ _ _ _ _ w (o46.toR.1.mono (s.get 3 rfl)) (o46.toR.2.mono (s.get 3 rfl)) (o35.toR.1.mono (s.get 9 rfl)) (o35.toR.2.mono (s.get 9 rfl)))) rfl ?_
          refine sq_v rfl (v_not rfl) rfl ?_
          refine sq_v rfl (v_pickf rfl rfl) rfl ?_
          refine sq_v rfl (v_move rfl) rfl ?_
          refine sq_v rfl (v_move rfl) rfl ?_
          refine sq_v rfl (v_move rfl) rfl ?_
          refine sq_v rfl (v_neqsb Try.underlying4 rfl rfl) rfl ?_
          refine sq_v rfl (v_pickf rfl rfl) rfl ?_
          refine sq_end ?_
          refine qs_n ?_
          refine wp_cf rfl ?_
          refine wp_sk ?_
          refine qs_n ?_
          refine wp_sc ?_
          refine wp_sq ?_
          refine sq_v rfl (v_assign rfl) rfl ?_
          refine sq_end ?_
          refine qs_n ?_
          refine wp_sc ?_
          refine wp_sq ?_
          refine sq_v rfl (v_loadNB 2 ty_33 rfl rfl rfl rfl) rfl ?_
          refine sq_v rfl (v_move rfl) rfl ?_
          refine sq_m 3 rfl rfl (x_call rfl en_22 (fun w s => ct_L_markNetwork _ _ _ _ _ _ _ _ w _ (s.get 3 rfl) o46 (by first | assumption | exact iota_held _ _ | omega | rfl))) rfl ?_; rintro _ h89 ⟨rfl, ts89, op89, om89, hl89⟩
          obtain ⟨cs_T_89, rr_T_89, hc_T_89⟩ := om89.toR.1.at
          refine sq_v rfl (v_assign rfl) rfl ?_
          refine sq_end ?_
          refine qs_n ?_
          refine wp_sc ?_
          refine wp_sq ?_
          refine sq_v rfl (v_assign rfl) rfl ?_
          refine sq_end ?_
          refine qs_n ?_
          refine wp_sc ?_
          refine wp_sq ?_
          refine sq_v rfl (v_loadNB 2 ty_33 rfl rfl rfl rfl) rfl ?_
          refine sq_v rfl (v_move rfl) rfl ?_
          refine sq_u rfl (x_callv rfl en_47 (fun w s => ct_l_heldNetwork _ _ _ _ _ _ _ _ _ w (om89.toR.1.mono (s.get 3 rfl)) (om89.toR.2.mono (s.get 3 rfl)) hl89 (by first | assumption | exact iota_held _ _ | omega | rfl))) rfl ?_
          refine sq_v rfl (v_assign rfl) rfl ?_
          refine sq_end ?_
          refine qs_n ?_
          refine wp_sc ?_
          refine wp_sc ?_
          refine wp_sq ?_
          refine sq_v rfl (v_move rfl) rfl ?_
          refine sq_v rfl (v_lss rfl rfl) rfl ?_
          refine sq_end ?_
          refine qs_n ?_
          refine wp_cd rfl (fun c94 => ?_) (fun c94 => ?_)
          · refine wp_sc ?_
            refine wp_sq ?_
            refine sq_v rfl (v_assign rfl) rfl ?_
            refine sq_end ?_
            refine qs_n ?_
            refine wp_rt ?_
            refine qs_r ?_
            exfalso; first | omega | contradiction
          · refine wp_sk ?_
            refine qs_n ?_
            refine wp_sc ?_
            refine wp_sc ?_
            refine wp_sq ?_
            refine sq_v rfl (v_move rfl) rfl ?_
            refine sq_v rfl (v_move rfl) rfl ?_
            refine sq_v rfl (v_neqs rfl rfl) rfl ?_
            refine sq_end ?_
            refine qs_n ?_
            refine wp_cf rfl ?_
            refine wp_sk ?_
            refine qs_n ?_
            refine wp_sc ?_
            refine wp_ra (σ := Nat × PH × PH × PH × Value × Value × Value × Value × Value × Value × Value) 11 (fun z_ => NetO ts op z_.2.2.2.2.1 z_.2.2.2.2.2.1 z_.2.2.2.1 ∧ TriO u z_.2.2.2.2.2.2.1 z_.2.2.2.2.2.2.2.1 z_.2.2.2.2.2.2.2.2.1 z_.2.2.1 ∧ NetO (replTs k p n ts op i u) (replOp k p n ts op i u) z_.2.2.2.2.2.2.2.2.2.1 z_.2.2.2.2.2.2.2.2.2.2 z_.2.1) (fun z_ => [(6, .bool false), (8, .pointer (some ⟨b8, 0, none⟩)), (9, .bool (replB k p n ts op i u)), (12, .pointer (some ⟨b12, 0, none⟩)), (15, num (1 + tensSize (replTs k p n ts op i u) + (replOp k p n ts op i u).length)), (16, num (1 + tensSize (replTs k p n ts op i u) + (replOp k p n ts op i u).length)), (17, .pointer (some ⟨z_.1, 0, none⟩)), (18, .bool (replB k p n ts op i u)), (23, .bool (decide ((szV 1048576 (ts.length + tensSize ts + op.length) : Int) < 0))), (28, .bool (decide ((szV (szV 1048576 (ts.length + tensSize ts + op.length)) (tenSize u) : Int) < 0))), (57, .bool false), (62, .bool (!true)), (67, .bool (!true)), (86, .bool false), (94, .bool (decide ((1 + tensSize (replTs k p n ts op i u) + (replOp k p n ts op i u).length : Int) < 0))), (97, .bool false)]) (fun z_ => [box z_.1 [num (ifB (replB k p n ts op i u) k 0), num (ifB (replB k p n ts op i u) p 0), num (ifB (replB k p n ts op i u) n 0), z_.2.2.2.2.2.2.2.2.2.1, z_.2.2.2.2.2.2.2.2.2.2] 33, z_.2.1, z_.2.2.1, z_.2.2.2.1, h65, h60, box b12 [num (ifB (replB k p n ts op i u) k 0), num (ifB (replB k p n ts op i u) p 0), num (ifB (replB k p n ts op i u) n 0), vt46, vo46] 33, h89, box b11 [va41, vb41, vc41] 52, h73, box b10 [num k, num p, num n, vt39, vo39] 33, h70, box b8 [num (ifB (replB k p n ts op i u) k 0), num (ifB (replB k p n ts op i u) p 0), num (ifB (replB k p n ts op i u) n 0), vt35, vo35] 33, h35, h34, h31, box b5 [a, b, c] 50, box b3 [num k, num p, num n, vt, vo] 27, hp w]) mixed_ok (by kernel_rfl) ?_ ?_
            · refine rak_of ?_
              refine rak_v (i := 0) (by kernel_rfl) rfl rfl (v_loadNB 13 ty_27 rfl rfl rfl rfl) rfl ?_
              refine rak_v (i := 2) (by kernel_rfl) rfl rfl (v_move rfl) rfl ?_
              refine rak_v (i := 3) (by kernel_rfl) rfl rfl (v_loadNB 12 ty_50 rfl rfl rfl rfl) rfl ?_
              refine rak_2 (i := 1) (j := 9) (by kernel_rfl) ?_ ?_
              · refine rok_x rfl rfl (x_call rfl en_17 (fun w s => ct_L_toNetwork _ _ _ _ _ _ _ w (r.mono (s.get 14 rfl)) (r'.mono (s.get 14 rfl)) (by first | assumption | exact iota_held _ _ | omega | rfl))) rfl ?_; rintro _ h100 ⟨vt100, vo100, rfl, o100⟩
                obtain ⟨cs_T_100, rr_T_100, hc_T_100⟩ := o100.toR.1.at
                refine rak_2 (i := 4) (j := 9) (by kernel_rfl) ?_ ?_
                · refine rok_x rfl rfl (x_call rfl en_34 (fun w s => ct_L_toTensor _ _ _ _ w (r1.mono (s.get 15 rfl)) (r2.mono (s.get 15 rfl)) (r3.mono (s.get 15 rfl)) (by first | assumption | exact iota_held _ _ | omega | rfl))) rfl ?_; rintro _ h103 ⟨va103, vb103, vc103, rfl, o103⟩
                  refine rak_2 (i := 5) (j := 9) (by kernel_rfl) ?_ ?_
                  · refine rok_x rfl rfl (x_call rfl en_46 (fun w s => ct_L_iReplaceTensor _ _ _ _ _ _ _ _ _ _ _ _ w (o100.toR.1.mono (s.get 1 rfl)) (o100.toR.2.mono (s.get 1 rfl)) (o103.toR.1.mono (s.get 0 rfl)) (o103.toR.2.1.mono (s.get 0 rfl)) (o103.toR.2.2.mono (s.get 0 rfl)) (by first | assumption | exact iota_held _ _ | omega | rfl))) rfl ?_; rintro _ h104 ⟨vt104, vo104, rfl, o104⟩
                    obtain ⟨cs_T_104, rr_T_104, hc_T_104⟩ := o104.toR.1.at
                    refine rak_rk [(6, true), (7, true), (8, true), (9, false), (10, false), (11, false)] (by kernel_rfl) rfl ?_
                    refine rk_v rfl rfl (v_move rfl) rfl ?_
                    refine rk_v rfl rfl (v_extract rfl rfl) rfl ?_
                    refine rk_v rfl rfl (v_extract rfl rfl) rfl ?_
                    refine rk_xb rfl rfl (x_alloc ty_33 rfl) rfl ?_; rintro _ _ ⟨b17, rfl, rfl⟩
                    refine rk_m 0 rfl rfl rfl rfl (m_store 0 ty_33 rfl rfl rfl rfl (by simp [one_int, o104.toR.1.sl.one, o104.toR.2.sl.one]) rfl (Nat.le_of_ble_eq_true rfl)) rfl ?_; rintro _ _ ⟨rfl, rfl⟩
                    refine rk_fv rfl rfl (v_assign rfl) rfl ?_
                    refine rk_end ?_
                    exact qs_mid (b17, h104, h103, h100, vt100, vo100, va103, vb103, vc103, vt104, vo104) ⟨o100, o103, o104⟩ ⟨rfl, rfl, rfl, rfl, rfl, rfl, rfl, rfl, rfl, rfl, rfl, rfl, rfl, rfl, rfl, rfl, trivial⟩ (fun _ s => s.pick [0, 1, 2, 3, 4, 5, 6, 7, 8, 9, 10, 11, 12, 13, 14, 15, 16, 17, 18] (by decide) rfl)
                  · refine rok_xb rfl rfl (x_alloc ty_33 rfl) rfl ?_; rintro _ _ ⟨b17, rfl, rfl⟩
                    refine rak_rk [(5, false), (6, true), (7, true), (8, true), (10, false), (11, false)] (by kernel_rfl) rfl ?_
                    refine rk_x rfl rfl (x_call rfl en_46 (fun w s => ct_L_iReplaceTensor _ _ _ _ _ _ _ _ _ _ _ _ w (o100.toR.1.mono (s.get 2 rfl)) (o100.toR.2.mono (s.get 2 rfl)) (o103.toR.1.mono (s.get 1 rfl)) (o103.toR.2.1.mono (s.get 1 rfl)) (o103.toR.2.2.mono (s.get 1 rfl)) (by first | assumption | exact iota_held _ _ | omega | rfl))) rfl ?_; rintro _ h104 ⟨vt104, vo104, rfl, o104⟩
                    obtain ⟨cs_T_104, rr_T_104, hc_T_104⟩ := o104.toR.1.at
                    refine rk_v rfl rfl (v_move rfl) rfl ?_
                    refine rk_v rfl rfl (v_extract rfl rfl) rfl ?_
                    refine rk_v rfl rfl (v_extract rfl rfl) rfl ?_
                    refine rk_m 1 rfl rfl rfl rfl (m_store 1 ty_33 rfl rfl rfl rfl (by simp [one_int, o104.toR.1.sl.one, o104.toR.2.sl.one]) rfl (Nat.le_of_ble_eq_true rfl)) rfl ?_; rintro _ _ ⟨rfl, rfl⟩
                    refine rk_fv rfl rfl (v_assign rfl) rfl ?_
                    refine rk_end ?_
                    exact qs_mid (b17, h104, h103, h100, vt100, vo100, va103, vb103, vc103, vt104, vo104) ⟨o100, o103, o104⟩ ⟨rfl, rfl, rfl, rfl, rfl, rfl, rfl, rfl, rfl, rfl, rfl, rfl, rfl, rfl, rfl, rfl, trivial⟩ (fun _ s => s.pick [1, 0, 2, 3, 4, 5, 6, 7, 8, 9, 10, 11, 12, 13, 14, 15, 16, 17, 18] (by decide) rfl)
                · refine rok_xb rfl rfl (x_alloc ty_33 rfl) rfl ?_; rintro _ _ ⟨b17, rfl, rfl⟩
                  refine rak_rk [(4, false), (5, false), (6, true), (7, true), (8, true), (10, false), (11, false)] (by kernel_rfl) rfl ?_
                  refine rk_x rfl rfl (x_call rfl en_34 (fun w s => ct_L_toTensor _ _ _ _ w (r1.mono (s.get 16 rfl)) (r2.mono (s.get 16 rfl)) (r3.mono (s.get 16 rfl)) (by first | assumption | exact iota_held _ _ | omega | rfl))) rfl ?_; rintro _ h103 ⟨va103, vb103, vc103, rfl, o103⟩
                  refine rk_x rfl rfl (x_call rfl en_46 (fun w s => ct_L_iReplaceTensor _ _ _ _ _ _ _ _ _ _ _ _ w (o100.toR.1.mono (s.get 2 rfl)) (o100.toR.2.mono (s.get 2 rfl)) (o103.toR.1.mono (s.get 0 rfl)) (o103.toR.2.1.mono (s.get 0 rfl)) (o103.toR.2.2.mono (s.get 0 rfl)) (by first | assumption | exact iota_held _ _ | omega | rfl))) rfl ?_; rintro _ h104 ⟨vt104, vo104, rfl, o104⟩
                  obtain ⟨cs_T_104, rr_T_104, hc_T_104⟩ := o104.toR.1.at
                  refine rk_v rfl rfl (v_move rfl) rfl ?_
                  refine rk_v rfl rfl (v_extract rfl rfl) rfl ?_
                  refine rk_v rfl rfl (v_extract rfl rfl) rfl ?_
                  refine rk_m 2 rfl rfl rfl rfl (m_store 2 ty_33 rfl rfl rfl rfl (by simp [one_int, o104.toR.1.sl.one, o104.toR.2.sl.one]) rfl (Nat.le_of_ble_eq_true rfl)) rfl ?_; rintro _ _ ⟨rfl, rfl⟩
                  refine rk_fv rfl rfl (v_assign rfl) rfl ?_
                  refine rk_end ?_
                  exact qs_mid (b17, h104, h103, h100, vt100, vo100, va103, vb103, vc103, vt104, vo104) ⟨o100, o103, o104⟩ ⟨rfl, rfl, rfl, rfl, rfl, rfl, rfl, rfl, rfl, rfl, rfl, rfl, rfl, rfl, rfl, rfl, trivial⟩ (fun _ s => s.pick [2, 0, 1, 3, 4, 5, 6, 7, 8, 9, 10, 11, 12, 13, 14, 15, 16, 17, 18] (by decide) rfl)
              · refine rok_xb rfl rfl (x_alloc ty_33 rfl) rfl ?_; rintro _ _ ⟨b17, rfl, rfl⟩
                refine rak_rk [(1, false), (4, false), (5, false), (6, true), (7, true), (8, true), (10, false), (11, false)] (by kernel_rfl) rfl ?_
                refine rk_x rfl rfl (x_call rfl en_17 (fun w s => ct_L_toNetwork _ _ _ _ _ _ _ w (r.mono (s.get 15 rfl)) (r'.mono (s.get 15 rfl)) (by first | assumption | exact iota_held _ _ | omega | rfl))) rfl ?_; rintro _ h100 ⟨vt100, vo100, rfl, o100⟩
                obtain ⟨cs_T_100, rr_T_100, hc_T_100⟩ := o100.toR.1.at
                refine rk_x rfl rfl (x_call rfl en_34 (fun w s => ct_L_toTensor _ _ _ _ w (r1.mono (s.get 16 rfl)) (r2.mono (s.get 16 rfl)) (r3.mono (s.get 16 rfl)) (by first | assumption | exact iota_held _ _ | omega | rfl))) rfl ?_; rintro _ h103 ⟨va103, vb103, vc103, rfl, o103⟩
                refine rk_x rfl rfl (x_call rfl en_46 (fun w s => ct_L_iReplaceTensor _ _ _ _ _ _ _ _ _ _ _ _ w (o100.toR.1.mono (s.get 1 rfl)) (o100.toR.2.mono (s.get 1 rfl)) (o103.toR.1.mono (s.get 0 rfl)) (o103.toR.2.1.mono (s.get 0 rfl)) (o103.toR.2.2.mono (s.get 0 rfl)) (by first | assumption | exact iota_held _ _ | omega | rfl))) rfl ?_; rintro _ h104 ⟨vt104, vo104, rfl, o104⟩
                obtain ⟨cs_T_104, rr_T_104, hc_T_104⟩ := o104.toR.1.at
                refine rk_v rfl rfl (v_move rfl) rfl ?_
                refine rk_v rfl rfl (v_extract rfl rfl) rfl ?_
                refine rk_v rfl rfl (v_extract rfl rfl) rfl ?_
                refine rk_m 3 rfl rfl rfl rfl (m_store 3 ty_33 rfl rfl rfl rfl (by simp [one_int, o104.toR.1.sl.one, o104.toR.2.sl.one]) rfl (Nat.le_of_ble_eq_true rfl)) rfl ?_; rintro _ _ ⟨rfl, rfl⟩
                refine rk_fv rfl rfl (v_assign rfl) rfl ?_
                refine rk_end ?_
                exact qs_mid (b17, h104, h103, h100, vt100, vo100, va103, vb103, vc103, vt104, vo104) ⟨o100, o103, o104⟩ ⟨rfl, rfl, rfl, rfl, rfl, rfl, rfl, rfl, rfl, rfl, rfl, rfl, rfl, rfl, rfl, rfl, trivial⟩ (fun _ s => s.pick [3, 0, 1, 2, 4, 5, 6, 7, 8, 9, 10, 11, 12, 13, 14, 15, 16, 17, 18] (by decide) rfl)
            · rintro ⟨b17, h104, h103, h100, vt100, vo100, va103, vb103, vc103, vt104, vo104⟩ ⟨o100, o103, o104⟩
              dsimp only at o100 o103 o104 ⊢
              refine qs_n ?_
              refine wp_sc ?_
              refine wp_sc ?_
              refine wp_sq ?_
              refine sq_v rfl (v_loadNB 0 ty_33 rfl rfl rfl rfl) rfl ?_
              refine sq_v rfl (v_loadNB 12 ty_33 rfl rfl rfl rfl) rfl ?_
              refine sq_u rfl (x_callv rfl en_21 (fun w s => ct_l_eqNetwork _ _ _ _ _ _ _ _ _ w (o104.toR.1.mono (s.get 1 rfl)) (o104.toR.2.mono (s.get 1 rfl)) (o35.toR.1.mono (s.get 13 rfl)) (o35.toR.2.mono (s.get 13 rfl)))) rfl ?_
              refine sq_v rfl (v_not rfl) rfl ?_
              refine sq_v rfl (v_move rfl) rfl ?_
              refine sq_v rfl (v_move rfl) rfl ?_
              refine sq_v rfl (v_move rfl) rfl ?_
              refine sq_v rfl (v_neqsb Try.underlying4 rfl rfl) rfl ?_
              refine sq_v rfl (v_pickf rfl rfl) rfl ?_
              refine sq_end ?_
              refine qs_n ?_
              refine wp_cf rfl ?_
              refine wp_sk ?_
              refine qs_n ?_
              refine wp_sc ?_
              refine wp_sq ?_
              refine sq_v rfl (v_assign rfl) rfl ?_
              refine sq_end ?_
              refine qs_n ?_
              refine wp_sc ?_
              refine wp_sq ?_
              refine sq_v rfl (v_loadNB 6 ty_33 rfl rfl rfl rfl) rfl ?_
              refine sq_v rfl (v_move rfl) rfl ?_
              refine sq_u rfl (x_callv rfl en_47 (fun w s => ct_l_heldNetwork _ _ _ _ _ _ _ _ _ w (om89.toR.1.mono (s.get 7 rfl)) (om89.toR.2.mono (s.get 7 rfl)) hl89 (by first | assumption | exact iota_held _ _ | omega | rfl))) rfl ?_
              refine sq_v rfl (v_assign rfl) rfl ?_
              refine sq_end ?_
              refine qs_n ?_
              refine wp_sc ?_
              refine wp_sc ?_
              refine wp_sq ?_
              refine sq_v rfl (v_move rfl) rfl ?_
              refine sq_v rfl (v_lss rfl rfl) rfl ?_
              refine sq_end ?_
              refine qs_n ?_
              refine wp_cd rfl (fun c120 => ?_) (fun c120 => ?_)
              · refine wp_sc ?_
                refine wp_sq ?_
                refine sq_v rfl (v_assign rfl) rfl ?_
                refine sq_end ?_
                refine qs_n ?_
                refine wp_rt ?_
                refine qs_r ?_
                exfalso; first | omega | contradiction
              · refine wp_sk ?_
                refine qs_n ?_
                refine wp_sc ?_
                refine wp_sc ?_
                refine wp_sq ?_
                refine sq_v rfl (v_move rfl) rfl ?_
                refine sq_v rfl (v_move rfl) rfl ?_
                refine sq_v rfl (v_neqs rfl rfl) rfl ?_
                refine sq_end ?_
                refine qs_n ?_
                refine wp_cf rfl ?_
                refine wp_sk ?_
                refine qs_n ?_
                refine wp_sc ?_
                refine wp_sq ?_
                refine sq_v rfl (v_assign rfl) rfl ?_
                refine sq_end ?_
                refine qs_n ?_
                refine wp_rt ?_
                exact qs_ret1 rfl rfl (fin_v (i := 18) rfl)
set_option maxRecDepth 100000 in
theorem lifted_fnExactReplaceTensor (os : Os) (started : os.Started) (H : Type) (enc : TypeId × Value → H) :
    ReturnsInHanded {} Try.checked os 9 .any (Rows.fnExactReplaceTensorSpec.pre6 enc Try.prog Try.f9 Rows.fnExactReplaceTensorRow.domain false) (Rows.fnExactReplaceTensorSpec.post enc Try.prog Try.f9 false true false false) := by
  refine returnsInHanded_of_change (C := Try.checked) lift_own started (by kernel_rfl) Try.func9
    (ChangeSpec.witness6 (enc := enc) (C := Try.checked) false ⟨#[], #[.agg #[.int .i64 0, .int .i64 0, .int .i64 0, .slice none 0 0, .slice none 0 0], .int .i64 0, .agg #[.slice none 0 0, .slice none 0 0, .slice none 0 0]], []⟩ 8 (by kernel_rfl) (by kernel_rfl) (by kernel_rfl) (by kernel_rfl)) ?_
  intro W base args ds gs before hval0 hW hcnd _
  have hval : ∀ (j : Nat) t v, Try.f9.params[j]? = some t → args[j]? = some v → Value.okWide Try.prog W .any base t v := hval0
  have hW' := hW
  obtain ⟨p, q, hA0, hV, rfl, hfz, hnd⟩ := hW
  have hlt : ∀ x ∈ p, x.block < W.heap.size := fun x hx => by simpa using hW'.lt x (by simp [hx])
  have hA : DataW.TrodAll enc Try.prog W 0 (fun _ => true) true Try.f9.params.toList args.toList ds p := hA0
  have hA1 := hA
  rw [Try.params9] at hA1 hval
  obtain ⟨v0, vs0, d0, ds0, p0, q0, hargs, rfl, rfl, h0, r0⟩ := trodAll_cons hA1
  obtain ⟨v1, vs1, d1, ds1, p1, q1, rfl, rfl, rfl, h1, r1⟩ := trodAll_cons r0
  obtain ⟨v2, vs2, d2, ds2, p2, q2, rfl, rfl, rfl, h2, r2⟩ := trodAll_cons r1
  obtain ⟨rfl, rfl, rfl⟩ := trodAll_nil r2
  obtain rfl : args = #[v0, v1, v2] := by cases args; simp_all
  obtain ⟨rfl, rfl⟩ := trodVars_none hV
  have k0 := hval 0 27 v0 rfl rfl
  have k1 := hval 1 3 v1 rfl rfl
  have k2 := hval 2 50 v2 rfl rfl
  obtain ⟨x0, x1, x2, ts, op, vt, vo, rfl, rt, ro⟩ := arg_network k0 h0
  obtain ⟨i, rfl, _⟩ := arg_int k1 h1
  obtain ⟨u, a, b, c, rfl, r1, r2, r3⟩ := arg_tensor k2 h2
  refine (show Calls Try.prog 9 _ W (RetV W (.bool true)) from ct_l_FnExactReplaceTensor x0 x1 x2 i ts op u vt vo a b c W rt ro r1 r2 r3).mono fun e W' ⟨he, hu⟩ => ?_
  subst he
  refine ⟨_, rfl, _, _, _, [], _, [], hW', trodAll_mk1 (shut_bool Try.underlying4 true), trodAll_below lift_laid hu.below (by kernel_rfl) hA hlt, rfl, hu.below.frame _, fun h => by cases h⟩
theorem over_fnExactReplaceTensor : Rows.fnExactReplaceTensorRow.holds Try.pinned (OpenSpec.ofChange Rows.fnExactReplaceTensorSpec) :=
  OpenClaim.holds_of_wide 9 Try.f9 rfl rfl rfl rfl rfl rfl rfl ⟨rfl, rfl, rfl, rfl, rfl⟩ rfl rfl rfl rfl rfl (by kernel_rfl) Try.func9 (by kernel_rfl)
    (of_decide_eq_true (by kernel_rfl)) (by unfold Func.isWrapper; first | (rw [if_pos (by decide +kernel)]; kernel_rfl) | (rw [if_neg (by decide +kernel)]; exact ⟨rfl, rfl⟩))
    (fun os started H enc _ => lifted_fnExactReplaceTensor os started H enc)
/-- The law FnExactReplaceTensor holds at every input. -/
theorem proved_fnExactReplaceTensor : Rows.FnExactReplaceTensorSaid :=
  over_fnExactReplaceTensor
#print axioms proved_fnExactReplaceTensor
end Go.Proofs.Ytalfigjnaidmnaa
