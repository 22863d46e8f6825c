/-
  At every network, ring and homomorphism the program's MapNetwork returns what the reference's returns; the result shares no memory with an argument.
  Conditions: none.
-/
import Derived.Test.YtikeobneipjfnaaQMapNetwork5
namespace Go.Proofs.Ytikeobneipjfnaa
set_option maxRecDepth 100000
open Go.ChangeShapes Go.WideShapes Go.ChangeAt Go.RowKit
theorem ct_l_toHom (h a : Int) (w : World) : Calls Try.prog 36 [homV h a].toArray w (RetV w (homV h a)) := by
  refine calls_in Try.func36 rfl Try.ntmps36 rfl (Sat.start w) ?_
  refine wp_sc ?_
  refine wp_sq ?_
  refine sq_x rfl (x_box rfl rfl) rfl ?_; rintro _ _ ⟨b1, rfl, rfl⟩
  refine sq_x rfl (x_alloc ty_59 rfl) rfl ?_; rintro _ _ ⟨b2, rfl, rfl⟩
  refine sq_end ?_
  refine qs_n ?_
  refine wp_sc ?_
  refine wp_sq ?_
  refine sq_x rfl (x_alloc ty_59 rfl) rfl ?_; rintro _ _ ⟨b3, rfl, rfl⟩
  refine sq_end ?_
  refine qs_n ?_
  refine wp_sc ?_
  refine wp_sq ?_
  refine sq_v rfl (v_fieldAddr fd_56_0 ty_3 (by decide) rfl) rfl ?_
  refine sq_v rfl (v_loadB 2 ty_3 rfl rfl rfl) rfl ?_
  refine sq_v rfl (v_fieldAddr fd_59_0 ty_3 (by decide) rfl) rfl ?_
  refine sq_m 0 rfl rfl (m_store1 0 ty_3 rfl rfl rfl rfl (Nat.le_of_ble_eq_true rfl)) rfl ?_; rintro _ _ ⟨rfl, rfl⟩
  refine sq_end ?_
  refine qs_n ?_
  refine wp_sc ?_
  refine wp_sq ?_
  refine sq_v rfl (v_fieldAddr fd_56_1 ty_3 (by decide) rfl) rfl ?_
  refine sq_v rfl (v_loadB 2 ty_3 rfl rfl rfl) rfl ?_
  refine sq_v rfl (v_fieldAddr fd_59_1 ty_3 (by decide) rfl) rfl ?_
  refine sq_m 0 rfl rfl (m_store1 0 ty_3 rfl rfl rfl rfl (Nat.le_of_ble_eq_true rfl)) rfl ?_; rintro _ _ ⟨rfl, rfl⟩
  refine sq_end ?_
  refine qs_n ?_
  refine wp_sc ?_
  refine wp_sq ?_
  refine sq_v rfl (v_loadNB 0 ty_59 rfl rfl rfl rfl) rfl ?_
  refine sq_m 1 rfl rfl (m_store 1 ty_59 rfl rfl rfl rfl (by simp [Value.oneCell']) rfl (Nat.le_of_ble_eq_true rfl)) rfl ?_; rintro _ _ ⟨rfl, rfl⟩
  refine sq_end ?_
  refine qs_n ?_
  refine wp_rt ?_
  exact qs_retc 1 rfl ty_59 rfl rfl rfl (fin_v (i := 3) rfl)
section
variable {H : Type} {enc : TypeId × Value → H} {w : World} {base : Nat} {sp : Nat → Bool} {hd : Bool}
theorem rd_hom {fuel : Nat} {cs : List Value} {x : DataW H × List MemPlace} (h : DataW.trod enc Try.prog w base sp hd fuel 56 cs = some x) : ∃ k m, cs = [num k, num m] := by
  obtain ⟨hl, hf⟩ := rd_field Try.underlying56 h
  rw [cellsOf_ty ty_56] at hl
  obtain ⟨n0, y0, h0⟩ := hf 0 _ _ fd_56_0
  obtain ⟨n1, y1, h1⟩ := hf 1 _ _ fd_56_1
  rw [cellsOf_ty ty_3] at h0 h1
  obtain ⟨k, e0, i0⟩ := rd_int Try.underlying3 h0
  obtain ⟨m, e1, i1⟩ := rd_int Try.underlying3 h1
  match cs, hl with
  | [a, b], _ =>
    simp at e0 e1
    subst e0 e1
    exact ⟨k, m, rfl⟩
theorem arg_hom {v : Value} {d : DataW H} {p : List MemPlace} {r : Reach} {b : Nat} (hv : Value.okWide Try.prog w r b 56 v) (h : DataW.Trod enc Try.prog w base sp hd 56 v d p) : ∃ k m, v = homV k m := by
  obtain ⟨cs, rfl, _⟩ := okWide_struct Try.underlying56 hv
  obtain ⟨f, hf⟩ := h
  obtain ⟨k, m, e⟩ := rd_hom hf
  refine ⟨k, m, ?_⟩
  simp only [Value.cells] at e
  simp only [homV, ← e]
end
theorem ct_L_sMapNetwork (k p n k' p' n' h a : Int) (ts : List Ten) (op : List Int) (vt vo : Value) (w : World) (r : TensR ts vt (hp w)) (r' : IntsR op vo (hp w)) (hs : op.length ≤ 1048576) :
    Calls Try.prog 35 [netV k p n vt vo, ringV k' p' n', homV h a].toArray w (Ret w emp (NetB (selI (mapnB k p n k' p' n' h a ts op) k' 0) (selI (mapnB k p n k' p' n' h a ts op) p' 0) (selI (mapnB k p n k' p' n' h a ts op) n' 0) (mapTs k p n k' p' n' h a ts op) (mapOp k p n k' p' n' h a ts op) (mapnB k p n k' p' n' h a ts op))) :=
  ct_s_MapNetwork k p n k' p' n' h a ts op vt vo w r r' hs
theorem ct_L_iMapNetwork (k p n k' p' n' h a : Int) (ts : List Ten) (op : List Int) (vt vo : Value) (w : World) (r : TensR ts vt (hp w)) (r' : IntsR op vo (hp w)) (hs : op.length ≤ 1048576) :
    Calls Try.prog 37 [netV k p n vt vo, ringV k' p' n', homV h a].toArray w (Ret w emp (NetB (selI (mapnB k p n k' p' n' h a ts op) k' 0) (selI (mapnB k p n k' p' n' h a ts op) p' 0) (selI (mapnB k p n k' p' n' h a ts op) n' 0) (mapTs k p n k' p' n' h a ts op) (mapOp k p n k' p' n' h a ts op) (mapnB k p n k' p' n' h a ts op))) :=
  ct_i_MapNetwork k p n k' p' n' h a ts op vt vo w r r' hs
theorem tensSize_le {ts : List Ten} {B : Int} (h : ∀ t ∈ ts, tenSize t ≤ B) : tensSize ts ≤ ts.length * B := by
  induction ts with
  | nil => simp [tensSize]
  | cons t ts ih =>
    have h1 := h t (by simp)
    have h2 := ih fun x hx => h x (by simp [hx])
    simp only [tensSize, List.length_cons]
    rw [show ((ts.length + 1 : Nat) : Int) = (ts.length : Int) + 1 from rfl, Int.add_mul, Int.one_mul]
    omega
theorem map_size (k p n k' p' n' h a : Int) (ts : List Ten) (op : List Int) : 0 ≤ tensSize (mapTs k p n k' p' n' h a ts op) ∧ tensSize (mapTs k p n k' p' n' h a ts op) ≤ 1000000 ∧ (mapTs k p n k' p' n' h a ts op).length ≤ 12 ∧ (mapOp k p n k' p' n' h a ts op).length ≤ op.length := by
  refine ⟨tensSize_nn _, ?_⟩
  unfold mapTs mapOp
  cases e : mapnB k p n k' p' n' h a ts op with
  | false => simp [tensSize]
  | true =>
    have hp : mapnP k p n k' p' n' h a ts op := by simpa [mapnB] using e
    have h12 := hp.1.2.1
    have hb := tensSize_le (ts := ts.map (mapT k p n k' p' n' h a)) (B := 30000) fun t ht => by
      obtain ⟨u, hu, rfl⟩ := List.mem_map.1 ht
      have htn := hp.1.2.2.1 u hu
      have hl := ten_len htn
      have hpr := (sizeI_ge.1 htn.2.1).2
      have hm := mapX_len hp.2 htn _ (Nat.le_refl _)
      simp only [tenSize, mapT]
      omega
    rw [List.length_map] at hb
    simp only [if_true, List.length_map]
    omega
set_option maxHeartbeats 8000000 in
theorem ct_l_FnExactMapNetwork (k p n k' p' n' h a : Int) (ts : List Ten) (op : List Int) (vt vo : Value) (w : World) (r : TensR ts vt (hp w)) (r' : IntsR op vo (hp w)) :
    Calls Try.prog 5 [netV k p n vt vo, ringV k' p' n', homV h a].toArray w (RetV w (.bool true)) := by
  have hnn := tensSize_nn ts
  have hrs := map_size k p n k' p' n' h a ts op
  refine calls_in Try.func5 rfl Try.ntmps5 rfl (Sat.start w) ?_
  have hle0 := r.le
  obtain ⟨cs_r, rr_r, hc_r⟩ := r.at
  have hle1 := r'.le
  refine wp_sc ?_
  refine wp_sq ?_
  refine sq_x rfl (x_box rfl rfl) rfl ?_; rintro _ _ ⟨b3, rfl, rfl⟩
  refine sq_x rfl (x_box rfl rfl) rfl ?_; rintro _ _ ⟨b4, rfl, rfl⟩
  refine sq_x rfl (x_box rfl rfl) rfl ?_; rintro _ _ ⟨b5, rfl, rfl⟩
  refine sq_v rfl (v_assign rfl) rfl ?_
  refine sq_end ?_
  refine qs_n ?_
  refine wp_sc ?_
  refine wp_sq ?_
  refine sq_v rfl (v_assign rfl) rfl ?_
  refine sq_end ?_
  refine qs_n ?_
  refine wp_sc ?_
  refine wp_sq ?_
  refine sq_v rfl (v_loadNB 2 ty_41 rfl rfl rfl rfl) rfl ?_
  refine sq_v rfl (v_move rfl) rfl ?_
  refine sq_u rfl (x_callv rfl en_26 (fun w s => ct_l_szNetwork _ _ _ _ _ _ _ _ w (r.mono (s.get 3 rfl)) (r'.mono (s.get 3 rfl)) (by first | assumption | exact iota_held _ _ | omega | rfl))) rfl ?_
  refine sq_v rfl (v_assign rfl) rfl ?_
  refine sq_end ?_
  refine qs_n ?_
  refine wp_sc ?_
  refine wp_sc ?_
  refine wp_sq ?_
  refine sq_v rfl (v_move rfl) rfl ?_
  refine sq_v rfl (v_lss rfl rfl) rfl ?_
  refine sq_end ?_
  refine qs_n ?_
  refine wp_cd rfl (fun c22 => ?_) (fun c22 => ?_)
  · refine wp_sc ?_
    refine wp_sq ?_
    refine sq_v rfl (v_assign rfl) rfl ?_
    refine sq_end ?_
    refine qs_n ?_
    refine wp_rt ?_
    refine qs_r ?_
    exact qs_ret1 rfl rfl (fin_v (i := 3) rfl)
  · have hz22 := szV_ge c22
    refine wp_sk ?_
    refine qs_n ?_
    refine wp_sc ?_
    refine wp_ra (σ := Nat × PH × PH × Value × Value × Value × Value) 12 (fun z_ => NetO ts op z_.2.2.2.1 z_.2.2.2.2.1 z_.2.2.1 ∧ NetO (mapTs k p n k' p' n' h a ts op) (mapOp k p n k' p' n' h a ts op) z_.2.2.2.2.2.1 z_.2.2.2.2.2.2 z_.2.1) (fun z_ => [(3, .pointer (some ⟨b3, 0, none⟩)), (4, .pointer (some ⟨b4, 0, none⟩)), (5, .pointer (some ⟨b5, 0, none⟩)), (6, .bool false), (8, .pointer (some ⟨z_.1, 0, none⟩)), (9, .bool (mapnB k p n k' p' n' h a ts op)), (22, .bool (decide ((szV 1048576 (ts.length + tensSize ts + op.length) : Int) < 0)))]) (fun z_ => [box z_.1 [num (selI (mapnB k p n k' p' n' h a ts op) k' 0), num (selI (mapnB k p n k' p' n' h a ts op) p' 0), num (selI (mapnB k p n k' p' n' h a ts op) n' 0), z_.2.2.2.2.2.1, z_.2.2.2.2.2.2] 48, z_.2.1, z_.2.2.1, box b5 [num h, num a] 56, box b4 [num k', num p', num n'] 23, box b3 [num k, num p, num n, vt, vo] 41, hp w]) mixed_ok (by kernel_rfl) ?_ ?_
    · refine rak_of ?_
      refine rak_v (i := 0) (by kernel_rfl) rfl rfl (v_loadNB 2 ty_41 rfl rfl rfl rfl) rfl ?_
      refine rak_v (i := 2) (by kernel_rfl) rfl rfl (v_loadNB 1 ty_23 rfl rfl rfl rfl) rfl ?_
      refine rak_v (i := 4) (by kernel_rfl) rfl rfl (v_loadNB 0 ty_56 rfl rfl rfl rfl) rfl ?_
      refine rak_2 (i := 1) (j := 10) (by kernel_rfl) ?_ ?_
      · refine rok_x rfl rfl (x_call rfl en_28 (fun w s => ct_L_toNetwork _ _ _ _ _ _ _ w (r.mono (s.get 3 rfl)) (r'.mono (s.get 3 rfl)) (by first | assumption | exact iota_held _ _ | omega | rfl))) rfl ?_; rintro _ h25 ⟨vt25, vo25, rfl, o25⟩
        obtain ⟨cs_T_25, rr_T_25, hc_T_25⟩ := o25.toR.1.at
        refine rak_2 (i := 3) (j := 10) (by kernel_rfl) ?_ ?_
        · refine rok_u rfl rfl (x_callv rfl en_17 (fun w s => ct_l_toRing _ _ _ w)) rfl ?_
          refine rak_2 (i := 5) (j := 10) (by kernel_rfl) ?_ ?_
          · refine rok_u rfl rfl (x_callv rfl en_36 (fun w s => ct_l_toHom _ _ w)) rfl ?_
            refine rak_2 (i := 6) (j := 10) (by kernel_rfl) ?_ ?_
            · refine rok_x rfl rfl (x_call rfl en_35 (fun w s => ct_L_sMapNetwork _ _ _ _ _ _ _ _ _ _ _ _ w (o25.toR.1.mono (s.get 0 rfl)) (o25.toR.2.mono (s.get 0 rfl)) (by first | assumption | exact iota_held _ _ | omega | rfl))) rfl ?_; rintro _ h30 ⟨vt30, vo30, rfl, o30⟩
              obtain ⟨cs_T_30, rr_T_30, hc_T_30⟩ := o30.toR.1.at
              refine rak_rk [(7, true), (8, true), (9, true), (10, false), (11, false), (12, false)] (by kernel_rfl) rfl ?_
              refine rk_v rfl rfl (v_move rfl) rfl ?_
              refine rk_v rfl rfl (v_extract rfl rfl) rfl ?_
              refine rk_v rfl rfl (v_extract rfl rfl) rfl ?_
              refine rk_xb rfl rfl (x_alloc ty_48 rfl) rfl ?_; rintro _ _ ⟨b8, rfl, rfl⟩
              refine rk_m 0 rfl rfl rfl rfl (m_store 0 ty_48 rfl rfl rfl rfl (by simp [one_int, o30.toR.1.sl.one, o30.toR.2.sl.one]) rfl (Nat.le_of_ble_eq_true rfl)) rfl ?_; rintro _ _ ⟨rfl, rfl⟩
              refine rk_fv rfl rfl (v_assign rfl) rfl ?_
              refine rk_end ?_
              exact qs_mid (b8, h30, h25, vt25, vo25, vt30, vo30) ⟨o25, o30⟩ ⟨rfl, rfl, rfl, rfl, rfl, rfl, rfl, trivial⟩ (fun _ s => s.pick [0, 1, 2, 3, 4, 5, 6] (by decide) rfl)
            · refine rok_xb rfl rfl (x_alloc ty_48 rfl) rfl ?_; rintro _ _ ⟨b8, rfl, rfl⟩
              refine rak_rk [(6, false), (7, true), (8, true), (9, true), (11, false), (12, false)] (by kernel_rfl) rfl ?_
              refine rk_x rfl rfl (x_call rfl en_35 (fun w s => ct_L_sMapNetwork _ _ _ _ _ _ _ _ _ _ _ _ w (o25.toR.1.mono (s.get 1 rfl)) (o25.toR.2.mono (s.get 1 rfl)) (by first | assumption | exact iota_held _ _ | omega | rfl))) rfl ?_; rintro _ h30 ⟨vt30, vo30, rfl, o30⟩
              obtain ⟨cs_T_30, rr_T_30, hc_T_30⟩ := o30.toR.1.at
              refine rk_v rfl rfl (v_move rfl) rfl ?_
              refine rk_v rfl rfl (v_extract rfl rfl) rfl ?_
              refine rk_v rfl rfl (v_extract rfl rfl) rfl ?_
              refine rk_m 1 rfl rfl rfl rfl (m_store 1 ty_48 rfl rfl rfl rfl (by simp [one_int, o30.toR.1.sl.one, o30.toR.2.sl.one]) rfl (Nat.le_of_ble_eq_true rfl)) rfl ?_; rintro _ _ ⟨rfl, rfl⟩
              refine rk_fv rfl rfl (v_assign rfl) rfl ?_
              refine rk_end ?_
              exact qs_mid (b8, h30, h25, vt25, vo25, vt30, vo30) ⟨o25, o30⟩ ⟨rfl, rfl, rfl, rfl, rfl, rfl, rfl, trivial⟩ (fun _ s => s.pick [1, 0, 2, 3, 4, 5, 6] (by decide) rfl)
          · refine rok_xb rfl rfl (x_alloc ty_48 rfl) rfl ?_; rintro _ _ ⟨b8, rfl, rfl⟩
            refine rak_rk [(5, false), (6, false), (7, true), (8, true), (9, true), (11, false), (12, false)] (by kernel_rfl) rfl ?_
            refine rk_u rfl rfl (x_callv rfl en_36 (fun w s => ct_l_toHom _ _ w)) rfl ?_
            refine rk_x rfl rfl (x_call rfl en_35 (fun w s => ct_L_sMapNetwork _ _ _ _ _ _ _ _ _ _ _ _ w (o25.toR.1.mono (s.get 1 rfl)) (o25.toR.2.mono (s.get 1 rfl)) (by first | assumption | exact iota_held _ _ | omega | rfl))) rfl ?_; rintro _ h30 ⟨vt30, vo30, rfl, o30⟩
            obtain ⟨cs_T_30, rr_T_30, hc_T_30⟩ := o30.toR.1.at
            refine rk_v rfl rfl (v_move rfl) rfl ?_
            refine rk_v rfl rfl (v_extract rfl rfl) rfl ?_
            refine rk_v rfl rfl (v_extract rfl rfl) rfl ?_
            refine rk_m 1 rfl rfl rfl rfl (m_store 1 ty_48 rfl rfl rfl rfl (by simp [one_int, o30.toR.1.sl.one, o30.toR.2.sl.one]) rfl (Nat.le_of_ble_eq_true rfl)) rfl ?_; rintro _ _ ⟨rfl, rfl⟩
            refine rk_fv rfl rfl (v_assign rfl) rfl ?_
            refine rk_end ?_
            exact qs_mid (b8, h30, h25, vt25, vo25, vt30, vo30) ⟨o25, o30⟩ ⟨rfl, rfl, rfl, rfl, rfl, rfl, rfl, trivial⟩ (fun _ s => s.pick [1, 0, 2, 3, 4, 5, 6] (by decide) rfl)
        · refine rok_xb rfl rfl (x_alloc ty_48 rfl) rfl ?_; rintro _ _ ⟨b8, rfl, rfl⟩
          refine rak_rk [(3, false), (5, false), (6, false), (7, true), (8, true), (9, true), (11, false), (12, false)] (by kernel_rfl) rfl ?_
          refine rk_u rfl rfl (x_callv rfl en_17 (fun w s => ct_l_toRing _ _ _ w)) rfl ?_
          refine rk_u rfl rfl (x_callv rfl en_36 (fun w s => ct_l_toHom _ _ w)) rfl ?_
          refine rk_x rfl rfl (x_call rfl en_35 (fun w s => ct_L_sMapNetwork _ _ _ _ _ _ _ _ _ _ _ _ w (o25.toR.1.mono (s.get 1 rfl)) (o25.toR.2.mono (s.get 1 rfl)) (by first | assumption | exact iota_held _ _ | omega | rfl))) rfl ?_; rintro _ h30 ⟨vt30, vo30, rfl, o30⟩
          obtain ⟨cs_T_30, rr_T_30, hc_T_30⟩ := o30.toR.1.at
          refine rk_v rfl rfl (v_move rfl) rfl ?_
          refine rk_v rfl rfl (v_extract rfl rfl) rfl ?_
          refine rk_v rfl rfl (v_extract rfl rfl) rfl ?_
          refine rk_m 1 rfl rfl rfl rfl (m_store 1 ty_48 rfl rfl rfl rfl (by simp [one_int, o30.toR.1.sl.one, o30.toR.2.sl.one]) rfl (Nat.le_of_ble_eq_true rfl)) rfl ?_; rintro _ _ ⟨rfl, rfl⟩
          refine rk_fv rfl rfl (v_assign rfl) rfl ?_
          refine rk_end ?_
          exact qs_mid (b8, h30, h25, vt25, vo25, vt30, vo30) ⟨o25, o30⟩ ⟨rfl, rfl, rfl, rfl, rfl, rfl, rfl, trivial⟩ (fun _ s => s.pick [1, 0, 2, 3, 4, 5, 6] (by decide) rfl)
      · refine rok_xb rfl rfl (x_alloc ty_48 rfl) rfl ?_; rintro _ _ ⟨b8, rfl, rfl⟩
        refine rak_rk [(1, false), (3, false), (5, false), (6, false), (7, true), (8, true), (9, true), (11, false), (12, false)] (by kernel_rfl) rfl ?_
        refine rk_x rfl rfl (x_call rfl en_28 (fun w s => ct_L_toNetwork _ _ _ _ _ _ _ w (r.mono (s.get 4 rfl)) (r'.mono (s.get 4 rfl)) (by first | assumption | exact iota_held _ _ | omega | rfl))) rfl ?_; rintro _ h25 ⟨vt25, vo25, rfl, o25⟩
        obtain ⟨cs_T_25, rr_T_25, hc_T_25⟩ := o25.toR.1.at
        refine rk_u rfl rfl (x_callv rfl en_17 (fun w s => ct_l_toRing _ _ _ w)) rfl ?_
        refine rk_u rfl rfl (x_callv rfl en_36 (fun w s => ct_l_toHom _ _ w)) rfl ?_
        refine rk_x rfl rfl (x_call rfl en_35 (fun w s => ct_L_sMapNetwork _ _ _ _ _ _ _ _ _ _ _ _ w (o25.toR.1.mono (s.get 0 rfl)) (o25.toR.2.mono (s.get 0 rfl)) (by first | assumption | exact iota_held _ _ | omega | rfl))) rfl ?_; rintro _ h30 ⟨vt30, vo30, rfl, o30⟩
        obtain ⟨cs_T_30, rr_T_30, hc_T_30⟩ := o30.toR.1.at
        refine rk_v rfl rfl (v_move rfl) rfl ?_
        refine rk_v rfl rfl (v_extract rfl rfl) rfl ?_
        refine rk_v rfl rfl (v_extract rfl rfl) rfl ?_
        refine rk_m 2 rfl rfl rfl rfl (m_store 2 ty_48 rfl rfl rfl rfl (by simp [one_int, o30.toR.1.sl.one, o30.toR.2.sl.one]) rfl (Nat.le_of_ble_eq_true rfl)) rfl ?_; rintro _ _ ⟨rfl, rfl⟩
        refine rk_fv rfl rfl (v_assign rfl) rfl ?_
        refine rk_end ?_
        exact qs_mid (b8, h30, h25, vt25, vo25, vt30, vo30) ⟨o25, o30⟩ ⟨rfl, rfl, rfl, rfl, rfl, rfl, rfl, trivial⟩ (fun _ s => s.pick [2, 0, 1, 3, 4, 5, 6] (by decide) rfl)
    · rintro ⟨b8, h30, h25, vt25, vo25, vt30, vo30⟩ ⟨o25, o30⟩
      dsimp only at o25 o30 ⊢
      refine qs_n ?_
      refine wp_sc ?_
      refine wp_sq ?_
      refine sq_v rfl (v_loadNB 5 ty_41 rfl rfl rfl rfl) rfl ?_
      refine sq_x rfl (x_call rfl en_28 (fun w s => ct_L_toNetwork _ _ _ _ _ _ _ w (r.mono (s.get 6 rfl)) (r'.mono (s.get 6 rfl)) (by first | assumption | exact iota_held _ _ | omega | rfl))) rfl ?_; rintro _ h34 ⟨vt34, vo34, rfl, o34⟩
      obtain ⟨cs_T_34, rr_T_34, hc_T_34⟩ := o34.toR.1.at
      refine sq_x rfl (x_alloc ty_48 rfl) rfl ?_; rintro _ _ ⟨b10, rfl, rfl⟩
      refine sq_m 0 rfl rfl (m_store 0 ty_48 rfl rfl rfl rfl (by simp [one_int, o34.toR.1.sl.one, o34.toR.2.sl.one]) rfl (Nat.le_of_ble_eq_true rfl)) rfl ?_; rintro _ _ ⟨rfl, rfl⟩
      refine sq_end ?_
      refine qs_n ?_
      refine wp_sc ?_
      refine wp_ra (σ := Nat × PH × Value × Value) 11 (fun z_ => NetO (mapTs k p n k' p' n' h a ts op) (mapOp k p n k' p' n' h a ts op) z_.2.2.1 z_.2.2.2 z_.2.1) (fun z_ => [(3, .pointer (some ⟨b3, 0, none⟩)), (4, .pointer (some ⟨b4, 0, none⟩)), (5, .pointer (some ⟨b5, 0, none⟩)), (6, .bool false), (8, .pointer (some ⟨b8, 0, none⟩)), (9, .bool (mapnB k p n k' p' n' h a ts op)), (10, .pointer (some ⟨b10, 0, none⟩)), (11, .pointer (some ⟨z_.1, 0, none⟩)), (12, .bool (mapnB k p n k' p' n' h a ts op)), (22, .bool (decide ((szV 1048576 (ts.length + tensSize ts + op.length) : Int) < 0)))]) (fun z_ => [box z_.1 [num (selI (mapnB k p n k' p' n' h a ts op) k' 0), num (selI (mapnB k p n k' p' n' h a ts op) p' 0), num (selI (mapnB k p n k' p' n' h a ts op) n' 0), z_.2.2.1, z_.2.2.2] 48, z_.2.1, box b10 [num k, num p, num n, vt34, vo34] 48, h34, box b8 [num (selI (mapnB k p n k' p' n' h a ts op) k' 0), num (selI (mapnB k p n k' p' n' h a ts op) p' 0), num (selI (mapnB k p n k' p' n' h a ts op) n' 0), vt30, vo30] 48, h30, h25, box b5 [num h, num a] 56, box b4 [num k', num p', num n'] 23, box b3 [num k, num p, num n, vt, vo] 41, hp w]) mixed_ok (by kernel_rfl) ?_ ?_
      · refine rak_of ?_
        refine rak_v (i := 0) (by kernel_rfl) rfl rfl (v_loadNB 0 ty_48 rfl rfl rfl rfl) rfl ?_
        refine rak_v (i := 1) (by kernel_rfl) rfl rfl (v_loadNB 6 ty_23 rfl rfl rfl rfl) rfl ?_
        refine rak_v (i := 3) (by kernel_rfl) rfl rfl (v_loadNB 5 ty_56 rfl rfl rfl rfl) rfl ?_
        refine rak_2 (i := 2) (j := 9) (by kernel_rfl) ?_ ?_
        · refine rok_u rfl rfl (x_callv rfl en_17 (fun w s => ct_l_toRing _ _ _ w)) rfl ?_
          refine rak_2 (i := 4) (j := 9) (by kernel_rfl) ?_ ?_
          · refine rok_u rfl rfl (x_callv rfl en_36 (fun w s => ct_l_toHom _ _ w)) rfl ?_
            refine rak_2 (i := 5) (j := 9) (by kernel_rfl) ?_ ?_
            · refine rok_x rfl rfl (x_call rfl en_37 (fun w s => ct_L_iMapNetwork _ _ _ _ _ _ _ _ _ _ _ _ w (o34.toR.1.mono (s.get 1 rfl)) (o34.toR.2.mono (s.get 1 rfl)) (by first | assumption | exact iota_held _ _ | omega | rfl))) rfl ?_; rintro _ h41 ⟨vt41, vo41, rfl, o41⟩
              obtain ⟨cs_T_41, rr_T_41, hc_T_41⟩ := o41.toR.1.at
              refine rak_rk [(6, true), (7, true), (8, true), (9, false), (10, false), (11, false)] (by kernel_rfl) rfl ?_
              refine rk_v rfl rfl (v_move rfl) rfl ?_
              refine rk_v rfl rfl (v_extract rfl rfl) rfl ?_
              refine rk_v rfl rfl (v_extract rfl rfl) rfl ?_
              refine rk_xb rfl rfl (x_alloc ty_48 rfl) rfl ?_; rintro _ _ ⟨b11, rfl, rfl⟩
              refine rk_m 0 rfl rfl rfl rfl (m_store 0 ty_48 rfl rfl rfl rfl (by simp [one_int, o41.toR.1.sl.one, o41.toR.2.sl.one]) rfl (Nat.le_of_ble_eq_true rfl)) rfl ?_; rintro _ _ ⟨rfl, rfl⟩
              refine rk_fv rfl rfl (v_assign rfl) rfl ?_
              refine rk_end ?_
              exact qs_mid (b11, h41, vt41, vo41) (o41) ⟨rfl, rfl, rfl, rfl, rfl, rfl, rfl, rfl, rfl, rfl, trivial⟩ (fun _ s => s.pick [0, 1, 2, 3, 4, 5, 6, 7, 8, 9, 10] (by decide) rfl)
            · refine rok_xb rfl rfl (x_alloc ty_48 rfl) rfl ?_; rintro _ _ ⟨b11, rfl, rfl⟩
              refine rak_rk [(5, false), (6, true), (7, true), (8, true), (10, false), (11, false)] (by kernel_rfl) rfl ?_
              refine rk_x rfl rfl (x_call rfl en_37 (fun w s => ct_L_iMapNetwork _ _ _ _ _ _ _ _ _ _ _ _ w (o34.toR.1.mono (s.get 2 rfl)) (o34.toR.2.mono (s.get 2 rfl)) (by first | assumption | exact iota_held _ _ | omega | rfl))) rfl ?_; rintro _ h41 ⟨vt41, vo41, rfl, o41⟩
              obtain ⟨cs_T_41, rr_T_41, hc_T_41⟩ := o41.toR.1.at
              refine rk_v rfl rfl (v_move rfl) rfl ?_
              refine rk_v rfl rfl (v_extract rfl rfl) rfl ?_
              refine rk_v rfl rfl (v_extract rfl rfl) rfl ?_
              refine rk_m 1 rfl rfl rfl rfl (m_store 1 ty_48 rfl rfl rfl rfl (by simp [one_int, o41.toR.1.sl.one, o41.toR.2.sl.one]) rfl (Nat.le_of_ble_eq_true rfl)) rfl ?_; rintro _ _ ⟨rfl, rfl⟩
              refine rk_fv rfl rfl (v_assign rfl) rfl ?_
              refine rk_end ?_
              exact qs_mid (b11, h41, vt41, vo41) (o41) ⟨rfl, rfl, rfl, rfl, rfl, rfl, rfl, rfl, rfl, rfl, trivial⟩ (fun _ s => s.pick [1, 0, 2, 3, 4, 5, 6, 7, 8, 9, 10] (by decide) rfl)
          · refine rok_xb rfl rfl (x_alloc ty_48 rfl) rfl ?_; rintro _ _ ⟨b11, rfl, rfl⟩
            refine rak_rk [(4, false), (5, false), (6, true), (7, true), (8, true), (10, false), (11, false)] (by kernel_rfl) rfl ?_
            refine rk_u rfl rfl (x_callv rfl en_36 (fun w s => ct_l_toHom _ _ w)) rfl ?_
            refine rk_x rfl rfl (x_call rfl en_37 (fun w s => ct_L_iMapNetwork _ _ _ _ _ _ _ _ _ _ _ _ w (o34.toR.1.mono (s.get 2 rfl)) (o34.toR.2.mono (s.get 2 rfl)) (by first | assumption | exact iota_held _ _ | omega | rfl))) rfl ?_; rintro _ h41 ⟨vt41, vo41, rfl, o41⟩
            obtain ⟨cs_T_41, rr_T_41, hc_T_41⟩ := o41.toR.1.at
            refine rk_v rfl rfl (v_move rfl) rfl ?_
            refine rk_v rfl rfl (v_extract rfl rfl) rfl ?_
            refine rk_v rfl rfl (v_extract rfl rfl) rfl ?_
            refine rk_m 1 rfl rfl rfl rfl (m_store 1 ty_48 rfl rfl rfl rfl (by simp [one_int, o41.toR.1.sl.one, o41.toR.2.sl.one]) rfl (Nat.le_of_ble_eq_true rfl)) rfl ?_; rintro _ _ ⟨rfl, rfl⟩
            refine rk_fv rfl rfl (v_assign rfl) rfl ?_
            refine rk_end ?_
            exact qs_mid (b11, h41, vt41, vo41) (o41) ⟨rfl, rfl, rfl, rfl, rfl, rfl, rfl, rfl, rfl, rfl, trivial⟩ (fun _ s => s.pick [1, 0, 2, 3, 4, 5, 6, 7, 8, 9, 10] (by decide) rfl)
        · refine rok_xb rfl rfl (x_alloc ty_48 rfl) rfl ?_; rintro _ _ ⟨b11, rfl, rfl⟩
          refine rak_rk [(2, false), (4, false), (5, false), (6, true), (7, true), (8, true), (10, false), (11, false)] (by kernel_rfl) rfl ?_
          refine rk_u rfl rfl (x_callv rfl en_17 (fun w s => ct_l_toRing _ _ _ w)) rfl ?_
          refine rk_u rfl rfl (x_callv rfl en_36 (fun w s => ct_l_toHom _ _ w)) rfl ?_
          refine rk_x rfl rfl (x_call rfl en_37 (fun w s => ct_L_iMapNetwork _ _ _ _ _ _ _ _ _ _ _ _ w (o34.toR.1.mono (s.get 2 rfl)) (o34.toR.2.mono (s.get 2 rfl)) (by first | assumption | exact iota_held _ _ | omega | rfl))) rfl ?_; rintro _ h41 ⟨vt41, vo41, rfl, o41⟩
          obtain ⟨cs_T_41, rr_T_41, hc_T_41⟩ := o41.toR.1.at
          refine rk_v rfl rfl (v_move rfl) rfl ?_
          refine rk_v rfl rfl (v_extract rfl rfl) rfl ?_
          refine rk_v rfl rfl (v_extract rfl rfl) rfl ?_
          refine rk_m 1 rfl rfl rfl rfl (m_store 1 ty_48 rfl rfl rfl rfl (by simp [one_int, o41.toR.1.sl.one, o41.toR.2.sl.one]) rfl (Nat.le_of_ble_eq_true rfl)) rfl ?_; rintro _ _ ⟨rfl, rfl⟩
          refine rk_fv rfl rfl (v_assign rfl) rfl ?_
          refine rk_end ?_
          exact qs_mid (b11, h41, vt41, vo41) (o41) ⟨rfl, rfl, rfl, rfl, rfl, rfl, rfl, rfl, rfl, rfl, trivial⟩ (fun _ s => s.pick [1, 0, 2, 3, 4, 5, 6, 7, 8, 9, 10] (by decide) rfl)
      · rintro ⟨b11, h41, vt41, vo41⟩ o41
        dsimp only at o41 ⊢
        refine qs_n ?_
        refine wp_sc ?_
        refine wp_sc ?_
        refine wp_sq ?_
        refine sq_v rfl (v_loadNB 0 ty_48 rfl rfl rfl rfl) rfl ?_
        refine sq_v rfl (v_loadNB 4 ty_48 rfl rfl rfl rfl) rfl ?_
        refine sq_u rfl (x_callv rfl en_31 (fun w s => ct_l_eqNetwork _ _ _ _ _ _ _ _ _ w (o41.toR.1.mono (s.get 1 rfl)) (o41.toR.2.mono (s.get 1 rfl)) (o30.toR.1.mono (s.get 5 rfl)) (o30.toR.2.mono (s.get 5 rfl)))) rfl ?_
        refine sq_v rfl (v_not rfl) rfl ?_
        refine sq_v rfl (v_move rfl) rfl ?_
        refine sq_v rfl (v_move rfl) rfl ?_
        refine sq_v rfl (v_move rfl) rfl ?_
        refine sq_v rfl (v_neqsb Try.underlying4 rfl rfl) rfl ?_
        refine sq_v rfl (v_pickf rfl rfl) rfl ?_
        refine sq_end ?_
        refine qs_n ?_
        refine wp_cf rfl ?_
        refine wp_sk ?_
        refine qs_n ?_
        refine wp_sc ?_
        refine wp_sc ?_
        refine wp_rj 5 [(0, true), (1, true), (2, false), (3, false), (4, true)] mixed_ok (by kernel_rfl) ?_
        refine rj_v rfl rfl (v_loadNB 2 ty_48 rfl rfl rfl rfl) rfl ?_
        refine rj_v rfl rfl (v_loadNB 9 ty_41 rfl rfl rfl rfl) rfl ?_
        refine rj_x rfl rfl (x_call rfl en_28 (fun w s => ct_L_toNetwork _ _ _ _ _ _ _ w (r.mono (s.get 10 rfl)) (r'.mono (s.get 10 rfl)) (by first | assumption | exact iota_held _ _ | omega | rfl))) rfl ?_; rintro _ h55 ⟨vt55, vo55, rfl, o55⟩
        obtain ⟨cs_T_55, rr_T_55, hc_T_55⟩ := o55.toR.1.at
        refine rj_u rfl rfl (x_callv rfl en_31 (fun w s => ct_l_eqNetwork _ _ _ _ _ _ _ _ _ w (o34.toR.1.mono (s.get 4 rfl)) (o34.toR.2.mono (s.get 4 rfl)) (o55.toR.1.mono (s.get 0 rfl)) (o55.toR.2.mono (s.get 0 rfl)))) rfl ?_
        refine rj_v rfl rfl (v_not rfl) rfl ?_
        refine rj_end ?_
        refine qs_n ?_
        refine wp_cf rfl ?_
        refine wp_sk ?_
        refine qs_n ?_
        refine wp_sc ?_
        refine wp_sq ?_
        refine sq_v rfl (v_assign rfl) rfl ?_
        refine sq_end ?_
        refine qs_n ?_
        refine wp_sc ?_
        refine wp_sq ?_
        refine sq_v rfl (v_loadNB 3 ty_48 rfl rfl rfl rfl) rfl ?_
        refine sq_v rfl (v_move rfl) rfl ?_
        refine sq_m 4 rfl rfl (x_call rfl en_32 (fun w s => ct_L_markNetwork _ _ _ _ _ _ _ _ w _ (s.get 4 rfl) o34 (by first | assumption | exact iota_held _ _ | omega | rfl))) rfl ?_; rintro _ h60 ⟨rfl, ts60, op60, om60, hl60⟩
        obtain ⟨cs_T_60, rr_T_60, hc_T_60⟩ := om60.toR.1.at
        refine sq_v rfl (v_assign rfl) rfl ?_
        refine sq_end ?_
        refine qs_n ?_
        refine wp_sc ?_
        refine wp_sc ?_
        refine wp_sq ?_
        refine sq_v rfl (v_move rfl) rfl ?_
        refine sq_v rfl (v_lss rfl rfl) rfl ?_
        refine sq_bd 62 rfl (fun c62 => ?_) (fun c62 => ?_)
        · refine sq_v rfl (v_move rfl) rfl ?_
          refine sq_s rfl rfl ?_
          refine sq_s rfl rfl ?_
          refine sq_s rfl rfl ?_
          refine sq_s rfl rfl ?_
          refine sq_v rfl (v_pickt rfl rfl) rfl ?_
          refine sq_v rfl (v_move rfl) rfl ?_
          refine sq_s rfl rfl ?_
          refine sq_s rfl rfl ?_
          refine sq_s rfl rfl ?_
          refine sq_v rfl (v_pickt rfl rfl) rfl ?_
          refine sq_end ?_
          refine qs_n ?_
          refine wp_ct rfl ?_
          refine wp_sc ?_
          refine wp_sq ?_
          refine sq_v rfl (v_assign rfl) rfl ?_
          refine sq_end ?_
          refine qs_n ?_
          refine wp_rt ?_
          refine qs_r ?_
          exfalso; first | omega | contradiction
        · refine sq_v rfl (v_move rfl) rfl ?_
          refine sq_v rfl (v_loadNB 1 ty_48 rfl rfl rfl rfl) rfl ?_
          refine sq_v rfl (v_loadNB 5 ty_48 rfl rfl rfl rfl) rfl ?_
          refine sq_u rfl (x_callv rfl en_31 (fun w s => ct_l_eqNetwork _ _ _ _ _ _ _ _ _ w (o41.toR.1.mono (s.get 2 rfl)) (o41.toR.2.mono (s.get 2 rfl)) (o30.toR.1.mono (s.get 6 rfl)) (o30.toR.2.mono (s.get 6 rfl)))) rfl ?_
          refine sq_v rfl (v_not rfl) rfl ?_
          refine sq_v rfl (v_pickf rfl rfl) rfl ?_
          refine sq_v rfl (v_move rfl) rfl ?_
          refine sq_v rfl (v_move rfl) rfl ?_
          refine sq_v rfl (v_move rfl) rfl ?_
          refine sq_v rfl (v_neqsb Try.underlying4 rfl rfl) rfl ?_
          refine sq_v rfl (v_pickf rfl rfl) rfl ?_
          refine sq_end ?_
          refine qs_n ?_
          refine wp_cf rfl ?_
          refine wp_sk ?_
          refine qs_n ?_
          refine wp_sc ?_
          refine wp_sq ?_
          refine sq_v rfl (v_assign rfl) rfl ?_
          refine sq_end ?_
          refine qs_n ?_
          refine wp_sc ?_
          refine wp_sq ?_
          refine sq_v rfl (v_loadNB 1 ty_48 rfl rfl rfl rfl) rfl ?_
          refine sq_v rfl (v_move rfl) rfl ?_
          refine sq_m 2 rfl rfl (x_call rfl en_32 (fun w s => ct_L_markNetwork _ _ _ _ _ _ _ _ w _ (s.get 2 rfl) o41 (by first | assumption | exact iota_held _ _ | omega | rfl))) rfl ?_; rintro _ h76 ⟨rfl, ts76, op76, om76, hl76⟩
          obtain ⟨cs_T_76, rr_T_76, hc_T_76⟩ := om76.toR.1.at
          refine sq_v rfl (v_assign rfl) rfl ?_
          refine sq_end ?_
          refine qs_n ?_
          refine wp_sc ?_
          refine wp_sq ?_
          refine sq_v rfl (v_assign rfl) rfl ?_
          refine sq_end ?_
          refine qs_n ?_
          refine wp_sc ?_
          refine wp_sq ?_
          refine sq_v rfl (v_loadNB 1 ty_48 rfl rfl rfl rfl) rfl ?_
          refine sq_v rfl (v_move rfl) rfl ?_
          refine sq_u rfl (x_callv rfl en_38 (fun w s => ct_l_heldNetwork _ _ _ _ _ _ _ _ _ w (om76.toR.1.mono (s.get 2 rfl)) (om76.toR.2.mono (s.get 2 rfl)) hl76 (by first | assumption | exact iota_held _ _ | omega | rfl))) rfl ?_
          refine sq_v rfl (v_assign rfl) rfl ?_
          refine sq_end ?_
          refine qs_n ?_
          refine wp_sc ?_
          refine wp_sc ?_
          refine wp_sq ?_
          refine sq_v rfl (v_move rfl) rfl ?_
          refine sq_v rfl (v_lss rfl rfl) rfl ?_
          refine sq_end ?_
          refine qs_n ?_
          refine wp_cd rfl (fun c81 => ?_) (fun c81 => ?_)
          · refine wp_sc ?_
            refine wp_sq ?_
            refine sq_v rfl (v_assign rfl) rfl ?_
            refine sq_end ?_
            refine qs_n ?_
            refine wp_rt ?_
            refine qs_r ?_
            exfalso; first | omega | contradiction
          · refine wp_sk ?_
            refine qs_n ?_
            refine wp_sc ?_
            refine wp_sc ?_
            refine wp_sq ?_
            refine sq_v rfl (v_move rfl) rfl ?_
            refine sq_v rfl (v_move rfl) rfl ?_
            refine sq_v rfl (v_neqs rfl rfl) rfl ?_
            refine sq_end ?_
            refine qs_n ?_
            refine wp_cf rfl ?_
            refine wp_sk ?_
            refine qs_n ?_
            refine wp_sc ?_
            refine wp_ra (σ := Nat × PH × PH × Value × Value × Value × Value) 12 (fun z_ => NetO ts op z_.2.2.2.1 z_.2.2.2.2.1 z_.2.2.1 ∧ NetO (mapTs k p n k' p' n' h a ts op) (mapOp k p n k' p' n' h a ts op) z_.2.2.2.2.2.1 z_.2.2.2.2.2.2 z_.2.1) (fun z_ => [(6, .bool false), (8, .pointer (some ⟨b8, 0, none⟩)), (9, .bool (mapnB k p n k' p' n' h a ts op)), (11, .pointer (some ⟨b11, 0, none⟩)), (14, num (1 + tensSize (mapTs k p n k' p' n' h a ts op) + (mapOp k p n k' p' n' h a ts op).length)), (15, num (1 + tensSize (mapTs k p n k' p' n' h a ts op) + (mapOp k p n k' p' n' h a ts op).length)), (16, .pointer (some ⟨z_.1, 0, none⟩)), (17, .bool (mapnB k p n k' p' n' h a ts op)), (22, .bool (decide ((szV 1048576 (ts.length + tensSize ts + op.length) : Int) < 0))), (52, .bool false), (57, .bool (!true)), (73, .bool false), (81, .bool (decide ((1 + tensSize (mapTs k p n k' p' n' h a ts op) + (mapOp k p n k' p' n' h a ts op).length : Int) < 0))), (84, .bool false)]) (fun z_ => [box z_.1 [num (selI (mapnB k p n k' p' n' h a ts op) k' 0), num (selI (mapnB k p n k' p' n' h a ts op) p' 0), num (selI (mapnB k p n k' p' n' h a ts op) n' 0), z_.2.2.2.2.2.1, z_.2.2.2.2.2.2] 48, z_.2.1, z_.2.2.1, h55, box b11 [num (selI (mapnB k p n k' p' n' h a ts op) k' 0), num (selI (mapnB k p n k' p' n' h a ts op) p' 0), num (selI (mapnB k p n k' p' n' h a ts op) n' 0), vt41, vo41] 48, h76, box b10 [num k, num p, num n, vt34, vo34] 48, h60, box b8 [num (selI (mapnB k p n k' p' n' h a ts op) k' 0), num (selI (mapnB k p n k' p' n' h a ts op) p' 0), num (selI (mapnB k p n k' p' n' h a ts op) n' 0), vt30, vo30] 48, h30, h25, box b5 [num h, num a] 56, box b4 [num k', num p', num n'] 23, box b3 [num k, num p, num n, vt, vo] 41, hp w]) mixed_ok (by kernel_rfl) ?_ ?_
            · refine rak_of ?_
              refine rak_v (i := 0) (by kernel_rfl) rfl rfl (v_loadNB 10 ty_41 rfl rfl rfl rfl) rfl ?_
              refine rak_v (i := 2) (by kernel_rfl) rfl rfl (v_loadNB 9 ty_23 rfl rfl rfl rfl) rfl ?_
              refine rak_v (i := 4) (by kernel_rfl) rfl rfl (v_loadNB 8 ty_56 rfl rfl rfl rfl) rfl ?_
              refine rak_2 (i := 1) (j := 10) (by kernel_rfl) ?_ ?_
              · refine rok_x rfl rfl (x_call rfl en_28 (fun w s => ct_L_toNetwork _ _ _ _ _ _ _ w (r.mono (s.get 11 rfl)) (r'.mono (s.get 11 rfl)) (by first | assumption | exact iota_held _ _ | omega | rfl))) rfl ?_; rintro _ h87 ⟨vt87, vo87, rfl, o87⟩
                obtain ⟨cs_T_87, rr_T_87, hc_T_87⟩ := o87.toR.1.at
                refine rak_2 (i := 3) (j := 10) (by kernel_rfl) ?_ ?_
                · refine rok_u rfl rfl (x_callv rfl en_17 (fun w s => ct_l_toRing _ _ _ w)) rfl ?_
                  refine rak_2 (i := 5) (j := 10) (by kernel_rfl) ?_ ?_
                  · refine rok_u rfl rfl (x_callv rfl en_36 (fun w s => ct_l_toHom _ _ w)) rfl ?_
                    refine rak_2 (i := 6) (j := 10) (by kernel_rfl) ?_ ?_
                    · refine rok_x rfl rfl (x_call rfl en_37 (fun w s => ct_L_iMapNetwork _ _ _ _ _ _ _ _ _ _ _ _ w (o87.toR.1.mono (s.get 0 rfl)) (o87.toR.2.mono (s.get 0 rfl)) (by first | assumption | exact iota_held _ _ | omega | rfl))) rfl ?_; rintro _ h92 ⟨vt92, vo92, rfl, o92⟩
                      obtain ⟨cs_T_92, rr_T_92, hc_T_92⟩ := o92.toR.1.at
                      refine rak_rk [(7, true), (8, true), (9, true), (10, false), (11, false), (12, false)] (by kernel_rfl) rfl ?_
                      refine rk_v rfl rfl (v_move rfl) rfl ?_
                      refine rk_v rfl rfl (v_extract rfl rfl) rfl ?_
                      refine rk_v rfl rfl (v_extract rfl rfl) rfl ?_
                      refine rk_xb rfl rfl (x_alloc ty_48 rfl) rfl ?_; rintro _ _ ⟨b16, rfl, rfl⟩
                      refine rk_m 0 rfl rfl rfl rfl (m_store 0 ty_48 rfl rfl rfl rfl (by simp [one_int, o92.toR.1.sl.one, o92.toR.2.sl.one]) rfl (Nat.le_of_ble_eq_true rfl)) rfl ?_; rintro _ _ ⟨rfl, rfl⟩
                      refine rk_fv rfl rfl (v_assign rfl) rfl ?_
                      refine rk_end ?_
                      exact qs_mid (b16, h92, h87, vt87, vo87, vt92, vo92) ⟨o87, o92⟩ ⟨rfl, rfl, rfl, rfl, rfl, rfl, rfl, rfl, rfl, rfl, rfl, rfl, rfl, rfl, trivial⟩ (fun _ s => s.pick [0, 1, 2, 3, 4, 5, 6, 7, 8, 9, 10, 11, 12, 13, 14] (by decide) rfl)
                    · refine rok_xb rfl rfl (x_alloc ty_48 rfl) rfl ?_; rintro _ _ ⟨b16, rfl, rfl⟩
                      refine rak_rk [(6, false), (7, true), (8, true), (9, true), (11, false), (12, false)] (by kernel_rfl) rfl ?_
                      refine rk_x rfl rfl (x_call rfl en_37 (fun w s => ct_L_iMapNetwork _ _ _ _ _ _ _ _ _ _ _ _ w (o87.toR.1.mono (s.get 1 rfl)) (o87.toR.2.mono (s.get 1 rfl)) (by first | assumption | exact iota_held _ _ | omega | rfl))) rfl ?_; rintro _ h92 ⟨vt92, vo92, rfl, o92⟩
                      obtain ⟨cs_T_92, rr_T_92, hc_T_92⟩ := o92.toR.1.at
                      refine rk_v rfl rfl (v_move rfl) rfl ?_
                      refine rk_v rfl rfl (v_extract rfl rfl) rfl ?_
                      refine rk_v rfl rfl (v_extract rfl rfl) rfl ?_
                      refine rk_m 1 rfl rfl rfl rfl (m_store 1 ty_48 rfl rfl rfl rfl (by simp [one_int, o92.toR.1.sl.one, o92.toR.2.sl.one]) rfl (Nat.le_of_ble_eq_true rfl)) rfl ?_; rintro _ _ ⟨rfl, rfl⟩
                      refine rk_fv rfl rfl (v_assign rfl) rfl ?_
                      refine rk_end ?_
                      exact qs_mid (b16, h92, h87, vt87, vo87, vt92, vo92) ⟨o87, o92⟩ ⟨rfl, rfl, rfl, rfl, rfl, rfl, rfl, rfl, rfl, rfl, rfl, rfl, rfl, rfl, trivial⟩ (fun _ s => s.pick [1, 0, 2, 3, 4, 5, 6, 7, 8, 9, 10, 11, 12, 13, 14] (by decide) rfl)
                  · refine rok_xb rfl rfl (x_alloc ty_48 rfl) rfl ?_; rintro _ _ ⟨b16, rfl, rfl⟩
                    refine rak_rk [(5, false), (6, false), (7, true), (8, true), (9, true), (11, false), (12, false)] (by kernel_rfl) rfl ?_
                    refine rk_u rfl rfl (x_callv rfl en_36 (fun w s => ct_l_toHom _ _ w)) rfl ?_
                    refine rk_x rfl rfl (x_call rfl en_37 (fun w s => ct_L_iMapNetwork _ _ _ _ _ _ _ _ _ _ _ _ w (o87.toR.1.mono (s.get 1 rfl)) (o87.toR.2.mono (s.get 1 rfl)) (by first | assumption | exact iota_held _ _ | omega | rfl))) rfl ?_; rintro _ h92 ⟨vt92, vo92, rfl, o92⟩
                    obtain ⟨cs_T_92, rr_T_92, hc_T_92⟩ := o92.toR.1.at
                    refine rk_v rfl rfl (v_move rfl) rfl ?_
                    refine rk_v rfl rfl (v_extract rfl rfl) rfl ?_
                    refine rk_v rfl rfl (v_extract rfl rfl) rfl ?_
                    refine rk_m 1 rfl rfl rfl rfl (m_store 1 ty_48 rfl rfl rfl rfl (by simp [one_int, o92.toR.1.sl.one, o92.toR.2.sl.one]) rfl (Nat.le_of_ble_eq_true rfl)) rfl ?_; rintro _ _ ⟨rfl, rfl⟩
                    refine rk_fv rfl rfl (v_assign rfl) rfl ?_
                    refine rk_end ?_
                    exact qs_mid (b16, h92, h87, vt87, vo87, vt92, vo92) ⟨o87, o92⟩ ⟨rfl, rfl, rfl, rfl, rfl, rfl, rfl, rfl, rfl, rfl, rfl, rfl, rfl, rfl, trivial⟩ (fun _ s => s.pick [1, 0, 2, 3, 4, 5, 6, 7, 8, 9, 10, 11, 12, 13, 14] (by decide) rfl)
                · refine rok_xb rfl rfl (x_alloc ty_48 rfl) rfl ?_; rintro _ _ ⟨b16, rfl, rfl⟩
                  refine rak_rk [(3, false), (5, false), (6, false), (7, true), (8, true), (9, true), (11, false), (12, false)] (by kernel_rfl) rfl ?_
                  refine rk_u rfl rfl (x_callv rfl en_17 (fun w s => ct_l_toRing _ _ _ w)) rfl ?_
                  refine rk_u rfl rfl (x_callv rfl en_36 (fun w s => ct_l_toHom _ _ w)) rfl ?_
                  refine rk_x rfl rfl (x_call rfl en_37 (fun w s => ct_L_iMapNetwork _ _ _ _ _ _ _ _ _ _ _ _ w (o87.toR.1.mono (s.get 1 rfl)) (o87.toR.2.mono (s.get 1 rfl)) (by first | assumption | exact iota_held _ _ | omega | rfl))) rfl ?_; rintro _ h92 ⟨vt92, vo92, rfl, o92⟩
                  obtain ⟨cs_T_92, rr_T_92, hc_T_92⟩ := o92.toR.1.at
                  refine rk_v rfl rfl (v_move rfl) rfl ?_
                  refine rk_v rfl rfl (v_extract rfl rfl) rfl ?_
                  refine rk_v rfl rfl (v_extract rfl rfl) rfl ?_
                  refine rk_m 1 rfl rfl rfl rfl (m_store 1 ty_48 rfl rfl rfl rfl (by simp [one_int, o92.toR.1.sl.one, o92.toR.2.sl.one]) rfl (Nat.le_of_ble_eq_true rfl)) rfl ?_; rintro _ _ ⟨rfl, rfl⟩
                  refine rk_fv rfl rfl (v_assign rfl) rfl ?_
                  refine rk_end ?_
                  exact qs_mid (b16, h92, h87, vt87, vo87, vt92, vo92) ⟨o87, o92⟩ ⟨rfl, rfl, rfl, rfl, rfl, rfl, rfl, rfl, rfl, rfl, rfl, rfl, rfl, rfl, trivial⟩ (fun _ s => s.pick [1, 0, 2, 3, 4, 5, 6, 7, 8, 9, 10, 11, 12, 13, 14] (by decide) rfl)
              · refine rok_xb rfl rfl (x_alloc ty_48 rfl) rfl ?_; rintro _ _ ⟨b16, rfl, rfl⟩
                refine rak_rk [(1, false), (3, false), (5, false), (6, false), (7, true), (8, true), (9, true), (11, false), (12, false)] (by kernel_rfl) rfl ?_
                refine rk_x rfl rfl (x_call rfl en_28 (fun w s => ct_L_toNetwork _ _ _ _ _ _ _ w (r.mono (s.get 12 rfl)) (r'.mono (s.get 12 rfl)) (by first | assumption | exact iota_held _ _ | omega | rfl))) rfl ?_; rintro _ h87 ⟨vt87, vo87, rfl, o87⟩
                obtain ⟨cs_T_87, rr_T_87, hc_T_87⟩ := o87.toR.1.at
                refine rk_u rfl rfl (x_callv rfl en_17 (fun w s => ct_l_toRing _ _ _ w)) rfl ?_
                refine rk_u rfl rfl (x_callv rfl en_36 (fun w s => ct_l_toHom _ _ w)) rfl ?_
                refine rk_x rfl rfl (x_call rfl en_37 (fun w s => ct_L_iMapNetwork _ _ _ _ _ _ _ _ _ _ _ _ w (o87.toR.1.mono (s.get 0 rfl)) (o87.toR.2.mono (s.get 0 rfl)) (by first | assumption | exact iota_held _ _ | omega | rfl))) rfl ?_; rintro _ h92 ⟨vt92, vo92, rfl, o92⟩
                obtain ⟨cs_T_92, rr_T_92, hc_T_92⟩ := o92.toR.1.at
                refine rk_v rfl rfl (v_move rfl) rfl ?_
                refine rk_v rfl rfl (v_extract rfl rfl) rfl ?_
                refine rk_v rfl rfl (v_extract rfl rfl) rfl ?_
                refine rk_m 2 rfl rfl rfl rfl (m_store 2 ty_48 rfl rfl rfl rfl (by simp [one_int, o92.toR.1.sl.one, o92.toR.2.sl.one]) rfl (Nat.le_of_ble_eq_true rfl)) rfl ?_; rintro _ _ ⟨rfl, rfl⟩
                refine rk_fv rfl rfl (v_assign rfl) rfl ?_
                refine rk_end ?_
                exact qs_mid (b16, h92, h87, vt87, vo87, vt92, vo92) ⟨o87, o92⟩ ⟨rfl, rfl, rfl, rfl, rfl, rfl, rfl, rfl, rfl, rfl, rfl, rfl, rfl, rfl, trivial⟩ (fun _ s => s.pick [2, 0, 1, 3, 4, 5, 6, 7, 8, 9, 10, 11, 12, 13, 14] (by decide) rfl)
            · rintro ⟨b16, h92, h87, vt87, vo87, vt92, vo92⟩ ⟨o87, o92⟩
              dsimp only at o87 o92 ⊢
              refine qs_n ?_
              refine wp_sc ?_
              refine wp_sc ?_
              refine wp_sq ?_
              refine sq_v rfl (v_loadNB 0 ty_48 rfl rfl rfl rfl) rfl ?_
              refine sq_v rfl (v_loadNB 8 ty_48 rfl rfl rfl rfl) rfl ?_
              refine sq_u rfl (x_callv rfl en_31 (fun w s => ct_l_eqNetwork _ _ _ _ _ _ _ _ _ w (o92.toR.1.mono (s.get 1 rfl)) (o92.toR.2.mono (s.get 1 rfl)) (o30.toR.1.mono (s.get 9 rfl)) (o30.toR.2.mono (s.get 9 rfl)))) rfl ?_
              refine sq_v rfl (v_not rfl) rfl ?_
              refine sq_v rfl (v_move rfl) rfl ?_
              refine sq_v rfl (v_move rfl) rfl ?_
              refine sq_v rfl (v_move rfl) rfl ?_
              refine sq_v rfl (v_neqsb Try.underlying4 rfl rfl) rfl ?_
              refine sq_v rfl (v_pickf rfl rfl) rfl ?_
              refine sq_end ?_
              refine qs_n ?_
              refine wp_cf rfl ?_
              refine wp_sk ?_
              refine qs_n ?_
              refine wp_sc ?_
              refine wp_sq ?_
              refine sq_v rfl (v_assign rfl) rfl ?_
              refine sq_end ?_
              refine qs_n ?_
              refine wp_sc ?_
              refine wp_sq ?_
              refine sq_v rfl (v_loadNB 4 ty_48 rfl rfl rfl rfl) rfl ?_
              refine sq_v rfl (v_move rfl) rfl ?_
              refine sq_u rfl (x_callv rfl en_38 (fun w s => ct_l_heldNetwork _ _ _ _ _ _ _ _ _ w (om76.toR.1.mono (s.get 5 rfl)) (om76.toR.2.mono (s.get 5 rfl)) hl76 (by first | assumption | exact iota_held _ _ | omega | rfl))) rfl ?_
              refine sq_v rfl (v_assign rfl) rfl ?_
              refine sq_end ?_
              refine qs_n ?_
              refine wp_sc ?_
              refine wp_sc ?_
              refine wp_sq ?_
              refine sq_v rfl (v_move rfl) rfl ?_
              refine sq_v rfl (v_lss rfl rfl) rfl ?_
              refine sq_end ?_
              refine qs_n ?_
              refine wp_cd rfl (fun c108 => ?_) (fun c108 => ?_)
              · refine wp_sc ?_
                refine wp_sq ?_
                refine sq_v rfl (v_assign rfl) rfl ?_
                refine sq_end ?_
                refine qs_n ?_
                refine wp_rt ?_
                refine qs_r ?_
                exfalso; first | omega | contradiction
              · refine wp_sk ?_
                refine qs_n ?_
                refine wp_sc ?_
                refine wp_sc ?_
                refine wp_sq ?_
                refine sq_v rfl (v_move rfl) rfl ?_
                refine sq_v rfl (v_move rfl) rfl ?_
                refine sq_v rfl (v_neqs rfl rfl) rfl ?_
                refine sq_end ?_
                refine qs_n ?_
                refine wp_cf rfl ?_
                refine wp_sk ?_
                refine qs_n ?_
                refine wp_sc ?_
                refine wp_sq ?_
                refine sq_v rfl (v_assign rfl) rfl ?_
                refine sq_end ?_
                refine qs_n ?_
                refine wp_rt ?_
                exact qs_ret1 rfl rfl (fin_v (i := 14) rfl)
set_option maxRecDepth 100000 in
theorem lifted_fnExactMapNetwork (os : Os) (started : os.Started) (H : Type) (enc : TypeId × Value → H) :
    ReturnsInHanded {} Try.checked os 5 .any (Rows.fnExactMapNetworkSpec.pre6 enc Try.prog Try.f5 Rows.fnExactMapNetworkRow.domain false) (Rows.fnExactMapNetworkSpec.post enc Try.prog Try.f5 false true false false) := by
  refine returnsInHanded_of_change (C := Try.checked) lift_own started (by kernel_rfl) Try.func5
    (ChangeSpec.witness6 (enc := enc) (C := Try.checked) false ⟨#[], #[.agg #[.int .i64 0, .int .i64 0, .int .i64 0, .slice none 0 0, .slice none 0 0], .agg #[.int .i64 0, .int .i64 0, .int .i64 0], .agg #[.int .i64 0, .int .i64 0]], []⟩ 8 (by kernel_rfl) (by kernel_rfl) (by kernel_rfl) (by kernel_rfl)) ?_
  intro W base args ds gs before hval0 hW hcnd _
  have hval : ∀ (j : Nat) t v, Try.f5.params[j]? = some t → args[j]? = some v → Value.okWide Try.prog W .any base t v := hval0
  have hW' := hW
  obtain ⟨p, q, hA0, hV, rfl, hfz, hnd⟩ := hW
  have hlt : ∀ x ∈ p, x.block < W.heap.size := fun x hx => by simpa using hW'.lt x (by simp [hx])
  have hA : DataW.TrodAll enc Try.prog W 0 (fun _ => true) true Try.f5.params.toList args.toList ds p := hA0
  have hA1 := hA
  rw [Try.params5] at hA1 hval
  obtain ⟨v0, vs0, d0, ds0, p0, q0, hargs, rfl, rfl, h0, r0⟩ := trodAll_cons hA1
  obtain ⟨v1, vs1, d1, ds1, p1, q1, rfl, rfl, rfl, h1, r1⟩ := trodAll_cons r0
  obtain ⟨v2, vs2, d2, ds2, p2, q2, rfl, rfl, rfl, h2, r2⟩ := trodAll_cons r1
  obtain ⟨rfl, rfl, rfl⟩ := trodAll_nil r2
  obtain rfl : args = #[v0, v1, v2] := by cases args; simp_all
  obtain ⟨rfl, rfl⟩ := trodVars_none hV
  have k0 := hval 0 41 v0 rfl rfl
  have k1 := hval 1 23 v1 rfl rfl
  have k2 := hval 2 56 v2 rfl rfl
  obtain ⟨x0, x1, x2, ts, op, vt, vo, rfl, rt, ro⟩ := arg_network k0 h0
  obtain ⟨y0, y1, y2, rfl, _⟩ := arg_ring k1 h1
  obtain ⟨z0, z1, rfl⟩ := arg_hom k2 h2
  refine (show Calls Try.prog 5 _ W (RetV W (.bool true)) from ct_l_FnExactMapNetwork x0 x1 x2 y0 y1 y2 z0 z1 ts op vt vo W rt ro).mono fun e W' ⟨he, hu⟩ => ?_
  subst he
  refine ⟨_, rfl, _, _, _, [], _, [], hW', trodAll_mk1 (shut_bool Try.underlying4 true), trodAll_below lift_laid hu.below (by kernel_rfl) hA hlt, rfl, hu.below.frame _, fun h => by cases h⟩
set_option maxHeartbeats 4000000 in
theorem joined_fnExactMapNetwork : joinedFacts Try.pinned.checked.prog 5 Try.f5 Rows.fnExactMapNetworkSpec Rows.fnExactMapNetworkRow = true := by
  unfold joinedFacts
  repeat' (with_reducible refine cd_and ?_ ?_)
  all_goals first | with_reducible exact cd_enter | (with_reducible refine cd_lifts' ?_; rfl) | (with_reducible refine cd_make' ?_; rfl) | (as_aux_lemma => kernel_rfl)
theorem named_fnExactMapNetwork : Try.pinned.checked.prog.funcNamed Rows.fnExactMapNetworkRow.func = some 5 := by kernel_rfl
theorem over_fnExactMapNetwork : Rows.fnExactMapNetworkRow.holds Try.pinned (OpenSpec.ofChange Rows.fnExactMapNetworkSpec) :=
  OpenClaim.holds_of_wide 5 Try.f5 rfl rfl rfl rfl rfl rfl rfl ⟨rfl, rfl, rfl, rfl, rfl⟩ rfl rfl rfl rfl rfl named_fnExactMapNetwork Try.func5 joined_fnExactMapNetwork
    (of_decide_eq_true (by kernel_rfl)) (by unfold Func.isWrapper; first | (rw [if_pos (by decide +kernel)]; kernel_rfl) | (rw [if_neg (by decide +kernel)]; exact ⟨rfl, rfl⟩))
    (fun os started H enc _ => lifted_fnExactMapNetwork os started H enc)
/-- The law FnExactMapNetwork holds at every input. -/
theorem proved_fnExactMapNetwork : Rows.FnExactMapNetworkSaid :=
  over_fnExactMapNetwork
#print axioms proved_fnExactMapNetwork
end Go.Proofs.Ytikeobneipjfnaa
