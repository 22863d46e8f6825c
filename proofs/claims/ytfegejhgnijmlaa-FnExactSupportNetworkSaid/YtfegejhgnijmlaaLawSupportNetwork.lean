/-
  At every network the program's SupportNetwork returns what the reference's returns; neither result shares memory with the argument or with another result.
  Conditions: none.
-/
import Derived.Test.YtfegejhgnijmlaaSupport
import Derived.Test.YtfegejhgnijmlaaLiftNet
namespace Go.Proofs.Ytfegejhgnijmlaa
set_option maxRecDepth 100000
open Go.ChangeShapes Go.WideShapes Go.ChangeAt Go.RowKit
theorem Ret.imp {w : World} {h : PH} {T T' : Value → PH → Prop} {e : Ending} {w' : World} (r : Ret w h T e w') (f : ∀ v h', T v h' → T' v h') : Ret w h T' e w' :=
  let ⟨v, h', h1, h2, h3⟩ := r; ⟨v, h', h1, h2, f v h' h3⟩
theorem supp_size {k p n : Int} : ∀ {ts : List Ten}, (∀ t ∈ ts, tensorL k p n t.l t.d t.x) → tensSize (suppTs k p n ts) ≤ 5000 * ts.length
  | [], _ => by simp [suppTs, tensSize]
  | t :: r, h => by
    have ih := supp_size (ts := r) (fun t ht => h t (by simp [ht]))
    have hf := ten_facts (h t (by simp))
    have : tenSize (suppT k p n t) ≤ 5000 := by simp only [tenSize, suppT, bitsL, List.length_map, List.length_range]; omega
    simp only [suppTs, List.map_cons, tensSize, List.length_cons] at *
    omega
theorem supp_out (k p n : Int) (ts : List Ten) (op : List Int) (hs : op.length ≤ 1048576) : ∃ kd pp ts' op', (∀ u h, SuppR k p n ts op u h → ∃ vt vo, u = netV kd pp 0 vt vo ∧ NetO ts' op' vt vo h) ∧ tensSize ts' + op'.length ≤ 1048576 + 60000 := by
  by_cases hn : netL k p n ts op
  · have h1 := supp_size hn.2.2.1
    have h2 := hn.2.1
    exact ⟨3, 1000000, suppTs k p n ts, op, fun u h hr => hr.1 hn, by omega⟩
  · exact ⟨0, 0, [], [], fun u h hr => ⟨_, _, (hr.2 hn).1, (hr.2 hn).2⟩, by simp [tensSize]⟩
set_option maxHeartbeats 2000000 in
theorem ct_l_FnExactSupportNetwork (k p n : Int) (ts : List Ten) (op : List Int) (vt vo : Value) (w : World) (r : TensR ts vt (hp w)) (r' : IntsR op vo (hp w)) :
    Calls Try.prog 3 [netV k p n vt vo].toArray w (RetV w (.bool true)) := by
  have hnn := tensSize_nn ts
  refine calls_in Try.func3 rfl Try.ntmps3 rfl (Sat.start w) ?_
  refine wp_sc ?_
  refine wp_sq ?_
  refine sq_x rfl (x_box rfl rfl) rfl ?_; rintro _ _ ⟨b1, rfl, rfl⟩
  refine sq_v rfl (v_assign rfl) rfl ?_
  refine sq_end ?_
  refine qs_n ?_
  refine wp_sc ?_
  refine wp_sq ?_
  refine sq_v rfl (v_assign rfl) rfl ?_
  refine sq_end ?_
  refine qs_n ?_
  refine wp_sc ?_
  refine wp_sq ?_
  refine sq_v rfl (v_loadNB 0 ty_27 rfl rfl rfl rfl) rfl ?_
  refine sq_v rfl (v_move rfl) rfl ?_
  refine sq_u rfl (x_callv rfl en_13 (fun w s => ct_l_szNetwork _ _ _ _ _ _ _ _ w (r.mono (s.get 1 rfl)) (r'.mono (s.get 1 rfl)) (by omega))) rfl ?_
  refine sq_v rfl (v_assign rfl) rfl ?_
  refine sq_end ?_
  refine qs_n ?_
  refine wp_sc ?_
  refine wp_sc ?_
  refine wp_sq ?_
  refine sq_v rfl (v_move rfl) rfl ?_
  refine sq_v rfl (v_lss rfl rfl) rfl ?_
  refine sq_end ?_
  refine qs_n ?_
  refine wp_cd rfl (fun c15 => ?_) (fun c15 => ?_)
  · refine wp_sc ?_
    refine wp_sq ?_
    refine sq_v rfl (v_assign rfl) rfl ?_
    refine sq_end ?_
    refine qs_n ?_
    refine wp_rt ?_
    refine qs_r ?_
    exact qs_ret1 rfl rfl (fin_q (i := 1) rfl rfl)
  · refine wp_sk ?_
    refine qs_n ?_
    refine wp_sc ?_
    refine wp_sq ?_
    refine sq_v rfl (v_loadNB 0 ty_27 rfl rfl rfl rfl) rfl ?_
    have hsz := szV_ge c15; have hto : ts.length + tensSize ts + op.length ≤ 1048576 := (by omega); have hop : op.length ≤ 1048576 := (by omega); obtain ⟨kd, pp, ts', op', H, hb⟩ := supp_out k p n ts op hop; have hnn' := tensSize_nn ts'
    refine sq_x rfl (x_call rfl en_15 (fun w s => ct_l_toNetwork _ _ _ _ _ _ _ w (r.mono (s.get 1 rfl)) (r'.mono (s.get 1 rfl)) hto)) rfl ?_; rintro _ h17 ⟨vt17, vo17, rfl, o17⟩
    refine sq_x rfl (x_call rfl en_14 (fun w s => (ct_s_SupportNetwork _ _ _ _ _ _ _ w (o17.toR.1.mono (s.get 0 rfl)) (o17.toR.2.mono (s.get 0 rfl)) hop).mono fun _ _ h => h.imp H)) rfl ?_; rintro _ h18 ⟨vt18, vo18, rfl, o18⟩
    refine sq_x rfl (x_alloc ty_32 rfl) rfl ?_; rintro _ _ ⟨b4, rfl, rfl⟩
    refine sq_m 0 rfl rfl (m_store 0 ty_32 rfl rfl rfl rfl (by simp [one_int, o18.toR.1.sl.one, o18.toR.2.sl.one]) rfl (Nat.le_of_ble_eq_true rfl)) rfl ?_; rintro _ _ ⟨rfl, rfl⟩
    refine sq_end ?_
    refine qs_n ?_
    refine wp_sc ?_
    refine wp_sq ?_
    refine sq_v rfl (v_loadNB 3 ty_27 rfl rfl rfl rfl) rfl ?_
    refine sq_x rfl (x_call rfl en_15 (fun w s => ct_l_toNetwork _ _ _ _ _ _ _ w (r.mono (s.get 4 rfl)) (r'.mono (s.get 4 rfl)) hto)) rfl ?_; rintro _ h20 ⟨vt20, vo20, rfl, o20⟩
    refine sq_x rfl (x_alloc ty_32 rfl) rfl ?_; rintro _ _ ⟨b5, rfl, rfl⟩
    refine sq_m 0 rfl rfl (m_store 0 ty_32 rfl rfl rfl rfl (by simp [one_int, o20.toR.1.sl.one, o20.toR.2.sl.one]) rfl (Nat.le_of_ble_eq_true rfl)) rfl ?_; rintro _ _ ⟨rfl, rfl⟩
    refine sq_end ?_
    refine qs_n ?_
    refine wp_sc ?_
    refine wp_sq ?_
    refine sq_v rfl (v_loadNB 0 ty_32 rfl rfl rfl rfl) rfl ?_
    refine sq_x rfl (x_call rfl en_16 (fun w s => (ct_i_SupportNetwork _ _ _ _ _ _ _ w (o20.toR.1.mono (s.get 1 rfl)) (o20.toR.2.mono (s.get 1 rfl)) hop).mono fun _ _ h => h.imp H)) rfl ?_; rintro _ h22 ⟨vt22, vo22, rfl, o22⟩
    refine sq_x rfl (x_alloc ty_32 rfl) rfl ?_; rintro _ _ ⟨b6, rfl, rfl⟩
    refine sq_m 0 rfl rfl (m_store 0 ty_32 rfl rfl rfl rfl (by simp [one_int, o22.toR.1.sl.one, o22.toR.2.sl.one]) rfl (Nat.le_of_ble_eq_true rfl)) rfl ?_; rintro _ _ ⟨rfl, rfl⟩
    refine sq_end ?_
    refine qs_n ?_
    refine wp_sc ?_
    refine wp_sc ?_
    refine wp_sq ?_
    refine sq_v rfl (v_loadNB 0 ty_32 rfl rfl rfl rfl) rfl ?_
    refine sq_v rfl (v_loadNB 4 ty_32 rfl rfl rfl rfl) rfl ?_
    refine sq_u rfl (x_callv rfl en_17 (fun w s => ct_l_eqNetwork _ _ _ _ _ _ _ _ _ w (o22.toR.1.mono (s.get 1 rfl)) (o22.toR.2.mono (s.get 1 rfl)) (o18.toR.1.mono (s.get 5 rfl)) (o18.toR.2.mono (s.get 5 rfl)))) rfl ?_
    refine sq_v rfl (v_not rfl) rfl ?_
    refine sq_end ?_
    refine qs_n ?_
    refine wp_cn _ rfl (fun c26 => ?_) (fun c26 => ?_)
    · refine wp_sc ?_
      refine wp_sq ?_
      refine sq_v rfl (v_assign rfl) rfl ?_
      refine sq_end ?_
      refine qs_n ?_
      refine wp_rt ?_
      refine qs_r ?_
      cases c26
    · refine wp_sk ?_
      refine qs_n ?_
      refine wp_sc ?_
      refine wp_sc ?_
      refine wp_rj 5 [(0, true), (1, true), (2, false), (3, false), (4, true)] mixed_ok (by kernel_rfl) ?_
      refine rj_v rfl rfl (v_loadNB 2 ty_32 rfl rfl rfl rfl) rfl ?_
      refine rj_v rfl rfl (v_loadNB 7 ty_27 rfl rfl rfl rfl) rfl ?_
      refine rj_x rfl rfl (x_call rfl en_15 (fun w s => ct_l_toNetwork _ _ _ _ _ _ _ w (r.mono (s.get 8 rfl)) (r'.mono (s.get 8 rfl)) hto)) rfl ?_; rintro _ h29 ⟨vt29, vo29, rfl, o29⟩
      refine rj_u rfl rfl (x_callv rfl en_17 (fun w s => ct_l_eqNetwork _ _ _ _ _ _ _ _ _ w (o20.toR.1.mono (s.get 4 rfl)) (o20.toR.2.mono (s.get 4 rfl)) (o29.toR.1.mono (s.get 0 rfl)) (o29.toR.2.mono (s.get 0 rfl)))) rfl ?_
      refine rj_v rfl rfl (v_not rfl) rfl ?_
      refine rj_end ?_
      refine qs_n ?_
      refine wp_cn _ rfl (fun c31 => ?_) (fun c31 => ?_)
      · refine wp_sc ?_
        refine wp_sq ?_
        refine sq_v rfl (v_assign rfl) rfl ?_
        refine sq_end ?_
        refine qs_n ?_
        refine wp_rt ?_
        refine qs_r ?_
        cases c31
      · refine wp_sk ?_
        refine qs_n ?_
        refine wp_sc ?_
        refine wp_sq ?_
        refine sq_v rfl (v_assign rfl) rfl ?_
        refine sq_end ?_
        refine qs_n ?_
        refine wp_sc ?_
        refine wp_sq ?_
        refine sq_v rfl (v_loadNB 3 ty_32 rfl rfl rfl rfl) rfl ?_
        refine sq_v rfl (v_move rfl) rfl ?_
        refine sq_m 4 rfl rfl (x_call rfl en_18 (fun w s => ct_l_markNetwork _ _ _ _ _ _ _ _ w _ (s.get 4 rfl) o20 (by omega))) rfl ?_; rintro _ h34 ⟨rfl, tsm, opm, om, hlm⟩
        refine sq_v rfl (v_assign rfl) rfl ?_
        refine sq_end ?_
        refine qs_n ?_
        refine wp_sc ?_
        refine wp_sc ?_
        refine wp_sq ?_
        refine sq_v rfl (v_move rfl) rfl ?_
        refine sq_v rfl (v_lss rfl rfl) rfl ?_
        refine sq_bd 36 rfl (fun c36 => ?_) (fun c36 => ?_)
        · refine sq_v rfl (v_move rfl) rfl ?_
          refine sq_s rfl rfl ?_
          refine sq_s rfl rfl ?_
          refine sq_s rfl rfl ?_
          refine sq_s rfl rfl ?_
          refine sq_v rfl (v_pickt rfl rfl) rfl ?_
          refine sq_end ?_
          refine qs_n ?_
          refine wp_ct rfl ?_
          refine wp_sc ?_
          refine wp_sq ?_
          refine sq_v rfl (v_assign rfl) rfl ?_
          refine sq_end ?_
          refine qs_n ?_
          refine wp_rt ?_
          refine qs_r ?_
          exact absurd c36 (by omega)
        · refine sq_v rfl (v_move rfl) rfl ?_
          refine sq_v rfl (v_loadNB 1 ty_32 rfl rfl rfl rfl) rfl ?_
          refine sq_v rfl (v_loadNB 5 ty_32 rfl rfl rfl rfl) rfl ?_
          refine sq_u rfl (x_callv rfl en_17 (fun w s => ct_l_eqNetwork _ _ _ _ _ _ _ _ _ w (o22.toR.1.mono (s.get 2 rfl)) (o22.toR.2.mono (s.get 2 rfl)) (o18.toR.1.mono (s.get 6 rfl)) (o18.toR.2.mono (s.get 6 rfl)))) rfl ?_
          refine sq_v rfl (v_not rfl) rfl ?_
          refine sq_v rfl (v_pickf rfl rfl) rfl ?_
          refine sq_end ?_
          refine qs_n ?_
          refine wp_cn _ rfl (fun c42 => ?_) (fun c42 => ?_)
          · refine wp_sc ?_
            refine wp_sq ?_
            refine sq_v rfl (v_assign rfl) rfl ?_
            refine sq_end ?_
            refine qs_n ?_
            refine wp_rt ?_
            refine qs_r ?_
            cases c42
          · refine wp_sk ?_
            refine qs_n ?_
            refine wp_sc ?_
            refine wp_sq ?_
            refine sq_v rfl (v_assign rfl) rfl ?_
            refine sq_end ?_
            refine qs_n ?_
            refine wp_sc ?_
            refine wp_sq ?_
            refine sq_v rfl (v_loadNB 1 ty_32 rfl rfl rfl rfl) rfl ?_
            refine sq_v rfl (v_move rfl) rfl ?_
            refine sq_m 2 rfl rfl (x_call rfl en_18 (fun w s => ct_l_markNetwork _ _ _ _ _ _ _ _ w _ (s.get 2 rfl) o22 (by omega))) rfl ?_; rintro _ h45 ⟨rfl, tsg, opg, og, hlg⟩
            refine sq_v rfl (v_assign rfl) rfl ?_
            refine sq_end ?_
            refine qs_n ?_
            refine wp_sc ?_
            refine wp_sq ?_
            refine sq_v rfl (v_assign rfl) rfl ?_
            refine sq_end ?_
            refine qs_n ?_
            refine wp_sc ?_
            refine wp_sq ?_
            refine sq_v rfl (v_loadNB 1 ty_32 rfl rfl rfl rfl) rfl ?_
            refine sq_v rfl (v_move rfl) rfl ?_
            refine sq_u rfl (x_callv rfl en_19 (fun w s => ct_l_heldNetwork _ _ _ _ _ _ _ _ _ w (og.toR.1.mono (s.get 2 rfl)) (og.toR.2.mono (s.get 2 rfl)) hlg (by omega))) rfl ?_
            refine sq_v rfl (v_assign rfl) rfl ?_
            refine sq_end ?_
            refine qs_n ?_
            refine wp_sc ?_
            refine wp_sc ?_
            refine wp_sq ?_
            refine sq_v rfl (v_move rfl) rfl ?_
            refine sq_v rfl (v_lss rfl rfl) rfl ?_
            refine sq_end ?_
            refine qs_n ?_
            refine wp_cd rfl (fun c50 => ?_) (fun c50 => ?_)
            · refine wp_sc ?_
              refine wp_sq ?_
              refine sq_v rfl (v_assign rfl) rfl ?_
              refine sq_end ?_
              refine qs_n ?_
              refine wp_rt ?_
              refine qs_r ?_
              exact absurd c50 (by omega)
            · refine wp_sk ?_
              refine qs_n ?_
              refine wp_sc ?_
              refine wp_sc ?_
              refine wp_sq ?_
              refine sq_v rfl (v_move rfl) rfl ?_
              refine sq_v rfl (v_move rfl) rfl ?_
              refine sq_v rfl (v_neq rfl rfl) rfl ?_
              refine sq_end ?_
              refine qs_n ?_
              refine wp_cd rfl (fun c53 => ?_) (fun c53 => ?_)
              · refine wp_sc ?_
                refine wp_sq ?_
                refine sq_v rfl (v_assign rfl) rfl ?_
                refine sq_end ?_
                refine qs_n ?_
                refine wp_rt ?_
                refine qs_r ?_
                exact absurd rfl c53
              · refine wp_sk ?_
                refine qs_n ?_
                refine wp_sc ?_
                refine wp_sq ?_
                refine sq_v rfl (v_loadNB 8 ty_27 rfl rfl rfl rfl) rfl ?_
                refine sq_x rfl (x_call rfl en_15 (fun w s => ct_l_toNetwork _ _ _ _ _ _ _ w (r.mono (s.get 9 rfl)) (r'.mono (s.get 9 rfl)) hto)) rfl ?_; rintro _ h55 ⟨vt55, vo55, rfl, o55⟩
                refine sq_x rfl (x_call rfl en_16 (fun w s => (ct_i_SupportNetwork _ _ _ _ _ _ _ w (o55.toR.1.mono (s.get 0 rfl)) (o55.toR.2.mono (s.get 0 rfl)) hop).mono fun _ _ h => h.imp H)) rfl ?_; rintro _ h56 ⟨vt56, vo56, rfl, o56⟩
                refine sq_x rfl (x_alloc ty_32 rfl) rfl ?_; rintro _ _ ⟨b10, rfl, rfl⟩
                refine sq_m 0 rfl rfl (m_store 0 ty_32 rfl rfl rfl rfl (by simp [one_int, o56.toR.1.sl.one, o56.toR.2.sl.one]) rfl (Nat.le_of_ble_eq_true rfl)) rfl ?_; rintro _ _ ⟨rfl, rfl⟩
                refine sq_end ?_
                refine qs_n ?_
                refine wp_sc ?_
                refine wp_sc ?_
                refine wp_sq ?_
                refine sq_v rfl (v_loadNB 0 ty_32 rfl rfl rfl rfl) rfl ?_
                refine sq_v rfl (v_loadNB 8 ty_32 rfl rfl rfl rfl) rfl ?_
                refine sq_u rfl (x_callv rfl en_17 (fun w s => ct_l_eqNetwork _ _ _ _ _ _ _ _ _ w (o56.toR.1.mono (s.get 1 rfl)) (o56.toR.2.mono (s.get 1 rfl)) (o18.toR.1.mono (s.get 9 rfl)) (o18.toR.2.mono (s.get 9 rfl)))) rfl ?_
                refine sq_v rfl (v_not rfl) rfl ?_
                refine sq_end ?_
                refine qs_n ?_
                refine wp_cn _ rfl (fun c60 => ?_) (fun c60 => ?_)
                · refine wp_sc ?_
                  refine wp_sq ?_
                  refine sq_v rfl (v_assign rfl) rfl ?_
                  refine sq_end ?_
                  refine qs_n ?_
                  refine wp_rt ?_
                  refine qs_r ?_
                  cases c60
                · refine wp_sk ?_
                  refine qs_n ?_
                  refine wp_sc ?_
                  refine wp_sq ?_
                  refine sq_v rfl (v_assign rfl) rfl ?_
                  refine sq_end ?_
                  refine qs_n ?_
                  refine wp_sc ?_
                  refine wp_sq ?_
                  refine sq_v rfl (v_loadNB 4 ty_32 rfl rfl rfl rfl) rfl ?_
                  refine sq_v rfl (v_move rfl) rfl ?_
                  refine sq_u rfl (x_callv rfl en_19 (fun w s => ct_l_heldNetwork _ _ _ _ _ _ _ _ _ w (og.toR.1.mono (s.get 5 rfl)) (og.toR.2.mono (s.get 5 rfl)) hlg (by omega))) rfl ?_
                  refine sq_v rfl (v_assign rfl) rfl ?_
                  refine sq_end ?_
                  refine qs_n ?_
                  refine wp_sc ?_
                  refine wp_sc ?_
                  refine wp_sq ?_
                  refine sq_v rfl (v_move rfl) rfl ?_
                  refine sq_v rfl (v_lss rfl rfl) rfl ?_
                  refine sq_end ?_
                  refine qs_n ?_
                  refine wp_cd rfl (fun c65 => ?_) (fun c65 => ?_)
                  · refine wp_sc ?_
                    refine wp_sq ?_
                    refine sq_v rfl (v_assign rfl) rfl ?_
                    refine sq_end ?_
                    refine qs_n ?_
                    refine wp_rt ?_
                    refine qs_r ?_
                    exact absurd c65 (by omega)
                  · refine wp_sk ?_
                    refine qs_n ?_
                    refine wp_sc ?_
                    refine wp_sc ?_
                    refine wp_sq ?_
                    refine sq_v rfl (v_move rfl) rfl ?_
                    refine sq_v rfl (v_move rfl) rfl ?_
                    refine sq_v rfl (v_neq rfl rfl) rfl ?_
                    refine sq_end ?_
                    refine qs_n ?_
                    refine wp_cd rfl (fun c68 => ?_) (fun c68 => ?_)
                    · refine wp_sc ?_
                      refine wp_sq ?_
                      refine sq_v rfl (v_assign rfl) rfl ?_
                      refine sq_end ?_
                      refine qs_n ?_
                      refine wp_rt ?_
                      refine qs_r ?_
                      exact absurd rfl c68
                    · refine wp_sk ?_
                      refine qs_n ?_
                      refine wp_sc ?_
                      refine wp_sq ?_
                      refine sq_v rfl (v_assign rfl) rfl ?_
                      refine sq_end ?_
                      refine qs_n ?_
                      refine wp_rt ?_
                      exact qs_ret1 rfl rfl (fin_q (i := 12) rfl rfl)
set_option maxRecDepth 100000 in
theorem lifted_fnExactSupportNetwork (os : Os) (started : os.Started) (H : Type) (enc : TypeId × Value → H) :
    ReturnsInHanded {} Try.checked os 3 .any (Rows.fnExactSupportNetworkSpec.pre6 enc Try.prog Try.f3 Rows.fnExactSupportNetworkRow.domain false) (Rows.fnExactSupportNetworkSpec.post enc Try.prog Try.f3 false true false false) := by
  refine returnsInHanded_of_change (C := Try.checked) lift_own started (by kernel_rfl) Try.func3
    (ChangeSpec.witness6 (enc := enc) (C := Try.checked) false ⟨#[], #[.agg #[.int .i64 0, .int .i64 0, .int .i64 0, .slice none 0 0, .slice none 0 0]], []⟩ 8 (by kernel_rfl) (by kernel_rfl) (by kernel_rfl) (by kernel_rfl)) ?_
  intro W base args ds gs before hval0 hW hcnd _
  have hval : ∀ (j : Nat) t v, Try.f3.params[j]? = some t → args[j]? = some v → Value.okWide Try.prog W .any base t v := hval0
  have hW' := hW
  obtain ⟨p, q, hA0, hV, rfl, hfz, hnd⟩ := hW
  have hlt : ∀ x ∈ p, x.block < W.heap.size := fun x hx => by simpa using hW'.lt x (by simp [hx])
  have hA : DataW.TrodAll enc Try.prog W 0 (fun _ => true) true Try.f3.params.toList args.toList ds p := hA0
  have hA1 := hA
  rw [Try.params3] at hA1 hval
  obtain ⟨v0, vs0, d0, ds0, p0, q0, hargs, rfl, rfl, h0, r0⟩ := trodAll_cons hA1
  obtain ⟨rfl, rfl, rfl⟩ := trodAll_nil r0
  obtain rfl : args = #[v0] := by cases args; simp_all
  obtain ⟨rfl, rfl⟩ := trodVars_none hV
  have k0 := hval 0 27 v0 rfl rfl
  obtain ⟨x0, x1, x2, ts, op, vt, vo, rfl, rt, ro⟩ := arg_network k0 h0
  refine (show Calls Try.prog 3 _ W (RetV W (.bool true)) from ct_l_FnExactSupportNetwork x0 x1 x2 ts op vt vo W rt ro).mono fun e W' ⟨he, hu⟩ => ?_
  subst he
  refine ⟨_, rfl, _, _, _, [], _, [], hW', trodAll_mk1 (shut_bool Try.underlying4 true), trodAll_below lift_laid hu.below (by kernel_rfl) hA hlt, rfl, hu.below.frame _, fun h => by cases h⟩
theorem over_fnExactSupportNetwork : Rows.fnExactSupportNetworkRow.holds Try.pinned (OpenSpec.ofChange Rows.fnExactSupportNetworkSpec) :=
  OpenClaim.holds_of_wide 3 Try.f3 rfl rfl rfl rfl rfl rfl rfl ⟨rfl, rfl, rfl, rfl, rfl⟩ rfl rfl rfl rfl rfl (by kernel_rfl) Try.func3 (by kernel_rfl)
    (of_decide_eq_true (by kernel_rfl)) (by unfold Func.isWrapper; first | (rw [if_pos (by decide +kernel)]; kernel_rfl) | (rw [if_neg (by decide +kernel)]; exact ⟨rfl, rfl⟩))
    (fun os started H enc _ => lifted_fnExactSupportNetwork os started H enc)
/-- The law FnExactSupportNetwork holds at every input. -/
theorem proved_fnExactSupportNetwork : Rows.FnExactSupportNetworkSaid :=
  over_fnExactSupportNetwork
#print axioms proved_fnExactSupportNetwork
end Go.Proofs.Ytfegejhgnijmlaa
