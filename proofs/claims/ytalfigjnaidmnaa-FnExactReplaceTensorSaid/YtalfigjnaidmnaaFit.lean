/-
  Whether a tensor fits in another's place, and the tensor turned into that place's order.
  Conditions: none.
-/
import Derived.Test.YtalfigjnaidmnaaCopy
namespace Go.Proofs.Ytalfigjnaidmnaa
set_option maxRecDepth 100000
open Go.RowKit
theorem TriO.none : TriO ⟨[], [], []⟩ (.slice none 0 0) (.slice none 0 0) (.slice none 0 0) emp :=
  ⟨emp, emp, emp, IntsO.nil, IntsO.nil, IntsO.nil, ⟨by simp [sepL, PDj.emp], fun x hx => by simp at hx; subst hx; exact PLe.emp _, fun k o e => by cases e⟩⟩
def fitP (k p n : Int) (t u : Ten) : Prop := tensorL k p n t.l t.d t.x ∧ tensorL k p n u.l u.d u.x ∧ setL t.l u.l ∧ permD u t.l = t.d
theorem fit_perm {k p n : Int} {t u : Ten} (h1 : tensorL k p n u.l u.d u.x) (h2 : setL t.l u.l) : PermOK k p n u t.l := ⟨h1.1, h1, (setL_perm h2).symm⟩
def FitR (k p n : Int) (t u : Ten) (x : Value) (h : PH) : Prop := ∃ T a b c bb, x = .tuple [tenV a b c, .bool bb].toArray ∧ TriO T a b c h ∧ (bb = true ↔ fitP k p n t u) ∧ (bb = true → T = permT k n u t.l)
theorem FitR.no {k p n : Int} {t u : Ten} (h : ¬ fitP k p n t u) : FitR k p n t u (.tuple [tenV (.slice none 0 0) (.slice none 0 0) (.slice none 0 0), .bool false].toArray) emp :=
  ⟨⟨[], [], []⟩, _, _, _, false, rfl, TriO.none, ⟨fun e => (by cases e), fun e => absurd e h⟩, fun e => (by cases e)⟩
theorem ct_s_l07Fits (k p n : Int) (t u : Ten) (a b c a' b' c' : Value) (w : World) (r1 : IntsR t.l a (hp w)) (r2 : IntsR t.d b (hp w)) (r3 : IntsR t.x c (hp w)) (r1' : IntsR u.l a' (hp w)) (r2' : IntsR u.d b' (hp w)) (r3' : IntsR u.x c' (hp w)) :
    Calls Try.prog 98 [ringV k p n, tenV a b c, tenV a' b' c'].toArray w (Ret w emp (FitR k p n t u)) := by
  refine calls_in Try.func98 rfl Try.ntmps98 rfl (Sat.start w) ?_
  have hle0 := r1.le
  have hle1 := r2.le
  have hle2 := r3.le
  have hle3 := r1'.le
  have hle4 := r2'.le
  have hle5 := r3'.le
  refine wp_sc ?_
  refine wp_sq ?_
  refine sq_x rfl (x_box rfl rfl) rfl ?_; rintro _ _ ⟨b3, rfl, rfl⟩
  refine sq_x rfl (x_box rfl rfl) rfl ?_; rintro _ _ ⟨b4, rfl, rfl⟩
  refine sq_x rfl (x_box rfl rfl) rfl ?_; rintro _ _ ⟨b5, rfl, rfl⟩
  refine sq_x rfl (x_alloc ty_52 rfl) rfl ?_; rintro _ _ ⟨b6, rfl, rfl⟩
  refine sq_v rfl (v_assign rfl) rfl ?_
  refine sq_end ?_
  refine qs_n ?_
  refine wp_sc ?_
  refine wp_sc ?_
  refine wp_sq ?_
  refine sq_v rfl (v_loadNB 3 ty_30 rfl rfl rfl rfl) rfl ?_
  refine sq_v rfl (v_loadNB 2 ty_52 rfl rfl rfl rfl) rfl ?_
  refine sq_u rfl (x_callv rfl en_86 (fun w s => ct_s_TensorOk _ _ _ _ _ _ _ _ _ w (r1.mono (s.get 4 rfl)) (r2.mono (s.get 4 rfl)) (r3.mono (s.get 4 rfl)))) rfl ?_
  refine sq_bb 11 rfl (fun c11 => ?_) (fun c11 => ?_)
  · refine sq_v rfl (v_not rfl) rfl ?_
    refine sq_v rfl (v_move rfl) rfl ?_
    refine sq_v rfl (v_loadNB 3 ty_30 rfl rfl rfl rfl) rfl ?_
    refine sq_v rfl (v_loadNB 1 ty_52 rfl rfl rfl rfl) rfl ?_
    refine sq_u rfl (x_callv rfl en_86 (fun w s => ct_s_TensorOk _ _ _ _ _ _ _ _ _ w (r1'.mono (s.get 4 rfl)) (r2'.mono (s.get 4 rfl)) (r3'.mono (s.get 4 rfl)))) rfl ?_
    refine sq_v rfl (v_not rfl) rfl ?_
    refine sq_v rfl (v_pickf rfl rfl) rfl ?_
    refine sq_bn 18 rfl (fun c18 => ?_) (fun c18 => ?_)
    · refine sq_v rfl (v_move rfl) rfl ?_
      refine sq_s rfl rfl ?_
      refine sq_s rfl rfl ?_
      refine sq_s rfl rfl ?_
      refine sq_s rfl rfl ?_
      refine sq_s rfl rfl ?_
      refine sq_s rfl rfl ?_
      refine sq_v rfl (v_pickt rfl rfl) rfl ?_
      refine sq_end ?_
      refine qs_n ?_
      refine wp_ct rfl ?_
      refine wp_sc ?_
      refine wp_sq ?_
      refine sq_v rfl (v_build [.slice none 0 0, .slice none 0 0, .slice none 0 0] rfl (by kernel_rfl)) rfl ?_
      refine sq_m 0 rfl rfl (m_store 0 ty_52 rfl rfl rfl rfl (by simp [one_sl]) rfl (Nat.le_of_ble_eq_true rfl)) rfl ?_; rintro _ _ ⟨rfl, rfl⟩
      refine sq_v rfl (v_assign rfl) rfl ?_
      refine sq_end ?_
      refine qs_n ?_
      refine wp_rt ?_
      refine qs_r ?_
      exact qs_retct 0 rfl ty_52 rfl rfl rfl rfl (fin_e (i := 4) rfl (FitR.no (fun h => by first | exact tensorB_false.1 c11 h.1 | exact tensorB_false.1 c18 h.2.1 | exact setB_false.1 c26 h.2.2.1)))
    · refine sq_v rfl (v_move rfl) rfl ?_
      refine sq_v rfl (v_fieldAddr fd_52_0 ty_25 (by decide) rfl) rfl ?_
      refine sq_v rfl (v_loadB 2 ty_25 rfl rfl rfl) rfl ?_
      refine sq_v rfl (v_fieldAddr fd_52_0 ty_25 (by decide) rfl) rfl ?_
      refine sq_v rfl (v_loadB 1 ty_25 rfl rfl rfl) rfl ?_
      refine sq_u rfl (x_callv rfl en_163 (fun w s => ct_s_l06Set _ _ _ _ w (r1.mono (s.get 4 rfl)) (r1'.mono (s.get 4 rfl)))) rfl ?_
      refine sq_v rfl (v_not rfl) rfl ?_
      refine sq_v rfl (v_pickf rfl rfl) rfl ?_
      refine sq_end ?_
      refine qs_n ?_
      refine wp_cn _ rfl (fun c26 => ?_) (fun c26 => ?_)
      · refine wp_sc ?_
        refine wp_sq ?_
        refine sq_v rfl (v_build [.slice none 0 0, .slice none 0 0, .slice none 0 0] rfl (by kernel_rfl)) rfl ?_
        refine sq_m 0 rfl rfl (m_store 0 ty_52 rfl rfl rfl rfl (by simp [one_sl]) rfl (Nat.le_of_ble_eq_true rfl)) rfl ?_; rintro _ _ ⟨rfl, rfl⟩
        refine sq_v rfl (v_assign rfl) rfl ?_
        refine sq_end ?_
        refine qs_n ?_
        refine wp_rt ?_
        refine qs_r ?_
        exact qs_retct 0 rfl ty_52 rfl rfl rfl rfl (fin_e (i := 4) rfl (FitR.no (fun h => by first | exact tensorB_false.1 c11 h.1 | exact tensorB_false.1 c18 h.2.1 | exact setB_false.1 c26 h.2.2.1)))
      · refine wp_sk ?_
        refine qs_n ?_
        refine wp_sc ?_
        refine wp_sq ?_
        refine sq_v rfl (v_loadNB 3 ty_30 rfl rfl rfl rfl) rfl ?_
        refine sq_v rfl (v_loadNB 1 ty_52 rfl rfl rfl rfl) rfl ?_
        refine sq_v rfl (v_fieldAddr fd_52_0 ty_25 (by decide) rfl) rfl ?_
        refine sq_v rfl (v_loadB 2 ty_25 rfl rfl rfl) rfl ?_
        have h1 := tensorB_true.1 c11; have h2 := tensorB_true.1 c18; have h3 := setB_true.1 c26; have hok := fit_perm h2 h3
        refine sq_x rfl (x_call rfl en_164 (fun w s => ct_s_l06Permute _ _ _ _ _ _ _ _ _ w (r1'.mono (s.get 4 rfl)) (r2'.mono (s.get 4 rfl)) (r3'.mono (s.get 4 rfl)) (r1.mono (s.get 4 rfl)) (by first | assumption | omega))) rfl ?_; rintro _ h32 ⟨va32, vb32, vc32, rfl, o32⟩
        refine sq_x rfl (x_alloc ty_52 rfl) rfl ?_; rintro _ _ ⟨b8, rfl, rfl⟩
        refine sq_m 0 rfl rfl (m_store 0 ty_52 rfl rfl rfl rfl (by simp [o32.toR.1.sl.one, o32.toR.2.1.sl.one, o32.toR.2.2.sl.one]) rfl (Nat.le_of_ble_eq_true rfl)) rfl ?_; rintro _ _ ⟨rfl, rfl⟩
        refine sq_end ?_
        refine qs_n ?_
        refine wp_sc ?_
        refine wp_rj 6 [(0, true), (1, true), (2, true), (3, true), (4, true), (5, false), (6, false), (7, false)] mixed_ok (by kernel_rfl) ?_
        refine rj_v rfl rfl (v_loadNB 0 ty_52 rfl rfl rfl rfl) rfl ?_
        refine rj_v rfl rfl (v_fieldAddr fd_52_1 ty_25 (by decide) rfl) rfl ?_
        refine rj_v rfl rfl (v_loadB 0 ty_25 rfl rfl rfl) rfl ?_
        refine rj_v rfl rfl (v_fieldAddr fd_52_1 ty_25 (by decide) rfl) rfl ?_
        refine rj_v rfl rfl (v_loadB 4 ty_25 rfl rfl rfl) rfl ?_
        refine rj_u rfl rfl (x_callv rfl en_112 (fun w s => ct_s_l06Equal _ _ _ _ w (o32.toR.2.1.mono (s.get 1 rfl)) (r2.mono (s.get 6 rfl)))) rfl ?_
        refine rj_m 2 rfl rfl rfl rfl (m_store 2 ty_52 rfl rfl rfl rfl (by simp [o32.toR.1.sl.one, o32.toR.2.1.sl.one, o32.toR.2.2.sl.one]) rfl (Nat.le_of_ble_eq_true rfl)) rfl ?_; rintro _ _ ⟨rfl, rfl⟩
        refine rj_fv rfl rfl (v_assign rfl) rfl ?_
        refine rj_end ?_
        refine qs_n ?_
        refine wp_rt ?_
        exact qs_retct 2 rfl ty_52 rfl rfl rfl rfl (fin_t 1 (i := 6) rfl rfl rfl (⟨_, _, _, _, _, rfl, o32, ⟨fun e => ⟨h1, h2, h3, of_decide_eq_true e⟩, fun e => decide_eq_true e.2.2.2⟩, fun _ => rfl⟩))
  · refine sq_v rfl (v_not rfl) rfl ?_
    refine sq_v rfl (v_move rfl) rfl ?_
    refine sq_s rfl rfl ?_
    refine sq_s rfl rfl ?_
    refine sq_s rfl rfl ?_
    refine sq_s rfl rfl ?_
    refine sq_v rfl (v_pickt rfl rfl) rfl ?_
    refine sq_v rfl (v_move rfl) rfl ?_
    refine sq_s rfl rfl ?_
    refine sq_s rfl rfl ?_
    refine sq_s rfl rfl ?_
    refine sq_s rfl rfl ?_
    refine sq_s rfl rfl ?_
    refine sq_s rfl rfl ?_
    refine sq_v rfl (v_pickt rfl rfl) rfl ?_
    refine sq_end ?_
    refine qs_n ?_
    refine wp_ct rfl ?_
    refine wp_sc ?_
    refine wp_sq ?_
    refine sq_v rfl (v_build [.slice none 0 0, .slice none 0 0, .slice none 0 0] rfl (by kernel_rfl)) rfl ?_
    refine sq_m 0 rfl rfl (m_store 0 ty_52 rfl rfl rfl rfl (by simp [one_sl]) rfl (Nat.le_of_ble_eq_true rfl)) rfl ?_; rintro _ _ ⟨rfl, rfl⟩
    refine sq_v rfl (v_assign rfl) rfl ?_
    refine sq_end ?_
    refine qs_n ?_
    refine wp_rt ?_
    refine qs_r ?_
    exact qs_retct 0 rfl ty_52 rfl rfl rfl rfl (fin_e (i := 4) rfl (FitR.no (fun h => by first | exact tensorB_false.1 c11 h.1 | exact tensorB_false.1 c18 h.2.1 | exact setB_false.1 c26 h.2.2.1)))
theorem ct_i_alignTensor (k p n : Int) (t u : Ten) (a b c a' b' c' : Value) (w : World) (r1 : IntsR t.l a (hp w)) (r2 : IntsR t.d b (hp w)) (r3 : IntsR t.x c (hp w)) (r1' : IntsR u.l a' (hp w)) (r2' : IntsR u.d b' (hp w)) (r3' : IntsR u.x c' (hp w)) :
    Calls Try.prog 102 [ringV k p n, tenV a b c, tenV a' b' c'].toArray w (Ret w emp (FitR k p n t u)) := by
  refine calls_in Try.func102 rfl Try.ntmps102 rfl (Sat.start w) ?_
  have hle0 := r1.le
  have hle1 := r2.le
  have hle2 := r3.le
  have hle3 := r1'.le
  have hle4 := r2'.le
  have hle5 := r3'.le
  refine wp_sc ?_
  refine wp_sq ?_
  refine sq_x rfl (x_box rfl rfl) rfl ?_; rintro _ _ ⟨b3, rfl, rfl⟩
  refine sq_x rfl (x_box rfl rfl) rfl ?_; rintro _ _ ⟨b4, rfl, rfl⟩
  refine sq_x rfl (x_box rfl rfl) rfl ?_; rintro _ _ ⟨b5, rfl, rfl⟩
  refine sq_x rfl (x_alloc ty_52 rfl) rfl ?_; rintro _ _ ⟨b6, rfl, rfl⟩
  refine sq_v rfl (v_assign rfl) rfl ?_
  refine sq_end ?_
  refine qs_n ?_
  refine wp_sc ?_
  refine wp_sc ?_
  refine wp_sq ?_
  refine sq_v rfl (v_loadNB 3 ty_30 rfl rfl rfl rfl) rfl ?_
  refine sq_v rfl (v_loadNB 2 ty_52 rfl rfl rfl rfl) rfl ?_
  refine sq_u rfl (x_callv rfl en_88 (fun w s => ct_i_TensorOk _ _ _ _ _ _ _ _ _ w (r1.mono (s.get 4 rfl)) (r2.mono (s.get 4 rfl)) (r3.mono (s.get 4 rfl)))) rfl ?_
  refine sq_bb 11 rfl (fun c11 => ?_) (fun c11 => ?_)
  · refine sq_v rfl (v_not rfl) rfl ?_
    refine sq_v rfl (v_move rfl) rfl ?_
    refine sq_v rfl (v_loadNB 3 ty_30 rfl rfl rfl rfl) rfl ?_
    refine sq_v rfl (v_loadNB 1 ty_52 rfl rfl rfl rfl) rfl ?_
    refine sq_u rfl (x_callv rfl en_88 (fun w s => ct_i_TensorOk _ _ _ _ _ _ _ _ _ w (r1'.mono (s.get 4 rfl)) (r2'.mono (s.get 4 rfl)) (r3'.mono (s.get 4 rfl)))) rfl ?_
    refine sq_v rfl (v_not rfl) rfl ?_
    refine sq_v rfl (v_pickf rfl rfl) rfl ?_
    refine sq_bn 18 rfl (fun c18 => ?_) (fun c18 => ?_)
    · refine sq_v rfl (v_move rfl) rfl ?_
      refine sq_s rfl rfl ?_
      refine sq_s rfl rfl ?_
      refine sq_s rfl rfl ?_
      refine sq_s rfl rfl ?_
      refine sq_s rfl rfl ?_
      refine sq_s rfl rfl ?_
      refine sq_v rfl (v_pickt rfl rfl) rfl ?_
      refine sq_end ?_
      refine qs_n ?_
      refine wp_ct rfl ?_
      refine wp_sc ?_
      refine wp_sq ?_
      refine sq_v rfl (v_build [.slice none 0 0, .slice none 0 0, .slice none 0 0] rfl (by kernel_rfl)) rfl ?_
      refine sq_m 0 rfl rfl (m_store 0 ty_52 rfl rfl rfl rfl (by simp [one_sl]) rfl (Nat.le_of_ble_eq_true rfl)) rfl ?_; rintro _ _ ⟨rfl, rfl⟩
      refine sq_v rfl (v_assign rfl) rfl ?_
      refine sq_end ?_
      refine qs_n ?_
      refine wp_rt ?_
      refine qs_r ?_
      exact qs_retct 0 rfl ty_52 rfl rfl rfl rfl (fin_e (i := 4) rfl (FitR.no (fun h => by first | exact tensorB_false.1 c11 h.1 | exact tensorB_false.1 c18 h.2.1 | exact setB_false.1 c26 h.2.2.1)))
    · refine sq_v rfl (v_move rfl) rfl ?_
      refine sq_v rfl (v_fieldAddr fd_52_0 ty_25 (by decide) rfl) rfl ?_
      refine sq_v rfl (v_loadB 2 ty_25 rfl rfl rfl) rfl ?_
      refine sq_v rfl (v_fieldAddr fd_52_0 ty_25 (by decide) rfl) rfl ?_
      refine sq_v rfl (v_loadB 1 ty_25 rfl rfl rfl) rfl ?_
      refine sq_u rfl (x_callv rfl en_165 (fun w s => ct_i_sameLabels _ _ _ _ w (r1.mono (s.get 4 rfl)) (r1'.mono (s.get 4 rfl)))) rfl ?_
      refine sq_v rfl (v_not rfl) rfl ?_
      refine sq_v rfl (v_pickf rfl rfl) rfl ?_
      refine sq_end ?_
      refine qs_n ?_
      refine wp_cn _ rfl (fun c26 => ?_) (fun c26 => ?_)
      · refine wp_sc ?_
        refine wp_sq ?_
        refine sq_v rfl (v_build [.slice none 0 0, .slice none 0 0, .slice none 0 0] rfl (by kernel_rfl)) rfl ?_
        refine sq_m 0 rfl rfl (m_store 0 ty_52 rfl rfl rfl rfl (by simp [one_sl]) rfl (Nat.le_of_ble_eq_true rfl)) rfl ?_; rintro _ _ ⟨rfl, rfl⟩
        refine sq_v rfl (v_assign rfl) rfl ?_
        refine sq_end ?_
        refine qs_n ?_
        refine wp_rt ?_
        refine qs_r ?_
        exact qs_retct 0 rfl ty_52 rfl rfl rfl rfl (fin_e (i := 4) rfl (FitR.no (fun h => by first | exact tensorB_false.1 c11 h.1 | exact tensorB_false.1 c18 h.2.1 | exact setB_false.1 c26 h.2.2.1)))
      · refine wp_sk ?_
        refine qs_n ?_
        refine wp_sc ?_
        refine wp_sq ?_
        refine sq_v rfl (v_loadNB 3 ty_30 rfl rfl rfl rfl) rfl ?_
        refine sq_v rfl (v_loadNB 1 ty_52 rfl rfl rfl rfl) rfl ?_
        refine sq_v rfl (v_fieldAddr fd_52_0 ty_25 (by decide) rfl) rfl ?_
        refine sq_v rfl (v_loadB 2 ty_25 rfl rfl rfl) rfl ?_
        have h1 := tensorB_true.1 c11; have h2 := tensorB_true.1 c18; have h3 := setB_true.1 c26; have hok := fit_perm h2 h3
        refine sq_x rfl (x_call rfl en_166 (fun w s => ct_i_rawPermute _ _ _ _ _ _ _ _ _ w (r1'.mono (s.get 4 rfl)) (r2'.mono (s.get 4 rfl)) (r3'.mono (s.get 4 rfl)) (r1.mono (s.get 4 rfl)) (by first | assumption | omega))) rfl ?_; rintro _ h32 ⟨va32, vb32, vc32, rfl, o32⟩
        refine sq_x rfl (x_alloc ty_52 rfl) rfl ?_; rintro _ _ ⟨b8, rfl, rfl⟩
        refine sq_m 0 rfl rfl (m_store 0 ty_52 rfl rfl rfl rfl (by simp [o32.toR.1.sl.one, o32.toR.2.1.sl.one, o32.toR.2.2.sl.one]) rfl (Nat.le_of_ble_eq_true rfl)) rfl ?_; rintro _ _ ⟨rfl, rfl⟩
        refine sq_end ?_
        refine qs_n ?_
        refine wp_sc ?_
        refine wp_sc ?_
        refine wp_sq ?_
        refine sq_v rfl (v_fieldAddr fd_52_1 ty_25 (by decide) rfl) rfl ?_
        refine sq_v rfl (v_loadB 4 ty_25 rfl rfl rfl) rfl ?_
        refine sq_v rfl (v_fieldAddr fd_52_1 ty_25 (by decide) rfl) rfl ?_
        refine sq_v rfl (v_loadB 0 ty_25 rfl rfl rfl) rfl ?_
        refine sq_u rfl (x_callv rfl en_115 (fun w s => ct_i_equalInts _ _ _ _ w (r2.mono (s.get 6 rfl)) (o32.toR.2.1.mono (s.get 1 rfl)))) rfl ?_
        refine sq_v rfl (v_not rfl) rfl ?_
        refine sq_end ?_
        refine qs_n ?_
        refine wp_cnd rfl (fun c38 => ?_) (fun c38 => ?_)
        · refine wp_sc ?_
          refine wp_sq ?_
          refine sq_v rfl (v_build [.slice none 0 0, .slice none 0 0, .slice none 0 0] rfl (by kernel_rfl)) rfl ?_
          refine sq_m 2 rfl rfl (m_store 2 ty_52 rfl rfl rfl rfl (by simp [one_sl]) rfl (Nat.le_of_ble_eq_true rfl)) rfl ?_; rintro _ _ ⟨rfl, rfl⟩
          refine sq_v rfl (v_assign rfl) rfl ?_
          refine sq_end ?_
          refine qs_n ?_
          refine wp_rt ?_
          refine qs_r ?_
          exact qs_retct 2 rfl ty_52 rfl rfl rfl rfl (fin_e (i := 6) rfl (FitR.no (fun h => c38 h.2.2.2.symm)))
        · refine wp_sk ?_
          refine qs_n ?_
          refine wp_sc ?_
          refine wp_sq ?_
          refine sq_v rfl (v_loadNB 0 ty_52 rfl rfl rfl rfl) rfl ?_
          refine sq_m 2 rfl rfl (m_store 2 ty_52 rfl rfl rfl rfl (by simp [o32.toR.1.sl.one, o32.toR.2.1.sl.one, o32.toR.2.2.sl.one]) rfl (Nat.le_of_ble_eq_true rfl)) rfl ?_; rintro _ _ ⟨rfl, rfl⟩
          refine sq_v rfl (v_assign rfl) rfl ?_
          refine sq_end ?_
          refine qs_n ?_
          refine wp_rt ?_
          exact qs_retct 2 rfl ty_52 rfl rfl rfl rfl (fin_t 1 (i := 6) rfl rfl rfl (⟨_, _, _, _, true, rfl, o32, ⟨fun _ => ⟨h1, h2, h3, c38.symm⟩, fun _ => rfl⟩, fun _ => rfl⟩))
  · refine sq_v rfl (v_not rfl) rfl ?_
    refine sq_v rfl (v_move rfl) rfl ?_
    refine sq_s rfl rfl ?_
    refine sq_s rfl rfl ?_
    refine sq_s rfl rfl ?_
    refine sq_s rfl rfl ?_
    refine sq_v rfl (v_pickt rfl rfl) rfl ?_
    refine sq_v rfl (v_move rfl) rfl ?_
    refine sq_s rfl rfl ?_
    refine sq_s rfl rfl ?_
    refine sq_s rfl rfl ?_
    refine sq_s rfl rfl ?_
    refine sq_s rfl rfl ?_
    refine sq_s rfl rfl ?_
    refine sq_v rfl (v_pickt rfl rfl) rfl ?_
    refine sq_end ?_
    refine qs_n ?_
    refine wp_ct rfl ?_
    refine wp_sc ?_
    refine wp_sq ?_
    refine sq_v rfl (v_build [.slice none 0 0, .slice none 0 0, .slice none 0 0] rfl (by kernel_rfl)) rfl ?_
    refine sq_m 0 rfl rfl (m_store 0 ty_52 rfl rfl rfl rfl (by simp [one_sl]) rfl (Nat.le_of_ble_eq_true rfl)) rfl ?_; rintro _ _ ⟨rfl, rfl⟩
    refine sq_v rfl (v_assign rfl) rfl ?_
    refine sq_end ?_
    refine qs_n ?_
    refine wp_rt ?_
    refine qs_r ?_
    exact qs_retct 0 rfl ty_52 rfl rfl rfl rfl (fin_e (i := 4) rfl (FitR.no (fun h => by first | exact tensorB_false.1 c11 h.1 | exact tensorB_false.1 c18 h.2.1 | exact setB_false.1 c26 h.2.2.1)))
end Go.Proofs.Ytalfigjnaidmnaa
