/-
  The law's helpers for jobs: size, copy, comparison.
  Conditions: none.
-/
import Derived.Test.YtikeobneipjfnaaLaw5
import Derived.Test.YtikeobneipjfnaaJob
namespace Go.Proofs.Ytikeobneipjfnaa
set_option maxRecDepth 100000
open Go.RowKit
def JobO (ls : List Int) (ss : List Stp) (t : Ten) (a b c d e : Value) (h : PH) : Prop := ∃ h1 h2 h3, IntsO ls a h1 ∧ StepsO ss b h2 ∧ TriO t c d e h3 ∧ Made h [h1, h2, h3]
theorem JobO.toR {ls : List Int} {ss : List Stp} {t : Ten} {a b c d e : Value} {h : PH} (r : JobO ls ss t a b c d e h) : IntsR ls a h ∧ StepsR ss b h ∧ IntsR t.l c h ∧ IntsR t.d d h ∧ IntsR t.x e h := by
  obtain ⟨h1, h2, h3, r1, r2, r3, m⟩ := r
  have l := m.le h3 (by simp)
  exact ⟨r1.toR.mono (m.le h1 (by simp)), r2.toR.mono (m.le h2 (by simp)), r3.toR.1.mono l, r3.toR.2.1.mono l, r3.toR.2.2.mono l⟩
def JobT (ls : List Int) (ss : List Stp) (n : Int) (t : Ten) (u : Value) (h : PH) : Prop := ∃ a b c d e, u = jobV a b n c d e ∧ JobO ls ss t a b c d e h
theorem ct_l_eqJob (ls : List Int) (ss : List Stp) (n : Int) (t : Ten) (a b c d e a' b' c' d' e' : Value) (w : World) (ra : IntsR ls a (hp w)) (rb : StepsR ss b (hp w)) (rc : IntsR t.l c (hp w)) (rd : IntsR t.d d (hp w)) (re : IntsR t.x e (hp w)) (ra' : IntsR ls a' (hp w)) (rb' : StepsR ss b' (hp w)) (rc' : IntsR t.l c' (hp w)) (rd' : IntsR t.d d' (hp w)) (re' : IntsR t.x e' (hp w)) :
    Calls Try.prog 59 [jobV a b n c d e, jobV a' b' n c' d' e'].toArray w (RetV w (.bool true)) := by
  refine calls_in Try.func59 rfl Try.ntmps59 rfl (Sat.start w) ?_
  have hle0 := ra.le
  have hle1 := rb.le
  obtain ⟨cs_rb, rr_rb, hc_rb⟩ := rb.at
  have hle2 := rc.le
  have hle3 := rd.le
  have hle4 := re.le
  have hle5 := ra'.le
  have hle6 := rb'.le
  obtain ⟨cs_rb_, rr_rb_, hc_rb_⟩ := rb'.at
  have hle7 := rc'.le
  have hle8 := rd'.le
  have hle9 := re'.le
  refine wp_sc ?_
  refine wp_sq ?_
  refine sq_x rfl (x_box rfl rfl) rfl ?_; rintro _ _ ⟨b2, rfl, rfl⟩
  refine sq_x rfl (x_box rfl rfl) rfl ?_; rintro _ _ ⟨b3, rfl, rfl⟩
  refine sq_v rfl (v_assign rfl) rfl ?_
  refine sq_end ?_
  refine qs_n ?_
  refine wp_sc ?_
  refine wp_sc ?_
  refine wp_sq ?_
  refine sq_v rfl (v_fieldAddr fd_88_0 ty_24 (by decide) rfl) rfl ?_
  refine sq_v rfl (v_loadB 1 ty_24 rfl rfl rfl) rfl ?_
  refine sq_v rfl (v_fieldAddr fd_88_0 ty_24 (by decide) rfl) rfl ?_
  refine sq_v rfl (v_loadB 0 ty_24 rfl rfl rfl) rfl ?_
  refine sq_u rfl (x_callv rfl en_22 (fun w s => ct_l_eqIntS _ _ _ _ w (ra.mono (s.get 2 rfl)) (ra'.mono (s.get 2 rfl)) (by first | assumption | exact iota_held _ _ | omega | rfl))) rfl ?_
  refine sq_v rfl (v_not rfl) rfl ?_
  refine sq_end ?_
  refine qs_n ?_
  refine wp_cf rfl ?_
  refine wp_sk ?_
  refine qs_n ?_
  refine wp_sc ?_
  refine wp_sc ?_
  refine wp_sq ?_
  refine sq_v rfl (v_fieldAddr fd_88_1 ty_43 (by decide) rfl) rfl ?_
  refine sq_v rfl (v_loadB 1 ty_43 rfl rfl rfl) rfl ?_
  refine sq_v rfl (v_fieldAddr fd_88_1 ty_43 (by decide) rfl) rfl ?_
  refine sq_v rfl (v_loadB 0 ty_43 rfl rfl rfl) rfl ?_
  refine sq_u rfl (x_callv rfl en_30 (fun w s => ct_l_eqStepS _ _ _ w (rb.mono (s.get 2 rfl)) (rb'.mono (s.get 2 rfl)))) rfl ?_
  refine sq_v rfl (v_not rfl) rfl ?_
  refine sq_end ?_
  refine qs_n ?_
  refine wp_cf rfl ?_
  refine wp_sk ?_
  refine qs_n ?_
  refine wp_sc ?_
  refine wp_sc ?_
  refine wp_sq ?_
  refine sq_v rfl (v_fieldAddr fd_88_2 ty_3 (by decide) rfl) rfl ?_
  refine sq_v rfl (v_loadB 1 ty_3 rfl rfl rfl) rfl ?_
  refine sq_v rfl (v_fieldAddr fd_88_2 ty_3 (by decide) rfl) rfl ?_
  refine sq_v rfl (v_loadB 0 ty_3 rfl rfl rfl) rfl ?_
  refine sq_v rfl (v_neqs rfl rfl) rfl ?_
  refine sq_end ?_
  refine qs_n ?_
  refine wp_cf rfl ?_
  refine wp_sk ?_
  refine qs_n ?_
  refine wp_sc ?_
  refine wp_sc ?_
  refine wp_sq ?_
  refine sq_v rfl (v_fieldAddr fd_88_3 ty_28 (by decide) rfl) rfl ?_
  refine sq_v rfl (v_loadNB 1 ty_28 rfl rfl rfl rfl) rfl ?_
  refine sq_v rfl (v_fieldAddr fd_88_3 ty_28 (by decide) rfl) rfl ?_
  refine sq_v rfl (v_loadNB 0 ty_28 rfl rfl rfl rfl) rfl ?_
  refine sq_u rfl (x_callv rfl en_21 (fun w s => ct_l_eqTensor _ _ _ _ _ _ _ w (rc.mono (s.get 2 rfl)) (rd.mono (s.get 2 rfl)) (re.mono (s.get 2 rfl)) (rc'.mono (s.get 2 rfl)) (rd'.mono (s.get 2 rfl)) (re'.mono (s.get 2 rfl)))) rfl ?_
  refine sq_v rfl (v_not rfl) rfl ?_
  refine sq_end ?_
  refine qs_n ?_
  refine wp_cf rfl ?_
  refine wp_sk ?_
  refine qs_n ?_
  refine wp_sc ?_
  refine wp_sq ?_
  refine sq_v rfl (v_assign rfl) rfl ?_
  refine sq_end ?_
  refine qs_n ?_
  refine wp_rt ?_
  exact qs_ret1 rfl rfl (fin_v (i := 2) rfl)
end Go.Proofs.Ytikeobneipjfnaa
