/-
  The start of a sliced job, in the program and in the reference: the same answers.
  Conditions: none.
-/
import Derived.Test.YtikeobneipjfnaaPair2
import Derived.Test.YtikeobneipjfnaaLaw7
import Derived.Test.YtikeobneipjfnaaLaw6
import Derived.Test.YtikeobneipjfnaaRkb
namespace Go.Proofs.Ytikeobneipjfnaa
set_option maxRecDepth 100000
open Go.RowKit
def HeldJ (k : Int) (ls : List Int) (ss : List Stp) (t : Ten) (k' : Int) : Prop := ls = iota k ls.length ∧ ss = marksS (k + ls.length) ss.length ∧ HeldL (k + ls.length + 2 * ss.length) [t.l, t.d, t.x] k'
def JobM (a b c d e : Value) (k e' : Int) (u : Value) (h : PH) : Prop := u = num e' ∧ ∃ ls ss t, JobO ls ss t a b c d e h ∧ HeldJ k ls ss t e'
def JobB (ls : List Int) (ss : List Stp) (n : Int) (t : Ten) (b : Bool) (x : Value) (h : PH) : Prop := ∃ va vb vc vd ve, x = .tuple [jobV va vb n vc vd ve, .bool b].toArray ∧ JobO ls ss t va vb vc vd ve h
theorem ct_L_markJob (ls : List Int) (ss : List Stp) (n : Int) (t : Ten) (a b c d e : Value) (k : Int) (w : World) (h : PH) (hle : PLe h (hp w)) (r : JobO ls ss t a b c d e h) (hk : 0 ≤ k ∧ k + ls.length + 2 * ss.length + tenSize t ≤ 4611686018427387904) :
    Calls Try.prog 60 [jobV a b n c d e, num k].toArray w (Ret w h (JobM a b c d e k (k + ls.length + 2 * ss.length + tenSize t))) := by
  obtain ⟨h1, h2, h3, r1, r2, r3, md⟩ := r
  have htn := tenSize_nn t
  have q3 := r3.toR
  have hent : Sat w [h1, h2, h3, restP w h] w := by
    have s1 := Sat.open (A := [restP w h]) md (Sat.start2 hle)
    exact s1.pick [1, 2, 3, 0] (by decide) rfl
  refine calls_in Try.func60 rfl Try.ntmps60 rfl hent ?_
  refine wp_sc ?_
  refine wp_sq ?_
  refine sq_x rfl (x_box rfl rfl) rfl ?_; rintro _ _ ⟨b2, rfl, rfl⟩
  refine sq_v rfl (v_assign rfl) rfl ?_
  refine sq_end ?_
  refine qs_n ?_
  refine wp_sc ?_
  refine wp_sq ?_
  refine sq_v rfl (v_fieldAddr fd_88_0 ty_24 (by decide) rfl) rfl ?_
  refine sq_v rfl (v_loadB 0 ty_24 rfl rfl rfl) rfl ?_
  refine sq_v rfl (v_move rfl) rfl ?_
  refine sq_m 1 rfl rfl (x_call rfl en_24 (fun w s => ct_l_markIntS ls _ _ w _ (s.get 1 rfl) r1 (by omega))) rfl ?_; rintro _ h8 ⟨rfl, r8⟩
  refine sq_v rfl (v_assign rfl) rfl ?_
  refine sq_end ?_
  refine qs_n ?_
  refine wp_sc ?_
  refine wp_sq ?_
  refine sq_v rfl (v_fieldAddr fd_88_1 ty_43 (by decide) rfl) rfl ?_
  refine sq_v rfl (v_loadB 0 ty_43 rfl rfl rfl) rfl ?_
  refine sq_v rfl (v_move rfl) rfl ?_
  refine sq_m 2 rfl rfl (x_call rfl en_33 (fun w s => ct_l_markStepS ss _ _ w _ (s.get 2 rfl) r2 (by omega))) rfl ?_; rintro _ h12 ⟨rfl, r12⟩
  refine sq_v rfl (v_assign rfl) rfl ?_
  refine sq_end ?_
  refine qs_n ?_
  refine wp_sc ?_
  refine wp_sq ?_
  refine sq_v rfl (v_fieldAddr fd_88_3 ty_28 (by decide) rfl) rfl ?_
  refine sq_v rfl (v_loadNB 0 ty_28 rfl rfl rfl rfl) rfl ?_
  refine sq_v rfl (v_move rfl) rfl ?_
  refine sq_m 3 rfl rfl (x_call rfl en_23 (fun w s => ct_L_markTensor t _ _ _ _ w _ (s.get 3 rfl) r3 (by omega))) rfl ?_; rintro _ h16 ⟨rfl, t16, o16, hl16⟩
  refine sq_v rfl (v_assign rfl) rfl ?_
  refine sq_end ?_
  refine qs_n ?_
  refine wp_sc ?_
  refine wp_sq ?_
  refine sq_v rfl (v_move rfl) rfl ?_
  refine sq_v rfl (v_assign rfl) rfl ?_
  refine sq_end ?_
  refine qs_n ?_
  refine wp_rt ?_
  refine qs_close [restP w h] [h8, h12, h16] (fun _ s => s.pick [4, 1, 2, 3] (by decide) rfl) (fun md' => ?_)
  exact qs_ret1 rfl rfl (fin_m (i := 1) 0 rfl rfl rfl ⟨rfl, _, _, _, ⟨h8, h12, h16, r8, r12, o16, md'⟩, by simp [iota_len], by simp [iota_len, marksS_len], by rw [iota_len, marksS_len]; exact hl16⟩)
theorem ct_L_heldJob (ls : List Int) (ss : List Stp) (n : Int) (t : Ten) (a b c d e : Value) (k k' : Int) (w : World) (ra : IntsR ls a (hp w)) (rb : StepsR ss b (hp w)) (rc : IntsR t.l c (hp w)) (rd : IntsR t.d d (hp w)) (re : IntsR t.x e (hp w)) (hh : HeldJ k ls ss t k') (hk : 0 ≤ k ∧ k' ≤ 4611686018427387904) :
    Calls Try.prog 61 [jobV a b n c d e, num k].toArray w (RetV w (num k')) := by
  obtain ⟨g1, g2, g3⟩ := hh
  have g4 := g3.le
  have rb' : StepsR (marksS (k + ls.length) ss.length) b (hp w) := by rw [← g2]; exact rb
  refine calls_in Try.func61 rfl Try.ntmps61 rfl (Sat.start w) ?_
  refine wp_sc ?_
  refine wp_sq ?_
  refine sq_x rfl (x_box rfl rfl) rfl ?_; rintro _ _ ⟨b2, rfl, rfl⟩
  refine sq_v rfl (v_assign rfl) rfl ?_
  refine sq_end ?_
  refine qs_n ?_
  refine wp_sc ?_
  refine wp_sq ?_
  refine sq_v rfl (v_fieldAddr fd_88_0 ty_24 (by decide) rfl) rfl ?_
  refine sq_v rfl (v_loadB 0 ty_24 rfl rfl rfl) rfl ?_
  refine sq_v rfl (v_move rfl) rfl ?_
  refine sq_u rfl (x_callv rfl en_48 (fun w s => ct_l_heldIntS _ _ _ w (ra.mono (s.get 1 rfl)) g1 (by omega))) rfl ?_
  refine sq_v rfl (v_assign rfl) rfl ?_
  refine sq_end ?_
  refine qs_n ?_
  refine wp_sc ?_
  refine wp_sc ?_
  refine wp_sq ?_
  refine sq_v rfl (v_move rfl) rfl ?_
  refine sq_v rfl (v_lss rfl rfl) rfl ?_
  refine sq_end ?_
  refine qs_n ?_
  refine wp_cd rfl (fun c10 => ?_) (fun c10 => ?_)
  · refine wp_sc ?_
    refine wp_sq ?_
    refine sq_v rfl (v_assign rfl) rfl ?_
    refine sq_end ?_
    refine qs_n ?_
    refine wp_rt ?_
    refine qs_r ?_
    exact absurd c10 (by omega)
  · refine wp_sk ?_
    refine qs_n ?_
    refine wp_sc ?_
    refine wp_sq ?_
    refine sq_v rfl (v_fieldAddr fd_88_1 ty_43 (by decide) rfl) rfl ?_
    refine sq_v rfl (v_loadB 0 ty_43 rfl rfl rfl) rfl ?_
    refine sq_v rfl (v_move rfl) rfl ?_
    refine sq_u rfl (x_callv rfl en_34 (fun w s => ct_l_heldStepS ss.length _ _ w (rb'.mono (s.get 1 rfl)) (by omega))) rfl ?_
    refine sq_v rfl (v_assign rfl) rfl ?_
    refine sq_end ?_
    refine qs_n ?_
    refine wp_sc ?_
    refine wp_sc ?_
    refine wp_sq ?_
    refine sq_v rfl (v_move rfl) rfl ?_
    refine sq_v rfl (v_lss rfl rfl) rfl ?_
    refine sq_end ?_
    refine qs_n ?_
    refine wp_cd rfl (fun c16 => ?_) (fun c16 => ?_)
    · refine wp_sc ?_
      refine wp_sq ?_
      refine sq_v rfl (v_assign rfl) rfl ?_
      refine sq_end ?_
      refine qs_n ?_
      refine wp_rt ?_
      refine qs_r ?_
      exact absurd c16 (by omega)
    · refine wp_sk ?_
      refine qs_n ?_
      refine wp_sc ?_
      refine wp_sq ?_
      refine sq_v rfl (v_fieldAddr fd_88_3 ty_28 (by decide) rfl) rfl ?_
      refine sq_v rfl (v_loadNB 0 ty_28 rfl rfl rfl rfl) rfl ?_
      refine sq_v rfl (v_move rfl) rfl ?_
      refine sq_u rfl (x_callv rfl en_25 (fun w s => ct_L_heldTensor _ _ _ _ _ k' w (rc.mono (s.get 1 rfl)) (rd.mono (s.get 1 rfl)) (re.mono (s.get 1 rfl)) g3 (by omega))) rfl ?_
      refine sq_v rfl (v_assign rfl) rfl ?_
      refine sq_end ?_
      refine qs_n ?_
      refine wp_sc ?_
      refine wp_sc ?_
      refine wp_sq ?_
      refine sq_v rfl (v_move rfl) rfl ?_
      refine sq_v rfl (v_lss rfl rfl) rfl ?_
      refine sq_end ?_
      refine qs_n ?_
      refine wp_cd rfl (fun c22 => ?_) (fun c22 => ?_)
      · refine wp_sc ?_
        refine wp_sq ?_
        refine sq_v rfl (v_assign rfl) rfl ?_
        refine sq_end ?_
        refine qs_n ?_
        refine wp_rt ?_
        refine qs_r ?_
        exact absurd c22 (by omega)
      · refine wp_sk ?_
        refine qs_n ?_
        refine wp_sc ?_
        refine wp_sq ?_
        refine sq_v rfl (v_move rfl) rfl ?_
        refine sq_v rfl (v_assign rfl) rfl ?_
        refine sq_end ?_
        refine qs_n ?_
        refine wp_rt ?_
        exact qs_ret1 rfl rfl (fin_q (i := 1) rfl rfl)
def startP (k p n : Int) (ts : List Ten) (op ls : List Int) (ss : List Stp) : Prop := orderL k p n ts op ss ∧ slicesL k p n ts op ls
open Classical in
noncomputable def startB (k p n : Int) (ts : List Ten) (op ls : List Int) (ss : List Stp) : Bool := decide (startP k p n ts op ls ss)
open Classical in
noncomputable def startLs (k p n : Int) (ts : List Ten) (op ls : List Int) (ss : List Stp) : List Int := if startP k p n ts op ls ss then ls else []
open Classical in
noncomputable def startSs (k p n : Int) (ts : List Ten) (op ls : List Int) (ss : List Stp) : List Stp := if startP k p n ts op ls ss then ss else []
def zeroT (k p n : Int) (ts : List Ten) (op : List Int) : Ten := ⟨op, dimsFor ts op, (List.replicate (prodI (dimsFor ts op)).toNat (zeroL k p n)).flatten⟩
open Classical in
noncomputable def startT (k p n : Int) (ts : List Ten) (op ls : List Int) (ss : List Stp) : Ten := if startP k p n ts op ls ss then zeroT k p n ts op else ⟨[], [], []⟩
theorem steps_nil : StepsO [] (.slice none 0 0) emp := StepsO.nil
theorem StartNo {k p n : Int} {ts : List Ten} {op ls : List Int} {ss : List Stp} (h : ¬ startP k p n ts op ls ss) : JobB (startLs k p n ts op ls ss) (startSs k p n ts op ls ss) 0 (startT k p n ts op ls ss) (startB k p n ts op ls ss) (.tuple [jobV (.slice none 0 0) (.slice none 0 0) 0 (.slice none 0 0) (.slice none 0 0) (.slice none 0 0), .bool false].toArray) emp := by
  refine ⟨.slice none 0 0, .slice none 0 0, .slice none 0 0, .slice none 0 0, .slice none 0 0, by simp [startB, h], ?_⟩
  rw [startLs, if_neg h, startSs, if_neg h, startT, if_neg h]
  exact ⟨emp, emp, emp, IntsO.nil, StepsO.nil, ⟨emp, emp, emp, IntsO.nil, IntsO.nil, IntsO.nil, ⟨by simp [sepL, PDj.emp], fun x hx => by simp at hx; subst hx; exact PLe.emp _, fun k o e => by cases e⟩⟩, ⟨by simp [sepL, PDj.emp], fun x hx => by simp at hx; subst hx; exact PLe.emp _, fun k o e => by cases e⟩⟩
theorem StartYes {k p n : Int} {ts : List Ten} {op ls : List Int} {ss : List Stp} {a b c d e : Value} {g : PH} (h : startP k p n ts op ls ss) (r : JobO ls ss (zeroT k p n ts op) a b c d e g) : JobB (startLs k p n ts op ls ss) (startSs k p n ts op ls ss) 0 (startT k p n ts op ls ss) (startB k p n ts op ls ss) (.tuple [jobV a b 0 c d e, .bool true].toArray) g := by
  refine ⟨a, b, c, d, e, by simp [startB, h], ?_⟩
  rw [startLs, if_pos h, startSs, if_pos h, startT, if_pos h]
  exact r
theorem slice_iff {k p n : Int} {ts : List Ten} {op ls : List Int} : 0 ≤ sliceL k p n ts op ls ↔ slicesL k p n ts op ls := by
  constructor
  · intro h
    refine Classical.byContradiction fun hc => ?_
    rw [sliceL, if_neg hc] at h
    omega
  · intro h
    rw [sliceL, if_pos h]
    have := (slice_dims h).2.1
    omega
theorem ct_i_copySteps (ss : List Stp) (v : Value) (w : World) (r : StepsR ss v (hp w)) (hs : ss.length ≤ 1048576) : Calls Try.prog 148 [v].toArray w (Ret w emp (StepsO ss)) := by
  refine calls_in Try.func148 rfl Try.ntmps148 rfl (Sat.start w) ?_
  have hle0 := r.le
  obtain ⟨cs_r, rr_r, hc_r⟩ := r.at
  refine wp_sc ?_
  refine wp_sq ?_
  refine sq_v rfl (v_assign rfl) rfl ?_
  refine sq_end ?_
  refine qs_n ?_
  refine wp_sc ?_
  refine wp_sq ?_
  refine sq_v rfl (v_move rfl) rfl ?_
  refine sq_x rfl (stepx_emp (m_appS (ss := []) (us := ss) 0 (0+1) Try.underlying43 ty_114 rfl rfl rfl rfl StepsO.nil rfl r (by first | omega | (simp only [List.length_cons, List.length_nil]; omega) | (simp only [List.length_append, List.length_cons, List.length_nil]; omega) | (rw [List.length_set]; omega) | (rw [List.length_replicate]; omega) | (simp; omega)))) rfl ?_; intro v4 h4 r4
  obtain ⟨cs_S_4, rr_S_4, hc_S_4⟩ := r4.toR.at
  refine sq_v rfl (v_assign rfl) rfl ?_
  refine sq_end ?_
  refine qs_n ?_
  refine wp_rt ?_
  exact qs_ret1 rfl rfl (fin_t 0 (i := 1) rfl rfl rfl (by simpa using r4))
set_option maxHeartbeats 4000000 in
theorem ct_i_StartJob (k p n : Int) (ts : List Ten) (op ls : List Int) (ss : List Stp) (vt vo u v : Value) (w : World) (r : TensR ts vt (hp w)) (r' : IntsR op vo (hp w)) (rs : StepsR ss u (hp w)) (rl : IntsR ls v (hp w)) (hs : op.length ≤ 1048576) (hss : ss.length ≤ 1048576) :
    Calls Try.prog 58 [netV k p n vt vo, u, v].toArray w (Ret w emp (JobB (startLs k p n ts op ls ss) (startSs k p n ts op ls ss) 0 (startT k p n ts op ls ss) (startB k p n ts op ls ss))) := by
  have hsi := slice_iff (k := k) (p := p) (n := n) (ts := ts) (op := op) (ls := ls)
  have hge := slice_ge k p n ts op ls
  refine calls_in Try.func58 rfl Try.ntmps58 rfl (Sat.start w) ?_
  have hle0 := r.le
  obtain ⟨cs_r, rr_r, hc_r⟩ := r.at
  have hle1 := r'.le
  have hle2 := rs.le
  obtain ⟨cs_rs, rr_rs, hc_rs⟩ := rs.at
  have hle3 := rl.le
  refine wp_sc ?_
  refine wp_sq ?_
  refine sq_x rfl (x_box rfl rfl) rfl ?_; rintro _ _ ⟨b3, rfl, rfl⟩
  refine sq_x rfl (x_alloc ty_88 rfl) rfl ?_; rintro _ _ ⟨b6, rfl, rfl⟩
  refine sq_v rfl (v_assign rfl) rfl ?_
  refine sq_end ?_
  refine qs_n ?_
  refine wp_sc ?_
  refine wp_sc ?_
  refine wp_sq ?_
  refine sq_v rfl (v_loadNB 1 ty_48 rfl rfl rfl rfl) rfl ?_
  refine sq_v rfl (v_move rfl) rfl ?_
  refine sq_u rfl (x_callv rfl en_109 (fun w s => ct_i_OrderOk _ _ _ _ _ _ _ _ _ w (r.mono (s.get 2 rfl)) (r'.mono (s.get 2 rfl)) (rs.mono (s.get 2 rfl)) (by first | assumption | omega))) rfl ?_
  refine sq_bb 12 rfl (fun c12 => ?_) (fun c12 => ?_)
  · refine sq_v rfl (v_not rfl) rfl ?_
    refine sq_v rfl (v_move rfl) rfl ?_
    refine sq_v rfl (v_loadNB 1 ty_48 rfl rfl rfl rfl) rfl ?_
    refine sq_v rfl (v_move rfl) rfl ?_
    refine sq_u rfl (x_callv rfl en_155 (fun w s => ct_i_SliceCount _ _ _ _ _ _ _ _ _ w (r.mono (s.get 2 rfl)) (r'.mono (s.get 2 rfl)) (rl.mono (s.get 2 rfl)) (by first | assumption | omega))) rfl ?_
    refine sq_v rfl (v_eql rfl rfl) rfl ?_
    refine sq_v rfl (v_pickf rfl rfl) rfl ?_
    refine sq_end ?_
    refine qs_n ?_
    refine wp_cd rfl (fun c19 => ?_) (fun c19 => ?_)
    · refine wp_sc ?_
      refine wp_sq ?_
      refine sq_v rfl (v_build [.slice none 0 0, .slice none 0 0, num 0, .slice none 0 0, .slice none 0 0, .slice none 0 0] rfl (by kernel_rfl)) rfl ?_
      refine sq_m 0 rfl rfl (m_store 0 ty_88 rfl rfl rfl rfl (by simp [one_int, one_sl]) rfl (Nat.le_of_ble_eq_true rfl)) rfl ?_; rintro _ _ ⟨rfl, rfl⟩
      refine sq_v rfl (v_assign rfl) rfl ?_
      refine sq_end ?_
      refine qs_n ?_
      refine wp_rt ?_
      refine qs_r ?_
      exact qs_retct 0 rfl ty_88 rfl rfl rfl rfl (fin_e (i := 2) rfl (StartNo (fun h => by first | exact orderB_false.1 c12 h.1 | (have := hsi.2 h.2; omega))))
    · refine wp_sk ?_
      refine qs_n ?_
      refine wp_sc ?_
      refine wp_sq ?_
      refine sq_v rfl (v_loadNB 1 ty_48 rfl rfl rfl rfl) rfl ?_
      have hord := orderB_true.1 c12; have hnet := hord.1; have hsl := hsi.1 (by omega); have hax := (sizeI_ge.1 hnet.2.2.2.2); have hdi := axes_dims hax.1; have hring := hnet.1; have hzl := zeroL_len k p n; have hwr := width_range hring; have ho12 := hax.1.1; have hol := hax.1.2.1; have hl4 := hsl.2.1
      refine sq_x rfl (x_call rfl en_133 (fun w s => ct_i_openAxes _ _ _ _ _ _ _ w (r.mono (s.get 2 rfl)) (r'.mono (s.get 2 rfl)) (by first | assumption | omega) (by first | assumption | omega))) rfl ?_; rintro _ h22 ⟨u1, u2, rfl, ru1, ru2⟩
      refine sq_x rfl (x_alloc ty_28 rfl) rfl ?_; rintro _ _ ⟨b8, rfl, rfl⟩
      refine sq_m 0 rfl rfl (m_store 0 ty_28 rfl rfl rfl rfl (by simp [ru1.sl.one, ru2.sl.one, one_sl]) rfl (Nat.le_of_ble_eq_true rfl)) rfl ?_; rintro _ _ ⟨rfl, rfl⟩
      refine sq_end ?_
      refine qs_n ?_
      refine wp_sc ?_
      refine wp_ra (σ := Nat × PH × PH × Value × Value × Value × Value) 11 (fun z_ => IntsO (zeroL k p n) z_.2.2.2.1 z_.2.2.1 ∧ TriO ⟨op, (dimsFor ts op), (List.replicate (prodI (dimsFor ts op)).toNat (zeroL k p n)).flatten⟩ z_.2.2.2.2.1 z_.2.2.2.2.2.1 z_.2.2.2.2.2.2 z_.2.1) (fun z_ => [(1, u), (2, v), (6, .pointer (some ⟨b6, 0, none⟩)), (7, .bool false), (9, .pointer (some ⟨z_.1, 0, none⟩)), (19, .bool (decide ((sliceL k p n ts op ls : Int) = -1)))]) (fun z_ => [box z_.1 [z_.2.2.2.2.1, z_.2.2.2.2.2.1, z_.2.2.2.2.2.2] 28, z_.2.1, z_.2.2.1, box b8 [u1, u2, .slice none 0 0] 28, h22, box b6 [.slice none 0 0, .slice none 0 0, num 0, .slice none 0 0, .slice none 0 0, .slice none 0 0] 88, box b3 [num k, num p, num n, vt, vo] 48, hp w]) mixed_ok (by kernel_rfl) ?_ ?_
      · refine ra_v (i := 0) (by kernel_rfl) rfl rfl (v_fieldAddr fd_48_0 ty_30 (by decide) rfl) rfl ?_
        refine ra_v (i := 1) (by kernel_rfl) rfl rfl (v_loadNB 3 ty_30 rfl rfl rfl rfl) rfl ?_
        refine ra_v (i := 2) (by kernel_rfl) rfl rfl (v_fieldAddr fd_28_0 ty_24 (by decide) rfl) rfl ?_
        refine ra_v (i := 3) (by kernel_rfl) rfl rfl (v_loadB 0 ty_24 rfl rfl rfl) rfl ?_
        refine ra_v (i := 4) (by kernel_rfl) rfl rfl (v_fieldAddr fd_28_1 ty_24 (by decide) rfl) rfl ?_
        refine ra_v (i := 5) (by kernel_rfl) rfl rfl (v_loadB 0 ty_24 rfl rfl rfl) rfl ?_
        refine ra_v (i := 6) (by kernel_rfl) rfl rfl (v_fieldAddr fd_48_0 ty_30 (by decide) rfl) rfl ?_
        refine ra_v (i := 7) (by kernel_rfl) rfl rfl (v_loadNB 3 ty_30 rfl rfl rfl rfl) rfl ?_
        refine ra_2 (i := 8) (j := 10) (by kernel_rfl) ?_ ?_
        · refine ro_x rfl rfl (x_call rfl en_135 (fun w s => ct_i_rawZero _ _ _ w (by first | assumption | omega))) rfl ?_; rintro v31 h31 r31
          refine ra_2 (i := 9) (j := 10) (by kernel_rfl) ?_ ?_
          · refine ro_x rfl rfl (x_call rfl en_134 (fun w s => ct_i_fillTensor _ _ _ _ _ _ _ _ _ w (ru1.mono (s.get 2 rfl)) (ru2.mono (s.get 2 rfl)) (r31.toR.mono (s.get 0 rfl)) (by first | assumption | omega) (by first | assumption | omega) (by first | assumption | omega) (by first | assumption | omega) (by first | assumption | omega))) rfl ?_; rintro _ h32 ⟨va32, vb32, vc32, rfl, o32⟩
            refine ra_rj [(10, false), (11, false)] (by kernel_rfl) rfl ?_
            refine rj_x rfl rfl (x_alloc ty_28 rfl) rfl ?_; rintro _ _ ⟨b9, rfl, rfl⟩
            refine rj_m 0 rfl rfl rfl rfl (m_store 0 ty_28 rfl rfl rfl rfl (by simp [o32.toR.1.sl.one, o32.toR.2.1.sl.one, o32.toR.2.2.sl.one]) rfl (Nat.le_of_ble_eq_true rfl)) rfl ?_; rintro _ _ ⟨rfl, rfl⟩
            refine rj_end ?_
            exact qs_mid (b9, h32, h31, v31, va32, vb32, vc32) ⟨r31, o32⟩ ⟨rfl, rfl, rfl, rfl, rfl, rfl, trivial⟩ (fun _ s => s.pick [0, 1, 2, 3, 4, 5, 6, 7] (by decide) rfl)
          · refine ro_x rfl rfl (x_alloc ty_28 rfl) rfl ?_; rintro _ _ ⟨b9, rfl, rfl⟩
            refine ra_rj [(9, false), (11, false)] (by kernel_rfl) rfl ?_
            refine rj_x rfl rfl (x_call rfl en_134 (fun w s => ct_i_fillTensor _ _ _ _ _ _ _ _ _ w (ru1.mono (s.get 3 rfl)) (ru2.mono (s.get 3 rfl)) (r31.toR.mono (s.get 1 rfl)) (by first | assumption | omega) (by first | assumption | omega) (by first | assumption | omega) (by first | assumption | omega) (by first | assumption | omega))) rfl ?_; rintro _ h32 ⟨va32, vb32, vc32, rfl, o32⟩
            refine rj_m 1 rfl rfl rfl rfl (m_store 1 ty_28 rfl rfl rfl rfl (by simp [o32.toR.1.sl.one, o32.toR.2.1.sl.one, o32.toR.2.2.sl.one]) rfl (Nat.le_of_ble_eq_true rfl)) rfl ?_; rintro _ _ ⟨rfl, rfl⟩
            refine rj_end ?_
            exact qs_mid (b9, h32, h31, v31, va32, vb32, vc32) ⟨r31, o32⟩ ⟨rfl, rfl, rfl, rfl, rfl, rfl, trivial⟩ (fun _ s => s.pick [1, 0, 2, 3, 4, 5, 6, 7] (by decide) rfl)
        · refine ro_x rfl rfl (x_alloc ty_28 rfl) rfl ?_; rintro _ _ ⟨b9, rfl, rfl⟩
          refine ra_rj [(8, false), (9, false), (11, false)] (by kernel_rfl) rfl ?_
          refine rj_x rfl rfl (x_call rfl en_135 (fun w s => ct_i_rawZero _ _ _ w (by first | assumption | omega))) rfl ?_; rintro v31 h31 r31
          refine rj_x rfl rfl (x_call rfl en_134 (fun w s => ct_i_fillTensor _ _ _ _ _ _ _ _ _ w (ru1.mono (s.get 3 rfl)) (ru2.mono (s.get 3 rfl)) (r31.toR.mono (s.get 0 rfl)) (by first | assumption | omega) (by first | assumption | omega) (by first | assumption | omega) (by first | assumption | omega) (by first | assumption | omega))) rfl ?_; rintro _ h32 ⟨va32, vb32, vc32, rfl, o32⟩
          refine rj_m 2 rfl rfl rfl rfl (m_store 2 ty_28 rfl rfl rfl rfl (by simp [o32.toR.1.sl.one, o32.toR.2.1.sl.one, o32.toR.2.2.sl.one]) rfl (Nat.le_of_ble_eq_true rfl)) rfl ?_; rintro _ _ ⟨rfl, rfl⟩
          refine rj_end ?_
          exact qs_mid (b9, h32, h31, v31, va32, vb32, vc32) ⟨r31, o32⟩ ⟨rfl, rfl, rfl, rfl, rfl, rfl, trivial⟩ (fun _ s => s.pick [2, 0, 1, 3, 4, 5, 6, 7] (by decide) rfl)
      · rintro ⟨b9, h32, h31, v31, va32, vb32, vc32⟩ ⟨r31, o32⟩
        dsimp only at r31 o32 ⊢
        refine qs_n ?_
        refine wp_sc ?_
        refine wp_rj 6 [(0, true), (2, true), (4, true), (1, false), (3, false), (5, true), (6, false), (7, false)] mixed_ok (by kernel_rfl) ?_
        refine rj_v rfl rfl (v_move rfl) rfl ?_
        refine rj_v rfl rfl (v_move rfl) rfl ?_
        refine rj_v rfl rfl (v_loadNB 0 ty_28 rfl rfl rfl rfl) rfl ?_
        refine rj_x rfl rfl (x_call rfl en_91 (fun w s => ct_i_copyInts _ _ w (rl.mono (s.get 7 rfl)) (by first | assumption | omega))) rfl ?_; rintro v34 h34 r34
        refine rj_x rfl rfl (x_call rfl en_148 (fun w s => ct_i_copySteps _ _ w (rs.mono (s.get 8 rfl)) (by first | assumption | omega))) rfl ?_; rintro v36 h36 r36
        obtain ⟨cs_S_36, rr_S_36, hc_S_36⟩ := r36.toR.at
        refine rj_v rfl rfl (v_build [v34, v36, num 0, va32, vb32, vc32] rfl (by obtain ⟨_, _, rfl⟩ := r34.toR.sl; obtain ⟨_, _, rfl⟩ := r36.toR.sl; obtain ⟨_, _, rfl⟩ := o32.toR.1.sl; obtain ⟨_, _, rfl⟩ := o32.toR.2.1.sl; obtain ⟨_, _, rfl⟩ := o32.toR.2.2.sl; kernel_rfl)) rfl ?_
        refine rj_m 7 rfl rfl rfl rfl (m_store 7 ty_88 rfl rfl rfl rfl (by simp [one_int, r34.toR.sl.one, r36.toR.sl.one, o32.toR.1.sl.one, o32.toR.2.1.sl.one, o32.toR.2.2.sl.one]) rfl (Nat.le_of_ble_eq_true rfl)) rfl ?_; rintro _ _ ⟨rfl, rfl⟩
        refine rj_fv rfl rfl (v_assign rfl) rfl ?_
        refine rj_end ?_
        refine qs_n ?_
        refine wp_rt ?_
        refine qs_close [box b6 _ _, hp w] [h34, h36, h32] (fun _ s => s.pick [7, 9, 1, 0, 3] (by decide) rfl) (fun md => ?_)
        exact qs_retct 1 rfl ty_88 rfl rfl rfl rfl (fin_t 0 (i := 2) rfl rfl rfl (StartYes ⟨orderB_true.1 c12, hsi.1 (by omega)⟩ ⟨_, _, _, r34, r36, o32, md⟩))
  · refine sq_v rfl (v_not rfl) rfl ?_
    refine sq_v rfl (v_move rfl) rfl ?_
    refine sq_s rfl rfl ?_
    refine sq_s rfl rfl ?_
    refine sq_s rfl rfl ?_
    refine sq_s rfl rfl ?_
    refine sq_v rfl (v_pickt rfl rfl) rfl ?_
    refine sq_end ?_
    refine qs_n ?_
    refine wp_ct rfl ?_
    refine wp_sc ?_
    refine wp_sq ?_
    refine sq_v rfl (v_build [.slice none 0 0, .slice none 0 0, num 0, .slice none 0 0, .slice none 0 0, .slice none 0 0] rfl (by kernel_rfl)) rfl ?_
    refine sq_m 0 rfl rfl (m_store 0 ty_88 rfl rfl rfl rfl (by simp [one_int, one_sl]) rfl (Nat.le_of_ble_eq_true rfl)) rfl ?_; rintro _ _ ⟨rfl, rfl⟩
    refine sq_v rfl (v_assign rfl) rfl ?_
    refine sq_end ?_
    refine qs_n ?_
    refine wp_rt ?_
    refine qs_r ?_
    exact qs_retct 0 rfl ty_88 rfl rfl rfl rfl (fin_e (i := 2) rfl (StartNo (fun h => by first | exact orderB_false.1 c12 h.1 | (have := hsi.2 h.2; omega))))
set_option maxHeartbeats 4000000 in
theorem ct_s_StartJob (k p n : Int) (ts : List Ten) (op ls : List Int) (ss : List Stp) (vt vo u v : Value) (w : World) (r : TensR ts vt (hp w)) (r' : IntsR op vo (hp w)) (rs : StepsR ss u (hp w)) (rl : IntsR ls v (hp w)) (hs : op.length ≤ 1048576) (hss : ss.length ≤ 1048576) :
    Calls Try.prog 57 [netV k p n vt vo, u, v].toArray w (Ret w emp (JobB (startLs k p n ts op ls ss) (startSs k p n ts op ls ss) 0 (startT k p n ts op ls ss) (startB k p n ts op ls ss))) := by
  have hsi := slice_iff (k := k) (p := p) (n := n) (ts := ts) (op := op) (ls := ls)
  have hge := slice_ge k p n ts op ls
  refine calls_in Try.func57 rfl Try.ntmps57 rfl (Sat.start w) ?_
  have hle0 := r.le
  obtain ⟨cs_r, rr_r, hc_r⟩ := r.at
  have hle1 := r'.le
  have hle2 := rs.le
  obtain ⟨cs_rs, rr_rs, hc_rs⟩ := rs.at
  have hle3 := rl.le
  refine wp_sc ?_
  refine wp_sq ?_
  refine sq_x rfl (x_box rfl rfl) rfl ?_; rintro _ _ ⟨b3, rfl, rfl⟩
  refine sq_x rfl (x_alloc ty_88 rfl) rfl ?_; rintro _ _ ⟨b6, rfl, rfl⟩
  refine sq_v rfl (v_assign rfl) rfl ?_
  refine sq_end ?_
  refine qs_n ?_
  refine wp_sc ?_
  refine wp_sc ?_
  refine wp_sq ?_
  refine sq_v rfl (v_loadNB 1 ty_48 rfl rfl rfl rfl) rfl ?_
  refine sq_v rfl (v_move rfl) rfl ?_
  refine sq_u rfl (x_callv rfl en_105 (fun w s => ct_s_OrderOk _ _ _ _ _ _ _ _ _ w (r.mono (s.get 2 rfl)) (r'.mono (s.get 2 rfl)) (rs.mono (s.get 2 rfl)) (by first | assumption | omega) (by first | assumption | omega))) rfl ?_
  refine sq_bb 10 rfl (fun c10 => ?_) (fun c10 => ?_)
  · refine sq_v rfl (v_not rfl) rfl ?_
    refine sq_v rfl (v_move rfl) rfl ?_
    refine sq_v rfl (v_loadNB 1 ty_48 rfl rfl rfl rfl) rfl ?_
    refine sq_v rfl (v_move rfl) rfl ?_
    refine sq_u rfl (x_callv rfl en_154 (fun w s => ct_s_SliceCount _ _ _ _ _ _ _ _ _ w (r.mono (s.get 2 rfl)) (r'.mono (s.get 2 rfl)) (rl.mono (s.get 2 rfl)) (by first | assumption | omega))) rfl ?_
    refine sq_v rfl (v_lss rfl rfl) rfl ?_
    refine sq_v rfl (v_pickf rfl rfl) rfl ?_
    refine sq_end ?_
    refine qs_n ?_
    refine wp_cd rfl (fun c17 => ?_) (fun c17 => ?_)
    · refine wp_sc ?_
      refine wp_sq ?_
      refine sq_v rfl (v_build [.slice none 0 0, .slice none 0 0, num 0, .slice none 0 0, .slice none 0 0, .slice none 0 0] rfl (by kernel_rfl)) rfl ?_
      refine sq_m 0 rfl rfl (m_store 0 ty_88 rfl rfl rfl rfl (by simp [one_int, one_sl]) rfl (Nat.le_of_ble_eq_true rfl)) rfl ?_; rintro _ _ ⟨rfl, rfl⟩
      refine sq_v rfl (v_assign rfl) rfl ?_
      refine sq_end ?_
      refine qs_n ?_
      refine wp_rt ?_
      refine qs_r ?_
      exact qs_retct 0 rfl ty_88 rfl rfl rfl rfl (fin_e (i := 2) rfl (StartNo (fun h => by first | exact orderB_false.1 c10 h.1 | (have := hsi.2 h.2; omega))))
    · refine wp_sk ?_
      refine qs_n ?_
      refine wp_sc ?_
      refine wp_ra (σ := PH × PH × Value × PH × Value × PH × Value × Value × Value × Value × Value) 14 (fun z_ => IntsO ls z_.2.2.2.2.2.2.1 z_.2.2.2.2.2.1 ∧ StepsO (([] : List Stp) ++ ss) z_.2.2.2.2.2.2.2.1 z_.2.2.2.1 ∧ IntsO (dimsFor ts op) z_.2.2.1 z_.2.1 ∧ TriO ⟨op, (dimsFor ts op), (List.replicate (prodI (dimsFor ts op)).toNat (zeroL k p n)).flatten⟩ z_.2.2.2.2.2.2.2.2.1 z_.2.2.2.2.2.2.2.2.2.1 z_.2.2.2.2.2.2.2.2.2.2 z_.1) (fun z_ => [(6, .pointer (some ⟨b6, 0, none⟩)), (7, .bool true), (17, .bool (decide ((sliceL k p n ts op ls : Int) < 0)))]) (fun z_ => [z_.1, z_.2.1, z_.2.2.2.1, z_.2.2.2.2.2.1, box b6 [z_.2.2.2.2.2.2.1, z_.2.2.2.2.2.2.2.1, num 0, z_.2.2.2.2.2.2.2.2.1, z_.2.2.2.2.2.2.2.2.2.1, z_.2.2.2.2.2.2.2.2.2.2] 88, box b3 [num k, num p, num n, vt, vo] 48, hp w]) mixed_ok (by kernel_rfl) ?_ ?_
      · refine rak_of ?_
        have hord := orderB_true.1 c10; have hnet := hord.1; have hsl := hsi.1 (by omega); have hax := (sizeI_ge.1 hnet.2.2.2.2); have hdi := axes_dims hax.1; have hring := hnet.1; have ho12 := hax.1.1; have hol := hax.1.2.1; have hl4 := hsl.2.1; have haxs := net_ax hnet
        refine rak_v (i := 0) (by kernel_rfl) rfl rfl (v_move rfl) rfl ?_
        refine rak_v (i := 3) (by kernel_rfl) rfl rfl (v_move rfl) rfl ?_
        refine rak_v (i := 5) (by kernel_rfl) rfl rfl (v_fieldAddr fd_48_0 ty_30 (by decide) rfl) rfl ?_
        refine rak_v (i := 6) (by kernel_rfl) rfl rfl (v_loadNB 1 ty_30 rfl rfl rfl rfl) rfl ?_
        refine rak_v (i := 7) (by kernel_rfl) rfl rfl (v_fieldAddr fd_48_2 ty_24 (by decide) rfl) rfl ?_
        refine rak_v (i := 8) (by kernel_rfl) rfl rfl (v_loadB 1 ty_24 rfl rfl rfl) rfl ?_
        refine rak_v (i := 9) (by kernel_rfl) rfl rfl (v_fieldAddr fd_48_1 ty_46 (by decide) rfl) rfl ?_
        refine rak_v (i := 10) (by kernel_rfl) rfl rfl (v_loadB 1 ty_46 rfl rfl rfl) rfl ?_
        refine rak_v (i := 11) (by kernel_rfl) rfl rfl (v_fieldAddr fd_48_2 ty_24 (by decide) rfl) rfl ?_
        refine rak_v (i := 12) (by kernel_rfl) rfl rfl (v_loadB 1 ty_24 rfl rfl rfl) rfl ?_
        refine rak_2 (i := 1) (j := 2) (by kernel_rfl) ?_ ?_
        · refine rok_x rfl rfl (x_call rfl en_88 (fun w s => ct_s_l05Ints _ _ w (rl.mono (s.get 2 rfl)) (by first | assumption | omega))) rfl ?_; rintro v20 h20 r20
          refine rak_rk [(2, false), (4, false), (13, false), (14, false), (15, false), (16, false), (17, false)] (by kernel_rfl) rfl ?_
          refine rk_xb rfl rfl (x_build0 Try.underlying43 ty_114) rfl ?_; intro v21 h21 r21
          refine rk_m 0 rfl rfl rfl rfl (m_appS (ss := ([] : List Stp)) (us := ss) 0 4 Try.underlying43 ty_114 rfl rfl rfl rfl r21 rfl rs (by first | omega | (simp only [List.length_cons, List.length_nil]; omega) | (simp only [List.length_append, List.length_cons, List.length_nil]; omega) | (rw [List.length_set]; omega) | (rw [List.length_replicate]; omega) | (simp; omega))) rfl ?_; intro v23 h_r23 r23
          obtain ⟨cs_S_23, rr_S_23, hc_S_23⟩ := r23.toR.at
          refine rk_x rfl rfl (x_call rfl en_119 (fun w s => ct_s_l12Dims _ _ _ _ w (r.mono (s.get 4 rfl)) (r'.mono (s.get 4 rfl)) (by first | assumption | omega) (by first | assumption | omega))) rfl ?_; rintro v32 h32 r32
          refine rk_x rfl rfl (x_call rfl en_121 (fun w s => ct_s_l05Zero _ _ _ _ _ _ _ w (by first | assumption | omega) (r'.mono (s.get 5 rfl)) (r32.toR.mono (s.get 0 rfl)) (by first | assumption | omega) (by first | assumption | omega) (by first | assumption | omega) (by first | assumption | omega))) rfl ?_; rintro _ h33 ⟨va33, vb33, vc33, rfl, o33⟩
          refine rk_fv rfl rfl (v_build [v20, v23, num 0, va33, vb33, vc33] rfl (by obtain ⟨_, _, rfl⟩ := r20.toR.sl; obtain ⟨_, _, rfl⟩ := r23.toR.sl; obtain ⟨_, _, rfl⟩ := o33.toR.1.sl; obtain ⟨_, _, rfl⟩ := o33.toR.2.1.sl; obtain ⟨_, _, rfl⟩ := o33.toR.2.2.sl; kernel_rfl)) rfl ?_
          refine rk_mt 4 rfl rfl rfl rfl (m_store 4 ty_88 rfl rfl rfl rfl (by simp [one_int, r20.toR.sl.one, r23.toR.sl.one, o33.toR.1.sl.one, o33.toR.2.1.sl.one, o33.toR.2.2.sl.one]) rfl (Nat.le_of_ble_eq_true rfl)) rfl ?_; rintro _ _ ⟨rfl, rfl⟩
          refine rk_fv rfl rfl (v_assign rfl) rfl ?_
          refine rk_end ?_
          exact qs_mid (h33, h32, v32, h_r23, v21, h20, v20, v23, va33, vb33, vc33) ⟨r20, r23, r32, o33⟩ ⟨rfl, rfl, rfl, trivial⟩ (fun _ s => s.pick [0, 1, 2, 3, 4, 5, 6] (by decide) rfl)
        · refine rok_xb rfl rfl (x_build0 Try.underlying43 ty_114) rfl ?_; intro v21 h21 r21
          refine rak_rk [(1, false), (4, false), (13, false), (14, false), (15, false), (16, false), (17, false)] (by kernel_rfl) rfl ?_
          refine rk_x rfl rfl (x_call rfl en_88 (fun w s => ct_s_l05Ints _ _ w (rl.mono (s.get 3 rfl)) (by first | assumption | omega))) rfl ?_; rintro v20 h20 r20
          refine rk_m 1 rfl rfl rfl rfl (m_appS (ss := ([] : List Stp)) (us := ss) 1 4 Try.underlying43 ty_114 rfl rfl rfl rfl r21 rfl rs (by first | omega | (simp only [List.length_cons, List.length_nil]; omega) | (simp only [List.length_append, List.length_cons, List.length_nil]; omega) | (rw [List.length_set]; omega) | (rw [List.length_replicate]; omega) | (simp; omega))) rfl ?_; intro v23 h_r23 r23
          obtain ⟨cs_S_23, rr_S_23, hc_S_23⟩ := r23.toR.at
          refine rk_x rfl rfl (x_call rfl en_119 (fun w s => ct_s_l12Dims _ _ _ _ w (r.mono (s.get 4 rfl)) (r'.mono (s.get 4 rfl)) (by first | assumption | omega) (by first | assumption | omega))) rfl ?_; rintro v32 h32 r32
          refine rk_x rfl rfl (x_call rfl en_121 (fun w s => ct_s_l05Zero _ _ _ _ _ _ _ w (by first | assumption | omega) (r'.mono (s.get 5 rfl)) (r32.toR.mono (s.get 0 rfl)) (by first | assumption | omega) (by first | assumption | omega) (by first | assumption | omega) (by first | assumption | omega))) rfl ?_; rintro _ h33 ⟨va33, vb33, vc33, rfl, o33⟩
          refine rk_fv rfl rfl (v_build [v20, v23, num 0, va33, vb33, vc33] rfl (by obtain ⟨_, _, rfl⟩ := r20.toR.sl; obtain ⟨_, _, rfl⟩ := r23.toR.sl; obtain ⟨_, _, rfl⟩ := o33.toR.1.sl; obtain ⟨_, _, rfl⟩ := o33.toR.2.1.sl; obtain ⟨_, _, rfl⟩ := o33.toR.2.2.sl; kernel_rfl)) rfl ?_
          refine rk_mt 4 rfl rfl rfl rfl (m_store 4 ty_88 rfl rfl rfl rfl (by simp [one_int, r20.toR.sl.one, r23.toR.sl.one, o33.toR.1.sl.one, o33.toR.2.1.sl.one, o33.toR.2.2.sl.one]) rfl (Nat.le_of_ble_eq_true rfl)) rfl ?_; rintro _ _ ⟨rfl, rfl⟩
          refine rk_fv rfl rfl (v_assign rfl) rfl ?_
          refine rk_end ?_
          exact qs_mid (h33, h32, v32, h_r23, v21, h20, v20, v23, va33, vb33, vc33) ⟨r20, r23, r32, o33⟩ ⟨rfl, rfl, rfl, trivial⟩ (fun _ s => s.pick [0, 1, 3, 2, 4, 5, 6] (by decide) rfl)
      · rintro ⟨h33, h32, v32, h_r23, v21, h20, v20, v23, va33, vb33, vc33⟩ ⟨r20, r23, r32, o33⟩
        dsimp only at r20 r23 r32 o33 ⊢
        refine qs_n ?_
        refine wp_rt ?_
        refine qs_close [box b6 _ _, hp w] [h20, h_r23, h33] (fun _ s => s.pick [4, 6, 3, 2, 0] (by decide) rfl) (fun md => ?_)
        exact qs_retct 1 rfl ty_88 rfl rfl rfl rfl (fin_t 0 (i := 2) rfl rfl rfl (StartYes ⟨orderB_true.1 c10, hsi.1 (by omega)⟩ ⟨_, _, _, r20, r23, o33, md⟩))
  · refine sq_v rfl (v_not rfl) rfl ?_
    refine sq_v rfl (v_move rfl) rfl ?_
    refine sq_s rfl rfl ?_
    refine sq_s rfl rfl ?_
    refine sq_s rfl rfl ?_
    refine sq_s rfl rfl ?_
    refine sq_v rfl (v_pickt rfl rfl) rfl ?_
    refine sq_end ?_
    refine qs_n ?_
    refine wp_ct rfl ?_
    refine wp_sc ?_
    refine wp_sq ?_
    refine sq_v rfl (v_build [.slice none 0 0, .slice none 0 0, num 0, .slice none 0 0, .slice none 0 0, .slice none 0 0] rfl (by kernel_rfl)) rfl ?_
    refine sq_m 0 rfl rfl (m_store 0 ty_88 rfl rfl rfl rfl (by simp [one_int, one_sl]) rfl (Nat.le_of_ble_eq_true rfl)) rfl ?_; rintro _ _ ⟨rfl, rfl⟩
    refine sq_v rfl (v_assign rfl) rfl ?_
    refine sq_end ?_
    refine qs_n ?_
    refine wp_rt ?_
    refine qs_r ?_
    exact qs_retct 0 rfl ty_88 rfl rfl rfl rfl (fin_e (i := 2) rfl (StartNo (fun h => by first | exact orderB_false.1 c10 h.1 | (have := hsi.2 h.2; omega))))
end Go.Proofs.Ytikeobneipjfnaa
