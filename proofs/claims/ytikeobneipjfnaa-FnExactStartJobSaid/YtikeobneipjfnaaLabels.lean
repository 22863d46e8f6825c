/-
  The labels of a network and whether an assignment fits it, in the program and in the reference.
  Conditions: none.
-/
import Derived.Test.YtikeobneipjfnaaNetOk2
namespace Go.Proofs.Ytikeobneipjfnaa
set_option maxRecDepth 100000
open Go.RowKit

/-- The labels below m that occur. -/
def labelsTo (ts : List Ten) (m : Nat) : List Int := ((List.range m).map fun (i : Nat) => (i : Int)).filter fun x => decide (0 < dimOf ts x)
def labelsL (ts : List Ten) : List Int := labelsTo ts 100
theorem labels_yes {ts : List Ten} {m : Nat} (h : 0 < dimOf ts m) : labelsTo ts (m + 1) = labelsTo ts m ++ [(m : Int)] := by simp [labelsTo, List.range_succ, h]
theorem labels_no {ts : List Ten} {m : Nat} (h : ¬ 0 < dimOf ts m) : labelsTo ts (m + 1) = labelsTo ts m := by simp [labelsTo, List.range_succ, h]
theorem labels_len (ts : List Ten) (m : Nat) : (labelsTo ts m).length ≤ m := by
  have := List.length_filter_le (fun x => decide (0 < dimOf ts x)) ((List.range m).map fun (i : Nat) => (i : Int))
  simpa [labelsTo] using this
theorem mem_labels {ts : List Ten} {m : Nat} {x : Int} : x ∈ labelsTo ts m ↔ (0 ≤ x ∧ x < m) ∧ 0 < dimOf ts x := by
  simp only [labelsTo, List.mem_filter, List.mem_map, List.mem_range, decide_eq_true_eq]
  constructor
  · rintro ⟨⟨i, hi, rfl⟩, h⟩; exact ⟨by omega, h⟩
  · rintro ⟨h1, h2⟩; exact ⟨⟨x.toNat, by omega, by omega⟩, h2⟩
theorem ct_s_l12Labels (ts : List Ten) (v : Value) (w : World) (r : TensR ts v (hp w)) (hok : ∀ t ∈ ts, AxOK t) : Calls Try.prog 118 [v].toArray w (Ret w emp (IntsO (labelsL ts))) := by
  refine calls_in Try.func118 rfl Try.ntmps118 rfl (Sat.start w) ?_
  refine wp_sc ?_
  refine wp_sq ?_
  refine sq_v rfl (v_assign rfl) rfl ?_
  refine sq_end ?_
  refine qs_n ?_
  refine wp_sc ?_
  refine wp_sq ?_
  refine sq_x rfl (x_build0 Try.underlying24 ty_3) rfl ?_; intro v5 h5 (r5 : IntsO [] v5 h5)
  refine sq_v rfl (v_assign rfl) rfl ?_
  refine sq_end ?_
  refine qs_n ?_
  refine wp_sc ?_
  refine wp_sc ?_
  refine wp_sq ?_
  refine sq_v rfl (v_assign rfl) rfl ?_
  refine sq_end ?_
  refine qs_n ?_
  refine wp_bl ?_
  refine wp_lp (fun s : Nat × Value × PH => [(0, v), (3, s.2.1), (4, num s.1)]) (fun s => [s.2.2, hp w]) (fun s => s.1 ≤ 100 ∧ IntsO (labelsTo ts s.1) s.2.1 s.2.2) (fun s => 100 - s.1) (0, v5, h5) ⟨by omega, r5⟩ ⟨rfl, rfl, rfl, trivial⟩ (fun _ s => s) ?_
  rintro ⟨i, vo, ho⟩ ⟨hi, ro⟩
  dsimp only at hi ro ⊢
  have hll := labels_len ts i
  refine wp_sc ?_
  refine wp_sc ?_
  refine wp_sq ?_
  refine sq_v rfl (v_move rfl) rfl ?_
  refine sq_v rfl (v_leq rfl rfl) rfl ?_
  refine sq_end ?_
  refine qs_n ?_
  refine wp_cd rfl (fun c7 => ?_) (fun c7 => ?_)
  · refine wp_sk ?_
    refine qs_n ?_
    refine wp_sc ?_
    refine wp_bl ?_
    refine wp_sc ?_
    refine wp_sq ?_
    refine sq_v rfl (v_move rfl) rfl ?_
    refine sq_v rfl (v_move rfl) rfl ?_
    refine sq_u rfl (x_callv rfl en_184 (fun w s => ct_s_l12Dim _ _ _ w (r.mono (s.get 1 rfl)) hok)) rfl ?_
    refine sq_v rfl (v_gtr rfl rfl) rfl ?_
    refine sq_end ?_
    refine qs_n ?_
    refine wp_cd rfl (fun c13 => ?_) (fun c13 => ?_)
    · refine wp_sq ?_
      refine sq_v rfl (v_move rfl) rfl ?_
      refine sq_v rfl (v_move rfl) rfl ?_
      refine sq_x rfl (x_buildS [num ((i : Int))] Try.underlying24 ty_3 (by decide) rfl rfl rfl (by decide) (by decide) (by intro v hv; simp at hv; rcases hv with rfl <;> rfl)) rfl ?_; intro v16 h16 (r16 : IntsO [(i : Int)] v16 h16)
      refine sq_m 1 rfl rfl (m_appI 1 0 Try.underlying24 ty_3 rfl rfl rfl rfl ro rfl r16.toR (by simp only [List.length_cons, List.length_nil]; omega)) rfl ?_; intro v17 h_r17 r17
      refine sq_v rfl (v_assign rfl) rfl ?_
      refine sq_end ?_
      refine qs_bn ?_
      refine qs_n ?_
      refine wp_sq ?_
      refine sq_v rfl (v_move rfl) rfl ?_
      refine sq_v rfl (v_add rfl rfl ((by unfold I64; omega))) rfl ?_
      refine sq_v rfl (v_assign rfl) rfl ?_
      refine sq_end ?_
      exact qs_bk (i + 1, v17, h_r17) ⟨by simp only; omega, by simp only; rw [labels_yes c13]; exact r17⟩ (by simp only; omega) ⟨rfl, rfl, rfl, trivial⟩ (fun _ s => s.pick [1, 2] (by decide) rfl)
    · refine wp_sk ?_
      refine qs_bn ?_
      refine qs_n ?_
      refine wp_sq ?_
      refine sq_v rfl (v_move rfl) rfl ?_
      refine sq_v rfl (v_add rfl rfl ((by unfold I64; omega))) rfl ?_
      refine sq_v rfl (v_assign rfl) rfl ?_
      refine sq_end ?_
      exact qs_bk (i + 1, vo, ho) ⟨by simp only; omega, by simp only; rw [labels_no c13]; exact ro⟩ (by simp only; omega) ⟨rfl, rfl, rfl, trivial⟩ (fun _ s => s)
  · refine wp_ex ?_
    refine qs_x ?_
    refine qs_x ?_
    refine qs_bx ?_
    refine qs_n ?_
    refine wp_sc ?_
    refine wp_sq ?_
    refine sq_v rfl (v_move rfl) rfl ?_
    refine sq_v rfl (v_assign rfl) rfl ?_
    refine sq_end ?_
    refine qs_n ?_
    refine wp_rt ?_
    have e : i = 100 := by omega
    subst e
    exact qs_ret1 rfl rfl (fin_t 0 (i := 1) rfl rfl rfl ro)
open Classical in
noncomputable def labelsOf (k p n : Int) (ts : List Ten) (op : List Int) : List Int := if netL k p n ts op then labelsL ts else []
theorem net_ax {k p n : Int} {ts : List Ten} {op : List Int} (h : netL k p n ts op) : ∀ t ∈ ts, AxOK t := fun t ht => axes_ok (tensor_axes (h.2.2.1 t ht))
theorem netB_true {k p n : Int} {ts : List Ten} {op : List Int} : netB k p n ts op = true ↔ netL k p n ts op := by simp [netB]
theorem netB_false {k p n : Int} {ts : List Ten} {op : List Int} : netB k p n ts op = false ↔ ¬ netL k p n ts op := by simp [netB]
theorem ct_i_occurring (ts : List Ten) (arr : List Int) (w : World) (ha : arrInv ts arr) (hok : ∀ t ∈ ts, AxOK t) : Calls Try.prog 131 [.agg (ints arr).toArray].toArray w (Ret w emp (IntsO (labelsL ts))) := by
  have hal := ha.1
  refine calls_in Try.func131 rfl Try.ntmps131 rfl (Sat.start w) ?_
  refine wp_sc ?_
  refine wp_sq ?_
  refine sq_x rfl (x_box rfl rfl) rfl ?_; rintro _ _ ⟨b1, rfl, rfl⟩
  refine sq_v rfl (v_assign rfl) rfl ?_
  refine sq_end ?_
  refine qs_n ?_
  refine wp_sc ?_
  refine wp_sq ?_
  refine sq_v rfl (v_assign rfl) rfl ?_
  refine sq_end ?_
  refine qs_n ?_
  refine wp_sc ?_
  refine wp_sc ?_
  refine wp_sq ?_
  refine sq_v rfl (v_loadNB 0 ty_155 rfl rfl (by rw [ints_length]; exact hal) (by rw [List.drop_zero, List.take_of_length_le]; rw [ints_length, hal]; omega)) rfl ?_
  refine sq_v rfl (v_move rfl) rfl ?_
  refine sq_end ?_
  refine qs_n ?_
  refine wp_bl ?_
  refine wp_lp (fun s : Nat × Value × PH => [(3, s.2.1), (6, .agg (ints arr).toArray), (7, num s.1)]) (fun s => [s.2.2, hp w]) (fun s => s.1 ≤ 100 ∧ IntsO (labelsTo ts s.1) s.2.1 s.2.2) (fun s => 100 - s.1) (0, .slice none 0 0, emp) ⟨by omega, IntsO.nil⟩ ⟨rfl, rfl, rfl, trivial⟩ (fun _ s => (emp_sat s).pick [0, 2] (by decide) rfl) ?_
  rintro ⟨i, vo, ho⟩ ⟨hi, ro⟩
  dsimp only at hi ro ⊢
  have hll := labels_len ts i
  have hdr := dimOf_range hok (i : Int)
  refine wp_sc ?_
  refine wp_sq ?_
  refine sq_v rfl (v_lss rfl rfl) rfl ?_
  refine sq_end ?_
  refine qs_n ?_
  refine wp_sc ?_
  refine wp_cd rfl (fun c8 => ?_) (fun c8 => ?_)
  · refine wp_sk ?_
    refine qs_n ?_
    refine wp_sc ?_
    refine wp_bl ?_
    refine wp_sc ?_
    refine wp_sq ?_
    refine sq_v rfl (v_move rfl) rfl ?_
    have hav := ha.2 (i : Int) (by omega) (by omega)
    refine sq_v rfl (v_indexA Try.underlying155 ty_3 rfl rfl (by omega) (by omega) (aget (k := i) (by omega) (by simp))) rfl ?_
    refine sq_v rfl (v_assign rfl) rfl ?_
    refine sq_v rfl (v_assign rfl) rfl ?_
    refine sq_end ?_
    refine qs_n ?_
    refine wp_sc ?_
    refine wp_sq ?_
    refine sq_v rfl (v_move rfl) rfl ?_
    refine sq_v rfl (v_neq rfl rfl) rfl ?_
    refine sq_end ?_
    refine qs_n ?_
    refine wp_cd rfl (fun c12 => ?_) (fun c12 => ?_)
    · refine wp_sq ?_
      refine sq_v rfl (v_move rfl) rfl ?_
      refine sq_v rfl (v_move rfl) rfl ?_
      refine sq_x rfl (x_buildS [num ((i : Int))] Try.underlying24 ty_3 (by decide) rfl rfl rfl (by decide) (by decide) (by intro v hv; simp at hv; rcases hv with rfl <;> rfl)) rfl ?_; intro v15 h15 (r15 : IntsO [(i : Int)] v15 h15)
      refine sq_m 1 rfl rfl (m_appI 1 0 Try.underlying24 ty_3 rfl rfl rfl rfl ro rfl r15.toR (by simp only [List.length_cons, List.length_nil]; omega)) rfl ?_; intro v16 h_r16 r16
      refine sq_v rfl (v_assign rfl) rfl ?_
      refine sq_end ?_
      refine qs_bn ?_
      refine qs_n ?_
      refine wp_sq ?_
      refine sq_v rfl (v_add rfl rfl ((by unfold I64; omega))) rfl ?_
      refine sq_v rfl (v_move rfl) rfl ?_
      refine sq_end ?_
      exact qs_bk (i + 1, v16, h_r16) ⟨by simp only; omega, by simp only; rw [labels_yes (by rw [← hav]; simp only [Int.toNat_natCast]; rw [← hav] at hdr; simp only [Int.toNat_natCast] at hdr; omega)]; exact r16⟩ (by simp only; omega) ⟨rfl, rfl, rfl, trivial⟩ (fun _ s => s.pick [1, 2] (by decide) rfl)
    · refine wp_sk ?_
      refine qs_bn ?_
      refine qs_n ?_
      refine wp_sq ?_
      refine sq_v rfl (v_add rfl rfl ((by unfold I64; omega))) rfl ?_
      refine sq_v rfl (v_move rfl) rfl ?_
      refine sq_end ?_
      exact qs_bk (i + 1, vo, ho) ⟨by simp only; omega, by simp only; rw [labels_no (by rw [← hav]; simp only [Int.toNat_natCast]; omega)]; exact ro⟩ (by simp only; omega) ⟨rfl, rfl, rfl, trivial⟩ (fun _ s => s)
  · refine wp_ex ?_
    refine qs_x ?_
    refine qs_x ?_
    refine qs_bx ?_
    refine qs_n ?_
    refine wp_sc ?_
    refine wp_sq ?_
    refine sq_v rfl (v_move rfl) rfl ?_
    refine sq_v rfl (v_assign rfl) rfl ?_
    refine sq_end ?_
    refine qs_n ?_
    refine wp_rt ?_
    have e : i = 100 := by omega
    subst e
    exact qs_ret1 rfl rfl (fin_t 0 (i := 1) rfl rfl rfl ro)
theorem net_axes {k p n : Int} {ts : List Ten} {op : List Int} (h : netL k p n ts op) : ∀ t ∈ ts, axesL t.l t.d := fun t ht => tensor_axes (h.2.2.1 t ht)
theorem ct_i_LabelsOf (k p n : Int) (ts : List Ten) (op : List Int) (vt vo : Value) (w : World) (r : TensR ts vt (hp w)) (r' : IntsR op vo (hp w)) (hs : op.length ≤ 1048576) :
    Calls Try.prog 225 [netV k p n vt vo].toArray w (Ret w emp (IntsO (labelsOf k p n ts op))) := by
  refine calls_in Try.func225 rfl Try.ntmps225 rfl (Sat.start w) ?_
  refine wp_sc ?_
  refine wp_sq ?_
  refine sq_x rfl (x_box rfl rfl) rfl ?_; rintro _ _ ⟨b1, rfl, rfl⟩
  refine sq_v rfl (v_assign rfl) rfl ?_
  refine sq_end ?_
  refine qs_n ?_
  refine wp_sc ?_
  refine wp_sc ?_
  refine wp_sq ?_
  refine sq_v rfl (v_loadNB 0 ty_48 rfl rfl rfl rfl) rfl ?_
  refine sq_u rfl (x_callv rfl en_79 (fun w s => ct_i_NetworkOk _ _ _ _ _ _ _ w (r.mono (s.get 1 rfl)) (r'.mono (s.get 1 rfl)) hs)) rfl ?_
  refine sq_v rfl (v_not rfl) rfl ?_
  refine sq_end ?_
  refine qs_n ?_
  refine wp_cn _ rfl (fun c7 => ?_) (fun c7 => ?_)
  · refine wp_sc ?_
    refine wp_sq ?_
    refine sq_v rfl (v_assign rfl) rfl ?_
    refine sq_end ?_
    refine qs_n ?_
    refine wp_rt ?_
    refine qs_r ?_
    exact qs_ret1 rfl rfl (fin_e (i := 1) rfl (by rw [labelsOf, if_neg (netB_false.1 c7)]; exact IntsO.nil))
  · refine wp_sk ?_
    refine qs_n ?_
    refine wp_sc ?_
    refine wp_sq ?_
    refine sq_v rfl (v_fieldAddr fd_48_1 ty_46 (by decide) rfl) rfl ?_
    refine sq_v rfl (v_loadB 0 ty_46 rfl rfl rfl) rfl ?_
    have hnet := netB_true.1 c7
    refine sq_x rfl (x_call rfl en_129 (fun w s => ct_i_dimsOf _ _ w (r.mono (s.get 1 rfl)) (net_axes hnet))) rfl ?_; rintro _ h11 ⟨arr, ok, rfl, hal, hok, hav⟩
    refine sq_v rfl (v_move rfl) rfl ?_
    refine sq_v rfl (v_extract rfl rfl) rfl ?_
    refine sq_v rfl (v_extract rfl rfl) rfl ?_
    refine sq_x rfl (x_alloc ty_155 rfl) rfl ?_; rintro _ _ ⟨b3, rfl, rfl⟩
    refine sq_m 0 rfl rfl (m_storeW 0 ty_155 rfl rfl rfl (by rw [ints_length]; exact hal) (ints_one arr) rfl (by simp)) rfl ?_; rintro _ _ ⟨rfl, rfl⟩
    refine sq_v rfl (v_assign rfl) rfl ?_
    refine sq_end ?_
    refine qs_n ?_
    refine wp_sc ?_
    refine wp_sq ?_
    refine sq_v rfl (v_loadNB 0 ty_155 rfl rfl (by rw [ints_length]; exact hal) (by rw [List.drop_zero, List.take_of_length_le]; rw [ints_length, hal]; omega)) rfl ?_
    refine sq_x rfl (x_call rfl en_131 (fun w s => ct_i_occurring ts arr w (hav (hok.2 hnet.2.2.2.1)) (net_ax hnet))) rfl ?_; rintro v15 h15 r15
    refine sq_v rfl (v_assign rfl) rfl ?_
    refine sq_end ?_
    refine qs_n ?_
    refine wp_rt ?_
    exact qs_ret1 rfl rfl (fin_t 0 (i := 4) rfl rfl rfl (by rw [labelsOf, if_pos hnet]; exact r15))
def fitsL (ds vs : List Int) : Prop := vs.length = ds.length ∧ ∀ j, j < vs.length → 0 ≤ vs.getD j 0 ∧ vs.getD j 0 < ds.getD j 0
open Classical in
noncomputable def fitsB (ds vs : List Int) : Bool := decide (fitsL ds vs)
theorem fitsB_no {ds vs : List Int} (h : ¬ fitsL ds vs) : Value.bool false = .bool (fitsB ds vs) := by simp [fitsB, h]
theorem fitsB_yes {ds vs : List Int} (h : fitsL ds vs) : Value.bool true = .bool (fitsB ds vs) := by simp [fitsB, h]
def assignL (k p n : Int) (ts : List Ten) (op vs : List Int) : Prop := netL k p n ts op ∧ fitsL (dimsFor ts (labelsL ts)) vs
open Classical in
noncomputable def assignB (k p n : Int) (ts : List Ten) (op vs : List Int) : Bool := decide (assignL k p n ts op vs)
theorem assignB_true {k p n : Int} {ts : List Ten} {op vs : List Int} : assignB k p n ts op vs = true ↔ assignL k p n ts op vs := by simp [assignB]
theorem assignB_false {k p n : Int} {ts : List Ten} {op vs : List Int} : assignB k p n ts op vs = false ↔ ¬ assignL k p n ts op vs := by simp [assignB]
theorem labels_in {ts : List Ten} : ∀ x ∈ labelsL ts, 0 ≤ x ∧ x ≤ 99 := fun x hx => by
  have := (mem_labels.1 hx).1
  omega
end Go.Proofs.Ytikeobneipjfnaa
