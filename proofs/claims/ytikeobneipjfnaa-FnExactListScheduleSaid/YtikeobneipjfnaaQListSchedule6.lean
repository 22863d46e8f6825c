/-
  At every network, order and number of workers the program's ListSchedule returns what the reference's returns; the result shares no memory with an argument.
  Conditions: none.
-/
import Derived.Test.YtikeobneipjfnaaQListSchedule5
namespace Go.Proofs.Ytikeobneipjfnaa
set_option maxRecDepth 100000
open Go.RowKit
section
variable {P : Program} {n : Nat} {w0 : World} {K : Env} {HS : List PH} {d : Option Tmp} {ty : TypeId} {ps : String} {af : Array Edge} {g : Option (Nat × Bool)}
theorem v_makeF {f : Fn} {ys : Array Operand} {caps : List Value} (hev : evs K ys.toList = some caps) : StepV P n w0 K HS ⟨d, .makeFunc f #[] ys, ty, ps, af, g⟩ (.func f #[] caps.toArray) := fun a w e _ => by
  have hargs : ys.map a.eval = caps.toArray := by
    apply Array.ext'
    simpa using e.evs hev
  simp [execOp, Instr.makeFunc, hargs]
theorem x_callFv {f : FuncId} {x : Operand} {xs : Array Operand} {tys : Array TypeId} {vs caps : List Value} {u : Value} (hx : ev K x = some (.func (.func f) #[] caps.toArray)) (hev : evs K xs.toList = some vs) (hen : EnterOK P f)
    (hc : ∀ w, Sat w0 HS w → Calls P f (vs ++ caps).toArray w (RetV w u)) : StepX P n w0 K HS ⟨d, .call ⟨.value x, xs, tys⟩, ty, ps, af, g⟩ emp (fun v _ => v = u) := fun a w e s => by
  obtain ⟨fn, h1, h2, h3⟩ := hen.ok
  have hargs : xs.map a.eval = vs.toArray := by
    apply Array.ext'
    simpa using e.evs hev
  have hr : (execOp a.eval ⟨d, .call ⟨.value x, xs, tys⟩, ty, ps, af, g⟩).run P w = .ok (.enter f (vs ++ caps).toArray) w := by
    have h2' : ¬ fn.name = "runtime.NumGoroutine" := by simpa using h2
    have h3' : ¬ fn.body = none := fun hh => by rw [hh] at h3; cases h3
    simp [execOp, resolve, invoke, hargs, e.ev hx, Deferred.ofValue, callFunc, h1, h2', h3']
  unfold Oper.wp
  rw [hr]
  refine (hc w s).mono fun en w' h => ?_
  obtain ⟨v, h', he, up, t⟩ := h.ret
  subst he
  exact ⟨v, h', rfl, up, t⟩
end
open Classical in
noncomputable def handB (m : Int) (C S : List Int) (T y : Int) : Bool := decide (hand m C S T y)
theorem handB_true {m : Int} {C S : List Int} {T y : Int} : handB m C S T y = true ↔ hand m C S T y := by simp [handB]
theorem handB_false {m : Int} {C S : List Int} {T y : Int} : handB m C S T y = false ↔ ¬ hand m C S T y := by simp [handB]
theorem handB_of {m : Int} {C S : List Int} {T y : Int} {b : Bool} (h : b = true ↔ hand m C S T y) : Value.bool b = .bool (handB m C S T y) := by
  congr 1
  rw [Bool.eq_iff_iff, handB_true, h]
theorem en_111x : EnterOK Try.prog 111 := ⟨_, Try.func111, by kernel_rfl, rfl⟩
theorem ct_i_ended (y T m : Int) (S C : List Int) (vs vc : Value) (bm bs bc : Nat) (w : World) (hm : cellP (hp w) bm 0 = some (num m)) (hs : cellP (hp w) bs 0 = some vs) (hc : cellP (hp w) bc 0 = some vc) (rs : IntsR S vs (hp w)) (rc : IntsR C vc (hp w)) (hmi : 0 ≤ m ∧ m ≤ 100) (hy : y - m < S.length ∧ y - m < C.length) (hl : S.length ≤ 100) (hb : ∀ i, -1 ≤ S.getD i 0 ∧ S.getD i 0 ≤ 1000000000000) (hcb : ∀ i, 0 ≤ C.getD i 0 ∧ C.getD i 0 ≤ 1000000000) :
    Calls Try.prog 111 [num y, num T, .pointer (some ⟨bm, 0, none⟩), .pointer (some ⟨bs, 0, none⟩), .pointer (some ⟨bc, 0, none⟩)].toArray w (RetV w (.bool (handB m C S T y))) := by
  refine calls_in Try.func111 rfl Try.ntmps111 rfl (Sat.start w) ?_
  have hle0 := rs.le
  have hle1 := rc.le
  refine wp_sc ?_
  refine wp_sq ?_
  refine sq_v rfl (v_assign rfl) rfl ?_
  refine sq_end ?_
  refine qs_n ?_
  refine wp_sc ?_
  refine wp_rj 30 [(0, true), (1, true), (2, true), (3, true), (4, true), (5, true), (6, true), (7, true), (8, true), (9, true), (10, true), (11, true), (12, true), (13, true), (14, true), (15, true), (16, true), (17, true), (18, true), (19, true), (20, true), (21, true), (22, true), (23, true), (24, true), (25, true), (26, true), (27, true), (28, true), (29, true)] mixed_ok (by kernel_rfl) ?_
  refine rj_v rfl rfl (v_move rfl) rfl ?_
  refine rj_v rfl rfl (v_load 0 ty_3 rfl rfl hm) rfl ?_
  refine rj_v rfl rfl (v_lss rfl rfl) rfl ?_
  refine rj_bd 10 rfl (fun c10 => ?_) (fun c10 => ?_)
  · refine rj_v rfl rfl (v_move rfl) rfl ?_
    refine rj_s rfl rfl rfl ?_
    refine rj_s rfl rfl rfl ?_
    refine rj_s rfl rfl rfl ?_
    refine rj_s rfl rfl rfl ?_
    refine rj_s rfl rfl rfl ?_
    refine rj_s rfl rfl rfl ?_
    refine rj_s rfl rfl rfl ?_
    refine rj_s rfl rfl rfl ?_
    refine rj_s rfl rfl rfl ?_
    refine rj_s rfl rfl rfl ?_
    refine rj_s rfl rfl rfl ?_
    refine rj_s rfl rfl rfl ?_
    refine rj_s rfl rfl rfl ?_
    refine rj_s rfl rfl rfl ?_
    refine rj_s rfl rfl rfl ?_
    refine rj_s rfl rfl rfl ?_
    refine rj_s rfl rfl rfl ?_
    refine rj_s rfl rfl rfl ?_
    refine rj_s rfl rfl rfl ?_
    refine rj_s rfl rfl rfl ?_
    refine rj_s rfl rfl rfl ?_
    refine rj_s rfl rfl rfl ?_
    refine rj_s rfl rfl rfl ?_
    refine rj_s rfl rfl rfl ?_
    refine rj_v rfl rfl (v_pickt rfl rfl) rfl ?_
    refine rj_v rfl rfl (v_assign rfl) rfl ?_
    refine rj_end ?_
    refine qs_n ?_
    refine wp_rt ?_
    exact qs_ret1 rfl rfl (fin_q (i := 0) rfl (handB_of (by simp only [hand, decide_eq_true_eq, Bool.false_eq_true, eq_self, true_iff, false_iff]; omega)))
  · refine rj_v rfl rfl (v_move rfl) rfl ?_
    refine rj_v rfl rfl (v_load 0 ty_24 rfl rfl hs) rfl ?_
    refine rj_v rfl rfl (v_move rfl) rfl ?_
    refine rj_v rfl rfl (v_load 0 ty_3 rfl rfl hm) rfl ?_
    refine rj_v rfl rfl (v_sub rfl rfl ((by unfold I64; omega))) rfl ?_
    refine rj_v rfl rfl (v_idxI Try.underlying24 ty_3 rfl rfl rs (by first | omega | (simp only [List.length_cons, List.length_nil]; omega) | (simp only [List.length_append, List.length_cons, List.length_nil]; omega) | (rw [List.length_set]; omega) | (rw [List.length_replicate]; omega) | (simp; omega)) (by first | omega | (simp only [List.length_cons, List.length_nil]; omega) | (simp only [List.length_append, List.length_cons, List.length_nil]; omega) | (rw [List.length_set]; omega) | (rw [List.length_replicate]; omega) | (simp; omega))) rfl ?_
    refine rj_v rfl rfl (v_loadI  0 ty_3 rfl rfl rs (by first | omega | (simp only [List.length_cons, List.length_nil]; omega) | (simp only [List.length_append, List.length_cons, List.length_nil]; omega) | (rw [List.length_set]; omega) | (rw [List.length_replicate]; omega) | (simp; omega))) rfl ?_
    refine rj_v rfl rfl (v_geq rfl rfl) rfl ?_
    refine rj_bd 18 rfl (fun c18 => ?_) (fun c18 => ?_)
    · refine rj_v rfl rfl (v_move rfl) rfl ?_
      refine rj_v rfl rfl (v_load 0 ty_24 rfl rfl hs) rfl ?_
      refine rj_v rfl rfl (v_move rfl) rfl ?_
      refine rj_v rfl rfl (v_load 0 ty_3 rfl rfl hm) rfl ?_
      refine rj_v rfl rfl (v_sub rfl rfl ((by unfold I64; omega))) rfl ?_
      have hb0 := hb (y - m).toNat; have hc0 := hcb (y - m).toNat
      refine rj_v rfl rfl (v_idxI Try.underlying24 ty_3 rfl rfl rs (by first | omega | (simp only [List.length_cons, List.length_nil]; omega) | (simp only [List.length_append, List.length_cons, List.length_nil]; omega) | (rw [List.length_set]; omega) | (rw [List.length_replicate]; omega) | (simp; omega)) (by first | omega | (simp only [List.length_cons, List.length_nil]; omega) | (simp only [List.length_append, List.length_cons, List.length_nil]; omega) | (rw [List.length_set]; omega) | (rw [List.length_replicate]; omega) | (simp; omega))) rfl ?_
      refine rj_v rfl rfl (v_loadI  0 ty_3 rfl rfl rs (by first | omega | (simp only [List.length_cons, List.length_nil]; omega) | (simp only [List.length_append, List.length_cons, List.length_nil]; omega) | (rw [List.length_set]; omega) | (rw [List.length_replicate]; omega) | (simp; omega))) rfl ?_
      refine rj_v rfl rfl (v_load 0 ty_24 rfl rfl hc) rfl ?_
      refine rj_v rfl rfl (v_move rfl) rfl ?_
      refine rj_v rfl rfl (v_load 0 ty_3 rfl rfl hm) rfl ?_
      refine rj_v rfl rfl (v_sub rfl rfl ((by unfold I64; omega))) rfl ?_
      refine rj_v rfl rfl (v_idxI Try.underlying24 ty_3 rfl rfl rc (by first | omega | (simp only [List.length_cons, List.length_nil]; omega) | (simp only [List.length_append, List.length_cons, List.length_nil]; omega) | (rw [List.length_set]; omega) | (rw [List.length_replicate]; omega) | (simp; omega)) (by first | omega | (simp only [List.length_cons, List.length_nil]; omega) | (simp only [List.length_append, List.length_cons, List.length_nil]; omega) | (rw [List.length_set]; omega) | (rw [List.length_replicate]; omega) | (simp; omega))) rfl ?_
      refine rj_v rfl rfl (v_loadI  0 ty_3 rfl rfl rc (by first | omega | (simp only [List.length_cons, List.length_nil]; omega) | (simp only [List.length_append, List.length_cons, List.length_nil]; omega) | (rw [List.length_set]; omega) | (rw [List.length_replicate]; omega) | (simp; omega))) rfl ?_
      refine rj_v rfl rfl (v_add rfl rfl ((by unfold I64; omega))) rfl ?_
      refine rj_v rfl rfl (v_move rfl) rfl ?_
      refine rj_v rfl rfl (v_leq rfl rfl) rfl ?_
      refine rj_v rfl rfl (v_pickt rfl rfl) rfl ?_
      refine rj_v rfl rfl (v_pickf rfl rfl) rfl ?_
      refine rj_v rfl rfl (v_assign rfl) rfl ?_
      refine rj_end ?_
      refine qs_n ?_
      refine wp_rt ?_
      exact qs_ret1 rfl rfl (fin_q (i := 0) rfl (handB_of (by simp only [hand, decide_eq_true_eq, Bool.false_eq_true, eq_self, true_iff, false_iff]; omega)))
    · refine rj_v rfl rfl (v_move rfl) rfl ?_
      refine rj_s rfl rfl rfl ?_
      refine rj_s rfl rfl rfl ?_
      refine rj_s rfl rfl rfl ?_
      refine rj_s rfl rfl rfl ?_
      refine rj_s rfl rfl rfl ?_
      refine rj_s rfl rfl rfl ?_
      refine rj_s rfl rfl rfl ?_
      refine rj_s rfl rfl rfl ?_
      refine rj_s rfl rfl rfl ?_
      refine rj_s rfl rfl rfl ?_
      refine rj_s rfl rfl rfl ?_
      refine rj_s rfl rfl rfl ?_
      refine rj_s rfl rfl rfl ?_
      refine rj_s rfl rfl rfl ?_
      refine rj_s rfl rfl rfl ?_
      refine rj_v rfl rfl (v_pickf rfl rfl) rfl ?_
      refine rj_v rfl rfl (v_pickf rfl rfl) rfl ?_
      refine rj_v rfl rfl (v_assign rfl) rfl ?_
      refine rj_end ?_
      refine qs_n ?_
      refine wp_rt ?_
      exact qs_ret1 rfl rfl (fin_q (i := 0) rfl (handB_of (by simp only [hand, decide_eq_true_eq, Bool.false_eq_true, eq_self, true_iff, false_iff]; omega)))
section
variable {m : Int} {ss : List Stp} {C : List Int} {W : Int} {S : List Int} {T : Int} {n : Nat}
theorem runC_none : ∀ k, (∀ i, i < k → S.getD i 0 < 0) → runC C S T k = 0
  | 0, _ => rfl
  | k + 1, h => by
    rw [runC_no (fun hr => by have := hr.1; have := h k (by omega); omega), runC_none k (fun i hi => h i (by omega))]
theorem runC_time {T' : Int} (hT : T ≤ T') : ∀ k, runC C S T' k ≤ runC C S T k
  | 0 => Int.le_refl _
  | k + 1 => by
    have ih := runC_time hT k
    by_cases hr : runs C S T' k
    · rw [runC_yes hr, runC_yes ⟨hr.1, by have := hr.2; omega⟩]; omega
    · rw [runC_no hr]
      by_cases h2 : runs C S T k
      · rw [runC_yes h2]; omega
      · rw [runC_no h2]; exact ih
def reach (m : Int) (ss : List Stp) (C : List Int) (W : Int) (n : Nat) (S : List Int) (T : Int) : Prop := ∃ N T', mIt m ss C W n N = (S, T') ∧ (T' = T ∨ done S)
theorem reach_set {k : Nat} (hre : reach m ss C W n S T) (hl : S.length = n) (hk : k < n) (hrun : runC C S T n < W) (h0 : ∀ i, i < k → ¬ rdy m ss C S T i) (hr : rdy m ss C S T k) : reach m ss C W n (S.set k T) T := by
  obtain ⟨N, T', e, h⟩ := hre
  have hnd : ¬ done S := fun hd => by have := hd k (by omega); have := hr.1; omega
  have hT : T' = T := h.resolve_right hnd
  subst hT
  have hf := firstK_at h0 hr n hk
  refine ⟨N + 1, T', ?_, .inl rfl⟩
  rw [mIt, e, mstep, if_neg hnd]
  simp only [hl, hf]
  rw [if_neg (by omega)]
  rfl
theorem reach_next (hre : reach m ss C W n S T) (hl : S.length = n) (hc : runC C S T n = W ∨ ∀ i, i < n → ¬ rdy m ss C S T i) : reach m ss C W n S (nextT C S T n) := by
  obtain ⟨N, T', e, h⟩ := hre
  by_cases hd : done S
  · exact ⟨N, T', e, .inr hd⟩
  · have hT : T' = T := h.resolve_right hd
    subst hT
    refine ⟨N + 1, nextT C S T' n, ?_, .inl rfl⟩
    rw [mIt, e, mstep, if_neg hd]
    simp only [hl]
    rw [if_pos (by rcases hc with hc | hc; exact .inl hc; exact .inr (by rw [firstK_none n hc]; omega))]
theorem reach_done (hre : reach m ss C W n S T) (hd : done S) : listS m ss C W n = S := by
  obtain ⟨N, T', e, _⟩ := hre
  have := listS_eq (m := m) (ss := ss) (C := C) (W := W) (n := n) (i := N) (by rw [e]; exact hd)
  rw [this, e]
theorem runC_nil : ∀ {k : Nat}, (∀ i, i < k → ¬ runs C S T i) → runC C S T k = 0
  | 0, _ => rfl
  | k + 1, h => by rw [runC_no (h k (by omega)), runC_nil (fun i hi => h i (by omega))]
theorem nrdy_step {j : Nat} (h0 : ∀ i, i < j → ¬ rdy m ss C S T i) (h : ¬ rdy m ss C S T j) : ∀ i, i < j + 1 → ¬ rdy m ss C S T i := fun i hi => by
  rcases Nat.lt_or_ge i j with h' | h'
  · exact h0 i h'
  · rw [show i = j by omega]; exact h
theorem nrdy_set {j : Nat} (hj : j < S.length) (hn : S.getD j 0 < 0) (hC : 1 ≤ C.getD j 0) (hT : 0 ≤ T) (h0 : ∀ i, i < j → ¬ rdy m ss C S T i) : ∀ i, i < j + 1 → ¬ rdy m ss C (S.set j T) T i := fun i hi hr => by
  have h' := (rdy_set hj hn hC hT).1 hr
  exact h0 i (by omega) h'.1
theorem bnd_set {j : Nat} (hj : j < S.length) (hT : 0 ≤ T) (h : ∀ i, -1 ≤ S.getD i 0 ∧ S.getD i 0 ≤ T) (i : Nat) : -1 ≤ (S.set j T).getD i 0 ∧ (S.set j T).getD i 0 ≤ T := by
  by_cases e : j = i
  · subst e; rw [getD_set_self' hj]; omega
  · rw [getD_set_ne' e]; exact h i
theorem list_done (hS : S.length = n) (hss : ss.length = n) (hlt : ∀ (i : Nat) x, ss[i]? = some x → x.a < m + i ∧ x.b < m + i) (hT : 0 ≤ T) (hW : 1 ≤ W) (hn : nextT C S T n < 0) (hnr : runC C S T n < W → ∀ i, i < n → ¬ rdy m ss C S T i) : done S := by
  refine Classical.byContradiction fun hnd => ?_
  have hno : ∀ i, i < n → ¬ runs C S T i := by
    rcases nextT_at (C := C) (S := S) hT n with h | h
    · exact h.2
    · have := h.1; omega
  obtain ⟨i, hi, hr⟩ := rdy_some hS hss hlt hno hnd
  exact hnr (by rw [runC_nil hno]; omega) i hi hr
theorem rep_bounds (n i : Nat) : -1 ≤ (List.replicate n (-1 : Int)).getD i 0 ∧ (List.replicate n (-1 : Int)).getD i 0 ≤ 0 := by
  rcases Nat.lt_or_ge i n with h | h <;> simp [List.getD, h]
theorem rep_fill (n i : Nat) (h : i < n) : (List.replicate i (-1 : Int) ++ List.replicate (n - i) 0).set i (-1) = List.replicate (i + 1) (-1) ++ List.replicate (n - (i + 1)) 0 := by
  obtain ⟨j, hj⟩ : ∃ j, n - i = j + 1 := ⟨n - i - 1, by omega⟩
  rw [hj, show n - (i + 1) = j by omega, List.set_append_right _ _ (by simp), List.length_replicate, Nat.sub_self, List.replicate_succ, List.set_cons_zero, List.replicate_succ', List.append_assoc]
  rfl
end
theorem steps_lt2 {k p n : Int} {ts : List Ten} {op : List Int} {ss : List Stp} (h : orderL k p n ts op ss) (i : Nat) (x : Stp) (hx : ss[i]? = some x) : x.a < (ts.length : Int) + i ∧ x.b < (ts.length : Int) + i := by
  have hst := stepOk_at h.2.2 hx
  have hal := shTo_all (op := op) (s := sh0 ts) (ss := ss.take i)
  have hi := (List.getElem?_eq_some_iff.1 hx).1
  rw [show (sh0 ts).all.length = ts.length by simp [sh0], List.length_take] at hal
  have h1 := hst.1.2.1
  have h2 := hst.2.1.2.1
  omega
def lschP (k p n : Int) (ts : List Ten) (op : List Int) (ss : List Stp) (W : Int) : Prop := orderL k p n ts op ss ∧ 1 ≤ W ∧ W ≤ 8
open Classical in
noncomputable def lschB (k p n : Int) (ts : List Ten) (op : List Int) (ss : List Stp) (W : Int) : Bool := decide (lschP k p n ts op ss W)
open Classical in
noncomputable def lschR (k p n : Int) (ts : List Ten) (op : List Int) (ss : List Stp) (W : Int) : List Int := if lschP k p n ts op ss W then listS ts.length ss (costsL (dimOf ts) op (sh0 ts) ss) W ss.length else []
def IntsB (xs : List Int) (b : Bool) (x : Value) (h : PH) : Prop := ∃ v, x = .tuple [v, .bool b].toArray ∧ IntsO xs v h
theorem SchedNo {k p n W : Int} {ts : List Ten} {op : List Int} {ss : List Stp} (h : ¬ lschP k p n ts op ss W) : IntsB (lschR k p n ts op ss W) (lschB k p n ts op ss W) (.tuple [.slice none 0 0, .bool false].toArray) emp :=
  ⟨.slice none 0 0, by simp [lschB, h], by rw [lschR, if_neg h]; exact IntsO.nil⟩
theorem SchedYes {k p n W : Int} {ts : List Ten} {op : List Int} {ss : List Stp} {S : List Int} {v : Value} {g : PH} (h : lschP k p n ts op ss W) (e : listS ts.length ss (costsL (dimOf ts) op (sh0 ts) ss) W ss.length = S) (r : IntsO S v g) : IntsB (lschR k p n ts op ss W) (lschB k p n ts op ss W) (.tuple [v, .bool true].toArray) g :=
  ⟨v, by simp [lschB, h], by rw [lschR, if_pos h, e]; exact r⟩
set_option maxHeartbeats 4000000 in
theorem ct_i_ListSchedule (k p n W : Int) (ts : List Ten) (op : List Int) (ss : List Stp) (vt vo v : Value) (w : World) (r : TensR ts vt (hp w)) (r' : IntsR op vo (hp w)) (rv : StepsR ss v (hp w)) (hs : op.length ≤ 1048576) :
    Calls Try.prog 47 [netV k p n vt vo, v, num W].toArray w (Ret w emp (IntsB (lschR k p n ts op ss W) (lschB k p n ts op ss W))) := by
  refine calls_in Try.func47 rfl Try.ntmps47 rfl (Sat.start w) ?_
  have hle0 := r.le
  obtain ⟨cs_r, rr_r, hc_r⟩ := r.at
  have hle1 := r'.le
  have hle2 := rv.le
  obtain ⟨cs_rv, rr_rv, hc_rv⟩ := rv.at
  refine wp_sc ?_
  refine wp_sq ?_
  refine sq_x rfl (x_box rfl rfl) rfl ?_; rintro _ _ ⟨b3, rfl, rfl⟩
  refine sq_v rfl (v_assign rfl) rfl ?_
  refine sq_v rfl (v_assign rfl) rfl ?_
  refine sq_end ?_
  refine qs_n ?_
  refine wp_sc ?_
  refine wp_sc ?_
  refine wp_sq ?_
  refine sq_v rfl (v_loadNB 0 ty_48 rfl rfl rfl rfl) rfl ?_
  refine sq_v rfl (v_move rfl) rfl ?_
  refine sq_u rfl (x_callv rfl en_109 (fun w s => ct_i_OrderOk _ _ _ _ _ _ _ _ _ w (r.mono (s.get 1 rfl)) (r'.mono (s.get 1 rfl)) (rv.mono (s.get 1 rfl)) (by first | assumption | omega))) rfl ?_
  refine sq_bb 23 rfl (fun c23 => ?_) (fun c23 => ?_)
  · refine sq_v rfl (v_not rfl) rfl ?_
    refine sq_v rfl (v_move rfl) rfl ?_
    refine sq_v rfl (v_move rfl) rfl ?_
    refine sq_v rfl (v_lss rfl rfl) rfl ?_
    refine sq_v rfl (v_pickf rfl rfl) rfl ?_
    refine sq_bd 28 rfl (fun c28 => ?_) (fun c28 => ?_)
    · refine sq_v rfl (v_move rfl) rfl ?_
      refine sq_s rfl rfl ?_
      refine sq_s rfl rfl ?_
      refine sq_v rfl (v_pickt rfl rfl) rfl ?_
      refine sq_end ?_
      refine qs_n ?_
      refine wp_ct rfl ?_
      refine wp_sc ?_
      refine wp_sq ?_
      refine sq_v rfl (v_assign rfl) rfl ?_
      refine sq_v rfl (v_assign rfl) rfl ?_
      refine sq_end ?_
      refine qs_n ?_
      refine wp_rt ?_
      refine qs_r ?_
      exact qs_ret2 rfl rfl rfl (fin_e (i := 1) rfl (SchedNo (fun h => by first | exact orderB_false.1 c23 h.1 | (have := h.2; omega))))
    · refine sq_v rfl (v_move rfl) rfl ?_
      refine sq_v rfl (v_move rfl) rfl ?_
      refine sq_v rfl (v_gtr rfl rfl) rfl ?_
      refine sq_v rfl (v_pickf rfl rfl) rfl ?_
      refine sq_end ?_
      refine qs_n ?_
      refine wp_cd rfl (fun c32 => ?_) (fun c32 => ?_)
      · refine wp_sc ?_
        refine wp_sq ?_
        refine sq_v rfl (v_assign rfl) rfl ?_
        refine sq_v rfl (v_assign rfl) rfl ?_
        refine sq_end ?_
        refine qs_n ?_
        refine wp_rt ?_
        refine qs_r ?_
        exact qs_ret2 rfl rfl rfl (fin_e (i := 1) rfl (SchedNo (fun h => by first | exact orderB_false.1 c23 h.1 | (have := h.2; omega))))
      · refine wp_sk ?_
        refine qs_n ?_
        refine wp_sc ?_
        refine wp_sq ?_
        refine sq_v rfl (v_loadNB 0 ty_48 rfl rfl rfl rfl) rfl ?_
        refine sq_v rfl (v_move rfl) rfl ?_
        refine sq_x rfl (x_call rfl en_110 (fun w s => ct_i_OrderCosts _ _ _ _ _ _ _ _ _ w (r.mono (s.get 1 rfl)) (r'.mono (s.get 1 rfl)) (rv.mono (s.get 1 rfl)) (by first | assumption | omega))) rfl ?_; rintro v35 h35 r35
        refine sq_x rfl (x_alloc ty_24 rfl) rfl ?_; rintro _ _ ⟨b8, rfl, rfl⟩
        refine sq_m 0 rfl rfl (m_store1 0 ty_24 rfl rfl r35.toR.sl.one rfl (Nat.le_of_ble_eq_true rfl)) rfl ?_; rintro _ _ ⟨rfl, rfl⟩
        refine sq_end ?_
        have hord := orderB_true.1 c23
        obtain ⟨C, hC⟩ : ∃ C, C = costsL (dimOf ts) op (sh0 ts) ss := ⟨_, rfl⟩
        rw [ord_eq hord, ← hC] at r35
        have hci := costs_in hord
        rw [← hC] at hci
        have hcl : C.length = ss.length := by rw [hC, costsL_len]
        have h12 := hord.1.2.1
        have hsl := hord.2.1
        have hlt := steps_lt2 hord
        have hcb : ∀ i, 0 ≤ C.getD i 0 ∧ C.getD i 0 ≤ 1000000000 := fun i => by rcases Nat.lt_or_ge i ss.length with h' | h'; (have := hci i h'; omega); (have : C.getD i 0 = 0 := (by simp [List.getD, show C.length ≤ i by omega])); omega
        refine qs_n ?_
        refine wp_sc ?_
        refine wp_sq ?_
        refine sq_v rfl (v_fieldAddr fd_48_1 ty_46 (by decide) rfl) rfl ?_
        refine sq_v rfl (v_loadB 2 ty_46 rfl rfl rfl) rfl ?_
        refine sq_v rfl (v_len Try.underlying46 rfl r.sl) rfl ?_
        refine sq_x rfl (x_alloc ty_3 rfl) rfl ?_; rintro _ _ ⟨b9, rfl, rfl⟩
        refine sq_m 0 rfl rfl (m_store1 0 ty_3 rfl rfl rfl rfl (Nat.le_of_ble_eq_true rfl)) rfl ?_; rintro _ _ ⟨rfl, rfl⟩
        refine sq_end ?_
        refine qs_n ?_
        refine wp_sc ?_
        refine wp_sq ?_
        refine sq_v rfl (v_move rfl) rfl ?_
        refine sq_v rfl (v_len Try.underlying43 rfl rv.sl) rfl ?_
        refine sq_x rfl (x_makeI Try.underlying24 ty_3 rfl rfl (by first | omega | (simp only [List.length_cons, List.length_nil]; omega) | (simp only [List.length_append, List.length_cons, List.length_nil]; omega) | (rw [List.length_set]; omega) | (rw [List.length_replicate]; omega) | (simp; omega)) (by first | omega | (simp only [List.length_cons, List.length_nil]; omega) | (simp only [List.length_append, List.length_cons, List.length_nil]; omega) | (rw [List.length_set]; omega) | (rw [List.length_replicate]; omega) | (simp; omega)) (by first | omega | (simp only [List.length_cons, List.length_nil]; omega) | (simp only [List.length_append, List.length_cons, List.length_nil]; omega) | (rw [List.length_set]; omega) | (rw [List.length_replicate]; omega) | (simp; omega))) rfl ?_; intro v41 h41 r41
        refine sq_x rfl (x_alloc ty_24 rfl) rfl ?_; rintro _ _ ⟨b10, rfl, rfl⟩
        refine sq_m 0 rfl rfl (m_store1 0 ty_24 rfl rfl r41.toR.sl.one rfl (Nat.le_of_ble_eq_true rfl)) rfl ?_; rintro _ _ ⟨rfl, rfl⟩
        refine sq_end ?_
        refine qs_n ?_
        refine wp_sc ?_
        refine wp_sc ?_
        refine wp_sq ?_
        refine sq_v rfl (v_loadB 0 ty_24 rfl rfl rfl) rfl ?_
        refine sq_v rfl (v_len Try.underlying24 rfl r41.toR.sl) rfl ?_
        refine sq_v rfl (v_move rfl) rfl ?_
        refine sq_end ?_
        have hrl : (List.replicate ((ss.length : Int).toNat) (0 : Int)).length = ss.length := by simp
        refine qs_n ?_
        refine wp_bl ?_
        refine wp_lp (σ := Nat × PH) (fun z_ => [(1, v), (2, num W), (6, .slice none 0 0), (7, .bool false), (8, .pointer (some ⟨b8, 0, none⟩)), (9, .pointer (some ⟨b9, 0, none⟩)), (10, .pointer (some ⟨b10, 0, none⟩)), (43, num (List.replicate (ss.length : Int).toNat 0).length), (44, num z_.1)]) (fun z_ => [box b10 [v41] 24, z_.2, box b9 [num ts.length] 3, box b8 [v35] 24, h35, box b3 [num k, num p, num n, vt, vo] 48, hp w]) (fun z_ => z_.1 ≤ ss.length ∧ IntsO (List.replicate z_.1 (-1) ++ List.replicate (ss.length - z_.1) 0) v41 z_.2) (fun z_ => ss.length - z_.1) (0, h41) (⟨by (try dsimp only); omega, by (try dsimp only); simpa using r41⟩) ⟨rfl, rfl, rfl, rfl, rfl, rfl, rfl, rfl, (by first | rfl | exact ksub rfl (by first | omega | (simp; done) | (simp; omega))), trivial⟩ (fun _ s => s) ?_
        rintro ⟨i, g⟩ ⟨hi, q⟩
        dsimp only at hi q ⊢
        have hle_q := q.toR.le
        have hll : (List.replicate i (-1 : Int) ++ List.replicate (ss.length - i) 0).length = ss.length := by simp; omega
        refine wp_sc ?_
        refine wp_sq ?_
        refine sq_v rfl (v_lss rfl rfl) rfl ?_
        refine sq_end ?_
        refine qs_n ?_
        refine wp_sc ?_
        refine wp_cd rfl (fun c45 => ?_) (fun c45 => ?_)
        · refine wp_sk ?_
          refine qs_n ?_
          refine wp_sc ?_
          refine wp_bl ?_
          refine wp_sc ?_
          refine wp_sq ?_
          refine sq_v rfl (v_move rfl) rfl ?_
          refine sq_v rfl (v_assign rfl) rfl ?_
          refine sq_end ?_
          refine qs_n ?_
          refine wp_sq ?_
          refine sq_v rfl (v_loadB 0 ty_24 rfl rfl rfl) rfl ?_
          refine sq_v rfl (v_move rfl) rfl ?_
          refine sq_v rfl (v_idxI Try.underlying24 ty_3 rfl rfl q.toR (by first | omega | (simp only [List.length_cons, List.length_nil]; omega) | (simp only [List.length_append, List.length_cons, List.length_nil]; omega) | (rw [List.length_set]; omega) | (rw [List.length_replicate]; omega) | (simp; omega)) (by first | omega | (simp only [List.length_cons, List.length_nil]; omega) | (simp only [List.length_append, List.length_cons, List.length_nil]; omega) | (rw [List.length_set]; omega) | (rw [List.length_replicate]; omega) | (simp; omega))) rfl ?_
          refine sq_m 1 rfl rfl (m_storeI (k := i) 1 ty_3 rfl rfl rfl q (by first | omega | (simp only [List.length_cons, List.length_nil]; omega) | (simp only [List.length_append, List.length_cons, List.length_nil]; omega) | (rw [List.length_set]; omega) | (rw [List.length_replicate]; omega) | (simp; omega))) rfl ?_; rintro _ h_q9_3 ⟨rfl, q9_3⟩
          refine sq_end ?_
          refine qs_bn ?_
          refine qs_n ?_
          refine wp_sq ?_
          refine sq_v rfl (v_add rfl rfl ((by unfold I64; omega))) rfl ?_
          refine sq_v rfl (v_move rfl) rfl ?_
          refine sq_end ?_
          exact qs_bk (i + 1, h_q9_3) ⟨by (try dsimp only); omega, by (try dsimp only); rw [← rep_fill _ _ (by omega)]; exact q9_3⟩ (by simp only; omega) ⟨rfl, rfl, rfl, rfl, rfl, rfl, rfl, rfl, (by first | rfl | exact ksub rfl (by first | omega | (simp; done) | (simp; omega))), trivial⟩ (fun _ s => s)
        · refine wp_ex ?_
          refine qs_x ?_
          refine qs_x ?_
          refine qs_bx ?_
          refine qs_n ?_
          refine wp_sc ?_
          refine wp_sq ?_
          rw [show ss.length - i = 0 by omega, List.replicate_zero, List.append_nil, show i = ss.length by omega] at q;
          refine sq_v rfl (v_makeF rfl) rfl ?_
          refine sq_v rfl (v_assign rfl) rfl ?_
          refine sq_end ?_
          refine qs_n ?_
          refine wp_sc ?_
          refine wp_sq ?_
          refine sq_v rfl (v_assign rfl) rfl ?_
          refine sq_end ?_
          refine qs_n ?_
          refine wp_bl ?_
          refine wp_lp (σ := (List Int) × Int × PH) (fun z_ => [(1, v), (2, num W), (6, .slice none 0 0), (7, .bool false), (8, .pointer (some ⟨b8, 0, none⟩)), (10, .pointer (some ⟨b10, 0, none⟩)), (12, .func (.func 111) #[] [.pointer (some ⟨b9, 0, none⟩), .pointer (some ⟨b10, 0, none⟩), .pointer (some ⟨b8, 0, none⟩)].toArray), (13, num z_.2.1)]) (fun z_ => [box b10 [v41] 24, z_.2.2, box b9 [num ts.length] 3, box b8 [v35] 24, h35, box b3 [num k, num p, num n, vt, vo] 48, hp w]) (fun z_ => z_.1.length = ss.length ∧ reach ts.length ss C W ss.length z_.1 z_.2.1 ∧ (∀ i, -1 ≤ z_.1.getD i 0 ∧ z_.1.getD i 0 ≤ z_.2.1) ∧ (0 ≤ z_.2.1 ∧ z_.2.1 + 1000000000 * (mu C z_.1 z_.2.1 ss.length : Int) ≤ 1000000000 * (2 * ss.length)) ∧ runC C z_.1 z_.2.1 ss.length ≤ W ∧ IntsO z_.1 v41 z_.2.2) (fun z_ => mu C z_.1 z_.2.1 ss.length) ((List.replicate ss.length (-1)), 0, g) (⟨by (try dsimp only); simp, ⟨0, 0, rfl, .inl rfl⟩, fun i => rep_bounds _ _, by (try dsimp only); have := mu_le (C := C) (S := List.replicate ss.length (-1)) (T := 0) ss.length; omega, by (try dsimp only); rw [runC_none _ (fun i hi => by simp [List.getD, hi])]; omega, q⟩) ⟨rfl, rfl, rfl, rfl, rfl, rfl, rfl, (by first | rfl | exact ksub rfl (by first | omega | (simp; done) | (simp; omega))), trivial⟩ (fun _ s => s) ?_
          rintro ⟨S, now, g2⟩ ⟨hSl, hre, hSb, hnow, hrun, q2⟩
          dsimp only at hSl hre hSb hnow hrun q2 ⊢
          have hle_q2 := q2.toR.le
          refine wp_bl ?_
          refine wp_sc ?_
          refine wp_sq ?_
          refine sq_v rfl (v_assign rfl) rfl ?_
          refine sq_end ?_
          refine qs_n ?_
          refine wp_sc ?_
          refine wp_sc ?_
          refine wp_sq ?_
          refine sq_v rfl (v_move rfl) rfl ?_
          refine sq_v rfl (v_len Try.underlying43 rfl rv.sl) rfl ?_
          refine sq_v rfl (v_move rfl) rfl ?_
          refine sq_end ?_
          refine qs_n ?_
          refine wp_bl ?_
          refine wp_lp (σ := Nat × Int) (fun z_ => [(1, v), (2, num W), (6, .slice none 0 0), (7, .bool false), (8, .pointer (some ⟨b8, 0, none⟩)), (10, .pointer (some ⟨b10, 0, none⟩)), (12, .func (.func 111) #[] [.pointer (some ⟨b9, 0, none⟩), .pointer (some ⟨b10, 0, none⟩), .pointer (some ⟨b8, 0, none⟩)].toArray), (13, num now), (14, num z_.2), (52, v), (53, num ss.length), (54, num z_.1)]) (fun z_ => [box b10 [v41] 24, g2, box b9 [num ts.length] 3, box b8 [v35] 24, h35, box b3 [num k, num p, num n, vt, vo] 48, hp w]) (fun z_ => z_.1 ≤ ss.length ∧ z_.2 = runC C S now z_.1) (fun z_ => ss.length - z_.1) (0, 0) (⟨by (try dsimp only); omega, rfl⟩) ⟨rfl, rfl, rfl, rfl, rfl, rfl, rfl, rfl, (by first | rfl | exact ksub rfl (by first | omega | (simp; done) | (simp; omega))), rfl, rfl, (by first | rfl | exact ksub rfl (by first | omega | (simp; done) | (simp; omega))), trivial⟩ (fun _ s => s) ?_
          rintro ⟨i, c⟩ ⟨hi, hc⟩
          dsimp only at hi hc ⊢
          have hrb := runC_in (C := C) (S := S) (T := now) i
          have hSi := hSb i
          have hCi := hcb i
          refine wp_sc ?_
          refine wp_sq ?_
          refine sq_v rfl (v_lss rfl rfl) rfl ?_
          refine sq_end ?_
          refine qs_n ?_
          refine wp_sc ?_
          refine wp_cd rfl (fun c55 => ?_) (fun c55 => ?_)
          · refine wp_sk ?_
            refine qs_n ?_
            refine wp_sc ?_
            refine wp_bl ?_
            refine wp_sc ?_
            refine wp_sq ?_
            refine sq_v rfl (v_move rfl) rfl ?_
            refine sq_v rfl (v_assign rfl) rfl ?_
            refine sq_end ?_
            refine qs_n ?_
            refine wp_sc ?_
            refine wp_rj 18 [(0, true), (1, true), (2, true), (3, true), (4, true), (5, true), (6, true), (7, true), (8, true), (9, true), (10, true), (11, true), (12, true), (13, true), (14, true), (15, true), (16, true), (17, true)] mixed_ok (by kernel_rfl) ?_
            refine rj_v rfl rfl (v_loadB 0 ty_24 rfl rfl rfl) rfl ?_
            refine rj_v rfl rfl (v_move rfl) rfl ?_
            refine rj_v rfl rfl (v_idxI Try.underlying24 ty_3 rfl rfl q2.toR (by first | omega | (simp only [List.length_cons, List.length_nil]; omega) | (simp only [List.length_append, List.length_cons, List.length_nil]; omega) | (rw [List.length_set]; omega) | (rw [List.length_replicate]; omega) | (simp; omega)) (by first | omega | (simp only [List.length_cons, List.length_nil]; omega) | (simp only [List.length_append, List.length_cons, List.length_nil]; omega) | (rw [List.length_set]; omega) | (rw [List.length_replicate]; omega) | (simp; omega))) rfl ?_
            refine rj_v rfl rfl (v_loadI (k := i) 1 ty_3 rfl rfl q2.toR (by first | omega | (simp only [List.length_cons, List.length_nil]; omega) | (simp only [List.length_append, List.length_cons, List.length_nil]; omega) | (rw [List.length_set]; omega) | (rw [List.length_replicate]; omega) | (simp; omega))) rfl ?_
            refine rj_v rfl rfl (v_geq rfl rfl) rfl ?_
            refine rj_bd 61 rfl (fun c61 => ?_) (fun c61 => ?_)
            · refine rj_v rfl rfl (v_move rfl) rfl ?_
              refine rj_v rfl rfl (v_loadB 0 ty_24 rfl rfl rfl) rfl ?_
              refine rj_v rfl rfl (v_move rfl) rfl ?_
              refine rj_v rfl rfl (v_idxI Try.underlying24 ty_3 rfl rfl q2.toR (by first | omega | (simp only [List.length_cons, List.length_nil]; omega) | (simp only [List.length_append, List.length_cons, List.length_nil]; omega) | (rw [List.length_set]; omega) | (rw [List.length_replicate]; omega) | (simp; omega)) (by first | omega | (simp only [List.length_cons, List.length_nil]; omega) | (simp only [List.length_append, List.length_cons, List.length_nil]; omega) | (rw [List.length_set]; omega) | (rw [List.length_replicate]; omega) | (simp; omega))) rfl ?_
              refine rj_v rfl rfl (v_loadI (k := i) 1 ty_3 rfl rfl q2.toR (by first | omega | (simp only [List.length_cons, List.length_nil]; omega) | (simp only [List.length_append, List.length_cons, List.length_nil]; omega) | (rw [List.length_set]; omega) | (rw [List.length_replicate]; omega) | (simp; omega))) rfl ?_
              refine rj_v rfl rfl (v_loadB 3 ty_24 rfl rfl rfl) rfl ?_
              refine rj_v rfl rfl (v_move rfl) rfl ?_
              refine rj_v rfl rfl (v_idxI Try.underlying24 ty_3 rfl rfl r35.toR (by first | omega | (simp only [List.length_cons, List.length_nil]; omega) | (simp only [List.length_append, List.length_cons, List.length_nil]; omega) | (rw [List.length_set]; omega) | (rw [List.length_replicate]; omega) | (simp; omega)) (by first | omega | (simp only [List.length_cons, List.length_nil]; omega) | (simp only [List.length_append, List.length_cons, List.length_nil]; omega) | (rw [List.length_set]; omega) | (rw [List.length_replicate]; omega) | (simp; omega))) rfl ?_
              refine rj_v rfl rfl (v_loadI (k := i) 4 ty_3 rfl rfl r35.toR (by first | omega | (simp only [List.length_cons, List.length_nil]; omega) | (simp only [List.length_append, List.length_cons, List.length_nil]; omega) | (rw [List.length_set]; omega) | (rw [List.length_replicate]; omega) | (simp; omega))) rfl ?_
              refine rj_v rfl rfl (v_add rfl rfl ((by unfold I64; omega))) rfl ?_
              refine rj_v rfl rfl (v_move rfl) rfl ?_
              refine rj_v rfl rfl (v_gtr rfl rfl) rfl ?_
              refine rj_v rfl rfl (v_pickt rfl rfl) rfl ?_
              refine rj_end ?_
              refine qs_n ?_
              refine wp_cd rfl (fun c74 => ?_) (fun c74 => ?_)
              · refine wp_sq ?_
                refine sq_v rfl (v_move rfl) rfl ?_
                refine sq_v rfl (v_add rfl rfl ((by unfold I64; omega))) rfl ?_
                refine sq_v rfl (v_assign rfl) rfl ?_
                refine sq_end ?_
                refine qs_bn ?_
                refine qs_n ?_
                refine wp_sq ?_
                refine sq_v rfl (v_add rfl rfl ((by unfold I64; omega))) rfl ?_
                refine sq_v rfl (v_move rfl) rfl ?_
                refine sq_end ?_
                exact qs_bk (i + 1, c + 1) ⟨by (try dsimp only); omega, by (try dsimp only); rw [runC_yes ⟨by omega, by omega⟩, hc]⟩ (by simp only; omega) ⟨rfl, rfl, rfl, rfl, rfl, rfl, rfl, rfl, (by first | rfl | exact ksub rfl (by first | omega | (simp; done) | (simp; omega))), rfl, rfl, (by first | rfl | exact ksub rfl (by first | omega | (simp; done) | (simp; omega))), trivial⟩ (fun _ s => s)
              · refine wp_sk ?_
                refine qs_bn ?_
                refine qs_n ?_
                refine wp_sq ?_
                refine sq_v rfl (v_add rfl rfl ((by unfold I64; omega))) rfl ?_
                refine sq_v rfl (v_move rfl) rfl ?_
                refine sq_end ?_
                exact qs_bk (i + 1, c) ⟨by (try dsimp only); omega, by (try dsimp only); rw [runC_no (fun h => by have := h.2; omega), hc]⟩ (by simp only; omega) ⟨rfl, rfl, rfl, rfl, rfl, rfl, rfl, rfl, (by first | rfl | exact ksub rfl (by first | omega | (simp; done) | (simp; omega))), rfl, rfl, (by first | rfl | exact ksub rfl (by first | omega | (simp; done) | (simp; omega))), trivial⟩ (fun _ s => s)
            · refine rj_v rfl rfl (v_move rfl) rfl ?_
              refine rj_s rfl rfl rfl ?_
              refine rj_s rfl rfl rfl ?_
              refine rj_s rfl rfl rfl ?_
              refine rj_s rfl rfl rfl ?_
              refine rj_s rfl rfl rfl ?_
              refine rj_s rfl rfl rfl ?_
              refine rj_s rfl rfl rfl ?_
              refine rj_s rfl rfl rfl ?_
              refine rj_s rfl rfl rfl ?_
              refine rj_s rfl rfl rfl ?_
              refine rj_s rfl rfl rfl ?_
              refine rj_v rfl rfl (v_pickf rfl rfl) rfl ?_
              refine rj_end ?_
              refine qs_n ?_
              refine wp_cf rfl ?_
              refine wp_sk ?_
              refine qs_bn ?_
              refine qs_n ?_
              refine wp_sq ?_
              refine sq_v rfl (v_add rfl rfl ((by unfold I64; omega))) rfl ?_
              refine sq_v rfl (v_move rfl) rfl ?_
              refine sq_end ?_
              exact qs_bk (i + 1, c) ⟨by (try dsimp only); omega, by (try dsimp only); rw [runC_no (fun h => by have := h.1; omega), hc]⟩ (by simp only; omega) ⟨rfl, rfl, rfl, rfl, rfl, rfl, rfl, rfl, (by first | rfl | exact ksub rfl (by first | omega | (simp; done) | (simp; omega))), rfl, rfl, (by first | rfl | exact ksub rfl (by first | omega | (simp; done) | (simp; omega))), trivial⟩ (fun _ s => s)
          · refine wp_ex ?_
            refine qs_x ?_
            refine qs_x ?_
            refine qs_bx ?_
            refine qs_n ?_
            refine wp_sc ?_
            refine wp_sc ?_
            refine wp_sq ?_
            refine sq_v rfl (v_move rfl) rfl ?_
            refine sq_v rfl (v_len Try.underlying43 rfl rv.sl) rfl ?_
            refine sq_v rfl (v_move rfl) rfl ?_
            refine sq_end ?_
            refine qs_n ?_
            refine wp_bl ?_
            refine wp_lp (σ := Nat × Int × (List Int) × PH) (fun z_ => [(1, v), (2, num W), (6, .slice none 0 0), (7, .bool false), (8, .pointer (some ⟨b8, 0, none⟩)), (10, .pointer (some ⟨b10, 0, none⟩)), (12, .func (.func 111) #[] [.pointer (some ⟨b9, 0, none⟩), .pointer (some ⟨b10, 0, none⟩), .pointer (some ⟨b8, 0, none⟩)].toArray), (13, num now), (14, num z_.2.1), (52, v), (53, num ss.length), (54, num i), (55, .bool (decide ((i : Int) < ss.length))), (78, v), (79, num ss.length), (80, num z_.1)]) (fun z_ => [box b10 [v41] 24, z_.2.2.2, box b9 [num ts.length] 3, box b8 [v35] 24, h35, box b3 [num k, num p, num n, vt, vo] 48, hp w]) (fun z_ => z_.1 ≤ ss.length ∧ z_.2.2.1.length = ss.length ∧ reach ts.length ss C W ss.length z_.2.2.1 now ∧ (∀ i, -1 ≤ z_.2.2.1.getD i 0 ∧ z_.2.2.1.getD i 0 ≤ now) ∧ mu C z_.2.2.1 now ss.length ≤ mu C S now ss.length ∧ z_.2.1 = runC C z_.2.2.1 now ss.length ∧ z_.2.1 ≤ W ∧ (z_.2.1 < W → ∀ i, i < z_.1 → ¬ rdy ts.length ss C z_.2.2.1 now i) ∧ IntsO z_.2.2.1 v41 z_.2.2.2) (fun z_ => ss.length - z_.1) (0, c, S, g2) (⟨by (try dsimp only); omega, hSl, hre, hSb, Nat.le_refl _, by (try dsimp only); rw [hc, show i = ss.length by omega], by (try dsimp only); rw [hc, show i = ss.length by omega]; exact hrun, fun _ i hi => absurd hi (by omega), q2⟩) ⟨rfl, rfl, rfl, rfl, rfl, rfl, rfl, rfl, (by first | rfl | exact ksub rfl (by first | omega | (simp; done) | (simp; omega))), rfl, rfl, rfl, rfl, rfl, rfl, (by first | rfl | exact ksub rfl (by first | omega | (simp; done) | (simp; omega))), trivial⟩ (fun _ s => s) ?_
            rintro ⟨j, d, S2, g3⟩ ⟨hj, hSl2, hre2, hSb2, hmu2, hd, hdw, hnr, q3⟩
            dsimp only at hj hSl2 hre2 hSb2 hmu2 hd hdw hnr q3 ⊢
            have hle_q3 := q3.toR.le
            have hSj := hSb2 j
            have hCj := hcb j
            have hrd := runC_in (C := C) (S := S2) (T := now) ss.length
            refine wp_sc ?_
            refine wp_sq ?_
            refine sq_v rfl (v_lss rfl rfl) rfl ?_
            refine sq_end ?_
            refine qs_n ?_
            refine wp_sc ?_
            refine wp_cd rfl (fun c81 => ?_) (fun c81 => ?_)
            · refine wp_sk ?_
              refine qs_n ?_
              refine wp_sc ?_
              refine wp_bl ?_
              refine wp_sc ?_
              refine wp_sq ?_
              refine sq_v rfl (v_move rfl) rfl ?_
              obtain ⟨x83, hx83, hcs83⟩ := hc_rv (j) (by first | omega | (rw [List.length_set]; omega))
              refine sq_v rfl (v_indexAddr Try.underlying43 ty_114 rfl rfl rr_rv (by decide) (by omega) (by first | omega | (rw [List.length_set]; omega))) rfl ?_
              refine sq_v rfl (v_loadNE 6 ty_114 rfl rfl rr_rv (by have := rr_rv.1; omega) rfl hcs83) rfl ?_
              refine sq_x rfl (x_alloc ty_114 rfl) rfl ?_; rintro _ _ ⟨b17, rfl, rfl⟩
              refine sq_v rfl (v_assign rfl) rfl ?_
              refine sq_m 0 rfl rfl (m_store 0 ty_114 rfl rfl rfl rfl (by simp [Value.oneCell']) rfl (Nat.le_of_ble_eq_true rfl)) rfl ?_; rintro _ _ ⟨rfl, rfl⟩
              refine sq_end ?_
              have e83 : ss.getD j ⟨0, 0⟩ = x83 := by simp [List.getD, hx83]
              have hl83 := hlt j x83 hx83
              have hci' := hci j (by omega)
              refine qs_n ?_
              refine wp_sc ?_
              refine wp_sq ?_
              refine sq_v rfl (v_move rfl) rfl ?_
              refine sq_v rfl (v_move rfl) rfl ?_
              refine sq_v rfl (v_lss rfl rfl) rfl ?_
              refine sq_bd 87 rfl (fun c87 => ?_) (fun c87 => ?_)
              · refine sq_v rfl (v_move rfl) rfl ?_
                refine sq_v rfl (v_loadB 1 ty_24 rfl rfl rfl) rfl ?_
                refine sq_v rfl (v_move rfl) rfl ?_
                refine sq_v rfl (v_idxI Try.underlying24 ty_3 rfl rfl q3.toR (by first | omega | (simp only [List.length_cons, List.length_nil]; omega) | (simp only [List.length_append, List.length_cons, List.length_nil]; omega) | (rw [List.length_set]; omega) | (rw [List.length_replicate]; omega) | (simp; omega)) (by first | omega | (simp only [List.length_cons, List.length_nil]; omega) | (simp only [List.length_append, List.length_cons, List.length_nil]; omega) | (rw [List.length_set]; omega) | (rw [List.length_replicate]; omega) | (simp; omega))) rfl ?_
                refine sq_v rfl (v_loadI (k := j) 2 ty_3 rfl rfl q3.toR (by first | omega | (simp only [List.length_cons, List.length_nil]; omega) | (simp only [List.length_append, List.length_cons, List.length_nil]; omega) | (rw [List.length_set]; omega) | (rw [List.length_replicate]; omega) | (simp; omega))) rfl ?_
                refine sq_v rfl (v_lss rfl rfl) rfl ?_
                refine sq_v rfl (v_pickt rfl rfl) rfl ?_
                refine sq_bd 94 rfl (fun c94 => ?_) (fun c94 => ?_)
                · refine sq_v rfl (v_move rfl) rfl ?_
                  refine sq_v rfl (v_move rfl) rfl ?_
                  refine sq_v rfl (v_fieldAddr fd_114_0 ty_3 (by decide) rfl) rfl ?_
                  refine sq_v rfl (v_loadB 0 ty_3 rfl rfl rfl) rfl ?_
                  refine sq_v rfl (v_move rfl) rfl ?_
                  refine sq_u rfl (x_callFv (u := .bool (handB ts.length C S2 now x83.a)) rfl rfl en_111x (fun w s => ct_i_ended x83.a now ts.length S2 C v41 v35 b9 b10 b8 w (cellP.mono (s.get 3 rfl) (by rw [cellP_box]; rfl)) (cellP.mono (s.get 1 rfl) (by rw [cellP_box]; rfl)) (cellP.mono (s.get 4 rfl) (by rw [cellP_box]; rfl)) (q3.toR.mono (s.get 2 rfl)) (r35.toR.mono (s.get 5 rfl)) (by omega) (by omega) (by omega) (fun i => by have := hSb2 i; omega) hcb)) rfl ?_
                  refine sq_v rfl (v_pickt rfl rfl) rfl ?_
                  refine sq_bb 101 rfl (fun c101 => ?_) (fun c101 => ?_)
                  · refine sq_v rfl (v_move rfl) rfl ?_
                    refine sq_v rfl (v_move rfl) rfl ?_
                    refine sq_v rfl (v_fieldAddr fd_114_1 ty_3 (by decide) rfl) rfl ?_
                    refine sq_v rfl (v_loadB 0 ty_3 rfl rfl rfl) rfl ?_
                    refine sq_v rfl (v_move rfl) rfl ?_
                    refine sq_u rfl (x_callFv (u := .bool (handB ts.length C S2 now x83.b)) rfl rfl en_111x (fun w s => ct_i_ended x83.b now ts.length S2 C v41 v35 b9 b10 b8 w (cellP.mono (s.get 3 rfl) (by rw [cellP_box]; rfl)) (cellP.mono (s.get 1 rfl) (by rw [cellP_box]; rfl)) (cellP.mono (s.get 4 rfl) (by rw [cellP_box]; rfl)) (q3.toR.mono (s.get 2 rfl)) (r35.toR.mono (s.get 5 rfl)) (by omega) (by omega) (by omega) (fun i => by have := hSb2 i; omega) hcb)) rfl ?_
                    refine sq_v rfl (v_pickt rfl rfl) rfl ?_
                    refine sq_end ?_
                    refine qs_n ?_
                    refine wp_cb _ rfl (fun c108 => ?_) (fun c108 => ?_)
                    · refine wp_sc ?_
                      refine wp_sq ?_
                      refine sq_v rfl (v_loadB 1 ty_24 rfl rfl rfl) rfl ?_
                      refine sq_v rfl (v_move rfl) rfl ?_
                      refine sq_v rfl (v_move rfl) rfl ?_
                      refine sq_v rfl (v_idxI Try.underlying24 ty_3 rfl rfl q3.toR (by first | omega | (simp only [List.length_cons, List.length_nil]; omega) | (simp only [List.length_append, List.length_cons, List.length_nil]; omega) | (rw [List.length_set]; omega) | (rw [List.length_replicate]; omega) | (simp; omega)) (by first | omega | (simp only [List.length_cons, List.length_nil]; omega) | (simp only [List.length_append, List.length_cons, List.length_nil]; omega) | (rw [List.length_set]; omega) | (rw [List.length_replicate]; omega) | (simp; omega))) rfl ?_
                      refine sq_m 2 rfl rfl (m_storeI (k := j) 2 ty_3 rfl rfl rfl q3 (by first | omega | (simp only [List.length_cons, List.length_nil]; omega) | (simp only [List.length_append, List.length_cons, List.length_nil]; omega) | (rw [List.length_set]; omega) | (rw [List.length_replicate]; omega) | (simp; omega))) rfl ?_; rintro _ h_q24_4 ⟨rfl, q24_4⟩
                      refine sq_end ?_
                      refine qs_n ?_
                      refine wp_sq ?_
                      refine sq_v rfl (v_move rfl) rfl ?_
                      refine sq_v rfl (v_add rfl rfl ((by unfold I64; omega))) rfl ?_
                      refine sq_v rfl (v_assign rfl) rfl ?_
                      refine sq_end ?_
                      refine qs_bn ?_
                      refine qs_n ?_
                      refine wp_sq ?_
                      refine sq_v rfl (v_add rfl rfl ((by unfold I64; omega))) rfl ?_
                      refine sq_v rfl (v_move rfl) rfl ?_
                      refine sq_end ?_
                      exact qs_bk (j + 1, d + 1, S2.set j now, h_q24_4) ⟨by (try dsimp only); omega, by (try dsimp only); simp [hSl2], reach_set hre2 hSl2 (by omega) (by omega) (hnr (by omega)) ⟨by omega, by rw [e83]; exact handB_true.1 c101, by rw [e83]; exact handB_true.1 c108⟩, bnd_set (by omega) hnow.1 hSb2, by (try dsimp only); have := mu_set (C := C) (S := S2) (T := now) (i := j) (by omega) (by omega) hnow.1 (by omega) ss.length (by omega); omega, by (try dsimp only); rw [runC_set (by omega) (by omega) hnow.1 (by omega), if_pos (by omega), hd], by (try dsimp only); omega, fun _ => nrdy_set (by omega) (by omega) (by omega) hnow.1 (hnr (by omega)), q24_4⟩ (by simp only; omega) ⟨rfl, rfl, rfl, rfl, rfl, rfl, rfl, rfl, (by first | rfl | exact ksub rfl (by first | omega | (simp; done) | (simp; omega))), rfl, rfl, rfl, rfl, rfl, rfl, (by first | rfl | exact ksub rfl (by first | omega | (simp; done) | (simp; omega))), trivial⟩ (fun _ s => s.pick [1, 2, 3, 4, 5, 6, 7] (by decide) rfl)
                    · refine wp_sk ?_
                      refine qs_bn ?_
                      refine qs_n ?_
                      refine wp_sq ?_
                      refine sq_v rfl (v_add rfl rfl ((by unfold I64; omega))) rfl ?_
                      refine sq_v rfl (v_move rfl) rfl ?_
                      refine sq_end ?_
                      exact qs_bk (j + 1, d, S2, g3) ⟨by (try dsimp only); omega, hSl2, hre2, hSb2, hmu2, hd, hdw, fun hw => nrdy_step (hnr hw) (fun h => handB_false.1 c108 (by rw [← e83]; exact h.2.2)), q3⟩ (by simp only; omega) ⟨rfl, rfl, rfl, rfl, rfl, rfl, rfl, rfl, (by first | rfl | exact ksub rfl (by first | omega | (simp; done) | (simp; omega))), rfl, rfl, rfl, rfl, rfl, rfl, (by first | rfl | exact ksub rfl (by first | omega | (simp; done) | (simp; omega))), trivial⟩ (fun _ s => s.pick [1, 2, 3, 4, 5, 6, 7] (by decide) rfl)
                  · refine sq_v rfl (v_move rfl) rfl ?_
                    refine sq_s rfl rfl ?_
                    refine sq_s rfl rfl ?_
                    refine sq_s rfl rfl ?_
                    refine sq_s rfl rfl ?_
                    refine sq_s rfl rfl ?_
                    refine sq_v rfl (v_pickf rfl rfl) rfl ?_
                    refine sq_end ?_
                    refine qs_n ?_
                    refine wp_cf rfl ?_
                    refine wp_sk ?_
                    refine qs_bn ?_
                    refine qs_n ?_
                    refine wp_sq ?_
                    refine sq_v rfl (v_add rfl rfl ((by unfold I64; omega))) rfl ?_
                    refine sq_v rfl (v_move rfl) rfl ?_
                    refine sq_end ?_
                    exact qs_bk (j + 1, d, S2, g3) ⟨by (try dsimp only); omega, hSl2, hre2, hSb2, hmu2, hd, hdw, fun hw => nrdy_step (hnr hw) (fun h => handB_false.1 c101 (by rw [← e83]; exact h.2.1)), q3⟩ (by simp only; omega) ⟨rfl, rfl, rfl, rfl, rfl, rfl, rfl, rfl, (by first | rfl | exact ksub rfl (by first | omega | (simp; done) | (simp; omega))), rfl, rfl, rfl, rfl, rfl, rfl, (by first | rfl | exact ksub rfl (by first | omega | (simp; done) | (simp; omega))), trivial⟩ (fun _ s => s.pick [1, 2, 3, 4, 5, 6, 7] (by decide) rfl)
                · refine sq_v rfl (v_move rfl) rfl ?_
                  refine sq_s rfl rfl ?_
                  refine sq_s rfl rfl ?_
                  refine sq_s rfl rfl ?_
                  refine sq_s rfl rfl ?_
                  refine sq_s rfl rfl ?_
                  refine sq_v rfl (v_pickf rfl rfl) rfl ?_
                  refine sq_v rfl (v_move rfl) rfl ?_
                  refine sq_s rfl rfl ?_
                  refine sq_s rfl rfl ?_
                  refine sq_s rfl rfl ?_
                  refine sq_s rfl rfl ?_
                  refine sq_s rfl rfl ?_
                  refine sq_v rfl (v_pickf rfl rfl) rfl ?_
                  refine sq_end ?_
                  refine qs_n ?_
                  refine wp_cf rfl ?_
                  refine wp_sk ?_
                  refine qs_bn ?_
                  refine qs_n ?_
                  refine wp_sq ?_
                  refine sq_v rfl (v_add rfl rfl ((by unfold I64; omega))) rfl ?_
                  refine sq_v rfl (v_move rfl) rfl ?_
                  refine sq_end ?_
                  exact qs_bk (j + 1, d, S2, g3) ⟨by (try dsimp only); omega, hSl2, hre2, hSb2, hmu2, hd, hdw, fun hw => nrdy_step (hnr hw) (fun h => by have := h.1; dsimp only at this; omega), q3⟩ (by simp only; omega) ⟨rfl, rfl, rfl, rfl, rfl, rfl, rfl, rfl, (by first | rfl | exact ksub rfl (by first | omega | (simp; done) | (simp; omega))), rfl, rfl, rfl, rfl, rfl, rfl, (by first | rfl | exact ksub rfl (by first | omega | (simp; done) | (simp; omega))), trivial⟩ (fun _ s => s.pick [1, 2, 3, 4, 5, 6, 7] (by decide) rfl)
              · refine sq_v rfl (v_move rfl) rfl ?_
                refine sq_s rfl rfl ?_
                refine sq_s rfl rfl ?_
                refine sq_s rfl rfl ?_
                refine sq_s rfl rfl ?_
                refine sq_s rfl rfl ?_
                refine sq_v rfl (v_pickf rfl rfl) rfl ?_
                refine sq_v rfl (v_move rfl) rfl ?_
                refine sq_s rfl rfl ?_
                refine sq_s rfl rfl ?_
                refine sq_s rfl rfl ?_
                refine sq_s rfl rfl ?_
                refine sq_s rfl rfl ?_
                refine sq_v rfl (v_pickf rfl rfl) rfl ?_
                refine sq_v rfl (v_move rfl) rfl ?_
                refine sq_s rfl rfl ?_
                refine sq_s rfl rfl ?_
                refine sq_s rfl rfl ?_
                refine sq_s rfl rfl ?_
                refine sq_s rfl rfl ?_
                refine sq_v rfl (v_pickf rfl rfl) rfl ?_
                refine sq_end ?_
                refine qs_n ?_
                refine wp_cf rfl ?_
                refine wp_sk ?_
                refine qs_bn ?_
                refine qs_n ?_
                refine wp_sq ?_
                refine sq_v rfl (v_add rfl rfl ((by unfold I64; omega))) rfl ?_
                refine sq_v rfl (v_move rfl) rfl ?_
                refine sq_end ?_
                exact qs_bk (j + 1, d, S2, g3) ⟨by (try dsimp only); omega, hSl2, hre2, hSb2, hmu2, hd, hdw, fun hw => absurd hw (by omega), q3⟩ (by simp only; omega) ⟨rfl, rfl, rfl, rfl, rfl, rfl, rfl, rfl, (by first | rfl | exact ksub rfl (by first | omega | (simp; done) | (simp; omega))), rfl, rfl, rfl, rfl, rfl, rfl, (by first | rfl | exact ksub rfl (by first | omega | (simp; done) | (simp; omega))), trivial⟩ (fun _ s => s.pick [1, 2, 3, 4, 5, 6, 7] (by decide) rfl)
            · refine wp_ex ?_
              refine qs_x ?_
              refine qs_x ?_
              refine qs_bx ?_
              refine qs_n ?_
              refine wp_sc ?_
              refine wp_sq ?_
              refine sq_v rfl (v_assign rfl) rfl ?_
              refine sq_end ?_
              refine qs_n ?_
              refine wp_sc ?_
              refine wp_sc ?_
              refine wp_sq ?_
              refine sq_v rfl (v_move rfl) rfl ?_
              refine sq_v rfl (v_len Try.underlying43 rfl rv.sl) rfl ?_
              refine sq_v rfl (v_move rfl) rfl ?_
              refine sq_end ?_
              refine qs_n ?_
              refine wp_bl ?_
              refine wp_lp (σ := Nat × Int) (fun z_ => [(1, v), (2, num W), (6, .slice none 0 0), (7, .bool false), (8, .pointer (some ⟨b8, 0, none⟩)), (10, .pointer (some ⟨b10, 0, none⟩)), (12, .func (.func 111) #[] [.pointer (some ⟨b9, 0, none⟩), .pointer (some ⟨b10, 0, none⟩), .pointer (some ⟨b8, 0, none⟩)].toArray), (13, num now), (14, num d), (18, num z_.2), (52, v), (53, num ss.length), (54, num i), (55, .bool (decide ((i : Int) < ss.length))), (78, v), (79, num ss.length), (80, num j), (81, .bool (decide ((j : Int) < ss.length))), (116, v), (117, num ss.length), (118, num z_.1)]) (fun z_ => [box b10 [v41] 24, g3, box b9 [num ts.length] 3, box b8 [v35] 24, h35, box b3 [num k, num p, num n, vt, vo] 48, hp w]) (fun z_ => z_.1 ≤ ss.length ∧ z_.2 = nextT C S2 now z_.1) (fun z_ => ss.length - z_.1) (0, -1) (⟨by (try dsimp only); omega, rfl⟩) ⟨rfl, rfl, rfl, rfl, rfl, rfl, rfl, rfl, rfl, (by first | rfl | exact ksub rfl (by first | omega | (simp; done) | (simp; omega))), rfl, rfl, rfl, rfl, rfl, rfl, rfl, rfl, rfl, rfl, (by first | rfl | exact ksub rfl (by first | omega | (simp; done) | (simp; omega))), trivial⟩ (fun _ s => s) ?_
              rintro ⟨i2, e⟩ ⟨hi2, he⟩
              dsimp only at hi2 he ⊢
              have hSi2 := hSb2 i2
              have hCi2 := hcb i2
              have hnx := nextT_at (C := C) (S := S2) hnow.1 i2
              refine wp_sc ?_
              refine wp_sq ?_
              refine sq_v rfl (v_lss rfl rfl) rfl ?_
              refine sq_end ?_
              refine qs_n ?_
              refine wp_sc ?_
              refine wp_cd rfl (fun c119 => ?_) (fun c119 => ?_)
              · refine wp_sk ?_
                refine qs_n ?_
                refine wp_sc ?_
                refine wp_bl ?_
                refine wp_sc ?_
                refine wp_sq ?_
                refine sq_v rfl (v_move rfl) rfl ?_
                refine sq_v rfl (v_assign rfl) rfl ?_
                refine sq_end ?_
                refine qs_n ?_
                refine wp_sc ?_
                refine wp_rj 10 [(0, true), (1, true), (2, true), (3, true), (4, true), (5, true), (6, true), (7, true), (8, true), (9, true)] mixed_ok (by kernel_rfl) ?_
                refine rj_v rfl rfl (v_loadB 0 ty_24 rfl rfl rfl) rfl ?_
                refine rj_v rfl rfl (v_move rfl) rfl ?_
                refine rj_v rfl rfl (v_idxI Try.underlying24 ty_3 rfl rfl q3.toR (by first | omega | (simp only [List.length_cons, List.length_nil]; omega) | (simp only [List.length_append, List.length_cons, List.length_nil]; omega) | (rw [List.length_set]; omega) | (rw [List.length_replicate]; omega) | (simp; omega)) (by first | omega | (simp only [List.length_cons, List.length_nil]; omega) | (simp only [List.length_append, List.length_cons, List.length_nil]; omega) | (rw [List.length_set]; omega) | (rw [List.length_replicate]; omega) | (simp; omega))) rfl ?_
                refine rj_v rfl rfl (v_loadI (k := i2) 1 ty_3 rfl rfl q3.toR (by first | omega | (simp only [List.length_cons, List.length_nil]; omega) | (simp only [List.length_append, List.length_cons, List.length_nil]; omega) | (rw [List.length_set]; omega) | (rw [List.length_replicate]; omega) | (simp; omega))) rfl ?_
                refine rj_v rfl rfl (v_loadB 3 ty_24 rfl rfl rfl) rfl ?_
                refine rj_v rfl rfl (v_move rfl) rfl ?_
                refine rj_v rfl rfl (v_idxI Try.underlying24 ty_3 rfl rfl r35.toR (by first | omega | (simp only [List.length_cons, List.length_nil]; omega) | (simp only [List.length_append, List.length_cons, List.length_nil]; omega) | (rw [List.length_set]; omega) | (rw [List.length_replicate]; omega) | (simp; omega)) (by first | omega | (simp only [List.length_cons, List.length_nil]; omega) | (simp only [List.length_append, List.length_cons, List.length_nil]; omega) | (rw [List.length_set]; omega) | (rw [List.length_replicate]; omega) | (simp; omega))) rfl ?_
                refine rj_v rfl rfl (v_loadI (k := i2) 4 ty_3 rfl rfl r35.toR (by first | omega | (simp only [List.length_cons, List.length_nil]; omega) | (simp only [List.length_append, List.length_cons, List.length_nil]; omega) | (rw [List.length_set]; omega) | (rw [List.length_replicate]; omega) | (simp; omega))) rfl ?_
                refine rj_v rfl rfl (v_add rfl rfl ((by unfold I64; omega))) rfl ?_
                refine rj_v rfl rfl (v_assign rfl) rfl ?_
                refine rj_end ?_
                refine qs_n ?_
                refine wp_sc ?_
                refine wp_sq ?_
                refine sq_v rfl (v_loadB 0 ty_24 rfl rfl rfl) rfl ?_
                refine sq_v rfl (v_move rfl) rfl ?_
                refine sq_v rfl (v_idxI Try.underlying24 ty_3 rfl rfl q3.toR (by first | omega | (simp only [List.length_cons, List.length_nil]; omega) | (simp only [List.length_append, List.length_cons, List.length_nil]; omega) | (rw [List.length_set]; omega) | (rw [List.length_replicate]; omega) | (simp; omega)) (by first | omega | (simp only [List.length_cons, List.length_nil]; omega) | (simp only [List.length_append, List.length_cons, List.length_nil]; omega) | (rw [List.length_set]; omega) | (rw [List.length_replicate]; omega) | (simp; omega))) rfl ?_
                refine sq_v rfl (v_loadI (k := i2) 1 ty_3 rfl rfl q3.toR (by first | omega | (simp only [List.length_cons, List.length_nil]; omega) | (simp only [List.length_append, List.length_cons, List.length_nil]; omega) | (rw [List.length_set]; omega) | (rw [List.length_replicate]; omega) | (simp; omega))) rfl ?_
                refine sq_v rfl (v_geq rfl rfl) rfl ?_
                refine sq_bd 134 rfl (fun c134 => ?_) (fun c134 => ?_)
                · refine sq_v rfl (v_move rfl) rfl ?_
                  refine sq_v rfl (v_move rfl) rfl ?_
                  refine sq_v rfl (v_move rfl) rfl ?_
                  refine sq_v rfl (v_gtr rfl rfl) rfl ?_
                  refine sq_v rfl (v_pickt rfl rfl) rfl ?_
                  refine sq_bd 139 rfl (fun c139 => ?_) (fun c139 => ?_)
                  · refine sq_v rfl (v_move rfl) rfl ?_
                    refine sq_v rfl (v_move rfl) rfl ?_
                    refine sq_v rfl (v_lss rfl rfl) rfl ?_
                    refine sq_bd 142 rfl (fun c142 => ?_) (fun c142 => ?_)
                    · refine sq_v rfl (v_move rfl) rfl ?_
                      refine sq_s rfl rfl ?_
                      refine sq_s rfl rfl ?_
                      refine sq_s rfl rfl ?_
                      refine sq_v rfl (v_pickt rfl rfl) rfl ?_
                      refine sq_v rfl (v_pickt rfl rfl) rfl ?_
                      refine sq_end ?_
                      refine qs_n ?_
                      refine wp_ct rfl ?_
                      refine wp_sq ?_
                      refine sq_v rfl (v_move rfl) rfl ?_
                      refine sq_v rfl (v_assign rfl) rfl ?_
                      refine sq_end ?_
                      refine qs_bn ?_
                      refine qs_n ?_
                      refine wp_sq ?_
                      refine sq_v rfl (v_add rfl rfl ((by unfold I64; omega))) rfl ?_
                      refine sq_v rfl (v_move rfl) rfl ?_
                      refine sq_end ?_
                      exact qs_bk (i2 + 1, S2.getD i2 0 + C.getD i2 0) ⟨by (try dsimp only); omega, by (try dsimp only); rw [nextT_yes ⟨by omega, by omega⟩ (by omega)]⟩ (by simp only; omega) ⟨rfl, rfl, rfl, rfl, rfl, rfl, rfl, rfl, rfl, (by first | rfl | exact ksub rfl (by first | omega | (simp; done) | (simp; omega))), rfl, rfl, rfl, rfl, rfl, rfl, rfl, rfl, rfl, rfl, (by first | rfl | exact ksub rfl (by first | omega | (simp; done) | (simp; omega))), trivial⟩ (fun _ s => s)
                    · refine sq_v rfl (v_move rfl) rfl ?_
                      refine sq_v rfl (v_move rfl) rfl ?_
                      refine sq_v rfl (v_move rfl) rfl ?_
                      refine sq_v rfl (v_lss rfl rfl) rfl ?_
                      refine sq_v rfl (v_pickf rfl rfl) rfl ?_
                      refine sq_v rfl (v_pickt rfl rfl) rfl ?_
                      refine sq_end ?_
                      refine qs_n ?_
                      refine wp_cd rfl (fun c148 => ?_) (fun c148 => ?_)
                      · refine wp_sq ?_
                        refine sq_v rfl (v_move rfl) rfl ?_
                        refine sq_v rfl (v_assign rfl) rfl ?_
                        refine sq_end ?_
                        refine qs_bn ?_
                        refine qs_n ?_
                        refine wp_sq ?_
                        refine sq_v rfl (v_add rfl rfl ((by unfold I64; omega))) rfl ?_
                        refine sq_v rfl (v_move rfl) rfl ?_
                        refine sq_end ?_
                        exact qs_bk (i2 + 1, S2.getD i2 0 + C.getD i2 0) ⟨by (try dsimp only); omega, by (try dsimp only); rw [nextT_yes ⟨by omega, by omega⟩ (by omega)]⟩ (by simp only; omega) ⟨rfl, rfl, rfl, rfl, rfl, rfl, rfl, rfl, rfl, (by first | rfl | exact ksub rfl (by first | omega | (simp; done) | (simp; omega))), rfl, rfl, rfl, rfl, rfl, rfl, rfl, rfl, rfl, rfl, (by first | rfl | exact ksub rfl (by first | omega | (simp; done) | (simp; omega))), trivial⟩ (fun _ s => s)
                      · refine wp_sk ?_
                        refine qs_bn ?_
                        refine qs_n ?_
                        refine wp_sq ?_
                        refine sq_v rfl (v_add rfl rfl ((by unfold I64; omega))) rfl ?_
                        refine sq_v rfl (v_move rfl) rfl ?_
                        refine sq_end ?_
                        exact qs_bk (i2 + 1, e) ⟨by (try dsimp only); omega, by (try dsimp only); rw [nextT_no (fun h => by have := h.2; omega)]; exact he⟩ (by simp only; omega) ⟨rfl, rfl, rfl, rfl, rfl, rfl, rfl, rfl, rfl, (by first | rfl | exact ksub rfl (by first | omega | (simp; done) | (simp; omega))), rfl, rfl, rfl, rfl, rfl, rfl, rfl, rfl, rfl, rfl, (by first | rfl | exact ksub rfl (by first | omega | (simp; done) | (simp; omega))), trivial⟩ (fun _ s => s)
                  · refine sq_v rfl (v_move rfl) rfl ?_
                    refine sq_s rfl rfl ?_
                    refine sq_s rfl rfl ?_
                    refine sq_s rfl rfl ?_
                    refine sq_s rfl rfl ?_
                    refine sq_s rfl rfl ?_
                    refine sq_s rfl rfl ?_
                    refine sq_s rfl rfl ?_
                    refine sq_v rfl (v_pickf rfl rfl) rfl ?_
                    refine sq_end ?_
                    refine qs_n ?_
                    refine wp_cf rfl ?_
                    refine wp_sk ?_
                    refine qs_bn ?_
                    refine qs_n ?_
                    refine wp_sq ?_
                    refine sq_v rfl (v_add rfl rfl ((by unfold I64; omega))) rfl ?_
                    refine sq_v rfl (v_move rfl) rfl ?_
                    refine sq_end ?_
                    exact qs_bk (i2 + 1, e) ⟨by (try dsimp only); omega, by (try dsimp only); rw [nextT_no (fun h => by have := h.1.2; omega)]; exact he⟩ (by simp only; omega) ⟨rfl, rfl, rfl, rfl, rfl, rfl, rfl, rfl, rfl, (by first | rfl | exact ksub rfl (by first | omega | (simp; done) | (simp; omega))), rfl, rfl, rfl, rfl, rfl, rfl, rfl, rfl, rfl, rfl, (by first | rfl | exact ksub rfl (by first | omega | (simp; done) | (simp; omega))), trivial⟩ (fun _ s => s)
                · refine sq_v rfl (v_move rfl) rfl ?_
                  refine sq_s rfl rfl ?_
                  refine sq_s rfl rfl ?_
                  refine sq_s rfl rfl ?_
                  refine sq_v rfl (v_pickf rfl rfl) rfl ?_
                  refine sq_v rfl (v_move rfl) rfl ?_
                  refine sq_s rfl rfl ?_
                  refine sq_s rfl rfl ?_
                  refine sq_s rfl rfl ?_
                  refine sq_s rfl rfl ?_
                  refine sq_s rfl rfl ?_
                  refine sq_s rfl rfl ?_
                  refine sq_s rfl rfl ?_
                  refine sq_v rfl (v_pickf rfl rfl) rfl ?_
                  refine sq_end ?_
                  refine qs_n ?_
                  refine wp_cf rfl ?_
                  refine wp_sk ?_
                  refine qs_bn ?_
                  refine qs_n ?_
                  refine wp_sq ?_
                  refine sq_v rfl (v_add rfl rfl ((by unfold I64; omega))) rfl ?_
                  refine sq_v rfl (v_move rfl) rfl ?_
                  refine sq_end ?_
                  exact qs_bk (i2 + 1, e) ⟨by (try dsimp only); omega, by (try dsimp only); rw [nextT_no (fun h => by have := h.1.1; omega)]; exact he⟩ (by simp only; omega) ⟨rfl, rfl, rfl, rfl, rfl, rfl, rfl, rfl, rfl, (by first | rfl | exact ksub rfl (by first | omega | (simp; done) | (simp; omega))), rfl, rfl, rfl, rfl, rfl, rfl, rfl, rfl, rfl, rfl, (by first | rfl | exact ksub rfl (by first | omega | (simp; done) | (simp; omega))), trivial⟩ (fun _ s => s)
              · refine wp_ex ?_
                refine qs_x ?_
                refine qs_x ?_
                refine qs_bx ?_
                refine qs_n ?_
                refine wp_sc ?_
                refine wp_sc ?_
                refine wp_sq ?_
                refine sq_v rfl (v_move rfl) rfl ?_
                refine sq_v rfl (v_lss rfl rfl) rfl ?_
                refine sq_end ?_
                have hi2e : i2 = ss.length := by omega
                rw [hi2e] at he hnx
                have hnr2 : runC C S2 now ss.length < W → ∀ i, i < ss.length → ¬ rdy ts.length ss C S2 now i := fun h i hi => hnr (by omega) i (by omega)
                refine qs_n ?_
                refine wp_cd rfl (fun c152 => ?_) (fun c152 => ?_)
                · refine wp_sc ?_
                  refine wp_sq ?_
                  refine sq_v rfl (v_loadB 0 ty_24 rfl rfl rfl) rfl ?_
                  refine sq_v rfl (v_assign rfl) rfl ?_
                  refine sq_v rfl (v_assign rfl) rfl ?_
                  refine sq_end ?_
                  refine qs_n ?_
                  refine wp_rt ?_
                  refine qs_r ?_
                  refine qs_br ?_
                  refine qs_r ?_
                  refine qs_br ?_
                  exact qs_ret2 rfl rfl rfl (fin_t 1 (i := 6) rfl rfl rfl (SchedYes ⟨hord, by omega, by omega⟩ (by rw [← hC]; exact reach_done hre2 (list_done hSl2 rfl hlt hnow.1 (by omega) (by omega) hnr2)) q3))
                · refine wp_sk ?_
                  refine qs_n ?_
                  refine wp_sq ?_
                  refine sq_v rfl (v_move rfl) rfl ?_
                  refine sq_v rfl (v_assign rfl) rfl ?_
                  refine sq_end ?_
                  have hx := hnx.resolve_left (fun h => by have := h.1; omega)
                  obtain ⟨i3, h3, hr3, e3⟩ := hx.2.1
                  have hml := mu_less (T' := e) hr3 (by omega) (by omega) ss.length h3
                  have hC3 := hcb i3
                  have hS3 := hSb2 i3
                  have hrt := runC_time (C := C) (S := S2) (T := now) (T' := e) (by omega) ss.length
                  refine qs_bn ?_
                  exact qs_bk (S2, e, g3) ⟨hSl2, by (try dsimp only); rw [he]; exact reach_next hre2 hSl2 (by by_cases hdW : d = W; exact .inl (by omega); exact .inr (hnr2 (by omega))), fun i => by have := hSb2 i; dsimp only; omega, by (try dsimp only); omega, by (try dsimp only); omega, q3⟩ (by simp only; omega) ⟨rfl, rfl, rfl, rfl, rfl, rfl, rfl, (by first | rfl | exact ksub rfl (by first | omega | (simp; done) | (simp; omega))), trivial⟩ (fun _ s => s)
  · refine sq_v rfl (v_not rfl) rfl ?_
    refine sq_v rfl (v_move rfl) rfl ?_
    refine sq_s rfl rfl ?_
    refine sq_s rfl rfl ?_
    refine sq_v rfl (v_pickt rfl rfl) rfl ?_
    refine sq_v rfl (v_move rfl) rfl ?_
    refine sq_s rfl rfl ?_
    refine sq_s rfl rfl ?_
    refine sq_v rfl (v_pickt rfl rfl) rfl ?_
    refine sq_end ?_
    refine qs_n ?_
    refine wp_ct rfl ?_
    refine wp_sc ?_
    refine wp_sq ?_
    refine sq_v rfl (v_assign rfl) rfl ?_
    refine sq_v rfl (v_assign rfl) rfl ?_
    refine sq_end ?_
    refine qs_n ?_
    refine wp_rt ?_
    refine qs_r ?_
    exact qs_ret2 rfl rfl rfl (fin_e (i := 1) rfl (SchedNo (fun h => by first | exact orderB_false.1 c23 h.1 | (have := h.2; omega))))
end Go.Proofs.Ytikeobneipjfnaa
namespace Go.Proofs.Ytikeobneipjfnaa
set_option maxRecDepth 100000
open Go.RowKit
def stL (S : List Int) : List Int := S.map (fun x => if x < 0 then 0 else x)
def begL (S : List Int) : List Bool := S.map (fun x => decide (0 ≤ x))
theorem stL_len (S : List Int) : (stL S).length = S.length := by simp [stL]
theorem begL_len (S : List Int) : (begL S).length = S.length := by simp [begL]
theorem stL_get (S : List Int) (i : Nat) : (stL S).getD i 0 = if S.getD i 0 < 0 then 0 else S.getD i 0 := by
  rcases Nat.lt_or_ge i S.length with h | h <;> simp [stL, List.getD, h]
theorem begL_true {S : List Int} {i : Nat} (h : i < S.length) : (begL S).getD i false = true ↔ 0 ≤ S.getD i 0 := by simp [begL, List.getD, h]
theorem begL_false {S : List Int} {i : Nat} (h : i < S.length) : (begL S).getD i false = false ↔ S.getD i 0 < 0 := by
  have := begL_true h
  rw [← Bool.not_eq_true, this]; omega
theorem stL_set (S : List Int) (k : Nat) {T : Int} (hT : 0 ≤ T) : stL (S.set k T) = (stL S).set k T := by rw [stL, List.map_set, if_neg (by omega)]; rfl
theorem begL_set (S : List Int) (k : Nat) {T : Int} (hT : 0 ≤ T) : begL (S.set k T) = (begL S).set k true := by rw [begL, List.map_set, decide_eq_true hT]; rfl
theorem stL_rep (n : Nat) : stL (List.replicate n (-1)) = List.replicate n 0 := by rw [stL, List.map_replicate]; rfl
theorem begL_rep (n : Nat) : begL (List.replicate n (-1)) = List.replicate n false := by rw [begL, List.map_replicate]; rfl
theorem stL_done {S : List Int} (h : done S) : stL S = S := by
  rw [stL]
  conv => rhs; rw [← List.map_id S]
  refine List.map_congr_left fun x hx => ?_
  obtain ⟨i, hi, e⟩ := List.getElem_of_mem hx
  have := h i hi
  simp [List.getD, hi] at this
  rw [e] at this
  rw [if_neg (by omega)]; rfl
open Classical in
noncomputable def negC (S : List Int) : Nat → Int
  | 0 => 0
  | i + 1 => negC S i + if S.getD i 0 < 0 then 1 else 0
theorem negC_in {S : List Int} : ∀ k, 0 ≤ negC S k ∧ negC S k ≤ k
  | 0 => by simp [negC]
  | k + 1 => by
    have := negC_in (S := S) k
    simp only [negC]
    split <;> omega
theorem negC_zero {S : List Int} : ∀ {k : Nat}, negC S k ≤ 0 → ∀ i, i < k → 0 ≤ S.getD i 0
  | 0, _, i, hi => by omega
  | k + 1, h, i, hi => by
    have h1 := negC_in (S := S) k
    simp only [negC] at h
    split at h
    · omega
    · rcases Nat.lt_or_ge i k with h' | h'
      · exact negC_zero (by omega) i h'
      · rw [show i = k by omega]; omega
theorem negC_none {S : List Int} : ∀ {k : Nat}, (∀ i, i < k → 0 ≤ S.getD i 0) → negC S k = 0
  | 0, _ => rfl
  | k + 1, h => by rw [negC, negC_none (fun i hi => h i (by omega)), if_neg (by have := h k (by omega); omega)]; rfl
theorem negC_all {S : List Int} : ∀ {k : Nat}, (∀ i, i < k → S.getD i 0 < 0) → negC S k = k
  | 0, _ => rfl
  | k + 1, h => by rw [negC, negC_all (fun i hi => h i (by omega)), if_pos (h k (by omega))]; omega
theorem negC_set {S : List Int} {T : Int} {i : Nat} (hi : i < S.length) (h : S.getD i 0 < 0) (hT : 0 ≤ T) : ∀ k, negC (S.set i T) k = negC S k - if i < k then 1 else 0
  | 0 => by simp [negC]
  | k + 1 => by
    have ih := negC_set hi h hT k
    by_cases e : i = k
    · subst e
      rw [negC, negC, ih, getD_set_self' hi, if_neg (by omega), if_neg (by omega), if_pos h, if_pos (by omega)]
      omega
    · rw [negC, negC, ih, getD_set_ne' e]
      split <;> split <;> split <;> omega
section
variable {m : Int} {ss : List Stp} {C : List Int} {W : Int} {S : List Int} {T : Int}
theorem firstK_pos : ∀ k, 0 ≤ firstK m ss C S T k → ∃ i : Nat, firstK m ss C S T k = i ∧ i < k ∧ rdy m ss C S T i ∧ ∀ j, j < i → ¬ rdy m ss C S T j
  | 0, h => by simp [firstK] at h
  | k + 1, h => by
    rw [firstK] at h ⊢
    split at h
    · rename_i h1
      obtain ⟨i, e, hi, hr⟩ := firstK_pos k h1
      exact ⟨i, by rw [if_pos h1]; exact e, by omega, hr⟩
    · rename_i h1
      split at h
      · rename_i h2
        exact ⟨k, by rw [if_neg h1, if_pos h2], by omega, h2, fun j hj => firstK_neg (by omega) j hj⟩
      · omega
theorem firstK_in : ∀ k, -1 ≤ firstK m ss C S T k ∧ firstK m ss C S T k < k
  | 0 => by simp [firstK]
  | k + 1 => by
    have := firstK_in k
    rw [firstK]
    split
    · omega
    · split <;> omega
/-- What the reference asks of a step. -/
theorem rdy_iff {i : Nat} {x : Stp} (e : ss.getD i ⟨0, 0⟩ = x) (hT : 0 ≤ T) : rdy m ss C S T i ↔ (S.getD i 0 < 0 ∧ (x.a < m ∨ 0 ≤ S.getD (x.a - m).toNat 0) ∧ (x.b < m ∨ 0 ≤ S.getD (x.b - m).toNat 0)) ∧ rdyF (sumE (stL S) C) m [x.a, x.b] ≤ T := by
  rw [rdyF_iff hT, rdy, e]
  have key : ∀ y : Int, hand m C S T y ↔ (y < m ∨ 0 ≤ S.getD (y - m).toNat 0) ∧ (m ≤ y → sumE (stL S) C (y - m) ≤ T) := fun y => by
    unfold hand sumE
    rw [stL_get]
    split <;> omega
  rw [key, key]
  simp only [List.mem_cons, List.not_mem_nil, or_false]
  constructor
  · rintro ⟨h1, ⟨h2, h3⟩, h4, h5⟩
    refine ⟨⟨h1, h2, h4⟩, fun y hy => ?_⟩
    rcases hy with rfl | rfl
    · exact h3
    · exact h5
  · rintro ⟨⟨h1, h2, h4⟩, h⟩
    exact ⟨h1, ⟨h2, h _ (.inl rfl)⟩, h4, h _ (.inr rfl)⟩
end
theorem begR_step {P A B : Prop} {j : Nat} {b b' : Bool} (hj : j < 2) (hb : b = true ↔ P ∧ (1 ≤ j → A) ∧ (2 ≤ j → B)) (h : b' = true ↔ b = true ∧ (if j = 0 then A else B)) : b' = true ↔ P ∧ (1 ≤ j + 1 → A) ∧ (2 ≤ j + 1 → B) := by
  rw [h, hb]
  rcases (show j = 0 ∨ j = 1 by omega) with rfl | rfl <;> simp [and_assoc]
set_option maxHeartbeats 4000000 in
theorem ct_s_l26Next (k p n T : Int) (ts : List Ten) (ss : List Stp) (S C : List Int) (vt vo v vs vb vc : Value) (w : World) (r : TensR ts vt (hp w)) (rv : StepsR ss v (hp w)) (rs : IntsR (stL S) vs (hp w)) (rb : BoolsR (begL S) vb (hp w)) (rc : IntsR C vc (hp w)) (hts : ts.length ≤ 100) (hss : ss.length ≤ 100) (hS : S.length = ss.length) (hC : C.length = ss.length) (hT : 0 ≤ T)
    (hb : ∀ i, -1 ≤ S.getD i 0 ∧ S.getD i 0 ≤ 1000000000000) (hcb : ∀ i, 0 ≤ C.getD i 0 ∧ C.getD i 0 ≤ 1000000000) (hlt : ∀ (i : Nat) x, ss[i]? = some x → x.a < (ts.length : Int) + i ∧ x.b < (ts.length : Int) + i) :
    Calls Try.prog 107 [netV k p n vt vo, v, vs, vb, vc, num T].toArray w (RetV w (num (firstK ts.length ss C S T ss.length))) := by
  have hsl := stL_len S
  have hbl := begL_len S
  refine calls_in Try.func107 rfl Try.ntmps107 rfl (Sat.start w) ?_
  have hle0 := r.le
  obtain ⟨cs_r, rr_r, hc_r⟩ := r.at
  have hle1 := rv.le
  obtain ⟨cs_rv, rr_rv, hc_rv⟩ := rv.at
  have hle2 := rs.le
  have hle3 := rb.le
  have hle4 := rc.le
  refine wp_sc ?_
  refine wp_sq ?_
  refine sq_x rfl (x_box rfl rfl) rfl ?_; rintro _ _ ⟨b6, rfl, rfl⟩
  refine sq_v rfl (v_assign rfl) rfl ?_
  refine sq_end ?_
  refine qs_n ?_
  refine wp_sc ?_
  refine wp_sq ?_
  refine sq_v rfl (v_fieldAddr fd_48_1 ty_46 (by decide) rfl) rfl ?_
  refine sq_v rfl (v_loadB 0 ty_46 rfl rfl rfl) rfl ?_
  refine sq_v rfl (v_len Try.underlying46 rfl r.sl) rfl ?_
  refine sq_v rfl (v_assign rfl) rfl ?_
  refine sq_end ?_
  refine qs_n ?_
  refine wp_sc ?_
  refine wp_sc ?_
  refine wp_sq ?_
  refine sq_v rfl (v_move rfl) rfl ?_
  refine sq_v rfl (v_len Try.underlying43 rfl rv.sl) rfl ?_
  refine sq_v rfl (v_move rfl) rfl ?_
  refine sq_end ?_
  refine qs_n ?_
  refine wp_bl ?_
  refine wp_lp (σ := Nat) (fun z_ => [(2, vs), (3, vb), (4, vc), (5, num T), (12, num 0), (13, num ts.length), (22, v), (23, num ss.length), (24, num z_)]) (fun z_ => [box b6 [num k, num p, num n, vt, vo] 48, hp w]) (fun z_ => z_ ≤ ss.length ∧ (∀ j, j < z_ → ¬ rdy ts.length ss C S T j)) (fun z_ => ss.length - z_) 0 (⟨by omega, fun j hj => absurd hj (by omega)⟩) ⟨rfl, rfl, rfl, rfl, rfl, rfl, rfl, rfl, (by first | rfl | exact ksub rfl (by first | omega | (simp; done) | (simp; omega))), trivial⟩ (fun _ s => s) ?_
  rintro i ⟨hi, h0⟩
  refine wp_sc ?_
  refine wp_sq ?_
  refine sq_v rfl (v_lss rfl rfl) rfl ?_
  refine sq_end ?_
  refine qs_n ?_
  refine wp_sc ?_
  refine wp_cd rfl (fun c25 => ?_) (fun c25 => ?_)
  · refine wp_sk ?_
    refine qs_n ?_
    refine wp_sc ?_
    refine wp_bl ?_
    refine wp_sc ?_
    refine wp_sq ?_
    refine sq_v rfl (v_move rfl) rfl ?_
    obtain ⟨x27, hx27, hcs27⟩ := hc_rv (i) (by first | omega | (rw [List.length_set]; omega))
    refine sq_v rfl (v_indexAddr Try.underlying43 ty_114 rfl rfl rr_rv (by decide) (by omega) (by first | omega | (rw [List.length_set]; omega))) rfl ?_
    refine sq_v rfl (v_loadNE 1 ty_114 rfl rfl rr_rv (by have := rr_rv.1; omega) rfl hcs27) rfl ?_
    refine sq_x rfl (x_alloc ty_114 rfl) rfl ?_; rintro _ _ ⟨b15, rfl, rfl⟩
    refine sq_v rfl (v_assign rfl) rfl ?_
    refine sq_m 0 rfl rfl (m_store 0 ty_114 rfl rfl rfl rfl (by simp [Value.oneCell']) rfl (Nat.le_of_ble_eq_true rfl)) rfl ?_; rintro _ _ ⟨rfl, rfl⟩
    refine sq_end ?_
    have e27 : ss.getD i ⟨0, 0⟩ = x27 := by simp [List.getD, hx27]
    have hl27 := hlt i x27 hx27
    have hbi := begL_true (S := S) (i := i) (by omega)
    refine qs_n ?_
    refine wp_sc ?_
    refine wp_sq ?_
    refine sq_v rfl (v_move rfl) rfl ?_
    refine sq_v rfl (v_move rfl) rfl ?_
    refine sq_v rfl (v_idxB Try.underlying128 ty_4 rfl rfl rb (by first | omega | (simp only [List.length_cons, List.length_nil]; omega) | (simp only [List.length_append, List.length_cons, List.length_nil]; omega) | (rw [List.length_set]; omega) | (rw [List.length_replicate]; omega) | (simp; omega)) (by first | omega | (simp only [List.length_cons, List.length_nil]; omega) | (simp only [List.length_append, List.length_cons, List.length_nil]; omega) | (rw [List.length_set]; omega) | (rw [List.length_replicate]; omega) | (simp; omega))) rfl ?_
    refine sq_v rfl (v_loadBl (k := i) 2 ty_4 rfl rfl rb (by first | omega | (simp only [List.length_cons, List.length_nil]; omega) | (simp only [List.length_append, List.length_cons, List.length_nil]; omega) | (rw [List.length_set]; omega) | (rw [List.length_replicate]; omega) | (simp; omega))) rfl ?_
    refine sq_v rfl (v_not rfl) rfl ?_
    refine sq_v rfl (v_assign rfl) rfl ?_
    refine sq_end ?_
    refine qs_n ?_
    refine wp_sc ?_
    refine wp_sc ?_
    refine wp_sq ?_
    refine sq_v rfl (v_fieldAddr fd_114_0 ty_3 (by decide) rfl) rfl ?_
    refine sq_v rfl (v_loadB 0 ty_3 rfl rfl rfl) rfl ?_
    refine sq_v rfl (v_fieldAddr fd_114_1 ty_3 (by decide) rfl) rfl ?_
    refine sq_v rfl (v_loadB 0 ty_3 rfl rfl rfl) rfl ?_
    refine sq_x rfl (x_buildS [num (x27.a), num (x27.b)] Try.underlying24 ty_3 (by decide) rfl rfl rfl (by decide) (by decide) (by intro v hv; simp at hv; rcases hv with rfl | rfl <;> rfl)) rfl ?_; intro v38 h38 (r38 : IntsO [x27.a, x27.b] v38 h38)
    refine sq_v rfl (v_len Try.underlying24 rfl r38.toR.sl) rfl ?_
    refine sq_v rfl (v_move rfl) rfl ?_
    refine sq_end ?_
    refine qs_n ?_
    refine wp_bl ?_
    refine wp_lp (σ := Nat × Bool) (fun z_ => [(2, vs), (3, vb), (4, vc), (5, num T), (12, num 0), (13, num ts.length), (14, num i), (15, .pointer (some ⟨b15, 0, none⟩)), (16, .bool z_.2), (22, v), (23, num ss.length), (24, num i), (25, .bool (decide ((i : Int) < ss.length))), (26, num i), (28, .agg [num x27.a, num x27.b].toArray), (29, vb), (30, num i), (32, .bool ((begL S).getD i false)), (33, .bool (!((begL S).getD i false))), (34, .pointer (some ⟨b15, 0, none⟩)), (35, num x27.a), (36, .pointer (some ⟨b15, 1, none⟩)), (37, num x27.b), (38, v38), (39, num [x27.a, x27.b].length), (40, num z_.1)]) (fun z_ => [h38, box b15 [num x27.a, num x27.b] 114, box b6 [num k, num p, num n, vt, vo] 48, hp w]) (fun z_ => z_.1 ≤ 2 ∧ (z_.2 = true ↔ S.getD i 0 < 0 ∧ (1 ≤ z_.1 → x27.a < ts.length ∨ 0 ≤ S.getD (x27.a - ts.length).toNat 0) ∧ (2 ≤ z_.1 → x27.b < ts.length ∨ 0 ≤ S.getD (x27.b - ts.length).toNat 0))) (fun z_ => 2 - z_.1) (0, (!((begL S).getD i false))) (⟨by (try dsimp only); omega, by (try dsimp only); rw [Bool.not_eq_true', begL_false (by omega)]; simp⟩) ⟨rfl, rfl, rfl, rfl, rfl, rfl, rfl, rfl, (by first | rfl | exact ksub rfl (by first | omega | (simp; done) | (simp; omega))), rfl, rfl, rfl, rfl, rfl, rfl, rfl, rfl, rfl, rfl, rfl, rfl, rfl, rfl, rfl, rfl, (by first | rfl | exact ksub rfl (by first | omega | (simp; done) | (simp; omega))), trivial⟩ (fun _ s => s) ?_
    rintro ⟨j, b⟩ ⟨hj, hb1⟩
    dsimp only at hj hb1 ⊢
    have hl2 : ([x27.a, x27.b] : List Int).length = 2 := rfl
    refine wp_sc ?_
    refine wp_sq ?_
    refine sq_v rfl (v_lss rfl rfl) rfl ?_
    refine sq_end ?_
    refine qs_n ?_
    refine wp_sc ?_
    refine wp_cd rfl (fun c41 => ?_) (fun c41 => ?_)
    · refine wp_sk ?_
      refine qs_n ?_
      refine wp_sc ?_
      refine wp_bl ?_
      refine wp_sc ?_
      refine wp_sq ?_
      refine sq_v rfl (v_idxI Try.underlying24 ty_3 rfl rfl r38.toR (by first | omega | (simp only [List.length_cons, List.length_nil]; omega) | (simp only [List.length_append, List.length_cons, List.length_nil]; omega) | (rw [List.length_set]; omega) | (rw [List.length_replicate]; omega) | (simp; omega)) (by first | omega | (simp only [List.length_cons, List.length_nil]; omega) | (simp only [List.length_append, List.length_cons, List.length_nil]; omega) | (rw [List.length_set]; omega) | (rw [List.length_replicate]; omega) | (simp; omega))) rfl ?_
      refine sq_v rfl (v_loadI (k := j) 0 ty_3 rfl rfl r38.toR (by first | omega | (simp only [List.length_cons, List.length_nil]; omega) | (simp only [List.length_append, List.length_cons, List.length_nil]; omega) | (rw [List.length_set]; omega) | (rw [List.length_replicate]; omega) | (simp; omega))) rfl ?_
      refine sq_v rfl (v_assign rfl) rfl ?_
      refine sq_end ?_
      have hy : ([x27.a, x27.b] : List Int).getD j 0 < (ts.length : Int) + i := by rcases (show j = 0 ∨ j = 1 by omega) with rfl | rfl; exact hl27.1; exact hl27.2
      have hYA : (if j = 0 then (x27.a < ts.length ∨ 0 ≤ S.getD (x27.a - ts.length).toNat 0) else (x27.b < ts.length ∨ 0 ≤ S.getD (x27.b - ts.length).toNat 0)) ↔ (([x27.a, x27.b] : List Int).getD j 0 < ts.length ∨ 0 ≤ S.getD (([x27.a, x27.b] : List Int).getD j 0 - ts.length).toNat 0) := by rcases (show j = 0 ∨ j = 1 by omega) with rfl | rfl <;> exact Iff.rfl
      refine qs_n ?_
      refine wp_sq ?_
      refine sq_bb 16 rfl (fun c16 => ?_) (fun c16 => ?_)
      · refine sq_v rfl (v_move rfl) rfl ?_
        refine sq_v rfl (v_move rfl) rfl ?_
        refine sq_v rfl (v_move rfl) rfl ?_
        refine sq_v rfl (v_move rfl) rfl ?_
        refine sq_v rfl (v_lss rfl rfl) rfl ?_
        refine sq_bd 48 rfl (fun c48 => ?_) (fun c48 => ?_)
        · refine sq_v rfl (v_move rfl) rfl ?_
          refine sq_s rfl rfl ?_
          refine sq_s rfl rfl ?_
          refine sq_s rfl rfl ?_
          refine sq_s rfl rfl ?_
          refine sq_s rfl rfl ?_
          refine sq_s rfl rfl ?_
          refine sq_v rfl (v_pickt rfl rfl) rfl ?_
          refine sq_v rfl (v_pickt rfl rfl) rfl ?_
          refine sq_v rfl (v_assign rfl) rfl ?_
          refine sq_end ?_
          refine qs_bn ?_
          refine qs_n ?_
          refine wp_sq ?_
          refine sq_v rfl (v_add rfl rfl ((by unfold I64; omega))) rfl ?_
          refine sq_v rfl (v_move rfl) rfl ?_
          refine sq_end ?_
          exact qs_bk (j + 1, true) ⟨by (try dsimp only); omega, begR_step (by omega) hb1 ⟨fun _ => ⟨c16, hYA.2 (.inl c48)⟩, fun _ => rfl⟩⟩ (by simp only; omega) ⟨rfl, rfl, rfl, rfl, rfl, rfl, rfl, rfl, (by first | rfl | exact ksub rfl (by first | omega | (simp; done) | (simp; omega))), rfl, rfl, rfl, rfl, rfl, rfl, rfl, rfl, rfl, rfl, rfl, rfl, rfl, rfl, rfl, rfl, (by first | rfl | exact ksub rfl (by first | omega | (simp; done) | (simp; omega))), trivial⟩ (fun _ s => s)
        · refine sq_v rfl (v_move rfl) rfl ?_
          refine sq_v rfl (v_move rfl) rfl ?_
          refine sq_v rfl (v_move rfl) rfl ?_
          refine sq_v rfl (v_move rfl) rfl ?_
          refine sq_v rfl (v_sub rfl rfl ((by unfold I64; omega))) rfl ?_
          refine sq_v rfl (v_idxB Try.underlying128 ty_4 rfl rfl rb (by first | omega | (simp only [List.length_cons, List.length_nil]; omega) | (simp only [List.length_append, List.length_cons, List.length_nil]; omega) | (rw [List.length_set]; omega) | (rw [List.length_replicate]; omega) | (simp; omega)) (by first | omega | (simp only [List.length_cons, List.length_nil]; omega) | (simp only [List.length_append, List.length_cons, List.length_nil]; omega) | (rw [List.length_set]; omega) | (rw [List.length_replicate]; omega) | (simp; omega))) rfl ?_
          refine sq_v rfl (v_loadBl  3 ty_4 rfl rfl rb (by first | omega | (simp only [List.length_cons, List.length_nil]; omega) | (simp only [List.length_append, List.length_cons, List.length_nil]; omega) | (rw [List.length_set]; omega) | (rw [List.length_replicate]; omega) | (simp; omega))) rfl ?_
          refine sq_v rfl (v_pickf rfl rfl) rfl ?_
          refine sq_v rfl (v_pickt rfl rfl) rfl ?_
          refine sq_v rfl (v_assign rfl) rfl ?_
          refine sq_end ?_
          refine qs_bn ?_
          refine qs_n ?_
          refine wp_sq ?_
          refine sq_v rfl (v_add rfl rfl ((by unfold I64; omega))) rfl ?_
          refine sq_v rfl (v_move rfl) rfl ?_
          refine sq_end ?_
          exact qs_bk (j + 1, (begL S).getD (([x27.a, x27.b] : List Int).getD j 0 - ts.length).toNat false) ⟨by (try dsimp only); omega, begR_step (by omega) hb1 ⟨fun h => ⟨c16, hYA.2 (.inr ((begL_true (by omega)).1 h))⟩, fun h => (begL_true (by omega)).2 ((hYA.1 h.2).resolve_left (by omega))⟩⟩ (by simp only; omega) ⟨rfl, rfl, rfl, rfl, rfl, rfl, rfl, rfl, (by first | rfl | exact ksub rfl (by first | omega | (simp; done) | (simp; omega))), rfl, rfl, rfl, rfl, rfl, rfl, rfl, rfl, rfl, rfl, rfl, rfl, rfl, rfl, rfl, rfl, (by first | rfl | exact ksub rfl (by first | omega | (simp; done) | (simp; omega))), trivial⟩ (fun _ s => s)
      · refine sq_v rfl (v_move rfl) rfl ?_
        refine sq_v rfl (v_move rfl) rfl ?_
        refine sq_s rfl rfl ?_
        refine sq_s rfl rfl ?_
        refine sq_s rfl rfl ?_
        refine sq_s rfl rfl ?_
        refine sq_s rfl rfl ?_
        refine sq_s rfl rfl ?_
        refine sq_s rfl rfl ?_
        refine sq_s rfl rfl ?_
        refine sq_s rfl rfl ?_
        refine sq_s rfl rfl ?_
        refine sq_s rfl rfl ?_
        refine sq_v rfl (v_pickf rfl rfl) rfl ?_
        refine sq_v rfl (v_assign rfl) rfl ?_
        refine sq_end ?_
        refine qs_bn ?_
        refine qs_n ?_
        refine wp_sq ?_
        refine sq_v rfl (v_add rfl rfl ((by unfold I64; omega))) rfl ?_
        refine sq_v rfl (v_move rfl) rfl ?_
        refine sq_end ?_
        exact qs_bk (j + 1, false) ⟨by (try dsimp only); omega, begR_step (by omega) hb1 ⟨fun h => by simp at h, fun h => absurd h.1 (by rw [c16]; decide)⟩⟩ (by simp only; omega) ⟨rfl, rfl, rfl, rfl, rfl, rfl, rfl, rfl, (by first | rfl | exact ksub rfl (by first | omega | (simp; done) | (simp; omega))), rfl, rfl, rfl, rfl, rfl, rfl, rfl, rfl, rfl, rfl, rfl, rfl, rfl, rfl, rfl, rfl, (by first | rfl | exact ksub rfl (by first | omega | (simp; done) | (simp; omega))), trivial⟩ (fun _ s => s)
    · refine wp_ex ?_
      refine qs_x ?_
      refine qs_x ?_
      refine qs_bx ?_
      refine qs_n ?_
      refine wp_sc ?_
      refine wp_sq ?_
      refine sq_bb 16 rfl (fun c16 => ?_) (fun c16 => ?_)
      · refine sq_v rfl (v_move rfl) rfl ?_
        refine sq_v rfl (v_move rfl) rfl ?_
        refine sq_v rfl (v_move rfl) rfl ?_
        refine sq_v rfl (v_loadNB 1 ty_114 rfl rfl rfl rfl) rfl ?_
        refine sq_v rfl (v_move rfl) rfl ?_
        refine sq_v rfl (v_move rfl) rfl ?_
        have hst : ∀ j, j < (stL S).length → 0 ≤ (stL S).getD j 0 ∧ (stL S).getD j 0 ≤ 10000000000000 := (fun j _ => by rw [stL_get]; have := hb j; split <;> omega); have hb2 : b = true ↔ (S.getD i 0 < 0 ∧ (x27.a < ts.length ∨ 0 ≤ S.getD (x27.a - ts.length).toNat 0) ∧ (x27.b < ts.length ∨ 0 ≤ S.getD (x27.b - ts.length).toNat 0)) := (by rw [hb1, show j = 2 by simp at hj c41; omega]; simp)
        refine sq_u rfl (x_callv rfl en_198 (fun w s => ct_s_l26Ready _ _ _ _ _ _ _ w (rs.mono (s.get 3 rfl)) (rc.mono (s.get 3 rfl)) (by omega) (by omega) (by omega) (by omega) hst (fun j _ => hcb j))) rfl ?_
        refine sq_v rfl (v_move rfl) rfl ?_
        refine sq_v rfl (v_leq rfl rfl) rfl ?_
        refine sq_v rfl (v_pickt rfl rfl) rfl ?_
        refine sq_end ?_
        refine qs_n ?_
        refine wp_cd rfl (fun c68 => ?_) (fun c68 => ?_)
        · refine wp_sc ?_
          refine wp_sq ?_
          refine sq_v rfl (v_move rfl) rfl ?_
          refine sq_v rfl (v_assign rfl) rfl ?_
          refine sq_end ?_
          refine qs_n ?_
          refine wp_rt ?_
          refine qs_br ?_
          refine qs_r ?_
          refine qs_r ?_
          refine qs_br ?_
          refine qs_r ?_
          exact qs_ret1 rfl rfl (fin_q (i := 3) rfl (by rw [firstK_at h0 ((rdy_iff e27 hT).2 ⟨hb2.1 c16, c68⟩) ss.length (by omega)]))
        · refine wp_sk ?_
          refine qs_bn ?_
          refine qs_n ?_
          refine wp_sq ?_
          refine sq_v rfl (v_add rfl rfl ((by unfold I64; omega))) rfl ?_
          refine sq_v rfl (v_move rfl) rfl ?_
          refine sq_end ?_
          exact qs_bk (i + 1) ⟨by omega, nrdy_step h0 (fun h => c68 ((rdy_iff e27 hT).1 h).2)⟩ (by omega) ⟨rfl, rfl, rfl, rfl, rfl, rfl, rfl, rfl, (by first | rfl | exact ksub rfl (by first | omega | (simp; done) | (simp; omega))), trivial⟩ (fun _ s => s.pick [2, 3] (by decide) rfl)
      · refine sq_v rfl (v_move rfl) rfl ?_
        refine sq_v rfl (v_move rfl) rfl ?_
        refine sq_s rfl rfl ?_
        refine sq_s rfl rfl ?_
        refine sq_s rfl rfl ?_
        refine sq_s rfl rfl ?_
        refine sq_s rfl rfl ?_
        refine sq_s rfl rfl ?_
        refine sq_s rfl rfl ?_
        refine sq_v rfl (v_pickf rfl rfl) rfl ?_
        refine sq_end ?_
        refine qs_n ?_
        refine wp_cf rfl ?_
        refine wp_sk ?_
        refine qs_bn ?_
        refine qs_n ?_
        refine wp_sq ?_
        refine sq_v rfl (v_add rfl rfl ((by unfold I64; omega))) rfl ?_
        refine sq_v rfl (v_move rfl) rfl ?_
        refine sq_end ?_
        exact qs_bk (i + 1) ⟨by omega, nrdy_step h0 (fun h => absurd ((hb1.2 (by rw [show j = 2 by simp at hj c41; omega]; simpa using ((rdy_iff e27 hT).1 h).1))) (by rw [c16]; decide))⟩ (by omega) ⟨rfl, rfl, rfl, rfl, rfl, rfl, rfl, rfl, (by first | rfl | exact ksub rfl (by first | omega | (simp; done) | (simp; omega))), trivial⟩ (fun _ s => s.pick [2, 3] (by decide) rfl)
  · refine wp_ex ?_
    refine qs_x ?_
    refine qs_x ?_
    refine qs_bx ?_
    refine qs_n ?_
    refine wp_sc ?_
    refine wp_sq ?_
    refine sq_v rfl (v_assign rfl) rfl ?_
    refine sq_end ?_
    refine qs_n ?_
    refine wp_rt ?_
    exact qs_ret1 rfl rfl (fin_q (i := 1) rfl (by rw [firstK_none _ (fun j hj => h0 j (by omega))]))
set_option maxHeartbeats 4000000 in
theorem ct_s_ListSchedule (k p n W : Int) (ts : List Ten) (op : List Int) (ss : List Stp) (vt vo v : Value) (w : World) (r : TensR ts vt (hp w)) (r' : IntsR op vo (hp w)) (rv : StepsR ss v (hp w)) (hs : op.length ≤ 1048576) (hss : ss.length ≤ 1048576) :
    Calls Try.prog 45 [netV k p n vt vo, v, num W].toArray w (Ret w emp (IntsB (lschR k p n ts op ss W) (lschB k p n ts op ss W))) := by
  refine calls_in Try.func45 rfl Try.ntmps45 rfl (Sat.start w) ?_
  have hle0 := r.le
  obtain ⟨cs_r, rr_r, hc_r⟩ := r.at
  have hle1 := r'.le
  have hle2 := rv.le
  obtain ⟨cs_rv, rr_rv, hc_rv⟩ := rv.at
  refine wp_sc ?_
  refine wp_sq ?_
  refine sq_x rfl (x_box rfl rfl) rfl ?_; rintro _ _ ⟨b3, rfl, rfl⟩
  refine sq_v rfl (v_assign rfl) rfl ?_
  refine sq_v rfl (v_assign rfl) rfl ?_
  refine sq_end ?_
  refine qs_n ?_
  refine wp_sc ?_
  refine wp_sc ?_
  refine wp_sq ?_
  refine sq_v rfl (v_loadNB 0 ty_48 rfl rfl rfl rfl) rfl ?_
  refine sq_v rfl (v_move rfl) rfl ?_
  refine sq_u rfl (x_callv rfl en_105 (fun w s => ct_s_OrderOk _ _ _ _ _ _ _ _ _ w (r.mono (s.get 1 rfl)) (r'.mono (s.get 1 rfl)) (rv.mono (s.get 1 rfl)) (by first | assumption | omega) (by first | assumption | omega))) rfl ?_
  refine sq_bb 21 rfl (fun c21 => ?_) (fun c21 => ?_)
  · refine sq_v rfl (v_not rfl) rfl ?_
    refine sq_v rfl (v_move rfl) rfl ?_
    refine sq_v rfl (v_move rfl) rfl ?_
    refine sq_u rfl (x_callv rfl en_95 (fun w s => ct_s_l01In _ _ _ w)) rfl ?_
    refine sq_v rfl (v_not rfl) rfl ?_
    refine sq_v rfl (v_pickf rfl rfl) rfl ?_
    refine sq_end ?_
    refine qs_n ?_
    refine wp_cnd rfl (fun c27 => ?_) (fun c27 => ?_)
    · refine wp_sc ?_
      refine wp_sq ?_
      refine sq_v rfl (v_assign rfl) rfl ?_
      refine sq_v rfl (v_assign rfl) rfl ?_
      refine sq_end ?_
      refine qs_n ?_
      refine wp_rt ?_
      refine qs_r ?_
      exact qs_ret2 rfl rfl rfl (fin_e (i := 1) rfl (SchedNo (fun h => c27 h.2)))
    · refine wp_sk ?_
      refine qs_n ?_
      refine wp_sc ?_
      refine wp_sq ?_
      refine sq_v rfl (v_loadNB 0 ty_48 rfl rfl rfl rfl) rfl ?_
      refine sq_v rfl (v_move rfl) rfl ?_
      have hord := orderB_true.1 c21; have hnet := hord.1; have h12 := hnet.2.1; have hsl := hord.2.1; obtain ⟨C, hC⟩ : ∃ C, C = costsL (dimOf ts) op (sh0 ts) ss := ⟨_, rfl⟩; have hci := costs_in hord; rw [← hC] at hci; have hcl : C.length = ss.length := (by rw [hC, costsL_len]); have hlt := steps_lt2 hord; have hcb : ∀ i, 0 ≤ C.getD i 0 ∧ C.getD i 0 ≤ 1000000000 := (fun i => by rcases Nat.lt_or_ge i ss.length with h' | h'; (have := hci i h'; omega); (have : C.getD i 0 = 0 := (by simp [List.getD, show C.length ≤ i by omega])); omega)
      refine sq_x rfl (x_call rfl en_106 (fun w s => ct_s_l17Run (dimOf ts) _ _ _ _ _ _ _ _ _ w _ (s.get 1 rfl) r (r'.mono (s.get 1 rfl)) (rv.mono (s.get 1 rfl)) (net_dmap hnet) (by first | assumption | omega) (by first | assumption | omega) (sh0_fine (net_axes hnet)) (net_fit hnet) hord.2.2 (by first | assumption | omega))) rfl ?_; rintro _ h31 ⟨bb, vc, g1, g2, rfl, hsp, rc, md⟩
      refine sq_v rfl (v_move rfl) rfl ?_
      refine sq_v rfl (v_extract rfl rfl) rfl ?_
      refine sq_v rfl (v_extract rfl rfl) rfl ?_
      refine sq_v rfl (v_assign rfl) rfl ?_
      refine sq_v rfl (v_assign rfl) rfl ?_
      refine sq_end ?_
      have rc' : IntsR C vc h31 := by rw [hC]; exact rc.toR.mono (md.le g2 (by simp))
      have hts1 : ts.length ≤ 100 := by omega
      have hss1 : ss.length ≤ 100 := by omega
      refine qs_n ?_
      refine wp_sc ?_
      refine wp_sq ?_
      refine sq_v rfl (v_move rfl) rfl ?_
      refine sq_v rfl (v_len Try.underlying43 rfl rv.sl) rfl ?_
      refine sq_x rfl (x_makeI Try.underlying24 ty_3 rfl rfl (by first | omega | (simp only [List.length_cons, List.length_nil]; omega) | (simp only [List.length_append, List.length_cons, List.length_nil]; omega) | (rw [List.length_set]; omega) | (rw [List.length_replicate]; omega) | (simp; omega)) (by first | omega | (simp only [List.length_cons, List.length_nil]; omega) | (simp only [List.length_append, List.length_cons, List.length_nil]; omega) | (rw [List.length_set]; omega) | (rw [List.length_replicate]; omega) | (simp; omega)) (by first | omega | (simp only [List.length_cons, List.length_nil]; omega) | (simp only [List.length_append, List.length_cons, List.length_nil]; omega) | (rw [List.length_set]; omega) | (rw [List.length_replicate]; omega) | (simp; omega))) rfl ?_; intro v36 h36 r36
      refine sq_v rfl (v_assign rfl) rfl ?_
      refine sq_end ?_
      refine qs_n ?_
      refine wp_sc ?_
      refine wp_sq ?_
      refine sq_v rfl (v_move rfl) rfl ?_
      refine sq_v rfl (v_len Try.underlying43 rfl rv.sl) rfl ?_
      refine sq_x rfl (x_makeBl Try.underlying128 ty_4 rfl rfl (by first | omega | (simp only [List.length_cons, List.length_nil]; omega) | (simp only [List.length_append, List.length_cons, List.length_nil]; omega) | (rw [List.length_set]; omega) | (rw [List.length_replicate]; omega) | (simp; omega)) (by first | omega | (simp only [List.length_cons, List.length_nil]; omega) | (simp only [List.length_append, List.length_cons, List.length_nil]; omega) | (rw [List.length_set]; omega) | (rw [List.length_replicate]; omega) | (simp; omega)) (by first | omega | (simp only [List.length_cons, List.length_nil]; omega) | (simp only [List.length_append, List.length_cons, List.length_nil]; omega) | (rw [List.length_set]; omega) | (rw [List.length_replicate]; omega) | (simp; omega))) rfl ?_; intro v39 h39 r39
      refine sq_v rfl (v_assign rfl) rfl ?_
      refine sq_end ?_
      refine qs_n ?_
      refine wp_sc ?_
      refine wp_sq ?_
      refine sq_v rfl (v_assign rfl) rfl ?_
      refine sq_end ?_
      refine qs_n ?_
      refine wp_sc ?_
      refine wp_sc ?_
      refine wp_sq ?_
      refine sq_v rfl (v_move rfl) rfl ?_
      refine sq_v rfl (v_len Try.underlying43 rfl rv.sl) rfl ?_
      refine sq_v rfl (v_assign rfl) rfl ?_
      refine sq_end ?_
      refine qs_n ?_
      refine wp_bl ?_
      refine wp_lp (σ := (List Int) × Int × Int × PH × PH) (fun z_ => [(1, v), (2, num W), (3, .pointer (some ⟨b3, 0, none⟩)), (6, .slice none 0 0), (7, .bool false), (9, vc), (10, v36), (11, v39), (12, num z_.2.1), (13, num z_.2.2.1)]) (fun z_ => [z_.2.2.2.2, z_.2.2.2.1, h31, box b3 [num k, num p, num n, vt, vo] 48, hp w]) (fun z_ => z_.1.length = ss.length ∧ reach ts.length ss C W ss.length z_.1 z_.2.1 ∧ (∀ i, -1 ≤ z_.1.getD i 0 ∧ z_.1.getD i 0 ≤ z_.2.1) ∧ (0 ≤ z_.2.1 ∧ z_.2.1 + 1000000000 * (mu C z_.1 z_.2.1 ss.length : Int) ≤ 1000000000 * (2 * ss.length)) ∧ runC C z_.1 z_.2.1 ss.length ≤ W ∧ z_.2.2.1 = negC z_.1 ss.length ∧ IntsO (stL z_.1) v36 z_.2.2.2.1 ∧ BoolsO (begL z_.1) v39 z_.2.2.2.2) (fun z_ => mu C z_.1 z_.2.1 ss.length) ((List.replicate ss.length (-1)), 0, (ss.length : Int), h36, h39) (⟨by (try dsimp only); simp, ⟨0, 0, rfl, .inl rfl⟩, fun i => rep_bounds _ _, by (try dsimp only); have := mu_le (C := C) (S := List.replicate ss.length (-1)) (T := 0) ss.length; omega, by (try dsimp only); rw [runC_none _ (fun i hi => by simp [List.getD, hi])]; omega, by (try dsimp only); rw [negC_all (fun i hi => by simp [List.getD, hi])], by (try dsimp only); rw [stL_rep]; simpa using r36, by (try dsimp only); rw [begL_rep]; simpa using r39⟩) ⟨rfl, rfl, rfl, rfl, rfl, rfl, rfl, rfl, (by first | rfl | exact ksub rfl (by first | omega | (simp; done) | (simp; omega))), (by first | rfl | exact ksub rfl (by first | omega | (simp; done) | (simp; omega))), trivial⟩ (fun _ s => s) ?_
      rintro ⟨S, T, l, ga, gb⟩ ⟨hSl, hre, hSb, hnow, hrun, hl, qa, qb⟩
      dsimp only at hSl hre hSb hnow hrun hl qa qb ⊢
      have hle_qa := qa.toR.le
      have hle_qb := qb.toR.le
      have hsl2 := stL_len S
      have hbl2 := begL_len S
      have hng := negC_in (S := S) ss.length
      refine wp_sc ?_
      refine wp_sc ?_
      refine wp_sq ?_
      refine sq_v rfl (v_move rfl) rfl ?_
      refine sq_v rfl (v_gtr rfl rfl) rfl ?_
      refine sq_end ?_
      refine qs_n ?_
      refine wp_cd rfl (fun c43 => ?_) (fun c43 => ?_)
      · refine wp_sk ?_
        refine qs_n ?_
        refine wp_bl ?_
        refine wp_sc ?_
        refine wp_sq ?_
        refine sq_v rfl (v_assign rfl) rfl ?_
        refine sq_end ?_
        refine qs_n ?_
        refine wp_sc ?_
        refine wp_sq ?_
        refine sq_v rfl (v_assign rfl) rfl ?_
        refine sq_end ?_
        refine qs_n ?_
        refine wp_sc ?_
        refine wp_sc ?_
        refine wp_sq ?_
        refine sq_v rfl (v_move rfl) rfl ?_
        refine sq_v rfl (v_len Try.underlying24 rfl qa.toR.sl) rfl ?_
        refine sq_v rfl (v_move rfl) rfl ?_
        refine sq_end ?_
        refine qs_n ?_
        refine wp_bl ?_
        refine wp_lp (σ := Nat × Int × Int) (fun z_ => [(1, v), (2, num W), (3, .pointer (some ⟨b3, 0, none⟩)), (6, .slice none 0 0), (7, .bool false), (9, vc), (10, v36), (11, v39), (12, num T), (13, num l), (14, num z_.2.1), (15, num z_.2.2), (42, num l), (43, .bool (decide ((0 : Int) < l))), (44, v36), (45, num (stL S).length), (46, num z_.1)]) (fun z_ => [gb, ga, h31, box b3 [num k, num p, num n, vt, vo] 48, hp w]) (fun z_ => z_.1 ≤ ss.length ∧ z_.2.1 = runC C S T z_.1 ∧ z_.2.2 = nextT C S T z_.1) (fun z_ => ss.length - z_.1) (0, 0, -1) (⟨by (try dsimp only); omega, rfl, rfl⟩) ⟨rfl, rfl, rfl, rfl, rfl, rfl, rfl, rfl, rfl, rfl, (by first | rfl | exact ksub rfl (by first | omega | (simp; done) | (simp; omega))), (by first | rfl | exact ksub rfl (by first | omega | (simp; done) | (simp; omega))), rfl, rfl, rfl, rfl, (by first | rfl | exact ksub rfl (by first | omega | (simp; done) | (simp; omega))), trivial⟩ (fun _ s => s) ?_
        rintro ⟨i, c, e⟩ ⟨hi, hc, he⟩
        dsimp only at hi hc he ⊢
        have hrb := runC_in (C := C) (S := S) (T := T) i
        have hnx := nextT_at (C := C) (S := S) hnow.1 i
        have hSi := hSb i
        have hCi := hcb i
        have hst : 0 ≤ (stL S).getD i 0 ∧ (stL S).getD i 0 ≤ T := by rw [stL_get]; split <;> omega
        have hge : 0 ≤ S.getD i 0 → (stL S).getD i 0 = S.getD i 0 := fun h => by rw [stL_get, if_neg (by omega)]
        refine wp_sc ?_
        refine wp_sq ?_
        refine sq_v rfl (v_lss rfl rfl) rfl ?_
        refine sq_end ?_
        refine qs_n ?_
        refine wp_sc ?_
        refine wp_cd rfl (fun c47 => ?_) (fun c47 => ?_)
        · refine wp_sk ?_
          refine qs_n ?_
          refine wp_sc ?_
          refine wp_bl ?_
          refine wp_sc ?_
          refine wp_sq ?_
          refine sq_v rfl (v_move rfl) rfl ?_
          refine sq_v rfl (v_idxI Try.underlying24 ty_3 rfl rfl qa.toR (by first | omega | (simp only [List.length_cons, List.length_nil]; omega) | (simp only [List.length_append, List.length_cons, List.length_nil]; omega) | (rw [List.length_set]; omega) | (rw [List.length_replicate]; omega) | (simp; omega)) (by first | omega | (simp only [List.length_cons, List.length_nil]; omega) | (simp only [List.length_append, List.length_cons, List.length_nil]; omega) | (rw [List.length_set]; omega) | (rw [List.length_replicate]; omega) | (simp; omega))) rfl ?_
          refine sq_v rfl (v_loadI (k := i) 1 ty_3 rfl rfl qa.toR (by first | omega | (simp only [List.length_cons, List.length_nil]; omega) | (simp only [List.length_append, List.length_cons, List.length_nil]; omega) | (rw [List.length_set]; omega) | (rw [List.length_replicate]; omega) | (simp; omega))) rfl ?_
          refine sq_v rfl (v_assign rfl) rfl ?_
          refine sq_v rfl (v_assign rfl) rfl ?_
          refine sq_end ?_
          have hbi := begL_true (S := S) (i := i) (by omega)
          refine qs_n ?_
          refine wp_sc ?_
          refine wp_sq ?_
          refine sq_v rfl (v_move rfl) rfl ?_
          refine sq_v rfl (v_move rfl) rfl ?_
          refine sq_v rfl (v_idxB Try.underlying128 ty_4 rfl rfl qb.toR (by first | omega | (simp only [List.length_cons, List.length_nil]; omega) | (simp only [List.length_append, List.length_cons, List.length_nil]; omega) | (rw [List.length_set]; omega) | (rw [List.length_replicate]; omega) | (simp; omega)) (by first | omega | (simp only [List.length_cons, List.length_nil]; omega) | (simp only [List.length_append, List.length_cons, List.length_nil]; omega) | (rw [List.length_set]; omega) | (rw [List.length_replicate]; omega) | (simp; omega))) rfl ?_
          refine sq_v rfl (v_loadBl (k := i) 0 ty_4 rfl rfl qb.toR (by first | omega | (simp only [List.length_cons, List.length_nil]; omega) | (simp only [List.length_append, List.length_cons, List.length_nil]; omega) | (rw [List.length_set]; omega) | (rw [List.length_replicate]; omega) | (simp; omega))) rfl ?_
          refine sq_bb 54 rfl (fun c54 => ?_) (fun c54 => ?_)
          · refine sq_v rfl (v_move rfl) rfl ?_
            refine sq_v rfl (v_move rfl) rfl ?_
            refine sq_v rfl (v_move rfl) rfl ?_
            refine sq_v rfl (v_move rfl) rfl ?_
            refine sq_v rfl (v_idxI Try.underlying24 ty_3 rfl rfl rc' (by first | omega | (simp only [List.length_cons, List.length_nil]; omega) | (simp only [List.length_append, List.length_cons, List.length_nil]; omega) | (rw [List.length_set]; omega) | (rw [List.length_replicate]; omega) | (simp; omega)) (by first | omega | (simp only [List.length_cons, List.length_nil]; omega) | (simp only [List.length_append, List.length_cons, List.length_nil]; omega) | (rw [List.length_set]; omega) | (rw [List.length_replicate]; omega) | (simp; omega))) rfl ?_
            refine sq_v rfl (v_loadI (k := i) 2 ty_3 rfl rfl rc' (by first | omega | (simp only [List.length_cons, List.length_nil]; omega) | (simp only [List.length_append, List.length_cons, List.length_nil]; omega) | (rw [List.length_set]; omega) | (rw [List.length_replicate]; omega) | (simp; omega))) rfl ?_
            refine sq_v rfl (v_add rfl rfl ((by unfold I64; omega))) rfl ?_
            refine sq_v rfl (v_move rfl) rfl ?_
            refine sq_v rfl (v_gtr rfl rfl) rfl ?_
            refine sq_v rfl (v_pickt rfl rfl) rfl ?_
            refine sq_end ?_
            refine qs_n ?_
            refine wp_cd rfl (fun c64 => ?_) (fun c64 => ?_)
            · refine wp_sc ?_
              refine wp_sq ?_
              refine sq_v rfl (v_move rfl) rfl ?_
              refine sq_v rfl (v_add rfl rfl ((by unfold I64; omega))) rfl ?_
              refine sq_v rfl (v_assign rfl) rfl ?_
              refine sq_end ?_
              refine qs_n ?_
              refine wp_sc ?_
              refine wp_sq ?_
              refine sq_v rfl (v_move rfl) rfl ?_
              refine sq_v rfl (v_lss rfl rfl) rfl ?_
              refine sq_bd 68 rfl (fun c68 => ?_) (fun c68 => ?_)
              · refine sq_v rfl (v_move rfl) rfl ?_
                refine sq_s rfl rfl ?_
                refine sq_s rfl rfl ?_
                refine sq_s rfl rfl ?_
                refine sq_s rfl rfl ?_
                refine sq_s rfl rfl ?_
                refine sq_s rfl rfl ?_
                refine sq_s rfl rfl ?_
                refine sq_s rfl rfl ?_
                refine sq_v rfl (v_pickt rfl rfl) rfl ?_
                refine sq_end ?_
                refine qs_n ?_
                refine wp_ct rfl ?_
                refine wp_sq ?_
                refine sq_v rfl (v_move rfl) rfl ?_
                refine sq_v rfl (v_move rfl) rfl ?_
                refine sq_v rfl (v_move rfl) rfl ?_
                refine sq_v rfl (v_idxI Try.underlying24 ty_3 rfl rfl rc' (by first | omega | (simp only [List.length_cons, List.length_nil]; omega) | (simp only [List.length_append, List.length_cons, List.length_nil]; omega) | (rw [List.length_set]; omega) | (rw [List.length_replicate]; omega) | (simp; omega)) (by first | omega | (simp only [List.length_cons, List.length_nil]; omega) | (simp only [List.length_append, List.length_cons, List.length_nil]; omega) | (rw [List.length_set]; omega) | (rw [List.length_replicate]; omega) | (simp; omega))) rfl ?_
                refine sq_v rfl (v_loadI (k := i) 2 ty_3 rfl rfl rc' (by first | omega | (simp only [List.length_cons, List.length_nil]; omega) | (simp only [List.length_append, List.length_cons, List.length_nil]; omega) | (rw [List.length_set]; omega) | (rw [List.length_replicate]; omega) | (simp; omega))) rfl ?_
                refine sq_v rfl (v_add rfl rfl ((by unfold I64; omega))) rfl ?_
                refine sq_v rfl (v_assign rfl) rfl ?_
                refine sq_end ?_
                refine qs_bn ?_
                refine qs_n ?_
                refine wp_sq ?_
                refine sq_v rfl (v_add rfl rfl ((by unfold I64; omega))) rfl ?_
                refine sq_v rfl (v_move rfl) rfl ?_
                refine sq_end ?_
                exact qs_bk (i + 1, c + 1, (stL S).getD i 0 + C.getD i 0) ⟨by (try dsimp only); omega, by (try dsimp only); have h1 := hge (hbi.1 c54); rw [runC_yes ⟨hbi.1 c54, by omega⟩, hc], by (try dsimp only); have h1 := hge (hbi.1 c54); rw [nextT_yes ⟨hbi.1 c54, by omega⟩ (by omega), h1]⟩ (by simp only; omega) ⟨rfl, rfl, rfl, rfl, rfl, rfl, rfl, rfl, rfl, rfl, (by first | rfl | exact ksub rfl (by first | omega | (simp; done) | (simp; omega))), (by first | rfl | exact ksub rfl (by first | omega | (simp; done) | (simp; omega))), rfl, rfl, rfl, rfl, (by first | rfl | exact ksub rfl (by first | omega | (simp; done) | (simp; omega))), trivial⟩ (fun _ s => s)
              · refine sq_v rfl (v_move rfl) rfl ?_
                refine sq_v rfl (v_move rfl) rfl ?_
                refine sq_v rfl (v_move rfl) rfl ?_
                refine sq_v rfl (v_move rfl) rfl ?_
                refine sq_v rfl (v_idxI Try.underlying24 ty_3 rfl rfl rc' (by first | omega | (simp only [List.length_cons, List.length_nil]; omega) | (simp only [List.length_append, List.length_cons, List.length_nil]; omega) | (rw [List.length_set]; omega) | (rw [List.length_replicate]; omega) | (simp; omega)) (by first | omega | (simp only [List.length_cons, List.length_nil]; omega) | (simp only [List.length_append, List.length_cons, List.length_nil]; omega) | (rw [List.length_set]; omega) | (rw [List.length_replicate]; omega) | (simp; omega))) rfl ?_
                refine sq_v rfl (v_loadI (k := i) 2 ty_3 rfl rfl rc' (by first | omega | (simp only [List.length_cons, List.length_nil]; omega) | (simp only [List.length_append, List.length_cons, List.length_nil]; omega) | (rw [List.length_set]; omega) | (rw [List.length_replicate]; omega) | (simp; omega))) rfl ?_
                refine sq_v rfl (v_add rfl rfl ((by unfold I64; omega))) rfl ?_
                refine sq_v rfl (v_move rfl) rfl ?_
                refine sq_v rfl (v_lss rfl rfl) rfl ?_
                refine sq_v rfl (v_pickf rfl rfl) rfl ?_
                refine sq_end ?_
                refine qs_n ?_
                refine wp_cd rfl (fun c78 => ?_) (fun c78 => ?_)
                · refine wp_sq ?_
                  refine sq_v rfl (v_move rfl) rfl ?_
                  refine sq_v rfl (v_move rfl) rfl ?_
                  refine sq_v rfl (v_move rfl) rfl ?_
                  refine sq_v rfl (v_idxI Try.underlying24 ty_3 rfl rfl rc' (by first | omega | (simp only [List.length_cons, List.length_nil]; omega) | (simp only [List.length_append, List.length_cons, List.length_nil]; omega) | (rw [List.length_set]; omega) | (rw [List.length_replicate]; omega) | (simp; omega)) (by first | omega | (simp only [List.length_cons, List.length_nil]; omega) | (simp only [List.length_append, List.length_cons, List.length_nil]; omega) | (rw [List.length_set]; omega) | (rw [List.length_replicate]; omega) | (simp; omega))) rfl ?_
                  refine sq_v rfl (v_loadI (k := i) 2 ty_3 rfl rfl rc' (by first | omega | (simp only [List.length_cons, List.length_nil]; omega) | (simp only [List.length_append, List.length_cons, List.length_nil]; omega) | (rw [List.length_set]; omega) | (rw [List.length_replicate]; omega) | (simp; omega))) rfl ?_
                  refine sq_v rfl (v_add rfl rfl ((by unfold I64; omega))) rfl ?_
                  refine sq_v rfl (v_assign rfl) rfl ?_
                  refine sq_end ?_
                  refine qs_bn ?_
                  refine qs_n ?_
                  refine wp_sq ?_
                  refine sq_v rfl (v_add rfl rfl ((by unfold I64; omega))) rfl ?_
                  refine sq_v rfl (v_move rfl) rfl ?_
                  refine sq_end ?_
                  exact qs_bk (i + 1, c + 1, (stL S).getD i 0 + C.getD i 0) ⟨by (try dsimp only); omega, by (try dsimp only); have h1 := hge (hbi.1 c54); rw [runC_yes ⟨hbi.1 c54, by omega⟩, hc], by (try dsimp only); have h1 := hge (hbi.1 c54); rw [nextT_yes ⟨hbi.1 c54, by omega⟩ (by omega), h1]⟩ (by simp only; omega) ⟨rfl, rfl, rfl, rfl, rfl, rfl, rfl, rfl, rfl, rfl, (by first | rfl | exact ksub rfl (by first | omega | (simp; done) | (simp; omega))), (by first | rfl | exact ksub rfl (by first | omega | (simp; done) | (simp; omega))), rfl, rfl, rfl, rfl, (by first | rfl | exact ksub rfl (by first | omega | (simp; done) | (simp; omega))), trivial⟩ (fun _ s => s)
                · refine wp_sk ?_
                  refine qs_bn ?_
                  refine qs_n ?_
                  refine wp_sq ?_
                  refine sq_v rfl (v_add rfl rfl ((by unfold I64; omega))) rfl ?_
                  refine sq_v rfl (v_move rfl) rfl ?_
                  refine sq_end ?_
                  exact qs_bk (i + 1, c + 1, e) ⟨by (try dsimp only); omega, by (try dsimp only); have h1 := hge (hbi.1 c54); rw [runC_yes ⟨hbi.1 c54, by omega⟩, hc], by (try dsimp only); have h1 := hge (hbi.1 c54); rw [nextT_no (fun h => by have := h.2; omega)]; exact he⟩ (by simp only; omega) ⟨rfl, rfl, rfl, rfl, rfl, rfl, rfl, rfl, rfl, rfl, (by first | rfl | exact ksub rfl (by first | omega | (simp; done) | (simp; omega))), (by first | rfl | exact ksub rfl (by first | omega | (simp; done) | (simp; omega))), rfl, rfl, rfl, rfl, (by first | rfl | exact ksub rfl (by first | omega | (simp; done) | (simp; omega))), trivial⟩ (fun _ s => s)
            · refine wp_sk ?_
              refine qs_bn ?_
              refine qs_n ?_
              refine wp_sq ?_
              refine sq_v rfl (v_add rfl rfl ((by unfold I64; omega))) rfl ?_
              refine sq_v rfl (v_move rfl) rfl ?_
              refine sq_end ?_
              exact qs_bk (i + 1, c, e) ⟨by (try dsimp only); omega, by (try dsimp only); have h1 := hge (hbi.1 c54); rw [runC_no (fun h => by have := h.2; omega)]; exact hc, by (try dsimp only); have h1 := hge (hbi.1 c54); rw [nextT_no (fun h => by have := h.1.2; omega)]; exact he⟩ (by simp only; omega) ⟨rfl, rfl, rfl, rfl, rfl, rfl, rfl, rfl, rfl, rfl, (by first | rfl | exact ksub rfl (by first | omega | (simp; done) | (simp; omega))), (by first | rfl | exact ksub rfl (by first | omega | (simp; done) | (simp; omega))), rfl, rfl, rfl, rfl, (by first | rfl | exact ksub rfl (by first | omega | (simp; done) | (simp; omega))), trivial⟩ (fun _ s => s)
          · refine sq_v rfl (v_move rfl) rfl ?_
            refine sq_s rfl rfl ?_
            refine sq_s rfl rfl ?_
            refine sq_s rfl rfl ?_
            refine sq_s rfl rfl ?_
            refine sq_s rfl rfl ?_
            refine sq_s rfl rfl ?_
            refine sq_s rfl rfl ?_
            refine sq_s rfl rfl ?_
            refine sq_v rfl (v_pickf rfl rfl) rfl ?_
            refine sq_end ?_
            refine qs_n ?_
            refine wp_cf rfl ?_
            refine wp_sk ?_
            refine qs_bn ?_
            refine qs_n ?_
            refine wp_sq ?_
            refine sq_v rfl (v_add rfl rfl ((by unfold I64; omega))) rfl ?_
            refine sq_v rfl (v_move rfl) rfl ?_
            refine sq_end ?_
            exact qs_bk (i + 1, c, e) ⟨by (try dsimp only); omega, by (try dsimp only); rw [runC_no (fun h => by rw [hbi.2 h.1] at c54; exact absurd c54 (by decide))]; exact hc, by (try dsimp only); rw [nextT_no (fun h => by rw [hbi.2 h.1.1] at c54; exact absurd c54 (by decide))]; exact he⟩ (by simp only; omega) ⟨rfl, rfl, rfl, rfl, rfl, rfl, rfl, rfl, rfl, rfl, (by first | rfl | exact ksub rfl (by first | omega | (simp; done) | (simp; omega))), (by first | rfl | exact ksub rfl (by first | omega | (simp; done) | (simp; omega))), rfl, rfl, rfl, rfl, (by first | rfl | exact ksub rfl (by first | omega | (simp; done) | (simp; omega))), trivial⟩ (fun _ s => s)
        · refine wp_ex ?_
          refine qs_x ?_
          refine qs_x ?_
          refine qs_bx ?_
          refine qs_n ?_
          refine wp_sc ?_
          refine wp_sq ?_
          refine sq_v rfl (v_loadNB 3 ty_48 rfl rfl rfl rfl) rfl ?_
          refine sq_v rfl (v_move rfl) rfl ?_
          refine sq_v rfl (v_move rfl) rfl ?_
          refine sq_v rfl (v_move rfl) rfl ?_
          refine sq_v rfl (v_move rfl) rfl ?_
          refine sq_v rfl (v_move rfl) rfl ?_
          have hb1 : ∀ i, -1 ≤ S.getD i 0 ∧ S.getD i 0 ≤ 1000000000000 := (fun i => by have := hSb i; omega)
          refine sq_u rfl (x_callv rfl en_107 (fun w s => ct_s_l26Next _ _ _ T ts ss S C _ _ _ _ _ _ w (r.mono (s.get 4 rfl)) (rv.mono (s.get 4 rfl)) (qa.toR.mono (s.get 1 rfl)) (qb.toR.mono (s.get 0 rfl)) (rc'.mono (s.get 2 rfl)) hts1 hss1 hSl hcl hnow.1 hb1 hcb hlt)) rfl ?_
          refine sq_v rfl (v_assign rfl) rfl ?_
          refine sq_end ?_
          have hie : i = ss.length := by omega
          rw [hie] at hc he hnx
          have hfk := firstK_in (m := ts.length) (ss := ss) (C := C) (S := S) (T := T) ss.length
          refine qs_n ?_
          refine wp_sc ?_
          refine wp_sc ?_
          refine wp_sq ?_
          refine sq_v rfl (v_move rfl) rfl ?_
          refine sq_v rfl (v_move rfl) rfl ?_
          refine sq_v rfl (v_eql rfl rfl) rfl ?_
          refine sq_bd 95 rfl (fun c95 => ?_) (fun c95 => ?_)
          · refine sq_v rfl (v_move rfl) rfl ?_
            refine sq_s rfl rfl ?_
            refine sq_s rfl rfl ?_
            refine sq_v rfl (v_pickt rfl rfl) rfl ?_
            refine sq_end ?_
            refine qs_n ?_
            refine wp_ct rfl ?_
            refine wp_sc ?_
            refine wp_sq ?_
            refine sq_v rfl (v_move rfl) rfl ?_
            refine sq_v rfl (v_assign rfl) rfl ?_
            refine sq_end ?_
            have hq : runC C S T ss.length = W ∨ ∀ i, i < ss.length → ¬ rdy ts.length ss C S T i := by first | exact .inl (by omega) | exact .inr (firstK_neg (by omega))
            have hnd : ¬ done S := fun hd => by have := negC_none (S := S) (k := ss.length) (fun i hi => hd i (by omega)); omega
            have hep : 0 ≤ e := Classical.byContradiction fun hn => hnd (list_done (m := ts.length) (ss := ss) (C := C) (W := W) (n := ss.length) (T := T) hSl rfl hlt hnow.1 (by omega) (by omega) (fun h => hq.resolve_left (by omega)))
            have hx := hnx.resolve_left (fun h => by have := h.1; omega)
            obtain ⟨i3, h3, hr3, e3⟩ := hx.2.1
            have hml := mu_less (T' := e) hr3 (by omega) (by omega) ss.length h3
            have hC3 := hcb i3
            have hS3 := hSb i3
            have hrt := runC_time (C := C) (S := S) (T := T) (T' := e) (by omega) ss.length
            refine qs_n ?_
            refine wp_ex ?_
            refine qs_x ?_
            refine qs_bx ?_
            exact qs_bk (S, e, l, ga, gb) ⟨hSl, by (try dsimp only); rw [he]; exact reach_next hre hSl hq, fun i => by have := hSb i; dsimp only; omega, by (try dsimp only); omega, by (try dsimp only); omega, hl, qa, qb⟩ (by simp only; omega) ⟨rfl, rfl, rfl, rfl, rfl, rfl, rfl, rfl, (by first | rfl | exact ksub rfl (by first | omega | (simp; done) | (simp; omega))), (by first | rfl | exact ksub rfl (by first | omega | (simp; done) | (simp; omega))), trivial⟩ (fun _ s => s)
          · refine sq_v rfl (v_move rfl) rfl ?_
            refine sq_v rfl (v_move rfl) rfl ?_
            refine sq_v rfl (v_lss rfl rfl) rfl ?_
            refine sq_v rfl (v_pickf rfl rfl) rfl ?_
            refine sq_end ?_
            refine qs_n ?_
            refine wp_cd rfl (fun c99 => ?_) (fun c99 => ?_)
            · refine wp_sc ?_
              refine wp_sq ?_
              refine sq_v rfl (v_move rfl) rfl ?_
              refine sq_v rfl (v_assign rfl) rfl ?_
              refine sq_end ?_
              have hq : runC C S T ss.length = W ∨ ∀ i, i < ss.length → ¬ rdy ts.length ss C S T i := by first | exact .inl (by omega) | exact .inr (firstK_neg (by omega))
              have hnd : ¬ done S := fun hd => by have := negC_none (S := S) (k := ss.length) (fun i hi => hd i (by omega)); omega
              have hep : 0 ≤ e := Classical.byContradiction fun hn => hnd (list_done (m := ts.length) (ss := ss) (C := C) (W := W) (n := ss.length) (T := T) hSl rfl hlt hnow.1 (by omega) (by omega) (fun h => hq.resolve_left (by omega)))
              have hx := hnx.resolve_left (fun h => by have := h.1; omega)
              obtain ⟨i3, h3, hr3, e3⟩ := hx.2.1
              have hml := mu_less (T' := e) hr3 (by omega) (by omega) ss.length h3
              have hC3 := hcb i3
              have hS3 := hSb i3
              have hrt := runC_time (C := C) (S := S) (T := T) (T' := e) (by omega) ss.length
              refine qs_n ?_
              refine wp_ex ?_
              refine qs_x ?_
              refine qs_bx ?_
              exact qs_bk (S, e, l, ga, gb) ⟨hSl, by (try dsimp only); rw [he]; exact reach_next hre hSl hq, fun i => by have := hSb i; dsimp only; omega, by (try dsimp only); omega, by (try dsimp only); omega, hl, qa, qb⟩ (by simp only; omega) ⟨rfl, rfl, rfl, rfl, rfl, rfl, rfl, rfl, (by first | rfl | exact ksub rfl (by first | omega | (simp; done) | (simp; omega))), (by first | rfl | exact ksub rfl (by first | omega | (simp; done) | (simp; omega))), trivial⟩ (fun _ s => s)
            · refine wp_sk ?_
              refine qs_n ?_
              refine wp_sc ?_
              refine wp_sq ?_
              refine sq_v rfl (v_move rfl) rfl ?_
              refine sq_v rfl (v_move rfl) rfl ?_
              refine sq_v rfl (v_move rfl) rfl ?_
              obtain ⟨kk, ek, hk, hrk, hk0⟩ := firstK_pos (m := ts.length) (ss := ss) (C := C) (S := S) (T := T) ss.length (by omega); have ekn : (firstK ts.length ss C S T ss.length).toNat = kk := (by omega); have hkn := hrk.1; have hck := hci kk hk; have hms := mu_set (C := C) (S := S) (T := T) (i := kk) (by omega) (by omega) hnow.1 (by omega) ss.length (by omega)
              refine sq_v rfl (v_idxI Try.underlying24 ty_3 rfl rfl qa.toR (by first | omega | (simp only [List.length_cons, List.length_nil]; omega) | (simp only [List.length_append, List.length_cons, List.length_nil]; omega) | (rw [List.length_set]; omega) | (rw [List.length_replicate]; omega) | (simp; omega)) (by first | omega | (simp only [List.length_cons, List.length_nil]; omega) | (simp only [List.length_append, List.length_cons, List.length_nil]; omega) | (rw [List.length_set]; omega) | (rw [List.length_replicate]; omega) | (simp; omega))) rfl ?_
              refine sq_m 1 rfl rfl (m_storeI 1 ty_3 rfl rfl rfl qa (by first | omega | (simp only [List.length_cons, List.length_nil]; omega) | (simp only [List.length_append, List.length_cons, List.length_nil]; omega) | (rw [List.length_set]; omega) | (rw [List.length_replicate]; omega) | (simp; omega))) rfl ?_; rintro _ h_q22_4 ⟨rfl, q22_4⟩
              refine sq_end ?_
              refine qs_n ?_
              refine wp_sc ?_
              refine wp_sq ?_
              refine sq_v rfl (v_move rfl) rfl ?_
              refine sq_v rfl (v_move rfl) rfl ?_
              refine sq_v rfl (v_idxB Try.underlying128 ty_4 rfl rfl qb.toR (by first | omega | (simp only [List.length_cons, List.length_nil]; omega) | (simp only [List.length_append, List.length_cons, List.length_nil]; omega) | (rw [List.length_set]; omega) | (rw [List.length_replicate]; omega) | (simp; omega)) (by first | omega | (simp only [List.length_cons, List.length_nil]; omega) | (simp only [List.length_append, List.length_cons, List.length_nil]; omega) | (rw [List.length_set]; omega) | (rw [List.length_replicate]; omega) | (simp; omega))) rfl ?_
              refine sq_m 0 rfl rfl (m_storeBl 0 ty_4 rfl rfl rfl qb (by first | omega | (simp only [List.length_cons, List.length_nil]; omega) | (simp only [List.length_append, List.length_cons, List.length_nil]; omega) | (rw [List.length_set]; omega) | (rw [List.length_replicate]; omega) | (simp; omega))) rfl ?_; rintro _ h_q23_3 ⟨rfl, q23_3⟩
              refine sq_end ?_
              refine qs_n ?_
              refine wp_sq ?_
              refine sq_v rfl (v_move rfl) rfl ?_
              refine sq_v rfl (v_sub rfl rfl ((by unfold I64; omega))) rfl ?_
              refine sq_v rfl (v_assign rfl) rfl ?_
              refine sq_end ?_
              refine qs_bn ?_
              exact qs_bk (S.set kk T, T, l - 1, h_q22_4, h_q23_3) ⟨by (try dsimp only); simp [hSl], reach_set hre hSl hk (by omega) hk0 hrk, bnd_set (by omega) hnow.1 hSb, by (try dsimp only); have := mu_set (C := C) (S := S) (T := T) (i := kk) (by omega) (by omega) hnow.1 (by omega) ss.length (by omega); omega, by (try dsimp only); rw [runC_set (by omega) (by omega) hnow.1 (by omega), if_pos (by omega)]; omega, by (try dsimp only); rw [negC_set (by omega) (by omega) hnow.1, if_pos (by omega), hl], by (try dsimp only); rw [stL_set _ _ hnow.1, ← ekn]; exact q22_4, by (try dsimp only); rw [begL_set _ _ hnow.1, ← ekn]; exact q23_3⟩ (by simp only; omega) ⟨rfl, rfl, rfl, rfl, rfl, rfl, rfl, rfl, (by first | rfl | exact ksub rfl (by first | omega | (simp; done) | (simp; omega))), (by first | rfl | exact ksub rfl (by first | omega | (simp; done) | (simp; omega))), trivial⟩ (fun _ s => s)
      · refine wp_ex ?_
        refine qs_x ?_
        refine qs_x ?_
        refine qs_bx ?_
        refine qs_n ?_
        refine wp_sc ?_
        refine wp_sq ?_
        refine sq_v rfl (v_move rfl) rfl ?_
        refine sq_v rfl (v_assign rfl) rfl ?_
        refine sq_v rfl (v_assign rfl) rfl ?_
        refine sq_end ?_
        refine qs_n ?_
        refine wp_rt ?_
        exact qs_ret2 rfl rfl rfl (fin_t 1 (i := 4) rfl rfl rfl (have hdn : done S := fun i hi => negC_zero (k := ss.length) (by omega) i (by omega); SchedYes (S := S) ⟨hord, c27⟩ (by rw [← hC]; exact reach_done hre hdn) (by have h' := qa; rw [stL_done hdn] at h'; exact h')))
  · refine sq_v rfl (v_not rfl) rfl ?_
    refine sq_v rfl (v_move rfl) rfl ?_
    refine sq_s rfl rfl ?_
    refine sq_s rfl rfl ?_
    refine sq_s rfl rfl ?_
    refine sq_v rfl (v_pickt rfl rfl) rfl ?_
    refine sq_end ?_
    refine qs_n ?_
    refine wp_ct rfl ?_
    refine wp_sc ?_
    refine wp_sq ?_
    refine sq_v rfl (v_assign rfl) rfl ?_
    refine sq_v rfl (v_assign rfl) rfl ?_
    refine sq_end ?_
    refine qs_n ?_
    refine wp_rt ?_
    refine qs_r ?_
    exact qs_ret2 rfl rfl rfl (fin_e (i := 1) rfl (SchedNo (fun h => orderB_false.1 c21 h.1)))
end Go.Proofs.Ytikeobneipjfnaa
namespace Go.Proofs.Ytikeobneipjfnaa
set_option maxRecDepth 100000
open Go.ChangeShapes Go.WideShapes Go.ChangeAt Go.RowKit
theorem ct_L_sListSchedule (k p n W : Int) (ts : List Ten) (op : List Int) (ss : List Stp) (vt vo v : Value) (w : World) (r : TensR ts vt (hp w)) (r' : IntsR op vo (hp w)) (rv : StepsR ss v (hp w)) (hs : op.length ≤ 1048576) (hss : ss.length ≤ 1048576) :
    Calls Try.prog 45 [netV k p n vt vo, v, num W].toArray w (Ret w emp (IntsB (lschR k p n ts op ss W) (lschB k p n ts op ss W))) := ct_s_ListSchedule k p n W ts op ss vt vo v w r r' rv hs hss
theorem ct_L_iListSchedule (k p n W : Int) (ts : List Ten) (op : List Int) (ss : List Stp) (vt vo v : Value) (w : World) (r : TensR ts vt (hp w)) (r' : IntsR op vo (hp w)) (rv : StepsR ss v (hp w)) (hs : op.length ≤ 1048576) :
    Calls Try.prog 47 [netV k p n vt vo, v, num W].toArray w (Ret w emp (IntsB (lschR k p n ts op ss W) (lschB k p n ts op ss W))) := ct_i_ListSchedule k p n W ts op ss vt vo v w r r' rv hs
theorem listS_len (m : Int) (ss : List Stp) (C : List Int) (W : Int) (n : Nat) : (listS m ss C W n).length ≤ n := by
  have h : ∀ N, (mIt m ss C W n N).1.length = n := fun N => by
    induction N with
    | zero => simp [mIt]
    | succ N ih =>
      rw [mIt, mstep]
      split
      · exact ih
      · split
        · exact ih
        · simp only [List.length_set]; exact ih
  unfold listS
  split
  · rw [h]; exact Nat.le_refl _
  · simp
theorem lsch_len (k p n W : Int) (ts : List Ten) (op : List Int) (ss : List Stp) : (lschR k p n ts op ss W).length ≤ ss.length := by
  unfold lschR
  split
  · exact listS_len _ _ _ _ _
  · simp
set_option maxHeartbeats 4000000 in
theorem ct_l_FnExactListSchedule (k p n W : Int) (ts : List Ten) (op : List Int) (ss : List Stp) (vt vo v : Value) (w : World) (r : TensR ts vt (hp w)) (r' : IntsR op vo (hp w)) (rv : StepsR ss v (hp w)) :
    Calls Try.prog 7 [netV k p n vt vo, v, num W].toArray w (RetV w (.bool true)) := by
  have hnn := tensSize_nn ts
  have hcl := lsch_len k p n W ts op ss
  refine calls_in Try.func7 rfl Try.ntmps7 rfl (Sat.start w) ?_
  have hle0 := r.le
  obtain ⟨cs_r, rr_r, hc_r⟩ := r.at
  have hle1 := r'.le
  have hle2 := rv.le
  obtain ⟨cs_rv, rr_rv, hc_rv⟩ := rv.at
  refine wp_sc ?_
  refine wp_sq ?_
  refine sq_x rfl (x_box rfl rfl) rfl ?_; rintro _ _ ⟨b3, rfl, rfl⟩
  refine sq_v rfl (v_assign rfl) rfl ?_
  refine sq_end ?_
  refine qs_n ?_
  refine wp_sc ?_
  refine wp_sq ?_
  refine sq_v rfl (v_assign rfl) rfl ?_
  refine sq_end ?_
  refine qs_n ?_
  refine wp_sc ?_
  refine wp_sq ?_
  refine sq_v rfl (v_loadNB 0 ty_41 rfl rfl rfl rfl) rfl ?_
  refine sq_v rfl (v_move rfl) rfl ?_
  refine sq_u rfl (x_callv rfl en_26 (fun w s => ct_l_szNetwork _ _ _ _ _ _ _ _ w (r.mono (s.get 1 rfl)) (r'.mono (s.get 1 rfl)) (by first | assumption | exact iota_held _ _ | omega | rfl))) rfl ?_
  refine sq_v rfl (v_assign rfl) rfl ?_
  refine sq_end ?_
  refine qs_n ?_
  refine wp_sc ?_
  refine wp_sc ?_
  refine wp_sq ?_
  refine sq_v rfl (v_move rfl) rfl ?_
  refine sq_v rfl (v_lss rfl rfl) rfl ?_
  refine sq_end ?_
  refine qs_n ?_
  refine wp_cd rfl (fun c23 => ?_) (fun c23 => ?_)
  · refine wp_sc ?_
    refine wp_sq ?_
    refine sq_v rfl (v_assign rfl) rfl ?_
    refine sq_end ?_
    refine qs_n ?_
    refine wp_rt ?_
    refine qs_r ?_
    exact qs_ret1 rfl rfl (fin_v (i := 1) rfl)
  · have hz23 := szV_ge c23
    refine wp_sk ?_
    refine qs_n ?_
    refine wp_sc ?_
    refine wp_sq ?_
    refine sq_v rfl (v_move rfl) rfl ?_
    refine sq_v rfl (v_move rfl) rfl ?_
    refine sq_u rfl (x_callv rfl en_44 (fun w s => ct_l_szStepS _ _ _ w (rv.mono (s.get 1 rfl)) (by first | assumption | exact iota_held _ _ | omega | rfl))) rfl ?_
    refine sq_v rfl (v_assign rfl) rfl ?_
    refine sq_end ?_
    refine qs_n ?_
    refine wp_sc ?_
    refine wp_sc ?_
    refine wp_sq ?_
    refine sq_v rfl (v_move rfl) rfl ?_
    refine sq_v rfl (v_lss rfl rfl) rfl ?_
    refine sq_end ?_
    refine qs_n ?_
    refine wp_cd rfl (fun c28 => ?_) (fun c28 => ?_)
    · refine wp_sc ?_
      refine wp_sq ?_
      refine sq_v rfl (v_assign rfl) rfl ?_
      refine sq_end ?_
      refine qs_n ?_
      refine wp_rt ?_
      refine qs_r ?_
      exact qs_ret1 rfl rfl (fin_v (i := 1) rfl)
    · have hz28 := szV_ge c28
      refine wp_sk ?_
      refine qs_n ?_
      refine wp_sc ?_
      refine wp_sq ?_
      refine sq_v rfl (v_loadNB 0 ty_41 rfl rfl rfl rfl) rfl ?_
      refine sq_x rfl (x_call rfl en_28 (fun w s => ct_L_toNetwork _ _ _ _ _ _ _ w (r.mono (s.get 1 rfl)) (r'.mono (s.get 1 rfl)) (by first | assumption | exact iota_held _ _ | omega | rfl))) rfl ?_; rintro _ h31 ⟨vt31, vo31, rfl, o31⟩
      obtain ⟨cs_T_31, rr_T_31, hc_T_31⟩ := o31.toR.1.at
      refine sq_v rfl (v_move rfl) rfl ?_
      refine sq_x rfl (x_call rfl en_46 (fun w s => ct_l_toStepS _ _ w (rv.mono (s.get 2 rfl)) (by first | assumption | exact iota_held _ _ | omega | rfl))) rfl ?_; rintro v33 h33 r33
      obtain ⟨cs_S_33, rr_S_33, hc_S_33⟩ := r33.toR.at
      refine sq_v rfl (v_move rfl) rfl ?_
      refine sq_x rfl (x_call rfl en_45 (fun w s => ct_L_sListSchedule _ _ _ _ _ _ _ _ _ _ w (o31.toR.1.mono (s.get 1 rfl)) (o31.toR.2.mono (s.get 1 rfl)) (r33.toR.mono (s.get 0 rfl)) (by first | assumption | exact iota_held _ _ | omega | rfl) (by first | assumption | exact iota_held _ _ | omega | rfl))) rfl ?_; rintro _ h35 ⟨v35, rfl, r35⟩
      refine sq_v rfl (v_move rfl) rfl ?_
      refine sq_v rfl (v_extract rfl rfl) rfl ?_
      refine sq_v rfl (v_extract rfl rfl) rfl ?_
      refine sq_v rfl (v_assign rfl) rfl ?_
      refine sq_v rfl (v_assign rfl) rfl ?_
      refine sq_end ?_
      refine qs_n ?_
      refine wp_sc ?_
      refine wp_sq ?_
      refine sq_v rfl (v_loadNB 3 ty_41 rfl rfl rfl rfl) rfl ?_
      refine sq_x rfl (x_call rfl en_28 (fun w s => ct_L_toNetwork _ _ _ _ _ _ _ w (r.mono (s.get 4 rfl)) (r'.mono (s.get 4 rfl)) (by first | assumption | exact iota_held _ _ | omega | rfl))) rfl ?_; rintro _ h39 ⟨vt39, vo39, rfl, o39⟩
      obtain ⟨cs_T_39, rr_T_39, hc_T_39⟩ := o39.toR.1.at
      refine sq_x rfl (x_alloc ty_48 rfl) rfl ?_; rintro _ _ ⟨b10, rfl, rfl⟩
      refine sq_m 0 rfl rfl (m_store 0 ty_48 rfl rfl rfl rfl (by simp [one_int, o39.toR.1.sl.one, o39.toR.2.sl.one]) rfl (Nat.le_of_ble_eq_true rfl)) rfl ?_; rintro _ _ ⟨rfl, rfl⟩
      refine sq_end ?_
      refine qs_n ?_
      refine wp_sc ?_
      refine wp_sq ?_
      refine sq_v rfl (v_move rfl) rfl ?_
      refine sq_x rfl (x_call rfl en_46 (fun w s => ct_l_toStepS _ _ w (rv.mono (s.get 6 rfl)) (by first | assumption | exact iota_held _ _ | omega | rfl))) rfl ?_; rintro v41 h41 r41
      obtain ⟨cs_S_41, rr_S_41, hc_S_41⟩ := r41.toR.at
      refine sq_v rfl (v_assign rfl) rfl ?_
      refine sq_end ?_
      refine qs_n ?_
      refine wp_sc ?_
      refine wp_sq ?_
      refine sq_v rfl (v_loadNB 1 ty_48 rfl rfl rfl rfl) rfl ?_
      refine sq_v rfl (v_move rfl) rfl ?_
      refine sq_v rfl (v_move rfl) rfl ?_
      refine sq_x rfl (x_call rfl en_47 (fun w s => ct_L_iListSchedule _ _ _ _ _ _ _ _ _ _ w (o39.toR.1.mono (s.get 2 rfl)) (o39.toR.2.mono (s.get 2 rfl)) (r41.toR.mono (s.get 0 rfl)) (by first | assumption | exact iota_held _ _ | omega | rfl))) rfl ?_; rintro _ h46 ⟨v46, rfl, r46⟩
      refine sq_v rfl (v_move rfl) rfl ?_
      refine sq_v rfl (v_extract rfl rfl) rfl ?_
      refine sq_v rfl (v_extract rfl rfl) rfl ?_
      refine sq_v rfl (v_assign rfl) rfl ?_
      refine sq_v rfl (v_assign rfl) rfl ?_
      refine sq_end ?_
      refine qs_n ?_
      refine wp_sc ?_
      refine wp_sc ?_
      refine wp_sq ?_
      refine sq_v rfl (v_move rfl) rfl ?_
      refine sq_v rfl (v_move rfl) rfl ?_
      refine sq_u rfl (x_callv rfl en_22 (fun w s => ct_l_eqIntS _ _ _ _ w (r46.toR.mono (s.get 0 rfl)) (r35.toR.mono (s.get 4 rfl)) (by first | assumption | exact iota_held _ _ | omega | rfl))) rfl ?_
      refine sq_v rfl (v_not rfl) rfl ?_
      refine sq_v rfl (v_move rfl) rfl ?_
      refine sq_v rfl (v_move rfl) rfl ?_
      refine sq_v rfl (v_move rfl) rfl ?_
      refine sq_v rfl (v_neqsb Try.underlying4 rfl rfl) rfl ?_
      refine sq_v rfl (v_pickf rfl rfl) rfl ?_
      refine sq_end ?_
      refine qs_n ?_
      refine wp_cf rfl ?_
      refine wp_sk ?_
      refine qs_n ?_
      refine wp_sc ?_
      refine wp_sc ?_
      refine wp_rj 5 [(0, true), (1, true), (2, false), (3, false), (4, true)] mixed_ok (by kernel_rfl) ?_
      refine rj_v rfl rfl (v_loadNB 2 ty_48 rfl rfl rfl rfl) rfl ?_
      refine rj_v rfl rfl (v_loadNB 7 ty_41 rfl rfl rfl rfl) rfl ?_
      refine rj_x rfl rfl (x_call rfl en_28 (fun w s => ct_L_toNetwork _ _ _ _ _ _ _ w (r.mono (s.get 8 rfl)) (r'.mono (s.get 8 rfl)) (by first | assumption | exact iota_held _ _ | omega | rfl))) rfl ?_; rintro _ h60 ⟨vt60, vo60, rfl, o60⟩
      obtain ⟨cs_T_60, rr_T_60, hc_T_60⟩ := o60.toR.1.at
      refine rj_u rfl rfl (x_callv rfl en_31 (fun w s => ct_l_eqNetwork _ _ _ _ _ _ _ _ _ w (o39.toR.1.mono (s.get 4 rfl)) (o39.toR.2.mono (s.get 4 rfl)) (o60.toR.1.mono (s.get 0 rfl)) (o60.toR.2.mono (s.get 0 rfl)))) rfl ?_
      refine rj_v rfl rfl (v_not rfl) rfl ?_
      refine rj_end ?_
      refine qs_n ?_
      refine wp_cf rfl ?_
      refine wp_sk ?_
      refine qs_n ?_
      refine wp_sc ?_
      refine wp_sc ?_
      refine wp_sq ?_
      refine sq_v rfl (v_move rfl) rfl ?_
      refine sq_v rfl (v_move rfl) rfl ?_
      refine sq_x rfl (x_call rfl en_46 (fun w s => ct_l_toStepS _ _ w (rv.mono (s.get 9 rfl)) (by first | assumption | exact iota_held _ _ | omega | rfl))) rfl ?_; rintro v65 h65 r65
      obtain ⟨cs_S_65, rr_S_65, hc_S_65⟩ := r65.toR.at
      refine sq_u rfl (x_callv rfl en_30 (fun w s => ct_l_eqStepS _ _ _ w (r41.toR.mono (s.get 3 rfl)) (r65.toR.mono (s.get 0 rfl)))) rfl ?_
      refine sq_v rfl (v_not rfl) rfl ?_
      refine sq_end ?_
      refine qs_n ?_
      refine wp_cf rfl ?_
      refine wp_sk ?_
      refine qs_n ?_
      refine wp_sc ?_
      refine wp_sq ?_
      refine sq_v rfl (v_assign rfl) rfl ?_
      refine sq_end ?_
      refine qs_n ?_
      refine wp_sc ?_
      refine wp_sq ?_
      refine sq_v rfl (v_loadNB 4 ty_48 rfl rfl rfl rfl) rfl ?_
      refine sq_v rfl (v_move rfl) rfl ?_
      refine sq_m 5 rfl rfl (x_call rfl en_32 (fun w s => ct_L_markNetwork _ _ _ _ _ _ _ _ w _ (s.get 5 rfl) o39 (by first | assumption | exact iota_held _ _ | omega | rfl))) rfl ?_; rintro _ h70 ⟨rfl, ts70, op70, om70, hl70⟩
      obtain ⟨cs_T_70, rr_T_70, hc_T_70⟩ := om70.toR.1.at
      refine sq_v rfl (v_assign rfl) rfl ?_
      refine sq_end ?_
      refine qs_n ?_
      refine wp_sc ?_
      refine wp_sq ?_
      refine sq_v rfl (v_move rfl) rfl ?_
      refine sq_v rfl (v_move rfl) rfl ?_
      refine sq_m 3 rfl rfl (x_call rfl en_33 (fun w s => ct_l_markStepS _ _ _ w _ (s.get 3 rfl) r41 (by first | assumption | exact iota_held _ _ | omega | rfl))) rfl ?_; rintro _ h73 ⟨rfl, r73⟩
      obtain ⟨cs_S_73, rr_S_73, hc_S_73⟩ := r73.toR.at
      refine sq_v rfl (v_assign rfl) rfl ?_
      refine sq_end ?_
      refine qs_n ?_
      refine wp_sc ?_
      refine wp_sc ?_
      refine wp_sq ?_
      refine sq_v rfl (v_move rfl) rfl ?_
      refine sq_v rfl (v_lss rfl rfl) rfl ?_
      refine sq_bd 75 rfl (fun c75 => ?_) (fun c75 => ?_)
      · refine sq_v rfl (v_move rfl) rfl ?_
        refine sq_s rfl rfl ?_
        refine sq_s rfl rfl ?_
        refine sq_s rfl rfl ?_
        refine sq_s rfl rfl ?_
        refine sq_v rfl (v_pickt rfl rfl) rfl ?_
        refine sq_v rfl (v_move rfl) rfl ?_
        refine sq_s rfl rfl ?_
        refine sq_s rfl rfl ?_
        refine sq_s rfl rfl ?_
        refine sq_v rfl (v_pickt rfl rfl) rfl ?_
        refine sq_end ?_
        refine qs_n ?_
        refine wp_ct rfl ?_
        refine wp_sc ?_
        refine wp_sq ?_
        refine sq_v rfl (v_assign rfl) rfl ?_
        refine sq_end ?_
        refine qs_n ?_
        refine wp_rt ?_
        refine qs_r ?_
        exfalso; first | omega | contradiction
      · refine sq_v rfl (v_move rfl) rfl ?_
        refine sq_v rfl (v_move rfl) rfl ?_
        refine sq_v rfl (v_move rfl) rfl ?_
        refine sq_u rfl (x_callv rfl en_22 (fun w s => ct_l_eqIntS _ _ _ _ w (r46.toR.mono (s.get 2 rfl)) (r35.toR.mono (s.get 6 rfl)) (by first | assumption | exact iota_held _ _ | omega | rfl))) rfl ?_
        refine sq_v rfl (v_not rfl) rfl ?_
        refine sq_v rfl (v_pickf rfl rfl) rfl ?_
        refine sq_v rfl (v_move rfl) rfl ?_
        refine sq_v rfl (v_move rfl) rfl ?_
        refine sq_v rfl (v_move rfl) rfl ?_
        refine sq_v rfl (v_neqsb Try.underlying4 rfl rfl) rfl ?_
        refine sq_v rfl (v_pickf rfl rfl) rfl ?_
        refine sq_end ?_
        refine qs_n ?_
        refine wp_cf rfl ?_
        refine wp_sk ?_
        refine qs_n ?_
        refine wp_sc ?_
        refine wp_sq ?_
        refine sq_v rfl (v_assign rfl) rfl ?_
        refine sq_end ?_
        refine qs_n ?_
        refine wp_sc ?_
        refine wp_sq ?_
        refine sq_v rfl (v_move rfl) rfl ?_
        refine sq_v rfl (v_move rfl) rfl ?_
        refine sq_m 2 rfl rfl (x_call rfl en_24 (fun w s => ct_l_markIntS _ _ _ w _ (s.get 2 rfl) r46 (by first | assumption | exact iota_held _ _ | omega | rfl))) rfl ?_; rintro _ h89 ⟨rfl, r89⟩
        refine sq_v rfl (v_assign rfl) rfl ?_
        refine sq_end ?_
        refine qs_n ?_
        refine wp_sc ?_
        refine wp_sq ?_
        refine sq_v rfl (v_assign rfl) rfl ?_
        refine sq_end ?_
        refine qs_n ?_
        refine wp_sc ?_
        refine wp_sq ?_
        refine sq_v rfl (v_move rfl) rfl ?_
        refine sq_v rfl (v_move rfl) rfl ?_
        refine sq_u rfl (x_callv rfl en_48 (fun w s => ct_L_heldIntS _ _ _ w (r89.toR.mono (s.get 2 rfl)) (by first | assumption | exact iota_held _ _ | omega | rfl))) rfl ?_
        refine sq_v rfl (v_assign rfl) rfl ?_
        refine sq_end ?_
        refine qs_n ?_
        refine wp_sc ?_
        refine wp_sc ?_
        refine wp_sq ?_
        refine sq_v rfl (v_move rfl) rfl ?_
        refine sq_v rfl (v_lss rfl rfl) rfl ?_
        refine sq_end ?_
        refine qs_n ?_
        refine wp_cd rfl (fun c94 => ?_) (fun c94 => ?_)
        · refine wp_sc ?_
          refine wp_sq ?_
          refine sq_v rfl (v_assign rfl) rfl ?_
          refine sq_end ?_
          refine qs_n ?_
          refine wp_rt ?_
          refine qs_r ?_
          exfalso; first | omega | contradiction
        · refine wp_sk ?_
          refine qs_n ?_
          refine wp_sc ?_
          refine wp_sc ?_
          refine wp_sq ?_
          refine sq_v rfl (v_move rfl) rfl ?_
          refine sq_v rfl (v_move rfl) rfl ?_
          refine sq_v rfl (v_neqs rfl rfl) rfl ?_
          refine sq_end ?_
          refine qs_n ?_
          refine wp_cf rfl ?_
          refine wp_sk ?_
          refine qs_n ?_
          refine wp_sc ?_
          refine wp_sq ?_
          refine sq_v rfl (v_loadNB 9 ty_41 rfl rfl rfl rfl) rfl ?_
          refine sq_x rfl (x_call rfl en_28 (fun w s => ct_L_toNetwork _ _ _ _ _ _ _ w (r.mono (s.get 10 rfl)) (r'.mono (s.get 10 rfl)) (by first | assumption | exact iota_held _ _ | omega | rfl))) rfl ?_; rintro _ h100 ⟨vt100, vo100, rfl, o100⟩
          obtain ⟨cs_T_100, rr_T_100, hc_T_100⟩ := o100.toR.1.at
          refine sq_v rfl (v_move rfl) rfl ?_
          refine sq_x rfl (x_call rfl en_46 (fun w s => ct_l_toStepS _ _ w (rv.mono (s.get 11 rfl)) (by first | assumption | exact iota_held _ _ | omega | rfl))) rfl ?_; rintro v102 h102 r102
          obtain ⟨cs_S_102, rr_S_102, hc_S_102⟩ := r102.toR.at
          refine sq_v rfl (v_move rfl) rfl ?_
          refine sq_x rfl (x_call rfl en_47 (fun w s => ct_L_iListSchedule _ _ _ _ _ _ _ _ _ _ w (o100.toR.1.mono (s.get 1 rfl)) (o100.toR.2.mono (s.get 1 rfl)) (r102.toR.mono (s.get 0 rfl)) (by first | assumption | exact iota_held _ _ | omega | rfl))) rfl ?_; rintro _ h104 ⟨v104, rfl, r104⟩
          refine sq_v rfl (v_move rfl) rfl ?_
          refine sq_v rfl (v_extract rfl rfl) rfl ?_
          refine sq_v rfl (v_extract rfl rfl) rfl ?_
          refine sq_v rfl (v_assign rfl) rfl ?_
          refine sq_v rfl (v_assign rfl) rfl ?_
          refine sq_end ?_
          refine qs_n ?_
          refine wp_sc ?_
          refine wp_sc ?_
          refine wp_sq ?_
          refine sq_v rfl (v_move rfl) rfl ?_
          refine sq_v rfl (v_move rfl) rfl ?_
          refine sq_u rfl (x_callv rfl en_22 (fun w s => ct_l_eqIntS _ _ _ _ w (r104.toR.mono (s.get 0 rfl)) (r35.toR.mono (s.get 9 rfl)) (by first | assumption | exact iota_held _ _ | omega | rfl))) rfl ?_
          refine sq_v rfl (v_not rfl) rfl ?_
          refine sq_v rfl (v_move rfl) rfl ?_
          refine sq_v rfl (v_move rfl) rfl ?_
          refine sq_v rfl (v_move rfl) rfl ?_
          refine sq_v rfl (v_neqsb Try.underlying4 rfl rfl) rfl ?_
          refine sq_v rfl (v_pickf rfl rfl) rfl ?_
          refine sq_end ?_
          refine qs_n ?_
          refine wp_cf rfl ?_
          refine wp_sk ?_
          refine qs_n ?_
          refine wp_sc ?_
          refine wp_sq ?_
          refine sq_v rfl (v_assign rfl) rfl ?_
          refine sq_end ?_
          refine qs_n ?_
          refine wp_sc ?_
          refine wp_sq ?_
          refine sq_v rfl (v_move rfl) rfl ?_
          refine sq_v rfl (v_move rfl) rfl ?_
          refine sq_u rfl (x_callv rfl en_48 (fun w s => ct_L_heldIntS _ _ _ w (r89.toR.mono (s.get 5 rfl)) (by first | assumption | exact iota_held _ _ | omega | rfl))) rfl ?_
          refine sq_v rfl (v_assign rfl) rfl ?_
          refine sq_end ?_
          refine qs_n ?_
          refine wp_sc ?_
          refine wp_sc ?_
          refine wp_sq ?_
          refine sq_v rfl (v_move rfl) rfl ?_
          refine sq_v rfl (v_lss rfl rfl) rfl ?_
          refine sq_end ?_
          refine qs_n ?_
          refine wp_cd rfl (fun c120 => ?_) (fun c120 => ?_)
          · refine wp_sc ?_
            refine wp_sq ?_
            refine sq_v rfl (v_assign rfl) rfl ?_
            refine sq_end ?_
            refine qs_n ?_
            refine wp_rt ?_
            refine qs_r ?_
            exfalso; first | omega | contradiction
          · refine wp_sk ?_
            refine qs_n ?_
            refine wp_sc ?_
            refine wp_sc ?_
            refine wp_sq ?_
            refine sq_v rfl (v_move rfl) rfl ?_
            refine sq_v rfl (v_move rfl) rfl ?_
            refine sq_v rfl (v_neqs rfl rfl) rfl ?_
            refine sq_end ?_
            refine qs_n ?_
            refine wp_cf rfl ?_
            refine wp_sk ?_
            refine qs_n ?_
            refine wp_sc ?_
            refine wp_sq ?_
            refine sq_v rfl (v_assign rfl) rfl ?_
            refine sq_end ?_
            refine qs_n ?_
            refine wp_rt ?_
            exact qs_ret1 rfl rfl (fin_v (i := 13) rfl)
set_option maxRecDepth 100000 in
theorem lifted_fnExactListSchedule (os : Os) (started : os.Started) (H : Type) (enc : TypeId × Value → H) :
    ReturnsInHanded {} Try.checked os 7 .any (Rows.fnExactListScheduleSpec.pre6 enc Try.prog Try.f7 Rows.fnExactListScheduleRow.domain false) (Rows.fnExactListScheduleSpec.post enc Try.prog Try.f7 false true false false) := by
  refine returnsInHanded_of_change (C := Try.checked) lift_own started (by kernel_rfl) Try.func7
    (ChangeSpec.witness6 (enc := enc) (C := Try.checked) false ⟨#[], #[.agg #[.int .i64 0, .int .i64 0, .int .i64 0, .slice none 0 0, .slice none 0 0], .slice none 0 0, .int .i64 0], []⟩ 8 (by kernel_rfl) (by kernel_rfl) (by kernel_rfl) (by kernel_rfl)) ?_
  intro W base args ds gs before hval0 hW hcnd _
  have hval : ∀ (j : Nat) t v, Try.f7.params[j]? = some t → args[j]? = some v → Value.okWide Try.prog W .any base t v := hval0
  have hW' := hW
  obtain ⟨p, q, hA0, hV, rfl, hfz, hnd⟩ := hW
  have hlt : ∀ x ∈ p, x.block < W.heap.size := fun x hx => by simpa using hW'.lt x (by simp [hx])
  have hA : DataW.TrodAll enc Try.prog W 0 (fun _ => true) true Try.f7.params.toList args.toList ds p := hA0
  have hA1 := hA
  rw [Try.params7] at hA1 hval
  obtain ⟨v0, vs0, d0, ds0, p0, q0, hargs, rfl, rfl, h0, r0⟩ := trodAll_cons hA1
  obtain ⟨v1, vs1, d1, ds1, p1, q1, rfl, rfl, rfl, h1, r1⟩ := trodAll_cons r0
  obtain ⟨v2, vs2, d2, ds2, p2, q2, rfl, rfl, rfl, h2, r2⟩ := trodAll_cons r1
  obtain ⟨rfl, rfl, rfl⟩ := trodAll_nil r2
  obtain rfl : args = #[v0, v1, v2] := by cases args; simp_all
  obtain ⟨rfl, rfl⟩ := trodVars_none hV
  have k0 := hval 0 41 v0 rfl rfl
  have k1 := hval 1 73 v1 rfl rfl
  have k2 := hval 2 3 v2 rfl rfl
  obtain ⟨x0, x1, x2, ts, op, vt, vo, rfl, rt, ro⟩ := arg_network k0 h0
  obtain ⟨ss, rv⟩ := arg_steps k1 h1
  obtain ⟨wk, rfl, _⟩ := arg_int k2 h2
  refine (show Calls Try.prog 7 _ W (RetV W (.bool true)) from ct_l_FnExactListSchedule x0 x1 x2 wk ts op ss vt vo v1 W rt ro rv).mono fun e W' ⟨he, hu⟩ => ?_
  subst he
  refine ⟨_, rfl, _, _, _, [], _, [], hW', trodAll_mk1 (shut_bool Try.underlying4 true), trodAll_below lift_laid hu.below (by kernel_rfl) hA hlt, rfl, hu.below.frame _, fun h => by cases h⟩
set_option maxHeartbeats 4000000 in
theorem joined_fnExactListSchedule : joinedFacts Try.pinned.checked.prog 7 Try.f7 Rows.fnExactListScheduleSpec Rows.fnExactListScheduleRow = true := by
  unfold joinedFacts
  repeat' (with_reducible refine cd_and ?_ ?_)
  all_goals first | with_reducible exact cd_enter | (with_reducible refine cd_lifts' ?_; rfl) | (with_reducible refine cd_make' ?_; rfl) | (as_aux_lemma => kernel_rfl)
theorem named_fnExactListSchedule : Try.pinned.checked.prog.funcNamed Rows.fnExactListScheduleRow.func = some 7 := by kernel_rfl
theorem over_fnExactListSchedule : Rows.fnExactListScheduleRow.holds Try.pinned (OpenSpec.ofChange Rows.fnExactListScheduleSpec) :=
  OpenClaim.holds_of_wide 7 Try.f7 rfl rfl rfl rfl rfl rfl rfl ⟨rfl, rfl, rfl, rfl, rfl⟩ rfl rfl rfl rfl rfl named_fnExactListSchedule Try.func7 joined_fnExactListSchedule
    (of_decide_eq_true (by kernel_rfl)) (by unfold Func.isWrapper; first | (rw [if_pos (by decide +kernel)]; kernel_rfl) | (rw [if_neg (by decide +kernel)]; exact ⟨rfl, rfl⟩))
    (fun os started H enc _ => lifted_fnExactListSchedule os started H enc)
/-- The law FnExactListSchedule holds at every input. -/
theorem proved_fnExactListSchedule : Rows.FnExactListScheduleSaid :=
  over_fnExactListSchedule
#print axioms proved_fnExactListSchedule
end Go.Proofs.Ytikeobneipjfnaa
