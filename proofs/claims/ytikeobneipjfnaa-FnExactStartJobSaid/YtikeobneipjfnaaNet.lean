/-
  A network's tensors, and the dimension of a label among them, in the reference.
  Conditions: none.
-/
import Derived.Test.YtikeobneipjfnaaElems
namespace Go.Proofs.Ytikeobneipjfnaa
set_option maxRecDepth 100000
open Go.RowKit

structure Ten where
  l : List Int
  d : List Int
  x : List Int
def TenR (t : Ten) (cs : List Value) (h : PH) : Prop := ∃ a b c, cs = [a, b, c] ∧ IntsR t.l a h ∧ IntsR t.d b h ∧ IntsR t.x c h
theorem TenR.mono {t : Ten} {cs : List Value} {h h' : PH} (r : TenR t cs h) (l : PLe h h') : TenR t cs h' := by
  obtain ⟨a, b, c, e, r1, r2, r3⟩ := r
  exact ⟨a, b, c, e, r1.mono l, r2.mono l, r3.mono l⟩
def TensR (ts : List Ten) (v : Value) (h : PH) : Prop := RowsR 3 TenR ts v h
theorem TensR.mono {ts : List Ten} {v : Value} {h h' : PH} (r : TensR ts v h) (l : PLe h h') : TensR ts v h' := RowsR.mono (R := TenR) TenR.mono r l
theorem TensR.sl {ts : List Ten} {v : Value} {h : PH} (r : TensR ts v h) : SlL v ts.length := RowsR.sl r
theorem TensR.le {ts : List Ten} {v : Value} {h : PH} (r : TensR ts v h) : (ts.length : Int) ≤ 9223372036854775807 := RowsR.le r
theorem TensR.at {ts : List Ten} {v : Value} {h : PH} (r : TensR ts v h) : ∃ cells, RowR cells ts.length 3 v h ∧ ∀ i, i < ts.length → ∃ t a b c, ts[i]? = some t ∧ (cells.drop (i * 3)).take 3 = [a, b, c] ∧ IntsR t.l a h ∧ IntsR t.d b h ∧ IntsR t.x c h := by
  obtain ⟨cells, rr, hc⟩ := r
  refine ⟨cells, rr, fun i hi => ?_⟩
  have ht : ts[i]? = some ts[i] := List.getElem?_eq_getElem hi
  obtain ⟨a, b, c, e, r1, r2, r3⟩ := hc i _ ht
  exact ⟨_, a, b, c, ht, e, r1, r2, r3⟩
theorem TensR.subH {ts : List Ten} {v : Value} {h : PH} (r : TensR ts v h) {hi : Nat} (h2 : hi ≤ ts.length) : TensR (ts.take hi) (subV v 0 hi 3) h := by
  obtain ⟨cells, rr, hc⟩ := r
  have := RowR.sub rr (Nat.zero_le hi) h2
  refine ⟨_, by rw [List.length_take, Nat.min_eq_left h2]; simpa using this, fun i x hx => ?_⟩
  have hlt : i < hi := by
    have := (List.getElem?_eq_some_iff.1 hx).1
    simp at this; omega
  have hx' : ts[i]? = some x := by rwa [List.getElem?_take, if_pos hlt] at hx
  have := hc i x hx'
  have e : ((cells.take ((hi - 0) * 3)).drop (i * 3)).take 3 = (cells.drop (i * 3)).take 3 := by
    rw [List.drop_take, List.take_take]
    congr 1
    omega
  show TenR x (((((cells.drop (0 * 3)).take ((hi - 0) * 3))).drop (i * 3)).take 3) h
  rw [Nat.zero_mul, List.drop_zero, e]
  exact this

/-- The dimension of a label among tensors, or 0. -/
def dimOf : List Ten → Int → Int
  | [], _ => 0
  | t :: r, x => if x ∈ t.l then t.d.getD (findI t.l x).toNat 0 else dimOf r x
def AxOK (t : Ten) : Prop := t.l.length = t.d.length ∧ ∀ j, j < t.l.length → 1 ≤ t.d.getD j 0 ∧ t.d.getD j 0 ≤ 8
theorem drop_at {ts : List Ten} {i : Nat} {t : Ten} (h : ts[i]? = some t) : ts.drop i = t :: ts.drop (i + 1) := by
  obtain ⟨hi, rfl⟩ := List.getElem?_eq_some_iff.1 h
  exact List.drop_eq_getElem_cons hi
theorem ct_s_l12Dim (ts : List Ten) (x : Int) (v : Value) (w : World) (r : TensR ts v (hp w)) (hok : ∀ t ∈ ts, AxOK t) : Calls Try.prog 184 [v, num x].toArray w (RetV w (num (dimOf ts x))) := by
  have hx := r.le
  obtain ⟨cells, rr, hc⟩ := r.at
  refine calls_in Try.func184 rfl Try.ntmps184 rfl (Sat.start w) ?_
  refine wp_sc ?_
  refine wp_sq ?_
  refine sq_v rfl (v_assign rfl) rfl ?_
  refine sq_end ?_
  refine qs_n ?_
  refine wp_sc ?_
  refine wp_sc ?_
  refine wp_sq ?_
  refine sq_v rfl (v_move rfl) rfl ?_
  refine sq_v rfl (v_len Try.underlying46 rfl r.sl) rfl ?_
  refine sq_v rfl (v_move rfl) rfl ?_
  refine sq_end ?_
  refine qs_n ?_
  refine wp_bl ?_
  refine wp_lp (fun i : Nat => [(1, num x), (8, v), (9, num ts.length), (10, num i)]) (fun _ => [hp w]) (fun i => i ≤ ts.length ∧ dimOf ts x = dimOf (ts.drop i) x) (fun i => ts.length - i) 0 ⟨by omega, rfl⟩ ⟨rfl, rfl, rfl, rfl, trivial⟩ (fun _ s => s) ?_
  rintro i ⟨hi, hd⟩
  refine wp_sc ?_
  refine wp_sq ?_
  refine sq_v rfl (v_lss rfl rfl) rfl ?_
  refine sq_end ?_
  refine qs_n ?_
  refine wp_sc ?_
  refine wp_cd rfl (fun c11 => ?_) (fun c11 => ?_)
  · refine wp_sk ?_
    refine qs_n ?_
    refine wp_sc ?_
    refine wp_bl ?_
    refine wp_sc ?_
    refine wp_sq ?_
    obtain ⟨t, a, b, c, ht, hcs, r1, r2, r3⟩ := hc i (by omega); have hax := hok t (List.mem_of_getElem? ht)
    refine sq_v rfl (v_indexAddr Try.underlying46 ty_28 rfl rfl rr (by decide) (by omega) (by omega)) rfl ?_
    refine sq_v rfl (v_loadNE 0 ty_28 rfl rfl rr (by have := rr.1; omega) rfl hcs) rfl ?_
    refine sq_x rfl (x_alloc ty_28 rfl) rfl ?_; rintro _ _ ⟨b6, rfl, rfl⟩
    refine sq_m 0 rfl rfl (m_store 0 ty_28 rfl rfl rfl rfl (by simp [r1.sl.one, r2.sl.one, r3.sl.one]) rfl (Nat.le_of_ble_eq_true rfl)) rfl ?_; rintro _ _ ⟨rfl, rfl⟩
    refine sq_end ?_
    refine qs_n ?_
    refine wp_sc ?_
    refine wp_sq ?_
    refine sq_v rfl (v_fieldAddr fd_28_0 ty_24 (by decide) rfl) rfl ?_
    refine sq_v rfl (v_loadB 0 ty_24 rfl rfl rfl) rfl ?_
    refine sq_v rfl (v_move rfl) rfl ?_
    refine sq_u rfl (x_callv rfl en_123 (fun w s => ct_s_l05Find _ _ _ w (r1.mono (s.get 1 rfl)))) rfl ?_
    refine sq_v rfl (v_assign rfl) rfl ?_
    refine sq_end ?_
    refine qs_n ?_
    refine wp_sc ?_
    refine wp_sq ?_
    refine sq_v rfl (v_move rfl) rfl ?_
    refine sq_v rfl (v_geq rfl rfl) rfl ?_
    refine sq_end ?_
    refine qs_n ?_
    refine wp_cd rfl (fun c19 => ?_) (fun c19 => ?_)
    · refine wp_sc ?_
      refine wp_sq ?_
      refine sq_v rfl (v_fieldAddr fd_28_1 ty_24 (by decide) rfl) rfl ?_
      refine sq_v rfl (v_loadB 0 ty_24 rfl rfl rfl) rfl ?_
      refine sq_v rfl (v_move rfl) rfl ?_
      refine sq_v rfl (v_idxI Try.underlying24 ty_3 rfl rfl r2 (by omega) (by have := findI_range t.l x; have := hax.1; omega)) rfl ?_
      refine sq_v rfl (v_loadI  1 ty_3 rfl rfl r2 (by have := findI_range t.l x; have := hax.1; omega)) rfl ?_
      refine sq_v rfl (v_assign rfl) rfl ?_
      refine sq_end ?_
      refine qs_n ?_
      refine wp_rt ?_
      refine qs_br ?_
      refine qs_r ?_
      refine qs_r ?_
      refine qs_br ?_
      refine qs_r ?_
      exact qs_ret1 rfl rfl (fin_q (i := 1) rfl (by rw [hd, drop_at ht, dimOf, if_pos (findI_ge.1 c19)]))
    · refine wp_sk ?_
      refine qs_bn ?_
      refine qs_n ?_
      refine wp_sq ?_
      refine sq_v rfl (v_add rfl rfl ((by unfold I64; omega))) rfl ?_
      refine sq_v rfl (v_move rfl) rfl ?_
      refine sq_end ?_
      exact qs_bk (i + 1) ⟨by omega, by rw [hd, drop_at ht, dimOf, if_neg (fun h => c19 (findI_ge.2 h))]⟩ (by omega) ⟨rfl, rfl, rfl, rfl, trivial⟩ (fun _ s => s.pick [1] (by decide) rfl)
  · refine wp_ex ?_
    refine qs_x ?_
    refine qs_x ?_
    refine qs_bx ?_
    refine qs_n ?_
    refine wp_sc ?_
    refine wp_sq ?_
    refine sq_v rfl (v_assign rfl) rfl ?_
    refine sq_end ?_
    refine qs_n ?_
    refine wp_rt ?_
    exact qs_ret1 rfl rfl (fin_q (i := 0) rfl (by rw [hd, List.drop_of_length_le (by omega), dimOf]))
def dimsFor (ts : List Ten) (ls : List Int) : List Int := ls.map (dimOf ts)
theorem ct_s_l12Dims (ts : List Ten) (ls : List Int) (v u : Value) (w : World) (r : TensR ts v (hp w)) (r' : IntsR ls u (hp w)) (hok : ∀ t ∈ ts, AxOK t) (hs : ls.length ≤ 1048576) : Calls Try.prog 119 [v, u].toArray w (Ret w emp (IntsO (dimsFor ts ls))) := by
  refine calls_in Try.func119 rfl Try.ntmps119 rfl (Sat.start w) ?_
  refine wp_sc ?_
  refine wp_sq ?_
  refine sq_v rfl (v_assign rfl) rfl ?_
  refine sq_end ?_
  refine qs_n ?_
  refine wp_sc ?_
  refine wp_sq ?_
  refine sq_x rfl (x_build0 Try.underlying24 ty_3) rfl ?_; intro v8 h8 (r8 : IntsO [] v8 h8)
  refine sq_v rfl (v_assign rfl) rfl ?_
  refine sq_end ?_
  refine qs_n ?_
  refine wp_sc ?_
  refine wp_sc ?_
  refine wp_sq ?_
  refine sq_v rfl (v_move rfl) rfl ?_
  refine sq_v rfl (v_len Try.underlying24 rfl r'.sl) rfl ?_
  refine sq_v rfl (v_move rfl) rfl ?_
  refine sq_end ?_
  refine qs_n ?_
  refine wp_bl ?_
  refine wp_lp (fun s : Nat × Value × PH => [(0, v), (5, s.2.1), (9, u), (10, num ls.length), (11, num s.1)]) (fun s => [s.2.2, hp w]) (fun s => s.1 ≤ ls.length ∧ IntsO (dimsFor ts (ls.take s.1)) s.2.1 s.2.2) (fun s => ls.length - s.1) (0, v8, h8) ⟨by omega, by simpa [dimsFor] using r8⟩ ⟨rfl, rfl, rfl, rfl, rfl, trivial⟩ (fun _ s => s) ?_
  rintro ⟨i, vo, ho⟩ ⟨hi, ro⟩
  dsimp only at hi ro ⊢
  refine wp_sc ?_
  refine wp_sq ?_
  refine sq_v rfl (v_lss rfl rfl) rfl ?_
  refine sq_end ?_
  refine qs_n ?_
  refine wp_sc ?_
  refine wp_cd rfl (fun c12 => ?_) (fun c12 => ?_)
  · refine wp_sk ?_
    refine qs_n ?_
    refine wp_sc ?_
    refine wp_bl ?_
    refine wp_sc ?_
    refine wp_sq ?_
    refine sq_v rfl (v_idxI Try.underlying24 ty_3 rfl rfl r' (by omega) (by omega)) rfl ?_
    refine sq_v rfl (v_loadI  1 ty_3 rfl rfl r' (by omega)) rfl ?_
    refine sq_v rfl (v_assign rfl) rfl ?_
    refine sq_end ?_
    refine qs_n ?_
    refine wp_sq ?_
    refine sq_v rfl (v_move rfl) rfl ?_
    refine sq_v rfl (v_move rfl) rfl ?_
    refine sq_v rfl (v_move rfl) rfl ?_
    refine sq_u rfl (x_callv rfl en_184 (fun w s => ct_s_l12Dim _ _ _ w (r.mono (s.get 1 rfl)) hok)) rfl ?_
    refine sq_x rfl (x_buildS [num (dimOf ts (ls.getD i 0))] Try.underlying24 ty_3 (by decide) rfl rfl rfl (by decide) (by decide) (by intro v hv; simp at hv; rcases hv with rfl <;> rfl)) rfl ?_; intro v19 h19 (r19 : IntsO [dimOf ts (ls.getD i 0)] v19 h19)
    refine sq_m 1 rfl rfl (m_appI 1 0 Try.underlying24 ty_3 rfl rfl rfl rfl ro rfl r19.toR (by simp [dimsFor]; omega)) rfl ?_; intro v20 h_ro20 ro20
    refine sq_v rfl (v_assign rfl) rfl ?_
    refine sq_end ?_
    refine qs_bn ?_
    refine qs_n ?_
    refine wp_sq ?_
    refine sq_v rfl (v_add rfl rfl ((by unfold I64; omega))) rfl ?_
    refine sq_v rfl (v_move rfl) rfl ?_
    refine sq_end ?_
    exact qs_bk (i + 1, v20, h_ro20) ⟨by simp only; omega, by simp only [dimsFor] at ro20 ⊢; rw [take_succ (by omega), List.map_append]; exact ro20⟩ (by simp only; omega) ⟨rfl, rfl, rfl, rfl, rfl, trivial⟩ (fun _ s => s.pick [1, 2] (by decide) rfl)
  · refine wp_ex ?_
    refine qs_x ?_
    refine qs_x ?_
    refine qs_bx ?_
    refine qs_n ?_
    refine wp_sc ?_
    refine wp_sq ?_
    refine sq_v rfl (v_move rfl) rfl ?_
    refine sq_v rfl (v_assign rfl) rfl ?_
    refine sq_end ?_
    refine qs_n ?_
    refine wp_rt ?_
    exact qs_ret1 rfl rfl (fin_t 0 (i := 1) rfl rfl rfl (by rwa [List.take_of_length_le (by omega)] at ro))
end Go.Proofs.Ytikeobneipjfnaa
