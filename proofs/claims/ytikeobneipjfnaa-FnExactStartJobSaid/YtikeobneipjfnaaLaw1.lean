/-
  The law's helpers for tensors: their size, the comparison; marks in slices of integers and whether they are still held.
  Conditions: none.
-/
import Derived.Test.YtikeobneipjfnaaNetOk2
import Derived.Test.YtikeobneipjfnaaOwn
namespace Go.Proofs.Ytikeobneipjfnaa
set_option maxRecDepth 100000
open Go.RowKit

/-! ### sizes -/
theorem szV_add {l a b : Int} (h : ¬ szV l a < 0) : szV (szV l a) b = szV l (a + b) := by
  rw [(szV_ge h).1]
  unfold szV
  by_cases h1 : l - a - b < 0
  · rw [if_pos h1, if_pos (by omega)]
  · rw [if_neg h1, if_neg (by omega)]; omega
theorem szV_neg {l a b : Int} (h : szV l a < 0) (hb : 0 ≤ b) : szV l (a + b) = -1 := by
  have := szV_lt h
  unfold szV
  rw [if_pos (by omega)]
def tenSize (t : Ten) : Int := t.l.length + t.d.length + t.x.length
theorem tenSize_nn (t : Ten) : 0 ≤ tenSize t := by unfold tenSize; omega
def tensSize : List Ten → Int
  | [] => 0
  | t :: r => tenSize t + tensSize r
theorem tensSize_nn : ∀ ts, 0 ≤ tensSize ts
  | [] => by simp [tensSize]
  | t :: r => by have := tenSize_nn t; have := tensSize_nn r; simp only [tensSize]; omega
theorem tensSize_append : ∀ a b, tensSize (a ++ b) = tensSize a + tensSize b
  | [], b => by simp [tensSize]
  | t :: r, b => by simp only [List.cons_append, tensSize, tensSize_append r b]; omega
theorem tensSize_take (ts : List Ten) (i : Nat) : tensSize ts = tensSize (ts.take i) + tensSize (ts.drop i) := by
  rw [← tensSize_append, List.take_append_drop]
theorem take_ten {ts : List Ten} {i : Nat} {t : Ten} (h : ts[i]? = some t) : ts.take (i + 1) = ts.take i ++ [t] := by
  obtain ⟨hi, e⟩ := List.getElem?_eq_some_iff.1 h
  rw [List.take_succ_eq_append_getElem hi, e]
theorem tensSize_step {ts : List Ten} {i : Nat} {t : Ten} (h : ts[i]? = some t) : tensSize (ts.take (i + 1)) = tensSize (ts.take i) + tenSize t := by
  rw [take_ten h, tensSize_append]
  simp [tensSize]
theorem ct_l_szTensor (t : Ten) (a b c : Value) (left : Int) (w : World) (r1 : IntsR t.l a (hp w)) (r2 : IntsR t.d b (hp w)) (r3 : IntsR t.x c (hp w)) (hl : 0 ≤ left ∧ left ≤ 1048576) :
    Calls Try.prog 15 [tenV a b c, num left].toArray w (RetV w (num (szV left (tenSize t)))) := by
  refine calls_in Try.func15 rfl Try.ntmps15 rfl (Sat.start w) ?_
  refine wp_sc ?_
  refine wp_sq ?_
  refine sq_x rfl (x_box rfl rfl) rfl ?_; rintro _ _ ⟨b2, rfl, rfl⟩
  refine sq_v rfl (v_assign rfl) rfl ?_
  refine sq_end ?_
  refine qs_n ?_
  refine wp_sc ?_
  refine wp_sq ?_
  refine sq_v rfl (v_fieldAddr fd_26_0 ty_24 (by decide) rfl) rfl ?_
  refine sq_v rfl (v_loadB 0 ty_24 rfl rfl rfl) rfl ?_
  refine sq_v rfl (v_move rfl) rfl ?_
  refine sq_u rfl (x_callv rfl en_68 (fun w s => ct_l_szIntS _ _ _ w (r1.mono (s.get 1 rfl)) hl)) rfl ?_
  refine sq_v rfl (v_assign rfl) rfl ?_
  refine sq_end ?_
  refine qs_n ?_
  refine wp_sc ?_
  refine wp_sc ?_
  refine wp_sq ?_
  refine sq_v rfl (v_move rfl) rfl ?_
  refine sq_v rfl (v_lss rfl rfl) rfl ?_
  refine sq_end ?_
  refine qs_n ?_
  refine wp_cd rfl (fun c10 => ?_) (fun c10 => ?_)
  · refine wp_sc ?_
    refine wp_sq ?_
    refine sq_v rfl (v_assign rfl) rfl ?_
    refine sq_end ?_
    refine qs_n ?_
    refine wp_rt ?_
    refine qs_r ?_
    exact qs_ret1 rfl rfl (fin_q (i := 1) rfl (by rw [tenSize, Int.add_assoc, szV_neg c10 (by omega)]))
  · refine wp_sk ?_
    refine qs_n ?_
    refine wp_sc ?_
    refine wp_sq ?_
    refine sq_v rfl (v_fieldAddr fd_26_1 ty_24 (by decide) rfl) rfl ?_
    refine sq_v rfl (v_loadB 0 ty_24 rfl rfl rfl) rfl ?_
    refine sq_v rfl (v_move rfl) rfl ?_
    have h1 := szV_ge c10
    refine sq_u rfl (x_callv rfl en_68 (fun w s => ct_l_szIntS _ _ _ w (r2.mono (s.get 1 rfl)) (by omega))) rfl ?_
    refine sq_v rfl (v_assign rfl) rfl ?_
    refine sq_end ?_
    refine qs_n ?_
    refine wp_sc ?_
    refine wp_sc ?_
    refine wp_sq ?_
    refine sq_v rfl (v_move rfl) rfl ?_
    refine sq_v rfl (v_lss rfl rfl) rfl ?_
    refine sq_end ?_
    refine qs_n ?_
    refine wp_cd rfl (fun c16 => ?_) (fun c16 => ?_)
    · refine wp_sc ?_
      refine wp_sq ?_
      refine sq_v rfl (v_assign rfl) rfl ?_
      refine sq_end ?_
      refine qs_n ?_
      refine wp_rt ?_
      refine qs_r ?_
      exact qs_ret1 rfl rfl (fin_q (i := 1) rfl (by rw [szV_add c10] at c16; rw [tenSize, szV_neg c16 (by omega)]))
    · refine wp_sk ?_
      refine qs_n ?_
      refine wp_sc ?_
      refine wp_sq ?_
      refine sq_v rfl (v_fieldAddr fd_26_2 ty_24 (by decide) rfl) rfl ?_
      refine sq_v rfl (v_loadB 0 ty_24 rfl rfl rfl) rfl ?_
      refine sq_v rfl (v_move rfl) rfl ?_
      have h2 := szV_ge c16
      refine sq_u rfl (x_callv rfl en_68 (fun w s => ct_l_szIntS _ _ _ w (r3.mono (s.get 1 rfl)) (by omega))) rfl ?_
      refine sq_v rfl (v_assign rfl) rfl ?_
      refine sq_end ?_
      refine qs_n ?_
      refine wp_sc ?_
      refine wp_sc ?_
      refine wp_sq ?_
      refine sq_v rfl (v_move rfl) rfl ?_
      refine sq_v rfl (v_lss rfl rfl) rfl ?_
      refine sq_end ?_
      refine qs_n ?_
      refine wp_cd rfl (fun c22 => ?_) (fun c22 => ?_)
      · refine wp_sc ?_
        refine wp_sq ?_
        refine sq_v rfl (v_assign rfl) rfl ?_
        refine sq_end ?_
        refine qs_n ?_
        refine wp_rt ?_
        refine qs_r ?_
        exact qs_ret1 rfl rfl (fin_q (i := 1) rfl (by rw [szV_add c16, szV_add c10] at c22; rw [tenSize, Int.add_assoc]; have := szV_lt c22; rw [szV, if_pos this]))
      · refine wp_sk ?_
        refine qs_n ?_
        refine wp_sc ?_
        refine wp_sq ?_
        refine sq_v rfl (v_move rfl) rfl ?_
        refine sq_v rfl (v_assign rfl) rfl ?_
        refine sq_end ?_
        refine qs_n ?_
        refine wp_rt ?_
        exact qs_ret1 rfl rfl (fin_q (i := 1) rfl (by rw [szV_add c16, szV_add c10, tenSize, Int.add_assoc]))
theorem ct_l_szTensorS (ts : List Ten) (v : Value) (left : Int) (w : World) (r : TensR ts v (hp w)) (hl : 0 ≤ left ∧ left ≤ 1048576) :
    Calls Try.prog 74 [v, num left].toArray w (RetV w (num (szV left (ts.length + tensSize ts)))) := by
  have hx := r.le
  obtain ⟨cells, rr, hc⟩ := r.at
  refine calls_in Try.func74 rfl Try.ntmps74 rfl (Sat.start w) ?_
  refine wp_sc ?_
  refine wp_sq ?_
  refine sq_v rfl (v_assign rfl) rfl ?_
  refine sq_end ?_
  refine qs_n ?_
  refine wp_sc ?_
  refine wp_sq ?_
  refine sq_v rfl (v_move rfl) rfl ?_
  refine sq_v rfl (v_move rfl) rfl ?_
  refine sq_v rfl (v_len Try.underlying39 rfl r.sl) rfl ?_
  refine sq_v rfl (v_sub rfl rfl ((by unfold I64; omega))) rfl ?_
  refine sq_v rfl (v_assign rfl) rfl ?_
  refine sq_end ?_
  refine qs_n ?_
  refine wp_sc ?_
  refine wp_sc ?_
  refine wp_sq ?_
  refine sq_v rfl (v_move rfl) rfl ?_
  refine sq_v rfl (v_lss rfl rfl) rfl ?_
  refine sq_end ?_
  refine qs_n ?_
  refine wp_cd rfl (fun c11 => ?_) (fun c11 => ?_)
  · refine wp_sc ?_
    refine wp_sq ?_
    refine sq_v rfl (v_assign rfl) rfl ?_
    refine sq_end ?_
    refine qs_n ?_
    refine wp_rt ?_
    refine qs_r ?_
    exact qs_ret1 rfl rfl (fin_q (i := 0) rfl (by have := tensSize_nn ts; rw [szV, if_pos (by omega)]))
  · refine wp_sk ?_
    refine qs_n ?_
    refine wp_sc ?_
    refine wp_sc ?_
    refine wp_sq ?_
    refine sq_v rfl (v_assign rfl) rfl ?_
    refine sq_end ?_
    refine qs_n ?_
    refine wp_bl ?_
    refine wp_lp (fun s : Nat × Int => [(0, v), (1, num s.2), (5, num s.1)]) (fun _ => [hp w]) (fun s => s.1 ≤ ts.length ∧ s.2 = left - ts.length - tensSize (ts.take s.1) ∧ 0 ≤ s.2) (fun s => ts.length - s.1) (0, left - ts.length) ⟨by omega, by simp [tensSize], by simp only; omega⟩ ⟨rfl, rfl, rfl, trivial⟩ (fun _ s => s) ?_
    rintro ⟨i, q⟩ ⟨hi, hq, hq0⟩
    dsimp only at hi hq hq0 ⊢
    refine wp_sc ?_
    refine wp_sc ?_
    refine wp_sq ?_
    refine sq_v rfl (v_move rfl) rfl ?_
    refine sq_v rfl (v_move rfl) rfl ?_
    refine sq_v rfl (v_len Try.underlying39 rfl r.sl) rfl ?_
    refine sq_v rfl (v_lss rfl rfl) rfl ?_
    refine sq_end ?_
    refine qs_n ?_
    refine wp_cd rfl (fun c15 => ?_) (fun c15 => ?_)
    · refine wp_sk ?_
      refine qs_n ?_
      refine wp_sc ?_
      refine wp_bl ?_
      refine wp_sc ?_
      refine wp_sq ?_
      refine sq_v rfl (v_move rfl) rfl ?_
      refine sq_v rfl (v_move rfl) rfl ?_
      obtain ⟨t, a, b, c, ht, hcs, r1, r2, r3⟩ := hc i (by omega); have hst := tensSize_step ht; have hnn := tensSize_nn (ts.take i); have htk := tensSize_take ts (i + 1); have hnd := tensSize_nn (ts.drop (i + 1)); have htn := tenSize_nn t
      refine sq_v rfl (v_indexAddr Try.underlying39 ty_26 rfl rfl rr (by decide) (by omega) (by omega)) rfl ?_
      refine sq_v rfl (v_loadNE 0 ty_26 rfl rfl rr (by have := rr.1; omega) rfl hcs) rfl ?_
      refine sq_v rfl (v_move rfl) rfl ?_
      refine sq_u rfl (x_callv rfl en_15 (fun w s => ct_l_szTensor t _ _ _ _ w (r1.mono (s.get 0 rfl)) (r2.mono (s.get 0 rfl)) (r3.mono (s.get 0 rfl)) (by omega))) rfl ?_
      refine sq_v rfl (v_assign rfl) rfl ?_
      refine sq_end ?_
      refine qs_n ?_
      refine wp_sc ?_
      refine wp_sq ?_
      refine sq_v rfl (v_move rfl) rfl ?_
      refine sq_v rfl (v_lss rfl rfl) rfl ?_
      refine sq_end ?_
      refine qs_n ?_
      refine wp_cd rfl (fun c25 => ?_) (fun c25 => ?_)
      · refine wp_sc ?_
        refine wp_sq ?_
        refine sq_v rfl (v_assign rfl) rfl ?_
        refine sq_end ?_
        refine qs_n ?_
        refine wp_rt ?_
        refine qs_br ?_
        refine qs_r ?_
        refine qs_r ?_
        refine qs_br ?_
        refine qs_r ?_
        exact qs_ret1 rfl rfl (fin_q (i := 0) rfl (by have := szV_lt c25; rw [szV, if_pos (by omega)]))
      · refine wp_sk ?_
        refine qs_bn ?_
        refine qs_n ?_
        refine wp_sq ?_
        refine sq_v rfl (v_move rfl) rfl ?_
        refine sq_v rfl (v_add rfl rfl ((by unfold I64; omega))) rfl ?_
        refine sq_v rfl (v_assign rfl) rfl ?_
        refine sq_end ?_
        have hge := szV_ge c25
        exact qs_bk (i + 1, szV q (tenSize t)) ⟨by simp only; omega, by simp only; omega, by simp only; omega⟩ (by simp only; omega) ⟨rfl, rfl, rfl, trivial⟩ (fun _ s => s)
    · refine wp_ex ?_
      refine qs_x ?_
      refine qs_x ?_
      refine qs_bx ?_
      refine qs_n ?_
      refine wp_sc ?_
      refine wp_sq ?_
      refine sq_v rfl (v_move rfl) rfl ?_
      refine sq_v rfl (v_assign rfl) rfl ?_
      refine sq_end ?_
      refine qs_n ?_
      refine wp_rt ?_
      exact qs_ret1 rfl rfl (fin_q (i := 0) rfl (by rw [List.take_of_length_le (by omega)] at hq; rw [szV, if_neg (by omega)]; congr 1; omega))
theorem ct_l_szNetwork (k p n : Int) (ts : List Ten) (op : List Int) (vt vo : Value) (left : Int) (w : World) (r : TensR ts vt (hp w)) (r' : IntsR op vo (hp w)) (hl : 0 ≤ left ∧ left ≤ 1048576) :
    Calls Try.prog 26 [netV k p n vt vo, num left].toArray w (RetV w (num (szV left (ts.length + tensSize ts + op.length)))) := by
  refine calls_in Try.func26 rfl Try.ntmps26 rfl (Sat.start w) ?_
  refine wp_sc ?_
  refine wp_sq ?_
  refine sq_x rfl (x_box rfl rfl) rfl ?_; rintro _ _ ⟨b2, rfl, rfl⟩
  refine sq_v rfl (v_assign rfl) rfl ?_
  refine sq_end ?_
  refine qs_n ?_
  refine wp_sc ?_
  refine wp_sq ?_
  refine sq_v rfl (v_fieldAddr fd_41_1 ty_39 (by decide) rfl) rfl ?_
  refine sq_v rfl (v_loadB 0 ty_39 rfl rfl rfl) rfl ?_
  refine sq_v rfl (v_move rfl) rfl ?_
  refine sq_u rfl (x_callv rfl en_74 (fun w s => ct_l_szTensorS _ _ _ w (r.mono (s.get 1 rfl)) hl)) rfl ?_
  refine sq_v rfl (v_assign rfl) rfl ?_
  refine sq_end ?_
  refine qs_n ?_
  refine wp_sc ?_
  refine wp_sc ?_
  refine wp_sq ?_
  refine sq_v rfl (v_move rfl) rfl ?_
  refine sq_v rfl (v_lss rfl rfl) rfl ?_
  refine sq_end ?_
  refine qs_n ?_
  refine wp_cd rfl (fun c10 => ?_) (fun c10 => ?_)
  · refine wp_sc ?_
    refine wp_sq ?_
    refine sq_v rfl (v_assign rfl) rfl ?_
    refine sq_end ?_
    refine qs_n ?_
    refine wp_rt ?_
    refine qs_r ?_
    exact qs_ret1 rfl rfl (fin_q (i := 1) rfl (by rw [szV_neg c10 (by omega)]))
  · refine wp_sk ?_
    refine qs_n ?_
    refine wp_sc ?_
    refine wp_sq ?_
    refine sq_v rfl (v_fieldAddr fd_41_2 ty_24 (by decide) rfl) rfl ?_
    refine sq_v rfl (v_loadB 0 ty_24 rfl rfl rfl) rfl ?_
    refine sq_v rfl (v_move rfl) rfl ?_
    have h1 := szV_ge c10; have hnn := tensSize_nn ts
    refine sq_u rfl (x_callv rfl en_68 (fun w s => ct_l_szIntS _ _ _ w (r'.mono (s.get 1 rfl)) (by omega))) rfl ?_
    refine sq_v rfl (v_assign rfl) rfl ?_
    refine sq_end ?_
    refine qs_n ?_
    refine wp_sc ?_
    refine wp_sc ?_
    refine wp_sq ?_
    refine sq_v rfl (v_move rfl) rfl ?_
    refine sq_v rfl (v_lss rfl rfl) rfl ?_
    refine sq_end ?_
    refine qs_n ?_
    refine wp_cd rfl (fun c16 => ?_) (fun c16 => ?_)
    · refine wp_sc ?_
      refine wp_sq ?_
      refine sq_v rfl (v_assign rfl) rfl ?_
      refine sq_end ?_
      refine qs_n ?_
      refine wp_rt ?_
      refine qs_r ?_
      exact qs_ret1 rfl rfl (fin_q (i := 1) rfl (by rw [szV_add c10] at c16; have := szV_lt c16; rw [szV, if_pos this]))
    · refine wp_sk ?_
      refine qs_n ?_
      refine wp_sc ?_
      refine wp_sq ?_
      refine sq_v rfl (v_move rfl) rfl ?_
      refine sq_v rfl (v_assign rfl) rfl ?_
      refine sq_end ?_
      refine qs_n ?_
      refine wp_rt ?_
      exact qs_ret1 rfl rfl (fin_q (i := 1) rfl (by rw [szV_add c10]))
/-! ### comparisons -/
theorem ct_l_eqRing (k p n : Int) (w : World) : Calls Try.prog 83 [ringV k p n, ringV k p n].toArray w (RetV w (.bool true)) := by
  refine calls_in Try.func83 rfl Try.ntmps83 rfl (Sat.start w) ?_
  refine wp_sc ?_
  refine wp_sq ?_
  refine sq_x rfl (x_box rfl rfl) rfl ?_; rintro _ _ ⟨b2, rfl, rfl⟩
  refine sq_x rfl (x_box rfl rfl) rfl ?_; rintro _ _ ⟨b3, rfl, rfl⟩
  refine sq_v rfl (v_assign rfl) rfl ?_
  refine sq_end ?_
  refine qs_n ?_
  refine wp_sc ?_
  refine wp_sc ?_
  refine wp_sq ?_
  refine sq_v rfl (v_fieldAddr fd_30_0 ty_3 (by decide) rfl) rfl ?_
  refine sq_v rfl (v_loadB 1 ty_3 rfl rfl rfl) rfl ?_
  refine sq_v rfl (v_fieldAddr fd_30_0 ty_3 (by decide) rfl) rfl ?_
  refine sq_v rfl (v_loadB 0 ty_3 rfl rfl rfl) rfl ?_
  refine sq_v rfl (v_neq rfl rfl) rfl ?_
  refine sq_end ?_
  refine qs_n ?_
  refine wp_cd rfl (fun c9 => ?_) (fun c9 => ?_)
  · refine wp_sc ?_
    refine wp_sq ?_
    refine sq_v rfl (v_assign rfl) rfl ?_
    refine sq_end ?_
    refine qs_n ?_
    refine wp_rt ?_
    refine qs_r ?_
    exact absurd rfl c9
  · refine wp_sk ?_
    refine qs_n ?_
    refine wp_sc ?_
    refine wp_sc ?_
    refine wp_sq ?_
    refine sq_v rfl (v_fieldAddr fd_30_1 ty_3 (by decide) rfl) rfl ?_
    refine sq_v rfl (v_loadB 1 ty_3 rfl rfl rfl) rfl ?_
    refine sq_v rfl (v_fieldAddr fd_30_1 ty_3 (by decide) rfl) rfl ?_
    refine sq_v rfl (v_loadB 0 ty_3 rfl rfl rfl) rfl ?_
    refine sq_v rfl (v_neq rfl rfl) rfl ?_
    refine sq_end ?_
    refine qs_n ?_
    refine wp_cd rfl (fun c14 => ?_) (fun c14 => ?_)
    · refine wp_sc ?_
      refine wp_sq ?_
      refine sq_v rfl (v_assign rfl) rfl ?_
      refine sq_end ?_
      refine qs_n ?_
      refine wp_rt ?_
      refine qs_r ?_
      exact absurd rfl c14
    · refine wp_sk ?_
      refine qs_n ?_
      refine wp_sc ?_
      refine wp_sc ?_
      refine wp_sq ?_
      refine sq_v rfl (v_fieldAddr fd_30_2 ty_3 (by decide) rfl) rfl ?_
      refine sq_v rfl (v_loadB 1 ty_3 rfl rfl rfl) rfl ?_
      refine sq_v rfl (v_fieldAddr fd_30_2 ty_3 (by decide) rfl) rfl ?_
      refine sq_v rfl (v_loadB 0 ty_3 rfl rfl rfl) rfl ?_
      refine sq_v rfl (v_neq rfl rfl) rfl ?_
      refine sq_end ?_
      refine qs_n ?_
      refine wp_cd rfl (fun c19 => ?_) (fun c19 => ?_)
      · refine wp_sc ?_
        refine wp_sq ?_
        refine sq_v rfl (v_assign rfl) rfl ?_
        refine sq_end ?_
        refine qs_n ?_
        refine wp_rt ?_
        refine qs_r ?_
        exact absurd rfl c19
      · refine wp_sk ?_
        refine qs_n ?_
        refine wp_sc ?_
        refine wp_sq ?_
        refine sq_v rfl (v_assign rfl) rfl ?_
        refine sq_end ?_
        refine qs_n ?_
        refine wp_rt ?_
        exact qs_ret1 rfl rfl (fin_q (i := 2) rfl rfl)
theorem ct_l_eqTensor (t : Ten) (a b c a' b' c' : Value) (w : World) (r1 : IntsR t.l a (hp w)) (r2 : IntsR t.d b (hp w)) (r3 : IntsR t.x c (hp w)) (r1' : IntsR t.l a' (hp w)) (r2' : IntsR t.d b' (hp w)) (r3' : IntsR t.x c' (hp w)) :
    Calls Try.prog 21 [tenV a b c, tenV a' b' c'].toArray w (RetV w (.bool true)) := by
  refine calls_in Try.func21 rfl Try.ntmps21 rfl (Sat.start w) ?_
  refine wp_sc ?_
  refine wp_sq ?_
  refine sq_x rfl (x_box rfl rfl) rfl ?_; rintro _ _ ⟨b2, rfl, rfl⟩
  refine sq_x rfl (x_box rfl rfl) rfl ?_; rintro _ _ ⟨b3, rfl, rfl⟩
  refine sq_v rfl (v_assign rfl) rfl ?_
  refine sq_end ?_
  refine qs_n ?_
  refine wp_sc ?_
  refine wp_sc ?_
  refine wp_sq ?_
  refine sq_v rfl (v_fieldAddr fd_28_0 ty_24 (by decide) rfl) rfl ?_
  refine sq_v rfl (v_loadB 1 ty_24 rfl rfl rfl) rfl ?_
  refine sq_v rfl (v_fieldAddr fd_28_0 ty_24 (by decide) rfl) rfl ?_
  refine sq_v rfl (v_loadB 0 ty_24 rfl rfl rfl) rfl ?_
  refine sq_u rfl (x_callv rfl en_22 (fun w s => ct_l_eqIntS _ _ _ _ w (r1.mono (s.get 2 rfl)) (r1'.mono (s.get 2 rfl)) rfl)) rfl ?_
  refine sq_v rfl (v_not rfl) rfl ?_
  refine sq_end ?_
  refine qs_n ?_
  refine wp_cn _ rfl (fun c10 => ?_) (fun c10 => ?_)
  · refine wp_sc ?_
    refine wp_sq ?_
    refine sq_v rfl (v_assign rfl) rfl ?_
    refine sq_end ?_
    refine qs_n ?_
    refine wp_rt ?_
    refine qs_r ?_
    cases c10
  · refine wp_sk ?_
    refine qs_n ?_
    refine wp_sc ?_
    refine wp_sc ?_
    refine wp_sq ?_
    refine sq_v rfl (v_fieldAddr fd_28_1 ty_24 (by decide) rfl) rfl ?_
    refine sq_v rfl (v_loadB 1 ty_24 rfl rfl rfl) rfl ?_
    refine sq_v rfl (v_fieldAddr fd_28_1 ty_24 (by decide) rfl) rfl ?_
    refine sq_v rfl (v_loadB 0 ty_24 rfl rfl rfl) rfl ?_
    refine sq_u rfl (x_callv rfl en_22 (fun w s => ct_l_eqIntS _ _ _ _ w (r2.mono (s.get 2 rfl)) (r2'.mono (s.get 2 rfl)) rfl)) rfl ?_
    refine sq_v rfl (v_not rfl) rfl ?_
    refine sq_end ?_
    refine qs_n ?_
    refine wp_cn _ rfl (fun c16 => ?_) (fun c16 => ?_)
    · refine wp_sc ?_
      refine wp_sq ?_
      refine sq_v rfl (v_assign rfl) rfl ?_
      refine sq_end ?_
      refine qs_n ?_
      refine wp_rt ?_
      refine qs_r ?_
      cases c16
    · refine wp_sk ?_
      refine qs_n ?_
      refine wp_sc ?_
      refine wp_sc ?_
      refine wp_sq ?_
      refine sq_v rfl (v_fieldAddr fd_28_2 ty_24 (by decide) rfl) rfl ?_
      refine sq_v rfl (v_loadB 1 ty_24 rfl rfl rfl) rfl ?_
      refine sq_v rfl (v_fieldAddr fd_28_2 ty_24 (by decide) rfl) rfl ?_
      refine sq_v rfl (v_loadB 0 ty_24 rfl rfl rfl) rfl ?_
      refine sq_u rfl (x_callv rfl en_22 (fun w s => ct_l_eqIntS _ _ _ _ w (r3.mono (s.get 2 rfl)) (r3'.mono (s.get 2 rfl)) rfl)) rfl ?_
      refine sq_v rfl (v_not rfl) rfl ?_
      refine sq_end ?_
      refine qs_n ?_
      refine wp_cn _ rfl (fun c22 => ?_) (fun c22 => ?_)
      · refine wp_sc ?_
        refine wp_sq ?_
        refine sq_v rfl (v_assign rfl) rfl ?_
        refine sq_end ?_
        refine qs_n ?_
        refine wp_rt ?_
        refine qs_r ?_
        cases c22
      · refine wp_sk ?_
        refine qs_n ?_
        refine wp_sc ?_
        refine wp_sq ?_
        refine sq_v rfl (v_assign rfl) rfl ?_
        refine sq_end ?_
        refine qs_n ?_
        refine wp_rt ?_
        exact qs_ret1 rfl rfl (fin_q (i := 2) rfl rfl)
theorem ct_l_eqTensorS (ts : List Ten) (v u : Value) (w : World) (r : TensR ts v (hp w)) (r' : TensR ts u (hp w)) : Calls Try.prog 84 [v, u].toArray w (RetV w (.bool true)) := by
  have hx := r.le
  obtain ⟨cells, rr, hc⟩ := r.at
  obtain ⟨cells', rr', hc'⟩ := r'.at
  refine calls_in Try.func84 rfl Try.ntmps84 rfl (Sat.start w) ?_
  refine wp_sc ?_
  refine wp_sq ?_
  refine sq_v rfl (v_assign rfl) rfl ?_
  refine sq_end ?_
  refine qs_n ?_
  refine wp_sc ?_
  refine wp_sc ?_
  refine wp_sq ?_
  refine sq_v rfl (v_move rfl) rfl ?_
  refine sq_v rfl (v_len Try.underlying46 rfl r.sl) rfl ?_
  refine sq_v rfl (v_move rfl) rfl ?_
  refine sq_v rfl (v_len Try.underlying46 rfl r'.sl) rfl ?_
  refine sq_v rfl (v_neq rfl rfl) rfl ?_
  refine sq_end ?_
  refine qs_n ?_
  refine wp_cd rfl (fun c10 => ?_) (fun c10 => ?_)
  · refine wp_sc ?_
    refine wp_sq ?_
    refine sq_v rfl (v_assign rfl) rfl ?_
    refine sq_end ?_
    refine qs_n ?_
    refine wp_rt ?_
    refine qs_r ?_
    exact absurd rfl c10
  · refine wp_sk ?_
    refine qs_n ?_
    refine wp_sc ?_
    refine wp_sc ?_
    refine wp_sq ?_
    refine sq_v rfl (v_assign rfl) rfl ?_
    refine sq_end ?_
    refine qs_n ?_
    refine wp_bl ?_
    refine wp_lp (fun i : Nat => [(0, v), (1, u), (5, num i)]) (fun _ => [hp w]) (fun i => i ≤ ts.length) (fun i => ts.length - i) 0 (by omega) ⟨rfl, rfl, rfl, trivial⟩ (fun _ s => s) ?_
    intro i hi
    refine wp_sc ?_
    refine wp_sc ?_
    refine wp_sq ?_
    refine sq_v rfl (v_move rfl) rfl ?_
    refine sq_v rfl (v_move rfl) rfl ?_
    refine sq_v rfl (v_len Try.underlying46 rfl r.sl) rfl ?_
    refine sq_v rfl (v_lss rfl rfl) rfl ?_
    refine sq_end ?_
    refine qs_n ?_
    refine wp_cd rfl (fun c14 => ?_) (fun c14 => ?_)
    · refine wp_sk ?_
      refine qs_n ?_
      refine wp_sc ?_
      refine wp_bl ?_
      refine wp_sc ?_
      refine wp_rj 10 [(0, true), (1, true), (2, true), (3, true), (4, true), (5, true), (6, true), (7, true), (8, false), (9, true)] mixed_ok (by kernel_rfl) ?_
      refine rj_v rfl rfl (v_move rfl) rfl ?_
      refine rj_v rfl rfl (v_move rfl) rfl ?_
      obtain ⟨t, a, b, c, ht, hcs, r1, r2, r3⟩ := hc i (by omega); obtain ⟨t', a', b', c', ht', hcs', r1', r2', r3'⟩ := hc' i (by omega); obtain rfl : t = t' := (by rw [ht] at ht'; exact Option.some.inj ht')
      refine rj_v rfl rfl (v_indexAddr Try.underlying46 ty_28 rfl rfl rr (by decide) (by omega) (by omega)) rfl ?_
      refine rj_v rfl rfl (v_loadNE 0 ty_28 rfl rfl rr (by have := rr.1; omega) rfl hcs) rfl ?_
      refine rj_v rfl rfl (v_move rfl) rfl ?_
      refine rj_v rfl rfl (v_move rfl) rfl ?_
      refine rj_v rfl rfl (v_indexAddr Try.underlying46 ty_28 rfl rfl rr' (by decide) (by omega) (by omega)) rfl ?_
      refine rj_v rfl rfl (v_loadNE 0 ty_28 rfl rfl rr' (by have := rr'.1; omega) rfl hcs') rfl ?_
      refine rj_u rfl rfl (x_callv rfl en_21 (fun w s => ct_l_eqTensor _ _ _ _ _ _ _ w (r1.mono (s.get 0 rfl)) (r2.mono (s.get 0 rfl)) (r3.mono (s.get 0 rfl)) (r1'.mono (s.get 0 rfl)) (r2'.mono (s.get 0 rfl)) (r3'.mono (s.get 0 rfl)))) rfl ?_
      refine rj_v rfl rfl (v_not rfl) rfl ?_
      refine rj_end ?_
      refine qs_n ?_
      refine wp_cn _ rfl (fun c26 => ?_) (fun c26 => ?_)
      · refine wp_sc ?_
        refine wp_sq ?_
        refine sq_v rfl (v_assign rfl) rfl ?_
        refine sq_end ?_
        refine qs_n ?_
        refine wp_rt ?_
        refine qs_br ?_
        refine qs_r ?_
        refine qs_r ?_
        refine qs_br ?_
        refine qs_r ?_
        cases c26
      · refine wp_sk ?_
        refine qs_bn ?_
        refine qs_n ?_
        refine wp_sq ?_
        refine sq_v rfl (v_move rfl) rfl ?_
        refine sq_v rfl (v_add rfl rfl ((by unfold I64; omega))) rfl ?_
        refine sq_v rfl (v_assign rfl) rfl ?_
        refine sq_end ?_
        exact qs_bk (i + 1) (by omega) (by omega) ⟨rfl, rfl, rfl, trivial⟩ (fun _ s => s)
    · refine wp_ex ?_
      refine qs_x ?_
      refine qs_x ?_
      refine qs_bx ?_
      refine qs_n ?_
      refine wp_sc ?_
      refine wp_sq ?_
      refine sq_v rfl (v_assign rfl) rfl ?_
      refine sq_end ?_
      refine qs_n ?_
      refine wp_rt ?_
      exact qs_ret1 rfl rfl (fin_q (i := 0) rfl rfl)
theorem ct_l_eqNetwork (k p n : Int) (ts : List Ten) (op : List Int) (vt vo ut uo : Value) (w : World) (r : TensR ts vt (hp w)) (ro : IntsR op vo (hp w)) (r' : TensR ts ut (hp w)) (ro' : IntsR op uo (hp w)) :
    Calls Try.prog 31 [netV k p n vt vo, netV k p n ut uo].toArray w (RetV w (.bool true)) := by
  refine calls_in Try.func31 rfl Try.ntmps31 rfl (Sat.start w) ?_
  refine wp_sc ?_
  refine wp_sq ?_
  refine sq_x rfl (x_box rfl rfl) rfl ?_; rintro _ _ ⟨b2, rfl, rfl⟩
  refine sq_x rfl (x_box rfl rfl) rfl ?_; rintro _ _ ⟨b3, rfl, rfl⟩
  refine sq_v rfl (v_assign rfl) rfl ?_
  refine sq_end ?_
  refine qs_n ?_
  refine wp_sc ?_
  refine wp_sc ?_
  refine wp_sq ?_
  refine sq_v rfl (v_fieldAddr fd_48_0 ty_30 (by decide) rfl) rfl ?_
  refine sq_v rfl (v_loadNB 1 ty_30 rfl rfl rfl rfl) rfl ?_
  refine sq_v rfl (v_fieldAddr fd_48_0 ty_30 (by decide) rfl) rfl ?_
  refine sq_v rfl (v_loadNB 0 ty_30 rfl rfl rfl rfl) rfl ?_
  refine sq_u rfl (x_callv rfl en_83 (fun w s => ct_l_eqRing _ _ _ w)) rfl ?_
  refine sq_v rfl (v_not rfl) rfl ?_
  refine sq_end ?_
  refine qs_n ?_
  refine wp_cn _ rfl (fun c10 => ?_) (fun c10 => ?_)
  · refine wp_sc ?_
    refine wp_sq ?_
    refine sq_v rfl (v_assign rfl) rfl ?_
    refine sq_end ?_
    refine qs_n ?_
    refine wp_rt ?_
    refine qs_r ?_
    cases c10
  · refine wp_sk ?_
    refine qs_n ?_
    refine wp_sc ?_
    refine wp_sc ?_
    refine wp_sq ?_
    refine sq_v rfl (v_fieldAddr fd_48_1 ty_46 (by decide) rfl) rfl ?_
    refine sq_v rfl (v_loadB 1 ty_46 rfl rfl rfl) rfl ?_
    refine sq_v rfl (v_fieldAddr fd_48_1 ty_46 (by decide) rfl) rfl ?_
    refine sq_v rfl (v_loadB 0 ty_46 rfl rfl rfl) rfl ?_
    refine sq_u rfl (x_callv rfl en_84 (fun w s => ct_l_eqTensorS _ _ _ w (r.mono (s.get 2 rfl)) (r'.mono (s.get 2 rfl)))) rfl ?_
    refine sq_v rfl (v_not rfl) rfl ?_
    refine sq_end ?_
    refine qs_n ?_
    refine wp_cn _ rfl (fun c16 => ?_) (fun c16 => ?_)
    · refine wp_sc ?_
      refine wp_sq ?_
      refine sq_v rfl (v_assign rfl) rfl ?_
      refine sq_end ?_
      refine qs_n ?_
      refine wp_rt ?_
      refine qs_r ?_
      cases c16
    · refine wp_sk ?_
      refine qs_n ?_
      refine wp_sc ?_
      refine wp_sc ?_
      refine wp_sq ?_
      refine sq_v rfl (v_fieldAddr fd_48_2 ty_24 (by decide) rfl) rfl ?_
      refine sq_v rfl (v_loadB 1 ty_24 rfl rfl rfl) rfl ?_
      refine sq_v rfl (v_fieldAddr fd_48_2 ty_24 (by decide) rfl) rfl ?_
      refine sq_v rfl (v_loadB 0 ty_24 rfl rfl rfl) rfl ?_
      refine sq_u rfl (x_callv rfl en_22 (fun w s => ct_l_eqIntS _ _ _ _ w (ro.mono (s.get 2 rfl)) (ro'.mono (s.get 2 rfl)) rfl)) rfl ?_
      refine sq_v rfl (v_not rfl) rfl ?_
      refine sq_end ?_
      refine qs_n ?_
      refine wp_cn _ rfl (fun c22 => ?_) (fun c22 => ?_)
      · refine wp_sc ?_
        refine wp_sq ?_
        refine sq_v rfl (v_assign rfl) rfl ?_
        refine sq_end ?_
        refine qs_n ?_
        refine wp_rt ?_
        refine qs_r ?_
        cases c22
      · refine wp_sk ?_
        refine qs_n ?_
        refine wp_sc ?_
        refine wp_sq ?_
        refine sq_v rfl (v_assign rfl) rfl ?_
        refine sq_end ?_
        refine qs_n ?_
        refine wp_rt ?_
        exact qs_ret1 rfl rfl (fin_q (i := 2) rfl rfl)
/-! ### marks -/
def iota (k : Int) (m : Nat) : List Int := (List.range m).map fun (j : Nat) => k + j
theorem iota_len (k : Int) (m : Nat) : (iota k m).length = m := by simp [iota]
theorem iota_get {k : Int} {m j : Nat} (h : j < m) : (iota k m).getD j 0 = k + j := by simp [iota, List.getD, h]
theorem iota_step (k : Int) (m : Nat) : iota k (m + 1) = iota k m ++ [k + m] := by simp [iota, List.range_succ]
theorem iota_set {k : Int} {xs : List Int} {i : Nat} (h : i < xs.length) : (iota k i ++ xs.drop i).set i (k + i) = iota k (i + 1) ++ xs.drop (i + 1) := by
  rw [List.set_append_right _ _ (by rw [iota_len]; exact Nat.le_refl _), iota_len, Nat.sub_self, iota_step, List.drop_eq_getElem_cons h, List.append_assoc]
  rfl
theorem ct_l_markIntS (xs : List Int) (v : Value) (k : Int) (w : World) (h : PH) (hle : PLe h (hp w)) (r : IntsO xs v h) (hk : 0 ≤ k ∧ k + xs.length ≤ 4611686018427387904) :
    Calls Try.prog 24 [v, num k].toArray w (Ret w h (fun u h' => u = num (k + xs.length) ∧ IntsO (iota k xs.length) v h')) := by
  refine calls_in Try.func24 rfl Try.ntmps24 rfl (Sat.start2 hle) ?_
  refine wp_sc ?_
  refine wp_sq ?_
  refine sq_v rfl (v_assign rfl) rfl ?_
  refine sq_end ?_
  refine qs_n ?_
  refine wp_sc ?_
  refine wp_sc ?_
  refine wp_sq ?_
  refine sq_v rfl (v_assign rfl) rfl ?_
  refine sq_end ?_
  refine qs_n ?_
  refine wp_bl ?_
  refine wp_lp (fun s : Nat × PH => [(0, v), (1, num (k + s.1)), (5, num s.1)]) (fun s => [s.2, restP w h]) (fun s => s.1 ≤ xs.length ∧ IntsO (iota k s.1 ++ xs.drop s.1) v s.2) (fun s => xs.length - s.1) (0, h) ⟨by omega, by simpa [iota] using r⟩ ⟨rfl, by show _ = some (num (k + ((0 : Nat) : Int))); rw [show k + ((0 : Nat) : Int) = k by omega]; rfl, rfl, trivial⟩ (fun _ s => s) ?_
  rintro ⟨i, hh⟩ ⟨hi, ro⟩
  dsimp only at hi ro ⊢
  have hl : (iota k i ++ xs.drop i).length = xs.length := by rw [List.length_append, iota_len, List.length_drop]; omega
  refine wp_sc ?_
  refine wp_sc ?_
  refine wp_sq ?_
  refine sq_v rfl (v_move rfl) rfl ?_
  refine sq_v rfl (v_move rfl) rfl ?_
  refine sq_v rfl (v_len Try.underlying24 rfl (by have := ro.toR.sl; rwa [hl] at this)) rfl ?_
  refine sq_v rfl (v_lss rfl rfl) rfl ?_
  refine sq_end ?_
  refine qs_n ?_
  refine wp_cd rfl (fun c9 => ?_) (fun c9 => ?_)
  · refine wp_sk ?_
    refine qs_n ?_
    refine wp_sc ?_
    refine wp_bl ?_
    refine wp_sc ?_
    refine wp_sq ?_
    refine sq_v rfl (v_move rfl) rfl ?_
    refine sq_v rfl (v_move rfl) rfl ?_
    refine sq_v rfl (v_move rfl) rfl ?_
    refine sq_v rfl (v_idxI Try.underlying24 ty_3 rfl rfl ro.toR (by omega) (by omega)) rfl ?_
    refine sq_m 0 rfl rfl (m_storeI 0 ty_3 rfl rfl rfl ro (by omega)) rfl ?_; rintro _ h_ro8 ⟨rfl, ro8⟩
    refine sq_end ?_
    refine qs_n ?_
    refine wp_sq ?_
    refine sq_v rfl (v_move rfl) rfl ?_
    refine sq_v rfl (v_add rfl rfl ((by unfold I64; omega))) rfl ?_
    refine sq_v rfl (v_assign rfl) rfl ?_
    refine sq_end ?_
    refine qs_bn ?_
    refine qs_n ?_
    refine wp_sq ?_
    refine sq_v rfl (v_move rfl) rfl ?_
    refine sq_v rfl (v_add rfl rfl ((by unfold I64; omega))) rfl ?_
    refine sq_v rfl (v_assign rfl) rfl ?_
    refine sq_end ?_
    exact qs_bk (i + 1, h_ro8) ⟨by simp only; omega, by simp only; rw [← iota_set (by omega)]; exact ro8⟩ (by simp only; omega) ⟨rfl, by simp only [Int.natCast_add, Int.natCast_one, ← Int.add_assoc]; rfl, rfl, trivial⟩ (fun _ s => s)
  · refine wp_ex ?_
    refine qs_x ?_
    refine qs_x ?_
    refine qs_bx ?_
    refine qs_n ?_
    refine wp_sc ?_
    refine wp_sq ?_
    refine sq_v rfl (v_move rfl) rfl ?_
    refine sq_v rfl (v_assign rfl) rfl ?_
    refine sq_end ?_
    refine qs_n ?_
    refine wp_rt ?_
    refine qs_ret1 rfl rfl (fin_m (i := 1) 0 rfl rfl rfl ?_)
    have e : i = xs.length := by omega
    subst e
    rw [List.drop_length, List.append_nil] at ro
    exact ⟨rfl, ro⟩
theorem ct_l_heldIntS (xs : List Int) (v : Value) (k : Int) (w : World) (r : IntsR xs v (hp w)) (he : xs = iota k xs.length) (hk : 0 ≤ k ∧ k + xs.length ≤ 4611686018427387904) :
    Calls Try.prog 48 [v, num k].toArray w (RetV w (num (k + xs.length))) := by
  refine calls_in Try.func48 rfl Try.ntmps48 rfl (Sat.start w) ?_
  refine wp_sc ?_
  refine wp_sq ?_
  refine sq_v rfl (v_assign rfl) rfl ?_
  refine sq_end ?_
  refine qs_n ?_
  refine wp_sc ?_
  refine wp_sc ?_
  refine wp_sq ?_
  refine sq_v rfl (v_assign rfl) rfl ?_
  refine sq_end ?_
  refine qs_n ?_
  refine wp_bl ?_
  refine wp_lp (fun i : Nat => [(0, v), (1, num (k + i)), (5, num i)]) (fun _ => [hp w]) (fun i => i ≤ xs.length) (fun i => xs.length - i) 0 (by omega) ⟨rfl, by show _ = some (num (k + ((0 : Nat) : Int))); rw [show k + ((0 : Nat) : Int) = k by omega]; rfl, rfl, trivial⟩ (fun _ s => s) ?_
  intro i hi
  refine wp_sc ?_
  refine wp_sc ?_
  refine wp_sq ?_
  refine sq_v rfl (v_move rfl) rfl ?_
  refine sq_v rfl (v_move rfl) rfl ?_
  refine sq_v rfl (v_len Try.underlying24 rfl r.sl) rfl ?_
  refine sq_v rfl (v_lss rfl rfl) rfl ?_
  refine sq_end ?_
  refine qs_n ?_
  refine wp_cd rfl (fun c9 => ?_) (fun c9 => ?_)
  · refine wp_sk ?_
    refine qs_n ?_
    refine wp_sc ?_
    refine wp_bl ?_
    refine wp_sc ?_
    refine wp_sc ?_
    refine wp_sq ?_
    refine sq_v rfl (v_move rfl) rfl ?_
    refine sq_v rfl (v_move rfl) rfl ?_
    refine sq_v rfl (v_idxI Try.underlying24 ty_3 rfl rfl r (by omega) (by omega)) rfl ?_
    refine sq_v rfl (v_loadI (k := i) 0 ty_3 rfl rfl r (by omega)) rfl ?_
    refine sq_v rfl (v_move rfl) rfl ?_
    refine sq_v rfl (v_neq rfl rfl) rfl ?_
    refine sq_end ?_
    refine qs_n ?_
    refine wp_cd rfl (fun c17 => ?_) (fun c17 => ?_)
    · refine wp_sc ?_
      refine wp_sq ?_
      refine sq_v rfl (v_assign rfl) rfl ?_
      refine sq_end ?_
      refine qs_n ?_
      refine wp_rt ?_
      refine qs_r ?_
      refine qs_br ?_
      refine qs_r ?_
      refine qs_r ?_
      refine qs_br ?_
      refine qs_r ?_
      exact absurd (by rw [he]; exact iota_get (by omega)) c17
    · refine wp_sk ?_
      refine qs_n ?_
      refine wp_sq ?_
      refine sq_v rfl (v_move rfl) rfl ?_
      refine sq_v rfl (v_add rfl rfl ((by unfold I64; omega))) rfl ?_
      refine sq_v rfl (v_assign rfl) rfl ?_
      refine sq_end ?_
      refine qs_bn ?_
      refine qs_n ?_
      refine wp_sq ?_
      refine sq_v rfl (v_move rfl) rfl ?_
      refine sq_v rfl (v_add rfl rfl ((by unfold I64; omega))) rfl ?_
      refine sq_v rfl (v_assign rfl) rfl ?_
      refine sq_end ?_
      exact qs_bk (i + 1) (by omega) (by omega) ⟨rfl, by simp only [Int.natCast_add, Int.natCast_one, ← Int.add_assoc]; rfl, rfl, trivial⟩ (fun _ s => s)
  · refine wp_ex ?_
    refine qs_x ?_
    refine qs_x ?_
    refine qs_bx ?_
    refine qs_n ?_
    refine wp_sc ?_
    refine wp_sq ?_
    refine sq_v rfl (v_move rfl) rfl ?_
    refine sq_v rfl (v_assign rfl) rfl ?_
    refine sq_end ?_
    refine qs_n ?_
    refine wp_rt ?_
    exact qs_ret1 rfl rfl (fin_q (i := 0) rfl (by congr 1; omega))
end Go.Proofs.Ytikeobneipjfnaa
