/-
  Parts of the proof of FnExactMapNetwork: laws of heaps, contracts of functions.
  Conditions: none.
-/
import Derived.Test.YtikeobneipjfnaaQMapNetwork4
namespace Go.Proofs.Ytikeobneipjfnaa
set_option maxRecDepth 100000
open Go.RowKit
def bitL (b : Bool) : List Int := [if b then 1 else 0]
def rootTo (a p : Int) (x : List Int) : Nat → Int
  | 0 => 0
  | m + 1 => (rootTo a p x m * a + x.getD (3 - m) 0).tmod p
def homM (k n k' p' n' h a p : Int) (x : List Int) : List Int :=
  if h = 2 then bitL (decide ((k = 3 ∧ 0 < x.getD 0 0) ∨ (k = 4 ∧ x.getD 0 0 = 0)))
  else if h = 3 then bitL (decide ((((x.getD 0 0 / 2 ^ a.toNat).toNat &&& (1 : Int).toNat : Nat) : Int) = 1))
  else if h = 4 then bitL (decide (a ≤ x.getD 0 0))
  else if h = 5 then [x.getD 0 0]
  else if h = 6 then [rootTo a p x 4]
  else if h = 7 then (if k = 7 then x.take n'.toNat else if k = 6 then [(((x.getD 0 0).toNat &&& (topI k' p' n').toNat : Nat) : Int)] else [min (x.getD 0 0) p'])
  else if h = 8 then (if x.getD 0 0 = 1 then oneL k' p' n' else zeroL k' p' n')
  else x
theorem rootTo_in {a p : Int} {x : List Int} (hp : 2 ≤ p ∧ p ≤ 1000003) (ha : 0 ≤ a ∧ a ≤ p - 1) (hx : ∀ i, 0 ≤ x.getD i 0 ∧ x.getD i 0 ≤ p - 1) : ∀ m, (0 ≤ rootTo a p x m ∧ rootTo a p x m ≤ p - 1) ∧ 0 ≤ rootTo a p x m * a ∧ rootTo a p x m * a ≤ 1099511627776
  | 0 => by simp only [rootTo]; omega
  | m + 1 => by
    have ih := rootTo_in hp ha hx m
    have h1 := hx (3 - m)
    have h2 := tmod_in (a := rootTo a p x m * a + x.getD (3 - m) 0) (p := p) (by omega) (by omega)
    exact ⟨h2, mul_in6 h2 ha (by omega) (by omega)⟩
theorem bit_is {b1 b2 : Bool} {v : Value} {h : PH} (r : IntsO [if b1 then 1 else 0] v h) (e : b1 = true ↔ b2 = true) : IntsO (bitL b2) v h := by
  rw [Bool.eq_iff_iff.2 e] at r; exact r
theorem homM_len {k p n k' p' n' h a : Int} {x : List Int} (hh : homL k p n k' p' n' h a) (hx : InR k p n x) : (homM k n k' p' n' h a p x).length ≤ 6 := by
  have h1 := hx.len hh.1
  have h2 := width_range hh.2.1
  have h3 := oneL_len k' p' n'
  have h4 := zeroL_len k' p' n'
  unfold homM bitL
  repeat' split
  all_goals first | (simp; done) | (simp only [List.length_take]; omega) | omega
theorem ct_s_l03Bit (b : Bool) (w : World) : Calls Try.prog 220 [.bool b].toArray w (Ret w emp (IntsO [if b then 1 else 0])) := by
  refine calls_in Try.func220 rfl Try.ntmps220 rfl (Sat.start w) ?_
  refine wp_sc ?_
  refine wp_sq ?_
  refine sq_v rfl (v_assign rfl) rfl ?_
  refine sq_end ?_
  refine qs_n ?_
  refine wp_sc ?_
  refine wp_sc ?_
  refine wp_sq ?_
  refine sq_v rfl (v_move rfl) rfl ?_
  refine sq_end ?_
  refine qs_n ?_
  refine wp_cb _ rfl (fun c3 => ?_) (fun c3 => ?_)
  · refine wp_sc ?_
    refine wp_sq ?_
    refine sq_x rfl (x_buildS [num (1)] Try.underlying24 ty_3 (by decide) rfl rfl rfl (by decide) (by decide) (by intro v hv; simp at hv; rcases hv with rfl <;> rfl)) rfl ?_; intro v4 h4 (r4 : IntsO [1] v4 h4)
    refine sq_v rfl (v_assign rfl) rfl ?_
    refine sq_end ?_
    refine qs_n ?_
    refine wp_rt ?_
    refine qs_r ?_
    exact qs_ret1 rfl rfl (fin_t 0 (i := 1) rfl rfl rfl (by rw [c3]; exact r4))
  · refine wp_sk ?_
    refine qs_n ?_
    refine wp_sc ?_
    refine wp_sq ?_
    refine sq_x rfl (x_buildS [num (0)] Try.underlying24 ty_3 (by decide) rfl rfl rfl (by decide) (by decide) (by intro v hv; simp at hv; rcases hv with rfl <;> rfl)) rfl ?_; intro v5 h5 (r5 : IntsO [0] v5 h5)
    refine sq_v rfl (v_assign rfl) rfl ?_
    refine sq_end ?_
    refine qs_n ?_
    refine wp_rt ?_
    exact qs_ret1 rfl rfl (fin_t 0 (i := 1) rfl rfl rfl (by rw [c3]; exact r5))
set_option maxHeartbeats 2000000 in
theorem ct_i_rawHom (k p n k' p' n' h a : Int) (x : List Int) (v : Value) (w : World) (r : IntsR x v (hp w)) (hh : homL k p n k' p' n' h a) (hx : InR k p n x) :
    Calls Try.prog 188 [ringV k p n, ringV k' p' n', homV h a, v].toArray w (Ret w emp (IntsO (homM k n k' p' n' h a p x))) := by
  have hD := hh.2.2
  unfold homD cutP at hD
  have hl := hx.len hh.1
  have hx0 := hx.at hh.1 0 (by omega)
  have hring := hh.1
  have hring' := hh.2.1
  have htr := top_range hring
  have htr' := top_range hring'
  refine calls_in Try.func188 rfl Try.ntmps188 rfl (Sat.start w) ?_
  have hle0 := r.le
  refine wp_sc ?_
  refine wp_sq ?_
  refine sq_x rfl (x_box rfl rfl) rfl ?_; rintro _ _ ⟨b4, rfl, rfl⟩
  refine sq_x rfl (x_box rfl rfl) rfl ?_; rintro _ _ ⟨b5, rfl, rfl⟩
  refine sq_x rfl (x_box rfl rfl) rfl ?_; rintro _ _ ⟨b6, rfl, rfl⟩
  refine sq_v rfl (v_assign rfl) rfl ?_
  refine sq_end ?_
  refine qs_n ?_
  refine wp_sc ?_
  refine wp_sc ?_
  refine wp_sq ?_
  refine sq_v rfl (v_fieldAddr fd_59_0 ty_3 (by decide) rfl) rfl ?_
  refine sq_v rfl (v_loadB 0 ty_3 rfl rfl rfl) rfl ?_
  refine sq_end ?_
  refine qs_n ?_
  refine wp_bl ?_
  refine wp_sc ?_
  refine wp_sq ?_
  refine sq_v rfl (v_eql rfl rfl) rfl ?_
  refine sq_v rfl (v_assign rfl) rfl ?_
  refine sq_end ?_
  refine qs_n ?_
  refine wp_cd rfl (fun c13 => ?_) (fun c13 => ?_)
  · refine wp_sc ?_
    refine wp_sq ?_
    refine sq_v rfl (v_fieldAddr fd_30_0 ty_3 (by decide) rfl) rfl ?_
    refine sq_v rfl (v_loadB 2 ty_3 rfl rfl rfl) rfl ?_
    refine sq_v rfl (v_eql rfl rfl) rfl ?_
    refine sq_bd 17 rfl (fun c17 => ?_) (fun c17 => ?_)
    · refine sq_v rfl (v_move rfl) rfl ?_
      refine sq_v rfl (v_move rfl) rfl ?_
      refine sq_v rfl (v_idxI Try.underlying24 ty_3 rfl rfl r (by first | omega | (simp only [List.length_cons, List.length_nil]; omega) | (simp only [List.length_append, List.length_cons, List.length_nil]; omega) | (rw [List.length_set]; omega) | (rw [List.length_replicate]; omega) | (simp; omega)) (by first | omega | (simp only [List.length_cons, List.length_nil]; omega) | (simp only [List.length_append, List.length_cons, List.length_nil]; omega) | (rw [List.length_set]; omega) | (rw [List.length_replicate]; omega) | (simp; omega))) rfl ?_
      refine sq_v rfl (v_loadI (k := 0) 3 ty_3 rfl rfl r (by first | omega | (simp only [List.length_cons, List.length_nil]; omega) | (simp only [List.length_append, List.length_cons, List.length_nil]; omega) | (rw [List.length_set]; omega) | (rw [List.length_replicate]; omega) | (simp; omega))) rfl ?_
      refine sq_v rfl (v_gtr rfl rfl) rfl ?_
      refine sq_v rfl (v_pickt rfl rfl) rfl ?_
      refine sq_bd 23 rfl (fun c23 => ?_) (fun c23 => ?_)
      · refine sq_v rfl (v_move rfl) rfl ?_
        refine sq_s rfl rfl ?_
        refine sq_s rfl rfl ?_
        refine sq_s rfl rfl ?_
        refine sq_s rfl rfl ?_
        refine sq_s rfl rfl ?_
        refine sq_s rfl rfl ?_
        refine sq_s rfl rfl ?_
        refine sq_s rfl rfl ?_
        refine sq_s rfl rfl ?_
        refine sq_v rfl (v_pickt rfl rfl) rfl ?_
        refine sq_x rfl (x_call rfl en_221 (fun w s => ct_i_bitElem _ w)) rfl ?_; rintro v35 h35 r35
        refine sq_v rfl (v_assign rfl) rfl ?_
        refine sq_end ?_
        refine qs_n ?_
        refine wp_rt ?_
        refine qs_br ?_
        refine qs_r ?_
        exact qs_ret1 rfl rfl (fin_t 0 (i := 4) rfl rfl rfl (by rw [homM, if_pos c13]; exact bit_is r35 (by simp only [decide_eq_true_eq, decide_eq_decide, Bool.false_eq_true, eq_self, true_iff, false_iff, iff_true, iff_false]; omega)))
      · refine sq_v rfl (v_move rfl) rfl ?_
        refine sq_v rfl (v_fieldAddr fd_30_0 ty_3 (by decide) rfl) rfl ?_
        refine sq_v rfl (v_loadB 2 ty_3 rfl rfl rfl) rfl ?_
        refine sq_v rfl (v_eql rfl rfl) rfl ?_
        refine sq_bd 27 rfl (fun c27 => ?_) (fun c27 => ?_)
        · refine sq_v rfl (v_move rfl) rfl ?_
          refine sq_v rfl (v_move rfl) rfl ?_
          refine sq_v rfl (v_idxI Try.underlying24 ty_3 rfl rfl r (by first | omega | (simp only [List.length_cons, List.length_nil]; omega) | (simp only [List.length_append, List.length_cons, List.length_nil]; omega) | (rw [List.length_set]; omega) | (rw [List.length_replicate]; omega) | (simp; omega)) (by first | omega | (simp only [List.length_cons, List.length_nil]; omega) | (simp only [List.length_append, List.length_cons, List.length_nil]; omega) | (rw [List.length_set]; omega) | (rw [List.length_replicate]; omega) | (simp; omega))) rfl ?_
          refine sq_v rfl (v_loadI (k := 0) 3 ty_3 rfl rfl r (by first | omega | (simp only [List.length_cons, List.length_nil]; omega) | (simp only [List.length_append, List.length_cons, List.length_nil]; omega) | (rw [List.length_set]; omega) | (rw [List.length_replicate]; omega) | (simp; omega))) rfl ?_
          refine sq_v rfl (v_eql rfl rfl) rfl ?_
          refine sq_v rfl (v_pickt rfl rfl) rfl ?_
          refine sq_v rfl (v_pickf rfl rfl) rfl ?_
          refine sq_x rfl (x_call rfl en_221 (fun w s => ct_i_bitElem _ w)) rfl ?_; rintro v35 h35 r35
          refine sq_v rfl (v_assign rfl) rfl ?_
          refine sq_end ?_
          refine qs_n ?_
          refine wp_rt ?_
          refine qs_br ?_
          refine qs_r ?_
          exact qs_ret1 rfl rfl (fin_t 0 (i := 4) rfl rfl rfl (by rw [homM, if_pos c13]; exact bit_is r35 (by simp only [decide_eq_true_eq, decide_eq_decide, Bool.false_eq_true, eq_self, true_iff, false_iff, iff_true, iff_false]; omega)))
        · refine sq_v rfl (v_move rfl) rfl ?_
          refine sq_s rfl rfl ?_
          refine sq_s rfl rfl ?_
          refine sq_s rfl rfl ?_
          refine sq_s rfl rfl ?_
          refine sq_v rfl (v_pickf rfl rfl) rfl ?_
          refine sq_v rfl (v_pickf rfl rfl) rfl ?_
          refine sq_x rfl (x_call rfl en_221 (fun w s => ct_i_bitElem _ w)) rfl ?_; rintro v35 h35 r35
          refine sq_v rfl (v_assign rfl) rfl ?_
          refine sq_end ?_
          refine qs_n ?_
          refine wp_rt ?_
          refine qs_br ?_
          refine qs_r ?_
          exact qs_ret1 rfl rfl (fin_t 0 (i := 4) rfl rfl rfl (by rw [homM, if_pos c13]; exact bit_is r35 (by simp only [decide_eq_true_eq, decide_eq_decide, Bool.false_eq_true, eq_self, true_iff, false_iff, iff_true, iff_false]; omega)))
    · refine sq_v rfl (v_move rfl) rfl ?_
      refine sq_s rfl rfl ?_
      refine sq_s rfl rfl ?_
      refine sq_s rfl rfl ?_
      refine sq_s rfl rfl ?_
      refine sq_v rfl (v_pickf rfl rfl) rfl ?_
      refine sq_v rfl (v_move rfl) rfl ?_
      refine sq_v rfl (v_fieldAddr fd_30_0 ty_3 (by decide) rfl) rfl ?_
      refine sq_v rfl (v_loadB 2 ty_3 rfl rfl rfl) rfl ?_
      refine sq_v rfl (v_eql rfl rfl) rfl ?_
      refine sq_bd 27 rfl (fun c27 => ?_) (fun c27 => ?_)
      · refine sq_v rfl (v_move rfl) rfl ?_
        refine sq_v rfl (v_move rfl) rfl ?_
        refine sq_v rfl (v_idxI Try.underlying24 ty_3 rfl rfl r (by first | omega | (simp only [List.length_cons, List.length_nil]; omega) | (simp only [List.length_append, List.length_cons, List.length_nil]; omega) | (rw [List.length_set]; omega) | (rw [List.length_replicate]; omega) | (simp; omega)) (by first | omega | (simp only [List.length_cons, List.length_nil]; omega) | (simp only [List.length_append, List.length_cons, List.length_nil]; omega) | (rw [List.length_set]; omega) | (rw [List.length_replicate]; omega) | (simp; omega))) rfl ?_
        refine sq_v rfl (v_loadI (k := 0) 3 ty_3 rfl rfl r (by first | omega | (simp only [List.length_cons, List.length_nil]; omega) | (simp only [List.length_append, List.length_cons, List.length_nil]; omega) | (rw [List.length_set]; omega) | (rw [List.length_replicate]; omega) | (simp; omega))) rfl ?_
        refine sq_v rfl (v_eql rfl rfl) rfl ?_
        refine sq_v rfl (v_pickt rfl rfl) rfl ?_
        refine sq_v rfl (v_pickf rfl rfl) rfl ?_
        refine sq_x rfl (x_call rfl en_221 (fun w s => ct_i_bitElem _ w)) rfl ?_; rintro v35 h35 r35
        refine sq_v rfl (v_assign rfl) rfl ?_
        refine sq_end ?_
        refine qs_n ?_
        refine wp_rt ?_
        refine qs_br ?_
        refine qs_r ?_
        exact qs_ret1 rfl rfl (fin_t 0 (i := 4) rfl rfl rfl (by rw [homM, if_pos c13]; exact bit_is r35 (by simp only [decide_eq_true_eq, decide_eq_decide, Bool.false_eq_true, eq_self, true_iff, false_iff, iff_true, iff_false]; omega)))
      · refine sq_v rfl (v_move rfl) rfl ?_
        refine sq_s rfl rfl ?_
        refine sq_s rfl rfl ?_
        refine sq_s rfl rfl ?_
        refine sq_s rfl rfl ?_
        refine sq_v rfl (v_pickf rfl rfl) rfl ?_
        refine sq_v rfl (v_pickf rfl rfl) rfl ?_
        refine sq_x rfl (x_call rfl en_221 (fun w s => ct_i_bitElem _ w)) rfl ?_; rintro v35 h35 r35
        refine sq_v rfl (v_assign rfl) rfl ?_
        refine sq_end ?_
        refine qs_n ?_
        refine wp_rt ?_
        refine qs_br ?_
        refine qs_r ?_
        exact qs_ret1 rfl rfl (fin_t 0 (i := 4) rfl rfl rfl (by rw [homM, if_pos c13]; exact bit_is r35 (by simp only [decide_eq_true_eq, decide_eq_decide, Bool.false_eq_true, eq_self, true_iff, false_iff, iff_true, iff_false]; omega)))
  · refine wp_sc ?_
    refine wp_sq ?_
    refine sq_v rfl (v_eql rfl rfl) rfl ?_
    refine sq_v rfl (v_assign rfl) rfl ?_
    refine sq_end ?_
    refine qs_n ?_
    refine wp_cd rfl (fun c36 => ?_) (fun c36 => ?_)
    · refine wp_sc ?_
      refine wp_rj 10 [(0, true), (1, true), (2, true), (3, true), (4, true), (5, true), (6, true), (7, true), (8, false), (9, true)] mixed_ok (by kernel_rfl) ?_
      refine rj_v rfl rfl (v_move rfl) rfl ?_
      refine rj_v rfl rfl (v_idxI Try.underlying24 ty_3 rfl rfl r (by first | omega | (simp only [List.length_cons, List.length_nil]; omega) | (simp only [List.length_append, List.length_cons, List.length_nil]; omega) | (rw [List.length_set]; omega) | (rw [List.length_replicate]; omega) | (simp; omega)) (by first | omega | (simp only [List.length_cons, List.length_nil]; omega) | (simp only [List.length_append, List.length_cons, List.length_nil]; omega) | (rw [List.length_set]; omega) | (rw [List.length_replicate]; omega) | (simp; omega))) rfl ?_
      refine rj_v rfl rfl (v_loadI (k := 0) 3 ty_3 rfl rfl r (by first | omega | (simp only [List.length_cons, List.length_nil]; omega) | (simp only [List.length_append, List.length_cons, List.length_nil]; omega) | (rw [List.length_set]; omega) | (rw [List.length_replicate]; omega) | (simp; omega))) rfl ?_
      refine rj_v rfl rfl (v_fieldAddr fd_59_1 ty_3 (by decide) rfl) rfl ?_
      refine rj_v rfl rfl (v_loadB 0 ty_3 rfl rfl rfl) rfl ?_
      have hs := ring_set hring (by omega); have hq : 0 ≤ x.getD 0 0 / 2 ^ a.toNat := (Int.ediv_nonneg hx0.1 (Int.le_of_lt (Int.pow_pos (by decide)))); have hq2 := Int.ediv_le_self (2 ^ a.toNat) hx0.1
      refine rj_v rfl rfl (v_shr rfl rfl (by omega) (by omega)) rfl ?_
      refine rj_v rfl rfl (v_and rfl rfl ⟨by omega, by omega⟩ ⟨by omega, by omega⟩) rfl ?_
      refine rj_v rfl rfl (v_eql rfl rfl) rfl ?_
      refine rj_x rfl rfl (x_call rfl en_221 (fun w s => ct_i_bitElem _ w)) rfl ?_; rintro v46 h46 r46
      refine rj_v rfl rfl (v_assign rfl) rfl ?_
      refine rj_end ?_
      refine qs_n ?_
      refine wp_rt ?_
      refine qs_br ?_
      refine qs_r ?_
      exact qs_ret1 rfl rfl (fin_t 0 (i := 4) rfl rfl rfl (by rw [homM, if_neg c13, if_pos c36]; exact bit_is r46 Iff.rfl))
    · refine wp_sc ?_
      refine wp_sq ?_
      refine sq_v rfl (v_eql rfl rfl) rfl ?_
      refine sq_v rfl (v_assign rfl) rfl ?_
      refine sq_end ?_
      refine qs_n ?_
      refine wp_cd rfl (fun c47 => ?_) (fun c47 => ?_)
      · refine wp_sc ?_
        refine wp_rj 8 [(0, true), (1, true), (2, true), (3, true), (4, true), (5, true), (6, false), (7, true)] mixed_ok (by kernel_rfl) ?_
        refine rj_v rfl rfl (v_move rfl) rfl ?_
        refine rj_v rfl rfl (v_idxI Try.underlying24 ty_3 rfl rfl r (by first | omega | (simp only [List.length_cons, List.length_nil]; omega) | (simp only [List.length_append, List.length_cons, List.length_nil]; omega) | (rw [List.length_set]; omega) | (rw [List.length_replicate]; omega) | (simp; omega)) (by first | omega | (simp only [List.length_cons, List.length_nil]; omega) | (simp only [List.length_append, List.length_cons, List.length_nil]; omega) | (rw [List.length_set]; omega) | (rw [List.length_replicate]; omega) | (simp; omega))) rfl ?_
        refine rj_v rfl rfl (v_loadI (k := 0) 3 ty_3 rfl rfl r (by first | omega | (simp only [List.length_cons, List.length_nil]; omega) | (simp only [List.length_append, List.length_cons, List.length_nil]; omega) | (rw [List.length_set]; omega) | (rw [List.length_replicate]; omega) | (simp; omega))) rfl ?_
        refine rj_v rfl rfl (v_fieldAddr fd_59_1 ty_3 (by decide) rfl) rfl ?_
        refine rj_v rfl rfl (v_loadB 0 ty_3 rfl rfl rfl) rfl ?_
        refine rj_v rfl rfl (v_geq rfl rfl) rfl ?_
        refine rj_x rfl rfl (x_call rfl en_221 (fun w s => ct_i_bitElem _ w)) rfl ?_; rintro v55 h55 r55
        refine rj_v rfl rfl (v_assign rfl) rfl ?_
        refine rj_end ?_
        refine qs_n ?_
        refine wp_rt ?_
        refine qs_br ?_
        refine qs_r ?_
        exact qs_ret1 rfl rfl (fin_t 0 (i := 4) rfl rfl rfl (by rw [homM, if_neg c13, if_neg c36, if_pos c47]; exact bit_is r55 Iff.rfl))
      · refine wp_sc ?_
        refine wp_sq ?_
        refine sq_v rfl (v_eql rfl rfl) rfl ?_
        refine sq_v rfl (v_assign rfl) rfl ?_
        refine sq_end ?_
        refine qs_n ?_
        refine wp_cd rfl (fun c56 => ?_) (fun c56 => ?_)
        · refine wp_sc ?_
          refine wp_sq ?_
          refine sq_v rfl (v_move rfl) rfl ?_
          refine sq_v rfl (v_idxI Try.underlying24 ty_3 rfl rfl r (by first | omega | (simp only [List.length_cons, List.length_nil]; omega) | (simp only [List.length_append, List.length_cons, List.length_nil]; omega) | (rw [List.length_set]; omega) | (rw [List.length_replicate]; omega) | (simp; omega)) (by first | omega | (simp only [List.length_cons, List.length_nil]; omega) | (simp only [List.length_append, List.length_cons, List.length_nil]; omega) | (rw [List.length_set]; omega) | (rw [List.length_replicate]; omega) | (simp; omega))) rfl ?_
          refine sq_v rfl (v_loadI (k := 0) 3 ty_3 rfl rfl r (by first | omega | (simp only [List.length_cons, List.length_nil]; omega) | (simp only [List.length_append, List.length_cons, List.length_nil]; omega) | (rw [List.length_set]; omega) | (rw [List.length_replicate]; omega) | (simp; omega))) rfl ?_
          refine sq_x rfl (x_buildS [num (x.getD 0 0)] Try.underlying24 ty_3 (by decide) rfl rfl rfl (by decide) (by decide) (by intro v hv; simp at hv; rcases hv with rfl <;> rfl)) rfl ?_; intro v61 h61 (r61 : IntsO [x.getD 0 0] v61 h61)
          refine sq_v rfl (v_assign rfl) rfl ?_
          refine sq_end ?_
          refine qs_n ?_
          refine wp_rt ?_
          refine qs_br ?_
          refine qs_r ?_
          exact qs_ret1 rfl rfl (fin_t 0 (i := 4) rfl rfl rfl (by rw [homM, if_neg c13, if_neg c36, if_neg c47, if_pos c56]; exact r61))
        · refine wp_sc ?_
          refine wp_sq ?_
          refine sq_v rfl (v_eql rfl rfl) rfl ?_
          refine sq_v rfl (v_assign rfl) rfl ?_
          refine sq_end ?_
          refine qs_n ?_
          refine wp_cd rfl (fun c62 => ?_) (fun c62 => ?_)
          · refine wp_sc ?_
            refine wp_sq ?_
            refine sq_v rfl (v_assign rfl) rfl ?_
            refine sq_end ?_
            refine qs_n ?_
            refine wp_sc ?_
            refine wp_sc ?_
            refine wp_sq ?_
            refine sq_v rfl (v_assign rfl) rfl ?_
            refine sq_end ?_
            refine qs_n ?_
            refine wp_bl ?_
            refine wp_lp (σ := Nat) (fun z_ => [(3, v), (4, .pointer (some ⟨b4, 0, none⟩)), (6, .pointer (some ⟨b6, 0, none⟩)), (8, .slice none 0 0), (9, num (rootTo a p x z_)), (10, num (3 - z_))]) (fun z_ => [box b6 [num h, num a] 59, box b5 [num k', num p', num n'] 30, box b4 [num k, num p, num n] 30, hp w]) (fun z_ => z_ ≤ 4) (fun z_ => 4 - z_) 0 (by omega) ⟨rfl, rfl, rfl, rfl, (by first | rfl | exact ksub rfl (by first | omega | (simp; done) | (simp; omega))), (by first | rfl | exact ksub rfl (by first | omega | (simp; done) | (simp; omega))), trivial⟩ (fun _ s => s) ?_
            rintro m hm
            have h6 : k = 8 ∧ 1 ≤ a ∧ a ≤ p - 1 := by rcases hD with h | h | h | h | h | h | h | h <;> first | (exfalso; omega) | exact ⟨h.2.1, h.2.2.2.2.1⟩
            have hp2 := ring_two hring (by omega)
            have htp := (top_poly hring (by omega)).1
            have hw4 : widthI k n = 4 := by simp [widthI, h6.1]
            have hxa : ∀ i, 0 ≤ x.getD i 0 ∧ x.getD i 0 ≤ p - 1 := fun i => by rw [← htp]; rcases Nat.lt_or_ge i x.length with h' | h'; exact hx.at hring i h'; have : x.getD i 0 = 0 := (by simp [List.getD, h']); omega
            have hri := rootTo_in hp2 (show 0 ≤ a ∧ a ≤ p - 1 by omega) hxa m
            have em : ((3 : Int) - m).toNat = 3 - m := by omega
            have er : rootTo a p x (m + 1) = (rootTo a p x m * a + x.getD ((3 : Int) - m).toNat 0).tmod p := by rw [em]; rfl
            refine wp_sc ?_
            refine wp_sc ?_
            refine wp_sq ?_
            refine sq_v rfl (v_move rfl) rfl ?_
            refine sq_v rfl (v_geq rfl rfl) rfl ?_
            refine sq_end ?_
            refine qs_n ?_
            refine wp_cd rfl (fun c65 => ?_) (fun c65 => ?_)
            · refine wp_sk ?_
              refine qs_n ?_
              refine wp_sc ?_
              refine wp_bl ?_
              refine wp_rj 13 [(0, true), (1, true), (2, true), (3, true), (4, true), (5, true), (6, true), (7, true), (8, true), (9, true), (10, true), (11, true), (12, true)] mixed_ok (by kernel_rfl) ?_
              refine rj_v rfl rfl (v_move rfl) rfl ?_
              refine rj_v rfl rfl (v_fieldAddr fd_59_1 ty_3 (by decide) rfl) rfl ?_
              refine rj_v rfl rfl (v_loadB 0 ty_3 rfl rfl rfl) rfl ?_
              refine rj_v rfl rfl (v_mul rfl rfl ((by unfold I64; omega))) rfl ?_
              refine rj_v rfl rfl (v_move rfl) rfl ?_
              refine rj_v rfl rfl (v_move rfl) rfl ?_
              refine rj_v rfl rfl (v_idxI Try.underlying24 ty_3 rfl rfl r (by first | omega | (simp only [List.length_cons, List.length_nil]; omega) | (simp only [List.length_append, List.length_cons, List.length_nil]; omega) | (rw [List.length_set]; omega) | (rw [List.length_replicate]; omega) | (simp; omega)) (by first | omega | (simp only [List.length_cons, List.length_nil]; omega) | (simp only [List.length_append, List.length_cons, List.length_nil]; omega) | (rw [List.length_set]; omega) | (rw [List.length_replicate]; omega) | (simp; omega))) rfl ?_
              refine rj_v rfl rfl (v_loadI  3 ty_3 rfl rfl r (by first | omega | (simp only [List.length_cons, List.length_nil]; omega) | (simp only [List.length_append, List.length_cons, List.length_nil]; omega) | (rw [List.length_set]; omega) | (rw [List.length_replicate]; omega) | (simp; omega))) rfl ?_
              have hx3 := hxa (3 - m); rw [← em] at hx3
              refine rj_v rfl rfl (v_add rfl rfl ((by unfold I64; omega))) rfl ?_
              refine rj_v rfl rfl (v_fieldAddr fd_30_1 ty_3 (by decide) rfl) rfl ?_
              refine rj_v rfl rfl (v_loadB 2 ty_3 rfl rfl rfl) rfl ?_
              refine rj_v rfl rfl (v_rem rfl rfl (by omega)) rfl ?_
              refine rj_v rfl rfl (v_assign rfl) rfl ?_
              refine rj_end ?_
              refine qs_bn ?_
              refine qs_n ?_
              refine wp_sq ?_
              refine sq_v rfl (v_move rfl) rfl ?_
              refine sq_v rfl (v_sub rfl rfl ((by unfold I64; omega))) rfl ?_
              refine sq_v rfl (v_assign rfl) rfl ?_
              refine sq_end ?_
              exact qs_bk (m + 1) (by omega) (by omega) ⟨rfl, rfl, rfl, rfl, (by first | rfl | exact ksub rfl (by first | omega | (simp; done) | (simp; omega))), (by first | rfl | exact ksub rfl (by first | omega | (simp; done) | (simp; omega))), trivial⟩ (fun _ s => s)
            · refine wp_ex ?_
              refine qs_x ?_
              refine qs_x ?_
              refine qs_bx ?_
              refine qs_n ?_
              refine wp_sc ?_
              refine wp_sq ?_
              refine sq_v rfl (v_move rfl) rfl ?_
              refine sq_x rfl (x_buildS [num (rootTo a p x m)] Try.underlying24 ty_3 (by decide) rfl rfl rfl (by decide) (by decide) (by intro v hv; simp at hv; rcases hv with rfl <;> rfl)) rfl ?_; intro v81 h81 (r81 : IntsO [rootTo a p x m] v81 h81)
              refine sq_v rfl (v_assign rfl) rfl ?_
              refine sq_end ?_
              refine qs_n ?_
              refine wp_rt ?_
              refine qs_br ?_
              refine qs_r ?_
              exact qs_ret1 rfl rfl (fin_t 0 (i := 4) rfl rfl rfl (by rw [homM, if_neg c13, if_neg c36, if_neg c47, if_neg c56, if_pos c62, show 4 = m by omega]; exact r81))
          · refine wp_sc ?_
            refine wp_sq ?_
            refine sq_v rfl (v_eql rfl rfl) rfl ?_
            refine sq_v rfl (v_assign rfl) rfl ?_
            refine sq_end ?_
            refine qs_n ?_
            refine wp_cd rfl (fun c82 => ?_) (fun c82 => ?_)
            · refine wp_sc ?_
              refine wp_sc ?_
              refine wp_sq ?_
              refine sq_v rfl (v_fieldAddr fd_30_0 ty_3 (by decide) rfl) rfl ?_
              refine sq_v rfl (v_loadB 2 ty_3 rfl rfl rfl) rfl ?_
              refine sq_end ?_
              refine qs_n ?_
              refine wp_bl ?_
              refine wp_sc ?_
              refine wp_sq ?_
              refine sq_v rfl (v_eql rfl rfl) rfl ?_
              refine sq_v rfl (v_assign rfl) rfl ?_
              refine sq_end ?_
              refine qs_n ?_
              refine wp_cd rfl (fun c86 => ?_) (fun c86 => ?_)
              · refine wp_sc ?_
                refine wp_sq ?_
                refine sq_v rfl (v_move rfl) rfl ?_
                refine sq_v rfl (v_fieldAddr fd_30_2 ty_3 (by decide) rfl) rfl ?_
                refine sq_v rfl (v_loadB 1 ty_3 rfl rfl rfl) rfl ?_
                have hw7 : widthI k n = n := (by simp [widthI, c86]); have hn7 : 0 ≤ n' ∧ n' ≤ n := (by have := width_range hring'; have h1 : widthI k' n' = n' := (by have : k' = 7 := (by omega); simp [widthI, this]); omega); have hle7 : (x.take n'.toNat).length ≤ 6 := (by rw [List.length_take]; omega)
                refine sq_v rfl (v_sliceH Try.underlying24 ty_3 rfl rfl  r (by omega) (by omega)) rfl ?_
                refine sq_x rfl (x_call rfl en_91 (fun w s => ct_i_copyInts _ _ w ((r.subH (hi := (n' : Int).toNat) (by omega)).mono (s.get 3 rfl)) (by first | assumption | omega))) rfl ?_; rintro v92 h92 r92
                refine sq_v rfl (v_assign rfl) rfl ?_
                refine sq_end ?_
                refine qs_n ?_
                refine wp_rt ?_
                refine qs_br ?_
                refine qs_r ?_
                refine qs_br ?_
                refine qs_r ?_
                exact qs_ret1 rfl rfl (fin_t 0 (i := 4) rfl rfl rfl (by rw [homM, if_neg c13, if_neg c36, if_neg c47, if_neg c56, if_neg c62, if_pos c82, if_pos c86]; simpa using r92))
              · refine wp_sc ?_
                refine wp_sq ?_
                refine sq_v rfl (v_eql rfl rfl) rfl ?_
                refine sq_v rfl (v_assign rfl) rfl ?_
                refine sq_end ?_
                refine qs_n ?_
                refine wp_cd rfl (fun c93 => ?_) (fun c93 => ?_)
                · refine wp_sc ?_
                  refine wp_rj 8 [(0, true), (1, true), (2, true), (3, true), (4, false), (5, true), (6, false), (7, true)] mixed_ok (by kernel_rfl) ?_
                  refine rj_v rfl rfl (v_move rfl) rfl ?_
                  refine rj_v rfl rfl (v_idxI Try.underlying24 ty_3 rfl rfl r (by first | omega | (simp only [List.length_cons, List.length_nil]; omega) | (simp only [List.length_append, List.length_cons, List.length_nil]; omega) | (rw [List.length_set]; omega) | (rw [List.length_replicate]; omega) | (simp; omega)) (by first | omega | (simp only [List.length_cons, List.length_nil]; omega) | (simp only [List.length_append, List.length_cons, List.length_nil]; omega) | (rw [List.length_set]; omega) | (rw [List.length_replicate]; omega) | (simp; omega))) rfl ?_
                  refine rj_v rfl rfl (v_loadI (k := 0) 3 ty_3 rfl rfl r (by first | omega | (simp only [List.length_cons, List.length_nil]; omega) | (simp only [List.length_append, List.length_cons, List.length_nil]; omega) | (rw [List.length_set]; omega) | (rw [List.length_replicate]; omega) | (simp; omega))) rfl ?_
                  refine rj_v rfl rfl (v_loadNB 1 ty_30 rfl rfl rfl rfl) rfl ?_
                  refine rj_u rfl rfl (x_callv rfl en_208 (fun w s => ct_i_rawTop _ _ _ w (by first | assumption | omega))) rfl ?_
                  refine rj_v rfl rfl (v_and rfl rfl ⟨by omega, by omega⟩ ⟨by omega, by omega⟩) rfl ?_
                  refine rj_x rfl rfl (x_buildS [num ((((x.getD 0 0).toNat &&& (topI k' p' n').toNat : Nat) : Int))] Try.underlying24 ty_3 (by decide) rfl rfl rfl (by decide) (by decide) (by intro v hv; simp at hv; rcases hv with rfl <;> rfl)) rfl ?_; intro v101 h101 (r101 : IntsO [(((x.getD 0 0).toNat &&& (topI k' p' n').toNat : Nat) : Int)] v101 h101)
                  refine rj_v rfl rfl (v_assign rfl) rfl ?_
                  refine rj_end ?_
                  refine qs_n ?_
                  refine wp_rt ?_
                  refine qs_br ?_
                  refine qs_r ?_
                  refine qs_br ?_
                  refine qs_r ?_
                  exact qs_ret1 rfl rfl (fin_t 0 (i := 4) rfl rfl rfl (by rw [homM, if_neg c13, if_neg c36, if_neg c47, if_neg c56, if_neg c62, if_pos c82, if_neg c86, if_pos c93]; exact r101))
                · refine wp_sk ?_
                  refine qs_bn ?_
                  refine qs_n ?_
                  refine wp_sc ?_
                  refine wp_rj 8 [(0, true), (1, true), (2, true), (3, true), (4, true), (5, true), (6, false), (7, true)] mixed_ok (by kernel_rfl) ?_
                  refine rj_v rfl rfl (v_move rfl) rfl ?_
                  refine rj_v rfl rfl (v_idxI Try.underlying24 ty_3 rfl rfl r (by first | omega | (simp only [List.length_cons, List.length_nil]; omega) | (simp only [List.length_append, List.length_cons, List.length_nil]; omega) | (rw [List.length_set]; omega) | (rw [List.length_replicate]; omega) | (simp; omega)) (by first | omega | (simp only [List.length_cons, List.length_nil]; omega) | (simp only [List.length_append, List.length_cons, List.length_nil]; omega) | (rw [List.length_set]; omega) | (rw [List.length_replicate]; omega) | (simp; omega))) rfl ?_
                  refine rj_v rfl rfl (v_loadI (k := 0) 3 ty_3 rfl rfl r (by first | omega | (simp only [List.length_cons, List.length_nil]; omega) | (simp only [List.length_append, List.length_cons, List.length_nil]; omega) | (rw [List.length_set]; omega) | (rw [List.length_replicate]; omega) | (simp; omega))) rfl ?_
                  refine rj_v rfl rfl (v_fieldAddr fd_30_1 ty_3 (by decide) rfl) rfl ?_
                  refine rj_v rfl rfl (v_loadB 1 ty_3 rfl rfl rfl) rfl ?_
                  refine rj_v rfl rfl (v_min rfl rfl) rfl ?_
                  refine rj_x rfl rfl (x_buildS [num (min (x.getD 0 0) p')] Try.underlying24 ty_3 (by decide) rfl rfl rfl (by decide) (by decide) (by intro v hv; simp at hv; rcases hv with rfl <;> rfl)) rfl ?_; intro v108 h108 (r108 : IntsO [min (x.getD 0 0) p'] v108 h108)
                  refine rj_v rfl rfl (v_assign rfl) rfl ?_
                  refine rj_end ?_
                  refine qs_n ?_
                  refine wp_rt ?_
                  refine qs_br ?_
                  refine qs_r ?_
                  exact qs_ret1 rfl rfl (fin_t 0 (i := 4) rfl rfl rfl (by rw [homM, if_neg c13, if_neg c36, if_neg c47, if_neg c56, if_neg c62, if_pos c82, if_neg c86, if_neg c93]; exact r108))
            · refine wp_sc ?_
              refine wp_sq ?_
              refine sq_v rfl (v_eql rfl rfl) rfl ?_
              refine sq_v rfl (v_assign rfl) rfl ?_
              refine sq_end ?_
              refine qs_n ?_
              refine wp_cd rfl (fun c109 => ?_) (fun c109 => ?_)
              · refine wp_sc ?_
                refine wp_sc ?_
                refine wp_sq ?_
                refine sq_v rfl (v_move rfl) rfl ?_
                refine sq_v rfl (v_idxI Try.underlying24 ty_3 rfl rfl r (by first | omega | (simp only [List.length_cons, List.length_nil]; omega) | (simp only [List.length_append, List.length_cons, List.length_nil]; omega) | (rw [List.length_set]; omega) | (rw [List.length_replicate]; omega) | (simp; omega)) (by first | omega | (simp only [List.length_cons, List.length_nil]; omega) | (simp only [List.length_append, List.length_cons, List.length_nil]; omega) | (rw [List.length_set]; omega) | (rw [List.length_replicate]; omega) | (simp; omega))) rfl ?_
                refine sq_v rfl (v_loadI (k := 0) 3 ty_3 rfl rfl r (by first | omega | (simp only [List.length_cons, List.length_nil]; omega) | (simp only [List.length_append, List.length_cons, List.length_nil]; omega) | (rw [List.length_set]; omega) | (rw [List.length_replicate]; omega) | (simp; omega))) rfl ?_
                refine sq_v rfl (v_eql rfl rfl) rfl ?_
                refine sq_end ?_
                refine qs_n ?_
                refine wp_cd rfl (fun c114 => ?_) (fun c114 => ?_)
                · refine wp_sc ?_
                  refine wp_sq ?_
                  refine sq_v rfl (v_loadNB 1 ty_30 rfl rfl rfl rfl) rfl ?_
                  refine sq_x rfl (x_call rfl en_137 (fun w s => ct_i_rawOne _ _ _ w (by first | assumption | omega))) rfl ?_; rintro v116 h116 r116
                  refine sq_v rfl (v_assign rfl) rfl ?_
                  refine sq_end ?_
                  refine qs_n ?_
                  refine wp_rt ?_
                  refine qs_r ?_
                  refine qs_br ?_
                  refine qs_r ?_
                  exact qs_ret1 rfl rfl (fin_t 0 (i := 4) rfl rfl rfl (by rw [homM, if_neg c13, if_neg c36, if_neg c47, if_neg c56, if_neg c62, if_neg c82, if_pos c109, if_pos c114]; exact r116))
                · refine wp_sk ?_
                  refine qs_n ?_
                  refine wp_sc ?_
                  refine wp_sq ?_
                  refine sq_v rfl (v_loadNB 1 ty_30 rfl rfl rfl rfl) rfl ?_
                  refine sq_x rfl (x_call rfl en_135 (fun w s => ct_i_rawZero _ _ _ w (by first | assumption | omega))) rfl ?_; rintro v118 h118 r118
                  refine sq_v rfl (v_assign rfl) rfl ?_
                  refine sq_end ?_
                  refine qs_n ?_
                  refine wp_rt ?_
                  refine qs_br ?_
                  refine qs_r ?_
                  exact qs_ret1 rfl rfl (fin_t 0 (i := 4) rfl rfl rfl (by rw [homM, if_neg c13, if_neg c36, if_neg c47, if_neg c56, if_neg c62, if_neg c82, if_pos c109, if_neg c114]; exact r118))
              · refine wp_sk ?_
                refine qs_bn ?_
                refine qs_n ?_
                refine wp_sc ?_
                refine wp_sq ?_
                refine sq_v rfl (v_move rfl) rfl ?_
                refine sq_x rfl (x_call rfl en_91 (fun w s => ct_i_copyInts _ _ w (r.mono (s.get 3 rfl)) (by first | assumption | omega))) rfl ?_; rintro v120 h120 r120
                refine sq_v rfl (v_assign rfl) rfl ?_
                refine sq_end ?_
                refine qs_n ?_
                refine wp_rt ?_
                exact qs_ret1 rfl rfl (fin_t 0 (i := 4) rfl rfl rfl (by rw [homM, if_neg c13, if_neg c36, if_neg c47, if_neg c56, if_neg c62, if_neg c82, if_neg c109]; simpa using r120))
set_option maxHeartbeats 2000000 in
theorem ct_s_l03Map (k p n k' p' n' h a : Int) (x : List Int) (v : Value) (w : World) (r : IntsR x v (hp w)) (hh : homL k p n k' p' n' h a) (hx : InR k p n x) :
    Calls Try.prog 185 [ringV k p n, ringV k' p' n', homV h a, v].toArray w (Ret w emp (IntsO (homM k n k' p' n' h a p x))) := by
  have hD := hh.2.2
  unfold homD cutP at hD
  have hl := hx.len hh.1
  have hx0 := hx.at hh.1 0 (by omega)
  have hring := hh.1
  have hring' := hh.2.1
  have htr := top_range hring
  have htr' := top_range hring'
  refine calls_in Try.func185 rfl Try.ntmps185 rfl (Sat.start w) ?_
  have hle0 := r.le
  refine wp_sc ?_
  refine wp_sq ?_
  refine sq_x rfl (x_box rfl rfl) rfl ?_; rintro _ _ ⟨b4, rfl, rfl⟩
  refine sq_x rfl (x_box rfl rfl) rfl ?_; rintro _ _ ⟨b5, rfl, rfl⟩
  refine sq_x rfl (x_box rfl rfl) rfl ?_; rintro _ _ ⟨b6, rfl, rfl⟩
  refine sq_v rfl (v_assign rfl) rfl ?_
  refine sq_end ?_
  refine qs_n ?_
  refine wp_sc ?_
  refine wp_sc ?_
  refine wp_sq ?_
  refine sq_v rfl (v_fieldAddr fd_59_0 ty_3 (by decide) rfl) rfl ?_
  refine sq_v rfl (v_loadB 0 ty_3 rfl rfl rfl) rfl ?_
  refine sq_end ?_
  refine qs_n ?_
  refine wp_bl ?_
  refine wp_sc ?_
  refine wp_sq ?_
  refine sq_v rfl (v_eql rfl rfl) rfl ?_
  refine sq_v rfl (v_assign rfl) rfl ?_
  refine sq_end ?_
  refine qs_n ?_
  refine wp_cd rfl (fun c13 => ?_) (fun c13 => ?_)
  · refine wp_sc ?_
    refine wp_rj 10 [(0, true), (1, true), (2, true), (3, true), (4, true), (5, true), (6, true), (7, true), (8, false), (9, true)] mixed_ok (by kernel_rfl) ?_
    refine rj_v rfl rfl (v_move rfl) rfl ?_
    refine rj_v rfl rfl (v_idxI Try.underlying24 ty_3 rfl rfl r (by first | omega | (simp only [List.length_cons, List.length_nil]; omega) | (simp only [List.length_append, List.length_cons, List.length_nil]; omega) | (rw [List.length_set]; omega) | (rw [List.length_replicate]; omega) | (simp; omega)) (by first | omega | (simp only [List.length_cons, List.length_nil]; omega) | (simp only [List.length_append, List.length_cons, List.length_nil]; omega) | (rw [List.length_set]; omega) | (rw [List.length_replicate]; omega) | (simp; omega))) rfl ?_
    refine rj_v rfl rfl (v_loadI (k := 0) 3 ty_3 rfl rfl r (by first | omega | (simp only [List.length_cons, List.length_nil]; omega) | (simp only [List.length_append, List.length_cons, List.length_nil]; omega) | (rw [List.length_set]; omega) | (rw [List.length_replicate]; omega) | (simp; omega))) rfl ?_
    refine rj_v rfl rfl (v_gtr rfl rfl) rfl ?_
    refine rj_v rfl rfl (v_fieldAddr fd_30_0 ty_3 (by decide) rfl) rfl ?_
    refine rj_v rfl rfl (v_loadB 2 ty_3 rfl rfl rfl) rfl ?_
    refine rj_v rfl rfl (v_eql rfl rfl) rfl ?_
    refine rj_v rfl rfl (v_eqlb Try.underlying4 rfl rfl) rfl ?_
    refine rj_x rfl rfl (x_call rfl en_220 (fun w s => ct_s_l03Bit _ w)) rfl ?_; rintro v23 h23 r23
    refine rj_v rfl rfl (v_assign rfl) rfl ?_
    refine rj_end ?_
    refine qs_n ?_
    refine wp_rt ?_
    refine qs_br ?_
    refine qs_r ?_
    exact qs_ret1 rfl rfl (fin_t 0 (i := 4) rfl rfl rfl (by rw [homM, if_pos c13]; exact bit_is r23 (by simp only [decide_eq_true_eq, decide_eq_decide, Bool.false_eq_true, eq_self, true_iff, false_iff, iff_true, iff_false]; omega)))
  · refine wp_sc ?_
    refine wp_sq ?_
    refine sq_v rfl (v_eql rfl rfl) rfl ?_
    refine sq_v rfl (v_assign rfl) rfl ?_
    refine sq_end ?_
    refine qs_n ?_
    refine wp_cd rfl (fun c24 => ?_) (fun c24 => ?_)
    · refine wp_sc ?_
      refine wp_rj 10 [(0, true), (1, true), (2, true), (3, true), (4, true), (5, true), (6, true), (7, true), (8, false), (9, true)] mixed_ok (by kernel_rfl) ?_
      refine rj_v rfl rfl (v_move rfl) rfl ?_
      refine rj_v rfl rfl (v_idxI Try.underlying24 ty_3 rfl rfl r (by first | omega | (simp only [List.length_cons, List.length_nil]; omega) | (simp only [List.length_append, List.length_cons, List.length_nil]; omega) | (rw [List.length_set]; omega) | (rw [List.length_replicate]; omega) | (simp; omega)) (by first | omega | (simp only [List.length_cons, List.length_nil]; omega) | (simp only [List.length_append, List.length_cons, List.length_nil]; omega) | (rw [List.length_set]; omega) | (rw [List.length_replicate]; omega) | (simp; omega))) rfl ?_
      refine rj_v rfl rfl (v_loadI (k := 0) 3 ty_3 rfl rfl r (by first | omega | (simp only [List.length_cons, List.length_nil]; omega) | (simp only [List.length_append, List.length_cons, List.length_nil]; omega) | (rw [List.length_set]; omega) | (rw [List.length_replicate]; omega) | (simp; omega))) rfl ?_
      refine rj_v rfl rfl (v_fieldAddr fd_59_1 ty_3 (by decide) rfl) rfl ?_
      refine rj_v rfl rfl (v_loadB 0 ty_3 rfl rfl rfl) rfl ?_
      have hs := ring_set hring (by omega); have hq : 0 ≤ x.getD 0 0 / 2 ^ a.toNat := (Int.ediv_nonneg hx0.1 (Int.le_of_lt (Int.pow_pos (by decide)))); have hq2 := Int.ediv_le_self (2 ^ a.toNat) hx0.1
      refine rj_v rfl rfl (v_shr rfl rfl (by omega) (by omega)) rfl ?_
      refine rj_v rfl rfl (v_and rfl rfl ⟨by omega, by omega⟩ ⟨by omega, by omega⟩) rfl ?_
      refine rj_v rfl rfl (v_eql rfl rfl) rfl ?_
      refine rj_x rfl rfl (x_call rfl en_220 (fun w s => ct_s_l03Bit _ w)) rfl ?_; rintro v34 h34 r34
      refine rj_v rfl rfl (v_assign rfl) rfl ?_
      refine rj_end ?_
      refine qs_n ?_
      refine wp_rt ?_
      refine qs_br ?_
      refine qs_r ?_
      exact qs_ret1 rfl rfl (fin_t 0 (i := 4) rfl rfl rfl (by rw [homM, if_neg c13, if_pos c24]; exact bit_is r34 Iff.rfl))
    · refine wp_sc ?_
      refine wp_sq ?_
      refine sq_v rfl (v_eql rfl rfl) rfl ?_
      refine sq_v rfl (v_assign rfl) rfl ?_
      refine sq_end ?_
      refine qs_n ?_
      refine wp_cd rfl (fun c35 => ?_) (fun c35 => ?_)
      · refine wp_sc ?_
        refine wp_rj 8 [(0, true), (1, true), (2, true), (3, true), (4, true), (5, true), (6, false), (7, true)] mixed_ok (by kernel_rfl) ?_
        refine rj_v rfl rfl (v_move rfl) rfl ?_
        refine rj_v rfl rfl (v_idxI Try.underlying24 ty_3 rfl rfl r (by first | omega | (simp only [List.length_cons, List.length_nil]; omega) | (simp only [List.length_append, List.length_cons, List.length_nil]; omega) | (rw [List.length_set]; omega) | (rw [List.length_replicate]; omega) | (simp; omega)) (by first | omega | (simp only [List.length_cons, List.length_nil]; omega) | (simp only [List.length_append, List.length_cons, List.length_nil]; omega) | (rw [List.length_set]; omega) | (rw [List.length_replicate]; omega) | (simp; omega))) rfl ?_
        refine rj_v rfl rfl (v_loadI (k := 0) 3 ty_3 rfl rfl r (by first | omega | (simp only [List.length_cons, List.length_nil]; omega) | (simp only [List.length_append, List.length_cons, List.length_nil]; omega) | (rw [List.length_set]; omega) | (rw [List.length_replicate]; omega) | (simp; omega))) rfl ?_
        refine rj_v rfl rfl (v_fieldAddr fd_59_1 ty_3 (by decide) rfl) rfl ?_
        refine rj_v rfl rfl (v_loadB 0 ty_3 rfl rfl rfl) rfl ?_
        refine rj_v rfl rfl (v_geq rfl rfl) rfl ?_
        refine rj_x rfl rfl (x_call rfl en_220 (fun w s => ct_s_l03Bit _ w)) rfl ?_; rintro v43 h43 r43
        refine rj_v rfl rfl (v_assign rfl) rfl ?_
        refine rj_end ?_
        refine qs_n ?_
        refine wp_rt ?_
        refine qs_br ?_
        refine qs_r ?_
        exact qs_ret1 rfl rfl (fin_t 0 (i := 4) rfl rfl rfl (by rw [homM, if_neg c13, if_neg c24, if_pos c35]; exact bit_is r43 Iff.rfl))
      · refine wp_sc ?_
        refine wp_sq ?_
        refine sq_v rfl (v_eql rfl rfl) rfl ?_
        refine sq_v rfl (v_assign rfl) rfl ?_
        refine sq_end ?_
        refine qs_n ?_
        refine wp_cd rfl (fun c44 => ?_) (fun c44 => ?_)
        · refine wp_sc ?_
          refine wp_sq ?_
          refine sq_v rfl (v_move rfl) rfl ?_
          refine sq_v rfl (v_idxI Try.underlying24 ty_3 rfl rfl r (by first | omega | (simp only [List.length_cons, List.length_nil]; omega) | (simp only [List.length_append, List.length_cons, List.length_nil]; omega) | (rw [List.length_set]; omega) | (rw [List.length_replicate]; omega) | (simp; omega)) (by first | omega | (simp only [List.length_cons, List.length_nil]; omega) | (simp only [List.length_append, List.length_cons, List.length_nil]; omega) | (rw [List.length_set]; omega) | (rw [List.length_replicate]; omega) | (simp; omega))) rfl ?_
          refine sq_v rfl (v_loadI (k := 0) 3 ty_3 rfl rfl r (by first | omega | (simp only [List.length_cons, List.length_nil]; omega) | (simp only [List.length_append, List.length_cons, List.length_nil]; omega) | (rw [List.length_set]; omega) | (rw [List.length_replicate]; omega) | (simp; omega))) rfl ?_
          refine sq_x rfl (x_buildS [num (x.getD 0 0)] Try.underlying24 ty_3 (by decide) rfl rfl rfl (by decide) (by decide) (by intro v hv; simp at hv; rcases hv with rfl <;> rfl)) rfl ?_; intro v49 h49 (r49 : IntsO [x.getD 0 0] v49 h49)
          refine sq_v rfl (v_assign rfl) rfl ?_
          refine sq_end ?_
          refine qs_n ?_
          refine wp_rt ?_
          refine qs_br ?_
          refine qs_r ?_
          exact qs_ret1 rfl rfl (fin_t 0 (i := 4) rfl rfl rfl (by rw [homM, if_neg c13, if_neg c24, if_neg c35, if_pos c44]; exact r49))
        · refine wp_sc ?_
          refine wp_sq ?_
          refine sq_v rfl (v_eql rfl rfl) rfl ?_
          refine sq_v rfl (v_assign rfl) rfl ?_
          refine sq_end ?_
          refine qs_n ?_
          refine wp_cd rfl (fun c50 => ?_) (fun c50 => ?_)
          · refine wp_sc ?_
            refine wp_sq ?_
            refine sq_v rfl (v_assign rfl) rfl ?_
            refine sq_end ?_
            refine qs_n ?_
            refine wp_sc ?_
            refine wp_sc ?_
            refine wp_sq ?_
            refine sq_v rfl (v_assign rfl) rfl ?_
            refine sq_end ?_
            refine qs_n ?_
            refine wp_bl ?_
            refine wp_lp (σ := Nat) (fun z_ => [(3, v), (4, .pointer (some ⟨b4, 0, none⟩)), (6, .pointer (some ⟨b6, 0, none⟩)), (8, .slice none 0 0), (9, num (rootTo a p x z_)), (10, num (3 - z_))]) (fun z_ => [box b6 [num h, num a] 59, box b5 [num k', num p', num n'] 30, box b4 [num k, num p, num n] 30, hp w]) (fun z_ => z_ ≤ 4) (fun z_ => 4 - z_) 0 (by omega) ⟨rfl, rfl, rfl, rfl, (by first | rfl | exact ksub rfl (by first | omega | (simp; done) | (simp; omega))), (by first | rfl | exact ksub rfl (by first | omega | (simp; done) | (simp; omega))), trivial⟩ (fun _ s => s) ?_
            rintro m hm
            have h6 : k = 8 ∧ 1 ≤ a ∧ a ≤ p - 1 := by rcases hD with h | h | h | h | h | h | h | h <;> first | (exfalso; omega) | exact ⟨h.2.1, h.2.2.2.2.1⟩
            have hp2 := ring_two hring (by omega)
            have htp := (top_poly hring (by omega)).1
            have hw4 : widthI k n = 4 := by simp [widthI, h6.1]
            have hxa : ∀ i, 0 ≤ x.getD i 0 ∧ x.getD i 0 ≤ p - 1 := fun i => by rw [← htp]; rcases Nat.lt_or_ge i x.length with h' | h'; exact hx.at hring i h'; have : x.getD i 0 = 0 := (by simp [List.getD, h']); omega
            have hri := rootTo_in hp2 (show 0 ≤ a ∧ a ≤ p - 1 by omega) hxa m
            have em : ((3 : Int) - m).toNat = 3 - m := by omega
            have er : rootTo a p x (m + 1) = (rootTo a p x m * a + x.getD ((3 : Int) - m).toNat 0).tmod p := by rw [em]; rfl
            refine wp_sc ?_
            refine wp_sc ?_
            refine wp_sq ?_
            refine sq_v rfl (v_move rfl) rfl ?_
            refine sq_v rfl (v_geq rfl rfl) rfl ?_
            refine sq_end ?_
            refine qs_n ?_
            refine wp_cd rfl (fun c53 => ?_) (fun c53 => ?_)
            · refine wp_sk ?_
              refine qs_n ?_
              refine wp_sc ?_
              refine wp_bl ?_
              refine wp_rj 13 [(0, true), (1, true), (2, true), (3, true), (4, true), (5, true), (6, true), (7, true), (8, true), (9, true), (10, true), (11, true), (12, true)] mixed_ok (by kernel_rfl) ?_
              refine rj_v rfl rfl (v_move rfl) rfl ?_
              refine rj_v rfl rfl (v_fieldAddr fd_59_1 ty_3 (by decide) rfl) rfl ?_
              refine rj_v rfl rfl (v_loadB 0 ty_3 rfl rfl rfl) rfl ?_
              refine rj_v rfl rfl (v_mul rfl rfl ((by unfold I64; omega))) rfl ?_
              refine rj_v rfl rfl (v_move rfl) rfl ?_
              refine rj_v rfl rfl (v_move rfl) rfl ?_
              refine rj_v rfl rfl (v_idxI Try.underlying24 ty_3 rfl rfl r (by first | omega | (simp only [List.length_cons, List.length_nil]; omega) | (simp only [List.length_append, List.length_cons, List.length_nil]; omega) | (rw [List.length_set]; omega) | (rw [List.length_replicate]; omega) | (simp; omega)) (by first | omega | (simp only [List.length_cons, List.length_nil]; omega) | (simp only [List.length_append, List.length_cons, List.length_nil]; omega) | (rw [List.length_set]; omega) | (rw [List.length_replicate]; omega) | (simp; omega))) rfl ?_
              refine rj_v rfl rfl (v_loadI  3 ty_3 rfl rfl r (by first | omega | (simp only [List.length_cons, List.length_nil]; omega) | (simp only [List.length_append, List.length_cons, List.length_nil]; omega) | (rw [List.length_set]; omega) | (rw [List.length_replicate]; omega) | (simp; omega))) rfl ?_
              have hx3 := hxa (3 - m); rw [← em] at hx3
              refine rj_v rfl rfl (v_add rfl rfl ((by unfold I64; omega))) rfl ?_
              refine rj_v rfl rfl (v_fieldAddr fd_30_1 ty_3 (by decide) rfl) rfl ?_
              refine rj_v rfl rfl (v_loadB 2 ty_3 rfl rfl rfl) rfl ?_
              refine rj_v rfl rfl (v_rem rfl rfl (by omega)) rfl ?_
              refine rj_v rfl rfl (v_assign rfl) rfl ?_
              refine rj_end ?_
              refine qs_bn ?_
              refine qs_n ?_
              refine wp_sq ?_
              refine sq_v rfl (v_move rfl) rfl ?_
              refine sq_v rfl (v_sub rfl rfl ((by unfold I64; omega))) rfl ?_
              refine sq_v rfl (v_assign rfl) rfl ?_
              refine sq_end ?_
              exact qs_bk (m + 1) (by omega) (by omega) ⟨rfl, rfl, rfl, rfl, (by first | rfl | exact ksub rfl (by first | omega | (simp; done) | (simp; omega))), (by first | rfl | exact ksub rfl (by first | omega | (simp; done) | (simp; omega))), trivial⟩ (fun _ s => s)
            · refine wp_ex ?_
              refine qs_x ?_
              refine qs_x ?_
              refine qs_bx ?_
              refine qs_n ?_
              refine wp_sc ?_
              refine wp_sq ?_
              refine sq_v rfl (v_move rfl) rfl ?_
              refine sq_x rfl (x_buildS [num (rootTo a p x m)] Try.underlying24 ty_3 (by decide) rfl rfl rfl (by decide) (by decide) (by intro v hv; simp at hv; rcases hv with rfl <;> rfl)) rfl ?_; intro v69 h69 (r69 : IntsO [rootTo a p x m] v69 h69)
              refine sq_v rfl (v_assign rfl) rfl ?_
              refine sq_end ?_
              refine qs_n ?_
              refine wp_rt ?_
              refine qs_br ?_
              refine qs_r ?_
              exact qs_ret1 rfl rfl (fin_t 0 (i := 4) rfl rfl rfl (by rw [homM, if_neg c13, if_neg c24, if_neg c35, if_neg c44, if_pos c50, show 4 = m by omega]; exact r69))
          · refine wp_sc ?_
            refine wp_sq ?_
            refine sq_v rfl (v_eql rfl rfl) rfl ?_
            refine sq_v rfl (v_assign rfl) rfl ?_
            refine sq_end ?_
            refine qs_n ?_
            refine wp_cd rfl (fun c70 => ?_) (fun c70 => ?_)
            · refine wp_sc ?_
              refine wp_sc ?_
              refine wp_sq ?_
              refine sq_v rfl (v_fieldAddr fd_30_0 ty_3 (by decide) rfl) rfl ?_
              refine sq_v rfl (v_loadB 2 ty_3 rfl rfl rfl) rfl ?_
              refine sq_end ?_
              refine qs_n ?_
              refine wp_bl ?_
              refine wp_sc ?_
              refine wp_sq ?_
              refine sq_v rfl (v_eql rfl rfl) rfl ?_
              refine sq_v rfl (v_assign rfl) rfl ?_
              refine sq_end ?_
              refine qs_n ?_
              refine wp_cd rfl (fun c74 => ?_) (fun c74 => ?_)
              · refine wp_sc ?_
                refine wp_sq ?_
                refine sq_x rfl (x_build0 Try.underlying24 ty_3) rfl ?_; intro v76 h76 (r76 : IntsO [] v76 h76)
                refine sq_v rfl (v_move rfl) rfl ?_
                refine sq_v rfl (v_fieldAddr fd_30_2 ty_3 (by decide) rfl) rfl ?_
                refine sq_v rfl (v_loadB 2 ty_3 rfl rfl rfl) rfl ?_
                have hw7 : widthI k n = n := (by simp [widthI, c74]); have hn7 : 0 ≤ n' ∧ n' ≤ n := (by have := width_range hring'; have h1 : widthI k' n' = n' := (by have : k' = 7 := (by omega); simp [widthI, this]); omega); have hle7 : (x.take n'.toNat).length ≤ 6 := (by rw [List.length_take]; omega)
                refine sq_v rfl (v_sliceH Try.underlying24 ty_3 rfl rfl  r (by omega) (by omega)) rfl ?_
                refine sq_m 0 rfl rfl (m_appI 0 4 Try.underlying24 ty_3 rfl rfl rfl rfl r76 rfl (r.subH (hi := (n' : Int).toNat) (by omega)) (by first | omega | (simp only [List.length_cons, List.length_nil]; omega) | (simp only [List.length_append, List.length_cons, List.length_nil]; omega) | (rw [List.length_set]; omega) | (rw [List.length_replicate]; omega) | (simp; omega))) rfl ?_; intro v81 h_r81 r81
                refine sq_v rfl (v_assign rfl) rfl ?_
                refine sq_end ?_
                refine qs_n ?_
                refine wp_rt ?_
                refine qs_br ?_
                refine qs_r ?_
                refine qs_br ?_
                refine qs_r ?_
                exact qs_ret1 rfl rfl (fin_t 0 (i := 4) rfl rfl rfl (by rw [homM, if_neg c13, if_neg c24, if_neg c35, if_neg c44, if_neg c50, if_pos c70, if_pos c74]; simpa using r81))
              · refine wp_sc ?_
                refine wp_sq ?_
                refine sq_v rfl (v_eql rfl rfl) rfl ?_
                refine sq_v rfl (v_assign rfl) rfl ?_
                refine sq_end ?_
                refine qs_n ?_
                refine wp_cd rfl (fun c82 => ?_) (fun c82 => ?_)
                · refine wp_sc ?_
                  refine wp_rj 8 [(0, true), (1, true), (2, true), (3, true), (4, false), (5, true), (6, false), (7, true)] mixed_ok (by kernel_rfl) ?_
                  refine rj_v rfl rfl (v_move rfl) rfl ?_
                  refine rj_v rfl rfl (v_idxI Try.underlying24 ty_3 rfl rfl r (by first | omega | (simp only [List.length_cons, List.length_nil]; omega) | (simp only [List.length_append, List.length_cons, List.length_nil]; omega) | (rw [List.length_set]; omega) | (rw [List.length_replicate]; omega) | (simp; omega)) (by first | omega | (simp only [List.length_cons, List.length_nil]; omega) | (simp only [List.length_append, List.length_cons, List.length_nil]; omega) | (rw [List.length_set]; omega) | (rw [List.length_replicate]; omega) | (simp; omega))) rfl ?_
                  refine rj_v rfl rfl (v_loadI (k := 0) 3 ty_3 rfl rfl r (by first | omega | (simp only [List.length_cons, List.length_nil]; omega) | (simp only [List.length_append, List.length_cons, List.length_nil]; omega) | (rw [List.length_set]; omega) | (rw [List.length_replicate]; omega) | (simp; omega))) rfl ?_
                  refine rj_v rfl rfl (v_loadNB 1 ty_30 rfl rfl rfl rfl) rfl ?_
                  refine rj_u rfl rfl (x_callv rfl en_171 (fun w s => ct_s_l02Top _ _ _ w (by first | assumption | omega))) rfl ?_
                  refine rj_v rfl rfl (v_and rfl rfl ⟨by omega, by omega⟩ ⟨by omega, by omega⟩) rfl ?_
                  refine rj_x rfl rfl (x_buildS [num ((((x.getD 0 0).toNat &&& (topI k' p' n').toNat : Nat) : Int))] Try.underlying24 ty_3 (by decide) rfl rfl rfl (by decide) (by decide) (by intro v hv; simp at hv; rcases hv with rfl <;> rfl)) rfl ?_; intro v90 h90 (r90 : IntsO [(((x.getD 0 0).toNat &&& (topI k' p' n').toNat : Nat) : Int)] v90 h90)
                  refine rj_v rfl rfl (v_assign rfl) rfl ?_
                  refine rj_end ?_
                  refine qs_n ?_
                  refine wp_rt ?_
                  refine qs_br ?_
                  refine qs_r ?_
                  refine qs_br ?_
                  refine qs_r ?_
                  exact qs_ret1 rfl rfl (fin_t 0 (i := 4) rfl rfl rfl (by rw [homM, if_neg c13, if_neg c24, if_neg c35, if_neg c44, if_neg c50, if_pos c70, if_neg c74, if_pos c82]; exact r90))
                · refine wp_sk ?_
                  refine qs_bn ?_
                  refine qs_n ?_
                  refine wp_sc ?_
                  refine wp_rj 8 [(0, true), (1, true), (2, true), (3, true), (4, true), (5, true), (6, false), (7, true)] mixed_ok (by kernel_rfl) ?_
                  refine rj_v rfl rfl (v_move rfl) rfl ?_
                  refine rj_v rfl rfl (v_idxI Try.underlying24 ty_3 rfl rfl r (by first | omega | (simp only [List.length_cons, List.length_nil]; omega) | (simp only [List.length_append, List.length_cons, List.length_nil]; omega) | (rw [List.length_set]; omega) | (rw [List.length_replicate]; omega) | (simp; omega)) (by first | omega | (simp only [List.length_cons, List.length_nil]; omega) | (simp only [List.length_append, List.length_cons, List.length_nil]; omega) | (rw [List.length_set]; omega) | (rw [List.length_replicate]; omega) | (simp; omega))) rfl ?_
                  refine rj_v rfl rfl (v_loadI (k := 0) 3 ty_3 rfl rfl r (by first | omega | (simp only [List.length_cons, List.length_nil]; omega) | (simp only [List.length_append, List.length_cons, List.length_nil]; omega) | (rw [List.length_set]; omega) | (rw [List.length_replicate]; omega) | (simp; omega))) rfl ?_
                  refine rj_v rfl rfl (v_fieldAddr fd_30_1 ty_3 (by decide) rfl) rfl ?_
                  refine rj_v rfl rfl (v_loadB 1 ty_3 rfl rfl rfl) rfl ?_
                  refine rj_v rfl rfl (v_min rfl rfl) rfl ?_
                  refine rj_x rfl rfl (x_buildS [num (min (x.getD 0 0) p')] Try.underlying24 ty_3 (by decide) rfl rfl rfl (by decide) (by decide) (by intro v hv; simp at hv; rcases hv with rfl <;> rfl)) rfl ?_; intro v97 h97 (r97 : IntsO [min (x.getD 0 0) p'] v97 h97)
                  refine rj_v rfl rfl (v_assign rfl) rfl ?_
                  refine rj_end ?_
                  refine qs_n ?_
                  refine wp_rt ?_
                  refine qs_br ?_
                  refine qs_r ?_
                  exact qs_ret1 rfl rfl (fin_t 0 (i := 4) rfl rfl rfl (by rw [homM, if_neg c13, if_neg c24, if_neg c35, if_neg c44, if_neg c50, if_pos c70, if_neg c74, if_neg c82]; exact r97))
            · refine wp_sc ?_
              refine wp_sq ?_
              refine sq_v rfl (v_eql rfl rfl) rfl ?_
              refine sq_v rfl (v_assign rfl) rfl ?_
              refine sq_end ?_
              refine qs_n ?_
              refine wp_cd rfl (fun c98 => ?_) (fun c98 => ?_)
              · refine wp_sc ?_
                refine wp_sc ?_
                refine wp_sq ?_
                refine sq_v rfl (v_move rfl) rfl ?_
                refine sq_v rfl (v_idxI Try.underlying24 ty_3 rfl rfl r (by first | omega | (simp only [List.length_cons, List.length_nil]; omega) | (simp only [List.length_append, List.length_cons, List.length_nil]; omega) | (rw [List.length_set]; omega) | (rw [List.length_replicate]; omega) | (simp; omega)) (by first | omega | (simp only [List.length_cons, List.length_nil]; omega) | (simp only [List.length_append, List.length_cons, List.length_nil]; omega) | (rw [List.length_set]; omega) | (rw [List.length_replicate]; omega) | (simp; omega))) rfl ?_
                refine sq_v rfl (v_loadI (k := 0) 3 ty_3 rfl rfl r (by first | omega | (simp only [List.length_cons, List.length_nil]; omega) | (simp only [List.length_append, List.length_cons, List.length_nil]; omega) | (rw [List.length_set]; omega) | (rw [List.length_replicate]; omega) | (simp; omega))) rfl ?_
                refine sq_v rfl (v_eql rfl rfl) rfl ?_
                refine sq_end ?_
                refine qs_n ?_
                refine wp_cd rfl (fun c103 => ?_) (fun c103 => ?_)
                · refine wp_sc ?_
                  refine wp_sq ?_
                  refine sq_v rfl (v_loadNB 1 ty_30 rfl rfl rfl rfl) rfl ?_
                  refine sq_x rfl (x_call rfl en_173 (fun w s => ct_s_l02One _ _ _ w (by first | assumption | omega))) rfl ?_; rintro v105 h105 r105
                  refine sq_v rfl (v_assign rfl) rfl ?_
                  refine sq_end ?_
                  refine qs_n ?_
                  refine wp_rt ?_
                  refine qs_r ?_
                  refine qs_br ?_
                  refine qs_r ?_
                  exact qs_ret1 rfl rfl (fin_t 0 (i := 4) rfl rfl rfl (by rw [homM, if_neg c13, if_neg c24, if_neg c35, if_neg c44, if_neg c50, if_neg c70, if_pos c98, if_pos c103]; exact r105))
                · refine wp_sk ?_
                  refine qs_n ?_
                  refine wp_sc ?_
                  refine wp_sq ?_
                  refine sq_v rfl (v_loadNB 1 ty_30 rfl rfl rfl rfl) rfl ?_
                  refine sq_x rfl (x_call rfl en_206 (fun w s => ct_s_l02Zero _ _ _ w (by first | assumption | omega))) rfl ?_; rintro v107 h107 r107
                  refine sq_v rfl (v_assign rfl) rfl ?_
                  refine sq_end ?_
                  refine qs_n ?_
                  refine wp_rt ?_
                  refine qs_br ?_
                  refine qs_r ?_
                  exact qs_ret1 rfl rfl (fin_t 0 (i := 4) rfl rfl rfl (by rw [homM, if_neg c13, if_neg c24, if_neg c35, if_neg c44, if_neg c50, if_neg c70, if_pos c98, if_neg c103]; exact r107))
              · refine wp_sk ?_
                refine qs_bn ?_
                refine qs_n ?_
                refine wp_sc ?_
                refine wp_sq ?_
                refine sq_x rfl (x_build0 Try.underlying24 ty_3) rfl ?_; intro v108 h108 (r108 : IntsO [] v108 h108)
                refine sq_v rfl (v_move rfl) rfl ?_
                refine sq_m 0 rfl rfl (m_appI 0 4 Try.underlying24 ty_3 rfl rfl rfl rfl r108 rfl r (by first | omega | (simp only [List.length_cons, List.length_nil]; omega) | (simp only [List.length_append, List.length_cons, List.length_nil]; omega) | (rw [List.length_set]; omega) | (rw [List.length_replicate]; omega) | (simp; omega))) rfl ?_; intro v110 h_r110 r110
                refine sq_v rfl (v_assign rfl) rfl ?_
                refine sq_end ?_
                refine qs_n ?_
                refine wp_rt ?_
                exact qs_ret1 rfl rfl (fin_t 0 (i := 4) rfl rfl rfl (by rw [homM, if_neg c13, if_neg c24, if_neg c35, if_neg c44, if_neg c50, if_neg c70, if_neg c98]; simpa using r110))
end Go.Proofs.Ytikeobneipjfnaa
namespace Go.Proofs.Ytikeobneipjfnaa
set_option maxRecDepth 100000
open Go.RowKit
def digI (ds : List Int) (n : Int) (i : Nat) : Int := n / prodI (ds.drop (i + 1)) % ds.getD i 0
def idxL (ds : List Int) (n : Int) : List Int := (List.range ds.length).map fun i => digI ds n i
theorem idxL_len (ds : List Int) (n : Int) : (idxL ds n).length = ds.length := by simp [idxL]
theorem idxL_get {ds : List Int} {n : Int} {i : Nat} (h : i < ds.length) : (idxL ds n).getD i 0 = digI ds n i := by simp [idxL, List.getD, h]
theorem idxL_in {ds : List Int} (hd : ∀ d ∈ ds, 1 ≤ d) (n : Int) : idxIn ds (idxL ds n) := ⟨idxL_len ds n, fun j hj => by
  rw [idxL_get hj]
  have := hd _ (mem_getD hj)
  exact ⟨Int.emod_nonneg _ (by omega), Int.emod_lt_of_pos _ (by omega)⟩⟩
end Go.Proofs.Ytikeobneipjfnaa
namespace Go.Proofs.Ytikeobneipjfnaa
set_option maxRecDepth 100000
open Go.RowKit
section
variable {P : Program} {n : Nat} {w0 : World} {K : Env} {HS : List PH} {d : Option Tmp} {ty : TypeId} {ps : String} {af : Array Edge} {g : Option (Nat × Bool)}
theorem v_neqs {t t' : TypeId} {x y : Operand} {k : IntKind} {a : Int} (hx : ev K x = some (.int k a)) (hy : ev K y = some (.int k a)) : StepV P n w0 K HS ⟨d, .binOp .neq t x y t', ty, ps, af, g⟩ (.bool false) := by
  have := v_neq (P := P) (n := n) (w0 := w0) (HS := HS) (d := d) (t := t) (t' := t') (ty := ty) (ps := ps) (af := af) (g := g) hx hy
  simpa using this
theorem v_neqsb {t t' : TypeId} {x y : Operand} {a : Bool} (ht : P.underlying t = some .bool) (hx : ev K x = some (.bool a)) (hy : ev K y = some (.bool a)) : StepV P n w0 K HS ⟨d, .binOp .neq t x y t', ty, ps, af, g⟩ (.bool false) := by
  have := v_neqb (P := P) (n := n) (w0 := w0) (HS := HS) (d := d) (t := t) (t' := t') (ty := ty) (ps := ps) (af := af) (g := g) ht hx hy
  simpa using this
end
/-- A network that owns its parts, as a call returns it. -/
def NetT (k p n : Int) (ts : List Ten) (op : List Int) (u : Value) (h : PH) : Prop := ∃ vt vo, u = netV k p n vt vo ∧ NetO ts op vt vo h
theorem ct_L_toNetwork (k p n : Int) (ts : List Ten) (op : List Int) (vt vo : Value) (w : World) (r : TensR ts vt (hp w)) (r' : IntsR op vo (hp w)) (hs : ts.length + tensSize ts + op.length ≤ 1048576) :
    Calls Try.prog 28 [netV k p n vt vo].toArray w (Ret w emp (NetT k p n ts op)) := ct_l_toNetwork k p n ts op vt vo w r r' hs
/-- The marks of a network. -/
def NetM (vt vo : Value) (k e : Int) (u : Value) (h : PH) : Prop := u = num e ∧ ∃ ts op, NetO ts op vt vo h ∧ HeldL k (flat ts ++ [op]) e
theorem ct_L_markNetwork (kd p n : Int) (ts : List Ten) (op : List Int) (vt vo : Value) (k : Int) (w : World) (h : PH) (hle : PLe h (hp w)) (r : NetO ts op vt vo h) (hk : 0 ≤ k ∧ k + tensSize ts + op.length ≤ 4611686018427387904) :
    Calls Try.prog 32 [netV kd p n vt vo, num k].toArray w (Ret w h (NetM vt vo k (k + tensSize ts + op.length))) := ct_l_markNetwork kd p n ts op vt vo k w h hle r hk
def TriO (t : Ten) (a b c : Value) (h : PH) : Prop := ∃ h1 h2 h3, IntsO t.l a h1 ∧ IntsO t.d b h2 ∧ IntsO t.x c h3 ∧ Made h [h1, h2, h3]
theorem TriO.toR {t : Ten} {a b c : Value} {h : PH} (r : TriO t a b c h) : IntsR t.l a h ∧ IntsR t.d b h ∧ IntsR t.x c h := by
  obtain ⟨h1, h2, h3, r1, r2, r3, m⟩ := r
  exact ⟨r1.toR.mono (m.le h1 (by simp)), r2.toR.mono (m.le h2 (by simp)), r3.toR.mono (m.le h3 (by simp))⟩
def TenT (t : Ten) (u : Value) (h : PH) : Prop := ∃ a b c, u = tenV a b c ∧ TriO t a b c h
end Go.Proofs.Ytikeobneipjfnaa
namespace Go.Proofs.Ytikeobneipjfnaa
set_option maxRecDepth 100000
open Go.RowKit
theorem prodI_perm {a b : List Int} (h : a.Perm b) : prodI a = prodI b := by
  induction h with
  | nil => rfl
  | cons x _ ih => rw [prodI_cons, prodI_cons, ih]
  | swap x y l => rw [prodI_cons, prodI_cons, prodI_cons, prodI_cons, Int.mul_left_comm]
  | trans _ _ h1 h2 => exact h1.trans h2
def permD (t : Ten) (ls : List Int) : List Int := idxAt t.l t.d ls
theorem permD_len (t : Ten) (ls : List Int) : (permD t ls).length = ls.length := List.length_map _
structure PermOK (k p n : Int) (t : Ten) (ls : List Int) : Prop where
  ring : ringL k p n
  ten : tensorL k p n t.l t.d t.x
  perm : ls.Perm t.l
section
variable {k p n : Int} {t : Ten} {ls : List Int}
theorem PermOK.axes (h : PermOK k p n t ls) : axesL t.l t.d := tensor_axes h.ten
theorem PermOK.nodup (h : PermOK k p n t ls) : ls.Nodup := (List.Perm.nodup_iff h.perm).2 (axes_nodup h.axes)
theorem PermOK.len (h : PermOK k p n t ls) : ls.length = t.l.length ∧ t.l.length = t.d.length ∧ ls.length ≤ 12 := by
  have := h.perm.length_eq
  have := h.axes
  exact ⟨by omega, this.2.1, by have := this.1; omega⟩
theorem PermOK.find (h : PermOK k p n t ls) {j : Nat} (hj : j < ls.length) : 0 ≤ findI t.l (ls.getD j 0) ∧ findI t.l (ls.getD j 0) < t.d.length ∧ t.l.getD (findI t.l (ls.getD j 0)).toNat 0 = ls.getD j 0 := by
  have hm : ls.getD j 0 ∈ t.l := h.perm.mem_iff.1 (mem_getD hj)
  have h1 := findI_ge.2 hm
  have h2 := findI_get hm
  have := h.len
  exact ⟨h1, by omega, h2.2⟩
theorem PermOK.dims (h : PermOK k p n t ls) : dimsIn (permD t ls) := fun j hj => by
  rw [permD_len] at hj
  have hf := h.find hj
  rw [permD, idxAt, map_getD hj]
  exact axes_dims h.axes _ (by omega)
theorem PermOK.prod (h : PermOK k p n t ls) : prodI (permD t ls) = prodI t.d := by
  have e : t.d = idxAt t.l t.d t.l := by
    apply ext_getD (by simp [idxAt, h.axes.2.1])
    intro j hj
    have hj' : j < t.l.length := by rw [h.axes.2.1]; exact hj
    rw [idxAt, map_getD hj', find_at h.axes hj', Int.toNat_natCast]
  conv => rhs; rw [e]
  exact prodI_perm (h.perm.map _)
theorem PermOK.small (h : PermOK k p n t ls) : 1 ≤ prodI (permD t ls) ∧ prodI (permD t ls) ≤ 4096 := by
  refine ⟨prodI_one fun d hd => (dims_mem h.dims d hd).1, ?_⟩
  rw [h.prod]
  exact (sizeI_ge.1 h.ten.2.1).2
theorem PermOK.back (h : PermOK k p n t ls) {j : Nat} (hj : j < t.l.length) : (findI ls (t.l.getD j 0)).toNat < ls.length ∧ ls.getD (findI ls (t.l.getD j 0)).toNat 0 = t.l.getD j 0 :=
  findI_get (h.perm.mem_iff.2 (mem_getD hj))
theorem PermOK.idx (h : PermOK k p n t ls) (i : Int) : idxIn t.d (idxAt ls (idxL (permD t ls) i) t.l) := by
  have hd : ∀ d ∈ permD t ls, 1 ≤ d := fun d hd => (dims_mem h.dims d hd).1
  refine ⟨by simp [idxAt, h.axes.2.1], fun j hj => ?_⟩
  have hj' : j < t.l.length := by rw [h.axes.2.1]; exact hj
  have hb := h.back hj'
  have hv := (idxL_in hd i).2 (findI ls (t.l.getD j 0)).toNat (by rw [permD_len]; exact hb.1)
  rw [idxAt, map_getD hj']
  rw [show (permD t ls).getD (findI ls (t.l.getD j 0)).toNat 0 = t.d.getD j 0 by
    rw [permD, idxAt, map_getD hb.1, hb.2, find_at h.axes hj', Int.toNat_natCast]] at hv
  exact hv
theorem PermOK.off (h : PermOK k p n t ls) (i : Int) : 0 ≤ offL t.d (idxAt ls (idxL (permD t ls) i) t.l) ∧ offL t.d (idxAt ls (idxL (permD t ls) i) t.l) < prodI t.d := by
  have := offL_in (fun d hd => (dims_mem (axes_dims h.axes) d hd).1) (h.idx i)
  omega
end
end Go.Proofs.Ytikeobneipjfnaa
namespace Go.Proofs.Ytikeobneipjfnaa
set_option maxRecDepth 100000
open Go.RowKit
/-- 'HK' is 'HS', some parts of it forgotten. -/
def WkL : List PH → List PH → Prop
  | [], [] => True
  | h :: HS, k :: HK => (k = h ∨ k = emp) ∧ WkL HS HK
  | _, _ => False
theorem WkL.refl : ∀ HS, WkL HS HS
  | [] => trivial
  | _ :: HS => ⟨.inl rfl, WkL.refl HS⟩
theorem WkL.le : ∀ {HS HK : List PH}, WkL HS HK → ∀ x ∈ HK, x = emp ∨ x ∈ HS
  | [], [], _, x, h => by simp at h
  | _ :: _, [], h, _, _ => h.elim
  | [], _ :: _, h, _, _ => h.elim
  | h :: HS, k :: HK, w, x, hx => by
    rcases List.mem_cons.1 hx with rfl | hx
    · rcases w.1 with e | e
      · exact .inr (by simp [e])
      · exact .inl e
    · rcases WkL.le w.2 x hx with e | e
      · exact .inl e
      · exact .inr (by simp [e])
theorem WkL.sep : ∀ {HS HK : List PH}, WkL HS HK → sepL HS → sepL HK
  | [], [], _, _ => trivial
  | _ :: _, [], h, _ => h.elim
  | [], _ :: _, h, _ => h.elim
  | h :: HS, k :: HK, w, s => by
    refine ⟨fun x hx => ?_, WkL.sep w.2 s.2⟩
    rcases w.1 with rfl | rfl
    · rcases WkL.le w.2 x hx with rfl | e
      · exact PDj.symm (PDj.emp _)
      · exact s.1 x e
    · exact PDj.emp _
theorem WkL.sat {w0 w : World} {HS HK : List PH} (h : WkL HS HK) (s : Sat w0 HS w) : Sat w0 HK w := by
  refine ⟨s.os, s.tape, s.output, s.size, h.sep s.sep, fun x hx => ?_⟩
  rcases h.le x hx with rfl | e
  · exact PLe.emp _
  · exact s.le x e
theorem WkL.set : ∀ {HS HK : List PH} {p : Nat} {h' : PH}, WkL HS HK → HK[p]? = some emp → WkL (HS.set p h') HK
  | [], [], _, _, _, e => by simp at e
  | _ :: _, [], _, _, h, _ => h.elim
  | [], _ :: _, _, _, h, _ => h.elim
  | h :: HS, k :: HK, 0, h', w, e => by
    simp only [List.getElem?_cons_zero, Option.some.injEq] at e
    exact ⟨.inr e, w.2⟩
  | h :: HS, k :: HK, p + 1, h', w, e => ⟨w.1, WkL.set (p := p) w.2 (by simpa using e)⟩
section
variable (P : Program) (n : Nat) (w0 : World)
def RK (ops : Array Oper) (m : Nat) (Q : Exit → Act → World → Prop) (order : List (Nat × Bool)) (listed : Array Bool) (K : Env) (HS HK : List PH) : Prop :=
  WkL HS HK → (∀ i s r, order = (i, s) :: r → i < m → HeadInv .any ops m listed) → chk ops m order listed = true → (Region.noSelect ops && tailOK ops m) = true →
  ∀ (a : Act) (w : World), EnvOK n K a → Sat w0 HS w → RAny P ops Q (Sat w0 HK) m order.length listed a w
end
section
variable {P : Program} {n : Nat} {w0 : World} {K : Env} {HS HK : List PH} {Q : Exit → Act → World → Prop} {ops : Array Oper} {m : Nat} {r : List (Nat × Bool)} {listed : Array Bool}
theorem rk_end (h : QS n w0 Q .normal K HS) : RK P n w0 ops m Q [] listed K HS HK := fun _ _ hc _ a w e s => ⟨by simpa [chk] using hc, h a w e s⟩
theorem rk_yield {i : Nat} {oi : Oper} {v : Value} (hi : ops[i]? = some oi) (hy : ∀ a, EnvOK n K a → YieldsIf P ops (Sat w0 HK) oi v a) (hf : fitsK n oi.dst = true)
    (k : RK P n w0 ops m Q r (listed.setIfInBounds i true) (putK oi.dst v K) HS HK) : RK P n w0 ops m Q ((i, true) :: r) listed K HS HK := fun hwk hinv hc ht a w e s => by
  simp only [chk, Bool.and_eq_true, decide_eq_true_eq] at hc
  obtain ⟨⟨⟨him, hr⟩, hfr⟩, hc'⟩ := hc
  have inv := hinv i true r rfl him
  have hr' : i ∈ Region.ready .any ops listed := by simpa using hr
  have ht' := ht
  rw [Bool.and_eq_true] at ht'
  exact rany_first hi (Region.noSelect_spec ht'.1) him ht'.2 _ listed a w inv (Region.free_spec hi hfr) hr' (hy a e) (hwk.sat s)
    (k hwk (fun _ _ _ _ _ => inv.set hr' him) hc' ht _ _ (e.put v hf) s)
theorem rk_v {i : Nat} {oi : Oper} {v : Value} (hi : ops[i]? = some oi) (hw : wantK ops K oi.guard = some true) (hv : StepV P n w0 K HK oi v) (hf : fitsK n oi.dst = true)
    (k : RK P n w0 ops m Q r (listed.setIfInBounds i true) (putK oi.dst v K) HS HK) : RK P n w0 ops m Q ((i, true) :: r) listed K HS HK :=
  rk_yield hi (fun a e => .inl ⟨e.wanted hw, fun w s => hv a w e s⟩) hf k
theorem rk_only {i : Nat} {oi : Oper} (hi : ops[i]? = some oi) (h : (∀ i' s' r', r = (i', s') :: r' → i' < m → i < m) → chk ops m r (listed.setIfInBounds i true) = true → (m ≤ i → ∀ j, j < m → (listed.setIfInBounds i true).getD j false = true) →
      (Region.noSelect ops && tailOK ops m) = true → (i < m → HeadInv .any ops m (listed.setIfInBounds i true)) → WkL HS HK →
      ∀ a w, EnvOK n K a → Sat w0 HS w → wpOp P ops (OnlyN Q) i (fun a' w' => (i < m → Sat w0 HK w') ∧ RAny P ops Q (Sat w0 HK) m r.length (listed.setIfInBounds i true) a' w') a w) :
    RK P n w0 ops m Q ((i, false) :: r) listed K HS HK := fun hwk hinv hc ht a w e s => by
  simp only [chk, Bool.and_eq_true, decide_eq_true_eq, Bool.or_eq_true, List.all_eq_true, List.mem_range] at hc
  obtain ⟨⟨hr, hd⟩, hc'⟩ := hc
  have hmem : i ∈ Region.ready .any ops listed := by rw [hr]; simp
  refine ⟨fun h0 => (by rw [hr] at h0; cases h0), fun j hj => ?_⟩
  rw [hr] at hj
  have : j = i := by simpa using hj
  subst this
  refine h (fun i' s' r' e' hlt => ?_) hc' (fun hmi j' hj' => ?_) ht (fun him => (hinv j false r rfl him).set hmem him) hwk a w e s
  · rcases hd with hd | hd
    · exact hd
    · have := hd.2 (i', s') (by rw [e']; simp)
      simp only at this
      omega
  · rcases hd with hd | hd
    · omega
    · exact getD_set_true (hd.1 j' hj')
theorem rk_fv {i : Nat} {oi : Oper} {v : Value} (hi : ops[i]? = some oi) (hw : wantK ops K oi.guard = some true) (hv : StepV P n w0 K HS oi v) (hf : fitsK n oi.dst = true)
    (k : RK P n w0 ops m Q r (listed.setIfInBounds i true) (putK oi.dst v K) HS HK) : RK P n w0 ops m Q ((i, false) :: r) listed K HS HK :=
  rk_only hi fun h1 h2 _ h4 h5 hwk a w e s => by
    have hy : YieldsIf P ops (Sat w0 HS) oi v a := .inl ⟨e.wanted hw, fun w s => hv a w e s⟩
    exact hy.wpOp hi s ⟨fun _ => hwk.sat s, k hwk (fun i' s' r' e' hlt => h5 (h1 i' s' r' e' hlt)) h2 h4 _ _ (e.put v hf) s⟩
theorem rk_x {i : Nat} {oi : Oper} {T : Value → PH → Prop} (hi : ops[i]? = some oi) (hw : wantK ops K oi.guard = some true) (hx : StepX P n w0 K HS oi emp T) (hf : fitsK n oi.dst = true)
    (k : ∀ v h', T v h' → RK P n w0 ops m Q r (listed.setIfInBounds i true) (putK oi.dst v K) (h' :: HS) (h' :: HK)) : RK P n w0 ops m Q ((i, false) :: r) listed K HS HK :=
  rk_only hi fun h1 h2 _ h4 h5 hwk a w e s => by
    unfold wpOp
    simp only [hi]
    rw [if_pos (e.wanted hw)]
    refine .inl (Oper.wp_imp (hx a w e s) (fun a' w' ⟨v, h', ha, u, ht⟩ => ?_) (fun _ _ _ f => f.elim))
    subst ha
    exact ⟨fun _ => hwk.sat (s.same u), rany_mono (fun _ t => t.drop) _ _ _ _ (k v h' ht ⟨.inl rfl, hwk⟩ (fun i' s' r' e' hlt => h5 (h1 i' s' r' e' hlt)) h2 h4 _ _ (e.put v hf) (s.new u))⟩
theorem rk_u {i : Nat} {oi : Oper} {u : Value} (hi : ops[i]? = some oi) (hw : wantK ops K oi.guard = some true) (hx : StepX P n w0 K HS oi emp (fun v _ => v = u)) (hf : fitsK n oi.dst = true)
    (k : RK P n w0 ops m Q r (listed.setIfInBounds i true) (putK oi.dst u K) HS HK) : RK P n w0 ops m Q ((i, false) :: r) listed K HS HK :=
  rk_only hi fun h1 h2 _ h4 h5 hwk a w e s => by
    unfold wpOp
    simp only [hi]
    rw [if_pos (e.wanted hw)]
    refine .inl (Oper.wp_imp (hx a w e s) (fun a' w' ⟨v, h', ha, up, ht⟩ => ?_) (fun _ _ _ f => f.elim))
    subst ha
    subst ht
    exact ⟨fun _ => hwk.sat (s.same up), k hwk (fun i' s' r' e' hlt => h5 (h1 i' s' r' e' hlt)) h2 h4 _ _ (e.put _ hf) (s.same up)⟩
/-- Ahead of the tail or in it: a part that nothing hoisted looks at is turned. -/
theorem rk_m {i : Nat} {oi : Oper} (p : Nat) {h : PH} {T : Value → PH → Prop} (hi : ops[i]? = some oi) (hb : HK[p]? = some emp) (hw : wantK ops K oi.guard = some true) (hp : HS[p]? = some h) (hx : StepX P n w0 K HS oi h T) (hf : fitsK n oi.dst = true)
    (k : ∀ v h', T v h' → RK P n w0 ops m Q r (listed.setIfInBounds i true) (putK oi.dst v K) (HS.set p h') HK) : RK P n w0 ops m Q ((i, false) :: r) listed K HS HK :=
  rk_only hi fun h1 h2 _ h4 h5 hwk a w e s => by
    unfold wpOp
    simp only [hi]
    rw [if_pos (e.wanted hw)]
    refine .inl (Oper.wp_imp (hx a w e s) (fun a' w' ⟨v, h', ha, u, ht⟩ => ?_) (fun _ _ _ f => f.elim))
    subst ha
    have hwk' : WkL (HS.set p h') HK := hwk.set hb
    exact ⟨fun _ => hwk'.sat (s.upd hp u), k v h' ht hwk' (fun i' s' r' e' hlt => h5 (h1 i' s' r' e' hlt)) h2 h4 _ _ (e.put v hf) (s.upd hp u)⟩
end
end Go.Proofs.Ytikeobneipjfnaa
namespace Go.Proofs.Ytikeobneipjfnaa
set_option maxRecDepth 100000
open Go.RowKit
structure Stp where
  a : Int
  b : Int
def stepCells (ss : List Stp) : List Value := ss.flatMap fun s => [num s.a, num s.b]
theorem stepCells_at : ∀ {ss : List Stp} {i : Nat} {s : Stp}, ss[i]? = some s → ((stepCells ss).drop (i * 2)).take 2 = [num s.a, num s.b]
  | [], i, s, h => by simp at h
  | u :: r, 0, s, h => by cases h; rfl
  | u :: r, i + 1, s, h => by
    have ih := stepCells_at (ss := r) (i := i) (s := s) (by simpa using h)
    rw [show (i + 1) * 2 = i * 2 + 1 + 1 by omega]
    exact ih
def StepsR (ss : List Stp) (v : Value) (h : PH) : Prop := RowR (stepCells ss) ss.length 2 v h
def StepsO (ss : List Stp) (v : Value) (h : PH) : Prop := RowO 114 (stepCells ss) ss.length 2 v h
theorem StepsR.mono {ss : List Stp} {v : Value} {h h' : PH} (r : StepsR ss v h) (l : PLe h h') : StepsR ss v h' := RowR.mono r l
theorem StepsO.toR {ss : List Stp} {v : Value} {h : PH} (r : StepsO ss v h) : StepsR ss v h := RowO.toR r
theorem StepsR.sl {ss : List Stp} {v : Value} {h : PH} (r : StepsR ss v h) : SlL v ss.length := RowR.sl r
theorem StepsR.le {ss : List Stp} {v : Value} {h : PH} (r : StepsR ss v h) : (ss.length : Int) ≤ 9223372036854775807 := by
  obtain ⟨_, a, c, _, ⟨h, _⟩, _⟩ := r
  unfold maxLen at h
  omega
theorem StepsR.at {ss : List Stp} {v : Value} {h : PH} (r : StepsR ss v h) : ∃ cells, RowR cells ss.length 2 v h ∧ ∀ i, i < ss.length → ∃ x, ss[i]? = some x ∧ (cells.drop (i * 2)).take 2 = [num x.a, num x.b] :=
  ⟨_, r, fun _ hi => ⟨_, List.getElem?_eq_getElem hi, stepCells_at (List.getElem?_eq_getElem hi)⟩⟩
theorem StepsO.nil : StepsO [] (.slice none 0 0) emp := ⟨rfl, .inl ⟨rfl, rfl, rfl⟩⟩
section
variable {P : Program} {n : Nat} {w0 : World} {K : Env} {HS : List PH} {d : Option Tmp} {ty : TypeId} {ps : String} {af : Array Edge} {g : Option (Nat × Bool)}
end
structure Lv where
  n : Int
  l : List Int
def LvR (x : Lv) (cs : List Value) (h : PH) : Prop := ∃ v, cs = [num x.n, v] ∧ IntsR x.l v h
theorem LvR.mono {x : Lv} {cs : List Value} {h h' : PH} (r : LvR x cs h) (l : PLe h h') : LvR x cs h' := let ⟨v, e, r⟩ := r; ⟨v, e, r.mono l⟩
def LiveR (xs : List Lv) (v : Value) (h : PH) : Prop := RowsR 2 LvR xs v h
theorem LiveR.mono {xs : List Lv} {v : Value} {h h' : PH} (r : LiveR xs v h) (l : PLe h h') : LiveR xs v h' := RowsR.mono (R := LvR) LvR.mono r l
theorem LiveR.sl {xs : List Lv} {v : Value} {h : PH} (r : LiveR xs v h) : SlL v xs.length := RowsR.sl r
theorem LiveR.le {xs : List Lv} {v : Value} {h : PH} (r : LiveR xs v h) : (xs.length : Int) ≤ 9223372036854775807 := RowsR.le r
theorem LiveR.at {xs : List Lv} {v : Value} {h : PH} (r : LiveR xs v h) : ∃ cells, RowR cells xs.length 2 v h ∧ ∀ i, i < xs.length → ∃ x a, xs[i]? = some x ∧ (cells.drop (i * 2)).take 2 = [num x.n, a] ∧ IntsR x.l a h := by
  obtain ⟨cells, rr, hc⟩ := r
  refine ⟨cells, rr, fun i hi => ?_⟩
  have ht : xs[i]? = some xs[i] := List.getElem?_eq_getElem hi
  obtain ⟨a, e, r1⟩ := hc i _ ht
  exact ⟨_, a, ht, e, r1⟩
/-- The elements' cells, read in h. -/
def LvL (xs : List Lv) (cs : List Value) (h : PH) : Prop := cs.length = xs.length * 2 ∧ ∀ (i : Nat) (x : Lv), xs[i]? = some x → LvR x ((cs.drop (i * 2)).take 2) h
theorem LvL.nil (h : PH) : LvL [] [] h := ⟨rfl, fun i x e => by simp at e⟩
theorem LvL.mono {xs : List Lv} {cs : List Value} {h h' : PH} (r : LvL xs cs h) (l : PLe h h') : LvL xs cs h' := ⟨r.1, fun i x e => (r.2 i x e).mono l⟩
theorem LvL.snoc {xs : List Lv} {cs : List Value} {h : PH} (r : LvL xs cs h) {x : Lv} {a : Value} (r1 : IntsR x.l a h) : LvL (xs ++ [x]) (cs ++ [num x.n, a]) h := by
  refine ⟨by simp [r.1]; omega, fun i y e => ?_⟩
  by_cases hi : i < xs.length
  · rw [List.getElem?_append_left hi] at e
    have := r.2 i y e
    have e2 : ((cs ++ [num x.n, a]).drop (i * 2)).take 2 = (cs.drop (i * 2)).take 2 := by
      rw [List.drop_append, List.take_append]
      have hl : 2 - (cs.drop (i * 2)).length = 0 := by simp [r.1]; omega
      rw [hl, List.take_zero, List.append_nil]
    rw [e2]; exact this
  · have hlt := (List.getElem?_eq_some_iff.1 e).1
    simp at hlt
    have : i = xs.length := by omega
    subst this
    rw [List.getElem?_append_right (by omega)] at e
    simp at e
    subst e
    have e2 : ((cs ++ [num x.n, a]).drop (xs.length * 2)).take 2 = [num x.n, a] := by
      rw [← r.1, List.drop_left]; rfl
    rw [e2]
    exact ⟨a, rfl, r1⟩
theorem LvL.live {xs : List Lv} {cs : List Value} {v : Value} {h : PH} (r : LvL xs cs h) (rr : RowR cs xs.length 2 v h) : LiveR xs v h := ⟨cs, rr, r.2⟩
def joinI (a b : List Int) : List Int := a ++ b.filter fun x => decide (x ∉ a)
structure Sh where
  all : List (List Int)
  gone : List Bool
def Sh.lab (s : Sh) (i : Nat) : List Int := s.all.getD i []
def Sh.ok (s : Sh) : Prop := s.gone.length = s.all.length
def Sh.live (s : Sh) (a : Int) : Prop := 0 ≤ a ∧ a < s.all.length ∧ s.gone.getD a.toNat false = false
def Sh.ixs (s : Sh) : List Nat := (List.range s.all.length).filter fun i => !s.gone.getD i false
def Sh.lv (s : Sh) : List Lv := s.ixs.map fun (i : Nat) => ⟨i, s.lab i⟩
def Sh.kept (op : List Int) (s : Sh) (a b : Nat) (x : Int) : Prop := x ∈ op ∨ ∃ i ∈ s.ixs, i ≠ a ∧ i ≠ b ∧ x ∈ s.lab i
open Classical in
noncomputable def Sh.res (op : List Int) (s : Sh) (a b : Nat) : List Int := (joinI (s.lab a) (s.lab b)).filter fun x => decide (s.kept op a b x)
noncomputable def Sh.step (op : List Int) (s : Sh) (a b : Nat) : Sh := ⟨s.all ++ [s.res op a b], ((s.gone.set a true).set b true) ++ [false]⟩
/-- The place of a number among what is live. -/
def Sh.place (s : Sh) (a : Int) : Int := findI (s.ixs.map Int.ofNat) a
end Go.Proofs.Ytikeobneipjfnaa
namespace Go.Proofs.Ytikeobneipjfnaa
set_option maxRecDepth 100000
open Go.RowKit
abbrev stCells (arr : List Int) (vo lvv : Value) (nx : Int) : List Value := ints arr ++ [vo, lvv, num nx]
theorem pre_get {xs : List Int} {cs : List Value} {u : Value} (h : xs.length = 100) (j : Nat) (hj : cs[j]? = some u) : (ints xs ++ cs)[100 + j]? = some u := by
  rw [List.getElem?_append_right (by rw [ints_length]; omega), ints_length, h, Nat.add_sub_cancel_left]; exact hj
section
variable {P : Program} {n : Nat} {w0 : World} {K : Env} {HS : List PH} {d : Option Tmp} {ty : TypeId} {ps : String} {af : Array Edge} {g : Option (Nat × Bool)}
end
/-- The state as it is read. -/
structure StR (arr : List Int) (vo lvv : Value) (s : Sh) (b : Nat) (h : PH) : Prop where
  len : arr.length = 100
  ok : s.ok
  cells : ∀ (j : Nat) (u : Value), (stCells arr vo lvv s.all.length)[j]? = some u → cellP h b j = some u
  live : LiveR s.lv lvv h
theorem StR.mono {arr : List Int} {vo lvv : Value} {s : Sh} {b : Nat} {h h' : PH} (r : StR arr vo lvv s b h) (l : PLe h h') : StR arr vo lvv s b h' := ⟨r.len, r.ok, fun j u e => cellP.mono l (r.cells j u e), r.live.mono l⟩
theorem StR.c100 {arr : List Int} {vo lvv : Value} {s : Sh} {b : Nat} {h : PH} (r : StR arr vo lvv s b h) : cellP h b 100 = some vo := r.cells 100 _ (pre_get r.len 0 rfl)
theorem StR.arr {arr : List Int} {vo lvv : Value} {s : Sh} {b : Nat} {h : PH} (r : StR arr vo lvv s b h) : (ints arr).length = 100 ∧ ∀ (j : Nat) (u : Value), (ints arr)[j]? = some u → cellP h b (0 + 0 + j) = some u :=
  ⟨by rw [ints_length]; exact r.len, fun j u e => by
    rw [show 0 + 0 + j = j by omega]
    refine r.cells j u ?_
    rw [List.getElem?_append_left (List.getElem?_eq_some_iff.1 e).1]; exact e⟩
/-- The state that a call has for its own; 'hs' is what its slices lie in. -/
def StO (arr : List Int) (vo : Value) (s : Sh) (b : Nat) (h : PH) : Prop := arr.length = 100 ∧ s.ok ∧ ∃ lvv hs, LiveR s.lv lvv hs ∧ Made h [box b (stCells arr vo lvv s.all.length) 216, hs]
theorem StR.box {arr : List Int} {vo lvv : Value} {s : Sh} {b : Nat} {h : PH} (hl : arr.length = 100) (hok : s.ok) (hb : PLe (box b (stCells arr vo lvv s.all.length) 216) h) (r : LiveR s.lv lvv h) : StR arr vo lvv s b h :=
  ⟨hl, hok, fun j u e => cellP.mono hb (by rw [cellP_box]; exact e), r⟩
theorem StO.toR {arr : List Int} {vo : Value} {s : Sh} {b : Nat} {h : PH} (r : StO arr vo s b h) : ∃ lvv, StR arr vo lvv s b h := by
  obtain ⟨h1, h2, lvv, hs, h3, md⟩ := r
  exact ⟨lvv, StR.box h1 h2 (md.le _ (by simp)) (h3.mono (md.le hs (by simp)))⟩
end Go.Proofs.Ytikeobneipjfnaa
namespace Go.Proofs.Ytikeobneipjfnaa
set_option maxRecDepth 100000
open Go.RowKit
theorem RowO.nil {e : TypeId} {sz : Nat} : RowO e [] 0 sz (.slice none 0 0) emp := ⟨by simp, .inl ⟨rfl, rfl, rfl⟩⟩
end Go.Proofs.Ytikeobneipjfnaa
namespace Go.Proofs.Ytikeobneipjfnaa
set_option maxRecDepth 100000
open Go.RowKit
theorem Made.un {a b : PH} {la lb : List PH} (ma : Made a la) (mb : Made b lb) (hd : PDj a b) : Made (PUn a b) (la ++ lb) := by
  refine ⟨sepL_append.2 ⟨ma.sep, mb.sep, fun x hx y hy => (((hd.mono (ma.le x hx)).symm).mono (mb.le y hy)).symm⟩, fun x hx => ?_, fun k o e => ?_⟩
  · rcases List.mem_append.1 hx with hx | hx
    · exact (ma.le x hx).trans (PLe.un_l _ _)
    · exact (mb.le x hx).trans (PLe.un_r hd)
  · unfold PUn at e
    split at e
    · rename_i y hy
      cases e
      obtain ⟨x, hx, hxe⟩ := ma.dom k _ hy
      exact ⟨x, by simp [hx], hxe⟩
    · obtain ⟨x, hx, hxe⟩ := mb.dom k _ e
      exact ⟨x, by simp [hx], hxe⟩
/-- Slices that own their cells, all in one part. -/
def OwnH (xss : List (List Int)) (vs : List Value) (h : PH) : Prop := ∃ l, OwnL xss vs l ∧ Made h l
theorem OwnH.nil : OwnH [] [] emp := ⟨[], OwnL.nil, ⟨trivial, fun x hx => by simp at hx, fun k o e => by cases e⟩⟩
theorem OwnH.snoc {ts : List Ten} {t : Ten} {vs : List Value} {a b c : Value} {h h' : PH} (o : OwnH (flat ts) vs h) (r : TriO t a b c h') (hd : PDj h h') : OwnH (flat (ts ++ [t])) (vs ++ [a, b, c]) (PUn h h') := by
  obtain ⟨l, ol, m⟩ := o
  obtain ⟨h1, h2, h3, r1, r2, r3, m'⟩ := r
  refine ⟨l ++ [h1, h2, h3], ?_, m.un m' hd⟩
  rw [flat_append]
  exact ol.append (OwnL.three r1 r2 r3)
theorem ten_len {k p n : Int} {t : Ten} (h : tensorL k p n t.l t.d t.x) : t.l.length ≤ 12 ∧ t.d.length ≤ 12 ∧ t.x.length ≤ 17592186044416 := by
  have hax := tensor_axes h
  have h1 := prodI_one fun d hd => (dims_mem (axes_dims hax) d hd).1
  have := elt_fits h (i := 0) (by omega)
  exact ⟨hax.1, by have := hax.2.1; have := hax.1; omega, this.2⟩
end Go.Proofs.Ytikeobneipjfnaa
namespace Go.Proofs.Ytikeobneipjfnaa
set_option maxRecDepth 100000
open Go.RowKit
/-- A network and whether there is one. -/
def NetB (k p n : Int) (ts : List Ten) (op : List Int) (b : Bool) (x : Value) (h : PH) : Prop := ∃ vt vo, x = .tuple [netV k p n vt vo, .bool b].toArray ∧ NetO ts op vt vo h
def TenB (t : Ten) (b : Bool) (x : Value) (h : PH) : Prop := ∃ va vb vc, x = .tuple [tenV va vb vc, .bool b].toArray ∧ TriO t va vb vc h
end Go.Proofs.Ytikeobneipjfnaa
namespace Go.Proofs.Ytikeobneipjfnaa
set_option maxRecDepth 100000
open Go.RowKit
section
variable (P : Program) (n : Nat) (w0 : World)
def RAK (ops : Array Oper) (m : Nat) (Q : Exit → Act → World → Prop) (f : Nat) (listed : Array Bool) (K : Env) (HS HK : List PH) : Prop :=
  WkL HS HK → HeadInv .any ops m listed → (Region.noSelect ops && tailOK ops m) = true → ∀ (a : Act) (w : World), EnvOK n K a → Sat w0 HS w → RAny P ops Q (Sat w0 HK) m f listed a w
def ROK (ops : Array Oper) (m : Nat) (Q : Exit → Act → World → Prop) (f : Nat) (i : Nat) (listed : Array Bool) (K : Env) (HS HK : List PH) : Prop :=
  WkL HS HK → HeadInv .any ops m (listed.setIfInBounds i true) → (Region.noSelect ops && tailOK ops m) = true → ∀ (a : Act) (w : World), EnvOK n K a → Sat w0 HS w →
    wpOp P ops (OnlyN Q) i (fun a' w' => (i < m → Sat w0 HK w') ∧ RAny P ops Q (Sat w0 HK) m f (listed.setIfInBounds i true) a' w') a w
end
section
variable {P : Program} {n : Nat} {w0 : World} {K : Env} {HS HK : List PH} {Q : Exit → Act → World → Prop} {ops : Array Oper} {m f : Nat} {listed : Array Bool}
theorem rak_of (h : RAK P n w0 ops m Q f listed K HS HS) : RA P n w0 ops m Q f listed K HS := fun inv ht a w e s => h (WkL.refl HS) inv ht a w e s
theorem rak_yield {i : Nat} {oi : Oper} {v : Value} (hc : (decide (i < m) && (Region.ready .any ops listed).contains i && Region.free .any ops listed i) = true) (hi : ops[i]? = some oi) (hy : ∀ a, EnvOK n K a → YieldsIf P ops (Sat w0 HK) oi v a) (hf : fitsK n oi.dst = true)
    (k : RAK P n w0 ops m Q f (listed.setIfInBounds i true) (putK oi.dst v K) HS HK) : RAK P n w0 ops m Q (f + 1) listed K HS HK := fun hwk inv ht a w e s => by
  simp only [Bool.and_eq_true, decide_eq_true_eq] at hc
  obtain ⟨⟨him, hr⟩, hfr⟩ := hc
  have hr' : i ∈ Region.ready .any ops listed := by simpa using hr
  have ht' := ht
  rw [Bool.and_eq_true] at ht'
  exact rany_first hi (Region.noSelect_spec ht'.1) him ht'.2 _ listed a w inv (Region.free_spec hi hfr) hr' (hy a e) (hwk.sat s)
    (k hwk (inv.set hr' him) ht _ _ (e.put v hf) s)
theorem rak_v {i : Nat} {oi : Oper} {v : Value} (hc : (decide (i < m) && (Region.ready .any ops listed).contains i && Region.free .any ops listed i) = true) (hi : ops[i]? = some oi) (hw : wantK ops K oi.guard = some true) (hv : StepV P n w0 K HK oi v) (hf : fitsK n oi.dst = true)
    (k : RAK P n w0 ops m Q f (listed.setIfInBounds i true) (putK oi.dst v K) HS HK) : RAK P n w0 ops m Q (f + 1) listed K HS HK :=
  rak_yield hc hi (fun a e => .inl ⟨e.wanted hw, fun w s => hv a w e s⟩) hf k
theorem rak_alts {l : List Nat} (hc : (decide (Region.ready .any ops listed = l) && (l.all fun i => decide (i < m)) && !l.isEmpty) = true) (k : ∀ i ∈ l, ROK P n w0 ops m Q f i listed K HS HK) : RAK P n w0 ops m Q (f + 1) listed K HS HK := fun hwk inv ht a w e s => by
  simp only [Bool.and_eq_true, decide_eq_true_eq, List.all_eq_true, Bool.not_eq_true'] at hc
  obtain ⟨⟨hr, hm⟩, hne⟩ := hc
  refine ⟨fun h0 => (by rw [hr] at h0; rw [h0] at hne; cases hne), fun j hj => ?_⟩
  have hj' := hj
  rw [hr] at hj
  exact k j hj hwk (inv.set hj' (hm j hj)) ht a w e s
theorem rak_2 {i j : Nat} (hc : (decide (Region.ready .any ops listed = [i, j]) && ([i, j].all fun i => decide (i < m)) && !([i, j] : List Nat).isEmpty) = true) (k1 : ROK P n w0 ops m Q f i listed K HS HK) (k2 : ROK P n w0 ops m Q f j listed K HS HK) : RAK P n w0 ops m Q (f + 1) listed K HS HK :=
  rak_alts hc (fun x hx => by simp only [List.mem_cons, List.not_mem_nil, or_false] at hx; rcases hx with rfl | rfl <;> assumption)
theorem rok_x {i : Nat} {oi : Oper} {T : Value → PH → Prop} (hi : ops[i]? = some oi) (hw : wantK ops K oi.guard = some true) (hx : StepX P n w0 K HS oi emp T) (hf : fitsK n oi.dst = true)
    (k : ∀ v h', T v h' → RAK P n w0 ops m Q f (listed.setIfInBounds i true) (putK oi.dst v K) (h' :: HS) (h' :: HK)) : ROK P n w0 ops m Q f i listed K HS HK := fun hwk inv ht a w e s => by
  unfold wpOp
  simp only [hi]
  rw [if_pos (e.wanted hw)]
  refine .inl (Oper.wp_imp (hx a w e s) (fun a' w' ⟨v, h', ha, u, ht'⟩ => ?_) (fun _ _ _ f => f.elim))
  subst ha
  exact ⟨fun _ => hwk.sat (s.same u), rany_mono (fun _ t => t.drop) _ _ _ _ (k v h' ht' ⟨.inl rfl, hwk⟩ inv ht _ _ (e.put v hf) (s.new u))⟩
/-- What is made here may be turned ahead of the tail: nothing hoisted looks at it. -/
theorem rok_xb {i : Nat} {oi : Oper} {T : Value → PH → Prop} (hi : ops[i]? = some oi) (hw : wantK ops K oi.guard = some true) (hx : StepX P n w0 K HS oi emp T) (hf : fitsK n oi.dst = true)
    (k : ∀ v h', T v h' → RAK P n w0 ops m Q f (listed.setIfInBounds i true) (putK oi.dst v K) (h' :: HS) (emp :: HK)) : ROK P n w0 ops m Q f i listed K HS HK := fun hwk inv ht a w e s => by
  unfold wpOp
  simp only [hi]
  rw [if_pos (e.wanted hw)]
  refine .inl (Oper.wp_imp (hx a w e s) (fun a' w' ⟨v, h', ha, u, ht'⟩ => ?_) (fun _ _ _ f => f.elim))
  subst ha
  exact ⟨fun _ => hwk.sat (s.same u), rany_mono (fun _ t => t.drop) _ _ _ _ (k v h' ht' ⟨.inr rfl, hwk⟩ inv ht _ _ (e.put v hf) (s.new u))⟩
theorem rok_u {i : Nat} {oi : Oper} {u : Value} (hi : ops[i]? = some oi) (hw : wantK ops K oi.guard = some true) (hx : StepX P n w0 K HS oi emp (fun v _ => v = u)) (hf : fitsK n oi.dst = true)
    (k : RAK P n w0 ops m Q f (listed.setIfInBounds i true) (putK oi.dst u K) HS HK) : ROK P n w0 ops m Q f i listed K HS HK := fun hwk inv ht a w e s => by
  unfold wpOp
  simp only [hi]
  rw [if_pos (e.wanted hw)]
  refine .inl (Oper.wp_imp (hx a w e s) (fun a' w' ⟨v, h', ha, up, ht'⟩ => ?_) (fun _ _ _ f => f.elim))
  subst ha
  subst ht'
  exact ⟨fun _ => hwk.sat (s.same up), k hwk inv ht _ _ (e.put _ hf) (s.same up)⟩
theorem rk_xb {r : List (Nat × Bool)} {i : Nat} {oi : Oper} {T : Value → PH → Prop} (hi : ops[i]? = some oi) (hw : wantK ops K oi.guard = some true) (hx : StepX P n w0 K HS oi emp T) (hf : fitsK n oi.dst = true)
    (k : ∀ v h', T v h' → RK P n w0 ops m Q r (listed.setIfInBounds i true) (putK oi.dst v K) (h' :: HS) (emp :: HK)) : RK P n w0 ops m Q ((i, false) :: r) listed K HS HK :=
  rk_only hi fun h1 h2 _ h4 h5 hwk a w e s => by
    unfold wpOp
    simp only [hi]
    rw [if_pos (e.wanted hw)]
    refine .inl (Oper.wp_imp (hx a w e s) (fun a' w' ⟨v, h', ha, u, ht⟩ => ?_) (fun _ _ _ f => f.elim))
    subst ha
    exact ⟨fun _ => hwk.sat (s.same u), rany_mono (fun _ t => t.drop) _ _ _ _ (k v h' ht ⟨.inr rfl, hwk⟩ (fun i' s' r' e' hlt => h5 (h1 i' s' r' e' hlt)) h2 h4 _ _ (e.put v hf) (s.new u))⟩
theorem rak_rk (order : List (Nat × Bool)) (hc : chk ops m order listed = true) (hl : f = order.length) (h : RK P n w0 ops m Q order listed K HS HK) : RAK P n w0 ops m Q f listed K HS HK := fun hwk inv ht a w e s => by
  rw [hl]
  exact h hwk (fun _ _ _ _ _ => inv) hc ht a w e s
end
end Go.Proofs.Ytikeobneipjfnaa
namespace Go.Proofs.Ytikeobneipjfnaa
set_option maxRecDepth 100000
open Go.RowKit
def mapX (k p n k' p' n' h a : Int) (x : List Int) (m : Nat) : List Int := (List.range m).flatMap fun (i : Nat) => homM k n k' p' n' h a p (elt x (widthI k n) i)
def mapT (k p n k' p' n' h a : Int) (t : Ten) : Ten := ⟨t.l, t.d, mapX k p n k' p' n' h a t.x (prodI t.d).toNat⟩
theorem mapX_step (k p n k' p' n' h a : Int) (x : List Int) (m : Nat) : mapX k p n k' p' n' h a x (m + 1) = mapX k p n k' p' n' h a x m ++ homM k n k' p' n' h a p (elt x (widthI k n) m) := by simp [mapX, List.range_succ]
theorem mapX_len {k p n k' p' n' h a : Int} {t : Ten} (hh : homL k p n k' p' n' h a) (ht : tensorL k p n t.l t.d t.x) : ∀ m : Nat, m ≤ (prodI t.d).toNat → (mapX k p n k' p' n' h a t.x m).length ≤ 6 * m
  | 0, _ => by simp [mapX]
  | m + 1, hm => by
    have ih := mapX_len hh ht m (by omega)
    have := homM_len hh (elt_inR ht (i := m) (by omega) (by omega))
    rw [mapX_step, List.length_append]
    omega
set_option maxHeartbeats 2000000 in
theorem ct_s_l07Map (k p n k' p' n' h a : Int) (t : Ten) (x y z : Value) (w : World) (r1 : IntsR t.l x (hp w)) (r2 : IntsR t.d y (hp w)) (r3 : IntsR t.x z (hp w)) (hh : homL k p n k' p' n' h a) (ht : tensorL k p n t.l t.d t.x) :
    Calls Try.prog 89 [ringV k p n, ringV k' p' n', homV h a, tenV x y z].toArray w (Ret w emp (TenT (mapT k p n k' p' n' h a t))) := by
  have htl := ten_len ht
  have htp := (sizeI_ge.1 ht.2.1).2
  have hdi := axes_dims (tensor_axes ht)
  have hp1 := prodI_one fun d hd => (dims_mem hdi d hd).1
  have hring := hh.1
  have hwr := width_range hring
  refine calls_in Try.func89 rfl Try.ntmps89 rfl (Sat.start w) ?_
  have hle0 := r1.le
  have hle1 := r2.le
  have hle2 := r3.le
  refine wp_sc ?_
  refine wp_sq ?_
  refine sq_x rfl (x_box rfl rfl) rfl ?_; rintro _ _ ⟨b4, rfl, rfl⟩
  refine sq_x rfl (x_box rfl rfl) rfl ?_; rintro _ _ ⟨b5, rfl, rfl⟩
  refine sq_x rfl (x_box rfl rfl) rfl ?_; rintro _ _ ⟨b6, rfl, rfl⟩
  refine sq_x rfl (x_box rfl rfl) rfl ?_; rintro _ _ ⟨b7, rfl, rfl⟩
  refine sq_x rfl (x_alloc ty_28 rfl) rfl ?_; rintro _ _ ⟨b8, rfl, rfl⟩
  refine sq_end ?_
  refine qs_n ?_
  refine wp_sc ?_
  refine wp_ra (σ := Nat × PH × Value × PH × Value) 8 (fun z_ => IntsO t.l z_.2.2.2.2 z_.2.2.2.1 ∧ IntsO t.d z_.2.2.1 z_.2.1) (fun z_ => [(4, .pointer (some ⟨b4, 0, none⟩)), (5, .pointer (some ⟨b5, 0, none⟩)), (6, .pointer (some ⟨b6, 0, none⟩)), (7, .pointer (some ⟨b7, 0, none⟩)), (8, .pointer (some ⟨b8, 0, none⟩)), (9, .pointer (some ⟨z_.1, 0, none⟩))]) (fun z_ => [box z_.1 [z_.2.2.2.2, z_.2.2.1, .slice none 0 0] 28, z_.2.1, z_.2.2.2.1, box b8 [.slice none 0 0, .slice none 0 0, .slice none 0 0] 28, box b7 [x, y, z] 28, box b6 [num h, num a] 59, box b5 [num k', num p', num n'] 30, box b4 [num k, num p, num n] 30, hp w]) mixed_ok (by kernel_rfl) ?_ ?_
  · refine ra_v (i := 0) (by kernel_rfl) rfl rfl (v_fieldAddr fd_28_0 ty_24 (by decide) rfl) rfl ?_
    refine ra_v (i := 1) (by kernel_rfl) rfl rfl (v_loadB 1 ty_24 rfl rfl rfl) rfl ?_
    refine ra_v (i := 3) (by kernel_rfl) rfl rfl (v_fieldAddr fd_28_1 ty_24 (by decide) rfl) rfl ?_
    refine ra_v (i := 4) (by kernel_rfl) rfl rfl (v_loadB 1 ty_24 rfl rfl rfl) rfl ?_
    refine ra_2 (i := 2) (j := 7) (by kernel_rfl) ?_ ?_
    · refine ro_x rfl rfl (x_call rfl en_88 (fun w s => ct_s_l05Ints _ _ w (r1.mono (s.get 5 rfl)) (by first | assumption | omega))) rfl ?_; rintro v13 h13 r13
      refine ra_2 (i := 5) (j := 7) (by kernel_rfl) ?_ ?_
      · refine ro_x rfl rfl (x_call rfl en_88 (fun w s => ct_s_l05Ints _ _ w (r2.mono (s.get 6 rfl)) (by first | assumption | omega))) rfl ?_; rintro v16 h16 r16
        refine ra_rj [(6, true), (7, false), (8, false)] (by kernel_rfl) rfl ?_
        refine rj_v rfl rfl (v_build [v13, v16, .slice none 0 0] rfl (by obtain ⟨_, _, rfl⟩ := r13.toR.sl; obtain ⟨_, _, rfl⟩ := r16.toR.sl; kernel_rfl)) rfl ?_
        refine rj_x rfl rfl (x_alloc ty_28 rfl) rfl ?_; rintro _ _ ⟨b9, rfl, rfl⟩
        refine rj_m 0 rfl rfl rfl rfl (m_store 0 ty_28 rfl rfl rfl rfl (by simp [r13.toR.sl.one, r16.toR.sl.one, one_sl]) rfl (Nat.le_of_ble_eq_true rfl)) rfl ?_; rintro _ _ ⟨rfl, rfl⟩
        refine rj_end ?_
        exact qs_mid (b9, h16, v16, h13, v13) ⟨r13, r16⟩ ⟨rfl, rfl, rfl, rfl, rfl, rfl, trivial⟩ (fun _ s => s.pick [0, 1, 2, 3, 4, 5, 6, 7, 8] (by decide) rfl)
      · refine ro_x rfl rfl (x_alloc ty_28 rfl) rfl ?_; rintro _ _ ⟨b9, rfl, rfl⟩
        refine ra_rj [(5, false), (6, true), (8, false)] (by kernel_rfl) rfl ?_
        refine rj_x rfl rfl (x_call rfl en_88 (fun w s => ct_s_l05Ints _ _ w (r2.mono (s.get 7 rfl)) (by first | assumption | omega))) rfl ?_; rintro v16 h16 r16
        refine rj_v rfl rfl (v_build [v13, v16, .slice none 0 0] rfl (by obtain ⟨_, _, rfl⟩ := r13.toR.sl; obtain ⟨_, _, rfl⟩ := r16.toR.sl; kernel_rfl)) rfl ?_
        refine rj_m 1 rfl rfl rfl rfl (m_store 1 ty_28 rfl rfl rfl rfl (by simp [r13.toR.sl.one, r16.toR.sl.one, one_sl]) rfl (Nat.le_of_ble_eq_true rfl)) rfl ?_; rintro _ _ ⟨rfl, rfl⟩
        refine rj_end ?_
        exact qs_mid (b9, h16, v16, h13, v13) ⟨r13, r16⟩ ⟨rfl, rfl, rfl, rfl, rfl, rfl, trivial⟩ (fun _ s => s.pick [1, 0, 2, 3, 4, 5, 6, 7, 8] (by decide) rfl)
    · refine ro_x rfl rfl (x_alloc ty_28 rfl) rfl ?_; rintro _ _ ⟨b9, rfl, rfl⟩
      refine ra_rj [(2, false), (5, false), (6, true), (8, false)] (by kernel_rfl) rfl ?_
      refine rj_x rfl rfl (x_call rfl en_88 (fun w s => ct_s_l05Ints _ _ w (r1.mono (s.get 6 rfl)) (by first | assumption | omega))) rfl ?_; rintro v13 h13 r13
      refine rj_x rfl rfl (x_call rfl en_88 (fun w s => ct_s_l05Ints _ _ w (r2.mono (s.get 7 rfl)) (by first | assumption | omega))) rfl ?_; rintro v16 h16 r16
      refine rj_v rfl rfl (v_build [v13, v16, .slice none 0 0] rfl (by obtain ⟨_, _, rfl⟩ := r13.toR.sl; obtain ⟨_, _, rfl⟩ := r16.toR.sl; kernel_rfl)) rfl ?_
      refine rj_m 2 rfl rfl rfl rfl (m_store 2 ty_28 rfl rfl rfl rfl (by simp [r13.toR.sl.one, r16.toR.sl.one, one_sl]) rfl (Nat.le_of_ble_eq_true rfl)) rfl ?_; rintro _ _ ⟨rfl, rfl⟩
      refine rj_end ?_
      exact qs_mid (b9, h16, v16, h13, v13) ⟨r13, r16⟩ ⟨rfl, rfl, rfl, rfl, rfl, rfl, trivial⟩ (fun _ s => s.pick [2, 0, 1, 3, 4, 5, 6, 7, 8] (by decide) rfl)
  · rintro ⟨b9, h16, v16, h13, v13⟩ ⟨r13, r16⟩
    dsimp only at r13 r16 ⊢
    refine qs_n ?_
    refine wp_sc ?_
    refine wp_sc ?_
    refine wp_sq ?_
    refine sq_v rfl (v_assign rfl) rfl ?_
    refine sq_end ?_
    refine qs_n ?_
    refine wp_bl ?_
    refine wp_lp (σ := Nat × Value × PH) (fun z_ => [(4, .pointer (some ⟨b4, 0, none⟩)), (5, .pointer (some ⟨b5, 0, none⟩)), (6, .pointer (some ⟨b6, 0, none⟩)), (7, .pointer (some ⟨b7, 0, none⟩)), (8, .pointer (some ⟨b8, 0, none⟩)), (9, .pointer (some ⟨b9, 0, none⟩)), (10, num z_.1)]) (fun z_ => [z_.2.2, box b9 [v13, v16, z_.2.1] 28, h16, h13, box b8 [.slice none 0 0, .slice none 0 0, .slice none 0 0] 28, box b7 [x, y, z] 28, box b6 [num h, num a] 59, box b5 [num k', num p', num n'] 30, box b4 [num k, num p, num n] 30, hp w]) (fun z_ => z_.1 ≤ (prodI t.d).toNat ∧ IntsO (mapX k p n k' p' n' h a t.x z_.1) z_.2.1 z_.2.2) (fun z_ => (prodI t.d).toNat - z_.1) (0, .slice none 0 0, emp) (⟨by (try dsimp only); omega, IntsO.nil⟩) ⟨rfl, rfl, rfl, rfl, rfl, rfl, (by first | rfl | exact ksub rfl (by first | omega | (simp; done) | (simp; omega))), trivial⟩ (fun _ s => (emp_sat s)) ?_
    rintro ⟨i, xv, g⟩ ⟨hi, q⟩
    dsimp only at hi q ⊢
    have hle_q := q.toR.le
    have hml := mapX_len hh ht i hi
    refine wp_sc ?_
    refine wp_sc ?_
    refine wp_sq ?_
    refine sq_v rfl (v_move rfl) rfl ?_
    refine sq_v rfl (v_fieldAddr fd_28_1 ty_24 (by decide) rfl) rfl ?_
    refine sq_v rfl (v_loadB 5 ty_24 rfl rfl rfl) rfl ?_
    refine sq_u rfl (x_callv rfl en_120 (fun w s => ct_s_l05Product _ _ _ w (r2.mono (s.get 9 rfl)) (by first | assumption | omega) (by first | assumption | omega))) rfl ?_
    refine sq_v rfl (v_lss rfl rfl) rfl ?_
    refine sq_end ?_
    refine qs_n ?_
    refine wp_cd rfl (fun c22 => ?_) (fun c22 => ?_)
    · refine wp_sk ?_
      refine qs_n ?_
      refine wp_sc ?_
      refine wp_bl ?_
      refine wp_rj 10 [(0, true), (1, true), (2, true), (3, true), (4, true), (5, true), (6, true), (7, true), (8, false), (9, false), (10, false), (11, false), (12, false)] mixed_ok (by kernel_rfl) ?_
      refine rj_v rfl rfl (v_fieldAddr fd_28_2 ty_24 (by decide) rfl) rfl ?_
      refine rj_v rfl rfl (v_loadB 1 ty_24 rfl rfl rfl) rfl ?_
      refine rj_v rfl rfl (v_loadNB 8 ty_30 rfl rfl rfl rfl) rfl ?_
      refine rj_v rfl rfl (v_loadNB 7 ty_30 rfl rfl rfl rfl) rfl ?_
      refine rj_v rfl rfl (v_loadNB 6 ty_59 rfl rfl rfl rfl) rfl ?_
      refine rj_v rfl rfl (v_loadNB 8 ty_30 rfl rfl rfl rfl) rfl ?_
      refine rj_v rfl rfl (v_loadNB 5 ty_28 rfl rfl rfl rfl) rfl ?_
      refine rj_v rfl rfl (v_move rfl) rfl ?_
      have hef := elt_fits ht (i := (i : Int)) (by omega); have hin := elt_inR ht (i := (i : Int)) (by omega) (by omega); have hol := homM_len hh hin
      refine rj_x rfl rfl (x_call rfl en_127 (fun w s => ct_s_l05Get _ _ _ _ _ _ _ _ w (by first | assumption | omega) (r3.mono (s.get 9 rfl)) (by first | assumption | omega) (by first | assumption | omega) (by first | assumption | omega))) rfl ?_; rintro v33 h33 r33
      refine rj_x rfl rfl (x_call rfl en_185 (fun w s => ct_s_l03Map _ _ _ _ _ _ _ _ _ _ w (r33.toR.mono (s.get 0 rfl)) (by first | assumption | omega) hin)) rfl ?_; rintro v34 h34 r34
      refine rj_m 2 rfl rfl rfl rfl (m_appI 2 0 Try.underlying24 ty_3 rfl rfl rfl rfl q rfl r34.toR (by first | omega | (simp only [List.length_cons, List.length_nil]; omega) | (simp only [List.length_append, List.length_cons, List.length_nil]; omega) | (rw [List.length_set]; omega) | (rw [List.length_replicate]; omega) | (simp; omega))) rfl ?_; intro v35 h_r35 r35
      refine rj_fv rfl rfl (v_fieldAddr fd_28_2 ty_24 (by decide) rfl) rfl ?_
      refine rj_m 3 rfl rfl rfl rfl (m_store1 3 ty_24 rfl rfl r35.toR.sl.one rfl (Nat.le_of_ble_eq_true rfl)) rfl ?_; rintro _ _ ⟨rfl, rfl⟩
      refine rj_end ?_
      refine qs_bn ?_
      refine qs_n ?_
      refine wp_sq ?_
      refine sq_v rfl (v_move rfl) rfl ?_
      refine sq_v rfl (v_add rfl rfl ((by unfold I64; omega))) rfl ?_
      refine sq_v rfl (v_assign rfl) rfl ?_
      refine sq_end ?_
      exact qs_bk (i + 1, v35, h_r35) ⟨by (try dsimp only); omega, by (try dsimp only); rw [mapX_step]; exact r35⟩ (by simp only; omega) ⟨rfl, rfl, rfl, rfl, rfl, rfl, (by first | rfl | exact ksub rfl (by first | omega | (simp; done) | (simp; omega))), trivial⟩ (fun _ s => s.pick [2, 3, 4, 5, 6, 7, 8, 9, 10, 11] (by decide) rfl)
    · refine wp_ex ?_
      refine qs_x ?_
      refine qs_x ?_
      refine qs_bx ?_
      refine qs_n ?_
      refine wp_sc ?_
      refine wp_sq ?_
      refine sq_v rfl (v_loadNB 1 ty_28 rfl rfl rfl rfl) rfl ?_
      refine sq_m 4 rfl rfl (m_store 4 ty_28 rfl rfl rfl rfl (by simp [r13.toR.sl.one, r16.toR.sl.one, q.toR.sl.one]) rfl (Nat.le_of_ble_eq_true rfl)) rfl ?_; rintro _ _ ⟨rfl, rfl⟩
      refine sq_end ?_
      refine qs_n ?_
      refine wp_rt ?_
      refine qs_close [box b8 _ _, hp w] [h13, h16, g] (fun _ s => s.pick [4, 9, 3, 2, 0] (by decide) rfl) (fun md => ?_)
      exact qs_retc 1 rfl ty_28 rfl rfl rfl (fin_t 0 (i := 2) rfl rfl rfl ⟨_, _, _, rfl, _, _, _, r13, r16, (by rw [mapT, show (prodI t.d).toNat = i by omega]; exact q), md⟩)
set_option maxHeartbeats 2000000 in
theorem ct_i_MapTensor (k p n k' p' n' h a : Int) (t : Ten) (x y z : Value) (w : World) (r1 : IntsR t.l x (hp w)) (r2 : IntsR t.d y (hp w)) (r3 : IntsR t.x z (hp w)) (hh : homL k p n k' p' n' h a) (ht : tensorL k p n t.l t.d t.x) :
    Calls Try.prog 92 [ringV k p n, ringV k' p' n', homV h a, tenV x y z].toArray w (Ret w emp (TenB (mapT k p n k' p' n' h a t) true)) := by
  have htl := ten_len ht
  have htp := (sizeI_ge.1 ht.2.1).2
  have hdi := axes_dims (tensor_axes ht)
  have hp1 := prodI_one fun d hd => (dims_mem hdi d hd).1
  have hring := hh.1
  have hwr := width_range hring
  refine calls_in Try.func92 rfl Try.ntmps92 rfl (Sat.start w) ?_
  have hle0 := r1.le
  have hle1 := r2.le
  have hle2 := r3.le
  refine wp_sc ?_
  refine wp_sq ?_
  refine sq_x rfl (x_box rfl rfl) rfl ?_; rintro _ _ ⟨b4, rfl, rfl⟩
  refine sq_x rfl (x_box rfl rfl) rfl ?_; rintro _ _ ⟨b5, rfl, rfl⟩
  refine sq_x rfl (x_box rfl rfl) rfl ?_; rintro _ _ ⟨b6, rfl, rfl⟩
  refine sq_x rfl (x_box rfl rfl) rfl ?_; rintro _ _ ⟨b7, rfl, rfl⟩
  refine sq_x rfl (x_alloc ty_28 rfl) rfl ?_; rintro _ _ ⟨b8, rfl, rfl⟩
  refine sq_v rfl (v_assign rfl) rfl ?_
  refine sq_end ?_
  refine qs_n ?_
  refine wp_sc ?_
  refine wp_sc ?_
  refine wp_sq ?_
  refine sq_v rfl (v_loadNB 4 ty_30 rfl rfl rfl rfl) rfl ?_
  refine sq_v rfl (v_loadNB 3 ty_30 rfl rfl rfl rfl) rfl ?_
  refine sq_v rfl (v_loadNB 2 ty_59 rfl rfl rfl rfl) rfl ?_
  refine sq_u rfl (x_callv rfl en_90 (fun w s => ct_i_HomOk _ _ _ _ _ _ _ _ w)) rfl ?_
  refine sq_bb 15 rfl (fun c15 => ?_) (fun c15 => ?_)
  · refine sq_v rfl (v_not rfl) rfl ?_
    refine sq_v rfl (v_move rfl) rfl ?_
    refine sq_v rfl (v_loadNB 4 ty_30 rfl rfl rfl rfl) rfl ?_
    refine sq_v rfl (v_loadNB 1 ty_28 rfl rfl rfl rfl) rfl ?_
    refine sq_u rfl (x_callv rfl en_71 (fun w s => ct_i_TensorOk _ _ _ _ _ _ _ _ _ w (r1.mono (s.get 5 rfl)) (r2.mono (s.get 5 rfl)) (r3.mono (s.get 5 rfl)))) rfl ?_
    refine sq_v rfl (v_not rfl) rfl ?_
    refine sq_v rfl (v_pickf rfl rfl) rfl ?_
    refine sq_end ?_
    refine qs_n ?_
    refine wp_cn _ rfl (fun c22 => ?_) (fun c22 => ?_)
    · refine wp_sc ?_
      refine wp_sq ?_
      refine sq_v rfl (v_build [.slice none 0 0, .slice none 0 0, .slice none 0 0] rfl (by kernel_rfl)) rfl ?_
      refine sq_m 0 rfl rfl (m_store 0 ty_28 rfl rfl rfl rfl (by simp [one_sl]) rfl (Nat.le_of_ble_eq_true rfl)) rfl ?_; rintro _ _ ⟨rfl, rfl⟩
      refine sq_v rfl (v_assign rfl) rfl ?_
      refine sq_end ?_
      refine qs_n ?_
      refine wp_rt ?_
      refine qs_r ?_
      exfalso; first | exact homB_false.1 c15 hh | exact tensorB_false.1 c22 ht
    · refine wp_sk ?_
      refine qs_n ?_
      refine wp_sc ?_
      refine wp_ra (σ := Nat × PH × Value × PH × Value) 8 (fun z_ => IntsO t.l z_.2.2.2.2 z_.2.2.2.1 ∧ IntsO t.d z_.2.2.1 z_.2.1) (fun z_ => [(4, .pointer (some ⟨b4, 0, none⟩)), (5, .pointer (some ⟨b5, 0, none⟩)), (6, .pointer (some ⟨b6, 0, none⟩)), (7, .pointer (some ⟨b7, 0, none⟩)), (8, .pointer (some ⟨b8, 0, none⟩)), (9, .bool false), (10, .pointer (some ⟨z_.1, 0, none⟩)), (22, .bool (!(tensorB k p n t.l t.d t.x)))]) (fun z_ => [box z_.1 [z_.2.2.2.2, z_.2.2.1, .slice none 0 0] 28, z_.2.1, z_.2.2.2.1, box b8 [.slice none 0 0, .slice none 0 0, .slice none 0 0] 28, box b7 [x, y, z] 28, box b6 [num h, num a] 59, box b5 [num k', num p', num n'] 30, box b4 [num k, num p, num n] 30, hp w]) mixed_ok (by kernel_rfl) ?_ ?_
      · refine ra_v (i := 0) (by kernel_rfl) rfl rfl (v_fieldAddr fd_28_0 ty_24 (by decide) rfl) rfl ?_
        refine ra_v (i := 1) (by kernel_rfl) rfl rfl (v_loadB 1 ty_24 rfl rfl rfl) rfl ?_
        refine ra_v (i := 3) (by kernel_rfl) rfl rfl (v_fieldAddr fd_28_1 ty_24 (by decide) rfl) rfl ?_
        refine ra_v (i := 4) (by kernel_rfl) rfl rfl (v_loadB 1 ty_24 rfl rfl rfl) rfl ?_
        refine ra_2 (i := 2) (j := 7) (by kernel_rfl) ?_ ?_
        · refine ro_x rfl rfl (x_call rfl en_91 (fun w s => ct_i_copyInts _ _ w (r1.mono (s.get 5 rfl)) (by first | assumption | omega))) rfl ?_; rintro v26 h26 r26
          refine ra_2 (i := 5) (j := 7) (by kernel_rfl) ?_ ?_
          · refine ro_x rfl rfl (x_call rfl en_91 (fun w s => ct_i_copyInts _ _ w (r2.mono (s.get 6 rfl)) (by first | assumption | omega))) rfl ?_; rintro v29 h29 r29
            refine ra_rj [(6, true), (7, false), (8, false)] (by kernel_rfl) rfl ?_
            refine rj_v rfl rfl (v_build [v26, v29, .slice none 0 0] rfl (by obtain ⟨_, _, rfl⟩ := r26.toR.sl; obtain ⟨_, _, rfl⟩ := r29.toR.sl; kernel_rfl)) rfl ?_
            refine rj_x rfl rfl (x_alloc ty_28 rfl) rfl ?_; rintro _ _ ⟨b10, rfl, rfl⟩
            refine rj_m 0 rfl rfl rfl rfl (m_store 0 ty_28 rfl rfl rfl rfl (by simp [r26.toR.sl.one, r29.toR.sl.one, one_sl]) rfl (Nat.le_of_ble_eq_true rfl)) rfl ?_; rintro _ _ ⟨rfl, rfl⟩
            refine rj_end ?_
            exact qs_mid (b10, h29, v29, h26, v26) ⟨r26, r29⟩ ⟨rfl, rfl, rfl, rfl, rfl, rfl, rfl, rfl, trivial⟩ (fun _ s => s.pick [0, 1, 2, 3, 4, 5, 6, 7, 8] (by decide) rfl)
          · refine ro_x rfl rfl (x_alloc ty_28 rfl) rfl ?_; rintro _ _ ⟨b10, rfl, rfl⟩
            refine ra_rj [(5, false), (6, true), (8, false)] (by kernel_rfl) rfl ?_
            refine rj_x rfl rfl (x_call rfl en_91 (fun w s => ct_i_copyInts _ _ w (r2.mono (s.get 7 rfl)) (by first | assumption | omega))) rfl ?_; rintro v29 h29 r29
            refine rj_v rfl rfl (v_build [v26, v29, .slice none 0 0] rfl (by obtain ⟨_, _, rfl⟩ := r26.toR.sl; obtain ⟨_, _, rfl⟩ := r29.toR.sl; kernel_rfl)) rfl ?_
            refine rj_m 1 rfl rfl rfl rfl (m_store 1 ty_28 rfl rfl rfl rfl (by simp [r26.toR.sl.one, r29.toR.sl.one, one_sl]) rfl (Nat.le_of_ble_eq_true rfl)) rfl ?_; rintro _ _ ⟨rfl, rfl⟩
            refine rj_end ?_
            exact qs_mid (b10, h29, v29, h26, v26) ⟨r26, r29⟩ ⟨rfl, rfl, rfl, rfl, rfl, rfl, rfl, rfl, trivial⟩ (fun _ s => s.pick [1, 0, 2, 3, 4, 5, 6, 7, 8] (by decide) rfl)
        · refine ro_x rfl rfl (x_alloc ty_28 rfl) rfl ?_; rintro _ _ ⟨b10, rfl, rfl⟩
          refine ra_rj [(2, false), (5, false), (6, true), (8, false)] (by kernel_rfl) rfl ?_
          refine rj_x rfl rfl (x_call rfl en_91 (fun w s => ct_i_copyInts _ _ w (r1.mono (s.get 6 rfl)) (by first | assumption | omega))) rfl ?_; rintro v26 h26 r26
          refine rj_x rfl rfl (x_call rfl en_91 (fun w s => ct_i_copyInts _ _ w (r2.mono (s.get 7 rfl)) (by first | assumption | omega))) rfl ?_; rintro v29 h29 r29
          refine rj_v rfl rfl (v_build [v26, v29, .slice none 0 0] rfl (by obtain ⟨_, _, rfl⟩ := r26.toR.sl; obtain ⟨_, _, rfl⟩ := r29.toR.sl; kernel_rfl)) rfl ?_
          refine rj_m 2 rfl rfl rfl rfl (m_store 2 ty_28 rfl rfl rfl rfl (by simp [r26.toR.sl.one, r29.toR.sl.one, one_sl]) rfl (Nat.le_of_ble_eq_true rfl)) rfl ?_; rintro _ _ ⟨rfl, rfl⟩
          refine rj_end ?_
          exact qs_mid (b10, h29, v29, h26, v26) ⟨r26, r29⟩ ⟨rfl, rfl, rfl, rfl, rfl, rfl, rfl, rfl, trivial⟩ (fun _ s => s.pick [2, 0, 1, 3, 4, 5, 6, 7, 8] (by decide) rfl)
      · rintro ⟨b10, h29, v29, h26, v26⟩ ⟨r26, r29⟩
        dsimp only at r26 r29 ⊢
        refine qs_n ?_
        refine wp_sc ?_
        refine wp_sc ?_
        refine wp_sq ?_
        refine sq_v rfl (v_assign rfl) rfl ?_
        refine sq_end ?_
        refine qs_n ?_
        refine wp_bl ?_
        refine wp_lp (σ := Nat × Value × PH) (fun z_ => [(4, .pointer (some ⟨b4, 0, none⟩)), (5, .pointer (some ⟨b5, 0, none⟩)), (6, .pointer (some ⟨b6, 0, none⟩)), (7, .pointer (some ⟨b7, 0, none⟩)), (8, .pointer (some ⟨b8, 0, none⟩)), (9, .bool false), (10, .pointer (some ⟨b10, 0, none⟩)), (11, num z_.1)]) (fun z_ => [z_.2.2, box b10 [v26, v29, z_.2.1] 28, h29, h26, box b8 [.slice none 0 0, .slice none 0 0, .slice none 0 0] 28, box b7 [x, y, z] 28, box b6 [num h, num a] 59, box b5 [num k', num p', num n'] 30, box b4 [num k, num p, num n] 30, hp w]) (fun z_ => z_.1 ≤ (prodI t.d).toNat ∧ IntsO (mapX k p n k' p' n' h a t.x z_.1) z_.2.1 z_.2.2) (fun z_ => (prodI t.d).toNat - z_.1) (0, .slice none 0 0, emp) (⟨by (try dsimp only); omega, IntsO.nil⟩) ⟨rfl, rfl, rfl, rfl, rfl, rfl, rfl, (by first | rfl | exact ksub rfl (by first | omega | (simp; done) | (simp; omega))), trivial⟩ (fun _ s => (emp_sat s)) ?_
        rintro ⟨i, xv, g⟩ ⟨hi, q⟩
        dsimp only at hi q ⊢
        have hle_q := q.toR.le
        have hml := mapX_len hh ht i hi
        refine wp_sc ?_
        refine wp_sc ?_
        refine wp_sq ?_
        refine sq_v rfl (v_move rfl) rfl ?_
        refine sq_v rfl (v_fieldAddr fd_28_1 ty_24 (by decide) rfl) rfl ?_
        refine sq_v rfl (v_loadB 5 ty_24 rfl rfl rfl) rfl ?_
        refine sq_u rfl (x_callv rfl en_159 (fun w s => ct_i_productOf _ _ w (r2.mono (s.get 9 rfl)) (by first | assumption | omega) (by first | assumption | omega))) rfl ?_
        refine sq_v rfl (v_lss rfl rfl) rfl ?_
        refine sq_end ?_
        refine qs_n ?_
        refine wp_cd rfl (fun c35 => ?_) (fun c35 => ?_)
        · refine wp_sk ?_
          refine qs_n ?_
          refine wp_sc ?_
          refine wp_bl ?_
          refine wp_rj 10 [(0, true), (1, true), (2, true), (3, true), (4, true), (5, true), (6, true), (7, true), (8, false), (9, false), (10, false), (11, false), (12, false)] mixed_ok (by kernel_rfl) ?_
          refine rj_v rfl rfl (v_fieldAddr fd_28_2 ty_24 (by decide) rfl) rfl ?_
          refine rj_v rfl rfl (v_loadB 1 ty_24 rfl rfl rfl) rfl ?_
          refine rj_v rfl rfl (v_loadNB 8 ty_30 rfl rfl rfl rfl) rfl ?_
          refine rj_v rfl rfl (v_loadNB 7 ty_30 rfl rfl rfl rfl) rfl ?_
          refine rj_v rfl rfl (v_loadNB 6 ty_59 rfl rfl rfl rfl) rfl ?_
          refine rj_v rfl rfl (v_loadNB 8 ty_30 rfl rfl rfl rfl) rfl ?_
          refine rj_v rfl rfl (v_loadNB 5 ty_28 rfl rfl rfl rfl) rfl ?_
          refine rj_v rfl rfl (v_move rfl) rfl ?_
          have hef := elt_fits ht (i := (i : Int)) (by omega); have hin := elt_inR ht (i := (i : Int)) (by omega) (by omega); have hol := homM_len hh hin
          refine rj_u rfl rfl (x_callv rfl en_139 (fun w s => ct_i_rawElem _ _ _ _ _ _ _ _ w (by first | assumption | omega) (r3.mono (s.get 9 rfl)) (by first | assumption | omega) (by first | assumption | omega) (by first | assumption | omega))) rfl ?_
          refine rj_x rfl rfl (x_call rfl en_188 (fun w s => ct_i_rawHom _ _ _ _ _ _ _ _ _ _ w ((eltV_read r3 (by first | assumption | omega) (by first | assumption | omega) (by first | assumption | omega)).mono (s.get 9 rfl)) (by first | assumption | omega) hin)) rfl ?_; rintro v47 h47 r47
          refine rj_m 1 rfl rfl rfl rfl (m_appI 1 0 Try.underlying24 ty_3 rfl rfl rfl rfl q rfl r47.toR (by first | omega | (simp only [List.length_cons, List.length_nil]; omega) | (simp only [List.length_append, List.length_cons, List.length_nil]; omega) | (rw [List.length_set]; omega) | (rw [List.length_replicate]; omega) | (simp; omega))) rfl ?_; intro v48 h_r48 r48
          refine rj_fv rfl rfl (v_fieldAddr fd_28_2 ty_24 (by decide) rfl) rfl ?_
          refine rj_m 2 rfl rfl rfl rfl (m_store1 2 ty_24 rfl rfl r48.toR.sl.one rfl (Nat.le_of_ble_eq_true rfl)) rfl ?_; rintro _ _ ⟨rfl, rfl⟩
          refine rj_end ?_
          refine qs_bn ?_
          refine qs_n ?_
          refine wp_sq ?_
          refine sq_v rfl (v_move rfl) rfl ?_
          refine sq_v rfl (v_add rfl rfl ((by unfold I64; omega))) rfl ?_
          refine sq_v rfl (v_assign rfl) rfl ?_
          refine sq_end ?_
          exact qs_bk (i + 1, v48, h_r48) ⟨by (try dsimp only); omega, by (try dsimp only); rw [mapX_step]; exact r48⟩ (by simp only; omega) ⟨rfl, rfl, rfl, rfl, rfl, rfl, rfl, (by first | rfl | exact ksub rfl (by first | omega | (simp; done) | (simp; omega))), trivial⟩ (fun _ s => s.pick [1, 2, 3, 4, 5, 6, 7, 8, 9, 10] (by decide) rfl)
        · refine wp_ex ?_
          refine qs_x ?_
          refine qs_x ?_
          refine qs_bx ?_
          refine qs_n ?_
          refine wp_sc ?_
          refine wp_sq ?_
          refine sq_v rfl (v_loadNB 1 ty_28 rfl rfl rfl rfl) rfl ?_
          refine sq_m 4 rfl rfl (m_store 4 ty_28 rfl rfl rfl rfl (by simp [r26.toR.sl.one, r29.toR.sl.one, q.toR.sl.one]) rfl (Nat.le_of_ble_eq_true rfl)) rfl ?_; rintro _ _ ⟨rfl, rfl⟩
          refine sq_v rfl (v_assign rfl) rfl ?_
          refine sq_end ?_
          refine qs_n ?_
          refine wp_rt ?_
          refine qs_close [box b8 _ _, hp w] [h26, h29, g] (fun _ s => s.pick [4, 9, 3, 2, 0] (by decide) rfl) (fun md => ?_)
          exact qs_retct 1 rfl ty_28 rfl rfl rfl rfl (fin_t 0 (i := 2) rfl rfl rfl ⟨_, _, _, rfl, _, _, _, r26, r29, (by rw [mapT, show (prodI t.d).toNat = i by omega]; exact q), md⟩)
  · refine sq_v rfl (v_not rfl) rfl ?_
    refine sq_v rfl (v_move rfl) rfl ?_
    refine sq_s rfl rfl ?_
    refine sq_s rfl rfl ?_
    refine sq_s rfl rfl ?_
    refine sq_s rfl rfl ?_
    refine sq_v rfl (v_pickt rfl rfl) rfl ?_
    refine sq_end ?_
    refine qs_n ?_
    refine wp_ct rfl ?_
    refine wp_sc ?_
    refine wp_sq ?_
    refine sq_v rfl (v_build [.slice none 0 0, .slice none 0 0, .slice none 0 0] rfl (by kernel_rfl)) rfl ?_
    refine sq_m 0 rfl rfl (m_store 0 ty_28 rfl rfl rfl rfl (by simp [one_sl]) rfl (Nat.le_of_ble_eq_true rfl)) rfl ?_; rintro _ _ ⟨rfl, rfl⟩
    refine sq_v rfl (v_assign rfl) rfl ?_
    refine sq_end ?_
    refine qs_n ?_
    refine wp_rt ?_
    refine qs_r ?_
    exfalso; first | exact homB_false.1 c15 hh | exact tensorB_false.1 c22 ht
def mapnP (k p n k' p' n' h a : Int) (ts : List Ten) (op : List Int) : Prop := netL k p n ts op ∧ homL k p n k' p' n' h a
open Classical in
noncomputable def mapnB (k p n k' p' n' h a : Int) (ts : List Ten) (op : List Int) : Bool := decide (mapnP k p n k' p' n' h a ts op)
def selI (b : Bool) (x y : Int) : Int := if b then x else y
noncomputable def mapTs (k p n k' p' n' h a : Int) (ts : List Ten) (op : List Int) : List Ten := if mapnB k p n k' p' n' h a ts op then ts.map (mapT k p n k' p' n' h a) else []
noncomputable def mapOp (k p n k' p' n' h a : Int) (ts : List Ten) (op : List Int) : List Int := if mapnB k p n k' p' n' h a ts op then op else []
def MapR (k p n k' p' n' h a : Int) (ts : List Ten) (op : List Int) (x : Value) (g : PH) : Prop := NetB (selI (mapnB k p n k' p' n' h a ts op) k' 0) (selI (mapnB k p n k' p' n' h a ts op) p' 0) (selI (mapnB k p n k' p' n' h a ts op) n' 0) (mapTs k p n k' p' n' h a ts op) (mapOp k p n k' p' n' h a ts op) (mapnB k p n k' p' n' h a ts op) x g
theorem net_none : NetO [] [] (.slice none 0 0) (.slice none 0 0) emp :=
  ⟨[], emp, emp, [], RowO.nil, IntsO.nil, OwnL.nil, ⟨by simp [sepL, PDj.emp], fun x hx => by simp at hx; subst hx; exact PLe.emp _, fun k o e => by cases e⟩⟩
theorem MapR.no {k p n k' p' n' h a : Int} {ts : List Ten} {op : List Int} (hn : ¬ mapnP k p n k' p' n' h a ts op) : MapR k p n k' p' n' h a ts op (.tuple [netV 0 0 0 (.slice none 0 0) (.slice none 0 0), .bool false].toArray) emp := by
  have e : mapnB k p n k' p' n' h a ts op = false := by simp [mapnB, hn]
  refine ⟨.slice none 0 0, .slice none 0 0, ?_, ?_⟩
  · rw [e]; rfl
  · rw [mapTs, mapOp, e]; exact net_none
theorem MapR.yes {k p n k' p' n' h a : Int} {ts : List Ten} {op : List Int} {vt vo : Value} {g : PH} (hp : mapnP k p n k' p' n' h a ts op) (r : NetO (ts.map (mapT k p n k' p' n' h a)) op vt vo g) : MapR k p n k' p' n' h a ts op (.tuple [netV k' p' n' vt vo, .bool true].toArray) g := by
  have e : mapnB k p n k' p' n' h a ts op = true := by simp [mapnB, hp]
  refine ⟨vt, vo, ?_, ?_⟩
  · rw [e]; rfl
  · rw [mapTs, mapOp, e]; exact r
theorem map_take_step {ts : List Ten} {f : Ten → Ten} {i : Nat} {t : Ten} (h : ts[i]? = some t) : (ts.take (i + 1)).map f = (ts.take i).map f ++ [f t] := by
  rw [take_ten h, List.map_append]; rfl
set_option maxHeartbeats 4000000 in
theorem ct_s_MapNetwork (k p n k' p' n' h a : Int) (ts : List Ten) (op : List Int) (vt vo : Value) (w : World) (r : TensR ts vt (hp w)) (r' : IntsR op vo (hp w)) (hs : op.length ≤ 1048576) :
    Calls Try.prog 35 [netV k p n vt vo, ringV k' p' n', homV h a].toArray w (Ret w emp (MapR k p n k' p' n' h a ts op)) := by
  refine calls_in Try.func35 rfl Try.ntmps35 rfl (Sat.start w) ?_
  have hle0 := r.le
  obtain ⟨cs_r, rr_r, hc_r⟩ := r.at
  have hle1 := r'.le
  refine wp_sc ?_
  refine wp_sq ?_
  refine sq_x rfl (x_box rfl rfl) rfl ?_; rintro _ _ ⟨b3, rfl, rfl⟩
  refine sq_x rfl (x_box rfl rfl) rfl ?_; rintro _ _ ⟨b4, rfl, rfl⟩
  refine sq_x rfl (x_box rfl rfl) rfl ?_; rintro _ _ ⟨b5, rfl, rfl⟩
  refine sq_x rfl (x_alloc ty_48 rfl) rfl ?_; rintro _ _ ⟨b6, rfl, rfl⟩
  refine sq_v rfl (v_assign rfl) rfl ?_
  refine sq_end ?_
  refine qs_n ?_
  refine wp_sc ?_
  refine wp_sc ?_
  refine wp_sq ?_
  refine sq_v rfl (v_loadNB 3 ty_48 rfl rfl rfl rfl) rfl ?_
  refine sq_u rfl (x_callv rfl en_86 (fun w s => ct_s_NetworkOk _ _ _ _ _ _ _ w (r.mono (s.get 4 rfl)) (r'.mono (s.get 4 rfl)) (by first | assumption | omega))) rfl ?_
  refine sq_bb 12 rfl (fun c12 => ?_) (fun c12 => ?_)
  · refine sq_v rfl (v_not rfl) rfl ?_
    refine sq_v rfl (v_move rfl) rfl ?_
    refine sq_v rfl (v_fieldAddr fd_48_0 ty_30 (by decide) rfl) rfl ?_
    refine sq_v rfl (v_loadNB 3 ty_30 rfl rfl rfl rfl) rfl ?_
    refine sq_v rfl (v_loadNB 2 ty_30 rfl rfl rfl rfl) rfl ?_
    refine sq_v rfl (v_loadNB 1 ty_59 rfl rfl rfl rfl) rfl ?_
    refine sq_u rfl (x_callv rfl en_87 (fun w s => ct_s_HomOk _ _ _ _ _ _ _ _ w)) rfl ?_
    refine sq_v rfl (v_not rfl) rfl ?_
    refine sq_v rfl (v_pickf rfl rfl) rfl ?_
    refine sq_end ?_
    refine qs_n ?_
    refine wp_cn _ rfl (fun c21 => ?_) (fun c21 => ?_)
    · refine wp_sc ?_
      refine wp_sq ?_
      refine sq_v rfl (v_build [num 0, num 0, num 0, .slice none 0 0, .slice none 0 0] rfl (by kernel_rfl)) rfl ?_
      refine sq_m 0 rfl rfl (m_store 0 ty_48 rfl rfl rfl rfl (by simp [one_int, one_sl]) rfl (Nat.le_of_ble_eq_true rfl)) rfl ?_; rintro _ _ ⟨rfl, rfl⟩
      refine sq_v rfl (v_assign rfl) rfl ?_
      refine sq_end ?_
      refine qs_n ?_
      refine wp_rt ?_
      refine qs_r ?_
      exact qs_retct 0 rfl ty_48 rfl rfl rfl rfl (fin_e (i := 4) rfl (MapR.no (fun h => by first | exact netB_false.1 c12 h.1 | exact homB_false.1 c21 h.2)))
    · refine wp_sk ?_
      refine qs_n ?_
      refine wp_sc ?_
      refine wp_ra (σ := Nat × PH × Value) 6 (fun z_ => IntsO op z_.2.2 z_.2.1) (fun z_ => [(3, .pointer (some ⟨b3, 0, none⟩)), (4, .pointer (some ⟨b4, 0, none⟩)), (5, .pointer (some ⟨b5, 0, none⟩)), (6, .pointer (some ⟨b6, 0, none⟩)), (7, .bool false), (8, .pointer (some ⟨z_.1, 0, none⟩)), (21, .bool (!(homB k p n k' p' n' h a)))]) (fun z_ => [box z_.1 [num k', num p', num n', .slice none 0 0, z_.2.2] 48, z_.2.1, box b6 [num 0, num 0, num 0, .slice none 0 0, .slice none 0 0] 48, box b5 [num h, num a] 59, box b4 [num k', num p', num n'] 30, box b3 [num k, num p, num n, vt, vo] 48, hp w]) mixed_ok (by kernel_rfl) ?_ ?_
      · refine ra_v (i := 0) (by kernel_rfl) rfl rfl (v_loadNB 2 ty_30 rfl rfl rfl rfl) rfl ?_
        refine ra_v (i := 1) (by kernel_rfl) rfl rfl (v_fieldAddr fd_48_2 ty_24 (by decide) rfl) rfl ?_
        refine ra_v (i := 2) (by kernel_rfl) rfl rfl (v_loadB 3 ty_24 rfl rfl rfl) rfl ?_
        refine ra_2 (i := 3) (j := 5) (by kernel_rfl) ?_ ?_
        · refine ro_x rfl rfl (x_call rfl en_88 (fun w s => ct_s_l05Ints _ _ w (r'.mono (s.get 4 rfl)) (by first | assumption | omega))) rfl ?_; rintro v26 h26 r26
          refine ra_rj [(4, true), (5, false), (6, false)] (by kernel_rfl) rfl ?_
          refine rj_v rfl rfl (v_build [num k', num p', num n', .slice none 0 0, v26] rfl (by obtain ⟨_, _, rfl⟩ := r26.toR.sl; kernel_rfl)) rfl ?_
          refine rj_x rfl rfl (x_alloc ty_48 rfl) rfl ?_; rintro _ _ ⟨b8, rfl, rfl⟩
          refine rj_m 0 rfl rfl rfl rfl (m_store 0 ty_48 rfl rfl rfl rfl (by simp [one_int, one_sl, r26.toR.sl.one]) rfl (Nat.le_of_ble_eq_true rfl)) rfl ?_; rintro _ _ ⟨rfl, rfl⟩
          refine rj_end ?_
          exact qs_mid (b8, h26, v26) (r26) ⟨rfl, rfl, rfl, rfl, rfl, rfl, rfl, trivial⟩ (fun _ s => s.pick [0, 1, 2, 3, 4, 5, 6] (by decide) rfl)
        · refine ro_x rfl rfl (x_alloc ty_48 rfl) rfl ?_; rintro _ _ ⟨b8, rfl, rfl⟩
          refine ra_rj [(3, false), (4, true), (6, false)] (by kernel_rfl) rfl ?_
          refine rj_x rfl rfl (x_call rfl en_88 (fun w s => ct_s_l05Ints _ _ w (r'.mono (s.get 5 rfl)) (by first | assumption | omega))) rfl ?_; rintro v26 h26 r26
          refine rj_v rfl rfl (v_build [num k', num p', num n', .slice none 0 0, v26] rfl (by obtain ⟨_, _, rfl⟩ := r26.toR.sl; kernel_rfl)) rfl ?_
          refine rj_m 1 rfl rfl rfl rfl (m_store 1 ty_48 rfl rfl rfl rfl (by simp [one_int, one_sl, r26.toR.sl.one]) rfl (Nat.le_of_ble_eq_true rfl)) rfl ?_; rintro _ _ ⟨rfl, rfl⟩
          refine rj_end ?_
          exact qs_mid (b8, h26, v26) (r26) ⟨rfl, rfl, rfl, rfl, rfl, rfl, rfl, trivial⟩ (fun _ s => s.pick [1, 0, 2, 3, 4, 5, 6] (by decide) rfl)
      · rintro ⟨b8, h26, v26⟩ r26
        dsimp only at r26 ⊢
        refine qs_n ?_
        refine wp_sc ?_
        refine wp_sc ?_
        refine wp_sq ?_
        refine sq_v rfl (v_fieldAddr fd_48_1 ty_46 (by decide) rfl) rfl ?_
        refine sq_v rfl (v_loadB 5 ty_46 rfl rfl rfl) rfl ?_
        refine sq_v rfl (v_len Try.underlying46 rfl r.sl) rfl ?_
        refine sq_v rfl (v_move rfl) rfl ?_
        refine sq_end ?_
        refine qs_n ?_
        refine wp_bl ?_
        refine wp_lp (σ := Nat × Value × PH × (List Value) × PH) (fun z_ => [(3, .pointer (some ⟨b3, 0, none⟩)), (4, .pointer (some ⟨b4, 0, none⟩)), (5, .pointer (some ⟨b5, 0, none⟩)), (6, .pointer (some ⟨b6, 0, none⟩)), (7, .bool false), (8, .pointer (some ⟨b8, 0, none⟩)), (29, vt), (30, num ts.length), (31, num z_.1)]) (fun z_ => [z_.2.2.2.2, z_.2.2.1, box b8 [num k', num p', num n', z_.2.1, v26] 48, h26, box b6 [num 0, num 0, num 0, .slice none 0 0, .slice none 0 0] 48, box b5 [num h, num a] 59, box b4 [num k', num p', num n'] 30, box b3 [num k, num p, num n, vt, vo] 48, hp w]) (fun z_ => z_.1 ≤ ts.length ∧ OwnH (flat ((ts.take z_.1).map (mapT k p n k' p' n' h a))) z_.2.2.2.1 z_.2.2.2.2 ∧ RowO (28) z_.2.2.2.1 z_.1 3 z_.2.1 z_.2.2.1) (fun z_ => ts.length - z_.1) (0, .slice none 0 0, emp, [], emp) (⟨by (try dsimp only); omega, OwnH.nil, RowO.nil⟩) ⟨rfl, rfl, rfl, rfl, rfl, rfl, rfl, rfl, (by first | rfl | exact ksub rfl (by first | omega | (simp; done) | (simp; omega))), trivial⟩ (fun _ s => (emp_sat (emp_sat s))) ?_
        rintro ⟨i, lx, ha, cs, hl⟩ ⟨hi, hlv, rr⟩
        dsimp only at hi hlv rr ⊢
        have hnet := netB_true.1 c12
        have hh := homB_true.1 c21
        have h12 := hnet.2.1
        refine wp_sc ?_
        refine wp_sq ?_
        refine sq_v rfl (v_lss rfl rfl) rfl ?_
        refine sq_end ?_
        refine qs_n ?_
        refine wp_sc ?_
        refine wp_cd rfl (fun c32 => ?_) (fun c32 => ?_)
        · refine wp_sk ?_
          refine qs_n ?_
          refine wp_sc ?_
          refine wp_bl ?_
          refine wp_sc ?_
          refine wp_sq ?_
          obtain ⟨t33, a33, b33, c33, ht33, hcs33, rl33, rd33, rx33⟩ := hc_r (i) (by first | omega | (rw [List.length_set]; omega))
          refine sq_v rfl (v_indexAddr Try.underlying46 ty_28 rfl rfl rr_r (by decide) (by omega) (by omega)) rfl ?_
          refine sq_v rfl (v_loadNE 8 ty_28 rfl rfl rr_r (by have := rr_r.1; omega) rfl hcs33) rfl ?_
          refine sq_x rfl (x_alloc ty_28 rfl) rfl ?_; rintro _ _ ⟨b10, rfl, rfl⟩
          refine sq_m 0 rfl rfl (m_store 0 ty_28 rfl rfl rfl rfl (by simp [rl33.sl.one, rd33.sl.one, rx33.sl.one]) rfl (Nat.le_of_ble_eq_true rfl)) rfl ?_; rintro _ _ ⟨rfl, rfl⟩
          refine sq_end ?_
          have hten := hnet.2.2.1 t33 (List.mem_of_getElem? ht33)
          refine qs_n ?_
          refine wp_rj 9 [(0, true), (1, true), (2, true), (3, true), (4, true), (5, true), (6, true), (7, false), (8, false), (9, false), (10, false), (11, false)] mixed_ok (by kernel_rfl) ?_
          refine rj_v rfl rfl (v_fieldAddr fd_48_1 ty_46 (by decide) rfl) rfl ?_
          refine rj_v rfl rfl (v_loadB 3 ty_46 rfl rfl rfl) rfl ?_
          refine rj_v rfl rfl (v_fieldAddr fd_48_0 ty_30 (by decide) rfl) rfl ?_
          refine rj_v rfl rfl (v_loadNB 8 ty_30 rfl rfl rfl rfl) rfl ?_
          refine rj_v rfl rfl (v_loadNB 7 ty_30 rfl rfl rfl rfl) rfl ?_
          refine rj_v rfl rfl (v_loadNB 6 ty_59 rfl rfl rfl rfl) rfl ?_
          refine rj_v rfl rfl (v_loadNB 0 ty_28 rfl rfl rfl rfl) rfl ?_
          refine rj_x rfl rfl (x_call rfl en_89 (fun w s => ct_s_l07Map _ _ _ _ _ _ _ _ _ _ _ _ w (rl33.mono (s.get 9 rfl)) (rd33.mono (s.get 9 rfl)) (rx33.mono (s.get 9 rfl)) (by first | assumption | omega) (by first | assumption | omega))) rfl ?_; rintro _ h42 ⟨va42, vb42, vc42, rfl, o42⟩
          refine rj_x rfl rfl (x_buildS [.agg [va42, vb42, vc42].toArray] Try.underlying46 ty_28 (by decide) rfl rfl rfl (by decide) (by decide) (by intro v hv; simp at hv; subst hv; rfl)) rfl ?_; intro v43 h43 (r43 : RowO 28 [va42, vb42, vc42] 1 3 v43 h43)
          refine rj_m 4 rfl rfl rfl rfl (m_append 4 0 Try.underlying46 ty_28 rfl rfl (by decide) rfl rfl rfl rr rfl r43.toR (by simp [o42.toR.1.sl.one, o42.toR.2.1.sl.one, o42.toR.2.2.sl.one]) (by unfold maxLen; omega) (by omega)) rfl ?_; intro v44 h_r44 (r44 : RowO 28 (cs ++ [va42, vb42, vc42]) (i + 1) 3 v44 h_r44)
          refine rj_fv rfl rfl (v_fieldAddr fd_48_1 ty_46 (by decide) rfl) rfl ?_
          refine rj_m 5 rfl rfl rfl rfl (m_store1 5 ty_46 rfl rfl r44.toR.sl.one rfl (Nat.le_of_ble_eq_true rfl)) rfl ?_; rintro _ _ ⟨rfl, rfl⟩
          refine rj_end ?_
          refine qs_bn ?_
          refine qs_n ?_
          refine wp_sq ?_
          refine sq_v rfl (v_add rfl rfl ((by unfold I64; omega))) rfl ?_
          refine sq_v rfl (v_move rfl) rfl ?_
          refine sq_end ?_
          refine qs_dj 3 1 rfl rfl rfl (fun hdj => ?_)
          exact qs_bk (i + 1, v44, h_r44, cs ++ [va42, vb42, vc42], PUn hl h42) ⟨by (try dsimp only); omega, by (try dsimp only); rw [map_take_step ht33]; exact hlv.snoc o42 hdj, r44⟩ (by simp only; omega) ⟨rfl, rfl, rfl, rfl, rfl, rfl, rfl, rfl, (by first | rfl | exact ksub rfl (by first | omega | (simp; done) | (simp; omega))), trivial⟩ (fun _ s => Sat.merge (s.pick [3, 1, 4, 5, 6, 7, 8, 9, 10, 11] (by decide) rfl))
        · refine wp_ex ?_
          refine qs_x ?_
          refine qs_x ?_
          refine qs_bx ?_
          refine qs_n ?_
          refine wp_sc ?_
          refine wp_sq ?_
          refine sq_v rfl (v_loadNB 2 ty_48 rfl rfl rfl rfl) rfl ?_
          refine sq_m 4 rfl rfl (m_store 4 ty_48 rfl rfl rfl rfl (by simp [one_int, rr.toR.sl.one, r26.toR.sl.one]) rfl (Nat.le_of_ble_eq_true rfl)) rfl ?_; rintro _ _ ⟨rfl, rfl⟩
          refine sq_v rfl (v_assign rfl) rfl ?_
          refine sq_end ?_
          refine qs_n ?_
          refine wp_rt ?_
          have ei : i = ts.length := by omega
          subst ei
          rw [List.take_length] at hlv
          obtain ⟨l, ol, md⟩ := hlv
          refine qs_close [box b6 _ _, hp w] (ha :: h26 :: l) (fun _ s => Sat.open (A := [box b6 [num k', num p', num n', lx, v26] 48, hp w, ha, h26]) md (s.pick [0, 4, 8, 1, 3] (by decide) rfl)) (fun md2 => ?_)
          exact qs_retct 1 rfl ty_48 rfl rfl rfl rfl (fin_t 0 (i := 2) rfl rfl rfl (MapR.yes ⟨netB_true.1 c12, homB_true.1 c21⟩ ⟨cs, ha, h26, l, by rw [List.length_map]; exact rr, r26, ol, md2⟩))
  · refine sq_v rfl (v_not rfl) rfl ?_
    refine sq_v rfl (v_move rfl) rfl ?_
    refine sq_s rfl rfl ?_
    refine sq_s rfl rfl ?_
    refine sq_s rfl rfl ?_
    refine sq_s rfl rfl ?_
    refine sq_s rfl rfl ?_
    refine sq_s rfl rfl ?_
    refine sq_v rfl (v_pickt rfl rfl) rfl ?_
    refine sq_end ?_
    refine qs_n ?_
    refine wp_ct rfl ?_
    refine wp_sc ?_
    refine wp_sq ?_
    refine sq_v rfl (v_build [num 0, num 0, num 0, .slice none 0 0, .slice none 0 0] rfl (by kernel_rfl)) rfl ?_
    refine sq_m 0 rfl rfl (m_store 0 ty_48 rfl rfl rfl rfl (by simp [one_int, one_sl]) rfl (Nat.le_of_ble_eq_true rfl)) rfl ?_; rintro _ _ ⟨rfl, rfl⟩
    refine sq_v rfl (v_assign rfl) rfl ?_
    refine sq_end ?_
    refine qs_n ?_
    refine wp_rt ?_
    refine qs_r ?_
    exact qs_retct 0 rfl ty_48 rfl rfl rfl rfl (fin_e (i := 4) rfl (MapR.no (fun h => by first | exact netB_false.1 c12 h.1 | exact homB_false.1 c21 h.2)))
set_option maxHeartbeats 4000000 in
theorem ct_i_MapNetwork (k p n k' p' n' h a : Int) (ts : List Ten) (op : List Int) (vt vo : Value) (w : World) (r : TensR ts vt (hp w)) (r' : IntsR op vo (hp w)) (hs : op.length ≤ 1048576) :
    Calls Try.prog 37 [netV k p n vt vo, ringV k' p' n', homV h a].toArray w (Ret w emp (MapR k p n k' p' n' h a ts op)) := by
  refine calls_in Try.func37 rfl Try.ntmps37 rfl (Sat.start w) ?_
  have hle0 := r.le
  obtain ⟨cs_r, rr_r, hc_r⟩ := r.at
  have hle1 := r'.le
  refine wp_sc ?_
  refine wp_sq ?_
  refine sq_x rfl (x_box rfl rfl) rfl ?_; rintro _ _ ⟨b3, rfl, rfl⟩
  refine sq_x rfl (x_box rfl rfl) rfl ?_; rintro _ _ ⟨b4, rfl, rfl⟩
  refine sq_x rfl (x_box rfl rfl) rfl ?_; rintro _ _ ⟨b5, rfl, rfl⟩
  refine sq_x rfl (x_alloc ty_48 rfl) rfl ?_; rintro _ _ ⟨b6, rfl, rfl⟩
  refine sq_v rfl (v_assign rfl) rfl ?_
  refine sq_end ?_
  refine qs_n ?_
  refine wp_sc ?_
  refine wp_sc ?_
  refine wp_sq ?_
  refine sq_v rfl (v_loadNB 3 ty_48 rfl rfl rfl rfl) rfl ?_
  refine sq_u rfl (x_callv rfl en_79 (fun w s => ct_i_NetworkOk _ _ _ _ _ _ _ w (r.mono (s.get 4 rfl)) (r'.mono (s.get 4 rfl)) (by first | assumption | omega))) rfl ?_
  refine sq_bb 14 rfl (fun c14 => ?_) (fun c14 => ?_)
  · refine sq_v rfl (v_not rfl) rfl ?_
    refine sq_v rfl (v_move rfl) rfl ?_
    refine sq_v rfl (v_fieldAddr fd_48_0 ty_30 (by decide) rfl) rfl ?_
    refine sq_v rfl (v_loadNB 3 ty_30 rfl rfl rfl rfl) rfl ?_
    refine sq_v rfl (v_loadNB 2 ty_30 rfl rfl rfl rfl) rfl ?_
    refine sq_v rfl (v_loadNB 1 ty_59 rfl rfl rfl rfl) rfl ?_
    refine sq_u rfl (x_callv rfl en_90 (fun w s => ct_i_HomOk _ _ _ _ _ _ _ _ w)) rfl ?_
    refine sq_v rfl (v_not rfl) rfl ?_
    refine sq_v rfl (v_pickf rfl rfl) rfl ?_
    refine sq_end ?_
    refine qs_n ?_
    refine wp_cn _ rfl (fun c23 => ?_) (fun c23 => ?_)
    · refine wp_sc ?_
      refine wp_sq ?_
      refine sq_v rfl (v_build [num 0, num 0, num 0, .slice none 0 0, .slice none 0 0] rfl (by kernel_rfl)) rfl ?_
      refine sq_m 0 rfl rfl (m_store 0 ty_48 rfl rfl rfl rfl (by simp [one_int, one_sl]) rfl (Nat.le_of_ble_eq_true rfl)) rfl ?_; rintro _ _ ⟨rfl, rfl⟩
      refine sq_v rfl (v_assign rfl) rfl ?_
      refine sq_end ?_
      refine qs_n ?_
      refine wp_rt ?_
      refine qs_r ?_
      exact qs_retct 0 rfl ty_48 rfl rfl rfl rfl (fin_e (i := 4) rfl (MapR.no (fun h => by first | exact netB_false.1 c14 h.1 | exact homB_false.1 c23 h.2)))
    · refine wp_sk ?_
      refine qs_n ?_
      refine wp_sc ?_
      refine wp_ra (σ := Nat × PH × Value) 6 (fun z_ => IntsO op z_.2.2 z_.2.1) (fun z_ => [(3, .pointer (some ⟨b3, 0, none⟩)), (4, .pointer (some ⟨b4, 0, none⟩)), (5, .pointer (some ⟨b5, 0, none⟩)), (6, .pointer (some ⟨b6, 0, none⟩)), (7, .bool false), (8, .pointer (some ⟨z_.1, 0, none⟩)), (23, .bool (!(homB k p n k' p' n' h a)))]) (fun z_ => [box z_.1 [num k', num p', num n', .slice none 0 0, z_.2.2] 48, z_.2.1, box b6 [num 0, num 0, num 0, .slice none 0 0, .slice none 0 0] 48, box b5 [num h, num a] 59, box b4 [num k', num p', num n'] 30, box b3 [num k, num p, num n, vt, vo] 48, hp w]) mixed_ok (by kernel_rfl) ?_ ?_
      · refine ra_v (i := 0) (by kernel_rfl) rfl rfl (v_loadNB 2 ty_30 rfl rfl rfl rfl) rfl ?_
        refine ra_v (i := 1) (by kernel_rfl) rfl rfl (v_fieldAddr fd_48_2 ty_24 (by decide) rfl) rfl ?_
        refine ra_v (i := 2) (by kernel_rfl) rfl rfl (v_loadB 3 ty_24 rfl rfl rfl) rfl ?_
        refine ra_2 (i := 3) (j := 5) (by kernel_rfl) ?_ ?_
        · refine ro_x rfl rfl (x_call rfl en_91 (fun w s => ct_i_copyInts _ _ w (r'.mono (s.get 4 rfl)) (by first | assumption | omega))) rfl ?_; rintro v28 h28 r28
          refine ra_rj [(4, true), (5, false), (6, false)] (by kernel_rfl) rfl ?_
          refine rj_v rfl rfl (v_build [num k', num p', num n', .slice none 0 0, v28] rfl (by obtain ⟨_, _, rfl⟩ := r28.toR.sl; kernel_rfl)) rfl ?_
          refine rj_x rfl rfl (x_alloc ty_48 rfl) rfl ?_; rintro _ _ ⟨b8, rfl, rfl⟩
          refine rj_m 0 rfl rfl rfl rfl (m_store 0 ty_48 rfl rfl rfl rfl (by simp [one_int, one_sl, r28.toR.sl.one]) rfl (Nat.le_of_ble_eq_true rfl)) rfl ?_; rintro _ _ ⟨rfl, rfl⟩
          refine rj_end ?_
          exact qs_mid (b8, h28, v28) (r28) ⟨rfl, rfl, rfl, rfl, rfl, rfl, rfl, trivial⟩ (fun _ s => s.pick [0, 1, 2, 3, 4, 5, 6] (by decide) rfl)
        · refine ro_x rfl rfl (x_alloc ty_48 rfl) rfl ?_; rintro _ _ ⟨b8, rfl, rfl⟩
          refine ra_rj [(3, false), (4, true), (6, false)] (by kernel_rfl) rfl ?_
          refine rj_x rfl rfl (x_call rfl en_91 (fun w s => ct_i_copyInts _ _ w (r'.mono (s.get 5 rfl)) (by first | assumption | omega))) rfl ?_; rintro v28 h28 r28
          refine rj_v rfl rfl (v_build [num k', num p', num n', .slice none 0 0, v28] rfl (by obtain ⟨_, _, rfl⟩ := r28.toR.sl; kernel_rfl)) rfl ?_
          refine rj_m 1 rfl rfl rfl rfl (m_store 1 ty_48 rfl rfl rfl rfl (by simp [one_int, one_sl, r28.toR.sl.one]) rfl (Nat.le_of_ble_eq_true rfl)) rfl ?_; rintro _ _ ⟨rfl, rfl⟩
          refine rj_end ?_
          exact qs_mid (b8, h28, v28) (r28) ⟨rfl, rfl, rfl, rfl, rfl, rfl, rfl, trivial⟩ (fun _ s => s.pick [1, 0, 2, 3, 4, 5, 6] (by decide) rfl)
      · rintro ⟨b8, h28, v28⟩ r28
        dsimp only at r28 ⊢
        refine qs_n ?_
        refine wp_sc ?_
        refine wp_sc ?_
        refine wp_sq ?_
        refine sq_v rfl (v_fieldAddr fd_48_1 ty_46 (by decide) rfl) rfl ?_
        refine sq_v rfl (v_loadB 5 ty_46 rfl rfl rfl) rfl ?_
        refine sq_v rfl (v_len Try.underlying46 rfl r.sl) rfl ?_
        refine sq_v rfl (v_move rfl) rfl ?_
        refine sq_end ?_
        refine qs_n ?_
        refine wp_bl ?_
        refine wp_lp (σ := Nat × Value × PH × (List Value) × PH) (fun z_ => [(3, .pointer (some ⟨b3, 0, none⟩)), (4, .pointer (some ⟨b4, 0, none⟩)), (5, .pointer (some ⟨b5, 0, none⟩)), (6, .pointer (some ⟨b6, 0, none⟩)), (7, .bool false), (8, .pointer (some ⟨b8, 0, none⟩)), (31, vt), (32, num ts.length), (33, num z_.1)]) (fun z_ => [z_.2.2.2.2, z_.2.2.1, box b8 [num k', num p', num n', z_.2.1, v28] 48, h28, box b6 [num 0, num 0, num 0, .slice none 0 0, .slice none 0 0] 48, box b5 [num h, num a] 59, box b4 [num k', num p', num n'] 30, box b3 [num k, num p, num n, vt, vo] 48, hp w]) (fun z_ => z_.1 ≤ ts.length ∧ OwnH (flat ((ts.take z_.1).map (mapT k p n k' p' n' h a))) z_.2.2.2.1 z_.2.2.2.2 ∧ RowO (28) z_.2.2.2.1 z_.1 3 z_.2.1 z_.2.2.1) (fun z_ => ts.length - z_.1) (0, .slice none 0 0, emp, [], emp) (⟨by (try dsimp only); omega, OwnH.nil, RowO.nil⟩) ⟨rfl, rfl, rfl, rfl, rfl, rfl, rfl, rfl, (by first | rfl | exact ksub rfl (by first | omega | (simp; done) | (simp; omega))), trivial⟩ (fun _ s => (emp_sat (emp_sat s))) ?_
        rintro ⟨i, lx, ha, cs, hl⟩ ⟨hi, hlv, rr⟩
        dsimp only at hi hlv rr ⊢
        have hnet := netB_true.1 c14
        have hh := homB_true.1 c23
        have h12 := hnet.2.1
        refine wp_sc ?_
        refine wp_sq ?_
        refine sq_v rfl (v_lss rfl rfl) rfl ?_
        refine sq_end ?_
        refine qs_n ?_
        refine wp_sc ?_
        refine wp_cd rfl (fun c34 => ?_) (fun c34 => ?_)
        · refine wp_sk ?_
          refine qs_n ?_
          refine wp_sc ?_
          refine wp_bl ?_
          refine wp_sc ?_
          refine wp_sq ?_
          obtain ⟨t35, a35, b35, c35, ht35, hcs35, rl35, rd35, rx35⟩ := hc_r (i) (by first | omega | (rw [List.length_set]; omega))
          refine sq_v rfl (v_indexAddr Try.underlying46 ty_28 rfl rfl rr_r (by decide) (by omega) (by omega)) rfl ?_
          refine sq_v rfl (v_loadNE 8 ty_28 rfl rfl rr_r (by have := rr_r.1; omega) rfl hcs35) rfl ?_
          refine sq_x rfl (x_alloc ty_28 rfl) rfl ?_; rintro _ _ ⟨b10, rfl, rfl⟩
          refine sq_m 0 rfl rfl (m_store 0 ty_28 rfl rfl rfl rfl (by simp [rl35.sl.one, rd35.sl.one, rx35.sl.one]) rfl (Nat.le_of_ble_eq_true rfl)) rfl ?_; rintro _ _ ⟨rfl, rfl⟩
          refine sq_end ?_
          have hten := hnet.2.2.1 t35 (List.mem_of_getElem? ht35)
          refine qs_n ?_
          refine wp_sc ?_
          refine wp_sq ?_
          refine sq_v rfl (v_fieldAddr fd_48_0 ty_30 (by decide) rfl) rfl ?_
          refine sq_v rfl (v_loadNB 8 ty_30 rfl rfl rfl rfl) rfl ?_
          refine sq_v rfl (v_loadNB 7 ty_30 rfl rfl rfl rfl) rfl ?_
          refine sq_v rfl (v_loadNB 6 ty_59 rfl rfl rfl rfl) rfl ?_
          refine sq_v rfl (v_loadNB 0 ty_28 rfl rfl rfl rfl) rfl ?_
          refine sq_x rfl (x_call rfl en_92 (fun w s => ct_i_MapTensor _ _ _ _ _ _ _ _ _ _ _ _ w (rl35.mono (s.get 9 rfl)) (rd35.mono (s.get 9 rfl)) (rx35.mono (s.get 9 rfl)) (by first | assumption | omega) (by first | assumption | omega))) rfl ?_; rintro _ h43 ⟨va43, vb43, vc43, rfl, o43⟩
          refine sq_v rfl (v_move rfl) rfl ?_
          refine sq_v rfl (v_extract rfl rfl) rfl ?_
          refine sq_v rfl (v_extract rfl rfl) rfl ?_
          refine sq_x rfl (x_alloc ty_28 rfl) rfl ?_; rintro _ _ ⟨b11, rfl, rfl⟩
          refine sq_m 0 rfl rfl (m_store 0 ty_28 rfl rfl rfl rfl (by simp [o43.toR.1.sl.one, o43.toR.2.1.sl.one, o43.toR.2.2.sl.one]) rfl (Nat.le_of_ble_eq_true rfl)) rfl ?_; rintro _ _ ⟨rfl, rfl⟩
          refine sq_v rfl (v_assign rfl) rfl ?_
          refine sq_end ?_
          refine qs_n ?_
          refine wp_sq ?_
          refine sq_v rfl (v_fieldAddr fd_48_1 ty_46 (by decide) rfl) rfl ?_
          refine sq_v rfl (v_loadB 5 ty_46 rfl rfl rfl) rfl ?_
          refine sq_v rfl (v_loadNB 0 ty_28 rfl rfl rfl rfl) rfl ?_
          refine sq_x rfl (x_buildS [.agg [va43, vb43, vc43].toArray] Try.underlying46 ty_28 (by decide) rfl rfl rfl (by decide) (by decide) (by intro v hv; simp at hv; subst hv; rfl)) rfl ?_; intro v49 h49 (r49 : RowO 28 [va43, vb43, vc43] 1 3 v49 h49)
          refine sq_m 5 rfl rfl (m_append 5 0 Try.underlying46 ty_28 rfl rfl (by decide) rfl rfl rfl rr rfl r49.toR (by simp [o43.toR.1.sl.one, o43.toR.2.1.sl.one, o43.toR.2.2.sl.one]) (by unfold maxLen; omega) (by omega)) rfl ?_; intro v50 h_r50 (r50 : RowO 28 (cs ++ [va43, vb43, vc43]) (i + 1) 3 v50 h_r50)
          refine sq_v rfl (v_fieldAddr fd_48_1 ty_46 (by decide) rfl) rfl ?_
          refine sq_m 6 rfl rfl (m_store1 6 ty_46 rfl rfl r50.toR.sl.one rfl (Nat.le_of_ble_eq_true rfl)) rfl ?_; rintro _ _ ⟨rfl, rfl⟩
          refine sq_end ?_
          refine qs_bn ?_
          refine qs_n ?_
          refine wp_sq ?_
          refine sq_v rfl (v_add rfl rfl ((by unfold I64; omega))) rfl ?_
          refine sq_v rfl (v_move rfl) rfl ?_
          refine sq_end ?_
          refine qs_dj 4 2 rfl rfl rfl (fun hdj => ?_)
          exact qs_bk (i + 1, v50, h_r50, cs ++ [va43, vb43, vc43], PUn hl h43) ⟨by (try dsimp only); omega, by (try dsimp only); rw [map_take_step ht35]; exact hlv.snoc o43 hdj, r50⟩ (by simp only; omega) ⟨rfl, rfl, rfl, rfl, rfl, rfl, rfl, rfl, (by first | rfl | exact ksub rfl (by first | omega | (simp; done) | (simp; omega))), trivial⟩ (fun _ s => Sat.merge (s.pick [4, 2, 5, 6, 7, 8, 9, 10, 11, 12] (by decide) rfl))
        · refine wp_ex ?_
          refine qs_x ?_
          refine qs_x ?_
          refine qs_bx ?_
          refine qs_n ?_
          refine wp_sc ?_
          refine wp_sq ?_
          refine sq_v rfl (v_loadNB 2 ty_48 rfl rfl rfl rfl) rfl ?_
          refine sq_m 4 rfl rfl (m_store 4 ty_48 rfl rfl rfl rfl (by simp [one_int, rr.toR.sl.one, r28.toR.sl.one]) rfl (Nat.le_of_ble_eq_true rfl)) rfl ?_; rintro _ _ ⟨rfl, rfl⟩
          refine sq_v rfl (v_assign rfl) rfl ?_
          refine sq_end ?_
          refine qs_n ?_
          refine wp_rt ?_
          have ei : i = ts.length := by omega
          subst ei
          rw [List.take_length] at hlv
          obtain ⟨l, ol, md⟩ := hlv
          refine qs_close [box b6 _ _, hp w] (ha :: h28 :: l) (fun _ s => Sat.open (A := [box b6 [num k', num p', num n', lx, v28] 48, hp w, ha, h28]) md (s.pick [0, 4, 8, 1, 3] (by decide) rfl)) (fun md2 => ?_)
          exact qs_retct 1 rfl ty_48 rfl rfl rfl rfl (fin_t 0 (i := 2) rfl rfl rfl (MapR.yes ⟨netB_true.1 c14, homB_true.1 c23⟩ ⟨cs, ha, h28, l, by rw [List.length_map]; exact rr, r28, ol, md2⟩))
  · refine sq_v rfl (v_not rfl) rfl ?_
    refine sq_v rfl (v_move rfl) rfl ?_
    refine sq_s rfl rfl ?_
    refine sq_s rfl rfl ?_
    refine sq_s rfl rfl ?_
    refine sq_s rfl rfl ?_
    refine sq_s rfl rfl ?_
    refine sq_s rfl rfl ?_
    refine sq_v rfl (v_pickt rfl rfl) rfl ?_
    refine sq_end ?_
    refine qs_n ?_
    refine wp_ct rfl ?_
    refine wp_sc ?_
    refine wp_sq ?_
    refine sq_v rfl (v_build [num 0, num 0, num 0, .slice none 0 0, .slice none 0 0] rfl (by kernel_rfl)) rfl ?_
    refine sq_m 0 rfl rfl (m_store 0 ty_48 rfl rfl rfl rfl (by simp [one_int, one_sl]) rfl (Nat.le_of_ble_eq_true rfl)) rfl ?_; rintro _ _ ⟨rfl, rfl⟩
    refine sq_v rfl (v_assign rfl) rfl ?_
    refine sq_end ?_
    refine qs_n ?_
    refine wp_rt ?_
    refine qs_r ?_
    exact qs_retct 0 rfl ty_48 rfl rfl rfl rfl (fin_e (i := 4) rfl (MapR.no (fun h => by first | exact netB_false.1 c14 h.1 | exact homB_false.1 c23 h.2)))
end Go.Proofs.Ytikeobneipjfnaa
