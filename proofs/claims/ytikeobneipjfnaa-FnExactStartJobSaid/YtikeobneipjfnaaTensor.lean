/-
  A tensor's axes, its size and whether it is in order, in the program and in the reference: the same numbers.
  Conditions: none.
-/
import Derived.Test.YtikeobneipjfnaaRing
import Derived.Test.YtikeobneipjfnaaLists
namespace Go.Proofs.Ytikeobneipjfnaa
set_option maxRecDepth 100000
open Go.RowKit

/-! ### lists -/
theorem step_all {p : Nat → Prop} {k : Nat} (h : ∀ j, j < k → p j) (h1 : p k) : ∀ j, j < k + 1 → p j := fun j hj => by
  by_cases e : j = k
  · subst e; exact h1
  · exact h j (by omega)
theorem take_succ {xs : List Int} {i : Nat} (h : i < xs.length) : xs.take (i + 1) = xs.take i ++ [xs.getD i 0] := by
  rw [List.take_succ_eq_append_getElem h]; simp [List.getD, h]
theorem mem_getD {xs : List Int} {k : Nat} (h : k < xs.length) : xs.getD k 0 ∈ xs := by simp [List.getD, h]
theorem getD_of_mem {xs : List Int} {a : Int} (h : a ∈ xs) : ∃ i, i < xs.length ∧ xs.getD i 0 = a := by
  obtain ⟨i, hi⟩ := List.getElem?_of_mem h
  have hlt := (List.getElem?_eq_some_iff.1 hi).1
  exact ⟨i, hlt, by simp [List.getD, hi]⟩
theorem not_mem_of {xs : List Int} {n : Int} (h : ∀ j, j < xs.length → xs.getD j 0 ≠ n) : n ∉ xs := fun hm => by
  obtain ⟨i, h1, h2⟩ := getD_of_mem hm
  exact h i h1 h2
theorem sub_ints (xs : List Int) (lo hi : Nat) : ((ints xs).drop (lo * 1)).take ((hi - lo) * 1) = ints ((xs.drop lo).take (hi - lo)) := by
  simp [ints, List.map_take, List.map_drop]
theorem IntsR.sub {xs : List Int} {v : Value} {h : PH} (r : IntsR xs v h) {lo hi : Nat} (h1 : lo ≤ hi) (h2 : hi ≤ xs.length) : IntsR ((xs.drop lo).take (hi - lo)) (subV v lo hi 1) h := by
  have := RowR.sub r h1 h2
  rw [sub_ints] at this
  unfold IntsR
  rw [List.length_take, List.length_drop, Nat.min_eq_left (by omega)]
  exact this
theorem IntsR.subH {xs : List Int} {v : Value} {h : PH} (r : IntsR xs v h) {hi : Nat} (h2 : hi ≤ xs.length) : IntsR (xs.take hi) (subV v 0 hi 1) h := by
  simpa using r.sub (lo := 0) (Nat.zero_le hi) h2
/-- The place of a number in a list, or -1. -/
def findI (xs : List Int) (n : Int) : Int := if n ∈ xs then (xs.idxOf n : Nat) else -1
theorem idx_first {xs : List Int} {n : Int} {i : Nat} (h : ∀ j, j < i → xs.getD j 0 ≠ n) (hi : i < xs.length) (he : xs.getD i 0 = n) : findI xs n = i := by
  have hm : n ∈ xs := he ▸ mem_getD hi
  unfold findI
  rw [if_pos hm]
  congr 1
  have h1 : xs.idxOf n < xs.length := List.idxOf_lt_length_iff.2 hm
  have h2 : xs.getD (xs.idxOf n) 0 = n := by
    simp [List.getD, h1]
  rcases Nat.lt_trichotomy (xs.idxOf n) i with h3 | h3 | h3
  · exact absurd h2 (h _ h3)
  · exact h3
  · have := List.not_of_lt_findIdx (xs := xs) (p := fun a => a == n) (i := i) h3
    simp [List.getD, hi] at he
    simp [he] at this
theorem findI_none {xs : List Int} {n : Int} (h : n ∉ xs) : findI xs n = -1 := by simp [findI, h]
theorem findI_ge {xs : List Int} {n : Int} : 0 ≤ findI xs n ↔ n ∈ xs := by
  unfold findI
  split
  · simp [*]
  · simp [*]
theorem findI_get {xs : List Int} {n : Int} (h : n ∈ xs) : (findI xs n).toNat < xs.length ∧ xs.getD (findI xs n).toNat 0 = n := by
  have h1 : xs.idxOf n < xs.length := List.idxOf_lt_length_iff.2 h
  unfold findI
  rw [if_pos h]
  exact ⟨by simpa using h1, by simp [List.getD, h1]⟩
theorem findI_range (xs : List Int) (n : Int) : -1 ≤ findI xs n ∧ findI xs n < xs.length := by
  by_cases h : n ∈ xs
  · have := findI_get h
    have := findI_ge.2 h
    omega
  · rw [findI_none h]; omega

theorem ct_i_hasInt (xs : List Int) (x : Int) (v : Value) (w : World) (r : IntsR xs v (hp w)) : Calls Try.prog 212 [v, num x].toArray w (RetV w (.bool (decide (x ∈ xs)))) := by
  have hx := r.le
  refine calls_in Try.func212 rfl Try.ntmps212 rfl (Sat.start w) ?_
  refine wp_sc ?_
  refine wp_sq ?_
  refine sq_v rfl (v_assign rfl) rfl ?_
  refine sq_end ?_
  refine qs_n ?_
  refine wp_sc ?_
  refine wp_sc ?_
  refine wp_sq ?_
  refine sq_v rfl (v_move rfl) rfl ?_
  refine sq_v rfl (v_len Try.underlying24 rfl r.sl) rfl ?_
  refine sq_v rfl (v_move rfl) rfl ?_
  refine sq_end ?_
  refine qs_n ?_
  refine wp_bl ?_
  refine wp_lp (fun i : Nat => [(1, num x), (7, v), (8, num xs.length), (9, num i)]) (fun _ => [hp w]) (fun i => i ≤ xs.length ∧ ∀ j, j < i → xs.getD j 0 ≠ x) (fun i => xs.length - i) 0 ⟨by omega, fun j hj => by omega⟩ ⟨rfl, rfl, rfl, rfl, trivial⟩ (fun _ s => s) ?_
  rintro i ⟨hi, hn⟩
  refine wp_sc ?_
  refine wp_sq ?_
  refine sq_v rfl (v_lss rfl rfl) rfl ?_
  refine sq_end ?_
  refine qs_n ?_
  refine wp_sc ?_
  refine wp_cd rfl (fun c10 => ?_) (fun c10 => ?_)
  · refine wp_sk ?_
    refine qs_n ?_
    refine wp_sc ?_
    refine wp_bl ?_
    refine wp_sc ?_
    refine wp_sq ?_
    refine sq_v rfl (v_idxI Try.underlying24 ty_3 rfl rfl r (by omega) (by omega)) rfl ?_
    refine sq_v rfl (v_loadI  0 ty_3 rfl rfl r (by omega)) rfl ?_
    refine sq_v rfl (v_assign rfl) rfl ?_
    refine sq_end ?_
    refine qs_n ?_
    refine wp_sc ?_
    refine wp_sq ?_
    refine sq_v rfl (v_move rfl) rfl ?_
    refine sq_v rfl (v_move rfl) rfl ?_
    refine sq_v rfl (v_eql rfl rfl) rfl ?_
    refine sq_end ?_
    refine qs_n ?_
    refine wp_cd rfl (fun c15 => ?_) (fun c15 => ?_)
    · refine wp_sc ?_
      refine wp_sq ?_
      refine sq_v rfl (v_assign rfl) rfl ?_
      refine sq_end ?_
      refine qs_n ?_
      refine wp_rt ?_
      refine qs_br ?_
      refine qs_r ?_
      refine qs_r ?_
      refine qs_br ?_
      refine qs_r ?_
      exact qs_ret1 rfl rfl (fin_q (i := 0) rfl (by congr 1; symm; rw [decide_eq_true_eq, c15]; exact mem_getD (by omega)))
    · refine wp_sk ?_
      refine qs_bn ?_
      refine qs_n ?_
      refine wp_sq ?_
      refine sq_v rfl (v_add rfl rfl ((by unfold I64; omega))) rfl ?_
      refine sq_v rfl (v_move rfl) rfl ?_
      refine sq_end ?_
      exact qs_bk (i + 1) ⟨by omega, step_all hn (fun h => c15 (by simpa using h.symm))⟩ (by omega) ⟨rfl, rfl, rfl, rfl, trivial⟩ (fun _ s => s)
  · refine wp_ex ?_
    refine qs_x ?_
    refine qs_x ?_
    refine qs_bx ?_
    refine qs_n ?_
    refine wp_sc ?_
    refine wp_sq ?_
    refine sq_v rfl (v_assign rfl) rfl ?_
    refine sq_end ?_
    refine qs_n ?_
    refine wp_rt ?_
    exact qs_ret1 rfl rfl (fin_q (i := 0) rfl (by congr 1; symm; rw [decide_eq_false_iff_not]; exact not_mem_of (fun j hj => hn j (by omega))))
theorem ct_s_l05Find (xs : List Int) (x : Int) (v : Value) (w : World) (r : IntsR xs v (hp w)) : Calls Try.prog 123 [v, num x].toArray w (RetV w (num (findI xs x))) := by
  have hx := r.le
  refine calls_in Try.func123 rfl Try.ntmps123 rfl (Sat.start w) ?_
  refine wp_sc ?_
  refine wp_sq ?_
  refine sq_v rfl (v_assign rfl) rfl ?_
  refine sq_end ?_
  refine qs_n ?_
  refine wp_sc ?_
  refine wp_sc ?_
  refine wp_sq ?_
  refine sq_v rfl (v_move rfl) rfl ?_
  refine sq_v rfl (v_len Try.underlying24 rfl r.sl) rfl ?_
  refine sq_v rfl (v_move rfl) rfl ?_
  refine sq_end ?_
  refine qs_n ?_
  refine wp_bl ?_
  refine wp_lp (fun i : Nat => [(1, num x), (7, v), (8, num xs.length), (9, num i)]) (fun _ => [hp w]) (fun i => i ≤ xs.length ∧ ∀ j, j < i → xs.getD j 0 ≠ x) (fun i => xs.length - i) 0 ⟨by omega, fun j hj => by omega⟩ ⟨rfl, rfl, rfl, rfl, trivial⟩ (fun _ s => s) ?_
  rintro i ⟨hi, hn⟩
  refine wp_sc ?_
  refine wp_sq ?_
  refine sq_v rfl (v_lss rfl rfl) rfl ?_
  refine sq_end ?_
  refine qs_n ?_
  refine wp_sc ?_
  refine wp_cd rfl (fun c10 => ?_) (fun c10 => ?_)
  · refine wp_sk ?_
    refine qs_n ?_
    refine wp_sc ?_
    refine wp_bl ?_
    refine wp_sc ?_
    refine wp_sq ?_
    refine sq_v rfl (v_move rfl) rfl ?_
    refine sq_v rfl (v_idxI Try.underlying24 ty_3 rfl rfl r (by omega) (by omega)) rfl ?_
    refine sq_v rfl (v_loadI  0 ty_3 rfl rfl r (by omega)) rfl ?_
    refine sq_v rfl (v_assign rfl) rfl ?_
    refine sq_v rfl (v_assign rfl) rfl ?_
    refine sq_end ?_
    refine qs_n ?_
    refine wp_sc ?_
    refine wp_sq ?_
    refine sq_v rfl (v_move rfl) rfl ?_
    refine sq_v rfl (v_move rfl) rfl ?_
    refine sq_v rfl (v_eql rfl rfl) rfl ?_
    refine sq_end ?_
    refine qs_n ?_
    refine wp_cd rfl (fun c16 => ?_) (fun c16 => ?_)
    · refine wp_sc ?_
      refine wp_sq ?_
      refine sq_v rfl (v_move rfl) rfl ?_
      refine sq_v rfl (v_assign rfl) rfl ?_
      refine sq_end ?_
      refine qs_n ?_
      refine wp_rt ?_
      refine qs_br ?_
      refine qs_r ?_
      refine qs_r ?_
      refine qs_br ?_
      refine qs_r ?_
      exact qs_ret1 rfl rfl (fin_q (i := 0) rfl (by rw [idx_first hn (by omega) c16]))
    · refine wp_sk ?_
      refine qs_bn ?_
      refine qs_n ?_
      refine wp_sq ?_
      refine sq_v rfl (v_add rfl rfl ((by unfold I64; omega))) rfl ?_
      refine sq_v rfl (v_move rfl) rfl ?_
      refine sq_end ?_
      exact qs_bk (i + 1) ⟨by omega, step_all hn c16⟩ (by omega) ⟨rfl, rfl, rfl, rfl, trivial⟩ (fun _ s => s)
  · refine wp_ex ?_
    refine qs_x ?_
    refine qs_x ?_
    refine qs_bx ?_
    refine qs_n ?_
    refine wp_sc ?_
    refine wp_sq ?_
    refine sq_v rfl (v_assign rfl) rfl ?_
    refine sq_end ?_
    refine qs_n ?_
    refine wp_rt ?_
    exact qs_ret1 rfl rfl (fin_q (i := 0) rfl (by rw [findI_none (not_mem_of (fun j hj => hn j (by omega)))]))

/-! ### axes -/
def axP (ls ds : List Int) (j : Nat) : Prop := (0 ≤ ls.getD j 0 ∧ ls.getD j 0 ≤ 99) ∧ (1 ≤ ds.getD j 0 ∧ ds.getD j 0 ≤ 8) ∧ ls.getD j 0 ∉ ls.take j
def axesL (ls ds : List Int) : Prop := ls.length ≤ 12 ∧ ls.length = ds.length ∧ ∀ j, j < ls.length → axP ls ds j
open Classical in
noncomputable def axesB (ls ds : List Int) : Bool := decide (axesL ls ds)
theorem axesB_no {ls ds : List Int} (h : ¬ axesL ls ds) : Value.bool false = .bool (axesB ls ds) := by simp [axesB, h]
theorem axesB_yes {ls ds : List Int} (h : axesL ls ds) : Value.bool true = .bool (axesB ls ds) := by simp [axesB, h]
theorem ct_s_l05Axes (ls ds : List Int) (u v : Value) (w : World) (r1 : IntsR ls u (hp w)) (r2 : IntsR ds v (hp w)) : Calls Try.prog 213 [u, v].toArray w (RetV w (.bool (axesB ls ds))) := by
  have hx := r1.le
  have hy := r2.le
  refine calls_in Try.func213 rfl Try.ntmps213 rfl (Sat.start w) ?_
  refine wp_sc ?_
  refine wp_sq ?_
  refine sq_v rfl (v_assign rfl) rfl ?_
  refine sq_end ?_
  refine qs_n ?_
  refine wp_sc ?_
  refine wp_sc ?_
  refine wp_sq ?_
  refine sq_v rfl (v_move rfl) rfl ?_
  refine sq_v rfl (v_len Try.underlying24 rfl r1.sl) rfl ?_
  refine sq_v rfl (v_gtr rfl rfl) rfl ?_
  refine sq_bd 9 rfl (fun c9 => ?_) (fun c9 => ?_)
  · refine sq_v rfl (v_move rfl) rfl ?_
    refine sq_s rfl rfl ?_
    refine sq_s rfl rfl ?_
    refine sq_s rfl rfl ?_
    refine sq_s rfl rfl ?_
    refine sq_s rfl rfl ?_
    refine sq_v rfl (v_pickt rfl rfl) rfl ?_
    refine sq_end ?_
    refine qs_n ?_
    refine wp_ct rfl ?_
    refine wp_sc ?_
    refine wp_sq ?_
    refine sq_v rfl (v_assign rfl) rfl ?_
    refine sq_end ?_
    refine qs_n ?_
    refine wp_rt ?_
    refine qs_r ?_
    exact qs_ret1 rfl rfl (fin_q (i := 0) rfl (axesB_no (fun h => by have := h.1; omega)))
  · refine sq_v rfl (v_move rfl) rfl ?_
    refine sq_v rfl (v_move rfl) rfl ?_
    refine sq_v rfl (v_len Try.underlying24 rfl r1.sl) rfl ?_
    refine sq_v rfl (v_move rfl) rfl ?_
    refine sq_v rfl (v_len Try.underlying24 rfl r2.sl) rfl ?_
    refine sq_v rfl (v_neq rfl rfl) rfl ?_
    refine sq_v rfl (v_pickf rfl rfl) rfl ?_
    refine sq_end ?_
    refine qs_n ?_
    refine wp_cd rfl (fun c16 => ?_) (fun c16 => ?_)
    · refine wp_sc ?_
      refine wp_sq ?_
      refine sq_v rfl (v_assign rfl) rfl ?_
      refine sq_end ?_
      refine qs_n ?_
      refine wp_rt ?_
      refine qs_r ?_
      exact qs_ret1 rfl rfl (fin_q (i := 0) rfl (axesB_no (fun h => by have := h.2.1; omega)))
    · refine wp_sk ?_
      refine qs_n ?_
      refine wp_sc ?_
      refine wp_sc ?_
      refine wp_sq ?_
      refine sq_v rfl (v_move rfl) rfl ?_
      refine sq_v rfl (v_len Try.underlying24 rfl r1.sl) rfl ?_
      refine sq_v rfl (v_move rfl) rfl ?_
      refine sq_end ?_
      refine qs_n ?_
      refine wp_bl ?_
      refine wp_lp (fun i : Nat => [(0, u), (1, v), (17, u), (18, num ls.length), (19, num i)]) (fun _ => [hp w]) (fun i => i ≤ ls.length ∧ ∀ j, j < i → axP ls ds j) (fun i => ls.length - i) 0 ⟨by omega, fun j hj => by omega⟩ ⟨rfl, rfl, rfl, rfl, rfl, trivial⟩ (fun _ s => s) ?_
      rintro i ⟨hi, hn⟩
      refine wp_sc ?_
      refine wp_sq ?_
      refine sq_v rfl (v_lss rfl rfl) rfl ?_
      refine sq_end ?_
      refine qs_n ?_
      refine wp_sc ?_
      refine wp_cd rfl (fun c20 => ?_) (fun c20 => ?_)
      · refine wp_sk ?_
        refine qs_n ?_
        refine wp_sc ?_
        refine wp_bl ?_
        refine wp_sc ?_
        refine wp_sq ?_
        refine sq_v rfl (v_move rfl) rfl ?_
        refine sq_v rfl (v_idxI Try.underlying24 ty_3 rfl rfl r1 (by omega) (by omega)) rfl ?_
        refine sq_v rfl (v_loadI  0 ty_3 rfl rfl r1 (by omega)) rfl ?_
        refine sq_v rfl (v_assign rfl) rfl ?_
        refine sq_v rfl (v_assign rfl) rfl ?_
        refine sq_end ?_
        refine qs_n ?_
        refine wp_sc ?_
        refine wp_sq ?_
        refine sq_v rfl (v_move rfl) rfl ?_
        refine sq_u rfl (x_callv rfl en_95 (fun w s => ct_s_l01In _ _ _ w)) rfl ?_
        refine sq_bd 25 rfl (fun c25 => ?_) (fun c25 => ?_)
        · refine sq_v rfl (v_not rfl) rfl ?_
          refine sq_v rfl (v_move rfl) rfl ?_
          refine sq_v rfl (v_move rfl) rfl ?_
          refine sq_v rfl (v_move rfl) rfl ?_
          refine sq_v rfl (v_idxI Try.underlying24 ty_3 rfl rfl r2 (by omega) (by omega)) rfl ?_
          refine sq_v rfl (v_loadI  0 ty_3 rfl rfl r2 (by omega)) rfl ?_
          refine sq_u rfl (x_callv rfl en_95 (fun w s => ct_s_l01In _ _ _ w)) rfl ?_
          refine sq_v rfl (v_not rfl) rfl ?_
          refine sq_v rfl (v_pickf rfl rfl) rfl ?_
          refine sq_bnd 34 rfl (fun c34 => ?_) (fun c34 => ?_)
          · refine sq_v rfl (v_move rfl) rfl ?_
            refine sq_s rfl rfl ?_
            refine sq_s rfl rfl ?_
            refine sq_s rfl rfl ?_
            refine sq_s rfl rfl ?_
            refine sq_s rfl rfl ?_
            refine sq_s rfl rfl ?_
            refine sq_v rfl (v_pickt rfl rfl) rfl ?_
            refine sq_end ?_
            refine qs_n ?_
            refine wp_ct rfl ?_
            refine wp_sc ?_
            refine wp_sq ?_
            refine sq_v rfl (v_assign rfl) rfl ?_
            refine sq_end ?_
            refine qs_n ?_
            refine wp_rt ?_
            refine qs_br ?_
            refine qs_r ?_
            refine qs_r ?_
            refine qs_br ?_
            refine qs_r ?_
            exact qs_ret1 rfl rfl (fin_q (i := 0) rfl (axesB_no (fun h => c34 (h.2.2 i (by omega)).2.1)))
          · refine sq_v rfl (v_move rfl) rfl ?_
            refine sq_v rfl (v_move rfl) rfl ?_
            refine sq_v rfl (v_move rfl) rfl ?_
            refine sq_v rfl (v_sliceH Try.underlying24 ty_3 rfl rfl  r1 (by omega) (by omega)) rfl ?_
            refine sq_v rfl (v_move rfl) rfl ?_
            refine sq_u rfl (x_callv rfl en_123 (fun w s => ct_s_l05Find _ _ _ w ((r1.subH (by omega)).mono (s.get 0 rfl)))) rfl ?_
            refine sq_v rfl (v_geq rfl rfl) rfl ?_
            refine sq_v rfl (v_pickf rfl rfl) rfl ?_
            refine sq_end ?_
            refine qs_n ?_
            refine wp_cd rfl (fun c42 => ?_) (fun c42 => ?_)
            · refine wp_sc ?_
              refine wp_sq ?_
              refine sq_v rfl (v_assign rfl) rfl ?_
              refine sq_end ?_
              refine qs_n ?_
              refine wp_rt ?_
              refine qs_br ?_
              refine qs_r ?_
              refine qs_r ?_
              refine qs_br ?_
              refine qs_r ?_
              exact qs_ret1 rfl rfl (fin_q (i := 0) rfl (axesB_no (fun h => (h.2.2 i (by omega)).2.2 (findI_ge.1 c42))))
            · refine wp_sk ?_
              refine qs_bn ?_
              refine qs_n ?_
              refine wp_sq ?_
              refine sq_v rfl (v_add rfl rfl ((by unfold I64; omega))) rfl ?_
              refine sq_v rfl (v_move rfl) rfl ?_
              refine sq_end ?_
              exact qs_bk (i + 1) ⟨by omega, step_all hn ⟨c25, c34, fun h => c42 (findI_ge.2 h)⟩⟩ (by omega) ⟨rfl, rfl, rfl, rfl, rfl, trivial⟩ (fun _ s => s)
        · refine sq_v rfl (v_not rfl) rfl ?_
          refine sq_v rfl (v_move rfl) rfl ?_
          refine sq_s rfl rfl ?_
          refine sq_s rfl rfl ?_
          refine sq_s rfl rfl ?_
          refine sq_s rfl rfl ?_
          refine sq_s rfl rfl ?_
          refine sq_s rfl rfl ?_
          refine sq_v rfl (v_pickt rfl rfl) rfl ?_
          refine sq_v rfl (v_move rfl) rfl ?_
          refine sq_s rfl rfl ?_
          refine sq_s rfl rfl ?_
          refine sq_s rfl rfl ?_
          refine sq_s rfl rfl ?_
          refine sq_s rfl rfl ?_
          refine sq_s rfl rfl ?_
          refine sq_v rfl (v_pickt rfl rfl) rfl ?_
          refine sq_end ?_
          refine qs_n ?_
          refine wp_ct rfl ?_
          refine wp_sc ?_
          refine wp_sq ?_
          refine sq_v rfl (v_assign rfl) rfl ?_
          refine sq_end ?_
          refine qs_n ?_
          refine wp_rt ?_
          refine qs_br ?_
          refine qs_r ?_
          refine qs_r ?_
          refine qs_br ?_
          refine qs_r ?_
          exact qs_ret1 rfl rfl (fin_q (i := 0) rfl (axesB_no (fun h => c25 (h.2.2 i (by omega)).1)))
      · refine wp_ex ?_
        refine qs_x ?_
        refine qs_x ?_
        refine qs_bx ?_
        refine qs_n ?_
        refine wp_sc ?_
        refine wp_sq ?_
        refine sq_v rfl (v_assign rfl) rfl ?_
        refine sq_end ?_
        refine qs_n ?_
        refine wp_rt ?_
        exact qs_ret1 rfl rfl (fin_q (i := 0) rfl (axesB_yes ⟨by omega, by omega, fun j hj => hn j (by omega)⟩))

/-! ### products -/
def prodI (ds : List Int) : Int := ds.foldl (· * ·) 1
theorem prodI_snoc (ds : List Int) (d : Int) : prodI (ds ++ [d]) = prodI ds * d := by simp [prodI]
theorem prodI_step {ds : List Int} {i : Nat} (h : i < ds.length) : prodI (ds.take (i + 1)) = prodI (ds.take i) * ds.getD i 0 := by rw [take_succ h, prodI_snoc]
theorem prodI_pos {ds : List Int} (h : ∀ j, j < ds.length → 1 ≤ ds.getD j 0) : ∀ i, i ≤ ds.length → 1 ≤ prodI (ds.take i)
  | 0, _ => by simp [prodI]
  | i + 1, hi => by
    rw [prodI_step (by omega)]
    have h1 := prodI_pos h i (by omega)
    have h2 := h i (by omega)
    have := Int.mul_le_mul h1 h2 (by omega) (by omega)
    omega
theorem prodI_mono {ds : List Int} (h : ∀ j, j < ds.length → 1 ≤ ds.getD j 0) (i : Nat) : ∀ k, i ≤ k → k ≤ ds.length → prodI (ds.take i) ≤ prodI (ds.take k) := by
  intro k hik
  induction k with
  | zero => intro _; have : i = 0 := by omega
            subst this; exact Int.le_refl _
  | succ k ih =>
    intro hk
    by_cases e : i = k + 1
    · subst e; exact Int.le_refl _
    · have h1 := ih (by omega) (by omega)
      rw [prodI_step (by omega)]
      have h2 := prodI_pos h k (by omega)
      have h3 := h k (by omega)
      have : prodI (ds.take k) * 1 ≤ prodI (ds.take k) * ds.getD k 0 := Int.mul_le_mul_of_nonneg_left h3 (by omega)
      omega
theorem min_step {p d L : Int} (hp1 : 1 ≤ p) (hd : 1 ≤ d) (hL : 0 ≤ L) : min (min p (L + 1) * d) (L + 1) = min (p * d) (L + 1) := by
  rcases Int.le_total p (L + 1) with h | h
  · rw [Int.min_eq_left h]
  · rw [Int.min_eq_right h]
    have h1 : (L + 1) * 1 ≤ (L + 1) * d := Int.mul_le_mul_of_nonneg_left hd (by omega)
    have h2 : p * 1 ≤ p * d := Int.mul_le_mul_of_nonneg_left hd (by omega)
    rw [Int.min_eq_right (by omega), Int.min_eq_right (by omega)]
def dimsIn (ds : List Int) : Prop := ∀ j, j < ds.length → 1 ≤ ds.getD j 0 ∧ ds.getD j 0 ≤ 8
theorem ct_s_l05Product (ds : List Int) (L : Int) (v : Value) (w : World) (r : IntsR ds v (hp w)) (hd : dimsIn ds) (hL : 0 ≤ L ∧ L ≤ 1000000000000) : Calls Try.prog 120 [v, num L].toArray w (RetV w (num (min (prodI ds) (L + 1)))) := by
  have hx := r.le
  refine calls_in Try.func120 rfl Try.ntmps120 rfl (Sat.start w) ?_
  refine wp_sc ?_
  refine wp_sq ?_
  refine sq_v rfl (v_assign rfl) rfl ?_
  refine sq_end ?_
  refine qs_n ?_
  refine wp_sc ?_
  refine wp_sq ?_
  refine sq_v rfl (v_assign rfl) rfl ?_
  refine sq_end ?_
  refine qs_n ?_
  refine wp_sc ?_
  refine wp_sc ?_
  refine wp_sq ?_
  refine sq_v rfl (v_move rfl) rfl ?_
  refine sq_v rfl (v_len Try.underlying24 rfl r.sl) rfl ?_
  refine sq_v rfl (v_move rfl) rfl ?_
  refine sq_end ?_
  refine qs_n ?_
  refine wp_bl ?_
  refine wp_lp (fun s : Nat × Int => [(1, num L), (5, num s.2), (8, v), (9, num ds.length), (10, num s.1)]) (fun _ => [hp w]) (fun s => s.1 ≤ ds.length ∧ s.2 = min (prodI (ds.take s.1)) (L + 1)) (fun s => ds.length - s.1) (0, 1) ⟨by omega, by simp [prodI]; omega⟩ ⟨rfl, rfl, rfl, rfl, rfl, trivial⟩ (fun _ s => s) ?_
  rintro ⟨i, q⟩ ⟨hi, hq⟩
  simp only at hi hq
  dsimp only
  have hpp := prodI_pos (fun j hj => (hd j hj).1) i hi
  have hq1 : 1 ≤ q ∧ q ≤ 1000000000001 := by omega
  refine wp_sc ?_
  refine wp_sq ?_
  refine sq_v rfl (v_lss rfl rfl) rfl ?_
  refine sq_end ?_
  refine qs_n ?_
  refine wp_sc ?_
  refine wp_cd rfl (fun c11 => ?_) (fun c11 => ?_)
  · refine wp_sk ?_
    refine qs_n ?_
    refine wp_sc ?_
    refine wp_bl ?_
    refine wp_sc ?_
    refine wp_sq ?_
    refine sq_v rfl (v_idxI Try.underlying24 ty_3 rfl rfl r (by omega) (by omega)) rfl ?_
    refine sq_v rfl (v_loadI  0 ty_3 rfl rfl r (by omega)) rfl ?_
    refine sq_v rfl (v_assign rfl) rfl ?_
    refine sq_end ?_
    refine qs_n ?_
    refine wp_sq ?_
    refine sq_v rfl (v_move rfl) rfl ?_
    refine sq_v rfl (v_move rfl) rfl ?_
    have hdi := hd i (by omega)
    refine sq_v rfl (v_mul rfl rfl ((by simp only [Int.toNat_natCast]; have h1 : q * ds.getD i 0 ≤ 1000000000001 * 8 := Int.mul_le_mul hq1.2 hdi.2 (by omega) (by omega); have h2 : 0 ≤ q * ds.getD i 0 := Int.mul_nonneg (by omega) (by omega); unfold I64; omega))) rfl ?_
    refine sq_v rfl (v_move rfl) rfl ?_
    refine sq_v rfl (v_add rfl rfl ((by unfold I64; omega))) rfl ?_
    refine sq_v rfl (v_min rfl rfl) rfl ?_
    refine sq_v rfl (v_assign rfl) rfl ?_
    refine sq_end ?_
    refine qs_bn ?_
    refine qs_n ?_
    refine wp_sq ?_
    refine sq_v rfl (v_add rfl rfl ((by unfold I64; omega))) rfl ?_
    refine sq_v rfl (v_move rfl) rfl ?_
    refine sq_end ?_
    exact qs_bk (i + 1, min (q * ds.getD i 0) (L + 1)) ⟨by simp only; omega, by simp only; rw [hq, min_step hpp hdi.1 hL.1, prodI_step (by omega)]⟩ (by simp only; omega) ⟨rfl, rfl, rfl, rfl, rfl, trivial⟩ (fun _ s => s)
  · refine wp_ex ?_
    refine qs_x ?_
    refine qs_x ?_
    refine qs_bx ?_
    refine qs_n ?_
    refine wp_sc ?_
    refine wp_sq ?_
    refine sq_v rfl (v_move rfl) rfl ?_
    refine sq_v rfl (v_assign rfl) rfl ?_
    refine sq_end ?_
    refine qs_n ?_
    refine wp_rt ?_
    exact qs_ret1 rfl rfl (fin_q (i := 0) rfl (by rw [hq, List.take_of_length_le (by omega)]))
theorem ct_i_productOf (ds : List Int) (v : Value) (w : World) (r : IntsR ds v (hp w)) (hd : dimsIn ds) (hl : prodI ds ≤ 1000000000000) : Calls Try.prog 159 [v].toArray w (RetV w (num (prodI ds))) := by
  have hx := r.le
  refine calls_in Try.func159 rfl Try.ntmps159 rfl (Sat.start w) ?_
  refine wp_sc ?_
  refine wp_sq ?_
  refine sq_v rfl (v_assign rfl) rfl ?_
  refine sq_end ?_
  refine qs_n ?_
  refine wp_sc ?_
  refine wp_sq ?_
  refine sq_v rfl (v_assign rfl) rfl ?_
  refine sq_end ?_
  refine qs_n ?_
  refine wp_sc ?_
  refine wp_sc ?_
  refine wp_sq ?_
  refine sq_v rfl (v_move rfl) rfl ?_
  refine sq_v rfl (v_len Try.underlying24 rfl r.sl) rfl ?_
  refine sq_v rfl (v_move rfl) rfl ?_
  refine sq_end ?_
  refine qs_n ?_
  refine wp_bl ?_
  refine wp_lp (fun i : Nat => [(3, num (prodI (ds.take i))), (6, v), (7, num ds.length), (8, num i)]) (fun _ => [hp w]) (fun i => i ≤ ds.length) (fun i => ds.length - i) 0 (by omega) ⟨rfl, rfl, rfl, rfl, trivial⟩ (fun _ s => s) ?_
  rintro i hi
  have hpp := prodI_pos (fun j hj => (hd j hj).1) i hi
  refine wp_sc ?_
  refine wp_sq ?_
  refine sq_v rfl (v_lss rfl rfl) rfl ?_
  refine sq_end ?_
  refine qs_n ?_
  refine wp_sc ?_
  refine wp_cd rfl (fun c9 => ?_) (fun c9 => ?_)
  · refine wp_sk ?_
    refine qs_n ?_
    refine wp_sc ?_
    refine wp_bl ?_
    refine wp_sc ?_
    refine wp_sq ?_
    refine sq_v rfl (v_idxI Try.underlying24 ty_3 rfl rfl r (by omega) (by omega)) rfl ?_
    refine sq_v rfl (v_loadI  0 ty_3 rfl rfl r (by omega)) rfl ?_
    refine sq_v rfl (v_assign rfl) rfl ?_
    refine sq_end ?_
    refine qs_n ?_
    refine wp_sq ?_
    refine sq_v rfl (v_move rfl) rfl ?_
    refine sq_v rfl (v_move rfl) rfl ?_
    have hst : prodI (ds.take (i + 1)) = prodI (ds.take i) * ds.getD i 0 := prodI_step (by omega)
    refine sq_v rfl (v_mul rfl rfl ((by simp only [Int.toNat_natCast]; rw [← hst]; have h1 := prodI_mono (fun j hj => (hd j hj).1) (i + 1) ds.length (by omega) (by omega); have h2 := prodI_pos (fun j hj => (hd j hj).1) (i + 1) (by omega); rw [List.take_length] at h1; unfold I64; omega))) rfl ?_
    refine sq_v rfl (v_assign rfl) rfl ?_
    refine sq_end ?_
    refine qs_bn ?_
    refine qs_n ?_
    refine wp_sq ?_
    refine sq_v rfl (v_add rfl rfl ((by unfold I64; omega))) rfl ?_
    refine sq_v rfl (v_move rfl) rfl ?_
    refine sq_end ?_
    exact qs_bk (i + 1) (by omega) (by omega) ⟨by rw [hst]; rfl, rfl, rfl, rfl, trivial⟩ (fun _ s => s)
  · refine wp_ex ?_
    refine qs_x ?_
    refine qs_x ?_
    refine qs_bx ?_
    refine qs_n ?_
    refine wp_sc ?_
    refine wp_sq ?_
    refine sq_v rfl (v_move rfl) rfl ?_
    refine sq_v rfl (v_assign rfl) rfl ?_
    refine sq_end ?_
    refine qs_n ?_
    refine wp_rt ?_
    exact qs_ret1 rfl rfl (fin_q (i := 0) rfl (by rw [List.take_of_length_le (by omega)]))

/-! ### sizes -/
open Classical in
noncomputable def sizeI (ls ds : List Int) : Int := if axesL ls ds ∧ prodI ds ≤ 4096 then prodI ds else -1
theorem axes_dims {ls ds : List Int} (h : axesL ls ds) : dimsIn ds := fun j hj => (h.2.2 j (by rw [h.2.1]; exact hj)).2.1
theorem sizeI_yes {ls ds : List Int} (h : axesL ls ds) (h1 : prodI ds ≤ 4096) : sizeI ls ds = prodI ds := by simp [sizeI, h, h1]
theorem sizeI_no {ls ds : List Int} (h : ¬ (axesL ls ds ∧ prodI ds ≤ 4096)) : sizeI ls ds = -1 := by simp only [sizeI, if_neg h]
theorem sizeI_ge {ls ds : List Int} : 0 ≤ sizeI ls ds ↔ axesL ls ds ∧ prodI ds ≤ 4096 := by
  by_cases h : axesL ls ds ∧ prodI ds ≤ 4096
  · have := prodI_pos (fun j hj => (axes_dims h.1 j hj).1) ds.length (Nat.le_refl _)
    rw [List.take_length] at this
    rw [sizeI_yes h.1 h.2]
    exact ⟨fun _ => h, fun _ => by omega⟩
  · rw [sizeI_no h]
    exact ⟨fun h' => by omega, fun h' => absurd h' h⟩
theorem sizeI_range (ls ds : List Int) : sizeI ls ds = -1 ∨ (1 ≤ sizeI ls ds ∧ sizeI ls ds ≤ 4096) := by
  by_cases h : axesL ls ds ∧ prodI ds ≤ 4096
  · have := prodI_pos (fun j hj => (axes_dims h.1 j hj).1) ds.length (Nat.le_refl _)
    rw [List.take_length] at this
    rw [sizeI_yes h.1 h.2]
    exact .inr ⟨this, h.2⟩
  · exact .inl (sizeI_no h)
abbrev tenV (a b c : Value) : Value := .agg [a, b, c].toArray
theorem ct_s_TensorSize (ls ds : List Int) (a b c : Value) (w : World) (r1 : IntsR ls a (hp w)) (r2 : IntsR ds b (hp w)) : Calls Try.prog 157 [tenV a b c].toArray w (RetV w (num (sizeI ls ds))) := by
  refine calls_in Try.func157 rfl Try.ntmps157 rfl (Sat.start w) ?_
  refine wp_sc ?_
  refine wp_sq ?_
  refine sq_x rfl (x_box rfl rfl) rfl ?_; rintro _ _ ⟨b1, rfl, rfl⟩
  refine sq_v rfl (v_assign rfl) rfl ?_
  refine sq_end ?_
  refine qs_n ?_
  refine wp_sc ?_
  refine wp_sc ?_
  refine wp_sq ?_
  refine sq_v rfl (v_fieldAddr fd_28_0 ty_24 (by decide) rfl) rfl ?_
  refine sq_v rfl (v_loadB 0 ty_24 rfl rfl rfl) rfl ?_
  refine sq_v rfl (v_fieldAddr fd_28_1 ty_24 (by decide) rfl) rfl ?_
  refine sq_v rfl (v_loadB 0 ty_24 rfl rfl rfl) rfl ?_
  refine sq_u rfl (x_callv rfl en_213 (fun w s => ct_s_l05Axes _ _ _ _ w (r1.mono (s.get 1 rfl)) (r2.mono (s.get 1 rfl)))) rfl ?_
  refine sq_v rfl (v_not rfl) rfl ?_
  refine sq_end ?_
  refine qs_n ?_
  refine wp_cn _ rfl (fun c9 => ?_) (fun c9 => ?_)
  · refine wp_sc ?_
    refine wp_sq ?_
    refine sq_v rfl (v_assign rfl) rfl ?_
    refine sq_end ?_
    refine qs_n ?_
    refine wp_rt ?_
    refine qs_r ?_
    exact qs_ret1 rfl rfl (fin_q (i := 1) rfl (by rw [sizeI_no (fun h => by simp [axesB, h.1] at c9)]))
  · refine wp_sk ?_
    refine qs_n ?_
    refine wp_sc ?_
    refine wp_sq ?_
    refine sq_v rfl (v_fieldAddr fd_28_1 ty_24 (by decide) rfl) rfl ?_
    refine sq_v rfl (v_loadB 0 ty_24 rfl rfl rfl) rfl ?_
    have hax : axesL ls ds := by simpa [axesB] using c9
    refine sq_u rfl (x_callv rfl en_120 (fun w s => ct_s_l05Product _ _ _ w (r2.mono (s.get 1 rfl)) (axes_dims hax) (by omega))) rfl ?_
    refine sq_v rfl (v_assign rfl) rfl ?_
    refine sq_end ?_
    refine qs_n ?_
    refine wp_sc ?_
    refine wp_sc ?_
    refine wp_sq ?_
    refine sq_v rfl (v_move rfl) rfl ?_
    refine sq_v rfl (v_gtr rfl rfl) rfl ?_
    refine sq_end ?_
    refine qs_n ?_
    refine wp_cd rfl (fun c14 => ?_) (fun c14 => ?_)
    · refine wp_sc ?_
      refine wp_sq ?_
      refine sq_v rfl (v_assign rfl) rfl ?_
      refine sq_end ?_
      refine qs_n ?_
      refine wp_rt ?_
      refine qs_r ?_
      exact qs_ret1 rfl rfl (fin_q (i := 1) rfl (by rw [sizeI_no (fun h => by have := h.2; omega)]))
    · refine wp_sk ?_
      refine qs_n ?_
      refine wp_sc ?_
      refine wp_sq ?_
      refine sq_v rfl (v_move rfl) rfl ?_
      refine sq_v rfl (v_assign rfl) rfl ?_
      refine sq_end ?_
      refine qs_n ?_
      refine wp_rt ?_
      exact qs_ret1 rfl rfl (fin_q (i := 1) rfl (by rw [sizeI_yes hax (by omega), Int.min_eq_left (by omega)]))
theorem ct_i_TensorSize (ls ds : List Int) (a b c : Value) (w : World) (r1 : IntsR ls a (hp w)) (r2 : IntsR ds b (hp w)) : Calls Try.prog 160 [tenV a b c].toArray w (RetV w (num (sizeI ls ds))) := by
  have hx := r1.le
  have hy := r2.le
  refine calls_in Try.func160 rfl Try.ntmps160 rfl (Sat.start w) ?_
  refine wp_sc ?_
  refine wp_sq ?_
  refine sq_x rfl (x_box rfl rfl) rfl ?_; rintro _ _ ⟨b1, rfl, rfl⟩
  refine sq_v rfl (v_assign rfl) rfl ?_
  refine sq_end ?_
  refine qs_n ?_
  refine wp_sc ?_
  refine wp_sc ?_
  refine wp_sq ?_
  refine sq_v rfl (v_fieldAddr fd_28_0 ty_24 (by decide) rfl) rfl ?_
  refine sq_v rfl (v_loadB 0 ty_24 rfl rfl rfl) rfl ?_
  refine sq_v rfl (v_len Try.underlying24 rfl r1.sl) rfl ?_
  refine sq_v rfl (v_gtr rfl rfl) rfl ?_
  refine sq_bd 10 rfl (fun c10 => ?_) (fun c10 => ?_)
  · refine sq_v rfl (v_move rfl) rfl ?_
    refine sq_s rfl rfl ?_
    refine sq_s rfl rfl ?_
    refine sq_s rfl rfl ?_
    refine sq_s rfl rfl ?_
    refine sq_s rfl rfl ?_
    refine sq_s rfl rfl ?_
    refine sq_s rfl rfl ?_
    refine sq_v rfl (v_pickt rfl rfl) rfl ?_
    refine sq_end ?_
    refine qs_n ?_
    refine wp_ct rfl ?_
    refine wp_sc ?_
    refine wp_sq ?_
    refine sq_v rfl (v_assign rfl) rfl ?_
    refine sq_end ?_
    refine qs_n ?_
    refine wp_rt ?_
    refine qs_r ?_
    exact qs_ret1 rfl rfl (fin_q (i := 1) rfl (by rw [sizeI_no (fun h => by have := h.1.1; omega)]))
  · refine sq_v rfl (v_move rfl) rfl ?_
    refine sq_v rfl (v_fieldAddr fd_28_0 ty_24 (by decide) rfl) rfl ?_
    refine sq_v rfl (v_loadB 0 ty_24 rfl rfl rfl) rfl ?_
    refine sq_v rfl (v_len Try.underlying24 rfl r1.sl) rfl ?_
    refine sq_v rfl (v_fieldAddr fd_28_1 ty_24 (by decide) rfl) rfl ?_
    refine sq_v rfl (v_loadB 0 ty_24 rfl rfl rfl) rfl ?_
    refine sq_v rfl (v_len Try.underlying24 rfl r2.sl) rfl ?_
    refine sq_v rfl (v_neq rfl rfl) rfl ?_
    refine sq_v rfl (v_pickf rfl rfl) rfl ?_
    refine sq_end ?_
    refine qs_n ?_
    refine wp_cd rfl (fun c19 => ?_) (fun c19 => ?_)
    · refine wp_sc ?_
      refine wp_sq ?_
      refine sq_v rfl (v_assign rfl) rfl ?_
      refine sq_end ?_
      refine qs_n ?_
      refine wp_rt ?_
      refine qs_r ?_
      exact qs_ret1 rfl rfl (fin_q (i := 1) rfl (by rw [sizeI_no (fun h => by have := h.1.2.1; omega)]))
    · refine wp_sk ?_
      refine qs_n ?_
      refine wp_sc ?_
      refine wp_sq ?_
      refine sq_v rfl (v_assign rfl) rfl ?_
      refine sq_end ?_
      refine qs_n ?_
      refine wp_sc ?_
      refine wp_sc ?_
      refine wp_sq ?_
      refine sq_v rfl (v_fieldAddr fd_28_0 ty_24 (by decide) rfl) rfl ?_
      refine sq_v rfl (v_loadB 0 ty_24 rfl rfl rfl) rfl ?_
      refine sq_v rfl (v_len Try.underlying24 rfl r1.sl) rfl ?_
      refine sq_v rfl (v_move rfl) rfl ?_
      refine sq_end ?_
      refine qs_n ?_
      refine wp_bl ?_
      refine wp_lp (fun i : Nat => [(1, .pointer (some ⟨b1, 0, none⟩)), (3, num (prodI (ds.take i))), (21, a), (22, num ls.length), (23, num i)]) (fun _ => [box b1 [a, b, c] 28, hp w]) (fun i => i ≤ ls.length ∧ (∀ j, j < i → axP ls ds j) ∧ 1 ≤ prodI (ds.take i) ∧ prodI (ds.take i) ≤ 4096) (fun i => ls.length - i) 0 ⟨by omega, fun j hj => by omega, by simp [prodI]⟩ ⟨rfl, rfl, rfl, rfl, rfl, trivial⟩ (fun _ s => s) ?_
      rintro i ⟨hi, hn, hp1, hp2⟩
      refine wp_sc ?_
      refine wp_sq ?_
      refine sq_v rfl (v_lss rfl rfl) rfl ?_
      refine sq_end ?_
      refine qs_n ?_
      refine wp_sc ?_
      refine wp_cd rfl (fun c24 => ?_) (fun c24 => ?_)
      · refine wp_sk ?_
        refine qs_n ?_
        refine wp_sc ?_
        refine wp_bl ?_
        refine wp_sc ?_
        refine wp_sq ?_
        refine sq_v rfl (v_move rfl) rfl ?_
        refine sq_v rfl (v_idxI Try.underlying24 ty_3 rfl rfl r1 (by omega) (by omega)) rfl ?_
        refine sq_v rfl (v_loadI  1 ty_3 rfl rfl r1 (by omega)) rfl ?_
        refine sq_v rfl (v_assign rfl) rfl ?_
        refine sq_v rfl (v_assign rfl) rfl ?_
        refine sq_end ?_
        refine qs_n ?_
        refine wp_sc ?_
        refine wp_sc ?_
        refine wp_sq ?_
        refine sq_v rfl (v_move rfl) rfl ?_
        refine sq_v rfl (v_lss rfl rfl) rfl ?_
        refine sq_bd 29 rfl (fun c29 => ?_) (fun c29 => ?_)
        · refine sq_v rfl (v_move rfl) rfl ?_
          refine sq_s rfl rfl ?_
          refine sq_s rfl rfl ?_
          refine sq_v rfl (v_pickt rfl rfl) rfl ?_
          refine sq_v rfl (v_move rfl) rfl ?_
          refine sq_s rfl rfl ?_
          refine sq_s rfl rfl ?_
          refine sq_s rfl rfl ?_
          refine sq_s rfl rfl ?_
          refine sq_s rfl rfl ?_
          refine sq_s rfl rfl ?_
          refine sq_v rfl (v_pickt rfl rfl) rfl ?_
          refine sq_end ?_
          refine qs_n ?_
          refine wp_ct rfl ?_
          refine wp_sc ?_
          refine wp_sq ?_
          refine sq_v rfl (v_assign rfl) rfl ?_
          refine sq_end ?_
          refine qs_n ?_
          refine wp_rt ?_
          refine qs_r ?_
          refine qs_br ?_
          refine qs_r ?_
          refine qs_r ?_
          refine qs_br ?_
          refine qs_r ?_
          exact qs_ret1 rfl rfl (fin_q (i := 1) rfl (by rw [sizeI_no (fun h => by have := (h.1.2.2 i (by omega)).1; simp only [Int.toNat_natCast] at c29; omega)]))
        · refine sq_v rfl (v_move rfl) rfl ?_
          refine sq_v rfl (v_move rfl) rfl ?_
          refine sq_v rfl (v_gtr rfl rfl) rfl ?_
          refine sq_v rfl (v_pickf rfl rfl) rfl ?_
          refine sq_bd 33 rfl (fun c33 => ?_) (fun c33 => ?_)
          · refine sq_v rfl (v_move rfl) rfl ?_
            refine sq_s rfl rfl ?_
            refine sq_s rfl rfl ?_
            refine sq_s rfl rfl ?_
            refine sq_s rfl rfl ?_
            refine sq_s rfl rfl ?_
            refine sq_s rfl rfl ?_
            refine sq_v rfl (v_pickt rfl rfl) rfl ?_
            refine sq_end ?_
            refine qs_n ?_
            refine wp_ct rfl ?_
            refine wp_sc ?_
            refine wp_sq ?_
            refine sq_v rfl (v_assign rfl) rfl ?_
            refine sq_end ?_
            refine qs_n ?_
            refine wp_rt ?_
            refine qs_r ?_
            refine qs_br ?_
            refine qs_r ?_
            refine qs_r ?_
            refine qs_br ?_
            refine qs_r ?_
            exact qs_ret1 rfl rfl (fin_q (i := 1) rfl (by rw [sizeI_no (fun h => by have := (h.1.2.2 i (by omega)).1; simp only [Int.toNat_natCast] at c33; omega)]))
          · refine sq_v rfl (v_move rfl) rfl ?_
            refine sq_v rfl (v_fieldAddr fd_28_0 ty_24 (by decide) rfl) rfl ?_
            refine sq_v rfl (v_loadB 0 ty_24 rfl rfl rfl) rfl ?_
            refine sq_v rfl (v_move rfl) rfl ?_
            refine sq_v rfl (v_sliceH Try.underlying24 ty_3 rfl rfl  r1 (by omega) (by omega)) rfl ?_
            refine sq_v rfl (v_move rfl) rfl ?_
            refine sq_u rfl (x_callv rfl en_212 (fun w s => ct_i_hasInt _ _ _ w ((r1.subH (by omega)).mono (s.get 1 rfl)))) rfl ?_
            refine sq_v rfl (v_pickf rfl rfl) rfl ?_
            refine sq_end ?_
            refine qs_n ?_
            refine wp_cd rfl (fun c41 => ?_) (fun c41 => ?_)
            · refine wp_sc ?_
              refine wp_sq ?_
              refine sq_v rfl (v_assign rfl) rfl ?_
              refine sq_end ?_
              refine qs_n ?_
              refine wp_rt ?_
              refine qs_r ?_
              refine qs_br ?_
              refine qs_r ?_
              refine qs_r ?_
              refine qs_br ?_
              refine qs_r ?_
              exact qs_ret1 rfl rfl (fin_q (i := 1) rfl (by rw [sizeI_no (fun h => (h.1.2.2 i (by omega)).2.2 c41)]))
            · refine wp_sk ?_
              refine qs_n ?_
              refine wp_sc ?_
              refine wp_sq ?_
              refine sq_v rfl (v_fieldAddr fd_28_1 ty_24 (by decide) rfl) rfl ?_
              refine sq_v rfl (v_loadB 0 ty_24 rfl rfl rfl) rfl ?_
              refine sq_v rfl (v_move rfl) rfl ?_
              refine sq_v rfl (v_idxI Try.underlying24 ty_3 rfl rfl r2 (by omega) (by omega)) rfl ?_
              refine sq_v rfl (v_loadI  1 ty_3 rfl rfl r2 (by omega)) rfl ?_
              refine sq_v rfl (v_assign rfl) rfl ?_
              refine sq_end ?_
              refine qs_n ?_
              refine wp_sc ?_
              refine wp_sc ?_
              refine wp_sq ?_
              refine sq_v rfl (v_move rfl) rfl ?_
              refine sq_v rfl (v_lss rfl rfl) rfl ?_
              refine sq_bd 48 rfl (fun c48 => ?_) (fun c48 => ?_)
              · refine sq_v rfl (v_move rfl) rfl ?_
                refine sq_s rfl rfl ?_
                refine sq_s rfl rfl ?_
                refine sq_v rfl (v_pickt rfl rfl) rfl ?_
                refine sq_v rfl (v_move rfl) rfl ?_
                refine sq_s rfl rfl ?_
                refine sq_s rfl rfl ?_
                refine sq_s rfl rfl ?_
                refine sq_s rfl rfl ?_
                refine sq_v rfl (v_pickt rfl rfl) rfl ?_
                refine sq_end ?_
                refine qs_n ?_
                refine wp_ct rfl ?_
                refine wp_sc ?_
                refine wp_sq ?_
                refine sq_v rfl (v_assign rfl) rfl ?_
                refine sq_end ?_
                refine qs_n ?_
                refine wp_rt ?_
                refine qs_r ?_
                refine qs_br ?_
                refine qs_r ?_
                refine qs_r ?_
                refine qs_br ?_
                refine qs_r ?_
                exact qs_ret1 rfl rfl (fin_q (i := 1) rfl (by rw [sizeI_no (fun h => by have := (h.1.2.2 i (by omega)).2.1; simp only [Int.toNat_natCast] at c48; omega)]))
              · refine sq_v rfl (v_move rfl) rfl ?_
                refine sq_v rfl (v_move rfl) rfl ?_
                refine sq_v rfl (v_gtr rfl rfl) rfl ?_
                refine sq_v rfl (v_pickf rfl rfl) rfl ?_
                refine sq_bd 52 rfl (fun c52 => ?_) (fun c52 => ?_)
                · refine sq_v rfl (v_move rfl) rfl ?_
                  refine sq_s rfl rfl ?_
                  refine sq_s rfl rfl ?_
                  refine sq_s rfl rfl ?_
                  refine sq_s rfl rfl ?_
                  refine sq_v rfl (v_pickt rfl rfl) rfl ?_
                  refine sq_end ?_
                  refine qs_n ?_
                  refine wp_ct rfl ?_
                  refine wp_sc ?_
                  refine wp_sq ?_
                  refine sq_v rfl (v_assign rfl) rfl ?_
                  refine sq_end ?_
                  refine qs_n ?_
                  refine wp_rt ?_
                  refine qs_r ?_
                  refine qs_br ?_
                  refine qs_r ?_
                  refine qs_r ?_
                  refine qs_br ?_
                  refine qs_r ?_
                  exact qs_ret1 rfl rfl (fin_q (i := 1) rfl (by rw [sizeI_no (fun h => by have := (h.1.2.2 i (by omega)).2.1; simp only [Int.toNat_natCast] at c52; omega)]))
                · refine sq_v rfl (v_move rfl) rfl ?_
                  refine sq_v rfl (v_move rfl) rfl ?_
                  refine sq_v rfl (v_move rfl) rfl ?_
                  refine sq_v rfl (v_mul rfl rfl ((by simp only [Int.toNat_natCast] at *; have h1 : prodI (ds.take i) * ds.getD i 0 ≤ 4096 * 8 := Int.mul_le_mul hp2 (by omega) (by omega) (by omega); have h2 : 0 ≤ prodI (ds.take i) * ds.getD i 0 := Int.mul_nonneg (by omega) (by omega); unfold I64; omega))) rfl ?_
                  refine sq_v rfl (v_gtr rfl rfl) rfl ?_
                  refine sq_v rfl (v_pickf rfl rfl) rfl ?_
                  refine sq_end ?_
                  refine qs_n ?_
                  refine wp_cd rfl (fun c58 => ?_) (fun c58 => ?_)
                  · refine wp_sc ?_
                    refine wp_sq ?_
                    refine sq_v rfl (v_assign rfl) rfl ?_
                    refine sq_end ?_
                    refine qs_n ?_
                    refine wp_rt ?_
                    refine qs_r ?_
                    refine qs_br ?_
                    refine qs_r ?_
                    refine qs_r ?_
                    refine qs_br ?_
                    refine qs_r ?_
                    exact qs_ret1 rfl rfl (fin_q (i := 1) rfl (by rw [sizeI_no (fun h => by have h1 := prodI_mono (fun j hj => (axes_dims h.1 j hj).1) (i + 1) ds.length (by omega) (by omega); rw [List.take_length, prodI_step (by omega)] at h1; have := h.2; simp only [Int.toNat_natCast] at c58; omega)]))
                  · refine wp_sk ?_
                    refine qs_n ?_
                    refine wp_sq ?_
                    refine sq_v rfl (v_move rfl) rfl ?_
                    refine sq_v rfl (v_move rfl) rfl ?_
                    refine sq_v rfl (v_mul rfl rfl ((by simp only [Int.toNat_natCast] at *; have h2 : 0 ≤ prodI (ds.take i) * ds.getD i 0 := Int.mul_nonneg (by omega) (by omega); unfold I64; omega))) rfl ?_
                    refine sq_v rfl (v_assign rfl) rfl ?_
                    refine sq_end ?_
                    refine qs_bn ?_
                    refine qs_n ?_
                    refine wp_sq ?_
                    refine sq_v rfl (v_add rfl rfl ((by unfold I64; omega))) rfl ?_
                    refine sq_v rfl (v_move rfl) rfl ?_
                    refine sq_end ?_
                    have hst : prodI (ds.take (i + 1)) = prodI (ds.take i) * ds.getD i 0 := prodI_step (by omega)
                    have hp3 : 1 ≤ prodI (ds.take i) * ds.getD i 0 := by simp only [Int.toNat_natCast] at c48; have := Int.mul_le_mul hp1 (show 1 ≤ ds.getD i 0 by omega) (by omega) (by omega); omega
                    exact qs_bk (i + 1) ⟨by omega, step_all hn ⟨by simp only [Int.toNat_natCast] at c29 c33; omega, by simp only [Int.toNat_natCast] at c48 c52; omega, c41⟩, by rw [hst]; exact hp3, by rw [hst]; simp only [Int.toNat_natCast] at c58; omega⟩ (by omega) ⟨rfl, by rw [hst]; rfl, rfl, rfl, rfl, trivial⟩ (fun _ s => s)
      · refine wp_ex ?_
        refine qs_x ?_
        refine qs_x ?_
        refine qs_bx ?_
        refine qs_n ?_
        refine wp_sc ?_
        refine wp_sq ?_
        refine sq_v rfl (v_move rfl) rfl ?_
        refine sq_v rfl (v_assign rfl) rfl ?_
        refine sq_end ?_
        refine qs_n ?_
        refine wp_rt ?_
        exact qs_ret1 rfl rfl (fin_q (i := 1) rfl (by rw [List.take_of_length_le (by omega)] at *; rw [sizeI_yes ⟨by omega, by omega, fun j hj => hn j (by omega)⟩ (by omega)]))
end Go.Proofs.Ytikeobneipjfnaa
