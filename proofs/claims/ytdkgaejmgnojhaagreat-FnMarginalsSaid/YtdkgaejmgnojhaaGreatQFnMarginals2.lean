/-
  Parts of the proof of FnMarginals: laws of heaps, contracts of functions.
  Conditions: none.
-/
import Derived.Test.YtdkgaejmgnojhaaGreatQFnMarginals1
namespace Go.Proofs.YtdkgaejmgnojhaaGreat
set_option maxRecDepth 100000
open Go.RowKit

theorem step_all {p : Nat → Prop} {k : Nat} (h : ∀ j, j < k → p j) (h1 : p k) : ∀ j, j < k + 1 → p j := fun j hj => by
  by_cases e : j = k
  · subst e; exact h1
  · exact h j (by omega)
theorem take_succ {xs : List Int} {i : Nat} (h : i < xs.length) : xs.take (i + 1) = xs.take i ++ [xs.getD i 0] := by
  rw [List.take_succ_eq_append_getElem h]; simp [List.getD, h]
theorem mem_getD {xs : List Int} {k : Nat} (h : k < xs.length) : xs.getD k 0 ∈ xs := by simp [List.getD, h]
theorem getD_of_mem {xs : List Int} {a : Int} (h : a ∈ xs) : ∃ i, i < xs.length ∧ xs.getD i 0 = a := by
  obtain ⟨i, hi⟩ := List.getElem?_of_mem h; have hlt := (List.getElem?_eq_some_iff.1 hi).1; exact ⟨i, hlt, by simp [List.getD, hi]⟩
theorem not_mem_of {xs : List Int} {n : Int} (h : ∀ j, j < xs.length → xs.getD j 0 ≠ n) : n ∉ xs := fun hm => by
  obtain ⟨i, h1, h2⟩ := getD_of_mem hm; exact h i h1 h2
theorem sub_ints (xs : List Int) (lo hi : Nat) : ((ints xs).drop (lo * 1)).take ((hi - lo) * 1) = ints ((xs.drop lo).take (hi - lo)) := by
  simp [ints, List.map_take, List.map_drop]
theorem IntsR.sub {xs : List Int} {v : Value} {h : PH} (r : IntsR xs v h) {lo hi : Nat} (h1 : lo ≤ hi) (h2 : hi ≤ xs.length) : IntsR ((xs.drop lo).take (hi - lo)) (subV v lo hi 1) h := by
  have := RowR.sub r h1 h2; rw [sub_ints] at this
  unfold IntsR
  rw [List.length_take, List.length_drop, Nat.min_eq_left (by omega)]; exact this
theorem IntsR.subH {xs : List Int} {v : Value} {h : PH} (r : IntsR xs v h) {hi : Nat} (h2 : hi ≤ xs.length) : IntsR (xs.take hi) (subV v 0 hi 1) h := by
  simpa using r.sub (lo := 0) (Nat.zero_le hi) h2
/-- The place of a number in a list, or -1. -/
def findI (xs : List Int) (n : Int) : Int := if n ∈ xs then (xs.idxOf n : Nat) else -1
theorem idx_first {xs : List Int} {n : Int} {i : Nat} (h : ∀ j, j < i → xs.getD j 0 ≠ n) (hi : i < xs.length) (he : xs.getD i 0 = n) : findI xs n = i := by
  have hm : n ∈ xs := he ▸ mem_getD hi
  unfold findI
  rw [if_pos hm]
  congr 1
  have h1 : xs.idxOf n < xs.length := List.idxOf_lt_length_iff.2 hm; have h2 : xs.getD (xs.idxOf n) 0 = n := by
    simp [List.getD, h1]
  rcases Nat.lt_trichotomy (xs.idxOf n) i with h3 | h3 | h3
  · exact absurd h2 (h _ h3)
  · exact h3
  · have := List.not_of_lt_findIdx (xs := xs) (p := fun a => a == n) (i := i) h3
    simp [List.getD, hi] at he
    simp [he] at this
theorem findI_none {xs : List Int} {n : Int} (h : n ∉ xs) : findI xs n = -1 := by simp [findI, h]
theorem findI_ge {xs : List Int} {n : Int} : 0 ≤ findI xs n ↔ n ∈ xs := by
  unfold findI
  split
  · simp [*]
  · simp [*]
theorem findI_get {xs : List Int} {n : Int} (h : n ∈ xs) : (findI xs n).toNat < xs.length ∧ xs.getD (findI xs n).toNat 0 = n := by
  have h1 : xs.idxOf n < xs.length := List.idxOf_lt_length_iff.2 h
  unfold findI
  rw [if_pos h]; exact ⟨by simpa using h1, by simp [List.getD, h1]⟩
theorem findI_range (xs : List Int) (n : Int) : -1 ≤ findI xs n ∧ findI xs n < xs.length := by
  by_cases h : n ∈ xs
  · have := findI_get h; have := findI_ge.2 h
    omega
  · rw [findI_none h]; omega

theorem ct_i_hasInt (xs : List Int) (x : Int) (v : Value) (w : World) (r : IntsR xs v (hp w)) : Calls Tryz.prog 23 [v, num x].toArray w (RetV w (.bool (decide (x ∈ xs)))) := by
  have hx := r.le; refine calls_in Tryz.func23 rfl Tryz.ntmps23 rfl (Sat.start w) (wp_sc (wp_sq (sq_v rfl (v_assign rfl) rfl (sq_end (qs_n (wp_sc (wp_sc (wp_sq (sq_v rfl (v_move rfl) rfl (sq_v rfl (v_len Tryz.underlying26 rfl r.sl) rfl (sq_v rfl (v_move rfl) rfl (sq_end (qs_n (wp_bl (wp_lp (fun i : Nat => [(1, num x), (7, v), (8, num xs.length), (9, num i)]) (fun _ => [hp w]) (fun i => i ≤ xs.length ∧ ∀ j, j < i → xs.getD j 0 ≠ x) (fun i => xs.length - i) 0 ⟨by omega, fun j hj => by omega⟩ ⟨rfl, rfl, rfl, rfl, trivial⟩ (fun _ s => s) ?_))))))))))))))); rintro i ⟨hi, hn⟩; refine wp_sc (wp_sq (sq_v rfl (v_lss rfl rfl) rfl (sq_end (qs_n (wp_sc ?_))))); refine wp_cd rfl (fun c10 => ?_) (fun c10 => ?_)
  · refine wp_sk (qs_n (wp_sc (wp_bl (wp_sc (wp_sq (sq_v rfl (v_idxI Tryz.underlying26 ty_3 rfl rfl r (by omega) (by omega)) rfl (sq_v rfl (v_loadI  0 ty_3 rfl rfl r (by omega)) rfl (sq_v rfl (v_assign rfl) rfl (sq_end (qs_n (wp_sc (wp_sq (sq_v rfl (v_move rfl) rfl (sq_v rfl (v_move rfl) rfl (sq_v rfl (v_eql rfl rfl) rfl (sq_end (qs_n ?_))))))))))))))))); refine wp_cd rfl (fun c15 => ?_) (fun c15 => ?_)
    · refine wp_sc (wp_sq (sq_v rfl (v_assign rfl) rfl (sq_end (qs_n (wp_rt (qs_br (qs_r (qs_r (qs_br (qs_r ?_)))))))))); exact qs_ret1 rfl rfl (fin_q (i := 0) rfl (by congr 1; symm; rw [decide_eq_true_eq, c15]; exact mem_getD (by omega)))
    · refine wp_sk (qs_bn (qs_n (wp_sq ?_))); refine sq_v rfl (v_add rfl rfl ((by unfold I64; omega))) rfl ?_; refine sq_v rfl (v_move rfl) rfl (sq_end ?_); exact qs_bk (i + 1) ⟨by omega, step_all hn (fun h => c15 (by simpa using h.symm))⟩ (by omega) ⟨rfl, rfl, rfl, rfl, trivial⟩ (fun _ s => s)
  · refine wp_ex (qs_x (qs_x (qs_bx (qs_n (wp_sc (wp_sq (sq_v rfl (v_assign rfl) rfl (sq_end (qs_n (wp_rt ?_)))))))))); exact qs_ret1 rfl rfl (fin_q (i := 0) rfl (by congr 1; symm; rw [decide_eq_false_iff_not]; exact not_mem_of (fun j hj => hn j (by omega))))
theorem ct_s_l05Find (xs : List Int) (x : Int) (v : Value) (w : World) (r : IntsR xs v (hp w)) : Calls Tryz.prog 63 [v, num x].toArray w (RetV w (num (findI xs x))) := by
  have hx := r.le; refine calls_in Tryz.func63 rfl Tryz.ntmps63 rfl (Sat.start w) (wp_sc (wp_sq (sq_v rfl (v_assign rfl) rfl (sq_end (qs_n (wp_sc (wp_sc (wp_sq (sq_v rfl (v_move rfl) rfl (sq_v rfl (v_len Tryz.underlying26 rfl r.sl) rfl (sq_v rfl (v_move rfl) rfl (sq_end (qs_n (wp_bl (wp_lp (fun i : Nat => [(1, num x), (7, v), (8, num xs.length), (9, num i)]) (fun _ => [hp w]) (fun i => i ≤ xs.length ∧ ∀ j, j < i → xs.getD j 0 ≠ x) (fun i => xs.length - i) 0 ⟨by omega, fun j hj => by omega⟩ ⟨rfl, rfl, rfl, rfl, trivial⟩ (fun _ s => s) ?_))))))))))))))); rintro i ⟨hi, hn⟩; refine wp_sc (wp_sq (sq_v rfl (v_lss rfl rfl) rfl (sq_end (qs_n (wp_sc ?_))))); refine wp_cd rfl (fun c10 => ?_) (fun c10 => ?_)
  · refine wp_sk (qs_n (wp_sc (wp_bl (wp_sc (wp_sq (sq_v rfl (v_move rfl) rfl (sq_v rfl (v_idxI Tryz.underlying26 ty_3 rfl rfl r (by omega) (by omega)) rfl (sq_v rfl (v_loadI  0 ty_3 rfl rfl r (by omega)) rfl (sq_v rfl (v_assign rfl) rfl (sq_v rfl (v_assign rfl) rfl (sq_end (qs_n (wp_sc (wp_sq (sq_v rfl (v_move rfl) rfl (sq_v rfl (v_move rfl) rfl (sq_v rfl (v_eql rfl rfl) rfl (sq_end (qs_n ?_))))))))))))))))))); refine wp_cd rfl (fun c16 => ?_) (fun c16 => ?_)
    · refine wp_sc (wp_sq (sq_v rfl (v_move rfl) rfl (sq_v rfl (v_assign rfl) rfl (sq_end (qs_n (wp_rt (qs_br (qs_r (qs_r (qs_br (qs_r ?_))))))))))); exact qs_ret1 rfl rfl (fin_q (i := 0) rfl (by rw [idx_first hn (by omega) c16]))
    · refine wp_sk (qs_bn (qs_n (wp_sq ?_))); refine sq_v rfl (v_add rfl rfl ((by unfold I64; omega))) rfl ?_; refine sq_v rfl (v_move rfl) rfl (sq_end ?_); exact qs_bk (i + 1) ⟨by omega, step_all hn c16⟩ (by omega) ⟨rfl, rfl, rfl, rfl, trivial⟩ (fun _ s => s)
  · refine wp_ex (qs_x (qs_x (qs_bx (qs_n (wp_sc (wp_sq (sq_v rfl (v_assign rfl) rfl (sq_end (qs_n (wp_rt ?_)))))))))); exact qs_ret1 rfl rfl (fin_q (i := 0) rfl (by rw [findI_none (not_mem_of (fun j hj => hn j (by omega)))]))

def axP (ls ds : List Int) (j : Nat) : Prop := (0 ≤ ls.getD j 0 ∧ ls.getD j 0 ≤ 99) ∧ (1 ≤ ds.getD j 0 ∧ ds.getD j 0 ≤ 8) ∧ ls.getD j 0 ∉ ls.take j
def axesL (ls ds : List Int) : Prop := ls.length ≤ 12 ∧ ls.length = ds.length ∧ ∀ j, j < ls.length → axP ls ds j
open Classical in
noncomputable def axesB (ls ds : List Int) : Bool := decide (axesL ls ds)
theorem axesB_no {ls ds : List Int} (h : ¬ axesL ls ds) : Value.bool false = .bool (axesB ls ds) := by simp [axesB, h]
theorem axesB_yes {ls ds : List Int} (h : axesL ls ds) : Value.bool true = .bool (axesB ls ds) := by simp [axesB, h]
theorem ct_s_l05Axes (ls ds : List Int) (u v : Value) (w : World) (r1 : IntsR ls u (hp w)) (r2 : IntsR ds v (hp w)) : Calls Tryz.prog 110 [u, v].toArray w (RetV w (.bool (axesB ls ds))) := by
  have hx := r1.le; have hy := r2.le; refine calls_in Tryz.func110 rfl Tryz.ntmps110 rfl (Sat.start w) (wp_sc (wp_sq (sq_v rfl (v_assign rfl) rfl (sq_end (qs_n (wp_sc (wp_sc (wp_sq (sq_v rfl (v_move rfl) rfl (sq_v rfl (v_len Tryz.underlying26 rfl r1.sl) rfl (sq_v rfl (v_gtr rfl rfl) rfl ?_))))))))))); refine sq_bd 9 rfl (fun c9 => ?_) (fun c9 => ?_)
  · refine sq_v rfl (v_move rfl) rfl (sq_s rfl rfl (sq_s rfl rfl (sq_s rfl rfl (sq_s rfl rfl (sq_s rfl rfl (sq_v rfl (v_pickt rfl rfl) rfl (sq_end (qs_n (wp_ct rfl (wp_sc (wp_sq (sq_v rfl (v_assign rfl) rfl (sq_end (qs_n (wp_rt (qs_r ?_)))))))))))))))); exact qs_ret1 rfl rfl (fin_q (i := 0) rfl (axesB_no (fun h => by have := h.1; omega)))
  · refine sq_v rfl (v_move rfl) rfl (sq_v rfl (v_move rfl) rfl (sq_v rfl (v_len Tryz.underlying26 rfl r1.sl) rfl (sq_v rfl (v_move rfl) rfl (sq_v rfl (v_len Tryz.underlying26 rfl r2.sl) rfl (sq_v rfl (v_neq rfl rfl) rfl (sq_v rfl (v_pickf rfl rfl) rfl (sq_end (qs_n ?_)))))))); refine wp_cd rfl (fun c16 => ?_) (fun c16 => ?_)
    · refine wp_sc (wp_sq (sq_v rfl (v_assign rfl) rfl (sq_end (qs_n (wp_rt (qs_r ?_)))))); exact qs_ret1 rfl rfl (fin_q (i := 0) rfl (axesB_no (fun h => by have := h.2.1; omega)))
    · refine wp_sk (qs_n (wp_sc (wp_sc (wp_sq (sq_v rfl (v_move rfl) rfl (sq_v rfl (v_len Tryz.underlying26 rfl r1.sl) rfl (sq_v rfl (v_move rfl) rfl (sq_end (qs_n (wp_bl (wp_lp (fun i : Nat => [(0, u), (1, v), (17, u), (18, num ls.length), (19, num i)]) (fun _ => [hp w]) (fun i => i ≤ ls.length ∧ ∀ j, j < i → axP ls ds j) (fun i => ls.length - i) 0 ⟨by omega, fun j hj => by omega⟩ ⟨rfl, rfl, rfl, rfl, rfl, trivial⟩ (fun _ s => s) ?_))))))))))); rintro i ⟨hi, hn⟩; refine wp_sc (wp_sq (sq_v rfl (v_lss rfl rfl) rfl (sq_end (qs_n (wp_sc ?_))))); refine wp_cd rfl (fun c20 => ?_) (fun c20 => ?_)
      · refine wp_sk (qs_n (wp_sc (wp_bl (wp_sc (wp_sq (sq_v rfl (v_move rfl) rfl (sq_v rfl (v_idxI Tryz.underlying26 ty_3 rfl rfl r1 (by omega) (by omega)) rfl (sq_v rfl (v_loadI  0 ty_3 rfl rfl r1 (by omega)) rfl (sq_v rfl (v_assign rfl) rfl (sq_v rfl (v_assign rfl) rfl (sq_end (qs_n (wp_sc (wp_sq (sq_v rfl (v_move rfl) rfl (sq_u rfl (x_callv rfl en_109 (fun w s => ct_s_l01In _ _ _ w)) rfl ?_)))))))))))))))); refine sq_bd 25 rfl (fun c25 => ?_) (fun c25 => ?_)
        · refine sq_v rfl (v_not rfl) rfl (sq_v rfl (v_move rfl) rfl (sq_v rfl (v_move rfl) rfl (sq_v rfl (v_move rfl) rfl (sq_v rfl (v_idxI Tryz.underlying26 ty_3 rfl rfl r2 (by omega) (by omega)) rfl (sq_v rfl (v_loadI  0 ty_3 rfl rfl r2 (by omega)) rfl (sq_u rfl (x_callv rfl en_109 (fun w s => ct_s_l01In _ _ _ w)) rfl (sq_v rfl (v_not rfl) rfl (sq_v rfl (v_pickf rfl rfl) rfl ?_)))))))); refine sq_bnd 34 rfl (fun c34 => ?_) (fun c34 => ?_)
          · refine sq_v rfl (v_move rfl) rfl (sq_s rfl rfl (sq_s rfl rfl (sq_s rfl rfl (sq_s rfl rfl (sq_s rfl rfl (sq_s rfl rfl (sq_v rfl (v_pickt rfl rfl) rfl (sq_end (qs_n (wp_ct rfl (wp_sc (wp_sq (sq_v rfl (v_assign rfl) rfl (sq_end (qs_n (wp_rt (qs_br (qs_r (qs_r (qs_br (qs_r ?_))))))))))))))))))))); exact qs_ret1 rfl rfl (fin_q (i := 0) rfl (axesB_no (fun h => c34 (h.2.2 i (by omega)).2.1)))
          · refine sq_v rfl (v_move rfl) rfl (sq_v rfl (v_move rfl) rfl (sq_v rfl (v_move rfl) rfl (sq_v rfl (v_sliceH Tryz.underlying26 ty_3 rfl rfl  r1 (by omega) (by omega)) rfl (sq_v rfl (v_move rfl) rfl (sq_u rfl (x_callv rfl en_63 (fun w s => ct_s_l05Find _ _ _ w ((r1.subH (by omega)).mono (s.get 0 rfl)))) rfl (sq_v rfl (v_geq rfl rfl) rfl (sq_v rfl (v_pickf rfl rfl) rfl (sq_end (qs_n ?_))))))))); refine wp_cd rfl (fun c42 => ?_) (fun c42 => ?_)
            · refine wp_sc (wp_sq (sq_v rfl (v_assign rfl) rfl (sq_end (qs_n (wp_rt (qs_br (qs_r (qs_r (qs_br (qs_r ?_)))))))))); exact qs_ret1 rfl rfl (fin_q (i := 0) rfl (axesB_no (fun h => (h.2.2 i (by omega)).2.2 (findI_ge.1 c42))))
            · refine wp_sk (qs_bn (qs_n (wp_sq ?_))); refine sq_v rfl (v_add rfl rfl ((by unfold I64; omega))) rfl ?_; refine sq_v rfl (v_move rfl) rfl (sq_end ?_); exact qs_bk (i + 1) ⟨by omega, step_all hn ⟨c25, c34, fun h => c42 (findI_ge.2 h)⟩⟩ (by omega) ⟨rfl, rfl, rfl, rfl, rfl, trivial⟩ (fun _ s => s)
        · refine sq_v rfl (v_not rfl) rfl (sq_v rfl (v_move rfl) rfl (sq_s rfl rfl (sq_s rfl rfl (sq_s rfl rfl (sq_s rfl rfl (sq_s rfl rfl (sq_s rfl rfl (sq_v rfl (v_pickt rfl rfl) rfl (sq_v rfl (v_move rfl) rfl ?_))))))))); refine sq_s rfl rfl (sq_s rfl rfl (sq_s rfl rfl (sq_s rfl rfl (sq_s rfl rfl (sq_s rfl rfl (sq_v rfl (v_pickt rfl rfl) rfl (sq_end (qs_n (wp_ct rfl (wp_sc (wp_sq (sq_v rfl (v_assign rfl) rfl (sq_end (qs_n (wp_rt (qs_br (qs_r (qs_r (qs_br (qs_r ?_)))))))))))))))))))); exact qs_ret1 rfl rfl (fin_q (i := 0) rfl (axesB_no (fun h => c25 (h.2.2 i (by omega)).1)))
      · refine wp_ex (qs_x (qs_x (qs_bx (qs_n (wp_sc (wp_sq (sq_v rfl (v_assign rfl) rfl (sq_end (qs_n (wp_rt ?_)))))))))); exact qs_ret1 rfl rfl (fin_q (i := 0) rfl (axesB_yes ⟨by omega, by omega, fun j hj => hn j (by omega)⟩))

def prodI (ds : List Int) : Int := ds.foldl (· * ·) 1
theorem prodI_snoc (ds : List Int) (d : Int) : prodI (ds ++ [d]) = prodI ds * d := by simp [prodI]
theorem prodI_step {ds : List Int} {i : Nat} (h : i < ds.length) : prodI (ds.take (i + 1)) = prodI (ds.take i) * ds.getD i 0 := by rw [take_succ h, prodI_snoc]
theorem prodI_pos {ds : List Int} (h : ∀ j, j < ds.length → 1 ≤ ds.getD j 0) : ∀ i, i ≤ ds.length → 1 ≤ prodI (ds.take i)
  | 0, _ => by simp [prodI]
  | i + 1, hi => by
    rw [prodI_step (by omega)]; have h1 := prodI_pos h i (by omega); have h2 := h i (by omega); have := Int.mul_le_mul h1 h2 (by omega) (by omega)
    omega
theorem prodI_mono {ds : List Int} (h : ∀ j, j < ds.length → 1 ≤ ds.getD j 0) (i : Nat) : ∀ k, i ≤ k → k ≤ ds.length → prodI (ds.take i) ≤ prodI (ds.take k) := by
  intro k hik
  induction k with
  | zero => intro _; have : i = 0 := by omega
            subst this; exact Int.le_refl _
  | succ k ih =>
    intro hk
    by_cases e : i = k + 1
    · subst e; exact Int.le_refl _
    · have h1 := ih (by omega) (by omega); rw [prodI_step (by omega)]; have h2 := prodI_pos h k (by omega); have h3 := h k (by omega); have : prodI (ds.take k) * 1 ≤ prodI (ds.take k) * ds.getD k 0 := Int.mul_le_mul_of_nonneg_left h3 (by omega)
      omega
theorem min_step {p d L : Int} (hp1 : 1 ≤ p) (hd : 1 ≤ d) (hL : 0 ≤ L) : min (min p (L + 1) * d) (L + 1) = min (p * d) (L + 1) := by
  rcases Int.le_total p (L + 1) with h | h
  · rw [Int.min_eq_left h]
  · rw [Int.min_eq_right h]; have h1 : (L + 1) * 1 ≤ (L + 1) * d := Int.mul_le_mul_of_nonneg_left hd (by omega); have h2 : p * 1 ≤ p * d := Int.mul_le_mul_of_nonneg_left hd (by omega); rw [Int.min_eq_right (by omega), Int.min_eq_right (by omega)]
def dimsIn (ds : List Int) : Prop := ∀ j, j < ds.length → 1 ≤ ds.getD j 0 ∧ ds.getD j 0 ≤ 8
theorem ct_s_l05Product (ds : List Int) (L : Int) (v : Value) (w : World) (r : IntsR ds v (hp w)) (hd : dimsIn ds) (hL : 0 ≤ L ∧ L ≤ 1000000000000) : Calls Tryz.prog 60 [v, num L].toArray w (RetV w (num (min (prodI ds) (L + 1)))) := by
  have hx := r.le; refine calls_in Tryz.func60 rfl Tryz.ntmps60 rfl (Sat.start w) (wp_sc (wp_sq (sq_v rfl (v_assign rfl) rfl (sq_end (qs_n (wp_sc (wp_sq (sq_v rfl (v_assign rfl) rfl (sq_end (qs_n (wp_sc (wp_sc (wp_sq (sq_v rfl (v_move rfl) rfl (sq_v rfl (v_len Tryz.underlying26 rfl r.sl) rfl (sq_v rfl (v_move rfl) rfl (sq_end (qs_n (wp_bl ?_))))))))))))))))))); refine wp_lp (fun s : Nat × Int => [(1, num L), (5, num s.2), (8, v), (9, num ds.length), (10, num s.1)]) (fun _ => [hp w]) (fun s => s.1 ≤ ds.length ∧ s.2 = min (prodI (ds.take s.1)) (L + 1)) (fun s => ds.length - s.1) (0, 1) ⟨by omega, by simp [prodI]; omega⟩ ⟨rfl, rfl, rfl, rfl, rfl, trivial⟩ (fun _ s => s) ?_; rintro ⟨i, q⟩ ⟨hi, hq⟩
  simp only at hi hq
  dsimp only; have hpp := prodI_pos (fun j hj => (hd j hj).1) i hi; have hq1 : 1 ≤ q ∧ q ≤ 1000000000001 := by omega
  refine wp_sc (wp_sq (sq_v rfl (v_lss rfl rfl) rfl (sq_end (qs_n (wp_sc ?_))))); refine wp_cd rfl (fun c11 => ?_) (fun c11 => ?_)
  · refine wp_sk (qs_n (wp_sc (wp_bl (wp_sc (wp_sq (sq_v rfl (v_idxI Tryz.underlying26 ty_3 rfl rfl r (by omega) (by omega)) rfl (sq_v rfl (v_loadI  0 ty_3 rfl rfl r (by omega)) rfl (sq_v rfl (v_assign rfl) rfl (sq_end (qs_n (wp_sq (sq_v rfl (v_move rfl) rfl (sq_v rfl (v_move rfl) rfl ?_))))))))))))); have hdi := hd i (by omega); refine sq_v rfl (v_mul rfl rfl ((by simp only [Int.toNat_natCast]; have h1 : q * ds.getD i 0 ≤ 1000000000001 * 8 := Int.mul_le_mul hq1.2 hdi.2 (by omega) (by omega); have h2 : 0 ≤ q * ds.getD i 0 := Int.mul_nonneg (by omega) (by omega); unfold I64; omega))) rfl ?_; refine sq_v rfl (v_move rfl) rfl ?_; refine sq_v rfl (v_add rfl rfl ((by unfold I64; omega))) rfl ?_; refine sq_v rfl (v_min rfl rfl) rfl (sq_v rfl (v_assign rfl) rfl (sq_end (qs_bn (qs_n (wp_sq ?_))))); refine sq_v rfl (v_add rfl rfl ((by unfold I64; omega))) rfl ?_; refine sq_v rfl (v_move rfl) rfl (sq_end ?_); exact qs_bk (i + 1, min (q * ds.getD i 0) (L + 1)) ⟨by simp only; omega, by simp only; rw [hq, min_step hpp hdi.1 hL.1, prodI_step (by omega)]⟩ (by simp only; omega) ⟨rfl, rfl, rfl, rfl, rfl, trivial⟩ (fun _ s => s)
  · refine wp_ex (qs_x (qs_x (qs_bx (qs_n (wp_sc (wp_sq (sq_v rfl (v_move rfl) rfl (sq_v rfl (v_assign rfl) rfl (sq_end (qs_n (wp_rt ?_))))))))))); exact qs_ret1 rfl rfl (fin_q (i := 0) rfl (by rw [hq, List.take_of_length_le (by omega)]))
theorem ct_i_productOf (ds : List Int) (v : Value) (w : World) (r : IntsR ds v (hp w)) (hd : dimsIn ds) (hl : prodI ds ≤ 1000000000000) : Calls Tryz.prog 71 [v].toArray w (RetV w (num (prodI ds))) := by
  have hx := r.le; refine calls_in Tryz.func71 rfl Tryz.ntmps71 rfl (Sat.start w) (wp_sc (wp_sq (sq_v rfl (v_assign rfl) rfl (sq_end (qs_n (wp_sc (wp_sq (sq_v rfl (v_assign rfl) rfl (sq_end (qs_n (wp_sc (wp_sc (wp_sq (sq_v rfl (v_move rfl) rfl (sq_v rfl (v_len Tryz.underlying26 rfl r.sl) rfl (sq_v rfl (v_move rfl) rfl (sq_end (qs_n (wp_bl (wp_lp (fun i : Nat => [(3, num (prodI (ds.take i))), (6, v), (7, num ds.length), (8, num i)]) (fun _ => [hp w]) (fun i => i ≤ ds.length) (fun i => ds.length - i) 0 (by omega) ⟨rfl, rfl, rfl, rfl, trivial⟩ (fun _ s => s) ?_)))))))))))))))))))); rintro i hi; have hpp := prodI_pos (fun j hj => (hd j hj).1) i hi; refine wp_sc (wp_sq (sq_v rfl (v_lss rfl rfl) rfl (sq_end (qs_n (wp_sc ?_))))); refine wp_cd rfl (fun c9 => ?_) (fun c9 => ?_)
  · refine wp_sk (qs_n (wp_sc (wp_bl (wp_sc (wp_sq (sq_v rfl (v_idxI Tryz.underlying26 ty_3 rfl rfl r (by omega) (by omega)) rfl (sq_v rfl (v_loadI  0 ty_3 rfl rfl r (by omega)) rfl (sq_v rfl (v_assign rfl) rfl (sq_end (qs_n (wp_sq (sq_v rfl (v_move rfl) rfl (sq_v rfl (v_move rfl) rfl ?_))))))))))))); have hst : prodI (ds.take (i + 1)) = prodI (ds.take i) * ds.getD i 0 := prodI_step (by omega); refine sq_v rfl (v_mul rfl rfl ((by simp only [Int.toNat_natCast]; rw [← hst]; have h1 := prodI_mono (fun j hj => (hd j hj).1) (i + 1) ds.length (by omega) (by omega); have h2 := prodI_pos (fun j hj => (hd j hj).1) (i + 1) (by omega); rw [List.take_length] at h1; unfold I64; omega))) rfl ?_; refine sq_v rfl (v_assign rfl) rfl (sq_end (qs_bn (qs_n (wp_sq ?_)))); refine sq_v rfl (v_add rfl rfl ((by unfold I64; omega))) rfl ?_; refine sq_v rfl (v_move rfl) rfl (sq_end ?_); exact qs_bk (i + 1) (by omega) (by omega) ⟨by rw [hst]; rfl, rfl, rfl, rfl, trivial⟩ (fun _ s => s)
  · refine wp_ex (qs_x (qs_x (qs_bx (qs_n (wp_sc (wp_sq (sq_v rfl (v_move rfl) rfl (sq_v rfl (v_assign rfl) rfl (sq_end (qs_n (wp_rt ?_))))))))))); exact qs_ret1 rfl rfl (fin_q (i := 0) rfl (by rw [List.take_of_length_le (by omega)]))

open Classical in
noncomputable def sizeI (ls ds : List Int) : Int := if axesL ls ds ∧ prodI ds ≤ 4096 then prodI ds else -1
theorem axes_dims {ls ds : List Int} (h : axesL ls ds) : dimsIn ds := fun j hj => (h.2.2 j (by rw [h.2.1]; exact hj)).2.1
theorem sizeI_yes {ls ds : List Int} (h : axesL ls ds) (h1 : prodI ds ≤ 4096) : sizeI ls ds = prodI ds := by simp [sizeI, h, h1]
theorem sizeI_no {ls ds : List Int} (h : ¬ (axesL ls ds ∧ prodI ds ≤ 4096)) : sizeI ls ds = -1 := by simp only [sizeI, if_neg h]
theorem sizeI_ge {ls ds : List Int} : 0 ≤ sizeI ls ds ↔ axesL ls ds ∧ prodI ds ≤ 4096 := by
  by_cases h : axesL ls ds ∧ prodI ds ≤ 4096
  · have := prodI_pos (fun j hj => (axes_dims h.1 j hj).1) ds.length (Nat.le_refl _); rw [List.take_length] at this; rw [sizeI_yes h.1 h.2]; exact ⟨fun _ => h, fun _ => by omega⟩
  · rw [sizeI_no h]; exact ⟨fun h' => by omega, fun h' => absurd h' h⟩
theorem sizeI_range (ls ds : List Int) : sizeI ls ds = -1 ∨ (1 ≤ sizeI ls ds ∧ sizeI ls ds ≤ 4096) := by
  by_cases h : axesL ls ds ∧ prodI ds ≤ 4096
  · have := prodI_pos (fun j hj => (axes_dims h.1 j hj).1) ds.length (Nat.le_refl _); rw [List.take_length] at this; rw [sizeI_yes h.1 h.2]; exact .inr ⟨this, h.2⟩
  · exact .inl (sizeI_no h)
abbrev tenV (a b c : Value) : Value := .agg [a, b, c].toArray
theorem ct_s_TensorSize (ls ds : List Int) (a b c : Value) (w : World) (r1 : IntsR ls a (hp w)) (r2 : IntsR ds b (hp w)) : Calls Tryz.prog 96 [tenV a b c].toArray w (RetV w (num (sizeI ls ds))) := by
  refine calls_in Tryz.func96 rfl Tryz.ntmps96 rfl (Sat.start w) (wp_sc (wp_sq ?_)); refine sq_x rfl (x_box rfl rfl) rfl ?_; rintro _ _ ⟨b1, rfl, rfl⟩; refine sq_v rfl (v_assign rfl) rfl (sq_end (qs_n (wp_sc (wp_sc (wp_sq (sq_v rfl (v_fieldAddr fd_40_0 ty_26 (by decide) rfl) rfl (sq_v rfl (v_loadB 0 ty_26 rfl rfl rfl) rfl (sq_v rfl (v_fieldAddr fd_40_1 ty_26 (by decide) rfl) rfl (sq_v rfl (v_loadB 0 ty_26 rfl rfl rfl) rfl (sq_u rfl (x_callv rfl en_110 (fun w s => ct_s_l05Axes _ _ _ _ w (r1.mono (s.get 1 rfl)) (r2.mono (s.get 1 rfl)))) rfl (sq_v rfl (v_not rfl) rfl (sq_end (qs_n ?_))))))))))))); refine wp_cn _ rfl (fun c9 => ?_) (fun c9 => ?_)
  · refine wp_sc (wp_sq (sq_v rfl (v_assign rfl) rfl (sq_end (qs_n (wp_rt (qs_r ?_)))))); exact qs_ret1 rfl rfl (fin_q (i := 1) rfl (by rw [sizeI_no (fun h => by simp [axesB, h.1] at c9)]))
  · refine wp_sk (qs_n (wp_sc (wp_sq (sq_v rfl (v_fieldAddr fd_40_1 ty_26 (by decide) rfl) rfl (sq_v rfl (v_loadB 0 ty_26 rfl rfl rfl) rfl ?_))))); have hax : axesL ls ds := by simpa [axesB] using c9
    refine sq_u rfl (x_callv rfl en_60 (fun w s => ct_s_l05Product _ _ _ w (r2.mono (s.get 1 rfl)) (axes_dims hax) (by omega))) rfl (sq_v rfl (v_assign rfl) rfl (sq_end (qs_n (wp_sc (wp_sc (wp_sq (sq_v rfl (v_move rfl) rfl (sq_v rfl (v_gtr rfl rfl) rfl (sq_end (qs_n ?_)))))))))); refine wp_cd rfl (fun c14 => ?_) (fun c14 => ?_)
    · refine wp_sc (wp_sq (sq_v rfl (v_assign rfl) rfl (sq_end (qs_n (wp_rt (qs_r ?_)))))); exact qs_ret1 rfl rfl (fin_q (i := 1) rfl (by rw [sizeI_no (fun h => by have := h.2; omega)]))
    · refine wp_sk (qs_n (wp_sc (wp_sq (sq_v rfl (v_move rfl) rfl (sq_v rfl (v_assign rfl) rfl (sq_end (qs_n (wp_rt ?_)))))))); exact qs_ret1 rfl rfl (fin_q (i := 1) rfl (by rw [sizeI_yes hax (by omega), Int.min_eq_left (by omega)]))
theorem ct_i_TensorSize (ls ds : List Int) (a b c : Value) (w : World) (r1 : IntsR ls a (hp w)) (r2 : IntsR ds b (hp w)) : Calls Tryz.prog 52 [tenV a b c].toArray w (RetV w (num (sizeI ls ds))) := by
  have hx := r1.le; have hy := r2.le; refine calls_in Tryz.func52 rfl Tryz.ntmps52 rfl (Sat.start w) (wp_sc (wp_sq ?_)); refine sq_x rfl (x_box rfl rfl) rfl ?_; rintro _ _ ⟨b1, rfl, rfl⟩; refine sq_v rfl (v_assign rfl) rfl (sq_end (qs_n (wp_sc (wp_sc (wp_sq (sq_v rfl (v_fieldAddr fd_40_0 ty_26 (by decide) rfl) rfl (sq_v rfl (v_loadB 0 ty_26 rfl rfl rfl) rfl (sq_v rfl (v_len Tryz.underlying26 rfl r1.sl) rfl (sq_v rfl (v_gtr rfl rfl) rfl ?_))))))))); refine sq_bd 10 rfl (fun c10 => ?_) (fun c10 => ?_)
  · refine sq_v rfl (v_move rfl) rfl (sq_s rfl rfl (sq_s rfl rfl (sq_s rfl rfl (sq_s rfl rfl (sq_s rfl rfl (sq_s rfl rfl (sq_s rfl rfl (sq_v rfl (v_pickt rfl rfl) rfl (sq_end (qs_n (wp_ct rfl (wp_sc (wp_sq ?_))))))))))))); refine sq_v rfl (v_assign rfl) rfl (sq_end (qs_n (wp_rt (qs_r ?_)))); exact qs_ret1 rfl rfl (fin_q (i := 1) rfl (by rw [sizeI_no (fun h => by have := h.1.1; omega)]))
  · refine sq_v rfl (v_move rfl) rfl (sq_v rfl (v_fieldAddr fd_40_0 ty_26 (by decide) rfl) rfl (sq_v rfl (v_loadB 0 ty_26 rfl rfl rfl) rfl (sq_v rfl (v_len Tryz.underlying26 rfl r1.sl) rfl (sq_v rfl (v_fieldAddr fd_40_1 ty_26 (by decide) rfl) rfl (sq_v rfl (v_loadB 0 ty_26 rfl rfl rfl) rfl (sq_v rfl (v_len Tryz.underlying26 rfl r2.sl) rfl (sq_v rfl (v_neq rfl rfl) rfl (sq_v rfl (v_pickf rfl rfl) rfl (sq_end (qs_n ?_)))))))))); refine wp_cd rfl (fun c19 => ?_) (fun c19 => ?_)
    · refine wp_sc (wp_sq (sq_v rfl (v_assign rfl) rfl (sq_end (qs_n (wp_rt (qs_r ?_)))))); exact qs_ret1 rfl rfl (fin_q (i := 1) rfl (by rw [sizeI_no (fun h => by have := h.1.2.1; omega)]))
    · refine wp_sk (qs_n (wp_sc (wp_sq (sq_v rfl (v_assign rfl) rfl (sq_end (qs_n (wp_sc (wp_sc (wp_sq (sq_v rfl (v_fieldAddr fd_40_0 ty_26 (by decide) rfl) rfl (sq_v rfl (v_loadB 0 ty_26 rfl rfl rfl) rfl (sq_v rfl (v_len Tryz.underlying26 rfl r1.sl) rfl (sq_v rfl (v_move rfl) rfl (sq_end (qs_n (wp_bl (wp_lp (fun i : Nat => [(1, .pointer (some ⟨b1, 0, none⟩)), (3, num (prodI (ds.take i))), (21, a), (22, num ls.length), (23, num i)]) (fun _ => [box b1 [a, b, c] 40, hp w]) (fun i => i ≤ ls.length ∧ (∀ j, j < i → axP ls ds j) ∧ 1 ≤ prodI (ds.take i) ∧ prodI (ds.take i) ≤ 4096) (fun i => ls.length - i) 0 ⟨by omega, fun j hj => by omega, by simp [prodI]⟩ ⟨rfl, rfl, rfl, rfl, rfl, trivial⟩ (fun _ s => s) ?_))))))))))))))))); rintro i ⟨hi, hn, hp1, hp2⟩; refine wp_sc (wp_sq (sq_v rfl (v_lss rfl rfl) rfl (sq_end (qs_n (wp_sc ?_))))); refine wp_cd rfl (fun c24 => ?_) (fun c24 => ?_)
      · refine wp_sk (qs_n (wp_sc (wp_bl (wp_sc (wp_sq (sq_v rfl (v_move rfl) rfl (sq_v rfl (v_idxI Tryz.underlying26 ty_3 rfl rfl r1 (by omega) (by omega)) rfl (sq_v rfl (v_loadI  1 ty_3 rfl rfl r1 (by omega)) rfl (sq_v rfl (v_assign rfl) rfl (sq_v rfl (v_assign rfl) rfl (sq_end (qs_n (wp_sc (wp_sc (wp_sq (sq_v rfl (v_move rfl) rfl (sq_v rfl (v_lss rfl rfl) rfl ?_))))))))))))))))); refine sq_bd 29 rfl (fun c29 => ?_) (fun c29 => ?_)
        · refine sq_v rfl (v_move rfl) rfl (sq_s rfl rfl (sq_s rfl rfl (sq_v rfl (v_pickt rfl rfl) rfl (sq_v rfl (v_move rfl) rfl (sq_s rfl rfl (sq_s rfl rfl (sq_s rfl rfl (sq_s rfl rfl (sq_s rfl rfl ?_))))))))); refine sq_s rfl rfl (sq_v rfl (v_pickt rfl rfl) rfl (sq_end (qs_n (wp_ct rfl (wp_sc (wp_sq (sq_v rfl (v_assign rfl) rfl (sq_end (qs_n (wp_rt (qs_r (qs_br (qs_r (qs_r (qs_br (qs_r ?_)))))))))))))))); exact qs_ret1 rfl rfl (fin_q (i := 1) rfl (by rw [sizeI_no (fun h => by have := (h.1.2.2 i (by omega)).1; simp only [Int.toNat_natCast] at c29; omega)]))
        · refine sq_v rfl (v_move rfl) rfl (sq_v rfl (v_move rfl) rfl (sq_v rfl (v_gtr rfl rfl) rfl (sq_v rfl (v_pickf rfl rfl) rfl ?_))); refine sq_bd 33 rfl (fun c33 => ?_) (fun c33 => ?_)
          · refine sq_v rfl (v_move rfl) rfl (sq_s rfl rfl (sq_s rfl rfl (sq_s rfl rfl (sq_s rfl rfl (sq_s rfl rfl (sq_s rfl rfl (sq_v rfl (v_pickt rfl rfl) rfl (sq_end (qs_n (wp_ct rfl (wp_sc (wp_sq (sq_v rfl (v_assign rfl) rfl (sq_end (qs_n (wp_rt (qs_r (qs_br (qs_r (qs_r (qs_br (qs_r ?_)))))))))))))))))))))); exact qs_ret1 rfl rfl (fin_q (i := 1) rfl (by rw [sizeI_no (fun h => by have := (h.1.2.2 i (by omega)).1; simp only [Int.toNat_natCast] at c33; omega)]))
          · refine sq_v rfl (v_move rfl) rfl (sq_v rfl (v_fieldAddr fd_40_0 ty_26 (by decide) rfl) rfl (sq_v rfl (v_loadB 0 ty_26 rfl rfl rfl) rfl (sq_v rfl (v_move rfl) rfl (sq_v rfl (v_sliceH Tryz.underlying26 ty_3 rfl rfl  r1 (by omega) (by omega)) rfl (sq_v rfl (v_move rfl) rfl (sq_u rfl (x_callv rfl en_23 (fun w s => ct_i_hasInt _ _ _ w ((r1.subH (by omega)).mono (s.get 1 rfl)))) rfl (sq_v rfl (v_pickf rfl rfl) rfl (sq_end (qs_n ?_))))))))); refine wp_cd rfl (fun c41 => ?_) (fun c41 => ?_)
            · refine wp_sc (wp_sq (sq_v rfl (v_assign rfl) rfl (sq_end (qs_n (wp_rt (qs_r (qs_br (qs_r (qs_r (qs_br (qs_r ?_))))))))))); exact qs_ret1 rfl rfl (fin_q (i := 1) rfl (by rw [sizeI_no (fun h => (h.1.2.2 i (by omega)).2.2 c41)]))
            · refine wp_sk (qs_n (wp_sc (wp_sq (sq_v rfl (v_fieldAddr fd_40_1 ty_26 (by decide) rfl) rfl (sq_v rfl (v_loadB 0 ty_26 rfl rfl rfl) rfl (sq_v rfl (v_move rfl) rfl (sq_v rfl (v_idxI Tryz.underlying26 ty_3 rfl rfl r2 (by omega) (by omega)) rfl (sq_v rfl (v_loadI  1 ty_3 rfl rfl r2 (by omega)) rfl (sq_v rfl (v_assign rfl) rfl (sq_end (qs_n (wp_sc (wp_sc (wp_sq (sq_v rfl (v_move rfl) rfl (sq_v rfl (v_lss rfl rfl) rfl ?_)))))))))))))))); refine sq_bd 48 rfl (fun c48 => ?_) (fun c48 => ?_)
              · refine sq_v rfl (v_move rfl) rfl (sq_s rfl rfl (sq_s rfl rfl (sq_v rfl (v_pickt rfl rfl) rfl (sq_v rfl (v_move rfl) rfl (sq_s rfl rfl (sq_s rfl rfl (sq_s rfl rfl (sq_s rfl rfl (sq_v rfl (v_pickt rfl rfl) rfl (sq_end (qs_n ?_))))))))))); refine wp_ct rfl (wp_sc (wp_sq (sq_v rfl (v_assign rfl) rfl (sq_end (qs_n (wp_rt (qs_r (qs_br (qs_r (qs_r (qs_br (qs_r ?_)))))))))))); exact qs_ret1 rfl rfl (fin_q (i := 1) rfl (by rw [sizeI_no (fun h => by have := (h.1.2.2 i (by omega)).2.1; simp only [Int.toNat_natCast] at c48; omega)]))
              · refine sq_v rfl (v_move rfl) rfl (sq_v rfl (v_move rfl) rfl (sq_v rfl (v_gtr rfl rfl) rfl (sq_v rfl (v_pickf rfl rfl) rfl ?_))); refine sq_bd 52 rfl (fun c52 => ?_) (fun c52 => ?_)
                · refine sq_v rfl (v_move rfl) rfl (sq_s rfl rfl (sq_s rfl rfl (sq_s rfl rfl (sq_s rfl rfl (sq_v rfl (v_pickt rfl rfl) rfl (sq_end (qs_n (wp_ct rfl (wp_sc (wp_sq (sq_v rfl (v_assign rfl) rfl (sq_end (qs_n (wp_rt (qs_r (qs_br (qs_r (qs_r (qs_br (qs_r ?_)))))))))))))))))))); exact qs_ret1 rfl rfl (fin_q (i := 1) rfl (by rw [sizeI_no (fun h => by have := (h.1.2.2 i (by omega)).2.1; simp only [Int.toNat_natCast] at c52; omega)]))
                · refine sq_v rfl (v_move rfl) rfl (sq_v rfl (v_move rfl) rfl (sq_v rfl (v_move rfl) rfl ?_)); refine sq_v rfl (v_mul rfl rfl ((by simp only [Int.toNat_natCast] at *; have h1 : prodI (ds.take i) * ds.getD i 0 ≤ 4096 * 8 := Int.mul_le_mul hp2 (by omega) (by omega) (by omega); have h2 : 0 ≤ prodI (ds.take i) * ds.getD i 0 := Int.mul_nonneg (by omega) (by omega); unfold I64; omega))) rfl ?_; refine sq_v rfl (v_gtr rfl rfl) rfl (sq_v rfl (v_pickf rfl rfl) rfl (sq_end (qs_n ?_))); refine wp_cd rfl (fun c58 => ?_) (fun c58 => ?_)
                  · refine wp_sc (wp_sq (sq_v rfl (v_assign rfl) rfl (sq_end (qs_n (wp_rt (qs_r (qs_br (qs_r (qs_r (qs_br (qs_r ?_))))))))))); exact qs_ret1 rfl rfl (fin_q (i := 1) rfl (by rw [sizeI_no (fun h => by have h1 := prodI_mono (fun j hj => (axes_dims h.1 j hj).1) (i + 1) ds.length (by omega) (by omega); rw [List.take_length, prodI_step (by omega)] at h1; have := h.2; simp only [Int.toNat_natCast] at c58; omega)]))
                  · refine wp_sk (qs_n (wp_sq (sq_v rfl (v_move rfl) rfl (sq_v rfl (v_move rfl) rfl ?_)))); refine sq_v rfl (v_mul rfl rfl ((by simp only [Int.toNat_natCast] at *; have h2 : 0 ≤ prodI (ds.take i) * ds.getD i 0 := Int.mul_nonneg (by omega) (by omega); unfold I64; omega))) rfl ?_; refine sq_v rfl (v_assign rfl) rfl (sq_end (qs_bn (qs_n (wp_sq ?_)))); refine sq_v rfl (v_add rfl rfl ((by unfold I64; omega))) rfl ?_; refine sq_v rfl (v_move rfl) rfl (sq_end ?_); have hst : prodI (ds.take (i + 1)) = prodI (ds.take i) * ds.getD i 0 := prodI_step (by omega); have hp3 : 1 ≤ prodI (ds.take i) * ds.getD i 0 := by simp only [Int.toNat_natCast] at c48; have := Int.mul_le_mul hp1 (show 1 ≤ ds.getD i 0 by omega) (by omega) (by omega); omega
                    exact qs_bk (i + 1) ⟨by omega, step_all hn ⟨by simp only [Int.toNat_natCast] at c29 c33; omega, by simp only [Int.toNat_natCast] at c48 c52; omega, c41⟩, by rw [hst]; exact hp3, by rw [hst]; simp only [Int.toNat_natCast] at c58; omega⟩ (by omega) ⟨rfl, by rw [hst]; rfl, rfl, rfl, rfl, trivial⟩ (fun _ s => s)
      · refine wp_ex (qs_x (qs_x (qs_bx (qs_n (wp_sc (wp_sq (sq_v rfl (v_move rfl) rfl (sq_v rfl (v_assign rfl) rfl (sq_end (qs_n (wp_rt ?_))))))))))); exact qs_ret1 rfl rfl (fin_q (i := 1) rfl (by rw [List.take_of_length_le (by omega)] at *; rw [sizeI_yes ⟨by omega, by omega, fun j hj => hn j (by omega)⟩ (by omega)]))
end Go.Proofs.YtdkgaejmgnojhaaGreat
namespace Go.Proofs.YtdkgaejmgnojhaaGreat
open Go.RowKit
section
variable (P : Program) (n : Nat) (w0 : World)
def RA (ops : Array Oper) (m : Nat) (Q : Exit → Act → World → Prop) (f : Nat) (listed : Array Bool) (K : Env) (HS : List PH) : Prop :=
  HeadInv .any ops m listed → (Region.noSelect ops && tailOK ops m) = true → ∀ (a : Act) (w : World), EnvOK n K a → Sat w0 HS w → RAny P ops Q (Sat w0 HS) m f listed a w
/-- Operation number i is taken now. -/
def RO (ops : Array Oper) (m : Nat) (Q : Exit → Act → World → Prop) (f : Nat) (i : Nat) (listed : Array Bool) (K : Env) (HS : List PH) : Prop :=
  HeadInv .any ops m (listed.setIfInBounds i true) → (Region.noSelect ops && tailOK ops m) = true → ∀ (a : Act) (w : World), EnvOK n K a → Sat w0 HS w →
    wpOp P ops (OnlyN Q) i (fun a' w' => (i < m → Sat w0 HS w') ∧ RAny P ops Q (Sat w0 HS) m f (listed.setIfInBounds i true) a' w') a w
end
section
variable {P : Program} {n : Nat} {w0 : World} {K : Env} {HS : List PH} {Q : Exit → Act → World → Prop} {ops : Array Oper} {m f : Nat} {listed : Array Bool}
def MidQ {σ : Type} (n : Nat) (w0 : World) (T : σ → Prop) (Km : σ → Env) (Hm : σ → List PH) : Exit → Act → World → Prop
  | .normal, a, w => ∃ x, T x ∧ EnvOK n (Km x) a ∧ Sat w0 (Hm x) w
  | _, _, _ => False
theorem qs_mid {σ : Type} {T : σ → Prop} {Km : σ → Env} {Hm : σ → List PH} (x : σ) (t : T x) (hk : SubK K (Km x)) (hs : ∀ w, Sat w0 HS w → Sat w0 (Hm x) w) : QS n w0 (MidQ n w0 T Km Hm) .normal K HS := fun _ w e s => ⟨x, t, e.sub hk, hs w s⟩
theorem wp_ra {σ : Type} {id : Nat} {l : List Oper} (m : Nat) (T : σ → Prop) (Km : σ → Env) (Hm : σ → List PH) (hm : P.follows .mixedOrders = true)
    (hc : (Region.noSelect l.toArray && tailOK l.toArray m) = true)
    (h : RA P n w0 l.toArray m (MidQ n w0 T Km Hm) l.length (Array.replicate l.length false) K HS) (hend : ∀ x, T x → QS n w0 Q .normal (Km x) (Hm x)) : WP P n w0 (.region id l.toArray true) Q K HS := fun a w e s => by
  have h2 := hc; have hm' : m ≤ l.toArray.size := by
    simp only [Bool.and_eq_true, tailOK, Bool.or_eq_true, decide_eq_true_eq] at h2
    omega
  have inv0 : HeadInv .any l.toArray m (Array.replicate l.length false) :=
    ⟨by simp, fun j oj _ hl => (by rw [getD_replicate_false] at hl; cases hl), fun t _ ht => getD_in (by simpa using ht) (getD_replicate_false _ _)⟩
  have H := h inv0 hc a { w with drawn := w.drawn + 1 } e ⟨s.os, s.tape, s.output, s.size, s.sep, s.le⟩; have H' := wp_region_any (id := id) hm (rany_any _ _ _ _ H); refine Code.wp_mono (fun en a' w' q => ?_) H'
  cases en with
  | normal => obtain ⟨x, t, e', s'⟩ := q; exact hend x t a' w' e' s'
  | exit id => exact (q : False).elim
  | goto l => exact (q : False).elim
  | ret => exact (q : False).elim
  | panic ch => exact (q : False).elim
  | outgrown => exact (q : False).elim
theorem ra_yield {i : Nat} {oi : Oper} {v : Value} (hc : (decide (i < m) && (Region.ready .any ops listed).contains i && Region.free .any ops listed i) = true) (hi : ops[i]? = some oi) (hy : ∀ a, EnvOK n K a → YieldsIf P ops (Sat w0 HS) oi v a) (hf : fitsK n oi.dst = true)
    (k : RA P n w0 ops m Q f (listed.setIfInBounds i true) (putK oi.dst v K) HS) : RA P n w0 ops m Q (f + 1) listed K HS := fun inv ht a w e s => by
  simp only [Bool.and_eq_true, decide_eq_true_eq] at hc; obtain ⟨⟨him, hr⟩, hfr⟩ := hc; have hr' : i ∈ Region.ready .any ops listed := by simpa using hr
  have ht' := ht; rw [Bool.and_eq_true] at ht'; exact rany_first hi (Region.noSelect_spec ht'.1) him ht'.2 _ listed a w inv (Region.free_spec hi hfr) hr' (hy a e) s
    (k (inv.set hr' him) ht _ _ (e.put v hf) s)
theorem ra_v {i : Nat} {oi : Oper} {v : Value} (hc : (decide (i < m) && (Region.ready .any ops listed).contains i && Region.free .any ops listed i) = true) (hi : ops[i]? = some oi) (hw : wantK ops K oi.guard = some true) (hv : StepV P n w0 K HS oi v) (hf : fitsK n oi.dst = true)
    (k : RA P n w0 ops m Q f (listed.setIfInBounds i true) (putK oi.dst v K) HS) : RA P n w0 ops m Q (f + 1) listed K HS :=
  ra_yield hc hi (fun a e => .inl ⟨e.wanted hw, fun w s => hv a w e s⟩) hf k
theorem ra_alts {l : List Nat} (hc : (decide (Region.ready .any ops listed = l) && (l.all fun i => decide (i < m)) && !l.isEmpty) = true) (k : ∀ i ∈ l, RO P n w0 ops m Q f i listed K HS) : RA P n w0 ops m Q (f + 1) listed K HS := fun inv ht a w e s => by
  simp only [Bool.and_eq_true, decide_eq_true_eq, List.all_eq_true, Bool.not_eq_true'] at hc; obtain ⟨⟨hr, hm⟩, hne⟩ := hc; refine ⟨fun h0 => (by rw [hr] at h0; rw [h0] at hne; cases hne), fun j hj => ?_⟩; have hj' := hj; rw [hr] at hj; exact k j hj (inv.set hj' (hm j hj)) ht a w e s
theorem ra_2 {i j : Nat} (hc : (decide (Region.ready .any ops listed = [i, j]) && ([i, j].all fun i => decide (i < m)) && !([i, j] : List Nat).isEmpty) = true) (k1 : RO P n w0 ops m Q f i listed K HS) (k2 : RO P n w0 ops m Q f j listed K HS) : RA P n w0 ops m Q (f + 1) listed K HS :=
  ra_alts hc (fun x hx => by simp only [List.mem_cons, List.not_mem_nil, or_false] at hx; rcases hx with rfl | rfl <;> assumption)
theorem ra_3 {i j p : Nat} (hc : (decide (Region.ready .any ops listed = [i, j, p]) && ([i, j, p].all fun i => decide (i < m)) && !([i, j, p] : List Nat).isEmpty) = true) (k1 : RO P n w0 ops m Q f i listed K HS) (k2 : RO P n w0 ops m Q f j listed K HS) (k3 : RO P n w0 ops m Q f p listed K HS) : RA P n w0 ops m Q (f + 1) listed K HS :=
  ra_alts hc (fun x hx => by simp only [List.mem_cons, List.not_mem_nil, or_false] at hx; rcases hx with rfl | rfl | rfl <;> assumption)
theorem ro_x {i : Nat} {oi : Oper} {T : Value → PH → Prop} (hi : ops[i]? = some oi) (hw : wantK ops K oi.guard = some true) (hx : StepX P n w0 K HS oi emp T) (hf : fitsK n oi.dst = true)
    (k : ∀ v h', T v h' → RA P n w0 ops m Q f (listed.setIfInBounds i true) (putK oi.dst v K) (h' :: HS)) : RO P n w0 ops m Q f i listed K HS := fun inv ht a w e s => by
  unfold wpOp
  simp only [hi]; rw [if_pos (e.wanted hw)]; refine .inl (Oper.wp_imp (hx a w e s) (fun a' w' ⟨v, h', ha, u, ht'⟩ => ?_) (fun _ _ _ f => f.elim)); subst ha; exact ⟨fun _ => s.same u, rany_mono (fun _ t => t.drop) _ _ _ _ (k v h' ht' inv ht _ _ (e.put v hf) (s.new u))⟩
theorem ra_rj (order : List (Nat × Bool)) (hc : chk ops m order listed = true) (hl : f = order.length) (h : RJ P n w0 ops m Q order listed K HS) : RA P n w0 ops m Q f listed K HS := fun inv ht a w e s => by
  rw [hl]; exact h (fun _ _ _ _ _ => inv) hc ht a w e s
end
end Go.Proofs.YtdkgaejmgnojhaaGreat
namespace Go.Proofs.YtdkgaejmgnojhaaGreat
set_option maxRecDepth 100000
open Go.RowKit

def widthI (k n : Int) : Int := if k = 7 then n else if k = 8 then 4 else 1
def topI (k p n : Int) : Int := if k = 1 then 1 else if k = 3 ∨ k = 4 ∨ k = 5 then p else if k = 6 then 2 ^ n.toNat - 1 else p - 1
theorem width_range {k p n : Int} (h : ringL k p n) : 1 ≤ widthI k n ∧ widthI k n ≤ 6 := by
  unfold widthI
  unfold ringL at h
  split
  · rcases h with h | h | h | h | h | h <;> omega
  · split <;> omega
theorem pow_range {n : Int} (h : 1 ≤ n ∧ n ≤ 20) : 2 ≤ (2 : Int) ^ n.toNat ∧ (2 : Int) ^ n.toNat ≤ 1048576 := by
  obtain ⟨m, hm⟩ : ∃ m : Nat, n = m := ⟨n.toNat, by omega⟩
  subst hm; have h1 : 1 ≤ m := by omega
  have h2 : m ≤ 20 := by omega
  simp only [Int.toNat_natCast]; have a1 : (2 : Nat) ^ 1 ≤ 2 ^ m := Nat.pow_le_pow_right (by omega) h1; have a2 : (2 : Nat) ^ m ≤ 2 ^ 20 := Nat.pow_le_pow_right (by omega) h2; have e : ((2 ^ m : Nat) : Int) = (2 : Int) ^ m := by simp
  rw [← e]
  omega
theorem top_range {k p n : Int} (h : ringL k p n) : 0 ≤ topI k p n ∧ topI k p n ≤ 1048576 := by
  unfold topI
  unfold ringL at h
  split
  · omega
  · split
    · rcases h with h | h | h | h | h | h <;> omega
    · split
      · have := pow_range (n := n) (by rcases h with h | h | h | h | h | h <;> omega)
        omega
      · have hp2 : ∀ {m : Int}, primeB m = true → 2 ≤ m ∧ m ≤ 1000003 := fun h => ⟨(primeB_iff.1 h).1, (primeB_iff.1 h).2.1⟩
        rcases h with h | h | h | h | h | h
        · omega
        · have := hp2 h.2.1; omega
        · omega
        · omega
        · have := hp2 h.2.1; omega
        · have := hp2 h.2.1; omega
theorem ct_s_l02Width (k p n : Int) (w : World) : Calls Tryz.prog 99 [ringV k p n].toArray w (RetV w (num (widthI k n))) := by
  refine calls_in Tryz.func99 rfl Tryz.ntmps99 rfl (Sat.start w) (wp_sc (wp_sq ?_)); refine sq_x rfl (x_box rfl rfl) rfl ?_; rintro _ _ ⟨b1, rfl, rfl⟩; refine sq_v rfl (v_assign rfl) rfl (sq_end (qs_n (wp_sc (wp_sc (wp_sq (sq_v rfl (v_fieldAddr fd_24_0 ty_3 (by decide) rfl) rfl (sq_v rfl (v_loadB 0 ty_3 rfl rfl rfl) rfl (sq_end (qs_n (wp_bl (wp_sc (wp_sq (sq_v rfl (v_eql rfl rfl) rfl (sq_v rfl (v_assign rfl) rfl (sq_end (qs_n ?_)))))))))))))))); refine wp_cd rfl (fun c5 => ?_) (fun c5 => ?_)
  · refine wp_sc (wp_sq (sq_v rfl (v_fieldAddr fd_24_2 ty_3 (by decide) rfl) rfl (sq_v rfl (v_loadB 0 ty_3 rfl rfl rfl) rfl (sq_v rfl (v_assign rfl) rfl (sq_end (qs_n (wp_rt (qs_br (qs_r ?_))))))))); exact qs_ret1 rfl rfl (fin_q (i := 1) rfl (by simp [widthI, *]))
  · refine wp_sc (wp_sq (sq_v rfl (v_eql rfl rfl) rfl (sq_v rfl (v_assign rfl) rfl (sq_end (qs_n ?_))))); refine wp_cd rfl (fun c9 => ?_) (fun c9 => ?_)
    · refine wp_sc (wp_sq (sq_v rfl (v_assign rfl) rfl (sq_end (qs_n (wp_rt (qs_br (qs_r ?_))))))); exact qs_ret1 rfl rfl (fin_q (i := 1) rfl (by simp [widthI, *]))
    · refine wp_sk (qs_bn (qs_n (wp_sc (wp_sq (sq_v rfl (v_assign rfl) rfl (sq_end (qs_n (wp_rt ?_)))))))); exact qs_ret1 rfl rfl (fin_q (i := 1) rfl (by simp [widthI, *]))
theorem ct_i_rawWidth (k p n : Int) (w : World) : Calls Tryz.prog 46 [ringV k p n].toArray w (RetV w (num (widthI k n))) := by
  refine calls_in Tryz.func46 rfl Tryz.ntmps46 rfl (Sat.start w) (wp_sc (wp_sq ?_)); refine sq_x rfl (x_box rfl rfl) rfl ?_; rintro _ _ ⟨b1, rfl, rfl⟩; refine sq_v rfl (v_assign rfl) rfl (sq_end (qs_n (wp_sc (wp_sc (wp_sq (sq_v rfl (v_fieldAddr fd_24_0 ty_3 (by decide) rfl) rfl (sq_v rfl (v_loadB 0 ty_3 rfl rfl rfl) rfl (sq_end (qs_n (wp_bl (wp_sc (wp_sq (sq_v rfl (v_eql rfl rfl) rfl (sq_v rfl (v_assign rfl) rfl (sq_end (qs_n ?_)))))))))))))))); refine wp_cd rfl (fun c5 => ?_) (fun c5 => ?_)
  · refine wp_sc (wp_sq (sq_v rfl (v_fieldAddr fd_24_2 ty_3 (by decide) rfl) rfl (sq_v rfl (v_loadB 0 ty_3 rfl rfl rfl) rfl (sq_v rfl (v_assign rfl) rfl (sq_end (qs_n (wp_rt (qs_br (qs_r ?_))))))))); exact qs_ret1 rfl rfl (fin_q (i := 1) rfl (by simp [widthI, *]))
  · refine wp_sc (wp_sq (sq_v rfl (v_eql rfl rfl) rfl (sq_v rfl (v_assign rfl) rfl (sq_end (qs_n ?_))))); refine wp_cd rfl (fun c9 => ?_) (fun c9 => ?_)
    · refine wp_sc (wp_sq (sq_v rfl (v_assign rfl) rfl (sq_end (qs_n (wp_rt (qs_br (qs_r ?_))))))); exact qs_ret1 rfl rfl (fin_q (i := 1) rfl (by simp [widthI, *]))
    · refine wp_sk (qs_bn (qs_n (wp_sc (wp_sq (sq_v rfl (v_assign rfl) rfl (sq_end (qs_n (wp_rt ?_)))))))); exact qs_ret1 rfl rfl (fin_q (i := 1) rfl (by simp [widthI, *]))
theorem ring_set {k p n : Int} (h : ringL k p n) (h6 : k = 6) : 1 ≤ n ∧ n ≤ 20 := by
  unfold ringL at h
  rcases h with h | h | h | h | h | h <;> omega
theorem ring_p {k p n : Int} (h : ringL k p n) : 0 ≤ p ∧ p ≤ 1000003 := by
  have hp2 : ∀ {m : Int}, primeB m = true → 2 ≤ m ∧ m ≤ 1000003 := fun h => ⟨(primeB_iff.1 h).1, (primeB_iff.1 h).2.1⟩
  unfold ringL at h
  rcases h with h | h | h | h | h | h
  · omega
  · have := hp2 h.2.1; omega
  · omega
  · omega
  · have := hp2 h.2.1; omega
  · have := hp2 h.2.1; omega
theorem ct_s_l02Top (k p n : Int) (w : World) (h : ringL k p n) : Calls Tryz.prog 104 [ringV k p n].toArray w (RetV w (num (topI k p n))) := by
  have hrp := ring_p h; refine calls_in Tryz.func104 rfl Tryz.ntmps104 rfl (Sat.start w) (wp_sc (wp_sq ?_)); refine sq_x rfl (x_box rfl rfl) rfl ?_; rintro _ _ ⟨b1, rfl, rfl⟩; refine sq_v rfl (v_assign rfl) rfl (sq_end (qs_n (wp_sc (wp_sc (wp_sq (sq_v rfl (v_fieldAddr fd_24_0 ty_3 (by decide) rfl) rfl (sq_v rfl (v_loadB 0 ty_3 rfl rfl rfl) rfl (sq_end (qs_n (wp_bl (wp_sc (wp_sq (sq_v rfl (v_eql rfl rfl) rfl (sq_v rfl (v_assign rfl) rfl (sq_end (qs_n ?_)))))))))))))))); refine wp_cd rfl (fun c5 => ?_) (fun c5 => ?_)
  · refine wp_sc (wp_sq (sq_v rfl (v_assign rfl) rfl (sq_end (qs_n (wp_rt (qs_br (qs_r ?_))))))); exact qs_ret1 rfl rfl (fin_q (i := 1) rfl (by simp [topI, *]))
  · refine wp_sc (wp_sc (wp_sq (sq_v rfl (v_eql rfl rfl) rfl (sq_v rfl (v_assign rfl) rfl (sq_end (qs_n ?_)))))); refine wp_cSd rfl (fun c7 => ?_) (fun c7 => ?_)
    · refine wp_sk (qs_n (wp_ct rfl (wp_sc (wp_sq (sq_v rfl (v_fieldAddr fd_24_1 ty_3 (by decide) rfl) rfl (sq_v rfl (v_loadB 0 ty_3 rfl rfl rfl) rfl (sq_v rfl (v_assign rfl) rfl (sq_end (qs_n (wp_rt (qs_br (qs_r ?_)))))))))))); exact qs_ret1 rfl rfl (fin_q (i := 1) rfl (by simp [topI, *]))
    · refine wp_sc (wp_sq (sq_v rfl (v_eql rfl rfl) rfl (sq_v rfl (v_assign rfl) rfl (sq_end (qs_n ?_))))); refine wp_cSd rfl (fun c7 => ?_) (fun c7 => ?_)
      · refine wp_sk (qs_n (wp_ct rfl (wp_sc (wp_sq (sq_v rfl (v_fieldAddr fd_24_1 ty_3 (by decide) rfl) rfl (sq_v rfl (v_loadB 0 ty_3 rfl rfl rfl) rfl (sq_v rfl (v_assign rfl) rfl (sq_end (qs_n (wp_rt (qs_br (qs_r ?_)))))))))))); exact qs_ret1 rfl rfl (fin_q (i := 1) rfl (by simp [topI, *]))
      · refine wp_sq (sq_v rfl (v_eql rfl rfl) rfl (sq_v rfl (v_assign rfl) rfl (sq_end (qs_n ?_)))); refine wp_cSd rfl (fun c7 => ?_) (fun c7 => ?_)
        · refine wp_sc (wp_sq (sq_v rfl (v_fieldAddr fd_24_1 ty_3 (by decide) rfl) rfl (sq_v rfl (v_loadB 0 ty_3 rfl rfl rfl) rfl (sq_v rfl (v_assign rfl) rfl (sq_end (qs_n (wp_rt (qs_br (qs_r ?_))))))))); exact qs_ret1 rfl rfl (fin_q (i := 1) rfl (by simp [topI, *]))
        · refine wp_sc (wp_sq (sq_v rfl (v_eql rfl rfl) rfl (sq_v rfl (v_assign rfl) rfl (sq_end (qs_n ?_))))); refine wp_cd rfl (fun c13 => ?_) (fun c13 => ?_)
          · refine wp_sc (wp_sq (sq_v rfl (v_fieldAddr fd_24_2 ty_3 (by decide) rfl) rfl (sq_v rfl (v_loadB 0 ty_3 rfl rfl rfl) rfl ?_))); have hn := ring_set h c13; have hpw := pow_range hn; refine sq_v rfl (v_shl rfl rfl (by omega) (by omega) (by unfold I64; omega)) rfl ?_; refine sq_v rfl (v_sub rfl rfl ((by unfold I64; omega))) rfl ?_; refine sq_v rfl (v_assign rfl) rfl (sq_end (qs_n (wp_rt (qs_br (qs_r ?_))))); exact qs_ret1 rfl rfl (fin_q (i := 1) rfl (by simp [topI, *]))
          · refine wp_sk (qs_bn (qs_n (wp_sc (wp_sq (sq_v rfl (v_fieldAddr fd_24_1 ty_3 (by decide) rfl) rfl (sq_v rfl (v_loadB 0 ty_3 rfl rfl rfl) rfl ?_)))))); refine sq_v rfl (v_sub rfl rfl ((by unfold I64; omega))) rfl ?_; refine sq_v rfl (v_assign rfl) rfl (sq_end (qs_n (wp_rt ?_))); exact qs_ret1 rfl rfl (fin_q (i := 1) rfl (by simp [topI, *]))
theorem ct_i_rawTop (k p n : Int) (w : World) (h : ringL k p n) : Calls Tryz.prog 47 [ringV k p n].toArray w (RetV w (num (topI k p n))) := by
  have hrp := ring_p h; refine calls_in Tryz.func47 rfl Tryz.ntmps47 rfl (Sat.start w) (wp_sc (wp_sq ?_)); refine sq_x rfl (x_box rfl rfl) rfl ?_; rintro _ _ ⟨b1, rfl, rfl⟩; refine sq_v rfl (v_assign rfl) rfl (sq_end (qs_n (wp_sc (wp_sc (wp_sq (sq_v rfl (v_fieldAddr fd_24_0 ty_3 (by decide) rfl) rfl (sq_v rfl (v_loadB 0 ty_3 rfl rfl rfl) rfl (sq_end (qs_n (wp_bl (wp_sc (wp_sq (sq_v rfl (v_eql rfl rfl) rfl (sq_v rfl (v_assign rfl) rfl (sq_end (qs_n ?_)))))))))))))))); refine wp_cd rfl (fun c5 => ?_) (fun c5 => ?_)
  · refine wp_sc (wp_sq (sq_v rfl (v_assign rfl) rfl (sq_end (qs_n (wp_rt (qs_br (qs_r ?_))))))); exact qs_ret1 rfl rfl (fin_q (i := 1) rfl (by simp [topI, *]))
  · refine wp_sc (wp_sc (wp_sq (sq_v rfl (v_eql rfl rfl) rfl (sq_v rfl (v_assign rfl) rfl (sq_end (qs_n ?_)))))); refine wp_cSd rfl (fun c7 => ?_) (fun c7 => ?_)
    · refine wp_sk (qs_n (wp_ct rfl (wp_sc (wp_sq (sq_v rfl (v_fieldAddr fd_24_1 ty_3 (by decide) rfl) rfl (sq_v rfl (v_loadB 0 ty_3 rfl rfl rfl) rfl (sq_v rfl (v_assign rfl) rfl (sq_end (qs_n (wp_rt (qs_br (qs_r ?_)))))))))))); exact qs_ret1 rfl rfl (fin_q (i := 1) rfl (by simp [topI, *]))
    · refine wp_sc (wp_sq (sq_v rfl (v_eql rfl rfl) rfl (sq_v rfl (v_assign rfl) rfl (sq_end (qs_n ?_))))); refine wp_cSd rfl (fun c7 => ?_) (fun c7 => ?_)
      · refine wp_sk (qs_n (wp_ct rfl (wp_sc (wp_sq (sq_v rfl (v_fieldAddr fd_24_1 ty_3 (by decide) rfl) rfl (sq_v rfl (v_loadB 0 ty_3 rfl rfl rfl) rfl (sq_v rfl (v_assign rfl) rfl (sq_end (qs_n (wp_rt (qs_br (qs_r ?_)))))))))))); exact qs_ret1 rfl rfl (fin_q (i := 1) rfl (by simp [topI, *]))
      · refine wp_sq (sq_v rfl (v_eql rfl rfl) rfl (sq_v rfl (v_assign rfl) rfl (sq_end (qs_n ?_)))); refine wp_cSd rfl (fun c7 => ?_) (fun c7 => ?_)
        · refine wp_sc (wp_sq (sq_v rfl (v_fieldAddr fd_24_1 ty_3 (by decide) rfl) rfl (sq_v rfl (v_loadB 0 ty_3 rfl rfl rfl) rfl (sq_v rfl (v_assign rfl) rfl (sq_end (qs_n (wp_rt (qs_br (qs_r ?_))))))))); exact qs_ret1 rfl rfl (fin_q (i := 1) rfl (by simp [topI, *]))
        · refine wp_sc (wp_sq (sq_v rfl (v_eql rfl rfl) rfl (sq_v rfl (v_assign rfl) rfl (sq_end (qs_n ?_))))); refine wp_cd rfl (fun c13 => ?_) (fun c13 => ?_)
          · refine wp_sc (wp_sq (sq_v rfl (v_fieldAddr fd_24_2 ty_3 (by decide) rfl) rfl (sq_v rfl (v_loadB 0 ty_3 rfl rfl rfl) rfl ?_))); have hn := ring_set h c13; have hpw := pow_range hn; refine sq_v rfl (v_shl rfl rfl (by omega) (by omega) (by unfold I64; omega)) rfl ?_; refine sq_v rfl (v_sub rfl rfl ((by unfold I64; omega))) rfl ?_; refine sq_v rfl (v_assign rfl) rfl (sq_end (qs_n (wp_rt (qs_br (qs_r ?_))))); exact qs_ret1 rfl rfl (fin_q (i := 1) rfl (by simp [topI, *]))
          · refine wp_sk (qs_bn (qs_n (wp_sc (wp_sq (sq_v rfl (v_fieldAddr fd_24_1 ty_3 (by decide) rfl) rfl (sq_v rfl (v_loadB 0 ty_3 rfl rfl rfl) rfl ?_)))))); refine sq_v rfl (v_sub rfl rfl ((by unfold I64; omega))) rfl ?_; refine sq_v rfl (v_assign rfl) rfl (sq_end (qs_n (wp_rt ?_))); exact qs_ret1 rfl rfl (fin_q (i := 1) rfl (by simp [topI, *]))
theorem all_of {p : Int → Prop} {xs : List Int} (h : ∀ j, j < xs.length → p (xs.getD j 0)) : ∀ a ∈ xs, p a := fun a ha => by
  obtain ⟨i, h1, h2⟩ := getD_of_mem ha; rw [← h2]; exact h i h1
theorem ct_i_inRing (k p n : Int) (xs : List Int) (v : Value) (w : World) (h : ringL k p n) (r : IntsR xs v (hp w)) : Calls Tryz.prog 69 [ringV k p n, v].toArray w (RetV w (.bool (decide (∀ a ∈ xs, 0 ≤ a ∧ a ≤ topI k p n)))) := by
  have hx := r.le; refine calls_in Tryz.func69 rfl Tryz.ntmps69 rfl (Sat.start w) (wp_sc (wp_sq ?_)); refine sq_x rfl (x_box rfl rfl) rfl ?_; rintro _ _ ⟨b2, rfl, rfl⟩; refine sq_v rfl (v_assign rfl) rfl (sq_end (qs_n (wp_sc (wp_sq (sq_v rfl (v_loadNB 0 ty_24 rfl rfl rfl rfl) rfl (sq_u rfl (x_callv rfl en_47 (fun w s => ct_i_rawTop _ _ _ w h)) rfl (sq_v rfl (v_assign rfl) rfl (sq_end (qs_n (wp_sc (wp_sc (wp_sq (sq_v rfl (v_move rfl) rfl (sq_v rfl (v_len Tryz.underlying26 rfl r.sl) rfl (sq_v rfl (v_move rfl) rfl (sq_end (qs_n (wp_bl (wp_lp (fun i : Nat => [(5, num (topI k p n)), (10, v), (11, num xs.length), (12, num i)]) (fun _ => [hp w]) (fun i => i ≤ xs.length ∧ ∀ j, j < i → 0 ≤ xs.getD j 0 ∧ xs.getD j 0 ≤ topI k p n) (fun i => xs.length - i) 0 ⟨by omega, fun j hj => by omega⟩ ⟨rfl, rfl, rfl, rfl, trivial⟩ (fun _ s => s.pick [1] (by decide) rfl) ?_))))))))))))))))))); rintro i ⟨hi, hn⟩; refine wp_sc (wp_sq (sq_v rfl (v_lss rfl rfl) rfl (sq_end (qs_n (wp_sc ?_))))); refine wp_cd rfl (fun c13 => ?_) (fun c13 => ?_)
  · refine wp_sk (qs_n (wp_sc (wp_bl (wp_sc (wp_sq (sq_v rfl (v_idxI Tryz.underlying26 ty_3 rfl rfl r (by omega) (by omega)) rfl (sq_v rfl (v_loadI  0 ty_3 rfl rfl r (by omega)) rfl (sq_v rfl (v_assign rfl) rfl (sq_end (qs_n (wp_sc (wp_sq (sq_v rfl (v_move rfl) rfl (sq_v rfl (v_lss rfl rfl) rfl ?_)))))))))))))); refine sq_bd 17 rfl (fun c17 => ?_) (fun c17 => ?_)
    · refine sq_v rfl (v_move rfl) rfl (sq_s rfl rfl (sq_s rfl rfl (sq_s rfl rfl (sq_v rfl (v_pickt rfl rfl) rfl (sq_end (qs_n (wp_ct rfl (wp_sc (wp_sq (sq_v rfl (v_assign rfl) rfl (sq_end (qs_n (wp_rt (qs_br (qs_r (qs_r (qs_br (qs_r ?_)))))))))))))))))); exact qs_ret1 rfl rfl (fin_q (i := 0) rfl (by congr 1; symm; rw [decide_eq_false_iff_not]; intro h; have := h _ (mem_getD (by omega : ((i : Int).toNat) < xs.length)); omega))
    · refine sq_v rfl (v_move rfl) rfl (sq_v rfl (v_move rfl) rfl (sq_v rfl (v_move rfl) rfl (sq_v rfl (v_gtr rfl rfl) rfl (sq_v rfl (v_pickf rfl rfl) rfl (sq_end (qs_n ?_)))))); refine wp_cd rfl (fun c22 => ?_) (fun c22 => ?_)
      · refine wp_sc (wp_sq (sq_v rfl (v_assign rfl) rfl (sq_end (qs_n (wp_rt (qs_br (qs_r (qs_r (qs_br (qs_r ?_)))))))))); exact qs_ret1 rfl rfl (fin_q (i := 0) rfl (by congr 1; symm; rw [decide_eq_false_iff_not]; intro h; have := h _ (mem_getD (by omega : ((i : Int).toNat) < xs.length)); omega))
      · refine wp_sk (qs_bn (qs_n (wp_sq ?_))); refine sq_v rfl (v_add rfl rfl ((by unfold I64; omega))) rfl ?_; refine sq_v rfl (v_move rfl) rfl (sq_end ?_); exact qs_bk (i + 1) ⟨by omega, step_all hn (by simp only [Int.toNat_natCast] at *; omega)⟩ (by omega) ⟨rfl, rfl, rfl, rfl, trivial⟩ (fun _ s => s)
  · refine wp_ex (qs_x (qs_x (qs_bx (qs_n (wp_sc (wp_sq (sq_v rfl (v_assign rfl) rfl (sq_end (qs_n (wp_rt ?_)))))))))); exact qs_ret1 rfl rfl (fin_q (i := 0) rfl (by congr 1; symm; rw [decide_eq_true_eq]; exact all_of (fun j hj => hn j (by omega))))
def tensorL (k p n : Int) (ls ds xs : List Int) : Prop := ringL k p n ∧ 0 ≤ sizeI ls ds ∧ (xs.length : Int) = sizeI ls ds * widthI k n ∧ ∀ a ∈ xs, 0 ≤ a ∧ a ≤ topI k p n
open Classical in
noncomputable def tensorB (k p n : Int) (ls ds xs : List Int) : Bool := decide (tensorL k p n ls ds xs)
theorem tensorB_no {k p n : Int} {ls ds xs : List Int} (h : ¬ tensorL k p n ls ds xs) : Value.bool false = .bool (tensorB k p n ls ds xs) := by simp [tensorB, h]
theorem tensorB_yes {k p n : Int} {ls ds xs : List Int} (h : tensorL k p n ls ds xs) : Value.bool true = .bool (tensorB k p n ls ds xs) := by simp [tensorB, h]
theorem ringB_true {k p n : Int} : ringB k p n = true ↔ ringL k p n := by simp [ringB]
theorem ringB_false {k p n : Int} : ringB k p n = false ↔ ¬ ringL k p n := by simp [ringB]
theorem mul_w {s x : Int} (hs : s = -1 ∨ (1 ≤ s ∧ s ≤ 4096)) (hx : 1 ≤ x ∧ x ≤ 6) : I64 (s * x) := by
  rcases hs with rfl | hs
  · unfold I64; omega
  · have h1 : s * x ≤ 4096 * 6 := Int.mul_le_mul hs.2 hx.2 (by omega) (by omega); have h2 : 0 ≤ s * x := Int.mul_nonneg (by omega) (by omega)
    unfold I64; omega
theorem ct_s_TensorOk (k p n : Int) (ls ds xs : List Int) (a b c : Value) (w : World) (r1 : IntsR ls a (hp w)) (r2 : IntsR ds b (hp w)) (r3 : IntsR xs c (hp w)) : Calls Tryz.prog 94 [ringV k p n, tenV a b c].toArray w (RetV w (.bool (tensorB k p n ls ds xs))) := by
  have hx := r3.le; refine calls_in Tryz.func94 rfl Tryz.ntmps94 rfl (Sat.start w) (wp_sc (wp_sq ?_)); refine sq_x rfl (x_box rfl rfl) rfl ?_; rintro _ _ ⟨b2, rfl, rfl⟩; refine sq_x rfl (x_box rfl rfl) rfl ?_; rintro _ _ ⟨b3, rfl, rfl⟩; refine sq_v rfl (v_assign rfl) rfl (sq_end (qs_n (wp_sc (wp_sq (sq_v rfl (v_loadNB 0 ty_40 rfl rfl rfl rfl) rfl (sq_u rfl (x_callv rfl en_96 (fun w s => ct_s_TensorSize _ _ _ _ _ w (r1.mono (s.get 2 rfl)) (r2.mono (s.get 2 rfl)))) rfl (sq_v rfl (v_assign rfl) rfl (sq_end (qs_n (wp_sc (wp_sc (wp_rj 17 [(0, true), (1, false), (2, true), (3, true), (4, true), (5, true), (6, true), (7, true), (8, true), (9, true), (10, true), (11, true), (12, true), (13, false), (14, true), (15, true), (16, true)] mixed_ok (by kernel_rfl) (rj_v rfl rfl (v_loadNB 1 ty_24 rfl rfl rfl rfl) rfl (rj_u rfl rfl (x_callv rfl en_93 (fun w s => ct_s_RingOk _ _ _ w)) rfl ?_)))))))))))))); refine rj_bb 11 rfl (fun c11 => ?_) (fun c11 => ?_)
  · refine rj_v rfl rfl (v_not rfl) rfl (rj_v rfl rfl (v_move rfl) rfl (rj_v rfl rfl (v_move rfl) rfl (rj_v rfl rfl (v_lss rfl rfl) rfl (rj_v rfl rfl (v_pickf rfl rfl) rfl ?_)))); refine rj_bd 16 rfl (fun c16 => ?_) (fun c16 => ?_)
    · refine rj_v rfl rfl (v_move rfl) rfl (rj_s rfl rfl rfl (rj_s rfl rfl rfl (rj_s rfl rfl rfl (rj_s rfl rfl rfl (rj_s rfl rfl rfl (rj_fs rfl rfl rfl (rj_s rfl rfl rfl (rj_s rfl rfl rfl (rj_v rfl rfl (v_pickt rfl rfl) rfl (rj_end (qs_n ?_))))))))))); refine wp_ct rfl (wp_sc (wp_sq (sq_v rfl (v_assign rfl) rfl (sq_end (qs_n (wp_rt (qs_r ?_))))))); exact qs_ret1 rfl rfl (fin_q (i := 2) rfl (tensorB_no (fun h => by have := h.2.1; omega)))
    · refine rj_v rfl rfl (v_move rfl) rfl (rj_v rfl rfl (v_fieldAddr fd_40_2 ty_26 (by decide) rfl) rfl (rj_v rfl rfl (v_loadB 0 ty_26 rfl rfl rfl) rfl (rj_v rfl rfl (v_len Tryz.underlying26 rfl r3.sl) rfl (rj_v rfl rfl (v_move rfl) rfl (rj_v rfl rfl (v_loadNB 1 ty_24 rfl rfl rfl rfl) rfl (rj_u rfl rfl (x_callv rfl en_99 (fun w s => ct_s_l02Width _ _ _ w)) rfl (rj_v rfl rfl (v_mul rfl rfl (mul_w (sizeI_range ls ds) (width_range (ringB_true.1 c11)))) rfl (rj_v rfl rfl (v_neq rfl rfl) rfl (rj_v rfl rfl (v_pickf rfl rfl) rfl (rj_end (qs_n ?_))))))))))); refine wp_cd rfl (fun c26 => ?_) (fun c26 => ?_)
      · refine wp_sc (wp_sq (sq_v rfl (v_assign rfl) rfl (sq_end (qs_n (wp_rt (qs_r ?_)))))); exact qs_ret1 rfl rfl (fin_q (i := 2) rfl (tensorB_no (fun h => by have := h.2.2.1; omega)))
      · refine wp_sk (qs_n (wp_sc (wp_sc (wp_sq (sq_v rfl (v_fieldAddr fd_40_2 ty_26 (by decide) rfl) rfl (sq_v rfl (v_loadB 0 ty_26 rfl rfl rfl) rfl (sq_v rfl (v_len Tryz.underlying26 rfl r3.sl) rfl (sq_v rfl (v_move rfl) rfl (sq_end (qs_n (wp_bl (wp_lp (fun i : Nat => [(2, .pointer (some ⟨b2, 0, none⟩)), (28, c), (29, num xs.length), (30, num i)]) (fun _ => [box b2 [num k, num p, num n] 24, hp w]) (fun i => i ≤ xs.length ∧ ∀ j, j < i → 0 ≤ xs.getD j 0 ∧ xs.getD j 0 ≤ topI k p n) (fun i => xs.length - i) 0 ⟨by omega, fun j hj => by omega⟩ ⟨rfl, rfl, rfl, rfl, trivial⟩ (fun _ s => s.pick [1, 2] (by decide) rfl) ?_)))))))))))); rintro i ⟨hi, hn⟩; refine wp_sc (wp_sq (sq_v rfl (v_lss rfl rfl) rfl (sq_end (qs_n (wp_sc ?_))))); refine wp_cd rfl (fun c31 => ?_) (fun c31 => ?_)
        · refine wp_sk (qs_n (wp_sc (wp_bl (wp_sc (wp_sq (sq_v rfl (v_idxI Tryz.underlying26 ty_3 rfl rfl r3 (by omega) (by omega)) rfl (sq_v rfl (v_loadI  1 ty_3 rfl rfl r3 (by omega)) rfl (sq_v rfl (v_assign rfl) rfl (sq_end (qs_n (wp_sc (wp_sq (sq_v rfl (v_move rfl) rfl (sq_v rfl (v_loadNB 0 ty_24 rfl rfl rfl rfl) rfl (sq_u rfl (x_callv rfl en_104 (fun w s => ct_s_l02Top _ _ _ w (ringB_true.1 c11))) rfl (sq_u rfl (x_callv rfl en_109 (fun w s => ct_s_l01In _ _ _ w)) rfl (sq_v rfl (v_not rfl) rfl (sq_end (qs_n ?_))))))))))))))))))); refine wp_cnd rfl (fun c38 => ?_) (fun c38 => ?_)
          · refine wp_sc (wp_sq (sq_v rfl (v_assign rfl) rfl (sq_end (qs_n (wp_rt (qs_br (qs_r (qs_r (qs_br (qs_r ?_)))))))))); exact qs_ret1 rfl rfl (fin_q (i := 1) rfl (tensorB_no (fun h => c38 (h.2.2.2 _ (mem_getD (by omega : ((i : Int).toNat) < xs.length))))))
          · refine wp_sk (qs_bn (qs_n (wp_sq ?_))); refine sq_v rfl (v_add rfl rfl ((by unfold I64; omega))) rfl ?_; refine sq_v rfl (v_move rfl) rfl (sq_end ?_); exact qs_bk (i + 1) ⟨by omega, step_all hn c38⟩ (by omega) ⟨rfl, rfl, rfl, rfl, trivial⟩ (fun _ s => s)
        · refine wp_ex (qs_x (qs_x (qs_bx (qs_n (wp_sc (wp_sq (sq_v rfl (v_assign rfl) rfl (sq_end (qs_n (wp_rt ?_)))))))))); exact qs_ret1 rfl rfl (fin_q (i := 1) rfl (tensorB_yes ⟨ringB_true.1 c11, by omega, by omega, all_of (fun j hj => hn j (by omega))⟩))
  · refine rj_v rfl rfl (v_not rfl) rfl (rj_v rfl rfl (v_move rfl) rfl (rj_s rfl rfl rfl (rj_s rfl rfl rfl (rj_v rfl rfl (v_pickt rfl rfl) rfl (rj_v rfl rfl (v_move rfl) rfl (rj_s rfl rfl rfl (rj_s rfl rfl rfl (rj_s rfl rfl rfl (rj_s rfl rfl rfl ?_))))))))); refine rj_s rfl rfl rfl (rj_fs rfl rfl rfl (rj_s rfl rfl rfl (rj_s rfl rfl rfl (rj_v rfl rfl (v_pickt rfl rfl) rfl (rj_end (qs_n (wp_ct rfl (wp_sc (wp_sq (sq_v rfl (v_assign rfl) rfl (sq_end (qs_n (wp_rt (qs_r ?_)))))))))))))); exact qs_ret1 rfl rfl (fin_q (i := 2) rfl (tensorB_no (fun h => ringB_false.1 c11 h.1)))
theorem ct_i_TensorOk (k p n : Int) (ls ds xs : List Int) (a b c : Value) (w : World) (r1 : IntsR ls a (hp w)) (r2 : IntsR ds b (hp w)) (r3 : IntsR xs c (hp w)) : Calls Tryz.prog 34 [ringV k p n, tenV a b c].toArray w (RetV w (.bool (tensorB k p n ls ds xs))) := by
  have hx := r3.le; refine calls_in Tryz.func34 rfl Tryz.ntmps34 rfl (Sat.start w) (wp_sc (wp_sq ?_)); refine sq_x rfl (x_box rfl rfl) rfl ?_; rintro _ _ ⟨b2, rfl, rfl⟩; refine sq_x rfl (x_box rfl rfl) rfl ?_; rintro _ _ ⟨b3, rfl, rfl⟩; refine sq_v rfl (v_assign rfl) rfl (sq_end (qs_n (wp_sc (wp_sc (wp_sq (sq_v rfl (v_loadNB 1 ty_24 rfl rfl rfl rfl) rfl (sq_u rfl (x_callv rfl en_51 (fun w s => ct_i_RingOk _ _ _ w)) rfl (sq_v rfl (v_not rfl) rfl (sq_end (qs_n ?_)))))))))); refine wp_cn _ rfl (fun c8 => ?_) (fun c8 => ?_)
  · refine wp_sc (wp_sq (sq_v rfl (v_assign rfl) rfl (sq_end (qs_n (wp_rt (qs_r ?_)))))); exact qs_ret1 rfl rfl (fin_q (i := 2) rfl (tensorB_no (fun h => ringB_false.1 c8 h.1)))
  · refine wp_sk (qs_n (wp_sc (wp_sq (sq_v rfl (v_loadNB 0 ty_40 rfl rfl rfl rfl) rfl (sq_u rfl (x_callv rfl en_52 (fun w s => ct_i_TensorSize _ _ _ _ _ w (r1.mono (s.get 2 rfl)) (r2.mono (s.get 2 rfl)))) rfl (sq_v rfl (v_assign rfl) rfl (sq_end (qs_n (wp_sc (wp_rj 19 [(0, true), (1, true), (2, true), (3, true), (4, true), (5, true), (6, true), (7, true), (8, false), (9, true), (10, true), (11, true), (12, true), (13, true), (14, true), (15, true), (16, false), (17, true), (18, true)] mixed_ok (by kernel_rfl) (rj_v rfl rfl (v_move rfl) rfl (rj_v rfl rfl (v_neq rfl rfl) rfl ?_)))))))))))); refine rj_bd 12 rfl (fun c12 => ?_) (fun c12 => ?_)
    · refine rj_v rfl rfl (v_move rfl) rfl (rj_v rfl rfl (v_fieldAddr fd_40_2 ty_26 (by decide) rfl) rfl (rj_v rfl rfl (v_loadB 0 ty_26 rfl rfl rfl) rfl (rj_v rfl rfl (v_len Tryz.underlying26 rfl r3.sl) rfl (rj_v rfl rfl (v_move rfl) rfl (rj_v rfl rfl (v_loadNB 1 ty_24 rfl rfl rfl rfl) rfl (rj_u rfl rfl (x_callv rfl en_46 (fun w s => ct_i_rawWidth _ _ _ w)) rfl (rj_v rfl rfl (v_mul rfl rfl (mul_w (sizeI_range ls ds) (width_range (ringB_true.1 c8)))) rfl (rj_v rfl rfl (v_eql rfl rfl) rfl (rj_v rfl rfl (v_pickt rfl rfl) rfl ?_))))))))); refine rj_bd 22 rfl (fun c22 => ?_) (fun c22 => ?_)
      · refine rj_v rfl rfl (v_move rfl) rfl (rj_v rfl rfl (v_loadNB 1 ty_24 rfl rfl rfl rfl) rfl (rj_v rfl rfl (v_fieldAddr fd_40_2 ty_26 (by decide) rfl) rfl (rj_v rfl rfl (v_loadB 0 ty_26 rfl rfl rfl) rfl (rj_u rfl rfl (x_callv rfl en_69 (fun w s => ct_i_inRing _ _ _ _ _ w (ringB_true.1 c8) (r3.mono (s.get 2 rfl)))) rfl (rj_v rfl rfl (v_pickt rfl rfl) rfl (rj_v rfl rfl (v_assign rfl) rfl (rj_end (qs_n (wp_rt ?_))))))))); exact qs_ret1 rfl rfl (fin_q (i := 2) rfl (by congr 1; unfold tensorB; congr 1; rw [eq_iff_iff]; exact ⟨fun h => ⟨ringB_true.1 c8, by have := sizeI_range ls ds; omega, c22, h⟩, fun h => h.2.2.2⟩))
      · refine rj_v rfl rfl (v_move rfl) rfl (rj_s rfl rfl rfl (rj_s rfl rfl rfl (rj_s rfl rfl rfl (rj_fs rfl rfl rfl (rj_v rfl rfl (v_pickf rfl rfl) rfl (rj_v rfl rfl (v_assign rfl) rfl (rj_end (qs_n (wp_rt ?_))))))))); exact qs_ret1 rfl rfl (fin_q (i := 2) rfl (tensorB_no (fun h => c22 h.2.2.1)))
    · refine rj_v rfl rfl (v_move rfl) rfl (rj_s rfl rfl rfl (rj_s rfl rfl rfl (rj_s rfl rfl rfl (rj_s rfl rfl rfl (rj_s rfl rfl rfl (rj_fs rfl rfl rfl (rj_s rfl rfl rfl (rj_s rfl rfl rfl (rj_v rfl rfl (v_pickf rfl rfl) rfl ?_))))))))); refine rj_v rfl rfl (v_move rfl) rfl (rj_s rfl rfl rfl (rj_s rfl rfl rfl (rj_s rfl rfl rfl (rj_fs rfl rfl rfl (rj_v rfl rfl (v_pickf rfl rfl) rfl (rj_v rfl rfl (v_assign rfl) rfl (rj_end (qs_n (wp_rt ?_))))))))); exact qs_ret1 rfl rfl (fin_q (i := 2) rfl (tensorB_no (fun h => by have := h.2.1; omega)))
theorem ct_i_copyInts (xs : List Int) (v : Value) (w : World) (r : IntsR xs v (hp w)) (hs : xs.length ≤ 17592186044416) : Calls Tryz.prog 32 [v].toArray w (Ret w emp (IntsO xs)) := by
  refine calls_in Tryz.func32 rfl Tryz.ntmps32 rfl (Sat.start w) (wp_sc (wp_sq (sq_v rfl (v_assign rfl) rfl (sq_end (qs_n (wp_sc (wp_sq (sq_v rfl (v_move rfl) rfl ?_)))))))); refine sq_x rfl (stepx_emp (m_appI 0 (0+1) Tryz.underlying26 ty_3 rfl rfl rfl rfl IntsO.nil rfl r (by simp; omega))) rfl ?_; intro v4 h4 r4; refine sq_v rfl (v_assign rfl) rfl (sq_end (qs_n (wp_rt ?_))); exact qs_ret1 rfl rfl (fin_t 0 (i := 1) rfl rfl rfl r4)
theorem ct_s_l05Ints (xs : List Int) (v : Value) (w : World) (r : IntsR xs v (hp w)) (hs : xs.length ≤ 17592186044416) : Calls Tryz.prog 97 [v].toArray w (Ret w emp (IntsO xs)) := by
  refine calls_in Tryz.func97 rfl Tryz.ntmps97 rfl (Sat.start w) (wp_sc (wp_sq (sq_v rfl (v_assign rfl) rfl (sq_end (qs_n (wp_sc (wp_sq ?_))))))); refine sq_x rfl (x_build0 Tryz.underlying26 ty_3) rfl ?_; intro v3 h3 (r3 : IntsO [] v3 h3); refine sq_v rfl (v_move rfl) rfl ?_; refine sq_m 0 rfl rfl (m_appI 0 1 Tryz.underlying26 ty_3 rfl rfl rfl rfl r3 rfl r (by simp; omega)) rfl ?_; intro v5 h_r5 r5; refine sq_v rfl (v_assign rfl) rfl (sq_end (qs_n (wp_rt ?_))); exact qs_ret1 rfl rfl (fin_t 0 (i := 1) rfl rfl rfl r5)
theorem ext_getD {xs ys : List Int} (h : xs.length = ys.length) (h1 : ∀ j, j < xs.length → xs.getD j 0 = ys.getD j 0) : xs = ys := by
  apply List.ext_getElem h
  intro i h2 h3; have := h1 i h2
  simpa [List.getD, h2, h3] using this
def zeroL (k p n : Int) : List Int := if k = 4 then [p] else List.replicate (widthI k n).toNat 0
def oneL (k p n : Int) : List Int := if k = 4 then [0] else if k = 5 ∨ k = 6 then [topI k p n] else (List.replicate (widthI k n).toNat 0).set 0 1
theorem width_1 {k n : Int} (h7 : k ≠ 7) (h8 : k ≠ 8) : widthI k n = 1 := by simp [widthI, h7, h8]
theorem zeroL_len (k p n : Int) : (zeroL k p n).length = (widthI k n).toNat := by
  unfold zeroL
  split
  · rename_i e; rw [width_1 (by omega) (by omega)]; rfl
  · simp
theorem oneL_len (k p n : Int) : (oneL k p n).length = (widthI k n).toNat := by
  unfold oneL
  split
  · rename_i e; rw [width_1 (by omega) (by omega)]; rfl
  · split
    · rename_i e; rw [width_1 (by omega) (by omega)]; rfl
    · simp
theorem ct_s_l02Zero (k p n : Int) (w : World) (h : ringL k p n) : Calls Tryz.prog 98 [ringV k p n].toArray w (Ret w emp (IntsO (zeroL k p n))) := by
  have hw := width_range h; refine calls_in Tryz.func98 rfl Tryz.ntmps98 rfl (Sat.start w) (wp_sc (wp_sq ?_)); refine sq_x rfl (x_box rfl rfl) rfl ?_; rintro _ _ ⟨b1, rfl, rfl⟩; refine sq_v rfl (v_assign rfl) rfl (sq_end (qs_n (wp_sc (wp_sq (sq_v rfl (v_loadNB 0 ty_24 rfl rfl rfl rfl) rfl (sq_u rfl (x_callv rfl en_99 (fun w s => ct_s_l02Width _ _ _ w)) rfl ?_)))))); refine sq_x rfl (x_makeI Tryz.underlying26 ty_3 rfl rfl (by omega) (by omega) (by omega)) rfl ?_; intro v6 h6 r6; refine sq_v rfl (v_assign rfl) rfl (sq_end (qs_n (wp_sc (wp_sc (wp_sq (sq_v rfl (v_fieldAddr fd_24_0 ty_3 (by decide) rfl) rfl (sq_v rfl (v_loadB 1 ty_3 rfl rfl rfl) rfl (sq_v rfl (v_eql rfl rfl) rfl (sq_end (qs_n ?_)))))))))); refine wp_cd rfl (fun c9 => ?_) (fun c9 => ?_)
  · refine wp_sq (sq_v rfl (v_move rfl) rfl (sq_v rfl (v_fieldAddr fd_24_1 ty_3 (by decide) rfl) rfl (sq_v rfl (v_loadB 1 ty_3 rfl rfl rfl) rfl ?_))); refine sq_v rfl (v_idxI Tryz.underlying26 ty_3 rfl rfl r6.toR (by omega) (by simp; omega)) rfl ?_; refine sq_m 0 rfl rfl (m_storeI 0 ty_3 rfl rfl rfl r6 (by simp; omega)) rfl ?_; rintro _ h_r14 ⟨rfl, r14⟩; refine sq_end (qs_n (wp_sc (wp_sq (sq_v rfl (v_move rfl) rfl (sq_v rfl (v_assign rfl) rfl (sq_end (qs_n (wp_rt ?_)))))))); exact qs_ret1 rfl rfl (fin_t 0 (i := 2) rfl rfl rfl (by simpa [zeroL, c9, widthI] using r14))
  · refine wp_sk (qs_n (wp_sc (wp_sq (sq_v rfl (v_move rfl) rfl (sq_v rfl (v_assign rfl) rfl (sq_end (qs_n (wp_rt ?_)))))))); exact qs_ret1 rfl rfl (fin_t 0 (i := 2) rfl rfl rfl (by simpa [zeroL, c9] using r6))
theorem ct_i_rawZero (k p n : Int) (w : World) (h : ringL k p n) : Calls Tryz.prog 44 [ringV k p n].toArray w (Ret w emp (IntsO (zeroL k p n))) := by
  have hw := width_range h; refine calls_in Tryz.func44 rfl Tryz.ntmps44 rfl (Sat.start w) (wp_sc (wp_sq ?_)); refine sq_x rfl (x_box rfl rfl) rfl ?_; rintro _ _ ⟨b1, rfl, rfl⟩; refine sq_v rfl (v_assign rfl) rfl (sq_end (qs_n (wp_sc (wp_sq (sq_v rfl (v_loadNB 0 ty_24 rfl rfl rfl rfl) rfl (sq_u rfl (x_callv rfl en_46 (fun w s => ct_i_rawWidth _ _ _ w)) rfl ?_)))))); refine sq_x rfl (x_makeI Tryz.underlying26 ty_3 rfl rfl (by omega) (by omega) (by omega)) rfl ?_; intro v6 h6 r6; refine sq_v rfl (v_assign rfl) rfl (sq_end (qs_n (wp_sc (wp_sc (wp_sq (sq_v rfl (v_fieldAddr fd_24_0 ty_3 (by decide) rfl) rfl (sq_v rfl (v_loadB 1 ty_3 rfl rfl rfl) rfl (sq_v rfl (v_eql rfl rfl) rfl (sq_end (qs_n ?_)))))))))); refine wp_cd rfl (fun c9 => ?_) (fun c9 => ?_)
  · refine wp_sq (sq_v rfl (v_move rfl) rfl (sq_v rfl (v_fieldAddr fd_24_1 ty_3 (by decide) rfl) rfl (sq_v rfl (v_loadB 1 ty_3 rfl rfl rfl) rfl ?_))); refine sq_v rfl (v_idxI Tryz.underlying26 ty_3 rfl rfl r6.toR (by omega) (by simp; omega)) rfl ?_; refine sq_m 0 rfl rfl (m_storeI 0 ty_3 rfl rfl rfl r6 (by simp; omega)) rfl ?_; rintro _ h_r14 ⟨rfl, r14⟩; refine sq_end (qs_n (wp_sc (wp_sq (sq_v rfl (v_move rfl) rfl (sq_v rfl (v_assign rfl) rfl (sq_end (qs_n (wp_rt ?_)))))))); exact qs_ret1 rfl rfl (fin_t 0 (i := 2) rfl rfl rfl (by simpa [zeroL, c9, widthI] using r14))
  · refine wp_sk (qs_n (wp_sc (wp_sq (sq_v rfl (v_move rfl) rfl (sq_v rfl (v_assign rfl) rfl (sq_end (qs_n (wp_rt ?_)))))))); exact qs_ret1 rfl rfl (fin_t 0 (i := 2) rfl rfl rfl (by simpa [zeroL, c9] using r6))
theorem ct_s_l02One (k p n : Int) (w : World) (h : ringL k p n) : Calls Tryz.prog 100 [ringV k p n].toArray w (Ret w emp (IntsO (oneL k p n))) := by
  have hw := width_range h; refine calls_in Tryz.func100 rfl Tryz.ntmps100 rfl (Sat.start w) (wp_sc (wp_sq ?_)); refine sq_x rfl (x_box rfl rfl) rfl ?_; rintro _ _ ⟨b1, rfl, rfl⟩; refine sq_v rfl (v_assign rfl) rfl (sq_end (qs_n (wp_sc (wp_sq (sq_v rfl (v_loadNB 0 ty_24 rfl rfl rfl rfl) rfl (sq_u rfl (x_callv rfl en_99 (fun w s => ct_s_l02Width _ _ _ w)) rfl ?_)))))); refine sq_x rfl (x_makeI Tryz.underlying26 ty_3 rfl rfl (by omega) (by omega) (by omega)) rfl ?_; intro v6 h6 r6; refine sq_v rfl (v_assign rfl) rfl (sq_end (qs_n (wp_sc (wp_sc (wp_sq (sq_v rfl (v_fieldAddr fd_24_0 ty_3 (by decide) rfl) rfl (sq_v rfl (v_loadB 1 ty_3 rfl rfl rfl) rfl (sq_end (qs_n (wp_bl (wp_sc (wp_sc (wp_sq (sq_v rfl (v_eql rfl rfl) rfl (sq_v rfl (v_assign rfl) rfl (sq_end (qs_n ?_))))))))))))))))); refine wp_cSd rfl (fun c11 => ?_) (fun c11 => ?_)
  · refine wp_sk (qs_n (wp_ct rfl (wp_sq (sq_v rfl (v_move rfl) rfl (sq_v rfl (v_loadNB 1 ty_24 rfl rfl rfl rfl) rfl (sq_u rfl (x_callv rfl en_104 (fun w s => ct_s_l02Top _ _ _ w h)) rfl ?_)))))); refine sq_v rfl (v_idxI Tryz.underlying26 ty_3 rfl rfl r6.toR (by omega) (by simp; omega)) rfl ?_; refine sq_m 0 rfl rfl (m_storeI 0 ty_3 rfl rfl rfl r6 (by simp; omega)) rfl ?_; rintro _ h_r18 ⟨rfl, r18⟩; refine sq_end (qs_bn (qs_n (wp_sc (wp_sq (sq_v rfl (v_move rfl) rfl (sq_v rfl (v_assign rfl) rfl (sq_end (qs_n (wp_rt ?_))))))))); exact qs_ret1 rfl rfl (fin_t 0 (i := 2) rfl rfl rfl (by simpa [oneL, c11, topI, widthI] using r18))
  · refine wp_sq (sq_v rfl (v_eql rfl rfl) rfl (sq_v rfl (v_assign rfl) rfl (sq_end (qs_n ?_)))); refine wp_cSd rfl (fun c11 => ?_) (fun c11 => ?_)
    · refine wp_sq (sq_v rfl (v_move rfl) rfl (sq_v rfl (v_loadNB 1 ty_24 rfl rfl rfl rfl) rfl (sq_u rfl (x_callv rfl en_104 (fun w s => ct_s_l02Top _ _ _ w h)) rfl ?_))); refine sq_v rfl (v_idxI Tryz.underlying26 ty_3 rfl rfl r6.toR (by omega) (by simp; omega)) rfl ?_; refine sq_m 0 rfl rfl (m_storeI 0 ty_3 rfl rfl rfl r6 (by simp; omega)) rfl ?_; rintro _ h_r18 ⟨rfl, r18⟩; refine sq_end (qs_bn (qs_n (wp_sc (wp_sq (sq_v rfl (v_move rfl) rfl (sq_v rfl (v_assign rfl) rfl (sq_end (qs_n (wp_rt ?_))))))))); exact qs_ret1 rfl rfl (fin_t 0 (i := 2) rfl rfl rfl (by simpa [oneL, c11, topI, widthI] using r18))
    · refine wp_sc (wp_sq (sq_v rfl (v_eql rfl rfl) rfl (sq_v rfl (v_assign rfl) rfl (sq_end (qs_n ?_))))); refine wp_cd rfl (fun c18 => ?_) (fun c18 => ?_)
      · refine wp_sq (sq_v rfl (v_move rfl) rfl ?_); refine sq_v rfl (v_idxI Tryz.underlying26 ty_3 rfl rfl r6.toR (by omega) (by simp; omega)) rfl ?_; refine sq_m 0 rfl rfl (m_storeI 0 ty_3 rfl rfl rfl r6 (by simp; omega)) rfl ?_; rintro _ h_r19 ⟨rfl, r19⟩; refine sq_end (qs_bn (qs_n (wp_sc (wp_sq (sq_v rfl (v_move rfl) rfl (sq_v rfl (v_assign rfl) rfl (sq_end (qs_n (wp_rt ?_))))))))); exact qs_ret1 rfl rfl (fin_t 0 (i := 2) rfl rfl rfl (by simpa [oneL, c18, widthI] using r19))
      · refine wp_sq (sq_v rfl (v_move rfl) rfl ?_); refine sq_v rfl (v_idxI Tryz.underlying26 ty_3 rfl rfl r6.toR (by omega) (by simp; omega)) rfl ?_; refine sq_m 0 rfl rfl (m_storeI 0 ty_3 rfl rfl rfl r6 (by simp; omega)) rfl ?_; rintro _ h_r20 ⟨rfl, r20⟩; refine sq_end (qs_bn (qs_n (wp_sc (wp_sq (sq_v rfl (v_move rfl) rfl (sq_v rfl (v_assign rfl) rfl (sq_end (qs_n (wp_rt ?_))))))))); exact qs_ret1 rfl rfl (fin_t 0 (i := 2) rfl rfl rfl (by unfold oneL; rw [if_neg c18, if_neg (by omega)]; simpa using r20))
theorem ct_i_rawOne (k p n : Int) (w : World) (h : ringL k p n) : Calls Tryz.prog 21 [ringV k p n].toArray w (Ret w emp (IntsO (oneL k p n))) := by
  have hw := width_range h; refine calls_in Tryz.func21 rfl Tryz.ntmps21 rfl (Sat.start w) (wp_sc (wp_sq ?_)); refine sq_x rfl (x_box rfl rfl) rfl ?_; rintro _ _ ⟨b1, rfl, rfl⟩; refine sq_v rfl (v_assign rfl) rfl (sq_end (qs_n (wp_sc (wp_sq (sq_v rfl (v_loadNB 0 ty_24 rfl rfl rfl rfl) rfl (sq_u rfl (x_callv rfl en_46 (fun w s => ct_i_rawWidth _ _ _ w)) rfl ?_)))))); refine sq_x rfl (x_makeI Tryz.underlying26 ty_3 rfl rfl (by omega) (by omega) (by omega)) rfl ?_; intro v6 h6 r6; refine sq_v rfl (v_assign rfl) rfl (sq_end (qs_n (wp_sc (wp_sc (wp_sq (sq_v rfl (v_fieldAddr fd_24_0 ty_3 (by decide) rfl) rfl (sq_v rfl (v_loadB 1 ty_3 rfl rfl rfl) rfl (sq_end (qs_n (wp_bl (wp_sc (wp_sq (sq_v rfl (v_eql rfl rfl) rfl (sq_v rfl (v_assign rfl) rfl (sq_end (qs_n ?_)))))))))))))))); refine wp_cd rfl (fun c11 => ?_) (fun c11 => ?_)
  · refine wp_sq (sq_v rfl (v_move rfl) rfl ?_); refine sq_v rfl (v_idxI Tryz.underlying26 ty_3 rfl rfl r6.toR (by omega) (by simp; omega)) rfl ?_; refine sq_m 0 rfl rfl (m_storeI 0 ty_3 rfl rfl rfl r6 (by simp; omega)) rfl ?_; rintro _ h_r28 ⟨rfl, r28⟩; refine sq_end (qs_bn (qs_n (wp_sc (wp_sq (sq_v rfl (v_move rfl) rfl (sq_v rfl (v_assign rfl) rfl (sq_end (qs_n (wp_rt ?_))))))))); exact qs_ret1 rfl rfl (fin_t 0 (i := 2) rfl rfl rfl (by simpa [oneL, c11, widthI] using r28))
  · refine wp_sc (wp_sq (sq_v rfl (v_eql rfl rfl) rfl (sq_v rfl (v_assign rfl) rfl (sq_end (qs_n ?_))))); refine wp_cd rfl (fun c15 => ?_) (fun c15 => ?_)
    · refine wp_sq (sq_v rfl (v_move rfl) rfl (sq_v rfl (v_fieldAddr fd_24_1 ty_3 (by decide) rfl) rfl (sq_v rfl (v_loadB 1 ty_3 rfl rfl rfl) rfl ?_))); refine sq_v rfl (v_idxI Tryz.underlying26 ty_3 rfl rfl r6.toR (by omega) (by simp; omega)) rfl ?_; refine sq_m 0 rfl rfl (m_storeI 0 ty_3 rfl rfl rfl r6 (by simp; omega)) rfl ?_; rintro _ h_r28 ⟨rfl, r28⟩; refine sq_end (qs_bn (qs_n (wp_sc (wp_sq (sq_v rfl (v_move rfl) rfl (sq_v rfl (v_assign rfl) rfl (sq_end (qs_n (wp_rt ?_))))))))); exact qs_ret1 rfl rfl (fin_t 0 (i := 2) rfl rfl rfl (by simpa [oneL, topI, c15, widthI] using r28))
    · refine wp_sc (wp_sq (sq_v rfl (v_eql rfl rfl) rfl (sq_v rfl (v_assign rfl) rfl (sq_end (qs_n ?_))))); refine wp_cd rfl (fun c21 => ?_) (fun c21 => ?_)
      · refine wp_sq (sq_v rfl (v_move rfl) rfl (sq_v rfl (v_loadNB 1 ty_24 rfl rfl rfl rfl) rfl (sq_u rfl (x_callv rfl en_47 (fun w s => ct_i_rawTop _ _ _ w h)) rfl ?_))); refine sq_v rfl (v_idxI Tryz.underlying26 ty_3 rfl rfl r6.toR (by omega) (by simp; omega)) rfl ?_; refine sq_m 0 rfl rfl (m_storeI 0 ty_3 rfl rfl rfl r6 (by simp; omega)) rfl ?_; rintro _ h_r28 ⟨rfl, r28⟩; refine sq_end (qs_bn (qs_n (wp_sc (wp_sq (sq_v rfl (v_move rfl) rfl (sq_v rfl (v_assign rfl) rfl (sq_end (qs_n (wp_rt ?_))))))))); exact qs_ret1 rfl rfl (fin_t 0 (i := 2) rfl rfl rfl (by simpa [oneL, c21, widthI] using r28))
      · refine wp_sq (sq_v rfl (v_move rfl) rfl ?_); refine sq_v rfl (v_idxI Tryz.underlying26 ty_3 rfl rfl r6.toR (by omega) (by simp; omega)) rfl ?_; refine sq_m 0 rfl rfl (m_storeI 0 ty_3 rfl rfl rfl r6 (by simp; omega)) rfl ?_; rintro _ h_r28 ⟨rfl, r28⟩; refine sq_end (qs_bn (qs_n (wp_sc (wp_sq (sq_v rfl (v_move rfl) rfl (sq_v rfl (v_assign rfl) rfl (sq_end (qs_n (wp_rt ?_))))))))); exact qs_ret1 rfl rfl (fin_t 0 (i := 2) rfl rfl rfl (by unfold oneL; rw [if_neg c11, if_neg (by omega)]; simpa using r28))
/-- Element number i of 'xs', w numbers each. -/
def elt (xs : List Int) (w i : Int) : List Int := (xs.drop (i * w).toNat).take w.toNat
theorem elt_eq {xs : List Int} {w i : Int} (hw : 0 ≤ w) (hi : 0 ≤ i) : (xs.drop (i * w).toNat).take ((i * w + w).toNat - (i * w).toNat) = elt xs w i := by
  have := Int.mul_nonneg hi hw
  unfold elt
  congr 1
  omega
theorem ct_s_l05Get (k p n i : Int) (xs : List Int) (a b c : Value) (w : World) (h : ringL k p n) (r : IntsR xs c (hp w)) (hi : 0 ≤ i) (hl : i * widthI k n + widthI k n ≤ xs.length) (hs : xs.length ≤ 17592186044416) :
    Calls Tryz.prog 67 [ringV k p n, tenV a b c, num i].toArray w (Ret w emp (IntsO (elt xs (widthI k n) i))) := by
  have hw := width_range h; have hm : 0 ≤ i * widthI k n := Int.mul_nonneg hi (by omega); refine calls_in Tryz.func67 rfl Tryz.ntmps67 rfl (Sat.start w) (wp_sc (wp_sq ?_)); refine sq_x rfl (x_box rfl rfl) rfl ?_; rintro _ _ ⟨b3, rfl, rfl⟩; refine sq_x rfl (x_box rfl rfl) rfl ?_; rintro _ _ ⟨b4, rfl, rfl⟩; refine sq_v rfl (v_assign rfl) rfl (sq_end (qs_n (wp_sc (wp_sq (sq_v rfl (v_loadNB 1 ty_24 rfl rfl rfl rfl) rfl (sq_u rfl (x_callv rfl en_99 (fun w s => ct_s_l02Width _ _ _ w)) rfl (sq_v rfl (v_assign rfl) rfl (sq_end (qs_n (wp_sc (wp_sq ?_))))))))))); refine sq_x rfl (x_build0 Tryz.underlying26 ty_3) rfl ?_; intro v10 h10 (r10 : IntsO [] v10 h10); refine sq_v rfl (v_fieldAddr fd_40_2 ty_26 (by decide) rfl) rfl (sq_v rfl (v_loadB 1 ty_26 rfl rfl rfl) rfl (sq_v rfl (v_move rfl) rfl (sq_v rfl (v_move rfl) rfl ?_))); refine sq_v rfl (v_mul rfl rfl ((by unfold I64; omega))) rfl ?_; refine sq_v rfl (v_move rfl) rfl (sq_v rfl (v_move rfl) rfl ?_); refine sq_v rfl (v_mul rfl rfl ((by unfold I64; omega))) rfl ?_; refine sq_v rfl (v_move rfl) rfl ?_; refine sq_v rfl (v_add rfl rfl ((by unfold I64; omega))) rfl ?_; refine sq_v rfl (v_sliceLH Tryz.underlying26 ty_3 rfl rfl rfl  r (by omega) (by omega) (by omega)) rfl ?_; refine sq_m 0 rfl rfl (m_appI 0 3 Tryz.underlying26 ty_3 rfl rfl rfl rfl r10 rfl (r.sub (by omega) (by omega)) (by simp; omega)) rfl ?_; intro v22 h_r22 r22; refine sq_v rfl (v_assign rfl) rfl (sq_end (qs_n (wp_rt ?_))); exact qs_ret1 rfl rfl (fin_t 0 (i := 3) rfl rfl rfl (by rw [elt_eq (by omega) hi] at r22; simpa using r22))
/-- The slice with that element. -/
def eltV (c : Value) (w i : Int) : Value := subV c (i * w).toNat ((i + 1) * w).toNat 1
theorem eltV_read {xs : List Int} {c : Value} {h : PH} {w i : Int} (r : IntsR xs c h) (hw : 0 ≤ w) (hi : 0 ≤ i) (hl : i * w + w ≤ xs.length) : IntsR (elt xs w i) (eltV c w i) h := by
  have e : (i + 1) * w = i * w + w := by rw [Int.add_mul, Int.one_mul]
  have hm := Int.mul_nonneg hi hw; have := r.sub (lo := (i * w).toNat) (hi := (i * w + w).toNat) (by omega) (by omega); rw [elt_eq hw hi] at this
  unfold eltV
  rw [e]; exact this
theorem ct_i_rawElem (k p n i : Int) (xs : List Int) (a b c : Value) (w : World) (h : ringL k p n) (r : IntsR xs c (hp w)) (hi : 0 ≤ i) (hl : i * widthI k n + widthI k n ≤ xs.length) (hs : xs.length ≤ 17592186044416) :
    Calls Tryz.prog 75 [ringV k p n, tenV a b c, num i].toArray w (RetV w (eltV c (widthI k n) i)) := by
  have hw := width_range h; have hm : 0 ≤ i * widthI k n := Int.mul_nonneg hi (by omega); have e : (i + 1) * widthI k n = i * widthI k n + widthI k n := by rw [Int.add_mul, Int.one_mul]
  have hi2 : i ≤ 17592186044416 := by have := Int.mul_le_mul_of_nonneg_left hw.1 hi; omega
  refine calls_in Tryz.func75 rfl Tryz.ntmps75 rfl (Sat.start w) (wp_sc (wp_sq ?_)); refine sq_x rfl (x_box rfl rfl) rfl ?_; rintro _ _ ⟨b3, rfl, rfl⟩; refine sq_x rfl (x_box rfl rfl) rfl ?_; rintro _ _ ⟨b4, rfl, rfl⟩; refine sq_v rfl (v_assign rfl) rfl (sq_end (qs_n (wp_sc (wp_sq (sq_v rfl (v_loadNB 1 ty_24 rfl rfl rfl rfl) rfl (sq_u rfl (x_callv rfl en_46 (fun w s => ct_i_rawWidth _ _ _ w)) rfl (sq_v rfl (v_assign rfl) rfl (sq_end (qs_n (wp_sc (wp_sq (sq_v rfl (v_fieldAddr fd_40_2 ty_26 (by decide) rfl) rfl (sq_v rfl (v_loadB 0 ty_26 rfl rfl rfl) rfl (sq_v rfl (v_move rfl) rfl (sq_v rfl (v_move rfl) rfl ?_))))))))))))))); refine sq_v rfl (v_mul rfl rfl ((by unfold I64; omega))) rfl ?_; refine sq_v rfl (v_move rfl) rfl ?_; refine sq_v rfl (v_add rfl rfl ((by unfold I64; omega))) rfl ?_; refine sq_v rfl (v_move rfl) rfl ?_; refine sq_v rfl (v_mul rfl rfl ((by unfold I64; omega))) rfl ?_; refine sq_v rfl (v_sliceLH Tryz.underlying26 ty_3 rfl rfl rfl  r (by omega) (by omega) (by omega)) rfl (sq_v rfl (v_assign rfl) rfl (sq_end (qs_n (wp_rt ?_)))); exact qs_ret1 rfl rfl (fin_v (i := 2) rfl)
end Go.Proofs.YtdkgaejmgnojhaaGreat
namespace Go.Proofs.YtdkgaejmgnojhaaGreat
set_option maxRecDepth 100000
open Go.RowKit

structure Ten where
  l : List Int
  d : List Int
  x : List Int
def TenR (t : Ten) (cs : List Value) (h : PH) : Prop := ∃ a b c, cs = [a, b, c] ∧ IntsR t.l a h ∧ IntsR t.d b h ∧ IntsR t.x c h
theorem TenR.mono {t : Ten} {cs : List Value} {h h' : PH} (r : TenR t cs h) (l : PLe h h') : TenR t cs h' := by
  obtain ⟨a, b, c, e, r1, r2, r3⟩ := r; exact ⟨a, b, c, e, r1.mono l, r2.mono l, r3.mono l⟩
def TensR (ts : List Ten) (v : Value) (h : PH) : Prop := RowsR 3 TenR ts v h
theorem TensR.mono {ts : List Ten} {v : Value} {h h' : PH} (r : TensR ts v h) (l : PLe h h') : TensR ts v h' := RowsR.mono (R := TenR) TenR.mono r l
theorem TensR.sl {ts : List Ten} {v : Value} {h : PH} (r : TensR ts v h) : SlL v ts.length := RowsR.sl r
theorem TensR.le {ts : List Ten} {v : Value} {h : PH} (r : TensR ts v h) : (ts.length : Int) ≤ 9223372036854775807 := RowsR.le r
theorem TensR.at {ts : List Ten} {v : Value} {h : PH} (r : TensR ts v h) : ∃ cells, RowR cells ts.length 3 v h ∧ ∀ i, i < ts.length → ∃ t a b c, ts[i]? = some t ∧ (cells.drop (i * 3)).take 3 = [a, b, c] ∧ IntsR t.l a h ∧ IntsR t.d b h ∧ IntsR t.x c h := by
  obtain ⟨cells, rr, hc⟩ := r; refine ⟨cells, rr, fun i hi => ?_⟩; have ht : ts[i]? = some ts[i] := List.getElem?_eq_getElem hi; obtain ⟨a, b, c, e, r1, r2, r3⟩ := hc i _ ht; exact ⟨_, a, b, c, ht, e, r1, r2, r3⟩
theorem TensR.subH {ts : List Ten} {v : Value} {h : PH} (r : TensR ts v h) {hi : Nat} (h2 : hi ≤ ts.length) : TensR (ts.take hi) (subV v 0 hi 3) h := by
  obtain ⟨cells, rr, hc⟩ := r; have := RowR.sub rr (Nat.zero_le hi) h2; refine ⟨_, by rw [List.length_take, Nat.min_eq_left h2]; simpa using this, fun i x hx => ?_⟩; have hlt : i < hi := by
    have := (List.getElem?_eq_some_iff.1 hx).1
    simp at this; omega
  have hx' : ts[i]? = some x := by rwa [List.getElem?_take, if_pos hlt] at hx
  have := hc i x hx'; have e : ((cells.take ((hi - 0) * 3)).drop (i * 3)).take 3 = (cells.drop (i * 3)).take 3 := by
    rw [List.drop_take, List.take_take]
    congr 1
    omega
  show TenR x (((((cells.drop (0 * 3)).take ((hi - 0) * 3))).drop (i * 3)).take 3) h
  rw [Nat.zero_mul, List.drop_zero, e]; exact this

/-- The dimension of a label among tensors, or 0. -/
def dimOf : List Ten → Int → Int
  | [], _ => 0
  | t :: r, x => if x ∈ t.l then t.d.getD (findI t.l x).toNat 0 else dimOf r x
def AxOK (t : Ten) : Prop := t.l.length = t.d.length ∧ ∀ j, j < t.l.length → 1 ≤ t.d.getD j 0 ∧ t.d.getD j 0 ≤ 8
theorem drop_at {ts : List Ten} {i : Nat} {t : Ten} (h : ts[i]? = some t) : ts.drop i = t :: ts.drop (i + 1) := by
  obtain ⟨hi, rfl⟩ := List.getElem?_eq_some_iff.1 h; exact List.drop_eq_getElem_cons hi
theorem ct_s_l12Dim (ts : List Ten) (x : Int) (v : Value) (w : World) (r : TensR ts v (hp w)) (hok : ∀ t ∈ ts, AxOK t) : Calls Tryz.prog 95 [v, num x].toArray w (RetV w (num (dimOf ts x))) := by
  have hx := r.le; obtain ⟨cells, rr, hc⟩ := r.at; refine calls_in Tryz.func95 rfl Tryz.ntmps95 rfl (Sat.start w) (wp_sc (wp_sq (sq_v rfl (v_assign rfl) rfl (sq_end (qs_n (wp_sc (wp_sc (wp_sq (sq_v rfl (v_move rfl) rfl (sq_v rfl (v_len Tryz.underlying25 rfl r.sl) rfl (sq_v rfl (v_move rfl) rfl (sq_end (qs_n (wp_bl (wp_lp (fun i : Nat => [(1, num x), (8, v), (9, num ts.length), (10, num i)]) (fun _ => [hp w]) (fun i => i ≤ ts.length ∧ dimOf ts x = dimOf (ts.drop i) x) (fun i => ts.length - i) 0 ⟨by omega, rfl⟩ ⟨rfl, rfl, rfl, rfl, trivial⟩ (fun _ s => s) ?_))))))))))))))); rintro i ⟨hi, hd⟩; refine wp_sc (wp_sq (sq_v rfl (v_lss rfl rfl) rfl (sq_end (qs_n (wp_sc ?_))))); refine wp_cd rfl (fun c11 => ?_) (fun c11 => ?_)
  · refine wp_sk (qs_n (wp_sc (wp_bl (wp_sc (wp_sq ?_))))); obtain ⟨t, a, b, c, ht, hcs, r1, r2, r3⟩ := hc i (by omega); have hax := hok t (List.mem_of_getElem? ht); refine sq_v rfl (v_indexAddr Tryz.underlying25 ty_40 rfl rfl rr (by decide) (by omega) (by omega)) rfl ?_; refine sq_v rfl (v_loadNE 0 ty_40 rfl rfl rr (by have := rr.1; omega) rfl hcs) rfl ?_; refine sq_x rfl (x_alloc ty_40 rfl) rfl ?_; rintro _ _ ⟨b6, rfl, rfl⟩; refine sq_m 0 rfl rfl (m_store 0 ty_40 rfl rfl rfl rfl (by simp [r1.sl.one, r2.sl.one, r3.sl.one]) rfl (Nat.le_of_ble_eq_true rfl)) rfl ?_; rintro _ _ ⟨rfl, rfl⟩; refine sq_end (qs_n (wp_sc (wp_sq (sq_v rfl (v_fieldAddr fd_40_0 ty_26 (by decide) rfl) rfl (sq_v rfl (v_loadB 0 ty_26 rfl rfl rfl) rfl (sq_v rfl (v_move rfl) rfl (sq_u rfl (x_callv rfl en_63 (fun w s => ct_s_l05Find _ _ _ w (r1.mono (s.get 1 rfl)))) rfl (sq_v rfl (v_assign rfl) rfl (sq_end (qs_n (wp_sc (wp_sq (sq_v rfl (v_move rfl) rfl (sq_v rfl (v_geq rfl rfl) rfl (sq_end (qs_n ?_)))))))))))))))); refine wp_cd rfl (fun c19 => ?_) (fun c19 => ?_)
    · refine wp_sc (wp_sq (sq_v rfl (v_fieldAddr fd_40_1 ty_26 (by decide) rfl) rfl (sq_v rfl (v_loadB 0 ty_26 rfl rfl rfl) rfl (sq_v rfl (v_move rfl) rfl ?_)))); refine sq_v rfl (v_idxI Tryz.underlying26 ty_3 rfl rfl r2 (by omega) (by have := findI_range t.l x; have := hax.1; omega)) rfl ?_; refine sq_v rfl (v_loadI  1 ty_3 rfl rfl r2 (by have := findI_range t.l x; have := hax.1; omega)) rfl ?_; refine sq_v rfl (v_assign rfl) rfl (sq_end (qs_n (wp_rt (qs_br (qs_r (qs_r (qs_br (qs_r ?_)))))))); exact qs_ret1 rfl rfl (fin_q (i := 1) rfl (by rw [hd, drop_at ht, dimOf, if_pos (findI_ge.1 c19)]))
    · refine wp_sk (qs_bn (qs_n (wp_sq ?_))); refine sq_v rfl (v_add rfl rfl ((by unfold I64; omega))) rfl ?_; refine sq_v rfl (v_move rfl) rfl (sq_end ?_); exact qs_bk (i + 1) ⟨by omega, by rw [hd, drop_at ht, dimOf, if_neg (fun h => c19 (findI_ge.2 h))]⟩ (by omega) ⟨rfl, rfl, rfl, rfl, trivial⟩ (fun _ s => s.pick [1] (by decide) rfl)
  · refine wp_ex (qs_x (qs_x (qs_bx (qs_n (wp_sc (wp_sq (sq_v rfl (v_assign rfl) rfl (sq_end (qs_n (wp_rt ?_)))))))))); exact qs_ret1 rfl rfl (fin_q (i := 0) rfl (by rw [hd, List.drop_of_length_le (by omega), dimOf]))
def dimsFor (ts : List Ten) (ls : List Int) : List Int := ls.map (dimOf ts)
theorem ct_s_l12Dims (ts : List Ten) (ls : List Int) (v u : Value) (w : World) (r : TensR ts v (hp w)) (r' : IntsR ls u (hp w)) (hok : ∀ t ∈ ts, AxOK t) (hs : ls.length ≤ 1048576) : Calls Tryz.prog 59 [v, u].toArray w (Ret w emp (IntsO (dimsFor ts ls))) := by
  refine calls_in Tryz.func59 rfl Tryz.ntmps59 rfl (Sat.start w) (wp_sc (wp_sq (sq_v rfl (v_assign rfl) rfl (sq_end (qs_n (wp_sc (wp_sq ?_))))))); refine sq_x rfl (x_build0 Tryz.underlying26 ty_3) rfl ?_; intro v8 h8 (r8 : IntsO [] v8 h8); refine sq_v rfl (v_assign rfl) rfl (sq_end (qs_n (wp_sc (wp_sc (wp_sq (sq_v rfl (v_move rfl) rfl (sq_v rfl (v_len Tryz.underlying26 rfl r'.sl) rfl (sq_v rfl (v_move rfl) rfl (sq_end (qs_n (wp_bl (wp_lp (fun s : Nat × Value × PH => [(0, v), (5, s.2.1), (9, u), (10, num ls.length), (11, num s.1)]) (fun s => [s.2.2, hp w]) (fun s => s.1 ≤ ls.length ∧ IntsO (dimsFor ts (ls.take s.1)) s.2.1 s.2.2) (fun s => ls.length - s.1) (0, v8, h8) ⟨by omega, by simpa [dimsFor] using r8⟩ ⟨rfl, rfl, rfl, rfl, rfl, trivial⟩ (fun _ s => s) ?_)))))))))))); rintro ⟨i, vo, ho⟩ ⟨hi, ro⟩; dsimp only at hi ro ⊢; refine wp_sc (wp_sq (sq_v rfl (v_lss rfl rfl) rfl (sq_end (qs_n (wp_sc ?_))))); refine wp_cd rfl (fun c12 => ?_) (fun c12 => ?_)
  · refine wp_sk (qs_n (wp_sc (wp_bl (wp_sc (wp_sq (sq_v rfl (v_idxI Tryz.underlying26 ty_3 rfl rfl r' (by omega) (by omega)) rfl (sq_v rfl (v_loadI  1 ty_3 rfl rfl r' (by omega)) rfl (sq_v rfl (v_assign rfl) rfl (sq_end (qs_n (wp_sq (sq_v rfl (v_move rfl) rfl (sq_v rfl (v_move rfl) rfl (sq_v rfl (v_move rfl) rfl (sq_u rfl (x_callv rfl en_95 (fun w s => ct_s_l12Dim _ _ _ w (r.mono (s.get 1 rfl)) hok)) rfl ?_))))))))))))))); refine sq_x rfl (x_buildS [num (dimOf ts (ls.getD i 0))] Tryz.underlying26 ty_3 (by decide) rfl rfl rfl (by decide) (by decide) (by intro v hv; simp at hv; rcases hv with rfl <;> rfl)) rfl ?_; intro v19 h19 (r19 : IntsO [dimOf ts (ls.getD i 0)] v19 h19); refine sq_m 1 rfl rfl (m_appI 1 0 Tryz.underlying26 ty_3 rfl rfl rfl rfl ro rfl r19.toR (by simp [dimsFor]; omega)) rfl ?_; intro v20 h_ro20 ro20; refine sq_v rfl (v_assign rfl) rfl (sq_end (qs_bn (qs_n (wp_sq ?_)))); refine sq_v rfl (v_add rfl rfl ((by unfold I64; omega))) rfl ?_; refine sq_v rfl (v_move rfl) rfl (sq_end ?_); exact qs_bk (i + 1, v20, h_ro20) ⟨by simp only; omega, by simp only [dimsFor] at ro20 ⊢; rw [take_succ (by omega), List.map_append]; exact ro20⟩ (by simp only; omega) ⟨rfl, rfl, rfl, rfl, rfl, trivial⟩ (fun _ s => s.pick [1, 2] (by decide) rfl)
  · refine wp_ex (qs_x (qs_x (qs_bx (qs_n (wp_sc (wp_sq (sq_v rfl (v_move rfl) rfl (sq_v rfl (v_assign rfl) rfl (sq_end (qs_n (wp_rt ?_))))))))))); exact qs_ret1 rfl rfl (fin_t 0 (i := 1) rfl rfl rfl (by rwa [List.take_of_length_le (by omega)] at ro))
end Go.Proofs.YtdkgaejmgnojhaaGreat
namespace Go.Proofs.YtdkgaejmgnojhaaGreat
set_option maxRecDepth 100000
open Go.RowKit
theorem aget {xs : List Int} {k o : Nat} (h : k < xs.length) (ho : o = 0 + k * 1) : (ints xs)[o]? = some (num (xs.getD k 0)) := by
  subst ho; rw [Nat.zero_add, Nat.mul_one]; exact ints_get h
section
variable {P : Program} {n : Nat} {w0 : World} {K : Env} {HS : List PH} {d : Option Tmp} {ty : TypeId} {ps : String} {af : Array Edge} {g : Option (Nat × Bool)}
/-- A whole variable is written anew. -/
theorem m_storeW {t : TypeId} {x y : Operand} {z : Value} {sz bytes : Nat} {agg : Bool} {b : Nat} {v : Value} {us cs : List Value} {bt : TypeId} (p : Nat) (ht : TyF P t z sz bytes agg) (hx : ev K x = some (.pointer (some ⟨b, 0, none⟩))) (hy : ev K y = some v)
    (hv : v.cells = us.toArray) (hl : us.length = sz) (h1 : ∀ u ∈ us, u.oneCell' = true) (hp' : HS[p]? = some (box b cs bt)) (hc : cs.length = sz) :
    StepX P n w0 K HS ⟨d, .store t x y, ty, ps, af, g⟩ (box b cs bt) (fun v' h' => v' = undef ∧ h' = box b us bt) := by
  have := m_store (P := P) (n := n) (w0 := w0) (d := d) (ty := ty) (ps := ps) (af := af) (g := g) p ht hx hy hv hl h1 hp' (by omega); have e : cs.take 0 ++ us ++ cs.drop (0 + us.length) = us := by
    rw [List.take_zero, List.nil_append, Nat.zero_add, hl, ← hc, List.drop_length, List.append_nil]
  rwa [e] at this
/-- An element of an array variable is written. -/
theorem m_storeA {t : TypeId} {x y : Operand} {z : Value} {bytes b o k : Nat} {a : Int} {xs : List Int} {bt : TypeId} (p : Nat) (ht : TyF P t z 1 bytes false) (hx : ev K x = some (.pointer (some ⟨b, o, none⟩))) (hy : ev K y = some (num a))
    (hp' : HS[p]? = some (box b (ints xs) bt)) (hk : k < xs.length) (ho : o = 0 + k * 1) :
    StepX P n w0 K HS ⟨d, .store t x y, ty, ps, af, g⟩ (box b (ints xs) bt) (fun v' h' => v' = undef ∧ h' = box b (ints (xs.set k a)) bt) := by
  subst ho; rw [Nat.zero_add, Nat.mul_one] at hx; have := m_store1 (P := P) (n := n) (w0 := w0) (d := d) (ty := ty) (ps := ps) (af := af) (g := g) p ht hx hy rfl hp' (by rw [ints_length]; exact hk)
  rwa [ints_set] at this
end
end Go.Proofs.YtdkgaejmgnojhaaGreat
namespace Go.Proofs.YtdkgaejmgnojhaaGreat
set_option maxRecDepth 100000
open Go.RowKit

theorem one_sl (a : Option Addr) (n c : Nat) : (Value.slice a n c).oneCell' = true := rfl
theorem qs_dj {n : Nat} {w0 : World} {K : Env} {HS : List PH} {Q : Exit → Act → World → Prop} {e : Exit} {a b : PH} (i j : Nat) (hi : HS[i]? = some a) (hj : HS[j]? = some b) (hne : decide (i ≠ j) = true) (k : PDj a b → QS n w0 Q e K HS) : QS n w0 Q e K HS :=
  fun x w en s => k (sepL_get s.sep hi hj (of_decide_eq_true hne)) x w en s
theorem rep_getD (n k : Nat) : (List.replicate n (0 : Int)).getD k 0 = 0 := by
  simp only [List.getD, List.getElem?_replicate]
  split <;> rfl
theorem axes_ok {t : Ten} (h : axesL t.l t.d) : AxOK t := ⟨h.2.1, fun j hj => (h.2.2 j hj).2.1⟩
theorem dimOf_snoc : ∀ {ts : List Ten} (_ : ∀ t ∈ ts, AxOK t) (t : Ten) (x : Int), dimOf (ts ++ [t]) x = if dimOf ts x ≠ 0 then dimOf ts x else if x ∈ t.l then t.d.getD (findI t.l x).toNat 0 else 0
  | [], _, t, x => by simp [dimOf]
  | u :: r, h, t, x => by
    have ih := dimOf_snoc (ts := r) (fun t ht => h t (by simp [ht])) t x
    by_cases hx : x ∈ u.l
    · have hu := (h u (by simp)).2 _ (findI_get hx).1; simp only [List.cons_append, dimOf, if_pos hx]; rw [if_pos (by omega)]
    · simp only [List.cons_append, dimOf, if_neg hx]; exact ih
theorem dimOf_range : ∀ {ts : List Ten} (_ : ∀ t ∈ ts, AxOK t) (x : Int), 0 ≤ dimOf ts x ∧ dimOf ts x ≤ 8
  | [], _, x => by simp [dimOf]
  | u :: r, h, x => by
    unfold dimOf
    split
    · rename_i hx
      have hu := (h u (by simp)).2 _ (findI_get hx).1
      omega
    · exact dimOf_range (fun t ht => h t (by simp [ht])) x
def consAt (ts : List Ten) (i j : Nat) : Prop := ∀ t, ts[i]? = some t → dimOf (ts.take i) (t.l.getD j 0) = 0 ∨ dimOf (ts.take i) (t.l.getD j 0) = t.d.getD j 0
def consL (ts : List Ten) : Prop := ∀ i, i < ts.length → ∀ t, ts[i]? = some t → ∀ j, j < t.l.length → consAt ts i j
def arrInv (ts : List Ten) (arr : List Int) : Prop := arr.length = 100 ∧ ∀ x, 0 ≤ x → x ≤ 99 → arr.getD x.toNat 0 = dimOf ts x
def arrMid (ts : List Ten) (t : Ten) (j : Nat) (arr : List Int) : Prop := arr.length = 100 ∧ ∀ x, 0 ≤ x → x ≤ 99 → arr.getD x.toNat 0 = if x ∈ t.l.take j then t.d.getD (findI t.l x).toNat 0 else dimOf ts x
theorem find_at {t : Ten} (h : axesL t.l t.d) {j : Nat} (hj : j < t.l.length) : findI t.l (t.l.getD j 0) = j := by
  refine idx_first (fun j' hj' e => (h.2.2 j hj).2.2 ?_) hj rfl; rw [← e]; have : (t.l.take j).getD j' 0 = t.l.getD j' 0 := by simp [List.getD, hj']
  rw [← this]; exact mem_getD (by simp; omega)
theorem arrMid_step {ts : List Ten} {t : Ten} {j : Nat} {arr : List Int} (hax : axesL t.l t.d) (h : arrMid ts t j arr) (hj : j < t.l.length) : arrMid ts t (j + 1) (arr.set (t.l.getD j 0).toNat (t.d.getD j 0)) := by
  have hl := (hax.2.2 j hj).1; refine ⟨by rw [List.length_set]; exact h.1, fun x h0 h1 => ?_⟩; rw [take_succ hj]
  by_cases e : x = t.l.getD j 0
  · subst e; rw [if_pos (by simp), find_at hax hj]; have : (t.l.getD j 0).toNat < arr.length := by have := h.1; omega
    simp only [List.getD, List.getElem?_set, if_true, Int.toNat_natCast]; simp only [List.getD] at this; rw [if_pos this]
    rfl
  · have hne : (t.l.getD j 0).toNat ≠ x.toNat := by omega
    have h2 := h.2 x h0 h1; have : (arr.set (t.l.getD j 0).toNat (t.d.getD j 0)).getD x.toNat 0 = arr.getD x.toNat 0 := by
      simp only [List.getD] at hne ⊢; rw [List.getElem?_set_ne hne]
    rw [this, h2]; have : (x ∈ t.l.take j ++ [t.l.getD j 0]) ↔ x ∈ t.l.take j := by simp only [List.mem_append, List.mem_singleton]; exact ⟨fun h => h.resolve_right e, .inl⟩
    simp only [this]
theorem arrMid_end {ts : List Ten} {i : Nat} {t : Ten} {arr : List Int} (ht : ts[i]? = some t) (hok : ∀ t ∈ ts, axesL t.l t.d) (h : arrMid (ts.take i) t t.l.length arr) (hc : ∀ j, j < t.l.length → consAt ts i j) : arrInv (ts.take (i + 1)) arr := by
  obtain ⟨hi, e⟩ := List.getElem?_eq_some_iff.1 ht; refine ⟨h.1, fun x h0 h1 => ?_⟩; rw [h.2 x h0 h1, List.take_length]; have e2 : ts.take (i + 1) = ts.take i ++ [t] := by rw [List.take_succ_eq_append_getElem hi, e]
  rw [e2, dimOf_snoc (fun u hu => axes_ok (hok u (List.mem_of_mem_take hu)))]
  by_cases hx : x ∈ t.l
  · rw [if_pos hx, if_pos hx]; have hg := findI_get hx; have := hc _ hg.1 t ht; rw [hg.2] at this
    split
    · omega
    · rfl
  · rw [if_neg hx, if_neg hx]
    split
    · rfl
    · omega
theorem ct_i_dimsOf (ts : List Ten) (v : Value) (w : World) (r : TensR ts v (hp w)) (hok : ∀ t ∈ ts, axesL t.l t.d) :
    Calls Tryz.prog 27 [v].toArray w (Ret w emp (fun u _ => ∃ arr ok, u = .tuple [.agg (ints arr).toArray, .bool ok].toArray ∧ arr.length = 100 ∧ (ok = true ↔ consL ts) ∧ (ok = true → arrInv ts arr))) := by
  have hx := r.le; obtain ⟨cells, rr, hc⟩ := r.at; refine calls_in Tryz.func27 rfl Tryz.ntmps27 rfl (Sat.start w) (wp_sc (wp_sq ?_)); refine sq_x rfl (x_alloc ty_60 rfl) rfl ?_; rintro _ _ ⟨b2, rfl, rfl⟩; refine sq_v rfl (v_assign rfl) rfl (sq_end (qs_n (wp_sc (wp_sq ?_)))); refine sq_x rfl (x_alloc ty_60 rfl) rfl ?_; rintro _ _ ⟨b4, rfl, rfl⟩; refine sq_end (qs_n (wp_sc (wp_sc (wp_sq (sq_v rfl (v_move rfl) rfl (sq_v rfl (v_len Tryz.underlying25 rfl r.sl) rfl (sq_v rfl (v_move rfl) rfl (sq_end (qs_n (wp_bl (wp_lp (fun s : Nat × List Int => [(2, .pointer (some ⟨b2, 0, none⟩)), (4, .pointer (some ⟨b4, 0, none⟩)), (9, v), (10, num ts.length), (11, num s.1)]) (fun s => [box b4 (ints s.2) 60, box b2 (ints (List.replicate 100 0)) 60, hp w]) (fun s => s.1 ≤ ts.length ∧ arrInv (ts.take s.1) s.2 ∧ ∀ i, i < s.1 → ∀ t, ts[i]? = some t → ∀ j, j < t.l.length → consAt ts i j) (fun s => ts.length - s.1) (0, List.replicate 100 0) ⟨by omega, ⟨by simp, fun x h0 h1 => rep_getD _ _⟩, fun i hi => by omega⟩ ⟨rfl, rfl, rfl, rfl, rfl, trivial⟩ (fun _ s => s) ?_))))))))))); rintro ⟨i, arr⟩ ⟨hi, ha, hcons⟩; dsimp only at hi ha hcons ⊢; refine wp_sc (wp_sq (sq_v rfl (v_lss rfl rfl) rfl (sq_end (qs_n (wp_sc ?_))))); refine wp_cd rfl (fun c12 => ?_) (fun c12 => ?_)
  · refine wp_sk (qs_n (wp_sc (wp_bl (wp_sc (wp_sq ?_))))); obtain ⟨t, a, b, c, ht, hcs, r1, r2, r3⟩ := hc i (by omega); have hax := hok t (List.mem_of_getElem? ht); have hxl := r1.le; refine sq_v rfl (v_indexAddr Tryz.underlying25 ty_40 rfl rfl rr (by decide) (by omega) (by omega)) rfl ?_; refine sq_v rfl (v_loadNE 2 ty_40 rfl rfl rr (by have := rr.1; omega) rfl hcs) rfl ?_; refine sq_x rfl (x_alloc ty_40 rfl) rfl ?_; rintro _ _ ⟨b6, rfl, rfl⟩; refine sq_m 0 rfl rfl (m_store 0 ty_40 rfl rfl rfl rfl (by simp [r1.sl.one, r2.sl.one, r3.sl.one]) rfl (Nat.le_of_ble_eq_true rfl)) rfl ?_; rintro _ _ ⟨rfl, rfl⟩; refine sq_end (qs_n (wp_sc (wp_sq (sq_v rfl (v_fieldAddr fd_40_0 ty_26 (by decide) rfl) rfl (sq_v rfl (v_loadB 0 ty_26 rfl rfl rfl) rfl (sq_v rfl (v_len Tryz.underlying26 rfl r1.sl) rfl (sq_v rfl (v_move rfl) rfl (sq_end (qs_n (wp_bl (wp_lp (fun s : Nat × List Int => [(2, .pointer (some ⟨b2, 0, none⟩)), (4, .pointer (some ⟨b4, 0, none⟩)), (6, .pointer (some ⟨b6, 0, none⟩)), (9, v), (10, num ts.length), (11, num i), (16, a), (17, num t.l.length), (18, num s.1)]) (fun s => [box b6 [a, b, c] 40, box b4 (ints s.2) 60, box b2 (ints (List.replicate 100 0)) 60, hp w]) (fun s => s.1 ≤ t.l.length ∧ arrMid (ts.take i) t s.1 s.2 ∧ ∀ j, j < s.1 → consAt ts i j) (fun s => t.l.length - s.1) (0, arr) ⟨by omega, ⟨ha.1, fun x h0 h1 => by simpa using ha.2 x h0 h1⟩, fun j hj => by omega⟩ ⟨rfl, rfl, rfl, rfl, rfl, rfl, rfl, rfl, rfl, trivial⟩ (fun _ s => s) ?_))))))))))); rintro ⟨j, arr'⟩ ⟨hj, ha', hcj⟩; dsimp only at hj ha' hcj ⊢; refine wp_sc (wp_sq (sq_v rfl (v_lss rfl rfl) rfl (sq_end (qs_n (wp_sc ?_))))); refine wp_cd rfl (fun c19 => ?_) (fun c19 => ?_)
    · refine wp_sk (qs_n (wp_sc (wp_bl (wp_sc (wp_sq (sq_v rfl (v_move rfl) rfl (sq_v rfl (v_idxI Tryz.underlying26 ty_3 rfl rfl r1 (by omega) (by omega)) rfl (sq_v rfl (v_loadI (k := j) 3 ty_3 rfl rfl r1 (by omega)) rfl (sq_v rfl (v_assign rfl) rfl (sq_v rfl (v_assign rfl) rfl (sq_end (qs_n (wp_sc (wp_sc (wp_rj 15 [(0, true), (1, true), (2, true), (3, true), (4, true), (5, true), (6, true), (7, true), (8, true), (9, true), (10, true), (11, true), (12, true), (13, true), (14, true)] mixed_ok (by kernel_rfl) (rj_v rfl rfl (v_move rfl) rfl ?_)))))))))))))))); have hl := (hax.2.2 j (by omega)).1; have hdl := hax.2.1; have hal := ha'.1; have hnm := (hax.2.2 j (by omega)).2.2; have hav : arr'.getD (t.l.getD j 0).toNat 0 = dimOf (ts.take i) (t.l.getD j 0) := (by rw [ha'.2 _ hl.1 hl.2, if_neg hnm])
      refine rj_v rfl rfl (v_indexAddrA Tryz.underlying60 ty_3 rfl rfl (by omega) (by omega)) rfl (rj_v rfl rfl (v_loadB 1 ty_3 rfl rfl (aget (k := (t.l.getD j 0).toNat) (by omega) rfl)) rfl (rj_v rfl rfl (v_neq rfl rfl) rfl ?_)); refine rj_bd 26 rfl (fun c26 => ?_) (fun c26 => ?_)
      · refine rj_v rfl rfl (v_move rfl) rfl (rj_v rfl rfl (v_move rfl) rfl (rj_v rfl rfl (v_indexAddrA Tryz.underlying60 ty_3 rfl rfl (by omega) (by omega)) rfl (rj_v rfl rfl (v_loadB 1 ty_3 rfl rfl (aget (k := (t.l.getD j 0).toNat) (by omega) rfl)) rfl (rj_v rfl rfl (v_fieldAddr fd_40_1 ty_26 (by decide) rfl) rfl (rj_v rfl rfl (v_loadB 0 ty_26 rfl rfl rfl) rfl (rj_v rfl rfl (v_move rfl) rfl (rj_v rfl rfl (v_idxI Tryz.underlying26 ty_3 rfl rfl r2 (by omega) (by omega)) rfl (rj_v rfl rfl (v_loadI (k := j) 3 ty_3 rfl rfl r2 (by omega)) rfl (rj_v rfl rfl (v_neq rfl rfl) rfl ?_))))))))); refine rj_v rfl rfl (v_pickt rfl rfl) rfl (rj_end (qs_n ?_)); refine wp_cd rfl (fun c37 => ?_) (fun c37 => ?_)
        · refine wp_sc (wp_sq ?_); refine sq_v rfl (v_loadNB 1 ty_60 rfl rfl (by rw [ints_length]; exact ha'.1) (by rw [List.drop_zero, List.take_of_length_le]; rw [ints_length, ha'.1]; omega)) rfl ?_; refine sq_m 2 rfl rfl (m_storeW 2 ty_60 rfl rfl rfl (by rw [ints_length]; exact ha'.1) (ints_one arr') rfl rfl) rfl ?_; rintro _ _ ⟨rfl, rfl⟩; refine sq_v rfl (v_assign rfl) rfl (sq_end (qs_n (wp_rt (qs_r (qs_br (qs_r (qs_r (qs_br (qs_br (qs_r (qs_r (qs_br (qs_r ?_))))))))))))); exact qs_retct 2 rfl ty_60 rfl rfl rfl (by rw [ints_length]; exact ha'.1) (fin_e (i := 3) rfl ⟨arr', false, rfl, ha'.1, ⟨fun h => (by cases h), fun h => by exfalso; have := h i (by omega) t ht j (by omega) t ht; omega⟩, fun h => (by cases h)⟩)
        · refine wp_sk (qs_n (wp_sq (sq_v rfl (v_move rfl) rfl (sq_v rfl (v_fieldAddr fd_40_1 ty_26 (by decide) rfl) rfl (sq_v rfl (v_loadB 0 ty_26 rfl rfl rfl) rfl (sq_v rfl (v_move rfl) rfl (sq_v rfl (v_idxI Tryz.underlying26 ty_3 rfl rfl r2 (by omega) (by omega)) rfl (sq_v rfl (v_loadI (k := j) 3 ty_3 rfl rfl r2 (by omega)) rfl (sq_v rfl (v_indexAddrA Tryz.underlying60 ty_3 rfl rfl (by omega) (by omega)) rfl ?_))))))))); refine sq_m 1 rfl rfl (m_storeA 1 ty_3 rfl rfl rfl (k := (t.l.getD j 0).toNat) (by omega) rfl) rfl ?_; rintro _ _ ⟨rfl, rfl⟩; refine sq_end (qs_bn (qs_n (wp_sq ?_))); refine sq_v rfl (v_add rfl rfl ((by unfold I64; omega))) rfl ?_; refine sq_v rfl (v_move rfl) rfl (sq_end ?_); exact qs_bk (j + 1, arr'.set (t.l.getD j 0).toNat (t.d.getD j 0)) ⟨by simp only; omega, arrMid_step hax ha' (by omega), step_all hcj (fun t' ht' => by rw [ht] at ht'; cases ht'; omega)⟩ (by simp only; omega) ⟨rfl, rfl, rfl, rfl, rfl, rfl, rfl, rfl, rfl, trivial⟩ (fun _ s => s)
      · refine rj_v rfl rfl (v_move rfl) rfl (rj_s rfl rfl rfl (rj_s rfl rfl rfl (rj_s rfl rfl rfl (rj_s rfl rfl rfl (rj_s rfl rfl rfl (rj_s rfl rfl rfl (rj_s rfl rfl rfl (rj_s rfl rfl rfl (rj_s rfl rfl rfl ?_))))))))); refine rj_v rfl rfl (v_pickf rfl rfl) rfl (rj_end (qs_n (wp_cf rfl (wp_sk (qs_n (wp_sq (sq_v rfl (v_move rfl) rfl (sq_v rfl (v_fieldAddr fd_40_1 ty_26 (by decide) rfl) rfl (sq_v rfl (v_loadB 0 ty_26 rfl rfl rfl) rfl (sq_v rfl (v_move rfl) rfl (sq_v rfl (v_idxI Tryz.underlying26 ty_3 rfl rfl r2 (by omega) (by omega)) rfl (sq_v rfl (v_loadI (k := j) 3 ty_3 rfl rfl r2 (by omega)) rfl (sq_v rfl (v_indexAddrA Tryz.underlying60 ty_3 rfl rfl (by omega) (by omega)) rfl ?_))))))))))))); refine sq_m 1 rfl rfl (m_storeA 1 ty_3 rfl rfl rfl (k := (t.l.getD j 0).toNat) (by omega) rfl) rfl ?_; rintro _ _ ⟨rfl, rfl⟩; refine sq_end (qs_bn (qs_n (wp_sq ?_))); refine sq_v rfl (v_add rfl rfl ((by unfold I64; omega))) rfl ?_; refine sq_v rfl (v_move rfl) rfl (sq_end ?_); exact qs_bk (j + 1, arr'.set (t.l.getD j 0).toNat (t.d.getD j 0)) ⟨by simp only; omega, arrMid_step hax ha' (by omega), step_all hcj (fun t' ht' => by rw [ht] at ht'; cases ht'; omega)⟩ (by simp only; omega) ⟨rfl, rfl, rfl, rfl, rfl, rfl, rfl, rfl, rfl, trivial⟩ (fun _ s => s)
    · refine wp_ex (qs_x (qs_x (qs_bx (qs_bn (qs_n (wp_sq ?_)))))); refine sq_v rfl (v_add rfl rfl ((by unfold I64; omega))) rfl ?_; refine sq_v rfl (v_move rfl) rfl (sq_end ?_); have e : j = t.l.length := by omega
      subst e; exact qs_bk (i + 1, arr') ⟨by simp only; omega, arrMid_end ht hok ha' hcj, step_all hcons (fun t' ht' => by rw [ht] at ht'; cases ht'; exact hcj)⟩ (by simp only; omega) ⟨rfl, rfl, rfl, rfl, rfl, trivial⟩ (fun _ s => s.pick [1, 2, 3] (by decide) rfl)
  · refine wp_ex (qs_x (qs_x (qs_bx (qs_n (wp_sc (wp_sq ?_)))))); refine sq_v rfl (v_loadNB 0 ty_60 rfl rfl (by rw [ints_length]; exact ha.1) (by rw [List.drop_zero, List.take_of_length_le]; rw [ints_length, ha.1]; omega)) rfl ?_; refine sq_m 1 rfl rfl (m_storeW 1 ty_60 rfl rfl rfl (by rw [ints_length]; exact ha.1) (ints_one arr) rfl rfl) rfl ?_; rintro _ _ ⟨rfl, rfl⟩; refine sq_v rfl (v_assign rfl) rfl (sq_end (qs_n (wp_rt ?_))); have e : i = ts.length := by omega
    subst e; exact qs_retct 1 rfl ty_60 rfl rfl rfl (by rw [ints_length]; exact ha.1) (fin_e (i := 2) rfl ⟨arr, true, rfl, ha.1, ⟨fun _ => hcons, fun _ => rfl⟩, fun _ => by simpa using ha⟩)

theorem map_getD {ls : List Int} {f : Int → Int} {i : Nat} (h : i < ls.length) : (ls.map f).getD i 0 = f (ls.getD i 0) := by simp [List.getD, h]
def arrOf (arr ls : List Int) : List Int := ls.map fun x => arr.getD x.toNat 0
theorem ct_i_axesOf (arr ls : List Int) (v : Value) (w : World) (r : IntsR ls v (hp w)) (ha : arr.length = 100) (hl : ∀ x ∈ ls, 0 ≤ x ∧ x ≤ 99) (hs : ls.length ≤ 1048576) :
    Calls Tryz.prog 53 [.agg (ints arr).toArray, v].toArray w (Ret w emp (fun u h => ∃ u1 u2, u = tenV u1 u2 (.slice none 0 0) ∧ IntsR ls u1 h ∧ IntsR (arrOf arr ls) u2 h)) := by
  have hx := r.le; have hdl : (arrOf arr ls).length = ls.length := by simp [arrOf]
  refine calls_in Tryz.func53 rfl Tryz.ntmps53 rfl (Sat.start w) (wp_sc (wp_sq ?_)); refine sq_x rfl (x_box rfl rfl) rfl ?_; rintro _ _ ⟨b2, rfl, rfl⟩; refine sq_x rfl (x_alloc ty_40 rfl) rfl ?_; rintro _ _ ⟨b4, rfl, rfl⟩; refine sq_end (qs_n (wp_sc ?_)); refine wp_ra 7 (σ := Value × PH × Value × PH × Nat) (fun s => IntsO ls s.1 s.2.1 ∧ IntsO (List.replicate ls.length 0) s.2.2.1 s.2.2.2.1) (fun s => [(1, v), (2, .pointer (some ⟨b2, 0, none⟩)), (4, .pointer (some ⟨b4, 0, none⟩)), (5, .pointer (some ⟨s.2.2.2.2, 0, none⟩))]) (fun s => [box s.2.2.2.2 [s.1, s.2.2.1, .slice none 0 0] 40, s.2.1, s.2.2.2.1, box b4 [.slice none 0 0, .slice none 0 0, .slice none 0 0] 40, box b2 (ints arr) 60, hp w]) mixed_ok (by kernel_rfl) ?_ ?_
  · refine ra_v (i := 0) (by kernel_rfl) rfl rfl (v_move rfl) rfl (ra_v (i := 2) (by kernel_rfl) rfl rfl (v_move rfl) rfl (ra_v (i := 3) (by kernel_rfl) rfl rfl (v_len Tryz.underlying26 rfl r.sl) rfl ?_)); refine ra_3 (i := 1) (j := 4) (p := 6) (by kernel_rfl) ?_ ?_ ?_
    · refine ro_x rfl rfl (x_call rfl en_32 (fun w s => ct_i_copyInts _ _ w (r.mono (s.get 2 rfl)) (by omega))) rfl ?_; rintro v9 h9 r9; refine ra_2 (i := 4) (j := 6) (by kernel_rfl) ?_ ?_
      · refine ro_x rfl rfl (x_makeI Tryz.underlying26 ty_3 rfl rfl (by omega) (by omega) (by omega)) rfl ?_; intro v12 h12 r12; refine ra_rj [(5, true), (6, false), (7, false)] (by kernel_rfl) rfl ?_; refine rj_v rfl rfl (v_build [v9, v12, .slice none 0 0] rfl (by obtain ⟨_, _, rfl⟩ := r9.toR.sl; obtain ⟨_, _, rfl⟩ := r12.toR.sl; kernel_rfl)) rfl ?_; refine rj_x rfl rfl (x_alloc ty_40 rfl) rfl ?_; rintro _ _ ⟨b5, rfl, rfl⟩; refine rj_m 0 rfl rfl rfl rfl (m_store 0 ty_40 rfl rfl rfl rfl (by simp [r9.toR.sl.one, r12.toR.sl.one, one_sl]) rfl (Nat.le_of_ble_eq_true rfl)) rfl ?_; rintro _ _ ⟨rfl, rfl⟩; refine rj_end ?_; exact qs_mid (v9, h9, v12, h12, b5) ⟨r9, by simpa using r12⟩ ⟨rfl, rfl, rfl, rfl, trivial⟩ (fun _ s => s.pick [0, 2, 1, 3, 4, 5] (by decide) rfl)
      · refine ro_x rfl rfl (x_alloc ty_40 rfl) rfl ?_; rintro _ _ ⟨b5, rfl, rfl⟩; refine ra_rj [(4, false), (5, true), (7, false)] (by kernel_rfl) rfl ?_; refine rj_x rfl rfl (x_makeI Tryz.underlying26 ty_3 rfl rfl (by omega) (by omega) (by omega)) rfl ?_; intro v12 h12 r12; refine rj_v rfl rfl (v_build [v9, v12, .slice none 0 0] rfl (by obtain ⟨_, _, rfl⟩ := r9.toR.sl; obtain ⟨_, _, rfl⟩ := r12.toR.sl; kernel_rfl)) rfl ?_; refine rj_m 1 rfl rfl rfl rfl (m_store 1 ty_40 rfl rfl rfl rfl (by simp [r9.toR.sl.one, r12.toR.sl.one, one_sl]) rfl (Nat.le_of_ble_eq_true rfl)) rfl ?_; rintro _ _ ⟨rfl, rfl⟩; refine rj_end ?_; exact qs_mid (v9, h9, v12, h12, b5) ⟨r9, by simpa using r12⟩ ⟨rfl, rfl, rfl, rfl, trivial⟩ (fun _ s => s.pick [1, 2, 0, 3, 4, 5] (by decide) rfl)
    · refine ro_x rfl rfl (x_makeI Tryz.underlying26 ty_3 rfl rfl (by omega) (by omega) (by omega)) rfl ?_; intro v12 h12 r12; refine ra_2 (i := 1) (j := 6) (by kernel_rfl) ?_ ?_
      · refine ro_x rfl rfl (x_call rfl en_32 (fun w s => ct_i_copyInts _ _ w (r.mono (s.get 3 rfl)) (by omega))) rfl ?_; rintro v9 h9 r9; refine ra_rj [(5, true), (6, false), (7, false)] (by kernel_rfl) rfl ?_; refine rj_v rfl rfl (v_build [v9, v12, .slice none 0 0] rfl (by obtain ⟨_, _, rfl⟩ := r9.toR.sl; obtain ⟨_, _, rfl⟩ := r12.toR.sl; kernel_rfl)) rfl ?_; refine rj_x rfl rfl (x_alloc ty_40 rfl) rfl ?_; rintro _ _ ⟨b5, rfl, rfl⟩; refine rj_m 0 rfl rfl rfl rfl (m_store 0 ty_40 rfl rfl rfl rfl (by simp [r9.toR.sl.one, r12.toR.sl.one, one_sl]) rfl (Nat.le_of_ble_eq_true rfl)) rfl ?_; rintro _ _ ⟨rfl, rfl⟩; refine rj_end ?_; exact qs_mid (v9, h9, v12, h12, b5) ⟨r9, by simpa using r12⟩ ⟨rfl, rfl, rfl, rfl, trivial⟩ (fun _ s => s.pick [0, 1, 2, 3, 4, 5] (by decide) rfl)
      · refine ro_x rfl rfl (x_alloc ty_40 rfl) rfl ?_; rintro _ _ ⟨b5, rfl, rfl⟩; refine ra_rj [(1, false), (5, true), (7, false)] (by kernel_rfl) rfl ?_; refine rj_x rfl rfl (x_call rfl en_32 (fun w s => ct_i_copyInts _ _ w (r.mono (s.get 4 rfl)) (by omega))) rfl ?_; rintro v9 h9 r9; refine rj_v rfl rfl (v_build [v9, v12, .slice none 0 0] rfl (by obtain ⟨_, _, rfl⟩ := r9.toR.sl; obtain ⟨_, _, rfl⟩ := r12.toR.sl; kernel_rfl)) rfl ?_; refine rj_m 1 rfl rfl rfl rfl (m_store 1 ty_40 rfl rfl rfl rfl (by simp [r9.toR.sl.one, r12.toR.sl.one, one_sl]) rfl (Nat.le_of_ble_eq_true rfl)) rfl ?_; rintro _ _ ⟨rfl, rfl⟩; refine rj_end ?_; exact qs_mid (v9, h9, v12, h12, b5) ⟨r9, by simpa using r12⟩ ⟨rfl, rfl, rfl, rfl, trivial⟩ (fun _ s => s.pick [1, 0, 2, 3, 4, 5] (by decide) rfl)
    · refine ro_x rfl rfl (x_alloc ty_40 rfl) rfl ?_; rintro _ _ ⟨b5, rfl, rfl⟩; refine ra_2 (i := 1) (j := 4) (by kernel_rfl) ?_ ?_
      · refine ro_x rfl rfl (x_call rfl en_32 (fun w s => ct_i_copyInts _ _ w (r.mono (s.get 3 rfl)) (by omega))) rfl ?_; rintro v9 h9 r9; refine ra_rj [(4, false), (5, true), (7, false)] (by kernel_rfl) rfl ?_; refine rj_x rfl rfl (x_makeI Tryz.underlying26 ty_3 rfl rfl (by omega) (by omega) (by omega)) rfl ?_; intro v12 h12 r12; refine rj_v rfl rfl (v_build [v9, v12, .slice none 0 0] rfl (by obtain ⟨_, _, rfl⟩ := r9.toR.sl; obtain ⟨_, _, rfl⟩ := r12.toR.sl; kernel_rfl)) rfl ?_; refine rj_m 2 rfl rfl rfl rfl (m_store 2 ty_40 rfl rfl rfl rfl (by simp [r9.toR.sl.one, r12.toR.sl.one, one_sl]) rfl (Nat.le_of_ble_eq_true rfl)) rfl ?_; rintro _ _ ⟨rfl, rfl⟩; refine rj_end ?_; exact qs_mid (v9, h9, v12, h12, b5) ⟨r9, by simpa using r12⟩ ⟨rfl, rfl, rfl, rfl, trivial⟩ (fun _ s => s.pick [2, 1, 0, 3, 4, 5] (by decide) rfl)
      · refine ro_x rfl rfl (x_makeI Tryz.underlying26 ty_3 rfl rfl (by omega) (by omega) (by omega)) rfl ?_; intro v12 h12 r12; refine ra_rj [(1, false), (5, true), (7, false)] (by kernel_rfl) rfl ?_; refine rj_x rfl rfl (x_call rfl en_32 (fun w s => ct_i_copyInts _ _ w (r.mono (s.get 4 rfl)) (by omega))) rfl ?_; rintro v9 h9 r9; refine rj_v rfl rfl (v_build [v9, v12, .slice none 0 0] rfl (by obtain ⟨_, _, rfl⟩ := r9.toR.sl; obtain ⟨_, _, rfl⟩ := r12.toR.sl; kernel_rfl)) rfl ?_; refine rj_m 2 rfl rfl rfl rfl (m_store 2 ty_40 rfl rfl rfl rfl (by simp [r9.toR.sl.one, r12.toR.sl.one, one_sl]) rfl (Nat.le_of_ble_eq_true rfl)) rfl ?_; rintro _ _ ⟨rfl, rfl⟩; refine rj_end ?_; exact qs_mid (v9, h9, v12, h12, b5) ⟨r9, by simpa using r12⟩ ⟨rfl, rfl, rfl, rfl, trivial⟩ (fun _ s => s.pick [2, 0, 1, 3, 4, 5] (by decide) rfl)
  · rintro ⟨v9, h9, v12, h12, b5⟩ ⟨r9, r12⟩; dsimp only at r9 r12 ⊢; refine qs_n (wp_sc (wp_sc (wp_sq (sq_v rfl (v_move rfl) rfl (sq_v rfl (v_len Tryz.underlying26 rfl r.sl) rfl (sq_v rfl (v_move rfl) rfl (sq_end (qs_n (wp_bl (wp_lp (fun s : Nat × PH => [(2, .pointer (some ⟨b2, 0, none⟩)), (4, .pointer (some ⟨b4, 0, none⟩)), (5, .pointer (some ⟨b5, 0, none⟩)), (14, v), (15, num ls.length), (16, num s.1)]) (fun s => [box b5 [v9, v12, .slice none 0 0] 40, h9, s.2, box b4 [.slice none 0 0, .slice none 0 0, .slice none 0 0] 40, box b2 (ints arr) 60, hp w]) (fun s => s.1 ≤ ls.length ∧ IntsO ((arrOf arr ls).take s.1 ++ List.replicate ((arrOf arr ls).length - s.1) 0) v12 s.2) (fun s => ls.length - s.1) (0, h12) ⟨by omega, by simpa [hdl] using r12⟩ ⟨rfl, rfl, rfl, rfl, rfl, rfl, trivial⟩ (fun _ s => s) ?_)))))))))); rintro ⟨i, hh⟩ ⟨hi, ro⟩; dsimp only at hi ro ⊢; have hll : ((arrOf arr ls).take i ++ List.replicate ((arrOf arr ls).length - i) 0).length = ls.length := by simp; omega
    refine wp_sc (wp_sq (sq_v rfl (v_lss rfl rfl) rfl (sq_end (qs_n (wp_sc ?_))))); refine wp_cd rfl (fun c17 => ?_) (fun c17 => ?_)
    · refine wp_sk (qs_n (wp_sc (wp_bl (wp_sc (wp_sq (sq_v rfl (v_move rfl) rfl (sq_v rfl (v_idxI Tryz.underlying26 ty_3 rfl rfl r (by omega) (by omega)) rfl (sq_v rfl (v_loadI (k := i) 5 ty_3 rfl rfl r (by omega)) rfl (sq_v rfl (v_assign rfl) rfl (sq_v rfl (v_assign rfl) rfl (sq_end (qs_n (wp_rj 7 [(0, true), (1, true), (2, true), (3, true), (4, true), (5, true), (6, true), (7, false)] mixed_ok (by kernel_rfl) (rj_v rfl rfl (v_fieldAddr fd_40_1 ty_26 (by decide) rfl) rfl (rj_v rfl rfl (v_loadB 0 ty_26 rfl rfl rfl) rfl (rj_v rfl rfl (v_move rfl) rfl (rj_v rfl rfl (v_move rfl) rfl ?_))))))))))))))))); have hli := hl _ (mem_getD (by omega : i < ls.length)); refine rj_v rfl rfl (v_indexAddrA Tryz.underlying60 ty_3 rfl rfl (by omega) (by omega)) rfl (rj_v rfl rfl (v_loadB 4 ty_3 rfl rfl (aget (k := (ls.getD i 0).toNat) (by omega) rfl)) rfl (rj_v rfl rfl (v_idxI Tryz.underlying26 ty_3 rfl rfl ro.toR (by omega) (by omega)) rfl ?_)); refine rj_m 2 rfl rfl rfl rfl (m_storeI 2 ty_3 rfl rfl rfl ro (by omega)) rfl ?_; rintro _ h_ro8 ⟨rfl, ro8⟩; refine rj_end (qs_bn (qs_n (wp_sq ?_))); refine sq_v rfl (v_add rfl rfl ((by unfold I64; omega))) rfl ?_; refine sq_v rfl (v_move rfl) rfl (sq_end ?_); exact qs_bk (i + 1, h_ro8) ⟨by simp only; omega, by simp only; rw [← set_prefix (by omega), arrOf, map_getD (by omega)]; exact ro8⟩ (by simp only; omega) ⟨rfl, rfl, rfl, rfl, rfl, rfl, trivial⟩ (fun _ s => s)
    · refine wp_ex (qs_x (qs_x (qs_bx (qs_n (wp_sc (wp_sq (sq_v rfl (v_loadNB 0 ty_40 rfl rfl rfl rfl) rfl ?_))))))); refine sq_m 3 rfl rfl (m_store 3 ty_40 rfl rfl rfl rfl (by simp [r9.toR.sl.one, ro.toR.sl.one, one_sl]) rfl (Nat.le_of_ble_eq_true rfl)) rfl ?_; rintro _ _ ⟨rfl, rfl⟩; refine sq_end (qs_n (wp_rt ?_)); have e : (arrOf arr ls).length - i = 0 := by omega
      rw [e, List.take_of_length_le (by omega), List.replicate_zero, List.append_nil] at ro; refine qs_dj 1 2 rfl rfl rfl (fun hdj => ?_); refine qs_s [PUn h9 hh, box b4 _ _, hp w] (fun _ s => Sat.merge (s.pick [1, 2, 3, 5] (by decide) rfl)) ?_; exact qs_retc 1 rfl ty_40 rfl rfl rfl (fun w' s => ⟨_, PUn h9 hh, rfl, s.updE (i := 2) rfl (.inr ⟨0, rfl, by decide⟩), v9, v12, rfl, r9.toR.mono (PLe.un_l _ _), ro.toR.mono (PLe.un_r hdj)⟩)
end Go.Proofs.YtdkgaejmgnojhaaGreat
namespace Go.Proofs.YtdkgaejmgnojhaaGreat
set_option maxRecDepth 100000
open Go.RowKit

abbrev netV (k p n : Int) (vt vo : Value) : Value := .agg [num k, num p, num n, vt, vo].toArray
def netL (k p n : Int) (ts : List Ten) (op : List Int) : Prop := ringL k p n ∧ ts.length ≤ 12 ∧ (∀ t ∈ ts, tensorL k p n t.l t.d t.x) ∧ consL ts ∧ 0 ≤ sizeI op (dimsFor ts op)
open Classical in
noncomputable def netB (k p n : Int) (ts : List Ten) (op : List Int) : Bool := decide (netL k p n ts op)
theorem netB_no {k p n : Int} {ts : List Ten} {op : List Int} (h : ¬ netL k p n ts op) : Value.bool false = .bool (netB k p n ts op) := by simp [netB, h]
theorem netB_dec {k p n : Int} {ts : List Ten} {op : List Int} {q : Prop} [Decidable q] (h : q ↔ netL k p n ts op) : Value.bool (decide q) = .bool (netB k p n ts op) := by
  congr 1
  unfold netB
  congr 1
  exact eq_iff_iff.2 h
theorem tensor_axes {k p n : Int} {t : Ten} (h : tensorL k p n t.l t.d t.x) : axesL t.l t.d := (sizeI_ge.1 h.2.1).1
theorem tensorB_true {k p n : Int} {ls ds xs : List Int} : tensorB k p n ls ds xs = true ↔ tensorL k p n ls ds xs := by simp [tensorB]
theorem tensorB_false {k p n : Int} {ls ds xs : List Int} : tensorB k p n ls ds xs = false ↔ ¬ tensorL k p n ls ds xs := by simp [tensorB]
theorem all_at {ts : List Ten} {p : Ten → Prop} (h : ∀ i, i < ts.length → ∀ t, ts[i]? = some t → p t) : ∀ t ∈ ts, p t := fun t ht => by
  obtain ⟨i, hi⟩ := List.getElem?_of_mem ht; exact h i (List.getElem?_eq_some_iff.1 hi).1 t hi
theorem take_at {ts : List Ten} {i : Nat} {p : Ten → Prop} (h : ∀ j, j < i → ∀ t, ts[j]? = some t → p t) : ∀ t ∈ ts.take i, p t := fun t ht => by
  obtain ⟨j, hj⟩ := List.getElem?_of_mem ht; rw [List.getElem?_take] at hj
  split at hj
  · rename_i hlt; exact h j hlt t hj
  · cases hj
theorem one_at {ts : List Ten} {i : Nat} {t : Ten} {p : Ten → Prop} (ht : ts[i]? = some t) (h : p t) : ∀ t', ts[i]? = some t' → p t' := fun t' h' => by
  rw [ht] at h'; cases h'; exact h

set_option maxHeartbeats 1000000 in
theorem ct_s_NetworkOk (k p n : Int) (ts : List Ten) (op : List Int) (vt vo : Value) (w : World) (r : TensR ts vt (hp w)) (r' : IntsR op vo (hp w)) (hs : op.length ≤ 1048576) :
    Calls Tryz.prog 57 [netV k p n vt vo].toArray w (RetV w (.bool (netB k p n ts op))) := by
  have hx := r.le; obtain ⟨cells, rr, hc⟩ := r.at; refine calls_in Tryz.func57 rfl Tryz.ntmps57 rfl (Sat.start w) (wp_sc (wp_sq ?_)); refine sq_x rfl (x_box rfl rfl) rfl ?_; rintro _ _ ⟨b1, rfl, rfl⟩; refine sq_v rfl (v_assign rfl) rfl (sq_end (qs_n (wp_sc (wp_sc (wp_sq (sq_v rfl (v_fieldAddr fd_28_0 ty_24 (by decide) rfl) rfl (sq_v rfl (v_loadNB 0 ty_24 rfl rfl rfl rfl) rfl (sq_u rfl (x_callv rfl en_93 (fun w s => ct_s_RingOk _ _ _ w)) rfl ?_)))))))); refine sq_bb 10 rfl (fun c10 => ?_) (fun c10 => ?_)
  · refine sq_v rfl (v_not rfl) rfl (sq_v rfl (v_move rfl) rfl (sq_v rfl (v_fieldAddr fd_28_1 ty_25 (by decide) rfl) rfl (sq_v rfl (v_loadB 0 ty_25 rfl rfl rfl) rfl (sq_v rfl (v_len Tryz.underlying25 rfl r.sl) rfl (sq_v rfl (v_gtr rfl rfl) rfl (sq_v rfl (v_pickf rfl rfl) rfl (sq_end (qs_n ?_)))))))); refine wp_cd rfl (fun c17 => ?_) (fun c17 => ?_)
    · refine wp_sc (wp_sq (sq_v rfl (v_assign rfl) rfl (sq_end (qs_n (wp_rt (qs_r ?_)))))); exact qs_ret1 rfl rfl (fin_q (i := 1) rfl (netB_no (fun h => by have := h.2.1; omega)))
    · refine wp_sk (qs_n (wp_sc (wp_sc (wp_sq (sq_v rfl (v_fieldAddr fd_28_1 ty_25 (by decide) rfl) rfl (sq_v rfl (v_loadB 0 ty_25 rfl rfl rfl) rfl (sq_v rfl (v_len Tryz.underlying25 rfl r.sl) rfl (sq_v rfl (v_move rfl) rfl (sq_end (qs_n (wp_bl (wp_lp (fun i : Nat => [(1, .pointer (some ⟨b1, 0, none⟩)), (19, vt), (20, num ts.length), (21, num i)]) (fun _ => [box b1 [num k, num p, num n, vt, vo] 28, hp w]) (fun i => i ≤ ts.length ∧ (∀ j, j < i → ∀ t, ts[j]? = some t → tensorL k p n t.l t.d t.x) ∧ ∀ i', i' < i → ∀ t, ts[i']? = some t → ∀ j, j < t.l.length → consAt ts i' j) (fun i => ts.length - i) 0 ⟨by omega, fun j hj => by omega, fun j hj => by omega⟩ ⟨rfl, rfl, rfl, rfl, trivial⟩ (fun _ s => s) ?_)))))))))))); rintro i ⟨hi, hten, hcons⟩; refine wp_sc (wp_sq (sq_v rfl (v_lss rfl rfl) rfl (sq_end (qs_n (wp_sc ?_))))); refine wp_cd rfl (fun c22 => ?_) (fun c22 => ?_)
      · refine wp_sk (qs_n (wp_sc (wp_bl (wp_sc (wp_sq (sq_v rfl (v_move rfl) rfl ?_)))))); obtain ⟨t, a, b, c, ht, hcs, r1, r2, r3⟩ := hc i (by omega); have hxl := r1.le; refine sq_v rfl (v_indexAddr Tryz.underlying25 ty_40 rfl rfl rr (by decide) (by omega) (by omega)) rfl ?_; refine sq_v rfl (v_loadNE 1 ty_40 rfl rfl rr (by have := rr.1; omega) rfl hcs) rfl ?_; refine sq_x rfl (x_alloc ty_40 rfl) rfl ?_; rintro _ _ ⟨b4, rfl, rfl⟩; refine sq_v rfl (v_assign rfl) rfl ?_; refine sq_m 0 rfl rfl (m_store 0 ty_40 rfl rfl rfl rfl (by simp [r1.sl.one, r2.sl.one, r3.sl.one]) rfl (Nat.le_of_ble_eq_true rfl)) rfl ?_; rintro _ _ ⟨rfl, rfl⟩; refine sq_end (qs_n (wp_sc (wp_sc (wp_sq (sq_v rfl (v_fieldAddr fd_28_0 ty_24 (by decide) rfl) rfl (sq_v rfl (v_loadNB 1 ty_24 rfl rfl rfl rfl) rfl (sq_v rfl (v_loadNB 0 ty_40 rfl rfl rfl rfl) rfl (sq_u rfl (x_callv rfl en_94 (fun w s => ct_s_TensorOk _ _ _ _ _ _ _ _ _ w (r1.mono (s.get 2 rfl)) (r2.mono (s.get 2 rfl)) (r3.mono (s.get 2 rfl)))) rfl (sq_v rfl (v_not rfl) rfl (sq_end (qs_n ?_))))))))))); refine wp_cn _ rfl (fun c30 => ?_) (fun c30 => ?_)
        · refine wp_sc (wp_sq (sq_v rfl (v_assign rfl) rfl (sq_end (qs_n (wp_rt (qs_r (qs_br (qs_r (qs_r (qs_br (qs_r ?_))))))))))); exact qs_ret1 rfl rfl (fin_q (i := 2) rfl (netB_no (fun h => tensorB_false.1 c30 (h.2.2.1 t (List.mem_of_getElem? ht)))))
        · refine wp_sk (qs_n (wp_sc (wp_sq (sq_v rfl (v_fieldAddr fd_40_0 ty_26 (by decide) rfl) rfl (sq_v rfl (v_loadB 0 ty_26 rfl rfl rfl) rfl (sq_v rfl (v_len Tryz.underlying26 rfl r1.sl) rfl (sq_v rfl (v_move rfl) rfl (sq_end (qs_n (wp_bl (wp_lp (fun j : Nat => [(1, .pointer (some ⟨b1, 0, none⟩)), (3, num i), (4, .pointer (some ⟨b4, 0, none⟩)), (19, vt), (20, num ts.length), (21, num i), (32, a), (33, num t.l.length), (34, num j)]) (fun _ => [box b4 [a, b, c] 40, box b1 [num k, num p, num n, vt, vo] 28, hp w]) (fun j => j ≤ t.l.length ∧ ∀ j', j' < j → consAt ts i j') (fun j => t.l.length - j) 0 ⟨by omega, fun j hj => by omega⟩ ⟨rfl, rfl, rfl, rfl, rfl, rfl, rfl, rfl, rfl, trivial⟩ (fun _ s => s) ?_))))))))))); rintro j ⟨hj, hcj⟩; have htl := tensorB_true.1 c30; have hax := tensor_axes htl; refine wp_sc (wp_sq (sq_v rfl (v_lss rfl rfl) rfl (sq_end (qs_n (wp_sc ?_))))); refine wp_cd rfl (fun c35 => ?_) (fun c35 => ?_)
          · refine wp_sk (qs_n (wp_sc (wp_bl (wp_sc (wp_sq (sq_v rfl (v_move rfl) rfl (sq_v rfl (v_idxI Tryz.underlying26 ty_3 rfl rfl r1 (by omega) (by omega)) rfl (sq_v rfl (v_loadI (k := j) 2 ty_3 rfl rfl r1 (by omega)) rfl (sq_v rfl (v_assign rfl) rfl (sq_v rfl (v_assign rfl) rfl (sq_end (qs_n (wp_sc (wp_sq (sq_v rfl (v_fieldAddr fd_28_1 ty_25 (by decide) rfl) rfl (sq_v rfl (v_loadB 1 ty_25 rfl rfl rfl) rfl (sq_v rfl (v_move rfl) rfl (sq_v rfl (v_sliceH Tryz.underlying25 ty_40 rfl rfl  rr (by omega) (by omega)) rfl (sq_v rfl (v_move rfl) rfl ?_))))))))))))))))))); refine sq_u rfl (x_callv rfl en_95 (fun w s => ct_s_l12Dim (ts.take i) _ _ w ((r.subH (by omega)).mono (s.get 2 rfl)) (take_at (fun j' hj' t' ht' => axes_ok (tensor_axes (hten j' hj' t' ht')))))) rfl (sq_v rfl (v_assign rfl) rfl (sq_end (qs_n (wp_sc (wp_sq (sq_v rfl (v_move rfl) rfl (sq_v rfl (v_gtr rfl rfl) rfl ?_))))))); refine sq_bd 46 rfl (fun c46 => ?_) (fun c46 => ?_)
            · refine sq_v rfl (v_move rfl) rfl (sq_v rfl (v_move rfl) rfl (sq_v rfl (v_fieldAddr fd_40_1 ty_26 (by decide) rfl) rfl (sq_v rfl (v_loadB 0 ty_26 rfl rfl rfl) rfl (sq_v rfl (v_move rfl) rfl ?_)))); have hdl := hax.2.1; refine sq_v rfl (v_idxI Tryz.underlying26 ty_3 rfl rfl r2 (by omega) (by omega)) rfl (sq_v rfl (v_loadI (k := j) 2 ty_3 rfl rfl r2 (by omega)) rfl (sq_v rfl (v_neq rfl rfl) rfl (sq_v rfl (v_pickt rfl rfl) rfl (sq_end (qs_n ?_))))); refine wp_cd rfl (fun c55 => ?_) (fun c55 => ?_)
              · refine wp_sc (wp_sq (sq_v rfl (v_assign rfl) rfl (sq_end (qs_n (wp_rt (qs_br (qs_r (qs_r (qs_br (qs_br (qs_r (qs_r (qs_br (qs_r ?_)))))))))))))); exact qs_ret1 rfl rfl (fin_q (i := 2) rfl (netB_no (fun h => by have := h.2.2.2.1 i (by omega) t ht j (by omega) t ht; omega)))
              · refine wp_sk (qs_bn (qs_n (wp_sq ?_))); refine sq_v rfl (v_add rfl rfl ((by unfold I64; omega))) rfl ?_; refine sq_v rfl (v_move rfl) rfl (sq_end ?_); exact qs_bk (j + 1) ⟨by omega, step_all hcj (one_at ht (by omega))⟩ (by omega) ⟨rfl, rfl, rfl, rfl, rfl, rfl, rfl, rfl, rfl, trivial⟩ (fun _ s => s)
            · refine sq_v rfl (v_move rfl) rfl (sq_s rfl rfl (sq_s rfl rfl (sq_s rfl rfl (sq_s rfl rfl (sq_s rfl rfl (sq_s rfl rfl (sq_s rfl rfl (sq_v rfl (v_pickf rfl rfl) rfl (sq_end (qs_n (wp_cf rfl (wp_sk (qs_bn (qs_n (wp_sq ?_))))))))))))))); refine sq_v rfl (v_add rfl rfl ((by unfold I64; omega))) rfl ?_; refine sq_v rfl (v_move rfl) rfl (sq_end ?_); have hdr := dimOf_range (ts := ts.take i) (take_at (fun j' hj' t' ht' => axes_ok (tensor_axes (hten j' hj' t' ht')))) (t.l.getD j 0); exact qs_bk (j + 1) ⟨by omega, step_all hcj (one_at ht (by omega))⟩ (by omega) ⟨rfl, rfl, rfl, rfl, rfl, rfl, rfl, rfl, rfl, trivial⟩ (fun _ s => s)
          · refine wp_ex (qs_x (qs_x (qs_bx (qs_bn (qs_n (wp_sq ?_)))))); refine sq_v rfl (v_add rfl rfl ((by unfold I64; omega))) rfl ?_; refine sq_v rfl (v_move rfl) rfl (sq_end ?_); exact qs_bk (i + 1) ⟨by omega, step_all hten (one_at ht (tensorB_true.1 c30)), step_all hcons (one_at ht (fun j' hj' => hcj j' (by omega)))⟩ (by omega) ⟨rfl, rfl, rfl, rfl, trivial⟩ (fun _ s => s.pick [1, 2] (by decide) rfl)
      · refine wp_ex (qs_x (qs_x (qs_bx (qs_n (wp_sc (wp_rj 11 [(0, true), (1, true), (2, true), (3, true), (4, true), (5, true), (6, false), (7, true), (8, false), (9, true), (10, true)] mixed_ok (by kernel_rfl) (rj_v rfl rfl (v_fieldAddr fd_28_2 ty_26 (by decide) rfl) rfl (rj_v rfl rfl (v_loadB 0 ty_26 rfl rfl rfl) rfl (rj_v rfl rfl (v_fieldAddr fd_28_1 ty_25 (by decide) rfl) rfl (rj_v rfl rfl (v_loadB 0 ty_25 rfl rfl rfl) rfl (rj_v rfl rfl (v_fieldAddr fd_28_2 ty_26 (by decide) rfl) rfl (rj_v rfl rfl (v_loadB 0 ty_26 rfl rfl rfl) rfl ?_)))))))))))); have hall := all_at (fun j hj => hten j (by omega)); refine rj_x rfl rfl (x_call rfl en_59 (fun w s => ct_s_l12Dims _ _ _ _ w (r.mono (s.get 1 rfl)) (r'.mono (s.get 1 rfl)) (fun t ht => axes_ok (tensor_axes (hall t ht))) hs)) rfl ?_; rintro v64 h64 r64; refine rj_v rfl rfl (v_build [vo, v64, .slice none 0 0] rfl (by obtain ⟨_, _, rfl⟩ := r'.sl; obtain ⟨_, _, rfl⟩ := r64.toR.sl; kernel_rfl)) rfl ?_; refine rj_u rfl rfl (x_callv rfl en_96 (fun w s => ct_s_TensorSize _ _ _ _ _ w (r'.mono (s.get 2 rfl)) (r64.toR.mono (s.get 0 rfl)))) rfl (rj_v rfl rfl (v_geq rfl rfl) rfl (rj_v rfl rfl (v_assign rfl) rfl (rj_end (qs_n (wp_rt ?_))))); exact qs_ret1 rfl rfl (fin_q (i := 2) rfl (netB_dec ⟨fun h => ⟨ringB_true.1 c10, by omega, hall, fun i' hi' => hcons i' (by omega), h⟩, fun h => h.2.2.2.2⟩))
  · refine sq_v rfl (v_not rfl) rfl (sq_v rfl (v_move rfl) rfl (sq_s rfl rfl (sq_s rfl rfl (sq_s rfl rfl (sq_s rfl rfl (sq_v rfl (v_pickt rfl rfl) rfl (sq_end (qs_n (wp_ct rfl (wp_sc (wp_sq (sq_v rfl (v_assign rfl) rfl (sq_end (qs_n (wp_rt (qs_r ?_)))))))))))))))); exact qs_ret1 rfl rfl (fin_q (i := 1) rfl (netB_no (fun h => ringB_false.1 c10 h.1)))
theorem arrOf_eq {ts : List Ten} {arr op : List Int} (ha : arrInv ts arr) (hop : ∀ x ∈ op, 0 ≤ x ∧ x ≤ 99) : arrOf arr op = dimsFor ts op := by
  unfold arrOf dimsFor
  exact List.map_congr_left (fun x hx => ha.2 x (hop x hx).1 (hop x hx).2)
theorem open_at {ts : List Ten} {op : List Int} (h : 0 ≤ sizeI op (dimsFor ts op)) {j : Nat} (hj : j < op.length) : (0 ≤ op.getD j 0 ∧ op.getD j 0 ≤ 99) ∧ 1 ≤ dimOf ts (op.getD j 0) := by
  have h1 := (sizeI_ge.1 h).1.2.2 j hj; refine ⟨h1.1, ?_⟩; have h2 := h1.2.1.1
  rwa [dimsFor, map_getD hj] at h2
set_option maxHeartbeats 1000000 in
theorem ct_i_NetworkOk (k p n : Int) (ts : List Ten) (op : List Int) (vt vo : Value) (w : World) (r : TensR ts vt (hp w)) (r' : IntsR op vo (hp w)) (hs : op.length ≤ 1048576) :
    Calls Tryz.prog 26 [netV k p n vt vo].toArray w (RetV w (.bool (netB k p n ts op))) := by
  have hx := r.le; obtain ⟨cells, rr, hc⟩ := r.at; refine calls_in Tryz.func26 rfl Tryz.ntmps26 rfl (Sat.start w) (wp_sc (wp_sq ?_)); refine sq_x rfl (x_box rfl rfl) rfl ?_; rintro _ _ ⟨b1, rfl, rfl⟩; refine sq_v rfl (v_assign rfl) rfl (sq_end (qs_n (wp_sc (wp_sc (wp_sq (sq_v rfl (v_fieldAddr fd_28_0 ty_24 (by decide) rfl) rfl (sq_v rfl (v_loadNB 0 ty_24 rfl rfl rfl rfl) rfl (sq_u rfl (x_callv rfl en_51 (fun w s => ct_i_RingOk _ _ _ w)) rfl ?_)))))))); refine sq_bb 11 rfl (fun c11 => ?_) (fun c11 => ?_)
  · refine sq_v rfl (v_not rfl) rfl (sq_v rfl (v_move rfl) rfl (sq_v rfl (v_fieldAddr fd_28_1 ty_25 (by decide) rfl) rfl (sq_v rfl (v_loadB 0 ty_25 rfl rfl rfl) rfl (sq_v rfl (v_len Tryz.underlying25 rfl r.sl) rfl (sq_v rfl (v_gtr rfl rfl) rfl (sq_v rfl (v_pickf rfl rfl) rfl ?_)))))); refine sq_bd 18 rfl (fun c18 => ?_) (fun c18 => ?_)
    · refine sq_v rfl (v_move rfl) rfl (sq_s rfl rfl (sq_s rfl rfl (sq_s rfl rfl (sq_s rfl rfl (sq_v rfl (v_pickt rfl rfl) rfl (sq_end (qs_n (wp_ct rfl (wp_sc (wp_sq (sq_v rfl (v_assign rfl) rfl (sq_end (qs_n (wp_rt (qs_r ?_))))))))))))))); exact qs_ret1 rfl rfl (fin_q (i := 1) rfl (netB_no (fun h => by have := h.2.1; omega)))
    · refine sq_v rfl (v_move rfl) rfl (sq_v rfl (v_fieldAddr fd_28_2 ty_26 (by decide) rfl) rfl (sq_v rfl (v_loadB 0 ty_26 rfl rfl rfl) rfl (sq_v rfl (v_len Tryz.underlying26 rfl r'.sl) rfl (sq_v rfl (v_gtr rfl rfl) rfl (sq_v rfl (v_pickf rfl rfl) rfl (sq_end (qs_n ?_))))))); refine wp_cd rfl (fun c24 => ?_) (fun c24 => ?_)
      · refine wp_sc (wp_sq (sq_v rfl (v_assign rfl) rfl (sq_end (qs_n (wp_rt (qs_r ?_)))))); exact qs_ret1 rfl rfl (fin_q (i := 1) rfl (netB_no (fun h => by have := (sizeI_ge.1 h.2.2.2.2).1.1; omega)))
      · refine wp_sk (qs_n (wp_sc (wp_sc (wp_sq (sq_v rfl (v_fieldAddr fd_28_1 ty_25 (by decide) rfl) rfl (sq_v rfl (v_loadB 0 ty_25 rfl rfl rfl) rfl (sq_v rfl (v_len Tryz.underlying25 rfl r.sl) rfl (sq_v rfl (v_move rfl) rfl (sq_end (qs_n (wp_bl (wp_lp (fun i : Nat => [(1, .pointer (some ⟨b1, 0, none⟩)), (26, vt), (27, num ts.length), (28, num i)]) (fun _ => [box b1 [num k, num p, num n, vt, vo] 28, hp w]) (fun i => i ≤ ts.length ∧ (∀ j, j < i → ∀ t, ts[j]? = some t → tensorL k p n t.l t.d t.x)) (fun i => ts.length - i) 0 ⟨by omega, fun j hj => by omega⟩ ⟨rfl, rfl, rfl, rfl, trivial⟩ (fun _ s => s) ?_)))))))))))); rintro i ⟨hi, hten⟩; refine wp_sc (wp_sq (sq_v rfl (v_lss rfl rfl) rfl (sq_end (qs_n (wp_sc ?_))))); refine wp_cd rfl (fun c29 => ?_) (fun c29 => ?_)
        · refine wp_sk (qs_n (wp_sc (wp_bl (wp_sc (wp_sq ?_))))); obtain ⟨t, a, b, c, ht, hcs, r1, r2, r3⟩ := hc i (by omega); refine sq_v rfl (v_indexAddr Tryz.underlying25 ty_40 rfl rfl rr (by decide) (by omega) (by omega)) rfl ?_; refine sq_v rfl (v_loadNE 1 ty_40 rfl rfl rr (by have := rr.1; omega) rfl hcs) rfl ?_; refine sq_x rfl (x_alloc ty_40 rfl) rfl ?_; rintro _ _ ⟨b4, rfl, rfl⟩; refine sq_m 0 rfl rfl (m_store 0 ty_40 rfl rfl rfl rfl (by simp [r1.sl.one, r2.sl.one, r3.sl.one]) rfl (Nat.le_of_ble_eq_true rfl)) rfl ?_; rintro _ _ ⟨rfl, rfl⟩; refine sq_end (qs_n (wp_sc (wp_sq (sq_v rfl (v_fieldAddr fd_28_0 ty_24 (by decide) rfl) rfl (sq_v rfl (v_loadNB 1 ty_24 rfl rfl rfl rfl) rfl (sq_v rfl (v_loadNB 0 ty_40 rfl rfl rfl rfl) rfl (sq_u rfl (x_callv rfl en_34 (fun w s => ct_i_TensorOk _ _ _ _ _ _ _ _ _ w (r1.mono (s.get 2 rfl)) (r2.mono (s.get 2 rfl)) (r3.mono (s.get 2 rfl)))) rfl (sq_v rfl (v_not rfl) rfl (sq_end (qs_n ?_)))))))))); refine wp_cn _ rfl (fun c36 => ?_) (fun c36 => ?_)
          · refine wp_sc (wp_sq (sq_v rfl (v_assign rfl) rfl (sq_end (qs_n (wp_rt (qs_br (qs_r (qs_r (qs_br (qs_r ?_)))))))))); exact qs_ret1 rfl rfl (fin_q (i := 2) rfl (netB_no (fun h => tensorB_false.1 c36 (h.2.2.1 t (List.mem_of_getElem? ht)))))
          · refine wp_sk (qs_bn (qs_n (wp_sq ?_))); refine sq_v rfl (v_add rfl rfl ((by unfold I64; omega))) rfl ?_; refine sq_v rfl (v_move rfl) rfl (sq_end ?_); exact qs_bk (i + 1) ⟨by omega, step_all hten (one_at ht (tensorB_true.1 c36))⟩ (by omega) ⟨rfl, rfl, rfl, rfl, trivial⟩ (fun _ s => s.pick [1, 2] (by decide) rfl)
        · refine wp_ex (qs_x (qs_x (qs_bx (qs_n (wp_sc (wp_sq (sq_v rfl (v_fieldAddr fd_28_1 ty_25 (by decide) rfl) rfl (sq_v rfl (v_loadB 0 ty_25 rfl rfl rfl) rfl ?_)))))))); have hall := all_at (fun j hj => hten j (by omega)); refine sq_x rfl (x_call rfl en_27 (fun w s => ct_i_dimsOf _ _ w (r.mono (s.get 1 rfl)) (fun t ht => tensor_axes (hall t ht)))) rfl ?_; rintro _ h41 ⟨arr, ok, rfl, hal, hok, hav⟩; refine sq_v rfl (v_move rfl) rfl (sq_v rfl (v_extract rfl rfl) rfl (sq_v rfl (v_extract rfl rfl) rfl ?_)); refine sq_x rfl (x_alloc ty_60 rfl) rfl ?_; rintro _ _ ⟨b5, rfl, rfl⟩; refine sq_m 0 rfl rfl (m_storeW 0 ty_60 rfl rfl rfl (by rw [ints_length]; exact hal) (ints_one arr) rfl (by simp)) rfl ?_; rintro _ _ ⟨rfl, rfl⟩; refine sq_v rfl (v_assign rfl) rfl (sq_end (qs_n (wp_sc (wp_sc (wp_sq (sq_v rfl (v_move rfl) rfl (sq_v rfl (v_not rfl) rfl (sq_end (qs_n ?_))))))))); refine wp_cn _ rfl (fun c45 => ?_) (fun c45 => ?_)
          · refine wp_sc (wp_sq (sq_v rfl (v_assign rfl) rfl (sq_end (qs_n (wp_rt (qs_r ?_)))))); exact qs_ret1 rfl rfl (fin_q (i := 3) rfl (netB_no (fun h => by have := hok.2 h.2.2.2.1; rw [c45] at this; cases this)))
          · refine wp_sk (qs_n (wp_sc (wp_sc (wp_sq (sq_v rfl (v_fieldAddr fd_28_2 ty_26 (by decide) rfl) rfl (sq_v rfl (v_loadB 2 ty_26 rfl rfl rfl) rfl (sq_v rfl (v_len Tryz.underlying26 rfl r'.sl) rfl (sq_v rfl (v_move rfl) rfl (sq_end (qs_n (wp_bl (wp_lp (fun j : Nat => [(1, .pointer (some ⟨b1, 0, none⟩)), (5, .pointer (some ⟨b5, 0, none⟩)), (47, vo), (48, num op.length), (49, num j)]) (fun _ => [box b5 (ints arr) 60, box b1 [num k, num p, num n, vt, vo] 28, hp w]) (fun j => j ≤ op.length ∧ ∀ j', j' < j → 0 ≤ op.getD j' 0 ∧ op.getD j' 0 ≤ 99) (fun j => op.length - j) 0 ⟨by omega, fun j hj => by omega⟩ ⟨rfl, rfl, rfl, rfl, rfl, trivial⟩ (fun _ s => s.pick [0, 2, 3] (by decide) rfl) ?_)))))))))))); rintro j ⟨hj, hjo⟩; have hinv := hav c45; have hxo := r'.le; refine wp_sc (wp_sq (sq_v rfl (v_lss rfl rfl) rfl (sq_end (qs_n (wp_sc ?_))))); refine wp_cd rfl (fun c50 => ?_) (fun c50 => ?_)
            · refine wp_sk (qs_n (wp_sc (wp_bl (wp_sc (wp_sq (sq_v rfl (v_idxI Tryz.underlying26 ty_3 rfl rfl r' (by omega) (by omega)) rfl (sq_v rfl (v_loadI (k := j) 2 ty_3 rfl rfl r' (by omega)) rfl (sq_v rfl (v_assign rfl) rfl (sq_end (qs_n (wp_sc (wp_sq (sq_v rfl (v_move rfl) rfl (sq_v rfl (v_lss rfl rfl) rfl ?_)))))))))))))); refine sq_bd 54 rfl (fun c54 => ?_) (fun c54 => ?_)
              · refine sq_v rfl (v_move rfl) rfl (sq_s rfl rfl (sq_s rfl rfl (sq_v rfl (v_pickt rfl rfl) rfl (sq_v rfl (v_move rfl) rfl (sq_s rfl rfl (sq_s rfl rfl (sq_s rfl rfl (sq_s rfl rfl (sq_v rfl (v_pickt rfl rfl) rfl (sq_end (qs_n ?_))))))))))); refine wp_ct rfl (wp_sc (wp_sq (sq_v rfl (v_assign rfl) rfl (sq_end (qs_n (wp_rt (qs_br (qs_r (qs_r (qs_br (qs_r ?_))))))))))); exact qs_ret1 rfl rfl (fin_q (i := 2) rfl (netB_no (fun h => by have := open_at h.2.2.2.2 (j := j) (by omega); omega)))
              · refine sq_v rfl (v_move rfl) rfl (sq_v rfl (v_move rfl) rfl (sq_v rfl (v_gtr rfl rfl) rfl (sq_v rfl (v_pickf rfl rfl) rfl ?_))); refine sq_bd 58 rfl (fun c58 => ?_) (fun c58 => ?_)
                · refine sq_v rfl (v_move rfl) rfl (sq_s rfl rfl (sq_s rfl rfl (sq_s rfl rfl (sq_s rfl rfl (sq_v rfl (v_pickt rfl rfl) rfl (sq_end (qs_n (wp_ct rfl (wp_sc (wp_sq (sq_v rfl (v_assign rfl) rfl (sq_end (qs_n (wp_rt (qs_br (qs_r (qs_r (qs_br (qs_r ?_))))))))))))))))))); exact qs_ret1 rfl rfl (fin_q (i := 2) rfl (netB_no (fun h => by have := open_at h.2.2.2.2 (j := j) (by omega); omega)))
                · refine sq_v rfl (v_move rfl) rfl (sq_v rfl (v_move rfl) rfl (sq_v rfl (v_indexAddrA Tryz.underlying60 ty_3 rfl rfl (by omega) (by omega)) rfl (sq_v rfl (v_loadB 0 ty_3 rfl rfl (aget (k := (op.getD j 0).toNat) (by omega) rfl)) rfl (sq_v rfl (v_eql rfl rfl) rfl (sq_v rfl (v_pickf rfl rfl) rfl (sq_end (qs_n ?_))))))); refine wp_cd rfl (fun c64 => ?_) (fun c64 => ?_)
                  · refine wp_sc (wp_sq (sq_v rfl (v_assign rfl) rfl (sq_end (qs_n (wp_rt (qs_br (qs_r (qs_r (qs_br (qs_r ?_)))))))))); exact qs_ret1 rfl rfl (fin_q (i := 2) rfl (netB_no (fun h => by have := open_at h.2.2.2.2 (j := j) (by omega); rw [hinv.2 _ (by omega) (by omega)] at c64; omega)))
                  · refine wp_sk (qs_bn (qs_n (wp_sq ?_))); refine sq_v rfl (v_add rfl rfl ((by unfold I64; omega))) rfl ?_; refine sq_v rfl (v_move rfl) rfl (sq_end ?_); exact qs_bk (j + 1) ⟨by omega, step_all hjo (by omega)⟩ (by omega) ⟨rfl, rfl, rfl, rfl, rfl, trivial⟩ (fun _ s => s)
            · refine wp_ex (qs_x (qs_x (qs_bx (qs_n (wp_sc (wp_sq ?_)))))); have hop : ∀ x ∈ op, 0 ≤ x ∧ x ≤ 99 := all_of (fun j' hj' => hjo j' (by omega)); refine sq_v rfl (v_loadNB 0 ty_60 rfl rfl (by rw [ints_length]; exact hal) (by rw [List.drop_zero, List.take_of_length_le]; rw [ints_length, hal]; omega)) rfl ?_; refine sq_v rfl (v_fieldAddr fd_28_2 ty_26 (by decide) rfl) rfl (sq_v rfl (v_loadB 1 ty_26 rfl rfl rfl) rfl ?_); refine sq_x rfl (x_call rfl en_53 (fun w s => ct_i_axesOf _ _ _ w (r'.mono (s.get 2 rfl)) hal hop hs)) rfl ?_; rintro _ h69 ⟨u1, u2, rfl, ru1, ru2⟩; refine sq_u rfl (x_callv rfl en_52 (fun w s => ct_i_TensorSize _ _ _ _ _ w (ru1.mono (s.get 0 rfl)) (ru2.mono (s.get 0 rfl)))) rfl (sq_v rfl (v_neq rfl rfl) rfl (sq_v rfl (v_assign rfl) rfl (sq_end (qs_n (wp_rt ?_))))); exact qs_ret1 rfl rfl (fin_q (i := 3) rfl (netB_dec (by rw [arrOf_eq hinv hop]; exact ⟨fun h => ⟨ringB_true.1 c11, by omega, all_at (fun j' hj' => hten j' (by omega)), hok.1 c45, by have := sizeI_range op (dimsFor ts op); omega⟩, fun h => by have := h.2.2.2.2; omega⟩)))
  · refine sq_v rfl (v_not rfl) rfl (sq_v rfl (v_move rfl) rfl (sq_s rfl rfl (sq_s rfl rfl (sq_s rfl rfl (sq_s rfl rfl (sq_v rfl (v_pickt rfl rfl) rfl (sq_v rfl (v_move rfl) rfl (sq_s rfl rfl (sq_s rfl rfl ?_))))))))); refine sq_s rfl rfl (sq_s rfl rfl (sq_v rfl (v_pickt rfl rfl) rfl (sq_end (qs_n (wp_ct rfl (wp_sc (wp_sq (sq_v rfl (v_assign rfl) rfl (sq_end (qs_n (wp_rt (qs_r ?_)))))))))))); exact qs_ret1 rfl rfl (fin_q (i := 1) rfl (netB_no (fun h => ringB_false.1 c11 h.1)))
end Go.Proofs.YtdkgaejmgnojhaaGreat
namespace Go.Proofs.YtdkgaejmgnojhaaGreat
set_option maxRecDepth 100000
open Go.RowKit
theorem sub_get {cs us : List Value} {k n : Nat} (h : (cs.drop k).take n = us) {j : Nat} {u : Value} (hj : us[j]? = some u) : cs[k + j]? = some u := by
  rw [← h, List.getElem?_take] at hj
  split at hj
  · rwa [List.getElem?_drop] at hj
  · cases hj
theorem eltP_sub {cs : List Value} {m : Nat} {v : Value} {h : PH} (r : RowR cs m 1 v h) {lo hi k : Nat} (h1 : lo + k < hi) (h2 : hi ≤ m) : eltP (subV v lo hi 1) k = eltP v (lo + k) := by
  obtain ⟨hl, a, c, rfl, ⟨_, h3⟩, h4⟩ := r; obtain ⟨b, o, rfl, _⟩ := h4 (by omega); have e : ¬ c = lo := by omega
  simp [subV, sliced, e, eltP, add_at, Nat.add_assoc]
section
variable {P : Program} {n : Nat} {w0 : World} {K : Env} {HS : List PH} {d : Option Tmp} {ty : TypeId} {ps : String} {af : Array Edge} {g : Option (Nat × Bool)}
/-- A store of an integer into a part of a slice of the call's own. -/
theorem m_storeSub {t : TypeId} {x y : Operand} {z : Value} {bytes : Nat} {agg : Bool} {lo hi k : Nat} {sv : Value} {a : Int} {xs : List Int} {h : PH} (p : Nat) (ht : TyF P t z 1 bytes agg) (hx : ev K x = some (eltP (subV sv lo hi 1) k)) (hy : ev K y = some (num a))
    (hp' : HS[p]? = some h) (r : IntsO xs sv h) (h1 : lo + k < hi) (h2 : hi ≤ xs.length) :
    StepX P n w0 K HS ⟨d, .store t x y, ty, ps, af, g⟩ h (fun v' h' => v' = undef ∧ IntsO (xs.set (lo + k) a) sv h') :=
  m_storeI p ht (by rw [hx, eltP_sub r.toR h1 h2]) hy hp' r (by omega)
/-- 'clear(s)' on a slice of integers of the call's own. -/
theorem m_clearI {t : TypeId} {x : Operand} {xs : List Int} {bytes : Nat} {v : Value} {h : PH} (p : Nat) (ht : P.underlying t = some (.slice 3)) (he : TyF P 3 (num 0) 1 bytes false) (hx : ev K x = some v) (hp' : HS[p]? = some h) (r : IntsO xs v h) :
    StepX P n w0 K HS ⟨d, .call ⟨.builtin .clear, #[x], #[t]⟩, ty, ps, af, g⟩ h (fun _ h' => IntsO (List.replicate xs.length 0) v h') :=
  stepx_run fun a w e s => by
    obtain ⟨i, hi, hz', hsz, hb⟩ := he.get; have hle := s.get p hp'; obtain ⟨hcl, hr⟩ := r; have ex : ∀ v' w', (Builtin.clear_ #[t] ty #[v]).run P w = .ok v' w' → (execOp a.eval ⟨d, .call ⟨.builtin .clear, #[x], #[t]⟩, ty, ps, af, g⟩).run P w = .ok (.value v') w' := fun v' w' hr => by
      simp [execOp, resolve, invoke, builtin, e.ev hx, hr]
    rcases hr with ⟨rfl, h0, rfl⟩ | ⟨gb, cap, cur, rfl, rfl, h3, h4, h5, h6⟩
    · have hx0 : xs = [] := List.eq_nil_of_length_eq_zero (by simpa using h0); subst hx0; exact ⟨.tuple #[], w, emp, ex _ _ (by simp [Builtin.clear_, run_underlying ht]), Upd.refl w, IntsO.nil⟩
    · by_cases h0 : xs.length = 0
      · have hx0 : xs = [] := List.eq_nil_of_length_eq_zero h0; subst hx0; exact ⟨.tuple #[], w, _, ex _ _ (by simp [Builtin.clear_, run_underlying ht]), ⟨rfl, rfl, rfl, Nat.le_refl _, fun _ _ _ => rfl, hle, fun j o ho => .inl (by rw [ho]; simp)⟩, rfl, .inr ⟨gb, cap, cur, rfl, rfl, h3, h4, h5, h6⟩⟩
      · have hgb : w.heap[gb]? = some (.cells cur.toArray 3 (0, 0)) := hle gb _ (by simp [box]); have hz : (Builtin.zeroCells (num 0).cells xs.length).toList = ints (List.replicate xs.length 0) := by
          have := madeCells_toList [num 0] xs.length; have e1 : (List.replicate xs.length [num 0]).flatten = ints (List.replicate xs.length 0) := by
            rw [List.flatten_replicate_singleton]; simp [ints]
          rw [← e1, ← this]
          rfl
        have hst := run_storeCells_at P gb 0 3 (ints (List.replicate xs.length 0)) 0 cur.toArray w hgb (by simp [ints]; omega) (ints_one _); simp only [Nat.add_zero] at hst; refine ⟨.tuple #[], w.setRow gb (cur.take 0 ++ ints (List.replicate xs.length 0) ++ cur.drop (0 + (ints (List.replicate xs.length 0)).length)).toArray, _, ex _ _ ?_, upd_setRow hle _, by simp [ints], .inr ⟨gb, cap, _, by rw [List.length_replicate], rfl, by simpa using h3, h4, ?_, ?_⟩⟩
        · rw [show Builtin.clear_ #[t] ty #[.slice (some ⟨gb, 0, none⟩) xs.length cap] = (do
              match ← underlying t, (Value.slice (some ⟨gb, 0, none⟩) xs.length cap) with
              | _, .map none | _, .slice none _ _ | _, .slice _ 0 _ => pure ()
              | _, .map (some r) =>
                let .map _ clock ← getObj r | stuck "clear: map expected"
                setObj r (.map #[] clock)
              | .slice elem, .slice (some a) n _ => storeCells a (Builtin.zeroCells (← zeroValue elem).cells n).toList
              | _, _ => stuck "clear: map or slice expected"
              pure (.tuple #[])) from rfl]
          obtain ⟨m, hm⟩ : ∃ m, xs.length = m + 1 := ⟨xs.length - 1, by omega⟩
          rw [hm] at hz hst ⊢; simp only [Sem.run_bind, run_underlying ht, Result.andThen_ok, run_zero he, hz, hst, Sem.run_pure]
        · simp only [ints_length, List.length_replicate, List.length_append, List.length_take, List.length_drop]; omega
        · simp only [ints_length, List.length_replicate, Nat.mul_one, List.take_zero, List.nil_append]; rw [List.take_append_of_le_length (by simp [ints])]; exact List.take_of_length_le (by simp [ints])
end
theorem ksub {K : Env} {t : Nat} {a b : Int} (h : K.lookup t = some (num a)) (e : a = b) : K.lookup t = some (num b) := e ▸ h
/-- A part beside another. -/
theorem Sat.getR {w0 w : World} {HS : List PH} (s : Sat w0 HS w) (i j : Nat) {h q : PH} (hi : HS[i]? = some h) (hj : HS[j]? = some q) (hne : decide (i ≠ j) = true) : PLe q (restP w h) := fun k o e => by
  have h1 := s.get j hj k o e
  rcases sepL_get s.sep hi hj (of_decide_eq_true hne) k with h2 | h2
  · simp only [restP, h2]; exact h1
  · rw [h2] at e; cases e
section
variable {P : Program} {n : Nat} {w0 : World} {K : Env} {HS : List PH} {d : Option Tmp} {ty : TypeId} {ps : String} {af : Array Edge} {g : Option (Nat × Bool)}
theorem x_make0I {t : TypeId} {x y : Operand} {bytes : Nat} {m : Int} (ht : P.underlying t = some (.slice 3)) (he : TyF P 3 (num 0) 1 bytes false)
    (hx : ev K x = some (.int .i64 0)) (hy : ev K y = some (.int .i64 m)) (h0 : 0 ≤ m) (h1 : bytes * m ≤ 281474976710656) (h2 : m ≤ 9223372036854775807) :
    StepX P n w0 K HS ⟨d, .makeSlice t x y, ty, ps, af, g⟩ emp (IntsO []) :=
  x_make0 ht he (zs := [num 0]) rfl rfl hx hy h0 h1 h2
end
section
variable {P : Program} {n : Nat} {w0 : World} {K : Env} {HS : List PH} {Q : Exit → Act → World → Prop}
end
end Go.Proofs.YtdkgaejmgnojhaaGreat
