/-
  Parts of the proof of FnExactContract: laws of heaps, contracts of functions.
  Conditions: none.
-/
import Derived.Test.YtehjljijionhaaaGreatQContract6
namespace Go.Proofs.YtehjljijionhaaaGreat
set_option maxRecDepth 100000
open Go.RowKit
def digI (ds : List Int) (n : Int) (i : Nat) : Int := n / prodI (ds.drop (i + 1)) % ds.getD i 0
def idxL (ds : List Int) (n : Int) : List Int := (List.range ds.length).map fun i => digI ds n i
theorem idxL_len (ds : List Int) (n : Int) : (idxL ds n).length = ds.length := by simp [idxL]
theorem idxL_get {ds : List Int} {n : Int} {i : Nat} (h : i < ds.length) : (idxL ds n).getD i 0 = digI ds n i := by simp [idxL, List.getD, h]
theorem idxL_zero (ds : List Int) : idxL ds 0 = List.replicate ds.length 0 := by
  apply ext_getD (by simp [idxL_len])
  intro j hj
  rw [idxL_len] at hj
  rw [idxL_get hj, rep_getD]
  simp [digI]
theorem idxL_in {ds : List Int} (hd : ∀ d ∈ ds, 1 ≤ d) (n : Int) : idxIn ds (idxL ds n) := ⟨idxL_len ds n, fun j hj => by
  rw [idxL_get hj]
  have := hd _ (mem_getD hj)
  exact ⟨Int.emod_nonneg _ (by omega), Int.emod_lt_of_pos _ (by omega)⟩⟩
theorem prod_at {ds : List Int} {i : Nat} (h : i < ds.length) : prodI (ds.drop i) = prodI (ds.drop (i + 1)) * ds.getD i 0 := by
  rw [drop_cons h, prodI_cons, Int.mul_comm]
theorem div_at {ds : List Int} (hd : ∀ d ∈ ds, 1 ≤ d) (n : Int) {i : Nat} (h : i < ds.length) : n / prodI (ds.drop i) = n / prodI (ds.drop (i + 1)) / ds.getD i 0 := by
  rw [prod_at h, ← Int.ediv_ediv_of_nonneg (by have := (prodI_drop hd (i + 1)).1; omega)]
theorem mix_down {A B : List Int} {k : Nat} (h : A.length = B.length) (hk : k < A.length) : (mixL A B (k + 1)).set k (B.getD k 0) = mixL A B k := by
  apply ext_getD
  · rw [List.length_set, mix_len h (by omega), mix_len h (by omega)]
  · intro j hj
    rw [List.length_set, mix_len h (by omega)] at hj
    by_cases e : j = k
    · subst e
      rw [mix_get (by omega) (Nat.le_refl _)]
      simp only [List.getD]; rw [List.getElem?_set_self (by rw [mix_len h (by omega)]; omega)]; rfl
    · have hs : ((mixL A B (k + 1)).set k (B.getD k 0)).getD j 0 = (mixL A B (k + 1)).getD j 0 := by simp only [List.getD]; rw [List.getElem?_set_ne (by omega)]
      rw [hs]
      by_cases hj2 : k ≤ j
      · rw [mix_get (by omega) (by omega), mix_get (by omega) hj2]
      · simp only [mixL, List.getD]
        rw [List.getElem?_append_left (by simp; omega), List.getElem?_append_left (by simp; omega), List.getElem?_take, List.getElem?_take, if_pos (by omega), if_pos (by omega)]
theorem mix_low {A B : List Int} {k j : Nat} (hk : k ≤ A.length) (hj : j < k) : (mixL A B k).getD j 0 = A.getD j 0 := by
  simp only [mixL, List.getD]
  rw [List.getElem?_append_left (by simp; omega), List.getElem?_take, if_pos hj]
theorem mix_full {A B : List Int} {k : Nat} (h : A.length = B.length) (hk : k ≤ A.length) (e : ∀ j, j < k → A.getD j 0 = B.getD j 0) : mixL A B k = B := by
  apply ext_getD (by rw [mix_len h hk, h])
  intro j hj
  rw [mix_len h hk] at hj
  by_cases hjk : j < k
  · rw [mix_low hk hjk, e j hjk]
  · rw [mix_get hk (by omega)]
set_option maxHeartbeats 1000000 in
theorem ct_s_l05Index (ds : List Int) (n : Int) (v : Value) (w : World) (r : IntsR ds v (hp w)) (hd : ∀ d ∈ ds, 1 ≤ d ∧ d ≤ 8) (hn : 0 ≤ n ∧ n ≤ 1000000000000) (hl : ds.length ≤ 1000000) :
    Calls Tryz.prog 155 [v, num n].toArray w (Ret w emp (IntsO (idxL ds n))) := by
  have hd1 : ∀ d ∈ ds, 1 ≤ d := fun d h => (hd d h).1
  have hil := idxL_len ds n
  refine calls_in Tryz.func155 rfl Tryz.ntmps155 rfl (Sat.start w) ?_
  have hle0 := r.le
  refine wp_sc ?_
  refine wp_sq ?_
  refine sq_v rfl (v_assign rfl) rfl ?_
  refine sq_end ?_
  refine qs_n ?_
  refine wp_sc ?_
  refine wp_sq ?_
  refine sq_v rfl (v_move rfl) rfl ?_
  refine sq_v rfl (v_len Tryz.underlying25 rfl r.sl) rfl ?_
  refine sq_x rfl (x_makeI Tryz.underlying25 ty_3 rfl rfl (by first | omega | (simp only [List.length_cons, List.length_nil]; omega) | (simp only [List.length_append, List.length_cons, List.length_nil]; omega) | (rw [List.length_set]; omega) | (rw [List.length_replicate]; omega) | (simp; omega)) (by first | omega | (simp only [List.length_cons, List.length_nil]; omega) | (simp only [List.length_append, List.length_cons, List.length_nil]; omega) | (rw [List.length_set]; omega) | (rw [List.length_replicate]; omega) | (simp; omega)) (by first | omega | (simp only [List.length_cons, List.length_nil]; omega) | (simp only [List.length_append, List.length_cons, List.length_nil]; omega) | (rw [List.length_set]; omega) | (rw [List.length_replicate]; omega) | (simp; omega))) rfl ?_; intro v9 h9 r9
  refine sq_v rfl (v_assign rfl) rfl ?_
  refine sq_end ?_
  refine qs_n ?_
  refine wp_sc ?_
  refine wp_sc ?_
  refine wp_sq ?_
  refine sq_v rfl (v_move rfl) rfl ?_
  refine sq_v rfl (v_len Tryz.underlying25 rfl r.sl) rfl ?_
  refine sq_v rfl (v_sub rfl rfl ((by unfold I64; omega))) rfl ?_
  refine sq_v rfl (v_assign rfl) rfl ?_
  refine sq_end ?_
  refine qs_n ?_
  refine wp_bl ?_
  refine wp_lp (σ := Nat × Int × PH) (fun z_ => [(0, v), (1, num z_.2.1), (4, .slice none 0 0), (5, v9), (6, num ((z_.1 : Int) - 1))]) (fun z_ => [z_.2.2, hp w]) (fun z_ => z_.1 ≤ ds.length ∧ z_.2.1 = n / prodI (ds.drop z_.1) ∧ IntsO (mixL (List.replicate ds.length 0) (idxL ds n) z_.1) v9 z_.2.2) (fun z_ => z_.1) (ds.length, n, h9) (⟨by (try dsimp only); omega, by (try dsimp only); simp [prodI], by (try dsimp only); rw [mix_end (by simp [idxL_len]) (by simp)]; simpa using r9⟩) ⟨rfl, (by first | rfl | exact ksub rfl (by first | omega | (simp; done) | (simp; omega))), rfl, rfl, (by first | rfl | exact ksub rfl (by first | omega | (simp; done) | (simp; omega))), trivial⟩ (fun _ s => s) ?_
  rintro ⟨m, q, g⟩ ⟨hm, hq, q9⟩
  dsimp only at hm hq q9 ⊢
  have hle_q9 := q9.toR.le
  have hpd := (prodI_drop hd1 m).1
  have hq0 : 0 ≤ q ∧ q ≤ n := by rw [hq]; exact ⟨Int.ediv_nonneg hn.1 (by omega), Int.ediv_le_self _ hn.1⟩
  have hml : (mixL (List.replicate ds.length 0) (idxL ds n) m).length = ds.length := by rw [mix_len (by simp [idxL_len]) (by simp; omega)]; simp
  have em : ((m : Int) - 1).toNat = m - 1 := by omega
  refine wp_sc ?_
  refine wp_sc ?_
  refine wp_sq ?_
  refine sq_v rfl (v_move rfl) rfl ?_
  refine sq_v rfl (v_geq rfl rfl) rfl ?_
  refine sq_end ?_
  refine qs_n ?_
  refine wp_cd rfl (fun c14 => ?_) (fun c14 => ?_)
  · refine wp_sk ?_
    refine qs_n ?_
    refine wp_sc ?_
    refine wp_bl ?_
    refine wp_sc ?_
    refine wp_sq ?_
    refine sq_v rfl (v_move rfl) rfl ?_
    refine sq_v rfl (v_move rfl) rfl ?_
    refine sq_v rfl (v_move rfl) rfl ?_
    refine sq_v rfl (v_move rfl) rfl ?_
    refine sq_v rfl (v_move rfl) rfl ?_
    refine sq_v rfl (v_idxI Tryz.underlying25 ty_3 rfl rfl r (by first | omega | (simp only [List.length_cons, List.length_nil]; omega) | (simp only [List.length_append, List.length_cons, List.length_nil]; omega) | (rw [List.length_set]; omega) | (rw [List.length_replicate]; omega) | (simp; omega)) (by first | omega | (simp only [List.length_cons, List.length_nil]; omega) | (simp only [List.length_append, List.length_cons, List.length_nil]; omega) | (rw [List.length_set]; omega) | (rw [List.length_replicate]; omega) | (simp; omega))) rfl ?_
    refine sq_v rfl (v_loadI  1 ty_3 rfl rfl r (by first | omega | (simp only [List.length_cons, List.length_nil]; omega) | (simp only [List.length_append, List.length_cons, List.length_nil]; omega) | (rw [List.length_set]; omega) | (rw [List.length_replicate]; omega) | (simp; omega))) rfl ?_
    have hdm := hd _ (mem_getD (show ((m : Int) - 1).toNat < ds.length by omega))
    refine sq_v rfl (v_rem rfl rfl (by omega)) rfl ?_
    refine sq_v rfl (v_idxI Tryz.underlying25 ty_3 rfl rfl q9.toR (by first | omega | (simp only [List.length_cons, List.length_nil]; omega) | (simp only [List.length_append, List.length_cons, List.length_nil]; omega) | (rw [List.length_set]; omega) | (rw [List.length_replicate]; omega) | (simp; omega)) (by first | omega | (simp only [List.length_cons, List.length_nil]; omega) | (simp only [List.length_append, List.length_cons, List.length_nil]; omega) | (rw [List.length_set]; omega) | (rw [List.length_replicate]; omega) | (simp; omega))) rfl ?_
    refine sq_m 0 rfl rfl (m_storeI 0 ty_3 rfl rfl rfl q9 (by first | omega | (simp only [List.length_cons, List.length_nil]; omega) | (simp only [List.length_append, List.length_cons, List.length_nil]; omega) | (rw [List.length_set]; omega) | (rw [List.length_replicate]; omega) | (simp; omega))) rfl ?_; rintro _ h_q5_9 ⟨rfl, q5_9⟩
    refine sq_end ?_
    refine qs_n ?_
    refine wp_sq ?_
    refine sq_v rfl (v_move rfl) rfl ?_
    refine sq_v rfl (v_move rfl) rfl ?_
    refine sq_v rfl (v_move rfl) rfl ?_
    refine sq_v rfl (v_idxI Tryz.underlying25 ty_3 rfl rfl r (by first | omega | (simp only [List.length_cons, List.length_nil]; omega) | (simp only [List.length_append, List.length_cons, List.length_nil]; omega) | (rw [List.length_set]; omega) | (rw [List.length_replicate]; omega) | (simp; omega)) (by first | omega | (simp only [List.length_cons, List.length_nil]; omega) | (simp only [List.length_append, List.length_cons, List.length_nil]; omega) | (rw [List.length_set]; omega) | (rw [List.length_replicate]; omega) | (simp; omega))) rfl ?_
    refine sq_v rfl (v_loadI  1 ty_3 rfl rfl r (by first | omega | (simp only [List.length_cons, List.length_nil]; omega) | (simp only [List.length_append, List.length_cons, List.length_nil]; omega) | (rw [List.length_set]; omega) | (rw [List.length_replicate]; omega) | (simp; omega))) rfl ?_
    have hqq : q.tdiv (ds.getD ((m : Int) - 1).toNat 0) = n / prodI (ds.drop (m - 1)) := (by rw [em, Int.tdiv_eq_ediv_of_nonneg hq0.1, div_at hd1 n (show m - 1 < ds.length by omega), hq, show m - 1 + 1 = m by omega]); have hq1 := (prodI_drop hd1 (m - 1)).1; have hq2 : 0 ≤ n / prodI (ds.drop (m - 1)) ∧ n / prodI (ds.drop (m - 1)) ≤ n := ⟨Int.ediv_nonneg hn.1 (by omega), Int.ediv_le_self _ hn.1⟩
    refine sq_v rfl (v_quo rfl rfl (by omega) (by unfold I64; omega)) rfl ?_
    refine sq_v rfl (v_assign rfl) rfl ?_
    refine sq_end ?_
    have hrr : q.tmod (ds.getD (m - 1) 0) = (idxL ds n).getD (m - 1) 0 := by rw [Int.tmod_eq_emod_of_nonneg hq0.1, idxL_get (by omega), digI, hq, show m - 1 + 1 = m by omega]
    have e := mix_down (A := List.replicate ds.length 0) (B := idxL ds n) (k := m - 1) (by simp [idxL_len]) (by simp; omega)
    rw [show m - 1 + 1 = m by omega] at e
    rw [em, hrr, e] at q5_9
    refine qs_bn ?_
    refine qs_n ?_
    refine wp_sq ?_
    refine sq_v rfl (v_move rfl) rfl ?_
    refine sq_v rfl (v_sub rfl rfl ((by unfold I64; omega))) rfl ?_
    refine sq_v rfl (v_assign rfl) rfl ?_
    refine sq_end ?_
    exact qs_bk (m - 1, q.tdiv (ds.getD ((m : Int) - 1).toNat 0), h_q5_9) ⟨by (try dsimp only); omega, hqq, q5_9⟩ (by simp only; omega) ⟨rfl, (by first | rfl | exact ksub rfl (by first | omega | (simp; done) | (simp; omega))), rfl, rfl, (by first | rfl | exact ksub rfl (by first | omega | (simp; done) | (simp; omega))), trivial⟩ (fun _ s => s)
  · refine wp_ex ?_
    refine qs_x ?_
    refine qs_x ?_
    refine qs_bx ?_
    refine qs_n ?_
    refine wp_sc ?_
    refine wp_sq ?_
    refine sq_v rfl (v_move rfl) rfl ?_
    refine sq_v rfl (v_assign rfl) rfl ?_
    refine sq_end ?_
    refine qs_n ?_
    refine wp_rt ?_
    exact qs_ret1 rfl rfl (fin_t 0 (i := 1) rfl rfl rfl (by rw [show m = 0 by omega, mix_zero] at q9; exact q9))
theorem div_up {P n : Int} (hP : 1 ≤ P) (hn : 0 ≤ n) (h : (n + 1) % P = 0) : (n + 1) / P = n / P + 1 := by
  have h1 := Int.ediv_mul_add_emod (n + 1) P
  have e : n = (P - 1) + ((n + 1) / P - 1) * P := by rw [Int.sub_mul, Int.one_mul]; omega
  have h2 : n / P = (P - 1) / P + ((n + 1) / P - 1) := by
    conv => lhs; rw [e]
    exact Int.add_mul_ediv_right _ _ (by omega)
  rw [Int.ediv_eq_zero_of_lt (show 0 ≤ P - 1 by omega) (show P - 1 < P by omega)] at h2
  omega
theorem mod_up {x d : Int} (hd : 1 ≤ d) (h : x % d + 1 < d) : (x + 1) % d = x % d + 1 ∧ (x + 1) / d = x / d := by
  have h1 := Int.ediv_mul_add_emod x d
  have h0 := Int.emod_nonneg x (show d ≠ 0 by omega)
  have e : x + 1 = (x % d + 1) + (x / d) * d := by omega
  constructor
  · conv => lhs; rw [e]
    rw [Int.add_mul_emod_self_right, Int.emod_eq_of_lt (by omega) h]
  · conv => lhs; rw [e]
    rw [Int.add_mul_ediv_right _ _ (by omega), Int.ediv_eq_zero_of_lt (by omega) h]
    omega
theorem mod_over {x d : Int} (hd : 1 ≤ d) (h : d ≤ x % d + 1) : (x + 1) % d = 0 := by
  have h1 := Int.ediv_mul_add_emod x d
  have h0 := Int.emod_lt_of_pos x (show 0 < d by omega)
  have e : x + 1 = (x / d + 1) * d := by rw [Int.add_mul]; omega
  rw [e, Int.mul_emod_left]
theorem dig_yes {ds : List Int} (hd : ∀ d ∈ ds, 1 ≤ d) {n : Int} (hn : 0 ≤ n) {i : Nat} (hi : i < ds.length) (hP : (n + 1) % prodI (ds.drop (i + 1)) = 0) (h : digI ds n i + 1 < ds.getD i 0) :
    digI ds (n + 1) i = digI ds n i + 1 ∧ ∀ t, t ≤ i → (n + 1) / prodI (ds.drop (i - t)) = n / prodI (ds.drop (i - t)) := by
  have hp := (prodI_drop hd (i + 1)).1
  have hdi := hd _ (mem_getD hi)
  have h1 := div_up hp hn hP
  have h2 := mod_up hdi h
  refine ⟨by unfold digI; rw [h1]; exact h2.1, fun t => ?_⟩
  induction t with
  | zero => intro _; rw [Nat.sub_zero, div_at hd _ hi, div_at hd _ hi, h1]; exact h2.2
  | succ t ih =>
    intro ht
    rw [div_at hd (n + 1) (show i - (t + 1) < ds.length by omega), div_at hd n (show i - (t + 1) < ds.length by omega), show i - (t + 1) + 1 = i - t by omega, ih (by omega)]
theorem dig_same {ds : List Int} (hd : ∀ d ∈ ds, 1 ≤ d) {n : Int} (hn : 0 ≤ n) {i : Nat} (hi : i < ds.length) (hP : (n + 1) % prodI (ds.drop (i + 1)) = 0) (h : digI ds n i + 1 < ds.getD i 0) (j : Nat) (hj : j < i) : digI ds n j = digI ds (n + 1) j := by
  have := (dig_yes hd hn hi hP h).2 (i - (j + 1)) (by omega)
  rw [show i - (i - (j + 1)) = j + 1 by omega] at this
  unfold digI
  rw [this]
theorem dig_lt {ds : List Int} (hd : ∀ d ∈ ds, 1 ≤ d) {n : Int} (hn : 0 ≤ n) (h1 : n < prodI ds) {i : Nat} (hi : i < ds.length) (hP : (n + 1) % prodI (ds.drop (i + 1)) = 0) (h : digI ds n i + 1 < ds.getD i 0) : n + 1 < prodI ds := by
  have := (dig_yes hd hn hi hP h).2 i (Nat.le_refl i)
  rw [Nat.sub_self, List.drop_zero, Int.ediv_eq_zero_of_lt hn h1] at this
  have hp := prodI_one hd
  by_cases e : n + 1 < prodI ds
  · exact e
  · have := (Int.le_ediv_iff_mul_le (show 0 < prodI ds by omega) (a := 1) (b := n + 1)).2 (by omega)
    omega
theorem dig_no {ds : List Int} (hd : ∀ d ∈ ds, 1 ≤ d) {n : Int} (hn : 0 ≤ n) {i : Nat} (hi : i < ds.length) (hP : (n + 1) % prodI (ds.drop (i + 1)) = 0) (h : ¬ digI ds n i + 1 < ds.getD i 0) :
    digI ds (n + 1) i = 0 ∧ (n + 1) % prodI (ds.drop i) = 0 := by
  have hp := (prodI_drop hd (i + 1)).1
  have hdi := hd _ (mem_getD hi)
  have h1 := div_up hp hn hP
  have h2 := mod_over hdi (x := n / prodI (ds.drop (i + 1))) (by unfold digI at h; omega)
  rw [← h1] at h2
  refine ⟨h2, ?_⟩
  have a := Int.dvd_of_emod_eq_zero h2
  have e := Int.ediv_mul_add_emod (n + 1) (prodI (ds.drop (i + 1)))
  rw [hP] at e
  have : prodI (ds.drop (i + 1)) * ds.getD i 0 ∣ prodI (ds.drop (i + 1)) * ((n + 1) / prodI (ds.drop (i + 1))) := Int.mul_dvd_mul_left _ a
  rw [← prod_at hi, Int.mul_comm (prodI (ds.drop (i + 1))), show (n + 1) / prodI (ds.drop (i + 1)) * prodI (ds.drop (i + 1)) = n + 1 by omega] at this
  exact Int.emod_eq_zero_of_dvd this
theorem idx_yes {ds : List Int} (hd : ∀ d ∈ ds, 1 ≤ d) {n : Int} (hn : 0 ≤ n) {m : Nat} (h1 : 1 ≤ m) (hm : m ≤ ds.length) (hP : (n + 1) % prodI (ds.drop m) = 0) (h : digI ds n (m - 1) + 1 < ds.getD (m - 1) 0) :
    (mixL (idxL ds n) (idxL ds (n + 1)) m).set (m - 1) (digI ds n (m - 1) + 1) = idxL ds (n + 1) := by
  obtain ⟨k, rfl⟩ : ∃ k, m = k + 1 := ⟨m - 1, by omega⟩
  rw [Nat.add_sub_cancel] at h ⊢
  have hl1 := idxL_len ds n
  have hl2 := idxL_len ds (n + 1)
  have hy := dig_yes hd hn (show k < ds.length by omega) hP h
  rw [← hy.1, ← idxL_get (show k < ds.length by omega), mix_down (by omega) (by omega)]
  refine mix_full (by omega) (by omega) fun j hj => ?_
  rw [idxL_get (by omega), idxL_get (by omega)]
  exact dig_same hd hn (show k < ds.length by omega) hP h j hj
theorem idx_no {ds : List Int} (hd : ∀ d ∈ ds, 1 ≤ d) {n : Int} (hn : 0 ≤ n) {m : Nat} (h1 : 1 ≤ m) (hm : m ≤ ds.length) (hP : (n + 1) % prodI (ds.drop m) = 0) (h : ¬ digI ds n (m - 1) + 1 < ds.getD (m - 1) 0) :
    (mixL (idxL ds n) (idxL ds (n + 1)) m).set (m - 1) 0 = mixL (idxL ds n) (idxL ds (n + 1)) (m - 1) ∧ (n + 1) % prodI (ds.drop (m - 1)) = 0 := by
  obtain ⟨k, rfl⟩ : ∃ k, m = k + 1 := ⟨m - 1, by omega⟩
  rw [Nat.add_sub_cancel] at h ⊢
  have hl1 := idxL_len ds n
  have hl2 := idxL_len ds (n + 1)
  have hy := dig_no hd hn (show k < ds.length by omega) hP h
  refine ⟨?_, hy.2⟩
  rw [← mix_down (A := idxL ds n) (B := idxL ds (n + 1)) (k := k) (by omega) (by omega), idxL_get (show k < ds.length by omega), hy.1]
theorem idx_end {P n : Int} (hn : 0 ≤ n) (h1 : n < P) (h : (n + 1) % P = 0) : ¬ n + 1 < P := fun hlt => by
  rw [Int.emod_eq_of_lt (by omega) hlt] at h
  omega
set_option maxHeartbeats 1000000 in
theorem ct_i_nextIndex (ds : List Int) (n : Int) (u v : Value) (w : World) (h : PH) (hle : PLe h (hp w)) (r : IntsR ds u (restP w h)) (ri : IntsO (idxL ds n) v h) (hd : ∀ d ∈ ds, 1 ≤ d ∧ d ≤ 8) (hn : 0 ≤ n ∧ n < prodI ds) (hl : ds.length ≤ 1000000) :
    Calls Tryz.prog 167 [u, v].toArray w (Ret w h (fun x h' => x = .bool (decide (n + 1 < prodI ds)) ∧ IntsO (idxL ds (n + 1)) v h')) := by
  have hd1 : ∀ d ∈ ds, 1 ≤ d := fun d h => (hd d h).1
  have hil := idxL_len ds n
  have hil2 := idxL_len ds (n + 1)
  refine calls_in Tryz.func167 rfl Tryz.ntmps167 rfl (Sat.start2 hle) ?_
  have hle0 := r.le
  have hle1 := ri.toR.le
  refine wp_sc ?_
  refine wp_sq ?_
  refine sq_v rfl (v_assign rfl) rfl ?_
  refine sq_end ?_
  refine qs_n ?_
  refine wp_sc ?_
  refine wp_sc ?_
  refine wp_sq ?_
  refine sq_v rfl (v_move rfl) rfl ?_
  refine sq_v rfl (v_len Tryz.underlying25 rfl r.sl) rfl ?_
  refine sq_v rfl (v_sub rfl rfl ((by unfold I64; omega))) rfl ?_
  refine sq_v rfl (v_assign rfl) rfl ?_
  refine sq_end ?_
  refine qs_n ?_
  refine wp_bl ?_
  refine wp_lp (σ := Nat × PH) (fun z_ => [(0, u), (1, v), (4, .bool false), (5, num ((z_.1 : Int) - 1))]) (fun z_ => [z_.2, (restP w h)]) (fun z_ => z_.1 ≤ ds.length ∧ (n + 1) % prodI (ds.drop z_.1) = 0 ∧ IntsO (mixL (idxL ds n) (idxL ds (n + 1)) z_.1) v z_.2) (fun z_ => z_.1) (ds.length, h) (⟨by (try dsimp only); omega, by (try dsimp only); simp [prodI, Int.emod_one], by (try dsimp only); rw [mix_end (by omega) (by omega)]; exact ri⟩) ⟨rfl, rfl, rfl, (by first | rfl | exact ksub rfl (by first | omega | (simp; done) | (simp; omega))), trivial⟩ (fun _ s => s) ?_
  rintro ⟨m, g⟩ ⟨hm, hP, q⟩
  dsimp only at hm hP q ⊢
  have hle_q := q.toR.le
  have hml := mix_len (A := idxL ds n) (B := idxL ds (n + 1)) (k := m) (by omega) (by omega)
  have em : ((m : Int) - 1).toNat = m - 1 := by omega
  refine wp_sc ?_
  refine wp_sc ?_
  refine wp_sq ?_
  refine sq_v rfl (v_move rfl) rfl ?_
  refine sq_v rfl (v_geq rfl rfl) rfl ?_
  refine sq_end ?_
  refine qs_n ?_
  refine wp_cd rfl (fun c10 => ?_) (fun c10 => ?_)
  · refine wp_sk ?_
    refine qs_n ?_
    refine wp_sc ?_
    refine wp_bl ?_
    refine wp_sc ?_
    refine wp_sq ?_
    refine sq_v rfl (v_move rfl) rfl ?_
    refine sq_v rfl (v_move rfl) rfl ?_
    have hk : m - 1 < ds.length := (by omega); have hdm := hd _ (mem_getD hk); have hlow : (mixL (idxL ds n) (idxL ds (n + 1)) m).getD ((m : Int) - 1).toNat 0 = digI ds n (m - 1) := (by rw [em, mix_low (by omega) (by omega), idxL_get hk]); have hdg := (idxL_in hd1 n).2 (m - 1) hk; rw [idxL_get hk] at hdg
    refine sq_v rfl (v_idxI Tryz.underlying25 ty_3 rfl rfl q.toR (by first | omega | (simp only [List.length_cons, List.length_nil]; omega) | (simp only [List.length_append, List.length_cons, List.length_nil]; omega) | (rw [List.length_set]; omega) | (rw [List.length_replicate]; omega) | (simp; omega)) (by first | omega | (simp only [List.length_cons, List.length_nil]; omega) | (simp only [List.length_append, List.length_cons, List.length_nil]; omega) | (rw [List.length_set]; omega) | (rw [List.length_replicate]; omega) | (simp; omega))) rfl ?_
    refine sq_v rfl (v_loadI  0 ty_3 rfl rfl q.toR (by first | omega | (simp only [List.length_cons, List.length_nil]; omega) | (simp only [List.length_append, List.length_cons, List.length_nil]; omega) | (rw [List.length_set]; omega) | (rw [List.length_replicate]; omega) | (simp; omega))) rfl ?_
    refine sq_v rfl (v_add rfl rfl ((by unfold I64; omega))) rfl ?_
    refine sq_v rfl (v_idxI Tryz.underlying25 ty_3 rfl rfl q.toR (by first | omega | (simp only [List.length_cons, List.length_nil]; omega) | (simp only [List.length_append, List.length_cons, List.length_nil]; omega) | (rw [List.length_set]; omega) | (rw [List.length_replicate]; omega) | (simp; omega)) (by first | omega | (simp only [List.length_cons, List.length_nil]; omega) | (simp only [List.length_append, List.length_cons, List.length_nil]; omega) | (rw [List.length_set]; omega) | (rw [List.length_replicate]; omega) | (simp; omega))) rfl ?_
    refine sq_m 0 rfl rfl (m_storeI 0 ty_3 rfl rfl rfl q (by first | omega | (simp only [List.length_cons, List.length_nil]; omega) | (simp only [List.length_append, List.length_cons, List.length_nil]; omega) | (rw [List.length_set]; omega) | (rw [List.length_replicate]; omega) | (simp; omega))) rfl ?_; rintro _ h_q4_6 ⟨rfl, q4_6⟩
    refine sq_end ?_
    rw [hlow, em] at q4_6
    refine qs_n ?_
    refine wp_sc ?_
    refine wp_sc ?_
    refine wp_rj 9 [(0, true), (1, true), (2, true), (3, true), (4, true), (5, true), (6, true), (7, true), (8, true)] mixed_ok (by kernel_rfl) ?_
    refine rj_v rfl rfl (v_move rfl) rfl ?_
    refine rj_v rfl rfl (v_move rfl) rfl ?_
    refine rj_v rfl rfl (v_idxI Tryz.underlying25 ty_3 rfl rfl q4_6.toR (by first | omega | (simp only [List.length_cons, List.length_nil]; omega) | (simp only [List.length_append, List.length_cons, List.length_nil]; omega) | (rw [List.length_set]; omega) | (rw [List.length_replicate]; omega) | (simp; omega)) (by first | omega | (simp only [List.length_cons, List.length_nil]; omega) | (simp only [List.length_append, List.length_cons, List.length_nil]; omega) | (rw [List.length_set]; omega) | (rw [List.length_replicate]; omega) | (simp; omega))) rfl ?_
    refine rj_v rfl rfl (v_loadI  0 ty_3 rfl rfl q4_6.toR (by first | omega | (simp only [List.length_cons, List.length_nil]; omega) | (simp only [List.length_append, List.length_cons, List.length_nil]; omega) | (rw [List.length_set]; omega) | (rw [List.length_replicate]; omega) | (simp; omega))) rfl ?_
    refine rj_v rfl rfl (v_move rfl) rfl ?_
    refine rj_v rfl rfl (v_move rfl) rfl ?_
    refine rj_v rfl rfl (v_idxI Tryz.underlying25 ty_3 rfl rfl r (by first | omega | (simp only [List.length_cons, List.length_nil]; omega) | (simp only [List.length_append, List.length_cons, List.length_nil]; omega) | (rw [List.length_set]; omega) | (rw [List.length_replicate]; omega) | (simp; omega)) (by first | omega | (simp only [List.length_cons, List.length_nil]; omega) | (simp only [List.length_append, List.length_cons, List.length_nil]; omega) | (rw [List.length_set]; omega) | (rw [List.length_replicate]; omega) | (simp; omega))) rfl ?_
    refine rj_v rfl rfl (v_loadI  1 ty_3 rfl rfl r (by first | omega | (simp only [List.length_cons, List.length_nil]; omega) | (simp only [List.length_append, List.length_cons, List.length_nil]; omega) | (rw [List.length_set]; omega) | (rw [List.length_replicate]; omega) | (simp; omega))) rfl ?_
    refine rj_v rfl rfl (v_lss rfl rfl) rfl ?_
    refine rj_end ?_
    have hg4 : ((mixL (idxL ds n) (idxL ds (n + 1)) m).set (m - 1) (digI ds n (m - 1) + 1)).getD ((m : Int) - 1).toNat 0 = digI ds n (m - 1) + 1 := by rw [em]; simp only [List.getD]; rw [List.getElem?_set_self (by omega)]; rfl
    have hc : (((mixL (idxL ds n) (idxL ds (n + 1)) m).set (m - 1) (digI ds n (m - 1) + 1)).getD ((m : Int) - 1).toNat 0 < ds.getD ((m : Int) - 1).toNat 0) ↔ digI ds n (m - 1) + 1 < ds.getD (m - 1) 0 := by rw [hg4, em]
    refine qs_n ?_
    refine wp_cd rfl (fun c27 => ?_) (fun c27 => ?_)
    · refine wp_sc ?_
      refine wp_sq ?_
      refine sq_v rfl (v_assign rfl) rfl ?_
      refine sq_end ?_
      refine qs_n ?_
      refine wp_rt ?_
      refine qs_r ?_
      refine qs_br ?_
      refine qs_r ?_
      refine qs_r ?_
      refine qs_br ?_
      refine qs_r ?_
      exact qs_ret1 rfl rfl (fin_m 0 (i := 1) rfl rfl rfl (⟨by rw [decide_eq_true (dig_lt hd1 hn.1 hn.2 hk (by rw [show m - 1 + 1 = m by omega]; exact hP) (hc.1 c27))], by rw [← idx_yes hd1 hn.1 (by omega) hm hP (hc.1 c27)]; exact q4_6⟩))
    · refine wp_sk ?_
      refine qs_n ?_
      refine wp_sq ?_
      refine sq_v rfl (v_move rfl) rfl ?_
      refine sq_v rfl (v_move rfl) rfl ?_
      refine sq_v rfl (v_idxI Tryz.underlying25 ty_3 rfl rfl q4_6.toR (by first | omega | (simp only [List.length_cons, List.length_nil]; omega) | (simp only [List.length_append, List.length_cons, List.length_nil]; omega) | (rw [List.length_set]; omega) | (rw [List.length_replicate]; omega) | (simp; omega)) (by first | omega | (simp only [List.length_cons, List.length_nil]; omega) | (simp only [List.length_append, List.length_cons, List.length_nil]; omega) | (rw [List.length_set]; omega) | (rw [List.length_replicate]; omega) | (simp; omega))) rfl ?_
      refine sq_m 0 rfl rfl (m_storeI 0 ty_3 rfl rfl rfl q4_6 (by first | omega | (simp only [List.length_cons, List.length_nil]; omega) | (simp only [List.length_append, List.length_cons, List.length_nil]; omega) | (rw [List.length_set]; omega) | (rw [List.length_replicate]; omega) | (simp; omega))) rfl ?_; rintro _ h_q7_3 ⟨rfl, q7_3⟩
      refine sq_end ?_
      have hno := idx_no hd1 hn.1 (show 1 ≤ m by omega) hm hP (fun h => c27 (hc.2 h))
      rw [em, List.set_set, hno.1] at q7_3
      refine qs_bn ?_
      refine qs_n ?_
      refine wp_sq ?_
      refine sq_v rfl (v_move rfl) rfl ?_
      refine sq_v rfl (v_sub rfl rfl ((by unfold I64; omega))) rfl ?_
      refine sq_v rfl (v_assign rfl) rfl ?_
      refine sq_end ?_
      exact qs_bk (m - 1, h_q7_3) ⟨by (try dsimp only); omega, hno.2, q7_3⟩ (by simp only; omega) ⟨rfl, rfl, rfl, (by first | rfl | exact ksub rfl (by first | omega | (simp; done) | (simp; omega))), trivial⟩ (fun _ s => s)
  · refine wp_ex ?_
    refine qs_x ?_
    refine qs_x ?_
    refine qs_bx ?_
    refine qs_n ?_
    refine wp_sc ?_
    refine wp_sq ?_
    refine sq_v rfl (v_assign rfl) rfl ?_
    refine sq_end ?_
    refine qs_n ?_
    refine wp_rt ?_
    exact qs_ret1 rfl rfl (fin_m 0 (i := 1) rfl rfl rfl (⟨by rw [show m = 0 by omega, List.drop_zero] at hP; rw [decide_eq_false (idx_end hn.1 hn.2 hP)], by rw [show m = 0 by omega, mix_zero] at q; exact q⟩))
end Go.Proofs.YtehjljijionhaaaGreat
namespace Go.Proofs.YtehjljijionhaaaGreat
set_option maxRecDepth 100000
open Go.RowKit
def setP (xs ys : List Int) (j : Nat) : Prop := ys.getD j 0 ∈ xs ∧ ys.getD j 0 ∉ ys.take j
def setL (xs ys : List Int) : Prop := xs.length = ys.length ∧ ∀ j, j < ys.length → setP xs ys j
open Classical in
noncomputable def setB (xs ys : List Int) : Bool := decide (setL xs ys)
theorem setB_no {xs ys : List Int} (h : ¬ setL xs ys) : Value.bool false = .bool (setB xs ys) := by simp [setB, h]
theorem setB_yes {xs ys : List Int} (h : setL xs ys) : Value.bool true = .bool (setB xs ys) := by simp [setB, h]
theorem setB_true {xs ys : List Int} : setB xs ys = true ↔ setL xs ys := by simp [setB]
theorem setB_false {xs ys : List Int} : setB xs ys = false ↔ ¬ setL xs ys := by simp [setB]
theorem ct_i_sameLabels (xs ys : List Int) (v u : Value) (w : World) (r : IntsR xs v (hp w)) (r' : IntsR ys u (hp w)) : Calls Tryz.prog 168 [v, u].toArray w (RetV w (.bool (setB xs ys))) := by
  refine calls_in Tryz.func168 rfl Tryz.ntmps168 rfl (Sat.start w) ?_
  have hle0 := r.le
  have hle1 := r'.le
  refine wp_sc ?_
  refine wp_sq ?_
  refine sq_v rfl (v_assign rfl) rfl ?_
  refine sq_end ?_
  refine qs_n ?_
  refine wp_sc ?_
  refine wp_sc ?_
  refine wp_sq ?_
  refine sq_v rfl (v_move rfl) rfl ?_
  refine sq_v rfl (v_len Tryz.underlying25 rfl r'.sl) rfl ?_
  refine sq_v rfl (v_move rfl) rfl ?_
  refine sq_v rfl (v_len Tryz.underlying25 rfl r.sl) rfl ?_
  refine sq_v rfl (v_neq rfl rfl) rfl ?_
  refine sq_end ?_
  refine qs_n ?_
  refine wp_cd rfl (fun c11 => ?_) (fun c11 => ?_)
  · refine wp_sc ?_
    refine wp_sq ?_
    refine sq_v rfl (v_assign rfl) rfl ?_
    refine sq_end ?_
    refine qs_n ?_
    refine wp_rt ?_
    refine qs_r ?_
    exact qs_ret1 rfl rfl (fin_q (i := 0) rfl (setB_no (fun h => by have := h.1; omega)))
  · refine wp_sk ?_
    refine qs_n ?_
    refine wp_sc ?_
    refine wp_sc ?_
    refine wp_sq ?_
    refine sq_v rfl (v_move rfl) rfl ?_
    refine sq_v rfl (v_len Tryz.underlying25 rfl r'.sl) rfl ?_
    refine sq_v rfl (v_move rfl) rfl ?_
    refine sq_end ?_
    refine qs_n ?_
    refine wp_bl ?_
    refine wp_lp (σ := Nat) (fun z_ => [(0, v), (1, u), (4, .bool false), (12, u), (13, num ys.length), (14, num z_)]) (fun z_ => [hp w]) (fun z_ => z_ ≤ ys.length ∧ (∀ j, j < z_ → setP xs ys j)) (fun z_ => ys.length - z_) 0 (⟨by omega, fun j hj => by omega⟩) ⟨rfl, rfl, rfl, rfl, rfl, (by first | rfl | exact ksub rfl (by first | omega | (simp; done) | (simp; omega))), trivial⟩ (fun _ s => s) ?_
    rintro i ⟨hi, hv⟩
    refine wp_sc ?_
    refine wp_sq ?_
    refine sq_v rfl (v_lss rfl rfl) rfl ?_
    refine sq_end ?_
    refine qs_n ?_
    refine wp_sc ?_
    refine wp_cd rfl (fun c15 => ?_) (fun c15 => ?_)
    · refine wp_sk ?_
      refine qs_n ?_
      refine wp_sc ?_
      refine wp_bl ?_
      refine wp_sc ?_
      refine wp_sq ?_
      refine sq_v rfl (v_move rfl) rfl ?_
      refine sq_v rfl (v_idxI Tryz.underlying25 ty_3 rfl rfl r' (by first | omega | (simp only [List.length_cons, List.length_nil]; omega) | (simp only [List.length_append, List.length_cons, List.length_nil]; omega) | (rw [List.length_set]; omega) | (rw [List.length_replicate]; omega) | (simp; omega)) (by first | omega | (simp only [List.length_cons, List.length_nil]; omega) | (simp only [List.length_append, List.length_cons, List.length_nil]; omega) | (rw [List.length_set]; omega) | (rw [List.length_replicate]; omega) | (simp; omega))) rfl ?_
      refine sq_v rfl (v_loadI (k := i) 0 ty_3 rfl rfl r' (by first | omega | (simp only [List.length_cons, List.length_nil]; omega) | (simp only [List.length_append, List.length_cons, List.length_nil]; omega) | (rw [List.length_set]; omega) | (rw [List.length_replicate]; omega) | (simp; omega))) rfl ?_
      refine sq_v rfl (v_assign rfl) rfl ?_
      refine sq_v rfl (v_assign rfl) rfl ?_
      refine sq_end ?_
      refine qs_n ?_
      refine wp_sc ?_
      refine wp_sq ?_
      refine sq_v rfl (v_move rfl) rfl ?_
      refine sq_v rfl (v_move rfl) rfl ?_
      refine sq_v rfl (v_sliceH Tryz.underlying25 ty_3 rfl rfl  r' (by omega) (by omega)) rfl ?_
      refine sq_v rfl (v_move rfl) rfl ?_
      refine sq_u rfl (x_callv rfl en_141 (fun w s => ct_i_hasInt _ _ _ w ((r'.subH (hi := i) (by omega)).mono (s.get 0 rfl)))) rfl ?_
      refine sq_bd 23 rfl (fun c23 => ?_) (fun c23 => ?_)
      · refine sq_v rfl (v_move rfl) rfl ?_
        refine sq_s rfl rfl ?_
        refine sq_s rfl rfl ?_
        refine sq_s rfl rfl ?_
        refine sq_s rfl rfl ?_
        refine sq_v rfl (v_pickt rfl rfl) rfl ?_
        refine sq_end ?_
        refine qs_n ?_
        refine wp_ct rfl ?_
        refine wp_sc ?_
        refine wp_sq ?_
        refine sq_v rfl (v_assign rfl) rfl ?_
        refine sq_end ?_
        refine qs_n ?_
        refine wp_rt ?_
        refine qs_br ?_
        refine qs_r ?_
        refine qs_r ?_
        refine qs_br ?_
        refine qs_r ?_
        exact qs_ret1 rfl rfl (fin_q (i := 0) rfl (setB_no (fun h => by have h1 := h.2 i (by omega); first | exact h1.2 c23 | exact c29 h1.1)))
      · refine sq_v rfl (v_move rfl) rfl ?_
        refine sq_v rfl (v_move rfl) rfl ?_
        refine sq_v rfl (v_move rfl) rfl ?_
        refine sq_u rfl (x_callv rfl en_141 (fun w s => ct_i_hasInt _ _ _ w (r.mono (s.get 0 rfl)))) rfl ?_
        refine sq_v rfl (v_not rfl) rfl ?_
        refine sq_v rfl (v_pickf rfl rfl) rfl ?_
        refine sq_end ?_
        refine qs_n ?_
        refine wp_cnd rfl (fun c29 => ?_) (fun c29 => ?_)
        · refine wp_sc ?_
          refine wp_sq ?_
          refine sq_v rfl (v_assign rfl) rfl ?_
          refine sq_end ?_
          refine qs_n ?_
          refine wp_rt ?_
          refine qs_br ?_
          refine qs_r ?_
          refine qs_r ?_
          refine qs_br ?_
          refine qs_r ?_
          exact qs_ret1 rfl rfl (fin_q (i := 0) rfl (setB_no (fun h => by have h1 := h.2 i (by omega); first | exact h1.2 c23 | exact c29 h1.1)))
        · refine wp_sk ?_
          refine qs_bn ?_
          refine qs_n ?_
          refine wp_sq ?_
          refine sq_v rfl (v_add rfl rfl ((by unfold I64; omega))) rfl ?_
          refine sq_v rfl (v_move rfl) rfl ?_
          refine sq_end ?_
          exact qs_bk (i + 1) ⟨by omega, step_all hv ⟨c29, c23⟩⟩ (by omega) ⟨rfl, rfl, rfl, rfl, rfl, (by first | rfl | exact ksub rfl (by first | omega | (simp; done) | (simp; omega))), trivial⟩ (fun _ s => s)
    · refine wp_ex ?_
      refine qs_x ?_
      refine qs_x ?_
      refine qs_bx ?_
      refine qs_n ?_
      refine wp_sc ?_
      refine wp_sq ?_
      refine sq_v rfl (v_assign rfl) rfl ?_
      refine sq_end ?_
      refine qs_n ?_
      refine wp_rt ?_
      exact qs_ret1 rfl rfl (fin_q (i := 0) rfl (setB_yes ⟨by omega, fun j hj => hv j (by omega)⟩))
theorem nodup_of {ys : List Int} (h : ∀ j, j < ys.length → ys.getD j 0 ∉ ys.take j) : ys.Nodup := by
  rw [List.Nodup, List.pairwise_iff_getElem]
  intro i j hi hj hij e
  refine h j hj ?_
  simp only [List.getD, List.getElem?_eq_getElem hj, Option.getD_some]
  rw [← e]
  exact List.mem_iff_getElem.2 ⟨i, by simp; omega, by simp⟩
theorem perm_of : ∀ {xs ys : List Int}, xs.Nodup → (∀ x ∈ xs, x ∈ ys) → ys.length ≤ xs.length → xs.Perm ys
  | [], ys, _, _, hl => by
    have : ys = [] := List.eq_nil_of_length_eq_zero (by simpa using hl)
    rw [this]
  | x :: xs, ys, hn, hs, hl => by
    have hx := hs x (by simp)
    have hp := List.perm_cons_erase hx
    have hnx := List.nodup_cons.1 hn
    refine (List.Perm.cons x (perm_of hnx.2 (fun y hy => ?_) ?_)).trans hp.symm
    · exact (List.mem_erase_of_ne (fun e => hnx.1 (by rw [← e]; exact hy))).2 (hs y (by simp [hy]))
    · have := List.length_erase_of_mem hx
      simp only [List.length_cons] at hl
      omega
theorem setL_perm {xs ys : List Int} (h : setL xs ys) : ys.Perm xs :=
  perm_of (nodup_of fun j hj => (h.2 j hj).2) (fun y hy => by
    obtain ⟨j, hj, e⟩ := getD_of_mem hy
    exact e ▸ (h.2 j hj).1) (by have := h.1; omega)
theorem prodI_perm {a b : List Int} (h : a.Perm b) : prodI a = prodI b := by
  induction h with
  | nil => rfl
  | cons x _ ih => rw [prodI_cons, prodI_cons, ih]
  | swap x y l => rw [prodI_cons, prodI_cons, prodI_cons, prodI_cons, Int.mul_left_comm]
  | trans _ _ h1 h2 => exact h1.trans h2
def permD (t : Ten) (ls : List Int) : List Int := idxAt t.l t.d ls
def permX (wd : Int) (t : Ten) (ls ds : List Int) (m : Nat) : List Int := (List.range m).flatMap fun (i : Nat) => elt t.x wd (offL t.d (idxAt ls (idxL ds i) t.l))
noncomputable def permT (k n : Int) (t : Ten) (ls : List Int) : Ten := ⟨ls, permD t ls, permX (widthI k n) t ls (permD t ls) (prodI (permD t ls)).toNat⟩
theorem permX_step (wd : Int) (t : Ten) (ls ds : List Int) (m : Nat) : permX wd t ls ds (m + 1) = permX wd t ls ds m ++ elt t.x wd (offL t.d (idxAt ls (idxL ds m) t.l)) := by
  simp [permX, List.range_succ]
theorem permD_len (t : Ten) (ls : List Int) : (permD t ls).length = ls.length := List.length_map _
structure PermOK (k p n : Int) (t : Ten) (ls : List Int) : Prop where
  ring : ringL k p n
  ten : tensorL k p n t.l t.d t.x
  perm : ls.Perm t.l
section
variable {k p n : Int} {t : Ten} {ls : List Int}
theorem PermOK.axes (h : PermOK k p n t ls) : axesL t.l t.d := tensor_axes h.ten
theorem PermOK.nodup (h : PermOK k p n t ls) : ls.Nodup := (List.Perm.nodup_iff h.perm).2 (axes_nodup h.axes)
theorem PermOK.len (h : PermOK k p n t ls) : ls.length = t.l.length ∧ t.l.length = t.d.length ∧ ls.length ≤ 12 := by
  have := h.perm.length_eq
  have := h.axes
  exact ⟨by omega, this.2.1, by have := this.1; omega⟩
theorem PermOK.find (h : PermOK k p n t ls) {j : Nat} (hj : j < ls.length) : 0 ≤ findI t.l (ls.getD j 0) ∧ findI t.l (ls.getD j 0) < t.d.length ∧ t.l.getD (findI t.l (ls.getD j 0)).toNat 0 = ls.getD j 0 := by
  have hm : ls.getD j 0 ∈ t.l := h.perm.mem_iff.1 (mem_getD hj)
  have h1 := findI_ge.2 hm
  have h2 := findI_get hm
  have := h.len
  exact ⟨h1, by omega, h2.2⟩
theorem PermOK.dims (h : PermOK k p n t ls) : dimsIn (permD t ls) := fun j hj => by
  rw [permD_len] at hj
  have hf := h.find hj
  rw [permD, idxAt, map_getD hj]
  exact axes_dims h.axes _ (by omega)
theorem PermOK.prod (h : PermOK k p n t ls) : prodI (permD t ls) = prodI t.d := by
  have e : t.d = idxAt t.l t.d t.l := by
    apply ext_getD (by simp [idxAt, h.axes.2.1])
    intro j hj
    have hj' : j < t.l.length := by rw [h.axes.2.1]; exact hj
    rw [idxAt, map_getD hj', find_at h.axes hj', Int.toNat_natCast]
  conv => rhs; rw [e]
  exact prodI_perm (h.perm.map _)
theorem PermOK.small (h : PermOK k p n t ls) : 1 ≤ prodI (permD t ls) ∧ prodI (permD t ls) ≤ 4096 := by
  refine ⟨prodI_one fun d hd => (dims_mem h.dims d hd).1, ?_⟩
  rw [h.prod]
  exact (sizeI_ge.1 h.ten.2.1).2
theorem PermOK.back (h : PermOK k p n t ls) {j : Nat} (hj : j < t.l.length) : (findI ls (t.l.getD j 0)).toNat < ls.length ∧ ls.getD (findI ls (t.l.getD j 0)).toNat 0 = t.l.getD j 0 :=
  findI_get (h.perm.mem_iff.2 (mem_getD hj))
theorem PermOK.idx (h : PermOK k p n t ls) (i : Int) : idxIn t.d (idxAt ls (idxL (permD t ls) i) t.l) := by
  have hd : ∀ d ∈ permD t ls, 1 ≤ d := fun d hd => (dims_mem h.dims d hd).1
  refine ⟨by simp [idxAt, h.axes.2.1], fun j hj => ?_⟩
  have hj' : j < t.l.length := by rw [h.axes.2.1]; exact hj
  have hb := h.back hj'
  have hv := (idxL_in hd i).2 (findI ls (t.l.getD j 0)).toNat (by rw [permD_len]; exact hb.1)
  rw [idxAt, map_getD hj']
  rw [show (permD t ls).getD (findI ls (t.l.getD j 0)).toNat 0 = t.d.getD j 0 by
    rw [permD, idxAt, map_getD hb.1, hb.2, find_at h.axes hj', Int.toNat_natCast]] at hv
  exact hv
theorem PermOK.off (h : PermOK k p n t ls) (i : Int) : 0 ≤ offL t.d (idxAt ls (idxL (permD t ls) i) t.l) ∧ offL t.d (idxAt ls (idxL (permD t ls) i) t.l) < prodI t.d := by
  have := offL_in (fun d hd => (dims_mem (axes_dims h.axes) d hd).1) (h.idx i)
  omega
theorem PermOK.dot (h : PermOK k p n t ls) (i : Int) : dotL (stepsL ls t.l t.d) (idxL (permD t ls) i) = offL t.d (idxAt ls (idxL (permD t ls) i) t.l) := by
  rw [dotL, stepsL_len, dot_off h.nodup h.axes.2.1 (axes_nodup h.axes) (fun x hx => h.perm.mem_iff.2 hx)]
theorem PermOK.at_end (h : PermOK k p n t ls) {A idx : List Int} (hA : A.length = ls.length) (hq : ∀ q, q < ls.length → A.getD (findI t.l (ls.getD q 0)).toNat 0 = idx.getD q 0) : A = idxAt ls idx t.l := by
  have hl := h.len
  apply ext_getD (by simp [idxAt]; omega)
  intro j hj
  have hj' : j < t.l.length := by omega
  have hb := h.back hj'
  have := hq _ hb.1
  rw [hb.2, find_at h.axes hj', Int.toNat_natCast] at this
  rw [this, idxAt, map_getD hj']
theorem PermOK.at_step (h : PermOK k p n t ls) {A idx : List Int} {j : Nat} (hA : A.length = ls.length) (hj : j < ls.length) (hq : ∀ q, q < j → A.getD (findI t.l (ls.getD q 0)).toNat 0 = idx.getD q 0) (q : Nat) (hq2 : q < j + 1) :
    (A.set (findI t.l (ls.getD j 0)).toNat (idx.getD j 0)).getD (findI t.l (ls.getD q 0)).toNat 0 = idx.getD q 0 := by
  have hf := h.find hj
  have hl := h.len
  by_cases e : q = j
  · subst e
    simp only [List.getD]; rw [List.getElem?_set_self (by simp only [List.getD] at hf; omega)]; rfl
  · have hf2 := h.find (j := q) (by omega)
    have hne : (findI t.l (ls.getD j 0)).toNat ≠ (findI t.l (ls.getD q 0)).toNat := fun e2 => by
      have e3 : ls.getD j 0 = ls.getD q 0 := by rw [← hf.2.2, ← hf2.2.2, e2]
      have h1 := find_at' h.nodup hj
      have h2 := find_at' h.nodup (show q < ls.length by omega)
      rw [e3, h2] at h1
      omega
    have : (A.set (findI t.l (ls.getD j 0)).toNat (idx.getD j 0)).getD (findI t.l (ls.getD q 0)).toNat 0 = A.getD (findI t.l (ls.getD q 0)).toNat 0 := by
      simp only [List.getD]; rw [List.getElem?_set_ne (by simpa only [List.getD] using hne)]
    rw [this]
    exact hq q (by omega)
end
theorem permX_len {k p n : Int} {t : Ten} {ls : List Int} (h : PermOK k p n t ls) : ∀ m, (permX (widthI k n) t ls (permD t ls) m).length ≤ m * 6
  | 0 => by simp [permX]
  | m + 1 => by
    have := permX_len h m
    have hw := width_range h.ring
    rw [permX_step, List.length_append]
    have : (elt t.x (widthI k n) (offL t.d (idxAt ls (idxL (permD t ls) m) t.l))).length ≤ 6 := by
      unfold elt
      rw [List.length_take]
      omega
    omega
end Go.Proofs.YtehjljijionhaaaGreat
namespace Go.Proofs.YtehjljijionhaaaGreat
set_option maxRecDepth 100000
open Go.RowKit
theorem ct_i_axisOf (ls : List Int) (x : Int) (a b c : Value) (w : World) (r : IntsR ls a (hp w)) (hb : b.oneCell' = true) (hc : c.oneCell' = true) : Calls Tryz.prog 172 [tenV a b c, num x].toArray w (RetV w (num (findI ls x))) := by
  refine calls_in Tryz.func172 rfl Tryz.ntmps172 rfl (Sat.start w) ?_
  have hle0 := r.le
  refine wp_sc ?_
  refine wp_sq ?_
  refine sq_x rfl (x_box rfl rfl) rfl ?_; rintro _ _ ⟨b2, rfl, rfl⟩
  refine sq_v rfl (v_assign rfl) rfl ?_
  refine sq_end ?_
  refine qs_n ?_
  refine wp_sc ?_
  refine wp_sc ?_
  refine wp_sq ?_
  refine sq_v rfl (v_fieldAddr fd_44_0 ty_25 (by decide) rfl) rfl ?_
  refine sq_v rfl (v_loadB 0 ty_25 rfl rfl rfl) rfl ?_
  refine sq_v rfl (v_len Tryz.underlying25 rfl r.sl) rfl ?_
  refine sq_v rfl (v_move rfl) rfl ?_
  refine sq_end ?_
  refine qs_n ?_
  refine wp_bl ?_
  refine wp_lp (σ := Nat) (fun z_ => [(1, num x), (4, num 0), (8, a), (9, num ls.length), (10, num z_)]) (fun z_ => [box b2 [a, b, c] 44, hp w]) (fun z_ => z_ ≤ ls.length ∧ (∀ j, j < z_ → ls.getD j 0 ≠ x)) (fun z_ => ls.length - z_) 0 (⟨by omega, fun j hj => by omega⟩) ⟨rfl, rfl, rfl, rfl, (by first | rfl | exact ksub rfl (by first | omega | (simp; done) | (simp; omega))), trivial⟩ (fun _ s => s) ?_
  rintro i ⟨hi, hv⟩
  refine wp_sc ?_
  refine wp_sq ?_
  refine sq_v rfl (v_lss rfl rfl) rfl ?_
  refine sq_end ?_
  refine qs_n ?_
  refine wp_sc ?_
  refine wp_cd rfl (fun c11 => ?_) (fun c11 => ?_)
  · refine wp_sk ?_
    refine qs_n ?_
    refine wp_sc ?_
    refine wp_bl ?_
    refine wp_sc ?_
    refine wp_sq ?_
    refine sq_v rfl (v_move rfl) rfl ?_
    refine sq_v rfl (v_idxI Tryz.underlying25 ty_3 rfl rfl r (by first | omega | (simp only [List.length_cons, List.length_nil]; omega) | (simp only [List.length_append, List.length_cons, List.length_nil]; omega) | (rw [List.length_set]; omega) | (rw [List.length_replicate]; omega) | (simp; omega)) (by first | omega | (simp only [List.length_cons, List.length_nil]; omega) | (simp only [List.length_append, List.length_cons, List.length_nil]; omega) | (rw [List.length_set]; omega) | (rw [List.length_replicate]; omega) | (simp; omega))) rfl ?_
    refine sq_v rfl (v_loadI (k := i) 1 ty_3 rfl rfl r (by first | omega | (simp only [List.length_cons, List.length_nil]; omega) | (simp only [List.length_append, List.length_cons, List.length_nil]; omega) | (rw [List.length_set]; omega) | (rw [List.length_replicate]; omega) | (simp; omega))) rfl ?_
    refine sq_v rfl (v_assign rfl) rfl ?_
    refine sq_v rfl (v_assign rfl) rfl ?_
    refine sq_end ?_
    refine qs_n ?_
    refine wp_sc ?_
    refine wp_sq ?_
    refine sq_v rfl (v_move rfl) rfl ?_
    refine sq_v rfl (v_move rfl) rfl ?_
    refine sq_v rfl (v_eql rfl rfl) rfl ?_
    refine sq_end ?_
    refine qs_n ?_
    refine wp_cd rfl (fun c17 => ?_) (fun c17 => ?_)
    · refine wp_sc ?_
      refine wp_sq ?_
      refine sq_v rfl (v_move rfl) rfl ?_
      refine sq_v rfl (v_assign rfl) rfl ?_
      refine sq_end ?_
      refine qs_n ?_
      refine wp_rt ?_
      refine qs_br ?_
      refine qs_r ?_
      refine qs_r ?_
      refine qs_br ?_
      refine qs_r ?_
      exact qs_ret1 rfl rfl (fin_q (i := 1) rfl (by rw [idx_first hv (by omega) c17]))
    · refine wp_sk ?_
      refine qs_bn ?_
      refine qs_n ?_
      refine wp_sq ?_
      refine sq_v rfl (v_add rfl rfl ((by unfold I64; omega))) rfl ?_
      refine sq_v rfl (v_move rfl) rfl ?_
      refine sq_end ?_
      exact qs_bk (i + 1) ⟨by omega, step_all hv c17⟩ (by omega) ⟨rfl, rfl, rfl, rfl, (by first | rfl | exact ksub rfl (by first | omega | (simp; done) | (simp; omega))), trivial⟩ (fun _ s => s)
  · refine wp_ex ?_
    refine qs_x ?_
    refine qs_x ?_
    refine qs_bx ?_
    refine qs_n ?_
    refine wp_sc ?_
    refine wp_sq ?_
    refine sq_v rfl (v_assign rfl) rfl ?_
    refine sq_end ?_
    refine qs_n ?_
    refine wp_rt ?_
    exact qs_ret1 rfl rfl (fin_q (i := 1) rfl (by rw [findI_none (not_mem_of fun j hj => hv j (by omega))]))
set_option maxHeartbeats 1000000 in
theorem ct_s_l06Permute (k p n : Int) (t : Ten) (ls : List Int) (a b c v : Value) (w : World) (r1 : IntsR t.l a (hp w)) (r2 : IntsR t.d b (hp w)) (r3 : IntsR t.x c (hp w)) (rl : IntsR ls v (hp w)) (ok : PermOK k p n t ls) :
    Calls Tryz.prog 98 [ringV k p n, tenV a b c, v].toArray w (Ret w emp (TenT (permT k n t ls))) := by
  have hlen := ok.len
  have hD := ok.dims
  have hDm := dims_mem hD
  have htd := dims_mem (axes_dims ok.axes)
  have hsm := ok.small
  have hpr := ok.prod
  have hring := ok.ring
  have hDl := permD_len t ls
  have hw := width_range hring
  refine calls_in Tryz.func98 rfl Tryz.ntmps98 rfl (Sat.start w) ?_
  have hle0 := r1.le
  have hle1 := r2.le
  have hle2 := r3.le
  have hle3 := rl.le
  refine wp_sc ?_
  refine wp_sq ?_
  refine sq_x rfl (x_box rfl rfl) rfl ?_; rintro _ _ ⟨b3, rfl, rfl⟩
  refine sq_x rfl (x_box rfl rfl) rfl ?_; rintro _ _ ⟨b4, rfl, rfl⟩
  refine sq_x rfl (x_alloc ty_44 rfl) rfl ?_; rintro _ _ ⟨b6, rfl, rfl⟩
  refine sq_end ?_
  refine qs_n ?_
  refine wp_sc ?_
  refine wp_sq ?_
  refine sq_x rfl (x_build0 Tryz.underlying25 ty_3) rfl ?_; intro v17 h17 (r17 : IntsO [] v17 h17)
  refine sq_v rfl (v_assign rfl) rfl ?_
  refine sq_end ?_
  refine qs_n ?_
  refine wp_sc ?_
  refine wp_sq ?_
  refine sq_x rfl (x_build0 Tryz.underlying25 ty_3) rfl ?_; intro v18 h18 (r18 : IntsO [] v18 h18)
  refine sq_v rfl (v_assign rfl) rfl ?_
  refine sq_end ?_
  refine qs_n ?_
  refine wp_sc ?_
  refine wp_sc ?_
  refine wp_sq ?_
  refine sq_v rfl (v_move rfl) rfl ?_
  refine sq_v rfl (v_len Tryz.underlying25 rfl rl.sl) rfl ?_
  refine sq_v rfl (v_move rfl) rfl ?_
  refine sq_end ?_
  refine qs_n ?_
  refine wp_bl ?_
  refine wp_lp (σ := Nat × Value × PH × Value × PH) (fun z_ => [(2, v), (3, .pointer (some ⟨b3, 0, none⟩)), (4, .pointer (some ⟨b4, 0, none⟩)), (6, .pointer (some ⟨b6, 0, none⟩)), (7, z_.2.1), (8, z_.2.2.2.1), (19, v), (20, num ls.length), (21, num z_.1)]) (fun z_ => [z_.2.2.1, z_.2.2.2.2, box b6 [.slice none 0 0, .slice none 0 0, .slice none 0 0] 44, box b4 [a, b, c] 44, box b3 [num k, num p, num n] 31, hp w]) (fun z_ => z_.1 ≤ ls.length ∧ IntsO (idxAt t.l t.d (ls.take z_.1)) z_.2.1 z_.2.2.1 ∧ IntsO ((ls.take z_.1).map (findI t.l)) z_.2.2.2.1 z_.2.2.2.2) (fun z_ => ls.length - z_.1) (0, v17, h17, v18, h18) (⟨by (try dsimp only); omega, r17, r18⟩) ⟨rfl, rfl, rfl, rfl, (by first | rfl | exact ksub rfl (by first | omega | (simp; done) | (simp; omega))), (by first | rfl | exact ksub rfl (by first | omega | (simp; done) | (simp; omega))), rfl, rfl, (by first | rfl | exact ksub rfl (by first | omega | (simp; done) | (simp; omega))), trivial⟩ (fun _ s => s.pick [1, 0, 2, 3, 4, 5] (by decide) rfl) ?_
  rintro ⟨i, v1, h1, v2, h2⟩ ⟨hi, q1, q2⟩
  dsimp only at hi q1 q2 ⊢
  have hle_q1 := q1.toR.le
  have hle_q2 := q2.toR.le
  have hl1 : (idxAt t.l t.d (ls.take i)).length = i := by simp [idxAt]; omega
  have hl2 : ((ls.take i).map (findI t.l)).length = i := by simp; omega
  refine wp_sc ?_
  refine wp_sq ?_
  refine sq_v rfl (v_lss rfl rfl) rfl ?_
  refine sq_end ?_
  refine qs_n ?_
  refine wp_sc ?_
  refine wp_cd rfl (fun c22 => ?_) (fun c22 => ?_)
  · refine wp_sk ?_
    refine qs_n ?_
    refine wp_sc ?_
    refine wp_bl ?_
    refine wp_sc ?_
    refine wp_sq ?_
    refine sq_v rfl (v_idxI Tryz.underlying25 ty_3 rfl rfl rl (by first | omega | (simp only [List.length_cons, List.length_nil]; omega) | (simp only [List.length_append, List.length_cons, List.length_nil]; omega) | (rw [List.length_set]; omega) | (rw [List.length_replicate]; omega) | (simp; omega)) (by first | omega | (simp only [List.length_cons, List.length_nil]; omega) | (simp only [List.length_append, List.length_cons, List.length_nil]; omega) | (rw [List.length_set]; omega) | (rw [List.length_replicate]; omega) | (simp; omega))) rfl ?_
    refine sq_v rfl (v_loadI (k := i) 5 ty_3 rfl rfl rl (by first | omega | (simp only [List.length_cons, List.length_nil]; omega) | (simp only [List.length_append, List.length_cons, List.length_nil]; omega) | (rw [List.length_set]; omega) | (rw [List.length_replicate]; omega) | (simp; omega))) rfl ?_
    refine sq_v rfl (v_assign rfl) rfl ?_
    refine sq_end ?_
    refine qs_n ?_
    refine wp_sc ?_
    refine wp_sq ?_
    refine sq_v rfl (v_fieldAddr fd_44_0 ty_25 (by decide) rfl) rfl ?_
    refine sq_v rfl (v_loadB 3 ty_25 rfl rfl rfl) rfl ?_
    refine sq_v rfl (v_move rfl) rfl ?_
    refine sq_u rfl (x_callv rfl en_136 (fun w s => ct_s_l05Find _ _ _ w (r1.mono (s.get 5 rfl)))) rfl ?_
    refine sq_v rfl (v_assign rfl) rfl ?_
    refine sq_end ?_
    refine qs_n ?_
    refine wp_sc ?_
    refine wp_sq ?_
    refine sq_v rfl (v_move rfl) rfl ?_
    refine sq_v rfl (v_move rfl) rfl ?_
    refine sq_x rfl (x_buildS [num (findI t.l (ls.getD i 0))] Tryz.underlying25 ty_3 (by decide) rfl rfl rfl (by decide) (by decide) (by intro v hv; simp at hv; rcases hv with rfl <;> rfl)) rfl ?_; intro v31 h31 (r31 : IntsO [findI t.l (ls.getD i 0)] v31 h31)
    refine sq_m 2 rfl rfl (m_appI 2 0 Tryz.underlying25 ty_3 rfl rfl rfl rfl q2 rfl r31.toR (by first | omega | (simp only [List.length_cons, List.length_nil]; omega) | (simp only [List.length_append, List.length_cons, List.length_nil]; omega) | (rw [List.length_set]; omega) | (rw [List.length_replicate]; omega) | (simp; omega))) rfl ?_; intro v32 h_r32 r32
    refine sq_v rfl (v_assign rfl) rfl ?_
    refine sq_end ?_
    refine qs_n ?_
    refine wp_sq ?_
    refine sq_v rfl (v_move rfl) rfl ?_
    refine sq_v rfl (v_fieldAddr fd_44_1 ty_25 (by decide) rfl) rfl ?_
    refine sq_v rfl (v_loadB 4 ty_25 rfl rfl rfl) rfl ?_
    refine sq_v rfl (v_move rfl) rfl ?_
    have hf := ok.find (j := i) (by omega)
    refine sq_v rfl (v_idxI Tryz.underlying25 ty_3 rfl rfl r2 (by first | omega | (simp only [List.length_cons, List.length_nil]; omega) | (simp only [List.length_append, List.length_cons, List.length_nil]; omega) | (rw [List.length_set]; omega) | (rw [List.length_replicate]; omega) | (simp; omega)) (by first | omega | (simp only [List.length_cons, List.length_nil]; omega) | (simp only [List.length_append, List.length_cons, List.length_nil]; omega) | (rw [List.length_set]; omega) | (rw [List.length_replicate]; omega) | (simp; omega))) rfl ?_
    refine sq_v rfl (v_loadI  6 ty_3 rfl rfl r2 (by first | omega | (simp only [List.length_cons, List.length_nil]; omega) | (simp only [List.length_append, List.length_cons, List.length_nil]; omega) | (rw [List.length_set]; omega) | (rw [List.length_replicate]; omega) | (simp; omega))) rfl ?_
    refine sq_x rfl (x_buildS [num ((t.d.getD (findI t.l (ls.getD i 0) : Int).toNat 0))] Tryz.underlying25 ty_3 (by decide) rfl rfl rfl (by decide) (by decide) (by intro v hv; simp at hv; rcases hv with rfl <;> rfl)) rfl ?_; intro v39 h39 (r39 : IntsO [(t.d.getD (findI t.l (ls.getD i 0) : Int).toNat 0)] v39 h39)
    refine sq_m 2 rfl rfl (m_appI 2 0 Tryz.underlying25 ty_3 rfl rfl rfl rfl q1 rfl r39.toR (by first | omega | (simp only [List.length_cons, List.length_nil]; omega) | (simp only [List.length_append, List.length_cons, List.length_nil]; omega) | (rw [List.length_set]; omega) | (rw [List.length_replicate]; omega) | (simp; omega))) rfl ?_; intro v40 h_r40 r40
    refine sq_v rfl (v_assign rfl) rfl ?_
    refine sq_end ?_
    refine qs_bn ?_
    refine qs_n ?_
    refine wp_sq ?_
    refine sq_v rfl (v_add rfl rfl ((by unfold I64; omega))) rfl ?_
    refine sq_v rfl (v_move rfl) rfl ?_
    refine sq_end ?_
    exact qs_bk (i + 1, v40, h_r40, v32, h_r32) ⟨by (try dsimp only); omega, by (try dsimp only); rw [idxAt_step (by omega)]; exact r40, by (try dsimp only); rw [take_succ (by omega), List.map_append]; exact r32⟩ (by simp only; omega) ⟨rfl, rfl, rfl, rfl, (by first | rfl | exact ksub rfl (by first | omega | (simp; done) | (simp; omega))), (by first | rfl | exact ksub rfl (by first | omega | (simp; done) | (simp; omega))), rfl, rfl, (by first | rfl | exact ksub rfl (by first | omega | (simp; done) | (simp; omega))), trivial⟩ (fun _ s => s.pick [2, 3, 4, 5, 6, 7] (by decide) rfl)
  · refine wp_ex ?_
    refine qs_x ?_
    refine qs_x ?_
    refine qs_bx ?_
    refine qs_n ?_
    refine wp_sc ?_
    refine wp_sq ?_
    refine sq_v rfl (v_move rfl) rfl ?_
    rw [List.take_of_length_le (by omega)] at q1 q2 hl1 hl2; have hl1' : (permD t ls).length = i := hl1; replace q1 : IntsO (permD t ls) v1 h1 := q1;
    refine sq_x rfl (x_call rfl en_106 (fun w s => ct_s_l05Ints _ _ w (rl.mono (s.get 5 rfl)) (by first | assumption | omega))) rfl ?_; rintro v43 h43 r43
    refine sq_v rfl (v_move rfl) rfl ?_
    refine sq_v rfl (v_build [v43, v1, .slice none 0 0] rfl (by obtain ⟨_, _, rfl⟩ := r43.toR.sl; obtain ⟨_, _, rfl⟩ := q1.toR.sl; kernel_rfl)) rfl ?_
    refine sq_x rfl (x_alloc ty_44 rfl) rfl ?_; rintro _ _ ⟨b12, rfl, rfl⟩
    refine sq_m 0 rfl rfl (m_store 0 ty_44 rfl rfl rfl rfl (by simp [r43.toR.sl.one, q1.toR.sl.one, one_sl]) rfl (Nat.le_of_ble_eq_true rfl)) rfl ?_; rintro _ _ ⟨rfl, rfl⟩
    refine sq_end ?_
    refine qs_n ?_
    refine wp_sc ?_
    refine wp_sq ?_
    refine sq_v rfl (v_move rfl) rfl ?_
    refine sq_v rfl (v_len Tryz.underlying25 rfl q2.toR.sl) rfl ?_
    refine sq_x rfl (x_makeI Tryz.underlying25 ty_3 rfl rfl (by first | omega | (simp only [List.length_cons, List.length_nil]; omega) | (simp only [List.length_append, List.length_cons, List.length_nil]; omega) | (rw [List.length_set]; omega) | (rw [List.length_replicate]; omega) | (simp; omega)) (by first | omega | (simp only [List.length_cons, List.length_nil]; omega) | (simp only [List.length_append, List.length_cons, List.length_nil]; omega) | (rw [List.length_set]; omega) | (rw [List.length_replicate]; omega) | (simp; omega)) (by first | omega | (simp only [List.length_cons, List.length_nil]; omega) | (simp only [List.length_append, List.length_cons, List.length_nil]; omega) | (rw [List.length_set]; omega) | (rw [List.length_replicate]; omega) | (simp; omega))) rfl ?_; intro v48 h48 r48
    refine sq_v rfl (v_assign rfl) rfl ?_
    refine sq_end ?_
    refine qs_n ?_
    refine wp_sc ?_
    refine wp_sc ?_
    refine wp_sq ?_
    refine sq_v rfl (v_assign rfl) rfl ?_
    refine sq_end ?_
    refine qs_n ?_
    refine wp_bl ?_
    refine wp_lp (σ := Nat × (List Int) × PH × Value × PH) (fun z_ => [(3, .pointer (some ⟨b3, 0, none⟩)), (4, .pointer (some ⟨b4, 0, none⟩)), (6, .pointer (some ⟨b6, 0, none⟩)), (7, v1), (8, v2), (12, .pointer (some ⟨b12, 0, none⟩)), (13, v48), (14, num z_.1), (44, v1)]) (fun z_ => [z_.2.2.2.2, z_.2.2.1, box b12 [v43, v1, z_.2.2.2.1] 44, h43, h1, h2, box b6 [.slice none 0 0, .slice none 0 0, .slice none 0 0] 44, box b4 [a, b, c] 44, box b3 [num k, num p, num n] 31, hp w]) (fun z_ => z_.1 ≤ (prodI (permD t ls)).toNat ∧ z_.2.1.length = ls.length ∧ IntsO z_.2.1 v48 z_.2.2.1 ∧ IntsO (permX (widthI k n) t ls (permD t ls) z_.1) z_.2.2.2.1 z_.2.2.2.2) (fun z_ => (prodI (permD t ls)).toNat - z_.1) (0, List.replicate ls.length 0, h48, .slice none 0 0, emp) (⟨by (try dsimp only); omega, by (try dsimp only); simp, by (try dsimp only); simpa [hl2, show i = ls.length by omega] using r48, IntsO.nil⟩) ⟨rfl, rfl, rfl, rfl, rfl, rfl, rfl, (by first | rfl | exact ksub rfl (by first | omega | (simp; done) | (simp; omega))), rfl, trivial⟩ (fun _ s => (emp_sat s)) ?_
    rintro ⟨m, A, g, vx, hx⟩ ⟨hm, hA, q48, qx⟩
    dsimp only at hm hA q48 qx ⊢
    have hle_q48 := q48.toR.le
    have hle_qx := qx.toR.le
    have hxl := permX_len ok m
    have hil := idxL_len (permD t ls) m
    refine wp_sc ?_
    refine wp_sc ?_
    refine wp_sq ?_
    refine sq_v rfl (v_move rfl) rfl ?_
    refine sq_v rfl (v_move rfl) rfl ?_
    refine sq_u rfl (x_callv rfl en_134 (fun w s => ct_s_l05Product _ _ _ w (q1.toR.mono (s.get 4 rfl)) (by first | assumption | omega) (by first | assumption | omega))) rfl ?_
    refine sq_v rfl (v_lss rfl rfl) rfl ?_
    refine sq_end ?_
    refine qs_n ?_
    refine wp_cd rfl (fun c52 => ?_) (fun c52 => ?_)
    · refine wp_sk ?_
      refine qs_n ?_
      refine wp_sc ?_
      refine wp_bl ?_
      refine wp_sc ?_
      refine wp_sc ?_
      refine wp_sq ?_
      refine sq_v rfl (v_move rfl) rfl ?_
      refine sq_v rfl (v_move rfl) rfl ?_
      refine sq_x rfl (x_call rfl en_155 (fun w s => ct_s_l05Index _ _ _ w (q1.toR.mono (s.get 4 rfl)) (by first | assumption | omega) (by first | assumption | omega) (by first | assumption | omega))) rfl ?_; rintro v57 h57 r57
      refine sq_v rfl (v_len Tryz.underlying25 rfl r57.toR.sl) rfl ?_
      refine sq_v rfl (v_move rfl) rfl ?_
      refine sq_end ?_
      refine qs_n ?_
      refine wp_bl ?_
      refine wp_lp (σ := Nat × (List Int) × PH) (fun z_ => [(3, .pointer (some ⟨b3, 0, none⟩)), (4, .pointer (some ⟨b4, 0, none⟩)), (6, .pointer (some ⟨b6, 0, none⟩)), (7, v1), (8, v2), (12, .pointer (some ⟨b12, 0, none⟩)), (13, v48), (14, num m), (44, v1), (49, num m), (50, v1), (51, num (min (prodI (permD t ls)) (4096 + 1))), (52, .bool (decide ((m : Int) < min (prodI (permD t ls)) (4096 + 1)))), (55, v1), (56, num m), (57, v57), (58, num (idxL (permD t ls) m).length), (59, num z_.1)]) (fun z_ => [h57, hx, z_.2.2, box b12 [v43, v1, vx] 44, h43, h1, h2, box b6 [.slice none 0 0, .slice none 0 0, .slice none 0 0] 44, box b4 [a, b, c] 44, box b3 [num k, num p, num n] 31, hp w]) (fun z_ => z_.1 ≤ (idxL (permD t ls) m).length ∧ z_.2.1.length = ls.length ∧ (∀ q, q < z_.1 → z_.2.1.getD (findI t.l (ls.getD q 0)).toNat 0 = (idxL (permD t ls) m).getD q 0) ∧ IntsO z_.2.1 v48 z_.2.2) (fun z_ => (idxL (permD t ls) m).length - z_.1) (0, A, g) (⟨by (try dsimp only); omega, hA, fun q hq => by omega, q48⟩) ⟨rfl, rfl, rfl, rfl, rfl, rfl, rfl, rfl, rfl, rfl, rfl, rfl, rfl, rfl, rfl, rfl, rfl, (by first | rfl | exact ksub rfl (by first | omega | (simp; done) | (simp; omega))), trivial⟩ (fun _ s => s) ?_
      rintro ⟨j, A2, g2⟩ ⟨hj, hA2, hAq, q48b⟩
      dsimp only at hj hA2 hAq q48b ⊢
      have hle_q48b := q48b.toR.le
      refine wp_sc ?_
      refine wp_sq ?_
      refine sq_v rfl (v_lss rfl rfl) rfl ?_
      refine sq_end ?_
      refine qs_n ?_
      refine wp_sc ?_
      refine wp_cd rfl (fun c60 => ?_) (fun c60 => ?_)
      · refine wp_sk ?_
        refine qs_n ?_
        refine wp_sc ?_
        refine wp_bl ?_
        refine wp_sc ?_
        refine wp_sq ?_
        refine sq_v rfl (v_move rfl) rfl ?_
        refine sq_v rfl (v_idxI Tryz.underlying25 ty_3 rfl rfl r57.toR (by first | omega | (simp only [List.length_cons, List.length_nil]; omega) | (simp only [List.length_append, List.length_cons, List.length_nil]; omega) | (rw [List.length_set]; omega) | (rw [List.length_replicate]; omega) | (simp; omega)) (by first | omega | (simp only [List.length_cons, List.length_nil]; omega) | (simp only [List.length_append, List.length_cons, List.length_nil]; omega) | (rw [List.length_set]; omega) | (rw [List.length_replicate]; omega) | (simp; omega))) rfl ?_
        refine sq_v rfl (v_loadI (k := j) 0 ty_3 rfl rfl r57.toR (by first | omega | (simp only [List.length_cons, List.length_nil]; omega) | (simp only [List.length_append, List.length_cons, List.length_nil]; omega) | (rw [List.length_set]; omega) | (rw [List.length_replicate]; omega) | (simp; omega))) rfl ?_
        refine sq_v rfl (v_assign rfl) rfl ?_
        refine sq_v rfl (v_assign rfl) rfl ?_
        refine sq_end ?_
        refine qs_n ?_
        refine wp_sq ?_
        refine sq_v rfl (v_move rfl) rfl ?_
        refine sq_v rfl (v_move rfl) rfl ?_
        refine sq_v rfl (v_move rfl) rfl ?_
        refine sq_v rfl (v_idxI Tryz.underlying25 ty_3 rfl rfl q2.toR (by first | omega | (simp only [List.length_cons, List.length_nil]; omega) | (simp only [List.length_append, List.length_cons, List.length_nil]; omega) | (rw [List.length_set]; omega) | (rw [List.length_replicate]; omega) | (simp; omega)) (by first | omega | (simp only [List.length_cons, List.length_nil]; omega) | (simp only [List.length_append, List.length_cons, List.length_nil]; omega) | (rw [List.length_set]; omega) | (rw [List.length_replicate]; omega) | (simp; omega))) rfl ?_
        have hf := ok.find (j := j) (by omega); have hpj : (ls.map (findI t.l)).getD j 0 = findI t.l (ls.getD j 0) := map_getD (by omega)
        refine sq_v rfl (v_loadI (k := j) 6 ty_3 rfl rfl q2.toR (by first | omega | (simp only [List.length_cons, List.length_nil]; omega) | (simp only [List.length_append, List.length_cons, List.length_nil]; omega) | (rw [List.length_set]; omega) | (rw [List.length_replicate]; omega) | (simp; omega))) rfl ?_
        refine sq_v rfl (v_move rfl) rfl ?_
        refine sq_v rfl (v_idxI Tryz.underlying25 ty_3 rfl rfl q48b.toR (by first | omega | (simp only [List.length_cons, List.length_nil]; omega) | (simp only [List.length_append, List.length_cons, List.length_nil]; omega) | (rw [List.length_set]; omega) | (rw [List.length_replicate]; omega) | (simp; omega)) (by first | omega | (simp only [List.length_cons, List.length_nil]; omega) | (simp only [List.length_append, List.length_cons, List.length_nil]; omega) | (rw [List.length_set]; omega) | (rw [List.length_replicate]; omega) | (simp; omega))) rfl ?_
        refine sq_m 2 rfl rfl (m_storeI 2 ty_3 rfl rfl rfl q48b (by first | omega | (simp only [List.length_cons, List.length_nil]; omega) | (simp only [List.length_append, List.length_cons, List.length_nil]; omega) | (rw [List.length_set]; omega) | (rw [List.length_replicate]; omega) | (simp; omega))) rfl ?_; rintro _ h_q18_7 ⟨rfl, q18_7⟩
        refine sq_end ?_
        rw [hpj] at q18_7
        refine qs_bn ?_
        refine qs_n ?_
        refine wp_sq ?_
        refine sq_v rfl (v_add rfl rfl ((by unfold I64; omega))) rfl ?_
        refine sq_v rfl (v_move rfl) rfl ?_
        refine sq_end ?_
        exact qs_bk (j + 1, A2.set (findI t.l (ls.getD j 0)).toNat ((idxL (permD t ls) m).getD j 0), h_q18_7) ⟨by (try dsimp only); omega, by (try dsimp only); rw [List.length_set]; exact hA2, ok.at_step hA2 (by omega) hAq, q18_7⟩ (by simp only; omega) ⟨rfl, rfl, rfl, rfl, rfl, rfl, rfl, rfl, rfl, rfl, rfl, rfl, rfl, rfl, rfl, rfl, rfl, (by first | rfl | exact ksub rfl (by first | omega | (simp; done) | (simp; omega))), trivial⟩ (fun _ s => s)
      · refine wp_ex ?_
        refine qs_x ?_
        refine qs_x ?_
        refine qs_bx ?_
        refine qs_n ?_
        refine wp_rj 9 [(0, true), (1, true), (2, true), (3, true), (4, true), (5, true), (6, true), (7, false), (8, false), (9, false), (10, false), (11, false)] mixed_ok (by kernel_rfl) ?_
        refine rj_v rfl rfl (v_fieldAddr fd_44_2 ty_25 (by decide) rfl) rfl ?_
        refine rj_v rfl rfl (v_loadB 3 ty_25 rfl rfl rfl) rfl ?_
        refine rj_v rfl rfl (v_loadNB 9 ty_31 rfl rfl rfl rfl) rfl ?_
        refine rj_v rfl rfl (v_loadNB 8 ty_44 rfl rfl rfl rfl) rfl ?_
        refine rj_v rfl rfl (v_fieldAddr fd_44_1 ty_25 (by decide) rfl) rfl ?_
        refine rj_v rfl rfl (v_loadB 8 ty_25 rfl rfl rfl) rfl ?_
        refine rj_v rfl rfl (v_move rfl) rfl ?_
        have hAe := ok.at_end hA2 (idx := idxL (permD t ls) m) (fun q hq => hAq q (by omega)); have hin : idxIn t.d A2 := (by rw [hAe]; exact ok.idx m); have ho := ok.off m; rw [← hAe] at ho; have hef := elt_fits ok.ten ho.2; have hel : (elt t.x (widthI k n) (offL t.d A2)).length ≤ 6 := (by unfold elt; rw [List.length_take]; omega)
        refine rj_u rfl rfl (x_callv rfl en_156 (fun w s => ct_s_l05Offset _ _ _ _ w (r2.mono (s.get 10 rfl)) (q48b.toR.mono (s.get 2 rfl)) (by first | assumption | omega) (by first | assumption | omega) (by first | assumption | omega))) rfl ?_
        refine rj_x rfl rfl (x_call rfl en_142 (fun w s => ct_s_l05Get _ _ _ _ _ _ _ _ w (by first | assumption | omega) (r3.mono (s.get 10 rfl)) (by first | assumption | omega) (by first | assumption | omega) (by first | assumption | omega))) rfl ?_; rintro v80 h80 r80
        refine rj_m 2 rfl rfl rfl rfl (m_appI 2 0 Tryz.underlying25 ty_3 rfl rfl rfl rfl qx rfl r80.toR (by first | omega | (simp only [List.length_cons, List.length_nil]; omega) | (simp only [List.length_append, List.length_cons, List.length_nil]; omega) | (rw [List.length_set]; omega) | (rw [List.length_replicate]; omega) | (simp; omega))) rfl ?_; intro v81 h_r81 r81
        refine rj_fv rfl rfl (v_fieldAddr fd_44_2 ty_25 (by decide) rfl) rfl ?_
        refine rj_m 4 rfl rfl rfl rfl (m_store1 4 ty_25 rfl rfl r81.toR.sl.one rfl (Nat.le_of_ble_eq_true rfl)) rfl ?_; rintro _ _ ⟨rfl, rfl⟩
        refine rj_end ?_
        refine qs_bn ?_
        refine qs_n ?_
        refine wp_sq ?_
        refine sq_v rfl (v_move rfl) rfl ?_
        refine sq_v rfl (v_add rfl rfl ((by unfold I64; omega))) rfl ?_
        refine sq_v rfl (v_assign rfl) rfl ?_
        refine sq_end ?_
        exact qs_bk (m + 1, A2, g2, v81, h_r81) ⟨by (try dsimp only); omega, hA2, q48b, by (try dsimp only); rw [permX_step, ← hAe]; exact r81⟩ (by simp only; omega) ⟨rfl, rfl, rfl, rfl, rfl, rfl, rfl, (by first | rfl | exact ksub rfl (by first | omega | (simp; done) | (simp; omega))), rfl, trivial⟩ (fun _ s => s.pick [2, 3, 4, 5, 6, 7, 8, 9, 10, 11] (by decide) rfl)
    · refine wp_ex ?_
      refine qs_x ?_
      refine qs_x ?_
      refine qs_bx ?_
      refine qs_n ?_
      refine wp_sc ?_
      refine wp_sq ?_
      refine sq_v rfl (v_loadNB 2 ty_44 rfl rfl rfl rfl) rfl ?_
      refine sq_m 6 rfl rfl (m_store 6 ty_44 rfl rfl rfl rfl (by simp [r43.toR.sl.one, q1.toR.sl.one, qx.toR.sl.one]) rfl (Nat.le_of_ble_eq_true rfl)) rfl ?_; rintro _ _ ⟨rfl, rfl⟩
      refine sq_end ?_
      refine qs_n ?_
      refine wp_rt ?_
      refine qs_close [box b6 _ _, hp w] [h43, h1, hx] (fun _ s => s.pick [6, 9, 3, 4, 0] (by decide) rfl) (fun md => ?_)
      exact qs_retc 1 rfl ty_44 rfl rfl rfl (fin_t 0 (i := 2) rfl rfl rfl ⟨_, _, _, rfl, _, _, _, r43, q1, (show IntsO (permX (widthI k n) t ls (permD t ls) (prodI (permD t ls)).toNat) vx hx by rw [show (prodI (permD t ls)).toNat = m by omega]; exact qx), md⟩)
theorem ct_u_axisOf (ls ds xs : List Int) (x : Int) (a b c : Value) (w : World) (r : IntsR ls a (hp w)) (r2 : IntsR ds b (hp w)) (r3 : IntsR xs c (hp w)) : Calls Tryz.prog 172 [tenV a b c, num x].toArray w (RetV w (num (findI ls x))) :=
  ct_i_axisOf ls x a b c w r r2.sl.one r3.sl.one
set_option maxHeartbeats 1000000 in
theorem ct_i_rawPermute (k p n : Int) (t : Ten) (ls : List Int) (a b c v : Value) (w : World) (r1 : IntsR t.l a (hp w)) (r2 : IntsR t.d b (hp w)) (r3 : IntsR t.x c (hp w)) (rl : IntsR ls v (hp w)) (ok : PermOK k p n t ls) :
    Calls Tryz.prog 169 [ringV k p n, tenV a b c, v].toArray w (Ret w emp (TenT (permT k n t ls))) := by
  have hlen := ok.len
  have hD := ok.dims
  have hDm := dims_mem hD
  have hD1 : ∀ d ∈ permD t ls, 1 ≤ d := fun d h => (hDm d h).1
  have htd := dims_mem (axes_dims ok.axes)
  have htd1 : ∀ d ∈ t.d, 1 ≤ d := fun d h => (htd d h).1
  have hsm := ok.small
  have hpr := ok.prod
  have hring := ok.ring
  have hDl := permD_len t ls
  have hw := width_range hring
  have hsl := stepsL_len ls t.l t.d
  have hsi := steps_in (labels := ls) (ls := t.l) htd1
  refine calls_in Tryz.func169 rfl Tryz.ntmps169 rfl (Sat.start w) ?_
  have hle0 := r1.le
  have hle1 := r2.le
  have hle2 := r3.le
  have hle3 := rl.le
  refine wp_sc ?_
  refine wp_sq ?_
  refine sq_x rfl (x_box rfl rfl) rfl ?_; rintro _ _ ⟨b3, rfl, rfl⟩
  refine sq_x rfl (x_box rfl rfl) rfl ?_; rintro _ _ ⟨b4, rfl, rfl⟩
  refine sq_x rfl (x_alloc ty_44 rfl) rfl ?_; rintro _ _ ⟨b6, rfl, rfl⟩
  refine sq_end ?_
  refine qs_n ?_
  refine wp_sc ?_
  refine wp_ra (σ := Nat × PH × Value × PH × Value) 7 (fun z_ => IntsO ls z_.2.2.2.2 z_.2.2.2.1 ∧ IntsO (List.replicate (ls.length : Int).toNat 0) z_.2.2.1 z_.2.1) (fun z_ => [(2, v), (3, .pointer (some ⟨b3, 0, none⟩)), (4, .pointer (some ⟨b4, 0, none⟩)), (6, .pointer (some ⟨b6, 0, none⟩)), (7, .pointer (some ⟨z_.1, 0, none⟩))]) (fun z_ => [box z_.1 [z_.2.2.2.2, z_.2.2.1, .slice none 0 0] 44, z_.2.1, z_.2.2.2.1, box b6 [.slice none 0 0, .slice none 0 0, .slice none 0 0] 44, box b4 [a, b, c] 44, box b3 [num k, num p, num n] 31, hp w]) mixed_ok (by kernel_rfl) ?_ ?_
  · refine ra_v (i := 0) (by kernel_rfl) rfl rfl (v_move rfl) rfl ?_
    refine ra_v (i := 2) (by kernel_rfl) rfl rfl (v_move rfl) rfl ?_
    refine ra_v (i := 3) (by kernel_rfl) rfl rfl (v_len Tryz.underlying25 rfl rl.sl) rfl ?_
    refine ra_3 (i := 1) (j := 4) (p := 6) (by kernel_rfl) ?_ ?_ ?_
    · refine ro_x rfl rfl (x_call rfl en_115 (fun w s => ct_i_copyInts _ _ w (rl.mono (s.get 3 rfl)) (by first | assumption | omega))) rfl ?_; rintro v13 h13 r13
      refine ra_2 (i := 4) (j := 6) (by kernel_rfl) ?_ ?_
      · refine ro_x rfl rfl (x_makeI Tryz.underlying25 ty_3 rfl rfl (by first | omega | (simp only [List.length_cons, List.length_nil]; omega) | (simp only [List.length_append, List.length_cons, List.length_nil]; omega) | (rw [List.length_set]; omega) | (rw [List.length_replicate]; omega) | (simp; omega)) (by first | omega | (simp only [List.length_cons, List.length_nil]; omega) | (simp only [List.length_append, List.length_cons, List.length_nil]; omega) | (rw [List.length_set]; omega) | (rw [List.length_replicate]; omega) | (simp; omega)) (by first | omega | (simp only [List.length_cons, List.length_nil]; omega) | (simp only [List.length_append, List.length_cons, List.length_nil]; omega) | (rw [List.length_set]; omega) | (rw [List.length_replicate]; omega) | (simp; omega))) rfl ?_; intro v16 h16 r16
        refine ra_rj [(5, true), (6, false), (7, false)] (by kernel_rfl) rfl ?_
        refine rj_v rfl rfl (v_build [v13, v16, .slice none 0 0] rfl (by obtain ⟨_, _, rfl⟩ := r13.toR.sl; obtain ⟨_, _, rfl⟩ := r16.toR.sl; kernel_rfl)) rfl ?_
        refine rj_x rfl rfl (x_alloc ty_44 rfl) rfl ?_; rintro _ _ ⟨b7, rfl, rfl⟩
        refine rj_m 0 rfl rfl rfl rfl (m_store 0 ty_44 rfl rfl rfl rfl (by simp [r13.toR.sl.one, r16.toR.sl.one, one_sl]) rfl (Nat.le_of_ble_eq_true rfl)) rfl ?_; rintro _ _ ⟨rfl, rfl⟩
        refine rj_end ?_
        exact qs_mid (b7, h16, v16, h13, v13) ⟨r13, r16⟩ ⟨rfl, rfl, rfl, rfl, rfl, trivial⟩ (fun _ s => s.pick [0, 1, 2, 3, 4, 5, 6] (by decide) rfl)
      · refine ro_x rfl rfl (x_alloc ty_44 rfl) rfl ?_; rintro _ _ ⟨b7, rfl, rfl⟩
        refine ra_rj [(4, false), (5, true), (7, false)] (by kernel_rfl) rfl ?_
        refine rj_x rfl rfl (x_makeI Tryz.underlying25 ty_3 rfl rfl (by first | omega | (simp only [List.length_cons, List.length_nil]; omega) | (simp only [List.length_append, List.length_cons, List.length_nil]; omega) | (rw [List.length_set]; omega) | (rw [List.length_replicate]; omega) | (simp; omega)) (by first | omega | (simp only [List.length_cons, List.length_nil]; omega) | (simp only [List.length_append, List.length_cons, List.length_nil]; omega) | (rw [List.length_set]; omega) | (rw [List.length_replicate]; omega) | (simp; omega)) (by first | omega | (simp only [List.length_cons, List.length_nil]; omega) | (simp only [List.length_append, List.length_cons, List.length_nil]; omega) | (rw [List.length_set]; omega) | (rw [List.length_replicate]; omega) | (simp; omega))) rfl ?_; intro v16 h16 r16
        refine rj_v rfl rfl (v_build [v13, v16, .slice none 0 0] rfl (by obtain ⟨_, _, rfl⟩ := r13.toR.sl; obtain ⟨_, _, rfl⟩ := r16.toR.sl; kernel_rfl)) rfl ?_
        refine rj_m 1 rfl rfl rfl rfl (m_store 1 ty_44 rfl rfl rfl rfl (by simp [r13.toR.sl.one, r16.toR.sl.one, one_sl]) rfl (Nat.le_of_ble_eq_true rfl)) rfl ?_; rintro _ _ ⟨rfl, rfl⟩
        refine rj_end ?_
        exact qs_mid (b7, h16, v16, h13, v13) ⟨r13, r16⟩ ⟨rfl, rfl, rfl, rfl, rfl, trivial⟩ (fun _ s => s.pick [1, 0, 2, 3, 4, 5, 6] (by decide) rfl)
    · refine ro_x rfl rfl (x_makeI Tryz.underlying25 ty_3 rfl rfl (by first | omega | (simp only [List.length_cons, List.length_nil]; omega) | (simp only [List.length_append, List.length_cons, List.length_nil]; omega) | (rw [List.length_set]; omega) | (rw [List.length_replicate]; omega) | (simp; omega)) (by first | omega | (simp only [List.length_cons, List.length_nil]; omega) | (simp only [List.length_append, List.length_cons, List.length_nil]; omega) | (rw [List.length_set]; omega) | (rw [List.length_replicate]; omega) | (simp; omega)) (by first | omega | (simp only [List.length_cons, List.length_nil]; omega) | (simp only [List.length_append, List.length_cons, List.length_nil]; omega) | (rw [List.length_set]; omega) | (rw [List.length_replicate]; omega) | (simp; omega))) rfl ?_; intro v16 h16 r16
      refine ra_2 (i := 1) (j := 6) (by kernel_rfl) ?_ ?_
      · refine ro_x rfl rfl (x_call rfl en_115 (fun w s => ct_i_copyInts _ _ w (rl.mono (s.get 4 rfl)) (by first | assumption | omega))) rfl ?_; rintro v13 h13 r13
        refine ra_rj [(5, true), (6, false), (7, false)] (by kernel_rfl) rfl ?_
        refine rj_v rfl rfl (v_build [v13, v16, .slice none 0 0] rfl (by obtain ⟨_, _, rfl⟩ := r13.toR.sl; obtain ⟨_, _, rfl⟩ := r16.toR.sl; kernel_rfl)) rfl ?_
        refine rj_x rfl rfl (x_alloc ty_44 rfl) rfl ?_; rintro _ _ ⟨b7, rfl, rfl⟩
        refine rj_m 0 rfl rfl rfl rfl (m_store 0 ty_44 rfl rfl rfl rfl (by simp [r13.toR.sl.one, r16.toR.sl.one, one_sl]) rfl (Nat.le_of_ble_eq_true rfl)) rfl ?_; rintro _ _ ⟨rfl, rfl⟩
        refine rj_end ?_
        exact qs_mid (b7, h16, v16, h13, v13) ⟨r13, r16⟩ ⟨rfl, rfl, rfl, rfl, rfl, trivial⟩ (fun _ s => s.pick [0, 2, 1, 3, 4, 5, 6] (by decide) rfl)
      · refine ro_x rfl rfl (x_alloc ty_44 rfl) rfl ?_; rintro _ _ ⟨b7, rfl, rfl⟩
        refine ra_rj [(1, false), (5, true), (7, false)] (by kernel_rfl) rfl ?_
        refine rj_x rfl rfl (x_call rfl en_115 (fun w s => ct_i_copyInts _ _ w (rl.mono (s.get 5 rfl)) (by first | assumption | omega))) rfl ?_; rintro v13 h13 r13
        refine rj_v rfl rfl (v_build [v13, v16, .slice none 0 0] rfl (by obtain ⟨_, _, rfl⟩ := r13.toR.sl; obtain ⟨_, _, rfl⟩ := r16.toR.sl; kernel_rfl)) rfl ?_
        refine rj_m 1 rfl rfl rfl rfl (m_store 1 ty_44 rfl rfl rfl rfl (by simp [r13.toR.sl.one, r16.toR.sl.one, one_sl]) rfl (Nat.le_of_ble_eq_true rfl)) rfl ?_; rintro _ _ ⟨rfl, rfl⟩
        refine rj_end ?_
        exact qs_mid (b7, h16, v16, h13, v13) ⟨r13, r16⟩ ⟨rfl, rfl, rfl, rfl, rfl, trivial⟩ (fun _ s => s.pick [1, 2, 0, 3, 4, 5, 6] (by decide) rfl)
    · refine ro_x rfl rfl (x_alloc ty_44 rfl) rfl ?_; rintro _ _ ⟨b7, rfl, rfl⟩
      refine ra_2 (i := 1) (j := 4) (by kernel_rfl) ?_ ?_
      · refine ro_x rfl rfl (x_call rfl en_115 (fun w s => ct_i_copyInts _ _ w (rl.mono (s.get 4 rfl)) (by first | assumption | omega))) rfl ?_; rintro v13 h13 r13
        refine ra_rj [(4, false), (5, true), (7, false)] (by kernel_rfl) rfl ?_
        refine rj_x rfl rfl (x_makeI Tryz.underlying25 ty_3 rfl rfl (by first | omega | (simp only [List.length_cons, List.length_nil]; omega) | (simp only [List.length_append, List.length_cons, List.length_nil]; omega) | (rw [List.length_set]; omega) | (rw [List.length_replicate]; omega) | (simp; omega)) (by first | omega | (simp only [List.length_cons, List.length_nil]; omega) | (simp only [List.length_append, List.length_cons, List.length_nil]; omega) | (rw [List.length_set]; omega) | (rw [List.length_replicate]; omega) | (simp; omega)) (by first | omega | (simp only [List.length_cons, List.length_nil]; omega) | (simp only [List.length_append, List.length_cons, List.length_nil]; omega) | (rw [List.length_set]; omega) | (rw [List.length_replicate]; omega) | (simp; omega))) rfl ?_; intro v16 h16 r16
        refine rj_v rfl rfl (v_build [v13, v16, .slice none 0 0] rfl (by obtain ⟨_, _, rfl⟩ := r13.toR.sl; obtain ⟨_, _, rfl⟩ := r16.toR.sl; kernel_rfl)) rfl ?_
        refine rj_m 2 rfl rfl rfl rfl (m_store 2 ty_44 rfl rfl rfl rfl (by simp [r13.toR.sl.one, r16.toR.sl.one, one_sl]) rfl (Nat.le_of_ble_eq_true rfl)) rfl ?_; rintro _ _ ⟨rfl, rfl⟩
        refine rj_end ?_
        exact qs_mid (b7, h16, v16, h13, v13) ⟨r13, r16⟩ ⟨rfl, rfl, rfl, rfl, rfl, trivial⟩ (fun _ s => s.pick [2, 0, 1, 3, 4, 5, 6] (by decide) rfl)
      · refine ro_x rfl rfl (x_makeI Tryz.underlying25 ty_3 rfl rfl (by first | omega | (simp only [List.length_cons, List.length_nil]; omega) | (simp only [List.length_append, List.length_cons, List.length_nil]; omega) | (rw [List.length_set]; omega) | (rw [List.length_replicate]; omega) | (simp; omega)) (by first | omega | (simp only [List.length_cons, List.length_nil]; omega) | (simp only [List.length_append, List.length_cons, List.length_nil]; omega) | (rw [List.length_set]; omega) | (rw [List.length_replicate]; omega) | (simp; omega)) (by first | omega | (simp only [List.length_cons, List.length_nil]; omega) | (simp only [List.length_append, List.length_cons, List.length_nil]; omega) | (rw [List.length_set]; omega) | (rw [List.length_replicate]; omega) | (simp; omega))) rfl ?_; intro v16 h16 r16
        refine ra_rj [(1, false), (5, true), (7, false)] (by kernel_rfl) rfl ?_
        refine rj_x rfl rfl (x_call rfl en_115 (fun w s => ct_i_copyInts _ _ w (rl.mono (s.get 5 rfl)) (by first | assumption | omega))) rfl ?_; rintro v13 h13 r13
        refine rj_v rfl rfl (v_build [v13, v16, .slice none 0 0] rfl (by obtain ⟨_, _, rfl⟩ := r13.toR.sl; obtain ⟨_, _, rfl⟩ := r16.toR.sl; kernel_rfl)) rfl ?_
        refine rj_m 2 rfl rfl rfl rfl (m_store 2 ty_44 rfl rfl rfl rfl (by simp [r13.toR.sl.one, r16.toR.sl.one, one_sl]) rfl (Nat.le_of_ble_eq_true rfl)) rfl ?_; rintro _ _ ⟨rfl, rfl⟩
        refine rj_end ?_
        exact qs_mid (b7, h16, v16, h13, v13) ⟨r13, r16⟩ ⟨rfl, rfl, rfl, rfl, rfl, trivial⟩ (fun _ s => s.pick [2, 1, 0, 3, 4, 5, 6] (by decide) rfl)
  · rintro ⟨b7, h16, v16, h13, v13⟩ ⟨r13, r16⟩
    dsimp only at r13 r16 ⊢
    refine qs_n ?_
    refine wp_sc ?_
    refine wp_sc ?_
    refine wp_sq ?_
    refine sq_v rfl (v_move rfl) rfl ?_
    refine sq_v rfl (v_len Tryz.underlying25 rfl rl.sl) rfl ?_
    refine sq_v rfl (v_move rfl) rfl ?_
    refine sq_end ?_
    refine qs_n ?_
    refine wp_bl ?_
    refine wp_lp (σ := Nat × PH) (fun z_ => [(2, v), (3, .pointer (some ⟨b3, 0, none⟩)), (4, .pointer (some ⟨b4, 0, none⟩)), (6, .pointer (some ⟨b6, 0, none⟩)), (7, .pointer (some ⟨b7, 0, none⟩)), (18, v), (19, num ls.length), (20, num z_.1)]) (fun z_ => [box b7 [v13, v16, .slice none 0 0] 44, z_.2, h13, box b6 [.slice none 0 0, .slice none 0 0, .slice none 0 0] 44, box b4 [a, b, c] 44, box b3 [num k, num p, num n] 31, hp w]) (fun z_ => z_.1 ≤ ls.length ∧ IntsO ((permD t ls).take z_.1 ++ List.replicate ((permD t ls).length - z_.1) 0) v16 z_.2) (fun z_ => ls.length - z_.1) (0, h16) (⟨by (try dsimp only); omega, by (try dsimp only); simpa [hDl] using r16⟩) ⟨rfl, rfl, rfl, rfl, rfl, rfl, rfl, (by first | rfl | exact ksub rfl (by first | omega | (simp; done) | (simp; omega))), trivial⟩ (fun _ s => s) ?_
    rintro ⟨i, g⟩ ⟨hi, q⟩
    dsimp only at hi q ⊢
    have hle_q := q.toR.le
    have hll : ((permD t ls).take i ++ List.replicate ((permD t ls).length - i) 0).length = ls.length := by simp; omega
    refine wp_sc ?_
    refine wp_sq ?_
    refine sq_v rfl (v_lss rfl rfl) rfl ?_
    refine sq_end ?_
    refine qs_n ?_
    refine wp_sc ?_
    refine wp_cd rfl (fun c21 => ?_) (fun c21 => ?_)
    · refine wp_sk ?_
      refine qs_n ?_
      refine wp_sc ?_
      refine wp_bl ?_
      refine wp_sc ?_
      refine wp_sq ?_
      refine sq_v rfl (v_move rfl) rfl ?_
      refine sq_v rfl (v_idxI Tryz.underlying25 ty_3 rfl rfl rl (by first | omega | (simp only [List.length_cons, List.length_nil]; omega) | (simp only [List.length_append, List.length_cons, List.length_nil]; omega) | (rw [List.length_set]; omega) | (rw [List.length_replicate]; omega) | (simp; omega)) (by first | omega | (simp only [List.length_cons, List.length_nil]; omega) | (simp only [List.length_append, List.length_cons, List.length_nil]; omega) | (rw [List.length_set]; omega) | (rw [List.length_replicate]; omega) | (simp; omega))) rfl ?_
      refine sq_v rfl (v_loadI (k := i) 6 ty_3 rfl rfl rl (by first | omega | (simp only [List.length_cons, List.length_nil]; omega) | (simp only [List.length_append, List.length_cons, List.length_nil]; omega) | (rw [List.length_set]; omega) | (rw [List.length_replicate]; omega) | (simp; omega))) rfl ?_
      refine sq_v rfl (v_assign rfl) rfl ?_
      refine sq_v rfl (v_assign rfl) rfl ?_
      refine sq_end ?_
      refine qs_n ?_
      refine wp_rj 11 [(0, true), (1, true), (2, true), (3, true), (4, true), (5, true), (6, true), (7, false), (8, true), (9, true), (10, true), (11, false)] mixed_ok (by kernel_rfl) ?_
      refine rj_v rfl rfl (v_fieldAddr fd_44_1 ty_25 (by decide) rfl) rfl ?_
      refine rj_v rfl rfl (v_loadB 0 ty_25 rfl rfl rfl) rfl ?_
      refine rj_v rfl rfl (v_move rfl) rfl ?_
      refine rj_v rfl rfl (v_fieldAddr fd_44_1 ty_25 (by decide) rfl) rfl ?_
      refine rj_v rfl rfl (v_loadB 4 ty_25 rfl rfl rfl) rfl ?_
      refine rj_v rfl rfl (v_loadNB 4 ty_44 rfl rfl rfl rfl) rfl ?_
      refine rj_v rfl rfl (v_move rfl) rfl ?_
      refine rj_u rfl rfl (x_callv rfl en_172 (fun w s => ct_u_axisOf _ _ _ _ _ _ _ w (r1.mono (s.get 6 rfl)) (r2.mono (s.get 6 rfl)) (r3.mono (s.get 6 rfl)))) rfl ?_
      have hf := ok.find (j := i) (by omega)
      refine rj_v rfl rfl (v_idxI Tryz.underlying25 ty_3 rfl rfl r2 (by first | omega | (simp only [List.length_cons, List.length_nil]; omega) | (simp only [List.length_append, List.length_cons, List.length_nil]; omega) | (rw [List.length_set]; omega) | (rw [List.length_replicate]; omega) | (simp; omega)) (by first | omega | (simp only [List.length_cons, List.length_nil]; omega) | (simp only [List.length_append, List.length_cons, List.length_nil]; omega) | (rw [List.length_set]; omega) | (rw [List.length_replicate]; omega) | (simp; omega))) rfl ?_
      refine rj_v rfl rfl (v_loadI  6 ty_3 rfl rfl r2 (by first | omega | (simp only [List.length_cons, List.length_nil]; omega) | (simp only [List.length_append, List.length_cons, List.length_nil]; omega) | (rw [List.length_set]; omega) | (rw [List.length_replicate]; omega) | (simp; omega))) rfl ?_
      refine rj_v rfl rfl (v_idxI Tryz.underlying25 ty_3 rfl rfl q.toR (by first | omega | (simp only [List.length_cons, List.length_nil]; omega) | (simp only [List.length_append, List.length_cons, List.length_nil]; omega) | (rw [List.length_set]; omega) | (rw [List.length_replicate]; omega) | (simp; omega)) (by first | omega | (simp only [List.length_cons, List.length_nil]; omega) | (simp only [List.length_append, List.length_cons, List.length_nil]; omega) | (rw [List.length_set]; omega) | (rw [List.length_replicate]; omega) | (simp; omega))) rfl ?_
      refine rj_m 1 rfl rfl rfl rfl (m_storeI (k := i) 1 ty_3 rfl rfl rfl q (by first | omega | (simp only [List.length_cons, List.length_nil]; omega) | (simp only [List.length_append, List.length_cons, List.length_nil]; omega) | (rw [List.length_set]; omega) | (rw [List.length_replicate]; omega) | (simp; omega))) rfl ?_; rintro _ h_q5_11 ⟨rfl, q5_11⟩
      refine rj_end ?_
      refine qs_bn ?_
      refine qs_n ?_
      refine wp_sq ?_
      refine sq_v rfl (v_add rfl rfl ((by unfold I64; omega))) rfl ?_
      refine sq_v rfl (v_move rfl) rfl ?_
      refine sq_end ?_
      exact qs_bk (i + 1, h_q5_11) ⟨by (try dsimp only); omega, by (try dsimp only); rw [← set_prefix (by omega), permD, idxAt, map_getD (by omega)]; exact q5_11⟩ (by simp only; omega) ⟨rfl, rfl, rfl, rfl, rfl, rfl, rfl, (by first | rfl | exact ksub rfl (by first | omega | (simp; done) | (simp; omega))), trivial⟩ (fun _ s => s)
    · refine wp_ex ?_
      refine qs_x ?_
      refine qs_x ?_
      refine qs_bx ?_
      refine qs_n ?_
      refine wp_sc ?_
      refine wp_sq ?_
      refine sq_v rfl (v_loadNB 4 ty_44 rfl rfl rfl rfl) rfl ?_
      refine sq_v rfl (v_move rfl) rfl ?_
      rw [List.take_of_length_le (by omega), show (permD t ls).length - i = 0 by omega, List.replicate_zero, List.append_nil] at q;
      refine sq_x rfl (x_call rfl en_163 (fun w s => ct_i_stridesOf _ _ _ _ _ _ _ w (r1.mono (s.get 6 rfl)) (r2.mono (s.get 6 rfl)) (rl.mono (s.get 6 rfl)) (by first | assumption | omega) (by first | assumption | omega) (by first | assumption | omega) (by first | assumption | omega))) rfl ?_; rintro v39 h39 r39
      refine sq_v rfl (v_assign rfl) rfl ?_
      refine sq_end ?_
      refine qs_n ?_
      refine wp_sc ?_
      refine wp_sq ?_
      refine sq_v rfl (v_move rfl) rfl ?_
      refine sq_v rfl (v_len Tryz.underlying25 rfl rl.sl) rfl ?_
      refine sq_x rfl (x_makeI Tryz.underlying25 ty_3 rfl rfl (by first | omega | (simp only [List.length_cons, List.length_nil]; omega) | (simp only [List.length_append, List.length_cons, List.length_nil]; omega) | (rw [List.length_set]; omega) | (rw [List.length_replicate]; omega) | (simp; omega)) (by first | omega | (simp only [List.length_cons, List.length_nil]; omega) | (simp only [List.length_append, List.length_cons, List.length_nil]; omega) | (rw [List.length_set]; omega) | (rw [List.length_replicate]; omega) | (simp; omega)) (by first | omega | (simp only [List.length_cons, List.length_nil]; omega) | (simp only [List.length_append, List.length_cons, List.length_nil]; omega) | (rw [List.length_set]; omega) | (rw [List.length_replicate]; omega) | (simp; omega))) rfl ?_; intro v42 h42 r42
      refine sq_v rfl (v_assign rfl) rfl ?_
      refine sq_end ?_
      refine qs_n ?_
      refine wp_bl ?_
      refine wp_lp (σ := Nat × PH × Value × PH) (fun z_ => [(3, .pointer (some ⟨b3, 0, none⟩)), (4, .pointer (some ⟨b4, 0, none⟩)), (6, .pointer (some ⟨b6, 0, none⟩)), (7, .pointer (some ⟨b7, 0, none⟩)), (10, v39), (11, v42)]) (fun z_ => [z_.2.2.2, z_.2.1, h39, box b7 [v13, v16, z_.2.2.1] 44, g, h13, box b6 [.slice none 0 0, .slice none 0 0, .slice none 0 0] 44, box b4 [a, b, c] 44, box b3 [num k, num p, num n] 31, hp w]) (fun z_ => z_.1 < (prodI (permD t ls)).toNat ∧ IntsO (idxL (permD t ls) z_.1) v42 z_.2.1 ∧ IntsO (permX (widthI k n) t ls (permD t ls) z_.1) z_.2.2.1 z_.2.2.2) (fun z_ => (prodI (permD t ls)).toNat - z_.1) (0, h42, .slice none 0 0, emp) (⟨by (try dsimp only); omega, by (try dsimp only); rw [show ((0 : Nat) : Int) = 0 from rfl, idxL_zero, hDl]; simpa using r42, IntsO.nil⟩) ⟨rfl, rfl, rfl, rfl, rfl, rfl, trivial⟩ (fun _ s => (emp_sat s)) ?_
      rintro ⟨m, g2, vx, hx⟩ ⟨hm, q42, qx⟩
      dsimp only at hm q42 qx ⊢
      have hle_q42 := q42.toR.le
      have hle_qx := qx.toR.le
      have hxl := permX_len ok m
      have hil := idxL_len (permD t ls) m
      have hii := idxL_in hD1 m
      have hdt := ok.dot m
      have ho := ok.off m
      have hef := elt_fits ok.ten ho.2
      have hel : (elt t.x (widthI k n) (offL t.d (idxAt ls (idxL (permD t ls) m) t.l))).length ≤ 6 := by unfold elt; rw [List.length_take]; omega
      have hb : ∀ b ∈ idxL (permD t ls) m, 0 ≤ b ∧ b ≤ 1048576 := all_of fun j hj => by have := hii.2 j (by omega); have := hD j (by omega); omega
      refine wp_bl ?_
      refine wp_sc ?_
      refine wp_rj 8 [(0, true), (1, true), (2, true), (3, true), (4, true), (5, true), (6, false), (7, false), (8, false), (9, false), (10, false)] mixed_ok (by kernel_rfl) ?_
      refine rj_v rfl rfl (v_fieldAddr fd_44_2 ty_25 (by decide) rfl) rfl ?_
      refine rj_v rfl rfl (v_loadB 3 ty_25 rfl rfl rfl) rfl ?_
      refine rj_v rfl rfl (v_loadNB 8 ty_31 rfl rfl rfl rfl) rfl ?_
      refine rj_v rfl rfl (v_loadNB 7 ty_44 rfl rfl rfl rfl) rfl ?_
      refine rj_v rfl rfl (v_move rfl) rfl ?_
      refine rj_v rfl rfl (v_move rfl) rfl ?_
      refine rj_u rfl rfl (x_callv rfl en_165 (fun w s => ct_i_dotOf _ _ _ _ w (r39.toR.mono (s.get 2 rfl)) (q42.toR.mono (s.get 1 rfl)) (fun a h => by have := hsi a h; omega) (by first | assumption | omega) (by first | assumption | omega) (by first | assumption | omega))) rfl ?_
      rw [hdt] at *
      refine rj_u rfl rfl (x_callv rfl en_146 (fun w s => ct_i_rawElem _ _ _ _ _ _ _ _ w (by first | assumption | omega) (r3.mono (s.get 9 rfl)) (by first | assumption | omega) (by first | assumption | omega) (by first | assumption | omega))) rfl ?_
      refine rj_m 0 rfl rfl rfl rfl (m_appI 0 9 Tryz.underlying25 ty_3 rfl rfl rfl rfl qx rfl (eltV_read r3 (by first | assumption | omega) (by first | assumption | omega) (by first | assumption | omega)) (by first | omega | (simp only [List.length_cons, List.length_nil]; omega) | (simp only [List.length_append, List.length_cons, List.length_nil]; omega) | (rw [List.length_set]; omega) | (rw [List.length_replicate]; omega) | (simp; omega))) rfl ?_; intro v51 h_r51 r51
      refine rj_fv rfl rfl (v_fieldAddr fd_44_2 ty_25 (by decide) rfl) rfl ?_
      refine rj_m 3 rfl rfl rfl rfl (m_store1 3 ty_25 rfl rfl r51.toR.sl.one rfl (Nat.le_of_ble_eq_true rfl)) rfl ?_; rintro _ _ ⟨rfl, rfl⟩
      refine rj_end ?_
      refine qs_n ?_
      refine wp_sc ?_
      refine wp_sq ?_
      refine sq_v rfl (v_fieldAddr fd_44_1 ty_25 (by decide) rfl) rfl ?_
      refine sq_v rfl (v_loadB 3 ty_25 rfl rfl rfl) rfl ?_
      refine sq_v rfl (v_move rfl) rfl ?_
      refine sq_m 1 rfl rfl (x_call rfl en_167 (fun w s => ct_i_nextIndex _ _ _ _ w _ (s.get 1 rfl) (q.toR.mono (s.getR 1 4 rfl rfl (by decide))) q42 (by first | assumption | omega) (by first | assumption | omega) (by first | assumption | omega))) rfl ?_; rintro _ h56 ⟨rfl, r56⟩
      refine sq_v rfl (v_not rfl) rfl ?_
      refine sq_end ?_
      refine qs_n ?_
      refine wp_cnd rfl (fun c57 => ?_) (fun c57 => ?_)
      · refine wp_sc ?_
        refine wp_sq ?_
        refine sq_v rfl (v_loadNB 3 ty_44 rfl rfl rfl rfl) rfl ?_
        refine sq_m 6 rfl rfl (m_store 6 ty_44 rfl rfl rfl rfl (by simp [r13.toR.sl.one, q.toR.sl.one, r51.toR.sl.one]) rfl (Nat.le_of_ble_eq_true rfl)) rfl ?_; rintro _ _ ⟨rfl, rfl⟩
        refine sq_end ?_
        refine qs_n ?_
        refine wp_rt ?_
        refine qs_br ?_
        refine qs_r ?_
        refine qs_br ?_
        refine qs_close [box b6 _ _, hp w] [h13, g, h_r51] (fun _ s => s.pick [6, 9, 5, 4, 0] (by decide) rfl) (fun md => ?_)
        exact qs_retc 1 rfl ty_44 rfl rfl rfl (fin_t 0 (i := 2) rfl rfl rfl ⟨_, _, _, rfl, _, _, _, r13, q, (show IntsO (permX (widthI k n) t ls (permD t ls) (prodI (permD t ls)).toNat) v51 h_r51 by rw [show (prodI (permD t ls)).toNat = m + 1 by omega, permX_step]; exact r51), md⟩)
      · refine wp_sk ?_
        refine qs_bn ?_
        exact qs_bk (m + 1, h56, v51, h_r51) ⟨by (try dsimp only); omega, r56, by (try dsimp only); rw [permX_step]; exact r51⟩ (by simp only; omega) ⟨rfl, rfl, rfl, rfl, rfl, rfl, trivial⟩ (fun _ s => s)
end Go.Proofs.YtehjljijionhaaaGreat
namespace Go.Proofs.YtehjljijionhaaaGreat
set_option maxRecDepth 100000
open Go.RowKit
theorem Made.un {a b : PH} {la lb : List PH} (ma : Made a la) (mb : Made b lb) (hd : PDj a b) : Made (PUn a b) (la ++ lb) := by
  refine ⟨sepL_append.2 ⟨ma.sep, mb.sep, fun x hx y hy => (((hd.mono (ma.le x hx)).symm).mono (mb.le y hy)).symm⟩, fun x hx => ?_, fun k o e => ?_⟩
  · rcases List.mem_append.1 hx with hx | hx
    · exact (ma.le x hx).trans (PLe.un_l _ _)
    · exact (mb.le x hx).trans (PLe.un_r hd)
  · unfold PUn at e
    split at e
    · rename_i y hy
      cases e
      obtain ⟨x, hx, hxe⟩ := ma.dom k _ hy
      exact ⟨x, by simp [hx], hxe⟩
    · obtain ⟨x, hx, hxe⟩ := mb.dom k _ e
      exact ⟨x, by simp [hx], hxe⟩
/-- Slices that own their cells, all in one part. -/
def OwnH (xss : List (List Int)) (vs : List Value) (h : PH) : Prop := ∃ l, OwnL xss vs l ∧ Made h l
theorem OwnH.nil : OwnH [] [] emp := ⟨[], OwnL.nil, ⟨trivial, fun x hx => by simp at hx, fun k o e => by cases e⟩⟩
theorem OwnH.snoc {ts : List Ten} {t : Ten} {vs : List Value} {a b c : Value} {h h' : PH} (o : OwnH (flat ts) vs h) (r : TriO t a b c h') (hd : PDj h h') : OwnH (flat (ts ++ [t])) (vs ++ [a, b, c]) (PUn h h') := by
  obtain ⟨l, ol, m⟩ := o
  obtain ⟨h1, h2, h3, r1, r2, r3, m'⟩ := r
  refine ⟨l ++ [h1, h2, h3], ?_, m.un m' hd⟩
  rw [flat_append]
  exact ol.append (OwnL.three r1 r2 r3)
theorem ten_len {k p n : Int} {t : Ten} (h : tensorL k p n t.l t.d t.x) : t.l.length ≤ 12 ∧ t.d.length ≤ 12 ∧ t.x.length ≤ 17592186044416 := by
  have hax := tensor_axes h
  have h1 := prodI_one fun d hd => (dims_mem (axes_dims hax) d hd).1
  have := elt_fits h (i := 0) (by omega)
  exact ⟨hax.1, by have := hax.2.1; have := hax.1; omega, this.2⟩
theorem ct_i_copyTensor (t : Ten) (a b c : Value) (w : World) (r1 : IntsR t.l a (hp w)) (r2 : IntsR t.d b (hp w)) (r3 : IntsR t.x c (hp w)) (hl : t.l.length ≤ 12 ∧ t.d.length ≤ 12 ∧ t.x.length ≤ 17592186044416) :
    Calls Tryz.prog 137 [tenV a b c].toArray w (Ret w emp (TenT t)) := by
  refine calls_in Tryz.func137 rfl Tryz.ntmps137 rfl (Sat.start w) ?_
  have hle0 := r1.le
  have hle1 := r2.le
  have hle2 := r3.le
  refine wp_sc ?_
  refine wp_sq ?_
  refine sq_x rfl (x_box rfl rfl) rfl ?_; rintro _ _ ⟨b1, rfl, rfl⟩
  refine sq_x rfl (x_alloc ty_44 rfl) rfl ?_; rintro _ _ ⟨b2, rfl, rfl⟩
  refine sq_end ?_
  refine qs_n ?_
  refine wp_sc ?_
  refine wp_rj 10 [(0, true), (1, true), (3, true), (4, true), (6, true), (7, true), (2, false), (5, false), (8, false), (9, true), (10, false)] mixed_ok (by kernel_rfl) ?_
  refine rj_v rfl rfl (v_fieldAddr fd_44_0 ty_25 (by decide) rfl) rfl ?_
  refine rj_v rfl rfl (v_loadB 1 ty_25 rfl rfl rfl) rfl ?_
  refine rj_v rfl rfl (v_fieldAddr fd_44_1 ty_25 (by decide) rfl) rfl ?_
  refine rj_v rfl rfl (v_loadB 1 ty_25 rfl rfl rfl) rfl ?_
  refine rj_v rfl rfl (v_fieldAddr fd_44_2 ty_25 (by decide) rfl) rfl ?_
  refine rj_v rfl rfl (v_loadB 1 ty_25 rfl rfl rfl) rfl ?_
  refine rj_x rfl rfl (x_call rfl en_115 (fun w s => ct_i_copyInts _ _ w (r1.mono (s.get 2 rfl)) (by first | assumption | omega))) rfl ?_; rintro v5 h5 r5
  refine rj_x rfl rfl (x_call rfl en_115 (fun w s => ct_i_copyInts _ _ w (r2.mono (s.get 3 rfl)) (by first | assumption | omega))) rfl ?_; rintro v8 h8 r8
  refine rj_x rfl rfl (x_call rfl en_115 (fun w s => ct_i_copyInts _ _ w (r3.mono (s.get 4 rfl)) (by first | assumption | omega))) rfl ?_; rintro v11 h11 r11
  refine rj_v rfl rfl (v_build [v5, v8, v11] rfl (by obtain ⟨_, _, rfl⟩ := r5.toR.sl; obtain ⟨_, _, rfl⟩ := r8.toR.sl; obtain ⟨_, _, rfl⟩ := r11.toR.sl; kernel_rfl)) rfl ?_
  refine rj_m 3 rfl rfl rfl rfl (m_store 3 ty_44 rfl rfl rfl rfl (by simp [r5.toR.sl.one, r8.toR.sl.one, r11.toR.sl.one]) rfl (Nat.le_of_ble_eq_true rfl)) rfl ?_; rintro _ _ ⟨rfl, rfl⟩
  refine rj_end ?_
  refine qs_n ?_
  refine wp_rt ?_
  refine qs_close [box b2 _ _, hp w] [h5, h8, h11] (fun _ s => s.pick [3, 5, 2, 1, 0] (by decide) rfl) (fun md => ?_)
  exact qs_retc 1 rfl ty_44 rfl rfl rfl (fin_t 0 (i := 2) rfl rfl rfl ⟨_, _, _, rfl, _, _, _, r5, r8, r11, md⟩)
set_option maxHeartbeats 2000000 in
theorem ct_i_copyNetwork (k p n : Int) (ts : List Ten) (op : List Int) (vt vo : Value) (w : World) (r : TensR ts vt (hp w)) (r' : IntsR op vo (hp w)) (hnet : netL k p n ts op) (hs : op.length ≤ 1048576) :
    Calls Tryz.prog 85 [netV k p n vt vo].toArray w (Ret w emp (NetT k p n ts op)) := by
  have h12 := hnet.2.1
  refine calls_in Tryz.func85 rfl Tryz.ntmps85 rfl (Sat.start w) ?_
  have hle0 := r.le
  obtain ⟨cs_r, rr_r, hc_r⟩ := r.at
  have hle1 := r'.le
  refine wp_sc ?_
  refine wp_sq ?_
  refine sq_x rfl (x_box rfl rfl) rfl ?_; rintro _ _ ⟨b1, rfl, rfl⟩
  refine sq_x rfl (x_alloc ty_34 rfl) rfl ?_; rintro _ _ ⟨b2, rfl, rfl⟩
  refine sq_end ?_
  refine qs_n ?_
  refine wp_sc ?_
  refine wp_ra (σ := Nat × PH × Value) 7 (fun z_ => IntsO op z_.2.2 z_.2.1) (fun z_ => [(1, .pointer (some ⟨b1, 0, none⟩)), (2, .pointer (some ⟨b2, 0, none⟩)), (3, .pointer (some ⟨z_.1, 0, none⟩))]) (fun z_ => [box z_.1 [num k, num p, num n, .slice none 0 0, z_.2.2] 34, z_.2.1, box b2 [num 0, num 0, num 0, .slice none 0 0, .slice none 0 0] 34, box b1 [num k, num p, num n, vt, vo] 34, hp w]) mixed_ok (by kernel_rfl) ?_ ?_
  · refine ra_v (i := 0) (by kernel_rfl) rfl rfl (v_fieldAddr fd_34_0 ty_31 (by decide) rfl) rfl ?_
    refine ra_v (i := 1) (by kernel_rfl) rfl rfl (v_loadNB 1 ty_31 rfl rfl rfl rfl) rfl ?_
    refine ra_v (i := 2) (by kernel_rfl) rfl rfl (v_fieldAddr fd_34_2 ty_25 (by decide) rfl) rfl ?_
    refine ra_v (i := 3) (by kernel_rfl) rfl rfl (v_loadB 1 ty_25 rfl rfl rfl) rfl ?_
    refine ra_2 (i := 4) (j := 6) (by kernel_rfl) ?_ ?_
    · refine ro_x rfl rfl (x_call rfl en_115 (fun w s => ct_i_copyInts _ _ w (r'.mono (s.get 2 rfl)) (by first | assumption | omega))) rfl ?_; rintro v10 h10 r10
      refine ra_rj [(5, true), (6, false), (7, false)] (by kernel_rfl) rfl ?_
      refine rj_v rfl rfl (v_build [num k, num p, num n, .slice none 0 0, v10] rfl (by obtain ⟨_, _, rfl⟩ := r10.toR.sl; kernel_rfl)) rfl ?_
      refine rj_x rfl rfl (x_alloc ty_34 rfl) rfl ?_; rintro _ _ ⟨b3, rfl, rfl⟩
      refine rj_m 0 rfl rfl rfl rfl (m_store 0 ty_34 rfl rfl rfl rfl (by simp [one_int, one_sl, r10.toR.sl.one]) rfl (Nat.le_of_ble_eq_true rfl)) rfl ?_; rintro _ _ ⟨rfl, rfl⟩
      refine rj_end ?_
      exact qs_mid (b3, h10, v10) (r10) ⟨rfl, rfl, rfl, trivial⟩ (fun _ s => s.pick [0, 1, 2, 3, 4] (by decide) rfl)
    · refine ro_x rfl rfl (x_alloc ty_34 rfl) rfl ?_; rintro _ _ ⟨b3, rfl, rfl⟩
      refine ra_rj [(4, false), (5, true), (7, false)] (by kernel_rfl) rfl ?_
      refine rj_x rfl rfl (x_call rfl en_115 (fun w s => ct_i_copyInts _ _ w (r'.mono (s.get 3 rfl)) (by first | assumption | omega))) rfl ?_; rintro v10 h10 r10
      refine rj_v rfl rfl (v_build [num k, num p, num n, .slice none 0 0, v10] rfl (by obtain ⟨_, _, rfl⟩ := r10.toR.sl; kernel_rfl)) rfl ?_
      refine rj_m 1 rfl rfl rfl rfl (m_store 1 ty_34 rfl rfl rfl rfl (by simp [one_int, one_sl, r10.toR.sl.one]) rfl (Nat.le_of_ble_eq_true rfl)) rfl ?_; rintro _ _ ⟨rfl, rfl⟩
      refine rj_end ?_
      exact qs_mid (b3, h10, v10) (r10) ⟨rfl, rfl, rfl, trivial⟩ (fun _ s => s.pick [1, 0, 2, 3, 4] (by decide) rfl)
  · rintro ⟨b3, h10, v10⟩ r10
    dsimp only at r10 ⊢
    refine qs_n ?_
    refine wp_sc ?_
    refine wp_sc ?_
    refine wp_sq ?_
    refine sq_v rfl (v_fieldAddr fd_34_1 ty_32 (by decide) rfl) rfl ?_
    refine sq_v rfl (v_loadB 3 ty_32 rfl rfl rfl) rfl ?_
    refine sq_v rfl (v_len Tryz.underlying32 rfl r.sl) rfl ?_
    refine sq_v rfl (v_move rfl) rfl ?_
    refine sq_end ?_
    refine qs_n ?_
    refine wp_bl ?_
    refine wp_lp (σ := Nat × Value × PH × (List Value) × PH) (fun z_ => [(2, .pointer (some ⟨b2, 0, none⟩)), (3, .pointer (some ⟨b3, 0, none⟩)), (13, vt), (14, num ts.length), (15, num z_.1)]) (fun z_ => [z_.2.2.2.2, z_.2.2.1, box b3 [num k, num p, num n, z_.2.1, v10] 34, h10, box b2 [num 0, num 0, num 0, .slice none 0 0, .slice none 0 0] 34, box b1 [num k, num p, num n, vt, vo] 34, hp w]) (fun z_ => z_.1 ≤ ts.length ∧ OwnH (flat (ts.take z_.1)) z_.2.2.2.1 z_.2.2.2.2 ∧ RowO (44) z_.2.2.2.1 z_.1 3 z_.2.1 z_.2.2.1) (fun z_ => ts.length - z_.1) (0, .slice none 0 0, emp, [], emp) (⟨by (try dsimp only); omega, OwnH.nil, RowO.nil⟩) ⟨rfl, rfl, rfl, rfl, (by first | rfl | exact ksub rfl (by first | omega | (simp; done) | (simp; omega))), trivial⟩ (fun _ s => (emp_sat (emp_sat s))) ?_
    rintro ⟨i, lx, ha, cs, hl⟩ ⟨hi, hlv, rr⟩
    dsimp only at hi hlv rr ⊢
    refine wp_sc ?_
    refine wp_sq ?_
    refine sq_v rfl (v_lss rfl rfl) rfl ?_
    refine sq_end ?_
    refine qs_n ?_
    refine wp_sc ?_
    refine wp_cd rfl (fun c16 => ?_) (fun c16 => ?_)
    · refine wp_sk ?_
      refine qs_n ?_
      refine wp_sc ?_
      refine wp_bl ?_
      refine wp_sc ?_
      refine wp_sq ?_
      obtain ⟨t17, a17, b17, c17, ht17, hcs17, rl17, rd17, rx17⟩ := hc_r (i) (by first | omega | (rw [List.length_set]; omega))
      refine sq_v rfl (v_indexAddr Tryz.underlying32 ty_44 rfl rfl rr_r (by decide) (by omega) (by omega)) rfl ?_
      refine sq_v rfl (v_loadNE 6 ty_44 rfl rfl rr_r (by have := rr_r.1; omega) rfl hcs17) rfl ?_
      refine sq_x rfl (x_alloc ty_44 rfl) rfl ?_; rintro _ _ ⟨b5, rfl, rfl⟩
      refine sq_m 0 rfl rfl (m_store 0 ty_44 rfl rfl rfl rfl (by simp [rl17.sl.one, rd17.sl.one, rx17.sl.one]) rfl (Nat.le_of_ble_eq_true rfl)) rfl ?_; rintro _ _ ⟨rfl, rfl⟩
      refine sq_end ?_
      have hl17 := ten_len (hnet.2.2.1 t17 (List.mem_of_getElem? ht17))
      refine qs_n ?_
      refine wp_rj 5 [(0, true), (1, true), (2, true), (3, false), (4, false), (5, false), (6, false), (7, false)] mixed_ok (by kernel_rfl) ?_
      refine rj_v rfl rfl (v_fieldAddr fd_34_1 ty_32 (by decide) rfl) rfl ?_
      refine rj_v rfl rfl (v_loadB 3 ty_32 rfl rfl rfl) rfl ?_
      refine rj_v rfl rfl (v_loadNB 0 ty_44 rfl rfl rfl rfl) rfl ?_
      refine rj_x rfl rfl (x_call rfl en_137 (fun w s => ct_i_copyTensor _ _ _ _ w (rl17.mono (s.get 7 rfl)) (rd17.mono (s.get 7 rfl)) (rx17.mono (s.get 7 rfl)) (by first | assumption | omega))) rfl ?_; rintro _ h22 ⟨va22, vb22, vc22, rfl, o22⟩
      refine rj_x rfl rfl (x_buildS [.agg [va22, vb22, vc22].toArray] Tryz.underlying32 ty_44 (by decide) rfl rfl rfl (by decide) (by decide) (by intro v hv; simp at hv; subst hv; rfl)) rfl ?_; intro v23 h23 (r23 : RowO 44 [va22, vb22, vc22] 1 3 v23 h23)
      refine rj_m 4 rfl rfl rfl rfl (m_append 4 0 Tryz.underlying32 ty_44 rfl rfl (by decide) rfl rfl rfl rr rfl r23.toR (by simp [o22.toR.1.sl.one, o22.toR.2.1.sl.one, o22.toR.2.2.sl.one]) (by unfold maxLen; omega) (by omega)) rfl ?_; intro v24 h_r24 (r24 : RowO 44 (cs ++ [va22, vb22, vc22]) (i + 1) 3 v24 h_r24)
      refine rj_fv rfl rfl (v_fieldAddr fd_34_1 ty_32 (by decide) rfl) rfl ?_
      refine rj_m 5 rfl rfl rfl rfl (m_store1 5 ty_32 rfl rfl r24.toR.sl.one rfl (Nat.le_of_ble_eq_true rfl)) rfl ?_; rintro _ _ ⟨rfl, rfl⟩
      refine rj_end ?_
      refine qs_bn ?_
      refine qs_n ?_
      refine wp_sq ?_
      refine sq_v rfl (v_add rfl rfl ((by unfold I64; omega))) rfl ?_
      refine sq_v rfl (v_move rfl) rfl ?_
      refine sq_end ?_
      refine qs_dj 3 1 rfl rfl rfl (fun hdj => ?_)
      exact qs_bk (i + 1, v24, h_r24, cs ++ [va22, vb22, vc22], PUn hl h22) ⟨by (try dsimp only); omega, by (try dsimp only); rw [take_ten ht17]; exact hlv.snoc o22 hdj, r24⟩ (by simp only; omega) ⟨rfl, rfl, rfl, rfl, (by first | rfl | exact ksub rfl (by first | omega | (simp; done) | (simp; omega))), trivial⟩ (fun _ s => Sat.merge (s.pick [3, 1, 4, 5, 6, 7, 8, 9] (by decide) rfl))
    · refine wp_ex ?_
      refine qs_x ?_
      refine qs_x ?_
      refine qs_bx ?_
      refine qs_n ?_
      refine wp_sc ?_
      refine wp_sq ?_
      refine sq_v rfl (v_loadNB 2 ty_34 rfl rfl rfl rfl) rfl ?_
      refine sq_m 4 rfl rfl (m_store 4 ty_34 rfl rfl rfl rfl (by simp [one_int, rr.toR.sl.one, r10.toR.sl.one]) rfl (Nat.le_of_ble_eq_true rfl)) rfl ?_; rintro _ _ ⟨rfl, rfl⟩
      refine sq_end ?_
      refine qs_n ?_
      refine wp_rt ?_
      have ei : i = ts.length := by omega
      subst ei
      rw [List.take_length] at hlv
      obtain ⟨l, ol, md⟩ := hlv
      refine qs_close [box b2 _ _, hp w] (ha :: h10 :: l) (fun _ s => Sat.open (A := [box b2 [num k, num p, num n, lx, v10] 34, hp w, ha, h10]) md (s.pick [0, 4, 6, 1, 3] (by decide) rfl)) (fun md2 => ?_)
      exact qs_retc 1 rfl ty_34 rfl rfl rfl (fin_t 0 (i := 2) rfl rfl rfl ⟨_, _, rfl, cs, ha, h10, l, rr, r10, ol, md2⟩)
end Go.Proofs.YtehjljijionhaaaGreat
namespace Go.Proofs.YtehjljijionhaaaGreat
set_option maxRecDepth 100000
open Go.RowKit
theorem TriO.none : TriO ⟨[], [], []⟩ (.slice none 0 0) (.slice none 0 0) (.slice none 0 0) emp :=
  ⟨emp, emp, emp, IntsO.nil, IntsO.nil, IntsO.nil, ⟨by simp [sepL, PDj.emp], fun x hx => by simp at hx; subst hx; exact PLe.emp _, fun k o e => by cases e⟩⟩
def fitP (k p n : Int) (t u : Ten) : Prop := tensorL k p n t.l t.d t.x ∧ tensorL k p n u.l u.d u.x ∧ setL t.l u.l ∧ permD u t.l = t.d
def FitR (k p n : Int) (t u : Ten) (x : Value) (h : PH) : Prop := ∃ T a b c bb, x = .tuple [tenV a b c, .bool bb].toArray ∧ TriO T a b c h ∧ (bb = true ↔ fitP k p n t u) ∧ (bb = true → T = permT k n u t.l)
theorem FitR.no {k p n : Int} {t u : Ten} (h : ¬ fitP k p n t u) : FitR k p n t u (.tuple [tenV (.slice none 0 0) (.slice none 0 0) (.slice none 0 0), .bool false].toArray) emp :=
  ⟨⟨[], [], []⟩, _, _, _, false, rfl, TriO.none, ⟨fun e => (by cases e), fun e => absurd e h⟩, fun e => (by cases e)⟩
end Go.Proofs.YtehjljijionhaaaGreat
namespace Go.Proofs.YtehjljijionhaaaGreat
set_option maxRecDepth 100000
open Go.RowKit
theorem ct_i_keptOnly (ls ks : List Int) (v u : Value) (w : World) (r : IntsR ls v (hp w)) (r' : IntsR ks u (hp w)) (hs : ls.length ≤ 1000000) :
    Calls Tryz.prog 162 [v, u].toArray w (Ret w emp (IntsO (ls.filter fun x => decide (x ∈ ks)))) := by
  refine calls_in Tryz.func162 rfl Tryz.ntmps162 rfl (Sat.start w) ?_
  have hle0 := r.le
  have hle1 := r'.le
  refine wp_sc ?_
  refine wp_sq ?_
  refine sq_v rfl (v_assign rfl) rfl ?_
  refine sq_end ?_
  refine qs_n ?_
  refine wp_sc ?_
  refine wp_sq ?_
  refine sq_v rfl (v_assign rfl) rfl ?_
  refine sq_end ?_
  refine qs_n ?_
  refine wp_sc ?_
  refine wp_sc ?_
  refine wp_sq ?_
  refine sq_v rfl (v_move rfl) rfl ?_
  refine sq_v rfl (v_len Tryz.underlying25 rfl r.sl) rfl ?_
  refine sq_v rfl (v_move rfl) rfl ?_
  refine sq_end ?_
  refine qs_n ?_
  refine wp_bl ?_
  refine wp_lp (σ := Nat × Value × PH) (fun z_ => [(1, u), (4, .slice none 0 0), (5, z_.2.1), (8, v), (9, num ls.length), (10, num z_.1)]) (fun z_ => [z_.2.2, hp w]) (fun z_ => z_.1 ≤ ls.length ∧ IntsO ((ls.take z_.1).filter fun x => decide (x ∈ ks)) z_.2.1 z_.2.2) (fun z_ => ls.length - z_.1) (0, .slice none 0 0, emp) (⟨by (try dsimp only); omega, IntsO.nil⟩) ⟨rfl, rfl, (by first | rfl | exact ksub rfl (by first | omega | (simp; done) | (simp; omega))), rfl, rfl, (by first | rfl | exact ksub rfl (by first | omega | (simp; done) | (simp; omega))), trivial⟩ (fun _ s => (emp_sat s)) ?_
  rintro ⟨i, lv, lh⟩ ⟨hi, q⟩
  dsimp only at hi q ⊢
  have hle_q := q.toR.le
  have hfl := filter_take_len ls (fun x => decide (x ∈ ks)) i
  refine wp_sc ?_
  refine wp_sq ?_
  refine sq_v rfl (v_lss rfl rfl) rfl ?_
  refine sq_end ?_
  refine qs_n ?_
  refine wp_sc ?_
  refine wp_cd rfl (fun c11 => ?_) (fun c11 => ?_)
  · refine wp_sk ?_
    refine qs_n ?_
    refine wp_sc ?_
    refine wp_bl ?_
    refine wp_sc ?_
    refine wp_sq ?_
    refine sq_v rfl (v_idxI Tryz.underlying25 ty_3 rfl rfl r (by first | omega | (simp only [List.length_cons, List.length_nil]; omega) | (simp only [List.length_append, List.length_cons, List.length_nil]; omega) | (rw [List.length_set]; omega) | (rw [List.length_replicate]; omega) | (simp; omega)) (by first | omega | (simp only [List.length_cons, List.length_nil]; omega) | (simp only [List.length_append, List.length_cons, List.length_nil]; omega) | (rw [List.length_set]; omega) | (rw [List.length_replicate]; omega) | (simp; omega))) rfl ?_
    refine sq_v rfl (v_loadI (k := i) 1 ty_3 rfl rfl r (by first | omega | (simp only [List.length_cons, List.length_nil]; omega) | (simp only [List.length_append, List.length_cons, List.length_nil]; omega) | (rw [List.length_set]; omega) | (rw [List.length_replicate]; omega) | (simp; omega))) rfl ?_
    refine sq_v rfl (v_assign rfl) rfl ?_
    refine sq_end ?_
    refine qs_n ?_
    refine wp_sc ?_
    refine wp_sq ?_
    refine sq_v rfl (v_move rfl) rfl ?_
    refine sq_v rfl (v_move rfl) rfl ?_
    refine sq_u rfl (x_callv rfl en_141 (fun w s => ct_i_hasInt _ _ _ w (r'.mono (s.get 1 rfl)))) rfl ?_
    refine sq_end ?_
    refine qs_n ?_
    refine wp_cd rfl (fun c16 => ?_) (fun c16 => ?_)
    · refine wp_sq ?_
      refine sq_v rfl (v_move rfl) rfl ?_
      refine sq_v rfl (v_move rfl) rfl ?_
      refine sq_x rfl (x_buildS [num (ls.getD i 0)] Tryz.underlying25 ty_3 (by decide) rfl rfl rfl (by decide) (by decide) (by intro v hv; simp at hv; rcases hv with rfl <;> rfl)) rfl ?_; intro v19 h19 (r19 : IntsO [ls.getD i 0] v19 h19)
      refine sq_m 1 rfl rfl (m_appI 1 0 Tryz.underlying25 ty_3 rfl rfl rfl rfl q rfl r19.toR (by first | omega | (simp only [List.length_cons, List.length_nil]; omega) | (simp only [List.length_append, List.length_cons, List.length_nil]; omega) | (rw [List.length_set]; omega) | (rw [List.length_replicate]; omega) | (simp; omega))) rfl ?_; intro v20 h_r20 r20
      refine sq_v rfl (v_assign rfl) rfl ?_
      refine sq_end ?_
      refine qs_bn ?_
      refine qs_n ?_
      refine wp_sq ?_
      refine sq_v rfl (v_add rfl rfl ((by unfold I64; omega))) rfl ?_
      refine sq_v rfl (v_move rfl) rfl ?_
      refine sq_end ?_
      exact qs_bk (i + 1, v20, h_r20) ⟨by (try dsimp only); omega, by (try dsimp only); rw [filter_yes (by omega) (by simpa using c16)]; exact r20⟩ (by simp only; omega) ⟨rfl, rfl, (by first | rfl | exact ksub rfl (by first | omega | (simp; done) | (simp; omega))), rfl, rfl, (by first | rfl | exact ksub rfl (by first | omega | (simp; done) | (simp; omega))), trivial⟩ (fun _ s => s.pick [1, 2] (by decide) rfl)
    · refine wp_sk ?_
      refine qs_bn ?_
      refine qs_n ?_
      refine wp_sq ?_
      refine sq_v rfl (v_add rfl rfl ((by unfold I64; omega))) rfl ?_
      refine sq_v rfl (v_move rfl) rfl ?_
      refine sq_end ?_
      exact qs_bk (i + 1, lv, lh) ⟨by (try dsimp only); omega, by (try dsimp only); rw [filter_no (by omega) (by simpa using c16)]; exact q⟩ (by simp only; omega) ⟨rfl, rfl, (by first | rfl | exact ksub rfl (by first | omega | (simp; done) | (simp; omega))), rfl, rfl, (by first | rfl | exact ksub rfl (by first | omega | (simp; done) | (simp; omega))), trivial⟩ (fun _ s => s)
  · refine wp_ex ?_
    refine qs_x ?_
    refine qs_x ?_
    refine qs_bx ?_
    refine qs_n ?_
    refine wp_sc ?_
    refine wp_sq ?_
    refine sq_v rfl (v_move rfl) rfl ?_
    refine sq_v rfl (v_assign rfl) rfl ?_
    refine sq_end ?_
    refine qs_n ?_
    refine wp_rt ?_
    exact qs_ret1 rfl rfl (fin_t 0 (i := 1) rfl rfl rfl (by rw [List.take_of_length_le (by omega)] at q; exact q))
set_option maxHeartbeats 1000000 in
theorem ct_s_l08Steps (ls ds xs labels : List Int) (a b c v : Value) (w : World) (r1 : IntsR ls a (hp w)) (r2 : IntsR ds b (hp w)) (r3 : IntsR xs c (hp w)) (r : IntsR labels v (hp w)) (hl : ls.length = ds.length) (hn : labels.Nodup) (hd : ∀ d ∈ ds, 1 ≤ d ∧ d ≤ 8) (hp1 : prodI ds ≤ 1000000000000) (hs : labels.length ≤ 1048576) (hm : ∀ l ∈ ls, l ∈ labels) :
    Calls Tryz.prog 157 [tenV a b c, v].toArray w (Ret w emp (IntsO (stepsL labels ls ds))) := by
  have hd1 : ∀ d ∈ ds, 1 ≤ d := fun d h => (hd d h).1
  refine calls_in Tryz.func157 rfl Tryz.ntmps157 rfl (Sat.start w) ?_
  have hle0 := r1.le
  have hle1 := r2.le
  have hle2 := r3.le
  have hle3 := r.le
  refine wp_sc ?_
  refine wp_sq ?_
  refine sq_x rfl (x_box rfl rfl) rfl ?_; rintro _ _ ⟨b2, rfl, rfl⟩
  refine sq_v rfl (v_assign rfl) rfl ?_
  refine sq_end ?_
  refine qs_n ?_
  refine wp_sc ?_
  refine wp_sq ?_
  refine sq_v rfl (v_move rfl) rfl ?_
  refine sq_v rfl (v_len Tryz.underlying25 rfl r.sl) rfl ?_
  refine sq_x rfl (x_makeI Tryz.underlying25 ty_3 rfl rfl (by first | omega | (simp only [List.length_cons, List.length_nil]; omega) | (simp only [List.length_append, List.length_cons, List.length_nil]; omega) | (rw [List.length_set]; omega) | (rw [List.length_replicate]; omega) | (simp; omega)) (by first | omega | (simp only [List.length_cons, List.length_nil]; omega) | (simp only [List.length_append, List.length_cons, List.length_nil]; omega) | (rw [List.length_set]; omega) | (rw [List.length_replicate]; omega) | (simp; omega)) (by first | omega | (simp only [List.length_cons, List.length_nil]; omega) | (simp only [List.length_append, List.length_cons, List.length_nil]; omega) | (rw [List.length_set]; omega) | (rw [List.length_replicate]; omega) | (simp; omega))) rfl ?_; intro v11 h11 r11
  refine sq_v rfl (v_assign rfl) rfl ?_
  refine sq_end ?_
  refine qs_n ?_
  refine wp_sc ?_
  refine wp_sq ?_
  refine sq_v rfl (v_assign rfl) rfl ?_
  refine sq_end ?_
  refine qs_n ?_
  refine wp_sc ?_
  refine wp_sc ?_
  refine wp_sq ?_
  refine sq_v rfl (v_fieldAddr fd_44_0 ty_25 (by decide) rfl) rfl ?_
  refine sq_v rfl (v_loadB 1 ty_25 rfl rfl rfl) rfl ?_
  refine sq_v rfl (v_len Tryz.underlying25 rfl r1.sl) rfl ?_
  refine sq_v rfl (v_sub rfl rfl ((by unfold I64; omega))) rfl ?_
  refine sq_v rfl (v_assign rfl) rfl ?_
  refine sq_end ?_
  refine qs_n ?_
  refine wp_bl ?_
  refine wp_lp (σ := Nat × Int × PH) (fun z_ => [(1, v), (2, .pointer (some ⟨b2, 0, none⟩)), (4, .slice none 0 0), (5, v11), (6, num z_.2.1), (7, num ((z_.1 : Int) - 1))]) (fun z_ => [z_.2.2, box b2 [a, b, c] 44, hp w]) (fun z_ => z_.1 ≤ ds.length ∧ z_.2.1 = prodI (ds.drop z_.1) ∧ IntsO (stepsL labels (ls.drop z_.1) (ds.drop z_.1)) v11 z_.2.2) (fun z_ => z_.1) (ds.length, 1, h11) (⟨by (try dsimp only); omega, by (try dsimp only); simp [prodI], by (try dsimp only); rw [steps_end (by omega)]; simpa using r11⟩) ⟨rfl, rfl, rfl, rfl, (by first | rfl | exact ksub rfl (by first | omega | (simp; done) | (simp; omega))), (by first | rfl | exact ksub rfl (by first | omega | (simp; done) | (simp; omega))), trivial⟩ (fun _ s => s) ?_
  rintro ⟨m, st, g⟩ ⟨hm', hst, q⟩
  dsimp only at hm' hst q ⊢
  have hle_q := q.toR.le
  have hpd := prodI_drop hd1 m
  have hpd1 := prodI_drop hd1 (m - 1)
  have hlB := stepsL_len labels (ls.drop m) (ds.drop m)
  have em : ((m : Int) - 1).toNat = m - 1 := by omega
  refine wp_sc ?_
  refine wp_sc ?_
  refine wp_sq ?_
  refine sq_v rfl (v_move rfl) rfl ?_
  refine sq_v rfl (v_geq rfl rfl) rfl ?_
  refine sq_end ?_
  refine qs_n ?_
  refine wp_cd rfl (fun c17 => ?_) (fun c17 => ?_)
  · refine wp_sk ?_
    refine qs_n ?_
    refine wp_sc ?_
    refine wp_bl ?_
    refine wp_sc ?_
    refine wp_sc ?_
    refine wp_sq ?_
    refine sq_v rfl (v_move rfl) rfl ?_
    refine sq_v rfl (v_fieldAddr fd_44_0 ty_25 (by decide) rfl) rfl ?_
    refine sq_v rfl (v_loadB 1 ty_25 rfl rfl rfl) rfl ?_
    refine sq_v rfl (v_move rfl) rfl ?_
    refine sq_v rfl (v_idxI Tryz.underlying25 ty_3 rfl rfl r1 (by first | omega | (simp only [List.length_cons, List.length_nil]; omega) | (simp only [List.length_append, List.length_cons, List.length_nil]; omega) | (rw [List.length_set]; omega) | (rw [List.length_replicate]; omega) | (simp; omega)) (by first | omega | (simp only [List.length_cons, List.length_nil]; omega) | (simp only [List.length_append, List.length_cons, List.length_nil]; omega) | (rw [List.length_set]; omega) | (rw [List.length_replicate]; omega) | (simp; omega))) rfl ?_
    refine sq_v rfl (v_loadI  2 ty_3 rfl rfl r1 (by first | omega | (simp only [List.length_cons, List.length_nil]; omega) | (simp only [List.length_append, List.length_cons, List.length_nil]; omega) | (rw [List.length_set]; omega) | (rw [List.length_replicate]; omega) | (simp; omega))) rfl ?_
    refine sq_u rfl (x_callv rfl en_136 (fun w s => ct_s_l05Find _ _ _ w (r.mono (s.get 2 rfl)))) rfl ?_
    refine sq_v rfl (v_assign rfl) rfl ?_
    refine sq_end ?_
    have hfm : ls.getD ((m : Int) - 1).toNat 0 ∈ labels := hm _ (mem_getD (by omega))
    have hfg := findI_get hfm
    have hf0 := findI_ge.2 hfm
    refine qs_n ?_
    refine wp_sc ?_
    refine wp_sq ?_
    refine sq_v rfl (v_move rfl) rfl ?_
    refine sq_v rfl (v_geq rfl rfl) rfl ?_
    refine sq_end ?_
    refine qs_n ?_
    refine wp_cd rfl (fun c28 => ?_) (fun c28 => ?_)
    · refine wp_sq ?_
      refine sq_v rfl (v_move rfl) rfl ?_
      refine sq_v rfl (v_move rfl) rfl ?_
      refine sq_v rfl (v_move rfl) rfl ?_
      refine sq_v rfl (v_idxI Tryz.underlying25 ty_3 rfl rfl q.toR (by first | omega | (simp only [List.length_cons, List.length_nil]; omega) | (simp only [List.length_append, List.length_cons, List.length_nil]; omega) | (rw [List.length_set]; omega) | (rw [List.length_replicate]; omega) | (simp; omega)) (by first | omega | (simp only [List.length_cons, List.length_nil]; omega) | (simp only [List.length_append, List.length_cons, List.length_nil]; omega) | (rw [List.length_set]; omega) | (rw [List.length_replicate]; omega) | (simp; omega))) rfl ?_
      refine sq_m 0 rfl rfl (m_storeI 0 ty_3 rfl rfl rfl q (by first | omega | (simp only [List.length_cons, List.length_nil]; omega) | (simp only [List.length_append, List.length_cons, List.length_nil]; omega) | (rw [List.length_set]; omega) | (rw [List.length_replicate]; omega) | (simp; omega))) rfl ?_; rintro _ h_q8_4 ⟨rfl, q8_4⟩
      refine sq_end ?_
      refine qs_n ?_
      refine wp_sq ?_
      refine sq_v rfl (v_move rfl) rfl ?_
      refine sq_v rfl (v_fieldAddr fd_44_1 ty_25 (by decide) rfl) rfl ?_
      refine sq_v rfl (v_loadB 1 ty_25 rfl rfl rfl) rfl ?_
      refine sq_v rfl (v_move rfl) rfl ?_
      refine sq_v rfl (v_idxI Tryz.underlying25 ty_3 rfl rfl r2 (by first | omega | (simp only [List.length_cons, List.length_nil]; omega) | (simp only [List.length_append, List.length_cons, List.length_nil]; omega) | (rw [List.length_set]; omega) | (rw [List.length_replicate]; omega) | (simp; omega)) (by first | omega | (simp only [List.length_cons, List.length_nil]; omega) | (simp only [List.length_append, List.length_cons, List.length_nil]; omega) | (rw [List.length_set]; omega) | (rw [List.length_replicate]; omega) | (simp; omega))) rfl ?_
      refine sq_v rfl (v_loadI  2 ty_3 rfl rfl r2 (by first | omega | (simp only [List.length_cons, List.length_nil]; omega) | (simp only [List.length_append, List.length_cons, List.length_nil]; omega) | (rw [List.length_set]; omega) | (rw [List.length_replicate]; omega) | (simp; omega))) rfl ?_
      have hpn := prod_next (ds := ds) (m := m) (by omega) hm'
      refine sq_v rfl (v_mul rfl rfl ((by rw [em, hst, ← hpn]; unfold I64; omega))) rfl ?_
      refine sq_v rfl (v_assign rfl) rfl ?_
      refine sq_end ?_
      refine qs_bn ?_
      refine qs_n ?_
      refine wp_sq ?_
      refine sq_v rfl (v_move rfl) rfl ?_
      refine sq_v rfl (v_sub rfl rfl ((by unfold I64; omega))) rfl ?_
      refine sq_v rfl (v_assign rfl) rfl ?_
      refine sq_end ?_
      exact qs_bk (m - 1, st * ds.getD ((m : Int) - 1).toNat 0, h_q8_4) ⟨by (try dsimp only); omega, by (try dsimp only); rw [em, hst, ← hpn], by (try dsimp only); rw [em] at q8_4; rw [drop_cons (xs := ls) (i := m - 1) (by omega), drop_cons (xs := ds) (i := m - 1) (by omega), show m - 1 + 1 = m by omega, steps_cons hn (by rw [← em]; exact hfm), ← hst]; exact q8_4⟩ (by simp only; omega) ⟨rfl, rfl, rfl, rfl, (by first | rfl | exact ksub rfl (by first | omega | (simp; done) | (simp; omega))), (by first | rfl | exact ksub rfl (by first | omega | (simp; done) | (simp; omega))), trivial⟩ (fun _ s => s)
    · refine wp_sk ?_
      refine qs_n ?_
      refine wp_sq ?_
      refine sq_v rfl (v_move rfl) rfl ?_
      refine sq_v rfl (v_fieldAddr fd_44_1 ty_25 (by decide) rfl) rfl ?_
      refine sq_v rfl (v_loadB 1 ty_25 rfl rfl rfl) rfl ?_
      refine sq_v rfl (v_move rfl) rfl ?_
      refine sq_v rfl (v_idxI Tryz.underlying25 ty_3 rfl rfl r2 (by first | omega | (simp only [List.length_cons, List.length_nil]; omega) | (simp only [List.length_append, List.length_cons, List.length_nil]; omega) | (rw [List.length_set]; omega) | (rw [List.length_replicate]; omega) | (simp; omega)) (by first | omega | (simp only [List.length_cons, List.length_nil]; omega) | (simp only [List.length_append, List.length_cons, List.length_nil]; omega) | (rw [List.length_set]; omega) | (rw [List.length_replicate]; omega) | (simp; omega))) rfl ?_
      refine sq_v rfl (v_loadI  2 ty_3 rfl rfl r2 (by first | omega | (simp only [List.length_cons, List.length_nil]; omega) | (simp only [List.length_append, List.length_cons, List.length_nil]; omega) | (rw [List.length_set]; omega) | (rw [List.length_replicate]; omega) | (simp; omega))) rfl ?_
      have hpn := prod_next (ds := ds) (m := m) (by omega) hm'
      refine sq_v rfl (v_mul rfl rfl ((by rw [em, hst, ← hpn]; unfold I64; omega))) rfl ?_
      refine sq_v rfl (v_assign rfl) rfl ?_
      refine sq_end ?_
      refine qs_bn ?_
      refine qs_n ?_
      refine wp_sq ?_
      refine sq_v rfl (v_move rfl) rfl ?_
      refine sq_v rfl (v_sub rfl rfl ((by unfold I64; omega))) rfl ?_
      refine sq_v rfl (v_assign rfl) rfl ?_
      refine sq_end ?_
      exact absurd hf0 (by omega)
  · refine wp_ex ?_
    refine qs_x ?_
    refine qs_x ?_
    refine qs_bx ?_
    refine qs_n ?_
    refine wp_sc ?_
    refine wp_sq ?_
    refine sq_v rfl (v_move rfl) rfl ?_
    refine sq_v rfl (v_assign rfl) rfl ?_
    refine sq_end ?_
    refine qs_n ?_
    refine wp_rt ?_
    exact qs_ret1 rfl rfl (fin_t 0 (i := 2) rfl rfl rfl (by rw [show m = 0 by omega] at q; exact q))
theorem ct_i_scalarOne (k p n : Int) (w : World) (h : ringL k p n) : Calls Tryz.prog 73 [ringV k p n].toArray w (Ret w emp (TenT ⟨[], [], oneL k p n⟩)) := by
  refine calls_in Tryz.func73 rfl Tryz.ntmps73 rfl (Sat.start w) ?_
  refine wp_sc ?_
  refine wp_sq ?_
  refine sq_x rfl (x_box rfl rfl) rfl ?_; rintro _ _ ⟨b1, rfl, rfl⟩
  refine sq_x rfl (x_alloc ty_44 rfl) rfl ?_; rintro _ _ ⟨b2, rfl, rfl⟩
  refine sq_end ?_
  refine qs_n ?_
  refine wp_sc ?_
  refine wp_sq ?_
  refine sq_v rfl (v_loadNB 1 ty_31 rfl rfl rfl rfl) rfl ?_
  refine sq_x rfl (x_call rfl en_87 (fun w s => ct_i_rawOne _ _ _ w (by first | assumption | omega))) rfl ?_; rintro v4 h4 r4
  refine sq_v rfl (v_build [.slice none 0 0, .slice none 0 0, v4] rfl (by obtain ⟨_, _, rfl⟩ := r4.toR.sl; kernel_rfl)) rfl ?_
  refine sq_m 1 rfl rfl (m_store 1 ty_44 rfl rfl rfl rfl (by simp [one_sl, r4.toR.sl.one]) rfl (Nat.le_of_ble_eq_true rfl)) rfl ?_; rintro _ _ ⟨rfl, rfl⟩
  refine sq_end ?_
  refine qs_n ?_
  refine wp_rt ?_
  refine qs_close [box b2 _ _, hp w] [emp, emp, h4] (fun _ s => by have s1 := emp_sat (emp_sat (s.pick (HS' := [h4, box b2 [.slice none 0 0, .slice none 0 0, v4] 44, hp w]) [0, 1, 3] (by decide) rfl)); exact s1.pick [3, 4, 0, 1, 2] (by decide) rfl) (fun md => ?_)
  exact qs_retc 1 rfl ty_44 rfl rfl rfl (fin_t 0 (i := 2) rfl rfl rfl ⟨_, _, _, rfl, _, _, _, IntsO.nil, IntsO.nil, r4, md⟩)
end Go.Proofs.YtehjljijionhaaaGreat
namespace Go.Proofs.YtehjljijionhaaaGreat
set_option maxRecDepth 100000
open Go.RowKit
def dimJ (t u : Ten) (x : Int) : Int := if x ∈ t.l then t.d.getD (findI t.l x).toNat 0 else u.d.getD (findI u.l x).toNat 0
theorem map_find {ls ds : List Int} (hn : ls.Nodup) (hl : ls.length = ds.length) : ds = ls.map fun x => ds.getD (findI ls x).toNat 0 := by
  apply ext_getD
  · simp [hl]
  · intro j hj
    rw [map_getD (by omega), find_at' hn (by omega)]
    simp
theorem dimJ_l {t u : Ten} (hn : t.l.Nodup) (hl : t.l.length = t.d.length) : t.d = t.l.map (dimJ t u) := by
  conv => lhs; rw [map_find hn hl]
  exact List.map_congr_left fun x hx => by simp [dimJ, hx]
theorem dimJ_r {t u : Ten} (hn : u.l.Nodup) (hl : u.l.length = u.d.length) (hm : ¬ mism t u) : u.d = u.l.map (dimJ t u) := by
  conv => lhs; rw [map_find hn hl]
  refine List.map_congr_left fun x hx => ?_
  by_cases h : x ∈ t.l
  · have hg := findI_get hx
    have : ¬ (t.d.getD (findI t.l x).toNat 0 ≠ u.d.getD (findI u.l x).toNat 0) := fun hne => hm ⟨(findI u.l x).toNat, hg.1, by rw [hg.2]; exact ⟨h, hne⟩⟩
    simp only [dimJ, h, if_true]
    omega
  · simp [dimJ, h]
/-- Two tensors that can be joined. -/
structure PairOK (k p n : Int) (t u : Ten) (f : Int → Int) : Prop where
  tt : tensorL k p n t.l t.d t.x
  uu : tensorL k p n u.l u.d u.x
  ht : t.d = t.l.map f
  hu : u.d = u.l.map f
  work : prodI ((joinI t.l u.l).map f) ≤ 65536
theorem ten_axes {k p n : Int} {ls ds xs : List Int} (h : tensorL k p n ls ds xs) : axesL ls ds := (sizeI_ge.1 h.2.1).1
theorem ten_prod {k p n : Int} {ls ds xs : List Int} (h : tensorL k p n ls ds xs) : prodI ds ≤ 4096 := (sizeI_ge.1 h.2.1).2
theorem PairOK.nd {k p n : Int} {t u : Ten} {f : Int → Int} (h : PairOK k p n t u f) : (joinI t.l u.l).Nodup := joinI_nodup (axes_nodup (ten_axes h.tt)) (axes_nodup (ten_axes h.uu))
theorem PairOK.dim {k p n : Int} {t u : Ten} {f : Int → Int} (h : PairOK k p n t u f) : ∀ x ∈ joinI t.l u.l, 1 ≤ f x ∧ f x ≤ 8 := fun x hx => by
  rcases mem_joinI.1 hx with hx | hx
  · exact dims_mem (axes_dims (ten_axes h.tt)) _ (by rw [h.ht]; exact List.mem_map_of_mem hx)
  · exact dims_mem (axes_dims (ten_axes h.uu)) _ (by rw [h.hu]; exact List.mem_map_of_mem hx)
theorem map_dim {f : Int → Int} {L ls : List Int} (hf : ∀ x ∈ L, 1 ≤ f x ∧ f x ≤ 8) (hs : ∀ l ∈ ls, l ∈ L) : ∀ d ∈ ls.map f, 1 ≤ d ∧ d ≤ 8 := fun d hd => by
  obtain ⟨x, hx, rfl⟩ := List.mem_map.1 hd
  exact hf x (hs x hx)
def atI (f : Int → Int) (L ls : List Int) (m : Int) : Int := dotL (stepsL L ls (ls.map f)) (idxL (L.map f) m)
theorem at_in {f : Int → Int} {L ls : List Int} (hn : L.Nodup) (hl : ls.Nodup) (hs : ∀ l ∈ ls, l ∈ L) (hf : ∀ x ∈ L, 1 ≤ f x ∧ f x ≤ 8) (m : Int) : 0 ≤ atI f L ls m ∧ atI f L ls m < prodI (ls.map f) := by
  have hd : ∀ d ∈ L.map f, 1 ≤ d := fun d hd => (map_dim hf (fun _ h => h) d hd).1
  have hd2 : ∀ d ∈ ls.map f, 1 ≤ d := fun d hd => (map_dim hf hs d hd).1
  have hi := idxL_in hd m
  have ho := offL_in (ds := ls.map f) (is := idxAt L (idxL (L.map f) m) ls) hd2 ⟨by simp [idxAt], fun j hj => by
    have hj' : j < ls.length := by simpa using hj
    have hm := hs _ (mem_getD hj')
    have hg := findI_get hm
    have := hi.2 (findI L (ls.getD j 0)).toNat (by simpa using hg.1)
    rw [map_getD hg.1, hg.2] at this
    rw [idxAt, map_getD hj', map_getD hj']; exact this⟩
  have e : atI f L ls m = offL (ls.map f) (idxAt L (idxL (L.map f) m) ls) := by
    unfold atI dotL; rw [stepsL_len]; exact dot_off hn (by simp) hl hs
  omega
def AllR (k p n P : Int) (xs : List Int) : Prop := (xs.length : Int) = P * widthI k n ∧ ∀ a ∈ xs, 0 ≤ a ∧ a ≤ topI k p n
theorem mul_room {P w i : Int} (hw : 0 ≤ w) (h0 : 0 ≤ i) (h1 : i < P) : 0 ≤ i * w ∧ i * w + w ≤ P * w := by
  have h2 := Int.mul_le_mul_of_nonneg_right (show i + 1 ≤ P by omega) hw
  rw [Int.add_mul, Int.one_mul] at h2
  exact ⟨Int.mul_nonneg h0 hw, h2⟩
theorem AllR.el {k p n P : Int} {xs : List Int} (h : AllR k p n P xs) (hr : ringL k p n) {i : Int} (h0 : 0 ≤ i) (h1 : i < P) : InR k p n (elt xs (widthI k n) i) := by
  have hw := width_range hr
  have hm := mul_room (show 0 ≤ widthI k n by omega) h0 h1
  have hl := h.1
  refine ⟨?_, fun a ha => h.2 a (elt_mem ha)⟩
  simp only [elt, List.length_take, List.length_drop]
  omega
theorem AllR.put {k p n P : Int} {xs ys : List Int} (h : AllR k p n P xs) (hr : ringL k p n) {i : Int} (h0 : 0 ≤ i) (h1 : i < P) (hy : InR k p n ys) : AllR k p n P (putL xs (i * widthI k n).toNat ys) := by
  have hw := width_range hr
  have hm := mul_room (show 0 ≤ widthI k n by omega) h0 h1
  have hl := h.1
  have hyl := hy.1
  refine ⟨by rw [putL_len (by omega)]; exact hl, fun a ha => ?_⟩
  simp only [putL, List.mem_append] at ha
  rcases ha with (ha | ha) | ha
  · exact h.2 a (List.mem_of_mem_take ha)
  · exact hy.2 a ha
  · exact h.2 a (List.mem_of_mem_drop ha)
theorem flat_rep_len (z : List Int) : ∀ m : Nat, ((List.replicate m z).flatten).length = m * z.length
  | 0 => by simp
  | m + 1 => by rw [List.replicate_succ, List.flatten_cons, List.length_append, flat_rep_len z m, Nat.add_mul, Nat.one_mul]; omega
theorem flat_rep_succ (z : List Int) (m : Nat) : (List.replicate (m + 1) z).flatten = (List.replicate m z).flatten ++ z := by
  rw [List.replicate_succ', List.flatten_append]; simp
theorem zeroL_in {k p n : Int} (h : ringL k p n) : InR k p n (zeroL k p n) := by
  have ht := top_range h
  refine ⟨zeroL_len k p n, fun a ha => ?_⟩
  unfold zeroL at ha
  split at ha
  · rename_i h4
    have := top_cap h (.inr (.inl h4))
    simp at ha; omega
  · have := List.eq_of_mem_replicate ha; omega
theorem AllR.zero {k p n P : Int} (hr : ringL k p n) (hP : 0 ≤ P) : AllR k p n P (List.replicate P.toNat (zeroL k p n)).flatten := by
  have hw := width_range hr
  have hz := zeroL_in hr
  refine ⟨?_, fun a ha => ?_⟩
  · rw [flat_rep_len, hz.1, Int.natCast_mul]
    rw [show ((P.toNat : Nat) : Int) = P by omega, show (((widthI k n).toNat : Nat) : Int) = widthI k n by omega]
  · obtain ⟨l, hl, ha⟩ := List.mem_flatten.1 ha
    rw [List.eq_of_mem_replicate hl] at ha
    exact hz.2 a ha
noncomputable def pairX (k p n : Int) (f : Int → Int) (t u : Ten) (K : List Int) : Nat → List Int
  | 0 => (List.replicate (prodI (K.map f)).toNat (zeroL k p n)).flatten
  | m + 1 => putL (pairX k p n f t u K m) (atI f (joinI t.l u.l) K m * widthI k n).toNat
      (addL k p (elt (pairX k p n f t u K m) (widthI k n) (atI f (joinI t.l u.l) K m))
        (mulL k p n (elt t.x (widthI k n) (atI f (joinI t.l u.l) t.l m)) (elt u.x (widthI k n) (atI f (joinI t.l u.l) u.l m))))
noncomputable def pairT (k p n : Int) (f : Int → Int) (t u : Ten) (K : List Int) : Ten := ⟨K, K.map f, pairX k p n f t u K (prodI ((joinI t.l u.l).map f)).toNat⟩
structure KeepOK (t u : Ten) (f : Int → Int) (K : List Int) : Prop where
  sub : ∀ l ∈ K, l ∈ joinI t.l u.l
  nd : K.Nodup
  small : prodI (K.map f) ≤ 4096
section
variable {k p n : Int} {t u : Ten} {f : Int → Int} {K : List Int} (h : PairOK k p n t u f) (hk : KeepOK t u f K)
include h hk
theorem PairOK.at_k (m : Int) : 0 ≤ atI f (joinI t.l u.l) K m ∧ atI f (joinI t.l u.l) K m < prodI (K.map f) := at_in h.nd hk.nd hk.sub h.dim m
theorem PairOK.pos_k : 1 ≤ prodI (K.map f) := prodI_one fun d hd => (map_dim h.dim hk.sub d hd).1
omit hk in
theorem PairOK.at_t (m : Int) : 0 ≤ atI f (joinI t.l u.l) t.l m ∧ atI f (joinI t.l u.l) t.l m < prodI t.d := by
  have := at_in h.nd (axes_nodup (ten_axes h.tt)) (fun l hl => mem_joinI.2 (.inl hl)) h.dim m
  rwa [← h.ht] at this
omit hk in
theorem PairOK.at_u (m : Int) : 0 ≤ atI f (joinI t.l u.l) u.l m ∧ atI f (joinI t.l u.l) u.l m < prodI u.d := by
  have := at_in h.nd (axes_nodup (ten_axes h.uu)) (fun l hl => mem_joinI.2 (.inr hl)) h.dim m
  rwa [← h.hu] at this
omit hk in
theorem PairOK.el_t (m : Int) : InR k p n (elt t.x (widthI k n) (atI f (joinI t.l u.l) t.l m)) := elt_inR h.tt (h.at_t m).1 (h.at_t m).2
omit hk in
theorem PairOK.el_u (m : Int) : InR k p n (elt u.x (widthI k n) (atI f (joinI t.l u.l) u.l m)) := elt_inR h.uu (h.at_u m).1 (h.at_u m).2
theorem PairOK.all : ∀ m : Nat, AllR k p n (prodI (K.map f)) (pairX k p n f t u K m)
  | 0 => AllR.zero h.tt.1 (by have := h.pos_k hk; omega)
  | m + 1 => (PairOK.all m).put h.tt.1 (h.at_k hk m).1 (h.at_k hk m).2 (addL_in h.tt.1 ((PairOK.all m).el h.tt.1 (h.at_k hk m).1 (h.at_k hk m).2) (mulL_in h.tt.1 (h.el_t m) (h.el_u m)))
theorem PairOK.small (m : Nat) : (pairX k p n f t u K m).length ≤ 24576 := by
  have hw := width_range h.tt.1
  have := (h.all hk m).1
  have h3 : prodI (K.map f) * widthI k n ≤ 4096 * 6 := Int.mul_le_mul hk.small hw.2 (by omega) (by omega)
  omega
theorem PairOK.fits (m : Nat) : atI f (joinI t.l u.l) K m * widthI k n + widthI k n ≤ (pairX k p n f t u K m).length := by
  have hw := width_range h.tt.1
  have := (h.all hk m).1
  have := (mul_room (show 0 ≤ widthI k n by omega) (h.at_k hk m).1 (h.at_k hk m).2).2
  omega
end
end Go.Proofs.YtehjljijionhaaaGreat
