/-
  The places of a tensor counted through: the n-th place, and the step to the next, in the program and in the reference.
  Conditions: none.
-/
import Derived.Test.YtikeobneipjfnaaWeight
namespace Go.Proofs.Ytikeobneipjfnaa
set_option maxRecDepth 100000
open Go.RowKit
/-! ### the n-th place -/
def digI (ds : List Int) (n : Int) (i : Nat) : Int := n / prodI (ds.drop (i + 1)) % ds.getD i 0
def idxL (ds : List Int) (n : Int) : List Int := (List.range ds.length).map fun i => digI ds n i
theorem idxL_len (ds : List Int) (n : Int) : (idxL ds n).length = ds.length := by simp [idxL]
theorem idxL_get {ds : List Int} {n : Int} {i : Nat} (h : i < ds.length) : (idxL ds n).getD i 0 = digI ds n i := by simp [idxL, List.getD, h]
theorem idxL_zero (ds : List Int) : idxL ds 0 = List.replicate ds.length 0 := by
  apply ext_getD (by simp [idxL_len])
  intro j hj
  rw [idxL_len] at hj
  rw [idxL_get hj, rep_getD]
  simp [digI]
theorem idxL_in {ds : List Int} (hd : ∀ d ∈ ds, 1 ≤ d) (n : Int) : idxIn ds (idxL ds n) := ⟨idxL_len ds n, fun j hj => by
  rw [idxL_get hj]
  have := hd _ (mem_getD hj)
  exact ⟨Int.emod_nonneg _ (by omega), Int.emod_lt_of_pos _ (by omega)⟩⟩
theorem prod_at {ds : List Int} {i : Nat} (h : i < ds.length) : prodI (ds.drop i) = prodI (ds.drop (i + 1)) * ds.getD i 0 := by
  rw [drop_cons h, prodI_cons, Int.mul_comm]
theorem div_at {ds : List Int} (hd : ∀ d ∈ ds, 1 ≤ d) (n : Int) {i : Nat} (h : i < ds.length) : n / prodI (ds.drop i) = n / prodI (ds.drop (i + 1)) / ds.getD i 0 := by
  rw [prod_at h, ← Int.ediv_ediv_of_nonneg (by have := (prodI_drop hd (i + 1)).1; omega)]
theorem horn_idx {ds : List Int} (hd : ∀ d ∈ ds, 1 ≤ d) {n : Int} (h0 : 0 ≤ n) (h1 : n < prodI ds) : ∀ m, m ≤ ds.length → hornTo ds (idxL ds n) m = n / prodI (ds.drop m)
  | 0, _ => by
    rw [hornTo, List.drop_zero, Int.ediv_eq_zero_of_lt h0 h1]
  | m + 1, hm => by
    rw [hornTo, horn_idx hd h0 h1 m (by omega), idxL_get (by omega), div_at hd n (by omega), digI]
    have := Int.ediv_mul_add_emod (n / prodI (ds.drop (m + 1))) (ds.getD m 0)
    omega
theorem offL_idx {ds : List Int} (hd : ∀ d ∈ ds, 1 ≤ d) {n : Int} (h0 : 0 ≤ n) (h1 : n < prodI ds) : offL ds (idxL ds n) = n := by
  rw [offL_end (idxL_len ds n).symm, horn_idx hd h0 h1 _ (Nat.le_refl _), List.drop_length]
  simp [prodI]
/-! ### two lists, of which the second has come down to place k -/
theorem mix_down {A B : List Int} {k : Nat} (h : A.length = B.length) (hk : k < A.length) : (mixL A B (k + 1)).set k (B.getD k 0) = mixL A B k := by
  apply ext_getD
  · rw [List.length_set, mix_len h (by omega), mix_len h (by omega)]
  · intro j hj
    rw [List.length_set, mix_len h (by omega)] at hj
    by_cases e : j = k
    · subst e
      rw [mix_get (by omega) (Nat.le_refl _)]
      simp only [List.getD]; rw [List.getElem?_set_self (by rw [mix_len h (by omega)]; omega)]; rfl
    · have hs : ((mixL A B (k + 1)).set k (B.getD k 0)).getD j 0 = (mixL A B (k + 1)).getD j 0 := by simp only [List.getD]; rw [List.getElem?_set_ne (by omega)]
      rw [hs]
      by_cases hj2 : k ≤ j
      · rw [mix_get (by omega) (by omega), mix_get (by omega) hj2]
      · simp only [mixL, List.getD]
        rw [List.getElem?_append_left (by simp; omega), List.getElem?_append_left (by simp; omega), List.getElem?_take, List.getElem?_take, if_pos (by omega), if_pos (by omega)]
theorem mix_low {A B : List Int} {k j : Nat} (hk : k ≤ A.length) (hj : j < k) : (mixL A B k).getD j 0 = A.getD j 0 := by
  simp only [mixL, List.getD]
  rw [List.getElem?_append_left (by simp; omega), List.getElem?_take, if_pos hj]
theorem mix_full {A B : List Int} {k : Nat} (h : A.length = B.length) (hk : k ≤ A.length) (e : ∀ j, j < k → A.getD j 0 = B.getD j 0) : mixL A B k = B := by
  apply ext_getD (by rw [mix_len h hk, h])
  intro j hj
  rw [mix_len h hk] at hj
  by_cases hjk : j < k
  · rw [mix_low hk hjk, e j hjk]
  · rw [mix_get hk (by omega)]
set_option maxHeartbeats 1000000 in
theorem ct_s_l05Index (ds : List Int) (n : Int) (v : Value) (w : World) (r : IntsR ds v (hp w)) (hd : ∀ d ∈ ds, 1 ≤ d ∧ d ≤ 8) (hn : 0 ≤ n ∧ n ≤ 1000000000000) (hl : ds.length ≤ 1000000) :
    Calls Try.prog 122 [v, num n].toArray w (Ret w emp (IntsO (idxL ds n))) := by
  have hd1 : ∀ d ∈ ds, 1 ≤ d := fun d h => (hd d h).1
  have hil := idxL_len ds n
  refine calls_in Try.func122 rfl Try.ntmps122 rfl (Sat.start w) ?_
  have hle0 := r.le
  refine wp_sc ?_
  refine wp_sq ?_
  refine sq_v rfl (v_assign rfl) rfl ?_
  refine sq_end ?_
  refine qs_n ?_
  refine wp_sc ?_
  refine wp_sq ?_
  refine sq_v rfl (v_move rfl) rfl ?_
  refine sq_v rfl (v_len Try.underlying24 rfl r.sl) rfl ?_
  refine sq_x rfl (x_makeI Try.underlying24 ty_3 rfl rfl (by first | omega | (simp only [List.length_cons, List.length_nil]; omega) | (simp only [List.length_append, List.length_cons, List.length_nil]; omega) | (rw [List.length_set]; omega) | (rw [List.length_replicate]; omega) | (simp; omega)) (by first | omega | (simp only [List.length_cons, List.length_nil]; omega) | (simp only [List.length_append, List.length_cons, List.length_nil]; omega) | (rw [List.length_set]; omega) | (rw [List.length_replicate]; omega) | (simp; omega)) (by first | omega | (simp only [List.length_cons, List.length_nil]; omega) | (simp only [List.length_append, List.length_cons, List.length_nil]; omega) | (rw [List.length_set]; omega) | (rw [List.length_replicate]; omega) | (simp; omega))) rfl ?_; intro v9 h9 r9
  refine sq_v rfl (v_assign rfl) rfl ?_
  refine sq_end ?_
  refine qs_n ?_
  refine wp_sc ?_
  refine wp_sc ?_
  refine wp_sq ?_
  refine sq_v rfl (v_move rfl) rfl ?_
  refine sq_v rfl (v_len Try.underlying24 rfl r.sl) rfl ?_
  refine sq_v rfl (v_sub rfl rfl ((by unfold I64; omega))) rfl ?_
  refine sq_v rfl (v_assign rfl) rfl ?_
  refine sq_end ?_
  refine qs_n ?_
  refine wp_bl ?_
  refine wp_lp (σ := Nat × Int × PH) (fun z_ => [(0, v), (1, num z_.2.1), (4, .slice none 0 0), (5, v9), (6, num ((z_.1 : Int) - 1))]) (fun z_ => [z_.2.2, hp w]) (fun z_ => z_.1 ≤ ds.length ∧ z_.2.1 = n / prodI (ds.drop z_.1) ∧ IntsO (mixL (List.replicate ds.length 0) (idxL ds n) z_.1) v9 z_.2.2) (fun z_ => z_.1) (ds.length, n, h9) (⟨by (try dsimp only); omega, by (try dsimp only); simp [prodI], by (try dsimp only); rw [mix_end (by simp [idxL_len]) (by simp)]; simpa using r9⟩) ⟨rfl, (by first | rfl | exact ksub rfl (by first | omega | (simp; done) | (simp; omega))), rfl, rfl, (by first | rfl | exact ksub rfl (by first | omega | (simp; done) | (simp; omega))), trivial⟩ (fun _ s => s) ?_
  rintro ⟨m, q, g⟩ ⟨hm, hq, q9⟩
  dsimp only at hm hq q9 ⊢
  have hle_q9 := q9.toR.le
  have hpd := (prodI_drop hd1 m).1
  have hq0 : 0 ≤ q ∧ q ≤ n := by rw [hq]; exact ⟨Int.ediv_nonneg hn.1 (by omega), Int.ediv_le_self _ hn.1⟩
  have hml : (mixL (List.replicate ds.length 0) (idxL ds n) m).length = ds.length := by rw [mix_len (by simp [idxL_len]) (by simp; omega)]; simp
  have em : ((m : Int) - 1).toNat = m - 1 := by omega
  refine wp_sc ?_
  refine wp_sc ?_
  refine wp_sq ?_
  refine sq_v rfl (v_move rfl) rfl ?_
  refine sq_v rfl (v_geq rfl rfl) rfl ?_
  refine sq_end ?_
  refine qs_n ?_
  refine wp_cd rfl (fun c14 => ?_) (fun c14 => ?_)
  · refine wp_sk ?_
    refine qs_n ?_
    refine wp_sc ?_
    refine wp_bl ?_
    refine wp_sc ?_
    refine wp_sq ?_
    refine sq_v rfl (v_move rfl) rfl ?_
    refine sq_v rfl (v_move rfl) rfl ?_
    refine sq_v rfl (v_move rfl) rfl ?_
    refine sq_v rfl (v_move rfl) rfl ?_
    refine sq_v rfl (v_move rfl) rfl ?_
    refine sq_v rfl (v_idxI Try.underlying24 ty_3 rfl rfl r (by first | omega | (simp only [List.length_cons, List.length_nil]; omega) | (simp only [List.length_append, List.length_cons, List.length_nil]; omega) | (rw [List.length_set]; omega) | (rw [List.length_replicate]; omega) | (simp; omega)) (by first | omega | (simp only [List.length_cons, List.length_nil]; omega) | (simp only [List.length_append, List.length_cons, List.length_nil]; omega) | (rw [List.length_set]; omega) | (rw [List.length_replicate]; omega) | (simp; omega))) rfl ?_
    refine sq_v rfl (v_loadI  1 ty_3 rfl rfl r (by first | omega | (simp only [List.length_cons, List.length_nil]; omega) | (simp only [List.length_append, List.length_cons, List.length_nil]; omega) | (rw [List.length_set]; omega) | (rw [List.length_replicate]; omega) | (simp; omega))) rfl ?_
    have hdm := hd _ (mem_getD (show ((m : Int) - 1).toNat < ds.length by omega))
    refine sq_v rfl (v_rem rfl rfl (by omega)) rfl ?_
    refine sq_v rfl (v_idxI Try.underlying24 ty_3 rfl rfl q9.toR (by first | omega | (simp only [List.length_cons, List.length_nil]; omega) | (simp only [List.length_append, List.length_cons, List.length_nil]; omega) | (rw [List.length_set]; omega) | (rw [List.length_replicate]; omega) | (simp; omega)) (by first | omega | (simp only [List.length_cons, List.length_nil]; omega) | (simp only [List.length_append, List.length_cons, List.length_nil]; omega) | (rw [List.length_set]; omega) | (rw [List.length_replicate]; omega) | (simp; omega))) rfl ?_
    refine sq_m 0 rfl rfl (m_storeI 0 ty_3 rfl rfl rfl q9 (by first | omega | (simp only [List.length_cons, List.length_nil]; omega) | (simp only [List.length_append, List.length_cons, List.length_nil]; omega) | (rw [List.length_set]; omega) | (rw [List.length_replicate]; omega) | (simp; omega))) rfl ?_; rintro _ h_q5_9 ⟨rfl, q5_9⟩
    refine sq_end ?_
    refine qs_n ?_
    refine wp_sq ?_
    refine sq_v rfl (v_move rfl) rfl ?_
    refine sq_v rfl (v_move rfl) rfl ?_
    refine sq_v rfl (v_move rfl) rfl ?_
    refine sq_v rfl (v_idxI Try.underlying24 ty_3 rfl rfl r (by first | omega | (simp only [List.length_cons, List.length_nil]; omega) | (simp only [List.length_append, List.length_cons, List.length_nil]; omega) | (rw [List.length_set]; omega) | (rw [List.length_replicate]; omega) | (simp; omega)) (by first | omega | (simp only [List.length_cons, List.length_nil]; omega) | (simp only [List.length_append, List.length_cons, List.length_nil]; omega) | (rw [List.length_set]; omega) | (rw [List.length_replicate]; omega) | (simp; omega))) rfl ?_
    refine sq_v rfl (v_loadI  1 ty_3 rfl rfl r (by first | omega | (simp only [List.length_cons, List.length_nil]; omega) | (simp only [List.length_append, List.length_cons, List.length_nil]; omega) | (rw [List.length_set]; omega) | (rw [List.length_replicate]; omega) | (simp; omega))) rfl ?_
    have hqq : q.tdiv (ds.getD ((m : Int) - 1).toNat 0) = n / prodI (ds.drop (m - 1)) := (by rw [em, Int.tdiv_eq_ediv_of_nonneg hq0.1, div_at hd1 n (show m - 1 < ds.length by omega), hq, show m - 1 + 1 = m by omega]); have hq1 := (prodI_drop hd1 (m - 1)).1; have hq2 : 0 ≤ n / prodI (ds.drop (m - 1)) ∧ n / prodI (ds.drop (m - 1)) ≤ n := ⟨Int.ediv_nonneg hn.1 (by omega), Int.ediv_le_self _ hn.1⟩
    refine sq_v rfl (v_quo rfl rfl (by omega) (by unfold I64; omega)) rfl ?_
    refine sq_v rfl (v_assign rfl) rfl ?_
    refine sq_end ?_
    have hrr : q.tmod (ds.getD (m - 1) 0) = (idxL ds n).getD (m - 1) 0 := by rw [Int.tmod_eq_emod_of_nonneg hq0.1, idxL_get (by omega), digI, hq, show m - 1 + 1 = m by omega]
    have e := mix_down (A := List.replicate ds.length 0) (B := idxL ds n) (k := m - 1) (by simp [idxL_len]) (by simp; omega)
    rw [show m - 1 + 1 = m by omega] at e
    rw [em, hrr, e] at q5_9
    refine qs_bn ?_
    refine qs_n ?_
    refine wp_sq ?_
    refine sq_v rfl (v_move rfl) rfl ?_
    refine sq_v rfl (v_sub rfl rfl ((by unfold I64; omega))) rfl ?_
    refine sq_v rfl (v_assign rfl) rfl ?_
    refine sq_end ?_
    exact qs_bk (m - 1, q.tdiv (ds.getD ((m : Int) - 1).toNat 0), h_q5_9) ⟨by (try dsimp only); omega, hqq, q5_9⟩ (by simp only; omega) ⟨rfl, (by first | rfl | exact ksub rfl (by first | omega | (simp; done) | (simp; omega))), rfl, rfl, (by first | rfl | exact ksub rfl (by first | omega | (simp; done) | (simp; omega))), trivial⟩ (fun _ s => s)
  · refine wp_ex ?_
    refine qs_x ?_
    refine qs_x ?_
    refine qs_bx ?_
    refine qs_n ?_
    refine wp_sc ?_
    refine wp_sq ?_
    refine sq_v rfl (v_move rfl) rfl ?_
    refine sq_v rfl (v_assign rfl) rfl ?_
    refine sq_end ?_
    refine qs_n ?_
    refine wp_rt ?_
    exact qs_ret1 rfl rfl (fin_t 0 (i := 1) rfl rfl rfl (by rw [show m = 0 by omega, mix_zero] at q9; exact q9))
theorem div_up {P n : Int} (hP : 1 ≤ P) (hn : 0 ≤ n) (h : (n + 1) % P = 0) : (n + 1) / P = n / P + 1 := by
  have h1 := Int.ediv_mul_add_emod (n + 1) P
  have e : n = (P - 1) + ((n + 1) / P - 1) * P := by rw [Int.sub_mul, Int.one_mul]; omega
  have h2 : n / P = (P - 1) / P + ((n + 1) / P - 1) := by
    conv => lhs; rw [e]
    exact Int.add_mul_ediv_right _ _ (by omega)
  rw [Int.ediv_eq_zero_of_lt (show 0 ≤ P - 1 by omega) (show P - 1 < P by omega)] at h2
  omega
theorem mod_up {x d : Int} (hd : 1 ≤ d) (h : x % d + 1 < d) : (x + 1) % d = x % d + 1 ∧ (x + 1) / d = x / d := by
  have h1 := Int.ediv_mul_add_emod x d
  have h0 := Int.emod_nonneg x (show d ≠ 0 by omega)
  have e : x + 1 = (x % d + 1) + (x / d) * d := by omega
  constructor
  · conv => lhs; rw [e]
    rw [Int.add_mul_emod_self_right, Int.emod_eq_of_lt (by omega) h]
  · conv => lhs; rw [e]
    rw [Int.add_mul_ediv_right _ _ (by omega), Int.ediv_eq_zero_of_lt (by omega) h]
    omega
theorem mod_over {x d : Int} (hd : 1 ≤ d) (h : d ≤ x % d + 1) : (x + 1) % d = 0 := by
  have h1 := Int.ediv_mul_add_emod x d
  have h0 := Int.emod_lt_of_pos x (show 0 < d by omega)
  have e : x + 1 = (x / d + 1) * d := by rw [Int.add_mul]; omega
  rw [e, Int.mul_emod_left]
theorem dig_yes {ds : List Int} (hd : ∀ d ∈ ds, 1 ≤ d) {n : Int} (hn : 0 ≤ n) {i : Nat} (hi : i < ds.length) (hP : (n + 1) % prodI (ds.drop (i + 1)) = 0) (h : digI ds n i + 1 < ds.getD i 0) :
    digI ds (n + 1) i = digI ds n i + 1 ∧ ∀ t, t ≤ i → (n + 1) / prodI (ds.drop (i - t)) = n / prodI (ds.drop (i - t)) := by
  have hp := (prodI_drop hd (i + 1)).1
  have hdi := hd _ (mem_getD hi)
  have h1 := div_up hp hn hP
  have h2 := mod_up hdi h
  refine ⟨by unfold digI; rw [h1]; exact h2.1, fun t => ?_⟩
  induction t with
  | zero => intro _; rw [Nat.sub_zero, div_at hd _ hi, div_at hd _ hi, h1]; exact h2.2
  | succ t ih =>
    intro ht
    rw [div_at hd (n + 1) (show i - (t + 1) < ds.length by omega), div_at hd n (show i - (t + 1) < ds.length by omega), show i - (t + 1) + 1 = i - t by omega, ih (by omega)]
theorem dig_same {ds : List Int} (hd : ∀ d ∈ ds, 1 ≤ d) {n : Int} (hn : 0 ≤ n) {i : Nat} (hi : i < ds.length) (hP : (n + 1) % prodI (ds.drop (i + 1)) = 0) (h : digI ds n i + 1 < ds.getD i 0) (j : Nat) (hj : j < i) : digI ds n j = digI ds (n + 1) j := by
  have := (dig_yes hd hn hi hP h).2 (i - (j + 1)) (by omega)
  rw [show i - (i - (j + 1)) = j + 1 by omega] at this
  unfold digI
  rw [this]
theorem dig_lt {ds : List Int} (hd : ∀ d ∈ ds, 1 ≤ d) {n : Int} (hn : 0 ≤ n) (h1 : n < prodI ds) {i : Nat} (hi : i < ds.length) (hP : (n + 1) % prodI (ds.drop (i + 1)) = 0) (h : digI ds n i + 1 < ds.getD i 0) : n + 1 < prodI ds := by
  have := (dig_yes hd hn hi hP h).2 i (Nat.le_refl i)
  rw [Nat.sub_self, List.drop_zero, Int.ediv_eq_zero_of_lt hn h1] at this
  have hp := prodI_one hd
  by_cases e : n + 1 < prodI ds
  · exact e
  · have := (Int.le_ediv_iff_mul_le (show 0 < prodI ds by omega) (a := 1) (b := n + 1)).2 (by omega)
    omega
theorem dig_no {ds : List Int} (hd : ∀ d ∈ ds, 1 ≤ d) {n : Int} (hn : 0 ≤ n) {i : Nat} (hi : i < ds.length) (hP : (n + 1) % prodI (ds.drop (i + 1)) = 0) (h : ¬ digI ds n i + 1 < ds.getD i 0) :
    digI ds (n + 1) i = 0 ∧ (n + 1) % prodI (ds.drop i) = 0 := by
  have hp := (prodI_drop hd (i + 1)).1
  have hdi := hd _ (mem_getD hi)
  have h1 := div_up hp hn hP
  have h2 := mod_over hdi (x := n / prodI (ds.drop (i + 1))) (by unfold digI at h; omega)
  rw [← h1] at h2
  refine ⟨h2, ?_⟩
  have a := Int.dvd_of_emod_eq_zero h2
  have e := Int.ediv_mul_add_emod (n + 1) (prodI (ds.drop (i + 1)))
  rw [hP] at e
  have : prodI (ds.drop (i + 1)) * ds.getD i 0 ∣ prodI (ds.drop (i + 1)) * ((n + 1) / prodI (ds.drop (i + 1))) := Int.mul_dvd_mul_left _ a
  rw [← prod_at hi, Int.mul_comm (prodI (ds.drop (i + 1))), show (n + 1) / prodI (ds.drop (i + 1)) * prodI (ds.drop (i + 1)) = n + 1 by omega] at this
  exact Int.emod_eq_zero_of_dvd this
theorem idx_yes {ds : List Int} (hd : ∀ d ∈ ds, 1 ≤ d) {n : Int} (hn : 0 ≤ n) {m : Nat} (h1 : 1 ≤ m) (hm : m ≤ ds.length) (hP : (n + 1) % prodI (ds.drop m) = 0) (h : digI ds n (m - 1) + 1 < ds.getD (m - 1) 0) :
    (mixL (idxL ds n) (idxL ds (n + 1)) m).set (m - 1) (digI ds n (m - 1) + 1) = idxL ds (n + 1) := by
  obtain ⟨k, rfl⟩ : ∃ k, m = k + 1 := ⟨m - 1, by omega⟩
  rw [Nat.add_sub_cancel] at h ⊢
  have hl1 := idxL_len ds n
  have hl2 := idxL_len ds (n + 1)
  have hy := dig_yes hd hn (show k < ds.length by omega) hP h
  rw [← hy.1, ← idxL_get (show k < ds.length by omega), mix_down (by omega) (by omega)]
  refine mix_full (by omega) (by omega) fun j hj => ?_
  rw [idxL_get (by omega), idxL_get (by omega)]
  exact dig_same hd hn (show k < ds.length by omega) hP h j hj
theorem idx_no {ds : List Int} (hd : ∀ d ∈ ds, 1 ≤ d) {n : Int} (hn : 0 ≤ n) {m : Nat} (h1 : 1 ≤ m) (hm : m ≤ ds.length) (hP : (n + 1) % prodI (ds.drop m) = 0) (h : ¬ digI ds n (m - 1) + 1 < ds.getD (m - 1) 0) :
    (mixL (idxL ds n) (idxL ds (n + 1)) m).set (m - 1) 0 = mixL (idxL ds n) (idxL ds (n + 1)) (m - 1) ∧ (n + 1) % prodI (ds.drop (m - 1)) = 0 := by
  obtain ⟨k, rfl⟩ : ∃ k, m = k + 1 := ⟨m - 1, by omega⟩
  rw [Nat.add_sub_cancel] at h ⊢
  have hl1 := idxL_len ds n
  have hl2 := idxL_len ds (n + 1)
  have hy := dig_no hd hn (show k < ds.length by omega) hP h
  refine ⟨?_, hy.2⟩
  rw [← mix_down (A := idxL ds n) (B := idxL ds (n + 1)) (k := k) (by omega) (by omega), idxL_get (show k < ds.length by omega), hy.1]
theorem idx_end {P n : Int} (hn : 0 ≤ n) (h1 : n < P) (h : (n + 1) % P = 0) : ¬ n + 1 < P := fun hlt => by
  rw [Int.emod_eq_of_lt (by omega) hlt] at h
  omega
set_option maxHeartbeats 1000000 in
theorem ct_i_nextIndex (ds : List Int) (n : Int) (u v : Value) (w : World) (h : PH) (hle : PLe h (hp w)) (r : IntsR ds u (restP w h)) (ri : IntsO (idxL ds n) v h) (hd : ∀ d ∈ ds, 1 ≤ d ∧ d ≤ 8) (hn : 0 ≤ n ∧ n < prodI ds) (hl : ds.length ≤ 1000000) :
    Calls Try.prog 142 [u, v].toArray w (Ret w h (fun x h' => x = .bool (decide (n + 1 < prodI ds)) ∧ IntsO (idxL ds (n + 1)) v h')) := by
  have hd1 : ∀ d ∈ ds, 1 ≤ d := fun d h => (hd d h).1
  have hil := idxL_len ds n
  have hil2 := idxL_len ds (n + 1)
  refine calls_in Try.func142 rfl Try.ntmps142 rfl (Sat.start2 hle) ?_
  have hle0 := r.le
  have hle1 := ri.toR.le
  refine wp_sc ?_
  refine wp_sq ?_
  refine sq_v rfl (v_assign rfl) rfl ?_
  refine sq_end ?_
  refine qs_n ?_
  refine wp_sc ?_
  refine wp_sc ?_
  refine wp_sq ?_
  refine sq_v rfl (v_move rfl) rfl ?_
  refine sq_v rfl (v_len Try.underlying24 rfl r.sl) rfl ?_
  refine sq_v rfl (v_sub rfl rfl ((by unfold I64; omega))) rfl ?_
  refine sq_v rfl (v_assign rfl) rfl ?_
  refine sq_end ?_
  refine qs_n ?_
  refine wp_bl ?_
  refine wp_lp (σ := Nat × PH) (fun z_ => [(0, u), (1, v), (4, .bool false), (5, num ((z_.1 : Int) - 1))]) (fun z_ => [z_.2, (restP w h)]) (fun z_ => z_.1 ≤ ds.length ∧ (n + 1) % prodI (ds.drop z_.1) = 0 ∧ IntsO (mixL (idxL ds n) (idxL ds (n + 1)) z_.1) v z_.2) (fun z_ => z_.1) (ds.length, h) (⟨by (try dsimp only); omega, by (try dsimp only); simp [prodI, Int.emod_one], by (try dsimp only); rw [mix_end (by omega) (by omega)]; exact ri⟩) ⟨rfl, rfl, rfl, (by first | rfl | exact ksub rfl (by first | omega | (simp; done) | (simp; omega))), trivial⟩ (fun _ s => s) ?_
  rintro ⟨m, g⟩ ⟨hm, hP, q⟩
  dsimp only at hm hP q ⊢
  have hle_q := q.toR.le
  have hml := mix_len (A := idxL ds n) (B := idxL ds (n + 1)) (k := m) (by omega) (by omega)
  have em : ((m : Int) - 1).toNat = m - 1 := by omega
  refine wp_sc ?_
  refine wp_sc ?_
  refine wp_sq ?_
  refine sq_v rfl (v_move rfl) rfl ?_
  refine sq_v rfl (v_geq rfl rfl) rfl ?_
  refine sq_end ?_
  refine qs_n ?_
  refine wp_cd rfl (fun c10 => ?_) (fun c10 => ?_)
  · refine wp_sk ?_
    refine qs_n ?_
    refine wp_sc ?_
    refine wp_bl ?_
    refine wp_sc ?_
    refine wp_sq ?_
    refine sq_v rfl (v_move rfl) rfl ?_
    refine sq_v rfl (v_move rfl) rfl ?_
    have hk : m - 1 < ds.length := (by omega); have hdm := hd _ (mem_getD hk); have hlow : (mixL (idxL ds n) (idxL ds (n + 1)) m).getD ((m : Int) - 1).toNat 0 = digI ds n (m - 1) := (by rw [em, mix_low (by omega) (by omega), idxL_get hk]); have hdg := (idxL_in hd1 n).2 (m - 1) hk; rw [idxL_get hk] at hdg
    refine sq_v rfl (v_idxI Try.underlying24 ty_3 rfl rfl q.toR (by first | omega | (simp only [List.length_cons, List.length_nil]; omega) | (simp only [List.length_append, List.length_cons, List.length_nil]; omega) | (rw [List.length_set]; omega) | (rw [List.length_replicate]; omega) | (simp; omega)) (by first | omega | (simp only [List.length_cons, List.length_nil]; omega) | (simp only [List.length_append, List.length_cons, List.length_nil]; omega) | (rw [List.length_set]; omega) | (rw [List.length_replicate]; omega) | (simp; omega))) rfl ?_
    refine sq_v rfl (v_loadI  0 ty_3 rfl rfl q.toR (by first | omega | (simp only [List.length_cons, List.length_nil]; omega) | (simp only [List.length_append, List.length_cons, List.length_nil]; omega) | (rw [List.length_set]; omega) | (rw [List.length_replicate]; omega) | (simp; omega))) rfl ?_
    refine sq_v rfl (v_add rfl rfl ((by unfold I64; omega))) rfl ?_
    refine sq_v rfl (v_idxI Try.underlying24 ty_3 rfl rfl q.toR (by first | omega | (simp only [List.length_cons, List.length_nil]; omega) | (simp only [List.length_append, List.length_cons, List.length_nil]; omega) | (rw [List.length_set]; omega) | (rw [List.length_replicate]; omega) | (simp; omega)) (by first | omega | (simp only [List.length_cons, List.length_nil]; omega) | (simp only [List.length_append, List.length_cons, List.length_nil]; omega) | (rw [List.length_set]; omega) | (rw [List.length_replicate]; omega) | (simp; omega))) rfl ?_
    refine sq_m 0 rfl rfl (m_storeI 0 ty_3 rfl rfl rfl q (by first | omega | (simp only [List.length_cons, List.length_nil]; omega) | (simp only [List.length_append, List.length_cons, List.length_nil]; omega) | (rw [List.length_set]; omega) | (rw [List.length_replicate]; omega) | (simp; omega))) rfl ?_; rintro _ h_q4_6 ⟨rfl, q4_6⟩
    refine sq_end ?_
    rw [hlow, em] at q4_6
    refine qs_n ?_
    refine wp_sc ?_
    refine wp_sc ?_
    refine wp_rj 9 [(0, true), (1, true), (2, true), (3, true), (4, true), (5, true), (6, true), (7, true), (8, true)] mixed_ok (by kernel_rfl) ?_
    refine rj_v rfl rfl (v_move rfl) rfl ?_
    refine rj_v rfl rfl (v_move rfl) rfl ?_
    refine rj_v rfl rfl (v_idxI Try.underlying24 ty_3 rfl rfl q4_6.toR (by first | omega | (simp only [List.length_cons, List.length_nil]; omega) | (simp only [List.length_append, List.length_cons, List.length_nil]; omega) | (rw [List.length_set]; omega) | (rw [List.length_replicate]; omega) | (simp; omega)) (by first | omega | (simp only [List.length_cons, List.length_nil]; omega) | (simp only [List.length_append, List.length_cons, List.length_nil]; omega) | (rw [List.length_set]; omega) | (rw [List.length_replicate]; omega) | (simp; omega))) rfl ?_
    refine rj_v rfl rfl (v_loadI  0 ty_3 rfl rfl q4_6.toR (by first | omega | (simp only [List.length_cons, List.length_nil]; omega) | (simp only [List.length_append, List.length_cons, List.length_nil]; omega) | (rw [List.length_set]; omega) | (rw [List.length_replicate]; omega) | (simp; omega))) rfl ?_
    refine rj_v rfl rfl (v_move rfl) rfl ?_
    refine rj_v rfl rfl (v_move rfl) rfl ?_
    refine rj_v rfl rfl (v_idxI Try.underlying24 ty_3 rfl rfl r (by first | omega | (simp only [List.length_cons, List.length_nil]; omega) | (simp only [List.length_append, List.length_cons, List.length_nil]; omega) | (rw [List.length_set]; omega) | (rw [List.length_replicate]; omega) | (simp; omega)) (by first | omega | (simp only [List.length_cons, List.length_nil]; omega) | (simp only [List.length_append, List.length_cons, List.length_nil]; omega) | (rw [List.length_set]; omega) | (rw [List.length_replicate]; omega) | (simp; omega))) rfl ?_
    refine rj_v rfl rfl (v_loadI  1 ty_3 rfl rfl r (by first | omega | (simp only [List.length_cons, List.length_nil]; omega) | (simp only [List.length_append, List.length_cons, List.length_nil]; omega) | (rw [List.length_set]; omega) | (rw [List.length_replicate]; omega) | (simp; omega))) rfl ?_
    refine rj_v rfl rfl (v_lss rfl rfl) rfl ?_
    refine rj_end ?_
    have hg4 : ((mixL (idxL ds n) (idxL ds (n + 1)) m).set (m - 1) (digI ds n (m - 1) + 1)).getD ((m : Int) - 1).toNat 0 = digI ds n (m - 1) + 1 := by rw [em]; simp only [List.getD]; rw [List.getElem?_set_self (by omega)]; rfl
    have hc : (((mixL (idxL ds n) (idxL ds (n + 1)) m).set (m - 1) (digI ds n (m - 1) + 1)).getD ((m : Int) - 1).toNat 0 < ds.getD ((m : Int) - 1).toNat 0) ↔ digI ds n (m - 1) + 1 < ds.getD (m - 1) 0 := by rw [hg4, em]
    refine qs_n ?_
    refine wp_cd rfl (fun c27 => ?_) (fun c27 => ?_)
    · refine wp_sc ?_
      refine wp_sq ?_
      refine sq_v rfl (v_assign rfl) rfl ?_
      refine sq_end ?_
      refine qs_n ?_
      refine wp_rt ?_
      refine qs_r ?_
      refine qs_br ?_
      refine qs_r ?_
      refine qs_r ?_
      refine qs_br ?_
      refine qs_r ?_
      exact qs_ret1 rfl rfl (fin_m 0 (i := 1) rfl rfl rfl (⟨by rw [decide_eq_true (dig_lt hd1 hn.1 hn.2 hk (by rw [show m - 1 + 1 = m by omega]; exact hP) (hc.1 c27))], by rw [← idx_yes hd1 hn.1 (by omega) hm hP (hc.1 c27)]; exact q4_6⟩))
    · refine wp_sk ?_
      refine qs_n ?_
      refine wp_sq ?_
      refine sq_v rfl (v_move rfl) rfl ?_
      refine sq_v rfl (v_move rfl) rfl ?_
      refine sq_v rfl (v_idxI Try.underlying24 ty_3 rfl rfl q4_6.toR (by first | omega | (simp only [List.length_cons, List.length_nil]; omega) | (simp only [List.length_append, List.length_cons, List.length_nil]; omega) | (rw [List.length_set]; omega) | (rw [List.length_replicate]; omega) | (simp; omega)) (by first | omega | (simp only [List.length_cons, List.length_nil]; omega) | (simp only [List.length_append, List.length_cons, List.length_nil]; omega) | (rw [List.length_set]; omega) | (rw [List.length_replicate]; omega) | (simp; omega))) rfl ?_
      refine sq_m 0 rfl rfl (m_storeI 0 ty_3 rfl rfl rfl q4_6 (by first | omega | (simp only [List.length_cons, List.length_nil]; omega) | (simp only [List.length_append, List.length_cons, List.length_nil]; omega) | (rw [List.length_set]; omega) | (rw [List.length_replicate]; omega) | (simp; omega))) rfl ?_; rintro _ h_q7_3 ⟨rfl, q7_3⟩
      refine sq_end ?_
      have hno := idx_no hd1 hn.1 (show 1 ≤ m by omega) hm hP (fun h => c27 (hc.2 h))
      rw [em, List.set_set, hno.1] at q7_3
      refine qs_bn ?_
      refine qs_n ?_
      refine wp_sq ?_
      refine sq_v rfl (v_move rfl) rfl ?_
      refine sq_v rfl (v_sub rfl rfl ((by unfold I64; omega))) rfl ?_
      refine sq_v rfl (v_assign rfl) rfl ?_
      refine sq_end ?_
      exact qs_bk (m - 1, h_q7_3) ⟨by (try dsimp only); omega, hno.2, q7_3⟩ (by simp only; omega) ⟨rfl, rfl, rfl, (by first | rfl | exact ksub rfl (by first | omega | (simp; done) | (simp; omega))), trivial⟩ (fun _ s => s)
  · refine wp_ex ?_
    refine qs_x ?_
    refine qs_x ?_
    refine qs_bx ?_
    refine qs_n ?_
    refine wp_sc ?_
    refine wp_sq ?_
    refine sq_v rfl (v_assign rfl) rfl ?_
    refine sq_end ?_
    refine qs_n ?_
    refine wp_rt ?_
    exact qs_ret1 rfl rfl (fin_m 0 (i := 1) rfl rfl rfl (⟨by rw [show m = 0 by omega, List.drop_zero] at hP; rw [decide_eq_false (idx_end hn.1 hn.2 hP)], by rw [show m = 0 by omega, mix_zero] at q; exact q⟩))
end Go.Proofs.Ytikeobneipjfnaa
