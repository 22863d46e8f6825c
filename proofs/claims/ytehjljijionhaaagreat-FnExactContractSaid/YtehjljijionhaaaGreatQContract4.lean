/-
  Parts of the proof of FnExactContract: laws of heaps, contracts of functions.
  Conditions: none.
-/
import Derived.Test.YtehjljijionhaaaGreatQContract3
namespace Go.Proofs.YtehjljijionhaaaGreat
set_option maxRecDepth 100000
open Go.RowKit
/-- An element of a ring. -/
def InR (k p n : Int) (xs : List Int) : Prop := xs.length = (widthI k n).toNat ∧ ∀ a ∈ xs, 0 ≤ a ∧ a ≤ topI k p n
theorem InR.at {k p n : Int} {xs : List Int} (h : InR k p n xs) (_ : ringL k p n) (i : Nat) (hi : i < xs.length) : 0 ≤ xs.getD i 0 ∧ xs.getD i 0 ≤ topI k p n := h.2 _ (mem_getD hi)
theorem InR.len {k p n : Int} {xs : List Int} (h : InR k p n xs) (hr : ringL k p n) : 1 ≤ xs.length ∧ xs.length ≤ 6 ∧ (xs.length : Int) = widthI k n := by
  have := width_range hr
  have := h.1
  omega
theorem top_poly {k p n : Int} (h : ringL k p n) (hk : k = 2 ∨ k = 7 ∨ k = 8) : topI k p n = p - 1 ∧ 2 ≤ p ∧ p ≤ 1000003 := by
  have hp2 : ∀ {m : Int}, primeB m = true → 2 ≤ m ∧ m ≤ 1000003 := fun h => ⟨(primeB_iff.1 h).1, (primeB_iff.1 h).2.1⟩
  unfold ringL at h
  refine ⟨?_, ?_⟩
  · unfold topI
    rw [if_neg (by omega), if_neg (by omega), if_neg (by omega)]
  · rcases h with h | h | h | h | h | h
    · omega
    · exact hp2 h.2.1
    · omega
    · omega
    · exact hp2 h.2.1
    · exact hp2 h.2.1
theorem top_cap {k p n : Int} (h : ringL k p n) (hk : k = 3 ∨ k = 4 ∨ k = 5) : topI k p n = p ∧ 1 ≤ p ∧ p ≤ 1000000 := by
  unfold ringL at h
  refine ⟨?_, by omega⟩
  unfold topI
  rw [if_neg (by omega), if_pos (by omega)]
theorem kind_rest {k p n : Int} (h : ringL k p n) (h1 : k ≠ 1) (h2 : k ≠ 2) (h3 : k ≠ 3) (h4 : k ≠ 4) (h5 : k ≠ 5) (h6 : k ≠ 6) : k = 7 ∨ k = 8 := by
  unfold ringL at h; omega
theorem kind_rest' {k p n : Int} (h : ringL k p n) (h1 : k ≠ 1) (h3 : k ≠ 3) (h4 : k ≠ 4) (h5 : k ≠ 5) (h6 : k ≠ 6) : k = 2 ∨ k = 7 ∨ k = 8 := by
  unfold ringL at h; omega
theorem mul_in {a b t u : Int} (ha : 0 ≤ a ∧ a ≤ t) (hb : 0 ≤ b ∧ b ≤ u) : 0 ≤ a * b ∧ a * b ≤ t * u :=
  ⟨Int.mul_nonneg ha.1 hb.1, Int.mul_le_mul ha.2 hb.2 hb.1 (by omega)⟩
theorem mul_in6 {a b t u : Int} (ha : 0 ≤ a ∧ a ≤ t) (hb : 0 ≤ b ∧ b ≤ u) (ht : t ≤ 1048576) (hu : u ≤ 1048576) : 0 ≤ a * b ∧ a * b ≤ 1099511627776 := by
  have h := mul_in ha hb
  have : t * u ≤ 1048576 * 1048576 := Int.mul_le_mul ht hu (by omega) (by omega)
  omega
theorem tmod_in {a p : Int} (ha : 0 ≤ a) (hp : 1 ≤ p) : 0 ≤ a.tmod p ∧ a.tmod p ≤ p - 1 := by
  rw [Int.tmod_eq_emod_of_nonneg ha]
  have h1 := Int.emod_nonneg a (show p ≠ 0 by omega)
  have h2 := Int.emod_lt_of_pos a (show 0 < p by omega)
  omega
def mulStep (k p : Int) (x y out : List Int) (i j : Nat) : List Int :=
  if i + j < out.length then out.set (i + j) ((out.getD (i + j) 0 + x.getD i 0 * y.getD j 0).tmod p)
  else if k = 8 then out.set (i + j - 4) ((out.getD (i + j - 4) 0 + (p - x.getD i 0) * y.getD j 0).tmod p) else out
def mulRow (k p : Int) (x y : List Int) (i : Nat) (out : List Int) (m : Nat) : List Int := (List.range m).foldl (fun o j => mulStep k p x y o i j) out
def mulTo (k p : Int) (x y out : List Int) (m : Nat) : List Int := (List.range m).foldl (fun o i => mulRow k p x y i o y.length) out
theorem mulRow_step (k p : Int) (x y : List Int) (i : Nat) (out : List Int) (m : Nat) : mulRow k p x y i out (m + 1) = mulStep k p x y (mulRow k p x y i out m) i m := by simp [mulRow, List.range_succ]
theorem mulTo_step (k p : Int) (x y out : List Int) (m : Nat) : mulTo k p x y out (m + 1) = mulRow k p x y m (mulTo k p x y out m) y.length := by simp [mulTo, List.range_succ]
/-- Numbers below p, as many as the width says. -/
def PolyIn (k p n : Int) (xs : List Int) : Prop := xs.length = (widthI k n).toNat ∧ ∀ a ∈ xs, 0 ≤ a ∧ a ≤ p - 1
theorem PolyIn.set {k p n : Int} {xs : List Int} (h : PolyIn k p n xs) (i : Nat) {a : Int} (ha : 0 ≤ a ∧ a ≤ p - 1) : PolyIn k p n (xs.set i a) :=
  ⟨by rw [List.length_set]; exact h.1, fun b hb => by
    rcases List.mem_or_eq_of_mem_set hb with hb | rfl
    · exact h.2 b hb
    · exact ha⟩
theorem PolyIn.at {k p n : Int} {xs : List Int} (h : PolyIn k p n xs) (hp : 1 ≤ p) (i : Nat) : 0 ≤ xs.getD i 0 ∧ xs.getD i 0 ≤ p - 1 := by
  by_cases hi : i < xs.length
  · exact h.2 _ (mem_getD hi)
  · simp only [List.getD, List.getElem?_eq_none (Nat.le_of_not_lt hi)]
    show (0:Int) ≤ 0 ∧ (0:Int) ≤ p - 1
    omega
theorem InR.poly {k p n : Int} {xs : List Int} (h : InR k p n xs) (hr : ringL k p n) (hk : k = 2 ∨ k = 7 ∨ k = 8) : PolyIn k p n xs := by
  have := (top_poly hr hk).1
  refine ⟨h.1, fun a ha => ?_⟩
  rw [← this]; exact h.2 a ha
theorem PolyIn.inR {k p n : Int} {xs : List Int} (h : PolyIn k p n xs) (hr : ringL k p n) (hk : k = 2 ∨ k = 7 ∨ k = 8) : InR k p n xs := by
  have := (top_poly hr hk).1
  refine ⟨h.1, fun a ha => ?_⟩
  rw [this]; exact h.2 a ha
theorem poly_zero {k p n : Int} (hp : 1 ≤ p) (m : Nat) (hm : m = (widthI k n).toNat) : PolyIn k p n (List.replicate m 0) := by
  subst hm
  refine ⟨by simp, fun a ha => ?_⟩
  have := List.eq_of_mem_replicate ha
  omega
theorem mulStep_in {k p n : Int} {x y out : List Int} {i j : Nat} (hp : 1 ≤ p) (hx : PolyIn k p n x) (hy : PolyIn k p n y) (ho : PolyIn k p n out) : PolyIn k p n (mulStep k p x y out i j) := by
  have hxi := hx.at hp i
  have hyj := hy.at hp j
  unfold mulStep
  split
  · refine ho.set _ (tmod_in ?_ hp)
    have := (mul_in hxi hyj).1
    have := (ho.at hp (i + j)).1
    omega
  · split
    · refine ho.set _ (tmod_in ?_ hp)
      have := (mul_in (a := p - x.getD i 0) (t := p) ⟨by omega, by omega⟩ hyj).1
      have := (ho.at hp (i + j - 4)).1
      omega
    · exact ho
theorem mulRow_in {k p n : Int} {x y out : List Int} {i : Nat} (hp : 1 ≤ p) (hx : PolyIn k p n x) (hy : PolyIn k p n y) (ho : PolyIn k p n out) : ∀ m, PolyIn k p n (mulRow k p x y i out m)
  | 0 => by simpa [mulRow] using ho
  | m + 1 => by rw [mulRow_step]; exact mulStep_in hp hx hy (mulRow_in hp hx hy ho m)
theorem mulTo_in {k p n : Int} {x y out : List Int} (hp : 1 ≤ p) (hx : PolyIn k p n x) (hy : PolyIn k p n y) (ho : PolyIn k p n out) : ∀ m, PolyIn k p n (mulTo k p x y out m)
  | 0 => by simpa [mulTo] using ho
  | m + 1 => by rw [mulTo_step]; exact mulRow_in hp hx hy (mulTo_in hp hx hy ho m) _
open Classical in
noncomputable def mulL (k p n : Int) (x y : List Int) : List Int :=
  if k = 1 ∨ k = 5 then [min (x.getD 0 0) (y.getD 0 0)]
  else if k = 2 then [(x.getD 0 0 * y.getD 0 0).tmod p]
  else if k = 3 then [min (x.getD 0 0 * y.getD 0 0) p]
  else if k = 4 then [min (x.getD 0 0 + y.getD 0 0) p]
  else if k = 6 then [(((x.getD 0 0).toNat &&& (y.getD 0 0).toNat : Nat) : Int)]
  else mulTo k p x y (List.replicate (widthI k n).toNat 0) x.length
theorem one_R {k p n a : Int} (h7 : k ≠ 7) (h8 : k ≠ 8) (h : 0 ≤ a ∧ a ≤ topI k p n) : InR k p n [a] := ⟨by rw [width_1 h7 h8]; rfl, fun b hb => by simp at hb; subst hb; exact h⟩
theorem and_le (a b : Int) (ha : 0 ≤ a) : 0 ≤ ((a.toNat &&& b.toNat : Nat) : Int) ∧ ((a.toNat &&& b.toNat : Nat) : Int) ≤ a := by
  have : a.toNat &&& b.toNat ≤ a.toNat := Nat.and_le_left
  omega
theorem mulL_in {k p n : Int} {x y : List Int} (hr : ringL k p n) (hx : InR k p n x) (hy : InR k p n y) : InR k p n (mulL k p n x y) := by
  have h1 := hx.len hr
  have h2 := hy.len hr
  have hx0 := hx.at hr 0 (by omega)
  have hy0 := hy.at hr 0 (by omega)
  have hw := width_range hr
  have hm := (mul_in hx0 hy0).1
  unfold mulL
  split
  · exact one_R (by omega) (by omega) (by omega)
  · split
    · have ht := top_poly hr (by omega)
      refine one_R (by omega) (by omega) ?_
      have := tmod_in hm (show 1 ≤ p by omega)
      omega
    · split
      · have ht := top_cap hr (by omega)
        exact one_R (by omega) (by omega) (by omega)
      · split
        · have ht := top_cap hr (by omega)
          exact one_R (by omega) (by omega) (by omega)
        · split
          · have := and_le (x.getD 0 0) (y.getD 0 0) hx0.1
            exact one_R (by omega) (by omega) (by omega)
          · have hk := kind_rest hr (by omega) (by omega) (by omega) (by omega) (by omega) (by omega)
            have ht := top_poly hr (by omega)
            exact (mulTo_in (by omega) (hx.poly hr (by omega)) (hy.poly hr (by omega)) (poly_zero (by omega) _ rfl) _).inR hr (by omega)
theorem and_bool {a b : Int} (ha : 0 ≤ a ∧ a ≤ 1) (hb : 0 ≤ b ∧ b ≤ 1) : ((a.toNat &&& b.toNat : Nat) : Int) = min a b := by
  have e1 : a = 0 ∨ a = 1 := by omega
  have e2 : b = 0 ∨ b = 1 := by omega
  rcases e1 with rfl | rfl <;> rcases e2 with rfl | rfl <;> decide
theorem rep_set1 {m : Nat} (hm : m = 1) (a : Int) : (List.replicate m (0 : Int)).set 0 a = [a] := by subst hm; rfl
theorem top_1 {k p n : Int} (h : k = 1) : topI k p n = 1 := by simp [topI, h]
theorem fin1 {k p n a : Int} {x y : List Int} {v : Value} {h : PH} {m : Nat} (q : IntsO ((List.replicate m 0).set 0 a) v h) (hm : m = 1) (e : mulL k p n x y = [a]) : IntsO (mulL k p n x y) v h := by
  rw [e]; rwa [rep_set1 hm] at q
theorem mulL_poly {k p n : Int} {x y : List Int} (hk : k = 7 ∨ k = 8) : mulL k p n x y = mulTo k p x y (List.replicate (widthI k n).toNat 0) x.length := by
  unfold mulL
  rw [if_neg (by omega), if_neg (by omega), if_neg (by omega), if_neg (by omega), if_neg (by omega)]
set_option maxHeartbeats 1000000 in
theorem ct_s_l02Mul (k p n : Int) (x y : List Int) (v u : Value) (w : World) (h : ringL k p n) (r : IntsR x v (hp w)) (r' : IntsR y u (hp w)) (hx : InR k p n x) (hy : InR k p n y) :
    Calls Tryz.prog 159 [ringV k p n, v, u].toArray w (Ret w emp (IntsO (mulL k p n x y))) := by
  have h1 := hx.len h
  have h2 := hy.len h
  have hx0 := hx.at h 0 (by omega)
  have hy0 := hy.at h 0 (by omega)
  have hw := width_range h
  have htr := top_range h
  have hrp := ring_p h
  have hm := mul_in6 hx0 hy0 htr.2 htr.2
  refine calls_in Tryz.func159 rfl Tryz.ntmps159 rfl (Sat.start w) ?_
  have hle0 := r.le
  have hle1 := r'.le
  refine wp_sc ?_
  refine wp_sq ?_
  refine sq_x rfl (x_box rfl rfl) rfl ?_; rintro _ _ ⟨b3, rfl, rfl⟩
  refine sq_v rfl (v_assign rfl) rfl ?_
  refine sq_end ?_
  refine qs_n ?_
  refine wp_sc ?_
  refine wp_sq ?_
  refine sq_v rfl (v_move rfl) rfl ?_
  refine sq_v rfl (v_len Tryz.underlying25 rfl r.sl) rfl ?_
  refine sq_x rfl (x_makeI Tryz.underlying25 ty_3 rfl rfl (by first | omega | (simp only [List.length_cons, List.length_nil]; omega) | (simp only [List.length_append, List.length_cons, List.length_nil]; omega) | (rw [List.length_set]; omega) | (rw [List.length_replicate]; omega) | (simp; omega)) (by first | omega | (simp only [List.length_cons, List.length_nil]; omega) | (simp only [List.length_append, List.length_cons, List.length_nil]; omega) | (rw [List.length_set]; omega) | (rw [List.length_replicate]; omega) | (simp; omega)) (by first | omega | (simp only [List.length_cons, List.length_nil]; omega) | (simp only [List.length_append, List.length_cons, List.length_nil]; omega) | (rw [List.length_set]; omega) | (rw [List.length_replicate]; omega) | (simp; omega))) rfl ?_; intro v14 h14 r14
  refine sq_v rfl (v_assign rfl) rfl ?_
  refine sq_end ?_
  refine qs_n ?_
  refine wp_sc ?_
  refine wp_sc ?_
  refine wp_sq ?_
  refine sq_v rfl (v_fieldAddr fd_31_0 ty_3 (by decide) rfl) rfl ?_
  refine sq_v rfl (v_loadB 1 ty_3 rfl rfl rfl) rfl ?_
  refine sq_end ?_
  refine qs_n ?_
  refine wp_bl ?_
  refine wp_sc ?_
  refine wp_sc ?_
  refine wp_sq ?_
  refine sq_v rfl (v_eql rfl rfl) rfl ?_
  refine sq_v rfl (v_assign rfl) rfl ?_
  refine sq_end ?_
  refine qs_n ?_
  refine wp_cSd rfl (fun c85 => ?_) (fun c85 => ?_)
  · refine wp_sk ?_
    refine qs_n ?_
    refine wp_ct rfl ?_
    refine wp_rj 9 [(0, true), (1, true), (2, true), (3, true), (4, true), (5, true), (6, true), (7, true), (8, true), (9, false)] mixed_ok (by kernel_rfl) ?_
    refine rj_v rfl rfl (v_move rfl) rfl ?_
    refine rj_v rfl rfl (v_move rfl) rfl ?_
    refine rj_v rfl rfl (v_idxI Tryz.underlying25 ty_3 rfl rfl r (by first | omega | (simp only [List.length_cons, List.length_nil]; omega) | (simp only [List.length_append, List.length_cons, List.length_nil]; omega) | (rw [List.length_set]; omega) | (rw [List.length_replicate]; omega) | (simp; omega)) (by first | omega | (simp only [List.length_cons, List.length_nil]; omega) | (simp only [List.length_append, List.length_cons, List.length_nil]; omega) | (rw [List.length_set]; omega) | (rw [List.length_replicate]; omega) | (simp; omega))) rfl ?_
    refine rj_v rfl rfl (v_loadI (k := 0) 2 ty_3 rfl rfl r (by first | omega | (simp only [List.length_cons, List.length_nil]; omega) | (simp only [List.length_append, List.length_cons, List.length_nil]; omega) | (rw [List.length_set]; omega) | (rw [List.length_replicate]; omega) | (simp; omega))) rfl ?_
    refine rj_v rfl rfl (v_move rfl) rfl ?_
    refine rj_v rfl rfl (v_idxI Tryz.underlying25 ty_3 rfl rfl r' (by first | omega | (simp only [List.length_cons, List.length_nil]; omega) | (simp only [List.length_append, List.length_cons, List.length_nil]; omega) | (rw [List.length_set]; omega) | (rw [List.length_replicate]; omega) | (simp; omega)) (by first | omega | (simp only [List.length_cons, List.length_nil]; omega) | (simp only [List.length_append, List.length_cons, List.length_nil]; omega) | (rw [List.length_set]; omega) | (rw [List.length_replicate]; omega) | (simp; omega))) rfl ?_
    refine rj_v rfl rfl (v_loadI (k := 0) 2 ty_3 rfl rfl r' (by first | omega | (simp only [List.length_cons, List.length_nil]; omega) | (simp only [List.length_append, List.length_cons, List.length_nil]; omega) | (rw [List.length_set]; omega) | (rw [List.length_replicate]; omega) | (simp; omega))) rfl ?_
    refine rj_v rfl rfl (v_and rfl rfl ⟨by omega, by omega⟩ ⟨by omega, by omega⟩) rfl ?_
    refine rj_v rfl rfl (v_idxI Tryz.underlying25 ty_3 rfl rfl r14.toR (by first | omega | (simp only [List.length_cons, List.length_nil]; omega) | (simp only [List.length_append, List.length_cons, List.length_nil]; omega) | (rw [List.length_set]; omega) | (rw [List.length_replicate]; omega) | (simp; omega)) (by first | omega | (simp only [List.length_cons, List.length_nil]; omega) | (simp only [List.length_append, List.length_cons, List.length_nil]; omega) | (rw [List.length_set]; omega) | (rw [List.length_replicate]; omega) | (simp; omega))) rfl ?_
    refine rj_m 0 rfl rfl rfl rfl (m_storeI (k := 0) 0 ty_3 rfl rfl rfl r14 (by first | omega | (simp only [List.length_cons, List.length_nil]; omega) | (simp only [List.length_append, List.length_cons, List.length_nil]; omega) | (rw [List.length_set]; omega) | (rw [List.length_replicate]; omega) | (simp; omega))) rfl ?_; rintro _ h_q17_9 ⟨rfl, q17_9⟩
    refine rj_end ?_
    refine qs_bn ?_
    refine qs_n ?_
    refine wp_sc ?_
    refine wp_sq ?_
    refine sq_v rfl (v_move rfl) rfl ?_
    refine sq_v rfl (v_assign rfl) rfl ?_
    refine sq_end ?_
    refine qs_n ?_
    refine wp_rt ?_
    exact qs_ret1 rfl rfl (fin_t 0 (i := 2) rfl rfl rfl (fin1 q17_9 (by have := width_1 (k := k) (n := n) (by omega) (by omega); omega) (by have := top_1 (p := p) (n := n) c85; rw [and_bool (by omega) (by omega)]; simp [mulL, c85])))
  · refine wp_sq ?_
    refine sq_v rfl (v_eql rfl rfl) rfl ?_
    refine sq_v rfl (v_assign rfl) rfl ?_
    refine sq_end ?_
    refine qs_n ?_
    refine wp_cSd rfl (fun c85 => ?_) (fun c85 => ?_)
    · refine wp_rj 9 [(0, true), (1, true), (2, true), (3, true), (4, true), (5, true), (6, true), (7, true), (8, true), (9, false)] mixed_ok (by kernel_rfl) ?_
      refine rj_v rfl rfl (v_move rfl) rfl ?_
      refine rj_v rfl rfl (v_move rfl) rfl ?_
      refine rj_v rfl rfl (v_idxI Tryz.underlying25 ty_3 rfl rfl r (by first | omega | (simp only [List.length_cons, List.length_nil]; omega) | (simp only [List.length_append, List.length_cons, List.length_nil]; omega) | (rw [List.length_set]; omega) | (rw [List.length_replicate]; omega) | (simp; omega)) (by first | omega | (simp only [List.length_cons, List.length_nil]; omega) | (simp only [List.length_append, List.length_cons, List.length_nil]; omega) | (rw [List.length_set]; omega) | (rw [List.length_replicate]; omega) | (simp; omega))) rfl ?_
      refine rj_v rfl rfl (v_loadI (k := 0) 2 ty_3 rfl rfl r (by first | omega | (simp only [List.length_cons, List.length_nil]; omega) | (simp only [List.length_append, List.length_cons, List.length_nil]; omega) | (rw [List.length_set]; omega) | (rw [List.length_replicate]; omega) | (simp; omega))) rfl ?_
      refine rj_v rfl rfl (v_move rfl) rfl ?_
      refine rj_v rfl rfl (v_idxI Tryz.underlying25 ty_3 rfl rfl r' (by first | omega | (simp only [List.length_cons, List.length_nil]; omega) | (simp only [List.length_append, List.length_cons, List.length_nil]; omega) | (rw [List.length_set]; omega) | (rw [List.length_replicate]; omega) | (simp; omega)) (by first | omega | (simp only [List.length_cons, List.length_nil]; omega) | (simp only [List.length_append, List.length_cons, List.length_nil]; omega) | (rw [List.length_set]; omega) | (rw [List.length_replicate]; omega) | (simp; omega))) rfl ?_
      refine rj_v rfl rfl (v_loadI (k := 0) 2 ty_3 rfl rfl r' (by first | omega | (simp only [List.length_cons, List.length_nil]; omega) | (simp only [List.length_append, List.length_cons, List.length_nil]; omega) | (rw [List.length_set]; omega) | (rw [List.length_replicate]; omega) | (simp; omega))) rfl ?_
      refine rj_v rfl rfl (v_and rfl rfl ⟨by omega, by omega⟩ ⟨by omega, by omega⟩) rfl ?_
      refine rj_v rfl rfl (v_idxI Tryz.underlying25 ty_3 rfl rfl r14.toR (by first | omega | (simp only [List.length_cons, List.length_nil]; omega) | (simp only [List.length_append, List.length_cons, List.length_nil]; omega) | (rw [List.length_set]; omega) | (rw [List.length_replicate]; omega) | (simp; omega)) (by first | omega | (simp only [List.length_cons, List.length_nil]; omega) | (simp only [List.length_append, List.length_cons, List.length_nil]; omega) | (rw [List.length_set]; omega) | (rw [List.length_replicate]; omega) | (simp; omega))) rfl ?_
      refine rj_m 0 rfl rfl rfl rfl (m_storeI (k := 0) 0 ty_3 rfl rfl rfl r14 (by first | omega | (simp only [List.length_cons, List.length_nil]; omega) | (simp only [List.length_append, List.length_cons, List.length_nil]; omega) | (rw [List.length_set]; omega) | (rw [List.length_replicate]; omega) | (simp; omega))) rfl ?_; rintro _ h_q17_9 ⟨rfl, q17_9⟩
      refine rj_end ?_
      refine qs_bn ?_
      refine qs_n ?_
      refine wp_sc ?_
      refine wp_sq ?_
      refine sq_v rfl (v_move rfl) rfl ?_
      refine sq_v rfl (v_assign rfl) rfl ?_
      refine sq_end ?_
      refine qs_n ?_
      refine wp_rt ?_
      exact qs_ret1 rfl rfl (fin_t 0 (i := 2) rfl rfl rfl (fin1 q17_9 (by have := width_1 (k := k) (n := n) (by omega) (by omega); omega) (by simp [mulL, c85])))
    · refine wp_sc ?_
      refine wp_sq ?_
      refine sq_v rfl (v_eql rfl rfl) rfl ?_
      refine sq_v rfl (v_assign rfl) rfl ?_
      refine sq_end ?_
      refine qs_n ?_
      refine wp_cd rfl (fun c97 => ?_) (fun c97 => ?_)
      · refine wp_rj 12 [(0, true), (1, true), (2, true), (3, true), (4, true), (5, true), (6, true), (7, true), (8, true), (9, true), (10, true), (11, true), (12, false)] mixed_ok (by kernel_rfl) ?_
        refine rj_v rfl rfl (v_move rfl) rfl ?_
        refine rj_v rfl rfl (v_move rfl) rfl ?_
        refine rj_v rfl rfl (v_idxI Tryz.underlying25 ty_3 rfl rfl r (by first | omega | (simp only [List.length_cons, List.length_nil]; omega) | (simp only [List.length_append, List.length_cons, List.length_nil]; omega) | (rw [List.length_set]; omega) | (rw [List.length_replicate]; omega) | (simp; omega)) (by first | omega | (simp only [List.length_cons, List.length_nil]; omega) | (simp only [List.length_append, List.length_cons, List.length_nil]; omega) | (rw [List.length_set]; omega) | (rw [List.length_replicate]; omega) | (simp; omega))) rfl ?_
        refine rj_v rfl rfl (v_loadI (k := 0) 2 ty_3 rfl rfl r (by first | omega | (simp only [List.length_cons, List.length_nil]; omega) | (simp only [List.length_append, List.length_cons, List.length_nil]; omega) | (rw [List.length_set]; omega) | (rw [List.length_replicate]; omega) | (simp; omega))) rfl ?_
        refine rj_v rfl rfl (v_move rfl) rfl ?_
        refine rj_v rfl rfl (v_idxI Tryz.underlying25 ty_3 rfl rfl r' (by first | omega | (simp only [List.length_cons, List.length_nil]; omega) | (simp only [List.length_append, List.length_cons, List.length_nil]; omega) | (rw [List.length_set]; omega) | (rw [List.length_replicate]; omega) | (simp; omega)) (by first | omega | (simp only [List.length_cons, List.length_nil]; omega) | (simp only [List.length_append, List.length_cons, List.length_nil]; omega) | (rw [List.length_set]; omega) | (rw [List.length_replicate]; omega) | (simp; omega))) rfl ?_
        refine rj_v rfl rfl (v_loadI (k := 0) 2 ty_3 rfl rfl r' (by first | omega | (simp only [List.length_cons, List.length_nil]; omega) | (simp only [List.length_append, List.length_cons, List.length_nil]; omega) | (rw [List.length_set]; omega) | (rw [List.length_replicate]; omega) | (simp; omega))) rfl ?_
        refine rj_v rfl rfl (v_mul rfl rfl ((by unfold I64; omega))) rfl ?_
        refine rj_v rfl rfl (v_fieldAddr fd_31_1 ty_3 (by decide) rfl) rfl ?_
        refine rj_v rfl rfl (v_loadB 1 ty_3 rfl rfl rfl) rfl ?_
        refine rj_v rfl rfl (v_rem rfl rfl (by have := top_poly h (.inl c97); omega)) rfl ?_
        refine rj_v rfl rfl (v_idxI Tryz.underlying25 ty_3 rfl rfl r14.toR (by first | omega | (simp only [List.length_cons, List.length_nil]; omega) | (simp only [List.length_append, List.length_cons, List.length_nil]; omega) | (rw [List.length_set]; omega) | (rw [List.length_replicate]; omega) | (simp; omega)) (by first | omega | (simp only [List.length_cons, List.length_nil]; omega) | (simp only [List.length_append, List.length_cons, List.length_nil]; omega) | (rw [List.length_set]; omega) | (rw [List.length_replicate]; omega) | (simp; omega))) rfl ?_
        refine rj_m 0 rfl rfl rfl rfl (m_storeI (k := 0) 0 ty_3 rfl rfl rfl r14 (by first | omega | (simp only [List.length_cons, List.length_nil]; omega) | (simp only [List.length_append, List.length_cons, List.length_nil]; omega) | (rw [List.length_set]; omega) | (rw [List.length_replicate]; omega) | (simp; omega))) rfl ?_; rintro _ h_q19_12 ⟨rfl, q19_12⟩
        refine rj_end ?_
        refine qs_bn ?_
        refine qs_n ?_
        refine wp_sc ?_
        refine wp_sq ?_
        refine sq_v rfl (v_move rfl) rfl ?_
        refine sq_v rfl (v_assign rfl) rfl ?_
        refine sq_end ?_
        refine qs_n ?_
        refine wp_rt ?_
        exact qs_ret1 rfl rfl (fin_t 0 (i := 2) rfl rfl rfl (fin1 q19_12 (by have := width_1 (k := k) (n := n) (by omega) (by omega); omega) (by simp [mulL, c97])))
      · refine wp_sc ?_
        refine wp_sq ?_
        refine sq_v rfl (v_eql rfl rfl) rfl ?_
        refine sq_v rfl (v_assign rfl) rfl ?_
        refine sq_end ?_
        refine qs_n ?_
        refine wp_cd rfl (fun c111 => ?_) (fun c111 => ?_)
        · refine wp_rj 12 [(0, true), (1, true), (2, true), (3, true), (4, true), (5, true), (6, true), (7, true), (8, true), (9, true), (10, true), (11, true), (12, false)] mixed_ok (by kernel_rfl) ?_
          refine rj_v rfl rfl (v_move rfl) rfl ?_
          refine rj_v rfl rfl (v_move rfl) rfl ?_
          refine rj_v rfl rfl (v_idxI Tryz.underlying25 ty_3 rfl rfl r (by first | omega | (simp only [List.length_cons, List.length_nil]; omega) | (simp only [List.length_append, List.length_cons, List.length_nil]; omega) | (rw [List.length_set]; omega) | (rw [List.length_replicate]; omega) | (simp; omega)) (by first | omega | (simp only [List.length_cons, List.length_nil]; omega) | (simp only [List.length_append, List.length_cons, List.length_nil]; omega) | (rw [List.length_set]; omega) | (rw [List.length_replicate]; omega) | (simp; omega))) rfl ?_
          refine rj_v rfl rfl (v_loadI (k := 0) 2 ty_3 rfl rfl r (by first | omega | (simp only [List.length_cons, List.length_nil]; omega) | (simp only [List.length_append, List.length_cons, List.length_nil]; omega) | (rw [List.length_set]; omega) | (rw [List.length_replicate]; omega) | (simp; omega))) rfl ?_
          refine rj_v rfl rfl (v_move rfl) rfl ?_
          refine rj_v rfl rfl (v_idxI Tryz.underlying25 ty_3 rfl rfl r' (by first | omega | (simp only [List.length_cons, List.length_nil]; omega) | (simp only [List.length_append, List.length_cons, List.length_nil]; omega) | (rw [List.length_set]; omega) | (rw [List.length_replicate]; omega) | (simp; omega)) (by first | omega | (simp only [List.length_cons, List.length_nil]; omega) | (simp only [List.length_append, List.length_cons, List.length_nil]; omega) | (rw [List.length_set]; omega) | (rw [List.length_replicate]; omega) | (simp; omega))) rfl ?_
          refine rj_v rfl rfl (v_loadI (k := 0) 2 ty_3 rfl rfl r' (by first | omega | (simp only [List.length_cons, List.length_nil]; omega) | (simp only [List.length_append, List.length_cons, List.length_nil]; omega) | (rw [List.length_set]; omega) | (rw [List.length_replicate]; omega) | (simp; omega))) rfl ?_
          refine rj_v rfl rfl (v_mul rfl rfl ((by unfold I64; omega))) rfl ?_
          refine rj_v rfl rfl (v_fieldAddr fd_31_1 ty_3 (by decide) rfl) rfl ?_
          refine rj_v rfl rfl (v_loadB 1 ty_3 rfl rfl rfl) rfl ?_
          refine rj_v rfl rfl (v_min rfl rfl) rfl ?_
          refine rj_v rfl rfl (v_idxI Tryz.underlying25 ty_3 rfl rfl r14.toR (by first | omega | (simp only [List.length_cons, List.length_nil]; omega) | (simp only [List.length_append, List.length_cons, List.length_nil]; omega) | (rw [List.length_set]; omega) | (rw [List.length_replicate]; omega) | (simp; omega)) (by first | omega | (simp only [List.length_cons, List.length_nil]; omega) | (simp only [List.length_append, List.length_cons, List.length_nil]; omega) | (rw [List.length_set]; omega) | (rw [List.length_replicate]; omega) | (simp; omega))) rfl ?_
          refine rj_m 0 rfl rfl rfl rfl (m_storeI (k := 0) 0 ty_3 rfl rfl rfl r14 (by first | omega | (simp only [List.length_cons, List.length_nil]; omega) | (simp only [List.length_append, List.length_cons, List.length_nil]; omega) | (rw [List.length_set]; omega) | (rw [List.length_replicate]; omega) | (simp; omega))) rfl ?_; rintro _ h_q21_12 ⟨rfl, q21_12⟩
          refine rj_end ?_
          refine qs_bn ?_
          refine qs_n ?_
          refine wp_sc ?_
          refine wp_sq ?_
          refine sq_v rfl (v_move rfl) rfl ?_
          refine sq_v rfl (v_assign rfl) rfl ?_
          refine sq_end ?_
          refine qs_n ?_
          refine wp_rt ?_
          exact qs_ret1 rfl rfl (fin_t 0 (i := 2) rfl rfl rfl (fin1 q21_12 (by have := width_1 (k := k) (n := n) (by omega) (by omega); omega) (by simp [mulL, c111])))
        · refine wp_sc ?_
          refine wp_sq ?_
          refine sq_v rfl (v_eql rfl rfl) rfl ?_
          refine sq_v rfl (v_assign rfl) rfl ?_
          refine sq_end ?_
          refine qs_n ?_
          refine wp_cd rfl (fun c125 => ?_) (fun c125 => ?_)
          · refine wp_rj 12 [(0, true), (1, true), (2, true), (3, true), (4, true), (5, true), (6, true), (7, true), (8, true), (9, true), (10, true), (11, true), (12, false)] mixed_ok (by kernel_rfl) ?_
            refine rj_v rfl rfl (v_move rfl) rfl ?_
            refine rj_v rfl rfl (v_move rfl) rfl ?_
            refine rj_v rfl rfl (v_idxI Tryz.underlying25 ty_3 rfl rfl r (by first | omega | (simp only [List.length_cons, List.length_nil]; omega) | (simp only [List.length_append, List.length_cons, List.length_nil]; omega) | (rw [List.length_set]; omega) | (rw [List.length_replicate]; omega) | (simp; omega)) (by first | omega | (simp only [List.length_cons, List.length_nil]; omega) | (simp only [List.length_append, List.length_cons, List.length_nil]; omega) | (rw [List.length_set]; omega) | (rw [List.length_replicate]; omega) | (simp; omega))) rfl ?_
            refine rj_v rfl rfl (v_loadI (k := 0) 2 ty_3 rfl rfl r (by first | omega | (simp only [List.length_cons, List.length_nil]; omega) | (simp only [List.length_append, List.length_cons, List.length_nil]; omega) | (rw [List.length_set]; omega) | (rw [List.length_replicate]; omega) | (simp; omega))) rfl ?_
            refine rj_v rfl rfl (v_move rfl) rfl ?_
            refine rj_v rfl rfl (v_idxI Tryz.underlying25 ty_3 rfl rfl r' (by first | omega | (simp only [List.length_cons, List.length_nil]; omega) | (simp only [List.length_append, List.length_cons, List.length_nil]; omega) | (rw [List.length_set]; omega) | (rw [List.length_replicate]; omega) | (simp; omega)) (by first | omega | (simp only [List.length_cons, List.length_nil]; omega) | (simp only [List.length_append, List.length_cons, List.length_nil]; omega) | (rw [List.length_set]; omega) | (rw [List.length_replicate]; omega) | (simp; omega))) rfl ?_
            refine rj_v rfl rfl (v_loadI (k := 0) 2 ty_3 rfl rfl r' (by first | omega | (simp only [List.length_cons, List.length_nil]; omega) | (simp only [List.length_append, List.length_cons, List.length_nil]; omega) | (rw [List.length_set]; omega) | (rw [List.length_replicate]; omega) | (simp; omega))) rfl ?_
            refine rj_v rfl rfl (v_add rfl rfl ((by unfold I64; omega))) rfl ?_
            refine rj_v rfl rfl (v_fieldAddr fd_31_1 ty_3 (by decide) rfl) rfl ?_
            refine rj_v rfl rfl (v_loadB 1 ty_3 rfl rfl rfl) rfl ?_
            refine rj_v rfl rfl (v_min rfl rfl) rfl ?_
            refine rj_v rfl rfl (v_idxI Tryz.underlying25 ty_3 rfl rfl r14.toR (by first | omega | (simp only [List.length_cons, List.length_nil]; omega) | (simp only [List.length_append, List.length_cons, List.length_nil]; omega) | (rw [List.length_set]; omega) | (rw [List.length_replicate]; omega) | (simp; omega)) (by first | omega | (simp only [List.length_cons, List.length_nil]; omega) | (simp only [List.length_append, List.length_cons, List.length_nil]; omega) | (rw [List.length_set]; omega) | (rw [List.length_replicate]; omega) | (simp; omega))) rfl ?_
            refine rj_m 0 rfl rfl rfl rfl (m_storeI (k := 0) 0 ty_3 rfl rfl rfl r14 (by first | omega | (simp only [List.length_cons, List.length_nil]; omega) | (simp only [List.length_append, List.length_cons, List.length_nil]; omega) | (rw [List.length_set]; omega) | (rw [List.length_replicate]; omega) | (simp; omega))) rfl ?_; rintro _ h_q23_12 ⟨rfl, q23_12⟩
            refine rj_end ?_
            refine qs_bn ?_
            refine qs_n ?_
            refine wp_sc ?_
            refine wp_sq ?_
            refine sq_v rfl (v_move rfl) rfl ?_
            refine sq_v rfl (v_assign rfl) rfl ?_
            refine sq_end ?_
            refine qs_n ?_
            refine wp_rt ?_
            exact qs_ret1 rfl rfl (fin_t 0 (i := 2) rfl rfl rfl (fin1 q23_12 (by have := width_1 (k := k) (n := n) (by omega) (by omega); omega) (by simp [mulL, c125])))
          · refine wp_sc ?_
            refine wp_sq ?_
            refine sq_v rfl (v_eql rfl rfl) rfl ?_
            refine sq_v rfl (v_assign rfl) rfl ?_
            refine sq_end ?_
            refine qs_n ?_
            refine wp_cd rfl (fun c139 => ?_) (fun c139 => ?_)
            · refine wp_rj 9 [(0, true), (1, true), (2, true), (3, true), (4, true), (5, true), (6, true), (7, true), (8, true), (9, false)] mixed_ok (by kernel_rfl) ?_
              refine rj_v rfl rfl (v_move rfl) rfl ?_
              refine rj_v rfl rfl (v_move rfl) rfl ?_
              refine rj_v rfl rfl (v_idxI Tryz.underlying25 ty_3 rfl rfl r (by first | omega | (simp only [List.length_cons, List.length_nil]; omega) | (simp only [List.length_append, List.length_cons, List.length_nil]; omega) | (rw [List.length_set]; omega) | (rw [List.length_replicate]; omega) | (simp; omega)) (by first | omega | (simp only [List.length_cons, List.length_nil]; omega) | (simp only [List.length_append, List.length_cons, List.length_nil]; omega) | (rw [List.length_set]; omega) | (rw [List.length_replicate]; omega) | (simp; omega))) rfl ?_
              refine rj_v rfl rfl (v_loadI (k := 0) 2 ty_3 rfl rfl r (by first | omega | (simp only [List.length_cons, List.length_nil]; omega) | (simp only [List.length_append, List.length_cons, List.length_nil]; omega) | (rw [List.length_set]; omega) | (rw [List.length_replicate]; omega) | (simp; omega))) rfl ?_
              refine rj_v rfl rfl (v_move rfl) rfl ?_
              refine rj_v rfl rfl (v_idxI Tryz.underlying25 ty_3 rfl rfl r' (by first | omega | (simp only [List.length_cons, List.length_nil]; omega) | (simp only [List.length_append, List.length_cons, List.length_nil]; omega) | (rw [List.length_set]; omega) | (rw [List.length_replicate]; omega) | (simp; omega)) (by first | omega | (simp only [List.length_cons, List.length_nil]; omega) | (simp only [List.length_append, List.length_cons, List.length_nil]; omega) | (rw [List.length_set]; omega) | (rw [List.length_replicate]; omega) | (simp; omega))) rfl ?_
              refine rj_v rfl rfl (v_loadI (k := 0) 2 ty_3 rfl rfl r' (by first | omega | (simp only [List.length_cons, List.length_nil]; omega) | (simp only [List.length_append, List.length_cons, List.length_nil]; omega) | (rw [List.length_set]; omega) | (rw [List.length_replicate]; omega) | (simp; omega))) rfl ?_
              refine rj_v rfl rfl (v_min rfl rfl) rfl ?_
              refine rj_v rfl rfl (v_idxI Tryz.underlying25 ty_3 rfl rfl r14.toR (by first | omega | (simp only [List.length_cons, List.length_nil]; omega) | (simp only [List.length_append, List.length_cons, List.length_nil]; omega) | (rw [List.length_set]; omega) | (rw [List.length_replicate]; omega) | (simp; omega)) (by first | omega | (simp only [List.length_cons, List.length_nil]; omega) | (simp only [List.length_append, List.length_cons, List.length_nil]; omega) | (rw [List.length_set]; omega) | (rw [List.length_replicate]; omega) | (simp; omega))) rfl ?_
              refine rj_m 0 rfl rfl rfl rfl (m_storeI (k := 0) 0 ty_3 rfl rfl rfl r14 (by first | omega | (simp only [List.length_cons, List.length_nil]; omega) | (simp only [List.length_append, List.length_cons, List.length_nil]; omega) | (rw [List.length_set]; omega) | (rw [List.length_replicate]; omega) | (simp; omega))) rfl ?_; rintro _ h_q25_9 ⟨rfl, q25_9⟩
              refine rj_end ?_
              refine qs_bn ?_
              refine qs_n ?_
              refine wp_sc ?_
              refine wp_sq ?_
              refine sq_v rfl (v_move rfl) rfl ?_
              refine sq_v rfl (v_assign rfl) rfl ?_
              refine sq_end ?_
              refine qs_n ?_
              refine wp_rt ?_
              exact qs_ret1 rfl rfl (fin_t 0 (i := 2) rfl rfl rfl (fin1 q25_9 (by have := width_1 (k := k) (n := n) (by omega) (by omega); omega) (by simp [mulL, c139])))
            · refine wp_sc ?_
              refine wp_sq ?_
              refine sq_v rfl (v_move rfl) rfl ?_
              refine sq_v rfl (v_len Tryz.underlying25 rfl r.sl) rfl ?_
              refine sq_v rfl (v_move rfl) rfl ?_
              refine sq_end ?_
              have hk := kind_rest h (by omega) (by omega) (by omega) (by omega) (by omega) (by omega)
              have ht := top_poly h (by omega)
              have px := hx.poly h (by omega)
              have py := hy.poly h (by omega)
              have pz := poly_zero (k := k) (n := n) (p := p) (by omega) _ rfl
              have ez : (x.length : Int).toNat = (widthI k n).toNat := by omega
              refine qs_n ?_
              refine wp_bl ?_
              refine wp_lp (σ := Nat × PH) (fun z_ => [(2, u), (3, .pointer (some ⟨b3, 0, none⟩)), (6, .slice none 0 0), (7, v14), (17, v), (18, num x.length), (19, num z_.1)]) (fun z_ => [z_.2, box b3 [num k, num p, num n] 31, hp w]) (fun z_ => z_.1 ≤ x.length ∧ IntsO (mulTo k p x y (List.replicate (widthI k n).toNat 0) z_.1) v14 z_.2) (fun z_ => x.length - z_.1) (0, h14) (⟨by (try dsimp only); omega, by (try dsimp only); rw [ez] at r14; simpa [mulTo] using r14⟩) ⟨rfl, rfl, rfl, rfl, rfl, rfl, (by first | rfl | exact ksub rfl (by first | omega | (simp; done) | (simp; omega))), trivial⟩ (fun _ s => s) ?_
              rintro ⟨i, g⟩ ⟨hi, q⟩
              dsimp only at hi q ⊢
              have hle_q := q.toR.le
              have po := mulTo_in (by omega) px py pz i
              refine wp_sc ?_
              refine wp_sq ?_
              refine sq_v rfl (v_lss rfl rfl) rfl ?_
              refine sq_end ?_
              refine qs_n ?_
              refine wp_sc ?_
              refine wp_cd rfl (fun c20 => ?_) (fun c20 => ?_)
              · refine wp_sk ?_
                refine qs_n ?_
                refine wp_sc ?_
                refine wp_bl ?_
                refine wp_sc ?_
                refine wp_sq ?_
                refine sq_v rfl (v_move rfl) rfl ?_
                refine sq_v rfl (v_idxI Tryz.underlying25 ty_3 rfl rfl r (by first | omega | (simp only [List.length_cons, List.length_nil]; omega) | (simp only [List.length_append, List.length_cons, List.length_nil]; omega) | (rw [List.length_set]; omega) | (rw [List.length_replicate]; omega) | (simp; omega)) (by first | omega | (simp only [List.length_cons, List.length_nil]; omega) | (simp only [List.length_append, List.length_cons, List.length_nil]; omega) | (rw [List.length_set]; omega) | (rw [List.length_replicate]; omega) | (simp; omega))) rfl ?_
                refine sq_v rfl (v_loadI (k := i) 2 ty_3 rfl rfl r (by first | omega | (simp only [List.length_cons, List.length_nil]; omega) | (simp only [List.length_append, List.length_cons, List.length_nil]; omega) | (rw [List.length_set]; omega) | (rw [List.length_replicate]; omega) | (simp; omega))) rfl ?_
                refine sq_v rfl (v_assign rfl) rfl ?_
                refine sq_v rfl (v_assign rfl) rfl ?_
                refine sq_end ?_
                refine qs_n ?_
                refine wp_sc ?_
                refine wp_sq ?_
                refine sq_v rfl (v_move rfl) rfl ?_
                refine sq_v rfl (v_len Tryz.underlying25 rfl r'.sl) rfl ?_
                refine sq_v rfl (v_move rfl) rfl ?_
                refine sq_end ?_
                refine qs_n ?_
                refine wp_bl ?_
                refine wp_lp (σ := Nat × PH) (fun z_ => [(2, u), (3, .pointer (some ⟨b3, 0, none⟩)), (6, .slice none 0 0), (7, v14), (8, num i), (9, num (x.getD i 0)), (17, v), (18, num x.length), (19, num i), (20, .bool (decide ((i : Int) < x.length))), (21, num i), (23, num (x.getD i 0)), (24, u), (25, num y.length), (26, num z_.1)]) (fun z_ => [z_.2, box b3 [num k, num p, num n] 31, hp w]) (fun z_ => z_.1 ≤ y.length ∧ IntsO (mulRow k p x y i (mulTo k p x y (List.replicate (widthI k n).toNat 0) i) z_.1) v14 z_.2) (fun z_ => y.length - z_.1) (0, g) (⟨by (try dsimp only); omega, by (try dsimp only); simpa [mulRow] using q⟩) ⟨rfl, rfl, rfl, rfl, rfl, rfl, rfl, rfl, rfl, rfl, rfl, rfl, rfl, rfl, (by first | rfl | exact ksub rfl (by first | omega | (simp; done) | (simp; omega))), trivial⟩ (fun _ s => s) ?_
                rintro ⟨j, g⟩ ⟨hj, q⟩
                dsimp only at hj q ⊢
                have hle_q := q.toR.le
                have pr := mulRow_in (by omega) px py po (i := i) j
                have pl := pr.1
                have hxi := px.at (by omega) i
                have hyj := py.at (by omega) j
                have hm2 := mul_in6 hxi hyj (by omega) (by omega)
                have hm3 := mul_in6 (a := p - x.getD i 0) (t := p) ⟨by omega, by omega⟩ hyj (by omega) (by omega)
                have hoij := pr.at (by omega) (i + j)
                have hoij4 := pr.at (by omega) ((i : Int) + j - 4).toNat
                have hw7 : k = 8 → widthI k n = 4 := fun e => by simp [widthI, e]
                refine wp_sc ?_
                refine wp_sq ?_
                refine sq_v rfl (v_lss rfl rfl) rfl ?_
                refine sq_end ?_
                refine qs_n ?_
                refine wp_sc ?_
                refine wp_cd rfl (fun c27 => ?_) (fun c27 => ?_)
                · refine wp_sk ?_
                  refine qs_n ?_
                  refine wp_sc ?_
                  refine wp_bl ?_
                  refine wp_sc ?_
                  refine wp_sq ?_
                  refine sq_v rfl (v_move rfl) rfl ?_
                  refine sq_v rfl (v_idxI Tryz.underlying25 ty_3 rfl rfl r' (by first | omega | (simp only [List.length_cons, List.length_nil]; omega) | (simp only [List.length_append, List.length_cons, List.length_nil]; omega) | (rw [List.length_set]; omega) | (rw [List.length_replicate]; omega) | (simp; omega)) (by first | omega | (simp only [List.length_cons, List.length_nil]; omega) | (simp only [List.length_append, List.length_cons, List.length_nil]; omega) | (rw [List.length_set]; omega) | (rw [List.length_replicate]; omega) | (simp; omega))) rfl ?_
                  refine sq_v rfl (v_loadI (k := j) 2 ty_3 rfl rfl r' (by first | omega | (simp only [List.length_cons, List.length_nil]; omega) | (simp only [List.length_append, List.length_cons, List.length_nil]; omega) | (rw [List.length_set]; omega) | (rw [List.length_replicate]; omega) | (simp; omega))) rfl ?_
                  refine sq_v rfl (v_assign rfl) rfl ?_
                  refine sq_v rfl (v_assign rfl) rfl ?_
                  refine sq_end ?_
                  refine qs_n ?_
                  refine wp_bl ?_
                  refine wp_sc ?_
                  refine wp_sq ?_
                  refine sq_v rfl (v_move rfl) rfl ?_
                  refine sq_v rfl (v_move rfl) rfl ?_
                  refine sq_v rfl (v_add rfl rfl ((by unfold I64; omega))) rfl ?_
                  refine sq_v rfl (v_move rfl) rfl ?_
                  refine sq_v rfl (v_len Tryz.underlying25 rfl q.toR.sl) rfl ?_
                  refine sq_v rfl (v_lss rfl rfl) rfl ?_
                  refine sq_v rfl (v_assign rfl) rfl ?_
                  refine sq_end ?_
                  refine qs_n ?_
                  refine wp_cd rfl (fun c31 => ?_) (fun c31 => ?_)
                  · refine wp_rj 18 [(0, true), (1, true), (2, true), (3, true), (4, true), (5, true), (6, true), (7, true), (8, true), (9, true), (10, true), (11, true), (12, true), (13, true), (14, true), (15, true), (16, true), (17, true), (18, false)] mixed_ok (by kernel_rfl) ?_
                    refine rj_v rfl rfl (v_move rfl) rfl ?_
                    refine rj_v rfl rfl (v_move rfl) rfl ?_
                    refine rj_v rfl rfl (v_move rfl) rfl ?_
                    refine rj_v rfl rfl (v_add rfl rfl ((by unfold I64; omega))) rfl ?_
                    refine rj_v rfl rfl (v_move rfl) rfl ?_
                    refine rj_v rfl rfl (v_move rfl) rfl ?_
                    refine rj_v rfl rfl (v_move rfl) rfl ?_
                    refine rj_v rfl rfl (v_add rfl rfl ((by unfold I64; omega))) rfl ?_
                    refine rj_v rfl rfl (v_idxI Tryz.underlying25 ty_3 rfl rfl q.toR (by first | omega | (simp only [List.length_cons, List.length_nil]; omega) | (simp only [List.length_append, List.length_cons, List.length_nil]; omega) | (rw [List.length_set]; omega) | (rw [List.length_replicate]; omega) | (simp; omega)) (by first | omega | (simp only [List.length_cons, List.length_nil]; omega) | (simp only [List.length_append, List.length_cons, List.length_nil]; omega) | (rw [List.length_set]; omega) | (rw [List.length_replicate]; omega) | (simp; omega))) rfl ?_
                    refine rj_v rfl rfl (v_loadI (k := (i+j)) 0 ty_3 rfl rfl q.toR (by omega)) rfl ?_
                    refine rj_v rfl rfl (v_move rfl) rfl ?_
                    refine rj_v rfl rfl (v_move rfl) rfl ?_
                    refine rj_v rfl rfl (v_mul rfl rfl ((by unfold I64; omega))) rfl ?_
                    refine rj_v rfl rfl (v_add rfl rfl ((by unfold I64; omega))) rfl ?_
                    refine rj_v rfl rfl (v_fieldAddr fd_31_1 ty_3 (by decide) rfl) rfl ?_
                    refine rj_v rfl rfl (v_loadB 1 ty_3 rfl rfl rfl) rfl ?_
                    refine rj_v rfl rfl (v_rem rfl rfl (by omega)) rfl ?_
                    refine rj_v rfl rfl (v_idxI Tryz.underlying25 ty_3 rfl rfl q.toR (by first | omega | (simp only [List.length_cons, List.length_nil]; omega) | (simp only [List.length_append, List.length_cons, List.length_nil]; omega) | (rw [List.length_set]; omega) | (rw [List.length_replicate]; omega) | (simp; omega)) (by first | omega | (simp only [List.length_cons, List.length_nil]; omega) | (simp only [List.length_append, List.length_cons, List.length_nil]; omega) | (rw [List.length_set]; omega) | (rw [List.length_replicate]; omega) | (simp; omega))) rfl ?_
                    refine rj_m 0 rfl rfl rfl rfl (m_storeI (k := (i + j)) 0 ty_3 rfl rfl rfl q (by first | omega | (simp only [List.length_cons, List.length_nil]; omega) | (simp only [List.length_append, List.length_cons, List.length_nil]; omega) | (rw [List.length_set]; omega) | (rw [List.length_replicate]; omega) | (simp; omega))) rfl ?_; rintro _ h_q10_18 ⟨rfl, q10_18⟩
                    refine rj_end ?_
                    refine qs_bn ?_
                    refine qs_bn ?_
                    refine qs_n ?_
                    refine wp_sq ?_
                    refine sq_v rfl (v_add rfl rfl ((by unfold I64; omega))) rfl ?_
                    refine sq_v rfl (v_move rfl) rfl ?_
                    refine sq_end ?_
                    exact qs_bk (j + 1, h_q10_18) ⟨by (try dsimp only); omega, by (try dsimp only); rw [mulRow_step, mulStep, if_pos (by omega)]; exact q10_18⟩ (by simp only; omega) ⟨rfl, rfl, rfl, rfl, rfl, rfl, rfl, rfl, rfl, rfl, rfl, rfl, rfl, rfl, (by first | rfl | exact ksub rfl (by first | omega | (simp; done) | (simp; omega))), trivial⟩ (fun _ s => s)
                  · refine wp_sc ?_
                    refine wp_sq ?_
                    refine sq_v rfl (v_fieldAddr fd_31_0 ty_3 (by decide) rfl) rfl ?_
                    refine sq_v rfl (v_loadB 1 ty_3 rfl rfl rfl) rfl ?_
                    refine sq_v rfl (v_eql rfl rfl) rfl ?_
                    refine sq_v rfl (v_assign rfl) rfl ?_
                    refine sq_end ?_
                    refine qs_n ?_
                    refine wp_cd rfl (fun c56 => ?_) (fun c56 => ?_)
                    · refine wp_rj 23 [(0, true), (1, true), (2, true), (3, true), (4, true), (5, true), (6, true), (7, true), (8, true), (9, true), (10, true), (11, true), (12, true), (13, true), (14, true), (15, true), (16, true), (17, true), (18, true), (19, true), (20, true), (21, true), (22, true), (23, false)] mixed_ok (by kernel_rfl) ?_
                      refine rj_v rfl rfl (v_move rfl) rfl ?_
                      refine rj_v rfl rfl (v_move rfl) rfl ?_
                      refine rj_v rfl rfl (v_move rfl) rfl ?_
                      refine rj_v rfl rfl (v_add rfl rfl ((by unfold I64; omega))) rfl ?_
                      refine rj_v rfl rfl (v_sub rfl rfl ((by unfold I64; omega))) rfl ?_
                      refine rj_v rfl rfl (v_move rfl) rfl ?_
                      refine rj_v rfl rfl (v_move rfl) rfl ?_
                      refine rj_v rfl rfl (v_move rfl) rfl ?_
                      refine rj_v rfl rfl (v_add rfl rfl ((by unfold I64; omega))) rfl ?_
                      refine rj_v rfl rfl (v_sub rfl rfl ((by unfold I64; omega))) rfl ?_
                      refine rj_v rfl rfl (v_idxI Tryz.underlying25 ty_3 rfl rfl q.toR (by first | omega | (simp only [List.length_cons, List.length_nil]; omega) | (simp only [List.length_append, List.length_cons, List.length_nil]; omega) | (rw [List.length_set]; omega) | (rw [List.length_replicate]; omega) | (simp; omega)) (by first | omega | (simp only [List.length_cons, List.length_nil]; omega) | (simp only [List.length_append, List.length_cons, List.length_nil]; omega) | (rw [List.length_set]; omega) | (rw [List.length_replicate]; omega) | (simp; omega))) rfl ?_
                      refine rj_v rfl rfl (v_loadI  0 ty_3 rfl rfl q.toR (by first | omega | (simp only [List.length_cons, List.length_nil]; omega) | (simp only [List.length_append, List.length_cons, List.length_nil]; omega) | (rw [List.length_set]; omega) | (rw [List.length_replicate]; omega) | (simp; omega))) rfl ?_
                      refine rj_v rfl rfl (v_fieldAddr fd_31_1 ty_3 (by decide) rfl) rfl ?_
                      refine rj_v rfl rfl (v_loadB 1 ty_3 rfl rfl rfl) rfl ?_
                      refine rj_v rfl rfl (v_move rfl) rfl ?_
                      refine rj_v rfl rfl (v_sub rfl rfl ((by unfold I64; omega))) rfl ?_
                      refine rj_v rfl rfl (v_move rfl) rfl ?_
                      refine rj_v rfl rfl (v_mul rfl rfl ((by unfold I64; omega))) rfl ?_
                      refine rj_v rfl rfl (v_add rfl rfl ((by unfold I64; omega))) rfl ?_
                      refine rj_v rfl rfl (v_fieldAddr fd_31_1 ty_3 (by decide) rfl) rfl ?_
                      refine rj_v rfl rfl (v_loadB 1 ty_3 rfl rfl rfl) rfl ?_
                      refine rj_v rfl rfl (v_rem rfl rfl (by omega)) rfl ?_
                      refine rj_v rfl rfl (v_idxI Tryz.underlying25 ty_3 rfl rfl q.toR (by first | omega | (simp only [List.length_cons, List.length_nil]; omega) | (simp only [List.length_append, List.length_cons, List.length_nil]; omega) | (rw [List.length_set]; omega) | (rw [List.length_replicate]; omega) | (simp; omega)) (by first | omega | (simp only [List.length_cons, List.length_nil]; omega) | (simp only [List.length_append, List.length_cons, List.length_nil]; omega) | (rw [List.length_set]; omega) | (rw [List.length_replicate]; omega) | (simp; omega))) rfl ?_
                      refine rj_m 0 rfl rfl rfl rfl (m_storeI 0 ty_3 rfl rfl rfl q (by first | omega | (simp only [List.length_cons, List.length_nil]; omega) | (simp only [List.length_append, List.length_cons, List.length_nil]; omega) | (rw [List.length_set]; omega) | (rw [List.length_replicate]; omega) | (simp; omega))) rfl ?_; rintro _ h_q12_23 ⟨rfl, q12_23⟩
                      refine rj_end ?_
                      refine qs_bn ?_
                      refine qs_bn ?_
                      refine qs_n ?_
                      refine wp_sq ?_
                      refine sq_v rfl (v_add rfl rfl ((by unfold I64; omega))) rfl ?_
                      refine sq_v rfl (v_move rfl) rfl ?_
                      refine sq_end ?_
                      exact qs_bk (j + 1, h_q12_23) ⟨by (try dsimp only); omega, by (try dsimp only); rw [mulRow_step, mulStep, if_neg (by omega), if_pos c56]; rw [show ((i : Int) + j - 4).toNat = i + j - 4 by omega] at q12_23; exact q12_23⟩ (by simp only; omega) ⟨rfl, rfl, rfl, rfl, rfl, rfl, rfl, rfl, rfl, rfl, rfl, rfl, rfl, rfl, (by first | rfl | exact ksub rfl (by first | omega | (simp; done) | (simp; omega))), trivial⟩ (fun _ s => s)
                    · refine wp_sk ?_
                      refine qs_bn ?_
                      refine qs_bn ?_
                      refine qs_n ?_
                      refine wp_sq ?_
                      refine sq_v rfl (v_add rfl rfl ((by unfold I64; omega))) rfl ?_
                      refine sq_v rfl (v_move rfl) rfl ?_
                      refine sq_end ?_
                      exact qs_bk (j + 1, g) ⟨by (try dsimp only); omega, by (try dsimp only); rw [mulRow_step, mulStep, if_neg (by omega), if_neg c56]; exact q⟩ (by simp only; omega) ⟨rfl, rfl, rfl, rfl, rfl, rfl, rfl, rfl, rfl, rfl, rfl, rfl, rfl, rfl, (by first | rfl | exact ksub rfl (by first | omega | (simp; done) | (simp; omega))), trivial⟩ (fun _ s => s)
                · refine wp_ex ?_
                  refine qs_x ?_
                  refine qs_x ?_
                  refine qs_bx ?_
                  refine qs_bn ?_
                  refine qs_n ?_
                  refine wp_sq ?_
                  refine sq_v rfl (v_add rfl rfl ((by unfold I64; omega))) rfl ?_
                  refine sq_v rfl (v_move rfl) rfl ?_
                  refine sq_end ?_
                  exact qs_bk (i + 1, g) ⟨by (try dsimp only); omega, by (try dsimp only); rw [mulTo_step, show y.length = j by omega]; exact q⟩ (by simp only; omega) ⟨rfl, rfl, rfl, rfl, rfl, rfl, (by first | rfl | exact ksub rfl (by first | omega | (simp; done) | (simp; omega))), trivial⟩ (fun _ s => s)
              · refine wp_ex ?_
                refine qs_x ?_
                refine qs_x ?_
                refine qs_bx ?_
                refine qs_bn ?_
                refine qs_n ?_
                refine wp_sc ?_
                refine wp_sq ?_
                refine sq_v rfl (v_move rfl) rfl ?_
                refine sq_v rfl (v_assign rfl) rfl ?_
                refine sq_end ?_
                refine qs_n ?_
                refine wp_rt ?_
                exact qs_ret1 rfl rfl (fin_t 0 (i := 2) rfl rfl rfl (by rw [mulL_poly hk, show x.length = i by omega]; exact q))
theorem mulStep_same {p a b o : Int} (hp : 1 ≤ p) (ha : 0 ≤ a ∧ a ≤ p - 1) (hb : 0 ≤ b ∧ b ≤ p - 1) (ho : 0 ≤ o) : (o + (a * b).tmod p).tmod p = (o + a * b).tmod p := by
  have hm := (mul_in ha hb).1
  have ht := tmod_in hm hp
  rw [Int.tmod_eq_emod_of_nonneg (a := o + (a * b).tmod p) (by omega), Int.tmod_eq_emod_of_nonneg (a := o + a * b) (by omega), Int.tmod_eq_emod_of_nonneg hm]
  simp [Int.add_emod]
theorem mulStep_neg {p a b o : Int} (hp : 1 ≤ p) (ha : 0 ≤ a ∧ a ≤ p - 1) (hb : 0 ≤ b ∧ b ≤ p - 1) (ho : 0 ≤ o) : (o + p - (a * b).tmod p).tmod p = (o + (p - a) * b).tmod p := by
  have hm := (mul_in ha hb).1
  have ht := tmod_in hm hp
  have hm2 := (mul_in (a := p - a) (t := p) ⟨by omega, by omega⟩ hb).1
  rw [Int.tmod_eq_emod_of_nonneg (a := o + p - (a * b).tmod p) (by omega), Int.tmod_eq_emod_of_nonneg (a := o + (p - a) * b) (by omega), Int.tmod_eq_emod_of_nonneg hm]
  have e1 := Int.emod_add_mul_ediv (a * b) p
  have e2 : o + (p - a) * b = (o + p - a * b % p) + p * (b - 1 - a * b / p) := by
    rw [Int.sub_mul, Int.mul_sub, Int.mul_sub]
    omega
  rw [e2, Int.add_mul_emod_self_left]
theorem ct_i_mulCoefficients (k p n : Int) (z x y : List Int) (zv v u : Value) (w : World) (h : PH) (hr : ringL k p n) (hk : k = 7 ∨ k = 8) (hle : PLe h (hp w)) (rz : IntsO z zv h) (r : IntsR x v (restP w h)) (r' : IntsR y u (restP w h)) (hz : z.length = (widthI k n).toNat) (hx : InR k p n x) (hy : InR k p n y) :
    Calls Tryz.prog 183 [ringV k p n, zv, v, u].toArray w (Ret w h (fun _ h' => IntsO (mulL k p n x y) zv h')) := by
  have ht := top_poly hr (by omega)
  have hw := width_range hr
  have px := hx.poly hr (by omega)
  have py := hy.poly hr (by omega)
  have pz := poly_zero (k := k) (n := n) (p := p) (by omega) _ rfl
  have hxl := hx.1
  have hyl := hy.1
  refine calls_in Tryz.func183 rfl Tryz.ntmps183 rfl (Sat.start2 hle) ?_
  have hle0 := rz.toR.le
  have hle1 := r.le
  have hle2 := r'.le
  refine wp_sc ?_
  refine wp_sq ?_
  refine sq_x rfl (x_box rfl rfl) rfl ?_; rintro _ _ ⟨b4, rfl, rfl⟩
  refine sq_end ?_
  refine qs_n ?_
  refine wp_sc ?_
  refine wp_sq ?_
  refine sq_v rfl (v_move rfl) rfl ?_
  refine sq_m 1 rfl rfl (m_clearI 1 Tryz.underlying25 ty_3 rfl rfl rz) rfl ?_; intro _ h_q1_1 q1_1
  refine sq_end ?_
  refine qs_n ?_
  refine wp_sc ?_
  refine wp_sq ?_
  refine sq_v rfl (v_move rfl) rfl ?_
  refine sq_v rfl (v_len Tryz.underlying25 rfl r.sl) rfl ?_
  refine sq_v rfl (v_move rfl) rfl ?_
  refine sq_end ?_
  refine qs_n ?_
  refine wp_bl ?_
  refine wp_lp (σ := Nat × PH) (fun z_ => [(1, zv), (2, v), (3, u), (4, .pointer (some ⟨b4, 0, none⟩)), (14, num x.length), (15, num z_.1)]) (fun z_ => [box b4 [num k, num p, num n] 31, z_.2, (restP w h)]) (fun z_ => z_.1 ≤ x.length ∧ IntsO (mulTo k p x y (List.replicate (widthI k n).toNat 0) z_.1) zv z_.2) (fun z_ => x.length - z_.1) (0, h_q1_1) (⟨by (try dsimp only); omega, by (try dsimp only); rw [hz] at q1_1; simpa [mulTo] using q1_1⟩) ⟨rfl, rfl, rfl, rfl, rfl, (by first | rfl | exact ksub rfl (by first | omega | (simp; done) | (simp; omega))), trivial⟩ (fun _ s => s) ?_
  rintro ⟨i, g⟩ ⟨hi, q⟩
  dsimp only at hi q ⊢
  have hle_q := q.toR.le
  have po := mulTo_in (by omega) px py pz i
  refine wp_sc ?_
  refine wp_sq ?_
  refine sq_v rfl (v_lss rfl rfl) rfl ?_
  refine sq_end ?_
  refine qs_n ?_
  refine wp_sc ?_
  refine wp_cd rfl (fun c16 => ?_) (fun c16 => ?_)
  · refine wp_sk ?_
    refine qs_n ?_
    refine wp_sc ?_
    refine wp_bl ?_
    refine wp_sc ?_
    refine wp_sq ?_
    refine sq_v rfl (v_move rfl) rfl ?_
    refine sq_v rfl (v_assign rfl) rfl ?_
    refine sq_end ?_
    refine qs_n ?_
    refine wp_sc ?_
    refine wp_sq ?_
    refine sq_v rfl (v_move rfl) rfl ?_
    refine sq_v rfl (v_len Tryz.underlying25 rfl r'.sl) rfl ?_
    refine sq_v rfl (v_move rfl) rfl ?_
    refine sq_end ?_
    refine qs_n ?_
    refine wp_bl ?_
    refine wp_lp (σ := Nat × PH) (fun z_ => [(1, zv), (2, v), (3, u), (4, .pointer (some ⟨b4, 0, none⟩)), (8, num i), (14, num x.length), (15, num i), (16, .bool (decide ((i : Int) < x.length))), (17, num i), (18, u), (19, num y.length), (20, num z_.1)]) (fun z_ => [box b4 [num k, num p, num n] 31, z_.2, (restP w h)]) (fun z_ => z_.1 ≤ y.length ∧ IntsO (mulRow k p x y i (mulTo k p x y (List.replicate (widthI k n).toNat 0) i) z_.1) zv z_.2) (fun z_ => y.length - z_.1) (0, g) (⟨by (try dsimp only); omega, by (try dsimp only); simpa [mulRow] using q⟩) ⟨rfl, rfl, rfl, rfl, rfl, rfl, rfl, rfl, rfl, rfl, rfl, (by first | rfl | exact ksub rfl (by first | omega | (simp; done) | (simp; omega))), trivial⟩ (fun _ s => s) ?_
    rintro ⟨j, g⟩ ⟨hj, q⟩
    dsimp only at hj q ⊢
    have hle_q := q.toR.le
    have pr := mulRow_in (by omega) px py po (i := i) j
    have pl := pr.1
    have hxi := px.at (by omega) i
    have hyj := py.at (by omega) j
    have hm2 := mul_in6 hxi hyj (by omega) (by omega)
    have htm := tmod_in hm2.1 (show 1 ≤ p by omega)
    have hoij := pr.at (by omega) (i + j)
    have hoij4 := pr.at (by omega) ((i : Int) + j - 4).toNat
    have hw7 : k = 8 → widthI k n = 4 := fun e => by simp [widthI, e]
    refine wp_sc ?_
    refine wp_sq ?_
    refine sq_v rfl (v_lss rfl rfl) rfl ?_
    refine sq_end ?_
    refine qs_n ?_
    refine wp_sc ?_
    refine wp_cd rfl (fun c21 => ?_) (fun c21 => ?_)
    · refine wp_sk ?_
      refine qs_n ?_
      refine wp_sc ?_
      refine wp_bl ?_
      refine wp_sc ?_
      refine wp_sq ?_
      refine sq_v rfl (v_move rfl) rfl ?_
      refine sq_v rfl (v_assign rfl) rfl ?_
      refine sq_end ?_
      refine qs_n ?_
      refine wp_sc ?_
      refine wp_rj 13 [(0, true), (1, true), (2, true), (3, true), (4, true), (5, true), (6, true), (7, true), (8, true), (9, true), (10, true), (11, true), (12, true)] mixed_ok (by kernel_rfl) ?_
      refine rj_v rfl rfl (v_move rfl) rfl ?_
      refine rj_v rfl rfl (v_move rfl) rfl ?_
      refine rj_v rfl rfl (v_idxI Tryz.underlying25 ty_3 rfl rfl r (by first | omega | (simp only [List.length_cons, List.length_nil]; omega) | (simp only [List.length_append, List.length_cons, List.length_nil]; omega) | (rw [List.length_set]; omega) | (rw [List.length_replicate]; omega) | (simp; omega)) (by first | omega | (simp only [List.length_cons, List.length_nil]; omega) | (simp only [List.length_append, List.length_cons, List.length_nil]; omega) | (rw [List.length_set]; omega) | (rw [List.length_replicate]; omega) | (simp; omega))) rfl ?_
      refine rj_v rfl rfl (v_loadI (k := i) 2 ty_3 rfl rfl r (by first | omega | (simp only [List.length_cons, List.length_nil]; omega) | (simp only [List.length_append, List.length_cons, List.length_nil]; omega) | (rw [List.length_set]; omega) | (rw [List.length_replicate]; omega) | (simp; omega))) rfl ?_
      refine rj_v rfl rfl (v_move rfl) rfl ?_
      refine rj_v rfl rfl (v_move rfl) rfl ?_
      refine rj_v rfl rfl (v_idxI Tryz.underlying25 ty_3 rfl rfl r' (by first | omega | (simp only [List.length_cons, List.length_nil]; omega) | (simp only [List.length_append, List.length_cons, List.length_nil]; omega) | (rw [List.length_set]; omega) | (rw [List.length_replicate]; omega) | (simp; omega)) (by first | omega | (simp only [List.length_cons, List.length_nil]; omega) | (simp only [List.length_append, List.length_cons, List.length_nil]; omega) | (rw [List.length_set]; omega) | (rw [List.length_replicate]; omega) | (simp; omega))) rfl ?_
      refine rj_v rfl rfl (v_loadI (k := j) 2 ty_3 rfl rfl r' (by first | omega | (simp only [List.length_cons, List.length_nil]; omega) | (simp only [List.length_append, List.length_cons, List.length_nil]; omega) | (rw [List.length_set]; omega) | (rw [List.length_replicate]; omega) | (simp; omega))) rfl ?_
      refine rj_v rfl rfl (v_mul rfl rfl ((by unfold I64; omega))) rfl ?_
      refine rj_v rfl rfl (v_fieldAddr fd_31_1 ty_3 (by decide) rfl) rfl ?_
      refine rj_v rfl rfl (v_loadB 0 ty_3 rfl rfl rfl) rfl ?_
      refine rj_v rfl rfl (v_rem rfl rfl (by omega)) rfl ?_
      refine rj_v rfl rfl (v_assign rfl) rfl ?_
      refine rj_end ?_
      refine qs_n ?_
      refine wp_sc ?_
      refine wp_sq ?_
      refine sq_v rfl (v_move rfl) rfl ?_
      refine sq_v rfl (v_move rfl) rfl ?_
      refine sq_v rfl (v_add rfl rfl ((by unfold I64; omega))) rfl ?_
      refine sq_v rfl (v_assign rfl) rfl ?_
      refine sq_end ?_
      refine qs_n ?_
      refine wp_sc ?_
      refine wp_sq ?_
      refine sq_v rfl (v_move rfl) rfl ?_
      refine sq_v rfl (v_move rfl) rfl ?_
      refine sq_v rfl (v_len Tryz.underlying25 rfl q.toR.sl) rfl ?_
      refine sq_v rfl (v_lss rfl rfl) rfl ?_
      refine sq_end ?_
      refine qs_n ?_
      refine wp_cd rfl (fun c41 => ?_) (fun c41 => ?_)
      · refine wp_rj 12 [(0, true), (1, true), (2, true), (3, true), (4, true), (5, true), (6, true), (7, true), (8, true), (9, true), (10, true), (11, true), (12, false)] mixed_ok (by kernel_rfl) ?_
        refine rj_v rfl rfl (v_move rfl) rfl ?_
        refine rj_v rfl rfl (v_move rfl) rfl ?_
        refine rj_v rfl rfl (v_move rfl) rfl ?_
        refine rj_v rfl rfl (v_move rfl) rfl ?_
        refine rj_v rfl rfl (v_idxI Tryz.underlying25 ty_3 rfl rfl q.toR (by first | omega | (simp only [List.length_cons, List.length_nil]; omega) | (simp only [List.length_append, List.length_cons, List.length_nil]; omega) | (rw [List.length_set]; omega) | (rw [List.length_replicate]; omega) | (simp; omega)) (by first | omega | (simp only [List.length_cons, List.length_nil]; omega) | (simp only [List.length_append, List.length_cons, List.length_nil]; omega) | (rw [List.length_set]; omega) | (rw [List.length_replicate]; omega) | (simp; omega))) rfl ?_
        refine rj_v rfl rfl (v_loadI (k := (i + j)) 1 ty_3 rfl rfl q.toR (by first | omega | (simp only [List.length_cons, List.length_nil]; omega) | (simp only [List.length_append, List.length_cons, List.length_nil]; omega) | (rw [List.length_set]; omega) | (rw [List.length_replicate]; omega) | (simp; omega))) rfl ?_
        refine rj_v rfl rfl (v_move rfl) rfl ?_
        refine rj_v rfl rfl (v_add rfl rfl ((by unfold I64; omega))) rfl ?_
        refine rj_v rfl rfl (v_fieldAddr fd_31_1 ty_3 (by decide) rfl) rfl ?_
        refine rj_v rfl rfl (v_loadB 0 ty_3 rfl rfl rfl) rfl ?_
        refine rj_v rfl rfl (v_rem rfl rfl (by omega)) rfl ?_
        refine rj_v rfl rfl (v_idxI Tryz.underlying25 ty_3 rfl rfl q.toR (by first | omega | (simp only [List.length_cons, List.length_nil]; omega) | (simp only [List.length_append, List.length_cons, List.length_nil]; omega) | (rw [List.length_set]; omega) | (rw [List.length_replicate]; omega) | (simp; omega)) (by first | omega | (simp only [List.length_cons, List.length_nil]; omega) | (simp only [List.length_append, List.length_cons, List.length_nil]; omega) | (rw [List.length_set]; omega) | (rw [List.length_replicate]; omega) | (simp; omega))) rfl ?_
        refine rj_m 1 rfl rfl rfl rfl (m_storeI (k := (i + j)) 1 ty_3 rfl rfl rfl q (by first | omega | (simp only [List.length_cons, List.length_nil]; omega) | (simp only [List.length_append, List.length_cons, List.length_nil]; omega) | (rw [List.length_set]; omega) | (rw [List.length_replicate]; omega) | (simp; omega))) rfl ?_; rintro _ h_q11_12 ⟨rfl, q11_12⟩
        refine rj_end ?_
        refine qs_bn ?_
        refine qs_n ?_
        refine wp_sq ?_
        refine sq_v rfl (v_add rfl rfl ((by unfold I64; omega))) rfl ?_
        refine sq_v rfl (v_move rfl) rfl ?_
        refine sq_end ?_
        exact qs_bk (j + 1, h_q11_12) ⟨by (try dsimp only); omega, by (try dsimp only); rw [mulRow_step, mulStep, if_pos (by omega), ← mulStep_same (by omega) hxi hyj hoij.1]; exact q11_12⟩ (by simp only; omega) ⟨rfl, rfl, rfl, rfl, rfl, rfl, rfl, rfl, rfl, rfl, rfl, (by first | rfl | exact ksub rfl (by first | omega | (simp; done) | (simp; omega))), trivial⟩ (fun _ s => s)
      · refine wp_sc ?_
        refine wp_sq ?_
        refine sq_v rfl (v_fieldAddr fd_31_0 ty_3 (by decide) rfl) rfl ?_
        refine sq_v rfl (v_loadB 0 ty_3 rfl rfl rfl) rfl ?_
        refine sq_v rfl (v_eql rfl rfl) rfl ?_
        refine sq_end ?_
        refine qs_n ?_
        refine wp_cd rfl (fun c56 => ?_) (fun c56 => ?_)
        · refine wp_rj 17 [(0, true), (1, true), (2, true), (3, true), (4, true), (5, true), (6, true), (7, true), (8, true), (9, true), (10, true), (11, true), (12, true), (13, true), (14, true), (15, true), (16, true), (17, false)] mixed_ok (by kernel_rfl) ?_
          refine rj_v rfl rfl (v_move rfl) rfl ?_
          refine rj_v rfl rfl (v_move rfl) rfl ?_
          refine rj_v rfl rfl (v_sub rfl rfl ((by unfold I64; omega))) rfl ?_
          refine rj_v rfl rfl (v_move rfl) rfl ?_
          refine rj_v rfl rfl (v_move rfl) rfl ?_
          refine rj_v rfl rfl (v_sub rfl rfl ((by unfold I64; omega))) rfl ?_
          refine rj_v rfl rfl (v_idxI Tryz.underlying25 ty_3 rfl rfl q.toR (by first | omega | (simp only [List.length_cons, List.length_nil]; omega) | (simp only [List.length_append, List.length_cons, List.length_nil]; omega) | (rw [List.length_set]; omega) | (rw [List.length_replicate]; omega) | (simp; omega)) (by first | omega | (simp only [List.length_cons, List.length_nil]; omega) | (simp only [List.length_append, List.length_cons, List.length_nil]; omega) | (rw [List.length_set]; omega) | (rw [List.length_replicate]; omega) | (simp; omega))) rfl ?_
          refine rj_v rfl rfl (v_loadI  1 ty_3 rfl rfl q.toR (by first | omega | (simp only [List.length_cons, List.length_nil]; omega) | (simp only [List.length_append, List.length_cons, List.length_nil]; omega) | (rw [List.length_set]; omega) | (rw [List.length_replicate]; omega) | (simp; omega))) rfl ?_
          refine rj_v rfl rfl (v_fieldAddr fd_31_1 ty_3 (by decide) rfl) rfl ?_
          refine rj_v rfl rfl (v_loadB 0 ty_3 rfl rfl rfl) rfl ?_
          refine rj_v rfl rfl (v_add rfl rfl ((by unfold I64; omega))) rfl ?_
          refine rj_v rfl rfl (v_move rfl) rfl ?_
          refine rj_v rfl rfl (v_sub rfl rfl ((by unfold I64; omega))) rfl ?_
          refine rj_v rfl rfl (v_fieldAddr fd_31_1 ty_3 (by decide) rfl) rfl ?_
          refine rj_v rfl rfl (v_loadB 0 ty_3 rfl rfl rfl) rfl ?_
          refine rj_v rfl rfl (v_rem rfl rfl (by omega)) rfl ?_
          refine rj_v rfl rfl (v_idxI Tryz.underlying25 ty_3 rfl rfl q.toR (by first | omega | (simp only [List.length_cons, List.length_nil]; omega) | (simp only [List.length_append, List.length_cons, List.length_nil]; omega) | (rw [List.length_set]; omega) | (rw [List.length_replicate]; omega) | (simp; omega)) (by first | omega | (simp only [List.length_cons, List.length_nil]; omega) | (simp only [List.length_append, List.length_cons, List.length_nil]; omega) | (rw [List.length_set]; omega) | (rw [List.length_replicate]; omega) | (simp; omega))) rfl ?_
          refine rj_m 1 rfl rfl rfl rfl (m_storeI 1 ty_3 rfl rfl rfl q (by first | omega | (simp only [List.length_cons, List.length_nil]; omega) | (simp only [List.length_append, List.length_cons, List.length_nil]; omega) | (rw [List.length_set]; omega) | (rw [List.length_replicate]; omega) | (simp; omega))) rfl ?_; rintro _ h_q13_17 ⟨rfl, q13_17⟩
          refine rj_end ?_
          refine qs_bn ?_
          refine qs_n ?_
          refine wp_sq ?_
          refine sq_v rfl (v_add rfl rfl ((by unfold I64; omega))) rfl ?_
          refine sq_v rfl (v_move rfl) rfl ?_
          refine sq_end ?_
          exact qs_bk (j + 1, h_q13_17) ⟨by (try dsimp only); omega, by (try dsimp only); rw [mulRow_step, mulStep, if_neg (by omega), if_pos c56]; rw [show ((i : Int) + j - 4).toNat = i + j - 4 by omega] at q13_17 hoij4; rw [← mulStep_neg (by omega) hxi hyj hoij4.1]; exact q13_17⟩ (by simp only; omega) ⟨rfl, rfl, rfl, rfl, rfl, rfl, rfl, rfl, rfl, rfl, rfl, (by first | rfl | exact ksub rfl (by first | omega | (simp; done) | (simp; omega))), trivial⟩ (fun _ s => s)
        · refine wp_sk ?_
          refine qs_bn ?_
          refine qs_n ?_
          refine wp_sq ?_
          refine sq_v rfl (v_add rfl rfl ((by unfold I64; omega))) rfl ?_
          refine sq_v rfl (v_move rfl) rfl ?_
          refine sq_end ?_
          exact qs_bk (j + 1, g) ⟨by (try dsimp only); omega, by (try dsimp only); rw [mulRow_step, mulStep, if_neg (by omega), if_neg c56]; exact q⟩ (by simp only; omega) ⟨rfl, rfl, rfl, rfl, rfl, rfl, rfl, rfl, rfl, rfl, rfl, (by first | rfl | exact ksub rfl (by first | omega | (simp; done) | (simp; omega))), trivial⟩ (fun _ s => s)
    · refine wp_ex ?_
      refine qs_x ?_
      refine qs_x ?_
      refine qs_bx ?_
      refine qs_bn ?_
      refine qs_n ?_
      refine wp_sq ?_
      refine sq_v rfl (v_add rfl rfl ((by unfold I64; omega))) rfl ?_
      refine sq_v rfl (v_move rfl) rfl ?_
      refine sq_end ?_
      exact qs_bk (i + 1, g) ⟨by (try dsimp only); omega, by (try dsimp only); rw [mulTo_step, show y.length = j by omega]; exact q⟩ (by simp only; omega) ⟨rfl, rfl, rfl, rfl, rfl, (by first | rfl | exact ksub rfl (by first | omega | (simp; done) | (simp; omega))), trivial⟩ (fun _ s => s)
  · refine wp_ex ?_
    refine qs_x ?_
    refine qs_x ?_
    refine qs_bx ?_
    exact qs_ret0 rfl (fin_m 1 (i := 2) rfl rfl rfl (by rw [mulL_poly hk, show x.length = i by omega]; exact q))
theorem fin1' {k p n a : Int} {x y z : List Int} {v : Value} {h : PH} (q : IntsO (z.set 0 a) v h) (hm : z.length = 1) (e : mulL k p n x y = [a]) : IntsO (mulL k p n x y) v h := by
  rw [e]
  match z, hm with
  | [b], _ => exact q
set_option maxHeartbeats 1000000 in
theorem ct_i_mulInto (k p n : Int) (z x y : List Int) (zv v u : Value) (w : World) (h : PH) (hr : ringL k p n) (hle : PLe h (hp w)) (rz : IntsO z zv h) (r : IntsR x v (restP w h)) (r' : IntsR y u (restP w h)) (hz : z.length = (widthI k n).toNat) (hx : InR k p n x) (hy : InR k p n y) :
    Calls Tryz.prog 164 [ringV k p n, zv, v, u].toArray w (Ret w h (fun _ h' => IntsO (mulL k p n x y) zv h')) := by
  have h1 := hx.len hr
  have h2 := hy.len hr
  have hx0 := hx.at hr 0 (by omega)
  have hy0 := hy.at hr 0 (by omega)
  have hw := width_range hr
  have htr := top_range hr
  have hrp := ring_p hr
  have hm := mul_in6 hx0 hy0 htr.2 htr.2
  refine calls_in Tryz.func164 rfl Tryz.ntmps164 rfl (Sat.start2 hle) ?_
  have hle0 := rz.toR.le
  have hle1 := r.le
  have hle2 := r'.le
  refine wp_sc ?_
  refine wp_sq ?_
  refine sq_x rfl (x_box rfl rfl) rfl ?_; rintro _ _ ⟨b4, rfl, rfl⟩
  refine sq_end ?_
  refine qs_n ?_
  refine wp_sc ?_
  refine wp_sq ?_
  refine sq_v rfl (v_fieldAddr fd_31_0 ty_3 (by decide) rfl) rfl ?_
  refine sq_v rfl (v_loadB 0 ty_3 rfl rfl rfl) rfl ?_
  refine sq_end ?_
  refine qs_n ?_
  refine wp_bl ?_
  refine wp_sc ?_
  refine wp_sc ?_
  refine wp_sq ?_
  refine sq_v rfl (v_eql rfl rfl) rfl ?_
  refine sq_v rfl (v_assign rfl) rfl ?_
  refine sq_end ?_
  refine qs_n ?_
  refine wp_cSd rfl (fun c15 => ?_) (fun c15 => ?_)
  · refine wp_sk ?_
    refine qs_n ?_
    refine wp_ct rfl ?_
    refine wp_rj 9 [(0, true), (1, true), (2, true), (3, true), (4, true), (5, true), (6, true), (7, true), (8, true), (9, false)] mixed_ok (by kernel_rfl) ?_
    refine rj_v rfl rfl (v_move rfl) rfl ?_
    refine rj_v rfl rfl (v_move rfl) rfl ?_
    refine rj_v rfl rfl (v_idxI Tryz.underlying25 ty_3 rfl rfl r (by first | omega | (simp only [List.length_cons, List.length_nil]; omega) | (simp only [List.length_append, List.length_cons, List.length_nil]; omega) | (rw [List.length_set]; omega) | (rw [List.length_replicate]; omega) | (simp; omega)) (by first | omega | (simp only [List.length_cons, List.length_nil]; omega) | (simp only [List.length_append, List.length_cons, List.length_nil]; omega) | (rw [List.length_set]; omega) | (rw [List.length_replicate]; omega) | (simp; omega))) rfl ?_
    refine rj_v rfl rfl (v_loadI (k := 0) 2 ty_3 rfl rfl r (by first | omega | (simp only [List.length_cons, List.length_nil]; omega) | (simp only [List.length_append, List.length_cons, List.length_nil]; omega) | (rw [List.length_set]; omega) | (rw [List.length_replicate]; omega) | (simp; omega))) rfl ?_
    refine rj_v rfl rfl (v_move rfl) rfl ?_
    refine rj_v rfl rfl (v_idxI Tryz.underlying25 ty_3 rfl rfl r' (by first | omega | (simp only [List.length_cons, List.length_nil]; omega) | (simp only [List.length_append, List.length_cons, List.length_nil]; omega) | (rw [List.length_set]; omega) | (rw [List.length_replicate]; omega) | (simp; omega)) (by first | omega | (simp only [List.length_cons, List.length_nil]; omega) | (simp only [List.length_append, List.length_cons, List.length_nil]; omega) | (rw [List.length_set]; omega) | (rw [List.length_replicate]; omega) | (simp; omega))) rfl ?_
    refine rj_v rfl rfl (v_loadI (k := 0) 2 ty_3 rfl rfl r' (by first | omega | (simp only [List.length_cons, List.length_nil]; omega) | (simp only [List.length_append, List.length_cons, List.length_nil]; omega) | (rw [List.length_set]; omega) | (rw [List.length_replicate]; omega) | (simp; omega))) rfl ?_
    refine rj_v rfl rfl (v_min rfl rfl) rfl ?_
    refine rj_v rfl rfl (v_idxI Tryz.underlying25 ty_3 rfl rfl rz.toR (by first | omega | (simp only [List.length_cons, List.length_nil]; omega) | (simp only [List.length_append, List.length_cons, List.length_nil]; omega) | (rw [List.length_set]; omega) | (rw [List.length_replicate]; omega) | (simp; omega)) (by first | omega | (simp only [List.length_cons, List.length_nil]; omega) | (simp only [List.length_append, List.length_cons, List.length_nil]; omega) | (rw [List.length_set]; omega) | (rw [List.length_replicate]; omega) | (simp; omega))) rfl ?_
    refine rj_m 1 rfl rfl rfl rfl (m_storeI (k := 0) 1 ty_3 rfl rfl rfl rz (by first | omega | (simp only [List.length_cons, List.length_nil]; omega) | (simp only [List.length_append, List.length_cons, List.length_nil]; omega) | (rw [List.length_set]; omega) | (rw [List.length_replicate]; omega) | (simp; omega))) rfl ?_; rintro _ h_q5_9 ⟨rfl, q5_9⟩
    refine rj_end ?_
    refine qs_bn ?_
    exact qs_ret0 rfl (fin_m 1 (i := 2) rfl rfl rfl (fin1' q5_9 (by have := width_1 (k := k) (n := n) (by omega) (by omega); omega) (by simp [mulL, c15])))
  · refine wp_sq ?_
    refine sq_v rfl (v_eql rfl rfl) rfl ?_
    refine sq_v rfl (v_assign rfl) rfl ?_
    refine sq_end ?_
    refine qs_n ?_
    refine wp_cSd rfl (fun c15 => ?_) (fun c15 => ?_)
    · refine wp_rj 9 [(0, true), (1, true), (2, true), (3, true), (4, true), (5, true), (6, true), (7, true), (8, true), (9, false)] mixed_ok (by kernel_rfl) ?_
      refine rj_v rfl rfl (v_move rfl) rfl ?_
      refine rj_v rfl rfl (v_move rfl) rfl ?_
      refine rj_v rfl rfl (v_idxI Tryz.underlying25 ty_3 rfl rfl r (by first | omega | (simp only [List.length_cons, List.length_nil]; omega) | (simp only [List.length_append, List.length_cons, List.length_nil]; omega) | (rw [List.length_set]; omega) | (rw [List.length_replicate]; omega) | (simp; omega)) (by first | omega | (simp only [List.length_cons, List.length_nil]; omega) | (simp only [List.length_append, List.length_cons, List.length_nil]; omega) | (rw [List.length_set]; omega) | (rw [List.length_replicate]; omega) | (simp; omega))) rfl ?_
      refine rj_v rfl rfl (v_loadI (k := 0) 2 ty_3 rfl rfl r (by first | omega | (simp only [List.length_cons, List.length_nil]; omega) | (simp only [List.length_append, List.length_cons, List.length_nil]; omega) | (rw [List.length_set]; omega) | (rw [List.length_replicate]; omega) | (simp; omega))) rfl ?_
      refine rj_v rfl rfl (v_move rfl) rfl ?_
      refine rj_v rfl rfl (v_idxI Tryz.underlying25 ty_3 rfl rfl r' (by first | omega | (simp only [List.length_cons, List.length_nil]; omega) | (simp only [List.length_append, List.length_cons, List.length_nil]; omega) | (rw [List.length_set]; omega) | (rw [List.length_replicate]; omega) | (simp; omega)) (by first | omega | (simp only [List.length_cons, List.length_nil]; omega) | (simp only [List.length_append, List.length_cons, List.length_nil]; omega) | (rw [List.length_set]; omega) | (rw [List.length_replicate]; omega) | (simp; omega))) rfl ?_
      refine rj_v rfl rfl (v_loadI (k := 0) 2 ty_3 rfl rfl r' (by first | omega | (simp only [List.length_cons, List.length_nil]; omega) | (simp only [List.length_append, List.length_cons, List.length_nil]; omega) | (rw [List.length_set]; omega) | (rw [List.length_replicate]; omega) | (simp; omega))) rfl ?_
      refine rj_v rfl rfl (v_min rfl rfl) rfl ?_
      refine rj_v rfl rfl (v_idxI Tryz.underlying25 ty_3 rfl rfl rz.toR (by first | omega | (simp only [List.length_cons, List.length_nil]; omega) | (simp only [List.length_append, List.length_cons, List.length_nil]; omega) | (rw [List.length_set]; omega) | (rw [List.length_replicate]; omega) | (simp; omega)) (by first | omega | (simp only [List.length_cons, List.length_nil]; omega) | (simp only [List.length_append, List.length_cons, List.length_nil]; omega) | (rw [List.length_set]; omega) | (rw [List.length_replicate]; omega) | (simp; omega))) rfl ?_
      refine rj_m 1 rfl rfl rfl rfl (m_storeI (k := 0) 1 ty_3 rfl rfl rfl rz (by first | omega | (simp only [List.length_cons, List.length_nil]; omega) | (simp only [List.length_append, List.length_cons, List.length_nil]; omega) | (rw [List.length_set]; omega) | (rw [List.length_replicate]; omega) | (simp; omega))) rfl ?_; rintro _ h_q5_9 ⟨rfl, q5_9⟩
      refine rj_end ?_
      refine qs_bn ?_
      exact qs_ret0 rfl (fin_m 1 (i := 2) rfl rfl rfl (fin1' q5_9 (by have := width_1 (k := k) (n := n) (by omega) (by omega); omega) (by simp [mulL, c15])))
    · refine wp_sc ?_
      refine wp_sq ?_
      refine sq_v rfl (v_eql rfl rfl) rfl ?_
      refine sq_v rfl (v_assign rfl) rfl ?_
      refine sq_end ?_
      refine qs_n ?_
      refine wp_cd rfl (fun c27 => ?_) (fun c27 => ?_)
      · refine wp_rj 12 [(0, true), (1, true), (2, true), (3, true), (4, true), (5, true), (6, true), (7, true), (8, true), (9, true), (10, true), (11, true), (12, false)] mixed_ok (by kernel_rfl) ?_
        refine rj_v rfl rfl (v_move rfl) rfl ?_
        refine rj_v rfl rfl (v_move rfl) rfl ?_
        refine rj_v rfl rfl (v_idxI Tryz.underlying25 ty_3 rfl rfl r (by first | omega | (simp only [List.length_cons, List.length_nil]; omega) | (simp only [List.length_append, List.length_cons, List.length_nil]; omega) | (rw [List.length_set]; omega) | (rw [List.length_replicate]; omega) | (simp; omega)) (by first | omega | (simp only [List.length_cons, List.length_nil]; omega) | (simp only [List.length_append, List.length_cons, List.length_nil]; omega) | (rw [List.length_set]; omega) | (rw [List.length_replicate]; omega) | (simp; omega))) rfl ?_
        refine rj_v rfl rfl (v_loadI (k := 0) 2 ty_3 rfl rfl r (by first | omega | (simp only [List.length_cons, List.length_nil]; omega) | (simp only [List.length_append, List.length_cons, List.length_nil]; omega) | (rw [List.length_set]; omega) | (rw [List.length_replicate]; omega) | (simp; omega))) rfl ?_
        refine rj_v rfl rfl (v_move rfl) rfl ?_
        refine rj_v rfl rfl (v_idxI Tryz.underlying25 ty_3 rfl rfl r' (by first | omega | (simp only [List.length_cons, List.length_nil]; omega) | (simp only [List.length_append, List.length_cons, List.length_nil]; omega) | (rw [List.length_set]; omega) | (rw [List.length_replicate]; omega) | (simp; omega)) (by first | omega | (simp only [List.length_cons, List.length_nil]; omega) | (simp only [List.length_append, List.length_cons, List.length_nil]; omega) | (rw [List.length_set]; omega) | (rw [List.length_replicate]; omega) | (simp; omega))) rfl ?_
        refine rj_v rfl rfl (v_loadI (k := 0) 2 ty_3 rfl rfl r' (by first | omega | (simp only [List.length_cons, List.length_nil]; omega) | (simp only [List.length_append, List.length_cons, List.length_nil]; omega) | (rw [List.length_set]; omega) | (rw [List.length_replicate]; omega) | (simp; omega))) rfl ?_
        refine rj_v rfl rfl (v_mul rfl rfl ((by unfold I64; omega))) rfl ?_
        refine rj_v rfl rfl (v_fieldAddr fd_31_1 ty_3 (by decide) rfl) rfl ?_
        refine rj_v rfl rfl (v_loadB 0 ty_3 rfl rfl rfl) rfl ?_
        refine rj_v rfl rfl (v_rem rfl rfl (by have := top_poly hr (.inl c27); omega)) rfl ?_
        refine rj_v rfl rfl (v_idxI Tryz.underlying25 ty_3 rfl rfl rz.toR (by first | omega | (simp only [List.length_cons, List.length_nil]; omega) | (simp only [List.length_append, List.length_cons, List.length_nil]; omega) | (rw [List.length_set]; omega) | (rw [List.length_replicate]; omega) | (simp; omega)) (by first | omega | (simp only [List.length_cons, List.length_nil]; omega) | (simp only [List.length_append, List.length_cons, List.length_nil]; omega) | (rw [List.length_set]; omega) | (rw [List.length_replicate]; omega) | (simp; omega))) rfl ?_
        refine rj_m 1 rfl rfl rfl rfl (m_storeI (k := 0) 1 ty_3 rfl rfl rfl rz (by first | omega | (simp only [List.length_cons, List.length_nil]; omega) | (simp only [List.length_append, List.length_cons, List.length_nil]; omega) | (rw [List.length_set]; omega) | (rw [List.length_replicate]; omega) | (simp; omega))) rfl ?_; rintro _ h_q7_12 ⟨rfl, q7_12⟩
        refine rj_end ?_
        refine qs_bn ?_
        exact qs_ret0 rfl (fin_m 1 (i := 2) rfl rfl rfl (fin1' q7_12 (by have := width_1 (k := k) (n := n) (by omega) (by omega); omega) (by simp [mulL, c27])))
      · refine wp_sc ?_
        refine wp_sq ?_
        refine sq_v rfl (v_eql rfl rfl) rfl ?_
        refine sq_v rfl (v_assign rfl) rfl ?_
        refine sq_end ?_
        refine qs_n ?_
        refine wp_cd rfl (fun c41 => ?_) (fun c41 => ?_)
        · refine wp_rj 12 [(0, true), (1, true), (2, true), (3, true), (4, true), (5, true), (6, true), (7, true), (8, true), (9, true), (10, true), (11, true), (12, false)] mixed_ok (by kernel_rfl) ?_
          refine rj_v rfl rfl (v_move rfl) rfl ?_
          refine rj_v rfl rfl (v_move rfl) rfl ?_
          refine rj_v rfl rfl (v_idxI Tryz.underlying25 ty_3 rfl rfl r (by first | omega | (simp only [List.length_cons, List.length_nil]; omega) | (simp only [List.length_append, List.length_cons, List.length_nil]; omega) | (rw [List.length_set]; omega) | (rw [List.length_replicate]; omega) | (simp; omega)) (by first | omega | (simp only [List.length_cons, List.length_nil]; omega) | (simp only [List.length_append, List.length_cons, List.length_nil]; omega) | (rw [List.length_set]; omega) | (rw [List.length_replicate]; omega) | (simp; omega))) rfl ?_
          refine rj_v rfl rfl (v_loadI (k := 0) 2 ty_3 rfl rfl r (by first | omega | (simp only [List.length_cons, List.length_nil]; omega) | (simp only [List.length_append, List.length_cons, List.length_nil]; omega) | (rw [List.length_set]; omega) | (rw [List.length_replicate]; omega) | (simp; omega))) rfl ?_
          refine rj_v rfl rfl (v_move rfl) rfl ?_
          refine rj_v rfl rfl (v_idxI Tryz.underlying25 ty_3 rfl rfl r' (by first | omega | (simp only [List.length_cons, List.length_nil]; omega) | (simp only [List.length_append, List.length_cons, List.length_nil]; omega) | (rw [List.length_set]; omega) | (rw [List.length_replicate]; omega) | (simp; omega)) (by first | omega | (simp only [List.length_cons, List.length_nil]; omega) | (simp only [List.length_append, List.length_cons, List.length_nil]; omega) | (rw [List.length_set]; omega) | (rw [List.length_replicate]; omega) | (simp; omega))) rfl ?_
          refine rj_v rfl rfl (v_loadI (k := 0) 2 ty_3 rfl rfl r' (by first | omega | (simp only [List.length_cons, List.length_nil]; omega) | (simp only [List.length_append, List.length_cons, List.length_nil]; omega) | (rw [List.length_set]; omega) | (rw [List.length_replicate]; omega) | (simp; omega))) rfl ?_
          refine rj_v rfl rfl (v_mul rfl rfl ((by unfold I64; omega))) rfl ?_
          refine rj_v rfl rfl (v_fieldAddr fd_31_1 ty_3 (by decide) rfl) rfl ?_
          refine rj_v rfl rfl (v_loadB 0 ty_3 rfl rfl rfl) rfl ?_
          refine rj_v rfl rfl (v_min rfl rfl) rfl ?_
          refine rj_v rfl rfl (v_idxI Tryz.underlying25 ty_3 rfl rfl rz.toR (by first | omega | (simp only [List.length_cons, List.length_nil]; omega) | (simp only [List.length_append, List.length_cons, List.length_nil]; omega) | (rw [List.length_set]; omega) | (rw [List.length_replicate]; omega) | (simp; omega)) (by first | omega | (simp only [List.length_cons, List.length_nil]; omega) | (simp only [List.length_append, List.length_cons, List.length_nil]; omega) | (rw [List.length_set]; omega) | (rw [List.length_replicate]; omega) | (simp; omega))) rfl ?_
          refine rj_m 1 rfl rfl rfl rfl (m_storeI (k := 0) 1 ty_3 rfl rfl rfl rz (by first | omega | (simp only [List.length_cons, List.length_nil]; omega) | (simp only [List.length_append, List.length_cons, List.length_nil]; omega) | (rw [List.length_set]; omega) | (rw [List.length_replicate]; omega) | (simp; omega))) rfl ?_; rintro _ h_q9_12 ⟨rfl, q9_12⟩
          refine rj_end ?_
          refine qs_bn ?_
          exact qs_ret0 rfl (fin_m 1 (i := 2) rfl rfl rfl (fin1' q9_12 (by have := width_1 (k := k) (n := n) (by omega) (by omega); omega) (by simp [mulL, c41])))
        · refine wp_sc ?_
          refine wp_sq ?_
          refine sq_v rfl (v_eql rfl rfl) rfl ?_
          refine sq_v rfl (v_assign rfl) rfl ?_
          refine sq_end ?_
          refine qs_n ?_
          refine wp_cd rfl (fun c55 => ?_) (fun c55 => ?_)
          · refine wp_rj 12 [(0, true), (1, true), (2, true), (3, true), (4, true), (5, true), (6, true), (7, true), (8, true), (9, true), (10, true), (11, true), (12, false)] mixed_ok (by kernel_rfl) ?_
            refine rj_v rfl rfl (v_move rfl) rfl ?_
            refine rj_v rfl rfl (v_move rfl) rfl ?_
            refine rj_v rfl rfl (v_idxI Tryz.underlying25 ty_3 rfl rfl r (by first | omega | (simp only [List.length_cons, List.length_nil]; omega) | (simp only [List.length_append, List.length_cons, List.length_nil]; omega) | (rw [List.length_set]; omega) | (rw [List.length_replicate]; omega) | (simp; omega)) (by first | omega | (simp only [List.length_cons, List.length_nil]; omega) | (simp only [List.length_append, List.length_cons, List.length_nil]; omega) | (rw [List.length_set]; omega) | (rw [List.length_replicate]; omega) | (simp; omega))) rfl ?_
            refine rj_v rfl rfl (v_loadI (k := 0) 2 ty_3 rfl rfl r (by first | omega | (simp only [List.length_cons, List.length_nil]; omega) | (simp only [List.length_append, List.length_cons, List.length_nil]; omega) | (rw [List.length_set]; omega) | (rw [List.length_replicate]; omega) | (simp; omega))) rfl ?_
            refine rj_v rfl rfl (v_move rfl) rfl ?_
            refine rj_v rfl rfl (v_idxI Tryz.underlying25 ty_3 rfl rfl r' (by first | omega | (simp only [List.length_cons, List.length_nil]; omega) | (simp only [List.length_append, List.length_cons, List.length_nil]; omega) | (rw [List.length_set]; omega) | (rw [List.length_replicate]; omega) | (simp; omega)) (by first | omega | (simp only [List.length_cons, List.length_nil]; omega) | (simp only [List.length_append, List.length_cons, List.length_nil]; omega) | (rw [List.length_set]; omega) | (rw [List.length_replicate]; omega) | (simp; omega))) rfl ?_
            refine rj_v rfl rfl (v_loadI (k := 0) 2 ty_3 rfl rfl r' (by first | omega | (simp only [List.length_cons, List.length_nil]; omega) | (simp only [List.length_append, List.length_cons, List.length_nil]; omega) | (rw [List.length_set]; omega) | (rw [List.length_replicate]; omega) | (simp; omega))) rfl ?_
            refine rj_v rfl rfl (v_add rfl rfl ((by unfold I64; omega))) rfl ?_
            refine rj_v rfl rfl (v_fieldAddr fd_31_1 ty_3 (by decide) rfl) rfl ?_
            refine rj_v rfl rfl (v_loadB 0 ty_3 rfl rfl rfl) rfl ?_
            refine rj_v rfl rfl (v_min rfl rfl) rfl ?_
            refine rj_v rfl rfl (v_idxI Tryz.underlying25 ty_3 rfl rfl rz.toR (by first | omega | (simp only [List.length_cons, List.length_nil]; omega) | (simp only [List.length_append, List.length_cons, List.length_nil]; omega) | (rw [List.length_set]; omega) | (rw [List.length_replicate]; omega) | (simp; omega)) (by first | omega | (simp only [List.length_cons, List.length_nil]; omega) | (simp only [List.length_append, List.length_cons, List.length_nil]; omega) | (rw [List.length_set]; omega) | (rw [List.length_replicate]; omega) | (simp; omega))) rfl ?_
            refine rj_m 1 rfl rfl rfl rfl (m_storeI (k := 0) 1 ty_3 rfl rfl rfl rz (by first | omega | (simp only [List.length_cons, List.length_nil]; omega) | (simp only [List.length_append, List.length_cons, List.length_nil]; omega) | (rw [List.length_set]; omega) | (rw [List.length_replicate]; omega) | (simp; omega))) rfl ?_; rintro _ h_q11_12 ⟨rfl, q11_12⟩
            refine rj_end ?_
            refine qs_bn ?_
            exact qs_ret0 rfl (fin_m 1 (i := 2) rfl rfl rfl (fin1' q11_12 (by have := width_1 (k := k) (n := n) (by omega) (by omega); omega) (by simp [mulL, c55])))
          · refine wp_sc ?_
            refine wp_sq ?_
            refine sq_v rfl (v_eql rfl rfl) rfl ?_
            refine sq_v rfl (v_assign rfl) rfl ?_
            refine sq_end ?_
            refine qs_n ?_
            refine wp_cd rfl (fun c69 => ?_) (fun c69 => ?_)
            · refine wp_rj 9 [(0, true), (1, true), (2, true), (3, true), (4, true), (5, true), (6, true), (7, true), (8, true), (9, false)] mixed_ok (by kernel_rfl) ?_
              refine rj_v rfl rfl (v_move rfl) rfl ?_
              refine rj_v rfl rfl (v_move rfl) rfl ?_
              refine rj_v rfl rfl (v_idxI Tryz.underlying25 ty_3 rfl rfl r (by first | omega | (simp only [List.length_cons, List.length_nil]; omega) | (simp only [List.length_append, List.length_cons, List.length_nil]; omega) | (rw [List.length_set]; omega) | (rw [List.length_replicate]; omega) | (simp; omega)) (by first | omega | (simp only [List.length_cons, List.length_nil]; omega) | (simp only [List.length_append, List.length_cons, List.length_nil]; omega) | (rw [List.length_set]; omega) | (rw [List.length_replicate]; omega) | (simp; omega))) rfl ?_
              refine rj_v rfl rfl (v_loadI (k := 0) 2 ty_3 rfl rfl r (by first | omega | (simp only [List.length_cons, List.length_nil]; omega) | (simp only [List.length_append, List.length_cons, List.length_nil]; omega) | (rw [List.length_set]; omega) | (rw [List.length_replicate]; omega) | (simp; omega))) rfl ?_
              refine rj_v rfl rfl (v_move rfl) rfl ?_
              refine rj_v rfl rfl (v_idxI Tryz.underlying25 ty_3 rfl rfl r' (by first | omega | (simp only [List.length_cons, List.length_nil]; omega) | (simp only [List.length_append, List.length_cons, List.length_nil]; omega) | (rw [List.length_set]; omega) | (rw [List.length_replicate]; omega) | (simp; omega)) (by first | omega | (simp only [List.length_cons, List.length_nil]; omega) | (simp only [List.length_append, List.length_cons, List.length_nil]; omega) | (rw [List.length_set]; omega) | (rw [List.length_replicate]; omega) | (simp; omega))) rfl ?_
              refine rj_v rfl rfl (v_loadI (k := 0) 2 ty_3 rfl rfl r' (by first | omega | (simp only [List.length_cons, List.length_nil]; omega) | (simp only [List.length_append, List.length_cons, List.length_nil]; omega) | (rw [List.length_set]; omega) | (rw [List.length_replicate]; omega) | (simp; omega))) rfl ?_
              refine rj_v rfl rfl (v_and rfl rfl ⟨by omega, by omega⟩ ⟨by omega, by omega⟩) rfl ?_
              refine rj_v rfl rfl (v_idxI Tryz.underlying25 ty_3 rfl rfl rz.toR (by first | omega | (simp only [List.length_cons, List.length_nil]; omega) | (simp only [List.length_append, List.length_cons, List.length_nil]; omega) | (rw [List.length_set]; omega) | (rw [List.length_replicate]; omega) | (simp; omega)) (by first | omega | (simp only [List.length_cons, List.length_nil]; omega) | (simp only [List.length_append, List.length_cons, List.length_nil]; omega) | (rw [List.length_set]; omega) | (rw [List.length_replicate]; omega) | (simp; omega))) rfl ?_
              refine rj_m 1 rfl rfl rfl rfl (m_storeI (k := 0) 1 ty_3 rfl rfl rfl rz (by first | omega | (simp only [List.length_cons, List.length_nil]; omega) | (simp only [List.length_append, List.length_cons, List.length_nil]; omega) | (rw [List.length_set]; omega) | (rw [List.length_replicate]; omega) | (simp; omega))) rfl ?_; rintro _ h_q13_9 ⟨rfl, q13_9⟩
              refine rj_end ?_
              refine qs_bn ?_
              exact qs_ret0 rfl (fin_m 1 (i := 2) rfl rfl rfl (fin1' q13_9 (by have := width_1 (k := k) (n := n) (by omega) (by omega); omega) (by simp [mulL, c69])))
            · refine wp_sq ?_
              refine sq_v rfl (v_loadNB 0 ty_31 rfl rfl rfl rfl) rfl ?_
              refine sq_v rfl (v_move rfl) rfl ?_
              refine sq_v rfl (v_move rfl) rfl ?_
              refine sq_v rfl (v_move rfl) rfl ?_
              have hk := kind_rest hr (by omega) (by omega) (by omega) (by omega) (by omega) (by omega)
              refine sq_m 1 rfl rfl (x_call rfl en_183 (fun w s => ct_i_mulCoefficients _ _ _ _ _ _ _ _ _ w _ (by first | assumption | omega) (by first | assumption | omega) (s.get 1 rfl) rz (r.mono (s.getR 1 2 rfl rfl (by decide))) (r'.mono (s.getR 1 2 rfl rfl (by decide))) (by first | assumption | omega) (by first | assumption | omega) (by first | assumption | omega))) rfl ?_; rintro _ h14 r14
              refine sq_end ?_
              refine qs_bn ?_
              exact qs_ret0 rfl (fin_m 1 (i := 2) rfl rfl rfl (r14))
open Classical in
noncomputable def add1 (k p : Int) (a b : Int) : Int :=
  if k = 1 ∨ k = 5 then max a b else if k = 3 then min (a + b) p else if k = 4 then min a b else if k = 6 then ((a.toNat ||| b.toNat : Nat) : Int) else (a + b).tmod p
noncomputable def addL (k p : Int) (x y : List Int) : List Int := (List.range x.length).map fun i => add1 k p (x.getD i 0) (y.getD i 0)
theorem addL_len (k p : Int) (x y : List Int) : (addL k p x y).length = x.length := by simp [addL]
theorem addL_get {k p : Int} {x y : List Int} {i : Nat} (h : i < x.length) : (addL k p x y).getD i 0 = add1 k p (x.getD i 0) (y.getD i 0) := by simp [addL, List.getD, h]
theorem or_bool {a b : Int} (ha : 0 ≤ a ∧ a ≤ 1) (hb : 0 ≤ b ∧ b ≤ 1) : ((a.toNat ||| b.toNat : Nat) : Int) = max a b := by
  have e1 : a = 0 ∨ a = 1 := by omega
  have e2 : b = 0 ∨ b = 1 := by omega
  rcases e1 with rfl | rfl <;> rcases e2 with rfl | rfl <;> decide
theorem or_in {a b n : Int} (ha : 0 ≤ a ∧ a ≤ 2 ^ n.toNat - 1) (hb : 0 ≤ b ∧ b ≤ 2 ^ n.toNat - 1) : 0 ≤ ((a.toNat ||| b.toNat : Nat) : Int) ∧ ((a.toNat ||| b.toNat : Nat) : Int) ≤ 2 ^ n.toNat - 1 := by
  have e : ((2 ^ n.toNat : Nat) : Int) = (2 : Int) ^ n.toNat := by simp
  have h1 : a.toNat ||| b.toNat < 2 ^ n.toNat := Nat.or_lt_two_pow (by omega) (by omega)
  omega
theorem add1_in {k p n a b : Int} (hr : ringL k p n) (ha : 0 ≤ a ∧ a ≤ topI k p n) (hb : 0 ≤ b ∧ b ≤ topI k p n) : 0 ≤ add1 k p a b ∧ add1 k p a b ≤ topI k p n := by
  unfold add1
  split
  · omega
  · split
    · have := top_cap hr (by omega); omega
    · split
      · omega
      · split
        · rename_i h6
          have ht : topI k p n = 2 ^ n.toNat - 1 := by simp [topI, h6]
          rw [ht] at ha hb ⊢
          exact or_in ha hb
        · have ht := top_poly hr (kind_rest' hr (by omega) (by omega) (by omega) (by omega) (by omega))
          have := tmod_in (a := a + b) (p := p) (by omega) (by omega)
          omega
theorem addL_in {k p n : Int} {x y : List Int} (hr : ringL k p n) (hx : InR k p n x) (hy : InR k p n y) : InR k p n (addL k p x y) := by
  refine ⟨by rw [addL_len]; exact hx.1, fun a ha => ?_⟩
  simp only [addL, List.mem_map, List.mem_range] at ha
  obtain ⟨i, hi, rfl⟩ := ha
  exact add1_in hr (hx.at hr i hi) (hy.at hr i (by have := hx.1; have := hy.1; omega))
/-- The first i sums. -/
noncomputable def addTo (k p : Int) (x y o : List Int) (i : Nat) : List Int := (addL k p x y).take i ++ o.drop i
theorem addTo_step {k p : Int} {x y o : List Int} {i : Nat} (hi : i < x.length) (ho : o.length = x.length) : (addTo k p x y o i).set i (add1 k p (x.getD i 0) (y.getD i 0)) = addTo k p x y o (i + 1) := by
  have hl := addL_len k p x y
  unfold addTo
  apply List.ext_getElem
  · simp; omega
  · intro j h1 h2
    rw [List.getElem_set]
    split
    · rename_i e; subst e
      rw [List.getElem_append_left (by simp; omega), List.getElem_take, ← addL_get hi]
      simp [List.getD, hl, hi]
    · rename_i e
      rcases Nat.lt_or_ge j i with hj | hj
      · rw [List.getElem_append_left (by simp; omega), List.getElem_append_left (by simp; omega), List.getElem_take, List.getElem_take]
      · rw [List.getElem_append_right (by simp; omega), List.getElem_append_right (by simp; omega), List.getElem_drop, List.getElem_drop]
        congr 1
        simp only [List.length_take, hl]
        omega
theorem addTo_len {k p : Int} {x y o : List Int} {i : Nat} (hi : i ≤ x.length) (ho : o.length = x.length) : (addTo k p x y o i).length = x.length := by
  simp [addTo, addL_len]; omega
theorem addTo_get {k p : Int} {x y o : List Int} {i j : Nat} (hj : i ≤ j) (hi : i ≤ x.length) : (addTo k p x y o i).getD j 0 = o.getD j 0 := by
  have : (List.take i (addL k p x y)).length = i := by simp [addL_len]; omega
  simp only [addTo, List.getD]
  rw [List.getElem?_append_right (by omega), List.getElem?_drop]
  congr 2
  omega
set_option maxHeartbeats 1000000 in
theorem ct_s_l02Add (k p n : Int) (x y : List Int) (v u : Value) (w : World) (hr : ringL k p n) (r : IntsR x v (hp w)) (r' : IntsR y u (hp w)) (hx : InR k p n x) (hy : InR k p n y) :
    Calls Tryz.prog 158 [ringV k p n, v, u].toArray w (Ret w emp (IntsO (addL k p x y))) := by
  have h1 := hx.len hr
  have h2 := hy.len hr
  have htr := top_range hr
  have hrp := ring_p hr
  refine calls_in Tryz.func158 rfl Tryz.ntmps158 rfl (Sat.start w) ?_
  have hle0 := r.le
  have hle1 := r'.le
  refine wp_sc ?_
  refine wp_sq ?_
  refine sq_x rfl (x_box rfl rfl) rfl ?_; rintro _ _ ⟨b3, rfl, rfl⟩
  refine sq_v rfl (v_assign rfl) rfl ?_
  refine sq_end ?_
  refine qs_n ?_
  refine wp_sc ?_
  refine wp_sq ?_
  refine sq_v rfl (v_move rfl) rfl ?_
  refine sq_v rfl (v_len Tryz.underlying25 rfl r.sl) rfl ?_
  refine sq_x rfl (x_makeI Tryz.underlying25 ty_3 rfl rfl (by first | omega | (simp only [List.length_cons, List.length_nil]; omega) | (simp only [List.length_append, List.length_cons, List.length_nil]; omega) | (rw [List.length_set]; omega) | (rw [List.length_replicate]; omega) | (simp; omega)) (by first | omega | (simp only [List.length_cons, List.length_nil]; omega) | (simp only [List.length_append, List.length_cons, List.length_nil]; omega) | (rw [List.length_set]; omega) | (rw [List.length_replicate]; omega) | (simp; omega)) (by first | omega | (simp only [List.length_cons, List.length_nil]; omega) | (simp only [List.length_append, List.length_cons, List.length_nil]; omega) | (rw [List.length_set]; omega) | (rw [List.length_replicate]; omega) | (simp; omega))) rfl ?_; intro v11 h11 r11
  refine sq_v rfl (v_assign rfl) rfl ?_
  refine sq_end ?_
  refine qs_n ?_
  refine wp_sc ?_
  refine wp_sc ?_
  refine wp_sq ?_
  refine sq_v rfl (v_move rfl) rfl ?_
  refine sq_v rfl (v_len Tryz.underlying25 rfl r.sl) rfl ?_
  refine sq_v rfl (v_move rfl) rfl ?_
  refine sq_end ?_
  refine qs_n ?_
  refine wp_bl ?_
  refine wp_lp (σ := Nat × PH) (fun z_ => [(1, v), (2, u), (3, .pointer (some ⟨b3, 0, none⟩)), (6, .slice none 0 0), (7, v11), (13, num x.length), (14, num z_.1)]) (fun z_ => [z_.2, box b3 [num k, num p, num n] 31, hp w]) (fun z_ => z_.1 ≤ x.length ∧ IntsO (addTo k p x y (List.replicate x.length 0) z_.1) v11 z_.2) (fun z_ => x.length - z_.1) (0, h11) (⟨by (try dsimp only); omega, by (try dsimp only); simpa [addTo] using r11⟩) ⟨rfl, rfl, rfl, rfl, rfl, rfl, (by first | rfl | exact ksub rfl (by first | omega | (simp; done) | (simp; omega))), trivial⟩ (fun _ s => s) ?_
  rintro ⟨i, g⟩ ⟨hi, q⟩
  dsimp only at hi q ⊢
  have hle_q := q.toR.le
  have hl := addTo_len (k := k) (p := p) (y := y) (o := List.replicate x.length 0) hi (by simp)
  have hst : i < x.length → _ := fun h => addTo_step (k := k) (p := p) (y := y) (o := List.replicate x.length 0) h (by simp)
  refine wp_sc ?_
  refine wp_sq ?_
  refine sq_v rfl (v_lss rfl rfl) rfl ?_
  refine sq_end ?_
  refine qs_n ?_
  refine wp_sc ?_
  refine wp_cd rfl (fun c15 => ?_) (fun c15 => ?_)
  · refine wp_sk ?_
    refine qs_n ?_
    refine wp_sc ?_
    refine wp_bl ?_
    refine wp_sc ?_
    refine wp_sq ?_
    refine sq_v rfl (v_move rfl) rfl ?_
    refine sq_v rfl (v_assign rfl) rfl ?_
    refine sq_end ?_
    have hxi := hx.at hr i (by omega)
    have hyi := hy.at hr i (by omega)
    refine qs_n ?_
    refine wp_sc ?_
    refine wp_sq ?_
    refine sq_v rfl (v_fieldAddr fd_31_0 ty_3 (by decide) rfl) rfl ?_
    refine sq_v rfl (v_loadB 1 ty_3 rfl rfl rfl) rfl ?_
    refine sq_end ?_
    refine qs_n ?_
    refine wp_bl ?_
    refine wp_sc ?_
    refine wp_sc ?_
    refine wp_sq ?_
    refine sq_v rfl (v_eql rfl rfl) rfl ?_
    refine sq_v rfl (v_assign rfl) rfl ?_
    refine sq_end ?_
    refine qs_n ?_
    refine wp_cSd rfl (fun c34 => ?_) (fun c34 => ?_)
    · refine wp_sk ?_
      refine qs_n ?_
      refine wp_ct rfl ?_
      refine wp_rj 12 [(0, true), (1, true), (2, true), (3, true), (4, true), (5, true), (6, true), (7, true), (8, true), (9, true), (10, true), (11, true), (12, false)] mixed_ok (by kernel_rfl) ?_
      refine rj_v rfl rfl (v_move rfl) rfl ?_
      refine rj_v rfl rfl (v_move rfl) rfl ?_
      refine rj_v rfl rfl (v_move rfl) rfl ?_
      refine rj_v rfl rfl (v_move rfl) rfl ?_
      refine rj_v rfl rfl (v_idxI Tryz.underlying25 ty_3 rfl rfl r (by first | omega | (simp only [List.length_cons, List.length_nil]; omega) | (simp only [List.length_append, List.length_cons, List.length_nil]; omega) | (rw [List.length_set]; omega) | (rw [List.length_replicate]; omega) | (simp; omega)) (by first | omega | (simp only [List.length_cons, List.length_nil]; omega) | (simp only [List.length_append, List.length_cons, List.length_nil]; omega) | (rw [List.length_set]; omega) | (rw [List.length_replicate]; omega) | (simp; omega))) rfl ?_
      refine rj_v rfl rfl (v_loadI (k := i) 2 ty_3 rfl rfl r (by first | omega | (simp only [List.length_cons, List.length_nil]; omega) | (simp only [List.length_append, List.length_cons, List.length_nil]; omega) | (rw [List.length_set]; omega) | (rw [List.length_replicate]; omega) | (simp; omega))) rfl ?_
      refine rj_v rfl rfl (v_move rfl) rfl ?_
      refine rj_v rfl rfl (v_move rfl) rfl ?_
      refine rj_v rfl rfl (v_idxI Tryz.underlying25 ty_3 rfl rfl r' (by first | omega | (simp only [List.length_cons, List.length_nil]; omega) | (simp only [List.length_append, List.length_cons, List.length_nil]; omega) | (rw [List.length_set]; omega) | (rw [List.length_replicate]; omega) | (simp; omega)) (by first | omega | (simp only [List.length_cons, List.length_nil]; omega) | (simp only [List.length_append, List.length_cons, List.length_nil]; omega) | (rw [List.length_set]; omega) | (rw [List.length_replicate]; omega) | (simp; omega))) rfl ?_
      refine rj_v rfl rfl (v_loadI (k := i) 2 ty_3 rfl rfl r' (by first | omega | (simp only [List.length_cons, List.length_nil]; omega) | (simp only [List.length_append, List.length_cons, List.length_nil]; omega) | (rw [List.length_set]; omega) | (rw [List.length_replicate]; omega) | (simp; omega))) rfl ?_
      refine rj_v rfl rfl (v_or rfl rfl ⟨by omega, by omega⟩ ⟨by omega, by omega⟩) rfl ?_
      refine rj_v rfl rfl (v_idxI Tryz.underlying25 ty_3 rfl rfl q.toR (by first | omega | (simp only [List.length_cons, List.length_nil]; omega) | (simp only [List.length_append, List.length_cons, List.length_nil]; omega) | (rw [List.length_set]; omega) | (rw [List.length_replicate]; omega) | (simp; omega)) (by first | omega | (simp only [List.length_cons, List.length_nil]; omega) | (simp only [List.length_append, List.length_cons, List.length_nil]; omega) | (rw [List.length_set]; omega) | (rw [List.length_replicate]; omega) | (simp; omega))) rfl ?_
      refine rj_m 0 rfl rfl rfl rfl (m_storeI (k := i) 0 ty_3 rfl rfl rfl q (by first | omega | (simp only [List.length_cons, List.length_nil]; omega) | (simp only [List.length_append, List.length_cons, List.length_nil]; omega) | (rw [List.length_set]; omega) | (rw [List.length_replicate]; omega) | (simp; omega))) rfl ?_; rintro _ h_q9_12 ⟨rfl, q9_12⟩
      refine rj_end ?_
      refine qs_bn ?_
      refine qs_bn ?_
      refine qs_n ?_
      refine wp_sq ?_
      refine sq_v rfl (v_add rfl rfl ((by unfold I64; omega))) rfl ?_
      refine sq_v rfl (v_move rfl) rfl ?_
      refine sq_end ?_
      exact qs_bk (i + 1, h_q9_12) ⟨by (try dsimp only); omega, by (try dsimp only); rw [← hst (by omega), add1, if_pos (.inl c34), ← or_bool (by have := top_1 (p := p) (n := n) c34; omega) (by have := top_1 (p := p) (n := n) c34; omega)]; exact q9_12⟩ (by simp only; omega) ⟨rfl, rfl, rfl, rfl, rfl, rfl, (by first | rfl | exact ksub rfl (by first | omega | (simp; done) | (simp; omega))), trivial⟩ (fun _ s => s)
    · refine wp_sq ?_
      refine sq_v rfl (v_eql rfl rfl) rfl ?_
      refine sq_v rfl (v_assign rfl) rfl ?_
      refine sq_end ?_
      refine qs_n ?_
      refine wp_cSd rfl (fun c34 => ?_) (fun c34 => ?_)
      · refine wp_rj 12 [(0, true), (1, true), (2, true), (3, true), (4, true), (5, true), (6, true), (7, true), (8, true), (9, true), (10, true), (11, true), (12, false)] mixed_ok (by kernel_rfl) ?_
        refine rj_v rfl rfl (v_move rfl) rfl ?_
        refine rj_v rfl rfl (v_move rfl) rfl ?_
        refine rj_v rfl rfl (v_move rfl) rfl ?_
        refine rj_v rfl rfl (v_move rfl) rfl ?_
        refine rj_v rfl rfl (v_idxI Tryz.underlying25 ty_3 rfl rfl r (by first | omega | (simp only [List.length_cons, List.length_nil]; omega) | (simp only [List.length_append, List.length_cons, List.length_nil]; omega) | (rw [List.length_set]; omega) | (rw [List.length_replicate]; omega) | (simp; omega)) (by first | omega | (simp only [List.length_cons, List.length_nil]; omega) | (simp only [List.length_append, List.length_cons, List.length_nil]; omega) | (rw [List.length_set]; omega) | (rw [List.length_replicate]; omega) | (simp; omega))) rfl ?_
        refine rj_v rfl rfl (v_loadI (k := i) 2 ty_3 rfl rfl r (by first | omega | (simp only [List.length_cons, List.length_nil]; omega) | (simp only [List.length_append, List.length_cons, List.length_nil]; omega) | (rw [List.length_set]; omega) | (rw [List.length_replicate]; omega) | (simp; omega))) rfl ?_
        refine rj_v rfl rfl (v_move rfl) rfl ?_
        refine rj_v rfl rfl (v_move rfl) rfl ?_
        refine rj_v rfl rfl (v_idxI Tryz.underlying25 ty_3 rfl rfl r' (by first | omega | (simp only [List.length_cons, List.length_nil]; omega) | (simp only [List.length_append, List.length_cons, List.length_nil]; omega) | (rw [List.length_set]; omega) | (rw [List.length_replicate]; omega) | (simp; omega)) (by first | omega | (simp only [List.length_cons, List.length_nil]; omega) | (simp only [List.length_append, List.length_cons, List.length_nil]; omega) | (rw [List.length_set]; omega) | (rw [List.length_replicate]; omega) | (simp; omega))) rfl ?_
        refine rj_v rfl rfl (v_loadI (k := i) 2 ty_3 rfl rfl r' (by first | omega | (simp only [List.length_cons, List.length_nil]; omega) | (simp only [List.length_append, List.length_cons, List.length_nil]; omega) | (rw [List.length_set]; omega) | (rw [List.length_replicate]; omega) | (simp; omega))) rfl ?_
        refine rj_v rfl rfl (v_or rfl rfl ⟨by omega, by omega⟩ ⟨by omega, by omega⟩) rfl ?_
        refine rj_v rfl rfl (v_idxI Tryz.underlying25 ty_3 rfl rfl q.toR (by first | omega | (simp only [List.length_cons, List.length_nil]; omega) | (simp only [List.length_append, List.length_cons, List.length_nil]; omega) | (rw [List.length_set]; omega) | (rw [List.length_replicate]; omega) | (simp; omega)) (by first | omega | (simp only [List.length_cons, List.length_nil]; omega) | (simp only [List.length_append, List.length_cons, List.length_nil]; omega) | (rw [List.length_set]; omega) | (rw [List.length_replicate]; omega) | (simp; omega))) rfl ?_
        refine rj_m 0 rfl rfl rfl rfl (m_storeI (k := i) 0 ty_3 rfl rfl rfl q (by first | omega | (simp only [List.length_cons, List.length_nil]; omega) | (simp only [List.length_append, List.length_cons, List.length_nil]; omega) | (rw [List.length_set]; omega) | (rw [List.length_replicate]; omega) | (simp; omega))) rfl ?_; rintro _ h_q9_12 ⟨rfl, q9_12⟩
        refine rj_end ?_
        refine qs_bn ?_
        refine qs_bn ?_
        refine qs_n ?_
        refine wp_sq ?_
        refine sq_v rfl (v_add rfl rfl ((by unfold I64; omega))) rfl ?_
        refine sq_v rfl (v_move rfl) rfl ?_
        refine sq_end ?_
        exact qs_bk (i + 1, h_q9_12) ⟨by (try dsimp only); omega, by (try dsimp only); rw [← hst (by omega), add1, if_neg (by omega), if_neg (by omega), if_neg (by omega), if_pos c34]; exact q9_12⟩ (by simp only; omega) ⟨rfl, rfl, rfl, rfl, rfl, rfl, (by first | rfl | exact ksub rfl (by first | omega | (simp; done) | (simp; omega))), trivial⟩ (fun _ s => s)
      · refine wp_sc ?_
        refine wp_sq ?_
        refine sq_v rfl (v_eql rfl rfl) rfl ?_
        refine sq_v rfl (v_assign rfl) rfl ?_
        refine sq_end ?_
        refine qs_n ?_
        refine wp_cd rfl (fun c49 => ?_) (fun c49 => ?_)
        · refine wp_rj 15 [(0, true), (1, true), (2, true), (3, true), (4, true), (5, true), (6, true), (7, true), (8, true), (9, true), (10, true), (11, true), (12, true), (13, true), (14, true), (15, false)] mixed_ok (by kernel_rfl) ?_
          refine rj_v rfl rfl (v_move rfl) rfl ?_
          refine rj_v rfl rfl (v_move rfl) rfl ?_
          refine rj_v rfl rfl (v_move rfl) rfl ?_
          refine rj_v rfl rfl (v_move rfl) rfl ?_
          refine rj_v rfl rfl (v_idxI Tryz.underlying25 ty_3 rfl rfl r (by first | omega | (simp only [List.length_cons, List.length_nil]; omega) | (simp only [List.length_append, List.length_cons, List.length_nil]; omega) | (rw [List.length_set]; omega) | (rw [List.length_replicate]; omega) | (simp; omega)) (by first | omega | (simp only [List.length_cons, List.length_nil]; omega) | (simp only [List.length_append, List.length_cons, List.length_nil]; omega) | (rw [List.length_set]; omega) | (rw [List.length_replicate]; omega) | (simp; omega))) rfl ?_
          refine rj_v rfl rfl (v_loadI (k := i) 2 ty_3 rfl rfl r (by first | omega | (simp only [List.length_cons, List.length_nil]; omega) | (simp only [List.length_append, List.length_cons, List.length_nil]; omega) | (rw [List.length_set]; omega) | (rw [List.length_replicate]; omega) | (simp; omega))) rfl ?_
          refine rj_v rfl rfl (v_move rfl) rfl ?_
          refine rj_v rfl rfl (v_move rfl) rfl ?_
          refine rj_v rfl rfl (v_idxI Tryz.underlying25 ty_3 rfl rfl r' (by first | omega | (simp only [List.length_cons, List.length_nil]; omega) | (simp only [List.length_append, List.length_cons, List.length_nil]; omega) | (rw [List.length_set]; omega) | (rw [List.length_replicate]; omega) | (simp; omega)) (by first | omega | (simp only [List.length_cons, List.length_nil]; omega) | (simp only [List.length_append, List.length_cons, List.length_nil]; omega) | (rw [List.length_set]; omega) | (rw [List.length_replicate]; omega) | (simp; omega))) rfl ?_
          refine rj_v rfl rfl (v_loadI (k := i) 2 ty_3 rfl rfl r' (by first | omega | (simp only [List.length_cons, List.length_nil]; omega) | (simp only [List.length_append, List.length_cons, List.length_nil]; omega) | (rw [List.length_set]; omega) | (rw [List.length_replicate]; omega) | (simp; omega))) rfl ?_
          refine rj_v rfl rfl (v_add rfl rfl ((by unfold I64; omega))) rfl ?_
          refine rj_v rfl rfl (v_fieldAddr fd_31_1 ty_3 (by decide) rfl) rfl ?_
          refine rj_v rfl rfl (v_loadB 1 ty_3 rfl rfl rfl) rfl ?_
          refine rj_v rfl rfl (v_min rfl rfl) rfl ?_
          refine rj_v rfl rfl (v_idxI Tryz.underlying25 ty_3 rfl rfl q.toR (by first | omega | (simp only [List.length_cons, List.length_nil]; omega) | (simp only [List.length_append, List.length_cons, List.length_nil]; omega) | (rw [List.length_set]; omega) | (rw [List.length_replicate]; omega) | (simp; omega)) (by first | omega | (simp only [List.length_cons, List.length_nil]; omega) | (simp only [List.length_append, List.length_cons, List.length_nil]; omega) | (rw [List.length_set]; omega) | (rw [List.length_replicate]; omega) | (simp; omega))) rfl ?_
          refine rj_m 0 rfl rfl rfl rfl (m_storeI (k := i) 0 ty_3 rfl rfl rfl q (by first | omega | (simp only [List.length_cons, List.length_nil]; omega) | (simp only [List.length_append, List.length_cons, List.length_nil]; omega) | (rw [List.length_set]; omega) | (rw [List.length_replicate]; omega) | (simp; omega))) rfl ?_; rintro _ h_q11_15 ⟨rfl, q11_15⟩
          refine rj_end ?_
          refine qs_bn ?_
          refine qs_bn ?_
          refine qs_n ?_
          refine wp_sq ?_
          refine sq_v rfl (v_add rfl rfl ((by unfold I64; omega))) rfl ?_
          refine sq_v rfl (v_move rfl) rfl ?_
          refine sq_end ?_
          exact qs_bk (i + 1, h_q11_15) ⟨by (try dsimp only); omega, by (try dsimp only); rw [← hst (by omega), add1, if_neg (by omega), if_pos c49]; exact q11_15⟩ (by simp only; omega) ⟨rfl, rfl, rfl, rfl, rfl, rfl, (by first | rfl | exact ksub rfl (by first | omega | (simp; done) | (simp; omega))), trivial⟩ (fun _ s => s)
        · refine wp_sc ?_
          refine wp_sq ?_
          refine sq_v rfl (v_eql rfl rfl) rfl ?_
          refine sq_v rfl (v_assign rfl) rfl ?_
          refine sq_end ?_
          refine qs_n ?_
          refine wp_cd rfl (fun c66 => ?_) (fun c66 => ?_)
          · refine wp_rj 12 [(0, true), (1, true), (2, true), (3, true), (4, true), (5, true), (6, true), (7, true), (8, true), (9, true), (10, true), (11, true), (12, false)] mixed_ok (by kernel_rfl) ?_
            refine rj_v rfl rfl (v_move rfl) rfl ?_
            refine rj_v rfl rfl (v_move rfl) rfl ?_
            refine rj_v rfl rfl (v_move rfl) rfl ?_
            refine rj_v rfl rfl (v_move rfl) rfl ?_
            refine rj_v rfl rfl (v_idxI Tryz.underlying25 ty_3 rfl rfl r (by first | omega | (simp only [List.length_cons, List.length_nil]; omega) | (simp only [List.length_append, List.length_cons, List.length_nil]; omega) | (rw [List.length_set]; omega) | (rw [List.length_replicate]; omega) | (simp; omega)) (by first | omega | (simp only [List.length_cons, List.length_nil]; omega) | (simp only [List.length_append, List.length_cons, List.length_nil]; omega) | (rw [List.length_set]; omega) | (rw [List.length_replicate]; omega) | (simp; omega))) rfl ?_
            refine rj_v rfl rfl (v_loadI (k := i) 2 ty_3 rfl rfl r (by first | omega | (simp only [List.length_cons, List.length_nil]; omega) | (simp only [List.length_append, List.length_cons, List.length_nil]; omega) | (rw [List.length_set]; omega) | (rw [List.length_replicate]; omega) | (simp; omega))) rfl ?_
            refine rj_v rfl rfl (v_move rfl) rfl ?_
            refine rj_v rfl rfl (v_move rfl) rfl ?_
            refine rj_v rfl rfl (v_idxI Tryz.underlying25 ty_3 rfl rfl r' (by first | omega | (simp only [List.length_cons, List.length_nil]; omega) | (simp only [List.length_append, List.length_cons, List.length_nil]; omega) | (rw [List.length_set]; omega) | (rw [List.length_replicate]; omega) | (simp; omega)) (by first | omega | (simp only [List.length_cons, List.length_nil]; omega) | (simp only [List.length_append, List.length_cons, List.length_nil]; omega) | (rw [List.length_set]; omega) | (rw [List.length_replicate]; omega) | (simp; omega))) rfl ?_
            refine rj_v rfl rfl (v_loadI (k := i) 2 ty_3 rfl rfl r' (by first | omega | (simp only [List.length_cons, List.length_nil]; omega) | (simp only [List.length_append, List.length_cons, List.length_nil]; omega) | (rw [List.length_set]; omega) | (rw [List.length_replicate]; omega) | (simp; omega))) rfl ?_
            refine rj_v rfl rfl (v_min rfl rfl) rfl ?_
            refine rj_v rfl rfl (v_idxI Tryz.underlying25 ty_3 rfl rfl q.toR (by first | omega | (simp only [List.length_cons, List.length_nil]; omega) | (simp only [List.length_append, List.length_cons, List.length_nil]; omega) | (rw [List.length_set]; omega) | (rw [List.length_replicate]; omega) | (simp; omega)) (by first | omega | (simp only [List.length_cons, List.length_nil]; omega) | (simp only [List.length_append, List.length_cons, List.length_nil]; omega) | (rw [List.length_set]; omega) | (rw [List.length_replicate]; omega) | (simp; omega))) rfl ?_
            refine rj_m 0 rfl rfl rfl rfl (m_storeI (k := i) 0 ty_3 rfl rfl rfl q (by first | omega | (simp only [List.length_cons, List.length_nil]; omega) | (simp only [List.length_append, List.length_cons, List.length_nil]; omega) | (rw [List.length_set]; omega) | (rw [List.length_replicate]; omega) | (simp; omega))) rfl ?_; rintro _ h_q13_12 ⟨rfl, q13_12⟩
            refine rj_end ?_
            refine qs_bn ?_
            refine qs_bn ?_
            refine qs_n ?_
            refine wp_sq ?_
            refine sq_v rfl (v_add rfl rfl ((by unfold I64; omega))) rfl ?_
            refine sq_v rfl (v_move rfl) rfl ?_
            refine sq_end ?_
            exact qs_bk (i + 1, h_q13_12) ⟨by (try dsimp only); omega, by (try dsimp only); rw [← hst (by omega), add1, if_neg (by omega), if_neg (by omega), if_pos c66]; exact q13_12⟩ (by simp only; omega) ⟨rfl, rfl, rfl, rfl, rfl, rfl, (by first | rfl | exact ksub rfl (by first | omega | (simp; done) | (simp; omega))), trivial⟩ (fun _ s => s)
          · refine wp_sc ?_
            refine wp_sq ?_
            refine sq_v rfl (v_eql rfl rfl) rfl ?_
            refine sq_v rfl (v_assign rfl) rfl ?_
            refine sq_end ?_
            refine qs_n ?_
            refine wp_cd rfl (fun c80 => ?_) (fun c80 => ?_)
            · refine wp_rj 12 [(0, true), (1, true), (2, true), (3, true), (4, true), (5, true), (6, true), (7, true), (8, true), (9, true), (10, true), (11, true), (12, false)] mixed_ok (by kernel_rfl) ?_
              refine rj_v rfl rfl (v_move rfl) rfl ?_
              refine rj_v rfl rfl (v_move rfl) rfl ?_
              refine rj_v rfl rfl (v_move rfl) rfl ?_
              refine rj_v rfl rfl (v_move rfl) rfl ?_
              refine rj_v rfl rfl (v_idxI Tryz.underlying25 ty_3 rfl rfl r (by first | omega | (simp only [List.length_cons, List.length_nil]; omega) | (simp only [List.length_append, List.length_cons, List.length_nil]; omega) | (rw [List.length_set]; omega) | (rw [List.length_replicate]; omega) | (simp; omega)) (by first | omega | (simp only [List.length_cons, List.length_nil]; omega) | (simp only [List.length_append, List.length_cons, List.length_nil]; omega) | (rw [List.length_set]; omega) | (rw [List.length_replicate]; omega) | (simp; omega))) rfl ?_
              refine rj_v rfl rfl (v_loadI (k := i) 2 ty_3 rfl rfl r (by first | omega | (simp only [List.length_cons, List.length_nil]; omega) | (simp only [List.length_append, List.length_cons, List.length_nil]; omega) | (rw [List.length_set]; omega) | (rw [List.length_replicate]; omega) | (simp; omega))) rfl ?_
              refine rj_v rfl rfl (v_move rfl) rfl ?_
              refine rj_v rfl rfl (v_move rfl) rfl ?_
              refine rj_v rfl rfl (v_idxI Tryz.underlying25 ty_3 rfl rfl r' (by first | omega | (simp only [List.length_cons, List.length_nil]; omega) | (simp only [List.length_append, List.length_cons, List.length_nil]; omega) | (rw [List.length_set]; omega) | (rw [List.length_replicate]; omega) | (simp; omega)) (by first | omega | (simp only [List.length_cons, List.length_nil]; omega) | (simp only [List.length_append, List.length_cons, List.length_nil]; omega) | (rw [List.length_set]; omega) | (rw [List.length_replicate]; omega) | (simp; omega))) rfl ?_
              refine rj_v rfl rfl (v_loadI (k := i) 2 ty_3 rfl rfl r' (by first | omega | (simp only [List.length_cons, List.length_nil]; omega) | (simp only [List.length_append, List.length_cons, List.length_nil]; omega) | (rw [List.length_set]; omega) | (rw [List.length_replicate]; omega) | (simp; omega))) rfl ?_
              refine rj_v rfl rfl (v_max rfl rfl) rfl ?_
              refine rj_v rfl rfl (v_idxI Tryz.underlying25 ty_3 rfl rfl q.toR (by first | omega | (simp only [List.length_cons, List.length_nil]; omega) | (simp only [List.length_append, List.length_cons, List.length_nil]; omega) | (rw [List.length_set]; omega) | (rw [List.length_replicate]; omega) | (simp; omega)) (by first | omega | (simp only [List.length_cons, List.length_nil]; omega) | (simp only [List.length_append, List.length_cons, List.length_nil]; omega) | (rw [List.length_set]; omega) | (rw [List.length_replicate]; omega) | (simp; omega))) rfl ?_
              refine rj_m 0 rfl rfl rfl rfl (m_storeI (k := i) 0 ty_3 rfl rfl rfl q (by first | omega | (simp only [List.length_cons, List.length_nil]; omega) | (simp only [List.length_append, List.length_cons, List.length_nil]; omega) | (rw [List.length_set]; omega) | (rw [List.length_replicate]; omega) | (simp; omega))) rfl ?_; rintro _ h_q15_12 ⟨rfl, q15_12⟩
              refine rj_end ?_
              refine qs_bn ?_
              refine qs_bn ?_
              refine qs_n ?_
              refine wp_sq ?_
              refine sq_v rfl (v_add rfl rfl ((by unfold I64; omega))) rfl ?_
              refine sq_v rfl (v_move rfl) rfl ?_
              refine sq_end ?_
              exact qs_bk (i + 1, h_q15_12) ⟨by (try dsimp only); omega, by (try dsimp only); rw [← hst (by omega), add1, if_pos (.inr c80)]; exact q15_12⟩ (by simp only; omega) ⟨rfl, rfl, rfl, rfl, rfl, rfl, (by first | rfl | exact ksub rfl (by first | omega | (simp; done) | (simp; omega))), trivial⟩ (fun _ s => s)
            · refine wp_rj 15 [(0, true), (1, true), (2, true), (3, true), (4, true), (5, true), (6, true), (7, true), (8, true), (9, true), (10, true), (11, true), (12, true), (13, true), (14, true), (15, false)] mixed_ok (by kernel_rfl) ?_
              refine rj_v rfl rfl (v_move rfl) rfl ?_
              refine rj_v rfl rfl (v_move rfl) rfl ?_
              refine rj_v rfl rfl (v_move rfl) rfl ?_
              refine rj_v rfl rfl (v_move rfl) rfl ?_
              refine rj_v rfl rfl (v_idxI Tryz.underlying25 ty_3 rfl rfl r (by first | omega | (simp only [List.length_cons, List.length_nil]; omega) | (simp only [List.length_append, List.length_cons, List.length_nil]; omega) | (rw [List.length_set]; omega) | (rw [List.length_replicate]; omega) | (simp; omega)) (by first | omega | (simp only [List.length_cons, List.length_nil]; omega) | (simp only [List.length_append, List.length_cons, List.length_nil]; omega) | (rw [List.length_set]; omega) | (rw [List.length_replicate]; omega) | (simp; omega))) rfl ?_
              refine rj_v rfl rfl (v_loadI (k := i) 2 ty_3 rfl rfl r (by first | omega | (simp only [List.length_cons, List.length_nil]; omega) | (simp only [List.length_append, List.length_cons, List.length_nil]; omega) | (rw [List.length_set]; omega) | (rw [List.length_replicate]; omega) | (simp; omega))) rfl ?_
              refine rj_v rfl rfl (v_move rfl) rfl ?_
              refine rj_v rfl rfl (v_move rfl) rfl ?_
              refine rj_v rfl rfl (v_idxI Tryz.underlying25 ty_3 rfl rfl r' (by first | omega | (simp only [List.length_cons, List.length_nil]; omega) | (simp only [List.length_append, List.length_cons, List.length_nil]; omega) | (rw [List.length_set]; omega) | (rw [List.length_replicate]; omega) | (simp; omega)) (by first | omega | (simp only [List.length_cons, List.length_nil]; omega) | (simp only [List.length_append, List.length_cons, List.length_nil]; omega) | (rw [List.length_set]; omega) | (rw [List.length_replicate]; omega) | (simp; omega))) rfl ?_
              refine rj_v rfl rfl (v_loadI (k := i) 2 ty_3 rfl rfl r' (by first | omega | (simp only [List.length_cons, List.length_nil]; omega) | (simp only [List.length_append, List.length_cons, List.length_nil]; omega) | (rw [List.length_set]; omega) | (rw [List.length_replicate]; omega) | (simp; omega))) rfl ?_
              refine rj_v rfl rfl (v_add rfl rfl ((by unfold I64; omega))) rfl ?_
              refine rj_v rfl rfl (v_fieldAddr fd_31_1 ty_3 (by decide) rfl) rfl ?_
              refine rj_v rfl rfl (v_loadB 1 ty_3 rfl rfl rfl) rfl ?_
              refine rj_v rfl rfl (v_rem rfl rfl (by have := top_poly hr (kind_rest' hr (by omega) (by omega) (by omega) (by omega) (by omega)); omega)) rfl ?_
              refine rj_v rfl rfl (v_idxI Tryz.underlying25 ty_3 rfl rfl q.toR (by first | omega | (simp only [List.length_cons, List.length_nil]; omega) | (simp only [List.length_append, List.length_cons, List.length_nil]; omega) | (rw [List.length_set]; omega) | (rw [List.length_replicate]; omega) | (simp; omega)) (by first | omega | (simp only [List.length_cons, List.length_nil]; omega) | (simp only [List.length_append, List.length_cons, List.length_nil]; omega) | (rw [List.length_set]; omega) | (rw [List.length_replicate]; omega) | (simp; omega))) rfl ?_
              refine rj_m 0 rfl rfl rfl rfl (m_storeI (k := i) 0 ty_3 rfl rfl rfl q (by first | omega | (simp only [List.length_cons, List.length_nil]; omega) | (simp only [List.length_append, List.length_cons, List.length_nil]; omega) | (rw [List.length_set]; omega) | (rw [List.length_replicate]; omega) | (simp; omega))) rfl ?_; rintro _ h_q6_15 ⟨rfl, q6_15⟩
              refine rj_end ?_
              refine qs_bn ?_
              refine qs_bn ?_
              refine qs_n ?_
              refine wp_sq ?_
              refine sq_v rfl (v_add rfl rfl ((by unfold I64; omega))) rfl ?_
              refine sq_v rfl (v_move rfl) rfl ?_
              refine sq_end ?_
              exact qs_bk (i + 1, h_q6_15) ⟨by (try dsimp only); omega, by (try dsimp only); rw [← hst (by omega), add1, if_neg (by omega), if_neg (by omega), if_neg (by omega), if_neg (by omega)]; exact q6_15⟩ (by simp only; omega) ⟨rfl, rfl, rfl, rfl, rfl, rfl, (by first | rfl | exact ksub rfl (by first | omega | (simp; done) | (simp; omega))), trivial⟩ (fun _ s => s)
  · refine wp_ex ?_
    refine qs_x ?_
    refine qs_x ?_
    refine qs_bx ?_
    refine qs_n ?_
    refine wp_sc ?_
    refine wp_sq ?_
    refine sq_v rfl (v_move rfl) rfl ?_
    refine sq_v rfl (v_assign rfl) rfl ?_
    refine sq_end ?_
    refine qs_n ?_
    refine wp_rt ?_
    exact qs_ret1 rfl rfl (fin_t 0 (i := 2) rfl rfl rfl (by rw [addTo, List.drop_of_length_le (by simp; omega), List.append_nil, List.take_of_length_le (by rw [addL_len]; omega)] at q; exact q))
/-- Numbers put in the place of others, from lo on. -/
def putL (xs : List Int) (lo : Nat) (ys : List Int) : List Int := xs.take lo ++ ys ++ xs.drop (lo + ys.length)
theorem putL_len {xs ys : List Int} {lo : Nat} (h : lo + ys.length ≤ xs.length) : (putL xs lo ys).length = xs.length := by simp [putL]; omega
theorem putL_set {xs ys : List Int} {lo i : Nat} (h : lo + ys.length ≤ xs.length) (hi : i < ys.length) (a : Int) : (putL xs lo ys).set (lo + i) a = putL xs lo (ys.set i a) := by
  unfold putL
  rw [List.append_assoc, List.set_append_right _ _ (by simp; omega), List.set_append_left _ _ (by simp; omega), List.length_set, List.append_assoc]
  congr 3
  simp; omega
theorem putL_win {xs ys : List Int} {lo : Nat} (h : lo + ys.length ≤ xs.length) : ((putL xs lo ys).drop lo).take ys.length = ys := by
  have : (xs.take lo).length = lo := by simp; omega
  unfold putL
  rw [List.append_assoc, List.drop_append, this, Nat.sub_self, List.drop_zero, List.drop_of_length_le (by omega), List.nil_append, List.take_left]
theorem putL_self {xs : List Int} {lo m : Nat} (h : lo + m ≤ xs.length) : putL xs lo ((xs.drop lo).take m) = xs := by
  unfold putL
  have : ((xs.drop lo).take m).length = m := by simp; omega
  rw [this, List.append_assoc, ← List.drop_drop]
  rw [List.take_append_drop, List.take_append_drop]
theorem IntsO.win {xs ys : List Int} {lo hi : Nat} {v : Value} {g : PH} (q : IntsO (putL xs lo ys) v g) (h : lo + ys.length ≤ xs.length) (hh : hi = lo + ys.length) : IntsR ys (subV v lo hi 1) g := by
  subst hh
  have := q.toR.sub (lo := lo) (hi := lo + ys.length) (by omega) (by rw [putL_len h]; exact h)
  rwa [Nat.add_sub_cancel_left, putL_win h] at this
set_option maxHeartbeats 1000000 in
theorem ct_i_addInto (k p n : Int) (xs y : List Int) (lo hi : Nat) (sv u : Value) (w : World) (h : PH) (hr : ringL k p n) (hle : PLe h (hp w)) (rz : IntsO xs sv h) (r' : IntsR y u (restP w h)) (hh : hi = lo + y.length) (hxs : hi ≤ xs.length) (hx : InR k p n ((xs.drop lo).take y.length)) (hy : InR k p n y) :
    Calls Tryz.prog 166 [ringV k p n, subV sv lo hi 1, u].toArray w (Ret w h (fun _ h' => IntsO (putL xs lo (addL k p ((xs.drop lo).take y.length) y)) sv h')) := by
  have h1 := hx.len hr
  have h2 := hy.len hr
  have htr := top_range hr
  have hrp := ring_p hr
  have hx0 := hx.at hr 0 (by omega)
  have hy0 := hy.at hr 0 (by omega)
  have hwl : ((xs.drop lo).take y.length).length = y.length := by simp; omega
  rw [← putL_self (xs := xs) (lo := lo) (m := y.length) (by omega)] at rz
  generalize ((xs.drop lo).take y.length) = x at *
  have rs := rz.win (hi := hi) (by omega) (by omega)
  have hone : ∀ a q1 h', IntsO ((putL xs lo x).set (lo + 0) a) sv h' → x.length = 1 → add1 k p (x.getD 0 0) (y.getD 0 0) = a → q1 = h' → IntsO (putL xs lo (addL k p x y)) sv h' := fun a q1 h' q hl1 he _ => by
    rw [putL_set (by omega) (by omega)] at q
    have e : addL k p x y = x.set 0 a := by
      match x, hl1 with
      | [b], _ => simp [addL, ← he]
    rw [e]; exact q
  refine calls_in Tryz.func166 rfl Tryz.ntmps166 rfl (Sat.start2 hle) ?_
  have hle0 := rz.toR.le
  have hle1 := r'.le
  have hle2 := rs.le
  refine wp_sc ?_
  refine wp_sq ?_
  refine sq_x rfl (x_box rfl rfl) rfl ?_; rintro _ _ ⟨b3, rfl, rfl⟩
  refine sq_end ?_
  refine qs_n ?_
  refine wp_sc ?_
  refine wp_sq ?_
  refine sq_v rfl (v_fieldAddr fd_31_0 ty_3 (by decide) rfl) rfl ?_
  refine sq_v rfl (v_loadB 0 ty_3 rfl rfl rfl) rfl ?_
  refine sq_end ?_
  refine qs_n ?_
  refine wp_bl ?_
  refine wp_sc ?_
  refine wp_sc ?_
  refine wp_sq ?_
  refine sq_v rfl (v_eql rfl rfl) rfl ?_
  refine sq_v rfl (v_assign rfl) rfl ?_
  refine sq_end ?_
  refine qs_n ?_
  refine wp_cSd rfl (fun c30 => ?_) (fun c30 => ?_)
  · refine wp_sk ?_
    refine qs_n ?_
    refine wp_ct rfl ?_
    refine wp_rj 9 [(0, true), (1, true), (2, true), (3, true), (4, true), (5, true), (6, true), (7, true), (8, true), (9, false)] mixed_ok (by kernel_rfl) ?_
    refine rj_v rfl rfl (v_move rfl) rfl ?_
    refine rj_v rfl rfl (v_move rfl) rfl ?_
    refine rj_v rfl rfl (v_idxI Tryz.underlying25 ty_3 rfl rfl rs (by first | omega | (simp only [List.length_cons, List.length_nil]; omega) | (simp only [List.length_append, List.length_cons, List.length_nil]; omega) | (rw [List.length_set]; omega) | (rw [List.length_replicate]; omega) | (simp; omega)) (by first | omega | (simp only [List.length_cons, List.length_nil]; omega) | (simp only [List.length_append, List.length_cons, List.length_nil]; omega) | (rw [List.length_set]; omega) | (rw [List.length_replicate]; omega) | (simp; omega))) rfl ?_
    refine rj_v rfl rfl (v_loadI (k := 0) 1 ty_3 rfl rfl rs (by first | omega | (simp only [List.length_cons, List.length_nil]; omega) | (simp only [List.length_append, List.length_cons, List.length_nil]; omega) | (rw [List.length_set]; omega) | (rw [List.length_replicate]; omega) | (simp; omega))) rfl ?_
    refine rj_v rfl rfl (v_move rfl) rfl ?_
    refine rj_v rfl rfl (v_idxI Tryz.underlying25 ty_3 rfl rfl r' (by first | omega | (simp only [List.length_cons, List.length_nil]; omega) | (simp only [List.length_append, List.length_cons, List.length_nil]; omega) | (rw [List.length_set]; omega) | (rw [List.length_replicate]; omega) | (simp; omega)) (by first | omega | (simp only [List.length_cons, List.length_nil]; omega) | (simp only [List.length_append, List.length_cons, List.length_nil]; omega) | (rw [List.length_set]; omega) | (rw [List.length_replicate]; omega) | (simp; omega))) rfl ?_
    refine rj_v rfl rfl (v_loadI (k := 0) 2 ty_3 rfl rfl r' (by first | omega | (simp only [List.length_cons, List.length_nil]; omega) | (simp only [List.length_append, List.length_cons, List.length_nil]; omega) | (rw [List.length_set]; omega) | (rw [List.length_replicate]; omega) | (simp; omega))) rfl ?_
    refine rj_v rfl rfl (v_max rfl rfl) rfl ?_
    refine rj_v rfl rfl (v_idxI Tryz.underlying25 ty_3 rfl rfl rs (by first | omega | (simp only [List.length_cons, List.length_nil]; omega) | (simp only [List.length_append, List.length_cons, List.length_nil]; omega) | (rw [List.length_set]; omega) | (rw [List.length_replicate]; omega) | (simp; omega)) (by first | omega | (simp only [List.length_cons, List.length_nil]; omega) | (simp only [List.length_append, List.length_cons, List.length_nil]; omega) | (rw [List.length_set]; omega) | (rw [List.length_replicate]; omega) | (simp; omega))) rfl ?_
    refine rj_m 1 rfl rfl rfl rfl (m_storeSub 1 ty_3 rfl rfl rfl rz (by omega) (by rw [putL_len (by omega)]; omega)) rfl ?_; rintro _ h_q9 ⟨rfl, q9⟩
    refine rj_end ?_
    refine qs_bn ?_
    exact qs_ret0 rfl (fin_m 1 (i := 2) rfl rfl rfl (hone _ _ _ q9 (by have := width_1 (k := k) (n := n) (by omega) (by omega); omega) (by simp [add1, c30]) rfl))
  · refine wp_sq ?_
    refine sq_v rfl (v_eql rfl rfl) rfl ?_
    refine sq_v rfl (v_assign rfl) rfl ?_
    refine sq_end ?_
    refine qs_n ?_
    refine wp_cSd rfl (fun c30 => ?_) (fun c30 => ?_)
    · refine wp_rj 9 [(0, true), (1, true), (2, true), (3, true), (4, true), (5, true), (6, true), (7, true), (8, true), (9, false)] mixed_ok (by kernel_rfl) ?_
      refine rj_v rfl rfl (v_move rfl) rfl ?_
      refine rj_v rfl rfl (v_move rfl) rfl ?_
      refine rj_v rfl rfl (v_idxI Tryz.underlying25 ty_3 rfl rfl rs (by first | omega | (simp only [List.length_cons, List.length_nil]; omega) | (simp only [List.length_append, List.length_cons, List.length_nil]; omega) | (rw [List.length_set]; omega) | (rw [List.length_replicate]; omega) | (simp; omega)) (by first | omega | (simp only [List.length_cons, List.length_nil]; omega) | (simp only [List.length_append, List.length_cons, List.length_nil]; omega) | (rw [List.length_set]; omega) | (rw [List.length_replicate]; omega) | (simp; omega))) rfl ?_
      refine rj_v rfl rfl (v_loadI (k := 0) 1 ty_3 rfl rfl rs (by first | omega | (simp only [List.length_cons, List.length_nil]; omega) | (simp only [List.length_append, List.length_cons, List.length_nil]; omega) | (rw [List.length_set]; omega) | (rw [List.length_replicate]; omega) | (simp; omega))) rfl ?_
      refine rj_v rfl rfl (v_move rfl) rfl ?_
      refine rj_v rfl rfl (v_idxI Tryz.underlying25 ty_3 rfl rfl r' (by first | omega | (simp only [List.length_cons, List.length_nil]; omega) | (simp only [List.length_append, List.length_cons, List.length_nil]; omega) | (rw [List.length_set]; omega) | (rw [List.length_replicate]; omega) | (simp; omega)) (by first | omega | (simp only [List.length_cons, List.length_nil]; omega) | (simp only [List.length_append, List.length_cons, List.length_nil]; omega) | (rw [List.length_set]; omega) | (rw [List.length_replicate]; omega) | (simp; omega))) rfl ?_
      refine rj_v rfl rfl (v_loadI (k := 0) 2 ty_3 rfl rfl r' (by first | omega | (simp only [List.length_cons, List.length_nil]; omega) | (simp only [List.length_append, List.length_cons, List.length_nil]; omega) | (rw [List.length_set]; omega) | (rw [List.length_replicate]; omega) | (simp; omega))) rfl ?_
      refine rj_v rfl rfl (v_max rfl rfl) rfl ?_
      refine rj_v rfl rfl (v_idxI Tryz.underlying25 ty_3 rfl rfl rs (by first | omega | (simp only [List.length_cons, List.length_nil]; omega) | (simp only [List.length_append, List.length_cons, List.length_nil]; omega) | (rw [List.length_set]; omega) | (rw [List.length_replicate]; omega) | (simp; omega)) (by first | omega | (simp only [List.length_cons, List.length_nil]; omega) | (simp only [List.length_append, List.length_cons, List.length_nil]; omega) | (rw [List.length_set]; omega) | (rw [List.length_replicate]; omega) | (simp; omega))) rfl ?_
      refine rj_m 1 rfl rfl rfl rfl (m_storeSub 1 ty_3 rfl rfl rfl rz (by omega) (by rw [putL_len (by omega)]; omega)) rfl ?_; rintro _ h_q9 ⟨rfl, q9⟩
      refine rj_end ?_
      refine qs_bn ?_
      exact qs_ret0 rfl (fin_m 1 (i := 2) rfl rfl rfl (hone _ _ _ q9 (by have := width_1 (k := k) (n := n) (by omega) (by omega); omega) (by simp [add1, c30]) rfl))
    · refine wp_sc ?_
      refine wp_sq ?_
      refine sq_v rfl (v_eql rfl rfl) rfl ?_
      refine sq_v rfl (v_assign rfl) rfl ?_
      refine sq_end ?_
      refine qs_n ?_
      refine wp_cd rfl (fun c42 => ?_) (fun c42 => ?_)
      · refine wp_rj 12 [(0, true), (1, true), (2, true), (3, true), (4, true), (5, true), (6, true), (7, true), (8, true), (9, true), (10, true), (11, true), (12, false)] mixed_ok (by kernel_rfl) ?_
        refine rj_v rfl rfl (v_move rfl) rfl ?_
        refine rj_v rfl rfl (v_move rfl) rfl ?_
        refine rj_v rfl rfl (v_idxI Tryz.underlying25 ty_3 rfl rfl rs (by first | omega | (simp only [List.length_cons, List.length_nil]; omega) | (simp only [List.length_append, List.length_cons, List.length_nil]; omega) | (rw [List.length_set]; omega) | (rw [List.length_replicate]; omega) | (simp; omega)) (by first | omega | (simp only [List.length_cons, List.length_nil]; omega) | (simp only [List.length_append, List.length_cons, List.length_nil]; omega) | (rw [List.length_set]; omega) | (rw [List.length_replicate]; omega) | (simp; omega))) rfl ?_
        refine rj_v rfl rfl (v_loadI (k := 0) 1 ty_3 rfl rfl rs (by first | omega | (simp only [List.length_cons, List.length_nil]; omega) | (simp only [List.length_append, List.length_cons, List.length_nil]; omega) | (rw [List.length_set]; omega) | (rw [List.length_replicate]; omega) | (simp; omega))) rfl ?_
        refine rj_v rfl rfl (v_move rfl) rfl ?_
        refine rj_v rfl rfl (v_idxI Tryz.underlying25 ty_3 rfl rfl r' (by first | omega | (simp only [List.length_cons, List.length_nil]; omega) | (simp only [List.length_append, List.length_cons, List.length_nil]; omega) | (rw [List.length_set]; omega) | (rw [List.length_replicate]; omega) | (simp; omega)) (by first | omega | (simp only [List.length_cons, List.length_nil]; omega) | (simp only [List.length_append, List.length_cons, List.length_nil]; omega) | (rw [List.length_set]; omega) | (rw [List.length_replicate]; omega) | (simp; omega))) rfl ?_
        refine rj_v rfl rfl (v_loadI (k := 0) 2 ty_3 rfl rfl r' (by first | omega | (simp only [List.length_cons, List.length_nil]; omega) | (simp only [List.length_append, List.length_cons, List.length_nil]; omega) | (rw [List.length_set]; omega) | (rw [List.length_replicate]; omega) | (simp; omega))) rfl ?_
        refine rj_v rfl rfl (v_add rfl rfl ((by unfold I64; omega))) rfl ?_
        refine rj_v rfl rfl (v_fieldAddr fd_31_1 ty_3 (by decide) rfl) rfl ?_
        refine rj_v rfl rfl (v_loadB 0 ty_3 rfl rfl rfl) rfl ?_
        refine rj_v rfl rfl (v_min rfl rfl) rfl ?_
        refine rj_v rfl rfl (v_idxI Tryz.underlying25 ty_3 rfl rfl rs (by first | omega | (simp only [List.length_cons, List.length_nil]; omega) | (simp only [List.length_append, List.length_cons, List.length_nil]; omega) | (rw [List.length_set]; omega) | (rw [List.length_replicate]; omega) | (simp; omega)) (by first | omega | (simp only [List.length_cons, List.length_nil]; omega) | (simp only [List.length_append, List.length_cons, List.length_nil]; omega) | (rw [List.length_set]; omega) | (rw [List.length_replicate]; omega) | (simp; omega))) rfl ?_
        refine rj_m 1 rfl rfl rfl rfl (m_storeSub 1 ty_3 rfl rfl rfl rz (by omega) (by rw [putL_len (by omega)]; omega)) rfl ?_; rintro _ h_q11 ⟨rfl, q11⟩
        refine rj_end ?_
        refine qs_bn ?_
        exact qs_ret0 rfl (fin_m 1 (i := 2) rfl rfl rfl (hone _ _ _ q11 (by have := width_1 (k := k) (n := n) (by omega) (by omega); omega) (by simp [add1, c42]) rfl))
      · refine wp_sc ?_
        refine wp_sq ?_
        refine sq_v rfl (v_eql rfl rfl) rfl ?_
        refine sq_v rfl (v_assign rfl) rfl ?_
        refine sq_end ?_
        refine qs_n ?_
        refine wp_cd rfl (fun c56 => ?_) (fun c56 => ?_)
        · refine wp_rj 9 [(0, true), (1, true), (2, true), (3, true), (4, true), (5, true), (6, true), (7, true), (8, true), (9, false)] mixed_ok (by kernel_rfl) ?_
          refine rj_v rfl rfl (v_move rfl) rfl ?_
          refine rj_v rfl rfl (v_move rfl) rfl ?_
          refine rj_v rfl rfl (v_idxI Tryz.underlying25 ty_3 rfl rfl rs (by first | omega | (simp only [List.length_cons, List.length_nil]; omega) | (simp only [List.length_append, List.length_cons, List.length_nil]; omega) | (rw [List.length_set]; omega) | (rw [List.length_replicate]; omega) | (simp; omega)) (by first | omega | (simp only [List.length_cons, List.length_nil]; omega) | (simp only [List.length_append, List.length_cons, List.length_nil]; omega) | (rw [List.length_set]; omega) | (rw [List.length_replicate]; omega) | (simp; omega))) rfl ?_
          refine rj_v rfl rfl (v_loadI (k := 0) 1 ty_3 rfl rfl rs (by first | omega | (simp only [List.length_cons, List.length_nil]; omega) | (simp only [List.length_append, List.length_cons, List.length_nil]; omega) | (rw [List.length_set]; omega) | (rw [List.length_replicate]; omega) | (simp; omega))) rfl ?_
          refine rj_v rfl rfl (v_move rfl) rfl ?_
          refine rj_v rfl rfl (v_idxI Tryz.underlying25 ty_3 rfl rfl r' (by first | omega | (simp only [List.length_cons, List.length_nil]; omega) | (simp only [List.length_append, List.length_cons, List.length_nil]; omega) | (rw [List.length_set]; omega) | (rw [List.length_replicate]; omega) | (simp; omega)) (by first | omega | (simp only [List.length_cons, List.length_nil]; omega) | (simp only [List.length_append, List.length_cons, List.length_nil]; omega) | (rw [List.length_set]; omega) | (rw [List.length_replicate]; omega) | (simp; omega))) rfl ?_
          refine rj_v rfl rfl (v_loadI (k := 0) 2 ty_3 rfl rfl r' (by first | omega | (simp only [List.length_cons, List.length_nil]; omega) | (simp only [List.length_append, List.length_cons, List.length_nil]; omega) | (rw [List.length_set]; omega) | (rw [List.length_replicate]; omega) | (simp; omega))) rfl ?_
          refine rj_v rfl rfl (v_min rfl rfl) rfl ?_
          refine rj_v rfl rfl (v_idxI Tryz.underlying25 ty_3 rfl rfl rs (by first | omega | (simp only [List.length_cons, List.length_nil]; omega) | (simp only [List.length_append, List.length_cons, List.length_nil]; omega) | (rw [List.length_set]; omega) | (rw [List.length_replicate]; omega) | (simp; omega)) (by first | omega | (simp only [List.length_cons, List.length_nil]; omega) | (simp only [List.length_append, List.length_cons, List.length_nil]; omega) | (rw [List.length_set]; omega) | (rw [List.length_replicate]; omega) | (simp; omega))) rfl ?_
          refine rj_m 1 rfl rfl rfl rfl (m_storeSub 1 ty_3 rfl rfl rfl rz (by omega) (by rw [putL_len (by omega)]; omega)) rfl ?_; rintro _ h_q13 ⟨rfl, q13⟩
          refine rj_end ?_
          refine qs_bn ?_
          exact qs_ret0 rfl (fin_m 1 (i := 2) rfl rfl rfl (hone _ _ _ q13 (by have := width_1 (k := k) (n := n) (by omega) (by omega); omega) (by simp [add1, c56]) rfl))
        · refine wp_sc ?_
          refine wp_sq ?_
          refine sq_v rfl (v_eql rfl rfl) rfl ?_
          refine sq_v rfl (v_assign rfl) rfl ?_
          refine sq_end ?_
          refine qs_n ?_
          refine wp_cd rfl (fun c67 => ?_) (fun c67 => ?_)
          · refine wp_rj 8 [(0, true), (1, true), (2, true), (3, true), (4, true), (5, true), (6, true), (7, true), (8, false)] mixed_ok (by kernel_rfl) ?_
            refine rj_v rfl rfl (v_move rfl) rfl ?_
            refine rj_v rfl rfl (v_idxI Tryz.underlying25 ty_3 rfl rfl rs (by first | omega | (simp only [List.length_cons, List.length_nil]; omega) | (simp only [List.length_append, List.length_cons, List.length_nil]; omega) | (rw [List.length_set]; omega) | (rw [List.length_replicate]; omega) | (simp; omega)) (by first | omega | (simp only [List.length_cons, List.length_nil]; omega) | (simp only [List.length_append, List.length_cons, List.length_nil]; omega) | (rw [List.length_set]; omega) | (rw [List.length_replicate]; omega) | (simp; omega))) rfl ?_
            refine rj_v rfl rfl (v_loadI (k := 0) 1 ty_3 rfl rfl rs (by first | omega | (simp only [List.length_cons, List.length_nil]; omega) | (simp only [List.length_append, List.length_cons, List.length_nil]; omega) | (rw [List.length_set]; omega) | (rw [List.length_replicate]; omega) | (simp; omega))) rfl ?_
            refine rj_v rfl rfl (v_move rfl) rfl ?_
            refine rj_v rfl rfl (v_idxI Tryz.underlying25 ty_3 rfl rfl r' (by first | omega | (simp only [List.length_cons, List.length_nil]; omega) | (simp only [List.length_append, List.length_cons, List.length_nil]; omega) | (rw [List.length_set]; omega) | (rw [List.length_replicate]; omega) | (simp; omega)) (by first | omega | (simp only [List.length_cons, List.length_nil]; omega) | (simp only [List.length_append, List.length_cons, List.length_nil]; omega) | (rw [List.length_set]; omega) | (rw [List.length_replicate]; omega) | (simp; omega))) rfl ?_
            refine rj_v rfl rfl (v_loadI (k := 0) 2 ty_3 rfl rfl r' (by first | omega | (simp only [List.length_cons, List.length_nil]; omega) | (simp only [List.length_append, List.length_cons, List.length_nil]; omega) | (rw [List.length_set]; omega) | (rw [List.length_replicate]; omega) | (simp; omega))) rfl ?_
            refine rj_v rfl rfl (v_or rfl rfl ⟨by omega, by omega⟩ ⟨by omega, by omega⟩) rfl ?_
            refine rj_v rfl rfl (v_idxI Tryz.underlying25 ty_3 rfl rfl rs (by first | omega | (simp only [List.length_cons, List.length_nil]; omega) | (simp only [List.length_append, List.length_cons, List.length_nil]; omega) | (rw [List.length_set]; omega) | (rw [List.length_replicate]; omega) | (simp; omega)) (by first | omega | (simp only [List.length_cons, List.length_nil]; omega) | (simp only [List.length_append, List.length_cons, List.length_nil]; omega) | (rw [List.length_set]; omega) | (rw [List.length_replicate]; omega) | (simp; omega))) rfl ?_
            refine rj_m 1 rfl rfl rfl rfl (m_storeSub 1 ty_3 rfl rfl rfl rz (by omega) (by rw [putL_len (by omega)]; omega)) rfl ?_; rintro _ h_q15 ⟨rfl, q15⟩
            refine rj_end ?_
            refine qs_bn ?_
            exact qs_ret0 rfl (fin_m 1 (i := 2) rfl rfl rfl (hone _ _ _ q15 (by have := width_1 (k := k) (n := n) (by omega) (by omega); omega) (by simp [add1, c67]) rfl))
          · refine wp_sc ?_
            refine wp_sq ?_
            refine sq_v rfl (v_move rfl) rfl ?_
            refine sq_v rfl (v_len Tryz.underlying25 rfl rs.sl) rfl ?_
            refine sq_v rfl (v_move rfl) rfl ?_
            refine sq_end ?_
            refine qs_n ?_
            refine wp_bl ?_
            refine wp_lp (σ := Nat × PH) (fun z_ => [(1, subV sv lo hi 1), (2, u), (3, .pointer (some ⟨b3, 0, none⟩)), (10, num x.length), (11, num z_.1)]) (fun z_ => [box b3 [num k, num p, num n] 31, z_.2, (restP w h)]) (fun z_ => z_.1 ≤ x.length ∧ IntsO (putL xs lo (addTo k p x y x z_.1)) sv z_.2) (fun z_ => x.length - z_.1) (0, h) (⟨by (try dsimp only); omega, by (try dsimp only); simpa [addTo] using rz⟩) ⟨rfl, rfl, rfl, rfl, (by first | rfl | exact ksub rfl (by first | omega | (simp; done) | (simp; omega))), trivial⟩ (fun _ s => s) ?_
            rintro ⟨i, g⟩ ⟨hi', q⟩
            dsimp only at hi' q ⊢
            have hle_q := q.toR.le
            have hl := addTo_len (k := k) (p := p) (y := y) (o := x) hi' rfl
            have hst : i < x.length → _ := fun h => addTo_step (k := k) (p := p) (y := y) (o := x) h rfl
            have rs' := q.win (hi := hi) (by omega) (by omega)
            have hgi := addTo_get (k := k) (p := p) (x := x) (y := y) (o := x) (Nat.le_refl i) hi'
            refine wp_sc ?_
            refine wp_sq ?_
            refine sq_v rfl (v_lss rfl rfl) rfl ?_
            refine sq_end ?_
            refine qs_n ?_
            refine wp_sc ?_
            refine wp_cd rfl (fun c12 => ?_) (fun c12 => ?_)
            · refine wp_sk ?_
              refine qs_n ?_
              refine wp_sc ?_
              refine wp_bl ?_
              refine wp_sc ?_
              refine wp_sq ?_
              refine sq_v rfl (v_move rfl) rfl ?_
              refine sq_v rfl (v_assign rfl) rfl ?_
              refine sq_end ?_
              have hxi := hx.at hr i (by omega)
              have hyi := hy.at hr i (by omega)
              refine qs_n ?_
              refine wp_rj 15 [(0, true), (1, true), (2, true), (3, true), (4, true), (5, true), (6, true), (7, true), (8, true), (9, true), (10, true), (11, true), (12, true), (13, true), (14, true), (15, false)] mixed_ok (by kernel_rfl) ?_
              refine rj_v rfl rfl (v_move rfl) rfl ?_
              refine rj_v rfl rfl (v_move rfl) rfl ?_
              refine rj_v rfl rfl (v_move rfl) rfl ?_
              refine rj_v rfl rfl (v_move rfl) rfl ?_
              refine rj_v rfl rfl (v_idxI Tryz.underlying25 ty_3 rfl rfl rs' (by first | omega | (simp only [List.length_cons, List.length_nil]; omega) | (simp only [List.length_append, List.length_cons, List.length_nil]; omega) | (rw [List.length_set]; omega) | (rw [List.length_replicate]; omega) | (simp; omega)) (by first | omega | (simp only [List.length_cons, List.length_nil]; omega) | (simp only [List.length_append, List.length_cons, List.length_nil]; omega) | (rw [List.length_set]; omega) | (rw [List.length_replicate]; omega) | (simp; omega))) rfl ?_
              refine rj_v rfl rfl (v_loadI (k := i) 1 ty_3 rfl rfl rs' (by first | omega | (simp only [List.length_cons, List.length_nil]; omega) | (simp only [List.length_append, List.length_cons, List.length_nil]; omega) | (rw [List.length_set]; omega) | (rw [List.length_replicate]; omega) | (simp; omega))) rfl ?_
              refine rj_v rfl rfl (v_move rfl) rfl ?_
              refine rj_v rfl rfl (v_move rfl) rfl ?_
              refine rj_v rfl rfl (v_idxI Tryz.underlying25 ty_3 rfl rfl r' (by first | omega | (simp only [List.length_cons, List.length_nil]; omega) | (simp only [List.length_append, List.length_cons, List.length_nil]; omega) | (rw [List.length_set]; omega) | (rw [List.length_replicate]; omega) | (simp; omega)) (by first | omega | (simp only [List.length_cons, List.length_nil]; omega) | (simp only [List.length_append, List.length_cons, List.length_nil]; omega) | (rw [List.length_set]; omega) | (rw [List.length_replicate]; omega) | (simp; omega))) rfl ?_
              refine rj_v rfl rfl (v_loadI (k := i) 2 ty_3 rfl rfl r' (by first | omega | (simp only [List.length_cons, List.length_nil]; omega) | (simp only [List.length_append, List.length_cons, List.length_nil]; omega) | (rw [List.length_set]; omega) | (rw [List.length_replicate]; omega) | (simp; omega))) rfl ?_
              refine rj_v rfl rfl (v_add rfl rfl ((by unfold I64; omega))) rfl ?_
              refine rj_v rfl rfl (v_fieldAddr fd_31_1 ty_3 (by decide) rfl) rfl ?_
              refine rj_v rfl rfl (v_loadB 0 ty_3 rfl rfl rfl) rfl ?_
              refine rj_v rfl rfl (v_rem rfl rfl (by have := top_poly hr (kind_rest' hr (by omega) (by omega) (by omega) (by omega) (by omega)); omega)) rfl ?_
              refine rj_v rfl rfl (v_idxI Tryz.underlying25 ty_3 rfl rfl rs' (by first | omega | (simp only [List.length_cons, List.length_nil]; omega) | (simp only [List.length_append, List.length_cons, List.length_nil]; omega) | (rw [List.length_set]; omega) | (rw [List.length_replicate]; omega) | (simp; omega)) (by first | omega | (simp only [List.length_cons, List.length_nil]; omega) | (simp only [List.length_append, List.length_cons, List.length_nil]; omega) | (rw [List.length_set]; omega) | (rw [List.length_replicate]; omega) | (simp; omega))) rfl ?_
              refine rj_m 1 rfl rfl rfl rfl (m_storeSub 1 ty_3 rfl rfl rfl q (by omega) (by rw [putL_len (by omega)]; omega)) rfl ?_; rintro _ h_q5 ⟨rfl, q5⟩
              refine rj_end ?_
              refine qs_bn ?_
              refine qs_n ?_
              refine wp_sq ?_
              refine sq_v rfl (v_add rfl rfl ((by unfold I64; omega))) rfl ?_
              refine sq_v rfl (v_move rfl) rfl ?_
              refine sq_end ?_
              exact qs_bk (i + 1, h_q5) ⟨by (try dsimp only); omega, by (try dsimp only); rw [← hst (by omega), ← putL_set (by omega) (by omega), add1, if_neg (by omega), if_neg (by omega), if_neg (by omega), if_neg (by omega)]; rw [hgi] at q5; exact q5⟩ (by simp only; omega) ⟨rfl, rfl, rfl, rfl, (by first | rfl | exact ksub rfl (by first | omega | (simp; done) | (simp; omega))), trivial⟩ (fun _ s => s)
            · refine wp_ex ?_
              refine qs_x ?_
              refine qs_x ?_
              refine qs_bx ?_
              refine qs_bn ?_
              exact qs_ret0 rfl (fin_m 1 (i := 2) rfl rfl rfl (by rw [addTo, List.drop_of_length_le (by omega), List.append_nil, List.take_of_length_le (by rw [addL_len]; omega)] at q; exact q))
end Go.Proofs.YtehjljijionhaaaGreat
