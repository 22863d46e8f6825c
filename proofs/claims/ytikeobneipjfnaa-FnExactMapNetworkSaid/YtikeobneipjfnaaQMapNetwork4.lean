/-
  Parts of the proof of FnExactMapNetwork: laws of heaps, contracts of functions.
  Conditions: none.
-/
import Derived.Test.YtikeobneipjfnaaQMapNetwork3
namespace Go.Proofs.Ytikeobneipjfnaa
set_option maxRecDepth 100000
open Go.RowKit
abbrev homV (h a : Int) : Value := .agg [num h, num a].toArray
section
variable {P : Program} {n : Nat} {w0 : World} {K : Env} {HS : List PH} {d : Option Tmp} {ty : TypeId} {ps : String} {af : Array Edge} {g : Option (Nat × Bool)}
theorem v_eqlG {t t' : TypeId} {x y : Operand} {xs ys : Array Value} {b : Bool} (hm : P.eqGuardType P.depth t = false) (he : ∀ w, (Op.equalIn 10000 t (.agg xs) (.agg ys)).run P w = .ok b w) (hx : ev K x = some (.agg xs)) (hy : ev K y = some (.agg ys)) : StepV P n w0 K HS ⟨d, .binOp .eql t x y t', ty, ps, af, g⟩ (.bool b) :=
  fun ac w e _ => by
    simp only [execOp, e.ev hx, e.ev hy, Sem.run_bind, run_eqGuard_agg (hm := hm), run_eql_struct, he, Sem.run_pure, Result.andThen_ok]
end
theorem part_int {cs : Array Value} {o : Nat} {v : Value} {w : World} (h : cs[o]? = some v) : (part 3 cs o).run Try.prog w = .ok v w := by
  simp [part, isAgg, run_underlying Try.underlying3, h]
theorem eq_int (a b : Int) (w : World) : (Op.equalIn 9999 3 (num a) (num b)).run Try.prog w = .ok (a == b) w := run_equalIn_int w 9998 3 .i64 _ a b Try.underlying3
theorem ring_eq (a b c a' b' c' : Int) (w : World) : (Op.equalIn 10000 30 (ringV a b c) (ringV a' b' c')).run Try.prog w = .ok (decide (a = a' ∧ b = b' ∧ c = c')) w := by
  have e := run_equalIn_struct (P := Try.prog) w 9999 30 [num a, num b, num c].toArray [num a', num b', num c'].toArray (by kernel_rfl) (by kernel_rfl)
  refine e.trans ?_
  have hf : (Try.prog.fieldsOf 30).toList = [{ name := "Kind", type := 3, offset := 0, embedded := false, tag := "", pkgPath := "", byteOffset := 0 }, { name := "P", type := 3, offset := 1, embedded := false, tag := "", pkgPath := "", byteOffset := 8 }, { name := "N", type := 3, offset := 2, embedded := false, tag := "", pkgPath := "", byteOffset := 16 }] := by rw [Program.fieldsOf, Try.underlying30]
  rw [hf]
  have p0 : ∀ (x y z : Int) (w : World), (part 3 [num x, num y, num z].toArray 0).run Try.prog w = .ok (num x) w := fun _ _ _ _ => part_int rfl
  have p1 : ∀ (x y z : Int) (w : World), (part 3 [num x, num y, num z].toArray 1).run Try.prog w = .ok (num y) w := fun _ _ _ _ => part_int rfl
  have p2 : ∀ (x y z : Int) (w : World), (part 3 [num x, num y, num z].toArray 2).run Try.prog w = .ok (num z) w := fun _ _ _ _ => part_int rfl
  simp only [Op.eqFields, ne_eq, Sem.run_bind, Sem.run_ite, p0, p1, p2, eq_int, Result.andThen_ok, Sem.run_pure]
  by_cases h0 : a = a'
  · by_cases h1 : b = b'
    · by_cases h2 : c = c'
      · simp [h0, h1, h2]
      · simp [h0, h1, h2]
    · simp [h0, h1]
  · simp [h0]
def rootP (p a : Int) : Prop := (1 ≤ a ∧ a ≤ p - 1) ∧ ((a * a).tmod p * (a * a).tmod p).tmod p = p - 1
open Classical in
noncomputable def rootB (p a : Int) : Bool := decide (rootP p a)
theorem rootB_true {p a : Int} : rootB p a = true ↔ rootP p a := by simp [rootB]
theorem rootB_of {p a : Int} {b : Bool} (h : b = true ↔ rootP p a) : Value.bool b = .bool (rootB p a) := by
  congr 1
  rw [Bool.eq_iff_iff, rootB_true, h]
theorem ring_two {k p n : Int} (h : ringL k p n) (hk : k = 2 ∨ k = 7 ∨ k = 8) : 2 ≤ p ∧ p ≤ 1000003 := (top_poly h hk).2
theorem ring_zero {k p n : Int} (h : ringL k p n) : k = 6 → p = 0 := fun hk => by
  subst hk
  rcases h with h | h | h | h | h | h
  · omega
  · omega
  · omega
  · omega
  · have := h.1; omega
  · have := h.1; omega
theorem sq_in {p a : Int} (hp : 2 ≤ p ∧ p ≤ 1000003) (ha : 0 ≤ a ∧ a ≤ p - 1) : (0 ≤ a * a ∧ a * a ≤ 1099511627776) ∧ (0 ≤ (a * a).tmod p ∧ (a * a).tmod p ≤ p - 1) := by
  have h1 := mul_in6 ha ha (by omega) (by omega)
  exact ⟨h1, tmod_in h1.1 (by omega)⟩
theorem root_eq {p a : Int} (hp : 2 ≤ p ∧ p ≤ 1000003) (ha : 0 ≤ a ∧ a ≤ p - 1) : ((((a * a).tmod p * a).tmod p) * a).tmod p = ((a * a).tmod p * (a * a).tmod p).tmod p := by
  have h1 := sq_in hp ha
  have h2 := mul_in6 h1.2 ha (by omega) (by omega)
  have h3 := tmod_in h2.1 (p := p) (by omega)
  have h4 := mul_in6 h3 ha (by omega) (by omega)
  have h5 := mul_in6 h1.2 h1.2 (by omega) (by omega)
  rw [Int.tmod_eq_emod_of_nonneg h4.1, Int.tmod_eq_emod_of_nonneg h5.1, Int.tmod_eq_emod_of_nonneg h2.1, Int.tmod_eq_emod_of_nonneg h1.1.1]
  rw [Int.mul_emod ((a * a % p * a) % p) a p, Int.emod_emod, ← Int.mul_emod, Int.mul_assoc, Int.mul_emod (a * a % p) (a * a) p, Int.emod_emod]
def cutP (k p n k' p' n' : Int) : Prop := k = k' ∧ (((k = 3 ∨ k = 4 ∨ k = 5) ∧ p' ≤ p) ∨ (k = 7 ∧ p' = p ∧ n' ≤ n) ∨ (k = 6 ∧ n' ≤ n))
def homD (k p n k' p' n' h a : Int) : Prop := (h = 1 ∧ (k = k' ∧ p = p' ∧ n = n') ∧ a = 0) ∨ (h = 2 ∧ (k = 3 ∨ k = 4) ∧ k' = 1 ∧ a = 0) ∨ (h = 3 ∧ k = 6 ∧ k' = 1 ∧ 0 ≤ a ∧ a < n) ∨ (h = 4 ∧ k = 5 ∧ k' = 1 ∧ 1 ≤ a ∧ a ≤ p) ∨ (h = 5 ∧ k = 7 ∧ k' = 2 ∧ p = p' ∧ a = 0) ∨ (h = 6 ∧ k = 8 ∧ k' = 2 ∧ p = p' ∧ rootP p a) ∨ (h = 7 ∧ a = 0 ∧ cutP k p n k' p' n') ∨ (h = 8 ∧ k = 1 ∧ a = 0 ∧ (k' = 4 ∨ k' = 5 ∨ k' = 6))
def homL (k p n k' p' n' h a : Int) : Prop := ringL k p n ∧ ringL k' p' n' ∧ homD k p n k' p' n' h a
open Classical in
noncomputable def homB (k p n k' p' n' h a : Int) : Bool := decide (homL k p n k' p' n' h a)
theorem homB_true {k p n k' p' n' h a : Int} : homB k p n k' p' n' h a = true ↔ homL k p n k' p' n' h a := by simp [homB]
theorem homB_false {k p n k' p' n' h a : Int} : homB k p n k' p' n' h a = false ↔ ¬ homL k p n k' p' n' h a := by simp [homB]
theorem homB_no {k p n k' p' n' h a : Int} (h1 : ¬ homL k p n k' p' n' h a) : Value.bool false = .bool (homB k p n k' p' n' h a) := by simp [homB, h1]
theorem homB_of {k p n k' p' n' h a : Int} {b : Bool} (h1 : ringL k p n) (h2 : ringL k' p' n') (hd : b = true ↔ homD k p n k' p' n' h a) : Value.bool b = .bool (homB k p n k' p' n' h a) := by
  congr 1
  rw [Bool.eq_iff_iff, homB_true, homL, hd]
  exact ⟨fun h => ⟨h1, h2, h⟩, fun h => h.2.2⟩
theorem ct_i_rootOk (p a : Int) (w : World) (hp : 2 ≤ p ∧ p ≤ 1000003) : Calls Try.prog 186 [num p, num a].toArray w (RetV w (.bool (rootB p a))) := by
  refine calls_in Try.func186 rfl Try.ntmps186 rfl (Sat.start w) ?_
  refine wp_sc ?_
  refine wp_sq ?_
  refine sq_v rfl (v_assign rfl) rfl ?_
  refine sq_end ?_
  refine qs_n ?_
  refine wp_sc ?_
  refine wp_sc ?_
  refine wp_sq ?_
  refine sq_v rfl (v_move rfl) rfl ?_
  refine sq_v rfl (v_lss rfl rfl) rfl ?_
  refine sq_bd 7 rfl (fun c7 => ?_) (fun c7 => ?_)
  · refine sq_v rfl (v_move rfl) rfl ?_
    refine sq_s rfl rfl ?_
    refine sq_s rfl rfl ?_
    refine sq_s rfl rfl ?_
    refine sq_s rfl rfl ?_
    refine sq_v rfl (v_pickt rfl rfl) rfl ?_
    refine sq_end ?_
    refine qs_n ?_
    refine wp_ct rfl ?_
    refine wp_sc ?_
    refine wp_sq ?_
    refine sq_v rfl (v_assign rfl) rfl ?_
    refine sq_end ?_
    refine qs_n ?_
    refine wp_rt ?_
    refine qs_r ?_
    exact qs_ret1 rfl rfl (fin_q (i := 0) rfl (rootB_of (by simp only [Bool.false_eq_true, false_iff]; exact fun h => by have := h.1; omega)))
  · refine sq_v rfl (v_move rfl) rfl ?_
    refine sq_v rfl (v_move rfl) rfl ?_
    refine sq_v rfl (v_move rfl) rfl ?_
    refine sq_v rfl (v_sub rfl rfl ((by unfold I64; omega))) rfl ?_
    refine sq_v rfl (v_gtr rfl rfl) rfl ?_
    refine sq_v rfl (v_pickf rfl rfl) rfl ?_
    refine sq_end ?_
    refine qs_n ?_
    refine wp_cd rfl (fun c13 => ?_) (fun c13 => ?_)
    · refine wp_sc ?_
      refine wp_sq ?_
      refine sq_v rfl (v_assign rfl) rfl ?_
      refine sq_end ?_
      refine qs_n ?_
      refine wp_rt ?_
      refine qs_r ?_
      exact qs_ret1 rfl rfl (fin_q (i := 0) rfl (rootB_of (by simp only [Bool.false_eq_true, false_iff]; exact fun h => by have := h.1; omega)))
    · refine wp_sk ?_
      refine qs_n ?_
      refine wp_sc ?_
      refine wp_sq ?_
      refine sq_v rfl (v_move rfl) rfl ?_
      refine sq_v rfl (v_move rfl) rfl ?_
      have hs := sq_in hp (a := a) (by omega); have hs2 := sq_in hp hs.2
      refine sq_v rfl (v_mul rfl rfl ((by unfold I64; omega))) rfl ?_
      refine sq_v rfl (v_move rfl) rfl ?_
      refine sq_v rfl (v_rem rfl rfl (by omega)) rfl ?_
      refine sq_v rfl (v_assign rfl) rfl ?_
      refine sq_end ?_
      refine qs_n ?_
      refine wp_sc ?_
      refine wp_sq ?_
      refine sq_v rfl (v_move rfl) rfl ?_
      refine sq_v rfl (v_move rfl) rfl ?_
      refine sq_v rfl (v_mul rfl rfl ((by unfold I64; omega))) rfl ?_
      refine sq_v rfl (v_move rfl) rfl ?_
      refine sq_v rfl (v_rem rfl rfl (by omega)) rfl ?_
      refine sq_v rfl (v_move rfl) rfl ?_
      refine sq_v rfl (v_sub rfl rfl ((by unfold I64; omega))) rfl ?_
      refine sq_v rfl (v_eql rfl rfl) rfl ?_
      refine sq_v rfl (v_assign rfl) rfl ?_
      refine sq_end ?_
      refine qs_n ?_
      refine wp_rt ?_
      exact qs_ret1 rfl rfl (fin_q (i := 0) rfl (rootB_of (by rw [decide_eq_true_iff]; exact ⟨fun h => ⟨by omega, h⟩, fun h => h.2⟩)))
open Classical in
noncomputable def cutB (k p n k' p' n' : Int) : Bool := decide (cutP k p n k' p' n')
theorem cutB_true {k p n k' p' n' : Int} : cutB k p n k' p' n' = true ↔ cutP k p n k' p' n' := by simp [cutB]
theorem cutB_of {k p n k' p' n' : Int} {b : Bool} (h : b = true ↔ cutP k p n k' p' n') : Value.bool b = .bool (cutB k p n k' p' n') := by
  congr 1
  rw [Bool.eq_iff_iff, cutB_true, h]
theorem ct_i_cutOk (k p n k' p' n' : Int) (w : World) : Calls Try.prog 187 [ringV k p n, ringV k' p' n'].toArray w (RetV w (.bool (cutB k p n k' p' n'))) := by
  refine calls_in Try.func187 rfl Try.ntmps187 rfl (Sat.start w) ?_
  refine wp_sc ?_
  refine wp_sq ?_
  refine sq_x rfl (x_box rfl rfl) rfl ?_; rintro _ _ ⟨b2, rfl, rfl⟩
  refine sq_x rfl (x_box rfl rfl) rfl ?_; rintro _ _ ⟨b3, rfl, rfl⟩
  refine sq_v rfl (v_assign rfl) rfl ?_
  refine sq_end ?_
  refine qs_n ?_
  refine wp_sc ?_
  refine wp_sc ?_
  refine wp_sq ?_
  refine sq_v rfl (v_fieldAddr fd_30_0 ty_3 (by decide) rfl) rfl ?_
  refine sq_v rfl (v_loadB 1 ty_3 rfl rfl rfl) rfl ?_
  refine sq_v rfl (v_fieldAddr fd_30_0 ty_3 (by decide) rfl) rfl ?_
  refine sq_v rfl (v_loadB 0 ty_3 rfl rfl rfl) rfl ?_
  refine sq_v rfl (v_neq rfl rfl) rfl ?_
  refine sq_end ?_
  refine qs_n ?_
  refine wp_cd rfl (fun c9 => ?_) (fun c9 => ?_)
  · refine wp_sc ?_
    refine wp_sq ?_
    refine sq_v rfl (v_assign rfl) rfl ?_
    refine sq_end ?_
    refine qs_n ?_
    refine wp_rt ?_
    refine qs_r ?_
    exact qs_ret1 rfl rfl (fin_q (i := 2) rfl (cutB_of (by simp only [cutP, decide_eq_true_eq, Bool.false_eq_true, false_iff]; omega)))
  · refine wp_sk ?_
    refine qs_n ?_
    refine wp_sc ?_
    refine wp_sc ?_
    refine wp_sq ?_
    refine sq_v rfl (v_fieldAddr fd_30_0 ty_3 (by decide) rfl) rfl ?_
    refine sq_v rfl (v_loadB 1 ty_3 rfl rfl rfl) rfl ?_
    refine sq_end ?_
    refine qs_n ?_
    refine wp_bl ?_
    refine wp_sc ?_
    refine wp_sc ?_
    refine wp_sq ?_
    refine sq_v rfl (v_eql rfl rfl) rfl ?_
    refine sq_v rfl (v_assign rfl) rfl ?_
    refine sq_end ?_
    refine qs_n ?_
    refine wp_cSd rfl (fun c12 => ?_) (fun c12 => ?_)
    · refine wp_sk ?_
      refine qs_n ?_
      refine wp_ct rfl ?_
      refine wp_sc ?_
      refine wp_sq ?_
      refine sq_v rfl (v_fieldAddr fd_30_1 ty_3 (by decide) rfl) rfl ?_
      refine sq_v rfl (v_loadB 0 ty_3 rfl rfl rfl) rfl ?_
      refine sq_v rfl (v_fieldAddr fd_30_1 ty_3 (by decide) rfl) rfl ?_
      refine sq_v rfl (v_loadB 1 ty_3 rfl rfl rfl) rfl ?_
      refine sq_v rfl (v_leq rfl rfl) rfl ?_
      refine sq_v rfl (v_assign rfl) rfl ?_
      refine sq_end ?_
      refine qs_n ?_
      refine wp_rt ?_
      refine qs_br ?_
      refine qs_r ?_
      exact qs_ret1 rfl rfl (fin_q (i := 2) rfl (cutB_of (by simp only [cutP, decide_eq_true_eq, Bool.false_eq_true, false_iff]; omega)))
    · refine wp_sc ?_
      refine wp_sq ?_
      refine sq_v rfl (v_eql rfl rfl) rfl ?_
      refine sq_v rfl (v_assign rfl) rfl ?_
      refine sq_end ?_
      refine qs_n ?_
      refine wp_cSd rfl (fun c12 => ?_) (fun c12 => ?_)
      · refine wp_sk ?_
        refine qs_n ?_
        refine wp_ct rfl ?_
        refine wp_sc ?_
        refine wp_sq ?_
        refine sq_v rfl (v_fieldAddr fd_30_1 ty_3 (by decide) rfl) rfl ?_
        refine sq_v rfl (v_loadB 0 ty_3 rfl rfl rfl) rfl ?_
        refine sq_v rfl (v_fieldAddr fd_30_1 ty_3 (by decide) rfl) rfl ?_
        refine sq_v rfl (v_loadB 1 ty_3 rfl rfl rfl) rfl ?_
        refine sq_v rfl (v_leq rfl rfl) rfl ?_
        refine sq_v rfl (v_assign rfl) rfl ?_
        refine sq_end ?_
        refine qs_n ?_
        refine wp_rt ?_
        refine qs_br ?_
        refine qs_r ?_
        exact qs_ret1 rfl rfl (fin_q (i := 2) rfl (cutB_of (by simp only [cutP, decide_eq_true_eq, Bool.false_eq_true, false_iff]; omega)))
      · refine wp_sq ?_
        refine sq_v rfl (v_eql rfl rfl) rfl ?_
        refine sq_v rfl (v_assign rfl) rfl ?_
        refine sq_end ?_
        refine qs_n ?_
        refine wp_cSd rfl (fun c12 => ?_) (fun c12 => ?_)
        · refine wp_sc ?_
          refine wp_sq ?_
          refine sq_v rfl (v_fieldAddr fd_30_1 ty_3 (by decide) rfl) rfl ?_
          refine sq_v rfl (v_loadB 0 ty_3 rfl rfl rfl) rfl ?_
          refine sq_v rfl (v_fieldAddr fd_30_1 ty_3 (by decide) rfl) rfl ?_
          refine sq_v rfl (v_loadB 1 ty_3 rfl rfl rfl) rfl ?_
          refine sq_v rfl (v_leq rfl rfl) rfl ?_
          refine sq_v rfl (v_assign rfl) rfl ?_
          refine sq_end ?_
          refine qs_n ?_
          refine wp_rt ?_
          refine qs_br ?_
          refine qs_r ?_
          exact qs_ret1 rfl rfl (fin_q (i := 2) rfl (cutB_of (by simp only [cutP, decide_eq_true_eq, Bool.false_eq_true, false_iff]; omega)))
        · refine wp_sc ?_
          refine wp_sq ?_
          refine sq_v rfl (v_eql rfl rfl) rfl ?_
          refine sq_v rfl (v_assign rfl) rfl ?_
          refine sq_end ?_
          refine qs_n ?_
          refine wp_cd rfl (fun c21 => ?_) (fun c21 => ?_)
          · refine wp_sc ?_
            refine wp_sq ?_
            refine sq_v rfl (v_fieldAddr fd_30_1 ty_3 (by decide) rfl) rfl ?_
            refine sq_v rfl (v_loadB 0 ty_3 rfl rfl rfl) rfl ?_
            refine sq_v rfl (v_fieldAddr fd_30_1 ty_3 (by decide) rfl) rfl ?_
            refine sq_v rfl (v_loadB 1 ty_3 rfl rfl rfl) rfl ?_
            refine sq_v rfl (v_eql rfl rfl) rfl ?_
            refine sq_bd 27 rfl (fun c27 => ?_) (fun c27 => ?_)
            · refine sq_v rfl (v_move rfl) rfl ?_
              refine sq_v rfl (v_fieldAddr fd_30_2 ty_3 (by decide) rfl) rfl ?_
              refine sq_v rfl (v_loadB 0 ty_3 rfl rfl rfl) rfl ?_
              refine sq_v rfl (v_fieldAddr fd_30_2 ty_3 (by decide) rfl) rfl ?_
              refine sq_v rfl (v_loadB 1 ty_3 rfl rfl rfl) rfl ?_
              refine sq_v rfl (v_leq rfl rfl) rfl ?_
              refine sq_v rfl (v_pickt rfl rfl) rfl ?_
              refine sq_v rfl (v_assign rfl) rfl ?_
              refine sq_end ?_
              refine qs_n ?_
              refine wp_rt ?_
              refine qs_br ?_
              refine qs_r ?_
              exact qs_ret1 rfl rfl (fin_q (i := 2) rfl (cutB_of (by simp only [cutP, decide_eq_true_eq, Bool.false_eq_true, false_iff]; omega)))
            · refine sq_v rfl (v_move rfl) rfl ?_
              refine sq_s rfl rfl ?_
              refine sq_s rfl rfl ?_
              refine sq_s rfl rfl ?_
              refine sq_s rfl rfl ?_
              refine sq_s rfl rfl ?_
              refine sq_v rfl (v_pickf rfl rfl) rfl ?_
              refine sq_v rfl (v_assign rfl) rfl ?_
              refine sq_end ?_
              refine qs_n ?_
              refine wp_rt ?_
              refine qs_br ?_
              refine qs_r ?_
              exact qs_ret1 rfl rfl (fin_q (i := 2) rfl (cutB_of (by simp only [cutP, decide_eq_true_eq, Bool.false_eq_true, false_iff]; omega)))
          · refine wp_sc ?_
            refine wp_sq ?_
            refine sq_v rfl (v_eql rfl rfl) rfl ?_
            refine sq_v rfl (v_assign rfl) rfl ?_
            refine sq_end ?_
            refine qs_n ?_
            refine wp_cd rfl (fun c35 => ?_) (fun c35 => ?_)
            · refine wp_sc ?_
              refine wp_sq ?_
              refine sq_v rfl (v_fieldAddr fd_30_2 ty_3 (by decide) rfl) rfl ?_
              refine sq_v rfl (v_loadB 0 ty_3 rfl rfl rfl) rfl ?_
              refine sq_v rfl (v_fieldAddr fd_30_2 ty_3 (by decide) rfl) rfl ?_
              refine sq_v rfl (v_loadB 1 ty_3 rfl rfl rfl) rfl ?_
              refine sq_v rfl (v_leq rfl rfl) rfl ?_
              refine sq_v rfl (v_assign rfl) rfl ?_
              refine sq_end ?_
              refine qs_n ?_
              refine wp_rt ?_
              refine qs_br ?_
              refine qs_r ?_
              exact qs_ret1 rfl rfl (fin_q (i := 2) rfl (cutB_of (by simp only [cutP, decide_eq_true_eq, Bool.false_eq_true, false_iff]; omega)))
            · refine wp_sk ?_
              refine qs_bn ?_
              refine qs_n ?_
              refine wp_sc ?_
              refine wp_sq ?_
              refine sq_v rfl (v_assign rfl) rfl ?_
              refine sq_end ?_
              refine qs_n ?_
              refine wp_rt ?_
              exact qs_ret1 rfl rfl (fin_q (i := 2) rfl (cutB_of (by simp only [cutP, decide_eq_true_eq, Bool.false_eq_true, false_iff]; omega)))
theorem ct_i_HomOk (k p n k' p' n' h a : Int) (w : World) : Calls Try.prog 90 [ringV k p n, ringV k' p' n', homV h a].toArray w (RetV w (.bool (homB k p n k' p' n' h a))) := by
  refine calls_in Try.func90 rfl Try.ntmps90 rfl (Sat.start w) ?_
  refine wp_sc ?_
  refine wp_sq ?_
  refine sq_x rfl (x_box rfl rfl) rfl ?_; rintro _ _ ⟨b3, rfl, rfl⟩
  refine sq_x rfl (x_box rfl rfl) rfl ?_; rintro _ _ ⟨b4, rfl, rfl⟩
  refine sq_x rfl (x_box rfl rfl) rfl ?_; rintro _ _ ⟨b5, rfl, rfl⟩
  refine sq_v rfl (v_assign rfl) rfl ?_
  refine sq_end ?_
  refine qs_n ?_
  refine wp_sc ?_
  refine wp_sc ?_
  refine wp_sq ?_
  refine sq_v rfl (v_loadNB 2 ty_30 rfl rfl rfl rfl) rfl ?_
  refine sq_u rfl (x_callv rfl en_174 (fun w s => ct_i_RingOk _ _ _ w)) rfl ?_
  refine sq_bb 8 rfl (fun c8 => ?_) (fun c8 => ?_)
  · refine sq_v rfl (v_not rfl) rfl ?_
    refine sq_v rfl (v_move rfl) rfl ?_
    refine sq_v rfl (v_loadNB 1 ty_30 rfl rfl rfl rfl) rfl ?_
    refine sq_u rfl (x_callv rfl en_174 (fun w s => ct_i_RingOk _ _ _ w)) rfl ?_
    refine sq_v rfl (v_not rfl) rfl ?_
    refine sq_v rfl (v_pickf rfl rfl) rfl ?_
    refine sq_end ?_
    refine qs_n ?_
    refine wp_cn _ rfl (fun c14 => ?_) (fun c14 => ?_)
    · refine wp_sc ?_
      refine wp_sq ?_
      refine sq_v rfl (v_assign rfl) rfl ?_
      refine sq_end ?_
      refine qs_n ?_
      refine wp_rt ?_
      refine qs_r ?_
      exact qs_ret1 rfl rfl (fin_q (i := 3) rfl (homB_no (fun h => by first | exact ringB_false.1 c8 h.1 | exact ringB_false.1 c14 h.2.1)))
    · refine wp_sk ?_
      refine qs_n ?_
      refine wp_sc ?_
      refine wp_sc ?_
      refine wp_sq ?_
      refine sq_v rfl (v_fieldAddr fd_59_0 ty_3 (by decide) rfl) rfl ?_
      refine sq_v rfl (v_loadB 0 ty_3 rfl rfl rfl) rfl ?_
      refine sq_end ?_
      refine qs_n ?_
      refine wp_bl ?_
      refine wp_sc ?_
      refine wp_sq ?_
      refine sq_v rfl (v_eql rfl rfl) rfl ?_
      refine sq_v rfl (v_assign rfl) rfl ?_
      refine sq_end ?_
      refine qs_n ?_
      refine wp_cd rfl (fun c17 => ?_) (fun c17 => ?_)
      · refine wp_sc ?_
        refine wp_sq ?_
        refine sq_v rfl (v_loadNB 2 ty_30 rfl rfl rfl rfl) rfl ?_
        refine sq_v rfl (v_loadNB 1 ty_30 rfl rfl rfl rfl) rfl ?_
        refine sq_v rfl (v_eqlG (by kernel_rfl) (ring_eq _ _ _ _ _ _) rfl rfl) rfl ?_
        refine sq_bd 21 rfl (fun c21 => ?_) (fun c21 => ?_)
        · refine sq_v rfl (v_move rfl) rfl ?_
          refine sq_v rfl (v_fieldAddr fd_59_1 ty_3 (by decide) rfl) rfl ?_
          refine sq_v rfl (v_loadB 0 ty_3 rfl rfl rfl) rfl ?_
          refine sq_v rfl (v_eql rfl rfl) rfl ?_
          refine sq_v rfl (v_pickt rfl rfl) rfl ?_
          refine sq_v rfl (v_assign rfl) rfl ?_
          refine sq_end ?_
          refine qs_n ?_
          refine wp_rt ?_
          refine qs_br ?_
          refine qs_r ?_
          exact qs_ret1 rfl rfl (fin_q (i := 3) rfl (homB_of (ringB_true.1 c8) (ringB_true.1 c14) (by simp [homD, rootB_true, cutB_true, *] <;> omega)))
        · refine sq_v rfl (v_move rfl) rfl ?_
          refine sq_s rfl rfl ?_
          refine sq_s rfl rfl ?_
          refine sq_s rfl rfl ?_
          refine sq_v rfl (v_pickf rfl rfl) rfl ?_
          refine sq_v rfl (v_assign rfl) rfl ?_
          refine sq_end ?_
          refine qs_n ?_
          refine wp_rt ?_
          refine qs_br ?_
          refine qs_r ?_
          exact qs_ret1 rfl rfl (fin_q (i := 3) rfl (homB_of (ringB_true.1 c8) (ringB_true.1 c14) (by simp [homD, rootB_true, cutB_true, *] <;> omega)))
      · refine wp_sc ?_
        refine wp_sq ?_
        refine sq_v rfl (v_eql rfl rfl) rfl ?_
        refine sq_v rfl (v_assign rfl) rfl ?_
        refine sq_end ?_
        refine qs_n ?_
        refine wp_cd rfl (fun c27 => ?_) (fun c27 => ?_)
        · refine wp_sc ?_
          refine wp_sq ?_
          refine sq_v rfl (v_fieldAddr fd_30_0 ty_3 (by decide) rfl) rfl ?_
          refine sq_v rfl (v_loadB 2 ty_3 rfl rfl rfl) rfl ?_
          refine sq_v rfl (v_eql rfl rfl) rfl ?_
          refine sq_bd 31 rfl (fun c31 => ?_) (fun c31 => ?_)
          · refine sq_v rfl (v_move rfl) rfl ?_
            refine sq_s rfl rfl ?_
            refine sq_s rfl rfl ?_
            refine sq_s rfl rfl ?_
            refine sq_v rfl (v_pickt rfl rfl) rfl ?_
            refine sq_v rfl (v_move rfl) rfl ?_
            refine sq_v rfl (v_fieldAddr fd_30_0 ty_3 (by decide) rfl) rfl ?_
            refine sq_v rfl (v_loadB 1 ty_3 rfl rfl rfl) rfl ?_
            refine sq_v rfl (v_eql rfl rfl) rfl ?_
            refine sq_v rfl (v_pickt rfl rfl) rfl ?_
            refine sq_bd 41 rfl (fun c41 => ?_) (fun c41 => ?_)
            · refine sq_v rfl (v_move rfl) rfl ?_
              refine sq_v rfl (v_fieldAddr fd_59_1 ty_3 (by decide) rfl) rfl ?_
              refine sq_v rfl (v_loadB 0 ty_3 rfl rfl rfl) rfl ?_
              refine sq_v rfl (v_eql rfl rfl) rfl ?_
              refine sq_v rfl (v_pickt rfl rfl) rfl ?_
              refine sq_v rfl (v_assign rfl) rfl ?_
              refine sq_end ?_
              refine qs_n ?_
              refine wp_rt ?_
              refine qs_br ?_
              refine qs_r ?_
              exact qs_ret1 rfl rfl (fin_q (i := 3) rfl (homB_of (ringB_true.1 c8) (ringB_true.1 c14) (by simp [homD, rootB_true, cutB_true, *] <;> omega)))
            · refine sq_v rfl (v_move rfl) rfl ?_
              refine sq_s rfl rfl ?_
              refine sq_s rfl rfl ?_
              refine sq_s rfl rfl ?_
              refine sq_v rfl (v_pickf rfl rfl) rfl ?_
              refine sq_v rfl (v_assign rfl) rfl ?_
              refine sq_end ?_
              refine qs_n ?_
              refine wp_rt ?_
              refine qs_br ?_
              refine qs_r ?_
              exact qs_ret1 rfl rfl (fin_q (i := 3) rfl (homB_of (ringB_true.1 c8) (ringB_true.1 c14) (by simp [homD, rootB_true, cutB_true, *] <;> omega)))
          · refine sq_v rfl (v_move rfl) rfl ?_
            refine sq_v rfl (v_fieldAddr fd_30_0 ty_3 (by decide) rfl) rfl ?_
            refine sq_v rfl (v_loadB 2 ty_3 rfl rfl rfl) rfl ?_
            refine sq_v rfl (v_eql rfl rfl) rfl ?_
            refine sq_v rfl (v_pickf rfl rfl) rfl ?_
            refine sq_bd 36 rfl (fun c36 => ?_) (fun c36 => ?_)
            · refine sq_v rfl (v_move rfl) rfl ?_
              refine sq_v rfl (v_fieldAddr fd_30_0 ty_3 (by decide) rfl) rfl ?_
              refine sq_v rfl (v_loadB 1 ty_3 rfl rfl rfl) rfl ?_
              refine sq_v rfl (v_eql rfl rfl) rfl ?_
              refine sq_v rfl (v_pickt rfl rfl) rfl ?_
              refine sq_bd 41 rfl (fun c41 => ?_) (fun c41 => ?_)
              · refine sq_v rfl (v_move rfl) rfl ?_
                refine sq_v rfl (v_fieldAddr fd_59_1 ty_3 (by decide) rfl) rfl ?_
                refine sq_v rfl (v_loadB 0 ty_3 rfl rfl rfl) rfl ?_
                refine sq_v rfl (v_eql rfl rfl) rfl ?_
                refine sq_v rfl (v_pickt rfl rfl) rfl ?_
                refine sq_v rfl (v_assign rfl) rfl ?_
                refine sq_end ?_
                refine qs_n ?_
                refine wp_rt ?_
                refine qs_br ?_
                refine qs_r ?_
                exact qs_ret1 rfl rfl (fin_q (i := 3) rfl (homB_of (ringB_true.1 c8) (ringB_true.1 c14) (by simp [homD, rootB_true, cutB_true, *] <;> omega)))
              · refine sq_v rfl (v_move rfl) rfl ?_
                refine sq_s rfl rfl ?_
                refine sq_s rfl rfl ?_
                refine sq_s rfl rfl ?_
                refine sq_v rfl (v_pickf rfl rfl) rfl ?_
                refine sq_v rfl (v_assign rfl) rfl ?_
                refine sq_end ?_
                refine qs_n ?_
                refine wp_rt ?_
                refine qs_br ?_
                refine qs_r ?_
                exact qs_ret1 rfl rfl (fin_q (i := 3) rfl (homB_of (ringB_true.1 c8) (ringB_true.1 c14) (by simp [homD, rootB_true, cutB_true, *] <;> omega)))
            · refine sq_v rfl (v_move rfl) rfl ?_
              refine sq_s rfl rfl ?_
              refine sq_s rfl rfl ?_
              refine sq_s rfl rfl ?_
              refine sq_v rfl (v_pickf rfl rfl) rfl ?_
              refine sq_v rfl (v_move rfl) rfl ?_
              refine sq_s rfl rfl ?_
              refine sq_s rfl rfl ?_
              refine sq_s rfl rfl ?_
              refine sq_v rfl (v_pickf rfl rfl) rfl ?_
              refine sq_v rfl (v_assign rfl) rfl ?_
              refine sq_end ?_
              refine qs_n ?_
              refine wp_rt ?_
              refine qs_br ?_
              refine qs_r ?_
              exact qs_ret1 rfl rfl (fin_q (i := 3) rfl (homB_of (ringB_true.1 c8) (ringB_true.1 c14) (by simp [homD, rootB_true, cutB_true, *] <;> omega)))
        · refine wp_sc ?_
          refine wp_sq ?_
          refine sq_v rfl (v_eql rfl rfl) rfl ?_
          refine sq_v rfl (v_assign rfl) rfl ?_
          refine sq_end ?_
          refine qs_n ?_
          refine wp_cd rfl (fun c47 => ?_) (fun c47 => ?_)
          · refine wp_sc ?_
            refine wp_sq ?_
            refine sq_v rfl (v_fieldAddr fd_30_0 ty_3 (by decide) rfl) rfl ?_
            refine sq_v rfl (v_loadB 2 ty_3 rfl rfl rfl) rfl ?_
            refine sq_v rfl (v_eql rfl rfl) rfl ?_
            refine sq_bd 51 rfl (fun c51 => ?_) (fun c51 => ?_)
            · refine sq_v rfl (v_move rfl) rfl ?_
              refine sq_v rfl (v_fieldAddr fd_30_0 ty_3 (by decide) rfl) rfl ?_
              refine sq_v rfl (v_loadB 1 ty_3 rfl rfl rfl) rfl ?_
              refine sq_v rfl (v_eql rfl rfl) rfl ?_
              refine sq_v rfl (v_pickt rfl rfl) rfl ?_
              refine sq_bd 56 rfl (fun c56 => ?_) (fun c56 => ?_)
              · refine sq_v rfl (v_move rfl) rfl ?_
                refine sq_v rfl (v_fieldAddr fd_59_1 ty_3 (by decide) rfl) rfl ?_
                refine sq_v rfl (v_loadB 0 ty_3 rfl rfl rfl) rfl ?_
                refine sq_v rfl (v_geq rfl rfl) rfl ?_
                refine sq_v rfl (v_pickt rfl rfl) rfl ?_
                refine sq_bd 61 rfl (fun c61 => ?_) (fun c61 => ?_)
                · refine sq_v rfl (v_move rfl) rfl ?_
                  refine sq_v rfl (v_fieldAddr fd_59_1 ty_3 (by decide) rfl) rfl ?_
                  refine sq_v rfl (v_loadB 0 ty_3 rfl rfl rfl) rfl ?_
                  refine sq_v rfl (v_fieldAddr fd_30_2 ty_3 (by decide) rfl) rfl ?_
                  refine sq_v rfl (v_loadB 2 ty_3 rfl rfl rfl) rfl ?_
                  refine sq_v rfl (v_lss rfl rfl) rfl ?_
                  refine sq_v rfl (v_pickt rfl rfl) rfl ?_
                  refine sq_v rfl (v_assign rfl) rfl ?_
                  refine sq_end ?_
                  refine qs_n ?_
                  refine wp_rt ?_
                  refine qs_br ?_
                  refine qs_r ?_
                  exact qs_ret1 rfl rfl (fin_q (i := 3) rfl (homB_of (ringB_true.1 c8) (ringB_true.1 c14) (by simp [homD, rootB_true, cutB_true, *] <;> omega)))
                · refine sq_v rfl (v_move rfl) rfl ?_
                  refine sq_s rfl rfl ?_
                  refine sq_s rfl rfl ?_
                  refine sq_s rfl rfl ?_
                  refine sq_s rfl rfl ?_
                  refine sq_s rfl rfl ?_
                  refine sq_v rfl (v_pickf rfl rfl) rfl ?_
                  refine sq_v rfl (v_assign rfl) rfl ?_
                  refine sq_end ?_
                  refine qs_n ?_
                  refine wp_rt ?_
                  refine qs_br ?_
                  refine qs_r ?_
                  exact qs_ret1 rfl rfl (fin_q (i := 3) rfl (homB_of (ringB_true.1 c8) (ringB_true.1 c14) (by simp [homD, rootB_true, cutB_true, *] <;> omega)))
              · refine sq_v rfl (v_move rfl) rfl ?_
                refine sq_s rfl rfl ?_
                refine sq_s rfl rfl ?_
                refine sq_s rfl rfl ?_
                refine sq_v rfl (v_pickf rfl rfl) rfl ?_
                refine sq_v rfl (v_move rfl) rfl ?_
                refine sq_s rfl rfl ?_
                refine sq_s rfl rfl ?_
                refine sq_s rfl rfl ?_
                refine sq_s rfl rfl ?_
                refine sq_s rfl rfl ?_
                refine sq_v rfl (v_pickf rfl rfl) rfl ?_
                refine sq_v rfl (v_assign rfl) rfl ?_
                refine sq_end ?_
                refine qs_n ?_
                refine wp_rt ?_
                refine qs_br ?_
                refine qs_r ?_
                exact qs_ret1 rfl rfl (fin_q (i := 3) rfl (homB_of (ringB_true.1 c8) (ringB_true.1 c14) (by simp [homD, rootB_true, cutB_true, *] <;> omega)))
            · refine sq_v rfl (v_move rfl) rfl ?_
              refine sq_s rfl rfl ?_
              refine sq_s rfl rfl ?_
              refine sq_s rfl rfl ?_
              refine sq_v rfl (v_pickf rfl rfl) rfl ?_
              refine sq_v rfl (v_move rfl) rfl ?_
              refine sq_s rfl rfl ?_
              refine sq_s rfl rfl ?_
              refine sq_s rfl rfl ?_
              refine sq_v rfl (v_pickf rfl rfl) rfl ?_
              refine sq_v rfl (v_move rfl) rfl ?_
              refine sq_s rfl rfl ?_
              refine sq_s rfl rfl ?_
              refine sq_s rfl rfl ?_
              refine sq_s rfl rfl ?_
              refine sq_s rfl rfl ?_
              refine sq_v rfl (v_pickf rfl rfl) rfl ?_
              refine sq_v rfl (v_assign rfl) rfl ?_
              refine sq_end ?_
              refine qs_n ?_
              refine wp_rt ?_
              refine qs_br ?_
              refine qs_r ?_
              exact qs_ret1 rfl rfl (fin_q (i := 3) rfl (homB_of (ringB_true.1 c8) (ringB_true.1 c14) (by simp [homD, rootB_true, cutB_true, *] <;> omega)))
          · refine wp_sc ?_
            refine wp_sq ?_
            refine sq_v rfl (v_eql rfl rfl) rfl ?_
            refine sq_v rfl (v_assign rfl) rfl ?_
            refine sq_end ?_
            refine qs_n ?_
            refine wp_cd rfl (fun c69 => ?_) (fun c69 => ?_)
            · refine wp_sc ?_
              refine wp_sq ?_
              refine sq_v rfl (v_fieldAddr fd_30_0 ty_3 (by decide) rfl) rfl ?_
              refine sq_v rfl (v_loadB 2 ty_3 rfl rfl rfl) rfl ?_
              refine sq_v rfl (v_eql rfl rfl) rfl ?_
              refine sq_bd 73 rfl (fun c73 => ?_) (fun c73 => ?_)
              · refine sq_v rfl (v_move rfl) rfl ?_
                refine sq_v rfl (v_fieldAddr fd_30_0 ty_3 (by decide) rfl) rfl ?_
                refine sq_v rfl (v_loadB 1 ty_3 rfl rfl rfl) rfl ?_
                refine sq_v rfl (v_eql rfl rfl) rfl ?_
                refine sq_v rfl (v_pickt rfl rfl) rfl ?_
                refine sq_bd 78 rfl (fun c78 => ?_) (fun c78 => ?_)
                · refine sq_v rfl (v_move rfl) rfl ?_
                  refine sq_v rfl (v_fieldAddr fd_59_1 ty_3 (by decide) rfl) rfl ?_
                  refine sq_v rfl (v_loadB 0 ty_3 rfl rfl rfl) rfl ?_
                  refine sq_v rfl (v_geq rfl rfl) rfl ?_
                  refine sq_v rfl (v_pickt rfl rfl) rfl ?_
                  refine sq_bd 83 rfl (fun c83 => ?_) (fun c83 => ?_)
                  · refine sq_v rfl (v_move rfl) rfl ?_
                    refine sq_v rfl (v_fieldAddr fd_59_1 ty_3 (by decide) rfl) rfl ?_
                    refine sq_v rfl (v_loadB 0 ty_3 rfl rfl rfl) rfl ?_
                    refine sq_v rfl (v_fieldAddr fd_30_1 ty_3 (by decide) rfl) rfl ?_
                    refine sq_v rfl (v_loadB 2 ty_3 rfl rfl rfl) rfl ?_
                    refine sq_v rfl (v_leq rfl rfl) rfl ?_
                    refine sq_v rfl (v_pickt rfl rfl) rfl ?_
                    refine sq_v rfl (v_assign rfl) rfl ?_
                    refine sq_end ?_
                    refine qs_n ?_
                    refine wp_rt ?_
                    refine qs_br ?_
                    refine qs_r ?_
                    exact qs_ret1 rfl rfl (fin_q (i := 3) rfl (homB_of (ringB_true.1 c8) (ringB_true.1 c14) (by simp [homD, rootB_true, cutB_true, *] <;> omega)))
                  · refine sq_v rfl (v_move rfl) rfl ?_
                    refine sq_s rfl rfl ?_
                    refine sq_s rfl rfl ?_
                    refine sq_s rfl rfl ?_
                    refine sq_s rfl rfl ?_
                    refine sq_s rfl rfl ?_
                    refine sq_v rfl (v_pickf rfl rfl) rfl ?_
                    refine sq_v rfl (v_assign rfl) rfl ?_
                    refine sq_end ?_
                    refine qs_n ?_
                    refine wp_rt ?_
                    refine qs_br ?_
                    refine qs_r ?_
                    exact qs_ret1 rfl rfl (fin_q (i := 3) rfl (homB_of (ringB_true.1 c8) (ringB_true.1 c14) (by simp [homD, rootB_true, cutB_true, *] <;> omega)))
                · refine sq_v rfl (v_move rfl) rfl ?_
                  refine sq_s rfl rfl ?_
                  refine sq_s rfl rfl ?_
                  refine sq_s rfl rfl ?_
                  refine sq_v rfl (v_pickf rfl rfl) rfl ?_
                  refine sq_v rfl (v_move rfl) rfl ?_
                  refine sq_s rfl rfl ?_
                  refine sq_s rfl rfl ?_
                  refine sq_s rfl rfl ?_
                  refine sq_s rfl rfl ?_
                  refine sq_s rfl rfl ?_
                  refine sq_v rfl (v_pickf rfl rfl) rfl ?_
                  refine sq_v rfl (v_assign rfl) rfl ?_
                  refine sq_end ?_
                  refine qs_n ?_
                  refine wp_rt ?_
                  refine qs_br ?_
                  refine qs_r ?_
                  exact qs_ret1 rfl rfl (fin_q (i := 3) rfl (homB_of (ringB_true.1 c8) (ringB_true.1 c14) (by simp [homD, rootB_true, cutB_true, *] <;> omega)))
              · refine sq_v rfl (v_move rfl) rfl ?_
                refine sq_s rfl rfl ?_
                refine sq_s rfl rfl ?_
                refine sq_s rfl rfl ?_
                refine sq_v rfl (v_pickf rfl rfl) rfl ?_
                refine sq_v rfl (v_move rfl) rfl ?_
                refine sq_s rfl rfl ?_
                refine sq_s rfl rfl ?_
                refine sq_s rfl rfl ?_
                refine sq_v rfl (v_pickf rfl rfl) rfl ?_
                refine sq_v rfl (v_move rfl) rfl ?_
                refine sq_s rfl rfl ?_
                refine sq_s rfl rfl ?_
                refine sq_s rfl rfl ?_
                refine sq_s rfl rfl ?_
                refine sq_s rfl rfl ?_
                refine sq_v rfl (v_pickf rfl rfl) rfl ?_
                refine sq_v rfl (v_assign rfl) rfl ?_
                refine sq_end ?_
                refine qs_n ?_
                refine wp_rt ?_
                refine qs_br ?_
                refine qs_r ?_
                exact qs_ret1 rfl rfl (fin_q (i := 3) rfl (homB_of (ringB_true.1 c8) (ringB_true.1 c14) (by simp [homD, rootB_true, cutB_true, *] <;> omega)))
            · refine wp_sc ?_
              refine wp_sq ?_
              refine sq_v rfl (v_eql rfl rfl) rfl ?_
              refine sq_v rfl (v_assign rfl) rfl ?_
              refine sq_end ?_
              refine qs_n ?_
              refine wp_cd rfl (fun c91 => ?_) (fun c91 => ?_)
              · refine wp_sc ?_
                refine wp_sq ?_
                refine sq_v rfl (v_fieldAddr fd_30_0 ty_3 (by decide) rfl) rfl ?_
                refine sq_v rfl (v_loadB 2 ty_3 rfl rfl rfl) rfl ?_
                refine sq_v rfl (v_eql rfl rfl) rfl ?_
                refine sq_bd 95 rfl (fun c95 => ?_) (fun c95 => ?_)
                · refine sq_v rfl (v_move rfl) rfl ?_
                  refine sq_v rfl (v_fieldAddr fd_30_0 ty_3 (by decide) rfl) rfl ?_
                  refine sq_v rfl (v_loadB 1 ty_3 rfl rfl rfl) rfl ?_
                  refine sq_v rfl (v_eql rfl rfl) rfl ?_
                  refine sq_v rfl (v_pickt rfl rfl) rfl ?_
                  refine sq_bd 100 rfl (fun c100 => ?_) (fun c100 => ?_)
                  · refine sq_v rfl (v_move rfl) rfl ?_
                    refine sq_v rfl (v_fieldAddr fd_30_1 ty_3 (by decide) rfl) rfl ?_
                    refine sq_v rfl (v_loadB 2 ty_3 rfl rfl rfl) rfl ?_
                    refine sq_v rfl (v_fieldAddr fd_30_1 ty_3 (by decide) rfl) rfl ?_
                    refine sq_v rfl (v_loadB 1 ty_3 rfl rfl rfl) rfl ?_
                    refine sq_v rfl (v_eql rfl rfl) rfl ?_
                    refine sq_v rfl (v_pickt rfl rfl) rfl ?_
                    refine sq_bd 107 rfl (fun c107 => ?_) (fun c107 => ?_)
                    · refine sq_v rfl (v_move rfl) rfl ?_
                      refine sq_v rfl (v_fieldAddr fd_59_1 ty_3 (by decide) rfl) rfl ?_
                      refine sq_v rfl (v_loadB 0 ty_3 rfl rfl rfl) rfl ?_
                      refine sq_v rfl (v_eql rfl rfl) rfl ?_
                      refine sq_v rfl (v_pickt rfl rfl) rfl ?_
                      refine sq_v rfl (v_assign rfl) rfl ?_
                      refine sq_end ?_
                      refine qs_n ?_
                      refine wp_rt ?_
                      refine qs_br ?_
                      refine qs_r ?_
                      exact qs_ret1 rfl rfl (fin_q (i := 3) rfl (homB_of (ringB_true.1 c8) (ringB_true.1 c14) (by simp [homD, rootB_true, cutB_true, *] <;> omega)))
                    · refine sq_v rfl (v_move rfl) rfl ?_
                      refine sq_s rfl rfl ?_
                      refine sq_s rfl rfl ?_
                      refine sq_s rfl rfl ?_
                      refine sq_v rfl (v_pickf rfl rfl) rfl ?_
                      refine sq_v rfl (v_assign rfl) rfl ?_
                      refine sq_end ?_
                      refine qs_n ?_
                      refine wp_rt ?_
                      refine qs_br ?_
                      refine qs_r ?_
                      exact qs_ret1 rfl rfl (fin_q (i := 3) rfl (homB_of (ringB_true.1 c8) (ringB_true.1 c14) (by simp [homD, rootB_true, cutB_true, *] <;> omega)))
                  · refine sq_v rfl (v_move rfl) rfl ?_
                    refine sq_s rfl rfl ?_
                    refine sq_s rfl rfl ?_
                    refine sq_s rfl rfl ?_
                    refine sq_s rfl rfl ?_
                    refine sq_s rfl rfl ?_
                    refine sq_v rfl (v_pickf rfl rfl) rfl ?_
                    refine sq_v rfl (v_move rfl) rfl ?_
                    refine sq_s rfl rfl ?_
                    refine sq_s rfl rfl ?_
                    refine sq_s rfl rfl ?_
                    refine sq_v rfl (v_pickf rfl rfl) rfl ?_
                    refine sq_v rfl (v_assign rfl) rfl ?_
                    refine sq_end ?_
                    refine qs_n ?_
                    refine wp_rt ?_
                    refine qs_br ?_
                    refine qs_r ?_
                    exact qs_ret1 rfl rfl (fin_q (i := 3) rfl (homB_of (ringB_true.1 c8) (ringB_true.1 c14) (by simp [homD, rootB_true, cutB_true, *] <;> omega)))
                · refine sq_v rfl (v_move rfl) rfl ?_
                  refine sq_s rfl rfl ?_
                  refine sq_s rfl rfl ?_
                  refine sq_s rfl rfl ?_
                  refine sq_v rfl (v_pickf rfl rfl) rfl ?_
                  refine sq_v rfl (v_move rfl) rfl ?_
                  refine sq_s rfl rfl ?_
                  refine sq_s rfl rfl ?_
                  refine sq_s rfl rfl ?_
                  refine sq_s rfl rfl ?_
                  refine sq_s rfl rfl ?_
                  refine sq_v rfl (v_pickf rfl rfl) rfl ?_
                  refine sq_v rfl (v_move rfl) rfl ?_
                  refine sq_s rfl rfl ?_
                  refine sq_s rfl rfl ?_
                  refine sq_s rfl rfl ?_
                  refine sq_v rfl (v_pickf rfl rfl) rfl ?_
                  refine sq_v rfl (v_assign rfl) rfl ?_
                  refine sq_end ?_
                  refine qs_n ?_
                  refine wp_rt ?_
                  refine qs_br ?_
                  refine qs_r ?_
                  exact qs_ret1 rfl rfl (fin_q (i := 3) rfl (homB_of (ringB_true.1 c8) (ringB_true.1 c14) (by simp [homD, rootB_true, cutB_true, *] <;> omega)))
              · refine wp_sc ?_
                refine wp_sq ?_
                refine sq_v rfl (v_eql rfl rfl) rfl ?_
                refine sq_v rfl (v_assign rfl) rfl ?_
                refine sq_end ?_
                refine qs_n ?_
                refine wp_cd rfl (fun c113 => ?_) (fun c113 => ?_)
                · refine wp_sc ?_
                  refine wp_sq ?_
                  refine sq_v rfl (v_fieldAddr fd_30_0 ty_3 (by decide) rfl) rfl ?_
                  refine sq_v rfl (v_loadB 2 ty_3 rfl rfl rfl) rfl ?_
                  refine sq_v rfl (v_eql rfl rfl) rfl ?_
                  refine sq_bd 117 rfl (fun c117 => ?_) (fun c117 => ?_)
                  · refine sq_v rfl (v_move rfl) rfl ?_
                    refine sq_v rfl (v_fieldAddr fd_30_0 ty_3 (by decide) rfl) rfl ?_
                    refine sq_v rfl (v_loadB 1 ty_3 rfl rfl rfl) rfl ?_
                    refine sq_v rfl (v_eql rfl rfl) rfl ?_
                    refine sq_v rfl (v_pickt rfl rfl) rfl ?_
                    refine sq_bd 122 rfl (fun c122 => ?_) (fun c122 => ?_)
                    · refine sq_v rfl (v_move rfl) rfl ?_
                      refine sq_v rfl (v_fieldAddr fd_30_1 ty_3 (by decide) rfl) rfl ?_
                      refine sq_v rfl (v_loadB 2 ty_3 rfl rfl rfl) rfl ?_
                      refine sq_v rfl (v_fieldAddr fd_30_1 ty_3 (by decide) rfl) rfl ?_
                      refine sq_v rfl (v_loadB 1 ty_3 rfl rfl rfl) rfl ?_
                      refine sq_v rfl (v_eql rfl rfl) rfl ?_
                      refine sq_v rfl (v_pickt rfl rfl) rfl ?_
                      refine sq_bd 129 rfl (fun c129 => ?_) (fun c129 => ?_)
                      · refine sq_v rfl (v_move rfl) rfl ?_
                        refine sq_v rfl (v_fieldAddr fd_30_1 ty_3 (by decide) rfl) rfl ?_
                        refine sq_v rfl (v_loadB 2 ty_3 rfl rfl rfl) rfl ?_
                        refine sq_v rfl (v_fieldAddr fd_59_1 ty_3 (by decide) rfl) rfl ?_
                        refine sq_v rfl (v_loadB 0 ty_3 rfl rfl rfl) rfl ?_
                        have h2 := ring_two (ringB_true.1 c8) (by omega)
                        refine sq_u rfl (x_callv rfl en_186 (fun w s => ct_i_rootOk _ _ w (by first | assumption | omega))) rfl ?_
                        refine sq_v rfl (v_pickt rfl rfl) rfl ?_
                        refine sq_v rfl (v_assign rfl) rfl ?_
                        refine sq_end ?_
                        refine qs_n ?_
                        refine wp_rt ?_
                        refine qs_br ?_
                        refine qs_r ?_
                        exact qs_ret1 rfl rfl (fin_q (i := 3) rfl (homB_of (ringB_true.1 c8) (ringB_true.1 c14) (by simp [homD, rootB_true, cutB_true, *] <;> omega)))
                      · refine sq_v rfl (v_move rfl) rfl ?_
                        refine sq_s rfl rfl ?_
                        refine sq_s rfl rfl ?_
                        refine sq_s rfl rfl ?_
                        refine sq_s rfl rfl ?_
                        refine sq_s rfl rfl ?_
                        refine sq_v rfl (v_pickf rfl rfl) rfl ?_
                        refine sq_v rfl (v_assign rfl) rfl ?_
                        refine sq_end ?_
                        refine qs_n ?_
                        refine wp_rt ?_
                        refine qs_br ?_
                        refine qs_r ?_
                        exact qs_ret1 rfl rfl (fin_q (i := 3) rfl (homB_of (ringB_true.1 c8) (ringB_true.1 c14) (by simp [homD, rootB_true, cutB_true, *] <;> omega)))
                    · refine sq_v rfl (v_move rfl) rfl ?_
                      refine sq_s rfl rfl ?_
                      refine sq_s rfl rfl ?_
                      refine sq_s rfl rfl ?_
                      refine sq_s rfl rfl ?_
                      refine sq_s rfl rfl ?_
                      refine sq_v rfl (v_pickf rfl rfl) rfl ?_
                      refine sq_v rfl (v_move rfl) rfl ?_
                      refine sq_s rfl rfl ?_
                      refine sq_s rfl rfl ?_
                      refine sq_s rfl rfl ?_
                      refine sq_s rfl rfl ?_
                      refine sq_s rfl rfl ?_
                      refine sq_v rfl (v_pickf rfl rfl) rfl ?_
                      refine sq_v rfl (v_assign rfl) rfl ?_
                      refine sq_end ?_
                      refine qs_n ?_
                      refine wp_rt ?_
                      refine qs_br ?_
                      refine qs_r ?_
                      exact qs_ret1 rfl rfl (fin_q (i := 3) rfl (homB_of (ringB_true.1 c8) (ringB_true.1 c14) (by simp [homD, rootB_true, cutB_true, *] <;> omega)))
                  · refine sq_v rfl (v_move rfl) rfl ?_
                    refine sq_s rfl rfl ?_
                    refine sq_s rfl rfl ?_
                    refine sq_s rfl rfl ?_
                    refine sq_v rfl (v_pickf rfl rfl) rfl ?_
                    refine sq_v rfl (v_move rfl) rfl ?_
                    refine sq_s rfl rfl ?_
                    refine sq_s rfl rfl ?_
                    refine sq_s rfl rfl ?_
                    refine sq_s rfl rfl ?_
                    refine sq_s rfl rfl ?_
                    refine sq_v rfl (v_pickf rfl rfl) rfl ?_
                    refine sq_v rfl (v_move rfl) rfl ?_
                    refine sq_s rfl rfl ?_
                    refine sq_s rfl rfl ?_
                    refine sq_s rfl rfl ?_
                    refine sq_s rfl rfl ?_
                    refine sq_s rfl rfl ?_
                    refine sq_v rfl (v_pickf rfl rfl) rfl ?_
                    refine sq_v rfl (v_assign rfl) rfl ?_
                    refine sq_end ?_
                    refine qs_n ?_
                    refine wp_rt ?_
                    refine qs_br ?_
                    refine qs_r ?_
                    exact qs_ret1 rfl rfl (fin_q (i := 3) rfl (homB_of (ringB_true.1 c8) (ringB_true.1 c14) (by simp [homD, rootB_true, cutB_true, *] <;> omega)))
                · refine wp_sc ?_
                  refine wp_sq ?_
                  refine sq_v rfl (v_eql rfl rfl) rfl ?_
                  refine sq_v rfl (v_assign rfl) rfl ?_
                  refine sq_end ?_
                  refine qs_n ?_
                  refine wp_cd rfl (fun c137 => ?_) (fun c137 => ?_)
                  · refine wp_sc ?_
                    refine wp_sq ?_
                    refine sq_v rfl (v_fieldAddr fd_59_1 ty_3 (by decide) rfl) rfl ?_
                    refine sq_v rfl (v_loadB 0 ty_3 rfl rfl rfl) rfl ?_
                    refine sq_v rfl (v_eql rfl rfl) rfl ?_
                    refine sq_bd 141 rfl (fun c141 => ?_) (fun c141 => ?_)
                    · refine sq_v rfl (v_move rfl) rfl ?_
                      refine sq_v rfl (v_loadNB 2 ty_30 rfl rfl rfl rfl) rfl ?_
                      refine sq_v rfl (v_loadNB 1 ty_30 rfl rfl rfl rfl) rfl ?_
                      refine sq_u rfl (x_callv rfl en_187 (fun w s => ct_i_cutOk _ _ _ _ _ _ w)) rfl ?_
                      refine sq_v rfl (v_pickt rfl rfl) rfl ?_
                      refine sq_v rfl (v_assign rfl) rfl ?_
                      refine sq_end ?_
                      refine qs_n ?_
                      refine wp_rt ?_
                      refine qs_br ?_
                      refine qs_r ?_
                      exact qs_ret1 rfl rfl (fin_q (i := 3) rfl (homB_of (ringB_true.1 c8) (ringB_true.1 c14) (by simp [homD, rootB_true, cutB_true, *] <;> omega)))
                    · refine sq_v rfl (v_move rfl) rfl ?_
                      refine sq_s rfl rfl ?_
                      refine sq_s rfl rfl ?_
                      refine sq_s rfl rfl ?_
                      refine sq_v rfl (v_pickf rfl rfl) rfl ?_
                      refine sq_v rfl (v_assign rfl) rfl ?_
                      refine sq_end ?_
                      refine qs_n ?_
                      refine wp_rt ?_
                      refine qs_br ?_
                      refine qs_r ?_
                      exact qs_ret1 rfl rfl (fin_q (i := 3) rfl (homB_of (ringB_true.1 c8) (ringB_true.1 c14) (by simp [homD, rootB_true, cutB_true, *] <;> omega)))
                  · refine wp_sc ?_
                    refine wp_sq ?_
                    refine sq_v rfl (v_eql rfl rfl) rfl ?_
                    refine sq_v rfl (v_assign rfl) rfl ?_
                    refine sq_end ?_
                    refine qs_n ?_
                    refine wp_cd rfl (fun c147 => ?_) (fun c147 => ?_)
                    · refine wp_sc ?_
                      refine wp_sq ?_
                      refine sq_v rfl (v_fieldAddr fd_30_0 ty_3 (by decide) rfl) rfl ?_
                      refine sq_v rfl (v_loadB 2 ty_3 rfl rfl rfl) rfl ?_
                      refine sq_v rfl (v_eql rfl rfl) rfl ?_
                      refine sq_bd 151 rfl (fun c151 => ?_) (fun c151 => ?_)
                      · refine sq_v rfl (v_move rfl) rfl ?_
                        refine sq_v rfl (v_fieldAddr fd_59_1 ty_3 (by decide) rfl) rfl ?_
                        refine sq_v rfl (v_loadB 0 ty_3 rfl rfl rfl) rfl ?_
                        refine sq_v rfl (v_eql rfl rfl) rfl ?_
                        refine sq_v rfl (v_pickt rfl rfl) rfl ?_
                        refine sq_bd 156 rfl (fun c156 => ?_) (fun c156 => ?_)
                        · refine sq_v rfl (v_move rfl) rfl ?_
                          refine sq_v rfl (v_fieldAddr fd_30_0 ty_3 (by decide) rfl) rfl ?_
                          refine sq_v rfl (v_loadB 1 ty_3 rfl rfl rfl) rfl ?_
                          refine sq_v rfl (v_eql rfl rfl) rfl ?_
                          refine sq_bd 160 rfl (fun c160 => ?_) (fun c160 => ?_)
                          · refine sq_v rfl (v_move rfl) rfl ?_
                            refine sq_s rfl rfl ?_
                            refine sq_s rfl rfl ?_
                            refine sq_s rfl rfl ?_
                            refine sq_v rfl (v_pickt rfl rfl) rfl ?_
                            refine sq_v rfl (v_move rfl) rfl ?_
                            refine sq_s rfl rfl ?_
                            refine sq_s rfl rfl ?_
                            refine sq_s rfl rfl ?_
                            refine sq_v rfl (v_pickt rfl rfl) rfl ?_
                            refine sq_v rfl (v_pickt rfl rfl) rfl ?_
                            refine sq_v rfl (v_assign rfl) rfl ?_
                            refine sq_end ?_
                            refine qs_n ?_
                            refine wp_rt ?_
                            refine qs_br ?_
                            refine qs_r ?_
                            exact qs_ret1 rfl rfl (fin_q (i := 3) rfl (homB_of (ringB_true.1 c8) (ringB_true.1 c14) (by simp [homD, rootB_true, cutB_true, *] <;> omega)))
                          · refine sq_v rfl (v_move rfl) rfl ?_
                            refine sq_v rfl (v_fieldAddr fd_30_0 ty_3 (by decide) rfl) rfl ?_
                            refine sq_v rfl (v_loadB 1 ty_3 rfl rfl rfl) rfl ?_
                            refine sq_v rfl (v_eql rfl rfl) rfl ?_
                            refine sq_v rfl (v_pickf rfl rfl) rfl ?_
                            refine sq_bd 165 rfl (fun c165 => ?_) (fun c165 => ?_)
                            · refine sq_v rfl (v_move rfl) rfl ?_
                              refine sq_s rfl rfl ?_
                              refine sq_s rfl rfl ?_
                              refine sq_s rfl rfl ?_
                              refine sq_v rfl (v_pickt rfl rfl) rfl ?_
                              refine sq_v rfl (v_pickt rfl rfl) rfl ?_
                              refine sq_v rfl (v_assign rfl) rfl ?_
                              refine sq_end ?_
                              refine qs_n ?_
                              refine wp_rt ?_
                              refine qs_br ?_
                              refine qs_r ?_
                              exact qs_ret1 rfl rfl (fin_q (i := 3) rfl (homB_of (ringB_true.1 c8) (ringB_true.1 c14) (by simp [homD, rootB_true, cutB_true, *] <;> omega)))
                            · refine sq_v rfl (v_move rfl) rfl ?_
                              refine sq_v rfl (v_fieldAddr fd_30_0 ty_3 (by decide) rfl) rfl ?_
                              refine sq_v rfl (v_loadB 1 ty_3 rfl rfl rfl) rfl ?_
                              refine sq_v rfl (v_eql rfl rfl) rfl ?_
                              refine sq_v rfl (v_pickf rfl rfl) rfl ?_
                              refine sq_v rfl (v_pickt rfl rfl) rfl ?_
                              refine sq_v rfl (v_assign rfl) rfl ?_
                              refine sq_end ?_
                              refine qs_n ?_
                              refine wp_rt ?_
                              refine qs_br ?_
                              refine qs_r ?_
                              exact qs_ret1 rfl rfl (fin_q (i := 3) rfl (homB_of (ringB_true.1 c8) (ringB_true.1 c14) (by simp [homD, rootB_true, cutB_true, *] <;> omega)))
                        · refine sq_v rfl (v_move rfl) rfl ?_
                          refine sq_s rfl rfl ?_
                          refine sq_s rfl rfl ?_
                          refine sq_s rfl rfl ?_
                          refine sq_s rfl rfl ?_
                          refine sq_s rfl rfl ?_
                          refine sq_s rfl rfl ?_
                          refine sq_s rfl rfl ?_
                          refine sq_s rfl rfl ?_
                          refine sq_s rfl rfl ?_
                          refine sq_s rfl rfl ?_
                          refine sq_s rfl rfl ?_
                          refine sq_s rfl rfl ?_
                          refine sq_s rfl rfl ?_
                          refine sq_v rfl (v_pickf rfl rfl) rfl ?_
                          refine sq_v rfl (v_assign rfl) rfl ?_
                          refine sq_end ?_
                          refine qs_n ?_
                          refine wp_rt ?_
                          refine qs_br ?_
                          refine qs_r ?_
                          exact qs_ret1 rfl rfl (fin_q (i := 3) rfl (homB_of (ringB_true.1 c8) (ringB_true.1 c14) (by simp [homD, rootB_true, cutB_true, *] <;> omega)))
                      · refine sq_v rfl (v_move rfl) rfl ?_
                        refine sq_s rfl rfl ?_
                        refine sq_s rfl rfl ?_
                        refine sq_s rfl rfl ?_
                        refine sq_v rfl (v_pickf rfl rfl) rfl ?_
                        refine sq_v rfl (v_move rfl) rfl ?_
                        refine sq_s rfl rfl ?_
                        refine sq_s rfl rfl ?_
                        refine sq_s rfl rfl ?_
                        refine sq_s rfl rfl ?_
                        refine sq_s rfl rfl ?_
                        refine sq_s rfl rfl ?_
                        refine sq_s rfl rfl ?_
                        refine sq_s rfl rfl ?_
                        refine sq_s rfl rfl ?_
                        refine sq_s rfl rfl ?_
                        refine sq_s rfl rfl ?_
                        refine sq_s rfl rfl ?_
                        refine sq_s rfl rfl ?_
                        refine sq_v rfl (v_pickf rfl rfl) rfl ?_
                        refine sq_v rfl (v_assign rfl) rfl ?_
                        refine sq_end ?_
                        refine qs_n ?_
                        refine wp_rt ?_
                        refine qs_br ?_
                        refine qs_r ?_
                        exact qs_ret1 rfl rfl (fin_q (i := 3) rfl (homB_of (ringB_true.1 c8) (ringB_true.1 c14) (by simp [homD, rootB_true, cutB_true, *] <;> omega)))
                    · refine wp_sk ?_
                      refine qs_bn ?_
                      refine qs_n ?_
                      refine wp_sc ?_
                      refine wp_sq ?_
                      refine sq_v rfl (v_assign rfl) rfl ?_
                      refine sq_end ?_
                      refine qs_n ?_
                      refine wp_rt ?_
                      exact qs_ret1 rfl rfl (fin_q (i := 3) rfl (homB_of (ringB_true.1 c8) (ringB_true.1 c14) (by simp [homD, rootB_true, cutB_true, *] <;> omega)))
  · refine sq_v rfl (v_not rfl) rfl ?_
    refine sq_v rfl (v_move rfl) rfl ?_
    refine sq_s rfl rfl ?_
    refine sq_s rfl rfl ?_
    refine sq_s rfl rfl ?_
    refine sq_v rfl (v_pickt rfl rfl) rfl ?_
    refine sq_end ?_
    refine qs_n ?_
    refine wp_ct rfl ?_
    refine wp_sc ?_
    refine wp_sq ?_
    refine sq_v rfl (v_assign rfl) rfl ?_
    refine sq_end ?_
    refine qs_n ?_
    refine wp_rt ?_
    refine qs_r ?_
    exact qs_ret1 rfl rfl (fin_q (i := 3) rfl (homB_no (fun h => by first | exact ringB_false.1 c8 h.1 | exact ringB_false.1 c14 h.2.1)))
theorem ct_s_HomOk (k p n k' p' n' h a : Int) (w : World) : Calls Try.prog 87 [ringV k p n, ringV k' p' n', homV h a].toArray w (RetV w (.bool (homB k p n k' p' n' h a))) := by
  refine calls_in Try.func87 rfl Try.ntmps87 rfl (Sat.start w) ?_
  refine wp_sc ?_
  refine wp_sq ?_
  refine sq_x rfl (x_box rfl rfl) rfl ?_; rintro _ _ ⟨b3, rfl, rfl⟩
  refine sq_x rfl (x_box rfl rfl) rfl ?_; rintro _ _ ⟨b4, rfl, rfl⟩
  refine sq_x rfl (x_box rfl rfl) rfl ?_; rintro _ _ ⟨b5, rfl, rfl⟩
  refine sq_v rfl (v_assign rfl) rfl ?_
  refine sq_end ?_
  refine qs_n ?_
  refine wp_sc ?_
  refine wp_sc ?_
  refine wp_sq ?_
  refine sq_v rfl (v_loadNB 2 ty_30 rfl rfl rfl rfl) rfl ?_
  refine sq_u rfl (x_callv rfl en_169 (fun w s => ct_s_RingOk _ _ _ w)) rfl ?_
  refine sq_bb 9 rfl (fun c9 => ?_) (fun c9 => ?_)
  · refine sq_v rfl (v_not rfl) rfl ?_
    refine sq_v rfl (v_move rfl) rfl ?_
    refine sq_v rfl (v_loadNB 1 ty_30 rfl rfl rfl rfl) rfl ?_
    refine sq_u rfl (x_callv rfl en_169 (fun w s => ct_s_RingOk _ _ _ w)) rfl ?_
    refine sq_v rfl (v_not rfl) rfl ?_
    refine sq_v rfl (v_pickf rfl rfl) rfl ?_
    refine sq_end ?_
    refine qs_n ?_
    refine wp_cn _ rfl (fun c15 => ?_) (fun c15 => ?_)
    · refine wp_sc ?_
      refine wp_sq ?_
      refine sq_v rfl (v_assign rfl) rfl ?_
      refine sq_end ?_
      refine qs_n ?_
      refine wp_rt ?_
      refine qs_r ?_
      exact qs_ret1 rfl rfl (fin_q (i := 3) rfl (homB_no (fun h => by first | exact ringB_false.1 c9 h.1 | exact ringB_false.1 c15 h.2.1)))
    · refine wp_sk ?_
      refine qs_n ?_
      refine wp_sc ?_
      refine wp_sc ?_
      refine wp_sq ?_
      refine sq_v rfl (v_fieldAddr fd_59_0 ty_3 (by decide) rfl) rfl ?_
      refine sq_v rfl (v_loadB 0 ty_3 rfl rfl rfl) rfl ?_
      refine sq_end ?_
      refine qs_n ?_
      refine wp_bl ?_
      refine wp_sc ?_
      refine wp_sq ?_
      refine sq_v rfl (v_eql rfl rfl) rfl ?_
      refine sq_v rfl (v_assign rfl) rfl ?_
      refine sq_end ?_
      refine qs_n ?_
      refine wp_cd rfl (fun c18 => ?_) (fun c18 => ?_)
      · refine wp_sc ?_
        refine wp_sq ?_
        refine sq_v rfl (v_fieldAddr fd_30_0 ty_3 (by decide) rfl) rfl ?_
        refine sq_v rfl (v_loadB 2 ty_3 rfl rfl rfl) rfl ?_
        refine sq_v rfl (v_eql rfl rfl) rfl ?_
        refine sq_bd 22 rfl (fun c22 => ?_) (fun c22 => ?_)
        · refine sq_v rfl (v_move rfl) rfl ?_
          refine sq_v rfl (v_fieldAddr fd_30_0 ty_3 (by decide) rfl) rfl ?_
          refine sq_v rfl (v_loadB 1 ty_3 rfl rfl rfl) rfl ?_
          refine sq_v rfl (v_eql rfl rfl) rfl ?_
          refine sq_v rfl (v_pickt rfl rfl) rfl ?_
          refine sq_bd 27 rfl (fun c27 => ?_) (fun c27 => ?_)
          · refine sq_v rfl (v_move rfl) rfl ?_
            refine sq_v rfl (v_fieldAddr fd_59_1 ty_3 (by decide) rfl) rfl ?_
            refine sq_v rfl (v_loadB 0 ty_3 rfl rfl rfl) rfl ?_
            refine sq_v rfl (v_fieldAddr fd_30_2 ty_3 (by decide) rfl) rfl ?_
            refine sq_v rfl (v_loadB 2 ty_3 rfl rfl rfl) rfl ?_
            have hn := ring_set (ringB_true.1 c9) (by omega)
            refine sq_v rfl (v_sub rfl rfl ((by unfold I64; omega))) rfl ?_
            refine sq_u rfl (x_callv rfl en_95 (fun w s => ct_s_l01In _ _ _ w)) rfl ?_
            refine sq_v rfl (v_pickt rfl rfl) rfl ?_
            refine sq_v rfl (v_assign rfl) rfl ?_
            refine sq_end ?_
            refine qs_n ?_
            refine wp_rt ?_
            refine qs_br ?_
            refine qs_r ?_
            exact qs_ret1 rfl rfl (fin_q (i := 3) rfl (homB_of (ringB_true.1 c9) (ringB_true.1 c15) (by have z1 := ring_zero (ringB_true.1 c9); have z2 := ring_zero (ringB_true.1 c15); simp [homD, cutP, *] <;> omega)))
          · refine sq_v rfl (v_move rfl) rfl ?_
            refine sq_s rfl rfl ?_
            refine sq_s rfl rfl ?_
            refine sq_s rfl rfl ?_
            refine sq_s rfl rfl ?_
            refine sq_s rfl rfl ?_
            refine sq_s rfl rfl ?_
            refine sq_v rfl (v_pickf rfl rfl) rfl ?_
            refine sq_v rfl (v_assign rfl) rfl ?_
            refine sq_end ?_
            refine qs_n ?_
            refine wp_rt ?_
            refine qs_br ?_
            refine qs_r ?_
            exact qs_ret1 rfl rfl (fin_q (i := 3) rfl (homB_of (ringB_true.1 c9) (ringB_true.1 c15) (by have z1 := ring_zero (ringB_true.1 c9); have z2 := ring_zero (ringB_true.1 c15); simp [homD, cutP, *] <;> omega)))
        · refine sq_v rfl (v_move rfl) rfl ?_
          refine sq_s rfl rfl ?_
          refine sq_s rfl rfl ?_
          refine sq_s rfl rfl ?_
          refine sq_v rfl (v_pickf rfl rfl) rfl ?_
          refine sq_v rfl (v_move rfl) rfl ?_
          refine sq_s rfl rfl ?_
          refine sq_s rfl rfl ?_
          refine sq_s rfl rfl ?_
          refine sq_s rfl rfl ?_
          refine sq_s rfl rfl ?_
          refine sq_s rfl rfl ?_
          refine sq_v rfl (v_pickf rfl rfl) rfl ?_
          refine sq_v rfl (v_assign rfl) rfl ?_
          refine sq_end ?_
          refine qs_n ?_
          refine wp_rt ?_
          refine qs_br ?_
          refine qs_r ?_
          exact qs_ret1 rfl rfl (fin_q (i := 3) rfl (homB_of (ringB_true.1 c9) (ringB_true.1 c15) (by have z1 := ring_zero (ringB_true.1 c9); have z2 := ring_zero (ringB_true.1 c15); simp [homD, cutP, *] <;> omega)))
      · refine wp_sc ?_
        refine wp_sq ?_
        refine sq_v rfl (v_eql rfl rfl) rfl ?_
        refine sq_v rfl (v_assign rfl) rfl ?_
        refine sq_end ?_
        refine qs_n ?_
        refine wp_cd rfl (fun c36 => ?_) (fun c36 => ?_)
        · refine wp_sc ?_
          refine wp_sq ?_
          refine sq_v rfl (v_fieldAddr fd_30_0 ty_3 (by decide) rfl) rfl ?_
          refine sq_v rfl (v_loadB 2 ty_3 rfl rfl rfl) rfl ?_
          refine sq_v rfl (v_eql rfl rfl) rfl ?_
          refine sq_bd 40 rfl (fun c40 => ?_) (fun c40 => ?_)
          · refine sq_v rfl (v_move rfl) rfl ?_
            refine sq_v rfl (v_fieldAddr fd_30_0 ty_3 (by decide) rfl) rfl ?_
            refine sq_v rfl (v_loadB 1 ty_3 rfl rfl rfl) rfl ?_
            refine sq_v rfl (v_eql rfl rfl) rfl ?_
            refine sq_v rfl (v_pickt rfl rfl) rfl ?_
            refine sq_bd 45 rfl (fun c45 => ?_) (fun c45 => ?_)
            · refine sq_v rfl (v_move rfl) rfl ?_
              refine sq_v rfl (v_fieldAddr fd_59_1 ty_3 (by decide) rfl) rfl ?_
              refine sq_v rfl (v_loadB 0 ty_3 rfl rfl rfl) rfl ?_
              refine sq_v rfl (v_fieldAddr fd_30_1 ty_3 (by decide) rfl) rfl ?_
              refine sq_v rfl (v_loadB 2 ty_3 rfl rfl rfl) rfl ?_
              refine sq_u rfl (x_callv rfl en_95 (fun w s => ct_s_l01In _ _ _ w)) rfl ?_
              refine sq_v rfl (v_pickt rfl rfl) rfl ?_
              refine sq_v rfl (v_assign rfl) rfl ?_
              refine sq_end ?_
              refine qs_n ?_
              refine wp_rt ?_
              refine qs_br ?_
              refine qs_r ?_
              exact qs_ret1 rfl rfl (fin_q (i := 3) rfl (homB_of (ringB_true.1 c9) (ringB_true.1 c15) (by have z1 := ring_zero (ringB_true.1 c9); have z2 := ring_zero (ringB_true.1 c15); simp [homD, cutP, *] <;> omega)))
            · refine sq_v rfl (v_move rfl) rfl ?_
              refine sq_s rfl rfl ?_
              refine sq_s rfl rfl ?_
              refine sq_s rfl rfl ?_
              refine sq_s rfl rfl ?_
              refine sq_s rfl rfl ?_
              refine sq_v rfl (v_pickf rfl rfl) rfl ?_
              refine sq_v rfl (v_assign rfl) rfl ?_
              refine sq_end ?_
              refine qs_n ?_
              refine wp_rt ?_
              refine qs_br ?_
              refine qs_r ?_
              exact qs_ret1 rfl rfl (fin_q (i := 3) rfl (homB_of (ringB_true.1 c9) (ringB_true.1 c15) (by have z1 := ring_zero (ringB_true.1 c9); have z2 := ring_zero (ringB_true.1 c15); simp [homD, cutP, *] <;> omega)))
          · refine sq_v rfl (v_move rfl) rfl ?_
            refine sq_s rfl rfl ?_
            refine sq_s rfl rfl ?_
            refine sq_s rfl rfl ?_
            refine sq_v rfl (v_pickf rfl rfl) rfl ?_
            refine sq_v rfl (v_move rfl) rfl ?_
            refine sq_s rfl rfl ?_
            refine sq_s rfl rfl ?_
            refine sq_s rfl rfl ?_
            refine sq_s rfl rfl ?_
            refine sq_s rfl rfl ?_
            refine sq_v rfl (v_pickf rfl rfl) rfl ?_
            refine sq_v rfl (v_assign rfl) rfl ?_
            refine sq_end ?_
            refine qs_n ?_
            refine wp_rt ?_
            refine qs_br ?_
            refine qs_r ?_
            exact qs_ret1 rfl rfl (fin_q (i := 3) rfl (homB_of (ringB_true.1 c9) (ringB_true.1 c15) (by have z1 := ring_zero (ringB_true.1 c9); have z2 := ring_zero (ringB_true.1 c15); simp [homD, cutP, *] <;> omega)))
        · refine wp_sc ?_
          refine wp_sq ?_
          refine sq_v rfl (v_eql rfl rfl) rfl ?_
          refine sq_v rfl (v_assign rfl) rfl ?_
          refine sq_end ?_
          refine qs_n ?_
          refine wp_cd rfl (fun c53 => ?_) (fun c53 => ?_)
          · refine wp_sc ?_
            refine wp_sq ?_
            refine sq_v rfl (v_fieldAddr fd_59_1 ty_3 (by decide) rfl) rfl ?_
            refine sq_v rfl (v_loadB 0 ty_3 rfl rfl rfl) rfl ?_
            refine sq_v rfl (v_assign rfl) rfl ?_
            refine sq_end ?_
            refine qs_n ?_
            refine wp_sc ?_
            refine wp_rj 45 [(0, true), (1, true), (2, true), (3, true), (4, true), (5, true), (6, true), (7, true), (8, true), (9, true), (10, true), (11, true), (12, true), (13, true), (14, true), (15, true), (16, true), (17, true), (18, true), (19, true), (20, false), (21, true), (22, true), (23, true), (24, true), (25, true), (26, true), (27, true), (28, true), (29, true), (30, true), (31, true), (32, true), (33, true), (34, true), (35, true), (36, true), (37, true), (38, true), (39, true), (40, true), (41, true), (42, true), (43, true), (44, true)] mixed_ok (by kernel_rfl) ?_
            refine rj_v rfl rfl (v_fieldAddr fd_30_0 ty_3 (by decide) rfl) rfl ?_
            refine rj_v rfl rfl (v_loadB 2 ty_3 rfl rfl rfl) rfl ?_
            refine rj_v rfl rfl (v_eql rfl rfl) rfl ?_
            refine rj_bd 59 rfl (fun c59 => ?_) (fun c59 => ?_)
            · refine rj_v rfl rfl (v_move rfl) rfl ?_
              refine rj_v rfl rfl (v_fieldAddr fd_30_0 ty_3 (by decide) rfl) rfl ?_
              refine rj_v rfl rfl (v_loadB 1 ty_3 rfl rfl rfl) rfl ?_
              refine rj_v rfl rfl (v_eql rfl rfl) rfl ?_
              refine rj_v rfl rfl (v_pickt rfl rfl) rfl ?_
              refine rj_bd 64 rfl (fun c64 => ?_) (fun c64 => ?_)
              · refine rj_v rfl rfl (v_move rfl) rfl ?_
                refine rj_v rfl rfl (v_fieldAddr fd_30_1 ty_3 (by decide) rfl) rfl ?_
                refine rj_v rfl rfl (v_loadB 2 ty_3 rfl rfl rfl) rfl ?_
                refine rj_v rfl rfl (v_fieldAddr fd_30_1 ty_3 (by decide) rfl) rfl ?_
                refine rj_v rfl rfl (v_loadB 1 ty_3 rfl rfl rfl) rfl ?_
                refine rj_v rfl rfl (v_eql rfl rfl) rfl ?_
                refine rj_v rfl rfl (v_pickt rfl rfl) rfl ?_
                refine rj_bd 71 rfl (fun c71 => ?_) (fun c71 => ?_)
                · refine rj_v rfl rfl (v_move rfl) rfl ?_
                  refine rj_v rfl rfl (v_move rfl) rfl ?_
                  refine rj_v rfl rfl (v_fieldAddr fd_30_1 ty_3 (by decide) rfl) rfl ?_
                  refine rj_v rfl rfl (v_loadB 2 ty_3 rfl rfl rfl) rfl ?_
                  have h2 := ring_two (ringB_true.1 c9) (by omega)
                  refine rj_v rfl rfl (v_sub rfl rfl ((by unfold I64; omega))) rfl ?_
                  refine rj_u rfl rfl (x_callv rfl en_95 (fun w s => ct_s_l01In _ _ _ w)) rfl ?_
                  refine rj_v rfl rfl (v_pickt rfl rfl) rfl ?_
                  refine rj_bd 78 rfl (fun c78 => ?_) (fun c78 => ?_)
                  · refine rj_v rfl rfl (v_move rfl) rfl ?_
                    refine rj_v rfl rfl (v_move rfl) rfl ?_
                    refine rj_v rfl rfl (v_move rfl) rfl ?_
                    have hs := sq_in h2 (a := a) (by omega); have hs2 := mul_in6 hs.2 (show 0 ≤ a ∧ a ≤ p - 1 by omega) (by omega) (by omega); have hs3 := tmod_in hs2.1 (p := p) (by omega); have hs4 := mul_in6 hs3 (show 0 ≤ a ∧ a ≤ p - 1 by omega) (by omega) (by omega); have hre := root_eq h2 (a := a) (by omega)
                    refine rj_v rfl rfl (v_mul rfl rfl ((by unfold I64; omega))) rfl ?_
                    refine rj_v rfl rfl (v_fieldAddr fd_30_1 ty_3 (by decide) rfl) rfl ?_
                    refine rj_v rfl rfl (v_loadB 2 ty_3 rfl rfl rfl) rfl ?_
                    refine rj_v rfl rfl (v_rem rfl rfl (by omega)) rfl ?_
                    refine rj_v rfl rfl (v_move rfl) rfl ?_
                    refine rj_v rfl rfl (v_mul rfl rfl ((by unfold I64; omega))) rfl ?_
                    refine rj_v rfl rfl (v_fieldAddr fd_30_1 ty_3 (by decide) rfl) rfl ?_
                    refine rj_v rfl rfl (v_loadB 2 ty_3 rfl rfl rfl) rfl ?_
                    refine rj_v rfl rfl (v_rem rfl rfl (by omega)) rfl ?_
                    refine rj_v rfl rfl (v_move rfl) rfl ?_
                    refine rj_v rfl rfl (v_mul rfl rfl ((by unfold I64; omega))) rfl ?_
                    refine rj_v rfl rfl (v_fieldAddr fd_30_1 ty_3 (by decide) rfl) rfl ?_
                    refine rj_v rfl rfl (v_loadB 2 ty_3 rfl rfl rfl) rfl ?_
                    refine rj_v rfl rfl (v_rem rfl rfl (by omega)) rfl ?_
                    refine rj_v rfl rfl (v_fieldAddr fd_30_1 ty_3 (by decide) rfl) rfl ?_
                    refine rj_v rfl rfl (v_loadB 2 ty_3 rfl rfl rfl) rfl ?_
                    refine rj_v rfl rfl (v_sub rfl rfl ((by unfold I64; omega))) rfl ?_
                    refine rj_v rfl rfl (v_eql rfl rfl) rfl ?_
                    refine rj_v rfl rfl (v_pickt rfl rfl) rfl ?_
                    refine rj_v rfl rfl (v_assign rfl) rfl ?_
                    refine rj_end ?_
                    refine qs_n ?_
                    refine wp_rt ?_
                    refine qs_br ?_
                    refine qs_r ?_
                    exact qs_ret1 rfl rfl (fin_q (i := 3) rfl (homB_of (ringB_true.1 c9) (ringB_true.1 c15) (by first | (simp [homD, cutP, *] <;> omega) | (simp [homD, rootP, *] <;> omega) | (rw [decide_eq_true_iff, hre]; simp [homD, rootP, *] <;> omega))))
                  · refine rj_v rfl rfl (v_move rfl) rfl ?_
                    refine rj_s rfl rfl rfl ?_
                    refine rj_s rfl rfl rfl ?_
                    refine rj_s rfl rfl rfl ?_
                    refine rj_s rfl rfl rfl ?_
                    refine rj_s rfl rfl rfl ?_
                    refine rj_s rfl rfl rfl ?_
                    refine rj_s rfl rfl rfl ?_
                    refine rj_s rfl rfl rfl ?_
                    refine rj_s rfl rfl rfl ?_
                    refine rj_s rfl rfl rfl ?_
                    refine rj_s rfl rfl rfl ?_
                    refine rj_s rfl rfl rfl ?_
                    refine rj_s rfl rfl rfl ?_
                    refine rj_s rfl rfl rfl ?_
                    refine rj_s rfl rfl rfl ?_
                    refine rj_s rfl rfl rfl ?_
                    refine rj_s rfl rfl rfl ?_
                    refine rj_s rfl rfl rfl ?_
                    refine rj_s rfl rfl rfl ?_
                    refine rj_s rfl rfl rfl ?_
                    refine rj_v rfl rfl (v_pickf rfl rfl) rfl ?_
                    refine rj_v rfl rfl (v_assign rfl) rfl ?_
                    refine rj_end ?_
                    refine qs_n ?_
                    refine wp_rt ?_
                    refine qs_br ?_
                    refine qs_r ?_
                    exact qs_ret1 rfl rfl (fin_q (i := 3) rfl (homB_of (ringB_true.1 c9) (ringB_true.1 c15) (by first | (simp [homD, cutP, *] <;> omega) | (simp [homD, rootP, *] <;> omega) | (rw [decide_eq_true_iff, hre]; simp [homD, rootP, *] <;> omega))))
                · refine rj_v rfl rfl (v_move rfl) rfl ?_
                  refine rj_s rfl rfl rfl ?_
                  refine rj_s rfl rfl rfl ?_
                  refine rj_s rfl rfl rfl ?_
                  refine rj_s rfl rfl rfl ?_
                  refine rj_fs rfl rfl rfl ?_
                  refine rj_v rfl rfl (v_pickf rfl rfl) rfl ?_
                  refine rj_v rfl rfl (v_move rfl) rfl ?_
                  refine rj_s rfl rfl rfl ?_
                  refine rj_s rfl rfl rfl ?_
                  refine rj_s rfl rfl rfl ?_
                  refine rj_s rfl rfl rfl ?_
                  refine rj_s rfl rfl rfl ?_
                  refine rj_s rfl rfl rfl ?_
                  refine rj_s rfl rfl rfl ?_
                  refine rj_s rfl rfl rfl ?_
                  refine rj_s rfl rfl rfl ?_
                  refine rj_s rfl rfl rfl ?_
                  refine rj_s rfl rfl rfl ?_
                  refine rj_s rfl rfl rfl ?_
                  refine rj_s rfl rfl rfl ?_
                  refine rj_s rfl rfl rfl ?_
                  refine rj_s rfl rfl rfl ?_
                  refine rj_s rfl rfl rfl ?_
                  refine rj_s rfl rfl rfl ?_
                  refine rj_s rfl rfl rfl ?_
                  refine rj_s rfl rfl rfl ?_
                  refine rj_s rfl rfl rfl ?_
                  refine rj_v rfl rfl (v_pickf rfl rfl) rfl ?_
                  refine rj_v rfl rfl (v_assign rfl) rfl ?_
                  refine rj_end ?_
                  refine qs_n ?_
                  refine wp_rt ?_
                  refine qs_br ?_
                  refine qs_r ?_
                  exact qs_ret1 rfl rfl (fin_q (i := 3) rfl (homB_of (ringB_true.1 c9) (ringB_true.1 c15) (by first | (simp [homD, cutP, *] <;> omega) | (simp [homD, rootP, *] <;> omega) | (rw [decide_eq_true_iff, hre]; simp [homD, rootP, *] <;> omega))))
              · refine rj_v rfl rfl (v_move rfl) rfl ?_
                refine rj_s rfl rfl rfl ?_
                refine rj_s rfl rfl rfl ?_
                refine rj_s rfl rfl rfl ?_
                refine rj_s rfl rfl rfl ?_
                refine rj_s rfl rfl rfl ?_
                refine rj_v rfl rfl (v_pickf rfl rfl) rfl ?_
                refine rj_v rfl rfl (v_move rfl) rfl ?_
                refine rj_s rfl rfl rfl ?_
                refine rj_s rfl rfl rfl ?_
                refine rj_s rfl rfl rfl ?_
                refine rj_s rfl rfl rfl ?_
                refine rj_fs rfl rfl rfl ?_
                refine rj_v rfl rfl (v_pickf rfl rfl) rfl ?_
                refine rj_v rfl rfl (v_move rfl) rfl ?_
                refine rj_s rfl rfl rfl ?_
                refine rj_s rfl rfl rfl ?_
                refine rj_s rfl rfl rfl ?_
                refine rj_s rfl rfl rfl ?_
                refine rj_s rfl rfl rfl ?_
                refine rj_s rfl rfl rfl ?_
                refine rj_s rfl rfl rfl ?_
                refine rj_s rfl rfl rfl ?_
                refine rj_s rfl rfl rfl ?_
                refine rj_s rfl rfl rfl ?_
                refine rj_s rfl rfl rfl ?_
                refine rj_s rfl rfl rfl ?_
                refine rj_s rfl rfl rfl ?_
                refine rj_s rfl rfl rfl ?_
                refine rj_s rfl rfl rfl ?_
                refine rj_s rfl rfl rfl ?_
                refine rj_s rfl rfl rfl ?_
                refine rj_s rfl rfl rfl ?_
                refine rj_s rfl rfl rfl ?_
                refine rj_s rfl rfl rfl ?_
                refine rj_v rfl rfl (v_pickf rfl rfl) rfl ?_
                refine rj_v rfl rfl (v_assign rfl) rfl ?_
                refine rj_end ?_
                refine qs_n ?_
                refine wp_rt ?_
                refine qs_br ?_
                refine qs_r ?_
                exact qs_ret1 rfl rfl (fin_q (i := 3) rfl (homB_of (ringB_true.1 c9) (ringB_true.1 c15) (by first | (simp [homD, cutP, *] <;> omega) | (simp [homD, rootP, *] <;> omega) | (rw [decide_eq_true_iff, hre]; simp [homD, rootP, *] <;> omega))))
            · refine rj_v rfl rfl (v_move rfl) rfl ?_
              refine rj_s rfl rfl rfl ?_
              refine rj_s rfl rfl rfl ?_
              refine rj_s rfl rfl rfl ?_
              refine rj_v rfl rfl (v_pickf rfl rfl) rfl ?_
              refine rj_v rfl rfl (v_move rfl) rfl ?_
              refine rj_s rfl rfl rfl ?_
              refine rj_s rfl rfl rfl ?_
              refine rj_s rfl rfl rfl ?_
              refine rj_s rfl rfl rfl ?_
              refine rj_s rfl rfl rfl ?_
              refine rj_v rfl rfl (v_pickf rfl rfl) rfl ?_
              refine rj_v rfl rfl (v_move rfl) rfl ?_
              refine rj_s rfl rfl rfl ?_
              refine rj_s rfl rfl rfl ?_
              refine rj_s rfl rfl rfl ?_
              refine rj_s rfl rfl rfl ?_
              refine rj_fs rfl rfl rfl ?_
              refine rj_v rfl rfl (v_pickf rfl rfl) rfl ?_
              refine rj_v rfl rfl (v_move rfl) rfl ?_
              refine rj_s rfl rfl rfl ?_
              refine rj_s rfl rfl rfl ?_
              refine rj_s rfl rfl rfl ?_
              refine rj_s rfl rfl rfl ?_
              refine rj_s rfl rfl rfl ?_
              refine rj_s rfl rfl rfl ?_
              refine rj_s rfl rfl rfl ?_
              refine rj_s rfl rfl rfl ?_
              refine rj_s rfl rfl rfl ?_
              refine rj_s rfl rfl rfl ?_
              refine rj_s rfl rfl rfl ?_
              refine rj_s rfl rfl rfl ?_
              refine rj_s rfl rfl rfl ?_
              refine rj_s rfl rfl rfl ?_
              refine rj_s rfl rfl rfl ?_
              refine rj_s rfl rfl rfl ?_
              refine rj_s rfl rfl rfl ?_
              refine rj_s rfl rfl rfl ?_
              refine rj_s rfl rfl rfl ?_
              refine rj_s rfl rfl rfl ?_
              refine rj_v rfl rfl (v_pickf rfl rfl) rfl ?_
              refine rj_v rfl rfl (v_assign rfl) rfl ?_
              refine rj_end ?_
              refine qs_n ?_
              refine wp_rt ?_
              refine qs_br ?_
              refine qs_r ?_
              exact qs_ret1 rfl rfl (fin_q (i := 3) rfl (homB_of (ringB_true.1 c9) (ringB_true.1 c15) (by first | (simp [homD, cutP, *] <;> omega) | (simp [homD, rootP, *] <;> omega) | (rw [decide_eq_true_iff, hre]; simp [homD, rootP, *] <;> omega))))
          · refine wp_sk ?_
            refine qs_bn ?_
            refine qs_n ?_
            refine wp_sc ?_
            refine wp_sc ?_
            refine wp_sq ?_
            refine sq_v rfl (v_fieldAddr fd_59_1 ty_3 (by decide) rfl) rfl ?_
            refine sq_v rfl (v_loadB 0 ty_3 rfl rfl rfl) rfl ?_
            refine sq_v rfl (v_neq rfl rfl) rfl ?_
            refine sq_end ?_
            refine qs_n ?_
            refine wp_cd rfl (fun c103 => ?_) (fun c103 => ?_)
            · refine wp_sc ?_
              refine wp_sq ?_
              refine sq_v rfl (v_assign rfl) rfl ?_
              refine sq_end ?_
              refine qs_n ?_
              refine wp_rt ?_
              refine qs_r ?_
              exact qs_ret1 rfl rfl (fin_q (i := 3) rfl (homB_of (ringB_true.1 c9) (ringB_true.1 c15) (by have z1 := ring_zero (ringB_true.1 c9); have z2 := ring_zero (ringB_true.1 c15); simp [homD, cutP, *] <;> omega)))
            · refine wp_sk ?_
              refine qs_n ?_
              refine wp_sc ?_
              refine wp_sc ?_
              refine wp_sq ?_
              refine sq_v rfl (v_fieldAddr fd_59_0 ty_3 (by decide) rfl) rfl ?_
              refine sq_v rfl (v_loadB 0 ty_3 rfl rfl rfl) rfl ?_
              refine sq_end ?_
              refine qs_n ?_
              refine wp_bl ?_
              refine wp_sc ?_
              refine wp_sq ?_
              refine sq_v rfl (v_eql rfl rfl) rfl ?_
              refine sq_v rfl (v_assign rfl) rfl ?_
              refine sq_end ?_
              refine qs_n ?_
              refine wp_cd rfl (fun c106 => ?_) (fun c106 => ?_)
              · refine wp_sc ?_
                refine wp_sq ?_
                refine sq_v rfl (v_loadNB 2 ty_30 rfl rfl rfl rfl) rfl ?_
                refine sq_v rfl (v_loadNB 1 ty_30 rfl rfl rfl rfl) rfl ?_
                refine sq_v rfl (v_eqlG (by kernel_rfl) (ring_eq _ _ _ _ _ _) rfl rfl) rfl ?_
                refine sq_v rfl (v_assign rfl) rfl ?_
                refine sq_end ?_
                refine qs_n ?_
                refine wp_rt ?_
                refine qs_br ?_
                refine qs_r ?_
                exact qs_ret1 rfl rfl (fin_q (i := 3) rfl (homB_of (ringB_true.1 c9) (ringB_true.1 c15) (by have z1 := ring_zero (ringB_true.1 c9); have z2 := ring_zero (ringB_true.1 c15); simp [homD, cutP, *] <;> omega)))
              · refine wp_sc ?_
                refine wp_sq ?_
                refine sq_v rfl (v_eql rfl rfl) rfl ?_
                refine sq_v rfl (v_assign rfl) rfl ?_
                refine sq_end ?_
                refine qs_n ?_
                refine wp_cd rfl (fun c111 => ?_) (fun c111 => ?_)
                · refine wp_sc ?_
                  refine wp_sq ?_
                  refine sq_v rfl (v_fieldAddr fd_30_0 ty_3 (by decide) rfl) rfl ?_
                  refine sq_v rfl (v_loadB 2 ty_3 rfl rfl rfl) rfl ?_
                  refine sq_v rfl (v_eql rfl rfl) rfl ?_
                  refine sq_bd 115 rfl (fun c115 => ?_) (fun c115 => ?_)
                  · refine sq_v rfl (v_move rfl) rfl ?_
                    refine sq_s rfl rfl ?_
                    refine sq_s rfl rfl ?_
                    refine sq_s rfl rfl ?_
                    refine sq_v rfl (v_pickt rfl rfl) rfl ?_
                    refine sq_v rfl (v_move rfl) rfl ?_
                    refine sq_v rfl (v_fieldAddr fd_30_0 ty_3 (by decide) rfl) rfl ?_
                    refine sq_v rfl (v_loadB 1 ty_3 rfl rfl rfl) rfl ?_
                    refine sq_v rfl (v_eql rfl rfl) rfl ?_
                    refine sq_v rfl (v_pickt rfl rfl) rfl ?_
                    refine sq_v rfl (v_assign rfl) rfl ?_
                    refine sq_end ?_
                    refine qs_n ?_
                    refine wp_rt ?_
                    refine qs_br ?_
                    refine qs_r ?_
                    exact qs_ret1 rfl rfl (fin_q (i := 3) rfl (homB_of (ringB_true.1 c9) (ringB_true.1 c15) (by have z1 := ring_zero (ringB_true.1 c9); have z2 := ring_zero (ringB_true.1 c15); simp [homD, cutP, *] <;> omega)))
                  · refine sq_v rfl (v_move rfl) rfl ?_
                    refine sq_v rfl (v_fieldAddr fd_30_0 ty_3 (by decide) rfl) rfl ?_
                    refine sq_v rfl (v_loadB 2 ty_3 rfl rfl rfl) rfl ?_
                    refine sq_v rfl (v_eql rfl rfl) rfl ?_
                    refine sq_v rfl (v_pickf rfl rfl) rfl ?_
                    refine sq_bd 120 rfl (fun c120 => ?_) (fun c120 => ?_)
                    · refine sq_v rfl (v_move rfl) rfl ?_
                      refine sq_v rfl (v_fieldAddr fd_30_0 ty_3 (by decide) rfl) rfl ?_
                      refine sq_v rfl (v_loadB 1 ty_3 rfl rfl rfl) rfl ?_
                      refine sq_v rfl (v_eql rfl rfl) rfl ?_
                      refine sq_v rfl (v_pickt rfl rfl) rfl ?_
                      refine sq_v rfl (v_assign rfl) rfl ?_
                      refine sq_end ?_
                      refine qs_n ?_
                      refine wp_rt ?_
                      refine qs_br ?_
                      refine qs_r ?_
                      exact qs_ret1 rfl rfl (fin_q (i := 3) rfl (homB_of (ringB_true.1 c9) (ringB_true.1 c15) (by have z1 := ring_zero (ringB_true.1 c9); have z2 := ring_zero (ringB_true.1 c15); simp [homD, cutP, *] <;> omega)))
                    · refine sq_v rfl (v_move rfl) rfl ?_
                      refine sq_s rfl rfl ?_
                      refine sq_s rfl rfl ?_
                      refine sq_s rfl rfl ?_
                      refine sq_v rfl (v_pickf rfl rfl) rfl ?_
                      refine sq_v rfl (v_assign rfl) rfl ?_
                      refine sq_end ?_
                      refine qs_n ?_
                      refine wp_rt ?_
                      refine qs_br ?_
                      refine qs_r ?_
                      exact qs_ret1 rfl rfl (fin_q (i := 3) rfl (homB_of (ringB_true.1 c9) (ringB_true.1 c15) (by have z1 := ring_zero (ringB_true.1 c9); have z2 := ring_zero (ringB_true.1 c15); simp [homD, cutP, *] <;> omega)))
                · refine wp_sc ?_
                  refine wp_sq ?_
                  refine sq_v rfl (v_eql rfl rfl) rfl ?_
                  refine sq_v rfl (v_assign rfl) rfl ?_
                  refine sq_end ?_
                  refine qs_n ?_
                  refine wp_cd rfl (fun c126 => ?_) (fun c126 => ?_)
                  · refine wp_sc ?_
                    refine wp_sq ?_
                    refine sq_v rfl (v_fieldAddr fd_30_0 ty_3 (by decide) rfl) rfl ?_
                    refine sq_v rfl (v_loadB 2 ty_3 rfl rfl rfl) rfl ?_
                    refine sq_v rfl (v_eql rfl rfl) rfl ?_
                    refine sq_bd 130 rfl (fun c130 => ?_) (fun c130 => ?_)
                    · refine sq_v rfl (v_move rfl) rfl ?_
                      refine sq_v rfl (v_fieldAddr fd_30_0 ty_3 (by decide) rfl) rfl ?_
                      refine sq_v rfl (v_loadB 1 ty_3 rfl rfl rfl) rfl ?_
                      refine sq_v rfl (v_eql rfl rfl) rfl ?_
                      refine sq_v rfl (v_pickt rfl rfl) rfl ?_
                      refine sq_bd 135 rfl (fun c135 => ?_) (fun c135 => ?_)
                      · refine sq_v rfl (v_move rfl) rfl ?_
                        refine sq_v rfl (v_fieldAddr fd_30_1 ty_3 (by decide) rfl) rfl ?_
                        refine sq_v rfl (v_loadB 2 ty_3 rfl rfl rfl) rfl ?_
                        refine sq_v rfl (v_fieldAddr fd_30_1 ty_3 (by decide) rfl) rfl ?_
                        refine sq_v rfl (v_loadB 1 ty_3 rfl rfl rfl) rfl ?_
                        refine sq_v rfl (v_eql rfl rfl) rfl ?_
                        refine sq_v rfl (v_pickt rfl rfl) rfl ?_
                        refine sq_v rfl (v_assign rfl) rfl ?_
                        refine sq_end ?_
                        refine qs_n ?_
                        refine wp_rt ?_
                        refine qs_br ?_
                        refine qs_r ?_
                        exact qs_ret1 rfl rfl (fin_q (i := 3) rfl (homB_of (ringB_true.1 c9) (ringB_true.1 c15) (by have z1 := ring_zero (ringB_true.1 c9); have z2 := ring_zero (ringB_true.1 c15); simp [homD, cutP, *] <;> omega)))
                      · refine sq_v rfl (v_move rfl) rfl ?_
                        refine sq_s rfl rfl ?_
                        refine sq_s rfl rfl ?_
                        refine sq_s rfl rfl ?_
                        refine sq_s rfl rfl ?_
                        refine sq_s rfl rfl ?_
                        refine sq_v rfl (v_pickf rfl rfl) rfl ?_
                        refine sq_v rfl (v_assign rfl) rfl ?_
                        refine sq_end ?_
                        refine qs_n ?_
                        refine wp_rt ?_
                        refine qs_br ?_
                        refine qs_r ?_
                        exact qs_ret1 rfl rfl (fin_q (i := 3) rfl (homB_of (ringB_true.1 c9) (ringB_true.1 c15) (by have z1 := ring_zero (ringB_true.1 c9); have z2 := ring_zero (ringB_true.1 c15); simp [homD, cutP, *] <;> omega)))
                    · refine sq_v rfl (v_move rfl) rfl ?_
                      refine sq_s rfl rfl ?_
                      refine sq_s rfl rfl ?_
                      refine sq_s rfl rfl ?_
                      refine sq_v rfl (v_pickf rfl rfl) rfl ?_
                      refine sq_v rfl (v_move rfl) rfl ?_
                      refine sq_s rfl rfl ?_
                      refine sq_s rfl rfl ?_
                      refine sq_s rfl rfl ?_
                      refine sq_s rfl rfl ?_
                      refine sq_s rfl rfl ?_
                      refine sq_v rfl (v_pickf rfl rfl) rfl ?_
                      refine sq_v rfl (v_assign rfl) rfl ?_
                      refine sq_end ?_
                      refine qs_n ?_
                      refine wp_rt ?_
                      refine qs_br ?_
                      refine qs_r ?_
                      exact qs_ret1 rfl rfl (fin_q (i := 3) rfl (homB_of (ringB_true.1 c9) (ringB_true.1 c15) (by have z1 := ring_zero (ringB_true.1 c9); have z2 := ring_zero (ringB_true.1 c15); simp [homD, cutP, *] <;> omega)))
                  · refine wp_sc ?_
                    refine wp_sq ?_
                    refine sq_v rfl (v_eql rfl rfl) rfl ?_
                    refine sq_v rfl (v_assign rfl) rfl ?_
                    refine sq_end ?_
                    refine qs_n ?_
                    refine wp_cd rfl (fun c143 => ?_) (fun c143 => ?_)
                    · refine wp_sc ?_
                      refine wp_sq ?_
                      refine sq_v rfl (v_fieldAddr fd_30_0 ty_3 (by decide) rfl) rfl ?_
                      refine sq_v rfl (v_loadB 2 ty_3 rfl rfl rfl) rfl ?_
                      refine sq_end ?_
                      refine qs_n ?_
                      refine wp_bl ?_
                      refine wp_sc ?_
                      refine wp_sc ?_
                      refine wp_sq ?_
                      refine sq_v rfl (v_eql rfl rfl) rfl ?_
                      refine sq_v rfl (v_assign rfl) rfl ?_
                      refine sq_end ?_
                      refine qs_n ?_
                      refine wp_cSd rfl (fun c147 => ?_) (fun c147 => ?_)
                      · refine wp_sk ?_
                        refine qs_n ?_
                        refine wp_ct rfl ?_
                        refine wp_sc ?_
                        refine wp_sq ?_
                        refine sq_v rfl (v_fieldAddr fd_30_0 ty_3 (by decide) rfl) rfl ?_
                        refine sq_v rfl (v_loadB 1 ty_3 rfl rfl rfl) rfl ?_
                        refine sq_v rfl (v_fieldAddr fd_30_0 ty_3 (by decide) rfl) rfl ?_
                        refine sq_v rfl (v_loadB 2 ty_3 rfl rfl rfl) rfl ?_
                        refine sq_v rfl (v_eql rfl rfl) rfl ?_
                        refine sq_bd 155 rfl (fun c155 => ?_) (fun c155 => ?_)
                        · refine sq_v rfl (v_move rfl) rfl ?_
                          refine sq_v rfl (v_fieldAddr fd_30_1 ty_3 (by decide) rfl) rfl ?_
                          refine sq_v rfl (v_loadB 1 ty_3 rfl rfl rfl) rfl ?_
                          refine sq_v rfl (v_fieldAddr fd_30_1 ty_3 (by decide) rfl) rfl ?_
                          refine sq_v rfl (v_loadB 2 ty_3 rfl rfl rfl) rfl ?_
                          refine sq_v rfl (v_leq rfl rfl) rfl ?_
                          refine sq_v rfl (v_pickt rfl rfl) rfl ?_
                          refine sq_v rfl (v_assign rfl) rfl ?_
                          refine sq_end ?_
                          refine qs_n ?_
                          refine wp_rt ?_
                          refine qs_br ?_
                          refine qs_br ?_
                          refine qs_r ?_
                          exact qs_ret1 rfl rfl (fin_q (i := 3) rfl (homB_of (ringB_true.1 c9) (ringB_true.1 c15) (by have z1 := ring_zero (ringB_true.1 c9); have z2 := ring_zero (ringB_true.1 c15); simp [homD, cutP, *] <;> omega)))
                        · refine sq_v rfl (v_move rfl) rfl ?_
                          refine sq_s rfl rfl ?_
                          refine sq_s rfl rfl ?_
                          refine sq_s rfl rfl ?_
                          refine sq_s rfl rfl ?_
                          refine sq_s rfl rfl ?_
                          refine sq_v rfl (v_pickf rfl rfl) rfl ?_
                          refine sq_v rfl (v_assign rfl) rfl ?_
                          refine sq_end ?_
                          refine qs_n ?_
                          refine wp_rt ?_
                          refine qs_br ?_
                          refine qs_br ?_
                          refine qs_r ?_
                          exact qs_ret1 rfl rfl (fin_q (i := 3) rfl (homB_of (ringB_true.1 c9) (ringB_true.1 c15) (by have z1 := ring_zero (ringB_true.1 c9); have z2 := ring_zero (ringB_true.1 c15); simp [homD, cutP, *] <;> omega)))
                      · refine wp_sc ?_
                        refine wp_sq ?_
                        refine sq_v rfl (v_eql rfl rfl) rfl ?_
                        refine sq_v rfl (v_assign rfl) rfl ?_
                        refine sq_end ?_
                        refine qs_n ?_
                        refine wp_cSd rfl (fun c147 => ?_) (fun c147 => ?_)
                        · refine wp_sk ?_
                          refine qs_n ?_
                          refine wp_ct rfl ?_
                          refine wp_sc ?_
                          refine wp_sq ?_
                          refine sq_v rfl (v_fieldAddr fd_30_0 ty_3 (by decide) rfl) rfl ?_
                          refine sq_v rfl (v_loadB 1 ty_3 rfl rfl rfl) rfl ?_
                          refine sq_v rfl (v_fieldAddr fd_30_0 ty_3 (by decide) rfl) rfl ?_
                          refine sq_v rfl (v_loadB 2 ty_3 rfl rfl rfl) rfl ?_
                          refine sq_v rfl (v_eql rfl rfl) rfl ?_
                          refine sq_bd 155 rfl (fun c155 => ?_) (fun c155 => ?_)
                          · refine sq_v rfl (v_move rfl) rfl ?_
                            refine sq_v rfl (v_fieldAddr fd_30_1 ty_3 (by decide) rfl) rfl ?_
                            refine sq_v rfl (v_loadB 1 ty_3 rfl rfl rfl) rfl ?_
                            refine sq_v rfl (v_fieldAddr fd_30_1 ty_3 (by decide) rfl) rfl ?_
                            refine sq_v rfl (v_loadB 2 ty_3 rfl rfl rfl) rfl ?_
                            refine sq_v rfl (v_leq rfl rfl) rfl ?_
                            refine sq_v rfl (v_pickt rfl rfl) rfl ?_
                            refine sq_v rfl (v_assign rfl) rfl ?_
                            refine sq_end ?_
                            refine qs_n ?_
                            refine wp_rt ?_
                            refine qs_br ?_
                            refine qs_br ?_
                            refine qs_r ?_
                            exact qs_ret1 rfl rfl (fin_q (i := 3) rfl (homB_of (ringB_true.1 c9) (ringB_true.1 c15) (by have z1 := ring_zero (ringB_true.1 c9); have z2 := ring_zero (ringB_true.1 c15); simp [homD, cutP, *] <;> omega)))
                          · refine sq_v rfl (v_move rfl) rfl ?_
                            refine sq_s rfl rfl ?_
                            refine sq_s rfl rfl ?_
                            refine sq_s rfl rfl ?_
                            refine sq_s rfl rfl ?_
                            refine sq_s rfl rfl ?_
                            refine sq_v rfl (v_pickf rfl rfl) rfl ?_
                            refine sq_v rfl (v_assign rfl) rfl ?_
                            refine sq_end ?_
                            refine qs_n ?_
                            refine wp_rt ?_
                            refine qs_br ?_
                            refine qs_br ?_
                            refine qs_r ?_
                            exact qs_ret1 rfl rfl (fin_q (i := 3) rfl (homB_of (ringB_true.1 c9) (ringB_true.1 c15) (by have z1 := ring_zero (ringB_true.1 c9); have z2 := ring_zero (ringB_true.1 c15); simp [homD, cutP, *] <;> omega)))
                        · refine wp_sq ?_
                          refine sq_v rfl (v_eql rfl rfl) rfl ?_
                          refine sq_v rfl (v_assign rfl) rfl ?_
                          refine sq_end ?_
                          refine qs_n ?_
                          refine wp_cSd rfl (fun c147 => ?_) (fun c147 => ?_)
                          · refine wp_sc ?_
                            refine wp_sq ?_
                            refine sq_v rfl (v_fieldAddr fd_30_0 ty_3 (by decide) rfl) rfl ?_
                            refine sq_v rfl (v_loadB 1 ty_3 rfl rfl rfl) rfl ?_
                            refine sq_v rfl (v_fieldAddr fd_30_0 ty_3 (by decide) rfl) rfl ?_
                            refine sq_v rfl (v_loadB 2 ty_3 rfl rfl rfl) rfl ?_
                            refine sq_v rfl (v_eql rfl rfl) rfl ?_
                            refine sq_bd 155 rfl (fun c155 => ?_) (fun c155 => ?_)
                            · refine sq_v rfl (v_move rfl) rfl ?_
                              refine sq_v rfl (v_fieldAddr fd_30_1 ty_3 (by decide) rfl) rfl ?_
                              refine sq_v rfl (v_loadB 1 ty_3 rfl rfl rfl) rfl ?_
                              refine sq_v rfl (v_fieldAddr fd_30_1 ty_3 (by decide) rfl) rfl ?_
                              refine sq_v rfl (v_loadB 2 ty_3 rfl rfl rfl) rfl ?_
                              refine sq_v rfl (v_leq rfl rfl) rfl ?_
                              refine sq_v rfl (v_pickt rfl rfl) rfl ?_
                              refine sq_v rfl (v_assign rfl) rfl ?_
                              refine sq_end ?_
                              refine qs_n ?_
                              refine wp_rt ?_
                              refine qs_br ?_
                              refine qs_br ?_
                              refine qs_r ?_
                              exact qs_ret1 rfl rfl (fin_q (i := 3) rfl (homB_of (ringB_true.1 c9) (ringB_true.1 c15) (by have z1 := ring_zero (ringB_true.1 c9); have z2 := ring_zero (ringB_true.1 c15); simp [homD, cutP, *] <;> omega)))
                            · refine sq_v rfl (v_move rfl) rfl ?_
                              refine sq_s rfl rfl ?_
                              refine sq_s rfl rfl ?_
                              refine sq_s rfl rfl ?_
                              refine sq_s rfl rfl ?_
                              refine sq_s rfl rfl ?_
                              refine sq_v rfl (v_pickf rfl rfl) rfl ?_
                              refine sq_v rfl (v_assign rfl) rfl ?_
                              refine sq_end ?_
                              refine qs_n ?_
                              refine wp_rt ?_
                              refine qs_br ?_
                              refine qs_br ?_
                              refine qs_r ?_
                              exact qs_ret1 rfl rfl (fin_q (i := 3) rfl (homB_of (ringB_true.1 c9) (ringB_true.1 c15) (by have z1 := ring_zero (ringB_true.1 c9); have z2 := ring_zero (ringB_true.1 c15); simp [homD, cutP, *] <;> omega)))
                          · refine wp_sc ?_
                            refine wp_sc ?_
                            refine wp_sq ?_
                            refine sq_v rfl (v_eql rfl rfl) rfl ?_
                            refine sq_v rfl (v_assign rfl) rfl ?_
                            refine sq_end ?_
                            refine qs_n ?_
                            refine wp_cSd rfl (fun c163 => ?_) (fun c163 => ?_)
                            · refine wp_sk ?_
                              refine qs_n ?_
                              refine wp_ct rfl ?_
                              refine wp_sc ?_
                              refine wp_sq ?_
                              refine sq_v rfl (v_fieldAddr fd_30_0 ty_3 (by decide) rfl) rfl ?_
                              refine sq_v rfl (v_loadB 1 ty_3 rfl rfl rfl) rfl ?_
                              refine sq_v rfl (v_fieldAddr fd_30_0 ty_3 (by decide) rfl) rfl ?_
                              refine sq_v rfl (v_loadB 2 ty_3 rfl rfl rfl) rfl ?_
                              refine sq_v rfl (v_eql rfl rfl) rfl ?_
                              refine sq_bd 170 rfl (fun c170 => ?_) (fun c170 => ?_)
                              · refine sq_v rfl (v_move rfl) rfl ?_
                                refine sq_v rfl (v_fieldAddr fd_30_1 ty_3 (by decide) rfl) rfl ?_
                                refine sq_v rfl (v_loadB 1 ty_3 rfl rfl rfl) rfl ?_
                                refine sq_v rfl (v_fieldAddr fd_30_1 ty_3 (by decide) rfl) rfl ?_
                                refine sq_v rfl (v_loadB 2 ty_3 rfl rfl rfl) rfl ?_
                                refine sq_v rfl (v_eql rfl rfl) rfl ?_
                                refine sq_v rfl (v_pickt rfl rfl) rfl ?_
                                refine sq_bd 177 rfl (fun c177 => ?_) (fun c177 => ?_)
                                · refine sq_v rfl (v_move rfl) rfl ?_
                                  refine sq_v rfl (v_fieldAddr fd_30_2 ty_3 (by decide) rfl) rfl ?_
                                  refine sq_v rfl (v_loadB 1 ty_3 rfl rfl rfl) rfl ?_
                                  refine sq_v rfl (v_fieldAddr fd_30_2 ty_3 (by decide) rfl) rfl ?_
                                  refine sq_v rfl (v_loadB 2 ty_3 rfl rfl rfl) rfl ?_
                                  refine sq_v rfl (v_leq rfl rfl) rfl ?_
                                  refine sq_v rfl (v_pickt rfl rfl) rfl ?_
                                  refine sq_v rfl (v_assign rfl) rfl ?_
                                  refine sq_end ?_
                                  refine qs_n ?_
                                  refine wp_rt ?_
                                  refine qs_br ?_
                                  refine qs_br ?_
                                  refine qs_r ?_
                                  exact qs_ret1 rfl rfl (fin_q (i := 3) rfl (homB_of (ringB_true.1 c9) (ringB_true.1 c15) (by have z1 := ring_zero (ringB_true.1 c9); have z2 := ring_zero (ringB_true.1 c15); simp [homD, cutP, *] <;> omega)))
                                · refine sq_v rfl (v_move rfl) rfl ?_
                                  refine sq_s rfl rfl ?_
                                  refine sq_s rfl rfl ?_
                                  refine sq_s rfl rfl ?_
                                  refine sq_s rfl rfl ?_
                                  refine sq_s rfl rfl ?_
                                  refine sq_v rfl (v_pickf rfl rfl) rfl ?_
                                  refine sq_v rfl (v_assign rfl) rfl ?_
                                  refine sq_end ?_
                                  refine qs_n ?_
                                  refine wp_rt ?_
                                  refine qs_br ?_
                                  refine qs_br ?_
                                  refine qs_r ?_
                                  exact qs_ret1 rfl rfl (fin_q (i := 3) rfl (homB_of (ringB_true.1 c9) (ringB_true.1 c15) (by have z1 := ring_zero (ringB_true.1 c9); have z2 := ring_zero (ringB_true.1 c15); simp [homD, cutP, *] <;> omega)))
                              · refine sq_v rfl (v_move rfl) rfl ?_
                                refine sq_s rfl rfl ?_
                                refine sq_s rfl rfl ?_
                                refine sq_s rfl rfl ?_
                                refine sq_s rfl rfl ?_
                                refine sq_s rfl rfl ?_
                                refine sq_v rfl (v_pickf rfl rfl) rfl ?_
                                refine sq_v rfl (v_move rfl) rfl ?_
                                refine sq_s rfl rfl ?_
                                refine sq_s rfl rfl ?_
                                refine sq_s rfl rfl ?_
                                refine sq_s rfl rfl ?_
                                refine sq_s rfl rfl ?_
                                refine sq_v rfl (v_pickf rfl rfl) rfl ?_
                                refine sq_v rfl (v_assign rfl) rfl ?_
                                refine sq_end ?_
                                refine qs_n ?_
                                refine wp_rt ?_
                                refine qs_br ?_
                                refine qs_br ?_
                                refine qs_r ?_
                                exact qs_ret1 rfl rfl (fin_q (i := 3) rfl (homB_of (ringB_true.1 c9) (ringB_true.1 c15) (by have z1 := ring_zero (ringB_true.1 c9); have z2 := ring_zero (ringB_true.1 c15); simp [homD, cutP, *] <;> omega)))
                            · refine wp_sq ?_
                              refine sq_v rfl (v_eql rfl rfl) rfl ?_
                              refine sq_v rfl (v_assign rfl) rfl ?_
                              refine sq_end ?_
                              refine qs_n ?_
                              refine wp_cSd rfl (fun c163 => ?_) (fun c163 => ?_)
                              · refine wp_sc ?_
                                refine wp_sq ?_
                                refine sq_v rfl (v_fieldAddr fd_30_0 ty_3 (by decide) rfl) rfl ?_
                                refine sq_v rfl (v_loadB 1 ty_3 rfl rfl rfl) rfl ?_
                                refine sq_v rfl (v_fieldAddr fd_30_0 ty_3 (by decide) rfl) rfl ?_
                                refine sq_v rfl (v_loadB 2 ty_3 rfl rfl rfl) rfl ?_
                                refine sq_v rfl (v_eql rfl rfl) rfl ?_
                                refine sq_bd 170 rfl (fun c170 => ?_) (fun c170 => ?_)
                                · refine sq_v rfl (v_move rfl) rfl ?_
                                  refine sq_v rfl (v_fieldAddr fd_30_1 ty_3 (by decide) rfl) rfl ?_
                                  refine sq_v rfl (v_loadB 1 ty_3 rfl rfl rfl) rfl ?_
                                  refine sq_v rfl (v_fieldAddr fd_30_1 ty_3 (by decide) rfl) rfl ?_
                                  refine sq_v rfl (v_loadB 2 ty_3 rfl rfl rfl) rfl ?_
                                  refine sq_v rfl (v_eql rfl rfl) rfl ?_
                                  refine sq_v rfl (v_pickt rfl rfl) rfl ?_
                                  refine sq_bd 177 rfl (fun c177 => ?_) (fun c177 => ?_)
                                  · refine sq_v rfl (v_move rfl) rfl ?_
                                    refine sq_v rfl (v_fieldAddr fd_30_2 ty_3 (by decide) rfl) rfl ?_
                                    refine sq_v rfl (v_loadB 1 ty_3 rfl rfl rfl) rfl ?_
                                    refine sq_v rfl (v_fieldAddr fd_30_2 ty_3 (by decide) rfl) rfl ?_
                                    refine sq_v rfl (v_loadB 2 ty_3 rfl rfl rfl) rfl ?_
                                    refine sq_v rfl (v_leq rfl rfl) rfl ?_
                                    refine sq_v rfl (v_pickt rfl rfl) rfl ?_
                                    refine sq_v rfl (v_assign rfl) rfl ?_
                                    refine sq_end ?_
                                    refine qs_n ?_
                                    refine wp_rt ?_
                                    refine qs_br ?_
                                    refine qs_br ?_
                                    refine qs_r ?_
                                    exact qs_ret1 rfl rfl (fin_q (i := 3) rfl (homB_of (ringB_true.1 c9) (ringB_true.1 c15) (by have z1 := ring_zero (ringB_true.1 c9); have z2 := ring_zero (ringB_true.1 c15); simp [homD, cutP, *] <;> omega)))
                                  · refine sq_v rfl (v_move rfl) rfl ?_
                                    refine sq_s rfl rfl ?_
                                    refine sq_s rfl rfl ?_
                                    refine sq_s rfl rfl ?_
                                    refine sq_s rfl rfl ?_
                                    refine sq_s rfl rfl ?_
                                    refine sq_v rfl (v_pickf rfl rfl) rfl ?_
                                    refine sq_v rfl (v_assign rfl) rfl ?_
                                    refine sq_end ?_
                                    refine qs_n ?_
                                    refine wp_rt ?_
                                    refine qs_br ?_
                                    refine qs_br ?_
                                    refine qs_r ?_
                                    exact qs_ret1 rfl rfl (fin_q (i := 3) rfl (homB_of (ringB_true.1 c9) (ringB_true.1 c15) (by have z1 := ring_zero (ringB_true.1 c9); have z2 := ring_zero (ringB_true.1 c15); simp [homD, cutP, *] <;> omega)))
                                · refine sq_v rfl (v_move rfl) rfl ?_
                                  refine sq_s rfl rfl ?_
                                  refine sq_s rfl rfl ?_
                                  refine sq_s rfl rfl ?_
                                  refine sq_s rfl rfl ?_
                                  refine sq_s rfl rfl ?_
                                  refine sq_v rfl (v_pickf rfl rfl) rfl ?_
                                  refine sq_v rfl (v_move rfl) rfl ?_
                                  refine sq_s rfl rfl ?_
                                  refine sq_s rfl rfl ?_
                                  refine sq_s rfl rfl ?_
                                  refine sq_s rfl rfl ?_
                                  refine sq_s rfl rfl ?_
                                  refine sq_v rfl (v_pickf rfl rfl) rfl ?_
                                  refine sq_v rfl (v_assign rfl) rfl ?_
                                  refine sq_end ?_
                                  refine qs_n ?_
                                  refine wp_rt ?_
                                  refine qs_br ?_
                                  refine qs_br ?_
                                  refine qs_r ?_
                                  exact qs_ret1 rfl rfl (fin_q (i := 3) rfl (homB_of (ringB_true.1 c9) (ringB_true.1 c15) (by have z1 := ring_zero (ringB_true.1 c9); have z2 := ring_zero (ringB_true.1 c15); simp [homD, cutP, *] <;> omega)))
                              · refine wp_sk ?_
                                refine qs_bn ?_
                                refine qs_bn ?_
                                refine qs_n ?_
                                refine wp_sc ?_
                                refine wp_sq ?_
                                refine sq_v rfl (v_assign rfl) rfl ?_
                                refine sq_end ?_
                                refine qs_n ?_
                                refine wp_rt ?_
                                exact qs_ret1 rfl rfl (fin_q (i := 3) rfl (homB_of (ringB_true.1 c9) (ringB_true.1 c15) (by have z1 := ring_zero (ringB_true.1 c9); have z2 := ring_zero (ringB_true.1 c15); simp [homD, cutP, *] <;> omega)))
                    · refine wp_sc ?_
                      refine wp_sq ?_
                      refine sq_v rfl (v_eql rfl rfl) rfl ?_
                      refine sq_v rfl (v_assign rfl) rfl ?_
                      refine sq_end ?_
                      refine qs_n ?_
                      refine wp_cd rfl (fun c185 => ?_) (fun c185 => ?_)
                      · refine wp_sc ?_
                        refine wp_sq ?_
                        refine sq_v rfl (v_fieldAddr fd_30_0 ty_3 (by decide) rfl) rfl ?_
                        refine sq_v rfl (v_loadB 2 ty_3 rfl rfl rfl) rfl ?_
                        refine sq_v rfl (v_eql rfl rfl) rfl ?_
                        refine sq_bd 189 rfl (fun c189 => ?_) (fun c189 => ?_)
                        · refine sq_v rfl (v_move rfl) rfl ?_
                          refine sq_v rfl (v_fieldAddr fd_30_0 ty_3 (by decide) rfl) rfl ?_
                          refine sq_v rfl (v_loadB 1 ty_3 rfl rfl rfl) rfl ?_
                          refine sq_v rfl (v_eql rfl rfl) rfl ?_
                          refine sq_bd 193 rfl (fun c193 => ?_) (fun c193 => ?_)
                          · refine sq_v rfl (v_move rfl) rfl ?_
                            refine sq_s rfl rfl ?_
                            refine sq_s rfl rfl ?_
                            refine sq_s rfl rfl ?_
                            refine sq_v rfl (v_pickt rfl rfl) rfl ?_
                            refine sq_v rfl (v_move rfl) rfl ?_
                            refine sq_s rfl rfl ?_
                            refine sq_s rfl rfl ?_
                            refine sq_s rfl rfl ?_
                            refine sq_v rfl (v_pickt rfl rfl) rfl ?_
                            refine sq_v rfl (v_pickt rfl rfl) rfl ?_
                            refine sq_v rfl (v_assign rfl) rfl ?_
                            refine sq_end ?_
                            refine qs_n ?_
                            refine wp_rt ?_
                            refine qs_br ?_
                            refine qs_r ?_
                            exact qs_ret1 rfl rfl (fin_q (i := 3) rfl (homB_of (ringB_true.1 c9) (ringB_true.1 c15) (by have z1 := ring_zero (ringB_true.1 c9); have z2 := ring_zero (ringB_true.1 c15); simp [homD, cutP, *] <;> omega)))
                          · refine sq_v rfl (v_move rfl) rfl ?_
                            refine sq_v rfl (v_fieldAddr fd_30_0 ty_3 (by decide) rfl) rfl ?_
                            refine sq_v rfl (v_loadB 1 ty_3 rfl rfl rfl) rfl ?_
                            refine sq_v rfl (v_eql rfl rfl) rfl ?_
                            refine sq_v rfl (v_pickf rfl rfl) rfl ?_
                            refine sq_bd 198 rfl (fun c198 => ?_) (fun c198 => ?_)
                            · refine sq_v rfl (v_move rfl) rfl ?_
                              refine sq_s rfl rfl ?_
                              refine sq_s rfl rfl ?_
                              refine sq_s rfl rfl ?_
                              refine sq_v rfl (v_pickt rfl rfl) rfl ?_
                              refine sq_v rfl (v_pickt rfl rfl) rfl ?_
                              refine sq_v rfl (v_assign rfl) rfl ?_
                              refine sq_end ?_
                              refine qs_n ?_
                              refine wp_rt ?_
                              refine qs_br ?_
                              refine qs_r ?_
                              exact qs_ret1 rfl rfl (fin_q (i := 3) rfl (homB_of (ringB_true.1 c9) (ringB_true.1 c15) (by have z1 := ring_zero (ringB_true.1 c9); have z2 := ring_zero (ringB_true.1 c15); simp [homD, cutP, *] <;> omega)))
                            · refine sq_v rfl (v_move rfl) rfl ?_
                              refine sq_v rfl (v_fieldAddr fd_30_0 ty_3 (by decide) rfl) rfl ?_
                              refine sq_v rfl (v_loadB 1 ty_3 rfl rfl rfl) rfl ?_
                              refine sq_v rfl (v_eql rfl rfl) rfl ?_
                              refine sq_v rfl (v_pickf rfl rfl) rfl ?_
                              refine sq_v rfl (v_pickt rfl rfl) rfl ?_
                              refine sq_v rfl (v_assign rfl) rfl ?_
                              refine sq_end ?_
                              refine qs_n ?_
                              refine wp_rt ?_
                              refine qs_br ?_
                              refine qs_r ?_
                              exact qs_ret1 rfl rfl (fin_q (i := 3) rfl (homB_of (ringB_true.1 c9) (ringB_true.1 c15) (by have z1 := ring_zero (ringB_true.1 c9); have z2 := ring_zero (ringB_true.1 c15); simp [homD, cutP, *] <;> omega)))
                        · refine sq_v rfl (v_move rfl) rfl ?_
                          refine sq_s rfl rfl ?_
                          refine sq_s rfl rfl ?_
                          refine sq_s rfl rfl ?_
                          refine sq_s rfl rfl ?_
                          refine sq_s rfl rfl ?_
                          refine sq_s rfl rfl ?_
                          refine sq_s rfl rfl ?_
                          refine sq_s rfl rfl ?_
                          refine sq_s rfl rfl ?_
                          refine sq_s rfl rfl ?_
                          refine sq_s rfl rfl ?_
                          refine sq_s rfl rfl ?_
                          refine sq_s rfl rfl ?_
                          refine sq_v rfl (v_pickf rfl rfl) rfl ?_
                          refine sq_v rfl (v_assign rfl) rfl ?_
                          refine sq_end ?_
                          refine qs_n ?_
                          refine wp_rt ?_
                          refine qs_br ?_
                          refine qs_r ?_
                          exact qs_ret1 rfl rfl (fin_q (i := 3) rfl (homB_of (ringB_true.1 c9) (ringB_true.1 c15) (by have z1 := ring_zero (ringB_true.1 c9); have z2 := ring_zero (ringB_true.1 c15); simp [homD, cutP, *] <;> omega)))
                      · refine wp_sk ?_
                        refine qs_bn ?_
                        refine qs_n ?_
                        refine wp_sc ?_
                        refine wp_sq ?_
                        refine sq_v rfl (v_assign rfl) rfl ?_
                        refine sq_end ?_
                        refine qs_n ?_
                        refine wp_rt ?_
                        exact qs_ret1 rfl rfl (fin_q (i := 3) rfl (homB_of (ringB_true.1 c9) (ringB_true.1 c15) (by have z1 := ring_zero (ringB_true.1 c9); have z2 := ring_zero (ringB_true.1 c15); simp [homD, cutP, *] <;> omega)))
  · refine sq_v rfl (v_not rfl) rfl ?_
    refine sq_v rfl (v_move rfl) rfl ?_
    refine sq_s rfl rfl ?_
    refine sq_s rfl rfl ?_
    refine sq_s rfl rfl ?_
    refine sq_v rfl (v_pickt rfl rfl) rfl ?_
    refine sq_end ?_
    refine qs_n ?_
    refine wp_ct rfl ?_
    refine wp_sc ?_
    refine wp_sq ?_
    refine sq_v rfl (v_assign rfl) rfl ?_
    refine sq_end ?_
    refine qs_n ?_
    refine wp_rt ?_
    refine qs_r ?_
    exact qs_ret1 rfl rfl (fin_q (i := 3) rfl (homB_no (fun h => by first | exact ringB_false.1 c9 h.1 | exact ringB_false.1 c15 h.2.1)))
end Go.Proofs.Ytikeobneipjfnaa
namespace Go.Proofs.Ytikeobneipjfnaa
set_option maxRecDepth 100000
open Go.RowKit
theorem foldl_mul (ds : List Int) (a : Int) : ds.foldl (· * ·) a = a * prodI ds := by
  induction ds generalizing a with
  | nil => simp [prodI]
  | cons d r ih =>
    simp only [prodI, List.foldl_cons]
    rw [ih, ih (1 * d), Int.one_mul, Int.mul_assoc]
theorem prodI_cons (d : Int) (ds : List Int) : prodI (d :: ds) = d * prodI ds := by
  simp only [prodI, List.foldl_cons, Int.one_mul]; exact foldl_mul ds d
theorem prodI_one {ds : List Int} (h : ∀ d ∈ ds, 1 ≤ d) : 1 ≤ prodI ds := by
  induction ds with
  | nil => simp [prodI]
  | cons d r ih =>
    rw [prodI_cons]
    have h1 := h d (by simp)
    have h2 := ih (fun x hx => h x (by simp [hx]))
    have := Int.mul_le_mul h1 h2 (by omega) (by omega)
    omega
theorem dims_mem {ds : List Int} (h : dimsIn ds) : ∀ d ∈ ds, 1 ≤ d ∧ d ≤ 8 := all_of h
def offL : List Int → List Int → Int
  | _ :: ds, i :: is => i * prodI ds + offL ds is
  | _, _ => 0
def idxIn (ds is : List Int) : Prop := is.length = ds.length ∧ ∀ j, j < ds.length → 0 ≤ is.getD j 0 ∧ is.getD j 0 < ds.getD j 0
theorem offL_in : ∀ {ds is : List Int}, (∀ d ∈ ds, 1 ≤ d) → idxIn ds is → 0 ≤ offL ds is ∧ offL ds is ≤ prodI ds - 1
  | [], [], _, _ => by simp [offL, prodI]
  | [], i :: is, _, h => by have := h.1; simp at this
  | d :: ds, [], _, h => by have := h.1; simp at this
  | d :: ds, i :: is, hd, h => by
    have h0 := h.2 0 (by simp)
    have ih := offL_in (ds := ds) (is := is) (fun x hx => hd x (by simp [hx])) ⟨by have := h.1; simpa using this, fun j hj => by have := h.2 (j + 1) (by simpa using hj); simpa [List.getD] using this⟩
    have hp1 := prodI_one (ds := ds) (fun x hx => hd x (by simp [hx]))
    simp only [List.getD, List.getElem?_cons_zero, Option.getD_some] at h0
    have e1 : i * prodI ds ≤ (d - 1) * prodI ds := Int.mul_le_mul_of_nonneg_right (by omega) (by omega)
    have e2 : 0 ≤ i * prodI ds := Int.mul_nonneg h0.1 (by omega)
    rw [Int.sub_mul, Int.one_mul] at e1
    simp only [offL, prodI_cons]
    omega
def idxAt (labels values ls : List Int) : List Int := ls.map fun x => values.getD (findI labels x).toNat 0
end Go.Proofs.Ytikeobneipjfnaa
namespace Go.Proofs.Ytikeobneipjfnaa
set_option maxRecDepth 100000
open Go.RowKit

theorem netB_true {k p n : Int} {ts : List Ten} {op : List Int} : netB k p n ts op = true ↔ netL k p n ts op := by simp [netB]
theorem netB_false {k p n : Int} {ts : List Ten} {op : List Int} : netB k p n ts op = false ↔ ¬ netL k p n ts op := by simp [netB]
end Go.Proofs.Ytikeobneipjfnaa
namespace Go.Proofs.Ytikeobneipjfnaa
set_option maxRecDepth 100000
open Go.RowKit
theorem axes_nodup {ls ds : List Int} (h : axesL ls ds) : ls.Nodup := by
  rw [List.Nodup, List.pairwise_iff_getElem]
  intro i j hi hj hij e
  have := (h.2.2 j hj).2.2
  refine this ?_
  simp only [List.getD, List.getElem?_eq_getElem hj, Option.getD_some]
  rw [← e]
  exact List.mem_iff_getElem.2 ⟨i, by simp; omega, by simp⟩
theorem elt_mem {xs : List Int} {w i a : Int} (h : a ∈ elt xs w i) : a ∈ xs := List.mem_of_mem_drop (List.mem_of_mem_take h)
theorem elt_inR {k p n : Int} {t : Ten} (h : tensorL k p n t.l t.d t.x) {i : Int} (h0 : 0 ≤ i) (h1 : i < prodI t.d) : InR k p n (elt t.x (widthI k n) i) := by
  have hw := width_range h.1
  refine ⟨?_, fun a ha => h.2.2.2 a (elt_mem ha)⟩
  have hsz := h.2.2.1
  have hs := sizeI_ge.1 h.2.1
  rw [sizeI_yes hs.1 hs.2] at hsz
  have := Int.mul_le_mul_of_nonneg_right (show i + 1 ≤ prodI t.d by omega) (show 0 ≤ widthI k n by omega)
  have h2 := Int.mul_nonneg h0 (show 0 ≤ widthI k n by omega)
  rw [Int.add_mul, Int.one_mul] at this
  simp only [elt, List.length_take, List.length_drop]
  omega
theorem elt_fits {k p n : Int} {t : Ten} (h : tensorL k p n t.l t.d t.x) {i : Int} (h1 : i < prodI t.d) : i * widthI k n + widthI k n ≤ t.x.length ∧ t.x.length ≤ 17592186044416 := by
  have hw := width_range h.1
  have hsz := h.2.2.1
  have hs := sizeI_ge.1 h.2.1
  rw [sizeI_yes hs.1 hs.2] at hsz
  have := Int.mul_le_mul_of_nonneg_right (show i + 1 ≤ prodI t.d by omega) (show 0 ≤ widthI k n by omega)
  rw [Int.add_mul, Int.one_mul] at this
  have h3 : prodI t.d * widthI k n ≤ 4096 * 6 := Int.mul_le_mul hs.2 hw.2 (by omega) (by omega)
  omega
/-- What is asked of the numbers at the labels. -/
structure AtOK (k p n : Int) (ts : List Ten) (labels vs : List Int) : Prop where
  ring : ringL k p n
  ten : ∀ t ∈ ts, tensorL k p n t.l t.d t.x
  nodup : labels.Nodup
  mem : ∀ t ∈ ts, ∀ x ∈ t.l, x ∈ labels
  idx : ∀ t ∈ ts, idxIn t.d (idxAt labels vs t.l)
  len : vs.length = labels.length
  few : labels.length ≤ 100
  small : ∀ b ∈ vs, 0 ≤ b ∧ b ≤ 1048576
theorem AtOK.off {k p n : Int} {ts : List Ten} {labels vs : List Int} (h : AtOK k p n ts labels vs) {t : Ten} (ht : t ∈ ts) : 0 ≤ offL t.d (idxAt labels vs t.l) ∧ offL t.d (idxAt labels vs t.l) < prodI t.d := by
  have := offL_in (fun d hd => (dims_mem (axes_dims (tensor_axes (h.ten t ht))) d hd).1) (h.idx t ht)
  omega
end Go.Proofs.Ytikeobneipjfnaa
