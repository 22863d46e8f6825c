/-
  Parts of the proof of FnExactForestMarginals: laws of heaps, contracts of functions.
  Conditions: none.
-/
import Derived.Test.YtdkgaejmgnojhaaQForestMarginals4
namespace Go.Proofs.Ytdkgaejmgnojhaa
set_option maxRecDepth 100000
open Go.RowKit
theorem dotTo_cons (a b : Int) (xs ys : List Int) : ∀ m, dotTo (a :: xs) (b :: ys) (m + 1) = a * b + dotTo xs ys m
  | 0 => by simp [dotTo]
  | m + 1 => by
    have ih := dotTo_cons a b xs ys m; rw [dotTo, ih, dotTo]; simp only [List.getD_cons_succ]
    omega
theorem dotL_cons (a b : Int) (xs ys : List Int) : dotL (a :: xs) (b :: ys) = a * b + dotL xs ys := by
  unfold dotL
  rw [List.length_cons, dotTo_cons]
theorem steps_skip {labels ls ds : List Int} {l d : Int} (h : l ∉ labels) : stepsL labels (l :: ls) (d :: ds) = stepsL labels ls ds :=
  List.map_congr_left fun x hx => by simp only [strOf]; rw [if_neg (fun e => h (by rw [← e]; exact hx))]
theorem sl_full : ∀ {ls ds is : List Int}, ls.Nodup → ls.length = ds.length → is.length = ls.length → dotL (stepsL ls ls ds) is = offL ds is
  | [], [], [], _, _, _ => by simp [dotL, stepsL, dotTo, offL]
  | l :: ls, d :: ds, i :: is, hn, hl, hi => by
    have hn' := List.nodup_cons.1 hn; have ih := sl_full (ls := ls) (ds := ds) (is := is) hn'.2 (by simpa using hl) (by simpa using hi); have e : stepsL (l :: ls) (l :: ls) (d :: ds) = prodI ds :: stepsL ls ls ds := by
      rw [← steps_skip (l := l) (d := d) hn'.1]
      simp [stepsL, strOf]
    rw [e, dotL_cons, ih, offL, Int.mul_comm]
  | [], _ :: _, _, _, hl, _ => by simp at hl
  | _ :: _, [], _, _, hl, _ => by simp at hl
  | [], [], _ :: _, _, _, hi => by simp at hi
  | _ :: _, _ :: _, [], _, _, hi => by simp at hi
theorem sl_dot : ∀ {ls ds is : List Int} {j : Nat} (v : Int), ls.Nodup → ls.length = ds.length → j < ls.length → is.length + 1 = ls.length → v * strOf ls ds (ls.getD j 0) + dotL (stepsL (ls.eraseIdx j) ls ds) is = offL ds (is.insertIdx j v)
  | l :: ls, d :: ds, is, 0, v, hn, hl, _, hi => by
    have hn' := List.nodup_cons.1 hn; have h := sl_full (ls := ls) (ds := ds) (is := is) hn'.2 (by simpa using hl) (by simpa using hi); rw [List.eraseIdx_zero, List.tail_cons, steps_skip hn'.1, h]
    simp [strOf, offL]
  | l :: ls, d :: ds, i :: is, j + 1, v, hn, hl, hj, hi => by
    have hn' := List.nodup_cons.1 hn; have hj' : j < ls.length := by simpa using hj
    have ih := sl_dot (ls := ls) (ds := ds) (is := is) (j := j) v hn'.2 (by simpa using hl) hj' (by simpa using hi); have hne : ls.getD j 0 ≠ l := fun e => hn'.1 (e ▸ mem_getD hj'); have hm : l ∉ ls.eraseIdx j := fun h => hn'.1 (List.mem_of_mem_eraseIdx h); have e : stepsL (l :: ls.eraseIdx j) (l :: ls) (d :: ds) = prodI ds :: stepsL (ls.eraseIdx j) ls ds := by
      rw [← steps_skip (l := l) (d := d) hm]
      simp [stepsL, strOf]
    rw [List.eraseIdx_cons_succ, e, dotL_cons, List.insertIdx_succ_cons, offL, ← ih, List.getD_cons_succ]; simp only [strOf]; rw [if_neg hne, Int.mul_comm (prodI ds)]
    omega
  | [], _, _, _, _, _, _, hj, _ => by simp at hj
  | _ :: _, [], _, _, _, _, hl, _, _ => by simp at hl
  | l :: ls, _ :: _, [], j + 1, _, _, _, hj, hi => by
    have h1 : (l :: ls).length = ls.length + 1 := rfl; have h2 : ([] : List Int).length = 0 := rfl
    omega
theorem idxL_cons (d : Int) (ds : List Int) (n : Int) : idxL (d :: ds) n = (n / prodI ds % d) :: idxL ds n := by
  unfold idxL
  rw [List.length_cons, List.range_succ_eq_map, List.map_cons, List.map_map]
  rfl
theorem idxL_shift : ∀ {ds : List Int} (_ : ∀ d ∈ ds, 1 ≤ d) (q m : Int), idxL ds (q * prodI ds + m) = idxL ds m
  | [], _, q, m => rfl
  | d :: ds, hd, q, m => by
    have h1 := prodI_one (ds := ds) fun x hx => hd x (by simp [hx]); have hd1 := hd d (by simp); have ih := idxL_shift (ds := ds) (fun x hx => hd x (by simp [hx])) (q * d) m; have e : q * prodI (d :: ds) + m = q * d * prodI ds + m := by rw [prodI_cons, Int.mul_assoc]
    rw [e, idxL_cons, idxL_cons, ih]
    congr 1
    rw [Int.add_comm, Int.add_mul_ediv_right _ _ (by omega), Int.add_mul_emod_self_right]
theorem range_blocks (b : Nat) : ∀ a : Nat, List.range (a * b) = (List.range a).flatMap fun q => (List.range b).map fun r => q * b + r
  | 0 => by simp
  | a + 1 => by
    rw [Nat.add_mul, Nat.one_mul, List.range_add, range_blocks b a, List.range_succ, List.flatMap_append]
    simp
theorem one_block {α : Type} (g : Nat → List α) {v : Nat} : ∀ {a : Nat}, v < a → (List.range a).flatMap (fun q => if q = v then g q else []) = g v
  | 0, h => by omega
  | a + 1, h => by
    rw [List.range_succ, List.flatMap_append]
    by_cases e : a = v
    · subst e; have h0 : (List.range a).flatMap (fun q => if q = a then g q else []) = [] := List.flatMap_eq_nil_iff.2 fun q hq => by
        have := List.mem_range.1 hq; rw [if_neg (by omega)]
      rw [h0]; simp
    · rw [one_block g (show v < a by omega)]; simp [e]
theorem flatMap_congr' {α β : Type} {l : List α} {f g : α → List β} (h : ∀ x ∈ l, f x = g x) : l.flatMap f = l.flatMap g := by
  induction l with
  | nil => rfl
  | cons x l ih => rw [List.flatMap_cons, List.flatMap_cons, h x (by simp), ih fun y hy => h y (by simp [hy])]
theorem filter_flatMap {α β : Type} (p : β → Bool) (f : α → List β) (l : List α) : (l.flatMap f).filter p = l.flatMap fun x => (f x).filter p := by
  induction l with
  | nil => rfl
  | cons x l ih => rw [List.flatMap_cons, List.flatMap_cons, List.filter_append, ih]
theorem map_flatMap' {α β γ : Type} (g : β → γ) (f : α → List β) (l : List α) : (l.flatMap f).map g = l.flatMap fun x => (f x).map g := by
  induction l with
  | nil => rfl
  | cons x l ih => rw [List.flatMap_cons, List.flatMap_cons, List.map_append, ih]
def slHas (ds : List Int) (j : Nat) (v : Int) (n : Nat) : Bool := decide ((idxL ds n).getD j 0 = v)
def slTo (ds : List Int) (j : Nat) (v : Int) (m : Nat) : List Nat := (List.range m).filter (slHas ds j v)
def slAt (ds : List Int) (j : Nat) (v : Int) (m : Nat) : Nat := (offL ds ((idxL (ds.eraseIdx j) m).insertIdx j v)).toNat
theorem ins_in {ds is : List Int} {j : Nat} {v : Int} (hj : j < ds.length) (hv : 0 ≤ v ∧ v < ds.getD j 0) (h : idxIn (ds.eraseIdx j) is) : idxIn ds (is.insertIdx j v) := by
  have hl := h.1; rw [List.length_eraseIdx_of_lt hj] at hl; refine ⟨by rw [List.length_insertIdx_of_le_length (by omega)]; omega, fun i hi => ?_⟩
  rcases Nat.lt_trichotomy i j with c | c | c
  · have e1 : (is.insertIdx j v).getD i 0 = is.getD i 0 := by simp only [List.getD]; rw [List.getElem?_insertIdx_of_lt c]
    have e2 : (ds.eraseIdx j).getD i 0 = ds.getD i 0 := by simp only [List.getD]; rw [List.getElem?_eraseIdx_of_lt c]
    have := h.2 i (by rw [List.length_eraseIdx_of_lt hj]; omega); rw [e1, ← e2]; exact this
  · subst c; have e1 : (is.insertIdx i v).getD i 0 = v := by simp only [List.getD]; rw [List.getElem?_insertIdx_self, if_pos (by omega)]; rfl
    rw [e1]; exact hv
  · have e1 : (is.insertIdx j v).getD i 0 = is.getD (i - 1) 0 := by simp only [List.getD]; rw [List.getElem?_insertIdx_of_gt c]
    have e2 : (ds.eraseIdx j).getD (i - 1) 0 = ds.getD i 0 := by
      simp only [List.getD]; rw [List.getElem?_eraseIdx_of_ge (by omega), show i - 1 + 1 = i by omega]
    have := h.2 (i - 1) (by rw [List.length_eraseIdx_of_lt hj]; omega); rw [e1, ← e2]; exact this
theorem erase_mem {ds : List Int} {j : Nat} {p : Int → Prop} (h : ∀ d ∈ ds, p d) : ∀ d ∈ ds.eraseIdx j, p d := fun d hd => h d (List.mem_of_mem_eraseIdx hd)
theorem sl_in {ds : List Int} (hd : ∀ d ∈ ds, 1 ≤ d) {j : Nat} (hj : j < ds.length) {v : Int} (hv : 0 ≤ v ∧ v < ds.getD j 0) (m : Int) : 0 ≤ offL ds ((idxL (ds.eraseIdx j) m).insertIdx j v) ∧ offL ds ((idxL (ds.eraseIdx j) m).insertIdx j v) ≤ prodI ds - 1 :=
  offL_in hd (ins_in hj hv (idxL_in (erase_mem hd) m))
theorem sl_eq : ∀ {ds : List Int} (_ : ∀ d ∈ ds, 1 ≤ d) {j : Nat} (_ : j < ds.length) {v : Int} (_ : 0 ≤ v ∧ v < ds.getD j 0), slTo ds j v (prodI ds).toNat = (List.range (prodI (ds.eraseIdx j)).toNat).map (slAt ds j v)
  | [], _, j, hj, _, _ => by simp at hj
  | d :: ds, hd, 0, _, v, hv => by
    have hd' : ∀ x ∈ ds, 1 ≤ x := fun x hx => hd x (by simp [hx]); have hd1 := hd d (by simp); have hP := prodI_one hd'; have hv' : 0 ≤ v ∧ v < d := by simpa using hv
    have eP : (prodI (d :: ds)).toNat = d.toNat * (prodI ds).toNat := by rw [prodI_cons, Int.toNat_mul (by omega) (by omega)]
    rw [slTo, eP, range_blocks, filter_flatMap, List.eraseIdx_zero, List.tail_cons]; have e : ∀ q ∈ List.range d.toNat, ((List.range (prodI ds).toNat).map fun r => q * (prodI ds).toNat + r).filter (slHas (d :: ds) 0 v) = if q = v.toNat then (List.range (prodI ds).toNat).map fun r => q * (prodI ds).toNat + r else [] := fun q hq => by
      have hq' := List.mem_range.1 hq; have hdig : ∀ r, r < (prodI ds).toNat → slHas (d :: ds) 0 v (q * (prodI ds).toNat + r) = decide (q = v.toNat) := fun r hr => by
        unfold slHas
        rw [idxL_cons]; have e1 : ((q * (prodI ds).toNat + r : Nat) : Int) = r + q * prodI ds := by
          rw [Int.natCast_add, Int.natCast_mul, show (((prodI ds).toNat : Nat) : Int) = prodI ds by omega, Int.add_comm]
        rw [e1, Int.add_mul_ediv_right _ _ (by omega), Int.ediv_eq_zero_of_lt (by omega) (by omega), Int.zero_add, Int.emod_eq_of_lt (by omega) (by omega), Bool.eq_iff_iff, decide_eq_true_eq, decide_eq_true_eq]; simp only [List.getD_cons_zero]
        omega
      by_cases c : q = v.toNat
      · rw [if_pos c, List.filter_eq_self]; intro x hx; obtain ⟨r, hr, rfl⟩ := List.mem_map.1 hx; rw [hdig r (List.mem_range.1 hr)]; simpa using c
      · rw [if_neg c, List.filter_eq_nil_iff]; intro x hx; obtain ⟨r, hr, rfl⟩ := List.mem_map.1 hx; rw [hdig r (List.mem_range.1 hr)]; simpa using c
    rw [flatMap_congr' e, one_block _ (show v.toNat < d.toNat by omega)]; refine List.map_congr_left fun r hr => ?_; have hr' := List.mem_range.1 hr
    unfold slAt
    rw [List.eraseIdx_zero, List.tail_cons, List.insertIdx_zero, offL, offL_idx hd' (by omega) (by omega), Int.toNat_add (Int.mul_nonneg hv'.1 (by omega)) (by omega), Int.toNat_mul hv'.1 (by omega)]
    simp
  | d :: ds, hd, j + 1, hj, v, hv => by
    have hd' : ∀ x ∈ ds, 1 ≤ x := fun x hx => hd x (by simp [hx]); have hd1 := hd d (by simp); have hP := prodI_one hd'; have hj' : j < ds.length := by simpa using hj
    have hv' : 0 ≤ v ∧ v < ds.getD j 0 := by simpa using hv
    have he := erase_mem (j := j) hd'; have hP' := prodI_one he; have ih := sl_eq hd' hj' hv'; have eP : (prodI (d :: ds)).toNat = d.toNat * (prodI ds).toNat := by rw [prodI_cons, Int.toNat_mul (by omega) (by omega)]
    have eP' : (prodI ((d :: ds).eraseIdx (j + 1))).toNat = d.toNat * (prodI (ds.eraseIdx j)).toNat := by rw [List.eraseIdx_cons_succ, prodI_cons, Int.toNat_mul (by omega) (by omega)]
    rw [slTo, eP, eP', range_blocks, range_blocks, filter_flatMap, map_flatMap']; refine flatMap_congr' fun q hq => ?_; have hq' := List.mem_range.1 hq; rw [List.filter_map]; have e2 : (slHas (d :: ds) (j + 1) v ∘ fun r => q * (prodI ds).toNat + r) = slHas ds j v := by
      funext r
      simp only [Function.comp, slHas]; rw [idxL_cons, List.getD_cons_succ]; have e1 : ((q * (prodI ds).toNat + r : Nat) : Int) = q * prodI ds + r := by
        rw [Int.natCast_add, Int.natCast_mul, show (((prodI ds).toNat : Nat) : Int) = prodI ds by omega]
      rw [e1, idxL_shift hd']
    rw [e2]; have ih' : (List.range (prodI ds).toNat).filter (slHas ds j v) = (List.range (prodI (ds.eraseIdx j)).toNat).map (slAt ds j v) := ih; rw [ih', List.map_map, List.map_map]; refine List.map_congr_left fun m hm => ?_; have hm' := List.mem_range.1 hm; have hin := sl_in hd' hj' hv' m; simp only [Function.comp, slAt]; have e1 : ((q * (prodI (ds.eraseIdx j)).toNat + m : Nat) : Int) = m + q * prodI (ds.eraseIdx j) := by
      rw [Int.natCast_add, Int.natCast_mul, show (((prodI (ds.eraseIdx j)).toNat : Nat) : Int) = prodI (ds.eraseIdx j) by omega, Int.add_comm]
    rw [List.eraseIdx_cons_succ, idxL_cons, e1, Int.add_mul_ediv_right _ _ (by omega), Int.ediv_eq_zero_of_lt (by omega) (by omega), Int.zero_add, Int.emod_eq_of_lt (by omega) (by omega), List.insertIdx_succ_cons, offL, Int.add_comm (m : Int), idxL_shift he,
      Int.toNat_add (Int.mul_nonneg (by omega) (by omega)) hin.1, Int.toNat_mul (by omega) (by omega)]
    simp
end Go.Proofs.Ytdkgaejmgnojhaa
namespace Go.Proofs.Ytdkgaejmgnojhaa
set_option maxRecDepth 100000
open Go.RowKit
structure Sm (A : Type) where
  zero : A
  one : A
  add : A → A → A
  mul : A → A → A
  addC : ∀ a b, add a b = add b a
  addA : ∀ a b c, add (add a b) c = add a (add b c)
  add0 : ∀ a, add zero a = a
  mulC : ∀ a b, mul a b = mul b a
  mulA : ∀ a b c, mul (mul a b) c = mul a (mul b c)
  mul1 : ∀ a, mul one a = a
  mul0 : ∀ a, mul zero a = zero
  dist : ∀ a b c, mul (add a b) c = add (mul a c) (mul b c)
section
variable {A : Type} (R : Sm A)
def upd (a : Int → Int) (x v : Int) : Int → Int := fun y => if y = x then v else a y
variable (f : Int → Int)
end
end Go.Proofs.Ytdkgaejmgnojhaa
namespace Go.Proofs.Ytdkgaejmgnojhaa
set_option maxRecDepth 100000
open Go.RowKit
set_option maxHeartbeats 8000000 in
theorem ct_s_l08Pair (k p n : Int) (t u : Ten) (f : Int → Int) (K ks : List Int) (a b c a' b' c' v : Value) (w : World) (r1 : IntsR t.l a (hp w)) (r2 : IntsR t.d b (hp w)) (r3 : IntsR t.x c (hp w)) (r1' : IntsR u.l a' (hp w)) (r2' : IntsR u.d b' (hp w)) (r3' : IntsR u.x c' (hp w)) (rk : IntsR ks v (hp w)) (ok : PairOK k p n t u f) (hK : (joinI t.l u.l).filter (fun x => decide (x ∈ ks)) = K) (hk : KeepOK t u f K) (hkr : K.length ≤ 12) :
    Calls Try.prog 49 [ringV k p n, tenV a b c, tenV a' b' c', v].toArray w (Ret w emp (TenT (pairT k p n f t u K))) := by
  have hring := ok.tt.1; have hat := ten_axes ok.tt; have hau := ten_axes ok.uu; have htp := ten_prod ok.tt; have hup := ten_prod ok.uu; have htl := hat.2.1; have hul := hau.2.1; have h12 := hat.1; have h12' := hau.1; have hun := axes_nodup hau; have hKd := map_dim ok.dim hk.sub; have hKi := map_dims fun x hx => ok.dim x (hk.sub x hx); have hKp := hk.small; have hst := ok.ht; have hsu := ok.hu; have hwr := width_range hring; have hKl : K.length = (K.map f).length := by simp
  obtain ⟨L, hL⟩ : ∃ L, joinI t.l u.l = L := ⟨_, rfl⟩
  obtain ⟨D, hD⟩ : ∃ D, L.map f = D := ⟨_, rfl⟩
  have hjl := joinI_len t.l u.l; have hnd := ok.nd; have hDd := map_dim ok.dim (fun _ h => h); have hwk := ok.work; have hmt : ∀ l ∈ t.l, l ∈ joinI t.l u.l := fun l hl => mem_joinI.2 (.inl hl); have hmu : ∀ l ∈ u.l, l ∈ joinI t.l u.l := fun l hl => mem_joinI.2 (.inr hl); have hmk := hk.sub; rw [hL] at hjl hnd hDd hwk hmt hmu hmk hK; rw [hD] at hDd hwk; have hDi : dimsIn D := fun j hj => hDd _ (mem_getD hj); have hD1 : ∀ d ∈ D, 1 ≤ d := fun d hd => (hDd d hd).1; have hD0 := prodI_one hD1; have hDl : D.length = L.length := by rw [← hD]; simp
  have hsA := stepsL_len L t.l t.d; have hsB := stepsL_len L u.l u.d; have hsC := stepsL_len L K (K.map f); have hA : ∀ a ∈ stepsL L t.l t.d, 0 ≤ a ∧ a ≤ 4096 := fun a h => by have := steps_in (fun d hd => (dims_mem (axes_dims hat) d hd).1) a h; omega
  have hB : ∀ a ∈ stepsL L u.l u.d, 0 ≤ a ∧ a ≤ 4096 := fun a h => by have := steps_in (fun d hd => (dims_mem (axes_dims hau) d hd).1) a h; omega
  have hC : ∀ a ∈ stepsL L K (K.map f), 0 ≤ a ∧ a ≤ 4096 := fun a h => by have := steps_in (fun d hd => (hKd d hd).1) a h; omega
  refine calls_in Try.func49 rfl Try.ntmps49 rfl (Sat.start w) ?_; have hle0 := r1.le; have hle1 := r2.le; have hle2 := r3.le; have hle3 := r1'.le; have hle4 := r2'.le; have hle5 := r3'.le; have hle6 := rk.le; refine wp_sc (wp_sq ?_); refine sq_x rfl (x_box rfl rfl) rfl ?_; rintro _ _ ⟨b4, rfl, rfl⟩; refine sq_x rfl (x_box rfl rfl) rfl ?_; rintro _ _ ⟨b5, rfl, rfl⟩; refine sq_x rfl (x_box rfl rfl) rfl ?_; rintro _ _ ⟨b6, rfl, rfl⟩; refine sq_x rfl (x_alloc ty_48 rfl) rfl ?_; rintro _ _ ⟨b8, rfl, rfl⟩; refine sq_end (qs_n (wp_sc (wp_sq (sq_v rfl (v_loadNB 2 ty_48 rfl rfl rfl rfl) rfl (sq_v rfl (v_loadNB 1 ty_48 rfl rfl rfl rfl) rfl ?_))))); refine sq_x rfl (x_call rfl en_76 (fun w s => ct_u_l08Join f _ _ _ _ _ _ _ _ w (r1.mono (s.get 4 rfl)) (r2.mono (s.get 4 rfl)) (r1'.mono (s.get 4 rfl)) (r2'.mono (s.get 4 rfl)) (by first | assumption | omega) (by first | assumption | omega) (by first | assumption | omega) (by first | assumption | omega))) rfl ?_; rintro _ h27 ⟨v1, v2, rfl, q1, q2⟩; refine sq_v rfl (v_move rfl) rfl (sq_v rfl (v_extract rfl rfl) rfl (sq_v rfl (v_extract rfl rfl) rfl (sq_v rfl (v_extract rfl rfl) rfl (sq_v rfl (v_assign rfl) rfl (sq_v rfl (v_assign rfl) rfl (sq_v rfl (v_assign rfl) rfl (sq_end ?_))))))); rw [hL] at q1; rw [hL, hD] at q2; refine qs_n (wp_sc (wp_sq (sq_v rfl (v_move rfl) rfl (sq_v rfl (v_move rfl) rfl (sq_v rfl (v_move rfl) rfl ?_))))); refine sq_x rfl (x_call rfl en_77 (fun w s => ct_s_l08Keep _ _ _ _ _ _ w (q1.mono (s.get 0 rfl)) (q2.mono (s.get 0 rfl)) (rk.mono (s.get 5 rfl)) (by first | assumption | omega) (by first | assumption | omega))) rfl ?_; rintro _ h34 ⟨k1, k2, g1, g2, rfl, rk1, rk2, mdk⟩; refine sq_x rfl (x_alloc ty_48 rfl) rfl ?_; rintro _ _ ⟨b12, rfl, rfl⟩; refine sq_m 0 rfl rfl (m_store 0 ty_48 rfl rfl rfl rfl (by simp [(rk1.toR.mono (mdk.le g1 (by simp))).sl.one, (rk2.toR.mono (mdk.le g2 (by simp))).sl.one, one_sl]) rfl (Nat.le_of_ble_eq_true rfl)) rfl ?_; rintro _ _ ⟨rfl, rfl⟩; refine sq_end ?_; rw [hK] at rk1; rw [← hD, selP_map, hK] at rk2; refine qs_n (wp_sc (wp_sq (sq_v rfl (v_loadNB 6 ty_32 rfl rfl rfl rfl) rfl (sq_v rfl (v_fieldAddr fd_48_0 ty_25 (by decide) rfl) rfl (sq_v rfl (v_loadB 0 ty_25 rfl rfl rfl) rfl (sq_v rfl (v_fieldAddr fd_48_1 ty_25 (by decide) rfl) rfl (sq_v rfl (v_loadB 0 ty_25 rfl rfl rfl) rfl ?_))))))); refine sq_x rfl (x_call rfl en_73 (fun w s => ct_s_l05Zero _ _ _ _ _ _ _ w (by first | assumption | omega) ((rk1.toR.mono (mdk.le g1 (by simp))).mono (s.get 1 rfl)) ((rk2.toR.mono (mdk.le g2 (by simp))).mono (s.get 1 rfl)) (by first | assumption | omega) (by first | assumption | omega) (by first | assumption | omega) (by first | assumption | omega))) rfl ?_; rintro _ h40 ⟨va40, vb40, vc40, rfl, o40⟩; refine sq_m 1 rfl rfl (m_store 1 ty_48 rfl rfl rfl rfl (by simp [o40.toR.1.sl.one, o40.toR.2.1.sl.one, o40.toR.2.2.sl.one]) rfl (Nat.le_of_ble_eq_true rfl)) rfl ?_; rintro _ _ ⟨rfl, rfl⟩; refine sq_end ?_; obtain ⟨go1, go2, go3, qo1, qo2, qo3, mdo⟩ := o40; refine qs_s [box b12 [va40, vb40, vc40] 48, h34, h27, box b8 [.slice none 0 0, .slice none 0 0, .slice none 0 0] 48, box b6 [a', b', c'] 48, box b5 [a, b, c] 48, box b4 [num k, num p, num n] 32, hp w, go1, go2, go3] (fun _ s => Sat.open (A := [box b12 [va40, vb40, vc40] 48, h34, h27, box b8 [.slice none 0 0, .slice none 0 0, .slice none 0 0] 48, box b6 [a', b', c'] 48, box b5 [a, b, c] 48, box b4 [num k, num p, num n] 32, hp w]) mdo (s.pick [0, 1, 2, 3, 4, 5, 6, 7, 8] (by decide) rfl)) (qs_n (wp_sc (wp_sq (sq_v rfl (v_loadNB 5 ty_48 rfl rfl rfl rfl) rfl (sq_v rfl (v_move rfl) rfl ?_))))); refine sq_x rfl (x_call rfl en_78 (fun w s => ct_s_l08Steps _ _ _ _ _ _ _ _ w (r1.mono (s.get 7 rfl)) (r2.mono (s.get 7 rfl)) (r3.mono (s.get 7 rfl)) (q1.mono (s.get 2 rfl)) (by first | assumption | omega) (by first | assumption | omega) (dims_mem (axes_dims hat)) (by first | assumption | omega) (by first | assumption | omega) (by first | assumption | omega))) rfl ?_; rintro v43 h43 r43; refine sq_v rfl (v_assign rfl) rfl (sq_end (qs_n (wp_sc (wp_sq (sq_v rfl (v_loadNB 5 ty_48 rfl rfl rfl rfl) rfl (sq_v rfl (v_move rfl) rfl ?_)))))); refine sq_x rfl (x_call rfl en_78 (fun w s => ct_s_l08Steps _ _ _ _ _ _ _ _ w (r1'.mono (s.get 8 rfl)) (r2'.mono (s.get 8 rfl)) (r3'.mono (s.get 8 rfl)) (q1.mono (s.get 3 rfl)) (by first | assumption | omega) (by first | assumption | omega) (dims_mem (axes_dims hau)) (by first | assumption | omega) (by first | assumption | omega) (by first | assumption | omega))) rfl ?_; rintro v46 h46 r46; refine sq_v rfl (v_assign rfl) rfl (sq_end (qs_n (wp_sc (wp_sq (sq_v rfl (v_loadNB 2 ty_48 rfl rfl rfl rfl) rfl (sq_v rfl (v_move rfl) rfl ?_)))))); refine sq_x rfl (x_call rfl en_78 (fun w s => ct_s_l08Steps K (K.map f) _ _ _ _ _ _ w (qo1.toR.mono (s.get 10 rfl)) (qo2.toR.mono (s.get 11 rfl)) (qo3.toR.mono (s.get 12 rfl)) (q1.mono (s.get 4 rfl)) (by first | assumption | omega) (by first | assumption | omega) hKd (by first | assumption | omega) (by first | assumption | omega) (by first | assumption | omega))) rfl ?_; rintro v49 h49 r49; refine sq_v rfl (v_assign rfl) rfl (sq_end (qs_n (wp_sc (wp_sq (sq_v rfl (v_move rfl) rfl (sq_v rfl (v_len Try.underlying25 rfl q1.sl) rfl ?_))))))
  refine sq_x rfl (x_makeI Try.underlying25 ty_3 rfl rfl (by first | omega | (simp; omega) | (simp only [List.length_append, List.length_cons, List.length_nil]; omega) | (rw [List.length_set]; omega)) (by first | omega | (simp; omega) | (simp only [List.length_append, List.length_cons, List.length_nil]; omega) | (rw [List.length_set]; omega)) (by first | omega | (simp; omega) | (simp only [List.length_append, List.length_cons, List.length_nil]; omega) | (rw [List.length_set]; omega))) rfl ?_; intro v52 h52 r52; refine sq_v rfl (v_assign rfl) rfl (sq_end (qs_n (wp_sc (wp_sc (wp_sq (sq_v rfl (v_move rfl) rfl (sq_u rfl (x_callv rfl en_53 (fun w s => ct_s_l05Product _ _ _ w (q2.mono (s.get 6 rfl)) (by first | assumption | omega) (by first | assumption | omega))) rfl (sq_v rfl (v_assign rfl) rfl (sq_end (qs_n (wp_bl ?_))))))))))); refine wp_lp (σ := Nat × PH × PH) (fun z_ => [(4, .pointer (some ⟨b4, 0, none⟩)), (5, .pointer (some ⟨b5, 0, none⟩)), (6, .pointer (some ⟨b6, 0, none⟩)), (8, .pointer (some ⟨b8, 0, none⟩)), (10, v2), (12, .pointer (some ⟨b12, 0, none⟩)), (13, v43), (14, v46), (15, v49), (16, v52), (17, num (prodI D - z_.1)), (48, v1)]) (fun z_ => [z_.2.1, h49, h46, h43, box b12 [va40, vb40, vc40] 48, h34, h27, box b8 [.slice none 0 0, .slice none 0 0, .slice none 0 0] 48, box b6 [a', b', c'] 48, box b5 [a, b, c] 48, box b4 [num k, num p, num n] 32, hp w, go1, go2, z_.2.2]) (fun z_ => z_.1 ≤ (prodI D).toNat ∧ IntsO (idxL D z_.1) v52 z_.2.1 ∧ IntsO (pairX k p n f t u K z_.1) vc40 z_.2.2) (fun z_ => (prodI D).toNat - z_.1) (0, h52, go3) (⟨by (try dsimp only); omega, by (try dsimp only); rw [show ((0 : Nat) : Int) = 0 from rfl, idxL_zero, hDl]; simpa using r52, qo3⟩) ⟨rfl, rfl, rfl, rfl, rfl, rfl, rfl, rfl, rfl, rfl, (by first | rfl | exact ksub rfl (by first | omega | (simp; done) | (simp; omega))), rfl, trivial⟩ (fun _ s => s) ?_; rintro ⟨m, gi, gx⟩ ⟨hm, qi, qx⟩; dsimp only at hm qi qx ⊢; have hle_qi := qi.toR.le; have hle_qx := qx.toR.le; have hil := idxL_len D m; have hil2 := idxL_len D (m + 1); have hii := idxL_in hD1 m; have hib : ∀ b ∈ idxL D m, 0 ≤ b ∧ b ≤ 8 := all_of fun j hj => by have := hii.2 j (by omega); have := hDi j (by omega); omega
  have hpx := ok.small hk m; refine wp_sc (wp_sc (wp_sq (sq_v rfl (v_move rfl) rfl (sq_v rfl (v_gtr rfl rfl) rfl (sq_end (qs_n ?_)))))); refine wp_cd rfl (fun c56 => ?_) (fun c56 => ?_)
  · refine wp_sk (qs_n (wp_sc (wp_bl (wp_sc (wp_sq (sq_v rfl (v_assign rfl) rfl (sq_end (qs_n (wp_sc (wp_sq (sq_v rfl (v_assign rfl) rfl (sq_end (qs_n (wp_sc (wp_sq (sq_v rfl (v_assign rfl) rfl (sq_end (qs_n (wp_sc (wp_sc (wp_sq (sq_v rfl (v_move rfl) rfl (sq_v rfl (v_len Try.underlying25 rfl qi.toR.sl) rfl (sq_v rfl (v_move rfl) rfl (sq_end (qs_n (wp_bl ?_))))))))))))))))))))))))))); refine wp_lp (σ := Nat × Int × Int × Int) (fun z_ => [(4, .pointer (some ⟨b4, 0, none⟩)), (5, .pointer (some ⟨b5, 0, none⟩)), (6, .pointer (some ⟨b6, 0, none⟩)), (8, .pointer (some ⟨b8, 0, none⟩)), (10, v2), (12, .pointer (some ⟨b12, 0, none⟩)), (13, v43), (14, v46), (15, v49), (16, v52), (17, num (prodI D - m)), (18, num z_.2.1), (19, num z_.2.2.1), (20, num z_.2.2.2), (48, v1), (55, num (prodI D - m)), (56, .bool (decide ((0 : Int) < prodI D - m))), (59, v52), (60, num (idxL D m).length), (61, num z_.1)]) (fun z_ => [gi, h49, h46, h43, box b12 [va40, vb40, vc40] 48, h34, h27, box b8 [.slice none 0 0, .slice none 0 0, .slice none 0 0] 48, box b6 [a', b', c'] 48, box b5 [a, b, c] 48, box b4 [num k, num p, num n] 32, hp w, go1, go2, gx]) (fun z_ => z_.1 ≤ L.length ∧ z_.2.1 = dotTo (stepsL L t.l t.d) (idxL D m) z_.1 ∧ z_.2.2.1 = dotTo (stepsL L u.l u.d) (idxL D m) z_.1 ∧ z_.2.2.2 = dotTo (stepsL L K (K.map f)) (idxL D m) z_.1) (fun z_ => L.length - z_.1) (0, 0, 0, 0) (⟨by (try dsimp only); omega, rfl, rfl, rfl⟩) ⟨rfl, rfl, rfl, rfl, rfl, rfl, rfl, rfl, rfl, rfl, rfl, (by first | rfl | exact ksub rfl (by first | omega | (simp; done) | (simp; omega))), (by first | rfl | exact ksub rfl (by first | omega | (simp; done) | (simp; omega))), (by first | rfl | exact ksub rfl (by first | omega | (simp; done) | (simp; omega))), rfl, rfl, rfl, rfl, rfl, (by first | rfl | exact ksub rfl (by first | omega | (simp; done) | (simp; omega))), trivial⟩ (fun _ s => s) ?_; rintro ⟨j, x, y, z⟩ ⟨hj, hx, hy, hz⟩; dsimp only at hj hx hy hz ⊢; refine wp_sc (wp_sq (sq_v rfl (v_lss rfl rfl) rfl (sq_end (qs_n (wp_sc ?_))))); refine wp_cd rfl (fun c62 => ?_) (fun c62 => ?_)
    · refine wp_sk (qs_n (wp_sc (wp_bl (wp_sc (wp_sq (sq_v rfl (v_move rfl) rfl ?_)))))); refine sq_v rfl (v_idxI Try.underlying25 ty_3 rfl rfl qi.toR (by first | omega | (simp; omega) | (simp only [List.length_append, List.length_cons, List.length_nil]; omega) | (rw [List.length_set]; omega)) (by first | omega | (simp; omega) | (simp only [List.length_append, List.length_cons, List.length_nil]; omega) | (rw [List.length_set]; omega))) rfl ?_; refine sq_v rfl (v_loadI (k := j) 0 ty_3 rfl rfl qi.toR (by first | omega | (simp; omega) | (simp only [List.length_append, List.length_cons, List.length_nil]; omega) | (rw [List.length_set]; omega))) rfl ?_; refine sq_v rfl (v_assign rfl) rfl (sq_v rfl (v_assign rfl) rfl (sq_end ?_)); have hx0 := dotTo_in hA hib j (by omega) (by omega); have hx1 := dotTo_in hA hib (j + 1) (by omega) (by omega); have ex : dotTo (stepsL L t.l t.d) (idxL D m) (j + 1) = dotTo (stepsL L t.l t.d) (idxL D m) j + (stepsL L t.l t.d).getD j 0 * (idxL D m).getD j 0 := rfl; rw [Int.mul_comm] at ex; have hy0 := dotTo_in hB hib j (by omega) (by omega); have hy1 := dotTo_in hB hib (j + 1) (by omega) (by omega); have ey : dotTo (stepsL L u.l u.d) (idxL D m) (j + 1) = dotTo (stepsL L u.l u.d) (idxL D m) j + (stepsL L u.l u.d).getD j 0 * (idxL D m).getD j 0 := rfl; rw [Int.mul_comm] at ey; have hz0 := dotTo_in hC hib j (by omega) (by omega); have hz1 := dotTo_in hC hib (j + 1) (by omega) (by omega); have ez : dotTo (stepsL L K (K.map f)) (idxL D m) (j + 1) = dotTo (stepsL L K (K.map f)) (idxL D m) j + (stepsL L K (K.map f)).getD j 0 * (idxL D m).getD j 0 := rfl; rw [Int.mul_comm] at ez; refine qs_n (wp_sc (wp_sq (sq_v rfl (v_move rfl) rfl (sq_v rfl (v_move rfl) rfl (sq_v rfl (v_move rfl) rfl (sq_v rfl (v_move rfl) rfl ?_)))))); refine sq_v rfl (v_idxI Try.underlying25 ty_3 rfl rfl r43.toR (by first | omega | (simp; omega) | (simp only [List.length_append, List.length_cons, List.length_nil]; omega) | (rw [List.length_set]; omega)) (by first | omega | (simp; omega) | (simp only [List.length_append, List.length_cons, List.length_nil]; omega) | (rw [List.length_set]; omega))) rfl ?_; refine sq_v rfl (v_loadI (k := j) 3 ty_3 rfl rfl r43.toR (by first | omega | (simp; omega) | (simp only [List.length_append, List.length_cons, List.length_nil]; omega) | (rw [List.length_set]; omega))) rfl ?_; refine sq_v rfl (v_mul rfl rfl ((by unfold I64; omega))) rfl ?_; refine sq_v rfl (v_add rfl rfl ((by unfold I64; omega))) rfl ?_; refine sq_v rfl (v_assign rfl) rfl (sq_end (qs_n (wp_sc (wp_sq (sq_v rfl (v_move rfl) rfl (sq_v rfl (v_move rfl) rfl (sq_v rfl (v_move rfl) rfl (sq_v rfl (v_move rfl) rfl ?_)))))))); refine sq_v rfl (v_idxI Try.underlying25 ty_3 rfl rfl r46.toR (by first | omega | (simp; omega) | (simp only [List.length_append, List.length_cons, List.length_nil]; omega) | (rw [List.length_set]; omega)) (by first | omega | (simp; omega) | (simp only [List.length_append, List.length_cons, List.length_nil]; omega) | (rw [List.length_set]; omega))) rfl ?_; refine sq_v rfl (v_loadI (k := j) 2 ty_3 rfl rfl r46.toR (by first | omega | (simp; omega) | (simp only [List.length_append, List.length_cons, List.length_nil]; omega) | (rw [List.length_set]; omega))) rfl ?_; refine sq_v rfl (v_mul rfl rfl ((by unfold I64; omega))) rfl ?_; refine sq_v rfl (v_add rfl rfl ((by unfold I64; omega))) rfl ?_; refine sq_v rfl (v_assign rfl) rfl (sq_end (qs_n (wp_sq (sq_v rfl (v_move rfl) rfl (sq_v rfl (v_move rfl) rfl (sq_v rfl (v_move rfl) rfl (sq_v rfl (v_move rfl) rfl ?_))))))); refine sq_v rfl (v_idxI Try.underlying25 ty_3 rfl rfl r49.toR (by first | omega | (simp; omega) | (simp only [List.length_append, List.length_cons, List.length_nil]; omega) | (rw [List.length_set]; omega)) (by first | omega | (simp; omega) | (simp only [List.length_append, List.length_cons, List.length_nil]; omega) | (rw [List.length_set]; omega))) rfl ?_; refine sq_v rfl (v_loadI (k := j) 1 ty_3 rfl rfl r49.toR (by first | omega | (simp; omega) | (simp only [List.length_append, List.length_cons, List.length_nil]; omega) | (rw [List.length_set]; omega))) rfl ?_; refine sq_v rfl (v_mul rfl rfl ((by unfold I64; omega))) rfl ?_; refine sq_v rfl (v_add rfl rfl ((by unfold I64; omega))) rfl ?_; refine sq_v rfl (v_assign rfl) rfl (sq_end (qs_bn (qs_n (wp_sq ?_)))); refine sq_v rfl (v_add rfl rfl ((by unfold I64; omega))) rfl ?_; refine sq_v rfl (v_move rfl) rfl (sq_end ?_)
      exact qs_bk (j + 1, x + (idxL D m).getD j 0 * (stepsL L t.l t.d).getD j 0, y + (idxL D m).getD j 0 * (stepsL L u.l u.d).getD j 0, z + (idxL D m).getD j 0 * (stepsL L K (K.map f)).getD j 0) ⟨by (try dsimp only); omega, by (try dsimp only); omega, by (try dsimp only); omega, by (try dsimp only); omega⟩ (by simp only; omega) ⟨rfl, rfl, rfl, rfl, rfl, rfl, rfl, rfl, rfl, rfl, rfl, (by first | rfl | exact ksub rfl (by first | omega | (simp; done) | (simp; omega))), (by first | rfl | exact ksub rfl (by first | omega | (simp; done) | (simp; omega))), (by first | rfl | exact ksub rfl (by first | omega | (simp; done) | (simp; omega))), rfl, rfl, rfl, rfl, rfl, (by first | rfl | exact ksub rfl (by first | omega | (simp; done) | (simp; omega))), trivial⟩ (fun _ s => s)
    · refine wp_ex (qs_x (qs_x (qs_bx (qs_n (wp_sc (wp_rj 19 [(0, true), (1, true), (2, true), (3, true), (4, true), (5, true), (6, true), (8, true), (9, true), (10, true), (11, true), (13, true), (14, true), (15, true), (7, false), (12, false), (16, false), (17, false), (18, false), (19, false)] mixed_ok (by kernel_rfl) ?_)))))); obtain ⟨px, hpe⟩ : ∃ px, pairX k p n f t u K m = px := ⟨_, rfl⟩; have ex : x = atI f (joinI t.l u.l) t.l m := (by rw [hx, show j = L.length by omega, atI, dotL, stepsL_len, ← hst, hL, hD]); have ey : y = atI f (joinI t.l u.l) u.l m := (by rw [hy, show j = L.length by omega, atI, dotL, stepsL_len, ← hsu, hL, hD]); have ez : z = atI f (joinI t.l u.l) K m := (by rw [hz, show j = L.length by omega, atI, dotL, stepsL_len, hL, hD]); have hx0 := ok.at_t m; have hy0 := ok.at_u m; have hz0 := ok.at_k hk m; have hXr := ok.el_t m; have hYr := ok.el_u m; have hZr := (ok.all hk m).el hring hz0.1 hz0.2; have hzf := ok.fits hk m; rw [← ex] at hx0 hXr; rw [← ey] at hy0 hYr; rw [← ez] at hz0 hZr hzf; rw [hpe] at hZr hzf hpx qx; have hMr := mulL_in hring hXr hYr; have hSr := addL_in hring hZr hMr; have hxf := elt_fits ok.tt (i := x) hx0.2; have hyf := elt_fits ok.uu (i := y) hy0.2; refine rj_v rfl rfl (v_loadNB 10 ty_32 rfl rfl rfl rfl) rfl (rj_v rfl rfl (v_loadNB 4 ty_48 rfl rfl rfl rfl) rfl (rj_v rfl rfl (v_move rfl) rfl (rj_v rfl rfl (v_loadNB 10 ty_32 rfl rfl rfl rfl) rfl (rj_v rfl rfl (v_loadNB 10 ty_32 rfl rfl rfl rfl) rfl (rj_v rfl rfl (v_loadNB 4 ty_48 rfl rfl rfl rfl) rfl (rj_v rfl rfl (v_move rfl) rfl (rj_v rfl rfl (v_loadNB 10 ty_32 rfl rfl rfl rfl) rfl (rj_v rfl rfl (v_loadNB 10 ty_32 rfl rfl rfl rfl) rfl (rj_v rfl rfl (v_loadNB 9 ty_48 rfl rfl rfl rfl) rfl ?_))))))))); refine rj_v rfl rfl (v_move rfl) rfl (rj_v rfl rfl (v_loadNB 10 ty_32 rfl rfl rfl rfl) rfl (rj_v rfl rfl (v_loadNB 8 ty_48 rfl rfl rfl rfl) rfl (rj_v rfl rfl (v_move rfl) rfl ?_))); refine rj_x rfl rfl (x_call rfl en_56 (fun w s => ct_s_l05Get _ _ _ _ _ _ _ _ w (by first | assumption | omega) (qx.toR.mono (s.get 14 rfl)) (by first | assumption | omega) (by first | assumption | omega) (by first | assumption | omega))) rfl ?_; rintro v98 h98 r98; refine rj_x rfl rfl (x_call rfl en_56 (fun w s => ct_s_l05Get _ _ _ _ _ _ _ _ w (by first | assumption | omega) (r3.mono (s.get 12 rfl)) (by first | assumption | omega) (by first | assumption | omega) (by first | assumption | omega))) rfl ?_; rintro v103 h103 r103; refine rj_x rfl rfl (x_call rfl en_56 (fun w s => ct_s_l05Get _ _ _ _ _ _ _ _ w (by first | assumption | omega) (r3'.mono (s.get 13 rfl)) (by first | assumption | omega) (by first | assumption | omega) (by first | assumption | omega))) rfl ?_; rintro v107 h107 r107; refine rj_x rfl rfl (x_call rfl en_55 (fun w s => ct_s_l02Mul _ _ _ _ _ _ _ w (by first | assumption | omega) (r103.toR.mono (s.get 1 rfl)) (r107.toR.mono (s.get 0 rfl)) (by first | assumption | omega) (by first | assumption | omega))) rfl ?_; rintro v108 h108 r108; refine rj_x rfl rfl (x_call rfl en_74 (fun w s => ct_s_l02Add _ _ _ _ _ _ _ w (by first | assumption | omega) (r98.toR.mono (s.get 3 rfl)) (r108.toR.mono (s.get 0 rfl)) (by first | assumption | omega) (by first | assumption | omega))) rfl ?_; rintro v109 h109 r109; refine rj_m 19 rfl rfl rfl rfl (x_call rfl en_54 (fun w s => ct_s_l05Put _ _ _ _ _ _ _ _ _ _ _ _ w _ (by first | assumption | omega) (s.get 19 rfl) (qo1.toR.mono (s.getR 19 17 rfl rfl (by decide))) (qo2.toR.mono (s.getR 19 18 rfl rfl (by decide))) qx (r109.toR.mono (s.getR 19 0 rfl rfl (by decide))) hSr.1 (by first | assumption | omega) (by first | assumption | omega) (by first | assumption | omega))) rfl ?_; rintro _ h110 r110; refine rj_end (qs_n (wp_sc (wp_sq (sq_v rfl (v_move rfl) rfl (sq_v rfl (v_len Try.underlying25 rfl qi.toR.sl) rfl ?_))))); refine sq_v rfl (v_sub rfl rfl ((by unfold I64; omega))) rfl ?_; refine sq_v rfl (v_assign rfl) rfl (sq_end (qs_n (wp_bl ?_)))
      refine wp_lp (σ := Nat × PH) (fun z_ => [(4, .pointer (some ⟨b4, 0, none⟩)), (5, .pointer (some ⟨b5, 0, none⟩)), (6, .pointer (some ⟨b6, 0, none⟩)), (8, .pointer (some ⟨b8, 0, none⟩)), (10, v2), (12, .pointer (some ⟨b12, 0, none⟩)), (13, v43), (14, v46), (15, v49), (16, v52), (17, num (prodI D - m)), (18, num x), (19, num y), (20, num z), (23, num ((z_.1 : Int) - 1)), (48, v1), (55, num (prodI D - m)), (56, .bool (decide ((0 : Int) < prodI D - m))), (59, v52), (60, num (idxL D m).length), (61, num j), (62, .bool (decide ((j : Int) < (idxL D m).length))), (91, .agg [num k, num p, num n].toArray), (92, .agg [va40, vb40, vc40].toArray), (93, num z), (94, .agg [num k, num p, num n].toArray), (95, .agg [num k, num p, num n].toArray), (96, .agg [va40, vb40, vc40].toArray), (97, num z), (98, v98), (99, .agg [num k, num p, num n].toArray), (100, .agg [num k, num p, num n].toArray), (101, .agg [a, b, c].toArray), (102, num x), (103, v103), (104, .agg [num k, num p, num n].toArray), (105, .agg [a', b', c'].toArray), (106, num y), (107, v107), (108, v108), (109, v109), (111, v52), (112, num (idxL D m).length), (113, num ((idxL D m).length - 1))]) (fun z_ => [h109, h108, h107, h103, h98, z_.2, h49, h46, h43, box b12 [va40, vb40, vc40] 48, h34, h27, box b8 [.slice none 0 0, .slice none 0 0, .slice none 0 0] 48, box b6 [a', b', c'] 48, box b5 [a, b, c] 48, box b4 [num k, num p, num n] 32, hp w, go1, go2, h110]) (fun z_ => z_.1 ≤ D.length ∧ ((m : Int) + 1) % prodI (D.drop z_.1) = 0 ∧ IntsO (mixL (idxL D m) (idxL D (m + 1)) z_.1) v52 z_.2) (fun z_ => z_.1) (D.length, gi) (⟨by (try dsimp only); omega, by (try dsimp only); simp [prodI, Int.emod_one], by (try dsimp only); rw [mix_end (by omega) (by omega)]; exact qi⟩) ⟨rfl, rfl, rfl, rfl, rfl, rfl, rfl, rfl, rfl, rfl, rfl, rfl, rfl, rfl, (by first | rfl | exact ksub rfl (by first | omega | (simp; done) | (simp; omega))), rfl, rfl, rfl, rfl, rfl, rfl, rfl, rfl, rfl, rfl, rfl, rfl, rfl, rfl, rfl, rfl, rfl, rfl, rfl, rfl, rfl, rfl, rfl, rfl, rfl, rfl, rfl, rfl, rfl, trivial⟩ (fun _ s => s) ?_; rintro ⟨q, g2⟩ ⟨hq, hP, qj⟩; dsimp only at hq hP qj ⊢; have hle_qj := qj.toR.le; have hml := mix_len (A := idxL D m) (B := idxL D (m + 1)) (k := q) (by omega) (by omega); have em : ((q : Int) - 1).toNat = q - 1 := by omega
      refine wp_sc (wp_sc (wp_sq (sq_v rfl (v_move rfl) rfl (sq_v rfl (v_geq rfl rfl) rfl (sq_end (qs_n ?_)))))); refine wp_cd rfl (fun c115 => ?_) (fun c115 => ?_)
      · refine wp_sk (qs_n (wp_sc (wp_bl (wp_sc (wp_sq (sq_v rfl (v_move rfl) rfl (sq_v rfl (v_move rfl) rfl ?_))))))); have hk1 : q - 1 < D.length := (by omega); have hdm := hDd _ (mem_getD hk1); have hlow : (mixL (idxL D m) (idxL D (m + 1)) q).getD ((q : Int) - 1).toNat 0 = digI D m (q - 1) := (by rw [em, mix_low (by omega) (by omega), idxL_get hk1]); have hdg := (idxL_in hD1 m).2 (q - 1) hk1; rw [idxL_get hk1] at hdg; refine sq_v rfl (v_idxI Try.underlying25 ty_3 rfl rfl qj.toR (by first | omega | (simp; omega) | (simp only [List.length_append, List.length_cons, List.length_nil]; omega) | (rw [List.length_set]; omega)) (by first | omega | (simp; omega) | (simp only [List.length_append, List.length_cons, List.length_nil]; omega) | (rw [List.length_set]; omega))) rfl ?_; refine sq_v rfl (v_loadI  5 ty_3 rfl rfl qj.toR (by first | omega | (simp; omega) | (simp only [List.length_append, List.length_cons, List.length_nil]; omega) | (rw [List.length_set]; omega))) rfl ?_; refine sq_v rfl (v_add rfl rfl ((by unfold I64; omega))) rfl ?_; refine sq_v rfl (v_idxI Try.underlying25 ty_3 rfl rfl qj.toR (by first | omega | (simp; omega) | (simp only [List.length_append, List.length_cons, List.length_nil]; omega) | (rw [List.length_set]; omega)) (by first | omega | (simp; omega) | (simp only [List.length_append, List.length_cons, List.length_nil]; omega) | (rw [List.length_set]; omega))) rfl ?_; refine sq_m 5 rfl rfl (m_storeI 5 ty_3 rfl rfl rfl qj (by first | omega | (simp; omega) | (simp only [List.length_append, List.length_cons, List.length_nil]; omega) | (rw [List.length_set]; omega))) rfl ?_; rintro _ h_q25_6 ⟨rfl, q25_6⟩; refine sq_end ?_; rw [hlow, em] at q25_6; refine qs_n (wp_sc (wp_sc (wp_rj 9 [(0, true), (1, true), (2, true), (3, true), (4, true), (5, true), (6, true), (7, true), (8, true)] mixed_ok (by kernel_rfl) (rj_v rfl rfl (v_move rfl) rfl (rj_v rfl rfl (v_move rfl) rfl ?_))))); refine rj_v rfl rfl (v_idxI Try.underlying25 ty_3 rfl rfl q25_6.toR (by first | omega | (simp; omega) | (simp only [List.length_append, List.length_cons, List.length_nil]; omega) | (rw [List.length_set]; omega)) (by first | omega | (simp; omega) | (simp only [List.length_append, List.length_cons, List.length_nil]; omega) | (rw [List.length_set]; omega))) rfl ?_; refine rj_v rfl rfl (v_loadI  5 ty_3 rfl rfl q25_6.toR (by first | omega | (simp; omega) | (simp only [List.length_append, List.length_cons, List.length_nil]; omega) | (rw [List.length_set]; omega))) rfl ?_; refine rj_v rfl rfl (v_move rfl) rfl (rj_v rfl rfl (v_move rfl) rfl ?_); refine rj_v rfl rfl (v_idxI Try.underlying25 ty_3 rfl rfl q2 (by first | omega | (simp; omega) | (simp only [List.length_append, List.length_cons, List.length_nil]; omega) | (rw [List.length_set]; omega)) (by first | omega | (simp; omega) | (simp only [List.length_append, List.length_cons, List.length_nil]; omega) | (rw [List.length_set]; omega))) rfl ?_; refine rj_v rfl rfl (v_loadI  11 ty_3 rfl rfl q2 (by first | omega | (simp; omega) | (simp only [List.length_append, List.length_cons, List.length_nil]; omega) | (rw [List.length_set]; omega))) rfl ?_; refine rj_v rfl rfl (v_lss rfl rfl) rfl (rj_end ?_); have hg4 : ((mixL (idxL D m) (idxL D (m + 1)) q).set (q - 1) (digI D m (q - 1) + 1)).getD ((q : Int) - 1).toNat 0 = digI D m (q - 1) + 1 := by rw [em]; simp only [List.getD]; rw [List.getElem?_set_self (by omega)]; rfl
        have hc : (((mixL (idxL D m) (idxL D (m + 1)) q).set (q - 1) (digI D m (q - 1) + 1)).getD ((q : Int) - 1).toNat 0 < D.getD ((q : Int) - 1).toNat 0) ↔ digI D m (q - 1) + 1 < D.getD (q - 1) 0 := by rw [hg4, em]
        refine qs_n ?_; refine wp_cd rfl (fun c132 => ?_) (fun c132 => ?_)
        · refine wp_ex (qs_x (qs_by rfl (qs_x (qs_x (qs_bx (qs_bn (qs_n (wp_sq (sq_v rfl (v_move rfl) rfl ?_))))))))); refine sq_v rfl (v_sub rfl rfl ((by unfold I64; omega))) rfl ?_; refine sq_v rfl (v_assign rfl) rfl (sq_end ?_); exact qs_bk (m + 1, h_q25_6, h110) ⟨by (try dsimp only); omega, by (try dsimp only); rw [show ((m + 1 : Nat) : Int) = (m : Int) + 1 from rfl, ← idx_yes hD1 (by omega) (by omega) hq hP (hc.1 c132)]; exact q25_6, by (try dsimp only); rw [pairX, hpe, ← ex, ← ey, ← ez]; exact r110⟩ (by simp only; omega) ⟨rfl, rfl, rfl, rfl, rfl, rfl, rfl, rfl, rfl, rfl, (by first | rfl | exact ksub rfl (by first | omega | (simp; done) | (simp; omega))), rfl, trivial⟩ (fun _ s => s.pick [5, 6, 7, 8, 9, 10, 11, 12, 13, 14, 15, 16, 17, 18, 19] (by decide) rfl)
        · refine wp_sk (qs_n (wp_sq (sq_v rfl (v_move rfl) rfl (sq_v rfl (v_move rfl) rfl ?_)))); refine sq_v rfl (v_idxI Try.underlying25 ty_3 rfl rfl q25_6.toR (by first | omega | (simp; omega) | (simp only [List.length_append, List.length_cons, List.length_nil]; omega) | (rw [List.length_set]; omega)) (by first | omega | (simp; omega) | (simp only [List.length_append, List.length_cons, List.length_nil]; omega) | (rw [List.length_set]; omega))) rfl ?_; refine sq_m 5 rfl rfl (m_storeI 5 ty_3 rfl rfl rfl q25_6 (by first | omega | (simp; omega) | (simp only [List.length_append, List.length_cons, List.length_nil]; omega) | (rw [List.length_set]; omega))) rfl ?_; rintro _ h_q27_3 ⟨rfl, q27_3⟩; refine sq_end ?_; have hno := idx_no hD1 (by omega) (show 1 ≤ q by omega) hq hP (fun h => c132 (hc.2 h)); rw [em, List.set_set, hno.1] at q27_3; refine qs_bn (qs_n (wp_sq (sq_v rfl (v_move rfl) rfl ?_))); refine sq_v rfl (v_sub rfl rfl ((by unfold I64; omega))) rfl ?_; refine sq_v rfl (v_assign rfl) rfl (sq_end ?_); exact qs_bk (q - 1, h_q27_3) ⟨by (try dsimp only); omega, hno.2, q27_3⟩ (by simp only; omega) ⟨rfl, rfl, rfl, rfl, rfl, rfl, rfl, rfl, rfl, rfl, rfl, rfl, rfl, rfl, (by first | rfl | exact ksub rfl (by first | omega | (simp; done) | (simp; omega))), rfl, rfl, rfl, rfl, rfl, rfl, rfl, rfl, rfl, rfl, rfl, rfl, rfl, rfl, rfl, rfl, rfl, rfl, rfl, rfl, rfl, rfl, rfl, rfl, rfl, rfl, rfl, rfl, rfl, trivial⟩ (fun _ s => s)
      · refine wp_ex (qs_x (qs_x (qs_bx (qs_bn (qs_n (wp_sq (sq_v rfl (v_move rfl) rfl ?_))))))); refine sq_v rfl (v_sub rfl rfl ((by unfold I64; omega))) rfl ?_; refine sq_v rfl (v_assign rfl) rfl (sq_end ?_); exact qs_bk (m + 1, g2, h110) ⟨by (try dsimp only); omega, by (try dsimp only); rw [show q = 0 by omega, mix_zero] at qj; exact qj, by (try dsimp only); rw [pairX, hpe, ← ex, ← ey, ← ez]; exact r110⟩ (by simp only; omega) ⟨rfl, rfl, rfl, rfl, rfl, rfl, rfl, rfl, rfl, rfl, (by first | rfl | exact ksub rfl (by first | omega | (simp; done) | (simp; omega))), rfl, trivial⟩ (fun _ s => s.pick [5, 6, 7, 8, 9, 10, 11, 12, 13, 14, 15, 16, 17, 18, 19] (by decide) rfl)
  · refine wp_ex (qs_x (qs_x (qs_bx (qs_n (wp_sc (wp_sq (sq_v rfl (v_loadNB 4 ty_48 rfl rfl rfl rfl) rfl ?_))))))); refine sq_m 7 rfl rfl (m_store 7 ty_48 rfl rfl rfl rfl (by simp [qo1.toR.sl.one, qo2.toR.sl.one, qx.toR.sl.one]) rfl (Nat.le_of_ble_eq_true rfl)) rfl ?_; rintro _ _ ⟨rfl, rfl⟩; refine sq_end (qs_n (wp_rt ?_)); refine qs_close [box b8 _ _, hp w] [go1, go2, gx] (fun _ s => s.pick [7, 11, 12, 13, 14] (by decide) rfl) (fun md => ?_); exact qs_retc 1 rfl ty_48 rfl rfl rfl (fin_t 0 (i := 2) rfl rfl rfl ⟨_, _, _, rfl, _, _, _, qo1, qo2, (by rw [pairT, hL, hD, show (prodI D).toNat = m by omega]; exact qx), md⟩)
end Go.Proofs.Ytdkgaejmgnojhaa
namespace Go.Proofs.Ytdkgaejmgnojhaa
set_option maxRecDepth 100000
open Go.RowKit
def keepL (t u : Ten) (ks : List Int) : List Int := (joinI t.l u.l).filter fun x => decide (x ∈ ks)
def pairP (k p n : Int) (t u : Ten) (ks : List Int) : Prop := tensorL k p n t.l t.d t.x ∧ tensorL k p n u.l u.d u.x ∧ ¬ mism t u ∧ prodI (joinD t u) ≤ 65536 ∧ 0 ≤ sizeI (keepL t u ks) ((keepL t u ks).map (dimJ t u))
open Classical in
noncomputable def pairR (k p n : Int) (t u : Ten) (ks : List Int) : Ten := if pairP k p n t u ks then pairT k p n (dimJ t u) t u (keepL t u ks) else ⟨[], [], []⟩
theorem pairP.dims {k p n : Int} {t u : Ten} (h1 : tensorL k p n t.l t.d t.x) (h2 : tensorL k p n u.l u.d u.x) (h3 : ¬ mism t u) : t.d = t.l.map (dimJ t u) ∧ u.d = u.l.map (dimJ t u) ∧ joinD t u = (joinI t.l u.l).map (dimJ t u) := by
  have e1 := dimJ_l (u := u) (axes_nodup (ten_axes h1)) (ten_axes h1).2.1; have e2 := dimJ_r (axes_nodup (ten_axes h2)) (ten_axes h2).2.1 h3; exact ⟨e1, e2, joinD_map e1 e2⟩
theorem pair_ok {k p n : Int} {t u : Ten} (h1 : tensorL k p n t.l t.d t.x) (h2 : tensorL k p n u.l u.d u.x) (h3 : ¬ mism t u) (h4 : prodI (joinD t u) ≤ 65536) : PairOK k p n t u (dimJ t u) := by
  have e := pairP.dims h1 h2 h3; exact ⟨h1, h2, e.1, e.2.1, by rw [← e.2.2]; exact h4⟩
theorem keep_ok {k p n : Int} {t u : Ten} {ks : List Int} (ok : PairOK k p n t u (dimJ t u)) (h : 0 ≤ sizeI (keepL t u ks) ((keepL t u ks).map (dimJ t u))) : KeepOK t u (dimJ t u) (keepL t u ks) :=
  ⟨fun _ hl => (List.mem_filter.1 hl).1, List.Pairwise.filter _ ok.nd, (sizeI_ge.1 h).2⟩
theorem selP_prod (p : Int → Bool) : ∀ ls ds : List Int, (∀ d ∈ ds, 1 ≤ d) → 1 ≤ prodI (selP p ls ds) ∧ prodI (selP p ls ds) ≤ prodI ds
  | [], ds, h => by
    have := prodI_one h
    cases ds <;> simp [selP, prodI] at * <;> omega
  | l :: ls, [], _ => by simp [selP, prodI]
  | l :: ls, d :: ds, h => by
    have ih := selP_prod p ls ds (fun x hx => h x (by simp [hx])); have hd := h d (by simp); simp only [selP]; have h1 : 1 * prodI ds ≤ d * prodI ds := Int.mul_le_mul_of_nonneg_right hd (by omega)
    split
    · rw [prodI_cons, prodI_cons]; have h2 : d * prodI (selP p ls ds) ≤ d * prodI ds := Int.mul_le_mul_of_nonneg_left ih.2 (by omega); have h3 : 1 * 1 ≤ d * prodI (selP p ls ds) := Int.mul_le_mul hd ih.1 (by omega) (by omega)
      omega
    · rw [prodI_cons]; omega
end Go.Proofs.Ytdkgaejmgnojhaa
namespace Go.Proofs.Ytdkgaejmgnojhaa
set_option maxRecDepth 100000
open Go.RowKit
def oneT (k p n : Int) : Ten := ⟨[], [], oneL k p n⟩
theorem one_ten {k p n : Int} (h : ringL k p n) : tensorL k p n (oneT k p n).l (oneT k p n).d (oneT k p n).x := by
  have hs : sizeI [] [] = 1 := by
    have : axesL [] [] := ⟨by decide, rfl, fun j hj => by simp at hj⟩
    rw [sizeI_yes this (by decide)]; rfl
  have ho := oneL_in h; have hw := width_range h; refine ⟨h, by simp only [oneT]; omega, ?_, ho.2⟩; have := ho.1; simp only [oneT]; rw [hs]
  omega
theorem one_mism (k p n : Int) (t : Ten) : ¬ mism t (oneT k p n) := by
  rintro ⟨i, hi, _⟩
  simp [oneT] at hi
theorem one_joinD (k p n : Int) (t : Ten) : joinD t (oneT k p n) = t.d := by simp [joinD, oneT, selP]
theorem keep_axes {k p n : Int} {t u : Ten} {f : Int → Int} {K : List Int} (ok : PairOK k p n t u f) (hs : ∀ l ∈ K, l ∈ joinI t.l u.l) (hn : K.Nodup) (h12 : K.length ≤ 12) : axesL K (K.map f) := by
  refine ⟨h12, by simp, fun j hj => ⟨?_, ?_, nodup_not_take hn hj⟩⟩
  · rcases mem_joinI.1 (hs _ (mem_getD hj)) with h | h
    · obtain ⟨i, hi, e⟩ := getD_of_mem h; rw [← e]; exact ((ten_axes ok.tt).2.2 i hi).1
    · obtain ⟨i, hi, e⟩ := getD_of_mem h; rw [← e]; exact ((ten_axes ok.uu).2.2 i hi).1
  · rw [map_getD hj]; exact ok.dim _ (hs _ (mem_getD hj))
theorem sum_pair {k p n : Int} {t : Ten} (h : tensorL k p n t.l t.d t.x) (ks : List Int) : pairP k p n t (oneT k p n) ks := by
  have h1 := one_ten h.1; have hm := one_mism k p n t; have hp := ten_prod h; have ok := pair_ok h h1 hm (by rw [one_joinD]; omega); have hd := pairP.dims h h1 hm; have ej := hd.2.2; refine ⟨h, h1, hm, by rw [one_joinD]; omega, sizeI_ge.2 ⟨keep_axes ok (fun l hl => (List.mem_filter.1 hl).1) (List.Pairwise.filter _ ok.nd) ?_, ?_⟩⟩
  · have h1 := List.length_filter_le (fun x => decide (x ∈ ks)) (joinI t.l (oneT k p n).l); have h2 := joinI_len t.l (oneT k p n).l; have h3 := (ten_axes h).1; have h4 : (oneT k p n).l.length = 0 := rfl
    unfold keepL
    omega
  · have hs := selP_prod (fun x => decide (x ∈ ks)) (joinI t.l (oneT k p n).l) (joinD t (oneT k p n)) (by rw [one_joinD]; exact fun d hd => (dims_mem (axes_dims (ten_axes h)) d hd).1); rw [ej, selP_map, ← ej, one_joinD] at hs; exact Int.le_trans hs.2 hp
open Classical in
noncomputable def sumR (k p n : Int) (t : Ten) (ks : List Int) : Ten := if tensorL k p n t.l t.d t.x then pairT k p n (dimJ t (oneT k p n)) t (oneT k p n) (keepL t (oneT k p n) ks) else ⟨[], [], []⟩
theorem sumR_pair {k p n : Int} {t : Ten} {ks : List Int} (h : tensorL k p n t.l t.d t.x) : pairR k p n t (oneT k p n) ks = sumR k p n t ks := by
  rw [sumR, if_pos h, pairR, if_pos (sum_pair h ks)]
set_option maxHeartbeats 2000000 in
theorem ct_s_l08Sum (k p n : Int) (t : Ten) (ks : List Int) (a b c v : Value) (w : World) (r1 : IntsR t.l a (hp w)) (r2 : IntsR t.d b (hp w)) (r3 : IntsR t.x c (hp w)) (rk : IntsR ks v (hp w)) (ht : tensorL k p n t.l t.d t.x) :
    Calls Try.prog 21 [ringV k p n, tenV a b c, v].toArray w (Ret w emp (TenT (sumR k p n t ks))) := by
  have hring := ht.1; have hp := sum_pair ht ks; have ok := pair_ok hp.1 hp.2.1 hp.2.2.1 hp.2.2.2.1; have hk := keep_ok ok hp.2.2.2.2; have h12 := (sizeI_ge.1 hp.2.2.2.2).1.1; refine calls_in Try.func21 rfl Try.ntmps21 rfl (Sat.start w) ?_; have hle0 := r1.le; have hle1 := r2.le; have hle2 := r3.le; have hle3 := rk.le; refine wp_sc (wp_sq ?_); refine sq_x rfl (x_box rfl rfl) rfl ?_; rintro _ _ ⟨b3, rfl, rfl⟩; refine sq_x rfl (x_box rfl rfl) rfl ?_; rintro _ _ ⟨b4, rfl, rfl⟩; refine sq_x rfl (x_alloc ty_48 rfl) rfl ?_; rintro _ _ ⟨b6, rfl, rfl⟩; refine sq_end (qs_n (wp_sc (wp_rj 7 [(0, true), (1, true), (2, true), (5, true), (3, false), (4, true), (6, false), (7, false)] mixed_ok (by kernel_rfl) (rj_v rfl rfl (v_loadNB 2 ty_32 rfl rfl rfl rfl) rfl (rj_v rfl rfl (v_loadNB 1 ty_48 rfl rfl rfl rfl) rfl (rj_v rfl rfl (v_loadNB 2 ty_32 rfl rfl rfl rfl) rfl (rj_v rfl rfl (v_move rfl) rfl ?_))))))); refine rj_x rfl rfl (x_call rfl en_50 (fun w s => ct_s_l02One _ _ _ w (by first | assumption | omega))) rfl ?_; rintro v10 h10 r10; refine rj_v rfl rfl (v_build [.slice none 0 0, .slice none 0 0, v10] rfl (by obtain ⟨_, _, rfl⟩ := r10.toR.sl; kernel_rfl)) rfl ?_; refine rj_x rfl rfl (x_call rfl en_49 (fun w s => ct_s_l08Pair _ _ _ _ (oneT k p n) (dimJ t (oneT k p n)) (keepL t (oneT k p n) ks) _ _ _ _ _ _ _ _ w (r1.mono (s.get 4 rfl)) (r2.mono (s.get 4 rfl)) (r3.mono (s.get 4 rfl)) (IntsR.nil _) (IntsR.nil _) (r10.toR.mono (s.get 0 rfl)) (rk.mono (s.get 4 rfl)) ok rfl hk h12)) rfl ?_; rintro _ h13 ⟨va13, vb13, vc13, rfl, o13⟩; refine rj_m 2 rfl rfl rfl rfl (m_store 2 ty_48 rfl rfl rfl rfl (by simp [o13.toR.1.sl.one, o13.toR.2.1.sl.one, o13.toR.2.2.sl.one]) rfl (Nat.le_of_ble_eq_true rfl)) rfl ?_; rintro _ _ ⟨rfl, rfl⟩; refine rj_end (qs_n (wp_rt ?_)); exact qs_retc 2 rfl ty_48 rfl rfl rfl (fin_t 0 (i := 5) rfl rfl rfl (by rw [sumR, if_pos ht]; exact ⟨_, _, _, rfl, o13⟩))
end Go.Proofs.Ytdkgaejmgnojhaa
namespace Go.Proofs.Ytdkgaejmgnojhaa
set_option maxRecDepth 100000
open Go.RowKit
def TensL (ts : List Ten) (cs : List Value) (h : PH) : Prop := cs.length = ts.length * 3 ∧ ∀ (i : Nat) (t : Ten), ts[i]? = some t → TenR t ((cs.drop (i * 3)).take 3) h
theorem TensL.nil (h : PH) : TensL [] [] h := ⟨rfl, fun i x e => by simp at e⟩
theorem TensL.mono {ts : List Ten} {cs : List Value} {h h' : PH} (r : TensL ts cs h) (l : PLe h h') : TensL ts cs h' := ⟨r.1, fun i x e => (r.2 i x e).mono l⟩
theorem TensL.snoc {ts : List Ten} {cs : List Value} {h : PH} (r : TensL ts cs h) {t : Ten} {a b c : Value} (r1 : IntsR t.l a h) (r2 : IntsR t.d b h) (r3 : IntsR t.x c h) : TensL (ts ++ [t]) (cs ++ [a, b, c]) h := by
  refine ⟨by simp [r.1]; omega, fun i y e => ?_⟩
  by_cases hi : i < ts.length
  · rw [List.getElem?_append_left hi] at e; have := r.2 i y e; have e2 : ((cs ++ [a, b, c]).drop (i * 3)).take 3 = (cs.drop (i * 3)).take 3 := by
      rw [List.drop_append, List.take_append]; have hl : 3 - (cs.drop (i * 3)).length = 0 := by simp [r.1]; omega
      rw [hl, List.take_zero, List.append_nil]
    rw [e2]; exact this
  · have hlt := (List.getElem?_eq_some_iff.1 e).1
    simp at hlt
    have : i = ts.length := by omega
    subst this; rw [List.getElem?_append_right (by omega)] at e
    simp at e
    subst e; have e2 : ((cs ++ [a, b, c]).drop (ts.length * 3)).take 3 = [a, b, c] := by
      rw [← r.1, List.drop_left]; rfl
    rw [e2]; exact ⟨a, b, c, rfl, r1, r2, r3⟩
theorem TensL.tens {ts : List Ten} {cs : List Value} {v : Value} {h : PH} (r : TensL ts cs h) (rr : RowR cs ts.length 3 v h) : TensR ts v h := ⟨cs, rr, r.2⟩
theorem PDj.rest {w : World} {h hs : PH} (l : PLe hs h) : PDj hs (restP w h) := fun k => by
  cases e : hs k with
  | none => exact .inl rfl
  | some o => right; simp [restP, l k o e]
theorem Sat.join {w0 w : World} {HS : List PH} {a b : PH} (s : Sat w0 (a :: b :: HS) w) : Sat w0 (PUn a b :: HS) w := s.merge
def shTens (f : Int → Int) (s : Sh) : List Ten := s.all.map fun l => ⟨l, l.map f, []⟩
structure SpR (f : Int → Int) (s : Sh) (va vg : Value) (b : Nat) (h : PH) : Prop where
  ok : s.ok
  c0 : cellP h b 0 = some va
  c1 : cellP h b 1 = some vg
  all : TensR (shTens f s) va h
  gone : BoolsR s.gone vg h
end Go.Proofs.Ytdkgaejmgnojhaa
namespace Go.Proofs.Ytdkgaejmgnojhaa
set_option maxRecDepth 100000
open Go.RowKit
/-- The world's heap once more. -/
theorem Sat.whole {w0 w : World} {HS : List PH} {q : PH} (lq : PLe q (hp w0)) (s : Sat w0 (q :: restP w0 q :: HS) w) : Sat w0 (HS ++ [hp w0]) w := by
  have l : PLe (hp w0) (PUn q (restP w0 q)) := fun k o e => by
    unfold PUn restP
    cases hq : q k with
    | none => simp [e]
    | some o' => have := lq k o' hq; rw [e] at this; simp [this]
  have s1 := Sat.less (i := 0) s.merge rfl l; exact Sat.comm (A := [hp w0]) (B := HS) s1
theorem net_dmap {k p n : Int} {ts : List Ten} {op : List Int} (h : netL k p n ts op) : ∀ t ∈ ts, t.d = t.l.map (dimOf ts) := fun t ht => by
  have hax := net_axes h t ht; refine ext_getD (by rw [List.length_map, hax.2.1]) fun j hj => ?_; have hj' : j < t.l.length := by rw [hax.2.1]; exact hj
  rw [map_getD hj', net_dim h ht (mem_getD hj'), find_at hax hj', Int.toNat_natCast]
end Go.Proofs.Ytdkgaejmgnojhaa
namespace Go.Proofs.Ytdkgaejmgnojhaa
set_option maxRecDepth 100000
open Go.RowKit
theorem stepOk_at {op : List Int} {s : Sh} {ss : List Stp} (h : okSteps op s ss) {i : Nat} {x : Stp} (hx : ss[i]? = some x) : stepOk (shTo op s (ss.take i)) x := h i (List.getElem?_eq_some_iff.1 hx).1 x hx
theorem stepCells_take : ∀ (ss : List Stp) (n : Nat), stepCells (ss.take n) = (stepCells ss).take (n * 2)
  | [], n => by simp [stepCells]
  | s :: r, 0 => by simp [stepCells]
  | s :: r, n + 1 => by
    have := stepCells_take r n; rw [List.take_succ_cons, show (n + 1) * 2 = n * 2 + 1 + 1 by omega]
    show [num s.a, num s.b] ++ stepCells (r.take n) = ([num s.a, num s.b] ++ stepCells r).take (n * 2 + 1 + 1)
    rw [this]; rfl
theorem StepsR.subH {ss : List Stp} {v : Value} {h : PH} (r : StepsR ss v h) {hi : Nat} (h2 : hi ≤ ss.length) : StepsR (ss.take hi) (subV v 0 hi 2) h := by
  have := RowR.sub r (Nat.zero_le hi) h2
  unfold StepsR
  rw [stepCells_take, List.length_take, Nat.min_eq_left h2]
  simpa using this
end Go.Proofs.Ytdkgaejmgnojhaa
namespace Go.Proofs.Ytdkgaejmgnojhaa
set_option maxRecDepth 100000
open Go.RowKit
def bestP {α : Type} (g : α → Int) (l : List α) : Option α := l.foldl (fun o x => match o with | none => some x | some y => if g x < g y then some x else some y) none
theorem bestP_snoc {α : Type} (g : α → Int) (l : List α) (x : α) : bestP g (l ++ [x]) = match bestP g l with | none => some x | some y => if g x < g y then some x else some y := by simp [bestP]
theorem two_off : ∀ {l : List Nat} (_ : l.Nodup) {a b : Nat}, a ∈ l → b ∈ l → a ≠ b → (l.filter fun i => decide (i ≠ a ∧ i ≠ b)).length + 2 = l.length := by
  intro l hn a b ha hb hab; have hp := List.perm_cons_erase ha; have hb' : b ∈ l.erase a := (List.mem_erase_of_ne (Ne.symm hab)).2 hb; have hp2 := List.perm_cons_erase hb'; have hn2 : (l.erase a).Nodup := hn.erase a; have e : l.filter (fun i => decide (i ≠ a ∧ i ≠ b)) = (l.erase a).erase b := by
    rw [List.Nodup.erase_eq_filter hn a, List.Nodup.erase_eq_filter (List.Pairwise.filter _ hn) b, List.filter_filter]
    apply List.filter_congr
    intro i _; rw [Bool.eq_iff_iff]
    simp [and_comm]
  have h1 := hp.length_eq; have h2 := hp2.length_eq; simp only [List.length_cons] at h1 h2; rw [e]
  omega
theorem step_count {op : List Int} {s : Sh} (h : s.ok) {a b : Nat} (ha : a ∈ s.ixs) (hb : b ∈ s.ixs) (hab : a ≠ b) : (s.step op a b).ixs.length + 1 = s.ixs.length := by
  have := two_off (ixs_nodup s) ha hb hab; rw [step_ixs h, List.length_append, List.length_singleton]
  omega
theorem steps_count {op : List Int} {s : Sh} (h : s.fine) {ss : List Stp} (hok : okSteps op s ss) : ∀ i, i ≤ ss.length → (shTo op s (ss.take i)).ixs.length + i = s.ixs.length
  | 0, _ => by simp [shTo]
  | i + 1, hi => by
    have ih := steps_count h hok i (by omega); have hx : ss[i]? = some ss[i] := List.getElem?_eq_getElem (by omega); have hst := stepOk_at hok hx; have h1 := live_ixs.1 hst.1; have h2 := live_ixs.1 hst.2.1; rw [shTo_step hx]; have := step_count (op := op) (shTo_fine h (ss.take i)).1 h1.2 h2.2 (by have := hst.2.2; omega)
    omega
end Go.Proofs.Ytdkgaejmgnojhaa
namespace Go.Proofs.Ytdkgaejmgnojhaa
set_option maxRecDepth 100000
open Go.RowKit
abbrev noTen : Ten := ⟨[], [], []⟩
theorem dimJ_f {t u : Ten} {f : Int → Int} (ht : t.d = t.l.map f) (hu : u.d = u.l.map f) {x : Int} (hx : x ∈ joinI t.l u.l) : dimJ t u x = f x := by
  unfold dimJ
  by_cases h : x ∈ t.l
  · rw [if_pos h, ht, map_getD (findI_get h).1, (findI_get h).2]
  · have h2 := (mem_joinI.1 hx).resolve_left h; rw [if_neg h, hu, map_getD (findI_get h2).1, (findI_get h2).2]
theorem keep_map {t u : Ten} {f : Int → Int} (ht : t.d = t.l.map f) (hu : u.d = u.l.map f) (ks : List Int) : (keepL t u ks).map (dimJ t u) = (keepL t u ks).map f :=
  List.map_congr_left fun _ hx => dimJ_f ht hu (List.mem_filter.1 hx).1
theorem pair_ten {k p n : Int} {t u : Ten} {ks : List Int} (h : pairP k p n t u ks) : tensorL k p n (pairR k p n t u ks).l (pairR k p n t u ks).d (pairR k p n t u ks).x ∧ (pairR k p n t u ks).l = keepL t u ks ∧ (pairR k p n t u ks).d = (keepL t u ks).map (dimJ t u) := by
  have ok := pair_ok h.1 h.2.1 h.2.2.1 h.2.2.2.1; have hk := keep_ok ok h.2.2.2.2; have ha := ok.all hk (prodI ((joinI t.l u.l).map (dimJ t u))).toNat; have hs := sizeI_ge.1 h.2.2.2.2; rw [pairR, if_pos h]; refine ⟨⟨h.1.1, h.2.2.2.2, ?_, ha.2⟩, rfl, rfl⟩
  show ((pairX k p n (dimJ t u) t u (keepL t u ks) _).length : Int) = sizeI (keepL t u ks) ((keepL t u ks).map (dimJ t u)) * widthI k n
  rw [sizeI_yes hs.1 hs.2]; exact ha.1
theorem keepL_self {t u : Ten} {q : Int → Bool} : keepL t u ((joinI t.l u.l).filter q) = (joinI t.l u.l).filter q := by
  unfold keepL
  refine List.filter_congr fun x hx => ?_; rw [Bool.eq_iff_iff, decide_eq_true_eq, List.mem_filter]; exact ⟨fun h => h.2, fun h => ⟨hx, h⟩⟩
def stpAt (ss : List Stp) (i : Nat) : Stp := ss.getD i ⟨0, 0⟩
theorem stpAt_of {ss : List Stp} {i : Nat} {x : Stp} (h : ss[i]? = some x) : stpAt ss i = x := by simp [stpAt, List.getD, h]
noncomputable def runS (ts : List Ten) (op : List Int) (ss : List Stp) (i : Nat) : Sh := shTo op (sh0 ts) (ss.take i)
noncomputable def runK (ts : List Ten) (op : List Int) (ss : List Stp) (i : Nat) : List Int := (runS ts op ss i).res op (stpAt ss i).a.toNat (stpAt ss i).b.toNat
noncomputable def runTo (k p n : Int) (ts : List Ten) (op : List Int) (ss : List Stp) : Nat → List Ten
  | 0 => ts
  | i + 1 => runTo k p n ts op ss i ++ [pairR k p n ((runTo k p n ts op ss i).getD (stpAt ss i).a.toNat noTen) ((runTo k p n ts op ss i).getD (stpAt ss i).b.toNat noTen) (runK ts op ss i)]
noncomputable def runA (k p n : Int) (ts : List Ten) (op : List Int) (ss : List Stp) (i : Nat) : Ten := (runTo k p n ts op ss i).getD (stpAt ss i).a.toNat noTen
noncomputable def runB (k p n : Int) (ts : List Ten) (op : List Int) (ss : List Stp) (i : Nat) : Ten := (runTo k p n ts op ss i).getD (stpAt ss i).b.toNat noTen
def runFit (k p n : Int) (ts : List Ten) (op : List Int) (ss : List Stp) (i : Nat) : Prop := pairP k p n (runA k p n ts op ss i) (runB k p n ts op ss i) (runK ts op ss i)
structure RunOK (k p n : Int) (ts : List Ten) (op : List Int) (ss : List Stp) (i : Nat) : Prop where
  len : (runTo k p n ts op ss i).length = ts.length + i
  ten : ∀ (j : Nat) (t : Ten), (runTo k p n ts op ss i)[j]? = some t → tensorL k p n t.l t.d t.x ∧ t.l = (runS ts op ss i).lab j ∧ t.d = t.l.map (dimOf ts)
section
variable {k p n : Int} {ts : List Ten} {op : List Int} {ss : List Stp}
theorem runTo_step (i : Nat) : runTo k p n ts op ss (i + 1) = runTo k p n ts op ss i ++ [pairR k p n (runA k p n ts op ss i) (runB k p n ts op ss i) (runK ts op ss i)] := rfl
theorem RunOK.get {i : Nat} (r : RunOK k p n ts op ss i) {j : Nat} (hj : j < ts.length + i) : tensorL k p n ((runTo k p n ts op ss i).getD j noTen).l ((runTo k p n ts op ss i).getD j noTen).d ((runTo k p n ts op ss i).getD j noTen).x ∧
    ((runTo k p n ts op ss i).getD j noTen).l = (runS ts op ss i).lab j ∧ ((runTo k p n ts op ss i).getD j noTen).d = ((runTo k p n ts op ss i).getD j noTen).l.map (dimOf ts) := by
  have hlt : j < (runTo k p n ts op ss i).length := by rw [r.len]; exact hj
  have h := r.ten j _ (List.getElem?_eq_getElem hlt); have e2 : (runTo k p n ts op ss i).getD j noTen = (runTo k p n ts op ss i)[j] := by simp [List.getD, List.getElem?_eq_getElem hlt]
  rw [e2]; exact h
theorem run_step (h : orderL k p n ts op ss) {i : Nat} (hi : i < ss.length) : stepOk (runS ts op ss i) (stpAt ss i) ∧ runS ts op ss (i + 1) = (runS ts op ss i).step op (stpAt ss i).a.toNat (stpAt ss i).b.toNat ∧ (runS ts op ss i).all.length = ts.length + i := by
  have hx : ss[i]? = some ss[i] := List.getElem?_eq_getElem hi; refine ⟨?_, ?_, ?_⟩
  · rw [stpAt_of hx]; exact h.2.2 i hi _ hx
  · rw [stpAt_of hx]; exact shTo_step hx
  · rw [runS, shTo_all, show (sh0 ts).all.length = ts.length by simp [sh0], List.length_take]; omega
theorem run_fine (h : netL k p n ts op) (i : Nat) : (runS ts op ss i).fine := shTo_fine (sh0_fine (net_axes h)) _
theorem RunOK.two {i : Nat} (r : RunOK k p n ts op ss i) (h : orderL k p n ts op ss) (hi : i < ss.length) :
    (tensorL k p n (runA k p n ts op ss i).l (runA k p n ts op ss i).d (runA k p n ts op ss i).x ∧ (runA k p n ts op ss i).l = (runS ts op ss i).lab (stpAt ss i).a.toNat ∧ (runA k p n ts op ss i).d = (runA k p n ts op ss i).l.map (dimOf ts)) ∧
    (tensorL k p n (runB k p n ts op ss i).l (runB k p n ts op ss i).d (runB k p n ts op ss i).x ∧ (runB k p n ts op ss i).l = (runS ts op ss i).lab (stpAt ss i).b.toNat ∧ (runB k p n ts op ss i).d = (runB k p n ts op ss i).l.map (dimOf ts)) := by
  obtain ⟨⟨⟨a0, a1, _⟩, ⟨b0, b1, _⟩, _⟩, _, hl⟩ := run_step h hi; exact ⟨r.get (by omega), r.get (by omega)⟩
theorem RunOK.kept {i : Nat} (r : RunOK k p n ts op ss i) (h : orderL k p n ts op ss) (hi : i < ss.length) : keepL (runA k p n ts op ss i) (runB k p n ts op ss i) (runK ts op ss i) = runK ts op ss i := by
  obtain ⟨⟨_, la, _⟩, ⟨_, lb, _⟩⟩ := r.two h hi; have e : runK ts op ss i = (joinI (runA k p n ts op ss i).l (runB k p n ts op ss i).l).filter fun x => @decide ((runS ts op ss i).kept op (stpAt ss i).a.toNat (stpAt ss i).b.toNat x) (Classical.propDecidable _) := by rw [la, lb]; rfl
  rw [e]; exact keepL_self
theorem RunOK.step {i : Nat} (r : RunOK k p n ts op ss i) (h : orderL k p n ts op ss) (hi : i < ss.length) (hf : runFit k p n ts op ss i) : RunOK k p n ts op ss (i + 1) := by
  obtain ⟨hst, hs1, hl⟩ := run_step h hi; obtain ⟨⟨ta, la, da⟩, ⟨tb, lb, db⟩⟩ := r.two h hi; have hk := r.kept h hi; obtain ⟨p1, p2, p3⟩ := pair_ten hf; rw [keep_map da db, hk] at p3; rw [hk] at p2; refine ⟨by rw [runTo_step, List.length_append, r.len]; simp; omega, fun j t hj => ?_⟩; rw [runTo_step] at hj
  rcases Nat.lt_or_ge j (runTo k p n ts op ss i).length with hlt | hge
  · rw [List.getElem?_append_left hlt] at hj; have := r.ten j t hj; rw [hs1, step_lab (by rw [hl, ← r.len]; exact hlt)]; exact this
  · rw [List.getElem?_append_right hge] at hj; have e0 : j - (runTo k p n ts op ss i).length = 0 := by
      rcases Nat.eq_zero_or_pos (j - (runTo k p n ts op ss i).length) with h0 | h0
      · exact h0
      · rw [List.getElem?_eq_none (by simp; omega)] at hj; cases hj
    rw [e0] at hj
    simp at hj
    subst hj; refine ⟨p1, ?_, ?_⟩
    · rw [p2, hs1, show j = (runS ts op ss i).all.length by rw [hl, ← r.len]; omega, step_lab_new]; rfl
    · rw [p2, p3]
theorem run_ok (h : orderL k p n ts op ss) : ∀ i, i ≤ ss.length → (∀ j, j < i → runFit k p n ts op ss j) → RunOK k p n ts op ss i
  | 0, _, _ => by
    refine ⟨rfl, fun j t hj => ?_⟩; have hj' : ts[j]? = some t := hj; have hm := List.mem_of_getElem? hj'; exact ⟨h.1.2.2.1 t hm, by simp [runS, shTo, Sh.lab, sh0, List.getD, hj'], net_dmap h.1 t hm⟩
  | i + 1, hi, hf => (run_ok h i (by omega) fun j hj => hf j (by omega)).step h (by omega) (hf i (by omega))
/-- The rows of m cells but those at p and q, of the first k. -/
def dropK {α : Type} (m : Nat) (cs : List α) (p q : Nat) : Nat → List α
  | 0 => []
  | k + 1 => if k ≠ p ∧ k ≠ q then dropK m cs p q k ++ (cs.drop (k * m)).take m else dropK m cs p q k
theorem dropK_yes {α : Type} {m : Nat} {cs : List α} {p q k : Nat} (h : k ≠ p ∧ k ≠ q) : dropK m cs p q (k + 1) = dropK m cs p q k ++ (cs.drop (k * m)).take m := by rw [dropK, if_pos h]
theorem dropK_no {α : Type} {m : Nat} {cs : List α} {p q k : Nat} (h : ¬ (k ≠ p ∧ k ≠ q)) : dropK m cs p q (k + 1) = dropK m cs p q k := by rw [dropK, if_neg h]
theorem one_drop {α : Type} {l : List α} {k : Nat} {x : α} (h : l[k]? = some x) : (l.drop (k * 1)).take 1 = [x] := by
  obtain ⟨hk, rfl⟩ := List.getElem?_eq_some_iff.1 h; rw [Nat.mul_one, List.drop_eq_getElem_cons hk]; rfl
theorem dropK_len {α : Type} {m : Nat} {cs : List α} {p q : Nat} : ∀ k, (dropK m cs p q k).length ≤ k * m
  | 0 => by simp [dropK]
  | k + 1 => by
    have ih := dropK_len (m := m) (cs := cs) (p := p) (q := q) k; have e : (k + 1) * m = k * m + m := by rw [Nat.add_mul, Nat.one_mul]
    by_cases h : k ≠ p ∧ k ≠ q
    · rw [dropK_yes h, List.length_append, List.length_take]; omega
    · rw [dropK_no h]; omega
noncomputable def outTo (k p n : Int) (ts : List Ten) (op : List Int) (ss : List Stp) (i : Nat) : List Ten := (runS ts op ss i).ixs.map fun j => (runTo k p n ts op ss i).getD j noTen
theorem dimOf_mem {ts : List Ten} {x : Int} (h : dimOf ts x ≠ 0) : ∃ t ∈ ts, x ∈ t.l := by
  induction ts with
  | nil => simp [dimOf] at h
  | cons t ts ih =>
    rw [dimOf] at h
    by_cases hx : x ∈ t.l
    · exact ⟨t, by simp, hx⟩
    · rw [if_neg hx] at h; obtain ⟨u, hu, hxu⟩ := ih h; exact ⟨u, by simp [hu], hxu⟩
theorem run_open (h : orderL k p n ts op ss) {x : Int} (hx : x ∈ op) : ∀ i, i ≤ ss.length → ∃ j ∈ (runS ts op ss i).ixs, x ∈ (runS ts op ss i).lab j
  | 0, _ => by
    obtain ⟨j, hj, e⟩ := getD_of_mem hx; have ho := (open_at h.1.2.2.2.2 hj).2; rw [e] at ho; obtain ⟨t, ht, hxt⟩ := dimOf_mem (ts := ts) (x := x) (by omega); obtain ⟨m, hm⟩ := List.getElem?_of_mem ht; have hml := (List.getElem?_eq_some_iff.1 hm).1; have e0 : runS ts op ss 0 = sh0 ts := rfl; refine ⟨m, by rw [e0, sh0_ixs]; simpa using hml, ?_⟩; rw [e0]
    simpa [Sh.lab, sh0, List.getD, hm] using hxt
  | i + 1, hi => by
    obtain ⟨j, hj, hxj⟩ := run_open h hx i (by omega); obtain ⟨hst, hs1, hl⟩ := run_step h (i := i) (by omega); have hok := (run_fine (ss := ss) h.1 i).1; rw [hs1]
    by_cases hc : j ≠ (stpAt ss i).a.toNat ∧ j ≠ (stpAt ss i).b.toNat
    · refine ⟨j, by rw [step_ixs hok]; simp [hj, hc], ?_⟩; rw [step_lab (mem_ixs.1 hj).1]; exact hxj
    · refine ⟨(runS ts op ss i).all.length, by rw [step_ixs hok]; simp, ?_⟩; rw [step_lab_new]; refine List.mem_filter.2 ⟨mem_joinI.2 ?_, by simpa using .inl hx⟩
      by_cases ea : j = (stpAt ss i).a.toNat
      · exact .inl (ea ▸ hxj)
      · exact .inr ((show j = (stpAt ss i).b.toNat by omega) ▸ hxj)
theorem run_left (h : orderL k p n ts op ss) (hn : ts ≠ []) : (runS ts op ss ss.length).ixs = [ts.length + ss.length - 1] := by
  have hlen : ts.length ≠ 0 := fun e => hn (List.eq_nil_of_length_eq_zero e); have hc := steps_count (op := op) (sh0_fine (net_axes h.1)) h.2.2 ss.length (Nat.le_refl _); rw [show (sh0 ts).ixs.length = ts.length by rw [sh0_ixs]; simp] at hc; have h1 : (runS ts op ss ss.length).ixs.length = 1 := by
    have := h.2.1
    show (shTo op (sh0 ts) (ss.take ss.length)).ixs.length = 1
    omega
  have hm : ts.length + ss.length - 1 ∈ (runS ts op ss ss.length).ixs := by
    rcases Nat.eq_zero_or_pos ss.length with h0 | h0
    · have e0 : runS ts op ss ss.length = sh0 ts := by rw [h0]; rfl
      rw [e0, sh0_ixs, h0]; simp; omega
    · obtain ⟨hst, hs1, hl⟩ := run_step h (i := ss.length - 1) (by omega); rw [show ss.length - 1 + 1 = ss.length by omega] at hs1; rw [hs1, step_ixs (run_fine (ss := ss) h.1 _).1, hl]
      simp; omega
  obtain ⟨y, hy⟩ := List.length_eq_one_iff.1 h1; rw [hy] at hm ⊢
  simp at hm
  rw [hm]
end
end Go.Proofs.Ytdkgaejmgnojhaa
namespace Go.Proofs.Ytdkgaejmgnojhaa
set_option maxRecDepth 100000
open Go.RowKit
theorem Made.join3 {h a b : PH} {l : List PH} (m : Made h (a :: b :: l)) : Made h [a, b, joinP l] := by
  have hs := m.sep; have hl : PLe (joinP l) h := fun k o e => by
    obtain ⟨y, hy, e'⟩ := joinP_dom e; exact m.le y (by simp [hy]) k o e'
  refine ⟨⟨fun x hx => ?_, fun x hx => ?_, fun x hx => by simp at hx, trivial⟩, fun x hx => ?_, fun k o e => ?_⟩
  · rcases List.mem_cons.1 hx with rfl | hx
    · exact hs.1 _ (by simp)
    · simp at hx; subst hx
      exact PDj.join fun y hy => hs.1 y (by simp [hy])
  · simp at hx; subst hx
    exact PDj.join fun y hy => hs.2.1 y hy
  · simp at hx
    rcases hx with rfl | rfl | rfl
    · exact m.le _ (by simp)
    · exact m.le _ (by simp)
    · exact hl
  · obtain ⟨x, hx, e'⟩ := m.dom k o e
    simp at hx
    rcases hx with rfl | rfl | hx
    · exact ⟨x, by simp, e'⟩
    · exact ⟨x, by simp, e'⟩
    · exact ⟨joinP l, by simp, PLe.join hs.2.2 x hx k o e'⟩
theorem Made.part3 {h a b c : PH} {l : List PH} (m : Made h [a, b, c]) (ml : Made c l) : Made h (a :: b :: l) := by
  have hs := m.sep; have hc : PLe c h := m.le c (by simp); refine ⟨⟨fun x hx => ?_, fun x hx => ?_, ml.sep⟩, fun x hx => ?_, fun k o e => ?_⟩
  · rcases List.mem_cons.1 hx with rfl | hx
    · exact hs.1 _ (by simp)
    · exact (((hs.1 c (by simp)).symm).mono (ml.le x hx)).symm
  · exact (((hs.2.1 c (by simp)).symm).mono (ml.le x hx)).symm
  · simp at hx
    rcases hx with rfl | rfl | hx
    · exact m.le _ (by simp)
    · exact m.le _ (by simp)
    · exact (ml.le x hx).trans hc
  · obtain ⟨x, hx, e'⟩ := m.dom k o e
    simp at hx
    rcases hx with rfl | rfl | rfl
    · exact ⟨x, by simp, e'⟩
    · exact ⟨x, by simp, e'⟩
    · obtain ⟨y, hy, e2⟩ := ml.dom k o e'; exact ⟨y, by simp [hy], e2⟩
theorem NetO.split {ts : List Ten} {op : List Int} {vt vo : Value} {h : PH} (r : NetO ts op vt vo h) : ∃ cs h0 ho hl, RowO 48 cs ts.length 3 vt h0 ∧ IntsO op vo ho ∧ OwnH (flat ts) cs hl ∧ Made h [h0, ho, hl] := by
  obtain ⟨cs, h0, ho, l, r0, r1, o, m⟩ := r; exact ⟨cs, h0, ho, joinP l, r0, r1, ⟨l, o, Made.join m.sep.2.2⟩, m.join3⟩
theorem NetO.join {ts : List Ten} {op : List Int} {vt vo : Value} {h h0 ho hl : PH} {cs : List Value} (r0 : RowO 48 cs ts.length 3 vt h0) (r1 : IntsO op vo ho) (o : OwnH (flat ts) cs hl) (m : Made h [h0, ho, hl]) : NetO ts op vt vo h := by
  obtain ⟨l, o, ml⟩ := o; exact ⟨cs, h0, ho, l, r0, r1, o, m.part3 ml⟩
theorem OwnL.take {xss : List (List Int)} {vs : List Value} {l : List PH} (o : OwnL xss vs l) (n : Nat) : OwnL (xss.take n) (vs.take n) (l.take n) := by
  refine ⟨by simp [o.l1], by simp [o.l2], fun i xs h => ?_⟩; have hi : i < n := by
    rcases Nat.lt_or_ge i n with h' | h'
    · exact h'
    · rw [List.getElem?_take, if_neg (by omega)] at h; cases h
  rw [List.getElem?_take, if_pos hi] at h ⊢; rw [List.getElem?_take, if_pos hi]; exact o.own i xs h
theorem OwnL.drop {xss : List (List Int)} {vs : List Value} {l : List PH} (o : OwnL xss vs l) (n : Nat) : OwnL (xss.drop n) (vs.drop n) (l.drop n) := by
  refine ⟨by simp [o.l1], by simp [o.l2], fun i xs h => ?_⟩; rw [List.getElem?_drop] at h ⊢; rw [List.getElem?_drop]; exact o.own (n + i) xs h
theorem flat_take {ts : List Ten} {i : Nat} (h : i ≤ ts.length) : flat (ts.take i) = (flat ts).take (i * 3) ∧ flat (ts.drop i) = (flat ts).drop (i * 3) := by
  have e : flat ts = flat (ts.take i) ++ flat (ts.drop i) := by rw [← flat_append, List.take_append_drop]
  have hl : (flat (ts.take i)).length = i * 3 := by rw [flat_len, List.length_take, Nat.min_eq_left h]
  constructor
  · rw [e, List.take_left' hl]
  · rw [e, List.drop_left' hl]
theorem flat_set {ts : List Ten} {i : Nat} (h : i < ts.length) (u : Ten) : flat (ts.set i u) = (flat ts).take (i * 3) ++ [u.l, u.d, u.x] ++ (flat ts).drop (i * 3 + 3) := by
  rw [List.set_eq_take_append_cons_drop, if_pos h, flat_append, (flat_take (Nat.le_of_lt h)).1, show i * 3 + 3 = (i + 1) * 3 by omega, ← (flat_take (show i + 1 ≤ ts.length by omega)).2, List.append_assoc]
  rfl
theorem sep_mono {l l' : List PH} (h : sepL l) (hs : l'.Sublist l) : sepL l' := by
  induction hs with
  | slnil => exact trivial
  | cons x _ ih => exact ih h.2
  | cons_cons x s ih => exact ⟨fun y hy => h.1 y (s.subset hy), ih h.2⟩
theorem OwnH.set {ts : List Ten} {u : Ten} {cs : List Value} {a b c : Value} {h h' : PH} {i : Nat} (hi : i < ts.length) (o : OwnH (flat ts) cs h) (r : TriO u a b c h') (hd : PDj h h') :
    ∃ g, PLe g (PUn h h') ∧ OwnH (flat (ts.set i u)) (cs.take (i * 3) ++ [a, b, c] ++ cs.drop (i * 3 + 3)) g := by
  obtain ⟨l, ol, m⟩ := o; obtain ⟨h1, h2, h3, r1, r2, r3, m'⟩ := r; have hx : ∀ x ∈ l.take (i * 3) ++ [h1, h2, h3] ++ l.drop (i * 3 + 3), PLe x (PUn h h') := fun x hx => by
    simp only [List.mem_append] at hx
    rcases hx with (hx | hx) | hx
    · exact (m.le x (List.mem_of_mem_take hx)).trans (PLe.un_l _ _)
    · exact (m'.le x hx).trans (PLe.un_r hd)
    · exact (m.le x (List.mem_of_mem_drop hx)).trans (PLe.un_l _ _)
  have hab : ∀ x ∈ l, ∀ y ∈ [h1, h2, h3], PDj x y := fun x hx y hy => (((hd.mono (m.le x hx)).symm).mono (m'.le y hy)).symm; have hsub : (l.take (i * 3) ++ l.drop (i * 3 + 3)).Sublist l := by
    conv => rhs; rw [← List.take_append_drop (i * 3) l]
    refine List.Sublist.append (List.Sublist.refl _) ?_; rw [← List.drop_drop]; exact List.drop_sublist _ _
  have hsep := sepL_append.1 (sep_mono m.sep hsub); have hs : sepL (l.take (i * 3) ++ [h1, h2, h3] ++ l.drop (i * 3 + 3)) := by
    refine sepL_append.2 ⟨sepL_append.2 ⟨hsep.1, m'.sep, fun x hx y hy => hab x (List.mem_of_mem_take hx) y hy⟩, hsep.2.1, fun x hx y hy => ?_⟩
    rcases List.mem_append.1 hx with hx | hx
    · exact hsep.2.2 x hx y hy
    · exact (hab y (List.mem_of_mem_drop hy) x hx).symm
  refine ⟨joinP (l.take (i * 3) ++ [h1, h2, h3] ++ l.drop (i * 3 + 3)), fun k o e => ?_, _, ?_, Made.join hs⟩
  · obtain ⟨y, hy, e'⟩ := joinP_dom e; exact hx y hy k o e'
  · rw [flat_set hi]; exact ((ol.take _).append (OwnL.three r1 r2 r3)).append (ol.drop _)
def replP (k p n : Int) (ts : List Ten) (op : List Int) (i : Int) (u : Ten) : Prop := netL k p n ts op ∧ (0 ≤ i ∧ i < ts.length) ∧ fitP k p n (ts.getD i.toNat ⟨[], [], []⟩) u
open Classical in
noncomputable def replB (k p n : Int) (ts : List Ten) (op : List Int) (i : Int) (u : Ten) : Bool := decide (replP k p n ts op i u)
noncomputable def ifB {α : Type} (b : Bool) (x y : α) : α := if b then x else y
noncomputable def replTs (k p n : Int) (ts : List Ten) (op : List Int) (i : Int) (u : Ten) : List Ten := ifB (replB k p n ts op i u) (ts.set i.toNat u) []
noncomputable def replOp (k p n : Int) (ts : List Ten) (op : List Int) (i : Int) (u : Ten) : List Int := ifB (replB k p n ts op i u) op []
def ReplR (k p n : Int) (ts : List Ten) (op : List Int) (i : Int) (u : Ten) (x : Value) (h : PH) : Prop :=
  ∃ vt vo, x = .tuple [netV (ifB (replB k p n ts op i u) k 0) (ifB (replB k p n ts op i u) p 0) (ifB (replB k p n ts op i u) n 0) vt vo, .bool (replB k p n ts op i u)].toArray ∧ NetO (replTs k p n ts op i u) (replOp k p n ts op i u) vt vo h
theorem NetO.nil : NetO [] [] (.slice none 0 0) (.slice none 0 0) emp :=
  ⟨[], emp, emp, [], RowO.nil, IntsO.nil, OwnL.nil, ⟨by simp [sepL, PDj.emp], fun x hx => by simp at hx; subst hx; exact PLe.emp _, fun k o e => by cases e⟩⟩
theorem ReplR.no {k p n i : Int} {ts : List Ten} {op : List Int} {u : Ten} (h : ¬ replP k p n ts op i u) : ReplR k p n ts op i u (.tuple [netV 0 0 0 (.slice none 0 0) (.slice none 0 0), .bool false].toArray) emp := by
  have e : replB k p n ts op i u = false := by simp [replB, h]
  refine ⟨.slice none 0 0, .slice none 0 0, ?_, ?_⟩
  · rw [e]; rfl
  · rw [replTs, replOp, e]; exact NetO.nil
theorem ReplR.yes {k p n i : Int} {ts : List Ten} {op : List Int} {u : Ten} {vt vo : Value} {g : PH} (h : replP k p n ts op i u) (r : NetO (ts.set i.toNat u) op vt vo g) : ReplR k p n ts op i u (.tuple [netV k p n vt vo, .bool true].toArray) g := by
  have e : replB k p n ts op i u = true := by simp [replB, h]
  refine ⟨vt, vo, ?_, ?_⟩
  · rw [e]; rfl
  · rw [replTs, replOp, e]; exact r
end Go.Proofs.Ytdkgaejmgnojhaa
namespace Go.Proofs.Ytdkgaejmgnojhaa
set_option maxRecDepth 100000
open Go.RowKit
theorem OwnL.piece {ts : List Ten} {vs : List Value} {l : List PH} (o : OwnL (flat ts) vs l) {k : Nat} {t : Ten} (h : ts[k]? = some t) : OwnL (flat [t]) ((vs.drop (k * 3)).take 3) ((l.drop (k * 3)).take 3) := by
  have hk := (List.getElem?_eq_some_iff.1 h).1; have e : ((flat ts).drop (k * 3)).take 3 = flat [t] := by
    rw [← (flat_take (Nat.le_of_lt hk)).2, drop_at h]; rfl
  have := (o.drop (k * 3)).take 3
  rwa [e] at this
theorem OwnL.dropK {ts : List Ten} {vs : List Value} {l : List PH} (o : OwnL (flat ts) vs l) (p q : Nat) : ∀ k, k ≤ ts.length → OwnL (flat (dropK 1 ts p q k)) (dropK 3 vs p q k) (dropK 3 l p q k)
  | 0, _ => OwnL.nil
  | k + 1, hk => by
    have ih := OwnL.dropK o p q k (by omega); have ht : ts[k]? = some ts[k] := List.getElem?_eq_getElem (by omega)
    by_cases h : k ≠ p ∧ k ≠ q
    · rw [dropK_yes h, dropK_yes h, dropK_yes h, one_drop ht, flat_append]; exact ih.append (o.piece ht)
    · rw [dropK_no h, dropK_no h, dropK_no h]; exact ih
theorem dropK_sub {α : Type} (m : Nat) (l : List α) (p q : Nat) : ∀ k, (dropK m l p q k).Sublist (l.take (k * m))
  | 0 => by simp [dropK]
  | k + 1 => by
    have ih := dropK_sub m l p q k; have e : l.take ((k + 1) * m) = l.take (k * m) ++ (l.drop (k * m)).take m := by rw [Nat.add_mul, Nat.one_mul, List.take_add]
    rw [e]
    by_cases h : k ≠ p ∧ k ≠ q
    · rw [dropK_yes h]; exact ih.append (List.Sublist.refl _)
    · rw [dropK_no h]; exact ih.trans (List.sublist_append_left _ _)
theorem OwnH.dropK {ts : List Ten} {cs : List Value} {h : PH} (o : OwnH (flat ts) cs h) (p q : Nat) : ∃ g, PLe g h ∧ OwnH (flat (dropK 1 ts p q ts.length)) (dropK 3 cs p q ts.length) g := by
  obtain ⟨l, ol, m⟩ := o; have hs := (dropK_sub 3 l p q ts.length).trans (List.take_sublist _ _); have hsep := sep_mono m.sep hs; refine ⟨joinP (Go.Proofs.Ytdkgaejmgnojhaa.dropK 3 l p q ts.length), fun k o e => ?_, _, ol.dropK p q _ (Nat.le_refl _), Made.join hsep⟩; obtain ⟨y, hy, e'⟩ := joinP_dom e; exact m.le y (hs.subset hy) k o e'
theorem perm_all {k p n : Int} {t : Ten} {ls : List Int} (h : PermOK k p n t ls) : ∀ m : Nat, ((permX (widthI k n) t ls (permD t ls) m).length : Int) = m * widthI k n ∧ ∀ a ∈ permX (widthI k n) t ls (permD t ls) m, 0 ≤ a ∧ a ≤ topI k p n
  | 0 => by simp [permX]
  | m + 1 => by
    have ih := perm_all h m; have ho := h.off m; have he := elt_inR h.ten ho.1 ho.2; have hw := width_range h.ring; rw [permX_step]; refine ⟨?_, fun a ha => ?_⟩
    · rw [List.length_append, he.1, Int.natCast_add, ih.1, show ((m + 1 : Nat) : Int) = (m : Int) + 1 from rfl, Int.add_mul, Int.one_mul]; omega
    · rcases List.mem_append.1 ha with ha | ha
      · exact ih.2 a ha
      · exact he.2 a ha
theorem perm_axes {k p n : Int} {t : Ten} {ls : List Int} (h : PermOK k p n t ls) : axesL ls (permD t ls) := by
  refine ⟨h.len.2.2, (permD_len t ls).symm, fun j hj => ⟨?_, h.dims j (by rw [permD_len]; exact hj), nodup_not_take h.nodup hj⟩⟩; obtain ⟨i, hi, e⟩ := getD_of_mem (h.perm.mem_iff.1 (mem_getD hj)); rw [← e]; exact (h.axes.2.2 i hi).1
theorem perm_ten {k p n : Int} {t : Ten} {ls : List Int} (h : PermOK k p n t ls) : tensorL k p n (permT k n t ls).l (permT k n t ls).d (permT k n t ls).x := by
  have hs := h.small; have ha := perm_axes h; have hx := perm_all h (prodI (permD t ls)).toNat; refine ⟨h.ring, sizeI_ge.2 ⟨ha, hs.2⟩, ?_, hx.2⟩
  show ((permX (widthI k n) t ls (permD t ls) (prodI (permD t ls)).toNat).length : Int) = sizeI ls (permD t ls) * widthI k n
  rw [sizeI_yes ha hs.2, hx.1, show (((prodI (permD t ls)).toNat : Nat) : Int) = prodI (permD t ls) by omega]
theorem net_open {k p n : Int} {ts : List Ten} {op : List Int} (h : netL k p n ts op) : op.Nodup ∧ op.length ≤ 12 := by
  have ha := (sizeI_ge.1 h.2.2.2.2).1; exact ⟨axes_nodup ha, ha.1⟩
theorem mem_keep {t u : Ten} {ks : List Int} {x : Int} : x ∈ keepL t u ks ↔ (x ∈ t.l ∨ x ∈ u.l) ∧ x ∈ ks := by
  unfold keepL
  rw [List.mem_filter, mem_joinI, decide_eq_true_eq]
theorem sum_ten {k p n : Int} {t : Ten} (ht : tensorL k p n t.l t.d t.x) (ks : List Int) : tensorL k p n (sumR k p n t ks).l (sumR k p n t ks).d (sumR k p n t ks).x ∧ (sumR k p n t ks).l = keepL t (oneT k p n) ks ∧ (sumR k p n t ks).d = (keepL t (oneT k p n) ks).map (dimJ t (oneT k p n)) := by
  have := pair_ten (sum_pair ht ks)
  rwa [sumR_pair ht] at this
theorem fin_perm {k p n : Int} {t : Ten} {op : List Int} (ht : tensorL k p n t.l t.d t.x) (hn : op.Nodup) (hs : ∀ x ∈ op, x ∈ t.l) : PermOK k p n (sumR k p n t op) op := by
  obtain ⟨h1, h2, _⟩ := sum_ten ht op; have hk : ∀ x, x ∈ (sumR k p n t op).l ↔ x ∈ op := fun x => by
    rw [h2, mem_keep]; exact ⟨fun h => h.2, fun h => ⟨.inl (hs x h), h⟩⟩
  exact ⟨ht.1, h1, perm_of hn (fun x hx => (hk x).2 hx) (pigeon (axes_nodup (ten_axes h1)) fun x hx => (hk x).1 hx)⟩
noncomputable def finT (k p n : Int) (t : Ten) (op : List Int) : Ten := permT k n (sumR k p n t op) op
def finP (k p n : Int) (ts : List Ten) (op : List Int) (t : Ten) : Prop := netL k p n ts op ∧ tensorL k p n t.l t.d t.x ∧ ∀ x ∈ op, x ∈ t.l
theorem finP.perm {k p n : Int} {ts : List Ten} {op : List Int} {t : Ten} (h : finP k p n ts op t) : PermOK k p n (sumR k p n t op) op := fin_perm h.2.1 (net_open h.1).1 h.2.2
def conP (k p n : Int) (ts : List Ten) (op : List Int) (ss : List Stp) : Prop := orderL k p n ts op ss ∧ ∀ j, j < ss.length → runFit k p n ts op ss j
noncomputable def lastT (k p n : Int) (ts : List Ten) (op : List Int) (ss : List Stp) : Ten := (runTo k p n ts op ss ss.length).getD (ts.length + ss.length - 1) noTen
noncomputable def conT (k p n : Int) (ts : List Ten) (op : List Int) (ss : List Stp) : Ten := if ts.length = 0 then oneT k p n else finT k p n (lastT k p n ts op ss) op
section
variable {k p n : Int} {ts : List Ten} {op : List Int} {ss : List Stp}
theorem conP.last (h : conP k p n ts op ss) (hn : ts.length ≠ 0) : finP k p n ts op (lastT k p n ts op ss) ∧ outTo k p n ts op ss ss.length = [lastT k p n ts op ss] := by
  have r := run_ok h.1 ss.length (Nat.le_refl _) h.2; have hl := run_left h.1 (fun e => hn (by rw [e]; rfl)); have hg := r.get (j := ts.length + ss.length - 1) (by omega); refine ⟨⟨h.1.1, hg.1, fun x hx => ?_⟩, by rw [outTo, hl]; rfl⟩; obtain ⟨j, hj, hxj⟩ := run_open h.1 hx ss.length (Nat.le_refl _); rw [hl] at hj
  simp at hj
  show x ∈ ((runTo k p n ts op ss ss.length).getD (ts.length + ss.length - 1) noTen).l
  rw [hg.2.1, ← hj]; exact hxj
theorem conP.empty (h : conP k p n ts op ss) (hn : ts.length = 0) : op = [] := by
  refine List.eq_nil_iff_forall_not_mem.2 fun x hx => ?_; obtain ⟨j, hj, e⟩ := getD_of_mem hx; have ho := (open_at h.1.1.2.2.2.2 hj).2; have e0 : ts = [] := List.eq_nil_of_length_eq_zero hn; rw [e0] at ho
  simp [dimOf] at ho
theorem conP.ten (h : conP k p n ts op ss) : tensorL k p n (conT k p n ts op ss).l (conT k p n ts op ss).d (conT k p n ts op ss).x ∧ (conT k p n ts op ss).l = op := by
  unfold conT
  by_cases hn : ts.length = 0
  · rw [if_pos hn]; exact ⟨one_ten h.1.1.1, (h.empty hn).symm⟩
  · rw [if_neg hn]; exact ⟨perm_ten (h.last hn).1.perm, rfl⟩
end
end Go.Proofs.Ytdkgaejmgnojhaa
namespace Go.Proofs.Ytdkgaejmgnojhaa
set_option maxRecDepth 100000
open Go.RowKit
theorem one_drop_none {α : Type} {l : List α} {k : Nat} (h : l[k]? = none) : (l.drop (k * 1)).take 1 = [] := by
  rw [Nat.mul_one, List.drop_of_length_le (List.getElem?_eq_none_iff.1 h)]; rfl
theorem mem_dropK {α : Type} {l : List α} {p q : Nat} {t : α} : ∀ k, t ∈ dropK 1 l p q k ↔ ∃ m, m < k ∧ m ≠ p ∧ m ≠ q ∧ l[m]? = some t
  | 0 => by simp [dropK]
  | k + 1 => by
    have ih := mem_dropK (l := l) (p := p) (q := q) (t := t) k; have hx : t ∈ (l.drop (k * 1)).take 1 ↔ l[k]? = some t := by
      cases h : l[k]? with
      | none => rw [one_drop_none h]; simp
      | some x => rw [one_drop h]; simp [eq_comm]
    by_cases hc : k ≠ p ∧ k ≠ q
    · rw [dropK_yes hc, List.mem_append, ih, hx]
      constructor
      · rintro (⟨m, h1, h2⟩ | h)
        · exact ⟨m, by omega, h2⟩
        · exact ⟨k, by omega, hc.1, hc.2, h⟩
      · rintro ⟨m, h1, h2, h3, h4⟩
        by_cases e : m = k
        · subst e; exact .inr h4
        · exact .inl ⟨m, by omega, h2, h3, h4⟩
    · rw [dropK_no hc, ih]
      constructor
      · rintro ⟨m, h1, h2⟩; exact ⟨m, by omega, h2⟩
      · rintro ⟨m, h1, h2, h3, h4⟩; have : m ≠ k := fun e => hc (e ▸ ⟨h2, h3⟩); exact ⟨m, by omega, h2, h3, h4⟩
def needS (ts : List Ten) (op : List Int) (i j m : Nat) : List Int := op ++ (dropK 1 ts i j m).flatMap (·.l)
theorem mem_needS {ts : List Ten} {op : List Int} {i j m : Nat} {x : Int} : x ∈ needS ts op i j m ↔ x ∈ op ∨ ∃ t ∈ dropK 1 ts i j m, x ∈ t.l := by
  simp [needS, List.mem_append, List.mem_flatMap]
section
variable {ts : List Ten} {op : List Int} {i j k : Nat} {t : Ten}
end
theorem dimOf_map {us : List Ten} {f : Int → Int} {x : Int} (h : ∀ t ∈ us, t.d = t.l.map f) (hx : ∃ t ∈ us, x ∈ t.l) : dimOf us x = f x := by
  induction us with
  | nil => obtain ⟨t, ht, _⟩ := hx; simp at ht
  | cons t us ih =>
    rw [dimOf]
    by_cases hm : x ∈ t.l
    · rw [if_pos hm, h t (by simp), map_getD (findI_get hm).1, (findI_get hm).2]
    · rw [if_neg hm]; refine ih (fun u hu => h u (by simp [hu])) ?_; obtain ⟨u, hu, hxu⟩ := hx
      rcases List.mem_cons.1 hu with rfl | hu
      · exact absurd hxu hm
      · exact ⟨u, hu, hxu⟩
theorem dimOf_none {us : List Ten} {x : Int} (hx : ¬ ∃ t ∈ us, x ∈ t.l) : dimOf us x = 0 := Classical.byContradiction fun h => hx (dimOf_mem h)
theorem cons_of_map {us : List Ten} {f : Int → Int} (h : ∀ t ∈ us, t.d = t.l.map f) : consL us := fun i _ t ht j hj t' ht' => by
  rw [ht] at ht'
  cases ht'
  by_cases hx : ∃ u ∈ us.take i, t.l.getD j 0 ∈ u.l
  · right
    rw [dimOf_map (fun u hu => h u (List.mem_of_mem_take hu)) hx, h t (List.mem_of_getElem? ht), map_getD hj]
  · exact .inl (dimOf_none hx)
theorem net_of {k p n : Int} {ts us : List Ten} {op : List Int} (h : netL k p n ts op) (hl : us.length ≤ 12) (ht : ∀ t ∈ us, tensorL k p n t.l t.d t.x) (hd : ∀ t ∈ us, t.d = t.l.map (dimOf ts)) (ho : ∀ x ∈ op, ∃ t ∈ us, x ∈ t.l) : netL k p n us op := by
  refine ⟨h.1, hl, ht, cons_of_map hd, ?_⟩; have e : dimsFor us op = dimsFor ts op := List.map_congr_left fun x hx => dimOf_map hd (ho x hx); rw [e]; exact h.2.2.2.2
theorem net_has {k p n : Int} {ts : List Ten} {op : List Int} (h : netL k p n ts op) {x : Int} (hx : x ∈ op) : ∃ t ∈ ts, x ∈ t.l := by
  obtain ⟨j, hj, e⟩ := getD_of_mem hx; have ho := (open_at h.2.2.2.2 hj).2; rw [e] at ho; exact dimOf_mem (by omega)
def mgLo (i j : Int) : Nat := (min i j).toNat
def mgHi (i j : Int) : Nat := (max i j).toNat
def mgA (ts : List Ten) (i j : Int) : Ten := ts.getD (mgLo i j) noTen
def mgB (ts : List Ten) (i j : Int) : Ten := ts.getD (mgHi i j) noTen
def mergN (ts : List Ten) (op : List Int) (i j : Int) : List Int := needS ts op i.toNat j.toNat ts.length
def mergP (k p n : Int) (ts : List Ten) (op : List Int) (i j : Int) : Prop := netL k p n ts op ∧ (0 ≤ i ∧ i < ts.length) ∧ (0 ≤ j ∧ j < ts.length) ∧ i ≠ j ∧ pairP k p n (mgA ts i j) (mgB ts i j) (mergN ts op i j)
noncomputable def mergT (k p n : Int) (ts : List Ten) (op : List Int) (i j : Int) : Ten := pairR k p n (mgA ts i j) (mgB ts i j) (mergN ts op i j)
noncomputable def mergL (k p n : Int) (ts : List Ten) (op : List Int) (i j : Int) (m : Nat) : List Ten := dropK 1 (ts.set (mgLo i j) (mergT k p n ts op i j)) (mgHi i j) (mgHi i j) m
section
variable {k p n : Int} {ts : List Ten} {op : List Int} {i j : Int}
theorem merg_hi {m : Nat} (h : (m : Int) = max i j) : mergL k p n ts op i j (m + 1) = mergL k p n ts op i j m := by
  have e : m = mgHi i j := by unfold mgHi; omega
  unfold mergL
  rw [dropK_no (by omega)]
theorem merg_len (m : Nat) : (mergL k p n ts op i j m).length ≤ m := by
  have := dropK_len (m := 1) (cs := ts.set (mgLo i j) (mergT k p n ts op i j)) (p := mgHi i j) (q := mgHi i j) m
  unfold mergL; omega
theorem mergP.mem (h : mergP k p n ts op i j) {t : Ten} : t ∈ mergL k p n ts op i j ts.length ↔ t = mergT k p n ts op i j ∨ ∃ m, m < ts.length ∧ m ≠ mgLo i j ∧ m ≠ mgHi i j ∧ ts[m]? = some t := by
  obtain ⟨_, hi, hj, hne, _⟩ := h; have e : mgLo i j ≠ mgHi i j := by unfold mgLo mgHi; omega
  have e2 : mgLo i j < ts.length := by unfold mgLo; omega
  rw [mergL, mem_dropK]
  constructor
  · rintro ⟨m, h1, h2, _, h4⟩
    by_cases c : mgLo i j = m
    · subst c; rw [List.getElem?_set_self h1] at h4
      cases h4; exact .inl rfl
    · rw [List.getElem?_set_ne c] at h4; exact .inr ⟨m, h1, Ne.symm c, h2, h4⟩
  · rintro (rfl | ⟨m, h1, h2, h3, h4⟩)
    · exact ⟨mgLo i j, e2, e, e, List.getElem?_set_self e2⟩
    · exact ⟨m, h1, h3, h3, by rw [List.getElem?_set_ne (Ne.symm h2)]; exact h4⟩
theorem mergP.ab (h : mergP k p n ts op i j) : ts[mgLo i j]? = some (mgA ts i j) ∧ ts[mgHi i j]? = some (mgB ts i j) := by
  obtain ⟨_, hi, hj, hne, _⟩ := h; have e1 : mgLo i j < ts.length := by unfold mgLo; omega
  have e2 : mgHi i j < ts.length := by unfold mgHi; omega
  exact ⟨by simp [mgA, List.getD, e1], by simp [mgB, List.getD, e2]⟩
theorem mergP.net (h : mergP k p n ts op i j) : netL k p n (mergL k p n ts op i j ts.length) op := by
  have hn := h.1; have hd := net_dmap hn; obtain ⟨ea, eb⟩ := h.ab; have hma := List.mem_of_getElem? ea; have hmb := List.mem_of_getElem? eb; have pt := pair_ten h.2.2.2.2; refine net_of hn (Nat.le_trans (merg_len _) hn.2.1) (fun t ht => ?_) (fun t ht => ?_) (fun x hx => ?_)
  · rcases h.mem.1 ht with rfl | ⟨m, _, _, _, hm⟩
    · exact pt.1
    · exact hn.2.2.1 t (List.mem_of_getElem? hm)
  · rcases h.mem.1 ht with rfl | ⟨m, _, _, _, hm⟩
    · show (mergT k p n ts op i j).d = (mergT k p n ts op i j).l.map (dimOf ts)
      rw [mergT, pt.2.2, pt.2.1, keep_map (hd _ hma) (hd _ hmb)]
    · exact hd t (List.mem_of_getElem? hm)
  · obtain ⟨t, ht, hxt⟩ := net_has hn hx; obtain ⟨m, hm⟩ := List.getElem?_of_mem ht
    by_cases c : m ≠ mgLo i j ∧ m ≠ mgHi i j
    · exact ⟨t, h.mem.2 (.inr ⟨m, (List.getElem?_eq_some_iff.1 hm).1, c.1, c.2, hm⟩), hxt⟩
    · refine ⟨_, h.mem.2 (.inl rfl), ?_⟩; rw [mergT, pt.2.1, mem_keep]; refine ⟨?_, mem_needS.2 (.inl hx)⟩
      by_cases c1 : m = mgLo i j
      · subst c1; rw [ea] at hm; cases hm; exact .inl hxt
      · have c2 : m = mgHi i j := by omega
        subst c2; rw [eb] at hm; cases hm; exact .inr hxt
theorem mergP.less (h : mergP k p n ts op i j) : (mergL k p n ts op i j ts.length).length + 1 ≤ ts.length := by
  obtain ⟨_, hi, hj, hne, _⟩ := h; have e : mgHi i j < ts.length := by unfold mgHi; omega
  have hs : ∀ (c m : Nat), mgHi i j < m → m = mgHi i j + 1 + c → (mergL k p n ts op i j m).length + 1 ≤ m := by
    intro c
    induction c with
    | zero =>
      intro m hm e; have := merg_len (k := k) (p := p) (n := n) (ts := ts) (op := op) (i := i) (j := j) (mgHi i j); rw [show m = mgHi i j + 1 by omega, merg_hi (by unfold mgHi; omega)]
      omega
    | succ c ih =>
      intro m hm e; have ih := ih (mgHi i j + 1 + c) (by omega) rfl; have e3 : mgHi i j + 1 + c ≠ mgHi i j := by omega
      rw [show m = (mgHi i j + 1 + c) + 1 by omega, mergL, dropK_yes ⟨e3, e3⟩, List.length_append, List.length_take]
      unfold mergL at ih
      omega
  exact hs (ts.length - (mgHi i j + 1)) ts.length e (by omega)
end
end Go.Proofs.Ytdkgaejmgnojhaa
namespace Go.Proofs.Ytdkgaejmgnojhaa
set_option maxRecDepth 100000
open Go.RowKit
theorem prod_erase : ∀ {ds : List Int} {j : Nat}, j < ds.length → prodI (ds.eraseIdx j) * ds.getD j 0 = prodI ds
  | [], j, h => by simp at h
  | d :: ds, 0, _ => by rw [List.eraseIdx_zero, List.tail_cons, prodI_cons, Int.mul_comm]; rfl
  | d :: ds, j + 1, h => by
    have ih := prod_erase (ds := ds) (j := j) (by simpa using h); rw [List.eraseIdx_cons_succ, prodI_cons, prodI_cons, List.getD_cons_succ, Int.mul_assoc, ih]
def slJ (t : Ten) (x : Int) : Nat := (findI t.l x).toNat
def slX (wd : Int) (t : Ten) (j : Nat) (v : Int) (m : Nat) : List Int := (slTo t.d j v m).flatMap fun (n : Nat) => elt t.x wd n
noncomputable def slT (k n : Int) (t : Ten) (x v : Int) : Ten := ⟨t.l.eraseIdx (slJ t x), t.d.eraseIdx (slJ t x), slX (widthI k n) t (slJ t x) v (prodI t.d).toNat⟩
/-- The numbers as the program meets them. -/
def slY (wd : Int) (t : Ten) (j : Nat) (v : Int) (m : Nat) : List Int := ((List.range m).map (slAt t.d j v)).flatMap fun (n : Nat) => elt t.x wd n
theorem slY_step {wd : Int} {t : Ten} {j m : Nat} {v : Int} : slY wd t j v (m + 1) = slY wd t j v m ++ elt t.x wd (slAt t.d j v m) := by
  unfold slY
  rw [List.range_succ, List.map_append, List.flatMap_append]
  simp
structure SlOK (k p n : Int) (t : Ten) (x v : Int) : Prop where
  ten : tensorL k p n t.l t.d t.x
  mem : x ∈ t.l
  val : 0 ≤ v ∧ v < t.d.getD (slJ t x) 0
section
variable {k p n : Int} {t : Ten} {x v : Int}
theorem sl_j (h : tensorL k p n t.l t.d t.x) (hx : x ∈ t.l) : slJ t x < t.l.length ∧ slJ t x < t.d.length ∧ t.l.getD (slJ t x) 0 = x := by
  have hg := findI_get hx; have ha := ten_axes h; exact ⟨hg.1, by rw [← ha.2.1]; exact hg.1, hg.2⟩
theorem SlOK.eq (h : SlOK k p n t x v) : slX (widthI k n) t (slJ t x) v (prodI t.d).toNat = slY (widthI k n) t (slJ t x) v (prodI (t.d.eraseIdx (slJ t x))).toNat := by
  have hj := sl_j h.ten h.mem
  unfold slX slY
  rw [sl_eq (fun d hd => (dims_mem (axes_dims (ten_axes h.ten)) d hd).1) hj.2.1 h.val]
theorem SlOK.at_ (h : SlOK k p n t x v) (m : Nat) : slAt t.d (slJ t x) v m < (prodI t.d).toNat ∧ ((slAt t.d (slJ t x) v m : Nat) : Int) = v * strOf t.l t.d x + dotL (stepsL (t.l.eraseIdx (slJ t x)) t.l t.d) (idxL (t.d.eraseIdx (slJ t x)) m) := by
  have hj := sl_j h.ten h.mem; have ha := ten_axes h.ten; have hd : ∀ d ∈ t.d, 1 ≤ d := fun d hd => (dims_mem (axes_dims ha) d hd).1; have hin := sl_in hd hj.2.1 h.val m; have hs := sl_dot (ls := t.l) (ds := t.d) (is := idxL (t.d.eraseIdx (slJ t x)) m) (j := slJ t x) v (axes_nodup ha) ha.2.1 hj.1 (by rw [idxL_len, List.length_eraseIdx_of_lt hj.2.1]; have := hj.2.1; have := ha.2.1; omega); rw [hj.2.2] at hs
  unfold slAt
  omega
theorem SlOK.dims (h : SlOK k p n t x v) : dimsIn (t.d.eraseIdx (slJ t x)) ∧ 1 ≤ prodI (t.d.eraseIdx (slJ t x)) ∧ prodI (t.d.eraseIdx (slJ t x)) ≤ 4096 := by
  have hj := sl_j h.ten h.mem; have ha := ten_axes h.ten; have hm := erase_mem (j := slJ t x) (dims_mem (axes_dims ha)); have hp1 := prodI_one fun d hd => (hm d hd).1; have hpe := prod_erase hj.2.1; have hd := axes_dims ha (slJ t x) hj.2.1; have hp := ten_prod h.ten; have h1 : prodI (t.d.eraseIdx (slJ t x)) * 1 ≤ prodI (t.d.eraseIdx (slJ t x)) * t.d.getD (slJ t x) 0 := Int.mul_le_mul_of_nonneg_left hd.1 (by omega); exact ⟨fun j hj => hm _ (mem_getD hj), hp1, by omega⟩
theorem SlOK.el (h : SlOK k p n t x v) (m : Nat) : InR k p n (elt t.x (widthI k n) (slAt t.d (slJ t x) v m)) := by
  have := (h.at_ m).1; exact elt_inR h.ten (by omega) (by omega)
theorem SlOK.all (h : SlOK k p n t x v) : ∀ m : Nat, ((slY (widthI k n) t (slJ t x) v m).length : Int) = m * widthI k n ∧ ∀ a ∈ slY (widthI k n) t (slJ t x) v m, 0 ≤ a ∧ a ≤ topI k p n
  | 0 => by simp [slY]
  | m + 1 => by
    have ih := SlOK.all h m; have he := h.el m; have hw := width_range h.ten.1; rw [slY_step]; refine ⟨?_, fun a ha => ?_⟩
    · rw [List.length_append, he.1, Int.natCast_add, ih.1, show ((m + 1 : Nat) : Int) = (m : Int) + 1 from rfl, Int.add_mul, Int.one_mul]; omega
    · rcases List.mem_append.1 ha with ha | ha
      · exact ih.2 a ha
      · exact he.2 a ha
theorem SlOK.axes (h : SlOK k p n t x v) : axesL (t.l.eraseIdx (slJ t x)) (t.d.eraseIdx (slJ t x)) := by
  have hj := sl_j h.ten h.mem; have ha := ten_axes h.ten; have hl := List.length_eraseIdx_of_lt hj.1; have hl2 := List.length_eraseIdx_of_lt hj.2.1; have hn : (t.l.eraseIdx (slJ t x)).Nodup := (axes_nodup ha).sublist (List.eraseIdx_sublist _ _); refine ⟨by rw [hl]; have := ha.1; omega, by rw [hl, hl2, ha.2.1], fun i hi => ⟨?_, h.dims.1 i (by rw [hl] at hi; rw [hl2]; have := ha.2.1; omega), nodup_not_take hn hi⟩⟩; obtain ⟨q, hq, e⟩ := getD_of_mem (List.mem_of_mem_eraseIdx (mem_getD hi)); rw [← e]; exact (ha.2.2 q hq).1
theorem SlOK.out (h : SlOK k p n t x v) : tensorL k p n (slT k n t x v).l (slT k n t x v).d (slT k n t x v).x := by
  have hd := h.dims; have ha := h.axes; have hx := h.all (prodI (t.d.eraseIdx (slJ t x))).toNat; refine ⟨h.ten.1, sizeI_ge.2 ⟨ha, hd.2.2⟩, ?_, fun a hm => ?_⟩
  · show ((slX (widthI k n) t (slJ t x) v (prodI t.d).toNat).length : Int) = sizeI (t.l.eraseIdx (slJ t x)) (t.d.eraseIdx (slJ t x)) * widthI k n
    rw [h.eq, sizeI_yes ha hd.2.2, hx.1, show (((prodI (t.d.eraseIdx (slJ t x))).toNat : Nat) : Int) = prodI (t.d.eraseIdx (slJ t x)) by omega]
  · have hm' : a ∈ slX (widthI k n) t (slJ t x) v (prodI t.d).toNat := hm; rw [h.eq] at hm'; exact hx.2 a hm'
end
end Go.Proofs.Ytdkgaejmgnojhaa
namespace Go.Proofs.Ytdkgaejmgnojhaa
set_option maxRecDepth 100000
open Go.RowKit
section
variable (m : Int) (ss : List Stp) (C : List Int) (W : Int)
def done (S : List Int) : Prop := ∀ i, i < S.length → 0 ≤ S.getD i 0
end
section
variable {m : Int} {ss : List Stp} {C : List Int} {W : Int} {S : List Int} {T : Int}
end
end Go.Proofs.Ytdkgaejmgnojhaa
namespace Go.Proofs.Ytdkgaejmgnojhaa
set_option maxRecDepth 100000
open Go.RowKit
def plainAt (m k : Nat) : Stp := if k = 0 then ⟨0, 1⟩ else ⟨(k : Int) + 1, (m : Int) + k - 1⟩
def plainTo (m j : Nat) : List Stp := (List.range j).map (plainAt m)
def plainL (m : Nat) : List Stp := plainTo m (m - 1)
def totP (k p n : Int) (ts : List Ten) (op : List Int) : Prop := netL k p n ts op ∧ conP k p n ts [] (plainL ts.length)
open Classical in
noncomputable def totB (k p n : Int) (ts : List Ten) (op : List Int) : Bool := decide (totP k p n ts op)
noncomputable def totX (k p n : Int) (ts : List Ten) (op : List Int) : List Int := ifB (totB k p n ts op) (conT k p n ts [] (plainL ts.length)).x []
section
variable {k p n : Int} {ts : List Ten} {op : List Int}
theorem totB_true : totB k p n ts op = true ↔ totP k p n ts op := by simp [totB]
theorem totX_yes (h : totP k p n ts op) : totX k p n ts op = (conT k p n ts [] (plainL ts.length)).x := by rw [totX, totB_true.2 h]; rfl
theorem totP.inR (h : totP k p n ts op) : InR k p n (totX k p n ts op) := by
  obtain ⟨ht, hl⟩ := h.2.ten; rw [totX_yes h]; have hax := ten_axes ht; have hd : (conT k p n ts [] (plainL ts.length)).d = [] := List.eq_nil_of_length_eq_zero (by rw [← hax.2.1, hl]; rfl); have hx := ht.2.2.1; rw [hl, hd] at hx; have hs : sizeI [] [] = 1 := by
    have : axesL [] [] := ⟨by decide, rfl, fun j hj => by simp at hj⟩
    rw [sizeI_yes this (by decide)]; rfl
  rw [hs, Int.one_mul] at hx; exact ⟨by omega, ht.2.2.2⟩
end
section
variable {k p n x : Int} {ts : List Ten} {op : List Int}
end
end Go.Proofs.Ytdkgaejmgnojhaa
namespace Go.Proofs.Ytdkgaejmgnojhaa
set_option maxRecDepth 100000
open Go.RowKit
def onesT (k p n : Int) (t : Ten) : Ten := ⟨t.l, t.d, (List.replicate (prodI t.d).toNat (oneL k p n)).flatten⟩
def envTs (k p n : Int) (ts : List Ten) (i : Int) : List Ten := ts.set i.toNat (onesT k p n (ts.getD i.toNat noTen))
def envOp (ts : List Ten) (op : List Int) (i : Int) : List Int := joinI op (ts.getD i.toNat noTen).l
def envP (k p n : Int) (ts : List Ten) (op : List Int) (i : Int) : Prop := netL k p n ts op ∧ (0 ≤ i ∧ i < ts.length) ∧ conP k p n (envTs k p n ts i) (envOp ts op i) (plainL ts.length)
open Classical in
noncomputable def envB (k p n : Int) (ts : List Ten) (op : List Int) (i : Int) : Bool := decide (envP k p n ts op i)
noncomputable def envR (k p n : Int) (ts : List Ten) (op : List Int) (i : Int) : Ten := ifB (envB k p n ts op i) (conT k p n (envTs k p n ts i) (envOp ts op i) (plainL ts.length)) noTen
section
variable {k p n i : Int} {ts : List Ten} {op : List Int}
theorem envB_true : envB k p n ts op i = true ↔ envP k p n ts op i := by simp [envB]
end
theorem dimOf_set {ts : List Ten} {j : Nat} {t u : Ten} (ht : ts[j]? = some t) (hl : u.l = t.l) (hd : u.d = t.d) (x : Int) : dimOf (ts.set j u) x = dimOf ts x := by
  induction ts generalizing j with
  | nil => simp at ht
  | cons y ts ih =>
    cases j with
    | zero =>
      have e : y = t := by simpa using ht
      subst e; simp only [List.set_cons_zero, dimOf, hl, hd]
    | succ j =>
      have := ih (j := j) (by simpa using ht); simp only [List.set_cons_succ, dimOf, this]
theorem idxAt_map {ls ds op : List Int} {f : Int → Int} (hd : ds = ls.map f) (hs : ∀ x ∈ op, x ∈ ls) : idxAt ls ds op = op.map f := List.map_congr_left fun x hx => by
  have hg := findI_get (hs x hx); rw [hd, map_getD hg.1, hg.2]
theorem conP.dims {k p n : Int} {ts : List Ten} {op : List Int} {ss : List Stp} (h : conP k p n ts op ss) : (conT k p n ts op ss).d = op.map (dimOf ts) := by
  unfold conT
  by_cases hn : ts.length = 0
  · rw [if_pos hn, h.empty hn]; rfl
  · rw [if_neg hn]; have hf := (h.last hn).1; have r := run_ok h.1 ss.length (Nat.le_refl _) h.2; have hg := r.get (j := ts.length + ss.length - 1) (by omega); have hs := sum_ten hf.2.1 op; have e : (sumR k p n (lastT k p n ts op ss) op).d = (sumR k p n (lastT k p n ts op ss) op).l.map (dimOf ts) := by
      rw [hs.2.2, hs.2.1]; exact keep_map (t := lastT k p n ts op ss) (u := oneT k p n) hg.2.2 rfl op
    exact idxAt_map e fun x hx => hf.perm.perm.mem_iff.1 hx
def crP (k p n : Int) (ts : List Ten) (op : List Int) (i : Int) (u : Ten) : Prop := replP k p n ts op i u ∧ envP k p n ts op i ∧ pairP k p n u (envR k p n ts op i) op
section
variable {k p n i : Int} {ts : List Ten} {op : List Int} {u : Ten}
theorem envP.ten (h : envP k p n ts op i) : tensorL k p n (envR k p n ts op i).l (envR k p n ts op i).d (envR k p n ts op i).x ∧ (envR k p n ts op i).l = envOp ts op i ∧ (envR k p n ts op i).d = (envR k p n ts op i).l.map (dimOf ts) := by
  have e : envR k p n ts op i = conT k p n (envTs k p n ts i) (envOp ts op i) (plainL ts.length) := by rw [envR, envB_true.2 h]; rfl
  have ht := h.2.2.ten; have hd := h.2.2.dims; rw [e]; have hi : i.toNat < ts.length := by have := h.2.1; omega
  have hj : ts[i.toNat]? = some (ts.getD i.toNat noTen) := by simp [List.getD, hi]
  refine ⟨ht.1, ht.2, ?_⟩; rw [hd, ht.2]; exact List.map_congr_left fun x _ => dimOf_set (u := onesT k p n (ts.getD i.toNat noTen)) hj rfl rfl x
theorem crP.perm (h : crP k p n ts op i u) : PermOK k p n (pairR k p n u (envR k p n ts op i) op) op := by
  obtain ⟨h1, h2, _⟩ := pair_ten h.2.2; have he := h.2.1.ten; have hn := (net_open h.1.1).1; have hk : ∀ x, x ∈ (pairR k p n u (envR k p n ts op i) op).l ↔ x ∈ op := fun x => by
    rw [h2, mem_keep]; exact ⟨fun h => h.2, fun h => ⟨.inr (by rw [he.2.1]; exact mem_joinI.2 (.inl h)), h⟩⟩
  exact ⟨h1.1, h1, perm_of hn (fun x hx => (hk x).2 hx) (pigeon (axes_nodup (ten_axes h1)) fun x hx => (hk x).1 hx)⟩
end
end Go.Proofs.Ytdkgaejmgnojhaa
namespace Go.Proofs.Ytdkgaejmgnojhaa
set_option maxRecDepth 100000
open Go.RowKit

section
variable {P : Program} {n : Nat} {w0 : World} {K : Env} {HS : List PH} {d : Option Tmp} {ty : TypeId} {ps : String} {af : Array Edge} {g : Option (Nat × Bool)}
end
theorem NetO.none : NetO [] [] (.slice none 0 0) (.slice none 0 0) emp :=
  ⟨[], emp, emp, [], ⟨rfl, .inl ⟨rfl, rfl, rfl⟩⟩, IntsO.nil, OwnL.nil, ⟨⟨fun x hx => PDj.emp _, fun x hx => PDj.emp _, trivial⟩, fun x hx => by simp at hx; subst hx; exact PLe.emp _, fun k o e => by cases e⟩⟩
end Go.Proofs.Ytdkgaejmgnojhaa
namespace Go.Proofs.Ytdkgaejmgnojhaa
set_option maxRecDepth 100000
open Go.RowKit
theorem OwnH.at {ts : List Ten} {cs : List Value} {h : PH} (o : OwnH (flat ts) cs h) (i : Nat) (hi : i < ts.length) : ∃ t a b c, ts[i]? = some t ∧ (cs.drop (i * 3)).take 3 = [a, b, c] ∧ IntsR t.l a h ∧ IntsR t.d b h ∧ IntsR t.x c h := by
  obtain ⟨l, ol, m⟩ := o; have ht : ts[i]? = some ts[i] := List.getElem?_eq_getElem hi; obtain ⟨f1, f2, f3⟩ := tens_get ht; obtain ⟨a, h1, e1, g1, r1⟩ := ol.own _ _ f1; obtain ⟨b, h2, e2, g2, r2⟩ := ol.own _ _ f2; obtain ⟨c, h3, e3, g3, r3⟩ := ol.own _ _ f3; exact ⟨_, a, b, c, ht, three_at e1 e2 e3, r1.toR.mono (m.le _ (List.mem_of_getElem? g1)), r2.toR.mono (m.le _ (List.mem_of_getElem? g2)), r3.toR.mono (m.le _ (List.mem_of_getElem? g3))⟩
end Go.Proofs.Ytdkgaejmgnojhaa
namespace Go.Proofs.Ytdkgaejmgnojhaa
set_option maxRecDepth 100000
open Go.RowKit
theorem TensL.at {ts : List Ten} {cs : List Value} {h H : PH} (r : TensL ts cs h) (l : PLe h H) (j : Nat) (hj : j < ts.length) : ∃ t a b c, ts[j]? = some t ∧ (cs.drop (j * 3)).take 3 = [a, b, c] ∧ IntsR t.l a H ∧ IntsR t.d b H ∧ IntsR t.x c H := by
  have ht : ts[j]? = some ts[j] := List.getElem?_eq_getElem hj; obtain ⟨a, b, c, e, r1, r2, r3⟩ := r.2 j _ ht; exact ⟨_, a, b, c, ht, e, r1.mono l, r2.mono l, r3.mono l⟩
end Go.Proofs.Ytdkgaejmgnojhaa
namespace Go.Proofs.Ytdkgaejmgnojhaa
set_option maxRecDepth 100000
open Go.RowKit
theorem TriO.x {t : Ten} {a b c : Value} {h : PH} (r : TriO t a b c h) : ∃ g, PLe g h ∧ IntsO t.x c g := by
  obtain ⟨h1, h2, h3, r1, r2, r3, m⟩ := r; exact ⟨h3, m.le _ (by simp), r3⟩
end Go.Proofs.Ytdkgaejmgnojhaa
namespace Go.Proofs.Ytdkgaejmgnojhaa
set_option maxRecDepth 100000
open Go.RowKit
theorem flat_len_all {α : Type} {e : α → List Int} {W : Nat} : ∀ {l : List α}, (∀ m ∈ l, (e m).length = W) → (l.flatMap e).length = l.length * W
  | [], _ => by simp
  | a :: l, h => by
    have ih := flat_len_all (l := l) fun m hm => h m (by simp [hm]); rw [List.flatMap_cons, List.length_append, ih, h a (by simp), List.length_cons, Nat.add_mul, Nat.one_mul, Nat.add_comm]
theorem elt_flat {α : Type} {e : α → List Int} {W : Nat} {l : List α} (h : ∀ m ∈ l, (e m).length = W) {i : Nat} (hi : i < l.length) : elt (l.flatMap e) W i = e l[i] := by
  have e1 : l = l.take i ++ (l[i] :: l.drop (i + 1)) := by rw [← List.drop_eq_getElem_cons hi, List.take_append_drop]
  have hl : ((l.take i).flatMap e).length = i * W := by
    rw [flat_len_all fun m hm => h m (List.mem_of_mem_take hm), List.length_take, Nat.min_eq_left (by omega)]
  unfold elt
  rw [show ((i : Int) * (W : Int)).toNat = i * W by rw [← Int.natCast_mul, Int.toNat_natCast], Int.toNat_natCast]
  conv => lhs; rw [e1]
  rw [List.flatMap_append, List.drop_left' hl, List.flatMap_cons, List.take_left' (h _ (List.getElem_mem hi))]
theorem r3 : ringL 3 1000000 0 := .inr (.inr (.inl ⟨.inl rfl, by omega, rfl⟩))
end Go.Proofs.Ytdkgaejmgnojhaa
namespace Go.Proofs.Ytdkgaejmgnojhaa
set_option maxRecDepth 100000
open Go.RowKit
structure RLaw (k p n : Int) : Prop where
  addC : ∀ a b, InR k p n a → InR k p n b → addL k p a b = addL k p b a
  addA : ∀ a b c, InR k p n a → InR k p n b → InR k p n c → addL k p (addL k p a b) c = addL k p a (addL k p b c)
  add0 : ∀ a, InR k p n a → addL k p (zeroL k p n) a = a
  mulC : ∀ a b, InR k p n a → InR k p n b → mulL k p n a b = mulL k p n b a
  mulA : ∀ a b c, InR k p n a → InR k p n b → InR k p n c → mulL k p n (mulL k p n a b) c = mulL k p n a (mulL k p n b c)
  mul1 : ∀ a, InR k p n a → mulL k p n (oneL k p n) a = a
  mul0 : ∀ a, InR k p n a → mulL k p n (zeroL k p n) a = zeroL k p n
  dist : ∀ a b c, InR k p n a → InR k p n b → InR k p n c → mulL k p n (addL k p a b) c = addL k p (mulL k p n a c) (mulL k p n b c)
theorem in_one {k p n : Int} (h7 : k ≠ 7) (h8 : k ≠ 8) {xs : List Int} (h : InR k p n xs) : ∃ a, xs = [a] ∧ 0 ≤ a ∧ a ≤ topI k p n := by
  have hl := h.1; rw [width_1 h7 h8] at hl
  match xs, hl with
  | [a], _ => exact ⟨a, rfl, h.2 a (by simp)⟩
theorem addL_one (k p a b : Int) : addL k p [a] [b] = [add1 k p a b] := rfl
theorem zero_one {k p n : Int} (h4 : k ≠ 4) (h7 : k ≠ 7) (h8 : k ≠ 8) : zeroL k p n = [0] := by
  rw [zeroL, if_neg h4, width_1 h7 h8]; rfl
theorem cap_mul {x p c : Int} (hx : 0 ≤ x) (hc : 0 ≤ c) (hp : 1 ≤ p) : min (min x p * c) p = min (x * c) p := by
  by_cases h : x ≤ p
  · rw [Int.min_eq_left h]
  · rw [Int.min_eq_right (show p ≤ x by omega)]
    by_cases h0 : c = 0
    · subst h0; simp
    · have h1 : p * 1 ≤ p * c := Int.mul_le_mul_of_nonneg_left (by omega) (by omega); have h2 : x * 1 ≤ x * c := Int.mul_le_mul_of_nonneg_left (by omega) hx
      omega
theorem law_lat {k p n : Int} (hk : k = 1 ∨ k = 5) (h1 : k = 1 → topI k p n = 1) : RLaw k p n := by
  have h7 : k ≠ 7 := by omega
  have h8 : k ≠ 8 := by omega
  have hz : zeroL k p n = [0] := zero_one (by omega) h7 h8; have ho : oneL k p n = [topI k p n] := by
    unfold oneL
    rw [if_neg (by omega)]
    rcases hk with rfl | rfl
    · rw [if_neg (by omega), width_1 h7 h8, h1 rfl]; rfl
    · rw [if_pos (.inl rfl)]
  have ea : ∀ a b : Int, addL k p [a] [b] = [max a b] := fun a b => by rw [addL_one, add1, if_pos hk]
  have em : ∀ a b : Int, mulL k p n [a] [b] = [min a b] := fun a b => by rw [mulL, if_pos hk]; rfl
  refine ⟨?_, ?_, ?_, ?_, ?_, ?_, ?_, ?_⟩
  · intro a b ha hb; obtain ⟨a, rfl, ha⟩ := in_one h7 h8 ha; obtain ⟨b, rfl, hb⟩ := in_one h7 h8 hb; rw [ea, ea, Int.max_comm]
  · intro a b c ha hb hc; obtain ⟨a, rfl, ha⟩ := in_one h7 h8 ha; obtain ⟨b, rfl, hb⟩ := in_one h7 h8 hb; obtain ⟨c, rfl, hc⟩ := in_one h7 h8 hc; rw [ea, ea, ea, ea]; congr 1; omega
  · intro a ha; obtain ⟨a, rfl, ha⟩ := in_one h7 h8 ha; rw [hz, ea]; congr 1; omega
  · intro a b ha hb; obtain ⟨a, rfl, ha⟩ := in_one h7 h8 ha; obtain ⟨b, rfl, hb⟩ := in_one h7 h8 hb; rw [em, em, Int.min_comm]
  · intro a b c ha hb hc; obtain ⟨a, rfl, ha⟩ := in_one h7 h8 ha; obtain ⟨b, rfl, hb⟩ := in_one h7 h8 hb; obtain ⟨c, rfl, hc⟩ := in_one h7 h8 hc; rw [em, em, em, em]; congr 1; omega
  · intro a ha; obtain ⟨a, rfl, ha⟩ := in_one h7 h8 ha; rw [ho, em]; congr 1; omega
  · intro a ha; obtain ⟨a, rfl, ha⟩ := in_one h7 h8 ha; rw [hz, em]; congr 1; omega
  · intro a b c ha hb hc; obtain ⟨a, rfl, ha⟩ := in_one h7 h8 ha; obtain ⟨b, rfl, hb⟩ := in_one h7 h8 hb; obtain ⟨c, rfl, hc⟩ := in_one h7 h8 hc; rw [ea, em, em, em, ea]; congr 1; omega
theorem law_cap {p : Int} (hp : 1 ≤ p) (n : Int) : RLaw 3 p n := by
  have h7 : (3 : Int) ≠ 7 := by omega
  have h8 : (3 : Int) ≠ 8 := by omega
  have hz : zeroL 3 p n = [0] := zero_one (by omega) h7 h8; have ho : oneL 3 p n = [1] := rfl; have ht : topI 3 p n = p := rfl; have ea : ∀ a b : Int, addL 3 p [a] [b] = [min (a + b) p] := fun a b => rfl; have em : ∀ a b : Int, mulL 3 p n [a] [b] = [min (a * b) p] := fun a b => by simp [mulL]
  refine ⟨?_, ?_, ?_, ?_, ?_, ?_, ?_, ?_⟩
  · intro a b ha hb; obtain ⟨a, rfl, ja⟩ := in_one h7 h8 ha; obtain ⟨b, rfl, jb⟩ := in_one h7 h8 hb; rw [ea, ea, Int.add_comm]
  · intro a b c ha hb hc; obtain ⟨a, rfl, ja⟩ := in_one h7 h8 ha; obtain ⟨b, rfl, jb⟩ := in_one h7 h8 hb; obtain ⟨c, rfl, jc⟩ := in_one h7 h8 hc; rw [ea, ea, ea, ea]; congr 1; omega
  · intro a ha; obtain ⟨a, rfl, ja⟩ := in_one h7 h8 ha; rw [hz, ea]; congr 1; omega
  · intro a b ha hb; obtain ⟨a, rfl, ja⟩ := in_one h7 h8 ha; obtain ⟨b, rfl, jb⟩ := in_one h7 h8 hb; rw [em, em, Int.mul_comm]
  · intro a b c ha hb hc; obtain ⟨a, rfl, ja⟩ := in_one h7 h8 ha; obtain ⟨b, rfl, jb⟩ := in_one h7 h8 hb; obtain ⟨c, rfl, jc⟩ := in_one h7 h8 hc; rw [em, em, em, em, cap_mul (Int.mul_nonneg ja.1 jb.1) jc.1 hp, Int.mul_comm a (min (b * c) p), cap_mul (Int.mul_nonneg jb.1 jc.1) ja.1 hp, Int.mul_assoc, Int.mul_comm (b * c) a]
  · intro a ha; obtain ⟨a, rfl, ja⟩ := in_one h7 h8 ha; rw [ho, em]; congr 1; omega
  · intro a ha; obtain ⟨a, rfl, ja⟩ := in_one h7 h8 ha; rw [hz, em]; congr 1; omega
  · intro a b c ha hb hc; obtain ⟨a, rfl, ja⟩ := in_one h7 h8 ha; obtain ⟨b, rfl, jb⟩ := in_one h7 h8 hb; obtain ⟨c, rfl, jc⟩ := in_one h7 h8 hc; rw [ea, em, em, em, ea, cap_mul (by omega) jc.1 hp, Int.add_mul]; have h1 := Int.mul_nonneg ja.1 jc.1; have h2 := Int.mul_nonneg jb.1 jc.1
    congr 1; omega
theorem law_min {p : Int} (hp : 0 ≤ p) (n : Int) : RLaw 4 p n := by
  have h7 : (4 : Int) ≠ 7 := by omega
  have h8 : (4 : Int) ≠ 8 := by omega
  have hz : zeroL 4 p n = [p] := rfl; have ho : oneL 4 p n = [0] := rfl; have ht : topI 4 p n = p := rfl; have ea : ∀ a b : Int, addL 4 p [a] [b] = [min a b] := fun a b => rfl; have em : ∀ a b : Int, mulL 4 p n [a] [b] = [min (a + b) p] := fun a b => by simp [mulL]
  refine ⟨?_, ?_, ?_, ?_, ?_, ?_, ?_, ?_⟩
  · intro a b ha hb; obtain ⟨a, rfl, ha⟩ := in_one h7 h8 ha; obtain ⟨b, rfl, hb⟩ := in_one h7 h8 hb; rw [ea, ea, Int.min_comm]
  · intro a b c ha hb hc; obtain ⟨a, rfl, ha⟩ := in_one h7 h8 ha; obtain ⟨b, rfl, hb⟩ := in_one h7 h8 hb; obtain ⟨c, rfl, hc⟩ := in_one h7 h8 hc; rw [ea, ea, ea, ea]; congr 1; omega
  · intro a ha; obtain ⟨a, rfl, ha⟩ := in_one h7 h8 ha; rw [hz, ea]; congr 1; omega
  · intro a b ha hb; obtain ⟨a, rfl, ha⟩ := in_one h7 h8 ha; obtain ⟨b, rfl, hb⟩ := in_one h7 h8 hb; rw [em, em, Int.add_comm]
  · intro a b c ha hb hc; obtain ⟨a, rfl, ha⟩ := in_one h7 h8 ha; obtain ⟨b, rfl, hb⟩ := in_one h7 h8 hb; obtain ⟨c, rfl, hc⟩ := in_one h7 h8 hc; rw [em, em, em, em]; congr 1; omega
  · intro a ha; obtain ⟨a, rfl, ha⟩ := in_one h7 h8 ha; rw [ho, em]; congr 1; omega
  · intro a ha; obtain ⟨a, rfl, ha⟩ := in_one h7 h8 ha; rw [hz, em]; congr 1; omega
  · intro a b c ha hb hc; obtain ⟨a, rfl, ha⟩ := in_one h7 h8 ha; obtain ⟨b, rfl, hb⟩ := in_one h7 h8 hb; obtain ⟨c, rfl, hc⟩ := in_one h7 h8 hc; rw [ea, em, em, em, ea]; congr 1; omega
abbrev El (k p n : Int) := {xs : List Int // InR k p n xs}
section
variable {k p n : Int} (hr : ringL k p n)
open Classical in
noncomputable def toA (xs : List Int) : El k p n := if h : InR k p n xs then ⟨xs, h⟩ else ⟨zeroL k p n, zeroL_in hr⟩
end
end Go.Proofs.Ytdkgaejmgnojhaa
namespace Go.Proofs.Ytdkgaejmgnojhaa
set_option maxRecDepth 100000
open Go.RowKit
theorem putL_get? {xs ys : List Int} {lo : Nat} (h : lo + ys.length ≤ xs.length) (q : Nat) : (putL xs lo ys)[q]? = if q < lo then xs[q]? else if q < lo + ys.length then ys[q - lo]? else xs[q]? := by
  unfold putL
  have hl : (xs.take lo).length = lo := by simp; omega
  by_cases c1 : q < lo
  · rw [if_pos c1, List.append_assoc, List.getElem?_append_left (by omega), List.getElem?_take, if_pos c1]
  · rw [if_neg c1, List.append_assoc, List.getElem?_append_right (by omega), hl]
    by_cases c2 : q < lo + ys.length
    · rw [if_pos c2, List.getElem?_append_left (by omega)]
    · rw [if_neg c2, List.getElem?_append_right (by omega), List.getElem?_drop]
      congr 1
      omega
theorem elt_get? {xs : List Int} {w i : Int} (q : Nat) : (elt xs w i)[q]? = if q < w.toNat then xs[(i * w).toNat + q]? else none := by
  unfold elt
  rw [List.getElem?_take]
  split
  · rw [List.getElem?_drop]
  · rfl
theorem elt_put {xs ys : List Int} {w i : Int} (hw : 1 ≤ w) (hi : 0 ≤ i) (hy : ys.length = w.toNat) (hl : i * w + w ≤ xs.length) : elt (putL xs (i * w).toNat ys) w i = ys := by
  have h0 : 0 ≤ i * w := Int.mul_nonneg hi (by omega)
  apply List.ext_getElem?
  intro q; rw [elt_get?, putL_get? (by omega)]
  by_cases c : q < w.toNat
  · rw [if_pos c, if_neg (by omega), if_pos (by omega), Nat.add_sub_cancel_left]
  · rw [if_neg c, List.getElem?_eq_none (by omega)]
theorem elt_put_ne {xs ys : List Int} {w i j : Int} (hw : 1 ≤ w) (hi : 0 ≤ i) (hj : 0 ≤ j) (hy : ys.length = w.toNat) (hl : i * w + w ≤ xs.length) (hne : i ≠ j) : elt (putL xs (i * w).toNat ys) w j = elt xs w j := by
  have h0 : 0 ≤ i * w := Int.mul_nonneg hi (by omega); have h1 : 0 ≤ j * w := Int.mul_nonneg hj (by omega)
  apply List.ext_getElem?
  intro q; rw [elt_get?, elt_get?]
  by_cases c : q < w.toNat
  · rw [if_pos c, if_pos c, putL_get? (by omega)]
    rcases Int.lt_or_gt_of_ne hne with h | h
    · have := Int.mul_le_mul_of_nonneg_right (show i + 1 ≤ j by omega) (show 0 ≤ w by omega); rw [Int.add_mul, Int.one_mul] at this; rw [if_neg (by omega), if_neg (by omega)]
    · have := Int.mul_le_mul_of_nonneg_right (show j + 1 ≤ i by omega) (show 0 ≤ w by omega); rw [Int.add_mul, Int.one_mul] at this; rw [if_pos (by omega)]
  · rw [if_neg c, if_neg c]
theorem elt_rep {z : List Int} {W P : Nat} (hz : z.length = W) {i : Nat} (hi : i < P) : elt (List.replicate P z).flatten W i = z := by
  have e : (List.replicate P z).flatten = (List.range P).flatMap fun _ => z := by
    rw [List.flatMap_def, List.map_const', List.length_range]
  rw [e, elt_flat (e := fun _ => z) (l := List.range P) (fun _ _ => hz) (by simpa using hi)]
section
variable {k p n : Int} (hr : ringL k p n) (hR : RLaw k p n)
/-- What a tensor holds at an assignment. -/
noncomputable def val (t : Ten) (a : Int → Int) : El k p n := toA hr (elt t.x (widthI k n) (offL t.d (t.l.map a)))
variable {t u : Ten} {f : Int → Int} {K : List Int}
end
end Go.Proofs.Ytdkgaejmgnojhaa
namespace Go.Proofs.Ytdkgaejmgnojhaa
set_option maxRecDepth 100000
open Go.RowKit
theorem off_idx : ∀ {ds : List Int} {m : Int}, (∀ d ∈ ds, 1 ≤ d) → 0 ≤ m → m < prodI ds → offL ds (idxL ds m) = m
  | [], m, _, h0, h1 => by
    have e : prodI ([] : List Int) = 1 := rfl
    show (0 : Int) = m
    omega
  | d :: ds, m, hd, h0, h1 => by
    have hd' : ∀ x ∈ ds, 1 ≤ x := fun x hx => hd x (by simp [hx]); have hP := prodI_one hd'; have hm := Int.emod_nonneg m (show prodI ds ≠ 0 by omega); have hm2 := Int.emod_lt_of_pos m (show 0 < prodI ds by omega); have e : m / prodI ds * prodI ds + m % prodI ds = m := by rw [Int.mul_comm]; exact Int.mul_ediv_add_emod m (prodI ds)
    have e2 : idxL ds m = idxL ds (m % prodI ds) := by
      have := idxL_shift hd' (m / prodI ds) (m % prodI ds)
      rwa [e] at this
    have hlt : m / prodI ds < d := Int.ediv_lt_of_lt_mul (by omega) (by rw [prodI_cons] at h1; exact h1); rw [idxL_cons]
    show m / prodI ds % d * prodI ds + offL ds (idxL ds m) = m
    rw [e2, off_idx hd' hm hm2, Int.emod_eq_of_lt (Int.ediv_nonneg h0 (by omega)) hlt]; exact e
theorem at_self {f : Int → Int} {L : List Int} (hn : L.Nodup) (hf : ∀ x ∈ L, 1 ≤ f x ∧ f x ≤ 8) {m : Int} (h0 : 0 ≤ m) (h1 : m < prodI (L.map f)) : atI f L L m = m := by
  have hd : ∀ d ∈ L.map f, 1 ≤ d := fun d hd => (map_dim hf (fun _ h => h) d hd).1; have e : idxAt L (idxL (L.map f) m) L = idxL (L.map f) m := by
    refine ext_getD (by simp [idxAt, idxL_len]) fun j hj => ?_; have hj' : j < L.length := by simpa [idxAt] using hj
    rw [idxAt, map_getD hj', find_at' hn hj', Int.toNat_natCast]
  rw [at_off hn hn (fun _ h => h), e, off_idx hd h0 h1]
theorem elts_ext {xs ys : List Int} {w : Int} (hw : 1 ≤ w) {P : Int} (h1 : (xs.length : Int) = P * w) (h2 : (ys.length : Int) = P * w) (h : ∀ j : Int, 0 ≤ j → j < P → elt xs w j = elt ys w j) : xs = ys := by
  apply List.ext_getElem?
  intro q
  by_cases hq : (q : Int) < P * w
  · have hj : (q : Int) / w < P := Int.ediv_lt_of_lt_mul (by omega) hq; have hj0 : 0 ≤ (q : Int) / w := Int.ediv_nonneg (by omega) (by omega); have hr0 := Int.emod_nonneg (q : Int) (show w ≠ 0 by omega); have hr1 := Int.emod_lt_of_pos (q : Int) (show 0 < w by omega); have e : (q : Int) / w * w + (q : Int) % w = q := by rw [Int.mul_comm]; exact Int.mul_ediv_add_emod q w
    have h3 := congrArg (fun l => l[((q : Int) % w).toNat]?) (h _ hj0 hj); have hm0 := Int.mul_nonneg hj0 (show 0 ≤ w by omega); have e3 : ((q : Int) / w * w).toNat + ((q : Int) % w).toNat = q := by omega
    simp only [elt_get?] at h3; rw [if_pos (by omega), if_pos (by omega), e3] at h3; exact h3
  · rw [List.getElem?_eq_none (by omega), List.getElem?_eq_none (by omega)]
end Go.Proofs.Ytdkgaejmgnojhaa
namespace Go.Proofs.Ytdkgaejmgnojhaa
set_option maxRecDepth 100000
open Go.RowKit
theorem step_zero {k p n : Int} {x y out : List Int} {i j : Nat} (hk : k = 7 ∧ (widthI k n).toNat ≤ 6 ∨ k = 8) (hp : 1 ≤ p) (ho : PolyIn k p n out) (hy : PolyIn k p n y) (hi : x.getD i 0 = 0) (hij : 4 ≤ i + j → k = 8 → i + j - 4 < out.length) : mulStep k p x y out i j = out := by
  have h0 : ∀ m, (out.getD m 0).tmod p = out.getD m 0 := fun m => by
    have := ho.at hp m; exact Int.tmod_eq_of_lt this.1 (by omega)
  unfold mulStep
  split
  · rename_i h
    rw [hi, Int.zero_mul, Int.add_zero, h0, set_same h]
  · split
    · rename_i h h8
      have hw : out.length = 4 := by rw [ho.1, widthI, if_neg (by omega), if_pos h8]; rfl
      have hz := ho.at hp (i + j - 4); have hyj := hy.at hp j; have e : (out.getD (i + j - 4) 0 + (p - x.getD i 0) * y.getD j 0).tmod p = out.getD (i + j - 4) 0 := by
        rw [hi, Int.sub_zero]; have hm : 0 ≤ p * y.getD j 0 := Int.mul_nonneg (by omega) hyj.1; rw [Int.tmod_eq_emod_of_nonneg (by omega), Int.add_mul_emod_self_left]; exact Int.emod_eq_of_lt hz.1 (by omega)
      rw [e]; exact set_same (hij (by omega) h8)
    · rfl
theorem row_zero {k p n : Int} {x y out : List Int} {i : Nat} (hk : k = 7 ∧ (widthI k n).toNat ≤ 6 ∨ k = 8) (hp : 1 ≤ p) (ho : PolyIn k p n out) (hy : PolyIn k p n y) (hi : x.getD i 0 = 0) (hil : i < out.length) (hyl : y.length = out.length) :
    ∀ m, m ≤ y.length → mulRow k p x y i out m = out
  | 0, _ => rfl
  | m + 1, hm => by
    rw [mulRow_step, row_zero hk hp ho hy hi hil hyl m (by omega)]; refine step_zero hk hp ho hy hi (fun h4 h8 => ?_); have hw : out.length = 4 := by rw [ho.1, widthI, if_neg (by omega), if_pos h8]; rfl
    omega
theorem row_copy {k p n : Int} {x y : List Int} (hk : k = 7 ∧ (widthI k n).toNat ≤ 6 ∨ k = 8) (hp : 2 ≤ p) (hy : PolyIn k p n y) (h1 : x.getD 0 0 = 1) :
    ∀ m, m ≤ y.length → mulRow k p x y 0 (List.replicate y.length 0) m = y.take m ++ List.replicate (y.length - m) 0
  | 0, _ => by simp [mulRow]
  | m + 1, hm => by
    rw [mulRow_step, row_copy hk hp hy h1 m (by omega)]; have hlt : (y.take m).length = m := by simp; omega
    have hol : (y.take m ++ List.replicate (y.length - m) (0 : Int)).length = y.length := by simp; omega
    have hz : (y.take m ++ List.replicate (y.length - m) (0 : Int)).getD m 0 = 0 := by
      simp only [List.getD]; rw [List.getElem?_append_right (by omega), hlt, Nat.sub_self]
      simp [show 0 < y.length - m by omega]
    have hym := hy.at (by omega : 1 ≤ p) m
    unfold mulStep
    rw [Nat.zero_add, if_pos (by rw [hol]; omega), hz, h1, Int.one_mul, Int.zero_add, Int.tmod_eq_of_lt hym.1 (by omega)]; obtain ⟨r, hr⟩ : ∃ r, y.length - m = r + 1 := ⟨y.length - m - 1, by omega⟩
    rw [List.set_append_right _ _ (by omega), hlt, Nat.sub_self, hr, List.replicate_succ, List.set_cons_zero, show y.length - (m + 1) = r by omega, List.take_succ_eq_append_getElem (by omega), List.append_assoc]
    congr 1
    simp [List.getD, show m < y.length by omega]
theorem one_to {k p n : Int} {x y : List Int} (hk : k = 7 ∧ (widthI k n).toNat ≤ 6 ∨ k = 8) (hp : 2 ≤ p) (hy : PolyIn k p n y) (h1 : x.getD 0 0 = 1) (h0 : ∀ j, 0 < j → x.getD j 0 = 0) (hl : x.length = y.length) :
    ∀ m, m + 1 ≤ x.length → mulTo k p x y (List.replicate y.length 0) (m + 1) = y
  | 0, h => by
    rw [mulTo_step]
    show mulRow k p x y 0 (List.replicate y.length 0) y.length = y
    rw [row_copy hk hp hy h1 y.length (Nat.le_refl _), Nat.sub_self, List.take_length]
    simp
  | m + 1, h => by
    rw [mulTo_step, one_to hk hp hy h1 h0 hl m (by omega)]; exact row_zero hk (by omega) hy hy (h0 _ (by omega)) (by omega) rfl y.length (Nat.le_refl _)
theorem one_mul {k p n : Int} (hr : ringL k p n) {x : List Int} (hx : InR k p n x) : mulL k p n (oneL k p n) x = x := by
  have hlen := hx.len hr; have hx0 := hx.at hr 0 (by omega); have hwd : 1 ≤ (widthI k n).toNat := by have := hx.1; omega
  by_cases hk : k = 7 ∨ k = 8
  · have htp := top_poly hr (.inr hk); have ho := one_poly (p := p) (n := n) (k := k) (by omega) hwd; have hk' : k = 7 ∧ (widthI k n).toNat ≤ 6 ∨ k = 8 := by rcases hk with h | h; exact .inl ⟨h, by have := hx.1; omega⟩; exact .inr h
    have hol := oneL_len k p n; obtain ⟨q, hq⟩ : ∃ q, (oneL k p n).length = q + 1 := ⟨(oneL k p n).length - 1, by omega⟩
    have := one_to hk' htp.2.1 (hx.poly hr (.inr hk)) ho.1 ho.2 (by rw [hol, hx.1]) q (by omega)
    unfold mulL
    rw [if_neg (by omega), if_neg (by omega), if_neg (by omega), if_neg (by omega), if_neg (by omega), hq, ← hx.1]; exact this
  · have hm := mul_one hr hx; have e : mulL k p n (oneL k p n) x = mulL k p n x (oneL k p n) := by
      unfold mulL
      split
      · rw [Int.min_comm]
      · split
        · rw [Int.mul_comm]
        · split
          · rw [Int.mul_comm]
          · split
            · rw [Int.add_comm]
            · split
              · rw [Nat.and_comm]
              · exfalso
                unfold ringL at hr
                omega
    rw [e, hm]
end Go.Proofs.Ytdkgaejmgnojhaa
namespace Go.Proofs.Ytdkgaejmgnojhaa
set_option maxRecDepth 100000
open Go.RowKit
section
variable {k p n : Int} {f : Int → Int} {t : Ten} {us : List Ten}
theorem getD_ten {i : Nat} {u : Ten} (h : us[i]? = some u) : us.getD i noTen = u := by simp [List.getD, h]
end
section
variable {k p n : Int} {ts : List Ten} {ls op : List Int}
end
end Go.Proofs.Ytdkgaejmgnojhaa
namespace Go.Proofs.Ytdkgaejmgnojhaa
set_option maxRecDepth 100000
open Go.RowKit
theorem SpR.mono {f : Int → Int} {s : Sh} {va vg : Value} {b : Nat} {h h' : PH} (r : SpR f s va vg b h) (l : PLe h h') : SpR f s va vg b h' := ⟨r.ok, cellP.mono l r.c0, cellP.mono l r.c1, r.all.mono l, r.gone.mono l⟩
end Go.Proofs.Ytdkgaejmgnojhaa
namespace Go.Proofs.Ytdkgaejmgnojhaa
set_option maxRecDepth 100000
open Go.RowKit
def bestAt (g : Nat × Nat → Int) (l : List (Nat × Nat)) (i : Nat) (p : Nat × Nat) : Prop := p ∈ l ∧ (i = 0 → l[0]? = some p) ∧ (0 < i → bestP g (l.take i) = some p)
theorem bestAt.yes {g : Nat × Nat → Int} {l : List (Nat × Nat)} {i : Nat} {p x : Nat × Nat} (h : bestAt g l i p) (hx : l[i]? = some x) (hlt : g x < g p) : bestAt g l (i + 1) x := by
  obtain ⟨hi, e⟩ := List.getElem?_eq_some_iff.1 hx; refine ⟨List.mem_of_getElem? hx, fun e => by omega, fun _ => ?_⟩; rw [List.take_succ_eq_append_getElem hi, e, bestP_snoc]
  rcases Nat.eq_zero_or_pos i with h0 | h0
  · subst h0; simp [bestP]
  · rw [h.2.2 h0]; simp [hlt]
theorem bestAt.no {g : Nat × Nat → Int} {l : List (Nat × Nat)} {i : Nat} {p x : Nat × Nat} (h : bestAt g l i p) (hx : l[i]? = some x) (hlt : ¬ g x < g p) : bestAt g l (i + 1) p := by
  obtain ⟨hi, e⟩ := List.getElem?_eq_some_iff.1 hx; refine ⟨h.1, fun e => by omega, fun _ => ?_⟩; rw [List.take_succ_eq_append_getElem hi, e, bestP_snoc]
  rcases Nat.eq_zero_or_pos i with h0 | h0
  · subst h0; have := h.2.1 rfl; rw [hx] at this
    cases this
    simp [bestP]
  · rw [h.2.2 h0]; simp [hlt]
end Go.Proofs.Ytdkgaejmgnojhaa
namespace Go.Proofs.Ytdkgaejmgnojhaa
set_option maxRecDepth 100000
open Go.RowKit
def bI (g : Nat × Nat → Int) (o : Option (Nat × Nat)) (bi bj bg : Int) : Prop := (o = none → bi = -1) ∧ ∀ x, o = some x → bi = x.1 ∧ bj = x.2 ∧ bg = g x
theorem bI.yes {g : Nat × Nat → Int} {l : List (Nat × Nat)} {bi bj bg : Int} {x : Nat × Nat} (h : bI g (bestP g l) bi bj bg) (c : bi < 0 ∨ g x < bg) : bI g (bestP g (l ++ [x])) x.1 x.2 (g x) := by
  rw [bestP_snoc]
  cases hb : bestP g l with
  | none => exact ⟨fun e => by simp at e, fun y e => by simp at e; subst e; exact ⟨rfl, rfl, rfl⟩⟩
  | some y =>
    have hy := h.2 y hb; have : g x < g y := by omega
    simp only [this, if_true]; exact ⟨fun e => by simp at e, fun y e => by simp at e; subst e; exact ⟨rfl, rfl, rfl⟩⟩
theorem bI.no {g : Nat × Nat → Int} {l : List (Nat × Nat)} {bi bj bg : Int} {x : Nat × Nat} (h : bI g (bestP g l) bi bj bg) (c1 : ¬ bi < 0) (c2 : ¬ g x < bg) : bI g (bestP g (l ++ [x])) bi bj bg := by
  rw [bestP_snoc]
  cases hb : bestP g l with
  | none => have := h.1 hb; omega
  | some y =>
    have hy := h.2 y hb; have : ¬ g x < g y := by omega
    simp only [this, if_false]; exact ⟨fun e => by simp at e, fun z e => by simp at e; subst e; exact hy⟩
end Go.Proofs.Ytdkgaejmgnojhaa
namespace Go.Proofs.Ytdkgaejmgnojhaa
set_option maxRecDepth 100000
open Go.RowKit
theorem dimOf_pos {ts : List Ten} (hok : ∀ t ∈ ts, AxOK t) {x : Int} : 0 < dimOf ts x ↔ ∃ t ∈ ts, x ∈ t.l := by
  induction ts with
  | nil => simp [dimOf]
  | cons t r ih =>
    have ih' := ih (fun t ht => hok t (by simp [ht])); rw [dimOf]
    split
    · rename_i h
      have ha := hok t (by simp); have hf := findI_range t.l x; have hg := findI_ge.2 h; have := ha.2 (findI t.l x).toNat (by omega); exact ⟨fun _ => ⟨t, by simp, h⟩, fun _ => by omega⟩
    · rename_i h
      rw [ih']
      constructor
      · rintro ⟨u, hu, hx⟩; exact ⟨u, by simp [hu], hx⟩
      · rintro ⟨u, hu, hx⟩
        rcases List.mem_cons.1 hu with rfl | hu
        · exact absurd hx h
        · exact ⟨u, hu, hx⟩
end Go.Proofs.Ytdkgaejmgnojhaa
namespace Go.Proofs.Ytdkgaejmgnojhaa
set_option maxRecDepth 100000
open Go.RowKit
def meetP (t u : Ten) : Prop := ∃ x ∈ t.l, x ∈ u.l
open Classical in
noncomputable def meetB (t u : Ten) : Bool := decide (meetP t u)
theorem meetB_true {t u : Ten} : meetB t u = true ↔ meetP t u := by simp [meetB]
theorem meetB_no {t u : Ten} (h : ¬ meetP t u) : meetB t u = false := by simp [meetB, h]
def mrgX (a b x : Int) : Int := if x = max a b then min a b else x
def mrgI (P : List Int) (a b : Int) (m : Nat) : List Int := (P.take m).map (mrgX a b) ++ P.drop m
theorem mrgI_zero (P : List Int) (a b : Int) : mrgI P a b 0 = P := by simp [mrgI]
theorem mrgI_len (P : List Int) (a b : Int) (m : Nat) : (mrgI P a b m).length = P.length := by simp [mrgI]; omega
theorem mrgI_at {P : List Int} {a b : Int} {m : Nat} (h : m < P.length) : (mrgI P a b m).getD m 0 = P.getD m 0 := by
  have hl : ((P.take m).map (mrgX a b)).length = m := by simp; omega
  unfold mrgI
  simp only [List.getD]; rw [List.getElem?_append_right (by omega), hl, Nat.sub_self, List.getElem?_drop, Nat.add_zero]
theorem mrgI_step {P : List Int} {a b : Int} {m : Nat} (h : m < P.length) : mrgI P a b (m + 1) = (mrgI P a b m).set m (mrgX a b (P.getD m 0)) := by
  have hl : ((P.take m).map (mrgX a b)).length = m := by simp; omega
  unfold mrgI
  rw [List.set_append_right _ _ (by omega), hl, Nat.sub_self, List.drop_eq_getElem_cons h, List.set_cons_zero, List.take_succ_eq_append_getElem h, List.map_append, List.append_assoc]
  congr 1
  simp [List.getD, h]
theorem mrgI_yes {P : List Int} {a b : Int} {m : Nat} (h : m < P.length) (e : P.getD m 0 = max a b) : mrgI P a b (m + 1) = (mrgI P a b m).set m (min a b) := by rw [mrgI_step h, mrgX, if_pos e]
theorem mrgI_no {P : List Int} {a b : Int} {m : Nat} (h : m < P.length) (e : P.getD m 0 ≠ max a b) : mrgI P a b (m + 1) = mrgI P a b m := by
  rw [mrgI_step h, mrgX, if_neg e, ← mrgI_at (a := a) (b := b) h]; exact set_same (by rw [mrgI_len]; exact h)
open Classical in
noncomputable def ptI (ts : List Ten) (P : List Int) (i : Nat) : Nat → List Int
  | 0 => P
  | m + 1 => if meetP (ts.getD i noTen) (ts.getD m noTen) then mrgI (ptI ts P i m) ((ptI ts P i m).getD i 0) ((ptI ts P i m).getD m 0) P.length else ptI ts P i m
theorem ptI_yes {ts : List Ten} {P : List Int} {i m : Nat} (h : meetP (ts.getD i noTen) (ts.getD m noTen)) : ptI ts P i (m + 1) = mrgI (ptI ts P i m) ((ptI ts P i m).getD i 0) ((ptI ts P i m).getD m 0) P.length := by rw [ptI, if_pos h]
theorem ptI_no {ts : List Ten} {P : List Int} {i m : Nat} (h : ¬ meetP (ts.getD i noTen) (ts.getD m noTen)) : ptI ts P i (m + 1) = ptI ts P i m := by rw [ptI, if_neg h]
theorem ptI_len {ts : List Ten} {P : List Int} {i : Nat} : ∀ m, (ptI ts P i m).length = P.length
  | 0 => rfl
  | m + 1 => by
    rw [ptI]
    split
    · rw [mrgI_len]; exact ptI_len m
    · exact ptI_len m
def inP (m : Nat) (P : List Int) : Prop := ∀ j, j < P.length → 0 ≤ P.getD j 0 ∧ P.getD j 0 < m
theorem inP.mrg {m : Nat} {P : List Int} {a b : Int} (h : inP m P) (ha : 0 ≤ a ∧ a < m) (hb : 0 ≤ b ∧ b < m) : ∀ q, q ≤ P.length → inP m (mrgI P a b q)
  | 0, _ => by rw [mrgI_zero]; exact h
  | q + 1, hq => by
    have ih := inP.mrg h ha hb q (by omega); intro j hj; rw [mrgI_len] at hj; rw [mrgI_step (by omega)]
    by_cases e : q = j
    · subst e; simp only [List.getD]; rw [List.getElem?_set_self (by rw [mrgI_len]; omega)]
      show 0 ≤ mrgX a b (P.getD q 0) ∧ mrgX a b (P.getD q 0) < m
      have := h q (by omega)
      unfold mrgX
      split <;> omega
    · have := ih j (by rw [mrgI_len]; exact hj); simp only [List.getD] at this ⊢; rw [List.getElem?_set_ne e]; exact this
theorem inP.pt {ts : List Ten} {n : Nat} {P : List Int} {i : Nat} (h : inP n P) (hi : i < P.length) : ∀ m, m ≤ P.length → inP n (ptI ts P i m)
  | 0, _ => h
  | m + 1, hm => by
    have ih := h.pt (ts := ts) hi m (by omega); have hl := ptI_len (ts := ts) (P := P) (i := i) m; rw [ptI]
    split
    · exact ih.mrg (ih i (by omega)) (ih m (by omega)) _ (by omega)
    · exact ih
noncomputable def ptO (ts : List Ten) : Nat → List Int
  | 0 => (List.range ts.length).map Int.ofNat
  | i + 1 => ptI ts (ptO ts i) i i
theorem ptO_ok (ts : List Ten) : ∀ i, i ≤ ts.length → (ptO ts i).length = ts.length ∧ inP ts.length (ptO ts i)
  | 0, _ => by
    refine ⟨by simp [ptO], fun j hj => ?_⟩; have hj' : j < ts.length := by simpa [ptO] using hj
    have e : (ptO ts 0).getD j 0 = (j : Int) := by simp [ptO, List.getD, hj']
    rw [e]; omega
  | i + 1, hi => by
    obtain ⟨h1, h2⟩ := ptO_ok ts i (by omega); exact ⟨by rw [ptO, ptI_len]; exact h1, by rw [ptO]; exact h2.pt (by omega) i (by omega)⟩
noncomputable def ptP (ts : List Ten) : List Int := ptO ts ts.length
def partJ (P : List Int) (i m : Nat) : List Int := ((List.range m).filter fun j => decide (P.getD j 0 = i)).map Int.ofNat
theorem partJ_yes {P : List Int} {i m : Nat} (h : P.getD m 0 = i) : partJ P i (m + 1) = partJ P i m ++ [(m : Int)] := by
  rw [partJ, List.range_succ, List.filter_append, List.filter_cons_of_pos (by simpa using h), List.map_append]; rfl
theorem partJ_no {P : List Int} {i m : Nat} (h : P.getD m 0 ≠ i) : partJ P i (m + 1) = partJ P i m := by
  rw [partJ, List.range_succ, List.filter_append, List.filter_cons_of_neg (by simpa using h)]; simp [partJ]
theorem mem_partJ {P : List Int} {i m : Nat} {x : Int} : x ∈ partJ P i m ↔ ∃ j : Nat, x = j ∧ j < m ∧ P.getD j 0 = i := by
  unfold partJ
  simp only [List.mem_map, List.mem_filter, List.mem_range, decide_eq_true_eq]
  constructor
  · rintro ⟨j, ⟨h1, h2⟩, rfl⟩; exact ⟨j, rfl, h1, h2⟩
  · rintro ⟨j, rfl, h1, h2⟩; exact ⟨j, ⟨h1, h2⟩, rfl⟩
theorem partJ_nodup (P : List Int) (i m : Nat) : (partJ P i m).Nodup :=
  List.Pairwise.map _ (fun a b (h : a ≠ b) (e : Int.ofNat a = Int.ofNat b) => h (Int.ofNat.inj e)) (List.Pairwise.filter _ List.nodup_range)
theorem partJ_len (P : List Int) (i m : Nat) : (partJ P i m).length ≤ m := by
  unfold partJ
  rw [List.length_map]; refine Nat.le_trans (List.length_filter_le _ _) ?_; rw [List.length_range]; omega
noncomputable def partsTo (ts : List Ten) (i : Nat) : List (List Int) := ((List.range i).map fun j => partJ (ptP ts) j ts.length).filter fun l => decide (l ≠ [])
noncomputable def partsL (ts : List Ten) : List (List Int) := partsTo ts ts.length
theorem partsTo_yes {ts : List Ten} {i : Nat} (h : partJ (ptP ts) i ts.length ≠ []) : partsTo ts (i + 1) = partsTo ts i ++ [partJ (ptP ts) i ts.length] := by
  rw [partsTo, List.range_succ, List.map_append, List.filter_append, List.map_singleton, List.filter_cons_of_pos (by simpa using h)]; rfl
theorem partsTo_no {ts : List Ten} {i : Nat} (h : partJ (ptP ts) i ts.length = []) : partsTo ts (i + 1) = partsTo ts i := by
  rw [partsTo, List.range_succ, List.map_append, List.filter_append, List.map_singleton, List.filter_cons_of_neg (by simpa using h)]; simp [partsTo]
theorem partsTo_len (ts : List Ten) (i : Nat) : (partsTo ts i).length ≤ i := by
  unfold partsTo
  refine Nat.le_trans (List.length_filter_le _ _) ?_
  simp
/-- What each part is. -/
structure PartL (ts : List Ten) (l : List Int) : Prop where
  ne : l ≠ []
  nd : l.Nodup
  inr : ∀ x ∈ l, 0 ≤ x ∧ x < ts.length
theorem part_ok {ts : List Ten} {l : List Int} (h : l ∈ partsL ts) : PartL ts l := by
  obtain ⟨h1, h2⟩ := List.mem_filter.1 h; obtain ⟨j, hj, rfl⟩ := List.mem_map.1 h1; refine ⟨by simpa using h2, partJ_nodup _ _ _, fun x hx => ?_⟩; obtain ⟨m, rfl, hm, _⟩ := mem_partJ.1 hx
  omega
theorem PartL.len {ts : List Ten} {l : List Int} (h : PartL ts l) : l.length ≤ ts.length := by
  have h2 := pigeon (m := (List.range ts.length).map Int.ofNat) h.nd fun x hx => by
    have := h.inr x hx; exact List.mem_map.2 ⟨x.toNat, List.mem_range.2 (by omega), by show ((x.toNat : Nat) : Int) = x; omega⟩
  simpa using h2
def subTs (ts : List Ten) (l : List Int) : List Ten := l.map fun i => ts.getD i.toNat noTen
def rstTs (ts : List Ten) (l : List Int) (m : Nat) : List Ten := ((List.range m).filter fun (j : Nat) => decide ((j : Int) ∉ l)).map fun j => ts.getD j noTen
def subA (ts : List Ten) (op l : List Int) : List Int := op.filter fun x => decide (0 < dimOf (subTs ts l) x)
def subB2 (ts : List Ten) (op l : List Int) (m : Nat) : List Int := (labelsTo (subTs ts l) m).filter fun x => decide (x ∉ op ∧ 0 < dimOf (rstTs ts l ts.length) x)
def subOp (ts : List Ten) (op l : List Int) : List Int := subA ts op l ++ subB2 ts op l 100
theorem subTs_len (ts : List Ten) (l : List Int) : (subTs ts l).length = l.length := by simp [subTs]
theorem rst_yes {ts : List Ten} {l : List Int} {m : Nat} {t : Ten} (h : (m : Int) ∉ l) (ht : ts[m]? = some t) : rstTs ts l (m + 1) = rstTs ts l m ++ [t] := by
  rw [rstTs, List.range_succ, List.filter_append, List.filter_cons_of_pos (by simpa using h), List.map_append]
  show _ ++ [ts.getD m noTen] = _
  rw [getD_ten ht]; rfl
theorem rst_no {ts : List Ten} {l : List Int} {m : Nat} (h : (m : Int) ∈ l) : rstTs ts l (m + 1) = rstTs ts l m := by
  rw [rstTs, List.range_succ, List.filter_append, List.filter_cons_of_neg (by simpa using h)]; simp [rstTs]
theorem rst_len (ts : List Ten) (l : List Int) (m : Nat) : (rstTs ts l m).length ≤ m := by
  unfold rstTs
  rw [List.length_map]; refine Nat.le_trans (List.length_filter_le _ _) ?_; rw [List.length_range]; omega
theorem rst_mem {ts : List Ten} {l : List Int} {m : Nat} (hm : m ≤ ts.length) : ∀ t ∈ rstTs ts l m, t ∈ ts := fun t ht => by
  obtain ⟨j, hj, rfl⟩ := List.mem_map.1 ht; have := List.mem_range.1 (List.mem_filter.1 hj).1; exact List.mem_of_getElem? (i := j) (by simp [List.getD, show j < ts.length by omega])
theorem sub_mem {ts : List Ten} {l : List Int} (h : ∀ x ∈ l, 0 ≤ x ∧ x < ts.length) : ∀ t ∈ subTs ts l, t ∈ ts := fun t ht => by
  obtain ⟨x, hx, rfl⟩ := List.mem_map.1 ht; have := h x hx; exact List.mem_of_getElem? (i := x.toNat) (by simp [List.getD, show x.toNat < ts.length by omega])
theorem subTs_snoc {ts : List Ten} {l : List Int} {i : Nat} {t : Ten} (hi : i < l.length) (ht : ts[(l.getD i 0).toNat]? = some t) : subTs ts (l.take (i + 1)) = subTs ts (l.take i) ++ [t] := by
  rw [take_succ hi]; simp only [subTs, List.map_append, List.map_singleton]; rw [getD_ten ht]
section
variable {k p n : Int} {ts : List Ten} {op : List Int}
theorem parts_get {i : Nat} (hi : i < (partsL ts).length) : PartL ts ((partsL ts).getD i []) := part_ok (List.mem_of_getElem? (i := i) (by simp [hi, List.getD]))
end
end Go.Proofs.Ytdkgaejmgnojhaa
namespace Go.Proofs.Ytdkgaejmgnojhaa
set_option maxRecDepth 100000
open Go.RowKit
def mrgE (R : List Int) (e : Nat × Nat) : List Int := R.map fun x => if x = R.getD e.2 0 then R.getD e.1 0 else x
def ufF (R : List Int) (es : List (Nat × Nat)) : List Int := es.foldl mrgE R
def okE : List Int → List (Nat × Nat) → Prop
  | _, [] => True
  | R, e :: r => R.getD e.1 0 ≠ R.getD e.2 0 ∧ okE (mrgE R e) r
theorem ufF_snoc (R : List Int) (a : List (Nat × Nat)) (e : Nat × Nat) : ufF R (a ++ [e]) = mrgE (ufF R a) e := by simp [ufF, List.foldl_append]
theorem okE_snoc : ∀ (a : List (Nat × Nat)) (R : List Int) (e : Nat × Nat), okE R (a ++ [e]) ↔ okE R a ∧ (ufF R a).getD e.1 0 ≠ (ufF R a).getD e.2 0
  | [], R, e => by simp [okE, ufF]
  | x :: r, R, e => by
    have ih := okE_snoc r (mrgE R x) e
    show (R.getD x.1 0 ≠ R.getD x.2 0 ∧ okE (mrgE R x) (r ++ [e])) ↔ _
    rw [ih]
    show _ ↔ (R.getD x.1 0 ≠ R.getD x.2 0 ∧ okE (mrgE R x) r) ∧ (ufF (mrgE R x) r).getD e.1 0 ≠ (ufF (mrgE R x) r).getD e.2 0
    rw [and_assoc]
theorem mrgE_len (R : List Int) (e : Nat × Nat) : (mrgE R e).length = R.length := by simp [mrgE]
theorem mrgE_at {R : List Int} {e : Nat × Nat} {u : Nat} (h : u < R.length) : (mrgE R e).getD u 0 = if R.getD u 0 = R.getD e.2 0 then R.getD e.1 0 else R.getD u 0 := by
  have e : (mrgE R e)[u]? = some (if R.getD u 0 = R.getD e.2 0 then R.getD e.1 0 else R.getD u 0) := by
    unfold mrgE
    rw [List.getElem?_map, List.getElem?_eq_getElem h]; simp only [Option.map_some, Option.some.injEq]; have e1 : R.getD u 0 = R[u] := by simp [List.getD, h]
    rw [e1]
  rw [List.getD, e]; rfl
/-- Snoc induction. -/
theorem snocI {α : Type} {P : List α → Prop} (h0 : P []) (h1 : ∀ a x, P a → P (a ++ [x])) : ∀ l, P l := fun l => by
  have : ∀ n (l : List α), l.length = n → P l := fun n => by
    induction n with
    | zero => intro l h; rw [List.length_eq_zero_iff.1 h]; exact h0
    | succ n ih =>
      intro l h; have hne : l ≠ [] := fun e => by rw [e] at h; simp at h
      rw [← List.dropLast_concat_getLast hne]; exact h1 _ _ (ih _ (by rw [List.length_dropLast]; omega))
  exact this _ l rfl
def inE (n : Nat) (es : List (Nat × Nat)) : Prop := ∀ e ∈ es, e.1 < n ∧ e.2 < n
theorem ufF_len (R : List Int) : ∀ es, (ufF R es).length = R.length :=
  snocI rfl fun a e h => by rw [ufF_snoc, mrgE_len, h]
/-- Each edge's ends are of one class. -/
theorem ufF_compat {R : List Int} : ∀ es, inE R.length es → ∀ e ∈ es, (ufF R es).getD e.1 0 = (ufF R es).getD e.2 0 := by
  refine snocI (fun _ e he => by cases he) fun a x ih hin e he => ?_; have hl := ufF_len R a; have hin' : inE R.length a := fun e he => hin e (by simp [he]); have h1 := hin e he; rw [ufF_snoc, mrgE_at (by omega), mrgE_at (by omega)]
  rcases List.mem_append.1 he with he | he
  · rw [ih hin' e he]
  · rw [List.mem_singleton.1 he]
    simp
/-- Nothing else is. -/
theorem ufF_least {α : Type} {R : List Int} {g : Nat → α} (h0 : ∀ u v, u < R.length → v < R.length → R.getD u 0 = R.getD v 0 → g u = g v) : ∀ es, inE R.length es → (∀ e ∈ es, g e.1 = g e.2) → ∀ u v, u < R.length → v < R.length → (ufF R es).getD u 0 = (ufF R es).getD v 0 → g u = g v := by
  refine snocI (fun _ _ => h0) fun a x ih hin hg u v hu hv h => ?_; have hl := ufF_len R a; have ih := ih (fun e he => hin e (by simp [he])) fun e he => hg e (by simp [he]); have hx := hin x (by simp); have hgx := hg x (by simp); rw [ufF_snoc, mrgE_at (by omega), mrgE_at (by omega)] at h
  split at h <;> split at h
  · rename_i h1 h2; exact ih u v hu hv (h1.trans h2.symm)
  · rename_i h1 h2
    exact (ih u x.2 hu hx.2 h1).trans (hgx.symm.trans (ih x.1 v hx.1 hv h))
  · rename_i h1 h2
    exact (ih u x.1 hu hx.1 h).trans (hgx.trans (ih v x.2 hv hx.2 h2).symm)
  · exact ih u v hu hv h
def Adj (es : List (Nat × Nat)) (u v : Nat) : Prop := (u, v) ∈ es ∨ (v, u) ∈ es
theorem Adj.symm {es : List (Nat × Nat)} {u v : Nat} (h : Adj es u v) : Adj es v u := Or.symm h
structure Cert (es : List (Nat × Nat)) (pos : Nat → Nat) (r : Nat) : Prop where
  ne : ∀ u v, Adj es u v → pos u ≠ pos v
  one : ∀ u v w, Adj es u v → Adj es u w → pos u < pos v → pos u < pos w → v = w
  top : ∀ v, Adj es r v → pos v < pos r
theorem adj_class {R : List Int} {es : List (Nat × Nat)} (hin : inE R.length es) {u v : Nat} (h : Adj es u v) : (ufF R es).getD u 0 = (ufF R es).getD v 0 := by
  rcases h with h | h
  · exact ufF_compat es hin _ h
  · exact (ufF_compat es hin _ h).symm
theorem adj_in {n : Nat} {es : List (Nat × Nat)} (hin : inE n es) {u v : Nat} (h : Adj es u v) : u < n ∧ v < n := by
  rcases h with h | h
  · exact hin _ h
  · exact (hin _ h).symm
theorem pos_bound (pos : Nat → Nat) : ∀ n, ∃ N, ∀ u, u < n → pos u ≤ N
  | 0 => ⟨0, fun u h => by omega⟩
  | n + 1 => by
    obtain ⟨N, hN⟩ := pos_bound pos n; refine ⟨max N (pos n), fun u hu => ?_⟩
    rcases Nat.lt_or_ge u n with h | h
    · have := hN u h; omega
    · rw [show u = n by omega]; omega
/-- Two certificates put together at a new edge: b's class below, the rest above. -/
theorem cert_join {n : Nat} {es : List (Nat × Nat)} {R : List Int} (hl : R.length = n) (hin : inE n es) (hcl : ∀ u v, Adj es u v → R.getD u 0 = R.getD v 0) {a b r : Nat} (ha : a < n) (hb : b < n) (hab : R.getD a 0 ≠ R.getD b 0) (hr : R.getD r 0 ≠ R.getD b 0)
    {p1 p2 : Nat → Nat} (c1 : Cert es p1 r) (c2 : Cert es p2 b) : ∃ pos : Nat → Nat, (∀ u v, (Adj es u v ∨ (u = a ∧ v = b) ∨ (u = b ∧ v = a)) → pos u ≠ pos v) ∧
      (∀ u v w, (Adj es u v ∨ (u = a ∧ v = b) ∨ (u = b ∧ v = a)) → (Adj es u w ∨ (u = a ∧ w = b) ∨ (u = b ∧ w = a)) → pos u < pos v → pos u < pos w → v = w) ∧
      (∀ v, (Adj es r v ∨ (r = a ∧ v = b) ∨ (r = b ∧ v = a)) → pos v < pos r) := by
  obtain ⟨N, hN⟩ := pos_bound p2 n; have pin : ∀ u, R.getD u 0 = R.getD b 0 → (if R.getD u 0 = R.getD b 0 then p2 u else p1 u + N + 1) = p2 u := fun u h => if_pos h; have pout : ∀ u, R.getD u 0 ≠ R.getD b 0 → (if R.getD u 0 = R.getD b 0 then p2 u else p1 u + N + 1) = p1 u + N + 1 := fun u h => if_neg h; have hpb := hN b hb; refine ⟨fun u => if R.getD u 0 = R.getD b 0 then p2 u else p1 u + N + 1, ?_, ?_, ?_⟩
  · intro u v h
    simp only
    rcases h with h | ⟨rfl, rfl⟩ | ⟨rfl, rfl⟩
    · have hc := hcl u v h
      by_cases hu : R.getD u 0 = R.getD b 0
      · rw [pin u hu, pin v (hc ▸ hu)]; exact c2.ne u v h
      · rw [pout u hu, pout v (hc ▸ hu)]; have := c1.ne u v h; omega
    · rw [pout _ hab, pin _ rfl]; omega
    · rw [pout _ hab, pin _ rfl]; omega
  · intro u v w hv hw
    simp only
    have key : ∀ v, (Adj es u v ∨ (u = a ∧ v = b) ∨ (u = b ∧ v = a)) → (if R.getD u 0 = R.getD b 0 then p2 u else p1 u + N + 1) < (if R.getD v 0 = R.getD b 0 then p2 v else p1 v + N + 1) → (u = b ∧ v = a) ∨ (R.getD u 0 = R.getD b 0 ∧ u ≠ b ∧ Adj es u v ∧ p2 u < p2 v) ∨ (R.getD u 0 ≠ R.getD b 0 ∧ Adj es u v ∧ p1 u < p1 v) := by
      intro v h hlt
      rcases h with h | ⟨rfl, rfl⟩ | ⟨rfl, rfl⟩
      · have hc := hcl u v h
        by_cases hu : R.getD u 0 = R.getD b 0
        · rw [pin u hu, pin v (hc ▸ hu)] at hlt
          by_cases hub : u = b
          · have := c2.top v (hub ▸ h); rw [hub] at hlt
            omega
          · exact .inr (.inl ⟨hu, hub, h, hlt⟩)
        · rw [pout u hu, pout v (hc ▸ hu)] at hlt; exact .inr (.inr ⟨hu, h, by omega⟩)
      · rw [pout _ hab, pin _ rfl] at hlt; omega
      · exact .inl ⟨rfl, rfl⟩
    intro h1 h2
    rcases key v hv h1 with k1 | k1 | k1 <;> rcases key w hw h2 with k2 | k2 | k2
    · exact k1.2.trans k2.2.symm
    · exact absurd k1.1 k2.2.1
    · exact absurd (by rw [k1.1]) k2.1
    · exact absurd k2.1 k1.2.1
    · exact c2.one u v w k1.2.2.1 k2.2.2.1 k1.2.2.2 k2.2.2.2
    · exact absurd k1.1 k2.1
    · exact absurd (by rw [k2.1]) k1.1
    · exact absurd k2.1 k1.1
    · exact c1.one u v w k1.2.1 k2.2.1 k1.2.2 k2.2.2
  · intro v h
    simp only
    rcases h with h | ⟨rfl, rfl⟩ | ⟨rfl, rfl⟩
    · have hc := hcl r v h; rw [pout r hr, pout v (hc ▸ hr)]; have := c1.top v h
      omega
    · rw [pout _ hab, pin _ rfl]; omega
    · exact absurd rfl hr
theorem adj_snoc {es : List (Nat × Nat)} {a b u v : Nat} : Adj (es ++ [(a, b)]) u v ↔ Adj es u v ∨ (u = a ∧ v = b) ∨ (u = b ∧ v = a) := by
  unfold Adj
  simp only [List.mem_append, List.mem_singleton, Prod.mk.injEq]
  constructor
  · rintro ((h | h) | (h | h))
    · exact .inl (.inl h)
    · exact .inr (.inl h)
    · exact .inl (.inr h)
    · exact .inr (.inr ⟨h.2, h.1⟩)
  · rintro ((h | h) | h | h)
    · exact .inl (.inl h)
    · exact .inr (.inl h)
    · exact .inl (.inr h)
    · exact .inr (.inr ⟨h.2, h.1⟩)
theorem cert_all {R : List Int} : ∀ es, inE R.length es → okE R es → ∀ r, ∃ pos, Cert es pos r := by
  refine snocI (fun _ _ r => ⟨fun _ => 0, ⟨fun u v h => by simp [Adj] at h, fun u v w h => by simp [Adj] at h, fun v h => by simp [Adj] at h⟩⟩) fun es x ih hin hok r => ?_; obtain ⟨a, b⟩ := x; have hin' : inE R.length es := fun e he => hin e (by simp [he]); obtain ⟨hok', hab⟩ := (okE_snoc es R (a, b)).1 hok; have hx := hin (a, b) (by simp); have ih := ih hin' hok'; have hl := ufF_len R es; have hcl : ∀ u v, Adj es u v → (ufF R es).getD u 0 = (ufF R es).getD v 0 := fun u v h => adj_class hin' h
  by_cases hr : (ufF R es).getD r 0 = (ufF R es).getD b 0
  · obtain ⟨p1, c1⟩ := ih r; obtain ⟨p2, c2⟩ := ih a; obtain ⟨pos, h1, h2, h3⟩ := cert_join hl hin' hcl hx.2 hx.1 (Ne.symm hab) (fun e => hab (e.symm.trans hr)) c1 c2; refine ⟨pos, ⟨fun u v h => h1 u v ?_, fun u v w hv hw => h2 u v w ?_ ?_, fun v h => h3 v ?_⟩⟩
    · rcases adj_snoc.1 h with h | h | h
      · exact .inl h
      · exact .inr (.inr h)
      · exact .inr (.inl h)
    · rcases adj_snoc.1 hv with h | h | h
      · exact .inl h
      · exact .inr (.inr h)
      · exact .inr (.inl h)
    · rcases adj_snoc.1 hw with h | h | h
      · exact .inl h
      · exact .inr (.inr h)
      · exact .inr (.inl h)
    · rcases adj_snoc.1 h with h | h | h
      · exact .inl h
      · exact .inr (.inr h)
      · exact .inr (.inl h)
  · obtain ⟨p1, c1⟩ := ih r; obtain ⟨p2, c2⟩ := ih b; obtain ⟨pos, h1, h2, h3⟩ := cert_join hl hin' hcl hx.1 hx.2 hab hr c1 c2; exact ⟨pos, ⟨fun u v h => h1 u v (adj_snoc.1 h), fun u v w hv hw => h2 u v w (adj_snoc.1 hv) (adj_snoc.1 hw), fun v h => h3 v (adj_snoc.1 h)⟩⟩
/-- How far a message is from the leaves that it needs. -/
def muE (pos : Nat → Nat) (N u v : Nat) : Nat := if pos u < pos v then pos u else 2 * N - pos u
theorem muE_less {es : List (Nat × Nat)} {pos : Nat → Nat} {n N r : Nat} (hin : inE n es) (hN : ∀ u, u < n → pos u ≤ N) (c : Cert es pos r) {u v w : Nat} (hv : Adj es u v) (hw : Adj es u w) (hne : w ≠ v) : muE pos N w u < muE pos N u v := by
  have h1 := c.ne u v hv; have h2 := c.ne u w hw; have b1 := hN u (adj_in hin hv).1; have b2 := hN w (adj_in hin hw).2; have b3 := hN v (adj_in hin hv).2
  unfold muE
  by_cases huv : pos u < pos v
  · have h3 : ¬ pos u < pos w := fun h => hne (c.one u w v hw hv h huv); rw [if_pos huv, if_pos (by omega)]; omega
  · rw [if_neg huv]
    split <;> omega
end Go.Proofs.Ytdkgaejmgnojhaa
namespace Go.Proofs.Ytdkgaejmgnojhaa
set_option maxRecDepth 100000
open Go.RowKit
open Classical in
noncomputable def nOf (p : Nat → Prop) : Nat → Nat
  | 0 => 0
  | m + 1 => nOf p m + (if p m then 1 else 0)
theorem nOf_yes {p : Nat → Prop} {m : Nat} (h : p m) : nOf p (m + 1) = nOf p m + 1 := by rw [nOf, if_pos h]
theorem nOf_no {p : Nat → Prop} {m : Nat} (h : ¬ p m) : nOf p (m + 1) = nOf p m := by rw [nOf, if_neg h]; rfl
theorem nOf_congr {p q : Nat → Prop} : ∀ m, (∀ j, j < m → (p j ↔ q j)) → nOf p m = nOf q m
  | 0, _ => rfl
  | m + 1, h => by
    have ih := nOf_congr m fun j hj => h j (by omega); have hm := h m (by omega)
    by_cases c : p m
    · rw [nOf_yes c, nOf_yes (hm.1 c), ih]
    · rw [nOf_no c, nOf_no fun d => c (hm.2 d), ih]
theorem nOf_drop {p : Nat → Prop} {q : Nat} (hp : p q) : ∀ m, q < m → nOf (fun j => p j ∧ j ≠ q) m + 1 = nOf p m
  | 0, h => by omega
  | m + 1, h => by
    by_cases c : q = m
    · subst c; rw [nOf_no (p := fun j => p j ∧ j ≠ q) (fun d => d.2 rfl), nOf_yes hp, nOf_congr q fun j hj => ⟨fun d => d.1, fun d => ⟨d, by omega⟩⟩]
    · have ih := nOf_drop hp m (by omega)
      by_cases d : p m
      · rw [nOf_yes (p := fun j => p j ∧ j ≠ q) ⟨d, fun e => c e.symm⟩, nOf_yes d]; omega
      · rw [nOf_no (p := fun j => p j ∧ j ≠ q) fun e => d e.1, nOf_no d]; exact ih
theorem nOf_compl (p : Nat → Prop) : ∀ m, nOf p m + nOf (fun j => ¬ p j) m = m
  | 0 => rfl
  | m + 1 => by
    have ih := nOf_compl p m
    by_cases c : p m
    · rw [nOf_yes c, nOf_no (p := fun j => ¬ p j) fun d => d c]; omega
    · rw [nOf_no c, nOf_yes (p := fun j => ¬ p j) c]; omega
theorem nOf_all {p : Nat → Prop} : ∀ m, (∀ j, j < m → p j) → nOf p m = m
  | 0, _ => rfl
  | m + 1, h => by rw [nOf_yes (h m (by omega)), nOf_all m fun j hj => h j (by omega)]
theorem nOf_add (p : Nat → Prop) (a : Nat) : ∀ m, nOf p (a + m) = nOf p a + nOf (fun j => p (a + j)) m
  | 0 => rfl
  | m + 1 => by
    have ih := nOf_add p a m; have e : a + (m + 1) = (a + m) + 1 := rfl; rw [e]
    by_cases c : p (a + m)
    · rw [nOf_yes c, nOf_yes (p := fun j => p (a + j)) c, ih]; omega
    · rw [nOf_no c, nOf_no (p := fun j => p (a + j)) c, ih]
def newC (A : Nat → Int) (j : Nat) : Prop := ∀ i, i < j → A i ≠ A j
noncomputable def clsN (A : Nat → Int) (m : Nat) : Nat := nOf (newC A) m
theorem least_of (A : Nat → Int) : ∀ (f j : Nat), j < f → ∃ q, q ≤ j ∧ A q = A j ∧ newC A q
  | 0, _, h => by omega
  | f + 1, j, h => by
    by_cases c : newC A j
    · exact ⟨j, Nat.le_refl _, rfl, c⟩
    · have : ∃ i, i < j ∧ A i = A j := Classical.byContradiction fun hn => c fun i hi e => hn ⟨i, hi, e⟩; obtain ⟨i, hi, e⟩ := this; obtain ⟨q, h1, h2, h3⟩ := least_of A f i (by omega); exact ⟨q, by omega, h2.trans e, h3⟩
theorem new_le {A : Nat → Int} {q j : Nat} (h : newC A q) (e : A j = A q) : q ≤ j := by
  rcases Nat.lt_or_ge j q with hl | hl
  · exact absurd e (h j hl)
  · exact hl
theorem cls_same {A B : Nat → Int} {m : Nat} (h : ∀ u v, u < m → v < m → (A u = A v ↔ B u = B v)) : clsN A m = clsN B m :=
  nOf_congr m fun j hj => ⟨fun hn i hi e => hn i hi ((h i j (by omega) hj).2 e), fun hn i hi e => hn i hi ((h i j (by omega) hj).1 e)⟩
theorem cls_merge {A B : Nat → Int} {m a b : Nat} (ha : a < m) (hb : b < m) (hab : A a ≠ A b) (h : ∀ u, u < m → B u = if A u = A b then A a else A u) : clsN B m + 1 = clsN A m := by
  obtain ⟨qa, a1, a2, a3⟩ := least_of A _ a (Nat.lt_succ_self a); obtain ⟨qb, b1, b2, b3⟩ := least_of A _ b (Nat.lt_succ_self b); have hq : qa ≠ qb := fun e => hab (by rw [← a2, ← b2, e]); have hB1 : ∀ u, u < m → A u = A b → B u = A a := fun u hu e => by rw [h u hu, if_pos e]
  have hB2 : ∀ u, u < m → A u ≠ A b → B u = A u := fun u hu e => by rw [h u hu, if_neg e]
  have hqa : B qa = A a := by rw [hB2 qa (by omega) (by rw [a2]; exact hab)]; exact a2
  have hqb : B qb = A a := hB1 qb (by omega) b2; have hP : newC A (max qa qb) := by
    rcases Nat.le_total qa qb with hl | hl
    · rw [Nat.max_eq_right hl]; exact b3
    · rw [Nat.max_eq_left hl]; exact a3
  have hd := nOf_drop hP m (by omega)
  unfold clsN
  rw [← hd]
  congr 1
  refine nOf_congr m fun j hj => ⟨fun hn => ⟨fun i hi e => ?_, fun e => ?_⟩, fun ⟨hn, hne⟩ i hi e => ?_⟩
  · refine hn i hi ?_
    by_cases c : A j = A b
    · rw [hB1 i (by omega) (e.trans c), hB1 j hj c]
    · rw [hB2 i (by omega) (fun d => c (e.symm.trans d)), hB2 j hj c]; exact e
  · rcases Nat.lt_or_gt_of_ne hq with hl | hl
    · rw [Nat.max_eq_right (by omega)] at e; exact hn qa (by omega) (by rw [e, hqa, hqb])
    · rw [Nat.max_eq_left (by omega)] at e; exact hn qb (by omega) (by rw [e, hqa, hqb])
  · by_cases ci : A i = A b <;> by_cases cj : A j = A b
    · exact hn i hi (ci.trans cj.symm)
    · rw [hB1 i (by omega) ci, hB2 j hj cj] at e; have h1 : j ≤ qa := new_le hn (a2.trans e); have h2 := new_le b3 (ci.trans b2.symm); have h3 := new_le a3 (e.symm.trans a2.symm)
      omega
    · rw [hB2 i (by omega) ci, hB1 j hj cj] at e; have h1 : j ≤ qb := new_le hn (b2.trans cj.symm); have h2 := new_le a3 (e.trans a2.symm); have h3 := new_le b3 (cj.trans b2.symm)
      omega
    · rw [hB2 i (by omega) ci, hB2 j hj cj] at e; exact hn i hi e
def atL (R : List Int) (u : Nat) : Int := R.getD u 0
theorem cls_edges {R : List Int} : ∀ es, inE R.length es → clsN (atL R) R.length ≤ clsN (atL (ufF R es)) R.length + es.length ∧ (okE R es ↔ clsN (atL (ufF R es)) R.length + es.length = clsN (atL R) R.length) := by
  refine snocI (fun _ => ⟨by simp [ufF], by simp [okE, ufF]⟩) fun es e ih hin => ?_; have hin' : inE R.length es := fun x hx => hin x (by simp [hx]); obtain ⟨h1, h2⟩ := ih hin'; have he := hin e (by simp); have hl := ufF_len R es; rw [okE_snoc, ufF_snoc, List.length_append, List.length_singleton]
  by_cases c : (ufF R es).getD e.1 0 = (ufF R es).getD e.2 0
  · have hs : clsN (atL (mrgE (ufF R es) e)) R.length = clsN (atL (ufF R es)) R.length := by
      have hv : ∀ u, u < R.length → atL (mrgE (ufF R es) e) u = atL (ufF R es) u := fun u hu => by
        unfold atL
        rw [mrgE_at (by omega), c]
        split
        · rename_i h; exact h.symm
        · rfl
      exact cls_same fun u v hu hv' => by rw [hv u hu, hv v hv']
    rw [hs]; exact ⟨by omega, ⟨fun h => absurd c h.2, fun h => by omega⟩⟩
  · have hs : clsN (atL (mrgE (ufF R es) e)) R.length + 1 = clsN (atL (ufF R es)) R.length :=
      cls_merge (a := e.1) (b := e.2) he.1 he.2 c fun u hu => mrgE_at (by omega)
    exact ⟨by omega, ⟨fun h => by have := h2.1 h.1; omega, fun h => ⟨h2.2 (by omega), c⟩⟩⟩
theorem mrgI_full {P : List Int} {a b : Int} {u : Nat} (h : u < P.length) : (mrgI P a b P.length).getD u 0 = mrgX a b (P.getD u 0) := by
  unfold mrgI
  rw [List.take_length, List.drop_length, List.append_nil]
  simp [List.getD, h]
theorem mrg_iff {P : List Int} {i m u v : Nat} (hu : u < P.length) (hv : v < P.length) : (mrgI P (P.getD i 0) (P.getD m 0) P.length).getD u 0 = (mrgI P (P.getD i 0) (P.getD m 0) P.length).getD v 0 ↔
    P.getD u 0 = P.getD v 0 ∨ (P.getD u 0 = P.getD i 0 ∧ P.getD v 0 = P.getD m 0) ∨ (P.getD u 0 = P.getD m 0 ∧ P.getD v 0 = P.getD i 0) := by
  rw [mrgI_full hu, mrgI_full hv]
  unfold mrgX
  split <;> split <;> omega
section
variable {ts : List Ten}
/-- Pairs that are joined stay joined; the least joining. -/
theorem ptI_ok {α : Type} {g : Nat → α} {P : List Int} {i : Nat} (hP : P.length = ts.length) (hi : i < ts.length) (hg : ∀ a b, a < ts.length → b < ts.length → meetP (ts.getD a noTen) (ts.getD b noTen) → g a = g b)
    (hl : ∀ u v, u < ts.length → v < ts.length → P.getD u 0 = P.getD v 0 → g u = g v) : ∀ m, m ≤ i → (∀ u v, u < ts.length → v < ts.length → P.getD u 0 = P.getD v 0 → (ptI ts P i m).getD u 0 = (ptI ts P i m).getD v 0) ∧
      (∀ b, b < m → meetP (ts.getD i noTen) (ts.getD b noTen) → (ptI ts P i m).getD i 0 = (ptI ts P i m).getD b 0) ∧ (∀ u v, u < ts.length → v < ts.length → (ptI ts P i m).getD u 0 = (ptI ts P i m).getD v 0 → g u = g v)
  | 0, _ => ⟨fun _ _ _ _ h => h, fun b hb => by omega, hl⟩
  | m + 1, hm => by
    obtain ⟨h1, h2, h3⟩ := ptI_ok hP hi hg hl m (by omega); have hlen := ptI_len (ts := ts) (P := P) (i := i) m
    by_cases c : meetP (ts.getD i noTen) (ts.getD m noTen)
    · have e := ptI_yes (P := P) c; have hgm := hg i m hi (by omega) c; have e2 : ptI ts P i (m + 1) = mrgI (ptI ts P i m) ((ptI ts P i m).getD i 0) ((ptI ts P i m).getD m 0) (ptI ts P i m).length := by rw [e, hlen]
      rw [e2]; refine ⟨fun u v hu hv h => (mrg_iff (by omega) (by omega)).2 (.inl (h1 u v hu hv h)), fun b hb hmb => ?_, fun u v hu hv h => ?_⟩
      · by_cases hbm : b = m
        · subst hbm; exact (mrg_iff (by omega) (by omega)).2 (.inr (.inl ⟨rfl, rfl⟩))
        · exact (mrg_iff (by omega) (by omega)).2 (.inl (h2 b (by omega) hmb))
      · rcases (mrg_iff (by omega) (by omega)).1 h with h | ⟨ha, hb⟩ | ⟨ha, hb⟩
        · exact h3 u v hu hv h
        · exact (h3 u i hu hi ha).trans (hgm.trans (h3 v m hv (by omega) hb).symm)
        · exact (h3 u m hu (by omega) ha).trans (hgm.symm.trans (h3 v i hv hi hb).symm)
    · rw [ptI_no c]; exact ⟨h1, fun b hb hmb => h2 b (by
        rcases Nat.lt_or_ge b m with h | h
        · exact h
        · exact absurd (by rw [show b = m by omega] at hmb; exact hmb) c) hmb, h3⟩
theorem meet_symm {t u : Ten} (h : meetP t u) : meetP u t := by
  obtain ⟨x, h1, h2⟩ := h; exact ⟨x, h2, h1⟩
theorem ptO_all {α : Type} {g : Nat → α} (hg : ∀ a b, a < ts.length → b < ts.length → meetP (ts.getD a noTen) (ts.getD b noTen) → g a = g b) : ∀ i, i ≤ ts.length →
    (∀ a b, a < i → b < a → meetP (ts.getD a noTen) (ts.getD b noTen) → (ptO ts i).getD a 0 = (ptO ts i).getD b 0) ∧ (∀ u v, u < ts.length → v < ts.length → (ptO ts i).getD u 0 = (ptO ts i).getD v 0 → g u = g v)
  | 0, _ => ⟨fun a b ha => by omega, fun u v hu hv h => by
      have e : ∀ j, j < ts.length → (ptO ts 0).getD j 0 = (j : Int) := fun j hj => by simp [ptO, List.getD, hj]
      rw [e u hu, e v hv] at h; rw [show u = v by omega]⟩
  | i + 1, hi => by
    obtain ⟨h1, h2⟩ := ptO_all hg i (by omega); have hP := (ptO_ok ts i (by omega)).1; obtain ⟨k1, k2, k3⟩ := ptI_ok hP (by omega : i < ts.length) hg h2 i (Nat.le_refl _); refine ⟨fun a b ha hb hm => ?_, k3⟩
    show (ptI ts (ptO ts i) i i).getD a 0 = _
    by_cases hai : a = i
    · subst hai; exact k2 b hb hm
    · exact k1 a b (by omega) (by omega) (h1 a b (by omega) hb hm)
theorem pt_meet {i j : Nat} (hi : i < ts.length) (hj : j < ts.length) (h : meetP (ts.getD i noTen) (ts.getD j noTen)) : (ptP ts).getD i 0 = (ptP ts).getD j 0 := by
  have h1 := (ptO_all (ts := ts) (g := fun _ => ()) (fun _ _ _ _ _ => rfl) ts.length (Nat.le_refl _)).1
  rcases Nat.lt_trichotomy i j with hl | hl | hl
  · exact (h1 j i hj hl (meet_symm h)).symm
  · rw [hl]
  · exact h1 i j hi hl h
theorem pt_least {α : Type} {g : Nat → α} (hg : ∀ a b, a < ts.length → b < ts.length → meetP (ts.getD a noTen) (ts.getD b noTen) → g a = g b) {u v : Nat} (hu : u < ts.length) (hv : v < ts.length) (h : (ptP ts).getD u 0 = (ptP ts).getD v 0) : g u = g v :=
  (ptO_all hg ts.length (Nat.le_refl _)).2 u v hu hv h
theorem vals_cls {P : Nat → Int} {n : Nat} : ∀ m, m ≤ n → (∀ j, j < m → 0 ≤ P j ∧ P j < n) → nOf (fun i => ∃ j, j < m ∧ P j = i) n = clsN P m
  | 0, _, _ => by
    have : nOf (fun i => ∃ j, j < 0 ∧ P j = i) n = nOf (fun _ => False) n := nOf_congr n fun j _ => ⟨fun ⟨i, hi, _⟩ => by omega, fun h => h.elim⟩
    rw [this]; have h2 := nOf_compl (fun _ => False) n; have h3 := nOf_all (p := fun _ => ¬ False) n fun _ _ h => h
    show _ = nOf (newC P) 0
    rw [h3] at h2
    show _ = 0
    omega
  | m + 1, hm, hP => by
    have ih := vals_cls m (by omega) fun j hj => hP j (by omega); have hPm := hP m (by omega); have hz : P m = ((P m).toNat : Int) := by omega
    by_cases c : newC P m
    · have e1 : clsN P (m + 1) = clsN P m + 1 := nOf_yes c; have e2 := nOf_drop (p := fun i => ∃ j, j < m + 1 ∧ P j = i) (q := (P m).toNat) ⟨m, by omega, hz⟩ n (by omega); rw [e1, ← ih, ← e2]
      congr 1
      refine nOf_congr n fun i _ => ⟨fun ⟨⟨j, hj, e⟩, hne⟩ => ⟨j, ?_, e⟩, fun ⟨j, hj, e⟩ => ⟨⟨j, by omega, e⟩, fun d => c j hj (by omega)⟩⟩
      rcases Nat.lt_or_ge j m with h | h
      · exact h
      · exfalso
        rw [show j = m by omega] at e
        omega
    · have e1 : clsN P (m + 1) = clsN P m := nOf_no c; rw [e1, ← ih]; have : ∃ j, j < m ∧ P j = P m := Classical.byContradiction fun hn => c fun i hi e => hn ⟨i, hi, e⟩; obtain ⟨q, hq, eq⟩ := this; refine nOf_congr n fun i _ => ⟨fun ⟨j, hj, e⟩ => ?_, fun ⟨j, hj, e⟩ => ⟨j, by omega, e⟩⟩
      rcases Nat.lt_or_ge j m with h | h
      · exact ⟨j, h, e⟩
      · exact ⟨q, hq, by rw [show j = m by omega] at e; omega⟩
theorem partsTo_nOf : ∀ i, (partsTo ts i).length = nOf (fun i => ∃ j, j < ts.length ∧ atL (ptP ts) j = i) i
  | 0 => rfl
  | i + 1 => by
    have ih := partsTo_nOf i; have hiff : partJ (ptP ts) i ts.length ≠ [] ↔ ∃ j, j < ts.length ∧ atL (ptP ts) j = i := by
      constructor
      · intro h; obtain ⟨x, hx⟩ := List.exists_mem_of_ne_nil _ h; obtain ⟨j, _, hj, e⟩ := mem_partJ.1 hx; exact ⟨j, hj, e⟩
      · rintro ⟨j, hj, e⟩ h; have : (j : Int) ∈ partJ (ptP ts) i ts.length := mem_partJ.2 ⟨j, rfl, hj, e⟩; rw [h] at this; cases this
    by_cases c : partJ (ptP ts) i ts.length = []
    · rw [partsTo_no c, nOf_no (fun h => hiff.2 h c), ih]
    · rw [partsTo_yes c, nOf_yes (p := fun i => ∃ j, j < ts.length ∧ atL (ptP ts) j = (i : Int)) (hiff.1 c), List.length_append, ih]; rfl
theorem parts_cls : (partsL ts).length = clsN (atL (ptP ts)) ts.length := by
  obtain ⟨hl, hin⟩ := ptO_ok ts ts.length (Nat.le_refl _); rw [partsL, partsTo_nOf]; exact vals_cls ts.length (Nat.le_refl _) fun j hj => hin j (by omega)
end
end Go.Proofs.Ytdkgaejmgnojhaa
