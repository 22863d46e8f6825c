/-
  The model of the product of two tensors, summed over the labels that are not kept.
  Conditions: none.
-/
import Derived.Test.YtikeobneipjfnaaPair
import Derived.Test.YtikeobneipjfnaaIndex
namespace Go.Proofs.Ytikeobneipjfnaa
set_option maxRecDepth 100000
open Go.RowKit
def dimJ (t u : Ten) (x : Int) : Int := if x ∈ t.l then t.d.getD (findI t.l x).toNat 0 else u.d.getD (findI u.l x).toNat 0
theorem map_find {ls ds : List Int} (hn : ls.Nodup) (hl : ls.length = ds.length) : ds = ls.map fun x => ds.getD (findI ls x).toNat 0 := by
  apply ext_getD
  · simp [hl]
  · intro j hj
    rw [map_getD (by omega), find_at' hn (by omega)]
    simp
theorem dimJ_l {t u : Ten} (hn : t.l.Nodup) (hl : t.l.length = t.d.length) : t.d = t.l.map (dimJ t u) := by
  conv => lhs; rw [map_find hn hl]
  exact List.map_congr_left fun x hx => by simp [dimJ, hx]
theorem dimJ_r {t u : Ten} (hn : u.l.Nodup) (hl : u.l.length = u.d.length) (hm : ¬ mism t u) : u.d = u.l.map (dimJ t u) := by
  conv => lhs; rw [map_find hn hl]
  refine List.map_congr_left fun x hx => ?_
  by_cases h : x ∈ t.l
  · have hg := findI_get hx
    have : ¬ (t.d.getD (findI t.l x).toNat 0 ≠ u.d.getD (findI u.l x).toNat 0) := fun hne => hm ⟨(findI u.l x).toNat, hg.1, by rw [hg.2]; exact ⟨h, hne⟩⟩
    simp only [dimJ, h, if_true]
    omega
  · simp [dimJ, h]
/-- Two tensors that can be joined. -/
structure PairOK (k p n : Int) (t u : Ten) (f : Int → Int) : Prop where
  tt : tensorL k p n t.l t.d t.x
  uu : tensorL k p n u.l u.d u.x
  ht : t.d = t.l.map f
  hu : u.d = u.l.map f
  work : prodI ((joinI t.l u.l).map f) ≤ 65536
theorem ten_axes {k p n : Int} {ls ds xs : List Int} (h : tensorL k p n ls ds xs) : axesL ls ds := (sizeI_ge.1 h.2.1).1
theorem ten_prod {k p n : Int} {ls ds xs : List Int} (h : tensorL k p n ls ds xs) : prodI ds ≤ 4096 := (sizeI_ge.1 h.2.1).2
theorem PairOK.nd {k p n : Int} {t u : Ten} {f : Int → Int} (h : PairOK k p n t u f) : (joinI t.l u.l).Nodup := joinI_nodup (axes_nodup (ten_axes h.tt)) (axes_nodup (ten_axes h.uu))
theorem PairOK.dim {k p n : Int} {t u : Ten} {f : Int → Int} (h : PairOK k p n t u f) : ∀ x ∈ joinI t.l u.l, 1 ≤ f x ∧ f x ≤ 8 := fun x hx => by
  rcases mem_joinI.1 hx with hx | hx
  · exact dims_mem (axes_dims (ten_axes h.tt)) _ (by rw [h.ht]; exact List.mem_map_of_mem hx)
  · exact dims_mem (axes_dims (ten_axes h.uu)) _ (by rw [h.hu]; exact List.mem_map_of_mem hx)
theorem map_dim {f : Int → Int} {L ls : List Int} (hf : ∀ x ∈ L, 1 ≤ f x ∧ f x ≤ 8) (hs : ∀ l ∈ ls, l ∈ L) : ∀ d ∈ ls.map f, 1 ≤ d ∧ d ≤ 8 := fun d hd => by
  obtain ⟨x, hx, rfl⟩ := List.mem_map.1 hd
  exact hf x (hs x hx)
/-! ### the offset of a part at the m-th place of the whole -/
def atI (f : Int → Int) (L ls : List Int) (m : Int) : Int := dotL (stepsL L ls (ls.map f)) (idxL (L.map f) m)
theorem at_in {f : Int → Int} {L ls : List Int} (hn : L.Nodup) (hl : ls.Nodup) (hs : ∀ l ∈ ls, l ∈ L) (hf : ∀ x ∈ L, 1 ≤ f x ∧ f x ≤ 8) (m : Int) : 0 ≤ atI f L ls m ∧ atI f L ls m < prodI (ls.map f) := by
  have hd : ∀ d ∈ L.map f, 1 ≤ d := fun d hd => (map_dim hf (fun _ h => h) d hd).1
  have hd2 : ∀ d ∈ ls.map f, 1 ≤ d := fun d hd => (map_dim hf hs d hd).1
  have hi := idxL_in hd m
  have ho := offL_in (ds := ls.map f) (is := idxAt L (idxL (L.map f) m) ls) hd2 ⟨by simp [idxAt], fun j hj => by
    have hj' : j < ls.length := by simpa using hj
    have hm := hs _ (mem_getD hj')
    have hg := findI_get hm
    have := hi.2 (findI L (ls.getD j 0)).toNat (by simpa using hg.1)
    rw [map_getD hg.1, hg.2] at this
    rw [idxAt, map_getD hj', map_getD hj']; exact this⟩
  have e : atI f L ls m = offL (ls.map f) (idxAt L (idxL (L.map f) m) ls) := by
    unfold atI dotL; rw [stepsL_len]; exact dot_off hn (by simp) hl hs
  omega
/-! ### numbers in range -/
def AllR (k p n P : Int) (xs : List Int) : Prop := (xs.length : Int) = P * widthI k n ∧ ∀ a ∈ xs, 0 ≤ a ∧ a ≤ topI k p n
theorem mul_room {P w i : Int} (hw : 0 ≤ w) (h0 : 0 ≤ i) (h1 : i < P) : 0 ≤ i * w ∧ i * w + w ≤ P * w := by
  have h2 := Int.mul_le_mul_of_nonneg_right (show i + 1 ≤ P by omega) hw
  rw [Int.add_mul, Int.one_mul] at h2
  exact ⟨Int.mul_nonneg h0 hw, h2⟩
theorem AllR.el {k p n P : Int} {xs : List Int} (h : AllR k p n P xs) (hr : ringL k p n) {i : Int} (h0 : 0 ≤ i) (h1 : i < P) : InR k p n (elt xs (widthI k n) i) := by
  have hw := width_range hr
  have hm := mul_room (show 0 ≤ widthI k n by omega) h0 h1
  have hl := h.1
  refine ⟨?_, fun a ha => h.2 a (elt_mem ha)⟩
  simp only [elt, List.length_take, List.length_drop]
  omega
theorem AllR.put {k p n P : Int} {xs ys : List Int} (h : AllR k p n P xs) (hr : ringL k p n) {i : Int} (h0 : 0 ≤ i) (h1 : i < P) (hy : InR k p n ys) : AllR k p n P (putL xs (i * widthI k n).toNat ys) := by
  have hw := width_range hr
  have hm := mul_room (show 0 ≤ widthI k n by omega) h0 h1
  have hl := h.1
  have hyl := hy.1
  refine ⟨by rw [putL_len (by omega)]; exact hl, fun a ha => ?_⟩
  simp only [putL, List.mem_append] at ha
  rcases ha with (ha | ha) | ha
  · exact h.2 a (List.mem_of_mem_take ha)
  · exact hy.2 a ha
  · exact h.2 a (List.mem_of_mem_drop ha)
theorem flat_rep_len (z : List Int) : ∀ m : Nat, ((List.replicate m z).flatten).length = m * z.length
  | 0 => by simp
  | m + 1 => by rw [List.replicate_succ, List.flatten_cons, List.length_append, flat_rep_len z m, Nat.add_mul, Nat.one_mul]; omega
theorem flat_rep_succ (z : List Int) (m : Nat) : (List.replicate (m + 1) z).flatten = (List.replicate m z).flatten ++ z := by
  rw [List.replicate_succ', List.flatten_append]; simp
theorem zeroL_in {k p n : Int} (h : ringL k p n) : InR k p n (zeroL k p n) := by
  have ht := top_range h
  refine ⟨zeroL_len k p n, fun a ha => ?_⟩
  unfold zeroL at ha
  split at ha
  · rename_i h4
    have := top_cap h (.inr (.inl h4))
    simp at ha; omega
  · have := List.eq_of_mem_replicate ha; omega
theorem AllR.zero {k p n P : Int} (hr : ringL k p n) (hP : 0 ≤ P) : AllR k p n P (List.replicate P.toNat (zeroL k p n)).flatten := by
  have hw := width_range hr
  have hz := zeroL_in hr
  refine ⟨?_, fun a ha => ?_⟩
  · rw [flat_rep_len, hz.1, Int.natCast_mul]
    rw [show ((P.toNat : Nat) : Int) = P by omega, show (((widthI k n).toNat : Nat) : Int) = widthI k n by omega]
  · obtain ⟨l, hl, ha⟩ := List.mem_flatten.1 ha
    rw [List.eq_of_mem_replicate hl] at ha
    exact hz.2 a ha
/-! ### the product -/
noncomputable def pairX (k p n : Int) (f : Int → Int) (t u : Ten) (K : List Int) : Nat → List Int
  | 0 => (List.replicate (prodI (K.map f)).toNat (zeroL k p n)).flatten
  | m + 1 => putL (pairX k p n f t u K m) (atI f (joinI t.l u.l) K m * widthI k n).toNat
      (addL k p (elt (pairX k p n f t u K m) (widthI k n) (atI f (joinI t.l u.l) K m))
        (mulL k p n (elt t.x (widthI k n) (atI f (joinI t.l u.l) t.l m)) (elt u.x (widthI k n) (atI f (joinI t.l u.l) u.l m))))
noncomputable def pairT (k p n : Int) (f : Int → Int) (t u : Ten) (K : List Int) : Ten := ⟨K, K.map f, pairX k p n f t u K (prodI ((joinI t.l u.l).map f)).toNat⟩
theorem ten_all {k p n : Int} {t : Ten} (h : tensorL k p n t.l t.d t.x) : AllR k p n (prodI t.d) t.x := by
  have hs := sizeI_ge.1 h.2.1
  have := h.2.2.1
  rw [sizeI_yes hs.1 hs.2] at this
  exact ⟨this, h.2.2.2⟩
structure KeepOK (t u : Ten) (f : Int → Int) (K : List Int) : Prop where
  sub : ∀ l ∈ K, l ∈ joinI t.l u.l
  nd : K.Nodup
  small : prodI (K.map f) ≤ 4096
section
variable {k p n : Int} {t u : Ten} {f : Int → Int} {K : List Int} (h : PairOK k p n t u f) (hk : KeepOK t u f K)
include h hk
theorem PairOK.at_k (m : Int) : 0 ≤ atI f (joinI t.l u.l) K m ∧ atI f (joinI t.l u.l) K m < prodI (K.map f) := at_in h.nd hk.nd hk.sub h.dim m
theorem PairOK.pos_k : 1 ≤ prodI (K.map f) := prodI_one fun d hd => (map_dim h.dim hk.sub d hd).1
omit hk in
theorem PairOK.at_t (m : Int) : 0 ≤ atI f (joinI t.l u.l) t.l m ∧ atI f (joinI t.l u.l) t.l m < prodI t.d := by
  have := at_in h.nd (axes_nodup (ten_axes h.tt)) (fun l hl => mem_joinI.2 (.inl hl)) h.dim m
  rwa [← h.ht] at this
omit hk in
theorem PairOK.at_u (m : Int) : 0 ≤ atI f (joinI t.l u.l) u.l m ∧ atI f (joinI t.l u.l) u.l m < prodI u.d := by
  have := at_in h.nd (axes_nodup (ten_axes h.uu)) (fun l hl => mem_joinI.2 (.inr hl)) h.dim m
  rwa [← h.hu] at this
omit hk in
theorem PairOK.el_t (m : Int) : InR k p n (elt t.x (widthI k n) (atI f (joinI t.l u.l) t.l m)) := elt_inR h.tt (h.at_t m).1 (h.at_t m).2
omit hk in
theorem PairOK.el_u (m : Int) : InR k p n (elt u.x (widthI k n) (atI f (joinI t.l u.l) u.l m)) := elt_inR h.uu (h.at_u m).1 (h.at_u m).2
theorem PairOK.all : ∀ m : Nat, AllR k p n (prodI (K.map f)) (pairX k p n f t u K m)
  | 0 => AllR.zero h.tt.1 (by have := h.pos_k hk; omega)
  | m + 1 => (PairOK.all m).put h.tt.1 (h.at_k hk m).1 (h.at_k hk m).2 (addL_in h.tt.1 ((PairOK.all m).el h.tt.1 (h.at_k hk m).1 (h.at_k hk m).2) (mulL_in h.tt.1 (h.el_t m) (h.el_u m)))
theorem PairOK.small (m : Nat) : (pairX k p n f t u K m).length ≤ 24576 := by
  have hw := width_range h.tt.1
  have := (h.all hk m).1
  have h3 : prodI (K.map f) * widthI k n ≤ 4096 * 6 := Int.mul_le_mul hk.small hw.2 (by omega) (by omega)
  omega
theorem PairOK.fits (m : Nat) : atI f (joinI t.l u.l) K m * widthI k n + widthI k n ≤ (pairX k p n f t u K m).length := by
  have hw := width_range h.tt.1
  have := (h.all hk m).1
  have := (mul_room (show 0 ≤ widthI k n by omega) (h.at_k hk m).1 (h.at_k hk m).2).2
  omega
end
end Go.Proofs.Ytikeobneipjfnaa
