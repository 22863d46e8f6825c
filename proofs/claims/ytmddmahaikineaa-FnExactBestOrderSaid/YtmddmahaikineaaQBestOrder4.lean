/-
  Parts of the proof of FnExactBestOrder: laws of heaps, contracts of functions.
  Conditions: none.
-/
import Derived.Test.YtmddmahaikineaaQBestOrder3
namespace Go.Proofs.Ytmddmahaikineaa
set_option maxRecDepth 100000
open Go.RowKit
def setP (xs ys : List Int) (j : Nat) : Prop := ys.getD j 0 ∈ xs ∧ ys.getD j 0 ∉ ys.take j
def setL (xs ys : List Int) : Prop := xs.length = ys.length ∧ ∀ j, j < ys.length → setP xs ys j
theorem prodI_perm {a b : List Int} (h : a.Perm b) : prodI a = prodI b := by
  induction h with
  | nil => rfl
  | cons x _ ih => rw [prodI_cons, prodI_cons, ih]
  | swap x y l => rw [prodI_cons, prodI_cons, prodI_cons, prodI_cons, Int.mul_left_comm]
  | trans _ _ h1 h2 => exact h1.trans h2
def permD (t : Ten) (ls : List Int) : List Int := idxAt t.l t.d ls
def permX (wd : Int) (t : Ten) (ls ds : List Int) (m : Nat) : List Int := (List.range m).flatMap fun (i : Nat) => elt t.x wd (offL t.d (idxAt ls (idxL ds i) t.l))
noncomputable def permT (k n : Int) (t : Ten) (ls : List Int) : Ten := ⟨ls, permD t ls, permX (widthI k n) t ls (permD t ls) (prodI (permD t ls)).toNat⟩
theorem permD_len (t : Ten) (ls : List Int) : (permD t ls).length = ls.length := List.length_map _
structure PermOK (k p n : Int) (t : Ten) (ls : List Int) : Prop where
  ring : ringL k p n
  ten : tensorL k p n t.l t.d t.x
  perm : ls.Perm t.l
section
variable {k p n : Int} {t : Ten} {ls : List Int}
theorem PermOK.axes (h : PermOK k p n t ls) : axesL t.l t.d := tensor_axes h.ten
theorem PermOK.nodup (h : PermOK k p n t ls) : ls.Nodup := (List.Perm.nodup_iff h.perm).2 (axes_nodup h.axes)
theorem PermOK.len (h : PermOK k p n t ls) : ls.length = t.l.length ∧ t.l.length = t.d.length ∧ ls.length ≤ 12 := by
  have := h.perm.length_eq; have := h.axes; exact ⟨by omega, this.2.1, by have := this.1; omega⟩
theorem PermOK.find (h : PermOK k p n t ls) {j : Nat} (hj : j < ls.length) : 0 ≤ findI t.l (ls.getD j 0) ∧ findI t.l (ls.getD j 0) < t.d.length ∧ t.l.getD (findI t.l (ls.getD j 0)).toNat 0 = ls.getD j 0 := by
  have hm : ls.getD j 0 ∈ t.l := h.perm.mem_iff.1 (mem_getD hj); have h1 := findI_ge.2 hm; have h2 := findI_get hm; have := h.len; exact ⟨h1, by omega, h2.2⟩
theorem PermOK.dims (h : PermOK k p n t ls) : dimsIn (permD t ls) := fun j hj => by
  rw [permD_len] at hj; have hf := h.find hj; rw [permD, idxAt, map_getD hj]; exact axes_dims h.axes _ (by omega)
theorem PermOK.prod (h : PermOK k p n t ls) : prodI (permD t ls) = prodI t.d := by
  have e : t.d = idxAt t.l t.d t.l := by
    apply ext_getD (by simp [idxAt, h.axes.2.1])
    intro j hj; have hj' : j < t.l.length := by rw [h.axes.2.1]; exact hj
    rw [idxAt, map_getD hj', find_at h.axes hj', Int.toNat_natCast]
  conv => rhs; rw [e]
  exact prodI_perm (h.perm.map _)
theorem PermOK.small (h : PermOK k p n t ls) : 1 ≤ prodI (permD t ls) ∧ prodI (permD t ls) ≤ 4096 := by
  refine ⟨prodI_one fun d hd => (dims_mem h.dims d hd).1, ?_⟩; rw [h.prod]; exact (sizeI_ge.1 h.ten.2.1).2
theorem PermOK.back (h : PermOK k p n t ls) {j : Nat} (hj : j < t.l.length) : (findI ls (t.l.getD j 0)).toNat < ls.length ∧ ls.getD (findI ls (t.l.getD j 0)).toNat 0 = t.l.getD j 0 :=
  findI_get (h.perm.mem_iff.2 (mem_getD hj))
theorem PermOK.idx (h : PermOK k p n t ls) (i : Int) : idxIn t.d (idxAt ls (idxL (permD t ls) i) t.l) := by
  have hd : ∀ d ∈ permD t ls, 1 ≤ d := fun d hd => (dims_mem h.dims d hd).1; refine ⟨by simp [idxAt, h.axes.2.1], fun j hj => ?_⟩; have hj' : j < t.l.length := by rw [h.axes.2.1]; exact hj
  have hb := h.back hj'; have hv := (idxL_in hd i).2 (findI ls (t.l.getD j 0)).toNat (by rw [permD_len]; exact hb.1); rw [idxAt, map_getD hj']; rw [show (permD t ls).getD (findI ls (t.l.getD j 0)).toNat 0 = t.d.getD j 0 by
    rw [permD, idxAt, map_getD hb.1, hb.2, find_at h.axes hj', Int.toNat_natCast]] at hv
  exact hv
theorem PermOK.off (h : PermOK k p n t ls) (i : Int) : 0 ≤ offL t.d (idxAt ls (idxL (permD t ls) i) t.l) ∧ offL t.d (idxAt ls (idxL (permD t ls) i) t.l) < prodI t.d := by
  have := offL_in (fun d hd => (dims_mem (axes_dims h.axes) d hd).1) (h.idx i)
  omega
end
end Go.Proofs.Ytmddmahaikineaa
namespace Go.Proofs.Ytmddmahaikineaa
set_option maxRecDepth 100000
open Go.RowKit
theorem Made.un {a b : PH} {la lb : List PH} (ma : Made a la) (mb : Made b lb) (hd : PDj a b) : Made (PUn a b) (la ++ lb) := by
  refine ⟨sepL_append.2 ⟨ma.sep, mb.sep, fun x hx y hy => (((hd.mono (ma.le x hx)).symm).mono (mb.le y hy)).symm⟩, fun x hx => ?_, fun k o e => ?_⟩
  · rcases List.mem_append.1 hx with hx | hx
    · exact (ma.le x hx).trans (PLe.un_l _ _)
    · exact (mb.le x hx).trans (PLe.un_r hd)
  · unfold PUn at e
    split at e
    · rename_i y hy
      cases e
      obtain ⟨x, hx, hxe⟩ := ma.dom k _ hy; exact ⟨x, by simp [hx], hxe⟩
    · obtain ⟨x, hx, hxe⟩ := mb.dom k _ e; exact ⟨x, by simp [hx], hxe⟩
/-- Slices that own their cells, all in one part. -/
def OwnH (xss : List (List Int)) (vs : List Value) (h : PH) : Prop := ∃ l, OwnL xss vs l ∧ Made h l
theorem OwnH.nil : OwnH [] [] emp := ⟨[], OwnL.nil, ⟨trivial, fun x hx => by simp at hx, fun k o e => by cases e⟩⟩
theorem OwnH.snoc {ts : List Ten} {t : Ten} {vs : List Value} {a b c : Value} {h h' : PH} (o : OwnH (flat ts) vs h) (r : TriO t a b c h') (hd : PDj h h') : OwnH (flat (ts ++ [t])) (vs ++ [a, b, c]) (PUn h h') := by
  obtain ⟨l, ol, m⟩ := o; obtain ⟨h1, h2, h3, r1, r2, r3, m'⟩ := r; refine ⟨l ++ [h1, h2, h3], ?_, m.un m' hd⟩; rw [flat_append]; exact ol.append (OwnL.three r1 r2 r3)
end Go.Proofs.Ytmddmahaikineaa
namespace Go.Proofs.Ytmddmahaikineaa
set_option maxRecDepth 100000
open Go.RowKit
theorem TriO.none : TriO ⟨[], [], []⟩ (.slice none 0 0) (.slice none 0 0) (.slice none 0 0) emp :=
  ⟨emp, emp, emp, IntsO.nil, IntsO.nil, IntsO.nil, ⟨by simp [sepL, PDj.emp], fun x hx => by simp at hx; subst hx; exact PLe.emp _, fun k o e => by cases e⟩⟩
def fitP (k p n : Int) (t u : Ten) : Prop := tensorL k p n t.l t.d t.x ∧ tensorL k p n u.l u.d u.x ∧ setL t.l u.l ∧ permD u t.l = t.d
def FitR (k p n : Int) (t u : Ten) (x : Value) (h : PH) : Prop := ∃ T a b c bb, x = .tuple [tenV a b c, .bool bb].toArray ∧ TriO T a b c h ∧ (bb = true ↔ fitP k p n t u) ∧ (bb = true → T = permT k n u t.l)
theorem FitR.no {k p n : Int} {t u : Ten} (h : ¬ fitP k p n t u) : FitR k p n t u (.tuple [tenV (.slice none 0 0) (.slice none 0 0) (.slice none 0 0), .bool false].toArray) emp :=
  ⟨⟨[], [], []⟩, _, _, _, false, rfl, TriO.none, ⟨fun e => (by cases e), fun e => absurd e h⟩, fun e => (by cases e)⟩
end Go.Proofs.Ytmddmahaikineaa
namespace Go.Proofs.Ytmddmahaikineaa
set_option maxRecDepth 100000
open Go.RowKit
def dimJ (t u : Ten) (x : Int) : Int := if x ∈ t.l then t.d.getD (findI t.l x).toNat 0 else u.d.getD (findI u.l x).toNat 0
theorem map_find {ls ds : List Int} (hn : ls.Nodup) (hl : ls.length = ds.length) : ds = ls.map fun x => ds.getD (findI ls x).toNat 0 := by
  apply ext_getD
  · simp [hl]
  · intro j hj; rw [map_getD (by omega), find_at' hn (by omega)]
    simp
theorem dimJ_l {t u : Ten} (hn : t.l.Nodup) (hl : t.l.length = t.d.length) : t.d = t.l.map (dimJ t u) := by
  conv => lhs; rw [map_find hn hl]
  exact List.map_congr_left fun x hx => by simp [dimJ, hx]
theorem dimJ_r {t u : Ten} (hn : u.l.Nodup) (hl : u.l.length = u.d.length) (hm : ¬ mism t u) : u.d = u.l.map (dimJ t u) := by
  conv => lhs; rw [map_find hn hl]
  refine List.map_congr_left fun x hx => ?_
  by_cases h : x ∈ t.l
  · have hg := findI_get hx; have : ¬ (t.d.getD (findI t.l x).toNat 0 ≠ u.d.getD (findI u.l x).toNat 0) := fun hne => hm ⟨(findI u.l x).toNat, hg.1, by rw [hg.2]; exact ⟨h, hne⟩⟩; simp only [dimJ, h, if_true]
    omega
  · simp [dimJ, h]
/-- Two tensors that can be joined. -/
structure PairOK (k p n : Int) (t u : Ten) (f : Int → Int) : Prop where
  tt : tensorL k p n t.l t.d t.x
  uu : tensorL k p n u.l u.d u.x
  ht : t.d = t.l.map f
  hu : u.d = u.l.map f
  work : prodI ((joinI t.l u.l).map f) ≤ 65536
theorem ten_axes {k p n : Int} {ls ds xs : List Int} (h : tensorL k p n ls ds xs) : axesL ls ds := (sizeI_ge.1 h.2.1).1
theorem PairOK.nd {k p n : Int} {t u : Ten} {f : Int → Int} (h : PairOK k p n t u f) : (joinI t.l u.l).Nodup := joinI_nodup (axes_nodup (ten_axes h.tt)) (axes_nodup (ten_axes h.uu))
theorem PairOK.dim {k p n : Int} {t u : Ten} {f : Int → Int} (h : PairOK k p n t u f) : ∀ x ∈ joinI t.l u.l, 1 ≤ f x ∧ f x ≤ 8 := fun x hx => by
  rcases mem_joinI.1 hx with hx | hx
  · exact dims_mem (axes_dims (ten_axes h.tt)) _ (by rw [h.ht]; exact List.mem_map_of_mem hx)
  · exact dims_mem (axes_dims (ten_axes h.uu)) _ (by rw [h.hu]; exact List.mem_map_of_mem hx)
theorem map_dim {f : Int → Int} {L ls : List Int} (hf : ∀ x ∈ L, 1 ≤ f x ∧ f x ≤ 8) (hs : ∀ l ∈ ls, l ∈ L) : ∀ d ∈ ls.map f, 1 ≤ d ∧ d ≤ 8 := fun d hd => by
  obtain ⟨x, hx, rfl⟩ := List.mem_map.1 hd; exact hf x (hs x hx)
def atI (f : Int → Int) (L ls : List Int) (m : Int) : Int := dotL (stepsL L ls (ls.map f)) (idxL (L.map f) m)
theorem at_in {f : Int → Int} {L ls : List Int} (hn : L.Nodup) (hl : ls.Nodup) (hs : ∀ l ∈ ls, l ∈ L) (hf : ∀ x ∈ L, 1 ≤ f x ∧ f x ≤ 8) (m : Int) : 0 ≤ atI f L ls m ∧ atI f L ls m < prodI (ls.map f) := by
  have hd : ∀ d ∈ L.map f, 1 ≤ d := fun d hd => (map_dim hf (fun _ h => h) d hd).1; have hd2 : ∀ d ∈ ls.map f, 1 ≤ d := fun d hd => (map_dim hf hs d hd).1; have hi := idxL_in hd m; have ho := offL_in (ds := ls.map f) (is := idxAt L (idxL (L.map f) m) ls) hd2 ⟨by simp [idxAt], fun j hj => by
    have hj' : j < ls.length := by simpa using hj
    have hm := hs _ (mem_getD hj'); have hg := findI_get hm; have := hi.2 (findI L (ls.getD j 0)).toNat (by simpa using hg.1); rw [map_getD hg.1, hg.2] at this; rw [idxAt, map_getD hj', map_getD hj']; exact this⟩
  have e : atI f L ls m = offL (ls.map f) (idxAt L (idxL (L.map f) m) ls) := by
    unfold atI dotL; rw [stepsL_len]; exact dot_off hn (by simp) hl hs
  omega
def AllR (k p n P : Int) (xs : List Int) : Prop := (xs.length : Int) = P * widthI k n ∧ ∀ a ∈ xs, 0 ≤ a ∧ a ≤ topI k p n
theorem mul_room {P w i : Int} (hw : 0 ≤ w) (h0 : 0 ≤ i) (h1 : i < P) : 0 ≤ i * w ∧ i * w + w ≤ P * w := by
  have h2 := Int.mul_le_mul_of_nonneg_right (show i + 1 ≤ P by omega) hw; rw [Int.add_mul, Int.one_mul] at h2; exact ⟨Int.mul_nonneg h0 hw, h2⟩
theorem AllR.el {k p n P : Int} {xs : List Int} (h : AllR k p n P xs) (hr : ringL k p n) {i : Int} (h0 : 0 ≤ i) (h1 : i < P) : InR k p n (elt xs (widthI k n) i) := by
  have hw := width_range hr; have hm := mul_room (show 0 ≤ widthI k n by omega) h0 h1; have hl := h.1; refine ⟨?_, fun a ha => h.2 a (elt_mem ha)⟩; simp only [elt, List.length_take, List.length_drop]
  omega
theorem AllR.put {k p n P : Int} {xs ys : List Int} (h : AllR k p n P xs) (hr : ringL k p n) {i : Int} (h0 : 0 ≤ i) (h1 : i < P) (hy : InR k p n ys) : AllR k p n P (putL xs (i * widthI k n).toNat ys) := by
  have hw := width_range hr; have hm := mul_room (show 0 ≤ widthI k n by omega) h0 h1; have hl := h.1; have hyl := hy.1; refine ⟨by rw [putL_len (by omega)]; exact hl, fun a ha => ?_⟩; simp only [putL, List.mem_append] at ha
  rcases ha with (ha | ha) | ha
  · exact h.2 a (List.mem_of_mem_take ha)
  · exact hy.2 a ha
  · exact h.2 a (List.mem_of_mem_drop ha)
theorem flat_rep_len (z : List Int) : ∀ m : Nat, ((List.replicate m z).flatten).length = m * z.length
  | 0 => by simp
  | m + 1 => by rw [List.replicate_succ, List.flatten_cons, List.length_append, flat_rep_len z m, Nat.add_mul, Nat.one_mul]; omega
theorem zeroL_in {k p n : Int} (h : ringL k p n) : InR k p n (zeroL k p n) := by
  have ht := top_range h; refine ⟨zeroL_len k p n, fun a ha => ?_⟩
  unfold zeroL at ha
  split at ha
  · rename_i h4
    have := top_cap h (.inr (.inl h4))
    simp at ha; omega
  · have := List.eq_of_mem_replicate ha; omega
theorem AllR.zero {k p n P : Int} (hr : ringL k p n) (hP : 0 ≤ P) : AllR k p n P (List.replicate P.toNat (zeroL k p n)).flatten := by
  have hw := width_range hr; have hz := zeroL_in hr; refine ⟨?_, fun a ha => ?_⟩
  · rw [flat_rep_len, hz.1, Int.natCast_mul]; rw [show ((P.toNat : Nat) : Int) = P by omega, show (((widthI k n).toNat : Nat) : Int) = widthI k n by omega]
  · obtain ⟨l, hl, ha⟩ := List.mem_flatten.1 ha; rw [List.eq_of_mem_replicate hl] at ha; exact hz.2 a ha
noncomputable def pairX (k p n : Int) (f : Int → Int) (t u : Ten) (K : List Int) : Nat → List Int
  | 0 => (List.replicate (prodI (K.map f)).toNat (zeroL k p n)).flatten
  | m + 1 => putL (pairX k p n f t u K m) (atI f (joinI t.l u.l) K m * widthI k n).toNat
      (addL k p (elt (pairX k p n f t u K m) (widthI k n) (atI f (joinI t.l u.l) K m))
        (mulL k p n (elt t.x (widthI k n) (atI f (joinI t.l u.l) t.l m)) (elt u.x (widthI k n) (atI f (joinI t.l u.l) u.l m))))
noncomputable def pairT (k p n : Int) (f : Int → Int) (t u : Ten) (K : List Int) : Ten := ⟨K, K.map f, pairX k p n f t u K (prodI ((joinI t.l u.l).map f)).toNat⟩
structure KeepOK (t u : Ten) (f : Int → Int) (K : List Int) : Prop where
  sub : ∀ l ∈ K, l ∈ joinI t.l u.l
  nd : K.Nodup
  small : prodI (K.map f) ≤ 4096
section
variable {k p n : Int} {t u : Ten} {f : Int → Int} {K : List Int} (h : PairOK k p n t u f) (hk : KeepOK t u f K)
include h hk
theorem PairOK.at_k (m : Int) : 0 ≤ atI f (joinI t.l u.l) K m ∧ atI f (joinI t.l u.l) K m < prodI (K.map f) := at_in h.nd hk.nd hk.sub h.dim m
theorem PairOK.pos_k : 1 ≤ prodI (K.map f) := prodI_one fun d hd => (map_dim h.dim hk.sub d hd).1
omit hk in
theorem PairOK.at_t (m : Int) : 0 ≤ atI f (joinI t.l u.l) t.l m ∧ atI f (joinI t.l u.l) t.l m < prodI t.d := by
  have := at_in h.nd (axes_nodup (ten_axes h.tt)) (fun l hl => mem_joinI.2 (.inl hl)) h.dim m
  rwa [← h.ht] at this
omit hk in
theorem PairOK.at_u (m : Int) : 0 ≤ atI f (joinI t.l u.l) u.l m ∧ atI f (joinI t.l u.l) u.l m < prodI u.d := by
  have := at_in h.nd (axes_nodup (ten_axes h.uu)) (fun l hl => mem_joinI.2 (.inr hl)) h.dim m
  rwa [← h.hu] at this
omit hk in
theorem PairOK.el_t (m : Int) : InR k p n (elt t.x (widthI k n) (atI f (joinI t.l u.l) t.l m)) := elt_inR h.tt (h.at_t m).1 (h.at_t m).2
omit hk in
theorem PairOK.el_u (m : Int) : InR k p n (elt u.x (widthI k n) (atI f (joinI t.l u.l) u.l m)) := elt_inR h.uu (h.at_u m).1 (h.at_u m).2
theorem PairOK.all : ∀ m : Nat, AllR k p n (prodI (K.map f)) (pairX k p n f t u K m)
  | 0 => AllR.zero h.tt.1 (by have := h.pos_k hk; omega)
  | m + 1 => (PairOK.all m).put h.tt.1 (h.at_k hk m).1 (h.at_k hk m).2 (addL_in h.tt.1 ((PairOK.all m).el h.tt.1 (h.at_k hk m).1 (h.at_k hk m).2) (mulL_in h.tt.1 (h.el_t m) (h.el_u m)))
theorem PairOK.small (m : Nat) : (pairX k p n f t u K m).length ≤ 24576 := by
  have hw := width_range h.tt.1; have := (h.all hk m).1; have h3 : prodI (K.map f) * widthI k n ≤ 4096 * 6 := Int.mul_le_mul hk.small hw.2 (by omega) (by omega)
  omega
theorem PairOK.fits (m : Nat) : atI f (joinI t.l u.l) K m * widthI k n + widthI k n ≤ (pairX k p n f t u K m).length := by
  have hw := width_range h.tt.1; have := (h.all hk m).1; have := (mul_room (show 0 ≤ widthI k n by omega) (h.at_k hk m).1 (h.at_k hk m).2).2
  omega
end
end Go.Proofs.Ytmddmahaikineaa
namespace Go.Proofs.Ytmddmahaikineaa
set_option maxRecDepth 100000
open Go.RowKit
def keepL (t u : Ten) (ks : List Int) : List Int := (joinI t.l u.l).filter fun x => decide (x ∈ ks)
def pairP (k p n : Int) (t u : Ten) (ks : List Int) : Prop := tensorL k p n t.l t.d t.x ∧ tensorL k p n u.l u.d u.x ∧ ¬ mism t u ∧ prodI (joinD t u) ≤ 65536 ∧ 0 ≤ sizeI (keepL t u ks) ((keepL t u ks).map (dimJ t u))
open Classical in
noncomputable def pairR (k p n : Int) (t u : Ten) (ks : List Int) : Ten := if pairP k p n t u ks then pairT k p n (dimJ t u) t u (keepL t u ks) else ⟨[], [], []⟩
theorem pairP.dims {k p n : Int} {t u : Ten} (h1 : tensorL k p n t.l t.d t.x) (h2 : tensorL k p n u.l u.d u.x) (h3 : ¬ mism t u) : t.d = t.l.map (dimJ t u) ∧ u.d = u.l.map (dimJ t u) ∧ joinD t u = (joinI t.l u.l).map (dimJ t u) := by
  have e1 := dimJ_l (u := u) (axes_nodup (ten_axes h1)) (ten_axes h1).2.1; have e2 := dimJ_r (axes_nodup (ten_axes h2)) (ten_axes h2).2.1 h3; exact ⟨e1, e2, joinD_map e1 e2⟩
theorem pair_ok {k p n : Int} {t u : Ten} (h1 : tensorL k p n t.l t.d t.x) (h2 : tensorL k p n u.l u.d u.x) (h3 : ¬ mism t u) (h4 : prodI (joinD t u) ≤ 65536) : PairOK k p n t u (dimJ t u) := by
  have e := pairP.dims h1 h2 h3; exact ⟨h1, h2, e.1, e.2.1, by rw [← e.2.2]; exact h4⟩
theorem keep_ok {k p n : Int} {t u : Ten} {ks : List Int} (ok : PairOK k p n t u (dimJ t u)) (h : 0 ≤ sizeI (keepL t u ks) ((keepL t u ks).map (dimJ t u))) : KeepOK t u (dimJ t u) (keepL t u ks) :=
  ⟨fun _ hl => (List.mem_filter.1 hl).1, List.Pairwise.filter _ ok.nd, (sizeI_ge.1 h).2⟩
end Go.Proofs.Ytmddmahaikineaa
namespace Go.Proofs.Ytmddmahaikineaa
set_option maxRecDepth 100000
open Go.RowKit
abbrev noTen : Ten := ⟨[], [], []⟩
theorem dimJ_f {t u : Ten} {f : Int → Int} (ht : t.d = t.l.map f) (hu : u.d = u.l.map f) {x : Int} (hx : x ∈ joinI t.l u.l) : dimJ t u x = f x := by
  unfold dimJ
  by_cases h : x ∈ t.l
  · rw [if_pos h, ht, map_getD (findI_get h).1, (findI_get h).2]
  · have h2 := (mem_joinI.1 hx).resolve_left h; rw [if_neg h, hu, map_getD (findI_get h2).1, (findI_get h2).2]
theorem keep_map {t u : Ten} {f : Int → Int} (ht : t.d = t.l.map f) (hu : u.d = u.l.map f) (ks : List Int) : (keepL t u ks).map (dimJ t u) = (keepL t u ks).map f :=
  List.map_congr_left fun _ hx => dimJ_f ht hu (List.mem_filter.1 hx).1
theorem pair_ten {k p n : Int} {t u : Ten} {ks : List Int} (h : pairP k p n t u ks) : tensorL k p n (pairR k p n t u ks).l (pairR k p n t u ks).d (pairR k p n t u ks).x ∧ (pairR k p n t u ks).l = keepL t u ks ∧ (pairR k p n t u ks).d = (keepL t u ks).map (dimJ t u) := by
  have ok := pair_ok h.1 h.2.1 h.2.2.1 h.2.2.2.1; have hk := keep_ok ok h.2.2.2.2; have ha := ok.all hk (prodI ((joinI t.l u.l).map (dimJ t u))).toNat; have hs := sizeI_ge.1 h.2.2.2.2; rw [pairR, if_pos h]; refine ⟨⟨h.1.1, h.2.2.2.2, ?_, ha.2⟩, rfl, rfl⟩
  show ((pairX k p n (dimJ t u) t u (keepL t u ks) _).length : Int) = sizeI (keepL t u ks) ((keepL t u ks).map (dimJ t u)) * widthI k n
  rw [sizeI_yes hs.1 hs.2]; exact ha.1
theorem keepL_self {t u : Ten} {q : Int → Bool} : keepL t u ((joinI t.l u.l).filter q) = (joinI t.l u.l).filter q := by
  unfold keepL
  refine List.filter_congr fun x hx => ?_; rw [Bool.eq_iff_iff, decide_eq_true_eq, List.mem_filter]; exact ⟨fun h => h.2, fun h => ⟨hx, h⟩⟩
def stpAt (ss : List Stp) (i : Nat) : Stp := ss.getD i ⟨0, 0⟩
theorem stpAt_of {ss : List Stp} {i : Nat} {x : Stp} (h : ss[i]? = some x) : stpAt ss i = x := by simp [stpAt, List.getD, h]
noncomputable def runS (ts : List Ten) (op : List Int) (ss : List Stp) (i : Nat) : Sh := shTo op (sh0 ts) (ss.take i)
noncomputable def runK (ts : List Ten) (op : List Int) (ss : List Stp) (i : Nat) : List Int := (runS ts op ss i).res op (stpAt ss i).a.toNat (stpAt ss i).b.toNat
noncomputable def runTo (k p n : Int) (ts : List Ten) (op : List Int) (ss : List Stp) : Nat → List Ten
  | 0 => ts
  | i + 1 => runTo k p n ts op ss i ++ [pairR k p n ((runTo k p n ts op ss i).getD (stpAt ss i).a.toNat noTen) ((runTo k p n ts op ss i).getD (stpAt ss i).b.toNat noTen) (runK ts op ss i)]
noncomputable def runA (k p n : Int) (ts : List Ten) (op : List Int) (ss : List Stp) (i : Nat) : Ten := (runTo k p n ts op ss i).getD (stpAt ss i).a.toNat noTen
noncomputable def runB (k p n : Int) (ts : List Ten) (op : List Int) (ss : List Stp) (i : Nat) : Ten := (runTo k p n ts op ss i).getD (stpAt ss i).b.toNat noTen
def runFit (k p n : Int) (ts : List Ten) (op : List Int) (ss : List Stp) (i : Nat) : Prop := pairP k p n (runA k p n ts op ss i) (runB k p n ts op ss i) (runK ts op ss i)
structure RunOK (k p n : Int) (ts : List Ten) (op : List Int) (ss : List Stp) (i : Nat) : Prop where
  len : (runTo k p n ts op ss i).length = ts.length + i
  ten : ∀ (j : Nat) (t : Ten), (runTo k p n ts op ss i)[j]? = some t → tensorL k p n t.l t.d t.x ∧ t.l = (runS ts op ss i).lab j ∧ t.d = t.l.map (dimOf ts)
section
variable {k p n : Int} {ts : List Ten} {op : List Int} {ss : List Stp}
theorem runTo_step (i : Nat) : runTo k p n ts op ss (i + 1) = runTo k p n ts op ss i ++ [pairR k p n (runA k p n ts op ss i) (runB k p n ts op ss i) (runK ts op ss i)] := rfl
theorem RunOK.get {i : Nat} (r : RunOK k p n ts op ss i) {j : Nat} (hj : j < ts.length + i) : tensorL k p n ((runTo k p n ts op ss i).getD j noTen).l ((runTo k p n ts op ss i).getD j noTen).d ((runTo k p n ts op ss i).getD j noTen).x ∧
    ((runTo k p n ts op ss i).getD j noTen).l = (runS ts op ss i).lab j ∧ ((runTo k p n ts op ss i).getD j noTen).d = ((runTo k p n ts op ss i).getD j noTen).l.map (dimOf ts) := by
  have hlt : j < (runTo k p n ts op ss i).length := by rw [r.len]; exact hj
  have h := r.ten j _ (List.getElem?_eq_getElem hlt); have e2 : (runTo k p n ts op ss i).getD j noTen = (runTo k p n ts op ss i)[j] := by simp [List.getD, List.getElem?_eq_getElem hlt]
  rw [e2]; exact h
theorem run_step (h : orderL k p n ts op ss) {i : Nat} (hi : i < ss.length) : stepOk (runS ts op ss i) (stpAt ss i) ∧ runS ts op ss (i + 1) = (runS ts op ss i).step op (stpAt ss i).a.toNat (stpAt ss i).b.toNat ∧ (runS ts op ss i).all.length = ts.length + i := by
  have hx : ss[i]? = some ss[i] := List.getElem?_eq_getElem hi; refine ⟨?_, ?_, ?_⟩
  · rw [stpAt_of hx]; exact h.2.2 i hi _ hx
  · rw [stpAt_of hx]; exact shTo_step hx
  · rw [runS, shTo_all, show (sh0 ts).all.length = ts.length by simp [sh0], List.length_take]; omega
theorem RunOK.two {i : Nat} (r : RunOK k p n ts op ss i) (h : orderL k p n ts op ss) (hi : i < ss.length) :
    (tensorL k p n (runA k p n ts op ss i).l (runA k p n ts op ss i).d (runA k p n ts op ss i).x ∧ (runA k p n ts op ss i).l = (runS ts op ss i).lab (stpAt ss i).a.toNat ∧ (runA k p n ts op ss i).d = (runA k p n ts op ss i).l.map (dimOf ts)) ∧
    (tensorL k p n (runB k p n ts op ss i).l (runB k p n ts op ss i).d (runB k p n ts op ss i).x ∧ (runB k p n ts op ss i).l = (runS ts op ss i).lab (stpAt ss i).b.toNat ∧ (runB k p n ts op ss i).d = (runB k p n ts op ss i).l.map (dimOf ts)) := by
  obtain ⟨⟨⟨a0, a1, _⟩, ⟨b0, b1, _⟩, _⟩, _, hl⟩ := run_step h hi; exact ⟨r.get (by omega), r.get (by omega)⟩
theorem RunOK.kept {i : Nat} (r : RunOK k p n ts op ss i) (h : orderL k p n ts op ss) (hi : i < ss.length) : keepL (runA k p n ts op ss i) (runB k p n ts op ss i) (runK ts op ss i) = runK ts op ss i := by
  obtain ⟨⟨_, la, _⟩, ⟨_, lb, _⟩⟩ := r.two h hi; have e : runK ts op ss i = (joinI (runA k p n ts op ss i).l (runB k p n ts op ss i).l).filter fun x => @decide ((runS ts op ss i).kept op (stpAt ss i).a.toNat (stpAt ss i).b.toNat x) (Classical.propDecidable _) := by rw [la, lb]; rfl
  rw [e]; exact keepL_self
theorem RunOK.step {i : Nat} (r : RunOK k p n ts op ss i) (h : orderL k p n ts op ss) (hi : i < ss.length) (hf : runFit k p n ts op ss i) : RunOK k p n ts op ss (i + 1) := by
  obtain ⟨hst, hs1, hl⟩ := run_step h hi; obtain ⟨⟨ta, la, da⟩, ⟨tb, lb, db⟩⟩ := r.two h hi; have hk := r.kept h hi; obtain ⟨p1, p2, p3⟩ := pair_ten hf; rw [keep_map da db, hk] at p3; rw [hk] at p2; refine ⟨by rw [runTo_step, List.length_append, r.len]; simp; omega, fun j t hj => ?_⟩; rw [runTo_step] at hj
  rcases Nat.lt_or_ge j (runTo k p n ts op ss i).length with hlt | hge
  · rw [List.getElem?_append_left hlt] at hj; have := r.ten j t hj; rw [hs1, step_lab (by rw [hl, ← r.len]; exact hlt)]; exact this
  · rw [List.getElem?_append_right hge] at hj; have e0 : j - (runTo k p n ts op ss i).length = 0 := by
      rcases Nat.eq_zero_or_pos (j - (runTo k p n ts op ss i).length) with h0 | h0
      · exact h0
      · rw [List.getElem?_eq_none (by simp; omega)] at hj; cases hj
    rw [e0] at hj
    simp at hj
    subst hj; refine ⟨p1, ?_, ?_⟩
    · rw [p2, hs1, show j = (runS ts op ss i).all.length by rw [hl, ← r.len]; omega, step_lab_new]; rfl
    · rw [p2, p3]
theorem dimOf_mem {ts : List Ten} {x : Int} (h : dimOf ts x ≠ 0) : ∃ t ∈ ts, x ∈ t.l := by
  induction ts with
  | nil => simp [dimOf] at h
  | cons t ts ih =>
    rw [dimOf] at h
    by_cases hx : x ∈ t.l
    · exact ⟨t, by simp, hx⟩
    · rw [if_neg hx] at h; obtain ⟨u, hu, hxu⟩ := ih h; exact ⟨u, by simp [hu], hxu⟩
end
end Go.Proofs.Ytmddmahaikineaa
namespace Go.Proofs.Ytmddmahaikineaa
set_option maxRecDepth 100000
open Go.RowKit
def padL (l : List Int) (N : Nat) : List Int := l ++ List.replicate (N - l.length) 0
def curL (l : List Int) (c : Int) (N : Nat) : List Int := l ++ c :: List.replicate (N - l.length - 1) 0
section
variable {l : List Int} {c : Int} {N : Nat}
theorem padL_nil (N : Nat) : padL [] N = List.replicate N 0 := by simp [padL]
theorem padL_cur (h : l.length < N) : padL l N = curL l 0 N := by
  unfold padL curL
  rw [show N - l.length = (N - l.length - 1) + 1 by omega, List.replicate_succ]
  simp
theorem padL_full (h : l.length = N) : padL l N = l := by simp [padL, h]
theorem padL_snoc (h : l.length < N) : padL (l ++ [c]) N = curL l c N := by
  unfold padL curL
  rw [List.length_append, List.length_singleton, List.append_assoc, show N - (l.length + 1) = N - l.length - 1 by omega]
  rfl
theorem padL_len (h : l.length ≤ N) : (padL l N).length = N := by simp [padL]; omega
theorem curL_len (h : l.length < N) : (curL l c N).length = N := by simp [curL]; omega
theorem curL_set (c' : Int) {s : Nat} (h : s = l.length) : (curL l c N).set s c' = curL l c' N := by
  subst h
  unfold curL
  rw [List.set_append_right _ _ (Nat.le_refl _), Nat.sub_self]
  rfl
theorem curL_low {a : Nat} (h : a < l.length) : (curL l c N).getD a 0 = l.getD a 0 := by simp [curL, List.getD, List.getElem?_append_left h]
theorem curL_at {s : Nat} (h : s = l.length) : (curL l c N).getD s 0 = c := by subst h; simp [curL, List.getD]
end
section
variable {ts : List Ten} {op : List Int}
theorem sumS_in {C : List Int} {s a : Nat} (hC : ∀ i, 0 ≤ C.getD i 0 ∧ C.getD i 0 ≤ 1000000000) (hp : 0 ≤ prodI ((joinI (labS ts op (a : Int)) (labS ts op ((s - a : Nat) : Int))).map (dimOf ts))) : 0 ≤ sumS ts op C s a ∧ sumS ts op C s a ≤ 1000000000 := by
  have h1 := hC a; have h2 := hC (s - a)
  unfold sumS
  omega
theorem bst_in {C : List Int} {s : Nat} (h : ∀ a, 0 ≤ sumS ts op C s a ∧ sumS ts op C s a ≤ 1000000000) : ∀ k, 0 ≤ (bst ts op C s k).2 ∧ (bst ts op C s k).2 ≤ 1000000000
  | 0 => by simp [bst]
  | k + 1 => by
    rw [bst]
    split
    · exact h k
    · exact bst_in h k
theorem tab_in (hp : ∀ z y : Int, 0 ≤ prodI ((joinI (labS ts op z) (labS ts op y)).map (dimOf ts))) : ∀ k, ∀ i, 0 ≤ (tab ts op k).1.getD i 0 ∧ (tab ts op k).1.getD i 0 ≤ 1000000000
  | 0, i => by simp [tab, List.getD]
  | k + 1, i => by
    have ih := tab_in hp k; have hl := tab_len ts op k
    rcases Nat.lt_trichotomy i k with h | h | h
    · have e : (tab ts op (k + 1)).1.getD i 0 = (tab ts op k).1.getD i 0 := by rw [tab]; simp [List.getD, List.getElem?_append_left (show i < (tab ts op k).1.length by omega)]
      rw [e]; exact ih i
    · have e := (tab_get ts op (s := k) (k := k + 1) (by omega)).1; rw [h, e]; exact bst_in (fun a => sumS_in ih (hp _ _)) k
    · have e : (tab ts op (k + 1)).1.getD i 0 = 0 := by
        have := (tab_len ts op (k + 1)).1; simp only [List.getD]; rw [List.getElem?_eq_none (by omega)]; rfl
      rw [e]; omega
theorem isOne_lab {z : Int} {x : Int} (hx : x ∈ labS ts op z) : ∃ t ∈ ts, x ∈ t.l := by
  unfold labS at hx
  by_cases h : isOne ts z = true
  · rw [if_pos h] at hx; have h2 := (of_decide_eq_true h).2; refine ⟨_, List.mem_of_getElem? (List.getElem?_eq_getElem h2), ?_⟩
    simpa [List.getD, h2] using hx
  · rw [if_neg h] at hx; have h1 := (List.mem_filter.1 hx).1; obtain ⟨t, ht, hxt⟩ := dimOf_mem (show dimOf (selT true ts z ts.length) x ≠ 0 by have := (mem_labels.1 h1).2; omega); exact ⟨t, selT_mem (Nat.le_refl _) t ht, hxt⟩
theorem labS_fit {k p n : Int} (hn : netL k p n ts op) {z x : Int} (hx : x ∈ labS ts op z) : (0 ≤ x ∧ x ≤ 99) ∧ 1 ≤ dimOf ts x ∧ dimOf ts x ≤ 8 := by
  obtain ⟨t, ht, hxt⟩ := isOne_lab hx; have hax := net_axes hn t ht; have hg := findI_get hxt; have h1 := hax.2.2 _ hg.1
  unfold axP at h1
  rw [hg.2] at h1; rw [net_dim hn ht hxt]; exact ⟨h1.1, h1.2.1⟩
theorem dimS_map {k p n : Int} (hn : netL k p n ts op) (z : Int) : dimS ts op z = (labS ts op z).map (dimOf ts) := by
  unfold dimS labS
  by_cases h : isOne ts z = true
  · rw [if_pos h, if_pos h]; have h2 := (of_decide_eq_true h).2; have e : ts.getD (oneI z.toNat) ⟨[], [], []⟩ = ts[oneI z.toNat] := by simp [List.getD, h2]
    rw [e]; exact net_dmap hn _ (List.getElem_mem h2)
  · rw [if_neg h, if_neg h]; rfl
theorem joinS_fit {k p n : Int} (hn : netL k p n ts op) (z y : Int) : ∀ x ∈ joinI (labS ts op z) (labS ts op y), (0 ≤ x ∧ x ≤ 99) ∧ 1 ≤ dimOf ts x ∧ dimOf ts x ≤ 8 := fun x hx => (mem_joinI.1 hx).elim (labS_fit hn) (labS_fit hn)
theorem joinS_prod {k p n : Int} (hn : netL k p n ts op) (z y : Int) : dimsIn ((joinI (labS ts op z) (labS ts op y)).map (dimOf ts)) ∧ 1 ≤ prodI ((joinI (labS ts op z) (labS ts op y)).map (dimOf ts)) := by
  have hd := map_dims (f := dimOf ts) (l := joinI (labS ts op z) (labS ts op y)) fun x hx => (joinS_fit hn z y x hx).2; exact ⟨hd, prodI_one fun d h => (dims_mem hd d h).1⟩
theorem labS_nodup {k p n : Int} (hn : netL k p n ts op) (z : Int) : (labS ts op z).Nodup ∧ (labS ts op z).length ≤ 100 := by
  have h : (labS ts op z).Nodup := by
    unfold labS
    by_cases h : isOne ts z = true
    · rw [if_pos h]; have h2 := (of_decide_eq_true h).2; have e : ts.getD (oneI z.toNat) ⟨[], [], []⟩ = ts[oneI z.toNat] := by simp [List.getD, h2]
      rw [e]; exact axes_nodup (net_axes hn _ (List.getElem_mem h2))
    · rw [if_neg h]; exact (labels_nodup _ 100).sublist List.filter_sublist
  exact ⟨h, few_labels h fun x hx => (labS_fit hn hx).1⟩
end
def shpL (ts : List Ten) (op : List Int) (s : Nat) : List Ten := (List.range s).map fun (z : Nat) => ⟨labS ts op (z : Int), dimS ts op (z : Int), []⟩
theorem shpL_len (ts : List Ten) (op : List Int) (s : Nat) : (shpL ts op s).length = s := by simp [shpL]
theorem shpL_step (ts : List Ten) (op : List Int) (s : Nat) : shpL ts op (s + 1) = shpL ts op s ++ [⟨labS ts op (s : Int), dimS ts op (s : Int), []⟩] := by
  unfold shpL
  rw [List.range_succ, List.map_append]
  rfl
theorem shpL_at {ts : List Ten} {op : List Int} {s i : Nat} {t : Ten} (h : (shpL ts op s)[i]? = some t) : t = ⟨labS ts op (i : Int), dimS ts op (i : Int), []⟩ ∧ i < s := by
  have hi := (List.getElem?_eq_some_iff.1 h).1; rw [shpL_len] at hi
  unfold shpL at h
  rw [List.getElem?_map, List.getElem?_range hi] at h; simp only [Option.map_some, Option.some.injEq] at h; exact ⟨h.symm, hi⟩
/-- The reference's cost of a set while it is looked for. -/
def cCo (b : Nat × Int) : Int := if b.1 = 0 then 1000000001 else b.2
section
variable {ts : List Ten} {op : List Int} {C : List Int} {s : Nat}
theorem bst_single (hs : s < 128) (h : lowN s = s) : (bst ts op C s s).1 = 0 ∧ (bst ts op C s s).2 = 0 := by
  have hb := bst_ok (ts := ts) (op := op) (C := C) (s := s) s; have h1 : (bst ts op C s s).1 = 0 := Classical.byContradiction fun hn => by
    have h2 := hb.2 hn; have h3 := (part_single ⟨s, hs⟩ (show 0 < s by omega)).1 h ⟨(bst ts op C s s).1, by omega⟩ (show 0 < (bst ts op C s s).1 by omega) h2.1; rw [h2.2] at h3
    cases h3
  exact ⟨h1, (hb.1 h1).2⟩
theorem bst_some (hs : s < 128) (h0 : 0 < s) (h : lowN s ≠ s) : (bst ts op C s s).1 ≠ 0 := fun h1 => by
  have hb := bst_ok (ts := ts) (op := op) (C := C) (s := s) s; have hp := part_low ⟨s, hs⟩ h0 h; have hl := (low_all ⟨s, hs⟩).2.1; have := (hb.1 h1).1 (lowN s) (by have : lowN s ≤ s := hl; omega); rw [hp] at this
  cases this
theorem bst_one : bst ts op C s 1 = (0, 0) := by rw [bst, part_zero]; simp [bst]
theorem low_pos (hs : s < 128) : landW (s : Int) (0 - (s : Int)) = (lowN s : Int) ∧ lowN s ≤ s := ⟨(low_all ⟨s, hs⟩).1, (low_all ⟨s, hs⟩).2.1⟩
theorem tab_one (hs : s < 128) (h : lowN s = s) {N : Nat} (hN : s < N) : padL (tab ts op (s + 1)).1 N = padL (tab ts op s).1 N ∧ padL (tab ts op (s + 1)).2 N = padL (tab ts op s).2 N := by
  have hl := tab_len ts op s; have hb := bst_single (ts := ts) (op := op) (C := (tab ts op s).1) hs h; rw [tab]; dsimp only; rw [hb.1, hb.2, padL_snoc (by omega), padL_snoc (by omega), padL_cur (by omega), padL_cur (by omega)]; exact ⟨rfl, rfl⟩
theorem tab_two {N : Nat} (hN : s < N) : padL (tab ts op (s + 1)).1 N = curL (tab ts op s).1 (bst ts op (tab ts op s).1 s s).2 N ∧ padL (tab ts op (s + 1)).2 N = curL (tab ts op s).2 ((bst ts op (tab ts op s).1 s s).1 : Int) N := by
  have hl := tab_len ts op s; rw [tab]; dsimp only; rw [padL_snoc (by omega), padL_snoc (by omega)]; exact ⟨rfl, rfl⟩
end
theorem TensL.at1 {us : List Ten} {cs : List Value} {h : PH} (hT : TensL us cs h) : ∀ i, i < us.length → ∃ t a b c, us[i]? = some t ∧ (cs.drop (i * 3)).take 3 = [a, b, c] ∧ IntsR t.l a h ∧ IntsR t.d b h ∧ IntsR t.x c h := fun i hi => by
  have ht := List.getElem?_eq_getElem (l := us) (i := i) (by omega); obtain ⟨a, b, c, e, r1, r2, r3⟩ := hT.2 i _ ht; exact ⟨_, a, b, c, ht, e, r1, r2, r3⟩
end Go.Proofs.Ytmddmahaikineaa
namespace Go.Proofs.Ytmddmahaikineaa
set_option maxRecDepth 100000
open Go.RowKit
section
variable {P : Program} {n : Nat} {w0 : World} {K : Env} {HS : List PH} {d : Option Tmp} {ty : TypeId} {ps : String} {af : Array Edge} {g : Option (Nat × Bool)}
theorem v_andL {t t' : TypeId} {x y : Operand} {a b c : Int} (hx : ev K x = some (.int .i64 a)) (hy : ev K y = some (.int .i64 b)) (e0 : landW a b = c) (hc : 0 ≤ c ∧ c ≤ 9223372036854775807) : StepV P n w0 K HS ⟨d, .binOp .and t x y t', ty, ps, af, g⟩ (.int .i64 c) :=
  fun ac w e _ => by
    subst e0; have hw : IntKind.i64.wrap (landW a b) = landW a b := IntWalk.i64_in _ (by omega); have h5 : (Op.intBits .and .i64 a b).run P w = .ok (.int .i64 (landW a b)) w := by
      show Result.ok (Value.int .i64 (IntKind.i64.wrap (landW a b))) w = _
      rw [hw]
    simp only [execOp, e.ev hx, e.ev hy, eqGuard, binOp, Sem.run_bind]; rw [show (if (!(match BinOp.and with | .eql => true | .neq => true | _ => false)) = true then (pure () : Sem Unit) else pure ()) = pure () by rfl]; rw [Sem.run_pure, Result.andThen_ok, if_neg (by simp), h5, Result.andThen_ok]
    rfl
end
abbrev lowI (z : Nat) : Int := ((lowN z : Nat) : Int)
def PlanR (ts : List Ten) (op : List Int) (u : Value) (h : PH) : Prop := ∃ vC vF gC gF, u = .tuple [vC, vF].toArray ∧ IntsO (tab ts op (2 ^ ts.length)).1 vC gC ∧ IntsO (tab ts op (2 ^ ts.length)).2 vF gF ∧ Made h [gC, gF]
set_option maxHeartbeats 4000000 in
theorem ct_s_l20Plan (k p n : Int) (ts : List Ten) (op : List Int) (vt vo : Value) (w : World) (r : TensR ts vt (hp w)) (r' : IntsR op vo (hp w)) (hs : op.length ≤ 1048576) (hnet : netL k p n ts op) (h7 : ts.length ≤ 7) :
    Calls Try.prog 43 [netV k p n vt vo].toArray w (Ret w emp (PlanR ts op)) := by
  have hpf := pow_few h7; have ePi : (2 : Int) ^ ((ts.length : Int)).toNat = ((2 ^ ts.length : Nat) : Int) := by rw [Int.toNat_natCast, ← pow_cast]
  obtain ⟨N, hN⟩ : ∃ N : Nat, N = 2 ^ ts.length := ⟨_, rfl⟩
  rw [← hN] at hpf ePi; have haok : ∀ t ∈ ts, AxOK t := fun t ht => axes_ok (net_axes hnet t ht); refine calls_in Try.func43 rfl Try.ntmps43 rfl (Sat.start w) ?_; have hle0 := r.le; obtain ⟨cs_r, rr_r, hc_r⟩ := r.at; have hle1 := r'.le; refine wp_sc (wp_sq ?_); refine sq_x rfl (x_box rfl rfl) rfl ?_; rintro _ _ ⟨b1, rfl, rfl⟩; refine sq_v rfl (v_assign rfl) rfl (sq_v rfl (v_assign rfl) rfl (sq_end (qs_n (wp_sc (wp_sq (sq_v rfl (v_fieldAddr fd_35_1 ty_33 (by decide) rfl) rfl (sq_v rfl (v_loadB 0 ty_33 rfl rfl rfl) rfl (sq_v rfl (v_len Try.underlying33 rfl r.sl) rfl (sq_v rfl (v_assign rfl) rfl (sq_end (qs_n (wp_sc (wp_sq (sq_v rfl (v_move rfl) rfl ?_)))))))))))))); refine sq_v rfl (v_shl rfl rfl (by omega) (by omega) (by unfold I64; omega)) rfl ?_; refine sq_x rfl (x_makeI Try.underlying25 ty_3 rfl rfl (by first | omega | (simp; omega) | (simp only [List.length_append, List.length_cons, List.length_nil]; omega) | (rw [List.length_set]; omega)) (by first | omega | (simp; omega) | (simp only [List.length_append, List.length_cons, List.length_nil]; omega) | (rw [List.length_set]; omega)) (by first | omega | (simp; omega) | (simp only [List.length_append, List.length_cons, List.length_nil]; omega) | (rw [List.length_set]; omega))) rfl ?_; intro v20 h20 r20; refine sq_v rfl (v_assign rfl) rfl (sq_end (qs_n (wp_sc (wp_sq (sq_v rfl (v_move rfl) rfl ?_))))); refine sq_v rfl (v_shl rfl rfl (by omega) (by omega) (by unfold I64; omega)) rfl ?_; refine sq_x rfl (x_makeI Try.underlying25 ty_3 rfl rfl (by first | omega | (simp; omega) | (simp only [List.length_append, List.length_cons, List.length_nil]; omega) | (rw [List.length_set]; omega)) (by first | omega | (simp; omega) | (simp only [List.length_append, List.length_cons, List.length_nil]; omega) | (rw [List.length_set]; omega)) (by first | omega | (simp; omega) | (simp only [List.length_append, List.length_cons, List.length_nil]; omega) | (rw [List.length_set]; omega))) rfl ?_; intro v23 h23 r23; refine sq_v rfl (v_assign rfl) rfl (sq_end (qs_n (wp_sc (wp_sq ?_)))); refine sq_x rfl (x_build0 Try.underlying33 ty_108) rfl ?_; intro v24 h24 r24; refine sq_v rfl (v_assign rfl) rfl (sq_end (qs_n (wp_sc (wp_sc (wp_sq (sq_v rfl (v_assign rfl) rfl (sq_end ?_))))))); have eN : (1 * (2 : Int) ^ ((ts.length : Int)).toNat).toNat = N := by omega
  rw [eN] at r20 r23; refine qs_s [PUn emp (hp w), h24, h20, h23, box b1 [num k, num p, num n, vt, vo] 35] (fun _ s => Sat.merge (emp_sat (s.pick (HS' := [hp w, h24, h20, h23, box b1 [num k, num p, num n, vt, vo] 35]) [4, 0, 2, 1, 3] (by decide) rfl))) (qs_n (wp_bl ?_)); refine wp_lp (σ := Nat × Value × PH × (List Value) × PH × PH × PH) (fun z_ => [(1, .pointer (some ⟨b1, 0, none⟩)), (2, .slice none 0 0), (3, .slice none 0 0), (4, num ts.length), (5, v20), (6, v23), (7, z_.2.1), (8, num z_.1)]) (fun z_ => [(PUn z_.2.2.2.2.1 (hp w)), z_.2.2.1, z_.2.2.2.2.2.1, z_.2.2.2.2.2.2, box b1 [num k, num p, num n, vt, vo] 35]) (fun z_ => z_.1 ≤ N ∧ PDj z_.2.2.2.2.1 (hp w) ∧ TensL (shpL ts op z_.1) z_.2.2.2.1 (PUn z_.2.2.2.2.1 (hp w)) ∧ RowO (108) z_.2.2.2.1 z_.1 3 z_.2.1 z_.2.2.1 ∧ IntsO (padL (tab ts op z_.1).1 N) v20 z_.2.2.2.2.2.1 ∧ IntsO (padL (tab ts op z_.1).2 N) v23 z_.2.2.2.2.2.2) (fun z_ => N - z_.1) (0, v24, h24, [], emp, h20, h23) (⟨by (try dsimp only); omega, PDj.emp _, TensL.nil _, r24, by (try dsimp only); rw [show (tab ts op 0).1 = [] from rfl, padL_nil]; exact r20, by (try dsimp only); rw [show (tab ts op 0).2 = [] from rfl, padL_nil]; exact r23⟩) ⟨rfl, rfl, rfl, rfl, rfl, rfl, (by first | rfl | exact ksub rfl (by first | omega | (simp; done) | (simp; omega))), (by first | rfl | exact ksub rfl (by first | omega | (simp; done) | (simp; omega))), trivial⟩ (fun _ s => s) ?_; rintro ⟨z, va, ha, cs, hl, gC, gF⟩ ⟨hi, hdj, hT, qa, qC, qF⟩; dsimp only at hi hdj hT qa qC qF ⊢; have hle_qC := qC.toR.le; have hle_qF := qF.toR.le; have htl := tab_len ts op z; have hpl1 := padL_len (l := (tab ts op z).1) (N := N) (by omega); have hpl2 := padL_len (l := (tab ts op z).2) (N := N) (by omega); refine wp_sc (wp_sc (wp_sq (sq_v rfl (v_move rfl) rfl (sq_v rfl (v_move rfl) rfl ?_)))); refine sq_v rfl (v_shl rfl rfl (by omega) (by omega) (by unfold I64; omega)) rfl ?_; refine sq_v rfl (v_lss rfl rfl) rfl (sq_end (qs_n ?_)); refine wp_cd rfl (fun c28 => ?_) (fun c28 => ?_)
  · refine wp_sk (qs_n (wp_sc (wp_bl (wp_sc (wp_sq (sq_v rfl (v_move rfl) rfl (sq_v rfl (v_loadNB 4 ty_35 rfl rfl rfl rfl) rfl (sq_v rfl (v_move rfl) rfl ?_)))))))); refine sq_x rfl (x_call rfl en_101 (fun w s => ct_s_l20Shape _ _ _ _ _ _ _ _ w _ (s.get 0 rfl) (r.mono (PLe.un_r hdj)) (r'.mono (PLe.un_r hdj)) haok h7 (by first | assumption | omega))) rfl ?_; rintro _ h34 ⟨sa, sb, rfl, sr1, sr2⟩; refine sq_x rfl (x_buildS [.agg [sa, sb, .slice none 0 0].toArray] Try.underlying33 ty_108 (by decide) rfl rfl rfl (by decide) (by decide) (by intro v hv; simp at hv; subst hv; rfl)) rfl ?_; intro v35 h35 (r35 : RowO 108 [sa, sb, .slice none 0 0] 1 3 v35 h35); refine sq_m 3 rfl rfl (m_append 3 0 Try.underlying33 ty_108 rfl rfl (by decide) rfl rfl rfl qa rfl r35.toR (by simp [one_sl, sr1.sl.one, sr2.sl.one]) (by unfold maxLen; omega) (by omega)) rfl ?_; intro v36 h_r36 (r36 : RowO 108 (cs ++ [sa, sb, .slice none 0 0]) (z + 1) 3 v36 h_r36); refine sq_v rfl (v_assign rfl) rfl (sq_end ?_); refine qs_dj 2 1 rfl rfl rfl (fun hdm => ?_); have hd1 : PDj hl h34 := hdm.mono (PLe.un_l _ _); have hd2 : PDj h34 (hp w) := (hdm.mono (PLe.un_r hdj)).symm; have hdj8 : PDj (PUn hl h34) (hp w) := PDj.un hdj hd2; have l1 : PLe (PUn hl (hp w)) (PUn (PUn hl h34) (hp w)) := PUn.mono_l (PLe.un_l _ _) hdj8; have l2 : PLe h34 (PUn (PUn hl h34) (hp w)) := (PLe.un_r hd1).trans (PLe.un_l _ _); have l3 := PUn.le l2 l1; have hT8 : TensL (shpL ts op (z + 1)) (cs ++ [sa, sb, .slice none 0 0]) (PUn (PUn hl h34) (hp w)) := by rw [shpL_step]; exact (hT.mono l1).snoc (sr1.mono l3) (sr2.mono l3) (IntsR.nil _)
    have hzl := low_pos (s := z) (by omega); have hlo : 0 ≤ lowI z ∧ lowI z ≤ (z : Int) := by unfold lowI; omega
    have hsl8 := shpL_len ts op (z + 1); refine qs_s [PUn (PUn hl h34) (hp w), h_r36, gC, gF, box b1 [num k, num p, num n, vt, vo] 35] (fun _ s => Sat.merge (Sat.merge ((Sat.part hdj (s.pick (HS' := [PUn hl (hp w), h34, h_r36, gC, gF, box b1 [num k, num p, num n, vt, vo] 35]) [2, 1, 3, 4, 5, 6] (by decide) rfl)).pick (HS' := [hl, h34, hp w, h_r36, gC, gF, box b1 [num k, num p, num n, vt, vo] 35]) [0, 2, 1, 3, 4, 5, 6] (by decide) rfl))) (qs_n (wp_sc (wp_sq (sq_v rfl (v_move rfl) rfl (sq_v rfl (v_move rfl) rfl ?_))))); refine sq_v rfl (v_neg rfl (by unfold I64; omega)) rfl ?_; refine sq_v rfl (v_andL rfl rfl hzl.1 (by omega)) rfl (sq_v rfl (v_assign rfl) rfl (sq_end (qs_n (wp_sc (wp_sc (wp_sq (sq_v rfl (v_move rfl) rfl (sq_v rfl (v_move rfl) rfl (sq_v rfl (v_eql rfl rfl) rfl (sq_end (qs_n ?_))))))))))); refine wp_cd rfl (fun c43 => ?_) (fun c43 => ?_)
    · refine wp_ex (qs_x (qs_bx (qs_n (wp_sq (sq_v rfl (v_move rfl) rfl ?_))))); refine sq_v rfl (v_add rfl rfl ((by unfold I64; omega))) rfl ?_; refine sq_v rfl (v_assign rfl) rfl (sq_end ?_); exact qs_bk (z + 1, v36, h_r36, cs ++ [sa, sb, .slice none 0 0], PUn hl h34, gC, gF) ⟨by (try dsimp only); omega, hdj8, hT8, r36, by (try dsimp only); rw [(tab_one (by omega) (by omega) (by omega)).1]; exact qC, by (try dsimp only); rw [(tab_one (by omega) (by omega) (by omega)).2]; exact qF⟩ (by simp only; omega) ⟨rfl, rfl, rfl, rfl, rfl, rfl, (by first | rfl | exact ksub rfl (by first | omega | (simp; done) | (simp; omega))), (by first | rfl | exact ksub rfl (by first | omega | (simp; done) | (simp; omega))), trivial⟩ (fun _ s => s)
    · refine wp_sk (qs_n (wp_sc (wp_sq (sq_v rfl (v_move rfl) rfl (sq_v rfl (v_move rfl) rfl ?_))))); refine sq_v rfl (v_idxI Try.underlying25 ty_3 rfl rfl qC.toR (by first | omega | (simp; omega) | (simp only [List.length_append, List.length_cons, List.length_nil]; omega) | (rw [List.length_set]; omega)) (by first | omega | (simp; omega) | (simp only [List.length_append, List.length_cons, List.length_nil]; omega) | (rw [List.length_set]; omega))) rfl ?_; refine sq_m 2 rfl rfl (m_storeI (k := z) 2 ty_3 rfl rfl rfl qC (by first | omega | (simp; omega) | (simp only [List.length_append, List.length_cons, List.length_nil]; omega) | (rw [List.length_set]; omega))) rfl ?_; rintro _ h_q11_3 ⟨rfl, q11_3⟩; refine sq_end (qs_n (wp_sc (wp_sq (sq_v rfl (v_assign rfl) rfl (sq_end (qs_n (wp_bl ?_))))))); refine wp_lp (σ := Nat × PH × PH) (fun z_ => [(1, .pointer (some ⟨b1, 0, none⟩)), (2, .slice none 0 0), (3, .slice none 0 0), (4, num ts.length), (5, v20), (6, v23), (7, v36), (8, num z), (9, num (lowI z)), (10, num z_.1), (25, num z), (26, num ts.length), (31, va), (32, .agg [num k, num p, num n, vt, vo].toArray), (33, num z), (34, .agg [sa, sb, .slice none 0 0].toArray), (35, v35), (36, v36), (37, num z), (38, num z), (39, num (0 - z)), (40, num (lowI z)), (41, num z), (42, num (lowI z)), (43, .bool (decide ((z : Int) = lowI z))), (44, v20), (45, num z)]) (fun z_ => [(PUn (PUn hl h34) (hp w)), h_r36, z_.2.1, z_.2.2, box b1 [num k, num p, num n, vt, vo] 35]) (fun z_ => (1 ≤ z_.1 ∧ z_.1 ≤ z) ∧ IntsO (curL (tab ts op z).1 (cCo (bst ts op (tab ts op z).1 z z_.1)) N) v20 z_.2.1 ∧ IntsO (curL (tab ts op z).2 ((bst ts op (tab ts op z).1 z z_.1).1 : Int) N) v23 z_.2.2) (fun z_ => z - z_.1) (1, h_q11_3, gF) (⟨by (try dsimp only); omega, by (try dsimp only); have q := q11_3; rw [padL_cur (by omega), curL_set 1000000001 (by omega)] at q; rw [bst_one]; exact q, by (try dsimp only); have q := qF; rw [padL_cur (by omega)] at q; rw [bst_one]; exact q⟩) ⟨rfl, rfl, rfl, rfl, rfl, rfl, rfl, rfl, rfl, (by first | rfl | exact ksub rfl (by first | omega | (simp; done) | (simp; omega))), rfl, rfl, rfl, rfl, rfl, rfl, rfl, rfl, rfl, rfl, rfl, rfl, rfl, rfl, rfl, rfl, rfl, trivial⟩ (fun _ s => s) ?_; rintro ⟨a, g1, g2⟩ ⟨ha1, q1, q2⟩; dsimp only at ha1 q1 q2 ⊢; have hle_q1 := q1.toR.le; have hle_q2 := q2.toR.le; have hcl1 := curL_len (l := (tab ts op z).1) (c := cCo (bst ts op (tab ts op z).1 z a)) (N := N) (by omega); have hcl2 := curL_len (l := (tab ts op z).2) (c := ((bst ts op (tab ts op z).1 z a).1 : Int)) (N := N) (by omega); have hbo := bst_ok (ts := ts) (op := op) (C := (tab ts op z).1) (s := z) a; have hCr := tab_in (ts := ts) (op := op) (fun z y => by have := (joinS_prod hnet z y).2; omega) z; have hbi := bst_in (ts := ts) (op := op) (C := (tab ts op z).1) (s := z) (fun a => sumS_in hCr (by have := (joinS_prod hnet (a : Int) ((z - a : Nat) : Int)).2; omega)) a; have hpb : partB z a = true ↔ (a &&& z = a ∧ a &&& lowN z ≠ 0) := by simp [partB]
      have hat := curL_at (l := (tab ts op z).1) (c := cCo (bst ts op (tab ts op z).1 z a)) (N := N) (s := z) (by omega); have e1 : ((((a : Int)).toNat &&& ((z : Int)).toNat : Nat) : Int) = ((a &&& z : Nat) : Int) := by simp only [Int.toNat_natCast]
      have e2 : ((((a : Int)).toNat &&& (lowI z).toNat : Nat) : Int) = ((a &&& lowN z : Nat) : Int) := by simp only [lowI, Int.toNat_natCast]
      have hza : ((z : Int) - (a : Int)).toNat = z - a := by omega
      refine wp_sc (wp_sc (wp_sq (sq_v rfl (v_move rfl) rfl (sq_v rfl (v_move rfl) rfl (sq_v rfl (v_lss rfl rfl) rfl (sq_end (qs_n ?_))))))); refine wp_cd rfl (fun c49 => ?_) (fun c49 => ?_)
      · refine wp_sk (qs_n (wp_sc (wp_bl (wp_sc (wp_sc (wp_sq (sq_v rfl (v_move rfl) rfl (sq_v rfl (v_move rfl) rfl (sq_v rfl (v_and rfl rfl ⟨by omega, by omega⟩ ⟨by omega, by omega⟩) rfl (sq_v rfl (v_move rfl) rfl (sq_v rfl (v_neq rfl rfl) rfl ?_))))))))))); refine sq_bd 56 rfl (fun c56 => ?_) (fun c56 => ?_)
        · refine sq_v rfl (v_move rfl) rfl (sq_s rfl rfl (sq_s rfl rfl (sq_s rfl rfl (sq_s rfl rfl (sq_v rfl (v_pickt rfl rfl) rfl (sq_end (qs_n (wp_ct rfl (wp_ex (qs_x (qs_bx (qs_n (wp_sq (sq_v rfl (v_move rfl) rfl ?_)))))))))))))); refine sq_v rfl (v_add rfl rfl ((by unfold I64; omega))) rfl ?_; refine sq_v rfl (v_assign rfl) rfl (sq_end ?_); exact qs_bk (a + 1, g1, g2) ⟨by (try dsimp only); omega, by (try dsimp only); rw [bst_no (fun hp => absurd (by rw [e1, (hpb.1 hp).1]) c56)]; exact q1, by (try dsimp only); rw [bst_no (fun hp => absurd (by rw [e1, (hpb.1 hp).1]) c56)]; exact q2⟩ (by simp only; omega) ⟨rfl, rfl, rfl, rfl, rfl, rfl, rfl, rfl, rfl, (by first | rfl | exact ksub rfl (by first | omega | (simp; done) | (simp; omega))), rfl, rfl, rfl, rfl, rfl, rfl, rfl, rfl, rfl, rfl, rfl, rfl, rfl, rfl, rfl, rfl, rfl, trivial⟩ (fun _ s => s)
        · refine sq_v rfl (v_move rfl) rfl (sq_v rfl (v_move rfl) rfl (sq_v rfl (v_move rfl) rfl (sq_v rfl (v_and rfl rfl ⟨by omega, by omega⟩ ⟨by omega, by omega⟩) rfl (sq_v rfl (v_eql rfl rfl) rfl (sq_v rfl (v_pickf rfl rfl) rfl (sq_end (qs_n ?_))))))); refine wp_cd rfl (fun c62 => ?_) (fun c62 => ?_)
          · refine wp_ex (qs_x (qs_bx (qs_n (wp_sq (sq_v rfl (v_move rfl) rfl ?_))))); refine sq_v rfl (v_add rfl rfl ((by unfold I64; omega))) rfl ?_; refine sq_v rfl (v_assign rfl) rfl (sq_end ?_); exact qs_bk (a + 1, g1, g2) ⟨by (try dsimp only); omega, by (try dsimp only); rw [bst_no (fun hp => absurd (Int.ofNat_eq_zero.1 (e2.symm.trans c62)) (hpb.1 hp).2)]; exact q1, by (try dsimp only); rw [bst_no (fun hp => absurd (Int.ofNat_eq_zero.1 (e2.symm.trans c62)) (hpb.1 hp).2)]; exact q2⟩ (by simp only; omega) ⟨rfl, rfl, rfl, rfl, rfl, rfl, rfl, rfl, rfl, (by first | rfl | exact ksub rfl (by first | omega | (simp; done) | (simp; omega))), rfl, rfl, rfl, rfl, rfl, rfl, rfl, rfl, rfl, rfl, rfl, rfl, rfl, rfl, rfl, rfl, rfl, trivial⟩ (fun _ s => s)
          · refine wp_sk (qs_n (wp_sc (wp_rj 18 [(0, true), (1, true), (2, true), (3, true), (4, true), (5, true), (6, true), (7, true), (8, true), (9, true), (10, false), (11, true), (12, true), (13, true), (14, true), (15, true), (16, true), (17, true)] mixed_ok (by kernel_rfl) (rj_v rfl rfl (v_move rfl) rfl (rj_v rfl rfl (v_move rfl) rfl ?_))))); obtain ⟨t66, a66, b66, c66, ht66, hcs66, rl66, rd66, rx66⟩ := hT8.at1 (a) (by first | omega | (rw [List.length_set]; omega)); refine rj_v rfl rfl (v_indexAddr Try.underlying33 ty_108 rfl rfl r36.toR (by decide) (by omega) (by omega)) rfl ?_; refine rj_v rfl rfl (v_loadNE 1 ty_108 rfl rfl r36.toR (by have := r36.toR.1; omega) rfl hcs66) rfl ?_; refine rj_v rfl rfl (v_move rfl) rfl (rj_v rfl rfl (v_move rfl) rfl (rj_v rfl rfl (v_move rfl) rfl ?_)); refine rj_v rfl rfl (v_sub rfl rfl ((by unfold I64; omega))) rfl ?_; obtain ⟨t72, a72, b72, c72, ht72, hcs72, rl72, rd72, rx72⟩ := hT8.at1 ((z - a : Int).toNat) (by first | omega | (rw [List.length_set]; omega)); refine rj_v rfl rfl (v_indexAddr Try.underlying33 ty_108 rfl rfl r36.toR (by decide) (by omega) (by omega)) rfl ?_; refine rj_v rfl rfl (v_loadNE 1 ty_108 rfl rfl r36.toR (by have := r36.toR.1; omega) rfl hcs72) rfl ?_; have e66 := shpL_at ht66; have e72 := shpL_at ht72; have hn66 := labS_nodup hnet (a : Int); have hn72 := labS_nodup hnet ((((z : Int) - (a : Int)).toNat : Nat) : Int); have hd66 := dimS_map hnet (a : Int); have hd72 := dimS_map hnet ((((z : Int) - (a : Int)).toNat : Nat) : Int); refine rj_x rfl rfl (x_call rfl en_102 (fun w s => ct_u_l08Join (dimOf ts) t66 t72 _ _ _ _ _ _ w (rl66.mono (s.get 0 rfl)) (rd66.mono (s.get 0 rfl)) (rl72.mono (s.get 0 rfl)) (rd72.mono (s.get 0 rfl)) (by rw [e66.1]; exact hd66) (by rw [e72.1]; exact hd72) (by rw [e72.1]; exact hn72.1) (by rw [e66.1, e72.1]; dsimp only; omega))) rfl ?_; rintro _ h74 ⟨v1, v2, rfl, p1, p2⟩; refine rj_v rfl rfl (v_move rfl) rfl (rj_v rfl rfl (v_extract rfl rfl) rfl (rj_v rfl rfl (v_extract rfl rfl) rfl (rj_v rfl rfl (v_extract rfl rfl) rfl (rj_v rfl rfl (v_assign rfl) rfl (rj_v rfl rfl (v_assign rfl) rfl (rj_v rfl rfl (v_assign rfl) rfl (rj_end ?_))))))); have hja := joinS_prod hnet (a : Int) ((((z : Int) - (a : Int)).toNat : Nat) : Int); have hdj2 : dimsIn ((joinI t66.l t72.l).map (dimOf ts)) := by rw [e66.1, e72.1]; exact hja.1
            have hlw := curL_low (l := (tab ts op z).1) (c := cCo (bst ts op (tab ts op z).1 z a)) (N := N) (a := a) (by omega); have hlw2 := curL_low (l := (tab ts op z).1) (c := cCo (bst ts op (tab ts op z).1 z a)) (N := N) (a := ((z : Int) - (a : Int)).toNat) (by omega); have hr1 := hCr a; have hr2 := hCr ((z : Int) - (a : Int)).toNat; have hp : partB z a = true := hpb.2 ⟨Int.ofNat_inj.1 (e1.symm.trans (by first | exact c56 | exact Classical.not_not.1 c56)), fun h0 => c62 (e2.trans (by rw [h0]; rfl))⟩; have hP1 : 1 ≤ prodI ((joinI t66.l t72.l).map (dimOf ts)) := by rw [e66.1, e72.1]; exact hja.2
            have eS : (min 1000000000 ((curL (tab ts op z).1 (cCo (bst ts op (tab ts op z).1 z a)) N).getD a 0 + (curL (tab ts op z).1 (cCo (bst ts op (tab ts op z).1 z a)) N).getD ((z : Int) - (a : Int)).toNat 0 + min (prodI ((joinI t66.l t72.l).map (dimOf ts))) (1000000000 + 1))) = sumS ts op (tab ts op z).1 z a := by
              have e3 : joinI t66.l t72.l = joinI (labS ts op (a : Int)) (labS ts op ((z - a : Nat) : Int)) := by rw [e66.1, e72.1, hza]
              rw [hza] at hlw2 hr2 ⊢; rw [e3] at hP1 ⊢
              unfold sumS
              omega
            refine qs_n (wp_sc (wp_rj 16 [(0, true), (1, true), (2, true), (3, true), (4, true), (5, true), (6, true), (7, true), (8, true), (9, true), (10, true), (11, true), (12, false), (13, true), (14, true), (15, true)] mixed_ok (by kernel_rfl) (rj_v rfl rfl (v_move rfl) rfl (rj_v rfl rfl (v_move rfl) rfl ?_)))); refine rj_v rfl rfl (v_idxI Try.underlying25 ty_3 rfl rfl q1.toR (by first | omega | (simp; omega) | (simp only [List.length_append, List.length_cons, List.length_nil]; omega) | (rw [List.length_set]; omega)) (by first | omega | (simp; omega) | (simp only [List.length_append, List.length_cons, List.length_nil]; omega) | (rw [List.length_set]; omega))) rfl ?_; refine rj_v rfl rfl (v_loadI (k := a) 3 ty_3 rfl rfl q1.toR (by first | omega | (simp; omega) | (simp only [List.length_append, List.length_cons, List.length_nil]; omega) | (rw [List.length_set]; omega))) rfl ?_; refine rj_v rfl rfl (v_move rfl) rfl (rj_v rfl rfl (v_move rfl) rfl (rj_v rfl rfl (v_move rfl) rfl ?_)); refine rj_v rfl rfl (v_sub rfl rfl ((by unfold I64; omega))) rfl ?_; refine rj_v rfl rfl (v_idxI Try.underlying25 ty_3 rfl rfl q1.toR (by first | omega | (simp; omega) | (simp only [List.length_append, List.length_cons, List.length_nil]; omega) | (rw [List.length_set]; omega)) (by first | omega | (simp; omega) | (simp only [List.length_append, List.length_cons, List.length_nil]; omega) | (rw [List.length_set]; omega))) rfl ?_; refine rj_v rfl rfl (v_loadI  3 ty_3 rfl rfl q1.toR (by first | omega | (simp; omega) | (simp only [List.length_append, List.length_cons, List.length_nil]; omega) | (rw [List.length_set]; omega))) rfl ?_; refine rj_v rfl rfl (v_add rfl rfl ((by unfold I64; omega))) rfl ?_; refine rj_v rfl rfl (v_move rfl) rfl (rj_u rfl rfl (x_callv rfl en_103 (fun w s => ct_s_l05Product _ _ _ w (p2.mono (s.get 0 rfl)) (by first | assumption | omega) (by first | assumption | omega))) rfl ?_); refine rj_v rfl rfl (v_add rfl rfl ((by unfold I64; omega))) rfl ?_; refine rj_v rfl rfl (v_min rfl rfl) rfl (rj_v rfl rfl (v_assign rfl) rfl (rj_end (qs_n (wp_sc (wp_sq (sq_v rfl (v_move rfl) rfl (sq_v rfl (v_move rfl) rfl (sq_v rfl (v_move rfl) rfl ?_)))))))); refine sq_v rfl (v_idxI Try.underlying25 ty_3 rfl rfl q1.toR (by first | omega | (simp; omega) | (simp only [List.length_append, List.length_cons, List.length_nil]; omega) | (rw [List.length_set]; omega)) (by first | omega | (simp; omega) | (simp only [List.length_append, List.length_cons, List.length_nil]; omega) | (rw [List.length_set]; omega))) rfl ?_; refine sq_v rfl (v_loadI (k := z) 3 ty_3 rfl rfl q1.toR (by first | omega | (simp; omega) | (simp only [List.length_append, List.length_cons, List.length_nil]; omega) | (rw [List.length_set]; omega))) rfl ?_; refine sq_v rfl (v_lss rfl rfl) rfl (sq_end (qs_n ?_)); refine wp_cd rfl (fun c98 => ?_) (fun c98 => ?_)
            · refine wp_sc (wp_sq (sq_v rfl (v_move rfl) rfl (sq_v rfl (v_move rfl) rfl (sq_v rfl (v_move rfl) rfl ?_)))); refine sq_v rfl (v_idxI Try.underlying25 ty_3 rfl rfl q1.toR (by first | omega | (simp; omega) | (simp only [List.length_append, List.length_cons, List.length_nil]; omega) | (rw [List.length_set]; omega)) (by first | omega | (simp; omega) | (simp only [List.length_append, List.length_cons, List.length_nil]; omega) | (rw [List.length_set]; omega))) rfl ?_; refine sq_m 3 rfl rfl (m_storeI (k := z) 3 ty_3 rfl rfl rfl q1 (by first | omega | (simp; omega) | (simp only [List.length_append, List.length_cons, List.length_nil]; omega) | (rw [List.length_set]; omega))) rfl ?_; rintro _ h_q19_4 ⟨rfl, q19_4⟩; refine sq_end (qs_n (wp_sq (sq_v rfl (v_move rfl) rfl (sq_v rfl (v_move rfl) rfl (sq_v rfl (v_move rfl) rfl ?_))))); refine sq_v rfl (v_idxI Try.underlying25 ty_3 rfl rfl q2.toR (by first | omega | (simp; omega) | (simp only [List.length_append, List.length_cons, List.length_nil]; omega) | (rw [List.length_set]; omega)) (by first | omega | (simp; omega) | (simp only [List.length_append, List.length_cons, List.length_nil]; omega) | (rw [List.length_set]; omega))) rfl ?_; refine sq_m 4 rfl rfl (m_storeI (k := z) 4 ty_3 rfl rfl rfl q2 (by first | omega | (simp; omega) | (simp only [List.length_append, List.length_cons, List.length_nil]; omega) | (rw [List.length_set]; omega))) rfl ?_; rintro _ h_q20_4 ⟨rfl, q20_4⟩; refine sq_end (qs_bn (qs_n (wp_sq (sq_v rfl (v_move rfl) rfl ?_)))); refine sq_v rfl (v_add rfl rfl ((by unfold I64; omega))) rfl ?_; refine sq_v rfl (v_assign rfl) rfl (sq_end ?_); have hbs : (bst ts op (tab ts op z).1 z a).1 = 0 ∨ sumS ts op (tab ts op z).1 z a < (bst ts op (tab ts op z).1 z a).2 := by
                rw [hat, eS] at c98
                by_cases h0 : (bst ts op (tab ts op z).1 z a).1 = 0
                · exact .inl h0
                · rw [cCo, if_neg h0] at c98; exact .inr c98
              exact qs_bk (a + 1, h_q19_4, h_q20_4) ⟨by (try dsimp only); omega, by (try dsimp only); rw [curL_set _ (by omega), eS] at q19_4; rw [bst_yes hp hbs]; rw [show cCo (a, sumS ts op (tab ts op z).1 z a) = sumS ts op (tab ts op z).1 z a from if_neg (by dsimp only; omega)]; exact q19_4, by (try dsimp only); rw [curL_set _ (by omega)] at q20_4; rw [bst_yes hp hbs]; exact q20_4⟩ (by simp only; omega) ⟨rfl, rfl, rfl, rfl, rfl, rfl, rfl, rfl, rfl, (by first | rfl | exact ksub rfl (by first | omega | (simp; done) | (simp; omega))), rfl, rfl, rfl, rfl, rfl, rfl, rfl, rfl, rfl, rfl, rfl, rfl, rfl, rfl, rfl, rfl, rfl, trivial⟩ (fun _ s => s.pick [1, 2, 3, 4, 5] (by decide) rfl)
            · refine wp_sk (qs_bn (qs_n (wp_sq (sq_v rfl (v_move rfl) rfl ?_)))); refine sq_v rfl (v_add rfl rfl ((by unfold I64; omega))) rfl ?_; refine sq_v rfl (v_assign rfl) rfl (sq_end ?_); have hbs : ¬ ((bst ts op (tab ts op z).1 z a).1 = 0 ∨ sumS ts op (tab ts op z).1 z a < (bst ts op (tab ts op z).1 z a).2) := by
                rw [hat, eS] at c98; have hsr := sumS_in (ts := ts) (op := op) (s := z) (a := a) hCr (by have := (joinS_prod hnet (a : Int) ((z - a : Nat) : Int)).2; omega)
                by_cases h0 : (bst ts op (tab ts op z).1 z a).1 = 0
                · rw [cCo, if_pos h0] at c98; omega
                · rw [cCo, if_neg h0] at c98; omega
              exact qs_bk (a + 1, g1, g2) ⟨by (try dsimp only); omega, by (try dsimp only); rw [bst_no (fun _ => hbs)]; exact q1, by (try dsimp only); rw [bst_no (fun _ => hbs)]; exact q2⟩ (by simp only; omega) ⟨rfl, rfl, rfl, rfl, rfl, rfl, rfl, rfl, rfl, (by first | rfl | exact ksub rfl (by first | omega | (simp; done) | (simp; omega))), rfl, rfl, rfl, rfl, rfl, rfl, rfl, rfl, rfl, rfl, rfl, rfl, rfl, rfl, rfl, rfl, rfl, trivial⟩ (fun _ s => s.pick [1, 2, 3, 4, 5] (by decide) rfl)
      · refine wp_ex (qs_x (qs_x (qs_bx (qs_bn (qs_n (wp_sq (sq_v rfl (v_move rfl) rfl ?_))))))); refine sq_v rfl (v_add rfl rfl ((by unfold I64; omega))) rfl ?_; refine sq_v rfl (v_assign rfl) rfl (sq_end ?_); have eaz : a = z := by omega
        have hbn := bst_some (ts := ts) (op := op) (C := (tab ts op z).1) (s := z) (by omega) (by omega) (by omega); exact qs_bk (z + 1, v36, h_r36, cs ++ [sa, sb, .slice none 0 0], PUn hl h34, g1, g2) ⟨by (try dsimp only); omega, hdj8, hT8, r36, by (try dsimp only); rw [(tab_two (by omega)).1]; rw [eaz, cCo, if_neg hbn] at q1; exact q1, by (try dsimp only); rw [(tab_two (by omega)).2]; rw [eaz] at q2; exact q2⟩ (by simp only; omega) ⟨rfl, rfl, rfl, rfl, rfl, rfl, (by first | rfl | exact ksub rfl (by first | omega | (simp; done) | (simp; omega))), (by first | rfl | exact ksub rfl (by first | omega | (simp; done) | (simp; omega))), trivial⟩ (fun _ s => s)
  · refine wp_ex (qs_x (qs_x (qs_bx (qs_n (wp_sc (wp_sq (sq_v rfl (v_move rfl) rfl (sq_v rfl (v_move rfl) rfl (sq_v rfl (v_assign rfl) rfl (sq_v rfl (v_assign rfl) rfl (sq_end (qs_n (wp_rt ?_))))))))))))); have ez : z = N := by omega
    rw [ez, padL_full (by rw [(tab_len ts op N).1])] at qC; rw [ez, padL_full (by rw [(tab_len ts op N).2])] at qF; refine qs_s [hl, hp w, gC, gF] (fun _ s => Sat.part hdj (s.pick [0, 2, 3] (by decide) rfl)) ?_; refine qs_close [hp w] [gC, gF] (fun _ s => s.pick [1, 2, 3] (by decide) rfl) (fun md => ?_); exact qs_ret2 rfl rfl rfl (fin_t 0 (i := 1) rfl rfl rfl ⟨v20, v23, gC, gF, rfl, by rw [← hN]; exact qC, by rw [← hN]; exact qF, md⟩)
end Go.Proofs.Ytmddmahaikineaa
namespace Go.Proofs.Ytmddmahaikineaa
set_option maxRecDepth 100000
open Go.RowKit
section
variable {P : Program} {n : Nat} {w0 : World} {K : Env} {HS : List PH} {d : Option Tmp} {ty : TypeId} {ps : String} {af : Array Edge} {g : Option (Nat × Bool)}
theorem m_storeBA {t : TypeId} {x y : Operand} {z : Value} {bytes b o k : Nat} {a : Bool} {xs : List Bool} {bt : TypeId} (p : Nat) (ht : TyF P t z 1 bytes false) (hx : ev K x = some (.pointer (some ⟨b, o, none⟩))) (hy : ev K y = some (.bool a))
    (hp' : HS[p]? = some (box b (bools xs) bt)) (hk : k < xs.length) (ho : o = 0 + k * 1) :
    StepX P n w0 K HS ⟨d, .store t x y, ty, ps, af, g⟩ (box b (bools xs) bt) (fun v' h' => v' = undef ∧ h' = box b (bools (xs.set k a)) bt) := by
  subst ho; rw [Nat.zero_add, Nat.mul_one] at hx; have := m_store1 (P := P) (n := n) (w0 := w0) (d := d) (ty := ty) (ps := ps) (af := af) (g := g) p ht hx hy rfl hp' (by rw [bools_length]; exact hk)
  rwa [bools_set] at this
end
def markT (bs : List Bool) (ls : List Int) : List Bool := ls.foldl (fun q x => q.set x.toNat true) bs
theorem markT_len (bs : List Bool) : ∀ ls : List Int, (markT bs ls).length = bs.length := fun ls => by
  induction ls generalizing bs with
  | nil => rfl
  | cons x r ih => rw [markT, List.foldl_cons]; have := ih (bs.set x.toNat true); rw [List.length_set] at this; exact this
theorem markT_step {bs : List Bool} {ls : List Int} {i : Nat} (h : i < ls.length) : markT bs (ls.take (i + 1)) = (markT bs (ls.take i)).set (ls.getD i 0).toNat true := by
  rw [take_succ h, markT, List.foldl_append]; rfl
theorem ct_i_markLabels (bs : List Bool) (ls : List Int) (bb : Nat) (v : Value) (w : World) (hle : PLe (box bb (bools bs) 172) (hp w)) (r : IntsR ls v (restP w (box bb (bools bs) 172))) (hb : bs.length = 100) (hl : ∀ x ∈ ls, 0 ≤ x ∧ x ≤ 99) :
    Calls Try.prog 142 [.pointer (some ⟨bb, 0, none⟩), v].toArray w (Ret w (box bb (bools bs) 172) (fun _ h' => h' = box bb (bools (markT bs ls)) 172)) := by
  refine calls_in Try.func142 rfl Try.ntmps142 rfl (Sat.start2 hle) ?_; have hle0 := r.le; refine wp_sc (wp_sq (sq_v rfl (v_move rfl) rfl (sq_v rfl (v_len Try.underlying25 rfl r.sl) rfl (sq_v rfl (v_move rfl) rfl (sq_end (qs_n (wp_bl ?_))))))); refine wp_lp (σ := Nat × (List Bool)) (fun z_ => [(0, .pointer (some ⟨bb, 0, none⟩)), (6, v), (7, num ls.length), (8, num z_.1)]) (fun z_ => [(box bb (bools z_.2) 172), (restP w (box bb (bools bs) 172))]) (fun z_ => z_.1 ≤ ls.length ∧ z_.2 = markT bs (ls.take z_.1)) (fun z_ => ls.length - z_.1) (0, bs) (⟨by (try dsimp only); omega, by (try dsimp only); rfl⟩) ⟨(by first | rfl | exact ksub rfl (by first | omega | (simp; done) | (simp; omega))), rfl, rfl, (by first | rfl | exact ksub rfl (by first | omega | (simp; done) | (simp; omega))), trivial⟩ (fun _ s => s) ?_; rintro ⟨i, q⟩ ⟨hi, hq⟩; dsimp only at hi hq ⊢; have hql : q.length = 100 := by rw [hq, markT_len]; exact hb
  refine wp_sc (wp_sq (sq_v rfl (v_lss rfl rfl) rfl (sq_end (qs_n (wp_sc ?_))))); refine wp_cd rfl (fun c9 => ?_) (fun c9 => ?_)
  · refine wp_sk (qs_n (wp_sc (wp_bl (wp_sc (wp_sq ?_))))); refine sq_v rfl (v_idxI Try.underlying25 ty_3 rfl rfl r (by first | omega | (simp; omega) | (simp only [List.length_append, List.length_cons, List.length_nil]; omega) | (rw [List.length_set]; omega)) (by first | omega | (simp; omega) | (simp only [List.length_append, List.length_cons, List.length_nil]; omega) | (rw [List.length_set]; omega))) rfl ?_; refine sq_v rfl (v_loadI (k := i) 1 ty_3 rfl rfl r (by first | omega | (simp; omega) | (simp only [List.length_append, List.length_cons, List.length_nil]; omega) | (rw [List.length_set]; omega))) rfl ?_; refine sq_v rfl (v_assign rfl) rfl (sq_end ?_); have hx := hl (ls.getD i 0) (by have e : ls[i]? = some (ls.getD i 0) := (by simp [List.getD, show i < ls.length by omega]); exact List.mem_of_getElem? e); refine qs_n (wp_sq (sq_v rfl (v_move rfl) rfl (sq_v rfl (v_move rfl) rfl (sq_v rfl (v_nilCheck rfl) rfl (sq_v rfl (v_indexAddrA Try.underlying172 ty_4 rfl rfl (by omega) (by omega)) rfl ?_))))); refine sq_m 0 rfl rfl (m_storeBA 0 ty_4 rfl rfl rfl (k := (ls.getD i 0).toNat) (by omega) rfl) rfl ?_; rintro _ _ ⟨rfl, rfl⟩; refine sq_end (qs_bn (qs_n (wp_sq ?_))); refine sq_v rfl (v_add rfl rfl ((by unfold I64; omega))) rfl ?_; refine sq_v rfl (v_move rfl) rfl (sq_end ?_); exact qs_bk (i + 1, q.set (ls.getD i 0).toNat true) ⟨by (try dsimp only); omega, by (try dsimp only); rw [markT_step (by omega), hq]⟩ (by simp only; omega) ⟨(by first | rfl | exact ksub rfl (by first | omega | (simp; done) | (simp; omega))), rfl, rfl, (by first | rfl | exact ksub rfl (by first | omega | (simp; done) | (simp; omega))), trivial⟩ (fun _ s => s)
  · refine wp_ex (qs_x (qs_x (qs_bx ?_))); exact qs_ret0 rfl (fin_m (i := 1) 0 rfl rfl rfl (by rw [hq, List.take_of_length_le (by omega)]))
end Go.Proofs.Ytmddmahaikineaa
namespace Go.Proofs.Ytmddmahaikineaa
set_option maxRecDepth 100000
open Go.RowKit
theorem markT_get {bs : List Bool} : ∀ {ls : List Int} (_ : ∀ x ∈ ls, 0 ≤ x ∧ x ≤ 99) (_ : bs.length = 100) {x : Int} (_ : 0 ≤ x ∧ x ≤ 99), (markT bs ls).getD x.toNat false = true ↔ x ∈ ls ∨ bs.getD x.toNat false = true := fun {ls} => by
  induction ls generalizing bs with
  | nil => intro _ _ x _; simp [markT]
  | cons y r ih =>
    intro hl hb x hx; have hy := hl y (by simp); have h := ih (bs := bs.set y.toNat true) (fun a ha => hl a (by simp [ha])) (by simp [hb]) hx; rw [markT, List.foldl_cons]; rw [markT] at h; rw [h]; have e : (bs.set y.toNat true).getD x.toNat false = true ↔ x = y ∨ bs.getD x.toNat false = true := by
      simp only [List.getD]
      by_cases hxy : y.toNat = x.toNat
      · rw [hxy, List.getElem?_set_self (by omega)]; have : x = y := by omega
        simp [this]
      · rw [List.getElem?_set_ne hxy]; have : x ≠ y := fun e => hxy (by rw [e])
        simp [this]
    rw [e]; simp only [List.mem_cons]
    constructor
    · rintro (h1 | h1 | h1)
      · exact .inl (.inr h1)
      · exact .inl (.inl h1)
      · exact .inr h1
    · rintro ((h1 | h1) | h1)
      · exact .inr (.inl h1)
      · exact .inl h1
      · exact .inr (.inr h1)
theorem dimOf_pos {ts : List Ten} (hok : ∀ t ∈ ts, AxOK t) {x : Int} : 0 < dimOf ts x ↔ ∃ t ∈ ts, x ∈ t.l := by
  induction ts with
  | nil => simp [dimOf]
  | cons t r ih =>
    have ih' := ih (fun t ht => hok t (by simp [ht])); rw [dimOf]
    split
    · rename_i h
      have ha := hok t (by simp); have hf := findI_range t.l x; have hg := findI_ge.2 h; have := ha.2 (findI t.l x).toNat (by omega); exact ⟨fun _ => ⟨t, by simp, h⟩, fun _ => by omega⟩
    · rename_i h
      rw [ih']
      constructor
      · rintro ⟨u, hu, hx⟩; exact ⟨u, by simp [hu], hx⟩
      · rintro ⟨u, hu, hx⟩
        rcases List.mem_cons.1 hu with rfl | hu
        · exact absurd hx h
        · exact ⟨u, hu, hx⟩
theorem rep_false (n i : Nat) : (List.replicate n false).getD i false = false := by
  simp only [List.getD, List.getElem?_replicate]
  split <;> rfl
theorem ex_snoc {l : List Ten} {t : Ten} {x : Int} : (∃ u ∈ l ++ [t], x ∈ u.l) ↔ x ∈ t.l ∨ ∃ u ∈ l, x ∈ u.l := by
  constructor
  · rintro ⟨u, hu, hx⟩
    rcases List.mem_append.1 hu with hu | hu
    · exact .inr ⟨u, hu, hx⟩
    · rw [List.mem_singleton.1 hu] at hx; exact .inl hx
  · rintro (hx | ⟨u, hu, hx⟩)
    · exact ⟨t, by simp, hx⟩
    · exact ⟨u, by simp [hu], hx⟩
set_option maxHeartbeats 2000000 in
theorem ct_i_rawSetLabels (k p n z : Int) (ts : List Ten) (op : List Int) (vt vo : Value) (w : World) (r : TensR ts vt (hp w)) (r' : IntsR op vo (hp w)) (hok : ∀ t ∈ ts, AxOK t) (hl : ∀ t ∈ ts, ∀ x ∈ t.l, 0 ≤ x ∧ x ≤ 99) (ho : ∀ x ∈ op, 0 ≤ x ∧ x ≤ 99) (hts : ts.length ≤ 60) (hz : 0 ≤ z ∧ z ≤ 1000000) :
    Calls Try.prog 107 [netV k p n vt vo, num z].toArray w (Ret w emp (IntsO (rawS ts op z))) := by
  refine calls_in Try.func107 rfl Try.ntmps107 rfl (Sat.start w) ?_; have hle0 := r.le; obtain ⟨cs_r, rr_r, hc_r⟩ := r.at; have hle1 := r'.le; refine wp_sc (wp_sq ?_); refine sq_x rfl (x_box rfl rfl) rfl ?_; rintro _ _ ⟨b2, rfl, rfl⟩; refine sq_v rfl (v_assign rfl) rfl (sq_end (qs_n (wp_sc (wp_sq ?_)))); refine sq_x rfl (x_alloc ty_172 rfl) rfl ?_; rintro _ _ ⟨b5, rfl, rfl⟩; refine sq_x rfl (x_alloc ty_172 rfl) rfl ?_; rintro _ _ ⟨b6, rfl, rfl⟩; refine sq_end (qs_n (wp_sc (wp_sq (sq_v rfl (v_fieldAddr fd_35_2 ty_25 (by decide) rfl) rfl (sq_v rfl (v_loadB 2 ty_25 rfl rfl rfl) rfl ?_))))); refine sq_m 0 rfl rfl (x_call rfl en_142 (fun w s => ct_i_markLabels (List.replicate 100 false) op b6 _ w (s.get 0 rfl) (r'.mono (s.getR 0 3 rfl rfl (by decide))) (by simp) ho)) rfl ?_; rintro _ _ rfl; refine sq_end (qs_n (wp_sc (wp_sc (wp_sq (sq_v rfl (v_fieldAddr fd_35_1 ty_33 (by decide) rfl) rfl (sq_v rfl (v_loadB 2 ty_33 rfl rfl rfl) rfl (sq_v rfl (v_len Try.underlying33 rfl r.sl) rfl (sq_v rfl (v_move rfl) rfl (sq_end (qs_n (wp_bl ?_))))))))))); refine wp_lp (σ := Nat × (List Bool) × (List Bool)) (fun z_ => [(1, num z), (4, .slice none 0 0), (5, .pointer (some ⟨b5, 0, none⟩)), (6, .pointer (some ⟨b6, 0, none⟩)), (15, vt), (16, num ts.length), (17, num z_.1)]) (fun z_ => [(box b6 (bools z_.2.2) 172), (box b5 (bools z_.2.1) 172), box b2 [num k, num p, num n, vt, vo] 35, hp w]) (fun z_ => z_.1 ≤ ts.length ∧ (z_.2.1.length = 100 ∧ ∀ x, 0 ≤ x ∧ x ≤ 99 → (z_.2.1.getD x.toNat false = true ↔ ∃ t ∈ selT true ts z z_.1, x ∈ t.l)) ∧ (z_.2.2.length = 100 ∧ ∀ x, 0 ≤ x ∧ x ≤ 99 → (z_.2.2.getD x.toNat false = true ↔ x ∈ op ∨ ∃ t ∈ selT false ts z z_.1, x ∈ t.l))) (fun z_ => ts.length - z_.1) (0, (List.replicate 100 false), (markT (List.replicate 100 false) op)) (⟨by (try dsimp only); omega, ⟨List.length_replicate, fun x hx => by rw [rep_false]; simp [selT]⟩, ⟨by rw [markT_len]; exact List.length_replicate, fun x hx => by rw [markT_get ho List.length_replicate hx, rep_false]; simp [selT]⟩⟩) ⟨rfl, rfl, (by first | rfl | exact ksub rfl (by first | omega | (simp; done) | (simp; omega))), (by first | rfl | exact ksub rfl (by first | omega | (simp; done) | (simp; omega))), rfl, rfl, (by first | rfl | exact ksub rfl (by first | omega | (simp; done) | (simp; omega))), trivial⟩ (fun _ s => s) ?_; rintro ⟨i, q1, q2⟩ ⟨hi, hq1, hq2⟩; dsimp only at hi hq1 hq2 ⊢; have hdiv : 0 ≤ z / 2 ^ ((i : Int)).toNat ∧ z / 2 ^ ((i : Int)).toNat ≤ z := ⟨Int.ediv_nonneg hz.1 (Int.pow_nonneg (by decide)), Int.ediv_le_self _ hz.1⟩
  refine wp_sc (wp_sq (sq_v rfl (v_lss rfl rfl) rfl (sq_end (qs_n (wp_sc ?_))))); refine wp_cd rfl (fun c18 => ?_) (fun c18 => ?_)
  · refine wp_sk (qs_n (wp_sc (wp_bl (wp_sc (wp_sq (sq_v rfl (v_move rfl) rfl ?_)))))); obtain ⟨t20, a20, b20, c20, ht20, hcs20, rl20, rd20, rx20⟩ := hc_r (i) (by first | omega | (rw [List.length_set]; omega)); refine sq_v rfl (v_indexAddr Try.underlying33 ty_108 rfl rfl rr_r (by decide) (by omega) (by omega)) rfl ?_; refine sq_v rfl (v_loadNE 3 ty_108 rfl rfl rr_r (by have := rr_r.1; omega) rfl hcs20) rfl ?_; refine sq_x rfl (x_alloc ty_108 rfl) rfl ?_; rintro _ _ ⟨b8, rfl, rfl⟩; refine sq_v rfl (v_assign rfl) rfl ?_; refine sq_m 0 rfl rfl (m_store 0 ty_108 rfl rfl rfl rfl (by simp [rl20.sl.one, rd20.sl.one, rx20.sl.one]) rfl (Nat.le_of_ble_eq_true rfl)) rfl ?_; rintro _ _ ⟨rfl, rfl⟩; refine sq_end ?_; have e20 : ts.getD i ⟨[], [], []⟩ = t20 := by simp [List.getD, ht20]
    have hl20 := hl t20 (List.mem_of_getElem? ht20); refine qs_n (wp_sc (wp_sq (sq_v rfl (v_move rfl) rfl (sq_v rfl (v_move rfl) rfl (sq_v rfl (v_shr rfl rfl (by omega) (by omega)) rfl (sq_v rfl (v_and rfl rfl ⟨by omega, by omega⟩ ⟨by omega, by omega⟩) rfl (sq_v rfl (v_eql rfl rfl) rfl (sq_end (qs_n ?_))))))))); refine wp_cd rfl (fun c26 => ?_) (fun c26 => ?_)
    · refine wp_sq (sq_v rfl (v_fieldAddr fd_108_0 ty_25 (by decide) rfl) rfl (sq_v rfl (v_loadB 0 ty_25 rfl rfl rfl) rfl ?_)); refine sq_m 2 rfl rfl (x_call rfl en_142 (fun w s => ct_i_markLabels q1 t20.l b5 _ w (s.get 2 rfl) (rl20.mono (s.getR 2 4 rfl rfl (by decide))) hq1.1 hl20)) rfl ?_; rintro _ _ rfl; refine sq_end (qs_bn (qs_n (wp_sq ?_))); refine sq_v rfl (v_add rfl rfl ((by unfold I64; omega))) rfl ?_; refine sq_v rfl (v_move rfl) rfl (sq_end ?_); exact qs_bk (i + 1, markT q1 t20.l, q2) ⟨by (try dsimp only); omega, ⟨by rw [markT_len]; exact hq1.1, fun x hx => by rw [markT_get hl20 hq1.1 hx, hq1.2 x hx, selT_yes (i := i) (decide_eq_true c26) e20, ex_snoc]⟩, ⟨hq2.1, fun x hx => by rw [selT_no (i := i) (c := true) (decide_eq_true c26) (by decide)]; exact hq2.2 x hx⟩⟩ (by simp only; omega) ⟨rfl, rfl, (by first | rfl | exact ksub rfl (by first | omega | (simp; done) | (simp; omega))), (by first | rfl | exact ksub rfl (by first | omega | (simp; done) | (simp; omega))), rfl, rfl, (by first | rfl | exact ksub rfl (by first | omega | (simp; done) | (simp; omega))), trivial⟩ (fun _ s => s.pick [1, 2, 3, 4] (by decide) rfl)
    · refine wp_sq (sq_v rfl (v_fieldAddr fd_108_0 ty_25 (by decide) rfl) rfl (sq_v rfl (v_loadB 0 ty_25 rfl rfl rfl) rfl ?_)); refine sq_m 1 rfl rfl (x_call rfl en_142 (fun w s => ct_i_markLabels q2 t20.l b6 _ w (s.get 1 rfl) (rl20.mono (s.getR 1 4 rfl rfl (by decide))) hq2.1 hl20)) rfl ?_; rintro _ _ rfl; refine sq_end (qs_bn (qs_n (wp_sq ?_))); refine sq_v rfl (v_add rfl rfl ((by unfold I64; omega))) rfl ?_; refine sq_v rfl (v_move rfl) rfl (sq_end ?_); exact qs_bk (i + 1, q1, markT q2 t20.l) ⟨by (try dsimp only); omega, ⟨hq1.1, fun x hx => by rw [selT_no (i := i) (c := false) (decide_eq_false c26) (by decide)]; exact hq1.2 x hx⟩, ⟨by rw [markT_len]; exact hq2.1, fun x hx => by rw [markT_get hl20 hq2.1 hx, hq2.2 x hx, selT_yes (i := i) (decide_eq_false c26) e20, ex_snoc]; exact or_left_comm⟩⟩ (by simp only; omega) ⟨rfl, rfl, (by first | rfl | exact ksub rfl (by first | omega | (simp; done) | (simp; omega))), (by first | rfl | exact ksub rfl (by first | omega | (simp; done) | (simp; omega))), rfl, rfl, (by first | rfl | exact ksub rfl (by first | omega | (simp; done) | (simp; omega))), trivial⟩ (fun _ s => s.pick [1, 2, 3, 4] (by decide) rfl)
  · refine wp_ex (qs_x (qs_x (qs_bx (qs_n (wp_sc (wp_sq (sq_v rfl (v_assign rfl) rfl (sq_end (qs_n (wp_sc (wp_sc (wp_sq (sq_v rfl (v_move rfl) rfl (sq_end (qs_n (wp_bl ?_)))))))))))))))); refine wp_lp (σ := Nat × Value × PH) (fun z_ => [(4, .slice none 0 0), (5, .pointer (some ⟨b5, 0, none⟩)), (6, .pointer (some ⟨b6, 0, none⟩)), (9, z_.2.1), (34, num z_.1)]) (fun z_ => [z_.2.2, (box b6 (bools q2) 172), (box b5 (bools q1) 172), box b2 [num k, num p, num n, vt, vo] 35, hp w]) (fun z_ => z_.1 ≤ 100 ∧ IntsO ((labelsTo (selT true ts z ts.length) z_.1).filter (keptS ts op z)) z_.2.1 z_.2.2) (fun z_ => 100 - z_.1) (0, .slice none 0 0, emp) (⟨by (try dsimp only); omega, IntsO.nil⟩) ⟨rfl, (by first | rfl | exact ksub rfl (by first | omega | (simp; done) | (simp; omega))), (by first | rfl | exact ksub rfl (by first | omega | (simp; done) | (simp; omega))), (by first | rfl | exact ksub rfl (by first | omega | (simp; done) | (simp; omega))), (by first | rfl | exact ksub rfl (by first | omega | (simp; done) | (simp; omega))), trivial⟩ (fun _ s => (emp_sat s)) ?_; rintro ⟨j, vo2, ho2⟩ ⟨hj, q⟩; dsimp only at hj q ⊢; have hle_q := q.toR.le; have hfl : ((labelsTo (selT true ts z ts.length) j).filter (keptS ts op z)).length ≤ j := by have h1 := List.length_filter_le (keptS ts op z) (labelsTo (selT true ts z ts.length) j); have h2 := labels_len (selT true ts z ts.length) j; omega
    have hie : i = ts.length := by omega
    have hok1 : ∀ t ∈ selT true ts z i, AxOK t := fun t ht => hok t (selT_mem hi t ht); have hok2 : ∀ t ∈ selT false ts z i, AxOK t := fun t ht => hok t (selT_mem hi t ht); refine wp_sc (wp_sq (sq_v rfl (v_lss rfl rfl) rfl (sq_end (qs_n (wp_sc ?_))))); refine wp_cd rfl (fun c35 => ?_) (fun c35 => ?_)
    · refine wp_sk (qs_n (wp_sc (wp_bl (wp_sc (wp_sq (sq_v rfl (v_move rfl) rfl (sq_v rfl (v_assign rfl) rfl (sq_end ?_)))))))); have hj1 := hq1.2 (j : Int) (by omega); rw [Int.toNat_natCast, ← dimOf_pos hok1, hie] at hj1; have hj2 := hq2.2 (j : Int) (by omega); rw [Int.toNat_natCast, ← dimOf_pos hok2, hie] at hj2; have hk : keptS ts op z (j : Int) = true ↔ q2.getD j false = true := by rw [hj2]; simp only [keptS, decide_eq_true_eq, findI_ge]
      refine qs_n (wp_sc (wp_sq (sq_v rfl (v_move rfl) rfl (sq_v rfl (v_indexAddrA Try.underlying172 ty_4 rfl rfl (by omega) (by omega)) rfl ?_)))); refine sq_v rfl (v_loadB 2 ty_4 rfl rfl (by rw [Nat.zero_add, Nat.mul_one]; exact bools_get (by omega))) rfl ?_; refine sq_bb 39 rfl (fun c39 => ?_) (fun c39 => ?_)
      · refine sq_v rfl (v_move rfl) rfl (sq_v rfl (v_move rfl) rfl (sq_v rfl (v_indexAddrA Try.underlying172 ty_4 rfl rfl (by omega) (by omega)) rfl ?_)); refine sq_v rfl (v_loadB 1 ty_4 rfl rfl (by rw [Nat.zero_add, Nat.mul_one]; exact bools_get (by omega))) rfl ?_; refine sq_v rfl (v_pickt rfl rfl) rfl (sq_end (qs_n ?_)); refine wp_cb _ rfl (fun c44 => ?_) (fun c44 => ?_)
        · refine wp_sq (sq_v rfl (v_move rfl) rfl (sq_v rfl (v_move rfl) rfl ?_)); refine sq_x rfl (x_buildS [num (j)] Try.underlying25 ty_3 (by decide) rfl rfl rfl (by decide) (by decide) (by intro v hv; simp at hv; rcases hv with rfl <;> rfl)) rfl ?_; intro v47 h47 (r47 : IntsO [j] v47 h47); refine sq_m 1 rfl rfl (m_appI 1 0 Try.underlying25 ty_3 rfl rfl rfl rfl q rfl r47.toR (by first | omega | (simp; omega) | (simp only [List.length_append, List.length_cons, List.length_nil]; omega) | (rw [List.length_set]; omega))) rfl ?_; intro v48 h_r48 r48; refine sq_v rfl (v_assign rfl) rfl (sq_end (qs_bn (qs_n (wp_sq ?_)))); refine sq_v rfl (v_add rfl rfl ((by unfold I64; omega))) rfl ?_; refine sq_v rfl (v_move rfl) rfl (sq_end ?_); exact qs_bk (j + 1, v48, h_r48) ⟨by (try dsimp only); omega, by (try dsimp only); rw [labels_yes (hj1.1 c39), List.filter_append, List.filter_cons_of_pos (p := keptS ts op z) (hk.2 c44)]; exact r48⟩ (by simp only; omega) ⟨rfl, (by first | rfl | exact ksub rfl (by first | omega | (simp; done) | (simp; omega))), (by first | rfl | exact ksub rfl (by first | omega | (simp; done) | (simp; omega))), (by first | rfl | exact ksub rfl (by first | omega | (simp; done) | (simp; omega))), (by first | rfl | exact ksub rfl (by first | omega | (simp; done) | (simp; omega))), trivial⟩ (fun _ s => s.pick [1, 2, 3, 4, 5] (by decide) rfl)
        · refine wp_sk (qs_bn (qs_n (wp_sq ?_))); refine sq_v rfl (v_add rfl rfl ((by unfold I64; omega))) rfl ?_; refine sq_v rfl (v_move rfl) rfl (sq_end ?_); exact qs_bk (j + 1, vo2, ho2) ⟨by (try dsimp only); omega, by (try dsimp only); rw [labels_yes (hj1.1 c39), List.filter_append, List.filter_cons_of_neg (p := keptS ts op z) (fun h => Bool.noConfusion ((hk.1 h).symm.trans c44)), List.filter_nil, List.append_nil]; exact q⟩ (by simp only; omega) ⟨rfl, (by first | rfl | exact ksub rfl (by first | omega | (simp; done) | (simp; omega))), (by first | rfl | exact ksub rfl (by first | omega | (simp; done) | (simp; omega))), (by first | rfl | exact ksub rfl (by first | omega | (simp; done) | (simp; omega))), (by first | rfl | exact ksub rfl (by first | omega | (simp; done) | (simp; omega))), trivial⟩ (fun _ s => s)
      · refine sq_v rfl (v_move rfl) rfl (sq_s rfl rfl (sq_s rfl rfl (sq_s rfl rfl (sq_v rfl (v_pickf rfl rfl) rfl (sq_end (qs_n (wp_cf rfl (wp_sk (qs_bn (qs_n (wp_sq ?_))))))))))); refine sq_v rfl (v_add rfl rfl ((by unfold I64; omega))) rfl ?_; refine sq_v rfl (v_move rfl) rfl (sq_end ?_); exact qs_bk (j + 1, vo2, ho2) ⟨by (try dsimp only); omega, by (try dsimp only); rw [labels_no (fun h => Bool.noConfusion ((hj1.2 h).symm.trans c39))]; exact q⟩ (by simp only; omega) ⟨rfl, (by first | rfl | exact ksub rfl (by first | omega | (simp; done) | (simp; omega))), (by first | rfl | exact ksub rfl (by first | omega | (simp; done) | (simp; omega))), (by first | rfl | exact ksub rfl (by first | omega | (simp; done) | (simp; omega))), (by first | rfl | exact ksub rfl (by first | omega | (simp; done) | (simp; omega))), trivial⟩ (fun _ s => s)
    · refine wp_ex (qs_x (qs_x (qs_bx (qs_n (wp_sc (wp_sq (sq_v rfl (v_move rfl) rfl (sq_v rfl (v_assign rfl) rfl (sq_end (qs_n (wp_rt ?_))))))))))); exact qs_ret1 rfl rfl (fin_t 0 (i := 4) rfl rfl rfl (by rw [rawS]; rw [show j = 100 by omega] at q; exact q))
end Go.Proofs.Ytmddmahaikineaa
namespace Go.Proofs.Ytmddmahaikineaa
set_option maxRecDepth 100000
open Go.RowKit
section
variable {P : Program} {n : Nat} {w0 : World} {K : Env} {HS : List PH} {d : Option Tmp} {ty : TypeId} {ps : String} {af : Array Edge} {g : Option (Nat × Bool)}
theorem v_idxR1 {t e' : TypeId} {x ix : Operand} {z : Value} {bytes : Nat} {agg : Bool} {v : Value} {k : IntKind} {i : Int} {cs : List Value} {m : Nat} {h : PH} (ht : P.underlying t = some (.slice e')) (he : TyF P e' z 1 bytes agg)
    (hx : ev K x = some v) (hi : ev K ix = some (.int k i)) (r : RowR cs m 1 v h) (h0 : 0 ≤ i) (h1 : i < m) : StepV P n w0 K HS ⟨d, .indexAddr t x ix, ty, ps, af, g⟩ (eltP v i.toNat) := by
  have := v_indexAddr (P := P) (n := n) (w0 := w0) (HS := HS) (d := d) (ty := ty) (ps := ps) (af := af) (g := g) ht he hx hi r (by decide) h0 h1
  rwa [Nat.mul_one] at this
theorem m_storeR1 {t e' : TypeId} {x y : Operand} {z : Value} {bytes : Nat} {agg : Bool} {k : Nat} {v sv : Value} {cs : List Value} {m : Nat} {h : PH} (p : Nat) (ht : TyF P t z 1 bytes agg) (hx : ev K x = some (eltP sv k)) (hy : ev K y = some v)
    (h1 : v.oneCell' = true) (hp' : HS[p]? = some h) (r : RowO e' cs m 1 sv h) (hk : k < cs.length) :
    StepX P n w0 K HS ⟨d, .store t x y, ty, ps, af, g⟩ h (fun v' h' => v' = undef ∧ RowO e' (cs.set k v) m 1 sv h') := by
  have := m_storeE (P := P) (n := n) (w0 := w0) (d := d) (ty := ty) (ps := ps) (af := af) (g := g) p ht hx hy (us := [v]) (oneCell_cells h1) rfl (by simpa using h1) hp' r (by decide) (by omega)
  rwa [set_eq_parts hk] at this
end
/-- Lists of labels behind the first k values. -/
def LabsR (f : Nat → List Int) (k : Nat) (vs : List Value) (h : PH) : Prop := ∀ i, i < k → ∃ x, vs[i]? = some x ∧ IntsR (f i) x h
theorem LabsR.mono {f : Nat → List Int} {k : Nat} {vs : List Value} {h h' : PH} (r : LabsR f k vs h) (l : PLe h h') : LabsR f k vs h' := fun i hi => by
  obtain ⟨x, e, q⟩ := r i hi; exact ⟨x, e, q.mono l⟩
theorem LabsR.next {f : Nat → List Int} {k : Nat} {vs : List Value} {h : PH} {x : Value} (r : LabsR f k vs h) (hk : k < vs.length) (q : IntsR (f k) x h) : LabsR f (k + 1) (vs.set k x) h := fun i hi => by
  by_cases e : i = k
  · subst e; exact ⟨x, by rw [List.getElem?_set_self hk], q⟩
  · obtain ⟨y, e1, q1⟩ := r i (by omega); exact ⟨y, by rw [List.getElem?_set_ne (by omega)]; exact e1, q1⟩
/-- The labels of the sets, the first k tensors' own in place. -/
def labK (ts : List Ten) (op : List Int) (k : Nat) (z : Nat) : List Int := if z = 2 ^ oneI z ∧ oneI z < k then (ts.getD (oneI z) ⟨[], [], []⟩).l else rawS ts op (z : Int)
theorem labK_zero (ts : List Ten) (op : List Int) : labK ts op 0 = fun (z : Nat) => rawS ts op (z : Int) := by
  funext z
  exact if_neg (by omega)
theorem labK_full (ts : List Ten) (op : List Int) (z : Nat) : labK ts op ts.length z = labS ts op (z : Int) := by
  unfold labK labS isOne
  rw [Int.toNat_natCast]
  by_cases h : z = 2 ^ oneI z ∧ oneI z < ts.length
  · rw [if_pos h, if_pos (decide_eq_true h)]
  · rw [if_neg h, if_neg (by rw [decide_eq_true_iff]; exact h)]
theorem labK_step {ts : List Ten} {op : List Int} {k : Nat} {t : Ten} (hk : k < 7) (ht : ts[k]? = some t) {N : Nat} {vs : List Value} {h : PH} {x : Value} (r : LabsR (labK ts op k) N vs h) (hl : vs.length = N) (hN : 2 ^ k < N) (q : IntsR t.l x h) : LabsR (labK ts op (k + 1)) N (vs.set (2 ^ k) x) h := fun i hi => by
  have h1 := one_pow ⟨k, hk⟩; dsimp only at h1
  by_cases e : i = 2 ^ k
  · subst e; refine ⟨x, by rw [List.getElem?_set_self (by omega)], ?_⟩; rw [labK, if_pos ⟨by rw [h1], by rw [h1]; omega⟩, h1]; rw [show ts.getD k ⟨[], [], []⟩ = t by simp [List.getD, ht]]; exact q
  · obtain ⟨y, e1, q1⟩ := r i hi; refine ⟨y, by rw [List.getElem?_set_ne (by omega)]; exact e1, ?_⟩; have e2 : labK ts op (k + 1) i = labK ts op k i := by
      unfold labK
      by_cases c : i = 2 ^ oneI i ∧ oneI i < k
      · rw [if_pos c, if_pos ⟨c.1, by omega⟩]
      · rw [if_neg c, if_neg (fun c2 => c ⟨c2.1, by
          have : oneI i ≠ k := fun e3 => e (by rw [← e3]; exact c2.1)
          omega⟩)]
    rw [e2]; exact q1
set_option maxHeartbeats 4000000 in
theorem ct_i_bestTable (k p n : Int) (ts : List Ten) (op : List Int) (vt vo : Value) (w : World) (r : TensR ts vt (hp w)) (r' : IntsR op vo (hp w)) (hs : op.length ≤ 1048576) (hnet : netL k p n ts op) (h7 : ts.length ≤ 7) :
    Calls Try.prog 48 [netV k p n vt vo].toArray w (Ret w emp (PlanR ts op)) := by
  have hpf := pow_few h7; have ePi : (2 : Int) ^ ((ts.length : Int)).toNat = ((2 ^ ts.length : Nat) : Int) := by rw [Int.toNat_natCast, ← pow_cast]
  obtain ⟨N, hN⟩ : ∃ N : Nat, N = 2 ^ ts.length := ⟨_, rfl⟩
  rw [← hN] at hpf ePi; have hax := net_axes hnet; have haok : ∀ t ∈ ts, AxOK t := fun t ht => axes_ok (hax t ht); have htl : ∀ t ∈ ts, ∀ x ∈ t.l, 0 ≤ x ∧ x ≤ 99 := fun t ht x hx => by
    have hg := findI_get hx; have h1 := (hax t ht).2.2 _ hg.1
    unfold axP at h1
    rw [hg.2] at h1; exact h1.1
  have hop : ∀ x ∈ op, 0 ≤ x ∧ x ≤ 99 := all_of fun j hj => (open_at hnet.2.2.2.2 hj).1; refine calls_in Try.func48 rfl Try.ntmps48 rfl (Sat.start w) ?_; have hle0 := r.le; obtain ⟨cs_r, rr_r, hc_r⟩ := r.at; have hle1 := r'.le; refine wp_sc (wp_sq ?_); refine sq_x rfl (x_box rfl rfl) rfl ?_; rintro _ _ ⟨b1, rfl, rfl⟩; refine sq_v rfl (v_assign rfl) rfl (sq_v rfl (v_assign rfl) rfl (sq_end (qs_n (wp_sc (wp_sq (sq_v rfl (v_fieldAddr fd_35_1 ty_33 (by decide) rfl) rfl (sq_v rfl (v_loadB 0 ty_33 rfl rfl rfl) rfl (sq_v rfl (v_len Try.underlying33 rfl r.sl) rfl (sq_v rfl (v_assign rfl) rfl (sq_end (qs_n (wp_sc (wp_sq (sq_v rfl (v_fieldAddr fd_35_1 ty_33 (by decide) rfl) rfl (sq_v rfl (v_loadB 0 ty_33 rfl rfl rfl) rfl ?_))))))))))))))); refine sq_x rfl (x_call rfl en_68 (fun w s => ct_i_dimsOf _ _ w (r.mono (s.get 1 rfl)) hax)) rfl ?_; rintro _ h25 ⟨arr, ok, rfl, hal, hok, hav⟩; refine sq_v rfl (v_move rfl) rfl (sq_v rfl (v_extract rfl rfl) rfl (sq_v rfl (v_extract rfl rfl) rfl ?_)); refine sq_x rfl (x_alloc ty_109 rfl) rfl ?_; rintro _ _ ⟨b5, rfl, rfl⟩; refine sq_m 0 rfl rfl (m_storeW 0 ty_109 rfl rfl rfl (by rw [ints_length]; exact hal) (ints_one arr) rfl (by simp)) rfl ?_; rintro _ _ ⟨rfl, rfl⟩; refine sq_v rfl (v_assign rfl) rfl (sq_end (qs_n (wp_sc (wp_sq (sq_v rfl (v_move rfl) rfl ?_))))); refine sq_v rfl (v_shl rfl rfl (by omega) (by omega) (by unfold I64; omega)) rfl ?_; refine sq_x rfl (x_make Try.underlying65 ty_25 rfl rfl rfl rfl (by omega) (by omega) (by omega)) rfl ?_; intro v30 h30 r30; refine sq_v rfl (v_assign rfl) rfl (sq_end ?_); have hinv := hav (hok.2 hnet.2.2.2.1); have eN : (1 * (2 : Int) ^ ((ts.length : Int)).toNat).toNat = N := by omega
  rw [eN, List.flatten_replicate_singleton] at r30; refine qs_n (wp_sc (wp_sc (wp_sq (sq_v rfl (v_move rfl) rfl (sq_v rfl (v_len Try.underlying65 rfl r30.toR.sl) rfl (sq_v rfl (v_move rfl) rfl (sq_end (qs_s [PUn emp (hp w), h30, box b5 (ints arr) 109, box b1 [num k, num p, num n, vt, vo] 35] (fun _ s => Sat.merge (emp_sat (s.pick (HS' := [hp w, h30, box b5 (ints arr) 109, box b1 [num k, num p, num n, vt, vo] 35]) [4, 0, 1, 3] (by decide) rfl))) (qs_n (wp_bl ?_)))))))))); refine wp_lp (σ := Nat × (List Value) × PH × PH) (fun z_ => [(1, .pointer (some ⟨b1, 0, none⟩)), (2, .slice none 0 0), (3, .slice none 0 0), (4, num ts.length), (5, .pointer (some ⟨b5, 0, none⟩)), (7, v30), (32, num N), (33, num z_.1)]) (fun z_ => [(PUn z_.2.2.1 (hp w)), z_.2.2.2, box b5 (ints arr) 109, box b1 [num k, num p, num n, vt, vo] 35]) (fun z_ => z_.1 ≤ N ∧ PDj z_.2.2.1 (hp w) ∧ z_.2.1.length = N ∧ LabsR (labK ts op 0) z_.1 z_.2.1 (PUn z_.2.2.1 (hp w)) ∧ RowO 25 z_.2.1 N 1 v30 z_.2.2.2) (fun z_ => N - z_.1) (0, (List.replicate N (.slice none 0 0)), emp, h30) (⟨by (try dsimp only); omega, PDj.emp _, List.length_replicate, fun i hi => absurd hi (by omega), r30⟩) ⟨rfl, rfl, rfl, rfl, rfl, rfl, rfl, (by first | rfl | exact ksub rfl (by first | omega | (simp; done) | (simp; omega))), trivial⟩ (fun _ s => s) ?_; rintro ⟨z, vs, hl, hL⟩ ⟨hz, hdj, hvl, hLb, qL⟩; dsimp only at hz hdj hvl hLb qL ⊢; obtain ⟨csT, rrT, hcT⟩ := (r.mono (PLe.un_r hdj)).at; refine wp_sc (wp_sq (sq_v rfl (v_lss rfl rfl) rfl (sq_end (qs_n (wp_sc ?_))))); refine wp_cd rfl (fun c34 => ?_) (fun c34 => ?_)
  · refine wp_sk (qs_n (wp_sc (wp_bl (wp_sc (wp_sq (sq_v rfl (v_move rfl) rfl (sq_v rfl (v_assign rfl) rfl (sq_end (qs_n (wp_sq (sq_v rfl (v_move rfl) rfl (sq_v rfl (v_move rfl) rfl (sq_v rfl (v_loadNB 3 ty_35 rfl rfl rfl rfl) rfl (sq_v rfl (v_move rfl) rfl ?_)))))))))))))); refine sq_x rfl (x_call rfl en_107 (fun w s => ct_i_rawSetLabels _ _ _ _ _ _ _ _ w ((r.mono (PLe.un_r hdj)).mono (s.get 0 rfl)) ((r'.mono (PLe.un_r hdj)).mono (s.get 0 rfl)) haok htl hop (by first | assumption | omega) (by first | assumption | omega))) rfl ?_; rintro v40 h40 r40; refine sq_v rfl (v_idxR1 Try.underlying65 ty_25 rfl rfl qL.toR (by omega) (by omega)) rfl ?_; refine sq_m 2 rfl rfl (m_storeR1 2 ty_25 rfl rfl r40.toR.sl.one rfl qL (by omega)) rfl ?_; rintro _ h_qL ⟨rfl, qL2⟩; refine sq_end (qs_bn (qs_n (wp_sq ?_))); refine sq_v rfl (v_add rfl rfl ((by unfold I64; omega))) rfl ?_; refine sq_v rfl (v_move rfl) rfl (sq_end ?_); refine qs_dj 1 0 rfl rfl rfl (fun hdm => ?_); have hd1 : PDj hl h40 := hdm.mono (PLe.un_l _ _); have hd2 : PDj h40 (hp w) := (hdm.mono (PLe.un_r hdj)).symm; have hdj8 : PDj (PUn hl h40) (hp w) := PDj.un hdj hd2; have l1 : PLe (PUn hl (hp w)) (PUn (PUn hl h40) (hp w)) := PUn.mono_l (PLe.un_l _ _) hdj8; have l2 : PLe h40 (PUn (PUn hl h40) (hp w)) := (PLe.un_r hd1).trans (PLe.un_l _ _); rw [Int.toNat_natCast] at qL2; exact qs_bk (z + 1, (vs.set z v40), PUn hl h40, h_qL) ⟨by (try dsimp only); omega, hdj8, by (try dsimp only); rw [List.length_set]; exact hvl, (hLb.mono l1).next (by omega) (by rw [labK_zero]; exact r40.toR.mono l2), qL2⟩ (by simp only; omega) ⟨rfl, rfl, rfl, rfl, rfl, rfl, rfl, (by first | rfl | exact ksub rfl (by first | omega | (simp; done) | (simp; omega))), trivial⟩ (fun _ s => Sat.merge (Sat.merge ((Sat.part hdj (s.pick (HS' := [PUn hl (hp w), h40, h_qL, box b5 (ints arr) 109, box b1 [num k, num p, num n, vt, vo] 35]) [1, 0, 2, 3, 4] (by decide) rfl)).pick (HS' := [hl, h40, hp w, h_qL, box b5 (ints arr) 109, box b1 [num k, num p, num n, vt, vo] 35]) [0, 2, 1, 3, 4, 5] (by decide) rfl)))
  · refine wp_ex (qs_x (qs_x (qs_bx (qs_n (wp_sc (wp_sc (wp_sq (sq_v rfl (v_fieldAddr fd_35_1 ty_33 (by decide) rfl) rfl (sq_v rfl (v_loadB 3 ty_33 rfl rfl rfl) rfl (sq_v rfl (v_len Try.underlying33 rfl (r.mono (PLe.un_r hdj)).sl) rfl (sq_v rfl (v_move rfl) rfl (sq_end (qs_n (wp_bl ?_)))))))))))))); refine wp_lp (σ := Nat × (List Value) × PH) (fun z_ => [(2, .slice none 0 0), (3, .slice none 0 0), (4, num ts.length), (5, .pointer (some ⟨b5, 0, none⟩)), (7, v30), (44, vt), (45, num ts.length), (46, num z_.1)]) (fun z_ => [(PUn hl (hp w)), z_.2.2, box b5 (ints arr) 109, box b1 [num k, num p, num n, vt, vo] 35]) (fun z_ => z_.1 ≤ ts.length ∧ z_.2.1.length = N ∧ LabsR (labK ts op z_.1) N z_.2.1 (PUn hl (hp w)) ∧ RowO 25 z_.2.1 N 1 v30 z_.2.2) (fun z_ => ts.length - z_.1) (0, vs, hL) (⟨by (try dsimp only); omega, hvl, by (try dsimp only); rw [← show z = N by omega]; exact hLb, qL⟩) ⟨rfl, rfl, rfl, rfl, rfl, rfl, rfl, (by first | rfl | exact ksub rfl (by first | omega | (simp; done) | (simp; omega))), trivial⟩ (fun _ s => s) ?_; rintro ⟨j, us, hL2⟩ ⟨hj, hul, hLc, qU⟩; dsimp only at hj hul hLc qU ⊢; refine wp_sc (wp_sq (sq_v rfl (v_lss rfl rfl) rfl (sq_end (qs_n (wp_sc ?_))))); refine wp_cd rfl (fun c47 => ?_) (fun c47 => ?_)
    · refine wp_sk (qs_n (wp_sc (wp_bl (wp_sc (wp_sq (sq_v rfl (v_move rfl) rfl ?_)))))); obtain ⟨t49, a49, b49, c49, ht49, hcs49, rl49, rd49, rx49⟩ := hcT (j) (by first | omega | (rw [List.length_set]; omega)); refine sq_v rfl (v_indexAddr Try.underlying33 ty_108 rfl rfl rrT (by decide) (by omega) (by omega)) rfl ?_; refine sq_v rfl (v_loadNE 0 ty_108 rfl rfl rrT (by have := rrT.1; omega) rfl hcs49) rfl ?_; refine sq_x rfl (x_alloc ty_108 rfl) rfl ?_; rintro _ _ ⟨b10, rfl, rfl⟩; refine sq_v rfl (v_assign rfl) rfl ?_; refine sq_m 0 rfl rfl (m_store 0 ty_108 rfl rfl rfl rfl (by simp [rl49.sl.one, rd49.sl.one, rx49.sl.one]) rfl (Nat.le_of_ble_eq_true rfl)) rfl ?_; rintro _ _ ⟨rfl, rfl⟩; refine sq_end ?_; have hpj : 2 ^ j < N := by rw [hN]; exact Nat.pow_lt_pow_right (by decide) (by omega)
      have ePj : (2 : Int) ^ ((j : Int)).toNat = ((2 ^ j : Nat) : Int) := by rw [Int.toNat_natCast, ← pow_cast]
      have hpi : (1 : Int) ≤ 2 ^ ((j : Int)).toNat ∧ (2 : Int) ^ ((j : Int)).toNat < N := by rw [Int.toNat_natCast, ← pow_cast]; have := pow_few (m := j) (by omega); omega
      refine qs_n (wp_rj 6 [(0, true), (1, true), (2, true), (3, true), (4, true), (5, true), (6, false)] mixed_ok (by kernel_rfl) (rj_v rfl rfl (v_move rfl) rfl (rj_v rfl rfl (v_move rfl) rfl ?_))); refine rj_v rfl rfl (v_shl rfl rfl (by omega) (by omega) (by unfold I64; omega)) rfl ?_; refine rj_v rfl rfl (v_fieldAddr fd_108_0 ty_25 (by decide) rfl) rfl (rj_v rfl rfl (v_loadB 0 ty_25 rfl rfl rfl) rfl (rj_v rfl rfl (v_idxR1 Try.underlying65 ty_25 rfl rfl qU.toR (by omega) (by omega)) rfl ?_)); refine rj_m 2 rfl rfl rfl rfl (m_storeR1 2 ty_25 rfl rfl rl49.sl.one rfl qU (by omega)) rfl ?_; rintro _ h_qU ⟨rfl, qU2⟩; refine rj_end (qs_bn (qs_n (wp_sq ?_))); refine sq_v rfl (v_add rfl rfl ((by unfold I64; omega))) rfl ?_; refine sq_v rfl (v_move rfl) rfl (sq_end ?_); rw [show (1 * (2 : Int) ^ ((j : Int)).toNat).toNat = 2 ^ j by omega] at qU2; exact qs_bk (j + 1, (us.set (2 ^ j) a49), h_qU) ⟨by (try dsimp only); omega, by (try dsimp only); rw [List.length_set]; exact hul, labK_step (by omega) ht49 hLc hul hpj rl49, qU2⟩ (by simp only; omega) ⟨rfl, rfl, rfl, rfl, rfl, rfl, rfl, (by first | rfl | exact ksub rfl (by first | omega | (simp; done) | (simp; omega))), trivial⟩ (fun _ s => s.pick [1, 2, 3, 4] (by decide) rfl)
    · refine wp_ex (qs_x (qs_x (qs_bx (qs_n (wp_sc (wp_sq (sq_v rfl (v_move rfl) rfl ?_))))))); refine sq_v rfl (v_shl rfl rfl (by omega) (by omega) (by unfold I64; omega)) rfl ?_; refine sq_x rfl (x_makeI Try.underlying25 ty_3 rfl rfl (by first | omega | (simp; omega) | (simp only [List.length_append, List.length_cons, List.length_nil]; omega) | (rw [List.length_set]; omega)) (by first | omega | (simp; omega) | (simp only [List.length_append, List.length_cons, List.length_nil]; omega) | (rw [List.length_set]; omega)) (by first | omega | (simp; omega) | (simp only [List.length_append, List.length_cons, List.length_nil]; omega) | (rw [List.length_set]; omega))) rfl ?_; intro v60 h60 r60; refine sq_v rfl (v_assign rfl) rfl (sq_end (qs_n (wp_sc (wp_sq (sq_v rfl (v_move rfl) rfl ?_))))); refine sq_v rfl (v_shl rfl rfl (by omega) (by omega) (by unfold I64; omega)) rfl ?_; refine sq_x rfl (x_makeI Try.underlying25 ty_3 rfl rfl (by first | omega | (simp; omega) | (simp only [List.length_append, List.length_cons, List.length_nil]; omega) | (rw [List.length_set]; omega)) (by first | omega | (simp; omega) | (simp only [List.length_append, List.length_cons, List.length_nil]; omega) | (rw [List.length_set]; omega)) (by first | omega | (simp; omega) | (simp only [List.length_append, List.length_cons, List.length_nil]; omega) | (rw [List.length_set]; omega))) rfl ?_; intro v63 h63 r63; refine sq_v rfl (v_assign rfl) rfl (sq_end (qs_n (wp_sc (wp_sc (wp_sq (sq_v rfl (v_assign rfl) rfl (sq_end ?_))))))); have hLS : LabsR (fun z => labS ts op (z : Int)) N us (PUn hl (hp w)) := fun i hi => by
        obtain ⟨x, e, q⟩ := hLc i hi; rw [show j = ts.length by omega, labK_full] at q; exact ⟨x, e, q⟩
      have eN2 : (1 * (2 : Int) ^ ((ts.length : Int)).toNat).toNat = N := by omega
      rw [eN2] at r60 r63; refine qs_n (wp_bl ?_); refine wp_lp (σ := Nat × PH × PH) (fun z_ => [(2, .slice none 0 0), (3, .slice none 0 0), (4, num ts.length), (5, .pointer (some ⟨b5, 0, none⟩)), (7, v30), (11, v60), (12, v63), (13, num z_.1)]) (fun z_ => [z_.2.2, z_.2.1, (PUn hl (hp w)), hL2, box b5 (ints arr) 109, box b1 [num k, num p, num n, vt, vo] 35]) (fun z_ => (1 ≤ z_.1 ∧ z_.1 ≤ N) ∧ IntsO (padL (tab ts op z_.1).1 N) v60 z_.2.1 ∧ IntsO (padL (tab ts op z_.1).2 N) v63 z_.2.2) (fun z_ => N - z_.1) (1, h60, h63) (⟨by (try dsimp only); omega, by (try dsimp only); rw [(tab_one (s := 0) (by omega) (by decide) (by omega)).1, show (tab ts op 0).1 = [] from rfl, padL_nil]; exact r60, by (try dsimp only); rw [(tab_one (s := 0) (by omega) (by decide) (by omega)).2, show (tab ts op 0).2 = [] from rfl, padL_nil]; exact r63⟩) ⟨rfl, rfl, rfl, rfl, rfl, rfl, rfl, (by first | rfl | exact ksub rfl (by first | omega | (simp; done) | (simp; omega))), trivial⟩ (fun _ s => s) ?_; rintro ⟨z, gC, gF⟩ ⟨hz1, qC, qF⟩; dsimp only at hz1 qC qF ⊢; have hle_qC := qC.toR.le; have hle_qF := qF.toR.le; have htl1 := tab_len ts op z; have hpl1 := padL_len (l := (tab ts op z).1) (N := N) (by omega); have hpl2 := padL_len (l := (tab ts op z).2) (N := N) (by omega); refine wp_sc (wp_sc (wp_sq (sq_v rfl (v_move rfl) rfl (sq_v rfl (v_move rfl) rfl ?_)))); refine sq_v rfl (v_shl rfl rfl (by omega) (by omega) (by unfold I64; omega)) rfl ?_; refine sq_v rfl (v_lss rfl rfl) rfl (sq_end (qs_n ?_)); refine wp_cd rfl (fun c67 => ?_) (fun c67 => ?_)
      · refine wp_sk (qs_n (wp_sc (wp_bl (wp_sc (wp_sq (sq_v rfl (v_move rfl) rfl (sq_v rfl (v_move rfl) rfl ?_))))))); refine sq_v rfl (v_neg rfl (by unfold I64; omega)) rfl ?_; refine sq_v rfl (v_andL rfl rfl (low_pos (s := z) (by omega)).1 (by have := (low_pos (s := z) (by omega)).2; omega)) rfl ?_; refine sq_v rfl (v_assign rfl) rfl (sq_end (qs_n (wp_sc (wp_sq (sq_v rfl (v_assign rfl) rfl (sq_end ?_)))))); have hzl := low_pos (s := z) (by omega); have hlo : 0 ≤ lowI z ∧ lowI z ≤ (z : Int) := by unfold lowI; omega
        refine qs_n (wp_bl ?_); refine wp_lp (σ := Nat × PH × PH) (fun z_ => [(2, .slice none 0 0), (3, .slice none 0 0), (4, num ts.length), (5, .pointer (some ⟨b5, 0, none⟩)), (7, v30), (11, v60), (12, v63), (13, num z), (14, num (lowI z)), (15, num z_.1), (64, num z), (65, num ts.length), (70, num z), (71, num z), (72, num (0 - z)), (73, num (lowI z))]) (fun z_ => [z_.2.2, z_.2.1, (PUn hl (hp w)), hL2, box b5 (ints arr) 109, box b1 [num k, num p, num n, vt, vo] 35]) (fun z_ => (1 ≤ z_.1 ∧ z_.1 ≤ z) ∧ IntsO (curL (tab ts op z).1 (bst ts op (tab ts op z).1 z z_.1).2 N) v60 z_.2.1 ∧ IntsO (curL (tab ts op z).2 ((bst ts op (tab ts op z).1 z z_.1).1 : Int) N) v63 z_.2.2) (fun z_ => z - z_.1) (1, gC, gF) (⟨by (try dsimp only); omega, by (try dsimp only); have q := qC; rw [padL_cur (by omega)] at q; rw [bst_one]; exact q, by (try dsimp only); have q := qF; rw [padL_cur (by omega)] at q; rw [bst_one]; exact q⟩) ⟨rfl, rfl, rfl, rfl, rfl, rfl, rfl, rfl, rfl, (by first | rfl | exact ksub rfl (by first | omega | (simp; done) | (simp; omega))), rfl, rfl, rfl, rfl, rfl, rfl, trivial⟩ (fun _ s => s) ?_; rintro ⟨a, g1, g2⟩ ⟨ha1, q1, q2⟩; dsimp only at ha1 q1 q2 ⊢; have hle_q1 := q1.toR.le; have hle_q2 := q2.toR.le; have hcl1 := curL_len (l := (tab ts op z).1) (c := (bst ts op (tab ts op z).1 z a).2) (N := N) (by omega); have hcl2 := curL_len (l := (tab ts op z).2) (c := ((bst ts op (tab ts op z).1 z a).1 : Int)) (N := N) (by omega); have hbo := bst_ok (ts := ts) (op := op) (C := (tab ts op z).1) (s := z) a; have hCr := tab_in (ts := ts) (op := op) (fun z y => by have := (joinS_prod hnet z y).2; omega) z; have hbi := bst_in (ts := ts) (op := op) (C := (tab ts op z).1) (s := z) (fun a => sumS_in hCr (by have := (joinS_prod hnet (a : Int) ((z - a : Nat) : Int)).2; omega)) a; have hpb : partB z a = true ↔ (a &&& z = a ∧ a &&& lowN z ≠ 0) := by simp [partB]
        have hat := curL_at (l := (tab ts op z).1) (c := (bst ts op (tab ts op z).1 z a).2) (N := N) (s := z) (by omega); have hat2 := curL_at (l := (tab ts op z).2) (c := ((bst ts op (tab ts op z).1 z a).1 : Int)) (N := N) (s := z) (by omega); have e1 : ((((a : Int)).toNat &&& ((z : Int)).toNat : Nat) : Int) = ((a &&& z : Nat) : Int) := by simp only [Int.toNat_natCast]
        have e2 : ((((a : Int)).toNat &&& (lowI z).toNat : Nat) : Int) = ((a &&& lowN z : Nat) : Int) := by simp only [lowI, Int.toNat_natCast]
        have hza : ((z : Int) - (a : Int)).toNat = z - a := by omega
        refine wp_sc (wp_sc (wp_sq (sq_v rfl (v_move rfl) rfl (sq_v rfl (v_move rfl) rfl (sq_v rfl (v_lss rfl rfl) rfl (sq_end (qs_n ?_))))))); refine wp_cd rfl (fun c76 => ?_) (fun c76 => ?_)
        · refine wp_sk (qs_n (wp_sc (wp_bl (wp_sc (wp_sc (wp_sq (sq_v rfl (v_move rfl) rfl (sq_v rfl (v_move rfl) rfl (sq_v rfl (v_and rfl rfl ⟨by omega, by omega⟩ ⟨by omega, by omega⟩) rfl (sq_v rfl (v_move rfl) rfl (sq_v rfl (v_neq rfl rfl) rfl ?_))))))))))); refine sq_bd 83 rfl (fun c83 => ?_) (fun c83 => ?_)
          · refine sq_v rfl (v_move rfl) rfl (sq_s rfl rfl (sq_s rfl rfl (sq_s rfl rfl (sq_s rfl rfl (sq_v rfl (v_pickt rfl rfl) rfl (sq_end (qs_n (wp_ct rfl (wp_ex (qs_x (qs_bx (qs_n (wp_sq (sq_v rfl (v_move rfl) rfl ?_)))))))))))))); refine sq_v rfl (v_add rfl rfl ((by unfold I64; omega))) rfl ?_; refine sq_v rfl (v_assign rfl) rfl (sq_end ?_); exact qs_bk (a + 1, g1, g2) ⟨by (try dsimp only); omega, by (try dsimp only); rw [bst_no (fun hp => absurd (by rw [e1, (hpb.1 hp).1]) c83)]; exact q1, by (try dsimp only); rw [bst_no (fun hp => absurd (by rw [e1, (hpb.1 hp).1]) c83)]; exact q2⟩ (by simp only; omega) ⟨rfl, rfl, rfl, rfl, rfl, rfl, rfl, rfl, rfl, (by first | rfl | exact ksub rfl (by first | omega | (simp; done) | (simp; omega))), rfl, rfl, rfl, rfl, rfl, rfl, trivial⟩ (fun _ s => s)
          · refine sq_v rfl (v_move rfl) rfl (sq_v rfl (v_move rfl) rfl (sq_v rfl (v_move rfl) rfl (sq_v rfl (v_and rfl rfl ⟨by omega, by omega⟩ ⟨by omega, by omega⟩) rfl (sq_v rfl (v_eql rfl rfl) rfl (sq_v rfl (v_pickf rfl rfl) rfl (sq_end (qs_n ?_))))))); refine wp_cd rfl (fun c89 => ?_) (fun c89 => ?_)
            · refine wp_ex (qs_x (qs_bx (qs_n (wp_sq (sq_v rfl (v_move rfl) rfl ?_))))); refine sq_v rfl (v_add rfl rfl ((by unfold I64; omega))) rfl ?_; refine sq_v rfl (v_assign rfl) rfl (sq_end ?_); exact qs_bk (a + 1, g1, g2) ⟨by (try dsimp only); omega, by (try dsimp only); rw [bst_no (fun hp => absurd (Int.ofNat_eq_zero.1 (e2.symm.trans c89)) (hpb.1 hp).2)]; exact q1, by (try dsimp only); rw [bst_no (fun hp => absurd (Int.ofNat_eq_zero.1 (e2.symm.trans c89)) (hpb.1 hp).2)]; exact q2⟩ (by simp only; omega) ⟨rfl, rfl, rfl, rfl, rfl, rfl, rfl, rfl, rfl, (by first | rfl | exact ksub rfl (by first | omega | (simp; done) | (simp; omega))), rfl, rfl, rfl, rfl, rfl, rfl, trivial⟩ (fun _ s => s)
            · refine wp_sk (qs_n (wp_sc (wp_sq (sq_v rfl (v_move rfl) rfl (sq_v rfl (v_move rfl) rfl ?_))))); refine sq_v rfl (v_andnW rfl rfl (by omega) (by omega) (show andnW (z : Int) (a : Int) = (z : Int) - (a : Int) by have hq := part_diff ⟨z, by omega⟩ ⟨a, by omega⟩ (Int.ofNat_inj.1 (e1.symm.trans (by first | exact c83 | exact Classical.not_not.1 c83))); have h2 := hq.2; rw [hq.1]; dsimp only at h2 ⊢; omega)) rfl ?_; refine sq_v rfl (v_assign rfl) rfl (sq_end ?_); have hp : partB z a = true := hpb.2 ⟨Int.ofNat_inj.1 (e1.symm.trans (by first | exact c83 | exact Classical.not_not.1 c83)), fun h0 => c89 (e2.trans (by rw [h0]; rfl))⟩; obtain ⟨xa, hxa, rxa⟩ := hLS a (by omega); obtain ⟨xb, hxb, rxb⟩ := hLS (z - a) (by omega); dsimp only at rxa rxb; have hna := labS_nodup hnet (a : Int); have hnb := labS_nodup hnet ((z - a : Nat) : Int); have hjf := joinS_fit hnet (a : Int) ((z - a : Nat) : Int); have hjp := joinS_prod hnet (a : Int) ((z - a : Nat) : Int); have hao := arrOf_eq hinv (fun x hx => (hjf x hx).1); have hjl := joinI_len (labS ts op (a : Int)) (labS ts op ((z - a : Nat) : Int))
              skip
              refine qs_n (wp_sc (wp_rj 14 [(0, true), (1, true), (2, true), (3, true), (4, true), (5, true), (6, true), (7, true), (8, true), (9, false), (10, false), (11, true), (12, false), (13, true)] mixed_ok (by kernel_rfl) ?_)); refine rj_v rfl rfl (v_loadNB 4 ty_109 rfl rfl (by rw [ints_length]; exact hal) (by rw [List.drop_zero, List.take_of_length_le]; rw [ints_length, hal]; omega)) rfl ?_; refine rj_v rfl rfl (v_move rfl) rfl (rj_v rfl rfl (v_move rfl) rfl (rj_v rfl rfl (v_idxR1 Try.underlying65 ty_25 rfl rfl qU.toR (by omega) (by omega)) rfl ?_)); refine rj_v rfl rfl (v_loadE 3 ty_25 rfl rfl qU.toR (by rw [Int.toNat_natCast]; exact hxa)) rfl ?_; refine rj_v rfl rfl (v_move rfl) rfl (rj_v rfl rfl (v_move rfl) rfl (rj_v rfl rfl (v_idxR1 Try.underlying65 ty_25 rfl rfl qU.toR (by omega) (by omega)) rfl ?_)); refine rj_v rfl rfl (v_loadE 3 ty_25 rfl rfl qU.toR (by rw [hza]; exact hxb)) rfl ?_; refine rj_x rfl rfl (x_call rfl en_109 (fun w s => ct_i_joinLabels _ _ _ _ w (rxa.mono (s.get 2 rfl)) (rxb.mono (s.get 2 rfl)) (by first | assumption | omega))) rfl ?_; rintro v102 h102 r102; refine rj_x rfl rfl (x_call rfl en_71 (fun w s => ct_i_axesOf _ _ _ w (r102.toR.mono (s.get 0 rfl)) hal (fun x hx => (hjf x hx).1) (by first | assumption | omega))) rfl ?_; rintro _ h103 ⟨u1, u2, rfl, ru1, ru2⟩; refine rj_v rfl rfl (v_field1 fd_108_1 ty_25 rfl rfl) rfl ?_; refine rj_u rfl rfl (x_callv rfl en_108 (fun w s => ct_i_cappedProduct _ _ _ w (ru2.mono (s.get 0 rfl)) (by rw [hao]; exact hjp.1) (by first | assumption | omega))) rfl ?_; refine rj_v rfl rfl (v_assign rfl) rfl (rj_end ?_); have hlw := curL_low (l := (tab ts op z).1) (c := (bst ts op (tab ts op z).1 z a).2) (N := N) (a := a) (by omega); have hlw2 := curL_low (l := (tab ts op z).1) (c := (bst ts op (tab ts op z).1 z a).2) (N := N) (a := ((z : Int) - (a : Int)).toNat) (by omega); have hr1 := hCr a; have hr2 := hCr ((z : Int) - (a : Int)).toNat; have hP1 : 1 ≤ prodI (arrOf arr (joinI (labS ts op (a : Int)) (labS ts op ((z - a : Nat) : Int)))) := by rw [hao]; exact hjp.2
              have eS : (min ((curL (tab ts op z).1 (bst ts op (tab ts op z).1 z a).2 N).getD a 0 + (curL (tab ts op z).1 (bst ts op (tab ts op z).1 z a).2 N).getD ((z : Int) - (a : Int)).toNat 0 + (min (prodI (arrOf arr (joinI (labS ts op (a : Int)) (labS ts op ((z - a : Nat) : Int))))) 1000000000)) 1000000000) = sumS ts op (tab ts op z).1 z a := by
                rw [hza] at hlw2 hr2 ⊢; rw [hao] at hP1 ⊢
                unfold sumS
                unfold dimsFor at hP1 ⊢
                omega
              refine qs_n (wp_sc (wp_rj 13 [(0, true), (1, true), (2, true), (3, true), (4, true), (5, true), (6, true), (7, true), (8, true), (9, true), (10, true), (11, true), (12, true)] mixed_ok (by kernel_rfl) (rj_v rfl rfl (v_move rfl) rfl (rj_v rfl rfl (v_move rfl) rfl ?_)))); refine rj_v rfl rfl (v_idxI Try.underlying25 ty_3 rfl rfl q1.toR (by first | omega | (simp; omega) | (simp only [List.length_append, List.length_cons, List.length_nil]; omega) | (rw [List.length_set]; omega)) (by first | omega | (simp; omega) | (simp only [List.length_append, List.length_cons, List.length_nil]; omega) | (rw [List.length_set]; omega))) rfl ?_; refine rj_v rfl rfl (v_loadI (k := a) 3 ty_3 rfl rfl q1.toR (by first | omega | (simp; omega) | (simp only [List.length_append, List.length_cons, List.length_nil]; omega) | (rw [List.length_set]; omega))) rfl ?_; refine rj_v rfl rfl (v_move rfl) rfl (rj_v rfl rfl (v_move rfl) rfl ?_); refine rj_v rfl rfl (v_idxI Try.underlying25 ty_3 rfl rfl q1.toR (by first | omega | (simp; omega) | (simp only [List.length_append, List.length_cons, List.length_nil]; omega) | (rw [List.length_set]; omega)) (by first | omega | (simp; omega) | (simp only [List.length_append, List.length_cons, List.length_nil]; omega) | (rw [List.length_set]; omega))) rfl ?_; refine rj_v rfl rfl (v_loadI  3 ty_3 rfl rfl q1.toR (by first | omega | (simp; omega) | (simp only [List.length_append, List.length_cons, List.length_nil]; omega) | (rw [List.length_set]; omega))) rfl ?_; refine rj_v rfl rfl (v_add rfl rfl ((by unfold I64; omega))) rfl ?_; refine rj_v rfl rfl (v_move rfl) rfl ?_; refine rj_v rfl rfl (v_add rfl rfl ((by unfold I64; omega))) rfl ?_; refine rj_v rfl rfl (v_min rfl rfl) rfl (rj_v rfl rfl (v_assign rfl) rfl (rj_end (qs_n (wp_sc (wp_sq (sq_v rfl (v_move rfl) rfl (sq_v rfl (v_move rfl) rfl ?_))))))); refine sq_v rfl (v_idxI Try.underlying25 ty_3 rfl rfl q2.toR (by first | omega | (simp; omega) | (simp only [List.length_append, List.length_cons, List.length_nil]; omega) | (rw [List.length_set]; omega)) (by first | omega | (simp; omega) | (simp only [List.length_append, List.length_cons, List.length_nil]; omega) | (rw [List.length_set]; omega))) rfl ?_; refine sq_v rfl (v_loadI (k := z) 2 ty_3 rfl rfl q2.toR (by first | omega | (simp; omega) | (simp only [List.length_append, List.length_cons, List.length_nil]; omega) | (rw [List.length_set]; omega))) rfl ?_; refine sq_v rfl (v_eql rfl rfl) rfl ?_; refine sq_bd 122 rfl (fun c122 => ?_) (fun c122 => ?_)
              · refine sq_v rfl (v_move rfl) rfl (sq_s rfl rfl (sq_s rfl rfl (sq_s rfl rfl (sq_s rfl rfl (sq_s rfl rfl (sq_s rfl rfl (sq_v rfl (v_pickt rfl rfl) rfl (sq_end (qs_n (wp_ct rfl (wp_sc (wp_sq (sq_v rfl (v_move rfl) rfl ?_))))))))))))); refine sq_v rfl (v_move rfl) rfl (sq_v rfl (v_move rfl) rfl ?_); refine sq_v rfl (v_idxI Try.underlying25 ty_3 rfl rfl q2.toR (by first | omega | (simp; omega) | (simp only [List.length_append, List.length_cons, List.length_nil]; omega) | (rw [List.length_set]; omega)) (by first | omega | (simp; omega) | (simp only [List.length_append, List.length_cons, List.length_nil]; omega) | (rw [List.length_set]; omega))) rfl ?_; refine sq_m 2 rfl rfl (m_storeI (k := z) 2 ty_3 rfl rfl rfl q2 (by first | omega | (simp; omega) | (simp only [List.length_append, List.length_cons, List.length_nil]; omega) | (rw [List.length_set]; omega))) rfl ?_; rintro _ h_q28_4 ⟨rfl, q28_4⟩; refine sq_end (qs_n (wp_sq (sq_v rfl (v_move rfl) rfl (sq_v rfl (v_move rfl) rfl (sq_v rfl (v_move rfl) rfl ?_))))); refine sq_v rfl (v_idxI Try.underlying25 ty_3 rfl rfl q1.toR (by first | omega | (simp; omega) | (simp only [List.length_append, List.length_cons, List.length_nil]; omega) | (rw [List.length_set]; omega)) (by first | omega | (simp; omega) | (simp only [List.length_append, List.length_cons, List.length_nil]; omega) | (rw [List.length_set]; omega))) rfl ?_; refine sq_m 3 rfl rfl (m_storeI (k := z) 3 ty_3 rfl rfl rfl q1 (by first | omega | (simp; omega) | (simp only [List.length_append, List.length_cons, List.length_nil]; omega) | (rw [List.length_set]; omega))) rfl ?_; rintro _ h_q29_4 ⟨rfl, q29_4⟩; refine sq_end (qs_bn (qs_n (wp_sq (sq_v rfl (v_move rfl) rfl ?_)))); refine sq_v rfl (v_add rfl rfl ((by unfold I64; omega))) rfl ?_; refine sq_v rfl (v_assign rfl) rfl (sq_end ?_); have hbs : (bst ts op (tab ts op z).1 z a).1 = 0 ∨ sumS ts op (tab ts op z).1 z a < (bst ts op (tab ts op z).1 z a).2 := .inl (by rw [hat2] at c122; omega); exact qs_bk (a + 1, h_q29_4, h_q28_4) ⟨by (try dsimp only); omega, by (try dsimp only); rw [curL_set _ (by omega), eS] at q29_4; rw [bst_yes hp hbs]; exact q29_4, by (try dsimp only); rw [curL_set _ (by omega)] at q28_4; rw [bst_yes hp hbs]; exact q28_4⟩ (by simp only; omega) ⟨rfl, rfl, rfl, rfl, rfl, rfl, rfl, rfl, rfl, (by first | rfl | exact ksub rfl (by first | omega | (simp; done) | (simp; omega))), rfl, rfl, rfl, rfl, rfl, rfl, trivial⟩ (fun _ s => s.pick [2, 3, 4, 5, 6, 7] (by decide) rfl)
              · refine sq_v rfl (v_move rfl) rfl (sq_v rfl (v_move rfl) rfl (sq_v rfl (v_move rfl) rfl (sq_v rfl (v_move rfl) rfl ?_))); refine sq_v rfl (v_idxI Try.underlying25 ty_3 rfl rfl q1.toR (by first | omega | (simp; omega) | (simp only [List.length_append, List.length_cons, List.length_nil]; omega) | (rw [List.length_set]; omega)) (by first | omega | (simp; omega) | (simp only [List.length_append, List.length_cons, List.length_nil]; omega) | (rw [List.length_set]; omega))) rfl ?_; refine sq_v rfl (v_loadI (k := z) 3 ty_3 rfl rfl q1.toR (by first | omega | (simp; omega) | (simp only [List.length_append, List.length_cons, List.length_nil]; omega) | (rw [List.length_set]; omega))) rfl ?_; refine sq_v rfl (v_lss rfl rfl) rfl (sq_v rfl (v_pickf rfl rfl) rfl (sq_end (qs_n ?_))); refine wp_cd rfl (fun c130 => ?_) (fun c130 => ?_)
                · refine wp_sc (wp_sq (sq_v rfl (v_move rfl) rfl (sq_v rfl (v_move rfl) rfl (sq_v rfl (v_move rfl) rfl ?_)))); refine sq_v rfl (v_idxI Try.underlying25 ty_3 rfl rfl q2.toR (by first | omega | (simp; omega) | (simp only [List.length_append, List.length_cons, List.length_nil]; omega) | (rw [List.length_set]; omega)) (by first | omega | (simp; omega) | (simp only [List.length_append, List.length_cons, List.length_nil]; omega) | (rw [List.length_set]; omega))) rfl ?_; refine sq_m 2 rfl rfl (m_storeI (k := z) 2 ty_3 rfl rfl rfl q2 (by first | omega | (simp; omega) | (simp only [List.length_append, List.length_cons, List.length_nil]; omega) | (rw [List.length_set]; omega))) rfl ?_; rintro _ h_q28_4 ⟨rfl, q28_4⟩; refine sq_end (qs_n (wp_sq (sq_v rfl (v_move rfl) rfl (sq_v rfl (v_move rfl) rfl (sq_v rfl (v_move rfl) rfl ?_))))); refine sq_v rfl (v_idxI Try.underlying25 ty_3 rfl rfl q1.toR (by first | omega | (simp; omega) | (simp only [List.length_append, List.length_cons, List.length_nil]; omega) | (rw [List.length_set]; omega)) (by first | omega | (simp; omega) | (simp only [List.length_append, List.length_cons, List.length_nil]; omega) | (rw [List.length_set]; omega))) rfl ?_; refine sq_m 3 rfl rfl (m_storeI (k := z) 3 ty_3 rfl rfl rfl q1 (by first | omega | (simp; omega) | (simp only [List.length_append, List.length_cons, List.length_nil]; omega) | (rw [List.length_set]; omega))) rfl ?_; rintro _ h_q29_4 ⟨rfl, q29_4⟩; refine sq_end (qs_bn (qs_n (wp_sq (sq_v rfl (v_move rfl) rfl ?_)))); refine sq_v rfl (v_add rfl rfl ((by unfold I64; omega))) rfl ?_; refine sq_v rfl (v_assign rfl) rfl (sq_end ?_); have hbs : (bst ts op (tab ts op z).1 z a).1 = 0 ∨ sumS ts op (tab ts op z).1 z a < (bst ts op (tab ts op z).1 z a).2 := .inr (by rw [hat, eS] at c130; exact c130); exact qs_bk (a + 1, h_q29_4, h_q28_4) ⟨by (try dsimp only); omega, by (try dsimp only); rw [curL_set _ (by omega), eS] at q29_4; rw [bst_yes hp hbs]; exact q29_4, by (try dsimp only); rw [curL_set _ (by omega)] at q28_4; rw [bst_yes hp hbs]; exact q28_4⟩ (by simp only; omega) ⟨rfl, rfl, rfl, rfl, rfl, rfl, rfl, rfl, rfl, (by first | rfl | exact ksub rfl (by first | omega | (simp; done) | (simp; omega))), rfl, rfl, rfl, rfl, rfl, rfl, trivial⟩ (fun _ s => s.pick [2, 3, 4, 5, 6, 7] (by decide) rfl)
                · refine wp_sk (qs_bn (qs_n (wp_sq (sq_v rfl (v_move rfl) rfl ?_)))); refine sq_v rfl (v_add rfl rfl ((by unfold I64; omega))) rfl ?_; refine sq_v rfl (v_assign rfl) rfl (sq_end ?_); have hbs : ¬ ((bst ts op (tab ts op z).1 z a).1 = 0 ∨ sumS ts op (tab ts op z).1 z a < (bst ts op (tab ts op z).1 z a).2) := by rw [hat, eS] at c130; rw [hat2] at c122; omega
                  exact qs_bk (a + 1, g1, g2) ⟨by (try dsimp only); omega, by (try dsimp only); rw [bst_no (fun _ => hbs)]; exact q1, by (try dsimp only); rw [bst_no (fun _ => hbs)]; exact q2⟩ (by simp only; omega) ⟨rfl, rfl, rfl, rfl, rfl, rfl, rfl, rfl, rfl, (by first | rfl | exact ksub rfl (by first | omega | (simp; done) | (simp; omega))), rfl, rfl, rfl, rfl, rfl, rfl, trivial⟩ (fun _ s => s.pick [2, 3, 4, 5, 6, 7] (by decide) rfl)
        · refine wp_ex (qs_x (qs_x (qs_bx (qs_bn (qs_n (wp_sq (sq_v rfl (v_move rfl) rfl ?_))))))); refine sq_v rfl (v_add rfl rfl ((by unfold I64; omega))) rfl ?_; refine sq_v rfl (v_assign rfl) rfl (sq_end ?_); have hzl := low_pos (s := z) (by omega); have eaz : a = z := by omega
          exact qs_bk (z + 1, g1, g2) ⟨by (try dsimp only); omega, by (try dsimp only); rw [(tab_two (by omega)).1]; rw [eaz] at q1; exact q1, by (try dsimp only); rw [(tab_two (by omega)).2]; rw [eaz] at q2; exact q2⟩ (by simp only; omega) ⟨rfl, rfl, rfl, rfl, rfl, rfl, rfl, (by first | rfl | exact ksub rfl (by first | omega | (simp; done) | (simp; omega))), trivial⟩ (fun _ s => s)
      · refine wp_ex (qs_x (qs_x (qs_bx (qs_n (wp_sc (wp_sq (sq_v rfl (v_move rfl) rfl (sq_v rfl (v_move rfl) rfl (sq_v rfl (v_assign rfl) rfl (sq_v rfl (v_assign rfl) rfl (sq_end (qs_n (wp_rt ?_))))))))))))); have ez : z = N := by omega
        rw [ez, padL_full (by rw [(tab_len ts op N).1])] at qC; rw [ez, padL_full (by rw [(tab_len ts op N).2])] at qF; refine qs_s [hl, hp w, gC, gF] (fun _ s => Sat.part hdj (s.pick [2, 1, 0] (by decide) rfl)) ?_; refine qs_close [hp w] [gC, gF] (fun _ s => s.pick [1, 2, 3] (by decide) rfl) (fun md => ?_); exact qs_ret2 rfl rfl rfl (fin_t 0 (i := 1) rfl rfl rfl ⟨v60, v63, gC, gF, rfl, by rw [← hN]; exact qC, by rw [← hN]; exact qF, md⟩)
end Go.Proofs.Ytmddmahaikineaa
namespace Go.Proofs.Ytmddmahaikineaa
set_option maxRecDepth 100000
open Go.RowKit
theorem one_bit : ∀ j i : Fin 7, i.val ≤ j.val → ((2 ^ j.val / 2 ^ i.val) &&& 1 = 0 ↔ i.val ≠ j.val) := by decide +kernel
/-- A list of steps behind a pointer. -/
def StepsP (bb : Nat) (o : List Stp) (h : PH) : Prop := ∃ v g, StepsO o v g ∧ Made h [box bb [v] 29, g]
set_option maxHeartbeats 2000000 in
theorem ct_r_bestSteps (F : List Int) (m k : Nat) (z : Int) (o : List Stp) (bb : Nat) (vF : Value) (w : World) (h : PH) (hle : PLe h (hp w)) (hF : firstOK F m) (h0 : 0 < z) (h1 : z.toNat < 2 ^ m) (hk : z.toNat ≤ k + 1) (hol : o.length + z.toNat ≤ 1000)
    (ih : ∀ (z : Int) (o : List Stp) (w : World) (h : PH), PLe h (hp w) → IntsR F vF (restP w h) → StepsP bb o h → 0 < z → z.toNat < 2 ^ m → z.toNat ≤ k → o.length + z.toNat ≤ 1000 → Calls Try.prog 49 [num m, vF, num z, .pointer (some ⟨bb, 0, none⟩)].toArray w (Ret w h (fun u h' => u = num (bS F m k z.toNat o).2 ∧ StepsP bb (bS F m k z.toNat o).1 h' ∧ (bS F m k z.toNat o).1.length < o.length + z.toNat ∧ 0 ≤ (bS F m k z.toNat o).2 ∧ (bS F m k z.toNat o).2 ≤ 2000)))
    (r : IntsR F vF (restP w h)) (ro : StepsP bb o h) :
    Calls Try.prog 49 [num m, vF, num z, .pointer (some ⟨bb, 0, none⟩)].toArray w (Ret w h (fun u h' => u = num (bS F m (k + 1) z.toNat o).2 ∧ StepsP bb (bS F m (k + 1) z.toNat o).1 h' ∧ (bS F m (k + 1) z.toNat o).1.length < o.length + z.toNat ∧ 0 ≤ (bS F m (k + 1) z.toNat o).2 ∧ (bS F m (k + 1) z.toNat o).2 ≤ 2000)) := by
  have hpf := pow_few hF.2.1; have hm7 := hF.2.1; have hFl := hF.1; have hFz := hF.2.2 z.toNat (by omega) h1; refine calls_in Try.func49 rfl Try.ntmps49 rfl (Sat.start2 hle) ?_; have hle0 := r.le; refine wp_sc (wp_sq (sq_v rfl (v_assign rfl) rfl (sq_end (qs_n (wp_sc (wp_sc (wp_sq (sq_v rfl (v_move rfl) rfl (sq_v rfl (v_move rfl) rfl ?_))))))))); refine sq_v rfl (v_idxI Try.underlying25 ty_3 rfl rfl r (by first | omega | (simp; omega) | (simp only [List.length_append, List.length_cons, List.length_nil]; omega) | (rw [List.length_set]; omega)) (by first | omega | (simp; omega) | (simp only [List.length_append, List.length_cons, List.length_nil]; omega) | (rw [List.length_set]; omega))) rfl ?_; refine sq_v rfl (v_loadI  1 ty_3 rfl rfl r (by first | omega | (simp; omega) | (simp only [List.length_append, List.length_cons, List.length_nil]; omega) | (rw [List.length_set]; omega))) rfl ?_; refine sq_v rfl (v_eql rfl rfl) rfl (sq_end (qs_n ?_)); refine wp_cd rfl (fun c16 => ?_) (fun c16 => ?_)
  · refine wp_sc (wp_sq (sq_v rfl (v_assign rfl) rfl (sq_end ?_))); have hlo := hFz.1.1 c16; have h7 : oneI z.toNat < 7 ∧ z.toNat = 2 ^ oneI z.toNat := oneI_at ⟨z.toNat, by omega⟩ (show 0 < z.toNat by omega) hlo; obtain ⟨j, hj⟩ : ∃ j, j = oneI z.toNat := ⟨_, rfl⟩
    rw [← hj] at h7; have hzj : z = ((2 ^ j : Nat) : Int) := by omega
    refine qs_n (wp_sc (wp_bl ?_)); refine wp_lp (σ := Nat) (fun z_ => [(0, num m), (1, vF), (2, num z), (3, .pointer (some ⟨bb, 0, none⟩)), (8, num 0), (9, num z_)]) (fun z_ => [h, (restP w h)]) (fun z_ => z_ ≤ j) (fun z_ => j - z_) 0 (by omega) ⟨rfl, rfl, rfl, (by first | rfl | exact ksub rfl (by first | omega | (simp; done) | (simp; omega))), rfl, (by first | rfl | exact ksub rfl (by first | omega | (simp; done) | (simp; omega))), trivial⟩ (fun _ s => s) ?_; rintro i hi; have hdv : (z / 2 ^ ((i : Int)).toNat).toNat = 2 ^ j / 2 ^ i := by rw [Int.toNat_natCast, ← pow_cast, hzj, ← Int.natCast_ediv, Int.toNat_natCast]
    have hdb : 0 ≤ z / 2 ^ ((i : Int)).toNat ∧ z / 2 ^ ((i : Int)).toNat ≤ z := ⟨Int.ediv_nonneg (by omega) (Int.pow_nonneg (by decide)), Int.ediv_le_self _ (by omega)⟩
    have hob := one_bit ⟨j, h7.1⟩ ⟨i, by omega⟩ hi; refine wp_sc (wp_sc (wp_sq (sq_v rfl (v_move rfl) rfl (sq_v rfl (v_move rfl) rfl (sq_v rfl (v_shr rfl rfl (by omega) (by omega)) rfl (sq_v rfl (v_and rfl rfl ⟨by omega, by omega⟩ ⟨by omega, by omega⟩) rfl (sq_v rfl (v_eql rfl rfl) rfl (sq_end (qs_n ?_))))))))); refine wp_cd rfl (fun c21 => ?_) (fun c21 => ?_)
    · refine wp_sk (qs_n (wp_bl (wp_sq (sq_v rfl (v_move rfl) rfl ?_)))); refine sq_v rfl (v_add rfl rfl ((by unfold I64; omega))) rfl ?_; refine sq_v rfl (v_assign rfl) rfl (sq_end ?_); have hne : i ≠ j := hob.1 (by have e := c21; rw [hdv] at e; exact Int.ofNat_eq_zero.1 e); have hlt : i < j := Nat.lt_of_le_of_ne hi hne; refine qs_bn ?_; exact qs_bk (i + 1) (by omega) (by omega) ⟨rfl, rfl, rfl, (by first | rfl | exact ksub rfl (by first | omega | (simp; done) | (simp; omega))), rfl, (by first | rfl | exact ksub rfl (by first | omega | (simp; done) | (simp; omega))), trivial⟩ (fun _ s => s)
    · refine wp_ex (qs_x (qs_x (qs_bx (qs_n (wp_sc (wp_sq (sq_v rfl (v_move rfl) rfl (sq_v rfl (v_assign rfl) rfl (sq_end (qs_n (wp_rt (qs_r ?_)))))))))))); exact qs_ret1 rfl rfl (fin_m 0 (i := 1) rfl rfl rfl (⟨by rw [bS_one (hFz.1.2 hlo), ← hj]; have hne := (not_congr hob).1 (fun e => c21 (by rw [hdv]; exact congrArg Nat.cast e)); simp only [ne_eq, Classical.not_not] at hne; rw [hne], by rw [bS_one (hFz.1.2 hlo)]; exact ro, by rw [bS_one (hFz.1.2 hlo)]; dsimp only; omega, by rw [bS_one (hFz.1.2 hlo)]; dsimp only; omega, by rw [bS_one (hFz.1.2 hlo)]; dsimp only; omega⟩))
  · refine wp_sk (qs_n (wp_sc (wp_sq (sq_v rfl (v_move rfl) rfl (sq_v rfl (v_move rfl) rfl (sq_v rfl (v_move rfl) rfl (sq_v rfl (v_move rfl) rfl ?_))))))); refine sq_v rfl (v_idxI Try.underlying25 ty_3 rfl rfl r (by first | omega | (simp; omega) | (simp only [List.length_append, List.length_cons, List.length_nil]; omega) | (rw [List.length_set]; omega)) (by first | omega | (simp; omega) | (simp only [List.length_append, List.length_cons, List.length_nil]; omega) | (rw [List.length_set]; omega))) rfl ?_; refine sq_v rfl (v_loadI  1 ty_3 rfl rfl r (by first | omega | (simp; omega) | (simp only [List.length_append, List.length_cons, List.length_nil]; omega) | (rw [List.length_set]; omega))) rfl ?_; refine sq_v rfl (v_move rfl) rfl ?_; have hFn : F.getD z.toNat 0 ≠ 0 := c16; have hFp := hFz.2 hFn; have hdf := part_diff ⟨z.toNat, by omega⟩ ⟨(F.getD z.toNat 0).toNat, by omega⟩ (by have h2 := hFp.2.2; simp only [partB, Bool.and_eq_true, decide_eq_true_eq] at h2; exact h2.1); have hd1 : andnW z (F.getD z.toNat 0) = z - F.getD z.toNat 0 := (by have h3 := hdf.1; simp only at h3; rw [Int.toNat_of_nonneg (by omega), Int.toNat_of_nonneg (by omega)] at h3; rw [h3]; omega)
    refine sq_m 0 rfl rfl (x_call rfl en_49 (fun w s => ih (F.getD z.toNat 0) o w _ (s.get 0 rfl) (r.mono (s.getR 0 1 rfl rfl (by decide))) ro (by omega) (by omega) (by omega) (by omega))) rfl ?_; rintro _ h32 ⟨rfl, ro32, hl32, hx32⟩; refine sq_v rfl (v_assign rfl) rfl (sq_end (qs_n (wp_sc (wp_sq (sq_v rfl (v_move rfl) rfl (sq_v rfl (v_move rfl) rfl (sq_v rfl (v_move rfl) rfl (sq_v rfl (v_move rfl) rfl (sq_v rfl (v_move rfl) rfl ?_))))))))); refine sq_v rfl (v_idxI Try.underlying25 ty_3 rfl rfl r (by first | omega | (simp; omega) | (simp only [List.length_append, List.length_cons, List.length_nil]; omega) | (rw [List.length_set]; omega)) (by first | omega | (simp; omega) | (simp only [List.length_append, List.length_cons, List.length_nil]; omega) | (rw [List.length_set]; omega))) rfl ?_; refine sq_v rfl (v_loadI  1 ty_3 rfl rfl r (by first | omega | (simp; omega) | (simp only [List.length_append, List.length_cons, List.length_nil]; omega) | (rw [List.length_set]; omega))) rfl ?_; refine sq_v rfl (v_andnW rfl rfl (by omega) (by omega) hd1) rfl (sq_v rfl (v_move rfl) rfl ?_); refine sq_m 0 rfl rfl (x_call rfl en_49 (fun w s => ih (z - F.getD z.toNat 0) _ w _ (s.get 0 rfl) (r.mono (s.getR 0 1 rfl rfl (by decide))) ro32 (by omega) (by omega) (by omega) (by omega))) rfl ?_; rintro _ h42 ⟨rfl, ro42, hl42, hx42⟩; refine sq_v rfl (v_assign rfl) rfl (sq_end ?_); obtain ⟨v42, g42, q42, md42⟩ := ro42; obtain ⟨gb, hgb⟩ : ∃ gb, gb = box bb [v42] 29 := ⟨_, rfl⟩
    rw [← hgb] at md42; refine qs_s [(restP w h), gb, g42] (fun _ s => Sat.open (A := [(restP w h)]) md42 (s.pick [0, 1] (by decide) rfl)) ?_; obtain ⟨cs_q42, rr_q42, hc_q42⟩ := q42.toR.at; subst hgb; have hla : ∀ y : Stp, ((bS F m k (z - F.getD z.toNat 0).toNat (bS F m k (F.getD z.toNat 0).toNat o).1).1 ++ [y]).length = (bS F m k (z - F.getD z.toNat 0).toNat (bS F m k (F.getD z.toNat 0).toNat o).1).1.length + 1 := fun y => by rw [List.length_append, List.length_singleton]
    have hla1 := hla ⟨min (bS F m k (F.getD z.toNat 0).toNat o).2 (bS F m k (z - F.getD z.toNat 0).toNat (bS F m k (F.getD z.toNat 0).toNat o).1).2, max (bS F m k (F.getD z.toNat 0).toNat o).2 (bS F m k (z - F.getD z.toNat 0).toNat (bS F m k (F.getD z.toNat 0).toNat o).1).2⟩; have ezf : (z - F.getD z.toNat 0).toNat = z.toNat - (F.getD z.toNat 0).toNat := by omega
    refine qs_n (wp_sc (wp_sq (sq_v rfl (v_move rfl) rfl (sq_v rfl (v_move rfl) rfl (sq_v rfl (v_nilCheck rfl) rfl (sq_v rfl (v_loadB 1 ty_29 rfl rfl rfl) rfl (sq_v rfl (v_move rfl) rfl (sq_v rfl (v_move rfl) rfl (sq_v rfl (v_min rfl rfl) rfl (sq_v rfl (v_move rfl) rfl (sq_v rfl (v_move rfl) rfl (sq_v rfl (v_max rfl rfl) rfl ?_)))))))))))); refine sq_v rfl (v_build [num (min ((bS F m k (F.getD z.toNat 0).toNat o).2) ((bS F m k (z - F.getD z.toNat 0).toNat (bS F m k (F.getD z.toNat 0).toNat o).1).2)), num (max ((bS F m k (F.getD z.toNat 0).toNat o).2) ((bS F m k (z - F.getD z.toNat 0).toNat (bS F m k (F.getD z.toNat 0).toNat o).1).2))] rfl (by kernel_rfl)) rfl ?_; refine sq_x rfl (x_buildS [.agg [num (min ((bS F m k (F.getD z.toNat 0).toNat o).2) ((bS F m k (z - F.getD z.toNat 0).toNat (bS F m k (F.getD z.toNat 0).toNat o).1).2)), num (max ((bS F m k (F.getD z.toNat 0).toNat o).2) ((bS F m k (z - F.getD z.toNat 0).toNat (bS F m k (F.getD z.toNat 0).toNat o).1).2))].toArray] Try.underlying29 ty_86 (by decide) rfl rfl rfl (by decide) (by decide) (by intro v hv; simp at hv; subst hv; rfl)) rfl ?_; intro v54 h54 (r54 : RowO 86 [num (min ((bS F m k (F.getD z.toNat 0).toNat o).2) ((bS F m k (z - F.getD z.toNat 0).toNat (bS F m k (F.getD z.toNat 0).toNat o).1).2)), num (max ((bS F m k (F.getD z.toNat 0).toNat o).2) ((bS F m k (z - F.getD z.toNat 0).toNat (bS F m k (F.getD z.toNat 0).toNat o).1).2))] 1 2 v54 h54); refine sq_m 3 rfl rfl (m_appS (ss := ((bS F m k (z - F.getD z.toNat 0).toNat (bS F m k (F.getD z.toNat 0).toNat o).1).1)) (us := ([⟨(min ((bS F m k (F.getD z.toNat 0).toNat o).2) ((bS F m k (z - F.getD z.toNat 0).toNat (bS F m k (F.getD z.toNat 0).toNat o).1).2)), (max ((bS F m k (F.getD z.toNat 0).toNat o).2) ((bS F m k (z - F.getD z.toNat 0).toNat (bS F m k (F.getD z.toNat 0).toNat o).1).2))⟩] : List Stp)) 3 0 Try.underlying29 ty_86 rfl rfl rfl rfl q42 rfl r54.toR (by first | omega | (simp; omega) | (simp only [List.length_append, List.length_cons, List.length_nil]; omega) | (rw [List.length_set]; omega))) rfl ?_; intro v55 h_r55 r55; obtain ⟨cs_S_55, rr_S_55, hc_S_55⟩ := r55.toR.at; refine sq_v rfl (v_nilCheck rfl) rfl ?_; refine sq_m 2 rfl rfl (m_store1 2 ty_29 rfl rfl r55.toR.sl.one rfl (by simp)) rfl ?_; rintro _ _ ⟨rfl, rfl⟩; refine sq_end (qs_n (wp_sc (wp_sq (sq_v rfl (v_move rfl) rfl (sq_v rfl (v_move rfl) rfl (sq_v rfl (v_nilCheck rfl) rfl (sq_v rfl (v_loadB 2 ty_29 rfl rfl rfl) rfl (sq_v rfl (v_len Try.underlying29 rfl r55.toR.sl) rfl ?_)))))))); refine sq_v rfl (v_add rfl rfl ((by unfold I64; omega))) rfl ?_; refine sq_v rfl (v_sub rfl rfl ((by unfold I64; omega))) rfl ?_; refine sq_v rfl (v_assign rfl) rfl (sq_end (qs_n (wp_rt ?_))); refine qs_close [restP w h] [box bb [v55] 29, h_r55] (fun _ s => s.pick [1, 2, 3] (by decide) rfl) (fun md => ?_); exact qs_ret1 rfl rfl (fin_m (i := 1) 0 rfl rfl rfl ⟨by rw [bS_two hFn, ← ezf]; congr 1; simp; omega, ⟨v55, h_r55, by rw [bS_two hFn, ← ezf]; exact r55, md⟩, by rw [bS_two hFn, ← ezf]; dsimp only; rw [List.length_append, List.length_singleton]; omega, by rw [bS_two hFn, ← ezf]; dsimp only; omega, by rw [bS_two hFn, ← ezf]; dsimp only; omega⟩)
theorem ct_i_bestSteps (F : List Int) (m : Nat) (bb : Nat) (vF : Value) (hF : firstOK F m) : ∀ (k : Nat) (z : Int) (o : List Stp) (w : World) (h : PH), PLe h (hp w) → IntsR F vF (restP w h) → StepsP bb o h → 0 < z → z.toNat < 2 ^ m → z.toNat ≤ k → o.length + z.toNat ≤ 1000 → Calls Try.prog 49 [num m, vF, num z, .pointer (some ⟨bb, 0, none⟩)].toArray w (Ret w h (fun u h' => u = num (bS F m k z.toNat o).2 ∧ StepsP bb (bS F m k z.toNat o).1 h' ∧ (bS F m k z.toNat o).1.length < o.length + z.toNat ∧ 0 ≤ (bS F m k z.toNat o).2 ∧ (bS F m k z.toNat o).2 ≤ 2000))
  | 0, z, _, _, _, _, _, _, h0, _, h2, _ => absurd h0 (by omega)
  | k + 1, z, o, w, h, a, b, c, d, e, f, g => ct_r_bestSteps F m k z o bb vF w h a hF d e f g (ct_i_bestSteps F m bb vF hF k) b c
end Go.Proofs.Ytmddmahaikineaa
namespace Go.Proofs.Ytmddmahaikineaa
set_option maxRecDepth 100000
open Go.RowKit
theorem Made.join3 {h a b : PH} {l : List PH} (m : Made h (a :: b :: l)) : Made h [a, b, joinP l] := by
  have hs := m.sep; have hl : PLe (joinP l) h := fun k o e => by
    obtain ⟨y, hy, e'⟩ := joinP_dom e; exact m.le y (by simp [hy]) k o e'
  refine ⟨⟨fun x hx => ?_, fun x hx => ?_, fun x hx => by simp at hx, trivial⟩, fun x hx => ?_, fun k o e => ?_⟩
  · rcases List.mem_cons.1 hx with rfl | hx
    · exact hs.1 _ (by simp)
    · simp at hx; subst hx
      exact PDj.join fun y hy => hs.1 y (by simp [hy])
  · simp at hx; subst hx
    exact PDj.join fun y hy => hs.2.1 y hy
  · simp at hx
    rcases hx with rfl | rfl | rfl
    · exact m.le _ (by simp)
    · exact m.le _ (by simp)
    · exact hl
  · obtain ⟨x, hx, e'⟩ := m.dom k o e
    simp at hx
    rcases hx with rfl | rfl | hx
    · exact ⟨x, by simp, e'⟩
    · exact ⟨x, by simp, e'⟩
    · exact ⟨joinP l, by simp, PLe.join hs.2.2 x hx k o e'⟩
theorem Made.part3 {h a b c : PH} {l : List PH} (m : Made h [a, b, c]) (ml : Made c l) : Made h (a :: b :: l) := by
  have hs := m.sep; have hc : PLe c h := m.le c (by simp); refine ⟨⟨fun x hx => ?_, fun x hx => ?_, ml.sep⟩, fun x hx => ?_, fun k o e => ?_⟩
  · rcases List.mem_cons.1 hx with rfl | hx
    · exact hs.1 _ (by simp)
    · exact (((hs.1 c (by simp)).symm).mono (ml.le x hx)).symm
  · exact (((hs.2.1 c (by simp)).symm).mono (ml.le x hx)).symm
  · simp at hx
    rcases hx with rfl | rfl | hx
    · exact m.le _ (by simp)
    · exact m.le _ (by simp)
    · exact (ml.le x hx).trans hc
  · obtain ⟨x, hx, e'⟩ := m.dom k o e
    simp at hx
    rcases hx with rfl | rfl | rfl
    · exact ⟨x, by simp, e'⟩
    · exact ⟨x, by simp, e'⟩
    · obtain ⟨y, hy, e2⟩ := ml.dom k o e'; exact ⟨y, by simp [hy], e2⟩
theorem NetO.split {ts : List Ten} {op : List Int} {vt vo : Value} {h : PH} (r : NetO ts op vt vo h) : ∃ cs h0 ho hl, RowO 108 cs ts.length 3 vt h0 ∧ IntsO op vo ho ∧ OwnH (flat ts) cs hl ∧ Made h [h0, ho, hl] := by
  obtain ⟨cs, h0, ho, l, r0, r1, o, m⟩ := r; exact ⟨cs, h0, ho, joinP l, r0, r1, ⟨l, o, Made.join m.sep.2.2⟩, m.join3⟩
theorem NetO.join {ts : List Ten} {op : List Int} {vt vo : Value} {h h0 ho hl : PH} {cs : List Value} (r0 : RowO 108 cs ts.length 3 vt h0) (r1 : IntsO op vo ho) (o : OwnH (flat ts) cs hl) (m : Made h [h0, ho, hl]) : NetO ts op vt vo h := by
  obtain ⟨l, o, ml⟩ := o; exact ⟨cs, h0, ho, l, r0, r1, o, m.part3 ml⟩
theorem OwnL.take {xss : List (List Int)} {vs : List Value} {l : List PH} (o : OwnL xss vs l) (n : Nat) : OwnL (xss.take n) (vs.take n) (l.take n) := by
  refine ⟨by simp [o.l1], by simp [o.l2], fun i xs h => ?_⟩; have hi : i < n := by
    rcases Nat.lt_or_ge i n with h' | h'
    · exact h'
    · rw [List.getElem?_take, if_neg (by omega)] at h; cases h
  rw [List.getElem?_take, if_pos hi] at h ⊢; rw [List.getElem?_take, if_pos hi]; exact o.own i xs h
theorem OwnL.drop {xss : List (List Int)} {vs : List Value} {l : List PH} (o : OwnL xss vs l) (n : Nat) : OwnL (xss.drop n) (vs.drop n) (l.drop n) := by
  refine ⟨by simp [o.l1], by simp [o.l2], fun i xs h => ?_⟩; rw [List.getElem?_drop] at h ⊢; rw [List.getElem?_drop]; exact o.own (n + i) xs h
theorem flat_take {ts : List Ten} {i : Nat} (h : i ≤ ts.length) : flat (ts.take i) = (flat ts).take (i * 3) ∧ flat (ts.drop i) = (flat ts).drop (i * 3) := by
  have e : flat ts = flat (ts.take i) ++ flat (ts.drop i) := by rw [← flat_append, List.take_append_drop]
  have hl : (flat (ts.take i)).length = i * 3 := by rw [flat_len, List.length_take, Nat.min_eq_left h]
  constructor
  · rw [e, List.take_left' hl]
  · rw [e, List.drop_left' hl]
theorem flat_set {ts : List Ten} {i : Nat} (h : i < ts.length) (u : Ten) : flat (ts.set i u) = (flat ts).take (i * 3) ++ [u.l, u.d, u.x] ++ (flat ts).drop (i * 3 + 3) := by
  rw [List.set_eq_take_append_cons_drop, if_pos h, flat_append, (flat_take (Nat.le_of_lt h)).1, show i * 3 + 3 = (i + 1) * 3 by omega, ← (flat_take (show i + 1 ≤ ts.length by omega)).2, List.append_assoc]
  rfl
theorem sep_mono {l l' : List PH} (h : sepL l) (hs : l'.Sublist l) : sepL l' := by
  induction hs with
  | slnil => exact trivial
  | cons x _ ih => exact ih h.2
  | cons_cons x s ih => exact ⟨fun y hy => h.1 y (s.subset hy), ih h.2⟩
theorem OwnH.set {ts : List Ten} {u : Ten} {cs : List Value} {a b c : Value} {h h' : PH} {i : Nat} (hi : i < ts.length) (o : OwnH (flat ts) cs h) (r : TriO u a b c h') (hd : PDj h h') :
    ∃ g, PLe g (PUn h h') ∧ OwnH (flat (ts.set i u)) (cs.take (i * 3) ++ [a, b, c] ++ cs.drop (i * 3 + 3)) g := by
  obtain ⟨l, ol, m⟩ := o; obtain ⟨h1, h2, h3, r1, r2, r3, m'⟩ := r; have hx : ∀ x ∈ l.take (i * 3) ++ [h1, h2, h3] ++ l.drop (i * 3 + 3), PLe x (PUn h h') := fun x hx => by
    simp only [List.mem_append] at hx
    rcases hx with (hx | hx) | hx
    · exact (m.le x (List.mem_of_mem_take hx)).trans (PLe.un_l _ _)
    · exact (m'.le x hx).trans (PLe.un_r hd)
    · exact (m.le x (List.mem_of_mem_drop hx)).trans (PLe.un_l _ _)
  have hab : ∀ x ∈ l, ∀ y ∈ [h1, h2, h3], PDj x y := fun x hx y hy => (((hd.mono (m.le x hx)).symm).mono (m'.le y hy)).symm; have hsub : (l.take (i * 3) ++ l.drop (i * 3 + 3)).Sublist l := by
    conv => rhs; rw [← List.take_append_drop (i * 3) l]
    refine List.Sublist.append (List.Sublist.refl _) ?_; rw [← List.drop_drop]; exact List.drop_sublist _ _
  have hsep := sepL_append.1 (sep_mono m.sep hsub); have hs : sepL (l.take (i * 3) ++ [h1, h2, h3] ++ l.drop (i * 3 + 3)) := by
    refine sepL_append.2 ⟨sepL_append.2 ⟨hsep.1, m'.sep, fun x hx y hy => hab x (List.mem_of_mem_take hx) y hy⟩, hsep.2.1, fun x hx y hy => ?_⟩
    rcases List.mem_append.1 hx with hx | hx
    · exact hsep.2.2 x hx y hy
    · exact (hab y (List.mem_of_mem_drop hy) x hx).symm
  refine ⟨joinP (l.take (i * 3) ++ [h1, h2, h3] ++ l.drop (i * 3 + 3)), fun k o e => ?_, _, ?_, Made.join hs⟩
  · obtain ⟨y, hy, e'⟩ := joinP_dom e; exact hx y hy k o e'
  · rw [flat_set hi]; exact ((ol.take _).append (OwnL.three r1 r2 r3)).append (ol.drop _)
def replP (k p n : Int) (ts : List Ten) (op : List Int) (i : Int) (u : Ten) : Prop := netL k p n ts op ∧ (0 ≤ i ∧ i < ts.length) ∧ fitP k p n (ts.getD i.toNat ⟨[], [], []⟩) u
open Classical in
noncomputable def replB (k p n : Int) (ts : List Ten) (op : List Int) (i : Int) (u : Ten) : Bool := decide (replP k p n ts op i u)
noncomputable def ifB {α : Type} (b : Bool) (x y : α) : α := if b then x else y
noncomputable def replTs (k p n : Int) (ts : List Ten) (op : List Int) (i : Int) (u : Ten) : List Ten := ifB (replB k p n ts op i u) (ts.set i.toNat u) []
noncomputable def replOp (k p n : Int) (ts : List Ten) (op : List Int) (i : Int) (u : Ten) : List Int := ifB (replB k p n ts op i u) op []
def ReplR (k p n : Int) (ts : List Ten) (op : List Int) (i : Int) (u : Ten) (x : Value) (h : PH) : Prop :=
  ∃ vt vo, x = .tuple [netV (ifB (replB k p n ts op i u) k 0) (ifB (replB k p n ts op i u) p 0) (ifB (replB k p n ts op i u) n 0) vt vo, .bool (replB k p n ts op i u)].toArray ∧ NetO (replTs k p n ts op i u) (replOp k p n ts op i u) vt vo h
theorem NetO.nil : NetO [] [] (.slice none 0 0) (.slice none 0 0) emp :=
  ⟨[], emp, emp, [], RowO.nil, IntsO.nil, OwnL.nil, ⟨by simp [sepL, PDj.emp], fun x hx => by simp at hx; subst hx; exact PLe.emp _, fun k o e => by cases e⟩⟩
theorem ReplR.no {k p n i : Int} {ts : List Ten} {op : List Int} {u : Ten} (h : ¬ replP k p n ts op i u) : ReplR k p n ts op i u (.tuple [netV 0 0 0 (.slice none 0 0) (.slice none 0 0), .bool false].toArray) emp := by
  have e : replB k p n ts op i u = false := by simp [replB, h]
  refine ⟨.slice none 0 0, .slice none 0 0, ?_, ?_⟩
  · rw [e]; rfl
  · rw [replTs, replOp, e]; exact NetO.nil
theorem ReplR.yes {k p n i : Int} {ts : List Ten} {op : List Int} {u : Ten} {vt vo : Value} {g : PH} (h : replP k p n ts op i u) (r : NetO (ts.set i.toNat u) op vt vo g) : ReplR k p n ts op i u (.tuple [netV k p n vt vo, .bool true].toArray) g := by
  have e : replB k p n ts op i u = true := by simp [replB, h]
  refine ⟨vt, vo, ?_, ?_⟩
  · rw [e]; rfl
  · rw [replTs, replOp, e]; exact r
end Go.Proofs.Ytmddmahaikineaa
namespace Go.Proofs.Ytmddmahaikineaa
set_option maxRecDepth 100000
open Go.RowKit
def bordP (k p n : Int) (ts : List Ten) (op : List Int) : Prop := netL k p n ts op ∧ ts.length ≤ 7
open Classical in
noncomputable def bordB (k p n : Int) (ts : List Ten) (op : List Int) : Bool := decide (bordP k p n ts op)
noncomputable def bordT (ts : List Ten) (op : List Int) : List Stp := if ts.length = 0 then [] else (bS (tab ts op (2 ^ ts.length)).2 ts.length (2 ^ ts.length) (2 ^ ts.length - 1) []).1
noncomputable def bordR (k p n : Int) (ts : List Ten) (op : List Int) : List Stp := ifB (bordB k p n ts op) (bordT ts op) []
noncomputable def bordC (k p n : Int) (ts : List Ten) (op : List Int) : Int := ifB (bordB k p n ts op) ((tab ts op (2 ^ ts.length)).1.getD (2 ^ ts.length - 1) 0) (-1)
section
variable {k p n : Int} {ts : List Ten} {op : List Int}
theorem bordB_true : bordB k p n ts op = true ↔ bordP k p n ts op := by simp [bordB]
theorem bordB_false : bordB k p n ts op = false ↔ ¬ bordP k p n ts op := by simp [bordB]
theorem bordC_in : (bordB k p n ts op = true → 0 ≤ bordC k p n ts op) ∧ (bordB k p n ts op = false → bordC k p n ts op = -1) := by
  refine ⟨fun h => ?_, fun h => by rw [bordC, h]; rfl⟩; rw [bordC, h]; exact (tab_in (ts := ts) (op := op) (fun z y => by have := (joinS_prod (bordB_true.1 h).1 z y).2; omega) _ _).1
theorem BordNo (h : ¬ bordP k p n ts op) : StepsB (bordR k p n ts op) (bordB k p n ts op) (.tuple [.slice none 0 0, .bool false].toArray) emp := by
  have hb := bordB_false.2 h; exact ⟨.slice none 0 0, by rw [hb], by rw [bordR, hb]; exact StepsO.nil⟩
theorem BordYes {ss : List Stp} {v : Value} {g : PH} (h : bordP k p n ts op) (e : bordT ts op = ss) (r : StepsO ss v g) : StepsB (bordR k p n ts op) (bordB k p n ts op) (.tuple [v, .bool true].toArray) g := by
  have hb := bordB_true.2 h; exact ⟨v, by rw [hb], by rw [bordR, hb]; show StepsO (bordT ts op) v g; rw [e]; exact r⟩
theorem bord_steps (h7 : ts.length ≤ 7) (h0 : ts.length ≠ 0) : bordT ts op = (bS (tab ts op (2 ^ ts.length)).2 ts.length (2 ^ ts.length) (2 ^ ts.length - 1) []).1 := if_neg h0
theorem StepsP.box0 (b : Nat) : StepsP b [] (box b [.slice none 0 0] 29) :=
  ⟨.slice none 0 0, emp, StepsO.nil, ⟨by simp only [sepL]; exact ⟨fun x hx => by rw [List.mem_singleton.1 hx]; exact (PDj.emp _).symm, fun x hx => by simp at hx, trivial⟩, fun x hx => by
    simp only [List.mem_cons, List.not_mem_nil, or_false] at hx
    rcases hx with rfl | rfl
    · exact PLe.refl _
    · exact PLe.emp _, fun k o e => ⟨_, by simp, e⟩⟩⟩
end
theorem ct_s_BestCost (k p n : Int) (ts : List Ten) (op : List Int) (vt vo : Value) (w : World) (r : TensR ts vt (hp w)) (r' : IntsR op vo (hp w)) (hs : op.length ≤ 1048576) :
    Calls Try.prog 42 [netV k p n vt vo].toArray w (RetV w (num (bordC k p n ts op))) := by
  have hpl := tab_len ts op (2 ^ ts.length); have hp1 : 1 ≤ 2 ^ ts.length := Nat.one_le_two_pow; refine calls_in Try.func42 rfl Try.ntmps42 rfl (Sat.start w) ?_; have hle0 := r.le; obtain ⟨cs_r, rr_r, hc_r⟩ := r.at; have hle1 := r'.le; refine wp_sc (wp_sq ?_); refine sq_x rfl (x_box rfl rfl) rfl ?_; rintro _ _ ⟨b1, rfl, rfl⟩; refine sq_v rfl (v_assign rfl) rfl (sq_end (qs_n (wp_sc (wp_sc (wp_sq (sq_v rfl (v_loadNB 0 ty_35 rfl rfl rfl rfl) rfl (sq_u rfl (x_callv rfl en_55 (fun w s => ct_s_NetworkOk _ _ _ _ _ _ _ w (r.mono (s.get 1 rfl)) (r'.mono (s.get 1 rfl)) (by first | assumption | omega))) rfl ?_))))))); refine sq_bb 6 rfl (fun c6 => ?_) (fun c6 => ?_)
  · refine sq_v rfl (v_not rfl) rfl (sq_v rfl (v_move rfl) rfl (sq_v rfl (v_fieldAddr fd_35_1 ty_33 (by decide) rfl) rfl (sq_v rfl (v_loadB 0 ty_33 rfl rfl rfl) rfl (sq_v rfl (v_len Try.underlying33 rfl r.sl) rfl (sq_v rfl (v_gtr rfl rfl) rfl (sq_v rfl (v_pickf rfl rfl) rfl (sq_end (qs_n ?_)))))))); refine wp_cd rfl (fun c13 => ?_) (fun c13 => ?_)
    · refine wp_sc (wp_sq (sq_v rfl (v_assign rfl) rfl (sq_end (qs_n (wp_rt (qs_r ?_)))))); exact qs_ret1 rfl rfl (fin_q (i := 1) rfl (by rw [bordC_in.2 (bordB_false.2 (fun h => by first | exact netB_false.1 c6 h.1 | (have := h.2; omega)))]))
    · refine wp_sk (qs_n (wp_sc (wp_sq (sq_v rfl (v_loadNB 0 ty_35 rfl rfl rfl rfl) rfl ?_)))); have hnet := netB_true.1 c6; have h7 : ts.length ≤ 7 := (by omega); have hpf := pow_few h7; refine sq_x rfl (x_call rfl en_43 (fun w s => ct_s_l20Plan _ _ _ _ _ _ _ w (r.mono (s.get 1 rfl)) (r'.mono (s.get 1 rfl)) (by first | assumption | omega) (by first | assumption | omega) (by first | assumption | omega))) rfl ?_; rintro _ h16 ⟨vC, vF, gC, gF, rfl, qC, qF, md⟩; refine sq_v rfl (v_move rfl) rfl (sq_v rfl (v_extract rfl rfl) rfl (sq_v rfl (v_extract rfl rfl) rfl (sq_v rfl (v_assign rfl) rfl (sq_v rfl (v_assign rfl) rfl (sq_end (qs_n (wp_sc (wp_sq (sq_v rfl (v_move rfl) rfl (sq_v rfl (v_move rfl) rfl (sq_v rfl (v_len Try.underlying25 rfl (qC.toR.mono (md.le gC (by simp))).sl) rfl ?_))))))))))); refine sq_v rfl (v_sub rfl rfl ((by unfold I64; omega))) rfl ?_; refine sq_v rfl (v_idxI Try.underlying25 ty_3 rfl rfl (qC.toR.mono (md.le gC (by simp))) (by first | omega | (simp; omega) | (simp only [List.length_append, List.length_cons, List.length_nil]; omega) | (rw [List.length_set]; omega)) (by first | omega | (simp; omega) | (simp only [List.length_append, List.length_cons, List.length_nil]; omega) | (rw [List.length_set]; omega))) rfl ?_; refine sq_v rfl (v_loadI  0 ty_3 rfl rfl (qC.toR.mono (md.le gC (by simp))) (by first | omega | (simp; omega) | (simp only [List.length_append, List.length_cons, List.length_nil]; omega) | (rw [List.length_set]; omega))) rfl ?_; refine sq_v rfl (v_assign rfl) rfl (sq_end (qs_n (wp_rt ?_))); exact qs_ret1 rfl rfl (fin_q (i := 2) rfl (by rw [bordC, bordB_true.2 ⟨hnet, h7⟩, hpl.1]; show num _ = num _; congr 2; omega))
  · refine sq_v rfl (v_not rfl) rfl (sq_v rfl (v_move rfl) rfl (sq_s rfl rfl (sq_s rfl rfl (sq_s rfl rfl (sq_s rfl rfl (sq_v rfl (v_pickt rfl rfl) rfl (sq_end (qs_n (wp_ct rfl (wp_sc (wp_sq (sq_v rfl (v_assign rfl) rfl (sq_end (qs_n (wp_rt (qs_r ?_)))))))))))))))); exact qs_ret1 rfl rfl (fin_q (i := 1) rfl (by rw [bordC_in.2 (bordB_false.2 (fun h => by first | exact netB_false.1 c6 h.1 | (have := h.2; omega)))]))
theorem ct_s_BestOrder (k p n : Int) (ts : List Ten) (op : List Int) (vt vo : Value) (w : World) (r : TensR ts vt (hp w)) (r' : IntsR op vo (hp w)) (hs : op.length ≤ 1048576) :
    Calls Try.prog 10 [netV k p n vt vo].toArray w (Ret w emp (StepsB (bordR k p n ts op) (bordB k p n ts op))) := by
  have hpl := tab_len ts op (2 ^ ts.length); have hp1 : 1 ≤ 2 ^ ts.length := Nat.one_le_two_pow; have hbc := bordC_in (k := k) (p := p) (n := n) (ts := ts) (op := op); refine calls_in Try.func10 rfl Try.ntmps10 rfl (Sat.start w) ?_; have hle0 := r.le; obtain ⟨cs_r, rr_r, hc_r⟩ := r.at; have hle1 := r'.le; refine wp_sc (wp_sq ?_); refine sq_x rfl (x_box rfl rfl) rfl ?_; rintro _ _ ⟨b1, rfl, rfl⟩; refine sq_v rfl (v_assign rfl) rfl (sq_v rfl (v_assign rfl) rfl (sq_end (qs_n (wp_sc (wp_sc (wp_sq (sq_v rfl (v_loadNB 0 ty_35 rfl rfl rfl rfl) rfl (sq_u rfl (x_callv rfl en_42 (fun w s => ct_s_BestCost _ _ _ _ _ _ _ w (r.mono (s.get 1 rfl)) (r'.mono (s.get 1 rfl)) (by first | assumption | omega))) rfl (sq_v rfl (v_lss rfl rfl) rfl (sq_end (qs_n ?_))))))))))); refine wp_cd rfl (fun c11 => ?_) (fun c11 => ?_)
  · refine wp_sc (wp_sq (sq_v rfl (v_assign rfl) rfl (sq_v rfl (v_assign rfl) rfl (sq_end (qs_n (wp_rt (qs_r ?_))))))); exact qs_ret2 rfl rfl rfl (fin_e (i := 1) rfl (BordNo (fun h => by have := hbc.1 (bordB_true.2 h); omega)))
  · refine wp_sk (qs_n (wp_sc (wp_sq (sq_v rfl (v_fieldAddr fd_35_1 ty_33 (by decide) rfl) rfl (sq_v rfl (v_loadB 0 ty_33 rfl rfl rfl) rfl (sq_v rfl (v_len Try.underlying33 rfl r.sl) rfl (sq_v rfl (v_assign rfl) rfl (sq_end ?_)))))))); have hbt : bordB k p n ts op = true := by
      cases hb : bordB k p n ts op with
      | true => rfl
      | false => have := hbc.2 hb; omega
    have hbp := bordB_true.1 hbt; have hnet := hbp.1; have h7 := hbp.2; have hpf := pow_few h7; have ePi : (2 : Int) ^ ((ts.length : Int)).toNat = ((2 ^ ts.length : Nat) : Int) := by rw [Int.toNat_natCast, ← pow_cast]
    refine qs_n (wp_sc (wp_sc (wp_sq (sq_v rfl (v_move rfl) rfl (sq_v rfl (v_eql rfl rfl) rfl (sq_end (qs_n ?_))))))); refine wp_cd rfl (fun c16 => ?_) (fun c16 => ?_)
    · refine wp_sc (wp_sq ?_); refine sq_x rfl (x_build0 Try.underlying29 ty_86) rfl ?_; intro v17 h17 r17; refine sq_v rfl (v_assign rfl) rfl (sq_v rfl (v_assign rfl) rfl (sq_end (qs_n (wp_rt (qs_r ?_))))); exact qs_ret2 rfl rfl rfl (fin_t 0 (i := 2) rfl rfl rfl (BordYes hbp (by rw [bordT, if_pos (by omega)]) (show StepsO [] v17 h17 from r17)))
    · refine wp_sk (qs_n (wp_sc (wp_sq (sq_v rfl (v_loadNB 0 ty_35 rfl rfl rfl rfl) rfl ?_)))); refine sq_x rfl (x_call rfl en_43 (fun w s => ct_s_l20Plan _ _ _ _ _ _ _ w (r.mono (s.get 1 rfl)) (r'.mono (s.get 1 rfl)) (by first | assumption | omega) (by first | assumption | omega) (by first | assumption | omega))) rfl ?_; rintro _ h20 ⟨vC, vF, gC, gF, rfl, qC, qF, md⟩; refine sq_v rfl (v_move rfl) rfl (sq_v rfl (v_extract rfl rfl) rfl (sq_v rfl (v_extract rfl rfl) rfl (sq_v rfl (v_assign rfl) rfl (sq_v rfl (v_assign rfl) rfl (sq_end ?_))))); have eZ : (1 * (2 : Int) ^ ((ts.length : Int)).toNat - 1).toNat = 2 ^ ts.length - 1 := by omega
      have hN1 : 2 ≤ 2 ^ ts.length := by have : 2 ^ 1 ≤ 2 ^ ts.length := Nat.pow_le_pow_right (by decide) (by omega); omega
      refine qs_n (wp_sc (wp_sq (sq_v rfl (v_move rfl) rfl (sq_v rfl (v_move rfl) rfl (sq_v rfl (v_move rfl) rfl ?_))))); refine sq_v rfl (v_shl rfl rfl (by omega) (by omega) (by unfold I64; omega)) rfl ?_; refine sq_v rfl (v_sub rfl rfl ((by unfold I64; omega))) rfl ?_; refine sq_x rfl (x_build0 Try.underlying29 ty_86) rfl ?_; intro v29 h29 r29; refine sq_m 0 rfl rfl (x_call rfl en_44 (fun w s => ct_s_l20Steps (tab ts op (2 ^ ts.length)).2 ts.length vF (tab_first ts op h7) (2 ^ ts.length) _ [] _ w _ (s.get 0 rfl) ((qF.toR.mono (md.le gF (by simp))).mono (s.getR 0 1 rfl rfl (by decide))) (show StepsO [] v29 h29 from r29) (by omega) (by omega) (by omega) (by rw [eZ]; simp only [List.length_nil]; omega))) rfl ?_; rintro _ h30 ⟨v30, rfl, r30, hl30, hx30⟩; obtain ⟨cs_S_30, rr_S_30, hc_S_30⟩ := r30.toR.at; refine sq_v rfl (v_move rfl) rfl (sq_v rfl (v_extract rfl rfl) rfl (sq_v rfl (v_extract rfl rfl) rfl (sq_v rfl (v_assign rfl) rfl (sq_v rfl (v_assign rfl) rfl (sq_end (qs_n (wp_sc (wp_sq (sq_v rfl (v_move rfl) rfl (sq_v rfl (v_assign rfl) rfl (sq_v rfl (v_assign rfl) rfl (sq_end (qs_n (wp_rt ?_)))))))))))))); exact qs_ret2 rfl rfl rfl (fin_t 0 (i := 3) rfl rfl rfl (BordYes hbp (by rw [bord_steps h7 (by omega), ← eZ]) r30))
theorem ct_i_BestOrder (k p n : Int) (ts : List Ten) (op : List Int) (vt vo : Value) (w : World) (r : TensR ts vt (hp w)) (r' : IntsR op vo (hp w)) (hs : op.length ≤ 1048576) :
    Calls Try.prog 12 [netV k p n vt vo].toArray w (Ret w emp (StepsB (bordR k p n ts op) (bordB k p n ts op))) := by
  have hpl := tab_len ts op (2 ^ ts.length); have hp1 : 1 ≤ 2 ^ ts.length := Nat.one_le_two_pow; refine calls_in Try.func12 rfl Try.ntmps12 rfl (Sat.start w) ?_; have hle0 := r.le; obtain ⟨cs_r, rr_r, hc_r⟩ := r.at; have hle1 := r'.le; refine wp_sc (wp_sq ?_); refine sq_x rfl (x_box rfl rfl) rfl ?_; rintro _ _ ⟨b1, rfl, rfl⟩; refine sq_v rfl (v_assign rfl) rfl (sq_v rfl (v_assign rfl) rfl (sq_end (qs_n (wp_sc (wp_sc (wp_sq (sq_v rfl (v_loadNB 0 ty_35 rfl rfl rfl rfl) rfl (sq_u rfl (x_callv rfl en_47 (fun w s => ct_i_NetworkOk _ _ _ _ _ _ _ w (r.mono (s.get 1 rfl)) (r'.mono (s.get 1 rfl)) (by first | assumption | omega))) rfl ?_)))))))); refine sq_bb 8 rfl (fun c8 => ?_) (fun c8 => ?_)
  · refine sq_v rfl (v_not rfl) rfl (sq_v rfl (v_move rfl) rfl (sq_v rfl (v_fieldAddr fd_35_1 ty_33 (by decide) rfl) rfl (sq_v rfl (v_loadB 0 ty_33 rfl rfl rfl) rfl (sq_v rfl (v_len Try.underlying33 rfl r.sl) rfl (sq_v rfl (v_gtr rfl rfl) rfl (sq_v rfl (v_pickf rfl rfl) rfl (sq_end (qs_n ?_)))))))); refine wp_cd rfl (fun c15 => ?_) (fun c15 => ?_)
    · refine wp_sc (wp_sq (sq_v rfl (v_assign rfl) rfl (sq_v rfl (v_assign rfl) rfl (sq_end (qs_n (wp_rt (qs_r ?_))))))); exact qs_ret2 rfl rfl rfl (fin_e (i := 1) rfl (BordNo (fun h => by first | exact netB_false.1 c8 h.1 | (have := h.2; omega))))
    · refine wp_sk (qs_n (wp_sc (wp_sq (sq_v rfl (v_loadNB 0 ty_35 rfl rfl rfl rfl) rfl ?_)))); have hnet := netB_true.1 c8; have h7 : ts.length ≤ 7 := (by omega); have hpf := pow_few h7; refine sq_x rfl (x_call rfl en_48 (fun w s => ct_i_bestTable _ _ _ _ _ _ _ w (r.mono (s.get 1 rfl)) (r'.mono (s.get 1 rfl)) (by first | assumption | omega) (by first | assumption | omega) (by first | assumption | omega))) rfl ?_; rintro _ h18 ⟨vC, vF, gC, gF, rfl, qC, qF, md⟩; refine sq_v rfl (v_move rfl) rfl (sq_v rfl (v_extract rfl rfl) rfl (sq_v rfl (v_extract rfl rfl) rfl (sq_v rfl (v_assign rfl) rfl (sq_v rfl (v_assign rfl) rfl (sq_end ?_))))); have hbp : bordP k p n ts op := ⟨hnet, h7⟩
      refine qs_n (wp_sc (wp_sq ?_)); refine sq_x rfl (x_alloc ty_29 rfl) rfl ?_; rintro _ _ ⟨b6, rfl, rfl⟩; refine sq_end (qs_n (wp_sc (wp_sc (wp_sq (sq_v rfl (v_fieldAddr fd_35_1 ty_33 (by decide) rfl) rfl (sq_v rfl (v_loadB 2 ty_33 rfl rfl rfl) rfl (sq_v rfl (v_len Try.underlying33 rfl r.sl) rfl (sq_v rfl (v_gtr rfl rfl) rfl (sq_end (qs_n ?_)))))))))); refine wp_cd rfl (fun c24 => ?_) (fun c24 => ?_)
      · refine wp_sq (sq_v rfl (v_fieldAddr fd_35_1 ty_33 (by decide) rfl) rfl (sq_v rfl (v_loadB 2 ty_33 rfl rfl rfl) rfl (sq_v rfl (v_len Try.underlying33 rfl r.sl) rfl (sq_v rfl (v_move rfl) rfl (sq_v rfl (v_move rfl) rfl (sq_v rfl (v_len Try.underlying25 rfl (qF.toR.mono (md.le gF (by simp))).sl) rfl ?_)))))); refine sq_v rfl (v_sub rfl rfl ((by unfold I64; omega))) rfl ?_; have hN1 : 2 ≤ 2 ^ ts.length := (by have : 2 ^ 1 ≤ 2 ^ ts.length := Nat.pow_le_pow_right (by decide) (by omega); omega); have eZ : (((tab ts op (2 ^ ts.length)).2.length : Int) - 1).toNat = 2 ^ ts.length - 1 := (by rw [hpl.2]; omega)
        refine sq_m 0 rfl rfl (x_call rfl en_49 (fun w s => ct_i_bestSteps (tab ts op (2 ^ ts.length)).2 ts.length b6 vF (tab_first ts op h7) (2 ^ ts.length) _ [] w _ (s.get 0 rfl) ((qF.toR.mono (md.le gF (by simp))).mono (s.getR 0 1 rfl rfl (by decide))) (StepsP.box0 b6) (by rw [hpl.2]; omega) (by rw [eZ]; omega) (by rw [eZ]; omega) (by rw [eZ]; simp only [List.length_nil]; omega))) rfl ?_; rintro _ h32 ⟨rfl, ro32, hl32, hx32⟩; refine sq_end ?_; obtain ⟨v32, g32, q32, md32⟩ := ro32; refine qs_s [box b6 [v32] 29, hp w, box b1 [num k, num p, num n, vt, vo] 35, g32] (fun _ s => Sat.pick (HS := [hp w, box b1 [num k, num p, num n, vt, vo] 35, box b6 [v32] 29, g32]) (Sat.open (A := [hp w, box b1 [num k, num p, num n, vt, vo] 35]) md32 (s.pick [0, 3, 2] (by decide) rfl)) [2, 0, 1, 3] (by decide) rfl) ?_; obtain ⟨cs_q32, rr_q32, hc_q32⟩ := q32.toR.at; refine qs_n (wp_sc (wp_sq (sq_v rfl (v_loadB 0 ty_29 rfl rfl rfl) rfl (sq_v rfl (v_assign rfl) rfl (sq_v rfl (v_assign rfl) rfl (sq_end (qs_n (wp_rt ?_)))))))); exact qs_ret2 rfl rfl rfl (fin_t 3 (i := 1) rfl rfl rfl (BordYes hbp (by rw [bord_steps h7 (by omega), ← eZ]) q32))
      · refine wp_sk (qs_n (wp_sc (wp_sq (sq_v rfl (v_loadB 0 ty_29 rfl rfl rfl) rfl (sq_v rfl (v_assign rfl) rfl (sq_v rfl (v_assign rfl) rfl (sq_end (qs_n (wp_rt ?_))))))))); exact qs_ret2 rfl rfl rfl (fin_e (i := 3) rfl (BordYes hbp (by rw [bordT, if_pos (by omega)]) StepsO.nil))
  · refine sq_v rfl (v_not rfl) rfl (sq_v rfl (v_move rfl) rfl (sq_s rfl rfl (sq_s rfl rfl (sq_s rfl rfl (sq_s rfl rfl (sq_v rfl (v_pickt rfl rfl) rfl (sq_end (qs_n (wp_ct rfl (wp_sc (wp_sq (sq_v rfl (v_assign rfl) rfl (sq_v rfl (v_assign rfl) rfl (sq_end (qs_n (wp_rt (qs_r ?_))))))))))))))))); exact qs_ret2 rfl rfl rfl (fin_e (i := 1) rfl (BordNo (fun h => by first | exact netB_false.1 c8 h.1 | (have := h.2; omega))))
theorem bS_len {F : List Int} {m : Nat} (hF : firstOK F m) : ∀ (k s : Nat) (o : List Stp), 0 < s → s < 2 ^ m → s ≤ k → (bS F m k s o).1.length < o.length + s
  | 0, s, o, h0, _, hk => absurd h0 (by omega)
  | k + 1, s, o, h0, h1, hk => by
    by_cases h : F.getD s 0 = 0
    · rw [bS_one h]; dsimp only; omega
    · have hf := (hF.2.2 s h0 h1).2 h; have i1 := bS_len hF k (F.getD s 0).toNat o (by omega) (by omega) (by omega); have i2 := bS_len hF k (s - (F.getD s 0).toNat) (bS F m k (F.getD s 0).toNat o).1 (by omega) (by omega) (by omega); rw [bS_two h]; dsimp only; rw [List.length_append, List.length_singleton]
      omega
theorem bord_len (k p n : Int) (ts : List Ten) (op : List Int) : (bordR k p n ts op).length ≤ 128 := by
  unfold bordR
  cases hb : bordB k p n ts op with
  | false => simp [ifB]
  | true =>
    have h := bordB_true.1 hb
    show (bordT ts op).length ≤ 128
    have hpf := pow_few h.2
    by_cases h0 : ts.length = 0
    · rw [bordT, if_pos h0]; simp
    · rw [bord_steps h.2 h0]; have hN1 : 2 ≤ 2 ^ ts.length := by have : 2 ^ 1 ≤ 2 ^ ts.length := Nat.pow_le_pow_right (by decide) (by omega); omega
      have := bS_len (tab_first ts op h.2) (2 ^ ts.length) (2 ^ ts.length - 1) [] (by omega) (by omega) (by omega); simp only [List.length_nil] at this
      omega
end Go.Proofs.Ytmddmahaikineaa
