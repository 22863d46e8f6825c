/-
  Joined axes and what is kept of them, in the reference.
  Conditions: none.
-/
import Derived.Test.YtikeobneipjfnaaOrd5
namespace Go.Proofs.Ytikeobneipjfnaa
set_option maxRecDepth 100000
open Go.RowKit
/-- Of the numbers ds those whose label fits p. -/
def selP (p : Int → Bool) : List Int → List Int → List Int
  | l :: ls, d :: ds => if p l then d :: selP p ls ds else selP p ls ds
  | _, _ => []
theorem selP_append (p : Int → Bool) : ∀ {ls ds ls' ds' : List Int}, ls.length = ds.length → selP p (ls ++ ls') (ds ++ ds') = selP p ls ds ++ selP p ls' ds'
  | [], [], _, _, _ => rfl
  | [], d :: ds, _, _, h => by simp at h
  | l :: ls, [], _, _, h => by simp at h
  | l :: ls, d :: ds, ls', ds', h => by
    have ih := selP_append p (ls := ls) (ds := ds) (ls' := ls') (ds' := ds') (by simpa using h)
    simp only [List.cons_append, selP, ih]
    split <;> simp
theorem selP_map (p : Int → Bool) (f : Int → Int) : ∀ ls : List Int, selP p ls (ls.map f) = (ls.filter p).map f
  | [] => rfl
  | l :: ls => by
    have ih := selP_map p f ls
    simp only [List.map_cons, selP, List.filter_cons, ih]
    split <;> simp
theorem selP_len (p : Int → Bool) : ∀ ls ds : List Int, (selP p ls ds).length ≤ ls.length
  | [], ds => by cases ds <;> simp [selP]
  | l :: ls, [] => by simp [selP]
  | l :: ls, d :: ds => by
    have := selP_len p ls ds
    simp only [selP]
    split <;> simp <;> omega
theorem selP_eqlen (p : Int → Bool) : ∀ {ls ds : List Int}, ls.length = ds.length → (selP p ls ds).length = (ls.filter p).length
  | [], [], _ => rfl
  | [], d :: ds, h => by simp at h
  | l :: ls, [], h => by simp at h
  | l :: ls, d :: ds, h => by
    have := selP_eqlen p (ls := ls) (ds := ds) (by simpa using h)
    simp only [selP, List.filter_cons]
    split <;> simp [this]
theorem selP_yes {p : Int → Bool} {ls ds : List Int} {i : Nat} (hl : ls.length = ds.length) (h : i < ls.length) (hp : p (ls.getD i 0) = true) : selP p (ls.take (i + 1)) (ds.take (i + 1)) = selP p (ls.take i) (ds.take i) ++ [ds.getD i 0] := by
  rw [take_succ h, take_succ (xs := ds) (by omega), selP_append p (by simp; omega)]
  simp only [selP, hp, if_true]
theorem selP_no {p : Int → Bool} {ls ds : List Int} {i : Nat} (hl : ls.length = ds.length) (h : i < ls.length) (hp : p (ls.getD i 0) = false) : selP p (ls.take (i + 1)) (ds.take (i + 1)) = selP p (ls.take i) (ds.take i) := by
  rw [take_succ h, take_succ (xs := ds) (by omega), selP_append p (by simp; omega)]
  simp only [selP, hp, Bool.false_eq_true, if_false, List.append_nil]
/-! ### joined axes -/
def joinD (a b : Ten) : List Int := a.d ++ selP (fun x => decide (x ∉ a.l)) b.l b.d
/-- A label of both has two dimensions. -/
def mism (a b : Ten) : Prop := ∃ i, i < b.l.length ∧ b.l.getD i 0 ∈ a.l ∧ a.d.getD (findI a.l (b.l.getD i 0)).toNat 0 ≠ b.d.getD i 0
def JoinR (a b : Ten) (u : Value) (h : PH) : Prop :=
  (mism a b → u = .tuple [.slice none 0 0, .slice none 0 0, .bool false].toArray) ∧ (¬ mism a b → ∃ v1 v2, u = .tuple [v1, v2, .bool true].toArray ∧ IntsR (joinI a.l b.l) v1 h ∧ IntsR (joinD a b) v2 h)
theorem findI_app {xs ys : List Int} {x : Int} (h : x ∈ xs) : findI (xs ++ ys) x = findI xs x := by
  have hg := findI_get h
  have hf : findI xs x = ((findI xs x).toNat : Nat) := by have := findI_ge.2 h; omega
  rw [hf]
  refine idx_first (fun j hj => ?_) (by simp; omega) (by simp only [List.getD]; rw [List.getElem?_append_left hg.1]; exact hg.2)
  intro e
  simp only [List.getD] at e
  rw [List.getElem?_append_left (by omega)] at e
  have h1 := idx_first (xs := xs) (n := x) (i := j)
  have hj' : j < xs.idxOf x := by
    have : (findI xs x).toNat = xs.idxOf x := by simp [findI, h]
    omega
  have := List.not_of_lt_findIdx (xs := xs) (p := fun a => a == x) (i := j) hj'
  have hlt : j < xs.length := by omega
  simp only [List.getElem?_eq_getElem hlt, Option.getD_some] at e
  simp [e] at this
theorem nodup_not_take {xs : List Int} (h : xs.Nodup) {i : Nat} (hi : i < xs.length) : xs.getD i 0 ∉ xs.take i := by
  intro hm
  obtain ⟨j, hj, e⟩ := getD_of_mem hm
  simp only [List.length_take] at hj
  have e2 : (xs.take i).getD j 0 = xs.getD j 0 := by simp only [List.getD, List.getElem?_take]; rw [if_pos (by omega)]
  rw [e2] at e
  have h1 : j < xs.length := by omega
  simp only [List.getD, List.getElem?_eq_getElem h1, List.getElem?_eq_getElem hi, Option.getD_some] at e
  have := (List.getElem_inj h).1 e
  omega
theorem ct_s_l08Join (t u : Ten) (a b c a' b' c' : Value) (w : World) (r1 : IntsR t.l a (hp w)) (r2 : IntsR t.d b (hp w)) (r3 : IntsR u.l a' (hp w)) (r4 : IntsR u.d b' (hp w)) (ht : t.l.length = t.d.length) (hu : u.l.length = u.d.length) (hn : u.l.Nodup) (hs : t.l.length + u.l.length ≤ 1000000) :
    Calls Try.prog 181 [tenV a b c, tenV a' b' c'].toArray w (Ret w emp (JoinR t u)) := by
  refine calls_in Try.func181 rfl Try.ntmps181 rfl (Sat.start w) ?_
  have hle0 := r1.le
  have hle1 := r2.le
  have hle2 := r3.le
  have hle3 := r4.le
  refine wp_sc ?_
  refine wp_sq ?_
  refine sq_x rfl (x_box rfl rfl) rfl ?_; rintro _ _ ⟨b2, rfl, rfl⟩
  refine sq_x rfl (x_box rfl rfl) rfl ?_; rintro _ _ ⟨b3, rfl, rfl⟩
  refine sq_v rfl (v_assign rfl) rfl ?_
  refine sq_v rfl (v_assign rfl) rfl ?_
  refine sq_v rfl (v_assign rfl) rfl ?_
  refine sq_end ?_
  refine qs_n ?_
  refine wp_sc ?_
  refine wp_sq ?_
  refine sq_v rfl (v_fieldAddr fd_28_0 ty_24 (by decide) rfl) rfl ?_
  refine sq_v rfl (v_loadB 1 ty_24 rfl rfl rfl) rfl ?_
  refine sq_x rfl (x_call rfl en_88 (fun w s => ct_s_l05Ints _ _ w (r1.mono (s.get 2 rfl)) (by first | assumption | omega))) rfl ?_; rintro v14 h14 r14
  refine sq_v rfl (v_assign rfl) rfl ?_
  refine sq_end ?_
  refine qs_n ?_
  refine wp_sc ?_
  refine wp_sq ?_
  refine sq_v rfl (v_fieldAddr fd_28_1 ty_24 (by decide) rfl) rfl ?_
  refine sq_v rfl (v_loadB 2 ty_24 rfl rfl rfl) rfl ?_
  refine sq_x rfl (x_call rfl en_88 (fun w s => ct_s_l05Ints _ _ w (r2.mono (s.get 3 rfl)) (by first | assumption | omega))) rfl ?_; rintro v17 h17 r17
  refine sq_v rfl (v_assign rfl) rfl ?_
  refine sq_end ?_
  refine qs_n ?_
  refine wp_sc ?_
  refine wp_sc ?_
  refine wp_sq ?_
  refine sq_v rfl (v_fieldAddr fd_28_0 ty_24 (by decide) rfl) rfl ?_
  refine sq_v rfl (v_loadB 2 ty_24 rfl rfl rfl) rfl ?_
  refine sq_v rfl (v_len Try.underlying24 rfl r3.sl) rfl ?_
  refine sq_v rfl (v_move rfl) rfl ?_
  refine sq_end ?_
  refine qs_n ?_
  refine wp_bl ?_
  refine wp_lp (σ := Nat × Value × PH × Value × PH) (fun z_ => [(3, .pointer (some ⟨b3, 0, none⟩)), (4, .slice none 0 0), (5, .slice none 0 0), (6, .bool false), (7, z_.2.1), (8, z_.2.2.2.1), (19, a'), (20, num u.l.length), (21, num z_.1)]) (fun z_ => [z_.2.2.1, z_.2.2.2.2, box b3 [a', b', c'] 28, box b2 [a, b, c] 28, hp w]) (fun z_ => z_.1 ≤ u.l.length ∧ (∀ j, j < z_.1 → ¬ (u.l.getD j 0 ∈ t.l ∧ t.d.getD (findI t.l (u.l.getD j 0)).toNat 0 ≠ u.d.getD j 0)) ∧ IntsO (t.l ++ (u.l.take z_.1).filter fun x => decide (x ∉ t.l)) z_.2.1 z_.2.2.1 ∧ IntsO (t.d ++ selP (fun x => decide (x ∉ t.l)) (u.l.take z_.1) (u.d.take z_.1)) z_.2.2.2.1 z_.2.2.2.2) (fun z_ => u.l.length - z_.1) (0, v14, h14, v17, h17) (⟨by (try dsimp only); omega, fun j hj => by omega, by (try dsimp only); simpa using r14, by (try dsimp only); simpa [selP] using r17⟩) ⟨rfl, rfl, rfl, rfl, (by first | rfl | exact ksub rfl (by first | omega | (simp; done) | (simp; omega))), (by first | rfl | exact ksub rfl (by first | omega | (simp; done) | (simp; omega))), rfl, rfl, (by first | rfl | exact ksub rfl (by first | omega | (simp; done) | (simp; omega))), trivial⟩ (fun _ s => s.pick [1, 0, 2, 3, 4] (by decide) rfl) ?_
  rintro ⟨i, v1, h1, v2, h2⟩ ⟨hi, hm, q1, q2⟩
  dsimp only at hi hm q1 q2 ⊢
  have hle_q1 := q1.toR.le
  have hle_q2 := q2.toR.le
  have hfl := filter_take_len u.l (fun x => decide (x ∉ t.l)) i
  have hsl := selP_len (fun x => decide (x ∉ t.l)) (u.l.take i) (u.d.take i)
  rw [List.length_take] at hsl
  have hff : ∀ x ∈ (u.l.take i).filter (fun x => decide (x ∉ t.l)), x ∈ u.l.take i := fun x hx => (List.mem_filter.1 hx).1
  have hse := selP_eqlen (fun x => decide (x ∉ t.l)) (ls := u.l.take i) (ds := u.d.take i) (by simp; omega)
  have hl1 : (t.l ++ (u.l.take i).filter fun x => decide (x ∉ t.l)).length = t.l.length + ((u.l.take i).filter fun x => decide (x ∉ t.l)).length := List.length_append
  have hl2 : (t.d ++ selP (fun x => decide (x ∉ t.l)) (u.l.take i) (u.d.take i)).length = t.d.length + (selP (fun x => decide (x ∉ t.l)) (u.l.take i) (u.d.take i)).length := List.length_append
  refine wp_sc ?_
  refine wp_sq ?_
  refine sq_v rfl (v_lss rfl rfl) rfl ?_
  refine sq_end ?_
  refine qs_n ?_
  refine wp_sc ?_
  refine wp_cd rfl (fun c22 => ?_) (fun c22 => ?_)
  · refine wp_sk ?_
    refine qs_n ?_
    refine wp_sc ?_
    refine wp_bl ?_
    refine wp_sc ?_
    refine wp_sq ?_
    refine sq_v rfl (v_move rfl) rfl ?_
    refine sq_v rfl (v_idxI Try.underlying24 ty_3 rfl rfl r3 (by first | omega | (simp only [List.length_cons, List.length_nil]; omega) | (simp only [List.length_append, List.length_cons, List.length_nil]; omega) | (rw [List.length_set]; omega) | (rw [List.length_replicate]; omega) | (simp; omega)) (by first | omega | (simp only [List.length_cons, List.length_nil]; omega) | (simp only [List.length_append, List.length_cons, List.length_nil]; omega) | (rw [List.length_set]; omega) | (rw [List.length_replicate]; omega) | (simp; omega))) rfl ?_
    refine sq_v rfl (v_loadI (k := i) 4 ty_3 rfl rfl r3 (by first | omega | (simp only [List.length_cons, List.length_nil]; omega) | (simp only [List.length_append, List.length_cons, List.length_nil]; omega) | (rw [List.length_set]; omega) | (rw [List.length_replicate]; omega) | (simp; omega))) rfl ?_
    refine sq_v rfl (v_assign rfl) rfl ?_
    refine sq_v rfl (v_assign rfl) rfl ?_
    refine sq_end ?_
    refine qs_n ?_
    refine wp_sc ?_
    refine wp_sq ?_
    refine sq_v rfl (v_move rfl) rfl ?_
    refine sq_v rfl (v_move rfl) rfl ?_
    refine sq_u rfl (x_callv rfl en_123 (fun w s => ct_s_l05Find _ _ _ w (q1.toR.mono (s.get 0 rfl)))) rfl ?_
    refine sq_v rfl (v_assign rfl) rfl ?_
    refine sq_end ?_
    have hx := nodup_not_take hn (i := i) (by omega)
    have hfr := findI_range (t.l ++ (u.l.take i).filter fun x => decide (x ∉ t.l)) (u.l.getD i 0)
    have hmem : 0 ≤ findI (t.l ++ (u.l.take i).filter fun x => decide (x ∉ t.l)) (u.l.getD i 0) ↔ u.l.getD i 0 ∈ t.l := by rw [findI_ge, List.mem_append]; exact ⟨fun h => h.resolve_right (fun h => hx (hff _ h)), .inl⟩
    have hgt : u.l.getD i 0 ∈ t.l → (t.d ++ selP (fun x => decide (x ∉ t.l)) (u.l.take i) (u.d.take i)).getD (findI (t.l ++ (u.l.take i).filter fun x => decide (x ∉ t.l)) (u.l.getD i 0)).toNat 0 = t.d.getD (findI t.l (u.l.getD i 0)).toNat 0 := fun h => by rw [findI_app h]; have := (findI_get h).1; exact getD_append_left (by omega)
    refine qs_n ?_
    refine wp_sc ?_
    refine wp_sc ?_
    refine wp_rj 14 [(0, true), (1, true), (2, true), (3, true), (4, true), (5, true), (6, true), (7, true), (8, true), (9, true), (10, true), (11, true), (12, true), (13, true)] mixed_ok (by kernel_rfl) ?_
    refine rj_v rfl rfl (v_move rfl) rfl ?_
    refine rj_v rfl rfl (v_geq rfl rfl) rfl ?_
    refine rj_bd 30 rfl (fun c30 => ?_) (fun c30 => ?_)
    · refine rj_v rfl rfl (v_move rfl) rfl ?_
      refine rj_v rfl rfl (v_move rfl) rfl ?_
      refine rj_v rfl rfl (v_move rfl) rfl ?_
      refine rj_v rfl rfl (v_idxI Try.underlying24 ty_3 rfl rfl q2.toR (by first | omega | (simp only [List.length_cons, List.length_nil]; omega) | (simp only [List.length_append, List.length_cons, List.length_nil]; omega) | (rw [List.length_set]; omega) | (rw [List.length_replicate]; omega) | (simp; omega)) (by first | omega | (simp only [List.length_cons, List.length_nil]; omega) | (simp only [List.length_append, List.length_cons, List.length_nil]; omega) | (rw [List.length_set]; omega) | (rw [List.length_replicate]; omega) | (simp; omega))) rfl ?_
      refine rj_v rfl rfl (v_loadI  1 ty_3 rfl rfl q2.toR (by first | omega | (simp only [List.length_cons, List.length_nil]; omega) | (simp only [List.length_append, List.length_cons, List.length_nil]; omega) | (rw [List.length_set]; omega) | (rw [List.length_replicate]; omega) | (simp; omega))) rfl ?_
      refine rj_v rfl rfl (v_fieldAddr fd_28_1 ty_24 (by decide) rfl) rfl ?_
      refine rj_v rfl rfl (v_loadB 2 ty_24 rfl rfl rfl) rfl ?_
      refine rj_v rfl rfl (v_move rfl) rfl ?_
      refine rj_v rfl rfl (v_idxI Try.underlying24 ty_3 rfl rfl r4 (by first | omega | (simp only [List.length_cons, List.length_nil]; omega) | (simp only [List.length_append, List.length_cons, List.length_nil]; omega) | (rw [List.length_set]; omega) | (rw [List.length_replicate]; omega) | (simp; omega)) (by first | omega | (simp only [List.length_cons, List.length_nil]; omega) | (simp only [List.length_append, List.length_cons, List.length_nil]; omega) | (rw [List.length_set]; omega) | (rw [List.length_replicate]; omega) | (simp; omega))) rfl ?_
      refine rj_v rfl rfl (v_loadI (k := i) 4 ty_3 rfl rfl r4 (by first | omega | (simp only [List.length_cons, List.length_nil]; omega) | (simp only [List.length_append, List.length_cons, List.length_nil]; omega) | (rw [List.length_set]; omega) | (rw [List.length_replicate]; omega) | (simp; omega))) rfl ?_
      refine rj_v rfl rfl (v_neq rfl rfl) rfl ?_
      refine rj_v rfl rfl (v_pickt rfl rfl) rfl ?_
      refine rj_end ?_
      refine qs_n ?_
      refine wp_cd rfl (fun c42 => ?_) (fun c42 => ?_)
      · refine wp_sc ?_
        refine wp_sq ?_
        refine sq_v rfl (v_assign rfl) rfl ?_
        refine sq_v rfl (v_assign rfl) rfl ?_
        refine sq_v rfl (v_assign rfl) rfl ?_
        refine sq_end ?_
        refine qs_n ?_
        refine wp_rt ?_
        refine qs_r ?_
        refine qs_br ?_
        refine qs_r ?_
        refine qs_r ?_
        refine qs_br ?_
        refine qs_r ?_
        exact qs_ret3 rfl rfl rfl rfl (fin_e (i := 4) rfl (⟨fun _ => rfl, fun h => absurd ⟨i, by omega, hmem.1 c30, by rw [← hgt (hmem.1 c30)]; exact c42⟩ h⟩))
      · refine wp_sk ?_
        refine qs_n ?_
        refine wp_sc ?_
        refine wp_sq ?_
        refine sq_v rfl (v_move rfl) rfl ?_
        refine sq_v rfl (v_lss rfl rfl) rfl ?_
        refine sq_end ?_
        refine qs_n ?_
        refine wp_cd rfl (fun c44 => ?_) (fun c44 => ?_)
        · refine wp_sc ?_
          refine wp_sq ?_
          refine sq_v rfl (v_move rfl) rfl ?_
          refine sq_v rfl (v_move rfl) rfl ?_
          refine sq_x rfl (x_buildS [num (u.l.getD i 0)] Try.underlying24 ty_3 (by decide) rfl rfl rfl (by decide) (by decide) (by intro v hv; simp at hv; rcases hv with rfl <;> rfl)) rfl ?_; intro v47 h47 (r47 : IntsO [u.l.getD i 0] v47 h47)
          refine sq_m 1 rfl rfl (m_appI 1 0 Try.underlying24 ty_3 rfl rfl rfl rfl q1 rfl r47.toR (by first | omega | (simp only [List.length_cons, List.length_nil]; omega) | (simp only [List.length_append, List.length_cons, List.length_nil]; omega) | (rw [List.length_set]; omega) | (rw [List.length_replicate]; omega) | (simp; omega))) rfl ?_; intro v48 h_r48 r48
          refine sq_v rfl (v_assign rfl) rfl ?_
          refine sq_end ?_
          refine qs_n ?_
          refine wp_sq ?_
          refine sq_v rfl (v_move rfl) rfl ?_
          refine sq_v rfl (v_fieldAddr fd_28_1 ty_24 (by decide) rfl) rfl ?_
          refine sq_v rfl (v_loadB 3 ty_24 rfl rfl rfl) rfl ?_
          refine sq_v rfl (v_move rfl) rfl ?_
          refine sq_v rfl (v_idxI Try.underlying24 ty_3 rfl rfl r4 (by first | omega | (simp only [List.length_cons, List.length_nil]; omega) | (simp only [List.length_append, List.length_cons, List.length_nil]; omega) | (rw [List.length_set]; omega) | (rw [List.length_replicate]; omega) | (simp; omega)) (by first | omega | (simp only [List.length_cons, List.length_nil]; omega) | (simp only [List.length_append, List.length_cons, List.length_nil]; omega) | (rw [List.length_set]; omega) | (rw [List.length_replicate]; omega) | (simp; omega))) rfl ?_
          refine sq_v rfl (v_loadI (k := i) 5 ty_3 rfl rfl r4 (by first | omega | (simp only [List.length_cons, List.length_nil]; omega) | (simp only [List.length_append, List.length_cons, List.length_nil]; omega) | (rw [List.length_set]; omega) | (rw [List.length_replicate]; omega) | (simp; omega))) rfl ?_
          refine sq_x rfl (x_buildS [num (u.d.getD i 0)] Try.underlying24 ty_3 (by decide) rfl rfl rfl (by decide) (by decide) (by intro v hv; simp at hv; rcases hv with rfl <;> rfl)) rfl ?_; intro v55 h55 (r55 : IntsO [u.d.getD i 0] v55 h55)
          refine sq_m 3 rfl rfl (m_appI 3 0 Try.underlying24 ty_3 rfl rfl rfl rfl q2 rfl r55.toR (by first | omega | (simp only [List.length_cons, List.length_nil]; omega) | (simp only [List.length_append, List.length_cons, List.length_nil]; omega) | (rw [List.length_set]; omega) | (rw [List.length_replicate]; omega) | (simp; omega))) rfl ?_; intro v56 h_r56 r56
          refine sq_v rfl (v_assign rfl) rfl ?_
          refine sq_end ?_
          refine qs_bn ?_
          refine qs_n ?_
          refine wp_sq ?_
          refine sq_v rfl (v_add rfl rfl ((by unfold I64; omega))) rfl ?_
          refine sq_v rfl (v_move rfl) rfl ?_
          refine sq_end ?_
          exfalso; omega
        · refine wp_sk ?_
          refine qs_bn ?_
          refine qs_n ?_
          refine wp_sq ?_
          refine sq_v rfl (v_add rfl rfl ((by unfold I64; omega))) rfl ?_
          refine sq_v rfl (v_move rfl) rfl ?_
          refine sq_end ?_
          exact qs_bk (i + 1, v1, h1, v2, h2) ⟨by (try dsimp only); omega, step_all hm (fun h => h.2 (by rw [← hgt h.1]; omega)), by (try dsimp only); rw [filter_no (by omega) (by simpa using hmem.1 c30)]; exact q1, by (try dsimp only); rw [selP_no hu (by omega) (by simpa using hmem.1 c30)]; exact q2⟩ (by simp only; omega) ⟨rfl, rfl, rfl, rfl, (by first | rfl | exact ksub rfl (by first | omega | (simp; done) | (simp; omega))), (by first | rfl | exact ksub rfl (by first | omega | (simp; done) | (simp; omega))), rfl, rfl, (by first | rfl | exact ksub rfl (by first | omega | (simp; done) | (simp; omega))), trivial⟩ (fun _ s => s)
    · refine rj_v rfl rfl (v_move rfl) rfl ?_
      refine rj_s rfl rfl rfl ?_
      refine rj_s rfl rfl rfl ?_
      refine rj_s rfl rfl rfl ?_
      refine rj_s rfl rfl rfl ?_
      refine rj_s rfl rfl rfl ?_
      refine rj_s rfl rfl rfl ?_
      refine rj_s rfl rfl rfl ?_
      refine rj_s rfl rfl rfl ?_
      refine rj_s rfl rfl rfl ?_
      refine rj_s rfl rfl rfl ?_
      refine rj_v rfl rfl (v_pickf rfl rfl) rfl ?_
      refine rj_end ?_
      refine qs_n ?_
      refine wp_cf rfl ?_
      refine wp_sk ?_
      refine qs_n ?_
      refine wp_sc ?_
      refine wp_sq ?_
      refine sq_v rfl (v_move rfl) rfl ?_
      refine sq_v rfl (v_lss rfl rfl) rfl ?_
      refine sq_end ?_
      refine qs_n ?_
      refine wp_cd rfl (fun c44 => ?_) (fun c44 => ?_)
      · refine wp_sc ?_
        refine wp_sq ?_
        refine sq_v rfl (v_move rfl) rfl ?_
        refine sq_v rfl (v_move rfl) rfl ?_
        refine sq_x rfl (x_buildS [num (u.l.getD i 0)] Try.underlying24 ty_3 (by decide) rfl rfl rfl (by decide) (by decide) (by intro v hv; simp at hv; rcases hv with rfl <;> rfl)) rfl ?_; intro v47 h47 (r47 : IntsO [u.l.getD i 0] v47 h47)
        refine sq_m 1 rfl rfl (m_appI 1 0 Try.underlying24 ty_3 rfl rfl rfl rfl q1 rfl r47.toR (by first | omega | (simp only [List.length_cons, List.length_nil]; omega) | (simp only [List.length_append, List.length_cons, List.length_nil]; omega) | (rw [List.length_set]; omega) | (rw [List.length_replicate]; omega) | (simp; omega))) rfl ?_; intro v48 h_r48 r48
        refine sq_v rfl (v_assign rfl) rfl ?_
        refine sq_end ?_
        refine qs_n ?_
        refine wp_sq ?_
        refine sq_v rfl (v_move rfl) rfl ?_
        refine sq_v rfl (v_fieldAddr fd_28_1 ty_24 (by decide) rfl) rfl ?_
        refine sq_v rfl (v_loadB 3 ty_24 rfl rfl rfl) rfl ?_
        refine sq_v rfl (v_move rfl) rfl ?_
        refine sq_v rfl (v_idxI Try.underlying24 ty_3 rfl rfl r4 (by first | omega | (simp only [List.length_cons, List.length_nil]; omega) | (simp only [List.length_append, List.length_cons, List.length_nil]; omega) | (rw [List.length_set]; omega) | (rw [List.length_replicate]; omega) | (simp; omega)) (by first | omega | (simp only [List.length_cons, List.length_nil]; omega) | (simp only [List.length_append, List.length_cons, List.length_nil]; omega) | (rw [List.length_set]; omega) | (rw [List.length_replicate]; omega) | (simp; omega))) rfl ?_
        refine sq_v rfl (v_loadI (k := i) 5 ty_3 rfl rfl r4 (by first | omega | (simp only [List.length_cons, List.length_nil]; omega) | (simp only [List.length_append, List.length_cons, List.length_nil]; omega) | (rw [List.length_set]; omega) | (rw [List.length_replicate]; omega) | (simp; omega))) rfl ?_
        refine sq_x rfl (x_buildS [num (u.d.getD i 0)] Try.underlying24 ty_3 (by decide) rfl rfl rfl (by decide) (by decide) (by intro v hv; simp at hv; rcases hv with rfl <;> rfl)) rfl ?_; intro v55 h55 (r55 : IntsO [u.d.getD i 0] v55 h55)
        refine sq_m 3 rfl rfl (m_appI 3 0 Try.underlying24 ty_3 rfl rfl rfl rfl q2 rfl r55.toR (by first | omega | (simp only [List.length_cons, List.length_nil]; omega) | (simp only [List.length_append, List.length_cons, List.length_nil]; omega) | (rw [List.length_set]; omega) | (rw [List.length_replicate]; omega) | (simp; omega))) rfl ?_; intro v56 h_r56 r56
        refine sq_v rfl (v_assign rfl) rfl ?_
        refine sq_end ?_
        refine qs_bn ?_
        refine qs_n ?_
        refine wp_sq ?_
        refine sq_v rfl (v_add rfl rfl ((by unfold I64; omega))) rfl ?_
        refine sq_v rfl (v_move rfl) rfl ?_
        refine sq_end ?_
        exact qs_bk (i + 1, v48, h_r48, v56, h_r56) ⟨by (try dsimp only); omega, step_all hm (fun h => c30 (hmem.2 h.1)), by (try dsimp only); rw [filter_yes (by omega) (by simpa using fun h => c30 (hmem.2 h)), ← List.append_assoc]; exact r48, by (try dsimp only); rw [selP_yes hu (by omega) (by simpa using fun h => c30 (hmem.2 h)), ← List.append_assoc]; exact r56⟩ (by simp only; omega) ⟨rfl, rfl, rfl, rfl, (by first | rfl | exact ksub rfl (by first | omega | (simp; done) | (simp; omega))), (by first | rfl | exact ksub rfl (by first | omega | (simp; done) | (simp; omega))), rfl, rfl, (by first | rfl | exact ksub rfl (by first | omega | (simp; done) | (simp; omega))), trivial⟩ (fun _ s => s.pick [2, 3, 4, 5, 6] (by decide) rfl)
      · refine wp_sk ?_
        refine qs_bn ?_
        refine qs_n ?_
        refine wp_sq ?_
        refine sq_v rfl (v_add rfl rfl ((by unfold I64; omega))) rfl ?_
        refine sq_v rfl (v_move rfl) rfl ?_
        refine sq_end ?_
        exfalso; omega
  · refine wp_ex ?_
    refine qs_x ?_
    refine qs_x ?_
    refine qs_bx ?_
    refine qs_n ?_
    refine wp_sc ?_
    refine wp_sq ?_
    refine sq_v rfl (v_move rfl) rfl ?_
    refine sq_v rfl (v_move rfl) rfl ?_
    refine sq_v rfl (v_assign rfl) rfl ?_
    refine sq_v rfl (v_assign rfl) rfl ?_
    refine sq_v rfl (v_assign rfl) rfl ?_
    refine sq_end ?_
    refine qs_n ?_
    refine wp_rt ?_
    refine qs_close [hp w] [h1, h2] (fun _ s => s.pick [4, 0, 1] (by decide) rfl) (fun md => ?_)
    rw [List.take_of_length_le (by omega)] at q1
    rw [List.take_of_length_le (by omega), List.take_of_length_le (by omega)] at q2
    exact qs_ret3 rfl rfl rfl rfl (fin_t 0 (i := 1) rfl rfl rfl ⟨fun ⟨j, hj, hh⟩ => absurd hh (hm j (by omega)), fun _ => ⟨v1, v2, rfl, q1.toR.mono (md.le h1 (by simp)), q2.toR.mono (md.le h2 (by simp))⟩⟩)
theorem joinD_map {t u : Ten} {f : Int → Int} (ht : t.d = t.l.map f) (hu : u.d = u.l.map f) : joinD t u = (joinI t.l u.l).map f := by
  rw [joinD, ht, hu, selP_map, joinI, List.map_append]
theorem mism_not {t u : Ten} {f : Int → Int} (ht : t.d = t.l.map f) (hu : u.d = u.l.map f) : ¬ mism t u := by
  rintro ⟨i, hi, hm, hne⟩
  have hg := findI_get hm
  rw [ht, hu, map_getD hg.1, map_getD hi, hg.2] at hne
  exact hne rfl
/-- Labels and dimensions of which p holds, as a tensor without numbers. -/
def KeepR (ls ds : List Int) (u : Value) (h : PH) : Prop := ∃ a b h1 h2, u = tenV a b (.slice none 0 0) ∧ IntsO ls a h1 ∧ IntsO ds b h2 ∧ Made h [h1, h2]
theorem ct_s_l08Keep (ls ds ks : List Int) (a b c : Value) (w : World) (r1 : IntsR ls a (hp w)) (r2 : IntsR ds b (hp w)) (r3 : IntsR ks c (hp w)) (hl : ls.length = ds.length) (hs : ls.length ≤ 1000000) :
    Calls Try.prog 192 [a, b, c].toArray w (Ret w emp (KeepR (ls.filter fun x => decide (x ∈ ks)) (selP (fun x => decide (x ∈ ks)) ls ds))) := by
  refine calls_in Try.func192 rfl Try.ntmps192 rfl (Sat.start w) ?_
  have hle0 := r1.le
  have hle1 := r2.le
  have hle2 := r3.le
  refine wp_sc ?_
  refine wp_sq ?_
  refine sq_x rfl (x_alloc ty_28 rfl) rfl ?_; rintro _ _ ⟨b6, rfl, rfl⟩
  refine sq_end ?_
  refine qs_n ?_
  refine wp_sc ?_
  refine wp_sq ?_
  refine sq_v rfl (v_build [.slice none 0 0, .slice none 0 0, .slice none 0 0] rfl (by kernel_rfl)) rfl ?_
  refine sq_x rfl (x_alloc ty_28 rfl) rfl ?_; rintro _ _ ⟨b7, rfl, rfl⟩
  refine sq_m 0 rfl rfl (m_store 0 ty_28 rfl rfl rfl rfl (by simp [one_sl]) rfl (Nat.le_of_ble_eq_true rfl)) rfl ?_; rintro _ _ ⟨rfl, rfl⟩
  refine sq_end ?_
  refine qs_n ?_
  refine wp_sc ?_
  refine wp_sc ?_
  refine wp_sq ?_
  refine sq_v rfl (v_move rfl) rfl ?_
  refine sq_v rfl (v_len Try.underlying24 rfl r1.sl) rfl ?_
  refine sq_v rfl (v_move rfl) rfl ?_
  refine sq_end ?_
  refine qs_n ?_
  refine wp_bl ?_
  refine wp_lp (σ := Nat × Value × PH × Value × PH) (fun z_ => [(1, b), (2, c), (6, .pointer (some ⟨b6, 0, none⟩)), (7, .pointer (some ⟨b7, 0, none⟩)), (11, a), (12, num ls.length), (13, num z_.1)]) (fun z_ => [z_.2.2.1, z_.2.2.2.2, box b7 [z_.2.1, z_.2.2.2.1, .slice none 0 0] 28, box b6 [.slice none 0 0, .slice none 0 0, .slice none 0 0] 28, hp w]) (fun z_ => z_.1 ≤ ls.length ∧ IntsO ((ls.take z_.1).filter fun x => decide (x ∈ ks)) z_.2.1 z_.2.2.1 ∧ IntsO (selP (fun x => decide (x ∈ ks)) (ls.take z_.1) (ds.take z_.1)) z_.2.2.2.1 z_.2.2.2.2) (fun z_ => ls.length - z_.1) (0, .slice none 0 0, emp, .slice none 0 0, emp) (⟨by (try dsimp only); omega, IntsO.nil, IntsO.nil⟩) ⟨rfl, rfl, rfl, rfl, rfl, rfl, (by first | rfl | exact ksub rfl (by first | omega | (simp; done) | (simp; omega))), trivial⟩ (fun _ s => (emp_sat (emp_sat s))) ?_
  rintro ⟨i, v1, h1, v2, h2⟩ ⟨hi, q1, q2⟩
  dsimp only at hi q1 q2 ⊢
  have hle_q1 := q1.toR.le
  have hle_q2 := q2.toR.le
  have hfl := filter_take_len ls (fun x => decide (x ∈ ks)) i
  have hsl := selP_len (fun x => decide (x ∈ ks)) (ls.take i) (ds.take i)
  rw [List.length_take] at hsl
  have hmem := findI_ge (xs := ks) (n := ls.getD i 0)
  refine wp_sc ?_
  refine wp_sq ?_
  refine sq_v rfl (v_lss rfl rfl) rfl ?_
  refine sq_end ?_
  refine qs_n ?_
  refine wp_sc ?_
  refine wp_cd rfl (fun c14 => ?_) (fun c14 => ?_)
  · refine wp_sk ?_
    refine qs_n ?_
    refine wp_sc ?_
    refine wp_bl ?_
    refine wp_sc ?_
    refine wp_sq ?_
    refine sq_v rfl (v_move rfl) rfl ?_
    refine sq_v rfl (v_idxI Try.underlying24 ty_3 rfl rfl r1 (by first | omega | (simp only [List.length_cons, List.length_nil]; omega) | (simp only [List.length_append, List.length_cons, List.length_nil]; omega) | (rw [List.length_set]; omega) | (rw [List.length_replicate]; omega) | (simp; omega)) (by first | omega | (simp only [List.length_cons, List.length_nil]; omega) | (simp only [List.length_append, List.length_cons, List.length_nil]; omega) | (rw [List.length_set]; omega) | (rw [List.length_replicate]; omega) | (simp; omega))) rfl ?_
    refine sq_v rfl (v_loadI (k := i) 4 ty_3 rfl rfl r1 (by first | omega | (simp only [List.length_cons, List.length_nil]; omega) | (simp only [List.length_append, List.length_cons, List.length_nil]; omega) | (rw [List.length_set]; omega) | (rw [List.length_replicate]; omega) | (simp; omega))) rfl ?_
    refine sq_v rfl (v_assign rfl) rfl ?_
    refine sq_v rfl (v_assign rfl) rfl ?_
    refine sq_end ?_
    refine qs_n ?_
    refine wp_sc ?_
    refine wp_sq ?_
    refine sq_v rfl (v_move rfl) rfl ?_
    refine sq_v rfl (v_move rfl) rfl ?_
    refine sq_u rfl (x_callv rfl en_123 (fun w s => ct_s_l05Find _ _ _ w (r3.mono (s.get 4 rfl)))) rfl ?_
    refine sq_v rfl (v_geq rfl rfl) rfl ?_
    refine sq_end ?_
    refine qs_n ?_
    refine wp_cd rfl (fun c21 => ?_) (fun c21 => ?_)
    · refine wp_sc ?_
      refine wp_sq ?_
      refine sq_v rfl (v_fieldAddr fd_28_0 ty_24 (by decide) rfl) rfl ?_
      refine sq_v rfl (v_loadB 2 ty_24 rfl rfl rfl) rfl ?_
      refine sq_v rfl (v_move rfl) rfl ?_
      refine sq_x rfl (x_buildS [num (ls.getD i 0)] Try.underlying24 ty_3 (by decide) rfl rfl rfl (by decide) (by decide) (by intro v hv; simp at hv; rcases hv with rfl <;> rfl)) rfl ?_; intro v25 h25 (r25 : IntsO [ls.getD i 0] v25 h25)
      refine sq_m 1 rfl rfl (m_appI 1 0 Try.underlying24 ty_3 rfl rfl rfl rfl q1 rfl r25.toR (by first | omega | (simp only [List.length_cons, List.length_nil]; omega) | (simp only [List.length_append, List.length_cons, List.length_nil]; omega) | (rw [List.length_set]; omega) | (rw [List.length_replicate]; omega) | (simp; omega))) rfl ?_; intro v26 h_r26 r26
      refine sq_v rfl (v_fieldAddr fd_28_0 ty_24 (by decide) rfl) rfl ?_
      refine sq_m 3 rfl rfl (m_store1 3 ty_24 rfl rfl r26.toR.sl.one rfl (Nat.le_of_ble_eq_true rfl)) rfl ?_; rintro _ _ ⟨rfl, rfl⟩
      refine sq_end ?_
      refine qs_n ?_
      refine wp_rj 7 [(0, true), (1, true), (2, true), (3, true), (4, true), (5, true), (6, false), (7, false), (8, false), (9, false)] mixed_ok (by kernel_rfl) ?_
      refine rj_v rfl rfl (v_fieldAddr fd_28_1 ty_24 (by decide) rfl) rfl ?_
      refine rj_v rfl rfl (v_loadB 3 ty_24 rfl rfl rfl) rfl ?_
      refine rj_v rfl rfl (v_move rfl) rfl ?_
      refine rj_v rfl rfl (v_move rfl) rfl ?_
      refine rj_v rfl rfl (v_idxI Try.underlying24 ty_3 rfl rfl r2 (by first | omega | (simp only [List.length_cons, List.length_nil]; omega) | (simp only [List.length_append, List.length_cons, List.length_nil]; omega) | (rw [List.length_set]; omega) | (rw [List.length_replicate]; omega) | (simp; omega)) (by first | omega | (simp only [List.length_cons, List.length_nil]; omega) | (simp only [List.length_append, List.length_cons, List.length_nil]; omega) | (rw [List.length_set]; omega) | (rw [List.length_replicate]; omega) | (simp; omega))) rfl ?_
      refine rj_v rfl rfl (v_loadI (k := i) 5 ty_3 rfl rfl r2 (by first | omega | (simp only [List.length_cons, List.length_nil]; omega) | (simp only [List.length_append, List.length_cons, List.length_nil]; omega) | (rw [List.length_set]; omega) | (rw [List.length_replicate]; omega) | (simp; omega))) rfl ?_
      refine rj_x rfl rfl (x_buildS [num (ds.getD i 0)] Try.underlying24 ty_3 (by decide) rfl rfl rfl (by decide) (by decide) (by intro v hv; simp at hv; rcases hv with rfl <;> rfl)) rfl ?_; intro v34 h34 (r34 : IntsO [ds.getD i 0] v34 h34)
      refine rj_m 3 rfl rfl rfl rfl (m_appI 3 0 Try.underlying24 ty_3 rfl rfl rfl rfl q2 rfl r34.toR (by first | omega | (simp only [List.length_cons, List.length_nil]; omega) | (simp only [List.length_append, List.length_cons, List.length_nil]; omega) | (rw [List.length_set]; omega) | (rw [List.length_replicate]; omega) | (simp; omega))) rfl ?_; intro v35 h_r35 r35
      refine rj_fv rfl rfl (v_fieldAddr fd_28_1 ty_24 (by decide) rfl) rfl ?_
      refine rj_m 4 rfl rfl rfl rfl (m_store1 4 ty_24 rfl rfl r35.toR.sl.one rfl (Nat.le_of_ble_eq_true rfl)) rfl ?_; rintro _ _ ⟨rfl, rfl⟩
      refine rj_end ?_
      refine qs_bn ?_
      refine qs_n ?_
      refine wp_sq ?_
      refine sq_v rfl (v_add rfl rfl ((by unfold I64; omega))) rfl ?_
      refine sq_v rfl (v_move rfl) rfl ?_
      refine sq_end ?_
      exact qs_bk (i + 1, v26, h_r26, v35, h_r35) ⟨by (try dsimp only); omega, by (try dsimp only); rw [filter_yes (by omega) (by simpa using hmem.1 c21)]; exact r26, by (try dsimp only); rw [selP_yes hl (by omega) (by simpa using hmem.1 c21)]; exact r35⟩ (by simp only; omega) ⟨rfl, rfl, rfl, rfl, rfl, rfl, (by first | rfl | exact ksub rfl (by first | omega | (simp; done) | (simp; omega))), trivial⟩ (fun _ s => s.pick [2, 3, 4, 5, 6] (by decide) rfl)
    · refine wp_sk ?_
      refine qs_bn ?_
      refine qs_n ?_
      refine wp_sq ?_
      refine sq_v rfl (v_add rfl rfl ((by unfold I64; omega))) rfl ?_
      refine sq_v rfl (v_move rfl) rfl ?_
      refine sq_end ?_
      exact qs_bk (i + 1, v1, h1, v2, h2) ⟨by (try dsimp only); omega, by (try dsimp only); rw [filter_no (by omega) (by simpa using fun h => c21 (hmem.2 h))]; exact q1, by (try dsimp only); rw [selP_no hl (by omega) (by simpa using fun h => c21 (hmem.2 h))]; exact q2⟩ (by simp only; omega) ⟨rfl, rfl, rfl, rfl, rfl, rfl, (by first | rfl | exact ksub rfl (by first | omega | (simp; done) | (simp; omega))), trivial⟩ (fun _ s => s)
  · refine wp_ex ?_
    refine qs_x ?_
    refine qs_x ?_
    refine qs_bx ?_
    refine qs_n ?_
    refine wp_sc ?_
    refine wp_sq ?_
    refine sq_v rfl (v_loadNB 2 ty_28 rfl rfl rfl rfl) rfl ?_
    refine sq_m 3 rfl rfl (m_store 3 ty_28 rfl rfl rfl rfl (by simp [q1.toR.sl.one, q2.toR.sl.one, one_sl]) rfl (Nat.le_of_ble_eq_true rfl)) rfl ?_; rintro _ _ ⟨rfl, rfl⟩
    refine sq_end ?_
    refine qs_n ?_
    refine wp_rt ?_
    refine qs_close [box b6 _ _, hp w] [h1, h2] (fun _ s => s.pick [3, 4, 0, 1] (by decide) rfl) (fun md => ?_)
    rw [List.take_of_length_le (by omega)] at q1
    rw [List.take_of_length_le (by omega), List.take_of_length_le (by omega)] at q2
    exact qs_retc 1 rfl ty_28 rfl rfl rfl (fin_t 0 (i := 2) rfl rfl rfl ⟨v1, v2, h1, h2, rfl, q1, q2, md⟩)
theorem ct_u_l08Join (f : Int → Int) (t u : Ten) (a b c a' b' c' : Value) (w : World) (r1 : IntsR t.l a (hp w)) (r2 : IntsR t.d b (hp w)) (r3 : IntsR u.l a' (hp w)) (r4 : IntsR u.d b' (hp w)) (ht : t.d = t.l.map f) (hu : u.d = u.l.map f) (hn : u.l.Nodup) (hs : t.l.length + u.l.length ≤ 1000000) :
    Calls Try.prog 181 [tenV a b c, tenV a' b' c'].toArray w (Ret w emp (fun v h => ∃ v1 v2, v = .tuple [v1, v2, .bool true].toArray ∧ IntsR (joinI t.l u.l) v1 h ∧ IntsR ((joinI t.l u.l).map f) v2 h)) :=
  (ct_s_l08Join t u a b c a' b' c' w r1 r2 r3 r4 (by rw [ht, List.length_map]) (by rw [hu, List.length_map]) hn hs).mono fun _ _ hh => by
    obtain ⟨v, h', h1, h2, h3⟩ := hh
    have := h3.2 (mism_not ht hu)
    rw [joinD_map ht hu] at this
    exact ⟨v, h', h1, h2, this⟩
theorem map_dims {f : Int → Int} {l : List Int} (h : ∀ x ∈ l, 1 ≤ f x ∧ f x ≤ 8) : dimsIn (l.map f) := fun j hj => by
  rw [List.length_map] at hj
  rw [map_getD hj]
  exact h _ (mem_getD hj)
end Go.Proofs.Ytikeobneipjfnaa
