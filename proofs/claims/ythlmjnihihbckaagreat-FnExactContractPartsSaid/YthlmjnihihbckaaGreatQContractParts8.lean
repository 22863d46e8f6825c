/-
  Parts of the proof of FnExactContractParts: laws of heaps, contracts of functions.
  Conditions: none.
-/
import Derived.Test.YthlmjnihihbckaaGreatQContractParts7
namespace Go.Proofs.YthlmjnihihbckaaGreat
set_option maxRecDepth 100000
open Go.RowKit
def bestAt (g : Nat × Nat → Int) (l : List (Nat × Nat)) (i : Nat) (p : Nat × Nat) : Prop := p ∈ l ∧ (i = 0 → l[0]? = some p) ∧ (0 < i → bestP g (l.take i) = some p)
theorem bestAt.yes {g : Nat × Nat → Int} {l : List (Nat × Nat)} {i : Nat} {p x : Nat × Nat} (h : bestAt g l i p) (hx : l[i]? = some x) (hlt : g x < g p) : bestAt g l (i + 1) x := by
  obtain ⟨hi, e⟩ := List.getElem?_eq_some_iff.1 hx; refine ⟨List.mem_of_getElem? hx, fun e => by omega, fun _ => ?_⟩; rw [List.take_succ_eq_append_getElem hi, e, bestP_snoc]
  rcases Nat.eq_zero_or_pos i with h0 | h0
  · subst h0; simp [bestP]
  · rw [h.2.2 h0]; simp [hlt]
theorem bestAt.no {g : Nat × Nat → Int} {l : List (Nat × Nat)} {i : Nat} {p x : Nat × Nat} (h : bestAt g l i p) (hx : l[i]? = some x) (hlt : ¬ g x < g p) : bestAt g l (i + 1) p := by
  obtain ⟨hi, e⟩ := List.getElem?_eq_some_iff.1 hx; refine ⟨h.1, fun e => by omega, fun _ => ?_⟩; rw [List.take_succ_eq_append_getElem hi, e, bestP_snoc]
  rcases Nat.eq_zero_or_pos i with h0 | h0
  · subst h0; have := h.2.1 rfl; rw [hx] at this
    cases this
    simp [bestP]
  · rw [h.2.2 h0]; simp [hlt]
def CompR (k p n : Int) (ts : List Ten) (op : List Int) (ss : List Stp) (u : Value) (h : PH) : Prop :=
  ∃ v, u = .tuple [v, .bool (compB k p n ts op ss)].toArray ∧ StepsO (compS k p n ts op ss) v h
theorem CompR.no {k p n : Int} {ts : List Ten} {op : List Int} {ss : List Stp} (h : ¬ compP k p n ts op ss) : CompR k p n ts op ss (.tuple [.slice none 0 0, .bool false].toArray) emp :=
  ⟨_, by rw [show compB k p n ts op ss = false by simp [compB, h]], by rw [compS, if_neg h]; exact StepsO.nil⟩
end Go.Proofs.YthlmjnihihbckaaGreat
namespace Go.Proofs.YthlmjnihihbckaaGreat
set_option maxRecDepth 100000
open Go.RowKit
def bI (g : Nat × Nat → Int) (o : Option (Nat × Nat)) (bi bj bg : Int) : Prop := (o = none → bi = -1) ∧ ∀ x, o = some x → bi = x.1 ∧ bj = x.2 ∧ bg = g x
theorem bI.yes {g : Nat × Nat → Int} {l : List (Nat × Nat)} {bi bj bg : Int} {x : Nat × Nat} (h : bI g (bestP g l) bi bj bg) (c : bi < 0 ∨ g x < bg) : bI g (bestP g (l ++ [x])) x.1 x.2 (g x) := by
  rw [bestP_snoc]
  cases hb : bestP g l with
  | none => exact ⟨fun e => by simp at e, fun y e => by simp at e; subst e; exact ⟨rfl, rfl, rfl⟩⟩
  | some y =>
    have hy := h.2 y hb; have : g x < g y := by omega
    simp only [this, if_true]; exact ⟨fun e => by simp at e, fun y e => by simp at e; subst e; exact ⟨rfl, rfl, rfl⟩⟩
theorem bI.no {g : Nat × Nat → Int} {l : List (Nat × Nat)} {bi bj bg : Int} {x : Nat × Nat} (h : bI g (bestP g l) bi bj bg) (c1 : ¬ bi < 0) (c2 : ¬ g x < bg) : bI g (bestP g (l ++ [x])) bi bj bg := by
  rw [bestP_snoc]
  cases hb : bestP g l with
  | none => have := h.1 hb; omega
  | some y =>
    have hy := h.2 y hb; have : ¬ g x < g y := by omega
    simp only [this, if_false]; exact ⟨fun e => by simp at e, fun z e => by simp at e; subst e; exact hy⟩
end Go.Proofs.YthlmjnihihbckaaGreat
namespace Go.Proofs.YthlmjnihihbckaaGreat
set_option maxRecDepth 100000
open Go.RowKit
section
variable {P : Program} {n : Nat} {w0 : World} {K : Env} {HS : List PH} {d : Option Tmp} {ty : TypeId} {ps : String} {af : Array Edge} {g : Option (Nat × Bool)}
theorem m_storeBA {t : TypeId} {x y : Operand} {z : Value} {bytes b o k : Nat} {a : Bool} {xs : List Bool} {bt : TypeId} (p : Nat) (ht : TyF P t z 1 bytes false) (hx : ev K x = some (.pointer (some ⟨b, o, none⟩))) (hy : ev K y = some (.bool a))
    (hp' : HS[p]? = some (box b (bools xs) bt)) (hk : k < xs.length) (ho : o = 0 + k * 1) :
    StepX P n w0 K HS ⟨d, .store t x y, ty, ps, af, g⟩ (box b (bools xs) bt) (fun v' h' => v' = undef ∧ h' = box b (bools (xs.set k a)) bt) := by
  subst ho; rw [Nat.zero_add, Nat.mul_one] at hx; have := m_store1 (P := P) (n := n) (w0 := w0) (d := d) (ty := ty) (ps := ps) (af := af) (g := g) p ht hx hy rfl hp' (by rw [bools_length]; exact hk)
  rwa [bools_set] at this
end
def markT (bs : List Bool) (ls : List Int) : List Bool := ls.foldl (fun q x => q.set x.toNat true) bs
theorem markT_len (bs : List Bool) : ∀ ls : List Int, (markT bs ls).length = bs.length := fun ls => by
  induction ls generalizing bs with
  | nil => rfl
  | cons x r ih => rw [markT, List.foldl_cons]; have := ih (bs.set x.toNat true); rw [List.length_set] at this; exact this
theorem markT_step {bs : List Bool} {ls : List Int} {i : Nat} (h : i < ls.length) : markT bs (ls.take (i + 1)) = (markT bs (ls.take i)).set (ls.getD i 0).toNat true := by
  rw [take_succ h, markT, List.foldl_append]; rfl
theorem ct_i_markLabels (bs : List Bool) (ls : List Int) (bb : Nat) (v : Value) (w : World) (hle : PLe (box bb (bools bs) 192) (hp w)) (r : IntsR ls v (restP w (box bb (bools bs) 192))) (hb : bs.length = 100) (hl : ∀ x ∈ ls, 0 ≤ x ∧ x ≤ 99) :
    Calls Tryz.prog 207 [.pointer (some ⟨bb, 0, none⟩), v].toArray w (Ret w (box bb (bools bs) 192) (fun _ h' => h' = box bb (bools (markT bs ls)) 192)) := by
  refine calls_in Tryz.func207 rfl Tryz.ntmps207 rfl (Sat.start2 hle) ?_; have hle0 := r.le; refine wp_sc (wp_sq (sq_v rfl (v_move rfl) rfl (sq_v rfl (v_len Tryz.underlying25 rfl r.sl) rfl (sq_v rfl (v_move rfl) rfl (sq_end (qs_n (wp_bl ?_))))))); refine wp_lp (σ := Nat × (List Bool)) (fun z_ => [(0, .pointer (some ⟨bb, 0, none⟩)), (6, v), (7, num ls.length), (8, num z_.1)]) (fun z_ => [(box bb (bools z_.2) 192), (restP w (box bb (bools bs) 192))]) (fun z_ => z_.1 ≤ ls.length ∧ z_.2 = markT bs (ls.take z_.1)) (fun z_ => ls.length - z_.1) (0, bs) (⟨by (try dsimp only); omega, by (try dsimp only); rfl⟩) ⟨(by first | rfl | exact ksub rfl (by first | omega | (simp; done) | (simp; omega))), rfl, rfl, (by first | rfl | exact ksub rfl (by first | omega | (simp; done) | (simp; omega))), trivial⟩ (fun _ s => s) ?_; rintro ⟨i, q⟩ ⟨hi, hq⟩; dsimp only at hi hq ⊢; have hql : q.length = 100 := by rw [hq, markT_len]; exact hb
  refine wp_sc (wp_sq (sq_v rfl (v_lss rfl rfl) rfl (sq_end (qs_n (wp_sc ?_))))); refine wp_cd rfl (fun c9 => ?_) (fun c9 => ?_)
  · refine wp_sk (qs_n (wp_sc (wp_bl (wp_sc (wp_sq ?_))))); refine sq_v rfl (v_idxI Tryz.underlying25 ty_3 rfl rfl r (by first | omega | (simp; omega) | (simp only [List.length_append, List.length_cons, List.length_nil]; omega) | (rw [List.length_set]; omega)) (by first | omega | (simp; omega) | (simp only [List.length_append, List.length_cons, List.length_nil]; omega) | (rw [List.length_set]; omega))) rfl ?_; refine sq_v rfl (v_loadI (k := i) 1 ty_3 rfl rfl r (by first | omega | (simp; omega) | (simp only [List.length_append, List.length_cons, List.length_nil]; omega) | (rw [List.length_set]; omega))) rfl ?_; refine sq_v rfl (v_assign rfl) rfl (sq_end ?_); have hx := hl (ls.getD i 0) (by have e : ls[i]? = some (ls.getD i 0) := (by simp [List.getD, show i < ls.length by omega]); exact List.mem_of_getElem? e); refine qs_n (wp_sq (sq_v rfl (v_move rfl) rfl (sq_v rfl (v_move rfl) rfl (sq_v rfl (v_nilCheck rfl) rfl (sq_v rfl (v_indexAddrA Tryz.underlying192 ty_4 rfl rfl (by omega) (by omega)) rfl ?_))))); refine sq_m 0 rfl rfl (m_storeBA 0 ty_4 rfl rfl rfl (k := (ls.getD i 0).toNat) (by omega) rfl) rfl ?_; rintro _ _ ⟨rfl, rfl⟩; refine sq_end (qs_bn (qs_n (wp_sq ?_))); refine sq_v rfl (v_add rfl rfl ((by unfold I64; omega))) rfl ?_; refine sq_v rfl (v_move rfl) rfl (sq_end ?_); exact qs_bk (i + 1, q.set (ls.getD i 0).toNat true) ⟨by (try dsimp only); omega, by (try dsimp only); rw [markT_step (by omega), hq]⟩ (by simp only; omega) ⟨(by first | rfl | exact ksub rfl (by first | omega | (simp; done) | (simp; omega))), rfl, rfl, (by first | rfl | exact ksub rfl (by first | omega | (simp; done) | (simp; omega))), trivial⟩ (fun _ s => s)
  · refine wp_ex (qs_x (qs_x (qs_bx ?_))); exact qs_ret0 rfl (fin_m (i := 1) 0 rfl rfl rfl (by rw [hq, List.take_of_length_le (by omega)]))
end Go.Proofs.YthlmjnihihbckaaGreat
namespace Go.Proofs.YthlmjnihihbckaaGreat
set_option maxRecDepth 100000
open Go.RowKit
theorem markT_get {bs : List Bool} : ∀ {ls : List Int} (_ : ∀ x ∈ ls, 0 ≤ x ∧ x ≤ 99) (_ : bs.length = 100) {x : Int} (_ : 0 ≤ x ∧ x ≤ 99), (markT bs ls).getD x.toNat false = true ↔ x ∈ ls ∨ bs.getD x.toNat false = true := fun {ls} => by
  induction ls generalizing bs with
  | nil => intro _ _ x _; simp [markT]
  | cons y r ih =>
    intro hl hb x hx; have hy := hl y (by simp); have h := ih (bs := bs.set y.toNat true) (fun a ha => hl a (by simp [ha])) (by simp [hb]) hx; rw [markT, List.foldl_cons]; rw [markT] at h; rw [h]; have e : (bs.set y.toNat true).getD x.toNat false = true ↔ x = y ∨ bs.getD x.toNat false = true := by
      simp only [List.getD]
      by_cases hxy : y.toNat = x.toNat
      · rw [hxy, List.getElem?_set_self (by omega)]; have : x = y := by omega
        simp [this]
      · rw [List.getElem?_set_ne hxy]; have : x ≠ y := fun e => hxy (by rw [e])
        simp [this]
    rw [e]; simp only [List.mem_cons]
    constructor
    · rintro (h1 | h1 | h1)
      · exact .inl (.inr h1)
      · exact .inl (.inl h1)
      · exact .inr h1
    · rintro ((h1 | h1) | h1)
      · exact .inr (.inl h1)
      · exact .inl h1
      · exact .inr (.inr h1)
theorem dimOf_pos {ts : List Ten} (hok : ∀ t ∈ ts, AxOK t) {x : Int} : 0 < dimOf ts x ↔ ∃ t ∈ ts, x ∈ t.l := by
  induction ts with
  | nil => simp [dimOf]
  | cons t r ih =>
    have ih' := ih (fun t ht => hok t (by simp [ht])); rw [dimOf]
    split
    · rename_i h
      have ha := hok t (by simp); have hf := findI_range t.l x; have hg := findI_ge.2 h; have := ha.2 (findI t.l x).toNat (by omega); exact ⟨fun _ => ⟨t, by simp, h⟩, fun _ => by omega⟩
    · rename_i h
      rw [ih']
      constructor
      · rintro ⟨u, hu, hx⟩; exact ⟨u, by simp [hu], hx⟩
      · rintro ⟨u, hu, hx⟩
        rcases List.mem_cons.1 hu with rfl | hu
        · exact absurd hx h
        · exact ⟨u, hu, hx⟩
theorem ex_snoc {l : List Ten} {t : Ten} {x : Int} : (∃ u ∈ l ++ [t], x ∈ u.l) ↔ x ∈ t.l ∨ ∃ u ∈ l, x ∈ u.l := by
  constructor
  · rintro ⟨u, hu, hx⟩
    rcases List.mem_append.1 hu with hu | hu
    · exact .inr ⟨u, hu, hx⟩
    · rw [List.mem_singleton.1 hu] at hx; exact .inl hx
  · rintro (hx | ⟨u, hu, hx⟩)
    · exact ⟨t, by simp, hx⟩
    · exact ⟨u, by simp [hu], hx⟩
end Go.Proofs.YthlmjnihihbckaaGreat
namespace Go.Proofs.YthlmjnihihbckaaGreat
set_option maxRecDepth 100000
open Go.RowKit
def meetP (t u : Ten) : Prop := ∃ x ∈ t.l, x ∈ u.l
open Classical in
noncomputable def meetB (t u : Ten) : Bool := decide (meetP t u)
theorem meetB_true {t u : Ten} : meetB t u = true ↔ meetP t u := by simp [meetB]
theorem meetB_no {t u : Ten} (h : ¬ meetP t u) : meetB t u = false := by simp [meetB, h]
def mrgX (a b x : Int) : Int := if x = max a b then min a b else x
def mrgI (P : List Int) (a b : Int) (m : Nat) : List Int := (P.take m).map (mrgX a b) ++ P.drop m
theorem mrgI_zero (P : List Int) (a b : Int) : mrgI P a b 0 = P := by simp [mrgI]
theorem mrgI_len (P : List Int) (a b : Int) (m : Nat) : (mrgI P a b m).length = P.length := by simp [mrgI]; omega
theorem mrgI_at {P : List Int} {a b : Int} {m : Nat} (h : m < P.length) : (mrgI P a b m).getD m 0 = P.getD m 0 := by
  have hl : ((P.take m).map (mrgX a b)).length = m := by simp; omega
  unfold mrgI
  simp only [List.getD]; rw [List.getElem?_append_right (by omega), hl, Nat.sub_self, List.getElem?_drop, Nat.add_zero]
theorem mrgI_step {P : List Int} {a b : Int} {m : Nat} (h : m < P.length) : mrgI P a b (m + 1) = (mrgI P a b m).set m (mrgX a b (P.getD m 0)) := by
  have hl : ((P.take m).map (mrgX a b)).length = m := by simp; omega
  unfold mrgI
  rw [List.set_append_right _ _ (by omega), hl, Nat.sub_self, List.drop_eq_getElem_cons h, List.set_cons_zero, List.take_succ_eq_append_getElem h, List.map_append, List.append_assoc]
  congr 1
  simp [List.getD, h]
theorem mrgI_yes {P : List Int} {a b : Int} {m : Nat} (h : m < P.length) (e : P.getD m 0 = max a b) : mrgI P a b (m + 1) = (mrgI P a b m).set m (min a b) := by rw [mrgI_step h, mrgX, if_pos e]
theorem mrgI_no {P : List Int} {a b : Int} {m : Nat} (h : m < P.length) (e : P.getD m 0 ≠ max a b) : mrgI P a b (m + 1) = mrgI P a b m := by
  rw [mrgI_step h, mrgX, if_neg e, ← mrgI_at (a := a) (b := b) h]; exact set_same (by rw [mrgI_len]; exact h)
open Classical in
noncomputable def ptI (ts : List Ten) (P : List Int) (i : Nat) : Nat → List Int
  | 0 => P
  | m + 1 => if meetP (ts.getD i noTen) (ts.getD m noTen) then mrgI (ptI ts P i m) ((ptI ts P i m).getD i 0) ((ptI ts P i m).getD m 0) P.length else ptI ts P i m
theorem ptI_yes {ts : List Ten} {P : List Int} {i m : Nat} (h : meetP (ts.getD i noTen) (ts.getD m noTen)) : ptI ts P i (m + 1) = mrgI (ptI ts P i m) ((ptI ts P i m).getD i 0) ((ptI ts P i m).getD m 0) P.length := by rw [ptI, if_pos h]
theorem ptI_no {ts : List Ten} {P : List Int} {i m : Nat} (h : ¬ meetP (ts.getD i noTen) (ts.getD m noTen)) : ptI ts P i (m + 1) = ptI ts P i m := by rw [ptI, if_neg h]
theorem ptI_len {ts : List Ten} {P : List Int} {i : Nat} : ∀ m, (ptI ts P i m).length = P.length
  | 0 => rfl
  | m + 1 => by
    rw [ptI]
    split
    · rw [mrgI_len]; exact ptI_len m
    · exact ptI_len m
def inP (m : Nat) (P : List Int) : Prop := ∀ j, j < P.length → 0 ≤ P.getD j 0 ∧ P.getD j 0 < m
theorem inP.mrg {m : Nat} {P : List Int} {a b : Int} (h : inP m P) (ha : 0 ≤ a ∧ a < m) (hb : 0 ≤ b ∧ b < m) : ∀ q, q ≤ P.length → inP m (mrgI P a b q)
  | 0, _ => by rw [mrgI_zero]; exact h
  | q + 1, hq => by
    have ih := inP.mrg h ha hb q (by omega); intro j hj; rw [mrgI_len] at hj; rw [mrgI_step (by omega)]
    by_cases e : q = j
    · subst e; simp only [List.getD]; rw [List.getElem?_set_self (by rw [mrgI_len]; omega)]
      show 0 ≤ mrgX a b (P.getD q 0) ∧ mrgX a b (P.getD q 0) < m
      have := h q (by omega)
      unfold mrgX
      split <;> omega
    · have := ih j (by rw [mrgI_len]; exact hj); simp only [List.getD] at this ⊢; rw [List.getElem?_set_ne e]; exact this
theorem inP.pt {ts : List Ten} {n : Nat} {P : List Int} {i : Nat} (h : inP n P) (hi : i < P.length) : ∀ m, m ≤ P.length → inP n (ptI ts P i m)
  | 0, _ => h
  | m + 1, hm => by
    have ih := h.pt (ts := ts) hi m (by omega); have hl := ptI_len (ts := ts) (P := P) (i := i) m; rw [ptI]
    split
    · exact ih.mrg (ih i (by omega)) (ih m (by omega)) _ (by omega)
    · exact ih
noncomputable def ptO (ts : List Ten) : Nat → List Int
  | 0 => (List.range ts.length).map Int.ofNat
  | i + 1 => ptI ts (ptO ts i) i i
theorem ptO_ok (ts : List Ten) : ∀ i, i ≤ ts.length → (ptO ts i).length = ts.length ∧ inP ts.length (ptO ts i)
  | 0, _ => by
    refine ⟨by simp [ptO], fun j hj => ?_⟩; have hj' : j < ts.length := by simpa [ptO] using hj
    have e : (ptO ts 0).getD j 0 = (j : Int) := by simp [ptO, List.getD, hj']
    rw [e]; omega
  | i + 1, hi => by
    obtain ⟨h1, h2⟩ := ptO_ok ts i (by omega); exact ⟨by rw [ptO, ptI_len]; exact h1, by rw [ptO]; exact h2.pt (by omega) i (by omega)⟩
noncomputable def ptP (ts : List Ten) : List Int := ptO ts ts.length
def partJ (P : List Int) (i m : Nat) : List Int := ((List.range m).filter fun j => decide (P.getD j 0 = i)).map Int.ofNat
theorem partJ_yes {P : List Int} {i m : Nat} (h : P.getD m 0 = i) : partJ P i (m + 1) = partJ P i m ++ [(m : Int)] := by
  rw [partJ, List.range_succ, List.filter_append, List.filter_cons_of_pos (by simpa using h), List.map_append]; rfl
theorem partJ_no {P : List Int} {i m : Nat} (h : P.getD m 0 ≠ i) : partJ P i (m + 1) = partJ P i m := by
  rw [partJ, List.range_succ, List.filter_append, List.filter_cons_of_neg (by simpa using h)]; simp [partJ]
theorem mem_partJ {P : List Int} {i m : Nat} {x : Int} : x ∈ partJ P i m ↔ ∃ j : Nat, x = j ∧ j < m ∧ P.getD j 0 = i := by
  unfold partJ
  simp only [List.mem_map, List.mem_filter, List.mem_range, decide_eq_true_eq]
  constructor
  · rintro ⟨j, ⟨h1, h2⟩, rfl⟩; exact ⟨j, rfl, h1, h2⟩
  · rintro ⟨j, rfl, h1, h2⟩; exact ⟨j, ⟨h1, h2⟩, rfl⟩
theorem partJ_nodup (P : List Int) (i m : Nat) : (partJ P i m).Nodup :=
  List.Pairwise.map _ (fun a b (h : a ≠ b) (e : Int.ofNat a = Int.ofNat b) => h (Int.ofNat.inj e)) (List.Pairwise.filter _ List.nodup_range)
theorem partJ_len (P : List Int) (i m : Nat) : (partJ P i m).length ≤ m := by
  unfold partJ
  rw [List.length_map]; refine Nat.le_trans (List.length_filter_le _ _) ?_; rw [List.length_range]; omega
noncomputable def partsTo (ts : List Ten) (i : Nat) : List (List Int) := ((List.range i).map fun j => partJ (ptP ts) j ts.length).filter fun l => decide (l ≠ [])
noncomputable def partsL (ts : List Ten) : List (List Int) := partsTo ts ts.length
theorem partsTo_yes {ts : List Ten} {i : Nat} (h : partJ (ptP ts) i ts.length ≠ []) : partsTo ts (i + 1) = partsTo ts i ++ [partJ (ptP ts) i ts.length] := by
  rw [partsTo, List.range_succ, List.map_append, List.filter_append, List.map_singleton, List.filter_cons_of_pos (by simpa using h)]; rfl
theorem partsTo_no {ts : List Ten} {i : Nat} (h : partJ (ptP ts) i ts.length = []) : partsTo ts (i + 1) = partsTo ts i := by
  rw [partsTo, List.range_succ, List.map_append, List.filter_append, List.map_singleton, List.filter_cons_of_neg (by simpa using h)]; simp [partsTo]
theorem partsTo_len (ts : List Ten) (i : Nat) : (partsTo ts i).length ≤ i := by
  unfold partsTo
  refine Nat.le_trans (List.length_filter_le _ _) ?_
  simp
/-- What each part is. -/
structure PartL (ts : List Ten) (l : List Int) : Prop where
  ne : l ≠ []
  nd : l.Nodup
  inr : ∀ x ∈ l, 0 ≤ x ∧ x < ts.length
theorem part_ok {ts : List Ten} {l : List Int} (h : l ∈ partsL ts) : PartL ts l := by
  obtain ⟨h1, h2⟩ := List.mem_filter.1 h; obtain ⟨j, hj, rfl⟩ := List.mem_map.1 h1; refine ⟨by simpa using h2, partJ_nodup _ _ _, fun x hx => ?_⟩; obtain ⟨m, rfl, hm, _⟩ := mem_partJ.1 hx
  omega
theorem PartL.len {ts : List Ten} {l : List Int} (h : PartL ts l) : l.length ≤ ts.length := by
  have h2 := pigeon (m := (List.range ts.length).map Int.ofNat) h.nd fun x hx => by
    have := h.inr x hx; exact List.mem_map.2 ⟨x.toNat, List.mem_range.2 (by omega), by show ((x.toNat : Nat) : Int) = x; omega⟩
  simpa using h2
theorem part_all {ts : List Ten} {j : Nat} (hj : j < ts.length) : ∃ l ∈ partsL ts, (j : Int) ∈ l := by
  obtain ⟨hl, hin⟩ := ptO_ok ts ts.length (Nat.le_refl _); have h1 := hin j (by omega); have hm : (j : Int) ∈ partJ (ptP ts) ((ptP ts).getD j 0).toNat ts.length := mem_partJ.2 ⟨j, rfl, hj, by show (ptO ts ts.length).getD j 0 = _; unfold ptP; omega⟩; refine ⟨_, List.mem_filter.2 ⟨List.mem_map.2 ⟨((ptP ts).getD j 0).toNat, List.mem_range.2 (by unfold ptP; omega), rfl⟩, ?_⟩, hm⟩; simp only [decide_eq_true_eq]; intro e; rw [e] at hm; simp at hm
theorem parts_nil {ts : List Ten} : partsL ts = [] ↔ ts = [] := by
  constructor
  · intro h
    by_cases hn : ts = []
    · exact hn
    · obtain ⟨l, hl, _⟩ := part_all (ts := ts) (j := 0) (List.length_pos_iff.2 hn); rw [h] at hl; simp at hl
  · intro h; subst h; rfl
def subTs (ts : List Ten) (l : List Int) : List Ten := l.map fun i => ts.getD i.toNat noTen
def rstTs (ts : List Ten) (l : List Int) (m : Nat) : List Ten := ((List.range m).filter fun (j : Nat) => decide ((j : Int) ∉ l)).map fun j => ts.getD j noTen
def subA (ts : List Ten) (op l : List Int) : List Int := op.filter fun x => decide (0 < dimOf (subTs ts l) x)
def subB2 (ts : List Ten) (op l : List Int) (m : Nat) : List Int := (labelsTo (subTs ts l) m).filter fun x => decide (x ∉ op ∧ 0 < dimOf (rstTs ts l ts.length) x)
def subOp (ts : List Ten) (op l : List Int) : List Int := subA ts op l ++ subB2 ts op l 100
theorem subTs_len (ts : List Ten) (l : List Int) : (subTs ts l).length = l.length := by simp [subTs]
theorem rst_yes {ts : List Ten} {l : List Int} {m : Nat} {t : Ten} (h : (m : Int) ∉ l) (ht : ts[m]? = some t) : rstTs ts l (m + 1) = rstTs ts l m ++ [t] := by
  rw [rstTs, List.range_succ, List.filter_append, List.filter_cons_of_pos (by simpa using h), List.map_append]
  show _ ++ [ts.getD m noTen] = _
  rw [getD_ten ht]; rfl
theorem rst_no {ts : List Ten} {l : List Int} {m : Nat} (h : (m : Int) ∈ l) : rstTs ts l (m + 1) = rstTs ts l m := by
  rw [rstTs, List.range_succ, List.filter_append, List.filter_cons_of_neg (by simpa using h)]; simp [rstTs]
theorem rst_len (ts : List Ten) (l : List Int) (m : Nat) : (rstTs ts l m).length ≤ m := by
  unfold rstTs
  rw [List.length_map]; refine Nat.le_trans (List.length_filter_le _ _) ?_; rw [List.length_range]; omega
theorem rst_mem {ts : List Ten} {l : List Int} {m : Nat} (hm : m ≤ ts.length) : ∀ t ∈ rstTs ts l m, t ∈ ts := fun t ht => by
  obtain ⟨j, hj, rfl⟩ := List.mem_map.1 ht; have := List.mem_range.1 (List.mem_filter.1 hj).1; exact List.mem_of_getElem? (i := j) (by simp [List.getD, show j < ts.length by omega])
theorem sub_mem {ts : List Ten} {l : List Int} (h : ∀ x ∈ l, 0 ≤ x ∧ x < ts.length) : ∀ t ∈ subTs ts l, t ∈ ts := fun t ht => by
  obtain ⟨x, hx, rfl⟩ := List.mem_map.1 ht; have := h x hx; exact List.mem_of_getElem? (i := x.toNat) (by simp [List.getD, show x.toNat < ts.length by omega])
theorem subTs_snoc {ts : List Ten} {l : List Int} {i : Nat} {t : Ten} (hi : i < l.length) (ht : ts[(l.getD i 0).toNat]? = some t) : subTs ts (l.take (i + 1)) = subTs ts (l.take i) ++ [t] := by
  rw [take_succ hi]; simp only [subTs, List.map_append, List.map_singleton]; rw [getD_ten ht]
theorem perm_good {k p n : Int} {f : Int → Int} {t : Ten} {ls : List Int} (h : PermOK k p n t ls) (hd : t.d = t.l.map f) : goodT k p n f (permT k n t ls) := by
  refine ⟨perm_ten h, ?_⟩
  show permD t ls = ls.map f
  unfold permD idxAt
  refine List.map_congr_left fun x hx => ?_; have hm := h.perm.mem_iff.1 hx; rw [hd, map_getD (findI_get hm).1, (findI_get hm).2]
theorem sum_goodT2 {k p n : Int} {f : Int → Int} {t : Ten} (h : goodT k p n f t) (ks : List Int) : (sumR k p n t ks).d = (sumR k p n t ks).l.map f := by
  obtain ⟨s1, s2, s3⟩ := sum_ten h.1 ks; rw [s3, ← s2]; refine List.map_congr_left fun y hy => ?_; have hy1 : y ∈ t.l := by rw [s2, mem_keep] at hy; exact hy.1.resolve_right (by simp [oneT])
  rw [dimJ_yes hy1, h.2, map_getD (findI_get hy1).1, (findI_get hy1).2]
theorem fin_good {k p n : Int} {f : Int → Int} {t : Ten} {op : List Int} (h : goodT k p n f t) (hn : op.Nodup) (hs : ∀ x ∈ op, x ∈ t.l) : goodT k p n f (finT k p n t op) :=
  perm_good (fin_perm h.1 hn hs) (sum_goodT2 h op)
theorem con_good {k p n : Int} {ts : List Ten} {op : List Int} {ss : List Stp} (h : conP k p n ts op ss) : goodT k p n (dimOf ts) (conT k p n ts op ss) := by
  unfold conT
  by_cases hn : ts.length = 0
  · rw [if_pos hn]; exact ⟨one_ten h.1.1.1, rfl⟩
  · rw [if_neg hn]; have r := run_ok h.1 ss.length (Nat.le_refl _) h.2; have hg := r.get (j := ts.length + ss.length - 1) (by omega); have hf := h.last hn; exact fin_good ⟨hg.1, hg.2.2⟩ (net_open h.1.1).1 hf.1.2.2
noncomputable def pvT (k p n : Int) (ts : List Ten) (op l : List Int) : Ten := conT k p n (subTs ts l) (subOp ts op l) (plainL l.length)
def pvP (k p n : Int) (ts : List Ten) (op l : List Int) : Prop := conP k p n (subTs ts l) (subOp ts op l) (plainL l.length)
noncomputable def pvs (k p n : Int) (ts : List Ten) (op : List Int) : List Ten := (partsL ts).map (pvT k p n ts op)
theorem pv_good {k p n : Int} {ts : List Ten} {op l : List Int} (hnet : netL k p n ts op) (hl : PartL ts l) (h : pvP k p n ts op l) : goodT k p n (dimOf ts) (pvT k p n ts op l) ∧ (pvT k p n ts op l).l = subOp ts op l := by
  have hg := con_good h; have hl2 := h.ten.2; refine ⟨⟨hg.1, ?_⟩, hl2⟩
  show (conT k p n (subTs ts l) (subOp ts op l) (plainL l.length)).d = (conT k p n (subTs ts l) (subOp ts op l) (plainL l.length)).l.map (dimOf ts)
  rw [hg.2]; refine List.map_congr_left fun x hx => ?_; rw [hl2] at hx; have hm := net_has h.1.1 hx; exact dimOf_map (fun t ht => net_dmap hnet t (sub_mem hl.inr t ht)) hm
def cpP (k p n : Int) (ts : List Ten) (op : List Int) : Prop :=
  netL k p n ts op ∧ ∀ i, i < (partsL ts).length → pvP k p n ts op ((partsL ts).getD i []) ∧ jnFit k p n (oneT k p n) (pvs k p n ts op) i
noncomputable def cpT (k p n : Int) (ts : List Ten) (op : List Int) : Ten := finT k p n (jnT k p n (oneT k p n) (pvs k p n ts op)) op
open Classical in
noncomputable def cpB (k p n : Int) (ts : List Ten) (op : List Int) : Bool := decide (cpP k p n ts op)
open Classical in
noncomputable def cpR (k p n : Int) (ts : List Ten) (op : List Int) : Ten := if cpP k p n ts op then cpT k p n ts op else noTen
section
variable {k p n : Int} {ts : List Ten} {op : List Int}
theorem pvs_len : (pvs k p n ts op).length = (partsL ts).length := by simp [pvs]
theorem pvs_get {i : Nat} (hi : i < (partsL ts).length) : (pvs k p n ts op)[i]? = some (pvT k p n ts op ((partsL ts).getD i [])) := by simp [pvs, hi, List.getD]
theorem parts_get {i : Nat} (hi : i < (partsL ts).length) : PartL ts ((partsL ts).getD i []) := part_ok (List.mem_of_getElem? (i := i) (by simp [hi, List.getD]))
/-- Behind some parts. -/
theorem cp_good (hnet : netL k p n ts op) {m : Nat} (hm : m ≤ (partsL ts).length) (h : ∀ i, i < m → pvP k p n ts op ((partsL ts).getD i []) ∧ jnFit k p n (oneT k p n) (pvs k p n ts op) i) :
    goodT k p n (dimOf ts) (jnTo k p n (oneT k p n) (pvs k p n ts op) m) ∧ ∀ x, x ∈ (jnTo k p n (oneT k p n) (pvs k p n ts op) m).l ↔ ∃ i, i < m ∧ x ∈ subOp ts op ((partsL ts).getD i []) := by
  induction m with
  | zero => exact ⟨⟨one_ten hnet.1, rfl⟩, fun x => by simp [jnTo, oneT]⟩
  | succ m ih =>
    obtain ⟨h1, h2⟩ := ih (by omega) (fun i hi => h i (by omega)); obtain ⟨hv, hp⟩ := h m (by omega); have hg := pvs_get (k := k) (p := p) (n := n) (op := op) (show m < (partsL ts).length by omega); obtain ⟨hui, hul⟩ := pv_good hnet (parts_get (by omega)) hv; have hp' : pairP k p n (jnTo k p n (oneT k p n) (pvs k p n ts op) m) ((pvs k p n ts op).getD m noTen) ((jnTo k p n (oneT k p n) (pvs k p n ts op) m).l ++ ((pvs k p n ts op).getD m noTen).l) := hp; rw [getD_ten hg] at hp'; obtain ⟨e1, e2, e3⟩ := pair_ten hp'; rw [keep_all] at e2 e3; rw [jnTo, getD_ten hg]; refine ⟨⟨e1, by rw [e3, e2]; exact List.map_congr_left fun x hx => dimJ_f h1.2 hui.2 hx⟩, fun x => ?_⟩; rw [e2, mem_joinI, h2, hul]
    constructor
    · rintro (⟨i, hi, hx⟩ | hx)
      · exact ⟨i, by omega, hx⟩
      · exact ⟨m, by omega, hx⟩
    · rintro ⟨i, hi, hx⟩
      by_cases e : i = m
      · subst e; exact .inr hx
      · exact .inl ⟨i, by omega, hx⟩
/-- The first part's value alone. -/
theorem cp_first (hnet : netL k p n ts op) (hm : 0 < (partsL ts).length) (h : pvP k p n ts op ((partsL ts).getD 0 [])) :
    jnFit k p n (oneT k p n) (pvs k p n ts op) 0 ∧ jnTo k p n (oneT k p n) (pvs k p n ts op) 1 = pvT k p n ts op ((partsL ts).getD 0 []) := by
  have hg := pvs_get (k := k) (p := p) (n := n) (op := op) hm; obtain ⟨hui, hul⟩ := pv_good hnet (parts_get hm) h; have ho := one_id hui.1 (ks := (oneT k p n).l ++ (pvT k p n ts op ((partsL ts).getD 0 [])).l) (fun x hx => List.mem_append.2 (.inr hx)); refine ⟨?_, ?_⟩
  · show pairP k p n (oneT k p n) ((pvs k p n ts op).getD 0 noTen) ((oneT k p n).l ++ ((pvs k p n ts op).getD 0 noTen).l)
    rw [getD_ten hg]; exact ho.1
  · show pairR k p n (oneT k p n) ((pvs k p n ts op).getD 0 noTen) ((oneT k p n).l ++ ((pvs k p n ts op).getD 0 noTen).l) = _
    rw [getD_ten hg]; exact ho.2
theorem cpP.fin (h : cpP k p n ts op) : finP k p n ts op (jnT k p n (oneT k p n) (pvs k p n ts op)) := by
  have hg := cp_good h.1 (Nat.le_refl _) h.2; rw [show jnT k p n (oneT k p n) (pvs k p n ts op) = jnTo k p n (oneT k p n) (pvs k p n ts op) (partsL ts).length by unfold jnT; rw [pvs_len]]; refine ⟨h.1, hg.1.1, fun x hx => (hg.2 x).2 ?_⟩; obtain ⟨t, ht, hxt⟩ := net_has h.1 hx; obtain ⟨j, hj⟩ := List.getElem?_of_mem ht; have hjl := (List.getElem?_eq_some_iff.1 hj).1; obtain ⟨l, hl, hjm⟩ := part_all hjl; obtain ⟨i, hi⟩ := List.getElem?_of_mem hl; have hil := (List.getElem?_eq_some_iff.1 hi).1; refine ⟨i, hil, ?_⟩; have e : (partsL ts).getD i [] = l := by simp [List.getD, hi]
  rw [e]; refine List.mem_append.2 (.inl (List.mem_filter.2 ⟨hx, decide_eq_true ?_⟩)); have hok : ∀ u ∈ subTs ts l, AxOK u := fun u hu => net_ax h.1 u (sub_mem (part_ok hl).inr u hu); refine (dimOf_pos hok).2 ⟨t, List.mem_map.2 ⟨(j : Int), hjm, ?_⟩, hxt⟩; rw [Int.toNat_natCast, getD_ten hj]
theorem CpNo (h : ¬ cpP k p n ts op) : TenB (cpR k p n ts op) (cpB k p n ts op) (.tuple [tenV (.slice none 0 0) (.slice none 0 0) (.slice none 0 0), .bool false].toArray) emp :=
  ⟨.slice none 0 0, .slice none 0 0, .slice none 0 0, by simp [cpB, h], by rw [cpR, if_neg h]; exact triO_none⟩
theorem CpYes {a b c : Value} {g : PH} (h : cpP k p n ts op) (r : TriO (cpT k p n ts op) a b c g) : TenB (cpR k p n ts op) (cpB k p n ts op) (.tuple [tenV a b c, .bool true].toArray) g :=
  ⟨a, b, c, by simp [cpB, h], by rw [cpR, if_pos h]; exact r⟩
theorem cp_size : 0 ≤ tenSize (cpR k p n ts op) ∧ tenSize (cpR k p n ts op) ≤ 30000 := by
  refine ⟨tenSize_nn _, ?_⟩
  by_cases h : cpP k p n ts op
  · have ht := perm_ten h.fin.perm; have h2 := ten_len ht; have hs := sizeI_ge.1 ht.2.1; have hw := width_range ht.1; have hlen := ht.2.2.1; rw [sizeI_yes hs.1 hs.2] at hlen; have hm : prodI (permT k n (sumR k p n (jnT k p n (oneT k p n) (pvs k p n ts op)) op) op).d * widthI k n ≤ 4096 * 6 := Int.mul_le_mul hs.2 hw.2 (by omega) (by omega); rw [cpR, if_pos h]
    show tenSize (permT k n (sumR k p n (jnT k p n (oneT k p n) (pvs k p n ts op)) op) op) ≤ 30000
    simp only [tenSize]
    omega
  · rw [cpR, if_neg h]; simp [tenSize, noTen]
end
end Go.Proofs.YthlmjnihihbckaaGreat
namespace Go.Proofs.YthlmjnihihbckaaGreat
set_option maxRecDepth 100000
open Go.RowKit
def LR (l : List Int) (cs : List Value) (h : PH) : Prop := ∃ v, cs = [v] ∧ IntsR l v h
theorem LR.mono {l : List Int} {cs : List Value} {h h' : PH} (r : LR l cs h) (q : PLe h h') : LR l cs h' := by
  obtain ⟨v, e, r1⟩ := r; exact ⟨v, e, r1.mono q⟩
def LLR (bs : List (List Int)) (v : Value) (h : PH) : Prop := RowsR 1 LR bs v h
theorem LLR.mono {bs : List (List Int)} {v : Value} {h h' : PH} (r : LLR bs v h) (l : PLe h h') : LLR bs v h' := RowsR.mono (R := LR) LR.mono r l
theorem LLR.sl {bs : List (List Int)} {v : Value} {h : PH} (r : LLR bs v h) : SlL v bs.length := RowsR.sl r
theorem LLR.le {bs : List (List Int)} {v : Value} {h : PH} (r : LLR bs v h) : (bs.length : Int) ≤ 9223372036854775807 := RowsR.le r
theorem LLR.at {bs : List (List Int)} {v : Value} {h : PH} (r : LLR bs v h) : ∃ cells, RowR cells bs.length 1 v h ∧ ∀ i, i < bs.length → ∃ l a, bs[i]? = some l ∧ (cells.drop (i * 1)).take 1 = [a] ∧ IntsR l a h := by
  obtain ⟨cells, rr, hc⟩ := r; refine ⟨cells, rr, fun i hi => ?_⟩; have ht : bs[i]? = some bs[i] := List.getElem?_eq_getElem hi; obtain ⟨a, e, r1⟩ := hc i _ ht; exact ⟨_, a, ht, e, r1⟩
/-- Lists that own their parts. -/
def LLO (bs : List (List Int)) (v : Value) (h : PH) : Prop := ∃ vs h0 hs, RowO 25 vs bs.length 1 v h0 ∧ OwnL bs vs hs ∧ Made h (h0 :: hs)
theorem LLO.toR {bs : List (List Int)} {v : Value} {h : PH} (r : LLO bs v h) : LLR bs v h := by
  obtain ⟨vs, h0, hs, r0, o, m⟩ := r; refine ⟨vs, r0.toR.mono (m.le h0 (by simp)), fun i x hx => ?_⟩; obtain ⟨a, g, e1, e2, q⟩ := o.own i x hx; refine ⟨a, ?_, q.toR.mono (m.le g (by simp [List.mem_of_getElem? e2]))⟩
  apply List.ext_getElem?
  intro j; rw [List.getElem?_take]
  match j with
  | 0 => simpa using e1
  | j + 1 => rw [if_neg (by omega)]; simp
def DecO (bs : List (List Int)) (ps : List Int) (a b : Value) (h : PH) : Prop := ∃ h1 h2, LLO bs a h1 ∧ IntsO ps b h2 ∧ Made h [h1, h2]
theorem DecO.toR {bs : List (List Int)} {ps : List Int} {a b : Value} {h : PH} (r : DecO bs ps a b h) : LLR bs a h ∧ IntsR ps b h := by
  obtain ⟨h1, h2, r1, r2, m⟩ := r; exact ⟨r1.toR.mono (m.le h1 (by simp)), r2.toR.mono (m.le h2 (by simp))⟩
theorem OwnL.one {l : List Int} {a : Value} {h : PH} (r : IntsO l a h) : OwnL [l] [a] [h] := by
  refine ⟨rfl, rfl, fun i xs e => ?_⟩
  match i, e with
  | 0, e => cases e; exact ⟨a, h, rfl, rfl, r⟩
  | i + 1, e => simp at e
end Go.Proofs.YthlmjnihihbckaaGreat
namespace Go.Proofs.YthlmjnihihbckaaGreat
set_option maxRecDepth 100000
open Go.RowKit
section
variable {P : Program} {n : Nat} {w0 : World} {K : Env} {HS : List PH} {d : Option Tmp} {ty : TypeId} {ps : String} {af : Array Edge} {g : Option (Nat × Bool)}
/-- A slice held against nil. -/
theorem v_neqNil {t t' e' : TypeId} {x y : Operand} {xs : List Int} {v : Value} {h : PH} (ht : P.underlying t = some (.slice e')) (hx : ev K x = some v) (hy : ev K y = some (.slice none 0 0)) (r : IntsR xs v h) (hn : xs = [] → v = .slice none 0 0) : StepV P n w0 K HS ⟨d, .binOp .neq t x y t', ty, ps, af, g⟩ (.bool (decide (xs ≠ []))) :=
  fun ac w e _ => by
    obtain ⟨_, a, c, rfl, _, hp⟩ := r; have hb : (!a.isNone) = decide (xs ≠ []) := by
      by_cases hxs : xs = []
      · have := hn hxs; simp only [Value.slice.injEq] at this; rw [this.1, hxs]; rfl
      · obtain ⟨b, o, e1, _⟩ := hp (by have := List.length_pos_iff.2 hxs; omega); rw [e1, decide_eq_true hxs]; rfl
    have := run_neq_slice_nil_any (P := P) w t e' a xs.length c 0 0 ht; rw [hb] at this; simp only [execOp, e.ev hx, e.ev hy, eqGuard, Sem.run_bind]
    simp [this]
theorem x_build1 {t e' : TypeId} {parts : Array (Nat × Operand)} {z : Value} {bytes m : Nat} {agg : Bool} {v : Value} (hs : SlL v m) (ht : P.underlying t = some (.slice e')) (he : TyF P e' z 1 bytes agg) (hev : evP K parts.toList = some [(0, v)]) :
    StepX P n w0 K HS ⟨d, .buildSlice t 1 parts, ty, ps, af, g⟩ emp (RowO e' [v] 1 1) := by
  obtain ⟨a, c, rfl⟩ := hs; exact x_buildS [.slice a m c] ht he (by decide) hev rfl rfl (by decide) (by decide) (by intro v hv; simp at hv; subst hv; rfl)
end
theorem Made.one (h : PH) : Made h [h] := ⟨⟨fun x hx => (List.not_mem_nil hx).elim, trivial⟩, fun x hx => by rw [List.mem_singleton.1 hx]; exact PLe.refl _, fun k o e => ⟨h, List.mem_singleton.2 rfl, e⟩⟩
theorem OwnL.uno {xs : List Int} {v : Value} {h : PH} (r : IntsO xs v h) : OwnL [xs] [v] [h] := by
  refine ⟨rfl, rfl, fun i ys e => ?_⟩
  match i, e with
  | 0, e => cases e; exact ⟨v, h, rfl, rfl, r⟩
  | i + 1, e => simp at e
theorem OwnH.add {xss : List (List Int)} {xs : List Int} {vs : List Value} {v : Value} {h h' : PH} (o : OwnH xss vs h) (r : IntsO xs v h') (hd : PDj h h') : OwnH (xss ++ [xs]) (vs ++ [v]) (PUn h h') := by
  obtain ⟨l, ol, m⟩ := o; exact ⟨l ++ [h'], ol.append (OwnL.uno r), m.un (Made.one h') hd⟩
theorem ct_s_l13Meet (t u : Ten) (a b c a' b' c' : Value) (w : World) (r1 : IntsR t.l a (hp w)) (r2 : IntsR t.d b (hp w)) (r3 : IntsR t.x c (hp w)) (r1' : IntsR u.l a' (hp w)) (r2' : IntsR u.d b' (hp w)) (r3' : IntsR u.x c' (hp w)) :
    Calls Tryz.prog 203 [tenV a b c, tenV a' b' c'].toArray w (RetV w (.bool (meetB t u))) := by
  refine calls_in Tryz.func203 rfl Tryz.ntmps203 rfl (Sat.start w) ?_; have hle0 := r1.le; have hle1 := r2.le; have hle2 := r3.le; have hle3 := r1'.le; have hle4 := r2'.le; have hle5 := r3'.le; refine wp_sc (wp_sq ?_); refine sq_x rfl (x_box rfl rfl) rfl ?_; rintro _ _ ⟨b2, rfl, rfl⟩; refine sq_x rfl (x_box rfl rfl) rfl ?_; rintro _ _ ⟨b3, rfl, rfl⟩; refine sq_v rfl (v_assign rfl) rfl (sq_end (qs_n (wp_sc (wp_sc (wp_sq (sq_v rfl (v_fieldAddr fd_34_0 ty_25 (by decide) rfl) rfl (sq_v rfl (v_loadB 1 ty_25 rfl rfl rfl) rfl (sq_v rfl (v_len Tryz.underlying25 rfl r1.sl) rfl (sq_v rfl (v_move rfl) rfl (sq_end (qs_n (wp_bl ?_)))))))))))); refine wp_lp (σ := Nat) (fun z_ => [(3, .pointer (some ⟨b3, 0, none⟩)), (4, .bool false), (8, a), (9, num t.l.length), (10, num z_)]) (fun z_ => [box b3 [a', b', c'] 34, box b2 [a, b, c] 34, hp w]) (fun z_ => z_ ≤ t.l.length ∧ (∀ j, j < z_ → t.l.getD j 0 ∉ u.l)) (fun z_ => t.l.length - z_) 0 (⟨by omega, fun j hj => by omega⟩) ⟨rfl, rfl, rfl, rfl, (by first | rfl | exact ksub rfl (by first | omega | (simp; done) | (simp; omega))), trivial⟩ (fun _ s => s) ?_; rintro i ⟨hi, hall⟩; have hf := findI_ge (xs := u.l) (n := t.l.getD i 0); refine wp_sc (wp_sq (sq_v rfl (v_lss rfl rfl) rfl (sq_end (qs_n (wp_sc ?_))))); refine wp_cd rfl (fun c11 => ?_) (fun c11 => ?_)
  · refine wp_sk (qs_n (wp_sc (wp_bl (wp_sc (wp_sq ?_))))); refine sq_v rfl (v_idxI Tryz.underlying25 ty_3 rfl rfl r1 (by first | omega | (simp; omega) | (simp only [List.length_append, List.length_cons, List.length_nil]; omega) | (rw [List.length_set]; omega)) (by first | omega | (simp; omega) | (simp only [List.length_append, List.length_cons, List.length_nil]; omega) | (rw [List.length_set]; omega))) rfl ?_; refine sq_v rfl (v_loadI (k := i) 2 ty_3 rfl rfl r1 (by first | omega | (simp; omega) | (simp only [List.length_append, List.length_cons, List.length_nil]; omega) | (rw [List.length_set]; omega))) rfl ?_; refine sq_v rfl (v_assign rfl) rfl (sq_end (qs_n (wp_sc (wp_sq (sq_v rfl (v_fieldAddr fd_34_0 ty_25 (by decide) rfl) rfl (sq_v rfl (v_loadB 0 ty_25 rfl rfl rfl) rfl (sq_v rfl (v_move rfl) rfl (sq_u rfl (x_callv rfl en_191 (fun w s => ct_s_l05Find _ _ _ w (r1'.mono (s.get 2 rfl)))) rfl (sq_v rfl (v_geq rfl rfl) rfl (sq_end (qs_n ?_))))))))))); refine wp_cd rfl (fun c18 => ?_) (fun c18 => ?_)
    · refine wp_sc (wp_sq (sq_v rfl (v_assign rfl) rfl (sq_end (qs_n (wp_rt (qs_br (qs_r (qs_r (qs_br (qs_r ?_)))))))))); exact qs_ret1 rfl rfl (fin_q (i := 2) rfl (by rw [meetB_true.2 ⟨_, mem_getD (k := i) (by omega), hf.1 (by omega)⟩]))
    · refine wp_sk (qs_bn (qs_n (wp_sq ?_))); refine sq_v rfl (v_add rfl rfl ((by unfold I64; omega))) rfl ?_; refine sq_v rfl (v_move rfl) rfl (sq_end ?_); exact qs_bk (i + 1) ⟨by omega, fun j hj => (Nat.lt_or_ge j i).elim (hall j) (fun h => by rw [show j = i by omega]; exact fun hm => by have := hf.2 hm; omega)⟩ (by omega) ⟨rfl, rfl, rfl, rfl, (by first | rfl | exact ksub rfl (by first | omega | (simp; done) | (simp; omega))), trivial⟩ (fun _ s => s)
  · refine wp_ex (qs_x (qs_x (qs_bx (qs_n (wp_sc (wp_sq (sq_v rfl (v_assign rfl) rfl (sq_end (qs_n (wp_rt ?_)))))))))); exact qs_ret1 rfl rfl (fin_q (i := 2) rfl (by rw [meetB_no (fun h => by obtain ⟨x, hx, hu⟩ := h; obtain ⟨j, hj, e⟩ := getD_of_mem hx; exact hall j (by omega) (by rw [e]; exact hu))]))
theorem ct_i_shareLabel (t u : Ten) (a b : Value) (w : World) (r1 : IntsR t.l a (hp w)) (r2 : IntsR u.l b (hp w)) :
    Calls Tryz.prog 206 [a, b].toArray w (RetV w (.bool (meetB t u))) := by
  refine calls_in Tryz.func206 rfl Tryz.ntmps206 rfl (Sat.start w) ?_; have hle0 := r1.le; have hle1 := r2.le; refine wp_sc (wp_sq (sq_v rfl (v_assign rfl) rfl (sq_end (qs_n (wp_sc (wp_sc (wp_sq (sq_v rfl (v_move rfl) rfl (sq_v rfl (v_len Tryz.underlying25 rfl r1.sl) rfl (sq_v rfl (v_move rfl) rfl (sq_end (qs_n (wp_bl ?_))))))))))))); refine wp_lp (σ := Nat) (fun z_ => [(1, b), (4, .bool false), (7, a), (8, num t.l.length), (9, num z_)]) (fun z_ => [hp w]) (fun z_ => z_ ≤ t.l.length ∧ (∀ j, j < z_ → t.l.getD j 0 ∉ u.l)) (fun z_ => t.l.length - z_) 0 (⟨by omega, fun j hj => by omega⟩) ⟨rfl, rfl, rfl, rfl, (by first | rfl | exact ksub rfl (by first | omega | (simp; done) | (simp; omega))), trivial⟩ (fun _ s => s) ?_; rintro i ⟨hi, hall⟩; refine wp_sc (wp_sq (sq_v rfl (v_lss rfl rfl) rfl (sq_end (qs_n (wp_sc ?_))))); refine wp_cd rfl (fun c10 => ?_) (fun c10 => ?_)
  · refine wp_sk (qs_n (wp_sc (wp_bl (wp_sc (wp_sq ?_))))); refine sq_v rfl (v_idxI Tryz.underlying25 ty_3 rfl rfl r1 (by first | omega | (simp; omega) | (simp only [List.length_append, List.length_cons, List.length_nil]; omega) | (rw [List.length_set]; omega)) (by first | omega | (simp; omega) | (simp only [List.length_append, List.length_cons, List.length_nil]; omega) | (rw [List.length_set]; omega))) rfl ?_; refine sq_v rfl (v_loadI (k := i) 0 ty_3 rfl rfl r1 (by first | omega | (simp; omega) | (simp only [List.length_append, List.length_cons, List.length_nil]; omega) | (rw [List.length_set]; omega))) rfl ?_; refine sq_v rfl (v_assign rfl) rfl (sq_end (qs_n (wp_sc (wp_sq (sq_v rfl (v_move rfl) rfl (sq_v rfl (v_move rfl) rfl (sq_u rfl (x_callv rfl en_146 (fun w s => ct_i_hasInt _ _ _ w (r2.mono (s.get 0 rfl)))) rfl (sq_end (qs_n ?_))))))))); refine wp_cd rfl (fun c15 => ?_) (fun c15 => ?_)
    · refine wp_sc (wp_sq (sq_v rfl (v_assign rfl) rfl (sq_end (qs_n (wp_rt (qs_br (qs_r (qs_r (qs_br (qs_r ?_)))))))))); exact qs_ret1 rfl rfl (fin_q (i := 0) rfl (by rw [meetB_true.2 ⟨_, mem_getD (k := i) (by omega), c15⟩]))
    · refine wp_sk (qs_bn (qs_n (wp_sq ?_))); refine sq_v rfl (v_add rfl rfl ((by unfold I64; omega))) rfl ?_; refine sq_v rfl (v_move rfl) rfl (sq_end ?_); exact qs_bk (i + 1) ⟨by omega, fun j hj => (Nat.lt_or_ge j i).elim (hall j) (fun h => by rw [show j = i by omega]; exact c15)⟩ (by omega) ⟨rfl, rfl, rfl, rfl, (by first | rfl | exact ksub rfl (by first | omega | (simp; done) | (simp; omega))), trivial⟩ (fun _ s => s)
  · refine wp_ex (qs_x (qs_x (qs_bx (qs_n (wp_sc (wp_sq (sq_v rfl (v_assign rfl) rfl (sq_end (qs_n (wp_rt ?_)))))))))); exact qs_ret1 rfl rfl (fin_q (i := 0) rfl (by rw [meetB_no (fun h => by obtain ⟨x, hx, hu⟩ := h; obtain ⟨j, hj, e⟩ := getD_of_mem hx; exact hall j (by omega) (by rw [e]; exact hu))]))
def fillI (n i : Nat) : List Int := (List.range i).map Int.ofNat ++ List.replicate (n - i) 0
theorem fill_zero (n : Nat) : fillI n 0 = List.replicate ((n : Int)).toNat 0 := by simp [fillI]
theorem fill_len {n i : Nat} (h : i ≤ n) : (fillI n i).length = n := by simp [fillI]; omega
theorem fill_all (ts : List Ten) : fillI ts.length ts.length = ptO ts 0 := by simp [fillI, ptO]
theorem fill_set {n i : Nat} (h : i < n) : (fillI n i).set i (i : Int) = fillI n (i + 1) := by
  have hl : ((List.range i).map Int.ofNat).length = i := by simp
  obtain ⟨r, hr⟩ : ∃ r, n - i = r + 1 := ⟨n - i - 1, by omega⟩
  unfold fillI
  rw [List.set_append_right _ _ (by omega), hl, Nat.sub_self, hr, List.replicate_succ, List.set_cons_zero, List.range_succ, List.map_append, List.append_assoc, show n - (i + 1) = r by omega]
  rfl
theorem range_len (i : Nat) : ((List.range i).map Int.ofNat).length = i := by simp
theorem LLO.of {bs : List (List Int)} {cs : List Value} {v : Value} {h ha hl : PH} (rr : RowO 25 cs bs.length 1 v ha) (o : OwnH bs cs hl) (md : Made h [ha, hl]) : LLO bs v h := by
  obtain ⟨l, ol, ml⟩ := o; refine ⟨cs, ha, l, rr, ol, ⟨⟨fun x hx => ?_, ml.sep⟩, fun x hx => ?_, fun k o e => ?_⟩⟩
  · exact ((md.sep.1 hl (by simp)).symm.mono (ml.le x hx)).symm
  · rcases List.mem_cons.1 hx with rfl | hx
    · exact md.le _ (by simp)
    · exact (ml.le x hx).trans (md.le hl (by simp))
  · obtain ⟨x, hx, hxe⟩ := md.dom k o e
    rcases List.mem_cons.1 hx with rfl | hx
    · exact ⟨x, by simp, hxe⟩
    · rw [List.mem_singleton.1 hx] at hxe; obtain ⟨y, hy, hye⟩ := ml.dom k o hxe; exact ⟨y, by simp [hy], hye⟩
set_option maxHeartbeats 4000000 in
theorem ct_s_PartsOf (k p n : Int) (ts : List Ten) (op : List Int) (vt vo : Value) (w : World) (r : TensR ts vt (hp w)) (r' : IntsR op vo (hp w)) (hs : op.length ≤ 1048576) (hnet : netL k p n ts op) :
    Calls Tryz.prog 108 [netV k p n vt vo].toArray w (Ret w emp (LLO (partsL ts))) := by
  have h12 := hnet.2.1; refine calls_in Tryz.func108 rfl Tryz.ntmps108 rfl (Sat.start w) ?_; have hle0 := r.le; obtain ⟨cs_r, rr_r, hc_r⟩ := r.at; have hle1 := r'.le; refine wp_sc (wp_sq ?_); refine sq_x rfl (x_box rfl rfl) rfl ?_; rintro _ _ ⟨b1, rfl, rfl⟩; refine sq_v rfl (v_assign rfl) rfl (sq_end (qs_n (wp_sc (wp_sc (wp_sq (sq_v rfl (v_loadNB 0 ty_40 rfl rfl rfl rfl) rfl (sq_u rfl (x_callv rfl en_83 (fun w s => ct_s_NetworkOk _ _ _ _ _ _ _ w (r.mono (s.get 1 rfl)) (r'.mono (s.get 1 rfl)) (by first | assumption | omega))) rfl (sq_v rfl (v_not rfl) rfl (sq_end (qs_n ?_)))))))))); refine wp_cn _ rfl (fun c19 => ?_) (fun c19 => ?_)
  · refine wp_sc (wp_sq (sq_v rfl (v_assign rfl) rfl (sq_end (qs_n (wp_rt (qs_r ?_))))))
    exfalso; rw [netB_true.2 hnet] at c19; cases c19
  · refine wp_sk (qs_n (wp_sc (wp_sq ?_))); refine sq_x rfl (x_build0 Tryz.underlying25 ty_3) rfl ?_; intro v20 h20 (r20 : IntsO [] v20 h20); refine sq_v rfl (v_assign rfl) rfl (sq_end (qs_n (wp_sc (wp_sc (wp_sq (sq_v rfl (v_fieldAddr fd_40_1 ty_38 (by decide) rfl) rfl (sq_v rfl (v_loadB 1 ty_38 rfl rfl rfl) rfl (sq_v rfl (v_len Tryz.underlying38 rfl r.sl) rfl (sq_v rfl (v_move rfl) rfl (sq_end (qs_n (wp_bl ?_)))))))))))); refine wp_lp (σ := Nat × Value × PH) (fun z_ => [(1, .pointer (some ⟨b1, 0, none⟩)), (2, .slice none 0 0), (3, z_.2.1), (23, num ts.length), (24, num z_.1)]) (fun z_ => [z_.2.2, box b1 [num k, num p, num n, vt, vo] 40, hp w]) (fun z_ => z_.1 ≤ ts.length ∧ IntsO ((List.range z_.1).map Int.ofNat) z_.2.1 z_.2.2) (fun z_ => ts.length - z_.1) (0, v20, h20) (⟨by (try dsimp only); omega, r20⟩) ⟨rfl, rfl, (by first | rfl | exact ksub rfl (by first | omega | (simp; done) | (simp; omega))), rfl, (by first | rfl | exact ksub rfl (by first | omega | (simp; done) | (simp; omega))), trivial⟩ (fun _ s => s) ?_; rintro ⟨i, lv, lh⟩ ⟨hi, q⟩; dsimp only at hi q ⊢; have hle_q := q.toR.le; have hrl := range_len i; refine wp_sc (wp_sq (sq_v rfl (v_lss rfl rfl) rfl (sq_end (qs_n (wp_sc ?_))))); refine wp_cd rfl (fun c25 => ?_) (fun c25 => ?_)
    · refine wp_sk (qs_n (wp_sc (wp_bl (wp_sc (wp_sq (sq_v rfl (v_move rfl) rfl (sq_v rfl (v_assign rfl) rfl (sq_end (qs_n (wp_sq (sq_v rfl (v_move rfl) rfl (sq_v rfl (v_move rfl) rfl ?_)))))))))))); refine sq_x rfl (x_buildS [num (i)] Tryz.underlying25 ty_3 (by decide) rfl rfl rfl (by decide) (by decide) (by intro v hv; simp at hv; rcases hv with rfl <;> rfl)) rfl ?_; intro v29 h29 (r29 : IntsO [i] v29 h29); refine sq_m 1 rfl rfl (m_appI 1 0 Tryz.underlying25 ty_3 rfl rfl rfl rfl q rfl r29.toR (by first | omega | (simp; omega) | (simp only [List.length_append, List.length_cons, List.length_nil]; omega) | (rw [List.length_set]; omega))) rfl ?_; intro v30 h_r30 r30; refine sq_v rfl (v_assign rfl) rfl (sq_end (qs_bn (qs_n (wp_sq ?_)))); refine sq_v rfl (v_add rfl rfl ((by unfold I64; omega))) rfl ?_; refine sq_v rfl (v_move rfl) rfl (sq_end ?_); exact qs_bk (i + 1, v30, h_r30) ⟨by (try dsimp only); omega, by (try dsimp only); rw [List.range_succ, List.map_append]; exact r30⟩ (by simp only; omega) ⟨rfl, rfl, (by first | rfl | exact ksub rfl (by first | omega | (simp; done) | (simp; omega))), rfl, (by first | rfl | exact ksub rfl (by first | omega | (simp; done) | (simp; omega))), trivial⟩ (fun _ s => s.pick [1, 2, 3] (by decide) rfl)
    · refine wp_ex (qs_x (qs_x (qs_bx (qs_n (wp_sc (wp_sc (wp_sq (sq_v rfl (v_fieldAddr fd_40_1 ty_38 (by decide) rfl) rfl (sq_v rfl (v_loadB 1 ty_38 rfl rfl rfl) rfl (sq_v rfl (v_len Tryz.underlying38 rfl r.sl) rfl (sq_v rfl (v_move rfl) rfl (sq_end (qs_n (wp_bl ?_)))))))))))))); refine wp_lp (σ := Nat × PH) (fun z_ => [(1, .pointer (some ⟨b1, 0, none⟩)), (2, .slice none 0 0), (3, lv), (33, vt), (34, num ts.length), (35, num z_.1)]) (fun z_ => [z_.2, box b1 [num k, num p, num n, vt, vo] 40, hp w]) (fun z_ => z_.1 ≤ ts.length ∧ IntsO (ptO ts z_.1) lv z_.2) (fun z_ => ts.length - z_.1) (0, lh) (⟨by (try dsimp only); omega, by (try dsimp only); rw [show i = ts.length by omega] at q; exact q⟩) ⟨rfl, rfl, rfl, rfl, rfl, (by first | rfl | exact ksub rfl (by first | omega | (simp; done) | (simp; omega))), trivial⟩ (fun _ s => s) ?_; rintro ⟨i, lh⟩ ⟨hi, q⟩; dsimp only at hi q ⊢; have hle_q := q.toR.le; have hpo := ptO_ok ts i hi; refine wp_sc (wp_sq (sq_v rfl (v_lss rfl rfl) rfl (sq_end (qs_n (wp_sc ?_))))); refine wp_cd rfl (fun c36 => ?_) (fun c36 => ?_)
      · refine wp_sk (qs_n (wp_sc (wp_bl (wp_sc (wp_sq (sq_v rfl (v_move rfl) rfl ?_)))))); obtain ⟨t38, a38, b38, c38, ht38, hcs38, rl38, rd38, rx38⟩ := hc_r (i) (by first | omega | (rw [List.length_set]; omega)); refine sq_v rfl (v_indexAddr Tryz.underlying38 ty_34 rfl rfl rr_r (by decide) (by omega) (by omega)) rfl ?_; refine sq_v rfl (v_loadNE 2 ty_34 rfl rfl rr_r (by have := rr_r.1; omega) rfl hcs38) rfl ?_; refine sq_x rfl (x_alloc ty_34 rfl) rfl ?_; rintro _ _ ⟨b6, rfl, rfl⟩; refine sq_v rfl (v_assign rfl) rfl ?_; refine sq_m 0 rfl rfl (m_store 0 ty_34 rfl rfl rfl rfl (by simp [rl38.sl.one, rd38.sl.one, rx38.sl.one]) rfl (Nat.le_of_ble_eq_true rfl)) rfl ?_; rintro _ _ ⟨rfl, rfl⟩; refine sq_end ?_; have e38 : ts.getD i noTen = t38 := getD_ten ht38; refine qs_n (wp_sc (wp_sq (sq_v rfl (v_fieldAddr fd_40_1 ty_38 (by decide) rfl) rfl (sq_v rfl (v_loadB 2 ty_38 rfl rfl rfl) rfl (sq_v rfl (v_move rfl) rfl (sq_v rfl (v_sliceH Tryz.underlying38 ty_34 rfl rfl  rr_r (by omega) (by omega)) rfl ?_)))))); obtain ⟨cs_T_43, rr_T_43, hc_T_43⟩ := (r.subH (hi := i) (by omega)).at; refine sq_v rfl (v_len Tryz.underlying38 rfl (r.subH (hi := i) (by omega)).sl) rfl (sq_v rfl (v_move rfl) rfl (sq_end (qs_n (wp_bl ?_)))); refine wp_lp (σ := Nat × PH) (fun z_ => [(1, .pointer (some ⟨b1, 0, none⟩)), (2, .slice none 0 0), (3, lv), (5, num i), (6, .pointer (some ⟨b6, 0, none⟩)), (33, vt), (34, num ts.length), (35, num i), (36, .bool (decide ((i : Int) < ts.length))), (37, num i), (39, .agg [a38, b38, c38].toArray), (40, .pointer (some ⟨b1, 3, none⟩)), (41, vt), (42, num i), (43, subV vt 0 i 3), (44, num (ts.take i).length), (45, num z_.1)]) (fun z_ => [box b6 [a38, b38, c38] 34, z_.2, box b1 [num k, num p, num n, vt, vo] 40, hp w]) (fun z_ => z_.1 ≤ i ∧ IntsO (ptI ts (ptO ts i) i z_.1) lv z_.2) (fun z_ => i - z_.1) (0, lh) (⟨by (try dsimp only); omega, q⟩) ⟨rfl, rfl, rfl, rfl, rfl, rfl, rfl, rfl, rfl, rfl, rfl, rfl, rfl, rfl, rfl, rfl, (by first | rfl | exact ksub rfl (by first | omega | (simp; done) | (simp; omega))), trivial⟩ (fun _ s => s) ?_; rintro ⟨m, lh⟩ ⟨hm, q⟩; dsimp only at hm q ⊢; have hle_q := q.toR.le; have hpl := ptI_len (ts := ts) (P := ptO ts i) (i := i) m; have htl : (ts.take i).length = i := by rw [List.length_take]; omega
        refine wp_sc (wp_sq (sq_v rfl (v_lss rfl rfl) rfl (sq_end (qs_n (wp_sc ?_))))); refine wp_cd rfl (fun c46 => ?_) (fun c46 => ?_)
        · refine wp_sk (qs_n (wp_sc (wp_bl (wp_sc (wp_sq (sq_v rfl (v_move rfl) rfl ?_)))))); obtain ⟨t48, a48, b48, c48, ht48, hcs48, rl48, rd48, rx48⟩ := hc_T_43 (m) (by first | omega | (rw [List.length_set]; omega)); refine sq_v rfl (v_indexAddr Tryz.underlying38 ty_34 rfl rfl rr_T_43 (by decide) (by omega) (by omega)) rfl ?_; refine sq_v rfl (v_loadNE 3 ty_34 rfl rfl rr_T_43 (by have := rr_T_43.1; omega) rfl hcs48) rfl ?_; refine sq_x rfl (x_alloc ty_34 rfl) rfl ?_; rintro _ _ ⟨b8, rfl, rfl⟩; refine sq_v rfl (v_assign rfl) rfl ?_; refine sq_m 0 rfl rfl (m_store 0 ty_34 rfl rfl rfl rfl (by simp [rl48.sl.one, rd48.sl.one, rx48.sl.one]) rfl (Nat.le_of_ble_eq_true rfl)) rfl ?_; rintro _ _ ⟨rfl, rfl⟩; refine sq_end ?_; have e48 : ts.getD m noTen = t48 := getD_ten (by rw [List.getElem?_take, if_pos (by omega)] at ht48; exact ht48); refine qs_n (wp_sc (wp_sq (sq_v rfl (v_loadNB 1 ty_34 rfl rfl rfl rfl) rfl (sq_v rfl (v_loadNB 0 ty_34 rfl rfl rfl rfl) rfl (sq_u rfl (x_callv rfl en_203 (fun w s => ct_s_l13Meet _ _ _ _ _ _ _ _ w (rl38.mono (s.get 4 rfl)) (rd38.mono (s.get 4 rfl)) (rx38.mono (s.get 4 rfl)) (rl48.mono (s.get 4 rfl)) (rd48.mono (s.get 4 rfl)) (rx48.mono (s.get 4 rfl)))) rfl (sq_end (qs_n ?_))))))); refine wp_cb _ rfl (fun c52 => ?_) (fun c52 => ?_)
          · refine wp_sc (wp_rj 10 [(0, true), (1, true), (2, true), (3, true), (4, true), (5, true), (6, true), (7, true), (8, true), (9, true)] mixed_ok (by kernel_rfl) (rj_v rfl rfl (v_move rfl) rfl (rj_v rfl rfl (v_move rfl) rfl ?_))); refine rj_v rfl rfl (v_idxI Tryz.underlying25 ty_3 rfl rfl q.toR (by first | omega | (simp; omega) | (simp only [List.length_append, List.length_cons, List.length_nil]; omega) | (rw [List.length_set]; omega)) (by first | omega | (simp; omega) | (simp only [List.length_append, List.length_cons, List.length_nil]; omega) | (rw [List.length_set]; omega))) rfl ?_; refine rj_v rfl rfl (v_loadI (k := i) 2 ty_3 rfl rfl q.toR (by first | omega | (simp; omega) | (simp only [List.length_append, List.length_cons, List.length_nil]; omega) | (rw [List.length_set]; omega))) rfl ?_; refine rj_v rfl rfl (v_move rfl) rfl (rj_v rfl rfl (v_move rfl) rfl ?_); refine rj_v rfl rfl (v_idxI Tryz.underlying25 ty_3 rfl rfl q.toR (by first | omega | (simp; omega) | (simp only [List.length_append, List.length_cons, List.length_nil]; omega) | (rw [List.length_set]; omega)) (by first | omega | (simp; omega) | (simp only [List.length_append, List.length_cons, List.length_nil]; omega) | (rw [List.length_set]; omega))) rfl ?_; refine rj_v rfl rfl (v_loadI (k := m) 2 ty_3 rfl rfl q.toR (by first | omega | (simp; omega) | (simp only [List.length_append, List.length_cons, List.length_nil]; omega) | (rw [List.length_set]; omega))) rfl ?_; refine rj_v rfl rfl (v_max rfl rfl) rfl (rj_v rfl rfl (v_assign rfl) rfl (rj_end (qs_n (wp_sc (wp_rj 10 [(0, true), (1, true), (2, true), (3, true), (4, true), (5, true), (6, true), (7, true), (8, true), (9, true)] mixed_ok (by kernel_rfl) (rj_v rfl rfl (v_move rfl) rfl (rj_v rfl rfl (v_move rfl) rfl ?_))))))); refine rj_v rfl rfl (v_idxI Tryz.underlying25 ty_3 rfl rfl q.toR (by first | omega | (simp; omega) | (simp only [List.length_append, List.length_cons, List.length_nil]; omega) | (rw [List.length_set]; omega)) (by first | omega | (simp; omega) | (simp only [List.length_append, List.length_cons, List.length_nil]; omega) | (rw [List.length_set]; omega))) rfl ?_; refine rj_v rfl rfl (v_loadI (k := i) 2 ty_3 rfl rfl q.toR (by first | omega | (simp; omega) | (simp only [List.length_append, List.length_cons, List.length_nil]; omega) | (rw [List.length_set]; omega))) rfl ?_; refine rj_v rfl rfl (v_move rfl) rfl (rj_v rfl rfl (v_move rfl) rfl ?_); refine rj_v rfl rfl (v_idxI Tryz.underlying25 ty_3 rfl rfl q.toR (by first | omega | (simp; omega) | (simp only [List.length_append, List.length_cons, List.length_nil]; omega) | (rw [List.length_set]; omega)) (by first | omega | (simp; omega) | (simp only [List.length_append, List.length_cons, List.length_nil]; omega) | (rw [List.length_set]; omega))) rfl ?_; refine rj_v rfl rfl (v_loadI (k := m) 2 ty_3 rfl rfl q.toR (by first | omega | (simp; omega) | (simp only [List.length_append, List.length_cons, List.length_nil]; omega) | (rw [List.length_set]; omega))) rfl ?_; refine rj_v rfl rfl (v_min rfl rfl) rfl (rj_v rfl rfl (v_assign rfl) rfl (rj_end (qs_n (wp_sc (wp_sq (sq_v rfl (v_move rfl) rfl (sq_v rfl (v_len Tryz.underlying25 rfl q.toR.sl) rfl (sq_v rfl (v_move rfl) rfl (sq_end (qs_n (wp_bl ?_)))))))))))
            refine wp_lp (σ := Nat × PH) (fun z_ => [(1, .pointer (some ⟨b1, 0, none⟩)), (2, .slice none 0 0), (3, lv), (5, num i), (6, .pointer (some ⟨b6, 0, none⟩)), (7, num m), (8, .pointer (some ⟨b8, 0, none⟩)), (9, num (max ((ptI ts (ptO ts i) i m).getD i 0) ((ptI ts (ptO ts i) i m).getD m 0))), (10, num (min ((ptI ts (ptO ts i) i m).getD i 0) ((ptI ts (ptO ts i) i m).getD m 0))), (33, vt), (34, num ts.length), (35, num i), (36, .bool (decide ((i : Int) < ts.length))), (37, num i), (39, .agg [a38, b38, c38].toArray), (40, .pointer (some ⟨b1, 3, none⟩)), (41, vt), (42, num i), (43, subV vt 0 i 3), (44, num (ts.take i).length), (45, num m), (46, .bool (decide ((m : Int) < (ts.take i).length))), (47, num m), (49, .agg [a48, b48, c48].toArray), (50, .agg [a38, b38, c38].toArray), (51, .agg [a48, b48, c48].toArray), (52, .bool (meetB t38 t48)), (53, lv), (54, num i), (56, num ((ptI ts (ptO ts i) i m).getD i 0)), (57, lv), (58, num m), (60, num ((ptI ts (ptO ts i) i m).getD m 0)), (61, num (max ((ptI ts (ptO ts i) i m).getD i 0) ((ptI ts (ptO ts i) i m).getD m 0))), (62, lv), (63, num i), (65, num ((ptI ts (ptO ts i) i m).getD i 0)), (66, lv), (67, num m), (69, num ((ptI ts (ptO ts i) i m).getD m 0)), (70, num (min ((ptI ts (ptO ts i) i m).getD i 0) ((ptI ts (ptO ts i) i m).getD m 0))), (71, lv), (72, num (ptI ts (ptO ts i) i m).length), (73, num z_.1)]) (fun z_ => [box b8 [a48, b48, c48] 34, box b6 [a38, b38, c38] 34, z_.2, box b1 [num k, num p, num n, vt, vo] 40, hp w]) (fun z_ => z_.1 ≤ ts.length ∧ IntsO (mrgI (ptI ts (ptO ts i) i m) ((ptI ts (ptO ts i) i m).getD i 0) ((ptI ts (ptO ts i) i m).getD m 0) z_.1) lv z_.2) (fun z_ => ts.length - z_.1) (0, lh) (⟨by (try dsimp only); omega, by (try dsimp only); rw [mrgI_zero]; exact q⟩) ⟨rfl, rfl, rfl, rfl, rfl, rfl, rfl, rfl, rfl, rfl, rfl, rfl, rfl, rfl, rfl, rfl, rfl, rfl, rfl, rfl, rfl, rfl, rfl, rfl, rfl, rfl, rfl, rfl, rfl, rfl, rfl, rfl, rfl, rfl, rfl, rfl, rfl, rfl, rfl, rfl, rfl, rfl, rfl, (by first | rfl | exact ksub rfl (by first | omega | (simp; done) | (simp; omega))), trivial⟩ (fun _ s => s) ?_; rintro ⟨z, lh⟩ ⟨hz, q⟩; dsimp only at hz q ⊢; have hle_q := q.toR.le; have hml := mrgI_len (ptI ts (ptO ts i) i m) ((ptI ts (ptO ts i) i m).getD i 0) ((ptI ts (ptO ts i) i m).getD m 0) z; refine wp_sc (wp_sq (sq_v rfl (v_lss rfl rfl) rfl (sq_end (qs_n (wp_sc ?_))))); refine wp_cd rfl (fun c74 => ?_) (fun c74 => ?_)
            · refine wp_sk (qs_n (wp_sc (wp_bl (wp_sc (wp_sq (sq_v rfl (v_move rfl) rfl (sq_v rfl (v_assign rfl) rfl (sq_end (qs_n (wp_sc (wp_sq (sq_v rfl (v_move rfl) rfl (sq_v rfl (v_move rfl) rfl ?_))))))))))))); refine sq_v rfl (v_idxI Tryz.underlying25 ty_3 rfl rfl q.toR (by first | omega | (simp; omega) | (simp only [List.length_append, List.length_cons, List.length_nil]; omega) | (rw [List.length_set]; omega)) (by first | omega | (simp; omega) | (simp only [List.length_append, List.length_cons, List.length_nil]; omega) | (rw [List.length_set]; omega))) rfl ?_; refine sq_v rfl (v_loadI (k := z) 2 ty_3 rfl rfl q.toR (by first | omega | (simp; omega) | (simp only [List.length_append, List.length_cons, List.length_nil]; omega) | (rw [List.length_set]; omega))) rfl ?_; refine sq_v rfl (v_move rfl) rfl (sq_v rfl (v_eql rfl rfl) rfl (sq_end ?_)); have hma := mrgI_at (P := (ptI ts (ptO ts i) i m)) (a := ((ptI ts (ptO ts i) i m).getD i 0)) (b := ((ptI ts (ptO ts i) i m).getD m 0)) (m := z) (by omega); refine qs_n ?_; refine wp_cd rfl (fun c81 => ?_) (fun c81 => ?_)
              · refine wp_sq (sq_v rfl (v_move rfl) rfl (sq_v rfl (v_move rfl) rfl (sq_v rfl (v_move rfl) rfl ?_))); refine sq_v rfl (v_idxI Tryz.underlying25 ty_3 rfl rfl q.toR (by first | omega | (simp; omega) | (simp only [List.length_append, List.length_cons, List.length_nil]; omega) | (rw [List.length_set]; omega)) (by first | omega | (simp; omega) | (simp only [List.length_append, List.length_cons, List.length_nil]; omega) | (rw [List.length_set]; omega))) rfl ?_; refine sq_m 2 rfl rfl (m_storeI (k := z) 2 ty_3 rfl rfl rfl q (by first | omega | (simp; omega) | (simp only [List.length_append, List.length_cons, List.length_nil]; omega) | (rw [List.length_set]; omega))) rfl ?_; rintro _ h_q22_4 ⟨rfl, q22_4⟩; refine sq_end (qs_bn (qs_n (wp_sq ?_))); refine sq_v rfl (v_add rfl rfl ((by unfold I64; omega))) rfl ?_; refine sq_v rfl (v_move rfl) rfl (sq_end ?_); exact qs_bk (z + 1, h_q22_4) ⟨by (try dsimp only); omega, by (try dsimp only); rw [mrgI_yes (by omega) (by rw [← hma]; exact c81)]; exact q22_4⟩ (by simp only; omega) ⟨rfl, rfl, rfl, rfl, rfl, rfl, rfl, rfl, rfl, rfl, rfl, rfl, rfl, rfl, rfl, rfl, rfl, rfl, rfl, rfl, rfl, rfl, rfl, rfl, rfl, rfl, rfl, rfl, rfl, rfl, rfl, rfl, rfl, rfl, rfl, rfl, rfl, rfl, rfl, rfl, rfl, rfl, rfl, (by first | rfl | exact ksub rfl (by first | omega | (simp; done) | (simp; omega))), trivial⟩ (fun _ s => s)
              · refine wp_sk (qs_bn (qs_n (wp_sq ?_))); refine sq_v rfl (v_add rfl rfl ((by unfold I64; omega))) rfl ?_; refine sq_v rfl (v_move rfl) rfl (sq_end ?_); exact qs_bk (z + 1, lh) ⟨by (try dsimp only); omega, by (try dsimp only); rw [mrgI_no (by omega) (by rw [← hma]; exact c81)]; exact q⟩ (by simp only; omega) ⟨rfl, rfl, rfl, rfl, rfl, rfl, rfl, rfl, rfl, rfl, rfl, rfl, rfl, rfl, rfl, rfl, rfl, rfl, rfl, rfl, rfl, rfl, rfl, rfl, rfl, rfl, rfl, rfl, rfl, rfl, rfl, rfl, rfl, rfl, rfl, rfl, rfl, rfl, rfl, rfl, rfl, rfl, rfl, (by first | rfl | exact ksub rfl (by first | omega | (simp; done) | (simp; omega))), trivial⟩ (fun _ s => s)
            · refine wp_ex (qs_x (qs_x (qs_bx (qs_bn (qs_n (wp_sq ?_)))))); refine sq_v rfl (v_add rfl rfl ((by unfold I64; omega))) rfl ?_; refine sq_v rfl (v_move rfl) rfl (sq_end ?_); exact qs_bk (m + 1, lh) ⟨by (try dsimp only); omega, by (try dsimp only); rw [ptI_yes (by rw [e38, e48]; exact meetB_true.1 c52)]; rw [show z = (ptO ts i).length by omega] at q; exact q⟩ (by simp only; omega) ⟨rfl, rfl, rfl, rfl, rfl, rfl, rfl, rfl, rfl, rfl, rfl, rfl, rfl, rfl, rfl, rfl, (by first | rfl | exact ksub rfl (by first | omega | (simp; done) | (simp; omega))), trivial⟩ (fun _ s => s.pick [1, 2, 3, 4] (by decide) rfl)
          · refine wp_sk (qs_bn (qs_n (wp_sq ?_))); refine sq_v rfl (v_add rfl rfl ((by unfold I64; omega))) rfl ?_; refine sq_v rfl (v_move rfl) rfl (sq_end ?_); exact qs_bk (m + 1, lh) ⟨by (try dsimp only); omega, by (try dsimp only); rw [ptI_no (fun h => by rw [e38, e48] at h; have h1 := meetB_true.2 h; rw [c52] at h1; cases h1)]; exact q⟩ (by simp only; omega) ⟨rfl, rfl, rfl, rfl, rfl, rfl, rfl, rfl, rfl, rfl, rfl, rfl, rfl, rfl, rfl, rfl, (by first | rfl | exact ksub rfl (by first | omega | (simp; done) | (simp; omega))), trivial⟩ (fun _ s => s.pick [1, 2, 3, 4] (by decide) rfl)
        · refine wp_ex (qs_x (qs_x (qs_bx (qs_bn (qs_n (wp_sq ?_)))))); refine sq_v rfl (v_add rfl rfl ((by unfold I64; omega))) rfl ?_; refine sq_v rfl (v_move rfl) rfl (sq_end ?_); exact qs_bk (i + 1, lh) ⟨by (try dsimp only); omega, by (try dsimp only); rw [ptO]; rw [show m = i by omega] at q; exact q⟩ (by simp only; omega) ⟨rfl, rfl, rfl, rfl, rfl, (by first | rfl | exact ksub rfl (by first | omega | (simp; done) | (simp; omega))), trivial⟩ (fun _ s => s.pick [1, 2, 3] (by decide) rfl)
      · refine wp_ex (qs_x (qs_x (qs_bx (qs_n (wp_sc (wp_sq ?_)))))); refine sq_x rfl (x_build0 Tryz.underlying55 ty_25) rfl ?_; intro v89 h89 r89; refine sq_v rfl (v_assign rfl) rfl (sq_end (qs_n (wp_sc (wp_sc (wp_sq (sq_v rfl (v_move rfl) rfl (sq_v rfl (v_len Tryz.underlying25 rfl q.toR.sl) rfl (sq_v rfl (v_move rfl) rfl (sq_end (qs_n (wp_bl ?_))))))))))); refine wp_lp (σ := Nat × Value × PH × (List Value) × PH) (fun z_ => [(2, .slice none 0 0), (3, lv), (12, z_.2.1), (91, num (ptO ts i).length), (92, num z_.1)]) (fun z_ => [z_.2.2.2.2, z_.2.2.1, lh, box b1 [num k, num p, num n, vt, vo] 40, hp w]) (fun z_ => z_.1 ≤ ts.length ∧ OwnH (partsTo ts z_.1) z_.2.2.2.1 z_.2.2.2.2 ∧ RowO (25) z_.2.2.2.1 (partsTo ts z_.1).length 1 z_.2.1 z_.2.2.1) (fun z_ => ts.length - z_.1) (0, v89, h89, [], emp) (⟨by (try dsimp only); omega, OwnH.nil, r89⟩) ⟨rfl, rfl, (by first | rfl | exact ksub rfl (by first | omega | (simp; done) | (simp; omega))), rfl, (by first | rfl | exact ksub rfl (by first | omega | (simp; done) | (simp; omega))), trivial⟩ (fun _ s => (emp_sat s)) ?_; rintro ⟨u, lo, ho, cs, hl⟩ ⟨hu, hlv, qo⟩; dsimp only at hu hlv qo ⊢; have hpq : ptO ts i = ptP ts := by rw [show i = ts.length by omega]; rfl
        have hpll := partsTo_len ts u; refine wp_sc (wp_sq (sq_v rfl (v_lss rfl rfl) rfl (sq_end (qs_n (wp_sc ?_))))); refine wp_cd rfl (fun c93 => ?_) (fun c93 => ?_)
        · refine wp_sk (qs_n (wp_sc (wp_bl (wp_sc (wp_sq (sq_v rfl (v_move rfl) rfl (sq_v rfl (v_assign rfl) rfl (sq_end (qs_n (wp_sc (wp_sq ?_))))))))))); refine sq_x rfl (x_build0 Tryz.underlying25 ty_3) rfl ?_; intro v95 h95 (r95 : IntsO [] v95 h95); refine sq_v rfl (v_assign rfl) rfl (sq_end (qs_n (wp_sc (wp_sc (wp_sq (sq_v rfl (v_move rfl) rfl (sq_v rfl (v_len Tryz.underlying25 rfl q.toR.sl) rfl (sq_v rfl (v_move rfl) rfl (sq_end (qs_n (wp_bl ?_))))))))))); refine wp_lp (σ := Nat × Value × PH) (fun z_ => [(2, .slice none 0 0), (3, lv), (12, lo), (13, num u), (14, z_.2.1), (91, num (ptO ts i).length), (92, num u), (93, .bool (decide ((u : Int) < (ptO ts i).length))), (94, num u), (95, v95), (96, lv), (97, num (ptO ts i).length), (98, num z_.1)]) (fun z_ => [z_.2.2, hl, ho, lh, box b1 [num k, num p, num n, vt, vo] 40, hp w]) (fun z_ => z_.1 ≤ ts.length ∧ IntsO (partJ (ptP ts) u z_.1) z_.2.1 z_.2.2) (fun z_ => ts.length - z_.1) (0, v95, h95) (⟨by (try dsimp only); omega, r95⟩) ⟨rfl, rfl, rfl, rfl, (by first | rfl | exact ksub rfl (by first | omega | (simp; done) | (simp; omega))), rfl, rfl, rfl, rfl, rfl, rfl, rfl, (by first | rfl | exact ksub rfl (by first | omega | (simp; done) | (simp; omega))), trivial⟩ (fun _ s => s) ?_; rintro ⟨j, ly, hy⟩ ⟨hj, qy⟩; dsimp only at hj qy ⊢; have hle_qy := qy.toR.le; have hjl := partJ_len (ptP ts) u j; refine wp_sc (wp_sq (sq_v rfl (v_lss rfl rfl) rfl (sq_end (qs_n (wp_sc ?_))))); refine wp_cd rfl (fun c99 => ?_) (fun c99 => ?_)
          · refine wp_sk (qs_n (wp_sc (wp_bl (wp_sc (wp_sq (sq_v rfl (v_move rfl) rfl ?_)))))); refine sq_v rfl (v_idxI Tryz.underlying25 ty_3 rfl rfl q.toR (by first | omega | (simp; omega) | (simp only [List.length_append, List.length_cons, List.length_nil]; omega) | (rw [List.length_set]; omega)) (by first | omega | (simp; omega) | (simp only [List.length_append, List.length_cons, List.length_nil]; omega) | (rw [List.length_set]; omega))) rfl ?_; refine sq_v rfl (v_loadI (k := j) 3 ty_3 rfl rfl q.toR (by first | omega | (simp; omega) | (simp only [List.length_append, List.length_cons, List.length_nil]; omega) | (rw [List.length_set]; omega))) rfl ?_; refine sq_v rfl (v_assign rfl) rfl (sq_v rfl (v_assign rfl) rfl (sq_end (qs_n (wp_sc (wp_sq (sq_v rfl (v_move rfl) rfl (sq_v rfl (v_move rfl) rfl (sq_v rfl (v_eql rfl rfl) rfl (sq_end (qs_n ?_)))))))))); refine wp_cd rfl (fun c105 => ?_) (fun c105 => ?_)
            · refine wp_sq (sq_v rfl (v_move rfl) rfl (sq_v rfl (v_move rfl) rfl ?_)); refine sq_x rfl (x_buildS [num (j)] Tryz.underlying25 ty_3 (by decide) rfl rfl rfl (by decide) (by decide) (by intro v hv; simp at hv; rcases hv with rfl <;> rfl)) rfl ?_; intro v108 h108 (r108 : IntsO [j] v108 h108); refine sq_m 1 rfl rfl (m_appI 1 0 Tryz.underlying25 ty_3 rfl rfl rfl rfl qy rfl r108.toR (by first | omega | (simp; omega) | (simp only [List.length_append, List.length_cons, List.length_nil]; omega) | (rw [List.length_set]; omega))) rfl ?_; intro v109 h_r109 r109; refine sq_v rfl (v_assign rfl) rfl (sq_end (qs_bn (qs_n (wp_sq ?_)))); refine sq_v rfl (v_add rfl rfl ((by unfold I64; omega))) rfl ?_; refine sq_v rfl (v_move rfl) rfl (sq_end ?_); exact qs_bk (j + 1, v109, h_r109) ⟨by (try dsimp only); omega, by (try dsimp only); rw [partJ_yes (by rw [← hpq]; exact c105)]; exact r109⟩ (by simp only; omega) ⟨rfl, rfl, rfl, rfl, (by first | rfl | exact ksub rfl (by first | omega | (simp; done) | (simp; omega))), rfl, rfl, rfl, rfl, rfl, rfl, rfl, (by first | rfl | exact ksub rfl (by first | omega | (simp; done) | (simp; omega))), trivial⟩ (fun _ s => s.pick [1, 2, 3, 4, 5, 6] (by decide) rfl)
            · refine wp_sk (qs_bn (qs_n (wp_sq ?_))); refine sq_v rfl (v_add rfl rfl ((by unfold I64; omega))) rfl ?_; refine sq_v rfl (v_move rfl) rfl (sq_end ?_); exact qs_bk (j + 1, ly, hy) ⟨by (try dsimp only); omega, by (try dsimp only); rw [partJ_no (by rw [← hpq]; exact c105)]; exact qy⟩ (by simp only; omega) ⟨rfl, rfl, rfl, rfl, (by first | rfl | exact ksub rfl (by first | omega | (simp; done) | (simp; omega))), rfl, rfl, rfl, rfl, rfl, rfl, rfl, (by first | rfl | exact ksub rfl (by first | omega | (simp; done) | (simp; omega))), trivial⟩ (fun _ s => s)
          · refine wp_ex (qs_x (qs_x (qs_bx (qs_n (wp_sc (wp_sq (sq_v rfl (v_move rfl) rfl (sq_v rfl (v_len Tryz.underlying25 rfl qy.toR.sl) rfl (sq_v rfl (v_gtr rfl rfl) rfl (sq_end (qs_n ?_))))))))))); refine wp_cd rfl (fun c113 => ?_) (fun c113 => ?_)
            · refine wp_sq (sq_v rfl (v_move rfl) rfl (sq_v rfl (v_move rfl) rfl ?_)); refine sq_x rfl (x_build1 qy.toR.sl Tryz.underlying55 ty_25 rfl) rfl ?_; intro v116 h116 r116; refine sq_m 3 rfl rfl (m_append 3 0 Tryz.underlying55 ty_25 rfl rfl (by decide) rfl rfl rfl qo rfl r116.toR (by simp [qy.toR.sl.one]) (by unfold maxLen; omega) (by omega)) rfl ?_; intro v117 h_r117 r117; refine sq_v rfl (v_assign rfl) rfl (sq_end (qs_bn (qs_n (wp_sq ?_)))); refine sq_v rfl (v_add rfl rfl ((by unfold I64; omega))) rfl ?_; refine sq_v rfl (v_move rfl) rfl (sq_end ?_); refine qs_dj 2 1 rfl rfl rfl (fun hdj => ?_); have ej : j = ts.length := by omega
              subst ej; have hne : partJ (ptP ts) u ts.length ≠ [] := fun e => by rw [e] at c113; simp at c113
              exact qs_bk (u + 1, v117, h_r117, cs ++ [ly], PUn hl hy) ⟨by (try dsimp only); omega, by (try dsimp only); rw [partsTo_yes hne]; exact hlv.add qy hdj, by (try dsimp only); rw [partsTo_yes hne, List.length_append]; exact r117⟩ (by simp only; omega) ⟨rfl, rfl, (by first | rfl | exact ksub rfl (by first | omega | (simp; done) | (simp; omega))), rfl, (by first | rfl | exact ksub rfl (by first | omega | (simp; done) | (simp; omega))), trivial⟩ (fun _ s => Sat.merge (s.pick [2, 1, 3, 4, 5, 6] (by decide) rfl))
            · refine wp_sk (qs_bn (qs_n (wp_sq ?_))); refine sq_v rfl (v_add rfl rfl ((by unfold I64; omega))) rfl ?_; refine sq_v rfl (v_move rfl) rfl (sq_end ?_); have ej : j = ts.length := by omega
              subst ej; have hne : partJ (ptP ts) u ts.length = [] := List.eq_nil_of_length_eq_zero (by omega); exact qs_bk (u + 1, lo, ho, cs, hl) ⟨by (try dsimp only); omega, by (try dsimp only); rw [partsTo_no hne]; exact hlv, by (try dsimp only); rw [partsTo_no hne]; exact qo⟩ (by simp only; omega) ⟨rfl, rfl, (by first | rfl | exact ksub rfl (by first | omega | (simp; done) | (simp; omega))), rfl, (by first | rfl | exact ksub rfl (by first | omega | (simp; done) | (simp; omega))), trivial⟩ (fun _ s => s.pick [1, 2, 3, 4, 5] (by decide) rfl)
        · refine wp_ex (qs_x (qs_x (qs_bx (qs_n (wp_sc (wp_sq (sq_v rfl (v_move rfl) rfl (sq_v rfl (v_assign rfl) rfl (sq_end (qs_n (wp_rt ?_))))))))))); have eu : u = ts.length := by omega
          subst eu; refine qs_close [hp w] [ho, hl] (fun _ s => s.pick [4, 1, 0] (by decide) rfl) (fun md => ?_); exact qs_ret1 rfl rfl (fin_t 0 (i := 1) rfl rfl rfl (LLO.of qo hlv md))
set_option maxHeartbeats 4000000 in
theorem ct_i_PartsOf (k p n : Int) (ts : List Ten) (op : List Int) (vt vo : Value) (w : World) (r : TensR ts vt (hp w)) (r' : IntsR op vo (hp w)) (hs : op.length ≤ 1048576) (hnet : netL k p n ts op) :
    Calls Tryz.prog 113 [netV k p n vt vo].toArray w (Ret w emp (LLO (partsL ts))) := by
  have h12 := hnet.2.1; refine calls_in Tryz.func113 rfl Tryz.ntmps113 rfl (Sat.start w) ?_; have hle0 := r.le; obtain ⟨cs_r, rr_r, hc_r⟩ := r.at; have hle1 := r'.le; refine wp_sc (wp_sq ?_); refine sq_x rfl (x_box rfl rfl) rfl ?_; rintro _ _ ⟨b1, rfl, rfl⟩; refine sq_v rfl (v_assign rfl) rfl (sq_end (qs_n (wp_sc (wp_sc (wp_sq (sq_v rfl (v_loadNB 0 ty_40 rfl rfl rfl rfl) rfl (sq_u rfl (x_callv rfl en_42 (fun w s => ct_i_NetworkOk _ _ _ _ _ _ _ w (r.mono (s.get 1 rfl)) (r'.mono (s.get 1 rfl)) (by first | assumption | omega))) rfl (sq_v rfl (v_not rfl) rfl (sq_end (qs_n ?_)))))))))); refine wp_cn _ rfl (fun c18 => ?_) (fun c18 => ?_)
  · refine wp_sc (wp_sq (sq_v rfl (v_assign rfl) rfl (sq_end (qs_n (wp_rt (qs_r ?_))))))
    exfalso; rw [netB_true.2 hnet] at c18; cases c18
  · refine wp_sk (qs_n (wp_sc (wp_sq (sq_v rfl (v_fieldAddr fd_40_1 ty_38 (by decide) rfl) rfl (sq_v rfl (v_loadB 0 ty_38 rfl rfl rfl) rfl (sq_v rfl (v_len Tryz.underlying38 rfl r.sl) rfl ?_)))))); refine sq_x rfl (x_makeI Tryz.underlying25 ty_3 rfl rfl (by first | omega | (simp; omega) | (simp only [List.length_append, List.length_cons, List.length_nil]; omega) | (rw [List.length_set]; omega)) (by first | omega | (simp; omega) | (simp only [List.length_append, List.length_cons, List.length_nil]; omega) | (rw [List.length_set]; omega)) (by first | omega | (simp; omega) | (simp only [List.length_append, List.length_cons, List.length_nil]; omega) | (rw [List.length_set]; omega))) rfl ?_; intro v22 h22 r22; refine sq_v rfl (v_assign rfl) rfl (sq_end (qs_n (wp_sc (wp_sc (wp_sq (sq_v rfl (v_move rfl) rfl (sq_v rfl (v_len Tryz.underlying25 rfl r22.toR.sl) rfl (sq_v rfl (v_move rfl) rfl (sq_end ?_))))))))); have hrep : (List.replicate (ts.length : Int).toNat (0 : Int)).length = ts.length := by rw [List.length_replicate]; omega
    refine qs_n (wp_bl ?_); refine wp_lp (σ := Nat × PH) (fun z_ => [(1, .pointer (some ⟨b1, 0, none⟩)), (2, .slice none 0 0), (3, v22), (24, num (List.replicate (ts.length : Int).toNat 0).length), (25, num z_.1)]) (fun z_ => [z_.2, box b1 [num k, num p, num n, vt, vo] 40, hp w]) (fun z_ => z_.1 ≤ ts.length ∧ IntsO (fillI ts.length z_.1) v22 z_.2) (fun z_ => ts.length - z_.1) (0, h22) (⟨by (try dsimp only); omega, by (try dsimp only); rw [fill_zero]; exact r22⟩) ⟨rfl, rfl, rfl, rfl, (by first | rfl | exact ksub rfl (by first | omega | (simp; done) | (simp; omega))), trivial⟩ (fun _ s => s) ?_; rintro ⟨i, lh⟩ ⟨hi, q⟩; dsimp only at hi q ⊢; have hle_q := q.toR.le; have hfl := fill_len (n := ts.length) (i := i) hi; refine wp_sc (wp_sq (sq_v rfl (v_lss rfl rfl) rfl (sq_end (qs_n (wp_sc ?_))))); refine wp_cd rfl (fun c26 => ?_) (fun c26 => ?_)
    · refine wp_sk (qs_n (wp_sc (wp_bl (wp_sc (wp_sq (sq_v rfl (v_move rfl) rfl (sq_v rfl (v_assign rfl) rfl (sq_end (qs_n (wp_sq (sq_v rfl (v_move rfl) rfl (sq_v rfl (v_move rfl) rfl (sq_v rfl (v_move rfl) rfl ?_))))))))))))); refine sq_v rfl (v_idxI Tryz.underlying25 ty_3 rfl rfl q.toR (by first | omega | (simp; omega) | (simp only [List.length_append, List.length_cons, List.length_nil]; omega) | (rw [List.length_set]; omega)) (by first | omega | (simp; omega) | (simp only [List.length_append, List.length_cons, List.length_nil]; omega) | (rw [List.length_set]; omega))) rfl ?_; refine sq_m 0 rfl rfl (m_storeI (k := i) 0 ty_3 rfl rfl rfl q (by first | omega | (simp; omega) | (simp only [List.length_append, List.length_cons, List.length_nil]; omega) | (rw [List.length_set]; omega))) rfl ?_; rintro _ h_q7_4 ⟨rfl, q7_4⟩; refine sq_end (qs_bn (qs_n (wp_sq ?_))); refine sq_v rfl (v_add rfl rfl ((by unfold I64; omega))) rfl ?_; refine sq_v rfl (v_move rfl) rfl (sq_end ?_); exact qs_bk (i + 1, h_q7_4) ⟨by (try dsimp only); omega, by (try dsimp only); rw [← fill_set (by omega)]; exact q7_4⟩ (by simp only; omega) ⟨rfl, rfl, rfl, rfl, (by first | rfl | exact ksub rfl (by first | omega | (simp; done) | (simp; omega))), trivial⟩ (fun _ s => s)
    · refine wp_ex (qs_x (qs_x (qs_bx (qs_n (wp_sc (wp_sc (wp_sq (sq_v rfl (v_fieldAddr fd_40_1 ty_38 (by decide) rfl) rfl (sq_v rfl (v_loadB 1 ty_38 rfl rfl rfl) rfl (sq_v rfl (v_len Tryz.underlying38 rfl r.sl) rfl (sq_v rfl (v_move rfl) rfl (sq_end (qs_n (wp_bl ?_)))))))))))))); refine wp_lp (σ := Nat × PH) (fun z_ => [(1, .pointer (some ⟨b1, 0, none⟩)), (2, .slice none 0 0), (3, v22), (34, vt), (35, num ts.length), (36, num z_.1)]) (fun z_ => [z_.2, box b1 [num k, num p, num n, vt, vo] 40, hp w]) (fun z_ => z_.1 ≤ ts.length ∧ IntsO (ptO ts z_.1) v22 z_.2) (fun z_ => ts.length - z_.1) (0, lh) (⟨by (try dsimp only); omega, by (try dsimp only); rw [show i = ts.length by omega, fill_all] at q; exact q⟩) ⟨rfl, rfl, rfl, rfl, rfl, (by first | rfl | exact ksub rfl (by first | omega | (simp; done) | (simp; omega))), trivial⟩ (fun _ s => s) ?_; rintro ⟨i, lh⟩ ⟨hi, q⟩; dsimp only at hi q ⊢; have hle_q := q.toR.le; have hpo := ptO_ok ts i hi; refine wp_sc (wp_sq (sq_v rfl (v_lss rfl rfl) rfl (sq_end (qs_n (wp_sc ?_))))); refine wp_cd rfl (fun c37 => ?_) (fun c37 => ?_)
      · refine wp_sk (qs_n (wp_sc (wp_bl (wp_sc (wp_sq (sq_v rfl (v_move rfl) rfl ?_)))))); obtain ⟨t39, a39, b39, c39, ht39, hcs39, rl39, rd39, rx39⟩ := hc_r (i) (by first | omega | (rw [List.length_set]; omega)); refine sq_v rfl (v_indexAddr Tryz.underlying38 ty_34 rfl rfl rr_r (by decide) (by omega) (by omega)) rfl ?_; refine sq_v rfl (v_loadNE 2 ty_34 rfl rfl rr_r (by have := rr_r.1; omega) rfl hcs39) rfl ?_; refine sq_x rfl (x_alloc ty_34 rfl) rfl ?_; rintro _ _ ⟨b6, rfl, rfl⟩; refine sq_v rfl (v_assign rfl) rfl ?_; refine sq_m 0 rfl rfl (m_store 0 ty_34 rfl rfl rfl rfl (by simp [rl39.sl.one, rd39.sl.one, rx39.sl.one]) rfl (Nat.le_of_ble_eq_true rfl)) rfl ?_; rintro _ _ ⟨rfl, rfl⟩; refine sq_end ?_; have e39 : ts.getD i noTen = t39 := getD_ten ht39; refine qs_n (wp_sc (wp_sq (sq_v rfl (v_assign rfl) rfl (sq_end (qs_n (wp_bl ?_)))))); refine wp_lp (σ := Nat × PH) (fun z_ => [(1, .pointer (some ⟨b1, 0, none⟩)), (2, .slice none 0 0), (3, v22), (5, num i), (6, .pointer (some ⟨b6, 0, none⟩)), (7, num z_.1), (34, vt), (35, num ts.length), (36, num i), (37, .bool (decide ((i : Int) < ts.length))), (38, num i), (40, .agg [a39, b39, c39].toArray)]) (fun z_ => [box b6 [a39, b39, c39] 34, z_.2, box b1 [num k, num p, num n, vt, vo] 40, hp w]) (fun z_ => z_.1 ≤ i ∧ IntsO (ptI ts (ptO ts i) i z_.1) v22 z_.2) (fun z_ => i - z_.1) (0, lh) (⟨by (try dsimp only); omega, q⟩) ⟨rfl, rfl, rfl, rfl, rfl, (by first | rfl | exact ksub rfl (by first | omega | (simp; done) | (simp; omega))), rfl, rfl, rfl, rfl, rfl, rfl, trivial⟩ (fun _ s => s) ?_; rintro ⟨m, lh⟩ ⟨hm, q⟩; dsimp only at hm q ⊢; have hle_q := q.toR.le; have hpl := ptI_len (ts := ts) (P := ptO ts i) (i := i) m; refine wp_sc (wp_sc (wp_sq (sq_v rfl (v_move rfl) rfl (sq_v rfl (v_move rfl) rfl (sq_v rfl (v_lss rfl rfl) rfl (sq_end (qs_n ?_))))))); refine wp_cd rfl (fun c43 => ?_) (fun c43 => ?_)
        · refine wp_sk (qs_n (wp_sc (wp_bl (wp_sc (wp_sc (wp_rj 10 [(0, true), (1, true), (2, true), (3, true), (4, true), (5, true), (6, true), (7, true), (8, false), (9, true)] mixed_ok (by kernel_rfl) (rj_v rfl rfl (v_fieldAddr fd_34_0 ty_25 (by decide) rfl) rfl (rj_v rfl rfl (v_loadB 0 ty_25 rfl rfl rfl) rfl (rj_v rfl rfl (v_fieldAddr fd_40_1 ty_38 (by decide) rfl) rfl (rj_v rfl rfl (v_loadB 2 ty_38 rfl rfl rfl) rfl (rj_v rfl rfl (v_move rfl) rfl ?_))))))))))); obtain ⟨t51, a51, b51, c51, ht51, hcs51, rl51, rd51, rx51⟩ := hc_r (m) (by first | omega | (rw [List.length_set]; omega)); refine rj_v rfl rfl (v_indexAddr Tryz.underlying38 ty_34 rfl rfl rr_r (by decide) (by omega) (by omega)) rfl ?_; refine rj_v rfl rfl (v_fieldAddrE fd_34_0 ty_25 (by decide) rfl rr_r (by have := rr_r.1; first | omega | (simp only [Int.toNat_natCast]; omega) | (rw [stepCells_len, List.length_set]; omega))) rfl ?_; refine rj_v rfl rfl (v_loadE 3 ty_25 rfl rfl rr_r (sub_get hcs51 (j := 0) rfl)) rfl (rj_u rfl rfl (x_callv rfl en_206 (fun w s => ct_i_shareLabel _ _ _ _ w (rl39.mono (s.get 3 rfl)) (rl51.mono (s.get 3 rfl)))) rfl (rj_v rfl rfl (v_not rfl) rfl (rj_end ?_))); have e51 : ts.getD m noTen = t51 := getD_ten ht51; refine qs_n ?_; refine wp_cn _ rfl (fun c55 => ?_) (fun c55 => ?_)
          · refine wp_ex (qs_x (qs_bx (qs_n (wp_sq (sq_v rfl (v_move rfl) rfl ?_))))); refine sq_v rfl (v_add rfl rfl ((by unfold I64; omega))) rfl ?_; refine sq_v rfl (v_assign rfl) rfl (sq_end ?_); exact qs_bk (m + 1, lh) ⟨by (try dsimp only); omega, by (try dsimp only); rw [ptI_no (fun h => by rw [e39, e51] at h; have h1 := meetB_true.2 h; rw [c55] at h1; cases h1)]; exact q⟩ (by simp only; omega) ⟨rfl, rfl, rfl, rfl, rfl, (by first | rfl | exact ksub rfl (by first | omega | (simp; done) | (simp; omega))), rfl, rfl, rfl, rfl, rfl, rfl, trivial⟩ (fun _ s => s)
          · refine wp_sk (qs_n (wp_sc (wp_rj 20 [(0, true), (1, true), (2, true), (3, true), (4, true), (5, true), (6, true), (7, true), (8, true), (9, true), (10, true), (11, true), (12, true), (13, true), (14, true), (15, true), (16, true), (17, true), (18, true), (19, true)] mixed_ok (by kernel_rfl) (rj_v rfl rfl (v_move rfl) rfl (rj_v rfl rfl (v_move rfl) rfl ?_))))); refine rj_v rfl rfl (v_idxI Tryz.underlying25 ty_3 rfl rfl q.toR (by first | omega | (simp; omega) | (simp only [List.length_append, List.length_cons, List.length_nil]; omega) | (rw [List.length_set]; omega)) (by first | omega | (simp; omega) | (simp only [List.length_append, List.length_cons, List.length_nil]; omega) | (rw [List.length_set]; omega))) rfl ?_; refine rj_v rfl rfl (v_loadI (k := i) 1 ty_3 rfl rfl q.toR (by first | omega | (simp; omega) | (simp only [List.length_append, List.length_cons, List.length_nil]; omega) | (rw [List.length_set]; omega))) rfl ?_; refine rj_v rfl rfl (v_move rfl) rfl (rj_v rfl rfl (v_move rfl) rfl ?_); refine rj_v rfl rfl (v_idxI Tryz.underlying25 ty_3 rfl rfl q.toR (by first | omega | (simp; omega) | (simp only [List.length_append, List.length_cons, List.length_nil]; omega) | (rw [List.length_set]; omega)) (by first | omega | (simp; omega) | (simp only [List.length_append, List.length_cons, List.length_nil]; omega) | (rw [List.length_set]; omega))) rfl ?_; refine rj_v rfl rfl (v_loadI (k := m) 1 ty_3 rfl rfl q.toR (by first | omega | (simp; omega) | (simp only [List.length_append, List.length_cons, List.length_nil]; omega) | (rw [List.length_set]; omega))) rfl ?_; refine rj_v rfl rfl (v_min rfl rfl) rfl (rj_v rfl rfl (v_move rfl) rfl (rj_v rfl rfl (v_move rfl) rfl ?_)); refine rj_v rfl rfl (v_idxI Tryz.underlying25 ty_3 rfl rfl q.toR (by first | omega | (simp; omega) | (simp only [List.length_append, List.length_cons, List.length_nil]; omega) | (rw [List.length_set]; omega)) (by first | omega | (simp; omega) | (simp only [List.length_append, List.length_cons, List.length_nil]; omega) | (rw [List.length_set]; omega))) rfl ?_; refine rj_v rfl rfl (v_loadI (k := i) 1 ty_3 rfl rfl q.toR (by first | omega | (simp; omega) | (simp only [List.length_append, List.length_cons, List.length_nil]; omega) | (rw [List.length_set]; omega))) rfl ?_; refine rj_v rfl rfl (v_move rfl) rfl (rj_v rfl rfl (v_move rfl) rfl ?_); refine rj_v rfl rfl (v_idxI Tryz.underlying25 ty_3 rfl rfl q.toR (by first | omega | (simp; omega) | (simp only [List.length_append, List.length_cons, List.length_nil]; omega) | (rw [List.length_set]; omega)) (by first | omega | (simp; omega) | (simp only [List.length_append, List.length_cons, List.length_nil]; omega) | (rw [List.length_set]; omega))) rfl ?_; refine rj_v rfl rfl (v_loadI (k := m) 1 ty_3 rfl rfl q.toR (by first | omega | (simp; omega) | (simp only [List.length_append, List.length_cons, List.length_nil]; omega) | (rw [List.length_set]; omega))) rfl ?_; refine rj_v rfl rfl (v_max rfl rfl) rfl (rj_v rfl rfl (v_assign rfl) rfl (rj_v rfl rfl (v_assign rfl) rfl (rj_end (qs_n (wp_sc (wp_sq (sq_v rfl (v_move rfl) rfl (sq_v rfl (v_len Tryz.underlying25 rfl q.toR.sl) rfl (sq_v rfl (v_move rfl) rfl (sq_end (qs_n (wp_bl ?_))))))))))))
            refine wp_lp (σ := Nat × PH) (fun z_ => [(1, .pointer (some ⟨b1, 0, none⟩)), (2, .slice none 0 0), (3, v22), (5, num i), (6, .pointer (some ⟨b6, 0, none⟩)), (7, num m), (8, num (min ((ptI ts (ptO ts i) i m).getD i 0) ((ptI ts (ptO ts i) i m).getD m 0))), (9, num (max ((ptI ts (ptO ts i) i m).getD i 0) ((ptI ts (ptO ts i) i m).getD m 0))), (34, vt), (35, num ts.length), (36, num i), (37, .bool (decide ((i : Int) < ts.length))), (38, num i), (40, .agg [a39, b39, c39].toArray), (41, num m), (42, num i), (43, .bool (decide ((m : Int) < i))), (46, .pointer (some ⟨b6, 0, none⟩)), (47, a39), (48, .pointer (some ⟨b1, 3, none⟩)), (49, vt), (50, num m), (53, a51), (54, .bool (meetB t39 t51)), (55, .bool (!(meetB t39 t51))), (56, v22), (57, num i), (59, num ((ptI ts (ptO ts i) i m).getD i 0)), (60, v22), (61, num m), (63, num ((ptI ts (ptO ts i) i m).getD m 0)), (64, num (min ((ptI ts (ptO ts i) i m).getD i 0) ((ptI ts (ptO ts i) i m).getD m 0))), (65, v22), (66, num i), (68, num ((ptI ts (ptO ts i) i m).getD i 0)), (69, v22), (70, num m), (72, num ((ptI ts (ptO ts i) i m).getD m 0)), (73, num (max ((ptI ts (ptO ts i) i m).getD i 0) ((ptI ts (ptO ts i) i m).getD m 0))), (74, v22), (75, num (ptI ts (ptO ts i) i m).length), (76, num z_.1)]) (fun z_ => [box b6 [a39, b39, c39] 34, z_.2, box b1 [num k, num p, num n, vt, vo] 40, hp w]) (fun z_ => z_.1 ≤ ts.length ∧ IntsO (mrgI (ptI ts (ptO ts i) i m) ((ptI ts (ptO ts i) i m).getD i 0) ((ptI ts (ptO ts i) i m).getD m 0) z_.1) v22 z_.2) (fun z_ => ts.length - z_.1) (0, lh) (⟨by (try dsimp only); omega, by (try dsimp only); rw [mrgI_zero]; exact q⟩) ⟨rfl, rfl, rfl, rfl, rfl, rfl, rfl, rfl, rfl, rfl, rfl, rfl, rfl, rfl, rfl, rfl, rfl, rfl, rfl, rfl, rfl, rfl, rfl, rfl, rfl, rfl, rfl, rfl, rfl, rfl, rfl, rfl, rfl, rfl, rfl, rfl, rfl, rfl, rfl, rfl, rfl, (by first | rfl | exact ksub rfl (by first | omega | (simp; done) | (simp; omega))), trivial⟩ (fun _ s => s) ?_; rintro ⟨z, lh⟩ ⟨hz, q⟩; dsimp only at hz q ⊢; have hle_q := q.toR.le; have hml := mrgI_len (ptI ts (ptO ts i) i m) ((ptI ts (ptO ts i) i m).getD i 0) ((ptI ts (ptO ts i) i m).getD m 0) z; refine wp_sc (wp_sq (sq_v rfl (v_lss rfl rfl) rfl (sq_end (qs_n (wp_sc ?_))))); refine wp_cd rfl (fun c77 => ?_) (fun c77 => ?_)
            · refine wp_sk (qs_n (wp_sc (wp_bl (wp_sc (wp_sq (sq_v rfl (v_move rfl) rfl (sq_v rfl (v_assign rfl) rfl (sq_end (qs_n (wp_sc (wp_sq (sq_v rfl (v_move rfl) rfl (sq_v rfl (v_move rfl) rfl ?_))))))))))))); refine sq_v rfl (v_idxI Tryz.underlying25 ty_3 rfl rfl q.toR (by first | omega | (simp; omega) | (simp only [List.length_append, List.length_cons, List.length_nil]; omega) | (rw [List.length_set]; omega)) (by first | omega | (simp; omega) | (simp only [List.length_append, List.length_cons, List.length_nil]; omega) | (rw [List.length_set]; omega))) rfl ?_; refine sq_v rfl (v_loadI (k := z) 1 ty_3 rfl rfl q.toR (by first | omega | (simp; omega) | (simp only [List.length_append, List.length_cons, List.length_nil]; omega) | (rw [List.length_set]; omega))) rfl ?_; refine sq_v rfl (v_move rfl) rfl (sq_v rfl (v_eql rfl rfl) rfl (sq_end ?_)); have hma := mrgI_at (P := (ptI ts (ptO ts i) i m)) (a := ((ptI ts (ptO ts i) i m).getD i 0)) (b := ((ptI ts (ptO ts i) i m).getD m 0)) (m := z) (by omega); refine qs_n ?_; refine wp_cd rfl (fun c84 => ?_) (fun c84 => ?_)
              · refine wp_sq (sq_v rfl (v_move rfl) rfl (sq_v rfl (v_move rfl) rfl (sq_v rfl (v_move rfl) rfl ?_))); refine sq_v rfl (v_idxI Tryz.underlying25 ty_3 rfl rfl q.toR (by first | omega | (simp; omega) | (simp only [List.length_append, List.length_cons, List.length_nil]; omega) | (rw [List.length_set]; omega)) (by first | omega | (simp; omega) | (simp only [List.length_append, List.length_cons, List.length_nil]; omega) | (rw [List.length_set]; omega))) rfl ?_; refine sq_m 1 rfl rfl (m_storeI (k := z) 1 ty_3 rfl rfl rfl q (by first | omega | (simp; omega) | (simp only [List.length_append, List.length_cons, List.length_nil]; omega) | (rw [List.length_set]; omega))) rfl ?_; rintro _ h_q21_4 ⟨rfl, q21_4⟩; refine sq_end (qs_bn (qs_n (wp_sq ?_))); refine sq_v rfl (v_add rfl rfl ((by unfold I64; omega))) rfl ?_; refine sq_v rfl (v_move rfl) rfl (sq_end ?_); exact qs_bk (z + 1, h_q21_4) ⟨by (try dsimp only); omega, by (try dsimp only); rw [mrgI_yes (by omega) (by rw [← hma]; exact c84)]; exact q21_4⟩ (by simp only; omega) ⟨rfl, rfl, rfl, rfl, rfl, rfl, rfl, rfl, rfl, rfl, rfl, rfl, rfl, rfl, rfl, rfl, rfl, rfl, rfl, rfl, rfl, rfl, rfl, rfl, rfl, rfl, rfl, rfl, rfl, rfl, rfl, rfl, rfl, rfl, rfl, rfl, rfl, rfl, rfl, rfl, rfl, (by first | rfl | exact ksub rfl (by first | omega | (simp; done) | (simp; omega))), trivial⟩ (fun _ s => s)
              · refine wp_sk (qs_bn (qs_n (wp_sq ?_))); refine sq_v rfl (v_add rfl rfl ((by unfold I64; omega))) rfl ?_; refine sq_v rfl (v_move rfl) rfl (sq_end ?_); exact qs_bk (z + 1, lh) ⟨by (try dsimp only); omega, by (try dsimp only); rw [mrgI_no (by omega) (by rw [← hma]; exact c84)]; exact q⟩ (by simp only; omega) ⟨rfl, rfl, rfl, rfl, rfl, rfl, rfl, rfl, rfl, rfl, rfl, rfl, rfl, rfl, rfl, rfl, rfl, rfl, rfl, rfl, rfl, rfl, rfl, rfl, rfl, rfl, rfl, rfl, rfl, rfl, rfl, rfl, rfl, rfl, rfl, rfl, rfl, rfl, rfl, rfl, rfl, (by first | rfl | exact ksub rfl (by first | omega | (simp; done) | (simp; omega))), trivial⟩ (fun _ s => s)
            · refine wp_ex (qs_x (qs_x (qs_bx (qs_bn (qs_n (wp_sq (sq_v rfl (v_move rfl) rfl ?_))))))); refine sq_v rfl (v_add rfl rfl ((by unfold I64; omega))) rfl ?_; refine sq_v rfl (v_assign rfl) rfl (sq_end ?_); exact qs_bk (m + 1, lh) ⟨by (try dsimp only); omega, by (try dsimp only); rw [ptI_yes (by rw [e39, e51]; exact meetB_true.1 c55)]; rw [show z = (ptO ts i).length by omega] at q; exact q⟩ (by simp only; omega) ⟨rfl, rfl, rfl, rfl, rfl, (by first | rfl | exact ksub rfl (by first | omega | (simp; done) | (simp; omega))), rfl, rfl, rfl, rfl, rfl, rfl, trivial⟩ (fun _ s => s)
        · refine wp_ex (qs_x (qs_x (qs_bx (qs_bn (qs_n (wp_sq ?_)))))); refine sq_v rfl (v_add rfl rfl ((by unfold I64; omega))) rfl ?_; refine sq_v rfl (v_move rfl) rfl (sq_end ?_); exact qs_bk (i + 1, lh) ⟨by (try dsimp only); omega, by (try dsimp only); rw [ptO]; rw [show m = i by omega] at q; exact q⟩ (by simp only; omega) ⟨rfl, rfl, rfl, rfl, rfl, (by first | rfl | exact ksub rfl (by first | omega | (simp; done) | (simp; omega))), trivial⟩ (fun _ s => s.pick [1, 2, 3] (by decide) rfl)
      · refine wp_ex (qs_x (qs_x (qs_bx (qs_n (wp_sc (wp_sq (sq_v rfl (v_assign rfl) rfl (sq_end (qs_n (wp_sc (wp_sc (wp_sq (sq_v rfl (v_move rfl) rfl (sq_v rfl (v_len Tryz.underlying25 rfl q.toR.sl) rfl (sq_v rfl (v_move rfl) rfl (sq_end (qs_n (wp_bl ?_)))))))))))))))))); refine wp_lp (σ := Nat × Value × PH × (List Value) × PH) (fun z_ => [(2, .slice none 0 0), (3, v22), (11, z_.2.1), (92, num (ptO ts i).length), (93, num z_.1)]) (fun z_ => [z_.2.2.2.2, z_.2.2.1, lh, box b1 [num k, num p, num n, vt, vo] 40, hp w]) (fun z_ => z_.1 ≤ ts.length ∧ OwnH (partsTo ts z_.1) z_.2.2.2.1 z_.2.2.2.2 ∧ RowO (25) z_.2.2.2.1 (partsTo ts z_.1).length 1 z_.2.1 z_.2.2.1) (fun z_ => ts.length - z_.1) (0, .slice none 0 0, emp, [], emp) (⟨by (try dsimp only); omega, OwnH.nil, RowO.nil⟩) ⟨rfl, rfl, (by first | rfl | exact ksub rfl (by first | omega | (simp; done) | (simp; omega))), rfl, (by first | rfl | exact ksub rfl (by first | omega | (simp; done) | (simp; omega))), trivial⟩ (fun _ s => (emp_sat (emp_sat s))) ?_; rintro ⟨u, lo, ho, cs, hl⟩ ⟨hu, hlv, qo⟩; dsimp only at hu hlv qo ⊢; have hpq : ptO ts i = ptP ts := by rw [show i = ts.length by omega]; rfl
        have hpll := partsTo_len ts u; refine wp_sc (wp_sq (sq_v rfl (v_lss rfl rfl) rfl (sq_end (qs_n (wp_sc ?_))))); refine wp_cd rfl (fun c94 => ?_) (fun c94 => ?_)
        · refine wp_sk (qs_n (wp_sc (wp_bl (wp_sc (wp_sq (sq_v rfl (v_move rfl) rfl (sq_v rfl (v_assign rfl) rfl (sq_end (qs_n (wp_sc (wp_sq (sq_v rfl (v_assign rfl) rfl (sq_end (qs_n (wp_sc (wp_sc (wp_sq (sq_v rfl (v_move rfl) rfl (sq_v rfl (v_len Tryz.underlying25 rfl q.toR.sl) rfl (sq_v rfl (v_move rfl) rfl (sq_end (qs_n (wp_bl ?_))))))))))))))))))))))); refine wp_lp (σ := Nat × Value × PH) (fun z_ => [(2, .slice none 0 0), (3, v22), (11, lo), (12, num u), (13, z_.2.1), (92, num (ptO ts i).length), (93, num u), (94, .bool (decide ((u : Int) < (ptO ts i).length))), (95, num u), (96, v22), (97, num (ptO ts i).length), (98, num z_.1)]) (fun z_ => [z_.2.2, hl, ho, lh, box b1 [num k, num p, num n, vt, vo] 40, hp w]) (fun z_ => z_.1 ≤ ts.length ∧ ((partJ (ptP ts) u z_.1 = [] → z_.2.1 = .slice none 0 0)) ∧ IntsO (partJ (ptP ts) u z_.1) z_.2.1 z_.2.2) (fun z_ => ts.length - z_.1) (0, .slice none 0 0, emp) (⟨by (try dsimp only); omega, (fun _ => rfl), IntsO.nil⟩) ⟨rfl, rfl, rfl, rfl, (by first | rfl | exact ksub rfl (by first | omega | (simp; done) | (simp; omega))), rfl, rfl, rfl, rfl, rfl, rfl, (by first | rfl | exact ksub rfl (by first | omega | (simp; done) | (simp; omega))), trivial⟩ (fun _ s => (emp_sat s)) ?_; rintro ⟨j, ly, hy⟩ ⟨hj, hny, qy⟩; dsimp only at hj hny qy ⊢; have hle_qy := qy.toR.le; have hjl := partJ_len (ptP ts) u j; refine wp_sc (wp_sq (sq_v rfl (v_lss rfl rfl) rfl (sq_end (qs_n (wp_sc ?_))))); refine wp_cd rfl (fun c99 => ?_) (fun c99 => ?_)
          · refine wp_sk (qs_n (wp_sc (wp_bl (wp_sc (wp_sq (sq_v rfl (v_move rfl) rfl ?_)))))); refine sq_v rfl (v_idxI Tryz.underlying25 ty_3 rfl rfl q.toR (by first | omega | (simp; omega) | (simp only [List.length_append, List.length_cons, List.length_nil]; omega) | (rw [List.length_set]; omega)) (by first | omega | (simp; omega) | (simp only [List.length_append, List.length_cons, List.length_nil]; omega) | (rw [List.length_set]; omega))) rfl ?_; refine sq_v rfl (v_loadI (k := j) 3 ty_3 rfl rfl q.toR (by first | omega | (simp; omega) | (simp only [List.length_append, List.length_cons, List.length_nil]; omega) | (rw [List.length_set]; omega))) rfl ?_; refine sq_v rfl (v_assign rfl) rfl (sq_v rfl (v_assign rfl) rfl (sq_end (qs_n (wp_sc (wp_sq (sq_v rfl (v_move rfl) rfl (sq_v rfl (v_move rfl) rfl (sq_v rfl (v_eql rfl rfl) rfl (sq_end (qs_n ?_)))))))))); refine wp_cd rfl (fun c105 => ?_) (fun c105 => ?_)
            · refine wp_sq (sq_v rfl (v_move rfl) rfl (sq_v rfl (v_move rfl) rfl ?_)); refine sq_x rfl (x_buildS [num (j)] Tryz.underlying25 ty_3 (by decide) rfl rfl rfl (by decide) (by decide) (by intro v hv; simp at hv; rcases hv with rfl <;> rfl)) rfl ?_; intro v108 h108 (r108 : IntsO [j] v108 h108); refine sq_m 1 rfl rfl (m_appI 1 0 Tryz.underlying25 ty_3 rfl rfl rfl rfl qy rfl r108.toR (by first | omega | (simp; omega) | (simp only [List.length_append, List.length_cons, List.length_nil]; omega) | (rw [List.length_set]; omega))) rfl ?_; intro v109 h_r109 r109; refine sq_v rfl (v_assign rfl) rfl (sq_end (qs_bn (qs_n (wp_sq ?_)))); refine sq_v rfl (v_add rfl rfl ((by unfold I64; omega))) rfl ?_; refine sq_v rfl (v_move rfl) rfl (sq_end ?_); exact qs_bk (j + 1, v109, h_r109) ⟨by (try dsimp only); omega, (fun e => by rw [partJ_yes (by rw [← hpq]; exact c105)] at e; simp at e), by (try dsimp only); rw [partJ_yes (by rw [← hpq]; exact c105)]; exact r109⟩ (by simp only; omega) ⟨rfl, rfl, rfl, rfl, (by first | rfl | exact ksub rfl (by first | omega | (simp; done) | (simp; omega))), rfl, rfl, rfl, rfl, rfl, rfl, (by first | rfl | exact ksub rfl (by first | omega | (simp; done) | (simp; omega))), trivial⟩ (fun _ s => s.pick [1, 2, 3, 4, 5, 6] (by decide) rfl)
            · refine wp_sk (qs_bn (qs_n (wp_sq ?_))); refine sq_v rfl (v_add rfl rfl ((by unfold I64; omega))) rfl ?_; refine sq_v rfl (v_move rfl) rfl (sq_end ?_); exact qs_bk (j + 1, ly, hy) ⟨by (try dsimp only); omega, (fun e => hny (by rw [partJ_no (by rw [← hpq]; exact c105)] at e; exact e)), by (try dsimp only); rw [partJ_no (by rw [← hpq]; exact c105)]; exact qy⟩ (by simp only; omega) ⟨rfl, rfl, rfl, rfl, (by first | rfl | exact ksub rfl (by first | omega | (simp; done) | (simp; omega))), rfl, rfl, rfl, rfl, rfl, rfl, (by first | rfl | exact ksub rfl (by first | omega | (simp; done) | (simp; omega))), trivial⟩ (fun _ s => s)
          · refine wp_ex (qs_x (qs_x (qs_bx (qs_n (wp_sc (wp_sq (sq_v rfl (v_move rfl) rfl (sq_v rfl (v_neqNil Tryz.underlying25 rfl rfl qy.toR hny) rfl (sq_end (qs_n ?_)))))))))); refine wp_cd rfl (fun c112 => ?_) (fun c112 => ?_)
            · refine wp_sq (sq_v rfl (v_move rfl) rfl (sq_v rfl (v_move rfl) rfl ?_)); refine sq_x rfl (x_build1 qy.toR.sl Tryz.underlying55 ty_25 rfl) rfl ?_; intro v115 h115 r115; refine sq_m 3 rfl rfl (m_append 3 0 Tryz.underlying55 ty_25 rfl rfl (by decide) rfl rfl rfl qo rfl r115.toR (by simp [qy.toR.sl.one]) (by unfold maxLen; omega) (by omega)) rfl ?_; intro v116 h_r116 r116; refine sq_v rfl (v_assign rfl) rfl (sq_end (qs_bn (qs_n (wp_sq ?_)))); refine sq_v rfl (v_add rfl rfl ((by unfold I64; omega))) rfl ?_; refine sq_v rfl (v_move rfl) rfl (sq_end ?_); refine qs_dj 2 1 rfl rfl rfl (fun hdj => ?_); have ej : j = ts.length := by omega
              subst ej; exact qs_bk (u + 1, v116, h_r116, cs ++ [ly], PUn hl hy) ⟨by (try dsimp only); omega, by (try dsimp only); rw [partsTo_yes c112]; exact hlv.add qy hdj, by (try dsimp only); rw [partsTo_yes c112, List.length_append]; exact r116⟩ (by simp only; omega) ⟨rfl, rfl, (by first | rfl | exact ksub rfl (by first | omega | (simp; done) | (simp; omega))), rfl, (by first | rfl | exact ksub rfl (by first | omega | (simp; done) | (simp; omega))), trivial⟩ (fun _ s => Sat.merge (s.pick [2, 1, 3, 4, 5, 6] (by decide) rfl))
            · refine wp_sk (qs_bn (qs_n (wp_sq ?_))); refine sq_v rfl (v_add rfl rfl ((by unfold I64; omega))) rfl ?_; refine sq_v rfl (v_move rfl) rfl (sq_end ?_); have ej : j = ts.length := by omega
              subst ej; have hne := Classical.not_not.1 c112; exact qs_bk (u + 1, lo, ho, cs, hl) ⟨by (try dsimp only); omega, by (try dsimp only); rw [partsTo_no hne]; exact hlv, by (try dsimp only); rw [partsTo_no hne]; exact qo⟩ (by simp only; omega) ⟨rfl, rfl, (by first | rfl | exact ksub rfl (by first | omega | (simp; done) | (simp; omega))), rfl, (by first | rfl | exact ksub rfl (by first | omega | (simp; done) | (simp; omega))), trivial⟩ (fun _ s => s.pick [1, 2, 3, 4, 5] (by decide) rfl)
        · refine wp_ex (qs_x (qs_x (qs_bx (qs_n (wp_sc (wp_sq (sq_v rfl (v_move rfl) rfl (sq_v rfl (v_assign rfl) rfl (sq_end (qs_n (wp_rt ?_))))))))))); have eu : u = ts.length := by omega
          subst eu; refine qs_close [hp w] [ho, hl] (fun _ s => s.pick [4, 1, 0] (by decide) rfl) (fun md => ?_); exact qs_ret1 rfl rfl (fin_t 0 (i := 1) rfl rfl rfl (LLO.of qo hlv md))
end Go.Proofs.YthlmjnihihbckaaGreat
namespace Go.Proofs.YthlmjnihihbckaaGreat
set_option maxRecDepth 100000
open Go.RowKit
theorem TensL.drop {us : List Ten} {cs : List Value} {h : PH} (hT : TensL us cs h) (m : Nat) (hm : m ≤ us.length) : TensL (us.drop m) (cs.drop (m * 3)) h := by
  refine ⟨by rw [List.length_drop, List.length_drop, hT.1]; omega, fun i t e => ?_⟩; rw [List.getElem?_drop] at e; have := hT.2 (m + i) t e; rw [List.drop_drop, show m * 3 + i * 3 = (m + i) * 3 by omega]; exact this
end Go.Proofs.YthlmjnihihbckaaGreat
namespace Go.Proofs.YthlmjnihihbckaaGreat
set_option maxRecDepth 100000
open Go.RowKit
section
variable {k p n : Int} {ts : List Ten} {op ls : List Int}
end
/-- A slice of rows of which nothing is wanted by itself. -/
structure Row0 : Prop where
theorem Row0.at (_ : Row0) : ∃ _ _ : Unit, True := ⟨(), (), trivial⟩
theorem TensL.append {a b : List Ten} {ca cb : List Value} {h : PH} (ra : TensL a ca h) (rb : TensL b cb h) : TensL (a ++ b) (ca ++ cb) h := by
  refine ⟨by rw [List.length_append, List.length_append, ra.1, rb.1]; omega, fun i t e => ?_⟩
  by_cases hi : i < a.length
  · rw [List.getElem?_append_left hi] at e; have := ra.2 i t e; have e2 : ((ca ++ cb).drop (i * 3)).take 3 = (ca.drop (i * 3)).take 3 := by
      rw [List.drop_append, List.take_append]; have hl : 3 - (ca.drop (i * 3)).length = 0 := by rw [List.length_drop, ra.1]; omega
      rw [hl, List.take_zero, List.append_nil]
    rw [e2]; exact this
  · rw [List.getElem?_append_right (by omega)] at e; have := rb.2 _ t e; have e2 : ((ca ++ cb).drop (i * 3)).take 3 = (cb.drop ((i - a.length) * 3)).take 3 := by
      rw [List.drop_append, List.drop_of_length_le (by rw [ra.1]; omega), List.nil_append, ra.1, show i * 3 - a.length * 3 = (i - a.length) * 3 by omega]
    rw [e2]; exact this
theorem tensL_of {us : List Ten} {cs : List Value} {v : Value} {h h' : PH} (rr : RowR cs us.length 3 v h') (hc : ∀ i, i < us.length → ∃ t a b c, us[i]? = some t ∧ (cs.drop (i * 3)).take 3 = [a, b, c] ∧ IntsR t.l a h ∧ IntsR t.d b h ∧ IntsR t.x c h) : TensL us cs h :=
  ⟨rr.1, fun i t e => by
    obtain ⟨u, a, b, c, e1, e2, r1, r2, r3⟩ := hc i (List.getElem?_eq_some_iff.1 e).1; rw [e] at e1
    cases e1
    exact ⟨a, b, c, e2, r1, r2, r3⟩⟩
end Go.Proofs.YthlmjnihihbckaaGreat
namespace Go.Proofs.YthlmjnihihbckaaGreat
set_option maxRecDepth 100000
open Go.RowKit
structure Opr where
  k : Int
  a : Int
  b : Int
  c : Int
  l : List Int
def OpR (o : Opr) (cs : List Value) (h : PH) : Prop := ∃ v, cs = [num o.k, num o.a, num o.b, num o.c, v] ∧ IntsR o.l v h
theorem OpR.mono {o : Opr} {cs : List Value} {h h' : PH} (r : OpR o cs h) (l : PLe h h') : OpR o cs h' := by
  obtain ⟨v, e, r1⟩ := r; exact ⟨v, e, r1.mono l⟩
def OpsR (os : List Opr) (v : Value) (h : PH) : Prop := RowsR 5 OpR os v h
theorem OpsR.mono {os : List Opr} {v : Value} {h h' : PH} (r : OpsR os v h) (l : PLe h h') : OpsR os v h' := RowsR.mono (R := OpR) OpR.mono r l
theorem OpsR.sl {os : List Opr} {v : Value} {h : PH} (r : OpsR os v h) : SlL v os.length := RowsR.sl r
theorem OpsR.le {os : List Opr} {v : Value} {h : PH} (r : OpsR os v h) : (os.length : Int) ≤ 9223372036854775807 := RowsR.le r
theorem OpsR.at {os : List Opr} {v : Value} {h : PH} (r : OpsR os v h) : ∃ cells, RowR cells os.length 5 v h ∧ ∀ i, i < os.length → ∃ o a, os[i]? = some o ∧ (cells.drop (i * 5)).take 5 = [num o.k, num o.a, num o.b, num o.c, a] ∧ IntsR o.l a h := by
  obtain ⟨cells, rr, hc⟩ := r; refine ⟨cells, rr, fun i hi => ?_⟩; have ht : os[i]? = some os[i] := List.getElem?_eq_getElem hi; obtain ⟨a, e, r1⟩ := hc i _ ht; exact ⟨_, a, ht, e, r1⟩
theorem OpsR.subH {os : List Opr} {v : Value} {h : PH} (r : OpsR os v h) {hi : Nat} (h2 : hi ≤ os.length) : OpsR (os.take hi) (subV v 0 hi 5) h := by
  obtain ⟨cells, rr, hc⟩ := r; have := RowR.sub rr (Nat.zero_le hi) h2; refine ⟨_, by rw [List.length_take, Nat.min_eq_left h2]; simpa using this, fun i x hx => ?_⟩; have hlt : i < hi := by
    have := (List.getElem?_eq_some_iff.1 hx).1
    simp at this; omega
  have hx' : os[i]? = some x := by rwa [List.getElem?_take, if_pos hlt] at hx
  have := hc i x hx'; have e : ((cells.take ((hi - 0) * 5)).drop (i * 5)).take 5 = (cells.drop (i * 5)).take 5 := by
    rw [List.drop_take, List.take_take]
    congr 1
    omega
  show OpR x (((((cells.drop (0 * 5)).take ((hi - 0) * 5))).drop (i * 5)).take 5) h
  rw [Nat.zero_mul, List.drop_zero, e]; exact this
structure OpL (os : List Opr) (cs : List Value) (hs : List PH) : Prop where
  l1 : cs.length = os.length * 5
  l2 : hs.length = os.length
  own : ∀ (i : Nat) (o : Opr), os[i]? = some o → ∃ v h, (cs.drop (i * 5)).take 5 = [num o.k, num o.a, num o.b, num o.c, v] ∧ hs[i]? = some h ∧ IntsO o.l v h
theorem OpL.nil : OpL [] [] [] := ⟨rfl, rfl, fun i xs h => by simp at h⟩
theorem OpL.snoc {os : List Opr} {cs : List Value} {hs : List PH} (r : OpL os cs hs) {o : Opr} {v : Value} {h : PH} (q : IntsO o.l v h) : OpL (os ++ [o]) (cs ++ [num o.k, num o.a, num o.b, num o.c, v]) (hs ++ [h]) := by
  refine ⟨by simp [r.l1]; omega, by simp [r.l2], fun i y e => ?_⟩
  by_cases hi : i < os.length
  · rw [List.getElem?_append_left hi] at e; have e2 : ((cs ++ [num o.k, num o.a, num o.b, num o.c, v]).drop (i * 5)).take 5 = (cs.drop (i * 5)).take 5 := by
      rw [List.drop_append, List.take_append]; have hl : 5 - (cs.drop (i * 5)).length = 0 := by simp [r.l1]; omega
      rw [hl, List.take_zero, List.append_nil]
    rw [e2, List.getElem?_append_left (by rw [r.l2]; exact hi)]; exact r.own i y e
  · have hlt := (List.getElem?_eq_some_iff.1 e).1
    simp at hlt
    have : i = os.length := by omega
    subst this; rw [List.getElem?_append_right (by omega)] at e
    simp at e
    subst e; refine ⟨v, h, ?_, ?_, q⟩
    · rw [← r.l1, List.drop_left]; rfl
    · rw [← r.l2, List.getElem?_append_right (by omega)]; simp
/-- Operations that own their parts. -/
def OpsO (os : List Opr) (v : Value) (h : PH) : Prop := ∃ cs h0 hs, RowO 99 cs os.length 5 v h0 ∧ OpL os cs hs ∧ Made h (h0 :: hs)
theorem OpsO.toR {os : List Opr} {v : Value} {h : PH} (r : OpsO os v h) : OpsR os v h := by
  obtain ⟨cs, h0, hs, r0, o, m⟩ := r; refine ⟨cs, r0.toR.mono (m.le h0 (by simp)), fun i x hx => ?_⟩; obtain ⟨u, g, e, hg, q⟩ := o.own i x hx; exact ⟨u, e, q.toR.mono (m.le g (by simp [List.mem_of_getElem? hg]))⟩
end Go.Proofs.YthlmjnihihbckaaGreat
namespace Go.Proofs.YthlmjnihihbckaaGreat
set_option maxRecDepth 100000
open Go.RowKit
structure Mach where
  S : List Ten
  F : List Bool
  D : List Bool
/-- A register's labels. -/
def Mach.ten (s : Mach) (i : Nat) : Ten := s.S.getD i noTen
def Mach.lab (s : Mach) (i : Nat) : List Int := if s.F.getD i false = true then (s.ten i).l else []
def tenF (f : Int → Int) (t : Ten) : Prop := t.d = t.l.map f ∧ t.l.Nodup ∧ (∀ x ∈ t.l, 0 ≤ x ∧ x ≤ 99) ∧ ∀ x ∈ t.l, 1 ≤ f x ∧ f x ≤ 8
theorem tenF.few {f : Int → Int} {t : Ten} (h : tenF f t) : t.l.length ≤ 100 := few_labels h.2.1 h.2.2.1
theorem tenF_no (f : Int → Int) : tenF f noTen := ⟨rfl, List.nodup_nil, fun x h => (List.not_mem_nil h).elim, fun x h => (List.not_mem_nil h).elim⟩
structure Mach.ok (f : Int → Int) (s : Mach) : Prop where
  len : s.S.length = s.F.length
  ten : ∀ t ∈ s.S, tenF f t
theorem Mach.ok.at {f : Int → Int} {s : Mach} (h : s.ok f) (i : Nat) : tenF f (s.ten i) := by
  unfold Mach.ten
  by_cases hi : i < s.S.length
  · have : s.S.getD i noTen = s.S[i] := by simp [List.getD, hi]
    rw [this]; exact h.ten _ (List.getElem_mem hi)
  · have : s.S.getD i noTen = noTen := by simp [List.getD, Nat.le_of_not_lt hi]
    rw [this]; exact tenF_no f
def regIn (s : Mach) (a : Int) : Prop := 0 ≤ a ∧ a < s.F.length
instance (s : Mach) (a : Int) : Decidable (regIn s a) := by unfold regIn; infer_instance
noncomputable def keepI (s : Mach) (o : Opr) : List Int := (joinI (s.ten o.b.toNat).l (s.ten o.c.toNat).l).filter fun x => decide (x ∈ o.l)
noncomputable def Mach.load (ts : List Ten) (s : Mach) (o : Opr) : Mach := ⟨s.S.set o.a.toNat (ts.getD o.b.toNat noTen), s.F.set o.a.toNat true, s.D.set o.b.toNat true⟩
noncomputable def Mach.pair (f : Int → Int) (s : Mach) (o : Opr) : Mach := ⟨s.S.set o.a.toNat ⟨keepI s o, (keepI s o).map f, []⟩, ((s.F.set o.b.toNat false).set o.c.toNat false).set o.a.toNat true, s.D⟩
noncomputable def Mach.next (f : Int → Int) (ts : List Ten) (s : Mach) (o : Opr) : Mach := if o.k = 1 then s.load ts o else s.pair f o
theorem set_ok {f : Int → Int} {S : List Ten} (h : ∀ t ∈ S, tenF f t) {i : Nat} {t : Ten} (ht : tenF f t) : ∀ u ∈ S.set i t, tenF f u := fun u hu => by
  rcases List.mem_or_eq_of_mem_set hu with hu | rfl
  · exact h u hu
  · exact ht
theorem keepI_ok {f : Int → Int} {s : Mach} (h : s.ok f) (o : Opr) : tenF f ⟨keepI s o, (keepI s o).map f, []⟩ := by
  have hb := h.at o.b.toNat; have hc := h.at o.c.toNat; have hm : ∀ x ∈ keepI s o, x ∈ (s.ten o.b.toNat).l ∨ x ∈ (s.ten o.c.toNat).l := fun x hx => mem_joinI.1 (List.mem_filter.1 hx).1; exact ⟨rfl, List.Pairwise.filter _ (joinI_nodup hb.2.1 hc.2.1), fun x hx => (hm x hx).elim (hb.2.2.1 x) (hc.2.2.1 x), fun x hx => (hm x hx).elim (hb.2.2.2 x) (hc.2.2.2 x)⟩
theorem Mach.ok.next {f : Int → Int} {ts : List Ten} {s : Mach} (h : s.ok f) (hts : ∀ t ∈ ts, tenF f t) (o : Opr) : (s.next f ts o).ok f := by
  unfold Mach.next
  split
  · refine ⟨by simp [Mach.load, h.len], set_ok h.ten ?_⟩
    by_cases hi : o.b.toNat < ts.length
    · have e : ts.getD o.b.toNat noTen = ts[o.b.toNat] := by simp [List.getD, hi]
      rw [e]; exact hts _ (List.getElem_mem hi)
    · have e : ts.getD o.b.toNat noTen = noTen := by simp [List.getD, Nat.le_of_not_lt hi]
      rw [e]; exact tenF_no f
  · exact ⟨by simp [Mach.pair, h.len], set_ok h.ten (keepI_ok h o)⟩
theorem net_tenF {k p n : Int} {ts : List Ten} {op : List Int} (h : netL k p n ts op) : ∀ t ∈ ts, tenF (dimOf ts) t := fun t ht => by
  have hax := net_axes h t ht; refine ⟨net_dmap h t ht, axes_nodup hax, fun x hx => by obtain ⟨j, hj, e⟩ := getD_of_mem hx; have := (hax.2.2 j hj).1; rw [e] at this; exact this, fun x hx => ?_⟩; rw [net_dim h ht hx]; exact (hax.2.2 _ (findI_get hx).1).2.1
end Go.Proofs.YthlmjnihihbckaaGreat
namespace Go.Proofs.YthlmjnihihbckaaGreat
set_option maxRecDepth 100000
open Go.RowKit
structure MaR (s : Mach) (vs vf vd : Value) (b : Nat) (h : PH) : Prop where
  c0 : cellP h b 0 = some vs
  c1 : cellP h b 1 = some vf
  c2 : cellP h b 2 = some vd
  S : TensR s.S vs h
  F : BoolsR s.F vf h
  D : BoolsR s.D vd h
def MaO (s : Mach) (bb : Nat) (h q : PH) : Prop :=
  ∃ vs vf vd h0 hf hd hs cs, RowO 34 cs s.S.length 3 vs h0 ∧ BoolsO s.F vf hf ∧ BoolsO s.D vd hd ∧ TensL s.S cs (PUn hs q) ∧ Made h [box bb [vs, vf, vd] 163, h0, hf, hd, hs]
theorem TensL.blank (h : PH) : ∀ m, TensL (List.replicate m noTen) (List.replicate m [Value.slice none 0 0, .slice none 0 0, .slice none 0 0]).flatten h
  | 0 => TensL.nil h
  | m + 1 => by
    have := (TensL.blank h m).snoc (t := noTen) (IntsR.nil h) (IntsR.nil h) (IntsR.nil h); rw [← List.replicate_succ'] at this; rw [show (List.replicate (m + 1) [Value.slice none 0 0, .slice none 0 0, .slice none 0 0]).flatten = (List.replicate m [Value.slice none 0 0, .slice none 0 0, .slice none 0 0]).flatten ++ [Value.slice none 0 0, .slice none 0 0, .slice none 0 0] by rw [List.replicate_succ', List.flatten_append]; simp]; exact this
theorem TensL.put {ts : List Ten} {cs : List Value} {h : PH} (r : TensL ts cs h) {i : Nat} {t : Ten} {a b c : Value} (hi : i < ts.length) (r1 : IntsR t.l a h) (r2 : IntsR t.d b h) (r3 : IntsR t.x c h) : TensL (ts.set i t) (cs.take (i * 3) ++ [a, b, c] ++ cs.drop (i * 3 + 3)) h := by
  have hl := r.1; have key : ∀ m, (m < i * 3 ∨ i * 3 + 3 ≤ m) → (cs.take (i * 3) ++ [a, b, c] ++ cs.drop (i * 3 + 3))[m]? = cs[m]? := fun m hm => by
    rcases hm with hm | hm
    · rw [List.append_assoc, List.getElem?_append_left (by simp; omega), List.getElem?_take, if_pos hm]
    · rw [List.getElem?_append_right (by simp; omega)]; simp only [List.length_append, List.length_take, List.length_cons, List.length_nil, List.getElem?_drop]
      congr 1
      omega
  refine ⟨by simp [hl]; omega, fun j y e => ?_⟩
  by_cases hj : j = i
  · subst hj; rw [List.getElem?_set_self hi] at e
    cases e
    have e2 : ((cs.take (j * 3) ++ [a, b, c] ++ cs.drop (j * 3 + 3)).drop (j * 3)).take 3 = [a, b, c] := by
      have e3 : (cs.take (j * 3)).length = j * 3 := by simp; omega
      rw [List.append_assoc, List.drop_append, e3, Nat.sub_self, List.drop_of_length_le (by omega), List.nil_append, List.drop_zero]
      rfl
    rw [e2]; exact ⟨a, b, c, rfl, r1, r2, r3⟩
  · rw [List.getElem?_set_ne (Ne.symm hj)] at e; have e2 : ((cs.take (i * 3) ++ [a, b, c] ++ cs.drop (i * 3 + 3)).drop (j * 3)).take 3 = (cs.drop (j * 3)).take 3 := by
      apply List.ext_getElem?
      intro m; rw [List.getElem?_take, List.getElem?_take]
      split
      · rw [List.getElem?_drop, List.getElem?_drop, key _ (by omega)]
      · rfl
    rw [e2]; exact r.2 j y e
theorem MaR.of {s : Mach} {vs vf vd : Value} {bb : Nat} {h h0 hf hd X : PH} {cs : List Value} (hb : PLe (box bb [vs, vf, vd] 163) h) (ra : RowO 34 cs s.S.length 3 vs h0) (la : PLe h0 h) (rt : TensL s.S cs X) (lx : PLe X h) (rf : BoolsO s.F vf hf) (lf : PLe hf h) (rd : BoolsO s.D vd hd) (ld : PLe hd h) : MaR s vs vf vd bb h :=
  ⟨cellP.mono hb (by rw [cellP_box]; rfl), cellP.mono hb (by rw [cellP_box]; rfl), cellP.mono hb (by rw [cellP_box]; rfl), (rt.mono lx).tens (ra.toR.mono la), rf.toR.mono lf, rd.toR.mono ld⟩
end Go.Proofs.YthlmjnihihbckaaGreat
namespace Go.Proofs.YthlmjnihihbckaaGreat
set_option maxRecDepth 100000
open Go.RowKit
structure Reg where
  f : Bool
  l : List Int
def RegR (x : Reg) (cs : List Value) (h : PH) : Prop := ∃ v, cs = [.bool x.f, v] ∧ IntsR x.l v h
theorem RegR.mono {x : Reg} {cs : List Value} {h h' : PH} (r : RegR x cs h) (l : PLe h h') : RegR x cs h' := by
  obtain ⟨v, e, r1⟩ := r; exact ⟨v, e, r1.mono l⟩
def RegsR (xs : List Reg) (v : Value) (h : PH) : Prop := RowsR 2 RegR xs v h
theorem RegsR.mono {xs : List Reg} {v : Value} {h h' : PH} (r : RegsR xs v h) (l : PLe h h') : RegsR xs v h' := RowsR.mono (R := RegR) RegR.mono r l
theorem RegsR.sl {xs : List Reg} {v : Value} {h : PH} (r : RegsR xs v h) : SlL v xs.length := RowsR.sl r
theorem RegsR.le {xs : List Reg} {v : Value} {h : PH} (r : RegsR xs v h) : (xs.length : Int) ≤ 9223372036854775807 := RowsR.le r
theorem RegsR.at {xs : List Reg} {v : Value} {h : PH} (r : RegsR xs v h) : ∃ cells, RowR cells xs.length 2 v h ∧ ∀ i, i < xs.length → ∃ x a, xs[i]? = some x ∧ (cells.drop (i * 2)).take 2 = [.bool x.f, a] ∧ IntsR x.l a h := by
  obtain ⟨cells, rr, hc⟩ := r; refine ⟨cells, rr, fun i hi => ?_⟩; have ht : xs[i]? = some xs[i] := List.getElem?_eq_getElem hi; obtain ⟨a, e, r1⟩ := hc i _ ht; exact ⟨_, a, ht, e, r1⟩
def Mach.regs (s : Mach) : List Reg := (List.range s.F.length).map fun i => ⟨s.F.getD i false, s.lab i⟩
theorem regs_len (s : Mach) : s.regs.length = s.F.length := by simp [Mach.regs]
abbrev mcCells (k p n : Int) (vt vo vr vd : Value) : List Value := [num k, num p, num n, vt, vo, vr, vd]
structure McR (k p n : Int) (s : Mach) (vt vo vr vd : Value) (b : Nat) (h : PH) : Prop where
  c : ∀ (j : Nat) (u : Value), (mcCells k p n vt vo vr vd)[j]? = some u → cellP h b j = some u
  r : RegsR s.regs vr h
  d : BoolsR s.D vd h
theorem McR.mono {k p n : Int} {s : Mach} {vt vo vr vd : Value} {b : Nat} {h h' : PH} (m : McR k p n s vt vo vr vd b h) (l : PLe h h') : McR k p n s vt vo vr vd b h' := ⟨fun j u e => cellP.mono l (m.c j u e), m.r.mono l, m.d.mono l⟩
def goodL (l : List Int) : Prop := l.Nodup ∧ ∀ y ∈ l, 0 ≤ y ∧ y ≤ 99
theorem goodL.few {l : List Int} (h : goodL l) : l.length ≤ 100 := few_labels h.1 h.2
theorem goodL.join {a b : List Int} (ha : goodL a) (hb : goodL b) : goodL (joinI a b) := ⟨joinI_nodup ha.1 hb.1, fun y hy => (mem_joinI.1 hy).elim (ha.2 y) (hb.2 y)⟩
end Go.Proofs.YthlmjnihihbckaaGreat
namespace Go.Proofs.YthlmjnihihbckaaGreat
set_option maxRecDepth 100000
open Go.RowKit
def RegL (xs : List Reg) (cs : List Value) (h : PH) : Prop := cs.length = xs.length * 2 ∧ ∀ (i : Nat) (x : Reg), xs[i]? = some x → RegR x ((cs.drop (i * 2)).take 2) h
theorem RegL.mono {xs : List Reg} {cs : List Value} {h h' : PH} (r : RegL xs cs h) (l : PLe h h') : RegL xs cs h' := ⟨r.1, fun i x e => (r.2 i x e).mono l⟩
theorem RegL.regs {xs : List Reg} {cs : List Value} {v : Value} {h : PH} (r : RegL xs cs h) (rr : RowR cs xs.length 2 v h) : RegsR xs v h := ⟨cs, rr, r.2⟩
theorem RegL.blank (r : Nat) (h : PH) : RegL (List.replicate r ⟨false, []⟩) (List.replicate r [Value.bool false, .slice none 0 0]).flatten h := by
  have hl : ∀ l ∈ List.replicate r [Value.bool false, .slice none 0 0], l.length = 2 := fun l hl => by rw [List.eq_of_mem_replicate hl]; rfl
  refine ⟨by rw [flat_length hl]; simp, fun i x hx => ?_⟩; have e : x = ⟨false, []⟩ := List.eq_of_mem_replicate (List.mem_of_getElem? hx); have hi := (List.getElem?_eq_some_iff.1 hx).1; rw [List.length_replicate] at hi; rw [flat_get hl (l := [Value.bool false, .slice none 0 0]) (by simp [hi]), e]; exact ⟨_, rfl, IntsR.nil _⟩
theorem RegL.put {xs : List Reg} {cs : List Value} {h : PH} (r : RegL xs cs h) {i : Nat} {b : Bool} {l : List Int} {v : Value} (hi : i < xs.length) (r1 : IntsR l v h) : RegL (xs.set i ⟨b, l⟩) (cs.take (i * 2) ++ [.bool b, v] ++ cs.drop (i * 2 + 2)) h := by
  have hl := r.1; have key : ∀ m, (m < i * 2 ∨ i * 2 + 2 ≤ m) → (cs.take (i * 2) ++ [.bool b, v] ++ cs.drop (i * 2 + 2))[m]? = cs[m]? := fun m hm => by
    rcases hm with hm | hm
    · rw [List.append_assoc, List.getElem?_append_left (by simp; omega), List.getElem?_take, if_pos hm]
    · rw [List.getElem?_append_right (by simp; omega)]; simp only [List.length_append, List.length_take, List.length_cons, List.length_nil, List.getElem?_drop]
      congr 1
      omega
  refine ⟨by simp [hl]; omega, fun j y e => ?_⟩
  by_cases hj : j = i
  · subst hj; rw [List.getElem?_set_self hi] at e
    cases e
    have e2 : ((cs.take (j * 2) ++ [.bool b, v] ++ cs.drop (j * 2 + 2)).drop (j * 2)).take 2 = [.bool b, v] := by
      have e3 : (cs.take (j * 2)).length = j * 2 := by simp; omega
      rw [List.append_assoc, List.drop_append, e3, Nat.sub_self, List.drop_of_length_le (by omega), List.nil_append, List.drop_zero]
      rfl
    rw [e2]; exact ⟨v, rfl, r1⟩
  · rw [List.getElem?_set_ne (Ne.symm hj)] at e; have e2 : ((cs.take (i * 2) ++ [.bool b, v] ++ cs.drop (i * 2 + 2)).drop (j * 2)).take 2 = (cs.drop (j * 2)).take 2 := by
      apply List.ext_getElem?
      intro m; rw [List.getElem?_take, List.getElem?_take]
      split
      · rw [List.getElem?_drop, List.getElem?_drop, key _ (by omega)]
      · rfl
    rw [e2]; exact r.2 j y e
def McO (k p n : Int) (vt vo : Value) (s : Mach) (bb : Nat) (h q : PH) : Prop :=
  ∃ vr vd hr hd hs cs, RowO 215 cs s.F.length 2 vr hr ∧ BoolsO s.D vd hd ∧ RegL s.regs cs (PUn hs q) ∧ Made h [box bb (mcCells k p n vt vo vr vd) 212, hr, hd, hs]
theorem McR.of {k p n : Int} {vt vo : Value} {s : Mach} {vr vd : Value} {bb : Nat} {h hr hd X : PH} {cs : List Value} (hb : PLe (box bb (mcCells k p n vt vo vr vd) 212) h) (ra : RowO 215 cs s.F.length 2 vr hr) (la : PLe hr h) (rt : RegL s.regs cs X) (lx : PLe X h) (rd : BoolsO s.D vd hd) (ld : PLe hd h) : McR k p n s vt vo vr vd bb h :=
  ⟨fun j u e => cellP.mono hb (by rw [cellP_box]; exact e), (rt.mono lx).regs (by rw [regs_len]; exact ra.toR.mono la), rd.toR.mono ld⟩
theorem McO.read {k p n : Int} {vt vo : Value} {s : Mach} {bb : Nat} {h q : PH} (r : McO k p n vt vo s bb h q) : ∃ vr vd, ∀ H, PLe h H → PLe q H → McR k p n s vt vo vr vd bb H := by
  obtain ⟨vr, vd, hr, hd, hs, cs, ra, rd, rt, md⟩ := r; exact ⟨vr, vd, fun H l1 l2 => McR.of ((md.le _ (by simp)).trans l1) ra ((md.le hr (by simp)).trans l1) rt (PUn.le ((md.le hs (by simp)).trans l1) l2) rd ((md.le hd (by simp)).trans l1)⟩
theorem rep_false (r i : Nat) : (List.replicate r false).getD i false = false := by
  unfold List.getD
  cases h : (List.replicate r false)[i]? with
  | none => rfl
  | some x => exact List.eq_of_mem_replicate (List.mem_of_getElem? h)
end Go.Proofs.YthlmjnihihbckaaGreat
namespace Go.Proofs.YthlmjnihihbckaaGreat
set_option maxRecDepth 100000
open Go.RowKit
theorem MaO.bits {s : Mach} {bb : Nat} {h q : PH} (r : MaO s bb h q) : ∃ vf vd, cellP h bb 1 = some vf ∧ cellP h bb 2 = some vd ∧ BoolsR s.F vf h ∧ BoolsR s.D vd h := by
  obtain ⟨vs, vf, vd, h0, hf, hd, hs, cs, ra, rg, rd, rt0, md⟩ := r; have hb := md.le (box bb [vs, vf, vd] 163) (by simp); exact ⟨vf, vd, cellP.mono hb (by rw [cellP_box]; rfl), cellP.mono hb (by rw [cellP_box]; rfl), rg.toR.mono (md.le hf (by simp)), rd.toR.mono (md.le hd (by simp))⟩
end Go.Proofs.YthlmjnihihbckaaGreat
namespace Go.Proofs.YthlmjnihihbckaaGreat
set_option maxRecDepth 100000
open Go.RowKit
theorem net_goodL {k p n : Int} {ts : List Ten} {op : List Int} (h : netL k p n ts op) : goodL op := ⟨(net_open h).1, fun y hy => by
  obtain ⟨t, ht, hx⟩ := net_has h hy; exact (net_tenF h t ht).2.2.1 y hx⟩
end Go.Proofs.YthlmjnihihbckaaGreat
