/-
  Parts of the proof of FnBest: laws of heaps, contracts of functions.
  Conditions: none.
-/
import Derived.Test.YtiefkcaplhnnmaaGreatQFnBest5
namespace Go.Proofs.YtiefkcaplhnnmaaGreat
set_option maxRecDepth 100000
open Go.RowKit
theorem Made.join3 {h a b : PH} {l : List PH} (m : Made h (a :: b :: l)) : Made h [a, b, joinP l] := by
  have hs := m.sep; have hl : PLe (joinP l) h := fun k o e => by
    obtain ⟨y, hy, e'⟩ := joinP_dom e; exact m.le y (by simp [hy]) k o e'
  refine ⟨⟨fun x hx => ?_, fun x hx => ?_, fun x hx => by simp at hx, trivial⟩, fun x hx => ?_, fun k o e => ?_⟩
  · rcases List.mem_cons.1 hx with rfl | hx
    · exact hs.1 _ (by simp)
    · simp at hx; subst hx
      exact PDj.join fun y hy => hs.1 y (by simp [hy])
  · simp at hx; subst hx
    exact PDj.join fun y hy => hs.2.1 y hy
  · simp at hx
    rcases hx with rfl | rfl | rfl
    · exact m.le _ (by simp)
    · exact m.le _ (by simp)
    · exact hl
  · obtain ⟨x, hx, e'⟩ := m.dom k o e
    simp at hx
    rcases hx with rfl | rfl | hx
    · exact ⟨x, by simp, e'⟩
    · exact ⟨x, by simp, e'⟩
    · exact ⟨joinP l, by simp, PLe.join hs.2.2 x hx k o e'⟩
theorem Made.part3 {h a b c : PH} {l : List PH} (m : Made h [a, b, c]) (ml : Made c l) : Made h (a :: b :: l) := by
  have hs := m.sep; have hc : PLe c h := m.le c (by simp); refine ⟨⟨fun x hx => ?_, fun x hx => ?_, ml.sep⟩, fun x hx => ?_, fun k o e => ?_⟩
  · rcases List.mem_cons.1 hx with rfl | hx
    · exact hs.1 _ (by simp)
    · exact (((hs.1 c (by simp)).symm).mono (ml.le x hx)).symm
  · exact (((hs.2.1 c (by simp)).symm).mono (ml.le x hx)).symm
  · simp at hx
    rcases hx with rfl | rfl | hx
    · exact m.le _ (by simp)
    · exact m.le _ (by simp)
    · exact (ml.le x hx).trans hc
  · obtain ⟨x, hx, e'⟩ := m.dom k o e
    simp at hx
    rcases hx with rfl | rfl | rfl
    · exact ⟨x, by simp, e'⟩
    · exact ⟨x, by simp, e'⟩
    · obtain ⟨y, hy, e2⟩ := ml.dom k o e'; exact ⟨y, by simp [hy], e2⟩
theorem NetO.split {ts : List Ten} {op : List Int} {vt vo : Value} {h : PH} (r : NetO ts op vt vo h) : ∃ cs h0 ho hl, RowO 55 cs ts.length 3 vt h0 ∧ IntsO op vo ho ∧ OwnH (flat ts) cs hl ∧ Made h [h0, ho, hl] := by
  obtain ⟨cs, h0, ho, l, r0, r1, o, m⟩ := r; exact ⟨cs, h0, ho, joinP l, r0, r1, ⟨l, o, Made.join m.sep.2.2⟩, m.join3⟩
theorem NetO.join {ts : List Ten} {op : List Int} {vt vo : Value} {h h0 ho hl : PH} {cs : List Value} (r0 : RowO 55 cs ts.length 3 vt h0) (r1 : IntsO op vo ho) (o : OwnH (flat ts) cs hl) (m : Made h [h0, ho, hl]) : NetO ts op vt vo h := by
  obtain ⟨l, o, ml⟩ := o; exact ⟨cs, h0, ho, l, r0, r1, o, m.part3 ml⟩
theorem OwnL.take {xss : List (List Int)} {vs : List Value} {l : List PH} (o : OwnL xss vs l) (n : Nat) : OwnL (xss.take n) (vs.take n) (l.take n) := by
  refine ⟨by simp [o.l1], by simp [o.l2], fun i xs h => ?_⟩; have hi : i < n := by
    rcases Nat.lt_or_ge i n with h' | h'
    · exact h'
    · rw [List.getElem?_take, if_neg (by omega)] at h; cases h
  rw [List.getElem?_take, if_pos hi] at h ⊢; rw [List.getElem?_take, if_pos hi]; exact o.own i xs h
theorem OwnL.drop {xss : List (List Int)} {vs : List Value} {l : List PH} (o : OwnL xss vs l) (n : Nat) : OwnL (xss.drop n) (vs.drop n) (l.drop n) := by
  refine ⟨by simp [o.l1], by simp [o.l2], fun i xs h => ?_⟩; rw [List.getElem?_drop] at h ⊢; rw [List.getElem?_drop]; exact o.own (n + i) xs h
theorem flat_take {ts : List Ten} {i : Nat} (h : i ≤ ts.length) : flat (ts.take i) = (flat ts).take (i * 3) ∧ flat (ts.drop i) = (flat ts).drop (i * 3) := by
  have e : flat ts = flat (ts.take i) ++ flat (ts.drop i) := by rw [← flat_append, List.take_append_drop]
  have hl : (flat (ts.take i)).length = i * 3 := by rw [flat_len, List.length_take, Nat.min_eq_left h]
  constructor
  · rw [e, List.take_left' hl]
  · rw [e, List.drop_left' hl]
theorem flat_set {ts : List Ten} {i : Nat} (h : i < ts.length) (u : Ten) : flat (ts.set i u) = (flat ts).take (i * 3) ++ [u.l, u.d, u.x] ++ (flat ts).drop (i * 3 + 3) := by
  rw [List.set_eq_take_append_cons_drop, if_pos h, flat_append, (flat_take (Nat.le_of_lt h)).1, show i * 3 + 3 = (i + 1) * 3 by omega, ← (flat_take (show i + 1 ≤ ts.length by omega)).2, List.append_assoc]
  rfl
theorem sep_mono {l l' : List PH} (h : sepL l) (hs : l'.Sublist l) : sepL l' := by
  induction hs with
  | slnil => exact trivial
  | cons x _ ih => exact ih h.2
  | cons_cons x s ih => exact ⟨fun y hy => h.1 y (s.subset hy), ih h.2⟩
theorem OwnH.set {ts : List Ten} {u : Ten} {cs : List Value} {a b c : Value} {h h' : PH} {i : Nat} (hi : i < ts.length) (o : OwnH (flat ts) cs h) (r : TriO u a b c h') (hd : PDj h h') :
    ∃ g, PLe g (PUn h h') ∧ OwnH (flat (ts.set i u)) (cs.take (i * 3) ++ [a, b, c] ++ cs.drop (i * 3 + 3)) g := by
  obtain ⟨l, ol, m⟩ := o; obtain ⟨h1, h2, h3, r1, r2, r3, m'⟩ := r; have hx : ∀ x ∈ l.take (i * 3) ++ [h1, h2, h3] ++ l.drop (i * 3 + 3), PLe x (PUn h h') := fun x hx => by
    simp only [List.mem_append] at hx
    rcases hx with (hx | hx) | hx
    · exact (m.le x (List.mem_of_mem_take hx)).trans (PLe.un_l _ _)
    · exact (m'.le x hx).trans (PLe.un_r hd)
    · exact (m.le x (List.mem_of_mem_drop hx)).trans (PLe.un_l _ _)
  have hab : ∀ x ∈ l, ∀ y ∈ [h1, h2, h3], PDj x y := fun x hx y hy => (((hd.mono (m.le x hx)).symm).mono (m'.le y hy)).symm; have hsub : (l.take (i * 3) ++ l.drop (i * 3 + 3)).Sublist l := by
    conv => rhs; rw [← List.take_append_drop (i * 3) l]
    refine List.Sublist.append (List.Sublist.refl _) ?_; rw [← List.drop_drop]; exact List.drop_sublist _ _
  have hsep := sepL_append.1 (sep_mono m.sep hsub); have hs : sepL (l.take (i * 3) ++ [h1, h2, h3] ++ l.drop (i * 3 + 3)) := by
    refine sepL_append.2 ⟨sepL_append.2 ⟨hsep.1, m'.sep, fun x hx y hy => hab x (List.mem_of_mem_take hx) y hy⟩, hsep.2.1, fun x hx y hy => ?_⟩
    rcases List.mem_append.1 hx with hx | hx
    · exact hsep.2.2 x hx y hy
    · exact (hab y (List.mem_of_mem_drop hy) x hx).symm
  refine ⟨joinP (l.take (i * 3) ++ [h1, h2, h3] ++ l.drop (i * 3 + 3)), fun k o e => ?_, _, ?_, Made.join hs⟩
  · obtain ⟨y, hy, e'⟩ := joinP_dom e; exact hx y hy k o e'
  · rw [flat_set hi]; exact ((ol.take _).append (OwnL.three r1 r2 r3)).append (ol.drop _)
def replP (k p n : Int) (ts : List Ten) (op : List Int) (i : Int) (u : Ten) : Prop := netL k p n ts op ∧ (0 ≤ i ∧ i < ts.length) ∧ fitP k p n (ts.getD i.toNat ⟨[], [], []⟩) u
open Classical in
noncomputable def replB (k p n : Int) (ts : List Ten) (op : List Int) (i : Int) (u : Ten) : Bool := decide (replP k p n ts op i u)
noncomputable def ifB {α : Type} (b : Bool) (x y : α) : α := if b then x else y
noncomputable def replTs (k p n : Int) (ts : List Ten) (op : List Int) (i : Int) (u : Ten) : List Ten := ifB (replB k p n ts op i u) (ts.set i.toNat u) []
noncomputable def replOp (k p n : Int) (ts : List Ten) (op : List Int) (i : Int) (u : Ten) : List Int := ifB (replB k p n ts op i u) op []
def ReplR (k p n : Int) (ts : List Ten) (op : List Int) (i : Int) (u : Ten) (x : Value) (h : PH) : Prop :=
  ∃ vt vo, x = .tuple [netV (ifB (replB k p n ts op i u) k 0) (ifB (replB k p n ts op i u) p 0) (ifB (replB k p n ts op i u) n 0) vt vo, .bool (replB k p n ts op i u)].toArray ∧ NetO (replTs k p n ts op i u) (replOp k p n ts op i u) vt vo h
theorem NetO.nil : NetO [] [] (.slice none 0 0) (.slice none 0 0) emp :=
  ⟨[], emp, emp, [], RowO.nil, IntsO.nil, OwnL.nil, ⟨by simp [sepL, PDj.emp], fun x hx => by simp at hx; subst hx; exact PLe.emp _, fun k o e => by cases e⟩⟩
theorem ReplR.no {k p n i : Int} {ts : List Ten} {op : List Int} {u : Ten} (h : ¬ replP k p n ts op i u) : ReplR k p n ts op i u (.tuple [netV 0 0 0 (.slice none 0 0) (.slice none 0 0), .bool false].toArray) emp := by
  have e : replB k p n ts op i u = false := by simp [replB, h]
  refine ⟨.slice none 0 0, .slice none 0 0, ?_, ?_⟩
  · rw [e]; rfl
  · rw [replTs, replOp, e]; exact NetO.nil
theorem ReplR.yes {k p n i : Int} {ts : List Ten} {op : List Int} {u : Ten} {vt vo : Value} {g : PH} (h : replP k p n ts op i u) (r : NetO (ts.set i.toNat u) op vt vo g) : ReplR k p n ts op i u (.tuple [netV k p n vt vo, .bool true].toArray) g := by
  have e : replB k p n ts op i u = true := by simp [replB, h]
  refine ⟨vt, vo, ?_, ?_⟩
  · rw [e]; rfl
  · rw [replTs, replOp, e]; exact r
end Go.Proofs.YtiefkcaplhnnmaaGreat
namespace Go.Proofs.YtiefkcaplhnnmaaGreat
set_option maxRecDepth 100000
open Go.RowKit
theorem OwnL.piece {ts : List Ten} {vs : List Value} {l : List PH} (o : OwnL (flat ts) vs l) {k : Nat} {t : Ten} (h : ts[k]? = some t) : OwnL (flat [t]) ((vs.drop (k * 3)).take 3) ((l.drop (k * 3)).take 3) := by
  have hk := (List.getElem?_eq_some_iff.1 h).1; have e : ((flat ts).drop (k * 3)).take 3 = flat [t] := by
    rw [← (flat_take (Nat.le_of_lt hk)).2, drop_at h]; rfl
  have := (o.drop (k * 3)).take 3
  rwa [e] at this
theorem OwnL.dropK {ts : List Ten} {vs : List Value} {l : List PH} (o : OwnL (flat ts) vs l) (p q : Nat) : ∀ k, k ≤ ts.length → OwnL (flat (dropK 1 ts p q k)) (dropK 3 vs p q k) (dropK 3 l p q k)
  | 0, _ => OwnL.nil
  | k + 1, hk => by
    have ih := OwnL.dropK o p q k (by omega); have ht : ts[k]? = some ts[k] := List.getElem?_eq_getElem (by omega)
    by_cases h : k ≠ p ∧ k ≠ q
    · rw [dropK_yes h, dropK_yes h, dropK_yes h, one_drop ht, flat_append]; exact ih.append (o.piece ht)
    · rw [dropK_no h, dropK_no h, dropK_no h]; exact ih
theorem dropK_sub {α : Type} (m : Nat) (l : List α) (p q : Nat) : ∀ k, (dropK m l p q k).Sublist (l.take (k * m))
  | 0 => by simp [dropK]
  | k + 1 => by
    have ih := dropK_sub m l p q k; have e : l.take ((k + 1) * m) = l.take (k * m) ++ (l.drop (k * m)).take m := by rw [Nat.add_mul, Nat.one_mul, List.take_add]
    rw [e]
    by_cases h : k ≠ p ∧ k ≠ q
    · rw [dropK_yes h]; exact ih.append (List.Sublist.refl _)
    · rw [dropK_no h]; exact ih.trans (List.sublist_append_left _ _)
theorem OwnH.dropK {ts : List Ten} {cs : List Value} {h : PH} (o : OwnH (flat ts) cs h) (p q : Nat) : ∃ g, PLe g h ∧ OwnH (flat (dropK 1 ts p q ts.length)) (dropK 3 cs p q ts.length) g := by
  obtain ⟨l, ol, m⟩ := o; have hs := (dropK_sub 3 l p q ts.length).trans (List.take_sublist _ _); have hsep := sep_mono m.sep hs; refine ⟨joinP (Go.Proofs.YtiefkcaplhnnmaaGreat.dropK 3 l p q ts.length), fun k o e => ?_, _, ol.dropK p q _ (Nat.le_refl _), Made.join hsep⟩; obtain ⟨y, hy, e'⟩ := joinP_dom e; exact m.le y (hs.subset hy) k o e'
theorem perm_all {k p n : Int} {t : Ten} {ls : List Int} (h : PermOK k p n t ls) : ∀ m : Nat, ((permX (widthI k n) t ls (permD t ls) m).length : Int) = m * widthI k n ∧ ∀ a ∈ permX (widthI k n) t ls (permD t ls) m, 0 ≤ a ∧ a ≤ topI k p n
  | 0 => by simp [permX]
  | m + 1 => by
    have ih := perm_all h m; have ho := h.off m; have he := elt_inR h.ten ho.1 ho.2; have hw := width_range h.ring; rw [permX_step]; refine ⟨?_, fun a ha => ?_⟩
    · rw [List.length_append, he.1, Int.natCast_add, ih.1, show ((m + 1 : Nat) : Int) = (m : Int) + 1 from rfl, Int.add_mul, Int.one_mul]; omega
    · rcases List.mem_append.1 ha with ha | ha
      · exact ih.2 a ha
      · exact he.2 a ha
theorem perm_axes {k p n : Int} {t : Ten} {ls : List Int} (h : PermOK k p n t ls) : axesL ls (permD t ls) := by
  refine ⟨h.len.2.2, (permD_len t ls).symm, fun j hj => ⟨?_, h.dims j (by rw [permD_len]; exact hj), nodup_not_take h.nodup hj⟩⟩; obtain ⟨i, hi, e⟩ := getD_of_mem (h.perm.mem_iff.1 (mem_getD hj)); rw [← e]; exact (h.axes.2.2 i hi).1
theorem perm_ten {k p n : Int} {t : Ten} {ls : List Int} (h : PermOK k p n t ls) : tensorL k p n (permT k n t ls).l (permT k n t ls).d (permT k n t ls).x := by
  have hs := h.small; have ha := perm_axes h; have hx := perm_all h (prodI (permD t ls)).toNat; refine ⟨h.ring, sizeI_ge.2 ⟨ha, hs.2⟩, ?_, hx.2⟩
  show ((permX (widthI k n) t ls (permD t ls) (prodI (permD t ls)).toNat).length : Int) = sizeI ls (permD t ls) * widthI k n
  rw [sizeI_yes ha hs.2, hx.1, show (((prodI (permD t ls)).toNat : Nat) : Int) = prodI (permD t ls) by omega]
theorem setL_of_perm {xs ys : List Int} (h : xs.Perm ys) (hn : ys.Nodup) : setL xs ys :=
  ⟨h.length_eq, fun _ hj => ⟨h.mem_iff.2 (mem_getD hj), nodup_not_take hn hj⟩⟩
theorem net_open {k p n : Int} {ts : List Ten} {op : List Int} (h : netL k p n ts op) : op.Nodup ∧ op.length ≤ 12 := by
  have ha := (sizeI_ge.1 h.2.2.2.2).1; exact ⟨axes_nodup ha, ha.1⟩
theorem mem_keep {t u : Ten} {ks : List Int} {x : Int} : x ∈ keepL t u ks ↔ (x ∈ t.l ∨ x ∈ u.l) ∧ x ∈ ks := by
  unfold keepL
  rw [List.mem_filter, mem_joinI, decide_eq_true_eq]
theorem sum_ten {k p n : Int} {t : Ten} (ht : tensorL k p n t.l t.d t.x) (ks : List Int) : tensorL k p n (sumR k p n t ks).l (sumR k p n t ks).d (sumR k p n t ks).x ∧ (sumR k p n t ks).l = keepL t (oneT k p n) ks ∧ (sumR k p n t ks).d = (keepL t (oneT k p n) ks).map (dimJ t (oneT k p n)) := by
  have := pair_ten (sum_pair ht ks)
  rwa [sumR_pair ht] at this
theorem fin_perm {k p n : Int} {t : Ten} {op : List Int} (ht : tensorL k p n t.l t.d t.x) (hn : op.Nodup) (hs : ∀ x ∈ op, x ∈ t.l) : PermOK k p n (sumR k p n t op) op := by
  obtain ⟨h1, h2, _⟩ := sum_ten ht op; have hk : ∀ x, x ∈ (sumR k p n t op).l ↔ x ∈ op := fun x => by
    rw [h2, mem_keep]; exact ⟨fun h => h.2, fun h => ⟨.inl (hs x h), h⟩⟩
  exact ⟨ht.1, h1, perm_of hn (fun x hx => (hk x).2 hx) (pigeon (axes_nodup (ten_axes h1)) fun x hx => (hk x).1 hx)⟩
noncomputable def finT (k p n : Int) (t : Ten) (op : List Int) : Ten := permT k n (sumR k p n t op) op
def finP (k p n : Int) (ts : List Ten) (op : List Int) (t : Ten) : Prop := netL k p n ts op ∧ tensorL k p n t.l t.d t.x ∧ ∀ x ∈ op, x ∈ t.l
open Classical in
noncomputable def finB (k p n : Int) (ts : List Ten) (op : List Int) (t : Ten) : Bool := decide (finP k p n ts op t)
open Classical in
noncomputable def finR (k p n : Int) (ts : List Ten) (op : List Int) (t : Ten) : Ten := if finP k p n ts op t then finT k p n t op else noTen
theorem finP.perm {k p n : Int} {ts : List Ten} {op : List Int} {t : Ten} (h : finP k p n ts op t) : PermOK k p n (sumR k p n t op) op := fin_perm h.2.1 (net_open h.1).1 h.2.2
theorem FinNo {k p n : Int} {ts : List Ten} {op : List Int} {t : Ten} (h : ¬ finP k p n ts op t) : TenB (finR k p n ts op t) (finB k p n ts op t) (.tuple [tenV (.slice none 0 0) (.slice none 0 0) (.slice none 0 0), .bool false].toArray) emp :=
  ⟨.slice none 0 0, .slice none 0 0, .slice none 0 0, by simp [finB, h], by rw [finR, if_neg h]; exact triO_none⟩
theorem FinYes {k p n : Int} {ts : List Ten} {op : List Int} {t : Ten} {a b c : Value} {h : PH} (hp : finP k p n ts op t) (r : TriO (finT k p n t op) a b c h) : TenB (finR k p n ts op t) (finB k p n ts op t) (.tuple [tenV a b c, .bool true].toArray) h :=
  ⟨a, b, c, by simp [finB, hp], by rw [finR, if_pos hp]; exact r⟩
def partP (k p n : Int) (ts : List Ten) (op : List Int) (ss : List Stp) (m : Int) : Prop := orderL k p n ts op ss ∧ (0 ≤ m ∧ m ≤ ss.length) ∧ ∀ j, j < m.toNat → runFit k p n ts op ss j
open Classical in
noncomputable def partB (k p n : Int) (ts : List Ten) (op : List Int) (ss : List Stp) (m : Int) : Bool := decide (partP k p n ts op ss m)
noncomputable def partTs (k p n : Int) (ts : List Ten) (op : List Int) (ss : List Stp) (m : Int) : List Ten := ifB (partB k p n ts op ss m) (outTo k p n ts op ss m.toNat) []
noncomputable def partOp (k p n : Int) (ts : List Ten) (op : List Int) (ss : List Stp) (m : Int) : List Int := ifB (partB k p n ts op ss m) op []
def PartR (k p n : Int) (ts : List Ten) (op : List Int) (ss : List Stp) (m : Int) (x : Value) (h : PH) : Prop :=
  NetB (ifB (partB k p n ts op ss m) k 0) (ifB (partB k p n ts op ss m) p 0) (ifB (partB k p n ts op ss m) n 0) (partTs k p n ts op ss m) (partOp k p n ts op ss m) (partB k p n ts op ss m) x h
theorem partB_true {k p n : Int} {ts : List Ten} {op : List Int} {ss : List Stp} {m : Int} : partB k p n ts op ss m = true ↔ partP k p n ts op ss m := by simp [partB]
theorem PartNo {k p n m : Int} {ts : List Ten} {op : List Int} {ss : List Stp} (h : ¬ partP k p n ts op ss m) : PartR k p n ts op ss m (.tuple [netV 0 0 0 (.slice none 0 0) (.slice none 0 0), .bool false].toArray) emp := by
  have e : partB k p n ts op ss m = false := by simp [partB, h]
  refine ⟨.slice none 0 0, .slice none 0 0, ?_, ?_⟩
  · rw [e]; rfl
  · rw [partTs, partOp, e]; exact NetO.nil
theorem PartYes {k p n m : Int} {ts : List Ten} {op : List Int} {ss : List Stp} {vt vo : Value} {g : PH} (h : partP k p n ts op ss m) (r : NetO (outTo k p n ts op ss m.toNat) op vt vo g) : PartR k p n ts op ss m (.tuple [netV k p n vt vo, .bool true].toArray) g := by
  have e : partB k p n ts op ss m = true := by simp [partB, h]
  refine ⟨vt, vo, ?_, ?_⟩
  · rw [e]; rfl
  · rw [partTs, partOp, e]; exact r
def conP (k p n : Int) (ts : List Ten) (op : List Int) (ss : List Stp) : Prop := orderL k p n ts op ss ∧ ∀ j, j < ss.length → runFit k p n ts op ss j
open Classical in
noncomputable def conB (k p n : Int) (ts : List Ten) (op : List Int) (ss : List Stp) : Bool := decide (conP k p n ts op ss)
noncomputable def lastT (k p n : Int) (ts : List Ten) (op : List Int) (ss : List Stp) : Ten := (runTo k p n ts op ss ss.length).getD (ts.length + ss.length - 1) noTen
noncomputable def conT (k p n : Int) (ts : List Ten) (op : List Int) (ss : List Stp) : Ten := if ts.length = 0 then oneT k p n else finT k p n (lastT k p n ts op ss) op
open Classical in
noncomputable def conR (k p n : Int) (ts : List Ten) (op : List Int) (ss : List Stp) : Ten := if conP k p n ts op ss then conT k p n ts op ss else noTen
theorem conB_true {k p n : Int} {ts : List Ten} {op : List Int} {ss : List Stp} : conB k p n ts op ss = true ↔ conP k p n ts op ss := by simp [conB]
theorem conB_false {k p n : Int} {ts : List Ten} {op : List Int} {ss : List Stp} : conB k p n ts op ss = false ↔ ¬ conP k p n ts op ss := by simp [conB]
theorem con_part {k p n : Int} {ts : List Ten} {op : List Int} {ss : List Stp} : partP k p n ts op ss ss.length ↔ conP k p n ts op ss := by
  unfold partP conP
  rw [Int.toNat_natCast]; exact ⟨fun h => ⟨h.1, h.2.2⟩, fun h => ⟨h.1, by omega, h.2⟩⟩
section
variable {k p n : Int} {ts : List Ten} {op : List Int} {ss : List Stp}
theorem conP.last (h : conP k p n ts op ss) (hn : ts.length ≠ 0) : finP k p n ts op (lastT k p n ts op ss) ∧ outTo k p n ts op ss ss.length = [lastT k p n ts op ss] := by
  have r := run_ok h.1 ss.length (Nat.le_refl _) h.2; have hl := run_left h.1 (fun e => hn (by rw [e]; rfl)); have hg := r.get (j := ts.length + ss.length - 1) (by omega); refine ⟨⟨h.1.1, hg.1, fun x hx => ?_⟩, by rw [outTo, hl]; rfl⟩; obtain ⟨j, hj, hxj⟩ := run_open h.1 hx ss.length (Nat.le_refl _); rw [hl] at hj
  simp at hj
  show x ∈ ((runTo k p n ts op ss ss.length).getD (ts.length + ss.length - 1) noTen).l
  rw [hg.2.1, ← hj]; exact hxj
theorem conP.empty (h : conP k p n ts op ss) (hn : ts.length = 0) : op = [] := by
  refine List.eq_nil_iff_forall_not_mem.2 fun x hx => ?_; obtain ⟨j, hj, e⟩ := getD_of_mem hx; have ho := (open_at h.1.1.2.2.2.2 hj).2; have e0 : ts = [] := List.eq_nil_of_length_eq_zero hn; rw [e0] at ho
  simp [dimOf] at ho
theorem conP.ten (h : conP k p n ts op ss) : tensorL k p n (conT k p n ts op ss).l (conT k p n ts op ss).d (conT k p n ts op ss).x ∧ (conT k p n ts op ss).l = op := by
  unfold conT
  by_cases hn : ts.length = 0
  · rw [if_pos hn]; exact ⟨one_ten h.1.1.1, (h.empty hn).symm⟩
  · rw [if_neg hn]; exact ⟨perm_ten (h.last hn).1.perm, rfl⟩
end
theorem ConNo {k p n : Int} {ts : List Ten} {op : List Int} {ss : List Stp} (h : ¬ conP k p n ts op ss) : TenB (conR k p n ts op ss) (conB k p n ts op ss) (.tuple [tenV (.slice none 0 0) (.slice none 0 0) (.slice none 0 0), .bool false].toArray) emp :=
  ⟨.slice none 0 0, .slice none 0 0, .slice none 0 0, by simp [conB, h], by rw [conR, if_neg h]; exact triO_none⟩
theorem ConYes {k p n : Int} {ts : List Ten} {op : List Int} {ss : List Stp} {a b c : Value} {h : PH} (hp : conP k p n ts op ss) (r : TriO (conT k p n ts op ss) a b c h) : TenB (conR k p n ts op ss) (conB k p n ts op ss) (.tuple [tenV a b c, .bool true].toArray) h :=
  ⟨a, b, c, by simp [conB, hp], by rw [conR, if_pos hp]; exact r⟩
end Go.Proofs.YtiefkcaplhnnmaaGreat
namespace Go.Proofs.YtiefkcaplhnnmaaGreat
set_option maxRecDepth 100000
open Go.RowKit
theorem one_drop_none {α : Type} {l : List α} {k : Nat} (h : l[k]? = none) : (l.drop (k * 1)).take 1 = [] := by
  rw [Nat.mul_one, List.drop_of_length_le (List.getElem?_eq_none_iff.1 h)]; rfl
theorem mem_dropK {α : Type} {l : List α} {p q : Nat} {t : α} : ∀ k, t ∈ dropK 1 l p q k ↔ ∃ m, m < k ∧ m ≠ p ∧ m ≠ q ∧ l[m]? = some t
  | 0 => by simp [dropK]
  | k + 1 => by
    have ih := mem_dropK (l := l) (p := p) (q := q) (t := t) k; have hx : t ∈ (l.drop (k * 1)).take 1 ↔ l[k]? = some t := by
      cases h : l[k]? with
      | none => rw [one_drop_none h]; simp
      | some x => rw [one_drop h]; simp [eq_comm]
    by_cases hc : k ≠ p ∧ k ≠ q
    · rw [dropK_yes hc, List.mem_append, ih, hx]
      constructor
      · rintro (⟨m, h1, h2⟩ | h)
        · exact ⟨m, by omega, h2⟩
        · exact ⟨k, by omega, hc.1, hc.2, h⟩
      · rintro ⟨m, h1, h2, h3, h4⟩
        by_cases e : m = k
        · subst e; exact .inr h4
        · exact .inl ⟨m, by omega, h2, h3, h4⟩
    · rw [dropK_no hc, ih]
      constructor
      · rintro ⟨m, h1, h2⟩; exact ⟨m, by omega, h2⟩
      · rintro ⟨m, h1, h2, h3, h4⟩; have : m ≠ k := fun e => hc (e ▸ ⟨h2, h3⟩); exact ⟨m, by omega, h2, h3, h4⟩
def needS (ts : List Ten) (op : List Int) (i j m : Nat) : List Int := op ++ (dropK 1 ts i j m).flatMap (·.l)
theorem mem_needS {ts : List Ten} {op : List Int} {i j m : Nat} {x : Int} : x ∈ needS ts op i j m ↔ x ∈ op ∨ ∃ t ∈ dropK 1 ts i j m, x ∈ t.l := by
  simp [needS, List.mem_append, List.mem_flatMap]
section
variable {ts : List Ten} {op : List Int} {i j k : Nat} {t : Ten}
end
theorem dimOf_map {us : List Ten} {f : Int → Int} {x : Int} (h : ∀ t ∈ us, t.d = t.l.map f) (hx : ∃ t ∈ us, x ∈ t.l) : dimOf us x = f x := by
  induction us with
  | nil => obtain ⟨t, ht, _⟩ := hx; simp at ht
  | cons t us ih =>
    rw [dimOf]
    by_cases hm : x ∈ t.l
    · rw [if_pos hm, h t (by simp), map_getD (findI_get hm).1, (findI_get hm).2]
    · rw [if_neg hm]; refine ih (fun u hu => h u (by simp [hu])) ?_; obtain ⟨u, hu, hxu⟩ := hx
      rcases List.mem_cons.1 hu with rfl | hu
      · exact absurd hxu hm
      · exact ⟨u, hu, hxu⟩
theorem dimOf_none {us : List Ten} {x : Int} (hx : ¬ ∃ t ∈ us, x ∈ t.l) : dimOf us x = 0 := Classical.byContradiction fun h => hx (dimOf_mem h)
theorem cons_of_map {us : List Ten} {f : Int → Int} (h : ∀ t ∈ us, t.d = t.l.map f) : consL us := fun i _ t ht j hj t' ht' => by
  rw [ht] at ht'
  cases ht'
  by_cases hx : ∃ u ∈ us.take i, t.l.getD j 0 ∈ u.l
  · right
    rw [dimOf_map (fun u hu => h u (List.mem_of_mem_take hu)) hx, h t (List.mem_of_getElem? ht), map_getD hj]
  · exact .inl (dimOf_none hx)
theorem net_of {k p n : Int} {ts us : List Ten} {op : List Int} (h : netL k p n ts op) (hl : us.length ≤ 12) (ht : ∀ t ∈ us, tensorL k p n t.l t.d t.x) (hd : ∀ t ∈ us, t.d = t.l.map (dimOf ts)) (ho : ∀ x ∈ op, ∃ t ∈ us, x ∈ t.l) : netL k p n us op := by
  refine ⟨h.1, hl, ht, cons_of_map hd, ?_⟩; have e : dimsFor us op = dimsFor ts op := List.map_congr_left fun x hx => dimOf_map hd (ho x hx); rw [e]; exact h.2.2.2.2
theorem net_has {k p n : Int} {ts : List Ten} {op : List Int} (h : netL k p n ts op) {x : Int} (hx : x ∈ op) : ∃ t ∈ ts, x ∈ t.l := by
  obtain ⟨j, hj, e⟩ := getD_of_mem hx; have ho := (open_at h.2.2.2.2 hj).2; rw [e] at ho; exact dimOf_mem (by omega)
def mgLo (i j : Int) : Nat := (min i j).toNat
def mgHi (i j : Int) : Nat := (max i j).toNat
def mgA (ts : List Ten) (i j : Int) : Ten := ts.getD (mgLo i j) noTen
def mgB (ts : List Ten) (i j : Int) : Ten := ts.getD (mgHi i j) noTen
def mergN (ts : List Ten) (op : List Int) (i j : Int) : List Int := needS ts op i.toNat j.toNat ts.length
def mergP (k p n : Int) (ts : List Ten) (op : List Int) (i j : Int) : Prop := netL k p n ts op ∧ (0 ≤ i ∧ i < ts.length) ∧ (0 ≤ j ∧ j < ts.length) ∧ i ≠ j ∧ pairP k p n (mgA ts i j) (mgB ts i j) (mergN ts op i j)
noncomputable def mergT (k p n : Int) (ts : List Ten) (op : List Int) (i j : Int) : Ten := pairR k p n (mgA ts i j) (mgB ts i j) (mergN ts op i j)
noncomputable def mergL (k p n : Int) (ts : List Ten) (op : List Int) (i j : Int) (m : Nat) : List Ten := dropK 1 (ts.set (mgLo i j) (mergT k p n ts op i j)) (mgHi i j) (mgHi i j) m
section
variable {k p n : Int} {ts : List Ten} {op : List Int} {i j : Int}
theorem merg_hi {m : Nat} (h : (m : Int) = max i j) : mergL k p n ts op i j (m + 1) = mergL k p n ts op i j m := by
  have e : m = mgHi i j := by unfold mgHi; omega
  unfold mergL
  rw [dropK_no (by omega)]
theorem merg_len (m : Nat) : (mergL k p n ts op i j m).length ≤ m := by
  have := dropK_len (m := 1) (cs := ts.set (mgLo i j) (mergT k p n ts op i j)) (p := mgHi i j) (q := mgHi i j) m
  unfold mergL; omega
theorem mergP.mem (h : mergP k p n ts op i j) {t : Ten} : t ∈ mergL k p n ts op i j ts.length ↔ t = mergT k p n ts op i j ∨ ∃ m, m < ts.length ∧ m ≠ mgLo i j ∧ m ≠ mgHi i j ∧ ts[m]? = some t := by
  obtain ⟨_, hi, hj, hne, _⟩ := h; have e : mgLo i j ≠ mgHi i j := by unfold mgLo mgHi; omega
  have e2 : mgLo i j < ts.length := by unfold mgLo; omega
  rw [mergL, mem_dropK]
  constructor
  · rintro ⟨m, h1, h2, _, h4⟩
    by_cases c : mgLo i j = m
    · subst c; rw [List.getElem?_set_self h1] at h4
      cases h4; exact .inl rfl
    · rw [List.getElem?_set_ne c] at h4; exact .inr ⟨m, h1, Ne.symm c, h2, h4⟩
  · rintro (rfl | ⟨m, h1, h2, h3, h4⟩)
    · exact ⟨mgLo i j, e2, e, e, List.getElem?_set_self e2⟩
    · exact ⟨m, h1, h3, h3, by rw [List.getElem?_set_ne (Ne.symm h2)]; exact h4⟩
theorem mergP.ab (h : mergP k p n ts op i j) : ts[mgLo i j]? = some (mgA ts i j) ∧ ts[mgHi i j]? = some (mgB ts i j) := by
  obtain ⟨_, hi, hj, hne, _⟩ := h; have e1 : mgLo i j < ts.length := by unfold mgLo; omega
  have e2 : mgHi i j < ts.length := by unfold mgHi; omega
  exact ⟨by simp [mgA, List.getD, e1], by simp [mgB, List.getD, e2]⟩
theorem mergP.net (h : mergP k p n ts op i j) : netL k p n (mergL k p n ts op i j ts.length) op := by
  have hn := h.1; have hd := net_dmap hn; obtain ⟨ea, eb⟩ := h.ab; have hma := List.mem_of_getElem? ea; have hmb := List.mem_of_getElem? eb; have pt := pair_ten h.2.2.2.2; refine net_of hn (Nat.le_trans (merg_len _) hn.2.1) (fun t ht => ?_) (fun t ht => ?_) (fun x hx => ?_)
  · rcases h.mem.1 ht with rfl | ⟨m, _, _, _, hm⟩
    · exact pt.1
    · exact hn.2.2.1 t (List.mem_of_getElem? hm)
  · rcases h.mem.1 ht with rfl | ⟨m, _, _, _, hm⟩
    · show (mergT k p n ts op i j).d = (mergT k p n ts op i j).l.map (dimOf ts)
      rw [mergT, pt.2.2, pt.2.1, keep_map (hd _ hma) (hd _ hmb)]
    · exact hd t (List.mem_of_getElem? hm)
  · obtain ⟨t, ht, hxt⟩ := net_has hn hx; obtain ⟨m, hm⟩ := List.getElem?_of_mem ht
    by_cases c : m ≠ mgLo i j ∧ m ≠ mgHi i j
    · exact ⟨t, h.mem.2 (.inr ⟨m, (List.getElem?_eq_some_iff.1 hm).1, c.1, c.2, hm⟩), hxt⟩
    · refine ⟨_, h.mem.2 (.inl rfl), ?_⟩; rw [mergT, pt.2.1, mem_keep]; refine ⟨?_, mem_needS.2 (.inl hx)⟩
      by_cases c1 : m = mgLo i j
      · subst c1; rw [ea] at hm; cases hm; exact .inl hxt
      · have c2 : m = mgHi i j := by omega
        subst c2; rw [eb] at hm; cases hm; exact .inr hxt
theorem mergP.less (h : mergP k p n ts op i j) : (mergL k p n ts op i j ts.length).length + 1 ≤ ts.length := by
  obtain ⟨_, hi, hj, hne, _⟩ := h; have e : mgHi i j < ts.length := by unfold mgHi; omega
  have hs : ∀ (c m : Nat), mgHi i j < m → m = mgHi i j + 1 + c → (mergL k p n ts op i j m).length + 1 ≤ m := by
    intro c
    induction c with
    | zero =>
      intro m hm e; have := merg_len (k := k) (p := p) (n := n) (ts := ts) (op := op) (i := i) (j := j) (mgHi i j); rw [show m = mgHi i j + 1 by omega, merg_hi (by unfold mgHi; omega)]
      omega
    | succ c ih =>
      intro m hm e; have ih := ih (mgHi i j + 1 + c) (by omega) rfl; have e3 : mgHi i j + 1 + c ≠ mgHi i j := by omega
      rw [show m = (mgHi i j + 1 + c) + 1 by omega, mergL, dropK_yes ⟨e3, e3⟩, List.length_append, List.length_take]
      unfold mergL at ih
      omega
  exact hs (ts.length - (mgHi i j + 1)) ts.length e (by omega)
end
end Go.Proofs.YtiefkcaplhnnmaaGreat
namespace Go.Proofs.YtiefkcaplhnnmaaGreat
set_option maxRecDepth 100000
open Go.RowKit
theorem erase_filter {ls : List Int} (hn : ls.Nodup) {x : Int} (hx : x ∈ ls) : ls.filter (fun y => decide (y ≠ x)) = ls.eraseIdx (findI ls x).toNat := by
  have e : (findI ls x).toNat = ls.idxOf x := by unfold findI; rw [if_pos hx]; simp
  rw [e, ← List.erase_eq_eraseIdx_of_idxOf rfl, List.Nodup.erase_eq_filter hn x]
  apply List.filter_congr
  intro y _; rw [Bool.eq_iff_iff]
  simp
theorem prod_erase : ∀ {ds : List Int} {j : Nat}, j < ds.length → prodI (ds.eraseIdx j) * ds.getD j 0 = prodI ds
  | [], j, h => by simp at h
  | d :: ds, 0, _ => by rw [List.eraseIdx_zero, List.tail_cons, prodI_cons, Int.mul_comm]; rfl
  | d :: ds, j + 1, h => by
    have ih := prod_erase (ds := ds) (j := j) (by simpa using h); rw [List.eraseIdx_cons_succ, prodI_cons, prodI_cons, List.getD_cons_succ, Int.mul_assoc, ih]
theorem map_erase {α β : Type} (f : α → β) : ∀ (l : List α) (j : Nat), (l.eraseIdx j).map f = (l.map f).eraseIdx j
  | [], j => by simp
  | a :: l, 0 => by simp
  | a :: l, j + 1 => by simp [map_erase f l j]
def slJ (t : Ten) (x : Int) : Nat := (findI t.l x).toNat
def slX (wd : Int) (t : Ten) (j : Nat) (v : Int) (m : Nat) : List Int := (slTo t.d j v m).flatMap fun (n : Nat) => elt t.x wd n
noncomputable def slT (k n : Int) (t : Ten) (x v : Int) : Ten := ⟨t.l.eraseIdx (slJ t x), t.d.eraseIdx (slJ t x), slX (widthI k n) t (slJ t x) v (prodI t.d).toNat⟩
/-- The numbers as the program meets them. -/
def slY (wd : Int) (t : Ten) (j : Nat) (v : Int) (m : Nat) : List Int := ((List.range m).map (slAt t.d j v)).flatMap fun (n : Nat) => elt t.x wd n
theorem slY_step {wd : Int} {t : Ten} {j m : Nat} {v : Int} : slY wd t j v (m + 1) = slY wd t j v m ++ elt t.x wd (slAt t.d j v m) := by
  unfold slY
  rw [List.range_succ, List.map_append, List.flatMap_append]
  simp
structure SlOK (k p n : Int) (t : Ten) (x v : Int) : Prop where
  ten : tensorL k p n t.l t.d t.x
  mem : x ∈ t.l
  val : 0 ≤ v ∧ v < t.d.getD (slJ t x) 0
section
variable {k p n : Int} {t : Ten} {x v : Int}
theorem sl_j (h : tensorL k p n t.l t.d t.x) (hx : x ∈ t.l) : slJ t x < t.l.length ∧ slJ t x < t.d.length ∧ t.l.getD (slJ t x) 0 = x := by
  have hg := findI_get hx; have ha := ten_axes h; exact ⟨hg.1, by rw [← ha.2.1]; exact hg.1, hg.2⟩
theorem SlOK.eq (h : SlOK k p n t x v) : slX (widthI k n) t (slJ t x) v (prodI t.d).toNat = slY (widthI k n) t (slJ t x) v (prodI (t.d.eraseIdx (slJ t x))).toNat := by
  have hj := sl_j h.ten h.mem
  unfold slX slY
  rw [sl_eq (fun d hd => (dims_mem (axes_dims (ten_axes h.ten)) d hd).1) hj.2.1 h.val]
theorem SlOK.at_ (h : SlOK k p n t x v) (m : Nat) : slAt t.d (slJ t x) v m < (prodI t.d).toNat ∧ ((slAt t.d (slJ t x) v m : Nat) : Int) = v * strOf t.l t.d x + dotL (stepsL (t.l.eraseIdx (slJ t x)) t.l t.d) (idxL (t.d.eraseIdx (slJ t x)) m) := by
  have hj := sl_j h.ten h.mem; have ha := ten_axes h.ten; have hd : ∀ d ∈ t.d, 1 ≤ d := fun d hd => (dims_mem (axes_dims ha) d hd).1; have hin := sl_in hd hj.2.1 h.val m; have hs := sl_dot (ls := t.l) (ds := t.d) (is := idxL (t.d.eraseIdx (slJ t x)) m) (j := slJ t x) v (axes_nodup ha) ha.2.1 hj.1 (by rw [idxL_len, List.length_eraseIdx_of_lt hj.2.1]; have := hj.2.1; have := ha.2.1; omega); rw [hj.2.2] at hs
  unfold slAt
  omega
theorem SlOK.dims (h : SlOK k p n t x v) : dimsIn (t.d.eraseIdx (slJ t x)) ∧ 1 ≤ prodI (t.d.eraseIdx (slJ t x)) ∧ prodI (t.d.eraseIdx (slJ t x)) ≤ 4096 := by
  have hj := sl_j h.ten h.mem; have ha := ten_axes h.ten; have hm := erase_mem (j := slJ t x) (dims_mem (axes_dims ha)); have hp1 := prodI_one fun d hd => (hm d hd).1; have hpe := prod_erase hj.2.1; have hd := axes_dims ha (slJ t x) hj.2.1; have hp := ten_prod h.ten; have h1 : prodI (t.d.eraseIdx (slJ t x)) * 1 ≤ prodI (t.d.eraseIdx (slJ t x)) * t.d.getD (slJ t x) 0 := Int.mul_le_mul_of_nonneg_left hd.1 (by omega); exact ⟨fun j hj => hm _ (mem_getD hj), hp1, by omega⟩
theorem SlOK.el (h : SlOK k p n t x v) (m : Nat) : InR k p n (elt t.x (widthI k n) (slAt t.d (slJ t x) v m)) := by
  have := (h.at_ m).1; exact elt_inR h.ten (by omega) (by omega)
theorem SlOK.all (h : SlOK k p n t x v) : ∀ m : Nat, ((slY (widthI k n) t (slJ t x) v m).length : Int) = m * widthI k n ∧ ∀ a ∈ slY (widthI k n) t (slJ t x) v m, 0 ≤ a ∧ a ≤ topI k p n
  | 0 => by simp [slY]
  | m + 1 => by
    have ih := SlOK.all h m; have he := h.el m; have hw := width_range h.ten.1; rw [slY_step]; refine ⟨?_, fun a ha => ?_⟩
    · rw [List.length_append, he.1, Int.natCast_add, ih.1, show ((m + 1 : Nat) : Int) = (m : Int) + 1 from rfl, Int.add_mul, Int.one_mul]; omega
    · rcases List.mem_append.1 ha with ha | ha
      · exact ih.2 a ha
      · exact he.2 a ha
theorem SlOK.axes (h : SlOK k p n t x v) : axesL (t.l.eraseIdx (slJ t x)) (t.d.eraseIdx (slJ t x)) := by
  have hj := sl_j h.ten h.mem; have ha := ten_axes h.ten; have hl := List.length_eraseIdx_of_lt hj.1; have hl2 := List.length_eraseIdx_of_lt hj.2.1; have hn : (t.l.eraseIdx (slJ t x)).Nodup := (axes_nodup ha).sublist (List.eraseIdx_sublist _ _); refine ⟨by rw [hl]; have := ha.1; omega, by rw [hl, hl2, ha.2.1], fun i hi => ⟨?_, h.dims.1 i (by rw [hl] at hi; rw [hl2]; have := ha.2.1; omega), nodup_not_take hn hi⟩⟩; obtain ⟨q, hq, e⟩ := getD_of_mem (List.mem_of_mem_eraseIdx (mem_getD hi)); rw [← e]; exact (ha.2.2 q hq).1
theorem SlOK.out (h : SlOK k p n t x v) : tensorL k p n (slT k n t x v).l (slT k n t x v).d (slT k n t x v).x := by
  have hd := h.dims; have ha := h.axes; have hx := h.all (prodI (t.d.eraseIdx (slJ t x))).toNat; refine ⟨h.ten.1, sizeI_ge.2 ⟨ha, hd.2.2⟩, ?_, fun a hm => ?_⟩
  · show ((slX (widthI k n) t (slJ t x) v (prodI t.d).toNat).length : Int) = sizeI (t.l.eraseIdx (slJ t x)) (t.d.eraseIdx (slJ t x)) * widthI k n
    rw [h.eq, sizeI_yes ha hd.2.2, hx.1, show (((prodI (t.d.eraseIdx (slJ t x))).toNat : Nat) : Int) = prodI (t.d.eraseIdx (slJ t x)) by omega]
  · have hm' : a ∈ slX (widthI k n) t (slJ t x) v (prodI t.d).toNat := hm; rw [h.eq] at hm'; exact hx.2 a hm'
end
noncomputable def fix1 (k n : Int) (t : Ten) (x v : Int) : Ten := if x ∈ t.l then slT k n t x v else t
noncomputable def fixTo (k n : Int) (t : Ten) (ls vs : List Int) : Nat → Ten
  | 0 => t
  | i + 1 => fix1 k n (fixTo k n t ls vs i) (ls.getD i 0) (vs.getD i 0)
theorem fixTo_congr {k n : Int} {t : Ten} {ls ls' vs vs' : List Int} : ∀ {i : Nat}, (∀ j, j < i → ls.getD j 0 = ls'.getD j 0 ∧ vs.getD j 0 = vs'.getD j 0) → fixTo k n t ls vs i = fixTo k n t ls' vs' i
  | 0, _ => rfl
  | i + 1, h => by
    have ih := fixTo_congr (k := k) (n := n) (t := t) (i := i) fun j hj => h j (by omega); rw [fixTo, fixTo, ih, (h i (by omega)).1, (h i (by omega)).2]
end Go.Proofs.YtiefkcaplhnnmaaGreat
namespace Go.Proofs.YtiefkcaplhnnmaaGreat
set_option maxRecDepth 100000
open Go.RowKit
section
variable (m : Int) (ss : List Stp) (C : List Int) (W : Int)
def done (S : List Int) : Prop := ∀ i, i < S.length → 0 ≤ S.getD i 0
end
section
variable {m : Int} {ss : List Stp} {C : List Int} {W : Int} {S : List Int} {T : Int}
end
end Go.Proofs.YtiefkcaplhnnmaaGreat
namespace Go.Proofs.YtiefkcaplhnnmaaGreat
set_option maxRecDepth 100000
open Go.RowKit
section
variable {P : Program} {n : Nat} {w0 : World} {K : Env} {HS : List PH} {d : Option Tmp} {ty : TypeId} {ps : String} {af : Array Edge} {g : Option (Nat × Bool)}
end
section
variable {m : Int} {ss : List Stp} {C : List Int} {W : Int} {S : List Int} {T : Int} {n : Nat}
end
def IntsB (xs : List Int) (b : Bool) (x : Value) (h : PH) : Prop := ∃ v, x = .tuple [v, .bool b].toArray ∧ IntsO xs v h
end Go.Proofs.YtiefkcaplhnnmaaGreat
namespace Go.Proofs.YtiefkcaplhnnmaaGreat
set_option maxRecDepth 100000
open Go.RowKit
def plainAt (m k : Nat) : Stp := if k = 0 then ⟨0, 1⟩ else ⟨(k : Int) + 1, (m : Int) + k - 1⟩
def plainTo (m j : Nat) : List Stp := (List.range j).map (plainAt m)
def plainL (m : Nat) : List Stp := plainTo m (m - 1)
theorem plain_step (m j : Nat) : plainTo m (j + 1) = plainTo m j ++ [plainAt m j] := by simp [plainTo, List.range_succ]
theorem plain_len (m j : Nat) : (plainTo m j).length = j := by simp [plainTo]
theorem plain_len' (m : Nat) : (plainL m).length = m - 1 := plain_len m _
theorem net_nil {k p n : Int} {ts : List Ten} {op : List Int} (h : netL k p n ts op) : netL k p n ts [] := by
  refine ⟨h.1, h.2.1, h.2.2.1, h.2.2.2.1, ?_⟩; have : axesL [] (dimsFor ts []) := ⟨by decide, rfl, fun j hj => by simp at hj⟩
  exact sizeI_ge.2 ⟨this, by simp [dimsFor, prodI]⟩
theorem net_one {k p n : Int} {ts : List Ten} {op : List Int} (h : netL k p n ts op) (x : Int) : netL k p n ts [x] ↔ dimOf ts x ≠ 0 := by
  constructor
  · intro h1; have := (open_at h1.2.2.2.2 (j := 0) (Nat.zero_lt_one)).2; have e : ([x] : List Int).getD 0 0 = x := rfl; rw [e] at this
    omega
  · intro h1; obtain ⟨t, ht, hx⟩ := dimOf_mem h1; have hax := net_axes h t ht; have hg := findI_get hx; have hd := net_dim h ht hx; have ha := hax.2.2 _ hg.1
    unfold axP at ha
    rw [hg.2] at ha; rw [← hd] at ha; refine ⟨h.1, h.2.1, h.2.2.1, h.2.2.2.1, sizeI_ge.2 ⟨⟨Nat.le_of_ble_eq_true rfl, rfl, fun j hj => ?_⟩, ?_⟩⟩
    · have e : j = 0 := by simp at hj; omega
      subst e; exact ⟨ha.1, ha.2.1, by simp⟩
    · have e : dimsFor ts [x] = [dimOf ts x] := rfl; rw [e, prodI_cons]; have := ha.2.1
      simp [prodI]
      omega
def totP (k p n : Int) (ts : List Ten) (op : List Int) : Prop := netL k p n ts op ∧ conP k p n ts [] (plainL ts.length)
open Classical in
noncomputable def totB (k p n : Int) (ts : List Ten) (op : List Int) : Bool := decide (totP k p n ts op)
noncomputable def totX (k p n : Int) (ts : List Ten) (op : List Int) : List Int := ifB (totB k p n ts op) (conT k p n ts [] (plainL ts.length)).x []
section
variable {k p n : Int} {ts : List Ten} {op : List Int}
theorem totB_true : totB k p n ts op = true ↔ totP k p n ts op := by simp [totB]
theorem totB_false : totB k p n ts op = false ↔ ¬ totP k p n ts op := by simp [totB]
theorem totX_yes (h : totP k p n ts op) : totX k p n ts op = (conT k p n ts [] (plainL ts.length)).x := by rw [totX, totB_true.2 h]; rfl
theorem totX_no (h : ¬ totP k p n ts op) : totX k p n ts op = [] := by rw [totX, totB_false.2 h]; rfl
theorem totP.inR (h : totP k p n ts op) : InR k p n (totX k p n ts op) := by
  obtain ⟨ht, hl⟩ := h.2.ten; rw [totX_yes h]; have hax := ten_axes ht; have hd : (conT k p n ts [] (plainL ts.length)).d = [] := List.eq_nil_of_length_eq_zero (by rw [← hax.2.1, hl]; rfl); have hx := ht.2.2.1; rw [hl, hd] at hx; have hs : sizeI [] [] = 1 := by
    have : axesL [] [] := ⟨by decide, rfl, fun j hj => by simp at hj⟩
    rw [sizeI_yes this (by decide)]; rfl
  rw [hs, Int.one_mul] at hx; exact ⟨by omega, ht.2.2.2⟩
theorem TotNo (h : ¬ totP k p n ts op) : IntsB (totX k p n ts op) (totB k p n ts op) (.tuple [.slice none 0 0, .bool false].toArray) emp :=
  ⟨.slice none 0 0, by rw [totB_false.2 h], by rw [totX_no h]; exact IntsO.nil⟩
theorem TotYes {v : Value} {g : PH} (h : totP k p n ts op) (r : IntsO (conT k p n ts [] (plainL ts.length)).x v g) : IntsB (totX k p n ts op) (totB k p n ts op) (.tuple [v, .bool true].toArray) g :=
  ⟨v, by rw [totB_true.2 h], by rw [totX_yes h]; exact r⟩
end
def marP (k p n : Int) (ts : List Ten) (op : List Int) (x : Int) : Prop := netL k p n ts op ∧ conP k p n ts [x] (plainL ts.length)
open Classical in
noncomputable def marB (k p n : Int) (ts : List Ten) (op : List Int) (x : Int) : Bool := decide (marP k p n ts op x)
noncomputable def marR (k p n : Int) (ts : List Ten) (op : List Int) (x : Int) : Ten := ifB (marB k p n ts op x) (conT k p n ts [x] (plainL ts.length)) noTen
section
variable {k p n x : Int} {ts : List Ten} {op : List Int}
theorem marB_true : marB k p n ts op x = true ↔ marP k p n ts op x := by simp [marB]
theorem marB_false : marB k p n ts op x = false ↔ ¬ marP k p n ts op x := by simp [marB]
theorem MarNo (h : ¬ marP k p n ts op x) : TenB (marR k p n ts op x) (marB k p n ts op x) (.tuple [tenV (.slice none 0 0) (.slice none 0 0) (.slice none 0 0), .bool false].toArray) emp :=
  ⟨.slice none 0 0, .slice none 0 0, .slice none 0 0, by rw [marB_false.2 h], by rw [marR, marB_false.2 h]; exact triO_none⟩
/-- What the contraction with this one label open says. -/
theorem mar_con (h : netL k p n ts op) : marR k p n ts op x = conR k p n ts [x] (plainL ts.length) ∧ marB k p n ts op x = conB k p n ts [x] (plainL ts.length) := by
  by_cases hc : conP k p n ts [x] (plainL ts.length)
  · have hm : marP k p n ts op x := ⟨h, hc⟩
    exact ⟨by rw [marR, marB_true.2 hm, conR, if_pos hc]; rfl, by rw [marB_true.2 hm, conB_true.2 hc]⟩
  · have hm : ¬ marP k p n ts op x := fun e => hc e.2; exact ⟨by rw [marR, marB_false.2 hm, conR, if_neg hc]; rfl, by rw [marB_false.2 hm, conB_false.2 hc]⟩
theorem mar_small : (marR k p n ts op x).x.length ≤ 100000 ∧ tenSize (marR k p n ts op x) ≤ 200000 := by
  by_cases h : marP k p n ts op x
  · have ht := h.2.ten.1; have hl := ten_len ht; have hw := width_range ht.1; have hs := sizeI_ge.1 ht.2.1; have hx := ht.2.2.1; rw [sizeI_yes hs.1 hs.2] at hx; have h1 := prodI_one fun d hd => (dims_mem (axes_dims hs.1) d hd).1; have hm : prodI (conT k p n ts [x] (plainL ts.length)).d * widthI k n ≤ 4096 * 6 := Int.mul_le_mul hs.2 hw.2 (by omega) (by omega); have e : marR k p n ts op x = conT k p n ts [x] (plainL ts.length) := by rw [marR, marB_true.2 h]; rfl
    rw [e]
    unfold tenSize
    omega
  · have e : marR k p n ts op x = noTen := by rw [marR, marB_false.2 h]; rfl
    rw [e]
    simp [tenSize]
end
end Go.Proofs.YtiefkcaplhnnmaaGreat
namespace Go.Proofs.YtiefkcaplhnnmaaGreat
set_option maxRecDepth 100000
open Go.RowKit
def onesT (k p n : Int) (t : Ten) : Ten := ⟨t.l, t.d, (List.replicate (prodI t.d).toNat (oneL k p n)).flatten⟩
def envTs (k p n : Int) (ts : List Ten) (i : Int) : List Ten := ts.set i.toNat (onesT k p n (ts.getD i.toNat noTen))
def envOp (ts : List Ten) (op : List Int) (i : Int) : List Int := joinI op (ts.getD i.toNat noTen).l
def envP (k p n : Int) (ts : List Ten) (op : List Int) (i : Int) : Prop := netL k p n ts op ∧ (0 ≤ i ∧ i < ts.length) ∧ conP k p n (envTs k p n ts i) (envOp ts op i) (plainL ts.length)
open Classical in
noncomputable def envB (k p n : Int) (ts : List Ten) (op : List Int) (i : Int) : Bool := decide (envP k p n ts op i)
noncomputable def envR (k p n : Int) (ts : List Ten) (op : List Int) (i : Int) : Ten := ifB (envB k p n ts op i) (conT k p n (envTs k p n ts i) (envOp ts op i) (plainL ts.length)) noTen
section
variable {k p n i : Int} {ts : List Ten} {op : List Int}
theorem envB_true : envB k p n ts op i = true ↔ envP k p n ts op i := by simp [envB]
end
theorem dimOf_set {ts : List Ten} {j : Nat} {t u : Ten} (ht : ts[j]? = some t) (hl : u.l = t.l) (hd : u.d = t.d) (x : Int) : dimOf (ts.set j u) x = dimOf ts x := by
  induction ts generalizing j with
  | nil => simp at ht
  | cons y ts ih =>
    cases j with
    | zero =>
      have e : y = t := by simpa using ht
      subst e; simp only [List.set_cons_zero, dimOf, hl, hd]
    | succ j =>
      have := ih (j := j) (by simpa using ht); simp only [List.set_cons_succ, dimOf, this]
theorem idxAt_map {ls ds op : List Int} {f : Int → Int} (hd : ds = ls.map f) (hs : ∀ x ∈ op, x ∈ ls) : idxAt ls ds op = op.map f := List.map_congr_left fun x hx => by
  have hg := findI_get (hs x hx); rw [hd, map_getD hg.1, hg.2]
theorem conP.dims {k p n : Int} {ts : List Ten} {op : List Int} {ss : List Stp} (h : conP k p n ts op ss) : (conT k p n ts op ss).d = op.map (dimOf ts) := by
  unfold conT
  by_cases hn : ts.length = 0
  · rw [if_pos hn, h.empty hn]; rfl
  · rw [if_neg hn]; have hf := (h.last hn).1; have r := run_ok h.1 ss.length (Nat.le_refl _) h.2; have hg := r.get (j := ts.length + ss.length - 1) (by omega); have hs := sum_ten hf.2.1 op; have e : (sumR k p n (lastT k p n ts op ss) op).d = (sumR k p n (lastT k p n ts op ss) op).l.map (dimOf ts) := by
      rw [hs.2.2, hs.2.1]; exact keep_map (t := lastT k p n ts op ss) (u := oneT k p n) hg.2.2 rfl op
    exact idxAt_map e fun x hx => hf.perm.perm.mem_iff.1 hx
def crP (k p n : Int) (ts : List Ten) (op : List Int) (i : Int) (u : Ten) : Prop := replP k p n ts op i u ∧ envP k p n ts op i ∧ pairP k p n u (envR k p n ts op i) op
section
variable {k p n i : Int} {ts : List Ten} {op : List Int} {u : Ten}
theorem envP.ten (h : envP k p n ts op i) : tensorL k p n (envR k p n ts op i).l (envR k p n ts op i).d (envR k p n ts op i).x ∧ (envR k p n ts op i).l = envOp ts op i ∧ (envR k p n ts op i).d = (envR k p n ts op i).l.map (dimOf ts) := by
  have e : envR k p n ts op i = conT k p n (envTs k p n ts i) (envOp ts op i) (plainL ts.length) := by rw [envR, envB_true.2 h]; rfl
  have ht := h.2.2.ten; have hd := h.2.2.dims; rw [e]; have hi : i.toNat < ts.length := by have := h.2.1; omega
  have hj : ts[i.toNat]? = some (ts.getD i.toNat noTen) := by simp [List.getD, hi]
  refine ⟨ht.1, ht.2, ?_⟩; rw [hd, ht.2]; exact List.map_congr_left fun x _ => dimOf_set (u := onesT k p n (ts.getD i.toNat noTen)) hj rfl rfl x
theorem crP.perm (h : crP k p n ts op i u) : PermOK k p n (pairR k p n u (envR k p n ts op i) op) op := by
  obtain ⟨h1, h2, _⟩ := pair_ten h.2.2; have he := h.2.1.ten; have hn := (net_open h.1.1).1; have hk : ∀ x, x ∈ (pairR k p n u (envR k p n ts op i) op).l ↔ x ∈ op := fun x => by
    rw [h2, mem_keep]; exact ⟨fun h => h.2, fun h => ⟨.inr (by rw [he.2.1]; exact mem_joinI.2 (.inl h)), h⟩⟩
  exact ⟨h1.1, h1, perm_of hn (fun x hx => (hk x).2 hx) (pigeon (axes_nodup (ten_axes h1)) fun x hx => (hk x).1 hx)⟩
end
end Go.Proofs.YtiefkcaplhnnmaaGreat
namespace Go.Proofs.YtiefkcaplhnnmaaGreat
set_option maxRecDepth 100000
open Go.RowKit

section
variable {P : Program} {n : Nat} {w0 : World} {K : Env} {HS : List PH} {d : Option Tmp} {ty : TypeId} {ps : String} {af : Array Edge} {g : Option (Nat × Bool)}
end
theorem NetO.none : NetO [] [] (.slice none 0 0) (.slice none 0 0) emp :=
  ⟨[], emp, emp, [], ⟨rfl, .inl ⟨rfl, rfl, rfl⟩⟩, IntsO.nil, OwnL.nil, ⟨⟨fun x hx => PDj.emp _, fun x hx => PDj.emp _, trivial⟩, fun x hx => by simp at hx; subst hx; exact PLe.emp _, fun k o e => by cases e⟩⟩
def bitsL (k p n : Int) (t : Ten) (m : Nat) : List Int := (List.range m).map fun (i : Nat) => if elt t.x (widthI k n) i = zeroL k p n then 0 else 1
def suppT (k p n : Int) (t : Ten) : Ten := ⟨t.l, t.d, bitsL k p n t (prodI t.d).toNat⟩
def suppTs (k p n : Int) (ts : List Ten) : List Ten := ts.map (suppT k p n)
end Go.Proofs.YtiefkcaplhnnmaaGreat
namespace Go.Proofs.YtiefkcaplhnnmaaGreat
set_option maxRecDepth 100000
open Go.RowKit
theorem net_sub {k p n : Int} {ts : List Ten} {op : List Int} (h : netL k p n ts op) (q : Int → Bool) : netL k p n ts (op.filter q) := by
  have hs := sizeI_ge.1 h.2.2.2.2; have hn := axes_nodup hs.1; have hd := dims_mem (axes_dims hs.1); refine ⟨h.1, h.2.1, h.2.2.1, h.2.2.2.1, sizeI_ge.2 ⟨⟨?_, by simp [dimsFor], fun j hj => ?_⟩, ?_⟩⟩
  · have := List.length_filter_le q op; have := hs.1.1
    omega
  · have hm := (List.mem_filter.1 (mem_getD hj)).1; obtain ⟨i, hi, e⟩ := getD_of_mem hm; have ha := hs.1.2.2 i hi
    unfold axP at ha ⊢
    rw [dimsFor, map_getD hj]; rw [dimsFor, map_getD hi, e] at ha; exact ⟨ha.1, ha.2.1, nodup_not_take (hn.sublist List.filter_sublist) hj⟩
  · have h1 := selP_prod q op (dimsFor ts op) fun d hd' => (hd d hd').1; rw [dimsFor, selP_map] at h1; have := hs.2; rw [dimsFor] at this ⊢
    omega
theorem mem_erase {ls : List Int} (hn : ls.Nodup) {x y : Int} (hx : x ∈ ls) : y ∈ ls.eraseIdx (findI ls x).toNat ↔ y ∈ ls ∧ y ≠ x := by
  rw [← erase_filter hn hx, List.mem_filter, decide_eq_true_eq]
section
variable {k p n : Int} {t : Ten} {x v : Int} {f : Int → Int}
theorem sl_dims (_h : tensorL k p n t.l t.d t.x) (_hx : x ∈ t.l) (hd : t.d = t.l.map f) : (slT k n t x v).d = (slT k n t x v).l.map f := by
  show t.d.eraseIdx (slJ t x) = (t.l.eraseIdx (slJ t x)).map f
  rw [map_erase, ← hd]
theorem fix1_mem (h : tensorL k p n t.l t.d t.x) {y : Int} : y ∈ (fix1 k n t x v).l ↔ y ∈ t.l ∧ (x ∈ t.l → y ≠ x) := by
  unfold fix1
  by_cases hx : x ∈ t.l
  · rw [if_pos hx]
    show y ∈ t.l.eraseIdx (findI t.l x).toNat ↔ _
    rw [mem_erase (axes_nodup (ten_axes h)) hx]; exact ⟨fun h => ⟨h.1, fun _ => h.2⟩, fun h => ⟨h.1, h.2 hx⟩⟩
  · rw [if_neg hx]; exact ⟨fun h => ⟨h, fun h' => absurd h' hx⟩, fun h => h.1⟩
theorem fix1_ten (h : tensorL k p n t.l t.d t.x) (hd : t.d = t.l.map f) (hv : 0 ≤ v ∧ v < f x) : tensorL k p n (fix1 k n t x v).l (fix1 k n t x v).d (fix1 k n t x v).x ∧ (fix1 k n t x v).d = (fix1 k n t x v).l.map f := by
  unfold fix1
  by_cases hx : x ∈ t.l
  · rw [if_pos hx]; have hj := sl_j h hx; have ok : SlOK k p n t x v := ⟨h, hx, by rw [hd, map_getD hj.1, hj.2.2]; exact hv⟩
    exact ⟨ok.out, sl_dims h hx hd⟩
  · rw [if_neg hx]; exact ⟨h, hd⟩
end
theorem sl_ok {k p n : Int} {t : Ten} {x v : Int} {f : Int → Int} (h : tensorL k p n t.l t.d t.x) (hd : t.d = t.l.map f) (hx : x ∈ t.l) (hv : 0 ≤ v ∧ v < f x) : SlOK k p n t x v := by
  have hj := sl_j h hx; exact ⟨h, hx, by rw [hd, map_getD hj.1, hj.2.2]; exact hv⟩
theorem fix1_net {k p n : Int} {ts : List Ten} {op : List Int} {x v : Int} (h : netL k p n ts op) (hv : 0 ≤ v ∧ v < dimOf ts x) : netL k p n (ts.map fun t => fix1 k n t x v) (op.filter fun y => decide (y ≠ x)) := by
  have hd := net_dmap h; refine net_of (net_sub h _) (by rw [List.length_map]; exact h.2.1) (fun t ht => ?_) (fun t ht => ?_) (fun y hy => ?_)
  · obtain ⟨u, hu, rfl⟩ := List.mem_map.1 ht; exact (fix1_ten (h.2.2.1 u hu) (hd u hu) hv).1
  · obtain ⟨u, hu, rfl⟩ := List.mem_map.1 ht; exact (fix1_ten (h.2.2.1 u hu) (hd u hu) hv).2
  · obtain ⟨hy1, hy2⟩ := List.mem_filter.1 hy; obtain ⟨u, hu, hyu⟩ := net_has h hy1; exact ⟨_, List.mem_map_of_mem hu, (fix1_mem (h.2.2.1 u hu)).2 ⟨hyu, fun _ => by simpa using hy2⟩⟩
theorem fix1_dim {k p n : Int} {ts : List Ten} {op : List Int} {x v y : Int} (h : netL k p n ts op) (hv : 0 ≤ v ∧ v < dimOf ts x) (hy : y ≠ x) : dimOf (ts.map fun t => fix1 k n t x v) y = dimOf ts y := by
  have hd := net_dmap h
  by_cases hm : ∃ t ∈ ts, y ∈ t.l
  · obtain ⟨u, hu, hyu⟩ := hm; exact dimOf_map (f := dimOf ts) (fun t ht => by
      obtain ⟨u, hu, rfl⟩ := List.mem_map.1 ht; exact (fix1_ten (h.2.2.1 u hu) (hd u hu) hv).2) ⟨_, List.mem_map_of_mem hu, (fix1_mem (h.2.2.1 u hu)).2 ⟨hyu, fun _ => hy⟩⟩
  · rw [dimOf_none hm, dimOf_none]; rintro ⟨t, ht, hyt⟩; obtain ⟨u, hu, rfl⟩ := List.mem_map.1 ht; exact hm ⟨u, hu, ((fix1_mem (h.2.2.1 u hu)).1 hyt).1⟩
noncomputable def tsI (k n : Int) (ts : List Ten) (ls vs : List Int) (i : Nat) : List Ten := ts.map fun t => fixTo k n t ls vs i
def opI (op ls : List Int) (i : Nat) : List Int := op.filter fun y => decide (y ∉ ls.take i)
theorem tsI_zero (k n : Int) (ts : List Ten) (ls vs : List Int) : tsI k n ts ls vs 0 = ts := by simp [tsI, fixTo]
theorem opI_zero (op ls : List Int) : opI op ls 0 = op := by simp [opI]
theorem tsI_step (k n : Int) (ts : List Ten) (ls vs : List Int) (i : Nat) : tsI k n ts ls vs (i + 1) = (tsI k n ts ls vs i).map fun t => fix1 k n t (ls.getD i 0) (vs.getD i 0) := by
  unfold tsI
  rw [List.map_map]
  rfl
theorem opI_step (op : List Int) {ls : List Int} {i : Nat} (h : i < ls.length) : opI op ls (i + 1) = (opI op ls i).filter fun y => decide (y ≠ ls.getD i 0) := by
  unfold opI
  rw [List.filter_filter]
  apply List.filter_congr
  intro y _; rw [Bool.eq_iff_iff, decide_eq_true_eq, Bool.and_eq_true, decide_eq_true_eq, decide_eq_true_eq, take_succ h, List.mem_append]; simp only [List.mem_singleton]
  constructor
  · intro h; exact ⟨fun e => h (.inr e), fun e => h (.inl e)⟩
  · rintro ⟨h1, h2⟩ (h | h)
    · exact h2 h
    · exact h1 h
/-- The values up to i fit. -/
def fitI (ts : List Ten) (ls vs : List Int) (i : Nat) : Prop := ∀ j, j < i → 0 ≤ vs.getD j 0 ∧ vs.getD j 0 < dimOf ts (ls.getD j 0)
theorem netI {k p n : Int} {ts : List Ten} {op ls vs : List Int} (h : netL k p n ts op) (hn : ls.Nodup) : ∀ i, i ≤ ls.length → fitI ts ls vs i → netL k p n (tsI k n ts ls vs i) (opI op ls i) ∧ ∀ j, i ≤ j → j < ls.length → dimOf (tsI k n ts ls vs i) (ls.getD j 0) = dimOf ts (ls.getD j 0)
  | 0, _, _ => by rw [tsI_zero, opI_zero]; exact ⟨h, fun _ _ _ => rfl⟩
  | i + 1, hi, hf => by
    obtain ⟨h1, h2⟩ := netI h hn i (by omega) fun j hj => hf j (by omega); have hv := hf i (by omega); rw [← h2 i (Nat.le_refl _) (by omega)] at hv; rw [tsI_step, opI_step op (by omega)]; refine ⟨fix1_net h1 hv, fun j hj hjl => ?_⟩; have hne : ls.getD j 0 ≠ ls.getD i 0 := fun e => by
      have a := find_at' hn hjl; have b := find_at' hn (show i < ls.length by omega); rw [e, b] at a
      omega
    rw [fix1_dim h1 hv hne, h2 j (by omega) hjl]
end Go.Proofs.YtiefkcaplhnnmaaGreat
namespace Go.Proofs.YtiefkcaplhnnmaaGreat
set_option maxRecDepth 100000
open Go.RowKit
set_option maxHeartbeats 1000000 in
theorem ct_i_allIn (xs ys : List Int) (v u : Value) (w : World) (r : IntsR xs v (hp w)) (r' : IntsR ys u (hp w)) : Calls Tryz.prog 120 [v, u].toArray w (RetV w (.bool (decide (∀ x ∈ xs, x ∈ ys)))) := by
  refine calls_in Tryz.func120 rfl Tryz.ntmps120 rfl (Sat.start w) ?_; have hle0 := r.le; have hle1 := r'.le; refine wp_sc (wp_sq (sq_v rfl (v_assign rfl) rfl (sq_end (qs_n (wp_sc (wp_sc (wp_sq (sq_v rfl (v_move rfl) rfl (sq_v rfl (v_len Tryz.underlying27 rfl r.sl) rfl (sq_v rfl (v_move rfl) rfl (sq_end (qs_n (wp_bl ?_))))))))))))); refine wp_lp (σ := Nat) (fun z_ => [(1, u), (4, .bool false), (7, v), (8, num xs.length), (9, num z_)]) (fun z_ => [hp w]) (fun z_ => z_ ≤ xs.length ∧ (∀ j, j < z_ → xs.getD j 0 ∈ ys)) (fun z_ => xs.length - z_) 0 (⟨by omega, fun j hj => by omega⟩) ⟨rfl, rfl, rfl, rfl, (by first | rfl | exact ksub rfl (by first | omega | (simp; done) | (simp; omega))), trivial⟩ (fun _ s => s) ?_; rintro i ⟨hi, ha⟩; refine wp_sc (wp_sq (sq_v rfl (v_lss rfl rfl) rfl (sq_end (qs_n (wp_sc ?_))))); refine wp_cd rfl (fun c10 => ?_) (fun c10 => ?_)
  · refine wp_sk (qs_n (wp_sc (wp_bl (wp_sc (wp_sq ?_))))); refine sq_v rfl (v_idxI Tryz.underlying27 ty_3 rfl rfl r (by first | omega | (simp; omega) | (simp only [List.length_append, List.length_cons, List.length_nil]; omega) | (rw [List.length_set]; omega)) (by first | omega | (simp; omega) | (simp only [List.length_append, List.length_cons, List.length_nil]; omega) | (rw [List.length_set]; omega))) rfl ?_; refine sq_v rfl (v_loadI (k := i) 0 ty_3 rfl rfl r (by first | omega | (simp; omega) | (simp only [List.length_append, List.length_cons, List.length_nil]; omega) | (rw [List.length_set]; omega))) rfl ?_; refine sq_v rfl (v_assign rfl) rfl (sq_end (qs_n (wp_sc (wp_sq (sq_v rfl (v_move rfl) rfl (sq_v rfl (v_move rfl) rfl (sq_u rfl (x_callv rfl en_64 (fun w s => ct_i_hasInt _ _ _ w (r'.mono (s.get 0 rfl)))) rfl (sq_v rfl (v_not rfl) rfl (sq_end (qs_n ?_)))))))))); refine wp_cnd rfl (fun c16 => ?_) (fun c16 => ?_)
    · refine wp_sc (wp_sq (sq_v rfl (v_assign rfl) rfl (sq_end (qs_n (wp_rt (qs_br (qs_r (qs_r (qs_br (qs_r ?_)))))))))); exact qs_ret1 rfl rfl (fin_q (i := 0) rfl (by rw [decide_eq_false]; exact fun h => absurd (h _ (mem_getD (k := i) (by omega))) (by simpa using c16)))
    · refine wp_sk (qs_bn (qs_n (wp_sq ?_))); refine sq_v rfl (v_add rfl rfl ((by unfold I64; omega))) rfl ?_; refine sq_v rfl (v_move rfl) rfl (sq_end ?_); exact qs_bk (i + 1) ⟨by omega, step_all ha (by simpa using c16)⟩ (by omega) ⟨rfl, rfl, rfl, rfl, (by first | rfl | exact ksub rfl (by first | omega | (simp; done) | (simp; omega))), trivial⟩ (fun _ s => s)
  · refine wp_ex (qs_x (qs_x (qs_bx (qs_n (wp_sc (wp_sq (sq_v rfl (v_assign rfl) rfl (sq_end (qs_n (wp_rt ?_)))))))))); exact qs_ret1 rfl rfl (fin_q (i := 0) rfl (by rw [decide_eq_true]; exact all_of fun j hj => ha j (by omega)))
theorem PermNo {k n : Int} {t : Ten} {ls : List Int} {q : Bool} (h : q = false) : TenB (ifB q (permT k n t ls) noTen) q (.tuple [tenV (.slice none 0 0) (.slice none 0 0) (.slice none 0 0), .bool false].toArray) emp :=
  ⟨.slice none 0 0, .slice none 0 0, .slice none 0 0, by rw [h], by rw [h]; exact triO_none⟩
def perP (k p n : Int) (t : Ten) (ls : List Int) : Prop := tensorL k p n t.l t.d t.x ∧ setL t.l ls
open Classical in
noncomputable def perB (k p n : Int) (t : Ten) (ls : List Int) : Bool := decide (perP k p n t ls)
theorem perB_true {k p n : Int} {t : Ten} {ls : List Int} : perB k p n t ls = true ↔ perP k p n t ls := by simp [perB]
theorem perB_no {k p n : Int} {t : Ten} {ls : List Int} (h : ¬ perP k p n t ls) : perB k p n t ls = false := by simp [perB, h]
theorem ct_i_PermuteTensor (k p n : Int) (t : Ten) (ls : List Int) (a b c v : Value) (w : World) (r1 : IntsR t.l a (hp w)) (r2 : IntsR t.d b (hp w)) (r3 : IntsR t.x c (hp w)) (rl : IntsR ls v (hp w)) :
    Calls Tryz.prog 121 [ringV k p n, tenV a b c, v].toArray w (Ret w emp (TenB (ifB (perB k p n t ls) (permT k n t ls) noTen) (perB k p n t ls))) := by
  refine calls_in Tryz.func121 rfl Tryz.ntmps121 rfl (Sat.start w) ?_; have hle0 := r1.le; have hle1 := r2.le; have hle2 := r3.le; have hle3 := rl.le; refine wp_sc (wp_sq ?_); refine sq_x rfl (x_box rfl rfl) rfl ?_; rintro _ _ ⟨b3, rfl, rfl⟩; refine sq_x rfl (x_box rfl rfl) rfl ?_; rintro _ _ ⟨b4, rfl, rfl⟩; refine sq_x rfl (x_alloc ty_55 rfl) rfl ?_; rintro _ _ ⟨b6, rfl, rfl⟩; refine sq_v rfl (v_assign rfl) rfl (sq_end (qs_n (wp_sc (wp_sc (wp_sq (sq_v rfl (v_loadNB 2 ty_24 rfl rfl rfl rfl) rfl (sq_v rfl (v_loadNB 1 ty_55 rfl rfl rfl rfl) rfl (sq_u rfl (x_callv rfl en_42 (fun w s => ct_i_TensorOk _ _ _ _ _ _ _ _ _ w (r1.mono (s.get 3 rfl)) (r2.mono (s.get 3 rfl)) (r3.mono (s.get 3 rfl)))) rfl ?_)))))))); refine sq_bb 10 rfl (fun c10 => ?_) (fun c10 => ?_)
  · refine sq_v rfl (v_not rfl) rfl (sq_v rfl (v_move rfl) rfl (sq_v rfl (v_fieldAddr fd_55_0 ty_27 (by decide) rfl) rfl (sq_v rfl (v_loadB 1 ty_27 rfl rfl rfl) rfl (sq_v rfl (v_move rfl) rfl (sq_u rfl (x_callv rfl en_134 (fun w s => ct_i_sameLabels _ _ _ _ w (r1.mono (s.get 3 rfl)) (rl.mono (s.get 3 rfl)))) rfl (sq_v rfl (v_not rfl) rfl (sq_v rfl (v_pickf rfl rfl) rfl (sq_end (qs_n ?_))))))))); refine wp_cn _ rfl (fun c18 => ?_) (fun c18 => ?_)
    · refine wp_sc (wp_sq (sq_v rfl (v_build [.slice none 0 0, .slice none 0 0, .slice none 0 0] rfl (by kernel_rfl)) rfl ?_)); refine sq_m 0 rfl rfl (m_store 0 ty_55 rfl rfl rfl rfl (by simp [one_sl]) rfl (Nat.le_of_ble_eq_true rfl)) rfl ?_; rintro _ _ ⟨rfl, rfl⟩; refine sq_v rfl (v_assign rfl) rfl (sq_end (qs_n (wp_rt (qs_r ?_)))); exact qs_retct 0 rfl ty_55 rfl rfl rfl rfl (fin_e (i := 3) rfl (PermNo (perB_no (fun h => by first | exact tensorB_false.1 c10 h.1 | exact setB_false.1 c18 h.2))))
    · refine wp_sk (qs_n (wp_sc (wp_sq (sq_v rfl (v_loadNB 2 ty_24 rfl rfl rfl rfl) rfl (sq_v rfl (v_loadNB 1 ty_55 rfl rfl rfl rfl) rfl (sq_v rfl (v_move rfl) rfl ?_)))))); have h1 := tensorB_true.1 c10; have h2 := setB_true.1 c18; have hok : PermOK k p n t ls := ⟨h1.1, h1, setL_perm h2⟩
      refine sq_x rfl (x_call rfl en_135 (fun w s => ct_i_rawPermute _ _ _ _ _ _ _ _ _ w (r1.mono (s.get 3 rfl)) (r2.mono (s.get 3 rfl)) (r3.mono (s.get 3 rfl)) (rl.mono (s.get 3 rfl)) (by first | assumption | omega))) rfl ?_; rintro _ h23 ⟨va23, vb23, vc23, rfl, o23⟩; refine sq_m 1 rfl rfl (m_store 1 ty_55 rfl rfl rfl rfl (by simp [o23.toR.1.sl.one, o23.toR.2.1.sl.one, o23.toR.2.2.sl.one]) rfl (Nat.le_of_ble_eq_true rfl)) rfl ?_; rintro _ _ ⟨rfl, rfl⟩; refine sq_v rfl (v_assign rfl) rfl (sq_end (qs_n (wp_rt ?_))); exact qs_retct 1 rfl ty_55 rfl rfl rfl rfl (fin_t 0 (i := 4) rfl rfl rfl (by rw [perB_true.2 ⟨h1, h2⟩]; exact ⟨_, _, _, rfl, o23⟩))
  · refine sq_v rfl (v_not rfl) rfl (sq_v rfl (v_move rfl) rfl (sq_s rfl rfl (sq_s rfl rfl (sq_s rfl rfl (sq_s rfl rfl (sq_s rfl rfl (sq_v rfl (v_pickt rfl rfl) rfl (sq_end (qs_n (wp_ct rfl (wp_sc (wp_sq (sq_v rfl (v_build [.slice none 0 0, .slice none 0 0, .slice none 0 0] rfl (by kernel_rfl)) rfl ?_))))))))))))); refine sq_m 0 rfl rfl (m_store 0 ty_55 rfl rfl rfl rfl (by simp [one_sl]) rfl (Nat.le_of_ble_eq_true rfl)) rfl ?_; rintro _ _ ⟨rfl, rfl⟩; refine sq_v rfl (v_assign rfl) rfl (sq_end (qs_n (wp_rt (qs_r ?_)))); exact qs_retct 0 rfl ty_55 rfl rfl rfl rfl (fin_e (i := 3) rfl (PermNo (perB_no (fun h => by first | exact tensorB_false.1 c10 h.1 | exact setB_false.1 c18 h.2))))
set_option maxHeartbeats 1000000 in
theorem ct_i_FinishTensor (k p n : Int) (ts : List Ten) (op : List Int) (t : Ten) (vt vo a b c : Value) (w : World) (r : TensR ts vt (hp w)) (r' : IntsR op vo (hp w)) (r1 : IntsR t.l a (hp w)) (r2 : IntsR t.d b (hp w)) (r3 : IntsR t.x c (hp w)) (hs : op.length ≤ 1048576) :
    Calls Tryz.prog 89 [netV k p n vt vo, tenV a b c].toArray w (Ret w emp (TenB (finR k p n ts op t) (finB k p n ts op t))) := by
  refine calls_in Tryz.func89 rfl Tryz.ntmps89 rfl (Sat.start w) ?_; have hle0 := r.le; obtain ⟨cs_r, rr_r, hc_r⟩ := r.at; have hle1 := r'.le; have hle2 := r1.le; have hle3 := r2.le; have hle4 := r3.le; refine wp_sc (wp_sq ?_); refine sq_x rfl (x_box rfl rfl) rfl ?_; rintro _ _ ⟨b2, rfl, rfl⟩; refine sq_x rfl (x_box rfl rfl) rfl ?_; rintro _ _ ⟨b3, rfl, rfl⟩; refine sq_x rfl (x_alloc ty_55 rfl) rfl ?_; rintro _ _ ⟨b4, rfl, rfl⟩; refine sq_v rfl (v_assign rfl) rfl (sq_end (qs_n (wp_sc (wp_sc (wp_sq (sq_v rfl (v_loadNB 2 ty_29 rfl rfl rfl rfl) rfl (sq_u rfl (x_callv rfl en_14 (fun w s => ct_i_NetworkOk _ _ _ _ _ _ _ w (r.mono (s.get 3 rfl)) (r'.mono (s.get 3 rfl)) (by first | assumption | omega))) rfl ?_))))))); refine sq_bb 7 rfl (fun c7 => ?_) (fun c7 => ?_)
  · refine sq_v rfl (v_not rfl) rfl (sq_v rfl (v_move rfl) rfl (sq_v rfl (v_fieldAddr fd_29_0 ty_24 (by decide) rfl) rfl (sq_v rfl (v_loadNB 2 ty_24 rfl rfl rfl rfl) rfl (sq_v rfl (v_loadNB 1 ty_55 rfl rfl rfl rfl) rfl (sq_u rfl (x_callv rfl en_42 (fun w s => ct_i_TensorOk _ _ _ _ _ _ _ _ _ w (r1.mono (s.get 3 rfl)) (r2.mono (s.get 3 rfl)) (r3.mono (s.get 3 rfl)))) rfl (sq_v rfl (v_not rfl) rfl (sq_v rfl (v_pickf rfl rfl) rfl ?_))))))); refine sq_bn 15 rfl (fun c15 => ?_) (fun c15 => ?_)
    · refine sq_v rfl (v_move rfl) rfl (sq_s rfl rfl (sq_s rfl rfl (sq_s rfl rfl (sq_s rfl rfl (sq_s rfl rfl (sq_s rfl rfl (sq_v rfl (v_pickt rfl rfl) rfl (sq_end (qs_n (wp_ct rfl (wp_sc (wp_sq (sq_v rfl (v_build [.slice none 0 0, .slice none 0 0, .slice none 0 0] rfl (by kernel_rfl)) rfl ?_))))))))))))); refine sq_m 0 rfl rfl (m_store 0 ty_55 rfl rfl rfl rfl (by simp [one_sl]) rfl (Nat.le_of_ble_eq_true rfl)) rfl ?_; rintro _ _ ⟨rfl, rfl⟩; refine sq_v rfl (v_assign rfl) rfl (sq_end (qs_n (wp_rt (qs_r ?_)))); exact qs_retct 0 rfl ty_55 rfl rfl rfl rfl (fin_e (i := 3) rfl (FinNo (fun h => by first | exact netB_false.1 c7 h.1 | exact tensorB_false.1 c15 h.2.1 | exact absurd h.2.2 (by simpa using c23))))
    · refine sq_v rfl (v_move rfl) rfl (sq_v rfl (v_fieldAddr fd_29_2 ty_27 (by decide) rfl) rfl (sq_v rfl (v_loadB 2 ty_27 rfl rfl rfl) rfl (sq_v rfl (v_fieldAddr fd_55_0 ty_27 (by decide) rfl) rfl (sq_v rfl (v_loadB 1 ty_27 rfl rfl rfl) rfl (sq_u rfl (x_callv rfl en_120 (fun w s => ct_i_allIn _ _ _ _ w (r'.mono (s.get 3 rfl)) (r1.mono (s.get 3 rfl)))) rfl (sq_v rfl (v_not rfl) rfl (sq_v rfl (v_pickf rfl rfl) rfl (sq_end (qs_n ?_))))))))); refine wp_cnd rfl (fun c23 => ?_) (fun c23 => ?_)
      · refine wp_sc (wp_sq (sq_v rfl (v_build [.slice none 0 0, .slice none 0 0, .slice none 0 0] rfl (by kernel_rfl)) rfl ?_)); refine sq_m 0 rfl rfl (m_store 0 ty_55 rfl rfl rfl rfl (by simp [one_sl]) rfl (Nat.le_of_ble_eq_true rfl)) rfl ?_; rintro _ _ ⟨rfl, rfl⟩; refine sq_v rfl (v_assign rfl) rfl (sq_end (qs_n (wp_rt (qs_r ?_)))); exact qs_retct 0 rfl ty_55 rfl rfl rfl rfl (fin_e (i := 3) rfl (FinNo (fun h => by first | exact netB_false.1 c7 h.1 | exact tensorB_false.1 c15 h.2.1 | exact absurd h.2.2 (by simpa using c23))))
      · refine wp_sk (qs_n (wp_sc (wp_rj 13 [(0, true), (1, true), (2, true), (3, true), (4, true), (5, true), (6, true), (8, true), (9, true), (7, false), (10, false), (11, true), (12, true), (13, false), (14, false)] mixed_ok (by kernel_rfl) ?_))); have hnet := netB_true.1 c7; have hten := tensorB_true.1 c15; have hall : ∀ x ∈ op, x ∈ t.l := (by simpa using c23); have hfp : finP k p n ts op t := ⟨hnet, hten, hall⟩; have hpm := hfp.perm; have hB := perB_true.2 (show perP k p n (sumR k p n t op) op from ⟨hpm.ten, setL_of_perm hpm.perm.symm (net_open hnet).1⟩); refine rj_v rfl rfl (v_fieldAddr fd_29_0 ty_24 (by decide) rfl) rfl (rj_v rfl rfl (v_loadNB 2 ty_24 rfl rfl rfl rfl) rfl (rj_v rfl rfl (v_fieldAddr fd_29_0 ty_24 (by decide) rfl) rfl (rj_v rfl rfl (v_loadNB 2 ty_24 rfl rfl rfl rfl) rfl (rj_v rfl rfl (v_loadNB 1 ty_55 rfl rfl rfl rfl) rfl (rj_v rfl rfl (v_fieldAddr fd_29_2 ty_27 (by decide) rfl) rfl (rj_v rfl rfl (v_loadB 2 ty_27 rfl rfl rfl) rfl (rj_v rfl rfl (v_fieldAddr fd_29_2 ty_27 (by decide) rfl) rfl (rj_v rfl rfl (v_loadB 2 ty_27 rfl rfl rfl) rfl ?_)))))))); refine rj_x rfl rfl (x_call rfl en_32 (fun w s => ct_i_SumLabels _ _ _ _ _ _ _ _ _ w (r1.mono (s.get 3 rfl)) (r2.mono (s.get 3 rfl)) (r3.mono (s.get 3 rfl)) (r'.mono (s.get 3 rfl)))) rfl ?_; rintro _ h32 ⟨va32, vb32, vc32, rfl, o32⟩; refine rj_x rfl rfl (x_call rfl en_121 (fun w s => ct_i_PermuteTensor _ _ _ _ _ _ _ _ _ w (o32.toR.1.mono (s.get 0 rfl)) (o32.toR.2.1.mono (s.get 0 rfl)) (o32.toR.2.2.mono (s.get 0 rfl)) (r'.mono (s.get 4 rfl)))) rfl ?_; rintro _ h35 ⟨va35, vb35, vc35, rfl, o35⟩; refine rj_v rfl rfl (v_extract rfl rfl) rfl (rj_v rfl rfl (v_extract rfl rfl) rfl ?_); refine rj_m 2 rfl rfl rfl rfl (m_store 2 ty_55 rfl rfl rfl rfl (by simp [o35.toR.1.sl.one, o35.toR.2.1.sl.one, o35.toR.2.2.sl.one]) rfl (Nat.le_of_ble_eq_true rfl)) rfl ?_; rintro _ _ ⟨rfl, rfl⟩; refine rj_fv rfl rfl (v_assign rfl) rfl (rj_end ?_); rw [hB] at o35; refine qs_n (wp_rt ?_); exact qs_retct 2 rfl ty_55 rfl rfl rfl rfl (fin_t 0 (i := 5) rfl rfl rfl (by rw [hB]; exact FinYes hfp o35))
  · refine sq_v rfl (v_not rfl) rfl (sq_v rfl (v_move rfl) rfl (sq_s rfl rfl (sq_s rfl rfl (sq_s rfl rfl (sq_s rfl rfl (sq_s rfl rfl (sq_v rfl (v_pickt rfl rfl) rfl (sq_v rfl (v_move rfl) rfl (sq_s rfl rfl ?_))))))))); refine sq_s rfl rfl (sq_s rfl rfl (sq_s rfl rfl (sq_s rfl rfl (sq_s rfl rfl (sq_v rfl (v_pickt rfl rfl) rfl (sq_end (qs_n (wp_ct rfl (wp_sc (wp_sq (sq_v rfl (v_build [.slice none 0 0, .slice none 0 0, .slice none 0 0] rfl (by kernel_rfl)) rfl ?_))))))))))); refine sq_m 0 rfl rfl (m_store 0 ty_55 rfl rfl rfl rfl (by simp [one_sl]) rfl (Nat.le_of_ble_eq_true rfl)) rfl ?_; rintro _ _ ⟨rfl, rfl⟩; refine sq_v rfl (v_assign rfl) rfl (sq_end (qs_n (wp_rt (qs_r ?_)))); exact qs_retct 0 rfl ty_55 rfl rfl rfl rfl (fin_e (i := 3) rfl (FinNo (fun h => by first | exact netB_false.1 c7 h.1 | exact tensorB_false.1 c15 h.2.1 | exact absurd h.2.2 (by simpa using c23))))
end Go.Proofs.YtiefkcaplhnnmaaGreat
namespace Go.Proofs.YtiefkcaplhnnmaaGreat
set_option maxRecDepth 100000
open Go.RowKit
theorem OwnH.at {ts : List Ten} {cs : List Value} {h : PH} (o : OwnH (flat ts) cs h) (i : Nat) (hi : i < ts.length) : ∃ t a b c, ts[i]? = some t ∧ (cs.drop (i * 3)).take 3 = [a, b, c] ∧ IntsR t.l a h ∧ IntsR t.d b h ∧ IntsR t.x c h := by
  obtain ⟨l, ol, m⟩ := o; have ht : ts[i]? = some ts[i] := List.getElem?_eq_getElem hi; obtain ⟨f1, f2, f3⟩ := tens_get ht; obtain ⟨a, h1, e1, g1, r1⟩ := ol.own _ _ f1; obtain ⟨b, h2, e2, g2, r2⟩ := ol.own _ _ f2; obtain ⟨c, h3, e3, g3, r3⟩ := ol.own _ _ f3; exact ⟨_, a, b, c, ht, three_at e1 e2 e3, r1.toR.mono (m.le _ (List.mem_of_getElem? g1)), r2.toR.mono (m.le _ (List.mem_of_getElem? g2)), r3.toR.mono (m.le _ (List.mem_of_getElem? g3))⟩
theorem stp_take {ss : List Stp} {i m : Nat} {x : Stp} (h : (ss.take m)[i]? = some x) : ss[i]? = some x ∧ i < m ∧ i < ss.length := by
  have h1 := (List.getElem?_eq_some_iff.1 h).1; simp only [List.length_take] at h1; rw [List.getElem?_take, if_pos (by omega)] at h; exact ⟨h, by omega, by omega⟩
set_option maxHeartbeats 4000000 in
theorem ct_i_PartialNetwork (k p n m : Int) (ts : List Ten) (op : List Int) (ss : List Stp) (vt vo v : Value) (w : World) (r : TensR ts vt (hp w)) (r' : IntsR op vo (hp w)) (rv : StepsR ss v (hp w)) (hs : op.length ≤ 1048576) :
    Calls Tryz.prog 88 [netV k p n vt vo, v, num m].toArray w (Ret w emp (PartR k p n ts op ss m)) := by
  refine calls_in Tryz.func88 rfl Tryz.ntmps88 rfl (Sat.start w) ?_; have hle0 := r.le; obtain ⟨cs_r, rr_r, hc_r⟩ := r.at; have hle1 := r'.le; have hle2 := rv.le; obtain ⟨cs_rv, rr_rv, hc_rv⟩ := rv.at; refine wp_sc (wp_sq ?_); refine sq_x rfl (x_box rfl rfl) rfl ?_; rintro _ _ ⟨b3, rfl, rfl⟩; refine sq_x rfl (x_alloc ty_29 rfl) rfl ?_; rintro _ _ ⟨b6, rfl, rfl⟩; refine sq_v rfl (v_assign rfl) rfl (sq_end (qs_n (wp_sc (wp_sc (wp_sq (sq_v rfl (v_loadNB 1 ty_29 rfl rfl rfl rfl) rfl (sq_v rfl (v_move rfl) rfl (sq_u rfl (x_callv rfl en_115 (fun w s => ct_i_OrderOk _ _ _ _ _ _ _ _ _ w (r.mono (s.get 2 rfl)) (r'.mono (s.get 2 rfl)) (rv.mono (s.get 2 rfl)) (by first | assumption | omega))) rfl ?_)))))))); refine sq_bb 21 rfl (fun c21 => ?_) (fun c21 => ?_)
  · refine sq_v rfl (v_not rfl) rfl (sq_v rfl (v_move rfl) rfl (sq_v rfl (v_move rfl) rfl (sq_v rfl (v_lss rfl rfl) rfl (sq_v rfl (v_pickf rfl rfl) rfl ?_)))); refine sq_bd 26 rfl (fun c26 => ?_) (fun c26 => ?_)
    · refine sq_v rfl (v_move rfl) rfl (sq_s rfl rfl (sq_s rfl rfl (sq_s rfl rfl (sq_s rfl rfl (sq_v rfl (v_pickt rfl rfl) rfl (sq_end (qs_n (wp_ct rfl (wp_sc (wp_sq (sq_v rfl (v_build [num 0, num 0, num 0, .slice none 0 0, .slice none 0 0] rfl (by kernel_rfl)) rfl ?_))))))))))); refine sq_m 0 rfl rfl (m_store 0 ty_29 rfl rfl rfl rfl (by simp [one_int, one_sl]) rfl (Nat.le_of_ble_eq_true rfl)) rfl ?_; rintro _ _ ⟨rfl, rfl⟩; refine sq_v rfl (v_assign rfl) rfl (sq_end (qs_n (wp_rt (qs_r ?_)))); exact qs_retct 0 rfl ty_29 rfl rfl rfl rfl (fin_e (i := 2) rfl (PartNo (fun h => by first | exact orderB_false.1 c21 h.1 | (have := h.2.1; omega))))
    · refine sq_v rfl (v_move rfl) rfl (sq_v rfl (v_move rfl) rfl (sq_v rfl (v_move rfl) rfl (sq_v rfl (v_len Tryz.underlying80 rfl rv.sl) rfl (sq_v rfl (v_gtr rfl rfl) rfl (sq_v rfl (v_pickf rfl rfl) rfl (sq_end (qs_n ?_))))))); refine wp_cd rfl (fun c32 => ?_) (fun c32 => ?_)
      · refine wp_sc (wp_sq (sq_v rfl (v_build [num 0, num 0, num 0, .slice none 0 0, .slice none 0 0] rfl (by kernel_rfl)) rfl ?_)); refine sq_m 0 rfl rfl (m_store 0 ty_29 rfl rfl rfl rfl (by simp [one_int, one_sl]) rfl (Nat.le_of_ble_eq_true rfl)) rfl ?_; rintro _ _ ⟨rfl, rfl⟩; refine sq_v rfl (v_assign rfl) rfl (sq_end (qs_n (wp_rt (qs_r ?_)))); exact qs_retct 0 rfl ty_29 rfl rfl rfl rfl (fin_e (i := 2) rfl (PartNo (fun h => by first | exact orderB_false.1 c21 h.1 | (have := h.2.1; omega))))
      · refine wp_sk (qs_n (wp_sc (wp_sq (sq_v rfl (v_loadNB 1 ty_29 rfl rfl rfl rfl) rfl ?_)))); have hord := orderB_true.1 c21; have hnet := hord.1; have hax := net_axes hnet; have h12 := hnet.2.1; refine sq_x rfl (x_call rfl en_116 (fun w s => ct_i_startState _ _ _ _ _ _ _ w (r.mono (s.get 2 rfl)) (r'.mono (s.get 2 rfl)) hax h12)) rfl ?_; rintro _ h35 ⟨bb, arr, rfl, rst, _⟩; refine sq_v rfl (v_assign rfl) rfl (sq_end (qs_n (wp_sc (wp_sq (sq_v rfl (v_loadNB 2 ty_29 rfl rfl rfl rfl) rfl ?_))))); refine sq_x rfl (x_call rfl en_67 (fun w s => ct_i_copyNetwork _ _ _ _ _ _ _ w (r.mono (s.get 3 rfl)) (r'.mono (s.get 3 rfl)) (by first | assumption | omega) (by first | assumption | omega))) rfl ?_; rintro _ h37 ⟨vt37, vo37, rfl, o37⟩; obtain ⟨cs_T_37, rr_T_37, hc_T_37⟩ := o37.toR.1.at; refine sq_x rfl (x_alloc ty_29 rfl) rfl ?_; rintro _ _ ⟨b9, rfl, rfl⟩; refine sq_m 0 rfl rfl (m_store 0 ty_29 rfl rfl rfl rfl (by simp [one_int, o37.toR.1.sl.one, o37.toR.2.sl.one]) rfl (Nat.le_of_ble_eq_true rfl)) rfl ?_; rintro _ _ ⟨rfl, rfl⟩; refine sq_end ?_; obtain ⟨cs0, g0, go, gl, rr0, ro, oh, md37⟩ := o37.split; have hst0 := few_steps hax hord.2.2; refine qs_s [box b9 [num k, num p, num n, vt37, vo37] 29, h35, box b6 [num 0, num 0, num 0, .slice none 0 0, .slice none 0 0] 29, box b3 [num k, num p, num n, vt, vo] 29, hp w, g0, go, gl] (fun _ s => Sat.open (A := [box b9 [num k, num p, num n, vt37, vo37] 29, h35, box b6 [num 0, num 0, num 0, .slice none 0 0, .slice none 0 0] 29, box b3 [num k, num p, num n, vt, vo] 29, hp w]) md37 (s.pick [1, 0, 2, 3, 4, 5] (by decide) rfl)) (qs_n (wp_sc (wp_sc (wp_sq (sq_v rfl (v_move rfl) rfl (sq_v rfl (v_move rfl) rfl (sq_v rfl (v_sliceH Tryz.underlying80 ty_114 rfl rfl  rv (by omega) (by omega)) rfl ?_))))))); obtain ⟨cs_S_40, rr_S_40, hc_S_40⟩ := (rv.subH (hi := (m : Int).toNat) (by omega)).at; refine sq_v rfl (v_len Tryz.underlying80 rfl (rv.subH (hi := (m : Int).toNat) (by omega)).sl) rfl (sq_v rfl (v_move rfl) rfl (sq_end (qs_n (wp_bl ?_)))); refine wp_lp (σ := Nat × Value × PH × (List Value) × PH × PH) (fun z_ => [(3, .pointer (some ⟨b3, 0, none⟩)), (6, .pointer (some ⟨b6, 0, none⟩)), (7, .bool false), (8, ptrV bb), (9, .pointer (some ⟨b9, 0, none⟩)), (29, v), (40, subV v 0 ((m : Int).toNat) 2), (41, num (ss.take ((m : Int).toNat)).length), (42, num z_.1)]) (fun z_ => [box b9 [num k, num p, num n, z_.2.1, vo37] 29, z_.2.2.2.2.2, box b6 [num 0, num 0, num 0, .slice none 0 0, .slice none 0 0] 29, box b3 [num k, num p, num n, vt, vo] 29, hp w, z_.2.2.1, go, z_.2.2.2.2.1]) (fun z_ => z_.1 ≤ (ss.take (m : Int).toNat).length ∧ (∀ j, j < z_.1 → runFit k p n ts op ss j) ∧ StO arr vo (runS ts op ss z_.1) bb z_.2.2.2.2.2 ∧ OwnH (flat (outTo k p n ts op ss z_.1)) z_.2.2.2.1 z_.2.2.2.2.1 ∧ RowO (55) z_.2.2.2.1 (outTo k p n ts op ss z_.1).length 3 z_.2.1 z_.2.2.1) (fun z_ => (ss.take (m : Int).toNat).length - z_.1) (0, vt37, g0, cs0, gl, h35) (⟨by (try dsimp only); omega, fun j hj => by omega, rst, by (try dsimp only); rw [out_zero]; exact oh, by (try dsimp only); rw [out_zero]; exact rr0⟩) ⟨rfl, rfl, rfl, rfl, rfl, rfl, rfl, rfl, (by first | rfl | exact ksub rfl (by first | omega | (simp; done) | (simp; omega))), trivial⟩ (fun _ s => s) ?_; rintro ⟨i, lx, ha, cs, hl, g⟩ ⟨hi, hfit, rst, hlv, rr⟩; dsimp only at hi hfit rst hlv rr ⊢; have hil : i ≤ ss.length ∧ i ≤ (m : Int).toNat := by rw [List.length_take] at hi; omega
        have hRO := run_ok hord i hil.1 hfit; have hfs := run_fine (ss := ss) hnet i; have hall := run_all (ts := ts) (op := op) (ss := ss) hil.1; have hol := out_len (k := k) (p := p) (n := n) (ts := ts) (op := op) (ss := ss) i; obtain ⟨lv0, rst'⟩ := rst.toR; refine wp_sc (wp_sq (sq_v rfl (v_lss rfl rfl) rfl (sq_end (qs_n (wp_sc ?_))))); refine wp_cd rfl (fun c43 => ?_) (fun c43 => ?_)
        · refine wp_sk (qs_n (wp_sc (wp_bl (wp_sc (wp_sq ?_))))); obtain ⟨x44, hx44, hcs44⟩ := hc_S_40 (i) (by first | omega | (rw [List.length_set]; omega)); refine sq_v rfl (v_indexAddr Tryz.underlying80 ty_114 rfl rfl rr_S_40 (by decide) (by omega) (by first | omega | (rw [List.length_set]; omega))) rfl ?_; refine sq_v rfl (v_loadNE 4 ty_114 rfl rfl rr_S_40 (by have := rr_S_40.1; omega) rfl hcs44) rfl ?_; refine sq_x rfl (x_alloc ty_114 rfl) rfl ?_; rintro _ _ ⟨b11, rfl, rfl⟩; refine sq_m 0 rfl rfl (m_store 0 ty_114 rfl rfl rfl rfl (by simp [Value.oneCell']) rfl (Nat.le_of_ble_eq_true rfl)) rfl ?_; rintro _ _ ⟨rfl, rfl⟩; refine sq_end ?_; obtain ⟨hx, him, hiss⟩ := stp_take hx44; obtain ⟨hst, hs1, _⟩ := run_step hord hiss; have htwo := hRO.two hord hiss; rw [stpAt_of hx] at hst hs1; have p0 := place_ge.2 hst.1; have q0 := place_ge.2 hst.2.1; obtain ⟨hpa, hpl⟩ := place_at hst.1; obtain ⟨hqb, hql⟩ := place_at hst.2.1; have hosn := out_step hord hiss hRO (by rw [stpAt_of hx]; exact hpa) (by rw [stpAt_of hx]; exact hqb); have hfa := hfs.few x44.a.toNat; have hfb := hfs.few x44.b.toNat; refine qs_n (wp_sc (wp_rj 10 [(0, true), (1, true), (2, true), (4, true), (5, true), (6, true), (3, false), (7, false), (8, true), (9, true)] mixed_ok (by kernel_rfl) (rj_v rfl rfl (v_move rfl) rfl (rj_v rfl rfl (v_fieldAddr fd_114_0 ty_3 (by decide) rfl) rfl (rj_v rfl rfl (v_loadB 0 ty_3 rfl rfl rfl) rfl (rj_v rfl rfl (v_move rfl) rfl (rj_v rfl rfl (v_fieldAddr fd_114_1 ty_3 (by decide) rfl) rfl (rj_v rfl rfl (v_loadB 0 ty_3 rfl rfl rfl) rfl (rj_u rfl rfl (x_callv rfl en_117 (fun w s => ct_i_place _ _ _ (runS ts op ss i) _ _ w (rst'.mono (s.get 2 rfl)))) rfl (rj_u rfl rfl (x_callv rfl en_117 (fun w s => ct_i_place _ _ _ (runS ts op ss i) _ _ w (rst'.mono (s.get 2 rfl)))) rfl (rj_v rfl rfl (v_assign rfl) rfl ?_))))))))))); refine rj_v rfl rfl (v_assign rfl) rfl (rj_end (qs_n (wp_sc ?_))); refine wp_ra (σ := Nat × PH × PH × Value × Value × Value × Value) 22 (fun z_ => IntsO ((runS ts op ss i).res op x44.a.toNat x44.b.toNat) z_.2.2.2.1 z_.2.2.1 ∧ TriO (pairR k p n (runA k p n ts op ss i) (runB k p n ts op ss i) ((runS ts op ss i).res op x44.a.toNat x44.b.toNat)) z_.2.2.2.2.1 z_.2.2.2.2.2.1 z_.2.2.2.2.2.2 z_.2.1) (fun z_ => [(3, .pointer (some ⟨b3, 0, none⟩)), (6, .pointer (some ⟨b6, 0, none⟩)), (7, .bool false), (8, ptrV bb), (9, .pointer (some ⟨b9, 0, none⟩)), (11, .pointer (some ⟨b11, 0, none⟩)), (12, num ((runS ts op ss i).place x44.a)), (13, num ((runS ts op ss i).place x44.b)), (14, .pointer (some ⟨z_.1, 0, none⟩)), (15, .bool (pairB k p n (runA k p n ts op ss i) (runB k p n ts op ss i) ((runS ts op ss i).res op x44.a.toNat x44.b.toNat))), (29, v), (40, subV v 0 ((m : Int).toNat) 2), (41, num (ss.take ((m : Int).toNat)).length), (42, num i), (43, .bool (decide ((i : Int) < (ss.take ((m : Int).toNat)).length))), (45, .agg [num x44.a, num x44.b].toArray), (46, ptrV bb), (47, .pointer (some ⟨b11, 0, none⟩)), (48, num x44.a), (49, num ((runS ts op ss i).place x44.a)), (50, ptrV bb), (51, .pointer (some ⟨b11, 1, none⟩)), (52, num x44.b), (53, num ((runS ts op ss i).place x44.b))]) (fun z_ => [box z_.1 [z_.2.2.2.2.1, z_.2.2.2.2.2.1, z_.2.2.2.2.2.2] 55, z_.2.1, z_.2.2.1, box b11 [num x44.a, num x44.b] 114, box b9 [num k, num p, num n, lx, vo37] 29, g, box b6 [num 0, num 0, num 0, .slice none 0 0, .slice none 0 0] 29, box b3 [num k, num p, num n, vt, vo] 29, hp w, ha, go, hl]) mixed_ok (by kernel_rfl) ?_ ?_
          · refine rak_of (rak_v (i := 0) (by kernel_rfl) rfl rfl (v_fieldAddr fd_29_0 ty_24 (by decide) rfl) rfl (rak_v (i := 1) (by kernel_rfl) rfl rfl (v_loadNB 4 ty_24 rfl rfl rfl rfl) rfl (rak_v (i := 2) (by kernel_rfl) rfl rfl (v_fieldAddr fd_29_1 ty_26 (by decide) rfl) rfl (rak_v (i := 3) (by kernel_rfl) rfl rfl (v_loadB 1 ty_26 rfl rfl rfl) rfl (rak_v (i := 4) (by kernel_rfl) rfl rfl (v_move rfl) rfl ?_))))); obtain ⟨t60, a60, b60, c60, ht60, hcs60, rl60, rd60, rx60⟩ := hlv.at (((runS ts op ss i).place x44.a : Int).toNat) (by first | omega | (rw [List.length_set]; omega)); refine rak_v (i := 5) (by kernel_rfl) rfl rfl (v_indexAddr Tryz.underlying26 ty_55 rfl rfl rr.toR (by decide) (by omega) (by omega)) rfl ?_; refine rak_v (i := 6) (by kernel_rfl) rfl rfl (v_loadNE 6 ty_55 rfl rfl rr.toR (by have := rr.toR.1; omega) rfl hcs60) rfl ?_; refine rak_v (i := 7) (by kernel_rfl) rfl rfl (v_fieldAddr fd_29_1 ty_26 (by decide) rfl) rfl (rak_v (i := 8) (by kernel_rfl) rfl rfl (v_loadB 1 ty_26 rfl rfl rfl) rfl (rak_v (i := 9) (by kernel_rfl) rfl rfl (v_move rfl) rfl ?_)); obtain ⟨t65, a65, b65, c65, ht65, hcs65, rl65, rd65, rx65⟩ := hlv.at (((runS ts op ss i).place x44.b : Int).toNat) (by first | omega | (rw [List.length_set]; omega)); refine rak_v (i := 10) (by kernel_rfl) rfl rfl (v_indexAddr Tryz.underlying26 ty_55 rfl rfl rr.toR (by decide) (by omega) (by omega)) rfl ?_; refine rak_v (i := 11) (by kernel_rfl) rfl rfl (v_loadNE 6 ty_55 rfl rfl rr.toR (by have := rr.toR.1; omega) rfl hcs65) rfl ?_; have e60 : t60 = runA k p n ts op ss i := (by have := out_get (k := k) (p := p) (n := n) hpa; rw [ht60] at this; rw [runA, stpAt_of hx]; exact Option.some.inj this); have e65 : t65 = runB k p n ts op ss i := (by have := out_get (k := k) (p := p) (n := n) hqb; rw [ht65] at this; rw [runB, stpAt_of hx]; exact Option.some.inj this); subst e60; subst e65; refine rak_v (i := 12) (by kernel_rfl) rfl rfl (v_move rfl) rfl (rak_v (i := 13) (by kernel_rfl) rfl rfl (v_move rfl) rfl (rak_v (i := 14) (by kernel_rfl) rfl rfl (v_move rfl) rfl ?_)); refine rak_2 (i := 15) (j := 20) (by kernel_rfl) ?_ ?_
            · refine rok_x rfl rfl (x_call rfl en_118 (fun w s => ct_i_resultLabels _ op _ _ (runS ts op ss i) _ _ _ x44.a.toNat x44.b.toNat w (rst'.mono (s.get 2 rfl)) (r'.mono (s.get 5 rfl)) p0 q0 hpa hqb (by omega))) rfl ?_; rintro v70 h70 r70; refine rak_2 (i := 16) (j := 20) (by kernel_rfl) ?_ ?_
              · refine rok_x rfl rfl (x_call rfl en_69 (fun w s => ct_i_ContractPair _ _ _ _ _ _ _ _ _ _ _ _ _ w (rl60.mono (s.get 9 rfl)) (rd60.mono (s.get 9 rfl)) (rx60.mono (s.get 9 rfl)) (rl65.mono (s.get 9 rfl)) (rd65.mono (s.get 9 rfl)) (rx65.mono (s.get 9 rfl)) (r70.toR.mono (s.get 0 rfl)))) rfl ?_; rintro _ h71 ⟨va71, vb71, vc71, rfl, o71⟩; refine rak_rk [(17, true), (18, true), (19, true), (20, false), (21, false), (22, false)] (by kernel_rfl) rfl (rk_v rfl rfl (v_move rfl) rfl (rk_v rfl rfl (v_extract rfl rfl) rfl (rk_v rfl rfl (v_extract rfl rfl) rfl ?_))); refine rk_xb rfl rfl (x_alloc ty_55 rfl) rfl ?_; rintro _ _ ⟨b14, rfl, rfl⟩; refine rk_m 0 rfl rfl rfl rfl (m_store 0 ty_55 rfl rfl rfl rfl (by simp [o71.toR.1.sl.one, o71.toR.2.1.sl.one, o71.toR.2.2.sl.one]) rfl (Nat.le_of_ble_eq_true rfl)) rfl ?_; rintro _ _ ⟨rfl, rfl⟩; refine rk_fv rfl rfl (v_assign rfl) rfl (rk_end ?_); exact qs_mid (b14, h71, h70, v70, va71, vb71, vc71) ⟨r70, o71⟩ ⟨rfl, rfl, rfl, rfl, rfl, rfl, rfl, rfl, rfl, rfl, rfl, rfl, rfl, rfl, rfl, rfl, rfl, rfl, rfl, rfl, rfl, rfl, rfl, rfl, trivial⟩ (fun _ s => s.pick [0, 1, 2, 3, 4, 5, 6, 7, 8, 9, 10, 11] (by decide) rfl)
              · refine rok_xb rfl rfl (x_alloc ty_55 rfl) rfl ?_; rintro _ _ ⟨b14, rfl, rfl⟩; refine rak_rk [(16, false), (17, true), (18, true), (19, true), (21, false), (22, false)] (by kernel_rfl) rfl ?_; refine rk_x rfl rfl (x_call rfl en_69 (fun w s => ct_i_ContractPair _ _ _ _ _ _ _ _ _ _ _ _ _ w (rl60.mono (s.get 10 rfl)) (rd60.mono (s.get 10 rfl)) (rx60.mono (s.get 10 rfl)) (rl65.mono (s.get 10 rfl)) (rd65.mono (s.get 10 rfl)) (rx65.mono (s.get 10 rfl)) (r70.toR.mono (s.get 1 rfl)))) rfl ?_; rintro _ h71 ⟨va71, vb71, vc71, rfl, o71⟩; refine rk_v rfl rfl (v_move rfl) rfl (rk_v rfl rfl (v_extract rfl rfl) rfl (rk_v rfl rfl (v_extract rfl rfl) rfl ?_)); refine rk_m 1 rfl rfl rfl rfl (m_store 1 ty_55 rfl rfl rfl rfl (by simp [o71.toR.1.sl.one, o71.toR.2.1.sl.one, o71.toR.2.2.sl.one]) rfl (Nat.le_of_ble_eq_true rfl)) rfl ?_; rintro _ _ ⟨rfl, rfl⟩; refine rk_fv rfl rfl (v_assign rfl) rfl (rk_end ?_); exact qs_mid (b14, h71, h70, v70, va71, vb71, vc71) ⟨r70, o71⟩ ⟨rfl, rfl, rfl, rfl, rfl, rfl, rfl, rfl, rfl, rfl, rfl, rfl, rfl, rfl, rfl, rfl, rfl, rfl, rfl, rfl, rfl, rfl, rfl, rfl, trivial⟩ (fun _ s => s.pick [1, 0, 2, 3, 4, 5, 6, 7, 8, 9, 10, 11] (by decide) rfl)
            · refine rok_xb rfl rfl (x_alloc ty_55 rfl) rfl ?_; rintro _ _ ⟨b14, rfl, rfl⟩; refine rak_rk [(15, false), (16, false), (17, true), (18, true), (19, true), (21, false), (22, false)] (by kernel_rfl) rfl ?_; refine rk_x rfl rfl (x_call rfl en_118 (fun w s => ct_i_resultLabels _ op _ _ (runS ts op ss i) _ _ _ x44.a.toNat x44.b.toNat w (rst'.mono (s.get 3 rfl)) (r'.mono (s.get 6 rfl)) p0 q0 hpa hqb (by omega))) rfl ?_; rintro v70 h70 r70; refine rk_x rfl rfl (x_call rfl en_69 (fun w s => ct_i_ContractPair _ _ _ _ _ _ _ _ _ _ _ _ _ w (rl60.mono (s.get 10 rfl)) (rd60.mono (s.get 10 rfl)) (rx60.mono (s.get 10 rfl)) (rl65.mono (s.get 10 rfl)) (rd65.mono (s.get 10 rfl)) (rx65.mono (s.get 10 rfl)) (r70.toR.mono (s.get 0 rfl)))) rfl ?_; rintro _ h71 ⟨va71, vb71, vc71, rfl, o71⟩; refine rk_v rfl rfl (v_move rfl) rfl (rk_v rfl rfl (v_extract rfl rfl) rfl (rk_v rfl rfl (v_extract rfl rfl) rfl ?_)); refine rk_m 2 rfl rfl rfl rfl (m_store 2 ty_55 rfl rfl rfl rfl (by simp [o71.toR.1.sl.one, o71.toR.2.1.sl.one, o71.toR.2.2.sl.one]) rfl (Nat.le_of_ble_eq_true rfl)) rfl ?_; rintro _ _ ⟨rfl, rfl⟩; refine rk_fv rfl rfl (v_assign rfl) rfl (rk_end ?_); exact qs_mid (b14, h71, h70, v70, va71, vb71, vc71) ⟨r70, o71⟩ ⟨rfl, rfl, rfl, rfl, rfl, rfl, rfl, rfl, rfl, rfl, rfl, rfl, rfl, rfl, rfl, rfl, rfl, rfl, rfl, rfl, rfl, rfl, rfl, rfl, trivial⟩ (fun _ s => s.pick [2, 0, 1, 3, 4, 5, 6, 7, 8, 9, 10, 11] (by decide) rfl)
          · rintro ⟨b14, h71, h70, v70, va71, vb71, vc71⟩ ⟨r70, o71⟩; dsimp only at r70 o71 ⊢; refine qs_n (wp_sc (wp_sc (wp_sq (sq_v rfl (v_move rfl) rfl (sq_v rfl (v_not rfl) rfl (sq_end ?_)))))); have eK : (runS ts op ss i).res op x44.a.toNat x44.b.toNat = runK ts op ss i := by rw [runK, stpAt_of hx]
            rw [eK] at o71; refine qs_n ?_; refine wp_cn _ rfl (fun c75 => ?_) (fun c75 => ?_)
            · refine wp_sc (wp_sq (sq_v rfl (v_build [num 0, num 0, num 0, .slice none 0 0, .slice none 0 0] rfl (by kernel_rfl)) rfl ?_)); refine sq_m 6 rfl rfl (m_store 6 ty_29 rfl rfl rfl rfl (by simp [one_int, one_sl]) rfl (Nat.le_of_ble_eq_true rfl)) rfl ?_; rintro _ _ ⟨rfl, rfl⟩; refine sq_v rfl (v_assign rfl) rfl (sq_end (qs_n (wp_rt (qs_r (qs_br (qs_r (qs_r (qs_br (qs_r ?_))))))))); exact qs_retct 6 rfl ty_29 rfl rfl rfl rfl (fin_e (i := 8) rfl (PartNo (fun h => by rw [eK] at c75; exact pairB_false.1 c75 (h.2.2 i (by omega)))))
            · refine wp_sk (qs_n (wp_sc (wp_sq (sq_v rfl (v_assign rfl) rfl (sq_end ?_))))); have hpf : runFit k p n ts op ss i := by rw [eK] at c75; exact pairB_true.1 c75
              refine qs_n (wp_sc (wp_sc (wp_sq (sq_v rfl (v_fieldAddr fd_29_1 ty_26 (by decide) rfl) rfl (sq_v rfl (v_loadB 4 ty_26 rfl rfl rfl) rfl (sq_v rfl (v_len Tryz.underlying26 rfl rr.toR.sl) rfl (sq_v rfl (v_move rfl) rfl (sq_end (qs_n (wp_bl ?_)))))))))); refine wp_lp (σ := Nat × Value × PH × (List Value)) (fun z_ => [(3, .pointer (some ⟨b3, 0, none⟩)), (6, .pointer (some ⟨b6, 0, none⟩)), (7, .bool false), (8, ptrV bb), (9, .pointer (some ⟨b9, 0, none⟩)), (11, .pointer (some ⟨b11, 0, none⟩)), (12, num ((runS ts op ss i).place x44.a)), (13, num ((runS ts op ss i).place x44.b)), (14, .pointer (some ⟨b14, 0, none⟩)), (15, .bool (pairB k p n (runA k p n ts op ss i) (runB k p n ts op ss i) ((runS ts op ss i).res op x44.a.toNat x44.b.toNat))), (16, z_.2.1), (29, v), (40, subV v 0 ((m : Int).toNat) 2), (41, num (ss.take ((m : Int).toNat)).length), (42, num i), (43, .bool (decide ((i : Int) < (ss.take ((m : Int).toNat)).length))), (45, .agg [num x44.a, num x44.b].toArray), (46, ptrV bb), (47, .pointer (some ⟨b11, 0, none⟩)), (48, num x44.a), (49, num ((runS ts op ss i).place x44.a)), (50, ptrV bb), (51, .pointer (some ⟨b11, 1, none⟩)), (52, num x44.b), (53, num ((runS ts op ss i).place x44.b)), (74, .bool (pairB k p n (runA k p n ts op ss i) (runB k p n ts op ss i) ((runS ts op ss i).res op x44.a.toNat x44.b.toNat))), (75, .bool (!(pairB k p n (runA k p n ts op ss i) (runB k p n ts op ss i) ((runS ts op ss i).res op x44.a.toNat x44.b.toNat)))), (77, .pointer (some ⟨b9, 3, none⟩)), (78, lx), (79, num (outTo k p n ts op ss i).length), (80, num z_.1)]) (fun z_ => [z_.2.2.1, box b14 [va71, vb71, vc71] 55, h71, h70, box b11 [num x44.a, num x44.b] 114, box b9 [num k, num p, num n, lx, vo37] 29, g, box b6 [num 0, num 0, num 0, .slice none 0 0, .slice none 0 0] 29, box b3 [num k, num p, num n, vt, vo] 29, hp w, ha, go, hl]) (fun z_ => z_.1 ≤ (outTo k p n ts op ss i).length ∧ z_.2.2.2 = dropK 3 cs ((runS ts op ss i).place x44.a).toNat ((runS ts op ss i).place x44.b).toNat z_.1 ∧ RowO (55) z_.2.2.2 (dropK 1 (outTo k p n ts op ss i) ((runS ts op ss i).place x44.a).toNat ((runS ts op ss i).place x44.b).toNat z_.1).length 3 z_.2.1 z_.2.2.1) (fun z_ => (outTo k p n ts op ss i).length - z_.1) (0, .slice none 0 0, emp, []) (⟨by (try dsimp only); omega, rfl, RowO.nil⟩) ⟨rfl, rfl, rfl, rfl, rfl, rfl, rfl, rfl, rfl, rfl, (by first | rfl | exact ksub rfl (by first | omega | (simp; done) | (simp; omega))), rfl, rfl, rfl, rfl, rfl, rfl, rfl, rfl, rfl, rfl, rfl, rfl, rfl, rfl, rfl, rfl, rfl, rfl, rfl, (by first | rfl | exact ksub rfl (by first | omega | (simp; done) | (simp; omega))), trivial⟩ (fun _ s => (emp_sat s)) ?_; rintro ⟨j, lz, hz, dz⟩ ⟨hj, hdz, rz⟩; dsimp only at hj hdz rz ⊢; have hdl := dropK_len (m := 1) (cs := outTo k p n ts op ss i) (p := ((runS ts op ss i).place x44.a).toNat) (q := ((runS ts op ss i).place x44.b).toNat) j; have hxl : (runS ts op ss i).ixs.length ≤ (runS ts op ss i).all.length := by have := List.length_filter_le (fun i' => !(runS ts op ss i).gone.getD i' false) (List.range (runS ts op ss i).all.length); simpa [Sh.ixs] using this
              refine wp_sc (wp_sq (sq_v rfl (v_lss rfl rfl) rfl (sq_end (qs_n (wp_sc ?_))))); refine wp_cd rfl (fun c81 => ?_) (fun c81 => ?_)
              · refine wp_sk (qs_n (wp_sc (wp_bl (wp_sc (wp_sq (sq_v rfl (v_move rfl) rfl ?_)))))); obtain ⟨t83, a83, b83, c83, ht83, hcs83, rl83, rd83, rx83⟩ := hlv.at (j) (by first | omega | (rw [List.length_set]; omega)); refine sq_v rfl (v_indexAddr Tryz.underlying26 ty_55 rfl rfl rr.toR (by decide) (by omega) (by omega)) rfl ?_; refine sq_v rfl (v_loadNE 10 ty_55 rfl rfl rr.toR (by have := rr.toR.1; omega) rfl hcs83) rfl ?_; refine sq_x rfl (x_alloc ty_55 rfl) rfl ?_; rintro _ _ ⟨b18, rfl, rfl⟩; refine sq_v rfl (v_assign rfl) rfl ?_; refine sq_m 0 rfl rfl (m_store 0 ty_55 rfl rfl rfl rfl (by simp [rl83.sl.one, rd83.sl.one, rx83.sl.one]) rfl (Nat.le_of_ble_eq_true rfl)) rfl ?_; rintro _ _ ⟨rfl, rfl⟩; refine sq_end (qs_n (wp_sc (wp_sq (sq_v rfl (v_move rfl) rfl (sq_v rfl (v_move rfl) rfl (sq_v rfl (v_neq rfl rfl) rfl ?_)))))); refine sq_bd 87 rfl (fun c87 => ?_) (fun c87 => ?_)
                · refine sq_v rfl (v_move rfl) rfl (sq_v rfl (v_move rfl) rfl (sq_v rfl (v_move rfl) rfl (sq_v rfl (v_neq rfl rfl) rfl (sq_v rfl (v_pickt rfl rfl) rfl (sq_end (qs_n ?_)))))); refine wp_cd rfl (fun c92 => ?_) (fun c92 => ?_)
                  · refine wp_sq (sq_v rfl (v_move rfl) rfl (sq_v rfl (v_loadNB 0 ty_55 rfl rfl rfl rfl) rfl ?_)); refine sq_x rfl (x_buildS [.agg [a83, b83, c83].toArray] Tryz.underlying26 ty_55 (by decide) rfl rfl rfl (by decide) (by decide) (by intro v hv; simp at hv; subst hv; rfl)) rfl ?_; intro v95 h95 (r95 : RowO 55 [a83, b83, c83] 1 3 v95 h95); refine sq_m 2 rfl rfl (m_append 2 0 Tryz.underlying26 ty_55 rfl rfl (by decide) rfl rfl rfl rz rfl r95.toR (by simp [rl83.sl.one, rd83.sl.one, rx83.sl.one]) (by unfold maxLen; omega) (by omega)) rfl ?_; intro v96 h_r96 (r96 : RowO 55 (dz ++ [a83, b83, c83]) ((dropK 1 (outTo k p n ts op ss i) ((runS ts op ss i).place x44.a).toNat ((runS ts op ss i).place x44.b).toNat j).length + 1) 3 v96 h_r96); refine sq_v rfl (v_assign rfl) rfl (sq_end (qs_bn (qs_n (wp_sq ?_)))); refine sq_v rfl (v_add rfl rfl ((by unfold I64; omega))) rfl ?_; refine sq_v rfl (v_move rfl) rfl (sq_end ?_); exact qs_bk (j + 1, v96, h_r96, dz ++ [a83, b83, c83]) ⟨by (try dsimp only); omega, by (try dsimp only); rw [dropK_yes ⟨by omega, by omega⟩, ← hdz, hcs83], by (try dsimp only); rw [dropK_yes ⟨by omega, by omega⟩, one_drop ht83, List.length_append]; exact r96⟩ (by simp only; omega) ⟨rfl, rfl, rfl, rfl, rfl, rfl, rfl, rfl, rfl, rfl, (by first | rfl | exact ksub rfl (by first | omega | (simp; done) | (simp; omega))), rfl, rfl, rfl, rfl, rfl, rfl, rfl, rfl, rfl, rfl, rfl, rfl, rfl, rfl, rfl, rfl, rfl, rfl, rfl, (by first | rfl | exact ksub rfl (by first | omega | (simp; done) | (simp; omega))), trivial⟩ (fun _ s => s.pick [2, 3, 4, 5, 6, 7, 8, 9, 10, 11, 12, 13, 14] (by decide) rfl)
                  · refine wp_sk (qs_bn (qs_n (wp_sq ?_))); refine sq_v rfl (v_add rfl rfl ((by unfold I64; omega))) rfl ?_; refine sq_v rfl (v_move rfl) rfl (sq_end ?_); exact qs_bk (j + 1, lz, hz, dz) ⟨by (try dsimp only); omega, by (try dsimp only); rw [dropK_no (by omega)]; exact hdz, by (try dsimp only); rw [dropK_no (by omega)]; exact rz⟩ (by simp only; omega) ⟨rfl, rfl, rfl, rfl, rfl, rfl, rfl, rfl, rfl, rfl, (by first | rfl | exact ksub rfl (by first | omega | (simp; done) | (simp; omega))), rfl, rfl, rfl, rfl, rfl, rfl, rfl, rfl, rfl, rfl, rfl, rfl, rfl, rfl, rfl, rfl, rfl, rfl, rfl, (by first | rfl | exact ksub rfl (by first | omega | (simp; done) | (simp; omega))), trivial⟩ (fun _ s => s.pick [1, 2, 3, 4, 5, 6, 7, 8, 9, 10, 11, 12, 13] (by decide) rfl)
                · refine sq_v rfl (v_move rfl) rfl (sq_s rfl rfl (sq_s rfl rfl (sq_s rfl rfl (sq_v rfl (v_pickf rfl rfl) rfl (sq_end (qs_n (wp_cf rfl (wp_sk (qs_bn (qs_n (wp_sq ?_))))))))))); refine sq_v rfl (v_add rfl rfl ((by unfold I64; omega))) rfl ?_; refine sq_v rfl (v_move rfl) rfl (sq_end ?_); exact qs_bk (j + 1, lz, hz, dz) ⟨by (try dsimp only); omega, by (try dsimp only); rw [dropK_no (by omega)]; exact hdz, by (try dsimp only); rw [dropK_no (by omega)]; exact rz⟩ (by simp only; omega) ⟨rfl, rfl, rfl, rfl, rfl, rfl, rfl, rfl, rfl, rfl, (by first | rfl | exact ksub rfl (by first | omega | (simp; done) | (simp; omega))), rfl, rfl, rfl, rfl, rfl, rfl, rfl, rfl, rfl, rfl, rfl, rfl, rfl, rfl, rfl, rfl, rfl, rfl, rfl, (by first | rfl | exact ksub rfl (by first | omega | (simp; done) | (simp; omega))), trivial⟩ (fun _ s => s.pick [1, 2, 3, 4, 5, 6, 7, 8, 9, 10, 11, 12, 13] (by decide) rfl)
              · refine wp_ex (qs_x (qs_x (qs_bx (qs_n (wp_sc (wp_sq (sq_v rfl (v_move rfl) rfl (sq_v rfl (v_loadNB 1 ty_55 rfl rfl rfl rfl) rfl ?_)))))))); refine sq_x rfl (x_buildS [.agg [va71, vb71, vc71].toArray] Tryz.underlying26 ty_55 (by decide) rfl rfl rfl (by decide) (by decide) (by intro v hv; simp at hv; subst hv; rfl)) rfl ?_; intro v100 h100 (r100 : RowO 55 [va71, vb71, vc71] 1 3 v100 h100); refine sq_m 1 rfl rfl (m_append 1 0 Tryz.underlying26 ty_55 rfl rfl (by decide) rfl rfl rfl rz rfl r100.toR (by simp [o71.toR.1.sl.one, o71.toR.2.1.sl.one, o71.toR.2.2.sl.one]) (by unfold maxLen; omega) (by omega)) rfl ?_; intro v101 h_r101 (r101 : RowO 55 (dz ++ [va71, vb71, vc71]) ((dropK 1 (outTo k p n ts op ss i) ((runS ts op ss i).place x44.a).toNat ((runS ts op ss i).place x44.b).toNat j).length + 1) 3 v101 h_r101); refine sq_v rfl (v_fieldAddr fd_29_1 ty_26 (by decide) rfl) rfl ?_; refine sq_m 6 rfl rfl (m_store1 6 ty_26 rfl rfl r101.toR.sl.one rfl (Nat.le_of_ble_eq_true rfl)) rfl ?_; rintro _ _ ⟨rfl, rfl⟩; refine sq_end (qs_n (wp_sq (sq_v rfl (v_move rfl) rfl (sq_v rfl (v_move rfl) rfl (sq_v rfl (v_move rfl) rfl ?_))))); refine sq_m 7 rfl rfl (x_call rfl en_119 (fun w s => ct_i_contract arr op vo _ bb _ _ x44.a.toNat x44.b.toNat w _ (s.get 7 rfl) rst (r'.mono (s.getR 7 10 rfl rfl (by decide))) p0 q0 hpa hqb (by omega) (by omega))) rfl ?_; rintro _ h106 ⟨rfl, rst2⟩; refine sq_end (qs_bn (qs_n (wp_sq ?_))); refine sq_v rfl (v_add rfl rfl ((by unfold I64; omega))) rfl ?_; refine sq_v rfl (v_move rfl) rfl (sq_end ?_); refine qs_dj 13 3 rfl rfl rfl (fun hdj => ?_); have ej : j = (outTo k p n ts op ss i).length := by omega
                subst ej; obtain ⟨g2, hg2, oh2⟩ := hlv.dropK ((runS ts op ss i).place x44.a).toNat ((runS ts op ss i).place x44.b).toNat; rw [← hdz] at oh2; have oh3 := oh2.snoc o71 (hdj.mono hg2); exact qs_bk (i + 1, v101, h_r101, dz ++ [va71, vb71, vc71], PUn g2 h71, h106) ⟨by (try dsimp only); rw [List.length_take]; omega, step_all hfit hpf, by (try dsimp only); rw [hs1]; exact rst2, by (try dsimp only); rw [hosn]; exact oh3, by (try dsimp only); rw [hosn, List.length_append]; exact r101⟩ (by simp only; omega) ⟨rfl, rfl, rfl, rfl, rfl, rfl, rfl, rfl, (by first | rfl | exact ksub rfl (by first | omega | (simp; done) | (simp; omega))), trivial⟩ (fun _ s => ((Sat.merge (s.pick (HS' := [hl, h71, box b9 [num k, num p, num n, v101, vo37] 29, h106, box b6 [num 0, num 0, num 0, .slice none 0 0, .slice none 0 0] 29, box b3 [num k, num p, num n, vt, vo] 29, hp w, h_r101, go]) [13, 3, 6, 7, 8, 9, 10, 1, 12] (by decide) rfl)).less (i := 0) rfl (PUn.mono_l hg2 hdj)).pick [1, 2, 3, 4, 5, 6, 7, 0] (by decide) rfl)
        · refine wp_ex (qs_x (qs_x (qs_bx (qs_n (wp_sc (wp_sq (sq_v rfl (v_loadNB 0 ty_29 rfl rfl rfl rfl) rfl ?_))))))); refine sq_m 2 rfl rfl (m_store 2 ty_29 rfl rfl rfl rfl (by simp [one_int, rr.toR.sl.one, ro.toR.sl.one]) rfl (Nat.le_of_ble_eq_true rfl)) rfl ?_; rintro _ _ ⟨rfl, rfl⟩; refine sq_v rfl (v_assign rfl) rfl (sq_end (qs_n (wp_rt ?_))); have ei : i = (m : Int).toNat := by have : ¬ i < (ss.take (m : Int).toNat).length := (by omega); rw [List.length_take] at this; omega
          refine qs_close [box b6 _ _, hp w] [ha, go, hl] (fun _ s => s.pick [2, 4, 5, 6, 7] (by decide) rfl) (fun md => ?_); exact qs_retct 1 rfl ty_29 rfl rfl rfl rfl (fin_t 0 (i := 2) rfl rfl rfl (PartYes ⟨hord, ⟨by omega, by omega⟩, by rw [← ei]; exact hfit⟩ (by rw [← ei]; exact NetO.join rr ro hlv md)))
  · refine sq_v rfl (v_not rfl) rfl (sq_v rfl (v_move rfl) rfl (sq_s rfl rfl (sq_s rfl rfl (sq_v rfl (v_pickt rfl rfl) rfl (sq_v rfl (v_move rfl) rfl (sq_s rfl rfl (sq_s rfl rfl (sq_s rfl rfl (sq_s rfl rfl ?_))))))))); refine sq_v rfl (v_pickt rfl rfl) rfl (sq_end (qs_n (wp_ct rfl (wp_sc (wp_sq (sq_v rfl (v_build [num 0, num 0, num 0, .slice none 0 0, .slice none 0 0] rfl (by kernel_rfl)) rfl ?_)))))); refine sq_m 0 rfl rfl (m_store 0 ty_29 rfl rfl rfl rfl (by simp [one_int, one_sl]) rfl (Nat.le_of_ble_eq_true rfl)) rfl ?_; rintro _ _ ⟨rfl, rfl⟩; refine sq_v rfl (v_assign rfl) rfl (sq_end (qs_n (wp_rt (qs_r ?_)))); exact qs_retct 0 rfl ty_29 rfl rfl rfl rfl (fin_e (i := 2) rfl (PartNo (fun h => by first | exact orderB_false.1 c21 h.1 | (have := h.2.1; omega))))
theorem ct_L_iPartial (k p n m : Int) (ts : List Ten) (op : List Int) (ss : List Stp) (vt vo v : Value) (w : World) (r : TensR ts vt (hp w)) (r' : IntsR op vo (hp w)) (rv : StepsR ss v (hp w)) (hs : op.length ≤ 1048576) :
    Calls Tryz.prog 88 [netV k p n vt vo, v, num m].toArray w (Ret w emp (NetB (ifB (partB k p n ts op ss m) k 0) (ifB (partB k p n ts op ss m) p 0) (ifB (partB k p n ts op ss m) n 0) (partTs k p n ts op ss m) (partOp k p n ts op ss m) (partB k p n ts op ss m))) :=
  ct_i_PartialNetwork k p n m ts op ss vt vo v w r r' rv hs
end Go.Proofs.YtiefkcaplhnnmaaGreat
namespace Go.Proofs.YtiefkcaplhnnmaaGreat
set_option maxRecDepth 100000
open Go.RowKit
theorem TensL.at {ts : List Ten} {cs : List Value} {h H : PH} (r : TensL ts cs h) (l : PLe h H) (j : Nat) (hj : j < ts.length) : ∃ t a b c, ts[j]? = some t ∧ (cs.drop (j * 3)).take 3 = [a, b, c] ∧ IntsR t.l a H ∧ IntsR t.d b H ∧ IntsR t.x c H := by
  have ht : ts[j]? = some ts[j] := List.getElem?_eq_getElem hj; obtain ⟨a, b, c, e, r1, r2, r3⟩ := r.2 j _ ht; exact ⟨_, a, b, c, ht, e, r1.mono l, r2.mono l, r3.mono l⟩
end Go.Proofs.YtiefkcaplhnnmaaGreat
namespace Go.Proofs.YtiefkcaplhnnmaaGreat
set_option maxRecDepth 100000
open Go.RowKit
theorem con_out {k p n : Int} {ts : List Ten} {op : List Int} {ss : List Stp} (h : conP k p n ts op ss) : partTs k p n ts op ss ss.length = outTo k p n ts op ss ss.length ∧ partOp k p n ts op ss ss.length = op ∧ partB k p n ts op ss ss.length = true ∧ ((outTo k p n ts op ss ss.length).length = 0 ↔ ts.length = 0) := by
  have hB := partB_true.2 (con_part.2 h); refine ⟨by rw [partTs, hB, Int.toNat_natCast]; rfl, by rw [partOp, hB]; rfl, hB, ?_⟩
  by_cases hn : ts.length = 0
  · have hs := h.1.2.1; have e : ss.length = 0 := by omega
    rw [e, out_zero]
  · rw [(h.last hn).2]
    simp [hn]
set_option maxHeartbeats 4000000 in
theorem ct_i_Contract (k p n : Int) (ts : List Ten) (op : List Int) (ss : List Stp) (vt vo v : Value) (w : World) (r : TensR ts vt (hp w)) (r' : IntsR op vo (hp w)) (rv : StepsR ss v (hp w)) (hs : op.length ≤ 1048576) :
    Calls Tryz.prog 53 [netV k p n vt vo, v].toArray w (Ret w emp (TenB (conR k p n ts op ss) (conB k p n ts op ss))) := by
  refine calls_in Tryz.func53 rfl Tryz.ntmps53 rfl (Sat.start w) ?_; have hle0 := r.le; obtain ⟨cs_r, rr_r, hc_r⟩ := r.at; have hle1 := r'.le; have hle2 := rv.le; obtain ⟨cs_rv, rr_rv, hc_rv⟩ := rv.at; refine wp_sc (wp_sq ?_); refine sq_x rfl (x_box rfl rfl) rfl ?_; rintro _ _ ⟨b2, rfl, rfl⟩; refine sq_x rfl (x_alloc ty_55 rfl) rfl ?_; rintro _ _ ⟨b4, rfl, rfl⟩; refine sq_v rfl (v_assign rfl) rfl (sq_end (qs_n (wp_sc (wp_sq (sq_v rfl (v_loadNB 1 ty_29 rfl rfl rfl rfl) rfl (sq_v rfl (v_move rfl) rfl (sq_v rfl (v_move rfl) rfl (sq_v rfl (v_len Tryz.underlying80 rfl rv.sl) rfl ?_)))))))); refine sq_x rfl (x_call rfl en_88 (fun w s => ct_L_iPartial _ _ _ _ _ _ _ _ _ _ w (r.mono (s.get 2 rfl)) (r'.mono (s.get 2 rfl)) (rv.mono (s.get 2 rfl)) (by first | assumption | omega))) rfl ?_; rintro _ h13 ⟨vt13, vo13, rfl, o13⟩; obtain ⟨cs_T_13, rr_T_13, hc_T_13⟩ := o13.toR.1.at; refine sq_v rfl (v_move rfl) rfl (sq_v rfl (v_extract rfl rfl) rfl (sq_v rfl (v_extract rfl rfl) rfl ?_)); refine sq_x rfl (x_alloc ty_29 rfl) rfl ?_; rintro _ _ ⟨b6, rfl, rfl⟩; refine sq_m 0 rfl rfl (m_store 0 ty_29 rfl rfl rfl rfl (by simp [one_int, o13.toR.1.sl.one, o13.toR.2.sl.one]) rfl (Nat.le_of_ble_eq_true rfl)) rfl ?_; rintro _ _ ⟨rfl, rfl⟩; refine sq_v rfl (v_assign rfl) rfl (sq_end (qs_n (wp_sc (wp_sc (wp_sq (sq_v rfl (v_move rfl) rfl (sq_v rfl (v_not rfl) rfl (sq_end (qs_n ?_))))))))); refine wp_cn _ rfl (fun c17 => ?_) (fun c17 => ?_)
  · refine wp_sc (wp_sq (sq_v rfl (v_build [.slice none 0 0, .slice none 0 0, .slice none 0 0] rfl (by kernel_rfl)) rfl ?_)); refine sq_m 2 rfl rfl (m_store 2 ty_55 rfl rfl rfl rfl (by simp [one_sl]) rfl (Nat.le_of_ble_eq_true rfl)) rfl ?_; rintro _ _ ⟨rfl, rfl⟩; refine sq_v rfl (v_assign rfl) rfl (sq_end (qs_n (wp_rt (qs_r ?_)))); exact qs_retct 2 rfl ty_55 rfl rfl rfl rfl (fin_e (i := 4) rfl (ConNo (fun h => by rw [(con_out h).2.2.1] at c17; cases c17)))
  · refine wp_sk (qs_n (wp_sc (wp_sc (wp_sq ?_)))); have hcon := con_part.1 (partB_true.1 c17); have hout := con_out hcon; have hring := hcon.1.1.1; rw [hout.1] at o13 hc_T_13 rr_T_13; refine sq_v rfl (v_fieldAddr fd_29_1 ty_26 (by decide) rfl) rfl (sq_v rfl (v_loadB 0 ty_26 rfl rfl rfl) rfl (sq_v rfl (v_len Tryz.underlying26 rfl o13.toR.1.sl) rfl (sq_v rfl (v_eql rfl rfl) rfl (sq_end (qs_n ?_))))); refine wp_cd rfl (fun c22 => ?_) (fun c22 => ?_)
    · refine wp_sc (wp_sq (sq_v rfl (v_fieldAddr fd_29_0 ty_24 (by decide) rfl) rfl (sq_v rfl (v_loadNB 3 ty_24 rfl rfl rfl rfl) rfl ?_))); refine sq_x rfl (x_call rfl en_70 (fun w s => ct_i_scalarOne _ _ _ w (by first | assumption | omega))) rfl ?_; rintro _ h25 ⟨va25, vb25, vc25, rfl, o25⟩; refine sq_m 3 rfl rfl (m_store 3 ty_55 rfl rfl rfl rfl (by simp [o25.toR.1.sl.one, o25.toR.2.1.sl.one, o25.toR.2.2.sl.one]) rfl (Nat.le_of_ble_eq_true rfl)) rfl ?_; rintro _ _ ⟨rfl, rfl⟩; refine sq_v rfl (v_assign rfl) rfl (sq_end (qs_n (wp_rt (qs_r ?_)))); exact qs_retct 3 rfl ty_55 rfl rfl rfl rfl (fin_t 0 (i := 5) rfl rfl rfl (ConYes hcon (by rw [conT, if_pos (by rw [← hout.2.2.2]; omega)]; exact o25)))
    · refine wp_sk (qs_n (wp_sc (wp_rj 8 [(0, true), (1, true), (2, true), (3, true), (4, true), (5, false), (6, true), (7, true), (8, false), (9, false)] mixed_ok (by kernel_rfl) (rj_v rfl rfl (v_loadNB 3 ty_29 rfl rfl rfl rfl) rfl (rj_v rfl rfl (v_fieldAddr fd_29_1 ty_26 (by decide) rfl) rfl (rj_v rfl rfl (v_loadB 0 ty_26 rfl rfl rfl) rfl ?_)))))); obtain ⟨t29, a29, b29, c29, ht29, hcs29, rl29, rd29, rx29⟩ := hc_T_13 (0) (by first | omega | (rw [List.length_set]; omega));  have hn0 : ts.length ≠ 0 := (fun e => c22 (by rw [hout.2.2.2.2 e]; rfl)); obtain ⟨hfin, hlast⟩ := hcon.last hn0; have hol : (outTo k p n ts op ss ss.length).length = 1 := (by rw [hlast]; rfl)
      refine rj_v rfl rfl (v_indexAddr Tryz.underlying26 ty_55 rfl rfl rr_T_13 (by decide) (by omega) (by omega)) rfl ?_; refine rj_v rfl rfl (v_loadNE 1 ty_55 rfl rfl rr_T_13 (by have := rr_T_13.1; omega) rfl hcs29) rfl ?_; have e29 : t29 = lastT k p n ts op ss := (by rw [hlast] at ht29; simpa using ht29.symm); subst e29; refine rj_x rfl rfl (x_call rfl en_89 (fun w s => ct_i_FinishTensor _ _ _ _ _ _ _ _ _ _ _ w (r.mono (s.get 4 rfl)) (r'.mono (s.get 4 rfl)) (rl29.mono (s.get 1 rfl)) (rd29.mono (s.get 1 rfl)) (rx29.mono (s.get 1 rfl)) (by first | assumption | omega))) rfl ?_; rintro _ h31 ⟨va31, vb31, vc31, rfl, o31⟩; refine rj_v rfl rfl (v_extract rfl rfl) rfl (rj_v rfl rfl (v_extract rfl rfl) rfl ?_); refine rj_m 3 rfl rfl rfl rfl (m_store 3 ty_55 rfl rfl rfl rfl (by simp [o31.toR.1.sl.one, o31.toR.2.1.sl.one, o31.toR.2.2.sl.one]) rfl (Nat.le_of_ble_eq_true rfl)) rfl ?_; rintro _ _ ⟨rfl, rfl⟩; refine rj_fv rfl rfl (v_assign rfl) rfl (rj_end ?_); have hfb : finB k p n ts op (lastT k p n ts op ss) = true := by simp [finB, hfin]
      rw [finR, if_pos hfin] at o31; refine qs_n (wp_rt ?_); exact qs_retct 3 rfl ty_55 rfl rfl rfl rfl (fin_t 0 (i := 5) rfl rfl rfl (by rw [hfb]; exact ConYes hcon (by rw [conT, if_neg hn0]; exact o31)))
end Go.Proofs.YtiefkcaplhnnmaaGreat
namespace Go.Proofs.YtiefkcaplhnnmaaGreat
set_option maxRecDepth 100000
open Go.RowKit
theorem ct_i_PlainOrder (k p n : Int) (ts : List Ten) (op : List Int) (vt vo : Value) (w : World) (r : TensR ts vt (hp w)) (r' : IntsR op vo (hp w)) (hs : op.length ≤ 1048576) :
    Calls Tryz.prog 54 [netV k p n vt vo].toArray w (Ret w emp (StepsO (ifB (netB k p n ts op) (plainL ts.length) []))) := by
  refine calls_in Tryz.func54 rfl Tryz.ntmps54 rfl (Sat.start w) ?_; have hle0 := r.le; obtain ⟨cs_r, rr_r, hc_r⟩ := r.at; have hle1 := r'.le; refine wp_sc (wp_sq ?_); refine sq_x rfl (x_box rfl rfl) rfl ?_; rintro _ _ ⟨b1, rfl, rfl⟩; refine sq_v rfl (v_assign rfl) rfl (sq_end (qs_n (wp_sc (wp_sc (wp_sq (sq_v rfl (v_loadNB 0 ty_29 rfl rfl rfl rfl) rfl (sq_u rfl (x_callv rfl en_14 (fun w s => ct_i_NetworkOk _ _ _ _ _ _ _ w (r.mono (s.get 1 rfl)) (r'.mono (s.get 1 rfl)) (by first | assumption | omega))) rfl (sq_v rfl (v_not rfl) rfl (sq_end (qs_n ?_)))))))))); refine wp_cn _ rfl (fun c8 => ?_) (fun c8 => ?_)
  · refine wp_sc (wp_sq (sq_v rfl (v_assign rfl) rfl (sq_end (qs_n (wp_rt (qs_r ?_)))))); exact qs_ret1 rfl rfl (fin_e (i := 1) rfl (by rw [c8]; exact StepsO.nil))
  · refine wp_sk (qs_n (wp_sc (wp_sq (sq_v rfl (v_assign rfl) rfl (sq_end (qs_n (wp_sc (wp_sq (sq_v rfl (v_fieldAddr fd_29_1 ty_26 (by decide) rfl) rfl (sq_v rfl (v_loadB 0 ty_26 rfl rfl rfl) rfl (sq_v rfl (v_len Tryz.underlying26 rfl r.sl) rfl (sq_v rfl (v_assign rfl) rfl (sq_end (qs_n (wp_sc (wp_sc (wp_sq (sq_v rfl (v_assign rfl) rfl (sq_end (qs_n (wp_bl ?_))))))))))))))))))))); refine wp_lp (σ := Nat × Value × PH) (fun z_ => [(2, .slice none 0 0), (3, z_.2.1), (4, num ts.length), (5, num z_.1)]) (fun z_ => [z_.2.2, box b1 [num k, num p, num n, vt, vo] 29, hp w]) (fun z_ => z_.1 ≤ ts.length - 1 ∧ StepsO (plainTo ts.length z_.1) z_.2.1 z_.2.2) (fun z_ => ts.length - 1 - z_.1) (0, .slice none 0 0, emp) (⟨by (try dsimp only); omega, StepsO.nil⟩) ⟨rfl, (by first | rfl | exact ksub rfl (by first | omega | (simp; done) | (simp; omega))), rfl, (by first | rfl | exact ksub rfl (by first | omega | (simp; done) | (simp; omega))), trivial⟩ (fun _ s => (emp_sat s)) ?_; rintro ⟨i, lv, lh⟩ ⟨hi, q⟩; dsimp only at hi q ⊢; obtain ⟨cs_q, rr_q, hc_q⟩ := q.toR.at; have hle_q := q.toR.le; have hpl := plain_len ts.length i; have h12 := (netB_true.1 c8).2.1; refine wp_sc (wp_sc (wp_sq (sq_v rfl (v_move rfl) rfl (sq_v rfl (v_move rfl) rfl ?_)))); refine sq_v rfl (v_sub rfl rfl ((by unfold I64; omega))) rfl ?_; refine sq_v rfl (v_lss rfl rfl) rfl (sq_end (qs_n ?_)); refine wp_cd rfl (fun c15 => ?_) (fun c15 => ?_)
    · refine wp_sk (qs_n (wp_sc (wp_bl (wp_sc (wp_sq (sq_v rfl (v_move rfl) rfl (sq_v rfl (v_eql rfl rfl) rfl (sq_end (qs_n ?_))))))))); refine wp_cd rfl (fun c19 => ?_) (fun c19 => ?_)
      · refine wp_sq (sq_v rfl (v_move rfl) rfl (sq_v rfl (v_build [num 0, num 1] rfl (by kernel_rfl)) rfl ?_)); refine sq_x rfl (x_buildS [.agg [num 0, num 1].toArray] Tryz.underlying80 ty_114 (by decide) rfl rfl rfl (by decide) (by decide) (by intro v hv; simp at hv; subst hv; rfl)) rfl ?_; intro v22 h22 (r22 : RowO 114 [num 0, num 1] 1 2 v22 h22); refine sq_m 1 rfl rfl (m_appS (ss := (plainTo ts.length i)) (us := ([⟨(0), (1)⟩] : List Stp)) 1 0 Tryz.underlying80 ty_114 rfl rfl rfl rfl q rfl r22.toR (by first | omega | (simp; omega) | (simp only [List.length_append, List.length_cons, List.length_nil]; omega) | (rw [List.length_set]; omega))) rfl ?_; intro v23 h_r23 r23; obtain ⟨cs_S_23, rr_S_23, hc_S_23⟩ := r23.toR.at; refine sq_v rfl (v_assign rfl) rfl (sq_end (qs_bn (qs_n (wp_sq (sq_v rfl (v_move rfl) rfl ?_))))); refine sq_v rfl (v_add rfl rfl ((by unfold I64; omega))) rfl ?_; refine sq_v rfl (v_assign rfl) rfl (sq_end ?_); exact qs_bk (i + 1, v23, h_r23) ⟨by (try dsimp only); omega, by (try dsimp only); rw [plain_step, plainAt, if_pos (by omega)]; exact r23⟩ (by simp only; omega) ⟨rfl, (by first | rfl | exact ksub rfl (by first | omega | (simp; done) | (simp; omega))), rfl, (by first | rfl | exact ksub rfl (by first | omega | (simp; done) | (simp; omega))), trivial⟩ (fun _ s => s.pick [1, 2, 3] (by decide) rfl)
      · refine wp_sq (sq_v rfl (v_move rfl) rfl (sq_v rfl (v_move rfl) rfl ?_)); refine sq_v rfl (v_add rfl rfl ((by unfold I64; omega))) rfl ?_; refine sq_v rfl (v_move rfl) rfl (sq_v rfl (v_move rfl) rfl ?_); refine sq_v rfl (v_add rfl rfl ((by unfold I64; omega))) rfl ?_; refine sq_v rfl (v_sub rfl rfl ((by unfold I64; omega))) rfl ?_; refine sq_v rfl (v_build [num (i + 1), num ((ts.length + i) - 1)] rfl (by kernel_rfl)) rfl ?_; refine sq_x rfl (x_buildS [.agg [num (i + 1), num ((ts.length + i) - 1)].toArray] Tryz.underlying80 ty_114 (by decide) rfl rfl rfl (by decide) (by decide) (by intro v hv; simp at hv; subst hv; rfl)) rfl ?_; intro v32 h32 (r32 : RowO 114 [num (i + 1), num ((ts.length + i) - 1)] 1 2 v32 h32); refine sq_m 1 rfl rfl (m_appS (ss := (plainTo ts.length i)) (us := ([⟨(i + 1), ((ts.length + i) - 1)⟩] : List Stp)) 1 0 Tryz.underlying80 ty_114 rfl rfl rfl rfl q rfl r32.toR (by first | omega | (simp; omega) | (simp only [List.length_append, List.length_cons, List.length_nil]; omega) | (rw [List.length_set]; omega))) rfl ?_; intro v33 h_r33 r33; obtain ⟨cs_S_33, rr_S_33, hc_S_33⟩ := r33.toR.at; refine sq_v rfl (v_assign rfl) rfl (sq_end (qs_bn (qs_n (wp_sq (sq_v rfl (v_move rfl) rfl ?_))))); refine sq_v rfl (v_add rfl rfl ((by unfold I64; omega))) rfl ?_; refine sq_v rfl (v_assign rfl) rfl (sq_end ?_); exact qs_bk (i + 1, v33, h_r33) ⟨by (try dsimp only); omega, by (try dsimp only); rw [plain_step, plainAt, if_neg (by omega)]; exact r33⟩ (by simp only; omega) ⟨rfl, (by first | rfl | exact ksub rfl (by first | omega | (simp; done) | (simp; omega))), rfl, (by first | rfl | exact ksub rfl (by first | omega | (simp; done) | (simp; omega))), trivial⟩ (fun _ s => s.pick [1, 2, 3] (by decide) rfl)
    · refine wp_ex (qs_x (qs_x (qs_bx (qs_n (wp_sc (wp_sq (sq_v rfl (v_move rfl) rfl (sq_v rfl (v_assign rfl) rfl (sq_end (qs_n (wp_rt ?_))))))))))); exact qs_ret1 rfl rfl (fin_t 0 (i := 2) rfl rfl rfl (by rw [c8]; show StepsO (plainL ts.length) _ _; rw [plainL, show ts.length - 1 = i by omega]; exact q))
/-- A network with other open labels. -/
def opnP (k p n : Int) (ts : List Ten) (op os : List Int) : Prop := netL k p n ts op ∧ netL k p n ts os
open Classical in
noncomputable def opnB (k p n : Int) (ts : List Ten) (op os : List Int) : Bool := decide (opnP k p n ts op os)
theorem opnB_true {k p n : Int} {ts : List Ten} {op os : List Int} : opnB k p n ts op os = true ↔ opnP k p n ts op os := by simp [opnB]
theorem opnB_false {k p n : Int} {ts : List Ten} {op os : List Int} : opnB k p n ts op os = false ↔ ¬ opnP k p n ts op os := by simp [opnB]
theorem OpnNo {k p n : Int} {ts : List Ten} {op os : List Int} (h : ¬ opnP k p n ts op os) : NetB (ifB (opnB k p n ts op os) k 0) (ifB (opnB k p n ts op os) p 0) (ifB (opnB k p n ts op os) n 0) (ifB (opnB k p n ts op os) ts []) (ifB (opnB k p n ts op os) os []) (opnB k p n ts op os) (.tuple [netV 0 0 0 (.slice none 0 0) (.slice none 0 0), .bool false].toArray) emp := by
  rw [opnB_false.2 h]; exact ⟨_, _, rfl, NetO.nil⟩
theorem OpnYes {k p n : Int} {ts : List Ten} {op os : List Int} {vt vo : Value} {g : PH} (h : opnP k p n ts op os) (r : NetO ts os vt vo g) : NetB (ifB (opnB k p n ts op os) k 0) (ifB (opnB k p n ts op os) p 0) (ifB (opnB k p n ts op os) n 0) (ifB (opnB k p n ts op os) ts []) (ifB (opnB k p n ts op os) os []) (opnB k p n ts op os) (.tuple [netV k p n vt vo, .bool true].toArray) g := by
  rw [opnB_true.2 h]; exact ⟨_, _, rfl, r⟩
set_option maxHeartbeats 2000000 in
theorem ct_i_OpenNetwork (k p n : Int) (ts : List Ten) (op os : List Int) (vt vo v : Value) (w : World) (r : TensR ts vt (hp w)) (r' : IntsR op vo (hp w)) (ro : IntsR os v (hp w)) (hs : op.length ≤ 1048576) (hss : os.length ≤ 1048576) :
    Calls Tryz.prog 27 [netV k p n vt vo, v].toArray w (Ret w emp (NetB (ifB (opnB k p n ts op os) k 0) (ifB (opnB k p n ts op os) p 0) (ifB (opnB k p n ts op os) n 0) (ifB (opnB k p n ts op os) ts []) (ifB (opnB k p n ts op os) os []) (opnB k p n ts op os))) := by
  refine calls_in Tryz.func27 rfl Tryz.ntmps27 rfl (Sat.start w) ?_; have hle0 := r.le; obtain ⟨cs_r, rr_r, hc_r⟩ := r.at; have hle1 := r'.le; have hle2 := ro.le; refine wp_sc (wp_sq ?_); refine sq_x rfl (x_box rfl rfl) rfl ?_; rintro _ _ ⟨b2, rfl, rfl⟩; refine sq_x rfl (x_alloc ty_29 rfl) rfl ?_; rintro _ _ ⟨b4, rfl, rfl⟩; refine sq_v rfl (v_assign rfl) rfl (sq_end (qs_n (wp_sc (wp_sc (wp_sq (sq_v rfl (v_loadNB 1 ty_29 rfl rfl rfl rfl) rfl (sq_u rfl (x_callv rfl en_14 (fun w s => ct_i_NetworkOk _ _ _ _ _ _ _ w (r.mono (s.get 2 rfl)) (r'.mono (s.get 2 rfl)) (by first | assumption | omega))) rfl (sq_v rfl (v_not rfl) rfl (sq_end (qs_n ?_)))))))))); refine wp_cn _ rfl (fun c9 => ?_) (fun c9 => ?_)
  · refine wp_sc (wp_sq (sq_v rfl (v_build [num 0, num 0, num 0, .slice none 0 0, .slice none 0 0] rfl (by kernel_rfl)) rfl ?_)); refine sq_m 0 rfl rfl (m_store 0 ty_29 rfl rfl rfl rfl (by simp [one_int, one_sl]) rfl (Nat.le_of_ble_eq_true rfl)) rfl ?_; rintro _ _ ⟨rfl, rfl⟩; refine sq_v rfl (v_assign rfl) rfl (sq_end (qs_n (wp_rt (qs_r ?_)))); exact qs_retct 0 rfl ty_29 rfl rfl rfl rfl (fin_e (i := 2) rfl (OpnNo (fun h => netB_false.1 c9 h.1)))
  · refine wp_sk (qs_n (wp_sc (wp_sq ?_))); have hnet := netB_true.1 c9; refine sq_v rfl (v_loadNB 1 ty_29 rfl rfl rfl rfl) rfl ?_; refine sq_x rfl (x_call rfl en_67 (fun w s => ct_i_copyNetwork _ _ _ _ _ _ _ w (r.mono (s.get 2 rfl)) (r'.mono (s.get 2 rfl)) (by first | assumption | omega) (by first | assumption | omega))) rfl ?_; rintro _ h12 ⟨vt12, vo12, rfl, o12⟩; obtain ⟨cs_T_12, rr_T_12, hc_T_12⟩ := o12.toR.1.at; refine sq_x rfl (x_alloc ty_29 rfl) rfl ?_; rintro _ _ ⟨b6, rfl, rfl⟩; refine sq_m 0 rfl rfl (m_store 0 ty_29 rfl rfl rfl rfl (by simp [one_int, o12.toR.1.sl.one, o12.toR.2.sl.one]) rfl (Nat.le_of_ble_eq_true rfl)) rfl ?_; rintro _ _ ⟨rfl, rfl⟩; refine sq_end (qs_n (wp_sc (wp_sq (sq_v rfl (v_move rfl) rfl ?_)))); refine sq_x rfl (x_call rfl en_47 (fun w s => ct_i_copyInts _ _ w (ro.mono (s.get 4 rfl)) (by first | assumption | omega))) rfl ?_; rintro v14 h14 r14; refine sq_v rfl (v_fieldAddr fd_29_2 ty_27 (by decide) rfl) rfl ?_; refine sq_m 1 rfl rfl (m_store1 1 ty_27 rfl rfl r14.toR.sl.one rfl (Nat.le_of_ble_eq_true rfl)) rfl ?_; rintro _ _ ⟨rfl, rfl⟩; refine sq_end (qs_n (wp_sc (wp_sc (wp_sq (sq_v rfl (v_loadNB 1 ty_29 rfl rfl rfl rfl) rfl (sq_u rfl (x_callv rfl en_14 (fun w s => ct_i_NetworkOk _ _ _ _ _ _ _ w (o12.toR.1.mono (s.get 2 rfl)) (r14.toR.mono (s.get 0 rfl)) (by first | assumption | omega))) rfl (sq_v rfl (v_not rfl) rfl (sq_end (qs_n ?_))))))))); refine wp_cn _ rfl (fun c18 => ?_) (fun c18 => ?_)
    · refine wp_sc (wp_sq (sq_v rfl (v_build [num 0, num 0, num 0, .slice none 0 0, .slice none 0 0] rfl (by kernel_rfl)) rfl ?_)); refine sq_m 3 rfl rfl (m_store 3 ty_29 rfl rfl rfl rfl (by simp [one_int, one_sl]) rfl (Nat.le_of_ble_eq_true rfl)) rfl ?_; rintro _ _ ⟨rfl, rfl⟩; refine sq_v rfl (v_assign rfl) rfl (sq_end (qs_n (wp_rt (qs_r ?_)))); exact qs_retct 3 rfl ty_29 rfl rfl rfl rfl (fin_e (i := 5) rfl (OpnNo (fun h => netB_false.1 c18 h.2)))
    · refine wp_sk (qs_n (wp_sc (wp_sq (sq_v rfl (v_loadNB 1 ty_29 rfl rfl rfl rfl) rfl ?_)))); refine sq_m 3 rfl rfl (m_store 3 ty_29 rfl rfl rfl rfl (by simp [one_int, o12.toR.1.sl.one, r14.toR.sl.one]) rfl (Nat.le_of_ble_eq_true rfl)) rfl ?_; rintro _ _ ⟨rfl, rfl⟩; refine sq_v rfl (v_assign rfl) rfl (sq_end (qs_n (wp_rt ?_))); obtain ⟨cs0, g0, go, gl, rr0, roo, oh, md12⟩ := o12.split; refine qs_close [box b4 [num k, num p, num n, vt12, v14] 29, hp w] [g0, h14, gl] (fun _ s => (Sat.open (A := [box b4 [num k, num p, num n, vt12, v14] 29, hp w, h14]) md12 (s.pick [2, 3, 5, 0] (by decide) rfl)).pick [0, 1, 3, 2, 5] (by decide) rfl) (fun md => ?_); exact qs_retct 1 rfl ty_29 rfl rfl rfl rfl (fin_t 0 (i := 2) rfl rfl rfl (OpnYes ⟨hnet, netB_true.1 c18⟩ (NetO.join rr0 r14 oh md)))
end Go.Proofs.YtiefkcaplhnnmaaGreat
namespace Go.Proofs.YtiefkcaplhnnmaaGreat
set_option maxRecDepth 100000
open Go.RowKit
theorem ct_L_iCon (k p n : Int) (ts : List Ten) (op : List Int) (vt vo v : Value) (w : World) (r : TensR ts vt (hp w)) (r' : IntsR op vo (hp w)) (rv : StepsR (plainL ts.length) v (hp w)) (hs : op.length ≤ 1048576) :
    Calls Tryz.prog 53 [netV k p n vt vo, v].toArray w (Ret w emp (TenB (conR k p n ts op (plainL ts.length)) (conB k p n ts op (plainL ts.length)))) :=
  ct_i_Contract k p n ts op _ vt vo v w r r' rv hs
theorem ct_u_PlainOrder (k p n : Int) (ts : List Ten) (op : List Int) (vt vo : Value) (w : World) (r : TensR ts vt (hp w)) (r' : IntsR op vo (hp w)) (hs : op.length ≤ 1048576) (hn : netL k p n ts op) :
    Calls Tryz.prog 54 [netV k p n vt vo].toArray w (Ret w emp (StepsO (plainL ts.length))) := by
  have := ct_i_PlainOrder k p n ts op vt vo w r r' hs; rw [netB_true.2 hn] at this; exact this
theorem TriO.x {t : Ten} {a b c : Value} {h : PH} (r : TriO t a b c h) : ∃ g, PLe g h ∧ IntsO t.x c g := by
  obtain ⟨h1, h2, h3, r1, r2, r3, m⟩ := r; exact ⟨h3, m.le _ (by simp), r3⟩
set_option maxHeartbeats 2000000 in
theorem ct_i_TotalOf (k p n : Int) (ts : List Ten) (op : List Int) (vt vo : Value) (w : World) (r : TensR ts vt (hp w)) (r' : IntsR op vo (hp w)) (hs : op.length ≤ 1048576) :
    Calls Tryz.prog 17 [netV k p n vt vo].toArray w (Ret w emp (IntsB (totX k p n ts op) (totB k p n ts op))) := by
  refine calls_in Tryz.func17 rfl Tryz.ntmps17 rfl (Sat.start w) ?_; have hle0 := r.le; obtain ⟨cs_r, rr_r, hc_r⟩ := r.at; have hle1 := r'.le; refine wp_sc (wp_sq ?_); refine sq_x rfl (x_box rfl rfl) rfl ?_; rintro _ _ ⟨b1, rfl, rfl⟩; refine sq_v rfl (v_assign rfl) rfl (sq_v rfl (v_assign rfl) rfl (sq_end (qs_n (wp_sc (wp_sq (sq_v rfl (v_loadNB 0 ty_29 rfl rfl rfl rfl) rfl ?_)))))); refine sq_x rfl (x_call rfl en_27 (fun w s => ct_i_OpenNetwork _ _ _ _ _ [] _ _ _ w (r.mono (s.get 1 rfl)) (r'.mono (s.get 1 rfl)) (IntsR.nil _) (by first | assumption | omega) (Nat.zero_le _))) rfl ?_; rintro _ h10 ⟨vt10, vo10, rfl, o10⟩; obtain ⟨cs_T_10, rr_T_10, hc_T_10⟩ := o10.toR.1.at; refine sq_v rfl (v_move rfl) rfl (sq_v rfl (v_extract rfl rfl) rfl (sq_v rfl (v_extract rfl rfl) rfl ?_)); refine sq_x rfl (x_alloc ty_29 rfl) rfl ?_; rintro _ _ ⟨b4, rfl, rfl⟩; refine sq_m 0 rfl rfl (m_store 0 ty_29 rfl rfl rfl rfl (by simp [one_int, o10.toR.1.sl.one, o10.toR.2.sl.one]) rfl (Nat.le_of_ble_eq_true rfl)) rfl ?_; rintro _ _ ⟨rfl, rfl⟩; refine sq_v rfl (v_assign rfl) rfl (sq_end (qs_n (wp_sc (wp_sc (wp_sq (sq_v rfl (v_move rfl) rfl (sq_v rfl (v_not rfl) rfl (sq_end (qs_n ?_))))))))); refine wp_cn _ rfl (fun c14 => ?_) (fun c14 => ?_)
  · refine wp_sc (wp_sq (sq_v rfl (v_assign rfl) rfl (sq_v rfl (v_assign rfl) rfl (sq_end (qs_n (wp_rt (qs_r ?_))))))); exact qs_ret2 rfl rfl rfl (fin_e (i := 3) rfl (TotNo (fun h => opnB_false.1 c14 ⟨h.1, net_nil h.1⟩)))
  · refine wp_sk (qs_n (wp_sc ?_)); refine wp_ra (σ := Nat × PH × PH × Value × Value × Value × Value × Value × Value) 9 (fun z_ => StepsO (plainL (ts).length) z_.2.2.2.1 z_.2.2.1 ∧ NetO (ts) ([]) z_.2.2.2.2.1 z_.2.2.2.2.2.1 h10 ∧ TriO (conR k p n ts [] (plainL ts.length)) z_.2.2.2.2.2.2.1 z_.2.2.2.2.2.2.2.1 z_.2.2.2.2.2.2.2.2 z_.2.1) (fun z_ => [(2, .slice none 0 0), (3, .bool false), (6, .pointer (some ⟨z_.1, 0, none⟩)), (7, .bool (conB k p n ts [] (plainL ts.length))), (14, .bool (!(opnB k p n ts op [])))]) (fun z_ => [box z_.1 [z_.2.2.2.2.2.2.1, z_.2.2.2.2.2.2.2.1, z_.2.2.2.2.2.2.2.2] 55, z_.2.1, z_.2.2.1, box b4 [num (k), num (p), num (n), z_.2.2.2.2.1, z_.2.2.2.2.2.1] 29, h10, box b1 [num k, num p, num n, vt, vo] 29, hp w]) mixed_ok (by kernel_rfl) ?_ ?_
    · refine rak_of ?_; have hop := opnB_true.1 c14; have h12 := hop.1.2.1; have ek : ifB (opnB k p n ts op []) k 0 = k := (by rw [c14]; rfl); have ep : ifB (opnB k p n ts op []) p 0 = p := (by rw [c14]; rfl); have en : ifB (opnB k p n ts op []) n 0 = n := (by rw [c14]; rfl); rw [ek, ep, en]; rw [c14] at o10; refine rak_v (i := 0) (by kernel_rfl) rfl rfl (v_loadNB 0 ty_29 rfl rfl rfl rfl) rfl (rak_v (i := 1) (by kernel_rfl) rfl rfl (v_loadNB 0 ty_29 rfl rfl rfl rfl) rfl ?_); refine rak_2 (i := 2) (j := 7) (by kernel_rfl) ?_ ?_
      · refine rok_x rfl rfl (x_call rfl en_54 (fun w s => ct_u_PlainOrder _ _ _ _ [] _ _ w (o10.toR.1.mono (s.get 1 rfl)) (o10.toR.2.mono (s.get 1 rfl)) (Nat.zero_le _) hop.2)) rfl ?_; rintro v18 h18 r18; obtain ⟨cs_S_18, rr_S_18, hc_S_18⟩ := r18.toR.at; refine rak_2 (i := 3) (j := 7) (by kernel_rfl) ?_ ?_
        · refine rok_x rfl rfl (x_call rfl en_53 (fun w s => ct_L_iCon _ _ _ ts [] _ _ _ w (o10.toR.1.mono (s.get 2 rfl)) (o10.toR.2.mono (s.get 2 rfl)) (r18.toR.mono (s.get 0 rfl)) (Nat.zero_le _))) rfl ?_; rintro _ h19 ⟨va19, vb19, vc19, rfl, o19⟩; refine rak_rk [(4, true), (5, true), (6, true), (7, false), (8, false), (9, false)] (by kernel_rfl) rfl (rk_v rfl rfl (v_move rfl) rfl (rk_v rfl rfl (v_extract rfl rfl) rfl (rk_v rfl rfl (v_extract rfl rfl) rfl ?_))); refine rk_xb rfl rfl (x_alloc ty_55 rfl) rfl ?_; rintro _ _ ⟨b6, rfl, rfl⟩; refine rk_m 0 rfl rfl rfl rfl (m_store 0 ty_55 rfl rfl rfl rfl (by simp [o19.toR.1.sl.one, o19.toR.2.1.sl.one, o19.toR.2.2.sl.one]) rfl (Nat.le_of_ble_eq_true rfl)) rfl ?_; rintro _ _ ⟨rfl, rfl⟩; refine rk_fv rfl rfl (v_assign rfl) rfl (rk_end ?_); exact qs_mid (b6, h19, h18, v18, vt10, vo10, va19, vb19, vc19) ⟨r18, o10, o19⟩ ⟨rfl, rfl, rfl, rfl, rfl, trivial⟩ (fun _ s => s.pick [0, 1, 2, 3, 4, 5, 6] (by decide) rfl)
        · refine rok_xb rfl rfl (x_alloc ty_55 rfl) rfl ?_; rintro _ _ ⟨b6, rfl, rfl⟩; refine rak_rk [(3, false), (4, true), (5, true), (6, true), (8, false), (9, false)] (by kernel_rfl) rfl ?_; refine rk_x rfl rfl (x_call rfl en_53 (fun w s => ct_L_iCon _ _ _ ts [] _ _ _ w (o10.toR.1.mono (s.get 3 rfl)) (o10.toR.2.mono (s.get 3 rfl)) (r18.toR.mono (s.get 1 rfl)) (Nat.zero_le _))) rfl ?_; rintro _ h19 ⟨va19, vb19, vc19, rfl, o19⟩; refine rk_v rfl rfl (v_move rfl) rfl (rk_v rfl rfl (v_extract rfl rfl) rfl (rk_v rfl rfl (v_extract rfl rfl) rfl ?_)); refine rk_m 1 rfl rfl rfl rfl (m_store 1 ty_55 rfl rfl rfl rfl (by simp [o19.toR.1.sl.one, o19.toR.2.1.sl.one, o19.toR.2.2.sl.one]) rfl (Nat.le_of_ble_eq_true rfl)) rfl ?_; rintro _ _ ⟨rfl, rfl⟩; refine rk_fv rfl rfl (v_assign rfl) rfl (rk_end ?_); exact qs_mid (b6, h19, h18, v18, vt10, vo10, va19, vb19, vc19) ⟨r18, o10, o19⟩ ⟨rfl, rfl, rfl, rfl, rfl, trivial⟩ (fun _ s => s.pick [1, 0, 2, 3, 4, 5, 6] (by decide) rfl)
      · refine rok_xb rfl rfl (x_alloc ty_55 rfl) rfl ?_; rintro _ _ ⟨b6, rfl, rfl⟩; refine rak_rk [(2, false), (3, false), (4, true), (5, true), (6, true), (8, false), (9, false)] (by kernel_rfl) rfl ?_; refine rk_x rfl rfl (x_call rfl en_54 (fun w s => ct_u_PlainOrder _ _ _ _ [] _ _ w (o10.toR.1.mono (s.get 2 rfl)) (o10.toR.2.mono (s.get 2 rfl)) (Nat.zero_le _) hop.2)) rfl ?_; rintro v18 h18 r18; obtain ⟨cs_S_18, rr_S_18, hc_S_18⟩ := r18.toR.at; refine rk_x rfl rfl (x_call rfl en_53 (fun w s => ct_L_iCon _ _ _ ts [] _ _ _ w (o10.toR.1.mono (s.get 3 rfl)) (o10.toR.2.mono (s.get 3 rfl)) (r18.toR.mono (s.get 0 rfl)) (Nat.zero_le _))) rfl ?_; rintro _ h19 ⟨va19, vb19, vc19, rfl, o19⟩; refine rk_v rfl rfl (v_move rfl) rfl (rk_v rfl rfl (v_extract rfl rfl) rfl (rk_v rfl rfl (v_extract rfl rfl) rfl ?_)); refine rk_m 2 rfl rfl rfl rfl (m_store 2 ty_55 rfl rfl rfl rfl (by simp [o19.toR.1.sl.one, o19.toR.2.1.sl.one, o19.toR.2.2.sl.one]) rfl (Nat.le_of_ble_eq_true rfl)) rfl ?_; rintro _ _ ⟨rfl, rfl⟩; refine rk_fv rfl rfl (v_assign rfl) rfl (rk_end ?_); exact qs_mid (b6, h19, h18, v18, vt10, vo10, va19, vb19, vc19) ⟨r18, o10, o19⟩ ⟨rfl, rfl, rfl, rfl, rfl, trivial⟩ (fun _ s => s.pick [2, 0, 1, 3, 4, 5, 6] (by decide) rfl)
    · rintro ⟨b6, h19, h18, v18, vt10, vo10, va19, vb19, vc19⟩ ⟨r18, o10, o19⟩; dsimp only at r18 o10 o19 ⊢; refine qs_n (wp_sc (wp_sc (wp_sq (sq_v rfl (v_move rfl) rfl (sq_v rfl (v_not rfl) rfl (sq_end (qs_n ?_))))))); refine wp_cn _ rfl (fun c23 => ?_) (fun c23 => ?_)
      · refine wp_sc (wp_sq (sq_v rfl (v_assign rfl) rfl (sq_v rfl (v_assign rfl) rfl (sq_end (qs_n (wp_rt (qs_r ?_))))))); exact qs_ret2 rfl rfl rfl (fin_e (i := 6) rfl (TotNo (fun h => conB_false.1 c23 h.2)))
      · refine wp_sk (qs_n (wp_sc (wp_sq (sq_v rfl (v_fieldAddr fd_55_2 ty_27 (by decide) rfl) rfl (sq_v rfl (v_loadB 0 ty_27 rfl rfl rfl) rfl (sq_v rfl (v_assign rfl) rfl (sq_v rfl (v_assign rfl) rfl (sq_end (qs_n (wp_rt ?_)))))))))); have hc := conB_true.1 c23; rw [conR, if_pos hc] at o19; obtain ⟨g, hg, rg⟩ := o19.x; refine qs_s [g, hp w] (fun _ s => (s.pick (HS' := [h19, hp w]) [1, 6] (by decide) rfl).less (i := 0) rfl hg) ?_; exact qs_ret2 rfl rfl rfl (fin_t 0 (i := 1) rfl rfl rfl (TotYes ⟨(opnB_true.1 c14).1, hc⟩ rg))
end Go.Proofs.YtiefkcaplhnnmaaGreat
namespace Go.Proofs.YtiefkcaplhnnmaaGreat
set_option maxRecDepth 100000
open Go.RowKit
noncomputable def selB (k m p : Int) : Bool := ringB k m p && (decide (k = 1) || decide (k = 4) || decide (k = 5))
theorem ct_i_IsSelective (k m p : Int) (w : World) : Calls Tryz.prog 19 [ringV k m p].toArray w (RetV w (.bool (selB k m p))) := by
  refine calls_in Tryz.func19 rfl Tryz.ntmps19 rfl (Sat.start w) (wp_sc (wp_sq ?_)); refine sq_x rfl (x_box rfl rfl) rfl ?_; rintro _ _ ⟨b1, rfl, rfl⟩; refine sq_v rfl (v_assign rfl) rfl (sq_end (qs_n (wp_sc (wp_sq (sq_v rfl (v_loadNB 0 ty_24 rfl rfl rfl rfl) rfl (sq_u rfl (x_callv rfl en_41 (fun w s => ct_i_RingOk _ _ _ w)) rfl ?_)))))); refine sq_bb 4 rfl (fun c4 => ?_) (fun c4 => ?_)
  · refine sq_v rfl (v_move rfl) rfl (sq_v rfl (v_fieldAddr fd_24_0 ty_3 (by decide) rfl) rfl (sq_v rfl (v_loadB 0 ty_3 rfl rfl rfl) rfl (sq_v rfl (v_eql rfl rfl) rfl ?_))); refine sq_bd 8 rfl (fun c8 => ?_) (fun c8 => ?_)
    · refine sq_v rfl (v_move rfl) rfl (sq_s rfl rfl (sq_s rfl rfl (sq_s rfl rfl (sq_v rfl (v_pickt rfl rfl) rfl (sq_v rfl (v_move rfl) rfl (sq_s rfl rfl (sq_s rfl rfl (sq_s rfl rfl (sq_v rfl (v_pickt rfl rfl) rfl ?_))))))))); refine sq_v rfl (v_pickt rfl rfl) rfl (sq_v rfl (v_assign rfl) rfl (sq_end (qs_n (wp_rt ?_)))); exact qs_ret1 rfl rfl (fin_q (i := 1) rfl (by rw [selB, c4]; simp [*]))
    · refine sq_v rfl (v_move rfl) rfl (sq_v rfl (v_fieldAddr fd_24_0 ty_3 (by decide) rfl) rfl (sq_v rfl (v_loadB 0 ty_3 rfl rfl rfl) rfl (sq_v rfl (v_eql rfl rfl) rfl (sq_v rfl (v_pickf rfl rfl) rfl ?_)))); refine sq_bd 13 rfl (fun c13 => ?_) (fun c13 => ?_)
      · refine sq_v rfl (v_move rfl) rfl (sq_s rfl rfl (sq_s rfl rfl (sq_s rfl rfl (sq_v rfl (v_pickt rfl rfl) rfl (sq_v rfl (v_pickt rfl rfl) rfl (sq_v rfl (v_assign rfl) rfl (sq_end (qs_n (wp_rt ?_))))))))); exact qs_ret1 rfl rfl (fin_q (i := 1) rfl (by rw [selB, c4]; simp [*]))
      · refine sq_v rfl (v_move rfl) rfl (sq_v rfl (v_fieldAddr fd_24_0 ty_3 (by decide) rfl) rfl (sq_v rfl (v_loadB 0 ty_3 rfl rfl rfl) rfl (sq_v rfl (v_eql rfl rfl) rfl (sq_v rfl (v_pickf rfl rfl) rfl (sq_v rfl (v_pickt rfl rfl) rfl (sq_v rfl (v_assign rfl) rfl (sq_end (qs_n (wp_rt ?_))))))))); exact qs_ret1 rfl rfl (fin_q (i := 1) rfl (by rw [selB, c4]; simp [*]))
  · refine sq_v rfl (v_move rfl) rfl (sq_s rfl rfl (sq_s rfl rfl (sq_s rfl rfl (sq_s rfl rfl (sq_s rfl rfl (sq_s rfl rfl (sq_s rfl rfl (sq_s rfl rfl (sq_s rfl rfl ?_))))))))); refine sq_s rfl rfl (sq_s rfl rfl (sq_s rfl rfl (sq_s rfl rfl (sq_v rfl (v_pickf rfl rfl) rfl (sq_v rfl (v_assign rfl) rfl (sq_end (qs_n (wp_rt ?_)))))))); exact qs_ret1 rfl rfl (fin_q (i := 1) rfl (by rw [selB, c4]; simp [*]))
end Go.Proofs.YtiefkcaplhnnmaaGreat
namespace Go.Proofs.YtiefkcaplhnnmaaGreat
set_option maxRecDepth 100000
open Go.RowKit
set_option maxHeartbeats 2000000 in
theorem ct_i_Marginal (k p n x : Int) (ts : List Ten) (op : List Int) (vt vo : Value) (w : World) (r : TensR ts vt (hp w)) (r' : IntsR op vo (hp w)) (hs : op.length ≤ 1048576) :
    Calls Tryz.prog 30 [netV k p n vt vo, num x].toArray w (Ret w emp (TenB (marR k p n ts op x) (marB k p n ts op x))) := by
  refine calls_in Tryz.func30 rfl Tryz.ntmps30 rfl (Sat.start w) ?_; have hle0 := r.le; obtain ⟨cs_r, rr_r, hc_r⟩ := r.at; have hle1 := r'.le; refine wp_sc (wp_sq ?_); refine sq_x rfl (x_box rfl rfl) rfl ?_; rintro _ _ ⟨b2, rfl, rfl⟩; refine sq_x rfl (x_alloc ty_55 rfl) rfl ?_; rintro _ _ ⟨b4, rfl, rfl⟩; refine sq_v rfl (v_assign rfl) rfl (sq_end (qs_n (wp_sc (wp_sq (sq_v rfl (v_loadNB 1 ty_29 rfl rfl rfl rfl) rfl (sq_v rfl (v_move rfl) rfl ?_)))))); refine sq_x rfl (x_buildS [num (x)] Tryz.underlying27 ty_3 (by decide) rfl rfl rfl (by decide) (by decide) (by intro v hv; simp at hv; rcases hv with rfl <;> rfl)) rfl ?_; intro v11 h11 (r11 : IntsO [x] v11 h11); refine sq_x rfl (x_call rfl en_27 (fun w s => ct_i_OpenNetwork _ _ _ _ _ _ _ _ _ w (r.mono (s.get 3 rfl)) (r'.mono (s.get 3 rfl)) (r11.toR.mono (s.get 0 rfl)) (by first | assumption | omega) (Nat.le_of_ble_eq_true rfl))) rfl ?_; rintro _ h12 ⟨vt12, vo12, rfl, o12⟩; obtain ⟨cs_T_12, rr_T_12, hc_T_12⟩ := o12.toR.1.at; refine sq_v rfl (v_move rfl) rfl (sq_v rfl (v_extract rfl rfl) rfl (sq_v rfl (v_extract rfl rfl) rfl ?_)); refine sq_x rfl (x_alloc ty_29 rfl) rfl ?_; rintro _ _ ⟨b6, rfl, rfl⟩; refine sq_m 0 rfl rfl (m_store 0 ty_29 rfl rfl rfl rfl (by simp [one_int, o12.toR.1.sl.one, o12.toR.2.sl.one]) rfl (Nat.le_of_ble_eq_true rfl)) rfl ?_; rintro _ _ ⟨rfl, rfl⟩; refine sq_v rfl (v_assign rfl) rfl (sq_end (qs_n (wp_sc (wp_sc (wp_sq (sq_v rfl (v_move rfl) rfl (sq_v rfl (v_not rfl) rfl (sq_end (qs_n ?_))))))))); refine wp_cn _ rfl (fun c16 => ?_) (fun c16 => ?_)
  · refine wp_sc (wp_sq (sq_v rfl (v_build [.slice none 0 0, .slice none 0 0, .slice none 0 0] rfl (by kernel_rfl)) rfl ?_)); refine sq_m 3 rfl rfl (m_store 3 ty_55 rfl rfl rfl rfl (by simp [one_sl]) rfl (Nat.le_of_ble_eq_true rfl)) rfl ?_; rintro _ _ ⟨rfl, rfl⟩; refine sq_v rfl (v_assign rfl) rfl (sq_end (qs_n (wp_rt (qs_r ?_)))); exact qs_retct 3 rfl ty_55 rfl rfl rfl rfl (fin_e (i := 5) rfl (MarNo (fun h => opnB_false.1 c16 ⟨h.1, h.2.1.1⟩)))
  · refine wp_sk (qs_n (wp_sc (wp_rj 6 [(0, true), (1, true), (2, false), (3, false), (4, true), (5, true), (6, false), (7, false)] mixed_ok (by kernel_rfl) ?_))); have hop := opnB_true.1 c16; have h12 := hop.1.2.1; have ek : ifB (opnB k p n ts op [x]) k 0 = k := (by rw [c16]; rfl); have ep : ifB (opnB k p n ts op [x]) p 0 = p := (by rw [c16]; rfl); have en : ifB (opnB k p n ts op [x]) n 0 = n := (by rw [c16]; rfl); rw [ek, ep, en]; rw [c16] at o12; refine rj_v rfl rfl (v_loadNB 0 ty_29 rfl rfl rfl rfl) rfl (rj_v rfl rfl (v_loadNB 0 ty_29 rfl rfl rfl rfl) rfl ?_); refine rj_x rfl rfl (x_call rfl en_54 (fun w s => ct_u_PlainOrder _ _ _ _ [x] _ _ w (o12.toR.1.mono (s.get 1 rfl)) (o12.toR.2.mono (s.get 1 rfl)) (Nat.le_of_ble_eq_true rfl) hop.2)) rfl ?_; rintro v20 h20 r20; obtain ⟨cs_S_20, rr_S_20, hc_S_20⟩ := r20.toR.at; refine rj_x rfl rfl (x_call rfl en_53 (fun w s => ct_L_iCon _ _ _ ts [x] _ _ _ w (o12.toR.1.mono (s.get 2 rfl)) (o12.toR.2.mono (s.get 2 rfl)) (r20.toR.mono (s.get 0 rfl)) (Nat.le_of_ble_eq_true rfl))) rfl ?_; rintro _ h21 ⟨va21, vb21, vc21, rfl, o21⟩; refine rj_v rfl rfl (v_extract rfl rfl) rfl (rj_v rfl rfl (v_extract rfl rfl) rfl ?_); refine rj_m 5 rfl rfl rfl rfl (m_store 5 ty_55 rfl rfl rfl rfl (by simp [o21.toR.1.sl.one, o21.toR.2.1.sl.one, o21.toR.2.2.sl.one]) rfl (Nat.le_of_ble_eq_true rfl)) rfl ?_; rintro _ _ ⟨rfl, rfl⟩; refine rj_fv rfl rfl (v_assign rfl) rfl (rj_end (qs_n (wp_rt ?_))); exact qs_retct 5 rfl ty_55 rfl rfl rfl rfl (fin_t 0 (i := 7) rfl rfl rfl (by rw [(mar_con hop.1).1, (mar_con hop.1).2]; exact ⟨_, _, _, rfl, o21⟩))
def cntP (k p n : Int) (ts : List Ten) (op : List Int) : Prop := netL k p n ts op ∧ totP 3 1000000 0 (suppTs k p n ts) op
open Classical in
noncomputable def cntB (k p n : Int) (ts : List Ten) (op : List Int) : Bool := decide (cntP k p n ts op)
noncomputable def cntV (k p n : Int) (ts : List Ten) (op : List Int) : Int := ifB (cntB k p n ts op) ((totX 3 1000000 0 (suppTs k p n ts) op).getD 0 0) 0
theorem cntB_true {k p n : Int} {ts : List Ten} {op : List Int} : cntB k p n ts op = true ↔ cntP k p n ts op := by simp [cntB]
theorem tot_len {k p n : Int} {ts : List Ten} {op : List Int} (h : totP k p n ts op) : 1 ≤ (totX k p n ts op).length ∧ (totX k p n ts op).length ≤ 6 := by
  have := h.inR.1; have hw := width_range h.1.1
  omega
def isbP (k p n : Int) (ts : List Ten) (op vs : List Int) : Prop := assignL k p n ts op vs ∧ selB k p n = true ∧ totP k p n ts op ∧ totX k p n ts op = weightL k p n ts op vs
open Classical in
noncomputable def isbB (k p n : Int) (ts : List Ten) (op vs : List Int) : Bool := decide (isbP k p n ts op vs)
theorem isb_no {k p n : Int} {ts : List Ten} {op vs : List Int} (h : ¬ isbP k p n ts op vs) : Value.bool false = .bool (isbB k p n ts op vs) := by simp [isbB, h]
theorem isb_of {k p n : Int} {ts : List Ten} {op vs : List Int} {q : Bool} (h : q = true ↔ isbP k p n ts op vs) : Value.bool q = .bool (isbB k p n ts op vs) := by
  congr 1
  rw [Bool.eq_iff_iff, h]
  simp [isbB]
def bofP (k p n : Int) (ts : List Ten) (op : List Int) (x : Int) : Prop := marP k p n ts op x ∧ totP k p n ts op ∧ selB k p n = true ∧ (totX k p n ts op).getD 0 0 ∈ (marR k p n ts op x).x
open Classical in
noncomputable def bofB (k p n : Int) (ts : List Ten) (op : List Int) (x : Int) : Bool := decide (bofP k p n ts op x)
noncomputable def bofV (k p n : Int) (ts : List Ten) (op : List Int) (x : Int) : Int := ifB (bofB k p n ts op x) (findI (marR k p n ts op x).x ((totX k p n ts op).getD 0 0)) 0
theorem BofNo {k p n x : Int} {ts : List Ten} {op : List Int} (h : ¬ bofP k p n ts op x) : (.tuple [num 0, .bool false].toArray : Value) = .tuple [num (bofV k p n ts op x), .bool (bofB k p n ts op x)].toArray := by
  have e : bofB k p n ts op x = false := by simp [bofB, h]
  rw [bofV, e]; rfl
theorem BofYes {k p n x : Int} {ts : List Ten} {op : List Int} {i : Nat} (h1 : marP k p n ts op x) (h2 : totP k p n ts op) (h3 : selB k p n = true) (hi : i < (marR k p n ts op x).x.length) (hn : ∀ j, j < i → (marR k p n ts op x).x.getD j 0 ≠ (totX k p n ts op).getD 0 0) (he : (marR k p n ts op x).x.getD i 0 = (totX k p n ts op).getD 0 0) :
    (.tuple [num i, .bool true].toArray : Value) = .tuple [num (bofV k p n ts op x), .bool (bofB k p n ts op x)].toArray := by
  have h : bofP k p n ts op x := ⟨h1, h2, h3, by rw [← he]; exact mem_getD hi⟩
  have e : bofB k p n ts op x = true := by simp [bofB, h]
  rw [bofV, e]; have := idx_first hn hi he
  show Value.tuple [num i, .bool true].toArray = .tuple [num (findI (marR k p n ts op x).x ((totX k p n ts op).getD 0 0)), .bool true].toArray
  rw [this]
theorem sel_ring {k p n : Int} (h : selB k p n = true) : ringL k p n := by
  simp only [selB, Bool.and_eq_true] at h; exact ringB_true.1 h.1
set_option maxHeartbeats 2000000 in
theorem ct_i_BestOf (k p n x : Int) (ts : List Ten) (op : List Int) (vt vo : Value) (w : World) (r : TensR ts vt (hp w)) (r' : IntsR op vo (hp w)) (hs : op.length ≤ 1048576) :
    Calls Tryz.prog 24 [netV k p n vt vo, num x].toArray w (RetV w (.tuple [num (bofV k p n ts op x), .bool (bofB k p n ts op x)].toArray)) := by
  refine calls_in Tryz.func24 rfl Tryz.ntmps24 rfl (Sat.start w) ?_; have hle0 := r.le; obtain ⟨cs_r, rr_r, hc_r⟩ := r.at; have hle1 := r'.le; refine wp_sc (wp_sq ?_); refine sq_x rfl (x_box rfl rfl) rfl ?_; rintro _ _ ⟨b2, rfl, rfl⟩; refine sq_v rfl (v_assign rfl) rfl (sq_v rfl (v_assign rfl) rfl (sq_end (qs_n (wp_sc (wp_sc (wp_sq (sq_v rfl (v_loadNB 0 ty_29 rfl rfl rfl rfl) rfl (sq_u rfl (x_callv rfl en_14 (fun w s => ct_i_NetworkOk _ _ _ _ _ _ _ w (r.mono (s.get 1 rfl)) (r'.mono (s.get 1 rfl)) (by first | assumption | omega))) rfl ?_)))))))); refine sq_bb 13 rfl (fun c13 => ?_) (fun c13 => ?_)
  · refine sq_v rfl (v_not rfl) rfl (sq_v rfl (v_move rfl) rfl (sq_v rfl (v_fieldAddr fd_29_0 ty_24 (by decide) rfl) rfl (sq_v rfl (v_loadNB 0 ty_24 rfl rfl rfl rfl) rfl (sq_u rfl (x_callv rfl en_19 (fun w s => ct_i_IsSelective _ _ _ w)) rfl (sq_v rfl (v_not rfl) rfl (sq_v rfl (v_pickf rfl rfl) rfl (sq_end (qs_n ?_)))))))); refine wp_cn _ rfl (fun c20 => ?_) (fun c20 => ?_)
    · refine wp_sc (wp_sq (sq_v rfl (v_assign rfl) rfl (sq_v rfl (v_assign rfl) rfl (sq_end (qs_n (wp_rt (qs_r ?_))))))); exact qs_ret2 rfl rfl rfl (fin_q (i := 1) rfl (BofNo (fun h => absurd (c20.symm.trans h.2.2.1) (by decide))))
    · refine wp_sk (qs_n (wp_sc (wp_sq (sq_v rfl (v_loadNB 0 ty_29 rfl rfl rfl rfl) rfl (sq_v rfl (v_move rfl) rfl ?_))))); refine sq_x rfl (x_call rfl en_30 (fun w s => ct_i_Marginal _ _ _ _ _ _ _ _ w (r.mono (s.get 1 rfl)) (r'.mono (s.get 1 rfl)) (by first | assumption | omega))) rfl ?_; rintro _ h24 ⟨va24, vb24, vc24, rfl, o24⟩; refine sq_v rfl (v_move rfl) rfl (sq_v rfl (v_extract rfl rfl) rfl (sq_v rfl (v_extract rfl rfl) rfl ?_)); refine sq_x rfl (x_alloc ty_55 rfl) rfl ?_; rintro _ _ ⟨b6, rfl, rfl⟩; refine sq_m 0 rfl rfl (m_store 0 ty_55 rfl rfl rfl rfl (by simp [o24.toR.1.sl.one, o24.toR.2.1.sl.one, o24.toR.2.2.sl.one]) rfl (Nat.le_of_ble_eq_true rfl)) rfl ?_; rintro _ _ ⟨rfl, rfl⟩; refine sq_v rfl (v_assign rfl) rfl (sq_end (qs_n (wp_sc (wp_sq (sq_v rfl (v_loadNB 2 ty_29 rfl rfl rfl rfl) rfl ?_))))); refine sq_x rfl (x_call rfl en_17 (fun w s => ct_i_TotalOf _ _ _ _ _ _ _ w (r.mono (s.get 3 rfl)) (r'.mono (s.get 3 rfl)) (by first | assumption | omega))) rfl ?_; rintro _ h29 ⟨v29, rfl, r29⟩; refine sq_v rfl (v_move rfl) rfl (sq_v rfl (v_extract rfl rfl) rfl (sq_v rfl (v_extract rfl rfl) rfl (sq_v rfl (v_assign rfl) rfl (sq_v rfl (v_assign rfl) rfl (sq_end (qs_n (wp_sc (wp_sc (wp_sq ?_))))))))); refine sq_bb 7 rfl (fun c7 => ?_) (fun c7 => ?_)
      · refine sq_v rfl (v_move rfl) rfl (sq_v rfl (v_not rfl) rfl (sq_v rfl (v_move rfl) rfl (sq_v rfl (v_move rfl) rfl (sq_v rfl (v_not rfl) rfl (sq_v rfl (v_pickf rfl rfl) rfl (sq_end (qs_n ?_))))))); refine wp_cn _ rfl (fun c37 => ?_) (fun c37 => ?_)
        · refine wp_sc (wp_sq (sq_v rfl (v_assign rfl) rfl (sq_v rfl (v_assign rfl) rfl (sq_end (qs_n (wp_rt (qs_r ?_))))))); exact qs_ret2 rfl rfl rfl (fin_q (i := 4) rfl (BofNo (fun h => totB_false.1 c37 h.2.1)))
        · refine wp_sk (qs_n (wp_sc (wp_sc (wp_sq (sq_v rfl (v_fieldAddr fd_55_2 ty_27 (by decide) rfl) rfl (sq_v rfl (v_loadB 1 ty_27 rfl rfl rfl) rfl (sq_v rfl (v_len Tryz.underlying27 rfl o24.toR.2.2.sl) rfl (sq_v rfl (v_move rfl) rfl (sq_end (qs_n (wp_bl ?_))))))))))); refine wp_lp (σ := Nat) (fun z_ => [(4, num 0), (5, .bool false), (8, v29), (39, vc24), (40, num ((marR k p n ts op x).x).length), (41, num z_)]) (fun z_ => [h29, box b6 [va24, vb24, vc24] 55, h24, box b2 [num k, num p, num n, vt, vo] 29, hp w]) (fun z_ => z_ ≤ (marR k p n ts op x).x.length ∧ (∀ j, j < z_ → (marR k p n ts op x).x.getD j 0 ≠ (totX k p n ts op).getD 0 0)) (fun z_ => (marR k p n ts op x).x.length - z_) 0 (⟨by omega, fun j hj => by omega⟩) ⟨rfl, rfl, rfl, rfl, rfl, (by first | rfl | exact ksub rfl (by first | omega | (simp; done) | (simp; omega))), trivial⟩ (fun _ s => s) ?_; rintro i ⟨hi, hv⟩; have hms := (mar_small (k := k) (p := p) (n := n) (ts := ts) (op := op) (x := x)).1; have htl := tot_len (totB_true.1 c37); refine wp_sc (wp_sq (sq_v rfl (v_lss rfl rfl) rfl (sq_end (qs_n (wp_sc ?_))))); refine wp_cd rfl (fun c42 => ?_) (fun c42 => ?_)
          · refine wp_sk (qs_n (wp_sc (wp_bl (wp_sc (wp_sq (sq_v rfl (v_move rfl) rfl ?_)))))); refine sq_v rfl (v_idxI Tryz.underlying27 ty_3 rfl rfl o24.toR.2.2 (by first | omega | (simp; omega) | (simp only [List.length_append, List.length_cons, List.length_nil]; omega) | (rw [List.length_set]; omega)) (by first | omega | (simp; omega) | (simp only [List.length_append, List.length_cons, List.length_nil]; omega) | (rw [List.length_set]; omega))) rfl ?_; refine sq_v rfl (v_loadI (k := i) 2 ty_3 rfl rfl o24.toR.2.2 (by first | omega | (simp; omega) | (simp only [List.length_append, List.length_cons, List.length_nil]; omega) | (rw [List.length_set]; omega))) rfl ?_; refine sq_v rfl (v_assign rfl) rfl (sq_v rfl (v_assign rfl) rfl (sq_end (qs_n (wp_sc (wp_sq (sq_v rfl (v_move rfl) rfl (sq_v rfl (v_move rfl) rfl ?_))))))); refine sq_v rfl (v_idxI Tryz.underlying27 ty_3 rfl rfl r29.toR (by first | omega | (simp; omega) | (simp only [List.length_append, List.length_cons, List.length_nil]; omega) | (rw [List.length_set]; omega)) (by first | omega | (simp; omega) | (simp only [List.length_append, List.length_cons, List.length_nil]; omega) | (rw [List.length_set]; omega))) rfl ?_; refine sq_v rfl (v_loadI (k := 0) 0 ty_3 rfl rfl r29.toR (by first | omega | (simp; omega) | (simp only [List.length_append, List.length_cons, List.length_nil]; omega) | (rw [List.length_set]; omega))) rfl ?_; refine sq_v rfl (v_eql rfl rfl) rfl (sq_end (qs_n ?_)); refine wp_cd rfl (fun c50 => ?_) (fun c50 => ?_)
            · refine wp_sc (wp_sq (sq_v rfl (v_move rfl) rfl (sq_v rfl (v_assign rfl) rfl (sq_v rfl (v_assign rfl) rfl (sq_end (qs_n (wp_rt (qs_br (qs_r (qs_r (qs_br (qs_r ?_)))))))))))); exact qs_ret2 rfl rfl rfl (fin_q (i := 4) rfl (BofYes (marB_true.1 c7) (totB_true.1 c37) c20 (by omega) hv c50))
            · refine wp_sk (qs_bn (qs_n (wp_sq ?_))); refine sq_v rfl (v_add rfl rfl ((by unfold I64; omega))) rfl ?_; refine sq_v rfl (v_move rfl) rfl (sq_end ?_); exact qs_bk (i + 1) ⟨by omega, step_all hv c50⟩ (by omega) ⟨rfl, rfl, rfl, rfl, rfl, (by first | rfl | exact ksub rfl (by first | omega | (simp; done) | (simp; omega))), trivial⟩ (fun _ s => s)
          · refine wp_ex (qs_x (qs_x (qs_bx (qs_n (wp_sc (wp_sq (sq_v rfl (v_assign rfl) rfl (sq_v rfl (v_assign rfl) rfl (sq_end (qs_n (wp_rt ?_))))))))))); exact qs_ret2 rfl rfl rfl (fin_q (i := 4) rfl (BofNo (fun h => not_mem_of (fun j hj => hv j (by omega)) h.2.2.2)))
      · refine sq_v rfl (v_move rfl) rfl (sq_v rfl (v_not rfl) rfl (sq_v rfl (v_move rfl) rfl (sq_s rfl rfl (sq_s rfl rfl (sq_v rfl (v_pickt rfl rfl) rfl (sq_end (qs_n (wp_ct rfl (wp_sc (wp_sq (sq_v rfl (v_assign rfl) rfl (sq_v rfl (v_assign rfl) rfl (sq_end (qs_n (wp_rt (qs_r ?_)))))))))))))))); exact qs_ret2 rfl rfl rfl (fin_q (i := 4) rfl (BofNo (fun h => marB_false.1 c7 h.1)))
  · refine sq_v rfl (v_not rfl) rfl (sq_v rfl (v_move rfl) rfl (sq_s rfl rfl (sq_s rfl rfl (sq_s rfl rfl (sq_s rfl rfl (sq_v rfl (v_pickt rfl rfl) rfl (sq_end (qs_n (wp_ct rfl (wp_sc (wp_sq (sq_v rfl (v_assign rfl) rfl (sq_v rfl (v_assign rfl) rfl (sq_end (qs_n (wp_rt (qs_r ?_))))))))))))))))); exact qs_ret2 rfl rfl rfl (fin_q (i := 1) rfl (BofNo (fun h => netB_false.1 c13 h.1.1)))
end Go.Proofs.YtiefkcaplhnnmaaGreat
namespace Go.Proofs.YtiefkcaplhnnmaaGreat
set_option maxRecDepth 100000
open Go.RowKit
theorem flat_len_all {α : Type} {e : α → List Int} {W : Nat} : ∀ {l : List α}, (∀ m ∈ l, (e m).length = W) → (l.flatMap e).length = l.length * W
  | [], _ => by simp
  | a :: l, h => by
    have ih := flat_len_all (l := l) fun m hm => h m (by simp [hm]); rw [List.flatMap_cons, List.length_append, ih, h a (by simp), List.length_cons, Nat.add_mul, Nat.one_mul, Nat.add_comm]
theorem elt_flat {α : Type} {e : α → List Int} {W : Nat} {l : List α} (h : ∀ m ∈ l, (e m).length = W) {i : Nat} (hi : i < l.length) : elt (l.flatMap e) W i = e l[i] := by
  have e1 : l = l.take i ++ (l[i] :: l.drop (i + 1)) := by rw [← List.drop_eq_getElem_cons hi, List.take_append_drop]
  have hl : ((l.take i).flatMap e).length = i * W := by
    rw [flat_len_all fun m hm => h m (List.mem_of_mem_take hm), List.length_take, Nat.min_eq_left (by omega)]
  unfold elt
  rw [show ((i : Int) * (W : Int)).toNat = i * W by rw [← Int.natCast_mul, Int.toNat_natCast], Int.toNat_natCast]
  conv => lhs; rw [e1]
  rw [List.flatMap_append, List.drop_left' hl, List.flatMap_cons, List.take_left' (h _ (List.getElem_mem hi))]
def bitAt (k p n : Int) (t : Ten) (m : Nat) : Int := if elt t.x (widthI k n) m = zeroL k p n then 0 else 1
theorem bits_map (k p n : Int) (t : Ten) (m : Nat) : bitsL k p n t m = (List.range m).map (bitAt k p n t) := rfl
theorem w3 : widthI 3 0 = 1 := rfl
theorem r3 : ringL 3 1000000 0 := .inr (.inr (.inl ⟨.inl rfl, by omega, rfl⟩))
theorem t3 : topI 3 1000000 0 = 1000000 := rfl
theorem supp_ten {k p n : Int} {t : Ten} (h : tensorL k p n t.l t.d t.x) : tensorL 3 1000000 0 (suppT k p n t).l (suppT k p n t).d (suppT k p n t).x := by
  have hs := sizeI_ge.1 h.2.1; have hp := prodI_one fun d hd => (dims_mem (axes_dims hs.1) d hd).1; refine ⟨r3, h.2.1, ?_, fun a ha => ?_⟩
  · show ((bitsL k p n t (prodI t.d).toNat).length : Int) = sizeI t.l t.d * widthI 3 0
    rw [sizeI_yes hs.1 hs.2, w3, bits_map, List.length_map, List.length_range]
    omega
  · rw [t3]; have ha' : a ∈ bitsL k p n t (prodI t.d).toNat := ha; rw [bits_map] at ha'; obtain ⟨m, _, rfl⟩ := List.mem_map.1 ha'
    unfold bitAt
    split <;> omega
theorem supp_dim {k p n : Int} (ts : List Ten) (x : Int) : dimOf (suppTs k p n ts) x = dimOf ts x := by
  induction ts with
  | nil => rfl
  | cons t ts ih => show (if x ∈ t.l then _ else dimOf (suppTs k p n ts) x) = _; rw [ih]; rfl
theorem supp_net {k p n : Int} {ts : List Ten} {op : List Int} (h : netL k p n ts op) : netL 3 1000000 0 (suppTs k p n ts) op := by
  have hd := net_dmap h; refine ⟨r3, by rw [suppTs, List.length_map]; exact h.2.1, fun t ht => ?_, cons_of_map (f := dimOf ts) fun t ht => ?_, ?_⟩
  · obtain ⟨u, hu, rfl⟩ := List.mem_map.1 ht; exact supp_ten (h.2.2.1 u hu)
  · obtain ⟨u, hu, rfl⟩ := List.mem_map.1 ht; exact hd u hu
  · have e : dimsFor (suppTs k p n ts) op = dimsFor ts op := List.map_congr_left fun x _ => supp_dim ts x; rw [e]; exact h.2.2.2.2
noncomputable def cuT (k n : Int) (ts : List Ten) (vs : List Int) (i : Nat) (v : Int) : List Ten := tsI k n ts (labelsL ts) (vs.take i ++ [v]) (i + 1)
theorem cu_get {vs : List Int} {i j : Nat} {v : Int} (hi : i ≤ vs.length) : (j < i → (vs.take i ++ [v]).getD j 0 = vs.getD j 0) ∧ (vs.take i ++ [v]).getD i 0 = v := by
  have hl : (vs.take i).length = i := by simp; omega
  constructor
  · intro hj; simp only [List.getD]; rw [List.getElem?_append_left (by omega), List.getElem?_take, if_pos hj]
  · simp only [List.getD]; rw [List.getElem?_append_right (by omega), hl, Nat.sub_self]
    rfl
theorem cu_step {k n : Int} {ts : List Ten} {vs : List Int} {i : Nat} {v : Int} (hi : i ≤ vs.length) : cuT k n ts vs i v = (tsI k n ts (labelsL ts) vs i).map fun t => fix1 k n t ((labelsL ts).getD i 0) v := by
  rw [cuT, tsI_step, (cu_get (j := 0) hi).2]
  congr 1
  unfold tsI
  exact List.map_congr_left fun t _ => fixTo_congr fun j hj => ⟨rfl, (cu_get hi).1 hj⟩
theorem cu_fit {ts : List Ten} {vs : List Int} {i : Nat} {v : Int} (hi : i ≤ vs.length) (hf : fitI ts (labelsL ts) vs i) (hv : 0 ≤ v ∧ v < dimOf ts ((labelsL ts).getD i 0)) : fitI ts (labelsL ts) (vs.take i ++ [v]) (i + 1) := fun j hj => by
  rcases Nat.lt_or_ge j i with c | c
  · rw [(cu_get hi).1 c]; exact hf j c
  · have e : j = i := by omega
    subst e; rw [(cu_get (j := 0) hi).2]; exact hv
noncomputable def cuV (k p n : Int) (ts : List Ten) (op vs : List Int) (i : Nat) (v : Int) : Int := (totX 3 1000000 0 (tsI 3 0 (suppTs k p n ts) (labelsL ts) (vs.take i ++ [v]) (i + 1)) (opI op (labelsL ts) (i + 1))).getD 0 0
def cuP (k p n : Int) (ts : List Ten) (op vs : List Int) (i : Nat) (v : Int) : Prop := totP 3 1000000 0 (tsI 3 0 (suppTs k p n ts) (labelsL ts) (vs.take i ++ [v]) (i + 1)) (opI op (labelsL ts) (i + 1))
theorem labL_nodup (ts : List Ten) : (labelsL ts).Nodup := labels_nodup ts 100
theorem cu_range {k p n : Int} {ts : List Ten} {op vs : List Int} {i : Nat} {v : Int} (h : cuP k p n ts op vs i v) : 0 ≤ cuV k p n ts op vs i v ∧ cuV k p n ts op vs i v ≤ 1000000 := by
  have hr := h.inR; have hl := tot_len h; have := hr.2 _ (mem_getD (k := 0) (by omega)); rw [t3] at this; exact this
noncomputable def rkIn (k p n : Int) (ts : List Ten) (op vs : List Int) (i : Nat) : Nat → Int
  | 0 => 0
  | v + 1 => rkIn k p n ts op vs i v + cuV k p n ts op vs i v
noncomputable def rkTo (k p n : Int) (ts : List Ten) (op vs : List Int) : Nat → Int
  | 0 => 0
  | i + 1 => rkTo k p n ts op vs i + rkIn k p n ts op vs i (vs.getD i 0).toNat
end Go.Proofs.YtiefkcaplhnnmaaGreat
namespace Go.Proofs.YtiefkcaplhnnmaaGreat
set_option maxRecDepth 100000
open Go.RowKit
structure RLaw (k p n : Int) : Prop where
  addC : ∀ a b, InR k p n a → InR k p n b → addL k p a b = addL k p b a
  addA : ∀ a b c, InR k p n a → InR k p n b → InR k p n c → addL k p (addL k p a b) c = addL k p a (addL k p b c)
  add0 : ∀ a, InR k p n a → addL k p (zeroL k p n) a = a
  mulC : ∀ a b, InR k p n a → InR k p n b → mulL k p n a b = mulL k p n b a
  mulA : ∀ a b c, InR k p n a → InR k p n b → InR k p n c → mulL k p n (mulL k p n a b) c = mulL k p n a (mulL k p n b c)
  mul1 : ∀ a, InR k p n a → mulL k p n (oneL k p n) a = a
  mul0 : ∀ a, InR k p n a → mulL k p n (zeroL k p n) a = zeroL k p n
  dist : ∀ a b c, InR k p n a → InR k p n b → InR k p n c → mulL k p n (addL k p a b) c = addL k p (mulL k p n a c) (mulL k p n b c)
theorem in_one {k p n : Int} (h7 : k ≠ 7) (h8 : k ≠ 8) {xs : List Int} (h : InR k p n xs) : ∃ a, xs = [a] ∧ 0 ≤ a ∧ a ≤ topI k p n := by
  have hl := h.1; rw [width_1 h7 h8] at hl
  match xs, hl with
  | [a], _ => exact ⟨a, rfl, h.2 a (by simp)⟩
theorem addL_one (k p a b : Int) : addL k p [a] [b] = [add1 k p a b] := rfl
theorem zero_one {k p n : Int} (h4 : k ≠ 4) (h7 : k ≠ 7) (h8 : k ≠ 8) : zeroL k p n = [0] := by
  rw [zeroL, if_neg h4, width_1 h7 h8]; rfl
theorem cap_mul {x p c : Int} (hx : 0 ≤ x) (hc : 0 ≤ c) (hp : 1 ≤ p) : min (min x p * c) p = min (x * c) p := by
  by_cases h : x ≤ p
  · rw [Int.min_eq_left h]
  · rw [Int.min_eq_right (show p ≤ x by omega)]
    by_cases h0 : c = 0
    · subst h0; simp
    · have h1 : p * 1 ≤ p * c := Int.mul_le_mul_of_nonneg_left (by omega) (by omega); have h2 : x * 1 ≤ x * c := Int.mul_le_mul_of_nonneg_left (by omega) hx
      omega
theorem law_lat {k p n : Int} (hk : k = 1 ∨ k = 5) (h1 : k = 1 → topI k p n = 1) : RLaw k p n := by
  have h7 : k ≠ 7 := by omega
  have h8 : k ≠ 8 := by omega
  have hz : zeroL k p n = [0] := zero_one (by omega) h7 h8; have ho : oneL k p n = [topI k p n] := by
    unfold oneL
    rw [if_neg (by omega)]
    rcases hk with rfl | rfl
    · rw [if_neg (by omega), width_1 h7 h8, h1 rfl]; rfl
    · rw [if_pos (.inl rfl)]
  have ea : ∀ a b : Int, addL k p [a] [b] = [max a b] := fun a b => by rw [addL_one, add1, if_pos hk]
  have em : ∀ a b : Int, mulL k p n [a] [b] = [min a b] := fun a b => by rw [mulL, if_pos hk]; rfl
  refine ⟨?_, ?_, ?_, ?_, ?_, ?_, ?_, ?_⟩
  · intro a b ha hb; obtain ⟨a, rfl, ha⟩ := in_one h7 h8 ha; obtain ⟨b, rfl, hb⟩ := in_one h7 h8 hb; rw [ea, ea, Int.max_comm]
  · intro a b c ha hb hc; obtain ⟨a, rfl, ha⟩ := in_one h7 h8 ha; obtain ⟨b, rfl, hb⟩ := in_one h7 h8 hb; obtain ⟨c, rfl, hc⟩ := in_one h7 h8 hc; rw [ea, ea, ea, ea]; congr 1; omega
  · intro a ha; obtain ⟨a, rfl, ha⟩ := in_one h7 h8 ha; rw [hz, ea]; congr 1; omega
  · intro a b ha hb; obtain ⟨a, rfl, ha⟩ := in_one h7 h8 ha; obtain ⟨b, rfl, hb⟩ := in_one h7 h8 hb; rw [em, em, Int.min_comm]
  · intro a b c ha hb hc; obtain ⟨a, rfl, ha⟩ := in_one h7 h8 ha; obtain ⟨b, rfl, hb⟩ := in_one h7 h8 hb; obtain ⟨c, rfl, hc⟩ := in_one h7 h8 hc; rw [em, em, em, em]; congr 1; omega
  · intro a ha; obtain ⟨a, rfl, ha⟩ := in_one h7 h8 ha; rw [ho, em]; congr 1; omega
  · intro a ha; obtain ⟨a, rfl, ha⟩ := in_one h7 h8 ha; rw [hz, em]; congr 1; omega
  · intro a b c ha hb hc; obtain ⟨a, rfl, ha⟩ := in_one h7 h8 ha; obtain ⟨b, rfl, hb⟩ := in_one h7 h8 hb; obtain ⟨c, rfl, hc⟩ := in_one h7 h8 hc; rw [ea, em, em, em, ea]; congr 1; omega
theorem law_cap {p : Int} (hp : 1 ≤ p) (n : Int) : RLaw 3 p n := by
  have h7 : (3 : Int) ≠ 7 := by omega
  have h8 : (3 : Int) ≠ 8 := by omega
  have hz : zeroL 3 p n = [0] := zero_one (by omega) h7 h8; have ho : oneL 3 p n = [1] := rfl; have ht : topI 3 p n = p := rfl; have ea : ∀ a b : Int, addL 3 p [a] [b] = [min (a + b) p] := fun a b => rfl; have em : ∀ a b : Int, mulL 3 p n [a] [b] = [min (a * b) p] := fun a b => by simp [mulL]
  refine ⟨?_, ?_, ?_, ?_, ?_, ?_, ?_, ?_⟩
  · intro a b ha hb; obtain ⟨a, rfl, ja⟩ := in_one h7 h8 ha; obtain ⟨b, rfl, jb⟩ := in_one h7 h8 hb; rw [ea, ea, Int.add_comm]
  · intro a b c ha hb hc; obtain ⟨a, rfl, ja⟩ := in_one h7 h8 ha; obtain ⟨b, rfl, jb⟩ := in_one h7 h8 hb; obtain ⟨c, rfl, jc⟩ := in_one h7 h8 hc; rw [ea, ea, ea, ea]; congr 1; omega
  · intro a ha; obtain ⟨a, rfl, ja⟩ := in_one h7 h8 ha; rw [hz, ea]; congr 1; omega
  · intro a b ha hb; obtain ⟨a, rfl, ja⟩ := in_one h7 h8 ha; obtain ⟨b, rfl, jb⟩ := in_one h7 h8 hb; rw [em, em, Int.mul_comm]
  · intro a b c ha hb hc; obtain ⟨a, rfl, ja⟩ := in_one h7 h8 ha; obtain ⟨b, rfl, jb⟩ := in_one h7 h8 hb; obtain ⟨c, rfl, jc⟩ := in_one h7 h8 hc; rw [em, em, em, em, cap_mul (Int.mul_nonneg ja.1 jb.1) jc.1 hp, Int.mul_comm a (min (b * c) p), cap_mul (Int.mul_nonneg jb.1 jc.1) ja.1 hp, Int.mul_assoc, Int.mul_comm (b * c) a]
  · intro a ha; obtain ⟨a, rfl, ja⟩ := in_one h7 h8 ha; rw [ho, em]; congr 1; omega
  · intro a ha; obtain ⟨a, rfl, ja⟩ := in_one h7 h8 ha; rw [hz, em]; congr 1; omega
  · intro a b c ha hb hc; obtain ⟨a, rfl, ja⟩ := in_one h7 h8 ha; obtain ⟨b, rfl, jb⟩ := in_one h7 h8 hb; obtain ⟨c, rfl, jc⟩ := in_one h7 h8 hc; rw [ea, em, em, em, ea, cap_mul (by omega) jc.1 hp, Int.add_mul]; have h1 := Int.mul_nonneg ja.1 jc.1; have h2 := Int.mul_nonneg jb.1 jc.1
    congr 1; omega
theorem law_min {p : Int} (hp : 0 ≤ p) (n : Int) : RLaw 4 p n := by
  have h7 : (4 : Int) ≠ 7 := by omega
  have h8 : (4 : Int) ≠ 8 := by omega
  have hz : zeroL 4 p n = [p] := rfl; have ho : oneL 4 p n = [0] := rfl; have ht : topI 4 p n = p := rfl; have ea : ∀ a b : Int, addL 4 p [a] [b] = [min a b] := fun a b => rfl; have em : ∀ a b : Int, mulL 4 p n [a] [b] = [min (a + b) p] := fun a b => by simp [mulL]
  refine ⟨?_, ?_, ?_, ?_, ?_, ?_, ?_, ?_⟩
  · intro a b ha hb; obtain ⟨a, rfl, ha⟩ := in_one h7 h8 ha; obtain ⟨b, rfl, hb⟩ := in_one h7 h8 hb; rw [ea, ea, Int.min_comm]
  · intro a b c ha hb hc; obtain ⟨a, rfl, ha⟩ := in_one h7 h8 ha; obtain ⟨b, rfl, hb⟩ := in_one h7 h8 hb; obtain ⟨c, rfl, hc⟩ := in_one h7 h8 hc; rw [ea, ea, ea, ea]; congr 1; omega
  · intro a ha; obtain ⟨a, rfl, ha⟩ := in_one h7 h8 ha; rw [hz, ea]; congr 1; omega
  · intro a b ha hb; obtain ⟨a, rfl, ha⟩ := in_one h7 h8 ha; obtain ⟨b, rfl, hb⟩ := in_one h7 h8 hb; rw [em, em, Int.add_comm]
  · intro a b c ha hb hc; obtain ⟨a, rfl, ha⟩ := in_one h7 h8 ha; obtain ⟨b, rfl, hb⟩ := in_one h7 h8 hb; obtain ⟨c, rfl, hc⟩ := in_one h7 h8 hc; rw [em, em, em, em]; congr 1; omega
  · intro a ha; obtain ⟨a, rfl, ha⟩ := in_one h7 h8 ha; rw [ho, em]; congr 1; omega
  · intro a ha; obtain ⟨a, rfl, ha⟩ := in_one h7 h8 ha; rw [hz, em]; congr 1; omega
  · intro a b c ha hb hc; obtain ⟨a, rfl, ha⟩ := in_one h7 h8 ha; obtain ⟨b, rfl, hb⟩ := in_one h7 h8 hb; obtain ⟨c, rfl, hc⟩ := in_one h7 h8 hc; rw [ea, em, em, em, ea]; congr 1; omega
abbrev El (k p n : Int) := {xs : List Int // InR k p n xs}
noncomputable def smL {k p n : Int} (hr : ringL k p n) (h : RLaw k p n) : Sm (El k p n) where
  zero := ⟨zeroL k p n, zeroL_in hr⟩
  one := ⟨oneL k p n, oneL_in hr⟩
  add a b := ⟨addL k p a.1 b.1, addL_in hr a.2 b.2⟩
  mul a b := ⟨mulL k p n a.1 b.1, mulL_in hr a.2 b.2⟩
  addC a b := Subtype.ext (h.addC _ _ a.2 b.2)
  addA a b c := Subtype.ext (h.addA _ _ _ a.2 b.2 c.2)
  add0 a := Subtype.ext (h.add0 _ a.2)
  mulC a b := Subtype.ext (h.mulC _ _ a.2 b.2)
  mulA a b c := Subtype.ext (h.mulA _ _ _ a.2 b.2 c.2)
  mul1 a := Subtype.ext (h.mul1 _ a.2)
  mul0 a := Subtype.ext (h.mul0 _ a.2)
  dist a b c := Subtype.ext (h.dist _ _ _ a.2 b.2 c.2)
section
variable {k p n : Int} (hr : ringL k p n)
open Classical in
noncomputable def toA (xs : List Int) : El k p n := if h : InR k p n xs then ⟨xs, h⟩ else ⟨zeroL k p n, zeroL_in hr⟩
theorem toA_val {xs : List Int} (h : InR k p n xs) : (toA hr xs).1 = xs := by rw [toA, dif_pos h]
theorem toA_eq {xs : List Int} (h : InR k p n xs) : toA hr xs = ⟨xs, h⟩ := by rw [toA, dif_pos h]
end
end Go.Proofs.YtiefkcaplhnnmaaGreat
namespace Go.Proofs.YtiefkcaplhnnmaaGreat
set_option maxRecDepth 100000
open Go.RowKit
theorem putL_get? {xs ys : List Int} {lo : Nat} (h : lo + ys.length ≤ xs.length) (q : Nat) : (putL xs lo ys)[q]? = if q < lo then xs[q]? else if q < lo + ys.length then ys[q - lo]? else xs[q]? := by
  unfold putL
  have hl : (xs.take lo).length = lo := by simp; omega
  by_cases c1 : q < lo
  · rw [if_pos c1, List.append_assoc, List.getElem?_append_left (by omega), List.getElem?_take, if_pos c1]
  · rw [if_neg c1, List.append_assoc, List.getElem?_append_right (by omega), hl]
    by_cases c2 : q < lo + ys.length
    · rw [if_pos c2, List.getElem?_append_left (by omega)]
    · rw [if_neg c2, List.getElem?_append_right (by omega), List.getElem?_drop]
      congr 1
      omega
theorem elt_get? {xs : List Int} {w i : Int} (q : Nat) : (elt xs w i)[q]? = if q < w.toNat then xs[(i * w).toNat + q]? else none := by
  unfold elt
  rw [List.getElem?_take]
  split
  · rw [List.getElem?_drop]
  · rfl
theorem elt_put {xs ys : List Int} {w i : Int} (hw : 1 ≤ w) (hi : 0 ≤ i) (hy : ys.length = w.toNat) (hl : i * w + w ≤ xs.length) : elt (putL xs (i * w).toNat ys) w i = ys := by
  have h0 : 0 ≤ i * w := Int.mul_nonneg hi (by omega)
  apply List.ext_getElem?
  intro q; rw [elt_get?, putL_get? (by omega)]
  by_cases c : q < w.toNat
  · rw [if_pos c, if_neg (by omega), if_pos (by omega), Nat.add_sub_cancel_left]
  · rw [if_neg c, List.getElem?_eq_none (by omega)]
theorem elt_put_ne {xs ys : List Int} {w i j : Int} (hw : 1 ≤ w) (hi : 0 ≤ i) (hj : 0 ≤ j) (hy : ys.length = w.toNat) (hl : i * w + w ≤ xs.length) (hne : i ≠ j) : elt (putL xs (i * w).toNat ys) w j = elt xs w j := by
  have h0 : 0 ≤ i * w := Int.mul_nonneg hi (by omega); have h1 : 0 ≤ j * w := Int.mul_nonneg hj (by omega)
  apply List.ext_getElem?
  intro q; rw [elt_get?, elt_get?]
  by_cases c : q < w.toNat
  · rw [if_pos c, if_pos c, putL_get? (by omega)]
    rcases Int.lt_or_gt_of_ne hne with h | h
    · have := Int.mul_le_mul_of_nonneg_right (show i + 1 ≤ j by omega) (show 0 ≤ w by omega); rw [Int.add_mul, Int.one_mul] at this; rw [if_neg (by omega), if_neg (by omega)]
    · have := Int.mul_le_mul_of_nonneg_right (show j + 1 ≤ i by omega) (show 0 ≤ w by omega); rw [Int.add_mul, Int.one_mul] at this; rw [if_pos (by omega)]
  · rw [if_neg c, if_neg c]
theorem elt_rep {z : List Int} {W P : Nat} (hz : z.length = W) {i : Nat} (hi : i < P) : elt (List.replicate P z).flatten W i = z := by
  have e : (List.replicate P z).flatten = (List.range P).flatMap fun _ => z := by
    rw [List.flatMap_def, List.map_const', List.length_range]
  rw [e, elt_flat (e := fun _ => z) (l := List.range P) (fun _ _ => hz) (by simpa using hi)]
theorem offL_inj : ∀ {ds is js : List Int}, (∀ d ∈ ds, 1 ≤ d) → idxIn ds is → idxIn ds js → offL ds is = offL ds js → is = js
  | [], [], [], _, _, _, _ => rfl
  | [], i :: is, _, _, h, _, _ => by have := h.1; simp at this
  | [], [], j :: js, _, _, h, _ => by have := h.1; simp at this
  | d :: ds, [], _, _, h, _, _ => by have := h.1; simp at this
  | d :: ds, i :: is, [], _, _, h, _ => by have := h.1; simp at this
  | d :: ds, i :: is, j :: js, hd, hi, hj, he => by
    have hd' : ∀ x ∈ ds, 1 ≤ x := fun x hx => hd x (by simp [hx]); have tl : ∀ {v : Int} {vs : List Int}, idxIn (d :: ds) (v :: vs) → idxIn ds vs := fun {v vs} h => ⟨by have := h.1; simpa using this, fun q hq => by
      have := h.2 (q + 1) (by simp; omega)
      simpa using this⟩
    have oi := offL_in hd' (tl hi); have oj := offL_in hd' (tl hj); have hP := prodI_one hd'; simp only [offL] at he; have e1 : i = j := by
      rcases Int.lt_trichotomy i j with h | h | h
      · have := Int.mul_le_mul_of_nonneg_right (show i + 1 ≤ j by omega) (show 0 ≤ prodI ds by omega); rw [Int.add_mul, Int.one_mul] at this
        omega
      · exact h
      · have := Int.mul_le_mul_of_nonneg_right (show j + 1 ≤ i by omega) (show 0 ≤ prodI ds by omega); rw [Int.add_mul, Int.one_mul] at this
        omega
    subst e1; rw [offL_inj hd' (tl hi) (tl hj) (by omega)]
theorem idx_map {f a : Int → Int} {K : List Int} (h : ∀ x ∈ K, 0 ≤ a x ∧ a x < f x) : idxIn (K.map f) (K.map a) := ⟨by simp, fun j hj => by
  have hj' : j < K.length := by simpa using hj
  rw [map_getD hj', map_getD hj']; exact h _ (mem_getD hj')⟩
theorem idxAt_of {J ls : List Int} (hs : ∀ l ∈ ls, l ∈ J) (c : Int → Int) : idxAt J (J.map c) ls = ls.map c :=
  List.map_congr_left fun x hx => by
    have hg := findI_get (hs x hx)
    show (J.map c).getD (findI J x).toNat 0 = c x
    rw [map_getD hg.1, hg.2]
section
variable {k p n : Int} (hr : ringL k p n) (hR : RLaw k p n)
/-- What a tensor holds at an assignment. -/
noncomputable def val (t : Ten) (a : Int → Int) : El k p n := toA hr (elt t.x (widthI k n) (offL t.d (t.l.map a)))
theorem toA_add {x y : List Int} (hx : InR k p n x) (hy : InR k p n y) : toA hr (addL k p x y) = (smL hr hR).add (toA hr x) (toA hr y) := by
  rw [toA_eq hr hx, toA_eq hr hy, toA_eq hr (addL_in hr hx hy)]; rfl
theorem toA_mul {x y : List Int} (hx : InR k p n x) (hy : InR k p n y) : toA hr (mulL k p n x y) = (smL hr hR).mul (toA hr x) (toA hr y) := by
  rw [toA_eq hr hx, toA_eq hr hy, toA_eq hr (mulL_in hr hx hy)]; rfl
theorem toA_zero : toA hr (zeroL k p n) = (smL hr hR).zero := by rw [toA_eq hr (zeroL_in hr)]; rfl
variable {t u : Ten} {f : Int → Int} {K : List Int}
theorem pair_elt (h : PairOK k p n t u f) (hk : KeepOK t u f K) {i : Int} (h0 : 0 ≤ i) (h1 : i < prodI (K.map f)) : ∀ M : Nat, toA hr (elt (pairX k p n f t u K M) (widthI k n) i) =
    sumN (smL hr hR) (fun (m : Nat) => if atI f (joinI t.l u.l) K m = i then (smL hr hR).mul (toA hr (elt t.x (widthI k n) (atI f (joinI t.l u.l) t.l m))) (toA hr (elt u.x (widthI k n) (atI f (joinI t.l u.l) u.l m))) else (smL hr hR).zero) M
  | 0 => by
    have hw := width_range hr; have e := elt_rep (z := zeroL k p n) (W := (widthI k n).toNat) (P := (prodI (K.map f)).toNat) (zeroL_len k p n) (i := i.toNat) (by omega); rw [show (((widthI k n).toNat : Nat) : Int) = widthI k n by omega, show ((i.toNat : Nat) : Int) = i by omega] at e; rw [pairX, e, toA_zero hr hR]; rfl
  | M + 1 => by
    have hw := width_range hr; have ih := pair_elt h hk h0 h1 M; have hak := h.at_k hk M; have hal := h.all hk M; have hel := hal.el hr hak.1 hak.2; have hpr := mulL_in hr (h.el_t M) (h.el_u M); have hsum := addL_in hr hel hpr; rw [pairX, sumN, ← ih]
    by_cases c : atI f (joinI t.l u.l) K M = i
    · rw [if_pos c, c]; rw [c] at hsum hel; rw [elt_put (by omega) h0 hsum.1 (by have := h.fits hk M; rw [c] at this; exact this), toA_add hr hR hel hpr, toA_mul hr hR (h.el_t M) (h.el_u M)]
    · rw [if_neg c, Sm.add0', elt_put_ne (by omega) hak.1 h0 hsum.1 (h.fits hk M) c]
theorem pair_val (h : PairOK k p n t u f) (hk : KeepOK t u f K) {a : Int → Int} (ha : ∀ x ∈ K, 0 ≤ a x ∧ a x < f x) :
    val hr (pairT k p n f t u K) a = sumO (smL hr hR) f ((joinI t.l u.l).filter fun x => decide (x ∉ K)) (fun b => (smL hr hR).mul (val hr t b) (val hr u b)) a := by
  have hdK : ∀ d ∈ K.map f, 1 ≤ d := fun d hd => (map_dim h.dim hk.sub d hd).1; have hia := idx_map (f := f) ha; have hoa := offL_in hdK hia; have hsT : ∀ l ∈ t.l, l ∈ joinI t.l u.l := fun l hl => mem_joinI.2 (.inl hl); have hsU : ∀ l ∈ u.l, l ∈ joinI t.l u.l := fun l hl => mem_joinI.2 (.inr hl); have at_off : ∀ {ls : List Int}, ls.Nodup → (∀ l ∈ ls, l ∈ joinI t.l u.l) → ∀ m : Int, atI f (joinI t.l u.l) ls m = offL (ls.map f) (idxAt (joinI t.l u.l) (idxL ((joinI t.l u.l).map f) m) ls) := fun {ls} hn hs m => by
    unfold atI dotL
    rw [stepsL_len]; exact dot_off h.nd (by simp) hn hs
  show toA hr (elt (pairX k p n f t u K (prodI ((joinI t.l u.l).map f)).toNat) (widthI k n) (offL (K.map f) (K.map a))) = _
  rw [pair_elt hr hR h hk hoa.1 (by omega)]
  classical
  have e1 := sumO_idx (smL hr hR) f (J := joinI t.l u.l) h.nd (fun x hx => (h.dim x hx).1)
    (fun l => if offL (K.map f) (idxAt (joinI t.l u.l) l K) = offL (K.map f) (K.map a) then (smL hr hR).mul (toA hr (elt t.x (widthI k n) (offL (t.l.map f) (idxAt (joinI t.l u.l) l t.l)))) (toA hr (elt u.x (widthI k n) (offL (u.l.map f) (idxAt (joinI t.l u.l) l u.l)))) else (smL hr hR).zero) a
  rw [sumN_congr (smL hr hR) (G := fun (m : Nat) => if offL (K.map f) (idxAt (joinI t.l u.l) (idxL ((joinI t.l u.l).map f) m) K) = offL (K.map f) (K.map a) then (smL hr hR).mul (toA hr (elt t.x (widthI k n) (offL (t.l.map f) (idxAt (joinI t.l u.l) (idxL ((joinI t.l u.l).map f) m) t.l)))) (toA hr (elt u.x (widthI k n) (offL (u.l.map f) (idxAt (joinI t.l u.l) (idxL ((joinI t.l u.l).map f) m) u.l)))) else (smL hr hR).zero)
    fun m _ => by rw [at_off hk.nd hk.sub, at_off (axes_nodup (ten_axes h.tt)) hsT, at_off (axes_nodup (ten_axes h.uu)) hsU], e1]
  rw [sumO_congr (smL hr hR) f (G := fun b => if ∀ x ∈ K, b x = a x then (smL hr hR).mul (val hr t b) (val hr u b) else (smL hr hR).zero) fun b _ hb => ?_]
  · exact sumO_pick (smL hr hR) f h.nd (fun _ _ => rfl) fun x _ hx => ha x hx
  · rw [idxAt_of hk.sub, idxAt_of hsT, idxAt_of hsU]; have hib := idx_map (f := f) (a := b) (K := K) fun x hx => hb x (hk.sub x hx); have e2 : offL (K.map f) (K.map b) = offL (K.map f) (K.map a) ↔ ∀ x ∈ K, b x = a x :=
      ⟨fun e x hx => (List.map_inj_left.1 (offL_inj hdK hib hia e)) x hx, fun e => by rw [List.map_congr_left e]⟩
    unfold val
    rw [h.ht, h.hu]
    by_cases c : ∀ x ∈ K, b x = a x
    · rw [if_pos (e2.2 c), if_pos c]
    · rw [if_neg (fun e => c (e2.1 e)), if_neg c]
end
end Go.Proofs.YtiefkcaplhnnmaaGreat
