/-
  Parts of the proof of FnExactCompileOrder: laws of heaps, contracts of functions.
  Conditions: none.
-/
import Derived.Test.YthlmjnihihbckaaQCompileOrder4
namespace Go.Proofs.Ythlmjnihihbckaa
set_option maxRecDepth 100000
open Go.RowKit
theorem Made.join3 {h a b : PH} {l : List PH} (m : Made h (a :: b :: l)) : Made h [a, b, joinP l] := by
  have hs := m.sep; have hl : PLe (joinP l) h := fun k o e => by
    obtain ⟨y, hy, e'⟩ := joinP_dom e; exact m.le y (by simp [hy]) k o e'
  refine ⟨⟨fun x hx => ?_, fun x hx => ?_, fun x hx => by simp at hx, trivial⟩, fun x hx => ?_, fun k o e => ?_⟩
  · rcases List.mem_cons.1 hx with rfl | hx
    · exact hs.1 _ (by simp)
    · simp at hx; subst hx
      exact PDj.join fun y hy => hs.1 y (by simp [hy])
  · simp at hx; subst hx
    exact PDj.join fun y hy => hs.2.1 y hy
  · simp at hx
    rcases hx with rfl | rfl | rfl
    · exact m.le _ (by simp)
    · exact m.le _ (by simp)
    · exact hl
  · obtain ⟨x, hx, e'⟩ := m.dom k o e
    simp at hx
    rcases hx with rfl | rfl | hx
    · exact ⟨x, by simp, e'⟩
    · exact ⟨x, by simp, e'⟩
    · exact ⟨joinP l, by simp, PLe.join hs.2.2 x hx k o e'⟩
theorem Made.part3 {h a b c : PH} {l : List PH} (m : Made h [a, b, c]) (ml : Made c l) : Made h (a :: b :: l) := by
  have hs := m.sep; have hc : PLe c h := m.le c (by simp); refine ⟨⟨fun x hx => ?_, fun x hx => ?_, ml.sep⟩, fun x hx => ?_, fun k o e => ?_⟩
  · rcases List.mem_cons.1 hx with rfl | hx
    · exact hs.1 _ (by simp)
    · exact (((hs.1 c (by simp)).symm).mono (ml.le x hx)).symm
  · exact (((hs.2.1 c (by simp)).symm).mono (ml.le x hx)).symm
  · simp at hx
    rcases hx with rfl | rfl | hx
    · exact m.le _ (by simp)
    · exact m.le _ (by simp)
    · exact (ml.le x hx).trans hc
  · obtain ⟨x, hx, e'⟩ := m.dom k o e
    simp at hx
    rcases hx with rfl | rfl | rfl
    · exact ⟨x, by simp, e'⟩
    · exact ⟨x, by simp, e'⟩
    · obtain ⟨y, hy, e2⟩ := ml.dom k o e'; exact ⟨y, by simp [hy], e2⟩
theorem NetO.split {ts : List Ten} {op : List Int} {vt vo : Value} {h : PH} (r : NetO ts op vt vo h) : ∃ cs h0 ho hl, RowO 77 cs ts.length 3 vt h0 ∧ IntsO op vo ho ∧ OwnH (flat ts) cs hl ∧ Made h [h0, ho, hl] := by
  obtain ⟨cs, h0, ho, l, r0, r1, o, m⟩ := r; exact ⟨cs, h0, ho, joinP l, r0, r1, ⟨l, o, Made.join m.sep.2.2⟩, m.join3⟩
theorem NetO.join {ts : List Ten} {op : List Int} {vt vo : Value} {h h0 ho hl : PH} {cs : List Value} (r0 : RowO 77 cs ts.length 3 vt h0) (r1 : IntsO op vo ho) (o : OwnH (flat ts) cs hl) (m : Made h [h0, ho, hl]) : NetO ts op vt vo h := by
  obtain ⟨l, o, ml⟩ := o; exact ⟨cs, h0, ho, l, r0, r1, o, m.part3 ml⟩
theorem OwnL.take {xss : List (List Int)} {vs : List Value} {l : List PH} (o : OwnL xss vs l) (n : Nat) : OwnL (xss.take n) (vs.take n) (l.take n) := by
  refine ⟨by simp [o.l1], by simp [o.l2], fun i xs h => ?_⟩; have hi : i < n := by
    rcases Nat.lt_or_ge i n with h' | h'
    · exact h'
    · rw [List.getElem?_take, if_neg (by omega)] at h; cases h
  rw [List.getElem?_take, if_pos hi] at h ⊢; rw [List.getElem?_take, if_pos hi]; exact o.own i xs h
theorem OwnL.drop {xss : List (List Int)} {vs : List Value} {l : List PH} (o : OwnL xss vs l) (n : Nat) : OwnL (xss.drop n) (vs.drop n) (l.drop n) := by
  refine ⟨by simp [o.l1], by simp [o.l2], fun i xs h => ?_⟩; rw [List.getElem?_drop] at h ⊢; rw [List.getElem?_drop]; exact o.own (n + i) xs h
theorem flat_take {ts : List Ten} {i : Nat} (h : i ≤ ts.length) : flat (ts.take i) = (flat ts).take (i * 3) ∧ flat (ts.drop i) = (flat ts).drop (i * 3) := by
  have e : flat ts = flat (ts.take i) ++ flat (ts.drop i) := by rw [← flat_append, List.take_append_drop]
  have hl : (flat (ts.take i)).length = i * 3 := by rw [flat_len, List.length_take, Nat.min_eq_left h]
  constructor
  · rw [e, List.take_left' hl]
  · rw [e, List.drop_left' hl]
theorem flat_set {ts : List Ten} {i : Nat} (h : i < ts.length) (u : Ten) : flat (ts.set i u) = (flat ts).take (i * 3) ++ [u.l, u.d, u.x] ++ (flat ts).drop (i * 3 + 3) := by
  rw [List.set_eq_take_append_cons_drop, if_pos h, flat_append, (flat_take (Nat.le_of_lt h)).1, show i * 3 + 3 = (i + 1) * 3 by omega, ← (flat_take (show i + 1 ≤ ts.length by omega)).2, List.append_assoc]
  rfl
theorem sep_mono {l l' : List PH} (h : sepL l) (hs : l'.Sublist l) : sepL l' := by
  induction hs with
  | slnil => exact trivial
  | cons x _ ih => exact ih h.2
  | cons_cons x s ih => exact ⟨fun y hy => h.1 y (s.subset hy), ih h.2⟩
theorem OwnH.set {ts : List Ten} {u : Ten} {cs : List Value} {a b c : Value} {h h' : PH} {i : Nat} (hi : i < ts.length) (o : OwnH (flat ts) cs h) (r : TriO u a b c h') (hd : PDj h h') :
    ∃ g, PLe g (PUn h h') ∧ OwnH (flat (ts.set i u)) (cs.take (i * 3) ++ [a, b, c] ++ cs.drop (i * 3 + 3)) g := by
  obtain ⟨l, ol, m⟩ := o; obtain ⟨h1, h2, h3, r1, r2, r3, m'⟩ := r; have hx : ∀ x ∈ l.take (i * 3) ++ [h1, h2, h3] ++ l.drop (i * 3 + 3), PLe x (PUn h h') := fun x hx => by
    simp only [List.mem_append] at hx
    rcases hx with (hx | hx) | hx
    · exact (m.le x (List.mem_of_mem_take hx)).trans (PLe.un_l _ _)
    · exact (m'.le x hx).trans (PLe.un_r hd)
    · exact (m.le x (List.mem_of_mem_drop hx)).trans (PLe.un_l _ _)
  have hab : ∀ x ∈ l, ∀ y ∈ [h1, h2, h3], PDj x y := fun x hx y hy => (((hd.mono (m.le x hx)).symm).mono (m'.le y hy)).symm; have hsub : (l.take (i * 3) ++ l.drop (i * 3 + 3)).Sublist l := by
    conv => rhs; rw [← List.take_append_drop (i * 3) l]
    refine List.Sublist.append (List.Sublist.refl _) ?_; rw [← List.drop_drop]; exact List.drop_sublist _ _
  have hsep := sepL_append.1 (sep_mono m.sep hsub); have hs : sepL (l.take (i * 3) ++ [h1, h2, h3] ++ l.drop (i * 3 + 3)) := by
    refine sepL_append.2 ⟨sepL_append.2 ⟨hsep.1, m'.sep, fun x hx y hy => hab x (List.mem_of_mem_take hx) y hy⟩, hsep.2.1, fun x hx y hy => ?_⟩
    rcases List.mem_append.1 hx with hx | hx
    · exact hsep.2.2 x hx y hy
    · exact (hab y (List.mem_of_mem_drop hy) x hx).symm
  refine ⟨joinP (l.take (i * 3) ++ [h1, h2, h3] ++ l.drop (i * 3 + 3)), fun k o e => ?_, _, ?_, Made.join hs⟩
  · obtain ⟨y, hy, e'⟩ := joinP_dom e; exact hx y hy k o e'
  · rw [flat_set hi]; exact ((ol.take _).append (OwnL.three r1 r2 r3)).append (ol.drop _)
def replP (k p n : Int) (ts : List Ten) (op : List Int) (i : Int) (u : Ten) : Prop := netL k p n ts op ∧ (0 ≤ i ∧ i < ts.length) ∧ fitP k p n (ts.getD i.toNat ⟨[], [], []⟩) u
open Classical in
noncomputable def replB (k p n : Int) (ts : List Ten) (op : List Int) (i : Int) (u : Ten) : Bool := decide (replP k p n ts op i u)
noncomputable def ifB {α : Type} (b : Bool) (x y : α) : α := if b then x else y
noncomputable def replTs (k p n : Int) (ts : List Ten) (op : List Int) (i : Int) (u : Ten) : List Ten := ifB (replB k p n ts op i u) (ts.set i.toNat u) []
noncomputable def replOp (k p n : Int) (ts : List Ten) (op : List Int) (i : Int) (u : Ten) : List Int := ifB (replB k p n ts op i u) op []
def ReplR (k p n : Int) (ts : List Ten) (op : List Int) (i : Int) (u : Ten) (x : Value) (h : PH) : Prop :=
  ∃ vt vo, x = .tuple [netV (ifB (replB k p n ts op i u) k 0) (ifB (replB k p n ts op i u) p 0) (ifB (replB k p n ts op i u) n 0) vt vo, .bool (replB k p n ts op i u)].toArray ∧ NetO (replTs k p n ts op i u) (replOp k p n ts op i u) vt vo h
theorem NetO.nil : NetO [] [] (.slice none 0 0) (.slice none 0 0) emp :=
  ⟨[], emp, emp, [], RowO.nil, IntsO.nil, OwnL.nil, ⟨by simp [sepL, PDj.emp], fun x hx => by simp at hx; subst hx; exact PLe.emp _, fun k o e => by cases e⟩⟩
theorem ReplR.no {k p n i : Int} {ts : List Ten} {op : List Int} {u : Ten} (h : ¬ replP k p n ts op i u) : ReplR k p n ts op i u (.tuple [netV 0 0 0 (.slice none 0 0) (.slice none 0 0), .bool false].toArray) emp := by
  have e : replB k p n ts op i u = false := by simp [replB, h]
  refine ⟨.slice none 0 0, .slice none 0 0, ?_, ?_⟩
  · rw [e]; rfl
  · rw [replTs, replOp, e]; exact NetO.nil
theorem ReplR.yes {k p n i : Int} {ts : List Ten} {op : List Int} {u : Ten} {vt vo : Value} {g : PH} (h : replP k p n ts op i u) (r : NetO (ts.set i.toNat u) op vt vo g) : ReplR k p n ts op i u (.tuple [netV k p n vt vo, .bool true].toArray) g := by
  have e : replB k p n ts op i u = true := by simp [replB, h]
  refine ⟨vt, vo, ?_, ?_⟩
  · rw [e]; rfl
  · rw [replTs, replOp, e]; exact r
end Go.Proofs.Ythlmjnihihbckaa
namespace Go.Proofs.Ythlmjnihihbckaa
set_option maxRecDepth 100000
open Go.RowKit
theorem OwnL.piece {ts : List Ten} {vs : List Value} {l : List PH} (o : OwnL (flat ts) vs l) {k : Nat} {t : Ten} (h : ts[k]? = some t) : OwnL (flat [t]) ((vs.drop (k * 3)).take 3) ((l.drop (k * 3)).take 3) := by
  have hk := (List.getElem?_eq_some_iff.1 h).1; have e : ((flat ts).drop (k * 3)).take 3 = flat [t] := by
    rw [← (flat_take (Nat.le_of_lt hk)).2, drop_at h]; rfl
  have := (o.drop (k * 3)).take 3
  rwa [e] at this
theorem OwnL.dropK {ts : List Ten} {vs : List Value} {l : List PH} (o : OwnL (flat ts) vs l) (p q : Nat) : ∀ k, k ≤ ts.length → OwnL (flat (dropK 1 ts p q k)) (dropK 3 vs p q k) (dropK 3 l p q k)
  | 0, _ => OwnL.nil
  | k + 1, hk => by
    have ih := OwnL.dropK o p q k (by omega); have ht : ts[k]? = some ts[k] := List.getElem?_eq_getElem (by omega)
    by_cases h : k ≠ p ∧ k ≠ q
    · rw [dropK_yes h, dropK_yes h, dropK_yes h, one_drop ht, flat_append]; exact ih.append (o.piece ht)
    · rw [dropK_no h, dropK_no h, dropK_no h]; exact ih
theorem dropK_sub {α : Type} (m : Nat) (l : List α) (p q : Nat) : ∀ k, (dropK m l p q k).Sublist (l.take (k * m))
  | 0 => by simp [dropK]
  | k + 1 => by
    have ih := dropK_sub m l p q k; have e : l.take ((k + 1) * m) = l.take (k * m) ++ (l.drop (k * m)).take m := by rw [Nat.add_mul, Nat.one_mul, List.take_add]
    rw [e]
    by_cases h : k ≠ p ∧ k ≠ q
    · rw [dropK_yes h]; exact ih.append (List.Sublist.refl _)
    · rw [dropK_no h]; exact ih.trans (List.sublist_append_left _ _)
theorem OwnH.dropK {ts : List Ten} {cs : List Value} {h : PH} (o : OwnH (flat ts) cs h) (p q : Nat) : ∃ g, PLe g h ∧ OwnH (flat (dropK 1 ts p q ts.length)) (dropK 3 cs p q ts.length) g := by
  obtain ⟨l, ol, m⟩ := o; have hs := (dropK_sub 3 l p q ts.length).trans (List.take_sublist _ _); have hsep := sep_mono m.sep hs; refine ⟨joinP (Go.Proofs.Ythlmjnihihbckaa.dropK 3 l p q ts.length), fun k o e => ?_, _, ol.dropK p q _ (Nat.le_refl _), Made.join hsep⟩; obtain ⟨y, hy, e'⟩ := joinP_dom e; exact m.le y (hs.subset hy) k o e'
theorem perm_all {k p n : Int} {t : Ten} {ls : List Int} (h : PermOK k p n t ls) : ∀ m : Nat, ((permX (widthI k n) t ls (permD t ls) m).length : Int) = m * widthI k n ∧ ∀ a ∈ permX (widthI k n) t ls (permD t ls) m, 0 ≤ a ∧ a ≤ topI k p n
  | 0 => by simp [permX]
  | m + 1 => by
    have ih := perm_all h m; have ho := h.off m; have he := elt_inR h.ten ho.1 ho.2; have hw := width_range h.ring; rw [permX_step]; refine ⟨?_, fun a ha => ?_⟩
    · rw [List.length_append, he.1, Int.natCast_add, ih.1, show ((m + 1 : Nat) : Int) = (m : Int) + 1 from rfl, Int.add_mul, Int.one_mul]; omega
    · rcases List.mem_append.1 ha with ha | ha
      · exact ih.2 a ha
      · exact he.2 a ha
theorem perm_axes {k p n : Int} {t : Ten} {ls : List Int} (h : PermOK k p n t ls) : axesL ls (permD t ls) := by
  refine ⟨h.len.2.2, (permD_len t ls).symm, fun j hj => ⟨?_, h.dims j (by rw [permD_len]; exact hj), nodup_not_take h.nodup hj⟩⟩; obtain ⟨i, hi, e⟩ := getD_of_mem (h.perm.mem_iff.1 (mem_getD hj)); rw [← e]; exact (h.axes.2.2 i hi).1
theorem perm_ten {k p n : Int} {t : Ten} {ls : List Int} (h : PermOK k p n t ls) : tensorL k p n (permT k n t ls).l (permT k n t ls).d (permT k n t ls).x := by
  have hs := h.small; have ha := perm_axes h; have hx := perm_all h (prodI (permD t ls)).toNat; refine ⟨h.ring, sizeI_ge.2 ⟨ha, hs.2⟩, ?_, hx.2⟩
  show ((permX (widthI k n) t ls (permD t ls) (prodI (permD t ls)).toNat).length : Int) = sizeI ls (permD t ls) * widthI k n
  rw [sizeI_yes ha hs.2, hx.1, show (((prodI (permD t ls)).toNat : Nat) : Int) = prodI (permD t ls) by omega]
theorem net_open {k p n : Int} {ts : List Ten} {op : List Int} (h : netL k p n ts op) : op.Nodup ∧ op.length ≤ 12 := by
  have ha := (sizeI_ge.1 h.2.2.2.2).1; exact ⟨axes_nodup ha, ha.1⟩
theorem mem_keep {t u : Ten} {ks : List Int} {x : Int} : x ∈ keepL t u ks ↔ (x ∈ t.l ∨ x ∈ u.l) ∧ x ∈ ks := by
  unfold keepL
  rw [List.mem_filter, mem_joinI, decide_eq_true_eq]
theorem sum_ten {k p n : Int} {t : Ten} (ht : tensorL k p n t.l t.d t.x) (ks : List Int) : tensorL k p n (sumR k p n t ks).l (sumR k p n t ks).d (sumR k p n t ks).x ∧ (sumR k p n t ks).l = keepL t (oneT k p n) ks ∧ (sumR k p n t ks).d = (keepL t (oneT k p n) ks).map (dimJ t (oneT k p n)) := by
  have := pair_ten (sum_pair ht ks)
  rwa [sumR_pair ht] at this
theorem fin_perm {k p n : Int} {t : Ten} {op : List Int} (ht : tensorL k p n t.l t.d t.x) (hn : op.Nodup) (hs : ∀ x ∈ op, x ∈ t.l) : PermOK k p n (sumR k p n t op) op := by
  obtain ⟨h1, h2, _⟩ := sum_ten ht op; have hk : ∀ x, x ∈ (sumR k p n t op).l ↔ x ∈ op := fun x => by
    rw [h2, mem_keep]; exact ⟨fun h => h.2, fun h => ⟨.inl (hs x h), h⟩⟩
  exact ⟨ht.1, h1, perm_of hn (fun x hx => (hk x).2 hx) (pigeon (axes_nodup (ten_axes h1)) fun x hx => (hk x).1 hx)⟩
noncomputable def finT (k p n : Int) (t : Ten) (op : List Int) : Ten := permT k n (sumR k p n t op) op
def finP (k p n : Int) (ts : List Ten) (op : List Int) (t : Ten) : Prop := netL k p n ts op ∧ tensorL k p n t.l t.d t.x ∧ ∀ x ∈ op, x ∈ t.l
theorem finP.perm {k p n : Int} {ts : List Ten} {op : List Int} {t : Ten} (h : finP k p n ts op t) : PermOK k p n (sumR k p n t op) op := fin_perm h.2.1 (net_open h.1).1 h.2.2
def conP (k p n : Int) (ts : List Ten) (op : List Int) (ss : List Stp) : Prop := orderL k p n ts op ss ∧ ∀ j, j < ss.length → runFit k p n ts op ss j
noncomputable def lastT (k p n : Int) (ts : List Ten) (op : List Int) (ss : List Stp) : Ten := (runTo k p n ts op ss ss.length).getD (ts.length + ss.length - 1) noTen
noncomputable def conT (k p n : Int) (ts : List Ten) (op : List Int) (ss : List Stp) : Ten := if ts.length = 0 then oneT k p n else finT k p n (lastT k p n ts op ss) op
section
variable {k p n : Int} {ts : List Ten} {op : List Int} {ss : List Stp}
theorem conP.last (h : conP k p n ts op ss) (hn : ts.length ≠ 0) : finP k p n ts op (lastT k p n ts op ss) ∧ outTo k p n ts op ss ss.length = [lastT k p n ts op ss] := by
  have r := run_ok h.1 ss.length (Nat.le_refl _) h.2; have hl := run_left h.1 (fun e => hn (by rw [e]; rfl)); have hg := r.get (j := ts.length + ss.length - 1) (by omega); refine ⟨⟨h.1.1, hg.1, fun x hx => ?_⟩, by rw [outTo, hl]; rfl⟩; obtain ⟨j, hj, hxj⟩ := run_open h.1 hx ss.length (Nat.le_refl _); rw [hl] at hj
  simp at hj
  show x ∈ ((runTo k p n ts op ss ss.length).getD (ts.length + ss.length - 1) noTen).l
  rw [hg.2.1, ← hj]; exact hxj
theorem conP.empty (h : conP k p n ts op ss) (hn : ts.length = 0) : op = [] := by
  refine List.eq_nil_iff_forall_not_mem.2 fun x hx => ?_; obtain ⟨j, hj, e⟩ := getD_of_mem hx; have ho := (open_at h.1.1.2.2.2.2 hj).2; have e0 : ts = [] := List.eq_nil_of_length_eq_zero hn; rw [e0] at ho
  simp [dimOf] at ho
theorem conP.ten (h : conP k p n ts op ss) : tensorL k p n (conT k p n ts op ss).l (conT k p n ts op ss).d (conT k p n ts op ss).x ∧ (conT k p n ts op ss).l = op := by
  unfold conT
  by_cases hn : ts.length = 0
  · rw [if_pos hn]; exact ⟨one_ten h.1.1.1, (h.empty hn).symm⟩
  · rw [if_neg hn]; exact ⟨perm_ten (h.last hn).1.perm, rfl⟩
end
end Go.Proofs.Ythlmjnihihbckaa
namespace Go.Proofs.Ythlmjnihihbckaa
set_option maxRecDepth 100000
open Go.RowKit
structure Mach where
  S : List Ten
  F : List Bool
  D : List Bool
/-- A register's labels. -/
def Mach.ten (s : Mach) (i : Nat) : Ten := s.S.getD i noTen
def Mach.lab (s : Mach) (i : Nat) : List Int := if s.F.getD i false = true then (s.ten i).l else []
def tenF (f : Int → Int) (t : Ten) : Prop := t.d = t.l.map f ∧ t.l.Nodup ∧ (∀ x ∈ t.l, 0 ≤ x ∧ x ≤ 99) ∧ ∀ x ∈ t.l, 1 ≤ f x ∧ f x ≤ 8
theorem tenF.few {f : Int → Int} {t : Ten} (h : tenF f t) : t.l.length ≤ 100 := few_labels h.2.1 h.2.2.1
theorem tenF_no (f : Int → Int) : tenF f noTen := ⟨rfl, List.nodup_nil, fun x h => (List.not_mem_nil h).elim, fun x h => (List.not_mem_nil h).elim⟩
structure Mach.ok (f : Int → Int) (s : Mach) : Prop where
  len : s.S.length = s.F.length
  ten : ∀ t ∈ s.S, tenF f t
theorem Mach.ok.at {f : Int → Int} {s : Mach} (h : s.ok f) (i : Nat) : tenF f (s.ten i) := by
  unfold Mach.ten
  by_cases hi : i < s.S.length
  · have : s.S.getD i noTen = s.S[i] := by simp [List.getD, hi]
    rw [this]; exact h.ten _ (List.getElem_mem hi)
  · have : s.S.getD i noTen = noTen := by simp [List.getD, Nat.le_of_not_lt hi]
    rw [this]; exact tenF_no f
def regIn (s : Mach) (a : Int) : Prop := 0 ≤ a ∧ a < s.F.length
instance (s : Mach) (a : Int) : Decidable (regIn s a) := by unfold regIn; infer_instance
noncomputable def keepI (s : Mach) (o : Opr) : List Int := (joinI (s.ten o.b.toNat).l (s.ten o.c.toNat).l).filter fun x => decide (x ∈ o.l)
noncomputable def Mach.load (ts : List Ten) (s : Mach) (o : Opr) : Mach := ⟨s.S.set o.a.toNat (ts.getD o.b.toNat noTen), s.F.set o.a.toNat true, s.D.set o.b.toNat true⟩
noncomputable def Mach.pair (f : Int → Int) (s : Mach) (o : Opr) : Mach := ⟨s.S.set o.a.toNat ⟨keepI s o, (keepI s o).map f, []⟩, ((s.F.set o.b.toNat false).set o.c.toNat false).set o.a.toNat true, s.D⟩
noncomputable def Mach.next (f : Int → Int) (ts : List Ten) (s : Mach) (o : Opr) : Mach := if o.k = 1 then s.load ts o else s.pair f o
theorem set_ok {f : Int → Int} {S : List Ten} (h : ∀ t ∈ S, tenF f t) {i : Nat} {t : Ten} (ht : tenF f t) : ∀ u ∈ S.set i t, tenF f u := fun u hu => by
  rcases List.mem_or_eq_of_mem_set hu with hu | rfl
  · exact h u hu
  · exact ht
theorem keepI_ok {f : Int → Int} {s : Mach} (h : s.ok f) (o : Opr) : tenF f ⟨keepI s o, (keepI s o).map f, []⟩ := by
  have hb := h.at o.b.toNat; have hc := h.at o.c.toNat; have hm : ∀ x ∈ keepI s o, x ∈ (s.ten o.b.toNat).l ∨ x ∈ (s.ten o.c.toNat).l := fun x hx => mem_joinI.1 (List.mem_filter.1 hx).1; exact ⟨rfl, List.Pairwise.filter _ (joinI_nodup hb.2.1 hc.2.1), fun x hx => (hm x hx).elim (hb.2.2.1 x) (hc.2.2.1 x), fun x hx => (hm x hx).elim (hb.2.2.2 x) (hc.2.2.2 x)⟩
theorem Mach.ok.next {f : Int → Int} {ts : List Ten} {s : Mach} (h : s.ok f) (hts : ∀ t ∈ ts, tenF f t) (o : Opr) : (s.next f ts o).ok f := by
  unfold Mach.next
  split
  · refine ⟨by simp [Mach.load, h.len], set_ok h.ten ?_⟩
    by_cases hi : o.b.toNat < ts.length
    · have e : ts.getD o.b.toNat noTen = ts[o.b.toNat] := by simp [List.getD, hi]
      rw [e]; exact hts _ (List.getElem_mem hi)
    · have e : ts.getD o.b.toNat noTen = noTen := by simp [List.getD, Nat.le_of_not_lt hi]
      rw [e]; exact tenF_no f
  · exact ⟨by simp [Mach.pair, h.len], set_ok h.ten (keepI_ok h o)⟩
end Go.Proofs.Ythlmjnihihbckaa
namespace Go.Proofs.Ythlmjnihihbckaa
set_option maxRecDepth 100000
open Go.RowKit
theorem TensL.drop {us : List Ten} {cs : List Value} {h : PH} (hT : TensL us cs h) (m : Nat) (hm : m ≤ us.length) : TensL (us.drop m) (cs.drop (m * 3)) h := by
  refine ⟨by rw [List.length_drop, List.length_drop, hT.1]; omega, fun i t e => ?_⟩; rw [List.getElem?_drop] at e; have := hT.2 (m + i) t e; rw [List.drop_drop, show m * 3 + i * 3 = (m + i) * 3 by omega]; exact this
end Go.Proofs.Ythlmjnihihbckaa
namespace Go.Proofs.Ythlmjnihihbckaa
set_option maxRecDepth 100000
open Go.RowKit
theorem dotTo_cons (a b : Int) (xs ys : List Int) : ∀ m, dotTo (a :: xs) (b :: ys) (m + 1) = a * b + dotTo xs ys m
  | 0 => by simp [dotTo]
  | m + 1 => by
    have ih := dotTo_cons a b xs ys m; rw [dotTo, ih, dotTo]; simp only [List.getD_cons_succ]
    omega
theorem dotL_cons (a b : Int) (xs ys : List Int) : dotL (a :: xs) (b :: ys) = a * b + dotL xs ys := by
  unfold dotL
  rw [List.length_cons, dotTo_cons]
theorem steps_skip {labels ls ds : List Int} {l d : Int} (h : l ∉ labels) : stepsL labels (l :: ls) (d :: ds) = stepsL labels ls ds :=
  List.map_congr_left fun x hx => by simp only [strOf]; rw [if_neg (fun e => h (by rw [← e]; exact hx))]
theorem sl_full : ∀ {ls ds is : List Int}, ls.Nodup → ls.length = ds.length → is.length = ls.length → dotL (stepsL ls ls ds) is = offL ds is
  | [], [], [], _, _, _ => by simp [dotL, stepsL, dotTo, offL]
  | l :: ls, d :: ds, i :: is, hn, hl, hi => by
    have hn' := List.nodup_cons.1 hn; have ih := sl_full (ls := ls) (ds := ds) (is := is) hn'.2 (by simpa using hl) (by simpa using hi); have e : stepsL (l :: ls) (l :: ls) (d :: ds) = prodI ds :: stepsL ls ls ds := by
      rw [← steps_skip (l := l) (d := d) hn'.1]
      simp [stepsL, strOf]
    rw [e, dotL_cons, ih, offL, Int.mul_comm]
  | [], _ :: _, _, _, hl, _ => by simp at hl
  | _ :: _, [], _, _, hl, _ => by simp at hl
  | [], [], _ :: _, _, _, hi => by simp at hi
  | _ :: _, _ :: _, [], _, _, hi => by simp at hi
theorem sl_dot : ∀ {ls ds is : List Int} {j : Nat} (v : Int), ls.Nodup → ls.length = ds.length → j < ls.length → is.length + 1 = ls.length → v * strOf ls ds (ls.getD j 0) + dotL (stepsL (ls.eraseIdx j) ls ds) is = offL ds (is.insertIdx j v)
  | l :: ls, d :: ds, is, 0, v, hn, hl, _, hi => by
    have hn' := List.nodup_cons.1 hn; have h := sl_full (ls := ls) (ds := ds) (is := is) hn'.2 (by simpa using hl) (by simpa using hi); rw [List.eraseIdx_zero, List.tail_cons, steps_skip hn'.1, h]
    simp [strOf, offL]
  | l :: ls, d :: ds, i :: is, j + 1, v, hn, hl, hj, hi => by
    have hn' := List.nodup_cons.1 hn; have hj' : j < ls.length := by simpa using hj
    have ih := sl_dot (ls := ls) (ds := ds) (is := is) (j := j) v hn'.2 (by simpa using hl) hj' (by simpa using hi); have hne : ls.getD j 0 ≠ l := fun e => hn'.1 (e ▸ mem_getD hj'); have hm : l ∉ ls.eraseIdx j := fun h => hn'.1 (List.mem_of_mem_eraseIdx h); have e : stepsL (l :: ls.eraseIdx j) (l :: ls) (d :: ds) = prodI ds :: stepsL (ls.eraseIdx j) ls ds := by
      rw [← steps_skip (l := l) (d := d) hm]
      simp [stepsL, strOf]
    rw [List.eraseIdx_cons_succ, e, dotL_cons, List.insertIdx_succ_cons, offL, ← ih, List.getD_cons_succ]; simp only [strOf]; rw [if_neg hne, Int.mul_comm (prodI ds)]
    omega
  | [], _, _, _, _, _, _, hj, _ => by simp at hj
  | _ :: _, [], _, _, _, _, hl, _, _ => by simp at hl
  | l :: ls, _ :: _, [], j + 1, _, _, _, hj, hi => by
    have h1 : (l :: ls).length = ls.length + 1 := rfl; have h2 : ([] : List Int).length = 0 := rfl
    omega
theorem idxL_cons (d : Int) (ds : List Int) (n : Int) : idxL (d :: ds) n = (n / prodI ds % d) :: idxL ds n := by
  unfold idxL
  rw [List.length_cons, List.range_succ_eq_map, List.map_cons, List.map_map]
  rfl
theorem idxL_shift : ∀ {ds : List Int} (_ : ∀ d ∈ ds, 1 ≤ d) (q m : Int), idxL ds (q * prodI ds + m) = idxL ds m
  | [], _, q, m => rfl
  | d :: ds, hd, q, m => by
    have h1 := prodI_one (ds := ds) fun x hx => hd x (by simp [hx]); have hd1 := hd d (by simp); have ih := idxL_shift (ds := ds) (fun x hx => hd x (by simp [hx])) (q * d) m; have e : q * prodI (d :: ds) + m = q * d * prodI ds + m := by rw [prodI_cons, Int.mul_assoc]
    rw [e, idxL_cons, idxL_cons, ih]
    congr 1
    rw [Int.add_comm, Int.add_mul_ediv_right _ _ (by omega), Int.add_mul_emod_self_right]
theorem range_blocks (b : Nat) : ∀ a : Nat, List.range (a * b) = (List.range a).flatMap fun q => (List.range b).map fun r => q * b + r
  | 0 => by simp
  | a + 1 => by
    rw [Nat.add_mul, Nat.one_mul, List.range_add, range_blocks b a, List.range_succ, List.flatMap_append]
    simp
theorem one_block {α : Type} (g : Nat → List α) {v : Nat} : ∀ {a : Nat}, v < a → (List.range a).flatMap (fun q => if q = v then g q else []) = g v
  | 0, h => by omega
  | a + 1, h => by
    rw [List.range_succ, List.flatMap_append]
    by_cases e : a = v
    · subst e; have h0 : (List.range a).flatMap (fun q => if q = a then g q else []) = [] := List.flatMap_eq_nil_iff.2 fun q hq => by
        have := List.mem_range.1 hq; rw [if_neg (by omega)]
      rw [h0]; simp
    · rw [one_block g (show v < a by omega)]; simp [e]
theorem flatMap_congr' {α β : Type} {l : List α} {f g : α → List β} (h : ∀ x ∈ l, f x = g x) : l.flatMap f = l.flatMap g := by
  induction l with
  | nil => rfl
  | cons x l ih => rw [List.flatMap_cons, List.flatMap_cons, h x (by simp), ih fun y hy => h y (by simp [hy])]
theorem filter_flatMap {α β : Type} (p : β → Bool) (f : α → List β) (l : List α) : (l.flatMap f).filter p = l.flatMap fun x => (f x).filter p := by
  induction l with
  | nil => rfl
  | cons x l ih => rw [List.flatMap_cons, List.flatMap_cons, List.filter_append, ih]
theorem map_flatMap' {α β γ : Type} (g : β → γ) (f : α → List β) (l : List α) : (l.flatMap f).map g = l.flatMap fun x => (f x).map g := by
  induction l with
  | nil => rfl
  | cons x l ih => rw [List.flatMap_cons, List.flatMap_cons, List.map_append, ih]
def slHas (ds : List Int) (j : Nat) (v : Int) (n : Nat) : Bool := decide ((idxL ds n).getD j 0 = v)
def slTo (ds : List Int) (j : Nat) (v : Int) (m : Nat) : List Nat := (List.range m).filter (slHas ds j v)
def slAt (ds : List Int) (j : Nat) (v : Int) (m : Nat) : Nat := (offL ds ((idxL (ds.eraseIdx j) m).insertIdx j v)).toNat
theorem ins_in {ds is : List Int} {j : Nat} {v : Int} (hj : j < ds.length) (hv : 0 ≤ v ∧ v < ds.getD j 0) (h : idxIn (ds.eraseIdx j) is) : idxIn ds (is.insertIdx j v) := by
  have hl := h.1; rw [List.length_eraseIdx_of_lt hj] at hl; refine ⟨by rw [List.length_insertIdx_of_le_length (by omega)]; omega, fun i hi => ?_⟩
  rcases Nat.lt_trichotomy i j with c | c | c
  · have e1 : (is.insertIdx j v).getD i 0 = is.getD i 0 := by simp only [List.getD]; rw [List.getElem?_insertIdx_of_lt c]
    have e2 : (ds.eraseIdx j).getD i 0 = ds.getD i 0 := by simp only [List.getD]; rw [List.getElem?_eraseIdx_of_lt c]
    have := h.2 i (by rw [List.length_eraseIdx_of_lt hj]; omega); rw [e1, ← e2]; exact this
  · subst c; have e1 : (is.insertIdx i v).getD i 0 = v := by simp only [List.getD]; rw [List.getElem?_insertIdx_self, if_pos (by omega)]; rfl
    rw [e1]; exact hv
  · have e1 : (is.insertIdx j v).getD i 0 = is.getD (i - 1) 0 := by simp only [List.getD]; rw [List.getElem?_insertIdx_of_gt c]
    have e2 : (ds.eraseIdx j).getD (i - 1) 0 = ds.getD i 0 := by
      simp only [List.getD]; rw [List.getElem?_eraseIdx_of_ge (by omega), show i - 1 + 1 = i by omega]
    have := h.2 (i - 1) (by rw [List.length_eraseIdx_of_lt hj]; omega); rw [e1, ← e2]; exact this
theorem erase_mem {ds : List Int} {j : Nat} {p : Int → Prop} (h : ∀ d ∈ ds, p d) : ∀ d ∈ ds.eraseIdx j, p d := fun d hd => h d (List.mem_of_mem_eraseIdx hd)
theorem sl_in {ds : List Int} (hd : ∀ d ∈ ds, 1 ≤ d) {j : Nat} (hj : j < ds.length) {v : Int} (hv : 0 ≤ v ∧ v < ds.getD j 0) (m : Int) : 0 ≤ offL ds ((idxL (ds.eraseIdx j) m).insertIdx j v) ∧ offL ds ((idxL (ds.eraseIdx j) m).insertIdx j v) ≤ prodI ds - 1 :=
  offL_in hd (ins_in hj hv (idxL_in (erase_mem hd) m))
theorem sl_eq : ∀ {ds : List Int} (_ : ∀ d ∈ ds, 1 ≤ d) {j : Nat} (_ : j < ds.length) {v : Int} (_ : 0 ≤ v ∧ v < ds.getD j 0), slTo ds j v (prodI ds).toNat = (List.range (prodI (ds.eraseIdx j)).toNat).map (slAt ds j v)
  | [], _, j, hj, _, _ => by simp at hj
  | d :: ds, hd, 0, _, v, hv => by
    have hd' : ∀ x ∈ ds, 1 ≤ x := fun x hx => hd x (by simp [hx]); have hd1 := hd d (by simp); have hP := prodI_one hd'; have hv' : 0 ≤ v ∧ v < d := by simpa using hv
    have eP : (prodI (d :: ds)).toNat = d.toNat * (prodI ds).toNat := by rw [prodI_cons, Int.toNat_mul (by omega) (by omega)]
    rw [slTo, eP, range_blocks, filter_flatMap, List.eraseIdx_zero, List.tail_cons]; have e : ∀ q ∈ List.range d.toNat, ((List.range (prodI ds).toNat).map fun r => q * (prodI ds).toNat + r).filter (slHas (d :: ds) 0 v) = if q = v.toNat then (List.range (prodI ds).toNat).map fun r => q * (prodI ds).toNat + r else [] := fun q hq => by
      have hq' := List.mem_range.1 hq; have hdig : ∀ r, r < (prodI ds).toNat → slHas (d :: ds) 0 v (q * (prodI ds).toNat + r) = decide (q = v.toNat) := fun r hr => by
        unfold slHas
        rw [idxL_cons]; have e1 : ((q * (prodI ds).toNat + r : Nat) : Int) = r + q * prodI ds := by
          rw [Int.natCast_add, Int.natCast_mul, show (((prodI ds).toNat : Nat) : Int) = prodI ds by omega, Int.add_comm]
        rw [e1, Int.add_mul_ediv_right _ _ (by omega), Int.ediv_eq_zero_of_lt (by omega) (by omega), Int.zero_add, Int.emod_eq_of_lt (by omega) (by omega), Bool.eq_iff_iff, decide_eq_true_eq, decide_eq_true_eq]; simp only [List.getD_cons_zero]
        omega
      by_cases c : q = v.toNat
      · rw [if_pos c, List.filter_eq_self]; intro x hx; obtain ⟨r, hr, rfl⟩ := List.mem_map.1 hx; rw [hdig r (List.mem_range.1 hr)]; simpa using c
      · rw [if_neg c, List.filter_eq_nil_iff]; intro x hx; obtain ⟨r, hr, rfl⟩ := List.mem_map.1 hx; rw [hdig r (List.mem_range.1 hr)]; simpa using c
    rw [flatMap_congr' e, one_block _ (show v.toNat < d.toNat by omega)]; refine List.map_congr_left fun r hr => ?_; have hr' := List.mem_range.1 hr
    unfold slAt
    rw [List.eraseIdx_zero, List.tail_cons, List.insertIdx_zero, offL, offL_idx hd' (by omega) (by omega), Int.toNat_add (Int.mul_nonneg hv'.1 (by omega)) (by omega), Int.toNat_mul hv'.1 (by omega)]
    simp
  | d :: ds, hd, j + 1, hj, v, hv => by
    have hd' : ∀ x ∈ ds, 1 ≤ x := fun x hx => hd x (by simp [hx]); have hd1 := hd d (by simp); have hP := prodI_one hd'; have hj' : j < ds.length := by simpa using hj
    have hv' : 0 ≤ v ∧ v < ds.getD j 0 := by simpa using hv
    have he := erase_mem (j := j) hd'; have hP' := prodI_one he; have ih := sl_eq hd' hj' hv'; have eP : (prodI (d :: ds)).toNat = d.toNat * (prodI ds).toNat := by rw [prodI_cons, Int.toNat_mul (by omega) (by omega)]
    have eP' : (prodI ((d :: ds).eraseIdx (j + 1))).toNat = d.toNat * (prodI (ds.eraseIdx j)).toNat := by rw [List.eraseIdx_cons_succ, prodI_cons, Int.toNat_mul (by omega) (by omega)]
    rw [slTo, eP, eP', range_blocks, range_blocks, filter_flatMap, map_flatMap']; refine flatMap_congr' fun q hq => ?_; have hq' := List.mem_range.1 hq; rw [List.filter_map]; have e2 : (slHas (d :: ds) (j + 1) v ∘ fun r => q * (prodI ds).toNat + r) = slHas ds j v := by
      funext r
      simp only [Function.comp, slHas]; rw [idxL_cons, List.getD_cons_succ]; have e1 : ((q * (prodI ds).toNat + r : Nat) : Int) = q * prodI ds + r := by
        rw [Int.natCast_add, Int.natCast_mul, show (((prodI ds).toNat : Nat) : Int) = prodI ds by omega]
      rw [e1, idxL_shift hd']
    rw [e2]; have ih' : (List.range (prodI ds).toNat).filter (slHas ds j v) = (List.range (prodI (ds.eraseIdx j)).toNat).map (slAt ds j v) := ih; rw [ih', List.map_map, List.map_map]; refine List.map_congr_left fun m hm => ?_; have hm' := List.mem_range.1 hm; have hin := sl_in hd' hj' hv' m; simp only [Function.comp, slAt]; have e1 : ((q * (prodI (ds.eraseIdx j)).toNat + m : Nat) : Int) = m + q * prodI (ds.eraseIdx j) := by
      rw [Int.natCast_add, Int.natCast_mul, show (((prodI (ds.eraseIdx j)).toNat : Nat) : Int) = prodI (ds.eraseIdx j) by omega, Int.add_comm]
    rw [List.eraseIdx_cons_succ, idxL_cons, e1, Int.add_mul_ediv_right _ _ (by omega), Int.ediv_eq_zero_of_lt (by omega) (by omega), Int.zero_add, Int.emod_eq_of_lt (by omega) (by omega), List.insertIdx_succ_cons, offL, Int.add_comm (m : Int), idxL_shift he,
      Int.toNat_add (Int.mul_nonneg (by omega) (by omega)) hin.1, Int.toNat_mul (by omega) (by omega)]
    simp
end Go.Proofs.Ythlmjnihihbckaa
namespace Go.Proofs.Ythlmjnihihbckaa
set_option maxRecDepth 100000
open Go.RowKit
theorem one_drop_none {α : Type} {l : List α} {k : Nat} (h : l[k]? = none) : (l.drop (k * 1)).take 1 = [] := by
  rw [Nat.mul_one, List.drop_of_length_le (List.getElem?_eq_none_iff.1 h)]; rfl
theorem mem_dropK {α : Type} {l : List α} {p q : Nat} {t : α} : ∀ k, t ∈ dropK 1 l p q k ↔ ∃ m, m < k ∧ m ≠ p ∧ m ≠ q ∧ l[m]? = some t
  | 0 => by simp [dropK]
  | k + 1 => by
    have ih := mem_dropK (l := l) (p := p) (q := q) (t := t) k; have hx : t ∈ (l.drop (k * 1)).take 1 ↔ l[k]? = some t := by
      cases h : l[k]? with
      | none => rw [one_drop_none h]; simp
      | some x => rw [one_drop h]; simp [eq_comm]
    by_cases hc : k ≠ p ∧ k ≠ q
    · rw [dropK_yes hc, List.mem_append, ih, hx]
      constructor
      · rintro (⟨m, h1, h2⟩ | h)
        · exact ⟨m, by omega, h2⟩
        · exact ⟨k, by omega, hc.1, hc.2, h⟩
      · rintro ⟨m, h1, h2, h3, h4⟩
        by_cases e : m = k
        · subst e; exact .inr h4
        · exact .inl ⟨m, by omega, h2, h3, h4⟩
    · rw [dropK_no hc, ih]
      constructor
      · rintro ⟨m, h1, h2⟩; exact ⟨m, by omega, h2⟩
      · rintro ⟨m, h1, h2, h3, h4⟩; have : m ≠ k := fun e => hc (e ▸ ⟨h2, h3⟩); exact ⟨m, by omega, h2, h3, h4⟩
def needS (ts : List Ten) (op : List Int) (i j m : Nat) : List Int := op ++ (dropK 1 ts i j m).flatMap (·.l)
section
variable {ts : List Ten} {op : List Int} {i j k : Nat} {t : Ten}
end
def mgLo (i j : Int) : Nat := (min i j).toNat
def mgHi (i j : Int) : Nat := (max i j).toNat
def mgA (ts : List Ten) (i j : Int) : Ten := ts.getD (mgLo i j) noTen
def mgB (ts : List Ten) (i j : Int) : Ten := ts.getD (mgHi i j) noTen
def mergN (ts : List Ten) (op : List Int) (i j : Int) : List Int := needS ts op i.toNat j.toNat ts.length
def mergP (k p n : Int) (ts : List Ten) (op : List Int) (i j : Int) : Prop := netL k p n ts op ∧ (0 ≤ i ∧ i < ts.length) ∧ (0 ≤ j ∧ j < ts.length) ∧ i ≠ j ∧ pairP k p n (mgA ts i j) (mgB ts i j) (mergN ts op i j)
noncomputable def mergT (k p n : Int) (ts : List Ten) (op : List Int) (i j : Int) : Ten := pairR k p n (mgA ts i j) (mgB ts i j) (mergN ts op i j)
noncomputable def mergL (k p n : Int) (ts : List Ten) (op : List Int) (i j : Int) (m : Nat) : List Ten := dropK 1 (ts.set (mgLo i j) (mergT k p n ts op i j)) (mgHi i j) (mgHi i j) m
section
variable {k p n : Int} {ts : List Ten} {op : List Int} {i j : Int}
theorem merg_hi {m : Nat} (h : (m : Int) = max i j) : mergL k p n ts op i j (m + 1) = mergL k p n ts op i j m := by
  have e : m = mgHi i j := by unfold mgHi; omega
  unfold mergL
  rw [dropK_no (by omega)]
theorem merg_len (m : Nat) : (mergL k p n ts op i j m).length ≤ m := by
  have := dropK_len (m := 1) (cs := ts.set (mgLo i j) (mergT k p n ts op i j)) (p := mgHi i j) (q := mgHi i j) m
  unfold mergL; omega
theorem mergP.mem (h : mergP k p n ts op i j) {t : Ten} : t ∈ mergL k p n ts op i j ts.length ↔ t = mergT k p n ts op i j ∨ ∃ m, m < ts.length ∧ m ≠ mgLo i j ∧ m ≠ mgHi i j ∧ ts[m]? = some t := by
  obtain ⟨_, hi, hj, hne, _⟩ := h; have e : mgLo i j ≠ mgHi i j := by unfold mgLo mgHi; omega
  have e2 : mgLo i j < ts.length := by unfold mgLo; omega
  rw [mergL, mem_dropK]
  constructor
  · rintro ⟨m, h1, h2, _, h4⟩
    by_cases c : mgLo i j = m
    · subst c; rw [List.getElem?_set_self h1] at h4
      cases h4; exact .inl rfl
    · rw [List.getElem?_set_ne c] at h4; exact .inr ⟨m, h1, Ne.symm c, h2, h4⟩
  · rintro (rfl | ⟨m, h1, h2, h3, h4⟩)
    · exact ⟨mgLo i j, e2, e, e, List.getElem?_set_self e2⟩
    · exact ⟨m, h1, h3, h3, by rw [List.getElem?_set_ne (Ne.symm h2)]; exact h4⟩
theorem mergP.ab (h : mergP k p n ts op i j) : ts[mgLo i j]? = some (mgA ts i j) ∧ ts[mgHi i j]? = some (mgB ts i j) := by
  obtain ⟨_, hi, hj, hne, _⟩ := h; have e1 : mgLo i j < ts.length := by unfold mgLo; omega
  have e2 : mgHi i j < ts.length := by unfold mgHi; omega
  exact ⟨by simp [mgA, List.getD, e1], by simp [mgB, List.getD, e2]⟩
theorem mergP.less (h : mergP k p n ts op i j) : (mergL k p n ts op i j ts.length).length + 1 ≤ ts.length := by
  obtain ⟨_, hi, hj, hne, _⟩ := h; have e : mgHi i j < ts.length := by unfold mgHi; omega
  have hs : ∀ (c m : Nat), mgHi i j < m → m = mgHi i j + 1 + c → (mergL k p n ts op i j m).length + 1 ≤ m := by
    intro c
    induction c with
    | zero =>
      intro m hm e; have := merg_len (k := k) (p := p) (n := n) (ts := ts) (op := op) (i := i) (j := j) (mgHi i j); rw [show m = mgHi i j + 1 by omega, merg_hi (by unfold mgHi; omega)]
      omega
    | succ c ih =>
      intro m hm e; have ih := ih (mgHi i j + 1 + c) (by omega) rfl; have e3 : mgHi i j + 1 + c ≠ mgHi i j := by omega
      rw [show m = (mgHi i j + 1 + c) + 1 by omega, mergL, dropK_yes ⟨e3, e3⟩, List.length_append, List.length_take]
      unfold mergL at ih
      omega
  exact hs (ts.length - (mgHi i j + 1)) ts.length e (by omega)
end
end Go.Proofs.Ythlmjnihihbckaa
namespace Go.Proofs.Ythlmjnihihbckaa
set_option maxRecDepth 100000
open Go.RowKit
theorem prod_erase : ∀ {ds : List Int} {j : Nat}, j < ds.length → prodI (ds.eraseIdx j) * ds.getD j 0 = prodI ds
  | [], j, h => by simp at h
  | d :: ds, 0, _ => by rw [List.eraseIdx_zero, List.tail_cons, prodI_cons, Int.mul_comm]; rfl
  | d :: ds, j + 1, h => by
    have ih := prod_erase (ds := ds) (j := j) (by simpa using h); rw [List.eraseIdx_cons_succ, prodI_cons, prodI_cons, List.getD_cons_succ, Int.mul_assoc, ih]
def slJ (t : Ten) (x : Int) : Nat := (findI t.l x).toNat
def slX (wd : Int) (t : Ten) (j : Nat) (v : Int) (m : Nat) : List Int := (slTo t.d j v m).flatMap fun (n : Nat) => elt t.x wd n
noncomputable def slT (k n : Int) (t : Ten) (x v : Int) : Ten := ⟨t.l.eraseIdx (slJ t x), t.d.eraseIdx (slJ t x), slX (widthI k n) t (slJ t x) v (prodI t.d).toNat⟩
/-- The numbers as the program meets them. -/
def slY (wd : Int) (t : Ten) (j : Nat) (v : Int) (m : Nat) : List Int := ((List.range m).map (slAt t.d j v)).flatMap fun (n : Nat) => elt t.x wd n
theorem slY_step {wd : Int} {t : Ten} {j m : Nat} {v : Int} : slY wd t j v (m + 1) = slY wd t j v m ++ elt t.x wd (slAt t.d j v m) := by
  unfold slY
  rw [List.range_succ, List.map_append, List.flatMap_append]
  simp
structure SlOK (k p n : Int) (t : Ten) (x v : Int) : Prop where
  ten : tensorL k p n t.l t.d t.x
  mem : x ∈ t.l
  val : 0 ≤ v ∧ v < t.d.getD (slJ t x) 0
section
variable {k p n : Int} {t : Ten} {x v : Int}
theorem sl_j (h : tensorL k p n t.l t.d t.x) (hx : x ∈ t.l) : slJ t x < t.l.length ∧ slJ t x < t.d.length ∧ t.l.getD (slJ t x) 0 = x := by
  have hg := findI_get hx; have ha := ten_axes h; exact ⟨hg.1, by rw [← ha.2.1]; exact hg.1, hg.2⟩
theorem SlOK.eq (h : SlOK k p n t x v) : slX (widthI k n) t (slJ t x) v (prodI t.d).toNat = slY (widthI k n) t (slJ t x) v (prodI (t.d.eraseIdx (slJ t x))).toNat := by
  have hj := sl_j h.ten h.mem
  unfold slX slY
  rw [sl_eq (fun d hd => (dims_mem (axes_dims (ten_axes h.ten)) d hd).1) hj.2.1 h.val]
theorem SlOK.at_ (h : SlOK k p n t x v) (m : Nat) : slAt t.d (slJ t x) v m < (prodI t.d).toNat ∧ ((slAt t.d (slJ t x) v m : Nat) : Int) = v * strOf t.l t.d x + dotL (stepsL (t.l.eraseIdx (slJ t x)) t.l t.d) (idxL (t.d.eraseIdx (slJ t x)) m) := by
  have hj := sl_j h.ten h.mem; have ha := ten_axes h.ten; have hd : ∀ d ∈ t.d, 1 ≤ d := fun d hd => (dims_mem (axes_dims ha) d hd).1; have hin := sl_in hd hj.2.1 h.val m; have hs := sl_dot (ls := t.l) (ds := t.d) (is := idxL (t.d.eraseIdx (slJ t x)) m) (j := slJ t x) v (axes_nodup ha) ha.2.1 hj.1 (by rw [idxL_len, List.length_eraseIdx_of_lt hj.2.1]; have := hj.2.1; have := ha.2.1; omega); rw [hj.2.2] at hs
  unfold slAt
  omega
theorem SlOK.dims (h : SlOK k p n t x v) : dimsIn (t.d.eraseIdx (slJ t x)) ∧ 1 ≤ prodI (t.d.eraseIdx (slJ t x)) ∧ prodI (t.d.eraseIdx (slJ t x)) ≤ 4096 := by
  have hj := sl_j h.ten h.mem; have ha := ten_axes h.ten; have hm := erase_mem (j := slJ t x) (dims_mem (axes_dims ha)); have hp1 := prodI_one fun d hd => (hm d hd).1; have hpe := prod_erase hj.2.1; have hd := axes_dims ha (slJ t x) hj.2.1; have hp := ten_prod h.ten; have h1 : prodI (t.d.eraseIdx (slJ t x)) * 1 ≤ prodI (t.d.eraseIdx (slJ t x)) * t.d.getD (slJ t x) 0 := Int.mul_le_mul_of_nonneg_left hd.1 (by omega); exact ⟨fun j hj => hm _ (mem_getD hj), hp1, by omega⟩
theorem SlOK.el (h : SlOK k p n t x v) (m : Nat) : InR k p n (elt t.x (widthI k n) (slAt t.d (slJ t x) v m)) := by
  have := (h.at_ m).1; exact elt_inR h.ten (by omega) (by omega)
theorem SlOK.all (h : SlOK k p n t x v) : ∀ m : Nat, ((slY (widthI k n) t (slJ t x) v m).length : Int) = m * widthI k n ∧ ∀ a ∈ slY (widthI k n) t (slJ t x) v m, 0 ≤ a ∧ a ≤ topI k p n
  | 0 => by simp [slY]
  | m + 1 => by
    have ih := SlOK.all h m; have he := h.el m; have hw := width_range h.ten.1; rw [slY_step]; refine ⟨?_, fun a ha => ?_⟩
    · rw [List.length_append, he.1, Int.natCast_add, ih.1, show ((m + 1 : Nat) : Int) = (m : Int) + 1 from rfl, Int.add_mul, Int.one_mul]; omega
    · rcases List.mem_append.1 ha with ha | ha
      · exact ih.2 a ha
      · exact he.2 a ha
theorem SlOK.axes (h : SlOK k p n t x v) : axesL (t.l.eraseIdx (slJ t x)) (t.d.eraseIdx (slJ t x)) := by
  have hj := sl_j h.ten h.mem; have ha := ten_axes h.ten; have hl := List.length_eraseIdx_of_lt hj.1; have hl2 := List.length_eraseIdx_of_lt hj.2.1; have hn : (t.l.eraseIdx (slJ t x)).Nodup := (axes_nodup ha).sublist (List.eraseIdx_sublist _ _); refine ⟨by rw [hl]; have := ha.1; omega, by rw [hl, hl2, ha.2.1], fun i hi => ⟨?_, h.dims.1 i (by rw [hl] at hi; rw [hl2]; have := ha.2.1; omega), nodup_not_take hn hi⟩⟩; obtain ⟨q, hq, e⟩ := getD_of_mem (List.mem_of_mem_eraseIdx (mem_getD hi)); rw [← e]; exact (ha.2.2 q hq).1
theorem SlOK.out (h : SlOK k p n t x v) : tensorL k p n (slT k n t x v).l (slT k n t x v).d (slT k n t x v).x := by
  have hd := h.dims; have ha := h.axes; have hx := h.all (prodI (t.d.eraseIdx (slJ t x))).toNat; refine ⟨h.ten.1, sizeI_ge.2 ⟨ha, hd.2.2⟩, ?_, fun a hm => ?_⟩
  · show ((slX (widthI k n) t (slJ t x) v (prodI t.d).toNat).length : Int) = sizeI (t.l.eraseIdx (slJ t x)) (t.d.eraseIdx (slJ t x)) * widthI k n
    rw [h.eq, sizeI_yes ha hd.2.2, hx.1, show (((prodI (t.d.eraseIdx (slJ t x))).toNat : Nat) : Int) = prodI (t.d.eraseIdx (slJ t x)) by omega]
  · have hm' : a ∈ slX (widthI k n) t (slJ t x) v (prodI t.d).toNat := hm; rw [h.eq] at hm'; exact hx.2 a hm'
end
end Go.Proofs.Ythlmjnihihbckaa
namespace Go.Proofs.Ythlmjnihihbckaa
set_option maxRecDepth 100000
open Go.RowKit
section
variable {k p n : Int} {ts : List Ten} {op ls : List Int}
end
/-- A slice of rows of which nothing is wanted by itself. -/
structure Row0 : Prop where
theorem Row0.at (_ : Row0) : ∃ _ _ : Unit, True := ⟨(), (), trivial⟩
theorem TensL.append {a b : List Ten} {ca cb : List Value} {h : PH} (ra : TensL a ca h) (rb : TensL b cb h) : TensL (a ++ b) (ca ++ cb) h := by
  refine ⟨by rw [List.length_append, List.length_append, ra.1, rb.1]; omega, fun i t e => ?_⟩
  by_cases hi : i < a.length
  · rw [List.getElem?_append_left hi] at e; have := ra.2 i t e; have e2 : ((ca ++ cb).drop (i * 3)).take 3 = (ca.drop (i * 3)).take 3 := by
      rw [List.drop_append, List.take_append]; have hl : 3 - (ca.drop (i * 3)).length = 0 := by rw [List.length_drop, ra.1]; omega
      rw [hl, List.take_zero, List.append_nil]
    rw [e2]; exact this
  · rw [List.getElem?_append_right (by omega)] at e; have := rb.2 _ t e; have e2 : ((ca ++ cb).drop (i * 3)).take 3 = (cb.drop ((i - a.length) * 3)).take 3 := by
      rw [List.drop_append, List.drop_of_length_le (by rw [ra.1]; omega), List.nil_append, ra.1, show i * 3 - a.length * 3 = (i - a.length) * 3 by omega]
    rw [e2]; exact this
end Go.Proofs.Ythlmjnihihbckaa
namespace Go.Proofs.Ythlmjnihihbckaa
set_option maxRecDepth 100000
open Go.RowKit
theorem TensL.blank (h : PH) : ∀ m, TensL (List.replicate m noTen) (List.replicate m [Value.slice none 0 0, .slice none 0 0, .slice none 0 0]).flatten h
  | 0 => TensL.nil h
  | m + 1 => by
    have := (TensL.blank h m).snoc (t := noTen) (IntsR.nil h) (IntsR.nil h) (IntsR.nil h); rw [← List.replicate_succ'] at this; rw [show (List.replicate (m + 1) [Value.slice none 0 0, .slice none 0 0, .slice none 0 0]).flatten = (List.replicate m [Value.slice none 0 0, .slice none 0 0, .slice none 0 0]).flatten ++ [Value.slice none 0 0, .slice none 0 0, .slice none 0 0] by rw [List.replicate_succ', List.flatten_append]; simp]; exact this
theorem TensL.put {ts : List Ten} {cs : List Value} {h : PH} (r : TensL ts cs h) {i : Nat} {t : Ten} {a b c : Value} (hi : i < ts.length) (r1 : IntsR t.l a h) (r2 : IntsR t.d b h) (r3 : IntsR t.x c h) : TensL (ts.set i t) (cs.take (i * 3) ++ [a, b, c] ++ cs.drop (i * 3 + 3)) h := by
  have hl := r.1; have key : ∀ m, (m < i * 3 ∨ i * 3 + 3 ≤ m) → (cs.take (i * 3) ++ [a, b, c] ++ cs.drop (i * 3 + 3))[m]? = cs[m]? := fun m hm => by
    rcases hm with hm | hm
    · rw [List.append_assoc, List.getElem?_append_left (by simp; omega), List.getElem?_take, if_pos hm]
    · rw [List.getElem?_append_right (by simp; omega)]; simp only [List.length_append, List.length_take, List.length_cons, List.length_nil, List.getElem?_drop]
      congr 1
      omega
  refine ⟨by simp [hl]; omega, fun j y e => ?_⟩
  by_cases hj : j = i
  · subst hj; rw [List.getElem?_set_self hi] at e
    cases e
    have e2 : ((cs.take (j * 3) ++ [a, b, c] ++ cs.drop (j * 3 + 3)).drop (j * 3)).take 3 = [a, b, c] := by
      have e3 : (cs.take (j * 3)).length = j * 3 := by simp; omega
      rw [List.append_assoc, List.drop_append, e3, Nat.sub_self, List.drop_of_length_le (by omega), List.nil_append, List.drop_zero]
      rfl
    rw [e2]; exact ⟨a, b, c, rfl, r1, r2, r3⟩
  · rw [List.getElem?_set_ne (Ne.symm hj)] at e; have e2 : ((cs.take (i * 3) ++ [a, b, c] ++ cs.drop (i * 3 + 3)).drop (j * 3)).take 3 = (cs.drop (j * 3)).take 3 := by
      apply List.ext_getElem?
      intro m; rw [List.getElem?_take, List.getElem?_take]
      split
      · rw [List.getElem?_drop, List.getElem?_drop, key _ (by omega)]
      · rfl
    rw [e2]; exact r.2 j y e
end Go.Proofs.Ythlmjnihihbckaa
namespace Go.Proofs.Ythlmjnihihbckaa
set_option maxRecDepth 100000
open Go.RowKit
structure Reg where
  f : Bool
  l : List Int
def RegR (x : Reg) (cs : List Value) (h : PH) : Prop := ∃ v, cs = [.bool x.f, v] ∧ IntsR x.l v h
theorem RegR.mono {x : Reg} {cs : List Value} {h h' : PH} (r : RegR x cs h) (l : PLe h h') : RegR x cs h' := by
  obtain ⟨v, e, r1⟩ := r; exact ⟨v, e, r1.mono l⟩
def RegsR (xs : List Reg) (v : Value) (h : PH) : Prop := RowsR 2 RegR xs v h
theorem RegsR.mono {xs : List Reg} {v : Value} {h h' : PH} (r : RegsR xs v h) (l : PLe h h') : RegsR xs v h' := RowsR.mono (R := RegR) RegR.mono r l
theorem RegsR.sl {xs : List Reg} {v : Value} {h : PH} (r : RegsR xs v h) : SlL v xs.length := RowsR.sl r
theorem RegsR.le {xs : List Reg} {v : Value} {h : PH} (r : RegsR xs v h) : (xs.length : Int) ≤ 9223372036854775807 := RowsR.le r
theorem RegsR.at {xs : List Reg} {v : Value} {h : PH} (r : RegsR xs v h) : ∃ cells, RowR cells xs.length 2 v h ∧ ∀ i, i < xs.length → ∃ x a, xs[i]? = some x ∧ (cells.drop (i * 2)).take 2 = [.bool x.f, a] ∧ IntsR x.l a h := by
  obtain ⟨cells, rr, hc⟩ := r; refine ⟨cells, rr, fun i hi => ?_⟩; have ht : xs[i]? = some xs[i] := List.getElem?_eq_getElem hi; obtain ⟨a, e, r1⟩ := hc i _ ht; exact ⟨_, a, ht, e, r1⟩
def Mach.regs (s : Mach) : List Reg := (List.range s.F.length).map fun i => ⟨s.F.getD i false, s.lab i⟩
abbrev mcCells (k p n : Int) (vt vo vr vd : Value) : List Value := [num k, num p, num n, vt, vo, vr, vd]
structure McR (k p n : Int) (s : Mach) (vt vo vr vd : Value) (b : Nat) (h : PH) : Prop where
  c : ∀ (j : Nat) (u : Value), (mcCells k p n vt vo vr vd)[j]? = some u → cellP h b j = some u
  r : RegsR s.regs vr h
  d : BoolsR s.D vd h
theorem McR.mono {k p n : Int} {s : Mach} {vt vo vr vd : Value} {b : Nat} {h h' : PH} (m : McR k p n s vt vo vr vd b h) (l : PLe h h') : McR k p n s vt vo vr vd b h' := ⟨fun j u e => cellP.mono l (m.c j u e), m.r.mono l, m.d.mono l⟩
def goodL (l : List Int) : Prop := l.Nodup ∧ ∀ y ∈ l, 0 ≤ y ∧ y ≤ 99
theorem goodL.few {l : List Int} (h : goodL l) : l.length ≤ 100 := few_labels h.1 h.2
theorem goodL.join {a b : List Int} (ha : goodL a) (hb : goodL b) : goodL (joinI a b) := ⟨joinI_nodup ha.1 hb.1, fun y hy => (mem_joinI.1 hy).elim (ha.2 y) (hb.2 y)⟩
end Go.Proofs.Ythlmjnihihbckaa
namespace Go.Proofs.Ythlmjnihihbckaa
set_option maxRecDepth 100000
open Go.RowKit
def RegL (xs : List Reg) (cs : List Value) (h : PH) : Prop := cs.length = xs.length * 2 ∧ ∀ (i : Nat) (x : Reg), xs[i]? = some x → RegR x ((cs.drop (i * 2)).take 2) h
theorem RegL.mono {xs : List Reg} {cs : List Value} {h h' : PH} (r : RegL xs cs h) (l : PLe h h') : RegL xs cs h' := ⟨r.1, fun i x e => (r.2 i x e).mono l⟩
theorem RegL.regs {xs : List Reg} {cs : List Value} {v : Value} {h : PH} (r : RegL xs cs h) (rr : RowR cs xs.length 2 v h) : RegsR xs v h := ⟨cs, rr, r.2⟩
theorem RegL.blank (r : Nat) (h : PH) : RegL (List.replicate r ⟨false, []⟩) (List.replicate r [Value.bool false, .slice none 0 0]).flatten h := by
  have hl : ∀ l ∈ List.replicate r [Value.bool false, .slice none 0 0], l.length = 2 := fun l hl => by rw [List.eq_of_mem_replicate hl]; rfl
  refine ⟨by rw [flat_length hl]; simp, fun i x hx => ?_⟩; have e : x = ⟨false, []⟩ := List.eq_of_mem_replicate (List.mem_of_getElem? hx); have hi := (List.getElem?_eq_some_iff.1 hx).1; rw [List.length_replicate] at hi; rw [flat_get hl (l := [Value.bool false, .slice none 0 0]) (by simp [hi]), e]; exact ⟨_, rfl, IntsR.nil _⟩
theorem RegL.put {xs : List Reg} {cs : List Value} {h : PH} (r : RegL xs cs h) {i : Nat} {b : Bool} {l : List Int} {v : Value} (hi : i < xs.length) (r1 : IntsR l v h) : RegL (xs.set i ⟨b, l⟩) (cs.take (i * 2) ++ [.bool b, v] ++ cs.drop (i * 2 + 2)) h := by
  have hl := r.1; have key : ∀ m, (m < i * 2 ∨ i * 2 + 2 ≤ m) → (cs.take (i * 2) ++ [.bool b, v] ++ cs.drop (i * 2 + 2))[m]? = cs[m]? := fun m hm => by
    rcases hm with hm | hm
    · rw [List.append_assoc, List.getElem?_append_left (by simp; omega), List.getElem?_take, if_pos hm]
    · rw [List.getElem?_append_right (by simp; omega)]; simp only [List.length_append, List.length_take, List.length_cons, List.length_nil, List.getElem?_drop]
      congr 1
      omega
  refine ⟨by simp [hl]; omega, fun j y e => ?_⟩
  by_cases hj : j = i
  · subst hj; rw [List.getElem?_set_self hi] at e
    cases e
    have e2 : ((cs.take (j * 2) ++ [.bool b, v] ++ cs.drop (j * 2 + 2)).drop (j * 2)).take 2 = [.bool b, v] := by
      have e3 : (cs.take (j * 2)).length = j * 2 := by simp; omega
      rw [List.append_assoc, List.drop_append, e3, Nat.sub_self, List.drop_of_length_le (by omega), List.nil_append, List.drop_zero]
      rfl
    rw [e2]; exact ⟨v, rfl, r1⟩
  · rw [List.getElem?_set_ne (Ne.symm hj)] at e; have e2 : ((cs.take (i * 2) ++ [.bool b, v] ++ cs.drop (i * 2 + 2)).drop (j * 2)).take 2 = (cs.drop (j * 2)).take 2 := by
      apply List.ext_getElem?
      intro m; rw [List.getElem?_take, List.getElem?_take]
      split
      · rw [List.getElem?_drop, List.getElem?_drop, key _ (by omega)]
      · rfl
    rw [e2]; exact r.2 j y e
end Go.Proofs.Ythlmjnihihbckaa
namespace Go.Proofs.Ythlmjnihihbckaa
set_option maxRecDepth 100000
open Go.RowKit
theorem getB_set {F : List Bool} {i j : Nat} {b : Bool} (hi : i < F.length) : (F.set i b).getD j false = if j = i then b else F.getD j false := by
  by_cases e : j = i
  · subst e; simp [List.getD, hi]
  · rw [if_neg e]; simp [List.getD, List.getElem?_set_ne (Ne.symm e)]
noncomputable def szT (f : Int → Int) (t : Ten) : Int := prodI (t.l.map f)
def Mach.small (f : Int → Int) (s : Mach) : Prop := ∀ i, s.F.getD i false = true → szT f (s.ten i) ≤ 4096
end Go.Proofs.Ythlmjnihihbckaa
namespace Go.Proofs.Ythlmjnihihbckaa
set_option maxRecDepth 100000
open Go.RowKit
def firstI (q : Int → Bool) : List Int → Nat
  | [] => 0
  | x :: r => if q x then 0 else firstI q r + 1
theorem firstI_spec (q : Int → Bool) : ∀ C : List Int, firstI q C ≤ C.length ∧ (∀ j, j < firstI q C → q (C.getD j 0) = false) ∧ (firstI q C < C.length → q (C.getD (firstI q C) 0) = true)
  | [] => by simp [firstI]
  | x :: r => by
    obtain ⟨h1, h2, h3⟩ := firstI_spec q r
    unfold firstI
    cases hx : q x with
    | true => exact ⟨by simp, fun j hj => by simp at hj, fun _ => by simpa using hx⟩
    | false =>
      refine ⟨by simp; exact h1, fun j hj => ?_, fun h => ?_⟩
      · match j, hj with
        | 0, _ => simpa using hx
        | j + 1, hj => have := h2 j (by simpa using hj); simpa using this
      · have := h3 (by simpa using h)
        simpa using this
def lowE (C : List Int) : Nat := firstI (fun x => decide (x < 0)) C
def posE (C : List Int) (y : Int) : Nat := firstI (fun x => decide (x = y)) C
theorem lowE_at {C : List Int} (h : ∃ j, j < C.length ∧ C.getD j 0 < 0) : lowE C < C.length ∧ C.getD (lowE C) 0 < 0 ∧ ∀ j, j < lowE C → 0 ≤ C.getD j 0 := by
  obtain ⟨s1, s2, s3⟩ := firstI_spec (fun x => decide (x < 0)) C; have hno : ∀ j, j < lowE C → 0 ≤ C.getD j 0 := fun j hj => by have := of_decide_eq_false (s2 j hj); omega
  obtain ⟨j, hj, hn⟩ := h; have hlt : lowE C < C.length := by
    rcases Nat.lt_or_ge j (lowE C) with h | h
    · have := hno j h; omega
    · omega
  exact ⟨hlt, of_decide_eq_true (s3 hlt), hno⟩
theorem posE_at {C : List Int} {y : Int} (h : ∃ j, j < C.length ∧ C.getD j 0 = y) : posE C y < C.length ∧ C.getD (posE C y) 0 = y := by
  obtain ⟨s1, s2, s3⟩ := firstI_spec (fun x => decide (x = y)) C; obtain ⟨j, hj, hn⟩ := h; have hlt : posE C y < C.length := by
    rcases Nat.lt_or_ge j (posE C y) with h | h
    · have := of_decide_eq_false (s2 j h); exact absurd hn this
    · omega
  exact ⟨hlt, of_decide_eq_true (s3 hlt)⟩
theorem getI_set {C : List Int} {i j : Nat} {t : Int} (hi : i < C.length) : (C.set i t).getD j 0 = if j = i then t else C.getD j 0 := by
  by_cases e : j = i
  · subst e; simp [List.getD, hi]
  · rw [if_neg e]; simp [List.getD, List.getElem?_set_ne (Ne.symm e)]
structure CJ (m : Nat) (ix : List Nat) (C : List Int) : Prop where
  len : C.length = 2 * m
  live : ∀ j, j < C.length → 0 ≤ C.getD j 0 → (C.getD j 0).toNat ∈ ix
  inj : ∀ i j, i < C.length → j < C.length → 0 ≤ C.getD i 0 → C.getD i 0 = C.getD j 0 → i = j
theorem CJ.empty {m : Nat} {ix : List Nat} {C : List Int} (h : CJ m ix C) (hm : 1 ≤ m) (hi : ix.length ≤ m) : ∃ j, j < C.length ∧ C.getD j 0 < 0 := by
  by_cases hc : ∃ j, j < C.length ∧ C.getD j 0 < 0
  · exact hc
  · exfalso
    have hall : ∀ j, j < C.length → 0 ≤ C.getD j 0 := fun j hj => by
      by_cases hn : C.getD j 0 < 0
      · exact absurd ⟨j, hj, hn⟩ hc
      · omega
    have hnd : C.Nodup := by
      rw [List.Nodup, List.pairwise_iff_getElem]; intro i j hi hj hij e; have e1 : C.getD i 0 = C[i] := by simp [List.getD, hi]
      have e2 : C.getD j 0 = C[j] := by simp [List.getD, hj]
      have := h.inj i j hi hj (hall i hi) (by rw [e1, e2]; exact e)
      omega
    have := pigeon (m := ix.map Int.ofNat) hnd fun x hx => by
      obtain ⟨j, hj, rfl⟩ := getD_of_mem hx; have h1 := hall j hj; exact List.mem_map.2 ⟨_, h.live j hj h1, by show (((C.getD j 0).toNat : Nat) : Int) = _; omega⟩
    rw [List.length_map] at this; have := h.len
    omega
theorem CJ.put {m : Nat} {ix : List Nat} {C : List Int} {y : Int} (h : CJ m ix C) (hm : 1 ≤ m) (hi : ix.length ≤ m) (h0 : 0 ≤ y) (hy : y.toNat ∈ ix) (hno : ∀ j, j < C.length → C.getD j 0 ≠ y) : CJ m ix (C.set (lowE C) y) := by
  obtain ⟨l1, l2, l3⟩ := lowE_at (h.empty hm hi); have hg : ∀ j, (C.set (lowE C) y).getD j 0 = if j = lowE C then y else C.getD j 0 := fun j => getI_set l1
  refine ⟨by rw [List.length_set]; exact h.len, fun j hj hp => ?_, fun i j hi hj hp e => ?_⟩
  · rw [List.length_set] at hj; rw [hg] at hp ⊢
    by_cases c : j = lowE C
    · rw [if_pos c]; exact hy
    · rw [if_neg c] at hp ⊢; exact h.live j hj hp
  · rw [List.length_set] at hi hj; rw [hg] at hp; rw [hg, hg] at e
    by_cases c1 : i = lowE C
    · by_cases c2 : j = lowE C
      · rw [c1, c2]
      · rw [if_pos c1, if_neg c2] at e; exact absurd e.symm (hno j hj)
    · by_cases c2 : j = lowE C
      · rw [if_neg c1, if_pos c2] at e; exact absurd e (hno i hi)
      · rw [if_neg c1] at hp; rw [if_neg c1, if_neg c2] at e; exact h.inj i j hi hj hp e
structure Cpl where
  C : List Int
  R : Int
  os : List Opr
  l : Int
def Cpl.put (s : Cpl) (y : Int) : Cpl := ⟨s.C.set (lowE s.C) y, max s.R ((lowE s.C : Int) + 1), s.os, s.l⟩
def Cpl.load (m : Nat) (s : Cpl) (y : Int) : Cpl := if y < m then ⟨s.C.set (lowE s.C) y, max s.R ((lowE s.C : Int) + 1), s.os ++ [⟨1, lowE s.C, y, 0, []⟩], s.l⟩ else s
def Cpl.at (m : Nat) (s : Cpl) (y : Int) : Nat := if y < m then lowE s.C else posE s.C y
def Cpl.step (m : Nat) (K : List Int) (i : Nat) (s : Cpl) (x : Stp) : Cpl :=
  ⟨((((s.load m x.a).load m x.b).C.set (lowE ((s.load m x.a).load m x.b).C) ((m : Int) + i)).set (s.at m x.a) (-1)).set ((s.load m x.a).at m x.b) (-1),
   max ((s.load m x.a).load m x.b).R ((lowE ((s.load m x.a).load m x.b).C : Int) + 1),
   ((s.load m x.a).load m x.b).os ++ [⟨2, lowE ((s.load m x.a).load m x.b).C, s.at m x.a, (s.load m x.a).at m x.b, K⟩],
   lowE ((s.load m x.a).load m x.b).C⟩
noncomputable def cpK (ts : List Ten) (op : List Int) (ss : List Stp) (i : Nat) : List Int := (shTo op (sh0 ts) ss).lab (ts.length + i)
noncomputable def cplTo (ts : List Ten) (op : List Int) (ss : List Stp) : Nat → Cpl
  | 0 => ⟨List.replicate (2 * ts.length) (-1), 1, [], 0⟩
  | i + 1 => (cplTo ts op ss i).step ts.length (cpK ts op ss i) i (stpAt ss i)
structure CB (m : Nat) (ix : List Nat) (C : List Int) : Prop extends CJ m ix C where
  big : ∀ j, j < C.length → 0 ≤ C.getD j 0 → (m : Int) ≤ C.getD j 0
  has : ∀ y ∈ ix, m ≤ y → ∃ j, j < C.length ∧ C.getD j 0 = y
/-- What is known in the middle of a step. -/
structure CStep (m i : Nat) (ix : List Nat) (s : Cpl) (x : Stp) : Prop where
  e0 : ∃ j, j < s.C.length ∧ s.C.getD j 0 < 0
  e1 : ∃ j, j < (s.load m x.a).C.length ∧ (s.load m x.a).C.getD j 0 < 0
  e2 : ∃ j, j < ((s.load m x.a).load m x.b).C.length ∧ ((s.load m x.a).load m x.b).C.getD j 0 < 0
  j1 : CJ m ix (s.load m x.a).C
  j2 : CJ m ix ((s.load m x.a).load m x.b).C
  no1 : x.a < m → ∀ j, j < s.C.length → s.C.getD j 0 ≠ x.a
  no2 : x.b < m → ∀ j, j < (s.load m x.a).C.length → (s.load m x.a).C.getD j 0 ≠ x.b
  has1 : ¬ x.a < m → ∃ j, j < s.C.length ∧ s.C.getD j 0 = x.a
  has2 : ¬ x.b < m → ∃ j, j < (s.load m x.a).C.length ∧ (s.load m x.a).C.getD j 0 = x.b
  ga : s.at m x.a < 2 * m ∧ ((s.load m x.a).load m x.b).C.getD (s.at m x.a) 0 = x.a ∧ (s.load m x.a).C.getD (s.at m x.a) 0 = x.a
  gb : (s.load m x.a).at m x.b < 2 * m ∧ ((s.load m x.a).load m x.b).C.getD ((s.load m x.a).at m x.b) 0 = x.b
  gk : lowE ((s.load m x.a).load m x.b).C < 2 * m ∧ ((s.load m x.a).load m x.b).C.getD (lowE ((s.load m x.a).load m x.b).C) 0 < 0
  ab : s.at m x.a ≠ (s.load m x.a).at m x.b
  old : ∀ j, j ≠ s.at m x.a → j ≠ (s.load m x.a).at m x.b → ((s.load m x.a).load m x.b).C.getD j 0 = s.C.getD j 0
theorem load_yes {m : Nat} {s : Cpl} {y : Int} (h : y < m) : s.load m y = ⟨s.C.set (lowE s.C) y, max s.R ((lowE s.C : Int) + 1), s.os ++ [⟨1, lowE s.C, y, 0, []⟩], s.l⟩ ∧ s.at m y = lowE s.C := ⟨if_pos h, if_pos h⟩
theorem load_no {m : Nat} {s : Cpl} {y : Int} (h : ¬ y < m) : s.load m y = s ∧ s.at m y = posE s.C y := ⟨if_neg h, if_neg h⟩
theorem cb_step {m i : Nat} {ix : List Nat} {s : Cpl} {x : Stp} (h : CB m ix s.C) (hm : 1 ≤ m) (hi : ix.length ≤ m) (ha0 : 0 ≤ x.a) (hb0 : 0 ≤ x.b) (ha : x.a.toNat ∈ ix) (hb : x.b.toNat ∈ ix) (hab : x.a < x.b) : CStep m i ix s x := by
  have e0 := h.toCJ.empty hm hi; have l0 := lowE_at e0; have hl := h.len; have no1 : x.a < m → ∀ j, j < s.C.length → s.C.getD j 0 ≠ x.a := fun hlt j hj e => by
    have := h.big j hj (by omega)
    omega
  have has1 : ¬ x.a < m → ∃ j, j < s.C.length ∧ s.C.getD j 0 = x.a := fun hge => by
    obtain ⟨j, hj, e⟩ := h.has _ ha (by omega); exact ⟨j, hj, by omega⟩
  -- the first load
  have A : CJ m ix (s.load m x.a).C ∧ (s.at m x.a < 2 * m ∧ (s.load m x.a).C.getD (s.at m x.a) 0 = x.a) ∧ (∀ j, j ≠ s.at m x.a → (s.load m x.a).C.getD j 0 = s.C.getD j 0) := by
    by_cases c : x.a < m
    · rw [(load_yes c).1, (load_yes c).2]; have hg : ∀ j, (s.C.set (lowE s.C) x.a).getD j 0 = if j = lowE s.C then x.a else s.C.getD j 0 := fun j => getI_set l0.1
      refine ⟨h.toCJ.put hm hi ha0 ha (no1 c), ⟨by omega, by show (s.C.set (lowE s.C) x.a).getD (lowE s.C) 0 = _; rw [hg, if_pos rfl]⟩, fun j hj => by show (s.C.set (lowE s.C) x.a).getD j 0 = _; rw [hg, if_neg hj]⟩
    · rw [(load_no c).1, (load_no c).2]; have hp := posE_at (has1 c); exact ⟨h.toCJ, ⟨by omega, hp.2⟩, fun j _ => rfl⟩
  obtain ⟨j1, ⟨ga1, ga2⟩, old1⟩ := A; have e1 := j1.empty hm hi; have l1 := lowE_at e1; have hl1 := j1.len; have no2 : x.b < m → ∀ j, j < (s.load m x.a).C.length → (s.load m x.a).C.getD j 0 ≠ x.b := fun hlt j hj e => by
    by_cases c : j = s.at m x.a
    · rw [c, ga2] at e; omega
    · rw [old1 j c] at e; have := h.big j (by omega) (by omega)
      omega
  have has2 : ¬ x.b < m → ∃ j, j < (s.load m x.a).C.length ∧ (s.load m x.a).C.getD j 0 = x.b := fun hge => by
    obtain ⟨j, hj, e⟩ := h.has _ hb (by omega); refine ⟨j, by omega, ?_⟩; have hne : j ≠ s.at m x.a := fun c => by
      by_cases c2 : x.a < m
      · rw [(load_yes c2).2] at c; rw [c] at e; omega
      · have := (posE_at (has1 c2)).2; rw [(load_no c2).2] at c; rw [← c] at this; omega
    rw [old1 j hne]; omega
  have B : CJ m ix ((s.load m x.a).load m x.b).C ∧ ((s.load m x.a).at m x.b < 2 * m ∧ ((s.load m x.a).load m x.b).C.getD ((s.load m x.a).at m x.b) 0 = x.b) ∧ (∀ j, j ≠ (s.load m x.a).at m x.b → ((s.load m x.a).load m x.b).C.getD j 0 = (s.load m x.a).C.getD j 0) ∧ s.at m x.a ≠ (s.load m x.a).at m x.b := by
    by_cases c : x.b < m
    · rw [(load_yes c).1, (load_yes c).2]; have hg : ∀ j, ((s.load m x.a).C.set (lowE (s.load m x.a).C) x.b).getD j 0 = if j = lowE (s.load m x.a).C then x.b else (s.load m x.a).C.getD j 0 := fun j => getI_set l1.1
      refine ⟨j1.put hm hi hb0 hb (no2 c), ⟨by omega, by show ((s.load m x.a).C.set (lowE (s.load m x.a).C) x.b).getD (lowE (s.load m x.a).C) 0 = _; rw [hg, if_pos rfl]⟩, fun j hj => by show ((s.load m x.a).C.set (lowE (s.load m x.a).C) x.b).getD j 0 = _; rw [hg, if_neg hj], fun e => ?_⟩; rw [e] at ga2; omega
    · rw [(load_no c).1, (load_no c).2]; have hp := posE_at (has2 c); refine ⟨j1, ⟨by omega, hp.2⟩, fun j _ => rfl, fun e => ?_⟩; rw [e, hp.2] at ga2; omega
  obtain ⟨j2, ⟨gb1, gb2⟩, old2, hne⟩ := B; have e2 := j2.empty hm hi; have l2 := lowE_at e2; have hl2 := j2.len; exact ⟨e0, e1, e2, j1, j2, no1, no2, has1, has2, ⟨ga1, by rw [old2 _ hne]; exact ga2, ga2⟩, ⟨gb1, gb2⟩, ⟨by omega, l2.2.1⟩, hne, fun j q1 q2 => by rw [old2 j q2, old1 j q1]⟩
theorem cb_next {m i : Nat} {ix ix' : List Nat} {s : Cpl} {x : Stp} {K : List Int} (h : CB m ix s.C) (c : CStep m i ix s x) (hm : 1 ≤ m) (ha0 : 0 ≤ x.a) (hb0 : 0 ≤ x.b) (hlt : ∀ y ∈ ix, y < m + i)
    (hix : ∀ y, y ∈ ix' ↔ (y ∈ ix ∧ y ≠ x.a.toNat ∧ y ≠ x.b.toNat) ∨ y = m + i) : CB m ix' (s.step m K i x).C := by
  have hl2 := c.j2.len; have hl := h.len; have hk := c.gk; have ga := c.ga; have gb := c.gb; have hka : lowE ((s.load m x.a).load m x.b).C ≠ s.at m x.a := fun e => by have h1 := hk.2; rw [e, ga.2.1] at h1; omega
  have hkb : lowE ((s.load m x.a).load m x.b).C ≠ (s.load m x.a).at m x.b := fun e => by have h1 := hk.2; rw [e, gb.2] at h1; omega
  have hg : ∀ j, (s.step m K i x).C.getD j 0 = if j = (s.load m x.a).at m x.b then -1 else if j = s.at m x.a then -1 else if j = lowE ((s.load m x.a).load m x.b).C then (m : Int) + i else ((s.load m x.a).load m x.b).C.getD j 0 := fun j => by
    show (((((s.load m x.a).load m x.b).C.set (lowE ((s.load m x.a).load m x.b).C) ((m : Int) + i)).set (s.at m x.a) (-1)).set ((s.load m x.a).at m x.b) (-1)).getD j 0 = _
    rw [getI_set (by simp only [List.length_set]; omega), getI_set (by simp only [List.length_set]; omega), getI_set (by omega)]
  have hlen : (s.step m K i x).C.length = 2 * m := by
    show (((((s.load m x.a).load m x.b).C.set _ _).set _ _).set _ _).length = _
    simp only [List.length_set]; exact hl2
  -- what a place that is not empty holds
  have key : ∀ j, j < 2 * m → 0 ≤ (s.step m K i x).C.getD j 0 → j ≠ (s.load m x.a).at m x.b ∧ j ≠ s.at m x.a ∧ ((j = lowE ((s.load m x.a).load m x.b).C ∧ (s.step m K i x).C.getD j 0 = (m : Int) + i) ∨ (j ≠ lowE ((s.load m x.a).load m x.b).C ∧ (s.step m K i x).C.getD j 0 = ((s.load m x.a).load m x.b).C.getD j 0 ∧ (s.step m K i x).C.getD j 0 = s.C.getD j 0)) := fun j hj hp => by
    rw [hg] at hp ⊢
    by_cases q1 : j = (s.load m x.a).at m x.b
    · rw [if_pos q1] at hp; omega
    · by_cases q2 : j = s.at m x.a
      · rw [if_neg q1, if_pos q2] at hp; omega
      · rw [if_neg q1, if_neg q2] at hp ⊢
        by_cases q3 : j = lowE ((s.load m x.a).load m x.b).C
        · rw [if_pos q3]; exact ⟨q1, q2, .inl ⟨q3, rfl⟩⟩
        · rw [if_neg q3]; exact ⟨q1, q2, .inr ⟨q3, rfl, c.old j q2 q1⟩⟩
  refine ⟨⟨hlen, fun j hj hp => ?_, fun p q hp hq h0 e => ?_⟩, fun j hj hp => ?_, fun y hy hym => ?_⟩
  · obtain ⟨q1, q2, q3⟩ := key j (by omega) hp; rw [hix]
    rcases q3 with ⟨_, e⟩ | ⟨_, e, _⟩
    · right; rw [e]; omega
    · left
      rw [e] at hp ⊢; refine ⟨c.j2.live j (by omega) hp, fun e2 => q2 ?_, fun e2 => q1 ?_⟩
      · exact c.j2.inj j (s.at m x.a) (by omega) (by omega) hp (by rw [ga.2.1]; omega)
      · exact c.j2.inj j ((s.load m x.a).at m x.b) (by omega) (by omega) hp (by rw [gb.2]; omega)
  · obtain ⟨p1, p2, p3⟩ := key p (by omega) h0; obtain ⟨q1, q2, q3⟩ := key q (by omega) (by omega)
    rcases p3 with ⟨a1, a2⟩ | ⟨a1, a2, _⟩
    · rcases q3 with ⟨b1, b2⟩ | ⟨b1, b2, _⟩
      · omega
      · exfalso
        have h1 := hlt _ (c.j2.live q (by omega) (by omega))
        omega
    · rcases q3 with ⟨b1, b2⟩ | ⟨b1, b2, _⟩
      · exfalso
        have h1 := hlt _ (c.j2.live p (by omega) (by omega))
        omega
      · exact c.j2.inj p q (by omega) (by omega) (by omega) (by omega)
  · obtain ⟨q1, q2, q3⟩ := key j (by omega) hp
    rcases q3 with ⟨_, e⟩ | ⟨_, _, e⟩
    · omega
    · rw [e] at hp ⊢; exact h.big j (by omega) hp
  · rcases (hix y).1 hy with ⟨h1, h2, h3⟩ | rfl
    · obtain ⟨j, hj, e⟩ := h.has y h1 hym; have n1 : j ≠ s.at m x.a := fun e2 => by
        by_cases c2 : x.a < m
        · rw [(load_yes c2).2] at e2; have := (lowE_at c.e0).2.1; rw [← e2] at this; omega
        · have := (posE_at (c.has1 c2)).2; rw [(load_no c2).2] at e2; rw [← e2] at this; omega
      have e4 : (s.load m x.a).C.getD j 0 = s.C.getD j 0 := by
        by_cases c2 : x.a < m
        · rw [(load_yes c2).2] at n1; rw [(load_yes c2).1]
          show (s.C.set _ _).getD j 0 = _
          rw [getI_set (lowE_at c.e0).1, if_neg n1]
        · rw [(load_no c2).1]
      have n2 : j ≠ (s.load m x.a).at m x.b := fun e2 => by
        by_cases c2 : x.b < m
        · rw [(load_yes c2).2] at e2; have := (lowE_at c.e1).2.1; rw [← e2] at this; omega
        · have := (posE_at (c.has2 c2)).2; rw [(load_no c2).2] at e2; rw [← e2] at this; omega
      have e5 := c.old j n1 n2; have n3 : j ≠ lowE ((s.load m x.a).load m x.b).C := fun e2 => by have := hk.2; rw [← e2] at this; omega
      exact ⟨j, by omega, by rw [hg, if_neg n2, if_neg n1, if_neg n3, e5]; exact e⟩
    · exact ⟨lowE ((s.load m x.a).load m x.b).C, by omega, by rw [hg, if_neg hkb, if_neg hka, if_pos rfl]; omega⟩
theorem rep_neg (r i : Nat) (h : i < r) : (List.replicate r (-1 : Int)).getD i 0 = -1 := by simp [List.getD, h]
section
variable {k p n : Int} {ts : List Ten} {op : List Int} {ss : List Stp}
theorem runS_few (h : orderL k p n ts op ss) {i : Nat} (hi : i ≤ ss.length) : (runS ts op ss i).ixs.length ≤ ts.length := by
  have hc := steps_count (op := op) (sh0_fine (net_axes h.1)) h.2.2 i hi; rw [show (sh0 ts).ixs.length = ts.length by rw [sh0_ixs]; simp] at hc
  show (shTo op (sh0 ts) (ss.take i)).ixs.length ≤ _
  omega
theorem cpl_ok (h : orderL k p n ts op ss) (hm : 1 ≤ ts.length) : ∀ i, i ≤ ss.length → CB ts.length (runS ts op ss i).ixs (cplTo ts op ss i).C
  | 0, _ => by
    have hr : ∀ j, j < (List.replicate (2 * ts.length) (-1 : Int)).length → (List.replicate (2 * ts.length) (-1 : Int)).getD j 0 = -1 := fun j hj => rep_neg _ _ (by simpa using hj); refine ⟨⟨List.length_replicate, fun j hj hp => ?_, fun i j hi hj hp e => ?_⟩, fun j hj hp => ?_, fun y hy hym => ?_⟩
    · have := hr j hj
      show _ ∈ _
      exfalso
      have hp' : 0 ≤ (List.replicate (2 * ts.length) (-1 : Int)).getD j 0 := hp
      omega
    · have := hr i hi; have hp' : 0 ≤ (List.replicate (2 * ts.length) (-1 : Int)).getD i 0 := hp
      omega
    · have := hr j hj; have hp' : 0 ≤ (List.replicate (2 * ts.length) (-1 : Int)).getD j 0 := hp
      omega
    · have e0 : runS ts op ss 0 = sh0 ts := rfl; rw [e0, sh0_ixs] at hy; have := List.mem_range.1 hy
      omega
  | i + 1, hi => by
    have ih := cpl_ok h hm i (by omega); obtain ⟨hst, hs1, hl⟩ := run_step h (i := i) (by omega); have hfew := runS_few h (i := i) (by omega); have la := live_ixs.1 hst.1; have lb := live_ixs.1 hst.2.1; have c := cb_step (i := i) ih hm hfew la.1 lb.1 la.2 lb.2 hst.2.2; refine cb_next ih c hm la.1 lb.1 (fun y hy => by have := (mem_ixs.1 hy).1; omega) (fun y => ?_); rw [hs1, step_ixs (run_fine (ss := ss) h.1 i).1, List.mem_append, List.mem_filter, decide_eq_true_eq, List.mem_singleton, hl]
/-- The middle of the i-th step. -/
theorem cpl_mid (h : orderL k p n ts op ss) (hm : 1 ≤ ts.length) {i : Nat} (hi : i < ss.length) : CStep ts.length i (runS ts op ss i).ixs (cplTo ts op ss i) (stpAt ss i) ∧ (0 ≤ (stpAt ss i).a ∧ (stpAt ss i).a < ts.length + i) ∧ 0 ≤ (stpAt ss i).b ∧ (stpAt ss i).b < ts.length + i := by
  obtain ⟨hst, hs1, hl⟩ := run_step h (i := i) hi; have la := live_ixs.1 hst.1; have lb := live_ixs.1 hst.2.1; have h1 := hst.1.2.1; have h2 := hst.2.1.2.1; exact ⟨cb_step (cpl_ok h hm i (by omega)) hm (runS_few h (by omega)) la.1 lb.1 la.2 lb.2 hst.2.2, ⟨la.1, by omega⟩, lb.1, by omega⟩
end
structure FA (m L : Nat) (C : List Int) (F : List Bool) (A : List Int) : Prop where
  cl : C.length = 2 * m
  fl : F.length = 26
  al : A.length = L
  f : ∀ j, F.getD j false = true ↔ j < C.length ∧ 0 ≤ C.getD j 0
  a : ∀ j, j < C.length → 0 ≤ C.getD j 0 → A.getD (C.getD j 0).toNat 0 = j
theorem FA.low {m L : Nat} {C : List Int} {F : List Bool} {A : List Int} (h : FA m L C F A) (he : ∃ j, j < C.length ∧ C.getD j 0 < 0) : F.getD (lowE C) false = false ∧ ∀ j, j < lowE C → F.getD j false = true := by
  obtain ⟨l1, l2, l3⟩ := lowE_at he; refine ⟨?_, fun j hj => (h.f j).2 ⟨by omega, l3 j hj⟩⟩
  cases hb : F.getD (lowE C) false with
  | false => rfl
  | true => have := (h.f _).1 hb; omega
theorem FA.put {m L : Nat} {C : List Int} {F : List Bool} {A : List Int} {y : Int} (h : FA m L C F A) (hm : m ≤ 12) (he : ∃ j, j < C.length ∧ C.getD j 0 < 0) (hy : 0 ≤ y ∧ y < L) (hno : ∀ j, j < C.length → C.getD j 0 ≠ y) : FA m L (C.set (lowE C) y) (F.set (lowE C) true) (A.set y.toNat (lowE C)) := by
  obtain ⟨l1, l2, l3⟩ := lowE_at he; have hcl := h.cl; have hfl := h.fl; have hal := h.al; have hg : ∀ j, (C.set (lowE C) y).getD j 0 = if j = lowE C then y else C.getD j 0 := fun j => getI_set l1
  refine ⟨by rw [List.length_set]; exact h.cl, by rw [List.length_set]; exact h.fl, by rw [List.length_set]; exact h.al, fun j => ?_, fun j hj hp => ?_⟩
  · rw [getB_set (by omega), List.length_set, hg]
    by_cases e : j = lowE C
    · rw [if_pos e, if_pos e]; exact ⟨fun _ => ⟨by omega, hy.1⟩, fun _ => rfl⟩
    · rw [if_neg e, if_neg e]; exact h.f j
  · rw [List.length_set] at hj; rw [hg] at hp ⊢
    by_cases e : j = lowE C
    · rw [if_pos e, getI_set (by omega), if_pos rfl, e]
    · rw [if_neg e] at hp ⊢; have h1 := hno j hj; rw [getI_set (by omega), if_neg (by omega)]; exact h.a j hj hp
theorem FA.clear {m L : Nat} {C : List Int} {F : List Bool} {A : List Int} {a : Nat} (h : FA m L C F A) (hm : m ≤ 12) (ha : a < C.length) : FA m L (C.set a (-1)) (F.set a false) A := by
  have hcl := h.cl; have hfl := h.fl; have hg : ∀ j, (C.set a (-1)).getD j 0 = if j = a then -1 else C.getD j 0 := fun j => getI_set ha
  refine ⟨by rw [List.length_set]; exact h.cl, by rw [List.length_set]; exact h.fl, h.al, fun j => ?_, fun j hj hp => ?_⟩
  · rw [getB_set (by omega), List.length_set, hg]
    by_cases e : j = a
    · rw [if_pos e, if_pos e]; exact ⟨fun h => (by cases h), fun h => by omega⟩
    · rw [if_neg e, if_neg e]; exact h.f j
  · rw [List.length_set] at hj; rw [hg] at hp ⊢
    by_cases e : j = a
    · rw [if_pos e] at hp; omega
    · rw [if_neg e] at hp ⊢; exact h.a j hj hp
theorem FA.start (m L : Nat) : FA m L (List.replicate (2 * m) (-1)) (List.replicate 26 false) (List.replicate L 0) := by
  refine ⟨List.length_replicate, List.length_replicate, List.length_replicate, fun j => ⟨fun h => ?_, fun h => ?_⟩, fun j hj hp => ?_⟩
  · have : (List.replicate 26 false).getD j false = false := by
      simp only [List.getD, List.getElem?_replicate]
      split <;> rfl
    rw [this] at h; cases h
  · have := rep_neg (2 * m) j (by simpa using h.1); omega
  · have := rep_neg (2 * m) j (by simpa using hj); omega
noncomputable def cplL (ts : List Ten) (op : List Int) (ss : List Stp) : Cpl := if ss = [] then ⟨((cplTo ts op ss 0).load ts.length 0).C, ((cplTo ts op ss 0).load ts.length 0).R, ((cplTo ts op ss 0).load ts.length 0).os, lowE (cplTo ts op ss 0).C⟩ else cplTo ts op ss ss.length
noncomputable def cplOs (ts : List Ten) (op : List Int) (ss : List Stp) : List Opr := (cplL ts op ss).os ++ [⟨3, (cplL ts op ss).l, 0, 0, []⟩]
def coP (k p n : Int) (ts : List Ten) (op : List Int) (ss : List Stp) : Prop := orderL k p n ts op ss ∧ ts ≠ [] ∧ (cplL ts op ss).R ≤ 24
open Classical in
noncomputable def coB (k p n : Int) (ts : List Ten) (op : List Int) (ss : List Stp) : Bool := decide (coP k p n ts op ss)
noncomputable def coR (k p n : Int) (ts : List Ten) (op : List Int) (ss : List Stp) : Int := ifB (coB k p n ts op ss) (cplL ts op ss).R 0
noncomputable def coOs (k p n : Int) (ts : List Ten) (op : List Int) (ss : List Stp) : List Opr := ifB (coB k p n ts op ss) (cplOs ts op ss) []
/-- A code with a yes or no. -/
def CodeB (r : Int) (os : List Opr) (b : Bool) (u : Value) (h : PH) : Prop := ∃ v, u = .tuple [codeV r v, .bool b].toArray ∧ OpsO os v h
end Go.Proofs.Ythlmjnihihbckaa
namespace Go.Proofs.Ythlmjnihihbckaa
set_option maxRecDepth 100000
open Go.RowKit
/-- Operations whose labels lie all in one part. -/
def OpH (os : List Opr) (cs : List Value) (h : PH) : Prop := ∃ l, OpL os cs l ∧ Made h l
theorem OpH.nil : OpH [] [] emp := ⟨[], OpL.nil, ⟨trivial, fun x hx => by simp at hx, fun k o e => by cases e⟩⟩
theorem Made.sole (h : PH) : Made h [h] := ⟨⟨fun x hx => (List.not_mem_nil hx).elim, trivial⟩, fun x hx => by rw [List.mem_singleton.1 hx]; exact PLe.refl _, fun k o e => ⟨h, List.mem_singleton.2 rfl, e⟩⟩
theorem OpH.add {os : List Opr} {cs : List Value} {h h' : PH} {o : Opr} {v : Value} (r : OpH os cs h) (q : IntsO o.l v h') (hd : PDj h h') : OpH (os ++ [o]) (cs ++ [num o.k, num o.a, num o.b, num o.c, v]) (PUn h h') := by
  obtain ⟨l, ol, m⟩ := r; exact ⟨l ++ [h'], ol.snoc q, m.un (Made.sole h') hd⟩
theorem OpH.add0 {os : List Opr} {cs : List Value} {h : PH} {k a b c : Int} (r : OpH os cs h) : OpH (os ++ [⟨k, a, b, c, []⟩]) (cs ++ [num k, num a, num b, num c, .slice none 0 0]) h := by
  obtain ⟨l, ol, m⟩ := r; refine ⟨l ++ [emp], ol.snoc (o := ⟨k, a, b, c, []⟩) IntsO.nil, ⟨sepL_append.2 ⟨m.sep, ⟨fun x hx => (List.not_mem_nil hx).elim, trivial⟩, fun x _ y hy => by rw [List.mem_singleton.1 hy]; exact (PDj.emp x).symm⟩, fun x hx => ?_, fun k o e => ?_⟩⟩
  · rcases List.mem_append.1 hx with hx | hx
    · exact m.le x hx
    · rw [List.mem_singleton.1 hx]; exact PLe.emp _
  · obtain ⟨x, hx, hxe⟩ := m.dom k o e; exact ⟨x, by simp [hx], hxe⟩
theorem OpsO.of {os : List Opr} {cs : List Value} {v : Value} {h ha hl : PH} (rr : RowO 81 cs os.length 5 v ha) (o : OpH os cs hl) (md : Made h [ha, hl]) : OpsO os v h := by
  obtain ⟨l, ol, ml⟩ := o; refine ⟨cs, ha, l, rr, ol, ⟨⟨fun x hx => ?_, ml.sep⟩, fun x hx => ?_, fun k o e => ?_⟩⟩
  · exact ((md.sep.1 hl (by simp)).symm.mono (ml.le x hx)).symm
  · rcases List.mem_cons.1 hx with rfl | hx
    · exact md.le _ (by simp)
    · exact (ml.le x hx).trans (md.le hl (by simp))
  · obtain ⟨x, hx, hxe⟩ := md.dom k o e
    rcases List.mem_cons.1 hx with rfl | hx
    · exact ⟨x, by simp, hxe⟩
    · rw [List.mem_singleton.1 hx] at hxe; obtain ⟨y, hy, hye⟩ := ml.dom k o hxe; exact ⟨y, by simp [hy], hye⟩
theorem ct_s_l25Free (F : List Bool) (k : Nat) (v : Value) (w : World) (r : BoolsR F v (hp w)) (hk : k < F.length ∧ F.getD k false = false ∧ ∀ j, j < k → F.getD j false = true) :
    Calls Try.prog 37 [v].toArray w (RetV w (num k)) := by
  refine calls_in Try.func37 rfl Try.ntmps37 rfl (Sat.start w) ?_; have hle0 := r.le; refine wp_sc (wp_sq (sq_v rfl (v_assign rfl) rfl (sq_end (qs_n (wp_sc (wp_sc (wp_sq (sq_v rfl (v_move rfl) rfl (sq_v rfl (v_len Try.underlying71 rfl r.sl) rfl (sq_v rfl (v_move rfl) rfl (sq_end (qs_n (wp_bl ?_))))))))))))); refine wp_lp (σ := Nat) (fun z_ => [(0, v), (2, num 0), (5, v), (6, num F.length), (7, num z_)]) (fun z_ => [hp w]) (fun z_ => z_ ≤ k) (fun z_ => k + 1 - z_) 0 (by omega) ⟨rfl, rfl, rfl, rfl, (by first | rfl | exact ksub rfl (by first | omega | (simp; done) | (simp; omega))), trivial⟩ (fun _ s => s) ?_; rintro i hi; refine wp_sc (wp_sq (sq_v rfl (v_lss rfl rfl) rfl (sq_end (qs_n (wp_sc ?_))))); refine wp_cd rfl (fun c8 => ?_) (fun c8 => ?_)
  · refine wp_sk (qs_n (wp_sc (wp_bl (wp_sc (wp_sq (sq_v rfl (v_move rfl) rfl ?_)))))); refine sq_v rfl (v_idxB Try.underlying71 ty_4 rfl rfl r (by first | omega | (simp; omega) | (simp only [List.length_append, List.length_cons, List.length_nil]; omega) | (rw [List.length_set]; omega)) (by first | omega | (simp; omega) | (simp only [List.length_append, List.length_cons, List.length_nil]; omega) | (rw [List.length_set]; omega))) rfl ?_; refine sq_v rfl (v_loadBl (k := i) 0 ty_4 rfl rfl r (by first | omega | (simp; omega) | (simp only [List.length_append, List.length_cons, List.length_nil]; omega) | (rw [List.length_set]; omega))) rfl ?_; refine sq_v rfl (v_assign rfl) rfl (sq_v rfl (v_assign rfl) rfl (sq_end (qs_n (wp_sc (wp_sq (sq_v rfl (v_move rfl) rfl (sq_v rfl (v_not rfl) rfl (sq_end (qs_n ?_))))))))); refine wp_cn _ rfl (fun c13 => ?_) (fun c13 => ?_)
    · refine wp_sc (wp_sq (sq_v rfl (v_move rfl) rfl (sq_v rfl (v_assign rfl) rfl (sq_end (qs_n (wp_rt (qs_br (qs_r (qs_r (qs_br (qs_r ?_))))))))))); exact qs_ret1 rfl rfl (fin_q (i := 0) rfl (by have e : i = k := (by rcases Nat.lt_or_ge i k with h | h; exact absurd ((hk.2.2 i h).symm.trans c13) (by decide); omega); rw [e]))
    · refine wp_sk (qs_bn (qs_n (wp_sq ?_))); refine sq_v rfl (v_add rfl rfl ((by unfold I64; omega))) rfl ?_; refine sq_v rfl (v_move rfl) rfl (sq_end ?_); exact qs_bk (i + 1) (by (rcases Nat.lt_or_ge i k with h | h; omega; rw [show i = k by omega, hk.2.1] at c13; cases c13)) (by omega) ⟨rfl, rfl, rfl, rfl, (by first | rfl | exact ksub rfl (by first | omega | (simp; done) | (simp; omega))), trivial⟩ (fun _ s => s)
  · refine wp_ex (qs_x (qs_x (qs_bx (qs_n (wp_sc (wp_sq (sq_v rfl (v_move rfl) rfl (sq_v rfl (v_len Try.underlying71 rfl r.sl) rfl (sq_v rfl (v_assign rfl) rfl (sq_end (qs_n (wp_rt ?_))))))))))))
    exfalso; omega
/-- What a load turns: the operations' row, which registers are full, where tensors are. -/
def LdO (cs : List Value) (N : Nat) (F : List Bool) (A : List Int) (vo vF vA : Value) (h : PH) : Prop := ∃ h0 hf ha, RowO 81 cs N 5 vo h0 ∧ BoolsO F vF hf ∧ IntsO A vA ha ∧ Made h [h0, hf, ha]
set_option maxHeartbeats 2000000 in
theorem ct_s_l25Load (k N : Nat) (R y : Int) (cs : List Value) (F : List Bool) (A : List Int) (vo vF vA : Value) (w : World) (h : PH) (hle : PLe h (hp w)) (rs : LdO cs N F A vo vF vA h) (hk : k < F.length ∧ F.getD k false = false ∧ ∀ j, j < k → F.getD j false = true) (hy : 0 ≤ y ∧ y < A.length) (hN : N ≤ 100000) (hF : F.length ≤ 100) :
    Calls Try.prog 36 [codeV R vo, vF, vA, num y].toArray w (Ret w h (fun u h' => ∃ vo', u = codeV (max R ((k : Int) + 1)) vo' ∧ vo'.oneCell' = true ∧ LdO (cs ++ [num 1, num k, num y, num 0, .slice none 0 0]) (N + 1) (F.set k true) (A.set y.toNat k) vo' vF vA h')) := by
  obtain ⟨h0, hf, ha, ra, rg, rd, md⟩ := rs; have eg : (A.set y.toNat (k : Int)).getD y.toNat 0 = (k : Int) := by rw [getI_set (by omega), if_pos rfl]
  refine calls_in Try.func36 rfl Try.ntmps36 rfl (Sat.open (A := [restP w h]) md (Sat.start2 hle)) ?_; have hle1 := rg.toR.le; have hle2 := rd.toR.le; refine wp_sc (wp_sq ?_); refine sq_x rfl (x_box rfl rfl) rfl ?_; rintro _ _ ⟨b4, rfl, rfl⟩; refine sq_x rfl (x_alloc ty_33 rfl) rfl ?_; rintro _ _ ⟨b8, rfl, rfl⟩; refine sq_end (qs_n (wp_sc (wp_sq (sq_v rfl (v_move rfl) rfl (sq_v rfl (v_move rfl) rfl (sq_v rfl (v_move rfl) rfl (sq_u rfl (x_callv rfl en_37 (fun w s => ct_s_l25Free F k _ w (rg.toR.mono (s.get 4 rfl)) hk)) rfl ?_))))))); refine sq_v rfl (v_idxI Try.underlying25 ty_3 rfl rfl rd.toR (by first | omega | (simp; omega) | (simp only [List.length_append, List.length_cons, List.length_nil]; omega) | (rw [List.length_set]; omega)) (by first | omega | (simp; omega) | (simp only [List.length_append, List.length_cons, List.length_nil]; omega) | (rw [List.length_set]; omega))) rfl ?_; refine sq_m 5 rfl rfl (m_storeI 5 ty_3 rfl rfl rfl rd (by first | omega | (simp; omega) | (simp only [List.length_append, List.length_cons, List.length_nil]; omega) | (rw [List.length_set]; omega))) rfl ?_; rintro _ h_q1_5 ⟨rfl, q1_5⟩; refine sq_end (qs_n (wp_sc (wp_sq (sq_v rfl (v_move rfl) rfl (sq_v rfl (v_move rfl) rfl (sq_v rfl (v_move rfl) rfl ?_)))))); refine sq_v rfl (v_idxI Try.underlying25 ty_3 rfl rfl q1_5.toR (by first | omega | (simp; omega) | (simp only [List.length_append, List.length_cons, List.length_nil]; omega) | (rw [List.length_set]; omega)) (by first | omega | (simp; omega) | (simp only [List.length_append, List.length_cons, List.length_nil]; omega) | (rw [List.length_set]; omega))) rfl ?_; refine sq_v rfl (v_loadI  5 ty_3 rfl rfl q1_5.toR (by first | omega | (simp; omega) | (simp only [List.length_append, List.length_cons, List.length_nil]; omega) | (rw [List.length_set]; omega))) rfl ?_; rw [eg]; refine sq_v rfl (v_idxB Try.underlying71 ty_4 rfl rfl rg.toR (by first | omega | (simp; omega) | (simp only [List.length_append, List.length_cons, List.length_nil]; omega) | (rw [List.length_set]; omega)) (by first | omega | (simp; omega) | (simp only [List.length_append, List.length_cons, List.length_nil]; omega) | (rw [List.length_set]; omega))) rfl ?_; refine sq_m 4 rfl rfl (m_storeBl (k := k) 4 ty_4 rfl rfl rfl rg (by first | omega | (simp; omega) | (simp only [List.length_append, List.length_cons, List.length_nil]; omega) | (rw [List.length_set]; omega))) rfl ?_; rintro _ h_q2_6 ⟨rfl, q2_6⟩; refine sq_end (qs_n (wp_sc (wp_rj 9 [(0, true), (1, true), (2, true), (3, true), (4, true), (5, true), (6, true), (7, true), (8, true), (9, false)] mixed_ok (by kernel_rfl) (rj_v rfl rfl (v_fieldAddr fd_33_0 ty_3 (by decide) rfl) rfl (rj_v rfl rfl (v_loadB 1 ty_3 rfl rfl rfl) rfl (rj_v rfl rfl (v_move rfl) rfl (rj_v rfl rfl (v_move rfl) rfl ?_))))))); refine rj_v rfl rfl (v_idxI Try.underlying25 ty_3 rfl rfl q1_5.toR (by first | omega | (simp; omega) | (simp only [List.length_append, List.length_cons, List.length_nil]; omega) | (rw [List.length_set]; omega)) (by first | omega | (simp; omega) | (simp only [List.length_append, List.length_cons, List.length_nil]; omega) | (rw [List.length_set]; omega))) rfl ?_; refine rj_v rfl rfl (v_loadI  5 ty_3 rfl rfl q1_5.toR (by first | omega | (simp; omega) | (simp only [List.length_append, List.length_cons, List.length_nil]; omega) | (rw [List.length_set]; omega))) rfl ?_; rw [eg]; refine rj_v rfl rfl (v_add rfl rfl ((by unfold I64; omega))) rfl ?_; refine rj_v rfl rfl (v_max rfl rfl) rfl (rj_v rfl rfl (v_fieldAddr fd_33_0 ty_3 (by decide) rfl) rfl ?_); refine rj_m 1 rfl rfl rfl rfl (m_store1 1 ty_3 rfl rfl rfl rfl (Nat.le_of_ble_eq_true rfl)) rfl ?_; rintro _ _ ⟨rfl, rfl⟩; refine rj_end (qs_n (wp_sc (wp_rj 9 [(0, true), (1, true), (2, true), (3, true), (4, true), (5, true), (6, true), (7, true), (8, false), (9, false), (10, false), (11, false)] mixed_ok (by kernel_rfl) (rj_v rfl rfl (v_fieldAddr fd_33_1 ty_31 (by decide) rfl) rfl (rj_v rfl rfl (v_loadB 1 ty_31 rfl rfl rfl) rfl (rj_v rfl rfl (v_move rfl) rfl (rj_v rfl rfl (v_move rfl) rfl ?_))))))); refine rj_v rfl rfl (v_idxI Try.underlying25 ty_3 rfl rfl q1_5.toR (by first | omega | (simp; omega) | (simp only [List.length_append, List.length_cons, List.length_nil]; omega) | (rw [List.length_set]; omega)) (by first | omega | (simp; omega) | (simp only [List.length_append, List.length_cons, List.length_nil]; omega) | (rw [List.length_set]; omega))) rfl ?_
  refine rj_v rfl rfl (v_loadI  5 ty_3 rfl rfl q1_5.toR (by first | omega | (simp; omega) | (simp only [List.length_append, List.length_cons, List.length_nil]; omega) | (rw [List.length_set]; omega))) rfl ?_; refine rj_v rfl rfl (v_move rfl) rfl ?_; rw [eg]; refine rj_v rfl rfl (v_build [num 1, num (k), num y, num 0, .slice none 0 0] rfl (by kernel_rfl)) rfl ?_; refine rj_x rfl rfl (x_buildS [.agg [num 1, num (k), num y, num 0, .slice none 0 0].toArray] Try.underlying31 ty_81 (by decide) rfl rfl rfl (by decide) (by decide) (by intro v hv; simp at hv; subst hv; rfl)) rfl ?_; intro v37 h37 (r37 : RowO 81 [num 1, num (k), num y, num 0, .slice none 0 0] 1 5 v37 h37); refine rj_m 4 rfl rfl rfl rfl (m_append 4 0 Try.underlying31 ty_81 rfl rfl (by decide) rfl rfl rfl ra rfl r37.toR (by simp [one_int, one_sl]) (by unfold maxLen; omega) (by omega)) rfl ?_; intro v38 h_r38 (r38 : RowO 81 (cs ++ [num 1, num (k), num y, num 0, .slice none 0 0]) (N + 1) 5 v38 h_r38); refine rj_fv rfl rfl (v_fieldAddr fd_33_1 ty_31 (by decide) rfl) rfl ?_; refine rj_m 2 rfl rfl rfl rfl (m_store1 2 ty_31 rfl rfl r38.toR.sl.one rfl (Nat.le_of_ble_eq_true rfl)) rfl ?_; rintro _ _ ⟨rfl, rfl⟩; refine rj_end (qs_n (wp_sc (wp_sq (sq_v rfl (v_loadNB 2 ty_33 rfl rfl rfl rfl) rfl ?_)))); refine sq_m 1 rfl rfl (m_store 1 ty_33 rfl rfl rfl rfl (by simp [one_int, r38.toR.sl.one]) rfl (Nat.le_of_ble_eq_true rfl)) rfl ?_; rintro _ _ ⟨rfl, rfl⟩; refine sq_end (qs_n (wp_rt ?_)); refine qs_close [box b8 _ _, restP w h] [h_r38, h_q2_6, h_q1_5] (fun _ s => s.pick [1, 3, 4, 5, 6] (by decide) rfl) (fun md' => ?_); exact qs_retc 1 rfl ty_33 rfl rfl rfl (fin_m (i := 2) 0 rfl rfl rfl ⟨v38, rfl, r38.toR.sl.one, h_r38, h_q2_6, h_q1_5, r38, q2_6, q1_5, md'⟩)
def stJ (m : Nat) (s : Cpl) (x : Stp) (j : Nat) : Cpl := if j = 0 then s else if j = 1 then s.load m x.a else (s.load m x.a).load m x.b
theorem stJ_next {m : Nat} {s : Cpl} {x : Stp} {j : Nat} (hj : j < 2) : stJ m s x (j + 1) = (stJ m s x j).load m ([x.a, x.b].getD j 0) := by
  match j, hj with
  | 0, _ => rfl
  | 1, _ => rfl
theorem stJ_mid {m i : Nat} {ix : List Nat} {s : Cpl} {x : Stp} (c : CStep m i ix s x) {j : Nat} (hj : j < 2) : (∃ q, q < (stJ m s x j).C.length ∧ (stJ m s x j).C.getD q 0 < 0) ∧ ([x.a, x.b].getD j 0 < m → ∀ q, q < (stJ m s x j).C.length → (stJ m s x j).C.getD q 0 ≠ [x.a, x.b].getD j 0) := by
  match j, hj with
  | 0, _ => exact ⟨c.e0, c.no1⟩
  | 1, _ => exact ⟨c.e1, c.no2⟩
theorem stJ_y {x : Stp} {j : Nat} (hj : j < 2) {P : Int → Prop} (ha : P x.a) (hb : P x.b) : P ([x.a, x.b].getD j 0) := by
  match j, hj with
  | 0, _ => exact ha
  | 1, _ => exact hb
theorem fa_step {m L i : Nat} {ix : List Nat} {s : Cpl} {x : Stp} {F : List Bool} {A : List Int} {K : List Int} (h : FA m L ((s.load m x.a).load m x.b).C F A) (c : CStep m i ix s x) (hm : m ≤ 12) (hix : ∀ y ∈ ix, y < m + i) (hL : m + i < L) (ha : 0 ≤ x.a) (hb : 0 ≤ x.b) :
    (A.set ((m : Int) + i).toNat (lowE ((s.load m x.a).load m x.b).C : Int)).getD x.a.toNat 0 = (s.at m x.a : Int) ∧
    (A.set ((m : Int) + i).toNat (lowE ((s.load m x.a).load m x.b).C : Int)).getD x.b.toNat 0 = ((s.load m x.a).at m x.b : Int) ∧
    FA m L (s.step m K i x).C (((F.set (lowE ((s.load m x.a).load m x.b).C) true).set (s.at m x.a) false).set ((s.load m x.a).at m x.b) false) (A.set ((m : Int) + i).toNat (lowE ((s.load m x.a).load m x.b).C : Int)) := by
  have hcl := h.cl; have hno : ∀ j, j < ((s.load m x.a).load m x.b).C.length → ((s.load m x.a).load m x.b).C.getD j 0 ≠ (m : Int) + i := fun j hj e => by
    have h1 := hix _ (c.j2.live j hj (by omega))
    omega
  have h3 := h.put (y := (m : Int) + i) hm c.e2 ⟨by omega, by omega⟩ hno; have hk := c.gk; have ga := c.ga; have gb := c.gb; have hg : ∀ j, (((s.load m x.a).load m x.b).C.set (lowE ((s.load m x.a).load m x.b).C) ((m : Int) + i)).getD j 0 = if j = lowE ((s.load m x.a).load m x.b).C then (m : Int) + i else ((s.load m x.a).load m x.b).C.getD j 0 := fun j => getI_set (by omega)
  have n1 : s.at m x.a ≠ lowE ((s.load m x.a).load m x.b).C := fun e => by have h1 := ga.2.1; rw [e] at h1; omega
  have n2 : (s.load m x.a).at m x.b ≠ lowE ((s.load m x.a).load m x.b).C := fun e => by have h1 := gb.2; rw [e] at h1; omega
  have g1 := hg (s.at m x.a); have g2 := hg ((s.load m x.a).at m x.b); rw [if_neg n1, ga.2.1] at g1; rw [if_neg n2, gb.2] at g2; have a1 := h3.a (s.at m x.a) (by rw [List.length_set]; omega) (by rw [g1]; exact ha); have a2 := h3.a ((s.load m x.a).at m x.b) (by rw [List.length_set]; omega) (by rw [g2]; exact hb); rw [g1] at a1; rw [g2] at a2; refine ⟨a1, a2, ?_⟩; exact (h3.clear hm (a := s.at m x.a) (by rw [List.length_set]; omega)).clear hm (a := (s.load m x.a).at m x.b) (by rw [List.length_set, List.length_set]; omega)
section
variable {k p n : Int} {ts : List Ten} {op : List Int} {ss : List Stp}
theorem coB_true : coB k p n ts op ss = true ↔ coP k p n ts op ss := by simp [coB]
theorem coB_no (h : ¬ coP k p n ts op ss) : coB k p n ts op ss = false := by simp [coB, h]
theorem OpsO.none : OpsO [] (.slice none 0 0) emp := ⟨[], emp, [], RowO.nil, OpL.nil, ⟨⟨fun x hx => (List.not_mem_nil hx).elim, trivial⟩, fun x hx => by rw [List.mem_singleton.1 hx]; exact PLe.refl _, fun k o e => by cases e⟩⟩
theorem CoNo (h : ¬ coP k p n ts op ss) : CodeB (coR k p n ts op ss) (coOs k p n ts op ss) (coB k p n ts op ss) (.tuple [codeV 0 (.slice none 0 0), .bool false].toArray) emp := by
  unfold coR coOs
  rw [coB_no h]; exact ⟨_, rfl, OpsO.none⟩
theorem CoYes {v : Value} {g : PH} (h : coP k p n ts op ss) (r : OpsO (cplOs ts op ss) v g) : CodeB (coR k p n ts op ss) (coOs k p n ts op ss) (coB k p n ts op ss) (.tuple [codeV (cplL ts op ss).R v, .bool true].toArray) g := by
  unfold coR coOs
  rw [coB_true.2 h]; exact ⟨_, rfl, r⟩
theorem cpl_os : ∀ i, (cplTo ts op ss i).os.length ≤ 3 * i
  | 0 => Nat.le_refl _
  | i + 1 => by
    have ih := cpl_os i; have hl : ∀ (m : Nat) (s : Cpl) (y : Int), (s.load m y).os.length ≤ s.os.length + 1 := fun m s y => by
      by_cases c : y < m
      · rw [(load_yes c).1]; simp
      · rw [(load_no c).1]; omega
    have h1 := hl ts.length (cplTo ts op ss i) (stpAt ss i).a; have h2 := hl ts.length ((cplTo ts op ss i).load ts.length (stpAt ss i).a) (stpAt ss i).b; rw [show cplTo ts op ss (i + 1) = (cplTo ts op ss i).step ts.length (cpK ts op ss i) i (stpAt ss i) from rfl]; simp only [Cpl.step, List.length_append, List.length_cons, List.length_nil]
    omega
theorem cplL_nil {i : Nat} (h : ss.length = 0) (hm : 1 ≤ ts.length) (hi : i = 0) : cplL ts op ss = ⟨(cplTo ts op ss i).C.set (lowE (cplTo ts op ss i).C) 0, max (cplTo ts op ss i).R ((lowE (cplTo ts op ss i).C : Int) + 1), (cplTo ts op ss i).os ++ [⟨1, lowE (cplTo ts op ss i).C, 0, 0, []⟩], lowE (cplTo ts op ss i).C⟩ := by
  subst hi; have e : ss = [] := List.eq_nil_of_length_eq_zero h
  unfold cplL
  rw [if_pos e, (load_yes (s := cplTo ts op ss 0) (show (0 : Int) < ts.length by omega)).1]
theorem cplL_cons {i : Nat} (hi : i = ss.length) (h : 0 < ss.length) : cplL ts op ss = cplTo ts op ss i := by
  subst hi
  unfold cplL
  rw [if_neg (fun e => by rw [e] at h; simp at h)]
end
end Go.Proofs.Ythlmjnihihbckaa
namespace Go.Proofs.Ythlmjnihihbckaa
set_option maxRecDepth 100000
open Go.RowKit
section
variable {P : Program} {n : Nat} {w0 : World} {K : Env} {HS : List PH} {Q : Exit → Act → World → Prop} {ops : Array Oper} {rest : List Oper}
theorem sq_close (A l : List PH) (h : ∀ w, Sat w0 HS w → Sat w0 (A ++ l) w) (k : Made (joinP l) l → SQ P n w0 ops rest Q K (joinP l :: A)) : SQ P n w0 ops rest Q K HS := fun a w e s => k (Sat.close (h w s)).2 a w e (Sat.close (h w s)).1
end
set_option maxHeartbeats 8000000 in
theorem ct_s_CompileOrder (k p n : Int) (ts : List Ten) (op : List Int) (ss : List Stp) (vt vo v : Value) (w : World) (r : TensR ts vt (hp w)) (r' : IntsR op vo (hp w)) (rv : StepsR ss v (hp w)) (hs : op.length ≤ 1048576) (hss : ss.length ≤ 1048576) :
    Calls Try.prog 8 [netV k p n vt vo, v].toArray w (Ret w emp (CodeB (coR k p n ts op ss) (coOs k p n ts op ss) (coB k p n ts op ss))) := by
  refine calls_in Try.func8 rfl Try.ntmps8 rfl (Sat.start w) ?_; have hle0 := r.le; obtain ⟨cs_r, rr_r, hc_r⟩ := r.at; have hle1 := r'.le; have hle2 := rv.le; obtain ⟨cs_rv, rr_rv, hc_rv⟩ := rv.at; refine wp_sc (wp_sq ?_); refine sq_x rfl (x_box rfl rfl) rfl ?_; rintro _ _ ⟨b2, rfl, rfl⟩; refine sq_x rfl (x_alloc ty_33 rfl) rfl ?_; rintro _ _ ⟨b4, rfl, rfl⟩; refine sq_v rfl (v_assign rfl) rfl (sq_end (qs_n (wp_sc (wp_sq (sq_v rfl (v_fieldAddr fd_39_1 ty_37 (by decide) rfl) rfl (sq_v rfl (v_loadB 1 ty_37 rfl rfl rfl) rfl (sq_v rfl (v_len Try.underlying37 rfl r.sl) rfl (sq_v rfl (v_assign rfl) rfl (sq_end (qs_n (wp_sc (wp_sc (wp_sq (sq_v rfl (v_loadNB 1 ty_39 rfl rfl rfl rfl) rfl (sq_v rfl (v_move rfl) rfl (sq_u rfl (x_callv rfl en_34 (fun w s => ct_s_OrderOk _ _ _ _ _ _ _ _ _ w (r.mono (s.get 2 rfl)) (r'.mono (s.get 2 rfl)) (rv.mono (s.get 2 rfl)) (by first | assumption | omega) (by first | assumption | omega))) rfl ?_)))))))))))))))); refine sq_bb 22 rfl (fun c22 => ?_) (fun c22 => ?_)
  · refine sq_v rfl (v_not rfl) rfl (sq_v rfl (v_move rfl) rfl (sq_v rfl (v_move rfl) rfl (sq_v rfl (v_eql rfl rfl) rfl (sq_v rfl (v_pickf rfl rfl) rfl (sq_end (qs_n ?_)))))); refine wp_cd rfl (fun c27 => ?_) (fun c27 => ?_)
    · refine wp_sc (wp_sq (sq_v rfl (v_build [num 0, .slice none 0 0] rfl (by kernel_rfl)) rfl ?_)); refine sq_m 0 rfl rfl (m_store 0 ty_33 rfl rfl rfl rfl (by simp [one_int, one_sl]) rfl (Nat.le_of_ble_eq_true rfl)) rfl ?_; rintro _ _ ⟨rfl, rfl⟩; refine sq_v rfl (v_assign rfl) rfl (sq_end (qs_n (wp_rt (qs_r ?_)))); exact qs_retct 0 rfl ty_33 rfl rfl rfl rfl (fin_e (i := 2) rfl (CoNo (fun h => by first | exact orderB_false.1 c22 h.1 | exact h.2.1 (List.eq_nil_of_length_eq_zero (by omega)))))
    · refine wp_sk (qs_n (wp_sc (wp_sq (sq_v rfl (v_loadNB 1 ty_39 rfl rfl rfl rfl) rfl (sq_v rfl (v_move rfl) rfl ?_))))); have hord := orderB_true.1 c22; have hnet := hord.1; have h12 := hnet.2.1; have hst0 := few_steps (net_axes hnet) hord.2.2; have hsl := hord.2.1; refine sq_x rfl (x_call rfl en_35 (fun w s => ct_s_l17Run (dimOf ts) _ _ _ _ _ _ _ _ _ w _ (s.get 2 rfl) r (r'.mono (s.get 2 rfl)) (rv.mono (s.get 2 rfl)) (net_dmap hnet) (by omega) (by omega) (sh0_fine (net_axes hnet)) (net_fit hnet) hord.2.2 (by first | assumption | omega))) rfl ?_; rintro _ h32 ⟨bb, vc, g1, g2, rfl, hsp, rc, md⟩; refine sq_v rfl (v_move rfl) rfl (sq_v rfl (v_extract rfl rfl) rfl (sq_v rfl (v_extract rfl rfl) rfl (sq_v rfl (v_assign rfl) rfl (sq_v rfl (v_assign rfl) rfl (sq_end ?_))))); refine qs_dj 0 3 rfl rfl rfl (fun hdj0 => ?_); obtain ⟨va0, vg0, hsr⟩ := hsp.toR (H := PUn h32 (hp w)) ((md.le g1 (by simp)).trans (PLe.un_l h32 (hp w))) (PLe.un_r hdj0); refine qs_s [PUn h32 (hp w), box b4 [num 0, .slice none 0 0] 33, box b2 [num k, num p, num n, vt, vo] 39] (fun _ s => Sat.merge (s.pick [0, 3, 1, 2] (by decide) rfl)) ?_
      skip; obtain ⟨cs_hsr_all, rr_hsr_all, hc_hsr_all⟩ := hsr.all.at; obtain ⟨cs__rv_mono__PLe_un_r_hdj0__, rr__rv_mono__PLe_un_r_hdj0__, hc__rv_mono__PLe_un_r_hdj0__⟩ := (rv.mono (PLe.un_r hdj0)).at
      refine qs_n (wp_sc (wp_sq (sq_v rfl (v_build [num 1, .slice none 0 0] rfl (by kernel_rfl)) rfl ?_))); refine sq_x rfl (x_alloc ty_33 rfl) rfl ?_; rintro _ _ ⟨b9, rfl, rfl⟩; refine sq_m 0 rfl rfl (m_store 0 ty_33 rfl rfl rfl rfl (by simp [one_int, one_sl]) rfl (Nat.le_of_ble_eq_true rfl)) rfl ?_; rintro _ _ ⟨rfl, rfl⟩; refine sq_end (qs_n (wp_sc (wp_sq ?_))); refine sq_x rfl (x_makeBl Try.underlying71 ty_4 rfl rfl (by first | omega | (simp; omega) | (simp only [List.length_append, List.length_cons, List.length_nil]; omega) | (rw [List.length_set]; omega)) (by first | omega | (simp; omega) | (simp only [List.length_append, List.length_cons, List.length_nil]; omega) | (rw [List.length_set]; omega)) (by first | omega | (simp; omega) | (simp only [List.length_append, List.length_cons, List.length_nil]; omega) | (rw [List.length_set]; omega))) rfl ?_; intro v36 h36 r36; refine sq_v rfl (v_assign rfl) rfl (sq_end (qs_n (wp_sc (wp_sq (sq_v rfl (v_move rfl) rfl (sq_v rfl (v_move rfl) rfl (sq_v rfl (v_len Try.underlying41 rfl (rv.mono (PLe.un_r hdj0)).sl) rfl ?_))))))); refine sq_v rfl (v_add rfl rfl ((by unfold I64; omega))) rfl ?_; refine sq_x rfl (x_makeI Try.underlying25 ty_3 rfl rfl (by first | omega | (simp; omega) | (simp only [List.length_append, List.length_cons, List.length_nil]; omega) | (rw [List.length_set]; omega)) (by first | omega | (simp; omega) | (simp only [List.length_append, List.length_cons, List.length_nil]; omega) | (rw [List.length_set]; omega)) (by first | omega | (simp; omega) | (simp only [List.length_append, List.length_cons, List.length_nil]; omega) | (rw [List.length_set]; omega))) rfl ?_; intro v41 h41 r41; refine sq_v rfl (v_assign rfl) rfl (sq_end (qs_n (wp_sc (wp_sc (wp_sq (sq_v rfl (v_move rfl) rfl (sq_v rfl (v_len Try.underlying41 rfl (rv.mono (PLe.un_r hdj0)).sl) rfl (sq_v rfl (v_move rfl) rfl (sq_end ?_))))))))); have hm1 : 1 ≤ ts.length := by omega
      refine qs_n (wp_bl ?_); refine wp_lp (σ := Nat × Value × PH × (List Value) × PH × PH × PH × (List Bool) × (List Int)) (fun z_ => [(4, .pointer (some ⟨b4, 0, none⟩)), (5, .bool false), (6, num ts.length), (7, .pointer (some ⟨bb, 0, none⟩)), (9, .pointer (some ⟨b9, 0, none⟩)), (10, v36), (11, v41), (33, ptrV bb), (42, v), (43, num ss.length), (44, num z_.1)]) (fun z_ => [z_.2.2.2.2.1, z_.2.2.1, z_.2.2.2.2.2.2.1, z_.2.2.2.2.2.1, box b9 [num (cplTo ts op ss z_.1).R, z_.2.1] 33, (PUn h32 (hp w)), box b4 [num 0, .slice none 0 0] 33, box b2 [num k, num p, num n, vt, vo] 39]) (fun z_ => z_.1 ≤ ss.length ∧ OpH (cplTo ts op ss z_.1).os z_.2.2.2.1 z_.2.2.2.2.1 ∧ FA ts.length (ts.length + ss.length) (cplTo ts op ss z_.1).C z_.2.2.2.2.2.2.2.1 z_.2.2.2.2.2.2.2.2 ∧ ((0 < z_.1 → z_.2.2.2.2.2.2.2.2.getD (ts.length + z_.1 - 1) 0 = (cplTo ts op ss z_.1).l)) ∧ RowO (81) z_.2.2.2.1 ((cplTo ts op ss z_.1).os.length) 5 z_.2.1 z_.2.2.1 ∧ BoolsO z_.2.2.2.2.2.2.2.1 v36 z_.2.2.2.2.2.1 ∧ IntsO z_.2.2.2.2.2.2.2.2 v41 z_.2.2.2.2.2.2.1) (fun z_ => ss.length - z_.1) (0, .slice none 0 0, emp, [], emp, h36, h41, (List.replicate 26 false), (List.replicate (ts.length + ss.length) 0)) (⟨by (try dsimp only); omega, OpH.nil, FA.start _ _, (fun h => by omega), RowO.nil, r36, (by have e : ((ts.length : Int) + (ss.length : Int)).toNat = ts.length + ss.length := (by omega); rw [e] at r41; exact r41)⟩) ⟨rfl, rfl, rfl, rfl, rfl, rfl, rfl, rfl, rfl, rfl, (by first | rfl | exact ksub rfl (by first | omega | (simp; done) | (simp; omega))), trivial⟩ (fun _ s => (emp_sat (emp_sat s))) ?_; rintro ⟨i, vu, ho, cs, hl, hF, hA, F, A⟩ ⟨hi, hlv, hfa, hla, rr, qF, qA⟩; dsimp only at hi hlv hfa hla rr qF qA ⊢; have hle_qF := qF.toR.le; have hle_qA := qA.toR.le; have hos := cpl_os (ts := ts) (op := op) (ss := ss) i; have hcl := hfa.cl; have hfl := hfa.fl; have hal := hfa.al; refine wp_sc (wp_sq (sq_v rfl (v_lss rfl rfl) rfl (sq_end (qs_n (wp_sc ?_))))); refine wp_cd rfl (fun c45 => ?_) (fun c45 => ?_)
      · refine wp_sk (qs_n (wp_sc (wp_bl (wp_sc (wp_sq (sq_v rfl (v_move rfl) rfl ?_)))))); obtain ⟨x47, hx47, hcs47⟩ := hc__rv_mono__PLe_un_r_hdj0__ (i) (by first | omega | (rw [List.length_set]; omega)); refine sq_v rfl (v_indexAddr Try.underlying41 ty_73 rfl rfl rr__rv_mono__PLe_un_r_hdj0__ (by decide) (by omega) (by first | omega | (rw [List.length_set]; omega))) rfl ?_; refine sq_v rfl (v_loadNE 5 ty_73 rfl rfl rr__rv_mono__PLe_un_r_hdj0__ (by have := rr__rv_mono__PLe_un_r_hdj0__.1; omega) rfl hcs47) rfl ?_; refine sq_x rfl (x_alloc ty_73 rfl) rfl ?_; rintro _ _ ⟨b13, rfl, rfl⟩; refine sq_v rfl (v_assign rfl) rfl ?_; refine sq_m 0 rfl rfl (m_store 0 ty_73 rfl rfl rfl rfl (by simp [Value.oneCell']) rfl (Nat.le_of_ble_eq_true rfl)) rfl ?_; rintro _ _ ⟨rfl, rfl⟩; refine sq_end ?_; have hxs : stpAt ss i = x47 := stpAt_of hx47; obtain ⟨hc, hxa, hxb0, hxb⟩ := cpl_mid hord hm1 (i := i) (by omega); rw [hxs] at hc hxa hxb0 hxb; refine qs_n (wp_sc (wp_sc (wp_sq (sq_v rfl (v_fieldAddr fd_73_0 ty_3 (by decide) rfl) rfl (sq_v rfl (v_loadB 0 ty_3 rfl rfl rfl) rfl (sq_v rfl (v_fieldAddr fd_73_1 ty_3 (by decide) rfl) rfl (sq_v rfl (v_loadB 0 ty_3 rfl rfl rfl) rfl ?_))))))); refine sq_x rfl (x_buildS [num (x47.a), num (x47.b)] Try.underlying25 ty_3 (by decide) rfl rfl rfl (by decide) (by decide) (by intro v hv; simp at hv; rcases hv with rfl | rfl <;> rfl)) rfl ?_; intro v53 h53 (r53 : IntsO [x47.a, x47.b] v53 h53); refine sq_v rfl (v_len Try.underlying25 rfl r53.toR.sl) rfl (sq_v rfl (v_move rfl) rfl (sq_end (qs_n (wp_bl ?_)))); refine wp_lp (σ := Nat × Value × PH × (List Value) × PH × PH × (List Bool) × (List Int)) (fun z_ => [(4, .pointer (some ⟨b4, 0, none⟩)), (5, .bool false), (6, num ts.length), (7, .pointer (some ⟨bb, 0, none⟩)), (9, .pointer (some ⟨b9, 0, none⟩)), (10, v36), (11, v41), (12, num i), (13, .pointer (some ⟨b13, 0, none⟩)), (33, ptrV bb), (42, v), (43, num ss.length), (44, num i), (45, .bool (decide ((i : Int) < ss.length))), (46, num i), (48, .agg [num x47.a, num x47.b].toArray), (49, .pointer (some ⟨b13, 0, none⟩)), (50, num x47.a), (51, .pointer (some ⟨b13, 1, none⟩)), (52, num x47.b), (53, v53), (54, num [x47.a, x47.b].length), (55, num z_.1)]) (fun z_ => [h53, box b13 [num x47.a, num x47.b] 73, hl, z_.2.2.1, z_.2.2.2.2.2.1, z_.2.2.2.2.1, box b9 [num (stJ ts.length (cplTo ts op ss i) x47 z_.1).R, z_.2.1] 33, (PUn h32 (hp w)), box b4 [num 0, .slice none 0 0] 33, box b2 [num k, num p, num n, vt, vo] 39]) (fun z_ => z_.1 ≤ 2 ∧ OpH (stJ ts.length (cplTo ts op ss i) x47 z_.1).os z_.2.2.2.1 hl ∧ FA ts.length (ts.length + ss.length) (stJ ts.length (cplTo ts op ss i) x47 z_.1).C z_.2.2.2.2.2.2.1 z_.2.2.2.2.2.2.2 ∧ (stJ ts.length (cplTo ts op ss i) x47 z_.1).os.length ≤ 3 * i + z_.1 ∧ RowO (81) z_.2.2.2.1 ((stJ ts.length (cplTo ts op ss i) x47 z_.1).os.length) 5 z_.2.1 z_.2.2.1 ∧ BoolsO z_.2.2.2.2.2.2.1 v36 z_.2.2.2.2.1 ∧ IntsO z_.2.2.2.2.2.2.2 v41 z_.2.2.2.2.2.1) (fun z_ => 2 - z_.1) (0, vu, ho, cs, hF, hA, F, A) (⟨by (try dsimp only); omega, hlv, hfa, by (try dsimp only); exact hos, rr, qF, qA⟩) ⟨rfl, rfl, rfl, rfl, rfl, rfl, rfl, rfl, rfl, rfl, rfl, rfl, rfl, rfl, rfl, rfl, rfl, rfl, rfl, rfl, rfl, rfl, (by first | rfl | exact ksub rfl (by first | omega | (simp; done) | (simp; omega))), trivial⟩ (fun _ s => s) ?_; rintro ⟨j, vu, ho, cs, hF, hA, F, A⟩ ⟨hj, hlv2, hfa2, hol2, rr, qF, qA⟩; dsimp only at hj hlv2 hfa2 hol2 rr qF qA ⊢; have hle_qF := qF.toR.le; have hle_qA := qA.toR.le; have hyl : [x47.a, x47.b].length = 2 := rfl; have hcl2 := hfa2.cl; have hfl2 := hfa2.fl; have hal2 := hfa2.al; refine wp_sc (wp_sq (sq_v rfl (v_lss rfl rfl) rfl (sq_end (qs_n (wp_sc ?_))))); refine wp_cd rfl (fun c56 => ?_) (fun c56 => ?_)
        · refine wp_sk (qs_n (wp_sc (wp_bl (wp_sc (wp_sq ?_))))); refine sq_v rfl (v_idxI Try.underlying25 ty_3 rfl rfl r53.toR (by first | omega | (simp; omega) | (simp only [List.length_append, List.length_cons, List.length_nil]; omega) | (rw [List.length_set]; omega)) (by first | omega | (simp; omega) | (simp only [List.length_append, List.length_cons, List.length_nil]; omega) | (rw [List.length_set]; omega))) rfl ?_; refine sq_v rfl (v_loadI (k := j) 0 ty_3 rfl rfl r53.toR (by first | omega | (simp; omega) | (simp only [List.length_append, List.length_cons, List.length_nil]; omega) | (rw [List.length_set]; omega))) rfl ?_; refine sq_v rfl (v_assign rfl) rfl (sq_end (qs_n (wp_sc (wp_sq (sq_v rfl (v_move rfl) rfl (sq_v rfl (v_move rfl) rfl (sq_v rfl (v_lss rfl rfl) rfl (sq_end (qs_n ?_))))))))); refine wp_cd rfl (fun c61 => ?_) (fun c61 => ?_)
          · refine wp_sq ?_; have hjj : j < 2 := (by omega); obtain ⟨he, hno⟩ := stJ_mid hc hjj; have hlw := lowE_at he; have hlo := hfa2.low he; have hyb : 0 ≤ ([x47.a, x47.b].getD j 0) ∧ ([x47.a, x47.b].getD j 0) < ts.length + i := stJ_y (P := fun z => 0 ≤ z ∧ z < (ts.length : Int) + i) hjj hxa ⟨hxb0, hxb⟩; refine sq_v rfl (v_loadNB 6 ty_33 rfl rfl rfl rfl) rfl (sq_v rfl (v_move rfl) rfl (sq_v rfl (v_move rfl) rfl ?_)); refine sq_close [_, _, _, _, _, _, _] [ho, hF, hA] (fun _ s => s.pick [0, 1, 2, 6, 7, 8, 9, 3, 5, 4] (by decide) rfl) (fun md => ?_); refine sq_v rfl (v_move rfl) rfl ?_; refine sq_m 0 rfl rfl (x_call rfl en_36 (fun w s => ct_s_l25Load (lowE (stJ ts.length (cplTo ts op ss i) x47 j).C) _ _ _ cs F A vu v36 v41 w _ (s.get 0 rfl) ⟨ho, hF, hA, rr, qF, qA, md⟩ ⟨by omega, hlo.1, hlo.2⟩ (by omega) (by omega) (by omega))) rfl ?_; rintro _ h66 ⟨vu2, rfl, hone2, hld2⟩; refine sq_m 4 rfl rfl (m_store 4 ty_33 rfl rfl rfl rfl (by simp [one_int, hone2]) rfl (Nat.le_of_ble_eq_true rfl)) rfl ?_; rintro _ _ ⟨rfl, rfl⟩; refine sq_end ?_; obtain ⟨row, t36, t41, rr2, rF2, rA2, md2⟩ := hld2; refine qs_s [h53, box b13 [num x47.a, num x47.b] 73, hl, box b9 [num (max (stJ ts.length (cplTo ts op ss i) x47 j).R ((lowE (stJ ts.length (cplTo ts op ss i) x47 j).C : Int) + 1)), vu2] 33, (PUn h32 (hp w)), box b4 [num 0, .slice none 0 0] 33, box b2 [num k, num p, num n, vt, vo] 39, row, t36, t41] (fun _ s => Sat.open (A := [h53, box b13 [num x47.a, num x47.b] 73, hl, box b9 [num (max (stJ ts.length (cplTo ts op ss i) x47 j).R ((lowE (stJ ts.length (cplTo ts op ss i) x47 j).C : Int) + 1)), vu2] 33, (PUn h32 (hp w)), box b4 [num 0, .slice none 0 0] 33, box b2 [num k, num p, num n, vt, vo] 39]) md2 (s.pick [0, 1, 2, 3, 4, 5, 6, 7] (by decide) rfl)) (qs_bn (qs_n (wp_sq ?_))); refine sq_v rfl (v_add rfl rfl ((by unfold I64; omega))) rfl ?_; refine sq_v rfl (v_move rfl) rfl (sq_end ?_); have eN : stJ ts.length (cplTo ts op ss i) x47 (j + 1) = ⟨(stJ ts.length (cplTo ts op ss i) x47 j).C.set (lowE (stJ ts.length (cplTo ts op ss i) x47 j).C) ([x47.a, x47.b].getD j 0), max (stJ ts.length (cplTo ts op ss i) x47 j).R ((lowE (stJ ts.length (cplTo ts op ss i) x47 j).C : Int) + 1), (stJ ts.length (cplTo ts op ss i) x47 j).os ++ [⟨1, lowE (stJ ts.length (cplTo ts op ss i) x47 j).C, ([x47.a, x47.b].getD j 0), 0, []⟩], (stJ ts.length (cplTo ts op ss i) x47 j).l⟩ := by rw [stJ_next hjj]; exact (load_yes c61).1
            have eR : max (stJ ts.length (cplTo ts op ss i) x47 j).R ((lowE (stJ ts.length (cplTo ts op ss i) x47 j).C : Int) + 1) = (stJ ts.length (cplTo ts op ss i) x47 (j + 1)).R := by rw [eN]
            rw [eR]; exact qs_bk (j + 1, vu2, row, _, t36, t41, _, _) ⟨by (try dsimp only); omega, by (try dsimp only); rw [eN]; exact hlv2.add0, by (try dsimp only); rw [eN]; exact hfa2.put h12 he ⟨by omega, by omega⟩ (hno c61), by (try dsimp only); rw [eN]; simp only [List.length_append, List.length_cons, List.length_nil]; omega, by (try dsimp only); rw [eN]; simp only [List.length_append, List.length_cons, List.length_nil]; exact rr2, rF2, rA2⟩ (by simp only; omega) ⟨rfl, rfl, rfl, rfl, rfl, rfl, rfl, rfl, rfl, rfl, rfl, rfl, rfl, rfl, rfl, rfl, rfl, rfl, rfl, rfl, rfl, rfl, (by first | rfl | exact ksub rfl (by first | omega | (simp; done) | (simp; omega))), trivial⟩ (fun _ s => s.pick [0, 1, 2, 7, 9, 8, 3, 4, 5, 6] (by decide) rfl)
          · refine wp_sk (qs_bn (qs_n (wp_sq ?_))); refine sq_v rfl (v_add rfl rfl ((by unfold I64; omega))) rfl ?_; refine sq_v rfl (v_move rfl) rfl (sq_end ?_); have eN : stJ ts.length (cplTo ts op ss i) x47 (j + 1) = (stJ ts.length (cplTo ts op ss i) x47 j) := by rw [stJ_next (by omega)]; exact (load_no c61).1
            rw [← eN]; exact qs_bk (j + 1, vu, ho, cs, hF, hA, F, A) ⟨by (try dsimp only); omega, by (try dsimp only); rw [eN]; exact hlv2, by (try dsimp only); rw [eN]; exact hfa2, by (try dsimp only); rw [eN]; omega, by (try dsimp only); rw [eN]; exact rr, qF, qA⟩ (by simp only; omega) ⟨rfl, rfl, rfl, rfl, rfl, rfl, rfl, rfl, rfl, rfl, rfl, rfl, rfl, rfl, rfl, rfl, rfl, rfl, rfl, rfl, rfl, rfl, (by first | rfl | exact ksub rfl (by first | omega | (simp; done) | (simp; omega))), trivial⟩ (fun _ s => s)
        · refine wp_ex (qs_x (qs_x (qs_bx (qs_n (wp_sc (wp_sq ?_)))))); have ej : j = 2 := (by omega); have eS : (stJ ts.length (cplTo ts op ss i) x47 j) = (((cplTo ts op ss i).load ts.length x47.a).load ts.length x47.b) := (by rw [ej]; rfl); rw [eS] at hfa2 hlv2 hol2 rr; rw [eS]; have hlk := lowE_at hc.e2; have hc2 := hfa2.cl; have hlo2 := hfa2.low hc.e2; have hga := hc.ga.1; have hgb := hc.gb.1; have hsx : ∀ y ∈ (runS ts op ss i).ixs, y < ts.length + i := (fun y hy => by have := (mem_ixs.1 hy).1; rw [run_all hi] at this; exact this); obtain ⟨ea, eb, hfa3⟩ := fa_step (K := cpK ts op ss i) hfa2 hc h12 hsx (by omega) hxa.1 hxb0; have ea' : (A.set (ts.length + i) (lowE (((cplTo ts op ss i).load ts.length x47.a).load ts.length x47.b).C : Int)).getD x47.a.toNat 0 = ((cplTo ts op ss i).at ts.length x47.a) := ea; have eb' : (A.set (ts.length + i) (lowE (((cplTo ts op ss i).load ts.length x47.a).load ts.length x47.b).C : Int)).getD x47.b.toNat 0 = (((cplTo ts op ss i).load ts.length x47.a).at ts.length x47.b) := eb; refine sq_v rfl (v_move rfl) rfl (sq_u rfl (x_callv rfl en_37 (fun w s => ct_s_l25Free F (lowE (((cplTo ts op ss i).load ts.length x47.a).load ts.length x47.b).C) _ w (qF.toR.mono (s.get 5 rfl)) ⟨by omega, hlo2.1, hlo2.2⟩)) rfl (sq_v rfl (v_assign rfl) rfl (sq_end (qs_n (wp_sc (wp_sq (sq_v rfl (v_move rfl) rfl (sq_v rfl (v_move rfl) rfl (sq_v rfl (v_move rfl) rfl ?_))))))))); refine sq_v rfl (v_add rfl rfl ((by unfold I64; omega))) rfl ?_; refine sq_v rfl (v_move rfl) rfl ?_; refine sq_v rfl (v_idxI Try.underlying25 ty_3 rfl rfl qA.toR (by first | omega | (simp; omega) | (simp only [List.length_append, List.length_cons, List.length_nil]; omega) | (rw [List.length_set]; omega)) (by first | omega | (simp; omega) | (simp only [List.length_append, List.length_cons, List.length_nil]; omega) | (rw [List.length_set]; omega))) rfl ?_; refine sq_m 4 rfl rfl (m_storeI (k := (ts.length + i)) 4 ty_3 rfl rfl rfl qA (by first | omega | (simp; omega) | (simp only [List.length_append, List.length_cons, List.length_nil]; omega) | (rw [List.length_set]; omega))) rfl ?_; rintro _ h_q18_6 ⟨rfl, q18_6⟩; refine sq_end (qs_n (wp_sc (wp_sq (sq_v rfl (v_move rfl) rfl (sq_v rfl (v_move rfl) rfl ?_))))); refine sq_v rfl (v_idxB Try.underlying71 ty_4 rfl rfl qF.toR (by first | omega | (simp; omega) | (simp only [List.length_append, List.length_cons, List.length_nil]; omega) | (rw [List.length_set]; omega)) (by first | omega | (simp; omega) | (simp only [List.length_append, List.length_cons, List.length_nil]; omega) | (rw [List.length_set]; omega))) rfl ?_; refine sq_m 5 rfl rfl (m_storeBl 5 ty_4 rfl rfl rfl qF (by first | omega | (simp; omega) | (simp only [List.length_append, List.length_cons, List.length_nil]; omega) | (rw [List.length_set]; omega))) rfl ?_; rintro _ h_q19_3 ⟨rfl, q19_3⟩; refine sq_end (qs_n (wp_sc (wp_sq (sq_v rfl (v_move rfl) rfl (sq_v rfl (v_move rfl) rfl (sq_v rfl (v_fieldAddr fd_73_0 ty_3 (by decide) rfl) rfl (sq_v rfl (v_loadB 1 ty_3 rfl rfl rfl) rfl ?_))))))); refine sq_v rfl (v_idxI Try.underlying25 ty_3 rfl rfl q18_6.toR (by first | omega | (simp; omega) | (simp only [List.length_append, List.length_cons, List.length_nil]; omega) | (rw [List.length_set]; omega)) (by first | omega | (simp; omega) | (simp only [List.length_append, List.length_cons, List.length_nil]; omega) | (rw [List.length_set]; omega))) rfl ?_; refine sq_v rfl (v_loadI  4 ty_3 rfl rfl q18_6.toR (by first | omega | (simp; omega) | (simp only [List.length_append, List.length_cons, List.length_nil]; omega) | (rw [List.length_set]; omega))) rfl ?_
          first | rw [ea] | rw [ea']
          refine sq_v rfl (v_idxB Try.underlying71 ty_4 rfl rfl q19_3.toR (by first | omega | (simp; omega) | (simp only [List.length_append, List.length_cons, List.length_nil]; omega) | (rw [List.length_set]; omega)) (by first | omega | (simp; omega) | (simp only [List.length_append, List.length_cons, List.length_nil]; omega) | (rw [List.length_set]; omega))) rfl ?_; refine sq_m 5 rfl rfl (m_storeBl 5 ty_4 rfl rfl rfl q19_3 (by first | omega | (simp; omega) | (simp only [List.length_append, List.length_cons, List.length_nil]; omega) | (rw [List.length_set]; omega))) rfl ?_; rintro _ h_q20_7 ⟨rfl, q20_7⟩; refine sq_end (qs_n (wp_sc (wp_sq (sq_v rfl (v_move rfl) rfl (sq_v rfl (v_move rfl) rfl (sq_v rfl (v_fieldAddr fd_73_1 ty_3 (by decide) rfl) rfl (sq_v rfl (v_loadB 1 ty_3 rfl rfl rfl) rfl ?_))))))); refine sq_v rfl (v_idxI Try.underlying25 ty_3 rfl rfl q18_6.toR (by first | omega | (simp; omega) | (simp only [List.length_append, List.length_cons, List.length_nil]; omega) | (rw [List.length_set]; omega)) (by first | omega | (simp; omega) | (simp only [List.length_append, List.length_cons, List.length_nil]; omega) | (rw [List.length_set]; omega))) rfl ?_; refine sq_v rfl (v_loadI  4 ty_3 rfl rfl q18_6.toR (by first | omega | (simp; omega) | (simp only [List.length_append, List.length_cons, List.length_nil]; omega) | (rw [List.length_set]; omega))) rfl ?_
          first | rw [eb] | rw [eb']
          refine sq_v rfl (v_idxB Try.underlying71 ty_4 rfl rfl q20_7.toR (by first | omega | (simp; omega) | (simp only [List.length_append, List.length_cons, List.length_nil]; omega) | (rw [List.length_set]; omega)) (by first | omega | (simp; omega) | (simp only [List.length_append, List.length_cons, List.length_nil]; omega) | (rw [List.length_set]; omega))) rfl ?_; refine sq_m 5 rfl rfl (m_storeBl 5 ty_4 rfl rfl rfl q20_7 (by first | omega | (simp; omega) | (simp only [List.length_append, List.length_cons, List.length_nil]; omega) | (rw [List.length_set]; omega))) rfl ?_; rintro _ h_q21_7 ⟨rfl, q21_7⟩; refine sq_end (qs_n (wp_sc (wp_sq (sq_v rfl (v_fieldAddr fd_33_0 ty_3 (by decide) rfl) rfl (sq_v rfl (v_loadB 6 ty_3 rfl rfl rfl) rfl (sq_v rfl (v_move rfl) rfl ?_)))))); refine sq_v rfl (v_add rfl rfl ((by unfold I64; omega))) rfl ?_; refine sq_v rfl (v_max rfl rfl) rfl (sq_v rfl (v_fieldAddr fd_33_0 ty_3 (by decide) rfl) rfl ?_); refine sq_m 6 rfl rfl (m_store1 6 ty_3 rfl rfl rfl rfl (Nat.le_of_ble_eq_true rfl)) rfl ?_; rintro _ _ ⟨rfl, rfl⟩; refine sq_end (qs_n (wp_rj 26 [(0, true), (1, true), (2, true), (3, true), (4, true), (5, true), (6, true), (7, true), (8, true), (9, true), (10, true), (11, true), (12, true), (13, true), (14, true), (15, true), (16, true), (17, true), (18, true), (19, true), (20, true), (21, true), (22, true), (23, false), (24, true), (25, false), (26, false), (27, false), (28, false)] mixed_ok (by kernel_rfl) (rj_v rfl rfl (v_fieldAddr fd_33_1 ty_31 (by decide) rfl) rfl (rj_v rfl rfl (v_loadB 6 ty_31 rfl rfl rfl) rfl (rj_v rfl rfl (v_move rfl) rfl (rj_v rfl rfl (v_move rfl) rfl (rj_v rfl rfl (v_fieldAddr fd_73_0 ty_3 (by decide) rfl) rfl (rj_v rfl rfl (v_loadB 1 ty_3 rfl rfl rfl) rfl ?_)))))))); refine rj_v rfl rfl (v_idxI Try.underlying25 ty_3 rfl rfl q18_6.toR (by first | omega | (simp; omega) | (simp only [List.length_append, List.length_cons, List.length_nil]; omega) | (rw [List.length_set]; omega)) (by first | omega | (simp; omega) | (simp only [List.length_append, List.length_cons, List.length_nil]; omega) | (rw [List.length_set]; omega))) rfl ?_; refine rj_v rfl rfl (v_loadI  4 ty_3 rfl rfl q18_6.toR (by first | omega | (simp; omega) | (simp only [List.length_append, List.length_cons, List.length_nil]; omega) | (rw [List.length_set]; omega))) rfl ?_
          first | rw [ea] | rw [ea']
          refine rj_v rfl rfl (v_move rfl) rfl (rj_v rfl rfl (v_fieldAddr fd_73_1 ty_3 (by decide) rfl) rfl (rj_v rfl rfl (v_loadB 1 ty_3 rfl rfl rfl) rfl ?_)); refine rj_v rfl rfl (v_idxI Try.underlying25 ty_3 rfl rfl q18_6.toR (by first | omega | (simp; omega) | (simp only [List.length_append, List.length_cons, List.length_nil]; omega) | (rw [List.length_set]; omega)) (by first | omega | (simp; omega) | (simp only [List.length_append, List.length_cons, List.length_nil]; omega) | (rw [List.length_set]; omega))) rfl ?_; refine rj_v rfl rfl (v_loadI  4 ty_3 rfl rfl q18_6.toR (by first | omega | (simp; omega) | (simp only [List.length_append, List.length_cons, List.length_nil]; omega) | (rw [List.length_set]; omega))) rfl ?_
          first | rw [eb] | rw [eb'];; have hln : (shTens (dimOf ts) (shTo op (sh0 ts) ss)).length = ts.length + ss.length := (by rw [shTens_len, shTo_all]; simp [sh0]); have hend := run_end hord (i := i) (by omega); have hlf := (shTo_fine (op := op) (sh0_fine (net_axes hnet)) ss).few (ts.length + i)
          refine rj_v rfl rfl (v_move rfl) rfl (rj_v rfl rfl (v_nilCheck rfl) rfl (rj_v rfl rfl (v_fieldAddr fd_79_0 ty_37 (by decide) rfl) rfl (rj_v rfl rfl (v_load 7 ty_37 rfl rfl hsr.c0) rfl (rj_v rfl rfl (v_move rfl) rfl (rj_v rfl rfl (v_move rfl) rfl ?_))))); refine rj_v rfl rfl (v_add rfl rfl ((by unfold I64; omega))) rfl ?_; obtain ⟨t119, a119, b119, c119, ht119, hcs119, rl119, rd119, rx119⟩ := hc_hsr_all ((ts.length + i)) (by first | omega | (rw [List.length_set]; omega)); refine rj_v rfl rfl (v_indexAddr Try.underlying37 ty_77 rfl rfl rr_hsr_all (by decide) (by omega) (by omega)) rfl ?_; have e119 := shTens_at ht119; have l119 : t119.l = cpK ts op ss i := (by rw [e119]; rfl); have hlf9 := hlf; rw [show (shTo op (sh0 ts) ss).lab (ts.length + i) = t119.l by rw [l119]; rfl] at hlf9; refine rj_v rfl rfl (v_fieldAddrE fd_77_0 ty_25 (by decide) rfl rr_hsr_all (by have := rr_hsr_all.1; first | omega | (simp only [Int.toNat_natCast]; omega) | (rw [stepCells_len, List.length_set]; omega))) rfl ?_; refine rj_v rfl rfl (v_loadE 7 ty_25 rfl rfl rr_hsr_all (sub_get hcs119 (j := 0) rfl)) rfl ?_; refine rj_x rfl rfl (x_call rfl en_38 (fun w s => ct_s_l05Ints _ _ w (rl119.mono (s.get 7 rfl)) (by first | assumption | omega))) rfl ?_; rintro v122 h122 r122; refine rj_v rfl rfl (v_build [num 2, num (lowE (((cplTo ts op ss i).load ts.length x47.a).load ts.length x47.b).C), num (((cplTo ts op ss i).at ts.length x47.a)), num ((((cplTo ts op ss i).load ts.length x47.a).at ts.length x47.b)), v122] rfl (by obtain ⟨_, _, rfl⟩ := r122.toR.sl; kernel_rfl)) rfl ?_; refine rj_x rfl rfl (x_buildS [.agg [num 2, num (lowE (((cplTo ts op ss i).load ts.length x47.a).load ts.length x47.b).C), num (((cplTo ts op ss i).at ts.length x47.a)), num ((((cplTo ts op ss i).load ts.length x47.a).at ts.length x47.b)), v122].toArray] Try.underlying31 ty_81 (by decide) rfl rfl rfl (by decide) (by decide) (by intro v hv; simp at hv; subst hv; rfl)) rfl ?_; intro v124 h124 (r124 : RowO 81 [num 2, num (lowE (((cplTo ts op ss i).load ts.length x47.a).load ts.length x47.b).C), num (((cplTo ts op ss i).at ts.length x47.a)), num ((((cplTo ts op ss i).load ts.length x47.a).at ts.length x47.b)), v122] 1 5 v124 h124); refine rj_m 5 rfl rfl rfl rfl (m_append 5 0 Try.underlying31 ty_81 rfl rfl (by decide) rfl rfl rfl rr rfl r124.toR (by simp [one_int, r122.toR.sl.one]) (by unfold maxLen; omega) (by omega)) rfl ?_; intro v125 h_r125 (r125 : RowO 81 (cs ++ [num 2, num (lowE (((cplTo ts op ss i).load ts.length x47.a).load ts.length x47.b).C), num (((cplTo ts op ss i).at ts.length x47.a)), num ((((cplTo ts op ss i).load ts.length x47.a).at ts.length x47.b)), v122]) (((((cplTo ts op ss i).load ts.length x47.a).load ts.length x47.b)).os.length + 1) 5 v125 h_r125); refine rj_fv rfl rfl (v_fieldAddr fd_33_1 ty_31 (by decide) rfl) rfl ?_; refine rj_m 8 rfl rfl rfl rfl (m_store1 8 ty_31 rfl rfl r125.toR.sl.one rfl (Nat.le_of_ble_eq_true rfl)) rfl ?_; rintro _ _ ⟨rfl, rfl⟩; refine rj_end ?_; refine qs_dj 4 1 rfl rfl rfl (fun hdj9 => ?_); refine qs_s [PUn hl h122, _, _, _, _, _, _, _, _, _] (fun _ s => Sat.merge (s.pick [4, 1, 2, 3, 8, 9, 10, 11, 5, 7, 6] (by decide) rfl)) (qs_bn (qs_n (wp_sq ?_))); refine sq_v rfl (v_add rfl rfl ((by unfold I64; omega))) rfl ?_; refine sq_v rfl (v_move rfl) rfl (sq_end ?_); have eN : cplTo ts op ss (i + 1) = Cpl.step ts.length (cpK ts op ss i) i (cplTo ts op ss i) x47 := by rw [← hxs]; rfl
          have eR : max (((cplTo ts op ss i).load ts.length x47.a).load ts.length x47.b).R ((lowE (((cplTo ts op ss i).load ts.length x47.a).load ts.length x47.b).C : Int) + 1) = (cplTo ts op ss (i + 1)).R := by rw [eN]; rfl
          have hlz : (A.set (ts.length + i) (lowE (((cplTo ts op ss i).load ts.length x47.a).load ts.length x47.b).C : Int)).getD (ts.length + (i + 1) - 1) 0 = (lowE (((cplTo ts op ss i).load ts.length x47.a).load ts.length x47.b).C : Int) := by rw [show ts.length + (i + 1) - 1 = ts.length + i by omega, getI_set (by omega), if_pos rfl]
          rw [eR]; exact qs_bk (i + 1, v125, h_r125, _, PUn hl h122, h_q21_7, h_q18_6, _, _) ⟨by (try dsimp only); omega, by (try dsimp only); rw [eN]; exact hlv2.add (o := ⟨2, lowE (((cplTo ts op ss i).load ts.length x47.a).load ts.length x47.b).C, ((cplTo ts op ss i).at ts.length x47.a), (((cplTo ts op ss i).load ts.length x47.a).at ts.length x47.b), cpK ts op ss i⟩) (by rw [← l119]; exact r122) hdj9, by (try dsimp only); rw [eN]; exact hfa3, fun _ => by rw [eN]; exact hlz, by (try dsimp only); rw [eN]; simp only [Cpl.step, List.length_append, List.length_cons, List.length_nil]; exact r125, q21_7, q18_6⟩ (by simp only; omega) ⟨rfl, rfl, rfl, rfl, rfl, rfl, rfl, rfl, rfl, rfl, (by first | rfl | exact ksub rfl (by first | omega | (simp; done) | (simp; omega))), trivial⟩ (fun _ s => s.pick [0, 7, 9, 8, 3, 4, 5, 6] (by decide) rfl)
      · refine wp_ex (qs_x (qs_x (qs_bx (qs_n (wp_sc (wp_sc (wp_sq (sq_v rfl (v_move rfl) rfl (sq_v rfl (v_eql rfl rfl) rfl (sq_end (qs_n ?_))))))))))); refine wp_cd rfl (fun c129 => ?_) (fun c129 => ?_)
        · refine wp_sq (sq_v rfl (v_loadNB 4 ty_33 rfl rfl rfl rfl) rfl (sq_v rfl (v_move rfl) rfl (sq_v rfl (v_move rfl) rfl ?_))); have hs0 : ss.length = 0 := (by omega); have he0 := (cpl_ok hord hm1 i hi).toCJ.empty hm1 (runS_few hord hi); have hlw := lowE_at he0; have hlo := hfa.low he0; refine sq_close [_, _, _, _, _] [ho, hF, hA] (fun _ s => s.pick [0, 4, 5, 6, 7, 1, 3, 2] (by decide) rfl) (fun md => ?_); refine sq_m 0 rfl rfl (x_call rfl en_36 (fun w s => ct_s_l25Load (lowE (cplTo ts op ss i).C) _ _ _ cs F A vu v36 v41 w _ (s.get 0 rfl) ⟨ho, hF, hA, rr, qF, qA, md⟩ ⟨by omega, hlo.1, hlo.2⟩ (by omega) (by omega) (by omega))) rfl ?_; rintro _ h133 ⟨vu2, rfl, hone2, hld2⟩; refine sq_m 2 rfl rfl (m_store 2 ty_33 rfl rfl rfl rfl (by simp [one_int, hone2]) rfl (Nat.le_of_ble_eq_true rfl)) rfl ?_; rintro _ _ ⟨rfl, rfl⟩; refine sq_end ?_; obtain ⟨row, t36, t41, rr2, rF2, rA2, md2⟩ := hld2; refine qs_s [hl, box b9 [num (max (cplTo ts op ss i).R ((lowE (cplTo ts op ss i).C : Int) + 1)), vu2] 33, (PUn h32 (hp w)), box b4 [num 0, .slice none 0 0] 33, box b2 [num k, num p, num n, vt, vo] 39, row, t36, t41] (fun _ s => Sat.open (A := [hl, box b9 [num (max (cplTo ts op ss i).R ((lowE (cplTo ts op ss i).C : Int) + 1)), vu2] 33, (PUn h32 (hp w)), box b4 [num 0, .slice none 0 0] 33, box b2 [num k, num p, num n, vt, vo] 39]) md2 (s.pick [0, 1, 2, 3, 4, 5] (by decide) rfl)) ?_; obtain ⟨F0, A0, hF0, hA0⟩ : ∃ F0 A0, F0 = F.set (lowE (cplTo ts op ss i).C) true ∧ A0 = A.set (0 : Int).toNat (lowE (cplTo ts op ss i).C : Int) := ⟨_, _, rfl, rfl⟩
          have hal0 : A0.length = A.length := by rw [hA0, List.length_set]
          have hlast : A0.getD (A0.length - 1 : Int).toNat 0 = (cplL ts op ss).l := by rw [hal0, hA0, show ((A.length : Int) - 1).toNat = (0 : Int).toNat by omega, getI_set (by omega), if_pos rfl, cplL_nil hs0 hm1 (by omega : i = 0)]
          rw [← hF0] at rF2; rw [← hA0] at rA2
          skip
          refine qs_n (wp_sc (wp_rj 10 [(0, true), (1, true), (2, true), (3, true), (4, true), (5, true), (6, true), (7, true), (8, true), (9, false), (10, false), (11, false), (12, false)] mixed_ok (by kernel_rfl) (rj_v rfl rfl (v_fieldAddr fd_33_1 ty_31 (by decide) rfl) rfl (rj_v rfl rfl (v_loadB 1 ty_31 rfl rfl rfl) rfl (rj_v rfl rfl (v_move rfl) rfl (rj_v rfl rfl (v_move rfl) rfl (rj_v rfl rfl (v_len Try.underlying25 rfl rA2.toR.sl) rfl ?_))))))); refine rj_v rfl rfl (v_sub rfl rfl ((by unfold I64; omega))) rfl ?_; refine rj_v rfl rfl (v_idxI Try.underlying25 ty_3 rfl rfl rA2.toR (by first | omega | (simp; omega) | (simp only [List.length_append, List.length_cons, List.length_nil]; omega) | (rw [List.length_set]; omega)) (by first | omega | (simp; omega) | (simp only [List.length_append, List.length_cons, List.length_nil]; omega) | (rw [List.length_set]; omega))) rfl ?_; refine rj_v rfl rfl (v_loadI  7 ty_3 rfl rfl rA2.toR (by first | omega | (simp; omega) | (simp only [List.length_append, List.length_cons, List.length_nil]; omega) | (rw [List.length_set]; omega))) rfl ?_; refine rj_v rfl rfl (v_build [num 3, num (A0.getD (A0.length - 1 : Int).toNat 0), num 0, num 0, .slice none 0 0] rfl (by kernel_rfl)) rfl ?_; refine rj_x rfl rfl (x_buildS [.agg [num 3, num (A0.getD (A0.length - 1 : Int).toNat 0), num 0, num 0, .slice none 0 0].toArray] Try.underlying31 ty_81 (by decide) rfl rfl rfl (by decide) (by decide) (by intro v hv; simp at hv; subst hv; rfl)) rfl ?_; intro v143 h143 (r143 : RowO 81 [num 3, num (A0.getD (A0.length - 1 : Int).toNat 0), num 0, num 0, .slice none 0 0] 1 5 v143 h143); refine rj_m 6 rfl rfl rfl rfl (m_append 6 0 Try.underlying31 ty_81 rfl rfl (by decide) rfl rfl rfl rr2 rfl r143.toR (by simp [one_int, one_sl]) (by unfold maxLen; omega) (by omega)) rfl ?_; intro v144 h_r144 (r144 : RowO 81 ((cs ++ [num 1, num (lowE (cplTo ts op ss i).C), num 0, num 0, .slice none 0 0]) ++ [num 3, num (A0.getD (A0.length - 1 : Int).toNat 0), num 0, num 0, .slice none 0 0]) (((cplTo ts op ss i).os.length + 1) + 1) 5 v144 h_r144); refine rj_fv rfl rfl (v_fieldAddr fd_33_1 ty_31 (by decide) rfl) rfl ?_; refine rj_m 2 rfl rfl rfl rfl (m_store1 2 ty_31 rfl rfl r144.toR.sl.one rfl (Nat.le_of_ble_eq_true rfl)) rfl ?_; rintro _ _ ⟨rfl, rfl⟩; refine rj_end (qs_n (wp_sc (wp_sc (wp_sq (sq_v rfl (v_fieldAddr fd_33_0 ty_3 (by decide) rfl) rfl (sq_v rfl (v_loadB 2 ty_3 rfl rfl rfl) rfl (sq_v rfl (v_gtr rfl rfl) rfl (sq_end (qs_n ?_))))))))); refine wp_cd rfl (fun c148 => ?_) (fun c148 => ?_)
          · refine wp_sc (wp_sq (sq_v rfl (v_build [num 0, .slice none 0 0] rfl (by kernel_rfl)) rfl ?_)); refine sq_m 4 rfl rfl (m_store 4 ty_33 rfl rfl rfl rfl (by simp [one_int, one_sl]) rfl (Nat.le_of_ble_eq_true rfl)) rfl ?_; rintro _ _ ⟨rfl, rfl⟩; refine sq_v rfl (v_assign rfl) rfl (sq_end (qs_n (wp_rt (qs_r (qs_s [h32, hp w, _] (fun _ s => Sat.part hdj0 (s.pick [3, 4] (by decide) rfl)) ?_))))); exact qs_retct 2 rfl ty_33 rfl rfl rfl rfl (fin_e (i := 1) rfl (CoNo (fun h => by have h9 := h.2.2; rw [cplL_nil hs0 hm1 (by omega : i = 0)] at h9; simp only at h9; omega)))
          · refine wp_sk (qs_n (wp_sc (wp_sq (sq_v rfl (v_loadNB 2 ty_33 rfl rfl rfl rfl) rfl ?_)))); refine sq_m 4 rfl rfl (m_store 4 ty_33 rfl rfl rfl rfl (by simp [one_int, r144.toR.sl.one]) rfl (Nat.le_of_ble_eq_true rfl)) rfl ?_; rintro _ _ ⟨rfl, rfl⟩; refine sq_v rfl (v_assign rfl) rfl (sq_end (qs_n (wp_rt ?_))); have eL := cplL_nil (ts := ts) (op := op) hs0 hm1 (by omega : i = 0); have hco : coP k p n ts op ss := ⟨hord, by intro e; rw [e] at hm1; simp at hm1, by rw [eL]; simp only; omega⟩
            have hCo := @CoYes k p n ts op ss; rw [show (cplL ts op ss).R = _ by rw [eL]] at hCo; have ho9 : OpH (cplOs ts op ss) ((cs ++ [num 1, num (lowE (cplTo ts op ss i).C), num 0, num 0, .slice none 0 0]) ++ [num 3, num (A0.getD (A0.length - 1 : Int).toNat 0), num 0, num 0, .slice none 0 0]) hl := by rw [hlast, cplOs, show (cplL ts op ss).os = _ by rw [eL]]; exact hlv.add0.add0
            have hr9 : RowO 81 ((cs ++ [num 1, num (lowE (cplTo ts op ss i).C), num 0, num 0, .slice none 0 0]) ++ [num 3, num (A0.getD (A0.length - 1 : Int).toNat 0), num 0, num 0, .slice none 0 0]) (cplOs ts op ss).length 5 v144 h_r144 := by rw [cplOs, show (cplL ts op ss).os = _ by rw [eL]]; simp only [List.length_append, List.length_cons, List.length_nil]; exact r144
            refine qs_s [h32, hp w, _, _, _] (fun _ s => Sat.part hdj0 (s.pick [3, 6, 1, 4] (by decide) rfl)) ?_; refine qs_close [_, hp w] [h_r144, hl] (fun _ s => s.pick [4, 1, 2, 3] (by decide) rfl) (fun md9 => ?_); exact qs_retct 1 rfl ty_33 rfl rfl rfl rfl (fin_t 0 (i := 2) rfl rfl rfl (hCo hco (OpsO.of hr9 ho9 md9)))
        · refine wp_sk (qs_n (wp_sc (wp_rj 10 [(0, true), (1, true), (2, true), (3, true), (4, true), (5, true), (6, true), (7, true), (8, true), (9, false), (10, false), (11, false), (12, false)] mixed_ok (by kernel_rfl) (rj_v rfl rfl (v_fieldAddr fd_33_1 ty_31 (by decide) rfl) rfl (rj_v rfl rfl (v_loadB 4 ty_31 rfl rfl rfl) rfl (rj_v rfl rfl (v_move rfl) rfl (rj_v rfl rfl (v_move rfl) rfl (rj_v rfl rfl (v_len Try.underlying25 rfl qA.toR.sl) rfl ?_)))))))); refine rj_v rfl rfl (v_sub rfl rfl ((by unfold I64; omega))) rfl ?_; refine rj_v rfl rfl (v_idxI Try.underlying25 ty_3 rfl rfl qA.toR (by first | omega | (simp; omega) | (simp only [List.length_append, List.length_cons, List.length_nil]; omega) | (rw [List.length_set]; omega)) (by first | omega | (simp; omega) | (simp only [List.length_append, List.length_cons, List.length_nil]; omega) | (rw [List.length_set]; omega))) rfl ?_; refine rj_v rfl rfl (v_loadI  2 ty_3 rfl rfl qA.toR (by first | omega | (simp; omega) | (simp only [List.length_append, List.length_cons, List.length_nil]; omega) | (rw [List.length_set]; omega))) rfl ?_; refine rj_v rfl rfl (v_build [num 3, num (A.getD (A.length - 1 : Int).toNat 0), num 0, num 0, .slice none 0 0] rfl (by kernel_rfl)) rfl ?_; refine rj_x rfl rfl (x_buildS [.agg [num 3, num (A.getD (A.length - 1 : Int).toNat 0), num 0, num 0, .slice none 0 0].toArray] Try.underlying31 ty_81 (by decide) rfl rfl rfl (by decide) (by decide) (by intro v hv; simp at hv; subst hv; rfl)) rfl ?_; intro v143 h143 (r143 : RowO 81 [num 3, num (A.getD (A.length - 1 : Int).toNat 0), num 0, num 0, .slice none 0 0] 1 5 v143 h143); refine rj_m 2 rfl rfl rfl rfl (m_append 2 0 Try.underlying31 ty_81 rfl rfl (by decide) rfl rfl rfl rr rfl r143.toR (by simp [one_int, one_sl]) (by unfold maxLen; omega) (by omega)) rfl ?_; intro v144 h_r144 (r144 : RowO 81 (cs ++ [num 3, num (A.getD (A.length - 1 : Int).toNat 0), num 0, num 0, .slice none 0 0]) ((cplTo ts op ss i).os.length + 1) 5 v144 h_r144); refine rj_fv rfl rfl (v_fieldAddr fd_33_1 ty_31 (by decide) rfl) rfl ?_; refine rj_m 5 rfl rfl rfl rfl (m_store1 5 ty_31 rfl rfl r144.toR.sl.one rfl (Nat.le_of_ble_eq_true rfl)) rfl ?_; rintro _ _ ⟨rfl, rfl⟩; refine rj_end (qs_n (wp_sc (wp_sc (wp_sq (sq_v rfl (v_fieldAddr fd_33_0 ty_3 (by decide) rfl) rfl (sq_v rfl (v_loadB 5 ty_3 rfl rfl rfl) rfl (sq_v rfl (v_gtr rfl rfl) rfl (sq_end (qs_n ?_))))))))); refine wp_cd rfl (fun c148 => ?_) (fun c148 => ?_)
          · refine wp_sc (wp_sq (sq_v rfl (v_build [num 0, .slice none 0 0] rfl (by kernel_rfl)) rfl ?_)); refine sq_m 7 rfl rfl (m_store 7 ty_33 rfl rfl rfl rfl (by simp [one_int, one_sl]) rfl (Nat.le_of_ble_eq_true rfl)) rfl ?_; rintro _ _ ⟨rfl, rfl⟩; refine sq_v rfl (v_assign rfl) rfl (sq_end (qs_n (wp_rt (qs_r (qs_s [h32, hp w, _] (fun _ s => Sat.part hdj0 (s.pick [6, 7] (by decide) rfl)) ?_))))); exact qs_retct 2 rfl ty_33 rfl rfl rfl rfl (fin_e (i := 1) rfl (CoNo (fun h => by have h9 := h.2.2; rw [cplL_cons (by omega : i = ss.length) (by omega)] at h9; omega)))
          · refine wp_sk (qs_n (wp_sc (wp_sq (sq_v rfl (v_loadNB 5 ty_33 rfl rfl rfl rfl) rfl ?_)))); refine sq_m 7 rfl rfl (m_store 7 ty_33 rfl rfl rfl rfl (by simp [one_int, r144.toR.sl.one]) rfl (Nat.le_of_ble_eq_true rfl)) rfl ?_; rintro _ _ ⟨rfl, rfl⟩; refine sq_v rfl (v_assign rfl) rfl (sq_end (qs_n (wp_rt ?_))); have eL := cplL_cons (ts := ts) (op := op) (by omega : i = ss.length) (by omega); have hco : coP k p n ts op ss := ⟨hord, by intro e; rw [e] at hm1; simp at hm1, by rw [eL]; omega⟩
            have hCo := @CoYes k p n ts op ss; rw [eL] at hCo; have hlast : A.getD (A.length - 1 : Int).toNat 0 = (cplTo ts op ss i).l := by rw [show ((A.length : Int) - 1).toNat = ts.length + i - 1 by omega]; exact hla (by omega)
            have ho9 : OpH (cplOs ts op ss) (cs ++ [num 3, num (A.getD (A.length - 1 : Int).toNat 0), num 0, num 0, .slice none 0 0]) hl := by rw [hlast, cplOs, eL]; exact hlv.add0
            have hr9 : RowO 81 (cs ++ [num 3, num (A.getD (A.length - 1 : Int).toNat 0), num 0, num 0, .slice none 0 0]) (cplOs ts op ss).length 5 v144 h_r144 := by rw [cplOs, eL]; simp only [List.length_append, List.length_cons, List.length_nil]; exact r144
            refine qs_s [h32, hp w, _, _, _] (fun _ s => Sat.part hdj0 (s.pick [6, 2, 1, 7] (by decide) rfl)) ?_; refine qs_close [_, hp w] [h_r144, hl] (fun _ s => s.pick [4, 1, 2, 3] (by decide) rfl) (fun md9 => ?_); exact qs_retct 1 rfl ty_33 rfl rfl rfl rfl (fin_t 0 (i := 2) rfl rfl rfl (hCo hco (OpsO.of hr9 ho9 md9)))
  · refine sq_v rfl (v_not rfl) rfl (sq_v rfl (v_move rfl) rfl (sq_s rfl rfl (sq_s rfl rfl (sq_v rfl (v_pickt rfl rfl) rfl (sq_end (qs_n (wp_ct rfl (wp_sc (wp_sq (sq_v rfl (v_build [num 0, .slice none 0 0] rfl (by kernel_rfl)) rfl ?_)))))))))); refine sq_m 0 rfl rfl (m_store 0 ty_33 rfl rfl rfl rfl (by simp [one_int, one_sl]) rfl (Nat.le_of_ble_eq_true rfl)) rfl ?_; rintro _ _ ⟨rfl, rfl⟩; refine sq_v rfl (v_assign rfl) rfl (sq_end (qs_n (wp_rt (qs_r ?_)))); exact qs_retct 0 rfl ty_33 rfl rfl rfl rfl (fin_e (i := 2) rfl (CoNo (fun h => by first | exact orderB_false.1 c22 h.1 | exact h.2.1 (List.eq_nil_of_length_eq_zero (by omega)))))
end Go.Proofs.Ythlmjnihihbckaa
namespace Go.Proofs.Ythlmjnihihbckaa
set_option maxRecDepth 100000
open Go.RowKit
section
variable (m : Int) (ss : List Stp) (C : List Int) (W : Int)
def done (S : List Int) : Prop := ∀ i, i < S.length → 0 ≤ S.getD i 0
end
section
variable {m : Int} {ss : List Stp} {C : List Int} {W : Int} {S : List Int} {T : Int}
end
end Go.Proofs.Ythlmjnihihbckaa
namespace Go.Proofs.Ythlmjnihihbckaa
set_option maxRecDepth 100000
open Go.RowKit
section
variable {P : Program} {n : Nat} {w0 : World} {K : Env} {HS : List PH} {d : Option Tmp} {ty : TypeId} {ps : String} {af : Array Edge} {g : Option (Nat × Bool)}
theorem v_makeF {f : Fn} {ys : Array Operand} {caps : List Value} (hev : evs K ys.toList = some caps) : StepV P n w0 K HS ⟨d, .makeFunc f #[] ys, ty, ps, af, g⟩ (.func f #[] caps.toArray) := fun a w e _ => by
  have hargs : ys.map a.eval = caps.toArray := by
    apply Array.ext'
    simpa using e.evs hev
  simp [execOp, Instr.makeFunc, hargs]
end
section
variable {m : Int} {ss : List Stp} {C : List Int} {W : Int} {S : List Int} {T : Int} {n : Nat}
theorem rep_fill (n i : Nat) (h : i < n) : (List.replicate i (-1 : Int) ++ List.replicate (n - i) 0).set i (-1) = List.replicate (i + 1) (-1) ++ List.replicate (n - (i + 1)) 0 := by
  obtain ⟨j, hj⟩ : ∃ j, n - i = j + 1 := ⟨n - i - 1, by omega⟩
  rw [hj, show n - (i + 1) = j by omega, List.set_append_right _ _ (by simp), List.length_replicate, Nat.sub_self, List.replicate_succ, List.set_cons_zero, List.replicate_succ', List.append_assoc]
  rfl
end
end Go.Proofs.Ythlmjnihihbckaa
namespace Go.Proofs.Ythlmjnihihbckaa
set_option maxRecDepth 100000
open Go.RowKit
section
variable {P : Program} {n : Nat} {w0 : World} {K : Env} {HS : List PH} {d : Option Tmp} {ty : TypeId} {ps : String} {af : Array Edge} {g : Option (Nat × Bool)}
theorem x_callFm {f : FuncId} {x : Operand} {xs : Array Operand} {tys : Array TypeId} {vs caps : List Value} {h : PH} {T : Value → PH → Prop} (hx : ev K x = some (.func (.func f) #[] caps.toArray)) (hev : evs K xs.toList = some vs) (hen : EnterOK P f)
    (hc : ∀ w, Sat w0 HS w → Calls P f (vs ++ caps).toArray w (Ret w h T)) : StepX P n w0 K HS ⟨d, .call ⟨.value x, xs, tys⟩, ty, ps, af, g⟩ h T := fun a w e s => by
  obtain ⟨fn, h1, h2, h3⟩ := hen.ok; have hargs : xs.map a.eval = vs.toArray := by
    apply Array.ext'
    simpa using e.evs hev
  have hr : (execOp a.eval ⟨d, .call ⟨.value x, xs, tys⟩, ty, ps, af, g⟩).run P w = .ok (.enter f (vs ++ caps).toArray) w := by
    have h2' : ¬ fn.name = "runtime.NumGoroutine" := by simpa using h2
    have h3' : ¬ fn.body = none := fun hh => by rw [hh] at h3; cases h3
    simp [execOp, resolve, invoke, hargs, e.ev hx, Deferred.ofValue, callFunc, h1, h2', h3']
  unfold Oper.wp
  rw [hr]; refine (hc w s).mono fun en w' ⟨v, h', he, u, t⟩ => ?_; subst he; exact ⟨v, h', rfl, u, t⟩
end
theorem ty_87 : TyF Try.prog 87 .nilFunc 1 8 false := ⟨by kernel_rfl, by kernel_rfl⟩
theorem ct_i_lowestEmpty (C : List Int) (v : Value) (w : World) (r : IntsR C v (hp w)) (he : ∃ j, j < C.length ∧ C.getD j 0 < 0) : Calls Try.prog 44 [v].toArray w (RetV w (num (lowE C))) := by
  have hlw := lowE_at he; refine calls_in Try.func44 rfl Try.ntmps44 rfl (Sat.start w) ?_; have hle0 := r.le; refine wp_sc (wp_sq (sq_v rfl (v_assign rfl) rfl (sq_end (qs_n (wp_sc (wp_sc (wp_sq (sq_v rfl (v_move rfl) rfl (sq_v rfl (v_len Try.underlying25 rfl r.sl) rfl (sq_v rfl (v_move rfl) rfl (sq_end (qs_n (wp_bl ?_))))))))))))); refine wp_lp (σ := Nat) (fun z_ => [(2, num 0), (5, v), (6, num C.length), (7, num z_)]) (fun z_ => [hp w]) (fun z_ => z_ ≤ lowE C) (fun z_ => lowE C + 1 - z_) 0 (by omega) ⟨rfl, rfl, rfl, (by first | rfl | exact ksub rfl (by first | omega | (simp; done) | (simp; omega))), trivial⟩ (fun _ s => s) ?_; rintro i hi; refine wp_sc (wp_sq (sq_v rfl (v_lss rfl rfl) rfl (sq_end (qs_n (wp_sc ?_))))); refine wp_cd rfl (fun c8 => ?_) (fun c8 => ?_)
  · refine wp_sk (qs_n (wp_sc (wp_bl (wp_sc (wp_sq (sq_v rfl (v_move rfl) rfl ?_)))))); refine sq_v rfl (v_idxI Try.underlying25 ty_3 rfl rfl r (by first | omega | (simp; omega) | (simp only [List.length_append, List.length_cons, List.length_nil]; omega) | (rw [List.length_set]; omega)) (by first | omega | (simp; omega) | (simp only [List.length_append, List.length_cons, List.length_nil]; omega) | (rw [List.length_set]; omega))) rfl ?_; refine sq_v rfl (v_loadI (k := i) 0 ty_3 rfl rfl r (by first | omega | (simp; omega) | (simp only [List.length_append, List.length_cons, List.length_nil]; omega) | (rw [List.length_set]; omega))) rfl ?_; refine sq_v rfl (v_assign rfl) rfl (sq_v rfl (v_assign rfl) rfl (sq_end (qs_n (wp_sc (wp_sq (sq_v rfl (v_move rfl) rfl (sq_v rfl (v_lss rfl rfl) rfl (sq_end (qs_n ?_))))))))); refine wp_cd rfl (fun c13 => ?_) (fun c13 => ?_)
    · refine wp_sc (wp_sq (sq_v rfl (v_move rfl) rfl (sq_v rfl (v_assign rfl) rfl (sq_end (qs_n (wp_rt (qs_br (qs_r (qs_r (qs_br (qs_r ?_))))))))))); exact qs_ret1 rfl rfl (fin_q (i := 0) rfl (by have e : i = lowE C := (by rcases Nat.lt_or_ge i (lowE C) with h | h; (have := hlw.2.2 i h; omega); omega); rw [e]))
    · refine wp_sk (qs_bn (qs_n (wp_sq ?_))); refine sq_v rfl (v_add rfl rfl ((by unfold I64; omega))) rfl ?_; refine sq_v rfl (v_move rfl) rfl (sq_end ?_); exact qs_bk (i + 1) (by (rcases Nat.lt_or_ge i (lowE C) with h | h; omega; exfalso; have e : i = lowE C := (by omega); have h9 := hlw.2.1; rw [← e] at h9; omega)) (by omega) ⟨rfl, rfl, rfl, (by first | rfl | exact ksub rfl (by first | omega | (simp; done) | (simp; omega))), trivial⟩ (fun _ s => s)
  · refine wp_ex (qs_x (qs_x (qs_bx (qs_n (wp_sc (wp_sq (sq_v rfl (v_assign rfl) rfl (sq_end (qs_n (wp_rt ?_))))))))))
    exfalso; omega
/-- What a register's filling turns. -/
def PutO (C : List Int) (R : Int) (vu vc : Value) (b6 b8 : Nat) (h : PH) : Prop := ∃ hc, IntsO C vc hc ∧ Made h [hc, box b6 [vc] 25, box b8 [num R, vu] 33]
theorem ct_i_put (y R : Int) (C : List Int) (vu vc : Value) (b6 b8 : Nat) (w : World) (h : PH) (hle : PLe h (hp w)) (rs : PutO C R vu vc b6 b8 h) (he : ∃ j, j < C.length ∧ C.getD j 0 < 0) (hC : C.length ≤ 1000) :
    Calls Try.prog 43 [num y, ptrV b6, ptrV b8].toArray w (Ret w h (fun u h' => u = num (lowE C) ∧ PutO (C.set (lowE C) y) (max R ((lowE C : Int) + 1)) vu vc b6 b8 h')) := by
  obtain ⟨hc, rc, md⟩ := rs; have hlw := lowE_at he; refine calls_in Try.func43 rfl Try.ntmps43 rfl (Sat.open (A := [restP w h]) md (Sat.start2 hle)) ?_; have hle0 := rc.toR.le; refine wp_sc (wp_sq (sq_v rfl (v_assign rfl) rfl (sq_end (qs_n (wp_sc (wp_sq (sq_v rfl (v_loadB 2 ty_25 rfl rfl rfl) rfl (sq_u rfl (x_callv rfl en_44 (fun w s => ct_i_lowestEmpty _ _ w (rc.toR.mono (s.get 1 rfl)) (by first | assumption | omega))) rfl (sq_v rfl (v_assign rfl) rfl (sq_end (qs_n (wp_sc (wp_sq (sq_v rfl (v_loadB 2 ty_25 rfl rfl rfl) rfl (sq_v rfl (v_move rfl) rfl (sq_v rfl (v_move rfl) rfl ?_)))))))))))))))); refine sq_v rfl (v_idxI Try.underlying25 ty_3 rfl rfl rc.toR (by first | omega | (simp; omega) | (simp only [List.length_append, List.length_cons, List.length_nil]; omega) | (rw [List.length_set]; omega)) (by first | omega | (simp; omega) | (simp only [List.length_append, List.length_cons, List.length_nil]; omega) | (rw [List.length_set]; omega))) rfl ?_; refine sq_m 1 rfl rfl (m_storeI 1 ty_3 rfl rfl rfl rc (by first | omega | (simp; omega) | (simp only [List.length_append, List.length_cons, List.length_nil]; omega) | (rw [List.length_set]; omega))) rfl ?_; rintro _ h_q2_4 ⟨rfl, q2_4⟩; refine sq_end (qs_n (wp_sc (wp_sq (sq_v rfl (v_fieldAddr fd_33_0 ty_3 (by decide) rfl) rfl (sq_v rfl (v_loadB 3 ty_3 rfl rfl rfl) rfl (sq_v rfl (v_move rfl) rfl ?_)))))); refine sq_v rfl (v_add rfl rfl ((by unfold I64; omega))) rfl ?_; refine sq_v rfl (v_max rfl rfl) rfl (sq_v rfl (v_fieldAddr fd_33_0 ty_3 (by decide) rfl) rfl ?_); refine sq_m 3 rfl rfl (m_store1 3 ty_3 rfl rfl rfl rfl (Nat.le_of_ble_eq_true rfl)) rfl ?_; rintro _ _ ⟨rfl, rfl⟩; refine sq_end (qs_n (wp_sc (wp_sq (sq_v rfl (v_move rfl) rfl (sq_v rfl (v_assign rfl) rfl (sq_end (qs_n (wp_rt ?_)))))))); refine qs_close [restP w h] [h_q2_4, _, _] (fun _ s => s.pick [0, 1, 2, 3] (by decide) rfl) (fun md' => ?_); exact qs_ret1 rfl rfl (fin_m (i := 1) 0 rfl rfl rfl ⟨rfl, h_q2_4, q2_4, md'⟩)
/-- What a load turns. -/
def LodO (cs : List Value) (q : Cpl) (vu vc : Value) (b6 b8 : Nat) (h : PH) : Prop := ∃ ho hc, RowO 81 cs q.os.length 5 vu ho ∧ IntsO q.C vc hc ∧ Made h [ho, hc, box b6 [vc] 25, box b8 [num q.R, vu] 33]
theorem en_43x : EnterOK Try.prog 43 := ⟨_, Try.func43, by kernel_rfl, rfl⟩
theorem en_45x : EnterOK Try.prog 45 := ⟨_, Try.func45, by kernel_rfl, rfl⟩
abbrev putV (b6 b8 : Nat) : Value := .func (.func 43) #[] [ptrV b6, ptrV b8].toArray
theorem posE_no {C : List Int} {y : Int} {j : Nat} (h : j < posE C y) : C.getD j 0 ≠ y := fun e => by
  have := (firstI_spec (fun x => decide (x = y)) C).2.1 j h; exact absurd e (of_decide_eq_false this)
set_option maxHeartbeats 2000000 in
theorem ct_i_load (y : Int) (q : Cpl) (cs : List Value) (ts : List Ten) (vt vu vc : Value) (b2 b6 b8 b9 : Nat) (w : World) (h : PH) (hle : PLe h (hp w)) (rs : LodO cs q vu vc b6 b8 h) (rt : TensR ts vt (restP w h)) (h2 : cellP (restP w h) b2 3 = some vt) (h9 : cellP (restP w h) b9 0 = some (putV b6 b8))
    (he : y < ts.length → ∃ j, j < q.C.length ∧ q.C.getD j 0 < 0) (has : ¬ y < ts.length → ∃ j, j < q.C.length ∧ q.C.getD j 0 = y) (hC : q.C.length ≤ 1000) (hN : q.os.length ≤ 100000) :
    Calls Try.prog 45 [num y, .pointer (some ⟨b2, 0, none⟩), .pointer (some ⟨b6, 0, none⟩), .pointer (some ⟨b9, 0, none⟩), .pointer (some ⟨b8, 0, none⟩)].toArray w (Ret w h (fun u h' => u = num (q.at ts.length y) ∧ ∃ cs' vu', (∀ hl, OpH q.os cs hl → OpH (q.load ts.length y).os cs' hl) ∧ LodO cs' (q.load ts.length y) vu' vc b6 b8 h')) := by
  obtain ⟨ho, hc, ra, rc, md⟩ := rs; refine calls_in Try.func45 rfl Try.ntmps45 rfl (Sat.open (A := [restP w h]) md (Sat.start2 hle)) ?_; have hle0 := rt.le; obtain ⟨cs_rt, rr_rt, hc_rt⟩ := rt.at; have hle1 := rc.toR.le; refine wp_sc (wp_sq (sq_v rfl (v_assign rfl) rfl (sq_end (qs_n (wp_sc (wp_sc (wp_sq (sq_v rfl (v_move rfl) rfl (sq_v rfl (v_fieldAddr fd_39_1 ty_37 (by decide) rfl) rfl (sq_v rfl (v_load 0 ty_37 rfl rfl h2) rfl (sq_v rfl (v_len Try.underlying37 rfl rt.sl) rfl (sq_v rfl (v_geq rfl rfl) rfl (sq_end (qs_n ?_)))))))))))))); refine wp_cd rfl (fun c14 => ?_) (fun c14 => ?_)
  · refine wp_sc (wp_sq (sq_v rfl (v_loadB 3 ty_25 rfl rfl rfl) rfl (sq_v rfl (v_len Try.underlying25 rfl rc.toR.sl) rfl (sq_v rfl (v_move rfl) rfl (sq_end (qs_n (wp_bl ?_))))))); refine wp_lp (σ := Nat) (fun z_ => [(0, num y), (3, .pointer (some ⟨b9, 0, none⟩)), (4, .pointer (some ⟨b8, 0, none⟩)), (6, num 0), (15, vc), (16, num q.C.length), (17, num z_)]) (fun z_ => [(restP w h), ho, hc, box b6 [vc] 25, box b8 [num q.R, vu] 33]) (fun z_ => z_ ≤ posE q.C y) (fun z_ => posE q.C y + 1 - z_) 0 (by omega) ⟨rfl, rfl, rfl, rfl, rfl, rfl, (by first | rfl | exact ksub rfl (by first | omega | (simp; done) | (simp; omega))), trivial⟩ (fun _ s => s) ?_; rintro i hi; have hps := posE_at (has (by omega)); refine wp_sc (wp_sq (sq_v rfl (v_lss rfl rfl) rfl (sq_end (qs_n (wp_sc ?_))))); refine wp_cd rfl (fun c18 => ?_) (fun c18 => ?_)
    · refine wp_sk (qs_n (wp_sc (wp_bl (wp_sc (wp_sq (sq_v rfl (v_move rfl) rfl ?_)))))); refine sq_v rfl (v_idxI Try.underlying25 ty_3 rfl rfl rc.toR (by first | omega | (simp; omega) | (simp only [List.length_append, List.length_cons, List.length_nil]; omega) | (rw [List.length_set]; omega)) (by first | omega | (simp; omega) | (simp only [List.length_append, List.length_cons, List.length_nil]; omega) | (rw [List.length_set]; omega))) rfl ?_; refine sq_v rfl (v_loadI (k := i) 2 ty_3 rfl rfl rc.toR (by first | omega | (simp; omega) | (simp only [List.length_append, List.length_cons, List.length_nil]; omega) | (rw [List.length_set]; omega))) rfl ?_; refine sq_v rfl (v_assign rfl) rfl (sq_v rfl (v_assign rfl) rfl (sq_end (qs_n (wp_sc (wp_sq (sq_v rfl (v_move rfl) rfl (sq_v rfl (v_move rfl) rfl (sq_v rfl (v_eql rfl rfl) rfl (sq_end (qs_n ?_)))))))))); refine wp_cd rfl (fun c24 => ?_) (fun c24 => ?_)
      · refine wp_sc (wp_sq (sq_v rfl (v_move rfl) rfl (sq_v rfl (v_assign rfl) rfl (sq_end (qs_n (wp_rt (qs_br (qs_r (qs_r (qs_br (qs_r ?_))))))))))); have e : i = posE q.C y := by rcases Nat.lt_or_ge i (posE q.C y) with h | h; exact absurd c24 (posE_no h); omega
        obtain ⟨l1, l2⟩ := load_no (s := q) (show ¬ y < ts.length by omega); refine qs_close [restP w h] [ho, hc, _, _] (fun _ s => s.pick [0, 1, 2, 3, 4] (by decide) rfl) (fun md' => ?_); exact qs_ret1 rfl rfl (fin_m (i := 1) 0 rfl rfl rfl ⟨by rw [l2, e], cs, vu, by rw [l1]; exact fun _ o => o, by rw [l1]; exact ⟨ho, hc, ra, rc, md'⟩⟩)
      · refine wp_sk (qs_bn (qs_n (wp_sq ?_))); refine sq_v rfl (v_add rfl rfl ((by unfold I64; omega))) rfl ?_; refine sq_v rfl (v_move rfl) rfl (sq_end ?_); exact qs_bk (i + 1) (by (rcases Nat.lt_or_ge i (posE q.C y) with h | h; omega; exfalso; have e : i = posE q.C y := (by omega); have h9 := hps.2; rw [← e] at h9; exact c24 h9)) (by omega) ⟨rfl, rfl, rfl, rfl, rfl, rfl, (by first | rfl | exact ksub rfl (by first | omega | (simp; done) | (simp; omega))), trivial⟩ (fun _ s => s)
    · exfalso; omega
  · refine wp_sk (qs_n (wp_sc (wp_sq ?_))); have hem := he (by omega); refine sq_close [_, _] [hc, box b6 [vc] 25, box b8 [num q.R, vu] 33] (fun _ s => s.pick [0, 1, 2, 3, 4] (by decide) rfl) (fun md => ?_); refine sq_v rfl (v_load 1 ty_87 rfl rfl h9) rfl (sq_v rfl (v_move rfl) rfl ?_); refine sq_m 0 rfl rfl (x_callFm rfl rfl en_43x (fun w s => ct_i_put y q.R q.C vu vc b6 b8 w _ (s.get 0 rfl) ⟨hc, rc, md⟩ hem hC)) rfl ?_; rintro _ h29 ⟨rfl, hp2⟩; refine sq_v rfl (v_assign rfl) rfl (sq_end ?_); obtain ⟨hc2, rc2, md2⟩ := hp2; refine qs_s [restP w h, ho, hc2, box b6 [vc] 25, box b8 [num (max q.R ((lowE q.C : Int) + 1)), vu] 33] (fun _ s => Sat.open (A := [restP w h, ho]) md2 (s.pick [0, 1, 2] (by decide) rfl)) ?_
    skip
    have hlw := lowE_at hem; refine qs_n (wp_sc (wp_sq (sq_v rfl (v_fieldAddr fd_33_1 ty_31 (by decide) rfl) rfl (sq_v rfl (v_loadB 4 ty_31 rfl rfl rfl) rfl (sq_v rfl (v_move rfl) rfl (sq_v rfl (v_move rfl) rfl (sq_v rfl (v_build [num 1, num (lowE q.C), num y, num 0, .slice none 0 0] rfl (by kernel_rfl)) rfl ?_))))))); refine sq_x rfl (x_buildS [.agg [num 1, num (lowE q.C), num y, num 0, .slice none 0 0].toArray] Try.underlying31 ty_81 (by decide) rfl rfl rfl (by decide) (by decide) (by intro v hv; simp at hv; subst hv; rfl)) rfl ?_; intro v35 h35 (r35 : RowO 81 [num 1, num (lowE q.C), num y, num 0, .slice none 0 0] 1 5 v35 h35); refine sq_m 2 rfl rfl (m_append 2 0 Try.underlying31 ty_81 rfl rfl (by decide) rfl rfl rfl ra rfl r35.toR (by simp [one_int, one_sl]) (by unfold maxLen; omega) (by omega)) rfl ?_; intro v36 h_r36 (r36 : RowO 81 (cs ++ [num 1, num (lowE q.C), num y, num 0, .slice none 0 0]) (q.os.length + 1) 5 v36 h_r36); refine sq_v rfl (v_fieldAddr fd_33_1 ty_31 (by decide) rfl) rfl ?_; refine sq_m 5 rfl rfl (m_store1 5 ty_31 rfl rfl r36.toR.sl.one rfl (Nat.le_of_ble_eq_true rfl)) rfl ?_; rintro _ _ ⟨rfl, rfl⟩; refine sq_end (qs_n (wp_sc (wp_sq (sq_v rfl (v_move rfl) rfl (sq_v rfl (v_assign rfl) rfl (sq_end (qs_n (wp_rt ?_)))))))); obtain ⟨l1, l2⟩ := load_yes (s := q) (show y < ts.length by omega); refine qs_close [restP w h] [h_r36, hc2, _, _] (fun _ s => s.pick [1, 2, 3, 4, 5] (by decide) rfl) (fun md' => ?_); exact qs_ret1 rfl rfl (fin_m (i := 1) 0 rfl rfl rfl ⟨by rw [l2], _, v36, by rw [l1]; exact fun _ o => o.add0, by rw [l1]; exact ⟨h_r36, hc2, by simp only [List.length_append, List.length_cons, List.length_nil]; exact r36, rc2, md'⟩⟩)
end Go.Proofs.Ythlmjnihihbckaa
