/-
  At every network the program's SumPrivate returns what the reference's returns; the result shares no memory with the argument.
  Conditions: none.
-/
import Derived.Test.YtehjljijionhaaaQSumPrivate6
namespace Go.Proofs.Ytehjljijionhaaa
set_option maxRecDepth 100000
open Go.RowKit
theorem OwnL.piece {ts : List Ten} {vs : List Value} {l : List PH} (o : OwnL (flat ts) vs l) {k : Nat} {t : Ten} (h : ts[k]? = some t) : OwnL (flat [t]) ((vs.drop (k * 3)).take 3) ((l.drop (k * 3)).take 3) := by
  have hk := (List.getElem?_eq_some_iff.1 h).1; have e : ((flat ts).drop (k * 3)).take 3 = flat [t] := by
    rw [← (flat_take (Nat.le_of_lt hk)).2, drop_at h]; rfl
  have := (o.drop (k * 3)).take 3
  rwa [e] at this
theorem OwnL.dropK {ts : List Ten} {vs : List Value} {l : List PH} (o : OwnL (flat ts) vs l) (p q : Nat) : ∀ k, k ≤ ts.length → OwnL (flat (dropK 1 ts p q k)) (dropK 3 vs p q k) (dropK 3 l p q k)
  | 0, _ => OwnL.nil
  | k + 1, hk => by
    have ih := OwnL.dropK o p q k (by omega); have ht : ts[k]? = some ts[k] := List.getElem?_eq_getElem (by omega)
    by_cases h : k ≠ p ∧ k ≠ q
    · rw [dropK_yes h, dropK_yes h, dropK_yes h, one_drop ht, flat_append]; exact ih.append (o.piece ht)
    · rw [dropK_no h, dropK_no h, dropK_no h]; exact ih
theorem dropK_sub {α : Type} (m : Nat) (l : List α) (p q : Nat) : ∀ k, (dropK m l p q k).Sublist (l.take (k * m))
  | 0 => by simp [dropK]
  | k + 1 => by
    have ih := dropK_sub m l p q k; have e : l.take ((k + 1) * m) = l.take (k * m) ++ (l.drop (k * m)).take m := by rw [Nat.add_mul, Nat.one_mul, List.take_add]
    rw [e]
    by_cases h : k ≠ p ∧ k ≠ q
    · rw [dropK_yes h]; exact ih.append (List.Sublist.refl _)
    · rw [dropK_no h]; exact ih.trans (List.sublist_append_left _ _)
theorem OwnH.dropK {ts : List Ten} {cs : List Value} {h : PH} (o : OwnH (flat ts) cs h) (p q : Nat) : ∃ g, PLe g h ∧ OwnH (flat (dropK 1 ts p q ts.length)) (dropK 3 cs p q ts.length) g := by
  obtain ⟨l, ol, m⟩ := o; have hs := (dropK_sub 3 l p q ts.length).trans (List.take_sublist _ _); have hsep := sep_mono m.sep hs; refine ⟨joinP (Go.Proofs.Ytehjljijionhaaa.dropK 3 l p q ts.length), fun k o e => ?_, _, ol.dropK p q _ (Nat.le_refl _), Made.join hsep⟩; obtain ⟨y, hy, e'⟩ := joinP_dom e; exact m.le y (hs.subset hy) k o e'
theorem perm_all {k p n : Int} {t : Ten} {ls : List Int} (h : PermOK k p n t ls) : ∀ m : Nat, ((permX (widthI k n) t ls (permD t ls) m).length : Int) = m * widthI k n ∧ ∀ a ∈ permX (widthI k n) t ls (permD t ls) m, 0 ≤ a ∧ a ≤ topI k p n
  | 0 => by simp [permX]
  | m + 1 => by
    have ih := perm_all h m; have ho := h.off m; have he := elt_inR h.ten ho.1 ho.2; have hw := width_range h.ring; rw [permX_step]; refine ⟨?_, fun a ha => ?_⟩
    · rw [List.length_append, he.1, Int.natCast_add, ih.1, show ((m + 1 : Nat) : Int) = (m : Int) + 1 from rfl, Int.add_mul, Int.one_mul]; omega
    · rcases List.mem_append.1 ha with ha | ha
      · exact ih.2 a ha
      · exact he.2 a ha
theorem perm_axes {k p n : Int} {t : Ten} {ls : List Int} (h : PermOK k p n t ls) : axesL ls (permD t ls) := by
  refine ⟨h.len.2.2, (permD_len t ls).symm, fun j hj => ⟨?_, h.dims j (by rw [permD_len]; exact hj), nodup_not_take h.nodup hj⟩⟩; obtain ⟨i, hi, e⟩ := getD_of_mem (h.perm.mem_iff.1 (mem_getD hj)); rw [← e]; exact (h.axes.2.2 i hi).1
theorem perm_ten {k p n : Int} {t : Ten} {ls : List Int} (h : PermOK k p n t ls) : tensorL k p n (permT k n t ls).l (permT k n t ls).d (permT k n t ls).x := by
  have hs := h.small; have ha := perm_axes h; have hx := perm_all h (prodI (permD t ls)).toNat; refine ⟨h.ring, sizeI_ge.2 ⟨ha, hs.2⟩, ?_, hx.2⟩
  show ((permX (widthI k n) t ls (permD t ls) (prodI (permD t ls)).toNat).length : Int) = sizeI ls (permD t ls) * widthI k n
  rw [sizeI_yes ha hs.2, hx.1, show (((prodI (permD t ls)).toNat : Nat) : Int) = prodI (permD t ls) by omega]
theorem net_open {k p n : Int} {ts : List Ten} {op : List Int} (h : netL k p n ts op) : op.Nodup ∧ op.length ≤ 12 := by
  have ha := (sizeI_ge.1 h.2.2.2.2).1; exact ⟨axes_nodup ha, ha.1⟩
theorem mem_keep {t u : Ten} {ks : List Int} {x : Int} : x ∈ keepL t u ks ↔ (x ∈ t.l ∨ x ∈ u.l) ∧ x ∈ ks := by
  unfold keepL
  rw [List.mem_filter, mem_joinI, decide_eq_true_eq]
theorem sum_ten {k p n : Int} {t : Ten} (ht : tensorL k p n t.l t.d t.x) (ks : List Int) : tensorL k p n (sumR k p n t ks).l (sumR k p n t ks).d (sumR k p n t ks).x ∧ (sumR k p n t ks).l = keepL t (oneT k p n) ks ∧ (sumR k p n t ks).d = (keepL t (oneT k p n) ks).map (dimJ t (oneT k p n)) := by
  have := pair_ten (sum_pair ht ks)
  rwa [sumR_pair ht] at this
theorem fin_perm {k p n : Int} {t : Ten} {op : List Int} (ht : tensorL k p n t.l t.d t.x) (hn : op.Nodup) (hs : ∀ x ∈ op, x ∈ t.l) : PermOK k p n (sumR k p n t op) op := by
  obtain ⟨h1, h2, _⟩ := sum_ten ht op; have hk : ∀ x, x ∈ (sumR k p n t op).l ↔ x ∈ op := fun x => by
    rw [h2, mem_keep]; exact ⟨fun h => h.2, fun h => ⟨.inl (hs x h), h⟩⟩
  exact ⟨ht.1, h1, perm_of hn (fun x hx => (hk x).2 hx) (pigeon (axes_nodup (ten_axes h1)) fun x hx => (hk x).1 hx)⟩
noncomputable def finT (k p n : Int) (t : Ten) (op : List Int) : Ten := permT k n (sumR k p n t op) op
def finP (k p n : Int) (ts : List Ten) (op : List Int) (t : Ten) : Prop := netL k p n ts op ∧ tensorL k p n t.l t.d t.x ∧ ∀ x ∈ op, x ∈ t.l
theorem finP.perm {k p n : Int} {ts : List Ten} {op : List Int} {t : Ten} (h : finP k p n ts op t) : PermOK k p n (sumR k p n t op) op := fin_perm h.2.1 (net_open h.1).1 h.2.2
def conP (k p n : Int) (ts : List Ten) (op : List Int) (ss : List Stp) : Prop := orderL k p n ts op ss ∧ ∀ j, j < ss.length → runFit k p n ts op ss j
noncomputable def lastT (k p n : Int) (ts : List Ten) (op : List Int) (ss : List Stp) : Ten := (runTo k p n ts op ss ss.length).getD (ts.length + ss.length - 1) noTen
noncomputable def conT (k p n : Int) (ts : List Ten) (op : List Int) (ss : List Stp) : Ten := if ts.length = 0 then oneT k p n else finT k p n (lastT k p n ts op ss) op
section
variable {k p n : Int} {ts : List Ten} {op : List Int} {ss : List Stp}
theorem conP.last (h : conP k p n ts op ss) (hn : ts.length ≠ 0) : finP k p n ts op (lastT k p n ts op ss) ∧ outTo k p n ts op ss ss.length = [lastT k p n ts op ss] := by
  have r := run_ok h.1 ss.length (Nat.le_refl _) h.2; have hl := run_left h.1 (fun e => hn (by rw [e]; rfl)); have hg := r.get (j := ts.length + ss.length - 1) (by omega); refine ⟨⟨h.1.1, hg.1, fun x hx => ?_⟩, by rw [outTo, hl]; rfl⟩; obtain ⟨j, hj, hxj⟩ := run_open h.1 hx ss.length (Nat.le_refl _); rw [hl] at hj
  simp at hj
  show x ∈ ((runTo k p n ts op ss ss.length).getD (ts.length + ss.length - 1) noTen).l
  rw [hg.2.1, ← hj]; exact hxj
theorem conP.empty (h : conP k p n ts op ss) (hn : ts.length = 0) : op = [] := by
  refine List.eq_nil_iff_forall_not_mem.2 fun x hx => ?_; obtain ⟨j, hj, e⟩ := getD_of_mem hx; have ho := (open_at h.1.1.2.2.2.2 hj).2; have e0 : ts = [] := List.eq_nil_of_length_eq_zero hn; rw [e0] at ho
  simp [dimOf] at ho
theorem conP.ten (h : conP k p n ts op ss) : tensorL k p n (conT k p n ts op ss).l (conT k p n ts op ss).d (conT k p n ts op ss).x ∧ (conT k p n ts op ss).l = op := by
  unfold conT
  by_cases hn : ts.length = 0
  · rw [if_pos hn]; exact ⟨one_ten h.1.1.1, (h.empty hn).symm⟩
  · rw [if_neg hn]; exact ⟨perm_ten (h.last hn).1.perm, rfl⟩
end
end Go.Proofs.Ytehjljijionhaaa
namespace Go.Proofs.Ytehjljijionhaaa
set_option maxRecDepth 100000
open Go.RowKit
theorem ten_size {k p n : Int} {t : Ten} (h : tensorL k p n t.l t.d t.x) : tenSize t ≤ 30000 := by
  have hl := ten_len h; have hw := width_range h.1; have hs := sizeI_ge.1 h.2.1; have hx := h.2.2.1; rw [sizeI_yes hs.1 hs.2] at hx; have hm : prodI t.d * widthI k n ≤ 4096 * 6 := Int.mul_le_mul hs.2 hw.2 (by omega) (by omega)
  unfold tenSize
  omega
theorem tensSize_few {ts : List Ten} {B : Int} (h : ∀ t ∈ ts, tenSize t ≤ B) : tensSize ts ≤ ts.length * B := by
  induction ts with
  | nil => simp [tensSize]
  | cons t ts ih =>
    have h1 := h t (by simp); have h2 := ih fun x hx => h x (by simp [hx]); simp only [tensSize, List.length_cons]; rw [show ((ts.length + 1 : Nat) : Int) = (ts.length : Int) + 1 from rfl, Int.add_mul, Int.one_mul]
    omega
theorem tens_size {k p n : Int} {ts : List Ten} (h : ∀ t ∈ ts, tensorL k p n t.l t.d t.x) : tensSize ts ≤ ts.length * 30000 := tensSize_few fun t ht => ten_size (h t ht)
end Go.Proofs.Ytehjljijionhaaa
namespace Go.Proofs.Ytehjljijionhaaa
set_option maxRecDepth 100000
open Go.RowKit
theorem one_drop_none {α : Type} {l : List α} {k : Nat} (h : l[k]? = none) : (l.drop (k * 1)).take 1 = [] := by
  rw [Nat.mul_one, List.drop_of_length_le (List.getElem?_eq_none_iff.1 h)]; rfl
theorem mem_dropK {α : Type} {l : List α} {p q : Nat} {t : α} : ∀ k, t ∈ dropK 1 l p q k ↔ ∃ m, m < k ∧ m ≠ p ∧ m ≠ q ∧ l[m]? = some t
  | 0 => by simp [dropK]
  | k + 1 => by
    have ih := mem_dropK (l := l) (p := p) (q := q) (t := t) k; have hx : t ∈ (l.drop (k * 1)).take 1 ↔ l[k]? = some t := by
      cases h : l[k]? with
      | none => rw [one_drop_none h]; simp
      | some x => rw [one_drop h]; simp [eq_comm]
    by_cases hc : k ≠ p ∧ k ≠ q
    · rw [dropK_yes hc, List.mem_append, ih, hx]
      constructor
      · rintro (⟨m, h1, h2⟩ | h)
        · exact ⟨m, by omega, h2⟩
        · exact ⟨k, by omega, hc.1, hc.2, h⟩
      · rintro ⟨m, h1, h2, h3, h4⟩
        by_cases e : m = k
        · subst e; exact .inr h4
        · exact .inl ⟨m, by omega, h2, h3, h4⟩
    · rw [dropK_no hc, ih]
      constructor
      · rintro ⟨m, h1, h2⟩; exact ⟨m, by omega, h2⟩
      · rintro ⟨m, h1, h2, h3, h4⟩; have : m ≠ k := fun e => hc (e ▸ ⟨h2, h3⟩); exact ⟨m, by omega, h2, h3, h4⟩
def needS (ts : List Ten) (op : List Int) (i j m : Nat) : List Int := op ++ (dropK 1 ts i j m).flatMap (·.l)
def needI (ts : List Ten) (op : List Int) (i j m : Nat) : List Int := (dropK 1 ts i j m).foldl (fun a t => joinI a t.l) op
theorem mem_foldJ {l : List Ten} : ∀ {a : List Int} {x : Int}, x ∈ l.foldl (fun a t => joinI a t.l) a ↔ x ∈ a ∨ ∃ t ∈ l, x ∈ t.l := by
  induction l with
  | nil => intro a x; simp
  | cons t l ih =>
    intro a x; rw [List.foldl_cons, ih, mem_joinI]; simp only [List.mem_cons, exists_eq_or_imp, or_assoc]
theorem mem_needS {ts : List Ten} {op : List Int} {i j m : Nat} {x : Int} : x ∈ needS ts op i j m ↔ x ∈ op ∨ ∃ t ∈ dropK 1 ts i j m, x ∈ t.l := by
  simp [needS, List.mem_append, List.mem_flatMap]
theorem need_iff {ts : List Ten} {op : List Int} {i j m : Nat} (x : Int) : x ∈ needI ts op i j m ↔ x ∈ needS ts op i j m := by
  rw [mem_needS, needI, mem_foldJ]
section
variable {ts : List Ten} {op : List Int} {i j k : Nat} {t : Ten}
theorem needS_zero : needS ts op i j 0 = op := by simp [needS, dropK]
theorem needI_zero : needI ts op i j 0 = op := rfl
theorem needS_yes (ht : ts[k]? = some t) (h : k ≠ i ∧ k ≠ j) : needS ts op i j (k + 1) = needS ts op i j k ++ t.l := by
  unfold needS
  rw [dropK_yes h, one_drop ht, List.flatMap_append]
  simp
theorem needS_no (h : ¬ (k ≠ i ∧ k ≠ j)) : needS ts op i j (k + 1) = needS ts op i j k := by unfold needS; rw [dropK_no h]
theorem needI_yes (ht : ts[k]? = some t) (h : k ≠ i ∧ k ≠ j) : needI ts op i j (k + 1) = joinI (needI ts op i j k) t.l := by
  unfold needI
  rw [dropK_yes h, one_drop ht, List.foldl_append]; rfl
theorem needI_no (h : ¬ (k ≠ i ∧ k ≠ j)) : needI ts op i j (k + 1) = needI ts op i j k := by unfold needI; rw [dropK_no h]
end
theorem need_len {ts : List Ten} {op : List Int} {i j : Nat} (h : ∀ t ∈ ts, t.l.length ≤ 12) : ∀ m, (needS ts op i j m).length ≤ op.length + 12 * m ∧ (needI ts op i j m).length ≤ op.length + 12 * m
  | 0 => by rw [needS_zero, needI_zero]; omega
  | m + 1 => by
    have ih := need_len (op := op) (i := i) (j := j) h m
    by_cases hc : m ≠ i ∧ m ≠ j
    · cases ht : ts[m]? with
      | none =>
        have e1 : needS ts op i j (m + 1) = needS ts op i j m := by unfold needS; rw [dropK_yes hc, one_drop_none ht, List.append_nil]
        have e2 : needI ts op i j (m + 1) = needI ts op i j m := by unfold needI; rw [dropK_yes hc, one_drop_none ht, List.append_nil]
        rw [e1, e2]; omega
      | some t =>
        have h12 := h t (List.mem_of_getElem? ht); have hj := joinI_len (needI ts op i j m) t.l; rw [needS_yes ht hc, needI_yes ht hc, List.length_append]
        omega
    · rw [needS_no hc, needI_no hc]; omega
def mgLo (i j : Int) : Nat := (min i j).toNat
def mgHi (i j : Int) : Nat := (max i j).toNat
def mgA (ts : List Ten) (i j : Int) : Ten := ts.getD (mgLo i j) noTen
def mgB (ts : List Ten) (i j : Int) : Ten := ts.getD (mgHi i j) noTen
def mergN (ts : List Ten) (op : List Int) (i j : Int) : List Int := needS ts op i.toNat j.toNat ts.length
def mergP (k p n : Int) (ts : List Ten) (op : List Int) (i j : Int) : Prop := netL k p n ts op ∧ (0 ≤ i ∧ i < ts.length) ∧ (0 ≤ j ∧ j < ts.length) ∧ i ≠ j ∧ pairP k p n (mgA ts i j) (mgB ts i j) (mergN ts op i j)
noncomputable def mergT (k p n : Int) (ts : List Ten) (op : List Int) (i j : Int) : Ten := pairR k p n (mgA ts i j) (mgB ts i j) (mergN ts op i j)
noncomputable def mergL (k p n : Int) (ts : List Ten) (op : List Int) (i j : Int) (m : Nat) : List Ten := dropK 1 (ts.set (mgLo i j) (mergT k p n ts op i j)) (mgHi i j) (mgHi i j) m
section
variable {k p n : Int} {ts : List Ten} {op : List Int} {i j : Int}
theorem merg_hi {m : Nat} (h : (m : Int) = max i j) : mergL k p n ts op i j (m + 1) = mergL k p n ts op i j m := by
  have e : m = mgHi i j := by unfold mgHi; omega
  unfold mergL
  rw [dropK_no (by omega)]
theorem merg_len (m : Nat) : (mergL k p n ts op i j m).length ≤ m := by
  have := dropK_len (m := 1) (cs := ts.set (mgLo i j) (mergT k p n ts op i j)) (p := mgHi i j) (q := mgHi i j) m
  unfold mergL; omega
theorem mergP.mem (h : mergP k p n ts op i j) {t : Ten} : t ∈ mergL k p n ts op i j ts.length ↔ t = mergT k p n ts op i j ∨ ∃ m, m < ts.length ∧ m ≠ mgLo i j ∧ m ≠ mgHi i j ∧ ts[m]? = some t := by
  obtain ⟨_, hi, hj, hne, _⟩ := h; have e : mgLo i j ≠ mgHi i j := by unfold mgLo mgHi; omega
  have e2 : mgLo i j < ts.length := by unfold mgLo; omega
  rw [mergL, mem_dropK]
  constructor
  · rintro ⟨m, h1, h2, _, h4⟩
    by_cases c : mgLo i j = m
    · subst c; rw [List.getElem?_set_self h1] at h4
      cases h4; exact .inl rfl
    · rw [List.getElem?_set_ne c] at h4; exact .inr ⟨m, h1, Ne.symm c, h2, h4⟩
  · rintro (rfl | ⟨m, h1, h2, h3, h4⟩)
    · exact ⟨mgLo i j, e2, e, e, List.getElem?_set_self e2⟩
    · exact ⟨m, h1, h3, h3, by rw [List.getElem?_set_ne (Ne.symm h2)]; exact h4⟩
theorem mergP.less (h : mergP k p n ts op i j) : (mergL k p n ts op i j ts.length).length + 1 ≤ ts.length := by
  obtain ⟨_, hi, hj, hne, _⟩ := h; have e : mgHi i j < ts.length := by unfold mgHi; omega
  have hs : ∀ (c m : Nat), mgHi i j < m → m = mgHi i j + 1 + c → (mergL k p n ts op i j m).length + 1 ≤ m := by
    intro c
    induction c with
    | zero =>
      intro m hm e; have := merg_len (k := k) (p := p) (n := n) (ts := ts) (op := op) (i := i) (j := j) (mgHi i j); rw [show m = mgHi i j + 1 by omega, merg_hi (by unfold mgHi; omega)]
      omega
    | succ c ih =>
      intro m hm e; have ih := ih (mgHi i j + 1 + c) (by omega) rfl; have e3 : mgHi i j + 1 + c ≠ mgHi i j := by omega
      rw [show m = (mgHi i j + 1 + c) + 1 by omega, mergL, dropK_yes ⟨e3, e3⟩, List.length_append, List.length_take]
      unfold mergL at ih
      omega
  exact hs (ts.length - (mgHi i j + 1)) ts.length e (by omega)
end
end Go.Proofs.Ytehjljijionhaaa
namespace Go.Proofs.Ytehjljijionhaaa
set_option maxRecDepth 100000
open Go.RowKit
theorem OwnH.at {ts : List Ten} {cs : List Value} {h : PH} (o : OwnH (flat ts) cs h) (i : Nat) (hi : i < ts.length) : ∃ t a b c, ts[i]? = some t ∧ (cs.drop (i * 3)).take 3 = [a, b, c] ∧ IntsR t.l a h ∧ IntsR t.d b h ∧ IntsR t.x c h := by
  obtain ⟨l, ol, m⟩ := o; have ht : ts[i]? = some ts[i] := List.getElem?_eq_getElem hi; obtain ⟨f1, f2, f3⟩ := tens_get ht; obtain ⟨a, h1, e1, g1, r1⟩ := ol.own _ _ f1; obtain ⟨b, h2, e2, g2, r2⟩ := ol.own _ _ f2; obtain ⟨c, h3, e3, g3, r3⟩ := ol.own _ _ f3; exact ⟨_, a, b, c, ht, three_at e1 e2 e3, r1.toR.mono (m.le _ (List.mem_of_getElem? g1)), r2.toR.mono (m.le _ (List.mem_of_getElem? g2)), r3.toR.mono (m.le _ (List.mem_of_getElem? g3))⟩
end Go.Proofs.Ytehjljijionhaaa
namespace Go.Proofs.Ytehjljijionhaaa
set_option maxRecDepth 100000
open Go.RowKit
set_option maxHeartbeats 1000000 in
theorem ct_s_l14Needed (k p n : Int) (ts : List Ten) (op : List Int) (i j : Int) (vt vo : Value) (w : World) (r : TensR ts vt (hp w)) (r' : IntsR op vo (hp w)) (hok : ∀ t ∈ ts, t.l.length ≤ 12) (h12 : ts.length ≤ 12) (hs : op.length ≤ 1048576) (hij : 0 ≤ i ∧ 0 ≤ j) :
    Calls Try.prog 36 [netV k p n vt vo, num i, num j].toArray w (Ret w emp (IntsO (needS ts op i.toNat j.toNat ts.length))) := by
  refine calls_in Try.func36 rfl Try.ntmps36 rfl (Sat.start w) ?_; have hle0 := r.le; obtain ⟨cs_r, rr_r, hc_r⟩ := r.at; have hle1 := r'.le; refine wp_sc (wp_sq ?_); refine sq_x rfl (x_box rfl rfl) rfl ?_; rintro _ _ ⟨b3, rfl, rfl⟩; refine sq_v rfl (v_assign rfl) rfl ?_; refine sq_end (qs_n (wp_sc (wp_sq ?_))); refine sq_v rfl (v_fieldAddr fd_32_2 ty_25 (by decide) rfl) rfl ?_; refine sq_v rfl (v_loadB 0 ty_25 rfl rfl rfl) rfl ?_; refine sq_x rfl (x_call rfl en_38 (fun w s => ct_s_l05Ints _ _ w (r'.mono (s.get 1 rfl)) (by first | assumption | omega))) rfl ?_; rintro v12 h12 r12; refine sq_v rfl (v_assign rfl) rfl ?_; refine sq_end (qs_n (wp_sc (wp_sc (wp_sq ?_)))); refine sq_v rfl (v_fieldAddr fd_32_1 ty_30 (by decide) rfl) rfl ?_; refine sq_v rfl (v_loadB 1 ty_30 rfl rfl rfl) rfl ?_; refine sq_v rfl (v_len Try.underlying30 rfl r.sl) rfl ?_; refine sq_v rfl (v_move rfl) rfl ?_; refine sq_end (qs_n (wp_bl ?_)); refine wp_lp (σ := Nat × Value × PH) (fun z_ => [(1, num i), (2, num j), (6, .slice none 0 0), (7, z_.2.1), (14, vt), (15, num ts.length), (16, num z_.1)]) (fun z_ => [z_.2.2, box b3 [num k, num p, num n, vt, vo] 32, hp w]) (fun z_ => z_.1 ≤ ts.length ∧ IntsO (needS ts op i.toNat j.toNat z_.1) z_.2.1 z_.2.2) (fun z_ => ts.length - z_.1) (0, v12, h12) (⟨by (try dsimp only); omega, by (try dsimp only); rw [needS_zero]; exact r12⟩) ⟨rfl, rfl, rfl, (by first | rfl | exact ksub rfl (by first | omega | (simp; done) | (simp; omega))), rfl, rfl, (by first | rfl | exact ksub rfl (by first | omega | (simp; done) | (simp; omega))), trivial⟩ (fun _ s => s) ?_; rintro ⟨m, lv, lh⟩ ⟨hm, q⟩; dsimp only at hm q ⊢; have hle_q := q.toR.le; have hnl := (need_len (op := op) (i := i.toNat) (j := j.toNat) hok m).1; refine wp_sc (wp_sq ?_); refine sq_v rfl (v_lss rfl rfl) rfl ?_; refine sq_end (qs_n (wp_sc ?_)); refine wp_cd rfl (fun c17 => ?_) (fun c17 => ?_)
  · refine wp_sk (qs_n (wp_sc (wp_bl (wp_sc (wp_sq ?_))))); refine sq_v rfl (v_move rfl) rfl ?_; obtain ⟨t19, a19, b19, c19, ht19, hcs19, rl19, rd19, rx19⟩ := hc_r (m) (by first | omega | (rw [List.length_set]; omega)); refine sq_v rfl (v_indexAddr Try.underlying30 ty_44 rfl rfl rr_r (by decide) (by omega) (by omega)) rfl ?_; refine sq_v rfl (v_loadNE 2 ty_44 rfl rfl rr_r (by have := rr_r.1; omega) rfl hcs19) rfl ?_; refine sq_x rfl (x_alloc ty_44 rfl) rfl ?_; rintro _ _ ⟨b9, rfl, rfl⟩; refine sq_v rfl (v_assign rfl) rfl ?_; refine sq_m 0 rfl rfl (m_store 0 ty_44 rfl rfl rfl rfl (by simp [rl19.sl.one, rd19.sl.one, rx19.sl.one]) rfl (Nat.le_of_ble_eq_true rfl)) rfl ?_; rintro _ _ ⟨rfl, rfl⟩; refine sq_end ?_; have ht12 := hok t19 (List.mem_of_getElem? ht19); refine qs_n (wp_sc (wp_sq ?_)); refine sq_v rfl (v_move rfl) rfl ?_; refine sq_v rfl (v_move rfl) rfl ?_; refine sq_v rfl (v_neq rfl rfl) rfl ?_; refine sq_bd 23 rfl (fun c23 => ?_) (fun c23 => ?_)
    · refine sq_v rfl (v_move rfl) rfl ?_; refine sq_v rfl (v_move rfl) rfl ?_; refine sq_v rfl (v_move rfl) rfl ?_; refine sq_v rfl (v_neq rfl rfl) rfl ?_; refine sq_v rfl (v_pickt rfl rfl) rfl ?_; refine sq_end (qs_n ?_); refine wp_cd rfl (fun c28 => ?_) (fun c28 => ?_)
      · refine wp_sq ?_; refine sq_v rfl (v_move rfl) rfl ?_; refine sq_v rfl (v_fieldAddr fd_44_0 ty_25 (by decide) rfl) rfl ?_; refine sq_v rfl (v_loadB 0 ty_25 rfl rfl rfl) rfl ?_; refine sq_m 1 rfl rfl (m_appI 1 3 Try.underlying25 ty_3 rfl rfl rfl rfl q rfl rl19 (by first | omega | (simp only [List.length_cons, List.length_nil]; omega) | (simp only [List.length_append, List.length_cons, List.length_nil]; omega) | (rw [List.length_set]; omega) | (rw [List.length_replicate]; omega) | (simp; omega))) rfl ?_; intro v32 h_r32 r32; refine sq_v rfl (v_assign rfl) rfl ?_; refine sq_end (qs_bn (qs_n (wp_sq ?_))); refine sq_v rfl (v_add rfl rfl ((by unfold I64; omega))) rfl ?_; refine sq_v rfl (v_move rfl) rfl ?_; refine sq_end ?_; exact qs_bk (m + 1, v32, h_r32) ⟨by (try dsimp only); omega, by (try dsimp only); rw [needS_yes ht19 ⟨by omega, by omega⟩]; exact r32⟩ (by simp only; omega) ⟨rfl, rfl, rfl, (by first | rfl | exact ksub rfl (by first | omega | (simp; done) | (simp; omega))), rfl, rfl, (by first | rfl | exact ksub rfl (by first | omega | (simp; done) | (simp; omega))), trivial⟩ (fun _ s => s.pick [1, 2, 3] (by decide) rfl)
      · refine wp_sk (qs_bn (qs_n (wp_sq ?_))); refine sq_v rfl (v_add rfl rfl ((by unfold I64; omega))) rfl ?_; refine sq_v rfl (v_move rfl) rfl ?_; refine sq_end ?_; exact qs_bk (m + 1, lv, lh) ⟨by (try dsimp only); omega, by (try dsimp only); rw [needS_no (by omega)]; exact q⟩ (by simp only; omega) ⟨rfl, rfl, rfl, (by first | rfl | exact ksub rfl (by first | omega | (simp; done) | (simp; omega))), rfl, rfl, (by first | rfl | exact ksub rfl (by first | omega | (simp; done) | (simp; omega))), trivial⟩ (fun _ s => s.pick [1, 2, 3] (by decide) rfl)
    · refine sq_v rfl (v_move rfl) rfl ?_; refine sq_s rfl rfl ?_; refine sq_s rfl rfl ?_; refine sq_s rfl rfl ?_; refine sq_v rfl (v_pickf rfl rfl) rfl ?_; refine sq_end (qs_n ?_); refine wp_cf rfl ?_; refine wp_sk (qs_bn (qs_n (wp_sq ?_))); refine sq_v rfl (v_add rfl rfl ((by unfold I64; omega))) rfl ?_; refine sq_v rfl (v_move rfl) rfl ?_; refine sq_end ?_; exact qs_bk (m + 1, lv, lh) ⟨by (try dsimp only); omega, by (try dsimp only); rw [needS_no (by omega)]; exact q⟩ (by simp only; omega) ⟨rfl, rfl, rfl, (by first | rfl | exact ksub rfl (by first | omega | (simp; done) | (simp; omega))), rfl, rfl, (by first | rfl | exact ksub rfl (by first | omega | (simp; done) | (simp; omega))), trivial⟩ (fun _ s => s.pick [1, 2, 3] (by decide) rfl)
  · refine wp_ex (qs_x (qs_x (qs_bx (qs_n (wp_sc (wp_sq ?_)))))); refine sq_v rfl (v_move rfl) rfl ?_; refine sq_v rfl (v_assign rfl) rfl ?_; refine sq_end (qs_n (wp_rt ?_)); exact qs_ret1 rfl rfl (fin_t 0 (i := 2) rfl rfl rfl (by rw [show ts.length = m by omega]; exact q))
set_option maxHeartbeats 1000000 in
theorem ct_i_labelsElsewhere (k p n : Int) (ts : List Ten) (op : List Int) (i j : Int) (vt vo : Value) (w : World) (r : TensR ts vt (hp w)) (r' : IntsR op vo (hp w)) (hok : ∀ t ∈ ts, t.l.length ≤ 12) (h12 : ts.length ≤ 12) (hs : op.length ≤ 12) (hij : 0 ≤ i ∧ 0 ≤ j) :
    Calls Try.prog 46 [netV k p n vt vo, num i, num j].toArray w (Ret w emp (IntsO (needI ts op i.toNat j.toNat ts.length))) := by
  refine calls_in Try.func46 rfl Try.ntmps46 rfl (Sat.start w) ?_; have hle0 := r.le; obtain ⟨cs_r, rr_r, hc_r⟩ := r.at; have hle1 := r'.le; refine wp_sc (wp_sq ?_); refine sq_x rfl (x_box rfl rfl) rfl ?_; rintro _ _ ⟨b3, rfl, rfl⟩; refine sq_v rfl (v_assign rfl) rfl ?_; refine sq_end (qs_n (wp_sc (wp_sq ?_))); refine sq_v rfl (v_fieldAddr fd_32_2 ty_25 (by decide) rfl) rfl ?_; refine sq_v rfl (v_loadB 0 ty_25 rfl rfl rfl) rfl ?_; refine sq_x rfl (x_call rfl en_47 (fun w s => ct_i_copyInts _ _ w (r'.mono (s.get 1 rfl)) (by first | assumption | omega))) rfl ?_; rintro v12 h12 r12; refine sq_v rfl (v_assign rfl) rfl ?_; refine sq_end (qs_n (wp_sc (wp_sc (wp_sq ?_)))); refine sq_v rfl (v_fieldAddr fd_32_1 ty_30 (by decide) rfl) rfl ?_; refine sq_v rfl (v_loadB 1 ty_30 rfl rfl rfl) rfl ?_; refine sq_v rfl (v_len Try.underlying30 rfl r.sl) rfl ?_; refine sq_v rfl (v_move rfl) rfl ?_; refine sq_end (qs_n (wp_bl ?_)); refine wp_lp (σ := Nat × Value × PH) (fun z_ => [(1, num i), (2, num j), (6, .slice none 0 0), (7, z_.2.1), (14, vt), (15, num ts.length), (16, num z_.1)]) (fun z_ => [z_.2.2, box b3 [num k, num p, num n, vt, vo] 32, hp w]) (fun z_ => z_.1 ≤ ts.length ∧ IntsO (needI ts op i.toNat j.toNat z_.1) z_.2.1 z_.2.2) (fun z_ => ts.length - z_.1) (0, v12, h12) (⟨by (try dsimp only); omega, by (try dsimp only); rw [needI_zero]; exact r12⟩) ⟨rfl, rfl, rfl, (by first | rfl | exact ksub rfl (by first | omega | (simp; done) | (simp; omega))), rfl, rfl, (by first | rfl | exact ksub rfl (by first | omega | (simp; done) | (simp; omega))), trivial⟩ (fun _ s => s) ?_; rintro ⟨m, lv, lh⟩ ⟨hm, q⟩; dsimp only at hm q ⊢; have hle_q := q.toR.le; have hnl := (need_len (op := op) (i := i.toNat) (j := j.toNat) hok m).2; refine wp_sc (wp_sq ?_); refine sq_v rfl (v_lss rfl rfl) rfl ?_; refine sq_end (qs_n (wp_sc ?_)); refine wp_cd rfl (fun c17 => ?_) (fun c17 => ?_)
  · refine wp_sk (qs_n (wp_sc (wp_bl (wp_sc (wp_sq ?_))))); refine sq_v rfl (v_move rfl) rfl ?_; obtain ⟨t19, a19, b19, c19, ht19, hcs19, rl19, rd19, rx19⟩ := hc_r (m) (by first | omega | (rw [List.length_set]; omega)); refine sq_v rfl (v_indexAddr Try.underlying30 ty_44 rfl rfl rr_r (by decide) (by omega) (by omega)) rfl ?_; refine sq_v rfl (v_loadNE 2 ty_44 rfl rfl rr_r (by have := rr_r.1; omega) rfl hcs19) rfl ?_; refine sq_x rfl (x_alloc ty_44 rfl) rfl ?_; rintro _ _ ⟨b9, rfl, rfl⟩; refine sq_v rfl (v_assign rfl) rfl ?_; refine sq_m 0 rfl rfl (m_store 0 ty_44 rfl rfl rfl rfl (by simp [rl19.sl.one, rd19.sl.one, rx19.sl.one]) rfl (Nat.le_of_ble_eq_true rfl)) rfl ?_; rintro _ _ ⟨rfl, rfl⟩; refine sq_end ?_; have ht12 := hok t19 (List.mem_of_getElem? ht19); refine qs_n (wp_sc (wp_sq ?_)); refine sq_v rfl (v_move rfl) rfl ?_; refine sq_v rfl (v_move rfl) rfl ?_; refine sq_v rfl (v_neq rfl rfl) rfl ?_; refine sq_bd 23 rfl (fun c23 => ?_) (fun c23 => ?_)
    · refine sq_v rfl (v_move rfl) rfl ?_; refine sq_v rfl (v_move rfl) rfl ?_; refine sq_v rfl (v_move rfl) rfl ?_; refine sq_v rfl (v_neq rfl rfl) rfl ?_; refine sq_v rfl (v_pickt rfl rfl) rfl ?_; refine sq_end (qs_n ?_); refine wp_cd rfl (fun c28 => ?_) (fun c28 => ?_)
      · refine wp_sq ?_; refine sq_v rfl (v_move rfl) rfl ?_; refine sq_v rfl (v_fieldAddr fd_44_0 ty_25 (by decide) rfl) rfl ?_; refine sq_v rfl (v_loadB 0 ty_25 rfl rfl rfl) rfl ?_; refine sq_x rfl (x_call rfl en_106 (fun w s => ct_i_joinLabels _ _ _ _ w (q.toR.mono (s.get 1 rfl)) (rl19.mono (s.get 3 rfl)) (by first | assumption | omega))) rfl ?_; rintro v32 h32 r32; refine sq_v rfl (v_assign rfl) rfl ?_; refine sq_end (qs_bn (qs_n (wp_sq ?_))); refine sq_v rfl (v_add rfl rfl ((by unfold I64; omega))) rfl ?_; refine sq_v rfl (v_move rfl) rfl ?_; refine sq_end ?_; exact qs_bk (m + 1, v32, h32) ⟨by (try dsimp only); omega, by (try dsimp only); rw [needI_yes ht19 ⟨by omega, by omega⟩]; exact r32⟩ (by simp only; omega) ⟨rfl, rfl, rfl, (by first | rfl | exact ksub rfl (by first | omega | (simp; done) | (simp; omega))), rfl, rfl, (by first | rfl | exact ksub rfl (by first | omega | (simp; done) | (simp; omega))), trivial⟩ (fun _ s => s.pick [0, 3, 4] (by decide) rfl)
      · refine wp_sk (qs_bn (qs_n (wp_sq ?_))); refine sq_v rfl (v_add rfl rfl ((by unfold I64; omega))) rfl ?_; refine sq_v rfl (v_move rfl) rfl ?_; refine sq_end ?_; exact qs_bk (m + 1, lv, lh) ⟨by (try dsimp only); omega, by (try dsimp only); rw [needI_no (by omega)]; exact q⟩ (by simp only; omega) ⟨rfl, rfl, rfl, (by first | rfl | exact ksub rfl (by first | omega | (simp; done) | (simp; omega))), rfl, rfl, (by first | rfl | exact ksub rfl (by first | omega | (simp; done) | (simp; omega))), trivial⟩ (fun _ s => s.pick [1, 2, 3] (by decide) rfl)
    · refine sq_v rfl (v_move rfl) rfl ?_; refine sq_s rfl rfl ?_; refine sq_s rfl rfl ?_; refine sq_s rfl rfl ?_; refine sq_v rfl (v_pickf rfl rfl) rfl ?_; refine sq_end (qs_n ?_); refine wp_cf rfl ?_; refine wp_sk (qs_bn (qs_n (wp_sq ?_))); refine sq_v rfl (v_add rfl rfl ((by unfold I64; omega))) rfl ?_; refine sq_v rfl (v_move rfl) rfl ?_; refine sq_end ?_; exact qs_bk (m + 1, lv, lh) ⟨by (try dsimp only); omega, by (try dsimp only); rw [needI_no (by omega)]; exact q⟩ (by simp only; omega) ⟨rfl, rfl, rfl, (by first | rfl | exact ksub rfl (by first | omega | (simp; done) | (simp; omega))), rfl, rfl, (by first | rfl | exact ksub rfl (by first | omega | (simp; done) | (simp; omega))), trivial⟩ (fun _ s => s.pick [1, 2, 3] (by decide) rfl)
  · refine wp_ex (qs_x (qs_x (qs_bx (qs_n (wp_sc (wp_sq ?_)))))); refine sq_v rfl (v_move rfl) rfl ?_; refine sq_v rfl (v_assign rfl) rfl ?_; refine sq_end (qs_n (wp_rt ?_)); exact qs_ret1 rfl rfl (fin_t 0 (i := 2) rfl rfl rfl (by rw [show ts.length = m by omega]; exact q))
noncomputable def privT (k p n : Int) (ts : List Ten) (op : List Int) (j : Nat) : Ten := sumR k p n (ts.getD j noTen) (needS ts op j j ts.length)
noncomputable def privTo (k p n : Int) (ts : List Ten) (op : List Int) (i : Nat) : List Ten := (List.range i).map (privT k p n ts op)
theorem priv_step (k p n : Int) (ts : List Ten) (op : List Int) (i : Nat) : privTo k p n ts op (i + 1) = privTo k p n ts op i ++ [privT k p n ts op i] := by simp [privTo, List.range_succ]
theorem priv_len (k p n : Int) (ts : List Ten) (op : List Int) (i : Nat) : (privTo k p n ts op i).length = i := by simp [privTo]
noncomputable def privMix (k p n : Int) (ts : List Ten) (op : List Int) (i : Nat) : List Ten := privTo k p n ts op i ++ ts.drop i
theorem mix_first (k p n : Int) (ts : List Ten) (op : List Int) : privMix k p n ts op 0 = ts := by simp [privMix, privTo]
theorem mix_last (k p n : Int) (ts : List Ten) (op : List Int) : privMix k p n ts op ts.length = privTo k p n ts op ts.length := by simp [privMix]
theorem mix_length (k p n : Int) (ts : List Ten) (op : List Int) {i : Nat} (h : i ≤ ts.length) : (privMix k p n ts op i).length = ts.length := by simp [privMix, priv_len]; omega
theorem mix_next (k p n : Int) (ts : List Ten) (op : List Int) {i : Nat} (h : i < ts.length) : (privMix k p n ts op i).set i (privT k p n ts op i) = privMix k p n ts op (i + 1) := by
  unfold privMix
  rw [List.set_append_right _ _ (by rw [priv_len]; exact Nat.le_refl _), priv_len, Nat.sub_self, List.drop_eq_getElem_cons h, List.set_cons_zero, priv_step, List.append_assoc]
  rfl
theorem sumR_congr {k p n : Int} {t : Ten} {a b : List Int} (h : ∀ x, x ∈ a ↔ x ∈ b) : sumR k p n t a = sumR k p n t b := by
  unfold sumR
  rw [keepL_congr h]
noncomputable def privTs (k p n : Int) (ts : List Ten) (op : List Int) : List Ten := ifB (netB k p n ts op) (privTo k p n ts op ts.length) []
noncomputable def privOp (k p n : Int) (ts : List Ten) (op : List Int) : List Int := ifB (netB k p n ts op) op []
def PrivR (k p n : Int) (ts : List Ten) (op : List Int) (u : Value) (h : PH) : Prop :=
  NetT (ifB (netB k p n ts op) k 0) (ifB (netB k p n ts op) p 0) (ifB (netB k p n ts op) n 0) (privTs k p n ts op) (privOp k p n ts op) u h
theorem PrivNo {k p n : Int} {ts : List Ten} {op : List Int} (h : netB k p n ts op = false) : PrivR k p n ts op (netV 0 0 0 (.slice none 0 0) (.slice none 0 0)) emp := by
  refine ⟨.slice none 0 0, .slice none 0 0, by rw [h]; rfl, ?_⟩; rw [privTs, privOp, h]; exact NetO.nil
theorem PrivYes {k p n : Int} {ts : List Ten} {op : List Int} {vt vo : Value} {g : PH} (h : netB k p n ts op = true) (r : NetO (privTo k p n ts op ts.length) op vt vo g) : PrivR k p n ts op (netV k p n vt vo) g := by
  refine ⟨vt, vo, by rw [h]; rfl, ?_⟩; rw [privTs, privOp, h]; exact r
set_option maxHeartbeats 4000000 in
theorem ct_i_SumPrivate (k p n : Int) (ts : List Ten) (op : List Int) (vt vo : Value) (w : World) (r : TensR ts vt (hp w)) (r' : IntsR op vo (hp w)) (hs : op.length ≤ 1048576) :
    Calls Try.prog 16 [netV k p n vt vo].toArray w (Ret w emp (PrivR k p n ts op)) := by
  refine calls_in Try.func16 rfl Try.ntmps16 rfl (Sat.start w) ?_; have hle0 := r.le; obtain ⟨cs_r, rr_r, hc_r⟩ := r.at; have hle1 := r'.le; refine wp_sc (wp_sq ?_); refine sq_x rfl (x_box rfl rfl) rfl ?_; rintro _ _ ⟨b1, rfl, rfl⟩; refine sq_x rfl (x_alloc ty_32 rfl) rfl ?_; rintro _ _ ⟨b2, rfl, rfl⟩; refine sq_end (qs_n (wp_sc (wp_sc (wp_sq ?_)))); refine sq_v rfl (v_loadNB 1 ty_32 rfl rfl rfl rfl) rfl ?_; refine sq_u rfl (x_callv rfl en_44 (fun w s => ct_i_NetworkOk _ _ _ _ _ _ _ w (r.mono (s.get 2 rfl)) (r'.mono (s.get 2 rfl)) (by first | assumption | omega))) rfl ?_; refine sq_v rfl (v_not rfl) rfl ?_; refine sq_end (qs_n ?_); refine wp_cn _ rfl (fun c8 => ?_) (fun c8 => ?_)
  · refine wp_sc (wp_sq ?_); refine sq_v rfl (v_build [num 0, num 0, num 0, .slice none 0 0, .slice none 0 0] rfl (by kernel_rfl)) rfl ?_; refine sq_m 0 rfl rfl (m_store 0 ty_32 rfl rfl rfl rfl (by simp [one_int, one_sl]) rfl (Nat.le_of_ble_eq_true rfl)) rfl ?_; rintro _ _ ⟨rfl, rfl⟩; refine sq_end (qs_n (wp_rt (qs_r ?_))); exact qs_retc 0 rfl ty_32 rfl rfl rfl (fin_e (i := 2) rfl (PrivNo c8))
  · refine wp_sk (qs_n (wp_sc ?_)); refine wp_ra (σ := Nat × PH × Value) 7 (fun z_ => IntsO op z_.2.2 z_.2.1) (fun z_ => [(1, .pointer (some ⟨b1, 0, none⟩)), (2, .pointer (some ⟨b2, 0, none⟩)), (3, .pointer (some ⟨z_.1, 0, none⟩)), (8, .bool (!(netB k p n ts op)))]) (fun z_ => [box z_.1 [num k, num p, num n, .slice none 0 0, z_.2.2] 32, z_.2.1, box b2 [num 0, num 0, num 0, .slice none 0 0, .slice none 0 0] 32, box b1 [num k, num p, num n, vt, vo] 32, hp w]) mixed_ok (by kernel_rfl) ?_ ?_
    · refine ra_v (i := 0) (by kernel_rfl) rfl rfl (v_fieldAddr fd_32_0 ty_29 (by decide) rfl) rfl ?_; refine ra_v (i := 1) (by kernel_rfl) rfl rfl (v_loadNB 1 ty_29 rfl rfl rfl rfl) rfl ?_; refine ra_v (i := 2) (by kernel_rfl) rfl rfl (v_fieldAddr fd_32_2 ty_25 (by decide) rfl) rfl ?_; refine ra_v (i := 3) (by kernel_rfl) rfl rfl (v_loadB 1 ty_25 rfl rfl rfl) rfl ?_; refine ra_2 (i := 4) (j := 6) (by kernel_rfl) ?_ ?_
      · refine ro_x rfl rfl (x_call rfl en_47 (fun w s => ct_i_copyInts _ _ w (r'.mono (s.get 2 rfl)) (by first | assumption | omega))) rfl ?_; rintro v14 h14 r14; refine ra_rj [(5, true), (6, false), (7, false)] (by kernel_rfl) rfl ?_; refine rj_v rfl rfl (v_build [num k, num p, num n, .slice none 0 0, v14] rfl (by obtain ⟨_, _, rfl⟩ := r14.toR.sl; kernel_rfl)) rfl ?_; refine rj_x rfl rfl (x_alloc ty_32 rfl) rfl ?_; rintro _ _ ⟨b3, rfl, rfl⟩; refine rj_m 0 rfl rfl rfl rfl (m_store 0 ty_32 rfl rfl rfl rfl (by simp [one_int, one_sl, r14.toR.sl.one]) rfl (Nat.le_of_ble_eq_true rfl)) rfl ?_; rintro _ _ ⟨rfl, rfl⟩; refine rj_end ?_; exact qs_mid (b3, h14, v14) (r14) ⟨rfl, rfl, rfl, rfl, trivial⟩ (fun _ s => s.pick [0, 1, 2, 3, 4] (by decide) rfl)
      · refine ro_x rfl rfl (x_alloc ty_32 rfl) rfl ?_; rintro _ _ ⟨b3, rfl, rfl⟩; refine ra_rj [(4, false), (5, true), (7, false)] (by kernel_rfl) rfl ?_; refine rj_x rfl rfl (x_call rfl en_47 (fun w s => ct_i_copyInts _ _ w (r'.mono (s.get 3 rfl)) (by first | assumption | omega))) rfl ?_; rintro v14 h14 r14; refine rj_v rfl rfl (v_build [num k, num p, num n, .slice none 0 0, v14] rfl (by obtain ⟨_, _, rfl⟩ := r14.toR.sl; kernel_rfl)) rfl ?_; refine rj_m 1 rfl rfl rfl rfl (m_store 1 ty_32 rfl rfl rfl rfl (by simp [one_int, one_sl, r14.toR.sl.one]) rfl (Nat.le_of_ble_eq_true rfl)) rfl ?_; rintro _ _ ⟨rfl, rfl⟩; refine rj_end ?_; exact qs_mid (b3, h14, v14) (r14) ⟨rfl, rfl, rfl, rfl, trivial⟩ (fun _ s => s.pick [1, 0, 2, 3, 4] (by decide) rfl)
    · rintro ⟨b3, h14, v14⟩ r14; dsimp only at r14 ⊢; refine qs_n (wp_sc (wp_sc (wp_sq ?_))); refine sq_v rfl (v_fieldAddr fd_32_1 ty_30 (by decide) rfl) rfl ?_; refine sq_v rfl (v_loadB 3 ty_30 rfl rfl rfl) rfl ?_; refine sq_v rfl (v_len Try.underlying30 rfl r.sl) rfl ?_; refine sq_v rfl (v_move rfl) rfl ?_; refine sq_end (qs_n (wp_bl ?_)); refine wp_lp (σ := Nat × Value × PH × (List Value) × PH) (fun z_ => [(1, .pointer (some ⟨b1, 0, none⟩)), (2, .pointer (some ⟨b2, 0, none⟩)), (3, .pointer (some ⟨b3, 0, none⟩)), (17, vt), (18, num ts.length), (19, num z_.1)]) (fun z_ => [z_.2.2.2.2, z_.2.2.1, box b3 [num k, num p, num n, z_.2.1, v14] 32, h14, box b2 [num 0, num 0, num 0, .slice none 0 0, .slice none 0 0] 32, box b1 [num k, num p, num n, vt, vo] 32, hp w]) (fun z_ => z_.1 ≤ ts.length ∧ OwnH (flat (privTo k p n ts op z_.1)) z_.2.2.2.1 z_.2.2.2.2 ∧ RowO (44) z_.2.2.2.1 z_.1 3 z_.2.1 z_.2.2.1) (fun z_ => ts.length - z_.1) (0, .slice none 0 0, emp, [], emp) (⟨by (try dsimp only); omega, OwnH.nil, RowO.nil⟩) ⟨rfl, rfl, rfl, rfl, rfl, (by first | rfl | exact ksub rfl (by first | omega | (simp; done) | (simp; omega))), trivial⟩ (fun _ s => (emp_sat (emp_sat s))) ?_; rintro ⟨i, lx, ha, cs, hl⟩ ⟨hi, hlv, rr⟩; dsimp only at hi hlv rr ⊢; have hnet := netB_true.1 c8; have h12 := hnet.2.1; have hl12 : ∀ t ∈ ts, t.l.length ≤ 12 := fun t ht => (net_axes hnet t ht).1; have hno := net_open hnet; refine wp_sc (wp_sq ?_); refine sq_v rfl (v_lss rfl rfl) rfl ?_; refine sq_end (qs_n (wp_sc ?_)); refine wp_cd rfl (fun c20 => ?_) (fun c20 => ?_)
      · refine wp_sk (qs_n (wp_sc (wp_bl (wp_sc (wp_sq ?_))))); refine sq_v rfl (v_move rfl) rfl ?_; obtain ⟨t22, a22, b22, c22, ht22, hcs22, rl22, rd22, rx22⟩ := hc_r (i) (by first | omega | (rw [List.length_set]; omega)); refine sq_v rfl (v_indexAddr Try.underlying30 ty_44 rfl rfl rr_r (by decide) (by omega) (by omega)) rfl ?_; refine sq_v rfl (v_loadNE 6 ty_44 rfl rfl rr_r (by have := rr_r.1; omega) rfl hcs22) rfl ?_; refine sq_x rfl (x_alloc ty_44 rfl) rfl ?_; rintro _ _ ⟨b5, rfl, rfl⟩; refine sq_v rfl (v_assign rfl) rfl ?_; refine sq_m 0 rfl rfl (m_store 0 ty_44 rfl rfl rfl rfl (by simp [rl22.sl.one, rd22.sl.one, rx22.sl.one]) rfl (Nat.le_of_ble_eq_true rfl)) rfl ?_; rintro _ _ ⟨rfl, rfl⟩; refine sq_end (qs_n ?_); refine wp_rj 11 [(0, true), (1, true), (2, true), (3, true), (4, true), (5, true), (6, true), (7, true), (8, false), (9, false), (10, false), (11, false), (12, false), (13, false)] mixed_ok (by kernel_rfl) ?_; refine rj_v rfl rfl (v_fieldAddr fd_32_1 ty_30 (by decide) rfl) rfl ?_; refine rj_v rfl rfl (v_loadB 3 ty_30 rfl rfl rfl) rfl ?_; refine rj_v rfl rfl (v_fieldAddr fd_32_0 ty_29 (by decide) rfl) rfl ?_; refine rj_v rfl rfl (v_loadNB 6 ty_29 rfl rfl rfl rfl) rfl ?_; refine rj_v rfl rfl (v_loadNB 0 ty_44 rfl rfl rfl rfl) rfl ?_; refine rj_v rfl rfl (v_loadNB 6 ty_32 rfl rfl rfl rfl) rfl ?_; refine rj_v rfl rfl (v_move rfl) rfl ?_; refine rj_v rfl rfl (v_move rfl) rfl ?_; refine rj_x rfl rfl (x_call rfl en_46 (fun w s => ct_i_labelsElsewhere _ _ _ _ _ _ _ _ _ w (r.mono (s.get 7 rfl)) (r'.mono (s.get 7 rfl)) (by first | assumption | omega) (by first | assumption | omega) (by first | assumption | omega) (by first | assumption | omega))) rfl ?_; rintro v32 h32 r32; refine rj_x rfl rfl (x_call rfl en_58 (fun w s => ct_i_SumLabels _ _ _ _ _ _ _ _ _ w (rl22.mono (s.get 8 rfl)) (rd22.mono (s.get 8 rfl)) (rx22.mono (s.get 8 rfl)) (r32.toR.mono (s.get 0 rfl)))) rfl ?_; rintro _ h33 ⟨va33, vb33, vc33, rfl, o33⟩; refine rj_x rfl rfl (x_buildS [.agg [va33, vb33, vc33].toArray] Try.underlying30 ty_44 (by decide) rfl rfl rfl (by decide) (by decide) (by intro v hv; simp at hv; subst hv; rfl)) rfl ?_; intro v34 h34 (r34 : RowO 44 [va33, vb33, vc33] 1 3 v34 h34); refine rj_m 5 rfl rfl rfl rfl (m_append 5 0 Try.underlying30 ty_44 rfl rfl (by decide) rfl rfl rfl rr rfl r34.toR (by simp [o33.toR.1.sl.one, o33.toR.2.1.sl.one, o33.toR.2.2.sl.one]) (by unfold maxLen; omega) (by omega)) rfl ?_; intro v35 h_r35 (r35 : RowO 44 (cs ++ [va33, vb33, vc33]) (i + 1) 3 v35 h_r35); refine rj_fv rfl rfl (v_fieldAddr fd_32_1 ty_30 (by decide) rfl) rfl ?_; refine rj_m 6 rfl rfl rfl rfl (m_store1 6 ty_30 rfl rfl r35.toR.sl.one rfl (Nat.le_of_ble_eq_true rfl)) rfl ?_; rintro _ _ ⟨rfl, rfl⟩; refine rj_end ?_; have e33 : sumR k p n t22 (needI ts op (i : Int).toNat (i : Int).toNat ts.length) = privT k p n ts op i := by rw [sumR_congr (fun x => need_iff x), privT, Int.toNat_natCast]; congr 1; simp [List.getD, ht22]
        rw [e33] at o33; refine qs_bn (qs_n (wp_sq ?_)); refine sq_v rfl (v_add rfl rfl ((by unfold I64; omega))) rfl ?_; refine sq_v rfl (v_move rfl) rfl ?_; refine sq_end ?_; refine qs_dj 4 1 rfl rfl rfl (fun hdj => ?_); exact qs_bk (i + 1, v35, h_r35, cs ++ [va33, vb33, vc33], PUn hl h33) ⟨by (try dsimp only); omega, by (try dsimp only); rw [priv_step]; exact hlv.snoc o33 hdj, r35⟩ (by simp only; omega) ⟨rfl, rfl, rfl, rfl, rfl, (by first | rfl | exact ksub rfl (by first | omega | (simp; done) | (simp; omega))), trivial⟩ (fun _ s => Sat.merge (s.pick [4, 1, 5, 6, 7, 8, 9, 10] (by decide) rfl))
      · refine wp_ex (qs_x (qs_x (qs_bx (qs_n (wp_sc (wp_sq ?_)))))); refine sq_v rfl (v_loadNB 2 ty_32 rfl rfl rfl rfl) rfl ?_; refine sq_m 4 rfl rfl (m_store 4 ty_32 rfl rfl rfl rfl (by simp [one_int, rr.toR.sl.one, r14.toR.sl.one]) rfl (Nat.le_of_ble_eq_true rfl)) rfl ?_; rintro _ _ ⟨rfl, rfl⟩; refine sq_end (qs_n (wp_rt ?_)); have ei : i = ts.length := by omega
        subst ei; obtain ⟨l, ol, md⟩ := hlv; refine qs_close [box b2 _ _, hp w] (ha :: h14 :: l) (fun _ s => Sat.open (A := [box b2 [num k, num p, num n, lx, v14] 32, hp w, ha, h14]) md (s.pick [0, 4, 6, 1, 3] (by decide) rfl)) (fun md2 => ?_); exact qs_retc 1 rfl ty_32 rfl rfl rfl (fin_t 0 (i := 2) rfl rfl rfl (PrivYes c8 ⟨cs, ha, h14, l, by rw [priv_len]; exact rr, r14, ol, md2⟩))
set_option maxHeartbeats 4000000 in
theorem ct_s_SumPrivate (k p n : Int) (ts : List Ten) (op : List Int) (vt vo : Value) (w : World) (r : TensR ts vt (hp w)) (r' : IntsR op vo (hp w)) (hs : op.length ≤ 1048576) :
    Calls Try.prog 15 [netV k p n vt vo].toArray w (Ret w emp (PrivR k p n ts op)) := by
  refine calls_in Try.func15 rfl Try.ntmps15 rfl (Sat.start w) ?_; have hle0 := r.le; obtain ⟨cs_r, rr_r, hc_r⟩ := r.at; have hle1 := r'.le; refine wp_sc (wp_sq ?_); refine sq_x rfl (x_box rfl rfl) rfl ?_; rintro _ _ ⟨b1, rfl, rfl⟩; refine sq_x rfl (x_alloc ty_32 rfl) rfl ?_; rintro _ _ ⟨b2, rfl, rfl⟩; refine sq_end (qs_n (wp_sc (wp_sc (wp_sq ?_)))); refine sq_v rfl (v_loadNB 1 ty_32 rfl rfl rfl rfl) rfl ?_; refine sq_u rfl (x_callv rfl en_34 (fun w s => ct_s_NetworkOk _ _ _ _ _ _ _ w (r.mono (s.get 2 rfl)) (r'.mono (s.get 2 rfl)) (by first | assumption | omega))) rfl ?_; refine sq_v rfl (v_not rfl) rfl ?_; refine sq_end (qs_n ?_); refine wp_cn _ rfl (fun c8 => ?_) (fun c8 => ?_)
  · refine wp_sc (wp_sq ?_); refine sq_v rfl (v_build [num 0, num 0, num 0, .slice none 0 0, .slice none 0 0] rfl (by kernel_rfl)) rfl ?_; refine sq_m 0 rfl rfl (m_store 0 ty_32 rfl rfl rfl rfl (by simp [one_int, one_sl]) rfl (Nat.le_of_ble_eq_true rfl)) rfl ?_; rintro _ _ ⟨rfl, rfl⟩; refine sq_end (qs_n (wp_rt (qs_r ?_))); exact qs_retc 0 rfl ty_32 rfl rfl rfl (fin_e (i := 2) rfl (PrivNo c8))
  · refine wp_sk (qs_n (wp_sc (wp_sq ?_))); have hnet := netB_true.1 c8; have h12 := hnet.2.1; have hl12 : ∀ t ∈ ts, t.l.length ≤ 12 := (fun t ht => (net_axes hnet t ht).1)
    refine sq_v rfl (v_loadNB 1 ty_32 rfl rfl rfl rfl) rfl ?_; refine sq_x rfl (x_call rfl en_56 (fun w s => ct_s_l14Copy _ _ _ _ _ _ _ w (r.mono (s.get 2 rfl)) (r'.mono (s.get 2 rfl)) (by first | assumption | omega) (by first | assumption | omega))) rfl ?_; rintro _ h11 ⟨vt11, vo11, rfl, o11⟩; obtain ⟨cs_T_11, rr_T_11, hc_T_11⟩ := o11.toR.1.at; refine sq_x rfl (x_alloc ty_32 rfl) rfl ?_; rintro _ _ ⟨b3, rfl, rfl⟩; refine sq_m 0 rfl rfl (m_store 0 ty_32 rfl rfl rfl rfl (by simp [one_int, o11.toR.1.sl.one, o11.toR.2.sl.one]) rfl (Nat.le_of_ble_eq_true rfl)) rfl ?_; rintro _ _ ⟨rfl, rfl⟩; refine sq_end ?_; obtain ⟨cs0, g0, go, gl, rr0, ro, oh, md11⟩ := o11.split; refine qs_s [box b3 [num k, num p, num n, vt11, vo11] 32, box b2 [num 0, num 0, num 0, .slice none 0 0, .slice none 0 0] 32, box b1 [num k, num p, num n, vt, vo] 32, hp w, g0, go, gl] (fun _ s => Sat.open (A := [box b3 [num k, num p, num n, vt11, vo11] 32, box b2 [num 0, num 0, num 0, .slice none 0 0, .slice none 0 0] 32, box b1 [num k, num p, num n, vt, vo] 32, hp w]) md11 (s.pick [1, 0, 2, 3, 4] (by decide) rfl)) ?_; refine qs_n (wp_sc (wp_sc (wp_sq ?_))); refine sq_v rfl (v_fieldAddr fd_32_1 ty_30 (by decide) rfl) rfl ?_; refine sq_v rfl (v_loadB 2 ty_30 rfl rfl rfl) rfl ?_; refine sq_v rfl (v_len Try.underlying30 rfl r.sl) rfl ?_; refine sq_v rfl (v_move rfl) rfl ?_; refine sq_end (qs_n (wp_bl ?_)); refine wp_lp (σ := Nat × PH × (List Value) × PH) (fun z_ => [(1, .pointer (some ⟨b1, 0, none⟩)), (2, .pointer (some ⟨b2, 0, none⟩)), (3, .pointer (some ⟨b3, 0, none⟩)), (13, vt), (14, num ts.length), (15, num z_.1)]) (fun z_ => [box b3 [num k, num p, num n, vt11, vo11] 32, box b2 [num 0, num 0, num 0, .slice none 0 0, .slice none 0 0] 32, box b1 [num k, num p, num n, vt, vo] 32, hp w, z_.2.1, go, z_.2.2.2]) (fun z_ => z_.1 ≤ ts.length ∧ OwnH (flat (privMix k p n ts op z_.1)) z_.2.2.1 z_.2.2.2 ∧ RowO (44) z_.2.2.1 ts.length 3 vt11 z_.2.1) (fun z_ => ts.length - z_.1) (0, g0, cs0, gl) (⟨by (try dsimp only); omega, by (try dsimp only); rw [mix_first]; exact oh, rr0⟩) ⟨rfl, rfl, rfl, rfl, rfl, (by first | rfl | exact ksub rfl (by first | omega | (simp; done) | (simp; omega))), trivial⟩ (fun _ s => s) ?_; rintro ⟨i, ha, cs, hl⟩ ⟨hi, hlv, rr⟩; dsimp only at hi hlv rr ⊢; refine wp_sc (wp_sq ?_); refine sq_v rfl (v_lss rfl rfl) rfl ?_; refine sq_end (qs_n (wp_sc ?_)); refine wp_cd rfl (fun c16 => ?_) (fun c16 => ?_)
    · refine wp_sk (qs_n (wp_sc (wp_bl (wp_sc (wp_sq ?_))))); refine sq_v rfl (v_move rfl) rfl ?_; obtain ⟨t18, a18, b18, c18, ht18, hcs18, rl18, rd18, rx18⟩ := hc_r (i) (by first | omega | (rw [List.length_set]; omega)); refine sq_v rfl (v_indexAddr Try.underlying30 ty_44 rfl rfl rr_r (by decide) (by omega) (by omega)) rfl ?_; refine sq_v rfl (v_loadNE 3 ty_44 rfl rfl rr_r (by have := rr_r.1; omega) rfl hcs18) rfl ?_; refine sq_x rfl (x_alloc ty_44 rfl) rfl ?_; rintro _ _ ⟨b5, rfl, rfl⟩; refine sq_v rfl (v_assign rfl) rfl ?_; refine sq_m 0 rfl rfl (m_store 0 ty_44 rfl rfl rfl rfl (by simp [rl18.sl.one, rd18.sl.one, rx18.sl.one]) rfl (Nat.le_of_ble_eq_true rfl)) rfl ?_; rintro _ _ ⟨rfl, rfl⟩; refine sq_end (qs_n ?_); refine wp_rj 12 [(0, true), (1, true), (2, true), (3, true), (4, true), (5, true), (6, true), (7, true), (8, true), (9, false), (10, false), (11, true), (12, false)] mixed_ok (by kernel_rfl) ?_; refine rj_v rfl rfl (v_fieldAddr fd_32_1 ty_30 (by decide) rfl) rfl ?_; refine rj_v rfl rfl (v_loadB 1 ty_30 rfl rfl rfl) rfl ?_; refine rj_v rfl rfl (v_move rfl) rfl ?_; refine rj_v rfl rfl (v_fieldAddr fd_32_0 ty_29 (by decide) rfl) rfl ?_; refine rj_v rfl rfl (v_loadNB 3 ty_29 rfl rfl rfl rfl) rfl ?_; refine rj_v rfl rfl (v_loadNB 0 ty_44 rfl rfl rfl rfl) rfl ?_; refine rj_v rfl rfl (v_loadNB 3 ty_32 rfl rfl rfl rfl) rfl ?_; refine rj_v rfl rfl (v_move rfl) rfl ?_; refine rj_v rfl rfl (v_move rfl) rfl ?_; refine rj_x rfl rfl (x_call rfl en_36 (fun w s => ct_s_l14Needed _ _ _ _ _ _ _ _ _ w (r.mono (s.get 4 rfl)) (r'.mono (s.get 4 rfl)) (by first | assumption | omega) (by first | assumption | omega) (by first | assumption | omega) (by first | assumption | omega))) rfl ?_; rintro v29 h29 r29; refine rj_x rfl rfl (x_call rfl en_57 (fun w s => ct_s_l08Sum _ _ _ _ _ _ _ _ _ w (rl18.mono (s.get 5 rfl)) (rd18.mono (s.get 5 rfl)) (rx18.mono (s.get 5 rfl)) (r29.toR.mono (s.get 0 rfl)) (hnet.2.2.1 t18 (List.mem_of_getElem? ht18)))) rfl ?_; rintro _ h30 ⟨va30, vb30, vc30, rfl, o30⟩; refine rj_v rfl rfl (v_indexAddr Try.underlying30 ty_44 rfl rfl rr.toR (by decide) (by omega) (by omega)) rfl ?_; refine rj_m 7 rfl rfl rfl rfl (m_storeE 7 ty_44 rfl rfl (us := [va30, vb30, vc30]) rfl rfl (by simp [o30.toR.1.sl.one, o30.toR.2.1.sl.one, o30.toR.2.2.sl.one]) rfl rr (by decide) (by have := rr.1; omega)) rfl ?_; rintro _ h7 ⟨rfl, r7⟩; refine rj_end (qs_bn (qs_n (wp_sq ?_))); refine sq_v rfl (v_add rfl rfl ((by unfold I64; omega))) rfl ?_; refine sq_v rfl (v_move rfl) rfl ?_; refine sq_end ?_; refine qs_dj 9 0 rfl rfl rfl (fun hdj => ?_); have e30 : sumR k p n t18 (needS ts op (i : Int).toNat (i : Int).toNat ts.length) = privT k p n ts op i := by rw [privT, Int.toNat_natCast]; congr 1; simp [List.getD, ht18]
      rw [e30] at o30; obtain ⟨g, hg, oh2⟩ := hlv.set (i := i) (by rw [mix_length k p n ts op hi]; omega) o30 hdj; simp only [Int.toNat_natCast] at r7; exact qs_bk (i + 1, h7, cs.take (i * 3) ++ [va30, vb30, vc30] ++ cs.drop (i * 3 + 3), g) ⟨by (try dsimp only); omega, by (try dsimp only); rw [← mix_next k p n ts op (by omega)]; exact oh2, r7⟩ (by simp only; omega) ⟨rfl, rfl, rfl, rfl, rfl, (by first | rfl | exact ksub rfl (by first | omega | (simp; done) | (simp; omega))), trivial⟩ (fun _ s => ((Sat.merge (s.pick (HS' := [hl, h30, box b3 [num k, num p, num n, vt11, vo11] 32, box b2 [num 0, num 0, num 0, .slice none 0 0, .slice none 0 0] 32, box b1 [num k, num p, num n, vt, vo] 32, hp w, h7, go]) [9, 0, 3, 4, 5, 6, 7, 8] (by decide) rfl)).less (i := 0) rfl hg).pick [1, 2, 3, 4, 5, 6, 0] (by decide) rfl)
    · refine wp_ex (qs_x (qs_x (qs_bx (qs_n (wp_sc (wp_sq ?_)))))); refine sq_v rfl (v_loadNB 0 ty_32 rfl rfl rfl rfl) rfl ?_; refine sq_m 1 rfl rfl (m_store 1 ty_32 rfl rfl rfl rfl (by simp [one_int, rr.toR.sl.one, ro.toR.sl.one]) rfl (Nat.le_of_ble_eq_true rfl)) rfl ?_; rintro _ _ ⟨rfl, rfl⟩; refine sq_end (qs_n (wp_rt ?_)); have ei : i = ts.length := by omega
      subst ei; rw [mix_last] at hlv; refine qs_close [box b2 _ _, hp w] [ha, go, hl] (fun _ s => s.pick [1, 3, 4, 5, 6] (by decide) rfl) (fun md => ?_); exact qs_retc 1 rfl ty_32 rfl rfl rfl (fin_t 0 (i := 2) rfl rfl rfl (PrivYes c8 (NetO.join (by rw [priv_len]; exact rr) ro hlv md)))
end Go.Proofs.Ytehjljijionhaaa
namespace Go.Proofs.Ytehjljijionhaaa
set_option maxRecDepth 100000
open Go.ChangeShapes Go.WideShapes Go.ChangeAt Go.RowKit
theorem priv_size {k p n : Int} {ts : List Ten} {op : List Int} : 0 ≤ tensSize (privTs k p n ts op) ∧ tensSize (privTs k p n ts op) ≤ 1000000 ∧ (privTs k p n ts op).length ≤ 12 ∧ (privOp k p n ts op).length ≤ op.length := by
  refine ⟨tensSize_nn _, ?_⟩
  unfold privTs privOp
  cases hb : netB k p n ts op with
  | false => simp [ifB, tensSize]
  | true =>
    have hn := netB_true.1 hb; have h12 := hn.2.1; have hl := priv_len k p n ts op ts.length; have := tens_size (k := k) (p := p) (n := n) (ts := privTo k p n ts op ts.length) (fun t ht => by
      obtain ⟨j, hj, rfl⟩ := List.mem_map.1 ht; have hj' := List.mem_range.1 hj; exact (sum_ten (hn.2.2.1 _ (by simp [List.getD, hj'])) _).1)
    simp only [ifB, if_true]
    omega
theorem ct_L_sPriv (k p n : Int) (ts : List Ten) (op : List Int) (vt vo : Value) (w : World) (r : TensR ts vt (hp w)) (r' : IntsR op vo (hp w)) (hs : op.length ≤ 1048576) :
    Calls Try.prog 15 [netV k p n vt vo].toArray w (Ret w emp (NetT (ifB (netB k p n ts op) k 0) (ifB (netB k p n ts op) p 0) (ifB (netB k p n ts op) n 0) (privTs k p n ts op) (privOp k p n ts op))) :=
  ct_s_SumPrivate k p n ts op vt vo w r r' hs
theorem ct_L_iPriv (k p n : Int) (ts : List Ten) (op : List Int) (vt vo : Value) (w : World) (r : TensR ts vt (hp w)) (r' : IntsR op vo (hp w)) (hs : op.length ≤ 1048576) :
    Calls Try.prog 16 [netV k p n vt vo].toArray w (Ret w emp (NetT (ifB (netB k p n ts op) k 0) (ifB (netB k p n ts op) p 0) (ifB (netB k p n ts op) n 0) (privTs k p n ts op) (privOp k p n ts op))) :=
  ct_i_SumPrivate k p n ts op vt vo w r r' hs
set_option maxHeartbeats 8000000 in
theorem ct_l_FnExactSumPrivate (k p n : Int) (ts : List Ten) (op : List Int) (vt vo : Value) (w : World) (r : TensR ts vt (hp w)) (r' : IntsR op vo (hp w)) :
    Calls Try.prog 4 [netV k p n vt vo].toArray w (RetV w (.bool true)) := by
  have hnn := tensSize_nn ts; have hrs := priv_size (k := k) (p := p) (n := n) (ts := ts) (op := op); refine calls_in Try.func4 rfl Try.ntmps4 rfl (Sat.start w) ?_; have hle0 := r.le; obtain ⟨cs_r, rr_r, hc_r⟩ := r.at; have hle1 := r'.le; refine wp_sc (wp_sq ?_); refine sq_x rfl (x_box rfl rfl) rfl ?_; rintro _ _ ⟨b1, rfl, rfl⟩; refine sq_v rfl (v_assign rfl) rfl ?_; refine sq_end (qs_n (wp_sc (wp_sq ?_))); refine sq_v rfl (v_assign rfl) rfl ?_; refine sq_end (qs_n (wp_sc (wp_sq ?_))); refine sq_v rfl (v_loadNB 0 ty_27 rfl rfl rfl rfl) rfl ?_; refine sq_v rfl (v_move rfl) rfl ?_; refine sq_u rfl (x_callv rfl en_8 (fun w s => ct_l_szNetwork _ _ _ _ _ _ _ _ w (r.mono (s.get 1 rfl)) (r'.mono (s.get 1 rfl)) (by first | assumption | exact iota_held _ _ | omega | rfl))) rfl ?_; refine sq_v rfl (v_assign rfl) rfl ?_; refine sq_end (qs_n (wp_sc (wp_sc (wp_sq ?_)))); refine sq_v rfl (v_move rfl) rfl ?_; refine sq_v rfl (v_lss rfl rfl) rfl ?_; refine sq_end (qs_n ?_); refine wp_cd rfl (fun c15 => ?_) (fun c15 => ?_)
  · refine wp_sc (wp_sq ?_); refine sq_v rfl (v_assign rfl) rfl ?_; refine sq_end (qs_n (wp_rt (qs_r ?_))); exact qs_ret1 rfl rfl (fin_v (i := 1) rfl)
  · have hz15 := szV_ge c15; refine wp_sk (qs_n (wp_sc (wp_sq ?_))); refine sq_v rfl (v_loadNB 0 ty_27 rfl rfl rfl rfl) rfl ?_; refine sq_x rfl (x_call rfl en_10 (fun w s => ct_L_toNetwork _ _ _ _ _ _ _ w (r.mono (s.get 1 rfl)) (r'.mono (s.get 1 rfl)) (by first | assumption | exact iota_held _ _ | omega | rfl))) rfl ?_; rintro _ h17 ⟨vt17, vo17, rfl, o17⟩; obtain ⟨cs_T_17, rr_T_17, hc_T_17⟩ := o17.toR.1.at; refine sq_x rfl (x_call rfl en_15 (fun w s => ct_L_sPriv _ _ _ _ _ _ _ w (o17.toR.1.mono (s.get 0 rfl)) (o17.toR.2.mono (s.get 0 rfl)) (by first | assumption | exact iota_held _ _ | omega | rfl))) rfl ?_; rintro _ h18 ⟨vt18, vo18, rfl, o18⟩; obtain ⟨cs_T_18, rr_T_18, hc_T_18⟩ := o18.toR.1.at; refine sq_x rfl (x_alloc ty_32 rfl) rfl ?_; rintro _ _ ⟨b4, rfl, rfl⟩; refine sq_m 0 rfl rfl (m_store 0 ty_32 rfl rfl rfl rfl (by simp [one_int, o18.toR.1.sl.one, o18.toR.2.sl.one]) rfl (Nat.le_of_ble_eq_true rfl)) rfl ?_; rintro _ _ ⟨rfl, rfl⟩; refine sq_end (qs_n (wp_sc (wp_sq ?_))); refine sq_v rfl (v_loadNB 3 ty_27 rfl rfl rfl rfl) rfl ?_; refine sq_x rfl (x_call rfl en_10 (fun w s => ct_L_toNetwork _ _ _ _ _ _ _ w (r.mono (s.get 4 rfl)) (r'.mono (s.get 4 rfl)) (by first | assumption | exact iota_held _ _ | omega | rfl))) rfl ?_; rintro _ h20 ⟨vt20, vo20, rfl, o20⟩; obtain ⟨cs_T_20, rr_T_20, hc_T_20⟩ := o20.toR.1.at; refine sq_x rfl (x_alloc ty_32 rfl) rfl ?_; rintro _ _ ⟨b5, rfl, rfl⟩; refine sq_m 0 rfl rfl (m_store 0 ty_32 rfl rfl rfl rfl (by simp [one_int, o20.toR.1.sl.one, o20.toR.2.sl.one]) rfl (Nat.le_of_ble_eq_true rfl)) rfl ?_; rintro _ _ ⟨rfl, rfl⟩; refine sq_end (qs_n (wp_sc (wp_sq ?_))); refine sq_v rfl (v_loadNB 0 ty_32 rfl rfl rfl rfl) rfl ?_; refine sq_x rfl (x_call rfl en_16 (fun w s => ct_L_iPriv _ _ _ _ _ _ _ w (o20.toR.1.mono (s.get 1 rfl)) (o20.toR.2.mono (s.get 1 rfl)) (by first | assumption | exact iota_held _ _ | omega | rfl))) rfl ?_; rintro _ h22 ⟨vt22, vo22, rfl, o22⟩; obtain ⟨cs_T_22, rr_T_22, hc_T_22⟩ := o22.toR.1.at; refine sq_x rfl (x_alloc ty_32 rfl) rfl ?_; rintro _ _ ⟨b6, rfl, rfl⟩; refine sq_m 0 rfl rfl (m_store 0 ty_32 rfl rfl rfl rfl (by simp [one_int, o22.toR.1.sl.one, o22.toR.2.sl.one]) rfl (Nat.le_of_ble_eq_true rfl)) rfl ?_; rintro _ _ ⟨rfl, rfl⟩; refine sq_end (qs_n (wp_sc (wp_sc (wp_sq ?_)))); refine sq_v rfl (v_loadNB 0 ty_32 rfl rfl rfl rfl) rfl ?_; refine sq_v rfl (v_loadNB 4 ty_32 rfl rfl rfl rfl) rfl ?_; refine sq_u rfl (x_callv rfl en_12 (fun w s => ct_l_eqNetwork _ _ _ _ _ _ _ _ _ w (o22.toR.1.mono (s.get 1 rfl)) (o22.toR.2.mono (s.get 1 rfl)) (o18.toR.1.mono (s.get 5 rfl)) (o18.toR.2.mono (s.get 5 rfl)))) rfl ?_; refine sq_v rfl (v_not rfl) rfl ?_; refine sq_end (qs_n ?_); refine wp_cf rfl ?_; refine wp_sk (qs_n (wp_sc (wp_sc ?_))); refine wp_rj 5 [(0, true), (1, true), (2, false), (3, false), (4, true)] mixed_ok (by kernel_rfl) ?_; refine rj_v rfl rfl (v_loadNB 2 ty_32 rfl rfl rfl rfl) rfl ?_; refine rj_v rfl rfl (v_loadNB 7 ty_27 rfl rfl rfl rfl) rfl ?_; refine rj_x rfl rfl (x_call rfl en_10 (fun w s => ct_L_toNetwork _ _ _ _ _ _ _ w (r.mono (s.get 8 rfl)) (r'.mono (s.get 8 rfl)) (by first | assumption | exact iota_held _ _ | omega | rfl))) rfl ?_; rintro _ h29 ⟨vt29, vo29, rfl, o29⟩; obtain ⟨cs_T_29, rr_T_29, hc_T_29⟩ := o29.toR.1.at; refine rj_u rfl rfl (x_callv rfl en_12 (fun w s => ct_l_eqNetwork _ _ _ _ _ _ _ _ _ w (o20.toR.1.mono (s.get 4 rfl)) (o20.toR.2.mono (s.get 4 rfl)) (o29.toR.1.mono (s.get 0 rfl)) (o29.toR.2.mono (s.get 0 rfl)))) rfl ?_; refine rj_v rfl rfl (v_not rfl) rfl ?_; refine rj_end (qs_n ?_); refine wp_cf rfl ?_; refine wp_sk (qs_n (wp_sc (wp_sq ?_))); refine sq_v rfl (v_assign rfl) rfl ?_; refine sq_end (qs_n (wp_sc (wp_sq ?_))); refine sq_v rfl (v_loadNB 3 ty_32 rfl rfl rfl rfl) rfl ?_; refine sq_v rfl (v_move rfl) rfl ?_; refine sq_m 4 rfl rfl (x_call rfl en_13 (fun w s => ct_L_markNetwork _ _ _ _ _ _ _ _ w _ (s.get 4 rfl) o20 (by first | assumption | exact iota_held _ _ | omega | rfl))) rfl ?_; rintro _ h34 ⟨rfl, ts34, op34, om34, hl34⟩; obtain ⟨cs_T_34, rr_T_34, hc_T_34⟩ := om34.toR.1.at; refine sq_v rfl (v_assign rfl) rfl ?_; refine sq_end (qs_n (wp_sc (wp_sc (wp_sq ?_)))); refine sq_v rfl (v_move rfl) rfl ?_; refine sq_v rfl (v_lss rfl rfl) rfl ?_; refine sq_bd 36 rfl (fun c36 => ?_) (fun c36 => ?_)
    · refine sq_v rfl (v_move rfl) rfl ?_; refine sq_s rfl rfl ?_; refine sq_s rfl rfl ?_; refine sq_s rfl rfl ?_; refine sq_s rfl rfl ?_; refine sq_v rfl (v_pickt rfl rfl) rfl ?_; refine sq_end (qs_n ?_); refine wp_ct rfl ?_; refine wp_sc (wp_sq ?_); refine sq_v rfl (v_assign rfl) rfl ?_; refine sq_end (qs_n (wp_rt (qs_r ?_)))
      exfalso; first | omega | contradiction
    · refine sq_v rfl (v_move rfl) rfl ?_; refine sq_v rfl (v_loadNB 1 ty_32 rfl rfl rfl rfl) rfl ?_; refine sq_v rfl (v_loadNB 5 ty_32 rfl rfl rfl rfl) rfl ?_; refine sq_u rfl (x_callv rfl en_12 (fun w s => ct_l_eqNetwork _ _ _ _ _ _ _ _ _ w (o22.toR.1.mono (s.get 2 rfl)) (o22.toR.2.mono (s.get 2 rfl)) (o18.toR.1.mono (s.get 6 rfl)) (o18.toR.2.mono (s.get 6 rfl)))) rfl ?_; refine sq_v rfl (v_not rfl) rfl ?_; refine sq_v rfl (v_pickf rfl rfl) rfl ?_; refine sq_end (qs_n ?_); refine wp_cf rfl ?_; refine wp_sk (qs_n (wp_sc (wp_sq ?_))); refine sq_v rfl (v_assign rfl) rfl ?_; refine sq_end (qs_n (wp_sc (wp_sq ?_))); refine sq_v rfl (v_loadNB 1 ty_32 rfl rfl rfl rfl) rfl ?_; refine sq_v rfl (v_move rfl) rfl ?_; refine sq_m 2 rfl rfl (x_call rfl en_13 (fun w s => ct_L_markNetwork _ _ _ _ _ _ _ _ w _ (s.get 2 rfl) o22 (by first | assumption | exact iota_held _ _ | omega | rfl))) rfl ?_; rintro _ h45 ⟨rfl, ts45, op45, om45, hl45⟩; obtain ⟨cs_T_45, rr_T_45, hc_T_45⟩ := om45.toR.1.at; refine sq_v rfl (v_assign rfl) rfl ?_; refine sq_end (qs_n (wp_sc (wp_sq ?_))); refine sq_v rfl (v_assign rfl) rfl ?_; refine sq_end (qs_n (wp_sc (wp_sq ?_))); refine sq_v rfl (v_loadNB 1 ty_32 rfl rfl rfl rfl) rfl ?_; refine sq_v rfl (v_move rfl) rfl ?_; refine sq_u rfl (x_callv rfl en_14 (fun w s => ct_l_heldNetwork _ _ _ _ _ _ _ _ _ w (om45.toR.1.mono (s.get 2 rfl)) (om45.toR.2.mono (s.get 2 rfl)) hl45 (by first | assumption | exact iota_held _ _ | omega | rfl))) rfl ?_; refine sq_v rfl (v_assign rfl) rfl ?_; refine sq_end (qs_n (wp_sc (wp_sc (wp_sq ?_)))); refine sq_v rfl (v_move rfl) rfl ?_; refine sq_v rfl (v_lss rfl rfl) rfl ?_; refine sq_end (qs_n ?_); refine wp_cd rfl (fun c50 => ?_) (fun c50 => ?_)
      · refine wp_sc (wp_sq ?_); refine sq_v rfl (v_assign rfl) rfl ?_; refine sq_end (qs_n (wp_rt (qs_r ?_)))
        exfalso; first | omega | contradiction
      · refine wp_sk (qs_n (wp_sc (wp_sc (wp_sq ?_)))); refine sq_v rfl (v_move rfl) rfl ?_; refine sq_v rfl (v_move rfl) rfl ?_; refine sq_v rfl (v_neqs rfl rfl) rfl ?_; refine sq_end (qs_n ?_); refine wp_cf rfl ?_; refine wp_sk (qs_n (wp_sc (wp_sq ?_))); refine sq_v rfl (v_loadNB 8 ty_27 rfl rfl rfl rfl) rfl ?_; refine sq_x rfl (x_call rfl en_10 (fun w s => ct_L_toNetwork _ _ _ _ _ _ _ w (r.mono (s.get 9 rfl)) (r'.mono (s.get 9 rfl)) (by first | assumption | exact iota_held _ _ | omega | rfl))) rfl ?_; rintro _ h55 ⟨vt55, vo55, rfl, o55⟩; obtain ⟨cs_T_55, rr_T_55, hc_T_55⟩ := o55.toR.1.at; refine sq_x rfl (x_call rfl en_16 (fun w s => ct_L_iPriv _ _ _ _ _ _ _ w (o55.toR.1.mono (s.get 0 rfl)) (o55.toR.2.mono (s.get 0 rfl)) (by first | assumption | exact iota_held _ _ | omega | rfl))) rfl ?_; rintro _ h56 ⟨vt56, vo56, rfl, o56⟩; obtain ⟨cs_T_56, rr_T_56, hc_T_56⟩ := o56.toR.1.at; refine sq_x rfl (x_alloc ty_32 rfl) rfl ?_; rintro _ _ ⟨b10, rfl, rfl⟩; refine sq_m 0 rfl rfl (m_store 0 ty_32 rfl rfl rfl rfl (by simp [one_int, o56.toR.1.sl.one, o56.toR.2.sl.one]) rfl (Nat.le_of_ble_eq_true rfl)) rfl ?_; rintro _ _ ⟨rfl, rfl⟩; refine sq_end (qs_n (wp_sc (wp_sc (wp_sq ?_)))); refine sq_v rfl (v_loadNB 0 ty_32 rfl rfl rfl rfl) rfl ?_; refine sq_v rfl (v_loadNB 8 ty_32 rfl rfl rfl rfl) rfl ?_; refine sq_u rfl (x_callv rfl en_12 (fun w s => ct_l_eqNetwork _ _ _ _ _ _ _ _ _ w (o56.toR.1.mono (s.get 1 rfl)) (o56.toR.2.mono (s.get 1 rfl)) (o18.toR.1.mono (s.get 9 rfl)) (o18.toR.2.mono (s.get 9 rfl)))) rfl ?_; refine sq_v rfl (v_not rfl) rfl ?_; refine sq_end (qs_n ?_); refine wp_cf rfl ?_; refine wp_sk (qs_n (wp_sc (wp_sq ?_))); refine sq_v rfl (v_assign rfl) rfl ?_; refine sq_end (qs_n (wp_sc (wp_sq ?_))); refine sq_v rfl (v_loadNB 4 ty_32 rfl rfl rfl rfl) rfl ?_; refine sq_v rfl (v_move rfl) rfl ?_; refine sq_u rfl (x_callv rfl en_14 (fun w s => ct_l_heldNetwork _ _ _ _ _ _ _ _ _ w (om45.toR.1.mono (s.get 5 rfl)) (om45.toR.2.mono (s.get 5 rfl)) hl45 (by first | assumption | exact iota_held _ _ | omega | rfl))) rfl ?_; refine sq_v rfl (v_assign rfl) rfl ?_; refine sq_end (qs_n (wp_sc (wp_sc (wp_sq ?_)))); refine sq_v rfl (v_move rfl) rfl ?_; refine sq_v rfl (v_lss rfl rfl) rfl ?_; refine sq_end (qs_n ?_); refine wp_cd rfl (fun c65 => ?_) (fun c65 => ?_)
        · refine wp_sc (wp_sq ?_); refine sq_v rfl (v_assign rfl) rfl ?_; refine sq_end (qs_n (wp_rt (qs_r ?_)))
          exfalso; first | omega | contradiction
        · refine wp_sk (qs_n (wp_sc (wp_sc (wp_sq ?_)))); refine sq_v rfl (v_move rfl) rfl ?_; refine sq_v rfl (v_move rfl) rfl ?_; refine sq_v rfl (v_neqs rfl rfl) rfl ?_; refine sq_end (qs_n ?_); refine wp_cf rfl ?_; refine wp_sk (qs_n (wp_sc (wp_sq ?_))); refine sq_v rfl (v_assign rfl) rfl ?_; refine sq_end (qs_n (wp_rt ?_)); exact qs_ret1 rfl rfl (fin_v (i := 12) rfl)
set_option maxRecDepth 100000 in
theorem lifted_fnExactSumPrivate (os : Os) (started : os.Started) (H : Type) (enc : TypeId × Value → H) :
    ReturnsInHanded {} Try.checked os 4 .any (Rows.fnExactSumPrivateSpec.pre6 enc Try.prog Try.f4 Rows.fnExactSumPrivateRow.domain false) (Rows.fnExactSumPrivateSpec.post enc Try.prog Try.f4 false true false false) := by
  refine returnsInHanded_of_change (C := Try.checked) lift_own started (by kernel_rfl) Try.func4
    (ChangeSpec.witness6 (enc := enc) (C := Try.checked) false ⟨#[], #[.agg #[.int .i64 0, .int .i64 0, .int .i64 0, .slice none 0 0, .slice none 0 0]], []⟩ 8 (by kernel_rfl) (by kernel_rfl) (by kernel_rfl) (by kernel_rfl)) ?_
  intro W base args ds gs before hval0 hW hcnd _; have hval : ∀ (j : Nat) t v, Try.f4.params[j]? = some t → args[j]? = some v → Value.okWide Try.prog W .any base t v := hval0; have hW' := hW; obtain ⟨p, q, hA0, hV, rfl, hfz, hnd⟩ := hW; have hlt : ∀ x ∈ p, x.block < W.heap.size := fun x hx => by simpa using hW'.lt x (by simp [hx])
  have hA : DataW.TrodAll enc Try.prog W 0 (fun _ => true) true Try.f4.params.toList args.toList ds p := hA0; have hA1 := hA; rw [Try.params4] at hA1 hval; obtain ⟨v0, vs0, d0, ds0, p0, q0, hargs, rfl, rfl, h0, r0⟩ := trodAll_cons hA1; obtain ⟨rfl, rfl, rfl⟩ := trodAll_nil r0; obtain rfl : args = #[v0] := by cases args; simp_all
  obtain ⟨rfl, rfl⟩ := trodVars_none hV; have k0 := hval 0 27 v0 rfl rfl; obtain ⟨x0, x1, x2, ts, op, vt, vo, rfl, rt, ro⟩ := arg_network k0 h0; refine (show Calls Try.prog 4 _ W (RetV W (.bool true)) from ct_l_FnExactSumPrivate x0 x1 x2 ts op vt vo W rt ro).mono fun e W' ⟨he, hu⟩ => ?_; subst he; refine ⟨_, rfl, _, _, _, [], _, [], hW', trodAll_mk1 (shut_bool Try.underlying4 true), trodAll_below lift_laid hu.below (by kernel_rfl) hA hlt, rfl, hu.below.frame _, fun h => by cases h⟩
set_option maxHeartbeats 4000000 in
theorem joined_fnExactSumPrivate : joinedFacts Try.pinned.checked.prog 4 Try.f4 Rows.fnExactSumPrivateSpec Rows.fnExactSumPrivateRow = true := by
  unfold joinedFacts
  repeat' (with_reducible refine cd_and ?_ ?_)
  all_goals first | with_reducible exact cd_enter | (with_reducible refine cd_lifts' ?_; rfl) | (with_reducible refine cd_make' ?_; rfl) | (as_aux_lemma => kernel_rfl)
theorem named_fnExactSumPrivate : Try.pinned.checked.prog.funcNamed Rows.fnExactSumPrivateRow.func = some 4 := by kernel_rfl
theorem over_fnExactSumPrivate : Rows.fnExactSumPrivateRow.holds Try.pinned (OpenSpec.ofChange Rows.fnExactSumPrivateSpec) :=
  OpenClaim.holds_of_wide 4 Try.f4 rfl rfl rfl rfl rfl rfl rfl ⟨rfl, rfl, rfl, rfl, rfl⟩ rfl rfl rfl rfl rfl named_fnExactSumPrivate Try.func4 joined_fnExactSumPrivate
    (of_decide_eq_true (by kernel_rfl)) (by unfold Func.isWrapper; first | (rw [if_pos (by decide +kernel)]; kernel_rfl) | (rw [if_neg (by decide +kernel)]; exact ⟨rfl, rfl⟩))
    (fun os started H enc _ => lifted_fnExactSumPrivate os started H enc)
/-- The law FnExactSumPrivate holds at every input. -/
theorem proved_fnExactSumPrivate : Rows.FnExactSumPrivateSaid :=
  over_fnExactSumPrivate
#print axioms proved_fnExactSumPrivate
end Go.Proofs.Ytehjljijionhaaa
