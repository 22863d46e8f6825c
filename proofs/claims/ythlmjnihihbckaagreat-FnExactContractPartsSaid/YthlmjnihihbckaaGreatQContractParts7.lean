/-
  Parts of the proof of FnExactContractParts: laws of heaps, contracts of functions.
  Conditions: none.
-/
import Derived.Test.YthlmjnihihbckaaGreatQContractParts6
namespace Go.Proofs.YthlmjnihihbckaaGreat
set_option maxRecDepth 100000
open Go.RowKit
theorem OwnL.piece {ts : List Ten} {vs : List Value} {l : List PH} (o : OwnL (flat ts) vs l) {k : Nat} {t : Ten} (h : ts[k]? = some t) : OwnL (flat [t]) ((vs.drop (k * 3)).take 3) ((l.drop (k * 3)).take 3) := by
  have hk := (List.getElem?_eq_some_iff.1 h).1; have e : ((flat ts).drop (k * 3)).take 3 = flat [t] := by
    rw [← (flat_take (Nat.le_of_lt hk)).2, drop_at h]; rfl
  have := (o.drop (k * 3)).take 3
  rwa [e] at this
theorem OwnL.dropK {ts : List Ten} {vs : List Value} {l : List PH} (o : OwnL (flat ts) vs l) (p q : Nat) : ∀ k, k ≤ ts.length → OwnL (flat (dropK 1 ts p q k)) (dropK 3 vs p q k) (dropK 3 l p q k)
  | 0, _ => OwnL.nil
  | k + 1, hk => by
    have ih := OwnL.dropK o p q k (by omega); have ht : ts[k]? = some ts[k] := List.getElem?_eq_getElem (by omega)
    by_cases h : k ≠ p ∧ k ≠ q
    · rw [dropK_yes h, dropK_yes h, dropK_yes h, one_drop ht, flat_append]; exact ih.append (o.piece ht)
    · rw [dropK_no h, dropK_no h, dropK_no h]; exact ih
theorem dropK_sub {α : Type} (m : Nat) (l : List α) (p q : Nat) : ∀ k, (dropK m l p q k).Sublist (l.take (k * m))
  | 0 => by simp [dropK]
  | k + 1 => by
    have ih := dropK_sub m l p q k; have e : l.take ((k + 1) * m) = l.take (k * m) ++ (l.drop (k * m)).take m := by rw [Nat.add_mul, Nat.one_mul, List.take_add]
    rw [e]
    by_cases h : k ≠ p ∧ k ≠ q
    · rw [dropK_yes h]; exact ih.append (List.Sublist.refl _)
    · rw [dropK_no h]; exact ih.trans (List.sublist_append_left _ _)
theorem OwnH.dropK {ts : List Ten} {cs : List Value} {h : PH} (o : OwnH (flat ts) cs h) (p q : Nat) : ∃ g, PLe g h ∧ OwnH (flat (dropK 1 ts p q ts.length)) (dropK 3 cs p q ts.length) g := by
  obtain ⟨l, ol, m⟩ := o; have hs := (dropK_sub 3 l p q ts.length).trans (List.take_sublist _ _); have hsep := sep_mono m.sep hs; refine ⟨joinP (Go.Proofs.YthlmjnihihbckaaGreat.dropK 3 l p q ts.length), fun k o e => ?_, _, ol.dropK p q _ (Nat.le_refl _), Made.join hsep⟩; obtain ⟨y, hy, e'⟩ := joinP_dom e; exact m.le y (hs.subset hy) k o e'
theorem perm_all {k p n : Int} {t : Ten} {ls : List Int} (h : PermOK k p n t ls) : ∀ m : Nat, ((permX (widthI k n) t ls (permD t ls) m).length : Int) = m * widthI k n ∧ ∀ a ∈ permX (widthI k n) t ls (permD t ls) m, 0 ≤ a ∧ a ≤ topI k p n
  | 0 => by simp [permX]
  | m + 1 => by
    have ih := perm_all h m; have ho := h.off m; have he := elt_inR h.ten ho.1 ho.2; have hw := width_range h.ring; rw [permX_step]; refine ⟨?_, fun a ha => ?_⟩
    · rw [List.length_append, he.1, Int.natCast_add, ih.1, show ((m + 1 : Nat) : Int) = (m : Int) + 1 from rfl, Int.add_mul, Int.one_mul]; omega
    · rcases List.mem_append.1 ha with ha | ha
      · exact ih.2 a ha
      · exact he.2 a ha
theorem perm_axes {k p n : Int} {t : Ten} {ls : List Int} (h : PermOK k p n t ls) : axesL ls (permD t ls) := by
  refine ⟨h.len.2.2, (permD_len t ls).symm, fun j hj => ⟨?_, h.dims j (by rw [permD_len]; exact hj), nodup_not_take h.nodup hj⟩⟩; obtain ⟨i, hi, e⟩ := getD_of_mem (h.perm.mem_iff.1 (mem_getD hj)); rw [← e]; exact (h.axes.2.2 i hi).1
theorem perm_ten {k p n : Int} {t : Ten} {ls : List Int} (h : PermOK k p n t ls) : tensorL k p n (permT k n t ls).l (permT k n t ls).d (permT k n t ls).x := by
  have hs := h.small; have ha := perm_axes h; have hx := perm_all h (prodI (permD t ls)).toNat; refine ⟨h.ring, sizeI_ge.2 ⟨ha, hs.2⟩, ?_, hx.2⟩
  show ((permX (widthI k n) t ls (permD t ls) (prodI (permD t ls)).toNat).length : Int) = sizeI ls (permD t ls) * widthI k n
  rw [sizeI_yes ha hs.2, hx.1, show (((prodI (permD t ls)).toNat : Nat) : Int) = prodI (permD t ls) by omega]
theorem setL_of_perm {xs ys : List Int} (h : xs.Perm ys) (hn : ys.Nodup) : setL xs ys :=
  ⟨h.length_eq, fun _ hj => ⟨h.mem_iff.2 (mem_getD hj), nodup_not_take hn hj⟩⟩
theorem net_open {k p n : Int} {ts : List Ten} {op : List Int} (h : netL k p n ts op) : op.Nodup ∧ op.length ≤ 12 := by
  have ha := (sizeI_ge.1 h.2.2.2.2).1; exact ⟨axes_nodup ha, ha.1⟩
theorem mem_keep {t u : Ten} {ks : List Int} {x : Int} : x ∈ keepL t u ks ↔ (x ∈ t.l ∨ x ∈ u.l) ∧ x ∈ ks := by
  unfold keepL
  rw [List.mem_filter, mem_joinI, decide_eq_true_eq]
theorem sum_ten {k p n : Int} {t : Ten} (ht : tensorL k p n t.l t.d t.x) (ks : List Int) : tensorL k p n (sumR k p n t ks).l (sumR k p n t ks).d (sumR k p n t ks).x ∧ (sumR k p n t ks).l = keepL t (oneT k p n) ks ∧ (sumR k p n t ks).d = (keepL t (oneT k p n) ks).map (dimJ t (oneT k p n)) := by
  have := pair_ten (sum_pair ht ks)
  rwa [sumR_pair ht] at this
theorem fin_perm {k p n : Int} {t : Ten} {op : List Int} (ht : tensorL k p n t.l t.d t.x) (hn : op.Nodup) (hs : ∀ x ∈ op, x ∈ t.l) : PermOK k p n (sumR k p n t op) op := by
  obtain ⟨h1, h2, _⟩ := sum_ten ht op; have hk : ∀ x, x ∈ (sumR k p n t op).l ↔ x ∈ op := fun x => by
    rw [h2, mem_keep]; exact ⟨fun h => h.2, fun h => ⟨.inl (hs x h), h⟩⟩
  exact ⟨ht.1, h1, perm_of hn (fun x hx => (hk x).2 hx) (pigeon (axes_nodup (ten_axes h1)) fun x hx => (hk x).1 hx)⟩
noncomputable def finT (k p n : Int) (t : Ten) (op : List Int) : Ten := permT k n (sumR k p n t op) op
def finP (k p n : Int) (ts : List Ten) (op : List Int) (t : Ten) : Prop := netL k p n ts op ∧ tensorL k p n t.l t.d t.x ∧ ∀ x ∈ op, x ∈ t.l
open Classical in
noncomputable def finB (k p n : Int) (ts : List Ten) (op : List Int) (t : Ten) : Bool := decide (finP k p n ts op t)
open Classical in
noncomputable def finR (k p n : Int) (ts : List Ten) (op : List Int) (t : Ten) : Ten := if finP k p n ts op t then finT k p n t op else noTen
theorem finP.perm {k p n : Int} {ts : List Ten} {op : List Int} {t : Ten} (h : finP k p n ts op t) : PermOK k p n (sumR k p n t op) op := fin_perm h.2.1 (net_open h.1).1 h.2.2
theorem FinNo {k p n : Int} {ts : List Ten} {op : List Int} {t : Ten} (h : ¬ finP k p n ts op t) : TenB (finR k p n ts op t) (finB k p n ts op t) (.tuple [tenV (.slice none 0 0) (.slice none 0 0) (.slice none 0 0), .bool false].toArray) emp :=
  ⟨.slice none 0 0, .slice none 0 0, .slice none 0 0, by simp [finB, h], by rw [finR, if_neg h]; exact triO_none⟩
theorem FinYes {k p n : Int} {ts : List Ten} {op : List Int} {t : Ten} {a b c : Value} {h : PH} (hp : finP k p n ts op t) (r : TriO (finT k p n t op) a b c h) : TenB (finR k p n ts op t) (finB k p n ts op t) (.tuple [tenV a b c, .bool true].toArray) h :=
  ⟨a, b, c, by simp [finB, hp], by rw [finR, if_pos hp]; exact r⟩
def partP (k p n : Int) (ts : List Ten) (op : List Int) (ss : List Stp) (m : Int) : Prop := orderL k p n ts op ss ∧ (0 ≤ m ∧ m ≤ ss.length) ∧ ∀ j, j < m.toNat → runFit k p n ts op ss j
open Classical in
noncomputable def partB (k p n : Int) (ts : List Ten) (op : List Int) (ss : List Stp) (m : Int) : Bool := decide (partP k p n ts op ss m)
noncomputable def partTs (k p n : Int) (ts : List Ten) (op : List Int) (ss : List Stp) (m : Int) : List Ten := ifB (partB k p n ts op ss m) (outTo k p n ts op ss m.toNat) []
noncomputable def partOp (k p n : Int) (ts : List Ten) (op : List Int) (ss : List Stp) (m : Int) : List Int := ifB (partB k p n ts op ss m) op []
def PartR (k p n : Int) (ts : List Ten) (op : List Int) (ss : List Stp) (m : Int) (x : Value) (h : PH) : Prop :=
  NetB (ifB (partB k p n ts op ss m) k 0) (ifB (partB k p n ts op ss m) p 0) (ifB (partB k p n ts op ss m) n 0) (partTs k p n ts op ss m) (partOp k p n ts op ss m) (partB k p n ts op ss m) x h
theorem partB_true {k p n : Int} {ts : List Ten} {op : List Int} {ss : List Stp} {m : Int} : partB k p n ts op ss m = true ↔ partP k p n ts op ss m := by simp [partB]
theorem PartNo {k p n m : Int} {ts : List Ten} {op : List Int} {ss : List Stp} (h : ¬ partP k p n ts op ss m) : PartR k p n ts op ss m (.tuple [netV 0 0 0 (.slice none 0 0) (.slice none 0 0), .bool false].toArray) emp := by
  have e : partB k p n ts op ss m = false := by simp [partB, h]
  refine ⟨.slice none 0 0, .slice none 0 0, ?_, ?_⟩
  · rw [e]; rfl
  · rw [partTs, partOp, e]; exact NetO.nil
theorem PartYes {k p n m : Int} {ts : List Ten} {op : List Int} {ss : List Stp} {vt vo : Value} {g : PH} (h : partP k p n ts op ss m) (r : NetO (outTo k p n ts op ss m.toNat) op vt vo g) : PartR k p n ts op ss m (.tuple [netV k p n vt vo, .bool true].toArray) g := by
  have e : partB k p n ts op ss m = true := by simp [partB, h]
  refine ⟨vt, vo, ?_, ?_⟩
  · rw [e]; rfl
  · rw [partTs, partOp, e]; exact r
def conP (k p n : Int) (ts : List Ten) (op : List Int) (ss : List Stp) : Prop := orderL k p n ts op ss ∧ ∀ j, j < ss.length → runFit k p n ts op ss j
open Classical in
noncomputable def conB (k p n : Int) (ts : List Ten) (op : List Int) (ss : List Stp) : Bool := decide (conP k p n ts op ss)
noncomputable def lastT (k p n : Int) (ts : List Ten) (op : List Int) (ss : List Stp) : Ten := (runTo k p n ts op ss ss.length).getD (ts.length + ss.length - 1) noTen
noncomputable def conT (k p n : Int) (ts : List Ten) (op : List Int) (ss : List Stp) : Ten := if ts.length = 0 then oneT k p n else finT k p n (lastT k p n ts op ss) op
open Classical in
noncomputable def conR (k p n : Int) (ts : List Ten) (op : List Int) (ss : List Stp) : Ten := if conP k p n ts op ss then conT k p n ts op ss else noTen
theorem conB_true {k p n : Int} {ts : List Ten} {op : List Int} {ss : List Stp} : conB k p n ts op ss = true ↔ conP k p n ts op ss := by simp [conB]
theorem conB_false {k p n : Int} {ts : List Ten} {op : List Int} {ss : List Stp} : conB k p n ts op ss = false ↔ ¬ conP k p n ts op ss := by simp [conB]
theorem con_part {k p n : Int} {ts : List Ten} {op : List Int} {ss : List Stp} : partP k p n ts op ss ss.length ↔ conP k p n ts op ss := by
  unfold partP conP
  rw [Int.toNat_natCast]; exact ⟨fun h => ⟨h.1, h.2.2⟩, fun h => ⟨h.1, by omega, h.2⟩⟩
section
variable {k p n : Int} {ts : List Ten} {op : List Int} {ss : List Stp}
theorem conP.last (h : conP k p n ts op ss) (hn : ts.length ≠ 0) : finP k p n ts op (lastT k p n ts op ss) ∧ outTo k p n ts op ss ss.length = [lastT k p n ts op ss] := by
  have r := run_ok h.1 ss.length (Nat.le_refl _) h.2; have hl := run_left h.1 (fun e => hn (by rw [e]; rfl)); have hg := r.get (j := ts.length + ss.length - 1) (by omega); refine ⟨⟨h.1.1, hg.1, fun x hx => ?_⟩, by rw [outTo, hl]; rfl⟩; obtain ⟨j, hj, hxj⟩ := run_open h.1 hx ss.length (Nat.le_refl _); rw [hl] at hj
  simp at hj
  show x ∈ ((runTo k p n ts op ss ss.length).getD (ts.length + ss.length - 1) noTen).l
  rw [hg.2.1, ← hj]; exact hxj
theorem conP.empty (h : conP k p n ts op ss) (hn : ts.length = 0) : op = [] := by
  refine List.eq_nil_iff_forall_not_mem.2 fun x hx => ?_; obtain ⟨j, hj, e⟩ := getD_of_mem hx; have ho := (open_at h.1.1.2.2.2.2 hj).2; have e0 : ts = [] := List.eq_nil_of_length_eq_zero hn; rw [e0] at ho
  simp [dimOf] at ho
theorem conP.ten (h : conP k p n ts op ss) : tensorL k p n (conT k p n ts op ss).l (conT k p n ts op ss).d (conT k p n ts op ss).x ∧ (conT k p n ts op ss).l = op := by
  unfold conT
  by_cases hn : ts.length = 0
  · rw [if_pos hn]; exact ⟨one_ten h.1.1.1, (h.empty hn).symm⟩
  · rw [if_neg hn]; exact ⟨perm_ten (h.last hn).1.perm, rfl⟩
end
theorem ConNo {k p n : Int} {ts : List Ten} {op : List Int} {ss : List Stp} (h : ¬ conP k p n ts op ss) : TenB (conR k p n ts op ss) (conB k p n ts op ss) (.tuple [tenV (.slice none 0 0) (.slice none 0 0) (.slice none 0 0), .bool false].toArray) emp :=
  ⟨.slice none 0 0, .slice none 0 0, .slice none 0 0, by simp [conB, h], by rw [conR, if_neg h]; exact triO_none⟩
theorem ConYes {k p n : Int} {ts : List Ten} {op : List Int} {ss : List Stp} {a b c : Value} {h : PH} (hp : conP k p n ts op ss) (r : TriO (conT k p n ts op ss) a b c h) : TenB (conR k p n ts op ss) (conB k p n ts op ss) (.tuple [tenV a b c, .bool true].toArray) h :=
  ⟨a, b, c, by simp [conB, hp], by rw [conR, if_pos hp]; exact r⟩
end Go.Proofs.YthlmjnihihbckaaGreat
namespace Go.Proofs.YthlmjnihihbckaaGreat
set_option maxRecDepth 100000
open Go.RowKit
theorem one_drop_none {α : Type} {l : List α} {k : Nat} (h : l[k]? = none) : (l.drop (k * 1)).take 1 = [] := by
  rw [Nat.mul_one, List.drop_of_length_le (List.getElem?_eq_none_iff.1 h)]; rfl
theorem mem_dropK {α : Type} {l : List α} {p q : Nat} {t : α} : ∀ k, t ∈ dropK 1 l p q k ↔ ∃ m, m < k ∧ m ≠ p ∧ m ≠ q ∧ l[m]? = some t
  | 0 => by simp [dropK]
  | k + 1 => by
    have ih := mem_dropK (l := l) (p := p) (q := q) (t := t) k; have hx : t ∈ (l.drop (k * 1)).take 1 ↔ l[k]? = some t := by
      cases h : l[k]? with
      | none => rw [one_drop_none h]; simp
      | some x => rw [one_drop h]; simp [eq_comm]
    by_cases hc : k ≠ p ∧ k ≠ q
    · rw [dropK_yes hc, List.mem_append, ih, hx]
      constructor
      · rintro (⟨m, h1, h2⟩ | h)
        · exact ⟨m, by omega, h2⟩
        · exact ⟨k, by omega, hc.1, hc.2, h⟩
      · rintro ⟨m, h1, h2, h3, h4⟩
        by_cases e : m = k
        · subst e; exact .inr h4
        · exact .inl ⟨m, by omega, h2, h3, h4⟩
    · rw [dropK_no hc, ih]
      constructor
      · rintro ⟨m, h1, h2⟩; exact ⟨m, by omega, h2⟩
      · rintro ⟨m, h1, h2, h3, h4⟩; have : m ≠ k := fun e => hc (e ▸ ⟨h2, h3⟩); exact ⟨m, by omega, h2, h3, h4⟩
def needS (ts : List Ten) (op : List Int) (i j m : Nat) : List Int := op ++ (dropK 1 ts i j m).flatMap (·.l)
theorem mem_needS {ts : List Ten} {op : List Int} {i j m : Nat} {x : Int} : x ∈ needS ts op i j m ↔ x ∈ op ∨ ∃ t ∈ dropK 1 ts i j m, x ∈ t.l := by
  simp [needS, List.mem_append, List.mem_flatMap]
section
variable {ts : List Ten} {op : List Int} {i j k : Nat} {t : Ten}
end
theorem dimOf_map {us : List Ten} {f : Int → Int} {x : Int} (h : ∀ t ∈ us, t.d = t.l.map f) (hx : ∃ t ∈ us, x ∈ t.l) : dimOf us x = f x := by
  induction us with
  | nil => obtain ⟨t, ht, _⟩ := hx; simp at ht
  | cons t us ih =>
    rw [dimOf]
    by_cases hm : x ∈ t.l
    · rw [if_pos hm, h t (by simp), map_getD (findI_get hm).1, (findI_get hm).2]
    · rw [if_neg hm]; refine ih (fun u hu => h u (by simp [hu])) ?_; obtain ⟨u, hu, hxu⟩ := hx
      rcases List.mem_cons.1 hu with rfl | hu
      · exact absurd hxu hm
      · exact ⟨u, hu, hxu⟩
theorem dimOf_none {us : List Ten} {x : Int} (hx : ¬ ∃ t ∈ us, x ∈ t.l) : dimOf us x = 0 := Classical.byContradiction fun h => hx (dimOf_mem h)
theorem cons_of_map {us : List Ten} {f : Int → Int} (h : ∀ t ∈ us, t.d = t.l.map f) : consL us := fun i _ t ht j hj t' ht' => by
  rw [ht] at ht'
  cases ht'
  by_cases hx : ∃ u ∈ us.take i, t.l.getD j 0 ∈ u.l
  · right
    rw [dimOf_map (fun u hu => h u (List.mem_of_mem_take hu)) hx, h t (List.mem_of_getElem? ht), map_getD hj]
  · exact .inl (dimOf_none hx)
theorem net_of {k p n : Int} {ts us : List Ten} {op : List Int} (h : netL k p n ts op) (hl : us.length ≤ 12) (ht : ∀ t ∈ us, tensorL k p n t.l t.d t.x) (hd : ∀ t ∈ us, t.d = t.l.map (dimOf ts)) (ho : ∀ x ∈ op, ∃ t ∈ us, x ∈ t.l) : netL k p n us op := by
  refine ⟨h.1, hl, ht, cons_of_map hd, ?_⟩; have e : dimsFor us op = dimsFor ts op := List.map_congr_left fun x hx => dimOf_map hd (ho x hx); rw [e]; exact h.2.2.2.2
theorem net_has {k p n : Int} {ts : List Ten} {op : List Int} (h : netL k p n ts op) {x : Int} (hx : x ∈ op) : ∃ t ∈ ts, x ∈ t.l := by
  obtain ⟨j, hj, e⟩ := getD_of_mem hx; have ho := (open_at h.2.2.2.2 hj).2; rw [e] at ho; exact dimOf_mem (by omega)
def mgLo (i j : Int) : Nat := (min i j).toNat
def mgHi (i j : Int) : Nat := (max i j).toNat
def mgA (ts : List Ten) (i j : Int) : Ten := ts.getD (mgLo i j) noTen
def mgB (ts : List Ten) (i j : Int) : Ten := ts.getD (mgHi i j) noTen
def mergN (ts : List Ten) (op : List Int) (i j : Int) : List Int := needS ts op i.toNat j.toNat ts.length
def mergP (k p n : Int) (ts : List Ten) (op : List Int) (i j : Int) : Prop := netL k p n ts op ∧ (0 ≤ i ∧ i < ts.length) ∧ (0 ≤ j ∧ j < ts.length) ∧ i ≠ j ∧ pairP k p n (mgA ts i j) (mgB ts i j) (mergN ts op i j)
noncomputable def mergT (k p n : Int) (ts : List Ten) (op : List Int) (i j : Int) : Ten := pairR k p n (mgA ts i j) (mgB ts i j) (mergN ts op i j)
noncomputable def mergL (k p n : Int) (ts : List Ten) (op : List Int) (i j : Int) (m : Nat) : List Ten := dropK 1 (ts.set (mgLo i j) (mergT k p n ts op i j)) (mgHi i j) (mgHi i j) m
section
variable {k p n : Int} {ts : List Ten} {op : List Int} {i j : Int}
theorem merg_hi {m : Nat} (h : (m : Int) = max i j) : mergL k p n ts op i j (m + 1) = mergL k p n ts op i j m := by
  have e : m = mgHi i j := by unfold mgHi; omega
  unfold mergL
  rw [dropK_no (by omega)]
theorem merg_len (m : Nat) : (mergL k p n ts op i j m).length ≤ m := by
  have := dropK_len (m := 1) (cs := ts.set (mgLo i j) (mergT k p n ts op i j)) (p := mgHi i j) (q := mgHi i j) m
  unfold mergL; omega
theorem mergP.mem (h : mergP k p n ts op i j) {t : Ten} : t ∈ mergL k p n ts op i j ts.length ↔ t = mergT k p n ts op i j ∨ ∃ m, m < ts.length ∧ m ≠ mgLo i j ∧ m ≠ mgHi i j ∧ ts[m]? = some t := by
  obtain ⟨_, hi, hj, hne, _⟩ := h; have e : mgLo i j ≠ mgHi i j := by unfold mgLo mgHi; omega
  have e2 : mgLo i j < ts.length := by unfold mgLo; omega
  rw [mergL, mem_dropK]
  constructor
  · rintro ⟨m, h1, h2, _, h4⟩
    by_cases c : mgLo i j = m
    · subst c; rw [List.getElem?_set_self h1] at h4
      cases h4; exact .inl rfl
    · rw [List.getElem?_set_ne c] at h4; exact .inr ⟨m, h1, Ne.symm c, h2, h4⟩
  · rintro (rfl | ⟨m, h1, h2, h3, h4⟩)
    · exact ⟨mgLo i j, e2, e, e, List.getElem?_set_self e2⟩
    · exact ⟨m, h1, h3, h3, by rw [List.getElem?_set_ne (Ne.symm h2)]; exact h4⟩
theorem mergP.ab (h : mergP k p n ts op i j) : ts[mgLo i j]? = some (mgA ts i j) ∧ ts[mgHi i j]? = some (mgB ts i j) := by
  obtain ⟨_, hi, hj, hne, _⟩ := h; have e1 : mgLo i j < ts.length := by unfold mgLo; omega
  have e2 : mgHi i j < ts.length := by unfold mgHi; omega
  exact ⟨by simp [mgA, List.getD, e1], by simp [mgB, List.getD, e2]⟩
theorem mergP.net (h : mergP k p n ts op i j) : netL k p n (mergL k p n ts op i j ts.length) op := by
  have hn := h.1; have hd := net_dmap hn; obtain ⟨ea, eb⟩ := h.ab; have hma := List.mem_of_getElem? ea; have hmb := List.mem_of_getElem? eb; have pt := pair_ten h.2.2.2.2; refine net_of hn (Nat.le_trans (merg_len _) hn.2.1) (fun t ht => ?_) (fun t ht => ?_) (fun x hx => ?_)
  · rcases h.mem.1 ht with rfl | ⟨m, _, _, _, hm⟩
    · exact pt.1
    · exact hn.2.2.1 t (List.mem_of_getElem? hm)
  · rcases h.mem.1 ht with rfl | ⟨m, _, _, _, hm⟩
    · show (mergT k p n ts op i j).d = (mergT k p n ts op i j).l.map (dimOf ts)
      rw [mergT, pt.2.2, pt.2.1, keep_map (hd _ hma) (hd _ hmb)]
    · exact hd t (List.mem_of_getElem? hm)
  · obtain ⟨t, ht, hxt⟩ := net_has hn hx; obtain ⟨m, hm⟩ := List.getElem?_of_mem ht
    by_cases c : m ≠ mgLo i j ∧ m ≠ mgHi i j
    · exact ⟨t, h.mem.2 (.inr ⟨m, (List.getElem?_eq_some_iff.1 hm).1, c.1, c.2, hm⟩), hxt⟩
    · refine ⟨_, h.mem.2 (.inl rfl), ?_⟩; rw [mergT, pt.2.1, mem_keep]; refine ⟨?_, mem_needS.2 (.inl hx)⟩
      by_cases c1 : m = mgLo i j
      · subst c1; rw [ea] at hm; cases hm; exact .inl hxt
      · have c2 : m = mgHi i j := by omega
        subst c2; rw [eb] at hm; cases hm; exact .inr hxt
theorem mergP.less (h : mergP k p n ts op i j) : (mergL k p n ts op i j ts.length).length + 1 ≤ ts.length := by
  obtain ⟨_, hi, hj, hne, _⟩ := h; have e : mgHi i j < ts.length := by unfold mgHi; omega
  have hs : ∀ (c m : Nat), mgHi i j < m → m = mgHi i j + 1 + c → (mergL k p n ts op i j m).length + 1 ≤ m := by
    intro c
    induction c with
    | zero =>
      intro m hm e; have := merg_len (k := k) (p := p) (n := n) (ts := ts) (op := op) (i := i) (j := j) (mgHi i j); rw [show m = mgHi i j + 1 by omega, merg_hi (by unfold mgHi; omega)]
      omega
    | succ c ih =>
      intro m hm e; have ih := ih (mgHi i j + 1 + c) (by omega) rfl; have e3 : mgHi i j + 1 + c ≠ mgHi i j := by omega
      rw [show m = (mgHi i j + 1 + c) + 1 by omega, mergL, dropK_yes ⟨e3, e3⟩, List.length_append, List.length_take]
      unfold mergL at ih
      omega
  exact hs (ts.length - (mgHi i j + 1)) ts.length e (by omega)
end
end Go.Proofs.YthlmjnihihbckaaGreat
namespace Go.Proofs.YthlmjnihihbckaaGreat
set_option maxRecDepth 100000
open Go.RowKit
theorem prod_erase : ∀ {ds : List Int} {j : Nat}, j < ds.length → prodI (ds.eraseIdx j) * ds.getD j 0 = prodI ds
  | [], j, h => by simp at h
  | d :: ds, 0, _ => by rw [List.eraseIdx_zero, List.tail_cons, prodI_cons, Int.mul_comm]; rfl
  | d :: ds, j + 1, h => by
    have ih := prod_erase (ds := ds) (j := j) (by simpa using h); rw [List.eraseIdx_cons_succ, prodI_cons, prodI_cons, List.getD_cons_succ, Int.mul_assoc, ih]
def slJ (t : Ten) (x : Int) : Nat := (findI t.l x).toNat
def slX (wd : Int) (t : Ten) (j : Nat) (v : Int) (m : Nat) : List Int := (slTo t.d j v m).flatMap fun (n : Nat) => elt t.x wd n
noncomputable def slT (k n : Int) (t : Ten) (x v : Int) : Ten := ⟨t.l.eraseIdx (slJ t x), t.d.eraseIdx (slJ t x), slX (widthI k n) t (slJ t x) v (prodI t.d).toNat⟩
/-- The numbers as the program meets them. -/
def slY (wd : Int) (t : Ten) (j : Nat) (v : Int) (m : Nat) : List Int := ((List.range m).map (slAt t.d j v)).flatMap fun (n : Nat) => elt t.x wd n
theorem slY_step {wd : Int} {t : Ten} {j m : Nat} {v : Int} : slY wd t j v (m + 1) = slY wd t j v m ++ elt t.x wd (slAt t.d j v m) := by
  unfold slY
  rw [List.range_succ, List.map_append, List.flatMap_append]
  simp
structure SlOK (k p n : Int) (t : Ten) (x v : Int) : Prop where
  ten : tensorL k p n t.l t.d t.x
  mem : x ∈ t.l
  val : 0 ≤ v ∧ v < t.d.getD (slJ t x) 0
section
variable {k p n : Int} {t : Ten} {x v : Int}
theorem sl_j (h : tensorL k p n t.l t.d t.x) (hx : x ∈ t.l) : slJ t x < t.l.length ∧ slJ t x < t.d.length ∧ t.l.getD (slJ t x) 0 = x := by
  have hg := findI_get hx; have ha := ten_axes h; exact ⟨hg.1, by rw [← ha.2.1]; exact hg.1, hg.2⟩
theorem SlOK.eq (h : SlOK k p n t x v) : slX (widthI k n) t (slJ t x) v (prodI t.d).toNat = slY (widthI k n) t (slJ t x) v (prodI (t.d.eraseIdx (slJ t x))).toNat := by
  have hj := sl_j h.ten h.mem
  unfold slX slY
  rw [sl_eq (fun d hd => (dims_mem (axes_dims (ten_axes h.ten)) d hd).1) hj.2.1 h.val]
theorem SlOK.at_ (h : SlOK k p n t x v) (m : Nat) : slAt t.d (slJ t x) v m < (prodI t.d).toNat ∧ ((slAt t.d (slJ t x) v m : Nat) : Int) = v * strOf t.l t.d x + dotL (stepsL (t.l.eraseIdx (slJ t x)) t.l t.d) (idxL (t.d.eraseIdx (slJ t x)) m) := by
  have hj := sl_j h.ten h.mem; have ha := ten_axes h.ten; have hd : ∀ d ∈ t.d, 1 ≤ d := fun d hd => (dims_mem (axes_dims ha) d hd).1; have hin := sl_in hd hj.2.1 h.val m; have hs := sl_dot (ls := t.l) (ds := t.d) (is := idxL (t.d.eraseIdx (slJ t x)) m) (j := slJ t x) v (axes_nodup ha) ha.2.1 hj.1 (by rw [idxL_len, List.length_eraseIdx_of_lt hj.2.1]; have := hj.2.1; have := ha.2.1; omega); rw [hj.2.2] at hs
  unfold slAt
  omega
theorem SlOK.dims (h : SlOK k p n t x v) : dimsIn (t.d.eraseIdx (slJ t x)) ∧ 1 ≤ prodI (t.d.eraseIdx (slJ t x)) ∧ prodI (t.d.eraseIdx (slJ t x)) ≤ 4096 := by
  have hj := sl_j h.ten h.mem; have ha := ten_axes h.ten; have hm := erase_mem (j := slJ t x) (dims_mem (axes_dims ha)); have hp1 := prodI_one fun d hd => (hm d hd).1; have hpe := prod_erase hj.2.1; have hd := axes_dims ha (slJ t x) hj.2.1; have hp := ten_prod h.ten; have h1 : prodI (t.d.eraseIdx (slJ t x)) * 1 ≤ prodI (t.d.eraseIdx (slJ t x)) * t.d.getD (slJ t x) 0 := Int.mul_le_mul_of_nonneg_left hd.1 (by omega); exact ⟨fun j hj => hm _ (mem_getD hj), hp1, by omega⟩
theorem SlOK.el (h : SlOK k p n t x v) (m : Nat) : InR k p n (elt t.x (widthI k n) (slAt t.d (slJ t x) v m)) := by
  have := (h.at_ m).1; exact elt_inR h.ten (by omega) (by omega)
theorem SlOK.all (h : SlOK k p n t x v) : ∀ m : Nat, ((slY (widthI k n) t (slJ t x) v m).length : Int) = m * widthI k n ∧ ∀ a ∈ slY (widthI k n) t (slJ t x) v m, 0 ≤ a ∧ a ≤ topI k p n
  | 0 => by simp [slY]
  | m + 1 => by
    have ih := SlOK.all h m; have he := h.el m; have hw := width_range h.ten.1; rw [slY_step]; refine ⟨?_, fun a ha => ?_⟩
    · rw [List.length_append, he.1, Int.natCast_add, ih.1, show ((m + 1 : Nat) : Int) = (m : Int) + 1 from rfl, Int.add_mul, Int.one_mul]; omega
    · rcases List.mem_append.1 ha with ha | ha
      · exact ih.2 a ha
      · exact he.2 a ha
theorem SlOK.axes (h : SlOK k p n t x v) : axesL (t.l.eraseIdx (slJ t x)) (t.d.eraseIdx (slJ t x)) := by
  have hj := sl_j h.ten h.mem; have ha := ten_axes h.ten; have hl := List.length_eraseIdx_of_lt hj.1; have hl2 := List.length_eraseIdx_of_lt hj.2.1; have hn : (t.l.eraseIdx (slJ t x)).Nodup := (axes_nodup ha).sublist (List.eraseIdx_sublist _ _); refine ⟨by rw [hl]; have := ha.1; omega, by rw [hl, hl2, ha.2.1], fun i hi => ⟨?_, h.dims.1 i (by rw [hl] at hi; rw [hl2]; have := ha.2.1; omega), nodup_not_take hn hi⟩⟩; obtain ⟨q, hq, e⟩ := getD_of_mem (List.mem_of_mem_eraseIdx (mem_getD hi)); rw [← e]; exact (ha.2.2 q hq).1
theorem SlOK.out (h : SlOK k p n t x v) : tensorL k p n (slT k n t x v).l (slT k n t x v).d (slT k n t x v).x := by
  have hd := h.dims; have ha := h.axes; have hx := h.all (prodI (t.d.eraseIdx (slJ t x))).toNat; refine ⟨h.ten.1, sizeI_ge.2 ⟨ha, hd.2.2⟩, ?_, fun a hm => ?_⟩
  · show ((slX (widthI k n) t (slJ t x) v (prodI t.d).toNat).length : Int) = sizeI (t.l.eraseIdx (slJ t x)) (t.d.eraseIdx (slJ t x)) * widthI k n
    rw [h.eq, sizeI_yes ha hd.2.2, hx.1, show (((prodI (t.d.eraseIdx (slJ t x))).toNat : Nat) : Int) = prodI (t.d.eraseIdx (slJ t x)) by omega]
  · have hm' : a ∈ slX (widthI k n) t (slJ t x) v (prodI t.d).toNat := hm; rw [h.eq] at hm'; exact hx.2 a hm'
end
end Go.Proofs.YthlmjnihihbckaaGreat
namespace Go.Proofs.YthlmjnihihbckaaGreat
set_option maxRecDepth 100000
open Go.RowKit
section
variable (m : Int) (ss : List Stp) (C : List Int) (W : Int)
def done (S : List Int) : Prop := ∀ i, i < S.length → 0 ≤ S.getD i 0
end
section
variable {m : Int} {ss : List Stp} {C : List Int} {W : Int} {S : List Int} {T : Int}
end
end Go.Proofs.YthlmjnihihbckaaGreat
namespace Go.Proofs.YthlmjnihihbckaaGreat
set_option maxRecDepth 100000
open Go.RowKit
def plainAt (m k : Nat) : Stp := if k = 0 then ⟨0, 1⟩ else ⟨(k : Int) + 1, (m : Int) + k - 1⟩
def plainTo (m j : Nat) : List Stp := (List.range j).map (plainAt m)
def plainL (m : Nat) : List Stp := plainTo m (m - 1)
theorem plain_step (m j : Nat) : plainTo m (j + 1) = plainTo m j ++ [plainAt m j] := by simp [plainTo, List.range_succ]
theorem plain_len (m j : Nat) : (plainTo m j).length = j := by simp [plainTo]
theorem plain_len' (m : Nat) : (plainL m).length = m - 1 := plain_len m _
def totP (k p n : Int) (ts : List Ten) (op : List Int) : Prop := netL k p n ts op ∧ conP k p n ts [] (plainL ts.length)
open Classical in
noncomputable def totB (k p n : Int) (ts : List Ten) (op : List Int) : Bool := decide (totP k p n ts op)
noncomputable def totX (k p n : Int) (ts : List Ten) (op : List Int) : List Int := ifB (totB k p n ts op) (conT k p n ts [] (plainL ts.length)).x []
section
variable {k p n : Int} {ts : List Ten} {op : List Int}
theorem totB_true : totB k p n ts op = true ↔ totP k p n ts op := by simp [totB]
theorem totX_yes (h : totP k p n ts op) : totX k p n ts op = (conT k p n ts [] (plainL ts.length)).x := by rw [totX, totB_true.2 h]; rfl
theorem totP.inR (h : totP k p n ts op) : InR k p n (totX k p n ts op) := by
  obtain ⟨ht, hl⟩ := h.2.ten; rw [totX_yes h]; have hax := ten_axes ht; have hd : (conT k p n ts [] (plainL ts.length)).d = [] := List.eq_nil_of_length_eq_zero (by rw [← hax.2.1, hl]; rfl); have hx := ht.2.2.1; rw [hl, hd] at hx; have hs : sizeI [] [] = 1 := by
    have : axesL [] [] := ⟨by decide, rfl, fun j hj => by simp at hj⟩
    rw [sizeI_yes this (by decide)]; rfl
  rw [hs, Int.one_mul] at hx; exact ⟨by omega, ht.2.2.2⟩
end
section
variable {k p n x : Int} {ts : List Ten} {op : List Int}
end
end Go.Proofs.YthlmjnihihbckaaGreat
namespace Go.Proofs.YthlmjnihihbckaaGreat
set_option maxRecDepth 100000
open Go.RowKit
def onesT (k p n : Int) (t : Ten) : Ten := ⟨t.l, t.d, (List.replicate (prodI t.d).toNat (oneL k p n)).flatten⟩
def envTs (k p n : Int) (ts : List Ten) (i : Int) : List Ten := ts.set i.toNat (onesT k p n (ts.getD i.toNat noTen))
def envOp (ts : List Ten) (op : List Int) (i : Int) : List Int := joinI op (ts.getD i.toNat noTen).l
def envP (k p n : Int) (ts : List Ten) (op : List Int) (i : Int) : Prop := netL k p n ts op ∧ (0 ≤ i ∧ i < ts.length) ∧ conP k p n (envTs k p n ts i) (envOp ts op i) (plainL ts.length)
open Classical in
noncomputable def envB (k p n : Int) (ts : List Ten) (op : List Int) (i : Int) : Bool := decide (envP k p n ts op i)
noncomputable def envR (k p n : Int) (ts : List Ten) (op : List Int) (i : Int) : Ten := ifB (envB k p n ts op i) (conT k p n (envTs k p n ts i) (envOp ts op i) (plainL ts.length)) noTen
section
variable {k p n i : Int} {ts : List Ten} {op : List Int}
theorem envB_true : envB k p n ts op i = true ↔ envP k p n ts op i := by simp [envB]
end
theorem dimOf_set {ts : List Ten} {j : Nat} {t u : Ten} (ht : ts[j]? = some t) (hl : u.l = t.l) (hd : u.d = t.d) (x : Int) : dimOf (ts.set j u) x = dimOf ts x := by
  induction ts generalizing j with
  | nil => simp at ht
  | cons y ts ih =>
    cases j with
    | zero =>
      have e : y = t := by simpa using ht
      subst e; simp only [List.set_cons_zero, dimOf, hl, hd]
    | succ j =>
      have := ih (j := j) (by simpa using ht); simp only [List.set_cons_succ, dimOf, this]
theorem idxAt_map {ls ds op : List Int} {f : Int → Int} (hd : ds = ls.map f) (hs : ∀ x ∈ op, x ∈ ls) : idxAt ls ds op = op.map f := List.map_congr_left fun x hx => by
  have hg := findI_get (hs x hx); rw [hd, map_getD hg.1, hg.2]
theorem conP.dims {k p n : Int} {ts : List Ten} {op : List Int} {ss : List Stp} (h : conP k p n ts op ss) : (conT k p n ts op ss).d = op.map (dimOf ts) := by
  unfold conT
  by_cases hn : ts.length = 0
  · rw [if_pos hn, h.empty hn]; rfl
  · rw [if_neg hn]; have hf := (h.last hn).1; have r := run_ok h.1 ss.length (Nat.le_refl _) h.2; have hg := r.get (j := ts.length + ss.length - 1) (by omega); have hs := sum_ten hf.2.1 op; have e : (sumR k p n (lastT k p n ts op ss) op).d = (sumR k p n (lastT k p n ts op ss) op).l.map (dimOf ts) := by
      rw [hs.2.2, hs.2.1]; exact keep_map (t := lastT k p n ts op ss) (u := oneT k p n) hg.2.2 rfl op
    exact idxAt_map e fun x hx => hf.perm.perm.mem_iff.1 hx
def crP (k p n : Int) (ts : List Ten) (op : List Int) (i : Int) (u : Ten) : Prop := replP k p n ts op i u ∧ envP k p n ts op i ∧ pairP k p n u (envR k p n ts op i) op
section
variable {k p n i : Int} {ts : List Ten} {op : List Int} {u : Ten}
theorem envP.ten (h : envP k p n ts op i) : tensorL k p n (envR k p n ts op i).l (envR k p n ts op i).d (envR k p n ts op i).x ∧ (envR k p n ts op i).l = envOp ts op i ∧ (envR k p n ts op i).d = (envR k p n ts op i).l.map (dimOf ts) := by
  have e : envR k p n ts op i = conT k p n (envTs k p n ts i) (envOp ts op i) (plainL ts.length) := by rw [envR, envB_true.2 h]; rfl
  have ht := h.2.2.ten; have hd := h.2.2.dims; rw [e]; have hi : i.toNat < ts.length := by have := h.2.1; omega
  have hj : ts[i.toNat]? = some (ts.getD i.toNat noTen) := by simp [List.getD, hi]
  refine ⟨ht.1, ht.2, ?_⟩; rw [hd, ht.2]; exact List.map_congr_left fun x _ => dimOf_set (u := onesT k p n (ts.getD i.toNat noTen)) hj rfl rfl x
theorem crP.perm (h : crP k p n ts op i u) : PermOK k p n (pairR k p n u (envR k p n ts op i) op) op := by
  obtain ⟨h1, h2, _⟩ := pair_ten h.2.2; have he := h.2.1.ten; have hn := (net_open h.1.1).1; have hk : ∀ x, x ∈ (pairR k p n u (envR k p n ts op i) op).l ↔ x ∈ op := fun x => by
    rw [h2, mem_keep]; exact ⟨fun h => h.2, fun h => ⟨.inr (by rw [he.2.1]; exact mem_joinI.2 (.inl h)), h⟩⟩
  exact ⟨h1.1, h1, perm_of hn (fun x hx => (hk x).2 hx) (pigeon (axes_nodup (ten_axes h1)) fun x hx => (hk x).1 hx)⟩
end
end Go.Proofs.YthlmjnihihbckaaGreat
namespace Go.Proofs.YthlmjnihihbckaaGreat
set_option maxRecDepth 100000
open Go.RowKit

section
variable {P : Program} {n : Nat} {w0 : World} {K : Env} {HS : List PH} {d : Option Tmp} {ty : TypeId} {ps : String} {af : Array Edge} {g : Option (Nat × Bool)}
end
theorem NetO.none : NetO [] [] (.slice none 0 0) (.slice none 0 0) emp :=
  ⟨[], emp, emp, [], ⟨rfl, .inl ⟨rfl, rfl, rfl⟩⟩, IntsO.nil, OwnL.nil, ⟨⟨fun x hx => PDj.emp _, fun x hx => PDj.emp _, trivial⟩, fun x hx => by simp at hx; subst hx; exact PLe.emp _, fun k o e => by cases e⟩⟩
end Go.Proofs.YthlmjnihihbckaaGreat
namespace Go.Proofs.YthlmjnihihbckaaGreat
set_option maxRecDepth 100000
open Go.RowKit
theorem fits_k2 {t u : Ten} {f : Int → Int} {ks : List Int} {v : Value} {g h : PH} (r : IntsO (selP (fun x => decide (x ∈ ks)) (joinI t.l u.l) ((joinI t.l u.l).map f)) v g) (l : PLe g h) : IntsR ((keepL t u ks).map f) v h := by
  rw [selP_map] at r; exact r.toR.mono l
set_option maxHeartbeats 2000000 in
theorem ct_u_l08Fits (k p n : Int) (f : Int → Int) (t u : Ten) (ks : List Int) (a b c a' b' c' v : Value) (w : World) (r1 : IntsR t.l a (hp w)) (r2 : IntsR t.d b (hp w)) (r3 : IntsR t.x c (hp w)) (r1' : IntsR u.l a' (hp w)) (r2' : IntsR u.d b' (hp w)) (r3' : IntsR u.x c' (hp w)) (rk : IntsR ks v (hp w)) (h1 : tensorL k p n t.l t.d t.x) (h2 : tensorL k p n u.l u.d u.x) (ht : t.d = t.l.map f) (hu : u.d = u.l.map f) :
    Calls Tryz.prog 65 [tenV a b c, tenV a' b' c', v].toArray w (RetV w (.bool (pairB k p n t u ks))) := by
  have hat := ten_axes h1; have hau := ten_axes h2; have h12 := hat.1; have h12' := hau.1; have hun := axes_nodup hau; have hjl := joinI_len t.l u.l; have hdj : dimsIn ((joinI t.l u.l).map f) := map_dims fun x hx => by
    rcases mem_joinI.1 hx with h | h
    · exact dims_mem (axes_dims hat) _ (by rw [ht]; exact List.mem_map_of_mem h)
    · exact dims_mem (axes_dims hau) _ (by rw [hu]; exact List.mem_map_of_mem h)
  have hiff := pairP_iff (ks := ks) h1 h2 ht hu; have hb : ∀ q : Bool, (q = true ↔ pairP k p n t u ks) → Value.bool q = .bool (pairB k p n t u ks) := fun q h => by
    congr 1
    rw [Bool.eq_iff_iff, h, pairB_true]
  refine calls_in Tryz.func65 rfl Tryz.ntmps65 rfl (Sat.start w) ?_; have hle0 := r1.le; have hle1 := r2.le; have hle2 := r3.le; have hle3 := r1'.le; have hle4 := r2'.le; have hle5 := r3'.le; have hle6 := rk.le; refine wp_sc (wp_sq ?_); refine sq_x rfl (x_box rfl rfl) rfl ?_; rintro _ _ ⟨b3, rfl, rfl⟩; refine sq_x rfl (x_box rfl rfl) rfl ?_; rintro _ _ ⟨b4, rfl, rfl⟩; refine sq_v rfl (v_assign rfl) rfl (sq_end (qs_n (wp_sc (wp_sq (sq_v rfl (v_loadNB 1 ty_34 rfl rfl rfl rfl) rfl (sq_v rfl (v_loadNB 0 ty_34 rfl rfl rfl rfl) rfl ?_)))))); refine sq_x rfl (x_call rfl en_155 (fun w s => ct_u_l08Join f _ _ _ _ _ _ _ _ w (r1.mono (s.get 2 rfl)) (r2.mono (s.get 2 rfl)) (r1'.mono (s.get 2 rfl)) (r2'.mono (s.get 2 rfl)) (by first | assumption | omega) (by first | assumption | omega) (by first | assumption | omega) (by first | assumption | omega))) rfl ?_; rintro _ h13 ⟨v1, v2, rfl, q1, q2⟩; refine sq_v rfl (v_move rfl) rfl (sq_v rfl (v_extract rfl rfl) rfl (sq_v rfl (v_extract rfl rfl) rfl (sq_v rfl (v_extract rfl rfl) rfl (sq_v rfl (v_assign rfl) rfl (sq_v rfl (v_assign rfl) rfl (sq_v rfl (v_assign rfl) rfl (sq_end (qs_n (wp_sc (wp_sq (sq_v rfl (v_move rfl) rfl (sq_v rfl (v_move rfl) rfl (sq_v rfl (v_move rfl) rfl ?_))))))))))))); refine sq_u rfl (x_callv rfl en_156 (fun w s => ct_s_l05Product _ _ _ w (q2.mono (s.get 0 rfl)) (by first | assumption | omega) (by first | assumption | omega))) rfl (sq_v rfl (v_leq rfl rfl) rfl (sq_v rfl (v_pickt rfl rfl) rfl ?_)); refine sq_bd 22 rfl (fun c22 => ?_) (fun c22 => ?_)
  · refine sq_v rfl (v_move rfl) rfl (sq_v rfl (v_move rfl) rfl (sq_v rfl (v_move rfl) rfl (sq_v rfl (v_move rfl) rfl ?_))); refine sq_x rfl (x_call rfl en_158 (fun w s => ct_s_l08Keep _ _ _ _ _ _ w (q1.mono (s.get 0 rfl)) (q2.mono (s.get 0 rfl)) (rk.mono (s.get 3 rfl)) (by rw [List.length_map]) (by first | assumption | omega))) rfl ?_; rintro _ h27 ⟨k1, k2, g1, g2, rfl, rk1, rk2, mdk⟩; refine sq_u rfl (x_callv rfl en_157 (fun w s => ct_s_TensorSize _ _ _ _ _ w ((rk1.toR.mono (mdk.le g1 (by simp))).mono (s.get 0 rfl)) ((fits_k2 rk2 (mdk.le g2 (by simp))).mono (s.get 0 rfl)))) rfl (sq_v rfl (v_geq rfl rfl) rfl (sq_v rfl (v_pickt rfl rfl) rfl (sq_v rfl (v_assign rfl) rfl (sq_end (qs_n (wp_rt ?_)))))); exact qs_ret1 rfl rfl (fin_q (i := 4) rfl (hb _ (by rw [hiff, decide_eq_true_eq]; exact ⟨fun h => ⟨by omega, h⟩, fun h => h.2⟩)))
  · refine sq_v rfl (v_move rfl) rfl (sq_s rfl rfl (sq_s rfl rfl (sq_s rfl rfl (sq_s rfl rfl (sq_s rfl rfl (sq_s rfl rfl (sq_v rfl (v_pickf rfl rfl) rfl (sq_v rfl (v_assign rfl) rfl (sq_end (qs_n (wp_rt ?_))))))))))); exact qs_ret1 rfl rfl (fin_q (i := 3) rfl (hb _ (by rw [hiff]; exact ⟨fun h => (by cases h), fun h => absurd h.1 (by omega)⟩)))
theorem ct_u_l08Pair (k p n : Int) (t u : Ten) (ks : List Int) (a b c a' b' c' v : Value) (w : World) (r1 : IntsR t.l a (hp w)) (r2 : IntsR t.d b (hp w)) (r3 : IntsR t.x c (hp w)) (r1' : IntsR u.l a' (hp w)) (r2' : IntsR u.d b' (hp w)) (r3' : IntsR u.x c' (hp w)) (rk : IntsR ks v (hp w)) (hp' : pairP k p n t u ks) :
    Calls Tryz.prog 66 [ringV k p n, tenV a b c, tenV a' b' c', v].toArray w (Ret w emp (TenT (pairR k p n t u ks))) := by
  have ok := pair_ok hp'.1 hp'.2.1 hp'.2.2.1 hp'.2.2.2.1; have := ct_s_l08Pair k p n t u (dimJ t u) (keepL t u ks) ks a b c a' b' c' v w r1 r2 r3 r1' r2' r3' rk ok rfl (keep_ok ok hp'.2.2.2.2) (sizeI_ge.1 hp'.2.2.2.2).1.1; rw [pairR, if_pos hp']; exact this
set_option maxHeartbeats 1000000 in
theorem ct_s_l18Finish (k p n : Int) (ts : List Ten) (op : List Int) (t : Ten) (vt vo a b c : Value) (w : World) (r : TensR ts vt (hp w)) (r' : IntsR op vo (hp w)) (r1 : IntsR t.l a (hp w)) (r2 : IntsR t.d b (hp w)) (r3 : IntsR t.x c (hp w)) (ht : tensorL k p n t.l t.d t.x) (hn : op.Nodup) (hs : ∀ x ∈ op, x ∈ t.l) :
    Calls Tryz.prog 67 [netV k p n vt vo, tenV a b c].toArray w (Ret w emp (TenT (finT k p n t op))) := by
  have hpm := fin_perm ht hn hs; refine calls_in Tryz.func67 rfl Tryz.ntmps67 rfl (Sat.start w) ?_; have hle0 := r.le; obtain ⟨cs_r, rr_r, hc_r⟩ := r.at; have hle1 := r'.le; have hle2 := r1.le; have hle3 := r2.le; have hle4 := r3.le; refine wp_sc (wp_sq ?_); refine sq_x rfl (x_box rfl rfl) rfl ?_; rintro _ _ ⟨b2, rfl, rfl⟩; refine sq_x rfl (x_box rfl rfl) rfl ?_; rintro _ _ ⟨b3, rfl, rfl⟩; refine sq_x rfl (x_alloc ty_34 rfl) rfl ?_; rintro _ _ ⟨b4, rfl, rfl⟩; refine sq_end (qs_n (wp_sc (wp_rj 11 [(0, true), (1, true), (2, true), (3, true), (4, true), (5, true), (6, true), (8, true), (9, true), (7, false), (10, false), (11, false)] mixed_ok (by kernel_rfl) (rj_v rfl rfl (v_fieldAddr fd_40_0 ty_37 (by decide) rfl) rfl (rj_v rfl rfl (v_loadNB 2 ty_37 rfl rfl rfl rfl) rfl (rj_v rfl rfl (v_fieldAddr fd_40_0 ty_37 (by decide) rfl) rfl (rj_v rfl rfl (v_loadNB 2 ty_37 rfl rfl rfl rfl) rfl (rj_v rfl rfl (v_loadNB 1 ty_34 rfl rfl rfl rfl) rfl (rj_v rfl rfl (v_fieldAddr fd_40_2 ty_25 (by decide) rfl) rfl (rj_v rfl rfl (v_loadB 2 ty_25 rfl rfl rfl) rfl (rj_v rfl rfl (v_fieldAddr fd_40_2 ty_25 (by decide) rfl) rfl (rj_v rfl rfl (v_loadB 2 ty_25 rfl rfl rfl) rfl ?_)))))))))))); refine rj_x rfl rfl (x_call rfl en_100 (fun w s => ct_s_l08Sum _ _ _ _ _ _ _ _ _ w (r1.mono (s.get 3 rfl)) (r2.mono (s.get 3 rfl)) (r3.mono (s.get 3 rfl)) (r'.mono (s.get 3 rfl)) (by first | assumption | omega))) rfl ?_; rintro _ h12 ⟨va12, vb12, vc12, rfl, o12⟩; refine rj_x rfl rfl (x_call rfl en_165 (fun w s => ct_s_l06Permute _ _ _ _ _ _ _ _ _ w (o12.toR.1.mono (s.get 0 rfl)) (o12.toR.2.1.mono (s.get 0 rfl)) (o12.toR.2.2.mono (s.get 0 rfl)) (r'.mono (s.get 4 rfl)) (by first | assumption | omega))) rfl ?_; rintro _ h15 ⟨va15, vb15, vc15, rfl, o15⟩; refine rj_m 2 rfl rfl rfl rfl (m_store 2 ty_34 rfl rfl rfl rfl (by simp [o15.toR.1.sl.one, o15.toR.2.1.sl.one, o15.toR.2.2.sl.one]) rfl (Nat.le_of_ble_eq_true rfl)) rfl ?_; rintro _ _ ⟨rfl, rfl⟩; refine rj_end (qs_n (wp_rt ?_)); exact qs_retc 2 rfl ty_34 rfl rfl rfl (fin_t 0 (i := 5) rfl rfl rfl (⟨_, _, _, rfl, o15⟩))
set_option maxHeartbeats 1000000 in
theorem ct_i_allIn (xs ys : List Int) (v u : Value) (w : World) (r : IntsR xs v (hp w)) (r' : IntsR ys u (hp w)) : Calls Tryz.prog 181 [v, u].toArray w (RetV w (.bool (decide (∀ x ∈ xs, x ∈ ys)))) := by
  refine calls_in Tryz.func181 rfl Tryz.ntmps181 rfl (Sat.start w) ?_; have hle0 := r.le; have hle1 := r'.le; refine wp_sc (wp_sq (sq_v rfl (v_assign rfl) rfl (sq_end (qs_n (wp_sc (wp_sc (wp_sq (sq_v rfl (v_move rfl) rfl (sq_v rfl (v_len Tryz.underlying25 rfl r.sl) rfl (sq_v rfl (v_move rfl) rfl (sq_end (qs_n (wp_bl ?_))))))))))))); refine wp_lp (σ := Nat) (fun z_ => [(1, u), (4, .bool false), (7, v), (8, num xs.length), (9, num z_)]) (fun z_ => [hp w]) (fun z_ => z_ ≤ xs.length ∧ (∀ j, j < z_ → xs.getD j 0 ∈ ys)) (fun z_ => xs.length - z_) 0 (⟨by omega, fun j hj => by omega⟩) ⟨rfl, rfl, rfl, rfl, (by first | rfl | exact ksub rfl (by first | omega | (simp; done) | (simp; omega))), trivial⟩ (fun _ s => s) ?_; rintro i ⟨hi, ha⟩; refine wp_sc (wp_sq (sq_v rfl (v_lss rfl rfl) rfl (sq_end (qs_n (wp_sc ?_))))); refine wp_cd rfl (fun c10 => ?_) (fun c10 => ?_)
  · refine wp_sk (qs_n (wp_sc (wp_bl (wp_sc (wp_sq ?_))))); refine sq_v rfl (v_idxI Tryz.underlying25 ty_3 rfl rfl r (by first | omega | (simp; omega) | (simp only [List.length_append, List.length_cons, List.length_nil]; omega) | (rw [List.length_set]; omega)) (by first | omega | (simp; omega) | (simp only [List.length_append, List.length_cons, List.length_nil]; omega) | (rw [List.length_set]; omega))) rfl ?_; refine sq_v rfl (v_loadI (k := i) 0 ty_3 rfl rfl r (by first | omega | (simp; omega) | (simp only [List.length_append, List.length_cons, List.length_nil]; omega) | (rw [List.length_set]; omega))) rfl ?_; refine sq_v rfl (v_assign rfl) rfl (sq_end (qs_n (wp_sc (wp_sq (sq_v rfl (v_move rfl) rfl (sq_v rfl (v_move rfl) rfl (sq_u rfl (x_callv rfl en_146 (fun w s => ct_i_hasInt _ _ _ w (r'.mono (s.get 0 rfl)))) rfl (sq_v rfl (v_not rfl) rfl (sq_end (qs_n ?_)))))))))); refine wp_cnd rfl (fun c16 => ?_) (fun c16 => ?_)
    · refine wp_sc (wp_sq (sq_v rfl (v_assign rfl) rfl (sq_end (qs_n (wp_rt (qs_br (qs_r (qs_r (qs_br (qs_r ?_)))))))))); exact qs_ret1 rfl rfl (fin_q (i := 0) rfl (by rw [decide_eq_false]; exact fun h => absurd (h _ (mem_getD (k := i) (by omega))) (by simpa using c16)))
    · refine wp_sk (qs_bn (qs_n (wp_sq ?_))); refine sq_v rfl (v_add rfl rfl ((by unfold I64; omega))) rfl ?_; refine sq_v rfl (v_move rfl) rfl (sq_end ?_); exact qs_bk (i + 1) ⟨by omega, step_all ha (by simpa using c16)⟩ (by omega) ⟨rfl, rfl, rfl, rfl, (by first | rfl | exact ksub rfl (by first | omega | (simp; done) | (simp; omega))), trivial⟩ (fun _ s => s)
  · refine wp_ex (qs_x (qs_x (qs_bx (qs_n (wp_sc (wp_sq (sq_v rfl (v_assign rfl) rfl (sq_end (qs_n (wp_rt ?_)))))))))); exact qs_ret1 rfl rfl (fin_q (i := 0) rfl (by rw [decide_eq_true]; exact all_of fun j hj => ha j (by omega)))
theorem PermNo {k n : Int} {t : Ten} {ls : List Int} {q : Bool} (h : q = false) : TenB (ifB q (permT k n t ls) noTen) q (.tuple [tenV (.slice none 0 0) (.slice none 0 0) (.slice none 0 0), .bool false].toArray) emp :=
  ⟨.slice none 0 0, .slice none 0 0, .slice none 0 0, by rw [h], by rw [h]; exact triO_none⟩
def perP (k p n : Int) (t : Ten) (ls : List Int) : Prop := tensorL k p n t.l t.d t.x ∧ setL t.l ls
open Classical in
noncomputable def perB (k p n : Int) (t : Ten) (ls : List Int) : Bool := decide (perP k p n t ls)
theorem perB_true {k p n : Int} {t : Ten} {ls : List Int} : perB k p n t ls = true ↔ perP k p n t ls := by simp [perB]
theorem perB_no {k p n : Int} {t : Ten} {ls : List Int} (h : ¬ perP k p n t ls) : perB k p n t ls = false := by simp [perB, h]
theorem ct_i_PermuteTensor (k p n : Int) (t : Ten) (ls : List Int) (a b c v : Value) (w : World) (r1 : IntsR t.l a (hp w)) (r2 : IntsR t.d b (hp w)) (r3 : IntsR t.x c (hp w)) (rl : IntsR ls v (hp w)) :
    Calls Tryz.prog 182 [ringV k p n, tenV a b c, v].toArray w (Ret w emp (TenB (ifB (perB k p n t ls) (permT k n t ls) noTen) (perB k p n t ls))) := by
  refine calls_in Tryz.func182 rfl Tryz.ntmps182 rfl (Sat.start w) ?_; have hle0 := r1.le; have hle1 := r2.le; have hle2 := r3.le; have hle3 := rl.le; refine wp_sc (wp_sq ?_); refine sq_x rfl (x_box rfl rfl) rfl ?_; rintro _ _ ⟨b3, rfl, rfl⟩; refine sq_x rfl (x_box rfl rfl) rfl ?_; rintro _ _ ⟨b4, rfl, rfl⟩; refine sq_x rfl (x_alloc ty_34 rfl) rfl ?_; rintro _ _ ⟨b6, rfl, rfl⟩; refine sq_v rfl (v_assign rfl) rfl (sq_end (qs_n (wp_sc (wp_sc (wp_sq (sq_v rfl (v_loadNB 2 ty_37 rfl rfl rfl rfl) rfl (sq_v rfl (v_loadNB 1 ty_34 rfl rfl rfl rfl) rfl (sq_u rfl (x_callv rfl en_127 (fun w s => ct_i_TensorOk _ _ _ _ _ _ _ _ _ w (r1.mono (s.get 3 rfl)) (r2.mono (s.get 3 rfl)) (r3.mono (s.get 3 rfl)))) rfl ?_)))))))); refine sq_bb 10 rfl (fun c10 => ?_) (fun c10 => ?_)
  · refine sq_v rfl (v_not rfl) rfl (sq_v rfl (v_move rfl) rfl (sq_v rfl (v_fieldAddr fd_34_0 ty_25 (by decide) rfl) rfl (sq_v rfl (v_loadB 1 ty_25 rfl rfl rfl) rfl (sq_v rfl (v_move rfl) rfl (sq_u rfl (x_callv rfl en_233 (fun w s => ct_i_sameLabels _ _ _ _ w (r1.mono (s.get 3 rfl)) (rl.mono (s.get 3 rfl)))) rfl (sq_v rfl (v_not rfl) rfl (sq_v rfl (v_pickf rfl rfl) rfl (sq_end (qs_n ?_))))))))); refine wp_cn _ rfl (fun c18 => ?_) (fun c18 => ?_)
    · refine wp_sc (wp_sq (sq_v rfl (v_build [.slice none 0 0, .slice none 0 0, .slice none 0 0] rfl (by kernel_rfl)) rfl ?_)); refine sq_m 0 rfl rfl (m_store 0 ty_34 rfl rfl rfl rfl (by simp [one_sl]) rfl (Nat.le_of_ble_eq_true rfl)) rfl ?_; rintro _ _ ⟨rfl, rfl⟩; refine sq_v rfl (v_assign rfl) rfl (sq_end (qs_n (wp_rt (qs_r ?_)))); exact qs_retct 0 rfl ty_34 rfl rfl rfl rfl (fin_e (i := 3) rfl (PermNo (perB_no (fun h => by first | exact tensorB_false.1 c10 h.1 | exact setB_false.1 c18 h.2))))
    · refine wp_sk (qs_n (wp_sc (wp_sq (sq_v rfl (v_loadNB 2 ty_37 rfl rfl rfl rfl) rfl (sq_v rfl (v_loadNB 1 ty_34 rfl rfl rfl rfl) rfl (sq_v rfl (v_move rfl) rfl ?_)))))); have h1 := tensorB_true.1 c10; have h2 := setB_true.1 c18; have hok : PermOK k p n t ls := ⟨h1.1, h1, setL_perm h2⟩
      refine sq_x rfl (x_call rfl en_234 (fun w s => ct_i_rawPermute _ _ _ _ _ _ _ _ _ w (r1.mono (s.get 3 rfl)) (r2.mono (s.get 3 rfl)) (r3.mono (s.get 3 rfl)) (rl.mono (s.get 3 rfl)) (by first | assumption | omega))) rfl ?_; rintro _ h23 ⟨va23, vb23, vc23, rfl, o23⟩; refine sq_m 1 rfl rfl (m_store 1 ty_34 rfl rfl rfl rfl (by simp [o23.toR.1.sl.one, o23.toR.2.1.sl.one, o23.toR.2.2.sl.one]) rfl (Nat.le_of_ble_eq_true rfl)) rfl ?_; rintro _ _ ⟨rfl, rfl⟩; refine sq_v rfl (v_assign rfl) rfl (sq_end (qs_n (wp_rt ?_))); exact qs_retct 1 rfl ty_34 rfl rfl rfl rfl (fin_t 0 (i := 4) rfl rfl rfl (by rw [perB_true.2 ⟨h1, h2⟩]; exact ⟨_, _, _, rfl, o23⟩))
  · refine sq_v rfl (v_not rfl) rfl (sq_v rfl (v_move rfl) rfl (sq_s rfl rfl (sq_s rfl rfl (sq_s rfl rfl (sq_s rfl rfl (sq_s rfl rfl (sq_v rfl (v_pickt rfl rfl) rfl (sq_end (qs_n (wp_ct rfl (wp_sc (wp_sq (sq_v rfl (v_build [.slice none 0 0, .slice none 0 0, .slice none 0 0] rfl (by kernel_rfl)) rfl ?_))))))))))))); refine sq_m 0 rfl rfl (m_store 0 ty_34 rfl rfl rfl rfl (by simp [one_sl]) rfl (Nat.le_of_ble_eq_true rfl)) rfl ?_; rintro _ _ ⟨rfl, rfl⟩; refine sq_v rfl (v_assign rfl) rfl (sq_end (qs_n (wp_rt (qs_r ?_)))); exact qs_retct 0 rfl ty_34 rfl rfl rfl rfl (fin_e (i := 3) rfl (PermNo (perB_no (fun h => by first | exact tensorB_false.1 c10 h.1 | exact setB_false.1 c18 h.2))))
set_option maxHeartbeats 1000000 in
theorem ct_i_FinishTensor (k p n : Int) (ts : List Ten) (op : List Int) (t : Ten) (vt vo a b c : Value) (w : World) (r : TensR ts vt (hp w)) (r' : IntsR op vo (hp w)) (r1 : IntsR t.l a (hp w)) (r2 : IntsR t.d b (hp w)) (r3 : IntsR t.x c (hp w)) (hs : op.length ≤ 1048576) :
    Calls Tryz.prog 74 [netV k p n vt vo, tenV a b c].toArray w (Ret w emp (TenB (finR k p n ts op t) (finB k p n ts op t))) := by
  refine calls_in Tryz.func74 rfl Tryz.ntmps74 rfl (Sat.start w) ?_; have hle0 := r.le; obtain ⟨cs_r, rr_r, hc_r⟩ := r.at; have hle1 := r'.le; have hle2 := r1.le; have hle3 := r2.le; have hle4 := r3.le; refine wp_sc (wp_sq ?_); refine sq_x rfl (x_box rfl rfl) rfl ?_; rintro _ _ ⟨b2, rfl, rfl⟩; refine sq_x rfl (x_box rfl rfl) rfl ?_; rintro _ _ ⟨b3, rfl, rfl⟩; refine sq_x rfl (x_alloc ty_34 rfl) rfl ?_; rintro _ _ ⟨b4, rfl, rfl⟩; refine sq_v rfl (v_assign rfl) rfl (sq_end (qs_n (wp_sc (wp_sc (wp_sq (sq_v rfl (v_loadNB 2 ty_40 rfl rfl rfl rfl) rfl (sq_u rfl (x_callv rfl en_42 (fun w s => ct_i_NetworkOk _ _ _ _ _ _ _ w (r.mono (s.get 3 rfl)) (r'.mono (s.get 3 rfl)) (by first | assumption | omega))) rfl ?_))))))); refine sq_bb 7 rfl (fun c7 => ?_) (fun c7 => ?_)
  · refine sq_v rfl (v_not rfl) rfl (sq_v rfl (v_move rfl) rfl (sq_v rfl (v_fieldAddr fd_40_0 ty_37 (by decide) rfl) rfl (sq_v rfl (v_loadNB 2 ty_37 rfl rfl rfl rfl) rfl (sq_v rfl (v_loadNB 1 ty_34 rfl rfl rfl rfl) rfl (sq_u rfl (x_callv rfl en_127 (fun w s => ct_i_TensorOk _ _ _ _ _ _ _ _ _ w (r1.mono (s.get 3 rfl)) (r2.mono (s.get 3 rfl)) (r3.mono (s.get 3 rfl)))) rfl (sq_v rfl (v_not rfl) rfl (sq_v rfl (v_pickf rfl rfl) rfl ?_))))))); refine sq_bn 15 rfl (fun c15 => ?_) (fun c15 => ?_)
    · refine sq_v rfl (v_move rfl) rfl (sq_s rfl rfl (sq_s rfl rfl (sq_s rfl rfl (sq_s rfl rfl (sq_s rfl rfl (sq_s rfl rfl (sq_v rfl (v_pickt rfl rfl) rfl (sq_end (qs_n (wp_ct rfl (wp_sc (wp_sq (sq_v rfl (v_build [.slice none 0 0, .slice none 0 0, .slice none 0 0] rfl (by kernel_rfl)) rfl ?_))))))))))))); refine sq_m 0 rfl rfl (m_store 0 ty_34 rfl rfl rfl rfl (by simp [one_sl]) rfl (Nat.le_of_ble_eq_true rfl)) rfl ?_; rintro _ _ ⟨rfl, rfl⟩; refine sq_v rfl (v_assign rfl) rfl (sq_end (qs_n (wp_rt (qs_r ?_)))); exact qs_retct 0 rfl ty_34 rfl rfl rfl rfl (fin_e (i := 3) rfl (FinNo (fun h => by first | exact netB_false.1 c7 h.1 | exact tensorB_false.1 c15 h.2.1 | exact absurd h.2.2 (by simpa using c23))))
    · refine sq_v rfl (v_move rfl) rfl (sq_v rfl (v_fieldAddr fd_40_2 ty_25 (by decide) rfl) rfl (sq_v rfl (v_loadB 2 ty_25 rfl rfl rfl) rfl (sq_v rfl (v_fieldAddr fd_34_0 ty_25 (by decide) rfl) rfl (sq_v rfl (v_loadB 1 ty_25 rfl rfl rfl) rfl (sq_u rfl (x_callv rfl en_181 (fun w s => ct_i_allIn _ _ _ _ w (r'.mono (s.get 3 rfl)) (r1.mono (s.get 3 rfl)))) rfl (sq_v rfl (v_not rfl) rfl (sq_v rfl (v_pickf rfl rfl) rfl (sq_end (qs_n ?_))))))))); refine wp_cnd rfl (fun c23 => ?_) (fun c23 => ?_)
      · refine wp_sc (wp_sq (sq_v rfl (v_build [.slice none 0 0, .slice none 0 0, .slice none 0 0] rfl (by kernel_rfl)) rfl ?_)); refine sq_m 0 rfl rfl (m_store 0 ty_34 rfl rfl rfl rfl (by simp [one_sl]) rfl (Nat.le_of_ble_eq_true rfl)) rfl ?_; rintro _ _ ⟨rfl, rfl⟩; refine sq_v rfl (v_assign rfl) rfl (sq_end (qs_n (wp_rt (qs_r ?_)))); exact qs_retct 0 rfl ty_34 rfl rfl rfl rfl (fin_e (i := 3) rfl (FinNo (fun h => by first | exact netB_false.1 c7 h.1 | exact tensorB_false.1 c15 h.2.1 | exact absurd h.2.2 (by simpa using c23))))
      · refine wp_sk (qs_n (wp_sc (wp_rj 13 [(0, true), (1, true), (2, true), (3, true), (4, true), (5, true), (6, true), (8, true), (9, true), (7, false), (10, false), (11, true), (12, true), (13, false), (14, false)] mixed_ok (by kernel_rfl) ?_))); have hnet := netB_true.1 c7; have hten := tensorB_true.1 c15; have hall : ∀ x ∈ op, x ∈ t.l := (by simpa using c23); have hfp : finP k p n ts op t := ⟨hnet, hten, hall⟩; have hpm := hfp.perm; have hB := perB_true.2 (show perP k p n (sumR k p n t op) op from ⟨hpm.ten, setL_of_perm hpm.perm.symm (net_open hnet).1⟩); refine rj_v rfl rfl (v_fieldAddr fd_40_0 ty_37 (by decide) rfl) rfl (rj_v rfl rfl (v_loadNB 2 ty_37 rfl rfl rfl rfl) rfl (rj_v rfl rfl (v_fieldAddr fd_40_0 ty_37 (by decide) rfl) rfl (rj_v rfl rfl (v_loadNB 2 ty_37 rfl rfl rfl rfl) rfl (rj_v rfl rfl (v_loadNB 1 ty_34 rfl rfl rfl rfl) rfl (rj_v rfl rfl (v_fieldAddr fd_40_2 ty_25 (by decide) rfl) rfl (rj_v rfl rfl (v_loadB 2 ty_25 rfl rfl rfl) rfl (rj_v rfl rfl (v_fieldAddr fd_40_2 ty_25 (by decide) rfl) rfl (rj_v rfl rfl (v_loadB 2 ty_25 rfl rfl rfl) rfl ?_)))))))); refine rj_x rfl rfl (x_call rfl en_60 (fun w s => ct_i_SumLabels _ _ _ _ _ _ _ _ _ w (r1.mono (s.get 3 rfl)) (r2.mono (s.get 3 rfl)) (r3.mono (s.get 3 rfl)) (r'.mono (s.get 3 rfl)))) rfl ?_; rintro _ h32 ⟨va32, vb32, vc32, rfl, o32⟩; refine rj_x rfl rfl (x_call rfl en_182 (fun w s => ct_i_PermuteTensor _ _ _ _ _ _ _ _ _ w (o32.toR.1.mono (s.get 0 rfl)) (o32.toR.2.1.mono (s.get 0 rfl)) (o32.toR.2.2.mono (s.get 0 rfl)) (r'.mono (s.get 4 rfl)))) rfl ?_; rintro _ h35 ⟨va35, vb35, vc35, rfl, o35⟩; refine rj_v rfl rfl (v_extract rfl rfl) rfl (rj_v rfl rfl (v_extract rfl rfl) rfl ?_); refine rj_m 2 rfl rfl rfl rfl (m_store 2 ty_34 rfl rfl rfl rfl (by simp [o35.toR.1.sl.one, o35.toR.2.1.sl.one, o35.toR.2.2.sl.one]) rfl (Nat.le_of_ble_eq_true rfl)) rfl ?_; rintro _ _ ⟨rfl, rfl⟩; refine rj_fv rfl rfl (v_assign rfl) rfl (rj_end ?_); rw [hB] at o35; refine qs_n (wp_rt ?_); exact qs_retct 2 rfl ty_34 rfl rfl rfl rfl (fin_t 0 (i := 5) rfl rfl rfl (by rw [hB]; exact FinYes hfp o35))
  · refine sq_v rfl (v_not rfl) rfl (sq_v rfl (v_move rfl) rfl (sq_s rfl rfl (sq_s rfl rfl (sq_s rfl rfl (sq_s rfl rfl (sq_s rfl rfl (sq_v rfl (v_pickt rfl rfl) rfl (sq_v rfl (v_move rfl) rfl (sq_s rfl rfl ?_))))))))); refine sq_s rfl rfl (sq_s rfl rfl (sq_s rfl rfl (sq_s rfl rfl (sq_s rfl rfl (sq_v rfl (v_pickt rfl rfl) rfl (sq_end (qs_n (wp_ct rfl (wp_sc (wp_sq (sq_v rfl (v_build [.slice none 0 0, .slice none 0 0, .slice none 0 0] rfl (by kernel_rfl)) rfl ?_))))))))))); refine sq_m 0 rfl rfl (m_store 0 ty_34 rfl rfl rfl rfl (by simp [one_sl]) rfl (Nat.le_of_ble_eq_true rfl)) rfl ?_; rintro _ _ ⟨rfl, rfl⟩; refine sq_v rfl (v_assign rfl) rfl (sq_end (qs_n (wp_rt (qs_r ?_)))); exact qs_retct 0 rfl ty_34 rfl rfl rfl rfl (fin_e (i := 3) rfl (FinNo (fun h => by first | exact netB_false.1 c7 h.1 | exact tensorB_false.1 c15 h.2.1 | exact absurd h.2.2 (by simpa using c23))))
end Go.Proofs.YthlmjnihihbckaaGreat
namespace Go.Proofs.YthlmjnihihbckaaGreat
set_option maxRecDepth 100000
open Go.RowKit
theorem OwnH.at {ts : List Ten} {cs : List Value} {h : PH} (o : OwnH (flat ts) cs h) (i : Nat) (hi : i < ts.length) : ∃ t a b c, ts[i]? = some t ∧ (cs.drop (i * 3)).take 3 = [a, b, c] ∧ IntsR t.l a h ∧ IntsR t.d b h ∧ IntsR t.x c h := by
  obtain ⟨l, ol, m⟩ := o; have ht : ts[i]? = some ts[i] := List.getElem?_eq_getElem hi; obtain ⟨f1, f2, f3⟩ := tens_get ht; obtain ⟨a, h1, e1, g1, r1⟩ := ol.own _ _ f1; obtain ⟨b, h2, e2, g2, r2⟩ := ol.own _ _ f2; obtain ⟨c, h3, e3, g3, r3⟩ := ol.own _ _ f3; exact ⟨_, a, b, c, ht, three_at e1 e2 e3, r1.toR.mono (m.le _ (List.mem_of_getElem? g1)), r2.toR.mono (m.le _ (List.mem_of_getElem? g2)), r3.toR.mono (m.le _ (List.mem_of_getElem? g3))⟩
theorem stp_take {ss : List Stp} {i m : Nat} {x : Stp} (h : (ss.take m)[i]? = some x) : ss[i]? = some x ∧ i < m ∧ i < ss.length := by
  have h1 := (List.getElem?_eq_some_iff.1 h).1; simp only [List.length_take] at h1; rw [List.getElem?_take, if_pos (by omega)] at h; exact ⟨h, by omega, by omega⟩
set_option maxHeartbeats 4000000 in
theorem ct_i_PartialNetwork (k p n m : Int) (ts : List Ten) (op : List Int) (ss : List Stp) (vt vo v : Value) (w : World) (r : TensR ts vt (hp w)) (r' : IntsR op vo (hp w)) (rv : StepsR ss v (hp w)) (hs : op.length ≤ 1048576) :
    Calls Tryz.prog 208 [netV k p n vt vo, v, num m].toArray w (Ret w emp (PartR k p n ts op ss m)) := by
  refine calls_in Tryz.func208 rfl Tryz.ntmps208 rfl (Sat.start w) ?_; have hle0 := r.le; obtain ⟨cs_r, rr_r, hc_r⟩ := r.at; have hle1 := r'.le; have hle2 := rv.le; obtain ⟨cs_rv, rr_rv, hc_rv⟩ := rv.at; refine wp_sc (wp_sq ?_); refine sq_x rfl (x_box rfl rfl) rfl ?_; rintro _ _ ⟨b3, rfl, rfl⟩; refine sq_x rfl (x_alloc ty_40 rfl) rfl ?_; rintro _ _ ⟨b6, rfl, rfl⟩; refine sq_v rfl (v_assign rfl) rfl (sq_end (qs_n (wp_sc (wp_sc (wp_sq (sq_v rfl (v_loadNB 1 ty_40 rfl rfl rfl rfl) rfl (sq_v rfl (v_move rfl) rfl (sq_u rfl (x_callv rfl en_240 (fun w s => ct_i_OrderOk _ _ _ _ _ _ _ _ _ w (r.mono (s.get 2 rfl)) (r'.mono (s.get 2 rfl)) (rv.mono (s.get 2 rfl)) (by first | assumption | omega))) rfl ?_)))))))); refine sq_bb 21 rfl (fun c21 => ?_) (fun c21 => ?_)
  · refine sq_v rfl (v_not rfl) rfl (sq_v rfl (v_move rfl) rfl (sq_v rfl (v_move rfl) rfl (sq_v rfl (v_lss rfl rfl) rfl (sq_v rfl (v_pickf rfl rfl) rfl ?_)))); refine sq_bd 26 rfl (fun c26 => ?_) (fun c26 => ?_)
    · refine sq_v rfl (v_move rfl) rfl (sq_s rfl rfl (sq_s rfl rfl (sq_s rfl rfl (sq_s rfl rfl (sq_v rfl (v_pickt rfl rfl) rfl (sq_end (qs_n (wp_ct rfl (wp_sc (wp_sq (sq_v rfl (v_build [num 0, num 0, num 0, .slice none 0 0, .slice none 0 0] rfl (by kernel_rfl)) rfl ?_))))))))))); refine sq_m 0 rfl rfl (m_store 0 ty_40 rfl rfl rfl rfl (by simp [one_int, one_sl]) rfl (Nat.le_of_ble_eq_true rfl)) rfl ?_; rintro _ _ ⟨rfl, rfl⟩; refine sq_v rfl (v_assign rfl) rfl (sq_end (qs_n (wp_rt (qs_r ?_)))); exact qs_retct 0 rfl ty_40 rfl rfl rfl rfl (fin_e (i := 2) rfl (PartNo (fun h => by first | exact orderB_false.1 c21 h.1 | (have := h.2.1; omega))))
    · refine sq_v rfl (v_move rfl) rfl (sq_v rfl (v_move rfl) rfl (sq_v rfl (v_move rfl) rfl (sq_v rfl (v_len Tryz.underlying126 rfl rv.sl) rfl (sq_v rfl (v_gtr rfl rfl) rfl (sq_v rfl (v_pickf rfl rfl) rfl (sq_end (qs_n ?_))))))); refine wp_cd rfl (fun c32 => ?_) (fun c32 => ?_)
      · refine wp_sc (wp_sq (sq_v rfl (v_build [num 0, num 0, num 0, .slice none 0 0, .slice none 0 0] rfl (by kernel_rfl)) rfl ?_)); refine sq_m 0 rfl rfl (m_store 0 ty_40 rfl rfl rfl rfl (by simp [one_int, one_sl]) rfl (Nat.le_of_ble_eq_true rfl)) rfl ?_; rintro _ _ ⟨rfl, rfl⟩; refine sq_v rfl (v_assign rfl) rfl (sq_end (qs_n (wp_rt (qs_r ?_)))); exact qs_retct 0 rfl ty_40 rfl rfl rfl rfl (fin_e (i := 2) rfl (PartNo (fun h => by first | exact orderB_false.1 c21 h.1 | (have := h.2.1; omega))))
      · refine wp_sk (qs_n (wp_sc (wp_sq (sq_v rfl (v_loadNB 1 ty_40 rfl rfl rfl rfl) rfl ?_)))); have hord := orderB_true.1 c21; have hnet := hord.1; have hax := net_axes hnet; have h12 := hnet.2.1; refine sq_x rfl (x_call rfl en_241 (fun w s => ct_i_startState _ _ _ _ _ _ _ w (r.mono (s.get 2 rfl)) (r'.mono (s.get 2 rfl)) hax h12)) rfl ?_; rintro _ h35 ⟨bb, arr, rfl, rst, _⟩; refine sq_v rfl (v_assign rfl) rfl (sq_end (qs_n (wp_sc (wp_sq (sq_v rfl (v_loadNB 2 ty_40 rfl rfl rfl rfl) rfl ?_))))); refine sq_x rfl (x_call rfl en_89 (fun w s => ct_i_copyNetwork _ _ _ _ _ _ _ w (r.mono (s.get 3 rfl)) (r'.mono (s.get 3 rfl)) (by first | assumption | omega) (by first | assumption | omega))) rfl ?_; rintro _ h37 ⟨vt37, vo37, rfl, o37⟩; obtain ⟨cs_T_37, rr_T_37, hc_T_37⟩ := o37.toR.1.at; refine sq_x rfl (x_alloc ty_40 rfl) rfl ?_; rintro _ _ ⟨b9, rfl, rfl⟩; refine sq_m 0 rfl rfl (m_store 0 ty_40 rfl rfl rfl rfl (by simp [one_int, o37.toR.1.sl.one, o37.toR.2.sl.one]) rfl (Nat.le_of_ble_eq_true rfl)) rfl ?_; rintro _ _ ⟨rfl, rfl⟩; refine sq_end ?_; obtain ⟨cs0, g0, go, gl, rr0, ro, oh, md37⟩ := o37.split; have hst0 := few_steps hax hord.2.2; refine qs_s [box b9 [num k, num p, num n, vt37, vo37] 40, h35, box b6 [num 0, num 0, num 0, .slice none 0 0, .slice none 0 0] 40, box b3 [num k, num p, num n, vt, vo] 40, hp w, g0, go, gl] (fun _ s => Sat.open (A := [box b9 [num k, num p, num n, vt37, vo37] 40, h35, box b6 [num 0, num 0, num 0, .slice none 0 0, .slice none 0 0] 40, box b3 [num k, num p, num n, vt, vo] 40, hp w]) md37 (s.pick [1, 0, 2, 3, 4, 5] (by decide) rfl)) (qs_n (wp_sc (wp_sc (wp_sq (sq_v rfl (v_move rfl) rfl (sq_v rfl (v_move rfl) rfl (sq_v rfl (v_sliceH Tryz.underlying126 ty_191 rfl rfl  rv (by omega) (by omega)) rfl ?_))))))); obtain ⟨cs_S_40, rr_S_40, hc_S_40⟩ := (rv.subH (hi := (m : Int).toNat) (by omega)).at; refine sq_v rfl (v_len Tryz.underlying126 rfl (rv.subH (hi := (m : Int).toNat) (by omega)).sl) rfl (sq_v rfl (v_move rfl) rfl (sq_end (qs_n (wp_bl ?_)))); refine wp_lp (σ := Nat × Value × PH × (List Value) × PH × PH) (fun z_ => [(3, .pointer (some ⟨b3, 0, none⟩)), (6, .pointer (some ⟨b6, 0, none⟩)), (7, .bool false), (8, ptrV bb), (9, .pointer (some ⟨b9, 0, none⟩)), (40, subV v 0 ((m : Int).toNat) 2), (41, num (ss.take ((m : Int).toNat)).length), (42, num z_.1)]) (fun z_ => [box b9 [num k, num p, num n, z_.2.1, vo37] 40, z_.2.2.2.2.2, box b6 [num 0, num 0, num 0, .slice none 0 0, .slice none 0 0] 40, box b3 [num k, num p, num n, vt, vo] 40, hp w, z_.2.2.1, go, z_.2.2.2.2.1]) (fun z_ => z_.1 ≤ (ss.take (m : Int).toNat).length ∧ (∀ j, j < z_.1 → runFit k p n ts op ss j) ∧ StO arr vo (runS ts op ss z_.1) bb z_.2.2.2.2.2 ∧ OwnH (flat (outTo k p n ts op ss z_.1)) z_.2.2.2.1 z_.2.2.2.2.1 ∧ RowO (34) z_.2.2.2.1 (outTo k p n ts op ss z_.1).length 3 z_.2.1 z_.2.2.1) (fun z_ => (ss.take (m : Int).toNat).length - z_.1) (0, vt37, g0, cs0, gl, h35) (⟨by (try dsimp only); omega, fun j hj => by omega, rst, by (try dsimp only); rw [out_zero]; exact oh, by (try dsimp only); rw [out_zero]; exact rr0⟩) ⟨rfl, rfl, rfl, rfl, rfl, rfl, rfl, (by first | rfl | exact ksub rfl (by first | omega | (simp; done) | (simp; omega))), trivial⟩ (fun _ s => s) ?_; rintro ⟨i, lx, ha, cs, hl, g⟩ ⟨hi, hfit, rst, hlv, rr⟩; dsimp only at hi hfit rst hlv rr ⊢; have hil : i ≤ ss.length ∧ i ≤ (m : Int).toNat := by rw [List.length_take] at hi; omega
        have hRO := run_ok hord i hil.1 hfit; have hfs := run_fine (ss := ss) hnet i; have hall := run_all (ts := ts) (op := op) (ss := ss) hil.1; have hol := out_len (k := k) (p := p) (n := n) (ts := ts) (op := op) (ss := ss) i; obtain ⟨lv0, rst'⟩ := rst.toR; refine wp_sc (wp_sq (sq_v rfl (v_lss rfl rfl) rfl (sq_end (qs_n (wp_sc ?_))))); refine wp_cd rfl (fun c43 => ?_) (fun c43 => ?_)
        · refine wp_sk (qs_n (wp_sc (wp_bl (wp_sc (wp_sq ?_))))); obtain ⟨x44, hx44, hcs44⟩ := hc_S_40 (i) (by first | omega | (rw [List.length_set]; omega)); refine sq_v rfl (v_indexAddr Tryz.underlying126 ty_191 rfl rfl rr_S_40 (by decide) (by omega) (by first | omega | (rw [List.length_set]; omega))) rfl ?_; refine sq_v rfl (v_loadNE 4 ty_191 rfl rfl rr_S_40 (by have := rr_S_40.1; omega) rfl hcs44) rfl ?_; refine sq_x rfl (x_alloc ty_191 rfl) rfl ?_; rintro _ _ ⟨b11, rfl, rfl⟩; refine sq_m 0 rfl rfl (m_store 0 ty_191 rfl rfl rfl rfl (by simp [Value.oneCell']) rfl (Nat.le_of_ble_eq_true rfl)) rfl ?_; rintro _ _ ⟨rfl, rfl⟩; refine sq_end ?_; obtain ⟨hx, him, hiss⟩ := stp_take hx44; obtain ⟨hst, hs1, _⟩ := run_step hord hiss; have htwo := hRO.two hord hiss; rw [stpAt_of hx] at hst hs1; have p0 := place_ge.2 hst.1; have q0 := place_ge.2 hst.2.1; obtain ⟨hpa, hpl⟩ := place_at hst.1; obtain ⟨hqb, hql⟩ := place_at hst.2.1; have hosn := out_step hord hiss hRO (by rw [stpAt_of hx]; exact hpa) (by rw [stpAt_of hx]; exact hqb); have hfa := hfs.few x44.a.toNat; have hfb := hfs.few x44.b.toNat; refine qs_n (wp_sc (wp_rj 10 [(0, true), (1, true), (2, true), (4, true), (5, true), (6, true), (3, false), (7, false), (8, true), (9, true)] mixed_ok (by kernel_rfl) (rj_v rfl rfl (v_move rfl) rfl (rj_v rfl rfl (v_fieldAddr fd_191_0 ty_3 (by decide) rfl) rfl (rj_v rfl rfl (v_loadB 0 ty_3 rfl rfl rfl) rfl (rj_v rfl rfl (v_move rfl) rfl (rj_v rfl rfl (v_fieldAddr fd_191_1 ty_3 (by decide) rfl) rfl (rj_v rfl rfl (v_loadB 0 ty_3 rfl rfl rfl) rfl (rj_u rfl rfl (x_callv rfl en_242 (fun w s => ct_i_place _ _ _ (runS ts op ss i) _ _ w (rst'.mono (s.get 2 rfl)))) rfl (rj_u rfl rfl (x_callv rfl en_242 (fun w s => ct_i_place _ _ _ (runS ts op ss i) _ _ w (rst'.mono (s.get 2 rfl)))) rfl (rj_v rfl rfl (v_assign rfl) rfl ?_))))))))))); refine rj_v rfl rfl (v_assign rfl) rfl (rj_end (qs_n (wp_sc ?_))); refine wp_ra (σ := Nat × PH × PH × Value × Value × Value × Value) 22 (fun z_ => IntsO ((runS ts op ss i).res op x44.a.toNat x44.b.toNat) z_.2.2.2.1 z_.2.2.1 ∧ TriO (pairR k p n (runA k p n ts op ss i) (runB k p n ts op ss i) ((runS ts op ss i).res op x44.a.toNat x44.b.toNat)) z_.2.2.2.2.1 z_.2.2.2.2.2.1 z_.2.2.2.2.2.2 z_.2.1) (fun z_ => [(3, .pointer (some ⟨b3, 0, none⟩)), (6, .pointer (some ⟨b6, 0, none⟩)), (7, .bool false), (8, ptrV bb), (9, .pointer (some ⟨b9, 0, none⟩)), (11, .pointer (some ⟨b11, 0, none⟩)), (12, num ((runS ts op ss i).place x44.a)), (13, num ((runS ts op ss i).place x44.b)), (14, .pointer (some ⟨z_.1, 0, none⟩)), (15, .bool (pairB k p n (runA k p n ts op ss i) (runB k p n ts op ss i) ((runS ts op ss i).res op x44.a.toNat x44.b.toNat))), (40, subV v 0 ((m : Int).toNat) 2), (41, num (ss.take ((m : Int).toNat)).length), (42, num i), (43, .bool (decide ((i : Int) < (ss.take ((m : Int).toNat)).length))), (45, .agg [num x44.a, num x44.b].toArray), (46, ptrV bb), (47, .pointer (some ⟨b11, 0, none⟩)), (48, num x44.a), (49, num ((runS ts op ss i).place x44.a)), (50, ptrV bb), (51, .pointer (some ⟨b11, 1, none⟩)), (52, num x44.b), (53, num ((runS ts op ss i).place x44.b))]) (fun z_ => [box z_.1 [z_.2.2.2.2.1, z_.2.2.2.2.2.1, z_.2.2.2.2.2.2] 34, z_.2.1, z_.2.2.1, box b11 [num x44.a, num x44.b] 191, box b9 [num k, num p, num n, lx, vo37] 40, g, box b6 [num 0, num 0, num 0, .slice none 0 0, .slice none 0 0] 40, box b3 [num k, num p, num n, vt, vo] 40, hp w, ha, go, hl]) mixed_ok (by kernel_rfl) ?_ ?_
          · refine rak_of (rak_v (i := 0) (by kernel_rfl) rfl rfl (v_fieldAddr fd_40_0 ty_37 (by decide) rfl) rfl (rak_v (i := 1) (by kernel_rfl) rfl rfl (v_loadNB 4 ty_37 rfl rfl rfl rfl) rfl (rak_v (i := 2) (by kernel_rfl) rfl rfl (v_fieldAddr fd_40_1 ty_38 (by decide) rfl) rfl (rak_v (i := 3) (by kernel_rfl) rfl rfl (v_loadB 1 ty_38 rfl rfl rfl) rfl (rak_v (i := 4) (by kernel_rfl) rfl rfl (v_move rfl) rfl ?_))))); obtain ⟨t60, a60, b60, c60, ht60, hcs60, rl60, rd60, rx60⟩ := hlv.at (((runS ts op ss i).place x44.a : Int).toNat) (by first | omega | (rw [List.length_set]; omega)); refine rak_v (i := 5) (by kernel_rfl) rfl rfl (v_indexAddr Tryz.underlying38 ty_34 rfl rfl rr.toR (by decide) (by omega) (by omega)) rfl ?_; refine rak_v (i := 6) (by kernel_rfl) rfl rfl (v_loadNE 6 ty_34 rfl rfl rr.toR (by have := rr.toR.1; omega) rfl hcs60) rfl ?_; refine rak_v (i := 7) (by kernel_rfl) rfl rfl (v_fieldAddr fd_40_1 ty_38 (by decide) rfl) rfl (rak_v (i := 8) (by kernel_rfl) rfl rfl (v_loadB 1 ty_38 rfl rfl rfl) rfl (rak_v (i := 9) (by kernel_rfl) rfl rfl (v_move rfl) rfl ?_)); obtain ⟨t65, a65, b65, c65, ht65, hcs65, rl65, rd65, rx65⟩ := hlv.at (((runS ts op ss i).place x44.b : Int).toNat) (by first | omega | (rw [List.length_set]; omega)); refine rak_v (i := 10) (by kernel_rfl) rfl rfl (v_indexAddr Tryz.underlying38 ty_34 rfl rfl rr.toR (by decide) (by omega) (by omega)) rfl ?_; refine rak_v (i := 11) (by kernel_rfl) rfl rfl (v_loadNE 6 ty_34 rfl rfl rr.toR (by have := rr.toR.1; omega) rfl hcs65) rfl ?_; have e60 : t60 = runA k p n ts op ss i := (by have := out_get (k := k) (p := p) (n := n) hpa; rw [ht60] at this; rw [runA, stpAt_of hx]; exact Option.some.inj this); have e65 : t65 = runB k p n ts op ss i := (by have := out_get (k := k) (p := p) (n := n) hqb; rw [ht65] at this; rw [runB, stpAt_of hx]; exact Option.some.inj this); subst e60; subst e65; refine rak_v (i := 12) (by kernel_rfl) rfl rfl (v_move rfl) rfl (rak_v (i := 13) (by kernel_rfl) rfl rfl (v_move rfl) rfl (rak_v (i := 14) (by kernel_rfl) rfl rfl (v_move rfl) rfl ?_)); refine rak_2 (i := 15) (j := 20) (by kernel_rfl) ?_ ?_
            · refine rok_x rfl rfl (x_call rfl en_243 (fun w s => ct_i_resultLabels _ op _ _ (runS ts op ss i) _ _ _ x44.a.toNat x44.b.toNat w (rst'.mono (s.get 2 rfl)) (r'.mono (s.get 5 rfl)) p0 q0 hpa hqb (by omega))) rfl ?_; rintro v70 h70 r70; refine rak_2 (i := 16) (j := 20) (by kernel_rfl) ?_ ?_
              · refine rok_x rfl rfl (x_call rfl en_73 (fun w s => ct_i_ContractPair _ _ _ _ _ _ _ _ _ _ _ _ _ w (rl60.mono (s.get 9 rfl)) (rd60.mono (s.get 9 rfl)) (rx60.mono (s.get 9 rfl)) (rl65.mono (s.get 9 rfl)) (rd65.mono (s.get 9 rfl)) (rx65.mono (s.get 9 rfl)) (r70.toR.mono (s.get 0 rfl)))) rfl ?_; rintro _ h71 ⟨va71, vb71, vc71, rfl, o71⟩; refine rak_rk [(17, true), (18, true), (19, true), (20, false), (21, false), (22, false)] (by kernel_rfl) rfl (rk_v rfl rfl (v_move rfl) rfl (rk_v rfl rfl (v_extract rfl rfl) rfl (rk_v rfl rfl (v_extract rfl rfl) rfl ?_))); refine rk_xb rfl rfl (x_alloc ty_34 rfl) rfl ?_; rintro _ _ ⟨b14, rfl, rfl⟩; refine rk_m 0 rfl rfl rfl rfl (m_store 0 ty_34 rfl rfl rfl rfl (by simp [o71.toR.1.sl.one, o71.toR.2.1.sl.one, o71.toR.2.2.sl.one]) rfl (Nat.le_of_ble_eq_true rfl)) rfl ?_; rintro _ _ ⟨rfl, rfl⟩; refine rk_fv rfl rfl (v_assign rfl) rfl (rk_end ?_); exact qs_mid (b14, h71, h70, v70, va71, vb71, vc71) ⟨r70, o71⟩ ⟨rfl, rfl, rfl, rfl, rfl, rfl, rfl, rfl, rfl, rfl, rfl, rfl, rfl, rfl, rfl, rfl, rfl, rfl, rfl, rfl, rfl, rfl, rfl, trivial⟩ (fun _ s => s.pick [0, 1, 2, 3, 4, 5, 6, 7, 8, 9, 10, 11] (by decide) rfl)
              · refine rok_xb rfl rfl (x_alloc ty_34 rfl) rfl ?_; rintro _ _ ⟨b14, rfl, rfl⟩; refine rak_rk [(16, false), (17, true), (18, true), (19, true), (21, false), (22, false)] (by kernel_rfl) rfl ?_; refine rk_x rfl rfl (x_call rfl en_73 (fun w s => ct_i_ContractPair _ _ _ _ _ _ _ _ _ _ _ _ _ w (rl60.mono (s.get 10 rfl)) (rd60.mono (s.get 10 rfl)) (rx60.mono (s.get 10 rfl)) (rl65.mono (s.get 10 rfl)) (rd65.mono (s.get 10 rfl)) (rx65.mono (s.get 10 rfl)) (r70.toR.mono (s.get 1 rfl)))) rfl ?_; rintro _ h71 ⟨va71, vb71, vc71, rfl, o71⟩; refine rk_v rfl rfl (v_move rfl) rfl (rk_v rfl rfl (v_extract rfl rfl) rfl (rk_v rfl rfl (v_extract rfl rfl) rfl ?_)); refine rk_m 1 rfl rfl rfl rfl (m_store 1 ty_34 rfl rfl rfl rfl (by simp [o71.toR.1.sl.one, o71.toR.2.1.sl.one, o71.toR.2.2.sl.one]) rfl (Nat.le_of_ble_eq_true rfl)) rfl ?_; rintro _ _ ⟨rfl, rfl⟩; refine rk_fv rfl rfl (v_assign rfl) rfl (rk_end ?_); exact qs_mid (b14, h71, h70, v70, va71, vb71, vc71) ⟨r70, o71⟩ ⟨rfl, rfl, rfl, rfl, rfl, rfl, rfl, rfl, rfl, rfl, rfl, rfl, rfl, rfl, rfl, rfl, rfl, rfl, rfl, rfl, rfl, rfl, rfl, trivial⟩ (fun _ s => s.pick [1, 0, 2, 3, 4, 5, 6, 7, 8, 9, 10, 11] (by decide) rfl)
            · refine rok_xb rfl rfl (x_alloc ty_34 rfl) rfl ?_; rintro _ _ ⟨b14, rfl, rfl⟩; refine rak_rk [(15, false), (16, false), (17, true), (18, true), (19, true), (21, false), (22, false)] (by kernel_rfl) rfl ?_; refine rk_x rfl rfl (x_call rfl en_243 (fun w s => ct_i_resultLabels _ op _ _ (runS ts op ss i) _ _ _ x44.a.toNat x44.b.toNat w (rst'.mono (s.get 3 rfl)) (r'.mono (s.get 6 rfl)) p0 q0 hpa hqb (by omega))) rfl ?_; rintro v70 h70 r70; refine rk_x rfl rfl (x_call rfl en_73 (fun w s => ct_i_ContractPair _ _ _ _ _ _ _ _ _ _ _ _ _ w (rl60.mono (s.get 10 rfl)) (rd60.mono (s.get 10 rfl)) (rx60.mono (s.get 10 rfl)) (rl65.mono (s.get 10 rfl)) (rd65.mono (s.get 10 rfl)) (rx65.mono (s.get 10 rfl)) (r70.toR.mono (s.get 0 rfl)))) rfl ?_; rintro _ h71 ⟨va71, vb71, vc71, rfl, o71⟩; refine rk_v rfl rfl (v_move rfl) rfl (rk_v rfl rfl (v_extract rfl rfl) rfl (rk_v rfl rfl (v_extract rfl rfl) rfl ?_)); refine rk_m 2 rfl rfl rfl rfl (m_store 2 ty_34 rfl rfl rfl rfl (by simp [o71.toR.1.sl.one, o71.toR.2.1.sl.one, o71.toR.2.2.sl.one]) rfl (Nat.le_of_ble_eq_true rfl)) rfl ?_; rintro _ _ ⟨rfl, rfl⟩; refine rk_fv rfl rfl (v_assign rfl) rfl (rk_end ?_); exact qs_mid (b14, h71, h70, v70, va71, vb71, vc71) ⟨r70, o71⟩ ⟨rfl, rfl, rfl, rfl, rfl, rfl, rfl, rfl, rfl, rfl, rfl, rfl, rfl, rfl, rfl, rfl, rfl, rfl, rfl, rfl, rfl, rfl, rfl, trivial⟩ (fun _ s => s.pick [2, 0, 1, 3, 4, 5, 6, 7, 8, 9, 10, 11] (by decide) rfl)
          · rintro ⟨b14, h71, h70, v70, va71, vb71, vc71⟩ ⟨r70, o71⟩; dsimp only at r70 o71 ⊢; refine qs_n (wp_sc (wp_sc (wp_sq (sq_v rfl (v_move rfl) rfl (sq_v rfl (v_not rfl) rfl (sq_end ?_)))))); have eK : (runS ts op ss i).res op x44.a.toNat x44.b.toNat = runK ts op ss i := by rw [runK, stpAt_of hx]
            rw [eK] at o71; refine qs_n ?_; refine wp_cn _ rfl (fun c75 => ?_) (fun c75 => ?_)
            · refine wp_sc (wp_sq (sq_v rfl (v_build [num 0, num 0, num 0, .slice none 0 0, .slice none 0 0] rfl (by kernel_rfl)) rfl ?_)); refine sq_m 6 rfl rfl (m_store 6 ty_40 rfl rfl rfl rfl (by simp [one_int, one_sl]) rfl (Nat.le_of_ble_eq_true rfl)) rfl ?_; rintro _ _ ⟨rfl, rfl⟩; refine sq_v rfl (v_assign rfl) rfl (sq_end (qs_n (wp_rt (qs_r (qs_br (qs_r (qs_r (qs_br (qs_r ?_))))))))); exact qs_retct 6 rfl ty_40 rfl rfl rfl rfl (fin_e (i := 8) rfl (PartNo (fun h => by rw [eK] at c75; exact pairB_false.1 c75 (h.2.2 i (by omega)))))
            · refine wp_sk (qs_n (wp_sc (wp_sq (sq_v rfl (v_assign rfl) rfl (sq_end ?_))))); have hpf : runFit k p n ts op ss i := by rw [eK] at c75; exact pairB_true.1 c75
              refine qs_n (wp_sc (wp_sc (wp_sq (sq_v rfl (v_fieldAddr fd_40_1 ty_38 (by decide) rfl) rfl (sq_v rfl (v_loadB 4 ty_38 rfl rfl rfl) rfl (sq_v rfl (v_len Tryz.underlying38 rfl rr.toR.sl) rfl (sq_v rfl (v_move rfl) rfl (sq_end (qs_n (wp_bl ?_)))))))))); refine wp_lp (σ := Nat × Value × PH × (List Value)) (fun z_ => [(3, .pointer (some ⟨b3, 0, none⟩)), (6, .pointer (some ⟨b6, 0, none⟩)), (7, .bool false), (8, ptrV bb), (9, .pointer (some ⟨b9, 0, none⟩)), (11, .pointer (some ⟨b11, 0, none⟩)), (12, num ((runS ts op ss i).place x44.a)), (13, num ((runS ts op ss i).place x44.b)), (14, .pointer (some ⟨b14, 0, none⟩)), (15, .bool (pairB k p n (runA k p n ts op ss i) (runB k p n ts op ss i) ((runS ts op ss i).res op x44.a.toNat x44.b.toNat))), (16, z_.2.1), (40, subV v 0 ((m : Int).toNat) 2), (41, num (ss.take ((m : Int).toNat)).length), (42, num i), (43, .bool (decide ((i : Int) < (ss.take ((m : Int).toNat)).length))), (45, .agg [num x44.a, num x44.b].toArray), (46, ptrV bb), (47, .pointer (some ⟨b11, 0, none⟩)), (48, num x44.a), (49, num ((runS ts op ss i).place x44.a)), (50, ptrV bb), (51, .pointer (some ⟨b11, 1, none⟩)), (52, num x44.b), (53, num ((runS ts op ss i).place x44.b)), (74, .bool (pairB k p n (runA k p n ts op ss i) (runB k p n ts op ss i) ((runS ts op ss i).res op x44.a.toNat x44.b.toNat))), (75, .bool (!(pairB k p n (runA k p n ts op ss i) (runB k p n ts op ss i) ((runS ts op ss i).res op x44.a.toNat x44.b.toNat)))), (77, .pointer (some ⟨b9, 3, none⟩)), (78, lx), (79, num (outTo k p n ts op ss i).length), (80, num z_.1)]) (fun z_ => [z_.2.2.1, box b14 [va71, vb71, vc71] 34, h71, h70, box b11 [num x44.a, num x44.b] 191, box b9 [num k, num p, num n, lx, vo37] 40, g, box b6 [num 0, num 0, num 0, .slice none 0 0, .slice none 0 0] 40, box b3 [num k, num p, num n, vt, vo] 40, hp w, ha, go, hl]) (fun z_ => z_.1 ≤ (outTo k p n ts op ss i).length ∧ z_.2.2.2 = dropK 3 cs ((runS ts op ss i).place x44.a).toNat ((runS ts op ss i).place x44.b).toNat z_.1 ∧ RowO (34) z_.2.2.2 (dropK 1 (outTo k p n ts op ss i) ((runS ts op ss i).place x44.a).toNat ((runS ts op ss i).place x44.b).toNat z_.1).length 3 z_.2.1 z_.2.2.1) (fun z_ => (outTo k p n ts op ss i).length - z_.1) (0, .slice none 0 0, emp, []) (⟨by (try dsimp only); omega, rfl, RowO.nil⟩) ⟨rfl, rfl, rfl, rfl, rfl, rfl, rfl, rfl, rfl, rfl, (by first | rfl | exact ksub rfl (by first | omega | (simp; done) | (simp; omega))), rfl, rfl, rfl, rfl, rfl, rfl, rfl, rfl, rfl, rfl, rfl, rfl, rfl, rfl, rfl, rfl, rfl, rfl, (by first | rfl | exact ksub rfl (by first | omega | (simp; done) | (simp; omega))), trivial⟩ (fun _ s => (emp_sat s)) ?_; rintro ⟨j, lz, hz, dz⟩ ⟨hj, hdz, rz⟩; dsimp only at hj hdz rz ⊢; have hdl := dropK_len (m := 1) (cs := outTo k p n ts op ss i) (p := ((runS ts op ss i).place x44.a).toNat) (q := ((runS ts op ss i).place x44.b).toNat) j; have hxl : (runS ts op ss i).ixs.length ≤ (runS ts op ss i).all.length := by have := List.length_filter_le (fun i' => !(runS ts op ss i).gone.getD i' false) (List.range (runS ts op ss i).all.length); simpa [Sh.ixs] using this
              refine wp_sc (wp_sq (sq_v rfl (v_lss rfl rfl) rfl (sq_end (qs_n (wp_sc ?_))))); refine wp_cd rfl (fun c81 => ?_) (fun c81 => ?_)
              · refine wp_sk (qs_n (wp_sc (wp_bl (wp_sc (wp_sq (sq_v rfl (v_move rfl) rfl ?_)))))); obtain ⟨t83, a83, b83, c83, ht83, hcs83, rl83, rd83, rx83⟩ := hlv.at (j) (by first | omega | (rw [List.length_set]; omega)); refine sq_v rfl (v_indexAddr Tryz.underlying38 ty_34 rfl rfl rr.toR (by decide) (by omega) (by omega)) rfl ?_; refine sq_v rfl (v_loadNE 10 ty_34 rfl rfl rr.toR (by have := rr.toR.1; omega) rfl hcs83) rfl ?_; refine sq_x rfl (x_alloc ty_34 rfl) rfl ?_; rintro _ _ ⟨b18, rfl, rfl⟩; refine sq_v rfl (v_assign rfl) rfl ?_; refine sq_m 0 rfl rfl (m_store 0 ty_34 rfl rfl rfl rfl (by simp [rl83.sl.one, rd83.sl.one, rx83.sl.one]) rfl (Nat.le_of_ble_eq_true rfl)) rfl ?_; rintro _ _ ⟨rfl, rfl⟩; refine sq_end (qs_n (wp_sc (wp_sq (sq_v rfl (v_move rfl) rfl (sq_v rfl (v_move rfl) rfl (sq_v rfl (v_neq rfl rfl) rfl ?_)))))); refine sq_bd 87 rfl (fun c87 => ?_) (fun c87 => ?_)
                · refine sq_v rfl (v_move rfl) rfl (sq_v rfl (v_move rfl) rfl (sq_v rfl (v_move rfl) rfl (sq_v rfl (v_neq rfl rfl) rfl (sq_v rfl (v_pickt rfl rfl) rfl (sq_end (qs_n ?_)))))); refine wp_cd rfl (fun c92 => ?_) (fun c92 => ?_)
                  · refine wp_sq (sq_v rfl (v_move rfl) rfl (sq_v rfl (v_loadNB 0 ty_34 rfl rfl rfl rfl) rfl ?_)); refine sq_x rfl (x_buildS [.agg [a83, b83, c83].toArray] Tryz.underlying38 ty_34 (by decide) rfl rfl rfl (by decide) (by decide) (by intro v hv; simp at hv; subst hv; rfl)) rfl ?_; intro v95 h95 (r95 : RowO 34 [a83, b83, c83] 1 3 v95 h95); refine sq_m 2 rfl rfl (m_append 2 0 Tryz.underlying38 ty_34 rfl rfl (by decide) rfl rfl rfl rz rfl r95.toR (by simp [rl83.sl.one, rd83.sl.one, rx83.sl.one]) (by unfold maxLen; omega) (by omega)) rfl ?_; intro v96 h_r96 (r96 : RowO 34 (dz ++ [a83, b83, c83]) ((dropK 1 (outTo k p n ts op ss i) ((runS ts op ss i).place x44.a).toNat ((runS ts op ss i).place x44.b).toNat j).length + 1) 3 v96 h_r96); refine sq_v rfl (v_assign rfl) rfl (sq_end (qs_bn (qs_n (wp_sq ?_)))); refine sq_v rfl (v_add rfl rfl ((by unfold I64; omega))) rfl ?_; refine sq_v rfl (v_move rfl) rfl (sq_end ?_); exact qs_bk (j + 1, v96, h_r96, dz ++ [a83, b83, c83]) ⟨by (try dsimp only); omega, by (try dsimp only); rw [dropK_yes ⟨by omega, by omega⟩, ← hdz, hcs83], by (try dsimp only); rw [dropK_yes ⟨by omega, by omega⟩, one_drop ht83, List.length_append]; exact r96⟩ (by simp only; omega) ⟨rfl, rfl, rfl, rfl, rfl, rfl, rfl, rfl, rfl, rfl, (by first | rfl | exact ksub rfl (by first | omega | (simp; done) | (simp; omega))), rfl, rfl, rfl, rfl, rfl, rfl, rfl, rfl, rfl, rfl, rfl, rfl, rfl, rfl, rfl, rfl, rfl, rfl, (by first | rfl | exact ksub rfl (by first | omega | (simp; done) | (simp; omega))), trivial⟩ (fun _ s => s.pick [2, 3, 4, 5, 6, 7, 8, 9, 10, 11, 12, 13, 14] (by decide) rfl)
                  · refine wp_sk (qs_bn (qs_n (wp_sq ?_))); refine sq_v rfl (v_add rfl rfl ((by unfold I64; omega))) rfl ?_; refine sq_v rfl (v_move rfl) rfl (sq_end ?_); exact qs_bk (j + 1, lz, hz, dz) ⟨by (try dsimp only); omega, by (try dsimp only); rw [dropK_no (by omega)]; exact hdz, by (try dsimp only); rw [dropK_no (by omega)]; exact rz⟩ (by simp only; omega) ⟨rfl, rfl, rfl, rfl, rfl, rfl, rfl, rfl, rfl, rfl, (by first | rfl | exact ksub rfl (by first | omega | (simp; done) | (simp; omega))), rfl, rfl, rfl, rfl, rfl, rfl, rfl, rfl, rfl, rfl, rfl, rfl, rfl, rfl, rfl, rfl, rfl, rfl, (by first | rfl | exact ksub rfl (by first | omega | (simp; done) | (simp; omega))), trivial⟩ (fun _ s => s.pick [1, 2, 3, 4, 5, 6, 7, 8, 9, 10, 11, 12, 13] (by decide) rfl)
                · refine sq_v rfl (v_move rfl) rfl (sq_s rfl rfl (sq_s rfl rfl (sq_s rfl rfl (sq_v rfl (v_pickf rfl rfl) rfl (sq_end (qs_n (wp_cf rfl (wp_sk (qs_bn (qs_n (wp_sq ?_))))))))))); refine sq_v rfl (v_add rfl rfl ((by unfold I64; omega))) rfl ?_; refine sq_v rfl (v_move rfl) rfl (sq_end ?_); exact qs_bk (j + 1, lz, hz, dz) ⟨by (try dsimp only); omega, by (try dsimp only); rw [dropK_no (by omega)]; exact hdz, by (try dsimp only); rw [dropK_no (by omega)]; exact rz⟩ (by simp only; omega) ⟨rfl, rfl, rfl, rfl, rfl, rfl, rfl, rfl, rfl, rfl, (by first | rfl | exact ksub rfl (by first | omega | (simp; done) | (simp; omega))), rfl, rfl, rfl, rfl, rfl, rfl, rfl, rfl, rfl, rfl, rfl, rfl, rfl, rfl, rfl, rfl, rfl, rfl, (by first | rfl | exact ksub rfl (by first | omega | (simp; done) | (simp; omega))), trivial⟩ (fun _ s => s.pick [1, 2, 3, 4, 5, 6, 7, 8, 9, 10, 11, 12, 13] (by decide) rfl)
              · refine wp_ex (qs_x (qs_x (qs_bx (qs_n (wp_sc (wp_sq (sq_v rfl (v_move rfl) rfl (sq_v rfl (v_loadNB 1 ty_34 rfl rfl rfl rfl) rfl ?_)))))))); refine sq_x rfl (x_buildS [.agg [va71, vb71, vc71].toArray] Tryz.underlying38 ty_34 (by decide) rfl rfl rfl (by decide) (by decide) (by intro v hv; simp at hv; subst hv; rfl)) rfl ?_; intro v100 h100 (r100 : RowO 34 [va71, vb71, vc71] 1 3 v100 h100); refine sq_m 1 rfl rfl (m_append 1 0 Tryz.underlying38 ty_34 rfl rfl (by decide) rfl rfl rfl rz rfl r100.toR (by simp [o71.toR.1.sl.one, o71.toR.2.1.sl.one, o71.toR.2.2.sl.one]) (by unfold maxLen; omega) (by omega)) rfl ?_; intro v101 h_r101 (r101 : RowO 34 (dz ++ [va71, vb71, vc71]) ((dropK 1 (outTo k p n ts op ss i) ((runS ts op ss i).place x44.a).toNat ((runS ts op ss i).place x44.b).toNat j).length + 1) 3 v101 h_r101); refine sq_v rfl (v_fieldAddr fd_40_1 ty_38 (by decide) rfl) rfl ?_; refine sq_m 6 rfl rfl (m_store1 6 ty_38 rfl rfl r101.toR.sl.one rfl (Nat.le_of_ble_eq_true rfl)) rfl ?_; rintro _ _ ⟨rfl, rfl⟩; refine sq_end (qs_n (wp_sq (sq_v rfl (v_move rfl) rfl (sq_v rfl (v_move rfl) rfl (sq_v rfl (v_move rfl) rfl ?_))))); refine sq_m 7 rfl rfl (x_call rfl en_244 (fun w s => ct_i_contract arr op vo _ bb _ _ x44.a.toNat x44.b.toNat w _ (s.get 7 rfl) rst (r'.mono (s.getR 7 10 rfl rfl (by decide))) p0 q0 hpa hqb (by omega) (by omega))) rfl ?_; rintro _ h106 ⟨rfl, rst2⟩; refine sq_end (qs_bn (qs_n (wp_sq ?_))); refine sq_v rfl (v_add rfl rfl ((by unfold I64; omega))) rfl ?_; refine sq_v rfl (v_move rfl) rfl (sq_end ?_); refine qs_dj 13 3 rfl rfl rfl (fun hdj => ?_); have ej : j = (outTo k p n ts op ss i).length := by omega
                subst ej; obtain ⟨g2, hg2, oh2⟩ := hlv.dropK ((runS ts op ss i).place x44.a).toNat ((runS ts op ss i).place x44.b).toNat; rw [← hdz] at oh2; have oh3 := oh2.snoc o71 (hdj.mono hg2); exact qs_bk (i + 1, v101, h_r101, dz ++ [va71, vb71, vc71], PUn g2 h71, h106) ⟨by (try dsimp only); rw [List.length_take]; omega, step_all hfit hpf, by (try dsimp only); rw [hs1]; exact rst2, by (try dsimp only); rw [hosn]; exact oh3, by (try dsimp only); rw [hosn, List.length_append]; exact r101⟩ (by simp only; omega) ⟨rfl, rfl, rfl, rfl, rfl, rfl, rfl, (by first | rfl | exact ksub rfl (by first | omega | (simp; done) | (simp; omega))), trivial⟩ (fun _ s => ((Sat.merge (s.pick (HS' := [hl, h71, box b9 [num k, num p, num n, v101, vo37] 40, h106, box b6 [num 0, num 0, num 0, .slice none 0 0, .slice none 0 0] 40, box b3 [num k, num p, num n, vt, vo] 40, hp w, h_r101, go]) [13, 3, 6, 7, 8, 9, 10, 1, 12] (by decide) rfl)).less (i := 0) rfl (PUn.mono_l hg2 hdj)).pick [1, 2, 3, 4, 5, 6, 7, 0] (by decide) rfl)
        · refine wp_ex (qs_x (qs_x (qs_bx (qs_n (wp_sc (wp_sq (sq_v rfl (v_loadNB 0 ty_40 rfl rfl rfl rfl) rfl ?_))))))); refine sq_m 2 rfl rfl (m_store 2 ty_40 rfl rfl rfl rfl (by simp [one_int, rr.toR.sl.one, ro.toR.sl.one]) rfl (Nat.le_of_ble_eq_true rfl)) rfl ?_; rintro _ _ ⟨rfl, rfl⟩; refine sq_v rfl (v_assign rfl) rfl (sq_end (qs_n (wp_rt ?_))); have ei : i = (m : Int).toNat := by have : ¬ i < (ss.take (m : Int).toNat).length := (by omega); rw [List.length_take] at this; omega
          refine qs_close [box b6 _ _, hp w] [ha, go, hl] (fun _ s => s.pick [2, 4, 5, 6, 7] (by decide) rfl) (fun md => ?_); exact qs_retct 1 rfl ty_40 rfl rfl rfl rfl (fin_t 0 (i := 2) rfl rfl rfl (PartYes ⟨hord, ⟨by omega, by omega⟩, by rw [← ei]; exact hfit⟩ (by rw [← ei]; exact NetO.join rr ro hlv md)))
  · refine sq_v rfl (v_not rfl) rfl (sq_v rfl (v_move rfl) rfl (sq_s rfl rfl (sq_s rfl rfl (sq_v rfl (v_pickt rfl rfl) rfl (sq_v rfl (v_move rfl) rfl (sq_s rfl rfl (sq_s rfl rfl (sq_s rfl rfl (sq_s rfl rfl ?_))))))))); refine sq_v rfl (v_pickt rfl rfl) rfl (sq_end (qs_n (wp_ct rfl (wp_sc (wp_sq (sq_v rfl (v_build [num 0, num 0, num 0, .slice none 0 0, .slice none 0 0] rfl (by kernel_rfl)) rfl ?_)))))); refine sq_m 0 rfl rfl (m_store 0 ty_40 rfl rfl rfl rfl (by simp [one_int, one_sl]) rfl (Nat.le_of_ble_eq_true rfl)) rfl ?_; rintro _ _ ⟨rfl, rfl⟩; refine sq_v rfl (v_assign rfl) rfl (sq_end (qs_n (wp_rt (qs_r ?_)))); exact qs_retct 0 rfl ty_40 rfl rfl rfl rfl (fin_e (i := 2) rfl (PartNo (fun h => by first | exact orderB_false.1 c21 h.1 | (have := h.2.1; omega))))
theorem ct_L_iPartial (k p n m : Int) (ts : List Ten) (op : List Int) (ss : List Stp) (vt vo v : Value) (w : World) (r : TensR ts vt (hp w)) (r' : IntsR op vo (hp w)) (rv : StepsR ss v (hp w)) (hs : op.length ≤ 1048576) :
    Calls Tryz.prog 208 [netV k p n vt vo, v, num m].toArray w (Ret w emp (NetB (ifB (partB k p n ts op ss m) k 0) (ifB (partB k p n ts op ss m) p 0) (ifB (partB k p n ts op ss m) n 0) (partTs k p n ts op ss m) (partOp k p n ts op ss m) (partB k p n ts op ss m))) :=
  ct_i_PartialNetwork k p n m ts op ss vt vo v w r r' rv hs
end Go.Proofs.YthlmjnihihbckaaGreat
namespace Go.Proofs.YthlmjnihihbckaaGreat
set_option maxRecDepth 100000
open Go.RowKit
def RunR (k p n : Int) (ts : List Ten) (op : List Int) (ss : List Stp) (m : Int) (q : PH) (u : Value) (h : PH) : Prop :=
  ∃ va vb bb, u = .tuple [va, vb, .bool bb].toArray ∧ (bb = true ↔ ∀ j, j < m.toNat → runFit k p n ts op ss j) ∧
    (bb = true → ∃ cs ha hb hs, RowO 34 cs (runTo k p n ts op ss m.toNat).length 3 va ha ∧ IntsO ((runS ts op ss m.toNat).ixs.map Int.ofNat) vb hb ∧ TensL (runTo k p n ts op ss m.toNat) cs (PUn hs q) ∧ Made h [ha, hb, hs])
theorem ixs_step {ts : List Ten} {op : List Int} {ss : List Stp} {i : Nat} {x : Stp} {s' : Sh} (h : s' = (runS ts op ss i).step op x.a.toNat x.b.toNat) (ho : (runS ts op ss i).ok) (h0 : 0 ≤ x.a ∧ 0 ≤ x.b) :
    s'.ixs.map Int.ofNat = ((runS ts op ss i).ixs.map Int.ofNat).filter (fun y => decide (y ≠ x.a ∧ y ≠ x.b)) ++ [((runS ts op ss i).all.length : Int)] := by
  rw [h, step_ixs ho, List.map_append, List.filter_map]
  congr 2
  apply List.filter_congr
  intro j _; simp only [Function.comp, Int.ofNat_eq_natCast]; rw [Bool.eq_iff_iff, decide_eq_true_eq, decide_eq_true_eq]
  omega
theorem TensL.at {ts : List Ten} {cs : List Value} {h H : PH} (r : TensL ts cs h) (l : PLe h H) (j : Nat) (hj : j < ts.length) : ∃ t a b c, ts[j]? = some t ∧ (cs.drop (j * 3)).take 3 = [a, b, c] ∧ IntsR t.l a H ∧ IntsR t.d b H ∧ IntsR t.x c H := by
  have ht : ts[j]? = some ts[j] := List.getElem?_eq_getElem hj; obtain ⟨a, b, c, e, r1, r2, r3⟩ := r.2 j _ ht; exact ⟨_, a, b, c, ht, e, r1.mono l, r2.mono l, r3.mono l⟩
theorem SpR.mono_2 {f : Int → Int} {s : Sh} {va vg : Value} {b : Nat} {h h' : PH} (r : SpR f s va vg b h) (l : PLe h h') : SpR f s va vg b h' := ⟨r.ok, cellP.mono l r.c0, cellP.mono l r.c1, r.all.mono l, r.gone.mono l⟩
theorem ixs_zero (ts : List Ten) (op : List Int) (ss : List Stp) : (runS ts op ss 0).ixs = List.range ts.length := by rw [← sh0_ixs ts]; rfl
set_option maxHeartbeats 4000000 in
theorem ct_s_l18Run (k p n m : Int) (ts : List Ten) (op : List Int) (ss : List Stp) (vt vo v : Value) (w : World) (q : PH) (lq : PLe q (hp w)) (r : TensR ts vt q) (r' : IntsR op vo (hp w)) (rv : StepsR ss v (hp w)) (hord : orderL k p n ts op ss) (hm : 0 ≤ m ∧ m ≤ ss.length) (hs : op.length ≤ 1048576) :
    Calls Tryz.prog 205 [netV k p n vt vo, v, num m].toArray w (Ret w emp (RunR k p n ts op ss m q)) := by
  have hnet := hord.1; have hax := net_axes hnet; have h12 := hnet.2.1; have hst0 := few_steps hax hord.2.2; have hlq := r.le; obtain ⟨csq, rrq, hcq⟩ := r.at; refine calls_in Tryz.func205 rfl Tryz.ntmps205 rfl (Sat.start w) ?_; have hle0 := r'.le; have hle1 := rv.le; obtain ⟨cs_rv, rr_rv, hc_rv⟩ := rv.at; refine wp_sc (wp_sq ?_); refine sq_x rfl (x_box rfl rfl) rfl ?_; rintro _ _ ⟨b3, rfl, rfl⟩; refine sq_v rfl (v_assign rfl) rfl (sq_v rfl (v_assign rfl) rfl (sq_v rfl (v_assign rfl) rfl (sq_end (qs_n (wp_sc (wp_sq (sq_v rfl (v_loadNB 0 ty_40 rfl rfl rfl rfl) rfl (sq_v rfl (v_move rfl) rfl ?_)))))))); refine sq_x rfl (x_call rfl en_239 (fun w s => ct_s_l17Run (dimOf ts) _ _ _ _ _ _ _ _ _ w q (lq.trans (s.get 1 rfl)) r (r'.mono (s.get 1 rfl)) (rv.mono (s.get 1 rfl)) (net_dmap hnet) (by first | assumption | omega) (by first | assumption | omega) (sh0_fine (net_axes hnet)) (net_fit hnet) hord.2.2 (by first | assumption | omega))) rfl ?_; rintro _ h24 ⟨bb, vc, g1, g2, rfl, hsp, rc, md⟩; refine sq_v rfl (v_move rfl) rfl (sq_v rfl (v_extract rfl rfl) rfl (sq_v rfl (v_extract rfl rfl) rfl (sq_v rfl (v_assign rfl) rfl (sq_v rfl (v_assign rfl) rfl (sq_end ?_))))); refine qs_dj 0 2 rfl rfl rfl (fun hdj0 => ?_); obtain ⟨va0, vg0, hsr⟩ := hsp.toR (H := PUn h24 (hp w)) ((md.le g1 (by simp)).trans (PLe.un_l h24 (hp w))) (lq.trans (PLe.un_r hdj0)); refine qs_n (wp_sc (wp_sq ?_)); refine sq_x rfl (x_build0 Tryz.underlying38 ty_34) rfl ?_; intro v27 h27 r27; refine sq_v rfl (v_assign rfl) rfl (sq_end (qs_n (wp_sc (wp_sq ?_)))); refine sq_x rfl (x_build0 Tryz.underlying25 ty_3) rfl ?_; intro v28 h28 (r28 : IntsO [] v28 h28); refine sq_v rfl (v_assign rfl) rfl (sq_end (qs_n (wp_sc (wp_sc (wp_sq (sq_v rfl (v_fieldAddr fd_40_1 ty_38 (by decide) rfl) rfl (sq_v rfl (v_loadB 3 ty_38 rfl rfl rfl) rfl (sq_v rfl (v_len Tryz.underlying38 rfl (r.mono lq).sl) rfl (sq_v rfl (v_move rfl) rfl (sq_end (qs_n (wp_bl ?_)))))))))))); refine wp_lp (σ := Nat × Value × PH × (List Value) × Value × PH) (fun z_ => [(1, v), (2, num m), (3, .pointer (some ⟨b3, 0, none⟩)), (6, .slice none 0 0), (7, .slice none 0 0), (8, .bool false), (9, ptrV bb), (11, z_.2.1), (12, z_.2.2.2.2.1), (30, vt), (31, num ts.length), (32, num z_.1)]) (fun z_ => [z_.2.2.1, z_.2.2.2.2.2, h24, box b3 [num k, num p, num n, vt, vo] 40, hp w]) (fun z_ => z_.1 ≤ ts.length ∧ TensL (ts.take z_.1) z_.2.2.2.1 q ∧ RowO (34) z_.2.2.2.1 z_.1 3 z_.2.1 z_.2.2.1 ∧ IntsO ((List.range z_.1).map Int.ofNat) z_.2.2.2.2.1 z_.2.2.2.2.2) (fun z_ => ts.length - z_.1) (0, v27, h27, [], v28, h28) (⟨by (try dsimp only); omega, TensL.nil _, r27, r28⟩) ⟨rfl, rfl, rfl, rfl, rfl, rfl, rfl, (by first | rfl | exact ksub rfl (by first | omega | (simp; done) | (simp; omega))), (by first | rfl | exact ksub rfl (by first | omega | (simp; done) | (simp; omega))), rfl, rfl, (by first | rfl | exact ksub rfl (by first | omega | (simp; done) | (simp; omega))), trivial⟩ (fun _ s => s.pick [1, 0, 2, 3, 4] (by decide) rfl) ?_; rintro ⟨i, va, ha, cs, vb, hb⟩ ⟨hi, hlv, rr, qb⟩; dsimp only at hi hlv rr qb ⊢; have hle_qb := qb.toR.le; have hil : ((List.range i).map Int.ofNat).length = i := by simp
  refine wp_sc (wp_sq (sq_v rfl (v_lss rfl rfl) rfl (sq_end (qs_n (wp_sc ?_))))); refine wp_cd rfl (fun c33 => ?_) (fun c33 => ?_)
  · refine wp_sk (qs_n (wp_sc (wp_bl (wp_sc (wp_sq (sq_v rfl (v_move rfl) rfl ?_)))))); obtain ⟨t35, a35, b35, c35, ht35, hcs35, rl35, rd35, rx35⟩ := hcq (i) (by first | omega | (rw [List.length_set]; omega)); refine sq_v rfl (v_indexAddr Tryz.underlying38 ty_34 rfl rfl (rrq.mono lq) (by decide) (by omega) (by omega)) rfl ?_; refine sq_v rfl (v_loadNE 4 ty_34 rfl rfl (rrq.mono lq) (by have := (rrq.mono lq).1; omega) rfl hcs35) rfl ?_; refine sq_x rfl (x_alloc ty_34 rfl) rfl ?_; rintro _ _ ⟨b14, rfl, rfl⟩; refine sq_v rfl (v_assign rfl) rfl ?_; refine sq_m 0 rfl rfl (m_store 0 ty_34 rfl rfl rfl rfl (by simp [rl35.sl.one, rd35.sl.one, rx35.sl.one]) rfl (Nat.le_of_ble_eq_true rfl)) rfl ?_; rintro _ _ ⟨rfl, rfl⟩; refine sq_end (qs_n (wp_sc (wp_sq (sq_v rfl (v_move rfl) rfl (sq_v rfl (v_loadNB 0 ty_34 rfl rfl rfl rfl) rfl ?_))))); refine sq_x rfl (x_buildS [.agg [a35, b35, c35].toArray] Tryz.underlying38 ty_34 (by decide) rfl rfl rfl (by decide) (by decide) (by intro v hv; simp at hv; subst hv; rfl)) rfl ?_; intro v39 h39 (r39 : RowO 34 [a35, b35, c35] 1 3 v39 h39); refine sq_m 2 rfl rfl (m_append 2 0 Tryz.underlying38 ty_34 rfl rfl (by decide) rfl rfl rfl rr rfl r39.toR (by simp [rl35.sl.one, rd35.sl.one, rx35.sl.one]) (by unfold maxLen; omega) (by omega)) rfl ?_; intro v40 h_r40 (r40 : RowO 34 (cs ++ [a35, b35, c35]) (i + 1) 3 v40 h_r40); refine sq_v rfl (v_assign rfl) rfl (sq_end (qs_n (wp_sq (sq_v rfl (v_move rfl) rfl (sq_v rfl (v_move rfl) rfl ?_))))); refine sq_x rfl (x_buildS [num (i)] Tryz.underlying25 ty_3 (by decide) rfl rfl rfl (by decide) (by decide) (by intro v hv; simp at hv; rcases hv with rfl <;> rfl)) rfl ?_; intro v43 h43 (r43 : IntsO [i] v43 h43); refine sq_m 4 rfl rfl (m_appI 4 0 Tryz.underlying25 ty_3 rfl rfl rfl rfl qb rfl r43.toR (by first | omega | (simp; omega) | (simp only [List.length_append, List.length_cons, List.length_nil]; omega) | (rw [List.length_set]; omega))) rfl ?_; intro v44 h_r44 r44; refine sq_v rfl (v_assign rfl) rfl (sq_end (qs_bn (qs_n (wp_sq ?_)))); refine sq_v rfl (v_add rfl rfl ((by unfold I64; omega))) rfl ?_; refine sq_v rfl (v_move rfl) rfl (sq_end ?_); exact qs_bk (i + 1, v40, h_r40, cs ++ [a35, b35, c35], v44, h_r44) ⟨by (try dsimp only); omega, by (try dsimp only); rw [take_ten ht35]; exact hlv.snoc rl35 rd35 rx35, r40, by (try dsimp only); rw [List.range_succ, List.map_append]; exact r44⟩ (by simp only; omega) ⟨rfl, rfl, rfl, rfl, rfl, rfl, rfl, (by first | rfl | exact ksub rfl (by first | omega | (simp; done) | (simp; omega))), (by first | rfl | exact ksub rfl (by first | omega | (simp; done) | (simp; omega))), rfl, rfl, (by first | rfl | exact ksub rfl (by first | omega | (simp; done) | (simp; omega))), trivial⟩ (fun _ s => s.pick [3, 4, 5, 6, 7] (by decide) rfl)
  · refine wp_ex (qs_x (qs_x (qs_bx (qs_n (wp_sc (wp_sc (wp_sq (sq_v rfl (v_move rfl) rfl (sq_v rfl (v_move rfl) rfl (sq_v rfl (v_sliceH Tryz.underlying126 ty_191 rfl rfl  rv (by omega) (by omega)) rfl ?_)))))))))); obtain ⟨cs_S_48, rr_S_48, hc_S_48⟩ := (rv.subH (hi := (m : Int).toNat) (by omega)).at; refine sq_v rfl (v_len Tryz.underlying126 rfl (rv.subH (hi := (m : Int).toNat) (by omega)).sl) rfl (sq_v rfl (v_move rfl) rfl (sq_end ?_)); have ei : i = ts.length := by omega
    subst ei; rw [List.take_length] at hlv; refine qs_s [PUn h24 (hp w), ha, hb, box b3 [num k, num p, num n, vt, vo] 40] (fun _ s => Sat.merge (s.pick [2, 4, 0, 1, 3] (by decide) rfl)) (qs_n (wp_bl ?_)); refine wp_lp (σ := Nat × Value × PH × (List Value) × Value × PH × PH) (fun z_ => [(3, .pointer (some ⟨b3, 0, none⟩)), (6, .slice none 0 0), (7, .slice none 0 0), (8, .bool false), (9, ptrV bb), (11, z_.2.1), (12, z_.2.2.2.2.1), (48, subV v 0 ((m : Int).toNat) 2), (49, num (ss.take ((m : Int).toNat)).length), (50, num z_.1)]) (fun z_ => [(PUn z_.2.2.2.2.2.2 (hp w)), z_.2.2.1, z_.2.2.2.2.2.1, box b3 [num k, num p, num n, vt, vo] 40]) (fun z_ => z_.1 ≤ (ss.take (m : Int).toNat).length ∧ (∀ j, j < z_.1 → runFit k p n ts op ss j) ∧ PDj z_.2.2.2.2.2.2 (hp w) ∧ PLe h24 z_.2.2.2.2.2.2 ∧ TensL (runTo k p n ts op ss z_.1) z_.2.2.2.1 (PUn z_.2.2.2.2.2.2 q) ∧ RowO (34) z_.2.2.2.1 (runTo k p n ts op ss z_.1).length 3 z_.2.1 z_.2.2.1 ∧ IntsO ((runS ts op ss z_.1).ixs.map Int.ofNat) z_.2.2.2.2.1 z_.2.2.2.2.2.1) (fun z_ => (ss.take (m : Int).toNat).length - z_.1) (0, va, ha, cs, vb, hb, h24) (⟨by (try dsimp only); omega, fun j hj => by omega, hdj0, fun _ _ e => e, hlv.mono (PLe.un_r (hdj0.symm.mono lq).symm), rr, by (try dsimp only); rw [ixs_zero]; exact qb⟩) ⟨rfl, rfl, rfl, rfl, rfl, (by first | rfl | exact ksub rfl (by first | omega | (simp; done) | (simp; omega))), (by first | rfl | exact ksub rfl (by first | omega | (simp; done) | (simp; omega))), rfl, rfl, (by first | rfl | exact ksub rfl (by first | omega | (simp; done) | (simp; omega))), trivial⟩ (fun _ s => s) ?_; rintro ⟨i, va, ha, cs, vb, hb, hl⟩ ⟨hi, hfit, hdj, hle, hlv, rr, qb⟩; dsimp only at hi hfit hdj hle hlv rr qb ⊢; have hle_qb := qb.toR.le; have hil : i ≤ ss.length ∧ i ≤ (m : Int).toNat := by rw [List.length_take] at hi; omega
    have hRO := run_ok hord i hil.1 hfit; have hfs := run_fine (ss := ss) hnet i; have hall := run_all (ts := ts) (op := op) (ss := ss) hil.1; have hrl := hRO.len; have hln : (shTens (dimOf ts) (shTo op (sh0 ts) ss)).length = ts.length + ss.length := by rw [shTens_len, shTo_all]; simp [sh0]
    obtain ⟨csS, rrS, hcS⟩ := ((rv.subH (hi := (m : Int).toNat) (by omega)).mono (PLe.un_r hdj)).at; have hsr2 := hsr.mono_2 (PUn.mono_l hle hdj)
    ; obtain ⟨cs_hsr2_all, rr_hsr2_all, hc_hsr2_all⟩ := hsr2.all.at
    refine wp_sc (wp_sq (sq_v rfl (v_lss rfl rfl) rfl (sq_end (qs_n (wp_sc ?_))))); refine wp_cd rfl (fun c51 => ?_) (fun c51 => ?_)
    · refine wp_sk (qs_n (wp_sc (wp_bl (wp_sc (wp_sq (sq_v rfl (v_move rfl) rfl ?_)))))); obtain ⟨x53, hx53, hcs53⟩ := hcS (i) (by first | omega | (rw [List.length_set]; omega)); refine sq_v rfl (v_indexAddr Tryz.underlying126 ty_191 rfl rfl rrS (by decide) (by omega) (by first | omega | (rw [List.length_set]; omega))) rfl ?_; refine sq_v rfl (v_loadNE 0 ty_191 rfl rfl rrS (by have := rrS.1; omega) rfl hcs53) rfl ?_; refine sq_x rfl (x_alloc ty_191 rfl) rfl ?_; rintro _ _ ⟨b16, rfl, rfl⟩; refine sq_v rfl (v_assign rfl) rfl ?_; refine sq_m 0 rfl rfl (m_store 0 ty_191 rfl rfl rfl rfl (by simp [Value.oneCell']) rfl (Nat.le_of_ble_eq_true rfl)) rfl ?_; rintro _ _ ⟨rfl, rfl⟩; refine sq_end ?_; obtain ⟨hx, him, hiss⟩ := stp_take hx53; obtain ⟨hst, hs1, _⟩ := run_step hord hiss; have htwo := hRO.two hord hiss; have hend := run_end hord hiss; rw [stpAt_of hx] at hst hs1; obtain ⟨⟨hx0, hx1, _⟩, ⟨hy0, hy1, _⟩, hxy⟩ := hst; refine qs_n (wp_sc (wp_rj 13 [(0, true), (1, true), (2, true), (3, true), (4, true), (5, true), (6, true), (7, true), (8, true), (9, true), (10, true), (11, true), (12, true)] mixed_ok (by kernel_rfl) (rj_v rfl rfl (v_move rfl) rfl (rj_v rfl rfl (v_nilCheck rfl) rfl (rj_v rfl rfl (v_fieldAddr fd_220_0 ty_38 (by decide) rfl) rfl (rj_v rfl rfl (v_load 1 ty_38 rfl rfl hsr2.c0) rfl (rj_v rfl rfl (v_fieldAddr fd_40_1 ty_38 (by decide) rfl) rfl (rj_v rfl rfl (v_loadB 4 ty_38 rfl rfl rfl) rfl (rj_v rfl rfl (v_len Tryz.underlying38 rfl (r.mono (lq.trans (PLe.un_r hdj))).sl) rfl (rj_v rfl rfl (v_move rfl) rfl ?_)))))))))); refine rj_v rfl rfl (v_add rfl rfl ((by unfold I64; omega))) rfl ?_; obtain ⟨t64, a64, b64, c64, ht64, hcs64, rl64, rd64, rx64⟩ := hc_hsr2_all ((ts.length + i)) (by first | omega | (rw [List.length_set]; omega)); refine rj_v rfl rfl (v_indexAddr Tryz.underlying38 ty_34 rfl rfl rr_hsr2_all (by decide) (by omega) (by omega)) rfl ?_; refine rj_v rfl rfl (v_fieldAddrE fd_34_0 ty_25 (by decide) rfl rr_hsr2_all (by have := rr_hsr2_all.1; first | omega | (simp only [Int.toNat_natCast]; omega) | (rw [stepCells_len, List.length_set]; omega))) rfl ?_; refine rj_v rfl rfl (v_loadE 1 ty_25 rfl rfl rr_hsr2_all (sub_get hcs64 (j := 0) rfl)) rfl (rj_v rfl rfl (v_assign rfl) rfl (rj_end ?_)); have e64 := shTens_at ht64; have l64 : t64.l = runK ts op ss i := by rw [e64]; first | exact hend | (dsimp only; rw [show ((ts.length : Int) + (i : Int)).toNat = ts.length + i by omega]; exact hend)
      rw [l64] at rl64; refine qs_n (wp_sc (wp_sc (wp_rj 13 [(0, true), (1, true), (2, true), (3, true), (4, true), (5, true), (6, true), (7, true), (8, true), (9, true), (10, true), (11, false), (12, true)] mixed_ok (by kernel_rfl) (rj_v rfl rfl (v_move rfl) rfl (rj_v rfl rfl (v_fieldAddr fd_191_0 ty_3 (by decide) rfl) rfl (rj_v rfl rfl (v_loadB 0 ty_3 rfl rfl rfl) rfl ?_)))))); obtain ⟨t70, a70, b70, c70, ht70, hcs70, rl70, rd70, rx70⟩ := (hlv.at (PUn.mono_r lq)) ((x53.a : Int).toNat) (by first | omega | (rw [List.length_set]; omega))
      refine rj_v rfl rfl (v_indexAddr Tryz.underlying38 ty_34 rfl rfl rr.toR (by decide) (by omega) (by omega)) rfl ?_; refine rj_v rfl rfl (v_loadNE 2 ty_34 rfl rfl rr.toR (by have := rr.toR.1; omega) rfl hcs70) rfl ?_; refine rj_v rfl rfl (v_move rfl) rfl (rj_v rfl rfl (v_fieldAddr fd_191_1 ty_3 (by decide) rfl) rfl (rj_v rfl rfl (v_loadB 0 ty_3 rfl rfl rfl) rfl ?_)); obtain ⟨t75, a75, b75, c75, ht75, hcs75, rl75, rd75, rx75⟩ := (hlv.at (PUn.mono_r lq)) ((x53.b : Int).toNat) (by first | omega | (rw [List.length_set]; omega))
      refine rj_v rfl rfl (v_indexAddr Tryz.underlying38 ty_34 rfl rfl rr.toR (by decide) (by omega) (by omega)) rfl ?_; refine rj_v rfl rfl (v_loadNE 2 ty_34 rfl rfl rr.toR (by have := rr.toR.1; omega) rfl hcs75) rfl ?_; have e70 : t70 = runA k p n ts op ss i := (by rw [runA, stpAt_of hx]; simp [List.getD, ht70]); have e75 : t75 = runB k p n ts op ss i := (by rw [runB, stpAt_of hx]; simp [List.getD, ht75]); subst e70; subst e75; refine rj_v rfl rfl (v_move rfl) rfl (rj_u rfl rfl (x_callv rfl en_65 (fun w s => ct_u_l08Fits k p n (dimOf ts) _ _ _ _ _ _ _ _ _ _ w (rl70.mono (s.get 1 rfl)) (rd70.mono (s.get 1 rfl)) (rx70.mono (s.get 1 rfl)) (rl75.mono (s.get 1 rfl)) (rd75.mono (s.get 1 rfl)) (rx75.mono (s.get 1 rfl)) (rl64.mono (s.get 1 rfl)) htwo.1.1 htwo.2.1 htwo.1.2.2 htwo.2.2.2)) rfl (rj_v rfl rfl (v_not rfl) rfl (rj_end (qs_n ?_)))); refine wp_cn _ rfl (fun c79 => ?_) (fun c79 => ?_)
      · refine wp_sc (wp_sq (sq_v rfl (v_assign rfl) rfl (sq_v rfl (v_assign rfl) rfl (sq_v rfl (v_assign rfl) rfl (sq_end (qs_n (wp_rt (qs_r (qs_br (qs_r (qs_r (qs_br (qs_r (qs_s [hl, hp w] (fun _ s => Sat.part hdj (s.pick [1] (by decide) rfl)) ?_)))))))))))))); exact qs_ret3 rfl rfl rfl rfl (fin_e (i := 1) rfl ⟨_, _, false, rfl, ⟨fun e => (by cases e), fun h => absurd (h i (by omega)) (pairB_false.1 c79)⟩, fun e => (by cases e)⟩)
      · refine wp_sk (qs_n (wp_sc (wp_rj 16 [(0, true), (1, true), (2, true), (3, true), (4, true), (5, true), (6, true), (7, true), (8, true), (9, true), (10, true), (11, true), (12, true), (13, true), (14, false), (15, false), (16, false), (17, false)] mixed_ok (by kernel_rfl) ?_))); have hpf : runFit k p n ts op ss i := pairB_true.1 c79; refine rj_v rfl rfl (v_move rfl) rfl (rj_v rfl rfl (v_fieldAddr fd_40_0 ty_37 (by decide) rfl) rfl (rj_v rfl rfl (v_loadNB 4 ty_37 rfl rfl rfl rfl) rfl (rj_v rfl rfl (v_move rfl) rfl (rj_v rfl rfl (v_fieldAddr fd_191_0 ty_3 (by decide) rfl) rfl (rj_v rfl rfl (v_loadB 0 ty_3 rfl rfl rfl) rfl ?_))))); obtain ⟨t86, a86, b86, c86, ht86, hcs86, rl86, rd86, rx86⟩ := (hlv.at (PUn.mono_r lq)) ((x53.a : Int).toNat) (by first | omega | (rw [List.length_set]; omega))
        refine rj_v rfl rfl (v_indexAddr Tryz.underlying38 ty_34 rfl rfl rr.toR (by decide) (by omega) (by omega)) rfl ?_; refine rj_v rfl rfl (v_loadNE 2 ty_34 rfl rfl rr.toR (by have := rr.toR.1; omega) rfl hcs86) rfl ?_; refine rj_v rfl rfl (v_move rfl) rfl (rj_v rfl rfl (v_fieldAddr fd_191_1 ty_3 (by decide) rfl) rfl (rj_v rfl rfl (v_loadB 0 ty_3 rfl rfl rfl) rfl ?_)); obtain ⟨t91, a91, b91, c91, ht91, hcs91, rl91, rd91, rx91⟩ := (hlv.at (PUn.mono_r lq)) ((x53.b : Int).toNat) (by first | omega | (rw [List.length_set]; omega))
        refine rj_v rfl rfl (v_indexAddr Tryz.underlying38 ty_34 rfl rfl rr.toR (by decide) (by omega) (by omega)) rfl ?_; refine rj_v rfl rfl (v_loadNE 2 ty_34 rfl rfl rr.toR (by have := rr.toR.1; omega) rfl hcs91) rfl ?_; have e86 : t86 = runA k p n ts op ss i := (by rw [runA, stpAt_of hx]; simp [List.getD, ht86]); have e91 : t91 = runB k p n ts op ss i := (by rw [runB, stpAt_of hx]; simp [List.getD, ht91]); subst e86; subst e91; refine rj_v rfl rfl (v_move rfl) rfl ?_; refine rj_x rfl rfl (x_call rfl en_66 (fun w s => ct_u_l08Pair _ _ _ _ _ _ _ _ _ _ _ _ _ w (rl86.mono (s.get 1 rfl)) (rd86.mono (s.get 1 rfl)) (rx86.mono (s.get 1 rfl)) (rl91.mono (s.get 1 rfl)) (rd91.mono (s.get 1 rfl)) (rx91.mono (s.get 1 rfl)) (rl64.mono (s.get 1 rfl)) hpf)) rfl ?_; rintro _ h94 ⟨va94, vb94, vc94, rfl, o94⟩; refine rj_x rfl rfl (x_buildS [.agg [va94, vb94, vc94].toArray] Tryz.underlying38 ty_34 (by decide) rfl rfl rfl (by decide) (by decide) (by intro v hv; simp at hv; subst hv; rfl)) rfl ?_; intro v95 h95 (r95 : RowO 34 [va94, vb94, vc94] 1 3 v95 h95); refine rj_m 4 rfl rfl rfl rfl (m_append 4 0 Tryz.underlying38 ty_34 rfl rfl (by decide) rfl rfl rfl rr rfl r95.toR (by simp [o94.toR.1.sl.one, o94.toR.2.1.sl.one, o94.toR.2.2.sl.one]) (by unfold maxLen; omega) (by omega)) rfl ?_; intro v96 h_r96 (r96 : RowO 34 (cs ++ [va94, vb94, vc94]) ((runTo k p n ts op ss i).length + 1) 3 v96 h_r96); refine rj_fv rfl rfl (v_assign rfl) rfl (rj_end (qs_n (wp_sc (wp_sq ?_)))); refine sq_x rfl (x_build0 Tryz.underlying25 ty_3) rfl ?_; intro v97 h97 (r97 : IntsO [] v97 h97); refine sq_v rfl (v_assign rfl) rfl (sq_end (qs_n (wp_sc (wp_sc (wp_sq (sq_v rfl (v_move rfl) rfl (sq_v rfl (v_len Tryz.underlying25 rfl qb.toR.sl) rfl (sq_v rfl (v_move rfl) rfl (sq_end (qs_n (wp_bl ?_))))))))))); refine wp_lp (σ := Nat × Value × PH) (fun z_ => [(3, .pointer (some ⟨b3, 0, none⟩)), (6, .slice none 0 0), (7, .slice none 0 0), (8, .bool false), (9, .pointer (some ⟨bb, 0, none⟩)), (11, v96), (12, vb), (15, num i), (16, .pointer (some ⟨b16, 0, none⟩)), (17, a64), (18, z_.2.1), (48, subV v 0 ((m : Int).toNat) 2), (49, num (ss.take ((m : Int).toNat)).length), (50, num i), (51, .bool (decide ((i : Int) < (ss.take ((m : Int).toNat)).length))), (52, num i), (54, .agg [num x53.a, num x53.b].toArray), (55, .pointer (some ⟨bb, 0, none⟩)), (56, .pointer (some ⟨bb, 0, none⟩)), (57, .pointer (some ⟨bb, 0, none⟩)), (58, va0), (59, .pointer (some ⟨b3, 3, none⟩)), (60, vt), (61, num ts.length), (62, num i), (63, num (ts.length + i)), (66, a64), (67, va), (68, .pointer (some ⟨b16, 0, none⟩)), (69, num x53.a), (71, .agg [a70, b70, c70].toArray), (72, va), (73, .pointer (some ⟨b16, 1, none⟩)), (74, num x53.b), (76, .agg [a75, b75, c75].toArray), (77, a64), (78, .bool (pairB k p n (runA k p n ts op ss i) (runB k p n ts op ss i) (runK ts op ss i))), (79, .bool (!(pairB k p n (runA k p n ts op ss i) (runB k p n ts op ss i) (runK ts op ss i)))), (80, va), (81, .pointer (some ⟨b3, 0, none⟩)), (82, .agg [num k, num p, num n].toArray), (83, va), (84, .pointer (some ⟨b16, 0, none⟩)), (85, num x53.a), (87, .agg [a86, b86, c86].toArray), (88, va), (89, .pointer (some ⟨b16, 1, none⟩)), (90, num x53.b), (92, .agg [a91, b91, c91].toArray), (93, a64), (94, .agg [va94, vb94, vc94].toArray), (95, v95), (96, v96), (97, v97), (98, vb), (99, num ((runS ts op ss i).ixs.map Int.ofNat).length), (100, num z_.1)]) (fun z_ => [z_.2.2, h95, h94, box b16 [num x53.a, num x53.b] 191, (PUn hl (hp w)), h_r96, hb, box b3 [num k, num p, num n, vt, vo] 40]) (fun z_ => z_.1 ≤ ((runS ts op ss i).ixs.map Int.ofNat).length ∧ (IntsO ((((runS ts op ss i).ixs.map Int.ofNat).take z_.1).filter fun y => decide (y ≠ x53.a ∧ y ≠ x53.b)) z_.2.1 z_.2.2)) (fun z_ => ((runS ts op ss i).ixs.map Int.ofNat).length - z_.1) (0, v97, h97) (⟨by (try dsimp only); omega, r97⟩) ⟨rfl, rfl, rfl, rfl, rfl, rfl, rfl, rfl, rfl, rfl, (by first | rfl | exact ksub rfl (by first | omega | (simp; done) | (simp; omega))), rfl, rfl, rfl, rfl, rfl, rfl, rfl, rfl, rfl, rfl, rfl, rfl, rfl, rfl, rfl, rfl, rfl, rfl, rfl, rfl, rfl, rfl, rfl, rfl, rfl, rfl, rfl, rfl, rfl, rfl, rfl, rfl, rfl, rfl, rfl, rfl, rfl, rfl, rfl, rfl, rfl, rfl, rfl, rfl, rfl, (by first | rfl | exact ksub rfl (by first | omega | (simp; done) | (simp; omega))), trivial⟩ (fun _ s => s) ?_; rintro ⟨j, vn, hn⟩ ⟨hj, qn⟩; dsimp only at hj qn ⊢; have hle_qn := qn.toR.le; have hfl := filter_take_len ((runS ts op ss i).ixs.map Int.ofNat) (fun y => decide (y ≠ x53.a ∧ y ≠ x53.b)) j; have hxl : (runS ts op ss i).ixs.length ≤ (runS ts op ss i).all.length := by have := List.length_filter_le (fun i' => !(runS ts op ss i).gone.getD i' false) (List.range (runS ts op ss i).all.length); simpa [Sh.ixs] using this
        have hml : ((runS ts op ss i).ixs.map Int.ofNat).length = (runS ts op ss i).ixs.length := List.length_map _; refine wp_sc (wp_sq (sq_v rfl (v_lss rfl rfl) rfl (sq_end (qs_n (wp_sc ?_))))); refine wp_cd rfl (fun c101 => ?_) (fun c101 => ?_)
        · refine wp_sk (qs_n (wp_sc (wp_bl (wp_sc (wp_sq ?_))))); refine sq_v rfl (v_idxI Tryz.underlying25 ty_3 rfl rfl qb.toR (by first | omega | (simp; omega) | (simp only [List.length_append, List.length_cons, List.length_nil]; omega) | (rw [List.length_set]; omega)) (by first | omega | (simp; omega) | (simp only [List.length_append, List.length_cons, List.length_nil]; omega) | (rw [List.length_set]; omega))) rfl ?_; refine sq_v rfl (v_loadI (k := j) 6 ty_3 rfl rfl qb.toR (by first | omega | (simp; omega) | (simp only [List.length_append, List.length_cons, List.length_nil]; omega) | (rw [List.length_set]; omega))) rfl ?_; refine sq_v rfl (v_assign rfl) rfl (sq_end (qs_n (wp_sc (wp_sq (sq_v rfl (v_move rfl) rfl (sq_v rfl (v_fieldAddr fd_191_0 ty_3 (by decide) rfl) rfl (sq_v rfl (v_loadB 3 ty_3 rfl rfl rfl) rfl (sq_v rfl (v_neq rfl rfl) rfl ?_)))))))); refine sq_bd 107 rfl (fun c107 => ?_) (fun c107 => ?_)
          · refine sq_v rfl (v_move rfl) rfl (sq_v rfl (v_move rfl) rfl (sq_v rfl (v_fieldAddr fd_191_1 ty_3 (by decide) rfl) rfl (sq_v rfl (v_loadB 3 ty_3 rfl rfl rfl) rfl (sq_v rfl (v_neq rfl rfl) rfl (sq_v rfl (v_pickt rfl rfl) rfl (sq_end (qs_n ?_))))))); refine wp_cd rfl (fun c113 => ?_) (fun c113 => ?_)
            · refine wp_sq (sq_v rfl (v_move rfl) rfl (sq_v rfl (v_move rfl) rfl ?_)); refine sq_x rfl (x_buildS [num (((runS ts op ss i).ixs.map Int.ofNat).getD j 0)] Tryz.underlying25 ty_3 (by decide) rfl rfl rfl (by decide) (by decide) (by intro v hv; simp at hv; rcases hv with rfl <;> rfl)) rfl ?_; intro v116 h116 (r116 : IntsO [((runS ts op ss i).ixs.map Int.ofNat).getD j 0] v116 h116); refine sq_m 1 rfl rfl (m_appI 1 0 Tryz.underlying25 ty_3 rfl rfl rfl rfl qn rfl r116.toR (by first | omega | (simp; omega) | (simp only [List.length_append, List.length_cons, List.length_nil]; omega) | (rw [List.length_set]; omega))) rfl ?_; intro v117 h_r117 r117; refine sq_v rfl (v_assign rfl) rfl (sq_end (qs_bn (qs_n (wp_sq ?_)))); refine sq_v rfl (v_add rfl rfl ((by unfold I64; omega))) rfl ?_; refine sq_v rfl (v_move rfl) rfl (sq_end ?_); exact qs_bk (j + 1, v117, h_r117) ⟨by (try dsimp only); omega, by (try dsimp only); rw [filter_yes (by omega) (decide_eq_true ⟨by omega, by omega⟩)]; exact r117⟩ (by simp only; omega) ⟨rfl, rfl, rfl, rfl, rfl, rfl, rfl, rfl, rfl, rfl, (by first | rfl | exact ksub rfl (by first | omega | (simp; done) | (simp; omega))), rfl, rfl, rfl, rfl, rfl, rfl, rfl, rfl, rfl, rfl, rfl, rfl, rfl, rfl, rfl, rfl, rfl, rfl, rfl, rfl, rfl, rfl, rfl, rfl, rfl, rfl, rfl, rfl, rfl, rfl, rfl, rfl, rfl, rfl, rfl, rfl, rfl, rfl, rfl, rfl, rfl, rfl, rfl, rfl, rfl, (by first | rfl | exact ksub rfl (by first | omega | (simp; done) | (simp; omega))), trivial⟩ (fun _ s => s.pick [1, 2, 3, 4, 5, 6, 7, 8] (by decide) rfl)
            · refine wp_sk (qs_bn (qs_n (wp_sq ?_))); refine sq_v rfl (v_add rfl rfl ((by unfold I64; omega))) rfl ?_; refine sq_v rfl (v_move rfl) rfl (sq_end ?_); exact qs_bk (j + 1, vn, hn) ⟨by (try dsimp only); omega, by (try dsimp only); rw [filter_no (by omega) (decide_eq_false (by omega))]; exact qn⟩ (by simp only; omega) ⟨rfl, rfl, rfl, rfl, rfl, rfl, rfl, rfl, rfl, rfl, (by first | rfl | exact ksub rfl (by first | omega | (simp; done) | (simp; omega))), rfl, rfl, rfl, rfl, rfl, rfl, rfl, rfl, rfl, rfl, rfl, rfl, rfl, rfl, rfl, rfl, rfl, rfl, rfl, rfl, rfl, rfl, rfl, rfl, rfl, rfl, rfl, rfl, rfl, rfl, rfl, rfl, rfl, rfl, rfl, rfl, rfl, rfl, rfl, rfl, rfl, rfl, rfl, rfl, rfl, (by first | rfl | exact ksub rfl (by first | omega | (simp; done) | (simp; omega))), trivial⟩ (fun _ s => s)
          · refine sq_v rfl (v_move rfl) rfl (sq_s rfl rfl (sq_s rfl rfl (sq_s rfl rfl (sq_s rfl rfl (sq_v rfl (v_pickf rfl rfl) rfl (sq_end (qs_n (wp_cf rfl (wp_sk (qs_bn (qs_n (wp_sq ?_)))))))))))); refine sq_v rfl (v_add rfl rfl ((by unfold I64; omega))) rfl ?_; refine sq_v rfl (v_move rfl) rfl (sq_end ?_); exact qs_bk (j + 1, vn, hn) ⟨by (try dsimp only); omega, by (try dsimp only); rw [filter_no (by omega) (decide_eq_false (by omega))]; exact qn⟩ (by simp only; omega) ⟨rfl, rfl, rfl, rfl, rfl, rfl, rfl, rfl, rfl, rfl, (by first | rfl | exact ksub rfl (by first | omega | (simp; done) | (simp; omega))), rfl, rfl, rfl, rfl, rfl, rfl, rfl, rfl, rfl, rfl, rfl, rfl, rfl, rfl, rfl, rfl, rfl, rfl, rfl, rfl, rfl, rfl, rfl, rfl, rfl, rfl, rfl, rfl, rfl, rfl, rfl, rfl, rfl, rfl, rfl, rfl, rfl, rfl, rfl, rfl, rfl, rfl, rfl, rfl, rfl, (by first | rfl | exact ksub rfl (by first | omega | (simp; done) | (simp; omega))), trivial⟩ (fun _ s => s)
        · refine wp_ex (qs_x (qs_x (qs_bx (qs_n (wp_sq (sq_v rfl (v_move rfl) rfl (sq_v rfl (v_move rfl) rfl (sq_v rfl (v_len Tryz.underlying38 rfl r96.toR.sl) rfl ?_)))))))); refine sq_v rfl (v_sub rfl rfl ((by unfold I64; omega))) rfl ?_; refine sq_x rfl (x_buildS [num (((((runTo k p n ts op ss i).length + 1) : Nat) - 1))] Tryz.underlying25 ty_3 (by decide) rfl rfl rfl (by decide) (by decide) (by intro v hv; simp at hv; rcases hv with rfl <;> rfl)) rfl ?_; intro v123 h123 (r123 : IntsO [((((runTo k p n ts op ss i).length + 1) : Nat) - 1)] v123 h123); refine sq_m 1 rfl rfl (m_appI 1 0 Tryz.underlying25 ty_3 rfl rfl rfl rfl qn rfl r123.toR (by first | omega | (simp; omega) | (simp only [List.length_append, List.length_cons, List.length_nil]; omega) | (rw [List.length_set]; omega))) rfl ?_; intro v124 h_r124 r124; refine sq_v rfl (v_assign rfl) rfl (sq_end (qs_bn (qs_n (wp_sq ?_)))); refine sq_v rfl (v_add rfl rfl ((by unfold I64; omega))) rfl ?_; refine sq_v rfl (v_move rfl) rfl (sq_end ?_); refine qs_dj 5 3 rfl rfl rfl (fun hdm => ?_); have hd1 : PDj hl h94 := hdm.mono (PLe.un_l _ _); have hd2 : PDj h94 (hp w) := (hdm.mono (PLe.un_r hdj)).symm; have hdjN : PDj (PUn hl h94) (hp w) := PDj.un hdj hd2; have hd3 : PDj (PUn hl h94) q := (hdjN.symm.mono lq).symm; have hle94 : PLe h94 (PUn (PUn hl h94) q) := (PLe.un_r hd1).trans (PLe.un_l _ _); have hlv2 : TensL (runTo k p n ts op ss (i + 1)) (cs ++ [va94, vb94, vc94]) (PUn (PUn hl h94) q) := by rw [runTo_step]; exact (hlv.mono (PUn.mono_l (PLe.un_l _ _) hd3)).snoc (o94.toR.1.mono hle94) (o94.toR.2.1.mono hle94) (o94.toR.2.2.mono hle94)
          have hix := ixs_step (x := x53) hs1 hfs.1 ⟨hx0, hy0⟩; rw [List.take_of_length_le (by omega)] at r124; rw [show (((runTo k p n ts op ss i).length + 1 : Nat) : Int) - 1 = ((runS ts op ss i).all.length : Int) by omega] at r124; exact qs_bk (i + 1, v96, h_r96, cs ++ [va94, vb94, vc94], v124, h_r124, PUn hl h94) ⟨by (try dsimp only); rw [List.length_take]; omega, step_all hfit hpf, hdjN, hle.trans (PLe.un_l _ _), hlv2, by (try dsimp only); rw [runTo_step, List.length_append]; exact r96, by (try dsimp only); rw [hix]; exact r124⟩ (by simp only; omega) ⟨rfl, rfl, rfl, rfl, rfl, (by first | rfl | exact ksub rfl (by first | omega | (simp; done) | (simp; omega))), (by first | rfl | exact ksub rfl (by first | omega | (simp; done) | (simp; omega))), rfl, rfl, (by first | rfl | exact ksub rfl (by first | omega | (simp; done) | (simp; omega))), trivial⟩ (fun _ s => Sat.merge (Sat.merge ((Sat.part hdj (s.pick (HS' := [PUn hl (hp w), h94, h_r96, h_r124, box b3 [num k, num p, num n, vt, vo] 40]) [5, 3, 6, 1, 8] (by decide) rfl)).pick (HS' := [hl, h94, hp w, h_r96, h_r124, box b3 [num k, num p, num n, vt, vo] 40]) [0, 2, 1, 3, 4, 5] (by decide) rfl)))
    · refine wp_ex (qs_x (qs_x (qs_bx (qs_n (wp_sc (wp_sq (sq_v rfl (v_move rfl) rfl (sq_v rfl (v_move rfl) rfl (sq_v rfl (v_assign rfl) rfl (sq_v rfl (v_assign rfl) rfl (sq_v rfl (v_assign rfl) rfl (sq_end (qs_n (wp_rt ?_)))))))))))))); have ei : i = (m : Int).toNat := by have : ¬ i < (ss.take (m : Int).toNat).length := (by omega); rw [List.length_take] at this; omega
      refine qs_s [hl, hp w, ha, hb] (fun _ s => Sat.part hdj (s.pick [0, 1, 2] (by decide) rfl)) ?_; refine qs_close [hp w] [ha, hb, hl] (fun _ s => s.pick [1, 2, 3, 0] (by decide) rfl) (fun md => ?_); exact qs_ret3 rfl rfl rfl rfl (fin_t 0 (i := 1) rfl rfl rfl ⟨va, vb, true, rfl, ⟨fun _ => by rw [← ei]; exact hfit, fun _ => rfl⟩, fun _ => ⟨cs, ha, hb, hl, by rw [← ei]; exact rr, by rw [← ei]; exact qb, by rw [← ei]; exact hlv, md⟩⟩)
end Go.Proofs.YthlmjnihihbckaaGreat
namespace Go.Proofs.YthlmjnihihbckaaGreat
set_option maxRecDepth 100000
open Go.RowKit
theorem run_read {k p n m : Int} {ts : List Ten} {op : List Int} {ss : List Stp} {q h H : PH} {va vb : Value} (e : ∃ cs ha hb hs, RowO 34 cs (runTo k p n ts op ss m.toNat).length 3 va ha ∧ IntsO ((runS ts op ss m.toNat).ixs.map Int.ofNat) vb hb ∧ TensL (runTo k p n ts op ss m.toNat) cs (PUn hs q) ∧ Made h [ha, hb, hs]) (l : PLe h H) (lq : PLe q H) :
    TensR (runTo k p n ts op ss m.toNat) va H ∧ IntsR ((runS ts op ss m.toNat).ixs.map Int.ofNat) vb H := by
  obtain ⟨cs, ha, hb, hs, r1, r2, r3, md⟩ := e; exact ⟨(r3.mono (PUn.le ((md.le hs (by simp)).trans l) lq)).tens (r1.toR.mono ((md.le ha (by simp)).trans l)), r2.toR.mono ((md.le hb (by simp)).trans l)⟩
end Go.Proofs.YthlmjnihihbckaaGreat
namespace Go.Proofs.YthlmjnihihbckaaGreat
set_option maxRecDepth 100000
open Go.RowKit
theorem con_out {k p n : Int} {ts : List Ten} {op : List Int} {ss : List Stp} (h : conP k p n ts op ss) : partTs k p n ts op ss ss.length = outTo k p n ts op ss ss.length ∧ partOp k p n ts op ss ss.length = op ∧ partB k p n ts op ss ss.length = true ∧ ((outTo k p n ts op ss ss.length).length = 0 ↔ ts.length = 0) := by
  have hB := partB_true.2 (con_part.2 h); refine ⟨by rw [partTs, hB, Int.toNat_natCast]; rfl, by rw [partOp, hB]; rfl, hB, ?_⟩
  by_cases hn : ts.length = 0
  · have hs := h.1.2.1; have e : ss.length = 0 := by omega
    rw [e, out_zero]
  · rw [(h.last hn).2]
    simp [hn]
set_option maxHeartbeats 4000000 in
theorem ct_i_Contract (k p n : Int) (ts : List Ten) (op : List Int) (ss : List Stp) (vt vo v : Value) (w : World) (r : TensR ts vt (hp w)) (r' : IntsR op vo (hp w)) (rv : StepsR ss v (hp w)) (hs : op.length ≤ 1048576) :
    Calls Tryz.prog 115 [netV k p n vt vo, v].toArray w (Ret w emp (TenB (conR k p n ts op ss) (conB k p n ts op ss))) := by
  refine calls_in Tryz.func115 rfl Tryz.ntmps115 rfl (Sat.start w) ?_; have hle0 := r.le; obtain ⟨cs_r, rr_r, hc_r⟩ := r.at; have hle1 := r'.le; have hle2 := rv.le; obtain ⟨cs_rv, rr_rv, hc_rv⟩ := rv.at; refine wp_sc (wp_sq ?_); refine sq_x rfl (x_box rfl rfl) rfl ?_; rintro _ _ ⟨b2, rfl, rfl⟩; refine sq_x rfl (x_alloc ty_34 rfl) rfl ?_; rintro _ _ ⟨b4, rfl, rfl⟩; refine sq_v rfl (v_assign rfl) rfl (sq_end (qs_n (wp_sc (wp_sq (sq_v rfl (v_loadNB 1 ty_40 rfl rfl rfl rfl) rfl (sq_v rfl (v_move rfl) rfl (sq_v rfl (v_move rfl) rfl (sq_v rfl (v_len Tryz.underlying126 rfl rv.sl) rfl ?_)))))))); refine sq_x rfl (x_call rfl en_208 (fun w s => ct_L_iPartial _ _ _ _ _ _ _ _ _ _ w (r.mono (s.get 2 rfl)) (r'.mono (s.get 2 rfl)) (rv.mono (s.get 2 rfl)) (by first | assumption | omega))) rfl ?_; rintro _ h13 ⟨vt13, vo13, rfl, o13⟩; obtain ⟨cs_T_13, rr_T_13, hc_T_13⟩ := o13.toR.1.at; refine sq_v rfl (v_move rfl) rfl (sq_v rfl (v_extract rfl rfl) rfl (sq_v rfl (v_extract rfl rfl) rfl ?_)); refine sq_x rfl (x_alloc ty_40 rfl) rfl ?_; rintro _ _ ⟨b6, rfl, rfl⟩; refine sq_m 0 rfl rfl (m_store 0 ty_40 rfl rfl rfl rfl (by simp [one_int, o13.toR.1.sl.one, o13.toR.2.sl.one]) rfl (Nat.le_of_ble_eq_true rfl)) rfl ?_; rintro _ _ ⟨rfl, rfl⟩; refine sq_v rfl (v_assign rfl) rfl (sq_end (qs_n (wp_sc (wp_sc (wp_sq (sq_v rfl (v_move rfl) rfl (sq_v rfl (v_not rfl) rfl (sq_end (qs_n ?_))))))))); refine wp_cn _ rfl (fun c17 => ?_) (fun c17 => ?_)
  · refine wp_sc (wp_sq (sq_v rfl (v_build [.slice none 0 0, .slice none 0 0, .slice none 0 0] rfl (by kernel_rfl)) rfl ?_)); refine sq_m 2 rfl rfl (m_store 2 ty_34 rfl rfl rfl rfl (by simp [one_sl]) rfl (Nat.le_of_ble_eq_true rfl)) rfl ?_; rintro _ _ ⟨rfl, rfl⟩; refine sq_v rfl (v_assign rfl) rfl (sq_end (qs_n (wp_rt (qs_r ?_)))); exact qs_retct 2 rfl ty_34 rfl rfl rfl rfl (fin_e (i := 4) rfl (ConNo (fun h => by rw [(con_out h).2.2.1] at c17; cases c17)))
  · refine wp_sk (qs_n (wp_sc (wp_sc (wp_sq ?_)))); have hcon := con_part.1 (partB_true.1 c17); have hout := con_out hcon; have hring := hcon.1.1.1; rw [hout.1] at o13 hc_T_13 rr_T_13; refine sq_v rfl (v_fieldAddr fd_40_1 ty_38 (by decide) rfl) rfl (sq_v rfl (v_loadB 0 ty_38 rfl rfl rfl) rfl (sq_v rfl (v_len Tryz.underlying38 rfl o13.toR.1.sl) rfl (sq_v rfl (v_eql rfl rfl) rfl (sq_end (qs_n ?_))))); refine wp_cd rfl (fun c22 => ?_) (fun c22 => ?_)
    · refine wp_sc (wp_sq (sq_v rfl (v_fieldAddr fd_40_0 ty_37 (by decide) rfl) rfl (sq_v rfl (v_loadNB 3 ty_37 rfl rfl rfl rfl) rfl ?_))); refine sq_x rfl (x_call rfl en_103 (fun w s => ct_i_scalarOne _ _ _ w (by first | assumption | omega))) rfl ?_; rintro _ h25 ⟨va25, vb25, vc25, rfl, o25⟩; refine sq_m 3 rfl rfl (m_store 3 ty_34 rfl rfl rfl rfl (by simp [o25.toR.1.sl.one, o25.toR.2.1.sl.one, o25.toR.2.2.sl.one]) rfl (Nat.le_of_ble_eq_true rfl)) rfl ?_; rintro _ _ ⟨rfl, rfl⟩; refine sq_v rfl (v_assign rfl) rfl (sq_end (qs_n (wp_rt (qs_r ?_)))); exact qs_retct 3 rfl ty_34 rfl rfl rfl rfl (fin_t 0 (i := 5) rfl rfl rfl (ConYes hcon (by rw [conT, if_pos (by rw [← hout.2.2.2]; omega)]; exact o25)))
    · refine wp_sk (qs_n (wp_sc (wp_rj 8 [(0, true), (1, true), (2, true), (3, true), (4, true), (5, false), (6, true), (7, true), (8, false), (9, false)] mixed_ok (by kernel_rfl) (rj_v rfl rfl (v_loadNB 3 ty_40 rfl rfl rfl rfl) rfl (rj_v rfl rfl (v_fieldAddr fd_40_1 ty_38 (by decide) rfl) rfl (rj_v rfl rfl (v_loadB 0 ty_38 rfl rfl rfl) rfl ?_)))))); obtain ⟨t29, a29, b29, c29, ht29, hcs29, rl29, rd29, rx29⟩ := hc_T_13 (0) (by first | omega | (rw [List.length_set]; omega));  have hn0 : ts.length ≠ 0 := (fun e => c22 (by rw [hout.2.2.2.2 e]; rfl)); obtain ⟨hfin, hlast⟩ := hcon.last hn0; have hol : (outTo k p n ts op ss ss.length).length = 1 := (by rw [hlast]; rfl)
      refine rj_v rfl rfl (v_indexAddr Tryz.underlying38 ty_34 rfl rfl rr_T_13 (by decide) (by omega) (by omega)) rfl ?_; refine rj_v rfl rfl (v_loadNE 1 ty_34 rfl rfl rr_T_13 (by have := rr_T_13.1; omega) rfl hcs29) rfl ?_; have e29 : t29 = lastT k p n ts op ss := (by rw [hlast] at ht29; simpa using ht29.symm); subst e29; refine rj_x rfl rfl (x_call rfl en_74 (fun w s => ct_i_FinishTensor _ _ _ _ _ _ _ _ _ _ _ w (r.mono (s.get 4 rfl)) (r'.mono (s.get 4 rfl)) (rl29.mono (s.get 1 rfl)) (rd29.mono (s.get 1 rfl)) (rx29.mono (s.get 1 rfl)) (by first | assumption | omega))) rfl ?_; rintro _ h31 ⟨va31, vb31, vc31, rfl, o31⟩; refine rj_v rfl rfl (v_extract rfl rfl) rfl (rj_v rfl rfl (v_extract rfl rfl) rfl ?_); refine rj_m 3 rfl rfl rfl rfl (m_store 3 ty_34 rfl rfl rfl rfl (by simp [o31.toR.1.sl.one, o31.toR.2.1.sl.one, o31.toR.2.2.sl.one]) rfl (Nat.le_of_ble_eq_true rfl)) rfl ?_; rintro _ _ ⟨rfl, rfl⟩; refine rj_fv rfl rfl (v_assign rfl) rfl (rj_end ?_); have hfb : finB k p n ts op (lastT k p n ts op ss) = true := by simp [finB, hfin]
      rw [finR, if_pos hfin] at o31; refine qs_n (wp_rt ?_); exact qs_retct 3 rfl ty_34 rfl rfl rfl rfl (fin_t 0 (i := 5) rfl rfl rfl (by rw [hfb]; exact ConYes hcon (by rw [conT, if_neg hn0]; exact o31)))
set_option maxHeartbeats 4000000 in
theorem ct_s_Contract (k p n : Int) (ts : List Ten) (op : List Int) (ss : List Stp) (vt vo v : Value) (w : World) (r : TensR ts vt (hp w)) (r' : IntsR op vo (hp w)) (rv : StepsR ss v (hp w)) (hs : op.length ≤ 1048576) (hss : ss.length ≤ 1048576) :
    Calls Tryz.prog 110 [netV k p n vt vo, v].toArray w (Ret w emp (TenB (conR k p n ts op ss) (conB k p n ts op ss))) := by
  refine calls_in Tryz.func110 rfl Tryz.ntmps110 rfl (Sat.start w) ?_; have hle0 := r.le; obtain ⟨cs_r, rr_r, hc_r⟩ := r.at; have hle1 := r'.le; have hle2 := rv.le; obtain ⟨cs_rv, rr_rv, hc_rv⟩ := rv.at; refine wp_sc (wp_sq ?_); refine sq_x rfl (x_box rfl rfl) rfl ?_; rintro _ _ ⟨b2, rfl, rfl⟩; refine sq_x rfl (x_alloc ty_34 rfl) rfl ?_; rintro _ _ ⟨b4, rfl, rfl⟩; refine sq_v rfl (v_assign rfl) rfl (sq_end (qs_n (wp_sc (wp_sc (wp_sq (sq_v rfl (v_loadNB 1 ty_40 rfl rfl rfl rfl) rfl (sq_v rfl (v_move rfl) rfl (sq_u rfl (x_callv rfl en_204 (fun w s => ct_s_OrderOk _ _ _ _ _ _ _ _ _ w (r.mono (s.get 2 rfl)) (r'.mono (s.get 2 rfl)) (rv.mono (s.get 2 rfl)) (by first | assumption | omega) (by first | assumption | omega))) rfl (sq_v rfl (v_not rfl) rfl (sq_end (qs_n ?_))))))))))); refine wp_cn _ rfl (fun c12 => ?_) (fun c12 => ?_)
  · refine wp_sc (wp_sq (sq_v rfl (v_build [.slice none 0 0, .slice none 0 0, .slice none 0 0] rfl (by kernel_rfl)) rfl ?_)); refine sq_m 0 rfl rfl (m_store 0 ty_34 rfl rfl rfl rfl (by simp [one_sl]) rfl (Nat.le_of_ble_eq_true rfl)) rfl ?_; rintro _ _ ⟨rfl, rfl⟩; refine sq_v rfl (v_assign rfl) rfl (sq_end (qs_n (wp_rt (qs_r ?_)))); exact qs_retct 0 rfl ty_34 rfl rfl rfl rfl (fin_e (i := 2) rfl (ConNo (fun h => orderB_false.1 c12 h.1)))
  · refine wp_sk (qs_n (wp_sc (wp_sc (wp_sq ?_)))); have hord := orderB_true.1 c12; have hnet := hord.1; have h12 := hnet.2.1; have hring := hnet.1; have hst0 := few_steps (net_axes hnet) hord.2.2; refine sq_v rfl (v_fieldAddr fd_40_1 ty_38 (by decide) rfl) rfl (sq_v rfl (v_loadB 1 ty_38 rfl rfl rfl) rfl (sq_v rfl (v_len Tryz.underlying38 rfl r.sl) rfl (sq_v rfl (v_eql rfl rfl) rfl (sq_end (qs_n ?_))))); refine wp_cd rfl (fun c17 => ?_) (fun c17 => ?_)
    · refine wp_sc (wp_sq (sq_v rfl (v_fieldAddr fd_40_0 ty_37 (by decide) rfl) rfl (sq_v rfl (v_loadNB 1 ty_37 rfl rfl rfl rfl) rfl ?_))); refine sq_x rfl (x_call rfl en_99 (fun w s => ct_s_l02One _ _ _ w (by first | assumption | omega))) rfl ?_; rintro v20 h20 r20; refine sq_v rfl (v_build [.slice none 0 0, .slice none 0 0, v20] rfl (by obtain ⟨_, _, rfl⟩ := r20.toR.sl; kernel_rfl)) rfl ?_; refine sq_m 1 rfl rfl (m_store 1 ty_34 rfl rfl rfl rfl (by simp [one_sl, r20.toR.sl.one]) rfl (Nat.le_of_ble_eq_true rfl)) rfl ?_; rintro _ _ ⟨rfl, rfl⟩; refine sq_v rfl (v_assign rfl) rfl (sq_end (qs_n (wp_rt (qs_r ?_)))); refine qs_close [box b4 _ _, hp w] [emp, emp, h20] (fun _ s => by have s1 := emp_sat (emp_sat (s.pick (HS' := [h20, box b4 [.slice none 0 0, .slice none 0 0, v20] 34, hp w]) [0, 1, 3] (by decide) rfl)); exact s1.pick [3, 4, 0, 1, 2] (by decide) rfl) (fun md => ?_); exact qs_retct 1 rfl ty_34 rfl rfl rfl rfl (fin_t 0 (i := 2) rfl rfl rfl (ConYes ⟨hord, fun j hj => by have := hord.2.1; omega⟩ (by rw [conT, if_pos (by omega)]; exact ⟨_, _, _, IntsO.nil, IntsO.nil, r20, md⟩)))
    · refine wp_sk (qs_n (wp_sc (wp_sq (sq_v rfl (v_loadNB 1 ty_40 rfl rfl rfl rfl) rfl (sq_v rfl (v_move rfl) rfl (sq_v rfl (v_move rfl) rfl (sq_v rfl (v_len Tryz.underlying126 rfl rv.sl) rfl ?_))))))); refine sq_x rfl (x_call rfl en_205 (fun w s => ct_s_l18Run _ _ _ _ _ _ _ _ _ _ w _ (s.get 2 rfl) r (r'.mono (s.get 2 rfl)) (rv.mono (s.get 2 rfl)) hord (by omega) (by first | assumption | omega))) rfl ?_; rintro _ h27 ⟨va, vb, bb, rfl, hbb, hyes⟩; refine sq_v rfl (v_move rfl) rfl (sq_v rfl (v_extract rfl rfl) rfl (sq_v rfl (v_extract rfl rfl) rfl (sq_v rfl (v_extract rfl rfl) rfl (sq_v rfl (v_assign rfl) rfl (sq_v rfl (v_assign rfl) rfl (sq_v rfl (v_assign rfl) rfl (sq_end (qs_n (wp_sc (wp_sc (wp_sq (sq_v rfl (v_move rfl) rfl (sq_v rfl (v_not rfl) rfl (sq_end ?_)))))))))))))); refine qs_dj 0 3 rfl rfl rfl (fun hdj => ?_); refine qs_s [PUn h27 (hp w), box b4 [.slice none 0 0, .slice none 0 0, .slice none 0 0] 34, box b2 [num k, num p, num n, vt, vo] 40] (fun _ s => Sat.merge (s.pick [0, 3, 1, 2] (by decide) rfl)) ?_; obtain ⟨cs__r_mono__PLe_un_r_hdj__, rr__r_mono__PLe_un_r_hdj__, hc__r_mono__PLe_un_r_hdj__⟩ := (r.mono (PLe.un_r hdj)).at; refine qs_n ?_; refine wp_cn _ rfl (fun c32 => ?_) (fun c32 => ?_)
      · refine wp_sc (wp_sq (sq_v rfl (v_build [.slice none 0 0, .slice none 0 0, .slice none 0 0] rfl (by kernel_rfl)) rfl ?_)); refine sq_m 1 rfl rfl (m_store 1 ty_34 rfl rfl rfl rfl (by simp [one_sl]) rfl (Nat.le_of_ble_eq_true rfl)) rfl ?_; rintro _ _ ⟨rfl, rfl⟩; refine sq_v rfl (v_assign rfl) rfl (sq_end (qs_n (wp_rt (qs_r (qs_s [h27, hp w, box b4 [.slice none 0 0, .slice none 0 0, .slice none 0 0] 34] (fun _ s => Sat.part hdj (s.pick [0, 1] (by decide) rfl)) ?_))))); exact qs_retct 2 rfl ty_34 rfl rfl rfl rfl (fin_e (i := 1) rfl (ConNo (fun h => by have := hbb.2 (fun j hj => h.2 j (by omega)); rw [c32] at this; cases this)))
      · refine wp_sk (qs_n (wp_sc (wp_rj 8 [(0, true), (1, true), (2, true), (3, true), (4, true), (5, true), (6, true), (7, false), (8, false), (9, false)] mixed_ok (by kernel_rfl) ?_))); have hcon : conP k p n ts op ss := ⟨hord, fun j hj => hbb.1 c32 j (by omega)⟩; obtain ⟨hTa, hIx⟩ := run_read (q := hp w) (H := PUn h27 (hp w)) (hyes c32) (PLe.un_l _ _) (PLe.un_r hdj); rw [Int.toNat_natCast] at hTa; have hrl := (run_ok hord ss.length (Nat.le_refl _) hcon.2).len; obtain ⟨hfin, hlast⟩ := hcon.last (by omega); have hnd := (net_open hnet).1; obtain ⟨cs_hTa, rr_hTa, hc_hTa⟩ := hTa.at; refine rj_v rfl rfl (v_loadNB 2 ty_40 rfl rfl rfl rfl) rfl (rj_v rfl rfl (v_move rfl) rfl (rj_v rfl rfl (v_move rfl) rfl (rj_v rfl rfl (v_len Tryz.underlying38 rfl hTa.sl) rfl ?_))); refine rj_v rfl rfl (v_sub rfl rfl ((by unfold I64; omega))) rfl ?_; obtain ⟨t39, a39, b39, c39, ht39, hcs39, rl39, rd39, rx39⟩ := hc_hTa (((runTo k p n ts op ss ss.length).length - 1 : Int).toNat) (by first | omega | (rw [List.length_set]; omega)); refine rj_v rfl rfl (v_indexAddr Tryz.underlying38 ty_34 rfl rfl rr_hTa (by decide) (by omega) (by omega)) rfl ?_; refine rj_v rfl rfl (v_loadNE 0 ty_34 rfl rfl rr_hTa (by have := rr_hTa.1; omega) rfl hcs39) rfl ?_; have e39 : t39 = lastT k p n ts op ss := (by rw [lastT, ← hrl]; simp only [List.getD]; rw [show ((runTo k p n ts op ss ss.length).length : Int) - 1 = (((runTo k p n ts op ss ss.length).length - 1 : Nat) : Int) by omega, Int.toNat_natCast] at ht39; rw [ht39]; rfl); subst e39; refine rj_x rfl rfl (x_call rfl en_67 (fun w s => ct_s_l18Finish _ _ _ _ _ _ _ _ _ _ _ w ((r.mono (PLe.un_r hdj)).mono (s.get 0 rfl)) ((r'.mono (PLe.un_r hdj)).mono (s.get 0 rfl)) (rl39.mono (s.get 0 rfl)) (rd39.mono (s.get 0 rfl)) (rx39.mono (s.get 0 rfl)) hfin.2.1 hnd hfin.2.2)) rfl ?_; rintro _ h41 ⟨va41, vb41, vc41, rfl, o41⟩; refine rj_m 2 rfl rfl rfl rfl (m_store 2 ty_34 rfl rfl rfl rfl (by simp [o41.toR.1.sl.one, o41.toR.2.1.sl.one, o41.toR.2.2.sl.one]) rfl (Nat.le_of_ble_eq_true rfl)) rfl ?_; rintro _ _ ⟨rfl, rfl⟩; refine rj_fv rfl rfl (v_assign rfl) rfl (rj_end (qs_n (wp_rt (qs_s [h27, hp w, h41, box b4 [va41, vb41, vc41] 34] (fun _ s => Sat.part hdj (s.pick [1, 0, 2] (by decide) rfl)) ?_)))); exact qs_retct 3 rfl ty_34 rfl rfl rfl rfl (fin_t 2 (i := 1) rfl rfl rfl (ConYes hcon (by rw [conT, if_neg (by omega)]; exact o41)))
end Go.Proofs.YthlmjnihihbckaaGreat
namespace Go.Proofs.YthlmjnihihbckaaGreat
set_option maxRecDepth 100000
open Go.RowKit
theorem ct_s_l17Plain (m : Nat) (w : World) (hm : m ≤ 100000) : Calls Tryz.prog 111 [num m].toArray w (Ret w emp (StepsO (plainL m))) := by
  refine calls_in Tryz.func111 rfl Tryz.ntmps111 rfl (Sat.start w) (wp_sc (wp_sq (sq_v rfl (v_assign rfl) rfl (sq_end (qs_n (wp_sc (wp_sq ?_))))))); refine sq_x rfl (x_build0 Tryz.underlying126 ty_191) rfl ?_; intro v5 h5 r5; refine sq_v rfl (v_assign rfl) rfl (sq_end (qs_n (wp_sc (wp_sc (wp_sq (sq_v rfl (v_assign rfl) rfl (sq_end (qs_n (wp_bl ?_))))))))); refine wp_lp (σ := Nat × Value × PH) (fun z_ => [(0, num m), (2, .slice none 0 0), (3, z_.2.1), (4, num ((z_.1 : Int) + 1))]) (fun z_ => [z_.2.2, hp w]) (fun z_ => z_.1 ≤ m - 1 ∧ StepsO (plainTo m z_.1) z_.2.1 z_.2.2) (fun z_ => m - 1 - z_.1) (0, v5, h5) (⟨by (try dsimp only); omega, r5⟩) ⟨rfl, rfl, (by first | rfl | exact ksub rfl (by first | omega | (simp; done) | (simp; omega))), (by first | rfl | exact ksub rfl (by first | omega | (simp; done) | (simp; omega))), trivial⟩ (fun _ s => s) ?_; rintro ⟨i, lv, lh⟩ ⟨hi, q⟩; dsimp only at hi q ⊢; obtain ⟨cs_q, rr_q, hc_q⟩ := q.toR.at; have hle_q := q.toR.le; have hpl := plain_len m i; refine wp_sc (wp_sc (wp_sq (sq_v rfl (v_move rfl) rfl (sq_v rfl (v_move rfl) rfl (sq_v rfl (v_lss rfl rfl) rfl (sq_end (qs_n ?_))))))); refine wp_cd rfl (fun c8 => ?_) (fun c8 => ?_)
  · refine wp_sk (qs_n (wp_sc (wp_bl (wp_sc (wp_sq (sq_v rfl (v_move rfl) rfl (sq_v rfl (v_eql rfl rfl) rfl (sq_end (qs_n ?_))))))))); refine wp_cd rfl (fun c12 => ?_) (fun c12 => ?_)
    · refine wp_sq (sq_v rfl (v_move rfl) rfl (sq_v rfl (v_build [num 0, num 1] rfl (by kernel_rfl)) rfl ?_)); refine sq_x rfl (x_buildS [.agg [num 0, num 1].toArray] Tryz.underlying126 ty_191 (by decide) rfl rfl rfl (by decide) (by decide) (by intro v hv; simp at hv; subst hv; rfl)) rfl ?_; intro v15 h15 (r15 : RowO 191 [num 0, num 1] 1 2 v15 h15); refine sq_m 1 rfl rfl (m_appS (ss := (plainTo m i)) (us := ([⟨(0), (1)⟩] : List Stp)) 1 0 Tryz.underlying126 ty_191 rfl rfl rfl rfl q rfl r15.toR (by first | omega | (simp; omega) | (simp only [List.length_append, List.length_cons, List.length_nil]; omega) | (rw [List.length_set]; omega))) rfl ?_; intro v16 h_r16 r16; obtain ⟨cs_S_16, rr_S_16, hc_S_16⟩ := r16.toR.at; refine sq_v rfl (v_assign rfl) rfl (sq_end (qs_bn (qs_n (wp_sq (sq_v rfl (v_move rfl) rfl ?_))))); refine sq_v rfl (v_add rfl rfl ((by unfold I64; omega))) rfl ?_; refine sq_v rfl (v_assign rfl) rfl (sq_end ?_); exact qs_bk (i + 1, v16, h_r16) ⟨by (try dsimp only); omega, by (try dsimp only); rw [plain_step, plainAt, if_pos (by omega)]; exact r16⟩ (by simp only; omega) ⟨rfl, rfl, (by first | rfl | exact ksub rfl (by first | omega | (simp; done) | (simp; omega))), (by first | rfl | exact ksub rfl (by first | omega | (simp; done) | (simp; omega))), trivial⟩ (fun _ s => s.pick [1, 2] (by decide) rfl)
    · refine wp_sq (sq_v rfl (v_move rfl) rfl (sq_v rfl (v_move rfl) rfl (sq_v rfl (v_move rfl) rfl (sq_v rfl (v_move rfl) rfl ?_)))); refine sq_v rfl (v_add rfl rfl ((by unfold I64; omega))) rfl ?_; refine sq_v rfl (v_sub rfl rfl ((by unfold I64; omega))) rfl ?_; refine sq_v rfl (v_build [num ((i : Int) + 1), num ((m + ((i : Int) + 1)) - 2)] rfl (by kernel_rfl)) rfl ?_; refine sq_x rfl (x_buildS [.agg [num ((i : Int) + 1), num ((m + ((i : Int) + 1)) - 2)].toArray] Tryz.underlying126 ty_191 (by decide) rfl rfl rfl (by decide) (by decide) (by intro v hv; simp at hv; subst hv; rfl)) rfl ?_; intro v24 h24 (r24 : RowO 191 [num ((i : Int) + 1), num ((m + ((i : Int) + 1)) - 2)] 1 2 v24 h24); refine sq_m 1 rfl rfl (m_appS (ss := (plainTo m i)) (us := ([⟨((i : Int) + 1), ((m + ((i : Int) + 1)) - 2)⟩] : List Stp)) 1 0 Tryz.underlying126 ty_191 rfl rfl rfl rfl q rfl r24.toR (by first | omega | (simp; omega) | (simp only [List.length_append, List.length_cons, List.length_nil]; omega) | (rw [List.length_set]; omega))) rfl ?_; intro v25 h_r25 r25; obtain ⟨cs_S_25, rr_S_25, hc_S_25⟩ := r25.toR.at; refine sq_v rfl (v_assign rfl) rfl (sq_end (qs_bn (qs_n (wp_sq (sq_v rfl (v_move rfl) rfl ?_))))); refine sq_v rfl (v_add rfl rfl ((by unfold I64; omega))) rfl ?_; refine sq_v rfl (v_assign rfl) rfl (sq_end ?_); exact qs_bk (i + 1, v25, h_r25) ⟨by (try dsimp only); omega, by (try dsimp only); rw [plain_step, plainAt, if_neg (by omega)]; rw [show (m : Int) + ((i : Int) + 1) - 2 = (m : Int) + i - 1 by omega] at r25; exact r25⟩ (by simp only; omega) ⟨rfl, rfl, (by first | rfl | exact ksub rfl (by first | omega | (simp; done) | (simp; omega))), (by first | rfl | exact ksub rfl (by first | omega | (simp; done) | (simp; omega))), trivial⟩ (fun _ s => s.pick [1, 2] (by decide) rfl)
  · refine wp_ex (qs_x (qs_x (qs_bx (qs_n (wp_sc (wp_sq (sq_v rfl (v_move rfl) rfl (sq_v rfl (v_assign rfl) rfl (sq_end (qs_n (wp_rt ?_))))))))))); exact qs_ret1 rfl rfl (fin_t 0 (i := 1) rfl rfl rfl (by rw [plainL, show m - 1 = i by omega]; exact q))
theorem ct_i_PlainOrder (k p n : Int) (ts : List Ten) (op : List Int) (vt vo : Value) (w : World) (r : TensR ts vt (hp w)) (r' : IntsR op vo (hp w)) (hs : op.length ≤ 1048576) :
    Calls Tryz.prog 116 [netV k p n vt vo].toArray w (Ret w emp (StepsO (ifB (netB k p n ts op) (plainL ts.length) []))) := by
  refine calls_in Tryz.func116 rfl Tryz.ntmps116 rfl (Sat.start w) ?_; have hle0 := r.le; obtain ⟨cs_r, rr_r, hc_r⟩ := r.at; have hle1 := r'.le; refine wp_sc (wp_sq ?_); refine sq_x rfl (x_box rfl rfl) rfl ?_; rintro _ _ ⟨b1, rfl, rfl⟩; refine sq_v rfl (v_assign rfl) rfl (sq_end (qs_n (wp_sc (wp_sc (wp_sq (sq_v rfl (v_loadNB 0 ty_40 rfl rfl rfl rfl) rfl (sq_u rfl (x_callv rfl en_42 (fun w s => ct_i_NetworkOk _ _ _ _ _ _ _ w (r.mono (s.get 1 rfl)) (r'.mono (s.get 1 rfl)) (by first | assumption | omega))) rfl (sq_v rfl (v_not rfl) rfl (sq_end (qs_n ?_)))))))))); refine wp_cn _ rfl (fun c8 => ?_) (fun c8 => ?_)
  · refine wp_sc (wp_sq (sq_v rfl (v_assign rfl) rfl (sq_end (qs_n (wp_rt (qs_r ?_)))))); exact qs_ret1 rfl rfl (fin_e (i := 1) rfl (by rw [c8]; exact StepsO.nil))
  · refine wp_sk (qs_n (wp_sc (wp_sq (sq_v rfl (v_assign rfl) rfl (sq_end (qs_n (wp_sc (wp_sq (sq_v rfl (v_fieldAddr fd_40_1 ty_38 (by decide) rfl) rfl (sq_v rfl (v_loadB 0 ty_38 rfl rfl rfl) rfl (sq_v rfl (v_len Tryz.underlying38 rfl r.sl) rfl (sq_v rfl (v_assign rfl) rfl (sq_end (qs_n (wp_sc (wp_sc (wp_sq (sq_v rfl (v_assign rfl) rfl (sq_end (qs_n (wp_bl ?_))))))))))))))))))))); refine wp_lp (σ := Nat × Value × PH) (fun z_ => [(2, .slice none 0 0), (3, z_.2.1), (4, num ts.length), (5, num z_.1)]) (fun z_ => [z_.2.2, box b1 [num k, num p, num n, vt, vo] 40, hp w]) (fun z_ => z_.1 ≤ ts.length - 1 ∧ StepsO (plainTo ts.length z_.1) z_.2.1 z_.2.2) (fun z_ => ts.length - 1 - z_.1) (0, .slice none 0 0, emp) (⟨by (try dsimp only); omega, StepsO.nil⟩) ⟨rfl, (by first | rfl | exact ksub rfl (by first | omega | (simp; done) | (simp; omega))), rfl, (by first | rfl | exact ksub rfl (by first | omega | (simp; done) | (simp; omega))), trivial⟩ (fun _ s => (emp_sat s)) ?_; rintro ⟨i, lv, lh⟩ ⟨hi, q⟩; dsimp only at hi q ⊢; obtain ⟨cs_q, rr_q, hc_q⟩ := q.toR.at; have hle_q := q.toR.le; have hpl := plain_len ts.length i; have h12 := (netB_true.1 c8).2.1; refine wp_sc (wp_sc (wp_sq (sq_v rfl (v_move rfl) rfl (sq_v rfl (v_move rfl) rfl ?_)))); refine sq_v rfl (v_sub rfl rfl ((by unfold I64; omega))) rfl ?_; refine sq_v rfl (v_lss rfl rfl) rfl (sq_end (qs_n ?_)); refine wp_cd rfl (fun c15 => ?_) (fun c15 => ?_)
    · refine wp_sk (qs_n (wp_sc (wp_bl (wp_sc (wp_sq (sq_v rfl (v_move rfl) rfl (sq_v rfl (v_eql rfl rfl) rfl (sq_end (qs_n ?_))))))))); refine wp_cd rfl (fun c19 => ?_) (fun c19 => ?_)
      · refine wp_sq (sq_v rfl (v_move rfl) rfl (sq_v rfl (v_build [num 0, num 1] rfl (by kernel_rfl)) rfl ?_)); refine sq_x rfl (x_buildS [.agg [num 0, num 1].toArray] Tryz.underlying126 ty_191 (by decide) rfl rfl rfl (by decide) (by decide) (by intro v hv; simp at hv; subst hv; rfl)) rfl ?_; intro v22 h22 (r22 : RowO 191 [num 0, num 1] 1 2 v22 h22); refine sq_m 1 rfl rfl (m_appS (ss := (plainTo ts.length i)) (us := ([⟨(0), (1)⟩] : List Stp)) 1 0 Tryz.underlying126 ty_191 rfl rfl rfl rfl q rfl r22.toR (by first | omega | (simp; omega) | (simp only [List.length_append, List.length_cons, List.length_nil]; omega) | (rw [List.length_set]; omega))) rfl ?_; intro v23 h_r23 r23; obtain ⟨cs_S_23, rr_S_23, hc_S_23⟩ := r23.toR.at; refine sq_v rfl (v_assign rfl) rfl (sq_end (qs_bn (qs_n (wp_sq (sq_v rfl (v_move rfl) rfl ?_))))); refine sq_v rfl (v_add rfl rfl ((by unfold I64; omega))) rfl ?_; refine sq_v rfl (v_assign rfl) rfl (sq_end ?_); exact qs_bk (i + 1, v23, h_r23) ⟨by (try dsimp only); omega, by (try dsimp only); rw [plain_step, plainAt, if_pos (by omega)]; exact r23⟩ (by simp only; omega) ⟨rfl, (by first | rfl | exact ksub rfl (by first | omega | (simp; done) | (simp; omega))), rfl, (by first | rfl | exact ksub rfl (by first | omega | (simp; done) | (simp; omega))), trivial⟩ (fun _ s => s.pick [1, 2, 3] (by decide) rfl)
      · refine wp_sq (sq_v rfl (v_move rfl) rfl (sq_v rfl (v_move rfl) rfl ?_)); refine sq_v rfl (v_add rfl rfl ((by unfold I64; omega))) rfl ?_; refine sq_v rfl (v_move rfl) rfl (sq_v rfl (v_move rfl) rfl ?_); refine sq_v rfl (v_add rfl rfl ((by unfold I64; omega))) rfl ?_; refine sq_v rfl (v_sub rfl rfl ((by unfold I64; omega))) rfl ?_; refine sq_v rfl (v_build [num (i + 1), num ((ts.length + i) - 1)] rfl (by kernel_rfl)) rfl ?_; refine sq_x rfl (x_buildS [.agg [num (i + 1), num ((ts.length + i) - 1)].toArray] Tryz.underlying126 ty_191 (by decide) rfl rfl rfl (by decide) (by decide) (by intro v hv; simp at hv; subst hv; rfl)) rfl ?_; intro v32 h32 (r32 : RowO 191 [num (i + 1), num ((ts.length + i) - 1)] 1 2 v32 h32); refine sq_m 1 rfl rfl (m_appS (ss := (plainTo ts.length i)) (us := ([⟨(i + 1), ((ts.length + i) - 1)⟩] : List Stp)) 1 0 Tryz.underlying126 ty_191 rfl rfl rfl rfl q rfl r32.toR (by first | omega | (simp; omega) | (simp only [List.length_append, List.length_cons, List.length_nil]; omega) | (rw [List.length_set]; omega))) rfl ?_; intro v33 h_r33 r33; obtain ⟨cs_S_33, rr_S_33, hc_S_33⟩ := r33.toR.at; refine sq_v rfl (v_assign rfl) rfl (sq_end (qs_bn (qs_n (wp_sq (sq_v rfl (v_move rfl) rfl ?_))))); refine sq_v rfl (v_add rfl rfl ((by unfold I64; omega))) rfl ?_; refine sq_v rfl (v_assign rfl) rfl (sq_end ?_); exact qs_bk (i + 1, v33, h_r33) ⟨by (try dsimp only); omega, by (try dsimp only); rw [plain_step, plainAt, if_neg (by omega)]; exact r33⟩ (by simp only; omega) ⟨rfl, (by first | rfl | exact ksub rfl (by first | omega | (simp; done) | (simp; omega))), rfl, (by first | rfl | exact ksub rfl (by first | omega | (simp; done) | (simp; omega))), trivial⟩ (fun _ s => s.pick [1, 2, 3] (by decide) rfl)
    · refine wp_ex (qs_x (qs_x (qs_bx (qs_n (wp_sc (wp_sq (sq_v rfl (v_move rfl) rfl (sq_v rfl (v_assign rfl) rfl (sq_end (qs_n (wp_rt ?_))))))))))); exact qs_ret1 rfl rfl (fin_t 0 (i := 2) rfl rfl rfl (by rw [c8]; show StepsO (plainL ts.length) _ _; rw [plainL, show ts.length - 1 = i by omega]; exact q))
end Go.Proofs.YthlmjnihihbckaaGreat
namespace Go.Proofs.YthlmjnihihbckaaGreat
set_option maxRecDepth 100000
open Go.RowKit
theorem ct_L_iCon (k p n : Int) (ts : List Ten) (op : List Int) (vt vo v : Value) (w : World) (r : TensR ts vt (hp w)) (r' : IntsR op vo (hp w)) (rv : StepsR (plainL ts.length) v (hp w)) (hs : op.length ≤ 1048576) :
    Calls Tryz.prog 115 [netV k p n vt vo, v].toArray w (Ret w emp (TenB (conR k p n ts op (plainL ts.length)) (conB k p n ts op (plainL ts.length)))) :=
  ct_i_Contract k p n ts op _ vt vo v w r r' rv hs
theorem ct_u_PlainOrder (k p n : Int) (ts : List Ten) (op : List Int) (vt vo : Value) (w : World) (r : TensR ts vt (hp w)) (r' : IntsR op vo (hp w)) (hs : op.length ≤ 1048576) (hn : netL k p n ts op) :
    Calls Tryz.prog 116 [netV k p n vt vo].toArray w (Ret w emp (StepsO (plainL ts.length))) := by
  have := ct_i_PlainOrder k p n ts op vt vo w r r' hs; rw [netB_true.2 hn] at this; exact this
theorem TriO.x {t : Ten} {a b c : Value} {h : PH} (r : TriO t a b c h) : ∃ g, PLe g h ∧ IntsO t.x c g := by
  obtain ⟨h1, h2, h3, r1, r2, r3, m⟩ := r; exact ⟨h3, m.le _ (by simp), r3⟩
end Go.Proofs.YthlmjnihihbckaaGreat
namespace Go.Proofs.YthlmjnihihbckaaGreat
set_option maxRecDepth 100000
open Go.RowKit
theorem flat_len_all {α : Type} {e : α → List Int} {W : Nat} : ∀ {l : List α}, (∀ m ∈ l, (e m).length = W) → (l.flatMap e).length = l.length * W
  | [], _ => by simp
  | a :: l, h => by
    have ih := flat_len_all (l := l) fun m hm => h m (by simp [hm]); rw [List.flatMap_cons, List.length_append, ih, h a (by simp), List.length_cons, Nat.add_mul, Nat.one_mul, Nat.add_comm]
theorem elt_flat {α : Type} {e : α → List Int} {W : Nat} {l : List α} (h : ∀ m ∈ l, (e m).length = W) {i : Nat} (hi : i < l.length) : elt (l.flatMap e) W i = e l[i] := by
  have e1 : l = l.take i ++ (l[i] :: l.drop (i + 1)) := by rw [← List.drop_eq_getElem_cons hi, List.take_append_drop]
  have hl : ((l.take i).flatMap e).length = i * W := by
    rw [flat_len_all fun m hm => h m (List.mem_of_mem_take hm), List.length_take, Nat.min_eq_left (by omega)]
  unfold elt
  rw [show ((i : Int) * (W : Int)).toNat = i * W by rw [← Int.natCast_mul, Int.toNat_natCast], Int.toNat_natCast]
  conv => lhs; rw [e1]
  rw [List.flatMap_append, List.drop_left' hl, List.flatMap_cons, List.take_left' (h _ (List.getElem_mem hi))]
theorem r3 : ringL 3 1000000 0 := .inr (.inr (.inl ⟨.inl rfl, by omega, rfl⟩))
end Go.Proofs.YthlmjnihihbckaaGreat
namespace Go.Proofs.YthlmjnihihbckaaGreat
set_option maxRecDepth 100000
open Go.RowKit
structure RLaw (k p n : Int) : Prop where
  addC : ∀ a b, InR k p n a → InR k p n b → addL k p a b = addL k p b a
  addA : ∀ a b c, InR k p n a → InR k p n b → InR k p n c → addL k p (addL k p a b) c = addL k p a (addL k p b c)
  add0 : ∀ a, InR k p n a → addL k p (zeroL k p n) a = a
  mulC : ∀ a b, InR k p n a → InR k p n b → mulL k p n a b = mulL k p n b a
  mulA : ∀ a b c, InR k p n a → InR k p n b → InR k p n c → mulL k p n (mulL k p n a b) c = mulL k p n a (mulL k p n b c)
  mul1 : ∀ a, InR k p n a → mulL k p n (oneL k p n) a = a
  mul0 : ∀ a, InR k p n a → mulL k p n (zeroL k p n) a = zeroL k p n
  dist : ∀ a b c, InR k p n a → InR k p n b → InR k p n c → mulL k p n (addL k p a b) c = addL k p (mulL k p n a c) (mulL k p n b c)
abbrev El (k p n : Int) := {xs : List Int // InR k p n xs}
section
variable {k p n : Int} (hr : ringL k p n)
open Classical in
noncomputable def toA (xs : List Int) : El k p n := if h : InR k p n xs then ⟨xs, h⟩ else ⟨zeroL k p n, zeroL_in hr⟩
end
end Go.Proofs.YthlmjnihihbckaaGreat
namespace Go.Proofs.YthlmjnihihbckaaGreat
set_option maxRecDepth 100000
open Go.RowKit
theorem putL_get? {xs ys : List Int} {lo : Nat} (h : lo + ys.length ≤ xs.length) (q : Nat) : (putL xs lo ys)[q]? = if q < lo then xs[q]? else if q < lo + ys.length then ys[q - lo]? else xs[q]? := by
  unfold putL
  have hl : (xs.take lo).length = lo := by simp; omega
  by_cases c1 : q < lo
  · rw [if_pos c1, List.append_assoc, List.getElem?_append_left (by omega), List.getElem?_take, if_pos c1]
  · rw [if_neg c1, List.append_assoc, List.getElem?_append_right (by omega), hl]
    by_cases c2 : q < lo + ys.length
    · rw [if_pos c2, List.getElem?_append_left (by omega)]
    · rw [if_neg c2, List.getElem?_append_right (by omega), List.getElem?_drop]
      congr 1
      omega
theorem elt_get? {xs : List Int} {w i : Int} (q : Nat) : (elt xs w i)[q]? = if q < w.toNat then xs[(i * w).toNat + q]? else none := by
  unfold elt
  rw [List.getElem?_take]
  split
  · rw [List.getElem?_drop]
  · rfl
theorem elt_put {xs ys : List Int} {w i : Int} (hw : 1 ≤ w) (hi : 0 ≤ i) (hy : ys.length = w.toNat) (hl : i * w + w ≤ xs.length) : elt (putL xs (i * w).toNat ys) w i = ys := by
  have h0 : 0 ≤ i * w := Int.mul_nonneg hi (by omega)
  apply List.ext_getElem?
  intro q; rw [elt_get?, putL_get? (by omega)]
  by_cases c : q < w.toNat
  · rw [if_pos c, if_neg (by omega), if_pos (by omega), Nat.add_sub_cancel_left]
  · rw [if_neg c, List.getElem?_eq_none (by omega)]
theorem elt_put_ne {xs ys : List Int} {w i j : Int} (hw : 1 ≤ w) (hi : 0 ≤ i) (hj : 0 ≤ j) (hy : ys.length = w.toNat) (hl : i * w + w ≤ xs.length) (hne : i ≠ j) : elt (putL xs (i * w).toNat ys) w j = elt xs w j := by
  have h0 : 0 ≤ i * w := Int.mul_nonneg hi (by omega); have h1 : 0 ≤ j * w := Int.mul_nonneg hj (by omega)
  apply List.ext_getElem?
  intro q; rw [elt_get?, elt_get?]
  by_cases c : q < w.toNat
  · rw [if_pos c, if_pos c, putL_get? (by omega)]
    rcases Int.lt_or_gt_of_ne hne with h | h
    · have := Int.mul_le_mul_of_nonneg_right (show i + 1 ≤ j by omega) (show 0 ≤ w by omega); rw [Int.add_mul, Int.one_mul] at this; rw [if_neg (by omega), if_neg (by omega)]
    · have := Int.mul_le_mul_of_nonneg_right (show j + 1 ≤ i by omega) (show 0 ≤ w by omega); rw [Int.add_mul, Int.one_mul] at this; rw [if_pos (by omega)]
  · rw [if_neg c, if_neg c]
theorem elt_rep {z : List Int} {W P : Nat} (hz : z.length = W) {i : Nat} (hi : i < P) : elt (List.replicate P z).flatten W i = z := by
  have e : (List.replicate P z).flatten = (List.range P).flatMap fun _ => z := by
    rw [List.flatMap_def, List.map_const', List.length_range]
  rw [e, elt_flat (e := fun _ => z) (l := List.range P) (fun _ _ => hz) (by simpa using hi)]
section
variable {k p n : Int} (hr : ringL k p n) (hR : RLaw k p n)
/-- What a tensor holds at an assignment. -/
noncomputable def val (t : Ten) (a : Int → Int) : El k p n := toA hr (elt t.x (widthI k n) (offL t.d (t.l.map a)))
variable {t u : Ten} {f : Int → Int} {K : List Int}
end
end Go.Proofs.YthlmjnihihbckaaGreat
namespace Go.Proofs.YthlmjnihihbckaaGreat
set_option maxRecDepth 100000
open Go.RowKit
theorem off_idx : ∀ {ds : List Int} {m : Int}, (∀ d ∈ ds, 1 ≤ d) → 0 ≤ m → m < prodI ds → offL ds (idxL ds m) = m
  | [], m, _, h0, h1 => by
    have e : prodI ([] : List Int) = 1 := rfl
    show (0 : Int) = m
    omega
  | d :: ds, m, hd, h0, h1 => by
    have hd' : ∀ x ∈ ds, 1 ≤ x := fun x hx => hd x (by simp [hx]); have hP := prodI_one hd'; have hm := Int.emod_nonneg m (show prodI ds ≠ 0 by omega); have hm2 := Int.emod_lt_of_pos m (show 0 < prodI ds by omega); have e : m / prodI ds * prodI ds + m % prodI ds = m := by rw [Int.mul_comm]; exact Int.mul_ediv_add_emod m (prodI ds)
    have e2 : idxL ds m = idxL ds (m % prodI ds) := by
      have := idxL_shift hd' (m / prodI ds) (m % prodI ds)
      rwa [e] at this
    have hlt : m / prodI ds < d := Int.ediv_lt_of_lt_mul (by omega) (by rw [prodI_cons] at h1; exact h1); rw [idxL_cons]
    show m / prodI ds % d * prodI ds + offL ds (idxL ds m) = m
    rw [e2, off_idx hd' hm hm2, Int.emod_eq_of_lt (Int.ediv_nonneg h0 (by omega)) hlt]; exact e
theorem at_self {f : Int → Int} {L : List Int} (hn : L.Nodup) (hf : ∀ x ∈ L, 1 ≤ f x ∧ f x ≤ 8) {m : Int} (h0 : 0 ≤ m) (h1 : m < prodI (L.map f)) : atI f L L m = m := by
  have hd : ∀ d ∈ L.map f, 1 ≤ d := fun d hd => (map_dim hf (fun _ h => h) d hd).1; have e : idxAt L (idxL (L.map f) m) L = idxL (L.map f) m := by
    refine ext_getD (by simp [idxAt, idxL_len]) fun j hj => ?_; have hj' : j < L.length := by simpa [idxAt] using hj
    rw [idxAt, map_getD hj', find_at' hn hj', Int.toNat_natCast]
  rw [at_off hn hn (fun _ h => h), e, off_idx hd h0 h1]
theorem elts_ext {xs ys : List Int} {w : Int} (hw : 1 ≤ w) {P : Int} (h1 : (xs.length : Int) = P * w) (h2 : (ys.length : Int) = P * w) (h : ∀ j : Int, 0 ≤ j → j < P → elt xs w j = elt ys w j) : xs = ys := by
  apply List.ext_getElem?
  intro q
  by_cases hq : (q : Int) < P * w
  · have hj : (q : Int) / w < P := Int.ediv_lt_of_lt_mul (by omega) hq; have hj0 : 0 ≤ (q : Int) / w := Int.ediv_nonneg (by omega) (by omega); have hr0 := Int.emod_nonneg (q : Int) (show w ≠ 0 by omega); have hr1 := Int.emod_lt_of_pos (q : Int) (show 0 < w by omega); have e : (q : Int) / w * w + (q : Int) % w = q := by rw [Int.mul_comm]; exact Int.mul_ediv_add_emod q w
    have h3 := congrArg (fun l => l[((q : Int) % w).toNat]?) (h _ hj0 hj); have hm0 := Int.mul_nonneg hj0 (show 0 ≤ w by omega); have e3 : ((q : Int) / w * w).toNat + ((q : Int) % w).toNat = q := by omega
    simp only [elt_get?] at h3; rw [if_pos (by omega), if_pos (by omega), e3] at h3; exact h3
  · rw [List.getElem?_eq_none (by omega), List.getElem?_eq_none (by omega)]
/-- A sum that keeps every label. -/
theorem sum_id {k p n : Int} {t : Ten} (h : tensorL k p n t.l t.d t.x) {ks : List Int} (hk : ∀ x ∈ t.l, x ∈ ks) : sumR k p n t ks = t := by
  have h1 := one_ten h.1; have hmm := one_mism k p n t; have hp := ten_prod h; have ok := pair_ok h h1 hmm (by rw [one_joinD]; omega); have hr := h.1; have hwr := width_range hr; have hax := ten_axes h; have hj : joinI t.l (oneT k p n).l = t.l := by simp [joinI, oneT]
  have hK : keepL t (oneT k p n) ks = t.l := by
    unfold keepL
    rw [hj]; exact List.filter_eq_self.2 fun x hx => decide_eq_true (hk x hx)
  have hd : t.d = t.l.map (dimJ t (oneT k p n)) := ok.ht; have hko : KeepOK t (oneT k p n) (dimJ t (oneT k p n)) t.l := ⟨fun l hl => by rw [hj]; exact hl, axes_nodup hax, by rw [← hd]; exact hp⟩
  have hdim : ∀ x ∈ t.l, 1 ≤ dimJ t (oneT k p n) x ∧ dimJ t (oneT k p n) x ≤ 8 := fun x hx => ok.dim x (by rw [hj]; exact hx); have hP := ok.pos_k hko; have hat : ∀ m : Int, 0 ≤ m → m < prodI (t.l.map (dimJ t (oneT k p n))) → atI (dimJ t (oneT k p n)) (joinI t.l (oneT k p n).l) t.l m = m := fun m m0 m1 => by
    rw [hj]; exact at_self (axes_nodup hax) hdim m0 m1
  have hau : ∀ m : Int, atI (dimJ t (oneT k p n)) (joinI t.l (oneT k p n).l) (oneT k p n).l m = 0 := fun m => by
    have h2 := ok.at_u m; have e : prodI (oneT k p n).d = 1 := rfl
    omega
  have hone : elt (oneT k p n).x (widthI k n) 0 = oneL k p n := by
    have e : (oneT k p n).x = oneL k p n := rfl; have hl := oneL_len k p n
    unfold elt
    rw [e, Int.zero_mul]
    show ((oneL k p n).drop 0).take _ = _
    rw [List.drop_zero, List.take_of_length_le (by omega)]
  have hel : ∀ m : Nat, (m : Int) ≤ prodI (t.l.map (dimJ t (oneT k p n))) → ∀ j : Int, 0 ≤ j → j < prodI (t.l.map (dimJ t (oneT k p n))) →
      elt (pairX k p n (dimJ t (oneT k p n)) t (oneT k p n) t.l m) (widthI k n) j = if j < m then elt t.x (widthI k n) j else zeroL k p n := by
    intro m
    induction m with
    | zero =>
      intro _ j j0 j1; rw [if_neg (by omega)]; have hz := zeroL_len k p n; have := elt_rep (z := zeroL k p n) (W := (widthI k n).toNat) (P := (prodI (t.l.map (dimJ t (oneT k p n)))).toNat) hz (i := j.toNat) (by omega); rw [Int.toNat_of_nonneg (by omega), Int.toNat_of_nonneg j0] at this; exact this
    | succ m ih =>
      intro hm j j0 j1; have ihm := ih (by omega); have hmm1 : (m : Int) < prodI (t.l.map (dimJ t (oneT k p n))) := by omega
      have a1 := hat (m : Int) (by omega) hmm1; have a2 := hau (m : Int); have hx : InR k p n (elt t.x (widthI k n) (m : Int)) := by have := ok.el_t (m : Int); rwa [a1] at this
      have hval : addL k p (elt (pairX k p n (dimJ t (oneT k p n)) t (oneT k p n) t.l m) (widthI k n) (m : Int)) (mulL k p n (elt t.x (widthI k n) (m : Int)) (elt (oneT k p n).x (widthI k n) 0)) = elt t.x (widthI k n) (m : Int) := by
        rw [hone, mul_one hr hx, ihm (m : Int) (by omega) hmm1, if_neg (by omega), add_zero hr hx]
      have hf := ok.fits hko m; rw [a1] at hf; have hlen : (elt t.x (widthI k n) (m : Int)).length = (widthI k n).toNat := hx.1; rw [pairX, a1, a2, hval]
      by_cases e : (m : Int) = j
      · rw [if_pos (by omega), ← e]; exact elt_put hwr.1 (by omega) hlen hf
      · rw [elt_put_ne hwr.1 (by omega) j0 hlen hf e, ihm j j0 j1]
        by_cases e2 : j < (m : Int)
        · rw [if_pos e2, if_pos (by omega)]
        · rw [if_neg e2, if_neg (by omega)]
  have hfin : pairX k p n (dimJ t (oneT k p n)) t (oneT k p n) t.l (prodI ((joinI t.l (oneT k p n).l).map (dimJ t (oneT k p n)))).toNat = t.x := by
    rw [hj]; refine elts_ext hwr.1 ((ok.all hko _).1) (by rw [← hd]; exact (ten_all h).1) fun j j0 j1 => ?_; rw [hel _ (by omega) j j0 j1, if_pos (by omega)]
  rw [sumR, if_pos h, hK, pairT, hfin, ← hd]
end Go.Proofs.YthlmjnihihbckaaGreat
namespace Go.Proofs.YthlmjnihihbckaaGreat
set_option maxRecDepth 100000
open Go.RowKit
theorem step_zero {k p n : Int} {x y out : List Int} {i j : Nat} (hk : k = 7 ∧ (widthI k n).toNat ≤ 6 ∨ k = 8) (hp : 1 ≤ p) (ho : PolyIn k p n out) (hy : PolyIn k p n y) (hi : x.getD i 0 = 0) (hij : 4 ≤ i + j → k = 8 → i + j - 4 < out.length) : mulStep k p x y out i j = out := by
  have h0 : ∀ m, (out.getD m 0).tmod p = out.getD m 0 := fun m => by
    have := ho.at hp m; exact Int.tmod_eq_of_lt this.1 (by omega)
  unfold mulStep
  split
  · rename_i h
    rw [hi, Int.zero_mul, Int.add_zero, h0, set_same h]
  · split
    · rename_i h h8
      have hw : out.length = 4 := by rw [ho.1, widthI, if_neg (by omega), if_pos h8]; rfl
      have hz := ho.at hp (i + j - 4); have hyj := hy.at hp j; have e : (out.getD (i + j - 4) 0 + (p - x.getD i 0) * y.getD j 0).tmod p = out.getD (i + j - 4) 0 := by
        rw [hi, Int.sub_zero]; have hm : 0 ≤ p * y.getD j 0 := Int.mul_nonneg (by omega) hyj.1; rw [Int.tmod_eq_emod_of_nonneg (by omega), Int.add_mul_emod_self_left]; exact Int.emod_eq_of_lt hz.1 (by omega)
      rw [e]; exact set_same (hij (by omega) h8)
    · rfl
theorem row_zero {k p n : Int} {x y out : List Int} {i : Nat} (hk : k = 7 ∧ (widthI k n).toNat ≤ 6 ∨ k = 8) (hp : 1 ≤ p) (ho : PolyIn k p n out) (hy : PolyIn k p n y) (hi : x.getD i 0 = 0) (hil : i < out.length) (hyl : y.length = out.length) :
    ∀ m, m ≤ y.length → mulRow k p x y i out m = out
  | 0, _ => rfl
  | m + 1, hm => by
    rw [mulRow_step, row_zero hk hp ho hy hi hil hyl m (by omega)]; refine step_zero hk hp ho hy hi (fun h4 h8 => ?_); have hw : out.length = 4 := by rw [ho.1, widthI, if_neg (by omega), if_pos h8]; rfl
    omega
theorem row_copy {k p n : Int} {x y : List Int} (hk : k = 7 ∧ (widthI k n).toNat ≤ 6 ∨ k = 8) (hp : 2 ≤ p) (hy : PolyIn k p n y) (h1 : x.getD 0 0 = 1) :
    ∀ m, m ≤ y.length → mulRow k p x y 0 (List.replicate y.length 0) m = y.take m ++ List.replicate (y.length - m) 0
  | 0, _ => by simp [mulRow]
  | m + 1, hm => by
    rw [mulRow_step, row_copy hk hp hy h1 m (by omega)]; have hlt : (y.take m).length = m := by simp; omega
    have hol : (y.take m ++ List.replicate (y.length - m) (0 : Int)).length = y.length := by simp; omega
    have hz : (y.take m ++ List.replicate (y.length - m) (0 : Int)).getD m 0 = 0 := by
      simp only [List.getD]; rw [List.getElem?_append_right (by omega), hlt, Nat.sub_self]
      simp [show 0 < y.length - m by omega]
    have hym := hy.at (by omega : 1 ≤ p) m
    unfold mulStep
    rw [Nat.zero_add, if_pos (by rw [hol]; omega), hz, h1, Int.one_mul, Int.zero_add, Int.tmod_eq_of_lt hym.1 (by omega)]; obtain ⟨r, hr⟩ : ∃ r, y.length - m = r + 1 := ⟨y.length - m - 1, by omega⟩
    rw [List.set_append_right _ _ (by omega), hlt, Nat.sub_self, hr, List.replicate_succ, List.set_cons_zero, show y.length - (m + 1) = r by omega, List.take_succ_eq_append_getElem (by omega), List.append_assoc]
    congr 1
    simp [List.getD, show m < y.length by omega]
theorem one_to {k p n : Int} {x y : List Int} (hk : k = 7 ∧ (widthI k n).toNat ≤ 6 ∨ k = 8) (hp : 2 ≤ p) (hy : PolyIn k p n y) (h1 : x.getD 0 0 = 1) (h0 : ∀ j, 0 < j → x.getD j 0 = 0) (hl : x.length = y.length) :
    ∀ m, m + 1 ≤ x.length → mulTo k p x y (List.replicate y.length 0) (m + 1) = y
  | 0, h => by
    rw [mulTo_step]
    show mulRow k p x y 0 (List.replicate y.length 0) y.length = y
    rw [row_copy hk hp hy h1 y.length (Nat.le_refl _), Nat.sub_self, List.take_length]
    simp
  | m + 1, h => by
    rw [mulTo_step, one_to hk hp hy h1 h0 hl m (by omega)]; exact row_zero hk (by omega) hy hy (h0 _ (by omega)) (by omega) rfl y.length (Nat.le_refl _)
theorem one_mul {k p n : Int} (hr : ringL k p n) {x : List Int} (hx : InR k p n x) : mulL k p n (oneL k p n) x = x := by
  have hlen := hx.len hr; have hx0 := hx.at hr 0 (by omega); have hwd : 1 ≤ (widthI k n).toNat := by have := hx.1; omega
  by_cases hk : k = 7 ∨ k = 8
  · have htp := top_poly hr (.inr hk); have ho := one_poly (p := p) (n := n) (k := k) (by omega) hwd; have hk' : k = 7 ∧ (widthI k n).toNat ≤ 6 ∨ k = 8 := by rcases hk with h | h; exact .inl ⟨h, by have := hx.1; omega⟩; exact .inr h
    have hol := oneL_len k p n; obtain ⟨q, hq⟩ : ∃ q, (oneL k p n).length = q + 1 := ⟨(oneL k p n).length - 1, by omega⟩
    have := one_to hk' htp.2.1 (hx.poly hr (.inr hk)) ho.1 ho.2 (by rw [hol, hx.1]) q (by omega)
    unfold mulL
    rw [if_neg (by omega), if_neg (by omega), if_neg (by omega), if_neg (by omega), if_neg (by omega), hq, ← hx.1]; exact this
  · have hm := mul_one hr hx; have e : mulL k p n (oneL k p n) x = mulL k p n x (oneL k p n) := by
      unfold mulL
      split
      · rw [Int.min_comm]
      · split
        · rw [Int.mul_comm]
        · split
          · rw [Int.mul_comm]
          · split
            · rw [Int.add_comm]
            · split
              · rw [Nat.and_comm]
              · exfalso
                unfold ringL at hr
                omega
    rw [e, hm]
/-- A pair with one on the left, all labels kept. -/
theorem one_id {k p n : Int} {t : Ten} (h : tensorL k p n t.l t.d t.x) {ks : List Int} (hk : ∀ x ∈ t.l, x ∈ ks) : pairP k p n (oneT k p n) t ks ∧ pairR k p n (oneT k p n) t ks = t := by
  have h1 := one_ten h.1; have hmm : ¬ mism (oneT k p n) t := by
    rintro ⟨i, hi, hm, _⟩
    simp [oneT] at hm
  have hjd : joinD (oneT k p n) t = t.d := by
    have e : ∀ (ls ds : List Int), ls.length = ds.length → selP (fun x => decide (x ∉ (oneT k p n).l)) ls ds = ds := by
      intro ls
      induction ls with
      | nil => intro ds hd; cases ds; rfl; simp at hd
      | cons a ls ih =>
        intro ds hd
        cases ds with
        | nil => simp at hd
        | cons d ds =>
          rw [selP, ih ds (by simpa using hd)]
          simp [oneT]
    unfold joinD
    rw [e _ _ (ten_axes h).2.1]
    simp [oneT]
  have hp := ten_prod h; have ok := pair_ok h1 h hmm (by rw [hjd]; omega); have hr := h.1; have hwr := width_range hr; have hax := ten_axes h; have hj : joinI (oneT k p n).l t.l = t.l := by simp [joinI, oneT]
  have hK : keepL (oneT k p n) t ks = t.l := by
    unfold keepL
    rw [hj]; exact List.filter_eq_self.2 fun x hx => decide_eq_true (hk x hx)
  have hd : t.d = t.l.map (dimJ (oneT k p n) t) := ok.hu; have hpp : pairP k p n (oneT k p n) t ks := by
    refine ⟨h1, h, hmm, by rw [hjd]; omega, ?_⟩; rw [hK, ← hd]; exact h.2.1
  refine ⟨hpp, ?_⟩; have hko : KeepOK (oneT k p n) t (dimJ (oneT k p n) t) t.l := ⟨fun l hl => by rw [hj]; exact hl, axes_nodup hax, by rw [← hd]; exact hp⟩
  have hdim : ∀ x ∈ t.l, 1 ≤ dimJ (oneT k p n) t x ∧ dimJ (oneT k p n) t x ≤ 8 := fun x hx => ok.dim x (by rw [hj]; exact hx); have hP := ok.pos_k hko; have hat : ∀ m : Int, 0 ≤ m → m < prodI (t.l.map (dimJ (oneT k p n) t)) → atI (dimJ (oneT k p n) t) (joinI (oneT k p n).l t.l) t.l m = m := fun m m0 m1 => by
    rw [hj]; exact at_self (axes_nodup hax) hdim m0 m1
  have hau : ∀ m : Int, atI (dimJ (oneT k p n) t) (joinI (oneT k p n).l t.l) (oneT k p n).l m = 0 := fun m => by
    have h2 := ok.at_t m; have e : prodI (oneT k p n).d = 1 := rfl
    omega
  have hone : elt (oneT k p n).x (widthI k n) 0 = oneL k p n := by
    have e : (oneT k p n).x = oneL k p n := rfl; have hl := oneL_len k p n
    unfold elt
    rw [e, Int.zero_mul]
    show ((oneL k p n).drop 0).take _ = _
    rw [List.drop_zero, List.take_of_length_le (by omega)]
  have hel : ∀ m : Nat, (m : Int) ≤ prodI (t.l.map (dimJ (oneT k p n) t)) → ∀ j : Int, 0 ≤ j → j < prodI (t.l.map (dimJ (oneT k p n) t)) →
      elt (pairX k p n (dimJ (oneT k p n) t) (oneT k p n) t t.l m) (widthI k n) j = if j < m then elt t.x (widthI k n) j else zeroL k p n := by
    intro m
    induction m with
    | zero =>
      intro _ j j0 j1; rw [if_neg (by omega)]; have hz := zeroL_len k p n; have := elt_rep (z := zeroL k p n) (W := (widthI k n).toNat) (P := (prodI (t.l.map (dimJ (oneT k p n) t))).toNat) hz (i := j.toNat) (by omega); rw [Int.toNat_of_nonneg (by omega), Int.toNat_of_nonneg j0] at this; exact this
    | succ m ih =>
      intro hm j j0 j1; have ihm := ih (by omega); have hmm1 : (m : Int) < prodI (t.l.map (dimJ (oneT k p n) t)) := by omega
      have a1 := hat (m : Int) (by omega) hmm1; have a2 := hau (m : Int); have hx : InR k p n (elt t.x (widthI k n) (m : Int)) := by have := ok.el_u (m : Int); rwa [a1] at this
      have hval : addL k p (elt (pairX k p n (dimJ (oneT k p n) t) (oneT k p n) t t.l m) (widthI k n) (m : Int)) (mulL k p n (elt (oneT k p n).x (widthI k n) 0) (elt t.x (widthI k n) (m : Int))) = elt t.x (widthI k n) (m : Int) := by
        rw [hone, one_mul hr hx, ihm (m : Int) (by omega) hmm1, if_neg (by omega), add_zero hr hx]
      have hf := ok.fits hko m; rw [a1] at hf; have hlen : (elt t.x (widthI k n) (m : Int)).length = (widthI k n).toNat := hx.1; rw [pairX, a1, a2, hval]
      by_cases e : (m : Int) = j
      · rw [if_pos (by omega), ← e]; exact elt_put hwr.1 (by omega) hlen hf
      · rw [elt_put_ne hwr.1 (by omega) j0 hlen hf e, ihm j j0 j1]
        by_cases e2 : j < (m : Int)
        · rw [if_pos e2, if_pos (by omega)]
        · rw [if_neg e2, if_neg (by omega)]
  have hfin : pairX k p n (dimJ (oneT k p n) t) (oneT k p n) t t.l (prodI ((joinI (oneT k p n).l t.l).map (dimJ (oneT k p n) t))).toNat = t.x := by
    rw [hj]; refine elts_ext hwr.1 ((ok.all hko _).1) (by rw [← hd]; exact (ten_all h).1) fun j j0 j1 => ?_; rw [hel _ (by omega) j j0 j1, if_pos (by omega)]
  rw [pairR, if_pos hpp, hK, pairT, hfin, ← hd]
end Go.Proofs.YthlmjnihihbckaaGreat
namespace Go.Proofs.YthlmjnihihbckaaGreat
set_option maxRecDepth 100000
open Go.RowKit
def goodT (k p n : Int) (f : Int → Int) (t : Ten) : Prop := tensorL k p n t.l t.d t.x ∧ t.d = t.l.map f
noncomputable def jnTo (k p n : Int) (t : Ten) (us : List Ten) : Nat → Ten
  | 0 => t
  | i + 1 => pairR k p n (jnTo k p n t us i) (us.getD i noTen) ((jnTo k p n t us i).l ++ (us.getD i noTen).l)
def jnFit (k p n : Int) (t : Ten) (us : List Ten) (i : Nat) : Prop := pairP k p n (jnTo k p n t us i) (us.getD i noTen) ((jnTo k p n t us i).l ++ (us.getD i noTen).l)
noncomputable def jnT (k p n : Int) (t : Ten) (us : List Ten) : Ten := jnTo k p n t us us.length
theorem join_iff (t u : Ten) (x : Int) : x ∈ joinI t.l u.l ↔ x ∈ t.l ++ u.l := by rw [mem_joinI, List.mem_append]
theorem keep_all (t u : Ten) : keepL t u (t.l ++ u.l) = joinI t.l u.l := by
  unfold keepL
  exact List.filter_eq_self.2 fun x hx => decide_eq_true ((join_iff t u x).1 hx)
section
variable {k p n : Int} {f : Int → Int} {t : Ten} {us : List Ten}
theorem getD_ten {i : Nat} {u : Ten} (h : us[i]? = some u) : us.getD i noTen = u := by simp [List.getD, h]
/-- The program's list of labels to keep is the reference's. -/
theorem jn_congr {i : Nat} {u : Ten} (h : us[i]? = some u) : pairR k p n (jnTo k p n t us i) u (joinI (jnTo k p n t us i).l u.l) = jnTo k p n t us (i + 1) ∧ (pairP k p n (jnTo k p n t us i) u (joinI (jnTo k p n t us i).l u.l) ↔ jnFit k p n t us i) := by
  have e := pairR_congr (k := k) (p := p) (n := n) (t := jnTo k p n t us i) (u := u) (join_iff (jnTo k p n t us i) u); rw [jnTo, jnFit, getD_ten h]; exact ⟨e.1, e.2.2⟩
end
section
variable {k p n : Int} {ts : List Ten} {ls op : List Int}
end
end Go.Proofs.YthlmjnihihbckaaGreat
namespace Go.Proofs.YthlmjnihihbckaaGreat
set_option maxRecDepth 100000
open Go.RowKit
theorem SpR.mono {f : Int → Int} {s : Sh} {va vg : Value} {b : Nat} {h h' : PH} (r : SpR f s va vg b h) (l : PLe h h') : SpR f s va vg b h' := ⟨r.ok, cellP.mono l r.c0, cellP.mono l r.c1, r.all.mono l, r.gone.mono l⟩
end Go.Proofs.YthlmjnihihbckaaGreat
namespace Go.Proofs.YthlmjnihihbckaaGreat
set_option maxRecDepth 100000
open Go.RowKit
/-- What can be read of a state in its own part. -/
theorem SpO.own {f : Int → Int} {s : Sh} {bb : Nat} {h q : PH} (r : SpO f s bb h q) : ∃ va vg cs, cellP h bb 0 = some va ∧ cellP h bb 1 = some vg ∧ RowR cs s.all.length 3 va h ∧ BoolsR s.gone vg h := by
  obtain ⟨hok, va, vg, ha, hg, hs, cs, ra, rg, rt, md⟩ := r; have hb := md.le (box bb [va, vg] 220) (by simp); exact ⟨va, vg, cs, cellP.mono hb (by rw [cellP_box]; rfl), cellP.mono hb (by rw [cellP_box]; rfl), ra.toR.mono (md.le ha (by simp)), rg.toR.mono (md.le hg (by simp))⟩
def StartR (k p n : Int) (ts : List Ten) (op : List Int) (ss : List Stp) (q : PH) (u : Value) (h : PH) : Prop :=
  ∃ pv b, u = .tuple [pv, .bool b].toArray ∧ (b = true ↔ compP k p n ts op ss) ∧ (b = true → ∃ bb, pv = ptrV bb ∧ SpO (dimOf ts) (shTo op (sh0 ts) ss) bb h q)
theorem StartR.no {k p n : Int} {ts : List Ten} {op : List Int} {ss : List Stp} {q h : PH} {pv : Value} (hn : ¬ compP k p n ts op ss) : StartR k p n ts op ss q (.tuple [pv, .bool false].toArray) h :=
  ⟨pv, false, rfl, ⟨fun e => (by cases e), fun e => absurd e hn⟩, fun e => (by cases e)⟩
end Go.Proofs.YthlmjnihihbckaaGreat
