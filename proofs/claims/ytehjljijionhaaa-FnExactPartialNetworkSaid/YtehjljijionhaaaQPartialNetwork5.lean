/-
  Parts of the proof of FnExactPartialNetwork: laws of heaps, contracts of functions.
  Conditions: none.
-/
import Derived.Test.YtehjljijionhaaaQPartialNetwork4
namespace Go.Proofs.Ytehjljijionhaaa
set_option maxRecDepth 100000
open Go.RowKit
theorem dimOf_append : ∀ {a b : List Ten} (_ : ∀ t ∈ a, AxOK t) (x : Int), dimOf (a ++ b) x = if dimOf a x ≠ 0 then dimOf a x else dimOf b x
  | [], b, _, x => by simp [dimOf]
  | u :: r, b, h, x => by
    have ih := dimOf_append (a := r) (b := b) (fun t ht => h t (by simp [ht])) x
    by_cases hx : x ∈ u.l
    · have hu := (h u (by simp)).2 _ (findI_get hx).1; simp only [List.cons_append, dimOf, if_pos hx]; rw [if_pos (by omega)]
    · simp only [List.cons_append, dimOf, if_neg hx]; exact ih
/-- In a network in order, each label's dimension is that of its axis. -/
theorem net_dim {k p n : Int} {ts : List Ten} {op : List Int} (h : netL k p n ts op) {t : Ten} (ht : t ∈ ts) {x : Int} (hx : x ∈ t.l) : dimOf ts x = t.d.getD (findI t.l x).toNat 0 := by
  obtain ⟨i, hi⟩ := List.getElem?_of_mem ht; have hlt := (List.getElem?_eq_some_iff.1 hi).1; have hg := findI_get hx; have hc := h.2.2.2.1 i hlt t hi _ hg.1 t hi; rw [hg.2] at hc; have e : ts = ts.take i ++ (t :: ts.drop (i + 1)) := by rw [← drop_at hi, List.take_append_drop]
  have hax := net_ax h
  conv => lhs; rw [e]
  rw [dimOf_append (fun u hu => hax u (List.mem_of_mem_take hu))]
  split
  · omega
  · rw [dimOf, if_pos hx]
theorem axes_nodup {ls ds : List Int} (h : axesL ls ds) : ls.Nodup := by
  rw [List.Nodup, List.pairwise_iff_getElem]; intro i j hi hj hij e; have := (h.2.2 j hj).2.2; refine this ?_; simp only [List.getD, List.getElem?_eq_getElem hj, Option.getD_some]; rw [← e]; exact List.mem_iff_getElem.2 ⟨i, by simp; omega, by simp⟩
theorem oneL_in {k p n : Int} (h : ringL k p n) : InR k p n (oneL k p n) := by
  refine ⟨oneL_len k p n, fun a ha => ?_⟩; have ht := top_range h
  unfold oneL at ha
  split at ha
  · simp at ha; omega
  · split at ha
    · simp at ha; omega
    · have h1 : 1 ≤ topI k p n := by
        have h3 := fun hk => top_cap (k := k) (p := p) (n := n) h hk; have h2 := fun hk => top_poly (k := k) (p := p) (n := n) h hk
        unfold ringL at h
        have h1 := fun hk => top_1 (k := k) (p := p) (n := n) hk
        rcases h with h | h | h | h | h | h
        · have := h1 h.1; omega
        · have := h2 (.inl h.1); omega
        · have := h3 h.1; omega
        · omega
        · have := h2 (.inr (.inl h.1)); omega
        · have := h2 (.inr (.inr h.1)); omega
      rcases List.mem_or_eq_of_mem_set ha with ha | ha
      · have := List.eq_of_mem_replicate ha; omega
      · omega
theorem elt_mem {xs : List Int} {w i a : Int} (h : a ∈ elt xs w i) : a ∈ xs := List.mem_of_mem_drop (List.mem_of_mem_take h)
theorem elt_inR {k p n : Int} {t : Ten} (h : tensorL k p n t.l t.d t.x) {i : Int} (h0 : 0 ≤ i) (h1 : i < prodI t.d) : InR k p n (elt t.x (widthI k n) i) := by
  have hw := width_range h.1; refine ⟨?_, fun a ha => h.2.2.2 a (elt_mem ha)⟩; have hsz := h.2.2.1; have hs := sizeI_ge.1 h.2.1; rw [sizeI_yes hs.1 hs.2] at hsz; have := Int.mul_le_mul_of_nonneg_right (show i + 1 ≤ prodI t.d by omega) (show 0 ≤ widthI k n by omega); have h2 := Int.mul_nonneg h0 (show 0 ≤ widthI k n by omega); rw [Int.add_mul, Int.one_mul] at this; simp only [elt, List.length_take, List.length_drop]
  omega
theorem elt_fits {k p n : Int} {t : Ten} (h : tensorL k p n t.l t.d t.x) {i : Int} (h1 : i < prodI t.d) : i * widthI k n + widthI k n ≤ t.x.length ∧ t.x.length ≤ 17592186044416 := by
  have hw := width_range h.1; have hsz := h.2.2.1; have hs := sizeI_ge.1 h.2.1; rw [sizeI_yes hs.1 hs.2] at hsz; have := Int.mul_le_mul_of_nonneg_right (show i + 1 ≤ prodI t.d by omega) (show 0 ≤ widthI k n by omega); rw [Int.add_mul, Int.one_mul] at this; have h3 : prodI t.d * widthI k n ≤ 4096 * 6 := Int.mul_le_mul hs.2 hw.2 (by omega) (by omega)
  omega
theorem steps_in {labels ls ds : List Int} (hd : ∀ d ∈ ds, 1 ≤ d) : ∀ a ∈ stepsL labels ls ds, 0 ≤ a ∧ a ≤ prodI ds := fun a ha => by
  simp only [stepsL, List.mem_map] at ha; obtain ⟨x, _, rfl⟩ := ha; exact strOf_range hd x
/-- What is asked of the numbers at the labels. -/
structure AtOK (k p n : Int) (ts : List Ten) (labels vs : List Int) : Prop where
  ring : ringL k p n
  ten : ∀ t ∈ ts, tensorL k p n t.l t.d t.x
  nodup : labels.Nodup
  mem : ∀ t ∈ ts, ∀ x ∈ t.l, x ∈ labels
  idx : ∀ t ∈ ts, idxIn t.d (idxAt labels vs t.l)
  len : vs.length = labels.length
  few : labels.length ≤ 100
  small : ∀ b ∈ vs, 0 ≤ b ∧ b ≤ 1048576
theorem AtOK.off {k p n : Int} {ts : List Ten} {labels vs : List Int} (h : AtOK k p n ts labels vs) {t : Ten} (ht : t ∈ ts) : 0 ≤ offL t.d (idxAt labels vs t.l) ∧ offL t.d (idxAt labels vs t.l) < prodI t.d := by
  have := offL_in (fun d hd => (dims_mem (axes_dims (tensor_axes (h.ten t ht))) d hd).1) (h.idx t ht)
  omega
end Go.Proofs.Ytehjljijionhaaa
namespace Go.Proofs.Ytehjljijionhaaa
set_option maxRecDepth 100000
open Go.RowKit
/-- 'HK' is 'HS', some parts of it forgotten. -/
def WkL : List PH → List PH → Prop
  | [], [] => True
  | h :: HS, k :: HK => (k = h ∨ k = emp) ∧ WkL HS HK
  | _, _ => False
def blankL : List Bool → List PH → List PH
  | true :: B, _ :: HS => emp :: blankL B HS
  | false :: B, h :: HS => h :: blankL B HS
  | _, HS => HS
theorem WkL.refl : ∀ HS, WkL HS HS
  | [] => trivial
  | _ :: HS => ⟨.inl rfl, WkL.refl HS⟩
theorem WkL.blank : ∀ (B : List Bool) (HS : List PH), WkL HS (blankL B HS)
  | [], HS => by unfold blankL; exact WkL.refl HS
  | true :: _, [] => trivial
  | false :: _, [] => trivial
  | true :: B, h :: HS => ⟨.inr rfl, WkL.blank B HS⟩
  | false :: B, h :: HS => ⟨.inl rfl, WkL.blank B HS⟩
theorem WkL.le : ∀ {HS HK : List PH}, WkL HS HK → ∀ x ∈ HK, x = emp ∨ x ∈ HS
  | [], [], _, x, h => by simp at h
  | _ :: _, [], h, _, _ => h.elim
  | [], _ :: _, h, _, _ => h.elim
  | h :: HS, k :: HK, w, x, hx => by
    rcases List.mem_cons.1 hx with rfl | hx
    · rcases w.1 with e | e
      · exact .inr (by simp [e])
      · exact .inl e
    · rcases WkL.le w.2 x hx with e | e
      · exact .inl e
      · exact .inr (by simp [e])
theorem WkL.sep : ∀ {HS HK : List PH}, WkL HS HK → sepL HS → sepL HK
  | [], [], _, _ => trivial
  | _ :: _, [], h, _ => h.elim
  | [], _ :: _, h, _ => h.elim
  | h :: HS, k :: HK, w, s => by
    refine ⟨fun x hx => ?_, WkL.sep w.2 s.2⟩
    rcases w.1 with rfl | rfl
    · rcases WkL.le w.2 x hx with rfl | e
      · exact PDj.symm (PDj.emp _)
      · exact s.1 x e
    · exact PDj.emp _
theorem WkL.sat {w0 w : World} {HS HK : List PH} (h : WkL HS HK) (s : Sat w0 HS w) : Sat w0 HK w := by
  refine ⟨s.os, s.tape, s.output, s.size, h.sep s.sep, fun x hx => ?_⟩
  rcases h.le x hx with rfl | e
  · exact PLe.emp _
  · exact s.le x e
theorem WkL.set : ∀ {HS HK : List PH} {p : Nat} {h' : PH}, WkL HS HK → HK[p]? = some emp → WkL (HS.set p h') HK
  | [], [], _, _, _, e => by simp at e
  | _ :: _, [], _, _, h, _ => h.elim
  | [], _ :: _, _, _, h, _ => h.elim
  | h :: HS, k :: HK, 0, h', w, e => by
    simp only [List.getElem?_cons_zero, Option.some.injEq] at e; exact ⟨.inr e, w.2⟩
  | h :: HS, k :: HK, p + 1, h', w, e => ⟨w.1, WkL.set (p := p) w.2 (by simpa using e)⟩
section
variable (P : Program) (n : Nat) (w0 : World)
def RK (ops : Array Oper) (m : Nat) (Q : Exit → Act → World → Prop) (order : List (Nat × Bool)) (listed : Array Bool) (K : Env) (HS HK : List PH) : Prop :=
  WkL HS HK → (∀ i s r, order = (i, s) :: r → i < m → HeadInv .any ops m listed) → chk ops m order listed = true → (Region.noSelect ops && tailOK ops m) = true →
  ∀ (a : Act) (w : World), EnvOK n K a → Sat w0 HS w → RAny P ops Q (Sat w0 HK) m order.length listed a w
end
section
variable {P : Program} {n : Nat} {w0 : World} {K : Env} {HS HK : List PH} {Q : Exit → Act → World → Prop} {ops : Array Oper} {m : Nat} {r : List (Nat × Bool)} {listed : Array Bool}
theorem wp_rk {id : Nat} {l : List Oper} (B : List Bool) (m : Nat) (order : List (Nat × Bool)) (hm : P.follows .mixedOrders = true)
    (hc : (chk l.toArray m order (Array.replicate l.toArray.size false) && (Region.noSelect l.toArray && tailOK l.toArray m) && decide (order.length = l.toArray.size)) = true)
    (h : RK P n w0 l.toArray m Q order (Array.replicate l.toArray.size false) K HS (blankL B HS)) : WP P n w0 (.region id l.toArray true) Q K HS := fun a w e s => by
  rw [Bool.and_eq_true, Bool.and_eq_true] at hc; obtain ⟨⟨h1, h2⟩, h3⟩ := hc; have hm' : m ≤ l.toArray.size := by
    simp only [Bool.and_eq_true, tailOK, Bool.or_eq_true, decide_eq_true_eq] at h2
    omega
  have inv0 : HeadInv .any l.toArray m (Array.replicate l.toArray.size false) :=
    ⟨by simp, fun j oj _ hl => (by rw [getD_replicate_false] at hl; cases hl), fun t _ ht => getD_in (by simpa using ht) (getD_replicate_false _ _)⟩
  have H := h (WkL.blank B HS) (fun _ _ _ _ _ => inv0) h1 h2 a { w with drawn := w.drawn + 1 } e ⟨s.os, s.tape, s.output, s.size, s.sep, s.le⟩; rw [of_decide_eq_true h3] at H; exact Code.wp_mono OnlyN.imp (wp_region_any hm (rany_any _ _ _ _ H))
theorem rk_end (h : QS n w0 Q .normal K HS) : RK P n w0 ops m Q [] listed K HS HK := fun _ _ hc _ a w e s => ⟨by simpa [chk] using hc, h a w e s⟩
theorem rk_yield {i : Nat} {oi : Oper} {v : Value} (hi : ops[i]? = some oi) (hy : ∀ a, EnvOK n K a → YieldsIf P ops (Sat w0 HK) oi v a) (hf : fitsK n oi.dst = true)
    (k : RK P n w0 ops m Q r (listed.setIfInBounds i true) (putK oi.dst v K) HS HK) : RK P n w0 ops m Q ((i, true) :: r) listed K HS HK := fun hwk hinv hc ht a w e s => by
  simp only [chk, Bool.and_eq_true, decide_eq_true_eq] at hc; obtain ⟨⟨⟨him, hr⟩, hfr⟩, hc'⟩ := hc; have inv := hinv i true r rfl him; have hr' : i ∈ Region.ready .any ops listed := by simpa using hr
  have ht' := ht; rw [Bool.and_eq_true] at ht'; exact rany_first hi (Region.noSelect_spec ht'.1) him ht'.2 _ listed a w inv (Region.free_spec hi hfr) hr' (hy a e) (hwk.sat s)
    (k hwk (fun _ _ _ _ _ => inv.set hr' him) hc' ht _ _ (e.put v hf) s)
theorem rk_v {i : Nat} {oi : Oper} {v : Value} (hi : ops[i]? = some oi) (hw : wantK ops K oi.guard = some true) (hv : StepV P n w0 K HK oi v) (hf : fitsK n oi.dst = true)
    (k : RK P n w0 ops m Q r (listed.setIfInBounds i true) (putK oi.dst v K) HS HK) : RK P n w0 ops m Q ((i, true) :: r) listed K HS HK :=
  rk_yield hi (fun a e => .inl ⟨e.wanted hw, fun w s => hv a w e s⟩) hf k
theorem rk_only {i : Nat} {oi : Oper} (hi : ops[i]? = some oi) (h : (∀ i' s' r', r = (i', s') :: r' → i' < m → i < m) → chk ops m r (listed.setIfInBounds i true) = true → (m ≤ i → ∀ j, j < m → (listed.setIfInBounds i true).getD j false = true) →
      (Region.noSelect ops && tailOK ops m) = true → (i < m → HeadInv .any ops m (listed.setIfInBounds i true)) → WkL HS HK →
      ∀ a w, EnvOK n K a → Sat w0 HS w → wpOp P ops (OnlyN Q) i (fun a' w' => (i < m → Sat w0 HK w') ∧ RAny P ops Q (Sat w0 HK) m r.length (listed.setIfInBounds i true) a' w') a w) :
    RK P n w0 ops m Q ((i, false) :: r) listed K HS HK := fun hwk hinv hc ht a w e s => by
  simp only [chk, Bool.and_eq_true, decide_eq_true_eq, Bool.or_eq_true, List.all_eq_true, List.mem_range] at hc; obtain ⟨⟨hr, hd⟩, hc'⟩ := hc; have hmem : i ∈ Region.ready .any ops listed := by rw [hr]; simp
  refine ⟨fun h0 => (by rw [hr] at h0; cases h0), fun j hj => ?_⟩; rw [hr] at hj; have : j = i := by simpa using hj
  subst this; refine h (fun i' s' r' e' hlt => ?_) hc' (fun hmi j' hj' => ?_) ht (fun him => (hinv j false r rfl him).set hmem him) hwk a w e s
  · rcases hd with hd | hd
    · exact hd
    · have := hd.2 (i', s') (by rw [e']; simp)
      simp only at this
      omega
  · rcases hd with hd | hd
    · omega
    · exact getD_set_true (hd.1 j' hj')
theorem rk_fv {i : Nat} {oi : Oper} {v : Value} (hi : ops[i]? = some oi) (hw : wantK ops K oi.guard = some true) (hv : StepV P n w0 K HS oi v) (hf : fitsK n oi.dst = true)
    (k : RK P n w0 ops m Q r (listed.setIfInBounds i true) (putK oi.dst v K) HS HK) : RK P n w0 ops m Q ((i, false) :: r) listed K HS HK :=
  rk_only hi fun h1 h2 _ h4 h5 hwk a w e s => by
    have hy : YieldsIf P ops (Sat w0 HS) oi v a := .inl ⟨e.wanted hw, fun w s => hv a w e s⟩; exact hy.wpOp hi s ⟨fun _ => hwk.sat s, k hwk (fun i' s' r' e' hlt => h5 (h1 i' s' r' e' hlt)) h2 h4 _ _ (e.put v hf) s⟩
theorem rk_x {i : Nat} {oi : Oper} {T : Value → PH → Prop} (hi : ops[i]? = some oi) (hw : wantK ops K oi.guard = some true) (hx : StepX P n w0 K HS oi emp T) (hf : fitsK n oi.dst = true)
    (k : ∀ v h', T v h' → RK P n w0 ops m Q r (listed.setIfInBounds i true) (putK oi.dst v K) (h' :: HS) (h' :: HK)) : RK P n w0 ops m Q ((i, false) :: r) listed K HS HK :=
  rk_only hi fun h1 h2 _ h4 h5 hwk a w e s => by
    unfold wpOp
    simp only [hi]; rw [if_pos (e.wanted hw)]; refine .inl (Oper.wp_imp (hx a w e s) (fun a' w' ⟨v, h', ha, u, ht⟩ => ?_) (fun _ _ _ f => f.elim)); subst ha; exact ⟨fun _ => hwk.sat (s.same u), rany_mono (fun _ t => t.drop) _ _ _ _ (k v h' ht ⟨.inl rfl, hwk⟩ (fun i' s' r' e' hlt => h5 (h1 i' s' r' e' hlt)) h2 h4 _ _ (e.put v hf) (s.new u))⟩
/-- Ahead of the tail or in it: a part that nothing hoisted looks at is turned. -/
theorem rk_m {i : Nat} {oi : Oper} (p : Nat) {h : PH} {T : Value → PH → Prop} (hi : ops[i]? = some oi) (hb : HK[p]? = some emp) (hw : wantK ops K oi.guard = some true) (hp : HS[p]? = some h) (hx : StepX P n w0 K HS oi h T) (hf : fitsK n oi.dst = true)
    (k : ∀ v h', T v h' → RK P n w0 ops m Q r (listed.setIfInBounds i true) (putK oi.dst v K) (HS.set p h') HK) : RK P n w0 ops m Q ((i, false) :: r) listed K HS HK :=
  rk_only hi fun h1 h2 _ h4 h5 hwk a w e s => by
    unfold wpOp
    simp only [hi]; rw [if_pos (e.wanted hw)]; refine .inl (Oper.wp_imp (hx a w e s) (fun a' w' ⟨v, h', ha, u, ht⟩ => ?_) (fun _ _ _ f => f.elim)); subst ha; have hwk' : WkL (HS.set p h') HK := hwk.set hb; exact ⟨fun _ => hwk'.sat (s.upd hp u), k v h' ht hwk' (fun i' s' r' e' hlt => h5 (h1 i' s' r' e' hlt)) h2 h4 _ _ (e.put v hf) (s.upd hp u)⟩
/-- In the tail. -/
theorem rk_mt {i : Nat} {oi : Oper} (p : Nat) {h : PH} {T : Value → PH → Prop} (hi : ops[i]? = some oi) (hmi : decide (m ≤ i) = true) (hw : wantK ops K oi.guard = some true) (hp : HS[p]? = some h) (hx : StepX P n w0 K HS oi h T) (hf : fitsK n oi.dst = true)
    (k : ∀ v h', T v h' → RK P n w0 ops m Q r (listed.setIfInBounds i true) (putK oi.dst v K) (HS.set p h') (HS.set p h')) : RK P n w0 ops m Q ((i, false) :: r) listed K HS HK :=
  rk_only hi fun h1 h2 h3 h4 h5 _ a w e s => by
    unfold wpOp
    simp only [hi]; rw [if_pos (e.wanted hw)]; refine .inl (Oper.wp_imp (hx a w e s) (fun a' w' ⟨v, h', ha, u, ht⟩ => ?_) (fun _ _ _ f => f.elim)); subst ha; have hmi' := of_decide_eq_true hmi; exact ⟨fun hlt => absurd hlt (by omega), rany_tail _ _ _ _ (h3 hmi') (k v h' ht (WkL.refl _) (fun i' s' r' e' hlt => h5 (h1 i' s' r' e' hlt)) h2 h4 _ _ (e.put v hf) (s.upd hp u))⟩
end
end Go.Proofs.Ytehjljijionhaaa
namespace Go.Proofs.Ytehjljijionhaaa
set_option maxRecDepth 100000
open Go.RowKit
structure Stp where
  a : Int
  b : Int
def stepCells (ss : List Stp) : List Value := ss.flatMap fun s => [num s.a, num s.b]
theorem stepCells_len : ∀ ss : List Stp, (stepCells ss).length = ss.length * 2
  | [] => rfl
  | s :: r => by
    have := stepCells_len r; simp only [stepCells, List.flatMap_cons, List.length_append, List.length_cons, List.length_nil] at *
    omega
theorem stepCells_at : ∀ {ss : List Stp} {i : Nat} {s : Stp}, ss[i]? = some s → ((stepCells ss).drop (i * 2)).take 2 = [num s.a, num s.b]
  | [], i, s, h => by simp at h
  | u :: r, 0, s, h => by cases h; rfl
  | u :: r, i + 1, s, h => by
    have ih := stepCells_at (ss := r) (i := i) (s := s) (by simpa using h); rw [show (i + 1) * 2 = i * 2 + 1 + 1 by omega]; exact ih
theorem stepCells_append (a b : List Stp) : stepCells (a ++ b) = stepCells a ++ stepCells b := by simp [stepCells]
abbrev stepV (a b : Int) : Value := .agg [num a, num b].toArray
def StepsR (ss : List Stp) (v : Value) (h : PH) : Prop := RowR (stepCells ss) ss.length 2 v h
def StepsO (ss : List Stp) (v : Value) (h : PH) : Prop := RowO 84 (stepCells ss) ss.length 2 v h
theorem StepsR.mono {ss : List Stp} {v : Value} {h h' : PH} (r : StepsR ss v h) (l : PLe h h') : StepsR ss v h' := RowR.mono r l
theorem StepsO.toR {ss : List Stp} {v : Value} {h : PH} (r : StepsO ss v h) : StepsR ss v h := RowO.toR r
theorem StepsR.sl {ss : List Stp} {v : Value} {h : PH} (r : StepsR ss v h) : SlL v ss.length := RowR.sl r
theorem StepsR.le {ss : List Stp} {v : Value} {h : PH} (r : StepsR ss v h) : (ss.length : Int) ≤ 9223372036854775807 := by
  obtain ⟨_, a, c, _, ⟨h, _⟩, _⟩ := r
  unfold maxLen at h
  omega
theorem StepsR.at {ss : List Stp} {v : Value} {h : PH} (r : StepsR ss v h) : ∃ cells, RowR cells ss.length 2 v h ∧ ∀ i, i < ss.length → ∃ x, ss[i]? = some x ∧ (cells.drop (i * 2)).take 2 = [num x.a, num x.b] :=
  ⟨_, r, fun _ hi => ⟨_, List.getElem?_eq_getElem hi, stepCells_at (List.getElem?_eq_getElem hi)⟩⟩
theorem StepsO.nil : StepsO [] (.slice none 0 0) emp := ⟨rfl, .inl ⟨rfl, rfl, rfl⟩⟩
section
variable {P : Program} {n : Nat} {w0 : World} {K : Env} {HS : List PH} {d : Option Tmp} {ty : TypeId} {ps : String} {af : Array Edge} {g : Option (Nat × Bool)}
theorem v_nilCheck {x : Operand} {a : Addr} (hx : ev K x = some (.pointer (some a))) : StepV P n w0 K HS ⟨d, .nilCheck x, ty, ps, af, g⟩ (.pointer (some a)) := fun ac w e _ => by simp [execOp, e.ev hx]
end
structure Lv where
  n : Int
  l : List Int
def LvR (x : Lv) (cs : List Value) (h : PH) : Prop := ∃ v, cs = [num x.n, v] ∧ IntsR x.l v h
theorem LvR.mono {x : Lv} {cs : List Value} {h h' : PH} (r : LvR x cs h) (l : PLe h h') : LvR x cs h' := let ⟨v, e, r⟩ := r; ⟨v, e, r.mono l⟩
def LiveR (xs : List Lv) (v : Value) (h : PH) : Prop := RowsR 2 LvR xs v h
theorem LiveR.mono {xs : List Lv} {v : Value} {h h' : PH} (r : LiveR xs v h) (l : PLe h h') : LiveR xs v h' := RowsR.mono (R := LvR) LvR.mono r l
theorem LiveR.sl {xs : List Lv} {v : Value} {h : PH} (r : LiveR xs v h) : SlL v xs.length := RowsR.sl r
theorem LiveR.le {xs : List Lv} {v : Value} {h : PH} (r : LiveR xs v h) : (xs.length : Int) ≤ 9223372036854775807 := RowsR.le r
theorem LiveR.at {xs : List Lv} {v : Value} {h : PH} (r : LiveR xs v h) : ∃ cells, RowR cells xs.length 2 v h ∧ ∀ i, i < xs.length → ∃ x a, xs[i]? = some x ∧ (cells.drop (i * 2)).take 2 = [num x.n, a] ∧ IntsR x.l a h := by
  obtain ⟨cells, rr, hc⟩ := r; refine ⟨cells, rr, fun i hi => ?_⟩; have ht : xs[i]? = some xs[i] := List.getElem?_eq_getElem hi; obtain ⟨a, e, r1⟩ := hc i _ ht; exact ⟨_, a, ht, e, r1⟩
/-- The elements' cells, read in h. -/
def LvL (xs : List Lv) (cs : List Value) (h : PH) : Prop := cs.length = xs.length * 2 ∧ ∀ (i : Nat) (x : Lv), xs[i]? = some x → LvR x ((cs.drop (i * 2)).take 2) h
theorem LvL.nil (h : PH) : LvL [] [] h := ⟨rfl, fun i x e => by simp at e⟩
theorem LvL.mono {xs : List Lv} {cs : List Value} {h h' : PH} (r : LvL xs cs h) (l : PLe h h') : LvL xs cs h' := ⟨r.1, fun i x e => (r.2 i x e).mono l⟩
theorem LvL.snoc {xs : List Lv} {cs : List Value} {h : PH} (r : LvL xs cs h) {x : Lv} {a : Value} (r1 : IntsR x.l a h) : LvL (xs ++ [x]) (cs ++ [num x.n, a]) h := by
  refine ⟨by simp [r.1]; omega, fun i y e => ?_⟩
  by_cases hi : i < xs.length
  · rw [List.getElem?_append_left hi] at e; have := r.2 i y e; have e2 : ((cs ++ [num x.n, a]).drop (i * 2)).take 2 = (cs.drop (i * 2)).take 2 := by
      rw [List.drop_append, List.take_append]; have hl : 2 - (cs.drop (i * 2)).length = 0 := by simp [r.1]; omega
      rw [hl, List.take_zero, List.append_nil]
    rw [e2]; exact this
  · have hlt := (List.getElem?_eq_some_iff.1 e).1
    simp at hlt
    have : i = xs.length := by omega
    subst this; rw [List.getElem?_append_right (by omega)] at e
    simp at e
    subst e; have e2 : ((cs ++ [num x.n, a]).drop (xs.length * 2)).take 2 = [num x.n, a] := by
      rw [← r.1, List.drop_left]; rfl
    rw [e2]; exact ⟨a, rfl, r1⟩
theorem LvL.live {xs : List Lv} {cs : List Value} {v : Value} {h : PH} (r : LvL xs cs h) (rr : RowR cs xs.length 2 v h) : LiveR xs v h := ⟨cs, rr, r.2⟩
def joinI (a b : List Int) : List Int := a ++ b.filter fun x => decide (x ∉ a)
structure Sh where
  all : List (List Int)
  gone : List Bool
def Sh.lab (s : Sh) (i : Nat) : List Int := s.all.getD i []
def Sh.ok (s : Sh) : Prop := s.gone.length = s.all.length
def Sh.live (s : Sh) (a : Int) : Prop := 0 ≤ a ∧ a < s.all.length ∧ s.gone.getD a.toNat false = false
def Sh.ixs (s : Sh) : List Nat := (List.range s.all.length).filter fun i => !s.gone.getD i false
def Sh.lv (s : Sh) : List Lv := s.ixs.map fun (i : Nat) => ⟨i, s.lab i⟩
def Sh.kept (op : List Int) (s : Sh) (a b : Nat) (x : Int) : Prop := x ∈ op ∨ ∃ i ∈ s.ixs, i ≠ a ∧ i ≠ b ∧ x ∈ s.lab i
open Classical in
noncomputable def Sh.res (op : List Int) (s : Sh) (a b : Nat) : List Int := (joinI (s.lab a) (s.lab b)).filter fun x => decide (s.kept op a b x)
noncomputable def Sh.step (op : List Int) (s : Sh) (a b : Nat) : Sh := ⟨s.all ++ [s.res op a b], ((s.gone.set a true).set b true) ++ [false]⟩
theorem Sh.step_ok {op : List Int} {s : Sh} (h : s.ok) (a b : Nat) : (s.step op a b).ok := by simp only [Sh.ok, Sh.step, List.length_append, List.length_set] at *; simp [h]
theorem ixs_nodup (s : Sh) : s.ixs.Nodup := List.Pairwise.filter _ List.nodup_range
theorem mem_ixs {s : Sh} {i : Nat} : i ∈ s.ixs ↔ i < s.all.length ∧ s.gone.getD i false = false := by simp [Sh.ixs]
theorem live_ixs {s : Sh} {a : Int} : s.live a ↔ 0 ≤ a ∧ a.toNat ∈ s.ixs := by
  rw [mem_ixs]
  unfold Sh.live
  constructor
  · rintro ⟨h1, h2, h3⟩; exact ⟨h1, by omega, h3⟩
  · rintro ⟨h1, h2, h3⟩; exact ⟨h1, by omega, h3⟩
theorem lv_len (s : Sh) : s.lv.length = s.ixs.length := by simp [Sh.lv]
theorem lv_get {s : Sh} {k : Nat} {x : Lv} (h : s.lv[k]? = some x) : ∃ i, s.ixs[k]? = some i ∧ x = ⟨i, s.lab i⟩ := by
  simp only [Sh.lv, List.getElem?_map, Option.map_eq_some_iff] at h; obtain ⟨i, h1, h2⟩ := h; exact ⟨i, h1, h2.symm⟩
theorem ixs_lt {s : Sh} {k i : Nat} (h : s.ixs[k]? = some i) : i < s.all.length := (mem_ixs.1 (List.mem_of_getElem? h)).1
theorem ixs_inj {s : Sh} {k j i : Nat} (h : s.ixs[k]? = some i) (h' : s.ixs[j]? = some i) : k = j := by
  have hk := (List.getElem?_eq_some_iff.1 h).1; exact (List.getElem?_inj hk (ixs_nodup s)).1 (h.trans h'.symm)
/-- The place of a number among what is live. -/
def Sh.place (s : Sh) (a : Int) : Int := findI (s.ixs.map Int.ofNat) a
theorem place_ge {s : Sh} {a : Int} : 0 ≤ s.place a ↔ s.live a := by
  rw [Sh.place, findI_ge, live_ixs, List.mem_map]
  constructor
  · rintro ⟨i, hi, rfl⟩; exact ⟨Int.natCast_nonneg i, by simpa using hi⟩
  · rintro ⟨h1, h2⟩; exact ⟨_, h2, show ((a.toNat : Nat) : Int) = a by omega⟩
theorem place_at {s : Sh} {a : Int} (h : s.live a) : s.ixs[(s.place a).toNat]? = some a.toNat ∧ (s.place a).toNat < s.ixs.length := by
  have hm : a ∈ s.ixs.map Int.ofNat := findI_ge.1 (place_ge.2 h); have hg := findI_get hm; rw [List.length_map] at hg; refine ⟨?_, hg.1⟩; have h2 := hg.2; have hk : (findI (s.ixs.map Int.ofNat) a).toNat < s.ixs.length := hg.1; simp only [List.getD, List.getElem?_map, List.getElem?_eq_getElem hk, Option.map_some, Option.getD_some] at h2; rw [Sh.place, List.getElem?_eq_getElem hk]
  congr 1
  have h3 : ((s.ixs[(findI (s.ixs.map Int.ofNat) a).toNat] : Nat) : Int) = a := h2
  omega
/-- What is live besides the places p and q, of the first k. -/
def dropTo (lv : List Lv) (p q : Nat) : Nat → List Lv
  | 0 => []
  | k + 1 => if k ≠ p ∧ k ≠ q then dropTo lv p q k ++ (lv[k]?).toList else dropTo lv p q k
theorem dropTo_lv {s : Sh} {p q a b : Nat} (hp : s.ixs[p]? = some a) (hq : s.ixs[q]? = some b) : ∀ k, k ≤ s.ixs.length → dropTo s.lv p q k = ((s.ixs.take k).filter fun i => decide (i ≠ a ∧ i ≠ b)).map fun (i : Nat) => ⟨i, s.lab i⟩
  | 0, _ => by simp [dropTo]
  | k + 1, hk => by
    have ih := dropTo_lv hp hq k (by omega); have hi : s.ixs[k]? = some s.ixs[k] := List.getElem?_eq_getElem (by omega); have e1 : k = p ↔ s.ixs[k] = a := ⟨fun e => by subst e; rw [hi] at hp; exact Option.some.inj hp, fun e => ixs_inj (e ▸ hi) hp⟩
    have e2 : k = q ↔ s.ixs[k] = b := ⟨fun e => by subst e; rw [hi] at hq; exact Option.some.inj hq, fun e => ixs_inj (e ▸ hi) hq⟩
    rw [List.take_succ_eq_append_getElem (by omega), List.filter_append, List.map_append, dropTo, ih]; have hl : s.lv[k]? = some ⟨s.ixs[k], s.lab s.ixs[k]⟩ := by rw [Sh.lv, List.getElem?_map, hi]; rfl
    rw [hl]
    by_cases hc : k ≠ p ∧ k ≠ q
    · have : s.ixs[k] ≠ a ∧ s.ixs[k] ≠ b := ⟨fun e => hc.1 (e1.2 e), fun e => hc.2 (e2.2 e)⟩
      rw [if_pos hc]
      simp [this]
    · have : ¬ (s.ixs[k] ≠ a ∧ s.ixs[k] ≠ b) := fun e => hc ⟨fun e' => e.1 (e1.1 e'), fun e' => e.2 (e2.1 e')⟩; rw [if_neg hc]
      simp [this]
theorem getD_append_left {α : Type} {l r : List α} {i : Nat} {d : α} (h : i < l.length) : (l ++ r).getD i d = l.getD i d := by simp [List.getD, List.getElem?_append_left h]
theorem step_ixs {op : List Int} {s : Sh} (h : s.ok) {a b : Nat} : (s.step op a b).ixs = (s.ixs.filter fun i => decide (i ≠ a ∧ i ≠ b)) ++ [s.all.length] := by
  have hl : (s.step op a b).all.length = s.all.length + 1 := by simp [Sh.step]
  have hg : (s.step op a b).gone.getD s.all.length false = false := by
    have : ((s.gone.set a true).set b true).length = s.all.length := by simpa [Sh.ok] using h
    simp only [Sh.step, List.getD]; rw [List.getElem?_append_right (by omega), this]
    simp
  unfold Sh.ixs
  rw [hl, List.range_succ, List.filter_append, List.filter_filter]
  congr 1
  · apply List.filter_congr
    intro i hi; have hi' : i < s.all.length := by simpa using hi
    have e : (s.step op a b).gone.getD i false = if i = a ∨ i = b then true else s.gone.getD i false := by
      have hlen : i < s.gone.length := by rw [h]; exact hi'
      rw [Sh.step, getD_append_left (by simpa using hlen)]; simp only [List.getD, List.getElem?_set, List.length_set]
      by_cases e1 : b = i
      · subst e1; simp [hlen]
      · by_cases e2 : a = i
        · subst e2; simp [hlen, e1]
        · simp [e1, e2, Ne.symm e1, Ne.symm e2]
    rw [e]
    by_cases hc : i = a ∨ i = b
    · rw [if_pos hc]; rcases hc with rfl | rfl <;> simp
    · rw [if_neg hc]; have : i ≠ a ∧ i ≠ b := ⟨fun e => hc (.inl e), fun e => hc (.inr e)⟩
      simp [this]
  · rw [List.filter_cons_of_pos (by rw [hg]; rfl)]; rfl
theorem step_lab {op : List Int} {s : Sh} {a b i : Nat} (hi : i < s.all.length) : (s.step op a b).lab i = s.lab i := by rw [Sh.lab, Sh.step, getD_append_left hi]; rfl
theorem step_lab_new {op : List Int} {s : Sh} {a b : Nat} : (s.step op a b).lab s.all.length = s.res op a b := by simp [Sh.lab, Sh.step, List.getD]
/-- The program's list of what is live, behind a step. -/
theorem step_lv {op : List Int} {s : Sh} (h : s.ok) {p q a b : Nat} (hp : s.ixs[p]? = some a) (hq : s.ixs[q]? = some b) : (s.step op a b).lv = dropTo s.lv p q s.lv.length ++ [⟨(s.all.length : Nat), s.res op a b⟩] := by
  rw [lv_len, dropTo_lv hp hq _ (Nat.le_refl _), List.take_length, Sh.lv, step_ixs h, List.map_append]
  congr 1
  · refine List.map_congr_left fun i hi => ?_; have := (mem_ixs.1 (List.mem_filter.1 hi).1).1; rw [step_lab this]
  · simp [step_lab_new]
/-- In terms of places. -/
theorem kept_places {op : List Int} {s : Sh} {p q a b : Nat} (hp : s.ixs[p]? = some a) (hq : s.ixs[q]? = some b) (x : Int) : s.kept op a b x ↔ x ∈ op ∨ ∃ k, k < s.lv.length ∧ k ≠ p ∧ k ≠ q ∧ ∃ y, s.lv[k]? = some y ∧ x ∈ y.l := by
  unfold Sh.kept
  refine or_congr Iff.rfl ⟨?_, ?_⟩
  · rintro ⟨i, hi, h1, h2, h3⟩; obtain ⟨k, hk⟩ := List.getElem?_of_mem hi; refine ⟨k, by rw [lv_len]; exact (List.getElem?_eq_some_iff.1 hk).1, ?_, ?_, ⟨i, s.lab i⟩, by rw [Sh.lv, List.getElem?_map, hk]; rfl, h3⟩
    · rintro rfl; rw [hk] at hp; exact h1 (Option.some.inj hp)
    · rintro rfl; rw [hk] at hq; exact h2 (Option.some.inj hq)
  · rintro ⟨k, hk, h1, h2, y, hy, h3⟩; obtain ⟨i, hi, rfl⟩ := lv_get hy; exact ⟨i, List.mem_of_getElem? hi, fun e => h1 (ixs_inj (e ▸ hi) hp), fun e => h2 (ixs_inj (e ▸ hi) hq), h3⟩
end Go.Proofs.Ytehjljijionhaaa
namespace Go.Proofs.Ytehjljijionhaaa
set_option maxRecDepth 100000
open Go.RowKit
def bplaces (P : Program) (t : TypeId) : Option (Array Value × List (Nat × Nat)) :=
  match P.info? t, P.underlying t with
  | some it, some (.struct fields) =>
    match it.zero, fields.toList.mapM (fun f => (P.info? f.type).map fun i => (f.offset, i.size)) with
    | some z, some places => some (z.cells, places)
    | _, _ => none
  | _, _ => none
theorem built_of {P : Program} {t : TypeId} {z : Array Value} {places : List (Nat × Nat)} (h : bplaces P t = some (z, places)) (parts : List (Nat × Value)) : P.built t parts = Instr.fill (places.toArray[·]?) z parts := by
  unfold bplaces at h
  unfold Program.built
  cases hi : P.info? t with
  | none => simp [hi] at h
  | some it =>
    cases hu : P.underlying t with
    | none => simp [hi, hu] at h
    | some d =>
      cases d <;> simp only [hi, hu] at h ⊢ <;> try (cases h; done)
      split at h
      · rename_i z' places' e1 e2
        simp only [Option.some.injEq, Prod.mk.injEq] at h; obtain ⟨rfl, rfl⟩ := h; simp only [e1, e2]
      · cases h
theorem fill_at {place : Nat → Option (Nat × Nat)} {A us B cs : List Value} {i off sz : Nat} {v : Value} {rest : List (Nat × Value)} (hp : place i = some (off, sz)) (hv : v.cells = us.toArray) (hu : us.length = sz) (ha : A.length = off) (hc : cs.length = sz) :
    Instr.fill place (A ++ cs ++ B).toArray ((i, v) :: rest) = Instr.fill place (A ++ us ++ B).toArray rest := by
  simp only [Instr.fill, hp, hv]; rw [if_neg (by simp; omega)]
  congr 1
  have hs := Great.foldl_set off us 0 (A ++ cs ++ B).toArray; rw [← Array.foldl_toList, Array.toList_zipIdx]
  apply Array.ext_getElem?
  intro k; rw [hs.2 k]; simp only [Nat.add_zero, List.size_toArray, List.getElem?_toArray, List.length_append]; subst ha
  by_cases h1 : k < A.length
  · rw [if_neg (by omega), List.append_assoc, List.append_assoc, List.getElem?_append_left h1, List.getElem?_append_left h1]
  · by_cases h2 : k < A.length + us.length
    · rw [if_pos (by omega), List.append_assoc, List.getElem?_append_right (by omega), List.getElem?_append_left (by omega)]
    · rw [if_neg (by omega), List.append_assoc, List.append_assoc, List.getElem?_append_right (by omega), List.getElem?_append_right (by omega), List.getElem?_append_right (by omega), List.getElem?_append_right (by omega)]
      congr 1
      omega
abbrev stCells (arr : List Int) (vo lvv : Value) (nx : Int) : List Value := ints arr ++ [vo, lvv, num nx]
theorem pre_get {xs : List Int} {cs : List Value} {u : Value} (h : xs.length = 100) (j : Nat) (hj : cs[j]? = some u) : (ints xs ++ cs)[100 + j]? = some u := by
  rw [List.getElem?_append_right (by rw [ints_length]; omega), ints_length, h, Nat.add_sub_cancel_left]; exact hj
theorem pre_set {xs : List Int} {cs : List Value} {u : Value} (h : xs.length = 100) (j : Nat) : (ints xs ++ cs).set (100 + j) u = ints xs ++ cs.set j u := by
  rw [List.set_append_right _ _ (by rw [ints_length]; omega), ints_length, h, Nat.add_sub_cancel_left]
section
variable {P : Program} {n : Nat} {w0 : World} {K : Env} {HS : List PH} {d : Option Tmp} {ty : TypeId} {ps : String} {af : Array Edge} {g : Option (Nat × Bool)}
end
abbrev ptrV (b : Nat) : Value := .pointer (some ⟨b, 0, none⟩)
/-- The state as it is read. -/
structure StR (arr : List Int) (vo lvv : Value) (s : Sh) (b : Nat) (h : PH) : Prop where
  len : arr.length = 100
  ok : s.ok
  cells : ∀ (j : Nat) (u : Value), (stCells arr vo lvv s.all.length)[j]? = some u → cellP h b j = some u
  live : LiveR s.lv lvv h
theorem StR.mono {arr : List Int} {vo lvv : Value} {s : Sh} {b : Nat} {h h' : PH} (r : StR arr vo lvv s b h) (l : PLe h h') : StR arr vo lvv s b h' := ⟨r.len, r.ok, fun j u e => cellP.mono l (r.cells j u e), r.live.mono l⟩
theorem StR.c100 {arr : List Int} {vo lvv : Value} {s : Sh} {b : Nat} {h : PH} (r : StR arr vo lvv s b h) : cellP h b 100 = some vo := r.cells 100 _ (pre_get r.len 0 rfl)
theorem StR.c101 {arr : List Int} {vo lvv : Value} {s : Sh} {b : Nat} {h : PH} (r : StR arr vo lvv s b h) : cellP h b 101 = some lvv := r.cells 101 _ (pre_get r.len 1 rfl)
theorem StR.arr {arr : List Int} {vo lvv : Value} {s : Sh} {b : Nat} {h : PH} (r : StR arr vo lvv s b h) : (ints arr).length = 100 ∧ ∀ (j : Nat) (u : Value), (ints arr)[j]? = some u → cellP h b (0 + 0 + j) = some u :=
  ⟨by rw [ints_length]; exact r.len, fun j u e => by
    rw [show 0 + 0 + j = j by omega]; refine r.cells j u ?_; rw [List.getElem?_append_left (List.getElem?_eq_some_iff.1 e).1]; exact e⟩
/-- The state that a call has for its own; 'hs' is what its slices lie in. -/
def StO (arr : List Int) (vo : Value) (s : Sh) (b : Nat) (h : PH) : Prop := arr.length = 100 ∧ s.ok ∧ ∃ lvv hs, LiveR s.lv lvv hs ∧ Made h [box b (stCells arr vo lvv s.all.length) 128, hs]
theorem StR.box {arr : List Int} {vo lvv : Value} {s : Sh} {b : Nat} {h : PH} (hl : arr.length = 100) (hok : s.ok) (hb : PLe (box b (stCells arr vo lvv s.all.length) 128) h) (r : LiveR s.lv lvv h) : StR arr vo lvv s b h :=
  ⟨hl, hok, fun j u e => cellP.mono hb (by rw [cellP_box]; exact e), r⟩
theorem StO.toR {arr : List Int} {vo : Value} {s : Sh} {b : Nat} {h : PH} (r : StO arr vo s b h) : ∃ lvv, StR arr vo lvv s b h := by
  obtain ⟨h1, h2, lvv, hs, h3, md⟩ := r; exact ⟨lvv, StR.box h1 h2 (md.le _ (by simp)) (h3.mono (md.le hs (by simp)))⟩
theorem ct_i_place (arr : List Int) (vo lvv : Value) (s : Sh) (b : Nat) (n : Int) (w : World) (r : StR arr vo lvv s b (hp w)) :
    Calls Try.prog 73 [.pointer (some ⟨b, 0, none⟩), num n].toArray w (RetV w (num (s.place n))) := by
  have rl := r.live; refine calls_in Try.func73 rfl Try.ntmps73 rfl (Sat.start w) ?_; have hle0 := rl.le; obtain ⟨cs_rl, rr_rl, hc_rl⟩ := rl.at; refine wp_sc (wp_sq ?_); refine sq_v rfl (v_assign rfl) rfl ?_; refine sq_end (qs_n (wp_sc (wp_sc (wp_sq ?_)))); refine sq_v rfl (v_move rfl) rfl ?_; refine sq_v rfl (v_nilCheck rfl) rfl ?_; refine sq_v rfl (v_fieldAddr fd_128_2 ty_126 (by decide) rfl) rfl ?_; refine sq_v rfl (v_load 0 ty_126 rfl rfl r.c101) rfl ?_; refine sq_v rfl (v_len Try.underlying126 rfl rl.sl) rfl ?_; refine sq_v rfl (v_move rfl) rfl ?_; refine sq_end (qs_n (wp_bl ?_)); refine wp_lp (σ := Nat) (fun z_ => [(1, num n), (4, num 0), (10, lvv), (11, num s.lv.length), (12, num z_)]) (fun z_ => [hp w]) (fun z_ => z_ ≤ s.lv.length ∧ (∀ j, j < z_ → (s.ixs.map Int.ofNat).getD j 0 ≠ n)) (fun z_ => s.lv.length - z_) 0 (⟨by omega, fun j hj => by omega⟩) ⟨rfl, rfl, rfl, rfl, (by first | rfl | exact ksub rfl (by first | omega | (simp; done) | (simp; omega))), trivial⟩ (fun _ s => s) ?_; rintro i ⟨hi, hn⟩; have hll := lv_len s; refine wp_sc (wp_sq ?_); refine sq_v rfl (v_lss rfl rfl) rfl ?_; refine sq_end (qs_n (wp_sc ?_)); refine wp_cd rfl (fun c13 => ?_) (fun c13 => ?_)
  · refine wp_sk (qs_n (wp_sc (wp_bl (wp_sc (wp_sq ?_))))); refine sq_v rfl (v_move rfl) rfl ?_; obtain ⟨x15, a15, hx15, hcs15, rl15⟩ := hc_rl (i) (by first | omega | (rw [List.length_set]; omega)); refine sq_v rfl (v_indexAddr Try.underlying126 ty_130 rfl rfl rr_rl (by decide) (by omega) (by omega)) rfl ?_; refine sq_v rfl (v_loadNE 0 ty_130 rfl rfl rr_rl (by have := rr_rl.1; omega) rfl hcs15) rfl ?_; refine sq_x rfl (x_alloc ty_130 rfl) rfl ?_; rintro _ _ ⟨b6, rfl, rfl⟩; refine sq_v rfl (v_assign rfl) rfl ?_; refine sq_m 0 rfl rfl (m_store 0 ty_130 rfl rfl rfl rfl (by simp [one_int, rl15.sl.one]) rfl (Nat.le_of_ble_eq_true rfl)) rfl ?_; rintro _ _ ⟨rfl, rfl⟩; refine sq_end ?_; obtain ⟨ix, hix, ex⟩ := lv_get hx15; subst ex; have hmg : (s.ixs.map Int.ofNat).getD i 0 = ix := by simp [List.getD, hix]
    refine qs_n (wp_sc (wp_sq ?_)); refine sq_v rfl (v_fieldAddr fd_130_0 ty_3 (by decide) rfl) rfl ?_; refine sq_v rfl (v_loadB 0 ty_3 rfl rfl rfl) rfl ?_; refine sq_v rfl (v_move rfl) rfl ?_; refine sq_v rfl (v_eql rfl rfl) rfl ?_; refine sq_end (qs_n ?_); refine wp_cd rfl (fun c20 => ?_) (fun c20 => ?_)
    · refine wp_sc (wp_sq ?_); refine sq_v rfl (v_move rfl) rfl ?_; refine sq_v rfl (v_assign rfl) rfl ?_; refine sq_end (qs_n (wp_rt (qs_br (qs_r (qs_r (qs_br (qs_r ?_))))))); exact qs_ret1 rfl rfl (fin_q (i := 1) rfl (by rw [Sh.place, idx_first hn (by rw [List.length_map]; omega) (by rw [hmg]; exact c20)]))
    · refine wp_sk (qs_bn (qs_n (wp_sq ?_))); refine sq_v rfl (v_add rfl rfl ((by unfold I64; omega))) rfl ?_; refine sq_v rfl (v_move rfl) rfl ?_; refine sq_end ?_; exact qs_bk (i + 1) ⟨by omega, step_all hn (by rw [hmg]; exact c20)⟩ (by omega) ⟨rfl, rfl, rfl, rfl, (by first | rfl | exact ksub rfl (by first | omega | (simp; done) | (simp; omega))), trivial⟩ (fun _ s => s.pick [1] (by decide) rfl)
  · refine wp_ex (qs_x (qs_x (qs_bx (qs_n (wp_sc (wp_sq ?_)))))); refine sq_v rfl (v_assign rfl) rfl ?_; refine sq_end (qs_n (wp_rt ?_)); exact qs_ret1 rfl rfl (fin_q (i := 0) rfl (by rw [Sh.place, findI_none (not_mem_of (fun j hj => hn j (by rw [List.length_map] at hj; omega)))]))
end Go.Proofs.Ytehjljijionhaaa
namespace Go.Proofs.Ytehjljijionhaaa
set_option maxRecDepth 100000
open Go.RowKit
theorem filter_yes {xs : List Int} {p : Int → Bool} {i : Nat} (h : i < xs.length) (hp : p (xs.getD i 0) = true) : (xs.take (i + 1)).filter p = (xs.take i).filter p ++ [xs.getD i 0] := by
  rw [take_succ h, List.filter_append, List.filter_cons_of_pos hp]; rfl
theorem filter_no {xs : List Int} {p : Int → Bool} {i : Nat} (h : i < xs.length) (hp : p (xs.getD i 0) = false) : (xs.take (i + 1)).filter p = (xs.take i).filter p := by
  rw [take_succ h, List.filter_append, List.filter_cons_of_neg (by rw [hp]; decide)]; simp
theorem filter_take_len (xs : List Int) (p : Int → Bool) (i : Nat) : ((xs.take i).filter p).length ≤ xs.length := by
  have := List.length_filter_le p (xs.take i); simp only [List.length_take] at this
  omega
theorem ct_i_joinLabels (xs ys : List Int) (v u : Value) (w : World) (r : IntsR xs v (hp w)) (r' : IntsR ys u (hp w)) (hs : xs.length + ys.length ≤ 1000000) :
    Calls Try.prog 106 [v, u].toArray w (Ret w emp (IntsO (joinI xs ys))) := by
  refine calls_in Try.func106 rfl Try.ntmps106 rfl (Sat.start w) ?_; have hle0 := r.le; have hle1 := r'.le; refine wp_sc (wp_sq ?_); refine sq_v rfl (v_assign rfl) rfl ?_; refine sq_end (qs_n (wp_sc (wp_sq ?_))); refine sq_v rfl (v_move rfl) rfl ?_; refine sq_x rfl (x_call rfl en_47 (fun w s => ct_i_copyInts _ _ w (r.mono (s.get 0 rfl)) (by first | assumption | omega))) rfl ?_; rintro v9 h9 r9; refine sq_v rfl (v_assign rfl) rfl ?_; refine sq_end (qs_n (wp_sc (wp_sc (wp_sq ?_)))); refine sq_v rfl (v_move rfl) rfl ?_; refine sq_v rfl (v_len Try.underlying25 rfl r'.sl) rfl ?_; refine sq_v rfl (v_move rfl) rfl ?_; refine sq_end (qs_n (wp_bl ?_)); refine wp_lp (σ := Nat × Value × PH) (fun z_ => [(0, v), (4, .slice none 0 0), (5, z_.2.1), (10, u), (11, num ys.length), (12, num z_.1)]) (fun z_ => [z_.2.2, hp w]) (fun z_ => z_.1 ≤ ys.length ∧ IntsO (xs ++ (ys.take z_.1).filter fun x => decide (x ∉ xs)) z_.2.1 z_.2.2) (fun z_ => ys.length - z_.1) (0, v9, h9) (⟨by (try dsimp only); omega, by (try dsimp only); simpa using r9⟩) ⟨rfl, rfl, (by first | rfl | exact ksub rfl (by first | omega | (simp; done) | (simp; omega))), rfl, rfl, (by first | rfl | exact ksub rfl (by first | omega | (simp; done) | (simp; omega))), trivial⟩ (fun _ s => s) ?_; rintro ⟨i, lv, lh⟩ ⟨hi, q⟩; dsimp only at hi q ⊢; have hle_q := q.toR.le; have hfl := filter_take_len ys (fun x => decide (x ∉ xs)) i; refine wp_sc (wp_sq ?_); refine sq_v rfl (v_lss rfl rfl) rfl ?_; refine sq_end (qs_n (wp_sc ?_)); refine wp_cd rfl (fun c13 => ?_) (fun c13 => ?_)
  · refine wp_sk (qs_n (wp_sc (wp_bl (wp_sc (wp_sq ?_))))); refine sq_v rfl (v_idxI Try.underlying25 ty_3 rfl rfl r' (by first | omega | (simp only [List.length_cons, List.length_nil]; omega) | (simp only [List.length_append, List.length_cons, List.length_nil]; omega) | (rw [List.length_set]; omega) | (rw [List.length_replicate]; omega) | (simp; omega)) (by first | omega | (simp only [List.length_cons, List.length_nil]; omega) | (simp only [List.length_append, List.length_cons, List.length_nil]; omega) | (rw [List.length_set]; omega) | (rw [List.length_replicate]; omega) | (simp; omega))) rfl ?_; refine sq_v rfl (v_loadI (k := i) 1 ty_3 rfl rfl r' (by first | omega | (simp only [List.length_cons, List.length_nil]; omega) | (simp only [List.length_append, List.length_cons, List.length_nil]; omega) | (rw [List.length_set]; omega) | (rw [List.length_replicate]; omega) | (simp; omega))) rfl ?_; refine sq_v rfl (v_assign rfl) rfl ?_; refine sq_end (qs_n (wp_sc (wp_sq ?_))); refine sq_v rfl (v_move rfl) rfl ?_; refine sq_v rfl (v_move rfl) rfl ?_; refine sq_u rfl (x_callv rfl en_113 (fun w s => ct_i_hasInt _ _ _ w (r.mono (s.get 1 rfl)))) rfl ?_; refine sq_v rfl (v_not rfl) rfl ?_; refine sq_end (qs_n ?_); refine wp_cnd rfl (fun c19 => ?_) (fun c19 => ?_)
    · refine wp_sq ?_; refine sq_v rfl (v_move rfl) rfl ?_; refine sq_v rfl (v_move rfl) rfl ?_; refine sq_x rfl (x_buildS [num (ys.getD i 0)] Try.underlying25 ty_3 (by decide) rfl rfl rfl (by decide) (by decide) (by intro v hv; simp at hv; rcases hv with rfl <;> rfl)) rfl ?_; intro v22 h22 (r22 : IntsO [ys.getD i 0] v22 h22); refine sq_m 1 rfl rfl (m_appI 1 0 Try.underlying25 ty_3 rfl rfl rfl rfl q rfl r22.toR (by first | omega | (simp only [List.length_cons, List.length_nil]; omega) | (simp only [List.length_append, List.length_cons, List.length_nil]; omega) | (rw [List.length_set]; omega) | (rw [List.length_replicate]; omega) | (simp; omega))) rfl ?_; intro v23 h_r23 r23; refine sq_v rfl (v_assign rfl) rfl ?_; refine sq_end (qs_bn (qs_n (wp_sq ?_))); refine sq_v rfl (v_add rfl rfl ((by unfold I64; omega))) rfl ?_; refine sq_v rfl (v_move rfl) rfl ?_; refine sq_end ?_; exact qs_bk (i + 1, v23, h_r23) ⟨by (try dsimp only); omega, by (try dsimp only); rw [filter_yes (by omega) (by simpa using c19), ← List.append_assoc]; exact r23⟩ (by simp only; omega) ⟨rfl, rfl, (by first | rfl | exact ksub rfl (by first | omega | (simp; done) | (simp; omega))), rfl, rfl, (by first | rfl | exact ksub rfl (by first | omega | (simp; done) | (simp; omega))), trivial⟩ (fun _ s => s.pick [1, 2] (by decide) rfl)
    · refine wp_sk (qs_bn (qs_n (wp_sq ?_))); refine sq_v rfl (v_add rfl rfl ((by unfold I64; omega))) rfl ?_; refine sq_v rfl (v_move rfl) rfl ?_; refine sq_end ?_; exact qs_bk (i + 1, lv, lh) ⟨by (try dsimp only); omega, by (try dsimp only); rw [filter_no (by omega) (by simpa using c19)]; exact q⟩ (by simp only; omega) ⟨rfl, rfl, (by first | rfl | exact ksub rfl (by first | omega | (simp; done) | (simp; omega))), rfl, rfl, (by first | rfl | exact ksub rfl (by first | omega | (simp; done) | (simp; omega))), trivial⟩ (fun _ s => s)
  · refine wp_ex (qs_x (qs_x (qs_bx (qs_n (wp_sc (wp_sq ?_)))))); refine sq_v rfl (v_move rfl) rfl ?_; refine sq_v rfl (v_assign rfl) rfl ?_; refine sq_end (qs_n (wp_rt ?_)); exact qs_ret1 rfl rfl (fin_t 0 (i := 1) rfl rfl rfl (by rw [List.take_of_length_le (by omega)] at q; exact q))
theorem joinI_len (xs ys : List Int) : (joinI xs ys).length ≤ xs.length + ys.length := by
  have := List.length_filter_le (fun x => decide (x ∉ xs)) ys; simp only [joinI, List.length_append]
  omega
def keptTo (op : List Int) (lv : List Lv) (p q : Int) (j : Nat) (x : Int) : Prop := x ∈ op ∨ ∃ k, k < j ∧ (k : Int) ≠ p ∧ (k : Int) ≠ q ∧ ∃ y, lv[k]? = some y ∧ x ∈ y.l
theorem keptTo_yes {op : List Int} {lv : List Lv} {p q : Int} {j : Nat} {x : Int} {y : Lv} (hy : lv[j]? = some y) (h1 : (j : Int) ≠ p) (h2 : (j : Int) ≠ q) (h3 : x ∈ y.l) : keptTo op lv p q (j + 1) x := .inr ⟨j, by omega, h1, h2, y, hy, h3⟩
theorem keptTo_no {op : List Int} {lv : List Lv} {p q : Int} {j : Nat} {x : Int} {y : Lv} (hy : lv[j]? = some y) (h : (j : Int) = p ∨ (j : Int) = q ∨ x ∉ y.l) : keptTo op lv p q (j + 1) x ↔ keptTo op lv p q j x := by
  refine or_congr Iff.rfl ⟨?_, fun ⟨k, h1, h2⟩ => ⟨k, by omega, h2⟩⟩; rintro ⟨k, h1, h2, h3, y', h4, h5⟩
  by_cases e : k = j
  · subst e; rw [hy] at h4
    cases h4
    rcases h with h | h | h
    · exact absurd h h2
    · exact absurd h h3
    · exact absurd h5 h
  · exact ⟨k, by omega, h2, h3, y', h4, h5⟩
theorem keptTo_end {op : List Int} {s : Sh} {p q : Int} {a b : Nat} (h0 : 0 ≤ p) (h1 : 0 ≤ q) (hp : s.ixs[p.toNat]? = some a) (hq : s.ixs[q.toNat]? = some b) (x : Int) : keptTo op s.lv p q s.lv.length x ↔ s.kept op a b x := by
  rw [kept_places hp hq]; refine or_congr Iff.rfl (exists_congr fun k => and_congr Iff.rfl (and_congr ⟨fun h => by omega, fun h => by omega⟩ (and_congr ⟨fun h => by omega, fun h => by omega⟩ Iff.rfl)))
set_option maxHeartbeats 1000000 in
theorem ct_i_resultLabels (arr op : List Int) (vo lvv : Value) (s : Sh) (bb : Nat) (p q : Int) (a b : Nat) (w : World) (r : StR arr vo lvv s bb (hp w)) (ro : IntsR op vo (hp w)) (h0 : 0 ≤ p) (h1 : 0 ≤ q) (hpa : s.ixs[p.toNat]? = some a) (hqb : s.ixs[q.toNat]? = some b) (hsz : (s.lab a).length + (s.lab b).length ≤ 100000) :
    Calls Try.prog 74 [.pointer (some ⟨bb, 0, none⟩), num p, num q].toArray w (Ret w emp (IntsO (s.res op a b))) := by
  have rl := r.live; have hll := lv_len s; have hpl := (List.getElem?_eq_some_iff.1 hpa).1; have hql := (List.getElem?_eq_some_iff.1 hqb).1; refine calls_in Try.func74 rfl Try.ntmps74 rfl (Sat.start w) ?_; have hle0 := ro.le; have hle1 := rl.le; obtain ⟨cs_rl, rr_rl, hc_rl⟩ := rl.at; refine wp_sc (wp_sq ?_); refine sq_v rfl (v_assign rfl) rfl ?_; refine sq_end (qs_n (wp_sc (wp_sq ?_))); refine sq_v rfl (v_assign rfl) rfl ?_; refine sq_end (qs_n (wp_sc (wp_sc ?_))); refine wp_rj 19 [(0, true), (1, true), (2, true), (3, true), (4, true), (5, true), (6, true), (7, true), (8, true), (9, true), (10, true), (11, true), (12, true), (13, true), (14, true), (15, true), (18, true), (16, false), (17, true)] mixed_ok (by kernel_rfl) ?_; refine rj_v rfl rfl (v_move rfl) rfl ?_; refine rj_v rfl rfl (v_nilCheck rfl) rfl ?_; refine rj_v rfl rfl (v_fieldAddr fd_128_2 ty_126 (by decide) rfl) rfl ?_; refine rj_v rfl rfl (v_load 0 ty_126 rfl rfl r.c101) rfl ?_; refine rj_v rfl rfl (v_move rfl) rfl ?_; obtain ⟨x18, a18, hx18, hcs18, rl18⟩ := hc_rl ((p : Int).toNat) (by first | omega | (rw [List.length_set]; omega)); refine rj_v rfl rfl (v_indexAddr Try.underlying126 ty_130 rfl rfl rr_rl (by decide) (by omega) (by omega)) rfl ?_; refine rj_v rfl rfl (v_fieldAddrE fd_130_1 ty_25 (by decide) rfl rr_rl (by have := rr_rl.1; first | omega | (simp only [Int.toNat_natCast]; omega) | (rw [stepCells_len, List.length_set]; omega))) rfl ?_; refine rj_v rfl rfl (v_loadE 0 ty_25 rfl rfl rr_rl (sub_get hcs18 (j := 1) rfl)) rfl ?_; refine rj_v rfl rfl (v_move rfl) rfl ?_; refine rj_v rfl rfl (v_nilCheck rfl) rfl ?_; refine rj_v rfl rfl (v_fieldAddr fd_128_2 ty_126 (by decide) rfl) rfl ?_; refine rj_v rfl rfl (v_load 0 ty_126 rfl rfl r.c101) rfl ?_; refine rj_v rfl rfl (v_move rfl) rfl ?_; obtain ⟨x26, a26, hx26, hcs26, rl26⟩ := hc_rl ((q : Int).toNat) (by first | omega | (rw [List.length_set]; omega)); refine rj_v rfl rfl (v_indexAddr Try.underlying126 ty_130 rfl rfl rr_rl (by decide) (by omega) (by omega)) rfl ?_; refine rj_v rfl rfl (v_fieldAddrE fd_130_1 ty_25 (by decide) rfl rr_rl (by have := rr_rl.1; first | omega | (simp only [Int.toNat_natCast]; omega) | (rw [stepCells_len, List.length_set]; omega))) rfl ?_; refine rj_v rfl rfl (v_loadE 0 ty_25 rfl rfl rr_rl (sub_get hcs26 (j := 1) rfl)) rfl ?_; refine rj_v rfl rfl (v_move rfl) rfl ?_; obtain ⟨i18, hi18, e18⟩ := lv_get hx18; obtain ⟨i26, hi26, e26⟩ := lv_get hx26; rw [hpa] at hi18; rw [hqb] at hi26; cases hi18; cases hi26; have l18 : x18.l = s.lab a := (by rw [e18]); have l26 : x26.l = s.lab b := (by rw [e26]); have hjl := joinI_len x18.l x26.l; rw [l18, l26] at hjl; refine rj_x rfl rfl (x_call rfl en_106 (fun w s => ct_i_joinLabels _ _ _ _ w (rl18.mono (s.get 0 rfl)) (rl26.mono (s.get 0 rfl)) (by rw [l18, l26]; omega))) rfl ?_; rintro v29 h29 r29; refine rj_v rfl rfl (v_len Try.underlying25 rfl r29.toR.sl) rfl ?_; refine rj_end (qs_n (wp_bl ?_)); refine wp_lp (σ := Nat × Value × PH) (fun z_ => [(0, .pointer (some ⟨bb, 0, none⟩)), (1, num p), (2, num q), (6, .slice none 0 0), (7, z_.2.1), (29, v29), (30, num (joinI x18.l x26.l).length), (31, num z_.1)]) (fun z_ => [z_.2.2, h29, hp w]) (fun z_ => z_.1 ≤ (joinI x18.l x26.l).length ∧ IntsO (((joinI x18.l x26.l).take z_.1).filter fun y => @decide (s.kept op a b y) (Classical.propDecidable _)) z_.2.1 z_.2.2) (fun z_ => (joinI x18.l x26.l).length - z_.1) (0, .slice none 0 0, emp) (⟨by (try dsimp only); omega, IntsO.nil⟩) ⟨rfl, rfl, rfl, rfl, (by first | rfl | exact ksub rfl (by first | omega | (simp; done) | (simp; omega))), rfl, rfl, (by first | rfl | exact ksub rfl (by first | omega | (simp; done) | (simp; omega))), trivial⟩ (fun _ s => (emp_sat s)) ?_; rintro ⟨i, ov, oh⟩ ⟨hi, q'⟩; dsimp only at hi q' ⊢; have hle_q' := q'.toR.le; have hfl := filter_take_len (joinI x18.l x26.l) (fun y => @decide (s.kept op a b y) (Classical.propDecidable _)) i; have hjl' : (joinI x18.l x26.l).length ≤ 100000 := by rw [l18, l26]; omega
  refine wp_sc (wp_sq ?_); refine sq_v rfl (v_lss rfl rfl) rfl ?_; refine sq_end (qs_n (wp_sc ?_)); refine wp_cd rfl (fun c32 => ?_) (fun c32 => ?_)
  · refine wp_sk (qs_n (wp_sc (wp_bl (wp_sc (wp_sq ?_))))); refine sq_v rfl (v_idxI Try.underlying25 ty_3 rfl rfl r29.toR (by first | omega | (simp only [List.length_cons, List.length_nil]; omega) | (simp only [List.length_append, List.length_cons, List.length_nil]; omega) | (rw [List.length_set]; omega) | (rw [List.length_replicate]; omega) | (simp; omega)) (by first | omega | (simp only [List.length_cons, List.length_nil]; omega) | (simp only [List.length_append, List.length_cons, List.length_nil]; omega) | (rw [List.length_set]; omega) | (rw [List.length_replicate]; omega) | (simp; omega))) rfl ?_; refine sq_v rfl (v_loadI (k := i) 1 ty_3 rfl rfl r29.toR (by first | omega | (simp only [List.length_cons, List.length_nil]; omega) | (simp only [List.length_append, List.length_cons, List.length_nil]; omega) | (rw [List.length_set]; omega) | (rw [List.length_replicate]; omega) | (simp; omega))) rfl ?_; refine sq_v rfl (v_assign rfl) rfl ?_; refine sq_end (qs_n (wp_sc (wp_sq ?_))); refine sq_v rfl (v_move rfl) rfl ?_; refine sq_v rfl (v_nilCheck rfl) rfl ?_; refine sq_v rfl (v_fieldAddr fd_128_1 ty_25 (by decide) rfl) rfl ?_; refine sq_v rfl (v_load 2 ty_25 rfl rfl r.c100) rfl ?_; refine sq_v rfl (v_move rfl) rfl ?_; refine sq_u rfl (x_callv rfl en_113 (fun w s => ct_i_hasInt _ _ _ w (ro.mono (s.get 2 rfl)))) rfl ?_; refine sq_v rfl (v_assign rfl) rfl ?_; refine sq_end (qs_n (wp_sc (wp_sc (wp_sq ?_)))); refine sq_v rfl (v_move rfl) rfl ?_; refine sq_v rfl (v_nilCheck rfl) rfl ?_; refine sq_v rfl (v_fieldAddr fd_128_2 ty_126 (by decide) rfl) rfl ?_; refine sq_v rfl (v_load 2 ty_126 rfl rfl r.c101) rfl ?_; refine sq_v rfl (v_len Try.underlying126 rfl rl.sl) rfl ?_; refine sq_v rfl (v_move rfl) rfl ?_; refine sq_end (qs_n (wp_bl ?_)); refine wp_lp (σ := Nat × Bool) (fun z_ => [(0, .pointer (some ⟨bb, 0, none⟩)), (1, num p), (2, num q), (6, .slice none 0 0), (7, ov), (9, num ((joinI x18.l x26.l).getD i 0)), (10, .bool z_.2), (29, v29), (30, num (joinI x18.l x26.l).length), (31, num i), (32, .bool (decide ((i : Int) < (joinI x18.l x26.l).length))), (34, num ((joinI x18.l x26.l).getD i 0)), (35, .pointer (some ⟨bb, 0, none⟩)), (36, .pointer (some ⟨bb, 0, none⟩)), (37, .pointer (some ⟨bb, 100, none⟩)), (38, vo), (39, num ((joinI x18.l x26.l).getD i 0)), (40, .bool (decide (((joinI x18.l x26.l).getD i 0) ∈ op))), (41, .pointer (some ⟨bb, 0, none⟩)), (42, .pointer (some ⟨bb, 0, none⟩)), (43, .pointer (some ⟨bb, 101, none⟩)), (44, lvv), (45, num s.lv.length), (46, num z_.1)]) (fun z_ => [oh, h29, hp w]) (fun z_ => z_.1 ≤ s.lv.length ∧ (z_.2 = true ↔ keptTo op s.lv p q z_.1 ((joinI x18.l x26.l).getD i 0))) (fun z_ => s.lv.length - z_.1) (0, decide ((joinI x18.l x26.l).getD i 0 ∈ op)) (⟨by (try dsimp only); omega, by (try dsimp only); simp [keptTo]⟩) ⟨rfl, rfl, rfl, rfl, rfl, rfl, (by first | rfl | exact ksub rfl (by first | omega | (simp; done) | (simp; omega))), rfl, rfl, rfl, rfl, rfl, rfl, rfl, rfl, rfl, rfl, rfl, rfl, rfl, rfl, rfl, rfl, (by first | rfl | exact ksub rfl (by first | omega | (simp; done) | (simp; omega))), trivial⟩ (fun _ s => s) ?_; rintro ⟨j, kb⟩ ⟨hj, hk⟩; dsimp only at hj hk ⊢; have hpn : ∀ z : Nat, (z : Int) = p → z = p.toNat := fun z h => by omega
    refine wp_sc (wp_sq ?_); refine sq_v rfl (v_lss rfl rfl) rfl ?_; refine sq_end (qs_n (wp_sc ?_)); refine wp_cd rfl (fun c47 => ?_) (fun c47 => ?_)
    · refine wp_sk (qs_n (wp_sc (wp_bl (wp_sc (wp_sq ?_))))); refine sq_v rfl (v_move rfl) rfl ?_; obtain ⟨x49, a49, hx49, hcs49, rl49⟩ := hc_rl (j) (by first | omega | (rw [List.length_set]; omega)); refine sq_v rfl (v_indexAddr Try.underlying126 ty_130 rfl rfl rr_rl (by decide) (by omega) (by omega)) rfl ?_; refine sq_v rfl (v_loadNE 2 ty_130 rfl rfl rr_rl (by have := rr_rl.1; omega) rfl hcs49) rfl ?_; refine sq_x rfl (x_alloc ty_130 rfl) rfl ?_; rintro _ _ ⟨b12, rfl, rfl⟩; refine sq_v rfl (v_assign rfl) rfl ?_; refine sq_m 0 rfl rfl (m_store 0 ty_130 rfl rfl rfl rfl (by simp [one_int, rl49.sl.one]) rfl (Nat.le_of_ble_eq_true rfl)) rfl ?_; rintro _ _ ⟨rfl, rfl⟩; refine sq_end (qs_n (wp_sc (wp_sq ?_))); refine sq_v rfl (v_move rfl) rfl ?_; refine sq_v rfl (v_move rfl) rfl ?_; refine sq_v rfl (v_neq rfl rfl) rfl ?_; refine sq_bd 53 rfl (fun c53 => ?_) (fun c53 => ?_)
      · refine sq_v rfl (v_move rfl) rfl ?_; refine sq_v rfl (v_move rfl) rfl ?_; refine sq_v rfl (v_move rfl) rfl ?_; refine sq_v rfl (v_neq rfl rfl) rfl ?_; refine sq_v rfl (v_pickt rfl rfl) rfl ?_; refine sq_bd 58 rfl (fun c58 => ?_) (fun c58 => ?_)
        · refine sq_v rfl (v_move rfl) rfl ?_; refine sq_v rfl (v_fieldAddr fd_130_1 ty_25 (by decide) rfl) rfl ?_; refine sq_v rfl (v_loadB 0 ty_25 rfl rfl rfl) rfl ?_; refine sq_v rfl (v_move rfl) rfl ?_; refine sq_u rfl (x_callv rfl en_113 (fun w s => ct_i_hasInt _ _ _ w (rl49.mono (s.get 3 rfl)))) rfl ?_; refine sq_v rfl (v_pickt rfl rfl) rfl ?_; refine sq_end (qs_n ?_); refine wp_cd rfl (fun c64 => ?_) (fun c64 => ?_)
          · refine wp_sq ?_; refine sq_v rfl (v_assign rfl) rfl ?_; refine sq_end (qs_bn (qs_n (wp_sq ?_))); refine sq_v rfl (v_add rfl rfl ((by unfold I64; omega))) rfl ?_; refine sq_v rfl (v_move rfl) rfl ?_; refine sq_end ?_; exact qs_bk (j + 1, true) ⟨by (try dsimp only); omega, by (try dsimp only); simp only [true_iff]; exact keptTo_yes hx49 (by omega) (by omega) (by simpa using c64)⟩ (by simp only; omega) ⟨rfl, rfl, rfl, rfl, rfl, rfl, (by first | rfl | exact ksub rfl (by first | omega | (simp; done) | (simp; omega))), rfl, rfl, rfl, rfl, rfl, rfl, rfl, rfl, rfl, rfl, rfl, rfl, rfl, rfl, rfl, rfl, (by first | rfl | exact ksub rfl (by first | omega | (simp; done) | (simp; omega))), trivial⟩ (fun _ s => s.pick [1, 2, 3] (by decide) rfl)
          · refine wp_sk (qs_bn (qs_n (wp_sq ?_))); refine sq_v rfl (v_add rfl rfl ((by unfold I64; omega))) rfl ?_; refine sq_v rfl (v_move rfl) rfl ?_; refine sq_end ?_; exact qs_bk (j + 1, kb) ⟨by (try dsimp only); omega, by (try dsimp only); rw [keptTo_no hx49 (.inr (.inr (by simpa using c64)))]; exact hk⟩ (by simp only; omega) ⟨rfl, rfl, rfl, rfl, rfl, rfl, (by first | rfl | exact ksub rfl (by first | omega | (simp; done) | (simp; omega))), rfl, rfl, rfl, rfl, rfl, rfl, rfl, rfl, rfl, rfl, rfl, rfl, rfl, rfl, rfl, rfl, (by first | rfl | exact ksub rfl (by first | omega | (simp; done) | (simp; omega))), trivial⟩ (fun _ s => s.pick [1, 2, 3] (by decide) rfl)
        · refine sq_v rfl (v_move rfl) rfl ?_; refine sq_s rfl rfl ?_; refine sq_s rfl rfl ?_; refine sq_s rfl rfl ?_; refine sq_s rfl rfl ?_; refine sq_v rfl (v_pickf rfl rfl) rfl ?_; refine sq_end (qs_n ?_); refine wp_cf rfl ?_; refine wp_sk (qs_bn (qs_n (wp_sq ?_))); refine sq_v rfl (v_add rfl rfl ((by unfold I64; omega))) rfl ?_; refine sq_v rfl (v_move rfl) rfl ?_; refine sq_end ?_; exact qs_bk (j + 1, kb) ⟨by (try dsimp only); omega, by (try dsimp only); rw [keptTo_no hx49 (.inr (.inl (by omega)))]; exact hk⟩ (by simp only; omega) ⟨rfl, rfl, rfl, rfl, rfl, rfl, (by first | rfl | exact ksub rfl (by first | omega | (simp; done) | (simp; omega))), rfl, rfl, rfl, rfl, rfl, rfl, rfl, rfl, rfl, rfl, rfl, rfl, rfl, rfl, rfl, rfl, (by first | rfl | exact ksub rfl (by first | omega | (simp; done) | (simp; omega))), trivial⟩ (fun _ s => s.pick [1, 2, 3] (by decide) rfl)
      · refine sq_v rfl (v_move rfl) rfl ?_; refine sq_s rfl rfl ?_; refine sq_s rfl rfl ?_; refine sq_s rfl rfl ?_; refine sq_v rfl (v_pickf rfl rfl) rfl ?_; refine sq_v rfl (v_move rfl) rfl ?_; refine sq_s rfl rfl ?_; refine sq_s rfl rfl ?_; refine sq_s rfl rfl ?_; refine sq_s rfl rfl ?_; refine sq_v rfl (v_pickf rfl rfl) rfl ?_; refine sq_end (qs_n ?_); refine wp_cf rfl ?_; refine wp_sk (qs_bn (qs_n (wp_sq ?_))); refine sq_v rfl (v_add rfl rfl ((by unfold I64; omega))) rfl ?_; refine sq_v rfl (v_move rfl) rfl ?_; refine sq_end ?_; exact qs_bk (j + 1, kb) ⟨by (try dsimp only); omega, by (try dsimp only); rw [keptTo_no hx49 (.inl (by omega))]; exact hk⟩ (by simp only; omega) ⟨rfl, rfl, rfl, rfl, rfl, rfl, (by first | rfl | exact ksub rfl (by first | omega | (simp; done) | (simp; omega))), rfl, rfl, rfl, rfl, rfl, rfl, rfl, rfl, rfl, rfl, rfl, rfl, rfl, rfl, rfl, rfl, (by first | rfl | exact ksub rfl (by first | omega | (simp; done) | (simp; omega))), trivial⟩ (fun _ s => s.pick [1, 2, 3] (by decide) rfl)
    · refine wp_ex (qs_x (qs_x (qs_bx (qs_n (wp_sc (wp_sq ?_)))))); rw [show j = s.lv.length by omega, keptTo_end h0 h1 hpa hqb] at hk; refine sq_v rfl (v_move rfl) rfl ?_; refine sq_end (qs_n ?_); refine wp_cb _ rfl (fun c66 => ?_) (fun c66 => ?_)
      · refine wp_sq ?_; refine sq_v rfl (v_move rfl) rfl ?_; refine sq_v rfl (v_move rfl) rfl ?_; refine sq_x rfl (x_buildS [num ((joinI x18.l x26.l).getD i 0)] Try.underlying25 ty_3 (by decide) rfl rfl rfl (by decide) (by decide) (by intro v hv; simp at hv; rcases hv with rfl <;> rfl)) rfl ?_; intro v69 h69 (r69 : IntsO [(joinI x18.l x26.l).getD i 0] v69 h69); refine sq_m 1 rfl rfl (m_appI 1 0 Try.underlying25 ty_3 rfl rfl rfl rfl q' rfl r69.toR (by first | omega | (simp only [List.length_cons, List.length_nil]; omega) | (simp only [List.length_append, List.length_cons, List.length_nil]; omega) | (rw [List.length_set]; omega) | (rw [List.length_replicate]; omega) | (simp; omega))) rfl ?_; intro v70 h_r70 r70; refine sq_v rfl (v_assign rfl) rfl ?_; refine sq_end (qs_bn (qs_n (wp_sq ?_))); refine sq_v rfl (v_add rfl rfl ((by unfold I64; omega))) rfl ?_; refine sq_v rfl (v_move rfl) rfl ?_; refine sq_end ?_; exact qs_bk (i + 1, v70, h_r70) ⟨by (try dsimp only); omega, by (try dsimp only); rw [filter_yes (by omega) (by simpa using hk.1 c66)]; exact r70⟩ (by simp only; omega) ⟨rfl, rfl, rfl, rfl, (by first | rfl | exact ksub rfl (by first | omega | (simp; done) | (simp; omega))), rfl, rfl, (by first | rfl | exact ksub rfl (by first | omega | (simp; done) | (simp; omega))), trivial⟩ (fun _ s => s.pick [1, 2, 3] (by decide) rfl)
      · refine wp_sk (qs_bn (qs_n (wp_sq ?_))); refine sq_v rfl (v_add rfl rfl ((by unfold I64; omega))) rfl ?_; refine sq_v rfl (v_move rfl) rfl ?_; refine sq_end ?_; exact qs_bk (i + 1, ov, oh) ⟨by (try dsimp only); omega, by (try dsimp only); rw [filter_no (by omega) (by simp only [decide_eq_false_iff_not]; intro h; rw [hk.2 h] at c66; cases c66)]; exact q'⟩ (by simp only; omega) ⟨rfl, rfl, rfl, rfl, (by first | rfl | exact ksub rfl (by first | omega | (simp; done) | (simp; omega))), rfl, rfl, (by first | rfl | exact ksub rfl (by first | omega | (simp; done) | (simp; omega))), trivial⟩ (fun _ s => s)
  · refine wp_ex (qs_x (qs_x (qs_bx (qs_n (wp_sc (wp_sq ?_)))))); refine sq_v rfl (v_move rfl) rfl ?_; refine sq_v rfl (v_assign rfl) rfl ?_; refine sq_end (qs_n (wp_rt ?_)); exact qs_ret1 rfl rfl (fin_t 0 (i := 2) rfl rfl rfl (by rw [List.take_of_length_le (by omega), l18, l26] at q'; exact q'))
end Go.Proofs.Ytehjljijionhaaa
namespace Go.Proofs.Ytehjljijionhaaa
set_option maxRecDepth 100000
open Go.RowKit
theorem RowO.nil {e : TypeId} {sz : Nat} : RowO e [] 0 sz (.slice none 0 0) emp := ⟨by simp, .inl ⟨rfl, rfl, rfl⟩⟩
theorem dropTo_len (lv : List Lv) (p q : Nat) : ∀ k, (dropTo lv p q k).length ≤ k
  | 0 => by simp [dropTo]
  | k + 1 => by
    have := dropTo_len lv p q k; have h1 : (lv[k]?).toList.length ≤ 1 := by cases lv[k]? <;> simp
    simp only [dropTo]
    split
    · simp only [List.length_append]; omega
    · omega
theorem dropTo_yes {lv : List Lv} {p q k : Nat} {x : Lv} (h : lv[k]? = some x) (h1 : k ≠ p) (h2 : k ≠ q) : dropTo lv p q (k + 1) = dropTo lv p q k ++ [x] := by
  rw [dropTo, if_pos ⟨h1, h2⟩, h]; rfl
theorem dropTo_no {lv : List Lv} {p q k : Nat} (h : k = p ∨ k = q) : dropTo lv p q (k + 1) = dropTo lv p q k := by
  rw [dropTo, if_neg (by omega)]
set_option maxHeartbeats 2000000 in
theorem ct_i_contract (arr op : List Int) (vo : Value) (sh : Sh) (bb : Nat) (p q : Int) (a b : Nat) (w : World) (h : PH) (hle : PLe h (hp w)) (rs : StO arr vo sh bb h) (ro : IntsR op vo (restP w h)) (h0 : 0 ≤ p) (h1 : 0 ≤ q) (hpa : sh.ixs[p.toNat]? = some a) (hqb : sh.ixs[q.toNat]? = some b)
    (hsz : (sh.lab a).length + (sh.lab b).length ≤ 100000) (hall : sh.all.length ≤ 100000) :
    Calls Try.prog 75 [.pointer (some ⟨bb, 0, none⟩), num p, num q].toArray w (Ret w h (fun u h' => u = stepV a b ∧ StO arr vo (sh.step op a b) bb h')) := by
  obtain ⟨hal, hok, lvv, hs, rl, md⟩ := rs; have hll := lv_len sh; have hpl := (List.getElem?_eq_some_iff.1 hpa).1; have hql := (List.getElem?_eq_some_iff.1 hqb).1; have hixl : sh.ixs.length ≤ sh.all.length := by have := List.length_filter_le (fun i => !sh.gone.getD i false) (List.range sh.all.length); simpa [Sh.ixs] using this
  refine calls_in Try.func75 rfl Try.ntmps75 rfl (Sat.open (A := [restP w h]) md (Sat.start2 hle)) ?_; have hle0 := ro.le; have hle1 := rl.le; obtain ⟨cs_rl, rr_rl, hc_rl⟩ := rl.at; refine wp_sc (wp_sq ?_); refine sq_x rfl (x_alloc ty_84 rfl) rfl ?_; rintro _ _ ⟨b6, rfl, rfl⟩; refine sq_end (qs_n (wp_sc ?_)); refine wp_rj 18 [(0, true), (1, true), (2, true), (3, true), (4, true), (5, true), (6, true), (7, true), (8, true), (9, true), (10, true), (11, true), (12, true), (13, true), (14, true), (15, true), (16, true), (17, false), (18, false)] mixed_ok (by kernel_rfl) ?_; refine rj_v rfl rfl (v_move rfl) rfl ?_; refine rj_v rfl rfl (v_nilCheck rfl) rfl ?_; refine rj_v rfl rfl (v_fieldAddr fd_128_2 ty_126 (by decide) rfl) rfl ?_; refine rj_v rfl rfl (v_loadB 2 ty_126 rfl rfl (pre_get hal 1 rfl)) rfl ?_; refine rj_v rfl rfl (v_move rfl) rfl ?_; obtain ⟨x17, a17, hx17, hcs17, rl17⟩ := hc_rl ((p : Int).toNat) (by first | omega | (rw [List.length_set]; omega)); refine rj_v rfl rfl (v_indexAddr Try.underlying126 ty_130 rfl rfl rr_rl (by decide) (by omega) (by omega)) rfl ?_; refine rj_v rfl rfl (v_fieldAddrE fd_130_0 ty_3 (by decide) rfl rr_rl (by have := rr_rl.1; first | omega | (simp only [Int.toNat_natCast]; omega) | (rw [stepCells_len, List.length_set]; omega))) rfl ?_; refine rj_v rfl rfl (v_loadE 3 ty_3 rfl rfl rr_rl (sub_get hcs17 (j := 0) rfl)) rfl ?_; refine rj_v rfl rfl (v_move rfl) rfl ?_; refine rj_v rfl rfl (v_nilCheck rfl) rfl ?_; refine rj_v rfl rfl (v_fieldAddr fd_128_2 ty_126 (by decide) rfl) rfl ?_; refine rj_v rfl rfl (v_loadB 2 ty_126 rfl rfl (pre_get hal 1 rfl)) rfl ?_; refine rj_v rfl rfl (v_move rfl) rfl ?_; obtain ⟨x25, a25, hx25, hcs25, rl25⟩ := hc_rl ((q : Int).toNat) (by first | omega | (rw [List.length_set]; omega)); refine rj_v rfl rfl (v_indexAddr Try.underlying126 ty_130 rfl rfl rr_rl (by decide) (by omega) (by omega)) rfl ?_; refine rj_v rfl rfl (v_fieldAddrE fd_130_0 ty_3 (by decide) rfl rr_rl (by have := rr_rl.1; first | omega | (simp only [Int.toNat_natCast]; omega) | (rw [stepCells_len, List.length_set]; omega))) rfl ?_; refine rj_v rfl rfl (v_loadE 3 ty_3 rfl rfl rr_rl (sub_get hcs25 (j := 0) rfl)) rfl ?_; obtain ⟨i17, hi17, e17⟩ := lv_get hx17; obtain ⟨i25, hi25, e25⟩ := lv_get hx25; rw [hpa] at hi17; rw [hqb] at hi25; cases hi17; cases hi25; subst e17; subst e25; refine rj_v rfl rfl (v_build [num (a : Nat), num (b : Nat)] rfl (by kernel_rfl)) rfl ?_; refine rj_x rfl rfl (x_alloc ty_84 rfl) rfl ?_; rintro _ _ ⟨b7, rfl, rfl⟩; refine rj_m 0 rfl rfl rfl rfl (m_store 0 ty_84 rfl rfl rfl rfl (by simp [Value.oneCell']) rfl (Nat.le_of_ble_eq_true rfl)) rfl ?_; rintro _ _ ⟨rfl, rfl⟩; refine rj_end (qs_n (wp_sc ?_)); refine wp_ra (σ := Nat × PH × Value) 10 (fun z_ => IntsO (sh.res op a b) z_.2.2 z_.2.1) (fun z_ => [(0, .pointer (some ⟨bb, 0, none⟩)), (1, num p), (2, num q), (6, .pointer (some ⟨b6, 0, none⟩)), (7, .pointer (some ⟨b7, 0, none⟩)), (8, .pointer (some ⟨z_.1, 0, none⟩))]) (fun z_ => [box z_.1 [num sh.all.length, z_.2.2] 130, z_.2.1, box b7 [num (a : Nat), num (b : Nat)] 84, box b6 [num 0, num 0] 84, (restP w h), box bb (ints arr ++ [vo, lvv, num sh.all.length]) 128, hs]) mixed_ok (by kernel_rfl) ?_ ?_
  · refine ra_v (i := 0) (by kernel_rfl) rfl rfl (v_move rfl) rfl ?_; refine ra_v (i := 1) (by kernel_rfl) rfl rfl (v_nilCheck rfl) rfl ?_; refine ra_v (i := 2) (by kernel_rfl) rfl rfl (v_fieldAddr fd_128_3 ty_3 (by decide) rfl) rfl ?_; refine ra_v (i := 3) (by kernel_rfl) rfl rfl (v_loadB 3 ty_3 rfl rfl (pre_get hal 2 rfl)) rfl ?_; refine ra_v (i := 4) (by kernel_rfl) rfl rfl (v_move rfl) rfl ?_; refine ra_v (i := 5) (by kernel_rfl) rfl rfl (v_move rfl) rfl ?_; refine ra_v (i := 6) (by kernel_rfl) rfl rfl (v_move rfl) rfl ?_; refine ra_2 (i := 7) (j := 9) (by kernel_rfl) ?_ ?_
    · refine ro_x rfl rfl (x_call rfl en_74 (fun w s => ct_i_resultLabels _ op _ _ sh _ _ _ a b w (StR.box hal hok (s.get 3 rfl) (rl.mono (s.get 4 rfl))) (ro.mono (s.get 2 rfl)) h0 h1 hpa hqb hsz)) rfl ?_; rintro v36 h36 r36; refine ra_rj [(8, true), (9, false), (10, false)] (by kernel_rfl) rfl ?_; refine rj_v rfl rfl (v_build [num sh.all.length, v36] rfl (by obtain ⟨_, _, rfl⟩ := r36.toR.sl; kernel_rfl)) rfl ?_; refine rj_x rfl rfl (x_alloc ty_130 rfl) rfl ?_; rintro _ _ ⟨b8, rfl, rfl⟩; refine rj_m 0 rfl rfl rfl rfl (m_store 0 ty_130 rfl rfl rfl rfl (by simp [one_int, r36.toR.sl.one]) rfl (Nat.le_of_ble_eq_true rfl)) rfl ?_; rintro _ _ ⟨rfl, rfl⟩; refine rj_end ?_; exact qs_mid (b8, h36, v36) (r36) ⟨rfl, rfl, rfl, rfl, rfl, rfl, trivial⟩ (fun _ s => s.pick [0, 1, 2, 3, 4, 5, 6] (by decide) rfl)
    · refine ro_x rfl rfl (x_alloc ty_130 rfl) rfl ?_; rintro _ _ ⟨b8, rfl, rfl⟩; refine ra_rj [(7, false), (8, true), (10, false)] (by kernel_rfl) rfl ?_; refine rj_x rfl rfl (x_call rfl en_74 (fun w s => ct_i_resultLabels _ op _ _ sh _ _ _ a b w (StR.box hal hok (s.get 4 rfl) (rl.mono (s.get 5 rfl))) (ro.mono (s.get 3 rfl)) h0 h1 hpa hqb hsz)) rfl ?_; rintro v36 h36 r36; refine rj_v rfl rfl (v_build [num sh.all.length, v36] rfl (by obtain ⟨_, _, rfl⟩ := r36.toR.sl; kernel_rfl)) rfl ?_; refine rj_m 1 rfl rfl rfl rfl (m_store 1 ty_130 rfl rfl rfl rfl (by simp [one_int, r36.toR.sl.one]) rfl (Nat.le_of_ble_eq_true rfl)) rfl ?_; rintro _ _ ⟨rfl, rfl⟩; refine rj_end ?_; exact qs_mid (b8, h36, v36) (r36) ⟨rfl, rfl, rfl, rfl, rfl, rfl, trivial⟩ (fun _ s => s.pick [1, 0, 2, 3, 4, 5, 6] (by decide) rfl)
  · rintro ⟨b8, h36, v36⟩ r36; dsimp only at r36 ⊢; refine qs_n (wp_sc (wp_sq ?_)); refine sq_v rfl (v_assign rfl) rfl ?_; refine sq_end (qs_n (wp_sc (wp_sc (wp_sq ?_)))); refine sq_v rfl (v_move rfl) rfl ?_; refine sq_v rfl (v_nilCheck rfl) rfl ?_; refine sq_v rfl (v_fieldAddr fd_128_2 ty_126 (by decide) rfl) rfl ?_; refine sq_v rfl (v_loadB 5 ty_126 rfl rfl (pre_get hal 1 rfl)) rfl ?_; refine sq_v rfl (v_len Try.underlying126 rfl rl.sl) rfl ?_; refine sq_v rfl (v_move rfl) rfl ?_; refine sq_end (qs_n (wp_bl ?_)); refine wp_lp (σ := Nat × Value × PH × (List Value)) (fun z_ => [(0, .pointer (some ⟨bb, 0, none⟩)), (1, num p), (2, num q), (6, .pointer (some ⟨b6, 0, none⟩)), (7, .pointer (some ⟨b7, 0, none⟩)), (8, .pointer (some ⟨b8, 0, none⟩)), (9, z_.2.1), (41, lvv), (42, num sh.lv.length), (43, num z_.1)]) (fun z_ => [z_.2.2.1, box b8 [num sh.all.length, v36] 130, h36, box b7 [num (a : Nat), num (b : Nat)] 84, box b6 [num 0, num 0] 84, (restP w h), box bb (ints arr ++ [vo, lvv, num sh.all.length]) 128, hs]) (fun z_ => z_.1 ≤ sh.lv.length ∧ LvL (dropTo sh.lv p.toNat q.toNat z_.1) z_.2.2.2 hs ∧ RowO (130) z_.2.2.2 (dropTo sh.lv p.toNat q.toNat z_.1).length 2 z_.2.1 z_.2.2.1) (fun z_ => sh.lv.length - z_.1) (0, .slice none 0 0, emp, []) (⟨by (try dsimp only); omega, LvL.nil _, RowO.nil⟩) ⟨rfl, rfl, rfl, rfl, rfl, rfl, (by first | rfl | exact ksub rfl (by first | omega | (simp; done) | (simp; omega))), rfl, rfl, (by first | rfl | exact ksub rfl (by first | omega | (simp; done) | (simp; omega))), trivial⟩ (fun _ s => (emp_sat s)) ?_; rintro ⟨j, lx, ha, cs⟩ ⟨hj, hlv, rr⟩; dsimp only at hj hlv rr ⊢; have hdl := dropTo_len sh.lv p.toNat q.toNat j; refine wp_sc (wp_sq ?_); refine sq_v rfl (v_lss rfl rfl) rfl ?_; refine sq_end (qs_n (wp_sc ?_)); refine wp_cd rfl (fun c44 => ?_) (fun c44 => ?_)
    · refine wp_sk (qs_n (wp_sc (wp_bl (wp_sc (wp_sq ?_))))); refine sq_v rfl (v_move rfl) rfl ?_; obtain ⟨x46, a46, hx46, hcs46, rl46⟩ := hc_rl (j) (by first | omega | (rw [List.length_set]; omega)); refine sq_v rfl (v_indexAddr Try.underlying126 ty_130 rfl rfl rr_rl (by decide) (by omega) (by omega)) rfl ?_; refine sq_v rfl (v_loadNE 7 ty_130 rfl rfl rr_rl (by have := rr_rl.1; omega) rfl hcs46) rfl ?_; refine sq_x rfl (x_alloc ty_130 rfl) rfl ?_; rintro _ _ ⟨b11, rfl, rfl⟩; refine sq_v rfl (v_assign rfl) rfl ?_; refine sq_m 0 rfl rfl (m_store 0 ty_130 rfl rfl rfl rfl (by simp [one_int, rl46.sl.one]) rfl (Nat.le_of_ble_eq_true rfl)) rfl ?_; rintro _ _ ⟨rfl, rfl⟩; refine sq_end (qs_n (wp_sc (wp_sq ?_))); refine sq_v rfl (v_move rfl) rfl ?_; refine sq_v rfl (v_move rfl) rfl ?_; refine sq_v rfl (v_neq rfl rfl) rfl ?_; refine sq_bd 50 rfl (fun c50 => ?_) (fun c50 => ?_)
      · refine sq_v rfl (v_move rfl) rfl ?_; refine sq_v rfl (v_move rfl) rfl ?_; refine sq_v rfl (v_move rfl) rfl ?_; refine sq_v rfl (v_neq rfl rfl) rfl ?_; refine sq_v rfl (v_pickt rfl rfl) rfl ?_; refine sq_end (qs_n ?_); refine wp_cd rfl (fun c55 => ?_) (fun c55 => ?_)
        · refine wp_sq ?_; refine sq_v rfl (v_move rfl) rfl ?_; refine sq_v rfl (v_loadNB 0 ty_130 rfl rfl rfl rfl) rfl ?_; refine sq_x rfl (x_buildS [.agg [num x46.n, a46].toArray] Try.underlying126 ty_130 (by decide) rfl rfl rfl (by decide) (by decide) (by intro v hv; simp at hv; subst hv; rfl)) rfl ?_; intro v58 h58 (r58 : RowO 130 [num x46.n, a46] 1 2 v58 h58); refine sq_m 2 rfl rfl (m_append 2 0 Try.underlying126 ty_130 rfl rfl (by decide) rfl rfl rfl rr rfl r58.toR (by simp [one_int, rl46.sl.one]) (by unfold maxLen; omega) (by omega)) rfl ?_; intro v59 h_r59 (r59 : RowO 130 (cs ++ [num x46.n, a46]) ((dropTo sh.lv p.toNat q.toNat j).length + 1) 2 v59 h_r59); refine sq_v rfl (v_assign rfl) rfl ?_; refine sq_end (qs_bn (qs_n (wp_sq ?_))); refine sq_v rfl (v_add rfl rfl ((by unfold I64; omega))) rfl ?_; refine sq_v rfl (v_move rfl) rfl ?_; refine sq_end ?_; exact qs_bk (j + 1, v59, h_r59, cs ++ [num x46.n, a46]) ⟨by (try dsimp only); omega, by (try dsimp only); rw [dropTo_yes hx46 (by omega) (by omega)]; exact hlv.snoc rl46, by (try dsimp only); rw [dropTo_yes hx46 (by omega) (by omega), List.length_append]; exact r59⟩ (by simp only; omega) ⟨rfl, rfl, rfl, rfl, rfl, rfl, (by first | rfl | exact ksub rfl (by first | omega | (simp; done) | (simp; omega))), rfl, rfl, (by first | rfl | exact ksub rfl (by first | omega | (simp; done) | (simp; omega))), trivial⟩ (fun _ s => s.pick [2, 3, 4, 5, 6, 7, 8, 9] (by decide) rfl)
        · refine wp_sk (qs_bn (qs_n (wp_sq ?_))); refine sq_v rfl (v_add rfl rfl ((by unfold I64; omega))) rfl ?_; refine sq_v rfl (v_move rfl) rfl ?_; refine sq_end ?_; exact qs_bk (j + 1, lx, ha, cs) ⟨by (try dsimp only); omega, by (try dsimp only); rw [dropTo_no (by omega)]; exact hlv, by (try dsimp only); rw [dropTo_no (by omega)]; exact rr⟩ (by simp only; omega) ⟨rfl, rfl, rfl, rfl, rfl, rfl, (by first | rfl | exact ksub rfl (by first | omega | (simp; done) | (simp; omega))), rfl, rfl, (by first | rfl | exact ksub rfl (by first | omega | (simp; done) | (simp; omega))), trivial⟩ (fun _ s => s.pick [1, 2, 3, 4, 5, 6, 7, 8] (by decide) rfl)
      · refine sq_v rfl (v_move rfl) rfl ?_; refine sq_s rfl rfl ?_; refine sq_s rfl rfl ?_; refine sq_s rfl rfl ?_; refine sq_v rfl (v_pickf rfl rfl) rfl ?_; refine sq_end (qs_n ?_); refine wp_cf rfl ?_; refine wp_sk (qs_bn (qs_n (wp_sq ?_))); refine sq_v rfl (v_add rfl rfl ((by unfold I64; omega))) rfl ?_; refine sq_v rfl (v_move rfl) rfl ?_; refine sq_end ?_; exact qs_bk (j + 1, lx, ha, cs) ⟨by (try dsimp only); omega, by (try dsimp only); rw [dropTo_no (by omega)]; exact hlv, by (try dsimp only); rw [dropTo_no (by omega)]; exact rr⟩ (by simp only; omega) ⟨rfl, rfl, rfl, rfl, rfl, rfl, (by first | rfl | exact ksub rfl (by first | omega | (simp; done) | (simp; omega))), rfl, rfl, (by first | rfl | exact ksub rfl (by first | omega | (simp; done) | (simp; omega))), trivial⟩ (fun _ s => s.pick [1, 2, 3, 4, 5, 6, 7, 8] (by decide) rfl)
    · refine wp_ex (qs_x (qs_x (qs_bx (qs_n (wp_sc (wp_sq ?_)))))); refine sq_v rfl (v_move rfl) rfl ?_; refine sq_v rfl (v_move rfl) rfl ?_; refine sq_v rfl (v_loadNB 1 ty_130 rfl rfl rfl rfl) rfl ?_; refine sq_x rfl (x_buildS [.agg [num sh.all.length, v36].toArray] Try.underlying126 ty_130 (by decide) rfl rfl rfl (by decide) (by decide) (by intro v hv; simp at hv; subst hv; rfl)) rfl ?_; intro v64 h64 (r64 : RowO 130 [num sh.all.length, v36] 1 2 v64 h64); refine sq_m 1 rfl rfl (m_append 1 0 Try.underlying126 ty_130 rfl rfl (by decide) rfl rfl rfl rr rfl r64.toR (by simp [one_int, r36.toR.sl.one]) (by unfold maxLen; omega) (by omega)) rfl ?_; intro v65 h_r65 (r65 : RowO 130 (cs ++ [num sh.all.length, v36]) ((dropTo sh.lv p.toNat q.toNat j).length + 1) 2 v65 h_r65); refine sq_v rfl (v_nilCheck rfl) rfl ?_; refine sq_v rfl (v_fieldAddr fd_128_2 ty_126 (by decide) rfl) rfl ?_; refine sq_m 7 rfl rfl (m_store1 7 ty_126 rfl rfl r65.toR.sl.one rfl (by simp [ints_length, hal])) rfl ?_; rintro _ _ ⟨rfl, rfl⟩; rw [pre_set (j := 1) hal]; dsimp only [List.set]; refine sq_end (qs_n (wp_sc (wp_sq ?_))); refine sq_v rfl (v_move rfl) rfl ?_; refine sq_v rfl (v_nilCheck rfl) rfl ?_; refine sq_v rfl (v_fieldAddr fd_128_3 ty_3 (by decide) rfl) rfl ?_; refine sq_v rfl (v_loadB 7 ty_3 rfl rfl (pre_get hal 2 rfl)) rfl ?_; refine sq_v rfl (v_add rfl rfl ((by unfold I64; omega))) rfl ?_; refine sq_v rfl (v_nilCheck rfl) rfl ?_; refine sq_v rfl (v_fieldAddr fd_128_3 ty_3 (by decide) rfl) rfl ?_; refine sq_m 7 rfl rfl (m_store1 7 ty_3 rfl rfl rfl rfl (by simp [ints_length, hal])) rfl ?_; rintro _ _ ⟨rfl, rfl⟩; rw [pre_set (j := 2) hal]; dsimp only [List.set]; refine sq_end (qs_n (wp_sc (wp_sq ?_))); refine sq_v rfl (v_loadNB 4 ty_84 rfl rfl rfl rfl) rfl ?_; refine sq_m 5 rfl rfl (m_store 5 ty_84 rfl rfl rfl rfl (by simp [Value.oneCell']) rfl (Nat.le_of_ble_eq_true rfl)) rfl ?_; rintro _ _ ⟨rfl, rfl⟩; refine sq_end (qs_n (wp_rt ?_)); refine qs_close [box bb _ _, restP w h, box b6 _ _] [hs, h_r65, h36] (fun _ s => s.pick [7, 6, 5, 8, 1, 3] (by decide) rfl) (fun md1 => ?_); refine qs_close [restP w h, box b6 _ _] [box bb _ _, joinP [hs, h_r65, h36]] (fun _ s => s.pick [2, 3, 1, 0] (by decide) rfl) (fun md2 => ?_); have ej : j = sh.lv.length := by omega
      subst ej; have e := step_lv (op := op) hok hpa hqb; have el : ((sh.step op a b).all.length : Int) = sh.all.length + 1 := by simp [Sh.step]
      have hlv' : LvL (sh.step op a b).lv (cs ++ [num sh.all.length, v36]) (joinP [hs, h_r65, h36]) := by rw [e]; exact (hlv.mono (md1.le hs (by simp))).snoc (x := ⟨sh.all.length, sh.res op a b⟩) (r36.toR.mono (md1.le h36 (by simp)))
      have hro := r65.toR.mono (md1.le h_r65 (by simp)); exact qs_retc 2 rfl ty_84 rfl rfl rfl (fin_m 0 (i := 1) rfl rfl rfl ⟨rfl, hal, Sh.step_ok hok a b, v65, _, hlv'.live (by rw [e, List.length_append]; exact hro), by rw [el]; exact md2⟩)
/-- What a step of an order turns. -/
def FollowR (arr op : List Int) (vo : Value) (sh : Sh) (bb : Nat) (x y : Int) (u : Value) (h : PH) : Prop :=
  (sh.live x ∧ sh.live y ∧ x < y → u = .bool true ∧ StO arr vo (sh.step op x.toNat y.toNat) bb h) ∧ (¬ (sh.live x ∧ sh.live y ∧ x < y) → u = .bool false ∧ StO arr vo sh bb h)
theorem ct_i_follow (arr op : List Int) (vo : Value) (sh : Sh) (bb : Nat) (x y : Int) (w : World) (h : PH) (hle : PLe h (hp w)) (rs : StO arr vo sh bb h) (ro : IntsR op vo (restP w h))
    (hsz : ∀ i, (sh.lab i).length ≤ 50000) (hall : sh.all.length ≤ 100000) :
    Calls Try.prog 118 [.pointer (some ⟨bb, 0, none⟩), stepV x y].toArray w (Ret w h (FollowR arr op vo sh bb x y)) := by
  obtain ⟨lvv, rr⟩ := rs.toR; refine calls_in Try.func118 rfl Try.ntmps118 rfl (Sat.start2 hle) ?_; have hle0 := ro.le; refine wp_sc (wp_sq ?_); refine sq_x rfl (x_box rfl rfl) rfl ?_; rintro _ _ ⟨b3, rfl, rfl⟩; refine sq_v rfl (v_assign rfl) rfl ?_; refine sq_end (qs_n (wp_sc ?_)); refine wp_rj 10 [(0, true), (1, true), (2, true), (4, true), (5, true), (6, true), (3, false), (7, false), (8, true), (9, true)] mixed_ok (by kernel_rfl) ?_; refine rj_v rfl rfl (v_move rfl) rfl ?_; refine rj_v rfl rfl (v_fieldAddr fd_84_0 ty_3 (by decide) rfl) rfl ?_; refine rj_v rfl rfl (v_loadB 0 ty_3 rfl rfl rfl) rfl ?_; refine rj_v rfl rfl (v_move rfl) rfl ?_; refine rj_v rfl rfl (v_fieldAddr fd_84_1 ty_3 (by decide) rfl) rfl ?_; refine rj_v rfl rfl (v_loadB 0 ty_3 rfl rfl rfl) rfl ?_; refine rj_u rfl rfl (x_callv rfl en_73 (fun w s => ct_i_place _ _ _ _ _ _ w (rr.mono (s.get 1 rfl)))) rfl ?_; refine rj_u rfl rfl (x_callv rfl en_73 (fun w s => ct_i_place _ _ _ _ _ _ w (rr.mono (s.get 1 rfl)))) rfl ?_; refine rj_v rfl rfl (v_assign rfl) rfl ?_; refine rj_v rfl rfl (v_assign rfl) rfl ?_; refine rj_end (qs_n (wp_sc (wp_sc (wp_sq ?_)))); refine sq_v rfl (v_move rfl) rfl ?_; refine sq_v rfl (v_lss rfl rfl) rfl ?_; refine sq_bd 16 rfl (fun c16 => ?_) (fun c16 => ?_)
  · refine sq_v rfl (v_move rfl) rfl ?_; refine sq_s rfl rfl ?_; refine sq_s rfl rfl ?_; refine sq_v rfl (v_pickt rfl rfl) rfl ?_; refine sq_v rfl (v_move rfl) rfl ?_; refine sq_s rfl rfl ?_; refine sq_s rfl rfl ?_; refine sq_s rfl rfl ?_; refine sq_s rfl rfl ?_; refine sq_s rfl rfl ?_; refine sq_v rfl (v_pickt rfl rfl) rfl ?_; refine sq_end (qs_n ?_); refine wp_ct rfl ?_; refine wp_sc (wp_sq ?_); refine sq_v rfl (v_assign rfl) rfl ?_; refine sq_end (qs_n (wp_rt (qs_r ?_))); exact qs_ret1 rfl rfl (fin_m 1 (i := 2) rfl rfl rfl (⟨fun hh => by have := place_ge.2 hh.1; omega, fun _ => ⟨rfl, rs⟩⟩))
  · refine sq_v rfl (v_move rfl) rfl ?_; refine sq_v rfl (v_move rfl) rfl ?_; refine sq_v rfl (v_lss rfl rfl) rfl ?_; refine sq_v rfl (v_pickf rfl rfl) rfl ?_; refine sq_bd 20 rfl (fun c20 => ?_) (fun c20 => ?_)
    · refine sq_v rfl (v_move rfl) rfl ?_; refine sq_s rfl rfl ?_; refine sq_s rfl rfl ?_; refine sq_s rfl rfl ?_; refine sq_s rfl rfl ?_; refine sq_s rfl rfl ?_; refine sq_v rfl (v_pickt rfl rfl) rfl ?_; refine sq_end (qs_n ?_); refine wp_ct rfl ?_; refine wp_sc (wp_sq ?_); refine sq_v rfl (v_assign rfl) rfl ?_; refine sq_end (qs_n (wp_rt (qs_r ?_))); exact qs_ret1 rfl rfl (fin_m 1 (i := 2) rfl rfl rfl (⟨fun hh => by have := place_ge.2 hh.2.1; omega, fun _ => ⟨rfl, rs⟩⟩))
    · refine sq_v rfl (v_move rfl) rfl ?_; refine sq_v rfl (v_fieldAddr fd_84_0 ty_3 (by decide) rfl) rfl ?_; refine sq_v rfl (v_loadB 0 ty_3 rfl rfl rfl) rfl ?_; refine sq_v rfl (v_fieldAddr fd_84_1 ty_3 (by decide) rfl) rfl ?_; refine sq_v rfl (v_loadB 0 ty_3 rfl rfl rfl) rfl ?_; refine sq_v rfl (v_geq rfl rfl) rfl ?_; refine sq_v rfl (v_pickf rfl rfl) rfl ?_; refine sq_end (qs_n ?_); refine wp_cd rfl (fun c27 => ?_) (fun c27 => ?_)
      · refine wp_sc (wp_sq ?_); refine sq_v rfl (v_assign rfl) rfl ?_; refine sq_end (qs_n (wp_rt (qs_r ?_))); exact qs_ret1 rfl rfl (fin_m 1 (i := 2) rfl rfl rfl (⟨fun hh => by have := hh.2.2; omega, fun _ => ⟨rfl, rs⟩⟩))
      · refine wp_sk (qs_n (wp_sc (wp_sq ?_))); refine sq_v rfl (v_move rfl) rfl ?_; refine sq_v rfl (v_move rfl) rfl ?_; refine sq_v rfl (v_move rfl) rfl ?_; have lx := place_ge.1 (Int.not_lt.1 c16); have ly := place_ge.1 (Int.not_lt.1 c20); have px := place_at lx; have py := place_at ly; refine sq_m 1 rfl rfl (x_call rfl en_75 (fun w s => ct_i_contract _ op _ sh _ _ _ x.toNat y.toNat w _ (s.get 1 rfl) rs (ro.mono (s.getR 1 2 rfl rfl (by decide))) (by first | assumption | omega) (by first | assumption | omega) px.1 py.1 (by have := hsz x.toNat; have := hsz y.toNat; omega) (by first | assumption | omega))) rfl ?_; rintro _ h31 ⟨rfl, rs31⟩; refine sq_end (qs_n (wp_sc (wp_sq ?_))); refine sq_v rfl (v_assign rfl) rfl ?_; refine sq_end (qs_n (wp_rt ?_)); exact qs_ret1 rfl rfl (fin_m 1 (i := 2) rfl rfl rfl (⟨fun _ => ⟨rfl, rs31⟩, fun hn => absurd ⟨lx, ly, by omega⟩ hn⟩))
def sh0 (ts : List Ten) : Sh := ⟨ts.map (·.l), List.replicate ts.length false⟩
theorem sh0_ok (ts : List Ten) : (sh0 ts).ok := by simp [Sh.ok, sh0]
theorem sh0_ixs (ts : List Ten) : (sh0 ts).ixs = List.range ts.length := by
  unfold Sh.ixs
  have : (sh0 ts).all.length = ts.length := by simp [sh0]
  rw [this, List.filter_eq_self]; intro i hi; simp only [sh0, List.getD, List.getElem?_replicate]
  split <;> rfl
def lvTo (ts : List Ten) (i : Nat) : List Lv := (List.range i).map fun (k : Nat) => ⟨k, (sh0 ts).lab k⟩
theorem sh0_lv (ts : List Ten) : (sh0 ts).lv = lvTo ts ts.length := by rw [Sh.lv, sh0_ixs]; rfl
theorem lvTo_step {ts : List Ten} {i : Nat} {t : Ten} (h : ts[i]? = some t) : lvTo ts (i + 1) = lvTo ts i ++ [⟨i, t.l⟩] := by
  have : (sh0 ts).lab i = t.l := by simp [Sh.lab, sh0, List.getD, h]
  rw [lvTo, List.range_succ, List.map_append]
  simp [lvTo, this]
theorem bplaces_state : bplaces Try.prog 128 = some ((List.replicate 100 (num 0) ++ [.slice none 0 0, .slice none 0 0, num 0]).toArray, [(0, 100), (100, 1), (101, 1), (102, 1)]) := by kernel_rfl
theorem built_state (arr : List Int) (vo : Value) (nx : Int) (hal : arr.length = 100) (hvo : vo.oneCell' = true) :
    Try.prog.built 128 [(0, .agg (ints arr).toArray), (1, vo), (3, num nx)] = some (stCells arr vo (.slice none 0 0) nx).toArray := by
  rw [built_of bplaces_state]; have f1 := fill_at (place := fun i => ([(0, 100), (100, 1), (101, 1), (102, 1)] : List (Nat × Nat)).toArray[i]?) (A := []) (us := ints arr) (cs := List.replicate 100 (num 0)) (B := [.slice none 0 0, .slice none 0 0, num 0]) (i := 0) (v := .agg (ints arr).toArray) (rest := [(1, vo), (3, num nx)]) rfl rfl (by rw [ints_length]; exact hal) rfl (by simp); have f2 := fill_at (place := fun i => ([(0, 100), (100, 1), (101, 1), (102, 1)] : List (Nat × Nat)).toArray[i]?) (A := ints arr) (us := [vo]) (cs := [.slice none 0 0]) (B := [.slice none 0 0, num 0]) (i := 1) (v := vo) (rest := [(3, num nx)]) rfl (oneCell_cells hvo) rfl (by rw [ints_length]; exact hal) rfl; have f3 := fill_at (place := fun i => ([(0, 100), (100, 1), (101, 1), (102, 1)] : List (Nat × Nat)).toArray[i]?) (A := ints arr ++ [vo, .slice none 0 0]) (us := [num nx]) (cs := [num 0]) (B := []) (i := 3) (v := num nx) (rest := []) rfl rfl rfl (by simp [ints_length, hal]) rfl; simp only [List.nil_append] at f1; rw [f1]; rw [show (ints arr ++ [Value.slice none 0 0, .slice none 0 0, num 0]) = ints arr ++ [.slice none 0 0] ++ [.slice none 0 0, num 0] by simp, f2]; rw [show (ints arr ++ [vo] ++ [Value.slice none 0 0, num 0]) = ints arr ++ [vo, .slice none 0 0] ++ [num 0] ++ [] by simp, f3]
  simp [Instr.fill, stCells]
set_option maxHeartbeats 2000000 in
theorem ct_i_startState (k p n : Int) (ts : List Ten) (op : List Int) (vt vo : Value) (w : World) (r : TensR ts vt (hp w)) (r' : IntsR op vo (hp w)) (hok : ∀ t ∈ ts, axesL t.l t.d) (hts : ts.length ≤ 12) :
    Calls Try.prog 72 [netV k p n vt vo].toArray w (Ret w emp (fun u h => ∃ bb arr, u = ptrV bb ∧ StO arr vo (sh0 ts) bb h ∧ (consL ts → arrInv ts arr))) := by
  refine calls_in Try.func72 rfl Try.ntmps72 rfl (Sat.start w) ?_; have hle0 := r.le; obtain ⟨cs_r, rr_r, hc_r⟩ := r.at; have hle1 := r'.le; refine wp_sc (wp_sq ?_); refine sq_x rfl (x_box rfl rfl) rfl ?_; rintro _ _ ⟨b1, rfl, rfl⟩; refine sq_v rfl (v_assign rfl) rfl ?_; refine sq_end (qs_n (wp_sc (wp_sq ?_))); refine sq_v rfl (v_fieldAddr fd_32_1 ty_30 (by decide) rfl) rfl ?_; refine sq_v rfl (v_loadB 0 ty_30 rfl rfl rfl) rfl ?_; refine sq_x rfl (x_call rfl en_91 (fun w s => ct_i_dimsOf _ _ w (r.mono (s.get 1 rfl)) (by first | assumption | omega))) rfl ?_; rintro _ h11 ⟨arr, ok, rfl, hal, hok', hav⟩; refine sq_v rfl (v_move rfl) rfl ?_; refine sq_v rfl (v_extract rfl rfl) rfl ?_; refine sq_v rfl (v_extract rfl rfl) rfl ?_; refine sq_x rfl (x_alloc ty_104 rfl) rfl ?_; rintro _ _ ⟨b3, rfl, rfl⟩; refine sq_m 0 rfl rfl (m_storeW 0 ty_104 rfl rfl rfl (by rw [ints_length]; exact hal) (ints_one arr) rfl (by simp)) rfl ?_; rintro _ _ ⟨rfl, rfl⟩; refine sq_v rfl (v_assign rfl) rfl ?_; refine sq_end (qs_n (wp_sc (wp_sq ?_))); refine sq_v rfl (v_loadNB 0 ty_104 rfl rfl (by rw [ints_length]; exact hal) (by rw [List.drop_zero, List.take_of_length_le]; rw [ints_length, hal]; omega)) rfl ?_; refine sq_v rfl (v_fieldAddr fd_32_2 ty_25 (by decide) rfl) rfl ?_; refine sq_v rfl (v_loadB 2 ty_25 rfl rfl rfl) rfl ?_; refine sq_v rfl (v_fieldAddr fd_32_1 ty_30 (by decide) rfl) rfl ?_; refine sq_v rfl (v_loadB 2 ty_30 rfl rfl rfl) rfl ?_; refine sq_v rfl (v_len Try.underlying30 rfl r.sl) rfl ?_; refine sq_v rfl (v_build (stCells arr vo (.slice none 0 0) ts.length) rfl (built_state arr vo _ hal r'.sl.one)) rfl ?_; refine sq_x rfl (x_box rfl rfl) rfl ?_; rintro _ _ ⟨b21, rfl, rfl⟩; refine sq_v rfl (v_assign rfl) rfl ?_; refine sq_end (qs_n (wp_sc (wp_sc (wp_sq ?_)))); refine sq_v rfl (v_fieldAddr fd_32_1 ty_30 (by decide) rfl) rfl ?_; refine sq_v rfl (v_loadB 3 ty_30 rfl rfl rfl) rfl ?_; refine sq_v rfl (v_len Try.underlying30 rfl r.sl) rfl ?_; refine sq_v rfl (v_move rfl) rfl ?_; refine sq_end (qs_n (wp_bl ?_)); refine wp_lp (σ := Nat × Value × PH × (List Value) × PH) (fun z_ => [(2, .pointer none), (5, .pointer (some ⟨b21, 0, none⟩)), (23, vt), (24, num ts.length), (25, num z_.1)]) (fun z_ => [z_.2.2.2.2, z_.2.2.1, box b21 (ints arr ++ [vo, z_.2.1, num ts.length]) 128, box b3 (ints arr) 104, h11, box b1 [num k, num p, num n, vt, vo] 32, hp w]) (fun z_ => z_.1 ≤ ts.length ∧ LvL (lvTo ts z_.1) z_.2.2.2.1 z_.2.2.2.2 ∧ RowO (130) z_.2.2.2.1 z_.1 2 z_.2.1 z_.2.2.1) (fun z_ => ts.length - z_.1) (0, .slice none 0 0, emp, [], emp) (⟨by (try dsimp only); omega, LvL.nil _, RowO.nil⟩) ⟨rfl, rfl, rfl, rfl, (by first | rfl | exact ksub rfl (by first | omega | (simp; done) | (simp; omega))), trivial⟩ (fun _ s => (emp_sat (emp_sat s))) ?_; rintro ⟨i, lx, ha, cs, hl⟩ ⟨hi, hlv, rr⟩; dsimp only at hi hlv rr ⊢; refine wp_sc (wp_sq ?_); refine sq_v rfl (v_lss rfl rfl) rfl ?_; refine sq_end (qs_n (wp_sc ?_)); refine wp_cd rfl (fun c26 => ?_) (fun c26 => ?_)
  · refine wp_sk (qs_n (wp_sc (wp_bl (wp_sc (wp_sq ?_))))); refine sq_v rfl (v_move rfl) rfl ?_; obtain ⟨t28, a28, b28, c28, ht28, hcs28, rl28, rd28, rx28⟩ := hc_r (i) (by first | omega | (rw [List.length_set]; omega)); refine sq_v rfl (v_indexAddr Try.underlying30 ty_44 rfl rfl rr_r (by decide) (by omega) (by omega)) rfl ?_; refine sq_v rfl (v_loadNE 6 ty_44 rfl rfl rr_r (by have := rr_r.1; omega) rfl hcs28) rfl ?_; refine sq_x rfl (x_alloc ty_44 rfl) rfl ?_; rintro _ _ ⟨b7, rfl, rfl⟩; refine sq_v rfl (v_assign rfl) rfl ?_; refine sq_m 0 rfl rfl (m_store 0 ty_44 rfl rfl rfl rfl (by simp [rl28.sl.one, rd28.sl.one, rx28.sl.one]) rfl (Nat.le_of_ble_eq_true rfl)) rfl ?_; rintro _ _ ⟨rfl, rfl⟩; refine sq_end ?_; have hax := hok t28 (List.mem_of_getElem? ht28); have hl12 := hax.1; refine qs_n ?_; refine wp_rk [false, false, true, false, false, false, false, false] 12 [(0, true), (1, true), (2, true), (3, true), (4, true), (5, true), (6, true), (7, true), (8, false), (9, true), (10, false), (11, false), (12, false), (13, false), (14, false)] mixed_ok (by kernel_rfl) ?_; refine rk_v rfl rfl (v_move rfl) rfl ?_; refine rk_v rfl rfl (v_move rfl) rfl ?_; refine rk_v rfl rfl (v_nilCheck rfl) rfl ?_; refine rk_v rfl rfl (v_fieldAddr fd_128_2 ty_126 (by decide) rfl) rfl ?_; refine rk_v rfl rfl (v_loadB 3 ty_126 rfl rfl (pre_get hal 1 rfl)) rfl ?_; refine rk_v rfl rfl (v_move rfl) rfl ?_; refine rk_v rfl rfl (v_fieldAddr fd_44_0 ty_25 (by decide) rfl) rfl ?_; refine rk_v rfl rfl (v_loadB 0 ty_25 rfl rfl rfl) rfl ?_; refine rk_x rfl rfl (x_call rfl en_47 (fun w s => ct_i_copyInts _ _ w (rl28.mono (s.get 7 rfl)) (by first | assumption | omega))) rfl ?_; rintro v38 h38 r38; refine rk_v rfl rfl (v_build [num i, v38] rfl (by obtain ⟨_, _, rfl⟩ := r38.toR.sl; kernel_rfl)) rfl ?_; refine rk_x rfl rfl (x_buildS [.agg [num i, v38].toArray] Try.underlying126 ty_130 (by decide) rfl rfl rfl (by decide) (by decide) (by intro v hv; simp at hv; subst hv; rfl)) rfl ?_; intro v40 h40 (r40 : RowO 130 [num i, v38] 1 2 v40 h40); refine rk_m 4 rfl rfl rfl rfl (m_append 4 0 Try.underlying126 ty_130 rfl rfl (by decide) rfl rfl rfl rr rfl r40.toR (by simp [one_int, r38.toR.sl.one]) (by unfold maxLen; omega) (by omega)) rfl ?_; intro v41 h_r41 (r41 : RowO 130 (cs ++ [num i, v38]) (i + 1) 2 v41 h_r41); refine rk_fv rfl rfl (v_nilCheck rfl) rfl ?_; refine rk_fv rfl rfl (v_fieldAddr fd_128_2 ty_126 (by decide) rfl) rfl ?_; refine rk_mt 5 rfl rfl rfl rfl (m_store1 5 ty_126 rfl rfl r41.toR.sl.one rfl (by simp [ints_length, hal])) rfl ?_; rintro _ _ ⟨rfl, rfl⟩; rw [pre_set (j := 1) hal]; dsimp only [List.set]; refine rk_end (qs_bn (qs_n (wp_sq ?_))); refine sq_v rfl (v_add rfl rfl ((by unfold I64; omega))) rfl ?_; refine sq_v rfl (v_move rfl) rfl ?_; refine sq_end ?_; refine qs_dj 3 1 rfl rfl rfl (fun hdj => ?_); exact qs_bk (i + 1, v41, h_r41, cs ++ [num i, v38], PUn hl h38) ⟨by (try dsimp only); omega, by (try dsimp only); rw [lvTo_step ht28]; exact (hlv.mono (PLe.un_l _ _)).snoc (x := ⟨i, t28.l⟩) (r38.toR.mono (PLe.un_r hdj)), r41⟩ (by simp only; omega) ⟨rfl, rfl, rfl, rfl, (by first | rfl | exact ksub rfl (by first | omega | (simp; done) | (simp; omega))), trivial⟩ (fun _ s => Sat.merge (s.pick [3, 1, 4, 5, 6, 7, 8, 9] (by decide) rfl))
  · refine wp_ex (qs_x (qs_x (qs_bx (qs_n (wp_sc (wp_sq ?_)))))); refine sq_v rfl (v_move rfl) rfl ?_; refine sq_v rfl (v_assign rfl) rfl ?_; refine sq_end (qs_n (wp_rt ?_)); refine qs_close [box b21 _ _, hp w] [hl, ha] (fun _ s => s.pick [2, 6, 0, 1] (by decide) rfl) (fun md1 => ?_); refine qs_close [hp w] [box b21 _ _, joinP [hl, ha]] (fun _ s => s.pick [2, 1, 0] (by decide) rfl) (fun md2 => ?_); have ei : i = ts.length := by omega
    subst ei; have el : ((sh0 ts).all.length : Int) = ts.length := by simp [sh0]
    have hll : (lvTo ts ts.length).length = ts.length := by simp [lvTo]
    have hlive := (hlv.mono (md1.le hl (by simp))).live (by rw [hll]; exact rr.toR.mono (md1.le ha (by simp))); exact qs_ret1 rfl rfl (fin_t 0 (i := 1) rfl rfl rfl ⟨b21, arr, rfl, ⟨hal, sh0_ok ts, lx, _, by rw [sh0_lv]; exact hlive, by rw [el]; exact md2⟩, fun hc => hav (hok'.2 hc)⟩)
end Go.Proofs.Ytehjljijionhaaa
namespace Go.Proofs.Ytehjljijionhaaa
set_option maxRecDepth 100000
open Go.RowKit
theorem pigeon : ∀ {l m : List Int}, l.Nodup → (∀ x ∈ l, x ∈ m) → l.length ≤ m.length
  | [], _, _, _ => by simp
  | a :: r, m, hn, hs => by
    have ha := hs a (by simp); have hn' := List.nodup_cons.1 hn; have ih := pigeon (l := r) (m := m.erase a) hn'.2 (fun x hx => (List.mem_erase_of_ne (fun e => hn'.1 (by rw [← e]; exact hx))).2 (hs x (by simp [hx]))); rw [List.length_erase_of_mem ha] at ih; have : 0 < m.length := List.length_pos_of_mem ha; simp only [List.length_cons]
    omega
theorem joinI_nodup {a b : List Int} (ha : a.Nodup) (hb : b.Nodup) : (joinI a b).Nodup := by
  refine List.nodup_append.2 ⟨ha, List.Pairwise.filter _ hb, fun x hx y hy e => ?_⟩; subst e; have := (List.mem_filter.1 hy).2
  simp [hx] at this
theorem mem_joinI {a b : List Int} {x : Int} : x ∈ joinI a b ↔ x ∈ a ∨ x ∈ b := by
  simp only [joinI, List.mem_append, List.mem_filter, decide_eq_true_eq]
  constructor
  · rintro (h | h)
    · exact .inl h
    · exact .inr h.1
  · rintro (h | h)
    · exact .inl h
    · by_cases hx : x ∈ a
      · exact .inl hx
      · exact .inr ⟨h, hx⟩
/-- Each row of labels is without repetition and of labels of the network. -/
def Sh.fine (s : Sh) : Prop := s.ok ∧ ∀ i, (s.lab i).Nodup ∧ ∀ x ∈ s.lab i, 0 ≤ x ∧ x ≤ 99
theorem few_labels {l : List Int} (h : l.Nodup) (h1 : ∀ x ∈ l, 0 ≤ x ∧ x ≤ 99) : l.length ≤ 100 := by
  have := pigeon (m := (List.range 100).map Int.ofNat) h (fun x hx => by
    have := h1 x hx; simp only [List.mem_map, List.mem_range]; exact ⟨x.toNat, by omega, show ((x.toNat : Nat) : Int) = x by omega⟩)
  simpa using this
theorem Sh.fine.few {s : Sh} (h : s.fine) (i : Nat) : (s.lab i).length ≤ 100 := few_labels (h.2 i).1 (h.2 i).2
theorem res_mem {op : List Int} {s : Sh} {a b : Nat} {x : Int} (h : x ∈ s.res op a b) : x ∈ s.lab a ∨ x ∈ s.lab b := mem_joinI.1 (List.mem_filter.1 h).1
theorem Sh.fine.step {s : Sh} (h : s.fine) (op : List Int) (a b : Nat) : (s.step op a b).fine := by
  refine ⟨Sh.step_ok h.1 a b, fun i => ?_⟩
  rcases Nat.lt_trichotomy i s.all.length with hi | hi | hi
  · rw [step_lab hi]; exact h.2 i
  · subst hi; rw [step_lab_new]; refine ⟨List.Pairwise.filter _ (joinI_nodup (h.2 a).1 (h.2 b).1), fun x hx => ?_⟩
    rcases res_mem hx with hx | hx
    · exact (h.2 a).2 x hx
    · exact (h.2 b).2 x hx
  · have : (s.step op a b).lab i = [] := by simp only [Sh.lab, Sh.step, List.getD]; rw [List.getElem?_eq_none (by simp; omega)]; rfl
    rw [this]; exact ⟨List.nodup_nil, fun x hx => by simp at hx⟩
theorem sh0_fine {ts : List Ten} (h : ∀ t ∈ ts, axesL t.l t.d) : (sh0 ts).fine := by
  refine ⟨sh0_ok ts, fun i => ?_⟩
  by_cases hi : i < ts.length
  · have : (sh0 ts).lab i = ts[i].l := by simp [Sh.lab, sh0, List.getD, hi]
    rw [this]; have hax := h ts[i] (List.getElem_mem hi); exact ⟨axes_nodup hax, fun x hx => by obtain ⟨j, hj, e⟩ := getD_of_mem hx; have := (hax.2.2 j hj).1; rw [e] at this; exact this⟩
  · have : (sh0 ts).lab i = [] := by simp [Sh.lab, sh0, List.getD, Nat.le_of_not_lt hi]
    rw [this]; exact ⟨List.nodup_nil, fun x hx => by simp at hx⟩
/-- The state behind some steps. -/
noncomputable def shTo (op : List Int) (s : Sh) (ss : List Stp) : Sh := ss.foldl (fun s x => s.step op x.a.toNat x.b.toNat) s
theorem shTo_step {op : List Int} {s : Sh} {ss : List Stp} {i : Nat} {x : Stp} (h : ss[i]? = some x) : shTo op s (ss.take (i + 1)) = (shTo op s (ss.take i)).step op x.a.toNat x.b.toNat := by
  obtain ⟨hi, e⟩ := List.getElem?_eq_some_iff.1 h; rw [List.take_succ_eq_append_getElem hi, e, shTo, List.foldl_append]; rfl
theorem shTo_fine {op : List Int} {s : Sh} (h : s.fine) : ∀ ss, (shTo op s ss).fine
  | [] => h
  | x :: r => shTo_fine (h.step op x.a.toNat x.b.toNat) r
theorem shTo_all {op : List Int} : ∀ {s : Sh} {ss : List Stp}, (shTo op s ss).all.length = s.all.length + ss.length
  | s, [] => by simp [shTo]
  | s, x :: r => by
    have := shTo_all (op := op) (s := s.step op x.a.toNat x.b.toNat) (ss := r)
    show (shTo op (s.step op x.a.toNat x.b.toNat) r).all.length = _
    rw [this]
    simp [Sh.step]; omega
def stepOk (s : Sh) (x : Stp) : Prop := s.live x.a ∧ s.live x.b ∧ x.a < x.b
def okSteps (op : List Int) (s : Sh) (ss : List Stp) : Prop := ∀ i, i < ss.length → ∀ x, ss[i]? = some x → stepOk (shTo op s (ss.take i)) x
def orderL (k p n : Int) (ts : List Ten) (op : List Int) (ss : List Stp) : Prop := netL k p n ts op ∧ ss.length = ts.length - 1 ∧ okSteps op (sh0 ts) ss
open Classical in
noncomputable def orderB (k p n : Int) (ts : List Ten) (op : List Int) (ss : List Stp) : Bool := decide (orderL k p n ts op ss)
theorem orderB_no {k p n : Int} {ts : List Ten} {op : List Int} {ss : List Stp} (h : ¬ orderL k p n ts op ss) : Value.bool false = .bool (orderB k p n ts op ss) := by simp [orderB, h]
theorem orderB_yes {k p n : Int} {ts : List Ten} {op : List Int} {ss : List Stp} (h : orderL k p n ts op ss) : Value.bool true = .bool (orderB k p n ts op ss) := by simp [orderB, h]
theorem orderB_true {k p n : Int} {ts : List Ten} {op : List Int} {ss : List Stp} : orderB k p n ts op ss = true ↔ orderL k p n ts op ss := by simp [orderB]
theorem orderB_false {k p n : Int} {ts : List Ten} {op : List Int} {ss : List Stp} : orderB k p n ts op ss = false ↔ ¬ orderL k p n ts op ss := by simp [orderB]
open Classical in
noncomputable def okB (s : Sh) (x y : Int) : Bool := decide (s.live x ∧ s.live y ∧ x < y)
open Classical in
noncomputable def nextSh (op : List Int) (s : Sh) (x y : Int) : Sh := if s.live x ∧ s.live y ∧ x < y then s.step op x.toNat y.toNat else s
theorem okB_true {s : Sh} {x y : Int} : okB s x y = true ↔ s.live x ∧ s.live y ∧ x < y := by simp [okB]
theorem okB_false {s : Sh} {x y : Int} : okB s x y = false ↔ ¬ (s.live x ∧ s.live y ∧ x < y) := by simp [okB]
theorem nextSh_yes {op : List Int} {s : Sh} {x y : Int} (h : okB s x y = true) : nextSh op s x y = s.step op x.toNat y.toNat := if_pos (okB_true.1 h)
theorem nextSh_no {op : List Int} {s : Sh} {x y : Int} (h : okB s x y = false) : nextSh op s x y = s := if_neg (okB_false.1 h)
theorem ct_L_follow (arr op : List Int) (vo : Value) (sh : Sh) (bb : Nat) (x y : Int) (w : World) (h : PH) (hle : PLe h (hp w)) (rs : StO arr vo sh bb h) (ro : IntsR op vo (restP w h))
    (hsz : ∀ i, (sh.lab i).length ≤ 50000) (hall : sh.all.length ≤ 100000) :
    Calls Try.prog 118 [.pointer (some ⟨bb, 0, none⟩), stepV x y].toArray w (Ret w h (fun u h' => u = .bool (okB sh x y) ∧ StO arr vo (nextSh op sh x y) bb h')) :=
  (ct_i_follow arr op vo sh bb x y w h hle rs ro hsz hall).mono fun _ _ hh => by
    obtain ⟨u, h', h1, h2, h3⟩ := hh; refine ⟨u, h', h1, h2, ?_⟩
    by_cases hc : sh.live x ∧ sh.live y ∧ x < y
    · have := h3.1 hc; exact ⟨by rw [okB_true.2 hc]; exact this.1, by rw [nextSh_yes (okB_true.2 hc)]; exact this.2⟩
    · have := h3.2 hc; exact ⟨by rw [okB_false.2 hc]; exact this.1, by rw [nextSh_no (okB_false.2 hc)]; exact this.2⟩
set_option maxHeartbeats 1000000 in
theorem ct_i_OrderOk (k p n : Int) (ts : List Ten) (op : List Int) (ss : List Stp) (vt vo v : Value) (w : World) (r : TensR ts vt (hp w)) (r' : IntsR op vo (hp w)) (rv : StepsR ss v (hp w)) (hs : op.length ≤ 1048576) :
    Calls Try.prog 71 [netV k p n vt vo, v].toArray w (RetV w (.bool (orderB k p n ts op ss))) := by
  refine calls_in Try.func71 rfl Try.ntmps71 rfl (Sat.start w) ?_; have hle0 := r.le; obtain ⟨cs_r, rr_r, hc_r⟩ := r.at; have hle1 := r'.le; have hle2 := rv.le; obtain ⟨cs_rv, rr_rv, hc_rv⟩ := rv.at; refine wp_sc (wp_sq ?_); refine sq_x rfl (x_box rfl rfl) rfl ?_; rintro _ _ ⟨b2, rfl, rfl⟩; refine sq_v rfl (v_assign rfl) rfl ?_; refine sq_end (qs_n (wp_sc (wp_sc (wp_sq ?_)))); refine sq_v rfl (v_loadNB 0 ty_32 rfl rfl rfl rfl) rfl ?_; refine sq_u rfl (x_callv rfl en_44 (fun w s => ct_i_NetworkOk _ _ _ _ _ _ _ w (r.mono (s.get 1 rfl)) (r'.mono (s.get 1 rfl)) (by first | assumption | omega))) rfl ?_; refine sq_bb 9 rfl (fun c9 => ?_) (fun c9 => ?_)
  · refine sq_v rfl (v_not rfl) rfl ?_; refine sq_v rfl (v_move rfl) rfl ?_; refine sq_v rfl (v_move rfl) rfl ?_; refine sq_v rfl (v_len Try.underlying54 rfl rv.sl) rfl ?_; refine sq_v rfl (v_fieldAddr fd_32_1 ty_30 (by decide) rfl) rfl ?_; refine sq_v rfl (v_loadB 0 ty_30 rfl rfl rfl) rfl ?_; refine sq_v rfl (v_len Try.underlying30 rfl r.sl) rfl ?_; refine sq_v rfl (v_sub rfl rfl ((by unfold I64; omega))) rfl ?_; refine sq_v rfl (v_max rfl rfl) rfl ?_; refine sq_v rfl (v_neq rfl rfl) rfl ?_; refine sq_v rfl (v_pickf rfl rfl) rfl ?_; refine sq_end (qs_n ?_); refine wp_cd rfl (fun c20 => ?_) (fun c20 => ?_)
    · refine wp_sc (wp_sq ?_); refine sq_v rfl (v_assign rfl) rfl ?_; refine sq_end (qs_n (wp_rt (qs_r ?_))); exact qs_ret1 rfl rfl (fin_q (i := 1) rfl (orderB_no (fun h => by have := h.2.1; omega)))
    · refine wp_sk (qs_n (wp_sc (wp_sq ?_))); refine sq_v rfl (v_loadNB 0 ty_32 rfl rfl rfl rfl) rfl ?_; have hnet := netB_true.1 c9; have hax := net_axes hnet; have h12 := hnet.2.1; have hfi := sh0_fine hax; refine sq_x rfl (x_call rfl en_72 (fun w s => ct_i_startState _ _ _ _ _ _ _ w (r.mono (s.get 1 rfl)) (r'.mono (s.get 1 rfl)) hax h12)) rfl ?_; rintro _ h22 ⟨bb, arr, rfl, rst, _⟩; refine sq_v rfl (v_assign rfl) rfl ?_; refine sq_end (qs_n (wp_sc (wp_sc (wp_sq ?_)))); refine sq_v rfl (v_move rfl) rfl ?_; refine sq_v rfl (v_len Try.underlying54 rfl rv.sl) rfl ?_; refine sq_v rfl (v_move rfl) rfl ?_; refine sq_end (qs_n (wp_bl ?_)); refine wp_lp (σ := Nat × PH) (fun z_ => [(4, .bool false), (5, ptrV bb), (23, v), (24, num ss.length), (25, num z_.1)]) (fun z_ => [z_.2, box b2 [num k, num p, num n, vt, vo] 32, hp w]) (fun z_ => z_.1 ≤ ss.length ∧ StO arr vo (shTo op (sh0 ts) (ss.take z_.1)) bb z_.2 ∧ (∀ j, j < z_.1 → ∀ x, ss[j]? = some x → stepOk (shTo op (sh0 ts) (ss.take j)) x)) (fun z_ => ss.length - z_.1) (0, h22) (⟨by (try dsimp only); omega, rst, fun j hj => by omega⟩) ⟨rfl, rfl, rfl, rfl, (by first | rfl | exact ksub rfl (by first | omega | (simp; done) | (simp; omega))), trivial⟩ (fun _ s => s) ?_; rintro ⟨i, g⟩ ⟨hi, rst, hks⟩; dsimp only at hi rst hks ⊢; have hfs := shTo_fine (op := op) hfi (ss.take i); have hal := shTo_all (op := op) (s := sh0 ts) (ss := ss.take i); rw [show (sh0 ts).all.length = ts.length by simp [sh0], List.length_take] at hal; refine wp_sc (wp_sq ?_); refine sq_v rfl (v_lss rfl rfl) rfl ?_; refine sq_end (qs_n (wp_sc ?_)); refine wp_cd rfl (fun c26 => ?_) (fun c26 => ?_)
      · refine wp_sk (qs_n (wp_sc (wp_bl (wp_sc (wp_sq ?_))))); obtain ⟨x27, hx27, hcs27⟩ := hc_rv (i) (by first | omega | (rw [List.length_set]; omega)); refine sq_v rfl (v_indexAddr Try.underlying54 ty_84 rfl rfl rr_rv (by decide) (by omega) (by first | omega | (rw [List.length_set]; omega))) rfl ?_; refine sq_v rfl (v_loadNE 2 ty_84 rfl rfl rr_rv (by have := rr_rv.1; omega) rfl hcs27) rfl ?_; refine sq_x rfl (x_alloc ty_84 rfl) rfl ?_; rintro _ _ ⟨b7, rfl, rfl⟩; refine sq_m 0 rfl rfl (m_store 0 ty_84 rfl rfl rfl rfl (by simp [Value.oneCell']) rfl (Nat.le_of_ble_eq_true rfl)) rfl ?_; rintro _ _ ⟨rfl, rfl⟩; refine sq_end (qs_n (wp_sc (wp_sq ?_))); refine sq_v rfl (v_move rfl) rfl ?_; refine sq_v rfl (v_loadNB 0 ty_84 rfl rfl rfl rfl) rfl ?_; refine sq_m 1 rfl rfl (x_call rfl en_118 (fun w s => ct_L_follow arr op vo _ bb _ _ w _ (s.get 1 rfl) rst (r'.mono (s.getR 1 3 rfl rfl (by decide))) (fun i => by have := hfs.few i; omega) (by omega))) rfl ?_; rintro _ h31 ⟨rfl, rst'⟩; refine sq_v rfl (v_not rfl) rfl ?_; refine sq_end (qs_n ?_); refine wp_cn _ rfl (fun c32 => ?_) (fun c32 => ?_)
        · refine wp_sc (wp_sq ?_); refine sq_v rfl (v_assign rfl) rfl ?_; refine sq_end (qs_n (wp_rt (qs_br (qs_r (qs_r (qs_br (qs_r ?_))))))); exact qs_ret1 rfl rfl (fin_q (i := 3) rfl (orderB_no (fun h => okB_false.1 c32 (h.2.2 i (by omega) x27 hx27))))
        · refine wp_sk (qs_bn (qs_n (wp_sq ?_))); refine sq_v rfl (v_add rfl rfl ((by unfold I64; omega))) rfl ?_; refine sq_v rfl (v_move rfl) rfl ?_; refine sq_end ?_; exact qs_bk (i + 1, h31) ⟨by (try dsimp only); omega, by (try dsimp only); rw [nextSh_yes c32] at rst'; rw [shTo_step hx27]; exact rst', step_all hks (fun x hx => by rw [hx27] at hx; cases hx; exact okB_true.1 c32)⟩ (by simp only; omega) ⟨rfl, rfl, rfl, rfl, (by first | rfl | exact ksub rfl (by first | omega | (simp; done) | (simp; omega))), trivial⟩ (fun _ s => s.pick [1, 2, 3] (by decide) rfl)
      · refine wp_ex (qs_x (qs_x (qs_bx (qs_n (wp_sc (wp_sq ?_)))))); refine sq_v rfl (v_assign rfl) rfl ?_; refine sq_end (qs_n (wp_rt ?_)); exact qs_ret1 rfl rfl (fin_q (i := 2) rfl (orderB_yes ⟨hnet, by omega, fun j hj => hks j (by omega)⟩))
  · refine sq_v rfl (v_not rfl) rfl ?_; refine sq_v rfl (v_move rfl) rfl ?_; refine sq_s rfl rfl ?_; refine sq_s rfl rfl ?_; refine sq_s rfl rfl ?_; refine sq_s rfl rfl ?_; refine sq_s rfl rfl ?_; refine sq_s rfl rfl ?_; refine sq_s rfl rfl ?_; refine sq_s rfl rfl ?_; refine sq_v rfl (v_pickt rfl rfl) rfl ?_; refine sq_end (qs_n ?_); refine wp_ct rfl ?_; refine wp_sc (wp_sq ?_); refine sq_v rfl (v_assign rfl) rfl ?_; refine sq_end (qs_n (wp_rt (qs_r ?_))); exact qs_ret1 rfl rfl (fin_q (i := 1) rfl (orderB_no (fun h => netB_false.1 c9 h.1)))
theorem shTo_gone {op : List Int} {s : Sh} {ss : List Stp} (h : s.ok) : (shTo op s ss).gone.length = s.gone.length + ss.length := by
  induction ss generalizing s with
  | nil => simp [shTo]
  | cons x r ih =>
    have := ih (s := s.step op x.a.toNat x.b.toNat) (Sh.step_ok h _ _)
    show (shTo op (s.step op x.a.toNat x.b.toNat) r).gone.length = _
    rw [this]
    simp [Sh.step]; omega
theorem getD_appB {a b : List Bool} {i : Nat} (h : i < a.length) : (a ++ b).getD i false = a.getD i false := getD_append_left h
theorem set2_rep {G : List Bool} {a b m : Nat} (ha : a < G.length) (hb : b < G.length) : ((G ++ List.replicate (m + 1) false).set a true).set b true = ((G.set a true).set b true ++ [false]) ++ List.replicate m false := by
  rw [List.set_append_left _ _ ha, List.set_append_left _ _ (by rw [List.length_set]; exact hb), List.replicate_succ, List.append_assoc]; rfl
set_option maxHeartbeats 1000000 in
theorem ct_s_OrderOk (k p n : Int) (ts : List Ten) (op : List Int) (ss : List Stp) (vt vo v : Value) (w : World) (r : TensR ts vt (hp w)) (r' : IntsR op vo (hp w)) (rv : StepsR ss v (hp w)) (hs : op.length ≤ 1048576) (hss : ss.length ≤ 1048576) :
    Calls Try.prog 68 [netV k p n vt vo, v].toArray w (RetV w (.bool (orderB k p n ts op ss))) := by
  refine calls_in Try.func68 rfl Try.ntmps68 rfl (Sat.start w) ?_; have hle0 := r.le; obtain ⟨cs_r, rr_r, hc_r⟩ := r.at; have hle1 := r'.le; have hle2 := rv.le; obtain ⟨cs_rv, rr_rv, hc_rv⟩ := rv.at; refine wp_sc (wp_sq ?_); refine sq_x rfl (x_box rfl rfl) rfl ?_; rintro _ _ ⟨b2, rfl, rfl⟩; refine sq_v rfl (v_assign rfl) rfl ?_; refine sq_end (qs_n (wp_sc (wp_sq ?_))); refine sq_v rfl (v_fieldAddr fd_32_1 ty_30 (by decide) rfl) rfl ?_; refine sq_v rfl (v_loadB 0 ty_30 rfl rfl rfl) rfl ?_; refine sq_v rfl (v_len Try.underlying30 rfl r.sl) rfl ?_; refine sq_v rfl (v_assign rfl) rfl ?_; refine sq_end (qs_n (wp_sc (wp_sc (wp_sq ?_)))); refine sq_v rfl (v_loadNB 0 ty_32 rfl rfl rfl rfl) rfl ?_; refine sq_u rfl (x_callv rfl en_34 (fun w s => ct_s_NetworkOk _ _ _ _ _ _ _ w (r.mono (s.get 1 rfl)) (r'.mono (s.get 1 rfl)) (by first | assumption | omega))) rfl ?_; refine sq_bb 13 rfl (fun c13 => ?_) (fun c13 => ?_)
  · refine sq_v rfl (v_not rfl) rfl ?_; refine sq_v rfl (v_move rfl) rfl ?_; refine sq_v rfl (v_move rfl) rfl ?_; refine sq_v rfl (v_len Try.underlying54 rfl rv.sl) rfl ?_; refine sq_v rfl (v_move rfl) rfl ?_; refine sq_v rfl (v_sub rfl rfl ((by unfold I64; omega))) rfl ?_; refine sq_v rfl (v_max rfl rfl) rfl ?_; refine sq_v rfl (v_neq rfl rfl) rfl ?_; refine sq_v rfl (v_pickf rfl rfl) rfl ?_; refine sq_end (qs_n ?_); refine wp_cd rfl (fun c22 => ?_) (fun c22 => ?_)
    · refine wp_sc (wp_sq ?_); refine sq_v rfl (v_assign rfl) rfl ?_; refine sq_end (qs_n (wp_rt (qs_r ?_))); exact qs_ret1 rfl rfl (fin_q (i := 1) rfl (orderB_no (fun h => by have := h.2.1; omega)))
    · refine wp_sk (qs_n (wp_sc (wp_sq ?_))); refine sq_v rfl (v_move rfl) rfl ?_; refine sq_v rfl (v_move rfl) rfl ?_; refine sq_v rfl (v_len Try.underlying54 rfl rv.sl) rfl ?_; refine sq_v rfl (v_add rfl rfl ((by unfold I64; omega))) rfl ?_; have hnet := netB_true.1 c13; have h12 := hnet.2.1; refine sq_x rfl (x_makeBl Try.underlying119 ty_4 rfl rfl (by first | omega | (simp only [List.length_cons, List.length_nil]; omega) | (simp only [List.length_append, List.length_cons, List.length_nil]; omega) | (rw [List.length_set]; omega) | (rw [List.length_replicate]; omega) | (simp; omega)) (by first | omega | (simp only [List.length_cons, List.length_nil]; omega) | (simp only [List.length_append, List.length_cons, List.length_nil]; omega) | (rw [List.length_set]; omega) | (rw [List.length_replicate]; omega) | (simp; omega)) (by first | omega | (simp only [List.length_cons, List.length_nil]; omega) | (simp only [List.length_append, List.length_cons, List.length_nil]; omega) | (rw [List.length_set]; omega) | (rw [List.length_replicate]; omega) | (simp; omega))) rfl ?_; intro v27 h27 r27; refine sq_v rfl (v_assign rfl) rfl ?_; refine sq_end (qs_n (wp_sc (wp_sc (wp_sq ?_)))); refine sq_v rfl (v_move rfl) rfl ?_; refine sq_v rfl (v_len Try.underlying54 rfl rv.sl) rfl ?_; refine sq_v rfl (v_move rfl) rfl ?_; refine sq_end (qs_n (wp_bl ?_)); refine wp_lp (σ := Nat × (List Bool) × PH) (fun z_ => [(4, .bool false), (5, num ts.length), (6, v27), (28, v), (29, num ss.length), (30, num z_.1)]) (fun z_ => [z_.2.2, box b2 [num k, num p, num n, vt, vo] 32, hp w]) (fun z_ => z_.1 ≤ ss.length ∧ z_.2.1 = (shTo op (sh0 ts) (ss.take z_.1)).gone ++ List.replicate (ss.length - z_.1) false ∧ (∀ j, j < z_.1 → ∀ x, ss[j]? = some x → stepOk (shTo op (sh0 ts) (ss.take j)) x) ∧ BoolsO z_.2.1 v27 z_.2.2) (fun z_ => ss.length - z_.1) (0, List.replicate (ts.length + ss.length) false, h27) (⟨by (try dsimp only); omega, by (try dsimp only); simp [shTo, sh0, List.replicate_append_replicate], fun j hj => by omega, by (try dsimp only); rw [show ((ts.length : Int) + ss.length).toNat = ts.length + ss.length by omega] at r27; exact r27⟩) ⟨rfl, rfl, rfl, rfl, rfl, (by first | rfl | exact ksub rfl (by first | omega | (simp; done) | (simp; omega))), trivial⟩ (fun _ s => s) ?_; rintro ⟨i, us, g⟩ ⟨hi, hus, hks, q⟩; dsimp only at hi hus hks q ⊢; have hle_q := q.toR.le; have hgl := shTo_gone (op := op) (ss := ss.take i) (sh0_ok ts); have hal := shTo_all (op := op) (s := sh0 ts) (ss := ss.take i); rw [show (sh0 ts).all.length = ts.length by simp [sh0], List.length_take] at hal; rw [show (sh0 ts).gone.length = ts.length by simp [sh0], List.length_take] at hgl; have hul : us.length = ts.length + ss.length := by rw [hus, List.length_append, hgl, List.length_replicate]; omega
      have hug : ∀ z : Nat, z < ts.length + i → us.getD z false = (shTo op (sh0 ts) (ss.take i)).gone.getD z false := fun z hz => by rw [hus, getD_appB (by omega)]
      refine wp_sc (wp_sq ?_); refine sq_v rfl (v_lss rfl rfl) rfl ?_; refine sq_end (qs_n (wp_sc ?_)); refine wp_cd rfl (fun c31 => ?_) (fun c31 => ?_)
      · refine wp_sk (qs_n (wp_sc (wp_bl (wp_sc (wp_sq ?_))))); refine sq_v rfl (v_move rfl) rfl ?_; obtain ⟨x33, hx33, hcs33⟩ := hc_rv (i) (by first | omega | (rw [List.length_set]; omega)); refine sq_v rfl (v_indexAddr Try.underlying54 ty_84 rfl rfl rr_rv (by decide) (by omega) (by first | omega | (rw [List.length_set]; omega))) rfl ?_; refine sq_v rfl (v_loadNE 2 ty_84 rfl rfl rr_rv (by have := rr_rv.1; omega) rfl hcs33) rfl ?_; refine sq_x rfl (x_alloc ty_84 rfl) rfl ?_; rintro _ _ ⟨b8, rfl, rfl⟩; refine sq_v rfl (v_assign rfl) rfl ?_; refine sq_m 0 rfl rfl (m_store 0 ty_84 rfl rfl rfl rfl (by simp [Value.oneCell']) rfl (Nat.le_of_ble_eq_true rfl)) rfl ?_; rintro _ _ ⟨rfl, rfl⟩; refine sq_end (qs_n (wp_sc (wp_sc (wp_sq ?_)))); refine sq_v rfl (v_fieldAddr fd_84_0 ty_3 (by decide) rfl) rfl ?_; refine sq_v rfl (v_loadB 0 ty_3 rfl rfl rfl) rfl ?_; refine sq_v rfl (v_lss rfl rfl) rfl ?_; refine sq_bd 37 rfl (fun c37 => ?_) (fun c37 => ?_)
        · refine sq_v rfl (v_move rfl) rfl ?_; refine sq_s rfl rfl ?_; refine sq_s rfl rfl ?_; refine sq_s rfl rfl ?_; refine sq_s rfl rfl ?_; refine sq_s rfl rfl ?_; refine sq_v rfl (v_pickt rfl rfl) rfl ?_; refine sq_v rfl (v_move rfl) rfl ?_; refine sq_s rfl rfl ?_; refine sq_s rfl rfl ?_; refine sq_s rfl rfl ?_; refine sq_s rfl rfl ?_; refine sq_s rfl rfl ?_; refine sq_s rfl rfl ?_; refine sq_v rfl (v_pickt rfl rfl) rfl ?_; refine sq_v rfl (v_move rfl) rfl ?_; refine sq_s rfl rfl ?_; refine sq_s rfl rfl ?_; refine sq_s rfl rfl ?_; refine sq_s rfl rfl ?_; refine sq_s rfl rfl ?_; refine sq_v rfl (v_pickt rfl rfl) rfl ?_; refine sq_v rfl (v_move rfl) rfl ?_; refine sq_s rfl rfl ?_; refine sq_s rfl rfl ?_; refine sq_s rfl rfl ?_; refine sq_s rfl rfl ?_; refine sq_s rfl rfl ?_; refine sq_v rfl (v_pickt rfl rfl) rfl ?_; refine sq_end (qs_n ?_); refine wp_ct rfl ?_; refine wp_sc (wp_sq ?_); refine sq_v rfl (v_assign rfl) rfl ?_; refine sq_end (qs_n (wp_rt (qs_r (qs_br (qs_r (qs_r (qs_br (qs_r ?_)))))))); exact qs_ret1 rfl rfl (fin_q (i := 3) rfl (orderB_no (fun h => by have := (h.2.2 i (by omega) x33 hx33).1.1; omega)))
        · refine sq_v rfl (v_move rfl) rfl ?_; refine sq_v rfl (v_fieldAddr fd_84_0 ty_3 (by decide) rfl) rfl ?_; refine sq_v rfl (v_loadB 0 ty_3 rfl rfl rfl) rfl ?_; refine sq_v rfl (v_fieldAddr fd_84_1 ty_3 (by decide) rfl) rfl ?_; refine sq_v rfl (v_loadB 0 ty_3 rfl rfl rfl) rfl ?_; refine sq_v rfl (v_geq rfl rfl) rfl ?_; refine sq_v rfl (v_pickf rfl rfl) rfl ?_; refine sq_bd 44 rfl (fun c44 => ?_) (fun c44 => ?_)
          · refine sq_v rfl (v_move rfl) rfl ?_; refine sq_s rfl rfl ?_; refine sq_s rfl rfl ?_; refine sq_s rfl rfl ?_; refine sq_s rfl rfl ?_; refine sq_s rfl rfl ?_; refine sq_s rfl rfl ?_; refine sq_v rfl (v_pickt rfl rfl) rfl ?_; refine sq_v rfl (v_move rfl) rfl ?_; refine sq_s rfl rfl ?_; refine sq_s rfl rfl ?_; refine sq_s rfl rfl ?_; refine sq_s rfl rfl ?_; refine sq_s rfl rfl ?_; refine sq_v rfl (v_pickt rfl rfl) rfl ?_; refine sq_v rfl (v_move rfl) rfl ?_; refine sq_s rfl rfl ?_; refine sq_s rfl rfl ?_; refine sq_s rfl rfl ?_; refine sq_s rfl rfl ?_; refine sq_s rfl rfl ?_; refine sq_v rfl (v_pickt rfl rfl) rfl ?_; refine sq_end (qs_n ?_); refine wp_ct rfl ?_; refine wp_sc (wp_sq ?_); refine sq_v rfl (v_assign rfl) rfl ?_; refine sq_end (qs_n (wp_rt (qs_r (qs_br (qs_r (qs_r (qs_br (qs_r ?_)))))))); exact qs_ret1 rfl rfl (fin_q (i := 3) rfl (orderB_no (fun h => by have := (h.2.2 i (by omega) x33 hx33).2.2; omega)))
          · refine sq_v rfl (v_move rfl) rfl ?_; refine sq_v rfl (v_fieldAddr fd_84_1 ty_3 (by decide) rfl) rfl ?_; refine sq_v rfl (v_loadB 0 ty_3 rfl rfl rfl) rfl ?_; refine sq_v rfl (v_move rfl) rfl ?_; refine sq_v rfl (v_move rfl) rfl ?_; refine sq_v rfl (v_add rfl rfl ((by unfold I64; omega))) rfl ?_; refine sq_v rfl (v_geq rfl rfl) rfl ?_; refine sq_v rfl (v_pickf rfl rfl) rfl ?_; refine sq_bd 52 rfl (fun c52 => ?_) (fun c52 => ?_)
            · refine sq_v rfl (v_move rfl) rfl ?_; refine sq_s rfl rfl ?_; refine sq_s rfl rfl ?_; refine sq_s rfl rfl ?_; refine sq_s rfl rfl ?_; refine sq_s rfl rfl ?_; refine sq_v rfl (v_pickt rfl rfl) rfl ?_; refine sq_v rfl (v_move rfl) rfl ?_; refine sq_s rfl rfl ?_; refine sq_s rfl rfl ?_; refine sq_s rfl rfl ?_; refine sq_s rfl rfl ?_; refine sq_s rfl rfl ?_; refine sq_v rfl (v_pickt rfl rfl) rfl ?_; refine sq_end (qs_n ?_); refine wp_ct rfl ?_; refine wp_sc (wp_sq ?_); refine sq_v rfl (v_assign rfl) rfl ?_; refine sq_end (qs_n (wp_rt (qs_r (qs_br (qs_r (qs_r (qs_br (qs_r ?_)))))))); exact qs_ret1 rfl rfl (fin_q (i := 3) rfl (orderB_no (fun h => by have := (h.2.2 i (by omega) x33 hx33).2.1.2.1; omega)))
            · refine sq_v rfl (v_move rfl) rfl ?_; refine sq_v rfl (v_move rfl) rfl ?_; refine sq_v rfl (v_fieldAddr fd_84_0 ty_3 (by decide) rfl) rfl ?_; refine sq_v rfl (v_loadB 0 ty_3 rfl rfl rfl) rfl ?_; refine sq_v rfl (v_idxB Try.underlying119 ty_4 rfl rfl q.toR (by first | omega | (simp only [List.length_cons, List.length_nil]; omega) | (simp only [List.length_append, List.length_cons, List.length_nil]; omega) | (rw [List.length_set]; omega) | (rw [List.length_replicate]; omega) | (simp; omega)) (by first | omega | (simp only [List.length_cons, List.length_nil]; omega) | (simp only [List.length_append, List.length_cons, List.length_nil]; omega) | (rw [List.length_set]; omega) | (rw [List.length_replicate]; omega) | (simp; omega))) rfl ?_; refine sq_v rfl (v_loadBl  1 ty_4 rfl rfl q.toR (by first | omega | (simp only [List.length_cons, List.length_nil]; omega) | (simp only [List.length_append, List.length_cons, List.length_nil]; omega) | (rw [List.length_set]; omega) | (rw [List.length_replicate]; omega) | (simp; omega))) rfl ?_; refine sq_v rfl (v_pickf rfl rfl) rfl ?_; refine sq_bb 59 rfl (fun c59 => ?_) (fun c59 => ?_)
              · refine sq_v rfl (v_move rfl) rfl ?_; refine sq_s rfl rfl ?_; refine sq_s rfl rfl ?_; refine sq_s rfl rfl ?_; refine sq_s rfl rfl ?_; refine sq_s rfl rfl ?_; refine sq_v rfl (v_pickt rfl rfl) rfl ?_; refine sq_end (qs_n ?_); refine wp_ct rfl ?_; refine wp_sc (wp_sq ?_); refine sq_v rfl (v_assign rfl) rfl ?_; refine sq_end (qs_n (wp_rt (qs_r (qs_br (qs_r (qs_r (qs_br (qs_r ?_)))))))); exact qs_ret1 rfl rfl (fin_q (i := 3) rfl (orderB_no (fun h => by have := (h.2.2 i (by omega) x33 hx33).1.2.2; rw [← hug _ (by omega), c59] at this; cases this)))
              · refine sq_v rfl (v_move rfl) rfl ?_; refine sq_v rfl (v_move rfl) rfl ?_; refine sq_v rfl (v_fieldAddr fd_84_1 ty_3 (by decide) rfl) rfl ?_; refine sq_v rfl (v_loadB 0 ty_3 rfl rfl rfl) rfl ?_; refine sq_v rfl (v_idxB Try.underlying119 ty_4 rfl rfl q.toR (by first | omega | (simp only [List.length_cons, List.length_nil]; omega) | (simp only [List.length_append, List.length_cons, List.length_nil]; omega) | (rw [List.length_set]; omega) | (rw [List.length_replicate]; omega) | (simp; omega)) (by first | omega | (simp only [List.length_cons, List.length_nil]; omega) | (simp only [List.length_append, List.length_cons, List.length_nil]; omega) | (rw [List.length_set]; omega) | (rw [List.length_replicate]; omega) | (simp; omega))) rfl ?_; refine sq_v rfl (v_loadBl  1 ty_4 rfl rfl q.toR (by first | omega | (simp only [List.length_cons, List.length_nil]; omega) | (simp only [List.length_append, List.length_cons, List.length_nil]; omega) | (rw [List.length_set]; omega) | (rw [List.length_replicate]; omega) | (simp; omega))) rfl ?_; refine sq_v rfl (v_pickf rfl rfl) rfl ?_; refine sq_end (qs_n ?_); refine wp_cb _ rfl (fun c66 => ?_) (fun c66 => ?_)
                · refine wp_sc (wp_sq ?_); refine sq_v rfl (v_assign rfl) rfl ?_; refine sq_end (qs_n (wp_rt (qs_r (qs_br (qs_r (qs_r (qs_br (qs_r ?_)))))))); exact qs_ret1 rfl rfl (fin_q (i := 3) rfl (orderB_no (fun h => by have := (h.2.2 i (by omega) x33 hx33).2.1.2.2; rw [← hug _ (by omega), c66] at this; cases this)))
                · refine wp_sk (qs_n (wp_sc (wp_sq ?_))); refine sq_v rfl (v_move rfl) rfl ?_; refine sq_v rfl (v_fieldAddr fd_84_0 ty_3 (by decide) rfl) rfl ?_; refine sq_v rfl (v_loadB 0 ty_3 rfl rfl rfl) rfl ?_; refine sq_v rfl (v_idxB Try.underlying119 ty_4 rfl rfl q.toR (by first | omega | (simp only [List.length_cons, List.length_nil]; omega) | (simp only [List.length_append, List.length_cons, List.length_nil]; omega) | (rw [List.length_set]; omega) | (rw [List.length_replicate]; omega) | (simp; omega)) (by first | omega | (simp only [List.length_cons, List.length_nil]; omega) | (simp only [List.length_append, List.length_cons, List.length_nil]; omega) | (rw [List.length_set]; omega) | (rw [List.length_replicate]; omega) | (simp; omega))) rfl ?_; refine sq_m 1 rfl rfl (m_storeBl 1 ty_4 rfl rfl rfl q (by first | omega | (simp only [List.length_cons, List.length_nil]; omega) | (simp only [List.length_append, List.length_cons, List.length_nil]; omega) | (rw [List.length_set]; omega) | (rw [List.length_replicate]; omega) | (simp; omega))) rfl ?_; rintro _ h_q10_4 ⟨rfl, q10_4⟩; refine sq_end (qs_n (wp_sq ?_)); refine sq_v rfl (v_move rfl) rfl ?_; refine sq_v rfl (v_fieldAddr fd_84_1 ty_3 (by decide) rfl) rfl ?_; refine sq_v rfl (v_loadB 0 ty_3 rfl rfl rfl) rfl ?_; refine sq_v rfl (v_idxB Try.underlying119 ty_4 rfl rfl q10_4.toR (by first | omega | (simp only [List.length_cons, List.length_nil]; omega) | (simp only [List.length_append, List.length_cons, List.length_nil]; omega) | (rw [List.length_set]; omega) | (rw [List.length_replicate]; omega) | (simp; omega)) (by first | omega | (simp only [List.length_cons, List.length_nil]; omega) | (simp only [List.length_append, List.length_cons, List.length_nil]; omega) | (rw [List.length_set]; omega) | (rw [List.length_replicate]; omega) | (simp; omega))) rfl ?_; refine sq_m 1 rfl rfl (m_storeBl 1 ty_4 rfl rfl rfl q10_4 (by first | omega | (simp only [List.length_cons, List.length_nil]; omega) | (simp only [List.length_append, List.length_cons, List.length_nil]; omega) | (rw [List.length_set]; omega) | (rw [List.length_replicate]; omega) | (simp; omega))) rfl ?_; rintro _ h_q11_4 ⟨rfl, q11_4⟩; refine sq_end (qs_bn (qs_n (wp_sq ?_))); refine sq_v rfl (v_add rfl rfl ((by unfold I64; omega))) rfl ?_; refine sq_v rfl (v_move rfl) rfl ?_; refine sq_end ?_; exact qs_bk (i + 1, _, h_q11_4) ⟨by (try dsimp only); omega, by (try dsimp only); rw [hus, show ss.length - i = (ss.length - (i + 1)) + 1 by omega, set2_rep (by omega) (by omega), shTo_step hx33]; rfl, step_all hks (fun x hx => by rw [hx33] at hx; cases hx; exact ⟨⟨by omega, by omega, by rw [← hug _ (by omega)]; exact c59⟩, ⟨by omega, by omega, by rw [← hug _ (by omega)]; exact c66⟩, by omega⟩), q11_4⟩ (by simp only; omega) ⟨rfl, rfl, rfl, rfl, rfl, (by first | rfl | exact ksub rfl (by first | omega | (simp; done) | (simp; omega))), trivial⟩ (fun _ s => s.pick [1, 2, 3] (by decide) rfl)
      · refine wp_ex (qs_x (qs_x (qs_bx (qs_n (wp_sc (wp_sq ?_)))))); refine sq_v rfl (v_assign rfl) rfl ?_; refine sq_end (qs_n (wp_rt ?_)); exact qs_ret1 rfl rfl (fin_q (i := 2) rfl (orderB_yes ⟨hnet, by omega, fun j hj => hks j (by omega)⟩))
  · refine sq_v rfl (v_not rfl) rfl ?_; refine sq_v rfl (v_move rfl) rfl ?_; refine sq_s rfl rfl ?_; refine sq_s rfl rfl ?_; refine sq_s rfl rfl ?_; refine sq_s rfl rfl ?_; refine sq_s rfl rfl ?_; refine sq_s rfl rfl ?_; refine sq_v rfl (v_pickt rfl rfl) rfl ?_; refine sq_end (qs_n ?_); refine wp_ct rfl ?_; refine wp_sc (wp_sq ?_); refine sq_v rfl (v_assign rfl) rfl ?_; refine sq_end (qs_n (wp_rt (qs_r ?_))); exact qs_ret1 rfl rfl (fin_q (i := 1) rfl (orderB_no (fun h => netB_false.1 c13 h.1)))
end Go.Proofs.Ytehjljijionhaaa
namespace Go.Proofs.Ytehjljijionhaaa
set_option maxRecDepth 100000
open Go.RowKit
/-- Of the numbers ds those whose label fits p. -/
def selP (p : Int → Bool) : List Int → List Int → List Int
  | l :: ls, d :: ds => if p l then d :: selP p ls ds else selP p ls ds
  | _, _ => []
theorem selP_append (p : Int → Bool) : ∀ {ls ds ls' ds' : List Int}, ls.length = ds.length → selP p (ls ++ ls') (ds ++ ds') = selP p ls ds ++ selP p ls' ds'
  | [], [], _, _, _ => rfl
  | [], d :: ds, _, _, h => by simp at h
  | l :: ls, [], _, _, h => by simp at h
  | l :: ls, d :: ds, ls', ds', h => by
    have ih := selP_append p (ls := ls) (ds := ds) (ls' := ls') (ds' := ds') (by simpa using h); simp only [List.cons_append, selP, ih]
    split <;> simp
theorem selP_map (p : Int → Bool) (f : Int → Int) : ∀ ls : List Int, selP p ls (ls.map f) = (ls.filter p).map f
  | [] => rfl
  | l :: ls => by
    have ih := selP_map p f ls; simp only [List.map_cons, selP, List.filter_cons, ih]
    split <;> simp
theorem selP_len (p : Int → Bool) : ∀ ls ds : List Int, (selP p ls ds).length ≤ ls.length
  | [], ds => by cases ds <;> simp [selP]
  | l :: ls, [] => by simp [selP]
  | l :: ls, d :: ds => by
    have := selP_len p ls ds; simp only [selP]
    split <;> simp <;> omega
theorem selP_eqlen (p : Int → Bool) : ∀ {ls ds : List Int}, ls.length = ds.length → (selP p ls ds).length = (ls.filter p).length
  | [], [], _ => rfl
  | [], d :: ds, h => by simp at h
  | l :: ls, [], h => by simp at h
  | l :: ls, d :: ds, h => by
    have := selP_eqlen p (ls := ls) (ds := ds) (by simpa using h); simp only [selP, List.filter_cons]
    split <;> simp [this]
theorem selP_yes {p : Int → Bool} {ls ds : List Int} {i : Nat} (hl : ls.length = ds.length) (h : i < ls.length) (hp : p (ls.getD i 0) = true) : selP p (ls.take (i + 1)) (ds.take (i + 1)) = selP p (ls.take i) (ds.take i) ++ [ds.getD i 0] := by
  rw [take_succ h, take_succ (xs := ds) (by omega), selP_append p (by simp; omega)]; simp only [selP, hp, if_true]
theorem selP_no {p : Int → Bool} {ls ds : List Int} {i : Nat} (hl : ls.length = ds.length) (h : i < ls.length) (hp : p (ls.getD i 0) = false) : selP p (ls.take (i + 1)) (ds.take (i + 1)) = selP p (ls.take i) (ds.take i) := by
  rw [take_succ h, take_succ (xs := ds) (by omega), selP_append p (by simp; omega)]; simp only [selP, hp, Bool.false_eq_true, if_false, List.append_nil]
def joinD (a b : Ten) : List Int := a.d ++ selP (fun x => decide (x ∉ a.l)) b.l b.d
/-- A label of both has two dimensions. -/
def mism (a b : Ten) : Prop := ∃ i, i < b.l.length ∧ b.l.getD i 0 ∈ a.l ∧ a.d.getD (findI a.l (b.l.getD i 0)).toNat 0 ≠ b.d.getD i 0
def JoinR (a b : Ten) (u : Value) (h : PH) : Prop :=
  (mism a b → u = .tuple [.slice none 0 0, .slice none 0 0, .bool false].toArray) ∧ (¬ mism a b → ∃ v1 v2, u = .tuple [v1, v2, .bool true].toArray ∧ IntsR (joinI a.l b.l) v1 h ∧ IntsR (joinD a b) v2 h)
theorem findI_app {xs ys : List Int} {x : Int} (h : x ∈ xs) : findI (xs ++ ys) x = findI xs x := by
  have hg := findI_get h; have hf : findI xs x = ((findI xs x).toNat : Nat) := by have := findI_ge.2 h; omega
  rw [hf]; refine idx_first (fun j hj => ?_) (by simp; omega) (by simp only [List.getD]; rw [List.getElem?_append_left hg.1]; exact hg.2); intro e; simp only [List.getD] at e; rw [List.getElem?_append_left (by omega)] at e; have h1 := idx_first (xs := xs) (n := x) (i := j); have hj' : j < xs.idxOf x := by
    have : (findI xs x).toNat = xs.idxOf x := by simp [findI, h]
    omega
  have := List.not_of_lt_findIdx (xs := xs) (p := fun a => a == x) (i := j) hj'; have hlt : j < xs.length := by omega
  simp only [List.getElem?_eq_getElem hlt, Option.getD_some] at e
  simp [e] at this
theorem nodup_not_take {xs : List Int} (h : xs.Nodup) {i : Nat} (hi : i < xs.length) : xs.getD i 0 ∉ xs.take i := by
  intro hm; obtain ⟨j, hj, e⟩ := getD_of_mem hm; simp only [List.length_take] at hj; have e2 : (xs.take i).getD j 0 = xs.getD j 0 := by simp only [List.getD, List.getElem?_take]; rw [if_pos (by omega)]
  rw [e2] at e; have h1 : j < xs.length := by omega
  simp only [List.getD, List.getElem?_eq_getElem h1, List.getElem?_eq_getElem hi, Option.getD_some] at e; have := (List.getElem_inj h).1 e
  omega
theorem ct_s_l08Join (t u : Ten) (a b c a' b' c' : Value) (w : World) (r1 : IntsR t.l a (hp w)) (r2 : IntsR t.d b (hp w)) (r3 : IntsR u.l a' (hp w)) (r4 : IntsR u.d b' (hp w)) (ht : t.l.length = t.d.length) (hu : u.l.length = u.d.length) (hn : u.l.Nodup) (hs : t.l.length + u.l.length ≤ 1000000) :
    Calls Try.prog 81 [tenV a b c, tenV a' b' c'].toArray w (Ret w emp (JoinR t u)) := by
  refine calls_in Try.func81 rfl Try.ntmps81 rfl (Sat.start w) ?_; have hle0 := r1.le; have hle1 := r2.le; have hle2 := r3.le; have hle3 := r4.le; refine wp_sc (wp_sq ?_); refine sq_x rfl (x_box rfl rfl) rfl ?_; rintro _ _ ⟨b2, rfl, rfl⟩; refine sq_x rfl (x_box rfl rfl) rfl ?_; rintro _ _ ⟨b3, rfl, rfl⟩; refine sq_v rfl (v_assign rfl) rfl ?_; refine sq_v rfl (v_assign rfl) rfl ?_; refine sq_v rfl (v_assign rfl) rfl ?_; refine sq_end (qs_n (wp_sc (wp_sq ?_))); refine sq_v rfl (v_fieldAddr fd_44_0 ty_25 (by decide) rfl) rfl ?_; refine sq_v rfl (v_loadB 1 ty_25 rfl rfl rfl) rfl ?_; refine sq_x rfl (x_call rfl en_38 (fun w s => ct_s_l05Ints _ _ w (r1.mono (s.get 2 rfl)) (by first | assumption | omega))) rfl ?_; rintro v14 h14 r14; refine sq_v rfl (v_assign rfl) rfl ?_; refine sq_end (qs_n (wp_sc (wp_sq ?_))); refine sq_v rfl (v_fieldAddr fd_44_1 ty_25 (by decide) rfl) rfl ?_; refine sq_v rfl (v_loadB 2 ty_25 rfl rfl rfl) rfl ?_; refine sq_x rfl (x_call rfl en_38 (fun w s => ct_s_l05Ints _ _ w (r2.mono (s.get 3 rfl)) (by first | assumption | omega))) rfl ?_; rintro v17 h17 r17; refine sq_v rfl (v_assign rfl) rfl ?_; refine sq_end (qs_n (wp_sc (wp_sc (wp_sq ?_)))); refine sq_v rfl (v_fieldAddr fd_44_0 ty_25 (by decide) rfl) rfl ?_; refine sq_v rfl (v_loadB 2 ty_25 rfl rfl rfl) rfl ?_; refine sq_v rfl (v_len Try.underlying25 rfl r3.sl) rfl ?_; refine sq_v rfl (v_move rfl) rfl ?_; refine sq_end (qs_n (wp_bl ?_)); refine wp_lp (σ := Nat × Value × PH × Value × PH) (fun z_ => [(3, .pointer (some ⟨b3, 0, none⟩)), (4, .slice none 0 0), (5, .slice none 0 0), (6, .bool false), (7, z_.2.1), (8, z_.2.2.2.1), (19, a'), (20, num u.l.length), (21, num z_.1)]) (fun z_ => [z_.2.2.1, z_.2.2.2.2, box b3 [a', b', c'] 44, box b2 [a, b, c] 44, hp w]) (fun z_ => z_.1 ≤ u.l.length ∧ (∀ j, j < z_.1 → ¬ (u.l.getD j 0 ∈ t.l ∧ t.d.getD (findI t.l (u.l.getD j 0)).toNat 0 ≠ u.d.getD j 0)) ∧ IntsO (t.l ++ (u.l.take z_.1).filter fun x => decide (x ∉ t.l)) z_.2.1 z_.2.2.1 ∧ IntsO (t.d ++ selP (fun x => decide (x ∉ t.l)) (u.l.take z_.1) (u.d.take z_.1)) z_.2.2.2.1 z_.2.2.2.2) (fun z_ => u.l.length - z_.1) (0, v14, h14, v17, h17) (⟨by (try dsimp only); omega, fun j hj => by omega, by (try dsimp only); simpa using r14, by (try dsimp only); simpa [selP] using r17⟩) ⟨rfl, rfl, rfl, rfl, (by first | rfl | exact ksub rfl (by first | omega | (simp; done) | (simp; omega))), (by first | rfl | exact ksub rfl (by first | omega | (simp; done) | (simp; omega))), rfl, rfl, (by first | rfl | exact ksub rfl (by first | omega | (simp; done) | (simp; omega))), trivial⟩ (fun _ s => s.pick [1, 0, 2, 3, 4] (by decide) rfl) ?_; rintro ⟨i, v1, h1, v2, h2⟩ ⟨hi, hm, q1, q2⟩; dsimp only at hi hm q1 q2 ⊢; have hle_q1 := q1.toR.le; have hle_q2 := q2.toR.le; have hfl := filter_take_len u.l (fun x => decide (x ∉ t.l)) i; have hsl := selP_len (fun x => decide (x ∉ t.l)) (u.l.take i) (u.d.take i); rw [List.length_take] at hsl; have hff : ∀ x ∈ (u.l.take i).filter (fun x => decide (x ∉ t.l)), x ∈ u.l.take i := fun x hx => (List.mem_filter.1 hx).1; have hse := selP_eqlen (fun x => decide (x ∉ t.l)) (ls := u.l.take i) (ds := u.d.take i) (by simp; omega); have hl1 : (t.l ++ (u.l.take i).filter fun x => decide (x ∉ t.l)).length = t.l.length + ((u.l.take i).filter fun x => decide (x ∉ t.l)).length := List.length_append; have hl2 : (t.d ++ selP (fun x => decide (x ∉ t.l)) (u.l.take i) (u.d.take i)).length = t.d.length + (selP (fun x => decide (x ∉ t.l)) (u.l.take i) (u.d.take i)).length := List.length_append; refine wp_sc (wp_sq ?_); refine sq_v rfl (v_lss rfl rfl) rfl ?_; refine sq_end (qs_n (wp_sc ?_)); refine wp_cd rfl (fun c22 => ?_) (fun c22 => ?_)
  · refine wp_sk (qs_n (wp_sc (wp_bl (wp_sc (wp_sq ?_))))); refine sq_v rfl (v_move rfl) rfl ?_; refine sq_v rfl (v_idxI Try.underlying25 ty_3 rfl rfl r3 (by first | omega | (simp only [List.length_cons, List.length_nil]; omega) | (simp only [List.length_append, List.length_cons, List.length_nil]; omega) | (rw [List.length_set]; omega) | (rw [List.length_replicate]; omega) | (simp; omega)) (by first | omega | (simp only [List.length_cons, List.length_nil]; omega) | (simp only [List.length_append, List.length_cons, List.length_nil]; omega) | (rw [List.length_set]; omega) | (rw [List.length_replicate]; omega) | (simp; omega))) rfl ?_; refine sq_v rfl (v_loadI (k := i) 4 ty_3 rfl rfl r3 (by first | omega | (simp only [List.length_cons, List.length_nil]; omega) | (simp only [List.length_append, List.length_cons, List.length_nil]; omega) | (rw [List.length_set]; omega) | (rw [List.length_replicate]; omega) | (simp; omega))) rfl ?_; refine sq_v rfl (v_assign rfl) rfl ?_; refine sq_v rfl (v_assign rfl) rfl ?_; refine sq_end (qs_n (wp_sc (wp_sq ?_))); refine sq_v rfl (v_move rfl) rfl ?_; refine sq_v rfl (v_move rfl) rfl ?_; refine sq_u rfl (x_callv rfl en_60 (fun w s => ct_s_l05Find _ _ _ w (q1.toR.mono (s.get 0 rfl)))) rfl ?_; refine sq_v rfl (v_assign rfl) rfl ?_; refine sq_end ?_; have hx := nodup_not_take hn (i := i) (by omega); have hfr := findI_range (t.l ++ (u.l.take i).filter fun x => decide (x ∉ t.l)) (u.l.getD i 0); have hmem : 0 ≤ findI (t.l ++ (u.l.take i).filter fun x => decide (x ∉ t.l)) (u.l.getD i 0) ↔ u.l.getD i 0 ∈ t.l := by rw [findI_ge, List.mem_append]; exact ⟨fun h => h.resolve_right (fun h => hx (hff _ h)), .inl⟩
    have hgt : u.l.getD i 0 ∈ t.l → (t.d ++ selP (fun x => decide (x ∉ t.l)) (u.l.take i) (u.d.take i)).getD (findI (t.l ++ (u.l.take i).filter fun x => decide (x ∉ t.l)) (u.l.getD i 0)).toNat 0 = t.d.getD (findI t.l (u.l.getD i 0)).toNat 0 := fun h => by rw [findI_app h]; have := (findI_get h).1; exact getD_append_left (by omega)
    refine qs_n (wp_sc (wp_sc ?_)); refine wp_rj 14 [(0, true), (1, true), (2, true), (3, true), (4, true), (5, true), (6, true), (7, true), (8, true), (9, true), (10, true), (11, true), (12, true), (13, true)] mixed_ok (by kernel_rfl) ?_; refine rj_v rfl rfl (v_move rfl) rfl ?_; refine rj_v rfl rfl (v_geq rfl rfl) rfl ?_; refine rj_bd 30 rfl (fun c30 => ?_) (fun c30 => ?_)
    · refine rj_v rfl rfl (v_move rfl) rfl ?_; refine rj_v rfl rfl (v_move rfl) rfl ?_; refine rj_v rfl rfl (v_move rfl) rfl ?_; refine rj_v rfl rfl (v_idxI Try.underlying25 ty_3 rfl rfl q2.toR (by first | omega | (simp only [List.length_cons, List.length_nil]; omega) | (simp only [List.length_append, List.length_cons, List.length_nil]; omega) | (rw [List.length_set]; omega) | (rw [List.length_replicate]; omega) | (simp; omega)) (by first | omega | (simp only [List.length_cons, List.length_nil]; omega) | (simp only [List.length_append, List.length_cons, List.length_nil]; omega) | (rw [List.length_set]; omega) | (rw [List.length_replicate]; omega) | (simp; omega))) rfl ?_; refine rj_v rfl rfl (v_loadI  1 ty_3 rfl rfl q2.toR (by first | omega | (simp only [List.length_cons, List.length_nil]; omega) | (simp only [List.length_append, List.length_cons, List.length_nil]; omega) | (rw [List.length_set]; omega) | (rw [List.length_replicate]; omega) | (simp; omega))) rfl ?_; refine rj_v rfl rfl (v_fieldAddr fd_44_1 ty_25 (by decide) rfl) rfl ?_; refine rj_v rfl rfl (v_loadB 2 ty_25 rfl rfl rfl) rfl ?_; refine rj_v rfl rfl (v_move rfl) rfl ?_; refine rj_v rfl rfl (v_idxI Try.underlying25 ty_3 rfl rfl r4 (by first | omega | (simp only [List.length_cons, List.length_nil]; omega) | (simp only [List.length_append, List.length_cons, List.length_nil]; omega) | (rw [List.length_set]; omega) | (rw [List.length_replicate]; omega) | (simp; omega)) (by first | omega | (simp only [List.length_cons, List.length_nil]; omega) | (simp only [List.length_append, List.length_cons, List.length_nil]; omega) | (rw [List.length_set]; omega) | (rw [List.length_replicate]; omega) | (simp; omega))) rfl ?_; refine rj_v rfl rfl (v_loadI (k := i) 4 ty_3 rfl rfl r4 (by first | omega | (simp only [List.length_cons, List.length_nil]; omega) | (simp only [List.length_append, List.length_cons, List.length_nil]; omega) | (rw [List.length_set]; omega) | (rw [List.length_replicate]; omega) | (simp; omega))) rfl ?_; refine rj_v rfl rfl (v_neq rfl rfl) rfl ?_; refine rj_v rfl rfl (v_pickt rfl rfl) rfl ?_; refine rj_end (qs_n ?_); refine wp_cd rfl (fun c42 => ?_) (fun c42 => ?_)
      · refine wp_sc (wp_sq ?_); refine sq_v rfl (v_assign rfl) rfl ?_; refine sq_v rfl (v_assign rfl) rfl ?_; refine sq_v rfl (v_assign rfl) rfl ?_; refine sq_end (qs_n (wp_rt (qs_r (qs_br (qs_r (qs_r (qs_br (qs_r ?_)))))))); exact qs_ret3 rfl rfl rfl rfl (fin_e (i := 4) rfl (⟨fun _ => rfl, fun h => absurd ⟨i, by omega, hmem.1 c30, by rw [← hgt (hmem.1 c30)]; exact c42⟩ h⟩))
      · refine wp_sk (qs_n (wp_sc (wp_sq ?_))); refine sq_v rfl (v_move rfl) rfl ?_; refine sq_v rfl (v_lss rfl rfl) rfl ?_; refine sq_end (qs_n ?_); refine wp_cd rfl (fun c44 => ?_) (fun c44 => ?_)
        · refine wp_sc (wp_sq ?_); refine sq_v rfl (v_move rfl) rfl ?_; refine sq_v rfl (v_move rfl) rfl ?_; refine sq_x rfl (x_buildS [num (u.l.getD i 0)] Try.underlying25 ty_3 (by decide) rfl rfl rfl (by decide) (by decide) (by intro v hv; simp at hv; rcases hv with rfl <;> rfl)) rfl ?_; intro v47 h47 (r47 : IntsO [u.l.getD i 0] v47 h47); refine sq_m 1 rfl rfl (m_appI 1 0 Try.underlying25 ty_3 rfl rfl rfl rfl q1 rfl r47.toR (by first | omega | (simp only [List.length_cons, List.length_nil]; omega) | (simp only [List.length_append, List.length_cons, List.length_nil]; omega) | (rw [List.length_set]; omega) | (rw [List.length_replicate]; omega) | (simp; omega))) rfl ?_; intro v48 h_r48 r48; refine sq_v rfl (v_assign rfl) rfl ?_; refine sq_end (qs_n (wp_sq ?_)); refine sq_v rfl (v_move rfl) rfl ?_; refine sq_v rfl (v_fieldAddr fd_44_1 ty_25 (by decide) rfl) rfl ?_; refine sq_v rfl (v_loadB 3 ty_25 rfl rfl rfl) rfl ?_; refine sq_v rfl (v_move rfl) rfl ?_; refine sq_v rfl (v_idxI Try.underlying25 ty_3 rfl rfl r4 (by first | omega | (simp only [List.length_cons, List.length_nil]; omega) | (simp only [List.length_append, List.length_cons, List.length_nil]; omega) | (rw [List.length_set]; omega) | (rw [List.length_replicate]; omega) | (simp; omega)) (by first | omega | (simp only [List.length_cons, List.length_nil]; omega) | (simp only [List.length_append, List.length_cons, List.length_nil]; omega) | (rw [List.length_set]; omega) | (rw [List.length_replicate]; omega) | (simp; omega))) rfl ?_; refine sq_v rfl (v_loadI (k := i) 5 ty_3 rfl rfl r4 (by first | omega | (simp only [List.length_cons, List.length_nil]; omega) | (simp only [List.length_append, List.length_cons, List.length_nil]; omega) | (rw [List.length_set]; omega) | (rw [List.length_replicate]; omega) | (simp; omega))) rfl ?_; refine sq_x rfl (x_buildS [num (u.d.getD i 0)] Try.underlying25 ty_3 (by decide) rfl rfl rfl (by decide) (by decide) (by intro v hv; simp at hv; rcases hv with rfl <;> rfl)) rfl ?_; intro v55 h55 (r55 : IntsO [u.d.getD i 0] v55 h55); refine sq_m 3 rfl rfl (m_appI 3 0 Try.underlying25 ty_3 rfl rfl rfl rfl q2 rfl r55.toR (by first | omega | (simp only [List.length_cons, List.length_nil]; omega) | (simp only [List.length_append, List.length_cons, List.length_nil]; omega) | (rw [List.length_set]; omega) | (rw [List.length_replicate]; omega) | (simp; omega))) rfl ?_; intro v56 h_r56 r56; refine sq_v rfl (v_assign rfl) rfl ?_; refine sq_end (qs_bn (qs_n (wp_sq ?_))); refine sq_v rfl (v_add rfl rfl ((by unfold I64; omega))) rfl ?_; refine sq_v rfl (v_move rfl) rfl ?_; refine sq_end ?_
          exfalso; omega
        · refine wp_sk (qs_bn (qs_n (wp_sq ?_))); refine sq_v rfl (v_add rfl rfl ((by unfold I64; omega))) rfl ?_; refine sq_v rfl (v_move rfl) rfl ?_; refine sq_end ?_; exact qs_bk (i + 1, v1, h1, v2, h2) ⟨by (try dsimp only); omega, step_all hm (fun h => h.2 (by rw [← hgt h.1]; omega)), by (try dsimp only); rw [filter_no (by omega) (by simpa using hmem.1 c30)]; exact q1, by (try dsimp only); rw [selP_no hu (by omega) (by simpa using hmem.1 c30)]; exact q2⟩ (by simp only; omega) ⟨rfl, rfl, rfl, rfl, (by first | rfl | exact ksub rfl (by first | omega | (simp; done) | (simp; omega))), (by first | rfl | exact ksub rfl (by first | omega | (simp; done) | (simp; omega))), rfl, rfl, (by first | rfl | exact ksub rfl (by first | omega | (simp; done) | (simp; omega))), trivial⟩ (fun _ s => s)
    · refine rj_v rfl rfl (v_move rfl) rfl ?_; refine rj_s rfl rfl rfl ?_; refine rj_s rfl rfl rfl ?_; refine rj_s rfl rfl rfl ?_; refine rj_s rfl rfl rfl ?_; refine rj_s rfl rfl rfl ?_; refine rj_s rfl rfl rfl ?_; refine rj_s rfl rfl rfl ?_; refine rj_s rfl rfl rfl ?_; refine rj_s rfl rfl rfl ?_; refine rj_s rfl rfl rfl ?_; refine rj_v rfl rfl (v_pickf rfl rfl) rfl ?_; refine rj_end (qs_n ?_); refine wp_cf rfl ?_; refine wp_sk (qs_n (wp_sc (wp_sq ?_))); refine sq_v rfl (v_move rfl) rfl ?_; refine sq_v rfl (v_lss rfl rfl) rfl ?_; refine sq_end (qs_n ?_); refine wp_cd rfl (fun c44 => ?_) (fun c44 => ?_)
      · refine wp_sc (wp_sq ?_); refine sq_v rfl (v_move rfl) rfl ?_; refine sq_v rfl (v_move rfl) rfl ?_; refine sq_x rfl (x_buildS [num (u.l.getD i 0)] Try.underlying25 ty_3 (by decide) rfl rfl rfl (by decide) (by decide) (by intro v hv; simp at hv; rcases hv with rfl <;> rfl)) rfl ?_; intro v47 h47 (r47 : IntsO [u.l.getD i 0] v47 h47); refine sq_m 1 rfl rfl (m_appI 1 0 Try.underlying25 ty_3 rfl rfl rfl rfl q1 rfl r47.toR (by first | omega | (simp only [List.length_cons, List.length_nil]; omega) | (simp only [List.length_append, List.length_cons, List.length_nil]; omega) | (rw [List.length_set]; omega) | (rw [List.length_replicate]; omega) | (simp; omega))) rfl ?_; intro v48 h_r48 r48; refine sq_v rfl (v_assign rfl) rfl ?_; refine sq_end (qs_n (wp_sq ?_)); refine sq_v rfl (v_move rfl) rfl ?_; refine sq_v rfl (v_fieldAddr fd_44_1 ty_25 (by decide) rfl) rfl ?_; refine sq_v rfl (v_loadB 3 ty_25 rfl rfl rfl) rfl ?_; refine sq_v rfl (v_move rfl) rfl ?_; refine sq_v rfl (v_idxI Try.underlying25 ty_3 rfl rfl r4 (by first | omega | (simp only [List.length_cons, List.length_nil]; omega) | (simp only [List.length_append, List.length_cons, List.length_nil]; omega) | (rw [List.length_set]; omega) | (rw [List.length_replicate]; omega) | (simp; omega)) (by first | omega | (simp only [List.length_cons, List.length_nil]; omega) | (simp only [List.length_append, List.length_cons, List.length_nil]; omega) | (rw [List.length_set]; omega) | (rw [List.length_replicate]; omega) | (simp; omega))) rfl ?_; refine sq_v rfl (v_loadI (k := i) 5 ty_3 rfl rfl r4 (by first | omega | (simp only [List.length_cons, List.length_nil]; omega) | (simp only [List.length_append, List.length_cons, List.length_nil]; omega) | (rw [List.length_set]; omega) | (rw [List.length_replicate]; omega) | (simp; omega))) rfl ?_; refine sq_x rfl (x_buildS [num (u.d.getD i 0)] Try.underlying25 ty_3 (by decide) rfl rfl rfl (by decide) (by decide) (by intro v hv; simp at hv; rcases hv with rfl <;> rfl)) rfl ?_; intro v55 h55 (r55 : IntsO [u.d.getD i 0] v55 h55); refine sq_m 3 rfl rfl (m_appI 3 0 Try.underlying25 ty_3 rfl rfl rfl rfl q2 rfl r55.toR (by first | omega | (simp only [List.length_cons, List.length_nil]; omega) | (simp only [List.length_append, List.length_cons, List.length_nil]; omega) | (rw [List.length_set]; omega) | (rw [List.length_replicate]; omega) | (simp; omega))) rfl ?_; intro v56 h_r56 r56; refine sq_v rfl (v_assign rfl) rfl ?_; refine sq_end (qs_bn (qs_n (wp_sq ?_))); refine sq_v rfl (v_add rfl rfl ((by unfold I64; omega))) rfl ?_; refine sq_v rfl (v_move rfl) rfl ?_; refine sq_end ?_; exact qs_bk (i + 1, v48, h_r48, v56, h_r56) ⟨by (try dsimp only); omega, step_all hm (fun h => c30 (hmem.2 h.1)), by (try dsimp only); rw [filter_yes (by omega) (by simpa using fun h => c30 (hmem.2 h)), ← List.append_assoc]; exact r48, by (try dsimp only); rw [selP_yes hu (by omega) (by simpa using fun h => c30 (hmem.2 h)), ← List.append_assoc]; exact r56⟩ (by simp only; omega) ⟨rfl, rfl, rfl, rfl, (by first | rfl | exact ksub rfl (by first | omega | (simp; done) | (simp; omega))), (by first | rfl | exact ksub rfl (by first | omega | (simp; done) | (simp; omega))), rfl, rfl, (by first | rfl | exact ksub rfl (by first | omega | (simp; done) | (simp; omega))), trivial⟩ (fun _ s => s.pick [2, 3, 4, 5, 6] (by decide) rfl)
      · refine wp_sk (qs_bn (qs_n (wp_sq ?_))); refine sq_v rfl (v_add rfl rfl ((by unfold I64; omega))) rfl ?_; refine sq_v rfl (v_move rfl) rfl ?_; refine sq_end ?_
        exfalso; omega
  · refine wp_ex (qs_x (qs_x (qs_bx (qs_n (wp_sc (wp_sq ?_)))))); refine sq_v rfl (v_move rfl) rfl ?_; refine sq_v rfl (v_move rfl) rfl ?_; refine sq_v rfl (v_assign rfl) rfl ?_; refine sq_v rfl (v_assign rfl) rfl ?_; refine sq_v rfl (v_assign rfl) rfl ?_; refine sq_end (qs_n (wp_rt ?_)); refine qs_close [hp w] [h1, h2] (fun _ s => s.pick [4, 0, 1] (by decide) rfl) (fun md => ?_); rw [List.take_of_length_le (by omega)] at q1; rw [List.take_of_length_le (by omega), List.take_of_length_le (by omega)] at q2; exact qs_ret3 rfl rfl rfl rfl (fin_t 0 (i := 1) rfl rfl rfl ⟨fun ⟨j, hj, hh⟩ => absurd hh (hm j (by omega)), fun _ => ⟨v1, v2, rfl, q1.toR.mono (md.le h1 (by simp)), q2.toR.mono (md.le h2 (by simp))⟩⟩)
theorem joinD_map {t u : Ten} {f : Int → Int} (ht : t.d = t.l.map f) (hu : u.d = u.l.map f) : joinD t u = (joinI t.l u.l).map f := by
  rw [joinD, ht, hu, selP_map, joinI, List.map_append]
theorem mism_not {t u : Ten} {f : Int → Int} (ht : t.d = t.l.map f) (hu : u.d = u.l.map f) : ¬ mism t u := by
  rintro ⟨i, hi, hm, hne⟩; have hg := findI_get hm; rw [ht, hu, map_getD hg.1, map_getD hi, hg.2] at hne; exact hne rfl
/-- Labels and dimensions of which p holds, as a tensor without numbers. -/
def KeepR (ls ds : List Int) (u : Value) (h : PH) : Prop := ∃ a b h1 h2, u = tenV a b (.slice none 0 0) ∧ IntsO ls a h1 ∧ IntsO ds b h2 ∧ Made h [h1, h2]
theorem ct_s_l08Keep (ls ds ks : List Int) (a b c : Value) (w : World) (r1 : IntsR ls a (hp w)) (r2 : IntsR ds b (hp w)) (r3 : IntsR ks c (hp w)) (hl : ls.length = ds.length) (hs : ls.length ≤ 1000000) :
    Calls Try.prog 83 [a, b, c].toArray w (Ret w emp (KeepR (ls.filter fun x => decide (x ∈ ks)) (selP (fun x => decide (x ∈ ks)) ls ds))) := by
  refine calls_in Try.func83 rfl Try.ntmps83 rfl (Sat.start w) ?_; have hle0 := r1.le; have hle1 := r2.le; have hle2 := r3.le; refine wp_sc (wp_sq ?_); refine sq_x rfl (x_alloc ty_44 rfl) rfl ?_; rintro _ _ ⟨b6, rfl, rfl⟩; refine sq_end (qs_n (wp_sc (wp_sq ?_))); refine sq_v rfl (v_build [.slice none 0 0, .slice none 0 0, .slice none 0 0] rfl (by kernel_rfl)) rfl ?_; refine sq_x rfl (x_alloc ty_44 rfl) rfl ?_; rintro _ _ ⟨b7, rfl, rfl⟩; refine sq_m 0 rfl rfl (m_store 0 ty_44 rfl rfl rfl rfl (by simp [one_sl]) rfl (Nat.le_of_ble_eq_true rfl)) rfl ?_; rintro _ _ ⟨rfl, rfl⟩; refine sq_end (qs_n (wp_sc (wp_sc (wp_sq ?_)))); refine sq_v rfl (v_move rfl) rfl ?_; refine sq_v rfl (v_len Try.underlying25 rfl r1.sl) rfl ?_; refine sq_v rfl (v_move rfl) rfl ?_; refine sq_end (qs_n (wp_bl ?_)); refine wp_lp (σ := Nat × Value × PH × Value × PH) (fun z_ => [(1, b), (2, c), (6, .pointer (some ⟨b6, 0, none⟩)), (7, .pointer (some ⟨b7, 0, none⟩)), (11, a), (12, num ls.length), (13, num z_.1)]) (fun z_ => [z_.2.2.1, z_.2.2.2.2, box b7 [z_.2.1, z_.2.2.2.1, .slice none 0 0] 44, box b6 [.slice none 0 0, .slice none 0 0, .slice none 0 0] 44, hp w]) (fun z_ => z_.1 ≤ ls.length ∧ IntsO ((ls.take z_.1).filter fun x => decide (x ∈ ks)) z_.2.1 z_.2.2.1 ∧ IntsO (selP (fun x => decide (x ∈ ks)) (ls.take z_.1) (ds.take z_.1)) z_.2.2.2.1 z_.2.2.2.2) (fun z_ => ls.length - z_.1) (0, .slice none 0 0, emp, .slice none 0 0, emp) (⟨by (try dsimp only); omega, IntsO.nil, IntsO.nil⟩) ⟨rfl, rfl, rfl, rfl, rfl, rfl, (by first | rfl | exact ksub rfl (by first | omega | (simp; done) | (simp; omega))), trivial⟩ (fun _ s => (emp_sat (emp_sat s))) ?_; rintro ⟨i, v1, h1, v2, h2⟩ ⟨hi, q1, q2⟩; dsimp only at hi q1 q2 ⊢; have hle_q1 := q1.toR.le; have hle_q2 := q2.toR.le; have hfl := filter_take_len ls (fun x => decide (x ∈ ks)) i; have hsl := selP_len (fun x => decide (x ∈ ks)) (ls.take i) (ds.take i); rw [List.length_take] at hsl; have hmem := findI_ge (xs := ks) (n := ls.getD i 0); refine wp_sc (wp_sq ?_); refine sq_v rfl (v_lss rfl rfl) rfl ?_; refine sq_end (qs_n (wp_sc ?_)); refine wp_cd rfl (fun c14 => ?_) (fun c14 => ?_)
  · refine wp_sk (qs_n (wp_sc (wp_bl (wp_sc (wp_sq ?_))))); refine sq_v rfl (v_move rfl) rfl ?_; refine sq_v rfl (v_idxI Try.underlying25 ty_3 rfl rfl r1 (by first | omega | (simp only [List.length_cons, List.length_nil]; omega) | (simp only [List.length_append, List.length_cons, List.length_nil]; omega) | (rw [List.length_set]; omega) | (rw [List.length_replicate]; omega) | (simp; omega)) (by first | omega | (simp only [List.length_cons, List.length_nil]; omega) | (simp only [List.length_append, List.length_cons, List.length_nil]; omega) | (rw [List.length_set]; omega) | (rw [List.length_replicate]; omega) | (simp; omega))) rfl ?_; refine sq_v rfl (v_loadI (k := i) 4 ty_3 rfl rfl r1 (by first | omega | (simp only [List.length_cons, List.length_nil]; omega) | (simp only [List.length_append, List.length_cons, List.length_nil]; omega) | (rw [List.length_set]; omega) | (rw [List.length_replicate]; omega) | (simp; omega))) rfl ?_; refine sq_v rfl (v_assign rfl) rfl ?_; refine sq_v rfl (v_assign rfl) rfl ?_; refine sq_end (qs_n (wp_sc (wp_sq ?_))); refine sq_v rfl (v_move rfl) rfl ?_; refine sq_v rfl (v_move rfl) rfl ?_; refine sq_u rfl (x_callv rfl en_60 (fun w s => ct_s_l05Find _ _ _ w (r3.mono (s.get 4 rfl)))) rfl ?_; refine sq_v rfl (v_geq rfl rfl) rfl ?_; refine sq_end (qs_n ?_); refine wp_cd rfl (fun c21 => ?_) (fun c21 => ?_)
    · refine wp_sc (wp_sq ?_); refine sq_v rfl (v_fieldAddr fd_44_0 ty_25 (by decide) rfl) rfl ?_; refine sq_v rfl (v_loadB 2 ty_25 rfl rfl rfl) rfl ?_; refine sq_v rfl (v_move rfl) rfl ?_; refine sq_x rfl (x_buildS [num (ls.getD i 0)] Try.underlying25 ty_3 (by decide) rfl rfl rfl (by decide) (by decide) (by intro v hv; simp at hv; rcases hv with rfl <;> rfl)) rfl ?_; intro v25 h25 (r25 : IntsO [ls.getD i 0] v25 h25); refine sq_m 1 rfl rfl (m_appI 1 0 Try.underlying25 ty_3 rfl rfl rfl rfl q1 rfl r25.toR (by first | omega | (simp only [List.length_cons, List.length_nil]; omega) | (simp only [List.length_append, List.length_cons, List.length_nil]; omega) | (rw [List.length_set]; omega) | (rw [List.length_replicate]; omega) | (simp; omega))) rfl ?_; intro v26 h_r26 r26; refine sq_v rfl (v_fieldAddr fd_44_0 ty_25 (by decide) rfl) rfl ?_; refine sq_m 3 rfl rfl (m_store1 3 ty_25 rfl rfl r26.toR.sl.one rfl (Nat.le_of_ble_eq_true rfl)) rfl ?_; rintro _ _ ⟨rfl, rfl⟩; refine sq_end (qs_n ?_); refine wp_rj 7 [(0, true), (1, true), (2, true), (3, true), (4, true), (5, true), (6, false), (7, false), (8, false), (9, false)] mixed_ok (by kernel_rfl) ?_; refine rj_v rfl rfl (v_fieldAddr fd_44_1 ty_25 (by decide) rfl) rfl ?_; refine rj_v rfl rfl (v_loadB 3 ty_25 rfl rfl rfl) rfl ?_; refine rj_v rfl rfl (v_move rfl) rfl ?_; refine rj_v rfl rfl (v_move rfl) rfl ?_; refine rj_v rfl rfl (v_idxI Try.underlying25 ty_3 rfl rfl r2 (by first | omega | (simp only [List.length_cons, List.length_nil]; omega) | (simp only [List.length_append, List.length_cons, List.length_nil]; omega) | (rw [List.length_set]; omega) | (rw [List.length_replicate]; omega) | (simp; omega)) (by first | omega | (simp only [List.length_cons, List.length_nil]; omega) | (simp only [List.length_append, List.length_cons, List.length_nil]; omega) | (rw [List.length_set]; omega) | (rw [List.length_replicate]; omega) | (simp; omega))) rfl ?_; refine rj_v rfl rfl (v_loadI (k := i) 5 ty_3 rfl rfl r2 (by first | omega | (simp only [List.length_cons, List.length_nil]; omega) | (simp only [List.length_append, List.length_cons, List.length_nil]; omega) | (rw [List.length_set]; omega) | (rw [List.length_replicate]; omega) | (simp; omega))) rfl ?_; refine rj_x rfl rfl (x_buildS [num (ds.getD i 0)] Try.underlying25 ty_3 (by decide) rfl rfl rfl (by decide) (by decide) (by intro v hv; simp at hv; rcases hv with rfl <;> rfl)) rfl ?_; intro v34 h34 (r34 : IntsO [ds.getD i 0] v34 h34); refine rj_m 3 rfl rfl rfl rfl (m_appI 3 0 Try.underlying25 ty_3 rfl rfl rfl rfl q2 rfl r34.toR (by first | omega | (simp only [List.length_cons, List.length_nil]; omega) | (simp only [List.length_append, List.length_cons, List.length_nil]; omega) | (rw [List.length_set]; omega) | (rw [List.length_replicate]; omega) | (simp; omega))) rfl ?_; intro v35 h_r35 r35; refine rj_fv rfl rfl (v_fieldAddr fd_44_1 ty_25 (by decide) rfl) rfl ?_; refine rj_m 4 rfl rfl rfl rfl (m_store1 4 ty_25 rfl rfl r35.toR.sl.one rfl (Nat.le_of_ble_eq_true rfl)) rfl ?_; rintro _ _ ⟨rfl, rfl⟩; refine rj_end (qs_bn (qs_n (wp_sq ?_))); refine sq_v rfl (v_add rfl rfl ((by unfold I64; omega))) rfl ?_; refine sq_v rfl (v_move rfl) rfl ?_; refine sq_end ?_; exact qs_bk (i + 1, v26, h_r26, v35, h_r35) ⟨by (try dsimp only); omega, by (try dsimp only); rw [filter_yes (by omega) (by simpa using hmem.1 c21)]; exact r26, by (try dsimp only); rw [selP_yes hl (by omega) (by simpa using hmem.1 c21)]; exact r35⟩ (by simp only; omega) ⟨rfl, rfl, rfl, rfl, rfl, rfl, (by first | rfl | exact ksub rfl (by first | omega | (simp; done) | (simp; omega))), trivial⟩ (fun _ s => s.pick [2, 3, 4, 5, 6] (by decide) rfl)
    · refine wp_sk (qs_bn (qs_n (wp_sq ?_))); refine sq_v rfl (v_add rfl rfl ((by unfold I64; omega))) rfl ?_; refine sq_v rfl (v_move rfl) rfl ?_; refine sq_end ?_; exact qs_bk (i + 1, v1, h1, v2, h2) ⟨by (try dsimp only); omega, by (try dsimp only); rw [filter_no (by omega) (by simpa using fun h => c21 (hmem.2 h))]; exact q1, by (try dsimp only); rw [selP_no hl (by omega) (by simpa using fun h => c21 (hmem.2 h))]; exact q2⟩ (by simp only; omega) ⟨rfl, rfl, rfl, rfl, rfl, rfl, (by first | rfl | exact ksub rfl (by first | omega | (simp; done) | (simp; omega))), trivial⟩ (fun _ s => s)
  · refine wp_ex (qs_x (qs_x (qs_bx (qs_n (wp_sc (wp_sq ?_)))))); refine sq_v rfl (v_loadNB 2 ty_44 rfl rfl rfl rfl) rfl ?_; refine sq_m 3 rfl rfl (m_store 3 ty_44 rfl rfl rfl rfl (by simp [q1.toR.sl.one, q2.toR.sl.one, one_sl]) rfl (Nat.le_of_ble_eq_true rfl)) rfl ?_; rintro _ _ ⟨rfl, rfl⟩; refine sq_end (qs_n (wp_rt ?_)); refine qs_close [box b6 _ _, hp w] [h1, h2] (fun _ s => s.pick [3, 4, 0, 1] (by decide) rfl) (fun md => ?_); rw [List.take_of_length_le (by omega)] at q1; rw [List.take_of_length_le (by omega), List.take_of_length_le (by omega)] at q2; exact qs_retc 1 rfl ty_44 rfl rfl rfl (fin_t 0 (i := 2) rfl rfl rfl ⟨v1, v2, h1, h2, rfl, q1, q2, md⟩)
theorem ct_u_l08Join (f : Int → Int) (t u : Ten) (a b c a' b' c' : Value) (w : World) (r1 : IntsR t.l a (hp w)) (r2 : IntsR t.d b (hp w)) (r3 : IntsR u.l a' (hp w)) (r4 : IntsR u.d b' (hp w)) (ht : t.d = t.l.map f) (hu : u.d = u.l.map f) (hn : u.l.Nodup) (hs : t.l.length + u.l.length ≤ 1000000) :
    Calls Try.prog 81 [tenV a b c, tenV a' b' c'].toArray w (Ret w emp (fun v h => ∃ v1 v2, v = .tuple [v1, v2, .bool true].toArray ∧ IntsR (joinI t.l u.l) v1 h ∧ IntsR ((joinI t.l u.l).map f) v2 h)) :=
  (ct_s_l08Join t u a b c a' b' c' w r1 r2 r3 r4 (by rw [ht, List.length_map]) (by rw [hu, List.length_map]) hn hs).mono fun _ _ hh => by
    obtain ⟨v, h', h1, h2, h3⟩ := hh; have := h3.2 (mism_not ht hu); rw [joinD_map ht hu] at this; exact ⟨v, h', h1, h2, this⟩
theorem map_dims {f : Int → Int} {l : List Int} (h : ∀ x ∈ l, 1 ≤ f x ∧ f x ≤ 8) : dimsIn (l.map f) := fun j hj => by
  rw [List.length_map] at hj; rw [map_getD hj]; exact h _ (mem_getD hj)
end Go.Proofs.Ytehjljijionhaaa
