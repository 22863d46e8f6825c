/-
  A region that draws its order, in which a part of the heap is turned before the region's tail begins: what is hoisted looks at the other parts alone.
  Conditions: none; every theorem here speaks of any program.
-/
import Derived.Test.YtikeobneipjfnaaAuto
namespace Go.Proofs.Ytikeobneipjfnaa
set_option maxRecDepth 100000
open Go.RowKit
/-- 'HK' is 'HS', some parts of it forgotten. -/
def WkL : List PH → List PH → Prop
  | [], [] => True
  | h :: HS, k :: HK => (k = h ∨ k = emp) ∧ WkL HS HK
  | _, _ => False
def blankL : List Bool → List PH → List PH
  | true :: B, _ :: HS => emp :: blankL B HS
  | false :: B, h :: HS => h :: blankL B HS
  | _, HS => HS
theorem WkL.refl : ∀ HS, WkL HS HS
  | [] => trivial
  | _ :: HS => ⟨.inl rfl, WkL.refl HS⟩
theorem WkL.blank : ∀ (B : List Bool) (HS : List PH), WkL HS (blankL B HS)
  | [], HS => by unfold blankL; exact WkL.refl HS
  | true :: _, [] => trivial
  | false :: _, [] => trivial
  | true :: B, h :: HS => ⟨.inr rfl, WkL.blank B HS⟩
  | false :: B, h :: HS => ⟨.inl rfl, WkL.blank B HS⟩
theorem WkL.le : ∀ {HS HK : List PH}, WkL HS HK → ∀ x ∈ HK, x = emp ∨ x ∈ HS
  | [], [], _, x, h => by simp at h
  | _ :: _, [], h, _, _ => h.elim
  | [], _ :: _, h, _, _ => h.elim
  | h :: HS, k :: HK, w, x, hx => by
    rcases List.mem_cons.1 hx with rfl | hx
    · rcases w.1 with e | e
      · exact .inr (by simp [e])
      · exact .inl e
    · rcases WkL.le w.2 x hx with e | e
      · exact .inl e
      · exact .inr (by simp [e])
theorem WkL.sep : ∀ {HS HK : List PH}, WkL HS HK → sepL HS → sepL HK
  | [], [], _, _ => trivial
  | _ :: _, [], h, _ => h.elim
  | [], _ :: _, h, _ => h.elim
  | h :: HS, k :: HK, w, s => by
    refine ⟨fun x hx => ?_, WkL.sep w.2 s.2⟩
    rcases w.1 with rfl | rfl
    · rcases WkL.le w.2 x hx with rfl | e
      · exact PDj.symm (PDj.emp _)
      · exact s.1 x e
    · exact PDj.emp _
theorem WkL.sat {w0 w : World} {HS HK : List PH} (h : WkL HS HK) (s : Sat w0 HS w) : Sat w0 HK w := by
  refine ⟨s.os, s.tape, s.output, s.size, h.sep s.sep, fun x hx => ?_⟩
  rcases h.le x hx with rfl | e
  · exact PLe.emp _
  · exact s.le x e
theorem WkL.set : ∀ {HS HK : List PH} {p : Nat} {h' : PH}, WkL HS HK → HK[p]? = some emp → WkL (HS.set p h') HK
  | [], [], _, _, _, e => by simp at e
  | _ :: _, [], _, _, h, _ => h.elim
  | [], _ :: _, _, _, h, _ => h.elim
  | h :: HS, k :: HK, 0, h', w, e => by
    simp only [List.getElem?_cons_zero, Option.some.injEq] at e
    exact ⟨.inr e, w.2⟩
  | h :: HS, k :: HK, p + 1, h', w, e => ⟨w.1, WkL.set (p := p) w.2 (by simpa using e)⟩
section
variable (P : Program) (n : Nat) (w0 : World)
def RK (ops : Array Oper) (m : Nat) (Q : Exit → Act → World → Prop) (order : List (Nat × Bool)) (listed : Array Bool) (K : Env) (HS HK : List PH) : Prop :=
  WkL HS HK → (∀ i s r, order = (i, s) :: r → i < m → HeadInv .any ops m listed) → chk ops m order listed = true → (Region.noSelect ops && tailOK ops m) = true →
  ∀ (a : Act) (w : World), EnvOK n K a → Sat w0 HS w → RAny P ops Q (Sat w0 HK) m order.length listed a w
end
section
variable {P : Program} {n : Nat} {w0 : World} {K : Env} {HS HK : List PH} {Q : Exit → Act → World → Prop} {ops : Array Oper} {m : Nat} {r : List (Nat × Bool)} {listed : Array Bool}
theorem wp_rk {id : Nat} {l : List Oper} (B : List Bool) (m : Nat) (order : List (Nat × Bool)) (hm : P.follows .mixedOrders = true)
    (hc : (chk l.toArray m order (Array.replicate l.toArray.size false) && (Region.noSelect l.toArray && tailOK l.toArray m) && decide (order.length = l.toArray.size)) = true)
    (h : RK P n w0 l.toArray m Q order (Array.replicate l.toArray.size false) K HS (blankL B HS)) : WP P n w0 (.region id l.toArray true) Q K HS := fun a w e s => by
  rw [Bool.and_eq_true, Bool.and_eq_true] at hc
  obtain ⟨⟨h1, h2⟩, h3⟩ := hc
  have hm' : m ≤ l.toArray.size := by
    simp only [Bool.and_eq_true, tailOK, Bool.or_eq_true, decide_eq_true_eq] at h2
    omega
  have inv0 : HeadInv .any l.toArray m (Array.replicate l.toArray.size false) :=
    ⟨by simp, fun j oj _ hl => (by rw [getD_replicate_false] at hl; cases hl), fun t _ ht => getD_in (by simpa using ht) (getD_replicate_false _ _)⟩
  have H := h (WkL.blank B HS) (fun _ _ _ _ _ => inv0) h1 h2 a { w with drawn := w.drawn + 1 } e ⟨s.os, s.tape, s.output, s.size, s.sep, s.le⟩
  rw [of_decide_eq_true h3] at H
  exact Code.wp_mono OnlyN.imp (wp_region_any hm (rany_any _ _ _ _ H))
theorem rk_end (h : QS n w0 Q .normal K HS) : RK P n w0 ops m Q [] listed K HS HK := fun _ _ hc _ a w e s => ⟨by simpa [chk] using hc, h a w e s⟩
theorem rk_yield {i : Nat} {oi : Oper} {v : Value} (hi : ops[i]? = some oi) (hy : ∀ a, EnvOK n K a → YieldsIf P ops (Sat w0 HK) oi v a) (hf : fitsK n oi.dst = true)
    (k : RK P n w0 ops m Q r (listed.setIfInBounds i true) (putK oi.dst v K) HS HK) : RK P n w0 ops m Q ((i, true) :: r) listed K HS HK := fun hwk hinv hc ht a w e s => by
  simp only [chk, Bool.and_eq_true, decide_eq_true_eq] at hc
  obtain ⟨⟨⟨him, hr⟩, hfr⟩, hc'⟩ := hc
  have inv := hinv i true r rfl him
  have hr' : i ∈ Region.ready .any ops listed := by simpa using hr
  have ht' := ht
  rw [Bool.and_eq_true] at ht'
  exact rany_first hi (Region.noSelect_spec ht'.1) him ht'.2 _ listed a w inv (Region.free_spec hi hfr) hr' (hy a e) (hwk.sat s)
    (k hwk (fun _ _ _ _ _ => inv.set hr' him) hc' ht _ _ (e.put v hf) s)
theorem rk_v {i : Nat} {oi : Oper} {v : Value} (hi : ops[i]? = some oi) (hw : wantK ops K oi.guard = some true) (hv : StepV P n w0 K HK oi v) (hf : fitsK n oi.dst = true)
    (k : RK P n w0 ops m Q r (listed.setIfInBounds i true) (putK oi.dst v K) HS HK) : RK P n w0 ops m Q ((i, true) :: r) listed K HS HK :=
  rk_yield hi (fun a e => .inl ⟨e.wanted hw, fun w s => hv a w e s⟩) hf k
theorem rk_s {i : Nat} {oi : Oper} (hi : ops[i]? = some oi) (hw : wantK ops K oi.guard = some false) (hf : fitsK n oi.dst = true)
    (k : RK P n w0 ops m Q r (listed.setIfInBounds i true) (putK oi.dst undef K) HS HK) : RK P n w0 ops m Q ((i, true) :: r) listed K HS HK :=
  rk_yield hi (fun _ e => .inr ⟨e.wanted hw, rfl⟩) hf k
theorem rk_only {i : Nat} {oi : Oper} (hi : ops[i]? = some oi) (h : (∀ i' s' r', r = (i', s') :: r' → i' < m → i < m) → chk ops m r (listed.setIfInBounds i true) = true → (m ≤ i → ∀ j, j < m → (listed.setIfInBounds i true).getD j false = true) →
      (Region.noSelect ops && tailOK ops m) = true → (i < m → HeadInv .any ops m (listed.setIfInBounds i true)) → WkL HS HK →
      ∀ a w, EnvOK n K a → Sat w0 HS w → wpOp P ops (OnlyN Q) i (fun a' w' => (i < m → Sat w0 HK w') ∧ RAny P ops Q (Sat w0 HK) m r.length (listed.setIfInBounds i true) a' w') a w) :
    RK P n w0 ops m Q ((i, false) :: r) listed K HS HK := fun hwk hinv hc ht a w e s => by
  simp only [chk, Bool.and_eq_true, decide_eq_true_eq, Bool.or_eq_true, List.all_eq_true, List.mem_range] at hc
  obtain ⟨⟨hr, hd⟩, hc'⟩ := hc
  have hmem : i ∈ Region.ready .any ops listed := by rw [hr]; simp
  refine ⟨fun h0 => (by rw [hr] at h0; cases h0), fun j hj => ?_⟩
  rw [hr] at hj
  have : j = i := by simpa using hj
  subst this
  refine h (fun i' s' r' e' hlt => ?_) hc' (fun hmi j' hj' => ?_) ht (fun him => (hinv j false r rfl him).set hmem him) hwk a w e s
  · rcases hd with hd | hd
    · exact hd
    · have := hd.2 (i', s') (by rw [e']; simp)
      simp only at this
      omega
  · rcases hd with hd | hd
    · omega
    · exact getD_set_true (hd.1 j' hj')
theorem rk_fv {i : Nat} {oi : Oper} {v : Value} (hi : ops[i]? = some oi) (hw : wantK ops K oi.guard = some true) (hv : StepV P n w0 K HS oi v) (hf : fitsK n oi.dst = true)
    (k : RK P n w0 ops m Q r (listed.setIfInBounds i true) (putK oi.dst v K) HS HK) : RK P n w0 ops m Q ((i, false) :: r) listed K HS HK :=
  rk_only hi fun h1 h2 _ h4 h5 hwk a w e s => by
    have hy : YieldsIf P ops (Sat w0 HS) oi v a := .inl ⟨e.wanted hw, fun w s => hv a w e s⟩
    exact hy.wpOp hi s ⟨fun _ => hwk.sat s, k hwk (fun i' s' r' e' hlt => h5 (h1 i' s' r' e' hlt)) h2 h4 _ _ (e.put v hf) s⟩
theorem rk_fs {i : Nat} {oi : Oper} (hi : ops[i]? = some oi) (hw : wantK ops K oi.guard = some false) (hf : fitsK n oi.dst = true)
    (k : RK P n w0 ops m Q r (listed.setIfInBounds i true) (putK oi.dst undef K) HS HK) : RK P n w0 ops m Q ((i, false) :: r) listed K HS HK :=
  rk_only hi fun h1 h2 _ h4 h5 hwk a w e s => by
    have hy : YieldsIf P ops (Sat w0 HS) oi undef a := .inr ⟨e.wanted hw, rfl⟩
    exact hy.wpOp hi s ⟨fun _ => hwk.sat s, k hwk (fun i' s' r' e' hlt => h5 (h1 i' s' r' e' hlt)) h2 h4 _ _ (e.put undef hf) s⟩
theorem rk_x {i : Nat} {oi : Oper} {T : Value → PH → Prop} (hi : ops[i]? = some oi) (hw : wantK ops K oi.guard = some true) (hx : StepX P n w0 K HS oi emp T) (hf : fitsK n oi.dst = true)
    (k : ∀ v h', T v h' → RK P n w0 ops m Q r (listed.setIfInBounds i true) (putK oi.dst v K) (h' :: HS) (h' :: HK)) : RK P n w0 ops m Q ((i, false) :: r) listed K HS HK :=
  rk_only hi fun h1 h2 _ h4 h5 hwk a w e s => by
    unfold wpOp
    simp only [hi]
    rw [if_pos (e.wanted hw)]
    refine .inl (Oper.wp_imp (hx a w e s) (fun a' w' ⟨v, h', ha, u, ht⟩ => ?_) (fun _ _ _ f => f.elim))
    subst ha
    exact ⟨fun _ => hwk.sat (s.same u), rany_mono (fun _ t => t.drop) _ _ _ _ (k v h' ht ⟨.inl rfl, hwk⟩ (fun i' s' r' e' hlt => h5 (h1 i' s' r' e' hlt)) h2 h4 _ _ (e.put v hf) (s.new u))⟩
theorem rk_u {i : Nat} {oi : Oper} {u : Value} (hi : ops[i]? = some oi) (hw : wantK ops K oi.guard = some true) (hx : StepX P n w0 K HS oi emp (fun v _ => v = u)) (hf : fitsK n oi.dst = true)
    (k : RK P n w0 ops m Q r (listed.setIfInBounds i true) (putK oi.dst u K) HS HK) : RK P n w0 ops m Q ((i, false) :: r) listed K HS HK :=
  rk_only hi fun h1 h2 _ h4 h5 hwk a w e s => by
    unfold wpOp
    simp only [hi]
    rw [if_pos (e.wanted hw)]
    refine .inl (Oper.wp_imp (hx a w e s) (fun a' w' ⟨v, h', ha, up, ht⟩ => ?_) (fun _ _ _ f => f.elim))
    subst ha
    subst ht
    exact ⟨fun _ => hwk.sat (s.same up), k hwk (fun i' s' r' e' hlt => h5 (h1 i' s' r' e' hlt)) h2 h4 _ _ (e.put _ hf) (s.same up)⟩
/-- Ahead of the tail or in it: a part that nothing hoisted looks at is turned. -/
theorem rk_m {i : Nat} {oi : Oper} (p : Nat) {h : PH} {T : Value → PH → Prop} (hi : ops[i]? = some oi) (hb : HK[p]? = some emp) (hw : wantK ops K oi.guard = some true) (hp : HS[p]? = some h) (hx : StepX P n w0 K HS oi h T) (hf : fitsK n oi.dst = true)
    (k : ∀ v h', T v h' → RK P n w0 ops m Q r (listed.setIfInBounds i true) (putK oi.dst v K) (HS.set p h') HK) : RK P n w0 ops m Q ((i, false) :: r) listed K HS HK :=
  rk_only hi fun h1 h2 _ h4 h5 hwk a w e s => by
    unfold wpOp
    simp only [hi]
    rw [if_pos (e.wanted hw)]
    refine .inl (Oper.wp_imp (hx a w e s) (fun a' w' ⟨v, h', ha, u, ht⟩ => ?_) (fun _ _ _ f => f.elim))
    subst ha
    have hwk' : WkL (HS.set p h') HK := hwk.set hb
    exact ⟨fun _ => hwk'.sat (s.upd hp u), k v h' ht hwk' (fun i' s' r' e' hlt => h5 (h1 i' s' r' e' hlt)) h2 h4 _ _ (e.put v hf) (s.upd hp u)⟩
/-- In the tail. -/
theorem rk_mt {i : Nat} {oi : Oper} (p : Nat) {h : PH} {T : Value → PH → Prop} (hi : ops[i]? = some oi) (hmi : decide (m ≤ i) = true) (hw : wantK ops K oi.guard = some true) (hp : HS[p]? = some h) (hx : StepX P n w0 K HS oi h T) (hf : fitsK n oi.dst = true)
    (k : ∀ v h', T v h' → RK P n w0 ops m Q r (listed.setIfInBounds i true) (putK oi.dst v K) (HS.set p h') (HS.set p h')) : RK P n w0 ops m Q ((i, false) :: r) listed K HS HK :=
  rk_only hi fun h1 h2 h3 h4 h5 _ a w e s => by
    unfold wpOp
    simp only [hi]
    rw [if_pos (e.wanted hw)]
    refine .inl (Oper.wp_imp (hx a w e s) (fun a' w' ⟨v, h', ha, u, ht⟩ => ?_) (fun _ _ _ f => f.elim))
    subst ha
    have hmi' := of_decide_eq_true hmi
    exact ⟨fun hlt => absurd hlt (by omega), rany_tail _ _ _ _ (h3 hmi') (k v h' ht (WkL.refl _) (fun i' s' r' e' hlt => h5 (h1 i' s' r' e' hlt)) h2 h4 _ _ (e.put v hf) (s.upd hp u))⟩
theorem rk_bd {p : Prop} [Decidable p] (t : Tmp) (hk : K.lookup t = some (.bool (decide p))) (h1 : p → RK P n w0 ops m Q r listed ((t, .bool true) :: K) HS HK) (h2 : ¬ p → RK P n w0 ops m Q r listed ((t, .bool false) :: K) HS HK) : RK P n w0 ops m Q r listed K HS HK := fun u x y z a w e s => by
  by_cases hp : p
  · exact h1 hp u x y z a w (e.shadow (by rw [hk]; simp [hp])) s
  · exact h2 hp u x y z a w (e.shadow (by rw [hk]; simp [hp])) s
theorem rk_bb {b : Bool} (t : Tmp) (hk : K.lookup t = some (.bool b)) (h1 : b = true → RK P n w0 ops m Q r listed ((t, .bool true) :: K) HS HK) (h2 : b = false → RK P n w0 ops m Q r listed ((t, .bool false) :: K) HS HK) : RK P n w0 ops m Q r listed K HS HK := fun u x y z a w e s => by
  cases b
  · exact h2 rfl u x y z a w (e.shadow hk) s
  · exact h1 rfl u x y z a w (e.shadow hk) s
end
end Go.Proofs.Ytikeobneipjfnaa
