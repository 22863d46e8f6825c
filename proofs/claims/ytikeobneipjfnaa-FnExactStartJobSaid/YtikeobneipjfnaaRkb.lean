/-
  A region that draws its order, where several operations that make memory come up at once and a part that was made in it is turned ahead of the tail.
  Conditions: none; every theorem here speaks of any program.
-/
import Derived.Test.YtikeobneipjfnaaRk
namespace Go.Proofs.Ytikeobneipjfnaa
set_option maxRecDepth 100000
open Go.RowKit
section
variable (P : Program) (n : Nat) (w0 : World)
def RAK (ops : Array Oper) (m : Nat) (Q : Exit → Act → World → Prop) (f : Nat) (listed : Array Bool) (K : Env) (HS HK : List PH) : Prop :=
  WkL HS HK → HeadInv .any ops m listed → (Region.noSelect ops && tailOK ops m) = true → ∀ (a : Act) (w : World), EnvOK n K a → Sat w0 HS w → RAny P ops Q (Sat w0 HK) m f listed a w
def ROK (ops : Array Oper) (m : Nat) (Q : Exit → Act → World → Prop) (f : Nat) (i : Nat) (listed : Array Bool) (K : Env) (HS HK : List PH) : Prop :=
  WkL HS HK → HeadInv .any ops m (listed.setIfInBounds i true) → (Region.noSelect ops && tailOK ops m) = true → ∀ (a : Act) (w : World), EnvOK n K a → Sat w0 HS w →
    wpOp P ops (OnlyN Q) i (fun a' w' => (i < m → Sat w0 HK w') ∧ RAny P ops Q (Sat w0 HK) m f (listed.setIfInBounds i true) a' w') a w
end
section
variable {P : Program} {n : Nat} {w0 : World} {K : Env} {HS HK : List PH} {Q : Exit → Act → World → Prop} {ops : Array Oper} {m f : Nat} {listed : Array Bool}
theorem rak_of (h : RAK P n w0 ops m Q f listed K HS HS) : RA P n w0 ops m Q f listed K HS := fun inv ht a w e s => h (WkL.refl HS) inv ht a w e s
theorem rak_yield {i : Nat} {oi : Oper} {v : Value} (hc : (decide (i < m) && (Region.ready .any ops listed).contains i && Region.free .any ops listed i) = true) (hi : ops[i]? = some oi) (hy : ∀ a, EnvOK n K a → YieldsIf P ops (Sat w0 HK) oi v a) (hf : fitsK n oi.dst = true)
    (k : RAK P n w0 ops m Q f (listed.setIfInBounds i true) (putK oi.dst v K) HS HK) : RAK P n w0 ops m Q (f + 1) listed K HS HK := fun hwk inv ht a w e s => by
  simp only [Bool.and_eq_true, decide_eq_true_eq] at hc
  obtain ⟨⟨him, hr⟩, hfr⟩ := hc
  have hr' : i ∈ Region.ready .any ops listed := by simpa using hr
  have ht' := ht
  rw [Bool.and_eq_true] at ht'
  exact rany_first hi (Region.noSelect_spec ht'.1) him ht'.2 _ listed a w inv (Region.free_spec hi hfr) hr' (hy a e) (hwk.sat s)
    (k hwk (inv.set hr' him) ht _ _ (e.put v hf) s)
theorem rak_v {i : Nat} {oi : Oper} {v : Value} (hc : (decide (i < m) && (Region.ready .any ops listed).contains i && Region.free .any ops listed i) = true) (hi : ops[i]? = some oi) (hw : wantK ops K oi.guard = some true) (hv : StepV P n w0 K HK oi v) (hf : fitsK n oi.dst = true)
    (k : RAK P n w0 ops m Q f (listed.setIfInBounds i true) (putK oi.dst v K) HS HK) : RAK P n w0 ops m Q (f + 1) listed K HS HK :=
  rak_yield hc hi (fun a e => .inl ⟨e.wanted hw, fun w s => hv a w e s⟩) hf k
theorem rak_alts {l : List Nat} (hc : (decide (Region.ready .any ops listed = l) && (l.all fun i => decide (i < m)) && !l.isEmpty) = true) (k : ∀ i ∈ l, ROK P n w0 ops m Q f i listed K HS HK) : RAK P n w0 ops m Q (f + 1) listed K HS HK := fun hwk inv ht a w e s => by
  simp only [Bool.and_eq_true, decide_eq_true_eq, List.all_eq_true, Bool.not_eq_true'] at hc
  obtain ⟨⟨hr, hm⟩, hne⟩ := hc
  refine ⟨fun h0 => (by rw [hr] at h0; rw [h0] at hne; cases hne), fun j hj => ?_⟩
  have hj' := hj
  rw [hr] at hj
  exact k j hj hwk (inv.set hj' (hm j hj)) ht a w e s
theorem rak_1 {i : Nat} (hc : (decide (Region.ready .any ops listed = [i]) && ([i].all fun i => decide (i < m)) && !([i] : List Nat).isEmpty) = true) (k1 : ROK P n w0 ops m Q f i listed K HS HK) : RAK P n w0 ops m Q (f + 1) listed K HS HK :=
  rak_alts hc (fun x hx => by simp only [List.mem_cons, List.not_mem_nil, or_false] at hx; subst hx; exact k1)
theorem rak_2 {i j : Nat} (hc : (decide (Region.ready .any ops listed = [i, j]) && ([i, j].all fun i => decide (i < m)) && !([i, j] : List Nat).isEmpty) = true) (k1 : ROK P n w0 ops m Q f i listed K HS HK) (k2 : ROK P n w0 ops m Q f j listed K HS HK) : RAK P n w0 ops m Q (f + 1) listed K HS HK :=
  rak_alts hc (fun x hx => by simp only [List.mem_cons, List.not_mem_nil, or_false] at hx; rcases hx with rfl | rfl <;> assumption)
theorem rak_3 {i j p : Nat} (hc : (decide (Region.ready .any ops listed = [i, j, p]) && ([i, j, p].all fun i => decide (i < m)) && !([i, j, p] : List Nat).isEmpty) = true) (k1 : ROK P n w0 ops m Q f i listed K HS HK) (k2 : ROK P n w0 ops m Q f j listed K HS HK) (k3 : ROK P n w0 ops m Q f p listed K HS HK) : RAK P n w0 ops m Q (f + 1) listed K HS HK :=
  rak_alts hc (fun x hx => by simp only [List.mem_cons, List.not_mem_nil, or_false] at hx; rcases hx with rfl | rfl | rfl <;> assumption)
theorem rok_x {i : Nat} {oi : Oper} {T : Value → PH → Prop} (hi : ops[i]? = some oi) (hw : wantK ops K oi.guard = some true) (hx : StepX P n w0 K HS oi emp T) (hf : fitsK n oi.dst = true)
    (k : ∀ v h', T v h' → RAK P n w0 ops m Q f (listed.setIfInBounds i true) (putK oi.dst v K) (h' :: HS) (h' :: HK)) : ROK P n w0 ops m Q f i listed K HS HK := fun hwk inv ht a w e s => by
  unfold wpOp
  simp only [hi]
  rw [if_pos (e.wanted hw)]
  refine .inl (Oper.wp_imp (hx a w e s) (fun a' w' ⟨v, h', ha, u, ht'⟩ => ?_) (fun _ _ _ f => f.elim))
  subst ha
  exact ⟨fun _ => hwk.sat (s.same u), rany_mono (fun _ t => t.drop) _ _ _ _ (k v h' ht' ⟨.inl rfl, hwk⟩ inv ht _ _ (e.put v hf) (s.new u))⟩
/-- What is made here may be turned ahead of the tail: nothing hoisted looks at it. -/
theorem rok_xb {i : Nat} {oi : Oper} {T : Value → PH → Prop} (hi : ops[i]? = some oi) (hw : wantK ops K oi.guard = some true) (hx : StepX P n w0 K HS oi emp T) (hf : fitsK n oi.dst = true)
    (k : ∀ v h', T v h' → RAK P n w0 ops m Q f (listed.setIfInBounds i true) (putK oi.dst v K) (h' :: HS) (emp :: HK)) : ROK P n w0 ops m Q f i listed K HS HK := fun hwk inv ht a w e s => by
  unfold wpOp
  simp only [hi]
  rw [if_pos (e.wanted hw)]
  refine .inl (Oper.wp_imp (hx a w e s) (fun a' w' ⟨v, h', ha, u, ht'⟩ => ?_) (fun _ _ _ f => f.elim))
  subst ha
  exact ⟨fun _ => hwk.sat (s.same u), rany_mono (fun _ t => t.drop) _ _ _ _ (k v h' ht' ⟨.inr rfl, hwk⟩ inv ht _ _ (e.put v hf) (s.new u))⟩
theorem rok_u {i : Nat} {oi : Oper} {u : Value} (hi : ops[i]? = some oi) (hw : wantK ops K oi.guard = some true) (hx : StepX P n w0 K HS oi emp (fun v _ => v = u)) (hf : fitsK n oi.dst = true)
    (k : RAK P n w0 ops m Q f (listed.setIfInBounds i true) (putK oi.dst u K) HS HK) : ROK P n w0 ops m Q f i listed K HS HK := fun hwk inv ht a w e s => by
  unfold wpOp
  simp only [hi]
  rw [if_pos (e.wanted hw)]
  refine .inl (Oper.wp_imp (hx a w e s) (fun a' w' ⟨v, h', ha, up, ht'⟩ => ?_) (fun _ _ _ f => f.elim))
  subst ha
  subst ht'
  exact ⟨fun _ => hwk.sat (s.same up), k hwk inv ht _ _ (e.put _ hf) (s.same up)⟩
theorem rk_xb {r : List (Nat × Bool)} {i : Nat} {oi : Oper} {T : Value → PH → Prop} (hi : ops[i]? = some oi) (hw : wantK ops K oi.guard = some true) (hx : StepX P n w0 K HS oi emp T) (hf : fitsK n oi.dst = true)
    (k : ∀ v h', T v h' → RK P n w0 ops m Q r (listed.setIfInBounds i true) (putK oi.dst v K) (h' :: HS) (emp :: HK)) : RK P n w0 ops m Q ((i, false) :: r) listed K HS HK :=
  rk_only hi fun h1 h2 _ h4 h5 hwk a w e s => by
    unfold wpOp
    simp only [hi]
    rw [if_pos (e.wanted hw)]
    refine .inl (Oper.wp_imp (hx a w e s) (fun a' w' ⟨v, h', ha, u, ht⟩ => ?_) (fun _ _ _ f => f.elim))
    subst ha
    exact ⟨fun _ => hwk.sat (s.same u), rany_mono (fun _ t => t.drop) _ _ _ _ (k v h' ht ⟨.inr rfl, hwk⟩ (fun i' s' r' e' hlt => h5 (h1 i' s' r' e' hlt)) h2 h4 _ _ (e.put v hf) (s.new u))⟩
theorem rak_rk (order : List (Nat × Bool)) (hc : chk ops m order listed = true) (hl : f = order.length) (h : RK P n w0 ops m Q order listed K HS HK) : RAK P n w0 ops m Q f listed K HS HK := fun hwk inv ht a w e s => by
  rw [hl]
  exact h hwk (fun _ _ _ _ _ => inv) hc ht a w e s
end
end Go.Proofs.Ytikeobneipjfnaa
