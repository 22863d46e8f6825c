/-
  A region that draws its order, where several operations that make memory may come up at once: every order is walked, and all of them meet in one state.
  Conditions: none; every theorem here speaks of any program.
-/
import Derived.Test.YtikeobneipjfnaaOps2
namespace Go.Proofs.Ytikeobneipjfnaa
open Go.RowKit
section
variable (P : Program) (n : Nat) (w0 : World)
def RA (ops : Array Oper) (m : Nat) (Q : Exit → Act → World → Prop) (f : Nat) (listed : Array Bool) (K : Env) (HS : List PH) : Prop :=
  HeadInv .any ops m listed → (Region.noSelect ops && tailOK ops m) = true → ∀ (a : Act) (w : World), EnvOK n K a → Sat w0 HS w → RAny P ops Q (Sat w0 HS) m f listed a w
/-- Operation number i is taken now. -/
def RO (ops : Array Oper) (m : Nat) (Q : Exit → Act → World → Prop) (f : Nat) (i : Nat) (listed : Array Bool) (K : Env) (HS : List PH) : Prop :=
  HeadInv .any ops m (listed.setIfInBounds i true) → (Region.noSelect ops && tailOK ops m) = true → ∀ (a : Act) (w : World), EnvOK n K a → Sat w0 HS w →
    wpOp P ops (OnlyN Q) i (fun a' w' => (i < m → Sat w0 HS w') ∧ RAny P ops Q (Sat w0 HS) m f (listed.setIfInBounds i true) a' w') a w
end
section
variable {P : Program} {n : Nat} {w0 : World} {K : Env} {HS : List PH} {Q : Exit → Act → World → Prop} {ops : Array Oper} {m f : Nat} {listed : Array Bool}
def MidQ {σ : Type} (n : Nat) (w0 : World) (T : σ → Prop) (Km : σ → Env) (Hm : σ → List PH) : Exit → Act → World → Prop
  | .normal, a, w => ∃ x, T x ∧ EnvOK n (Km x) a ∧ Sat w0 (Hm x) w
  | _, _, _ => False
theorem qs_mid {σ : Type} {T : σ → Prop} {Km : σ → Env} {Hm : σ → List PH} (x : σ) (t : T x) (hk : SubK K (Km x)) (hs : ∀ w, Sat w0 HS w → Sat w0 (Hm x) w) : QS n w0 (MidQ n w0 T Km Hm) .normal K HS := fun _ w e s => ⟨x, t, e.sub hk, hs w s⟩
theorem wp_ra {σ : Type} {id : Nat} {l : List Oper} (m : Nat) (T : σ → Prop) (Km : σ → Env) (Hm : σ → List PH) (hm : P.follows .mixedOrders = true)
    (hc : (Region.noSelect l.toArray && tailOK l.toArray m) = true)
    (h : RA P n w0 l.toArray m (MidQ n w0 T Km Hm) l.length (Array.replicate l.length false) K HS) (hend : ∀ x, T x → QS n w0 Q .normal (Km x) (Hm x)) : WP P n w0 (.region id l.toArray true) Q K HS := fun a w e s => by
  have h2 := hc
  have hm' : m ≤ l.toArray.size := by
    simp only [Bool.and_eq_true, tailOK, Bool.or_eq_true, decide_eq_true_eq] at h2
    omega
  have inv0 : HeadInv .any l.toArray m (Array.replicate l.length false) :=
    ⟨by simp, fun j oj _ hl => (by rw [getD_replicate_false] at hl; cases hl), fun t _ ht => getD_in (by simpa using ht) (getD_replicate_false _ _)⟩
  have H := h inv0 hc a { w with drawn := w.drawn + 1 } e ⟨s.os, s.tape, s.output, s.size, s.sep, s.le⟩
  have H' := wp_region_any (id := id) hm (rany_any _ _ _ _ H)
  refine Code.wp_mono (fun en a' w' q => ?_) H'
  cases en with
  | normal => obtain ⟨x, t, e', s'⟩ := q; exact hend x t a' w' e' s'
  | exit id => exact (q : False).elim
  | goto l => exact (q : False).elim
  | ret => exact (q : False).elim
  | panic ch => exact (q : False).elim
  | outgrown => exact (q : False).elim
theorem ra_yield {i : Nat} {oi : Oper} {v : Value} (hc : (decide (i < m) && (Region.ready .any ops listed).contains i && Region.free .any ops listed i) = true) (hi : ops[i]? = some oi) (hy : ∀ a, EnvOK n K a → YieldsIf P ops (Sat w0 HS) oi v a) (hf : fitsK n oi.dst = true)
    (k : RA P n w0 ops m Q f (listed.setIfInBounds i true) (putK oi.dst v K) HS) : RA P n w0 ops m Q (f + 1) listed K HS := fun inv ht a w e s => by
  simp only [Bool.and_eq_true, decide_eq_true_eq] at hc
  obtain ⟨⟨him, hr⟩, hfr⟩ := hc
  have hr' : i ∈ Region.ready .any ops listed := by simpa using hr
  have ht' := ht
  rw [Bool.and_eq_true] at ht'
  exact rany_first hi (Region.noSelect_spec ht'.1) him ht'.2 _ listed a w inv (Region.free_spec hi hfr) hr' (hy a e) s
    (k (inv.set hr' him) ht _ _ (e.put v hf) s)
theorem ra_v {i : Nat} {oi : Oper} {v : Value} (hc : (decide (i < m) && (Region.ready .any ops listed).contains i && Region.free .any ops listed i) = true) (hi : ops[i]? = some oi) (hw : wantK ops K oi.guard = some true) (hv : StepV P n w0 K HS oi v) (hf : fitsK n oi.dst = true)
    (k : RA P n w0 ops m Q f (listed.setIfInBounds i true) (putK oi.dst v K) HS) : RA P n w0 ops m Q (f + 1) listed K HS :=
  ra_yield hc hi (fun a e => .inl ⟨e.wanted hw, fun w s => hv a w e s⟩) hf k
theorem ra_s {i : Nat} {oi : Oper} (hc : (decide (i < m) && (Region.ready .any ops listed).contains i && Region.free .any ops listed i) = true) (hi : ops[i]? = some oi) (hw : wantK ops K oi.guard = some false) (hf : fitsK n oi.dst = true)
    (k : RA P n w0 ops m Q f (listed.setIfInBounds i true) (putK oi.dst undef K) HS) : RA P n w0 ops m Q (f + 1) listed K HS :=
  ra_yield hc hi (fun _ e => .inr ⟨e.wanted hw, rfl⟩) hf k
theorem ra_alts {l : List Nat} (hc : (decide (Region.ready .any ops listed = l) && (l.all fun i => decide (i < m)) && !l.isEmpty) = true) (k : ∀ i ∈ l, RO P n w0 ops m Q f i listed K HS) : RA P n w0 ops m Q (f + 1) listed K HS := fun inv ht a w e s => by
  simp only [Bool.and_eq_true, decide_eq_true_eq, List.all_eq_true, Bool.not_eq_true'] at hc
  obtain ⟨⟨hr, hm⟩, hne⟩ := hc
  refine ⟨fun h0 => (by rw [hr] at h0; rw [h0] at hne; cases hne), fun j hj => ?_⟩
  have hj' := hj
  rw [hr] at hj
  exact k j hj (inv.set hj' (hm j hj)) ht a w e s
theorem ra_1 {i : Nat} (hc : (decide (Region.ready .any ops listed = [i]) && ([i].all fun i => decide (i < m)) && !([i] : List Nat).isEmpty) = true) (k1 : RO P n w0 ops m Q f i listed K HS) : RA P n w0 ops m Q (f + 1) listed K HS :=
  ra_alts hc (fun x hx => by simp only [List.mem_cons, List.not_mem_nil, or_false] at hx; subst hx; exact k1)
theorem ra_2 {i j : Nat} (hc : (decide (Region.ready .any ops listed = [i, j]) && ([i, j].all fun i => decide (i < m)) && !([i, j] : List Nat).isEmpty) = true) (k1 : RO P n w0 ops m Q f i listed K HS) (k2 : RO P n w0 ops m Q f j listed K HS) : RA P n w0 ops m Q (f + 1) listed K HS :=
  ra_alts hc (fun x hx => by simp only [List.mem_cons, List.not_mem_nil, or_false] at hx; rcases hx with rfl | rfl <;> assumption)
theorem ra_3 {i j p : Nat} (hc : (decide (Region.ready .any ops listed = [i, j, p]) && ([i, j, p].all fun i => decide (i < m)) && !([i, j, p] : List Nat).isEmpty) = true) (k1 : RO P n w0 ops m Q f i listed K HS) (k2 : RO P n w0 ops m Q f j listed K HS) (k3 : RO P n w0 ops m Q f p listed K HS) : RA P n w0 ops m Q (f + 1) listed K HS :=
  ra_alts hc (fun x hx => by simp only [List.mem_cons, List.not_mem_nil, or_false] at hx; rcases hx with rfl | rfl | rfl <;> assumption)
theorem ro_x {i : Nat} {oi : Oper} {T : Value → PH → Prop} (hi : ops[i]? = some oi) (hw : wantK ops K oi.guard = some true) (hx : StepX P n w0 K HS oi emp T) (hf : fitsK n oi.dst = true)
    (k : ∀ v h', T v h' → RA P n w0 ops m Q f (listed.setIfInBounds i true) (putK oi.dst v K) (h' :: HS)) : RO P n w0 ops m Q f i listed K HS := fun inv ht a w e s => by
  unfold wpOp
  simp only [hi]
  rw [if_pos (e.wanted hw)]
  refine .inl (Oper.wp_imp (hx a w e s) (fun a' w' ⟨v, h', ha, u, ht'⟩ => ?_) (fun _ _ _ f => f.elim))
  subst ha
  exact ⟨fun _ => s.same u, rany_mono (fun _ t => t.drop) _ _ _ _ (k v h' ht' inv ht _ _ (e.put v hf) (s.new u))⟩
theorem ro_u {i : Nat} {oi : Oper} {u : Value} (hi : ops[i]? = some oi) (hw : wantK ops K oi.guard = some true) (hx : StepX P n w0 K HS oi emp (fun v _ => v = u)) (hf : fitsK n oi.dst = true)
    (k : RA P n w0 ops m Q f (listed.setIfInBounds i true) (putK oi.dst u K) HS) : RO P n w0 ops m Q f i listed K HS := fun inv ht a w e s => by
  unfold wpOp
  simp only [hi]
  rw [if_pos (e.wanted hw)]
  refine .inl (Oper.wp_imp (hx a w e s) (fun a' w' ⟨v, h', ha, up, ht'⟩ => ?_) (fun _ _ _ f => f.elim))
  subst ha
  subst ht'
  exact ⟨fun _ => s.same up, k inv ht _ _ (e.put _ hf) (s.same up)⟩
theorem ra_rj (order : List (Nat × Bool)) (hc : chk ops m order listed = true) (hl : f = order.length) (h : RJ P n w0 ops m Q order listed K HS) : RA P n w0 ops m Q f listed K HS := fun inv ht a w e s => by
  rw [hl]
  exact h (fun _ _ _ _ _ => inv) hc ht a w e s
end
end Go.Proofs.Ytikeobneipjfnaa
