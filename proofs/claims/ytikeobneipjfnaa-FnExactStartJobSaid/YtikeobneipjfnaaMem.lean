/-
  The laws of this claim's logic for what makes or writes memory, for calls, loops, entries and returns.
  Conditions: none; every theorem here speaks of any program.
-/
import Derived.Test.YtikeobneipjfnaaOps
namespace Go.Proofs.Ytikeobneipjfnaa
open Go.RowKit

/-! ### how a world turns -/
theorem upd_alloc (w : World) (cs : List Value) (t : TypeId) : Upd emp (box w.heap.size cs t) w (w.alloc (.cells cs.toArray t)) := by
  refine ⟨rfl, rfl, rfl, by simp, fun k hk _ => heap_alloc_old w _ hk, fun k o e => ?_, fun k o e => ?_⟩
  · simp only [box] at e
    split at e
    · rename_i hk; subst hk; cases e; exact heap_alloc_new w _
    · cases e
  · simp only [box] at e
    split at e
    · rename_i hk; right; omega
    · cases e
theorem upd_drew {h h' : PH} {w w' : World} (u : Upd h h' w.drew w') : Upd h h' w w' := ⟨u.os, u.tape, u.output, u.size, u.keep, u.le, u.dom⟩
theorem upd_setRow {w : World} {b : Nat} {cs : List Value} {t : TypeId} (l : PLe (box b cs t) (hp w)) (cs' : List Value) : Upd (box b cs t) (box b cs' t) w (w.setRow b cs'.toArray) := by
  have hb : w.heap[b]? = some (.cells cs.toArray t (0, 0)) := l b _ (by simp [box])
  refine ⟨rfl, rfl, rfl, by simp, fun k hk hn => setRow_other w b k _ (fun e => ?_), fun k o e => ?_, fun k o e => ?_⟩
  · subst e; simp [box] at hn
  · simp only [box] at e
    split at e
    · rename_i hk; subst hk; cases e; exact setRow_heap w _ _ _ t _ hb
    · cases e
  · simp only [box] at e
    split at e
    · rename_i hk; left; subst hk; simp [box]
    · cases e

section
variable {P : Program} {n : Nat} {w0 : World} {K : Env} {HS : List PH} {d : Option Tmp} {ty : TypeId} {ps : String} {af : Array Edge} {g : Option (Nat × Bool)} {Q : Exit → Act → World → Prop}

theorem stepx_run {o : Oper} {h : PH} {T : Value → PH → Prop} (H : ∀ a w, EnvOK n K a → Sat w0 HS w → ∃ v w' h', (execOp a.eval o).run P w = .ok (.value v) w' ∧ Upd h h' w w' ∧ T v h') : StepX P n w0 K HS o h T := fun a w e s => by
  obtain ⟨v, w', h', hr, u, t⟩ := H a w e s
  unfold Oper.wp
  rw [hr]
  exact ⟨v, h', rfl, u, t⟩
theorem stepx_skip {o : Oper} {h : PH} {T : Value → PH → Prop} (H : ∀ a w, EnvOK n K a → Sat w0 HS w → ∃ w' h', (execOp a.eval o).run P w = .ok .skip w' ∧ Upd h h' w w' ∧ T undef h') : StepX P n w0 K HS o h T := fun a w e s => by
  obtain ⟨w', h', hr, u, t⟩ := H a w e s
  unfold Oper.wp
  rw [hr]
  exact ⟨undef, h', rfl, u, t⟩

/-- A pointer to a new variable with these cells. -/
def NewB (cs : List Value) (t : TypeId) (v : Value) (h : PH) : Prop := ∃ b, v = .pointer (some ⟨b, 0, none⟩) ∧ h = box b cs t
theorem x_alloc {t : TypeId} {z : Value} {sz bytes : Nat} {agg : Bool} {cs : List Value} (ht : TyF P t z sz bytes agg) (hc : z.cells = cs.toArray) : StepX P n w0 K HS ⟨d, .alloc t, ty, ps, af, g⟩ emp (NewB cs t) :=
  stepx_run fun a w _ _ => ⟨_, _, _, by simp [execOp, Instr.alloc, run_zero ht, newVar, newRow, hc], upd_alloc w cs t, _, rfl, rfl⟩
theorem x_box {t : TypeId} {x : Operand} {v : Value} {cs : List Value} (hx : ev K x = some v) (hc : v.cells = cs.toArray) : StepX P n w0 K HS ⟨d, .box t x, ty, ps, af, g⟩ emp (NewB cs t) :=
  stepx_run fun a w e _ => ⟨_, _, _, by simp [execOp, Instr.box, newVar, newRow, e.ev hx, hc], upd_alloc w cs t, _, rfl, rfl⟩

theorem madeCells_toList (zs : List Value) (m : Nat) : (madeCells zs.toArray (m * zs.length)).toList = (List.replicate m zs).flatten := by
  apply List.ext_getElem?
  intro j
  simp only [madeCells, Array.toList_map, Array.toList_range, List.getElem?_map]
  by_cases hj : j < m * zs.length
  · have hpos : 0 < zs.length := by rcases Nat.eq_zero_or_pos zs.length with h | h <;> simp_all
    have hmod : j % zs.length < zs.length := Nat.mod_lt _ hpos
    have : (List.replicate m zs).flatten[j]? = zs[j % zs.length]? := by
      clear hmod
      induction m generalizing j with
      | zero => simp at hj
      | succ m ih =>
        rw [List.replicate_succ, List.flatten_cons, List.getElem?_append]
        split
        · rename_i h; rw [Nat.mod_eq_of_lt h]
        · rename_i h
          rw [Nat.add_mul] at hj
          have := ih (j - zs.length) (by omega)
          rw [this, ← Nat.mod_eq_sub_mod (by omega)]
    rw [this, List.getElem?_range hj]
    simp [hmod]
  · have h1 : (List.range (m * zs.length))[j]? = none := by rw [List.getElem?_eq_none]; simp; omega
    have h2 : (List.replicate m zs).flatten[j]? = none := by rw [List.getElem?_eq_none]; simp; omega
    rw [h1, h2]; rfl
/-- 'make([]T, m)'. -/
theorem x_make {t e' : TypeId} {x y : Operand} {z : Value} {sz bytes : Nat} {agg : Bool} {zs : List Value} {m : Int} (ht : P.underlying t = some (.slice e')) (he : TyF P e' z sz bytes agg) (hz : z.cells = zs.toArray) (hl : zs.length = sz)
    (hx : ev K x = some (.int .i64 m)) (hy : ev K y = some (.int .i64 m)) (h0 : 0 ≤ m) (h1 : bytes * m ≤ 281474976710656) (h2 : m ≤ 9223372036854775807) :
    StepX P n w0 K HS ⟨d, .makeSlice t x y, ty, ps, af, g⟩ emp (RowO e' (List.replicate m.toNat zs).flatten m.toNat sz) :=
  stepx_run fun a w e _ => by
    obtain ⟨i, hi, hz', hs, hb⟩ := he.get
    subst hs
    subst hb
    have hr := run_make (P := P) w t e' i z ht hi hz' .i64 .i64 m m h0 (Int.le_refl _) h1 h2
    have hm : madeCells z.cells (m.toNat * i.size) = ((List.replicate m.toNat zs).flatten).toArray := by
      rw [hz, ← hl, ← madeCells_toList]
    rw [hm] at hr
    refine ⟨_, _, _, by simp [execOp, e.ev hx, e.ev hy, hr]; rfl, upd_alloc w _ e', by simp [hl], .inr ⟨_, _, _, rfl, rfl, Nat.le_refl _, by unfold maxLen; omega, by simp [hl], ?_⟩⟩
    rw [List.take_of_length_le (by simp [hl])]
/-- 'make([]T, 0, m)'. -/
theorem x_make0 {t e' : TypeId} {x y : Operand} {z : Value} {sz bytes : Nat} {agg : Bool} {zs : List Value} {m : Int} (ht : P.underlying t = some (.slice e')) (he : TyF P e' z sz bytes agg) (hz : z.cells = zs.toArray) (hl : zs.length = sz)
    (hx : ev K x = some (.int .i64 0)) (hy : ev K y = some (.int .i64 m)) (h0 : 0 ≤ m) (h1 : bytes * m ≤ 281474976710656) (h2 : m ≤ 9223372036854775807) :
    StepX P n w0 K HS ⟨d, .makeSlice t x y, ty, ps, af, g⟩ emp (RowO e' [] 0 sz) :=
  stepx_run fun a w e _ => by
    obtain ⟨i, hi, hz', hs, hb⟩ := he.get
    subst hs
    subst hb
    have hr := run_make (P := P) w t e' i z ht hi hz' .i64 .i64 0 m (Int.le_refl _) h0 h1 h2
    have hm : madeCells z.cells (m.toNat * i.size) = ((List.replicate m.toNat zs).flatten).toArray := by
      rw [hz, ← hl, ← madeCells_toList]
    rw [hm] at hr
    exact ⟨.slice (some ⟨w.heap.size, 0, none⟩) 0 m.toNat, w.alloc (.cells (List.replicate m.toNat zs).flatten.toArray e'), _, by simp [execOp, e.ev hx, e.ev hy, hr], upd_alloc w _ e', by simp, .inr ⟨_, _, _, rfl, rfl, Nat.zero_le _, by unfold maxLen; omega, by simp [hl], by simp⟩⟩

/-! ### stores -/
theorem oneCell_cells {v : Value} (h : v.oneCell' = true) : v.cells = #[v] := by cases v <;> first | rfl | cases h
theorem run_storeAt {t : TypeId} {z : Value} {sz bytes : Nat} {agg : Bool} (ht : TyF P t z sz bytes agg) {b o : Nat} {v : Value} {us cs : List Value} {bt : TypeId} {w : World} (hv : v.cells = us.toArray) (hl : us.length = sz) (h1 : ∀ u ∈ us, u.oneCell' = true)
    (l : PLe (box b cs bt) (hp w)) (ho : o + us.length ≤ cs.length) : (Instr.storeAt t (.pointer (some ⟨b, o, none⟩)) v).run P w = .ok () (w.setRow b (cs.take o ++ us ++ cs.drop (o + us.length)).toArray) := by
  have hb : w.heap[b]? = some (.cells cs.toArray bt (0, 0)) := l b _ (by simp [box])
  have h := run_storeCells_at P b o bt us 0 cs.toArray w hb (by simpa using ho) h1
  simp only [Nat.add_zero] at h
  simp [Instr.storeAt, Instr.sureAddr, storeVar, run_sizeOf ht, hv, hl, h]
/-- A store into a variable of the call's own, which is the part 'box b cs bt'. -/
theorem m_store {t : TypeId} {x y : Operand} {z : Value} {sz bytes : Nat} {agg : Bool} {b o : Nat} {v : Value} {us cs : List Value} {bt : TypeId} (p : Nat) (ht : TyF P t z sz bytes agg) (hx : ev K x = some (.pointer (some ⟨b, o, none⟩))) (hy : ev K y = some v)
    (hv : v.cells = us.toArray) (hl : us.length = sz) (h1 : ∀ u ∈ us, u.oneCell' = true) (hp' : HS[p]? = some (box b cs bt)) (ho : o + us.length ≤ cs.length) :
    StepX P n w0 K HS ⟨d, .store t x y, ty, ps, af, g⟩ (box b cs bt) (fun v' h' => v' = undef ∧ h' = box b (cs.take o ++ us ++ cs.drop (o + us.length)) bt) :=
  stepx_skip fun a w e s => ⟨_, _, by simp [execOp, e.ev hx, e.ev hy, run_storeAt ht hv hl h1 (s.get p hp') ho], upd_setRow (s.get p hp') _, rfl, rfl⟩
theorem set_eq_parts {cs : List Value} {o : Nat} {v : Value} (ho : o < cs.length) : cs.take o ++ [v] ++ cs.drop (o + 1) = cs.set o v := by
  rw [List.set_eq_take_append_cons_drop, if_pos ho]
  simp
/-- One cell. -/
theorem m_store1 {t : TypeId} {x y : Operand} {z : Value} {bytes : Nat} {b o : Nat} {v : Value} {cs : List Value} {bt : TypeId} (p : Nat) (ht : TyF P t z 1 bytes false) (hx : ev K x = some (.pointer (some ⟨b, o, none⟩))) (hy : ev K y = some v)
    (h1 : v.oneCell' = true) (hp' : HS[p]? = some (box b cs bt)) (ho : o < cs.length) :
    StepX P n w0 K HS ⟨d, .store t x y, ty, ps, af, g⟩ (box b cs bt) (fun v' h' => v' = undef ∧ h' = box b (cs.set o v) bt) := by
  rw [← set_eq_parts ho]
  exact m_store p ht hx hy (us := [v]) (oneCell_cells h1) rfl (by simpa using h1) hp' (by simp; omega)
/-- A store into an element of a slice of the call's own. -/
theorem m_storeE {t e' : TypeId} {x y : Operand} {z : Value} {sz bytes : Nat} {agg : Bool} {k : Nat} {v sv : Value} {us cs : List Value} {m q : Nat} {h : PH} (p : Nat) (ht : TyF P t z sz bytes agg) (hx : ev K x = some (eltP sv k)) (hy : ev K y = some v)
    (hv : v.cells = us.toArray) (hl : us.length = sz) (h1 : ∀ u ∈ us, u.oneCell' = true) (hp' : HS[p]? = some h) (r : RowO e' cs m q sv h) (hs0 : sz ≠ 0) (hk : k + sz ≤ cs.length) :
    StepX P n w0 K HS ⟨d, .store t x y, ty, ps, af, g⟩ h (fun v' h' => v' = undef ∧ RowO e' (cs.take k ++ us ++ cs.drop (k + sz)) m q sv h') := by
  obtain ⟨hcl, hr⟩ := r
  rcases hr with ⟨rfl, rfl, rfl⟩ | ⟨gb, cap, cur, rfl, rfl, h3, h4, h5, h6⟩
  · simp at hcl; subst hcl; simp at hk; omega
  · have hmc : m * q ≤ cap * q := Nat.mul_le_mul_right _ h3
    have hx' : ev K x = some (.pointer (some ⟨gb, k, none⟩)) := by rw [hx]; simp [eltP]
    have ho : k + us.length ≤ cur.length := by omega
    have H := m_store (P := P) (n := n) (w0 := w0) (HS := HS) (d := d) (ty := ty) (ps := ps) (af := af) (g := g) (bt := e') (cs := cur) p ht hx' hy hv hl h1 hp' ho
    refine fun a w e s => Oper.wp_imp (H a w e s) (fun a' w' ⟨v', h', ha, u, hv', hh'⟩ => ⟨v', h', ha, u, hv', ?_, .inr ⟨gb, cap, _, rfl, hh', h3, h4, ?_, ?_⟩⟩) (fun _ _ _ f => f)
    · simp only [List.length_append, List.length_take, List.length_drop]; omega
    · simp only [List.length_append, List.length_take, List.length_drop]; omega
    · subst h6
      subst hl
      have e1 : List.take k (List.take (m * q) cur) = List.take k cur := by rw [List.take_take]; congr 1; omega
      rw [e1, List.take_append, List.take_append]
      simp only [List.length_append, List.length_take]
      rw [List.take_of_length_le (l := List.take k cur) (by simp; omega), List.take_of_length_le (l := us) (by omega)]
      congr 1
      rw [List.drop_take]
      congr 1
      omega

/-! ### append -/
theorem cells_at {w : World} {h : PH} (l : PLe h (hp w)) {ns : List Value} {b o : Nat} (hn : ∀ j u, ns[j]? = some u → cellP h b (o + j) = some u) : ∀ j u, ns[j]? = some u → w.cell? ((⟨b, o, none⟩ : Addr).add j) = some u := fun j u hu => by
  rw [add_at]; exact cell_of l (hn j u hu)
theorem loadCells_none (P : Program) (w : World) (a : Addr) : (loadCells a 0).run P w = .ok #[] w := rfl
/-- 'append(s, x...)' on a slice of the call's own. -/
theorem m_append {t e' : TypeId} {x y : Operand} {z : Value} {sz bytes : Nat} {agg : Bool} {zs : List Value} {cs ns : List Value} {m k : Nat} {v u : Value} {h hy' : PH} (p q : Nat) (ht : P.underlying t = some (.slice e')) (he : TyF P e' z sz bytes agg) (hz : z.cells = zs.toArray) (hl : zs.length = sz) (hs0 : sz ≠ 0)
    (hx : ev K x = some v) (hy : ev K y = some u) (hp' : HS[p]? = some h) (r : RowO e' cs m sz v h) (hq : HS[q]? = some hy') (ru : RowR ns k sz u hy') (h1 : ∀ a ∈ ns, a.oneCell' = true)
    (h63 : m + k ≤ maxLen) (h47 : (m + k) * bytes ≤ 140737488355328) :
    StepX P n w0 K HS ⟨d, .call ⟨.builtin .append, #[x, y], #[t, t]⟩, ty, ps, af, g⟩ h (RowO e' (cs ++ ns) (m + k) sz) :=
  stepx_run fun a w e s => by
    obtain ⟨i, hi, hz', hsz, hb⟩ := he.get
    subst hsz
    subst hb
    have hlen : m + k ≤ 9223372036854775807 := by unfold maxLen at h63; omega
    obtain ⟨hnl, ad, c, rfl, _, hna⟩ := ru
    have hle := s.get p hp'
    have hleq := s.get q hq
    have ex : ∀ v' w', (Builtin.append_ #[t, t] ty #[v, .slice ad k c]).run P w = .ok v' w' → (execOp a.eval ⟨d, .call ⟨.builtin .append, #[x, y], #[t, t]⟩, ty, ps, af, g⟩).run P w = .ok (.value v') w' := fun v' w' hr => by
      simp [execOp, resolve, invoke, builtin, e.ev hx, e.ev hy, hr]
    obtain ⟨hcl, hr⟩ := r
    by_cases hk : k = 0
    · subst hk
      have hns : ns = [] := List.eq_nil_of_length_eq_zero (by simpa using hnl)
      subst hns
      refine ⟨v, w, h, ex _ _ ?_, ⟨rfl, rfl, rfl, Nat.le_refl _, fun _ _ _ => rfl, hle, fun j o ho => .inl (by rw [ho]; simp)⟩, by simpa using hcl, by simpa using hr⟩
      rcases hr with ⟨rfl, rfl, rfl⟩ | ⟨gb, cap, cur, rfl, rfl, h3, h4, h5, h6⟩
      · cases ad <;> simp [Builtin.append_, run_underlying ht, sizeOf, typeInfo, hi, Builtin.lenOf, Builtin.firstCells, loadCells_none]
      · cases ad <;> simp [Builtin.append_, run_underlying ht, sizeOf, typeInfo, hi, Builtin.lenOf, Builtin.firstCells, loadCells_none, h3, storeCells]
    · have hkz : 0 < k * i.size := Nat.mul_pos (by omega) (by omega)
      obtain ⟨b, o, rfl, hcell⟩ := hna hkz
      have hnews := cells_at hleq hcell
      have hlen' : (cs ++ ns).length = (m + k) * i.size := by rw [List.length_append, hcl, hnl, Nat.add_mul]
      have fresh : ∀ (need old : Nat) (xs : List Value), xs = cs ++ ns → need = m + k → need ≤ grownCap w need old e' →
          (∃ w' h', w' = w.drew.alloc (.cells (xs ++ (Builtin.zeroCells z.cells (grownCap w need old e' - need)).toList).toArray e') ∧ Upd h h' w w' ∧ RowO e' (cs ++ ns) (m + k) i.size (.slice (some ⟨w.heap.size, 0, none⟩) need (grownCap w need old e')) h') := fun need old xs hxs hneed hge => by
        subst hxs
        subst hneed
        have u1 := upd_drew (upd_alloc w.drew (cs ++ ns ++ (Builtin.zeroCells z.cells (grownCap w (m + k) old e' - (m + k))).toList) e')
        refine ⟨_, _, rfl, ⟨u1.os, u1.tape, u1.output, u1.size, fun j hj _ => u1.keep j hj rfl, u1.le, fun j o' ho' => .inr ((u1.dom j o' ho').resolve_left (by simp [emp]))⟩, hlen', .inr ⟨_, _, _, rfl, rfl, hge, grownCap_le_maxLen w _ old e' h63, ?_, ?_⟩⟩
        · have hzs : z.cells.size = i.size := by rw [hz]; simpa using hl
          simp only [List.length_append, hcl, hnl, Array.length_toList, size_zeroCells, hzs, ← Nat.add_mul]
          congr 1
          omega
        · rw [← hlen']; exact List.take_left
      rcases hr with ⟨rfl, rfl, rfl⟩ | ⟨gb, cap, cur, rfl, rfl, h3, h4, h5, h6⟩
      · have hcs : cs = [] := List.eq_nil_of_length_eq_zero (by simpa using hcl)
        subst hcs
        have h63' : ((k : Nat) : Int) ≤ 9223372036854775807 := by omega
        have hr := run_append_nil (P := P) w t ty e' i z ht hi hz' ⟨b, o, none⟩ k c ns hnl hnews (by omega) h63' (by simp only [Nat.zero_add] at h47; omega)
        obtain ⟨w', h', hw', u1, ro⟩ := fresh k 0 ns (by simp) (by simp) (grownCap_ge w k 0 e')
        refine ⟨_, w', h', ex _ _ ?_, u1, ro⟩
        rw [hr, hw']
        congr 3
        simp
      · have hgb : w.heap[gb]? = some (.cells cur.toArray e' (0, 0)) := hle gb _ (by simp [box])
        by_cases hroom : m + k ≤ cap
        · have hfit : m * i.size + ns.length ≤ cur.toArray.size := by
            rw [hnl, ← Nat.add_mul]; simp only [List.size_toArray, h5]; exact Nat.mul_le_mul_right _ hroom
          have hr := run_append_room (P := P) w t ty e' i ht hi gb m cap cur.toArray hgb ⟨b, o, none⟩ k c ns hnl hnews h1 hroom hfit
          refine ⟨_, _, _, ex _ _ hr, upd_setRow hle _, hlen', .inr ⟨gb, cap, _, rfl, rfl, hroom, h4, ?_, ?_⟩⟩
          · simp only [List.length_append, List.length_take, List.length_drop]
            simp only [List.size_toArray] at hfit
            omega
          · show List.take ((m + k) * i.size) (List.take (m * i.size) cur ++ ns ++ List.drop (m * i.size + ns.length) cur) = cs ++ ns
            rw [h6, ← hlen']
            exact List.take_left
        · have holds : ∀ j u, cs[j]? = some u → w.cell? ((⟨gb, 0, none⟩ : Addr).add j) = some u := fun j u hu => by
            rw [add_at, Nat.zero_add]
            refine cell_of hle ?_
            rw [cellP_box]
            rw [← h6, List.getElem?_take] at hu
            split at hu
            · exact hu
            · cases hu
          have hr := run_append_grow (P := P) w t ty e' i z ht hi hz' ⟨gb, 0, none⟩ m cap cs hcl holds ⟨b, o, none⟩ k c ns hnl hnews (by omega) (by omega) (growslice_fits (by omega) h47)
          obtain ⟨w', h', hw', u1, ro⟩ := fresh (m + k) cap (cs ++ ns) rfl rfl (grownCap_ge w (m + k) cap e')
          refine ⟨_, w', h', ex _ _ ?_, u1, ro⟩
          rw [hr, hw']
          congr 3
          simp

/-! ### calls -/
structure EnterOK (P : Program) (f : FuncId) : Prop where
  ok : ∃ fn, P.funcs[f]? = some fn ∧ (fn.name == "runtime.NumGoroutine") = false ∧ fn.body.isNone = false
theorem x_call {f : FuncId} {xs : Array Operand} {tys : Array TypeId} {vs : List Value} {h : PH} {T : Value → PH → Prop} (hev : evs K xs.toList = some vs) (hen : EnterOK P f)
    (hc : ∀ w, Sat w0 HS w → Calls P f vs.toArray w (Ret w h T)) : StepX P n w0 K HS ⟨d, .call ⟨.value (.func f), xs, tys⟩, ty, ps, af, g⟩ h T := fun a w e s => by
  obtain ⟨fn, h1, h2, h3⟩ := hen.ok
  have hargs : xs.map a.eval = vs.toArray := by
    apply Array.ext'
    simpa using e.evs hev
  have hr : (execOp a.eval ⟨d, .call ⟨.value (.func f), xs, tys⟩, ty, ps, af, g⟩).run P w = .ok (.enter f vs.toArray) w := by
    have h2' : ¬ fn.name = "runtime.NumGoroutine" := by simpa using h2
    have h3' : ¬ fn.body = none := fun hh => by rw [hh] at h3; cases h3
    simp [execOp, resolve, invoke, hargs, Act.eval, Deferred.ofValue, callFunc, h1, h2', h3']
  unfold Oper.wp
  rw [hr]
  refine (hc w s).mono fun en w' ⟨v, h', he, u, t⟩ => ?_
  subst he
  exact ⟨v, h', rfl, u, t⟩
theorem RetV.ret {w : World} {u : Value} {e : Ending} {w' : World} (h : RetV w u e w') : Ret w emp (fun v _ => v = u) e w' := ⟨u, emp, h.1, h.2, rfl⟩
/-- A call whose answer is known. -/
theorem x_callv {f : FuncId} {xs : Array Operand} {tys : Array TypeId} {vs : List Value} {u : Value} (hev : evs K xs.toList = some vs) (hen : EnterOK P f)
    (hc : ∀ w, Sat w0 HS w → Calls P f vs.toArray w (RetV w u)) : StepX P n w0 K HS ⟨d, .call ⟨.value (.func f), xs, tys⟩, ty, ps, af, g⟩ emp (fun v _ => v = u) :=
  x_call hev hen fun w s => (hc w s).mono fun _ _ h => h.ret

/-! ### entries, returns, loops -/
def enumK : Nat → List Value → Env
  | _, [] => []
  | i, v :: r => (i, v) :: enumK (i + 1) r
theorem enumK_lookup : ∀ (vs : List Value) (i t : Nat) (v : Value), (enumK i vs).lookup t = some v → i ≤ t ∧ vs[t - i]? = some v
  | [], i, t, v, h => by simp [enumK] at h
  | u :: r, i, t, v, h => by
    rw [enumK, lookup_cons] at h
    split at h
    · rename_i e; subst e; cases h; simp
    · rename_i e
      obtain ⟨h1, h2⟩ := enumK_lookup r (i + 1) t v h
      refine ⟨by omega, ?_⟩
      rw [show t - i = (t - (i + 1)) + 1 by omega]
      simpa using h2
theorem calls_in {f : FuncId} {fn : Func} {c : Code} {vs : List Value} {w : World} {R : Ending → World → Prop} {HS : List PH} (hf : P.funcs[f]? = some fn) (hb : fn.body = some c) (hn : fn.ntmps = n) (hl : Nat.ble vs.length n = true)
    (s : Sat w HS w) (h : WP P n w c (bodyPost P fn R) (enumK 0 vs) HS) : Calls P f vs.toArray w R := by
  have hl := Nat.le_of_ble_eq_true hl
  refine calls_of_wp hf hb (h _ w ⟨rfl, ?_, fun t v ht => ?_⟩ s)
  · simp [hn]; omega
  · have h2 := (enumK_lookup vs 0 t v ht).2
    have hlt : t < vs.length := (List.getElem?_eq_some_iff.1 (by simpa using h2)).1
    rw [Array.getElem?_append_left (by simpa using hlt)]
    simpa using h2
theorem qs_ret1 {fn : Func} {R : Ending → World → Prop} {t : Tmp} {v : Value} (hr : fn.results = #[.tmp t]) (hk : K.lookup t = some v) (h : ∀ w, Sat w0 HS w → R (.returned v) w) : QS n w0 (bodyPost P fn R) .ret K HS := fun a w e s => by
  refine bodyPost_ret (v := v) ?_ e.1 (h w s)
  rw [results_tmp hr]
  simp [e.2.2 t v hk]
theorem qs_ret2 {fn : Func} {R : Ending → World → Prop} {t u : Tmp} {v v' : Value} (hr : fn.results = #[.tmp t, .tmp u]) (hk : K.lookup t = some v) (hk' : K.lookup u = some v') (h : ∀ w, Sat w0 HS w → R (.returned (.tuple #[v, v'])) w) : QS n w0 (bodyPost P fn R) .ret K HS := fun a w e s => by
  refine bodyPost_ret (v := .tuple #[v, v']) ?_ e.1 (h w s)
  rw [results_tmp2 hr]
  simp [e.2.2 t v hk, e.2.2 u v' hk']
theorem qs_ret3 {fn : Func} {R : Ending → World → Prop} {t u x : Tmp} {v v' v'' : Value} (hr : fn.results = #[.tmp t, .tmp u, .tmp x]) (hk : K.lookup t = some v) (hk' : K.lookup u = some v') (hk'' : K.lookup x = some v'') (h : ∀ w, Sat w0 HS w → R (.returned (.tuple #[v, v', v''])) w) : QS n w0 (bodyPost P fn R) .ret K HS := fun a w e s => by
  refine bodyPost_ret (v := .tuple #[v, v', v'']) ?_ e.1 (h w s)
  simp [results, hr, e.2.2 t v hk, e.2.2 u v' hk', e.2.2 x v'' hk'']
theorem run_loadVarB {t : TypeId} {z : Value} {sz bytes : Nat} (ht : TyF P t z sz bytes true) {b p : Nat} {us : List Value} {bt : TypeId} {w : World} (s : Sat w0 HS w) (hp' : HS[p]? = some (box b us bt)) (hl : us.length = sz) : (loadVar t ⟨b, 0, none⟩).run P w = .ok (.agg us.toArray) w := by
  have := run_loadN (P := P) ht (b := b) (o := 0) (cs := us) (w := w) hl (fun j v hv => cell_of (s.get p hp') (by rw [cellP_box, Nat.zero_add]; exact hv))
  simpa [Instr.loadAt, Instr.sureAddr] using this
/-- One result, which lies in a variable of the call's own. -/
theorem qs_retc {fn : Func} {R : Ending → World → Prop} {t : Tmp} {rt : TypeId} {z : Value} {sz bytes b : Nat} {us : List Value} {bt : TypeId} (p : Nat) (hr : fn.results = #[.cell t rt]) (ht : TyF P rt z sz bytes true) (hk : K.lookup t = some (.pointer (some ⟨b, 0, none⟩))) (hp' : HS[p]? = some (box b us bt)) (hl : us.length = sz)
    (h : ∀ w, Sat w0 HS w → R (.returned (.agg us.toArray)) w) : QS n w0 (bodyPost P fn R) .ret K HS := fun a w e s => by
  refine bodyPost_ret (v := .agg us.toArray) ?_ e.1 (h w s)
  simp [results, hr, e.2.2 t _ hk, asAddr, run_loadVarB ht s hp' hl]
theorem qs_retct {fn : Func} {R : Ending → World → Prop} {t u : Tmp} {v : Value} {rt : TypeId} {z : Value} {sz bytes b : Nat} {us : List Value} {bt : TypeId} (p : Nat) (hr : fn.results = #[.cell t rt, .tmp u]) (ht : TyF P rt z sz bytes true) (hk : K.lookup t = some (.pointer (some ⟨b, 0, none⟩))) (hk' : K.lookup u = some v) (hp' : HS[p]? = some (box b us bt)) (hl : us.length = sz)
    (h : ∀ w, Sat w0 HS w → R (.returned (.tuple #[.agg us.toArray, v])) w) : QS n w0 (bodyPost P fn R) .ret K HS := fun a w e s => by
  refine bodyPost_ret (v := .tuple #[.agg us.toArray, v]) ?_ e.1 (h w s)
  simp [results, hr, e.2.2 t _ hk, e.2.2 u v hk', asAddr, run_loadVarB ht s hp' hl]
theorem qs_ret0 {fn : Func} {R : Ending → World → Prop} (hr : fn.results = #[]) (h : ∀ w, Sat w0 HS w → R (.returned (.tuple #[])) w) : QS n w0 (bodyPost P fn R) .normal K HS := fun _ w e s => bodyPost_end (results_none hr _ _ _) e.1 (h w s)
theorem qs_ret0r {fn : Func} {R : Ending → World → Prop} (hr : fn.results = #[]) (h : ∀ w, Sat w0 HS w → R (.returned (.tuple #[])) w) : QS n w0 (bodyPost P fn R) .ret K HS := fun _ w e s => bodyPost_ret (results_none hr _ _ _) e.1 (h w s)

/-- Behind the call nothing that was there has turned. -/
theorem Sat.updE {w : World} (s : Sat w0 HS w) {i : Nat} (hi : HS[i]? = some (hp w0)) {hn : PH} (hj : hn = emp ∨ ∃ j, HS[j]? = some hn ∧ j ≠ i) : Upd emp hn w0 w := by
  refine ⟨s.os, s.tape, s.output, s.size, fun k hk _ => ?_, ?_, fun k o ho => .inr ?_⟩
  · have h1 : hp w0 k = some w0.heap[k] := by simp [hp, hk]
    have h2 := s.get i hi k _ h1
    have h3 : w0.heap[k]? = some w0.heap[k] := by simp [hk]
    rw [h3]; exact h2
  · rcases hj with rfl | ⟨j, hj, _⟩
    · exact PLe.emp _
    · exact s.get j hj
  · rcases hj with rfl | ⟨j, hj, hne⟩
    · cases ho
    · rcases sepL_get s.sep hj hi hne k with h1 | h1
      · rw [h1] at ho; cases ho
      · simp only [hp, Array.getElem?_eq_none_iff] at h1
        exact h1
theorem fin_v {i : Nat} {u : Value} (hi : HS[i]? = some (hp w0)) : ∀ w, Sat w0 HS w → RetV w0 u (.returned u) w := fun _ s => ⟨rfl, s.updE hi (.inl rfl)⟩
theorem fin_q {i : Nat} {u u' : Value} (hi : HS[i]? = some (hp w0)) (e : u' = u) : ∀ w, Sat w0 HS w → RetV w0 u (.returned u') w := e ▸ fin_v hi
theorem fin_t {i : Nat} (j : Nat) {hn : PH} {u : Value} {T : Value → PH → Prop} (hi : HS[i]? = some (hp w0)) (hj : HS[j]? = some hn) (hne : decide (j ≠ i) = true) (t : T u hn) : ∀ w, Sat w0 HS w → Ret w0 emp T (.returned u) w := fun _ s => ⟨u, hn, rfl, s.updE hi (.inr ⟨j, hj, of_decide_eq_true hne⟩), t⟩
theorem fin_e {i : Nat} {u : Value} {T : Value → PH → Prop} (hi : HS[i]? = some (hp w0)) (t : T u emp) : ∀ w, Sat w0 HS w → Ret w0 emp T (.returned u) w := fun _ s => ⟨u, emp, rfl, s.updE hi (.inl rfl), t⟩

/-- What stands besides a part. -/
def restP (w : World) (h : PH) : PH := fun k => match h k with | some _ => none | none => hp w k
theorem Sat.start2 {w : World} {h : PH} (l : PLe h (hp w)) : Sat w [h, restP w h] w := by
  refine ⟨rfl, rfl, rfl, Nat.le_refl _, ⟨fun x hx k => ?_, ⟨by simp, trivial⟩⟩, fun x hx => ?_⟩
  · simp only [List.mem_singleton] at hx
    subst hx
    unfold restP
    cases h k <;> simp
  · simp only [List.mem_cons, List.not_mem_nil, or_false] at hx
    rcases hx with rfl | rfl
    · exact l
    · intro k o e
      unfold restP at e
      split at e
      · cases e
      · exact e
theorem Sat.updM {w : World} {h : PH} (s : Sat w0 HS w) {i : Nat} (hi : HS[i]? = some (restP w0 h)) {h' : PH} {j : Nat} (hj : HS[j]? = some h') (hne : j ≠ i) : Upd h h' w0 w := by
  refine ⟨s.os, s.tape, s.output, s.size, fun k hk hn => ?_, s.get j hj, fun k o ho => ?_⟩
  · have h1 : restP w0 h k = some w0.heap[k] := by simp [restP, hn, hp, hk]
    have h2 := s.get i hi k _ h1
    have h3 : w0.heap[k]? = some w0.heap[k] := by simp [hk]
    rw [h3]; exact h2
  · rcases sepL_get s.sep hj hi hne k with h1 | h1
    · rw [h1] at ho; cases ho
    · unfold restP at h1
      split at h1
      · rename_i x hx; left; rw [hx]; simp
      · right; simpa [hp] using h1
theorem fin_m {i : Nat} (j : Nat) {h h' : PH} {u : Value} {T : Value → PH → Prop} (hi : HS[i]? = some (restP w0 h)) (hj : HS[j]? = some h') (hne : decide (j ≠ i) = true) (t : T u h') : ∀ w, Sat w0 HS w → Ret w0 h T (.returned u) w := fun _ s => ⟨u, h', rfl, s.updM hi hj (of_decide_eq_true hne), t⟩

/-- The slots of 'K'' hold in 'K'. -/
def SubK (K : Env) : Env → Prop
  | [] => True
  | (t, v) :: r => K.lookup t = some v ∧ SubK K r
theorem SubK.lookup {K : Env} : ∀ {K' : Env}, SubK K K' → ∀ t v, K'.lookup t = some v → K.lookup t = some v
  | [], _, t, v, h => by simp at h
  | (t', v') :: r, hs, t, v, h => by
    rw [lookup_cons] at h
    split at h
    · rename_i e; subst e; cases h; exact hs.1
    · exact SubK.lookup hs.2 t v h
theorem EnvOK.sub {K' : Env} {a : Act} (e : EnvOK n K a) (h : SubK K K') : EnvOK n K' a := ⟨e.1, e.2.1, fun t v ht => e.2.2 t v (h.lookup t v ht)⟩
theorem wp_k {c : Code} (K' : Env) (h : SubK K K') (k : WP P n w0 c Q K' HS) : WP P n w0 c Q K HS := fun a w e s => k a w (e.sub h) s
theorem wp_s {c : Code} (HS' : List PH) (h : ∀ w, Sat w0 HS w → Sat w0 HS' w) (k : WP P n w0 c Q K HS') : WP P n w0 c Q K HS := fun a w e s => k a w e (h w s)
theorem qs_s {e : Exit} (HS' : List PH) (h : ∀ w, Sat w0 HS w → Sat w0 HS' w) (k : QS n w0 Q e K HS') : QS n w0 Q e K HS := fun a w en s => k a w en (h w s)
theorem sq_s' {ops : Array Oper} {rest : List Oper} (HS' : List PH) (h : ∀ w, Sat w0 HS w → Sat w0 HS' w) (k : SQ P n w0 ops rest Q K HS') : SQ P n w0 ops rest Q K HS := fun a w e s => k a w e (h w s)

def Back {σ : Type} (n : Nat) (w0 : World) (Kf : σ → Env) (Hf : σ → List PH) (φ : σ → Prop) (μ : σ → Nat) (b : Nat) : Act → World → Prop :=
  fun a w => ∃ s, φ s ∧ μ s < b ∧ EnvOK n (Kf s) a ∧ Sat w0 (Hf s) w
theorem wp_lp {σ : Type} {c : Code} (Kf : σ → Env) (Hf : σ → List PH) (φ : σ → Prop) (μ : σ → Nat) (s0 : σ) (h0 : φ s0) (hk : SubK K (Kf s0)) (hs : ∀ w, Sat w0 HS w → Sat w0 (Hf s0) w)
    (round : ∀ s, φ s → WP P n w0 c (Exit.then (Back n w0 Kf Hf φ μ (μ s)) Q) (Kf s) (Hf s)) : WP P n w0 (.loop c) Q K HS := fun a w e s => by
  refine wp_loop_ghost (fun b a w => ∃ st, μ st = b ∧ φ st ∧ EnvOK n (Kf st) a ∧ Sat w0 (Hf st) w) (μ s0) ⟨s0, rfl, h0, e.sub hk, hs w s⟩ ?_
  rintro b a w ⟨st, rfl, h1, h2, h3⟩
  refine Code.wp_mono (fun en a' w' q => ?_) (round st h1 a w h2 h3)
  cases en with
  | normal => obtain ⟨st', g1, g2, g3, g4⟩ := q; exact ⟨μ st', g2, st', rfl, g1, g3, g4⟩
  | exit id => exact q
  | goto l => exact q
  | ret => exact q
  | panic ch => exact q
  | outgrown => exact q
/-- The round's end. -/
theorem qs_bk {σ : Type} {Kf : σ → Env} {Hf : σ → List PH} {φ : σ → Prop} {μ : σ → Nat} {b : Nat} (s : σ) (h0 : φ s) (hm : μ s < b) (hk : SubK K (Kf s)) (hs : ∀ w, Sat w0 HS w → Sat w0 (Hf s) w) :
    QS n w0 (Exit.then (Back n w0 Kf Hf φ μ b) Q) .normal K HS := fun _ w e st => ⟨s, h0, hm, e.sub hk, hs w st⟩

/-! ### parting on a slot's bool -/
theorem EnvOK.shadow {a : Act} {t : Tmp} {v : Value} (e : EnvOK n K a) (hk : K.lookup t = some v) : EnvOK n ((t, v) :: K) a := ⟨e.1, e.2.1, fun u x hu => by
  rw [lookup_cons] at hu
  split at hu
  · rename_i h; subst h; cases hu; exact e.2.2 _ _ hk
  · exact e.2.2 _ _ hu⟩
theorem sq_bd {ops : Array Oper} {rest : List Oper} {p : Prop} [Decidable p] (t : Tmp) (hk : K.lookup t = some (.bool (decide p))) (h1 : p → SQ P n w0 ops rest Q ((t, .bool true) :: K) HS) (h2 : ¬ p → SQ P n w0 ops rest Q ((t, .bool false) :: K) HS) : SQ P n w0 ops rest Q K HS := fun a w e s => by
  by_cases hp : p
  · exact h1 hp a w (e.shadow (by rw [hk]; simp [hp])) s
  · exact h2 hp a w (e.shadow (by rw [hk]; simp [hp])) s
theorem sq_bb {ops : Array Oper} {rest : List Oper} {b : Bool} (t : Tmp) (hk : K.lookup t = some (.bool b)) (h1 : b = true → SQ P n w0 ops rest Q ((t, .bool true) :: K) HS) (h2 : b = false → SQ P n w0 ops rest Q ((t, .bool false) :: K) HS) : SQ P n w0 ops rest Q K HS := fun a w e s => by
  cases b
  · exact h2 rfl a w (e.shadow hk) s
  · exact h1 rfl a w (e.shadow hk) s
theorem rj_bd {ops : Array Oper} {m : Nat} {r : List (Nat × Bool)} {listed : Array Bool} {p : Prop} [Decidable p] (t : Tmp) (hk : K.lookup t = some (.bool (decide p))) (h1 : p → RJ P n w0 ops m Q r listed ((t, .bool true) :: K) HS) (h2 : ¬ p → RJ P n w0 ops m Q r listed ((t, .bool false) :: K) HS) : RJ P n w0 ops m Q r listed K HS := fun x y z a w e s => by
  by_cases hp : p
  · exact h1 hp x y z a w (e.shadow (by rw [hk]; simp [hp])) s
  · exact h2 hp x y z a w (e.shadow (by rw [hk]; simp [hp])) s
theorem rj_bb {ops : Array Oper} {m : Nat} {r : List (Nat × Bool)} {listed : Array Bool} {b : Bool} (t : Tmp) (hk : K.lookup t = some (.bool b)) (h1 : b = true → RJ P n w0 ops m Q r listed ((t, .bool true) :: K) HS) (h2 : b = false → RJ P n w0 ops m Q r listed ((t, .bool false) :: K) HS) : RJ P n w0 ops m Q r listed K HS := fun x y z a w e s => by
  cases b
  · exact h2 rfl x y z a w (e.shadow hk) s
  · exact h1 rfl x y z a w (e.shadow hk) s
theorem wp_cSd {t : Tmp} {x y : Code} {p : Prop} [Decidable p] (hk : K.lookup t = some (.bool (decide p))) (h1 : p → WP P n w0 x Q ((t, .bool true) :: K) HS) (h2 : ¬ p → WP P n w0 y Q ((t, .bool false) :: K) HS) : WP P n w0 (.cond (.tmp t) x y) Q K HS := fun a w e s => by
  by_cases hp : p
  · exact wp_ct (K := (t, .bool true) :: K) (by simp [ev]) (h1 hp) a w (e.shadow (by rw [hk]; simp [hp])) s
  · exact wp_cf (K := (t, .bool false) :: K) (by simp [ev]) (h2 hp) a w (e.shadow (by rw [hk]; simp [hp])) s
theorem wp_cSb {t : Tmp} {x y : Code} (b : Bool) (hk : K.lookup t = some (.bool b)) (h1 : b = true → WP P n w0 x Q ((t, .bool true) :: K) HS) (h2 : b = false → WP P n w0 y Q ((t, .bool false) :: K) HS) : WP P n w0 (.cond (.tmp t) x y) Q K HS := fun a w e s => by
  cases b
  · exact wp_cf (K := (t, .bool false) :: K) (by simp [ev]) (h2 rfl) a w (e.shadow hk) s
  · exact wp_ct (K := (t, .bool true) :: K) (by simp [ev]) (h1 rfl) a w (e.shadow hk) s
theorem wp_cSn {t : Tmp} {x y : Code} (b : Bool) (hk : K.lookup t = some (.bool (!b))) (h1 : b = false → WP P n w0 x Q ((t, .bool true) :: K) HS) (h2 : b = true → WP P n w0 y Q ((t, .bool false) :: K) HS) : WP P n w0 (.cond (.tmp t) x y) Q K HS :=
  wp_cSb _ hk (fun h => h1 (by simpa using h)) (fun h => h2 (by simpa using h))
theorem wp_cSnd {t : Tmp} {x y : Code} {p : Prop} [Decidable p] (hk : K.lookup t = some (.bool (!decide p))) (h1 : ¬ p → WP P n w0 x Q ((t, .bool true) :: K) HS) (h2 : p → WP P n w0 y Q ((t, .bool false) :: K) HS) : WP P n w0 (.cond (.tmp t) x y) Q K HS :=
  wp_cSb _ hk (fun h => h1 (by simpa using h)) (fun h => h2 (by simpa using h))
theorem wp_cn {c : Operand} {x y : Code} (b : Bool) (hc : ev K c = some (.bool (!b))) (h1 : b = false → WP P n w0 x Q K HS) (h2 : b = true → WP P n w0 y Q K HS) : WP P n w0 (.cond c x y) Q K HS :=
  wp_cb _ hc (fun h => h1 (by simpa using h)) (fun h => h2 (by simpa using h))
theorem wp_cnd {c : Operand} {x y : Code} {p : Prop} [Decidable p] (hc : ev K c = some (.bool (!decide p))) (h1 : ¬ p → WP P n w0 x Q K HS) (h2 : p → WP P n w0 y Q K HS) : WP P n w0 (.cond c x y) Q K HS :=
  wp_cb _ hc (fun h => h1 (by simpa using h)) (fun h => h2 (by simpa using h))
end
end Go.Proofs.Ytikeobneipjfnaa
