/-
  Parts of the proof of FnExactDecompositionOf: laws of heaps, contracts of functions.
  Conditions: none.
-/
import Derived.Test.YthlmjnihihbckaaQDecompositionOf2
namespace Go.Proofs.Ythlmjnihihbckaa
set_option maxRecDepth 100000
open Go.RowKit

/-- From k on, each number of the lists is one more than the number before it; the next would be k'. -/
def HeldL : Int → List (List Int) → Int → Prop
  | k, [], k' => k = k'
  | k, xs :: r, k' => xs = iota k xs.length ∧ HeldL (k + xs.length) r k'
theorem HeldL.le : ∀ {xss : List (List Int)} {k k' : Int}, HeldL k xss k' → k ≤ k'
  | [], k, k', h => by have : k = k' := h; omega
  | xs :: r, k, k', h => by have := HeldL.le h.2; omega
theorem HeldL.append : ∀ {xss yss : List (List Int)} {k k1 k' : Int}, HeldL k xss k1 → HeldL k1 yss k' → HeldL k (xss ++ yss) k'
  | [], yss, k, k1, k', h, g => by have : k = k1 := h; subst this; exact g
  | xs :: r, yss, k, k1, k', h, g => ⟨h.1, HeldL.append h.2 g⟩
theorem iota_held (k : Int) (m : Nat) : iota k m = iota k (iota k m).length := by rw [iota_len]
theorem held_three (q : Int) (m1 m2 m3 : Nat) {e : Int} (he : e = q + m1 + m2 + m3) : HeldL q [iota q m1, iota (q + m1) m2, iota (q + m1 + m2) m3] e := by
  refine ⟨iota_held _ _, by simp only [iota_len], by simp only [iota_len], ?_⟩; simp only [iota_len]
  show _ = _
  exact he.symm
theorem flat_cons (t : Ten) (r : List Ten) : flat (t :: r) = t.l :: t.d :: t.x :: flat r := rfl
theorem flat_set3 {A B : List Ten} {t : Ten} {i : Nat} (hA : A.length = i) (l d x : List Int) : (((flat (A ++ t :: B)).set (i * 3) l).set (i * 3 + 1) d).set (i * 3 + 2) x = flat (A ++ ⟨l, d, x⟩ :: B) := by
  have hl : (flat A).length = i * 3 := by rw [flat_len, hA]
  rw [flat_append, flat_append, flat_cons, flat_cons, List.set_append_right _ _ (by omega), List.set_append_right _ _ (by omega), List.set_append_right _ _ (by omega), hl]; have e1 : i * 3 - i * 3 = 0 := by omega
  have e2 : i * 3 + 1 - i * 3 = 1 := by omega
  have e3 : i * 3 + 2 - i * 3 = 2 := by omega
  rw [e1, e2, e3]
  rfl
theorem ct_l_markTensorS (ts : List Ten) (v : Value) (k : Int) (w : World) (h : PH) (hle : PLe h (hp w)) (r : TensO ts v h) (hk : 0 ≤ k ∧ k + tensSize ts ≤ 4611686018427387904) :
    Calls Try.prog 22 [v, num k].toArray w (Ret w h (fun u h' => u = num (k + tensSize ts) ∧ ∃ ts', TensO ts' v h' ∧ HeldL k (flat ts') (k + tensSize ts))) := by
  obtain ⟨vs, h0, hs, r0, ow, md⟩ := r; have hx : (ts.length : Int) ≤ 9223372036854775807 := by obtain ⟨_, _, _, _, ⟨h, _⟩, _⟩ := r0.toR; unfold maxLen at h; omega
  refine calls_in Try.func22 rfl Try.ntmps22 rfl (Sat.start2 hle) (wp_sc (wp_sq (sq_v rfl (v_assign rfl) rfl (sq_end (qs_n (wp_sc (wp_sc (wp_sq (sq_v rfl (v_assign rfl) rfl (sq_end (qs_n (wp_bl ?_)))))))))))); refine wp_lp (fun s : Nat × List Ten × List PH => [(0, v), (1, num (k + tensSize (ts.take s.1))), (5, num s.1)]) (fun s => restP w h :: h0 :: s.2.2) (fun s => s.1 ≤ ts.length ∧ s.2.1.length = s.1 ∧ OwnL (flat (s.2.1 ++ ts.drop s.1)) vs s.2.2 ∧ HeldL k (flat s.2.1) (k + tensSize (ts.take s.1))) (fun s => ts.length - s.1) (0, [], hs) ⟨by omega, rfl, ow, by simp [flat, HeldL, tensSize]⟩ ⟨rfl, by show _ = some (num (k + 0)); rw [Int.add_zero]; rfl, rfl, trivial⟩ (fun _ s => Sat.open (A := [restP w h]) md s) ?_; rintro ⟨i, A, hs'⟩ ⟨hi, hA, ow', hh⟩; dsimp only at hi hA ow' hh ⊢; refine wp_sc (wp_sc (wp_sq (sq_v rfl (v_move rfl) rfl (sq_v rfl (v_move rfl) rfl (sq_v rfl (v_len Try.underlying37 rfl r0.toR.sl) rfl (sq_v rfl (v_lss rfl rfl) rfl (sq_end (qs_n ?_)))))))); refine wp_cd rfl (fun c9 => ?_) (fun c9 => ?_)
  · refine wp_sk (qs_n (wp_sc (wp_bl (wp_sc (wp_sq (sq_v rfl (v_move rfl) rfl (sq_v rfl (v_move rfl) rfl ?_))))))); obtain ⟨t, ht⟩ : ∃ t, ts[i]? = some t := ⟨_, List.getElem?_eq_getElem (by omega)⟩; rw [drop_at ht] at ow'; obtain ⟨f1, f2, f3⟩ := tens_get (ts := A ++ t :: ts.drop (i + 1)) (i := i) (t := t) (by rw [← hA]; simp); obtain ⟨a, h1, e1, g1, o1⟩ := ow'.own _ _ f1; obtain ⟨b, h2, e2, g2, o2⟩ := ow'.own _ _ f2; obtain ⟨c, h3, e3, g3, o3⟩ := ow'.own _ _ f3; have hst := tensSize_step ht; have htk := tensSize_take ts (i + 1); have hnd := tensSize_nn (ts.drop (i + 1)); have hnn := tensSize_nn (ts.take i); have hts : tenSize t = t.l.length + t.d.length + t.x.length := rfl; have hvl := r0.1; refine sq_v rfl (v_indexAddr Try.underlying37 ty_77 rfl rfl r0.toR (by decide) (by omega) (by omega)) rfl ?_; refine sq_v rfl (v_fieldAddrE fd_77_0 ty_25 (by decide) rfl r0.toR (by simp only [Int.toNat_natCast]; omega)) rfl ?_; refine sq_v rfl (v_loadE 1 ty_25 rfl rfl r0.toR e1) rfl (sq_v rfl (v_move rfl) rfl ?_); refine sq_mT (A := [restP w h, h0]) (i * 3) (2 + i * 3) rfl rfl g1 (fun hp' => x_call rfl en_29 (fun w' s => ct_l_markIntS _ _ _ w' _ (s.get _ hp') o1 (by omega))) rfl ?_; rintro _ h18 ⟨rfl, o18⟩; refine sq_v rfl (v_assign rfl) rfl (sq_end (qs_n (wp_sc (wp_sq (sq_v rfl (v_move rfl) rfl (sq_v rfl (v_move rfl) rfl (sq_v rfl (v_indexAddr Try.underlying37 ty_77 rfl rfl r0.toR (by decide) (by omega) (by omega)) rfl ?_))))))); refine sq_v rfl (v_fieldAddrE fd_77_1 ty_25 (by decide) rfl r0.toR (by simp only [Int.toNat_natCast]; omega)) rfl ?_; refine sq_v rfl (v_loadE 1 ty_25 rfl rfl r0.toR e2) rfl (sq_v rfl (v_move rfl) rfl ?_); refine sq_mT (A := [restP w h, h0]) (i * 3 + 1) (2 + (i * 3 + 1)) rfl rfl (by rw [List.getElem?_set_ne (by omega)]; exact g2) (fun hp' => x_call rfl en_29 (fun w' s => ct_l_markIntS _ _ _ w' _ (s.get _ hp') o2 (by omega))) rfl ?_; rintro _ h25 ⟨rfl, o25⟩; refine sq_v rfl (v_assign rfl) rfl (sq_end (qs_n (wp_sq (sq_v rfl (v_move rfl) rfl (sq_v rfl (v_move rfl) rfl (sq_v rfl (v_indexAddr Try.underlying37 ty_77 rfl rfl r0.toR (by decide) (by omega) (by omega)) rfl ?_)))))); refine sq_v rfl (v_fieldAddrE fd_77_2 ty_25 (by decide) rfl r0.toR (by simp only [Int.toNat_natCast]; omega)) rfl ?_; refine sq_v rfl (v_loadE 1 ty_25 rfl rfl r0.toR e3) rfl (sq_v rfl (v_move rfl) rfl ?_); refine sq_mT (A := [restP w h, h0]) (i * 3 + 2) (2 + (i * 3 + 2)) rfl rfl (by rw [List.getElem?_set_ne (by omega), List.getElem?_set_ne (by omega)]; exact g3) (fun hp' => x_call rfl en_29 (fun w' s => ct_l_markIntS _ _ _ w' _ (s.get _ hp') o3 (by omega))) rfl ?_; rintro _ h32 ⟨rfl, o32⟩; refine sq_v rfl (v_assign rfl) rfl (sq_end (qs_bn (qs_n (wp_sq (sq_v rfl (v_move rfl) rfl ?_))))); refine sq_v rfl (v_add rfl rfl ((by unfold I64; omega))) rfl ?_; refine sq_v rfl (v_assign rfl) rfl (sq_end ?_); have ow3 := ((ow'.set e1 o18).set e2 o25).set e3 o32; rw [flat_set3 hA] at ow3; refine qs_bk (i + 1, A ++ [_], ((hs'.set (i * 3) h18).set (i * 3 + 1) h25).set (i * 3 + 2) h32) ⟨by simp only; omega, by simp [hA], by simp only; rw [List.append_assoc]; exact ow3, ?_⟩ (by simp only; omega) ⟨rfl, by rw [hst, hts, ← Int.add_assoc, ← Int.add_assoc, ← Int.add_assoc]; rfl, rfl, trivial⟩ (fun _ s => s)
    simp only
    rw [flat_append, hst, hts]; exact hh.append (held_three _ _ _ _ (by omega))
  · refine wp_ex (qs_x (qs_x (qs_bx (qs_n (wp_sc (wp_sq (sq_v rfl (v_move rfl) rfl (sq_v rfl (v_assign rfl) rfl (sq_end (qs_n (wp_rt ?_))))))))))); have e : i = ts.length := by omega
    subst e; rw [List.drop_length, List.append_nil] at ow'; rw [List.take_length] at hh; refine qs_close [restP w h] (h0 :: hs') (fun _ s => s) (fun md' => ?_); exact qs_ret1 rfl rfl (fin_m (i := 1) 0 rfl rfl rfl ⟨by rw [List.take_length], A, ⟨vs, h0, hs', by rw [hA]; exact r0, ow', md'⟩, hh⟩)
theorem ct_l_markNetwork (kd p n : Int) (ts : List Ten) (op : List Int) (vt vo : Value) (k : Int) (w : World) (h : PH) (hle : PLe h (hp w)) (r : NetO ts op vt vo h) (hk : 0 ≤ k ∧ k + tensSize ts + op.length ≤ 4611686018427387904) :
    Calls Try.prog 15 [netV kd p n vt vo, num k].toArray w (Ret w h (fun u h' => u = num (k + tensSize ts + op.length) ∧ ∃ ts' op', NetO ts' op' vt vo h' ∧ HeldL k (flat ts' ++ [op']) (k + tensSize ts + op.length))) := by
  obtain ⟨vs, h0, ho, hs, r0, r1, ow, md⟩ := r; have hnn := tensSize_nn ts; have md0 : Made (joinP (h0 :: hs)) (h0 :: hs) := Made.join ⟨fun x hx => md.sep.1 x (by simp [hx]), md.sep.2.2⟩; have hent : Sat w [joinP (h0 :: hs), ho, restP w h] w := by
    have s1 := Sat.open (A := [restP w h]) md (Sat.start2 hle); have s2 := Sat.pickT (A := [restP w h, h0, ho]) (A' := [ho, restP w h, h0]) s1 [2, 0, 1] (by decide) rfl; exact (Sat.close (A := [ho, restP w h]) (l := h0 :: hs) s2).1
  refine calls_in Try.func15 rfl Try.ntmps15 rfl hent (wp_sc (wp_sq ?_)); refine sq_x rfl (x_box rfl rfl) rfl ?_; rintro _ _ ⟨b2, rfl, rfl⟩; refine sq_v rfl (v_assign rfl) rfl (sq_end (qs_n (wp_sc (wp_sq (sq_v rfl (v_fieldAddr fd_39_1 ty_37 (by decide) rfl) rfl (sq_v rfl (v_loadB 0 ty_37 rfl rfl rfl) rfl (sq_v rfl (v_move rfl) rfl ?_))))))); refine sq_m 1 rfl rfl (x_call rfl en_22 (fun w s => ct_l_markTensorS ts _ _ w _ (s.get 1 rfl) ⟨vs, h0, hs, r0, ow, md0⟩ (by omega))) rfl ?_; rintro _ h8 ⟨rfl, ts', r8, hl8⟩; refine sq_v rfl (v_assign rfl) rfl (sq_end (qs_n (wp_sc (wp_sq (sq_v rfl (v_fieldAddr fd_39_2 ty_25 (by decide) rfl) rfl (sq_v rfl (v_loadB 0 ty_25 rfl rfl rfl) rfl (sq_v rfl (v_move rfl) rfl ?_))))))); refine sq_m 2 rfl rfl (x_call rfl en_29 (fun w s => ct_l_markIntS op _ _ w _ (s.get 2 rfl) r1 (by omega))) rfl ?_; rintro _ h12 ⟨rfl, r12⟩; refine sq_v rfl (v_assign rfl) rfl (sq_end (qs_n (wp_sc (wp_sq (sq_v rfl (v_move rfl) rfl (sq_v rfl (v_assign rfl) rfl (sq_end (qs_n (wp_rt ?_))))))))); obtain ⟨vs', g0, gs, q0, ow8, md8⟩ := id r8; refine qs_close [box b2 _ _, restP w h] (g0 :: h12 :: gs) (fun _ s => Sat.pickT (A := [box b2 _ _, h12, restP w h, g0]) (A' := [box b2 _ _, restP w h, g0, h12]) (Sat.open (A := [box b2 _ _, h12, restP w h]) md8 (s.pick [1, 0, 2, 3] (by decide) rfl)) [0, 2, 3, 1] (by decide) rfl) (fun md' => ?_); exact qs_ret1 rfl rfl (fin_m (i := 2) 0 rfl rfl rfl ⟨rfl, ts', _, ⟨vs', g0, h12, gs, q0, r12, ow8, md'⟩, hl8.append ⟨iota_held _ _, by rw [iota_len]; exact rfl⟩⟩)
theorem HeldL.part : ∀ {xss yss : List (List Int)} {k k' : Int}, HeldL k (xss ++ yss) k' → ∃ k1, HeldL k xss k1 ∧ HeldL k1 yss k'
  | [], yss, k, k', h => ⟨k, rfl, h⟩
  | xs :: r, yss, k, k', h => by
    obtain ⟨k1, h1, h2⟩ := HeldL.part (xss := r) (yss := yss) h.2; exact ⟨k1, ⟨h.1, h1⟩, h2⟩
end Go.Proofs.Ythlmjnihihbckaa
namespace Go.Proofs.Ythlmjnihihbckaa
set_option maxRecDepth 100000
open Go.RowKit
theorem sub_get {cs us : List Value} {k n : Nat} (h : (cs.drop k).take n = us) {j : Nat} {u : Value} (hj : us[j]? = some u) : cs[k + j]? = some u := by
  rw [← h, List.getElem?_take] at hj
  split at hj
  · rwa [List.getElem?_drop] at hj
  · cases hj
section
variable {P : Program} {n : Nat} {w0 : World} {K : Env} {HS : List PH} {d : Option Tmp} {ty : TypeId} {ps : String} {af : Array Edge} {g : Option (Nat × Bool)}
end
theorem ksub {K : Env} {t : Nat} {a b : Int} (h : K.lookup t = some (num a)) (e : a = b) : K.lookup t = some (num b) := e ▸ h
def bools (xs : List Bool) : List Value := xs.map Value.bool
def BoolsR (xs : List Bool) (v : Value) (h : PH) : Prop := RowR (bools xs) xs.length 1 v h
def BoolsO (xs : List Bool) (v : Value) (h : PH) : Prop := RowO 4 (bools xs) xs.length 1 v h
theorem BoolsR.mono {xs : List Bool} {v : Value} {h h' : PH} (r : BoolsR xs v h) (l : PLe h h') : BoolsR xs v h' := RowR.mono r l
theorem BoolsO.toR {xs : List Bool} {v : Value} {h : PH} (r : BoolsO xs v h) : BoolsR xs v h := RowO.toR r
theorem BoolsR.sl {xs : List Bool} {v : Value} {h : PH} (r : BoolsR xs v h) : SlL v xs.length := RowR.sl r
theorem BoolsR.le {xs : List Bool} {v : Value} {h : PH} (r : BoolsR xs v h) : (xs.length : Int) ≤ 9223372036854775807 := by
  obtain ⟨_, a, c, _, ⟨h, _⟩, _⟩ := r
  unfold maxLen at h
  omega
theorem BoolsO.nil : BoolsO [] (.slice none 0 0) emp := ⟨rfl, .inl ⟨rfl, rfl, rfl⟩⟩
section
variable {P : Program} {n : Nat} {w0 : World} {K : Env} {HS : List PH} {d : Option Tmp} {ty : TypeId} {ps : String} {af : Array Edge} {g : Option (Nat × Bool)}
end
section
variable {P : Program} {n : Nat} {w0 : World} {K : Env} {HS : List PH} {Q : Exit → Act → World → Prop}
end
end Go.Proofs.Ythlmjnihihbckaa
namespace Go.Proofs.Ythlmjnihihbckaa
set_option maxRecDepth 100000
open Go.RowKit
section
variable {P : Program} {n : Nat} {w0 : World} {K : Env} {HS : List PH} {d : Option Tmp} {ty : TypeId} {ps : String} {af : Array Edge} {g : Option (Nat × Bool)}
theorem v_neqs {t t' : TypeId} {x y : Operand} {k : IntKind} {a : Int} (hx : ev K x = some (.int k a)) (hy : ev K y = some (.int k a)) : StepV P n w0 K HS ⟨d, .binOp .neq t x y t', ty, ps, af, g⟩ (.bool false) := by
  have := v_neq (P := P) (n := n) (w0 := w0) (HS := HS) (d := d) (t := t) (t' := t') (ty := ty) (ps := ps) (af := af) (g := g) hx hy
  simpa using this
theorem v_neqsb {t t' : TypeId} {x y : Operand} {a : Bool} (ht : P.underlying t = some .bool) (hx : ev K x = some (.bool a)) (hy : ev K y = some (.bool a)) : StepV P n w0 K HS ⟨d, .binOp .neq t x y t', ty, ps, af, g⟩ (.bool false) := by
  have := v_neqb (P := P) (n := n) (w0 := w0) (HS := HS) (d := d) (t := t) (t' := t') (ty := ty) (ps := ps) (af := af) (g := g) ht hx hy
  simpa using this
end
/-- A network that owns its parts, as a call returns it. -/
def NetT (k p n : Int) (ts : List Ten) (op : List Int) (u : Value) (h : PH) : Prop := ∃ vt vo, u = netV k p n vt vo ∧ NetO ts op vt vo h
theorem ct_L_toNetwork (k p n : Int) (ts : List Ten) (op : List Int) (vt vo : Value) (w : World) (r : TensR ts vt (hp w)) (r' : IntsR op vo (hp w)) (hs : ts.length + tensSize ts + op.length ≤ 1048576) :
    Calls Try.prog 9 [netV k p n vt vo].toArray w (Ret w emp (NetT k p n ts op)) := ct_l_toNetwork k p n ts op vt vo w r r' hs
/-- The marks of a network. -/
def NetM (vt vo : Value) (k e : Int) (u : Value) (h : PH) : Prop := u = num e ∧ ∃ ts op, NetO ts op vt vo h ∧ HeldL k (flat ts ++ [op]) e
theorem ct_L_markNetwork (kd p n : Int) (ts : List Ten) (op : List Int) (vt vo : Value) (k : Int) (w : World) (h : PH) (hle : PLe h (hp w)) (r : NetO ts op vt vo h) (hk : 0 ≤ k ∧ k + tensSize ts + op.length ≤ 4611686018427387904) :
    Calls Try.prog 15 [netV kd p n vt vo, num k].toArray w (Ret w h (NetM vt vo k (k + tensSize ts + op.length))) := ct_l_markNetwork kd p n ts op vt vo k w h hle r hk
def TriO (t : Ten) (a b c : Value) (h : PH) : Prop := ∃ h1 h2 h3, IntsO t.l a h1 ∧ IntsO t.d b h2 ∧ IntsO t.x c h3 ∧ Made h [h1, h2, h3]
theorem TriO.toR {t : Ten} {a b c : Value} {h : PH} (r : TriO t a b c h) : IntsR t.l a h ∧ IntsR t.d b h ∧ IntsR t.x c h := by
  obtain ⟨h1, h2, h3, r1, r2, r3, m⟩ := r; exact ⟨r1.toR.mono (m.le h1 (by simp)), r2.toR.mono (m.le h2 (by simp)), r3.toR.mono (m.le h3 (by simp))⟩
end Go.Proofs.Ythlmjnihihbckaa
namespace Go.Proofs.Ythlmjnihihbckaa
set_option maxRecDepth 100000
open Go.RowKit
/-- An element of a ring. -/
def InR (k p n : Int) (xs : List Int) : Prop := xs.length = (widthI k n).toNat ∧ ∀ a ∈ xs, 0 ≤ a ∧ a ≤ topI k p n
theorem InR.at {k p n : Int} {xs : List Int} (h : InR k p n xs) (_ : ringL k p n) (i : Nat) (hi : i < xs.length) : 0 ≤ xs.getD i 0 ∧ xs.getD i 0 ≤ topI k p n := h.2 _ (mem_getD hi)
theorem InR.len {k p n : Int} {xs : List Int} (h : InR k p n xs) (hr : ringL k p n) : 1 ≤ xs.length ∧ xs.length ≤ 6 ∧ (xs.length : Int) = widthI k n := by
  have := width_range hr; have := h.1
  omega
theorem top_poly {k p n : Int} (h : ringL k p n) (hk : k = 2 ∨ k = 7 ∨ k = 8) : topI k p n = p - 1 ∧ 2 ≤ p ∧ p ≤ 1000003 := by
  have hp2 : ∀ {m : Int}, primeB m = true → 2 ≤ m ∧ m ≤ 1000003 := fun h => ⟨(primeB_iff.1 h).1, (primeB_iff.1 h).2.1⟩
  unfold ringL at h
  refine ⟨?_, ?_⟩
  · unfold topI
    rw [if_neg (by omega), if_neg (by omega), if_neg (by omega)]
  · rcases h with h | h | h | h | h | h
    · omega
    · exact hp2 h.2.1
    · omega
    · omega
    · exact hp2 h.2.1
    · exact hp2 h.2.1
theorem top_cap {k p n : Int} (h : ringL k p n) (hk : k = 3 ∨ k = 4 ∨ k = 5) : topI k p n = p ∧ 1 ≤ p ∧ p ≤ 1000000 := by
  unfold ringL at h
  refine ⟨?_, by omega⟩
  unfold topI
  rw [if_neg (by omega), if_pos (by omega)]
theorem kind_rest {k p n : Int} (h : ringL k p n) (h1 : k ≠ 1) (h2 : k ≠ 2) (h3 : k ≠ 3) (h4 : k ≠ 4) (h5 : k ≠ 5) (h6 : k ≠ 6) : k = 7 ∨ k = 8 := by
  unfold ringL at h; omega
theorem kind_rest' {k p n : Int} (h : ringL k p n) (h1 : k ≠ 1) (h3 : k ≠ 3) (h4 : k ≠ 4) (h5 : k ≠ 5) (h6 : k ≠ 6) : k = 2 ∨ k = 7 ∨ k = 8 := by
  unfold ringL at h; omega
theorem mul_in {a b t u : Int} (ha : 0 ≤ a ∧ a ≤ t) (hb : 0 ≤ b ∧ b ≤ u) : 0 ≤ a * b ∧ a * b ≤ t * u :=
  ⟨Int.mul_nonneg ha.1 hb.1, Int.mul_le_mul ha.2 hb.2 hb.1 (by omega)⟩
theorem tmod_in {a p : Int} (ha : 0 ≤ a) (hp : 1 ≤ p) : 0 ≤ a.tmod p ∧ a.tmod p ≤ p - 1 := by
  rw [Int.tmod_eq_emod_of_nonneg ha]; have h1 := Int.emod_nonneg a (show p ≠ 0 by omega); have h2 := Int.emod_lt_of_pos a (show 0 < p by omega)
  omega
def mulStep (k p : Int) (x y out : List Int) (i j : Nat) : List Int :=
  if i + j < out.length then out.set (i + j) ((out.getD (i + j) 0 + x.getD i 0 * y.getD j 0).tmod p)
  else if k = 8 then out.set (i + j - 4) ((out.getD (i + j - 4) 0 + (p - x.getD i 0) * y.getD j 0).tmod p) else out
def mulRow (k p : Int) (x y : List Int) (i : Nat) (out : List Int) (m : Nat) : List Int := (List.range m).foldl (fun o j => mulStep k p x y o i j) out
def mulTo (k p : Int) (x y out : List Int) (m : Nat) : List Int := (List.range m).foldl (fun o i => mulRow k p x y i o y.length) out
theorem mulRow_step (k p : Int) (x y : List Int) (i : Nat) (out : List Int) (m : Nat) : mulRow k p x y i out (m + 1) = mulStep k p x y (mulRow k p x y i out m) i m := by simp [mulRow, List.range_succ]
theorem mulTo_step (k p : Int) (x y out : List Int) (m : Nat) : mulTo k p x y out (m + 1) = mulRow k p x y m (mulTo k p x y out m) y.length := by simp [mulTo, List.range_succ]
/-- Numbers below p, as many as the width says. -/
def PolyIn (k p n : Int) (xs : List Int) : Prop := xs.length = (widthI k n).toNat ∧ ∀ a ∈ xs, 0 ≤ a ∧ a ≤ p - 1
theorem PolyIn.set {k p n : Int} {xs : List Int} (h : PolyIn k p n xs) (i : Nat) {a : Int} (ha : 0 ≤ a ∧ a ≤ p - 1) : PolyIn k p n (xs.set i a) :=
  ⟨by rw [List.length_set]; exact h.1, fun b hb => by
    rcases List.mem_or_eq_of_mem_set hb with hb | rfl
    · exact h.2 b hb
    · exact ha⟩
theorem PolyIn.at {k p n : Int} {xs : List Int} (h : PolyIn k p n xs) (hp : 1 ≤ p) (i : Nat) : 0 ≤ xs.getD i 0 ∧ xs.getD i 0 ≤ p - 1 := by
  by_cases hi : i < xs.length
  · exact h.2 _ (mem_getD hi)
  · simp only [List.getD, List.getElem?_eq_none (Nat.le_of_not_lt hi)]
    show (0:Int) ≤ 0 ∧ (0:Int) ≤ p - 1
    omega
theorem InR.poly {k p n : Int} {xs : List Int} (h : InR k p n xs) (hr : ringL k p n) (hk : k = 2 ∨ k = 7 ∨ k = 8) : PolyIn k p n xs := by
  have := (top_poly hr hk).1; refine ⟨h.1, fun a ha => ?_⟩; rw [← this]; exact h.2 a ha
theorem PolyIn.inR {k p n : Int} {xs : List Int} (h : PolyIn k p n xs) (hr : ringL k p n) (hk : k = 2 ∨ k = 7 ∨ k = 8) : InR k p n xs := by
  have := (top_poly hr hk).1; refine ⟨h.1, fun a ha => ?_⟩; rw [this]; exact h.2 a ha
theorem poly_zero {k p n : Int} (hp : 1 ≤ p) (m : Nat) (hm : m = (widthI k n).toNat) : PolyIn k p n (List.replicate m 0) := by
  subst hm; refine ⟨by simp, fun a ha => ?_⟩; have := List.eq_of_mem_replicate ha
  omega
theorem mulStep_in {k p n : Int} {x y out : List Int} {i j : Nat} (hp : 1 ≤ p) (hx : PolyIn k p n x) (hy : PolyIn k p n y) (ho : PolyIn k p n out) : PolyIn k p n (mulStep k p x y out i j) := by
  have hxi := hx.at hp i; have hyj := hy.at hp j
  unfold mulStep
  split
  · refine ho.set _ (tmod_in ?_ hp); have := (mul_in hxi hyj).1; have := (ho.at hp (i + j)).1
    omega
  · split
    · refine ho.set _ (tmod_in ?_ hp); have := (mul_in (a := p - x.getD i 0) (t := p) ⟨by omega, by omega⟩ hyj).1; have := (ho.at hp (i + j - 4)).1
      omega
    · exact ho
theorem mulRow_in {k p n : Int} {x y out : List Int} {i : Nat} (hp : 1 ≤ p) (hx : PolyIn k p n x) (hy : PolyIn k p n y) (ho : PolyIn k p n out) : ∀ m, PolyIn k p n (mulRow k p x y i out m)
  | 0 => by simpa [mulRow] using ho
  | m + 1 => by rw [mulRow_step]; exact mulStep_in hp hx hy (mulRow_in hp hx hy ho m)
theorem mulTo_in {k p n : Int} {x y out : List Int} (hp : 1 ≤ p) (hx : PolyIn k p n x) (hy : PolyIn k p n y) (ho : PolyIn k p n out) : ∀ m, PolyIn k p n (mulTo k p x y out m)
  | 0 => by simpa [mulTo] using ho
  | m + 1 => by rw [mulTo_step]; exact mulRow_in hp hx hy (mulTo_in hp hx hy ho m) _
open Classical in
noncomputable def mulL (k p n : Int) (x y : List Int) : List Int :=
  if k = 1 ∨ k = 5 then [min (x.getD 0 0) (y.getD 0 0)]
  else if k = 2 then [(x.getD 0 0 * y.getD 0 0).tmod p]
  else if k = 3 then [min (x.getD 0 0 * y.getD 0 0) p]
  else if k = 4 then [min (x.getD 0 0 + y.getD 0 0) p]
  else if k = 6 then [(((x.getD 0 0).toNat &&& (y.getD 0 0).toNat : Nat) : Int)]
  else mulTo k p x y (List.replicate (widthI k n).toNat 0) x.length
theorem one_R {k p n a : Int} (h7 : k ≠ 7) (h8 : k ≠ 8) (h : 0 ≤ a ∧ a ≤ topI k p n) : InR k p n [a] := ⟨by rw [width_1 h7 h8]; rfl, fun b hb => by simp at hb; subst hb; exact h⟩
theorem and_le (a b : Int) (ha : 0 ≤ a) : 0 ≤ ((a.toNat &&& b.toNat : Nat) : Int) ∧ ((a.toNat &&& b.toNat : Nat) : Int) ≤ a := by
  have : a.toNat &&& b.toNat ≤ a.toNat := Nat.and_le_left
  omega
theorem mulL_in {k p n : Int} {x y : List Int} (hr : ringL k p n) (hx : InR k p n x) (hy : InR k p n y) : InR k p n (mulL k p n x y) := by
  have h1 := hx.len hr; have h2 := hy.len hr; have hx0 := hx.at hr 0 (by omega); have hy0 := hy.at hr 0 (by omega); have hw := width_range hr; have hm := (mul_in hx0 hy0).1
  unfold mulL
  split
  · exact one_R (by omega) (by omega) (by omega)
  · split
    · have ht := top_poly hr (by omega); refine one_R (by omega) (by omega) ?_; have := tmod_in hm (show 1 ≤ p by omega)
      omega
    · split
      · have ht := top_cap hr (by omega); exact one_R (by omega) (by omega) (by omega)
      · split
        · have ht := top_cap hr (by omega); exact one_R (by omega) (by omega) (by omega)
        · split
          · have := and_le (x.getD 0 0) (y.getD 0 0) hx0.1; exact one_R (by omega) (by omega) (by omega)
          · have hk := kind_rest hr (by omega) (by omega) (by omega) (by omega) (by omega) (by omega); have ht := top_poly hr (by omega); exact (mulTo_in (by omega) (hx.poly hr (by omega)) (hy.poly hr (by omega)) (poly_zero (by omega) _ rfl) _).inR hr (by omega)
theorem top_1 {k p n : Int} (h : k = 1) : topI k p n = 1 := by simp [topI, h]
open Classical in
noncomputable def add1 (k p : Int) (a b : Int) : Int :=
  if k = 1 ∨ k = 5 then max a b else if k = 3 then min (a + b) p else if k = 4 then min a b else if k = 6 then ((a.toNat ||| b.toNat : Nat) : Int) else (a + b).tmod p
noncomputable def addL (k p : Int) (x y : List Int) : List Int := (List.range x.length).map fun i => add1 k p (x.getD i 0) (y.getD i 0)
theorem addL_len (k p : Int) (x y : List Int) : (addL k p x y).length = x.length := by simp [addL]
theorem addL_get {k p : Int} {x y : List Int} {i : Nat} (h : i < x.length) : (addL k p x y).getD i 0 = add1 k p (x.getD i 0) (y.getD i 0) := by simp [addL, List.getD, h]
theorem or_in {a b n : Int} (ha : 0 ≤ a ∧ a ≤ 2 ^ n.toNat - 1) (hb : 0 ≤ b ∧ b ≤ 2 ^ n.toNat - 1) : 0 ≤ ((a.toNat ||| b.toNat : Nat) : Int) ∧ ((a.toNat ||| b.toNat : Nat) : Int) ≤ 2 ^ n.toNat - 1 := by
  have e : ((2 ^ n.toNat : Nat) : Int) = (2 : Int) ^ n.toNat := by simp
  have h1 : a.toNat ||| b.toNat < 2 ^ n.toNat := Nat.or_lt_two_pow (by omega) (by omega)
  omega
theorem add1_in {k p n a b : Int} (hr : ringL k p n) (ha : 0 ≤ a ∧ a ≤ topI k p n) (hb : 0 ≤ b ∧ b ≤ topI k p n) : 0 ≤ add1 k p a b ∧ add1 k p a b ≤ topI k p n := by
  unfold add1
  split
  · omega
  · split
    · have := top_cap hr (by omega); omega
    · split
      · omega
      · split
        · rename_i h6
          have ht : topI k p n = 2 ^ n.toNat - 1 := by simp [topI, h6]
          rw [ht] at ha hb ⊢; exact or_in ha hb
        · have ht := top_poly hr (kind_rest' hr (by omega) (by omega) (by omega) (by omega) (by omega)); have := tmod_in (a := a + b) (p := p) (by omega) (by omega)
          omega
theorem addL_in {k p n : Int} {x y : List Int} (hr : ringL k p n) (hx : InR k p n x) (hy : InR k p n y) : InR k p n (addL k p x y) := by
  refine ⟨by rw [addL_len]; exact hx.1, fun a ha => ?_⟩; simp only [addL, List.mem_map, List.mem_range] at ha; obtain ⟨i, hi, rfl⟩ := ha; exact add1_in hr (hx.at hr i hi) (hy.at hr i (by have := hx.1; have := hy.1; omega))
/-- Numbers put in the place of others, from lo on. -/
def putL (xs : List Int) (lo : Nat) (ys : List Int) : List Int := xs.take lo ++ ys ++ xs.drop (lo + ys.length)
theorem putL_len {xs ys : List Int} {lo : Nat} (h : lo + ys.length ≤ xs.length) : (putL xs lo ys).length = xs.length := by simp [putL]; omega
end Go.Proofs.Ythlmjnihihbckaa
namespace Go.Proofs.Ythlmjnihihbckaa
set_option maxRecDepth 100000
open Go.RowKit
theorem foldl_mul (ds : List Int) (a : Int) : ds.foldl (· * ·) a = a * prodI ds := by
  induction ds generalizing a with
  | nil => simp [prodI]
  | cons d r ih =>
    simp only [prodI, List.foldl_cons]; rw [ih, ih (1 * d), Int.one_mul, Int.mul_assoc]
theorem prodI_cons (d : Int) (ds : List Int) : prodI (d :: ds) = d * prodI ds := by
  simp only [prodI, List.foldl_cons, Int.one_mul]; exact foldl_mul ds d
theorem prodI_append (a b : List Int) : prodI (a ++ b) = prodI a * prodI b := by
  simp only [prodI, List.foldl_append]; exact foldl_mul b _
theorem drop_cons {xs : List Int} {i : Nat} (h : i < xs.length) : xs.drop i = xs.getD i 0 :: xs.drop (i + 1) := by
  rw [List.drop_eq_getElem_cons h]; simp [List.getD, h]
theorem prodI_one {ds : List Int} (h : ∀ d ∈ ds, 1 ≤ d) : 1 ≤ prodI ds := by
  induction ds with
  | nil => simp [prodI]
  | cons d r ih =>
    rw [prodI_cons]; have h1 := h d (by simp); have h2 := ih (fun x hx => h x (by simp [hx])); have := Int.mul_le_mul h1 h2 (by omega) (by omega)
    omega
theorem prodI_drop {ds : List Int} (h : ∀ d ∈ ds, 1 ≤ d) (i : Nat) : 1 ≤ prodI (ds.drop i) ∧ prodI (ds.drop i) ≤ prodI ds := by
  have e : prodI ds = prodI (ds.take i) * prodI (ds.drop i) := by rw [← prodI_append, List.take_append_drop]
  have h1 := prodI_one (ds := ds.drop i) (fun d hd => h d (List.mem_of_mem_drop hd)); have h2 := prodI_one (ds := ds.take i) (fun d hd => h d (List.mem_of_mem_take hd)); refine ⟨h1, ?_⟩; rw [e]; have := Int.mul_le_mul_of_nonneg_right h2 (show 0 ≤ prodI (ds.drop i) by omega)
  omega
theorem dims_mem {ds : List Int} (h : dimsIn ds) : ∀ d ∈ ds, 1 ≤ d ∧ d ≤ 8 := all_of h
def strOf : List Int → List Int → Int → Int
  | l :: ls, _ :: ds, x => if x = l then prodI ds else strOf ls ds x
  | _, _, _ => 0
def stepsL (labels ls ds : List Int) : List Int := labels.map (strOf ls ds)
theorem stepsL_len (labels ls ds : List Int) : (stepsL labels ls ds).length = labels.length := by simp [stepsL]
theorem stepsL_get {labels ls ds : List Int} {k : Nat} (h : k < labels.length) : (stepsL labels ls ds).getD k 0 = strOf ls ds (labels.getD k 0) := map_getD h
theorem strOf_none {x : Int} : ∀ {ls ds : List Int}, x ∉ ls → strOf ls ds x = 0
  | [], _, _ => rfl
  | _ :: _, [], _ => rfl
  | l :: ls, d :: ds, h => by
    simp only [strOf]; rw [if_neg (fun e => h (by simp [e])), strOf_none (fun hm => h (by simp [hm]))]
theorem steps_end {labels ls ds : List Int} {n : Nat} (h : n = ls.length) : stepsL labels (ls.drop n) (ds.drop n) = List.replicate labels.length 0 := by
  subst h; rw [List.drop_length, stepsL]; simp only [strOf]
  induction labels <;> simp_all [List.replicate_succ]
def dotTo (xs ys : List Int) : Nat → Int
  | 0 => 0
  | m + 1 => dotTo xs ys m + xs.getD m 0 * ys.getD m 0
def dotL (xs ys : List Int) : Int := dotTo xs ys xs.length
theorem dotTo_set {xs ys : List Int} {k : Nat} (hk : k < xs.length) (a : Int) : ∀ m, dotTo (xs.set k a) ys m = dotTo xs ys m + (if k < m then (a - xs.getD k 0) * ys.getD k 0 else 0)
  | 0 => by simp [dotTo]
  | m + 1 => by
    have ih := dotTo_set (ys := ys) hk a m; simp only [dotTo, ih]
    by_cases e : m = k
    · subst e; have : (xs.set m a).getD m 0 = a := by simp [List.getD, hk]
      rw [this, if_neg (by omega), if_pos (by omega), Int.sub_mul]
      omega
    · have : (xs.set k a).getD m 0 = xs.getD m 0 := by simp only [List.getD]; rw [List.getElem?_set_ne (by omega)]
      rw [this]
      by_cases h : k < m
      · rw [if_pos h, if_pos (by omega)]; omega
      · rw [if_neg h, if_neg (by omega)]; omega
theorem dotTo_zero {ys : List Int} {n : Nat} : ∀ m, dotTo (List.replicate n 0) ys m = 0
  | 0 => rfl
  | m + 1 => by rw [dotTo, dotTo_zero, rep_getD]; omega
def offL : List Int → List Int → Int
  | _ :: ds, i :: is => i * prodI ds + offL ds is
  | _, _ => 0
def hornTo (ds is : List Int) : Nat → Int
  | 0 => 0
  | m + 1 => hornTo ds is m * ds.getD m 0 + is.getD m 0
theorem horn_off : ∀ (ds is : List Int), ds.length = is.length → ∀ m, m ≤ ds.length → offL ds is = hornTo ds is m * prodI (ds.drop m) + offL (ds.drop m) (is.drop m) := by
  intro ds is hl m
  induction m with
  | zero => intro _; simp [hornTo]
  | succ m ih =>
    intro hm; rw [ih (by omega), drop_cons (xs := ds) (i := m) (by omega), drop_cons (xs := is) (i := m) (by omega), prodI_cons, offL, hornTo, Int.add_mul, Int.mul_assoc]
    omega
theorem offL_end {ds is : List Int} (hl : ds.length = is.length) : offL ds is = hornTo ds is ds.length := by
  rw [horn_off ds is hl ds.length (Nat.le_refl _), List.drop_length]
  simp [prodI, offL]
def idxIn (ds is : List Int) : Prop := is.length = ds.length ∧ ∀ j, j < ds.length → 0 ≤ is.getD j 0 ∧ is.getD j 0 < ds.getD j 0
theorem offL_in : ∀ {ds is : List Int}, (∀ d ∈ ds, 1 ≤ d) → idxIn ds is → 0 ≤ offL ds is ∧ offL ds is ≤ prodI ds - 1
  | [], [], _, _ => by simp [offL, prodI]
  | [], i :: is, _, h => by have := h.1; simp at this
  | d :: ds, [], _, h => by have := h.1; simp at this
  | d :: ds, i :: is, hd, h => by
    have h0 := h.2 0 (by simp); have ih := offL_in (ds := ds) (is := is) (fun x hx => hd x (by simp [hx])) ⟨by have := h.1; simpa using this, fun j hj => by have := h.2 (j + 1) (by simpa using hj); simpa [List.getD] using this⟩; have hp1 := prodI_one (ds := ds) (fun x hx => hd x (by simp [hx])); simp only [List.getD, List.getElem?_cons_zero, Option.getD_some] at h0; have e1 : i * prodI ds ≤ (d - 1) * prodI ds := Int.mul_le_mul_of_nonneg_right (by omega) (by omega); have e2 : 0 ≤ i * prodI ds := Int.mul_nonneg h0.1 (by omega); rw [Int.sub_mul, Int.one_mul] at e1; simp only [offL, prodI_cons]
    omega
def idxAt (labels values ls : List Int) : List Int := ls.map fun x => values.getD (findI labels x).toNat 0
theorem find_at' {labels : List Int} (hn : labels.Nodup) {k : Nat} (hk : k < labels.length) : findI labels (labels.getD k 0) = k := by
  refine idx_first (fun j hj e => ?_) hk rfl; have h1 : j < labels.length := by omega
  simp only [List.getD, List.getElem?_eq_getElem h1, List.getElem?_eq_getElem hk, Option.getD_some] at e; have := (List.getElem_inj hn).1 e
  omega
theorem steps_cons {labels ls ds : List Int} {l d : Int} (hn : labels.Nodup) (hl : l ∈ labels) : stepsL labels (l :: ls) (d :: ds) = (stepsL labels ls ds).set (findI labels l).toNat (prodI ds) := by
  have hf := findI_get hl
  apply ext_getD
  · simp [stepsL_len]
  · intro j hj; rw [stepsL_len] at hj; rw [stepsL_get hj, strOf]
    by_cases e : j = (findI labels l).toNat
    · subst e; rw [if_pos hf.2]
      simp [List.getD, stepsL_len, hf.1]
    · have hne : labels.getD j 0 ≠ l := fun e' => e (by rw [← e', find_at' hn hj]; simp); rw [if_neg hne, ← stepsL_get hj]; simp only [List.getD]; rw [List.getElem?_set_ne (Ne.symm e)]
theorem dot_off {labels values : List Int} (hn : labels.Nodup) : ∀ {ls ds : List Int}, ls.length = ds.length → ls.Nodup → (∀ l ∈ ls, l ∈ labels) → dotTo (stepsL labels ls ds) values labels.length = offL ds (idxAt labels values ls)
  | [], ds, _, _, _ => by
    have e : stepsL labels [] ds = List.replicate labels.length 0 := by
      have := steps_end (labels := labels) (ls := []) (ds := ds) (n := 0) rfl
      simpa using this
    rw [e, dotTo_zero]
    cases ds <;> rfl
  | l :: ls, [], h, _, _ => by simp at h
  | l :: ls, d :: ds, h, hd, hm => by
    have hl := hm l (by simp); have hx : l ∉ ls := (List.nodup_cons.1 hd).1; have hf := findI_get hl; have ih := dot_off (values := values) hn (ls := ls) (ds := ds) (by simpa using h) (List.nodup_cons.1 hd).2 (fun x hx => hm x (by simp [hx])); rw [steps_cons hn hl, dotTo_set (by rw [stepsL_len]; exact hf.1), if_pos hf.1, ih, stepsL_get hf.1, hf.2, strOf_none hx]; simp only [idxAt, List.map_cons, offL, Int.sub_zero]; rw [Int.mul_comm (prodI ds)]
    omega
end Go.Proofs.Ythlmjnihihbckaa
namespace Go.Proofs.Ythlmjnihihbckaa
set_option maxRecDepth 100000
open Go.RowKit

/-- The labels below m that occur. -/
def labelsTo (ts : List Ten) (m : Nat) : List Int := ((List.range m).map fun (i : Nat) => (i : Int)).filter fun x => decide (0 < dimOf ts x)
def labelsL (ts : List Ten) : List Int := labelsTo ts 100
theorem labels_yes {ts : List Ten} {m : Nat} (h : 0 < dimOf ts m) : labelsTo ts (m + 1) = labelsTo ts m ++ [(m : Int)] := by simp [labelsTo, List.range_succ, h]
theorem labels_no {ts : List Ten} {m : Nat} (h : ¬ 0 < dimOf ts m) : labelsTo ts (m + 1) = labelsTo ts m := by simp [labelsTo, List.range_succ, h]
theorem labels_len (ts : List Ten) (m : Nat) : (labelsTo ts m).length ≤ m := by
  have := List.length_filter_le (fun x => decide (0 < dimOf ts x)) ((List.range m).map fun (i : Nat) => (i : Int))
  simpa [labelsTo] using this
theorem mem_labels {ts : List Ten} {m : Nat} {x : Int} : x ∈ labelsTo ts m ↔ (0 ≤ x ∧ x < m) ∧ 0 < dimOf ts x := by
  simp only [labelsTo, List.mem_filter, List.mem_map, List.mem_range, decide_eq_true_eq]
  constructor
  · rintro ⟨⟨i, hi, rfl⟩, h⟩; exact ⟨by omega, h⟩
  · rintro ⟨h1, h2⟩; exact ⟨⟨x.toNat, by omega, by omega⟩, h2⟩
theorem ct_s_l12Labels (ts : List Ten) (v : Value) (w : World) (r : TensR ts v (hp w)) (hok : ∀ t ∈ ts, AxOK t) : Calls Try.prog 54 [v].toArray w (Ret w emp (IntsO (labelsL ts))) := by
  refine calls_in Try.func54 rfl Try.ntmps54 rfl (Sat.start w) (wp_sc (wp_sq (sq_v rfl (v_assign rfl) rfl (sq_end (qs_n (wp_sc (wp_sq ?_))))))); refine sq_x rfl (x_build0 Try.underlying25 ty_3) rfl ?_; intro v5 h5 (r5 : IntsO [] v5 h5); refine sq_v rfl (v_assign rfl) rfl (sq_end (qs_n (wp_sc (wp_sc (wp_sq (sq_v rfl (v_assign rfl) rfl (sq_end (qs_n (wp_bl (wp_lp (fun s : Nat × Value × PH => [(0, v), (3, s.2.1), (4, num s.1)]) (fun s => [s.2.2, hp w]) (fun s => s.1 ≤ 100 ∧ IntsO (labelsTo ts s.1) s.2.1 s.2.2) (fun s => 100 - s.1) (0, v5, h5) ⟨by omega, r5⟩ ⟨rfl, rfl, rfl, trivial⟩ (fun _ s => s) ?_)))))))))); rintro ⟨i, vo, ho⟩ ⟨hi, ro⟩; dsimp only at hi ro ⊢; have hll := labels_len ts i; refine wp_sc (wp_sc (wp_sq (sq_v rfl (v_move rfl) rfl (sq_v rfl (v_leq rfl rfl) rfl (sq_end (qs_n ?_)))))); refine wp_cd rfl (fun c7 => ?_) (fun c7 => ?_)
  · refine wp_sk (qs_n (wp_sc (wp_bl (wp_sc (wp_sq (sq_v rfl (v_move rfl) rfl (sq_v rfl (v_move rfl) rfl (sq_u rfl (x_callv rfl en_56 (fun w s => ct_s_l12Dim _ _ _ w (r.mono (s.get 1 rfl)) hok)) rfl (sq_v rfl (v_gtr rfl rfl) rfl (sq_end (qs_n ?_))))))))))); refine wp_cd rfl (fun c13 => ?_) (fun c13 => ?_)
    · refine wp_sq (sq_v rfl (v_move rfl) rfl (sq_v rfl (v_move rfl) rfl ?_)); refine sq_x rfl (x_buildS [num ((i : Int))] Try.underlying25 ty_3 (by decide) rfl rfl rfl (by decide) (by decide) (by intro v hv; simp at hv; rcases hv with rfl <;> rfl)) rfl ?_; intro v16 h16 (r16 : IntsO [(i : Int)] v16 h16); refine sq_m 1 rfl rfl (m_appI 1 0 Try.underlying25 ty_3 rfl rfl rfl rfl ro rfl r16.toR (by simp only [List.length_cons, List.length_nil]; omega)) rfl ?_; intro v17 h_r17 r17; refine sq_v rfl (v_assign rfl) rfl (sq_end (qs_bn (qs_n (wp_sq (sq_v rfl (v_move rfl) rfl ?_))))); refine sq_v rfl (v_add rfl rfl ((by unfold I64; omega))) rfl ?_; refine sq_v rfl (v_assign rfl) rfl (sq_end ?_); exact qs_bk (i + 1, v17, h_r17) ⟨by simp only; omega, by simp only; rw [labels_yes c13]; exact r17⟩ (by simp only; omega) ⟨rfl, rfl, rfl, trivial⟩ (fun _ s => s.pick [1, 2] (by decide) rfl)
    · refine wp_sk (qs_bn (qs_n (wp_sq (sq_v rfl (v_move rfl) rfl ?_)))); refine sq_v rfl (v_add rfl rfl ((by unfold I64; omega))) rfl ?_; refine sq_v rfl (v_assign rfl) rfl (sq_end ?_); exact qs_bk (i + 1, vo, ho) ⟨by simp only; omega, by simp only; rw [labels_no c13]; exact ro⟩ (by simp only; omega) ⟨rfl, rfl, rfl, trivial⟩ (fun _ s => s)
  · refine wp_ex (qs_x (qs_x (qs_bx (qs_n (wp_sc (wp_sq (sq_v rfl (v_move rfl) rfl (sq_v rfl (v_assign rfl) rfl (sq_end (qs_n (wp_rt ?_))))))))))); have e : i = 100 := by omega
    subst e; exact qs_ret1 rfl rfl (fin_t 0 (i := 1) rfl rfl rfl ro)
open Classical in
noncomputable def labelsOf (k p n : Int) (ts : List Ten) (op : List Int) : List Int := if netL k p n ts op then labelsL ts else []
theorem net_ax {k p n : Int} {ts : List Ten} {op : List Int} (h : netL k p n ts op) : ∀ t ∈ ts, AxOK t := fun t ht => axes_ok (tensor_axes (h.2.2.1 t ht))
theorem netB_true {k p n : Int} {ts : List Ten} {op : List Int} : netB k p n ts op = true ↔ netL k p n ts op := by simp [netB]
theorem netB_false {k p n : Int} {ts : List Ten} {op : List Int} : netB k p n ts op = false ↔ ¬ netL k p n ts op := by simp [netB]
theorem ct_i_occurring (ts : List Ten) (arr : List Int) (w : World) (ha : arrInv ts arr) (hok : ∀ t ∈ ts, AxOK t) : Calls Try.prog 113 [.agg (ints arr).toArray].toArray w (Ret w emp (IntsO (labelsL ts))) := by
  have hal := ha.1; refine calls_in Try.func113 rfl Try.ntmps113 rfl (Sat.start w) (wp_sc (wp_sq ?_)); refine sq_x rfl (x_box rfl rfl) rfl ?_; rintro _ _ ⟨b1, rfl, rfl⟩; refine sq_v rfl (v_assign rfl) rfl (sq_end (qs_n (wp_sc (wp_sq (sq_v rfl (v_assign rfl) rfl (sq_end (qs_n (wp_sc (wp_sc (wp_sq ?_)))))))))); refine sq_v rfl (v_loadNB 0 ty_125 rfl rfl (by rw [ints_length]; exact hal) (by rw [List.drop_zero, List.take_of_length_le]; rw [ints_length, hal]; omega)) rfl ?_; refine sq_v rfl (v_move rfl) rfl (sq_end (qs_n (wp_bl (wp_lp (fun s : Nat × Value × PH => [(3, s.2.1), (6, .agg (ints arr).toArray), (7, num s.1)]) (fun s => [s.2.2, hp w]) (fun s => s.1 ≤ 100 ∧ IntsO (labelsTo ts s.1) s.2.1 s.2.2) (fun s => 100 - s.1) (0, .slice none 0 0, emp) ⟨by omega, IntsO.nil⟩ ⟨rfl, rfl, rfl, trivial⟩ (fun _ s => (emp_sat s).pick [0, 2] (by decide) rfl) ?_)))); rintro ⟨i, vo, ho⟩ ⟨hi, ro⟩; dsimp only at hi ro ⊢; have hll := labels_len ts i; have hdr := dimOf_range hok (i : Int); refine wp_sc (wp_sq (sq_v rfl (v_lss rfl rfl) rfl (sq_end (qs_n (wp_sc ?_))))); refine wp_cd rfl (fun c8 => ?_) (fun c8 => ?_)
  · refine wp_sk (qs_n (wp_sc (wp_bl (wp_sc (wp_sq (sq_v rfl (v_move rfl) rfl ?_)))))); have hav := ha.2 (i : Int) (by omega) (by omega); refine sq_v rfl (v_indexA Try.underlying125 ty_3 rfl rfl (by omega) (by omega) (aget (k := i) (by omega) (by simp))) rfl (sq_v rfl (v_assign rfl) rfl (sq_v rfl (v_assign rfl) rfl (sq_end (qs_n (wp_sc (wp_sq (sq_v rfl (v_move rfl) rfl (sq_v rfl (v_neq rfl rfl) rfl (sq_end (qs_n ?_)))))))))); refine wp_cd rfl (fun c12 => ?_) (fun c12 => ?_)
    · refine wp_sq (sq_v rfl (v_move rfl) rfl (sq_v rfl (v_move rfl) rfl ?_)); refine sq_x rfl (x_buildS [num ((i : Int))] Try.underlying25 ty_3 (by decide) rfl rfl rfl (by decide) (by decide) (by intro v hv; simp at hv; rcases hv with rfl <;> rfl)) rfl ?_; intro v15 h15 (r15 : IntsO [(i : Int)] v15 h15); refine sq_m 1 rfl rfl (m_appI 1 0 Try.underlying25 ty_3 rfl rfl rfl rfl ro rfl r15.toR (by simp only [List.length_cons, List.length_nil]; omega)) rfl ?_; intro v16 h_r16 r16; refine sq_v rfl (v_assign rfl) rfl (sq_end (qs_bn (qs_n (wp_sq ?_)))); refine sq_v rfl (v_add rfl rfl ((by unfold I64; omega))) rfl ?_; refine sq_v rfl (v_move rfl) rfl (sq_end ?_); exact qs_bk (i + 1, v16, h_r16) ⟨by simp only; omega, by simp only; rw [labels_yes (by rw [← hav]; simp only [Int.toNat_natCast]; rw [← hav] at hdr; simp only [Int.toNat_natCast] at hdr; omega)]; exact r16⟩ (by simp only; omega) ⟨rfl, rfl, rfl, trivial⟩ (fun _ s => s.pick [1, 2] (by decide) rfl)
    · refine wp_sk (qs_bn (qs_n (wp_sq ?_))); refine sq_v rfl (v_add rfl rfl ((by unfold I64; omega))) rfl ?_; refine sq_v rfl (v_move rfl) rfl (sq_end ?_); exact qs_bk (i + 1, vo, ho) ⟨by simp only; omega, by simp only; rw [labels_no (by rw [← hav]; simp only [Int.toNat_natCast]; omega)]; exact ro⟩ (by simp only; omega) ⟨rfl, rfl, rfl, trivial⟩ (fun _ s => s)
  · refine wp_ex (qs_x (qs_x (qs_bx (qs_n (wp_sc (wp_sq (sq_v rfl (v_move rfl) rfl (sq_v rfl (v_assign rfl) rfl (sq_end (qs_n (wp_rt ?_))))))))))); have e : i = 100 := by omega
    subst e; exact qs_ret1 rfl rfl (fin_t 0 (i := 1) rfl rfl rfl ro)
theorem net_axes {k p n : Int} {ts : List Ten} {op : List Int} (h : netL k p n ts op) : ∀ t ∈ ts, axesL t.l t.d := fun t ht => tensor_axes (h.2.2.1 t ht)
theorem ct_i_LabelsOf (k p n : Int) (ts : List Ten) (op : List Int) (vt vo : Value) (w : World) (r : TensR ts vt (hp w)) (r' : IntsR op vo (hp w)) (hs : op.length ≤ 1048576) :
    Calls Try.prog 63 [netV k p n vt vo].toArray w (Ret w emp (IntsO (labelsOf k p n ts op))) := by
  refine calls_in Try.func63 rfl Try.ntmps63 rfl (Sat.start w) (wp_sc (wp_sq ?_)); refine sq_x rfl (x_box rfl rfl) rfl ?_; rintro _ _ ⟨b1, rfl, rfl⟩; refine sq_v rfl (v_assign rfl) rfl (sq_end (qs_n (wp_sc (wp_sc (wp_sq (sq_v rfl (v_loadNB 0 ty_39 rfl rfl rfl rfl) rfl (sq_u rfl (x_callv rfl en_91 (fun w s => ct_i_NetworkOk _ _ _ _ _ _ _ w (r.mono (s.get 1 rfl)) (r'.mono (s.get 1 rfl)) hs)) rfl (sq_v rfl (v_not rfl) rfl (sq_end (qs_n ?_)))))))))); refine wp_cn _ rfl (fun c7 => ?_) (fun c7 => ?_)
  · refine wp_sc (wp_sq (sq_v rfl (v_assign rfl) rfl (sq_end (qs_n (wp_rt (qs_r ?_)))))); exact qs_ret1 rfl rfl (fin_e (i := 1) rfl (by rw [labelsOf, if_neg (netB_false.1 c7)]; exact IntsO.nil))
  · refine wp_sk (qs_n (wp_sc (wp_sq (sq_v rfl (v_fieldAddr fd_39_1 ty_37 (by decide) rfl) rfl (sq_v rfl (v_loadB 0 ty_37 rfl rfl rfl) rfl ?_))))); have hnet := netB_true.1 c7; refine sq_x rfl (x_call rfl en_112 (fun w s => ct_i_dimsOf _ _ w (r.mono (s.get 1 rfl)) (net_axes hnet))) rfl ?_; rintro _ h11 ⟨arr, ok, rfl, hal, hok, hav⟩; refine sq_v rfl (v_move rfl) rfl (sq_v rfl (v_extract rfl rfl) rfl (sq_v rfl (v_extract rfl rfl) rfl ?_)); refine sq_x rfl (x_alloc ty_125 rfl) rfl ?_; rintro _ _ ⟨b3, rfl, rfl⟩; refine sq_m 0 rfl rfl (m_storeW 0 ty_125 rfl rfl rfl (by rw [ints_length]; exact hal) (ints_one arr) rfl (by simp)) rfl ?_; rintro _ _ ⟨rfl, rfl⟩; refine sq_v rfl (v_assign rfl) rfl (sq_end (qs_n (wp_sc (wp_sq ?_)))); refine sq_v rfl (v_loadNB 0 ty_125 rfl rfl (by rw [ints_length]; exact hal) (by rw [List.drop_zero, List.take_of_length_le]; rw [ints_length, hal]; omega)) rfl ?_; refine sq_x rfl (x_call rfl en_113 (fun w s => ct_i_occurring ts arr w (hav (hok.2 hnet.2.2.2.1)) (net_ax hnet))) rfl ?_; rintro v15 h15 r15; refine sq_v rfl (v_assign rfl) rfl (sq_end (qs_n (wp_rt ?_))); exact qs_ret1 rfl rfl (fin_t 0 (i := 4) rfl rfl rfl (by rw [labelsOf, if_pos hnet]; exact r15))
def fitsL (ds vs : List Int) : Prop := vs.length = ds.length ∧ ∀ j, j < vs.length → 0 ≤ vs.getD j 0 ∧ vs.getD j 0 < ds.getD j 0
def assignL (k p n : Int) (ts : List Ten) (op vs : List Int) : Prop := netL k p n ts op ∧ fitsL (dimsFor ts (labelsL ts)) vs
end Go.Proofs.Ythlmjnihihbckaa
namespace Go.Proofs.Ythlmjnihihbckaa
set_option maxRecDepth 100000
open Go.RowKit
theorem dimOf_append : ∀ {a b : List Ten} (_ : ∀ t ∈ a, AxOK t) (x : Int), dimOf (a ++ b) x = if dimOf a x ≠ 0 then dimOf a x else dimOf b x
  | [], b, _, x => by simp [dimOf]
  | u :: r, b, h, x => by
    have ih := dimOf_append (a := r) (b := b) (fun t ht => h t (by simp [ht])) x
    by_cases hx : x ∈ u.l
    · have hu := (h u (by simp)).2 _ (findI_get hx).1; simp only [List.cons_append, dimOf, if_pos hx]; rw [if_pos (by omega)]
    · simp only [List.cons_append, dimOf, if_neg hx]; exact ih
/-- In a network in order, each label's dimension is that of its axis. -/
theorem net_dim {k p n : Int} {ts : List Ten} {op : List Int} (h : netL k p n ts op) {t : Ten} (ht : t ∈ ts) {x : Int} (hx : x ∈ t.l) : dimOf ts x = t.d.getD (findI t.l x).toNat 0 := by
  obtain ⟨i, hi⟩ := List.getElem?_of_mem ht; have hlt := (List.getElem?_eq_some_iff.1 hi).1; have hg := findI_get hx; have hc := h.2.2.2.1 i hlt t hi _ hg.1 t hi; rw [hg.2] at hc; have e : ts = ts.take i ++ (t :: ts.drop (i + 1)) := by rw [← drop_at hi, List.take_append_drop]
  have hax := net_ax h
  conv => lhs; rw [e]
  rw [dimOf_append (fun u hu => hax u (List.mem_of_mem_take hu))]
  split
  · omega
  · rw [dimOf, if_pos hx]
theorem net_label {k p n : Int} {ts : List Ten} {op : List Int} (h : netL k p n ts op) {t : Ten} (ht : t ∈ ts) {x : Int} (hx : x ∈ t.l) : x ∈ labelsL ts := by
  have hg := findI_get hx; have ha := (net_axes h t ht).2.2 _ hg.1
  unfold axP at ha
  rw [hg.2] at ha; have hd := net_dim h ht hx; exact mem_labels.2 ⟨by omega, by have := ha.2.1; omega⟩
theorem nodup_map {α β : Type} {f : α → β} (hf : ∀ a b, f a = f b → a = b) {l : List α} (h : l.Nodup) : (l.map f).Nodup :=
  List.pairwise_map.2 (h.imp fun hne e => hne (hf _ _ e))
theorem labels_nodup (ts : List Ten) (m : Nat) : (labelsTo ts m).Nodup :=
  List.Pairwise.filter _ (nodup_map (f := fun (i : Nat) => (i : Int)) (fun a b e => by have e' : (a : Int) = b := e; omega) List.nodup_range)
theorem axes_nodup {ls ds : List Int} (h : axesL ls ds) : ls.Nodup := by
  rw [List.Nodup, List.pairwise_iff_getElem]; intro i j hi hj hij e; have := (h.2.2 j hj).2.2; refine this ?_; simp only [List.getD, List.getElem?_eq_getElem hj, Option.getD_some]; rw [← e]; exact List.mem_iff_getElem.2 ⟨i, by simp; omega, by simp⟩
theorem assign_idx {k p n : Int} {ts : List Ten} {op vs : List Int} (h : assignL k p n ts op vs) {t : Ten} (ht : t ∈ ts) : idxIn t.d (idxAt (labelsL ts) vs t.l) := by
  have hax := net_axes h.1 t ht; refine ⟨by simp [idxAt, hax.2.1], fun j hj => ?_⟩; have hj' : j < t.l.length := by rw [hax.2.1]; exact hj
  have hx := mem_getD hj'; have hg := findI_get (net_label h.1 ht hx); have hd := net_dim h.1 ht hx; have hfj : findI t.l (t.l.getD j 0) = j := find_at hax hj'; rw [hfj, Int.toNat_natCast] at hd; have hv := h.2.2 _ (by rw [h.2.1, dimsFor, List.length_map]; exact hg.1); rw [dimsFor, map_getD hg.1, hg.2, hd] at hv; rw [idxAt, map_getD hj']; exact hv
theorem assign_small {k p n : Int} {ts : List Ten} {op vs : List Int} (h : assignL k p n ts op vs) : ∀ b ∈ vs, 0 ≤ b ∧ b ≤ 1048576 := all_of fun j hj => by
  have := h.2.2 j hj; have hl := h.2.1; rw [dimsFor, List.length_map] at hl; rw [dimsFor, map_getD (by omega)] at this; have hr := dimOf_range (net_ax h.1) ((labelsL ts).getD j 0)
  omega
theorem oneL_in {k p n : Int} (h : ringL k p n) : InR k p n (oneL k p n) := by
  refine ⟨oneL_len k p n, fun a ha => ?_⟩; have ht := top_range h
  unfold oneL at ha
  split at ha
  · simp at ha; omega
  · split at ha
    · simp at ha; omega
    · have h1 : 1 ≤ topI k p n := by
        have h3 := fun hk => top_cap (k := k) (p := p) (n := n) h hk; have h2 := fun hk => top_poly (k := k) (p := p) (n := n) h hk
        unfold ringL at h
        have h1 := fun hk => top_1 (k := k) (p := p) (n := n) hk
        rcases h with h | h | h | h | h | h
        · have := h1 h.1; omega
        · have := h2 (.inl h.1); omega
        · have := h3 h.1; omega
        · omega
        · have := h2 (.inr (.inl h.1)); omega
        · have := h2 (.inr (.inr h.1)); omega
      rcases List.mem_or_eq_of_mem_set ha with ha | ha
      · have := List.eq_of_mem_replicate ha; omega
      · omega
theorem elt_mem {xs : List Int} {w i a : Int} (h : a ∈ elt xs w i) : a ∈ xs := List.mem_of_mem_drop (List.mem_of_mem_take h)
theorem elt_inR {k p n : Int} {t : Ten} (h : tensorL k p n t.l t.d t.x) {i : Int} (h0 : 0 ≤ i) (h1 : i < prodI t.d) : InR k p n (elt t.x (widthI k n) i) := by
  have hw := width_range h.1; refine ⟨?_, fun a ha => h.2.2.2 a (elt_mem ha)⟩; have hsz := h.2.2.1; have hs := sizeI_ge.1 h.2.1; rw [sizeI_yes hs.1 hs.2] at hsz; have := Int.mul_le_mul_of_nonneg_right (show i + 1 ≤ prodI t.d by omega) (show 0 ≤ widthI k n by omega); have h2 := Int.mul_nonneg h0 (show 0 ≤ widthI k n by omega); rw [Int.add_mul, Int.one_mul] at this; simp only [elt, List.length_take, List.length_drop]
  omega
noncomputable def weightTo (k p n : Int) (labels vs : List Int) (ts : List Ten) : List Int := ts.foldl (fun a t => mulL k p n a (elt t.x (widthI k n) (offL t.d (idxAt labels vs t.l)))) (oneL k p n)
theorem weight_step {k p n : Int} {labels vs : List Int} {ts : List Ten} {i : Nat} {t : Ten} (h : ts[i]? = some t) : weightTo k p n labels vs (ts.take (i + 1)) = mulL k p n (weightTo k p n labels vs (ts.take i)) (elt t.x (widthI k n) (offL t.d (idxAt labels vs t.l))) := by
  rw [take_ten h, weightTo, List.foldl_append]; rfl
/-- What is asked of the numbers at the labels. -/
structure AtOK (k p n : Int) (ts : List Ten) (labels vs : List Int) : Prop where
  ring : ringL k p n
  ten : ∀ t ∈ ts, tensorL k p n t.l t.d t.x
  nodup : labels.Nodup
  mem : ∀ t ∈ ts, ∀ x ∈ t.l, x ∈ labels
  idx : ∀ t ∈ ts, idxIn t.d (idxAt labels vs t.l)
  len : vs.length = labels.length
  few : labels.length ≤ 100
  small : ∀ b ∈ vs, 0 ≤ b ∧ b ≤ 1048576
theorem AtOK.off {k p n : Int} {ts : List Ten} {labels vs : List Int} (h : AtOK k p n ts labels vs) {t : Ten} (ht : t ∈ ts) : 0 ≤ offL t.d (idxAt labels vs t.l) ∧ offL t.d (idxAt labels vs t.l) < prodI t.d := by
  have := offL_in (fun d hd => (dims_mem (axes_dims (tensor_axes (h.ten t ht))) d hd).1) (h.idx t ht)
  omega
theorem weight_in {k p n : Int} {ts : List Ten} {labels vs : List Int} (h : AtOK k p n ts labels vs) : ∀ i, i ≤ ts.length → InR k p n (weightTo k p n labels vs (ts.take i))
  | 0, _ => by simpa [weightTo] using oneL_in h.ring
  | i + 1, hi => by
    have ht : ts[i]? = some ts[i] := List.getElem?_eq_getElem (by omega); have hm := List.mem_of_getElem? ht; rw [weight_step ht]; exact mulL_in h.ring (weight_in h i (by omega)) (elt_inR (h.ten _ hm) (h.off hm).1 (h.off hm).2)
theorem assign_at {k p n : Int} {ts : List Ten} {op vs : List Int} (h : assignL k p n ts op vs) : AtOK k p n ts (labelsL ts) vs :=
  ⟨h.1.1, h.1.2.2.1, labels_nodup ts 100, fun t ht x hx => net_label h.1 ht hx, fun t ht => assign_idx h ht, by have := h.2.1; rwa [dimsFor, List.length_map] at this, labels_len ts 100, assign_small h⟩
end Go.Proofs.Ythlmjnihihbckaa
namespace Go.Proofs.Ythlmjnihihbckaa
set_option maxRecDepth 100000
open Go.RowKit
/-- 'HK' is 'HS', some parts of it forgotten. -/
def WkL : List PH → List PH → Prop
  | [], [] => True
  | h :: HS, k :: HK => (k = h ∨ k = emp) ∧ WkL HS HK
  | _, _ => False
theorem WkL.refl : ∀ HS, WkL HS HS
  | [] => trivial
  | _ :: HS => ⟨.inl rfl, WkL.refl HS⟩
theorem WkL.le : ∀ {HS HK : List PH}, WkL HS HK → ∀ x ∈ HK, x = emp ∨ x ∈ HS
  | [], [], _, x, h => by simp at h
  | _ :: _, [], h, _, _ => h.elim
  | [], _ :: _, h, _, _ => h.elim
  | h :: HS, k :: HK, w, x, hx => by
    rcases List.mem_cons.1 hx with rfl | hx
    · rcases w.1 with e | e
      · exact .inr (by simp [e])
      · exact .inl e
    · rcases WkL.le w.2 x hx with e | e
      · exact .inl e
      · exact .inr (by simp [e])
theorem WkL.sep : ∀ {HS HK : List PH}, WkL HS HK → sepL HS → sepL HK
  | [], [], _, _ => trivial
  | _ :: _, [], h, _ => h.elim
  | [], _ :: _, h, _ => h.elim
  | h :: HS, k :: HK, w, s => by
    refine ⟨fun x hx => ?_, WkL.sep w.2 s.2⟩
    rcases w.1 with rfl | rfl
    · rcases WkL.le w.2 x hx with rfl | e
      · exact PDj.symm (PDj.emp _)
      · exact s.1 x e
    · exact PDj.emp _
theorem WkL.set : ∀ {HS HK : List PH} {p : Nat} {h' : PH}, WkL HS HK → HK[p]? = some emp → WkL (HS.set p h') HK
  | [], [], _, _, _, e => by simp at e
  | _ :: _, [], _, _, h, _ => h.elim
  | [], _ :: _, _, _, h, _ => h.elim
  | h :: HS, k :: HK, 0, h', w, e => by
    simp only [List.getElem?_cons_zero, Option.some.injEq] at e; exact ⟨.inr e, w.2⟩
  | h :: HS, k :: HK, p + 1, h', w, e => ⟨w.1, WkL.set (p := p) w.2 (by simpa using e)⟩
section
variable (P : Program) (n : Nat) (w0 : World)
end
section
variable {P : Program} {n : Nat} {w0 : World} {K : Env} {HS HK : List PH} {Q : Exit → Act → World → Prop} {ops : Array Oper} {m : Nat} {r : List (Nat × Bool)} {listed : Array Bool}
end
end Go.Proofs.Ythlmjnihihbckaa
namespace Go.Proofs.Ythlmjnihihbckaa
set_option maxRecDepth 100000
open Go.RowKit
structure Stp where
  a : Int
  b : Int
def stepCells (ss : List Stp) : List Value := ss.flatMap fun s => [num s.a, num s.b]
theorem stepCells_at : ∀ {ss : List Stp} {i : Nat} {s : Stp}, ss[i]? = some s → ((stepCells ss).drop (i * 2)).take 2 = [num s.a, num s.b]
  | [], i, s, h => by simp at h
  | u :: r, 0, s, h => by cases h; rfl
  | u :: r, i + 1, s, h => by
    have ih := stepCells_at (ss := r) (i := i) (s := s) (by simpa using h); rw [show (i + 1) * 2 = i * 2 + 1 + 1 by omega]; exact ih
def StepsR (ss : List Stp) (v : Value) (h : PH) : Prop := RowR (stepCells ss) ss.length 2 v h
def StepsO (ss : List Stp) (v : Value) (h : PH) : Prop := RowO 73 (stepCells ss) ss.length 2 v h
theorem StepsR.mono {ss : List Stp} {v : Value} {h h' : PH} (r : StepsR ss v h) (l : PLe h h') : StepsR ss v h' := RowR.mono r l
theorem StepsO.toR {ss : List Stp} {v : Value} {h : PH} (r : StepsO ss v h) : StepsR ss v h := RowO.toR r
theorem StepsR.sl {ss : List Stp} {v : Value} {h : PH} (r : StepsR ss v h) : SlL v ss.length := RowR.sl r
theorem StepsR.le {ss : List Stp} {v : Value} {h : PH} (r : StepsR ss v h) : (ss.length : Int) ≤ 9223372036854775807 := by
  obtain ⟨_, a, c, _, ⟨h, _⟩, _⟩ := r
  unfold maxLen at h
  omega
theorem StepsR.at {ss : List Stp} {v : Value} {h : PH} (r : StepsR ss v h) : ∃ cells, RowR cells ss.length 2 v h ∧ ∀ i, i < ss.length → ∃ x, ss[i]? = some x ∧ (cells.drop (i * 2)).take 2 = [num x.a, num x.b] :=
  ⟨_, r, fun _ hi => ⟨_, List.getElem?_eq_getElem hi, stepCells_at (List.getElem?_eq_getElem hi)⟩⟩
theorem StepsO.nil : StepsO [] (.slice none 0 0) emp := ⟨rfl, .inl ⟨rfl, rfl, rfl⟩⟩
section
variable {P : Program} {n : Nat} {w0 : World} {K : Env} {HS : List PH} {d : Option Tmp} {ty : TypeId} {ps : String} {af : Array Edge} {g : Option (Nat × Bool)}
end
structure Lv where
  n : Int
  l : List Int
def LvR (x : Lv) (cs : List Value) (h : PH) : Prop := ∃ v, cs = [num x.n, v] ∧ IntsR x.l v h
theorem LvR.mono {x : Lv} {cs : List Value} {h h' : PH} (r : LvR x cs h) (l : PLe h h') : LvR x cs h' := let ⟨v, e, r⟩ := r; ⟨v, e, r.mono l⟩
def LiveR (xs : List Lv) (v : Value) (h : PH) : Prop := RowsR 2 LvR xs v h
theorem LiveR.mono {xs : List Lv} {v : Value} {h h' : PH} (r : LiveR xs v h) (l : PLe h h') : LiveR xs v h' := RowsR.mono (R := LvR) LvR.mono r l
theorem LiveR.sl {xs : List Lv} {v : Value} {h : PH} (r : LiveR xs v h) : SlL v xs.length := RowsR.sl r
theorem LiveR.le {xs : List Lv} {v : Value} {h : PH} (r : LiveR xs v h) : (xs.length : Int) ≤ 9223372036854775807 := RowsR.le r
theorem LiveR.at {xs : List Lv} {v : Value} {h : PH} (r : LiveR xs v h) : ∃ cells, RowR cells xs.length 2 v h ∧ ∀ i, i < xs.length → ∃ x a, xs[i]? = some x ∧ (cells.drop (i * 2)).take 2 = [num x.n, a] ∧ IntsR x.l a h := by
  obtain ⟨cells, rr, hc⟩ := r; refine ⟨cells, rr, fun i hi => ?_⟩; have ht : xs[i]? = some xs[i] := List.getElem?_eq_getElem hi; obtain ⟨a, e, r1⟩ := hc i _ ht; exact ⟨_, a, ht, e, r1⟩
/-- The elements' cells, read in h. -/
def LvL (xs : List Lv) (cs : List Value) (h : PH) : Prop := cs.length = xs.length * 2 ∧ ∀ (i : Nat) (x : Lv), xs[i]? = some x → LvR x ((cs.drop (i * 2)).take 2) h
theorem LvL.nil (h : PH) : LvL [] [] h := ⟨rfl, fun i x e => by simp at e⟩
theorem LvL.mono {xs : List Lv} {cs : List Value} {h h' : PH} (r : LvL xs cs h) (l : PLe h h') : LvL xs cs h' := ⟨r.1, fun i x e => (r.2 i x e).mono l⟩
theorem LvL.snoc {xs : List Lv} {cs : List Value} {h : PH} (r : LvL xs cs h) {x : Lv} {a : Value} (r1 : IntsR x.l a h) : LvL (xs ++ [x]) (cs ++ [num x.n, a]) h := by
  refine ⟨by simp [r.1]; omega, fun i y e => ?_⟩
  by_cases hi : i < xs.length
  · rw [List.getElem?_append_left hi] at e; have := r.2 i y e; have e2 : ((cs ++ [num x.n, a]).drop (i * 2)).take 2 = (cs.drop (i * 2)).take 2 := by
      rw [List.drop_append, List.take_append]; have hl : 2 - (cs.drop (i * 2)).length = 0 := by simp [r.1]; omega
      rw [hl, List.take_zero, List.append_nil]
    rw [e2]; exact this
  · have hlt := (List.getElem?_eq_some_iff.1 e).1
    simp at hlt
    have : i = xs.length := by omega
    subst this; rw [List.getElem?_append_right (by omega)] at e
    simp at e
    subst e; have e2 : ((cs ++ [num x.n, a]).drop (xs.length * 2)).take 2 = [num x.n, a] := by
      rw [← r.1, List.drop_left]; rfl
    rw [e2]; exact ⟨a, rfl, r1⟩
theorem LvL.live {xs : List Lv} {cs : List Value} {v : Value} {h : PH} (r : LvL xs cs h) (rr : RowR cs xs.length 2 v h) : LiveR xs v h := ⟨cs, rr, r.2⟩
def joinI (a b : List Int) : List Int := a ++ b.filter fun x => decide (x ∉ a)
structure Sh where
  all : List (List Int)
  gone : List Bool
def Sh.lab (s : Sh) (i : Nat) : List Int := s.all.getD i []
def Sh.ok (s : Sh) : Prop := s.gone.length = s.all.length
def Sh.live (s : Sh) (a : Int) : Prop := 0 ≤ a ∧ a < s.all.length ∧ s.gone.getD a.toNat false = false
def Sh.ixs (s : Sh) : List Nat := (List.range s.all.length).filter fun i => !s.gone.getD i false
def Sh.lv (s : Sh) : List Lv := s.ixs.map fun (i : Nat) => ⟨i, s.lab i⟩
def Sh.kept (op : List Int) (s : Sh) (a b : Nat) (x : Int) : Prop := x ∈ op ∨ ∃ i ∈ s.ixs, i ≠ a ∧ i ≠ b ∧ x ∈ s.lab i
open Classical in
noncomputable def Sh.res (op : List Int) (s : Sh) (a b : Nat) : List Int := (joinI (s.lab a) (s.lab b)).filter fun x => decide (s.kept op a b x)
noncomputable def Sh.step (op : List Int) (s : Sh) (a b : Nat) : Sh := ⟨s.all ++ [s.res op a b], ((s.gone.set a true).set b true) ++ [false]⟩
theorem Sh.step_ok {op : List Int} {s : Sh} (h : s.ok) (a b : Nat) : (s.step op a b).ok := by simp only [Sh.ok, Sh.step, List.length_append, List.length_set] at *; simp [h]
theorem ixs_nodup (s : Sh) : s.ixs.Nodup := List.Pairwise.filter _ List.nodup_range
theorem mem_ixs {s : Sh} {i : Nat} : i ∈ s.ixs ↔ i < s.all.length ∧ s.gone.getD i false = false := by simp [Sh.ixs]
theorem live_ixs {s : Sh} {a : Int} : s.live a ↔ 0 ≤ a ∧ a.toNat ∈ s.ixs := by
  rw [mem_ixs]
  unfold Sh.live
  constructor
  · rintro ⟨h1, h2, h3⟩; exact ⟨h1, by omega, h3⟩
  · rintro ⟨h1, h2, h3⟩; exact ⟨h1, by omega, h3⟩
/-- The place of a number among what is live. -/
def Sh.place (s : Sh) (a : Int) : Int := findI (s.ixs.map Int.ofNat) a
theorem getD_append_left {α : Type} {l r : List α} {i : Nat} {d : α} (h : i < l.length) : (l ++ r).getD i d = l.getD i d := by simp [List.getD, List.getElem?_append_left h]
theorem step_ixs {op : List Int} {s : Sh} (h : s.ok) {a b : Nat} : (s.step op a b).ixs = (s.ixs.filter fun i => decide (i ≠ a ∧ i ≠ b)) ++ [s.all.length] := by
  have hl : (s.step op a b).all.length = s.all.length + 1 := by simp [Sh.step]
  have hg : (s.step op a b).gone.getD s.all.length false = false := by
    have : ((s.gone.set a true).set b true).length = s.all.length := by simpa [Sh.ok] using h
    simp only [Sh.step, List.getD]; rw [List.getElem?_append_right (by omega), this]
    simp
  unfold Sh.ixs
  rw [hl, List.range_succ, List.filter_append, List.filter_filter]
  congr 1
  · apply List.filter_congr
    intro i hi; have hi' : i < s.all.length := by simpa using hi
    have e : (s.step op a b).gone.getD i false = if i = a ∨ i = b then true else s.gone.getD i false := by
      have hlen : i < s.gone.length := by rw [h]; exact hi'
      rw [Sh.step, getD_append_left (by simpa using hlen)]; simp only [List.getD, List.getElem?_set, List.length_set]
      by_cases e1 : b = i
      · subst e1; simp [hlen]
      · by_cases e2 : a = i
        · subst e2; simp [hlen, e1]
        · simp [e1, e2, Ne.symm e1, Ne.symm e2]
    rw [e]
    by_cases hc : i = a ∨ i = b
    · rw [if_pos hc]; rcases hc with rfl | rfl <;> simp
    · rw [if_neg hc]; have : i ≠ a ∧ i ≠ b := ⟨fun e => hc (.inl e), fun e => hc (.inr e)⟩
      simp [this]
  · rw [List.filter_cons_of_pos (by rw [hg]; rfl)]; rfl
theorem step_lab {op : List Int} {s : Sh} {a b i : Nat} (hi : i < s.all.length) : (s.step op a b).lab i = s.lab i := by rw [Sh.lab, Sh.step, getD_append_left hi]; rfl
theorem step_lab_new {op : List Int} {s : Sh} {a b : Nat} : (s.step op a b).lab s.all.length = s.res op a b := by simp [Sh.lab, Sh.step, List.getD]
end Go.Proofs.Ythlmjnihihbckaa
namespace Go.Proofs.Ythlmjnihihbckaa
set_option maxRecDepth 100000
open Go.RowKit
abbrev stCells (arr : List Int) (vo lvv : Value) (nx : Int) : List Value := ints arr ++ [vo, lvv, num nx]
section
variable {P : Program} {n : Nat} {w0 : World} {K : Env} {HS : List PH} {d : Option Tmp} {ty : TypeId} {ps : String} {af : Array Edge} {g : Option (Nat × Bool)}
end
abbrev ptrV (b : Nat) : Value := .pointer (some ⟨b, 0, none⟩)
/-- The state as it is read. -/
structure StR (arr : List Int) (vo lvv : Value) (s : Sh) (b : Nat) (h : PH) : Prop where
  len : arr.length = 100
  ok : s.ok
  cells : ∀ (j : Nat) (u : Value), (stCells arr vo lvv s.all.length)[j]? = some u → cellP h b j = some u
  live : LiveR s.lv lvv h
theorem StR.mono {arr : List Int} {vo lvv : Value} {s : Sh} {b : Nat} {h h' : PH} (r : StR arr vo lvv s b h) (l : PLe h h') : StR arr vo lvv s b h' := ⟨r.len, r.ok, fun j u e => cellP.mono l (r.cells j u e), r.live.mono l⟩
theorem StR.arr {arr : List Int} {vo lvv : Value} {s : Sh} {b : Nat} {h : PH} (r : StR arr vo lvv s b h) : (ints arr).length = 100 ∧ ∀ (j : Nat) (u : Value), (ints arr)[j]? = some u → cellP h b (0 + 0 + j) = some u :=
  ⟨by rw [ints_length]; exact r.len, fun j u e => by
    rw [show 0 + 0 + j = j by omega]; refine r.cells j u ?_; rw [List.getElem?_append_left (List.getElem?_eq_some_iff.1 e).1]; exact e⟩
/-- The state that a call has for its own; 'hs' is what its slices lie in. -/
def StO (arr : List Int) (vo : Value) (s : Sh) (b : Nat) (h : PH) : Prop := arr.length = 100 ∧ s.ok ∧ ∃ lvv hs, LiveR s.lv lvv hs ∧ Made h [box b (stCells arr vo lvv s.all.length) 128, hs]
theorem StR.box {arr : List Int} {vo lvv : Value} {s : Sh} {b : Nat} {h : PH} (hl : arr.length = 100) (hok : s.ok) (hb : PLe (box b (stCells arr vo lvv s.all.length) 128) h) (r : LiveR s.lv lvv h) : StR arr vo lvv s b h :=
  ⟨hl, hok, fun j u e => cellP.mono hb (by rw [cellP_box]; exact e), r⟩
theorem StO.toR {arr : List Int} {vo : Value} {s : Sh} {b : Nat} {h : PH} (r : StO arr vo s b h) : ∃ lvv, StR arr vo lvv s b h := by
  obtain ⟨h1, h2, lvv, hs, h3, md⟩ := r; exact ⟨lvv, StR.box h1 h2 (md.le _ (by simp)) (h3.mono (md.le hs (by simp)))⟩
end Go.Proofs.Ythlmjnihihbckaa
namespace Go.Proofs.Ythlmjnihihbckaa
set_option maxRecDepth 100000
open Go.RowKit
theorem filter_yes {xs : List Int} {p : Int → Bool} {i : Nat} (h : i < xs.length) (hp : p (xs.getD i 0) = true) : (xs.take (i + 1)).filter p = (xs.take i).filter p ++ [xs.getD i 0] := by
  rw [take_succ h, List.filter_append, List.filter_cons_of_pos hp]; rfl
theorem filter_no {xs : List Int} {p : Int → Bool} {i : Nat} (h : i < xs.length) (hp : p (xs.getD i 0) = false) : (xs.take (i + 1)).filter p = (xs.take i).filter p := by
  rw [take_succ h, List.filter_append, List.filter_cons_of_neg (by rw [hp]; decide)]; simp
theorem filter_take_len (xs : List Int) (p : Int → Bool) (i : Nat) : ((xs.take i).filter p).length ≤ xs.length := by
  have := List.length_filter_le p (xs.take i); simp only [List.length_take] at this
  omega
theorem ct_i_joinLabels (xs ys : List Int) (v u : Value) (w : World) (r : IntsR xs v (hp w)) (r' : IntsR ys u (hp w)) (hs : xs.length + ys.length ≤ 1000000) :
    Calls Try.prog 124 [v, u].toArray w (Ret w emp (IntsO (joinI xs ys))) := by
  refine calls_in Try.func124 rfl Try.ntmps124 rfl (Sat.start w) ?_; have hle0 := r.le; have hle1 := r'.le; refine wp_sc (wp_sq (sq_v rfl (v_assign rfl) rfl (sq_end (qs_n (wp_sc (wp_sq (sq_v rfl (v_move rfl) rfl ?_))))))); refine sq_x rfl (x_call rfl en_94 (fun w s => ct_i_copyInts _ _ w (r.mono (s.get 0 rfl)) (by first | assumption | omega))) rfl ?_; rintro v9 h9 r9; refine sq_v rfl (v_assign rfl) rfl (sq_end (qs_n (wp_sc (wp_sc (wp_sq (sq_v rfl (v_move rfl) rfl (sq_v rfl (v_len Try.underlying25 rfl r'.sl) rfl (sq_v rfl (v_move rfl) rfl (sq_end (qs_n (wp_bl ?_))))))))))); refine wp_lp (σ := Nat × Value × PH) (fun z_ => [(0, v), (4, .slice none 0 0), (5, z_.2.1), (10, u), (11, num ys.length), (12, num z_.1)]) (fun z_ => [z_.2.2, hp w]) (fun z_ => z_.1 ≤ ys.length ∧ IntsO (xs ++ (ys.take z_.1).filter fun x => decide (x ∉ xs)) z_.2.1 z_.2.2) (fun z_ => ys.length - z_.1) (0, v9, h9) (⟨by (try dsimp only); omega, by (try dsimp only); simpa using r9⟩) ⟨rfl, rfl, (by first | rfl | exact ksub rfl (by first | omega | (simp; done) | (simp; omega))), rfl, rfl, (by first | rfl | exact ksub rfl (by first | omega | (simp; done) | (simp; omega))), trivial⟩ (fun _ s => s) ?_; rintro ⟨i, lv, lh⟩ ⟨hi, q⟩; dsimp only at hi q ⊢; have hle_q := q.toR.le; have hfl := filter_take_len ys (fun x => decide (x ∉ xs)) i; refine wp_sc (wp_sq (sq_v rfl (v_lss rfl rfl) rfl (sq_end (qs_n (wp_sc ?_))))); refine wp_cd rfl (fun c13 => ?_) (fun c13 => ?_)
  · refine wp_sk (qs_n (wp_sc (wp_bl (wp_sc (wp_sq ?_))))); refine sq_v rfl (v_idxI Try.underlying25 ty_3 rfl rfl r' (by first | omega | (simp; omega) | (simp only [List.length_append, List.length_cons, List.length_nil]; omega) | (rw [List.length_set]; omega)) (by first | omega | (simp; omega) | (simp only [List.length_append, List.length_cons, List.length_nil]; omega) | (rw [List.length_set]; omega))) rfl ?_; refine sq_v rfl (v_loadI (k := i) 1 ty_3 rfl rfl r' (by first | omega | (simp; omega) | (simp only [List.length_append, List.length_cons, List.length_nil]; omega) | (rw [List.length_set]; omega))) rfl ?_; refine sq_v rfl (v_assign rfl) rfl (sq_end (qs_n (wp_sc (wp_sq (sq_v rfl (v_move rfl) rfl (sq_v rfl (v_move rfl) rfl (sq_u rfl (x_callv rfl en_67 (fun w s => ct_i_hasInt _ _ _ w (r.mono (s.get 1 rfl)))) rfl (sq_v rfl (v_not rfl) rfl (sq_end (qs_n ?_)))))))))); refine wp_cnd rfl (fun c19 => ?_) (fun c19 => ?_)
    · refine wp_sq (sq_v rfl (v_move rfl) rfl (sq_v rfl (v_move rfl) rfl ?_)); refine sq_x rfl (x_buildS [num (ys.getD i 0)] Try.underlying25 ty_3 (by decide) rfl rfl rfl (by decide) (by decide) (by intro v hv; simp at hv; rcases hv with rfl <;> rfl)) rfl ?_; intro v22 h22 (r22 : IntsO [ys.getD i 0] v22 h22); refine sq_m 1 rfl rfl (m_appI 1 0 Try.underlying25 ty_3 rfl rfl rfl rfl q rfl r22.toR (by first | omega | (simp; omega) | (simp only [List.length_append, List.length_cons, List.length_nil]; omega) | (rw [List.length_set]; omega))) rfl ?_; intro v23 h_r23 r23; refine sq_v rfl (v_assign rfl) rfl (sq_end (qs_bn (qs_n (wp_sq ?_)))); refine sq_v rfl (v_add rfl rfl ((by unfold I64; omega))) rfl ?_; refine sq_v rfl (v_move rfl) rfl (sq_end ?_); exact qs_bk (i + 1, v23, h_r23) ⟨by (try dsimp only); omega, by (try dsimp only); rw [filter_yes (by omega) (by simpa using c19), ← List.append_assoc]; exact r23⟩ (by simp only; omega) ⟨rfl, rfl, (by first | rfl | exact ksub rfl (by first | omega | (simp; done) | (simp; omega))), rfl, rfl, (by first | rfl | exact ksub rfl (by first | omega | (simp; done) | (simp; omega))), trivial⟩ (fun _ s => s.pick [1, 2] (by decide) rfl)
    · refine wp_sk (qs_bn (qs_n (wp_sq ?_))); refine sq_v rfl (v_add rfl rfl ((by unfold I64; omega))) rfl ?_; refine sq_v rfl (v_move rfl) rfl (sq_end ?_); exact qs_bk (i + 1, lv, lh) ⟨by (try dsimp only); omega, by (try dsimp only); rw [filter_no (by omega) (by simpa using c19)]; exact q⟩ (by simp only; omega) ⟨rfl, rfl, (by first | rfl | exact ksub rfl (by first | omega | (simp; done) | (simp; omega))), rfl, rfl, (by first | rfl | exact ksub rfl (by first | omega | (simp; done) | (simp; omega))), trivial⟩ (fun _ s => s)
  · refine wp_ex (qs_x (qs_x (qs_bx (qs_n (wp_sc (wp_sq (sq_v rfl (v_move rfl) rfl (sq_v rfl (v_assign rfl) rfl (sq_end (qs_n (wp_rt ?_))))))))))); exact qs_ret1 rfl rfl (fin_t 0 (i := 1) rfl rfl rfl (by rw [List.take_of_length_le (by omega)] at q; exact q))
theorem joinI_len (xs ys : List Int) : (joinI xs ys).length ≤ xs.length + ys.length := by
  have := List.length_filter_le (fun x => decide (x ∉ xs)) ys; simp only [joinI, List.length_append]
  omega
end Go.Proofs.Ythlmjnihihbckaa
namespace Go.Proofs.Ythlmjnihihbckaa
set_option maxRecDepth 100000
open Go.RowKit
theorem RowO.nil {e : TypeId} {sz : Nat} : RowO e [] 0 sz (.slice none 0 0) emp := ⟨by simp, .inl ⟨rfl, rfl, rfl⟩⟩
def sh0 (ts : List Ten) : Sh := ⟨ts.map (·.l), List.replicate ts.length false⟩
theorem sh0_ok (ts : List Ten) : (sh0 ts).ok := by simp [Sh.ok, sh0]
theorem sh0_ixs (ts : List Ten) : (sh0 ts).ixs = List.range ts.length := by
  unfold Sh.ixs
  have : (sh0 ts).all.length = ts.length := by simp [sh0]
  rw [this, List.filter_eq_self]; intro i hi; simp only [sh0, List.getD, List.getElem?_replicate]
  split <;> rfl
end Go.Proofs.Ythlmjnihihbckaa
namespace Go.Proofs.Ythlmjnihihbckaa
set_option maxRecDepth 100000
open Go.RowKit
theorem pigeon : ∀ {l m : List Int}, l.Nodup → (∀ x ∈ l, x ∈ m) → l.length ≤ m.length
  | [], _, _, _ => by simp
  | a :: r, m, hn, hs => by
    have ha := hs a (by simp); have hn' := List.nodup_cons.1 hn; have ih := pigeon (l := r) (m := m.erase a) hn'.2 (fun x hx => (List.mem_erase_of_ne (fun e => hn'.1 (by rw [← e]; exact hx))).2 (hs x (by simp [hx]))); rw [List.length_erase_of_mem ha] at ih; have : 0 < m.length := List.length_pos_of_mem ha; simp only [List.length_cons]
    omega
theorem joinI_nodup {a b : List Int} (ha : a.Nodup) (hb : b.Nodup) : (joinI a b).Nodup := by
  refine List.nodup_append.2 ⟨ha, List.Pairwise.filter _ hb, fun x hx y hy e => ?_⟩; subst e; have := (List.mem_filter.1 hy).2
  simp [hx] at this
theorem mem_joinI {a b : List Int} {x : Int} : x ∈ joinI a b ↔ x ∈ a ∨ x ∈ b := by
  simp only [joinI, List.mem_append, List.mem_filter, decide_eq_true_eq]
  constructor
  · rintro (h | h)
    · exact .inl h
    · exact .inr h.1
  · rintro (h | h)
    · exact .inl h
    · by_cases hx : x ∈ a
      · exact .inl hx
      · exact .inr ⟨h, hx⟩
/-- Each row of labels is without repetition and of labels of the network. -/
def Sh.fine (s : Sh) : Prop := s.ok ∧ ∀ i, (s.lab i).Nodup ∧ ∀ x ∈ s.lab i, 0 ≤ x ∧ x ≤ 99
theorem few_labels {l : List Int} (h : l.Nodup) (h1 : ∀ x ∈ l, 0 ≤ x ∧ x ≤ 99) : l.length ≤ 100 := by
  have := pigeon (m := (List.range 100).map Int.ofNat) h (fun x hx => by
    have := h1 x hx; simp only [List.mem_map, List.mem_range]; exact ⟨x.toNat, by omega, show ((x.toNat : Nat) : Int) = x by omega⟩)
  simpa using this
theorem Sh.fine.few {s : Sh} (h : s.fine) (i : Nat) : (s.lab i).length ≤ 100 := few_labels (h.2 i).1 (h.2 i).2
theorem res_mem {op : List Int} {s : Sh} {a b : Nat} {x : Int} (h : x ∈ s.res op a b) : x ∈ s.lab a ∨ x ∈ s.lab b := mem_joinI.1 (List.mem_filter.1 h).1
theorem Sh.fine.step {s : Sh} (h : s.fine) (op : List Int) (a b : Nat) : (s.step op a b).fine := by
  refine ⟨Sh.step_ok h.1 a b, fun i => ?_⟩
  rcases Nat.lt_trichotomy i s.all.length with hi | hi | hi
  · rw [step_lab hi]; exact h.2 i
  · subst hi; rw [step_lab_new]; refine ⟨List.Pairwise.filter _ (joinI_nodup (h.2 a).1 (h.2 b).1), fun x hx => ?_⟩
    rcases res_mem hx with hx | hx
    · exact (h.2 a).2 x hx
    · exact (h.2 b).2 x hx
  · have : (s.step op a b).lab i = [] := by simp only [Sh.lab, Sh.step, List.getD]; rw [List.getElem?_eq_none (by simp; omega)]; rfl
    rw [this]; exact ⟨List.nodup_nil, fun x hx => by simp at hx⟩
theorem sh0_fine {ts : List Ten} (h : ∀ t ∈ ts, axesL t.l t.d) : (sh0 ts).fine := by
  refine ⟨sh0_ok ts, fun i => ?_⟩
  by_cases hi : i < ts.length
  · have : (sh0 ts).lab i = ts[i].l := by simp [Sh.lab, sh0, List.getD, hi]
    rw [this]; have hax := h ts[i] (List.getElem_mem hi); exact ⟨axes_nodup hax, fun x hx => by obtain ⟨j, hj, e⟩ := getD_of_mem hx; have := (hax.2.2 j hj).1; rw [e] at this; exact this⟩
  · have : (sh0 ts).lab i = [] := by simp [Sh.lab, sh0, List.getD, Nat.le_of_not_lt hi]
    rw [this]; exact ⟨List.nodup_nil, fun x hx => by simp at hx⟩
/-- The state behind some steps. -/
noncomputable def shTo (op : List Int) (s : Sh) (ss : List Stp) : Sh := ss.foldl (fun s x => s.step op x.a.toNat x.b.toNat) s
theorem shTo_step {op : List Int} {s : Sh} {ss : List Stp} {i : Nat} {x : Stp} (h : ss[i]? = some x) : shTo op s (ss.take (i + 1)) = (shTo op s (ss.take i)).step op x.a.toNat x.b.toNat := by
  obtain ⟨hi, e⟩ := List.getElem?_eq_some_iff.1 h; rw [List.take_succ_eq_append_getElem hi, e, shTo, List.foldl_append]; rfl
theorem shTo_fine {op : List Int} {s : Sh} (h : s.fine) : ∀ ss, (shTo op s ss).fine
  | [] => h
  | x :: r => shTo_fine (h.step op x.a.toNat x.b.toNat) r
theorem shTo_all {op : List Int} : ∀ {s : Sh} {ss : List Stp}, (shTo op s ss).all.length = s.all.length + ss.length
  | s, [] => by simp [shTo]
  | s, x :: r => by
    have := shTo_all (op := op) (s := s.step op x.a.toNat x.b.toNat) (ss := r)
    show (shTo op (s.step op x.a.toNat x.b.toNat) r).all.length = _
    rw [this]
    simp [Sh.step]; omega
def stepOk (s : Sh) (x : Stp) : Prop := s.live x.a ∧ s.live x.b ∧ x.a < x.b
def okSteps (op : List Int) (s : Sh) (ss : List Stp) : Prop := ∀ i, i < ss.length → ∀ x, ss[i]? = some x → stepOk (shTo op s (ss.take i)) x
def orderL (k p n : Int) (ts : List Ten) (op : List Int) (ss : List Stp) : Prop := netL k p n ts op ∧ ss.length = ts.length - 1 ∧ okSteps op (sh0 ts) ss
end Go.Proofs.Ythlmjnihihbckaa
namespace Go.Proofs.Ythlmjnihihbckaa
set_option maxRecDepth 100000
open Go.RowKit
/-- Of the numbers ds those whose label fits p. -/
def selP (p : Int → Bool) : List Int → List Int → List Int
  | l :: ls, d :: ds => if p l then d :: selP p ls ds else selP p ls ds
  | _, _ => []
theorem selP_map (p : Int → Bool) (f : Int → Int) : ∀ ls : List Int, selP p ls (ls.map f) = (ls.filter p).map f
  | [] => rfl
  | l :: ls => by
    have ih := selP_map p f ls; simp only [List.map_cons, selP, List.filter_cons, ih]
    split <;> simp
def joinD (a b : Ten) : List Int := a.d ++ selP (fun x => decide (x ∉ a.l)) b.l b.d
/-- A label of both has two dimensions. -/
def mism (a b : Ten) : Prop := ∃ i, i < b.l.length ∧ b.l.getD i 0 ∈ a.l ∧ a.d.getD (findI a.l (b.l.getD i 0)).toNat 0 ≠ b.d.getD i 0
theorem nodup_not_take {xs : List Int} (h : xs.Nodup) {i : Nat} (hi : i < xs.length) : xs.getD i 0 ∉ xs.take i := by
  intro hm; obtain ⟨j, hj, e⟩ := getD_of_mem hm; simp only [List.length_take] at hj; have e2 : (xs.take i).getD j 0 = xs.getD j 0 := by simp only [List.getD, List.getElem?_take]; rw [if_pos (by omega)]
  rw [e2] at e; have h1 : j < xs.length := by omega
  simp only [List.getD, List.getElem?_eq_getElem h1, List.getElem?_eq_getElem hi, Option.getD_some] at e; have := (List.getElem_inj h).1 e
  omega
theorem joinD_map {t u : Ten} {f : Int → Int} (ht : t.d = t.l.map f) (hu : u.d = u.l.map f) : joinD t u = (joinI t.l u.l).map f := by
  rw [joinD, ht, hu, selP_map, joinI, List.map_append]
end Go.Proofs.Ythlmjnihihbckaa
namespace Go.Proofs.Ythlmjnihihbckaa
set_option maxRecDepth 100000
open Go.RowKit
def TensL (ts : List Ten) (cs : List Value) (h : PH) : Prop := cs.length = ts.length * 3 ∧ ∀ (i : Nat) (t : Ten), ts[i]? = some t → TenR t ((cs.drop (i * 3)).take 3) h
theorem TensL.nil (h : PH) : TensL [] [] h := ⟨rfl, fun i x e => by simp at e⟩
theorem TensL.mono {ts : List Ten} {cs : List Value} {h h' : PH} (r : TensL ts cs h) (l : PLe h h') : TensL ts cs h' := ⟨r.1, fun i x e => (r.2 i x e).mono l⟩
theorem TensL.snoc {ts : List Ten} {cs : List Value} {h : PH} (r : TensL ts cs h) {t : Ten} {a b c : Value} (r1 : IntsR t.l a h) (r2 : IntsR t.d b h) (r3 : IntsR t.x c h) : TensL (ts ++ [t]) (cs ++ [a, b, c]) h := by
  refine ⟨by simp [r.1]; omega, fun i y e => ?_⟩
  by_cases hi : i < ts.length
  · rw [List.getElem?_append_left hi] at e; have := r.2 i y e; have e2 : ((cs ++ [a, b, c]).drop (i * 3)).take 3 = (cs.drop (i * 3)).take 3 := by
      rw [List.drop_append, List.take_append]; have hl : 3 - (cs.drop (i * 3)).length = 0 := by simp [r.1]; omega
      rw [hl, List.take_zero, List.append_nil]
    rw [e2]; exact this
  · have hlt := (List.getElem?_eq_some_iff.1 e).1
    simp at hlt
    have : i = ts.length := by omega
    subst this; rw [List.getElem?_append_right (by omega)] at e
    simp at e
    subst e; have e2 : ((cs ++ [a, b, c]).drop (ts.length * 3)).take 3 = [a, b, c] := by
      rw [← r.1, List.drop_left]; rfl
    rw [e2]; exact ⟨a, b, c, rfl, r1, r2, r3⟩
theorem TensL.tens {ts : List Ten} {cs : List Value} {v : Value} {h : PH} (r : TensL ts cs h) (rr : RowR cs ts.length 3 v h) : TensR ts v h := ⟨cs, rr, r.2⟩
theorem PDj.rest {w : World} {h hs : PH} (l : PLe hs h) : PDj hs (restP w h) := fun k => by
  cases e : hs k with
  | none => exact .inl rfl
  | some o => right; simp [restP, l k o e]
theorem Sat.join {w0 w : World} {HS : List PH} {a b : PH} (s : Sat w0 (a :: b :: HS) w) : Sat w0 (PUn a b :: HS) w := s.merge
def shTens (f : Int → Int) (s : Sh) : List Ten := s.all.map fun l => ⟨l, l.map f, []⟩
theorem shTens_len (f : Int → Int) (s : Sh) : (shTens f s).length = s.all.length := by simp [shTens]
structure SpR (f : Int → Int) (s : Sh) (va vg : Value) (b : Nat) (h : PH) : Prop where
  ok : s.ok
  c0 : cellP h b 0 = some va
  c1 : cellP h b 1 = some vg
  all : TensR (shTens f s) va h
  gone : BoolsR s.gone vg h
def SpO (f : Int → Int) (s : Sh) (bb : Nat) (h q : PH) : Prop :=
  s.ok ∧ ∃ va vg ha hg hs cs, RowO 77 cs s.all.length 3 va ha ∧ BoolsO s.gone vg hg ∧ TensL (shTens f s) cs (PUn hs q) ∧ Made h [box bb [va, vg] 79, ha, hg, hs]
theorem SpR.of {f : Int → Int} {s : Sh} {va vg : Value} {bb : Nat} {h ha hg X : PH} {cs : List Value} (hok : s.ok) (hb : PLe (box bb [va, vg] 79) h) (ra : RowO 77 cs s.all.length 3 va ha) (la : PLe ha h) (rt : TensL (shTens f s) cs X) (lx : PLe X h) (rg : BoolsO s.gone vg hg) (lg : PLe hg h) : SpR f s va vg bb h :=
  ⟨hok, cellP.mono hb (by rw [cellP_box]; rfl), cellP.mono hb (by rw [cellP_box]; rfl), (rt.mono lx).tens (by rw [shTens_len]; exact ra.toR.mono la), rg.toR.mono lg⟩
end Go.Proofs.Ythlmjnihihbckaa
namespace Go.Proofs.Ythlmjnihihbckaa
set_option maxRecDepth 100000
open Go.RowKit
/-- The world's heap once more. -/
theorem Sat.whole {w0 w : World} {HS : List PH} {q : PH} (lq : PLe q (hp w0)) (s : Sat w0 (q :: restP w0 q :: HS) w) : Sat w0 (HS ++ [hp w0]) w := by
  have l : PLe (hp w0) (PUn q (restP w0 q)) := fun k o e => by
    unfold PUn restP
    cases hq : q k with
    | none => simp [e]
    | some o' => have := lq k o' hq; rw [e] at this; simp [this]
  have s1 := Sat.less (i := 0) s.merge rfl l; exact Sat.comm (A := [hp w0]) (B := HS) s1
theorem net_dmap {k p n : Int} {ts : List Ten} {op : List Int} (h : netL k p n ts op) : ∀ t ∈ ts, t.d = t.l.map (dimOf ts) := fun t ht => by
  have hax := net_axes h t ht; refine ext_getD (by rw [List.length_map, hax.2.1]) fun j hj => ?_; have hj' : j < t.l.length := by rw [hax.2.1]; exact hj
  rw [map_getD hj', net_dim h ht (mem_getD hj'), find_at hax hj', Int.toNat_natCast]
end Go.Proofs.Ythlmjnihihbckaa
namespace Go.Proofs.Ythlmjnihihbckaa
set_option maxRecDepth 100000
open Go.RowKit
theorem SpO.toR {f : Int → Int} {s : Sh} {bb : Nat} {h q H : PH} (r : SpO f s bb h q) (l : PLe h H) (lq : PLe q H) : ∃ va vg, SpR f s va vg bb H := by
  obtain ⟨hok, va, vg, ha, hg, hs, cs, ra, rg, rt, md⟩ := r; exact ⟨va, vg, SpR.of hok ((md.le _ (by simp)).trans l) ra ((md.le ha (by simp)).trans l) rt (PUn.le ((md.le hs (by simp)).trans l) lq) rg ((md.le hg (by simp)).trans l)⟩
theorem stepOk_at {op : List Int} {s : Sh} {ss : List Stp} (h : okSteps op s ss) {i : Nat} {x : Stp} (hx : ss[i]? = some x) : stepOk (shTo op s (ss.take i)) x := h i (List.getElem?_eq_some_iff.1 hx).1 x hx
theorem stepCells_take : ∀ (ss : List Stp) (n : Nat), stepCells (ss.take n) = (stepCells ss).take (n * 2)
  | [], n => by simp [stepCells]
  | s :: r, 0 => by simp [stepCells]
  | s :: r, n + 1 => by
    have := stepCells_take r n; rw [List.take_succ_cons, show (n + 1) * 2 = n * 2 + 1 + 1 by omega]
    show [num s.a, num s.b] ++ stepCells (r.take n) = ([num s.a, num s.b] ++ stepCells r).take (n * 2 + 1 + 1)
    rw [this]; rfl
theorem StepsR.subH {ss : List Stp} {v : Value} {h : PH} (r : StepsR ss v h) {hi : Nat} (h2 : hi ≤ ss.length) : StepsR (ss.take hi) (subV v 0 hi 2) h := by
  have := RowR.sub r (Nat.zero_le hi) h2
  unfold StepsR
  rw [stepCells_take, List.length_take, Nat.min_eq_left h2]
  simpa using this
end Go.Proofs.Ythlmjnihihbckaa
namespace Go.Proofs.Ythlmjnihihbckaa
set_option maxRecDepth 100000
open Go.ChangeShapes Go.WideShapes Go.ChangeAt Go.RowKit
section
variable {H : Type} {enc : TypeId × Value → H} {w : World} {base : Nat} {sp : Nat → Bool} {hd : Bool}
theorem rd_ring {fuel : Nat} {cs : List Value} {x : DataW H × List MemPlace} (h : DataW.trod enc Try.prog w base sp hd fuel 23 cs = some x) : ∃ k m p, cs = [num k, num m, num p] ∧ I64 k ∧ I64 m ∧ I64 p := by
  obtain ⟨hl, hf⟩ := rd_field Try.underlying23 h; rw [cellsOf_ty ty_23] at hl; obtain ⟨n0, y0, h0⟩ := hf 0 _ _ fd_23_0; obtain ⟨n1, y1, h1⟩ := hf 1 _ _ fd_23_1; obtain ⟨n2, y2, h2⟩ := hf 2 _ _ fd_23_2; rw [cellsOf_ty ty_3] at h0 h1 h2; obtain ⟨k, e0, i0⟩ := rd_int Try.underlying3 h0; obtain ⟨m, e1, i1⟩ := rd_int Try.underlying3 h1; obtain ⟨p, e2, i2⟩ := rd_int Try.underlying3 h2
  match cs, hl with
  | [a, b, c], _ =>
    simp at e0 e1 e2
    subst e0 e1 e2; exact ⟨k, m, p, rfl, i0, i1, i2⟩
end
end Go.Proofs.Ythlmjnihihbckaa
namespace Go.Proofs.Ythlmjnihihbckaa
set_option maxRecDepth 100000
open Go.ChangeShapes Go.WideShapes Go.ChangeAt Go.RowKit
section
variable {H : Type} {enc : TypeId × Value → H} {w : World} {base : Nat} {sp : Nat → Bool} {hd : Bool}
theorem rd_ten {fuel : Nat} {cs : List Value} {x : DataW H × List MemPlace} (h : DataW.trod enc Try.prog w base sp hd fuel 116 cs = some x) : ∃ t, TenR t cs (hp w) := by
  obtain ⟨hl, hf⟩ := rd_field Try.underlying116 h; rw [cellsOf_ty ty_116] at hl; obtain ⟨n0, y0, h0⟩ := hf 0 _ _ fd_116_0; obtain ⟨n1, y1, h1⟩ := hf 1 _ _ fd_116_1; obtain ⟨n2, y2, h2⟩ := hf 2 _ _ fd_116_2; rw [cellsOf_ty ty_25] at h0 h1 h2; obtain ⟨a, l, e0, r0, _⟩ := rd_ints Try.underlying25 Try.underlying3 (cellsOf_ty ty_3) h0; obtain ⟨b, d, e1, r1, _⟩ := rd_ints Try.underlying25 Try.underlying3 (cellsOf_ty ty_3) h1; obtain ⟨c, xs, e2, r2, _⟩ := rd_ints Try.underlying25 Try.underlying3 (cellsOf_ty ty_3) h2
  match cs, hl with
  | [a', b', c'], _ =>
    simp at e0 e1 e2
    subst e0 e1 e2; exact ⟨⟨l, d, xs⟩, _, _, _, rfl, r0, r1, r2⟩
theorem arg_network {v : Value} {d : DataW H} {p : List MemPlace} {r : Reach} {b : Nat} (hv : Value.okWide Try.prog w r b 27 v) (h : DataW.Trod enc Try.prog w base sp hd 27 v d p) : ∃ k m q ts op vt vo, v = netV k m q vt vo ∧ TensR ts vt (hp w) ∧ IntsR op vo (hp w) := by
  obtain ⟨cs, rfl, _⟩ := okWide_struct Try.underlying27 hv; obtain ⟨f, hf⟩ := h; obtain ⟨hl, hf⟩ := rd_field Try.underlying27 hf; rw [cellsOf_ty ty_27] at hl; obtain ⟨n0, y0, h0⟩ := hf 0 _ _ fd_27_0; obtain ⟨n1, y1, h1⟩ := hf 1 _ _ fd_27_1; obtain ⟨n2, y2, h2⟩ := hf 2 _ _ fd_27_2; rw [cellsOf_ty ty_23] at h0; rw [cellsOf_ty ty_24] at h1; rw [cellsOf_ty ty_25] at h2; obtain ⟨k, m, q, e0, _⟩ := rd_ring h0; obtain ⟨vt, ts, e1, rt⟩ := rd_rows (R := TenR) Try.underlying24 (cellsOf_ty ty_116) (by decide) (fun h => rd_ten h) h1; obtain ⟨vo, op, e2, ro, _⟩ := rd_ints Try.underlying25 Try.underlying3 (cellsOf_ty ty_3) h2; obtain ⟨l⟩ := cs; simp only [Value.cells] at hl e0 e1 e2
  match l, hl with
  | [a1, a2, a3, a4, a5], _ =>
    simp at e0 e1 e2
    obtain ⟨rfl, rfl, rfl⟩ := e0; subst e1 e2; exact ⟨k, m, q, ts, op, _, _, rfl, rt, ro⟩
end
end Go.Proofs.Ythlmjnihihbckaa
namespace Go.Proofs.Ythlmjnihihbckaa
set_option maxRecDepth 100000
open Go.RowKit
abbrev decV (a b : Value) : Value := .agg [a, b].toArray
def LR (l : List Int) (cs : List Value) (h : PH) : Prop := ∃ v, cs = [v] ∧ IntsR l v h
theorem LR.mono {l : List Int} {cs : List Value} {h h' : PH} (r : LR l cs h) (q : PLe h h') : LR l cs h' := by
  obtain ⟨v, e, r1⟩ := r; exact ⟨v, e, r1.mono q⟩
def LLR (bs : List (List Int)) (v : Value) (h : PH) : Prop := RowsR 1 LR bs v h
theorem LLR.mono {bs : List (List Int)} {v : Value} {h h' : PH} (r : LLR bs v h) (l : PLe h h') : LLR bs v h' := RowsR.mono (R := LR) LR.mono r l
theorem LLR.sl {bs : List (List Int)} {v : Value} {h : PH} (r : LLR bs v h) : SlL v bs.length := RowsR.sl r
theorem LLR.le {bs : List (List Int)} {v : Value} {h : PH} (r : LLR bs v h) : (bs.length : Int) ≤ 9223372036854775807 := RowsR.le r
theorem LLR.at {bs : List (List Int)} {v : Value} {h : PH} (r : LLR bs v h) : ∃ cells, RowR cells bs.length 1 v h ∧ ∀ i, i < bs.length → ∃ l a, bs[i]? = some l ∧ (cells.drop (i * 1)).take 1 = [a] ∧ IntsR l a h := by
  obtain ⟨cells, rr, hc⟩ := r; refine ⟨cells, rr, fun i hi => ?_⟩; have ht : bs[i]? = some bs[i] := List.getElem?_eq_getElem hi; obtain ⟨a, e, r1⟩ := hc i _ ht; exact ⟨_, a, ht, e, r1⟩
/-- Lists that own their parts. -/
def LLO (bs : List (List Int)) (v : Value) (h : PH) : Prop := ∃ vs h0 hs, RowO 25 vs bs.length 1 v h0 ∧ OwnL bs vs hs ∧ Made h (h0 :: hs)
theorem LLO.toR {bs : List (List Int)} {v : Value} {h : PH} (r : LLO bs v h) : LLR bs v h := by
  obtain ⟨vs, h0, hs, r0, o, m⟩ := r; refine ⟨vs, r0.toR.mono (m.le h0 (by simp)), fun i x hx => ?_⟩; obtain ⟨a, g, e1, e2, q⟩ := o.own i x hx; refine ⟨a, ?_, q.toR.mono (m.le g (by simp [List.mem_of_getElem? e2]))⟩
  apply List.ext_getElem?
  intro j; rw [List.getElem?_take]
  match j with
  | 0 => simpa using e1
  | j + 1 => rw [if_neg (by omega)]; simp
def DecO (bs : List (List Int)) (ps : List Int) (a b : Value) (h : PH) : Prop := ∃ h1 h2, LLO bs a h1 ∧ IntsO ps b h2 ∧ Made h [h1, h2]
theorem DecO.toR {bs : List (List Int)} {ps : List Int} {a b : Value} {h : PH} (r : DecO bs ps a b h) : LLR bs a h ∧ IntsR ps b h := by
  obtain ⟨h1, h2, r1, r2, m⟩ := r; exact ⟨r1.toR.mono (m.le h1 (by simp)), r2.toR.mono (m.le h2 (by simp))⟩
def llSize : List (List Int) → Int
  | [] => 0
  | l :: r => l.length + llSize r
theorem llSize_nn : ∀ bs, 0 ≤ llSize bs
  | [] => by simp [llSize]
  | l :: r => by have := llSize_nn r; simp only [llSize]; omega
theorem llSize_append : ∀ a b, llSize (a ++ b) = llSize a + llSize b
  | [], b => by simp [llSize]
  | l :: r, b => by simp only [List.cons_append, llSize, llSize_append r b]; omega
theorem llSize_take (bs : List (List Int)) (i : Nat) : llSize bs = llSize (bs.take i) + llSize (bs.drop i) := by
  rw [← llSize_append, List.take_append_drop]
theorem take_ll {bs : List (List Int)} {i : Nat} {l : List Int} (h : bs[i]? = some l) : bs.take (i + 1) = bs.take i ++ [l] := by
  obtain ⟨hi, e⟩ := List.getElem?_eq_some_iff.1 h; rw [List.take_succ_eq_append_getElem hi, e]
theorem llSize_step {bs : List (List Int)} {i : Nat} {l : List Int} (h : bs[i]? = some l) : llSize (bs.take (i + 1)) = llSize (bs.take i) + l.length := by
  rw [take_ll h, llSize_append]
  simp [llSize]
theorem OwnL.one {l : List Int} {a : Value} {h : PH} (r : IntsO l a h) : OwnL [l] [a] [h] := by
  refine ⟨rfl, rfl, fun i xs e => ?_⟩
  match i, e with
  | 0, e => cases e; exact ⟨a, h, rfl, rfl, r⟩
  | i + 1, e => simp at e
theorem ct_l_eqIntSS (bs : List (List Int)) (v u : Value) (w : World) (r : LLR bs v (hp w)) (r' : LLR bs u (hp w)) : Calls Try.prog 83 [v, u].toArray w (RetV w (.bool true)) := by
  refine calls_in Try.func83 rfl Try.ntmps83 rfl (Sat.start w) ?_; have hle0 := r.le; obtain ⟨cs_r, rr_r, hc_r⟩ := r.at; have hle1 := r'.le; obtain ⟨cs_r_, rr_r_, hc_r_⟩ := r'.at; refine wp_sc (wp_sq (sq_v rfl (v_assign rfl) rfl (sq_end (qs_n (wp_sc (wp_sc (wp_sq (sq_v rfl (v_move rfl) rfl (sq_v rfl (v_len Try.underlying55 rfl r.sl) rfl (sq_v rfl (v_move rfl) rfl (sq_v rfl (v_len Try.underlying55 rfl r'.sl) rfl (sq_v rfl (v_neqs rfl rfl) rfl (sq_end (qs_n (wp_cf rfl (wp_sk (qs_n (wp_sc (wp_sc (wp_sq (sq_v rfl (v_assign rfl) rfl (sq_end (qs_n (wp_bl ?_)))))))))))))))))))))))); refine wp_lp (σ := Nat) (fun z_ => [(0, v), (1, u), (4, .bool false), (5, num z_)]) (fun z_ => [hp w]) (fun z_ => z_ ≤ bs.length) (fun z_ => bs.length - z_) 0 (by omega) ⟨rfl, rfl, rfl, (by first | rfl | exact ksub rfl (by first | omega | (simp; done) | (simp; omega))), trivial⟩ (fun _ s => s) ?_; rintro i hi; refine wp_sc (wp_sc (wp_sq (sq_v rfl (v_move rfl) rfl (sq_v rfl (v_move rfl) rfl (sq_v rfl (v_len Try.underlying55 rfl r.sl) rfl (sq_v rfl (v_lss rfl rfl) rfl (sq_end (qs_n ?_)))))))); refine wp_cd rfl (fun c14 => ?_) (fun c14 => ?_)
  · refine wp_sk (qs_n (wp_sc (wp_bl (wp_sc (wp_rj 10 [(0, true), (1, true), (2, true), (3, true), (4, true), (5, true), (6, true), (7, true), (8, false), (9, true)] mixed_ok (by kernel_rfl) (rj_v rfl rfl (v_move rfl) rfl (rj_v rfl rfl (v_move rfl) rfl ?_))))))); obtain ⟨l19, a19, hl19, hcs19, rl19⟩ := hc_r (i) (by first | omega | (rw [List.length_set]; omega)); refine rj_v rfl rfl (v_indexAddr Try.underlying55 ty_25 rfl rfl rr_r (by decide) (by omega) (by omega)) rfl (rj_v rfl rfl (v_loadE 0 ty_25 rfl rfl rr_r (sub_get hcs19 (j := 0) rfl)) rfl (rj_v rfl rfl (v_move rfl) rfl (rj_v rfl rfl (v_move rfl) rfl ?_))); obtain ⟨l23, a23, hl23, hcs23, rl23⟩ := hc_r_ (i) (by first | omega | (rw [List.length_set]; omega)); refine rj_v rfl rfl (v_indexAddr Try.underlying55 ty_25 rfl rfl rr_r_ (by decide) (by omega) (by omega)) rfl (rj_v rfl rfl (v_loadE 0 ty_25 rfl rfl rr_r_ (sub_get hcs23 (j := 0) rfl)) rfl ?_); obtain rfl : l19 = l23 := (by rw [hl19] at hl23; exact Option.some.inj hl23)
    refine rj_u rfl rfl (x_callv rfl en_28 (fun w s => ct_l_eqIntS _ _ _ _ w (rl19.mono (s.get 0 rfl)) (rl23.mono (s.get 0 rfl)) rfl)) rfl (rj_v rfl rfl (v_not rfl) rfl (rj_end (qs_n (wp_cf rfl (wp_sk (qs_bn (qs_n (wp_sq (sq_v rfl (v_move rfl) rfl ?_))))))))); refine sq_v rfl (v_add rfl rfl ((by unfold I64; omega))) rfl ?_; refine sq_v rfl (v_assign rfl) rfl (sq_end ?_); exact qs_bk (i + 1) (by omega) (by omega) ⟨rfl, rfl, rfl, (by first | rfl | exact ksub rfl (by first | omega | (simp; done) | (simp; omega))), trivial⟩ (fun _ s => s)
  · refine wp_ex (qs_x (qs_x (qs_bx (qs_n (wp_sc (wp_sq (sq_v rfl (v_assign rfl) rfl (sq_end (qs_n (wp_rt ?_)))))))))); exact qs_ret1 rfl rfl (fin_v (i := 0) rfl)
theorem ct_l_eqDecomposition (bs : List (List Int)) (ps : List Int) (a b a' b' : Value) (w : World) (r : LLR bs a (hp w)) (r' : IntsR ps b (hp w)) (q : LLR bs a' (hp w)) (q' : IntsR ps b' (hp w)) : Calls Try.prog 27 [decV a b, decV a' b'].toArray w (RetV w (.bool true)) := by
  refine calls_in Try.func27 rfl Try.ntmps27 rfl (Sat.start w) ?_; have hle0 := r.le; obtain ⟨cs_r, rr_r, hc_r⟩ := r.at; have hle1 := r'.le; have hle2 := q.le; obtain ⟨cs_q, rr_q, hc_q⟩ := q.at; have hle3 := q'.le; refine wp_sc (wp_sq ?_); refine sq_x rfl (x_box rfl rfl) rfl ?_; rintro _ _ ⟨b2, rfl, rfl⟩; refine sq_x rfl (x_box rfl rfl) rfl ?_; rintro _ _ ⟨b3, rfl, rfl⟩; refine sq_v rfl (v_assign rfl) rfl (sq_end (qs_n (wp_sc (wp_sc (wp_sq (sq_v rfl (v_fieldAddr fd_57_0 ty_55 (by decide) rfl) rfl (sq_v rfl (v_loadB 1 ty_55 rfl rfl rfl) rfl (sq_v rfl (v_fieldAddr fd_57_0 ty_55 (by decide) rfl) rfl (sq_v rfl (v_loadB 0 ty_55 rfl rfl rfl) rfl (sq_u rfl (x_callv rfl en_83 (fun w s => ct_l_eqIntSS _ _ _ w (r.mono (s.get 2 rfl)) (q.mono (s.get 2 rfl)))) rfl (sq_v rfl (v_not rfl) rfl (sq_end (qs_n (wp_cf rfl (wp_sk (qs_n (wp_sc (wp_sc (wp_sq (sq_v rfl (v_fieldAddr fd_57_1 ty_25 (by decide) rfl) rfl (sq_v rfl (v_loadB 1 ty_25 rfl rfl rfl) rfl ?_))))))))))))))))))))); refine sq_v rfl (v_fieldAddr fd_57_1 ty_25 (by decide) rfl) rfl (sq_v rfl (v_loadB 0 ty_25 rfl rfl rfl) rfl (sq_u rfl (x_callv rfl en_28 (fun w s => ct_l_eqIntS _ _ _ _ w (r'.mono (s.get 2 rfl)) (q'.mono (s.get 2 rfl)) (by first | assumption | exact iota_held _ _ | omega | rfl))) rfl (sq_v rfl (v_not rfl) rfl (sq_end (qs_n (wp_cf rfl (wp_sk (qs_n (wp_sc (wp_sq (sq_v rfl (v_assign rfl) rfl (sq_end (qs_n (wp_rt ?_)))))))))))))); exact qs_ret1 rfl rfl (fin_v (i := 2) rfl)
end Go.Proofs.Ythlmjnihihbckaa
namespace Go.Proofs.Ythlmjnihihbckaa
set_option maxRecDepth 100000
open Go.Shelf Go.Sort Go.RowKit
def srt_ren : Go.Shelf.Ren := ⟨fun | 189 => 123 | 125 => 149 | 257 => 148 | 128 => 165 | 129 => 166 | 294 => 156 | 295 => 157 | 296 => 158 | 297 => 159 | 298 => 160 | 299 => 161 | 216 => 162 | 300 => 163 | 301 => 164 | 328 => 167 | 329 => 168 | 330 => 169 | 331 => 170 | 332 => 171 | 215 => 172 | 343 => 173 | n => n, fun | 28 => 25 | 3 => 3 | 46 => 163 | 0 => 0 | 51 => 176 | 53 => 178 | 4 => 4 | 183 => 168 | 182 => 167 | 131 => 173 | 5 => 5 | 9 => 9 | 218 => 179 | 222 => 183 | 228 => 185 | 229 => 186 | n => n, fun | n => n⟩
theorem srt_lays : Lays.n189 Try.prog srt_ren := {
  mixed := by kernel_rfl
  f125 := Try.func149.trans (congrArg some (by kernel_rfl))
  f128 := Try.func165.trans (congrArg some (by kernel_rfl))
  f129 := Try.func166.trans (congrArg some (by kernel_rfl))
  f189 := Try.func123.trans (congrArg some (by kernel_rfl))
  f215 := Try.func172.trans (congrArg some (by kernel_rfl))
  f216 := Try.func162.trans (congrArg some (by kernel_rfl))
  f257 := Try.func148.trans (congrArg some (by kernel_rfl))
  f294 := Try.func156.trans (congrArg some (by kernel_rfl))
  f295 := Try.func157.trans (congrArg some (by kernel_rfl))
  f296 := Try.func158.trans (congrArg some (by kernel_rfl))
  f297 := Try.func159.trans (congrArg some (by kernel_rfl))
  f298 := Try.func160.trans (congrArg some (by kernel_rfl))
  f299 := Try.func161.trans (congrArg some (by kernel_rfl))
  f300 := Try.func163.trans (congrArg some (by kernel_rfl))
  f301 := Try.func164.trans (congrArg some (by kernel_rfl))
  f328 := Try.func167.trans (congrArg some (by kernel_rfl))
  f329 := Try.func168.trans (congrArg some (by kernel_rfl))
  f330 := Try.func169.trans (congrArg some (by kernel_rfl))
  f331 := Try.func170.trans (congrArg some (by kernel_rfl))
  f332 := Try.func171.trans (congrArg some (by kernel_rfl))
  f343 := Try.func173.trans (congrArg some (by kernel_rfl))
  t0 := Try.underlying0
  a0 := Try.isAgg0
  z0 := Try.sizeOf0
  v0 := Try.zeroValue0
  t3 := Try.underlying3
  a3 := Try.isAgg3
  z3 := Try.sizeOf3
  v3 := Try.zeroValue3
  t4 := Try.underlying4
  a4 := Try.isAgg4
  z4 := Try.sizeOf4
  v4 := Try.zeroValue4
  t5 := Try.underlying5
  a5 := Try.isAgg5
  z5 := Try.sizeOf5
  v5 := Try.zeroValue5
  t9 := Try.underlying9
  a9 := Try.isAgg9
  z9 := Try.sizeOf9
  v9 := Try.zeroValue9
  t28 := Try.underlying25
  a28 := Try.isAgg25
  z28 := Try.sizeOf25
  v28 := Try.zeroValue25
  t46 := Try.underlying163
  a46 := Try.isAgg163
  z46 := Try.sizeOf163
  v46 := Try.zeroValue163
  t51 := Try.underlying176
  a51 := Try.isAgg176
  z51 := Try.sizeOf176
  v51 := Try.zeroValue176
  t53 := Try.underlying178
  a53 := Try.isAgg178
  z53 := Try.sizeOf178
  v53 := Try.zeroValue178
  t131 := Try.underlying173
  a131 := Try.isAgg173
  z131 := Try.sizeOf173
  v131 := Try.zeroValue173
  t182 := Try.underlying167
  a182 := Try.isAgg167
  z182 := Try.sizeOf167
  v182 := Try.zeroValue167
  t183 := Try.underlying168
  a183 := Try.isAgg168
  z183 := Try.sizeOf168
  v183 := Try.zeroValue168
  t218 := Try.underlying179
  a218 := Try.isAgg179
  z218 := Try.sizeOf179
  v218 := Try.zeroValue179
  t222 := Try.underlying183
  a222 := Try.isAgg183
  z222 := Try.sizeOf183
  v222 := Try.zeroValue183
  t228 := Try.underlying185
  a228 := Try.isAgg185
  z228 := Try.sizeOf185
  v228 := Try.zeroValue185
  t229 := Try.underlying186
  a229 := Try.isAgg186
  z229 := Try.sizeOf186
  v229 := Try.zeroValue186 }
open Go.Sort Go.RowKit in
theorem lib_sort (blk off cap : Nat) (zs : List Int) (w : World) (hH : Holds (Value.int .i64) w blk off zs.toArray) (hblk : blk < w.heap.size) (hsz : zs.length < 4611686018427387904) :
    Calls Try.prog 123 #[.slice (some ⟨blk, off, none⟩) zs.length cap] w fun e w' =>
      e = .returned (.tuple #[]) ∧ ∃ n os, w' = grow (putRow (Value.int .i64) (Sort.ahead w n) blk off (zs.mergeSort fun x y => decide (x ≤ y)).toArray) os := Any.slices_Sort_int srt_lays blk off cap zs w hH hblk hsz
open Go.RowKit Go.Sort in
/-- .. and plain. (LAID: no walk: one application.) -/
theorem lib_sort_none (p : Option Addr) (cap : Nat) (w : World) :
    Calls Try.prog 123 #[.slice p 0 cap] w fun e w' => e = .returned (.tuple #[]) ∧ w' = w := Any.slices_Sort_int_none srt_lays p cap w
end Go.Proofs.Ythlmjnihihbckaa
namespace Go.Proofs.Ythlmjnihihbckaa
set_option maxRecDepth 100000
open Go.RowKit
def digI (ds : List Int) (n : Int) (i : Nat) : Int := n / prodI (ds.drop (i + 1)) % ds.getD i 0
def idxL (ds : List Int) (n : Int) : List Int := (List.range ds.length).map fun i => digI ds n i
theorem idxL_len (ds : List Int) (n : Int) : (idxL ds n).length = ds.length := by simp [idxL]
theorem idxL_get {ds : List Int} {n : Int} {i : Nat} (h : i < ds.length) : (idxL ds n).getD i 0 = digI ds n i := by simp [idxL, List.getD, h]
theorem idxL_in {ds : List Int} (hd : ∀ d ∈ ds, 1 ≤ d) (n : Int) : idxIn ds (idxL ds n) := ⟨idxL_len ds n, fun j hj => by
  rw [idxL_get hj]; have := hd _ (mem_getD hj); exact ⟨Int.emod_nonneg _ (by omega), Int.emod_lt_of_pos _ (by omega)⟩⟩
theorem prod_at {ds : List Int} {i : Nat} (h : i < ds.length) : prodI (ds.drop i) = prodI (ds.drop (i + 1)) * ds.getD i 0 := by
  rw [drop_cons h, prodI_cons, Int.mul_comm]
theorem div_at {ds : List Int} (hd : ∀ d ∈ ds, 1 ≤ d) (n : Int) {i : Nat} (h : i < ds.length) : n / prodI (ds.drop i) = n / prodI (ds.drop (i + 1)) / ds.getD i 0 := by
  rw [prod_at h, ← Int.ediv_ediv_of_nonneg (by have := (prodI_drop hd (i + 1)).1; omega)]
theorem horn_idx {ds : List Int} (hd : ∀ d ∈ ds, 1 ≤ d) {n : Int} (h0 : 0 ≤ n) (h1 : n < prodI ds) : ∀ m, m ≤ ds.length → hornTo ds (idxL ds n) m = n / prodI (ds.drop m)
  | 0, _ => by
    rw [hornTo, List.drop_zero, Int.ediv_eq_zero_of_lt h0 h1]
  | m + 1, hm => by
    rw [hornTo, horn_idx hd h0 h1 m (by omega), idxL_get (by omega), div_at hd n (by omega), digI]; have := Int.ediv_mul_add_emod (n / prodI (ds.drop (m + 1))) (ds.getD m 0)
    omega
theorem offL_idx {ds : List Int} (hd : ∀ d ∈ ds, 1 ≤ d) {n : Int} (h0 : 0 ≤ n) (h1 : n < prodI ds) : offL ds (idxL ds n) = n := by
  rw [offL_end (idxL_len ds n).symm, horn_idx hd h0 h1 _ (Nat.le_refl _), List.drop_length]
  simp [prodI]
end Go.Proofs.Ythlmjnihihbckaa
namespace Go.Proofs.Ythlmjnihihbckaa
set_option maxRecDepth 100000
open Go.RowKit
def setP (xs ys : List Int) (j : Nat) : Prop := ys.getD j 0 ∈ xs ∧ ys.getD j 0 ∉ ys.take j
def setL (xs ys : List Int) : Prop := xs.length = ys.length ∧ ∀ j, j < ys.length → setP xs ys j
open Classical in
noncomputable def setB (xs ys : List Int) : Bool := decide (setL xs ys)
theorem setB_no {xs ys : List Int} (h : ¬ setL xs ys) : Value.bool false = .bool (setB xs ys) := by simp [setB, h]
theorem setB_yes {xs ys : List Int} (h : setL xs ys) : Value.bool true = .bool (setB xs ys) := by simp [setB, h]
theorem setB_dec {xs ys : List Int} {q : Prop} [Decidable q] (h : q ↔ setL xs ys) : Value.bool (decide q) = .bool (setB xs ys) := by
  unfold setB
  congr 1
  rw [Bool.eq_iff_iff]
  simp [h]
theorem setB_true {xs ys : List Int} : setB xs ys = true ↔ setL xs ys := by simp [setB]
theorem ct_s_l06Set (xs ys : List Int) (v u : Value) (w : World) (r : IntsR xs v (hp w)) (r' : IntsR ys u (hp w)) : Calls Try.prog 119 [v, u].toArray w (RetV w (.bool (setB xs ys))) := by
  refine calls_in Try.func119 rfl Try.ntmps119 rfl (Sat.start w) ?_; have hle0 := r.le; have hle1 := r'.le; refine wp_sc (wp_sq (sq_v rfl (v_assign rfl) rfl (sq_end (qs_n (wp_sc (wp_sc (wp_sq (sq_v rfl (v_move rfl) rfl (sq_v rfl (v_len Try.underlying25 rfl r'.sl) rfl (sq_v rfl (v_move rfl) rfl (sq_end (qs_n (wp_bl ?_))))))))))))); refine wp_lp (σ := Nat) (fun z_ => [(0, v), (1, u), (4, .bool false), (7, u), (8, num ys.length), (9, num z_)]) (fun z_ => [hp w]) (fun z_ => z_ ≤ ys.length ∧ (∀ j, j < z_ → setP xs ys j)) (fun z_ => ys.length - z_) 0 (⟨by omega, fun j hj => by omega⟩) ⟨rfl, rfl, rfl, rfl, rfl, (by first | rfl | exact ksub rfl (by first | omega | (simp; done) | (simp; omega))), trivial⟩ (fun _ s => s) ?_; rintro i ⟨hi, hv⟩; have hm1 := findI_ge (xs := xs) (n := ys.getD i 0); have hm2 := findI_ge (xs := ys.take i) (n := ys.getD i 0); refine wp_sc (wp_sq (sq_v rfl (v_lss rfl rfl) rfl (sq_end (qs_n (wp_sc ?_))))); refine wp_cd rfl (fun c10 => ?_) (fun c10 => ?_)
  · refine wp_sk (qs_n (wp_sc (wp_bl (wp_sc (wp_sq (sq_v rfl (v_move rfl) rfl ?_)))))); refine sq_v rfl (v_idxI Try.underlying25 ty_3 rfl rfl r' (by first | omega | (simp; omega) | (simp only [List.length_append, List.length_cons, List.length_nil]; omega) | (rw [List.length_set]; omega)) (by first | omega | (simp; omega) | (simp only [List.length_append, List.length_cons, List.length_nil]; omega) | (rw [List.length_set]; omega))) rfl ?_; refine sq_v rfl (v_loadI (k := i) 0 ty_3 rfl rfl r' (by first | omega | (simp; omega) | (simp only [List.length_append, List.length_cons, List.length_nil]; omega) | (rw [List.length_set]; omega))) rfl ?_; refine sq_v rfl (v_assign rfl) rfl (sq_v rfl (v_assign rfl) rfl (sq_end (qs_n (wp_sc (wp_sq (sq_v rfl (v_move rfl) rfl (sq_v rfl (v_move rfl) rfl (sq_u rfl (x_callv rfl en_77 (fun w s => ct_s_l05Find _ _ _ w (r.mono (s.get 0 rfl)))) rfl (sq_v rfl (v_lss rfl rfl) rfl ?_))))))))); refine sq_bd 17 rfl (fun c17 => ?_) (fun c17 => ?_)
    · refine sq_v rfl (v_move rfl) rfl (sq_s rfl rfl (sq_s rfl rfl (sq_s rfl rfl (sq_s rfl rfl (sq_s rfl rfl (sq_s rfl rfl (sq_v rfl (v_pickt rfl rfl) rfl (sq_end (qs_n (wp_ct rfl (wp_sc (wp_sq (sq_v rfl (v_assign rfl) rfl (sq_end (qs_n (wp_rt (qs_br (qs_r (qs_r (qs_br (qs_r ?_))))))))))))))))))))); exact qs_ret1 rfl rfl (fin_q (i := 0) rfl (setB_no (fun h => by have h1 := h.2 i (by omega); have h2 := hm1.2 h1.1; first | omega | exact h1.2 (hm2.1 (by omega)))))
    · refine sq_v rfl (v_move rfl) rfl (sq_v rfl (v_move rfl) rfl (sq_v rfl (v_move rfl) rfl (sq_v rfl (v_sliceH Try.underlying25 ty_3 rfl rfl  r' (by omega) (by omega)) rfl (sq_v rfl (v_move rfl) rfl (sq_u rfl (x_callv rfl en_77 (fun w s => ct_s_l05Find _ _ _ w ((r'.subH (hi := i) (by omega)).mono (s.get 0 rfl)))) rfl (sq_v rfl (v_geq rfl rfl) rfl (sq_v rfl (v_pickf rfl rfl) rfl (sq_end (qs_n ?_))))))))); refine wp_cd rfl (fun c25 => ?_) (fun c25 => ?_)
      · refine wp_sc (wp_sq (sq_v rfl (v_assign rfl) rfl (sq_end (qs_n (wp_rt (qs_br (qs_r (qs_r (qs_br (qs_r ?_)))))))))); exact qs_ret1 rfl rfl (fin_q (i := 0) rfl (setB_no (fun h => by have h1 := h.2 i (by omega); have h2 := hm1.2 h1.1; first | omega | exact h1.2 (hm2.1 (by omega)))))
      · refine wp_sk (qs_bn (qs_n (wp_sq ?_))); refine sq_v rfl (v_add rfl rfl ((by unfold I64; omega))) rfl ?_; refine sq_v rfl (v_move rfl) rfl (sq_end ?_); exact qs_bk (i + 1) ⟨by omega, step_all hv ⟨hm1.1 (by omega), fun h => by have := hm2.2 h; omega⟩⟩ (by omega) ⟨rfl, rfl, rfl, rfl, rfl, (by first | rfl | exact ksub rfl (by first | omega | (simp; done) | (simp; omega))), trivial⟩ (fun _ s => s)
  · refine wp_ex (qs_x (qs_x (qs_bx (qs_n (wp_sc (wp_sq (sq_v rfl (v_move rfl) rfl (sq_v rfl (v_len Try.underlying25 rfl r.sl) rfl (sq_v rfl (v_move rfl) rfl (sq_v rfl (v_len Try.underlying25 rfl r'.sl) rfl (sq_v rfl (v_eql rfl rfl) rfl (sq_v rfl (v_assign rfl) rfl (sq_end (qs_n (wp_rt ?_))))))))))))))); exact qs_ret1 rfl rfl (fin_q (i := 0) rfl (setB_dec ⟨fun h => ⟨by omega, fun j hj => hv j (by omega)⟩, fun h => by have := h.1; omega⟩))
theorem ct_i_sameLabels (xs ys : List Int) (v u : Value) (w : World) (r : IntsR xs v (hp w)) (r' : IntsR ys u (hp w)) : Calls Try.prog 121 [v, u].toArray w (RetV w (.bool (setB xs ys))) := by
  refine calls_in Try.func121 rfl Try.ntmps121 rfl (Sat.start w) ?_; have hle0 := r.le; have hle1 := r'.le; refine wp_sc (wp_sq (sq_v rfl (v_assign rfl) rfl (sq_end (qs_n (wp_sc (wp_sc (wp_sq (sq_v rfl (v_move rfl) rfl (sq_v rfl (v_len Try.underlying25 rfl r'.sl) rfl (sq_v rfl (v_move rfl) rfl (sq_v rfl (v_len Try.underlying25 rfl r.sl) rfl (sq_v rfl (v_neq rfl rfl) rfl (sq_end (qs_n ?_)))))))))))))); refine wp_cd rfl (fun c11 => ?_) (fun c11 => ?_)
  · refine wp_sc (wp_sq (sq_v rfl (v_assign rfl) rfl (sq_end (qs_n (wp_rt (qs_r ?_)))))); exact qs_ret1 rfl rfl (fin_q (i := 0) rfl (setB_no (fun h => by have := h.1; omega)))
  · refine wp_sk (qs_n (wp_sc (wp_sc (wp_sq (sq_v rfl (v_move rfl) rfl (sq_v rfl (v_len Try.underlying25 rfl r'.sl) rfl (sq_v rfl (v_move rfl) rfl (sq_end (qs_n (wp_bl ?_)))))))))); refine wp_lp (σ := Nat) (fun z_ => [(0, v), (1, u), (4, .bool false), (12, u), (13, num ys.length), (14, num z_)]) (fun z_ => [hp w]) (fun z_ => z_ ≤ ys.length ∧ (∀ j, j < z_ → setP xs ys j)) (fun z_ => ys.length - z_) 0 (⟨by omega, fun j hj => by omega⟩) ⟨rfl, rfl, rfl, rfl, rfl, (by first | rfl | exact ksub rfl (by first | omega | (simp; done) | (simp; omega))), trivial⟩ (fun _ s => s) ?_; rintro i ⟨hi, hv⟩; refine wp_sc (wp_sq (sq_v rfl (v_lss rfl rfl) rfl (sq_end (qs_n (wp_sc ?_))))); refine wp_cd rfl (fun c15 => ?_) (fun c15 => ?_)
    · refine wp_sk (qs_n (wp_sc (wp_bl (wp_sc (wp_sq (sq_v rfl (v_move rfl) rfl ?_)))))); refine sq_v rfl (v_idxI Try.underlying25 ty_3 rfl rfl r' (by first | omega | (simp; omega) | (simp only [List.length_append, List.length_cons, List.length_nil]; omega) | (rw [List.length_set]; omega)) (by first | omega | (simp; omega) | (simp only [List.length_append, List.length_cons, List.length_nil]; omega) | (rw [List.length_set]; omega))) rfl ?_; refine sq_v rfl (v_loadI (k := i) 0 ty_3 rfl rfl r' (by first | omega | (simp; omega) | (simp only [List.length_append, List.length_cons, List.length_nil]; omega) | (rw [List.length_set]; omega))) rfl ?_; refine sq_v rfl (v_assign rfl) rfl (sq_v rfl (v_assign rfl) rfl (sq_end (qs_n (wp_sc (wp_sq (sq_v rfl (v_move rfl) rfl (sq_v rfl (v_move rfl) rfl (sq_v rfl (v_sliceH Try.underlying25 ty_3 rfl rfl  r' (by omega) (by omega)) rfl (sq_v rfl (v_move rfl) rfl (sq_u rfl (x_callv rfl en_67 (fun w s => ct_i_hasInt _ _ _ w ((r'.subH (hi := i) (by omega)).mono (s.get 0 rfl)))) rfl ?_)))))))))); refine sq_bd 23 rfl (fun c23 => ?_) (fun c23 => ?_)
      · refine sq_v rfl (v_move rfl) rfl (sq_s rfl rfl (sq_s rfl rfl (sq_s rfl rfl (sq_s rfl rfl (sq_v rfl (v_pickt rfl rfl) rfl (sq_end (qs_n (wp_ct rfl (wp_sc (wp_sq (sq_v rfl (v_assign rfl) rfl (sq_end (qs_n (wp_rt (qs_br (qs_r (qs_r (qs_br (qs_r ?_))))))))))))))))))); exact qs_ret1 rfl rfl (fin_q (i := 0) rfl (setB_no (fun h => by have h1 := h.2 i (by omega); first | exact h1.2 c23 | exact c29 h1.1)))
      · refine sq_v rfl (v_move rfl) rfl (sq_v rfl (v_move rfl) rfl (sq_v rfl (v_move rfl) rfl (sq_u rfl (x_callv rfl en_67 (fun w s => ct_i_hasInt _ _ _ w (r.mono (s.get 0 rfl)))) rfl (sq_v rfl (v_not rfl) rfl (sq_v rfl (v_pickf rfl rfl) rfl (sq_end (qs_n ?_))))))); refine wp_cnd rfl (fun c29 => ?_) (fun c29 => ?_)
        · refine wp_sc (wp_sq (sq_v rfl (v_assign rfl) rfl (sq_end (qs_n (wp_rt (qs_br (qs_r (qs_r (qs_br (qs_r ?_)))))))))); exact qs_ret1 rfl rfl (fin_q (i := 0) rfl (setB_no (fun h => by have h1 := h.2 i (by omega); first | exact h1.2 c23 | exact c29 h1.1)))
        · refine wp_sk (qs_bn (qs_n (wp_sq ?_))); refine sq_v rfl (v_add rfl rfl ((by unfold I64; omega))) rfl ?_; refine sq_v rfl (v_move rfl) rfl (sq_end ?_); exact qs_bk (i + 1) ⟨by omega, step_all hv ⟨c29, c23⟩⟩ (by omega) ⟨rfl, rfl, rfl, rfl, rfl, (by first | rfl | exact ksub rfl (by first | omega | (simp; done) | (simp; omega))), trivial⟩ (fun _ s => s)
    · refine wp_ex (qs_x (qs_x (qs_bx (qs_n (wp_sc (wp_sq (sq_v rfl (v_assign rfl) rfl (sq_end (qs_n (wp_rt ?_)))))))))); exact qs_ret1 rfl rfl (fin_q (i := 0) rfl (setB_yes ⟨by omega, fun j hj => hv j (by omega)⟩))
theorem perm_of : ∀ {xs ys : List Int}, xs.Nodup → (∀ x ∈ xs, x ∈ ys) → ys.length ≤ xs.length → xs.Perm ys
  | [], ys, _, _, hl => by
    have : ys = [] := List.eq_nil_of_length_eq_zero (by simpa using hl); rw [this]
  | x :: xs, ys, hn, hs, hl => by
    have hx := hs x (by simp); have hp := List.perm_cons_erase hx; have hnx := List.nodup_cons.1 hn; refine (List.Perm.cons x (perm_of hnx.2 (fun y hy => ?_) ?_)).trans hp.symm
    · exact (List.mem_erase_of_ne (fun e => hnx.1 (by rw [← e]; exact hy))).2 (hs y (by simp [hy]))
    · have := List.length_erase_of_mem hx; simp only [List.length_cons] at hl
      omega
theorem prodI_perm {a b : List Int} (h : a.Perm b) : prodI a = prodI b := by
  induction h with
  | nil => rfl
  | cons x _ ih => rw [prodI_cons, prodI_cons, ih]
  | swap x y l => rw [prodI_cons, prodI_cons, prodI_cons, prodI_cons, Int.mul_left_comm]
  | trans _ _ h1 h2 => exact h1.trans h2
def permD (t : Ten) (ls : List Int) : List Int := idxAt t.l t.d ls
def permX (wd : Int) (t : Ten) (ls ds : List Int) (m : Nat) : List Int := (List.range m).flatMap fun (i : Nat) => elt t.x wd (offL t.d (idxAt ls (idxL ds i) t.l))
noncomputable def permT (k n : Int) (t : Ten) (ls : List Int) : Ten := ⟨ls, permD t ls, permX (widthI k n) t ls (permD t ls) (prodI (permD t ls)).toNat⟩
theorem permX_step (wd : Int) (t : Ten) (ls ds : List Int) (m : Nat) : permX wd t ls ds (m + 1) = permX wd t ls ds m ++ elt t.x wd (offL t.d (idxAt ls (idxL ds m) t.l)) := by
  simp [permX, List.range_succ]
theorem permD_len (t : Ten) (ls : List Int) : (permD t ls).length = ls.length := List.length_map _
structure PermOK (k p n : Int) (t : Ten) (ls : List Int) : Prop where
  ring : ringL k p n
  ten : tensorL k p n t.l t.d t.x
  perm : ls.Perm t.l
section
variable {k p n : Int} {t : Ten} {ls : List Int}
theorem PermOK.axes (h : PermOK k p n t ls) : axesL t.l t.d := tensor_axes h.ten
theorem PermOK.nodup (h : PermOK k p n t ls) : ls.Nodup := (List.Perm.nodup_iff h.perm).2 (axes_nodup h.axes)
theorem PermOK.len (h : PermOK k p n t ls) : ls.length = t.l.length ∧ t.l.length = t.d.length ∧ ls.length ≤ 12 := by
  have := h.perm.length_eq; have := h.axes; exact ⟨by omega, this.2.1, by have := this.1; omega⟩
theorem PermOK.find (h : PermOK k p n t ls) {j : Nat} (hj : j < ls.length) : 0 ≤ findI t.l (ls.getD j 0) ∧ findI t.l (ls.getD j 0) < t.d.length ∧ t.l.getD (findI t.l (ls.getD j 0)).toNat 0 = ls.getD j 0 := by
  have hm : ls.getD j 0 ∈ t.l := h.perm.mem_iff.1 (mem_getD hj); have h1 := findI_ge.2 hm; have h2 := findI_get hm; have := h.len; exact ⟨h1, by omega, h2.2⟩
theorem PermOK.dims (h : PermOK k p n t ls) : dimsIn (permD t ls) := fun j hj => by
  rw [permD_len] at hj; have hf := h.find hj; rw [permD, idxAt, map_getD hj]; exact axes_dims h.axes _ (by omega)
theorem PermOK.prod (h : PermOK k p n t ls) : prodI (permD t ls) = prodI t.d := by
  have e : t.d = idxAt t.l t.d t.l := by
    apply ext_getD (by simp [idxAt, h.axes.2.1])
    intro j hj; have hj' : j < t.l.length := by rw [h.axes.2.1]; exact hj
    rw [idxAt, map_getD hj', find_at h.axes hj', Int.toNat_natCast]
  conv => rhs; rw [e]
  exact prodI_perm (h.perm.map _)
theorem PermOK.small (h : PermOK k p n t ls) : 1 ≤ prodI (permD t ls) ∧ prodI (permD t ls) ≤ 4096 := by
  refine ⟨prodI_one fun d hd => (dims_mem h.dims d hd).1, ?_⟩; rw [h.prod]; exact (sizeI_ge.1 h.ten.2.1).2
theorem PermOK.back (h : PermOK k p n t ls) {j : Nat} (hj : j < t.l.length) : (findI ls (t.l.getD j 0)).toNat < ls.length ∧ ls.getD (findI ls (t.l.getD j 0)).toNat 0 = t.l.getD j 0 :=
  findI_get (h.perm.mem_iff.2 (mem_getD hj))
theorem PermOK.idx (h : PermOK k p n t ls) (i : Int) : idxIn t.d (idxAt ls (idxL (permD t ls) i) t.l) := by
  have hd : ∀ d ∈ permD t ls, 1 ≤ d := fun d hd => (dims_mem h.dims d hd).1; refine ⟨by simp [idxAt, h.axes.2.1], fun j hj => ?_⟩; have hj' : j < t.l.length := by rw [h.axes.2.1]; exact hj
  have hb := h.back hj'; have hv := (idxL_in hd i).2 (findI ls (t.l.getD j 0)).toNat (by rw [permD_len]; exact hb.1); rw [idxAt, map_getD hj']; rw [show (permD t ls).getD (findI ls (t.l.getD j 0)).toNat 0 = t.d.getD j 0 by
    rw [permD, idxAt, map_getD hb.1, hb.2, find_at h.axes hj', Int.toNat_natCast]] at hv
  exact hv
theorem PermOK.off (h : PermOK k p n t ls) (i : Int) : 0 ≤ offL t.d (idxAt ls (idxL (permD t ls) i) t.l) ∧ offL t.d (idxAt ls (idxL (permD t ls) i) t.l) < prodI t.d := by
  have := offL_in (fun d hd => (dims_mem (axes_dims h.axes) d hd).1) (h.idx i)
  omega
end
end Go.Proofs.Ythlmjnihihbckaa
namespace Go.Proofs.Ythlmjnihihbckaa
set_option maxRecDepth 100000
open Go.RowKit
section
variable {P : Program} {n : Nat} {w0 : World} {K : Env} {HS HK : List PH} {Q : Exit → Act → World → Prop} {ops : Array Oper} {m f : Nat} {listed : Array Bool}
end
section
variable {P : Program} {n : Nat} {w0 : World} {K : Env} {HS : List PH} {d : Option Tmp} {ty : TypeId} {ps : String} {af : Array Edge} {g : Option (Nat × Bool)}
end
theorem en_123 : EnterOK Try.prog 123 := ⟨_, Try.func123, by kernel_rfl, rfl⟩
def swapAt (xs : List Int) (k : Nat) : List Int := (xs.set (k + 1) (xs.getD k 0)).set k (xs.getD (k + 1) 0)
def sink : List Int → Nat → List Int
  | xs, 0 => xs
  | xs, k + 1 => if xs.getD (k + 1) 0 < xs.getD k 0 then sink (swapAt xs k) k else xs
def isort (xs : List Int) : Nat → List Int
  | 0 => xs
  | m + 1 => sink (isort xs m) m
theorem swapAt_len (xs : List Int) (k : Nat) : (swapAt xs k).length = xs.length := by simp [swapAt]
theorem sink_len : ∀ (k : Nat) (xs : List Int), (sink xs k).length = xs.length
  | 0, _ => rfl
  | k + 1, xs => by
    rw [sink]
    split
    · rw [sink_len k, swapAt_len]
    · rfl
theorem isort_len (xs : List Int) : ∀ m, (isort xs m).length = xs.length
  | 0 => rfl
  | m + 1 => by rw [isort, sink_len, isort_len xs m]
theorem swapAt_perm {xs : List Int} {k : Nat} (h : k + 1 < xs.length) : (swapAt xs k).Perm xs := by
  have e1 : xs = xs.take k ++ (xs.getD k 0 :: xs.getD (k + 1) 0 :: xs.drop (k + 2)) := by
    conv => lhs; rw [← List.take_append_drop k xs, drop_cons (show k < xs.length by omega), drop_cons h]
  have hl : (xs.take k).length = k := by simp; omega
  generalize xs.take k = A at e1 hl
  generalize xs.drop (k + 2) = B at e1
  have g1 : swapAt (A ++ (xs.getD k 0 :: xs.getD (k + 1) 0 :: B)) k = A ++ (xs.getD (k + 1) 0 :: xs.getD k 0 :: B) := by
    have q1 : (A ++ (xs.getD k 0 :: xs.getD (k + 1) 0 :: B)).getD k 0 = xs.getD k 0 := by rw [← e1]
    have q2 : (A ++ (xs.getD k 0 :: xs.getD (k + 1) 0 :: B)).getD (k + 1) 0 = xs.getD (k + 1) 0 := by rw [← e1]
    rw [swapAt, q1, q2, List.set_append_right _ _ (by omega), List.set_append_right _ _ (by omega), hl, Nat.sub_self, show k + 1 - k = 1 by omega]
    rfl
  conv => lhs; rw [e1]
  conv => rhs; rw [e1]
  rw [g1]; exact List.Perm.append_left _ (List.Perm.swap _ _ _)
theorem sink_perm : ∀ (k : Nat) (xs : List Int), k < xs.length ∨ k = 0 → (sink xs k).Perm xs
  | 0, _, _ => List.Perm.refl _
  | k + 1, xs, h => by
    rw [sink]
    split
    · exact (sink_perm k _ (by rw [swapAt_len]; omega)).trans (swapAt_perm (by omega))
    · exact List.Perm.refl _
theorem isort_perm (xs : List Int) : ∀ m, m ≤ xs.length → (isort xs m).Perm xs
  | 0, _ => List.Perm.refl _
  | m + 1, h => (sink_perm m _ (by rw [isort_len]; omega)).trans (isort_perm xs m (by omega))
theorem sink_go {A T : List Int} {k : Nat} (h : sink A k = T) (hk : 0 < k) (hlt : A.getD k 0 < A.getD (k - 1) 0) : sink (swapAt A (k - 1)) (k - 1) = T := by
  obtain ⟨m, rfl⟩ : ∃ m, k = m + 1 := ⟨k - 1, by omega⟩
  rw [Nat.add_sub_cancel] at hlt ⊢; rw [sink, if_pos hlt] at h; exact h
theorem sink_stop {A T : List Int} {k : Nat} (h : sink A k = T) (hc : k = 0 ∨ ¬ A.getD k 0 < A.getD (k - 1) 0) : A = T := by
  rcases hc with rfl | hc
  · exact h
  · match k, h, hc with
    | 0, h, _ => exact h
    | m + 1, h, hc => rw [Nat.add_sub_cancel] at hc; rw [sink, if_neg hc] at h; exact h
end Go.Proofs.Ythlmjnihihbckaa
namespace Go.Proofs.Ythlmjnihihbckaa
set_option maxRecDepth 100000
open Go.RowKit
/-- sorted but for the element k, which is not above what follows -/
structure SinkI (xs : List Int) (k m : Nat) : Prop where
  pair : ∀ i j, i < j → j ≤ m → i ≠ k → j ≠ k → xs.getD i 0 ≤ xs.getD j 0
  low : ∀ j, k < j → j ≤ m → xs.getD k 0 ≤ xs.getD j 0
theorem swapAt_get {xs : List Int} {k : Nat} (h : k + 1 < xs.length) (j : Nat) : (swapAt xs k).getD j 0 = if j = k then xs.getD (k + 1) 0 else if j = k + 1 then xs.getD k 0 else xs.getD j 0 := by
  unfold swapAt
  simp only [List.getD, List.getElem?_set, List.length_set]
  by_cases e1 : j = k
  · subst e1; simp [show j < xs.length by omega]
  · by_cases e2 : j = k + 1
    · subst e2; simp [show k ≠ k + 1 by omega, h]
    · simp [show ¬ k = j by omega, show ¬ k + 1 = j by omega, e1, e2]
theorem sink_sorted : ∀ (k : Nat) (xs : List Int) (m : Nat), k ≤ m → m < xs.length → SinkI xs k m → ∀ i j, i < j → j ≤ m → (sink xs k).getD i 0 ≤ (sink xs k).getD j 0
  | 0, xs, m, _, _, h, i, j, hij, hj => by
    show xs.getD i 0 ≤ xs.getD j 0
    by_cases e : i = 0
    · subst e; exact h.low j hij hj
    · exact h.pair i j hij hj e (by omega)
  | k + 1, xs, m, hk, hm, h, i, j, hij, hj => by
    rw [sink]
    by_cases c : xs.getD (k + 1) 0 < xs.getD k 0
    · rw [if_pos c]; refine sink_sorted k (swapAt xs k) m (by omega) (by rw [swapAt_len]; exact hm) ⟨fun i j hij hj hi hk' => ?_, fun j hkj hj => ?_⟩ i j hij hj
      · rw [swapAt_get (by omega), swapAt_get (by omega), if_neg hi, if_neg hk']
        by_cases e1 : j = k + 1
        · rw [if_pos e1, if_neg (by omega)]; exact h.pair i k (by omega) (by omega) (by omega) (by omega)
        · rw [if_neg e1]
          by_cases e2 : i = k + 1
          · rw [if_pos e2]; exact h.pair k j (by omega) hj (by omega) e1
          · rw [if_neg e2]; exact h.pair i j hij hj e2 e1
      · rw [swapAt_get (by omega), swapAt_get (by omega), if_pos rfl, if_neg (by omega)]
        by_cases e1 : j = k + 1
        · rw [if_pos e1]; omega
        · rw [if_neg e1]; exact h.low j (by omega) hj
    · rw [if_neg c]
      by_cases e1 : j = k + 1
      · subst e1
        by_cases e2 : i = k
        · subst e2; omega
        · have := h.pair i k (by omega) (by omega) (by omega) (by omega); omega
      · by_cases e2 : i = k + 1
        · subst e2; exact h.low j hij hj
        · exact h.pair i j hij hj e2 e1
theorem isort_sorted (xs : List Int) : ∀ m, m ≤ xs.length → ∀ i j, i < j → j < m → (isort xs m).getD i 0 ≤ (isort xs m).getD j 0
  | 0, _, i, j, _, h => by omega
  | m + 1, h, i, j, hij, hj => by
    rw [isort]; exact sink_sorted m (isort xs m) m (Nat.le_refl _) (by rw [isort_len]; omega) ⟨fun i j hij hj hi hk => isort_sorted xs m (by omega) i j hij (by omega), fun j h1 h2 => by omega⟩ i j hij (by omega)
theorem sort_eq (xs : List Int) : (xs.mergeSort fun x y => decide (x ≤ y)) = isort xs xs.length := by
  refine List.Perm.eq_of_pairwise (le := fun x y : Int => x ≤ y) (fun a b _ _ h1 h2 => Int.le_antisymm h1 h2) ?_ ?_ ((List.mergeSort_perm xs _).trans (isort_perm xs xs.length (Nat.le_refl _)).symm)
  · have := List.pairwise_mergeSort (le := fun x y : Int => decide (x ≤ y)) (fun a b c h1 h2 => by simp only [decide_eq_true_eq] at *; omega) (fun a b => by simp only [Bool.or_eq_true, decide_eq_true_eq]; omega) xs; exact this.imp fun h => of_decide_eq_true h
  · rw [List.pairwise_iff_getElem]; intro i j hi hj hij; rw [isort_len] at hi hj; have := isort_sorted xs xs.length (Nat.le_refl _) i j hij hj
    simpa [List.getD, isort_len, hi, hj] using this
theorem hp_get {w : World} {g : Nat} {cur : List Value} {t : TypeId} (h : PLe (box g cur t) (hp w)) : w.heap[g]? = some (.cells cur.toArray t (0, 0)) := h g _ (by simp [box])
set_option maxHeartbeats 1000000 in
theorem ct_lib_Sort (xs : List Int) (v : Value) (w : World) (h : PH) (hle : PLe h (hp w)) (rx : IntsO xs v h) (hn : xs.length ≤ 1048576) : Calls Try.prog 123 [v].toArray w (Ret w h (fun _ h' => IntsO (isort xs xs.length) v h')) := by
  obtain ⟨hl, hc⟩ := rx; have hl1 : (ints xs).length = xs.length := by simp [ints]
  rcases hc with ⟨rfl, h0, rfl⟩ | ⟨g, cap, cur, rfl, rfl, h3, h4, h5, h6⟩
  · refine (lib_sort_none none 0 w).mono ?_; rintro e w' ⟨rfl, rfl⟩; have e0 : xs = [] := List.eq_nil_of_length_eq_zero h0; subst e0; exact ⟨_, emp, rfl, ⟨rfl, rfl, rfl, Nat.le_refl _, fun _ _ _ => rfl, PLe.emp _, fun k o e => by cases e⟩, IntsO.nil⟩
  · have hg := hp_get hle; have hlt : g < w.heap.size := (Array.getElem?_eq_some_iff.1 hg).1; have hcur : ∀ j, j < xs.length → cur[j]? = some (num (xs.getD j 0)) := fun j hj => by
      have e1 : (cur.take (xs.length * 1))[j]? = (ints xs)[j]? := by rw [h6]
      rw [List.getElem?_take, if_pos (by omega)] at e1; rw [e1]; simp [ints, List.getD, hj]
    have hH : Go.Sort.Holds (Value.int .i64) w g 0 xs.toArray := fun j hj => by
      have hj : j < xs.length := by simpa using hj
      constructor
      · unfold World.cell?
        simp only [hg, Nat.zero_add]; have := hcur j hj; simp only [Option.isSome_none, Bool.false_eq_true, if_false, List.getElem?_toArray]; rw [this]
        simp [List.getD, hj]
      · unfold World.frozen?
        simp only [hg]
        simp
    have hml : xs.length < 4611686018427387904 := by omega
    refine (lib_sort g 0 cap xs w hH hlt hml).mono ?_; rintro e w' ⟨rfl, n, os, rfl⟩; rw [sort_eq]; have hil := isort_len xs xs.length
    generalize hys : isort xs xs.length = ys at hil
    have hput : Go.Sort.putCells (Value.int .i64) 0 ys.toArray cur.toArray = (ints ys ++ cur.drop ys.length).toArray := by
      apply Array.ext_getElem?
      intro j; simp only [Go.Sort.putCells, Array.getElem?_mapIdx, List.getElem?_toArray, List.size_toArray, Nat.zero_add, Nat.zero_le, true_and, Nat.sub_zero]
      by_cases hj : j < ys.length
      · rw [List.getElem?_append_left (by simp [ints, hj]), hcur j (by omega)]
        simp [ints, hj]
      · rw [List.getElem?_append_right (by simp [ints]; omega)]; simp only [ints, List.length_map, List.getElem?_drop]; rw [show ys.length + (j - ys.length) = j by omega]
        cases cur[j]? with
        | none => rfl
        | some x => simp [hj]
    have hheap : ∀ k, k < w.heap.size → (Go.Sort.grow (Go.Sort.putRow (Value.int .i64) (Go.Sort.ahead w n) g 0 ys.toArray) os).heap[k]? = if k = g then some (.cells (ints ys ++ cur.drop ys.length).toArray 3 (0, 0)) else w.heap[k]? := fun k hk => by
      show ((w.heap.modify g (Go.Sort.onCells (Go.Sort.putCells (Value.int .i64) 0 ys.toArray))) ++ os)[k]? = _
      rw [Array.getElem?_append_left (by simpa using hk), Array.getElem?_modify]
      by_cases e : k = g
      · subst e; rw [if_pos rfl, if_pos rfl, hg]
        show some (Obj.cells (Go.Sort.putCells (Value.int .i64) 0 ys.toArray cur.toArray) _ _) = _
        rw [hput]
      · rw [if_neg (fun h => e h.symm), if_neg e]
    refine ⟨_, box g (ints ys ++ cur.drop ys.length) 3, rfl, ⟨rfl, rfl, rfl, ?_, fun k hk he => ?_, fun k o e => ?_, fun k o e => ?_⟩, ?_, .inr ⟨g, cap, ints ys ++ cur.drop ys.length, by rw [hil], rfl, by omega, h4, ?_, ?_⟩⟩
    · show w.heap.size ≤ ((w.heap.modify g _) ++ os).size
      simp
    · rw [hheap k hk, if_neg (fun e => by subst e; simp [box] at he)]
    · unfold box at e
      by_cases c : k = g
      · rw [if_pos c] at e; subst c
        show (Go.Sort.grow _ os).heap[k]? = _
        rw [hheap k hlt, if_pos rfl]; exact e
      · rw [if_neg c] at e; cases e
    · left
      unfold box at e ⊢
      by_cases c : k = g
      · rw [if_pos c]; simp
      · rw [if_neg c] at e; cases e
    · simp [ints]
    · simp only [List.length_append, List.length_drop, ints, List.length_map]; omega
    · rw [List.take_left' (by simp [ints])]
theorem ct_s_l06SortL (ls : List Int) (v : Value) (w : World) (r : IntsR ls v (hp w)) (hn : ls.length ≤ 1048576) : Calls Try.prog 75 [v].toArray w (Ret w emp (IntsO (isort ls ls.length))) := by
  refine calls_in Try.func75 rfl Try.ntmps75 rfl (Sat.start w) ?_; have hle0 := r.le; refine wp_sc (wp_sq (sq_v rfl (v_assign rfl) rfl (sq_end (qs_n (wp_sc (wp_sq (sq_v rfl (v_move rfl) rfl ?_))))))); refine sq_x rfl (x_call rfl en_38 (fun w s => ct_s_l05Ints _ _ w (r.mono (s.get 0 rfl)) (by first | assumption | omega))) rfl ?_; rintro v8 h8 r8; refine sq_v rfl (v_assign rfl) rfl (sq_end (qs_n (wp_sc (wp_sc (wp_sq (sq_v rfl (v_move rfl) rfl (sq_v rfl (v_len Try.underlying25 rfl r8.toR.sl) rfl (sq_v rfl (v_move rfl) rfl (sq_end (qs_n (wp_bl ?_))))))))))); refine wp_lp (σ := Nat × PH) (fun z_ => [(2, .slice none 0 0), (3, v8), (10, num ls.length), (11, num z_.1)]) (fun z_ => [z_.2, hp w]) (fun z_ => z_.1 ≤ ls.length ∧ IntsO (isort ls z_.1) v8 z_.2) (fun z_ => ls.length - z_.1) (0, h8) (⟨by (try dsimp only); omega, r8⟩) ⟨rfl, rfl, rfl, (by first | rfl | exact ksub rfl (by first | omega | (simp; done) | (simp; omega))), trivial⟩ (fun _ s => s) ?_; rintro ⟨i, g⟩ ⟨hi, q⟩; dsimp only at hi q ⊢; have hle_q := q.toR.le; have hil := isort_len ls i; refine wp_sc (wp_sq (sq_v rfl (v_lss rfl rfl) rfl (sq_end (qs_n (wp_sc ?_))))); refine wp_cd rfl (fun c12 => ?_) (fun c12 => ?_)
  · refine wp_sk (qs_n (wp_sc (wp_bl (wp_sc (wp_sq (sq_v rfl (v_move rfl) rfl (sq_v rfl (v_assign rfl) rfl (sq_end (qs_n (wp_sc (wp_sq (sq_v rfl (v_move rfl) rfl (sq_v rfl (v_assign rfl) rfl (sq_end (qs_n (wp_bl ?_)))))))))))))))); refine wp_lp (σ := Nat × (List Int) × PH) (fun z_ => [(2, .slice none 0 0), (3, v8), (4, num i), (5, num z_.1), (10, num ls.length), (11, num i), (12, .bool (decide ((i : Int) < ls.length))), (13, num i), (14, num i)]) (fun z_ => [z_.2.2, hp w]) (fun z_ => z_.1 ≤ i ∧ sink z_.2.1 z_.1 = sink (isort ls i) i ∧ z_.2.1.length = ls.length ∧ IntsO z_.2.1 v8 z_.2.2) (fun z_ => z_.1) (i, isort ls i, g) (⟨by (try dsimp only); omega, rfl, hil, q⟩) ⟨rfl, rfl, rfl, (by first | rfl | exact ksub rfl (by first | omega | (simp; done) | (simp; omega))), rfl, rfl, rfl, rfl, rfl, trivial⟩ (fun _ s => s) ?_; rintro ⟨k, A, g2⟩ ⟨hk, hA, hAl, q2⟩; dsimp only at hk hA hAl q2 ⊢; have hle_q2 := q2.toR.le; have em : ((k : Int) - 1).toNat = k - 1 := by omega
    refine wp_sc (wp_sc (wp_rj 14 [(0, true), (1, true), (2, true), (3, true), (4, true), (5, true), (6, true), (7, true), (8, true), (9, true), (10, true), (11, true), (12, true), (13, true)] mixed_ok (by kernel_rfl) (rj_v rfl rfl (v_move rfl) rfl (rj_v rfl rfl (v_gtr rfl rfl) rfl ?_)))); refine rj_bd 16 rfl (fun c16 => ?_) (fun c16 => ?_)
    · refine rj_v rfl rfl (v_move rfl) rfl (rj_v rfl rfl (v_move rfl) rfl (rj_v rfl rfl (v_move rfl) rfl ?_)); refine rj_v rfl rfl (v_sub rfl rfl ((by unfold I64; omega))) rfl ?_; refine rj_v rfl rfl (v_idxI Try.underlying25 ty_3 rfl rfl q2.toR (by first | omega | (simp; omega) | (simp only [List.length_append, List.length_cons, List.length_nil]; omega) | (rw [List.length_set]; omega)) (by first | omega | (simp; omega) | (simp only [List.length_append, List.length_cons, List.length_nil]; omega) | (rw [List.length_set]; omega))) rfl ?_; refine rj_v rfl rfl (v_loadI  0 ty_3 rfl rfl q2.toR (by first | omega | (simp; omega) | (simp only [List.length_append, List.length_cons, List.length_nil]; omega) | (rw [List.length_set]; omega))) rfl ?_; refine rj_v rfl rfl (v_move rfl) rfl (rj_v rfl rfl (v_move rfl) rfl ?_); refine rj_v rfl rfl (v_idxI Try.underlying25 ty_3 rfl rfl q2.toR (by first | omega | (simp; omega) | (simp only [List.length_append, List.length_cons, List.length_nil]; omega) | (rw [List.length_set]; omega)) (by first | omega | (simp; omega) | (simp only [List.length_append, List.length_cons, List.length_nil]; omega) | (rw [List.length_set]; omega))) rfl ?_; refine rj_v rfl rfl (v_loadI (k := k) 0 ty_3 rfl rfl q2.toR (by first | omega | (simp; omega) | (simp only [List.length_append, List.length_cons, List.length_nil]; omega) | (rw [List.length_set]; omega))) rfl ?_; refine rj_v rfl rfl (v_gtr rfl rfl) rfl (rj_v rfl rfl (v_pickt rfl rfl) rfl (rj_end (qs_n ?_))); refine wp_cd rfl (fun c28 => ?_) (fun c28 => ?_)
      · refine wp_sk (qs_n (wp_sc (wp_bl (wp_sc (wp_sq (sq_v rfl (v_move rfl) rfl (sq_v rfl (v_move rfl) rfl ?_))))))); refine sq_v rfl (v_idxI Try.underlying25 ty_3 rfl rfl q2.toR (by first | omega | (simp; omega) | (simp only [List.length_append, List.length_cons, List.length_nil]; omega) | (rw [List.length_set]; omega)) (by first | omega | (simp; omega) | (simp only [List.length_append, List.length_cons, List.length_nil]; omega) | (rw [List.length_set]; omega))) rfl ?_; refine sq_v rfl (v_loadI (k := k) 0 ty_3 rfl rfl q2.toR (by first | omega | (simp; omega) | (simp only [List.length_append, List.length_cons, List.length_nil]; omega) | (rw [List.length_set]; omega))) rfl ?_; refine sq_v rfl (v_assign rfl) rfl (sq_end (qs_n (wp_sc (wp_sq (sq_v rfl (v_move rfl) rfl (sq_v rfl (v_move rfl) rfl (sq_v rfl (v_move rfl) rfl (sq_v rfl (v_move rfl) rfl ?_)))))))); refine sq_v rfl (v_sub rfl rfl ((by unfold I64; omega))) rfl ?_; refine sq_v rfl (v_idxI Try.underlying25 ty_3 rfl rfl q2.toR (by first | omega | (simp; omega) | (simp only [List.length_append, List.length_cons, List.length_nil]; omega) | (rw [List.length_set]; omega)) (by first | omega | (simp; omega) | (simp only [List.length_append, List.length_cons, List.length_nil]; omega) | (rw [List.length_set]; omega))) rfl ?_; refine sq_v rfl (v_loadI  0 ty_3 rfl rfl q2.toR (by first | omega | (simp; omega) | (simp only [List.length_append, List.length_cons, List.length_nil]; omega) | (rw [List.length_set]; omega))) rfl ?_; refine sq_v rfl (v_idxI Try.underlying25 ty_3 rfl rfl q2.toR (by first | omega | (simp; omega) | (simp only [List.length_append, List.length_cons, List.length_nil]; omega) | (rw [List.length_set]; omega)) (by first | omega | (simp; omega) | (simp only [List.length_append, List.length_cons, List.length_nil]; omega) | (rw [List.length_set]; omega))) rfl ?_; refine sq_m 0 rfl rfl (m_storeI (k := k) 0 ty_3 rfl rfl rfl q2 (by first | omega | (simp; omega) | (simp only [List.length_append, List.length_cons, List.length_nil]; omega) | (rw [List.length_set]; omega))) rfl ?_; rintro _ h_q9_8 ⟨rfl, q9_8⟩; refine sq_end (qs_n (wp_sq (sq_v rfl (v_move rfl) rfl (sq_v rfl (v_move rfl) rfl ?_)))); refine sq_v rfl (v_sub rfl rfl ((by unfold I64; omega))) rfl ?_; refine sq_v rfl (v_move rfl) rfl ?_; refine sq_v rfl (v_idxI Try.underlying25 ty_3 rfl rfl q9_8.toR (by first | omega | (simp; omega) | (simp only [List.length_append, List.length_cons, List.length_nil]; omega) | (rw [List.length_set]; omega)) (by first | omega | (simp; omega) | (simp only [List.length_append, List.length_cons, List.length_nil]; omega) | (rw [List.length_set]; omega))) rfl ?_; refine sq_m 0 rfl rfl (m_storeI 0 ty_3 rfl rfl rfl q9_8 (by first | omega | (simp; omega) | (simp only [List.length_append, List.length_cons, List.length_nil]; omega) | (rw [List.length_set]; omega))) rfl ?_; rintro _ h_q10_5 ⟨rfl, q10_5⟩; refine sq_end (qs_bn (qs_n (wp_sq (sq_v rfl (v_move rfl) rfl ?_)))); refine sq_v rfl (v_sub rfl rfl ((by unfold I64; omega))) rfl ?_; refine sq_v rfl (v_assign rfl) rfl (sq_end ?_); exact qs_bk (k - 1, swapAt A (k - 1), h_q10_5) ⟨by (try dsimp only); omega, sink_go hA (by omega) (by rw [← em]; exact c28), by (try dsimp only); rw [swapAt_len]; exact hAl, by (try dsimp only); rw [em] at q10_5; rw [swapAt, show k - 1 + 1 = k by omega]; exact q10_5⟩ (by simp only; omega) ⟨rfl, rfl, rfl, (by first | rfl | exact ksub rfl (by first | omega | (simp; done) | (simp; omega))), rfl, rfl, rfl, rfl, rfl, trivial⟩ (fun _ s => s)
      · refine wp_ex (qs_x (qs_x (qs_bx (qs_bn (qs_n (wp_sq ?_)))))); refine sq_v rfl (v_add rfl rfl ((by unfold I64; omega))) rfl ?_; refine sq_v rfl (v_move rfl) rfl (sq_end ?_); exact qs_bk (i + 1, g2) ⟨by (try dsimp only); omega, by (try dsimp only); rw [isort, ← sink_stop hA (.inr (by rw [← em]; exact c28))]; exact q2⟩ (by simp only; omega) ⟨rfl, rfl, rfl, (by first | rfl | exact ksub rfl (by first | omega | (simp; done) | (simp; omega))), trivial⟩ (fun _ s => s)
    · refine rj_v rfl rfl (v_move rfl) rfl (rj_s rfl rfl rfl (rj_s rfl rfl rfl (rj_s rfl rfl rfl (rj_s rfl rfl rfl (rj_s rfl rfl rfl (rj_s rfl rfl rfl (rj_s rfl rfl rfl (rj_s rfl rfl rfl (rj_s rfl rfl rfl ?_))))))))); refine rj_s rfl rfl rfl (rj_v rfl rfl (v_pickf rfl rfl) rfl (rj_end (qs_n (wp_cf rfl (wp_ex (qs_x (qs_x (qs_bx (qs_bn (qs_n (wp_sq ?_))))))))))); refine sq_v rfl (v_add rfl rfl ((by unfold I64; omega))) rfl ?_; refine sq_v rfl (v_move rfl) rfl (sq_end ?_); exact qs_bk (i + 1, g2) ⟨by (try dsimp only); omega, by (try dsimp only); rw [isort, ← sink_stop hA (.inl (by omega))]; exact q2⟩ (by simp only; omega) ⟨rfl, rfl, rfl, (by first | rfl | exact ksub rfl (by first | omega | (simp; done) | (simp; omega))), trivial⟩ (fun _ s => s)
  · refine wp_ex (qs_x (qs_x (qs_bx (qs_n (wp_sc (wp_sq (sq_v rfl (v_move rfl) rfl (sq_v rfl (v_assign rfl) rfl (sq_end (qs_n (wp_rt ?_))))))))))); exact qs_ret1 rfl rfl (fin_t 0 (i := 1) rfl rfl rfl (by rw [show ls.length = i by omega]; exact q))
end Go.Proofs.Ythlmjnihihbckaa
namespace Go.Proofs.Ythlmjnihihbckaa
set_option maxRecDepth 100000
open Go.RowKit
theorem zeroL_get {k p n : Int} (hr : ringL k p n) {i : Nat} (hi : i < (widthI k n).toNat) : (zeroL k p n).getD i 0 = if k = 4 then p else 0 := by
  unfold zeroL
  split
  · rename_i e
    rw [width_1 (by omega) (by omega)] at hi; have : i = 0 := by simp at hi; omega
    subst this; rfl
  · simp [List.getD, hi]
theorem add1_zero {k p n a : Int} (hr : ringL k p n) (ha : 0 ≤ a ∧ a ≤ topI k p n) : add1 k p (if k = 4 then p else 0) a = a := by
  unfold add1
  split
  · rename_i h; rw [if_neg (by omega)]; omega
  · split
    · rename_i h0 h; rw [if_neg (by omega)]
      have : topI k p n = p := by unfold topI; rw [if_neg (by omega), if_pos (by omega)]
      omega
    · split
      · rename_i h1 h0 h
        have : topI k p n = p := by unfold topI; rw [if_neg (by omega), if_pos (by omega)]
        omega
      · split
        · rename_i h2 h1 h0 h; simp; omega
        · rename_i h3 h2 h1 h0
          have hk : k = 2 ∨ k = 7 ∨ k = 8 := by unfold ringL at hr; omega
          have := top_poly hr hk; rw [Int.zero_add]; exact Int.tmod_eq_of_lt ha.1 (by omega)
theorem add_zero {k p n : Int} (hr : ringL k p n) {x : List Int} (hx : InR k p n x) : addL k p (zeroL k p n) x = x := by
  have hl := zeroL_len k p n; refine ext_getD (by rw [addL_len, hl, hx.1]) fun i hi => ?_; rw [addL_len, hl] at hi; rw [addL_get (by rw [hl]; exact hi), zeroL_get hr hi]; exact add1_zero hr (hx.at hr i (by rw [hx.1]; exact hi))
theorem set_same {xs : List Int} {i : Nat} (h : i < xs.length) : xs.set i (xs.getD i 0) = xs := by
  refine ext_getD (by simp) fun j hj => ?_; rw [List.length_set] at hj
  by_cases e : i = j
  · subst e; simp [List.getD, hj]
  · simp [List.getD, List.getElem?_set_ne e]
theorem step_none {k p n : Int} {x y out : List Int} {i j : Nat} (hk : k = 7 ∧ (widthI k n).toNat ≤ 6 ∨ k = 8) (hp : 1 ≤ p) (ho : PolyIn k p n out) (hj : y.getD j 0 = 0) (hij : 4 ≤ i + j → k = 8 → i + j - 4 < out.length) : mulStep k p x y out i j = out := by
  have h0 : ∀ m, (out.getD m 0).tmod p = out.getD m 0 := fun m => by
    have := ho.at hp m; exact Int.tmod_eq_of_lt this.1 (by omega)
  unfold mulStep
  split
  · rename_i h
    rw [hj, Int.mul_zero, Int.add_zero, h0, set_same h]
  · split
    · rename_i h h8
      rw [hj, Int.mul_zero, Int.add_zero, h0]; have hw : out.length = 4 := by rw [ho.1, widthI, if_neg (by omega), if_pos h8]; rfl
      exact set_same (hij (by omega) h8)
    · rfl
theorem step_one {k p n : Int} {x y out : List Int} {i : Nat} (hi : i < out.length) (hj : y.getD 0 0 = 1) : mulStep k p x y out i 0 = out.set i ((out.getD i 0 + x.getD i 0).tmod p) := by
  unfold mulStep
  rw [Nat.add_zero, if_pos hi, hj, Int.mul_one]
theorem row_one {k p n : Int} {x y out : List Int} {i : Nat} (hk : k = 7 ∧ (widthI k n).toNat ≤ 6 ∨ k = 8) (hp : 2 ≤ p) (hx : PolyIn k p n x) (ho : PolyIn k p n out) (hi : i < out.length) (h1 : y.getD 0 0 = 1) (h0 : ∀ j, 0 < j → y.getD j 0 = 0) (hl : out.length ≤ 6) (hyl : y.length = out.length) :
    ∀ m, m + 1 ≤ y.length → mulRow k p x y i out (m + 1) = out.set i ((out.getD i 0 + x.getD i 0).tmod p)
  | 0, _ => by
    rw [mulRow_step]
    show mulStep k p x y (mulRow k p x y i out 0) i 0 = _
    rw [show mulRow k p x y i out 0 = out from rfl]; exact step_one (n := n) hi h1
  | m + 1, hm => by
    have ih := row_one hk hp hx ho hi h1 h0 hl hyl m (by omega); have hin : PolyIn k p n (out.set i ((out.getD i 0 + x.getD i 0).tmod p)) := ho.set _ (tmod_in (by have := (ho.at (by omega) i).1; have := (hx.at (by omega) i).1; omega) (by omega)); rw [mulRow_step, ih]; refine step_none hk (by omega) hin (h0 _ (by omega)) (fun h4 h8 => ?_); rw [List.length_set]; have hw : out.length = 4 := by rw [ho.1, widthI, if_neg (by omega), if_pos h8]; rfl
    omega
theorem to_one {k p n : Int} {x y : List Int} (hk : k = 7 ∧ (widthI k n).toNat ≤ 6 ∨ k = 8) (hp : 2 ≤ p) (hx : PolyIn k p n x) (h1 : y.getD 0 0 = 1) (h0 : ∀ j, 0 < j → y.getD j 0 = 0) (hl : x.length ≤ 6) (hl1 : 1 ≤ x.length) (hyl : y.length = x.length) :
    ∀ m, m ≤ x.length → mulTo k p x y (List.replicate x.length 0) m = x.take m ++ List.replicate (x.length - m) 0
  | 0, _ => by simp [mulTo]
  | m + 1, hm => by
    have ih := to_one hk hp hx h1 h0 hl hl1 hyl m (by omega); have hout : PolyIn k p n (x.take m ++ List.replicate (x.length - m) 0) := ⟨by rw [← hx.1]; simp; omega, fun a ha => by
      rcases List.mem_append.1 ha with h | h
      · exact hx.2 a (List.mem_of_mem_take h)
      · rw [List.eq_of_mem_replicate h]; omega⟩
    have hol : (x.take m ++ List.replicate (x.length - m) (0 : Int)).length = x.length := by simp; omega
    rw [mulTo_step, ih]; obtain ⟨q, hq⟩ : ∃ q, y.length = q + 1 := ⟨y.length - 1, by omega⟩
    rw [hq, row_one hk hp hx hout (by rw [hol]; omega) h1 h0 (by rw [hol]; exact hl) (by rw [hol]; exact hyl) q (by omega)]; have hz : (x.take m ++ List.replicate (x.length - m) (0 : Int)).getD m 0 = 0 := by
      have hlt : (x.take m).length = m := by simp; omega
      simp only [List.getD]; rw [List.getElem?_append_right (by omega), hlt, Nat.sub_self]
      simp [show 0 < x.length - m by omega]
    have hxm := hx.at (by omega : 1 ≤ p) m; rw [hz, Int.zero_add, Int.tmod_eq_of_lt hxm.1 (by omega)]; have hlt : (x.take m).length = m := by simp; omega
    obtain ⟨r, hr⟩ : ∃ r, x.length - m = r + 1 := ⟨x.length - m - 1, by omega⟩
    rw [List.set_append_right _ _ (by omega), hlt, Nat.sub_self, hr, List.replicate_succ, List.set_cons_zero, show x.length - (m + 1) = r by omega, List.take_succ_eq_append_getElem (by omega), List.append_assoc]
    congr 1
    simp [List.getD, show m < x.length by omega]
theorem one_poly {k p n : Int} (hk : k = 1 ∨ k = 2 ∨ k = 3 ∨ k = 7 ∨ k = 8) (hw : 1 ≤ (widthI k n).toNat) : (oneL k p n).getD 0 0 = 1 ∧ ∀ j, 0 < j → (oneL k p n).getD j 0 = 0 := by
  have e : oneL k p n = (List.replicate (widthI k n).toNat 0).set 0 1 := by unfold oneL; rw [if_neg (by omega), if_neg (by omega)]
  rw [e]; refine ⟨by simp [List.getD, show 0 < (widthI k n).toNat by omega], fun j hj => ?_⟩
  show ((List.replicate (widthI k n).toNat (0 : Int)).set 0 1)[j]?.getD 0 = 0
  rw [List.getElem?_set_ne (by omega)]
  cases h : (List.replicate (widthI k n).toNat (0 : Int))[j]? with
  | none => rfl
  | some z => exact List.eq_of_mem_replicate (List.mem_of_getElem? h)
theorem mul_one {k p n : Int} (hr : ringL k p n) {x : List Int} (hx : InR k p n x) : mulL k p n x (oneL k p n) = x := by
  have hlen := hx.len hr; have hx0 := hx.at hr 0 (by omega); have hwd : 1 ≤ (widthI k n).toNat := by have := hx.1; omega
  have hsing : k ≠ 7 → k ≠ 8 → x = [x.getD 0 0] := fun h7 h8 => by
    have h1 := hx.1; rw [width_1 h7 h8] at h1
    match x, h1 with
    | [a], _ => rfl
  unfold mulL
  by_cases h15 : k = 1 ∨ k = 5
  · rw [if_pos h15]; have h1 : (oneL k p n).getD 0 0 = topI k p n := by
      rcases h15 with h | h
      · rw [(one_poly (.inl h) hwd).1]; unfold topI; rw [if_pos h]
      · unfold oneL; rw [if_neg (by omega), if_pos (.inl h)]; rfl
    rw [h1, Int.min_eq_left hx0.2]; exact (hsing (by omega) (by omega)).symm
  · rw [if_neg h15]
    by_cases h2 : k = 2
    · rw [if_pos h2, (one_poly (.inr (.inl h2)) hwd).1, Int.mul_one]; have := top_poly hr (.inl h2); rw [Int.tmod_eq_of_lt hx0.1 (by omega)]; exact (hsing (by omega) (by omega)).symm
    · rw [if_neg h2]
      by_cases h3 : k = 3
      · rw [if_pos h3, (one_poly (.inr (.inr (.inl h3))) hwd).1, Int.mul_one]; have : topI k p n = p := by unfold topI; rw [if_neg (by omega), if_pos (by omega)]
        rw [Int.min_eq_left (by omega)]; exact (hsing (by omega) (by omega)).symm
      · rw [if_neg h3]
        by_cases h4 : k = 4
        · have e : (oneL k p n).getD 0 0 = 0 := by unfold oneL; rw [if_pos h4]; rfl
          have : topI k p n = p := by unfold topI; rw [if_neg (by omega), if_pos (by omega)]
          rw [if_pos h4, e, Int.add_zero, Int.min_eq_left (by omega)]; exact (hsing (by omega) (by omega)).symm
        · rw [if_neg h4]
          by_cases h6 : k = 6
          · have ht : topI k p n = 2 ^ n.toNat - 1 := by unfold topI; rw [if_neg (by omega), if_neg (by omega), if_pos h6]
            have e : (oneL k p n).getD 0 0 = 2 ^ n.toNat - 1 := by unfold oneL; rw [if_neg h4, if_pos (.inr h6), ht]; rfl
            have hc : ((2 ^ n.toNat : Nat) : Int) = (2 : Int) ^ n.toNat := by simp
            have hpos : 0 < 2 ^ n.toNat := Nat.two_pow_pos _; have e2 : ((2 : Int) ^ n.toNat - 1).toNat = 2 ^ n.toNat - 1 := by omega
            rw [if_pos h6, e, e2, Nat.and_two_pow_sub_one_eq_mod, Nat.mod_eq_of_lt (by omega), Int.toNat_of_nonneg hx0.1]; exact (hsing (by omega) (by omega)).symm
          · rw [if_neg h6]; have hk : k = 7 ∨ k = 8 := by unfold ringL at hr; omega
            have htp := top_poly hr (.inr hk); have ho := one_poly (p := p) (n := n) (k := k) (by omega) hwd; have hk' : k = 7 ∧ (widthI k n).toNat ≤ 6 ∨ k = 8 := by rcases hk with h | h; exact .inl ⟨h, by have := hx.1; omega⟩; exact .inr h
            have := to_one hk' htp.2.1 (hx.poly hr (.inr hk)) ho.1 ho.2 hlen.2.1 hlen.1 (by rw [oneL_len, hx.1]) x.length (Nat.le_refl _); rw [← hx.1, this]
            simp
end Go.Proofs.Ythlmjnihihbckaa
namespace Go.Proofs.Ythlmjnihihbckaa
set_option maxRecDepth 100000
open Go.RowKit
theorem Made.un {a b : PH} {la lb : List PH} (ma : Made a la) (mb : Made b lb) (hd : PDj a b) : Made (PUn a b) (la ++ lb) := by
  refine ⟨sepL_append.2 ⟨ma.sep, mb.sep, fun x hx y hy => (((hd.mono (ma.le x hx)).symm).mono (mb.le y hy)).symm⟩, fun x hx => ?_, fun k o e => ?_⟩
  · rcases List.mem_append.1 hx with hx | hx
    · exact (ma.le x hx).trans (PLe.un_l _ _)
    · exact (mb.le x hx).trans (PLe.un_r hd)
  · unfold PUn at e
    split at e
    · rename_i y hy
      cases e
      obtain ⟨x, hx, hxe⟩ := ma.dom k _ hy; exact ⟨x, by simp [hx], hxe⟩
    · obtain ⟨x, hx, hxe⟩ := mb.dom k _ e; exact ⟨x, by simp [hx], hxe⟩
/-- Slices that own their cells, all in one part. -/
def OwnH (xss : List (List Int)) (vs : List Value) (h : PH) : Prop := ∃ l, OwnL xss vs l ∧ Made h l
theorem OwnH.nil : OwnH [] [] emp := ⟨[], OwnL.nil, ⟨trivial, fun x hx => by simp at hx, fun k o e => by cases e⟩⟩
theorem OwnH.snoc {ts : List Ten} {t : Ten} {vs : List Value} {a b c : Value} {h h' : PH} (o : OwnH (flat ts) vs h) (r : TriO t a b c h') (hd : PDj h h') : OwnH (flat (ts ++ [t])) (vs ++ [a, b, c]) (PUn h h') := by
  obtain ⟨l, ol, m⟩ := o; obtain ⟨h1, h2, h3, r1, r2, r3, m'⟩ := r; refine ⟨l ++ [h1, h2, h3], ?_, m.un m' hd⟩; rw [flat_append]; exact ol.append (OwnL.three r1 r2 r3)
end Go.Proofs.Ythlmjnihihbckaa
namespace Go.Proofs.Ythlmjnihihbckaa
set_option maxRecDepth 100000
open Go.RowKit
theorem TriO.none : TriO ⟨[], [], []⟩ (.slice none 0 0) (.slice none 0 0) (.slice none 0 0) emp :=
  ⟨emp, emp, emp, IntsO.nil, IntsO.nil, IntsO.nil, ⟨by simp [sepL, PDj.emp], fun x hx => by simp at hx; subst hx; exact PLe.emp _, fun k o e => by cases e⟩⟩
def fitP (k p n : Int) (t u : Ten) : Prop := tensorL k p n t.l t.d t.x ∧ tensorL k p n u.l u.d u.x ∧ setL t.l u.l ∧ permD u t.l = t.d
def FitR (k p n : Int) (t u : Ten) (x : Value) (h : PH) : Prop := ∃ T a b c bb, x = .tuple [tenV a b c, .bool bb].toArray ∧ TriO T a b c h ∧ (bb = true ↔ fitP k p n t u) ∧ (bb = true → T = permT k n u t.l)
theorem FitR.no {k p n : Int} {t u : Ten} (h : ¬ fitP k p n t u) : FitR k p n t u (.tuple [tenV (.slice none 0 0) (.slice none 0 0) (.slice none 0 0), .bool false].toArray) emp :=
  ⟨⟨[], [], []⟩, _, _, _, false, rfl, TriO.none, ⟨fun e => (by cases e), fun e => absurd e h⟩, fun e => (by cases e)⟩
end Go.Proofs.Ythlmjnihihbckaa
namespace Go.Proofs.Ythlmjnihihbckaa
set_option maxRecDepth 100000
open Go.RowKit
def dimJ (t u : Ten) (x : Int) : Int := if x ∈ t.l then t.d.getD (findI t.l x).toNat 0 else u.d.getD (findI u.l x).toNat 0
theorem map_find {ls ds : List Int} (hn : ls.Nodup) (hl : ls.length = ds.length) : ds = ls.map fun x => ds.getD (findI ls x).toNat 0 := by
  apply ext_getD
  · simp [hl]
  · intro j hj; rw [map_getD (by omega), find_at' hn (by omega)]
    simp
theorem dimJ_l {t u : Ten} (hn : t.l.Nodup) (hl : t.l.length = t.d.length) : t.d = t.l.map (dimJ t u) := by
  conv => lhs; rw [map_find hn hl]
  exact List.map_congr_left fun x hx => by simp [dimJ, hx]
theorem dimJ_r {t u : Ten} (hn : u.l.Nodup) (hl : u.l.length = u.d.length) (hm : ¬ mism t u) : u.d = u.l.map (dimJ t u) := by
  conv => lhs; rw [map_find hn hl]
  refine List.map_congr_left fun x hx => ?_
  by_cases h : x ∈ t.l
  · have hg := findI_get hx; have : ¬ (t.d.getD (findI t.l x).toNat 0 ≠ u.d.getD (findI u.l x).toNat 0) := fun hne => hm ⟨(findI u.l x).toNat, hg.1, by rw [hg.2]; exact ⟨h, hne⟩⟩; simp only [dimJ, h, if_true]
    omega
  · simp [dimJ, h]
/-- Two tensors that can be joined. -/
structure PairOK (k p n : Int) (t u : Ten) (f : Int → Int) : Prop where
  tt : tensorL k p n t.l t.d t.x
  uu : tensorL k p n u.l u.d u.x
  ht : t.d = t.l.map f
  hu : u.d = u.l.map f
  work : prodI ((joinI t.l u.l).map f) ≤ 65536
theorem ten_axes {k p n : Int} {ls ds xs : List Int} (h : tensorL k p n ls ds xs) : axesL ls ds := (sizeI_ge.1 h.2.1).1
theorem ten_prod {k p n : Int} {ls ds xs : List Int} (h : tensorL k p n ls ds xs) : prodI ds ≤ 4096 := (sizeI_ge.1 h.2.1).2
theorem PairOK.nd {k p n : Int} {t u : Ten} {f : Int → Int} (h : PairOK k p n t u f) : (joinI t.l u.l).Nodup := joinI_nodup (axes_nodup (ten_axes h.tt)) (axes_nodup (ten_axes h.uu))
theorem PairOK.dim {k p n : Int} {t u : Ten} {f : Int → Int} (h : PairOK k p n t u f) : ∀ x ∈ joinI t.l u.l, 1 ≤ f x ∧ f x ≤ 8 := fun x hx => by
  rcases mem_joinI.1 hx with hx | hx
  · exact dims_mem (axes_dims (ten_axes h.tt)) _ (by rw [h.ht]; exact List.mem_map_of_mem hx)
  · exact dims_mem (axes_dims (ten_axes h.uu)) _ (by rw [h.hu]; exact List.mem_map_of_mem hx)
theorem map_dim {f : Int → Int} {L ls : List Int} (hf : ∀ x ∈ L, 1 ≤ f x ∧ f x ≤ 8) (hs : ∀ l ∈ ls, l ∈ L) : ∀ d ∈ ls.map f, 1 ≤ d ∧ d ≤ 8 := fun d hd => by
  obtain ⟨x, hx, rfl⟩ := List.mem_map.1 hd; exact hf x (hs x hx)
def atI (f : Int → Int) (L ls : List Int) (m : Int) : Int := dotL (stepsL L ls (ls.map f)) (idxL (L.map f) m)
theorem at_in {f : Int → Int} {L ls : List Int} (hn : L.Nodup) (hl : ls.Nodup) (hs : ∀ l ∈ ls, l ∈ L) (hf : ∀ x ∈ L, 1 ≤ f x ∧ f x ≤ 8) (m : Int) : 0 ≤ atI f L ls m ∧ atI f L ls m < prodI (ls.map f) := by
  have hd : ∀ d ∈ L.map f, 1 ≤ d := fun d hd => (map_dim hf (fun _ h => h) d hd).1; have hd2 : ∀ d ∈ ls.map f, 1 ≤ d := fun d hd => (map_dim hf hs d hd).1; have hi := idxL_in hd m; have ho := offL_in (ds := ls.map f) (is := idxAt L (idxL (L.map f) m) ls) hd2 ⟨by simp [idxAt], fun j hj => by
    have hj' : j < ls.length := by simpa using hj
    have hm := hs _ (mem_getD hj'); have hg := findI_get hm; have := hi.2 (findI L (ls.getD j 0)).toNat (by simpa using hg.1); rw [map_getD hg.1, hg.2] at this; rw [idxAt, map_getD hj', map_getD hj']; exact this⟩
  have e : atI f L ls m = offL (ls.map f) (idxAt L (idxL (L.map f) m) ls) := by
    unfold atI dotL; rw [stepsL_len]; exact dot_off hn (by simp) hl hs
  omega
def AllR (k p n P : Int) (xs : List Int) : Prop := (xs.length : Int) = P * widthI k n ∧ ∀ a ∈ xs, 0 ≤ a ∧ a ≤ topI k p n
theorem mul_room {P w i : Int} (hw : 0 ≤ w) (h0 : 0 ≤ i) (h1 : i < P) : 0 ≤ i * w ∧ i * w + w ≤ P * w := by
  have h2 := Int.mul_le_mul_of_nonneg_right (show i + 1 ≤ P by omega) hw; rw [Int.add_mul, Int.one_mul] at h2; exact ⟨Int.mul_nonneg h0 hw, h2⟩
theorem AllR.el {k p n P : Int} {xs : List Int} (h : AllR k p n P xs) (hr : ringL k p n) {i : Int} (h0 : 0 ≤ i) (h1 : i < P) : InR k p n (elt xs (widthI k n) i) := by
  have hw := width_range hr; have hm := mul_room (show 0 ≤ widthI k n by omega) h0 h1; have hl := h.1; refine ⟨?_, fun a ha => h.2 a (elt_mem ha)⟩; simp only [elt, List.length_take, List.length_drop]
  omega
theorem AllR.put {k p n P : Int} {xs ys : List Int} (h : AllR k p n P xs) (hr : ringL k p n) {i : Int} (h0 : 0 ≤ i) (h1 : i < P) (hy : InR k p n ys) : AllR k p n P (putL xs (i * widthI k n).toNat ys) := by
  have hw := width_range hr; have hm := mul_room (show 0 ≤ widthI k n by omega) h0 h1; have hl := h.1; have hyl := hy.1; refine ⟨by rw [putL_len (by omega)]; exact hl, fun a ha => ?_⟩; simp only [putL, List.mem_append] at ha
  rcases ha with (ha | ha) | ha
  · exact h.2 a (List.mem_of_mem_take ha)
  · exact hy.2 a ha
  · exact h.2 a (List.mem_of_mem_drop ha)
theorem flat_rep_len (z : List Int) : ∀ m : Nat, ((List.replicate m z).flatten).length = m * z.length
  | 0 => by simp
  | m + 1 => by rw [List.replicate_succ, List.flatten_cons, List.length_append, flat_rep_len z m, Nat.add_mul, Nat.one_mul]; omega
theorem zeroL_in {k p n : Int} (h : ringL k p n) : InR k p n (zeroL k p n) := by
  have ht := top_range h; refine ⟨zeroL_len k p n, fun a ha => ?_⟩
  unfold zeroL at ha
  split at ha
  · rename_i h4
    have := top_cap h (.inr (.inl h4))
    simp at ha; omega
  · have := List.eq_of_mem_replicate ha; omega
theorem AllR.zero {k p n P : Int} (hr : ringL k p n) (hP : 0 ≤ P) : AllR k p n P (List.replicate P.toNat (zeroL k p n)).flatten := by
  have hw := width_range hr; have hz := zeroL_in hr; refine ⟨?_, fun a ha => ?_⟩
  · rw [flat_rep_len, hz.1, Int.natCast_mul]; rw [show ((P.toNat : Nat) : Int) = P by omega, show (((widthI k n).toNat : Nat) : Int) = widthI k n by omega]
  · obtain ⟨l, hl, ha⟩ := List.mem_flatten.1 ha; rw [List.eq_of_mem_replicate hl] at ha; exact hz.2 a ha
noncomputable def pairX (k p n : Int) (f : Int → Int) (t u : Ten) (K : List Int) : Nat → List Int
  | 0 => (List.replicate (prodI (K.map f)).toNat (zeroL k p n)).flatten
  | m + 1 => putL (pairX k p n f t u K m) (atI f (joinI t.l u.l) K m * widthI k n).toNat
      (addL k p (elt (pairX k p n f t u K m) (widthI k n) (atI f (joinI t.l u.l) K m))
        (mulL k p n (elt t.x (widthI k n) (atI f (joinI t.l u.l) t.l m)) (elt u.x (widthI k n) (atI f (joinI t.l u.l) u.l m))))
noncomputable def pairT (k p n : Int) (f : Int → Int) (t u : Ten) (K : List Int) : Ten := ⟨K, K.map f, pairX k p n f t u K (prodI ((joinI t.l u.l).map f)).toNat⟩
structure KeepOK (t u : Ten) (f : Int → Int) (K : List Int) : Prop where
  sub : ∀ l ∈ K, l ∈ joinI t.l u.l
  nd : K.Nodup
  small : prodI (K.map f) ≤ 4096
section
variable {k p n : Int} {t u : Ten} {f : Int → Int} {K : List Int} (h : PairOK k p n t u f) (hk : KeepOK t u f K)
include h hk
theorem PairOK.at_k (m : Int) : 0 ≤ atI f (joinI t.l u.l) K m ∧ atI f (joinI t.l u.l) K m < prodI (K.map f) := at_in h.nd hk.nd hk.sub h.dim m
theorem PairOK.pos_k : 1 ≤ prodI (K.map f) := prodI_one fun d hd => (map_dim h.dim hk.sub d hd).1
omit hk in
theorem PairOK.at_t (m : Int) : 0 ≤ atI f (joinI t.l u.l) t.l m ∧ atI f (joinI t.l u.l) t.l m < prodI t.d := by
  have := at_in h.nd (axes_nodup (ten_axes h.tt)) (fun l hl => mem_joinI.2 (.inl hl)) h.dim m
  rwa [← h.ht] at this
omit hk in
theorem PairOK.at_u (m : Int) : 0 ≤ atI f (joinI t.l u.l) u.l m ∧ atI f (joinI t.l u.l) u.l m < prodI u.d := by
  have := at_in h.nd (axes_nodup (ten_axes h.uu)) (fun l hl => mem_joinI.2 (.inr hl)) h.dim m
  rwa [← h.hu] at this
omit hk in
theorem PairOK.el_t (m : Int) : InR k p n (elt t.x (widthI k n) (atI f (joinI t.l u.l) t.l m)) := elt_inR h.tt (h.at_t m).1 (h.at_t m).2
omit hk in
theorem PairOK.el_u (m : Int) : InR k p n (elt u.x (widthI k n) (atI f (joinI t.l u.l) u.l m)) := elt_inR h.uu (h.at_u m).1 (h.at_u m).2
theorem PairOK.all : ∀ m : Nat, AllR k p n (prodI (K.map f)) (pairX k p n f t u K m)
  | 0 => AllR.zero h.tt.1 (by have := h.pos_k hk; omega)
  | m + 1 => (PairOK.all m).put h.tt.1 (h.at_k hk m).1 (h.at_k hk m).2 (addL_in h.tt.1 ((PairOK.all m).el h.tt.1 (h.at_k hk m).1 (h.at_k hk m).2) (mulL_in h.tt.1 (h.el_t m) (h.el_u m)))
theorem PairOK.small (m : Nat) : (pairX k p n f t u K m).length ≤ 24576 := by
  have hw := width_range h.tt.1; have := (h.all hk m).1; have h3 : prodI (K.map f) * widthI k n ≤ 4096 * 6 := Int.mul_le_mul hk.small hw.2 (by omega) (by omega)
  omega
theorem PairOK.fits (m : Nat) : atI f (joinI t.l u.l) K m * widthI k n + widthI k n ≤ (pairX k p n f t u K m).length := by
  have hw := width_range h.tt.1; have := (h.all hk m).1; have := (mul_room (show 0 ≤ widthI k n by omega) (h.at_k hk m).1 (h.at_k hk m).2).2
  omega
end
end Go.Proofs.Ythlmjnihihbckaa
namespace Go.Proofs.Ythlmjnihihbckaa
set_option maxRecDepth 100000
open Go.RowKit
structure ValOK (k p n : Int) (ts : List Ten) (op : List Int) : Prop where
  net : netL k p n ts op
  work : prodI (dimsFor ts (labelsL ts)) ≤ 65536
theorem ValOK.nd {k p n : Int} {ts : List Ten} {op : List Int} (_ : ValOK k p n ts op) : (labelsL ts).Nodup := labels_nodup ts 100
section
variable {k p n : Int} {ts : List Ten} {op : List Int} (h : ValOK k p n ts op)
include h
theorem ValOK.f : ∀ x ∈ labelsL ts, 1 ≤ dimOf ts x ∧ dimOf ts x ≤ 8 := fun x hx => by
  have h1 := mem_labels.1 hx; have h2 := dimOf_range (net_ax h.net) x
  omega
theorem ValOK.opn : op.Nodup := axes_nodup (sizeI_ge.1 h.net.2.2.2.2).1
theorem ValOK.sub : ∀ l ∈ op, l ∈ labelsL ts := fun l hl => by
  obtain ⟨j, hj, rfl⟩ := getD_of_mem hl; have := open_at h.net.2.2.2.2 hj; exact mem_labels.2 ⟨by omega, by omega⟩
theorem ValOK.at_k (m : Int) : 0 ≤ atI (dimOf ts) (labelsL ts) op m ∧ atI (dimOf ts) (labelsL ts) op m < prodI (dimsFor ts op) := at_in h.nd h.opn h.sub h.f m
theorem ValOK.dims : ∀ d ∈ dimsFor ts (labelsL ts), 1 ≤ d ∧ d ≤ 8 := map_dim h.f fun _ h => h
theorem ValOK.odims : ∀ d ∈ dimsFor ts op, 1 ≤ d ∧ d ≤ 8 := map_dim h.f h.sub
theorem ValOK.idx (m : Int) : AtOK k p n ts (labelsL ts) (idxL (dimsFor ts (labelsL ts)) m) := by
  have hi := idxL_in (fun d hd => (h.dims d hd).1) m; exact assign_at (op := op) ⟨h.net, hi.1, fun j hj => hi.2 j (by rw [← hi.1]; exact hj)⟩
end
noncomputable def valX (k p n : Int) (ts : List Ten) (op : List Int) : Nat → List Int
  | 0 => (List.replicate (prodI (dimsFor ts op)).toNat (zeroL k p n)).flatten
  | m + 1 => putL (valX k p n ts op m) (atI (dimOf ts) (labelsL ts) op m * widthI k n).toNat
      (addL k p (elt (valX k p n ts op m) (widthI k n) (atI (dimOf ts) (labelsL ts) op m)) (weightTo k p n (labelsL ts) (idxL (dimsFor ts (labelsL ts)) m) ts))
section
variable {k p n : Int} {ts : List Ten} {op : List Int} (h : ValOK k p n ts op)
include h
theorem ValOK.weight (m : Int) : InR k p n (weightTo k p n (labelsL ts) (idxL (dimsFor ts (labelsL ts)) m) ts) := by
  have := weight_in (h.idx m) ts.length (Nat.le_refl _)
  rwa [List.take_length] at this
theorem ValOK.all : ∀ m : Nat, AllR k p n (prodI (dimsFor ts op)) (valX k p n ts op m)
  | 0 => AllR.zero h.net.1 (by have := prodI_one fun d hd => (h.odims d hd).1; omega)
  | m + 1 => (ValOK.all m).put h.net.1 (h.at_k m).1 (h.at_k m).2 (addL_in h.net.1 ((ValOK.all m).el h.net.1 (h.at_k m).1 (h.at_k m).2) (h.weight m))
theorem ValOK.small (m : Nat) : (valX k p n ts op m).length ≤ 24576 := by
  have hw := width_range h.net.1; have := (h.all m).1; have h3 : prodI (dimsFor ts op) * widthI k n ≤ 4096 * 6 := Int.mul_le_mul (sizeI_ge.1 h.net.2.2.2.2).2 hw.2 (by omega) (by omega)
  omega
theorem ValOK.fits (m : Nat) : atI (dimOf ts) (labelsL ts) op m * widthI k n + widthI k n ≤ (valX k p n ts op m).length := by
  have hw := width_range h.net.1; have := (h.all m).1; have := (mul_room (show 0 ≤ widthI k n by omega) (h.at_k m).1 (h.at_k m).2).2
  omega
end
end Go.Proofs.Ythlmjnihihbckaa
namespace Go.Proofs.Ythlmjnihihbckaa
set_option maxRecDepth 100000
open Go.RowKit
theorem dotTo_cons (a b : Int) (xs ys : List Int) : ∀ m, dotTo (a :: xs) (b :: ys) (m + 1) = a * b + dotTo xs ys m
  | 0 => by simp [dotTo]
  | m + 1 => by
    have ih := dotTo_cons a b xs ys m; rw [dotTo, ih, dotTo]; simp only [List.getD_cons_succ]
    omega
theorem dotL_cons (a b : Int) (xs ys : List Int) : dotL (a :: xs) (b :: ys) = a * b + dotL xs ys := by
  unfold dotL
  rw [List.length_cons, dotTo_cons]
theorem steps_skip {labels ls ds : List Int} {l d : Int} (h : l ∉ labels) : stepsL labels (l :: ls) (d :: ds) = stepsL labels ls ds :=
  List.map_congr_left fun x hx => by simp only [strOf]; rw [if_neg (fun e => h (by rw [← e]; exact hx))]
theorem sl_full : ∀ {ls ds is : List Int}, ls.Nodup → ls.length = ds.length → is.length = ls.length → dotL (stepsL ls ls ds) is = offL ds is
  | [], [], [], _, _, _ => by simp [dotL, stepsL, dotTo, offL]
  | l :: ls, d :: ds, i :: is, hn, hl, hi => by
    have hn' := List.nodup_cons.1 hn; have ih := sl_full (ls := ls) (ds := ds) (is := is) hn'.2 (by simpa using hl) (by simpa using hi); have e : stepsL (l :: ls) (l :: ls) (d :: ds) = prodI ds :: stepsL ls ls ds := by
      rw [← steps_skip (l := l) (d := d) hn'.1]
      simp [stepsL, strOf]
    rw [e, dotL_cons, ih, offL, Int.mul_comm]
  | [], _ :: _, _, _, hl, _ => by simp at hl
  | _ :: _, [], _, _, hl, _ => by simp at hl
  | [], [], _ :: _, _, _, hi => by simp at hi
  | _ :: _, _ :: _, [], _, _, hi => by simp at hi
theorem sl_dot : ∀ {ls ds is : List Int} {j : Nat} (v : Int), ls.Nodup → ls.length = ds.length → j < ls.length → is.length + 1 = ls.length → v * strOf ls ds (ls.getD j 0) + dotL (stepsL (ls.eraseIdx j) ls ds) is = offL ds (is.insertIdx j v)
  | l :: ls, d :: ds, is, 0, v, hn, hl, _, hi => by
    have hn' := List.nodup_cons.1 hn; have h := sl_full (ls := ls) (ds := ds) (is := is) hn'.2 (by simpa using hl) (by simpa using hi); rw [List.eraseIdx_zero, List.tail_cons, steps_skip hn'.1, h]
    simp [strOf, offL]
  | l :: ls, d :: ds, i :: is, j + 1, v, hn, hl, hj, hi => by
    have hn' := List.nodup_cons.1 hn; have hj' : j < ls.length := by simpa using hj
    have ih := sl_dot (ls := ls) (ds := ds) (is := is) (j := j) v hn'.2 (by simpa using hl) hj' (by simpa using hi); have hne : ls.getD j 0 ≠ l := fun e => hn'.1 (e ▸ mem_getD hj'); have hm : l ∉ ls.eraseIdx j := fun h => hn'.1 (List.mem_of_mem_eraseIdx h); have e : stepsL (l :: ls.eraseIdx j) (l :: ls) (d :: ds) = prodI ds :: stepsL (ls.eraseIdx j) ls ds := by
      rw [← steps_skip (l := l) (d := d) hm]
      simp [stepsL, strOf]
    rw [List.eraseIdx_cons_succ, e, dotL_cons, List.insertIdx_succ_cons, offL, ← ih, List.getD_cons_succ]; simp only [strOf]; rw [if_neg hne, Int.mul_comm (prodI ds)]
    omega
  | [], _, _, _, _, _, _, hj, _ => by simp at hj
  | _ :: _, [], _, _, _, _, hl, _, _ => by simp at hl
  | l :: ls, _ :: _, [], j + 1, _, _, _, hj, hi => by
    have h1 : (l :: ls).length = ls.length + 1 := rfl; have h2 : ([] : List Int).length = 0 := rfl
    omega
theorem idxL_cons (d : Int) (ds : List Int) (n : Int) : idxL (d :: ds) n = (n / prodI ds % d) :: idxL ds n := by
  unfold idxL
  rw [List.length_cons, List.range_succ_eq_map, List.map_cons, List.map_map]
  rfl
theorem idxL_shift : ∀ {ds : List Int} (_ : ∀ d ∈ ds, 1 ≤ d) (q m : Int), idxL ds (q * prodI ds + m) = idxL ds m
  | [], _, q, m => rfl
  | d :: ds, hd, q, m => by
    have h1 := prodI_one (ds := ds) fun x hx => hd x (by simp [hx]); have hd1 := hd d (by simp); have ih := idxL_shift (ds := ds) (fun x hx => hd x (by simp [hx])) (q * d) m; have e : q * prodI (d :: ds) + m = q * d * prodI ds + m := by rw [prodI_cons, Int.mul_assoc]
    rw [e, idxL_cons, idxL_cons, ih]
    congr 1
    rw [Int.add_comm, Int.add_mul_ediv_right _ _ (by omega), Int.add_mul_emod_self_right]
theorem range_blocks (b : Nat) : ∀ a : Nat, List.range (a * b) = (List.range a).flatMap fun q => (List.range b).map fun r => q * b + r
  | 0 => by simp
  | a + 1 => by
    rw [Nat.add_mul, Nat.one_mul, List.range_add, range_blocks b a, List.range_succ, List.flatMap_append]
    simp
theorem one_block {α : Type} (g : Nat → List α) {v : Nat} : ∀ {a : Nat}, v < a → (List.range a).flatMap (fun q => if q = v then g q else []) = g v
  | 0, h => by omega
  | a + 1, h => by
    rw [List.range_succ, List.flatMap_append]
    by_cases e : a = v
    · subst e; have h0 : (List.range a).flatMap (fun q => if q = a then g q else []) = [] := List.flatMap_eq_nil_iff.2 fun q hq => by
        have := List.mem_range.1 hq; rw [if_neg (by omega)]
      rw [h0]; simp
    · rw [one_block g (show v < a by omega)]; simp [e]
theorem flatMap_congr' {α β : Type} {l : List α} {f g : α → List β} (h : ∀ x ∈ l, f x = g x) : l.flatMap f = l.flatMap g := by
  induction l with
  | nil => rfl
  | cons x l ih => rw [List.flatMap_cons, List.flatMap_cons, h x (by simp), ih fun y hy => h y (by simp [hy])]
theorem filter_flatMap {α β : Type} (p : β → Bool) (f : α → List β) (l : List α) : (l.flatMap f).filter p = l.flatMap fun x => (f x).filter p := by
  induction l with
  | nil => rfl
  | cons x l ih => rw [List.flatMap_cons, List.flatMap_cons, List.filter_append, ih]
theorem map_flatMap' {α β γ : Type} (g : β → γ) (f : α → List β) (l : List α) : (l.flatMap f).map g = l.flatMap fun x => (f x).map g := by
  induction l with
  | nil => rfl
  | cons x l ih => rw [List.flatMap_cons, List.flatMap_cons, List.map_append, ih]
def slHas (ds : List Int) (j : Nat) (v : Int) (n : Nat) : Bool := decide ((idxL ds n).getD j 0 = v)
def slTo (ds : List Int) (j : Nat) (v : Int) (m : Nat) : List Nat := (List.range m).filter (slHas ds j v)
def slAt (ds : List Int) (j : Nat) (v : Int) (m : Nat) : Nat := (offL ds ((idxL (ds.eraseIdx j) m).insertIdx j v)).toNat
theorem ins_in {ds is : List Int} {j : Nat} {v : Int} (hj : j < ds.length) (hv : 0 ≤ v ∧ v < ds.getD j 0) (h : idxIn (ds.eraseIdx j) is) : idxIn ds (is.insertIdx j v) := by
  have hl := h.1; rw [List.length_eraseIdx_of_lt hj] at hl; refine ⟨by rw [List.length_insertIdx_of_le_length (by omega)]; omega, fun i hi => ?_⟩
  rcases Nat.lt_trichotomy i j with c | c | c
  · have e1 : (is.insertIdx j v).getD i 0 = is.getD i 0 := by simp only [List.getD]; rw [List.getElem?_insertIdx_of_lt c]
    have e2 : (ds.eraseIdx j).getD i 0 = ds.getD i 0 := by simp only [List.getD]; rw [List.getElem?_eraseIdx_of_lt c]
    have := h.2 i (by rw [List.length_eraseIdx_of_lt hj]; omega); rw [e1, ← e2]; exact this
  · subst c; have e1 : (is.insertIdx i v).getD i 0 = v := by simp only [List.getD]; rw [List.getElem?_insertIdx_self, if_pos (by omega)]; rfl
    rw [e1]; exact hv
  · have e1 : (is.insertIdx j v).getD i 0 = is.getD (i - 1) 0 := by simp only [List.getD]; rw [List.getElem?_insertIdx_of_gt c]
    have e2 : (ds.eraseIdx j).getD (i - 1) 0 = ds.getD i 0 := by
      simp only [List.getD]; rw [List.getElem?_eraseIdx_of_ge (by omega), show i - 1 + 1 = i by omega]
    have := h.2 (i - 1) (by rw [List.length_eraseIdx_of_lt hj]; omega); rw [e1, ← e2]; exact this
theorem erase_mem {ds : List Int} {j : Nat} {p : Int → Prop} (h : ∀ d ∈ ds, p d) : ∀ d ∈ ds.eraseIdx j, p d := fun d hd => h d (List.mem_of_mem_eraseIdx hd)
theorem sl_in {ds : List Int} (hd : ∀ d ∈ ds, 1 ≤ d) {j : Nat} (hj : j < ds.length) {v : Int} (hv : 0 ≤ v ∧ v < ds.getD j 0) (m : Int) : 0 ≤ offL ds ((idxL (ds.eraseIdx j) m).insertIdx j v) ∧ offL ds ((idxL (ds.eraseIdx j) m).insertIdx j v) ≤ prodI ds - 1 :=
  offL_in hd (ins_in hj hv (idxL_in (erase_mem hd) m))
theorem sl_eq : ∀ {ds : List Int} (_ : ∀ d ∈ ds, 1 ≤ d) {j : Nat} (_ : j < ds.length) {v : Int} (_ : 0 ≤ v ∧ v < ds.getD j 0), slTo ds j v (prodI ds).toNat = (List.range (prodI (ds.eraseIdx j)).toNat).map (slAt ds j v)
  | [], _, j, hj, _, _ => by simp at hj
  | d :: ds, hd, 0, _, v, hv => by
    have hd' : ∀ x ∈ ds, 1 ≤ x := fun x hx => hd x (by simp [hx]); have hd1 := hd d (by simp); have hP := prodI_one hd'; have hv' : 0 ≤ v ∧ v < d := by simpa using hv
    have eP : (prodI (d :: ds)).toNat = d.toNat * (prodI ds).toNat := by rw [prodI_cons, Int.toNat_mul (by omega) (by omega)]
    rw [slTo, eP, range_blocks, filter_flatMap, List.eraseIdx_zero, List.tail_cons]; have e : ∀ q ∈ List.range d.toNat, ((List.range (prodI ds).toNat).map fun r => q * (prodI ds).toNat + r).filter (slHas (d :: ds) 0 v) = if q = v.toNat then (List.range (prodI ds).toNat).map fun r => q * (prodI ds).toNat + r else [] := fun q hq => by
      have hq' := List.mem_range.1 hq; have hdig : ∀ r, r < (prodI ds).toNat → slHas (d :: ds) 0 v (q * (prodI ds).toNat + r) = decide (q = v.toNat) := fun r hr => by
        unfold slHas
        rw [idxL_cons]; have e1 : ((q * (prodI ds).toNat + r : Nat) : Int) = r + q * prodI ds := by
          rw [Int.natCast_add, Int.natCast_mul, show (((prodI ds).toNat : Nat) : Int) = prodI ds by omega, Int.add_comm]
        rw [e1, Int.add_mul_ediv_right _ _ (by omega), Int.ediv_eq_zero_of_lt (by omega) (by omega), Int.zero_add, Int.emod_eq_of_lt (by omega) (by omega), Bool.eq_iff_iff, decide_eq_true_eq, decide_eq_true_eq]; simp only [List.getD_cons_zero]
        omega
      by_cases c : q = v.toNat
      · rw [if_pos c, List.filter_eq_self]; intro x hx; obtain ⟨r, hr, rfl⟩ := List.mem_map.1 hx; rw [hdig r (List.mem_range.1 hr)]; simpa using c
      · rw [if_neg c, List.filter_eq_nil_iff]; intro x hx; obtain ⟨r, hr, rfl⟩ := List.mem_map.1 hx; rw [hdig r (List.mem_range.1 hr)]; simpa using c
    rw [flatMap_congr' e, one_block _ (show v.toNat < d.toNat by omega)]; refine List.map_congr_left fun r hr => ?_; have hr' := List.mem_range.1 hr
    unfold slAt
    rw [List.eraseIdx_zero, List.tail_cons, List.insertIdx_zero, offL, offL_idx hd' (by omega) (by omega), Int.toNat_add (Int.mul_nonneg hv'.1 (by omega)) (by omega), Int.toNat_mul hv'.1 (by omega)]
    simp
  | d :: ds, hd, j + 1, hj, v, hv => by
    have hd' : ∀ x ∈ ds, 1 ≤ x := fun x hx => hd x (by simp [hx]); have hd1 := hd d (by simp); have hP := prodI_one hd'; have hj' : j < ds.length := by simpa using hj
    have hv' : 0 ≤ v ∧ v < ds.getD j 0 := by simpa using hv
    have he := erase_mem (j := j) hd'; have hP' := prodI_one he; have ih := sl_eq hd' hj' hv'; have eP : (prodI (d :: ds)).toNat = d.toNat * (prodI ds).toNat := by rw [prodI_cons, Int.toNat_mul (by omega) (by omega)]
    have eP' : (prodI ((d :: ds).eraseIdx (j + 1))).toNat = d.toNat * (prodI (ds.eraseIdx j)).toNat := by rw [List.eraseIdx_cons_succ, prodI_cons, Int.toNat_mul (by omega) (by omega)]
    rw [slTo, eP, eP', range_blocks, range_blocks, filter_flatMap, map_flatMap']; refine flatMap_congr' fun q hq => ?_; have hq' := List.mem_range.1 hq; rw [List.filter_map]; have e2 : (slHas (d :: ds) (j + 1) v ∘ fun r => q * (prodI ds).toNat + r) = slHas ds j v := by
      funext r
      simp only [Function.comp, slHas]; rw [idxL_cons, List.getD_cons_succ]; have e1 : ((q * (prodI ds).toNat + r : Nat) : Int) = q * prodI ds + r := by
        rw [Int.natCast_add, Int.natCast_mul, show (((prodI ds).toNat : Nat) : Int) = prodI ds by omega]
      rw [e1, idxL_shift hd']
    rw [e2]; have ih' : (List.range (prodI ds).toNat).filter (slHas ds j v) = (List.range (prodI (ds.eraseIdx j)).toNat).map (slAt ds j v) := ih; rw [ih', List.map_map, List.map_map]; refine List.map_congr_left fun m hm => ?_; have hm' := List.mem_range.1 hm; have hin := sl_in hd' hj' hv' m; simp only [Function.comp, slAt]; have e1 : ((q * (prodI (ds.eraseIdx j)).toNat + m : Nat) : Int) = m + q * prodI (ds.eraseIdx j) := by
      rw [Int.natCast_add, Int.natCast_mul, show (((prodI (ds.eraseIdx j)).toNat : Nat) : Int) = prodI (ds.eraseIdx j) by omega, Int.add_comm]
    rw [List.eraseIdx_cons_succ, idxL_cons, e1, Int.add_mul_ediv_right _ _ (by omega), Int.ediv_eq_zero_of_lt (by omega) (by omega), Int.zero_add, Int.emod_eq_of_lt (by omega) (by omega), List.insertIdx_succ_cons, offL, Int.add_comm (m : Int), idxL_shift he,
      Int.toNat_add (Int.mul_nonneg (by omega) (by omega)) hin.1, Int.toNat_mul (by omega) (by omega)]
    simp
end Go.Proofs.Ythlmjnihihbckaa
