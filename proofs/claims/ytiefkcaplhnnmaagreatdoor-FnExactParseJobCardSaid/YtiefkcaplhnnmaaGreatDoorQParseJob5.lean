/-
  Parts of the proof of FnExactParseJob: laws of heaps, contracts of functions.
  Conditions: none.
-/
import Derived.Test.YtiefkcaplhnnmaaGreatDoorQParseJob4
namespace Go.Proofs.YtiefkcaplhnnmaaGreatDoor
set_option maxRecDepth 100000
open Go.RowKit
theorem StrsR.sub {xs : List (List UInt8)} {v : Value} {h : PH} (r : StrsR xs v h) {lo hi : Nat} (h1 : lo ≤ hi) (h2 : hi ≤ xs.length) : StrsR ((xs.drop lo).take (hi - lo)) (subV v lo hi 1) h := by
  have := RowR.sub r h1 h2; have e : ((strs xs).drop (lo * 1)).take ((hi - lo) * 1) = strs ((xs.drop lo).take (hi - lo)) := by simp [strs, List.map_take, List.map_drop]
  rw [e] at this
  unfold StrsR
  rw [List.length_take, List.length_drop, Nat.min_eq_left (by omega)]; exact this
theorem StrsR.subH {xs : List (List UInt8)} {v : Value} {h : PH} (r : StrsR xs v h) {hi : Nat} (h2 : hi ≤ xs.length) : StrsR (xs.take hi) (subV v 0 hi 1) h := by
  simpa using r.sub (lo := 0) (Nat.zero_le hi) h2
theorem StrsR.subL {xs : List (List UInt8)} {v : Value} {h : PH} (r : StrsR xs v h) {lo : Nat} (h1 : lo ≤ xs.length) : StrsR (xs.drop lo) (subV v lo xs.length 1) h := by
  have := r.sub (lo := lo) (hi := xs.length) h1 (Nat.le_refl _)
  rwa [List.take_of_length_le (by simp)] at this
section
variable {P : Program} {n : Nat} {w0 : World} {K : Env} {HS : List PH} {d : Option Tmp} {ty : TypeId} {ps : String} {af : Array Edge} {g : Option (Nat × Bool)}
theorem v_lenS {t ty' : TypeId} {x : Operand} {a : List UInt8} (ht : P.underlying t = some .string) (hx : ev K x = some (strV a)) : StepV P n w0 K HS ⟨d, .call ⟨.builtin .len, #[x], #[t]⟩, ty', ps, af, g⟩ (num a.length) := fun ac w e _ => by
  have hx' := e.ev hx
  unfold strV at hx'
  simp [execOp, resolve, invoke, builtin, hx', run_len_string w t ty' _ ht, goInt, str_size]
theorem v_idxStr {t : TypeId} {x ix : Operand} {a : List UInt8} {k : IntKind} {i : Int} (ht : P.underlying t = some .string) (hx : ev K x = some (strV a)) (hi : ev K ix = some (.int k i)) (h0 : 0 ≤ i) (h1 : i < a.length) : StepV P n w0 K HS ⟨d, .index t x ix, ty, ps, af, g⟩ (.int .u8 ((a.getD i.toNat 0).toNat : Nat)) := fun ac w e _ => by
  have hx' := e.ev hx
  unfold strV at hx'
  have hlt : i.toNat < a.length := by omega
  have e1 : (⟨a.toArray⟩ : ByteArray)[i.toNat]? = some (a.getD i.toNat 0) := by
    rw [getElem?_pos _ _ (by simpa [ByteArray.size] using hlt)]; simp only [Option.some.injEq]
    show a.toArray[i.toNat] = _
    simp [List.getD, hlt]
  simp [execOp, hx', e.ev hi, Instr.index, asIntOf, run_underlying ht, h0, e1]
theorem v_sliceSLH {t : TypeId} {x lo hi : Operand} {a : List UInt8} {kl kh : IntKind} {l u : Int} (ht : P.underlying t = some .string) (hx : ev K x = some (strV a)) (hl : ev K lo = some (.int kl l)) (hu : ev K hi = some (.int kh u)) (h0 : 0 ≤ l) (h1 : l ≤ u) (h2 : u ≤ a.length) :
    StepV P n w0 K HS ⟨d, .slice t x (some lo) (some hi) none, ty, ps, af, g⟩ (strV ((a.drop l.toNat).take (u.toNat - l.toNat))) := fun ac w e _ => by
  have hx' := e.ev hx
  unfold strV at hx' ⊢
  have hr := run_slice_string (P := P) w t ⟨a.toArray⟩ kl kh l u ht h0 h1 (by rw [str_size]; exact h2); rw [ByteArray.extract_mk] at hr
  simp [execOp, hx', e.ev hl, e.ev hu, run_sliceAt_string w t _ _ _ _ ht, hr]
theorem v_sliceSL {t : TypeId} {x lo : Operand} {a : List UInt8} {kl : IntKind} {l : Int} (ht : P.underlying t = some .string) (hx : ev K x = some (strV a)) (hl : ev K lo = some (.int kl l)) (h0 : 0 ≤ l) (h2 : l ≤ a.length) :
    StepV P n w0 K HS ⟨d, .slice t x (some lo) none none, ty, ps, af, g⟩ (strV (a.drop l.toNat)) := fun ac w e _ => by
  have hx' := e.ev hx
  unfold strV at hx' ⊢
  have hr := run_slice_string_from_if (P := P) w t ⟨a.toArray⟩ kl l ht; rw [if_pos ⟨h0, by rw [str_size]; exact h2⟩, ByteArray.extract_mk, str_size, List.take_of_length_le (by simp)] at hr
  simp [execOp, hx', e.ev hl, run_sliceAt_string w t _ _ _ _ ht, hr]
theorem v_sliceSH {t : TypeId} {x hi : Operand} {a : List UInt8} {kh : IntKind} {u : Int} (ht : P.underlying t = some .string) (hx : ev K x = some (strV a)) (hu : ev K hi = some (.int kh u)) (h0 : 0 ≤ u) (h2 : u ≤ a.length) :
    StepV P n w0 K HS ⟨d, .slice t x none (some hi) none, ty, ps, af, g⟩ (strV (a.take u.toNat)) := fun ac w e _ => by
  have hx' := e.ev hx
  unfold strV at hx' ⊢
  have hr := run_slice_string_to_if (P := P) w t ⟨a.toArray⟩ kh u ht; rw [if_pos ⟨h0, by rw [str_size]; exact h2⟩, ByteArray.extract_mk, List.drop_zero] at hr
  simp [execOp, hx', e.ev hu, run_sliceAt_string w t _ _ _ _ ht, hr]
theorem v_neqHeld {t t' u : TypeId} {x y : Operand} {z : Value} (ht : P.underlying t = some (.interface (P.methodsAt t))) (hx : ev K x = some (.iface u z)) (hy : ev K y = some .nilIface) : StepV P n w0 K HS ⟨d, .binOp .neq t x y t', ty, ps, af, g⟩ (.bool true) := fun ac w e _ => by
  simp [execOp, e.ev hx, e.ev hy, eqGuard, run_neq_held_nil w t u z ht]
theorem v_neqNil {t t' : TypeId} {x : Operand} (ht : P.underlying t = some (.interface (P.methodsAt t))) (hx : ev K x = some .nilIface) : StepV P n w0 K HS ⟨d, .binOp .neq t x (.const .nilIface) t', ty, ps, af, g⟩ (.bool false) := fun ac w e _ => by
  have hy : ac.eval (.const .nilIface) = .nilIface := rfl
  simp [execOp, e.ev hx, hy, eqGuard, run_neq_nil_nil w t ht]
end
end Go.Proofs.YtiefkcaplhnnmaaGreatDoor
namespace Go.Proofs.YtiefkcaplhnnmaaGreatDoor
set_option maxRecDepth 100000
open Go.RowKit
theorem dec_small {u : Nat} (h : u < 10) : Lib.decDigits u = [UInt8.ofNat (48 + u)] := by rw [Lib.decDigits, dif_pos h]
theorem dec_big {u : Nat} (h : ¬ u < 10) : Lib.decDigits u = Lib.decDigits (u / 10) ++ [UInt8.ofNat (48 + u % 10)] := by rw [Lib.decDigits, dif_neg h]
theorem itoa_len {n : Int} (h : I64 n) : (Lib.itoa n).length ≤ 21 := Lib.itoa_length_le n h.1 h.2
theorem itoa_pos {n : Int} (h : 0 ≤ n) : Lib.itoa n = Lib.decDigits n.toNat := by rw [Lib.itoa, if_neg (by omega)]
theorem td10 (u : Nat) : (u : Int).tdiv 10 = ((u / 10 : Nat) : Int) := (Int.ofNat_tdiv u 10).symm
theorem tm10 (u : Nat) : (u : Int).tmod 10 = ((u % 10 : Nat) : Int) := (Int.ofNat_tmod u 10).symm
theorem itoa_neg1 {n : Int} (h : n < 0) (h2 : n.tdiv 10 = 0) : Lib.itoa n = [45] ++ [UInt8.ofNat (48 - n).toNat] := by
  have e : n = -(n.natAbs : Int) := by omega
  have h3 : n.natAbs < 10 := by
    rw [e, Int.neg_tdiv, td10] at h2
    omega
  rw [Lib.itoa, if_pos h, dec_small h3, show (48 - n).toNat = 48 + n.natAbs by omega]
  rfl
theorem itoa_neg2 {n : Int} (h : n < 0) (h2 : n.tdiv 10 ≠ 0) : n.tdiv 10 < 0 ∧ Lib.itoa n = Lib.itoa (n.tdiv 10) ++ [UInt8.ofNat (48 - n.tmod 10).toNat] := by
  have e : n = -(n.natAbs : Int) := by omega
  have ed : n.tdiv 10 = -((n.natAbs / 10 : Nat) : Int) := by
    conv => lhs; rw [e, Int.neg_tdiv, td10]
  have em : n.tmod 10 = -((n.natAbs % 10 : Nat) : Int) := by
    conv => lhs; rw [e, Int.neg_tmod, tm10]
  have h3 : n.natAbs / 10 ≠ 0 := fun e0 => h2 (by rw [ed, e0]; rfl); have h4 : n.tdiv 10 < 0 := by omega
  refine ⟨h4, ?_⟩; rw [Lib.itoa, if_pos h, Lib.itoa, if_pos h4, dec_big (by omega), show (n.tdiv 10).natAbs = n.natAbs / 10 by omega, show (48 - n.tmod 10).toNat = 48 + n.natAbs % 10 by omega]
  rfl
theorem tmod_nn {n : Int} (h : 0 ≤ n) : 0 ≤ n.tmod 10 ∧ n.tmod 10 ≤ 9 ∧ (n.tmod 10).toNat = n.toNat % 10 ∧ 0 ≤ n.tdiv 10 ∧ n.tdiv 10 ≤ n ∧ (n.tdiv 10).toNat = n.toNat / 10 := by
  obtain ⟨u, rfl⟩ : ∃ u : Nat, n = u := ⟨n.toNat, by omega⟩
  have ed : (u : Int).tdiv 10 = ((u / 10 : Nat) : Int) := (Int.ofNat_tdiv u 10).symm; have em : (u : Int).tmod 10 = ((u % 10 : Nat) : Int) := (Int.ofNat_tmod u 10).symm; rw [ed, em]
  omega
theorem tmod_neg {n : Int} (h : n < 0) : -9 ≤ n.tmod 10 ∧ n.tmod 10 ≤ 0 ∧ n ≤ n.tdiv 10 ∧ n.tdiv 10 ≤ 0 ∧ (n.tdiv 10).natAbs < n.natAbs ∧ (n.tdiv 10 = 0 → -9 ≤ n) := by
  have e : n = -(n.natAbs : Int) := by omega
  have ed : n.tdiv 10 = -((n.natAbs / 10 : Nat) : Int) := by
    conv => lhs; rw [e, Int.neg_tdiv, td10]
  have em : n.tmod 10 = -((n.natAbs % 10 : Nat) : Int) := by
    conv => lhs; rw [e, Int.neg_tmod, tm10]
  rw [ed, em]
  omega
set_option maxHeartbeats 1000000 in
theorem ct_q_FormatInt (n : Int) (w : World) (hn : I64 n) (ih : ∀ (m : Int) (w : World), m.natAbs < n.natAbs → I64 m → Calls Tryz.prog 25 [num m].toArray w (RetV w (strV (Lib.itoa m)))) :
    Calls Tryz.prog 25 [num n].toArray w (RetV w (strV (Lib.itoa n))) := by
  have hn1 := hn.1; have hn2 := hn.2; refine calls_in Tryz.func25 rfl Tryz.ntmps25 rfl (Sat.start w) (wp_sc (wp_sq (sq_v rfl (v_assign rfl) rfl (sq_end (qs_n (wp_sc (wp_sc (wp_sq (sq_v rfl (v_move rfl) rfl (sq_v rfl (v_lss rfl rfl) rfl (sq_end (qs_n ?_)))))))))))); refine wp_cd rfl (fun c5 => ?_) (fun c5 => ?_)
  · refine wp_sc (wp_sc (wp_sq (sq_v rfl (v_move rfl) rfl ?_))); have htn := tmod_neg (n := n) (by omega); refine sq_v rfl (v_quo rfl rfl (by omega) (by unfold I64; omega)) rfl ?_; refine sq_v rfl (v_eql rfl rfl) rfl (sq_end (qs_n ?_)); refine wp_cd rfl (fun c8 => ?_) (fun c8 => ?_)
    · refine wp_sc (wp_sq (sq_v rfl (v_move rfl) rfl ?_)); have hn9 := htn.2.2.2.2.2 c8; refine sq_v rfl (v_sub rfl rfl ((by unfold I64; omega))) rfl ?_; refine sq_v rfl (v_convK rfl Tryz.underlying5 rfl (u8_wrap (by omega))) rfl ?_; refine sq_x rfl (x_buildS [.int .u8 (48 - n)] Tryz.underlying93 ty_5 (by decide) rfl rfl rfl (by decide) (by decide) (by intro v hv; simp at hv; subst hv; rfl)) rfl ?_; intro v12 h12 (r12 : RowO 5 [.int .u8 (48 - n)] 1 1 v12 h12); refine sq_v rfl (v_convS 0 Tryz.underlying93 Tryz.underlying5 Tryz.underlying9 rfl rfl r12.toR) rfl ?_; refine sq_v rfl (v_addS rfl rfl (by first | omega | (simp only [List.length_append, List.length_cons, List.length_nil]; omega))) rfl ?_; refine sq_v rfl (v_assign rfl) rfl (sq_end (qs_n (wp_rt (qs_r (qs_r ?_))))); exact qs_ret1 rfl rfl (fin_q (i := 1) rfl (by rw [itoa_neg1 (by omega) c8]))
    · refine wp_sk (qs_n (wp_sc ?_)); refine wp_ra (σ := PH × Value) 11 (fun z_ => RowO 5 [.int .u8 (48 - (n.tmod 10))] 1 1 z_.2 z_.1) (fun z_ => [(0, num n), (2, strV ((Lib.itoa (n.tdiv 10)) ++ [UInt8.ofNat (48 - (n.tmod 10)).toNat])), (5, .bool (decide ((n : Int) < 0))), (8, .bool (decide ((n.tdiv 10 : Int) = 0)))]) (fun z_ => [z_.1, hp w]) mixed_ok (by kernel_rfl) ?_ ?_
      · refine ra_v (i := 0) (by kernel_rfl) rfl rfl (v_move rfl) rfl ?_; refine ra_v (i := 1) (by kernel_rfl) rfl rfl (v_quo rfl rfl (by omega) (by unfold I64; omega)) rfl ?_; refine ra_v (i := 3) (by kernel_rfl) rfl rfl (v_move rfl) rfl (ra_v (i := 4) (by kernel_rfl) rfl rfl (v_rem rfl rfl (by omega)) rfl ?_); refine ra_v (i := 5) (by kernel_rfl) rfl rfl (v_sub rfl rfl ((by unfold I64; omega))) rfl ?_; refine ra_v (i := 6) (by kernel_rfl) rfl rfl (v_convK rfl Tryz.underlying5 rfl (u8_wrap (by omega))) rfl ?_; refine ra_2 (i := 2) (j := 7) (by kernel_rfl) ?_ ?_
        · refine ro_u rfl rfl (x_callv rfl en_25 (fun w s => ih (n.tdiv 10) w (by omega) ⟨by omega, by omega⟩)) rfl (ra_rj [(7, false), (8, true), (9, true), (10, true)] (by kernel_rfl) rfl ?_); refine rj_x rfl rfl (x_buildS [.int .u8 (48 - (n.tmod 10))] Tryz.underlying93 ty_5 (by decide) rfl rfl rfl (by decide) (by decide) (by intro v hv; simp at hv; subst hv; rfl)) rfl ?_; intro v22 h22 (r22 : RowO 5 [.int .u8 (48 - (n.tmod 10))] 1 1 v22 h22); refine rj_v rfl rfl (v_convS 0 Tryz.underlying93 Tryz.underlying5 Tryz.underlying9 rfl rfl r22.toR) rfl ?_; have hil := itoa_len (n := n.tdiv 10) ⟨by omega, by omega⟩; refine rj_v rfl rfl (v_addS rfl rfl (by first | omega | (simp only [List.length_append, List.length_cons, List.length_nil]; omega))) rfl ?_; refine rj_v rfl rfl (v_assign rfl) rfl (rj_end ?_); exact qs_mid (h22, v22) (r22) ⟨rfl, rfl, rfl, rfl, trivial⟩ (fun _ s => s.pick [0, 1] (by decide) rfl)
        · refine ro_x rfl rfl (x_buildS [.int .u8 (48 - (n.tmod 10))] Tryz.underlying93 ty_5 (by decide) rfl rfl rfl (by decide) (by decide) (by intro v hv; simp at hv; subst hv; rfl)) rfl ?_; intro v22 h22 (r22 : RowO 5 [.int .u8 (48 - (n.tmod 10))] 1 1 v22 h22); refine ra_rj [(8, true), (2, false), (9, true), (10, true)] (by kernel_rfl) rfl (rj_v rfl rfl (v_convS 0 Tryz.underlying93 Tryz.underlying5 Tryz.underlying9 rfl rfl r22.toR) rfl (rj_u rfl rfl (x_callv rfl en_25 (fun w s => ih (n.tdiv 10) w (by omega) ⟨by omega, by omega⟩)) rfl ?_)); have hil := itoa_len (n := n.tdiv 10) ⟨by omega, by omega⟩; refine rj_v rfl rfl (v_addS rfl rfl (by first | omega | (simp only [List.length_append, List.length_cons, List.length_nil]; omega))) rfl ?_; refine rj_v rfl rfl (v_assign rfl) rfl (rj_end ?_); exact qs_mid (h22, v22) (r22) ⟨rfl, rfl, rfl, rfl, trivial⟩ (fun _ s => s.pick [0, 1] (by decide) rfl)
      · rintro ⟨h22, v22⟩ r22; dsimp only at r22 ⊢; refine qs_n (wp_rt (qs_r ?_)); exact qs_ret1 rfl rfl (fin_q (i := 1) rfl (by rw [(itoa_neg2 (by omega) c8).2]))
  · refine wp_sk (qs_n (wp_sc (wp_sq (sq_v rfl (v_assign rfl) rfl (sq_end (qs_n (wp_sc (wp_bl ?_)))))))); refine wp_lp (σ := Int × (List UInt8)) (fun z_ => [(0, num z_.1), (2, strV []), (3, strV z_.2)]) (fun z_ => [hp w]) (fun z_ => (0 ≤ z_.1 ∧ z_.1 ≤ n) ∧ Lib.itoa n = Lib.decDigits z_.1.toNat ++ z_.2) (fun z_ => z_.1.toNat) (n, []) (⟨by (try dsimp only); omega, by (try dsimp only); rw [itoa_pos (by omega), List.append_nil]⟩) ⟨(by first | rfl | exact ksub rfl (by first | omega | (simp; done) | (simp; omega))), rfl, (by first | rfl | exact ksub rfl (by first | omega | (simp; done) | (simp; omega))), trivial⟩ (fun _ s => s) ?_; rintro ⟨v, st⟩ ⟨hv, hs⟩; dsimp only at hv hs ⊢; have htv := tmod_nn hv.1; have hsl : st.length ≤ 21 := by have h9 := itoa_len hn; rw [hs, List.length_append] at h9; omega
    refine wp_sc (wp_sc (wp_sq (sq_v rfl (v_move rfl) rfl (sq_v rfl (v_gtr rfl rfl) rfl (sq_end (qs_n ?_)))))); refine wp_cd rfl (fun c26 => ?_) (fun c26 => ?_)
    · refine wp_sk (qs_n (wp_bl (wp_sc (wp_sq (sq_v rfl (v_move rfl) rfl (sq_v rfl (v_rem rfl rfl (by omega)) rfl ?_)))))); refine sq_v rfl (v_add rfl rfl ((by unfold I64; omega))) rfl ?_; refine sq_v rfl (v_convK rfl Tryz.underlying5 rfl (u8_wrap (by omega))) rfl ?_; refine sq_x rfl (x_buildS [.int .u8 (48 + (v.tmod 10))] Tryz.underlying93 ty_5 (by decide) rfl rfl rfl (by decide) (by decide) (by intro v hv; simp at hv; subst hv; rfl)) rfl ?_; intro v31 h31 (r31 : RowO 5 [.int .u8 (48 + (v.tmod 10))] 1 1 v31 h31); refine sq_v rfl (v_convS 0 Tryz.underlying93 Tryz.underlying5 Tryz.underlying9 rfl rfl r31.toR) rfl (sq_v rfl (v_move rfl) rfl ?_); refine sq_v rfl (v_addS rfl rfl (by first | omega | (simp only [List.length_append, List.length_cons, List.length_nil]; omega))) rfl ?_; refine sq_v rfl (v_assign rfl) rfl (sq_end (qs_n (wp_sq (sq_v rfl (v_move rfl) rfl ?_)))); refine sq_v rfl (v_quo rfl rfl (by omega) (by unfold I64; omega)) rfl ?_; refine sq_v rfl (v_assign rfl) rfl (sq_end (qs_bn ?_)); exact qs_bk (v.tdiv 10, [UInt8.ofNat (48 + v.tmod 10).toNat] ++ st) ⟨by (try dsimp only); omega, by (try dsimp only); rw [hs, dec_big (by omega), List.append_assoc, htv.2.2.2.2.2, show (48 + v.tmod 10).toNat = 48 + v.toNat % 10 by omega]⟩ (by simp only; omega) ⟨(by first | rfl | exact ksub rfl (by first | omega | (simp; done) | (simp; omega))), rfl, (by first | rfl | exact ksub rfl (by first | omega | (simp; done) | (simp; omega))), trivial⟩ (fun _ s => s.pick [1] (by decide) rfl)
    · refine wp_ex (qs_x (qs_x (qs_bx (qs_n (wp_sc (wp_sq (sq_v rfl (v_move rfl) rfl ?_))))))); refine sq_v rfl (v_add rfl rfl ((by unfold I64; omega))) rfl ?_; refine sq_v rfl (v_convK rfl Tryz.underlying5 rfl (u8_wrap (by omega))) rfl ?_; refine sq_x rfl (x_buildS [.int .u8 (48 + v)] Tryz.underlying93 ty_5 (by decide) rfl rfl rfl (by decide) (by decide) (by intro v hv; simp at hv; subst hv; rfl)) rfl ?_; intro v40 h40 (r40 : RowO 5 [.int .u8 (48 + v)] 1 1 v40 h40); refine sq_v rfl (v_convS 0 Tryz.underlying93 Tryz.underlying5 Tryz.underlying9 rfl rfl r40.toR) rfl (sq_v rfl (v_move rfl) rfl ?_); refine sq_v rfl (v_addS rfl rfl (by first | omega | (simp only [List.length_append, List.length_cons, List.length_nil]; omega))) rfl ?_; refine sq_v rfl (v_assign rfl) rfl (sq_end (qs_n (wp_rt ?_))); exact qs_ret1 rfl rfl (fin_q (i := 1) rfl (by rw [hs, dec_small (by omega), show (48 + v).toNat = 48 + v.toNat by omega]))
theorem ct_s_FormatInt (n : Int) (w : World) (hn : I64 n) : Calls Tryz.prog 25 [num n].toArray w (RetV w (strV (Lib.itoa n))) := by
  have key : ∀ (f : Nat) (n : Int) (w : World), n.natAbs < f → I64 n → Calls Tryz.prog 25 [num n].toArray w (RetV w (strV (Lib.itoa n))) := fun f => by
    induction f with
    | zero => intro n w h; omega
    | succ f ih => intro n w h hn; exact ct_q_FormatInt n w hn fun m w hm hm2 => ih m w (by omega) hm2
  exact key (n.natAbs + 1) n w (by omega) hn
theorem ct_i_FormatInt (n : Int) (w : World) (tb : PowR (hp w)) (hn : I64 n) : Calls Tryz.prog 34 [num n].toArray w (RetV w (strV (Lib.itoa n))) := by
  refine calls_in Tryz.func34 rfl Tryz.ntmps34 rfl (Sat.start w) (wp_sc (wp_sq (sq_v rfl (v_assign rfl) rfl (sq_end (qs_n (wp_sc (wp_sq (sq_v rfl (v_move rfl) rfl (sq_u rfl (x_callv rfl en_74 (fun w s => ct_lib_Itoa _ w (tb.mono (s.get 0 rfl)) (by first | assumption | omega))) rfl (sq_v rfl (v_assign rfl) rfl (sq_end (qs_n (wp_rt ?_))))))))))))); exact qs_ret1 rfl rfl (fin_q (i := 0) rfl (rfl))
/-- A text, or none. -/
def ifT (b : Bool) (x : List UInt8) : List UInt8 := if b then x else []
theorem join_snoc {xs : List (List UInt8)} {x sep : List UInt8} (h : xs ≠ []) : Lib.join (xs ++ [x]) sep = Lib.join xs sep ++ sep ++ x := by
  match xs, h with
  | y :: r, _ =>
    rw [List.cons_append, Lib.join_cons, Lib.join_cons, Lib.joinTail, Lib.joinTail, List.map_append, List.flatten_append]
    simp
theorem ct_s_Join (xs : List (List UInt8)) (sep : List UInt8) (v : Value) (w : World) (r : StrsR xs v (hp w)) (hl : ∀ i, i ≤ xs.length → (Lib.join (xs.take i) sep).length ≤ 1000000000) (hsp : sep.length ≤ 1000) (hx : ∀ x ∈ xs, x.length ≤ 1000000000) :
    Calls Tryz.prog 64 [v, strV sep].toArray w (RetV w (strV (Lib.join xs sep))) := by
  refine calls_in Tryz.func64 rfl Tryz.ntmps64 rfl (Sat.start w) ?_; have hle0 := r.le; refine wp_sc (wp_sq (sq_v rfl (v_assign rfl) rfl (sq_end (qs_n (wp_sc (wp_sq (sq_v rfl (v_assign rfl) rfl (sq_end (qs_n (wp_sc (wp_sc (wp_sq (sq_v rfl (v_move rfl) rfl (sq_v rfl (v_len Tryz.underlying70 rfl r.sl) rfl (sq_v rfl (v_move rfl) rfl (sq_end (qs_n (wp_bl ?_)))))))))))))))))); refine wp_lp (σ := Nat × (List UInt8)) (fun z_ => [(1, strV sep), (4, strV []), (5, strV z_.2), (8, v), (9, num xs.length), (10, num z_.1)]) (fun z_ => [hp w]) (fun z_ => z_.1 ≤ xs.length ∧ z_.2 = Lib.join (xs.take z_.1) sep) (fun z_ => xs.length - z_.1) (0, []) (⟨by (try dsimp only); omega, by (try dsimp only); rw [List.take_zero]; rfl⟩) ⟨rfl, rfl, (by first | rfl | exact ksub rfl (by first | omega | (simp; done) | (simp; omega))), rfl, rfl, (by first | rfl | exact ksub rfl (by first | omega | (simp; done) | (simp; omega))), trivial⟩ (fun _ s => s) ?_; rintro ⟨i, st⟩ ⟨hi, hs⟩; dsimp only at hi hs ⊢; have hsl : st.length ≤ 1000000000 := by rw [hs]; exact hl i hi
  refine wp_sc (wp_sq (sq_v rfl (v_lss rfl rfl) rfl (sq_end (qs_n (wp_sc ?_))))); refine wp_cd rfl (fun c11 => ?_) (fun c11 => ?_)
  · refine wp_sk (qs_n (wp_sc (wp_bl (wp_sc (wp_sq (sq_v rfl (v_move rfl) rfl ?_)))))); refine sq_v rfl (v_idxU Tryz.underlying70 ty_9 rfl rfl r (by first | omega | (simp; omega) | (simp only [List.length_append, List.length_cons, List.length_nil]; omega) | (rw [List.length_set]; omega)) (by first | omega | (simp; omega) | (simp only [List.length_append, List.length_cons, List.length_nil]; omega) | (rw [List.length_set]; omega))) rfl ?_; refine sq_v rfl (v_loadU (k := i) 0 ty_9 rfl rfl r (by first | omega | (simp; omega) | (simp only [List.length_append, List.length_cons, List.length_nil]; omega) | (rw [List.length_set]; omega))) rfl ?_; refine sq_v rfl (v_assign rfl) rfl (sq_v rfl (v_assign rfl) rfl (sq_end ?_)); have hxi : (xs.getD i []).length ≤ 1000000000 := hx _ (by simp [List.getD, show i < xs.length by omega]); have etk : xs.take (i + 1) = xs.take i ++ [xs.getD i []] := by rw [List.take_succ_eq_append_getElem (by omega)]; simp [List.getD, show i < xs.length by omega]
    refine qs_n (wp_sc (wp_sc (wp_sq (sq_v rfl (v_move rfl) rfl (sq_v rfl (v_gtr rfl rfl) rfl (sq_end (qs_n ?_))))))); refine wp_cd rfl (fun c16 => ?_) (fun c16 => ?_)
    · refine wp_sq (sq_v rfl (v_move rfl) rfl (sq_v rfl (v_move rfl) rfl ?_)); refine sq_v rfl (v_addS rfl rfl (by first | omega | (simp only [List.length_append, List.length_cons, List.length_nil]; omega))) rfl ?_; refine sq_v rfl (v_assign rfl) rfl (sq_end (qs_n (wp_sq (sq_v rfl (v_move rfl) rfl (sq_v rfl (v_move rfl) rfl ?_))))); refine sq_v rfl (v_addS rfl rfl (by first | omega | (simp only [List.length_append, List.length_cons, List.length_nil]; omega))) rfl ?_; refine sq_v rfl (v_assign rfl) rfl (sq_end (qs_bn (qs_n (wp_sq ?_)))); refine sq_v rfl (v_add rfl rfl ((by unfold I64; omega))) rfl ?_; refine sq_v rfl (v_move rfl) rfl (sq_end ?_); exact qs_bk (i + 1, st ++ sep ++ xs.getD i []) ⟨by (try dsimp only); omega, by (try dsimp only); rw [etk, join_snoc (by intro e; have := congrArg List.length e; rw [List.length_take, List.length_nil] at this; omega), hs]⟩ (by simp only; omega) ⟨rfl, rfl, (by first | rfl | exact ksub rfl (by first | omega | (simp; done) | (simp; omega))), rfl, rfl, (by first | rfl | exact ksub rfl (by first | omega | (simp; done) | (simp; omega))), trivial⟩ (fun _ s => s)
    · refine wp_sk (qs_n (wp_sq (sq_v rfl (v_move rfl) rfl (sq_v rfl (v_move rfl) rfl ?_)))); refine sq_v rfl (v_addS rfl rfl (by first | omega | (simp only [List.length_append, List.length_cons, List.length_nil]; omega))) rfl ?_; refine sq_v rfl (v_assign rfl) rfl (sq_end (qs_bn (qs_n (wp_sq ?_)))); refine sq_v rfl (v_add rfl rfl ((by unfold I64; omega))) rfl ?_; refine sq_v rfl (v_move rfl) rfl (sq_end ?_); exact qs_bk (i + 1, st ++ xs.getD i []) ⟨by (try dsimp only); omega, by (try dsimp only); have e0 : i = 0 := (by omega); subst e0; rw [etk, hs, List.take_zero, List.nil_append, Lib.join_one]; rfl⟩ (by simp only; omega) ⟨rfl, rfl, (by first | rfl | exact ksub rfl (by first | omega | (simp; done) | (simp; omega))), rfl, rfl, (by first | rfl | exact ksub rfl (by first | omega | (simp; done) | (simp; omega))), trivial⟩ (fun _ s => s)
  · refine wp_ex (qs_x (qs_x (qs_bx (qs_n (wp_sc (wp_sq (sq_v rfl (v_move rfl) rfl (sq_v rfl (v_assign rfl) rfl (sq_end (qs_n (wp_rt ?_))))))))))); exact qs_ret1 rfl rfl (fin_q (i := 0) rfl (by rw [hs, List.take_of_length_le (by omega)]))
theorem ct_i_Join (xs : List (List UInt8)) (sep : List UInt8) (v : Value) (w : World) (r : StrsR xs v (hp w)) (hs : xs.length ≤ 1048576) (hl : (Lib.join xs sep).length ≤ 140737488355328) :
    Calls Tryz.prog 36 [v, strV sep].toArray w (RetV w (strV (Lib.join xs sep))) := by
  refine calls_in Tryz.func36 rfl Tryz.ntmps36 rfl (Sat.start w) ?_; have hle0 := r.le; refine wp_sc (wp_sq (sq_v rfl (v_assign rfl) rfl (sq_end (qs_n (wp_sc (wp_sq (sq_v rfl (v_move rfl) rfl (sq_v rfl (v_move rfl) rfl (sq_u rfl (x_callv rfl en_78 (fun w s => ct_lib_Join _ _ _ w (r.mono (s.get 0 rfl)) (by first | assumption | omega) (by first | assumption | omega))) rfl (sq_v rfl (v_assign rfl) rfl (sq_end (qs_n (wp_rt ?_))))))))))))); exact qs_ret1 rfl rfl (fin_q (i := 0) rfl (rfl))
end Go.Proofs.YtiefkcaplhnnmaaGreatDoor
namespace Go.Proofs.YtiefkcaplhnnmaaGreatDoor
set_option maxRecDepth 100000
open Go.RowKit
/-- The pieces of a text, what is gathered of the first one ahead. -/
def sf (c : UInt8) (cur : List UInt8) : List UInt8 → List (List UInt8)
  | [] => [cur]
  | x :: r => if x = c then cur :: sf c [] r else sf c (cur ++ [x]) r
def spl (c : UInt8) (s : List UInt8) : List (List UInt8) := sf c [] s
section
variable {c : UInt8}
theorem sf_free : ∀ {w cur : List UInt8} {r : List UInt8}, c ∉ w → sf c cur (w ++ r) = sf c (cur ++ w) r
  | [], cur, r, _ => by simp
  | x :: w, cur, r, h => by
    have hx : ¬ x = c := fun e => h (by simp [e]); rw [List.cons_append, sf, if_neg hx, sf_free fun e => h (by simp [e]), List.append_assoc]
    rfl
theorem sf_hit {w cur r : List UInt8} (h : c ∉ w) : sf c cur (w ++ c :: r) = (cur ++ w) :: sf c [] r := by
  rw [sf_free h, sf, if_pos rfl]
theorem sf_end {w cur : List UInt8} (h : c ∉ w) : sf c cur w = [cur ++ w] := by
  have := sf_free (cur := cur) (r := []) h; rw [List.append_nil] at this; rw [this, sf]
theorem spl_join : ∀ {ws : List (List UInt8)}, ws ≠ [] → (∀ w ∈ ws, c ∉ w) → spl c (Lib.join ws [c]) = ws
  | [], h, _ => absurd rfl h
  | [w], _, h => by
    rw [Lib.join_one, spl, sf_end (h w (by simp)), List.nil_append]
  | w :: y :: r, _, h => by
    have ih := spl_join (ws := y :: r) (by simp) fun z hz => h z (by simp [hz]); have e : Lib.join (w :: y :: r) [c] = w ++ c :: Lib.join (y :: r) [c] := by
      rw [Lib.join_cons, Lib.join_cons, Lib.joinTail, Lib.joinTail, List.map_cons, List.flatten_cons, List.append_assoc]; rfl
    rw [e, spl, sf_hit (h w (by simp)), List.nil_append]; exact congrArg _ ih
theorem sf_len : ∀ {r cur : List UInt8}, 1 ≤ (sf c cur r).length ∧ (sf c cur r).length ≤ r.length + 1
  | [], cur => by simp [sf]
  | x :: r, cur => by
    rw [sf]
    split
    · have := sf_len (r := r) (cur := []); simp only [List.length_cons]; omega
    · have := sf_len (r := r) (cur := cur ++ [x]); simp only [List.length_cons]; omega
theorem spl_len (s : List UInt8) : 1 ≤ (spl c s).length ∧ (spl c s).length ≤ s.length + 1 := sf_len
theorem sf_small : ∀ {r cur : List UInt8}, ∀ p ∈ sf c cur r, p.length ≤ cur.length + r.length
  | [], cur, p, hp => by simp [sf] at hp; subst hp; simp
  | x :: r, cur, p, hp => by
    rw [sf] at hp
    split at hp
    · rcases List.mem_cons.1 hp with rfl | hp
      · simp only [List.length_cons]; omega
      · have := sf_small p hp; simp only [List.length_cons, List.length_nil] at this ⊢; omega
    · have := sf_small p hp; simp only [List.length_append, List.length_cons, List.length_nil] at this ⊢; omega
theorem spl_small {s : List UInt8} : ∀ p ∈ spl c s, p.length ≤ s.length := fun p hp => by
  have := sf_small p hp
  simpa using this
/-- The library's cut at one byte. -/
theorem split_one : ∀ (m : Nat) (s : List UInt8), s.length ≤ m → Lib.split s [c] = spl c s
  | m, s, hm => by
    unfold Lib.split
    have hi := Lib.index_one s c
    rcases Int.lt_or_le (Lib.indexByte s c) 0 with h | h
    · have h1 : Lib.indexByte s c = -1 := by have := Lib.indexByte_ge s c; omega
      have hn : c ∉ s := fun hm => by
        obtain ⟨k, hk⟩ := List.getElem?_of_mem hm; exact Lib.indexByte_none h1 k hk
      have hc : Lib.count s [c] = 0 := Lib.count_miss (by rw [hi, h1]); rw [hc, Lib.splitK, spl, sf_end hn, List.nil_append]
    · obtain ⟨o, ho⟩ : ∃ o : Nat, Lib.indexByte s c = o := ⟨(Lib.indexByte s c).toNat, by omega⟩
      obtain ⟨h1, h2⟩ := Lib.indexByte_some ho; have hol : o < s.length := (List.getElem?_eq_some_iff.1 h1).1; have hso : s[o] = c := (List.getElem?_eq_some_iff.1 h1).2; have hst : s = s.take o ++ c :: s.drop (o + 1) := by
        conv => lhs; rw [← List.take_append_drop o s, List.drop_eq_getElem_cons hol, hso]
      have hn : c ∉ s.take o := fun hm => by
        obtain ⟨k, hk⟩ := List.getElem?_of_mem hm; rw [List.getElem?_take] at hk
        split at hk
        · rename_i hlt; exact h2 k hlt hk
        · cases hk
      have hc := Lib.count_hit (s := s) (sub := [c]) (i := o) (by simp) (by rw [hi, ho]); have hne : ¬ (Lib.index s [c] == -1) = true := fun e => by have := beq_iff_eq.1 e; rw [hi, ho] at this; omega
      match m, hm with
      | 0, hm => omega
      | m + 1, hm =>
        have ih := split_one m (s.drop (o + 1)) (by rw [List.length_drop]; omega); rw [hc, Nat.add_comm, Lib.splitK, if_neg hne, hi, ho]; have e : ((o : Int)).toNat = o := by omega
        rw [e]
        conv => rhs; rw [hst, spl, sf_hit hn, List.nil_append]
        unfold Lib.split at ih
        simp only [List.length_cons, List.length_nil, Nat.add_zero, Nat.zero_add] at ih ⊢; rw [ih]; rfl
end
theorem of48 {u : Nat} (h : u < 10) : (UInt8.ofNat (48 + u)).toNat = 48 + u := by
  rw [UInt8.toNat_ofNat']; omega
theorem dec_chars : ∀ (f u : Nat), u < f → ∀ b ∈ Lib.decDigits u, 48 ≤ b.toNat ∧ b.toNat ≤ 57
  | 0, u, h => by omega
  | f + 1, u, h => fun b hb => by
    by_cases c : u < 10
    · rw [dec_small c, List.mem_singleton] at hb; rw [hb, of48 c]; omega
    · rw [dec_big c] at hb
      rcases List.mem_append.1 hb with hb | hb
      · exact dec_chars f (u / 10) (by omega) b hb
      · rw [List.mem_singleton] at hb; rw [hb, of48 (by omega)]; omega
theorem dec_ne (u : Nat) : Lib.decDigits u ≠ [] := by
  by_cases c : u < 10
  · rw [dec_small c]; simp
  · rw [dec_big c]; simp
theorem parse_dec : ∀ (f u : Nat) (r : List UInt8), u < f → u < 18446744073709551616 → Lib.parseUint10 0 (Lib.decDigits u ++ r) = Lib.parseUint10 u r
  | 0, u, r, h, _ => by omega
  | f + 1, u, r, h, h64 => by
    by_cases c : u < 10
    · rw [dec_small c, List.singleton_append, Lib.parseUint10, of48 c, if_pos (by omega), if_neg (by omega), if_neg (by omega)]
      congr 1; omega
    · rw [dec_big c, List.append_assoc, parse_dec f (u / 10) _ (by omega) (by omega), List.singleton_append, Lib.parseUint10, of48 (by omega), if_pos (by omega), if_neg (by omega), if_neg (by omega)]
      congr 1; omega
theorem mag_dec {u : Nat} (h : u < 18446744073709551616) : Lib.parseMag (Lib.decDigits u) = .ok u := by
  have := parse_dec (u + 1) u [] (by omega) h; rw [List.append_nil] at this; rw [Lib.parseMag, if_neg (dec_ne u), this, Lib.parseUint10]
theorem atoi_itoa {n : Int} (h : I64 n) : Lib.atoiAll (Lib.itoa n) = .ok n := by
  have h1 := h.1; have h2 := h.2
  by_cases c : n < 0
  · have e : Lib.itoa n = 45 :: Lib.decDigits n.natAbs := by rw [Lib.itoa, if_pos c]
    have hm := mag_dec (u := n.natAbs) (by omega); rw [e]
    unfold Lib.atoiAll
    simp only [show (45 : UInt8).toNat = 45 from rfl, or_true, if_true, hm, not_true, false_and, if_false, true_and]; rw [if_neg (by omega)]
    congr 1; omega
  · have e := itoa_pos (n := n) (by omega); have hm := mag_dec (u := n.toNat) (by omega); rw [e]; have hch := dec_chars (n.toNat + 1) n.toNat (by omega)
    match hd : Lib.decDigits n.toNat with
    | [] => exact absurd hd (dec_ne _)
    | b :: r =>
      have hb := hch b (by rw [hd]; simp); have hn : ¬ (b.toNat = 43 ∨ b.toNat = 45) := by omega
      have hn2 : ¬ b.toNat = 45 := by omega
      rw [hd] at hm
      unfold Lib.atoiAll
      have hn3 : ¬ b.toNat = 43 := by omega
      simp only [hn2, hn3, or_false, if_false, hm, not_false_eq_true, true_and, false_and]; rw [if_neg (by omega)]
      congr 1; omega
theorem atoi_i64 {l : List UInt8} {v : Int} (h : Lib.atoiAll l = .ok v) : I64 v := by
  unfold Lib.atoiAll at h
  split at h
  · cases h
  · simp only at h
    split at h
    · cases h
    · cases h
    · split at h
      · cases h
      · split at h
        · cases h
        · cases h
          split <;> constructor <;> omega
/-- Whether a text is a number's own text, and which. -/
def piB (w : List UInt8) : Bool := match Lib.atoiAll w with | .ok n => decide (Lib.itoa n = w) | _ => false
def piV (w : List UInt8) : Int := match Lib.atoiAll w with | .ok n => if Lib.itoa n = w then n else 0 | _ => 0
theorem pi_itoa {n : Int} (h : I64 n) : piB (Lib.itoa n) = true ∧ piV (Lib.itoa n) = n := by
  unfold piB piV
  rw [atoi_itoa h]
  simp
theorem pi_true {w : List UInt8} (h : piB w = true) : I64 (piV w) ∧ w = Lib.itoa (piV w) := by
  unfold piB at h
  unfold piV
  cases e : Lib.atoiAll w
  case ok n =>
    rw [e] at h; have h1 : Lib.itoa n = w := by simpa using h
    simp only [h1, if_true]; exact ⟨atoi_i64 e, trivial⟩
  all_goals (rw [e] at h; cases h)
theorem pi_false {w : List UInt8} (h : piB w = false) : piV w = 0 := by
  unfold piB at h
  unfold piV
  cases e : Lib.atoiAll w
  case ok n =>
    rw [e] at h; have h1 : ¬ Lib.itoa n = w := by simpa using h
    simp only [if_neg h1]
  all_goals rfl
theorem itoa_chars {n : Int} {b : UInt8} (h : b ∈ Lib.itoa n) : b.toNat = 45 ∨ (48 ≤ b.toNat ∧ b.toNat ≤ 57) := by
  unfold Lib.itoa at h
  split at h
  · rcases List.mem_cons.1 h with rfl | h
    · exact .inl rfl
    · exact .inr (dec_chars _ _ (Nat.lt_succ_self _) b h)
  · exact .inr (dec_chars _ _ (Nat.lt_succ_self _) b h)
theorem itoa_ne (n : Int) : Lib.itoa n ≠ [] := by
  unfold Lib.itoa
  split
  · simp
  · exact dec_ne _
/-- A byte that stands in no number's text. -/
def sepB (c : UInt8) : Prop := c.toNat ≠ 45 ∧ ¬ (48 ≤ c.toNat ∧ c.toNat ≤ 57)
theorem sep_itoa {c : UInt8} (h : sepB c) (n : Int) : c ∉ Lib.itoa n := fun hm => by
  rcases itoa_chars hm with e | e
  · exact h.1 e
  · exact h.2 e
def plP (c : UInt8) (s : List UInt8) : Prop := s = [] ∨ ∀ p ∈ spl c s, piB p = true
def plX (c : UInt8) (s : List UInt8) : List Int := if s = [] then [] else (spl c s).map piV
open Classical in
noncomputable def plB (c : UInt8) (s : List UInt8) : Bool := decide (plP c s)
noncomputable def plR (c : UInt8) (s : List UInt8) : List Int := if plB c s then plX c s else []
theorem plB_true {c : UInt8} {s : List UInt8} : plB c s = true ↔ plP c s := by simp [plB]
theorem plB_false {c : UInt8} {s : List UInt8} : plB c s = false ↔ ¬ plP c s := by simp [plB]
theorem plR_yes {c : UInt8} {s : List UInt8} (h : plP c s) : plR c s = plX c s := by rw [plR, if_pos (plB_true.2 h)]
theorem plR_no {c : UInt8} {s : List UInt8} (h : ¬ plP c s) : plR c s = [] := by rw [plR, plB_false.2 h]; rfl
theorem pl_join {c : UInt8} (hc : sepB c) {xs : List Int} (hx : ∀ a ∈ xs, I64 a) : plP c (Lib.join (xs.map Lib.itoa) [c]) ∧ plX c (Lib.join (xs.map Lib.itoa) [c]) = xs := by
  match xs, hx with
  | [], _ => exact ⟨.inl rfl, rfl⟩
  | y :: r, hx =>
    have hsp : spl c (Lib.join ((y :: r).map Lib.itoa) [c]) = (y :: r).map Lib.itoa := spl_join (by simp) fun w hw => by
      obtain ⟨a, _, rfl⟩ := List.mem_map.1 hw; exact sep_itoa hc a
    have hne : Lib.join ((y :: r).map Lib.itoa) [c] ≠ [] := by
      rw [List.map_cons, Lib.join_cons]; intro e; exact itoa_ne y (List.append_eq_nil_iff.1 e).1
    refine ⟨.inr fun p hp => ?_, ?_⟩
    · rw [hsp] at hp; obtain ⟨a, ha, rfl⟩ := List.mem_map.1 hp; exact (pi_itoa (hx a ha)).1
    · rw [plX, if_neg hne, hsp, List.map_map]
      conv => rhs; rw [← List.map_id (y :: r)]
      exact List.map_congr_left fun a ha => (pi_itoa (hx a ha)).2
theorem plX_len (c : UInt8) (s : List UInt8) : (plX c s).length ≤ s.length + 1 := by
  unfold plX
  split
  · simp
  · rw [List.length_map]; exact (spl_len s).2
theorem plR_len (c : UInt8) (s : List UInt8) : (plR c s).length ≤ s.length + 1 := by
  unfold plR
  split
  · exact plX_len c s
  · simp
end Go.Proofs.YtiefkcaplhnnmaaGreatDoor
namespace Go.Proofs.YtiefkcaplhnnmaaGreatDoor
set_option maxRecDepth 100000
open Go.RowKit Go.Sort
theorem en_83 : EnterOK Tryz.prog 83 := ⟨_, Tryz.func83, by kernel_rfl, rfl⟩
theorem en_89 : EnterOK Tryz.prog 89 := ⟨_, Tryz.func89, by kernel_rfl, rfl⟩
/-- What a world's variables hold, as far as the library's readers want it. -/
def GlbW (w : World) : Prop := (∃ m : Int, w.cell? ⟨3, 0, none⟩ = some (.int .i64 m)) ∧ (∃ tp p, w.var? Tryz.prog "strconv.ErrSyntax" = some #[.iface tp p]) ∧ (∃ tp p, w.var? Tryz.prog "strconv.ErrRange" = some #[.iface tp p])
def GlbR (h : PH) : Prop := ∀ w : World, PLe h (hp w) → GlbW w
theorem GlbR.mono {h h' : PH} (r : GlbR h) (l : PLe h h') : GlbR h' := fun w hw => r w (l.trans hw)
theorem var_le {P : Program} {w w' : World} {name : String} {cs : Array Value} (h : w.var? P name = some cs) (l : PLe (hp w) (hp w')) : w'.var? P name = some cs := by
  unfold World.var? at h ⊢
  cases hg : P.globalNamed name with
  | none => rw [hg] at h; cases h
  | some g =>
    rw [hg] at h; simp only [Option.bind_some] at h ⊢
    split at h
    · rename_i cs t f hh
      have := l g _ hh; simp only [hp] at this; rw [this]; exact h
    · cases h
theorem glb_start {w : World} (h : GlbW w) : GlbR (hp w) := fun w' hw => by
  obtain ⟨⟨m, hm⟩, ⟨t1, p1, h1⟩, ⟨t2, p2, h2⟩⟩ := h; refine ⟨⟨m, ?_⟩, ⟨t1, p1, var_le h1 hw⟩, ⟨t2, p2, var_le h2 hw⟩⟩; rw [← cellP_hp] at hm ⊢; exact cellP.mono hw hm
theorem map_strs {bs : List ByteArray} {l : List (List UInt8)} (h : bs.map (·.data.toList) = l) : bs.map Value.string = strs l := by
  subst h; simp only [strs, List.map_map]; exact List.map_congr_left fun b _ => str_mk b
theorem ct_lib_Split (tx : List UInt8) (c : UInt8) (w : World) (gb : GlbR (hp w)) (hs : tx.length ≤ 1048576) : Calls Tryz.prog 83 [strV tx, strV [c]].toArray w (Ret w emp (StrsO (spl c tx))) := by
  obtain ⟨⟨m, hm⟩, _, _⟩ := gb w (PLe.refl _); have h := shp_strings_Split ⟨tx.toArray⟩ ⟨[c].toArray⟩ m w (by rw [str_size]; omega) hm (by rw [str_size]; exact Nat.le_refl 1); have e1 : (⟨tx.toArray⟩ : ByteArray).data.toList = tx := rfl; have hsp := Lib.splitB_data ⟨[c].toArray⟩ 0 (Lib.countB ⟨tx.toArray⟩ ⟨[c].toArray⟩) ⟨tx.toArray⟩; have e2 : Lib.splitK [c] 0 (Lib.count tx [c]) tx = spl c tx := split_one tx.length tx (Nat.le_refl _); have e3 : (Lib.splitB ⟨[c].toArray⟩ 0 (Lib.countB ⟨tx.toArray⟩ ⟨[c].toArray⟩) ⟨tx.toArray⟩).map (·.data.toList) = spl c tx := hsp.trans e2; have e4 := map_strs e3; have e5 : Lib.countB ⟨tx.toArray⟩ ⟨[c].toArray⟩ + 1 = (spl c tx).length := by
    rw [← e3, List.length_map]; exact (Lib.splitB_all _ (by rw [str_size]; exact Nat.le_refl 1) 0 _ _ rfl).symm
  have hl := (spl_len (c := c) tx).2; refine h.mono ?_; rintro e w' ⟨rfl, rfl⟩; rw [e4, e5]; refine ⟨_, _, rfl, upd_alloc w (strs (spl c tx)) 9, by simp [strs], .inr ⟨_, _, _, rfl, rfl, Nat.le_refl _, by unfold maxLen; omega, by simp [strs], ?_⟩⟩; rw [Nat.mul_one, ← strs_length]; exact List.take_length
theorem ct_lib_AtoiOk (tx : List UInt8) (v : Int) (w : World) (hs : tx.length ≤ 1048576) (h : Lib.atoiAll tx = .ok v) : Calls Tryz.prog 89 [strV tx].toArray w (RetV w (.tuple [num v, .nilIface].toArray)) := by
  refine (shp_strconv_Atoi_ok ⟨tx.toArray⟩ (by rw [str_size]; omega) v h w).mono ?_; rintro e w' ⟨rfl, rfl | ⟨t, rfl⟩⟩
  · exact ⟨rfl, Upd.refl _⟩
  · exact ⟨rfl, upd_below (Lib.bytesWorld_below w _ _)⟩
theorem ct_lib_AtoiNo (tx : List UInt8) (w : World) (gb : GlbR (hp w)) (hs : tx.length ≤ 1048576) (h : ∀ v, Lib.atoiAll tx ≠ .ok v) : Calls Tryz.prog 89 [strV tx].toArray w (Ret w emp (fun u g => ∃ x t z, u = .tuple [num x, .iface t z].toArray ∧ g = emp)) := by
  obtain ⟨_, ⟨t1, p1, h1⟩, ⟨t2, p2, h2⟩⟩ := gb w (PLe.refl _)
  by_cases hA : Lib.atoiAll tx = .range
  · refine (shp_strconv_Atoi_range_var ⟨tx.toArray⟩ (by rw [str_size]; omega) hA t2 p2 w h2).mono ?_; rintro e w' ⟨N, rfl, _, _, hb⟩; exact ⟨_, emp, rfl, upd_below hb, _, _, _, rfl, rfl⟩
  · refine (shp_strconv_Atoi_syntax_var ⟨tx.toArray⟩ (by rw [str_size]; omega) h hA t1 p1 w h1).mono ?_; rintro e w' ⟨N, rfl, _, _, hb⟩; exact ⟨_, emp, rfl, upd_below hb, _, _, _, rfl, rfl⟩
end Go.Proofs.YtiefkcaplhnnmaaGreatDoor
namespace Go.Proofs.YtiefkcaplhnnmaaGreatDoor
set_option maxRecDepth 100000
open Go.ChangeShapes Go.WideShapes Go.ChangeAt Go.RowKit
theorem arg_string {w : World} {v : Value} {r : Reach} {b : Nat} (hv : Value.okWide Tryz.prog w r b 9 v) : ∃ tx : List UInt8, v = strV tx := by
  obtain ⟨s, rfl⟩ := okWide_string Tryz.underlying9 hv; exact ⟨_, str_mk s⟩
theorem gv_syn : Tryz.prog.globalNamed "strconv.ErrSyntax" = some 0 := by kernel_rfl
theorem gv_ran : Tryz.prog.globalNamed "strconv.ErrRange" = some 1 := by kernel_rfl
theorem gt_syn : (Tryz.prog.globals[0]?).map (·.type) = some 113 := by kernel_rfl
theorem gt_ran : (Tryz.prog.globals[1]?).map (·.type) = some 113 := by kernel_rfl
theorem es_cells : Tryz.prog.cellsOf 182 = 1 := by kernel_rfl
theorem st_cells : Tryz.prog.cellsOf 9 = 1 := by kernel_rfl
theorem es_row (u : TypeId) (h : Tryz.prog.typeName? 3 u = some "*errors.errorString") : u = 180 :=
  typeName_ptr_named (nm := "errors.errorString") (by rw [show "*" ++ "errors.errorString" = "*errors.errorString" by decide]; kernel_rfl) (by kernel_rfl) (by decide) u (by rw [show "*" ++ "errors.errorString" = "*errors.errorString" by decide]; exact h)
theorem glb_laid {W : World} (hsh : W.ShapedOpen Tryz.prog) (h : laidMet Tryz.prog Rows.fnExactParseJobRow.laid W) : GlbW W := by
  have h4 := laidMet.tail (laidMet.tail (laidMet.tail (laidMet.tail h))); have h5 := laidMet.tail h4; obtain ⟨a0, _, hv0, -, -, -⟩ := laid_sentinel h4 gv_ran gt_ran Tryz.underlying113 es_row Tryz.underlying180 Tryz.underlying182 rfl rfl Tryz.underlying9 es_cells st_cells; obtain ⟨a1, _, hv1, -, -, -⟩ := laid_sentinel h5 gv_syn gt_syn Tryz.underlying113 es_row Tryz.underlying180 Tryz.underlying182 rfl rfl Tryz.underlying9 es_cells st_cells; exact ⟨Go.Proofs.cell_of_shapedOpen_int (zero := #[.int .i64 0]) (t := 3) hsh (of_decide_eq_true (by kernel_rfl)) (by kernel_rfl) rfl (by kernel_rfl) (by kernel_rfl) Tryz.underlying3, ⟨_, _, hv1⟩, ⟨_, _, hv0⟩⟩
end Go.Proofs.YtiefkcaplhnnmaaGreatDoor
namespace Go.Proofs.YtiefkcaplhnnmaaGreatDoor
set_option maxRecDepth 100000
open Go.RowKit
def digI (ds : List Int) (n : Int) (i : Nat) : Int := n / prodI (ds.drop (i + 1)) % ds.getD i 0
def idxL (ds : List Int) (n : Int) : List Int := (List.range ds.length).map fun i => digI ds n i
theorem idxL_len (ds : List Int) (n : Int) : (idxL ds n).length = ds.length := by simp [idxL]
theorem idxL_get {ds : List Int} {n : Int} {i : Nat} (h : i < ds.length) : (idxL ds n).getD i 0 = digI ds n i := by simp [idxL, List.getD, h]
theorem idxL_in {ds : List Int} (hd : ∀ d ∈ ds, 1 ≤ d) (n : Int) : idxIn ds (idxL ds n) := ⟨idxL_len ds n, fun j hj => by
  rw [idxL_get hj]; have := hd _ (mem_getD hj); exact ⟨Int.emod_nonneg _ (by omega), Int.emod_lt_of_pos _ (by omega)⟩⟩
end Go.Proofs.YtiefkcaplhnnmaaGreatDoor
namespace Go.Proofs.YtiefkcaplhnnmaaGreatDoor
set_option maxRecDepth 100000
open Go.RowKit
def setP (xs ys : List Int) (j : Nat) : Prop := ys.getD j 0 ∈ xs ∧ ys.getD j 0 ∉ ys.take j
def setL (xs ys : List Int) : Prop := xs.length = ys.length ∧ ∀ j, j < ys.length → setP xs ys j
theorem perm_of : ∀ {xs ys : List Int}, xs.Nodup → (∀ x ∈ xs, x ∈ ys) → ys.length ≤ xs.length → xs.Perm ys
  | [], ys, _, _, hl => by
    have : ys = [] := List.eq_nil_of_length_eq_zero (by simpa using hl); rw [this]
  | x :: xs, ys, hn, hs, hl => by
    have hx := hs x (by simp); have hp := List.perm_cons_erase hx; have hnx := List.nodup_cons.1 hn; refine (List.Perm.cons x (perm_of hnx.2 (fun y hy => ?_) ?_)).trans hp.symm
    · exact (List.mem_erase_of_ne (fun e => hnx.1 (by rw [← e]; exact hy))).2 (hs y (by simp [hy]))
    · have := List.length_erase_of_mem hx; simp only [List.length_cons] at hl
      omega
theorem prodI_perm {a b : List Int} (h : a.Perm b) : prodI a = prodI b := by
  induction h with
  | nil => rfl
  | cons x _ ih => rw [prodI_cons, prodI_cons, ih]
  | swap x y l => rw [prodI_cons, prodI_cons, prodI_cons, prodI_cons, Int.mul_left_comm]
  | trans _ _ h1 h2 => exact h1.trans h2
def permD (t : Ten) (ls : List Int) : List Int := idxAt t.l t.d ls
def permX (wd : Int) (t : Ten) (ls ds : List Int) (m : Nat) : List Int := (List.range m).flatMap fun (i : Nat) => elt t.x wd (offL t.d (idxAt ls (idxL ds i) t.l))
noncomputable def permT (k n : Int) (t : Ten) (ls : List Int) : Ten := ⟨ls, permD t ls, permX (widthI k n) t ls (permD t ls) (prodI (permD t ls)).toNat⟩
theorem permX_step (wd : Int) (t : Ten) (ls ds : List Int) (m : Nat) : permX wd t ls ds (m + 1) = permX wd t ls ds m ++ elt t.x wd (offL t.d (idxAt ls (idxL ds m) t.l)) := by
  simp [permX, List.range_succ]
theorem permD_len (t : Ten) (ls : List Int) : (permD t ls).length = ls.length := List.length_map _
structure PermOK (k p n : Int) (t : Ten) (ls : List Int) : Prop where
  ring : ringL k p n
  ten : tensorL k p n t.l t.d t.x
  perm : ls.Perm t.l
section
variable {k p n : Int} {t : Ten} {ls : List Int}
theorem PermOK.axes (h : PermOK k p n t ls) : axesL t.l t.d := tensor_axes h.ten
theorem PermOK.nodup (h : PermOK k p n t ls) : ls.Nodup := (List.Perm.nodup_iff h.perm).2 (axes_nodup h.axes)
theorem PermOK.len (h : PermOK k p n t ls) : ls.length = t.l.length ∧ t.l.length = t.d.length ∧ ls.length ≤ 12 := by
  have := h.perm.length_eq; have := h.axes; exact ⟨by omega, this.2.1, by have := this.1; omega⟩
theorem PermOK.find (h : PermOK k p n t ls) {j : Nat} (hj : j < ls.length) : 0 ≤ findI t.l (ls.getD j 0) ∧ findI t.l (ls.getD j 0) < t.d.length ∧ t.l.getD (findI t.l (ls.getD j 0)).toNat 0 = ls.getD j 0 := by
  have hm : ls.getD j 0 ∈ t.l := h.perm.mem_iff.1 (mem_getD hj); have h1 := findI_ge.2 hm; have h2 := findI_get hm; have := h.len; exact ⟨h1, by omega, h2.2⟩
theorem PermOK.dims (h : PermOK k p n t ls) : dimsIn (permD t ls) := fun j hj => by
  rw [permD_len] at hj; have hf := h.find hj; rw [permD, idxAt, map_getD hj]; exact axes_dims h.axes _ (by omega)
theorem PermOK.prod (h : PermOK k p n t ls) : prodI (permD t ls) = prodI t.d := by
  have e : t.d = idxAt t.l t.d t.l := by
    apply ext_getD (by simp [idxAt, h.axes.2.1])
    intro j hj; have hj' : j < t.l.length := by rw [h.axes.2.1]; exact hj
    rw [idxAt, map_getD hj', find_at h.axes hj', Int.toNat_natCast]
  conv => rhs; rw [e]
  exact prodI_perm (h.perm.map _)
theorem PermOK.small (h : PermOK k p n t ls) : 1 ≤ prodI (permD t ls) ∧ prodI (permD t ls) ≤ 4096 := by
  refine ⟨prodI_one fun d hd => (dims_mem h.dims d hd).1, ?_⟩; rw [h.prod]; exact (sizeI_ge.1 h.ten.2.1).2
theorem PermOK.back (h : PermOK k p n t ls) {j : Nat} (hj : j < t.l.length) : (findI ls (t.l.getD j 0)).toNat < ls.length ∧ ls.getD (findI ls (t.l.getD j 0)).toNat 0 = t.l.getD j 0 :=
  findI_get (h.perm.mem_iff.2 (mem_getD hj))
theorem PermOK.idx (h : PermOK k p n t ls) (i : Int) : idxIn t.d (idxAt ls (idxL (permD t ls) i) t.l) := by
  have hd : ∀ d ∈ permD t ls, 1 ≤ d := fun d hd => (dims_mem h.dims d hd).1; refine ⟨by simp [idxAt, h.axes.2.1], fun j hj => ?_⟩; have hj' : j < t.l.length := by rw [h.axes.2.1]; exact hj
  have hb := h.back hj'; have hv := (idxL_in hd i).2 (findI ls (t.l.getD j 0)).toNat (by rw [permD_len]; exact hb.1); rw [idxAt, map_getD hj']; rw [show (permD t ls).getD (findI ls (t.l.getD j 0)).toNat 0 = t.d.getD j 0 by
    rw [permD, idxAt, map_getD hb.1, hb.2, find_at h.axes hj', Int.toNat_natCast]] at hv
  exact hv
theorem PermOK.off (h : PermOK k p n t ls) (i : Int) : 0 ≤ offL t.d (idxAt ls (idxL (permD t ls) i) t.l) ∧ offL t.d (idxAt ls (idxL (permD t ls) i) t.l) < prodI t.d := by
  have := offL_in (fun d hd => (dims_mem (axes_dims h.axes) d hd).1) (h.idx i)
  omega
end
end Go.Proofs.YtiefkcaplhnnmaaGreatDoor
namespace Go.Proofs.YtiefkcaplhnnmaaGreatDoor
set_option maxRecDepth 100000
open Go.RowKit
theorem Made.un {a b : PH} {la lb : List PH} (ma : Made a la) (mb : Made b lb) (hd : PDj a b) : Made (PUn a b) (la ++ lb) := by
  refine ⟨sepL_append.2 ⟨ma.sep, mb.sep, fun x hx y hy => (((hd.mono (ma.le x hx)).symm).mono (mb.le y hy)).symm⟩, fun x hx => ?_, fun k o e => ?_⟩
  · rcases List.mem_append.1 hx with hx | hx
    · exact (ma.le x hx).trans (PLe.un_l _ _)
    · exact (mb.le x hx).trans (PLe.un_r hd)
  · unfold PUn at e
    split at e
    · rename_i y hy
      cases e
      obtain ⟨x, hx, hxe⟩ := ma.dom k _ hy; exact ⟨x, by simp [hx], hxe⟩
    · obtain ⟨x, hx, hxe⟩ := mb.dom k _ e; exact ⟨x, by simp [hx], hxe⟩
/-- Slices that own their cells, all in one part. -/
def OwnH (xss : List (List Int)) (vs : List Value) (h : PH) : Prop := ∃ l, OwnL xss vs l ∧ Made h l
theorem OwnH.nil : OwnH [] [] emp := ⟨[], OwnL.nil, ⟨trivial, fun x hx => by simp at hx, fun k o e => by cases e⟩⟩
theorem OwnH.snoc {ts : List Ten} {t : Ten} {vs : List Value} {a b c : Value} {h h' : PH} (o : OwnH (flat ts) vs h) (r : TriO t a b c h') (hd : PDj h h') : OwnH (flat (ts ++ [t])) (vs ++ [a, b, c]) (PUn h h') := by
  obtain ⟨l, ol, m⟩ := o; obtain ⟨h1, h2, h3, r1, r2, r3, m'⟩ := r; refine ⟨l ++ [h1, h2, h3], ?_, m.un m' hd⟩; rw [flat_append]; exact ol.append (OwnL.three r1 r2 r3)
end Go.Proofs.YtiefkcaplhnnmaaGreatDoor
namespace Go.Proofs.YtiefkcaplhnnmaaGreatDoor
set_option maxRecDepth 100000
open Go.RowKit
theorem TriO.none : TriO ⟨[], [], []⟩ (.slice none 0 0) (.slice none 0 0) (.slice none 0 0) emp :=
  ⟨emp, emp, emp, IntsO.nil, IntsO.nil, IntsO.nil, ⟨by simp [sepL, PDj.emp], fun x hx => by simp at hx; subst hx; exact PLe.emp _, fun k o e => by cases e⟩⟩
def fitP (k p n : Int) (t u : Ten) : Prop := tensorL k p n t.l t.d t.x ∧ tensorL k p n u.l u.d u.x ∧ setL t.l u.l ∧ permD u t.l = t.d
def FitR (k p n : Int) (t u : Ten) (x : Value) (h : PH) : Prop := ∃ T a b c bb, x = .tuple [tenV a b c, .bool bb].toArray ∧ TriO T a b c h ∧ (bb = true ↔ fitP k p n t u) ∧ (bb = true → T = permT k n u t.l)
theorem FitR.no {k p n : Int} {t u : Ten} (h : ¬ fitP k p n t u) : FitR k p n t u (.tuple [tenV (.slice none 0 0) (.slice none 0 0) (.slice none 0 0), .bool false].toArray) emp :=
  ⟨⟨[], [], []⟩, _, _, _, false, rfl, TriO.none, ⟨fun e => (by cases e), fun e => absurd e h⟩, fun e => (by cases e)⟩
end Go.Proofs.YtiefkcaplhnnmaaGreatDoor
namespace Go.Proofs.YtiefkcaplhnnmaaGreatDoor
set_option maxRecDepth 100000
open Go.RowKit
def dimJ (t u : Ten) (x : Int) : Int := if x ∈ t.l then t.d.getD (findI t.l x).toNat 0 else u.d.getD (findI u.l x).toNat 0
theorem map_find {ls ds : List Int} (hn : ls.Nodup) (hl : ls.length = ds.length) : ds = ls.map fun x => ds.getD (findI ls x).toNat 0 := by
  apply ext_getD
  · simp [hl]
  · intro j hj; rw [map_getD (by omega), find_at' hn (by omega)]
    simp
theorem dimJ_l {t u : Ten} (hn : t.l.Nodup) (hl : t.l.length = t.d.length) : t.d = t.l.map (dimJ t u) := by
  conv => lhs; rw [map_find hn hl]
  exact List.map_congr_left fun x hx => by simp [dimJ, hx]
theorem dimJ_r {t u : Ten} (hn : u.l.Nodup) (hl : u.l.length = u.d.length) (hm : ¬ mism t u) : u.d = u.l.map (dimJ t u) := by
  conv => lhs; rw [map_find hn hl]
  refine List.map_congr_left fun x hx => ?_
  by_cases h : x ∈ t.l
  · have hg := findI_get hx; have : ¬ (t.d.getD (findI t.l x).toNat 0 ≠ u.d.getD (findI u.l x).toNat 0) := fun hne => hm ⟨(findI u.l x).toNat, hg.1, by rw [hg.2]; exact ⟨h, hne⟩⟩; simp only [dimJ, h, if_true]
    omega
  · simp [dimJ, h]
/-- Two tensors that can be joined. -/
structure PairOK (k p n : Int) (t u : Ten) (f : Int → Int) : Prop where
  tt : tensorL k p n t.l t.d t.x
  uu : tensorL k p n u.l u.d u.x
  ht : t.d = t.l.map f
  hu : u.d = u.l.map f
  work : prodI ((joinI t.l u.l).map f) ≤ 65536
theorem ten_axes {k p n : Int} {ls ds xs : List Int} (h : tensorL k p n ls ds xs) : axesL ls ds := (sizeI_ge.1 h.2.1).1
theorem ten_prod {k p n : Int} {ls ds xs : List Int} (h : tensorL k p n ls ds xs) : prodI ds ≤ 4096 := (sizeI_ge.1 h.2.1).2
theorem PairOK.nd {k p n : Int} {t u : Ten} {f : Int → Int} (h : PairOK k p n t u f) : (joinI t.l u.l).Nodup := joinI_nodup (axes_nodup (ten_axes h.tt)) (axes_nodup (ten_axes h.uu))
theorem PairOK.dim {k p n : Int} {t u : Ten} {f : Int → Int} (h : PairOK k p n t u f) : ∀ x ∈ joinI t.l u.l, 1 ≤ f x ∧ f x ≤ 8 := fun x hx => by
  rcases mem_joinI.1 hx with hx | hx
  · exact dims_mem (axes_dims (ten_axes h.tt)) _ (by rw [h.ht]; exact List.mem_map_of_mem hx)
  · exact dims_mem (axes_dims (ten_axes h.uu)) _ (by rw [h.hu]; exact List.mem_map_of_mem hx)
theorem map_dim {f : Int → Int} {L ls : List Int} (hf : ∀ x ∈ L, 1 ≤ f x ∧ f x ≤ 8) (hs : ∀ l ∈ ls, l ∈ L) : ∀ d ∈ ls.map f, 1 ≤ d ∧ d ≤ 8 := fun d hd => by
  obtain ⟨x, hx, rfl⟩ := List.mem_map.1 hd; exact hf x (hs x hx)
def atI (f : Int → Int) (L ls : List Int) (m : Int) : Int := dotL (stepsL L ls (ls.map f)) (idxL (L.map f) m)
theorem at_in {f : Int → Int} {L ls : List Int} (hn : L.Nodup) (hl : ls.Nodup) (hs : ∀ l ∈ ls, l ∈ L) (hf : ∀ x ∈ L, 1 ≤ f x ∧ f x ≤ 8) (m : Int) : 0 ≤ atI f L ls m ∧ atI f L ls m < prodI (ls.map f) := by
  have hd : ∀ d ∈ L.map f, 1 ≤ d := fun d hd => (map_dim hf (fun _ h => h) d hd).1; have hd2 : ∀ d ∈ ls.map f, 1 ≤ d := fun d hd => (map_dim hf hs d hd).1; have hi := idxL_in hd m; have ho := offL_in (ds := ls.map f) (is := idxAt L (idxL (L.map f) m) ls) hd2 ⟨by simp [idxAt], fun j hj => by
    have hj' : j < ls.length := by simpa using hj
    have hm := hs _ (mem_getD hj'); have hg := findI_get hm; have := hi.2 (findI L (ls.getD j 0)).toNat (by simpa using hg.1); rw [map_getD hg.1, hg.2] at this; rw [idxAt, map_getD hj', map_getD hj']; exact this⟩
  have e : atI f L ls m = offL (ls.map f) (idxAt L (idxL (L.map f) m) ls) := by
    unfold atI dotL; rw [stepsL_len]; exact dot_off hn (by simp) hl hs
  omega
def AllR (k p n P : Int) (xs : List Int) : Prop := (xs.length : Int) = P * widthI k n ∧ ∀ a ∈ xs, 0 ≤ a ∧ a ≤ topI k p n
theorem mul_room {P w i : Int} (hw : 0 ≤ w) (h0 : 0 ≤ i) (h1 : i < P) : 0 ≤ i * w ∧ i * w + w ≤ P * w := by
  have h2 := Int.mul_le_mul_of_nonneg_right (show i + 1 ≤ P by omega) hw; rw [Int.add_mul, Int.one_mul] at h2; exact ⟨Int.mul_nonneg h0 hw, h2⟩
theorem AllR.el {k p n P : Int} {xs : List Int} (h : AllR k p n P xs) (hr : ringL k p n) {i : Int} (h0 : 0 ≤ i) (h1 : i < P) : InR k p n (elt xs (widthI k n) i) := by
  have hw := width_range hr; have hm := mul_room (show 0 ≤ widthI k n by omega) h0 h1; have hl := h.1; refine ⟨?_, fun a ha => h.2 a (elt_mem ha)⟩; simp only [elt, List.length_take, List.length_drop]
  omega
theorem AllR.put {k p n P : Int} {xs ys : List Int} (h : AllR k p n P xs) (hr : ringL k p n) {i : Int} (h0 : 0 ≤ i) (h1 : i < P) (hy : InR k p n ys) : AllR k p n P (putL xs (i * widthI k n).toNat ys) := by
  have hw := width_range hr; have hm := mul_room (show 0 ≤ widthI k n by omega) h0 h1; have hl := h.1; have hyl := hy.1; refine ⟨by rw [putL_len (by omega)]; exact hl, fun a ha => ?_⟩; simp only [putL, List.mem_append] at ha
  rcases ha with (ha | ha) | ha
  · exact h.2 a (List.mem_of_mem_take ha)
  · exact hy.2 a ha
  · exact h.2 a (List.mem_of_mem_drop ha)
theorem flat_rep_len (z : List Int) : ∀ m : Nat, ((List.replicate m z).flatten).length = m * z.length
  | 0 => by simp
  | m + 1 => by rw [List.replicate_succ, List.flatten_cons, List.length_append, flat_rep_len z m, Nat.add_mul, Nat.one_mul]; omega
theorem zeroL_in {k p n : Int} (h : ringL k p n) : InR k p n (zeroL k p n) := by
  have ht := top_range h; refine ⟨zeroL_len k p n, fun a ha => ?_⟩
  unfold zeroL at ha
  split at ha
  · rename_i h4
    have := top_cap h (.inr (.inl h4))
    simp at ha; omega
  · have := List.eq_of_mem_replicate ha; omega
theorem AllR.zero {k p n P : Int} (hr : ringL k p n) (hP : 0 ≤ P) : AllR k p n P (List.replicate P.toNat (zeroL k p n)).flatten := by
  have hw := width_range hr; have hz := zeroL_in hr; refine ⟨?_, fun a ha => ?_⟩
  · rw [flat_rep_len, hz.1, Int.natCast_mul]; rw [show ((P.toNat : Nat) : Int) = P by omega, show (((widthI k n).toNat : Nat) : Int) = widthI k n by omega]
  · obtain ⟨l, hl, ha⟩ := List.mem_flatten.1 ha; rw [List.eq_of_mem_replicate hl] at ha; exact hz.2 a ha
noncomputable def pairX (k p n : Int) (f : Int → Int) (t u : Ten) (K : List Int) : Nat → List Int
  | 0 => (List.replicate (prodI (K.map f)).toNat (zeroL k p n)).flatten
  | m + 1 => putL (pairX k p n f t u K m) (atI f (joinI t.l u.l) K m * widthI k n).toNat
      (addL k p (elt (pairX k p n f t u K m) (widthI k n) (atI f (joinI t.l u.l) K m))
        (mulL k p n (elt t.x (widthI k n) (atI f (joinI t.l u.l) t.l m)) (elt u.x (widthI k n) (atI f (joinI t.l u.l) u.l m))))
noncomputable def pairT (k p n : Int) (f : Int → Int) (t u : Ten) (K : List Int) : Ten := ⟨K, K.map f, pairX k p n f t u K (prodI ((joinI t.l u.l).map f)).toNat⟩
structure KeepOK (t u : Ten) (f : Int → Int) (K : List Int) : Prop where
  sub : ∀ l ∈ K, l ∈ joinI t.l u.l
  nd : K.Nodup
  small : prodI (K.map f) ≤ 4096
section
variable {k p n : Int} {t u : Ten} {f : Int → Int} {K : List Int} (h : PairOK k p n t u f) (hk : KeepOK t u f K)
include h hk
theorem PairOK.at_k (m : Int) : 0 ≤ atI f (joinI t.l u.l) K m ∧ atI f (joinI t.l u.l) K m < prodI (K.map f) := at_in h.nd hk.nd hk.sub h.dim m
theorem PairOK.pos_k : 1 ≤ prodI (K.map f) := prodI_one fun d hd => (map_dim h.dim hk.sub d hd).1
omit hk in
theorem PairOK.at_t (m : Int) : 0 ≤ atI f (joinI t.l u.l) t.l m ∧ atI f (joinI t.l u.l) t.l m < prodI t.d := by
  have := at_in h.nd (axes_nodup (ten_axes h.tt)) (fun l hl => mem_joinI.2 (.inl hl)) h.dim m
  rwa [← h.ht] at this
omit hk in
theorem PairOK.at_u (m : Int) : 0 ≤ atI f (joinI t.l u.l) u.l m ∧ atI f (joinI t.l u.l) u.l m < prodI u.d := by
  have := at_in h.nd (axes_nodup (ten_axes h.uu)) (fun l hl => mem_joinI.2 (.inr hl)) h.dim m
  rwa [← h.hu] at this
omit hk in
theorem PairOK.el_t (m : Int) : InR k p n (elt t.x (widthI k n) (atI f (joinI t.l u.l) t.l m)) := elt_inR h.tt (h.at_t m).1 (h.at_t m).2
omit hk in
theorem PairOK.el_u (m : Int) : InR k p n (elt u.x (widthI k n) (atI f (joinI t.l u.l) u.l m)) := elt_inR h.uu (h.at_u m).1 (h.at_u m).2
theorem PairOK.all : ∀ m : Nat, AllR k p n (prodI (K.map f)) (pairX k p n f t u K m)
  | 0 => AllR.zero h.tt.1 (by have := h.pos_k hk; omega)
  | m + 1 => (PairOK.all m).put h.tt.1 (h.at_k hk m).1 (h.at_k hk m).2 (addL_in h.tt.1 ((PairOK.all m).el h.tt.1 (h.at_k hk m).1 (h.at_k hk m).2) (mulL_in h.tt.1 (h.el_t m) (h.el_u m)))
theorem PairOK.small (m : Nat) : (pairX k p n f t u K m).length ≤ 24576 := by
  have hw := width_range h.tt.1; have := (h.all hk m).1; have h3 : prodI (K.map f) * widthI k n ≤ 4096 * 6 := Int.mul_le_mul hk.small hw.2 (by omega) (by omega)
  omega
theorem PairOK.fits (m : Nat) : atI f (joinI t.l u.l) K m * widthI k n + widthI k n ≤ (pairX k p n f t u K m).length := by
  have hw := width_range h.tt.1; have := (h.all hk m).1; have := (mul_room (show 0 ≤ widthI k n by omega) (h.at_k hk m).1 (h.at_k hk m).2).2
  omega
end
end Go.Proofs.YtiefkcaplhnnmaaGreatDoor
namespace Go.Proofs.YtiefkcaplhnnmaaGreatDoor
set_option maxRecDepth 100000
open Go.RowKit
theorem ct_L_markTensor (t : Ten) (a b c : Value) (k : Int) (w : World) (h : PH) (hle : PLe h (hp w)) (r : TriO t a b c h) (hk : 0 ≤ k ∧ k + tenSize t ≤ 4611686018427387904) :
    Calls Tryz.prog 54 [tenV a b c, num k].toArray w (Ret w h (TenM a b c k (k + tenSize t))) := by
  obtain ⟨h1, h2, h3, r1, r2, r3, md⟩ := r
  unfold tenSize at hk
  have hent : Sat w [h1, h2, h3, restP w h] w := by
    have s1 := Sat.open (A := [restP w h]) md (Sat.start2 hle); exact s1.pick [1, 2, 3, 0] (by decide) rfl
  refine calls_in Tryz.func54 rfl Tryz.ntmps54 rfl hent (wp_sc (wp_sq ?_)); refine sq_x rfl (x_box rfl rfl) rfl ?_; rintro _ _ ⟨b2, rfl, rfl⟩; refine sq_v rfl (v_assign rfl) rfl (sq_end (qs_n (wp_sc (wp_sq (sq_v rfl (v_fieldAddr fd_42_0 ty_25 (by decide) rfl) rfl (sq_v rfl (v_loadB 0 ty_25 rfl rfl rfl) rfl (sq_v rfl (v_move rfl) rfl ?_))))))); refine sq_m 1 rfl rfl (x_call rfl en_52 (fun w s => ct_l_markIntS t.l _ _ w _ (s.get 1 rfl) r1 (by omega))) rfl ?_; rintro _ h8 ⟨rfl, r8⟩; refine sq_v rfl (v_assign rfl) rfl (sq_end (qs_n (wp_sc (wp_sq (sq_v rfl (v_fieldAddr fd_42_1 ty_25 (by decide) rfl) rfl (sq_v rfl (v_loadB 0 ty_25 rfl rfl rfl) rfl (sq_v rfl (v_move rfl) rfl ?_))))))); refine sq_m 2 rfl rfl (x_call rfl en_52 (fun w s => ct_l_markIntS t.d _ _ w _ (s.get 2 rfl) r2 (by omega))) rfl ?_; rintro _ h12 ⟨rfl, r12⟩; refine sq_v rfl (v_assign rfl) rfl (sq_end (qs_n (wp_sc (wp_sq (sq_v rfl (v_fieldAddr fd_42_2 ty_25 (by decide) rfl) rfl (sq_v rfl (v_loadB 0 ty_25 rfl rfl rfl) rfl (sq_v rfl (v_move rfl) rfl ?_))))))); refine sq_m 3 rfl rfl (x_call rfl en_52 (fun w s => ct_l_markIntS t.x _ _ w _ (s.get 3 rfl) r3 (by omega))) rfl ?_; rintro _ h16 ⟨rfl, r16⟩; refine sq_v rfl (v_assign rfl) rfl (sq_end (qs_n (wp_sc (wp_sq (sq_v rfl (v_move rfl) rfl (sq_v rfl (v_assign rfl) rfl (sq_end (qs_n (wp_rt ?_))))))))); refine qs_close [restP w h] [h8, h12, h16] (fun _ s => s.pick [4, 1, 2, 3] (by decide) rfl) (fun md' => ?_); exact qs_ret1 rfl rfl (fin_m (i := 1) 0 rfl rfl rfl ⟨by congr 1; unfold tenSize; omega, ⟨_, _, _⟩, ⟨h8, h12, h16, r8, r12, r16, md'⟩, held_three k _ _ _ (by unfold tenSize; omega)⟩)
theorem ct_L_heldTensor (t : Ten) (a b c : Value) (k k' : Int) (w : World) (r1 : IntsR t.l a (hp w)) (r2 : IntsR t.d b (hp w)) (r3 : IntsR t.x c (hp w)) (hh : HeldL k [t.l, t.d, t.x] k') (hk : 0 ≤ k ∧ k' ≤ 4611686018427387904) :
    Calls Tryz.prog 57 [tenV a b c, num k].toArray w (RetV w (num k')) := by
  obtain ⟨g1, g2, g3, g4⟩ := hh; have g4 : k + t.l.length + t.d.length + t.x.length = k' := g4; refine calls_in Tryz.func57 rfl Tryz.ntmps57 rfl (Sat.start w) (wp_sc (wp_sq ?_)); refine sq_x rfl (x_box rfl rfl) rfl ?_; rintro _ _ ⟨b2, rfl, rfl⟩; refine sq_v rfl (v_assign rfl) rfl (sq_end (qs_n (wp_sc (wp_sq (sq_v rfl (v_fieldAddr fd_42_0 ty_25 (by decide) rfl) rfl (sq_v rfl (v_loadB 0 ty_25 rfl rfl rfl) rfl (sq_v rfl (v_move rfl) rfl (sq_u rfl (x_callv rfl en_55 (fun w s => ct_l_heldIntS _ _ _ w (r1.mono (s.get 1 rfl)) g1 (by omega))) rfl (sq_v rfl (v_assign rfl) rfl (sq_end (qs_n (wp_sc (wp_sc (wp_sq (sq_v rfl (v_move rfl) rfl (sq_v rfl (v_lss rfl rfl) rfl (sq_end (qs_n ?_)))))))))))))))))); refine wp_cd rfl (fun c10 => ?_) (fun c10 => ?_)
  · refine wp_sc (wp_sq (sq_v rfl (v_assign rfl) rfl (sq_end (qs_n (wp_rt (qs_r ?_)))))); exact absurd c10 (by omega)
  · refine wp_sk (qs_n (wp_sc (wp_sq (sq_v rfl (v_fieldAddr fd_42_1 ty_25 (by decide) rfl) rfl (sq_v rfl (v_loadB 0 ty_25 rfl rfl rfl) rfl (sq_v rfl (v_move rfl) rfl (sq_u rfl (x_callv rfl en_55 (fun w s => ct_l_heldIntS _ _ _ w (r2.mono (s.get 1 rfl)) g2 (by omega))) rfl (sq_v rfl (v_assign rfl) rfl (sq_end (qs_n (wp_sc (wp_sc (wp_sq (sq_v rfl (v_move rfl) rfl (sq_v rfl (v_lss rfl rfl) rfl (sq_end (qs_n ?_))))))))))))))))); refine wp_cd rfl (fun c16 => ?_) (fun c16 => ?_)
    · refine wp_sc (wp_sq (sq_v rfl (v_assign rfl) rfl (sq_end (qs_n (wp_rt (qs_r ?_)))))); exact absurd c16 (by omega)
    · refine wp_sk (qs_n (wp_sc (wp_sq (sq_v rfl (v_fieldAddr fd_42_2 ty_25 (by decide) rfl) rfl (sq_v rfl (v_loadB 0 ty_25 rfl rfl rfl) rfl (sq_v rfl (v_move rfl) rfl (sq_u rfl (x_callv rfl en_55 (fun w s => ct_l_heldIntS _ _ _ w (r3.mono (s.get 1 rfl)) g3 (by omega))) rfl (sq_v rfl (v_assign rfl) rfl (sq_end (qs_n (wp_sc (wp_sc (wp_sq (sq_v rfl (v_move rfl) rfl (sq_v rfl (v_lss rfl rfl) rfl (sq_end (qs_n ?_))))))))))))))))); refine wp_cd rfl (fun c22 => ?_) (fun c22 => ?_)
      · refine wp_sc (wp_sq (sq_v rfl (v_assign rfl) rfl (sq_end (qs_n (wp_rt (qs_r ?_)))))); exact absurd c22 (by omega)
      · refine wp_sk (qs_n (wp_sc (wp_sq (sq_v rfl (v_move rfl) rfl (sq_v rfl (v_assign rfl) rfl (sq_end (qs_n (wp_rt ?_)))))))); exact qs_ret1 rfl rfl (fin_q (i := 1) rfl (by rw [g4]))
def TenB (t : Ten) (b : Bool) (x : Value) (h : PH) : Prop := ∃ va vb vc, x = .tuple [tenV va vb vc, .bool b].toArray ∧ TriO t va vb vc h
end Go.Proofs.YtiefkcaplhnnmaaGreatDoor
namespace Go.Proofs.YtiefkcaplhnnmaaGreatDoor
set_option maxRecDepth 100000
open Go.RowKit
def keepL (t u : Ten) (ks : List Int) : List Int := (joinI t.l u.l).filter fun x => decide (x ∈ ks)
def pairP (k p n : Int) (t u : Ten) (ks : List Int) : Prop := tensorL k p n t.l t.d t.x ∧ tensorL k p n u.l u.d u.x ∧ ¬ mism t u ∧ prodI (joinD t u) ≤ 65536 ∧ 0 ≤ sizeI (keepL t u ks) ((keepL t u ks).map (dimJ t u))
open Classical in
noncomputable def pairR (k p n : Int) (t u : Ten) (ks : List Int) : Ten := if pairP k p n t u ks then pairT k p n (dimJ t u) t u (keepL t u ks) else ⟨[], [], []⟩
theorem pairP.dims {k p n : Int} {t u : Ten} (h1 : tensorL k p n t.l t.d t.x) (h2 : tensorL k p n u.l u.d u.x) (h3 : ¬ mism t u) : t.d = t.l.map (dimJ t u) ∧ u.d = u.l.map (dimJ t u) ∧ joinD t u = (joinI t.l u.l).map (dimJ t u) := by
  have e1 := dimJ_l (u := u) (axes_nodup (ten_axes h1)) (ten_axes h1).2.1; have e2 := dimJ_r (axes_nodup (ten_axes h2)) (ten_axes h2).2.1 h3; exact ⟨e1, e2, joinD_map e1 e2⟩
theorem pair_ok {k p n : Int} {t u : Ten} (h1 : tensorL k p n t.l t.d t.x) (h2 : tensorL k p n u.l u.d u.x) (h3 : ¬ mism t u) (h4 : prodI (joinD t u) ≤ 65536) : PairOK k p n t u (dimJ t u) := by
  have e := pairP.dims h1 h2 h3; exact ⟨h1, h2, e.1, e.2.1, by rw [← e.2.2]; exact h4⟩
theorem keep_ok {k p n : Int} {t u : Ten} {ks : List Int} (ok : PairOK k p n t u (dimJ t u)) (h : 0 ≤ sizeI (keepL t u ks) ((keepL t u ks).map (dimJ t u))) : KeepOK t u (dimJ t u) (keepL t u ks) :=
  ⟨fun _ hl => (List.mem_filter.1 hl).1, List.Pairwise.filter _ ok.nd, (sizeI_ge.1 h).2⟩
theorem selP_prod (p : Int → Bool) : ∀ ls ds : List Int, (∀ d ∈ ds, 1 ≤ d) → 1 ≤ prodI (selP p ls ds) ∧ prodI (selP p ls ds) ≤ prodI ds
  | [], ds, h => by
    have := prodI_one h
    cases ds <;> simp [selP, prodI] at * <;> omega
  | l :: ls, [], _ => by simp [selP, prodI]
  | l :: ls, d :: ds, h => by
    have ih := selP_prod p ls ds (fun x hx => h x (by simp [hx])); have hd := h d (by simp); simp only [selP]; have h1 : 1 * prodI ds ≤ d * prodI ds := Int.mul_le_mul_of_nonneg_right hd (by omega)
    split
    · rw [prodI_cons, prodI_cons]; have h2 : d * prodI (selP p ls ds) ≤ d * prodI ds := Int.mul_le_mul_of_nonneg_left ih.2 (by omega); have h3 : 1 * 1 ≤ d * prodI (selP p ls ds) := Int.mul_le_mul hd ih.1 (by omega) (by omega)
      omega
    · rw [prodI_cons]; omega
end Go.Proofs.YtiefkcaplhnnmaaGreatDoor
namespace Go.Proofs.YtiefkcaplhnnmaaGreatDoor
set_option maxRecDepth 100000
open Go.RowKit
section
variable (P : Program) (n : Nat) (w0 : World)
def RAK (ops : Array Oper) (m : Nat) (Q : Exit → Act → World → Prop) (f : Nat) (listed : Array Bool) (K : Env) (HS HK : List PH) : Prop :=
  WkL HS HK → HeadInv .any ops m listed → (Region.noSelect ops && tailOK ops m) = true → ∀ (a : Act) (w : World), EnvOK n K a → Sat w0 HS w → RAny P ops Q (Sat w0 HK) m f listed a w
def ROK (ops : Array Oper) (m : Nat) (Q : Exit → Act → World → Prop) (f : Nat) (i : Nat) (listed : Array Bool) (K : Env) (HS HK : List PH) : Prop :=
  WkL HS HK → HeadInv .any ops m (listed.setIfInBounds i true) → (Region.noSelect ops && tailOK ops m) = true → ∀ (a : Act) (w : World), EnvOK n K a → Sat w0 HS w →
    wpOp P ops (OnlyN Q) i (fun a' w' => (i < m → Sat w0 HK w') ∧ RAny P ops Q (Sat w0 HK) m f (listed.setIfInBounds i true) a' w') a w
end
section
variable {P : Program} {n : Nat} {w0 : World} {K : Env} {HS HK : List PH} {Q : Exit → Act → World → Prop} {ops : Array Oper} {m f : Nat} {listed : Array Bool}
theorem rak_of (h : RAK P n w0 ops m Q f listed K HS HS) : RA P n w0 ops m Q f listed K HS := fun inv ht a w e s => h (WkL.refl HS) inv ht a w e s
theorem rak_yield {i : Nat} {oi : Oper} {v : Value} (hc : (decide (i < m) && (Region.ready .any ops listed).contains i && Region.free .any ops listed i) = true) (hi : ops[i]? = some oi) (hy : ∀ a, EnvOK n K a → YieldsIf P ops (Sat w0 HK) oi v a) (hf : fitsK n oi.dst = true)
    (k : RAK P n w0 ops m Q f (listed.setIfInBounds i true) (putK oi.dst v K) HS HK) : RAK P n w0 ops m Q (f + 1) listed K HS HK := fun hwk inv ht a w e s => by
  simp only [Bool.and_eq_true, decide_eq_true_eq] at hc; obtain ⟨⟨him, hr⟩, hfr⟩ := hc; have hr' : i ∈ Region.ready .any ops listed := by simpa using hr
  have ht' := ht; rw [Bool.and_eq_true] at ht'; exact rany_first hi (Region.noSelect_spec ht'.1) him ht'.2 _ listed a w inv (Region.free_spec hi hfr) hr' (hy a e) (hwk.sat s)
    (k hwk (inv.set hr' him) ht _ _ (e.put v hf) s)
theorem rak_v {i : Nat} {oi : Oper} {v : Value} (hc : (decide (i < m) && (Region.ready .any ops listed).contains i && Region.free .any ops listed i) = true) (hi : ops[i]? = some oi) (hw : wantK ops K oi.guard = some true) (hv : StepV P n w0 K HK oi v) (hf : fitsK n oi.dst = true)
    (k : RAK P n w0 ops m Q f (listed.setIfInBounds i true) (putK oi.dst v K) HS HK) : RAK P n w0 ops m Q (f + 1) listed K HS HK :=
  rak_yield hc hi (fun a e => .inl ⟨e.wanted hw, fun w s => hv a w e s⟩) hf k
theorem rak_alts {l : List Nat} (hc : (decide (Region.ready .any ops listed = l) && (l.all fun i => decide (i < m)) && !l.isEmpty) = true) (k : ∀ i ∈ l, ROK P n w0 ops m Q f i listed K HS HK) : RAK P n w0 ops m Q (f + 1) listed K HS HK := fun hwk inv ht a w e s => by
  simp only [Bool.and_eq_true, decide_eq_true_eq, List.all_eq_true, Bool.not_eq_true'] at hc; obtain ⟨⟨hr, hm⟩, hne⟩ := hc; refine ⟨fun h0 => (by rw [hr] at h0; rw [h0] at hne; cases hne), fun j hj => ?_⟩; have hj' := hj; rw [hr] at hj; exact k j hj hwk (inv.set hj' (hm j hj)) ht a w e s
theorem rak_2 {i j : Nat} (hc : (decide (Region.ready .any ops listed = [i, j]) && ([i, j].all fun i => decide (i < m)) && !([i, j] : List Nat).isEmpty) = true) (k1 : ROK P n w0 ops m Q f i listed K HS HK) (k2 : ROK P n w0 ops m Q f j listed K HS HK) : RAK P n w0 ops m Q (f + 1) listed K HS HK :=
  rak_alts hc (fun x hx => by simp only [List.mem_cons, List.not_mem_nil, or_false] at hx; rcases hx with rfl | rfl <;> assumption)
theorem rok_x {i : Nat} {oi : Oper} {T : Value → PH → Prop} (hi : ops[i]? = some oi) (hw : wantK ops K oi.guard = some true) (hx : StepX P n w0 K HS oi emp T) (hf : fitsK n oi.dst = true)
    (k : ∀ v h', T v h' → RAK P n w0 ops m Q f (listed.setIfInBounds i true) (putK oi.dst v K) (h' :: HS) (h' :: HK)) : ROK P n w0 ops m Q f i listed K HS HK := fun hwk inv ht a w e s => by
  unfold wpOp
  simp only [hi]; rw [if_pos (e.wanted hw)]; refine .inl (Oper.wp_imp (hx a w e s) (fun a' w' ⟨v, h', ha, u, ht'⟩ => ?_) (fun _ _ _ f => f.elim)); subst ha; exact ⟨fun _ => hwk.sat (s.same u), rany_mono (fun _ t => t.drop) _ _ _ _ (k v h' ht' ⟨.inl rfl, hwk⟩ inv ht _ _ (e.put v hf) (s.new u))⟩
/-- What is made here may be turned ahead of the tail: nothing hoisted looks at it. -/
theorem rok_xb {i : Nat} {oi : Oper} {T : Value → PH → Prop} (hi : ops[i]? = some oi) (hw : wantK ops K oi.guard = some true) (hx : StepX P n w0 K HS oi emp T) (hf : fitsK n oi.dst = true)
    (k : ∀ v h', T v h' → RAK P n w0 ops m Q f (listed.setIfInBounds i true) (putK oi.dst v K) (h' :: HS) (emp :: HK)) : ROK P n w0 ops m Q f i listed K HS HK := fun hwk inv ht a w e s => by
  unfold wpOp
  simp only [hi]; rw [if_pos (e.wanted hw)]; refine .inl (Oper.wp_imp (hx a w e s) (fun a' w' ⟨v, h', ha, u, ht'⟩ => ?_) (fun _ _ _ f => f.elim)); subst ha; exact ⟨fun _ => hwk.sat (s.same u), rany_mono (fun _ t => t.drop) _ _ _ _ (k v h' ht' ⟨.inr rfl, hwk⟩ inv ht _ _ (e.put v hf) (s.new u))⟩
theorem rk_xb {r : List (Nat × Bool)} {i : Nat} {oi : Oper} {T : Value → PH → Prop} (hi : ops[i]? = some oi) (hw : wantK ops K oi.guard = some true) (hx : StepX P n w0 K HS oi emp T) (hf : fitsK n oi.dst = true)
    (k : ∀ v h', T v h' → RK P n w0 ops m Q r (listed.setIfInBounds i true) (putK oi.dst v K) (h' :: HS) (emp :: HK)) : RK P n w0 ops m Q ((i, false) :: r) listed K HS HK :=
  rk_only hi fun h1 h2 _ h4 h5 hwk a w e s => by
    unfold wpOp
    simp only [hi]; rw [if_pos (e.wanted hw)]; refine .inl (Oper.wp_imp (hx a w e s) (fun a' w' ⟨v, h', ha, u, ht⟩ => ?_) (fun _ _ _ f => f.elim)); subst ha; exact ⟨fun _ => hwk.sat (s.same u), rany_mono (fun _ t => t.drop) _ _ _ _ (k v h' ht ⟨.inr rfl, hwk⟩ (fun i' s' r' e' hlt => h5 (h1 i' s' r' e' hlt)) h2 h4 _ _ (e.put v hf) (s.new u))⟩
theorem rak_rk (order : List (Nat × Bool)) (hc : chk ops m order listed = true) (hl : f = order.length) (h : RK P n w0 ops m Q order listed K HS HK) : RAK P n w0 ops m Q f listed K HS HK := fun hwk inv ht a w e s => by
  rw [hl]; exact h hwk (fun _ _ _ _ _ => inv) hc ht a w e s
end
end Go.Proofs.YtiefkcaplhnnmaaGreatDoor
namespace Go.Proofs.YtiefkcaplhnnmaaGreatDoor
set_option maxRecDepth 100000
open Go.RowKit
def oneT (k p n : Int) : Ten := ⟨[], [], oneL k p n⟩
theorem one_ten {k p n : Int} (h : ringL k p n) : tensorL k p n (oneT k p n).l (oneT k p n).d (oneT k p n).x := by
  have hs : sizeI [] [] = 1 := by
    have : axesL [] [] := ⟨by decide, rfl, fun j hj => by simp at hj⟩
    rw [sizeI_yes this (by decide)]; rfl
  have ho := oneL_in h; have hw := width_range h; refine ⟨h, by simp only [oneT]; omega, ?_, ho.2⟩; have := ho.1; simp only [oneT]; rw [hs]
  omega
theorem one_mism (k p n : Int) (t : Ten) : ¬ mism t (oneT k p n) := by
  rintro ⟨i, hi, _⟩
  simp [oneT] at hi
theorem one_joinD (k p n : Int) (t : Ten) : joinD t (oneT k p n) = t.d := by simp [joinD, oneT, selP]
theorem keep_axes {k p n : Int} {t u : Ten} {f : Int → Int} {K : List Int} (ok : PairOK k p n t u f) (hs : ∀ l ∈ K, l ∈ joinI t.l u.l) (hn : K.Nodup) (h12 : K.length ≤ 12) : axesL K (K.map f) := by
  refine ⟨h12, by simp, fun j hj => ⟨?_, ?_, nodup_not_take hn hj⟩⟩
  · rcases mem_joinI.1 (hs _ (mem_getD hj)) with h | h
    · obtain ⟨i, hi, e⟩ := getD_of_mem h; rw [← e]; exact ((ten_axes ok.tt).2.2 i hi).1
    · obtain ⟨i, hi, e⟩ := getD_of_mem h; rw [← e]; exact ((ten_axes ok.uu).2.2 i hi).1
  · rw [map_getD hj]; exact ok.dim _ (hs _ (mem_getD hj))
theorem sum_pair {k p n : Int} {t : Ten} (h : tensorL k p n t.l t.d t.x) (ks : List Int) : pairP k p n t (oneT k p n) ks := by
  have h1 := one_ten h.1; have hm := one_mism k p n t; have hp := ten_prod h; have ok := pair_ok h h1 hm (by rw [one_joinD]; omega); have hd := pairP.dims h h1 hm; have ej := hd.2.2; refine ⟨h, h1, hm, by rw [one_joinD]; omega, sizeI_ge.2 ⟨keep_axes ok (fun l hl => (List.mem_filter.1 hl).1) (List.Pairwise.filter _ ok.nd) ?_, ?_⟩⟩
  · have h1 := List.length_filter_le (fun x => decide (x ∈ ks)) (joinI t.l (oneT k p n).l); have h2 := joinI_len t.l (oneT k p n).l; have h3 := (ten_axes h).1; have h4 : (oneT k p n).l.length = 0 := rfl
    unfold keepL
    omega
  · have hs := selP_prod (fun x => decide (x ∈ ks)) (joinI t.l (oneT k p n).l) (joinD t (oneT k p n)) (by rw [one_joinD]; exact fun d hd => (dims_mem (axes_dims (ten_axes h)) d hd).1); rw [ej, selP_map, ← ej, one_joinD] at hs; exact Int.le_trans hs.2 hp
open Classical in
noncomputable def sumR (k p n : Int) (t : Ten) (ks : List Int) : Ten := if tensorL k p n t.l t.d t.x then pairT k p n (dimJ t (oneT k p n)) t (oneT k p n) (keepL t (oneT k p n) ks) else ⟨[], [], []⟩
theorem sumR_pair {k p n : Int} {t : Ten} {ks : List Int} (h : tensorL k p n t.l t.d t.x) : pairR k p n t (oneT k p n) ks = sumR k p n t ks := by
  rw [sumR, if_pos h, pairR, if_pos (sum_pair h ks)]
end Go.Proofs.YtiefkcaplhnnmaaGreatDoor
namespace Go.Proofs.YtiefkcaplhnnmaaGreatDoor
set_option maxRecDepth 100000
open Go.RowKit
theorem two_off : ∀ {l : List Nat} (_ : l.Nodup) {a b : Nat}, a ∈ l → b ∈ l → a ≠ b → (l.filter fun i => decide (i ≠ a ∧ i ≠ b)).length + 2 = l.length := by
  intro l hn a b ha hb hab; have hp := List.perm_cons_erase ha; have hb' : b ∈ l.erase a := (List.mem_erase_of_ne (Ne.symm hab)).2 hb; have hp2 := List.perm_cons_erase hb'; have hn2 : (l.erase a).Nodup := hn.erase a; have e : l.filter (fun i => decide (i ≠ a ∧ i ≠ b)) = (l.erase a).erase b := by
    rw [List.Nodup.erase_eq_filter hn a, List.Nodup.erase_eq_filter (List.Pairwise.filter _ hn) b, List.filter_filter]
    apply List.filter_congr
    intro i _; rw [Bool.eq_iff_iff]
    simp [and_comm]
  have h1 := hp.length_eq; have h2 := hp2.length_eq; simp only [List.length_cons] at h1 h2; rw [e]
  omega
theorem step_count {op : List Int} {s : Sh} (h : s.ok) {a b : Nat} (ha : a ∈ s.ixs) (hb : b ∈ s.ixs) (hab : a ≠ b) : (s.step op a b).ixs.length + 1 = s.ixs.length := by
  have := two_off (ixs_nodup s) ha hb hab; rw [step_ixs h, List.length_append, List.length_singleton]
  omega
theorem steps_count {op : List Int} {s : Sh} (h : s.fine) {ss : List Stp} (hok : okSteps op s ss) : ∀ i, i ≤ ss.length → (shTo op s (ss.take i)).ixs.length + i = s.ixs.length
  | 0, _ => by simp [shTo]
  | i + 1, hi => by
    have ih := steps_count h hok i (by omega); have hx : ss[i]? = some ss[i] := List.getElem?_eq_getElem (by omega); have hst := stepOk_at hok hx; have h1 := live_ixs.1 hst.1; have h2 := live_ixs.1 hst.2.1; rw [shTo_step hx]; have := step_count (op := op) (shTo_fine h (ss.take i)).1 h1.2 h2.2 (by have := hst.2.2; omega)
    omega
end Go.Proofs.YtiefkcaplhnnmaaGreatDoor
namespace Go.Proofs.YtiefkcaplhnnmaaGreatDoor
set_option maxRecDepth 100000
open Go.RowKit
abbrev noTen : Ten := ⟨[], [], []⟩
theorem dimJ_f {t u : Ten} {f : Int → Int} (ht : t.d = t.l.map f) (hu : u.d = u.l.map f) {x : Int} (hx : x ∈ joinI t.l u.l) : dimJ t u x = f x := by
  unfold dimJ
  by_cases h : x ∈ t.l
  · rw [if_pos h, ht, map_getD (findI_get h).1, (findI_get h).2]
  · have h2 := (mem_joinI.1 hx).resolve_left h; rw [if_neg h, hu, map_getD (findI_get h2).1, (findI_get h2).2]
theorem keep_map {t u : Ten} {f : Int → Int} (ht : t.d = t.l.map f) (hu : u.d = u.l.map f) (ks : List Int) : (keepL t u ks).map (dimJ t u) = (keepL t u ks).map f :=
  List.map_congr_left fun _ hx => dimJ_f ht hu (List.mem_filter.1 hx).1
theorem pair_ten {k p n : Int} {t u : Ten} {ks : List Int} (h : pairP k p n t u ks) : tensorL k p n (pairR k p n t u ks).l (pairR k p n t u ks).d (pairR k p n t u ks).x ∧ (pairR k p n t u ks).l = keepL t u ks ∧ (pairR k p n t u ks).d = (keepL t u ks).map (dimJ t u) := by
  have ok := pair_ok h.1 h.2.1 h.2.2.1 h.2.2.2.1; have hk := keep_ok ok h.2.2.2.2; have ha := ok.all hk (prodI ((joinI t.l u.l).map (dimJ t u))).toNat; have hs := sizeI_ge.1 h.2.2.2.2; rw [pairR, if_pos h]; refine ⟨⟨h.1.1, h.2.2.2.2, ?_, ha.2⟩, rfl, rfl⟩
  show ((pairX k p n (dimJ t u) t u (keepL t u ks) _).length : Int) = sizeI (keepL t u ks) ((keepL t u ks).map (dimJ t u)) * widthI k n
  rw [sizeI_yes hs.1 hs.2]; exact ha.1
theorem keepL_self {t u : Ten} {q : Int → Bool} : keepL t u ((joinI t.l u.l).filter q) = (joinI t.l u.l).filter q := by
  unfold keepL
  refine List.filter_congr fun x hx => ?_; rw [Bool.eq_iff_iff, decide_eq_true_eq, List.mem_filter]; exact ⟨fun h => h.2, fun h => ⟨hx, h⟩⟩
def stpAt (ss : List Stp) (i : Nat) : Stp := ss.getD i ⟨0, 0⟩
theorem stpAt_of {ss : List Stp} {i : Nat} {x : Stp} (h : ss[i]? = some x) : stpAt ss i = x := by simp [stpAt, List.getD, h]
noncomputable def runS (ts : List Ten) (op : List Int) (ss : List Stp) (i : Nat) : Sh := shTo op (sh0 ts) (ss.take i)
noncomputable def runK (ts : List Ten) (op : List Int) (ss : List Stp) (i : Nat) : List Int := (runS ts op ss i).res op (stpAt ss i).a.toNat (stpAt ss i).b.toNat
noncomputable def runTo (k p n : Int) (ts : List Ten) (op : List Int) (ss : List Stp) : Nat → List Ten
  | 0 => ts
  | i + 1 => runTo k p n ts op ss i ++ [pairR k p n ((runTo k p n ts op ss i).getD (stpAt ss i).a.toNat noTen) ((runTo k p n ts op ss i).getD (stpAt ss i).b.toNat noTen) (runK ts op ss i)]
noncomputable def runA (k p n : Int) (ts : List Ten) (op : List Int) (ss : List Stp) (i : Nat) : Ten := (runTo k p n ts op ss i).getD (stpAt ss i).a.toNat noTen
noncomputable def runB (k p n : Int) (ts : List Ten) (op : List Int) (ss : List Stp) (i : Nat) : Ten := (runTo k p n ts op ss i).getD (stpAt ss i).b.toNat noTen
def runFit (k p n : Int) (ts : List Ten) (op : List Int) (ss : List Stp) (i : Nat) : Prop := pairP k p n (runA k p n ts op ss i) (runB k p n ts op ss i) (runK ts op ss i)
structure RunOK (k p n : Int) (ts : List Ten) (op : List Int) (ss : List Stp) (i : Nat) : Prop where
  len : (runTo k p n ts op ss i).length = ts.length + i
  ten : ∀ (j : Nat) (t : Ten), (runTo k p n ts op ss i)[j]? = some t → tensorL k p n t.l t.d t.x ∧ t.l = (runS ts op ss i).lab j ∧ t.d = t.l.map (dimOf ts)
section
variable {k p n : Int} {ts : List Ten} {op : List Int} {ss : List Stp}
theorem runTo_step (i : Nat) : runTo k p n ts op ss (i + 1) = runTo k p n ts op ss i ++ [pairR k p n (runA k p n ts op ss i) (runB k p n ts op ss i) (runK ts op ss i)] := rfl
theorem RunOK.get {i : Nat} (r : RunOK k p n ts op ss i) {j : Nat} (hj : j < ts.length + i) : tensorL k p n ((runTo k p n ts op ss i).getD j noTen).l ((runTo k p n ts op ss i).getD j noTen).d ((runTo k p n ts op ss i).getD j noTen).x ∧
    ((runTo k p n ts op ss i).getD j noTen).l = (runS ts op ss i).lab j ∧ ((runTo k p n ts op ss i).getD j noTen).d = ((runTo k p n ts op ss i).getD j noTen).l.map (dimOf ts) := by
  have hlt : j < (runTo k p n ts op ss i).length := by rw [r.len]; exact hj
  have h := r.ten j _ (List.getElem?_eq_getElem hlt); have e2 : (runTo k p n ts op ss i).getD j noTen = (runTo k p n ts op ss i)[j] := by simp [List.getD, List.getElem?_eq_getElem hlt]
  rw [e2]; exact h
theorem run_step (h : orderL k p n ts op ss) {i : Nat} (hi : i < ss.length) : stepOk (runS ts op ss i) (stpAt ss i) ∧ runS ts op ss (i + 1) = (runS ts op ss i).step op (stpAt ss i).a.toNat (stpAt ss i).b.toNat ∧ (runS ts op ss i).all.length = ts.length + i := by
  have hx : ss[i]? = some ss[i] := List.getElem?_eq_getElem hi; refine ⟨?_, ?_, ?_⟩
  · rw [stpAt_of hx]; exact h.2.2 i hi _ hx
  · rw [stpAt_of hx]; exact shTo_step hx
  · rw [runS, shTo_all, show (sh0 ts).all.length = ts.length by simp [sh0], List.length_take]; omega
theorem run_fine (h : netL k p n ts op) (i : Nat) : (runS ts op ss i).fine := shTo_fine (sh0_fine (net_axes h)) _
theorem RunOK.two {i : Nat} (r : RunOK k p n ts op ss i) (h : orderL k p n ts op ss) (hi : i < ss.length) :
    (tensorL k p n (runA k p n ts op ss i).l (runA k p n ts op ss i).d (runA k p n ts op ss i).x ∧ (runA k p n ts op ss i).l = (runS ts op ss i).lab (stpAt ss i).a.toNat ∧ (runA k p n ts op ss i).d = (runA k p n ts op ss i).l.map (dimOf ts)) ∧
    (tensorL k p n (runB k p n ts op ss i).l (runB k p n ts op ss i).d (runB k p n ts op ss i).x ∧ (runB k p n ts op ss i).l = (runS ts op ss i).lab (stpAt ss i).b.toNat ∧ (runB k p n ts op ss i).d = (runB k p n ts op ss i).l.map (dimOf ts)) := by
  obtain ⟨⟨⟨a0, a1, _⟩, ⟨b0, b1, _⟩, _⟩, _, hl⟩ := run_step h hi; exact ⟨r.get (by omega), r.get (by omega)⟩
theorem RunOK.kept {i : Nat} (r : RunOK k p n ts op ss i) (h : orderL k p n ts op ss) (hi : i < ss.length) : keepL (runA k p n ts op ss i) (runB k p n ts op ss i) (runK ts op ss i) = runK ts op ss i := by
  obtain ⟨⟨_, la, _⟩, ⟨_, lb, _⟩⟩ := r.two h hi; have e : runK ts op ss i = (joinI (runA k p n ts op ss i).l (runB k p n ts op ss i).l).filter fun x => @decide ((runS ts op ss i).kept op (stpAt ss i).a.toNat (stpAt ss i).b.toNat x) (Classical.propDecidable _) := by rw [la, lb]; rfl
  rw [e]; exact keepL_self
theorem RunOK.step {i : Nat} (r : RunOK k p n ts op ss i) (h : orderL k p n ts op ss) (hi : i < ss.length) (hf : runFit k p n ts op ss i) : RunOK k p n ts op ss (i + 1) := by
  obtain ⟨hst, hs1, hl⟩ := run_step h hi; obtain ⟨⟨ta, la, da⟩, ⟨tb, lb, db⟩⟩ := r.two h hi; have hk := r.kept h hi; obtain ⟨p1, p2, p3⟩ := pair_ten hf; rw [keep_map da db, hk] at p3; rw [hk] at p2; refine ⟨by rw [runTo_step, List.length_append, r.len]; simp; omega, fun j t hj => ?_⟩; rw [runTo_step] at hj
  rcases Nat.lt_or_ge j (runTo k p n ts op ss i).length with hlt | hge
  · rw [List.getElem?_append_left hlt] at hj; have := r.ten j t hj; rw [hs1, step_lab (by rw [hl, ← r.len]; exact hlt)]; exact this
  · rw [List.getElem?_append_right hge] at hj; have e0 : j - (runTo k p n ts op ss i).length = 0 := by
      rcases Nat.eq_zero_or_pos (j - (runTo k p n ts op ss i).length) with h0 | h0
      · exact h0
      · rw [List.getElem?_eq_none (by simp; omega)] at hj; cases hj
    rw [e0] at hj
    simp at hj
    subst hj; refine ⟨p1, ?_, ?_⟩
    · rw [p2, hs1, show j = (runS ts op ss i).all.length by rw [hl, ← r.len]; omega, step_lab_new]; rfl
    · rw [p2, p3]
theorem run_ok (h : orderL k p n ts op ss) : ∀ i, i ≤ ss.length → (∀ j, j < i → runFit k p n ts op ss j) → RunOK k p n ts op ss i
  | 0, _, _ => by
    refine ⟨rfl, fun j t hj => ?_⟩; have hj' : ts[j]? = some t := hj; have hm := List.mem_of_getElem? hj'; exact ⟨h.1.2.2.1 t hm, by simp [runS, shTo, Sh.lab, sh0, List.getD, hj'], net_dmap h.1 t hm⟩
  | i + 1, hi, hf => (run_ok h i (by omega) fun j hj => hf j (by omega)).step h (by omega) (hf i (by omega))
noncomputable def outTo (k p n : Int) (ts : List Ten) (op : List Int) (ss : List Stp) (i : Nat) : List Ten := (runS ts op ss i).ixs.map fun j => (runTo k p n ts op ss i).getD j noTen
theorem dimOf_mem {ts : List Ten} {x : Int} (h : dimOf ts x ≠ 0) : ∃ t ∈ ts, x ∈ t.l := by
  induction ts with
  | nil => simp [dimOf] at h
  | cons t ts ih =>
    rw [dimOf] at h
    by_cases hx : x ∈ t.l
    · exact ⟨t, by simp, hx⟩
    · rw [if_neg hx] at h; obtain ⟨u, hu, hxu⟩ := ih h; exact ⟨u, by simp [hu], hxu⟩
theorem run_open (h : orderL k p n ts op ss) {x : Int} (hx : x ∈ op) : ∀ i, i ≤ ss.length → ∃ j ∈ (runS ts op ss i).ixs, x ∈ (runS ts op ss i).lab j
  | 0, _ => by
    obtain ⟨j, hj, e⟩ := getD_of_mem hx; have ho := (open_at h.1.2.2.2.2 hj).2; rw [e] at ho; obtain ⟨t, ht, hxt⟩ := dimOf_mem (ts := ts) (x := x) (by omega); obtain ⟨m, hm⟩ := List.getElem?_of_mem ht; have hml := (List.getElem?_eq_some_iff.1 hm).1; have e0 : runS ts op ss 0 = sh0 ts := rfl; refine ⟨m, by rw [e0, sh0_ixs]; simpa using hml, ?_⟩; rw [e0]
    simpa [Sh.lab, sh0, List.getD, hm] using hxt
  | i + 1, hi => by
    obtain ⟨j, hj, hxj⟩ := run_open h hx i (by omega); obtain ⟨hst, hs1, hl⟩ := run_step h (i := i) (by omega); have hok := (run_fine (ss := ss) h.1 i).1; rw [hs1]
    by_cases hc : j ≠ (stpAt ss i).a.toNat ∧ j ≠ (stpAt ss i).b.toNat
    · refine ⟨j, by rw [step_ixs hok]; simp [hj, hc], ?_⟩; rw [step_lab (mem_ixs.1 hj).1]; exact hxj
    · refine ⟨(runS ts op ss i).all.length, by rw [step_ixs hok]; simp, ?_⟩; rw [step_lab_new]; refine List.mem_filter.2 ⟨mem_joinI.2 ?_, by simpa using .inl hx⟩
      by_cases ea : j = (stpAt ss i).a.toNat
      · exact .inl (ea ▸ hxj)
      · exact .inr ((show j = (stpAt ss i).b.toNat by omega) ▸ hxj)
theorem run_left (h : orderL k p n ts op ss) (hn : ts ≠ []) : (runS ts op ss ss.length).ixs = [ts.length + ss.length - 1] := by
  have hlen : ts.length ≠ 0 := fun e => hn (List.eq_nil_of_length_eq_zero e); have hc := steps_count (op := op) (sh0_fine (net_axes h.1)) h.2.2 ss.length (Nat.le_refl _); rw [show (sh0 ts).ixs.length = ts.length by rw [sh0_ixs]; simp] at hc; have h1 : (runS ts op ss ss.length).ixs.length = 1 := by
    have := h.2.1
    show (shTo op (sh0 ts) (ss.take ss.length)).ixs.length = 1
    omega
  have hm : ts.length + ss.length - 1 ∈ (runS ts op ss ss.length).ixs := by
    rcases Nat.eq_zero_or_pos ss.length with h0 | h0
    · have e0 : runS ts op ss ss.length = sh0 ts := by rw [h0]; rfl
      rw [e0, sh0_ixs, h0]; simp; omega
    · obtain ⟨hst, hs1, hl⟩ := run_step h (i := ss.length - 1) (by omega); rw [show ss.length - 1 + 1 = ss.length by omega] at hs1; rw [hs1, step_ixs (run_fine (ss := ss) h.1 _).1, hl]
      simp; omega
  obtain ⟨y, hy⟩ := List.length_eq_one_iff.1 h1; rw [hy] at hm ⊢
  simp at hm
  rw [hm]
end
end Go.Proofs.YtiefkcaplhnnmaaGreatDoor
namespace Go.Proofs.YtiefkcaplhnnmaaGreatDoor
set_option maxRecDepth 100000
open Go.RowKit
theorem Made.join3 {h a b : PH} {l : List PH} (m : Made h (a :: b :: l)) : Made h [a, b, joinP l] := by
  have hs := m.sep; have hl : PLe (joinP l) h := fun k o e => by
    obtain ⟨y, hy, e'⟩ := joinP_dom e; exact m.le y (by simp [hy]) k o e'
  refine ⟨⟨fun x hx => ?_, fun x hx => ?_, fun x hx => by simp at hx, trivial⟩, fun x hx => ?_, fun k o e => ?_⟩
  · rcases List.mem_cons.1 hx with rfl | hx
    · exact hs.1 _ (by simp)
    · simp at hx; subst hx
      exact PDj.join fun y hy => hs.1 y (by simp [hy])
  · simp at hx; subst hx
    exact PDj.join fun y hy => hs.2.1 y hy
  · simp at hx
    rcases hx with rfl | rfl | rfl
    · exact m.le _ (by simp)
    · exact m.le _ (by simp)
    · exact hl
  · obtain ⟨x, hx, e'⟩ := m.dom k o e
    simp at hx
    rcases hx with rfl | rfl | hx
    · exact ⟨x, by simp, e'⟩
    · exact ⟨x, by simp, e'⟩
    · exact ⟨joinP l, by simp, PLe.join hs.2.2 x hx k o e'⟩
theorem Made.part3 {h a b c : PH} {l : List PH} (m : Made h [a, b, c]) (ml : Made c l) : Made h (a :: b :: l) := by
  have hs := m.sep; have hc : PLe c h := m.le c (by simp); refine ⟨⟨fun x hx => ?_, fun x hx => ?_, ml.sep⟩, fun x hx => ?_, fun k o e => ?_⟩
  · rcases List.mem_cons.1 hx with rfl | hx
    · exact hs.1 _ (by simp)
    · exact (((hs.1 c (by simp)).symm).mono (ml.le x hx)).symm
  · exact (((hs.2.1 c (by simp)).symm).mono (ml.le x hx)).symm
  · simp at hx
    rcases hx with rfl | rfl | hx
    · exact m.le _ (by simp)
    · exact m.le _ (by simp)
    · exact (ml.le x hx).trans hc
  · obtain ⟨x, hx, e'⟩ := m.dom k o e
    simp at hx
    rcases hx with rfl | rfl | rfl
    · exact ⟨x, by simp, e'⟩
    · exact ⟨x, by simp, e'⟩
    · obtain ⟨y, hy, e2⟩ := ml.dom k o e'; exact ⟨y, by simp [hy], e2⟩
theorem NetO.split {ts : List Ten} {op : List Int} {vt vo : Value} {h : PH} (r : NetO ts op vt vo h) : ∃ cs h0 ho hl, RowO 42 cs ts.length 3 vt h0 ∧ IntsO op vo ho ∧ OwnH (flat ts) cs hl ∧ Made h [h0, ho, hl] := by
  obtain ⟨cs, h0, ho, l, r0, r1, o, m⟩ := r; exact ⟨cs, h0, ho, joinP l, r0, r1, ⟨l, o, Made.join m.sep.2.2⟩, m.join3⟩
theorem NetO.join {ts : List Ten} {op : List Int} {vt vo : Value} {h h0 ho hl : PH} {cs : List Value} (r0 : RowO 42 cs ts.length 3 vt h0) (r1 : IntsO op vo ho) (o : OwnH (flat ts) cs hl) (m : Made h [h0, ho, hl]) : NetO ts op vt vo h := by
  obtain ⟨l, o, ml⟩ := o; exact ⟨cs, h0, ho, l, r0, r1, o, m.part3 ml⟩
theorem OwnL.take {xss : List (List Int)} {vs : List Value} {l : List PH} (o : OwnL xss vs l) (n : Nat) : OwnL (xss.take n) (vs.take n) (l.take n) := by
  refine ⟨by simp [o.l1], by simp [o.l2], fun i xs h => ?_⟩; have hi : i < n := by
    rcases Nat.lt_or_ge i n with h' | h'
    · exact h'
    · rw [List.getElem?_take, if_neg (by omega)] at h; cases h
  rw [List.getElem?_take, if_pos hi] at h ⊢; rw [List.getElem?_take, if_pos hi]; exact o.own i xs h
theorem OwnL.drop {xss : List (List Int)} {vs : List Value} {l : List PH} (o : OwnL xss vs l) (n : Nat) : OwnL (xss.drop n) (vs.drop n) (l.drop n) := by
  refine ⟨by simp [o.l1], by simp [o.l2], fun i xs h => ?_⟩; rw [List.getElem?_drop] at h ⊢; rw [List.getElem?_drop]; exact o.own (n + i) xs h
theorem flat_take {ts : List Ten} {i : Nat} (h : i ≤ ts.length) : flat (ts.take i) = (flat ts).take (i * 3) ∧ flat (ts.drop i) = (flat ts).drop (i * 3) := by
  have e : flat ts = flat (ts.take i) ++ flat (ts.drop i) := by rw [← flat_append, List.take_append_drop]
  have hl : (flat (ts.take i)).length = i * 3 := by rw [flat_len, List.length_take, Nat.min_eq_left h]
  constructor
  · rw [e, List.take_left' hl]
  · rw [e, List.drop_left' hl]
theorem flat_set {ts : List Ten} {i : Nat} (h : i < ts.length) (u : Ten) : flat (ts.set i u) = (flat ts).take (i * 3) ++ [u.l, u.d, u.x] ++ (flat ts).drop (i * 3 + 3) := by
  rw [List.set_eq_take_append_cons_drop, if_pos h, flat_append, (flat_take (Nat.le_of_lt h)).1, show i * 3 + 3 = (i + 1) * 3 by omega, ← (flat_take (show i + 1 ≤ ts.length by omega)).2, List.append_assoc]
  rfl
theorem sep_mono {l l' : List PH} (h : sepL l) (hs : l'.Sublist l) : sepL l' := by
  induction hs with
  | slnil => exact trivial
  | cons x _ ih => exact ih h.2
  | cons_cons x s ih => exact ⟨fun y hy => h.1 y (s.subset hy), ih h.2⟩
theorem OwnH.set {ts : List Ten} {u : Ten} {cs : List Value} {a b c : Value} {h h' : PH} {i : Nat} (hi : i < ts.length) (o : OwnH (flat ts) cs h) (r : TriO u a b c h') (hd : PDj h h') :
    ∃ g, PLe g (PUn h h') ∧ OwnH (flat (ts.set i u)) (cs.take (i * 3) ++ [a, b, c] ++ cs.drop (i * 3 + 3)) g := by
  obtain ⟨l, ol, m⟩ := o; obtain ⟨h1, h2, h3, r1, r2, r3, m'⟩ := r; have hx : ∀ x ∈ l.take (i * 3) ++ [h1, h2, h3] ++ l.drop (i * 3 + 3), PLe x (PUn h h') := fun x hx => by
    simp only [List.mem_append] at hx
    rcases hx with (hx | hx) | hx
    · exact (m.le x (List.mem_of_mem_take hx)).trans (PLe.un_l _ _)
    · exact (m'.le x hx).trans (PLe.un_r hd)
    · exact (m.le x (List.mem_of_mem_drop hx)).trans (PLe.un_l _ _)
  have hab : ∀ x ∈ l, ∀ y ∈ [h1, h2, h3], PDj x y := fun x hx y hy => (((hd.mono (m.le x hx)).symm).mono (m'.le y hy)).symm; have hsub : (l.take (i * 3) ++ l.drop (i * 3 + 3)).Sublist l := by
    conv => rhs; rw [← List.take_append_drop (i * 3) l]
    refine List.Sublist.append (List.Sublist.refl _) ?_; rw [← List.drop_drop]; exact List.drop_sublist _ _
  have hsep := sepL_append.1 (sep_mono m.sep hsub); have hs : sepL (l.take (i * 3) ++ [h1, h2, h3] ++ l.drop (i * 3 + 3)) := by
    refine sepL_append.2 ⟨sepL_append.2 ⟨hsep.1, m'.sep, fun x hx y hy => hab x (List.mem_of_mem_take hx) y hy⟩, hsep.2.1, fun x hx y hy => ?_⟩
    rcases List.mem_append.1 hx with hx | hx
    · exact hsep.2.2 x hx y hy
    · exact (hab y (List.mem_of_mem_drop hy) x hx).symm
  refine ⟨joinP (l.take (i * 3) ++ [h1, h2, h3] ++ l.drop (i * 3 + 3)), fun k o e => ?_, _, ?_, Made.join hs⟩
  · obtain ⟨y, hy, e'⟩ := joinP_dom e; exact hx y hy k o e'
  · rw [flat_set hi]; exact ((ol.take _).append (OwnL.three r1 r2 r3)).append (ol.drop _)
def replP (k p n : Int) (ts : List Ten) (op : List Int) (i : Int) (u : Ten) : Prop := netL k p n ts op ∧ (0 ≤ i ∧ i < ts.length) ∧ fitP k p n (ts.getD i.toNat ⟨[], [], []⟩) u
open Classical in
noncomputable def replB (k p n : Int) (ts : List Ten) (op : List Int) (i : Int) (u : Ten) : Bool := decide (replP k p n ts op i u)
noncomputable def ifB {α : Type} (b : Bool) (x y : α) : α := if b then x else y
noncomputable def replTs (k p n : Int) (ts : List Ten) (op : List Int) (i : Int) (u : Ten) : List Ten := ifB (replB k p n ts op i u) (ts.set i.toNat u) []
noncomputable def replOp (k p n : Int) (ts : List Ten) (op : List Int) (i : Int) (u : Ten) : List Int := ifB (replB k p n ts op i u) op []
def ReplR (k p n : Int) (ts : List Ten) (op : List Int) (i : Int) (u : Ten) (x : Value) (h : PH) : Prop :=
  ∃ vt vo, x = .tuple [netV (ifB (replB k p n ts op i u) k 0) (ifB (replB k p n ts op i u) p 0) (ifB (replB k p n ts op i u) n 0) vt vo, .bool (replB k p n ts op i u)].toArray ∧ NetO (replTs k p n ts op i u) (replOp k p n ts op i u) vt vo h
theorem NetO.nil : NetO [] [] (.slice none 0 0) (.slice none 0 0) emp :=
  ⟨[], emp, emp, [], RowO.nil, IntsO.nil, OwnL.nil, ⟨by simp [sepL, PDj.emp], fun x hx => by simp at hx; subst hx; exact PLe.emp _, fun k o e => by cases e⟩⟩
theorem ReplR.no {k p n i : Int} {ts : List Ten} {op : List Int} {u : Ten} (h : ¬ replP k p n ts op i u) : ReplR k p n ts op i u (.tuple [netV 0 0 0 (.slice none 0 0) (.slice none 0 0), .bool false].toArray) emp := by
  have e : replB k p n ts op i u = false := by simp [replB, h]
  refine ⟨.slice none 0 0, .slice none 0 0, ?_, ?_⟩
  · rw [e]; rfl
  · rw [replTs, replOp, e]; exact NetO.nil
theorem ReplR.yes {k p n i : Int} {ts : List Ten} {op : List Int} {u : Ten} {vt vo : Value} {g : PH} (h : replP k p n ts op i u) (r : NetO (ts.set i.toNat u) op vt vo g) : ReplR k p n ts op i u (.tuple [netV k p n vt vo, .bool true].toArray) g := by
  have e : replB k p n ts op i u = true := by simp [replB, h]
  refine ⟨vt, vo, ?_, ?_⟩
  · rw [e]; rfl
  · rw [replTs, replOp, e]; exact r
end Go.Proofs.YtiefkcaplhnnmaaGreatDoor
namespace Go.Proofs.YtiefkcaplhnnmaaGreatDoor
set_option maxRecDepth 100000
open Go.RowKit
theorem perm_all {k p n : Int} {t : Ten} {ls : List Int} (h : PermOK k p n t ls) : ∀ m : Nat, ((permX (widthI k n) t ls (permD t ls) m).length : Int) = m * widthI k n ∧ ∀ a ∈ permX (widthI k n) t ls (permD t ls) m, 0 ≤ a ∧ a ≤ topI k p n
  | 0 => by simp [permX]
  | m + 1 => by
    have ih := perm_all h m; have ho := h.off m; have he := elt_inR h.ten ho.1 ho.2; have hw := width_range h.ring; rw [permX_step]; refine ⟨?_, fun a ha => ?_⟩
    · rw [List.length_append, he.1, Int.natCast_add, ih.1, show ((m + 1 : Nat) : Int) = (m : Int) + 1 from rfl, Int.add_mul, Int.one_mul]; omega
    · rcases List.mem_append.1 ha with ha | ha
      · exact ih.2 a ha
      · exact he.2 a ha
theorem perm_axes {k p n : Int} {t : Ten} {ls : List Int} (h : PermOK k p n t ls) : axesL ls (permD t ls) := by
  refine ⟨h.len.2.2, (permD_len t ls).symm, fun j hj => ⟨?_, h.dims j (by rw [permD_len]; exact hj), nodup_not_take h.nodup hj⟩⟩; obtain ⟨i, hi, e⟩ := getD_of_mem (h.perm.mem_iff.1 (mem_getD hj)); rw [← e]; exact (h.axes.2.2 i hi).1
theorem perm_ten {k p n : Int} {t : Ten} {ls : List Int} (h : PermOK k p n t ls) : tensorL k p n (permT k n t ls).l (permT k n t ls).d (permT k n t ls).x := by
  have hs := h.small; have ha := perm_axes h; have hx := perm_all h (prodI (permD t ls)).toNat; refine ⟨h.ring, sizeI_ge.2 ⟨ha, hs.2⟩, ?_, hx.2⟩
  show ((permX (widthI k n) t ls (permD t ls) (prodI (permD t ls)).toNat).length : Int) = sizeI ls (permD t ls) * widthI k n
  rw [sizeI_yes ha hs.2, hx.1, show (((prodI (permD t ls)).toNat : Nat) : Int) = prodI (permD t ls) by omega]
theorem net_open {k p n : Int} {ts : List Ten} {op : List Int} (h : netL k p n ts op) : op.Nodup ∧ op.length ≤ 12 := by
  have ha := (sizeI_ge.1 h.2.2.2.2).1; exact ⟨axes_nodup ha, ha.1⟩
theorem mem_keep {t u : Ten} {ks : List Int} {x : Int} : x ∈ keepL t u ks ↔ (x ∈ t.l ∨ x ∈ u.l) ∧ x ∈ ks := by
  unfold keepL
  rw [List.mem_filter, mem_joinI, decide_eq_true_eq]
theorem sum_ten {k p n : Int} {t : Ten} (ht : tensorL k p n t.l t.d t.x) (ks : List Int) : tensorL k p n (sumR k p n t ks).l (sumR k p n t ks).d (sumR k p n t ks).x ∧ (sumR k p n t ks).l = keepL t (oneT k p n) ks ∧ (sumR k p n t ks).d = (keepL t (oneT k p n) ks).map (dimJ t (oneT k p n)) := by
  have := pair_ten (sum_pair ht ks)
  rwa [sumR_pair ht] at this
theorem fin_perm {k p n : Int} {t : Ten} {op : List Int} (ht : tensorL k p n t.l t.d t.x) (hn : op.Nodup) (hs : ∀ x ∈ op, x ∈ t.l) : PermOK k p n (sumR k p n t op) op := by
  obtain ⟨h1, h2, _⟩ := sum_ten ht op; have hk : ∀ x, x ∈ (sumR k p n t op).l ↔ x ∈ op := fun x => by
    rw [h2, mem_keep]; exact ⟨fun h => h.2, fun h => ⟨.inl (hs x h), h⟩⟩
  exact ⟨ht.1, h1, perm_of hn (fun x hx => (hk x).2 hx) (pigeon (axes_nodup (ten_axes h1)) fun x hx => (hk x).1 hx)⟩
noncomputable def finT (k p n : Int) (t : Ten) (op : List Int) : Ten := permT k n (sumR k p n t op) op
def finP (k p n : Int) (ts : List Ten) (op : List Int) (t : Ten) : Prop := netL k p n ts op ∧ tensorL k p n t.l t.d t.x ∧ ∀ x ∈ op, x ∈ t.l
theorem finP.perm {k p n : Int} {ts : List Ten} {op : List Int} {t : Ten} (h : finP k p n ts op t) : PermOK k p n (sumR k p n t op) op := fin_perm h.2.1 (net_open h.1).1 h.2.2
def conP (k p n : Int) (ts : List Ten) (op : List Int) (ss : List Stp) : Prop := orderL k p n ts op ss ∧ ∀ j, j < ss.length → runFit k p n ts op ss j
noncomputable def lastT (k p n : Int) (ts : List Ten) (op : List Int) (ss : List Stp) : Ten := (runTo k p n ts op ss ss.length).getD (ts.length + ss.length - 1) noTen
noncomputable def conT (k p n : Int) (ts : List Ten) (op : List Int) (ss : List Stp) : Ten := if ts.length = 0 then oneT k p n else finT k p n (lastT k p n ts op ss) op
section
variable {k p n : Int} {ts : List Ten} {op : List Int} {ss : List Stp}
theorem conP.last (h : conP k p n ts op ss) (hn : ts.length ≠ 0) : finP k p n ts op (lastT k p n ts op ss) ∧ outTo k p n ts op ss ss.length = [lastT k p n ts op ss] := by
  have r := run_ok h.1 ss.length (Nat.le_refl _) h.2; have hl := run_left h.1 (fun e => hn (by rw [e]; rfl)); have hg := r.get (j := ts.length + ss.length - 1) (by omega); refine ⟨⟨h.1.1, hg.1, fun x hx => ?_⟩, by rw [outTo, hl]; rfl⟩; obtain ⟨j, hj, hxj⟩ := run_open h.1 hx ss.length (Nat.le_refl _); rw [hl] at hj
  simp at hj
  show x ∈ ((runTo k p n ts op ss ss.length).getD (ts.length + ss.length - 1) noTen).l
  rw [hg.2.1, ← hj]; exact hxj
theorem conP.empty (h : conP k p n ts op ss) (hn : ts.length = 0) : op = [] := by
  refine List.eq_nil_iff_forall_not_mem.2 fun x hx => ?_; obtain ⟨j, hj, e⟩ := getD_of_mem hx; have ho := (open_at h.1.1.2.2.2.2 hj).2; have e0 : ts = [] := List.eq_nil_of_length_eq_zero hn; rw [e0] at ho
  simp [dimOf] at ho
theorem conP.ten (h : conP k p n ts op ss) : tensorL k p n (conT k p n ts op ss).l (conT k p n ts op ss).d (conT k p n ts op ss).x ∧ (conT k p n ts op ss).l = op := by
  unfold conT
  by_cases hn : ts.length = 0
  · rw [if_pos hn]; exact ⟨one_ten h.1.1.1, (h.empty hn).symm⟩
  · rw [if_neg hn]; exact ⟨perm_ten (h.last hn).1.perm, rfl⟩
end
end Go.Proofs.YtiefkcaplhnnmaaGreatDoor
namespace Go.Proofs.YtiefkcaplhnnmaaGreatDoor
set_option maxRecDepth 100000
open Go.RowKit

section
variable {P : Program} {n : Nat} {w0 : World} {K : Env} {HS : List PH} {d : Option Tmp} {ty : TypeId} {ps : String} {af : Array Edge} {g : Option (Nat × Bool)}
end
theorem NetO.none : NetO [] [] (.slice none 0 0) (.slice none 0 0) emp :=
  ⟨[], emp, emp, [], ⟨rfl, .inl ⟨rfl, rfl, rfl⟩⟩, IntsO.nil, OwnL.nil, ⟨⟨fun x hx => PDj.emp _, fun x hx => PDj.emp _, trivial⟩, fun x hx => by simp at hx; subst hx; exact PLe.emp _, fun k o e => by cases e⟩⟩
theorem ten_facts {k p n : Int} {t : Ten} (h : tensorL k p n t.l t.d t.x) : dimsIn t.d ∧ 1 ≤ prodI t.d ∧ prodI t.d ≤ 4096 ∧ (t.x.length : Int) = prodI t.d * widthI k n ∧ t.l.length ≤ 12 ∧ t.d.length ≤ 12 := by
  have h1 := sizeI_ge.1 h.2.1; have h2 := sizeI_yes h1.1 h1.2; have h3 := sizeI_range t.l t.d; have h4 := h.2.2.1; have h5 := h.2.1; rw [h2] at h3 h4 h5; exact ⟨axes_dims h1.1, by omega, h1.2, h4, h1.1.1, by have := h1.1.2.1; have := h1.1.1; omega⟩
end Go.Proofs.YtiefkcaplhnnmaaGreatDoor
namespace Go.Proofs.YtiefkcaplhnnmaaGreatDoor
set_option maxRecDepth 100000
open Go.RowKit
theorem join_le {B : Nat} {sep : List UInt8} : ∀ {xs : List (List UInt8)}, (∀ x ∈ xs, x.length ≤ B) → (Lib.join xs sep).length ≤ xs.length * (B + sep.length)
  | [], _ => Nat.zero_le _
  | [x], h => by
    have := h x (by simp); rw [Lib.join_one, List.length_singleton]
    omega
  | x :: y :: r, h => by
    have ih := join_le (sep := sep) (xs := y :: r) fun z hz => h z (by simp [hz]); have hx := h x (by simp); have e : Lib.join (x :: y :: r) sep = x ++ (sep ++ Lib.join (y :: r) sep) := by
      rw [Lib.join_cons, Lib.join_cons, Lib.joinTail, Lib.joinTail, List.map_cons, List.flatten_cons, List.append_assoc]
    rw [e, List.length_append, List.length_append, List.length_cons, Nat.add_mul, Nat.one_mul]
    omega
theorem join_take_le {B : Nat} {sep : List UInt8} {xs : List (List UInt8)} (h : ∀ x ∈ xs, x.length ≤ B) (i : Nat) : (Lib.join (xs.take i) sep).length ≤ xs.length * (B + sep.length) := by
  refine Nat.le_trans (join_le fun x hx => h x (List.mem_of_mem_take hx)) (Nat.mul_le_mul_right _ ?_); rw [List.length_take]; omega
def elemT (x : List Int) : List UInt8 := Lib.join (x.map Lib.itoa) [44]
def small21 (x : List Int) : Prop := x.length ≤ 6 ∧ ∀ a ∈ x, I64 a
theorem small_itoa {x : List Int} (h : small21 x) : ∀ y ∈ x.map Lib.itoa, y.length ≤ 21 := fun y hy => by
  obtain ⟨a, ha, rfl⟩ := List.mem_map.1 hy; exact itoa_len (h.2 a ha)
theorem elemT_len {x : List Int} (h : small21 x) : (elemT x).length ≤ 132 := by
  have := join_le (sep := [44]) (small_itoa h); rw [List.length_map] at this; have h1 := h.1; have h2 : x.length * (21 + [(44 : UInt8)].length) ≤ 6 * 22 := Nat.mul_le_mul_right 22 h1; exact Nat.le_trans this h2
theorem in_small {k p n : Int} {x : List Int} (hr : ringL k p n) (h : InR k p n x) : small21 x := by
  have h1 := h.len hr; have h2 := top_range hr; exact ⟨by omega, fun a ha => by have := h.2 a ha; constructor <;> omega⟩
theorem take_mapL {xs : List Int} {f : Int → List UInt8} {i : Nat} (h : i < xs.length) : (xs.map f).take (i + 1) = (xs.map f).take i ++ [f (xs.getD i 0)] := by
  rw [List.take_succ_eq_append_getElem (by simpa using h)]
  simp [List.getD, h]
theorem ct_s_l02ElemIn (k p n : Int) (xs : List Int) (v : Value) (w : World) (r : IntsR xs v (hp w)) (hr : ringL k p n) (hx : InR k p n xs) : Calls Tryz.prog 119 [ringV k p n, v].toArray w (RetV w (.bool true)) := by
  have hl := hx.len hr; refine calls_in Tryz.func119 rfl Tryz.ntmps119 rfl (Sat.start w) ?_; have hle0 := r.le; refine wp_sc (wp_sq ?_); refine sq_x rfl (x_box rfl rfl) rfl ?_; rintro _ _ ⟨b2, rfl, rfl⟩; refine sq_v rfl (v_assign rfl) rfl (sq_end (qs_n (wp_sc (wp_sc (wp_sq (sq_v rfl (v_move rfl) rfl (sq_v rfl (v_len Tryz.underlying25 rfl r.sl) rfl (sq_v rfl (v_move rfl) rfl (sq_end (qs_n (wp_bl ?_))))))))))); refine wp_lp (σ := Nat) (fun z_ => [(1, v), (2, .pointer (some ⟨b2, 0, none⟩)), (4, .bool false), (7, v), (8, num xs.length), (9, num z_)]) (fun z_ => [box b2 [num k, num p, num n] 36, hp w]) (fun z_ => z_ ≤ xs.length) (fun z_ => xs.length - z_) 0 (by omega) ⟨rfl, rfl, rfl, rfl, rfl, (by first | rfl | exact ksub rfl (by first | omega | (simp; done) | (simp; omega))), trivial⟩ (fun _ s => s) ?_; rintro i hi; refine wp_sc (wp_sq (sq_v rfl (v_lss rfl rfl) rfl (sq_end (qs_n (wp_sc ?_))))); refine wp_cd rfl (fun c10 => ?_) (fun c10 => ?_)
  · refine wp_sk (qs_n (wp_sc (wp_bl (wp_sc (wp_sq ?_))))); refine sq_v rfl (v_idxI Tryz.underlying25 ty_3 rfl rfl r (by first | omega | (simp; omega) | (simp only [List.length_append, List.length_cons, List.length_nil]; omega) | (rw [List.length_set]; omega)) (by first | omega | (simp; omega) | (simp only [List.length_append, List.length_cons, List.length_nil]; omega) | (rw [List.length_set]; omega))) rfl ?_; refine sq_v rfl (v_loadI (k := i) 1 ty_3 rfl rfl r (by first | omega | (simp; omega) | (simp only [List.length_append, List.length_cons, List.length_nil]; omega) | (rw [List.length_set]; omega))) rfl ?_; refine sq_v rfl (v_assign rfl) rfl (sq_end (qs_n (wp_sc (wp_sq (sq_v rfl (v_move rfl) rfl (sq_v rfl (v_loadNB 0 ty_36 rfl rfl rfl rfl) rfl (sq_u rfl (x_callv rfl en_97 (fun w s => ct_s_l02Top _ _ _ w hr)) rfl (sq_u rfl (x_callv rfl en_59 (fun w s => ct_s_l01In _ _ _ w)) rfl (sq_v rfl (v_not rfl) rfl (sq_end ?_)))))))))); have hxi := hx.at hr i (by omega); refine qs_n ?_; refine wp_cnd rfl (fun c17 => ?_) (fun c17 => ?_)
    · refine wp_sc (wp_sq (sq_v rfl (v_assign rfl) rfl (sq_end (qs_n (wp_rt (qs_br (qs_r (qs_r (qs_br (qs_r ?_)))))))))); exact qs_ret1 rfl rfl (fin_q (i := 1) rfl (by exfalso; omega))
    · refine wp_sk (qs_bn (qs_n (wp_sq ?_))); refine sq_v rfl (v_add rfl rfl ((by unfold I64; omega))) rfl ?_; refine sq_v rfl (v_move rfl) rfl (sq_end ?_); exact qs_bk (i + 1) (by omega) (by omega) ⟨rfl, rfl, rfl, rfl, rfl, (by first | rfl | exact ksub rfl (by first | omega | (simp; done) | (simp; omega))), trivial⟩ (fun _ s => s)
  · refine wp_ex (qs_x (qs_x (qs_bx (qs_n (wp_sc (wp_sq (sq_v rfl (v_move rfl) rfl (sq_v rfl (v_len Tryz.underlying25 rfl r.sl) rfl (sq_v rfl (v_loadNB 0 ty_36 rfl rfl rfl rfl) rfl (sq_u rfl (x_callv rfl en_96 (fun w s => ct_s_l02Width _ _ _ w)) rfl (sq_v rfl (v_eql rfl rfl) rfl (sq_v rfl (v_assign rfl) rfl (sq_end (qs_n (wp_rt ?_))))))))))))))); exact qs_ret1 rfl rfl (fin_q (i := 1) rfl (by rw [decide_eq_true hl.2.2]))
theorem ct_s_ElemOkIn (k p n : Int) (xs : List Int) (v : Value) (w : World) (r : IntsR xs v (hp w)) (hr : ringL k p n) (hx : InR k p n xs) : Calls Tryz.prog 99 [ringV k p n, v].toArray w (RetV w (.bool true)) := by
  have hb := ringB_true.2 hr; refine calls_in Tryz.func99 rfl Tryz.ntmps99 rfl (Sat.start w) ?_; have hle0 := r.le; refine wp_sc (wp_sq ?_); refine sq_x rfl (x_box rfl rfl) rfl ?_; rintro _ _ ⟨b2, rfl, rfl⟩; refine sq_v rfl (v_assign rfl) rfl (sq_end (qs_n (wp_sc (wp_sq (sq_v rfl (v_loadNB 0 ty_36 rfl rfl rfl rfl) rfl (sq_u rfl (x_callv rfl en_95 (fun w s => ct_s_RingOk _ _ _ w)) rfl ?_)))))); refine sq_bb 6 rfl (fun c6 => ?_) (fun c6 => ?_)
  · refine sq_v rfl (v_move rfl) rfl (sq_v rfl (v_loadNB 0 ty_36 rfl rfl rfl rfl) rfl (sq_v rfl (v_move rfl) rfl (sq_u rfl (x_callv rfl en_119 (fun w s => ct_s_l02ElemIn _ _ _ _ _ w (r.mono (s.get 1 rfl)) hr hx)) rfl (sq_v rfl (v_pickt rfl rfl) rfl (sq_v rfl (v_assign rfl) rfl (sq_end (qs_n (wp_rt ?_)))))))); exact qs_ret1 rfl rfl (fin_q (i := 1) rfl (rfl))
  · refine sq_v rfl (v_move rfl) rfl (sq_s rfl rfl (sq_s rfl rfl (sq_s rfl rfl (sq_v rfl (v_pickf rfl rfl) rfl (sq_v rfl (v_assign rfl) rfl (sq_end (qs_n (wp_rt ?_)))))))); exact qs_ret1 rfl rfl (fin_q (i := 1) rfl (absurd (hb.symm.trans c6) (by decide)))
theorem ct_s_FormatElemIn (k p n : Int) (xs : List Int) (v : Value) (w : World) (r : IntsR xs v (hp w)) (hr : ringL k p n) (hx : InR k p n xs) : Calls Tryz.prog 66 [ringV k p n, v].toArray w (RetV w (strV (elemT xs))) := by
  have hsm := in_small hr hx; have hsl := hsm.1; refine calls_in Tryz.func66 rfl Tryz.ntmps66 rfl (Sat.start w) ?_; have hle0 := r.le; refine wp_sc (wp_sq ?_); refine sq_x rfl (x_box rfl rfl) rfl ?_; rintro _ _ ⟨b2, rfl, rfl⟩; refine sq_v rfl (v_assign rfl) rfl (sq_end (qs_n (wp_sc (wp_sc (wp_sq (sq_v rfl (v_loadNB 0 ty_36 rfl rfl rfl rfl) rfl (sq_v rfl (v_move rfl) rfl (sq_u rfl (x_callv rfl en_99 (fun w s => ct_s_ElemOkIn _ _ _ _ _ w (r.mono (s.get 1 rfl)) hr hx)) rfl (sq_v rfl (v_not rfl) rfl (sq_end (qs_n (wp_cf rfl (wp_sk (qs_n (wp_sc (wp_sq ?_)))))))))))))))); refine sq_x rfl (x_build0 Tryz.underlying70 ty_9) rfl ?_; intro v12 h12 (r12 : StrsO [] v12 h12); refine sq_v rfl (v_assign rfl) rfl (sq_end (qs_n (wp_sc (wp_sc (wp_sq (sq_v rfl (v_move rfl) rfl (sq_v rfl (v_len Tryz.underlying25 rfl r.sl) rfl (sq_v rfl (v_move rfl) rfl (sq_end (qs_n (wp_bl ?_))))))))))); refine wp_lp (σ := Nat × Value × PH) (fun z_ => [(4, strV []), (5, z_.2.1), (13, v), (14, num xs.length), (15, num z_.1)]) (fun z_ => [z_.2.2, box b2 [num k, num p, num n] 36, hp w]) (fun z_ => z_.1 ≤ xs.length ∧ StrsO ((xs.map Lib.itoa).take z_.1) z_.2.1 z_.2.2) (fun z_ => xs.length - z_.1) (0, v12, h12) (⟨by (try dsimp only); omega, r12⟩) ⟨rfl, (by first | rfl | exact ksub rfl (by first | omega | (simp; done) | (simp; omega))), rfl, rfl, (by first | rfl | exact ksub rfl (by first | omega | (simp; done) | (simp; omega))), trivial⟩ (fun _ s => s) ?_; rintro ⟨i, vx, hx⟩ ⟨hi, q⟩; dsimp only at hi q ⊢; refine wp_sc (wp_sq (sq_v rfl (v_lss rfl rfl) rfl (sq_end (qs_n (wp_sc ?_))))); refine wp_cd rfl (fun c16 => ?_) (fun c16 => ?_)
  · refine wp_sk (qs_n (wp_sc (wp_bl (wp_sc (wp_sq ?_))))); refine sq_v rfl (v_idxI Tryz.underlying25 ty_3 rfl rfl r (by first | omega | (simp; omega) | (simp only [List.length_append, List.length_cons, List.length_nil]; omega) | (rw [List.length_set]; omega)) (by first | omega | (simp; omega) | (simp only [List.length_append, List.length_cons, List.length_nil]; omega) | (rw [List.length_set]; omega))) rfl ?_; refine sq_v rfl (v_loadI (k := i) 2 ty_3 rfl rfl r (by first | omega | (simp; omega) | (simp only [List.length_append, List.length_cons, List.length_nil]; omega) | (rw [List.length_set]; omega))) rfl ?_; refine sq_v rfl (v_assign rfl) rfl (sq_end (qs_n (wp_sq (sq_v rfl (v_move rfl) rfl (sq_v rfl (v_move rfl) rfl (sq_u rfl (x_callv rfl en_25 (fun w s => ct_s_FormatInt _ w (hsm.2 _ (mem_getD (by omega))))) rfl ?_)))))); refine sq_x rfl (x_buildS [strV (Lib.itoa (xs.getD i 0))] Tryz.underlying70 ty_9 (by decide) rfl rfl rfl (by decide) (by decide) (by intro v hv; simp at hv; rcases hv with rfl <;> rfl)) rfl ?_; intro v22 h22 (r22 : StrsO [(Lib.itoa (xs.getD i 0))] v22 h22); refine sq_m 1 rfl rfl (m_appU 1 0 Tryz.underlying70 ty_9 rfl rfl rfl rfl q rfl r22.toR (by first | omega | (simp; omega) | (simp only [List.length_append, List.length_cons, List.length_nil]; omega) | (rw [List.length_set]; omega))) rfl ?_; intro v23 h_r23 r23; refine sq_v rfl (v_assign rfl) rfl (sq_end (qs_bn (qs_n (wp_sq ?_)))); refine sq_v rfl (v_add rfl rfl ((by unfold I64; omega))) rfl ?_; refine sq_v rfl (v_move rfl) rfl (sq_end ?_); exact qs_bk (i + 1, v23, h_r23) ⟨by (try dsimp only); omega, by (try dsimp only); rw [take_mapL (by omega)]; exact r23⟩ (by simp only; omega) ⟨rfl, (by first | rfl | exact ksub rfl (by first | omega | (simp; done) | (simp; omega))), rfl, rfl, (by first | rfl | exact ksub rfl (by first | omega | (simp; done) | (simp; omega))), trivial⟩ (fun _ s => s.pick [1, 2, 3] (by decide) rfl)
  · refine wp_ex (qs_x (qs_x (qs_bx (qs_n (wp_sc (wp_sq (sq_v rfl (v_move rfl) rfl ?_))))))); refine sq_u rfl (x_callv rfl en_64 (fun w s => ct_s_Join _ _ _ w (by have e : (xs.map Lib.itoa).take i = xs.map Lib.itoa := List.take_of_length_le (by rw [List.length_map]; omega); rw [e] at q; exact q.toR.mono (s.get 0 rfl)) (fun j _ => Nat.le_trans (join_take_le (small_itoa hsm) j) (by rw [List.length_map]; have := Nat.mul_le_mul_right 22 hsl; exact Nat.le_trans this (by decide))) (by decide) (fun x hx => Nat.le_trans (small_itoa hsm x hx) (by decide)))) rfl ?_; refine sq_v rfl (v_assign rfl) rfl (sq_end (qs_n (wp_rt ?_))); exact qs_ret1 rfl rfl (fin_q (i := 2) rfl (rfl))
theorem fill_step {xs : List Int} {f : Int → List UInt8} {i : Nat} (h : i < xs.length) : ((xs.map f).take i ++ List.replicate (xs.length - i) []).set i (f (xs.getD i 0)) = (xs.map f).take (i + 1) ++ List.replicate (xs.length - (i + 1)) [] := by
  rw [List.set_append_right _ _ (by simp; omega), show xs.length - i = (xs.length - (i + 1)) + 1 by omega, List.replicate_succ, take_mapL h, List.length_take, List.length_map, show i - min i xs.length = 0 by omega, List.set_cons_zero, List.append_assoc]
  rfl
theorem ct_i_rawElemText (xs : List Int) (v : Value) (w : World) (tb : PowR (hp w)) (r : IntsR xs v (hp w)) (hsm : small21 xs) : Calls Tryz.prog 76 [v].toArray w (RetV w (strV (elemT xs))) := by
  have hsl := hsm.1; refine calls_in Tryz.func76 rfl Tryz.ntmps76 rfl (Sat.start w) ?_; have hle0 := r.le; refine wp_sc (wp_sq (sq_v rfl (v_assign rfl) rfl (sq_end (qs_n (wp_sc (wp_sq (sq_v rfl (v_move rfl) rfl (sq_v rfl (v_len Tryz.underlying25 rfl r.sl) rfl ?_)))))))); refine sq_x rfl (x_makeU Tryz.underlying70 ty_9 rfl rfl (by first | omega | (simp; omega) | (simp only [List.length_append, List.length_cons, List.length_nil]; omega) | (rw [List.length_set]; omega)) (by first | omega | (simp; omega) | (simp only [List.length_append, List.length_cons, List.length_nil]; omega) | (rw [List.length_set]; omega)) (by first | omega | (simp; omega) | (simp only [List.length_append, List.length_cons, List.length_nil]; omega) | (rw [List.length_set]; omega))) rfl ?_; intro v8 h8 r8; refine sq_v rfl (v_assign rfl) rfl (sq_end (qs_n (wp_sc (wp_sc (wp_sq (sq_v rfl (v_move rfl) rfl (sq_v rfl (v_len Tryz.underlying25 rfl r.sl) rfl (sq_v rfl (v_move rfl) rfl (sq_end (qs_n (wp_bl ?_))))))))))); refine wp_lp (σ := Nat × PH) (fun z_ => [(2, strV []), (3, v8), (9, v), (10, num xs.length), (11, num z_.1)]) (fun z_ => [z_.2, hp w]) (fun z_ => z_.1 ≤ xs.length ∧ StrsO ((xs.map Lib.itoa).take z_.1 ++ List.replicate (xs.length - z_.1) []) v8 z_.2) (fun z_ => xs.length - z_.1) (0, h8) (⟨by (try dsimp only); omega, by (try dsimp only); rw [List.take_zero]; simpa using r8⟩) ⟨rfl, rfl, rfl, rfl, (by first | rfl | exact ksub rfl (by first | omega | (simp; done) | (simp; omega))), trivial⟩ (fun _ s => s) ?_; rintro ⟨i, hx⟩ ⟨hi, q⟩; dsimp only at hi q ⊢; refine wp_sc (wp_sq (sq_v rfl (v_lss rfl rfl) rfl (sq_end (qs_n (wp_sc ?_))))); refine wp_cd rfl (fun c12 => ?_) (fun c12 => ?_)
  · refine wp_sk (qs_n (wp_sc (wp_bl (wp_sc (wp_sq (sq_v rfl (v_move rfl) rfl ?_)))))); refine sq_v rfl (v_idxI Tryz.underlying25 ty_3 rfl rfl r (by first | omega | (simp; omega) | (simp only [List.length_append, List.length_cons, List.length_nil]; omega) | (rw [List.length_set]; omega)) (by first | omega | (simp; omega) | (simp only [List.length_append, List.length_cons, List.length_nil]; omega) | (rw [List.length_set]; omega))) rfl ?_; refine sq_v rfl (v_loadI (k := i) 1 ty_3 rfl rfl r (by first | omega | (simp; omega) | (simp only [List.length_append, List.length_cons, List.length_nil]; omega) | (rw [List.length_set]; omega))) rfl ?_; refine sq_v rfl (v_assign rfl) rfl (sq_v rfl (v_assign rfl) rfl (sq_end (qs_n (wp_sq (sq_v rfl (v_move rfl) rfl (sq_v rfl (v_move rfl) rfl (sq_v rfl (v_move rfl) rfl (sq_u rfl (x_callv rfl en_34 (fun w s => ct_i_FormatInt _ w (tb.mono (s.get 1 rfl)) (hsm.2 _ (mem_getD (by omega))))) rfl ?_)))))))); refine sq_v rfl (v_idxU Tryz.underlying70 ty_9 rfl rfl q.toR (by omega) (by simp; omega)) rfl ?_; refine sq_m 0 rfl rfl (m_storeU (k := i) 0 ty_9 rfl rfl rfl q (by simp; omega)) rfl ?_; rintro _ h_q5 ⟨rfl, q5⟩; refine sq_end (qs_bn (qs_n (wp_sq ?_))); refine sq_v rfl (v_add rfl rfl ((by unfold I64; omega))) rfl ?_; refine sq_v rfl (v_move rfl) rfl (sq_end ?_); exact qs_bk (i + 1, h_q5) ⟨by (try dsimp only); omega, by (try dsimp only); rw [fill_step (by omega)] at q5; exact q5⟩ (by simp only; omega) ⟨rfl, rfl, rfl, rfl, (by first | rfl | exact ksub rfl (by first | omega | (simp; done) | (simp; omega))), trivial⟩ (fun _ s => s)
  · refine wp_ex (qs_x (qs_x (qs_bx (qs_n (wp_sc (wp_sq (sq_v rfl (v_move rfl) rfl ?_))))))); refine sq_u rfl (x_callv rfl en_36 (fun w s => ct_i_Join (xs.map Lib.itoa) _ _ w (by have e : (xs.map Lib.itoa).take i ++ List.replicate (xs.length - i) [] = xs.map Lib.itoa := (by rw [show xs.length - i = 0 by omega, List.take_of_length_le (by rw [List.length_map]; omega)]; simp); rw [e] at q; exact q.toR.mono (s.get 0 rfl)) (by rw [List.length_map]; omega) (Nat.le_trans (elemT_len hsm) (by decide)))) rfl ?_; refine sq_v rfl (v_assign rfl) rfl (sq_end (qs_n (wp_rt ?_))); exact qs_ret1 rfl rfl (fin_q (i := 1) rfl (rfl))
end Go.Proofs.YtiefkcaplhnnmaaGreatDoor
namespace Go.Proofs.YtiefkcaplhnnmaaGreatDoor
set_option maxRecDepth 100000
open Go.RowKit
def axT (l d : Int) : List UInt8 := Lib.itoa l ++ [58] ++ Lib.itoa d
def axW (t : Ten) (i : Nat) : List (List UInt8) := (List.range i).map fun j => axT (t.l.getD j 0) (t.d.getD j 0)
def elW (k n : Int) (t : Ten) (m : Nat) : List (List UInt8) := (List.range m).map fun (j : Nat) => elemT (elt t.x (widthI k n) j)
def tenW (k n : Int) (t : Ten) : List (List UInt8) := axW t t.l.length ++ [[61]] ++ elW k n t (prodI t.d).toNat
def tenTx (k n : Int) (t : Ten) : List UInt8 := Lib.join (tenW k n t) [32]
theorem axW_step (t : Ten) (i : Nat) : axW t (i + 1) = axW t i ++ [Lib.itoa (t.l.getD i 0) ++ [58] ++ Lib.itoa (t.d.getD i 0)] := by simp [axW, List.range_succ, axT]
theorem elW_step (k n : Int) (t : Ten) (m : Nat) : elW k n t (m + 1) = elW k n t m ++ [elemT (elt t.x (widthI k n) m)] := by simp [elW, List.range_succ]
theorem axW_len (t : Ten) (i : Nat) : (axW t i).length = i := by simp [axW]
theorem elW_len (k n : Int) (t : Ten) (i : Nat) : (elW k n t i).length = i := by simp [elW]
section
variable {k p n : Int} {t : Ten}
theorem ten_i64 (h : tensorL k p n t.l t.d t.x) {i : Nat} (hi : i < t.l.length) : I64 (t.l.getD i 0) ∧ I64 (t.d.getD i 0) := by
  have ha := (sizeI_ge.1 h.2.1).1; have h1 := ha.2.2 i hi
  unfold axP at h1
  constructor <;> constructor <;> omega
theorem ten_el (h : tensorL k p n t.l t.d t.x) {j : Nat} (hj : (j : Int) < prodI t.d) : (j : Int) * widthI k n + widthI k n ≤ t.x.length ∧ small21 (elt t.x (widthI k n) j) ∧ InR k p n (elt t.x (widthI k n) j) := by
  have hw := width_range h.1; have h1 := ten_facts h; have hi := elt_inR h (i := (j : Int)) (by omega) hj; refine ⟨?_, in_small h.1 hi, hi⟩; have h2 : ((j : Int) + 1) * widthI k n ≤ prodI t.d * widthI k n := Int.mul_le_mul_of_nonneg_right (by omega) (by omega); rw [Int.add_mul, Int.one_mul] at h2
  omega
theorem ten_xlen (h : tensorL k p n t.l t.d t.x) : (t.x.length : Int) ≤ 24576 := by
  have h1 := ten_facts h; have hw := width_range h.1; have h2 : prodI t.d * widthI k n ≤ 4096 * 6 := Int.mul_le_mul h1.2.2.1 hw.2 (by omega) (by omega)
  omega
theorem tenW_small (h : tensorL k p n t.l t.d t.x) : (tenW k n t).length ≤ 4109 ∧ ∀ y ∈ tenW k n t, y.length ≤ 132 := by
  have h1 := ten_facts h
  constructor
  · unfold tenW
    rw [List.length_append, List.length_append, axW_len, elW_len]; simp only [List.length_cons, List.length_nil]
    omega
  · intro y hy
    unfold tenW at hy
    rcases List.mem_append.1 hy with hy | hy
    · rcases List.mem_append.1 hy with hy | hy
      · obtain ⟨j, hj, rfl⟩ := List.mem_map.1 hy; have h2 := ten_i64 h (List.mem_range.1 hj); have h3 := itoa_len h2.1; have h4 := itoa_len h2.2; simp only [axT, List.length_append, List.length_cons, List.length_nil]
        omega
      · rw [List.mem_singleton.1 hy]; decide
    · obtain ⟨j, hj, rfl⟩ := List.mem_map.1 hy; have hj := List.mem_range.1 hj; exact elemT_len (ten_el h (j := j) (by omega)).2.1
theorem tenTx_len (h : tensorL k p n t.l t.d t.x) : (tenTx k n t).length ≤ 546497 := by
  have h1 := tenW_small h; have h2 := join_le (sep := [32]) h1.2; have h3 := Nat.mul_le_mul_right 133 h1.1; exact Nat.le_trans h2 (Nat.le_trans h3 (by decide))
theorem tenTx_take (h : tensorL k p n t.l t.d t.x) (i : Nat) : (Lib.join ((tenW k n t).take i) [32]).length ≤ 1000000000 := by
  have h1 := tenW_small h; have h2 := join_take_le (sep := [32]) h1.2 i; have h3 := Nat.mul_le_mul_right 133 h1.1; exact Nat.le_trans h2 (Nat.le_trans h3 (by decide))
theorem ten_no (h : tensorB k p n t.l t.d t.x = false) : strV [] = strV (ifT (tensorB k p n t.l t.d t.x) (tenTx k n t)) := by rw [h]; rfl
theorem ten_yes (h : tensorB k p n t.l t.d t.x = true) : strV (tenTx k n t) = strV (ifT (tensorB k p n t.l t.d t.x) (tenTx k n t)) := by rw [h]; rfl
theorem ten_done {q : List (List UInt8)} {j : Nat} (h : tensorL k p n t.l t.d t.x) (hj : (j : Int) = prodI t.d) (hq : q = axW t t.l.length ++ [[61]] ++ elW k n t j) : q = tenW k n t := by
  rw [hq, tenW, show (prodI t.d).toNat = j by omega]
end
theorem tensorB_iff {k p n : Int} {t : Ten} : tensorB k p n t.l t.d t.x = true ↔ tensorL k p n t.l t.d t.x := by simp [tensorB]
set_option maxHeartbeats 2000000 in
theorem ct_s_FormatTensor (k p n : Int) (t : Ten) (a b c : Value) (w : World) (r1 : IntsR t.l a (hp w)) (r2 : IntsR t.d b (hp w)) (r3 : IntsR t.x c (hp w)) :
    Calls Tryz.prog 26 [ringV k p n, tenV a b c].toArray w (RetV w (strV (ifT (tensorB k p n t.l t.d t.x) (tenTx k n t)))) := by
  refine calls_in Tryz.func26 rfl Tryz.ntmps26 rfl (Sat.start w) ?_; have hle0 := r1.le; have hle1 := r2.le; have hle2 := r3.le; refine wp_sc (wp_sq ?_); refine sq_x rfl (x_box rfl rfl) rfl ?_; rintro _ _ ⟨b2, rfl, rfl⟩; refine sq_x rfl (x_box rfl rfl) rfl ?_; rintro _ _ ⟨b3, rfl, rfl⟩; refine sq_v rfl (v_assign rfl) rfl (sq_end (qs_n (wp_sc (wp_sc (wp_sq (sq_v rfl (v_loadNB 1 ty_36 rfl rfl rfl rfl) rfl (sq_v rfl (v_loadNB 0 ty_42 rfl rfl rfl rfl) rfl (sq_u rfl (x_callv rfl en_61 (fun w s => ct_s_TensorOk _ _ _ _ _ _ _ _ _ w (r1.mono (s.get 2 rfl)) (r2.mono (s.get 2 rfl)) (r3.mono (s.get 2 rfl)))) rfl (sq_v rfl (v_not rfl) rfl (sq_end (qs_n ?_))))))))))); refine wp_cn _ rfl (fun c12 => ?_) (fun c12 => ?_)
  · refine wp_sc (wp_sq (sq_v rfl (v_assign rfl) rfl (sq_end (qs_n (wp_rt (qs_r ?_)))))); exact qs_ret1 rfl rfl (fin_q (i := 2) rfl (ten_no c12))
  · refine wp_sk (qs_n (wp_sc (wp_sq ?_))); refine sq_x rfl (x_build0 Tryz.underlying70 ty_9) rfl ?_; intro v13 h13 (r13 : StrsO [] v13 h13); refine sq_v rfl (v_assign rfl) rfl (sq_end (qs_n (wp_sc (wp_sc (wp_sq (sq_v rfl (v_fieldAddr fd_42_0 ty_25 (by decide) rfl) rfl (sq_v rfl (v_loadB 1 ty_25 rfl rfl rfl) rfl ?_))))))); have ht := tensorB_iff.1 c12; have hr := ht.1; have hf := ten_facts ht; have hlen : t.l.length = t.d.length := (sizeI_ge.1 ht.2.1).1.2.1; have hwd := width_range hr; have hxl := ten_xlen ht; refine sq_v rfl (v_len Tryz.underlying25 rfl r1.sl) rfl (sq_v rfl (v_move rfl) rfl (sq_end (qs_n (wp_bl ?_)))); refine wp_lp (σ := Nat × Value × PH) (fun z_ => [(2, .pointer (some ⟨b2, 0, none⟩)), (3, .pointer (some ⟨b3, 0, none⟩)), (4, strV []), (5, z_.2.1), (15, a), (16, num t.l.length), (17, num z_.1)]) (fun z_ => [z_.2.2, box b3 [a, b, c] 42, box b2 [num k, num p, num n] 36, hp w]) (fun z_ => z_.1 ≤ t.l.length ∧ StrsO (axW t z_.1) z_.2.1 z_.2.2) (fun z_ => t.l.length - z_.1) (0, v13, h13) (⟨by (try dsimp only); omega, r13⟩) ⟨rfl, rfl, rfl, (by first | rfl | exact ksub rfl (by first | omega | (simp; done) | (simp; omega))), rfl, rfl, (by first | rfl | exact ksub rfl (by first | omega | (simp; done) | (simp; omega))), trivial⟩ (fun _ s => s) ?_; rintro ⟨i, vx, hx⟩ ⟨hi, q⟩; dsimp only at hi q ⊢; have hal := axW_len t i; refine wp_sc (wp_sq (sq_v rfl (v_lss rfl rfl) rfl (sq_end (qs_n (wp_sc ?_))))); refine wp_cd rfl (fun c18 => ?_) (fun c18 => ?_)
    · refine wp_sk (qs_n (wp_sc (wp_bl (wp_sc (wp_sq (sq_v rfl (v_move rfl) rfl ?_)))))); refine sq_v rfl (v_idxI Tryz.underlying25 ty_3 rfl rfl r1 (by first | omega | (simp; omega) | (simp only [List.length_append, List.length_cons, List.length_nil]; omega) | (rw [List.length_set]; omega)) (by first | omega | (simp; omega) | (simp only [List.length_append, List.length_cons, List.length_nil]; omega) | (rw [List.length_set]; omega))) rfl ?_; refine sq_v rfl (v_loadI (k := i) 3 ty_3 rfl rfl r1 (by first | omega | (simp; omega) | (simp only [List.length_append, List.length_cons, List.length_nil]; omega) | (rw [List.length_set]; omega))) rfl ?_; refine sq_v rfl (v_assign rfl) rfl (sq_v rfl (v_assign rfl) rfl (sq_end (qs_n (wp_rj 12 [(0, true), (1, true), (4, true), (5, true), (6, true), (7, true), (8, true), (2, false), (3, true), (9, false), (10, true), (11, false), (12, false), (13, false)] mixed_ok (by kernel_rfl) ?_)))); have hI := ten_i64 ht (i := i) (by omega); have hI1 := hI.1; have hI2 := hI.2; have hL1 := itoa_len hI1; have hL2 := itoa_len hI2; refine rj_v rfl rfl (v_move rfl) rfl (rj_v rfl rfl (v_move rfl) rfl (rj_v rfl rfl (v_fieldAddr fd_42_1 ty_25 (by decide) rfl) rfl (rj_v rfl rfl (v_loadB 1 ty_25 rfl rfl rfl) rfl (rj_v rfl rfl (v_move rfl) rfl ?_)))); refine rj_v rfl rfl (v_idxI Tryz.underlying25 ty_3 rfl rfl r2 (by first | omega | (simp; omega) | (simp only [List.length_append, List.length_cons, List.length_nil]; omega) | (rw [List.length_set]; omega)) (by first | omega | (simp; omega) | (simp only [List.length_append, List.length_cons, List.length_nil]; omega) | (rw [List.length_set]; omega))) rfl ?_; refine rj_v rfl rfl (v_loadI (k := i) 3 ty_3 rfl rfl r2 (by first | omega | (simp; omega) | (simp only [List.length_append, List.length_cons, List.length_nil]; omega) | (rw [List.length_set]; omega))) rfl ?_; refine rj_u rfl rfl (x_callv rfl en_25 (fun w s => ct_s_FormatInt _ w (by first | assumption | omega))) rfl ?_; refine rj_v rfl rfl (v_addS rfl rfl (by first | omega | (simp only [List.length_append, List.length_cons, List.length_nil]; omega))) rfl ?_; refine rj_u rfl rfl (x_callv rfl en_25 (fun w s => ct_s_FormatInt _ w (by first | assumption | omega))) rfl ?_; refine rj_v rfl rfl (v_addS rfl rfl (by first | omega | (simp only [List.length_append, List.length_cons, List.length_nil]; omega))) rfl ?_; refine rj_x rfl rfl (x_buildS [strV (((Lib.itoa (t.l.getD i 0)) ++ [58]) ++ (Lib.itoa (t.d.getD i 0)))] Tryz.underlying70 ty_9 (by decide) rfl rfl rfl (by decide) (by decide) (by intro v hv; simp at hv; rcases hv with rfl <;> rfl)) rfl ?_; intro v33 h33 (r33 : StrsO [(((Lib.itoa (t.l.getD i 0)) ++ [58]) ++ (Lib.itoa (t.d.getD i 0)))] v33 h33); refine rj_m 1 rfl rfl rfl rfl (m_appU 1 0 Tryz.underlying70 ty_9 rfl rfl rfl rfl q rfl r33.toR (by first | omega | (simp; omega) | (simp only [List.length_append, List.length_cons, List.length_nil]; omega) | (rw [List.length_set]; omega))) rfl ?_; intro v34 h_r34 r34; refine rj_fv rfl rfl (v_assign rfl) rfl (rj_end (qs_bn (qs_n (wp_sq ?_)))); refine sq_v rfl (v_add rfl rfl ((by unfold I64; omega))) rfl ?_; refine sq_v rfl (v_move rfl) rfl (sq_end ?_); exact qs_bk (i + 1, v34, h_r34) ⟨by (try dsimp only); omega, by (try dsimp only); rw [axW_step]; exact r34⟩ (by simp only; omega) ⟨rfl, rfl, rfl, (by first | rfl | exact ksub rfl (by first | omega | (simp; done) | (simp; omega))), rfl, rfl, (by first | rfl | exact ksub rfl (by first | omega | (simp; done) | (simp; omega))), trivial⟩ (fun _ s => s.pick [1, 2, 3, 4] (by decide) rfl)
    · refine wp_ex (qs_x (qs_x (qs_bx (qs_n (wp_sc (wp_sq (sq_v rfl (v_move rfl) rfl ?_))))))); refine sq_x rfl (x_buildS [strV [61]] Tryz.underlying70 ty_9 (by decide) rfl rfl rfl (by decide) (by decide) (by intro v hv; simp at hv; rcases hv with rfl <;> rfl)) rfl ?_; intro v37 h37 (r37 : StrsO [[61]] v37 h37); refine sq_m 1 rfl rfl (m_appU 1 0 Tryz.underlying70 ty_9 rfl rfl rfl rfl q rfl r37.toR (by first | omega | (simp; omega) | (simp only [List.length_append, List.length_cons, List.length_nil]; omega) | (rw [List.length_set]; omega))) rfl ?_; intro v38 h_r38 r38; refine sq_v rfl (v_assign rfl) rfl (sq_end ?_); have e0 : axW t i = axW t t.l.length := by rw [show i = t.l.length by omega]
      rw [e0] at r38; refine qs_n (wp_sc (wp_sc (wp_sq (sq_v rfl (v_assign rfl) rfl (sq_end (qs_n (wp_bl ?_))))))); refine wp_lp (σ := Nat × Value × PH) (fun z_ => [(2, .pointer (some ⟨b2, 0, none⟩)), (3, .pointer (some ⟨b3, 0, none⟩)), (4, strV []), (5, z_.2.1), (8, num z_.1)]) (fun z_ => [h37, z_.2.2, box b3 [a, b, c] 42, box b2 [num k, num p, num n] 36, hp w]) (fun z_ => (z_.1 : Int) ≤ prodI t.d ∧ StrsO (axW t t.l.length ++ [[61]] ++ elW k n t z_.1) z_.2.1 z_.2.2) (fun z_ => (prodI t.d).toNat - z_.1) (0, v38, h_r38) (⟨by (try dsimp only); omega, by (try dsimp only); simpa [elW] using r38⟩) ⟨rfl, rfl, rfl, (by first | rfl | exact ksub rfl (by first | omega | (simp; done) | (simp; omega))), (by first | rfl | exact ksub rfl (by first | omega | (simp; done) | (simp; omega))), trivial⟩ (fun _ s => s) ?_; rintro ⟨j, vx, hx⟩ ⟨hj, q⟩; dsimp only at hj q ⊢; have hel := elW_len k n t j; have hal := axW_len t t.l.length; refine wp_sc (wp_sc (wp_sq (sq_v rfl (v_move rfl) rfl (sq_v rfl (v_fieldAddr fd_42_1 ty_25 (by decide) rfl) rfl (sq_v rfl (v_loadB 2 ty_25 rfl rfl rfl) rfl (sq_u rfl (x_callv rfl en_65 (fun w s => ct_s_l05Product _ _ _ w (r2.mono (s.get 4 rfl)) hf.1 (by omega))) rfl (sq_v rfl (v_lss rfl rfl) rfl (sq_end (qs_n ?_))))))))); refine wp_cd rfl (fun c43 => ?_) (fun c43 => ?_)
      · refine wp_sk (qs_n (wp_sc (wp_bl (wp_rj 8 [(0, true), (1, true), (2, true), (3, true), (4, true), (5, false), (6, false), (7, false), (8, false), (9, false)] mixed_ok (by kernel_rfl) ?_)))); have hE := ten_el ht (j := j) (by omega); have hE1 := hE.1; have hE2 := hE.2.1; have hE3 := hE.2.2; refine rj_v rfl rfl (v_move rfl) rfl (rj_v rfl rfl (v_loadNB 3 ty_36 rfl rfl rfl rfl) rfl (rj_v rfl rfl (v_loadNB 3 ty_36 rfl rfl rfl rfl) rfl (rj_v rfl rfl (v_loadNB 2 ty_42 rfl rfl rfl rfl) rfl (rj_v rfl rfl (v_move rfl) rfl ?_)))); refine rj_x rfl rfl (x_call rfl en_67 (fun w s => ct_s_l05Get _ _ _ _ _ _ _ _ w (by first | assumption | omega) (r3.mono (s.get 4 rfl)) (by omega) hE1 (by first | assumption | omega))) rfl ?_; rintro v51 h51 r51; refine rj_u rfl rfl (x_callv rfl en_66 (fun w s => ct_s_FormatElemIn _ _ _ _ _ w (r51.toR.mono (s.get 0 rfl)) hr hE3)) rfl ?_; refine rj_x rfl rfl (x_buildS [strV (elemT (elt t.x (widthI k n) j))] Tryz.underlying70 ty_9 (by decide) rfl rfl rfl (by decide) (by decide) (by intro v hv; simp at hv; rcases hv with rfl <;> rfl)) rfl ?_; intro v53 h53 (r53 : StrsO [(elemT (elt t.x (widthI k n) j))] v53 h53); refine rj_m 3 rfl rfl rfl rfl (m_appU 3 0 Tryz.underlying70 ty_9 rfl rfl rfl rfl q rfl r53.toR (by first | omega | (simp; omega) | (simp only [List.length_append, List.length_cons, List.length_nil]; omega) | (rw [List.length_set]; omega))) rfl ?_; intro v54 h_r54 r54; refine rj_fv rfl rfl (v_assign rfl) rfl (rj_end (qs_bn (qs_n (wp_sq (sq_v rfl (v_move rfl) rfl ?_))))); refine sq_v rfl (v_add rfl rfl ((by unfold I64; omega))) rfl ?_; refine sq_v rfl (v_assign rfl) rfl (sq_end ?_); exact qs_bk (j + 1, v54, h_r54) ⟨by (try dsimp only); omega, by (try dsimp only); rw [elW_step, ← List.append_assoc]; exact r54⟩ (by simp only; omega) ⟨rfl, rfl, rfl, (by first | rfl | exact ksub rfl (by first | omega | (simp; done) | (simp; omega))), (by first | rfl | exact ksub rfl (by first | omega | (simp; done) | (simp; omega))), trivial⟩ (fun _ s => s.pick [2, 3, 4, 5, 6] (by decide) rfl)
      · refine wp_ex (qs_x (qs_x (qs_bx (qs_n (wp_sc (wp_sq (sq_v rfl (v_move rfl) rfl ?_))))))); refine sq_u rfl (x_callv rfl en_64 (fun w s => ct_s_Join (tenW k n t) _ _ w (by have e := ten_done (q := axW t t.l.length ++ [[61]] ++ elW k n t j) ht (by omega) rfl; rw [e] at q; exact q.toR.mono (s.get 1 rfl)) (fun i _ => tenTx_take ht i) (by decide) (fun x hx => Nat.le_trans ((tenW_small ht).2 x hx) (by decide)))) rfl ?_; refine sq_v rfl (v_assign rfl) rfl (sq_end (qs_n (wp_rt ?_))); exact qs_ret1 rfl rfl (fin_q (i := 4) rfl (ten_yes c12))
set_option maxHeartbeats 2000000 in
theorem ct_i_FormatTensor (k p n : Int) (t : Ten) (a b c : Value) (w : World) (tb : PowR (hp w)) (r1 : IntsR t.l a (hp w)) (r2 : IntsR t.d b (hp w)) (r3 : IntsR t.x c (hp w)) :
    Calls Tryz.prog 35 [ringV k p n, tenV a b c].toArray w (RetV w (strV (ifT (tensorB k p n t.l t.d t.x) (tenTx k n t)))) := by
  refine calls_in Tryz.func35 rfl Tryz.ntmps35 rfl (Sat.start w) ?_; have hle0 := r1.le; have hle1 := r2.le; have hle2 := r3.le; refine wp_sc (wp_sq ?_); refine sq_x rfl (x_box rfl rfl) rfl ?_; rintro _ _ ⟨b2, rfl, rfl⟩; refine sq_x rfl (x_box rfl rfl) rfl ?_; rintro _ _ ⟨b3, rfl, rfl⟩; refine sq_v rfl (v_assign rfl) rfl (sq_end (qs_n (wp_sc (wp_sc (wp_sq (sq_v rfl (v_loadNB 1 ty_36 rfl rfl rfl rfl) rfl (sq_v rfl (v_loadNB 0 ty_42 rfl rfl rfl rfl) rfl (sq_u rfl (x_callv rfl en_72 (fun w s => ct_i_TensorOk _ _ _ _ _ _ _ _ _ w (r1.mono (s.get 2 rfl)) (r2.mono (s.get 2 rfl)) (r3.mono (s.get 2 rfl)))) rfl (sq_v rfl (v_not rfl) rfl (sq_end (qs_n ?_))))))))))); refine wp_cn _ rfl (fun c12 => ?_) (fun c12 => ?_)
  · refine wp_sc (wp_sq (sq_v rfl (v_assign rfl) rfl (sq_end (qs_n (wp_rt (qs_r ?_)))))); exact qs_ret1 rfl rfl (fin_q (i := 2) rfl (ten_no c12))
  · refine wp_sk (qs_n (wp_sc (wp_sq (sq_v rfl (v_assign rfl) rfl (sq_end (qs_n (wp_sc (wp_sc (wp_sq (sq_v rfl (v_fieldAddr fd_42_0 ty_25 (by decide) rfl) rfl (sq_v rfl (v_loadB 0 ty_25 rfl rfl rfl) rfl ?_))))))))))); have ht := tensorB_iff.1 c12; have hr := ht.1; have hf := ten_facts ht; have hlen : t.l.length = t.d.length := (sizeI_ge.1 ht.2.1).1.2.1; have hwd := width_range hr; have hxl := ten_xlen ht; refine sq_v rfl (v_len Tryz.underlying25 rfl r1.sl) rfl (sq_v rfl (v_move rfl) rfl (sq_end (qs_n (wp_bl ?_)))); refine wp_lp (σ := Nat × Value × PH) (fun z_ => [(2, .pointer (some ⟨b2, 0, none⟩)), (3, .pointer (some ⟨b3, 0, none⟩)), (4, strV []), (5, z_.2.1), (14, a), (15, num t.l.length), (16, num z_.1)]) (fun z_ => [z_.2.2, box b3 [a, b, c] 42, box b2 [num k, num p, num n] 36, hp w]) (fun z_ => z_.1 ≤ t.l.length ∧ StrsO (axW t z_.1) z_.2.1 z_.2.2) (fun z_ => t.l.length - z_.1) (0, .slice none 0 0, emp) (⟨by (try dsimp only); omega, StrsO.nil⟩) ⟨rfl, rfl, rfl, (by first | rfl | exact ksub rfl (by first | omega | (simp; done) | (simp; omega))), rfl, rfl, (by first | rfl | exact ksub rfl (by first | omega | (simp; done) | (simp; omega))), trivial⟩ (fun _ s => (emp_sat s)) ?_; rintro ⟨i, vx, hx⟩ ⟨hi, q⟩; dsimp only at hi q ⊢; have hal := axW_len t i; refine wp_sc (wp_sq (sq_v rfl (v_lss rfl rfl) rfl (sq_end (qs_n (wp_sc ?_))))); refine wp_cd rfl (fun c17 => ?_) (fun c17 => ?_)
    · refine wp_sk (qs_n (wp_sc (wp_bl (wp_sc (wp_sq (sq_v rfl (v_move rfl) rfl ?_)))))); refine sq_v rfl (v_idxI Tryz.underlying25 ty_3 rfl rfl r1 (by first | omega | (simp; omega) | (simp only [List.length_append, List.length_cons, List.length_nil]; omega) | (rw [List.length_set]; omega)) (by first | omega | (simp; omega) | (simp only [List.length_append, List.length_cons, List.length_nil]; omega) | (rw [List.length_set]; omega))) rfl ?_; refine sq_v rfl (v_loadI (k := i) 3 ty_3 rfl rfl r1 (by first | omega | (simp; omega) | (simp only [List.length_append, List.length_cons, List.length_nil]; omega) | (rw [List.length_set]; omega))) rfl ?_; refine sq_v rfl (v_assign rfl) rfl (sq_v rfl (v_assign rfl) rfl (sq_end (qs_n (wp_rj 12 [(0, true), (1, true), (4, true), (5, true), (6, true), (7, true), (8, true), (2, false), (3, true), (9, false), (10, true), (11, false), (12, false), (13, false)] mixed_ok (by kernel_rfl) ?_)))); have hI := ten_i64 ht (i := i) (by omega); have hI1 := hI.1; have hI2 := hI.2; have hL1 := itoa_len hI1; have hL2 := itoa_len hI2; refine rj_v rfl rfl (v_move rfl) rfl (rj_v rfl rfl (v_move rfl) rfl (rj_v rfl rfl (v_fieldAddr fd_42_1 ty_25 (by decide) rfl) rfl (rj_v rfl rfl (v_loadB 1 ty_25 rfl rfl rfl) rfl (rj_v rfl rfl (v_move rfl) rfl ?_)))); refine rj_v rfl rfl (v_idxI Tryz.underlying25 ty_3 rfl rfl r2 (by first | omega | (simp; omega) | (simp only [List.length_append, List.length_cons, List.length_nil]; omega) | (rw [List.length_set]; omega)) (by first | omega | (simp; omega) | (simp only [List.length_append, List.length_cons, List.length_nil]; omega) | (rw [List.length_set]; omega))) rfl ?_; refine rj_v rfl rfl (v_loadI (k := i) 3 ty_3 rfl rfl r2 (by first | omega | (simp; omega) | (simp only [List.length_append, List.length_cons, List.length_nil]; omega) | (rw [List.length_set]; omega))) rfl ?_; refine rj_u rfl rfl (x_callv rfl en_34 (fun w s => ct_i_FormatInt _ w (tb.mono (s.get 3 rfl)) (by first | assumption | omega))) rfl ?_; refine rj_v rfl rfl (v_addS rfl rfl (by first | omega | (simp only [List.length_append, List.length_cons, List.length_nil]; omega))) rfl ?_; refine rj_u rfl rfl (x_callv rfl en_34 (fun w s => ct_i_FormatInt _ w (tb.mono (s.get 3 rfl)) (by first | assumption | omega))) rfl ?_; refine rj_v rfl rfl (v_addS rfl rfl (by first | omega | (simp only [List.length_append, List.length_cons, List.length_nil]; omega))) rfl ?_; refine rj_x rfl rfl (x_buildS [strV (((Lib.itoa (t.l.getD i 0)) ++ [58]) ++ (Lib.itoa (t.d.getD i 0)))] Tryz.underlying70 ty_9 (by decide) rfl rfl rfl (by decide) (by decide) (by intro v hv; simp at hv; rcases hv with rfl <;> rfl)) rfl ?_; intro v32 h32 (r32 : StrsO [(((Lib.itoa (t.l.getD i 0)) ++ [58]) ++ (Lib.itoa (t.d.getD i 0)))] v32 h32); refine rj_m 1 rfl rfl rfl rfl (m_appU 1 0 Tryz.underlying70 ty_9 rfl rfl rfl rfl q rfl r32.toR (by first | omega | (simp; omega) | (simp only [List.length_append, List.length_cons, List.length_nil]; omega) | (rw [List.length_set]; omega))) rfl ?_; intro v33 h_r33 r33; refine rj_fv rfl rfl (v_assign rfl) rfl (rj_end (qs_bn (qs_n (wp_sq ?_)))); refine sq_v rfl (v_add rfl rfl ((by unfold I64; omega))) rfl ?_; refine sq_v rfl (v_move rfl) rfl (sq_end ?_); exact qs_bk (i + 1, v33, h_r33) ⟨by (try dsimp only); omega, by (try dsimp only); rw [axW_step]; exact r33⟩ (by simp only; omega) ⟨rfl, rfl, rfl, (by first | rfl | exact ksub rfl (by first | omega | (simp; done) | (simp; omega))), rfl, rfl, (by first | rfl | exact ksub rfl (by first | omega | (simp; done) | (simp; omega))), trivial⟩ (fun _ s => s.pick [1, 2, 3, 4] (by decide) rfl)
    · refine wp_ex (qs_x (qs_x (qs_bx (qs_n (wp_sc (wp_sq (sq_v rfl (v_move rfl) rfl ?_))))))); refine sq_x rfl (x_buildS [strV [61]] Tryz.underlying70 ty_9 (by decide) rfl rfl rfl (by decide) (by decide) (by intro v hv; simp at hv; rcases hv with rfl <;> rfl)) rfl ?_; intro v36 h36 (r36 : StrsO [[61]] v36 h36); refine sq_m 1 rfl rfl (m_appU 1 0 Tryz.underlying70 ty_9 rfl rfl rfl rfl q rfl r36.toR (by first | omega | (simp; omega) | (simp only [List.length_append, List.length_cons, List.length_nil]; omega) | (rw [List.length_set]; omega))) rfl ?_; intro v37 h_r37 r37; refine sq_v rfl (v_assign rfl) rfl (sq_end ?_); have e0 : axW t i = axW t t.l.length := by rw [show i = t.l.length by omega]
      rw [e0] at r37; refine qs_n (wp_sc (wp_sc (wp_sq (sq_v rfl (v_assign rfl) rfl (sq_end (qs_n (wp_bl ?_))))))); refine wp_lp (σ := Nat × Value × PH) (fun z_ => [(2, .pointer (some ⟨b2, 0, none⟩)), (3, .pointer (some ⟨b3, 0, none⟩)), (4, strV []), (5, z_.2.1), (8, num z_.1)]) (fun z_ => [h36, z_.2.2, box b3 [a, b, c] 42, box b2 [num k, num p, num n] 36, hp w]) (fun z_ => (z_.1 : Int) ≤ prodI t.d ∧ StrsO (axW t t.l.length ++ [[61]] ++ elW k n t z_.1) z_.2.1 z_.2.2) (fun z_ => (prodI t.d).toNat - z_.1) (0, v37, h_r37) (⟨by (try dsimp only); omega, by (try dsimp only); simpa [elW] using r37⟩) ⟨rfl, rfl, rfl, (by first | rfl | exact ksub rfl (by first | omega | (simp; done) | (simp; omega))), (by first | rfl | exact ksub rfl (by first | omega | (simp; done) | (simp; omega))), trivial⟩ (fun _ s => s) ?_; rintro ⟨j, vx, hx⟩ ⟨hj, q⟩; dsimp only at hj q ⊢; have hel := elW_len k n t j; have hal := axW_len t t.l.length; refine wp_sc (wp_sc (wp_sq (sq_v rfl (v_move rfl) rfl (sq_v rfl (v_fieldAddr fd_42_1 ty_25 (by decide) rfl) rfl (sq_v rfl (v_loadB 2 ty_25 rfl rfl rfl) rfl (sq_u rfl (x_callv rfl en_75 (fun w s => ct_i_productOf _ _ w (r2.mono (s.get 4 rfl)) hf.1 (by omega))) rfl (sq_v rfl (v_lss rfl rfl) rfl (sq_end (qs_n ?_))))))))); refine wp_cd rfl (fun c42 => ?_) (fun c42 => ?_)
      · refine wp_sk (qs_n (wp_sc (wp_bl (wp_sq ?_)))); have hE := ten_el ht (j := j) (by omega); have hE1 := hE.1; have hE2 := hE.2.1; have hE3 := hE.2.2; refine sq_v rfl (v_move rfl) rfl (sq_v rfl (v_loadNB 3 ty_36 rfl rfl rfl rfl) rfl (sq_v rfl (v_loadNB 2 ty_42 rfl rfl rfl rfl) rfl (sq_v rfl (v_move rfl) rfl (sq_u rfl (x_callv rfl en_77 (fun w s => ct_i_rawElem _ _ _ _ _ _ _ _ w (by first | assumption | omega) (r3.mono (s.get 4 rfl)) (by omega) hE1 (by first | assumption | omega))) rfl (sq_u rfl (x_callv rfl en_76 (fun w s => ct_i_rawElemText _ _ w (tb.mono (s.get 4 rfl)) ((eltV_read r3 (by first | assumption | omega) (by first | assumption | omega) (by first | assumption | omega)).mono (s.get 4 rfl)) hE2)) rfl ?_))))); refine sq_x rfl (x_buildS [strV (elemT (elt t.x (widthI k n) j))] Tryz.underlying70 ty_9 (by decide) rfl rfl rfl (by decide) (by decide) (by intro v hv; simp at hv; rcases hv with rfl <;> rfl)) rfl ?_; intro v51 h51 (r51 : StrsO [(elemT (elt t.x (widthI k n) j))] v51 h51); refine sq_m 2 rfl rfl (m_appU 2 0 Tryz.underlying70 ty_9 rfl rfl rfl rfl q rfl r51.toR (by first | omega | (simp; omega) | (simp only [List.length_append, List.length_cons, List.length_nil]; omega) | (rw [List.length_set]; omega))) rfl ?_; intro v52 h_r52 r52; refine sq_v rfl (v_assign rfl) rfl (sq_end (qs_bn (qs_n (wp_sq (sq_v rfl (v_move rfl) rfl ?_))))); refine sq_v rfl (v_add rfl rfl ((by unfold I64; omega))) rfl ?_; refine sq_v rfl (v_assign rfl) rfl (sq_end ?_); exact qs_bk (j + 1, v52, h_r52) ⟨by (try dsimp only); omega, by (try dsimp only); rw [elW_step, ← List.append_assoc]; exact r52⟩ (by simp only; omega) ⟨rfl, rfl, rfl, (by first | rfl | exact ksub rfl (by first | omega | (simp; done) | (simp; omega))), (by first | rfl | exact ksub rfl (by first | omega | (simp; done) | (simp; omega))), trivial⟩ (fun _ s => s.pick [1, 2, 3, 4, 5] (by decide) rfl)
      · refine wp_ex (qs_x (qs_x (qs_bx (qs_n (wp_sc (wp_sq (sq_v rfl (v_move rfl) rfl ?_))))))); refine sq_u rfl (x_callv rfl en_36 (fun w s => ct_i_Join (tenW k n t) _ _ w (by have e := ten_done (q := axW t t.l.length ++ [[61]] ++ elW k n t j) ht (by omega) rfl; rw [e] at q; exact q.toR.mono (s.get 1 rfl)) (by have := (tenW_small ht).1; omega) (by have := tenTx_len ht; unfold tenTx at this; omega))) rfl ?_; refine sq_v rfl (v_assign rfl) rfl (sq_end (qs_n (wp_rt ?_))); exact qs_ret1 rfl rfl (fin_q (i := 4) rfl (ten_yes c12))
section
variable {k p n : Int} {ts : List Ten} {op : List Int}
theorem ten_tx {t : Ten} (h : tensorL k p n t.l t.d t.x) : ifT (tensorB k p n t.l t.d t.x) (tenTx k n t) = tenTx k n t := by rw [tensorB_iff.2 h]; rfl
end
end Go.Proofs.YtiefkcaplhnnmaaGreatDoor
