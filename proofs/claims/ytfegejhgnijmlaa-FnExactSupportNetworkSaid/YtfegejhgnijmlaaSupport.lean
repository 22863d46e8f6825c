/-
  SupportNetwork, in the program and in the reference, makes the same network.
  Conditions: none.
-/
import Derived.Test.YtfegejhgnijmlaaLaw3
namespace Go.Proofs.Ytfegejhgnijmlaa
set_option maxRecDepth 100000
open Go.RowKit

section
variable {P : Program} {n : Nat} {w0 : World} {K : Env} {HS : List PH} {d : Option Tmp} {ty : TypeId} {ps : String} {af : Array Edge} {g : Option (Nat × Bool)}
/-- 'append(ts, t)', tensors. -/
theorem m_appT {t e' : TypeId} {x y : Operand} {z : Value} {m : Nat} {a b c v u : Value} {vs : List Value} {h hy' : PH} (p q : Nat) (ht : P.underlying t = some (.slice e')) (he : TyF P e' z 3 72 true) (hz : z.cells = nil3.toArray)
    (hx : ev K x = some v) (hy : ev K y = some u) (hp' : HS[p]? = some h) (r : RowO e' vs m 3 v h) (hq : HS[q]? = some hy') (ru : RowO e' [a, b, c] 1 3 u hy') (h1 : ∀ x ∈ [a, b, c], x.oneCell' = true) (hm : m ≤ 1000) :
    StepX P n w0 K HS ⟨d, .call ⟨.builtin .append, #[x, y], #[t, t]⟩, ty, ps, af, g⟩ h (RowO e' (vs ++ [a, b, c]) (m + 1) 3) :=
  m_append p q ht he hz rfl (by decide) hx hy hp' r hq ru.toR h1 (by unfold maxLen; omega) (by omega)
end
theorem NetO.none : NetO [] [] (.slice none 0 0) (.slice none 0 0) emp :=
  ⟨[], emp, emp, [], ⟨rfl, .inl ⟨rfl, rfl, rfl⟩⟩, IntsO.nil, OwnL.nil, ⟨⟨fun x hx => PDj.emp _, fun x hx => PDj.emp _, trivial⟩, fun x hx => by simp at hx; subst hx; exact PLe.emp _, fun k o e => by cases e⟩⟩
def bitsL (k p n : Int) (t : Ten) (m : Nat) : List Int := (List.range m).map fun (i : Nat) => if elt t.x (widthI k n) i = zeroL k p n then 0 else 1
theorem bits_step (k p n : Int) (t : Ten) (m : Nat) : bitsL k p n t (m + 1) = bitsL k p n t m ++ [if elt t.x (widthI k n) m = zeroL k p n then 0 else 1] := by simp [bitsL, List.range_succ]
def suppT (k p n : Int) (t : Ten) : Ten := ⟨t.l, t.d, bitsL k p n t (prodI t.d).toNat⟩
def suppTs (k p n : Int) (ts : List Ten) : List Ten := ts.map (suppT k p n)
def SuppR (k p n : Int) (ts : List Ten) (op : List Int) (u : Value) (h : PH) : Prop :=
  (netL k p n ts op → ∃ vt vo, u = netV 3 1000000 0 vt vo ∧ NetO (suppTs k p n ts) op vt vo h) ∧ (¬ netL k p n ts op → u = netV 0 0 0 (.slice none 0 0) (.slice none 0 0) ∧ NetO [] [] (.slice none 0 0) (.slice none 0 0) h)
theorem netB_true {k p n : Int} {ts : List Ten} {op : List Int} : netB k p n ts op = true ↔ netL k p n ts op := by simp [netB]
theorem netB_false {k p n : Int} {ts : List Ten} {op : List Int} : netB k p n ts op = false ↔ ¬ netL k p n ts op := by simp [netB]
theorem ten_facts {k p n : Int} {t : Ten} (h : tensorL k p n t.l t.d t.x) : dimsIn t.d ∧ 1 ≤ prodI t.d ∧ prodI t.d ≤ 4096 ∧ (t.x.length : Int) = prodI t.d * widthI k n ∧ t.l.length ≤ 12 ∧ t.d.length ≤ 12 := by
  have h1 := sizeI_ge.1 h.2.1
  have h2 := sizeI_yes h1.1 h1.2
  have h3 := sizeI_range t.l t.d
  have h4 := h.2.2.1
  have h5 := h.2.1
  rw [h2] at h3 h4 h5
  exact ⟨axes_dims h1.1, by omega, h1.2, h4, h1.1.1, by have := h1.1.2.1; have := h1.1.1; omega⟩
theorem elt_in {s wd j l : Int} (hs : j < s) (hw : 1 ≤ wd) (hl : l = s * wd) : j * wd + wd ≤ l := by
  have h1 : (j + 1) * wd ≤ s * wd := Int.mul_le_mul_of_nonneg_right (by omega) (by omega)
  rw [Int.add_mul, Int.one_mul] at h1
  omega
theorem size_in {s wd l : Int} (hs : 1 ≤ s ∧ s ≤ 4096) (hw : 1 ≤ wd ∧ wd ≤ 6) (hl : l = s * wd) : l ≤ 24576 := by
  have : s * wd ≤ 4096 * 6 := Int.mul_le_mul hs.2 hw.2 (by omega) (by omega)
  omega
set_option maxHeartbeats 2000000 in
theorem ct_s_SupportNetwork (k p n : Int) (ts : List Ten) (op : List Int) (vt vo : Value) (w : World) (r : TensR ts vt (hp w)) (r' : IntsR op vo (hp w)) (hs : op.length ≤ 1048576) :
    Calls Try.prog 14 [netV k p n vt vo].toArray w (Ret w emp (SuppR k p n ts op)) := by
  have hx := r.le
  obtain ⟨cells, rr, hc⟩ := r.at
  refine calls_in Try.func14 rfl Try.ntmps14 rfl (Sat.start w) ?_
  refine wp_sc ?_
  refine wp_sq ?_
  refine sq_x rfl (x_box rfl rfl) rfl ?_; rintro _ _ ⟨b1, rfl, rfl⟩
  refine sq_x rfl (x_alloc ty_32 rfl) rfl ?_; rintro _ _ ⟨b2, rfl, rfl⟩
  refine sq_end ?_
  refine qs_n ?_
  refine wp_sc ?_
  refine wp_sc ?_
  refine wp_sq ?_
  refine sq_v rfl (v_loadNB 1 ty_32 rfl rfl rfl rfl) rfl ?_
  refine sq_u rfl (x_callv rfl en_58 (fun w s => ct_s_NetworkOk _ _ _ _ _ _ _ w (r.mono (s.get 2 rfl)) (r'.mono (s.get 2 rfl)) hs)) rfl ?_
  refine sq_v rfl (v_not rfl) rfl ?_
  refine sq_end ?_
  refine qs_n ?_
  refine wp_cn _ rfl (fun c11 => ?_) (fun c11 => ?_)
  · refine wp_sc ?_
    refine wp_sq ?_
    refine sq_v rfl (v_build [num 0, num 0, num 0, .slice none 0 0, .slice none 0 0] rfl (by kernel_rfl)) rfl ?_
    refine sq_m 0 rfl rfl (m_store 0 ty_32 rfl rfl rfl rfl (by simp [Value.oneCell']) rfl (Nat.le_of_ble_eq_true rfl)) rfl ?_; rintro _ _ ⟨rfl, rfl⟩
    refine sq_end ?_
    refine qs_n ?_
    refine wp_rt ?_
    refine qs_r ?_
    exact qs_retc 0 rfl ty_32 rfl rfl rfl (fin_e (i := 2) rfl ⟨fun h => absurd h (netB_false.1 c11), fun _ => ⟨rfl, NetO.none⟩⟩)
  · refine wp_sk ?_
    refine qs_n ?_
    refine wp_sc ?_
    refine wp_sq ?_
    refine sq_v rfl (v_build [num 3, num 1000000, num 0] rfl (by kernel_rfl)) rfl ?_
    refine sq_v rfl (v_fieldAddr fd_32_2 ty_25 (by decide) rfl) rfl ?_
    refine sq_v rfl (v_loadB 1 ty_25 rfl rfl rfl) rfl ?_
    have hnet := netB_true.1 c11; have hring := hnet.1; have hwd := width_range hring
    refine sq_x rfl (x_call rfl en_59 (fun w s => ct_s_l05Ints _ _ w (r'.mono (s.get 2 rfl)) (by omega))) rfl ?_; rintro v16 h16 r16
    refine sq_v rfl (v_build [num 3, num 1000000, num 0, .slice none 0 0, v16] rfl (by obtain ⟨_, _, rfl⟩ := r16.toR.sl; kernel_rfl)) rfl ?_
    refine sq_x rfl (x_alloc ty_32 rfl) rfl ?_; rintro _ _ ⟨b3, rfl, rfl⟩
    refine sq_m 0 rfl rfl (m_store 0 ty_32 rfl rfl rfl rfl (by simp [one_int, r16.toR.sl.one, one_sl]) rfl (Nat.le_of_ble_eq_true rfl)) rfl ?_; rintro _ _ ⟨rfl, rfl⟩
    refine sq_end ?_
    refine qs_n ?_
    refine wp_sc ?_
    refine wp_sc ?_
    refine wp_sq ?_
    refine sq_v rfl (v_fieldAddr fd_32_1 ty_30 (by decide) rfl) rfl ?_
    refine sq_v rfl (v_loadB 3 ty_30 rfl rfl rfl) rfl ?_
    refine sq_v rfl (v_len Try.underlying30 rfl r.sl) rfl ?_
    refine sq_v rfl (v_move rfl) rfl ?_
    refine sq_end ?_
    refine qs_n ?_
    refine wp_bl ?_
    refine wp_lp (fun s : Nat × Value × PH × List Value × List PH => [(1, .pointer (some ⟨b1, 0, none⟩)), (2, .pointer (some ⟨b2, 0, none⟩)), (3, .pointer (some ⟨b3, 0, none⟩)), (19, vt), (20, num ts.length), (21, num s.1)]) (fun s => box b3 [num 3, num 1000000, num 0, s.2.1, v16] 32 :: s.2.2.1 :: h16 :: box b2 [num 0, num 0, num 0, .slice none 0 0, .slice none 0 0] 32 :: box b1 [num k, num p, num n, vt, vo] 32 :: hp w :: s.2.2.2.2) (fun s => s.1 ≤ ts.length ∧ RowO 54 s.2.2.2.1 s.1 3 s.2.1 s.2.2.1 ∧ OwnL (flat (suppTs k p n (ts.take s.1))) s.2.2.2.1 s.2.2.2.2) (fun s => ts.length - s.1) (0, .slice none 0 0, emp, [], []) ⟨by omega, ⟨rfl, .inl ⟨rfl, rfl, rfl⟩⟩, OwnL.nil⟩ ⟨rfl, rfl, rfl, rfl, rfl, rfl, trivial⟩ (fun _ s => Sat.pick (emp_sat s) [1, 0, 2, 3, 4, 5] (by decide) rfl) ?_
    rintro ⟨i, vx, h0, vs, hs'⟩ ⟨hi, r0, ow⟩
    dsimp only at hi r0 ow ⊢
    refine wp_sc ?_
    refine wp_sq ?_
    refine sq_v rfl (v_lss rfl rfl) rfl ?_
    refine sq_end ?_
    refine qs_n ?_
    refine wp_sc ?_
    refine wp_cd rfl (fun c22 => ?_) (fun c22 => ?_)
    · refine wp_sk ?_
      refine qs_n ?_
      refine wp_sc ?_
      refine wp_bl ?_
      refine wp_sc ?_
      refine wp_sq ?_
      obtain ⟨t, a, b, c, ht, hcs, r1, r2, r3⟩ := hc i (by omega); have hten := hnet.2.2.1 t (List.mem_of_getElem? ht); obtain ⟨hdm, hp1, hp2, hxl, hll, hdl⟩ := ten_facts hten; have hxs := size_in ⟨hp1, hp2⟩ hwd hxl; have hts := hnet.2.1
      refine sq_v rfl (v_indexAddr Try.underlying30 ty_54 rfl rfl rr (by decide) (by omega) (by omega)) rfl ?_
      refine sq_v rfl (v_loadNE 5 ty_54 rfl rfl rr (by have := rr.1; omega) rfl hcs) rfl ?_
      refine sq_x rfl (x_alloc ty_54 rfl) rfl ?_; rintro _ _ ⟨b5, rfl, rfl⟩
      refine sq_m 0 rfl rfl (m_store 0 ty_54 rfl rfl rfl rfl (by simp [r1.sl.one, r2.sl.one, r3.sl.one]) rfl (Nat.le_of_ble_eq_true rfl)) rfl ?_; rintro _ _ ⟨rfl, rfl⟩
      refine sq_end ?_
      refine qs_n ?_
      refine wp_sc ?_
      refine wp_ra 8 (σ := Value × PH × Value × PH × Nat) (fun s => IntsO t.l s.1 s.2.1 ∧ IntsO t.d s.2.2.1 s.2.2.2.1) (fun s => [(1, .pointer (some ⟨b1, 0, none⟩)), (2, .pointer (some ⟨b2, 0, none⟩)), (3, .pointer (some ⟨b3, 0, none⟩)), (5, .pointer (some ⟨b5, 0, none⟩)), (6, .pointer (some ⟨s.2.2.2.2, 0, none⟩)), (19, vt), (20, num ts.length), (21, num i)]) (fun s => box s.2.2.2.2 [s.1, s.2.2.1, .slice none 0 0] 54 :: s.2.1 :: s.2.2.2.1 :: box b5 [a, b, c] 54 :: box b3 [num 3, num 1000000, num 0, vx, v16] 32 :: h0 :: h16 :: box b2 [num 0, num 0, num 0, .slice none 0 0, .slice none 0 0] 32 :: box b1 [num k, num p, num n, vt, vo] 32 :: hp w :: hs') mixed_ok (by kernel_rfl) ?_ ?_
      · refine ra_v (i := 0) (by kernel_rfl) rfl rfl (v_fieldAddr fd_54_0 ty_25 (by decide) rfl) rfl ?_
        refine ra_v (i := 1) (by kernel_rfl) rfl rfl (v_loadB 0 ty_25 rfl rfl rfl) rfl ?_
        refine ra_v (i := 3) (by kernel_rfl) rfl rfl (v_fieldAddr fd_54_1 ty_25 (by decide) rfl) rfl ?_
        refine ra_v (i := 4) (by kernel_rfl) rfl rfl (v_loadB 0 ty_25 rfl rfl rfl) rfl ?_
        refine ra_2 (i := 2) (j := 7) (by kernel_rfl) ?_ ?_
        · refine ro_x rfl rfl (x_call rfl en_59 (fun w s => ct_s_l05Ints _ _ w (r1.mono (s.get 6 rfl)) (by omega))) rfl ?_; rintro v27 h27 r27
          refine ra_2 (i := 5) (j := 7) (by kernel_rfl) ?_ ?_
          · refine ro_x rfl rfl (x_call rfl en_59 (fun w s => ct_s_l05Ints _ _ w (r2.mono (s.get 7 rfl)) (by omega))) rfl ?_; rintro v30 h30 r30
            refine ra_rj [(6, true), (7, false), (8, false)] (by kernel_rfl) rfl ?_
            refine rj_v rfl rfl (v_build [v27, v30, .slice none 0 0] rfl (by obtain ⟨_, _, rfl⟩ := r27.toR.sl; obtain ⟨_, _, rfl⟩ := r30.toR.sl; kernel_rfl)) rfl ?_
            refine rj_x rfl rfl (x_alloc ty_54 rfl) rfl ?_; rintro _ _ ⟨b6, rfl, rfl⟩
            refine rj_m 0 rfl rfl rfl rfl (m_store 0 ty_54 rfl rfl rfl rfl (by simp [r27.toR.sl.one, r30.toR.sl.one, one_sl]) rfl (Nat.le_of_ble_eq_true rfl)) rfl ?_; rintro _ _ ⟨rfl, rfl⟩
            refine rj_end ?_
            exact qs_mid (v27, h27, v30, h30, b6) ⟨r27, r30⟩ ⟨rfl, rfl, rfl, rfl, rfl, rfl, rfl, rfl, trivial⟩ (fun _ s => s.pickF 10 [0, 2, 1, 3, 4, 5, 6, 7, 8, 9] (by decide) rfl rfl)
          · refine ro_x rfl rfl (x_alloc ty_54 rfl) rfl ?_; rintro _ _ ⟨b6, rfl, rfl⟩
            refine ra_rj [(5, false), (6, true), (8, false)] (by kernel_rfl) rfl ?_
            refine rj_x rfl rfl (x_call rfl en_59 (fun w s => ct_s_l05Ints _ _ w (r2.mono (s.get 8 rfl)) (by omega))) rfl ?_; rintro v30 h30 r30
            refine rj_v rfl rfl (v_build [v27, v30, .slice none 0 0] rfl (by obtain ⟨_, _, rfl⟩ := r27.toR.sl; obtain ⟨_, _, rfl⟩ := r30.toR.sl; kernel_rfl)) rfl ?_
            refine rj_m 1 rfl rfl rfl rfl (m_store 1 ty_54 rfl rfl rfl rfl (by simp [r27.toR.sl.one, r30.toR.sl.one, one_sl]) rfl (Nat.le_of_ble_eq_true rfl)) rfl ?_; rintro _ _ ⟨rfl, rfl⟩
            refine rj_end ?_
            exact qs_mid (v27, h27, v30, h30, b6) ⟨r27, r30⟩ ⟨rfl, rfl, rfl, rfl, rfl, rfl, rfl, rfl, trivial⟩ (fun _ s => s.pickF 10 [1, 2, 0, 3, 4, 5, 6, 7, 8, 9] (by decide) rfl rfl)
        · refine ro_x rfl rfl (x_alloc ty_54 rfl) rfl ?_; rintro _ _ ⟨b6, rfl, rfl⟩
          refine ra_rj [(2, false), (5, false), (6, true), (8, false)] (by kernel_rfl) rfl ?_
          refine rj_x rfl rfl (x_call rfl en_59 (fun w s => ct_s_l05Ints _ _ w (r1.mono (s.get 7 rfl)) (by omega))) rfl ?_; rintro v27 h27 r27
          refine rj_x rfl rfl (x_call rfl en_59 (fun w s => ct_s_l05Ints _ _ w (r2.mono (s.get 8 rfl)) (by omega))) rfl ?_; rintro v30 h30 r30
          refine rj_v rfl rfl (v_build [v27, v30, .slice none 0 0] rfl (by obtain ⟨_, _, rfl⟩ := r27.toR.sl; obtain ⟨_, _, rfl⟩ := r30.toR.sl; kernel_rfl)) rfl ?_
          refine rj_m 2 rfl rfl rfl rfl (m_store 2 ty_54 rfl rfl rfl rfl (by simp [r27.toR.sl.one, r30.toR.sl.one, one_sl]) rfl (Nat.le_of_ble_eq_true rfl)) rfl ?_; rintro _ _ ⟨rfl, rfl⟩
          refine rj_end ?_
          exact qs_mid (v27, h27, v30, h30, b6) ⟨r27, r30⟩ ⟨rfl, rfl, rfl, rfl, rfl, rfl, rfl, rfl, trivial⟩ (fun _ s => s.pickF 10 [2, 1, 0, 3, 4, 5, 6, 7, 8, 9] (by decide) rfl rfl)
      · rintro ⟨v27, h27, v30, h30, b6⟩ ⟨r27, r30⟩
        dsimp only at r27 r30 ⊢
        refine qs_n ?_
        refine wp_sc ?_
        refine wp_sc ?_
        refine wp_sq ?_
        refine sq_v rfl (v_assign rfl) rfl ?_
        refine sq_end ?_
        refine qs_n ?_
        refine wp_bl ?_
        refine wp_lp (fun s : Nat × Value × PH => [(1, .pointer (some ⟨b1, 0, none⟩)), (2, .pointer (some ⟨b2, 0, none⟩)), (3, .pointer (some ⟨b3, 0, none⟩)), (5, .pointer (some ⟨b5, 0, none⟩)), (6, .pointer (some ⟨b6, 0, none⟩)), (7, num s.1), (19, vt), (20, num ts.length), (21, num i)]) (fun s => box b6 [v27, v30, s.2.1] 54 :: s.2.2 :: h27 :: h30 :: box b5 [a, b, c] 54 :: box b3 [num 3, num 1000000, num 0, vx, v16] 32 :: h0 :: h16 :: box b2 [num 0, num 0, num 0, .slice none 0 0, .slice none 0 0] 32 :: box b1 [num k, num p, num n, vt, vo] 32 :: hp w :: hs') (fun s => (s.1 : Int) ≤ prodI t.d ∧ IntsO (bitsL k p n t s.1) s.2.1 s.2.2) (fun s => (prodI t.d).toNat - s.1) (0, .slice none 0 0, emp) ⟨by simp only; omega, IntsO.nil⟩ ⟨rfl, rfl, rfl, rfl, rfl, rfl, rfl, rfl, rfl, trivial⟩ (fun _ s => (emp_sat s).pickF 11 [1, 0, 2, 3, 4, 5, 6, 7, 8, 9, 10] (by decide) rfl rfl) ?_
        rintro ⟨j, vd, hd⟩ ⟨hj, rd⟩
        dsimp only at hj rd ⊢
        have hbl : (bitsL k p n t j).length = j := by simp [bitsL]
        refine wp_sc ?_
        refine wp_sc ?_
        refine wp_sq ?_
        refine sq_v rfl (v_move rfl) rfl ?_
        refine sq_v rfl (v_fieldAddr fd_54_1 ty_25 (by decide) rfl) rfl ?_
        refine sq_v rfl (v_loadB 4 ty_25 rfl rfl rfl) rfl ?_
        refine sq_u rfl (x_callv rfl en_60 (fun w s => ct_s_l05Product _ _ _ w (r2.mono (s.get 10 rfl)) hdm (by omega))) rfl ?_
        refine sq_v rfl (v_lss rfl rfl) rfl ?_
        refine sq_end ?_
        refine qs_n ?_
        refine wp_cd rfl (fun c36 => ?_) (fun c36 => ?_)
        · refine wp_sk ?_
          refine qs_n ?_
          refine wp_sc ?_
          refine wp_bl ?_
          refine wp_sc ?_
          refine wp_sq ?_
          refine sq_v rfl (v_assign rfl) rfl ?_
          refine sq_end ?_
          refine qs_n ?_
          refine wp_sc ?_
          refine wp_sc ?_
          refine wp_rj 9 [(0, true), (1, true), (2, true), (3, true), (5, true), (6, true), (4, false), (7, false), (8, false)] mixed_ok (by kernel_rfl) ?_
          refine rj_v rfl rfl (v_fieldAddr fd_32_0 ty_29 (by decide) rfl) rfl ?_
          refine rj_v rfl rfl (v_loadNB 9 ty_29 rfl rfl rfl rfl) rfl ?_
          refine rj_v rfl rfl (v_loadNB 4 ty_54 rfl rfl rfl rfl) rfl ?_
          refine rj_v rfl rfl (v_move rfl) rfl ?_
          refine rj_v rfl rfl (v_fieldAddr fd_32_0 ty_29 (by decide) rfl) rfl ?_
          refine rj_v rfl rfl (v_loadNB 9 ty_29 rfl rfl rfl rfl) rfl ?_
          refine rj_x rfl rfl (x_call rfl en_62 (fun w s => ct_s_l05Get _ _ _ _ _ _ _ _ w hring (r3.mono (s.get 10 rfl)) (by omega) (elt_in (by omega) hwd.1 hxl) (by omega))) rfl ?_; rintro v43 h43 r43
          refine rj_x rfl rfl (x_call rfl en_63 (fun w s => ct_s_l02Zero _ _ _ w hring)) rfl ?_; rintro v46 h46 r46
          refine rj_u rfl rfl (x_callv rfl en_61 (fun w s => ct_s_l06Equal _ _ _ _ w (r43.toR.mono (s.get 1 rfl)) (r46.toR.mono (s.get 0 rfl)))) rfl ?_
          refine rj_end ?_
          refine qs_n ?_
          refine wp_cd rfl (fun c47 => ?_) (fun c47 => ?_)
          · refine wp_sq ?_
            refine sq_v rfl (v_assign rfl) rfl ?_
            refine sq_end ?_
            refine qs_n ?_
            refine wp_sq ?_
            refine sq_v rfl (v_fieldAddr fd_54_2 ty_25 (by decide) rfl) rfl ?_
            refine sq_v rfl (v_loadB 2 ty_25 rfl rfl rfl) rfl ?_
            refine sq_v rfl (v_move rfl) rfl ?_
            refine sq_x rfl (x_buildS [num (_)] Try.underlying25 ty_3 (by decide) rfl rfl rfl (by decide) (by decide) (by intro v hv; simp at hv; rcases hv with rfl <;> rfl)) rfl ?_; intro v51 h51 (r51 : IntsO [_] v51 h51)
            refine sq_m 4 rfl rfl (m_appI 4 0 Try.underlying25 ty_3 rfl rfl rfl rfl rd rfl r51.toR (by simp; omega)) rfl ?_; intro v52 h_r52 r52
            refine sq_v rfl (v_fieldAddr fd_54_2 ty_25 (by decide) rfl) rfl ?_
            refine sq_m 3 rfl rfl (m_store1 3 ty_25 rfl rfl r52.toR.sl.one rfl (Nat.le_of_ble_eq_true rfl)) rfl ?_; rintro _ _ ⟨rfl, rfl⟩
            refine sq_end ?_
            refine qs_bn ?_
            refine qs_n ?_
            refine wp_sq ?_
            refine sq_v rfl (v_move rfl) rfl ?_
            refine sq_v rfl (v_add rfl rfl ((by unfold I64; omega))) rfl ?_
            refine sq_v rfl (v_assign rfl) rfl ?_
            refine sq_end ?_
            exact qs_bk (j + 1, v52, h_r52) ⟨by simp only; omega, by simp only; rw [bits_step, if_pos c47]; exact r52⟩ (by simp only; omega) ⟨rfl, rfl, rfl, rfl, rfl, rfl, rfl, rfl, rfl, trivial⟩ (fun _ s => s.pickF 14 [3, 4, 5, 6, 7, 8, 9, 10, 11, 12, 13] (by decide) rfl rfl)
          · refine wp_sk ?_
            refine qs_n ?_
            refine wp_sq ?_
            refine sq_v rfl (v_fieldAddr fd_54_2 ty_25 (by decide) rfl) rfl ?_
            refine sq_v rfl (v_loadB 2 ty_25 rfl rfl rfl) rfl ?_
            refine sq_v rfl (v_move rfl) rfl ?_
            refine sq_x rfl (x_buildS [num (_)] Try.underlying25 ty_3 (by decide) rfl rfl rfl (by decide) (by decide) (by intro v hv; simp at hv; rcases hv with rfl <;> rfl)) rfl ?_; intro v51 h51 (r51 : IntsO [_] v51 h51)
            refine sq_m 4 rfl rfl (m_appI 4 0 Try.underlying25 ty_3 rfl rfl rfl rfl rd rfl r51.toR (by simp; omega)) rfl ?_; intro v52 h_r52 r52
            refine sq_v rfl (v_fieldAddr fd_54_2 ty_25 (by decide) rfl) rfl ?_
            refine sq_m 3 rfl rfl (m_store1 3 ty_25 rfl rfl r52.toR.sl.one rfl (Nat.le_of_ble_eq_true rfl)) rfl ?_; rintro _ _ ⟨rfl, rfl⟩
            refine sq_end ?_
            refine qs_bn ?_
            refine qs_n ?_
            refine wp_sq ?_
            refine sq_v rfl (v_move rfl) rfl ?_
            refine sq_v rfl (v_add rfl rfl ((by unfold I64; omega))) rfl ?_
            refine sq_v rfl (v_assign rfl) rfl ?_
            refine sq_end ?_
            exact qs_bk (j + 1, v52, h_r52) ⟨by simp only; omega, by simp only; rw [bits_step, if_neg c47]; exact r52⟩ (by simp only; omega) ⟨rfl, rfl, rfl, rfl, rfl, rfl, rfl, rfl, rfl, trivial⟩ (fun _ s => s.pickF 14 [3, 4, 5, 6, 7, 8, 9, 10, 11, 12, 13] (by decide) rfl rfl)
        · refine wp_ex ?_
          refine qs_x ?_
          refine qs_x ?_
          refine qs_bx ?_
          refine qs_n ?_
          refine wp_sq ?_
          refine sq_v rfl (v_fieldAddr fd_32_1 ty_30 (by decide) rfl) rfl ?_
          refine sq_v rfl (v_loadB 5 ty_30 rfl rfl rfl) rfl ?_
          refine sq_v rfl (v_loadNB 0 ty_54 rfl rfl rfl rfl) rfl ?_
          refine sq_x rfl (x_buildS [tenV v27 v30 vd] Try.underlying30 ty_54 (by decide) rfl rfl rfl (by decide) (by decide) (by intro v hv; simp at hv; subst hv; rfl)) rfl ?_; intro v57 h57 r57
          refine sq_m 7 rfl rfl (m_appT (a := v27) (b := v30) (c := vd) 7 0 Try.underlying30 ty_54 rfl rfl rfl rfl r0 rfl r57 (by simp [r27.toR.sl.one, r30.toR.sl.one, rd.toR.sl.one]) (by omega)) rfl ?_; intro v58 h58 r58
          refine sq_v rfl (v_fieldAddr fd_32_1 ty_30 (by decide) rfl) rfl ?_
          refine sq_m 6 rfl rfl (m_store1 6 ty_30 rfl rfl r58.toR.sl.one rfl (Nat.le_of_ble_eq_true rfl)) rfl ?_; rintro _ _ ⟨rfl, rfl⟩
          refine sq_end ?_
          refine qs_bn ?_
          refine qs_n ?_
          refine wp_sq ?_
          refine sq_v rfl (v_add rfl rfl ((by unfold I64; omega))) rfl ?_
          refine sq_v rfl (v_move rfl) rfl ?_
          refine sq_end ?_
          have hjj : j = (prodI t.d).toNat := by omega
          subst hjj
          refine qs_bk (i + 1, v58, h58, vs ++ [v27, v30, vd], hs' ++ [h27, h30, hd]) ⟨by simp only; omega, r58, ?_⟩ (by simp only; omega) ⟨rfl, rfl, rfl, rfl, rfl, rfl, trivial⟩ (fun _ s => Sat.toEnd [h27, h30, hd] [_, h58, h16, _, _, hp w] (s.pickF 12 [3, 4, 2, 6, 7, 8, 9, 10, 11] (by decide) rfl rfl))
          simp only
          rw [take_ten ht, suppTs, List.map_append, flat_append]
          exact ow.append (OwnL.three r27 r30 rd)
    · refine wp_ex ?_
      refine qs_x ?_
      refine qs_x ?_
      refine qs_bx ?_
      refine qs_n ?_
      refine wp_sc ?_
      refine wp_sq ?_
      refine sq_v rfl (v_loadNB 0 ty_32 rfl rfl rfl rfl) rfl ?_
      refine sq_m 3 rfl rfl (m_store 3 ty_32 rfl rfl rfl rfl (by simp [one_int, r16.toR.sl.one, r0.toR.sl.one]) rfl (Nat.le_of_ble_eq_true rfl)) rfl ?_; rintro _ _ ⟨rfl, rfl⟩
      refine sq_end ?_
      refine qs_n ?_
      refine wp_rt ?_
      have e : i = ts.length := by omega
      subst e
      rw [List.take_length] at ow
      refine qs_close [box b2 _ _, hp w] (h0 :: h16 :: hs') (fun _ s => s.pickF 6 [3, 5, 1, 2] (by decide) rfl rfl) (fun md => ?_)
      exact qs_retc 1 rfl ty_32 rfl rfl rfl (fin_t 0 (i := 2) rfl rfl rfl ⟨fun _ => ⟨_, _, rfl, vs, h0, h16, hs', by simpa [suppTs] using r0, r16, ow, md⟩, fun h => absurd hnet h⟩)
theorem bit_not {q : Prop} [Decidable q] : (if (!decide q) = true then (1 : Int) else 0) = if q then 0 else 1 := by by_cases h : q <;> simp [h]
set_option maxHeartbeats 2000000 in
theorem ct_i_SupportNetwork (k p n : Int) (ts : List Ten) (op : List Int) (vt vo : Value) (w : World) (r : TensR ts vt (hp w)) (r' : IntsR op vo (hp w)) (hs : op.length ≤ 1048576) :
    Calls Try.prog 16 [netV k p n vt vo].toArray w (Ret w emp (SuppR k p n ts op)) := by
  have hx := r.le
  obtain ⟨cells, rr, hc⟩ := r.at
  refine calls_in Try.func16 rfl Try.ntmps16 rfl (Sat.start w) ?_
  refine wp_sc ?_
  refine wp_sq ?_
  refine sq_x rfl (x_box rfl rfl) rfl ?_; rintro _ _ ⟨b1, rfl, rfl⟩
  refine sq_x rfl (x_alloc ty_32 rfl) rfl ?_; rintro _ _ ⟨b2, rfl, rfl⟩
  refine sq_end ?_
  refine qs_n ?_
  refine wp_sc ?_
  refine wp_sc ?_
  refine wp_sq ?_
  refine sq_v rfl (v_loadNB 1 ty_32 rfl rfl rfl rfl) rfl ?_
  refine sq_u rfl (x_callv rfl en_65 (fun w s => ct_i_NetworkOk _ _ _ _ _ _ _ w (r.mono (s.get 2 rfl)) (r'.mono (s.get 2 rfl)) hs)) rfl ?_
  refine sq_v rfl (v_not rfl) rfl ?_
  refine sq_end ?_
  refine qs_n ?_
  refine wp_cn _ rfl (fun c11 => ?_) (fun c11 => ?_)
  · refine wp_sc ?_
    refine wp_sq ?_
    refine sq_v rfl (v_build [num 0, num 0, num 0, .slice none 0 0, .slice none 0 0] rfl (by kernel_rfl)) rfl ?_
    refine sq_m 0 rfl rfl (m_store 0 ty_32 rfl rfl rfl rfl (by simp [Value.oneCell']) rfl (Nat.le_of_ble_eq_true rfl)) rfl ?_; rintro _ _ ⟨rfl, rfl⟩
    refine sq_end ?_
    refine qs_n ?_
    refine wp_rt ?_
    refine qs_r ?_
    exact qs_retc 0 rfl ty_32 rfl rfl rfl (fin_e (i := 2) rfl ⟨fun h => absurd h (netB_false.1 c11), fun _ => ⟨rfl, NetO.none⟩⟩)
  · refine wp_sk ?_
    refine qs_n ?_
    refine wp_sc ?_
    refine wp_sq ?_
    refine sq_v rfl (v_fieldAddr fd_32_0 ty_29 (by decide) rfl) rfl ?_
    refine sq_v rfl (v_loadNB 1 ty_29 rfl rfl rfl rfl) rfl ?_
    have hnet := netB_true.1 c11; have hring := hnet.1; have hwd := width_range hring
    refine sq_x rfl (x_call rfl en_66 (fun w s => ct_i_rawZero _ _ _ w hring)) rfl ?_; rintro v15 h15 r15
    refine sq_v rfl (v_assign rfl) rfl ?_
    refine sq_end ?_
    refine qs_n ?_
    refine wp_sc ?_
    refine wp_sq ?_
    refine sq_v rfl (v_build [num 3, num 1000000, num 0] rfl (by kernel_rfl)) rfl ?_
    refine sq_v rfl (v_fieldAddr fd_32_2 ty_25 (by decide) rfl) rfl ?_
    refine sq_v rfl (v_loadB 2 ty_25 rfl rfl rfl) rfl ?_
    refine sq_x rfl (x_call rfl en_67 (fun w s => ct_i_copyInts _ _ w (r'.mono (s.get 3 rfl)) (by omega))) rfl ?_; rintro v19 h19 r19
    refine sq_v rfl (v_build [num 3, num 1000000, num 0, .slice none 0 0, v19] rfl (by obtain ⟨_, _, rfl⟩ := r19.toR.sl; kernel_rfl)) rfl ?_
    refine sq_x rfl (x_alloc ty_32 rfl) rfl ?_; rintro _ _ ⟨b4, rfl, rfl⟩
    refine sq_m 0 rfl rfl (m_store 0 ty_32 rfl rfl rfl rfl (by simp [one_int, r19.toR.sl.one, one_sl]) rfl (Nat.le_of_ble_eq_true rfl)) rfl ?_; rintro _ _ ⟨rfl, rfl⟩
    refine sq_end ?_
    refine qs_n ?_
    refine wp_sc ?_
    refine wp_sc ?_
    refine wp_sq ?_
    refine sq_v rfl (v_fieldAddr fd_32_1 ty_30 (by decide) rfl) rfl ?_
    refine sq_v rfl (v_loadB 4 ty_30 rfl rfl rfl) rfl ?_
    refine sq_v rfl (v_len Try.underlying30 rfl r.sl) rfl ?_
    refine sq_v rfl (v_move rfl) rfl ?_
    refine sq_end ?_
    refine qs_n ?_
    refine wp_bl ?_
    refine wp_lp (fun s : Nat × Value × PH × List Value × List PH => [(1, .pointer (some ⟨b1, 0, none⟩)), (2, .pointer (some ⟨b2, 0, none⟩)), (3, v15), (4, .pointer (some ⟨b4, 0, none⟩)), (22, vt), (23, num ts.length), (24, num s.1)]) (fun s => box b4 [num 3, num 1000000, num 0, s.2.1, v19] 32 :: s.2.2.1 :: h19 :: h15 :: box b2 [num 0, num 0, num 0, .slice none 0 0, .slice none 0 0] 32 :: box b1 [num k, num p, num n, vt, vo] 32 :: hp w :: s.2.2.2.2) (fun s => s.1 ≤ ts.length ∧ RowO 54 s.2.2.2.1 s.1 3 s.2.1 s.2.2.1 ∧ OwnL (flat (suppTs k p n (ts.take s.1))) s.2.2.2.1 s.2.2.2.2) (fun s => ts.length - s.1) (0, .slice none 0 0, emp, [], []) ⟨by omega, ⟨rfl, .inl ⟨rfl, rfl, rfl⟩⟩, OwnL.nil⟩ ⟨rfl, rfl, rfl, rfl, rfl, rfl, rfl, trivial⟩ (fun _ s => Sat.pick (emp_sat s) [1, 0, 2, 3, 4, 5, 6] (by decide) rfl) ?_
    rintro ⟨i, vx, h0, vs, hs'⟩ ⟨hi, r0, ow⟩
    dsimp only at hi r0 ow ⊢
    refine wp_sc ?_
    refine wp_sq ?_
    refine sq_v rfl (v_lss rfl rfl) rfl ?_
    refine sq_end ?_
    refine qs_n ?_
    refine wp_sc ?_
    refine wp_cd rfl (fun c25 => ?_) (fun c25 => ?_)
    · refine wp_sk ?_
      refine qs_n ?_
      refine wp_sc ?_
      refine wp_bl ?_
      refine wp_sc ?_
      refine wp_sq ?_
      obtain ⟨t, a, b, c, ht, hcs, r1, r2, r3⟩ := hc i (by omega); have hten := hnet.2.2.1 t (List.mem_of_getElem? ht); obtain ⟨hdm, hp1, hp2, hxl, hll, hdl⟩ := ten_facts hten; have hxs := size_in ⟨hp1, hp2⟩ hwd hxl; have hts := hnet.2.1
      refine sq_v rfl (v_indexAddr Try.underlying30 ty_54 rfl rfl rr (by decide) (by omega) (by omega)) rfl ?_
      refine sq_v rfl (v_loadNE 6 ty_54 rfl rfl rr (by have := rr.1; omega) rfl hcs) rfl ?_
      refine sq_x rfl (x_alloc ty_54 rfl) rfl ?_; rintro _ _ ⟨b6, rfl, rfl⟩
      refine sq_m 0 rfl rfl (m_store 0 ty_54 rfl rfl rfl rfl (by simp [r1.sl.one, r2.sl.one, r3.sl.one]) rfl (Nat.le_of_ble_eq_true rfl)) rfl ?_; rintro _ _ ⟨rfl, rfl⟩
      refine sq_end ?_
      refine qs_n ?_
      refine wp_sc ?_
      refine wp_ra 8 (σ := Value × PH × Value × PH × Nat) (fun s => IntsO t.l s.1 s.2.1 ∧ IntsO t.d s.2.2.1 s.2.2.2.1) (fun s => [(1, .pointer (some ⟨b1, 0, none⟩)), (2, .pointer (some ⟨b2, 0, none⟩)), (3, v15), (4, .pointer (some ⟨b4, 0, none⟩)), (6, .pointer (some ⟨b6, 0, none⟩)), (7, .pointer (some ⟨s.2.2.2.2, 0, none⟩)), (22, vt), (23, num ts.length), (24, num i)]) (fun s => box s.2.2.2.2 [s.1, s.2.2.1, .slice none 0 0] 54 :: s.2.1 :: s.2.2.2.1 :: box b6 [a, b, c] 54 :: box b4 [num 3, num 1000000, num 0, vx, v19] 32 :: h0 :: h19 :: h15 :: box b2 [num 0, num 0, num 0, .slice none 0 0, .slice none 0 0] 32 :: box b1 [num k, num p, num n, vt, vo] 32 :: hp w :: hs') mixed_ok (by kernel_rfl) ?_ ?_
      · refine ra_v (i := 0) (by kernel_rfl) rfl rfl (v_fieldAddr fd_54_0 ty_25 (by decide) rfl) rfl ?_
        refine ra_v (i := 1) (by kernel_rfl) rfl rfl (v_loadB 0 ty_25 rfl rfl rfl) rfl ?_
        refine ra_v (i := 3) (by kernel_rfl) rfl rfl (v_fieldAddr fd_54_1 ty_25 (by decide) rfl) rfl ?_
        refine ra_v (i := 4) (by kernel_rfl) rfl rfl (v_loadB 0 ty_25 rfl rfl rfl) rfl ?_
        refine ra_2 (i := 2) (j := 7) (by kernel_rfl) ?_ ?_
        · refine ro_x rfl rfl (x_call rfl en_67 (fun w s => ct_i_copyInts _ _ w (r1.mono (s.get 7 rfl)) (by omega))) rfl ?_; rintro v30 h30 r30
          refine ra_2 (i := 5) (j := 7) (by kernel_rfl) ?_ ?_
          · refine ro_x rfl rfl (x_call rfl en_67 (fun w s => ct_i_copyInts _ _ w (r2.mono (s.get 8 rfl)) (by omega))) rfl ?_; rintro v33 h33 r33
            refine ra_rj [(6, true), (7, false), (8, false)] (by kernel_rfl) rfl ?_
            refine rj_v rfl rfl (v_build [v30, v33, .slice none 0 0] rfl (by obtain ⟨_, _, rfl⟩ := r30.toR.sl; obtain ⟨_, _, rfl⟩ := r33.toR.sl; kernel_rfl)) rfl ?_
            refine rj_x rfl rfl (x_alloc ty_54 rfl) rfl ?_; rintro _ _ ⟨b7, rfl, rfl⟩
            refine rj_m 0 rfl rfl rfl rfl (m_store 0 ty_54 rfl rfl rfl rfl (by simp [r30.toR.sl.one, r33.toR.sl.one, one_sl]) rfl (Nat.le_of_ble_eq_true rfl)) rfl ?_; rintro _ _ ⟨rfl, rfl⟩
            refine rj_end ?_
            exact qs_mid (v30, h30, v33, h33, b7) ⟨r30, r33⟩ ⟨rfl, rfl, rfl, rfl, rfl, rfl, rfl, rfl, rfl, trivial⟩ (fun _ s => s.pickF 11 [0, 2, 1, 3, 4, 5, 6, 7, 8, 9, 10] (by decide) rfl rfl)
          · refine ro_x rfl rfl (x_alloc ty_54 rfl) rfl ?_; rintro _ _ ⟨b7, rfl, rfl⟩
            refine ra_rj [(5, false), (6, true), (8, false)] (by kernel_rfl) rfl ?_
            refine rj_x rfl rfl (x_call rfl en_67 (fun w s => ct_i_copyInts _ _ w (r2.mono (s.get 9 rfl)) (by omega))) rfl ?_; rintro v33 h33 r33
            refine rj_v rfl rfl (v_build [v30, v33, .slice none 0 0] rfl (by obtain ⟨_, _, rfl⟩ := r30.toR.sl; obtain ⟨_, _, rfl⟩ := r33.toR.sl; kernel_rfl)) rfl ?_
            refine rj_m 1 rfl rfl rfl rfl (m_store 1 ty_54 rfl rfl rfl rfl (by simp [r30.toR.sl.one, r33.toR.sl.one, one_sl]) rfl (Nat.le_of_ble_eq_true rfl)) rfl ?_; rintro _ _ ⟨rfl, rfl⟩
            refine rj_end ?_
            exact qs_mid (v30, h30, v33, h33, b7) ⟨r30, r33⟩ ⟨rfl, rfl, rfl, rfl, rfl, rfl, rfl, rfl, rfl, trivial⟩ (fun _ s => s.pickF 11 [1, 2, 0, 3, 4, 5, 6, 7, 8, 9, 10] (by decide) rfl rfl)
        · refine ro_x rfl rfl (x_alloc ty_54 rfl) rfl ?_; rintro _ _ ⟨b7, rfl, rfl⟩
          refine ra_rj [(2, false), (5, false), (6, true), (8, false)] (by kernel_rfl) rfl ?_
          refine rj_x rfl rfl (x_call rfl en_67 (fun w s => ct_i_copyInts _ _ w (r1.mono (s.get 8 rfl)) (by omega))) rfl ?_; rintro v30 h30 r30
          refine rj_x rfl rfl (x_call rfl en_67 (fun w s => ct_i_copyInts _ _ w (r2.mono (s.get 9 rfl)) (by omega))) rfl ?_; rintro v33 h33 r33
          refine rj_v rfl rfl (v_build [v30, v33, .slice none 0 0] rfl (by obtain ⟨_, _, rfl⟩ := r30.toR.sl; obtain ⟨_, _, rfl⟩ := r33.toR.sl; kernel_rfl)) rfl ?_
          refine rj_m 2 rfl rfl rfl rfl (m_store 2 ty_54 rfl rfl rfl rfl (by simp [r30.toR.sl.one, r33.toR.sl.one, one_sl]) rfl (Nat.le_of_ble_eq_true rfl)) rfl ?_; rintro _ _ ⟨rfl, rfl⟩
          refine rj_end ?_
          exact qs_mid (v30, h30, v33, h33, b7) ⟨r30, r33⟩ ⟨rfl, rfl, rfl, rfl, rfl, rfl, rfl, rfl, rfl, trivial⟩ (fun _ s => s.pickF 11 [2, 1, 0, 3, 4, 5, 6, 7, 8, 9, 10] (by decide) rfl rfl)
      · rintro ⟨v30, h30, v33, h33, b7⟩ ⟨r30, r33⟩
        dsimp only at r30 r33 ⊢
        refine qs_n ?_
        refine wp_sc ?_
        refine wp_sc ?_
        refine wp_sq ?_
        refine sq_v rfl (v_assign rfl) rfl ?_
        refine sq_end ?_
        refine qs_n ?_
        refine wp_bl ?_
        refine wp_lp (fun s : Nat × Value × PH => [(1, .pointer (some ⟨b1, 0, none⟩)), (2, .pointer (some ⟨b2, 0, none⟩)), (3, v15), (4, .pointer (some ⟨b4, 0, none⟩)), (6, .pointer (some ⟨b6, 0, none⟩)), (7, .pointer (some ⟨b7, 0, none⟩)), (8, num s.1), (22, vt), (23, num ts.length), (24, num i)]) (fun s => box b7 [v30, v33, s.2.1] 54 :: s.2.2 :: h30 :: h33 :: box b6 [a, b, c] 54 :: box b4 [num 3, num 1000000, num 0, vx, v19] 32 :: h0 :: h19 :: h15 :: box b2 [num 0, num 0, num 0, .slice none 0 0, .slice none 0 0] 32 :: box b1 [num k, num p, num n, vt, vo] 32 :: hp w :: hs') (fun s => (s.1 : Int) ≤ prodI t.d ∧ IntsO (bitsL k p n t s.1) s.2.1 s.2.2) (fun s => (prodI t.d).toNat - s.1) (0, .slice none 0 0, emp) ⟨by simp only; omega, IntsO.nil⟩ ⟨rfl, rfl, rfl, rfl, rfl, rfl, rfl, rfl, rfl, rfl, trivial⟩ (fun _ s => (emp_sat s).pickF 12 [1, 0, 2, 3, 4, 5, 6, 7, 8, 9, 10, 11] (by decide) rfl rfl) ?_
        rintro ⟨j, vd, hd⟩ ⟨hj, rd⟩
        dsimp only at hj rd ⊢
        have hbl : (bitsL k p n t j).length = j := by simp [bitsL]
        refine wp_sc ?_
        refine wp_sc ?_
        refine wp_sq ?_
        refine sq_v rfl (v_move rfl) rfl ?_
        refine sq_v rfl (v_fieldAddr fd_54_1 ty_25 (by decide) rfl) rfl ?_
        refine sq_v rfl (v_loadB 4 ty_25 rfl rfl rfl) rfl ?_
        refine sq_u rfl (x_callv rfl en_68 (fun w s => ct_i_productOf _ _ w (r2.mono (s.get 11 rfl)) hdm (by omega))) rfl ?_
        refine sq_v rfl (v_lss rfl rfl) rfl ?_
        refine sq_end ?_
        refine qs_n ?_
        refine wp_cd rfl (fun c39 => ?_) (fun c39 => ?_)
        · refine wp_sk ?_
          refine qs_n ?_
          refine wp_sc ?_
          refine wp_bl ?_
          refine wp_rj 11 [(0, true), (1, true), (2, true), (3, true), (4, true), (5, true), (7, true), (6, false), (8, false), (9, true), (10, false), (11, false), (12, false), (13, false)] mixed_ok (by kernel_rfl) ?_
          refine rj_v rfl rfl (v_fieldAddr fd_54_2 ty_25 (by decide) rfl) rfl ?_
          refine rj_v rfl rfl (v_loadB 0 ty_25 rfl rfl rfl) rfl ?_
          refine rj_v rfl rfl (v_fieldAddr fd_32_0 ty_29 (by decide) rfl) rfl ?_
          refine rj_v rfl rfl (v_loadNB 10 ty_29 rfl rfl rfl rfl) rfl ?_
          refine rj_v rfl rfl (v_loadNB 4 ty_54 rfl rfl rfl rfl) rfl ?_
          refine rj_v rfl rfl (v_move rfl) rfl ?_
          refine rj_v rfl rfl (v_move rfl) rfl ?_
          have hin := elt_in (j := j) (s := prodI t.d) (by omega) hwd.1 hxl
          refine rj_u rfl rfl (x_callv rfl en_71 (fun w s => ct_i_rawElem _ _ _ _ _ _ _ _ w hring (r3.mono (s.get 11 rfl)) (by omega) hin (by omega))) rfl ?_
          refine rj_u rfl rfl (x_callv rfl en_70 (fun w s => ct_i_equalInts _ _ _ _ w ((eltV_read r3 (by omega) (by omega) hin).mono (s.get 11 rfl)) (r15.toR.mono (s.get 8 rfl)))) rfl ?_
          refine rj_v rfl rfl (v_not rfl) rfl ?_
          refine rj_x rfl rfl (x_call rfl en_69 (fun w s => ct_i_bitElem _ w)) rfl ?_; rintro v52 h52 r52
          refine rj_m 2 rfl rfl rfl rfl (m_appI 2 0 Try.underlying25 ty_3 rfl rfl rfl rfl rd rfl r52.toR (by simp; omega)) rfl ?_; intro v53 h_r53 r53
          refine rj_fv rfl rfl (v_fieldAddr fd_54_2 ty_25 (by decide) rfl) rfl ?_
          refine rj_m 1 rfl rfl rfl rfl (m_store1 1 ty_25 rfl rfl r53.toR.sl.one rfl (Nat.le_of_ble_eq_true rfl)) rfl ?_; rintro _ _ ⟨rfl, rfl⟩
          refine rj_end ?_
          refine qs_bn ?_
          refine qs_n ?_
          refine wp_sq ?_
          refine sq_v rfl (v_move rfl) rfl ?_
          refine sq_v rfl (v_add rfl rfl ((by unfold I64; omega))) rfl ?_
          refine sq_v rfl (v_assign rfl) rfl ?_
          refine sq_end ?_
          exact qs_bk (j + 1, v53, h_r53) ⟨by simp only; omega, by simp only; rw [bits_step, ← bit_not]; exact r53⟩ (by simp only; omega) ⟨rfl, rfl, rfl, rfl, rfl, rfl, rfl, rfl, rfl, rfl, trivial⟩ (fun _ s => s.pickF 13 [1, 2, 3, 4, 5, 6, 7, 8, 9, 10, 11, 12] (by decide) rfl rfl)
        · refine wp_ex ?_
          refine qs_x ?_
          refine qs_x ?_
          refine qs_bx ?_
          refine qs_n ?_
          refine wp_sq ?_
          refine sq_v rfl (v_fieldAddr fd_32_1 ty_30 (by decide) rfl) rfl ?_
          refine sq_v rfl (v_loadB 5 ty_30 rfl rfl rfl) rfl ?_
          refine sq_v rfl (v_loadNB 0 ty_54 rfl rfl rfl rfl) rfl ?_
          refine sq_x rfl (x_buildS [tenV v30 v33 vd] Try.underlying30 ty_54 (by decide) rfl rfl rfl (by decide) (by decide) (by intro v hv; simp at hv; subst hv; rfl)) rfl ?_; intro v58 h58 r58
          refine sq_m 7 rfl rfl (m_appT (a := v30) (b := v33) (c := vd) 7 0 Try.underlying30 ty_54 rfl rfl rfl rfl r0 rfl r58 (by simp [r30.toR.sl.one, r33.toR.sl.one, rd.toR.sl.one]) (by omega)) rfl ?_; intro v59 h59 r59
          refine sq_v rfl (v_fieldAddr fd_32_1 ty_30 (by decide) rfl) rfl ?_
          refine sq_m 6 rfl rfl (m_store1 6 ty_30 rfl rfl r59.toR.sl.one rfl (Nat.le_of_ble_eq_true rfl)) rfl ?_; rintro _ _ ⟨rfl, rfl⟩
          refine sq_end ?_
          refine qs_bn ?_
          refine qs_n ?_
          refine wp_sq ?_
          refine sq_v rfl (v_add rfl rfl ((by unfold I64; omega))) rfl ?_
          refine sq_v rfl (v_move rfl) rfl ?_
          refine sq_end ?_
          have hjj : j = (prodI t.d).toNat := by omega
          subst hjj
          refine qs_bk (i + 1, v59, h59, vs ++ [v30, v33, vd], hs' ++ [h30, h33, hd]) ⟨by simp only; omega, r59, ?_⟩ (by simp only; omega) ⟨rfl, rfl, rfl, rfl, rfl, rfl, rfl, trivial⟩ (fun _ s => Sat.toEnd [h30, h33, hd] [_, h59, h19, h15, _, _, hp w] (s.pickF 13 [3, 4, 2, 6, 7, 8, 9, 10, 11, 12] (by decide) rfl rfl))
          simp only
          rw [take_ten ht, suppTs, List.map_append, flat_append]
          exact ow.append (OwnL.three r30 r33 rd)
    · refine wp_ex ?_
      refine qs_x ?_
      refine qs_x ?_
      refine qs_bx ?_
      refine qs_n ?_
      refine wp_sc ?_
      refine wp_sq ?_
      refine sq_v rfl (v_loadNB 0 ty_32 rfl rfl rfl rfl) rfl ?_
      refine sq_m 4 rfl rfl (m_store 4 ty_32 rfl rfl rfl rfl (by simp [one_int, r19.toR.sl.one, r0.toR.sl.one]) rfl (Nat.le_of_ble_eq_true rfl)) rfl ?_; rintro _ _ ⟨rfl, rfl⟩
      refine sq_end ?_
      refine qs_n ?_
      refine wp_rt ?_
      have e : i = ts.length := by omega
      subst e
      rw [List.take_length] at ow
      refine qs_close [box b2 _ _, hp w] (h0 :: h19 :: hs') (fun _ s => s.pickF 7 [4, 6, 1, 2] (by decide) rfl rfl) (fun md => ?_)
      exact qs_retc 1 rfl ty_32 rfl rfl rfl (fin_t 0 (i := 2) rfl rfl rfl ⟨fun _ => ⟨_, _, rfl, vs, h0, h19, hs', by simpa [suppTs] using r0, r19, ow, md⟩, fun h => absurd hnet h⟩)
end Go.Proofs.Ytfegejhgnijmlaa
