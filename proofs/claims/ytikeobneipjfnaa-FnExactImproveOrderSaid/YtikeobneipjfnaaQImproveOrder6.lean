/-
  At every network, order, seed and number of rounds the program's ImproveOrder returns what the reference's returns; the result shares no memory with an argument.
  Conditions: none.
-/
import Derived.Test.YtikeobneipjfnaaQImproveOrder5
namespace Go.Proofs.Ytikeobneipjfnaa
set_option maxRecDepth 100000
open Go.RowKit
section
variable {P : Program} {n : Nat} {w0 : World} {K : Env} {HS : List PH} {d : Option Tmp} {ty : TypeId} {ps : String} {af : Array Edge} {g : Option (Nat × Bool)}
def landW (a b : Int) : Int := ((BitVec.ofInt 64 a &&& BitVec.ofInt 64 b).toNat : Nat)
theorem landW_in {a b : Int} (h0 : 0 ≤ b) (h1 : b ≤ 9223372036854775807) : 0 ≤ landW a b ∧ landW a b ≤ b := by
  unfold landW
  rw [BitVec.toNat_and, toNat_ofInt h0 h1]
  have := Nat.and_le_right (n := (BitVec.ofInt 64 a).toNat) (m := b.toNat)
  omega
theorem v_andW {t t' : TypeId} {x y : Operand} {a b : Int} (hx : ev K x = some (.int .i64 a)) (hy : ev K y = some (.int .i64 b)) (h0 : 0 ≤ b) (h1 : b ≤ 9223372036854775807) : StepV P n w0 K HS ⟨d, .binOp .and t x y t', ty, ps, af, g⟩ (.int .i64 (landW a b)) :=
  fun ac w e _ => by
    have hl := landW_in (a := a) h0 h1
    have hw : IntKind.i64.wrap (landW a b) = landW a b := IntWalk.i64_in _ (by omega)
    have h5 : (Op.intBits .and .i64 a b).run P w = .ok (.int .i64 (landW a b)) w := by
      show Result.ok (Value.int .i64 (IntKind.i64.wrap (landW a b))) w = _
      rw [hw]
    simp only [execOp, e.ev hx, e.ev hy, eqGuard, binOp, Sem.run_bind]
    rw [show (if (!(match BinOp.and with | .eql => true | .neq => true | _ => false)) = true then (pure () : Sem Unit) else pure ()) = pure () by rfl]
    rw [Sem.run_pure, Result.andThen_ok, if_neg (by simp), h5, Result.andThen_ok]
    rfl
end
def seedF (x : Int) : Int := landW (1103515245 * landW x 2147483647 + 12345) 2147483647
theorem seedF_in (x : Int) : 0 ≤ seedF x ∧ seedF x ≤ 2147483647 := landW_in (by omega) (by omega)
theorem ct_s_NextSeed (x : Int) (w : World) : Calls Try.prog 143 [num x].toArray w (RetV w (num (seedF x))) := by
  have h1 := landW_in (a := x) (b := 2147483647) (by omega) (by omega)
  refine calls_in Try.func143 rfl Try.ntmps143 rfl (Sat.start w) ?_
  refine wp_sc ?_
  refine wp_sq ?_
  refine sq_v rfl (v_assign rfl) rfl ?_
  refine sq_end ?_
  refine qs_n ?_
  refine wp_sc ?_
  refine wp_sq ?_
  refine sq_v rfl (v_move rfl) rfl ?_
  refine sq_v rfl (v_andW rfl rfl (by omega) (by omega)) rfl ?_
  refine sq_v rfl (v_mul rfl rfl ((by unfold I64; omega))) rfl ?_
  refine sq_v rfl (v_add rfl rfl ((by unfold I64; omega))) rfl ?_
  refine sq_v rfl (v_andW rfl rfl (by omega) (by omega)) rfl ?_
  refine sq_v rfl (v_assign rfl) rfl ?_
  refine sq_end ?_
  refine qs_n ?_
  refine wp_rt ?_
  exact qs_ret1 rfl rfl (fin_q (i := 0) rfl (rfl))
theorem ct_i_NextSeed (x : Int) (w : World) : Calls Try.prog 149 [num x].toArray w (RetV w (num (seedF x))) := by
  have h1 := landW_in (a := x) (b := 2147483647) (by omega) (by omega)
  refine calls_in Try.func149 rfl Try.ntmps149 rfl (Sat.start w) ?_
  refine wp_sc ?_
  refine wp_sq ?_
  refine sq_v rfl (v_assign rfl) rfl ?_
  refine sq_end ?_
  refine qs_n ?_
  refine wp_sc ?_
  refine wp_sq ?_
  refine sq_v rfl (v_move rfl) rfl ?_
  refine sq_v rfl (v_andW rfl rfl (by omega) (by omega)) rfl ?_
  refine sq_v rfl (v_mul rfl rfl ((by unfold I64; omega))) rfl ?_
  refine sq_v rfl (v_add rfl rfl ((by unfold I64; omega))) rfl ?_
  refine sq_v rfl (v_andW rfl rfl (by omega) (by omega)) rfl ?_
  refine sq_v rfl (v_assign rfl) rfl ?_
  refine sq_end ?_
  refine qs_n ?_
  refine wp_rt ?_
  exact qs_ret1 rfl rfl (fin_q (i := 0) rfl (rfl))
def cAdd (l : List Int) : Int := l.foldl (fun q x => q + x) 0
theorem cAdd_step {l : List Int} {i : Nat} (h : i < l.length) : cAdd (l.take (i + 1)) = cAdd (l.take i) + l.getD i 0 := by
  rw [take_succ h, cAdd, List.foldl_append]; rfl
noncomputable def costC (ts : List Ten) (op : List Int) (ss : List Stp) : Int := min (cAdd (costsL (dimOf ts) op (sh0 ts) ss)) 1000000000
theorem cAdd_in {l : List Int} (h : ∀ j, j < l.length → 0 ≤ l.getD j 0 ∧ l.getD j 0 ≤ 1000000000) : ∀ i, i ≤ l.length → 0 ≤ cAdd (l.take i) ∧ cAdd (l.take i) ≤ 1000000000 * i
  | 0, _ => by simp [cAdd]
  | i + 1, hi => by
    have ih := cAdd_in h i (by omega)
    have := h i (by omega)
    rw [cAdd_step (by omega)]
    omega
theorem ct_i_OrderCost (k p n : Int) (ts : List Ten) (op : List Int) (ss : List Stp) (vt vo v : Value) (w : World) (r : TensR ts vt (hp w)) (r' : IntsR op vo (hp w)) (rv : StepsR ss v (hp w)) (hs : op.length ≤ 1048576) (hord : orderL k p n ts op ss) :
    Calls Try.prog 153 [netV k p n vt vo, v].toArray w (RetV w (num (costC ts op ss))) := by
  have h12 := hord.1.2.1
  have hsl := hord.2.1
  refine calls_in Try.func153 rfl Try.ntmps153 rfl (Sat.start w) ?_
  have hle0 := r.le
  obtain ⟨cs_r, rr_r, hc_r⟩ := r.at
  have hle1 := r'.le
  have hle2 := rv.le
  obtain ⟨cs_rv, rr_rv, hc_rv⟩ := rv.at
  refine wp_sc ?_
  refine wp_sq ?_
  refine sq_x rfl (x_box rfl rfl) rfl ?_; rintro _ _ ⟨b2, rfl, rfl⟩
  refine sq_v rfl (v_assign rfl) rfl ?_
  refine sq_end ?_
  refine qs_n ?_
  refine wp_sc ?_
  refine wp_sc ?_
  refine wp_sq ?_
  refine sq_v rfl (v_loadNB 0 ty_48 rfl rfl rfl rfl) rfl ?_
  refine sq_v rfl (v_move rfl) rfl ?_
  refine sq_u rfl (x_callv rfl en_109 (fun w s => ct_i_OrderOk _ _ _ _ _ _ _ _ _ w (r.mono (s.get 1 rfl)) (r'.mono (s.get 1 rfl)) (rv.mono (s.get 1 rfl)) (by first | assumption | omega))) rfl ?_
  refine sq_v rfl (v_not rfl) rfl ?_
  refine sq_end ?_
  refine qs_n ?_
  refine wp_cn _ rfl (fun c11 => ?_) (fun c11 => ?_)
  · refine wp_sc ?_
    refine wp_sq ?_
    refine sq_v rfl (v_assign rfl) rfl ?_
    refine sq_end ?_
    refine qs_n ?_
    refine wp_rt ?_
    refine qs_r ?_
    exact absurd hord (orderB_false.1 c11)
  · refine wp_sk ?_
    refine qs_n ?_
    refine wp_sc ?_
    refine wp_sq ?_
    refine sq_v rfl (v_assign rfl) rfl ?_
    refine sq_end ?_
    refine qs_n ?_
    refine wp_sc ?_
    refine wp_sc ?_
    refine wp_sq ?_
    refine sq_v rfl (v_loadNB 0 ty_48 rfl rfl rfl rfl) rfl ?_
    refine sq_v rfl (v_move rfl) rfl ?_
    refine sq_x rfl (x_call rfl en_110 (fun w s => ct_i_OrderCosts _ _ _ _ _ _ _ _ _ w (r.mono (s.get 1 rfl)) (r'.mono (s.get 1 rfl)) (rv.mono (s.get 1 rfl)) (by first | assumption | omega))) rfl ?_; rintro v14 h14 r14
    have hci := costs_in hord; obtain ⟨C, hC⟩ : ∃ C, C = costsL (dimOf ts) op (sh0 ts) ss := ⟨_, rfl⟩; rw [ord_eq hord, ← hC] at r14; rw [← hC] at hci; have hcl : C.length = ss.length := (by rw [hC, costsL_len]);
    refine sq_v rfl (v_len Try.underlying24 rfl r14.toR.sl) rfl ?_
    refine sq_v rfl (v_move rfl) rfl ?_
    refine sq_end ?_
    refine qs_n ?_
    refine wp_bl ?_
    refine wp_lp (σ := Nat × Int) (fun z_ => [(4, num 0), (5, num z_.2), (14, v14), (15, num C.length), (16, num z_.1)]) (fun z_ => [h14, box b2 [num k, num p, num n, vt, vo] 48, hp w]) (fun z_ => z_.1 ≤ C.length ∧ z_.2 = cAdd (C.take z_.1)) (fun z_ => C.length - z_.1) (0, 0) (⟨by (try dsimp only); omega, by (try dsimp only); rfl⟩) ⟨rfl, (by first | rfl | exact ksub rfl (by first | omega | (simp; done) | (simp; omega))), rfl, rfl, (by first | rfl | exact ksub rfl (by first | omega | (simp; done) | (simp; omega))), trivial⟩ (fun _ s => s) ?_
    rintro ⟨i, q⟩ ⟨hi, hq⟩
    dsimp only at hi hq ⊢
    have hqi := cAdd_in (l := C) (fun j hj => by have := hci j (by omega); omega) i hi
    have hcj := hci i
    refine wp_sc ?_
    refine wp_sq ?_
    refine sq_v rfl (v_lss rfl rfl) rfl ?_
    refine sq_end ?_
    refine qs_n ?_
    refine wp_sc ?_
    refine wp_cd rfl (fun c17 => ?_) (fun c17 => ?_)
    · refine wp_sk ?_
      refine qs_n ?_
      refine wp_sc ?_
      refine wp_bl ?_
      refine wp_sc ?_
      refine wp_sq ?_
      refine sq_v rfl (v_idxI Try.underlying24 ty_3 rfl rfl r14.toR (by first | omega | (simp only [List.length_cons, List.length_nil]; omega) | (simp only [List.length_append, List.length_cons, List.length_nil]; omega) | (rw [List.length_set]; omega) | (rw [List.length_replicate]; omega) | (simp; omega)) (by first | omega | (simp only [List.length_cons, List.length_nil]; omega) | (simp only [List.length_append, List.length_cons, List.length_nil]; omega) | (rw [List.length_set]; omega) | (rw [List.length_replicate]; omega) | (simp; omega))) rfl ?_
      refine sq_v rfl (v_loadI (k := i) 0 ty_3 rfl rfl r14.toR (by first | omega | (simp only [List.length_cons, List.length_nil]; omega) | (simp only [List.length_append, List.length_cons, List.length_nil]; omega) | (rw [List.length_set]; omega) | (rw [List.length_replicate]; omega) | (simp; omega))) rfl ?_
      refine sq_v rfl (v_assign rfl) rfl ?_
      refine sq_end ?_
      refine qs_n ?_
      refine wp_sq ?_
      refine sq_v rfl (v_move rfl) rfl ?_
      refine sq_v rfl (v_move rfl) rfl ?_
      refine sq_v rfl (v_add rfl rfl ((by unfold I64; omega))) rfl ?_
      refine sq_v rfl (v_assign rfl) rfl ?_
      refine sq_end ?_
      refine qs_bn ?_
      refine qs_n ?_
      refine wp_sq ?_
      refine sq_v rfl (v_add rfl rfl ((by unfold I64; omega))) rfl ?_
      refine sq_v rfl (v_move rfl) rfl ?_
      refine sq_end ?_
      exact qs_bk (i + 1, q + C.getD i 0) ⟨by (try dsimp only); omega, by (try dsimp only); rw [cAdd_step (by omega), hq]⟩ (by simp only; omega) ⟨rfl, (by first | rfl | exact ksub rfl (by first | omega | (simp; done) | (simp; omega))), rfl, rfl, (by first | rfl | exact ksub rfl (by first | omega | (simp; done) | (simp; omega))), trivial⟩ (fun _ s => s)
    · refine wp_ex ?_
      refine qs_x ?_
      refine qs_x ?_
      refine qs_bx ?_
      refine qs_n ?_
      refine wp_sc ?_
      refine wp_sq ?_
      refine sq_v rfl (v_move rfl) rfl ?_
      refine sq_v rfl (v_min rfl rfl) rfl ?_
      refine sq_v rfl (v_assign rfl) rfl ?_
      refine sq_end ?_
      refine qs_n ?_
      refine wp_rt ?_
      exact qs_ret1 rfl rfl (fin_q (i := 2) rfl (by rw [hq, List.take_of_length_le (by omega), costC, ← hC]))
theorem ct_s_l17Cost (k p n : Int) (ts : List Ten) (op : List Int) (ss : List Stp) (vt vo v : Value) (w : World) (r : TensR ts vt (hp w)) (r' : IntsR op vo (hp w)) (rv : StepsR ss v (hp w)) (hs : op.length ≤ 1048576) (hord : orderL k p n ts op ss) :
    Calls Try.prog 147 [netV k p n vt vo, v].toArray w (RetV w (num (costC ts op ss))) := by
  have hnet := hord.1
  have h12 := hord.1.2.1
  have hsl := hord.2.1
  have hci := costs_in hord
  obtain ⟨C, hC⟩ : ∃ C, C = costsL (dimOf ts) op (sh0 ts) ss := ⟨_, rfl⟩
  rw [← hC] at hci
  have hcl : C.length = ss.length := by rw [hC, costsL_len]
  refine calls_in Try.func147 rfl Try.ntmps147 rfl (Sat.start w) ?_
  have hle0 := r.le
  obtain ⟨cs_r, rr_r, hc_r⟩ := r.at
  have hle1 := r'.le
  have hle2 := rv.le
  obtain ⟨cs_rv, rr_rv, hc_rv⟩ := rv.at
  refine wp_sc ?_
  refine wp_sq ?_
  refine sq_x rfl (x_box rfl rfl) rfl ?_; rintro _ _ ⟨b2, rfl, rfl⟩
  refine sq_v rfl (v_assign rfl) rfl ?_
  refine sq_end ?_
  refine qs_n ?_
  refine wp_sc ?_
  refine wp_sq ?_
  refine sq_v rfl (v_loadNB 0 ty_48 rfl rfl rfl rfl) rfl ?_
  refine sq_v rfl (v_move rfl) rfl ?_
  refine sq_x rfl (x_call rfl en_106 (fun w s => ct_s_l17Run (dimOf ts) _ _ _ _ _ _ _ _ _ w _ (s.get 1 rfl) r (r'.mono (s.get 1 rfl)) (rv.mono (s.get 1 rfl)) (net_dmap hnet) (by first | assumption | omega) (by first | assumption | omega) (sh0_fine (net_axes hnet)) (net_fit hnet) hord.2.2 (by first | assumption | omega))) rfl ?_; rintro _ h13 ⟨bb, vc, g1, g2, rfl, hsp, rc, md⟩
  refine sq_v rfl (v_move rfl) rfl ?_
  refine sq_v rfl (v_extract rfl rfl) rfl ?_
  refine sq_v rfl (v_extract rfl rfl) rfl ?_
  refine sq_v rfl (v_assign rfl) rfl ?_
  refine sq_v rfl (v_assign rfl) rfl ?_
  refine sq_end ?_
  have rc' : IntsR C vc h13 := by rw [hC]; exact rc.toR.mono (md.le g2 (by simp))
  refine qs_n ?_
  refine wp_sc ?_
  refine wp_sq ?_
  refine sq_v rfl (v_assign rfl) rfl ?_
  refine sq_end ?_
  refine qs_n ?_
  refine wp_sc ?_
  refine wp_sc ?_
  refine wp_sq ?_
  refine sq_v rfl (v_move rfl) rfl ?_
  refine sq_v rfl (v_len Try.underlying24 rfl rc'.sl) rfl ?_
  refine sq_v rfl (v_move rfl) rfl ?_
  refine sq_end ?_
  refine qs_n ?_
  refine wp_bl ?_
  refine wp_lp (σ := Nat × Int) (fun z_ => [(4, num 0), (7, num z_.2), (16, vc), (17, num C.length), (18, num z_.1)]) (fun z_ => [h13, box b2 [num k, num p, num n, vt, vo] 48, hp w]) (fun z_ => z_.1 ≤ C.length ∧ z_.2 = min (cAdd (C.take z_.1)) 1000000000) (fun z_ => C.length - z_.1) (0, 0) (⟨by (try dsimp only); omega, by (try dsimp only); rfl⟩) ⟨rfl, (by first | rfl | exact ksub rfl (by first | omega | (simp; done) | (simp; omega))), rfl, rfl, (by first | rfl | exact ksub rfl (by first | omega | (simp; done) | (simp; omega))), trivial⟩ (fun _ s => s) ?_
  rintro ⟨i, q⟩ ⟨hi, hq⟩
  dsimp only at hi hq ⊢
  have hqi := cAdd_in (l := C) (fun j hj => by have := hci j (by omega); omega) i hi
  have hcj := hci i
  refine wp_sc ?_
  refine wp_sq ?_
  refine sq_v rfl (v_lss rfl rfl) rfl ?_
  refine sq_end ?_
  refine qs_n ?_
  refine wp_sc ?_
  refine wp_cd rfl (fun c19 => ?_) (fun c19 => ?_)
  · refine wp_sk ?_
    refine qs_n ?_
    refine wp_sc ?_
    refine wp_bl ?_
    refine wp_sc ?_
    refine wp_sq ?_
    refine sq_v rfl (v_idxI Try.underlying24 ty_3 rfl rfl rc' (by first | omega | (simp only [List.length_cons, List.length_nil]; omega) | (simp only [List.length_append, List.length_cons, List.length_nil]; omega) | (rw [List.length_set]; omega) | (rw [List.length_replicate]; omega) | (simp; omega)) (by first | omega | (simp only [List.length_cons, List.length_nil]; omega) | (simp only [List.length_append, List.length_cons, List.length_nil]; omega) | (rw [List.length_set]; omega) | (rw [List.length_replicate]; omega) | (simp; omega))) rfl ?_
    refine sq_v rfl (v_loadI (k := i) 0 ty_3 rfl rfl rc' (by first | omega | (simp only [List.length_cons, List.length_nil]; omega) | (simp only [List.length_append, List.length_cons, List.length_nil]; omega) | (rw [List.length_set]; omega) | (rw [List.length_replicate]; omega) | (simp; omega))) rfl ?_
    refine sq_v rfl (v_assign rfl) rfl ?_
    refine sq_end ?_
    refine qs_n ?_
    refine wp_sq ?_
    refine sq_v rfl (v_move rfl) rfl ?_
    refine sq_v rfl (v_move rfl) rfl ?_
    refine sq_v rfl (v_add rfl rfl ((by unfold I64; omega))) rfl ?_
    refine sq_v rfl (v_min rfl rfl) rfl ?_
    refine sq_v rfl (v_assign rfl) rfl ?_
    refine sq_end ?_
    refine qs_bn ?_
    refine qs_n ?_
    refine wp_sq ?_
    refine sq_v rfl (v_add rfl rfl ((by unfold I64; omega))) rfl ?_
    refine sq_v rfl (v_move rfl) rfl ?_
    refine sq_end ?_
    exact qs_bk (i + 1, min 1000000000 (q + C.getD i 0)) ⟨by (try dsimp only); omega, by (try dsimp only); rw [cAdd_step (by omega), hq]; omega⟩ (by simp only; omega) ⟨rfl, (by first | rfl | exact ksub rfl (by first | omega | (simp; done) | (simp; omega))), rfl, rfl, (by first | rfl | exact ksub rfl (by first | omega | (simp; done) | (simp; omega))), trivial⟩ (fun _ s => s)
  · refine wp_ex ?_
    refine qs_x ?_
    refine qs_x ?_
    refine qs_bx ?_
    refine qs_n ?_
    refine wp_sc ?_
    refine wp_sq ?_
    refine sq_v rfl (v_move rfl) rfl ?_
    refine sq_v rfl (v_assign rfl) rfl ?_
    refine sq_end ?_
    refine qs_n ?_
    refine wp_rt ?_
    exact qs_ret1 rfl rfl (fin_q (i := 2) rfl (by rw [hq, List.take_of_length_le (by omega), costC, ← hC]))
theorem pairs_len : ∀ l : List Nat, 2 * (pairsL l).length + l.length = l.length * l.length
  | [] => rfl
  | a :: r => by
    have ih := pairs_len r
    simp only [pairsL, List.length_append, List.length_map, List.length_cons, Nat.mul_add, Nat.add_mul]
    omega
theorem pairs_drop {l : List Nat} {i : Nat} (h : i < l.length) : pairsL (l.drop i) = (l.drop (i + 1)).map (fun b => (l.getD i 0, b)) ++ pairsL (l.drop (i + 1)) := by
  rw [List.drop_eq_getElem_cons h, pairsL]
  simp [List.getD, h]
/-- Behind the first row. -/
theorem pairs_next {l : List Nat} {i q : Nat} (h : i < l.length) (hq : l.length - 1 - i ≤ q) : (pairsL (l.drop i))[q]? = (pairsL (l.drop (i + 1)))[q - (l.length - 1 - i)]? := by
  rw [pairs_drop h, List.getElem?_append_right (by simp; omega)]
  congr 1
  simp; omega
theorem pairs_here {l : List Nat} {i q : Nat} (h : i < l.length) (hq : q < l.length - 1 - i) : (pairsL (l.drop i))[q]? = some (l.getD i 0, l.getD (i + 1 + q) 0) := by
  rw [pairs_drop h, List.getElem?_append_left (by simp; omega)]
  simp [List.getD, show i + 1 + q < l.length by omega]
def rndP (s : Sh) (x : Int) : Nat × Nat := (pairsL s.ixs).getD ((x.tdiv 65536).tmod (pairsL s.ixs).length).toNat (0, 0)
theorem rnd_place {x m : Int} (hx : 0 ≤ x) (hm : 0 < m) : 0 ≤ (x.tdiv 65536).tmod m ∧ (x.tdiv 65536).tmod m < m := by
  have h := Int.tdiv_nonneg (a := x) (b := 65536) hx (by omega)
  exact ⟨Int.tmod_nonneg _ h, Int.tmod_lt_of_pos _ hm⟩
theorem rndP_ok {s : Sh} {x : Int} (h : 2 ≤ s.ixs.length) (hx : 0 ≤ x) : (pairsL s.ixs)[((x.tdiv 65536).tmod (pairsL s.ixs).length).toNat]? = some (rndP s x) ∧ (rndP s x).1 ∈ s.ixs ∧ (rndP s x).2 ∈ s.ixs ∧ (rndP s x).1 < (rndP s x).2 := by
  have hne : pairsL s.ixs ≠ [] := fun e => by rw [pairs_nil] at e; omega
  have hl := List.length_pos_iff.2 hne
  have hp := rnd_place (x := x) (m := (pairsL s.ixs).length) hx (by omega)
  have e : (pairsL s.ixs)[((x.tdiv 65536).tmod (pairsL s.ixs).length).toNat]? = some (rndP s x) := by
    rw [rndP, List.getD, List.getElem?_eq_getElem (by omega)]; rfl
  have hm := List.mem_of_getElem? e
  have h1 := mem_pairs hm
  exact ⟨e, h1.1, h1.2, pairs_lt (ixs_sorted s) hm⟩
noncomputable def rnd (op : List Int) (s : Sh) (x : Int) : Nat → List Stp × Int
  | 0 => ([], x)
  | k + 1 => ((rnd op s x k).1 ++ [⟨(rndP (shTo op s (rnd op s x k).1) (seedF (rnd op s x k).2)).1, (rndP (shTo op s (rnd op s x k).1) (seedF (rnd op s x k).2)).2⟩], seedF (rnd op s x k).2)
theorem rnd_len (op : List Int) (s : Sh) (x : Int) : ∀ k, (rnd op s x k).1.length = k
  | 0 => rfl
  | k + 1 => by simp [rnd, rnd_len op s x k]
theorem rnd_step (op : List Int) (s : Sh) (x : Int) (k : Nat) : shTo op s (rnd op s x (k + 1)).1 = (shTo op s (rnd op s x k).1).step op (rndP (shTo op s (rnd op s x k).1) (seedF (rnd op s x k).2)).1 (rndP (shTo op s (rnd op s x k).1) (seedF (rnd op s x k).2)).2 := by
  rw [rnd, shTo_snoc]
  rfl
theorem rnd_count {op : List Int} {s : Sh} {x : Int} (h : s.fine) : ∀ k, k + 1 ≤ s.ixs.length → (shTo op s (rnd op s x k).1).ixs.length + k = s.ixs.length
  | 0, _ => by simp [rnd, shTo]
  | k + 1, hk => by
    have ih := rnd_count (op := op) (x := x) h k (by omega)
    have hp := rndP_ok (s := shTo op s (rnd op s x k).1) (x := seedF (rnd op s x k).2) (by omega) (seedF_in _).1
    have := step_count (op := op) (shTo_fine h (rnd op s x k).1).1 hp.2.1 hp.2.2.1 (by have := hp.2.2.2; omega)
    rw [rnd_step]
    omega
theorem okSteps_snoc {op : List Int} {s : Sh} {a : List Stp} {x : Stp} (h : okSteps op s a) (hs : stepOk (shTo op s a) x) : okSteps op s (a ++ [x]) := by
  have h1 := okSteps_next (op := op) (s := s) (ss := a ++ [x]) (i := a.length) (x := x) (by simpa using h) (by simp) (by simpa using hs)
  have e : (a ++ [x]).take (a.length + 1) = a ++ [x] := List.take_of_length_le (by simp)
  rwa [e] at h1
theorem shTo_append (op : List Int) (s : Sh) (a b : List Stp) : shTo op s (a ++ b) = shTo op (shTo op s a) b := by simp [shTo]
theorem rnd_ok {op : List Int} {s : Sh} {a : List Stp} {x : Int} (h : s.fine) (hok : okSteps op s a) : ∀ k, k + 1 ≤ (shTo op s a).ixs.length → okSteps op s (a ++ (rnd op (shTo op s a) x k).1)
  | 0, _ => by simpa [rnd] using hok
  | k + 1, hk => by
    have ih := rnd_ok (x := x) h hok k (by omega)
    have hc := rnd_count (op := op) (x := x) (shTo_fine (op := op) h a) k (by omega)
    have hp := rndP_ok (s := shTo op (shTo op s a) (rnd op (shTo op s a) x k).1) (x := seedF (rnd op (shTo op s a) x k).2) (by omega) (seedF_in _).1
    rw [rnd, ← List.append_assoc]
    refine okSteps_snoc ih ?_
    rw [shTo_append]
    exact ⟨live_ixs.2 ⟨by dsimp only; omega, by rw [Int.toNat_natCast]; exact hp.2.1⟩, live_ixs.2 ⟨by dsimp only; omega, by rw [Int.toNat_natCast]; exact hp.2.2.1⟩, by have := hp.2.2.2; simp only; omega⟩
end Go.Proofs.Ytikeobneipjfnaa
namespace Go.Proofs.Ytikeobneipjfnaa
set_option maxRecDepth 100000
open Go.RowKit
section
variable {P : Program} {n : Nat} {w0 : World} {K : Env} {HS : List PH} {d : Option Tmp} {ty : TypeId} {ps : String} {af : Array Edge} {g : Option (Nat × Bool)}
theorem v_quoE {t t' : TypeId} {x y : Operand} {a b c : Int} (hx : ev K x = some (.int .i64 a)) (hy : ev K y = some (.int .i64 b)) (h0 : b ≠ 0) (h : I64 c) (e : a.tdiv b = c) : StepV P n w0 K HS ⟨d, .binOp .quo t x y t', ty, ps, af, g⟩ (.int .i64 c) := by
  subst e; exact v_quo hx hy h0 h
theorem v_mulE {t t' : TypeId} {x y : Operand} {a b c : Int} (hx : ev K x = some (.int .i64 a)) (hy : ev K y = some (.int .i64 b)) (h : I64 c) (e : a * b = c) : StepV P n w0 K HS ⟨d, .binOp .mul t x y t', ty, ps, af, g⟩ (.int .i64 c) := by
  subst e; exact v_mul hx hy h
end
theorem tri_mul (l : List Nat) : (l.length : Int) * ((l.length : Int) - 1) = 2 * ((pairsL l).length : Int) := by
  have h := pairs_len l
  rw [Int.mul_sub, Int.mul_one]
  have : ((l.length * l.length : Nat) : Int) = (l.length : Int) * l.length := by simp
  omega
theorem pairs_few {l : List Nat} (h : l.length ≤ 12) : (pairsL l).length ≤ 72 := by
  have h1 := pairs_len l
  have h2 := Nat.mul_le_mul h h
  omega
theorem sd_quo (x : Int) : 0 ≤ (seedF x).tdiv 65536 ∧ (seedF x).tdiv 65536 ≤ 2147483647 := by
  have h := seedF_in x
  rw [Int.tdiv_eq_ediv_of_nonneg h.1]
  omega
set_option maxHeartbeats 4000000 in
theorem ct_i_randomSteps (f : Int → Int) (arr op : List Int) (vo : Value) (sh : Sh) (bb : Nat) (x : Int) (w : World) (h : PH) (hle : PLe h (hp w)) (rs : StO arr vo sh bb h) (ro : IntsR op vo (restP w h))
    (hfi : sh.fine) (hix : sh.ixs.length ≤ 12) (hall : sh.all.length ≤ 500) :
    Calls Try.prog 152 [.pointer (some ⟨bb, 0, none⟩), num x].toArray w (Ret w h (fun u h' => ∃ v, u = .tuple [v, num (rnd op sh x (sh.ixs.length - 1)).2].toArray ∧ StepsR (rnd op sh x (sh.ixs.length - 1)).1 v h')) := by
  have hixl : sh.ixs.length ≤ sh.all.length := by have := List.length_filter_le (fun i => !sh.gone.getD i false) (List.range sh.all.length); simpa [Sh.ixs] using this
  refine calls_in Try.func152 rfl Try.ntmps152 rfl (Sat.start2 hle) ?_
  have hle0 := ro.le
  refine wp_sc ?_
  refine wp_sq ?_
  refine sq_v rfl (v_assign rfl) rfl ?_
  refine sq_v rfl (v_assign rfl) rfl ?_
  refine sq_end ?_
  refine qs_n ?_
  refine wp_sc ?_
  refine wp_sq ?_
  refine sq_v rfl (v_assign rfl) rfl ?_
  refine sq_end ?_
  refine qs_n ?_
  refine wp_sc ?_
  refine wp_bl ?_
  refine wp_lp (σ := Nat × PH × Value × PH) (fun z_ => [(0, .pointer (some ⟨bb, 0, none⟩)), (1, num (rnd op sh x z_.1).2), (4, .slice none 0 0), (5, num 0), (6, z_.2.2.1)]) (fun z_ => [z_.2.2.2, z_.2.1, (restP w h)]) (fun z_ => z_.1 ≤ sh.ixs.length - 1 ∧ StO arr vo (shTo op sh (rnd op sh x z_.1).1) bb z_.2.1 ∧ StepsO ((rnd op sh x z_.1).1) z_.2.2.1 z_.2.2.2) (fun z_ => sh.ixs.length - z_.1) (0, h, .slice none 0 0, emp) (⟨by (try dsimp only); omega, rs, StepsO.nil⟩) ⟨rfl, (by first | rfl | exact ksub rfl (by first | omega | (simp; done) | (simp; omega))), rfl, rfl, (by first | rfl | exact ksub rfl (by first | omega | (simp; done) | (simp; omega))), trivial⟩ (fun _ s => (emp_sat s)) ?_
  rintro ⟨k, g, ov, oh⟩ ⟨hk, rst, q⟩
  dsimp only at hk rst q ⊢
  obtain ⟨cs_q, rr_q, hc_q⟩ := q.toR.at
  have hle_q := q.toR.le
  have hgl := rnd_len op sh x k
  obtain ⟨S, hS⟩ : ∃ S, S = shTo op sh (rnd op sh x k).1 := ⟨_, rfl⟩
  have hfs := shTo_fine (op := op) hfi (rnd op sh x k).1
  have hal := shTo_all (op := op) (s := sh) (ss := (rnd op sh x k).1)
  have hcnt : S.ixs.length + k = sh.ixs.length := by (rcases Nat.eq_zero_or_pos sh.ixs.length with h0 | h0; have hk0 : k = 0 := (by omega); subst hk0; rw [hS]; simp [rnd, shTo]; rw [hS]; exact rnd_count hfi k (by omega))
  rw [hgl] at hal
  rw [← hS] at rst hfs hal
  obtain ⟨lvv, rr⟩ := rst.toR
  have rlv := rr.live
  have hll := lv_len S
  ; obtain ⟨cs_rlv, rr_rlv, hc_rlv⟩ := rlv.at
  refine wp_sc ?_
  refine wp_sc ?_
  refine wp_sq ?_
  refine sq_v rfl (v_move rfl) rfl ?_
  refine sq_v rfl (v_nilCheck rfl) rfl ?_
  refine sq_v rfl (v_fieldAddr fd_216_2 ty_214 (by decide) rfl) rfl ?_
  refine sq_v rfl (v_load 1 ty_214 rfl rfl rr.c101) rfl ?_
  refine sq_v rfl (v_len Try.underlying214 rfl rlv.sl) rfl ?_
  refine sq_v rfl (v_gtr rfl rfl) rfl ?_
  refine sq_end ?_
  refine qs_n ?_
  refine wp_cd rfl (fun c15 => ?_) (fun c15 => ?_)
  · refine wp_sk ?_
    refine qs_n ?_
    refine wp_bl ?_
    refine wp_sc ?_
    refine wp_sq ?_
    refine sq_v rfl (v_move rfl) rfl ?_
    refine sq_u rfl (x_callv rfl en_149 (fun w s => ct_i_NextSeed _ w)) rfl ?_
    refine sq_v rfl (v_assign rfl) rfl ?_
    refine sq_end ?_
    refine qs_n ?_
    refine wp_sc ?_
    refine wp_sq ?_
    refine sq_v rfl (v_move rfl) rfl ?_
    refine sq_v rfl (v_nilCheck rfl) rfl ?_
    refine sq_v rfl (v_fieldAddr fd_216_2 ty_214 (by decide) rfl) rfl ?_
    refine sq_v rfl (v_load 1 ty_214 rfl rfl rr.c101) rfl ?_
    refine sq_v rfl (v_len Try.underlying214 rfl rlv.sl) rfl ?_
    refine sq_v rfl (v_assign rfl) rfl ?_
    refine sq_end ?_
    have htri : ((S.lv.length : Int) * ((S.lv.length : Int) - 1)) = 2 * ((pairsL S.ixs).length : Int) := by rw [hll]; exact tri_mul _
    have hL0 : 0 < (pairsL S.ixs).length := List.length_pos_iff.2 (fun e => by rw [pairs_nil] at e; omega)
    have hL1 := pairs_few (l := S.ixs) (by omega)
    have hsq := sd_quo (rnd op sh x k).2
    have hrp := rndP_ok (s := S) (x := seedF (rnd op sh x k).2) (by omega) (seedF_in _).1
    have hpl := rnd_place (x := seedF (rnd op sh x k).2) (m := (pairsL S.ixs).length) (seedF_in _).1 (by omega)
    refine qs_n ?_
    refine wp_sc ?_
    refine wp_sq ?_
    refine sq_v rfl (v_move rfl) rfl ?_
    refine sq_v rfl (v_quoE rfl rfl (by omega) (by unfold I64; omega) rfl) rfl ?_
    refine sq_v rfl (v_move rfl) rfl ?_
    refine sq_v rfl (v_move rfl) rfl ?_
    refine sq_v rfl (v_sub rfl rfl ((by unfold I64; omega))) rfl ?_
    refine sq_v rfl (v_mulE rfl rfl (by unfold I64; omega) htri) rfl ?_
    refine sq_v rfl (v_quoE rfl rfl (by omega) (by unfold I64; omega) (Int.mul_tdiv_cancel_left _ (by decide))) rfl ?_
    refine sq_v rfl (v_rem rfl rfl (by omega)) rfl ?_
    refine sq_v rfl (v_assign rfl) rfl ?_
    refine sq_end ?_
    refine qs_n ?_
    refine wp_sc ?_
    refine wp_sq ?_
    refine sq_v rfl (v_assign rfl) rfl ?_
    refine sq_end ?_
    refine qs_n ?_
    refine wp_sc ?_
    refine wp_bl ?_
    refine wp_lp (σ := Nat × Int) (fun z_ => [(0, .pointer (some ⟨bb, 0, none⟩)), (1, num (seedF ((rnd op sh x k).2))), (4, .slice none 0 0), (5, num 0), (6, ov), (7, num S.lv.length), (8, num z_.2), (9, num z_.1), (10, .pointer (some ⟨bb, 0, none⟩)), (11, .pointer (some ⟨bb, 0, none⟩)), (12, .pointer (some ⟨bb, 101, none⟩)), (13, lvv), (14, num S.lv.length), (15, .bool (decide ((1 : Int) < S.lv.length))), (16, num (rnd op sh x k).2), (17, num (seedF ((rnd op sh x k).2))), (18, .pointer (some ⟨bb, 0, none⟩)), (19, .pointer (some ⟨bb, 0, none⟩)), (20, .pointer (some ⟨bb, 101, none⟩)), (21, lvv), (22, num S.lv.length), (23, num (seedF ((rnd op sh x k).2))), (24, num ((seedF (rnd op sh x k).2).tdiv 65536)), (25, num S.lv.length), (26, num S.lv.length), (27, num (S.lv.length - 1)), (28, num (2 * ((pairsL S.ixs).length : Int))), (29, num (pairsL S.ixs).length), (30, num (((seedF (rnd op sh x k).2).tdiv 65536).tmod (pairsL S.ixs).length))]) (fun z_ => [oh, g, (restP w h)]) (fun z_ => 0 ≤ z_.2 ∧ (pairsL (S.ixs.drop z_.1))[z_.2.toNat]? = some (rndP S (seedF (rnd op sh x k).2))) (fun z_ => S.ixs.length - z_.1) (0, (((seedF (rnd op sh x k).2).tdiv 65536).tmod (pairsL S.ixs).length)) (⟨hpl.1, by (try dsimp only); rw [List.drop_zero]; exact hrp.1⟩) ⟨rfl, rfl, rfl, rfl, rfl, rfl, (by first | rfl | exact ksub rfl (by first | omega | (simp; done) | (simp; omega))), (by first | rfl | exact ksub rfl (by first | omega | (simp; done) | (simp; omega))), rfl, rfl, rfl, rfl, rfl, rfl, rfl, rfl, rfl, rfl, rfl, rfl, rfl, rfl, rfl, rfl, rfl, rfl, rfl, rfl, rfl, trivial⟩ (fun _ s => s) ?_
    rintro ⟨i, y⟩ ⟨hy0, hp2⟩
    dsimp only at hy0 hp2 ⊢
    have hd2 : i + 2 ≤ S.ixs.length := Classical.byContradiction fun hn => by have e : pairsL (S.ixs.drop i) = [] := pairs_nil.2 (by simp; omega); rw [e] at hp2; simp at hp2
    have hyl := (List.getElem?_eq_some_iff.1 hp2).1
    have hyf := pairs_few (l := S.ixs.drop i) (by simp; omega)
    refine wp_sc ?_
    refine wp_sc ?_
    refine wp_sq ?_
    refine sq_v rfl (v_move rfl) rfl ?_
    refine sq_v rfl (v_move rfl) rfl ?_
    refine sq_v rfl (v_sub rfl rfl ((by unfold I64; omega))) rfl ?_
    refine sq_v rfl (v_move rfl) rfl ?_
    refine sq_v rfl (v_sub rfl rfl ((by unfold I64; omega))) rfl ?_
    refine sq_v rfl (v_geq rfl rfl) rfl ?_
    refine sq_end ?_
    refine qs_n ?_
    refine wp_cd rfl (fun c36 => ?_) (fun c36 => ?_)
    · refine wp_sk ?_
      refine qs_n ?_
      refine wp_bl ?_
      refine wp_sc ?_
      refine wp_sq ?_
      refine sq_v rfl (v_move rfl) rfl ?_
      refine sq_v rfl (v_move rfl) rfl ?_
      refine sq_v rfl (v_sub rfl rfl ((by unfold I64; omega))) rfl ?_
      refine sq_v rfl (v_move rfl) rfl ?_
      refine sq_v rfl (v_sub rfl rfl ((by unfold I64; omega))) rfl ?_
      refine sq_v rfl (v_sub rfl rfl ((by unfold I64; omega))) rfl ?_
      refine sq_v rfl (v_assign rfl) rfl ?_
      refine sq_end ?_
      refine qs_n ?_
      refine wp_sq ?_
      refine sq_v rfl (v_move rfl) rfl ?_
      refine sq_v rfl (v_add rfl rfl ((by unfold I64; omega))) rfl ?_
      refine sq_v rfl (v_assign rfl) rfl ?_
      refine sq_end ?_
      refine qs_bn ?_
      exact qs_bk (i + 1, y - ((S.lv.length : Int) - 1 - i)) ⟨by (try dsimp only); omega, by (try dsimp only); have e := pairs_next (l := S.ixs) (i := i) (q := y.toNat) (by omega) (by omega); rw [hp2] at e; rw [e]; congr 1; omega⟩ (by simp only; omega) ⟨rfl, rfl, rfl, rfl, rfl, rfl, (by first | rfl | exact ksub rfl (by first | omega | (simp; done) | (simp; omega))), (by first | rfl | exact ksub rfl (by first | omega | (simp; done) | (simp; omega))), rfl, rfl, rfl, rfl, rfl, rfl, rfl, rfl, rfl, rfl, rfl, rfl, rfl, rfl, rfl, rfl, rfl, rfl, rfl, rfl, rfl, trivial⟩ (fun _ s => s)
    · refine wp_ex ?_
      refine qs_x ?_
      refine qs_x ?_
      refine qs_bx ?_
      refine qs_n ?_
      refine wp_sq ?_
      refine sq_v rfl (v_move rfl) rfl ?_
      refine sq_v rfl (v_move rfl) rfl ?_
      refine sq_v rfl (v_move rfl) rfl ?_
      refine sq_v rfl (v_move rfl) rfl ?_
      refine sq_v rfl (v_add rfl rfl ((by unfold I64; omega))) rfl ?_
      refine sq_v rfl (v_move rfl) rfl ?_
      refine sq_v rfl (v_add rfl rfl ((by unfold I64; omega))) rfl ?_
      have hph := pairs_here (l := S.ixs) (i := i) (q := y.toNat) (by omega) (by omega); rw [hp2] at hph; have hpe := Option.some.inj hph; have hpa : S.ixs[((i : Nat) : Int).toNat]? = some (rndP S (seedF (rnd op sh x k).2)).1 := (by rw [hpe]; simp [List.getD, show i < S.ixs.length by omega]); have hqb : S.ixs[(((i : Nat) : Int) + 1 + y).toNat]? = some (rndP S (seedF (rnd op sh x k).2)).2 := (by rw [hpe, show ((i : Int) + 1 + y).toNat = i + 1 + y.toNat by omega]; simp [List.getD, show i + 1 + y.toNat < S.ixs.length by omega])
      refine sq_m 1 rfl rfl (x_call rfl en_201 (fun w s => ct_i_contract arr op vo _ bb _ _ (rndP S (seedF (rnd op sh x k).2)).1 (rndP S (seedF (rnd op sh x k).2)).2 w _ (s.get 1 rfl) rst (ro.mono (s.getR 1 2 rfl rfl (by decide))) (by omega) (by omega) hpa hqb (by have := hfs.few (rndP S (seedF (rnd op sh x k).2)).1; have := hfs.few (rndP S (seedF (rnd op sh x k).2)).2; omega) (by omega))) rfl ?_; rintro _ h52 ⟨rfl, rst'⟩
      refine sq_x rfl (x_buildS [.agg [num ((rndP S (seedF (rnd op sh x k).2)).1 : Nat), num ((rndP S (seedF (rnd op sh x k).2)).2 : Nat)].toArray] Try.underlying43 ty_114 (by decide) rfl rfl rfl (by decide) (by decide) (by intro v hv; simp at hv; subst hv; rfl)) rfl ?_; intro v53 h53 (r53 : RowO 114 [num ((rndP S (seedF (rnd op sh x k).2)).1 : Nat), num ((rndP S (seedF (rnd op sh x k).2)).2 : Nat)] 1 2 v53 h53)
      refine sq_m 1 rfl rfl (m_appS (ss := ((rnd op sh x k).1)) (us := ([⟨((rndP S (seedF (rnd op sh x k).2)).1 : Nat), ((rndP S (seedF (rnd op sh x k).2)).2 : Nat)⟩] : List Stp)) 1 0 Try.underlying43 ty_114 rfl rfl rfl rfl q rfl r53.toR (by first | omega | (simp only [List.length_cons, List.length_nil]; omega) | (simp only [List.length_append, List.length_cons, List.length_nil]; omega) | (rw [List.length_set]; omega) | (rw [List.length_replicate]; omega) | (simp; omega))) rfl ?_; intro v54 h_r54 r54
      obtain ⟨cs_S_54, rr_S_54, hc_S_54⟩ := r54.toR.at
      refine sq_v rfl (v_assign rfl) rfl ?_
      refine sq_end ?_
      refine qs_bn ?_
      exact qs_bk (k + 1, h52, v54, h_r54) ⟨by (try dsimp only); omega, by (try dsimp only); rw [rnd_step, ← hS]; exact rst', by (try dsimp only); rw [rnd, ← hS]; exact r54⟩ (by simp only; omega) ⟨rfl, (by first | rfl | exact ksub rfl (by first | omega | (simp; done) | (simp; omega))), rfl, rfl, (by first | rfl | exact ksub rfl (by first | omega | (simp; done) | (simp; omega))), trivial⟩ (fun _ s => s.pick [1, 2, 3] (by decide) rfl)
  · refine wp_ex ?_
    refine qs_x ?_
    refine qs_x ?_
    refine qs_bx ?_
    refine qs_n ?_
    refine wp_sc ?_
    refine wp_sq ?_
    refine sq_v rfl (v_move rfl) rfl ?_
    refine sq_v rfl (v_move rfl) rfl ?_
    refine sq_v rfl (v_assign rfl) rfl ?_
    refine sq_v rfl (v_assign rfl) rfl ?_
    refine sq_end ?_
    refine qs_n ?_
    refine wp_rt ?_
    refine qs_close [restP w h] [g, oh] (fun _ s => s.pick [2, 1, 0] (by decide) rfl) (fun md => ?_)
    exact qs_ret2 rfl rfl rfl (fin_m (i := 1) 0 rfl rfl rfl ⟨_, by rw [show sh.ixs.length - 1 = k by omega], by rw [show sh.ixs.length - 1 = k by omega]; exact q.toR.mono (md.le oh (by simp))⟩)
end Go.Proofs.Ytikeobneipjfnaa
namespace Go.Proofs.Ytikeobneipjfnaa
set_option maxRecDepth 100000
open Go.RowKit
def cutN (P : List Stp) (x : Int) : Nat := ((x.tdiv 65536).tmod P.length).toNat
noncomputable def nxt (ts : List Ten) (op : List Int) (P : List Stp) (x : Int) : List Stp × Int :=
  (P.take (cutN P (seedF x)) ++ (rnd op (shTo op (sh0 ts) (P.take (cutN P (seedF x)))) (seedF x) ((shTo op (sh0 ts) (P.take (cutN P (seedF x)))).ixs.length - 1)).1, (rnd op (shTo op (sh0 ts) (P.take (cutN P (seedF x)))) (seedF x) ((shTo op (sh0 ts) (P.take (cutN P (seedF x)))).ixs.length - 1)).2)
open Classical in
noncomputable def imp1 (ts : List Ten) (op : List Int) (s : List Stp × Int) : List Stp × Int := (if costC ts op (nxt ts op s.1 s.2).1 < costC ts op s.1 then (nxt ts op s.1 s.2).1 else s.1, (nxt ts op s.1 s.2).2)
noncomputable def impIt (ts : List Ten) (op : List Int) (ss : List Stp) (x : Int) : Nat → List Stp × Int
  | 0 => (ss, x)
  | k + 1 => imp1 ts op (impIt ts op ss x k)
theorem cut_lt {P : List Stp} (h : 0 < P.length) (x : Int) : ((seedF x).tdiv 65536).tmod P.length = (cutN P (seedF x) : Int) ∧ cutN P (seedF x) < P.length := by
  have := rnd_place (x := seedF x) (m := P.length) (seedF_in x).1 (by omega)
  unfold cutN
  omega
theorem cut_count {k p n : Int} {ts : List Ten} {op : List Int} {P : List Stp} (h : orderL k p n ts op P) (c : Nat) (hc : c ≤ P.length) : (shTo op (sh0 ts) (P.take c)).ixs.length + c = ts.length := by
  have := steps_count (sh0_fine (net_axes h.1)) h.2.2 c hc
  rw [show (sh0 ts).ixs.length = ts.length by rw [sh0_ixs]; simp] at this
  exact this
theorem nxt_ok {k p n : Int} {ts : List Ten} {op : List Int} {P : List Stp} (h : orderL k p n ts op P) (h0 : 0 < P.length) (x : Int) : orderL k p n ts op (nxt ts op P x).1 := by
  have hc := cut_lt h0 x
  have hn := cut_count h (cutN P (seedF x)) (by omega)
  have hl := h.2.1
  refine ⟨h.1, ?_, rnd_ok (sh0_fine (net_axes h.1)) (okSteps_take h.2.2 _) _ (by omega)⟩
  unfold nxt
  rw [List.length_append, rnd_len, List.length_take]
  omega
open Classical in
noncomputable def impR (k p n : Int) (ts : List Ten) (op : List Int) (ss : List Stp) (x m : Int) : List Stp := if orderL k p n ts op ss ∧ 0 ≤ m ∧ m ≤ 40 then (if ss.length = 0 then ss else (impIt ts op ss x m.toNat).1) else []
open Classical in
noncomputable def impB (k p n : Int) (ts : List Ten) (op : List Int) (ss : List Stp) (m : Int) : Bool := decide (orderL k p n ts op ss ∧ 0 ≤ m ∧ m ≤ 40)
def StepsB (ss : List Stp) (b : Bool) (x : Value) (h : PH) : Prop := ∃ v, x = .tuple [v, .bool b].toArray ∧ StepsO ss v h
theorem ImpNo {k p n x m : Int} {ts : List Ten} {op : List Int} {ss : List Stp} (h : ¬ (orderL k p n ts op ss ∧ 0 ≤ m ∧ m ≤ 40)) : StepsB (impR k p n ts op ss x m) (impB k p n ts op ss m) (.tuple [.slice none 0 0, .bool false].toArray) emp :=
  ⟨.slice none 0 0, by simp [impB, h], by rw [impR, if_neg h]; exact StepsO.nil⟩
theorem ImpYes {k p n x m : Int} {ts : List Ten} {op : List Int} {ss P : List Stp} {v : Value} {g : PH} (h : orderL k p n ts op ss ∧ 0 ≤ m ∧ m ≤ 40) (e : (if ss.length = 0 then ss else (impIt ts op ss x m.toNat).1) = P) (r : StepsO P v g) : StepsB (impR k p n ts op ss x m) (impB k p n ts op ss m) (.tuple [v, .bool true].toArray) g :=
  ⟨v, by simp [impB, h], by rw [impR, if_pos h, e]; exact r⟩
section
variable {P : Program} {n : Nat} {w0 : World} {K : Env} {HS : List PH} {d : Option Tmp} {ty : TypeId} {ps : String} {af : Array Edge} {g : Option (Nat × Bool)}
theorem v_remE {t t' : TypeId} {x y : Operand} {a b c : Int} (hx : ev K x = some (.int .i64 a)) (hy : ev K y = some (.int .i64 b)) (h0 : b ≠ 0) (e : a.tmod b = c) : StepV P n w0 K HS ⟨d, .binOp .rem t x y t', ty, ps, af, g⟩ (.int .i64 c) := by
  subst e; exact v_rem hx hy h0
end
set_option maxHeartbeats 4000000 in
theorem ct_s_ImproveOrder (k p n x0 m : Int) (ts : List Ten) (op : List Int) (ss : List Stp) (vt vo v : Value) (w : World) (r : TensR ts vt (hp w)) (r' : IntsR op vo (hp w)) (rv : StepsR ss v (hp w)) (hop : op.length ≤ 1048576) (hss : ss.length ≤ 1048576) :
    Calls Try.prog 55 [netV k p n vt vo, v, num x0, num m].toArray w (Ret w emp (StepsB (impR k p n ts op ss x0 m) (impB k p n ts op ss m))) := by
  refine calls_in Try.func55 rfl Try.ntmps55 rfl (Sat.start w) ?_
  have hle0 := r.le
  obtain ⟨cs_r, rr_r, hc_r⟩ := r.at
  have hle1 := r'.le
  have hle2 := rv.le
  obtain ⟨cs_rv, rr_rv, hc_rv⟩ := rv.at
  refine wp_sc ?_
  refine wp_sq ?_
  refine sq_x rfl (x_box rfl rfl) rfl ?_; rintro _ _ ⟨b4, rfl, rfl⟩
  refine sq_v rfl (v_assign rfl) rfl ?_
  refine sq_v rfl (v_assign rfl) rfl ?_
  refine sq_end ?_
  refine qs_n ?_
  refine wp_sc ?_
  refine wp_sc ?_
  refine wp_sq ?_
  refine sq_v rfl (v_loadNB 0 ty_48 rfl rfl rfl rfl) rfl ?_
  refine sq_v rfl (v_move rfl) rfl ?_
  refine sq_u rfl (x_callv rfl en_105 (fun w s => ct_s_OrderOk _ _ _ _ _ _ _ _ _ w (r.mono (s.get 1 rfl)) (r'.mono (s.get 1 rfl)) (rv.mono (s.get 1 rfl)) (by first | assumption | omega) (by first | assumption | omega))) rfl ?_
  refine sq_bb 18 rfl (fun c18 => ?_) (fun c18 => ?_)
  · refine sq_v rfl (v_not rfl) rfl ?_
    refine sq_v rfl (v_move rfl) rfl ?_
    refine sq_v rfl (v_move rfl) rfl ?_
    refine sq_u rfl (x_callv rfl en_95 (fun w s => ct_s_l01In _ _ _ w)) rfl ?_
    refine sq_v rfl (v_not rfl) rfl ?_
    refine sq_v rfl (v_pickf rfl rfl) rfl ?_
    refine sq_end ?_
    refine qs_n ?_
    refine wp_cnd rfl (fun c24 => ?_) (fun c24 => ?_)
    · refine wp_sc ?_
      refine wp_sq ?_
      refine sq_v rfl (v_assign rfl) rfl ?_
      refine sq_v rfl (v_assign rfl) rfl ?_
      refine sq_end ?_
      refine qs_n ?_
      refine wp_rt ?_
      refine qs_r ?_
      exact qs_ret2 rfl rfl rfl (fin_e (i := 1) rfl (ImpNo (fun h => c24 h.2)))
    · refine wp_sk ?_
      refine qs_n ?_
      refine wp_sc ?_
      refine wp_sq ?_
      refine sq_x rfl (x_build0 Try.underlying43 ty_114) rfl ?_; intro v25 h25 r25
      refine sq_v rfl (v_move rfl) rfl ?_
      refine sq_m 0 rfl rfl (m_appS (ss := ([] : List Stp)) (us := ss) 0 2 Try.underlying43 ty_114 rfl rfl rfl rfl r25 rfl rv (by first | omega | (simp only [List.length_cons, List.length_nil]; omega) | (simp only [List.length_append, List.length_cons, List.length_nil]; omega) | (rw [List.length_set]; omega) | (rw [List.length_replicate]; omega) | (simp; omega))) rfl ?_; intro v27 h_r27 r27
      obtain ⟨cs_S_27, rr_S_27, hc_S_27⟩ := r27.toR.at
      refine sq_v rfl (v_assign rfl) rfl ?_
      refine sq_end ?_
      have hord0 := orderB_true.1 c18
      have hnet := hord0.1
      have h12 := hnet.2.1
      have hax := net_axes hnet
      have hsl0 := hord0.2.1
      refine qs_n ?_
      refine wp_sc ?_
      refine wp_bl ?_
      refine wp_lp (σ := Nat × (List Stp) × Int × Value × PH) (fun z_ => [(1, v), (2, num z_.2.2.1), (3, num (m - z_.1)), (4, .pointer (some ⟨b4, 0, none⟩)), (8, .slice none 0 0), (9, .bool false), (10, z_.2.2.2.1)]) (fun z_ => [z_.2.2.2.2, box b4 [num k, num p, num n, vt, vo] 48, hp w]) (fun z_ => (z_.1 : Int) ≤ m ∧ impIt ts op ss x0 z_.1 = (z_.2.1, z_.2.2.1) ∧ orderL k p n ts op z_.2.1 ∧ StepsO z_.2.1 z_.2.2.2.1 z_.2.2.2.2) (fun z_ => m.toNat - z_.1) (0, ss, x0, v27, h_r27) (⟨by (try dsimp only); omega, rfl, hord0, by (try dsimp only); simpa using r27⟩) ⟨rfl, (by first | rfl | exact ksub rfl (by first | omega | (simp; done) | (simp; omega))), (by first | rfl | exact ksub rfl (by first | omega | (simp; done) | (simp; omega))), rfl, rfl, rfl, (by first | rfl | exact ksub rfl (by first | omega | (simp; done) | (simp; omega))), trivial⟩ (fun _ s => s) ?_
      rintro ⟨j, P, x, nv, nh⟩ ⟨hj, hP, hord, q⟩
      dsimp only at hj hP hord q ⊢
      obtain ⟨cs_q, rr_q, hc_q⟩ := q.toR.at
      have hle_q := q.toR.le
      have hsl := hord.2.1
      have hsq := sd_quo x
      refine wp_sc ?_
      refine wp_sc ?_
      refine wp_sq ?_
      refine sq_v rfl (v_move rfl) rfl ?_
      refine sq_v rfl (v_gtr rfl rfl) rfl ?_
      refine sq_bd 29 rfl (fun c29 => ?_) (fun c29 => ?_)
      · refine sq_v rfl (v_move rfl) rfl ?_
        refine sq_v rfl (v_move rfl) rfl ?_
        refine sq_v rfl (v_len Try.underlying43 rfl rv.sl) rfl ?_
        refine sq_v rfl (v_gtr rfl rfl) rfl ?_
        refine sq_v rfl (v_pickt rfl rfl) rfl ?_
        refine sq_end ?_
        refine qs_n ?_
        refine wp_cd rfl (fun c34 => ?_) (fun c34 => ?_)
        · refine wp_sk ?_
          refine qs_n ?_
          refine wp_sc ?_
          refine wp_bl ?_
          refine wp_sc ?_
          refine wp_sq ?_
          refine sq_v rfl (v_move rfl) rfl ?_
          refine sq_u rfl (x_callv rfl en_143 (fun w s => ct_s_NextSeed _ w)) rfl ?_
          refine sq_v rfl (v_assign rfl) rfl ?_
          refine sq_end ?_
          refine qs_n ?_
          refine wp_sc ?_
          refine wp_sq ?_
          refine sq_x rfl (x_build0 Try.underlying43 ty_114) rfl ?_; intro v39 h39 r39
          refine sq_v rfl (v_move rfl) rfl ?_
          refine sq_v rfl (v_move rfl) rfl ?_
          refine sq_v rfl (v_quoE rfl rfl (by omega) (by unfold I64; omega) rfl) rfl ?_
          refine sq_v rfl (v_move rfl) rfl ?_
          refine sq_v rfl (v_len Try.underlying43 rfl q.toR.sl) rfl ?_
          have hcl := cut_lt (P := P) (by omega) x; obtain ⟨c, hc⟩ : ∃ c, c = cutN P (seedF x) := ⟨_, rfl⟩; rw [← hc] at hcl; have hcc := cut_count hord c (by omega)
          refine sq_v rfl (v_remE rfl rfl (by omega) hcl.1) rfl ?_
          refine sq_v rfl (v_sliceH Try.underlying43 ty_114 rfl rfl  q.toR (by omega) (by omega)) rfl ?_
          obtain ⟨cs_S_46, rr_S_46, hc_S_46⟩ := (q.toR.subH (hi := (c : Int).toNat) (by omega)).at
          refine sq_m 0 rfl rfl (m_appS (ss := ([] : List Stp)) (us := (P.take ((c : Int).toNat))) 0 1 Try.underlying43 ty_114 rfl rfl rfl rfl r39 rfl (q.toR.subH (hi := (c : Int).toNat) (by omega)) (by first | omega | (simp only [List.length_cons, List.length_nil]; omega) | (simp only [List.length_append, List.length_cons, List.length_nil]; omega) | (rw [List.length_set]; omega) | (rw [List.length_replicate]; omega) | (simp; omega))) rfl ?_; intro v47 h_r47 r47
          obtain ⟨cs_S_47, rr_S_47, hc_S_47⟩ := r47.toR.at
          refine sq_v rfl (v_assign rfl) rfl ?_
          refine sq_end ?_
          obtain ⟨A, hA⟩ : ∃ A, A = P.take c := ⟨_, rfl⟩
          have r47' : StepsO A v47 h_r47 := by rw [hA]; simpa using r47
          have hAl : A.length = c := by rw [hA, List.length_take]; omega
          rw [← hA] at hcc
          ; obtain ⟨cs_r47_, rr_r47_, hc_r47_⟩ := r47'.toR.at
          refine qs_n ?_
          refine wp_sc ?_
          refine wp_sq ?_
          refine sq_v rfl (v_loadNB 2 ty_48 rfl rfl rfl rfl) rfl ?_
          refine sq_v rfl (v_move rfl) rfl ?_
          refine sq_x rfl (x_call rfl en_144 (fun w s => ct_s_l23Start _ _ _ _ _ _ _ _ _ w _ (s.get 3 rfl) r (r'.mono (s.get 3 rfl)) (r47'.toR.mono (s.get 0 rfl)) (by first | assumption | omega) (by first | assumption | omega))) rfl ?_; rintro _ h51 ⟨pv, bk, rfl, hbk, hst⟩
          refine sq_v rfl (v_move rfl) rfl ?_
          refine sq_v rfl (v_extract rfl rfl) rfl ?_
          refine sq_v rfl (v_extract rfl rfl) rfl ?_
          refine sq_v rfl (v_assign rfl) rfl ?_
          refine sq_v rfl (v_assign rfl) rfl ?_
          refine sq_end ?_
          have hbt : bk = true := hbk.2 ⟨hnet, by rw [hA]; exact okSteps_take hord.2.2 c⟩
          obtain ⟨bb, rfl, rsp⟩ := hst hbt
          obtain ⟨S0, hS0⟩ : ∃ S0, S0 = shTo op (sh0 ts) A := ⟨_, rfl⟩
          have hfi0 := shTo_fine (op := op) (sh0_fine hax) A
          have hft0 := fit_to (op := op) (net_fit hnet) A
          have hal0 := shTo_all (op := op) (s := sh0 ts) (ss := A)
          rw [← hS0] at rsp hfi0 hft0 hal0 hcc
          rw [show (sh0 ts).all.length = ts.length by simp [sh0]] at hal0
          refine qs_n ?_
          refine wp_sc ?_
          refine wp_bl ?_
          refine wp_lp (σ := Nat × PH × Value × PH) (fun z_ => [(1, v), (2, num (rnd op S0 (seedF x) z_.1).2), (3, num (m - j)), (4, .pointer (some ⟨b4, 0, none⟩)), (8, .slice none 0 0), (9, .bool false), (10, nv), (11, z_.2.2.1), (12, (ptrV bb))]) (fun z_ => [z_.2.1, z_.2.2.2, nh, box b4 [num k, num p, num n, vt, vo] 48, hp w]) (fun z_ => z_.1 + 1 ≤ S0.ixs.length ∧ SpO (dimOf ts) (shTo op S0 (rnd op S0 (seedF x) z_.1).1) bb z_.2.1 (hp w) ∧ StepsO (A ++ (rnd op S0 (seedF x) z_.1).1) z_.2.2.1 z_.2.2.2) (fun z_ => S0.ixs.length - z_.1) (0, h51, v47, h_r47) (⟨by (try dsimp only); omega, by (try dsimp only); simpa [rnd, shTo] using rsp, by (try dsimp only); simpa [rnd] using r47'⟩) ⟨rfl, (by first | rfl | exact ksub rfl (by first | omega | (simp; done) | (simp; omega))), rfl, rfl, rfl, rfl, rfl, (by first | rfl | exact ksub rfl (by first | omega | (simp; done) | (simp; omega))), rfl, trivial⟩ (fun _ s => s) ?_
          rintro ⟨i, g, ov, oh⟩ ⟨hi, hsp, q2⟩
          dsimp only at hi hsp q2 ⊢
          obtain ⟨cs_q2, rr_q2, hc_q2⟩ := q2.toR.at
          have hle_q2 := q2.toR.le
          have hgl := rnd_len op S0 (seedF x) i
          have hol : (A ++ (rnd op S0 (seedF x) i).1).length = A.length + i := by rw [List.length_append, hgl]
          obtain ⟨S, hS⟩ : ∃ S, S = shTo op S0 (rnd op S0 (seedF x) i).1 := ⟨_, rfl⟩
          have hfs := shTo_fine (op := op) hfi0 (rnd op S0 (seedF x) i).1
          have hft := fit_to (op := op) hft0 (rnd op S0 (seedF x) i).1
          have hal := shTo_all (op := op) (s := S0) (ss := (rnd op S0 (seedF x) i).1)
          rw [hgl, hal0] at hal
          have hcnt := rnd_count (op := op) (x := seedF x) hfi0 i hi
          rw [← hS] at hsp hfs hft hal hcnt
          have hsq2 := sd_quo (rnd op S0 (seedF x) i).2
          have hfin : i + 1 = S0.ixs.length → orderL k p n ts op (A ++ (rnd op S0 (seedF x) i).1) ∧ nxt ts op P x = (A ++ (rnd op S0 (seedF x) i).1, (rnd op S0 (seedF x) i).2) := fun h => by
            have e : S0.ixs.length - 1 = i := by omega
            have hN : nxt ts op P x = (A ++ (rnd op S0 (seedF x) i).1, (rnd op S0 (seedF x) i).2) := by rw [← e, hS0, hA, hc]; rfl
            exact ⟨by have := nxt_ok hord (by omega) x; rw [hN] at this; exact this, hN⟩
          refine wp_sc ?_
          refine wp_sc ?_
          refine wp_sq ?_
          refine sq_v rfl (v_move rfl) rfl ?_
          refine sq_v rfl (v_len Try.underlying43 rfl q2.toR.sl) rfl ?_
          refine sq_v rfl (v_move rfl) rfl ?_
          refine sq_v rfl (v_len Try.underlying43 rfl q.toR.sl) rfl ?_
          refine sq_v rfl (v_lss rfl rfl) rfl ?_
          refine sq_end ?_
          refine qs_n ?_
          refine wp_cd rfl (fun c58 => ?_) (fun c58 => ?_)
          · refine wp_sk ?_
            refine qs_n ?_
            refine wp_bl ?_
            refine wp_sc ?_
            refine wp_sq ?_
            refine sq_v rfl (v_move rfl) rfl ?_
            have hpl2 : 0 < (pairsL S.ixs).length := List.length_pos_iff.2 (fun e => by rw [pairs_nil] at e; omega); have hpf := pairs_few (l := S.ixs) (by omega); have hsl3 := stps_len (pairsL S.ixs)
            refine sq_x rfl (x_call rfl en_145 (fun w s => ct_w_l19Pairs (dimOf ts) S _ w g _ hsp (s.get 0 rfl) (s.get 4 rfl) (by omega))) rfl ?_; rintro v60 h60 r60
            obtain ⟨cs_S_60, rr_S_60, hc_S_60⟩ := r60.toR.at
            refine sq_v rfl (v_assign rfl) rfl ?_
            refine sq_end ?_
            refine qs_n ?_
            refine wp_sc ?_
            refine wp_sq ?_
            refine sq_v rfl (v_move rfl) rfl ?_
            refine sq_u rfl (x_callv rfl en_143 (fun w s => ct_s_NextSeed _ w)) rfl ?_
            refine sq_v rfl (v_assign rfl) rfl ?_
            refine sq_end ?_
            refine qs_n ?_
            refine wp_sc ?_
            refine wp_sq ?_
            refine sq_v rfl (v_move rfl) rfl ?_
            refine sq_v rfl (v_move rfl) rfl ?_
            refine sq_v rfl (v_quoE rfl rfl (by omega) (by unfold I64; omega) rfl) rfl ?_
            refine sq_v rfl (v_move rfl) rfl ?_
            refine sq_v rfl (v_len Try.underlying43 rfl r60.toR.sl) rfl ?_
            have hrp := rndP_ok (s := S) (x := seedF (rnd op S0 (seedF x) i).2) (by omega) (seedF_in _).1; have hpl := rnd_place (x := seedF (rnd op S0 (seedF x) i).2) (m := (pairsL S.ixs).length) (seedF_in _).1 (by omega); obtain ⟨d, hd⟩ : ∃ d : Nat, (d : Int) = ((seedF (rnd op S0 (seedF x) i).2).tdiv 65536).tmod (pairsL S.ixs).length := ⟨(((seedF (rnd op S0 (seedF x) i).2).tdiv 65536).tmod (pairsL S.ixs).length).toNat, by omega⟩
            refine sq_v rfl (v_remE (c := (d : Int)) rfl rfl (by omega) (by rw [stps_len]; exact hd.symm)) rfl ?_
            obtain ⟨x69, hx69, hcs69⟩ := hc_S_60 ((d : Int).toNat) (by first | omega | (rw [List.length_set]; omega))
            refine sq_v rfl (v_indexAddr Try.underlying43 ty_114 rfl rfl rr_S_60 (by decide) (by omega) (by first | omega | (rw [List.length_set]; omega))) rfl ?_
            refine sq_v rfl (v_loadNE 0 ty_114 rfl rfl rr_S_60 (by have := rr_S_60.1; omega) rfl hcs69) rfl ?_
            refine sq_x rfl (x_alloc ty_114 rfl) rfl ?_; rintro _ _ ⟨b15, rfl, rfl⟩
            refine sq_m 0 rfl rfl (m_store 0 ty_114 rfl rfl rfl rfl (by simp [Value.oneCell']) rfl (Nat.le_of_ble_eq_true rfl)) rfl ?_; rintro _ _ ⟨rfl, rfl⟩
            refine sq_end ?_
            obtain ⟨p0, hp0, e69⟩ := stps_at hx69
            have hpe : p0 = rndP S (seedF (rnd op S0 (seedF x) i).2) := by have e := hrp.1; rw [← hd] at e; simp only [Int.toNat_natCast] at e hp0; rw [hp0] at e; exact Option.some.inj e
            rw [hpe] at e69
            have hxa : x69.a = ((rndP S (seedF (rnd op S0 (seedF x) i).2)).1 : Nat) := by rw [e69]
            have hxb : x69.b = ((rndP S (seedF (rnd op S0 (seedF x) i).2)).2 : Nat) := by rw [e69]
            refine qs_n ?_
            refine wp_sc ?_
            refine wp_sq ?_
            refine sq_v rfl (v_move rfl) rfl ?_
            refine sq_v rfl (v_fieldAddr fd_48_2 ty_24 (by decide) rfl) rfl ?_
            refine sq_v rfl (v_loadB 5 ty_24 rfl rfl rfl) rfl ?_
            refine sq_v rfl (v_loadNB 0 ty_114 rfl rfl rfl rfl) rfl ?_
            have hst' : stepOk S x69 := ⟨live_ixs.2 ⟨by omega, by rw [hxa, Int.toNat_natCast]; exact hrp.2.1⟩, live_ixs.2 ⟨by omega, by rw [hxb, Int.toNat_natCast]; exact hrp.2.2.1⟩, by have := hrp.2.2.2; omega⟩
            refine sq_m 2 rfl rfl (x_call rfl en_146 (fun w s => ct_s_l17Step (dimOf ts) S op _ bb _ _ w _ _ (s.get 2 rfl) (s.getR 2 6 rfl rfl (by decide)) hsp (r'.mono (s.getR 2 6 rfl rfl (by decide))) hfs hft hst' (by omega) hop)) rfl ?_; rintro _ h75 ⟨rfl, hsp'⟩
            refine sq_end ?_
            refine qs_n ?_
            refine wp_sq ?_
            refine sq_v rfl (v_move rfl) rfl ?_
            refine sq_v rfl (v_loadNB 0 ty_114 rfl rfl rfl rfl) rfl ?_
            refine sq_x rfl (x_buildS [.agg [num x69.a, num x69.b].toArray] Try.underlying43 ty_114 (by decide) rfl rfl rfl (by decide) (by decide) (by intro v hv; simp at hv; subst hv; rfl)) rfl ?_; intro v78 h78 (r78 : RowO 114 [num x69.a, num x69.b] 1 2 v78 h78)
            refine sq_m 4 rfl rfl (m_appS (ss := (A ++ (rnd op S0 (seedF x) i).1)) (us := ([⟨(x69.a), (x69.b)⟩] : List Stp)) 4 0 Try.underlying43 ty_114 rfl rfl rfl rfl q2 rfl r78.toR (by first | omega | (simp only [List.length_cons, List.length_nil]; omega) | (simp only [List.length_append, List.length_cons, List.length_nil]; omega) | (rw [List.length_set]; omega) | (rw [List.length_replicate]; omega) | (simp; omega))) rfl ?_; intro v79 h_r79 r79
            obtain ⟨cs_S_79, rr_S_79, hc_S_79⟩ := r79.toR.at
            refine sq_v rfl (v_assign rfl) rfl ?_
            refine sq_end ?_
            refine qs_bn ?_
            exact qs_bk (i + 1, h75, v79, h_r79) ⟨by (try dsimp only); omega, by (try dsimp only); rw [rnd_step, ← hS]; rw [hxa, hxb, Int.toNat_natCast, Int.toNat_natCast] at hsp'; exact hsp', by (try dsimp only); rw [rnd, ← hS, ← List.append_assoc, ← e69]; exact r79⟩ (by simp only; omega) ⟨rfl, (by first | rfl | exact ksub rfl (by first | omega | (simp; done) | (simp; omega))), rfl, rfl, rfl, rfl, rfl, (by first | rfl | exact ksub rfl (by first | omega | (simp; done) | (simp; omega))), rfl, trivial⟩ (fun _ s => s.pick [3, 4, 5, 6, 7] (by decide) rfl)
          · refine wp_ex ?_
            refine qs_x ?_
            refine qs_x ?_
            refine qs_bx ?_
            refine qs_n ?_
            refine wp_sc ?_
            refine wp_rj 7 [(0, true), (1, true), (3, true), (4, true), (2, false), (5, false), (6, true)] mixed_ok (by kernel_rfl) ?_
            refine rj_v rfl rfl (v_loadNB 3 ty_48 rfl rfl rfl rfl) rfl ?_
            refine rj_v rfl rfl (v_move rfl) rfl ?_
            refine rj_v rfl rfl (v_loadNB 3 ty_48 rfl rfl rfl rfl) rfl ?_
            refine rj_v rfl rfl (v_move rfl) rfl ?_
            refine rj_u rfl rfl (x_callv rfl en_147 (fun w s => ct_s_l17Cost _ _ _ _ _ _ _ _ _ w (r.mono (s.get 4 rfl)) (r'.mono (s.get 4 rfl)) (q2.toR.mono (s.get 1 rfl)) hop ((hfin (by omega)).1))) rfl ?_
            refine rj_u rfl rfl (x_callv rfl en_147 (fun w s => ct_s_l17Cost _ _ _ _ _ _ _ _ _ w (r.mono (s.get 4 rfl)) (r'.mono (s.get 4 rfl)) (q.toR.mono (s.get 2 rfl)) hop hord)) rfl ?_
            refine rj_v rfl rfl (v_lss rfl rfl) rfl ?_
            refine rj_end ?_
            refine qs_n ?_
            refine wp_cd rfl (fun c86 => ?_) (fun c86 => ?_)
            · refine wp_sq ?_
              refine sq_v rfl (v_move rfl) rfl ?_
              refine sq_v rfl (v_assign rfl) rfl ?_
              refine sq_end ?_
              refine qs_bn ?_
              refine qs_n ?_
              refine wp_sq ?_
              refine sq_v rfl (v_move rfl) rfl ?_
              refine sq_v rfl (v_sub rfl rfl ((by unfold I64; omega))) rfl ?_
              refine sq_v rfl (v_assign rfl) rfl ?_
              refine sq_end ?_
              exact qs_bk (j + 1, A ++ (rnd op S0 (seedF x) i).1, (rnd op S0 (seedF x) i).2, ov, oh) ⟨by (try dsimp only); omega, by (try dsimp only); rw [impIt, hP, imp1]; simp only [(hfin (by omega)).2]; rw [if_pos c86], (hfin (by omega)).1, q2⟩ (by simp only; omega) ⟨rfl, (by first | rfl | exact ksub rfl (by first | omega | (simp; done) | (simp; omega))), (by first | rfl | exact ksub rfl (by first | omega | (simp; done) | (simp; omega))), rfl, rfl, rfl, (by first | rfl | exact ksub rfl (by first | omega | (simp; done) | (simp; omega))), trivial⟩ (fun _ s => s.pick [1, 3, 4] (by decide) rfl)
            · refine wp_sk ?_
              refine qs_bn ?_
              refine qs_n ?_
              refine wp_sq ?_
              refine sq_v rfl (v_move rfl) rfl ?_
              refine sq_v rfl (v_sub rfl rfl ((by unfold I64; omega))) rfl ?_
              refine sq_v rfl (v_assign rfl) rfl ?_
              refine sq_end ?_
              exact qs_bk (j + 1, P, (rnd op S0 (seedF x) i).2, nv, nh) ⟨by (try dsimp only); omega, by (try dsimp only); rw [impIt, hP, imp1]; simp only [(hfin (by omega)).2]; rw [if_neg c86], hord, q⟩ (by simp only; omega) ⟨rfl, (by first | rfl | exact ksub rfl (by first | omega | (simp; done) | (simp; omega))), (by first | rfl | exact ksub rfl (by first | omega | (simp; done) | (simp; omega))), rfl, rfl, rfl, (by first | rfl | exact ksub rfl (by first | omega | (simp; done) | (simp; omega))), trivial⟩ (fun _ s => s.pick [2, 3, 4] (by decide) rfl)
        · refine wp_ex ?_
          refine qs_x ?_
          refine qs_x ?_
          refine qs_bx ?_
          refine qs_n ?_
          refine wp_sc ?_
          refine wp_sq ?_
          refine sq_v rfl (v_move rfl) rfl ?_
          refine sq_v rfl (v_assign rfl) rfl ?_
          refine sq_v rfl (v_assign rfl) rfl ?_
          refine sq_end ?_
          refine qs_n ?_
          refine wp_rt ?_
          exact qs_ret2 rfl rfl rfl (fin_t 0 (i := 2) rfl rfl rfl (ImpYes ⟨hord0, by omega⟩ (by rw [if_pos (by omega), List.eq_nil_of_length_eq_zero (show ss.length = 0 by omega), List.eq_nil_of_length_eq_zero (show P.length = 0 by omega)]) q))
      · refine sq_v rfl (v_move rfl) rfl ?_
        refine sq_s rfl rfl ?_
        refine sq_s rfl rfl ?_
        refine sq_s rfl rfl ?_
        refine sq_v rfl (v_pickf rfl rfl) rfl ?_
        refine sq_end ?_
        refine qs_n ?_
        refine wp_cf rfl ?_
        refine wp_ex ?_
        refine qs_x ?_
        refine qs_x ?_
        refine qs_bx ?_
        refine qs_n ?_
        refine wp_sc ?_
        refine wp_sq ?_
        refine sq_v rfl (v_move rfl) rfl ?_
        refine sq_v rfl (v_assign rfl) rfl ?_
        refine sq_v rfl (v_assign rfl) rfl ?_
        refine sq_end ?_
        refine qs_n ?_
        refine wp_rt ?_
        exact qs_ret2 rfl rfl rfl (fin_t 0 (i := 2) rfl rfl rfl (ImpYes ⟨hord0, by omega⟩ (by split; (rw [List.eq_nil_of_length_eq_zero (show ss.length = 0 by omega), List.eq_nil_of_length_eq_zero (show P.length = 0 by omega)]); (rw [show m.toNat = j by omega, hP])) q))
  · refine sq_v rfl (v_not rfl) rfl ?_
    refine sq_v rfl (v_move rfl) rfl ?_
    refine sq_s rfl rfl ?_
    refine sq_s rfl rfl ?_
    refine sq_s rfl rfl ?_
    refine sq_v rfl (v_pickt rfl rfl) rfl ?_
    refine sq_end ?_
    refine qs_n ?_
    refine wp_ct rfl ?_
    refine wp_sc ?_
    refine wp_sq ?_
    refine sq_v rfl (v_assign rfl) rfl ?_
    refine sq_v rfl (v_assign rfl) rfl ?_
    refine sq_end ?_
    refine qs_n ?_
    refine wp_rt ?_
    refine qs_r ?_
    exact qs_ret2 rfl rfl rfl (fin_e (i := 1) rfl (ImpNo (fun h => orderB_false.1 c18 h.1)))
end Go.Proofs.Ytikeobneipjfnaa
namespace Go.Proofs.Ytikeobneipjfnaa
set_option maxRecDepth 100000
open Go.RowKit
set_option maxHeartbeats 4000000 in
theorem ct_i_ImproveOrder (k p n x0 m : Int) (ts : List Ten) (op : List Int) (ss : List Stp) (vt vo v : Value) (w : World) (r : TensR ts vt (hp w)) (r' : IntsR op vo (hp w)) (rv : StepsR ss v (hp w)) (hop : op.length ≤ 1048576) :
    Calls Try.prog 56 [netV k p n vt vo, v, num x0, num m].toArray w (Ret w emp (StepsB (impR k p n ts op ss x0 m) (impB k p n ts op ss m))) := by
  refine calls_in Try.func56 rfl Try.ntmps56 rfl (Sat.start w) ?_
  have hle0 := r.le
  obtain ⟨cs_r, rr_r, hc_r⟩ := r.at
  have hle1 := r'.le
  have hle2 := rv.le
  obtain ⟨cs_rv, rr_rv, hc_rv⟩ := rv.at
  refine wp_sc ?_
  refine wp_sq ?_
  refine sq_x rfl (x_box rfl rfl) rfl ?_; rintro _ _ ⟨b4, rfl, rfl⟩
  refine sq_v rfl (v_assign rfl) rfl ?_
  refine sq_v rfl (v_assign rfl) rfl ?_
  refine sq_end ?_
  refine qs_n ?_
  refine wp_sc ?_
  refine wp_sc ?_
  refine wp_sq ?_
  refine sq_v rfl (v_loadNB 0 ty_48 rfl rfl rfl rfl) rfl ?_
  refine sq_v rfl (v_move rfl) rfl ?_
  refine sq_u rfl (x_callv rfl en_109 (fun w s => ct_i_OrderOk _ _ _ _ _ _ _ _ _ w (r.mono (s.get 1 rfl)) (r'.mono (s.get 1 rfl)) (rv.mono (s.get 1 rfl)) (by first | assumption | omega))) rfl ?_
  refine sq_bb 20 rfl (fun c20 => ?_) (fun c20 => ?_)
  · refine sq_v rfl (v_not rfl) rfl ?_
    refine sq_v rfl (v_move rfl) rfl ?_
    refine sq_v rfl (v_move rfl) rfl ?_
    refine sq_v rfl (v_lss rfl rfl) rfl ?_
    refine sq_v rfl (v_pickf rfl rfl) rfl ?_
    refine sq_bd 25 rfl (fun c25 => ?_) (fun c25 => ?_)
    · refine sq_v rfl (v_move rfl) rfl ?_
      refine sq_s rfl rfl ?_
      refine sq_s rfl rfl ?_
      refine sq_v rfl (v_pickt rfl rfl) rfl ?_
      refine sq_end ?_
      refine qs_n ?_
      refine wp_ct rfl ?_
      refine wp_sc ?_
      refine wp_sq ?_
      refine sq_v rfl (v_assign rfl) rfl ?_
      refine sq_v rfl (v_assign rfl) rfl ?_
      refine sq_end ?_
      refine qs_n ?_
      refine wp_rt ?_
      refine qs_r ?_
      exact qs_ret2 rfl rfl rfl (fin_e (i := 1) rfl (ImpNo (fun h => by first | exact orderB_false.1 c20 h.1 | (have := h.2; omega))))
    · refine sq_v rfl (v_move rfl) rfl ?_
      refine sq_v rfl (v_move rfl) rfl ?_
      refine sq_v rfl (v_gtr rfl rfl) rfl ?_
      refine sq_v rfl (v_pickf rfl rfl) rfl ?_
      refine sq_end ?_
      refine qs_n ?_
      refine wp_cd rfl (fun c29 => ?_) (fun c29 => ?_)
      · refine wp_sc ?_
        refine wp_sq ?_
        refine sq_v rfl (v_assign rfl) rfl ?_
        refine sq_v rfl (v_assign rfl) rfl ?_
        refine sq_end ?_
        refine qs_n ?_
        refine wp_rt ?_
        refine qs_r ?_
        exact qs_ret2 rfl rfl rfl (fin_e (i := 1) rfl (ImpNo (fun h => by first | exact orderB_false.1 c20 h.1 | (have := h.2; omega))))
      · refine wp_sk ?_
        refine qs_n ?_
        refine wp_sc ?_
        refine wp_sq ?_
        refine sq_v rfl (v_move rfl) rfl ?_
        have hord0 := orderB_true.1 c20; have hnet := hord0.1; have h12 := hnet.2.1; have hax := net_axes hnet; have hsl0 := hord0.2.1
        refine sq_x rfl (x_call rfl en_148 (fun w s => ct_i_copySteps _ _ w (rv.mono (s.get 1 rfl)) (by first | assumption | omega))) rfl ?_; rintro v31 h31 r31
        obtain ⟨cs_S_31, rr_S_31, hc_S_31⟩ := r31.toR.at
        refine sq_v rfl (v_assign rfl) rfl ?_
        refine sq_end ?_
        refine qs_n ?_
        refine wp_sc ?_
        refine wp_sc ?_
        refine wp_sq ?_
        refine sq_v rfl (v_move rfl) rfl ?_
        refine sq_v rfl (v_len Try.underlying43 rfl rv.sl) rfl ?_
        refine sq_v rfl (v_eql rfl rfl) rfl ?_
        refine sq_end ?_
        refine qs_n ?_
        refine wp_cd rfl (fun c34 => ?_) (fun c34 => ?_)
        · refine wp_sc ?_
          refine wp_sq ?_
          refine sq_v rfl (v_move rfl) rfl ?_
          refine sq_v rfl (v_assign rfl) rfl ?_
          refine sq_v rfl (v_assign rfl) rfl ?_
          refine sq_end ?_
          refine qs_n ?_
          refine wp_rt ?_
          refine qs_r ?_
          exact qs_ret2 rfl rfl rfl (fin_t 0 (i := 2) rfl rfl rfl (ImpYes ⟨hord0, by omega⟩ (by rw [if_pos (by omega)]) r31))
        · refine wp_sk ?_
          refine qs_n ?_
          refine wp_sc ?_
          refine wp_sc ?_
          refine wp_sq ?_
          refine sq_v rfl (v_assign rfl) rfl ?_
          refine sq_end ?_
          refine qs_n ?_
          refine wp_bl ?_
          refine wp_lp (σ := Nat × (List Stp) × Int × Value × PH) (fun z_ => [(2, num z_.2.2.1), (3, num m), (4, .pointer (some ⟨b4, 0, none⟩)), (8, .slice none 0 0), (9, .bool false), (10, z_.2.2.2.1), (11, num z_.1)]) (fun z_ => [z_.2.2.2.2, box b4 [num k, num p, num n, vt, vo] 48, hp w]) (fun z_ => (z_.1 : Int) ≤ m ∧ impIt ts op ss x0 z_.1 = (z_.2.1, z_.2.2.1) ∧ orderL k p n ts op z_.2.1 ∧ StepsO z_.2.1 z_.2.2.2.1 z_.2.2.2.2) (fun z_ => m.toNat - z_.1) (0, ss, x0, v31, h31) (⟨by (try dsimp only); omega, rfl, hord0, r31⟩) ⟨(by first | rfl | exact ksub rfl (by first | omega | (simp; done) | (simp; omega))), rfl, rfl, rfl, rfl, (by first | rfl | exact ksub rfl (by first | omega | (simp; done) | (simp; omega))), (by first | rfl | exact ksub rfl (by first | omega | (simp; done) | (simp; omega))), trivial⟩ (fun _ s => s) ?_
          rintro ⟨j, P, x, nv, nh⟩ ⟨hj, hP, hord, q⟩
          dsimp only at hj hP hord q ⊢
          obtain ⟨cs_q, rr_q, hc_q⟩ := q.toR.at
          have hle_q := q.toR.le
          have hsl := hord.2.1
          have hsq := sd_quo x
          refine wp_sc ?_
          refine wp_sc ?_
          refine wp_sq ?_
          refine sq_v rfl (v_move rfl) rfl ?_
          refine sq_v rfl (v_move rfl) rfl ?_
          refine sq_v rfl (v_lss rfl rfl) rfl ?_
          refine sq_end ?_
          refine qs_n ?_
          refine wp_cd rfl (fun c38 => ?_) (fun c38 => ?_)
          · refine wp_sk ?_
            refine qs_n ?_
            refine wp_sc ?_
            refine wp_bl ?_
            refine wp_sc ?_
            refine wp_sq ?_
            refine sq_v rfl (v_move rfl) rfl ?_
            refine sq_u rfl (x_callv rfl en_149 (fun w s => ct_i_NextSeed _ w)) rfl ?_
            refine sq_v rfl (v_assign rfl) rfl ?_
            refine sq_end ?_
            refine qs_n ?_
            refine wp_sc ?_
            refine wp_sq ?_
            refine sq_v rfl (v_move rfl) rfl ?_
            refine sq_v rfl (v_quoE rfl rfl (by omega) (by unfold I64; omega) rfl) rfl ?_
            refine sq_v rfl (v_move rfl) rfl ?_
            refine sq_v rfl (v_len Try.underlying43 rfl q.toR.sl) rfl ?_
            have hcl := cut_lt (P := P) (by omega) x; obtain ⟨c, hc⟩ : ∃ c, c = cutN P (seedF x) := ⟨_, rfl⟩; rw [← hc] at hcl; have hcc := cut_count hord c (by omega); have hAl : (P.take ((c : Int).toNat)).length = c := (by simp; omega)
            refine sq_v rfl (v_remE (c := (c : Int)) rfl rfl (by omega) hcl.1) rfl ?_
            refine sq_v rfl (v_assign rfl) rfl ?_
            refine sq_end ?_
            refine qs_n ?_
            refine wp_sc ?_
            refine wp_sq ?_
            refine sq_v rfl (v_loadNB 1 ty_48 rfl rfl rfl rfl) rfl ?_
            refine sq_x rfl (x_call rfl en_150 (fun w s => ct_i_startState _ _ _ _ _ _ _ w (r.mono (s.get 2 rfl)) (r'.mono (s.get 2 rfl)) hax h12)) rfl ?_; rintro _ h49 ⟨bb, arr, rfl, rst, hinv⟩
            refine sq_v rfl (v_assign rfl) rfl ?_
            refine sq_end ?_
            refine qs_n ?_
            refine wp_sc ?_
            refine wp_sc ?_
            refine wp_sq ?_
            refine sq_v rfl (v_move rfl) rfl ?_
            refine sq_v rfl (v_move rfl) rfl ?_
            refine sq_v rfl (v_sliceH Try.underlying43 ty_114 rfl rfl  q.toR (by omega) (by omega)) rfl ?_
            obtain ⟨cs_S_52, rr_S_52, hc_S_52⟩ := (q.toR.subH (hi := (c : Int).toNat) (by omega)).at
            refine sq_v rfl (v_len Try.underlying43 rfl (q.toR.subH (hi := (c : Int).toNat) (by omega)).sl) rfl ?_
            refine sq_v rfl (v_move rfl) rfl ?_
            refine sq_end ?_
            refine qs_n ?_
            refine wp_bl ?_
            refine wp_lp (σ := Nat × PH) (fun z_ => [(2, num (seedF x)), (3, num m), (4, .pointer (some ⟨b4, 0, none⟩)), (8, .slice none 0 0), (9, .bool false), (10, nv), (11, num j), (12, num c), (13, ptrV bb), (36, num j), (37, num m), (38, .bool (decide ((j : Int) < m))), (41, num x), (42, num (seedF x)), (43, num (seedF x)), (44, num ((seedF x).tdiv 65536)), (45, nv), (46, num P.length), (47, num c), (48, .agg [num k, num p, num n, vt, vo].toArray), (49, ptrV bb), (50, nv), (51, num c), (52, subV nv 0 ((c : Int).toNat) 2), (53, num (P.take ((c : Int).toNat)).length), (54, num z_.1)]) (fun z_ => [z_.2, nh, box b4 [num k, num p, num n, vt, vo] 48, hp w]) (fun z_ => z_.1 ≤ c ∧ StO arr vo (shTo op (sh0 ts) (P.take z_.1)) bb z_.2) (fun z_ => c - z_.1) (0, h49) (⟨by (try dsimp only); omega, rst⟩) ⟨rfl, rfl, rfl, rfl, rfl, rfl, rfl, rfl, rfl, rfl, rfl, rfl, rfl, rfl, rfl, rfl, rfl, rfl, rfl, rfl, rfl, rfl, rfl, rfl, rfl, (by first | rfl | exact ksub rfl (by first | omega | (simp; done) | (simp; omega))), trivial⟩ (fun _ s => s) ?_
            rintro ⟨i, g⟩ ⟨hi, rst⟩
            dsimp only at hi rst ⊢
            have hfs := shTo_fine (op := op) (sh0_fine hax) (P.take i)
            have hal := shTo_all (op := op) (s := sh0 ts) (ss := P.take i)
            rw [List.length_take, show (sh0 ts).all.length = ts.length by simp [sh0]] at hal
            refine wp_sc ?_
            refine wp_sq ?_
            refine sq_v rfl (v_lss rfl rfl) rfl ?_
            refine sq_end ?_
            refine qs_n ?_
            refine wp_sc ?_
            refine wp_cd rfl (fun c55 => ?_) (fun c55 => ?_)
            · refine wp_sk ?_
              refine qs_n ?_
              refine wp_sc ?_
              refine wp_bl ?_
              refine wp_sc ?_
              refine wp_sq ?_
              obtain ⟨x56, hx56, hcs56⟩ := hc_S_52 (i) (by first | omega | (rw [List.length_set]; omega))
              refine sq_v rfl (v_indexAddr Try.underlying43 ty_114 rfl rfl rr_S_52 (by decide) (by omega) (by first | omega | (rw [List.length_set]; omega))) rfl ?_
              refine sq_v rfl (v_loadNE 1 ty_114 rfl rfl rr_S_52 (by have := rr_S_52.1; omega) rfl hcs56) rfl ?_
              refine sq_x rfl (x_alloc ty_114 rfl) rfl ?_; rintro _ _ ⟨b15, rfl, rfl⟩
              refine sq_m 0 rfl rfl (m_store 0 ty_114 rfl rfl rfl rfl (by simp [Value.oneCell']) rfl (Nat.le_of_ble_eq_true rfl)) rfl ?_; rintro _ _ ⟨rfl, rfl⟩
              refine sq_end ?_
              have hP56 : P[i]? = some x56 := by have e := hx56; simp only [Int.toNat_natCast] at e; rw [List.getElem?_take, if_pos (by omega)] at e; exact e
              have hst := stepOk_at hord.2.2 hP56
              refine qs_n ?_
              refine wp_sq ?_
              refine sq_v rfl (v_move rfl) rfl ?_
              refine sq_v rfl (v_loadNB 0 ty_114 rfl rfl rfl rfl) rfl ?_
              refine sq_m 1 rfl rfl (x_call rfl en_151 (fun w s => ct_L_follow arr op vo _ bb _ _ w _ (s.get 1 rfl) rst (r'.mono (s.getR 1 4 rfl rfl (by decide))) (fun i => by have := hfs.few i; omega) (by omega))) rfl ?_; rintro _ h60 ⟨rfl, rst'⟩
              refine sq_end ?_
              refine qs_bn ?_
              refine qs_n ?_
              refine wp_sq ?_
              refine sq_v rfl (v_add rfl rfl ((by unfold I64; omega))) rfl ?_
              refine sq_v rfl (v_move rfl) rfl ?_
              refine sq_end ?_
              exact qs_bk (i + 1, h60) ⟨by (try dsimp only); omega, by (try dsimp only); rw [nextSh_yes (okB_true.2 hst)] at rst'; rw [shTo_step hP56]; exact rst'⟩ (by simp only; omega) ⟨rfl, rfl, rfl, rfl, rfl, rfl, rfl, rfl, rfl, rfl, rfl, rfl, rfl, rfl, rfl, rfl, rfl, rfl, rfl, rfl, rfl, rfl, rfl, rfl, rfl, (by first | rfl | exact ksub rfl (by first | omega | (simp; done) | (simp; omega))), trivial⟩ (fun _ s => s.pick [1, 2, 3, 4] (by decide) rfl)
            · refine wp_ex ?_
              refine qs_x ?_
              refine qs_x ?_
              refine qs_bx ?_
              refine qs_n ?_
              refine wp_sc ?_
              refine wp_sq ?_
              refine sq_v rfl (v_assign rfl) rfl ?_
              refine sq_end ?_
              have hie : i = c := by omega
              obtain ⟨S0, hS0⟩ : ∃ S0, S0 = shTo op (sh0 ts) (P.take c) := ⟨_, rfl⟩
              rw [hie, ← hS0] at rst hfs
              rw [hie, ← hS0] at hal
              rw [← hS0] at hcc
              have hN : nxt ts op P x = (P.take c ++ (rnd op S0 (seedF x) (S0.ixs.length - 1)).1, (rnd op S0 (seedF x) (S0.ixs.length - 1)).2) := by rw [hS0, hc]; rfl
              have hNo : orderL k p n ts op (P.take c ++ (rnd op S0 (seedF x) (S0.ixs.length - 1)).1) := by have := nxt_ok hord (by omega) x; rw [hN] at this; exact this
              have hRl := rnd_len op S0 (seedF x) (S0.ixs.length - 1)
              refine qs_n ?_
              refine wp_sc ?_
              refine wp_sq ?_
              refine sq_v rfl (v_move rfl) rfl ?_
              refine sq_v rfl (v_move rfl) rfl ?_
              refine sq_m 0 rfl rfl (x_call rfl en_152 (fun w s => ct_i_randomSteps (dimOf ts) arr op vo _ bb _ w _ (s.get 0 rfl) rst (r'.mono (s.getR 0 3 rfl rfl (by decide))) hfs (by omega) (by omega))) rfl ?_; rintro _ h65 ⟨v65, rfl, r65⟩
              obtain ⟨cs_S_65, rr_S_65, hc_S_65⟩ := r65.at
              refine sq_v rfl (v_move rfl) rfl ?_
              refine sq_v rfl (v_extract rfl rfl) rfl ?_
              refine sq_v rfl (v_extract rfl rfl) rfl ?_
              refine sq_v rfl (v_assign rfl) rfl ?_
              refine sq_v rfl (v_assign rfl) rfl ?_
              refine sq_end ?_
              refine qs_n ?_
              refine wp_sc ?_
              refine wp_sq ?_
              refine sq_v rfl (v_move rfl) rfl ?_
              refine sq_v rfl (v_move rfl) rfl ?_
              refine sq_v rfl (v_sliceH Try.underlying43 ty_114 rfl rfl  q.toR (by omega) (by omega)) rfl ?_
              obtain ⟨cs_S_70, rr_S_70, hc_S_70⟩ := (q.toR.subH (hi := (c : Int).toNat) (by omega)).at
              refine sq_x rfl (x_call rfl en_148 (fun w s => ct_i_copySteps _ _ w ((q.toR.subH (hi := (c : Int).toNat) (by omega)).mono (s.get 1 rfl)) (by first | assumption | omega))) rfl ?_; rintro v71 h71 r71
              obtain ⟨cs_S_71, rr_S_71, hc_S_71⟩ := r71.toR.at
              refine sq_v rfl (v_move rfl) rfl ?_
              refine sq_m 0 rfl rfl (m_appS (ss := (P.take ((c : Int).toNat))) (us := ((rnd op S0 (seedF x) (S0.ixs.length - 1)).1)) 0 1 Try.underlying43 ty_114 rfl rfl rfl rfl r71 rfl r65 (by first | omega | (simp only [List.length_cons, List.length_nil]; omega) | (simp only [List.length_append, List.length_cons, List.length_nil]; omega) | (rw [List.length_set]; omega) | (rw [List.length_replicate]; omega) | (simp; omega))) rfl ?_; intro v73 h_r73 r73
              obtain ⟨cs_S_73, rr_S_73, hc_S_73⟩ := r73.toR.at
              refine sq_v rfl (v_assign rfl) rfl ?_
              refine sq_end ?_
              refine qs_n ?_
              refine wp_sc ?_
              refine wp_rj 7 [(0, true), (1, true), (3, true), (4, true), (2, false), (5, false), (6, true)] mixed_ok (by kernel_rfl) ?_
              refine rj_v rfl rfl (v_loadNB 3 ty_48 rfl rfl rfl rfl) rfl ?_
              refine rj_v rfl rfl (v_move rfl) rfl ?_
              refine rj_v rfl rfl (v_loadNB 3 ty_48 rfl rfl rfl rfl) rfl ?_
              refine rj_v rfl rfl (v_move rfl) rfl ?_
              refine rj_u rfl rfl (x_callv rfl en_153 (fun w s => ct_i_OrderCost _ _ _ _ _ _ _ _ _ w (r.mono (s.get 4 rfl)) (r'.mono (s.get 4 rfl)) (r73.toR.mono (s.get 0 rfl)) hop hNo)) rfl ?_
              refine rj_u rfl rfl (x_callv rfl en_153 (fun w s => ct_i_OrderCost _ _ _ _ _ _ _ _ _ w (r.mono (s.get 4 rfl)) (r'.mono (s.get 4 rfl)) (q.toR.mono (s.get 2 rfl)) hop hord)) rfl ?_
              refine rj_v rfl rfl (v_lss rfl rfl) rfl ?_
              refine rj_end ?_
              refine qs_n ?_
              refine wp_cd rfl (fun c80 => ?_) (fun c80 => ?_)
              · refine wp_sq ?_
                refine sq_v rfl (v_move rfl) rfl ?_
                refine sq_v rfl (v_assign rfl) rfl ?_
                refine sq_end ?_
                refine qs_bn ?_
                refine qs_n ?_
                refine wp_sq ?_
                refine sq_v rfl (v_move rfl) rfl ?_
                refine sq_v rfl (v_add rfl rfl ((by unfold I64; omega))) rfl ?_
                refine sq_v rfl (v_assign rfl) rfl ?_
                refine sq_end ?_
                exact qs_bk (j + 1, P.take c ++ (rnd op S0 (seedF x) (S0.ixs.length - 1)).1, (rnd op S0 (seedF x) (S0.ixs.length - 1)).2, v73, h_r73) ⟨by (try dsimp only); omega, by (try dsimp only); rw [impIt, hP, imp1]; simp only [hN]; rw [if_pos (show costC ts op (P.take c ++ (rnd op S0 (seedF x) (S0.ixs.length - 1)).1) < costC ts op P from c80)], hNo, r73⟩ (by simp only; omega) ⟨(by first | rfl | exact ksub rfl (by first | omega | (simp; done) | (simp; omega))), rfl, rfl, rfl, rfl, (by first | rfl | exact ksub rfl (by first | omega | (simp; done) | (simp; omega))), (by first | rfl | exact ksub rfl (by first | omega | (simp; done) | (simp; omega))), trivial⟩ (fun _ s => s.pick [0, 3, 4] (by decide) rfl)
              · refine wp_sk ?_
                refine qs_bn ?_
                refine qs_n ?_
                refine wp_sq ?_
                refine sq_v rfl (v_move rfl) rfl ?_
                refine sq_v rfl (v_add rfl rfl ((by unfold I64; omega))) rfl ?_
                refine sq_v rfl (v_assign rfl) rfl ?_
                refine sq_end ?_
                exact qs_bk (j + 1, P, (rnd op S0 (seedF x) (S0.ixs.length - 1)).2, nv, nh) ⟨by (try dsimp only); omega, by (try dsimp only); rw [impIt, hP, imp1]; simp only [hN]; rw [if_neg (show ¬ costC ts op (P.take c ++ (rnd op S0 (seedF x) (S0.ixs.length - 1)).1) < costC ts op P from c80)], hord, q⟩ (by simp only; omega) ⟨(by first | rfl | exact ksub rfl (by first | omega | (simp; done) | (simp; omega))), rfl, rfl, rfl, rfl, (by first | rfl | exact ksub rfl (by first | omega | (simp; done) | (simp; omega))), (by first | rfl | exact ksub rfl (by first | omega | (simp; done) | (simp; omega))), trivial⟩ (fun _ s => s.pick [2, 3, 4] (by decide) rfl)
          · refine wp_ex ?_
            refine qs_x ?_
            refine qs_x ?_
            refine qs_bx ?_
            refine qs_n ?_
            refine wp_sc ?_
            refine wp_sq ?_
            refine sq_v rfl (v_move rfl) rfl ?_
            refine sq_v rfl (v_assign rfl) rfl ?_
            refine sq_v rfl (v_assign rfl) rfl ?_
            refine sq_end ?_
            refine qs_n ?_
            refine wp_rt ?_
            exact qs_ret2 rfl rfl rfl (fin_t 0 (i := 2) rfl rfl rfl (ImpYes ⟨hord0, by omega⟩ (by rw [if_neg (by omega), show m.toNat = j by omega, hP]) q))
  · refine sq_v rfl (v_not rfl) rfl ?_
    refine sq_v rfl (v_move rfl) rfl ?_
    refine sq_s rfl rfl ?_
    refine sq_s rfl rfl ?_
    refine sq_v rfl (v_pickt rfl rfl) rfl ?_
    refine sq_v rfl (v_move rfl) rfl ?_
    refine sq_s rfl rfl ?_
    refine sq_s rfl rfl ?_
    refine sq_v rfl (v_pickt rfl rfl) rfl ?_
    refine sq_end ?_
    refine qs_n ?_
    refine wp_ct rfl ?_
    refine wp_sc ?_
    refine wp_sq ?_
    refine sq_v rfl (v_assign rfl) rfl ?_
    refine sq_v rfl (v_assign rfl) rfl ?_
    refine sq_end ?_
    refine qs_n ?_
    refine wp_rt ?_
    refine qs_r ?_
    exact qs_ret2 rfl rfl rfl (fin_e (i := 1) rfl (ImpNo (fun h => by first | exact orderB_false.1 c20 h.1 | (have := h.2; omega))))
end Go.Proofs.Ytikeobneipjfnaa
namespace Go.Proofs.Ytikeobneipjfnaa
set_option maxRecDepth 100000
open Go.ChangeShapes Go.WideShapes Go.ChangeAt Go.RowKit
theorem ct_L_sImproveOrder (k p n x0 m : Int) (ts : List Ten) (op : List Int) (ss : List Stp) (vt vo v : Value) (w : World) (r : TensR ts vt (hp w)) (r' : IntsR op vo (hp w)) (rv : StepsR ss v (hp w)) (hop : op.length ≤ 1048576) (hss : ss.length ≤ 1048576) :
    Calls Try.prog 55 [netV k p n vt vo, v, num x0, num m].toArray w (Ret w emp (StepsB (impR k p n ts op ss x0 m) (impB k p n ts op ss m))) := ct_s_ImproveOrder k p n x0 m ts op ss vt vo v w r r' rv hop hss
theorem ct_L_iImproveOrder (k p n x0 m : Int) (ts : List Ten) (op : List Int) (ss : List Stp) (vt vo v : Value) (w : World) (r : TensR ts vt (hp w)) (r' : IntsR op vo (hp w)) (rv : StepsR ss v (hp w)) (hop : op.length ≤ 1048576) :
    Calls Try.prog 56 [netV k p n vt vo, v, num x0, num m].toArray w (Ret w emp (StepsB (impR k p n ts op ss x0 m) (impB k p n ts op ss m))) := ct_i_ImproveOrder k p n x0 m ts op ss vt vo v w r r' rv hop
theorem imp_len (k p n x0 m : Int) (ts : List Ten) (op : List Int) (ss : List Stp) : (impR k p n ts op ss x0 m).length ≤ ss.length := by
  unfold impR
  split
  · rename_i h
    split
    · exact Nat.le_refl _
    · rename_i h0
      have key : ∀ j, orderL k p n ts op (impIt ts op ss x0 j).1 := fun j => by
        induction j with
        | zero => exact h.1
        | succ j ih =>
          rw [impIt, imp1]
          dsimp only
          split
          · exact nxt_ok ih (by have := ih.2.1; have := h.1.2.1; omega) _
          · exact ih
      have := (key m.toNat).2.1
      have := h.1.2.1
      omega
  · simp
set_option maxHeartbeats 4000000 in
theorem ct_l_FnExactImproveOrder (k p n x0 m : Int) (ts : List Ten) (op : List Int) (ss : List Stp) (vt vo v : Value) (w : World) (r : TensR ts vt (hp w)) (r' : IntsR op vo (hp w)) (rv : StepsR ss v (hp w)) :
    Calls Try.prog 11 [netV k p n vt vo, v, num x0, num m].toArray w (RetV w (.bool true)) := by
  have hnn := tensSize_nn ts
  have hcl := imp_len k p n x0 m ts op ss
  refine calls_in Try.func11 rfl Try.ntmps11 rfl (Sat.start w) ?_
  have hle0 := r.le
  obtain ⟨cs_r, rr_r, hc_r⟩ := r.at
  have hle1 := r'.le
  have hle2 := rv.le
  obtain ⟨cs_rv, rr_rv, hc_rv⟩ := rv.at
  refine wp_sc ?_
  refine wp_sq ?_
  refine sq_x rfl (x_box rfl rfl) rfl ?_; rintro _ _ ⟨b4, rfl, rfl⟩
  refine sq_v rfl (v_assign rfl) rfl ?_
  refine sq_end ?_
  refine qs_n ?_
  refine wp_sc ?_
  refine wp_sq ?_
  refine sq_v rfl (v_assign rfl) rfl ?_
  refine sq_end ?_
  refine qs_n ?_
  refine wp_sc ?_
  refine wp_sq ?_
  refine sq_v rfl (v_loadNB 0 ty_41 rfl rfl rfl rfl) rfl ?_
  refine sq_v rfl (v_move rfl) rfl ?_
  refine sq_u rfl (x_callv rfl en_26 (fun w s => ct_l_szNetwork _ _ _ _ _ _ _ _ w (r.mono (s.get 1 rfl)) (r'.mono (s.get 1 rfl)) (by first | assumption | exact iota_held _ _ | omega | rfl))) rfl ?_
  refine sq_v rfl (v_assign rfl) rfl ?_
  refine sq_end ?_
  refine qs_n ?_
  refine wp_sc ?_
  refine wp_sc ?_
  refine wp_sq ?_
  refine sq_v rfl (v_move rfl) rfl ?_
  refine sq_v rfl (v_lss rfl rfl) rfl ?_
  refine sq_end ?_
  refine qs_n ?_
  refine wp_cd rfl (fun c25 => ?_) (fun c25 => ?_)
  · refine wp_sc ?_
    refine wp_sq ?_
    refine sq_v rfl (v_assign rfl) rfl ?_
    refine sq_end ?_
    refine qs_n ?_
    refine wp_rt ?_
    refine qs_r ?_
    exact qs_ret1 rfl rfl (fin_v (i := 1) rfl)
  · have hz25 := szV_ge c25
    refine wp_sk ?_
    refine qs_n ?_
    refine wp_sc ?_
    refine wp_sq ?_
    refine sq_v rfl (v_move rfl) rfl ?_
    refine sq_v rfl (v_move rfl) rfl ?_
    refine sq_u rfl (x_callv rfl en_44 (fun w s => ct_l_szStepS _ _ _ w (rv.mono (s.get 1 rfl)) (by first | assumption | exact iota_held _ _ | omega | rfl))) rfl ?_
    refine sq_v rfl (v_assign rfl) rfl ?_
    refine sq_end ?_
    refine qs_n ?_
    refine wp_sc ?_
    refine wp_sc ?_
    refine wp_sq ?_
    refine sq_v rfl (v_move rfl) rfl ?_
    refine sq_v rfl (v_lss rfl rfl) rfl ?_
    refine sq_end ?_
    refine qs_n ?_
    refine wp_cd rfl (fun c30 => ?_) (fun c30 => ?_)
    · refine wp_sc ?_
      refine wp_sq ?_
      refine sq_v rfl (v_assign rfl) rfl ?_
      refine sq_end ?_
      refine qs_n ?_
      refine wp_rt ?_
      refine qs_r ?_
      exact qs_ret1 rfl rfl (fin_v (i := 1) rfl)
    · have hz30 := szV_ge c30
      refine wp_sk ?_
      refine qs_n ?_
      refine wp_sc ?_
      refine wp_sq ?_
      refine sq_v rfl (v_loadNB 0 ty_41 rfl rfl rfl rfl) rfl ?_
      refine sq_x rfl (x_call rfl en_28 (fun w s => ct_L_toNetwork _ _ _ _ _ _ _ w (r.mono (s.get 1 rfl)) (r'.mono (s.get 1 rfl)) (by first | assumption | exact iota_held _ _ | omega | rfl))) rfl ?_; rintro _ h33 ⟨vt33, vo33, rfl, o33⟩
      obtain ⟨cs_T_33, rr_T_33, hc_T_33⟩ := o33.toR.1.at
      refine sq_v rfl (v_move rfl) rfl ?_
      refine sq_x rfl (x_call rfl en_46 (fun w s => ct_l_toStepS _ _ w (rv.mono (s.get 2 rfl)) (by first | assumption | exact iota_held _ _ | omega | rfl))) rfl ?_; rintro v35 h35 r35
      obtain ⟨cs_S_35, rr_S_35, hc_S_35⟩ := r35.toR.at
      refine sq_v rfl (v_move rfl) rfl ?_
      refine sq_v rfl (v_move rfl) rfl ?_
      refine sq_x rfl (x_call rfl en_55 (fun w s => ct_L_sImproveOrder _ _ _ _ _ _ _ _ _ _ _ w (o33.toR.1.mono (s.get 1 rfl)) (o33.toR.2.mono (s.get 1 rfl)) (r35.toR.mono (s.get 0 rfl)) (by first | assumption | exact iota_held _ _ | omega | rfl) (by first | assumption | exact iota_held _ _ | omega | rfl))) rfl ?_; rintro _ h38 ⟨v38, rfl, r38⟩
      obtain ⟨cs_S_38, rr_S_38, hc_S_38⟩ := r38.toR.at
      refine sq_v rfl (v_move rfl) rfl ?_
      refine sq_v rfl (v_extract rfl rfl) rfl ?_
      refine sq_v rfl (v_extract rfl rfl) rfl ?_
      refine sq_v rfl (v_assign rfl) rfl ?_
      refine sq_v rfl (v_assign rfl) rfl ?_
      refine sq_end ?_
      refine qs_n ?_
      refine wp_sc ?_
      refine wp_sq ?_
      refine sq_v rfl (v_loadNB 3 ty_41 rfl rfl rfl rfl) rfl ?_
      refine sq_x rfl (x_call rfl en_28 (fun w s => ct_L_toNetwork _ _ _ _ _ _ _ w (r.mono (s.get 4 rfl)) (r'.mono (s.get 4 rfl)) (by first | assumption | exact iota_held _ _ | omega | rfl))) rfl ?_; rintro _ h42 ⟨vt42, vo42, rfl, o42⟩
      obtain ⟨cs_T_42, rr_T_42, hc_T_42⟩ := o42.toR.1.at
      refine sq_x rfl (x_alloc ty_48 rfl) rfl ?_; rintro _ _ ⟨b12, rfl, rfl⟩
      refine sq_m 0 rfl rfl (m_store 0 ty_48 rfl rfl rfl rfl (by simp [one_int, o42.toR.1.sl.one, o42.toR.2.sl.one]) rfl (Nat.le_of_ble_eq_true rfl)) rfl ?_; rintro _ _ ⟨rfl, rfl⟩
      refine sq_end ?_
      refine qs_n ?_
      refine wp_sc ?_
      refine wp_sq ?_
      refine sq_v rfl (v_move rfl) rfl ?_
      refine sq_x rfl (x_call rfl en_46 (fun w s => ct_l_toStepS _ _ w (rv.mono (s.get 6 rfl)) (by first | assumption | exact iota_held _ _ | omega | rfl))) rfl ?_; rintro v44 h44 r44
      obtain ⟨cs_S_44, rr_S_44, hc_S_44⟩ := r44.toR.at
      refine sq_v rfl (v_assign rfl) rfl ?_
      refine sq_end ?_
      refine qs_n ?_
      refine wp_sc ?_
      refine wp_sq ?_
      refine sq_v rfl (v_loadNB 1 ty_48 rfl rfl rfl rfl) rfl ?_
      refine sq_v rfl (v_move rfl) rfl ?_
      refine sq_v rfl (v_move rfl) rfl ?_
      refine sq_v rfl (v_move rfl) rfl ?_
      refine sq_x rfl (x_call rfl en_56 (fun w s => ct_L_iImproveOrder _ _ _ _ _ _ _ _ _ _ _ w (o42.toR.1.mono (s.get 2 rfl)) (o42.toR.2.mono (s.get 2 rfl)) (r44.toR.mono (s.get 0 rfl)) (by first | assumption | exact iota_held _ _ | omega | rfl))) rfl ?_; rintro _ h50 ⟨v50, rfl, r50⟩
      obtain ⟨cs_S_50, rr_S_50, hc_S_50⟩ := r50.toR.at
      refine sq_v rfl (v_move rfl) rfl ?_
      refine sq_v rfl (v_extract rfl rfl) rfl ?_
      refine sq_v rfl (v_extract rfl rfl) rfl ?_
      refine sq_v rfl (v_assign rfl) rfl ?_
      refine sq_v rfl (v_assign rfl) rfl ?_
      refine sq_end ?_
      refine qs_n ?_
      refine wp_sc ?_
      refine wp_sc ?_
      refine wp_sq ?_
      refine sq_v rfl (v_move rfl) rfl ?_
      refine sq_v rfl (v_move rfl) rfl ?_
      refine sq_u rfl (x_callv rfl en_30 (fun w s => ct_l_eqStepS _ _ _ w (r50.toR.mono (s.get 0 rfl)) (r38.toR.mono (s.get 4 rfl)))) rfl ?_
      refine sq_v rfl (v_not rfl) rfl ?_
      refine sq_v rfl (v_move rfl) rfl ?_
      refine sq_v rfl (v_move rfl) rfl ?_
      refine sq_v rfl (v_move rfl) rfl ?_
      refine sq_v rfl (v_neqsb Try.underlying4 rfl rfl) rfl ?_
      refine sq_v rfl (v_pickf rfl rfl) rfl ?_
      refine sq_end ?_
      refine qs_n ?_
      refine wp_cf rfl ?_
      refine wp_sk ?_
      refine qs_n ?_
      refine wp_sc ?_
      refine wp_sc ?_
      refine wp_rj 5 [(0, true), (1, true), (2, false), (3, false), (4, true)] mixed_ok (by kernel_rfl) ?_
      refine rj_v rfl rfl (v_loadNB 2 ty_48 rfl rfl rfl rfl) rfl ?_
      refine rj_v rfl rfl (v_loadNB 7 ty_41 rfl rfl rfl rfl) rfl ?_
      refine rj_x rfl rfl (x_call rfl en_28 (fun w s => ct_L_toNetwork _ _ _ _ _ _ _ w (r.mono (s.get 8 rfl)) (r'.mono (s.get 8 rfl)) (by first | assumption | exact iota_held _ _ | omega | rfl))) rfl ?_; rintro _ h64 ⟨vt64, vo64, rfl, o64⟩
      obtain ⟨cs_T_64, rr_T_64, hc_T_64⟩ := o64.toR.1.at
      refine rj_u rfl rfl (x_callv rfl en_31 (fun w s => ct_l_eqNetwork _ _ _ _ _ _ _ _ _ w (o42.toR.1.mono (s.get 4 rfl)) (o42.toR.2.mono (s.get 4 rfl)) (o64.toR.1.mono (s.get 0 rfl)) (o64.toR.2.mono (s.get 0 rfl)))) rfl ?_
      refine rj_v rfl rfl (v_not rfl) rfl ?_
      refine rj_end ?_
      refine qs_n ?_
      refine wp_cf rfl ?_
      refine wp_sk ?_
      refine qs_n ?_
      refine wp_sc ?_
      refine wp_sc ?_
      refine wp_sq ?_
      refine sq_v rfl (v_move rfl) rfl ?_
      refine sq_v rfl (v_move rfl) rfl ?_
      refine sq_x rfl (x_call rfl en_46 (fun w s => ct_l_toStepS _ _ w (rv.mono (s.get 9 rfl)) (by first | assumption | exact iota_held _ _ | omega | rfl))) rfl ?_; rintro v69 h69 r69
      obtain ⟨cs_S_69, rr_S_69, hc_S_69⟩ := r69.toR.at
      refine sq_u rfl (x_callv rfl en_30 (fun w s => ct_l_eqStepS _ _ _ w (r44.toR.mono (s.get 3 rfl)) (r69.toR.mono (s.get 0 rfl)))) rfl ?_
      refine sq_v rfl (v_not rfl) rfl ?_
      refine sq_end ?_
      refine qs_n ?_
      refine wp_cf rfl ?_
      refine wp_sk ?_
      refine qs_n ?_
      refine wp_sc ?_
      refine wp_sq ?_
      refine sq_v rfl (v_assign rfl) rfl ?_
      refine sq_end ?_
      refine qs_n ?_
      refine wp_sc ?_
      refine wp_sq ?_
      refine sq_v rfl (v_loadNB 4 ty_48 rfl rfl rfl rfl) rfl ?_
      refine sq_v rfl (v_move rfl) rfl ?_
      refine sq_m 5 rfl rfl (x_call rfl en_32 (fun w s => ct_L_markNetwork _ _ _ _ _ _ _ _ w _ (s.get 5 rfl) o42 (by first | assumption | exact iota_held _ _ | omega | rfl))) rfl ?_; rintro _ h74 ⟨rfl, ts74, op74, om74, hl74⟩
      obtain ⟨cs_T_74, rr_T_74, hc_T_74⟩ := om74.toR.1.at
      refine sq_v rfl (v_assign rfl) rfl ?_
      refine sq_end ?_
      refine qs_n ?_
      refine wp_sc ?_
      refine wp_sq ?_
      refine sq_v rfl (v_move rfl) rfl ?_
      refine sq_v rfl (v_move rfl) rfl ?_
      refine sq_m 3 rfl rfl (x_call rfl en_33 (fun w s => ct_l_markStepS _ _ _ w _ (s.get 3 rfl) r44 (by first | assumption | exact iota_held _ _ | omega | rfl))) rfl ?_; rintro _ h77 ⟨rfl, r77⟩
      obtain ⟨cs_S_77, rr_S_77, hc_S_77⟩ := r77.toR.at
      refine sq_v rfl (v_assign rfl) rfl ?_
      refine sq_end ?_
      refine qs_n ?_
      refine wp_sc ?_
      refine wp_sc ?_
      refine wp_sq ?_
      refine sq_v rfl (v_move rfl) rfl ?_
      refine sq_v rfl (v_lss rfl rfl) rfl ?_
      refine sq_bd 79 rfl (fun c79 => ?_) (fun c79 => ?_)
      · refine sq_v rfl (v_move rfl) rfl ?_
        refine sq_s rfl rfl ?_
        refine sq_s rfl rfl ?_
        refine sq_s rfl rfl ?_
        refine sq_s rfl rfl ?_
        refine sq_v rfl (v_pickt rfl rfl) rfl ?_
        refine sq_v rfl (v_move rfl) rfl ?_
        refine sq_s rfl rfl ?_
        refine sq_s rfl rfl ?_
        refine sq_s rfl rfl ?_
        refine sq_v rfl (v_pickt rfl rfl) rfl ?_
        refine sq_end ?_
        refine qs_n ?_
        refine wp_ct rfl ?_
        refine wp_sc ?_
        refine wp_sq ?_
        refine sq_v rfl (v_assign rfl) rfl ?_
        refine sq_end ?_
        refine qs_n ?_
        refine wp_rt ?_
        refine qs_r ?_
        exfalso; first | omega | contradiction
      · refine sq_v rfl (v_move rfl) rfl ?_
        refine sq_v rfl (v_move rfl) rfl ?_
        refine sq_v rfl (v_move rfl) rfl ?_
        refine sq_u rfl (x_callv rfl en_30 (fun w s => ct_l_eqStepS _ _ _ w (r50.toR.mono (s.get 2 rfl)) (r38.toR.mono (s.get 6 rfl)))) rfl ?_
        refine sq_v rfl (v_not rfl) rfl ?_
        refine sq_v rfl (v_pickf rfl rfl) rfl ?_
        refine sq_v rfl (v_move rfl) rfl ?_
        refine sq_v rfl (v_move rfl) rfl ?_
        refine sq_v rfl (v_move rfl) rfl ?_
        refine sq_v rfl (v_neqsb Try.underlying4 rfl rfl) rfl ?_
        refine sq_v rfl (v_pickf rfl rfl) rfl ?_
        refine sq_end ?_
        refine qs_n ?_
        refine wp_cf rfl ?_
        refine wp_sk ?_
        refine qs_n ?_
        refine wp_sc ?_
        refine wp_sq ?_
        refine sq_v rfl (v_assign rfl) rfl ?_
        refine sq_end ?_
        refine qs_n ?_
        refine wp_sc ?_
        refine wp_sq ?_
        refine sq_v rfl (v_move rfl) rfl ?_
        refine sq_v rfl (v_move rfl) rfl ?_
        refine sq_m 2 rfl rfl (x_call rfl en_33 (fun w s => ct_l_markStepS _ _ _ w _ (s.get 2 rfl) r50 (by first | assumption | exact iota_held _ _ | omega | rfl))) rfl ?_; rintro _ h93 ⟨rfl, r93⟩
        obtain ⟨cs_S_93, rr_S_93, hc_S_93⟩ := r93.toR.at
        refine sq_v rfl (v_assign rfl) rfl ?_
        refine sq_end ?_
        refine qs_n ?_
        refine wp_sc ?_
        refine wp_sq ?_
        refine sq_v rfl (v_assign rfl) rfl ?_
        refine sq_end ?_
        refine qs_n ?_
        refine wp_sc ?_
        refine wp_sq ?_
        refine sq_v rfl (v_move rfl) rfl ?_
        refine sq_v rfl (v_move rfl) rfl ?_
        refine sq_u rfl (x_callv rfl en_34 (fun w s => ct_l_heldStepS _ _ _ w (r93.toR.mono (s.get 2 rfl)) (by first | assumption | exact iota_held _ _ | omega | rfl))) rfl ?_
        refine sq_v rfl (v_assign rfl) rfl ?_
        refine sq_end ?_
        refine qs_n ?_
        refine wp_sc ?_
        refine wp_sc ?_
        refine wp_sq ?_
        refine sq_v rfl (v_move rfl) rfl ?_
        refine sq_v rfl (v_lss rfl rfl) rfl ?_
        refine sq_end ?_
        refine qs_n ?_
        refine wp_cd rfl (fun c98 => ?_) (fun c98 => ?_)
        · refine wp_sc ?_
          refine wp_sq ?_
          refine sq_v rfl (v_assign rfl) rfl ?_
          refine sq_end ?_
          refine qs_n ?_
          refine wp_rt ?_
          refine qs_r ?_
          exfalso; first | omega | contradiction
        · refine wp_sk ?_
          refine qs_n ?_
          refine wp_sc ?_
          refine wp_sc ?_
          refine wp_sq ?_
          refine sq_v rfl (v_move rfl) rfl ?_
          refine sq_v rfl (v_move rfl) rfl ?_
          refine sq_v rfl (v_neq rfl rfl) rfl ?_
          refine sq_end ?_
          refine qs_n ?_
          refine wp_cd rfl (fun c101 => ?_) (fun c101 => ?_)
          · refine wp_sc ?_
            refine wp_sq ?_
            refine sq_v rfl (v_assign rfl) rfl ?_
            refine sq_end ?_
            refine qs_n ?_
            refine wp_rt ?_
            refine qs_r ?_
            exfalso; first | omega | contradiction
          · refine wp_sk ?_
            refine qs_n ?_
            refine wp_sc ?_
            refine wp_sq ?_
            refine sq_v rfl (v_loadNB 9 ty_41 rfl rfl rfl rfl) rfl ?_
            refine sq_x rfl (x_call rfl en_28 (fun w s => ct_L_toNetwork _ _ _ _ _ _ _ w (r.mono (s.get 10 rfl)) (r'.mono (s.get 10 rfl)) (by first | assumption | exact iota_held _ _ | omega | rfl))) rfl ?_; rintro _ h104 ⟨vt104, vo104, rfl, o104⟩
            obtain ⟨cs_T_104, rr_T_104, hc_T_104⟩ := o104.toR.1.at
            refine sq_v rfl (v_move rfl) rfl ?_
            refine sq_x rfl (x_call rfl en_46 (fun w s => ct_l_toStepS _ _ w (rv.mono (s.get 11 rfl)) (by first | assumption | exact iota_held _ _ | omega | rfl))) rfl ?_; rintro v106 h106 r106
            obtain ⟨cs_S_106, rr_S_106, hc_S_106⟩ := r106.toR.at
            refine sq_v rfl (v_move rfl) rfl ?_
            refine sq_v rfl (v_move rfl) rfl ?_
            refine sq_x rfl (x_call rfl en_56 (fun w s => ct_L_iImproveOrder _ _ _ _ _ _ _ _ _ _ _ w (o104.toR.1.mono (s.get 1 rfl)) (o104.toR.2.mono (s.get 1 rfl)) (r106.toR.mono (s.get 0 rfl)) (by first | assumption | exact iota_held _ _ | omega | rfl))) rfl ?_; rintro _ h109 ⟨v109, rfl, r109⟩
            obtain ⟨cs_S_109, rr_S_109, hc_S_109⟩ := r109.toR.at
            refine sq_v rfl (v_move rfl) rfl ?_
            refine sq_v rfl (v_extract rfl rfl) rfl ?_
            refine sq_v rfl (v_extract rfl rfl) rfl ?_
            refine sq_v rfl (v_assign rfl) rfl ?_
            refine sq_v rfl (v_assign rfl) rfl ?_
            refine sq_end ?_
            refine qs_n ?_
            refine wp_sc ?_
            refine wp_sc ?_
            refine wp_sq ?_
            refine sq_v rfl (v_move rfl) rfl ?_
            refine sq_v rfl (v_move rfl) rfl ?_
            refine sq_u rfl (x_callv rfl en_30 (fun w s => ct_l_eqStepS _ _ _ w (r109.toR.mono (s.get 0 rfl)) (r38.toR.mono (s.get 9 rfl)))) rfl ?_
            refine sq_v rfl (v_not rfl) rfl ?_
            refine sq_v rfl (v_move rfl) rfl ?_
            refine sq_v rfl (v_move rfl) rfl ?_
            refine sq_v rfl (v_move rfl) rfl ?_
            refine sq_v rfl (v_neqsb Try.underlying4 rfl rfl) rfl ?_
            refine sq_v rfl (v_pickf rfl rfl) rfl ?_
            refine sq_end ?_
            refine qs_n ?_
            refine wp_cf rfl ?_
            refine wp_sk ?_
            refine qs_n ?_
            refine wp_sc ?_
            refine wp_sq ?_
            refine sq_v rfl (v_assign rfl) rfl ?_
            refine sq_end ?_
            refine qs_n ?_
            refine wp_sc ?_
            refine wp_sq ?_
            refine sq_v rfl (v_move rfl) rfl ?_
            refine sq_v rfl (v_move rfl) rfl ?_
            refine sq_u rfl (x_callv rfl en_34 (fun w s => ct_l_heldStepS _ _ _ w (r93.toR.mono (s.get 5 rfl)) (by first | assumption | exact iota_held _ _ | omega | rfl))) rfl ?_
            refine sq_v rfl (v_assign rfl) rfl ?_
            refine sq_end ?_
            refine qs_n ?_
            refine wp_sc ?_
            refine wp_sc ?_
            refine wp_sq ?_
            refine sq_v rfl (v_move rfl) rfl ?_
            refine sq_v rfl (v_lss rfl rfl) rfl ?_
            refine sq_end ?_
            refine qs_n ?_
            refine wp_cd rfl (fun c125 => ?_) (fun c125 => ?_)
            · refine wp_sc ?_
              refine wp_sq ?_
              refine sq_v rfl (v_assign rfl) rfl ?_
              refine sq_end ?_
              refine qs_n ?_
              refine wp_rt ?_
              refine qs_r ?_
              exfalso; first | omega | contradiction
            · refine wp_sk ?_
              refine qs_n ?_
              refine wp_sc ?_
              refine wp_sc ?_
              refine wp_sq ?_
              refine sq_v rfl (v_move rfl) rfl ?_
              refine sq_v rfl (v_move rfl) rfl ?_
              refine sq_v rfl (v_neq rfl rfl) rfl ?_
              refine sq_end ?_
              refine qs_n ?_
              refine wp_cd rfl (fun c128 => ?_) (fun c128 => ?_)
              · refine wp_sc ?_
                refine wp_sq ?_
                refine sq_v rfl (v_assign rfl) rfl ?_
                refine sq_end ?_
                refine qs_n ?_
                refine wp_rt ?_
                refine qs_r ?_
                exfalso; first | omega | contradiction
              · refine wp_sk ?_
                refine qs_n ?_
                refine wp_sc ?_
                refine wp_sq ?_
                refine sq_v rfl (v_assign rfl) rfl ?_
                refine sq_end ?_
                refine qs_n ?_
                refine wp_rt ?_
                exact qs_ret1 rfl rfl (fin_v (i := 13) rfl)
set_option maxRecDepth 100000 in
theorem lifted_fnExactImproveOrder (os : Os) (started : os.Started) (H : Type) (enc : TypeId × Value → H) :
    ReturnsInHanded {} Try.checked os 11 .any (Rows.fnExactImproveOrderSpec.pre6 enc Try.prog Try.f11 Rows.fnExactImproveOrderRow.domain false) (Rows.fnExactImproveOrderSpec.post enc Try.prog Try.f11 false true false false) := by
  refine returnsInHanded_of_change (C := Try.checked) lift_own started (by kernel_rfl) Try.func11
    (ChangeSpec.witness6 (enc := enc) (C := Try.checked) false ⟨#[], #[.agg #[.int .i64 0, .int .i64 0, .int .i64 0, .slice none 0 0, .slice none 0 0], .slice none 0 0, .int .i64 0, .int .i64 0], []⟩ 8 (by kernel_rfl) (by kernel_rfl) (by kernel_rfl) (by kernel_rfl)) ?_
  intro W base args ds gs before hval0 hW hcnd _
  have hval : ∀ (j : Nat) t v, Try.f11.params[j]? = some t → args[j]? = some v → Value.okWide Try.prog W .any base t v := hval0
  have hW' := hW
  obtain ⟨p, q, hA0, hV, rfl, hfz, hnd⟩ := hW
  have hlt : ∀ x ∈ p, x.block < W.heap.size := fun x hx => by simpa using hW'.lt x (by simp [hx])
  have hA : DataW.TrodAll enc Try.prog W 0 (fun _ => true) true Try.f11.params.toList args.toList ds p := hA0
  have hA1 := hA
  rw [Try.params11] at hA1 hval
  obtain ⟨v0, vs0, d0, ds0, p0, q0, hargs, rfl, rfl, h0, r0⟩ := trodAll_cons hA1
  obtain ⟨v1, vs1, d1, ds1, p1, q1, rfl, rfl, rfl, h1, r1⟩ := trodAll_cons r0
  obtain ⟨v2, vs2, d2, ds2, p2, q2, rfl, rfl, rfl, h2, r2⟩ := trodAll_cons r1
  obtain ⟨v3, vs3, d3, ds3, p3, q3, rfl, rfl, rfl, h3, r3⟩ := trodAll_cons r2
  obtain ⟨rfl, rfl, rfl⟩ := trodAll_nil r3
  obtain rfl : args = #[v0, v1, v2, v3] := by cases args; simp_all
  obtain ⟨rfl, rfl⟩ := trodVars_none hV
  have k0 := hval 0 41 v0 rfl rfl
  have k1 := hval 1 73 v1 rfl rfl
  have k2 := hval 2 3 v2 rfl rfl
  have k3 := hval 3 3 v3 rfl rfl
  obtain ⟨x0, x1, x2, ts, op, vt, vo, rfl, rt, ro⟩ := arg_network k0 h0
  obtain ⟨ss, rv⟩ := arg_steps k1 h1
  obtain ⟨sd, rfl, _⟩ := arg_int k2 h2
  obtain ⟨rd, rfl, _⟩ := arg_int k3 h3
  refine (show Calls Try.prog 11 _ W (RetV W (.bool true)) from ct_l_FnExactImproveOrder x0 x1 x2 sd rd ts op ss vt vo v1 W rt ro rv).mono fun e W' ⟨he, hu⟩ => ?_
  subst he
  refine ⟨_, rfl, _, _, _, [], _, [], hW', trodAll_mk1 (shut_bool Try.underlying4 true), trodAll_below lift_laid hu.below (by kernel_rfl) hA hlt, rfl, hu.below.frame _, fun h => by cases h⟩
set_option maxHeartbeats 4000000 in
theorem joined_fnExactImproveOrder : joinedFacts Try.pinned.checked.prog 11 Try.f11 Rows.fnExactImproveOrderSpec Rows.fnExactImproveOrderRow = true := by
  unfold joinedFacts
  repeat' (with_reducible refine cd_and ?_ ?_)
  all_goals first | with_reducible exact cd_enter | (with_reducible refine cd_lifts' ?_; rfl) | (with_reducible refine cd_make' ?_; rfl) | (as_aux_lemma => kernel_rfl)
theorem named_fnExactImproveOrder : Try.pinned.checked.prog.funcNamed Rows.fnExactImproveOrderRow.func = some 11 := by kernel_rfl
theorem over_fnExactImproveOrder : Rows.fnExactImproveOrderRow.holds Try.pinned (OpenSpec.ofChange Rows.fnExactImproveOrderSpec) :=
  OpenClaim.holds_of_wide 11 Try.f11 rfl rfl rfl rfl rfl rfl rfl ⟨rfl, rfl, rfl, rfl, rfl⟩ rfl rfl rfl rfl rfl named_fnExactImproveOrder Try.func11 joined_fnExactImproveOrder
    (of_decide_eq_true (by kernel_rfl)) (by unfold Func.isWrapper; first | (rw [if_pos (by decide +kernel)]; kernel_rfl) | (rw [if_neg (by decide +kernel)]; exact ⟨rfl, rfl⟩))
    (fun os started H enc _ => lifted_fnExactImproveOrder os started H enc)
/-- The law FnExactImproveOrder holds at every input. -/
theorem proved_fnExactImproveOrder : Rows.FnExactImproveOrderSaid :=
  over_fnExactImproveOrder
#print axioms proved_fnExactImproveOrder
end Go.Proofs.Ytikeobneipjfnaa
