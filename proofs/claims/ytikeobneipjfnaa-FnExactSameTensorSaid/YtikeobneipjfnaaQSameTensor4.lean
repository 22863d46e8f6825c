/-
  At every ring and two tensors the program's SameTensor answers what the reference's answers.
  Conditions: none.
-/
import Derived.Test.YtikeobneipjfnaaQSameTensor3
namespace Go.Proofs.Ytikeobneipjfnaa
set_option maxRecDepth 100000
open Go.RowKit
section
variable {P : Program} {n : Nat} {w0 : World} {K : Env} {HS HK : List PH} {Q : Exit → Act → World → Prop} {ops : Array Oper} {m f : Nat} {listed : Array Bool}
theorem wp_rakB {id : Nat} {l : List Oper} (B : List Bool) (m : Nat) (hm : P.follows .mixedOrders = true)
    (hc : (Region.noSelect l.toArray && tailOK l.toArray m) = true)
    (h : RAK P n w0 l.toArray m Q l.length (Array.replicate l.length false) K HS (blankL B HS)) : WP P n w0 (.region id l.toArray true) Q K HS := fun a w e s => by
  have h2 := hc
  have hm' : m ≤ l.toArray.size := by
    simp only [Bool.and_eq_true, tailOK, Bool.or_eq_true, decide_eq_true_eq] at h2
    omega
  have inv0 : HeadInv .any l.toArray m (Array.replicate l.length false) :=
    ⟨by simp, fun j oj _ hl => (by rw [getD_replicate_false] at hl; cases hl), fun t _ ht => getD_in (by simpa using ht) (getD_replicate_false _ _)⟩
  have H := h (WkL.blank B HS) inv0 hc a { w with drawn := w.drawn + 1 } e ⟨s.os, s.tape, s.output, s.size, s.sep, s.le⟩
  exact Code.wp_mono OnlyN.imp (wp_region_any hm (rany_any _ _ _ _ H))
theorem rok_fv {i : Nat} {oi : Oper} {v : Value} (hi : ops[i]? = some oi) (hw : wantK ops K oi.guard = some true) (hv : StepV P n w0 K HS oi v) (hf : fitsK n oi.dst = true)
    (k : RAK P n w0 ops m Q f (listed.setIfInBounds i true) (putK oi.dst v K) HS HK) : ROK P n w0 ops m Q f i listed K HS HK := fun hwk inv ht a w e s => by
  have hy : YieldsIf P ops (Sat w0 HS) oi v a := .inl ⟨e.wanted hw, fun w s => hv a w e s⟩
  exact hy.wpOp hi s ⟨fun _ => hwk.sat s, k hwk inv ht _ _ (e.put v hf) s⟩
end
section
variable {P : Program} {n : Nat} {w0 : World} {K : Env} {HS : List PH} {d : Option Tmp} {ty : TypeId} {ps : String} {af : Array Edge} {g : Option (Nat × Bool)}
theorem v_convI {src dst : TypeId} {x : Operand} {q k : IntKind} {a b : Int} (hs : (P.underlying src).isSome = true) (hd : P.underlying dst = some (.int k)) (hx : ev K x = some (.int q a)) (hw : k.wrap a = b) : StepV P n w0 K HS ⟨d, .convert src dst x, ty, ps, af, g⟩ (.int k b) := fun ac w e _ => by
  obtain ⟨u, hu⟩ := Option.isSome_iff_exists.mp hs
  simp [execOp, e.ev hx, convert, run_underlying hu, run_underlying hd, Conv.intToInt, hw]
theorem v_indexS {t : TypeId} {x ix : Operand} {s : ByteArray} {k : IntKind} {i v : Int} (ht : P.underlying t = some .string) (hx : ev K x = some (.string s)) (hi : ev K ix = some (.int k i)) (h0 : 0 ≤ i) (hb : (s[i.toNat]?).map (fun b : UInt8 => (b.toNat : Int)) = some v) : StepV P n w0 K HS ⟨d, .index t x ix, ty, ps, af, g⟩ (.int .u8 v) := fun ac w e _ => by
  obtain ⟨b, hb1, hb2⟩ := Option.map_eq_some_iff.1 hb
  subst hb2
  simp [execOp, e.ev hx, e.ev hi, Instr.index, asIntOf, run_underlying ht, h0, hb1]
end
theorem en_242 : EnterOK Try.prog 242 := ⟨_, Try.func242, by kernel_rfl, rfl⟩
theorem en_232 : EnterOK Try.prog 232 := ⟨_, Try.func232, by kernel_rfl, rfl⟩
theorem en_226 : EnterOK Try.prog 226 := ⟨_, Try.func226, by kernel_rfl, rfl⟩
theorem en_223 : EnterOK Try.prog 223 := ⟨_, Try.func223, by kernel_rfl, rfl⟩
theorem en_224 : EnterOK Try.prog 224 := ⟨_, Try.func224, by kernel_rfl, rfl⟩
theorem en_236 : EnterOK Try.prog 236 := ⟨_, Try.func236, by kernel_rfl, rfl⟩
theorem en_205 : EnterOK Try.prog 205 := ⟨_, Try.func205, by kernel_rfl, rfl⟩
def swapAt (xs : List Int) (k : Nat) : List Int := (xs.set (k + 1) (xs.getD k 0)).set k (xs.getD (k + 1) 0)
def sink : List Int → Nat → List Int
  | xs, 0 => xs
  | xs, k + 1 => if xs.getD (k + 1) 0 < xs.getD k 0 then sink (swapAt xs k) k else xs
def isort (xs : List Int) : Nat → List Int
  | 0 => xs
  | m + 1 => sink (isort xs m) m
theorem swapAt_len (xs : List Int) (k : Nat) : (swapAt xs k).length = xs.length := by simp [swapAt]
theorem sink_len : ∀ (k : Nat) (xs : List Int), (sink xs k).length = xs.length
  | 0, _ => rfl
  | k + 1, xs => by
    rw [sink]
    split
    · rw [sink_len k, swapAt_len]
    · rfl
theorem isort_len (xs : List Int) : ∀ m, (isort xs m).length = xs.length
  | 0 => rfl
  | m + 1 => by rw [isort, sink_len, isort_len xs m]
theorem swapAt_perm {xs : List Int} {k : Nat} (h : k + 1 < xs.length) : (swapAt xs k).Perm xs := by
  have e1 : xs = xs.take k ++ (xs.getD k 0 :: xs.getD (k + 1) 0 :: xs.drop (k + 2)) := by
    conv => lhs; rw [← List.take_append_drop k xs, drop_cons (show k < xs.length by omega), drop_cons h]
  have hl : (xs.take k).length = k := by simp; omega
  generalize xs.take k = A at e1 hl
  generalize xs.drop (k + 2) = B at e1
  have g1 : swapAt (A ++ (xs.getD k 0 :: xs.getD (k + 1) 0 :: B)) k = A ++ (xs.getD (k + 1) 0 :: xs.getD k 0 :: B) := by
    have q1 : (A ++ (xs.getD k 0 :: xs.getD (k + 1) 0 :: B)).getD k 0 = xs.getD k 0 := by rw [← e1]
    have q2 : (A ++ (xs.getD k 0 :: xs.getD (k + 1) 0 :: B)).getD (k + 1) 0 = xs.getD (k + 1) 0 := by rw [← e1]
    rw [swapAt, q1, q2, List.set_append_right _ _ (by omega), List.set_append_right _ _ (by omega), hl, Nat.sub_self, show k + 1 - k = 1 by omega]
    rfl
  conv => lhs; rw [e1]
  conv => rhs; rw [e1]
  rw [g1]
  exact List.Perm.append_left _ (List.Perm.swap _ _ _)
theorem sink_perm : ∀ (k : Nat) (xs : List Int), k < xs.length ∨ k = 0 → (sink xs k).Perm xs
  | 0, _, _ => List.Perm.refl _
  | k + 1, xs, h => by
    rw [sink]
    split
    · exact (sink_perm k _ (by rw [swapAt_len]; omega)).trans (swapAt_perm (by omega))
    · exact List.Perm.refl _
theorem isort_perm (xs : List Int) : ∀ m, m ≤ xs.length → (isort xs m).Perm xs
  | 0, _ => List.Perm.refl _
  | m + 1, h => (sink_perm m _ (by rw [isort_len]; omega)).trans (isort_perm xs m (by omega))
theorem sink_go {A T : List Int} {k : Nat} (h : sink A k = T) (hk : 0 < k) (hlt : A.getD k 0 < A.getD (k - 1) 0) : sink (swapAt A (k - 1)) (k - 1) = T := by
  obtain ⟨m, rfl⟩ : ∃ m, k = m + 1 := ⟨k - 1, by omega⟩
  rw [Nat.add_sub_cancel] at hlt ⊢
  rw [sink, if_pos hlt] at h
  exact h
theorem sink_stop {A T : List Int} {k : Nat} (h : sink A k = T) (hc : k = 0 ∨ ¬ A.getD k 0 < A.getD (k - 1) 0) : A = T := by
  rcases hc with rfl | hc
  · exact h
  · match k, h, hc with
    | 0, h, _ => exact h
    | m + 1, h, hc => rw [Nat.add_sub_cancel] at hc; rw [sink, if_neg hc] at h; exact h
theorem ct_s_l06Sort (ls : List Int) (v : Value) (w : World) (r : IntsR ls v (hp w)) (hl : ls.length ≤ 12) : Calls Try.prog 115 [v].toArray w (Ret w emp (IntsO (isort ls ls.length))) := by
  refine calls_in Try.func115 rfl Try.ntmps115 rfl (Sat.start w) ?_
  have hle0 := r.le
  refine wp_sc ?_
  refine wp_sq ?_
  refine sq_v rfl (v_assign rfl) rfl ?_
  refine sq_end ?_
  refine qs_n ?_
  refine wp_sc ?_
  refine wp_sq ?_
  refine sq_v rfl (v_move rfl) rfl ?_
  refine sq_x rfl (x_call rfl en_88 (fun w s => ct_s_l05Ints _ _ w (r.mono (s.get 0 rfl)) (by first | assumption | omega))) rfl ?_; rintro v8 h8 r8
  refine sq_v rfl (v_assign rfl) rfl ?_
  refine sq_end ?_
  refine qs_n ?_
  refine wp_sc ?_
  refine wp_sc ?_
  refine wp_sq ?_
  refine sq_v rfl (v_move rfl) rfl ?_
  refine sq_v rfl (v_len Try.underlying24 rfl r8.toR.sl) rfl ?_
  refine sq_v rfl (v_move rfl) rfl ?_
  refine sq_end ?_
  refine qs_n ?_
  refine wp_bl ?_
  refine wp_lp (σ := Nat × PH) (fun z_ => [(2, .slice none 0 0), (3, v8), (10, num ls.length), (11, num z_.1)]) (fun z_ => [z_.2, hp w]) (fun z_ => z_.1 ≤ ls.length ∧ IntsO (isort ls z_.1) v8 z_.2) (fun z_ => ls.length - z_.1) (0, h8) (⟨by (try dsimp only); omega, r8⟩) ⟨rfl, rfl, rfl, (by first | rfl | exact ksub rfl (by first | omega | (simp; done) | (simp; omega))), trivial⟩ (fun _ s => s) ?_
  rintro ⟨i, g⟩ ⟨hi, q⟩
  dsimp only at hi q ⊢
  have hle_q := q.toR.le
  have hil := isort_len ls i
  refine wp_sc ?_
  refine wp_sq ?_
  refine sq_v rfl (v_lss rfl rfl) rfl ?_
  refine sq_end ?_
  refine qs_n ?_
  refine wp_sc ?_
  refine wp_cd rfl (fun c12 => ?_) (fun c12 => ?_)
  · refine wp_sk ?_
    refine qs_n ?_
    refine wp_sc ?_
    refine wp_bl ?_
    refine wp_sc ?_
    refine wp_sq ?_
    refine sq_v rfl (v_move rfl) rfl ?_
    refine sq_v rfl (v_assign rfl) rfl ?_
    refine sq_end ?_
    refine qs_n ?_
    refine wp_sc ?_
    refine wp_sq ?_
    refine sq_v rfl (v_move rfl) rfl ?_
    refine sq_v rfl (v_assign rfl) rfl ?_
    refine sq_end ?_
    refine qs_n ?_
    refine wp_bl ?_
    refine wp_lp (σ := Nat × (List Int) × PH) (fun z_ => [(2, .slice none 0 0), (3, v8), (4, num i), (5, num z_.1), (10, num ls.length), (11, num i), (12, .bool (decide ((i : Int) < ls.length))), (13, num i), (14, num i)]) (fun z_ => [z_.2.2, hp w]) (fun z_ => z_.1 ≤ i ∧ sink z_.2.1 z_.1 = sink (isort ls i) i ∧ z_.2.1.length = ls.length ∧ IntsO z_.2.1 v8 z_.2.2) (fun z_ => z_.1) (i, isort ls i, g) (⟨by (try dsimp only); omega, rfl, hil, q⟩) ⟨rfl, rfl, rfl, (by first | rfl | exact ksub rfl (by first | omega | (simp; done) | (simp; omega))), rfl, rfl, rfl, rfl, rfl, trivial⟩ (fun _ s => s) ?_
    rintro ⟨k, A, g2⟩ ⟨hk, hA, hAl, q2⟩
    dsimp only at hk hA hAl q2 ⊢
    have hle_q2 := q2.toR.le
    have em : ((k : Int) - 1).toNat = k - 1 := by omega
    refine wp_sc ?_
    refine wp_sc ?_
    refine wp_rj 14 [(0, true), (1, true), (2, true), (3, true), (4, true), (5, true), (6, true), (7, true), (8, true), (9, true), (10, true), (11, true), (12, true), (13, true)] mixed_ok (by kernel_rfl) ?_
    refine rj_v rfl rfl (v_move rfl) rfl ?_
    refine rj_v rfl rfl (v_gtr rfl rfl) rfl ?_
    refine rj_bd 16 rfl (fun c16 => ?_) (fun c16 => ?_)
    · refine rj_v rfl rfl (v_move rfl) rfl ?_
      refine rj_v rfl rfl (v_move rfl) rfl ?_
      refine rj_v rfl rfl (v_move rfl) rfl ?_
      refine rj_v rfl rfl (v_sub rfl rfl ((by unfold I64; omega))) rfl ?_
      refine rj_v rfl rfl (v_idxI Try.underlying24 ty_3 rfl rfl q2.toR (by first | omega | (simp only [List.length_cons, List.length_nil]; omega) | (simp only [List.length_append, List.length_cons, List.length_nil]; omega) | (rw [List.length_set]; omega) | (rw [List.length_replicate]; omega) | (simp; omega)) (by first | omega | (simp only [List.length_cons, List.length_nil]; omega) | (simp only [List.length_append, List.length_cons, List.length_nil]; omega) | (rw [List.length_set]; omega) | (rw [List.length_replicate]; omega) | (simp; omega))) rfl ?_
      refine rj_v rfl rfl (v_loadI  0 ty_3 rfl rfl q2.toR (by first | omega | (simp only [List.length_cons, List.length_nil]; omega) | (simp only [List.length_append, List.length_cons, List.length_nil]; omega) | (rw [List.length_set]; omega) | (rw [List.length_replicate]; omega) | (simp; omega))) rfl ?_
      refine rj_v rfl rfl (v_move rfl) rfl ?_
      refine rj_v rfl rfl (v_move rfl) rfl ?_
      refine rj_v rfl rfl (v_idxI Try.underlying24 ty_3 rfl rfl q2.toR (by first | omega | (simp only [List.length_cons, List.length_nil]; omega) | (simp only [List.length_append, List.length_cons, List.length_nil]; omega) | (rw [List.length_set]; omega) | (rw [List.length_replicate]; omega) | (simp; omega)) (by first | omega | (simp only [List.length_cons, List.length_nil]; omega) | (simp only [List.length_append, List.length_cons, List.length_nil]; omega) | (rw [List.length_set]; omega) | (rw [List.length_replicate]; omega) | (simp; omega))) rfl ?_
      refine rj_v rfl rfl (v_loadI (k := k) 0 ty_3 rfl rfl q2.toR (by first | omega | (simp only [List.length_cons, List.length_nil]; omega) | (simp only [List.length_append, List.length_cons, List.length_nil]; omega) | (rw [List.length_set]; omega) | (rw [List.length_replicate]; omega) | (simp; omega))) rfl ?_
      refine rj_v rfl rfl (v_gtr rfl rfl) rfl ?_
      refine rj_v rfl rfl (v_pickt rfl rfl) rfl ?_
      refine rj_end ?_
      refine qs_n ?_
      refine wp_cd rfl (fun c28 => ?_) (fun c28 => ?_)
      · refine wp_sk ?_
        refine qs_n ?_
        refine wp_sc ?_
        refine wp_bl ?_
        refine wp_sc ?_
        refine wp_sq ?_
        refine sq_v rfl (v_move rfl) rfl ?_
        refine sq_v rfl (v_move rfl) rfl ?_
        refine sq_v rfl (v_idxI Try.underlying24 ty_3 rfl rfl q2.toR (by first | omega | (simp only [List.length_cons, List.length_nil]; omega) | (simp only [List.length_append, List.length_cons, List.length_nil]; omega) | (rw [List.length_set]; omega) | (rw [List.length_replicate]; omega) | (simp; omega)) (by first | omega | (simp only [List.length_cons, List.length_nil]; omega) | (simp only [List.length_append, List.length_cons, List.length_nil]; omega) | (rw [List.length_set]; omega) | (rw [List.length_replicate]; omega) | (simp; omega))) rfl ?_
        refine sq_v rfl (v_loadI (k := k) 0 ty_3 rfl rfl q2.toR (by first | omega | (simp only [List.length_cons, List.length_nil]; omega) | (simp only [List.length_append, List.length_cons, List.length_nil]; omega) | (rw [List.length_set]; omega) | (rw [List.length_replicate]; omega) | (simp; omega))) rfl ?_
        refine sq_v rfl (v_assign rfl) rfl ?_
        refine sq_end ?_
        refine qs_n ?_
        refine wp_sc ?_
        refine wp_sq ?_
        refine sq_v rfl (v_move rfl) rfl ?_
        refine sq_v rfl (v_move rfl) rfl ?_
        refine sq_v rfl (v_move rfl) rfl ?_
        refine sq_v rfl (v_move rfl) rfl ?_
        refine sq_v rfl (v_sub rfl rfl ((by unfold I64; omega))) rfl ?_
        refine sq_v rfl (v_idxI Try.underlying24 ty_3 rfl rfl q2.toR (by first | omega | (simp only [List.length_cons, List.length_nil]; omega) | (simp only [List.length_append, List.length_cons, List.length_nil]; omega) | (rw [List.length_set]; omega) | (rw [List.length_replicate]; omega) | (simp; omega)) (by first | omega | (simp only [List.length_cons, List.length_nil]; omega) | (simp only [List.length_append, List.length_cons, List.length_nil]; omega) | (rw [List.length_set]; omega) | (rw [List.length_replicate]; omega) | (simp; omega))) rfl ?_
        refine sq_v rfl (v_loadI  0 ty_3 rfl rfl q2.toR (by first | omega | (simp only [List.length_cons, List.length_nil]; omega) | (simp only [List.length_append, List.length_cons, List.length_nil]; omega) | (rw [List.length_set]; omega) | (rw [List.length_replicate]; omega) | (simp; omega))) rfl ?_
        refine sq_v rfl (v_idxI Try.underlying24 ty_3 rfl rfl q2.toR (by first | omega | (simp only [List.length_cons, List.length_nil]; omega) | (simp only [List.length_append, List.length_cons, List.length_nil]; omega) | (rw [List.length_set]; omega) | (rw [List.length_replicate]; omega) | (simp; omega)) (by first | omega | (simp only [List.length_cons, List.length_nil]; omega) | (simp only [List.length_append, List.length_cons, List.length_nil]; omega) | (rw [List.length_set]; omega) | (rw [List.length_replicate]; omega) | (simp; omega))) rfl ?_
        refine sq_m 0 rfl rfl (m_storeI (k := k) 0 ty_3 rfl rfl rfl q2 (by first | omega | (simp only [List.length_cons, List.length_nil]; omega) | (simp only [List.length_append, List.length_cons, List.length_nil]; omega) | (rw [List.length_set]; omega) | (rw [List.length_replicate]; omega) | (simp; omega))) rfl ?_; rintro _ h_q9_8 ⟨rfl, q9_8⟩
        refine sq_end ?_
        refine qs_n ?_
        refine wp_sq ?_
        refine sq_v rfl (v_move rfl) rfl ?_
        refine sq_v rfl (v_move rfl) rfl ?_
        refine sq_v rfl (v_sub rfl rfl ((by unfold I64; omega))) rfl ?_
        refine sq_v rfl (v_move rfl) rfl ?_
        refine sq_v rfl (v_idxI Try.underlying24 ty_3 rfl rfl q9_8.toR (by first | omega | (simp only [List.length_cons, List.length_nil]; omega) | (simp only [List.length_append, List.length_cons, List.length_nil]; omega) | (rw [List.length_set]; omega) | (rw [List.length_replicate]; omega) | (simp; omega)) (by first | omega | (simp only [List.length_cons, List.length_nil]; omega) | (simp only [List.length_append, List.length_cons, List.length_nil]; omega) | (rw [List.length_set]; omega) | (rw [List.length_replicate]; omega) | (simp; omega))) rfl ?_
        refine sq_m 0 rfl rfl (m_storeI 0 ty_3 rfl rfl rfl q9_8 (by first | omega | (simp only [List.length_cons, List.length_nil]; omega) | (simp only [List.length_append, List.length_cons, List.length_nil]; omega) | (rw [List.length_set]; omega) | (rw [List.length_replicate]; omega) | (simp; omega))) rfl ?_; rintro _ h_q10_5 ⟨rfl, q10_5⟩
        refine sq_end ?_
        refine qs_bn ?_
        refine qs_n ?_
        refine wp_sq ?_
        refine sq_v rfl (v_move rfl) rfl ?_
        refine sq_v rfl (v_sub rfl rfl ((by unfold I64; omega))) rfl ?_
        refine sq_v rfl (v_assign rfl) rfl ?_
        refine sq_end ?_
        exact qs_bk (k - 1, swapAt A (k - 1), h_q10_5) ⟨by (try dsimp only); omega, sink_go hA (by omega) (by rw [← em]; exact c28), by (try dsimp only); rw [swapAt_len]; exact hAl, by (try dsimp only); rw [em] at q10_5; rw [swapAt, show k - 1 + 1 = k by omega]; exact q10_5⟩ (by simp only; omega) ⟨rfl, rfl, rfl, (by first | rfl | exact ksub rfl (by first | omega | (simp; done) | (simp; omega))), rfl, rfl, rfl, rfl, rfl, trivial⟩ (fun _ s => s)
      · refine wp_ex ?_
        refine qs_x ?_
        refine qs_x ?_
        refine qs_bx ?_
        refine qs_bn ?_
        refine qs_n ?_
        refine wp_sq ?_
        refine sq_v rfl (v_add rfl rfl ((by unfold I64; omega))) rfl ?_
        refine sq_v rfl (v_move rfl) rfl ?_
        refine sq_end ?_
        exact qs_bk (i + 1, g2) ⟨by (try dsimp only); omega, by (try dsimp only); rw [isort, ← sink_stop hA (.inr (by rw [← em]; exact c28))]; exact q2⟩ (by simp only; omega) ⟨rfl, rfl, rfl, (by first | rfl | exact ksub rfl (by first | omega | (simp; done) | (simp; omega))), trivial⟩ (fun _ s => s)
    · refine rj_v rfl rfl (v_move rfl) rfl ?_
      refine rj_s rfl rfl rfl ?_
      refine rj_s rfl rfl rfl ?_
      refine rj_s rfl rfl rfl ?_
      refine rj_s rfl rfl rfl ?_
      refine rj_s rfl rfl rfl ?_
      refine rj_s rfl rfl rfl ?_
      refine rj_s rfl rfl rfl ?_
      refine rj_s rfl rfl rfl ?_
      refine rj_s rfl rfl rfl ?_
      refine rj_s rfl rfl rfl ?_
      refine rj_v rfl rfl (v_pickf rfl rfl) rfl ?_
      refine rj_end ?_
      refine qs_n ?_
      refine wp_cf rfl ?_
      refine wp_ex ?_
      refine qs_x ?_
      refine qs_x ?_
      refine qs_bx ?_
      refine qs_bn ?_
      refine qs_n ?_
      refine wp_sq ?_
      refine sq_v rfl (v_add rfl rfl ((by unfold I64; omega))) rfl ?_
      refine sq_v rfl (v_move rfl) rfl ?_
      refine sq_end ?_
      exact qs_bk (i + 1, g2) ⟨by (try dsimp only); omega, by (try dsimp only); rw [isort, ← sink_stop hA (.inl (by omega))]; exact q2⟩ (by simp only; omega) ⟨rfl, rfl, rfl, (by first | rfl | exact ksub rfl (by first | omega | (simp; done) | (simp; omega))), trivial⟩ (fun _ s => s)
  · refine wp_ex ?_
    refine qs_x ?_
    refine qs_x ?_
    refine qs_bx ?_
    refine qs_n ?_
    refine wp_sc ?_
    refine wp_sq ?_
    refine sq_v rfl (v_move rfl) rfl ?_
    refine sq_v rfl (v_assign rfl) rfl ?_
    refine sq_end ?_
    refine qs_n ?_
    refine wp_rt ?_
    exact qs_ret1 rfl rfl (fin_t 0 (i := 1) rfl rfl rfl (by rw [show ls.length = i by omega]; exact q))
theorem ct_isNaN (x : Int) (w : World) : Calls Try.prog 242 [num x].toArray w (RetV w (.bool false)) := by
  refine calls_in Try.func242 rfl Try.ntmps242 rfl (Sat.start w) ?_
  refine wp_sc ?_
  refine wp_sq ?_
  refine sq_v rfl (v_assign rfl) rfl ?_
  refine sq_end ?_
  refine qs_n ?_
  refine wp_sc ?_
  refine wp_sq ?_
  refine sq_v rfl (v_move rfl) rfl ?_
  refine sq_v rfl (v_move rfl) rfl ?_
  refine sq_v rfl (v_neq rfl rfl) rfl ?_
  refine sq_v rfl (v_assign rfl) rfl ?_
  refine sq_end ?_
  refine qs_n ?_
  refine wp_rt ?_
  exact qs_ret1 rfl rfl (fin_q (i := 0) rfl (by simp))
theorem ct_Less (x y : Int) (w : World) : Calls Try.prog 232 [num x, num y].toArray w (RetV w (.bool (decide (x < y)))) := by
  refine calls_in Try.func232 rfl Try.ntmps232 rfl (Sat.start w) ?_
  refine wp_sc ?_
  refine wp_sq ?_
  refine sq_v rfl (v_assign rfl) rfl ?_
  refine sq_end ?_
  refine qs_n ?_
  refine wp_sc ?_
  refine wp_sq ?_
  refine sq_v rfl (v_move rfl) rfl ?_
  refine sq_u rfl (x_callv rfl en_242 (fun w s => ct_isNaN _ w)) rfl ?_
  refine sq_v rfl (v_move rfl) rfl ?_
  refine sq_s rfl rfl ?_
  refine sq_s rfl rfl ?_
  refine sq_s rfl rfl ?_
  refine sq_v rfl (v_pickf rfl rfl) rfl ?_
  refine sq_v rfl (v_move rfl) rfl ?_
  refine sq_v rfl (v_move rfl) rfl ?_
  refine sq_v rfl (v_move rfl) rfl ?_
  refine sq_v rfl (v_lss rfl rfl) rfl ?_
  refine sq_v rfl (v_pickf rfl rfl) rfl ?_
  refine sq_v rfl (v_assign rfl) rfl ?_
  refine sq_end ?_
  refine qs_n ?_
  refine wp_rt ?_
  exact qs_ret1 rfl rfl (fin_q (i := 0) rfl (rfl))
theorem ct_insertionSort (xs : List Int) (v : Value) (w : World) (h : PH) (hle : PLe h (hp w)) (rx : IntsO xs v h) (hl : xs.length ≤ 12) : Calls Try.prog 226 [v, num 0, num xs.length].toArray w (Ret w h (fun _ h' => IntsO (isort xs xs.length) v h')) := by
  refine calls_in Try.func226 rfl Try.ntmps226 rfl (Sat.start2 hle) ?_
  have hle0 := rx.toR.le
  refine wp_sc ?_
  refine wp_sq ?_
  refine sq_v rfl (v_move rfl) rfl ?_
  refine sq_v rfl (v_add rfl rfl ((by unfold I64; omega))) rfl ?_
  refine sq_v rfl (v_assign rfl) rfl ?_
  refine sq_end ?_
  refine qs_n ?_
  refine wp_bl ?_
  refine wp_lp (σ := Nat × PH) (fun z_ => [(0, v), (1, num 0), (2, num xs.length), (6, num z_.1)]) (fun z_ => [z_.2, (restP w h)]) (fun z_ => (1 ≤ z_.1 ∧ (z_.1 ≤ xs.length ∨ z_.1 = 1)) ∧ IntsO (isort xs z_.1) v z_.2) (fun z_ => xs.length - z_.1) (1, h) (⟨by (try dsimp only); omega, rx⟩) ⟨rfl, rfl, rfl, (by first | rfl | exact ksub rfl (by first | omega | (simp; done) | (simp; omega))), trivial⟩ (fun _ s => s) ?_
  rintro ⟨i, g⟩ ⟨hi, q⟩
  dsimp only at hi q ⊢
  have hle_q := q.toR.le
  have hil := isort_len xs i
  refine wp_sc ?_
  refine wp_sc ?_
  refine wp_sq ?_
  refine sq_v rfl (v_move rfl) rfl ?_
  refine sq_v rfl (v_move rfl) rfl ?_
  refine sq_v rfl (v_lss rfl rfl) rfl ?_
  refine sq_end ?_
  refine qs_n ?_
  refine wp_cd rfl (fun c12 => ?_) (fun c12 => ?_)
  · refine wp_sk ?_
    refine qs_n ?_
    refine wp_sc ?_
    refine wp_bl ?_
    refine wp_sc ?_
    refine wp_sq ?_
    refine sq_v rfl (v_move rfl) rfl ?_
    refine sq_v rfl (v_assign rfl) rfl ?_
    refine sq_end ?_
    refine qs_n ?_
    refine wp_bl ?_
    refine wp_lp (σ := Nat × (List Int) × PH) (fun z_ => [(0, v), (1, num 0), (2, num xs.length), (6, num i), (7, num z_.1), (10, num i), (11, num xs.length), (12, .bool (decide ((i : Int) < xs.length))), (15, num i)]) (fun z_ => [z_.2.2, (restP w h)]) (fun z_ => z_.1 ≤ i ∧ sink z_.2.1 z_.1 = sink (isort xs i) i ∧ z_.2.1.length = xs.length ∧ IntsO z_.2.1 v z_.2.2) (fun z_ => z_.1) (i, isort xs i, g) (⟨by (try dsimp only); omega, rfl, hil, q⟩) ⟨rfl, rfl, rfl, rfl, (by first | rfl | exact ksub rfl (by first | omega | (simp; done) | (simp; omega))), rfl, rfl, rfl, rfl, trivial⟩ (fun _ s => s) ?_
    rintro ⟨k, A, g2⟩ ⟨hk, hA, hAl, q2⟩
    dsimp only at hk hA hAl q2 ⊢
    have hle_q2 := q2.toR.le
    have em : ((k : Int) - 1).toNat = k - 1 := by omega
    refine wp_sc ?_
    refine wp_sc ?_
    refine wp_rj 15 [(0, true), (1, true), (2, true), (3, true), (4, true), (5, true), (6, true), (7, true), (8, true), (9, true), (10, true), (11, true), (12, true), (13, false), (14, true)] mixed_ok (by kernel_rfl) ?_
    refine rj_v rfl rfl (v_move rfl) rfl ?_
    refine rj_v rfl rfl (v_move rfl) rfl ?_
    refine rj_v rfl rfl (v_gtr rfl rfl) rfl ?_
    refine rj_bd 18 rfl (fun c18 => ?_) (fun c18 => ?_)
    · refine rj_v rfl rfl (v_move rfl) rfl ?_
      refine rj_v rfl rfl (v_move rfl) rfl ?_
      refine rj_v rfl rfl (v_move rfl) rfl ?_
      refine rj_v rfl rfl (v_idxI Try.underlying24 ty_3 rfl rfl q2.toR (by first | omega | (simp only [List.length_cons, List.length_nil]; omega) | (simp only [List.length_append, List.length_cons, List.length_nil]; omega) | (rw [List.length_set]; omega) | (rw [List.length_replicate]; omega) | (simp; omega)) (by first | omega | (simp only [List.length_cons, List.length_nil]; omega) | (simp only [List.length_append, List.length_cons, List.length_nil]; omega) | (rw [List.length_set]; omega) | (rw [List.length_replicate]; omega) | (simp; omega))) rfl ?_
      refine rj_v rfl rfl (v_loadI (k := k) 0 ty_3 rfl rfl q2.toR (by first | omega | (simp only [List.length_cons, List.length_nil]; omega) | (simp only [List.length_append, List.length_cons, List.length_nil]; omega) | (rw [List.length_set]; omega) | (rw [List.length_replicate]; omega) | (simp; omega))) rfl ?_
      refine rj_v rfl rfl (v_move rfl) rfl ?_
      refine rj_v rfl rfl (v_move rfl) rfl ?_
      refine rj_v rfl rfl (v_sub rfl rfl ((by unfold I64; omega))) rfl ?_
      refine rj_v rfl rfl (v_idxI Try.underlying24 ty_3 rfl rfl q2.toR (by first | omega | (simp only [List.length_cons, List.length_nil]; omega) | (simp only [List.length_append, List.length_cons, List.length_nil]; omega) | (rw [List.length_set]; omega) | (rw [List.length_replicate]; omega) | (simp; omega)) (by first | omega | (simp only [List.length_cons, List.length_nil]; omega) | (simp only [List.length_append, List.length_cons, List.length_nil]; omega) | (rw [List.length_set]; omega) | (rw [List.length_replicate]; omega) | (simp; omega))) rfl ?_
      refine rj_v rfl rfl (v_loadI  0 ty_3 rfl rfl q2.toR (by first | omega | (simp only [List.length_cons, List.length_nil]; omega) | (simp only [List.length_append, List.length_cons, List.length_nil]; omega) | (rw [List.length_set]; omega) | (rw [List.length_replicate]; omega) | (simp; omega))) rfl ?_
      refine rj_u rfl rfl (x_callv rfl en_232 (fun w s => ct_Less _ _ w)) rfl ?_
      refine rj_v rfl rfl (v_pickt rfl rfl) rfl ?_
      refine rj_end ?_
      refine qs_n ?_
      refine wp_cd rfl (fun c30 => ?_) (fun c30 => ?_)
      · refine wp_sk ?_
        refine qs_n ?_
        refine wp_sc ?_
        refine wp_bl ?_
        refine wp_rakB [true, false] 16 mixed_ok (by kernel_rfl) ?_
        refine rak_v (i := 0) (by kernel_rfl) rfl rfl (v_move rfl) rfl ?_
        refine rak_v (i := 1) (by kernel_rfl) rfl rfl (v_move rfl) rfl ?_
        refine rak_v (i := 2) (by kernel_rfl) rfl rfl (v_move rfl) rfl ?_
        refine rak_v (i := 3) (by kernel_rfl) rfl rfl (v_move rfl) rfl ?_
        refine rak_v (i := 4) (by kernel_rfl) rfl rfl (v_sub rfl rfl ((by unfold I64; omega))) rfl ?_
        refine rak_v (i := 5) (by kernel_rfl) rfl rfl (v_move rfl) rfl ?_
        refine rak_v (i := 6) (by kernel_rfl) rfl rfl (v_move rfl) rfl ?_
        refine rak_v (i := 7) (by kernel_rfl) rfl rfl (v_sub rfl rfl ((by unfold I64; omega))) rfl ?_
        refine rak_v (i := 8) (by kernel_rfl) rfl rfl (v_idxI Try.underlying24 ty_3 rfl rfl q2.toR (by first | omega | (simp only [List.length_cons, List.length_nil]; omega) | (simp only [List.length_append, List.length_cons, List.length_nil]; omega) | (rw [List.length_set]; omega) | (rw [List.length_replicate]; omega) | (simp; omega)) (by first | omega | (simp only [List.length_cons, List.length_nil]; omega) | (simp only [List.length_append, List.length_cons, List.length_nil]; omega) | (rw [List.length_set]; omega) | (rw [List.length_replicate]; omega) | (simp; omega))) rfl ?_
        refine rak_v (i := 10) (by kernel_rfl) rfl rfl (v_move rfl) rfl ?_
        refine rak_v (i := 11) (by kernel_rfl) rfl rfl (v_move rfl) rfl ?_
        refine rak_v (i := 12) (by kernel_rfl) rfl rfl (v_idxI Try.underlying24 ty_3 rfl rfl q2.toR (by first | omega | (simp only [List.length_cons, List.length_nil]; omega) | (simp only [List.length_append, List.length_cons, List.length_nil]; omega) | (rw [List.length_set]; omega) | (rw [List.length_replicate]; omega) | (simp; omega)) (by first | omega | (simp only [List.length_cons, List.length_nil]; omega) | (simp only [List.length_append, List.length_cons, List.length_nil]; omega) | (rw [List.length_set]; omega) | (rw [List.length_replicate]; omega) | (simp; omega))) rfl ?_
        refine rak_2 (i := 9) (j := 13) (by kernel_rfl) ?_ ?_
        · refine rok_fv rfl rfl (v_loadI  0 ty_3 rfl rfl q2.toR (by first | omega | (simp only [List.length_cons, List.length_nil]; omega) | (simp only [List.length_append, List.length_cons, List.length_nil]; omega) | (rw [List.length_set]; omega) | (rw [List.length_replicate]; omega) | (simp; omega))) rfl ?_
          refine rak_rk [(13, false), (14, true), (15, false), (16, false), (17, false)] (by kernel_rfl) rfl ?_
          refine rk_fv rfl rfl (v_loadI (k := k) 0 ty_3 rfl rfl q2.toR (by first | omega | (simp only [List.length_cons, List.length_nil]; omega) | (simp only [List.length_append, List.length_cons, List.length_nil]; omega) | (rw [List.length_set]; omega) | (rw [List.length_replicate]; omega) | (simp; omega))) rfl ?_
          refine rk_v rfl rfl (v_idxI Try.underlying24 ty_3 rfl rfl q2.toR (by first | omega | (simp only [List.length_cons, List.length_nil]; omega) | (simp only [List.length_append, List.length_cons, List.length_nil]; omega) | (rw [List.length_set]; omega) | (rw [List.length_replicate]; omega) | (simp; omega)) (by first | omega | (simp only [List.length_cons, List.length_nil]; omega) | (simp only [List.length_append, List.length_cons, List.length_nil]; omega) | (rw [List.length_set]; omega) | (rw [List.length_replicate]; omega) | (simp; omega))) rfl ?_
          refine rk_m 0 rfl rfl rfl rfl (m_storeI (k := k) 0 ty_3 rfl rfl rfl q2 (by first | omega | (simp only [List.length_cons, List.length_nil]; omega) | (simp only [List.length_append, List.length_cons, List.length_nil]; omega) | (rw [List.length_set]; omega) | (rw [List.length_replicate]; omega) | (simp; omega))) rfl ?_; rintro _ h_q6_15 ⟨rfl, q6_15⟩
          refine rk_fv rfl rfl (v_idxI Try.underlying24 ty_3 rfl rfl q6_15.toR (by first | omega | (simp only [List.length_cons, List.length_nil]; omega) | (simp only [List.length_append, List.length_cons, List.length_nil]; omega) | (rw [List.length_set]; omega) | (rw [List.length_replicate]; omega) | (simp; omega)) (by first | omega | (simp only [List.length_cons, List.length_nil]; omega) | (simp only [List.length_append, List.length_cons, List.length_nil]; omega) | (rw [List.length_set]; omega) | (rw [List.length_replicate]; omega) | (simp; omega))) rfl ?_
          refine rk_mt 0 rfl rfl rfl rfl (m_storeI 0 ty_3 rfl rfl rfl q6_15 (by first | omega | (simp only [List.length_cons, List.length_nil]; omega) | (simp only [List.length_append, List.length_cons, List.length_nil]; omega) | (rw [List.length_set]; omega) | (rw [List.length_replicate]; omega) | (simp; omega))) rfl ?_; rintro _ h_q6_17 ⟨rfl, q6_17⟩
          refine rk_end ?_
          refine qs_bn ?_
          refine qs_n ?_
          refine wp_sq ?_
          refine sq_v rfl (v_move rfl) rfl ?_
          refine sq_v rfl (v_sub rfl rfl ((by unfold I64; omega))) rfl ?_
          refine sq_v rfl (v_assign rfl) rfl ?_
          refine sq_end ?_
          exact qs_bk (k - 1, swapAt A (k - 1), h_q6_17) ⟨by (try dsimp only); omega, sink_go hA (by omega) (by rw [← em]; exact c30), by (try dsimp only); rw [swapAt_len]; exact hAl, by (try dsimp only); rw [em] at q6_17; rw [swapAt, show k - 1 + 1 = k by omega]; exact q6_17⟩ (by simp only; omega) ⟨rfl, rfl, rfl, rfl, (by first | rfl | exact ksub rfl (by first | omega | (simp; done) | (simp; omega))), rfl, rfl, rfl, rfl, trivial⟩ (fun _ s => s)
        · refine rok_fv rfl rfl (v_loadI (k := k) 0 ty_3 rfl rfl q2.toR (by first | omega | (simp only [List.length_cons, List.length_nil]; omega) | (simp only [List.length_append, List.length_cons, List.length_nil]; omega) | (rw [List.length_set]; omega) | (rw [List.length_replicate]; omega) | (simp; omega))) rfl ?_
          refine rak_rk [(9, false), (14, true), (15, false), (16, false), (17, false)] (by kernel_rfl) rfl ?_
          refine rk_fv rfl rfl (v_loadI  0 ty_3 rfl rfl q2.toR (by first | omega | (simp only [List.length_cons, List.length_nil]; omega) | (simp only [List.length_append, List.length_cons, List.length_nil]; omega) | (rw [List.length_set]; omega) | (rw [List.length_replicate]; omega) | (simp; omega))) rfl ?_
          refine rk_v rfl rfl (v_idxI Try.underlying24 ty_3 rfl rfl q2.toR (by first | omega | (simp only [List.length_cons, List.length_nil]; omega) | (simp only [List.length_append, List.length_cons, List.length_nil]; omega) | (rw [List.length_set]; omega) | (rw [List.length_replicate]; omega) | (simp; omega)) (by first | omega | (simp only [List.length_cons, List.length_nil]; omega) | (simp only [List.length_append, List.length_cons, List.length_nil]; omega) | (rw [List.length_set]; omega) | (rw [List.length_replicate]; omega) | (simp; omega))) rfl ?_
          refine rk_m 0 rfl rfl rfl rfl (m_storeI (k := k) 0 ty_3 rfl rfl rfl q2 (by first | omega | (simp only [List.length_cons, List.length_nil]; omega) | (simp only [List.length_append, List.length_cons, List.length_nil]; omega) | (rw [List.length_set]; omega) | (rw [List.length_replicate]; omega) | (simp; omega))) rfl ?_; rintro _ h_q6_15 ⟨rfl, q6_15⟩
          refine rk_fv rfl rfl (v_idxI Try.underlying24 ty_3 rfl rfl q6_15.toR (by first | omega | (simp only [List.length_cons, List.length_nil]; omega) | (simp only [List.length_append, List.length_cons, List.length_nil]; omega) | (rw [List.length_set]; omega) | (rw [List.length_replicate]; omega) | (simp; omega)) (by first | omega | (simp only [List.length_cons, List.length_nil]; omega) | (simp only [List.length_append, List.length_cons, List.length_nil]; omega) | (rw [List.length_set]; omega) | (rw [List.length_replicate]; omega) | (simp; omega))) rfl ?_
          refine rk_mt 0 rfl rfl rfl rfl (m_storeI 0 ty_3 rfl rfl rfl q6_15 (by first | omega | (simp only [List.length_cons, List.length_nil]; omega) | (simp only [List.length_append, List.length_cons, List.length_nil]; omega) | (rw [List.length_set]; omega) | (rw [List.length_replicate]; omega) | (simp; omega))) rfl ?_; rintro _ h_q6_17 ⟨rfl, q6_17⟩
          refine rk_end ?_
          refine qs_bn ?_
          refine qs_n ?_
          refine wp_sq ?_
          refine sq_v rfl (v_move rfl) rfl ?_
          refine sq_v rfl (v_sub rfl rfl ((by unfold I64; omega))) rfl ?_
          refine sq_v rfl (v_assign rfl) rfl ?_
          refine sq_end ?_
          exact qs_bk (k - 1, swapAt A (k - 1), h_q6_17) ⟨by (try dsimp only); omega, sink_go hA (by omega) (by rw [← em]; exact c30), by (try dsimp only); rw [swapAt_len]; exact hAl, by (try dsimp only); rw [em] at q6_17; rw [swapAt, show k - 1 + 1 = k by omega]; exact q6_17⟩ (by simp only; omega) ⟨rfl, rfl, rfl, rfl, (by first | rfl | exact ksub rfl (by first | omega | (simp; done) | (simp; omega))), rfl, rfl, rfl, rfl, trivial⟩ (fun _ s => s)
      · refine wp_ex ?_
        refine qs_x ?_
        refine qs_x ?_
        refine qs_bx ?_
        refine qs_bn ?_
        refine qs_n ?_
        refine wp_sq ?_
        refine sq_v rfl (v_move rfl) rfl ?_
        refine sq_v rfl (v_add rfl rfl ((by unfold I64; omega))) rfl ?_
        refine sq_v rfl (v_assign rfl) rfl ?_
        refine sq_end ?_
        exact qs_bk (i + 1, g2) ⟨by (try dsimp only); omega, by (try dsimp only); rw [isort, ← sink_stop hA (.inr (by rw [← em]; exact c30))]; exact q2⟩ (by simp only; omega) ⟨rfl, rfl, rfl, (by first | rfl | exact ksub rfl (by first | omega | (simp; done) | (simp; omega))), trivial⟩ (fun _ s => s)
    · refine rj_v rfl rfl (v_move rfl) rfl ?_
      refine rj_s rfl rfl rfl ?_
      refine rj_s rfl rfl rfl ?_
      refine rj_s rfl rfl rfl ?_
      refine rj_s rfl rfl rfl ?_
      refine rj_s rfl rfl rfl ?_
      refine rj_s rfl rfl rfl ?_
      refine rj_s rfl rfl rfl ?_
      refine rj_s rfl rfl rfl ?_
      refine rj_s rfl rfl rfl ?_
      refine rj_fs rfl rfl rfl ?_
      refine rj_v rfl rfl (v_pickf rfl rfl) rfl ?_
      refine rj_end ?_
      refine qs_n ?_
      refine wp_cf rfl ?_
      refine wp_ex ?_
      refine qs_x ?_
      refine qs_x ?_
      refine qs_bx ?_
      refine qs_bn ?_
      refine qs_n ?_
      refine wp_sq ?_
      refine sq_v rfl (v_move rfl) rfl ?_
      refine sq_v rfl (v_add rfl rfl ((by unfold I64; omega))) rfl ?_
      refine sq_v rfl (v_assign rfl) rfl ?_
      refine sq_end ?_
      exact qs_bk (i + 1, g2) ⟨by (try dsimp only); omega, by (try dsimp only); rw [isort, ← sink_stop hA (.inl (by omega))]; exact q2⟩ (by simp only; omega) ⟨rfl, rfl, rfl, (by first | rfl | exact ksub rfl (by first | omega | (simp; done) | (simp; omega))), trivial⟩ (fun _ s => s)
  · refine wp_ex ?_
    refine qs_x ?_
    refine qs_x ?_
    refine qs_bx ?_
    exact qs_ret0 rfl (fin_m 0 (i := 1) rfl rfl rfl (by rcases Nat.lt_or_ge 0 xs.length with h' | h'; (rw [show xs.length = i by omega]; exact q); (rw [show xs.length = 0 by omega]; rw [show i = 1 by omega] at q; exact q)))
theorem ct_pdqsort (xs : List Int) (lim : Int) (v : Value) (w : World) (h : PH) (hle : PLe h (hp w)) (rx : IntsO xs v h) (hl : xs.length ≤ 12) : Calls Try.prog 223 [v, num 0, num xs.length, num lim].toArray w (Ret w h (fun _ h' => IntsO (isort xs xs.length) v h')) := by
  refine calls_in Try.func223 rfl Try.ntmps223 rfl (Sat.start2 hle) ?_
  have hle0 := rx.toR.le
  refine wp_sc ?_
  refine wp_sq ?_
  refine sq_v rfl (v_assign rfl) rfl ?_
  refine sq_end ?_
  refine qs_n ?_
  refine wp_sc ?_
  refine wp_sq ?_
  refine sq_v rfl (v_assign rfl) rfl ?_
  refine sq_end ?_
  refine qs_n ?_
  refine wp_bl ?_
  refine wp_lp (σ := Unit) (fun z_ => [(0, v), (1, num 0), (2, num xs.length), (3, num lim), (8, .bool true), (9, .bool true)]) (fun z_ => [h, (restP w h)]) (fun z_ => True) (fun z_ => 0) () (trivial) ⟨rfl, rfl, rfl, rfl, rfl, rfl, trivial⟩ (fun _ s => s) ?_
  rintro z _
  refine wp_bl ?_
  refine wp_sc ?_
  refine wp_sq ?_
  refine sq_v rfl (v_move rfl) rfl ?_
  refine sq_v rfl (v_move rfl) rfl ?_
  refine sq_v rfl (v_sub rfl rfl ((by unfold I64; omega))) rfl ?_
  refine sq_v rfl (v_assign rfl) rfl ?_
  refine sq_end ?_
  refine qs_n ?_
  refine wp_sc ?_
  refine wp_sc ?_
  refine wp_sq ?_
  refine sq_v rfl (v_move rfl) rfl ?_
  refine sq_v rfl (v_leq rfl rfl) rfl ?_
  refine sq_end ?_
  refine qs_n ?_
  refine wp_cd rfl (fun c23 => ?_) (fun c23 => ?_)
  · refine wp_sc ?_
    refine wp_sq ?_
    refine sq_v rfl (v_move rfl) rfl ?_
    refine sq_v rfl (v_move rfl) rfl ?_
    refine sq_v rfl (v_move rfl) rfl ?_
    refine sq_m 0 rfl rfl (x_call rfl en_226 (fun w s => ct_insertionSort _ _ w _ (s.get 0 rfl) rx (by first | assumption | omega))) rfl ?_; rintro _ h27 r27
    refine sq_end ?_
    refine qs_n ?_
    refine wp_rt ?_
    refine qs_r ?_
    refine qs_br ?_
    refine qs_r ?_
    refine qs_br ?_
    exact qs_ret0r rfl (fin_m 0 (i := 1) rfl rfl rfl (r27))
  · exfalso; omega
def lenTab (n : Int) : Int := if n = 0 then 0 else if n = 1 then 1 else if n ≤ 3 then 2 else if n ≤ 7 then 3 else 4
theorem lenTab_in (n : Int) : 0 ≤ lenTab n ∧ lenTab n ≤ 4 := by
  unfold lenTab
  repeat' split
  all_goals omega
theorem lenTab_all {n : Int} (h : 0 ≤ n ∧ n ≤ 12) : n = 0 ∨ n = 1 ∨ n = 2 ∨ n = 3 ∨ n = 4 ∨ n = 5 ∨ n = 6 ∨ n = 7 ∨ n = 8 ∨ n = 9 ∨ n = 10 ∨ n = 11 ∨ n = 12 := by omega
theorem wrap_u8 {a : Int} (h : 0 ≤ a ∧ a ≤ 12) : IntKind.u8.wrap a = a := by
  simp [IntKind.wrap, IntKind.bits, IntKind.signed]
  omega
theorem wrap_u64 {a : Int} (h : 0 ≤ a ∧ a ≤ 12) : IntKind.u64.wrap a = a := by
  simp [IntKind.wrap, IntKind.bits, IntKind.signed]
  omega
theorem ct_Len64 (n : Int) (w : World) (hn : 0 ≤ n ∧ n ≤ 12) : Calls Try.prog 236 [.int .u64 n].toArray w (RetV w (num (lenTab n))) := by
  have hlt := lenTab_in n
  refine calls_in Try.func236 rfl Try.ntmps236 rfl (Sat.start w) ?_
  refine wp_sc ?_
  refine wp_sq ?_
  refine sq_v rfl (v_assign rfl) rfl ?_
  refine sq_end ?_
  refine qs_n ?_
  refine wp_sc ?_
  refine wp_sc ?_
  refine wp_sq ?_
  refine sq_v rfl (v_move rfl) rfl ?_
  refine sq_v rfl (v_geq rfl rfl) rfl ?_
  refine sq_end ?_
  refine qs_n ?_
  refine wp_cd rfl (fun c4 => ?_) (fun c4 => ?_)
  · exfalso; omega
  · refine wp_sk ?_
    refine qs_n ?_
    refine wp_sc ?_
    refine wp_sc ?_
    refine wp_sq ?_
    refine sq_v rfl (v_move rfl) rfl ?_
    refine sq_v rfl (v_geq rfl rfl) rfl ?_
    refine sq_end ?_
    refine qs_n ?_
    refine wp_cd rfl (fun c8 => ?_) (fun c8 => ?_)
    · exfalso; omega
    · refine wp_sk ?_
      refine qs_n ?_
      refine wp_sc ?_
      refine wp_sc ?_
      refine wp_sq ?_
      refine sq_v rfl (v_move rfl) rfl ?_
      refine sq_v rfl (v_geq rfl rfl) rfl ?_
      refine sq_end ?_
      refine qs_n ?_
      refine wp_cd rfl (fun c14 => ?_) (fun c14 => ?_)
      · exfalso; omega
      · refine wp_sk ?_
        refine qs_n ?_
        refine wp_sc ?_
        refine wp_sq ?_
        refine sq_v rfl (v_move rfl) rfl ?_
        refine sq_v rfl (v_move rfl) rfl ?_
        refine sq_v rfl (v_convI (by kernel_rfl) Try.underlying5 rfl (wrap_u8 hn)) rfl ?_
        refine sq_v rfl (v_indexS (v := lenTab n) Try.underlying9 rfl rfl hn.1 (by rcases lenTab_all hn with h | h | h | h | h | h | h | h | h | h | h | h | h <;> subst h <;> rfl)) rfl ?_
        refine sq_v rfl (v_convI (by kernel_rfl) Try.underlying3 rfl (show I64 (lenTab n) by unfold I64; omega).wrap) rfl ?_
        refine sq_v rfl (v_add rfl rfl ((by unfold I64; omega))) rfl ?_
        refine sq_v rfl (v_assign rfl) rfl ?_
        refine sq_end ?_
        refine qs_n ?_
        refine wp_rt ?_
        exact qs_ret1 rfl rfl (fin_q (i := 0) rfl (by rw [Int.zero_add]))
theorem ct_Len (n : Int) (w : World) (hn : 0 ≤ n ∧ n ≤ 12) : Calls Try.prog 224 [.int .u64 n].toArray w (RetV w (num (lenTab n))) := by
  refine calls_in Try.func224 rfl Try.ntmps224 rfl (Sat.start w) ?_
  refine wp_sc ?_
  refine wp_sq ?_
  refine sq_v rfl (v_assign rfl) rfl ?_
  refine sq_end ?_
  refine qs_n ?_
  refine wp_sc ?_
  refine wp_cf rfl ?_
  refine wp_sk ?_
  refine qs_n ?_
  refine wp_sc ?_
  refine wp_sq ?_
  refine sq_v rfl (v_move rfl) rfl ?_
  refine sq_u rfl (x_callv rfl en_236 (fun w s => ct_Len64 _ w hn)) rfl ?_
  refine sq_v rfl (v_assign rfl) rfl ?_
  refine sq_end ?_
  refine qs_n ?_
  refine wp_rt ?_
  exact qs_ret1 rfl rfl (fin_q (i := 0) rfl (rfl))
theorem ct_Sort (xs : List Int) (v : Value) (w : World) (h : PH) (hle : PLe h (hp w)) (rx : IntsO xs v h) (hl : xs.length ≤ 12) : Calls Try.prog 205 [v].toArray w (Ret w h (fun _ h' => IntsO (isort xs xs.length) v h')) := by
  refine calls_in Try.func205 rfl Try.ntmps205 rfl (Sat.start2 hle) ?_
  have hle0 := rx.toR.le
  refine wp_sc ?_
  refine wp_sq ?_
  refine sq_v rfl (v_move rfl) rfl ?_
  refine sq_v rfl (v_len Try.underlying24 rfl rx.toR.sl) rfl ?_
  refine sq_v rfl (v_assign rfl) rfl ?_
  refine sq_end ?_
  refine qs_n ?_
  refine wp_sq ?_
  refine sq_v rfl (v_move rfl) rfl ?_
  refine sq_v rfl (v_move rfl) rfl ?_
  refine sq_v rfl (v_move rfl) rfl ?_
  refine sq_v rfl (v_convI (by kernel_rfl) Try.underlying230 rfl (wrap_u64 (a := xs.length) (by omega))) rfl ?_
  refine sq_u rfl (x_callv rfl en_224 (fun w s => ct_Len (xs.length : Int) w (by omega))) rfl ?_
  refine sq_m 0 rfl rfl (x_call rfl en_223 (fun w s => ct_pdqsort _ _ _ w _ (s.get 0 rfl) rx hl)) rfl ?_; rintro _ h10 r10
  refine sq_end ?_
  exact qs_ret0 rfl (fin_m 0 (i := 1) rfl rfl rfl (r10))
theorem ct_i_sortedInts (ls : List Int) (v : Value) (w : World) (r : IntsR ls v (hp w)) (hl : ls.length ≤ 12) : Calls Try.prog 117 [v].toArray w (Ret w emp (IntsO (isort ls ls.length))) := by
  refine calls_in Try.func117 rfl Try.ntmps117 rfl (Sat.start w) ?_
  have hle0 := r.le
  refine wp_sc ?_
  refine wp_sq ?_
  refine sq_v rfl (v_assign rfl) rfl ?_
  refine sq_end ?_
  refine qs_n ?_
  refine wp_sc ?_
  refine wp_sq ?_
  refine sq_v rfl (v_move rfl) rfl ?_
  refine sq_x rfl (x_call rfl en_91 (fun w s => ct_i_copyInts _ _ w (r.mono (s.get 0 rfl)) (by first | assumption | omega))) rfl ?_; rintro v5 h5 r5
  refine sq_v rfl (v_assign rfl) rfl ?_
  refine sq_end ?_
  refine qs_n ?_
  refine wp_sc ?_
  refine wp_sq ?_
  refine sq_v rfl (v_move rfl) rfl ?_
  refine sq_m 0 rfl rfl (x_call rfl en_205 (fun w s => ct_Sort _ _ w _ (s.get 0 rfl) r5 (by first | assumption | omega))) rfl ?_; rintro _ h7 r7
  refine sq_end ?_
  refine qs_n ?_
  refine wp_sc ?_
  refine wp_sq ?_
  refine sq_v rfl (v_move rfl) rfl ?_
  refine sq_v rfl (v_assign rfl) rfl ?_
  refine sq_end ?_
  refine qs_n ?_
  refine wp_rt ?_
  exact qs_ret1 rfl rfl (fin_t 0 (i := 1) rfl rfl rfl (r7))
end Go.Proofs.Ytikeobneipjfnaa
namespace Go.Proofs.Ytikeobneipjfnaa
set_option maxRecDepth 100000
open Go.RowKit
open Classical in
noncomputable def sortR (k p n : Int) (t : Ten) : Ten := if tensorL k p n t.l t.d t.x then permT k n t (isort t.l t.l.length) else ⟨[], [], []⟩
theorem sort_ok {k p n : Int} {t : Ten} (h : tensorL k p n t.l t.d t.x) : PermOK k p n t (isort t.l t.l.length) := ⟨h.1, h, isort_perm t.l _ (Nat.le_refl _)⟩
theorem sortR_no {k p n : Int} {t : Ten} (h : ¬ tensorL k p n t.l t.d t.x) : TenT (sortR k p n t) (tenV (.slice none 0 0) (.slice none 0 0) (.slice none 0 0)) emp := by
  rw [sortR, if_neg h]
  exact ⟨_, _, _, rfl, ⟨emp, emp, emp, IntsO.nil, IntsO.nil, IntsO.nil, ⟨by simp [sepL, PDj.emp], fun x hx => by simp at hx; subst hx; exact PLe.emp _, fun k o e => by cases e⟩⟩⟩
theorem sortR_yes {k p n : Int} {t : Ten} {u : Value} {g : PH} (h : tensorL k p n t.l t.d t.x) (r : TenT (permT k n t (isort t.l t.l.length)) u g) : TenT (sortR k p n t) u g := by
  rw [sortR, if_pos h]; exact r
set_option maxHeartbeats 1000000 in
theorem ct_s_SortTensor (k p n : Int) (t : Ten) (a b c : Value) (w : World) (r1 : IntsR t.l a (hp w)) (r2 : IntsR t.d b (hp w)) (r3 : IntsR t.x c (hp w)) :
    Calls Try.prog 51 [ringV k p n, tenV a b c].toArray w (Ret w emp (TenT (sortR k p n t))) := by
  refine calls_in Try.func51 rfl Try.ntmps51 rfl (Sat.start w) ?_
  have hle0 := r1.le
  have hle1 := r2.le
  have hle2 := r3.le
  refine wp_sc ?_
  refine wp_sq ?_
  refine sq_x rfl (x_box rfl rfl) rfl ?_; rintro _ _ ⟨b2, rfl, rfl⟩
  refine sq_x rfl (x_box rfl rfl) rfl ?_; rintro _ _ ⟨b3, rfl, rfl⟩
  refine sq_x rfl (x_alloc ty_28 rfl) rfl ?_; rintro _ _ ⟨b4, rfl, rfl⟩
  refine sq_end ?_
  refine qs_n ?_
  refine wp_sc ?_
  refine wp_sc ?_
  refine wp_sq ?_
  refine sq_v rfl (v_loadNB 2 ty_30 rfl rfl rfl rfl) rfl ?_
  refine sq_v rfl (v_loadNB 1 ty_28 rfl rfl rfl rfl) rfl ?_
  refine sq_u rfl (x_callv rfl en_69 (fun w s => ct_s_TensorOk _ _ _ _ _ _ _ _ _ w (r1.mono (s.get 3 rfl)) (r2.mono (s.get 3 rfl)) (r3.mono (s.get 3 rfl)))) rfl ?_
  refine sq_v rfl (v_not rfl) rfl ?_
  refine sq_end ?_
  refine qs_n ?_
  refine wp_cn _ rfl (fun c8 => ?_) (fun c8 => ?_)
  · refine wp_sc ?_
    refine wp_sq ?_
    refine sq_v rfl (v_build [.slice none 0 0, .slice none 0 0, .slice none 0 0] rfl (by kernel_rfl)) rfl ?_
    refine sq_m 0 rfl rfl (m_store 0 ty_28 rfl rfl rfl rfl (by simp [one_sl]) rfl (Nat.le_of_ble_eq_true rfl)) rfl ?_; rintro _ _ ⟨rfl, rfl⟩
    refine sq_end ?_
    refine qs_n ?_
    refine wp_rt ?_
    refine qs_r ?_
    exact qs_retc 0 rfl ty_28 rfl rfl rfl (fin_e (i := 3) rfl (sortR_no (tensorB_false.1 c8)))
  · refine wp_sk ?_
    refine qs_n ?_
    refine wp_sc ?_
    refine wp_rj 6 [(0, true), (1, true), (2, true), (3, true), (4, false), (5, false), (6, false)] mixed_ok (by kernel_rfl) ?_
    refine rj_v rfl rfl (v_loadNB 2 ty_30 rfl rfl rfl rfl) rfl ?_
    refine rj_v rfl rfl (v_loadNB 1 ty_28 rfl rfl rfl rfl) rfl ?_
    refine rj_v rfl rfl (v_fieldAddr fd_28_0 ty_24 (by decide) rfl) rfl ?_
    refine rj_v rfl rfl (v_loadB 1 ty_24 rfl rfl rfl) rfl ?_
    have ht := tensorB_true.1 c8; have h12 := (tensor_axes ht).1
    refine rj_x rfl rfl (x_call rfl en_115 (fun w s => ct_s_l06Sort _ _ w (r1.mono (s.get 3 rfl)) (by first | assumption | omega))) rfl ?_; rintro v14 h14 r14
    refine rj_x rfl rfl (x_call rfl en_114 (fun w s => ct_s_l06Permute _ _ _ _ _ _ _ _ _ w (r1.mono (s.get 4 rfl)) (r2.mono (s.get 4 rfl)) (r3.mono (s.get 4 rfl)) (r14.toR.mono (s.get 0 rfl)) (sort_ok ht))) rfl ?_; rintro _ h15 ⟨va15, vb15, vc15, rfl, o15⟩
    refine rj_m 2 rfl rfl rfl rfl (m_store 2 ty_28 rfl rfl rfl rfl (by simp [o15.toR.1.sl.one, o15.toR.2.1.sl.one, o15.toR.2.2.sl.one]) rfl (Nat.le_of_ble_eq_true rfl)) rfl ?_; rintro _ _ ⟨rfl, rfl⟩
    refine rj_end ?_
    refine qs_n ?_
    refine wp_rt ?_
    exact qs_retc 2 rfl ty_28 rfl rfl rfl (fin_t 0 (i := 5) rfl rfl rfl (sortR_yes (tensorB_true.1 c8) ⟨_, _, _, rfl, o15⟩))
set_option maxHeartbeats 1000000 in
theorem ct_i_SortTensor (k p n : Int) (t : Ten) (a b c : Value) (w : World) (r1 : IntsR t.l a (hp w)) (r2 : IntsR t.d b (hp w)) (r3 : IntsR t.x c (hp w)) :
    Calls Try.prog 52 [ringV k p n, tenV a b c].toArray w (Ret w emp (TenT (sortR k p n t))) := by
  refine calls_in Try.func52 rfl Try.ntmps52 rfl (Sat.start w) ?_
  have hle0 := r1.le
  have hle1 := r2.le
  have hle2 := r3.le
  refine wp_sc ?_
  refine wp_sq ?_
  refine sq_x rfl (x_box rfl rfl) rfl ?_; rintro _ _ ⟨b2, rfl, rfl⟩
  refine sq_x rfl (x_box rfl rfl) rfl ?_; rintro _ _ ⟨b3, rfl, rfl⟩
  refine sq_x rfl (x_alloc ty_28 rfl) rfl ?_; rintro _ _ ⟨b4, rfl, rfl⟩
  refine sq_end ?_
  refine qs_n ?_
  refine wp_sc ?_
  refine wp_sc ?_
  refine wp_sq ?_
  refine sq_v rfl (v_loadNB 2 ty_30 rfl rfl rfl rfl) rfl ?_
  refine sq_v rfl (v_loadNB 1 ty_28 rfl rfl rfl rfl) rfl ?_
  refine sq_u rfl (x_callv rfl en_71 (fun w s => ct_i_TensorOk _ _ _ _ _ _ _ _ _ w (r1.mono (s.get 3 rfl)) (r2.mono (s.get 3 rfl)) (r3.mono (s.get 3 rfl)))) rfl ?_
  refine sq_v rfl (v_not rfl) rfl ?_
  refine sq_end ?_
  refine qs_n ?_
  refine wp_cn _ rfl (fun c8 => ?_) (fun c8 => ?_)
  · refine wp_sc ?_
    refine wp_sq ?_
    refine sq_v rfl (v_build [.slice none 0 0, .slice none 0 0, .slice none 0 0] rfl (by kernel_rfl)) rfl ?_
    refine sq_m 0 rfl rfl (m_store 0 ty_28 rfl rfl rfl rfl (by simp [one_sl]) rfl (Nat.le_of_ble_eq_true rfl)) rfl ?_; rintro _ _ ⟨rfl, rfl⟩
    refine sq_end ?_
    refine qs_n ?_
    refine wp_rt ?_
    refine qs_r ?_
    exact qs_retc 0 rfl ty_28 rfl rfl rfl (fin_e (i := 3) rfl (sortR_no (tensorB_false.1 c8)))
  · refine wp_sk ?_
    refine qs_n ?_
    refine wp_sc ?_
    refine wp_rj 6 [(0, true), (1, true), (2, true), (3, true), (4, false), (5, false), (6, false)] mixed_ok (by kernel_rfl) ?_
    refine rj_v rfl rfl (v_loadNB 2 ty_30 rfl rfl rfl rfl) rfl ?_
    refine rj_v rfl rfl (v_loadNB 1 ty_28 rfl rfl rfl rfl) rfl ?_
    refine rj_v rfl rfl (v_fieldAddr fd_28_0 ty_24 (by decide) rfl) rfl ?_
    refine rj_v rfl rfl (v_loadB 1 ty_24 rfl rfl rfl) rfl ?_
    have ht := tensorB_true.1 c8; have h12 := (tensor_axes ht).1
    refine rj_x rfl rfl (x_call rfl en_117 (fun w s => ct_i_sortedInts _ _ w (r1.mono (s.get 3 rfl)) (by first | assumption | omega))) rfl ?_; rintro v14 h14 r14
    refine rj_x rfl rfl (x_call rfl en_116 (fun w s => ct_i_rawPermute _ _ _ _ _ _ _ _ _ w (r1.mono (s.get 4 rfl)) (r2.mono (s.get 4 rfl)) (r3.mono (s.get 4 rfl)) (r14.toR.mono (s.get 0 rfl)) (sort_ok ht))) rfl ?_; rintro _ h15 ⟨va15, vb15, vc15, rfl, o15⟩
    refine rj_m 2 rfl rfl rfl rfl (m_store 2 ty_28 rfl rfl rfl rfl (by simp [o15.toR.1.sl.one, o15.toR.2.1.sl.one, o15.toR.2.2.sl.one]) rfl (Nat.le_of_ble_eq_true rfl)) rfl ?_; rintro _ _ ⟨rfl, rfl⟩
    refine rj_end ?_
    refine qs_n ?_
    refine wp_rt ?_
    exact qs_retc 2 rfl ty_28 rfl rfl rfl (fin_t 0 (i := 5) rfl rfl rfl (sortR_yes (tensorB_true.1 c8) ⟨_, _, _, rfl, o15⟩))
def sameP (t u : Ten) : Prop := t.l = u.l ∧ t.d = u.d ∧ t.x = u.x
open Classical in
noncomputable def sameT (t u : Ten) : Bool := decide (sameP t u)
theorem same_of {t u : Ten} {b : Bool} (h : b = true ↔ sameP t u) : Value.bool b = .bool (sameT t u) := by
  congr 1
  rw [Bool.eq_iff_iff, h]
  simp [sameT]
theorem ct_i_equalTensors (t u : Ten) (a b c a' b' c' : Value) (w : World) (r1 : IntsR t.l a (hp w)) (r2 : IntsR t.d b (hp w)) (r3 : IntsR t.x c (hp w)) (r1' : IntsR u.l a' (hp w)) (r2' : IntsR u.d b' (hp w)) (r3' : IntsR u.x c' (hp w)) :
    Calls Try.prog 113 [tenV a b c, tenV a' b' c'].toArray w (RetV w (.bool (sameT t u))) := by
  refine calls_in Try.func113 rfl Try.ntmps113 rfl (Sat.start w) ?_
  have hle0 := r1.le
  have hle1 := r2.le
  have hle2 := r3.le
  have hle3 := r1'.le
  have hle4 := r2'.le
  have hle5 := r3'.le
  refine wp_sc ?_
  refine wp_sq ?_
  refine sq_x rfl (x_box rfl rfl) rfl ?_; rintro _ _ ⟨b2, rfl, rfl⟩
  refine sq_x rfl (x_box rfl rfl) rfl ?_; rintro _ _ ⟨b3, rfl, rfl⟩
  refine sq_v rfl (v_assign rfl) rfl ?_
  refine sq_end ?_
  refine qs_n ?_
  refine wp_sc ?_
  refine wp_sq ?_
  refine sq_v rfl (v_fieldAddr fd_28_0 ty_24 (by decide) rfl) rfl ?_
  refine sq_v rfl (v_loadB 1 ty_24 rfl rfl rfl) rfl ?_
  refine sq_v rfl (v_fieldAddr fd_28_0 ty_24 (by decide) rfl) rfl ?_
  refine sq_v rfl (v_loadB 0 ty_24 rfl rfl rfl) rfl ?_
  refine sq_u rfl (x_callv rfl en_203 (fun w s => ct_i_equalInts _ _ _ _ w (r1.mono (s.get 2 rfl)) (r1'.mono (s.get 2 rfl)))) rfl ?_
  refine sq_bd 9 rfl (fun c9 => ?_) (fun c9 => ?_)
  · refine sq_v rfl (v_move rfl) rfl ?_
    refine sq_v rfl (v_fieldAddr fd_28_1 ty_24 (by decide) rfl) rfl ?_
    refine sq_v rfl (v_loadB 1 ty_24 rfl rfl rfl) rfl ?_
    refine sq_v rfl (v_fieldAddr fd_28_1 ty_24 (by decide) rfl) rfl ?_
    refine sq_v rfl (v_loadB 0 ty_24 rfl rfl rfl) rfl ?_
    refine sq_u rfl (x_callv rfl en_203 (fun w s => ct_i_equalInts _ _ _ _ w (r2.mono (s.get 2 rfl)) (r2'.mono (s.get 2 rfl)))) rfl ?_
    refine sq_v rfl (v_pickt rfl rfl) rfl ?_
    refine sq_bd 16 rfl (fun c16 => ?_) (fun c16 => ?_)
    · refine sq_v rfl (v_move rfl) rfl ?_
      refine sq_v rfl (v_fieldAddr fd_28_2 ty_24 (by decide) rfl) rfl ?_
      refine sq_v rfl (v_loadB 1 ty_24 rfl rfl rfl) rfl ?_
      refine sq_v rfl (v_fieldAddr fd_28_2 ty_24 (by decide) rfl) rfl ?_
      refine sq_v rfl (v_loadB 0 ty_24 rfl rfl rfl) rfl ?_
      refine sq_u rfl (x_callv rfl en_203 (fun w s => ct_i_equalInts _ _ _ _ w (r3.mono (s.get 2 rfl)) (r3'.mono (s.get 2 rfl)))) rfl ?_
      refine sq_v rfl (v_pickt rfl rfl) rfl ?_
      refine sq_v rfl (v_assign rfl) rfl ?_
      refine sq_end ?_
      refine qs_n ?_
      refine wp_rt ?_
      exact qs_ret1 rfl rfl (fin_q (i := 2) rfl (same_of (by simp [sameP, *])))
    · refine sq_v rfl (v_move rfl) rfl ?_
      refine sq_s rfl rfl ?_
      refine sq_s rfl rfl ?_
      refine sq_s rfl rfl ?_
      refine sq_s rfl rfl ?_
      refine sq_s rfl rfl ?_
      refine sq_v rfl (v_pickf rfl rfl) rfl ?_
      refine sq_v rfl (v_assign rfl) rfl ?_
      refine sq_end ?_
      refine qs_n ?_
      refine wp_rt ?_
      exact qs_ret1 rfl rfl (fin_q (i := 2) rfl (same_of (by simp [sameP, *])))
  · refine sq_v rfl (v_move rfl) rfl ?_
    refine sq_s rfl rfl ?_
    refine sq_s rfl rfl ?_
    refine sq_s rfl rfl ?_
    refine sq_s rfl rfl ?_
    refine sq_s rfl rfl ?_
    refine sq_v rfl (v_pickf rfl rfl) rfl ?_
    refine sq_v rfl (v_move rfl) rfl ?_
    refine sq_s rfl rfl ?_
    refine sq_s rfl rfl ?_
    refine sq_s rfl rfl ?_
    refine sq_s rfl rfl ?_
    refine sq_s rfl rfl ?_
    refine sq_v rfl (v_pickf rfl rfl) rfl ?_
    refine sq_v rfl (v_assign rfl) rfl ?_
    refine sq_end ?_
    refine qs_n ?_
    refine wp_rt ?_
    exact qs_ret1 rfl rfl (fin_q (i := 2) rfl (same_of (by simp [sameP, *])))
theorem ct_s_l06Same (t u : Ten) (a b c a' b' c' : Value) (w : World) (r1 : IntsR t.l a (hp w)) (r2 : IntsR t.d b (hp w)) (r3 : IntsR t.x c (hp w)) (r1' : IntsR u.l a' (hp w)) (r2' : IntsR u.d b' (hp w)) (r3' : IntsR u.x c' (hp w)) :
    Calls Try.prog 112 [tenV a b c, tenV a' b' c'].toArray w (RetV w (.bool (sameT t u))) := by
  refine calls_in Try.func112 rfl Try.ntmps112 rfl (Sat.start w) ?_
  have hle0 := r1.le
  have hle1 := r2.le
  have hle2 := r3.le
  have hle3 := r1'.le
  have hle4 := r2'.le
  have hle5 := r3'.le
  refine wp_sc ?_
  refine wp_sq ?_
  refine sq_x rfl (x_box rfl rfl) rfl ?_; rintro _ _ ⟨b2, rfl, rfl⟩
  refine sq_x rfl (x_box rfl rfl) rfl ?_; rintro _ _ ⟨b3, rfl, rfl⟩
  refine sq_v rfl (v_assign rfl) rfl ?_
  refine sq_end ?_
  refine qs_n ?_
  refine wp_sc ?_
  refine wp_sq ?_
  refine sq_v rfl (v_fieldAddr fd_28_0 ty_24 (by decide) rfl) rfl ?_
  refine sq_v rfl (v_loadB 1 ty_24 rfl rfl rfl) rfl ?_
  refine sq_v rfl (v_fieldAddr fd_28_0 ty_24 (by decide) rfl) rfl ?_
  refine sq_v rfl (v_loadB 0 ty_24 rfl rfl rfl) rfl ?_
  refine sq_u rfl (x_callv rfl en_202 (fun w s => ct_s_l06Equal _ _ _ _ w (r1.mono (s.get 2 rfl)) (r1'.mono (s.get 2 rfl)))) rfl ?_
  refine sq_bd 9 rfl (fun c9 => ?_) (fun c9 => ?_)
  · refine sq_v rfl (v_move rfl) rfl ?_
    refine sq_v rfl (v_fieldAddr fd_28_1 ty_24 (by decide) rfl) rfl ?_
    refine sq_v rfl (v_loadB 1 ty_24 rfl rfl rfl) rfl ?_
    refine sq_v rfl (v_fieldAddr fd_28_1 ty_24 (by decide) rfl) rfl ?_
    refine sq_v rfl (v_loadB 0 ty_24 rfl rfl rfl) rfl ?_
    refine sq_u rfl (x_callv rfl en_202 (fun w s => ct_s_l06Equal _ _ _ _ w (r2.mono (s.get 2 rfl)) (r2'.mono (s.get 2 rfl)))) rfl ?_
    refine sq_v rfl (v_pickt rfl rfl) rfl ?_
    refine sq_bd 16 rfl (fun c16 => ?_) (fun c16 => ?_)
    · refine sq_v rfl (v_move rfl) rfl ?_
      refine sq_v rfl (v_fieldAddr fd_28_2 ty_24 (by decide) rfl) rfl ?_
      refine sq_v rfl (v_loadB 1 ty_24 rfl rfl rfl) rfl ?_
      refine sq_v rfl (v_fieldAddr fd_28_2 ty_24 (by decide) rfl) rfl ?_
      refine sq_v rfl (v_loadB 0 ty_24 rfl rfl rfl) rfl ?_
      refine sq_u rfl (x_callv rfl en_202 (fun w s => ct_s_l06Equal _ _ _ _ w (r3.mono (s.get 2 rfl)) (r3'.mono (s.get 2 rfl)))) rfl ?_
      refine sq_v rfl (v_pickt rfl rfl) rfl ?_
      refine sq_v rfl (v_assign rfl) rfl ?_
      refine sq_end ?_
      refine qs_n ?_
      refine wp_rt ?_
      exact qs_ret1 rfl rfl (fin_q (i := 2) rfl (same_of (by simp [sameP, *])))
    · refine sq_v rfl (v_move rfl) rfl ?_
      refine sq_s rfl rfl ?_
      refine sq_s rfl rfl ?_
      refine sq_s rfl rfl ?_
      refine sq_s rfl rfl ?_
      refine sq_s rfl rfl ?_
      refine sq_v rfl (v_pickf rfl rfl) rfl ?_
      refine sq_v rfl (v_assign rfl) rfl ?_
      refine sq_end ?_
      refine qs_n ?_
      refine wp_rt ?_
      exact qs_ret1 rfl rfl (fin_q (i := 2) rfl (same_of (by simp [sameP, *])))
  · refine sq_v rfl (v_move rfl) rfl ?_
    refine sq_s rfl rfl ?_
    refine sq_s rfl rfl ?_
    refine sq_s rfl rfl ?_
    refine sq_s rfl rfl ?_
    refine sq_s rfl rfl ?_
    refine sq_v rfl (v_pickf rfl rfl) rfl ?_
    refine sq_v rfl (v_move rfl) rfl ?_
    refine sq_s rfl rfl ?_
    refine sq_s rfl rfl ?_
    refine sq_s rfl rfl ?_
    refine sq_s rfl rfl ?_
    refine sq_s rfl rfl ?_
    refine sq_v rfl (v_pickf rfl rfl) rfl ?_
    refine sq_v rfl (v_assign rfl) rfl ?_
    refine sq_end ?_
    refine qs_n ?_
    refine wp_rt ?_
    exact qs_ret1 rfl rfl (fin_q (i := 2) rfl (same_of (by simp [sameP, *])))
noncomputable def sameB (k p n : Int) (t u : Ten) : Bool := tensorB k p n t.l t.d t.x && tensorB k p n u.l u.d u.x && sameT (sortR k p n t) (sortR k p n u)
set_option maxHeartbeats 2000000 in
theorem ct_s_SameTensor (k p n : Int) (t u : Ten) (a b c a' b' c' : Value) (w : World) (r1 : IntsR t.l a (hp w)) (r2 : IntsR t.d b (hp w)) (r3 : IntsR t.x c (hp w)) (r1' : IntsR u.l a' (hp w)) (r2' : IntsR u.d b' (hp w)) (r3' : IntsR u.x c' (hp w)) :
    Calls Try.prog 49 [ringV k p n, tenV a b c, tenV a' b' c'].toArray w (RetV w (.bool (sameB k p n t u))) := by
  refine calls_in Try.func49 rfl Try.ntmps49 rfl (Sat.start w) ?_
  have hle0 := r1.le
  have hle1 := r2.le
  have hle2 := r3.le
  have hle3 := r1'.le
  have hle4 := r2'.le
  have hle5 := r3'.le
  refine wp_sc ?_
  refine wp_sq ?_
  refine sq_x rfl (x_box rfl rfl) rfl ?_; rintro _ _ ⟨b3, rfl, rfl⟩
  refine sq_x rfl (x_box rfl rfl) rfl ?_; rintro _ _ ⟨b4, rfl, rfl⟩
  refine sq_x rfl (x_box rfl rfl) rfl ?_; rintro _ _ ⟨b5, rfl, rfl⟩
  refine sq_v rfl (v_assign rfl) rfl ?_
  refine sq_end ?_
  refine qs_n ?_
  refine wp_sc ?_
  refine wp_rj 18 [(0, true), (1, true), (2, false), (3, true), (4, true), (5, true), (6, false), (7, true), (8, true), (9, true), (10, true), (12, true), (13, true), (11, false), (14, false), (15, false), (16, true), (17, true)] mixed_ok (by kernel_rfl) ?_
  refine rj_v rfl rfl (v_loadNB 2 ty_30 rfl rfl rfl rfl) rfl ?_
  refine rj_v rfl rfl (v_loadNB 1 ty_28 rfl rfl rfl rfl) rfl ?_
  refine rj_u rfl rfl (x_callv rfl en_69 (fun w s => ct_s_TensorOk _ _ _ _ _ _ _ _ _ w (r1.mono (s.get 3 rfl)) (r2.mono (s.get 3 rfl)) (r3.mono (s.get 3 rfl)))) rfl ?_
  refine rj_bb 9 rfl (fun c9 => ?_) (fun c9 => ?_)
  · refine rj_v rfl rfl (v_move rfl) rfl ?_
    refine rj_v rfl rfl (v_loadNB 2 ty_30 rfl rfl rfl rfl) rfl ?_
    refine rj_v rfl rfl (v_loadNB 0 ty_28 rfl rfl rfl rfl) rfl ?_
    refine rj_u rfl rfl (x_callv rfl en_69 (fun w s => ct_s_TensorOk _ _ _ _ _ _ _ _ _ w (r1'.mono (s.get 3 rfl)) (r2'.mono (s.get 3 rfl)) (r3'.mono (s.get 3 rfl)))) rfl ?_
    refine rj_v rfl rfl (v_pickt rfl rfl) rfl ?_
    refine rj_bb 14 rfl (fun c14 => ?_) (fun c14 => ?_)
    · refine rj_v rfl rfl (v_move rfl) rfl ?_
      refine rj_v rfl rfl (v_loadNB 2 ty_30 rfl rfl rfl rfl) rfl ?_
      refine rj_v rfl rfl (v_loadNB 1 ty_28 rfl rfl rfl rfl) rfl ?_
      refine rj_v rfl rfl (v_loadNB 2 ty_30 rfl rfl rfl rfl) rfl ?_
      refine rj_v rfl rfl (v_loadNB 0 ty_28 rfl rfl rfl rfl) rfl ?_
      refine rj_x rfl rfl (x_call rfl en_51 (fun w s => ct_s_SortTensor _ _ _ _ _ _ _ w (r1.mono (s.get 3 rfl)) (r2.mono (s.get 3 rfl)) (r3.mono (s.get 3 rfl)))) rfl ?_; rintro _ h18 ⟨va18, vb18, vc18, rfl, o18⟩
      refine rj_x rfl rfl (x_call rfl en_51 (fun w s => ct_s_SortTensor _ _ _ _ _ _ _ w (r1'.mono (s.get 4 rfl)) (r2'.mono (s.get 4 rfl)) (r3'.mono (s.get 4 rfl)))) rfl ?_; rintro _ h21 ⟨va21, vb21, vc21, rfl, o21⟩
      refine rj_u rfl rfl (x_callv rfl en_112 (fun w s => ct_s_l06Same _ _ _ _ _ _ _ _ w (o18.toR.1.mono (s.get 1 rfl)) (o18.toR.2.1.mono (s.get 1 rfl)) (o18.toR.2.2.mono (s.get 1 rfl)) (o21.toR.1.mono (s.get 0 rfl)) (o21.toR.2.1.mono (s.get 0 rfl)) (o21.toR.2.2.mono (s.get 0 rfl)))) rfl ?_
      refine rj_v rfl rfl (v_pickt rfl rfl) rfl ?_
      refine rj_v rfl rfl (v_assign rfl) rfl ?_
      refine rj_end ?_
      refine qs_n ?_
      refine wp_rt ?_
      exact qs_ret1 rfl rfl (fin_q (i := 5) rfl (by simp [sameB, *]))
    · refine rj_v rfl rfl (v_move rfl) rfl ?_
      refine rj_s rfl rfl rfl ?_
      refine rj_s rfl rfl rfl ?_
      refine rj_s rfl rfl rfl ?_
      refine rj_s rfl rfl rfl ?_
      refine rj_fs rfl rfl rfl ?_
      refine rj_fs rfl rfl rfl ?_
      refine rj_fs rfl rfl rfl ?_
      refine rj_v rfl rfl (v_pickf rfl rfl) rfl ?_
      refine rj_v rfl rfl (v_assign rfl) rfl ?_
      refine rj_end ?_
      refine qs_n ?_
      refine wp_rt ?_
      exact qs_ret1 rfl rfl (fin_q (i := 3) rfl (by simp [sameB, *]))
  · refine rj_v rfl rfl (v_move rfl) rfl ?_
    refine rj_s rfl rfl rfl ?_
    refine rj_s rfl rfl rfl ?_
    refine rj_fs rfl rfl rfl ?_
    refine rj_v rfl rfl (v_pickf rfl rfl) rfl ?_
    refine rj_v rfl rfl (v_move rfl) rfl ?_
    refine rj_s rfl rfl rfl ?_
    refine rj_s rfl rfl rfl ?_
    refine rj_s rfl rfl rfl ?_
    refine rj_s rfl rfl rfl ?_
    refine rj_fs rfl rfl rfl ?_
    refine rj_fs rfl rfl rfl ?_
    refine rj_fs rfl rfl rfl ?_
    refine rj_v rfl rfl (v_pickf rfl rfl) rfl ?_
    refine rj_v rfl rfl (v_assign rfl) rfl ?_
    refine rj_end ?_
    refine qs_n ?_
    refine wp_rt ?_
    exact qs_ret1 rfl rfl (fin_q (i := 3) rfl (by simp [sameB, *]))
set_option maxHeartbeats 2000000 in
theorem ct_i_SameTensor (k p n : Int) (t u : Ten) (a b c a' b' c' : Value) (w : World) (r1 : IntsR t.l a (hp w)) (r2 : IntsR t.d b (hp w)) (r3 : IntsR t.x c (hp w)) (r1' : IntsR u.l a' (hp w)) (r2' : IntsR u.d b' (hp w)) (r3' : IntsR u.x c' (hp w)) :
    Calls Try.prog 50 [ringV k p n, tenV a b c, tenV a' b' c'].toArray w (RetV w (.bool (sameB k p n t u))) := by
  refine calls_in Try.func50 rfl Try.ntmps50 rfl (Sat.start w) ?_
  have hle0 := r1.le
  have hle1 := r2.le
  have hle2 := r3.le
  have hle3 := r1'.le
  have hle4 := r2'.le
  have hle5 := r3'.le
  refine wp_sc ?_
  refine wp_sq ?_
  refine sq_x rfl (x_box rfl rfl) rfl ?_; rintro _ _ ⟨b3, rfl, rfl⟩
  refine sq_x rfl (x_box rfl rfl) rfl ?_; rintro _ _ ⟨b4, rfl, rfl⟩
  refine sq_x rfl (x_box rfl rfl) rfl ?_; rintro _ _ ⟨b5, rfl, rfl⟩
  refine sq_v rfl (v_assign rfl) rfl ?_
  refine sq_end ?_
  refine qs_n ?_
  refine wp_sc ?_
  refine wp_rj 18 [(0, true), (1, true), (2, false), (3, true), (4, true), (5, true), (6, false), (7, true), (8, true), (9, true), (10, true), (12, true), (13, true), (11, false), (14, false), (15, false), (16, true), (17, true)] mixed_ok (by kernel_rfl) ?_
  refine rj_v rfl rfl (v_loadNB 2 ty_30 rfl rfl rfl rfl) rfl ?_
  refine rj_v rfl rfl (v_loadNB 1 ty_28 rfl rfl rfl rfl) rfl ?_
  refine rj_u rfl rfl (x_callv rfl en_71 (fun w s => ct_i_TensorOk _ _ _ _ _ _ _ _ _ w (r1.mono (s.get 3 rfl)) (r2.mono (s.get 3 rfl)) (r3.mono (s.get 3 rfl)))) rfl ?_
  refine rj_bb 9 rfl (fun c9 => ?_) (fun c9 => ?_)
  · refine rj_v rfl rfl (v_move rfl) rfl ?_
    refine rj_v rfl rfl (v_loadNB 2 ty_30 rfl rfl rfl rfl) rfl ?_
    refine rj_v rfl rfl (v_loadNB 0 ty_28 rfl rfl rfl rfl) rfl ?_
    refine rj_u rfl rfl (x_callv rfl en_71 (fun w s => ct_i_TensorOk _ _ _ _ _ _ _ _ _ w (r1'.mono (s.get 3 rfl)) (r2'.mono (s.get 3 rfl)) (r3'.mono (s.get 3 rfl)))) rfl ?_
    refine rj_v rfl rfl (v_pickt rfl rfl) rfl ?_
    refine rj_bb 14 rfl (fun c14 => ?_) (fun c14 => ?_)
    · refine rj_v rfl rfl (v_move rfl) rfl ?_
      refine rj_v rfl rfl (v_loadNB 2 ty_30 rfl rfl rfl rfl) rfl ?_
      refine rj_v rfl rfl (v_loadNB 1 ty_28 rfl rfl rfl rfl) rfl ?_
      refine rj_v rfl rfl (v_loadNB 2 ty_30 rfl rfl rfl rfl) rfl ?_
      refine rj_v rfl rfl (v_loadNB 0 ty_28 rfl rfl rfl rfl) rfl ?_
      refine rj_x rfl rfl (x_call rfl en_52 (fun w s => ct_i_SortTensor _ _ _ _ _ _ _ w (r1.mono (s.get 3 rfl)) (r2.mono (s.get 3 rfl)) (r3.mono (s.get 3 rfl)))) rfl ?_; rintro _ h18 ⟨va18, vb18, vc18, rfl, o18⟩
      refine rj_x rfl rfl (x_call rfl en_52 (fun w s => ct_i_SortTensor _ _ _ _ _ _ _ w (r1'.mono (s.get 4 rfl)) (r2'.mono (s.get 4 rfl)) (r3'.mono (s.get 4 rfl)))) rfl ?_; rintro _ h21 ⟨va21, vb21, vc21, rfl, o21⟩
      refine rj_u rfl rfl (x_callv rfl en_113 (fun w s => ct_i_equalTensors _ _ _ _ _ _ _ _ w (o18.toR.1.mono (s.get 1 rfl)) (o18.toR.2.1.mono (s.get 1 rfl)) (o18.toR.2.2.mono (s.get 1 rfl)) (o21.toR.1.mono (s.get 0 rfl)) (o21.toR.2.1.mono (s.get 0 rfl)) (o21.toR.2.2.mono (s.get 0 rfl)))) rfl ?_
      refine rj_v rfl rfl (v_pickt rfl rfl) rfl ?_
      refine rj_v rfl rfl (v_assign rfl) rfl ?_
      refine rj_end ?_
      refine qs_n ?_
      refine wp_rt ?_
      exact qs_ret1 rfl rfl (fin_q (i := 5) rfl (by simp [sameB, *]))
    · refine rj_v rfl rfl (v_move rfl) rfl ?_
      refine rj_s rfl rfl rfl ?_
      refine rj_s rfl rfl rfl ?_
      refine rj_s rfl rfl rfl ?_
      refine rj_s rfl rfl rfl ?_
      refine rj_fs rfl rfl rfl ?_
      refine rj_fs rfl rfl rfl ?_
      refine rj_fs rfl rfl rfl ?_
      refine rj_v rfl rfl (v_pickf rfl rfl) rfl ?_
      refine rj_v rfl rfl (v_assign rfl) rfl ?_
      refine rj_end ?_
      refine qs_n ?_
      refine wp_rt ?_
      exact qs_ret1 rfl rfl (fin_q (i := 3) rfl (by simp [sameB, *]))
  · refine rj_v rfl rfl (v_move rfl) rfl ?_
    refine rj_s rfl rfl rfl ?_
    refine rj_s rfl rfl rfl ?_
    refine rj_fs rfl rfl rfl ?_
    refine rj_v rfl rfl (v_pickf rfl rfl) rfl ?_
    refine rj_v rfl rfl (v_move rfl) rfl ?_
    refine rj_s rfl rfl rfl ?_
    refine rj_s rfl rfl rfl ?_
    refine rj_s rfl rfl rfl ?_
    refine rj_s rfl rfl rfl ?_
    refine rj_fs rfl rfl rfl ?_
    refine rj_fs rfl rfl rfl ?_
    refine rj_fs rfl rfl rfl ?_
    refine rj_v rfl rfl (v_pickf rfl rfl) rfl ?_
    refine rj_v rfl rfl (v_assign rfl) rfl ?_
    refine rj_end ?_
    refine qs_n ?_
    refine wp_rt ?_
    exact qs_ret1 rfl rfl (fin_q (i := 3) rfl (by simp [sameB, *]))
end Go.Proofs.Ytikeobneipjfnaa
namespace Go.Proofs.Ytikeobneipjfnaa
set_option maxRecDepth 100000
open Go.ChangeShapes Go.WideShapes Go.ChangeAt Go.RowKit
set_option maxHeartbeats 4000000 in
theorem ct_l_FnExactSameTensor (k p n : Int) (t u : Ten) (a b c a' b' c' : Value) (w : World) (r1 : IntsR t.l a (hp w)) (r2 : IntsR t.d b (hp w)) (r3 : IntsR t.x c (hp w)) (r1' : IntsR u.l a' (hp w)) (r2' : IntsR u.d b' (hp w)) (r3' : IntsR u.x c' (hp w)) :
    Calls Try.prog 8 [ringV k p n, tenV a b c, tenV a' b' c'].toArray w (RetV w (.bool true)) := by
  have htn := tenSize_nn t
  have hun := tenSize_nn u
  refine calls_in Try.func8 rfl Try.ntmps8 rfl (Sat.start w) ?_
  have hle0 := r1.le
  have hle1 := r2.le
  have hle2 := r3.le
  have hle3 := r1'.le
  have hle4 := r2'.le
  have hle5 := r3'.le
  refine wp_sc ?_
  refine wp_sq ?_
  refine sq_x rfl (x_box rfl rfl) rfl ?_; rintro _ _ ⟨b3, rfl, rfl⟩
  refine sq_x rfl (x_box rfl rfl) rfl ?_; rintro _ _ ⟨b4, rfl, rfl⟩
  refine sq_x rfl (x_box rfl rfl) rfl ?_; rintro _ _ ⟨b5, rfl, rfl⟩
  refine sq_v rfl (v_assign rfl) rfl ?_
  refine sq_end ?_
  refine qs_n ?_
  refine wp_sc ?_
  refine wp_sq ?_
  refine sq_v rfl (v_assign rfl) rfl ?_
  refine sq_end ?_
  refine qs_n ?_
  refine wp_sc ?_
  refine wp_sq ?_
  refine sq_v rfl (v_loadNB 1 ty_26 rfl rfl rfl rfl) rfl ?_
  refine sq_v rfl (v_move rfl) rfl ?_
  refine sq_u rfl (x_callv rfl en_15 (fun w s => ct_l_szTensor _ _ _ _ _ w (r1.mono (s.get 3 rfl)) (r2.mono (s.get 3 rfl)) (r3.mono (s.get 3 rfl)) (by first | assumption | exact iota_held _ _ | omega | rfl))) rfl ?_
  refine sq_v rfl (v_assign rfl) rfl ?_
  refine sq_end ?_
  refine qs_n ?_
  refine wp_sc ?_
  refine wp_sc ?_
  refine wp_sq ?_
  refine sq_v rfl (v_move rfl) rfl ?_
  refine sq_v rfl (v_lss rfl rfl) rfl ?_
  refine sq_end ?_
  refine qs_n ?_
  refine wp_cd rfl (fun c16 => ?_) (fun c16 => ?_)
  · refine wp_sc ?_
    refine wp_sq ?_
    refine sq_v rfl (v_assign rfl) rfl ?_
    refine sq_end ?_
    refine qs_n ?_
    refine wp_rt ?_
    refine qs_r ?_
    exact qs_ret1 rfl rfl (fin_v (i := 3) rfl)
  · have hz16 := szV_ge c16
    refine wp_sk ?_
    refine qs_n ?_
    refine wp_sc ?_
    refine wp_sq ?_
    refine sq_v rfl (v_loadNB 0 ty_26 rfl rfl rfl rfl) rfl ?_
    refine sq_v rfl (v_move rfl) rfl ?_
    refine sq_u rfl (x_callv rfl en_15 (fun w s => ct_l_szTensor _ _ _ _ _ w (r1'.mono (s.get 3 rfl)) (r2'.mono (s.get 3 rfl)) (r3'.mono (s.get 3 rfl)) (by first | assumption | exact iota_held _ _ | omega | rfl))) rfl ?_
    refine sq_v rfl (v_assign rfl) rfl ?_
    refine sq_end ?_
    refine qs_n ?_
    refine wp_sc ?_
    refine wp_sc ?_
    refine wp_sq ?_
    refine sq_v rfl (v_move rfl) rfl ?_
    refine sq_v rfl (v_lss rfl rfl) rfl ?_
    refine sq_end ?_
    refine qs_n ?_
    refine wp_cd rfl (fun c21 => ?_) (fun c21 => ?_)
    · refine wp_sc ?_
      refine wp_sq ?_
      refine sq_v rfl (v_assign rfl) rfl ?_
      refine sq_end ?_
      refine qs_n ?_
      refine wp_rt ?_
      refine qs_r ?_
      exact qs_ret1 rfl rfl (fin_v (i := 3) rfl)
    · have hz21 := szV_ge c21
      refine wp_sk ?_
      refine qs_n ?_
      refine wp_sc ?_
      refine wp_rj 8 [(0, true), (2, true), (4, true), (1, false), (3, false), (5, false), (6, false), (7, true)] mixed_ok (by kernel_rfl) ?_
      refine rj_v rfl rfl (v_loadNB 2 ty_23 rfl rfl rfl rfl) rfl ?_
      refine rj_v rfl rfl (v_loadNB 1 ty_26 rfl rfl rfl rfl) rfl ?_
      refine rj_v rfl rfl (v_loadNB 0 ty_26 rfl rfl rfl rfl) rfl ?_
      refine rj_u rfl rfl (x_callv rfl en_17 (fun w s => ct_l_toRing _ _ _ w)) rfl ?_
      refine rj_x rfl rfl (x_call rfl en_18 (fun w s => ct_L_toTensor _ _ _ _ w (r1.mono (s.get 3 rfl)) (r2.mono (s.get 3 rfl)) (r3.mono (s.get 3 rfl)) (by first | assumption | exact iota_held _ _ | omega | rfl))) rfl ?_; rintro _ h25 ⟨va25, vb25, vc25, rfl, o25⟩
      refine rj_x rfl rfl (x_call rfl en_18 (fun w s => ct_L_toTensor _ _ _ _ w (r1'.mono (s.get 4 rfl)) (r2'.mono (s.get 4 rfl)) (r3'.mono (s.get 4 rfl)) (by first | assumption | exact iota_held _ _ | omega | rfl))) rfl ?_; rintro _ h27 ⟨va27, vb27, vc27, rfl, o27⟩
      refine rj_u rfl rfl (x_callv rfl en_49 (fun w s => ct_s_SameTensor _ _ _ _ _ _ _ _ _ _ _ w (o25.toR.1.mono (s.get 1 rfl)) (o25.toR.2.1.mono (s.get 1 rfl)) (o25.toR.2.2.mono (s.get 1 rfl)) (o27.toR.1.mono (s.get 0 rfl)) (o27.toR.2.1.mono (s.get 0 rfl)) (o27.toR.2.2.mono (s.get 0 rfl)))) rfl ?_
      refine rj_v rfl rfl (v_assign rfl) rfl ?_
      refine rj_end ?_
      refine qs_n ?_
      refine wp_sc ?_
      refine wp_sq ?_
      refine sq_v rfl (v_loadNB 3 ty_26 rfl rfl rfl rfl) rfl ?_
      refine sq_x rfl (x_call rfl en_18 (fun w s => ct_L_toTensor _ _ _ _ w (r1.mono (s.get 5 rfl)) (r2.mono (s.get 5 rfl)) (r3.mono (s.get 5 rfl)) (by first | assumption | exact iota_held _ _ | omega | rfl))) rfl ?_; rintro _ h30 ⟨va30, vb30, vc30, rfl, o30⟩
      refine sq_x rfl (x_alloc ty_28 rfl) rfl ?_; rintro _ _ ⟨b9, rfl, rfl⟩
      refine sq_m 0 rfl rfl (m_store 0 ty_28 rfl rfl rfl rfl (by simp [o30.toR.1.sl.one, o30.toR.2.1.sl.one, o30.toR.2.2.sl.one]) rfl (Nat.le_of_ble_eq_true rfl)) rfl ?_; rintro _ _ ⟨rfl, rfl⟩
      refine sq_end ?_
      refine qs_n ?_
      refine wp_sc ?_
      refine wp_sq ?_
      refine sq_v rfl (v_loadNB 4 ty_26 rfl rfl rfl rfl) rfl ?_
      refine sq_x rfl (x_call rfl en_18 (fun w s => ct_L_toTensor _ _ _ _ w (r1'.mono (s.get 7 rfl)) (r2'.mono (s.get 7 rfl)) (r3'.mono (s.get 7 rfl)) (by first | assumption | exact iota_held _ _ | omega | rfl))) rfl ?_; rintro _ h32 ⟨va32, vb32, vc32, rfl, o32⟩
      refine sq_x rfl (x_alloc ty_28 rfl) rfl ?_; rintro _ _ ⟨b10, rfl, rfl⟩
      refine sq_m 0 rfl rfl (m_store 0 ty_28 rfl rfl rfl rfl (by simp [o32.toR.1.sl.one, o32.toR.2.1.sl.one, o32.toR.2.2.sl.one]) rfl (Nat.le_of_ble_eq_true rfl)) rfl ?_; rintro _ _ ⟨rfl, rfl⟩
      refine sq_end ?_
      refine qs_n ?_
      refine wp_sc ?_
      refine wp_rj 6 [(0, true), (2, true), (3, true), (1, false), (4, false), (5, true)] mixed_ok (by kernel_rfl) ?_
      refine rj_v rfl rfl (v_loadNB 8 ty_23 rfl rfl rfl rfl) rfl ?_
      refine rj_v rfl rfl (v_loadNB 2 ty_28 rfl rfl rfl rfl) rfl ?_
      refine rj_v rfl rfl (v_loadNB 0 ty_28 rfl rfl rfl rfl) rfl ?_
      refine rj_u rfl rfl (x_callv rfl en_17 (fun w s => ct_l_toRing _ _ _ w)) rfl ?_
      refine rj_u rfl rfl (x_callv rfl en_50 (fun w s => ct_i_SameTensor _ _ _ _ _ _ _ _ _ _ _ w (o30.toR.1.mono (s.get 3 rfl)) (o30.toR.2.1.mono (s.get 3 rfl)) (o30.toR.2.2.mono (s.get 3 rfl)) (o32.toR.1.mono (s.get 1 rfl)) (o32.toR.2.1.mono (s.get 1 rfl)) (o32.toR.2.2.mono (s.get 1 rfl)))) rfl ?_
      refine rj_v rfl rfl (v_assign rfl) rfl ?_
      refine rj_end ?_
      refine qs_n ?_
      refine wp_sc ?_
      refine wp_sc ?_
      refine wp_sq ?_
      refine sq_v rfl (v_move rfl) rfl ?_
      refine sq_v rfl (v_move rfl) rfl ?_
      refine sq_v rfl (v_neqsb Try.underlying4 rfl rfl) rfl ?_
      refine sq_end ?_
      refine qs_n ?_
      refine wp_cf rfl ?_
      refine wp_sk ?_
      refine qs_n ?_
      refine wp_sc ?_
      refine wp_sc ?_
      refine wp_rj 5 [(0, true), (1, true), (2, false), (3, false), (4, true)] mixed_ok (by kernel_rfl) ?_
      refine rj_v rfl rfl (v_loadNB 2 ty_28 rfl rfl rfl rfl) rfl ?_
      refine rj_v rfl rfl (v_loadNB 7 ty_26 rfl rfl rfl rfl) rfl ?_
      refine rj_x rfl rfl (x_call rfl en_18 (fun w s => ct_L_toTensor _ _ _ _ w (r1.mono (s.get 9 rfl)) (r2.mono (s.get 9 rfl)) (r3.mono (s.get 9 rfl)) (by first | assumption | exact iota_held _ _ | omega | rfl))) rfl ?_; rintro _ h43 ⟨va43, vb43, vc43, rfl, o43⟩
      refine rj_u rfl rfl (x_callv rfl en_21 (fun w s => ct_l_eqTensor _ _ _ _ _ _ _ w (o30.toR.1.mono (s.get 4 rfl)) (o30.toR.2.1.mono (s.get 4 rfl)) (o30.toR.2.2.mono (s.get 4 rfl)) (o43.toR.1.mono (s.get 0 rfl)) (o43.toR.2.1.mono (s.get 0 rfl)) (o43.toR.2.2.mono (s.get 0 rfl)))) rfl ?_
      refine rj_v rfl rfl (v_not rfl) rfl ?_
      refine rj_end ?_
      refine qs_n ?_
      refine wp_cf rfl ?_
      refine wp_sk ?_
      refine qs_n ?_
      refine wp_sc ?_
      refine wp_sc ?_
      refine wp_rj 5 [(0, true), (1, true), (2, false), (3, false), (4, true)] mixed_ok (by kernel_rfl) ?_
      refine rj_v rfl rfl (v_loadNB 1 ty_28 rfl rfl rfl rfl) rfl ?_
      refine rj_v rfl rfl (v_loadNB 7 ty_26 rfl rfl rfl rfl) rfl ?_
      refine rj_x rfl rfl (x_call rfl en_18 (fun w s => ct_L_toTensor _ _ _ _ w (r1'.mono (s.get 10 rfl)) (r2'.mono (s.get 10 rfl)) (r3'.mono (s.get 10 rfl)) (by first | assumption | exact iota_held _ _ | omega | rfl))) rfl ?_; rintro _ h48 ⟨va48, vb48, vc48, rfl, o48⟩
      refine rj_u rfl rfl (x_callv rfl en_21 (fun w s => ct_l_eqTensor _ _ _ _ _ _ _ w (o32.toR.1.mono (s.get 3 rfl)) (o32.toR.2.1.mono (s.get 3 rfl)) (o32.toR.2.2.mono (s.get 3 rfl)) (o48.toR.1.mono (s.get 0 rfl)) (o48.toR.2.1.mono (s.get 0 rfl)) (o48.toR.2.2.mono (s.get 0 rfl)))) rfl ?_
      refine rj_v rfl rfl (v_not rfl) rfl ?_
      refine rj_end ?_
      refine qs_n ?_
      refine wp_cf rfl ?_
      refine wp_sk ?_
      refine qs_n ?_
      refine wp_sc ?_
      refine wp_sq ?_
      refine sq_v rfl (v_assign rfl) rfl ?_
      refine sq_end ?_
      refine qs_n ?_
      refine wp_rt ?_
      exact qs_ret1 rfl rfl (fin_v (i := 11) rfl)
set_option maxRecDepth 100000 in
theorem lifted_fnExactSameTensor (os : Os) (started : os.Started) (H : Type) (enc : TypeId × Value → H) :
    ReturnsInHanded {} Try.checked os 8 .any (Rows.fnExactSameTensorSpec.pre6 enc Try.prog Try.f8 Rows.fnExactSameTensorRow.domain false) (Rows.fnExactSameTensorSpec.post enc Try.prog Try.f8 false true false false) := by
  refine returnsInHanded_of_change (C := Try.checked) lift_own started (by kernel_rfl) Try.func8
    (ChangeSpec.witness6 (enc := enc) (C := Try.checked) false ⟨#[], #[.agg #[.int .i64 0, .int .i64 0, .int .i64 0], .agg #[.slice none 0 0, .slice none 0 0, .slice none 0 0], .agg #[.slice none 0 0, .slice none 0 0, .slice none 0 0]], []⟩ 8 (by kernel_rfl) (by kernel_rfl) (by kernel_rfl) (by kernel_rfl)) ?_
  intro W base args ds gs before hval0 hW hcnd _
  have hval : ∀ (j : Nat) t v, Try.f8.params[j]? = some t → args[j]? = some v → Value.okWide Try.prog W .any base t v := hval0
  have hW' := hW
  obtain ⟨p, q, hA0, hV, rfl, hfz, hnd⟩ := hW
  have hlt : ∀ x ∈ p, x.block < W.heap.size := fun x hx => by simpa using hW'.lt x (by simp [hx])
  have hA : DataW.TrodAll enc Try.prog W 0 (fun _ => true) true Try.f8.params.toList args.toList ds p := hA0
  have hA1 := hA
  rw [Try.params8] at hA1 hval
  obtain ⟨v0, vs0, d0, ds0, p0, q0, hargs, rfl, rfl, h0, r0⟩ := trodAll_cons hA1
  obtain ⟨v1, vs1, d1, ds1, p1, q1, rfl, rfl, rfl, h1, r1⟩ := trodAll_cons r0
  obtain ⟨v2, vs2, d2, ds2, p2, q2, rfl, rfl, rfl, h2, r2⟩ := trodAll_cons r1
  obtain ⟨rfl, rfl, rfl⟩ := trodAll_nil r2
  obtain rfl : args = #[v0, v1, v2] := by cases args; simp_all
  obtain ⟨rfl, rfl⟩ := trodVars_none hV
  have k0 := hval 0 23 v0 rfl rfl
  have k1 := hval 1 26 v1 rfl rfl
  have k2 := hval 2 26 v2 rfl rfl
  obtain ⟨x0, x1, x2, rfl, _⟩ := arg_ring k0 h0
  obtain ⟨t, a, b, c, rfl, s1, s2, s3⟩ := arg_tensor k1 h1
  obtain ⟨u, a', b', c', rfl, s1', s2', s3'⟩ := arg_tensor k2 h2
  refine (show Calls Try.prog 8 _ W (RetV W (.bool true)) from ct_l_FnExactSameTensor x0 x1 x2 t u a b c a' b' c' W s1 s2 s3 s1' s2' s3').mono fun e W' ⟨he, hu⟩ => ?_
  subst he
  refine ⟨_, rfl, _, _, _, [], _, [], hW', trodAll_mk1 (shut_bool Try.underlying4 true), trodAll_below lift_laid hu.below (by kernel_rfl) hA hlt, rfl, hu.below.frame _, fun h => by cases h⟩
set_option maxHeartbeats 4000000 in
theorem joined_fnExactSameTensor : joinedFacts Try.pinned.checked.prog 8 Try.f8 Rows.fnExactSameTensorSpec Rows.fnExactSameTensorRow = true := by
  unfold joinedFacts
  repeat' (with_reducible refine cd_and ?_ ?_)
  all_goals first | with_reducible exact cd_enter | (with_reducible refine cd_lifts' ?_; rfl) | (with_reducible refine cd_make' ?_; rfl) | (as_aux_lemma => kernel_rfl)
theorem named_fnExactSameTensor : Try.pinned.checked.prog.funcNamed Rows.fnExactSameTensorRow.func = some 8 := by kernel_rfl
theorem over_fnExactSameTensor : Rows.fnExactSameTensorRow.holds Try.pinned (OpenSpec.ofChange Rows.fnExactSameTensorSpec) :=
  OpenClaim.holds_of_wide 8 Try.f8 rfl rfl rfl rfl rfl rfl rfl ⟨rfl, rfl, rfl, rfl, rfl⟩ rfl rfl rfl rfl rfl named_fnExactSameTensor Try.func8 joined_fnExactSameTensor
    (of_decide_eq_true (by kernel_rfl)) (by unfold Func.isWrapper; first | (rw [if_pos (by decide +kernel)]; kernel_rfl) | (rw [if_neg (by decide +kernel)]; exact ⟨rfl, rfl⟩))
    (fun os started H enc _ => lifted_fnExactSameTensor os started H enc)
/-- The law FnExactSameTensor holds at every input. -/
theorem proved_fnExactSameTensor : Rows.FnExactSameTensorSaid :=
  over_fnExactSameTensor
#print axioms proved_fnExactSameTensor
end Go.Proofs.Ytikeobneipjfnaa
