/- Contracts of the functions that the law DC reaches, and the law itself, for every input; no condition. -/
import Derived.KernelRfl
import Derived.Test.YtmnjchcoigbngaaGreatProg
import Derived.Test.YtmnjchcoigbngaaGreatRows
import Derived.Test.YtmnjchcoigbngaaGreatDC3
set_option linter.unusedSimpArgs false
set_option linter.unusedVariables false
namespace Go.Proofs.YtmnjchcoigbngaaGreat
open Go Go.Proofs
attribute [local irreducible] mksV
theorem whole_pure (t : Dt) (hk : KI t) (hb : Bd t) : PureC Tryz.prog 40 [(V.agg [(V.sl (List.map cN (t.nd)))])] (V.bool (whB t)) := by
 refine pure_of_Wb true 6 Tryz.func40 s40_ok (by kernel_rfl) (by simp [s40]) (by simp) (by simp) fun hB => ?_
 simp only [bnd_map, bnd_int, bnd_bool, bnd_str, bnd_agg, bnd_pp, bnd_nil, bnd_cons, implies_true, and_true, true_and] at hB
 unfold s40
 dsimp only
 have hp := hk.pos
 have hbn := hb.n
 refine W_seq_regc (fun T H => T 1 = (V.mp 1 1 0 0) ∧ H 1 = (⟨1, true, false, 24, 1, [[(V.sl (List.map cN (t.nd)))]]⟩ : Blk) ∧ H 6 = (⟨0, false, false, 0, 0, []⟩ : Blk) ∧ H 11 = (⟨0, false, false, 0, 0, []⟩ : Blk) ∧ H 14 = (⟨0, false, false, 0, 0, []⟩ : Blk) ∧ True) ?_ ?_
 ·
  unfold r40_0
  refine R_box (i := 1) (n := 0) (m := 1) (cs := [(V.sl (List.map cN (t.nd)))]) rfl (congrArg Blk.ver rfl) (@rfl V (V.agg [(V.sl (List.map cN (t.nd)))])) rfl rfl ?_
  refine R_mv (@rfl V (V.bool false)) ?_
  exact R_nil ⟨rfl, rfl, rfl, rfl, rfl, trivial⟩
 intro T H ⟨t1, h1, h6, h11, h14, _⟩
 refine W_seq_regc (fun T H => T 1 = (V.mp 1 1 0 0) ∧ T 3 = (V.ms 11 1 0 (t.nd.length)) ∧ H 1 = (⟨1, true, false, 24, 1, [[(V.sl (List.map cN (t.nd)))]]⟩ : Blk) ∧ H 6 = (⟨0, false, false, 0, 0, []⟩ : Blk) ∧ H 11 = (⟨1, true, false, 4, 1, (List.map cB (List.replicate t.nd.length false))⟩ : Blk) ∧ H 14 = (⟨0, false, false, 0, 0, []⟩ : Blk) ∧ True) ?_ ?_
 ·
  unfold r40_1
  refine R_fld_mp (o' := 0) t1 h1 (by first | rfl | simp [okB, Blk.own]) rfl ?_
  refine R_load_mp (v := (V.sl (List.map cN (t.nd)))) (@rfl V (V.mp 1 1 0 0)) h1 (by first | rfl | simp [ldB, ldV, Blk.own, V.one]) ?_
  refine R_len (@rfl V (V.sl (List.map cN (t.nd)))) ?_
  refine R_mksm (i := 11) (n := 0) (m := t.nd.length) (q := t.nd.length) (f := cB) (x := false) rfl (congrArg Blk.ver h11) (@rfl V (iV ((t.nd.length : Nat) : Int))) (@rfl V (iV ((t.nd.length : Nat) : Int))) rfl (by first | omega | (simp only [List.length_replicate]; omega) | (simp only [List.length_set, List.length_replicate]; omega)) (by first | omega | (simp only [List.length_replicate]; omega) | (simp only [List.length_set, List.length_replicate]; omega)) (by first | omega | (simp only [List.length_replicate]; omega) | (simp only [List.length_set, List.length_replicate]; omega)) ?_
  refine R_mv (@rfl V (V.ms 11 1 0 (t.nd.length))) ?_
  exact R_nil ⟨t1, rfl, h1, h6, rfl, h14, trivial⟩
 intro T H ⟨t1, t3, h1, h6, h11, h14, _⟩
 refine W_seq_regc (fun T H => T 1 = (V.mp 1 1 0 0) ∧ T 3 = (V.ms 11 1 0 (t.nd.length)) ∧ H 1 = (⟨1, true, false, 24, 1, [[(V.sl (List.map cN (t.nd)))]]⟩ : Blk) ∧ H 6 = (⟨0, false, false, 0, 0, []⟩ : Blk) ∧ H 11 = (⟨1, true, false, 4, 1, (List.map cB ((List.replicate t.nd.length false).set (((0 : Int)).toNat) true))⟩ : Blk) ∧ H 14 = (⟨0, false, false, 0, 0, []⟩ : Blk) ∧ True) ?_ ?_
 ·
  unfold r40_2
  refine R_mv t3 ?_
  refine R_idxI_ms0 (i := (0 : Int)) (@rfl V (V.ms 11 1 0 (t.nd.length))) (@rfl V (iV (0 : Int))) h11 (okB_map (by first | omega | (simp only [List.length_replicate]; omega) | (simp only [List.length_set, List.length_replicate]; omega))) rfl (by first | omega | (simp only [List.length_replicate]; omega) | (simp only [List.length_set, List.length_replicate]; omega)) (by first | omega | (simp only [List.length_replicate]; omega) | (simp only [List.length_set, List.length_replicate]; omega)) ?_
  refine R_store (vs := [(V.bool true)]) (B' := (⟨1, true, false, 4, 1, (List.map cB ((List.replicate t.nd.length false).set (((0 : Int)).toNat) true))⟩ : Blk)) (@rfl V (V.mp 11 1 (((0 : Int)).toNat) 0)) (@rfl V (V.bool true)) rfl h11 (stB_map (x := true) (i := (((0 : Int)).toNat)) (by first | omega | (simp only [List.length_replicate]; omega) | (simp only [List.length_set, List.length_replicate]; omega)) rfl rfl rfl rfl) ?_
  exact R_nil ⟨t1, t3, h1, h6, rfl, h14, trivial⟩
 intro T H ⟨t1, t3, h1, h6, h11, h14, _⟩
 refine W_seq_regc (fun T H => T 1 = (V.mp 1 1 0 0) ∧ T 3 = (V.ms 11 1 0 (t.nd.length)) ∧ T 4 = (V.ms 14 1 0 (1)) ∧ H 1 = (⟨1, true, false, 24, 1, [[(V.sl (List.map cN (t.nd)))]]⟩ : Blk) ∧ H 6 = (⟨0, false, false, 0, 0, []⟩ : Blk) ∧ H 11 = (⟨1, true, false, 4, 1, (List.map cB ((List.replicate t.nd.length false).set (((0 : Int)).toNat) true))⟩ : Blk) ∧ H 14 = (⟨1, true, false, 3, 1, [[(iV (0 : Int))]]⟩ : Blk) ∧ True) ?_ ?_
 ·
  unfold r40_3
  refine R_bslice_own (i := 14) (n := 0) (qs := [(0, (iV (0 : Int)))]) (rows := [[(iV (0 : Int))]]) rfl (congrArg Blk.ver h14) (mcons (congrArg (fun v => (0, v)) (@rfl V (iV (0 : Int)))) rfl) rfl ?_
  refine R_mv (@rfl V (V.ms 14 1 0 (1))) ?_
  exact R_nil ⟨t1, t3, rfl, h1, h6, h11, rfl, trivial⟩
 intro T H ⟨t1, t3, t4, h1, h6, h11, h14, _⟩
 refine W_seq_seq ?_
 refine W_seq_regc (fun T H => T 1 = (V.mp 1 1 0 0) ∧ T 3 = (V.ms 11 1 0 (t.nd.length)) ∧ T 4 = (V.ms 14 1 0 (1)) ∧ T 5 = (iV (0 : Int)) ∧ H 1 = (⟨1, true, false, 24, 1, [[(V.sl (List.map cN (t.nd)))]]⟩ : Blk) ∧ H 6 = (⟨0, false, false, 0, 0, []⟩ : Blk) ∧ H 11 = (⟨1, true, false, 4, 1, (List.map cB ((List.replicate t.nd.length false).set (((0 : Int)).toNat) true))⟩ : Blk) ∧ H 14 = (⟨1, true, false, 3, 1, [[(iV (0 : Int))]]⟩ : Blk) ∧ True) ?_ ?_
 ·
  unfold r40_4
  refine R_mv (@rfl V (iV (0 : Int))) ?_
  exact R_nil ⟨t1, t3, t4, rfl, h1, h6, h11, h14, trivial⟩
 intro T H ⟨t1, t3, t4, t5, h1, h6, h11, h14, _⟩
 refine W_seq_blockg fun Q1 n1 x1 y1 z1 => ?_
 refine W_loop (fun mm T H => ∃ (k : Nat) (w : Nat) (P : RS) (v6 : Nat), mm = t.nd.length - k ∧ T 1 = (V.mp 1 1 0 0) ∧ T 3 = (V.ms 11 1 0 (t.nd.length)) ∧ T 4 = (V.ms 14 w 0 (P.1.length)) ∧ T 5 = (iV ((k : Nat) : Int)) ∧ H 1 = (⟨1, true, false, 24, 1, [[(V.sl (List.map cN (t.nd)))]]⟩ : Blk) ∧ ((H 6).ver = v6 ∧ (H 6).live = false) ∧ H 11 = (⟨1, true, false, 4, 1, (List.map cB (P.2))⟩ : Blk) ∧ H 14 = (⟨w, true, false, 3, 1, (List.map cI (P.1))⟩ : Blk) ∧ (k ≤ P.1.length) ∧ (WI t P) ∧ (whN t t.nd.length 0 (wh0 t) = whN t (t.nd.length - k) k P)) ?_ ?_
 ·
  refine ⟨_, 0, 1, (wh0 t), 0, rfl, t1, t3, (Eq.trans t4 (by first | rfl | (rw [show (wS Q (nth (nth t.nd (nth P.1 k).toNat).kd j)).1.length = Q.1.length + 1 by simp [wS]]; done) | simp)), (Eq.trans t5 (by first | rfl | (rw [show (wS Q (nth (nth t.nd (nth P.1 k).toNat).kd j)).1.length = Q.1.length + 1 by simp [wS]]; done) | simp)), h1, ⟨(congrArg Blk.ver h6), congrArg Blk.live h6⟩, (Eq.trans h11 (by first | rfl)), (Eq.trans h14 (by first | rfl)), ?_, ?_, ?_⟩
  · exact Nat.zero_le _
  · exact wi0 hk
  · rfl
 intro mm T H ⟨k, w, P, v6, hmm, t1, t3, t4, t5, h1, h6, h11, h14, hk2, hi, hc⟩ Q2 p12 p22 p32
 unfold b40_0
 have hi1 := hi.len
 refine W_seq_seq ?_
 refine W_seq_regc (fun T H => T 1 = (V.mp 1 1 0 0) ∧ T 3 = (V.ms 11 1 0 (t.nd.length)) ∧ T 4 = (V.ms 14 w 0 (P.1.length)) ∧ T 5 = (iV ((k : Nat) : Int)) ∧ T 18 = (V.bool (decide (((k : Nat) : Int) < ((P.1.length : Nat) : Int)))) ∧ H 1 = (⟨1, true, false, 24, 1, [[(V.sl (List.map cN (t.nd)))]]⟩ : Blk) ∧ ((H 6).ver = v6 ∧ (H 6).live = false) ∧ H 11 = (⟨1, true, false, 4, 1, (List.map cB (P.2))⟩ : Blk) ∧ H 14 = (⟨w, true, false, 3, 1, (List.map cI (P.1))⟩ : Blk) ∧ True) ?_ ?_
 ·
  unfold r40_5
  refine R_mv t5 ?_
  refine R_mv t4 ?_
  refine R_len_ms (@rfl V (V.ms 14 w 0 (P.1.length))) h14 (by first | rfl | simp) ?_
  refine R_lss (x := ((k : Nat) : Int)) (y := ((P.1.length : Nat) : Int)) (@rfl V (iV ((k : Nat) : Int))) (@rfl V (iV ((P.1.length : Nat) : Int))) ?_
  exact R_nil ⟨t1, t3, t4, t5, rfl, h1, h6, h11, h14, trivial⟩
 intro T H ⟨t1, t3, t4, t5, t18, h1, h6, h11, h14, _⟩
 refine W_seq_if (p := ((k : Nat) : Int) < ((P.1.length : Nat) : Int)) t18 (fun c3 => ?_) (fun c3 => ?_)
 ·
  have r1 := hi.rg _ (nth_mem (show k < P.1.length by omega))
  have r3 := hb.kd _ (show (nth P.1 k).toNat < t.nd.length by omega)
  refine W_seq_skip ?_
  refine W_seq_blockg fun Q4 n4 x4 y4 z4 => ?_
  refine W_seq_dregc (fun T H => T 1 = (V.mp 1 1 0 0) ∧ T 3 = (V.ms 11 1 0 (t.nd.length)) ∧ T 4 = (V.ms 14 w 0 (P.1.length)) ∧ T 5 = (iV ((k : Nat) : Int)) ∧ T 6 = (V.mp 6 (v6 + 1) 0 0) ∧ H 1 = (⟨1, true, false, 24, 1, [[(V.sl (List.map cN (t.nd)))]]⟩ : Blk) ∧ H 6 = (⟨v6 + 1, true, false, 68, 5, [[(V.bool (((nth (t.nd) ((nth (P.1) (k))).toNat)).lf)), (V.sl (List.map cI (((nth (t.nd) ((nth (P.1) (k))).toNat)).ac))), (V.sl (List.map cI (((nth (t.nd) ((nth (P.1) (k))).toNat)).sf))), (V.sl (List.map cL (((nth (t.nd) ((nth (P.1) (k))).toNat)).ou))), (V.sl (List.map cI (((nth (t.nd) ((nth (P.1) (k))).toNat)).kd)))]]⟩ : Blk) ∧ H 11 = (⟨1, true, false, 4, 1, (List.map cB (P.2))⟩ : Blk) ∧ H 14 = (⟨w, true, false, 3, 1, (List.map cI (P.1))⟩ : Blk) ∧ True) (by intro d hd; simp only [List.mem_cons, List.not_mem_nil, or_false] at hd; rcases hd with rfl <;> simp [h1, h6, h11, h14]) ?_ ?_
  ·
   unfold r40_7
   refine R_fld_mp (o' := 0) t1 h1 (by first | rfl | simp [okB, Blk.own]) rfl ?_
   refine R_load_mp (v := (V.sl (List.map cN (t.nd)))) (@rfl V (V.mp 1 1 0 0)) h1 (by first | rfl | simp [ldB, ldV, Blk.own, V.one]) ?_
   refine R_mv t4 ?_
   refine R_mv t5 ?_
   refine R_idx_ms0 (i := k) (@rfl V (V.ms 14 w 0 (P.1.length))) (@rfl V (iV ((k : Nat) : Int))) h14 (okB_map (by first | omega | (simp only [List.length_replicate]; omega) | (simp only [List.length_set, List.length_replicate]; omega))) rfl (by first | omega | (simp only [List.length_replicate]; omega) | (simp only [List.length_set, List.length_replicate]; omega)) ?_
   refine R_load_mp (v := (iV ((nth (P.1) (k))))) (@rfl V (V.mp 14 w k 0)) h14 (ldB_map (by first | omega | (simp only [List.length_replicate]; omega) | (simp only [List.length_set, List.length_replicate]; omega)) (by first | rfl | simp [ldV, V.one])) ?_
   refine R_idxI (i := ((nth (P.1) (k)))) (@rfl V (V.sl (List.map cN (t.nd)))) (@rfl V (iV ((nth (P.1) (k))))) (by first | omega | (simp only [List.length_replicate]; omega) | (simp only [List.length_set, List.length_replicate]; omega)) (by first | omega | (simp only [List.length_replicate]; omega) | (simp only [List.length_set, List.length_replicate]; omega)) rfl ?_
   refine R_load_pp (v := (V.agg [(V.bool (((nth (t.nd) ((nth (P.1) (k))).toNat)).lf)), (V.sl (List.map cI (((nth (t.nd) ((nth (P.1) (k))).toNat)).ac))), (V.sl (List.map cI (((nth (t.nd) ((nth (P.1) (k))).toNat)).sf))), (V.sl (List.map cL (((nth (t.nd) ((nth (P.1) (k))).toNat)).ou))), (V.sl (List.map cI (((nth (t.nd) ((nth (P.1) (k))).toNat)).kd)))])) (@rfl V (V.pp [(V.bool (((nth (t.nd) ((nth (P.1) (k))).toNat)).lf)), (V.sl (List.map cI (((nth (t.nd) ((nth (P.1) (k))).toNat)).ac))), (V.sl (List.map cI (((nth (t.nd) ((nth (P.1) (k))).toNat)).sf))), (V.sl (List.map cL (((nth (t.nd) ((nth (P.1) (k))).toNat)).ou))), (V.sl (List.map cI (((nth (t.nd) ((nth (P.1) (k))).toNat)).kd)))])) (by first | rfl | simp [ldV]) ?_
   refine R_alloc (i := 6) (n := v6) (m := 5) rfl (h6).1 rfl ?_
   refine R_store (vs := [(V.bool (((nth (t.nd) ((nth (P.1) (k))).toNat)).lf)), (V.sl (List.map cI (((nth (t.nd) ((nth (P.1) (k))).toNat)).ac))), (V.sl (List.map cI (((nth (t.nd) ((nth (P.1) (k))).toNat)).sf))), (V.sl (List.map cL (((nth (t.nd) ((nth (P.1) (k))).toNat)).ou))), (V.sl (List.map cI (((nth (t.nd) ((nth (P.1) (k))).toNat)).kd)))]) (B' := (⟨v6 + 1, true, false, 68, 5, [[(V.bool (((nth (t.nd) ((nth (P.1) (k))).toNat)).lf)), (V.sl (List.map cI (((nth (t.nd) ((nth (P.1) (k))).toNat)).ac))), (V.sl (List.map cI (((nth (t.nd) ((nth (P.1) (k))).toNat)).sf))), (V.sl (List.map cL (((nth (t.nd) ((nth (P.1) (k))).toNat)).ou))), (V.sl (List.map cI (((nth (t.nd) ((nth (P.1) (k))).toNat)).kd)))]]⟩ : Blk)) (@rfl V (V.mp 6 (v6 + 1) 0 0)) (@rfl V (V.agg [(V.bool (((nth (t.nd) ((nth (P.1) (k))).toNat)).lf)), (V.sl (List.map cI (((nth (t.nd) ((nth (P.1) (k))).toNat)).ac))), (V.sl (List.map cI (((nth (t.nd) ((nth (P.1) (k))).toNat)).sf))), (V.sl (List.map cL (((nth (t.nd) ((nth (P.1) (k))).toNat)).ou))), (V.sl (List.map cI (((nth (t.nd) ((nth (P.1) (k))).toNat)).kd)))])) rfl (@rfl Blk (⟨v6 + 1, true, false, 68, 5, [[(V.bool false), V.nilsl, V.nilsl, V.nilsl, V.nilsl]]⟩ : Blk)) (by first | rfl | simp [stB, okB, Blk.own, putAt, V.one]) ?_
   exact R_nil ⟨t1, t3, t4, t5, rfl, h1, rfl, h11, h14, trivial⟩
  intro T H ⟨t1, t3, t4, t5, t6, h1, h6, h11, h14, _⟩
  refine W_seq_regc (fun T H => T 1 = (V.mp 1 1 0 0) ∧ T 3 = (V.ms 11 1 0 (t.nd.length)) ∧ T 4 = (V.ms 14 w 0 (P.1.length)) ∧ T 5 = (iV ((k : Nat) : Int)) ∧ T 6 = (V.mp 6 (v6 + 1) 0 0) ∧ T 7 = (iV (0 : Int)) ∧ H 1 = (⟨1, true, false, 24, 1, [[(V.sl (List.map cN (t.nd)))]]⟩ : Blk) ∧ H 6 = (⟨v6 + 1, true, false, 68, 5, [[(V.bool (((nth (t.nd) ((nth (P.1) (k))).toNat)).lf)), (V.sl (List.map cI (((nth (t.nd) ((nth (P.1) (k))).toNat)).ac))), (V.sl (List.map cI (((nth (t.nd) ((nth (P.1) (k))).toNat)).sf))), (V.sl (List.map cL (((nth (t.nd) ((nth (P.1) (k))).toNat)).ou))), (V.sl (List.map cI (((nth (t.nd) ((nth (P.1) (k))).toNat)).kd)))]]⟩ : Blk) ∧ H 11 = (⟨1, true, false, 4, 1, (List.map cB (P.2))⟩ : Blk) ∧ H 14 = (⟨w, true, false, 3, 1, (List.map cI (P.1))⟩ : Blk) ∧ True) ?_ ?_
  ·
   unfold r40_8
   refine R_mv (@rfl V (iV (0 : Int))) ?_
   exact R_nil ⟨t1, t3, t4, t5, t6, rfl, h1, h6, h11, h14, trivial⟩
  intro T H ⟨t1, t3, t4, t5, t6, t7, h1, h6, h11, h14, _⟩
  refine W_block fun Q5 n5 x5 y5 z5 => ?_
  refine W_loop (fun mm T H => ∃ (j : Nat) (w2 : Nat) (Q : RS), mm = (nth t.nd (nth P.1 k).toNat).kd.length - j ∧ T 1 = (V.mp 1 1 0 0) ∧ T 3 = (V.ms 11 1 0 (t.nd.length)) ∧ T 4 = (V.ms 14 w2 0 (Q.1.length)) ∧ T 5 = (iV ((k : Nat) : Int)) ∧ T 6 = (V.mp 6 (v6 + 1) 0 0) ∧ T 7 = (iV ((j : Nat) : Int)) ∧ H 1 = (⟨1, true, false, 24, 1, [[(V.sl (List.map cN (t.nd)))]]⟩ : Blk) ∧ H 6 = (⟨v6 + 1, true, false, 68, 5, [[(V.bool (((nth (t.nd) ((nth (P.1) (k))).toNat)).lf)), (V.sl (List.map cI (((nth (t.nd) ((nth (P.1) (k))).toNat)).ac))), (V.sl (List.map cI (((nth (t.nd) ((nth (P.1) (k))).toNat)).sf))), (V.sl (List.map cL (((nth (t.nd) ((nth (P.1) (k))).toNat)).ou))), (V.sl (List.map cI (((nth (t.nd) ((nth (P.1) (k))).toNat)).kd)))]]⟩ : Blk) ∧ H 11 = (⟨1, true, false, 4, 1, (List.map cB (Q.2))⟩ : Blk) ∧ H 14 = (⟨w2, true, false, 3, 1, (List.map cI (Q.1))⟩ : Blk) ∧ (j ≤ (nth t.nd (nth P.1 k).toNat).kd.length) ∧ (k < Q.1.length) ∧ (WI t Q) ∧ (whN t t.nd.length 0 (wh0 t) = (whI Q ((nth t.nd (nth P.1 k).toNat).kd.drop j)).bind (whN t (t.nd.length - (k + 1)) (k + 1)))) ?_ ?_
  ·
   refine ⟨_, 0, w, P, rfl, t1, t3, t4, t5, t6, (Eq.trans t7 (by first | rfl | (rw [show (wS Q (nth (nth t.nd (nth P.1 k).toNat).kd j)).1.length = Q.1.length + 1 by simp [wS]]; done) | simp)), h1, h6, h11, h14, ?_, ?_, ?_, ?_⟩
   · omega
   · omega
   · exact hi
   · rw [hc, wh_go (by omega) (by omega)]; rfl
  intro mm T H ⟨j, w2, Q, hmm, t1, t3, t4, t5, t6, t7, h1, h6, h11, h14, hj, hk3, hiq, hc2⟩ Q6 p16 p26 p36
  unfold b40_1
  have hi2 := hiq.len
  refine W_seq_seq ?_
  refine W_seq_regc (fun T H => T 1 = (V.mp 1 1 0 0) ∧ T 3 = (V.ms 11 1 0 (t.nd.length)) ∧ T 4 = (V.ms 14 w2 0 (Q.1.length)) ∧ T 5 = (iV ((k : Nat) : Int)) ∧ T 6 = (V.mp 6 (v6 + 1) 0 0) ∧ T 7 = (iV ((j : Nat) : Int)) ∧ T 33 = (V.bool (decide (((j : Nat) : Int) < (((((nth (t.nd) ((nth (P.1) (k))).toNat)).kd).length : Nat) : Int)))) ∧ H 1 = (⟨1, true, false, 24, 1, [[(V.sl (List.map cN (t.nd)))]]⟩ : Blk) ∧ H 6 = (⟨v6 + 1, true, false, 68, 5, [[(V.bool (((nth (t.nd) ((nth (P.1) (k))).toNat)).lf)), (V.sl (List.map cI (((nth (t.nd) ((nth (P.1) (k))).toNat)).ac))), (V.sl (List.map cI (((nth (t.nd) ((nth (P.1) (k))).toNat)).sf))), (V.sl (List.map cL (((nth (t.nd) ((nth (P.1) (k))).toNat)).ou))), (V.sl (List.map cI (((nth (t.nd) ((nth (P.1) (k))).toNat)).kd)))]]⟩ : Blk) ∧ H 11 = (⟨1, true, false, 4, 1, (List.map cB (Q.2))⟩ : Blk) ∧ H 14 = (⟨w2, true, false, 3, 1, (List.map cI (Q.1))⟩ : Blk) ∧ True) ?_ ?_
  ·
   unfold r40_9
   refine R_mv t7 ?_
   refine R_fld_mp (o' := 4) t6 h6 (by first | rfl | simp [okB, Blk.own]) rfl ?_
   refine R_load_mp (v := (V.sl (List.map cI (((nth (t.nd) ((nth (P.1) (k))).toNat)).kd)))) (@rfl V (V.mp 6 (v6 + 1) 0 4)) h6 (by first | rfl | simp [ldB, ldV, Blk.own, V.one]) ?_
   refine R_len (@rfl V (V.sl (List.map cI (((nth (t.nd) ((nth (P.1) (k))).toNat)).kd)))) ?_
   refine R_lss (x := ((j : Nat) : Int)) (y := (((((nth (t.nd) ((nth (P.1) (k))).toNat)).kd).length : Nat) : Int)) (@rfl V (iV ((j : Nat) : Int))) (@rfl V (iV (((((nth (t.nd) ((nth (P.1) (k))).toNat)).kd).length : Nat) : Int))) ?_
   exact R_nil ⟨t1, t3, t4, t5, t6, t7, rfl, h1, h6, h11, h14, trivial⟩
  intro T H ⟨t1, t3, t4, t5, t6, t7, t33, h1, h6, h11, h14, _⟩
  refine W_seq_if (p := ((j : Nat) : Int) < (((((nth (t.nd) ((nth (P.1) (k))).toNat)).kd).length : Nat) : Int)) t33 (fun c7 => ?_) (fun c7 => ?_)
  ·
   have r2 := hk.rng _ (show (nth P.1 k).toNat < t.nd.length by omega) _ (nth_mem (show j < (nth t.nd (nth P.1 k).toNat).kd.length by omega))
   refine W_seq_skip ?_
   refine W_seq_blockg fun Q8 n8 x8 y8 z8 => ?_
   refine W_seq_seq ?_
   refine W_seq_regc (fun T H => T 1 = (V.mp 1 1 0 0) ∧ T 3 = (V.ms 11 1 0 (t.nd.length)) ∧ T 4 = (V.ms 14 w2 0 (Q.1.length)) ∧ T 5 = (iV ((k : Nat) : Int)) ∧ T 6 = (V.mp 6 (v6 + 1) 0 0) ∧ T 7 = (iV ((j : Nat) : Int)) ∧ T 43 = (V.bool ((nth (Q.2) ((((nth (((nth (t.nd) ((nth (P.1) (k))).toNat)).kd) (j)))).toNat)))) ∧ H 1 = (⟨1, true, false, 24, 1, [[(V.sl (List.map cN (t.nd)))]]⟩ : Blk) ∧ H 6 = (⟨v6 + 1, true, false, 68, 5, [[(V.bool (((nth (t.nd) ((nth (P.1) (k))).toNat)).lf)), (V.sl (List.map cI (((nth (t.nd) ((nth (P.1) (k))).toNat)).ac))), (V.sl (List.map cI (((nth (t.nd) ((nth (P.1) (k))).toNat)).sf))), (V.sl (List.map cL (((nth (t.nd) ((nth (P.1) (k))).toNat)).ou))), (V.sl (List.map cI (((nth (t.nd) ((nth (P.1) (k))).toNat)).kd)))]]⟩ : Blk) ∧ H 11 = (⟨1, true, false, 4, 1, (List.map cB (Q.2))⟩ : Blk) ∧ H 14 = (⟨w2, true, false, 3, 1, (List.map cI (Q.1))⟩ : Blk) ∧ True) ?_ ?_
   ·
    unfold r40_11
    refine R_mv t3 ?_
    refine R_fld_mp (o' := 4) t6 h6 (by first | rfl | simp [okB, Blk.own]) rfl ?_
    refine R_load_mp (v := (V.sl (List.map cI (((nth (t.nd) ((nth (P.1) (k))).toNat)).kd)))) (@rfl V (V.mp 6 (v6 + 1) 0 4)) h6 (by first | rfl | simp [ldB, ldV, Blk.own, V.one]) ?_
    refine R_mv t7 ?_
    refine R_idx (i := j) (@rfl V (V.sl (List.map cI (((nth (t.nd) ((nth (P.1) (k))).toNat)).kd)))) (@rfl V (iV ((j : Nat) : Int))) (by first | omega | (simp only [List.length_replicate]; omega) | (simp only [List.length_set, List.length_replicate]; omega)) rfl ?_
    refine R_load_pp (v := (iV ((nth (((nth (t.nd) ((nth (P.1) (k))).toNat)).kd) (j))))) (@rfl V (V.pp [(iV ((nth (((nth (t.nd) ((nth (P.1) (k))).toNat)).kd) (j))))])) (by first | rfl | simp [ldV]) ?_
    refine R_idxI_ms0 (i := ((nth (((nth (t.nd) ((nth (P.1) (k))).toNat)).kd) (j)))) (@rfl V (V.ms 11 1 0 (t.nd.length))) (@rfl V (iV ((nth (((nth (t.nd) ((nth (P.1) (k))).toNat)).kd) (j))))) h11 (okB_map (by first | omega | (simp only [List.length_replicate]; omega) | (simp only [List.length_set, List.length_replicate]; omega))) rfl (by first | omega | (simp only [List.length_replicate]; omega) | (simp only [List.length_set, List.length_replicate]; omega)) (by first | omega | (simp only [List.length_replicate]; omega) | (simp only [List.length_set, List.length_replicate]; omega)) ?_
    refine R_load_mp (v := (V.bool ((nth (Q.2) ((((nth (((nth (t.nd) ((nth (P.1) (k))).toNat)).kd) (j)))).toNat))))) (@rfl V (V.mp 11 1 ((((nth (((nth (t.nd) ((nth (P.1) (k))).toNat)).kd) (j)))).toNat) 0)) h11 (ldB_map (by first | omega | (simp only [List.length_replicate]; omega) | (simp only [List.length_set, List.length_replicate]; omega)) (by first | rfl | simp [ldV, V.one])) ?_
    exact R_nil ⟨t1, t3, t4, t5, t6, t7, rfl, h1, h6, h11, h14, trivial⟩
   intro T H ⟨t1, t3, t4, t5, t6, t7, t43, h1, h6, h11, h14, _⟩
   refine W_seq_ifb t43 (fun c9 => ?_) (fun c9 => ?_)
   ·
    have d2 : nth Q.2 (nth (nth t.nd (nth P.1 k).toNat).kd j).toNat = true := c9
    refine W_seq_seq ?_
    refine W_seq_regc (fun T H => T 2 = (V.bool false) ∧ H 1 = (⟨1, true, false, 24, 1, [[(V.sl (List.map cN (t.nd)))]]⟩ : Blk) ∧ H 6 = (⟨v6 + 1, true, false, 68, 5, [[(V.bool (((nth (t.nd) ((nth (P.1) (k))).toNat)).lf)), (V.sl (List.map cI (((nth (t.nd) ((nth (P.1) (k))).toNat)).ac))), (V.sl (List.map cI (((nth (t.nd) ((nth (P.1) (k))).toNat)).sf))), (V.sl (List.map cL (((nth (t.nd) ((nth (P.1) (k))).toNat)).ou))), (V.sl (List.map cI (((nth (t.nd) ((nth (P.1) (k))).toNat)).kd)))]]⟩ : Blk) ∧ H 11 = (⟨1, true, false, 4, 1, (List.map cB (Q.2))⟩ : Blk) ∧ H 14 = (⟨w2, true, false, 3, 1, (List.map cI (Q.1))⟩ : Blk) ∧ True) ?_ ?_
    ·
     unfold r40_12
     refine R_mv (@rfl V (V.bool false)) ?_
     exact R_nil ⟨rfl, h1, h6, h11, h14, trivial⟩
    intro T H ⟨t2, h1, h6, h11, h14, _⟩
    refine W_seq_ret ?_
    refine y8 _ _ ?_
    refine p26 _ _ ?_
    refine y5 _ _ ?_
    refine y4 _ _ ?_
    refine p22 _ _ ?_
    refine y1 _ _ ?_
    refine Ret_1 t2 (fz_bool ?_)
    · rw [whB_none (by rw [hc2, whI_yes (by omega) d2]; rfl)]
   have d2 : nth Q.2 (nth (nth t.nd (nth P.1 k).toNat).kd j).toNat = false := by simpa using c9
   refine W_seq_skip ?_
   refine W_seq_regc (fun T H => T 1 = (V.mp 1 1 0 0) ∧ T 3 = (V.ms 11 1 0 (t.nd.length)) ∧ T 4 = (V.ms 14 w2 0 (Q.1.length)) ∧ T 5 = (iV ((k : Nat) : Int)) ∧ T 6 = (V.mp 6 (v6 + 1) 0 0) ∧ T 7 = (iV ((j : Nat) : Int)) ∧ H 1 = (⟨1, true, false, 24, 1, [[(V.sl (List.map cN (t.nd)))]]⟩ : Blk) ∧ H 6 = (⟨v6 + 1, true, false, 68, 5, [[(V.bool (((nth (t.nd) ((nth (P.1) (k))).toNat)).lf)), (V.sl (List.map cI (((nth (t.nd) ((nth (P.1) (k))).toNat)).ac))), (V.sl (List.map cI (((nth (t.nd) ((nth (P.1) (k))).toNat)).sf))), (V.sl (List.map cL (((nth (t.nd) ((nth (P.1) (k))).toNat)).ou))), (V.sl (List.map cI (((nth (t.nd) ((nth (P.1) (k))).toNat)).kd)))]]⟩ : Blk) ∧ H 11 = (⟨1, true, false, 4, 1, (List.map cB ((Q.2).set ((((nth (((nth (t.nd) ((nth (P.1) (k))).toNat)).kd) (j)))).toNat) true))⟩ : Blk) ∧ H 14 = (⟨w2, true, false, 3, 1, (List.map cI (Q.1))⟩ : Blk) ∧ True) ?_ ?_
   ·
    unfold r40_13
    refine R_mv t3 ?_
    refine R_fld_mp (o' := 4) t6 h6 (by first | rfl | simp [okB, Blk.own]) rfl ?_
    refine R_load_mp (v := (V.sl (List.map cI (((nth (t.nd) ((nth (P.1) (k))).toNat)).kd)))) (@rfl V (V.mp 6 (v6 + 1) 0 4)) h6 (by first | rfl | simp [ldB, ldV, Blk.own, V.one]) ?_
    refine R_mv t7 ?_
    refine R_idx (i := j) (@rfl V (V.sl (List.map cI (((nth (t.nd) ((nth (P.1) (k))).toNat)).kd)))) (@rfl V (iV ((j : Nat) : Int))) (by first | omega | (simp only [List.length_replicate]; omega) | (simp only [List.length_set, List.length_replicate]; omega)) rfl ?_
    refine R_load_pp (v := (iV ((nth (((nth (t.nd) ((nth (P.1) (k))).toNat)).kd) (j))))) (@rfl V (V.pp [(iV ((nth (((nth (t.nd) ((nth (P.1) (k))).toNat)).kd) (j))))])) (by first | rfl | simp [ldV]) ?_
    refine R_idxI_ms0 (i := ((nth (((nth (t.nd) ((nth (P.1) (k))).toNat)).kd) (j)))) (@rfl V (V.ms 11 1 0 (t.nd.length))) (@rfl V (iV ((nth (((nth (t.nd) ((nth (P.1) (k))).toNat)).kd) (j))))) h11 (okB_map (by first | omega | (simp only [List.length_replicate]; omega) | (simp only [List.length_set, List.length_replicate]; omega))) rfl (by first | omega | (simp only [List.length_replicate]; omega) | (simp only [List.length_set, List.length_replicate]; omega)) (by first | omega | (simp only [List.length_replicate]; omega) | (simp only [List.length_set, List.length_replicate]; omega)) ?_
    refine R_store (vs := [(V.bool true)]) (B' := (⟨1, true, false, 4, 1, (List.map cB ((Q.2).set ((((nth (((nth (t.nd) ((nth (P.1) (k))).toNat)).kd) (j)))).toNat) true))⟩ : Blk)) (@rfl V (V.mp 11 1 ((((nth (((nth (t.nd) ((nth (P.1) (k))).toNat)).kd) (j)))).toNat) 0)) (@rfl V (V.bool true)) rfl h11 (stB_map (x := true) (i := ((((nth (((nth (t.nd) ((nth (P.1) (k))).toNat)).kd) (j)))).toNat)) (by first | omega | (simp only [List.length_replicate]; omega) | (simp only [List.length_set, List.length_replicate]; omega)) rfl rfl rfl rfl) ?_
    exact R_nil ⟨t1, t3, t4, t5, t6, t7, h1, h6, rfl, h14, trivial⟩
   intro T H ⟨t1, t3, t4, t5, t6, t7, h1, h6, h11, h14, _⟩
   refine W_regc (fun T H => T 1 = (V.mp 1 1 0 0) ∧ T 3 = (V.ms 11 1 0 (t.nd.length)) ∧ T 4 = (V.ms 14 (w2 + 1) 0 (Q.1.length + 1)) ∧ T 5 = (iV ((k : Nat) : Int)) ∧ T 6 = (V.mp 6 (v6 + 1) 0 0) ∧ T 7 = (iV ((j : Nat) : Int)) ∧ H 1 = (⟨1, true, false, 24, 1, [[(V.sl (List.map cN (t.nd)))]]⟩ : Blk) ∧ H 6 = (⟨v6 + 1, true, false, 68, 5, [[(V.bool (((nth (t.nd) ((nth (P.1) (k))).toNat)).lf)), (V.sl (List.map cI (((nth (t.nd) ((nth (P.1) (k))).toNat)).ac))), (V.sl (List.map cI (((nth (t.nd) ((nth (P.1) (k))).toNat)).sf))), (V.sl (List.map cL (((nth (t.nd) ((nth (P.1) (k))).toNat)).ou))), (V.sl (List.map cI (((nth (t.nd) ((nth (P.1) (k))).toNat)).kd)))]]⟩ : Blk) ∧ H 11 = (⟨1, true, false, 4, 1, (List.map cB ((Q.2).set ((((nth (((nth (t.nd) ((nth (P.1) (k))).toNat)).kd) (j)))).toNat) true))⟩ : Blk) ∧ H 14 = (⟨w2 + 1, true, false, 3, 1, (List.map cI (Q.1 ++ [((nth (((nth (t.nd) ((nth (P.1) (k))).toNat)).kd) (j)))]))⟩ : Blk) ∧ True) ?_ ?_
   ·
    unfold r40_14
    refine R_mv t4 ?_
    refine R_fld_mp (o' := 4) t6 h6 (by first | rfl | simp [okB, Blk.own]) rfl ?_
    refine R_load_mp (v := (V.sl (List.map cI (((nth (t.nd) ((nth (P.1) (k))).toNat)).kd)))) (@rfl V (V.mp 6 (v6 + 1) 0 4)) h6 (by first | rfl | simp [ldB, ldV, Blk.own, V.one]) ?_
    refine R_mv t7 ?_
    refine R_idx (i := j) (@rfl V (V.sl (List.map cI (((nth (t.nd) ((nth (P.1) (k))).toNat)).kd)))) (@rfl V (iV ((j : Nat) : Int))) (by first | omega | (simp only [List.length_replicate]; omega) | (simp only [List.length_set, List.length_replicate]; omega)) rfl ?_
    refine R_load_pp (v := (iV ((nth (((nth (t.nd) ((nth (P.1) (k))).toNat)).kd) (j))))) (@rfl V (V.pp [(iV ((nth (((nth (t.nd) ((nth (P.1) (k))).toNat)).kd) (j))))])) (by first | rfl | simp [ldV]) ?_
    refine R_bslice (qs := [(0, (iV ((nth (((nth (t.nd) ((nth (P.1) (k))).toNat)).kd) (j)))))]) (rows := [[(iV ((nth (((nth (t.nd) ((nth (P.1) (k))).toNat)).kd) (j))))]]) (mcons (congrArg (fun v => (0, v)) (@rfl V (iV ((nth (((nth (t.nd) ((nth (P.1) (k))).toNat)).kd) (j)))))) rfl) rfl ?_
    refine R_append1 (l := Q.1) (f := cI) (x := (((nth (((nth (t.nd) ((nth (P.1) (k))).toNat)).kd) (j))))) (@rfl V (V.ms 14 w2 0 (Q.1.length))) h14 (by first | rfl | simp | omega) (@rfl V (V.sl [[(iV ((nth (((nth (t.nd) ((nth (P.1) (k))).toNat)).kd) (j))))]])) rfl rfl (by first | omega | (simp only [List.length_replicate]; omega) | (simp only [List.length_set, List.length_replicate]; omega)) (by first | omega | (simp only [List.length_replicate]; omega) | (simp only [List.length_set, List.length_replicate]; omega)) ?_
    refine R_mv (@rfl V (V.ms 14 (w2 + 1) 0 (Q.1.length + 1))) ?_
    exact R_nil ⟨t1, t3, rfl, t5, t6, t7, h1, h6, h11, rfl, trivial⟩
   intro T H ⟨t1, t3, t4, t5, t6, t7, h1, h6, h11, h14, _⟩
   refine n8 _ _ ?_
   refine .done ?_
   refine W_regc (fun T H => T 1 = (V.mp 1 1 0 0) ∧ T 3 = (V.ms 11 1 0 (t.nd.length)) ∧ T 4 = (V.ms 14 (w2 + 1) 0 (Q.1.length + 1)) ∧ T 5 = (iV ((k : Nat) : Int)) ∧ T 6 = (V.mp 6 (v6 + 1) 0 0) ∧ T 7 = (iV ((j + 1 : Nat) : Int)) ∧ H 1 = (⟨1, true, false, 24, 1, [[(V.sl (List.map cN (t.nd)))]]⟩ : Blk) ∧ H 6 = (⟨v6 + 1, true, false, 68, 5, [[(V.bool (((nth (t.nd) ((nth (P.1) (k))).toNat)).lf)), (V.sl (List.map cI (((nth (t.nd) ((nth (P.1) (k))).toNat)).ac))), (V.sl (List.map cI (((nth (t.nd) ((nth (P.1) (k))).toNat)).sf))), (V.sl (List.map cL (((nth (t.nd) ((nth (P.1) (k))).toNat)).ou))), (V.sl (List.map cI (((nth (t.nd) ((nth (P.1) (k))).toNat)).kd)))]]⟩ : Blk) ∧ H 11 = (⟨1, true, false, 4, 1, (List.map cB ((Q.2).set ((((nth (((nth (t.nd) ((nth (P.1) (k))).toNat)).kd) (j)))).toNat) true))⟩ : Blk) ∧ H 14 = (⟨w2 + 1, true, false, 3, 1, (List.map cI (Q.1 ++ [((nth (((nth (t.nd) ((nth (P.1) (k))).toNat)).kd) (j)))]))⟩ : Blk) ∧ True) ?_ ?_
   ·
    unfold r40_10
    refine R_mv t7 ?_
    refine R_addN (m := j) (n := 1) (@rfl V (iV ((j : Nat) : Int))) (@rfl V (iV ((1 : Nat) : Int))) (by first | omega | (simp only [List.length_replicate]; omega) | (simp only [List.length_set, List.length_replicate]; omega)) ?_
    refine R_mv (@rfl V (iV ((j + 1 : Nat) : Int))) ?_
    exact R_nil ⟨t1, t3, t4, t5, t6, rfl, h1, h6, h11, h14, trivial⟩
   intro T H ⟨t1, t3, t4, t5, t6, t7, h1, h6, h11, h14, _⟩
   refine p16 _ _ _ ?_ ⟨(j + 1), (w2 + 1), (wS Q (nth (nth t.nd (nth P.1 k).toNat).kd j)), rfl, t1, t3, (Eq.trans t4 (by first | rfl | (rw [show (wS Q (nth (nth t.nd (nth P.1 k).toNat).kd j)).1.length = Q.1.length + 1 by simp [wS]]; done) | simp)), t5, t6, (Eq.trans t7 (by first | rfl | (rw [show (wS Q (nth (nth t.nd (nth P.1 k).toNat).kd j)).1.length = Q.1.length + 1 by simp [wS]]; done) | simp)), h1, h6, (Eq.trans h11 (by first | rfl)), (Eq.trans h14 (by first | rfl)), ?_, ?_, ?_, ?_⟩
   · omega
   · omega
   · show k < (Q.1 ++ _).length; rw [List.length_append]; omega
   · exact hiq.step r2.1 r2.2 d2
   · rw [hc2, whI_no (by omega) d2]
  refine W_seq_exit ?_
  refine p36 _ _ _ ?_
  refine x5 _ _ ?_
  refine n4 _ _ ?_
  refine .freeze 6 (.done ?_)
  refine fork_ (R := fun T H => T 1 = (V.mp 1 1 0 0) ∧ T 3 = (V.ms 11 1 0 (t.nd.length)) ∧ T 4 = (V.ms 14 w2 0 (Q.1.length)) ∧ T 5 = (iV ((k : Nat) : Int)) ∧ T 6 = (V.mp 6 (v6 + 1) 0 0) ∧ T 7 = (iV ((j : Nat) : Int)) ∧ T 33 = (V.bool (decide (((j : Nat) : Int) < (((((nth (t.nd) ((nth (P.1) (k))).toNat)).kd).length : Nat) : Int)))) ∧ H 1 = (⟨1, true, false, 24, 1, [[(V.sl (List.map cN (t.nd)))]]⟩ : Blk) ∧ ((H 6).ver = v6 + 1 ∧ (H 6).live = false) ∧ H 11 = (⟨1, true, false, 4, 1, (List.map cB (Q.2))⟩ : Blk) ∧ H 14 = (⟨w2, true, false, 3, 1, (List.map cI (Q.1))⟩ : Blk) ∧ True) ⟨(fzT_q t1 rfl), (fzT_q t3 (fzq_other (by decide))), (fzT_q t4 (fzq_other (by decide))), (fzT_q t5 rfl), (fzT_q t6 rfl), (fzT_q t7 rfl), (fzT_q t33 rfl), (kill_ne h1 (by decide)), (kill_self (congrArg Blk.ver h6)), (kill_ne h11 (by decide)), (kill_ne h14 (by decide)), trivial⟩ ?_
  clear t1 t3 t4 t5 t6 t7 t33 h1 h6 h11 h14 T H
  intro T H ⟨t1, t3, t4, t5, t6, t7, t33, h1, h6, h11, h14, _⟩
  refine W_regc (fun T H => T 1 = (V.mp 1 1 0 0) ∧ T 3 = (V.ms 11 1 0 (t.nd.length)) ∧ T 4 = (V.ms 14 w2 0 (Q.1.length)) ∧ T 5 = (iV ((k + 1 : Nat) : Int)) ∧ H 1 = (⟨1, true, false, 24, 1, [[(V.sl (List.map cN (t.nd)))]]⟩ : Blk) ∧ ((H 6).ver = v6 + 1 ∧ (H 6).live = false) ∧ H 11 = (⟨1, true, false, 4, 1, (List.map cB (Q.2))⟩ : Blk) ∧ H 14 = (⟨w2, true, false, 3, 1, (List.map cI (Q.1))⟩ : Blk) ∧ True) ?_ ?_
  ·
   unfold r40_6
   refine R_mv t5 ?_
   refine R_addN (m := k) (n := 1) (@rfl V (iV ((k : Nat) : Int))) (@rfl V (iV ((1 : Nat) : Int))) (by first | omega | (simp only [List.length_replicate]; omega) | (simp only [List.length_set, List.length_replicate]; omega)) ?_
   refine R_mv (@rfl V (iV ((k + 1 : Nat) : Int))) ?_
   exact R_nil ⟨t1, t3, t4, rfl, h1, h6, h11, h14, trivial⟩
  intro T H ⟨t1, t3, t4, t5, h1, h6, h11, h14, _⟩
  refine p12 _ _ _ ?_ ⟨(k + 1), w2, Q, (v6 + 1), rfl, t1, t3, t4, (Eq.trans t5 (by first | rfl | (rw [show (wS Q (nth (nth t.nd (nth P.1 k).toNat).kd j)).1.length = Q.1.length + 1 by simp [wS]]; done) | simp)), h1, h6, h11, h14, ?_, ?_, ?_⟩
  · omega
  · omega
  · exact hiq
  · rw [hc2, whI_end (by omega)]; rfl
 refine W_seq_exit ?_
 refine p32 _ _ _ ?_
 refine x1 _ _ ?_
 refine .done ?_
 refine W_seq_regc (fun T H => T 2 = (V.bool (decide (((P.1.length : Nat) : Int) = ((t.nd.length : Nat) : Int)))) ∧ H 1 = (⟨1, true, false, 24, 1, [[(V.sl (List.map cN (t.nd)))]]⟩ : Blk) ∧ ((H 6).ver = v6 ∧ (H 6).live = false) ∧ H 11 = (⟨1, true, false, 4, 1, (List.map cB (P.2))⟩ : Blk) ∧ H 14 = (⟨w, true, false, 3, 1, (List.map cI (P.1))⟩ : Blk) ∧ True) ?_ ?_
 ·
  unfold r40_15
  refine R_mv t4 ?_
  refine R_len_ms (@rfl V (V.ms 14 w 0 (P.1.length))) h14 (by first | rfl | simp) ?_
  refine R_fld_mp (o' := 0) t1 h1 (by first | rfl | simp [okB, Blk.own]) rfl ?_
  refine R_load_mp (v := (V.sl (List.map cN (t.nd)))) (@rfl V (V.mp 1 1 0 0)) h1 (by first | rfl | simp [ldB, ldV, Blk.own, V.one]) ?_
  refine R_len (@rfl V (V.sl (List.map cN (t.nd)))) ?_
  refine R_eql (x := ((P.1.length : Nat) : Int)) (y := ((t.nd.length : Nat) : Int)) (@rfl V (iV ((P.1.length : Nat) : Int))) (@rfl V (iV ((t.nd.length : Nat) : Int))) ?_
  refine R_mv (@rfl V (V.bool (decide (((P.1.length : Nat) : Int) = ((t.nd.length : Nat) : Int))))) ?_
  exact R_nil ⟨rfl, h1, h6, h11, h14, trivial⟩
 intro T H ⟨t2, h1, h6, h11, h14, _⟩
 refine W_ret ?_
 refine Ret_1 t2 (fz_bool ?_)
 · rw [whB_some (by rw [hc]; exact wh_end (by omega))]; exact decide_eq_decide.2 (by omega)
end Go.Proofs.YtmnjchcoigbngaaGreat


namespace Go.Proofs.YtmnjchcoigbngaaGreat
open Go Go.Proofs
def r41_0 : List SO := [
  ⟨none, some 1, .box 24 1 (.t 0)⟩,
  ⟨none, some 2, .mv (.c (.nilsl))⟩]
def r41_1 : List SO := [
  ⟨none, some 3, .lazy 38 1⟩]
def r41_2 : List SO := [
  ⟨none, some 4, .mv (.c (.int .i64 0))⟩]
def r41_3 : List SO := [
  ⟨none, some 5, .mv (.t 4)⟩,
  ⟨none, some 6, .fld 0 (.t 1)⟩,
  ⟨none, some 7, .load false 1 (.t 6)⟩,
  ⟨none, some 8, .len (.t 7)⟩,
  ⟨none, some 9, .bin .lss (.t 5) (.t 8)⟩]
def r41_5 : List SO := [
  ⟨none, some 12, .fld 0 (.t 1)⟩,
  ⟨none, some 13, .load false 1 (.t 12)⟩,
  ⟨none, some 14, .mv (.t 4)⟩,
  ⟨none, some 15, .idx 5 (.t 13) (.t 14)⟩,
  ⟨none, some 16, .fld 0 (.t 15)⟩,
  ⟨none, some 17, .load false 1 (.t 16)⟩]
def r41_6 : List SO := [
  ⟨none, some 18, .mv (.t 3)⟩,
  ⟨none, some 19, .fld 0 (.t 1)⟩,
  ⟨none, some 20, .load false 1 (.t 19)⟩,
  ⟨none, some 21, .mv (.t 4)⟩,
  ⟨none, some 22, .idx 5 (.t 20) (.t 21)⟩,
  ⟨none, some 23, .fld 1 (.t 22)⟩,
  ⟨none, some 24, .load false 1 (.t 23)⟩,
  ⟨none, some 25, .bslice 38 1 false [.nilsl] 1 [(0, .t 24)]⟩,
  ⟨none, some 26, .call false 31 [.t 25]⟩,
  ⟨none, some 27, .bslice 38 1 false [.nilsl] 1 [(0, .t 26)]⟩,
  ⟨none, some 28, .append 38 1 24 (.t 18) (.t 27)⟩,
  ⟨none, some 3, .mv (.t 28)⟩]
def r41_4 : List SO := [
  ⟨none, some 10, .mv (.t 4)⟩,
  ⟨none, some 11, .bin .add (.t 10) (.c (.int .i64 1))⟩,
  ⟨none, some 4, .mv (.t 11)⟩]
def b41_0 : SC := .seq (.seq (.reg r41_3) (.cond (.t 9) (.skip) (.exit 0))) (.seq (.block 1 (.seq (.reg r41_5) (.cond (.t 17) (.reg r41_6) (.skip)))) (.reg r41_4))
def r41_7 : List SO := [
  ⟨none, some 29, .mv (.t 3)⟩,
  ⟨none, some 2, .mv (.t 29)⟩]
def s41 : SF := ⟨30, [.tmp 2], .seq (.reg r41_0) (.seq (.reg r41_1) (.seq (.seq (.reg r41_2) (.block 0 (.loop b41_0))) (.seq (.reg r41_7) (.ret))))⟩
theorem s41_ok : slimF Tryz.prog ⟨[57, 58, 59, 63, 67, 68, 77, 102, 103, 104, 110, 116, 120], [3]⟩ Tryz.f41 = some s41 := by kernel_rfl
end Go.Proofs.YtmnjchcoigbngaaGreat


namespace Go.Proofs.YtmnjchcoigbngaaGreat
open Go Go.Proofs
def r31_0 : List SO := [
  ⟨none, some 2, .mv (.c (.nilsl))⟩]
def r31_1 : List SO := [
  ⟨none, some 3, .lazy 3 1⟩]
def r31_2 : List SO := [
  ⟨none, some 4, .mv (.c (.int .i64 0))⟩]
def r31_3 : List SO := [
  ⟨none, some 5, .mv (.t 4)⟩,
  ⟨none, some 6, .mv (.t 0)⟩,
  ⟨none, some 7, .len (.t 6)⟩,
  ⟨none, some 8, .bin .lss (.t 5) (.t 7)⟩]
def r31_5 : List SO := [
  ⟨none, some 11, .mv (.t 3)⟩,
  ⟨none, some 12, .mv (.t 0)⟩,
  ⟨none, some 13, .mv (.t 4)⟩,
  ⟨none, some 14, .idx 1 (.t 12) (.t 13)⟩,
  ⟨none, some 15, .load false 1 (.t 14)⟩,
  ⟨none, some 16, .append 3 1 8 (.t 11) (.t 15)⟩,
  ⟨none, some 3, .mv (.t 16)⟩]
def r31_4 : List SO := [
  ⟨none, some 9, .mv (.t 4)⟩,
  ⟨none, some 10, .bin .add (.t 9) (.c (.int .i64 1))⟩,
  ⟨none, some 4, .mv (.t 10)⟩]
def b31_0 : SC := .seq (.seq (.reg r31_3) (.cond (.t 8) (.skip) (.exit 0))) (.seq (.block 1 (.reg r31_5)) (.reg r31_4))
def r31_6 : List SO := [
  ⟨none, some 17, .mv (.t 3)⟩,
  ⟨none, some 2, .mv (.t 17)⟩]
def s31 : SF := ⟨18, [.tmp 2], .seq (.reg r31_0) (.seq (.reg r31_1) (.seq (.seq (.reg r31_2) (.block 0 (.loop b31_0))) (.seq (.reg r31_6) (.ret))))⟩
theorem s31_ok : slimF Tryz.prog ⟨[57, 58, 59, 63, 67, 68, 77, 102, 103, 104, 110, 116, 120], [3]⟩ Tryz.f31 = some s31 := by kernel_rfl
end Go.Proofs.YtmnjchcoigbngaaGreat


namespace Go.Proofs.YtmnjchcoigbngaaGreat
open Go Go.Proofs
theorem join_pure (l : List (List Int)) (hs : (cat l).length ≤ 17592186044416) : PureC Tryz.prog 31 [(V.sl (List.map cL (l)))] (V.sl (List.map cI (cat l))) := by
 refine pure_of_Wb true 6 Tryz.func31 s31_ok (by kernel_rfl) (by simp [s31]) (by simp) (by simp) fun hB => ?_
 simp only [bnd_map, bnd_int, bnd_bool, bnd_str, bnd_agg, bnd_pp, bnd_nil, bnd_cons, implies_true, and_true, true_and] at hB
 unfold s31
 dsimp only
 refine W_seq_regc (fun T H => T 0 = (V.sl (List.map cL (l))) ∧ H 3 = (⟨0, false, false, 0, 0, []⟩ : Blk) ∧ True) ?_ ?_
 ·
  unfold r31_0
  refine R_mv (@rfl V V.nilsl) ?_
  exact R_nil ⟨rfl, rfl, trivial⟩
 intro T H ⟨t0, h3, _⟩
 refine W_seq_regc (fun T H => T 0 = (V.sl (List.map cL (l))) ∧ T 3 = (V.ms 3 1 0 (0)) ∧ H 3 = (⟨1, true, true, 3, 1, []⟩ : Blk) ∧ True) ?_ ?_
 ·
  unfold r31_1
  refine R_lazy (i := 3) (n := 0) rfl (congrArg Blk.ver h3) ?_
  exact R_nil ⟨t0, rfl, rfl, trivial⟩
 intro T H ⟨t0, t3, h3, _⟩
 refine W_seq_seq ?_
 refine W_seq_regc (fun T H => T 0 = (V.sl (List.map cL (l))) ∧ T 3 = (V.ms 3 1 0 (0)) ∧ T 4 = (iV (0 : Int)) ∧ H 3 = (⟨1, true, true, 3, 1, []⟩ : Blk) ∧ True) ?_ ?_
 ·
  unfold r31_2
  refine R_mv (@rfl V (iV (0 : Int))) ?_
  exact R_nil ⟨t0, t3, rfl, h3, trivial⟩
 intro T H ⟨t0, t3, t4, h3, _⟩
 refine W_seq_blockg fun Q1 n1 x1 y1 z1 => ?_
 refine W_loop (fun mm T H => ∃ (k : Nat), mm = l.length - k ∧ T 0 = (V.sl (List.map cL (l))) ∧ T 3 = (V.ms 3 (1 + k) 0 ((cat (l.take k)).length)) ∧ T 4 = (iV ((k : Nat) : Int)) ∧ H 3 = (⟨1 + k, true, true, 3, 1, (List.map cI (cat (l.take k)))⟩ : Blk) ∧ (k ≤ l.length)) ?_ ?_
 ·
  refine ⟨_, 0, rfl, t0, (Eq.trans t3 (by first | rfl | (rw [cat_take (by omega), List.length_append]; rfl))), (Eq.trans t4 (by first | rfl | (rw [cat_take (by omega), List.length_append]; rfl))), (Eq.trans h3 (by first | rfl | (rw [cat_take (by omega)]; rfl))), ?_⟩
  · omega
 intro mm T H ⟨k, hmm, t0, t3, t4, h3, hk⟩ Q2 p12 p22 p32
 unfold b31_0
 refine W_seq_seq ?_
 refine W_seq_regc (fun T H => T 0 = (V.sl (List.map cL (l))) ∧ T 3 = (V.ms 3 (1 + k) 0 ((cat (l.take k)).length)) ∧ T 4 = (iV ((k : Nat) : Int)) ∧ T 8 = (V.bool (decide (((k : Nat) : Int) < ((l.length : Nat) : Int)))) ∧ H 3 = (⟨1 + k, true, true, 3, 1, (List.map cI (cat (l.take k)))⟩ : Blk) ∧ True) ?_ ?_
 ·
  unfold r31_3
  refine R_mv t4 ?_
  refine R_mv t0 ?_
  refine R_len (@rfl V (V.sl (List.map cL (l)))) ?_
  refine R_lss (x := ((k : Nat) : Int)) (y := ((l.length : Nat) : Int)) (@rfl V (iV ((k : Nat) : Int))) (@rfl V (iV ((l.length : Nat) : Int))) ?_
  exact R_nil ⟨t0, t3, t4, rfl, h3, trivial⟩
 intro T H ⟨t0, t3, t4, t8, h3, _⟩
 refine W_seq_if (p := ((k : Nat) : Int) < ((l.length : Nat) : Int)) t8 (fun c3 => ?_) (fun c3 => ?_)
 ·
  have hq := cat_take_le (l := l) (k := k) (by omega)
  refine W_seq_skip ?_
  refine W_seq_blockg fun Q4 n4 x4 y4 z4 => ?_
  refine W_regc (fun T H => T 0 = (V.sl (List.map cL (l))) ∧ T 3 = (V.ms 3 (1 + k + 1) 0 (((cat (l.take k)).length) + ((nth (l) (k))).length)) ∧ T 4 = (iV ((k : Nat) : Int)) ∧ H 3 = (⟨1 + k + 1, true, true, 3, 1, (List.map cI (cat (l.take k) ++ ((nth (l) (k)))))⟩ : Blk) ∧ True) ?_ ?_
  ·
   unfold r31_5
   refine R_mv t3 ?_
   refine R_mv t0 ?_
   refine R_mv t4 ?_
   refine R_idx (i := k) (@rfl V (V.sl (List.map cL (l)))) (@rfl V (iV ((k : Nat) : Int))) (by omega) rfl ?_
   refine R_load_pp (v := (V.sl (List.map cI ((nth (l) (k)))))) (@rfl V (V.pp [(V.sl (List.map cI ((nth (l) (k)))))])) (by first | rfl | simp [ldV]) ?_
   refine R_appendS (l := (cat (l.take k))) (m := ((nth (l) (k)))) (f := cI) (@rfl V (V.ms 3 (1 + k) 0 ((cat (l.take k)).length))) h3 (by first | rfl | simp) (@rfl V (V.sl (List.map cI ((nth (l) (k)))))) (fun _ => rfl) (fun _ => rfl) (by omega) (by omega) ?_
   refine R_mv (@rfl V (V.ms 3 (1 + k + 1) 0 (((cat (l.take k)).length) + ((nth (l) (k))).length))) ?_
   exact R_nil ⟨t0, rfl, t4, rfl, trivial⟩
  intro T H ⟨t0, t3, t4, h3, _⟩
  refine n4 _ _ ?_
  refine .done ?_
  refine W_regc (fun T H => T 0 = (V.sl (List.map cL (l))) ∧ T 3 = (V.ms 3 (1 + k + 1) 0 (((cat (l.take k)).length) + ((nth (l) (k))).length)) ∧ T 4 = (iV ((k + 1 : Nat) : Int)) ∧ H 3 = (⟨1 + k + 1, true, true, 3, 1, (List.map cI (cat (l.take k) ++ ((nth (l) (k)))))⟩ : Blk) ∧ True) ?_ ?_
  ·
   unfold r31_4
   refine R_mv t4 ?_
   refine R_addN (m := k) (n := 1) (@rfl V (iV ((k : Nat) : Int))) (@rfl V (iV ((1 : Nat) : Int))) (by omega) ?_
   refine R_mv (@rfl V (iV ((k + 1 : Nat) : Int))) ?_
   exact R_nil ⟨t0, t3, rfl, h3, trivial⟩
  intro T H ⟨t0, t3, t4, h3, _⟩
  refine p12 _ _ _ ?_ ⟨(k + 1), rfl, t0, (Eq.trans t3 (by first | rfl | (rw [cat_take (by omega), List.length_append]; rfl))), (Eq.trans t4 (by first | rfl | (rw [cat_take (by omega), List.length_append]; rfl))), (Eq.trans h3 (by first | rfl | (rw [cat_take (by omega)]; rfl))), ?_⟩
  · omega
  · omega
 refine W_seq_exit ?_
 refine p32 _ _ _ ?_
 refine x1 _ _ ?_
 refine .done ?_
 refine W_seq_regc (fun T H => T 2 = (V.ms 3 (1 + k) 0 ((cat (l.take k)).length)) ∧ H 3 = (⟨1 + k, true, true, 3, 1, (List.map cI (cat (l.take k)))⟩ : Blk) ∧ True) ?_ ?_
 ·
  unfold r31_6
  refine R_mv t3 ?_
  refine R_mv (@rfl V (V.ms 3 (1 + k) 0 ((cat (l.take k)).length))) ?_
  exact R_nil ⟨rfl, h3, trivial⟩
 intro T H ⟨t2, h3, _⟩
 refine W_ret ?_
 refine Ret_1 t2 (fz_ms h3 (by first | rfl | simp) (l := (cat (l.take k))) rfl (by first | rfl | simp) (fun _ => by simp) ?_)
 · (have e : k = l.length := (by omega); subst e; rw [List.take_length])
end Go.Proofs.YtmnjchcoigbngaaGreat


namespace Go.Proofs.YtmnjchcoigbngaaGreat
open Go Go.Proofs
theorem raccess_pure (t : Dt) (hb : Bd t) : PureC Tryz.prog 41 [(V.agg [(V.sl (List.map cN (t.nd)))])] (V.sl (List.map cL (acL t.nd))) := by
 refine pure_of_Wb true 6 Tryz.func41 s41_ok (by kernel_rfl) (by simp [s41]) (by simp) (by simp) fun hB => ?_
 simp only [bnd_map, bnd_int, bnd_bool, bnd_str, bnd_agg, bnd_pp, bnd_nil, bnd_cons, implies_true, and_true, true_and] at hB
 unfold s41
 dsimp only
 have hbn := hb.n
 refine W_seq_regc (fun T H => T 1 = (V.mp 1 1 0 0) ∧ H 1 = (⟨1, true, false, 24, 1, [[(V.sl (List.map cN (t.nd)))]]⟩ : Blk) ∧ H 3 = (⟨0, false, false, 0, 0, []⟩ : Blk) ∧ True) ?_ ?_
 ·
  unfold r41_0
  refine R_box (i := 1) (n := 0) (m := 1) (cs := [(V.sl (List.map cN (t.nd)))]) rfl (congrArg Blk.ver rfl) (@rfl V (V.agg [(V.sl (List.map cN (t.nd)))])) rfl rfl ?_
  refine R_mv (@rfl V V.nilsl) ?_
  exact R_nil ⟨rfl, rfl, rfl, trivial⟩
 intro T H ⟨t1, h1, h3, _⟩
 refine W_seq_regc (fun T H => T 1 = (V.mp 1 1 0 0) ∧ T 3 = (V.ms 3 1 0 (0)) ∧ H 1 = (⟨1, true, false, 24, 1, [[(V.sl (List.map cN (t.nd)))]]⟩ : Blk) ∧ H 3 = (⟨1, true, true, 38, 1, []⟩ : Blk) ∧ True) ?_ ?_
 ·
  unfold r41_1
  refine R_lazy (i := 3) (n := 0) rfl (congrArg Blk.ver h3) ?_
  exact R_nil ⟨t1, rfl, h1, rfl, trivial⟩
 intro T H ⟨t1, t3, h1, h3, _⟩
 refine W_seq_seq ?_
 refine W_seq_regc (fun T H => T 1 = (V.mp 1 1 0 0) ∧ T 3 = (V.ms 3 1 0 (0)) ∧ T 4 = (iV (0 : Int)) ∧ H 1 = (⟨1, true, false, 24, 1, [[(V.sl (List.map cN (t.nd)))]]⟩ : Blk) ∧ H 3 = (⟨1, true, true, 38, 1, []⟩ : Blk) ∧ True) ?_ ?_
 ·
  unfold r41_2
  refine R_mv (@rfl V (iV (0 : Int))) ?_
  exact R_nil ⟨t1, t3, rfl, h1, h3, trivial⟩
 intro T H ⟨t1, t3, t4, h1, h3, _⟩
 refine W_seq_blockg fun Q1 n1 x1 y1 z1 => ?_
 refine W_loop (fun mm T H => ∃ (k : Nat) (v : Nat), mm = t.nd.length - k ∧ T 1 = (V.mp 1 1 0 0) ∧ T 3 = (V.ms 3 v 0 ((acL (t.nd.take k)).length)) ∧ T 4 = (iV ((k : Nat) : Int)) ∧ H 1 = (⟨1, true, false, 24, 1, [[(V.sl (List.map cN (t.nd)))]]⟩ : Blk) ∧ H 3 = (⟨v, true, true, 38, 1, (List.map cL (acL (t.nd.take k)))⟩ : Blk) ∧ (k ≤ t.nd.length)) ?_ ?_
 ·
  refine ⟨_, 0, 1, rfl, t1, (Eq.trans t3 (by first | rfl | (rw [acL_take (by omega), if_pos (by assumption), List.length_append]; rfl) | (rw [acL_take (by omega), if_neg (by assumption), List.append_nil]; done) | simp)), (Eq.trans t4 (by first | rfl | (rw [acL_take (by omega), if_pos (by assumption), List.length_append]; rfl) | (rw [acL_take (by omega), if_neg (by assumption), List.append_nil]; done) | simp)), h1, (Eq.trans h3 (by first | rfl | (rw [acL_take (by omega), if_pos (by assumption)]; simp [cat]; done) | (rw [acL_take (by omega), if_neg (by assumption), List.append_nil]; done) | simp)), ?_⟩
  · omega
 intro mm T H ⟨k, v, hmm, t1, t3, t4, h1, h3, hk⟩ Q2 p12 p22 p32
 unfold b41_0
 have q1 := acL_len (t.nd.take k)
 have q2 : (t.nd.take k).length ≤ k := by simp; omega
 refine W_seq_seq ?_
 refine W_seq_regc (fun T H => T 1 = (V.mp 1 1 0 0) ∧ T 3 = (V.ms 3 v 0 ((acL (t.nd.take k)).length)) ∧ T 4 = (iV ((k : Nat) : Int)) ∧ T 9 = (V.bool (decide (((k : Nat) : Int) < ((t.nd.length : Nat) : Int)))) ∧ H 1 = (⟨1, true, false, 24, 1, [[(V.sl (List.map cN (t.nd)))]]⟩ : Blk) ∧ H 3 = (⟨v, true, true, 38, 1, (List.map cL (acL (t.nd.take k)))⟩ : Blk) ∧ True) ?_ ?_
 ·
  unfold r41_3
  refine R_mv t4 ?_
  refine R_fld_mp (o' := 0) t1 h1 (by first | rfl | simp [okB, Blk.own]) rfl ?_
  refine R_load_mp (v := (V.sl (List.map cN (t.nd)))) (@rfl V (V.mp 1 1 0 0)) h1 (by first | rfl | simp [ldB, ldV, Blk.own, V.one]) ?_
  refine R_len (@rfl V (V.sl (List.map cN (t.nd)))) ?_
  refine R_lss (x := ((k : Nat) : Int)) (y := ((t.nd.length : Nat) : Int)) (@rfl V (iV ((k : Nat) : Int))) (@rfl V (iV ((t.nd.length : Nat) : Int))) ?_
  exact R_nil ⟨t1, t3, t4, rfl, h1, h3, trivial⟩
 intro T H ⟨t1, t3, t4, t9, h1, h3, _⟩
 refine W_seq_if (p := ((k : Nat) : Int) < ((t.nd.length : Nat) : Int)) t9 (fun c3 => ?_) (fun c3 => ?_)
 ·
  have r1 := hb.ac k (by omega)
  refine W_seq_skip ?_
  refine W_seq_blockg fun Q4 n4 x4 y4 z4 => ?_
  refine W_seq_regc (fun T H => T 1 = (V.mp 1 1 0 0) ∧ T 3 = (V.ms 3 v 0 ((acL (t.nd.take k)).length)) ∧ T 4 = (iV ((k : Nat) : Int)) ∧ T 17 = (V.bool (((nth (t.nd) (k))).lf)) ∧ H 1 = (⟨1, true, false, 24, 1, [[(V.sl (List.map cN (t.nd)))]]⟩ : Blk) ∧ H 3 = (⟨v, true, true, 38, 1, (List.map cL (acL (t.nd.take k)))⟩ : Blk) ∧ True) ?_ ?_
  ·
   unfold r41_5
   refine R_fld_mp (o' := 0) t1 h1 (by first | rfl | simp [okB, Blk.own]) rfl ?_
   refine R_load_mp (v := (V.sl (List.map cN (t.nd)))) (@rfl V (V.mp 1 1 0 0)) h1 (by first | rfl | simp [ldB, ldV, Blk.own, V.one]) ?_
   refine R_mv t4 ?_
   refine R_idx (i := k) (@rfl V (V.sl (List.map cN (t.nd)))) (@rfl V (iV ((k : Nat) : Int))) (by omega) rfl ?_
   refine R_fld_pp (cs' := [(V.bool (((nth (t.nd) (k))).lf)), (V.sl (List.map cI (((nth (t.nd) (k))).ac))), (V.sl (List.map cI (((nth (t.nd) (k))).sf))), (V.sl (List.map cL (((nth (t.nd) (k))).ou))), (V.sl (List.map cI (((nth (t.nd) (k))).kd)))]) (@rfl V (V.pp [(V.bool (((nth (t.nd) (k))).lf)), (V.sl (List.map cI (((nth (t.nd) (k))).ac))), (V.sl (List.map cI (((nth (t.nd) (k))).sf))), (V.sl (List.map cL (((nth (t.nd) (k))).ou))), (V.sl (List.map cI (((nth (t.nd) (k))).kd)))])) rfl ?_
   refine R_load_pp (v := (V.bool (((nth (t.nd) (k))).lf))) (@rfl V (V.pp [(V.bool (((nth (t.nd) (k))).lf)), (V.sl (List.map cI (((nth (t.nd) (k))).ac))), (V.sl (List.map cI (((nth (t.nd) (k))).sf))), (V.sl (List.map cL (((nth (t.nd) (k))).ou))), (V.sl (List.map cI (((nth (t.nd) (k))).kd)))])) (by first | rfl | simp [ldV]) ?_
   exact R_nil ⟨t1, t3, t4, rfl, h1, h3, trivial⟩
  intro T H ⟨t1, t3, t4, t17, h1, h3, _⟩
  refine W_ifb t17 (fun c5 => ?_) (fun c5 => ?_)
  ·
   have d1 : (nth t.nd k).lf = true := c5
   refine W_regc (fun T H => T 1 = (V.mp 1 1 0 0) ∧ T 3 = (V.ms 3 (v + 1) 0 (((acL (t.nd.take k)).length) + 1)) ∧ T 4 = (iV ((k : Nat) : Int)) ∧ H 1 = (⟨1, true, false, 24, 1, [[(V.sl (List.map cN (t.nd)))]]⟩ : Blk) ∧ H 3 = (⟨v + 1, true, true, 38, 1, (List.map cL (acL (t.nd.take k) ++ [cat ([((nth (t.nd) (k))).ac])]))⟩ : Blk) ∧ True) ?_ ?_
   ·
    unfold r41_6
    refine R_mv t3 ?_
    refine R_fld_mp (o' := 0) t1 h1 (by first | rfl | simp [okB, Blk.own]) rfl ?_
    refine R_load_mp (v := (V.sl (List.map cN (t.nd)))) (@rfl V (V.mp 1 1 0 0)) h1 (by first | rfl | simp [ldB, ldV, Blk.own, V.one]) ?_
    refine R_mv t4 ?_
    refine R_idx (i := k) (@rfl V (V.sl (List.map cN (t.nd)))) (@rfl V (iV ((k : Nat) : Int))) (by omega) rfl ?_
    refine R_fld_pp (cs' := [(V.sl (List.map cI (((nth (t.nd) (k))).ac))), (V.sl (List.map cI (((nth (t.nd) (k))).sf))), (V.sl (List.map cL (((nth (t.nd) (k))).ou))), (V.sl (List.map cI (((nth (t.nd) (k))).kd)))]) (@rfl V (V.pp [(V.bool (((nth (t.nd) (k))).lf)), (V.sl (List.map cI (((nth (t.nd) (k))).ac))), (V.sl (List.map cI (((nth (t.nd) (k))).sf))), (V.sl (List.map cL (((nth (t.nd) (k))).ou))), (V.sl (List.map cI (((nth (t.nd) (k))).kd)))])) rfl ?_
    refine R_load_pp (v := (V.sl (List.map cI (((nth (t.nd) (k))).ac)))) (@rfl V (V.pp [(V.sl (List.map cI (((nth (t.nd) (k))).ac))), (V.sl (List.map cI (((nth (t.nd) (k))).sf))), (V.sl (List.map cL (((nth (t.nd) (k))).ou))), (V.sl (List.map cI (((nth (t.nd) (k))).kd)))])) (by first | rfl | simp [ldV]) ?_
    refine R_bslice (qs := [(0, (V.sl (List.map cI (((nth (t.nd) (k))).ac))))]) (rows := [[(V.sl (List.map cI (((nth (t.nd) (k))).ac)))]]) (mcons (congrArg (fun v => (0, v)) (@rfl V (V.sl (List.map cI (((nth (t.nd) (k))).ac))))) rfl) rfl ?_
    refine R_call (evcons (@rfl V (V.sl [[(V.sl (List.map cI (((nth (t.nd) (k))).ac)))]])) evnil) (join_pure ([((nth (t.nd) (k))).ac]) (by simp [cat]; omega)) (fzv_mapcanon _ _ (by simp [-List.map_take, -List.map_drop, -List.map_append, -List.map_reverse])) (by simp [-List.map_take, -List.map_drop, -List.map_append, -List.map_reverse]) (Or.inl (by simp [-List.map_take, -List.map_drop, -List.map_append, -List.map_reverse])) ?_
    refine R_bslice (qs := [(0, (V.sl (List.map cI (cat ([((nth (t.nd) (k))).ac])))))]) (rows := [[(V.sl (List.map cI (cat ([((nth (t.nd) (k))).ac]))))]]) (mcons (congrArg (fun v => (0, v)) (@rfl V (V.sl (List.map cI (cat ([((nth (t.nd) (k))).ac])))))) rfl) rfl ?_
    refine R_append1 (l := (acL (t.nd.take k))) (f := cL) (x := (cat ([((nth (t.nd) (k))).ac]))) (@rfl V (V.ms 3 v 0 ((acL (t.nd.take k)).length))) h3 (by first | rfl | simp | omega) (@rfl V (V.sl [[(V.sl (List.map cI (cat ([((nth (t.nd) (k))).ac]))))]])) rfl rfl (by omega) (by omega) ?_
    refine R_mv (@rfl V (V.ms 3 (v + 1) 0 (((acL (t.nd.take k)).length) + 1))) ?_
    exact R_nil ⟨t1, rfl, t4, h1, rfl, trivial⟩
   intro T H ⟨t1, t3, t4, h1, h3, _⟩
   refine n4 _ _ ?_
   refine .done ?_
   refine W_regc (fun T H => T 1 = (V.mp 1 1 0 0) ∧ T 3 = (V.ms 3 (v + 1) 0 (((acL (t.nd.take k)).length) + 1)) ∧ T 4 = (iV ((k + 1 : Nat) : Int)) ∧ H 1 = (⟨1, true, false, 24, 1, [[(V.sl (List.map cN (t.nd)))]]⟩ : Blk) ∧ H 3 = (⟨v + 1, true, true, 38, 1, (List.map cL (acL (t.nd.take k) ++ [cat ([((nth (t.nd) (k))).ac])]))⟩ : Blk) ∧ True) ?_ ?_
   ·
    unfold r41_4
    refine R_mv t4 ?_
    refine R_addN (m := k) (n := 1) (@rfl V (iV ((k : Nat) : Int))) (@rfl V (iV ((1 : Nat) : Int))) (by omega) ?_
    refine R_mv (@rfl V (iV ((k + 1 : Nat) : Int))) ?_
    exact R_nil ⟨t1, t3, rfl, h1, h3, trivial⟩
   intro T H ⟨t1, t3, t4, h1, h3, _⟩
   refine p12 _ _ _ ?_ ⟨(k + 1), (v + 1), rfl, t1, (Eq.trans t3 (by first | rfl | (rw [acL_take (by omega), if_pos (by assumption), List.length_append]; rfl) | (rw [acL_take (by omega), if_neg (by assumption), List.append_nil]; done) | simp)), (Eq.trans t4 (by first | rfl | (rw [acL_take (by omega), if_pos (by assumption), List.length_append]; rfl) | (rw [acL_take (by omega), if_neg (by assumption), List.append_nil]; done) | simp)), h1, (Eq.trans h3 (by first | rfl | (rw [acL_take (by omega), if_pos (by assumption)]; simp [cat]; done) | (rw [acL_take (by omega), if_neg (by assumption), List.append_nil]; done) | simp)), ?_⟩
   · omega
   · omega
  have d1 : ¬(nth t.nd k).lf = true := by simpa using c5
  refine W_skip ?_
  refine n4 _ _ ?_
  refine .done ?_
  refine W_regc (fun T H => T 1 = (V.mp 1 1 0 0) ∧ T 3 = (V.ms 3 v 0 ((acL (t.nd.take k)).length)) ∧ T 4 = (iV ((k + 1 : Nat) : Int)) ∧ H 1 = (⟨1, true, false, 24, 1, [[(V.sl (List.map cN (t.nd)))]]⟩ : Blk) ∧ H 3 = (⟨v, true, true, 38, 1, (List.map cL (acL (t.nd.take k)))⟩ : Blk) ∧ True) ?_ ?_
  ·
   unfold r41_4
   refine R_mv t4 ?_
   refine R_addN (m := k) (n := 1) (@rfl V (iV ((k : Nat) : Int))) (@rfl V (iV ((1 : Nat) : Int))) (by omega) ?_
   refine R_mv (@rfl V (iV ((k + 1 : Nat) : Int))) ?_
   exact R_nil ⟨t1, t3, rfl, h1, h3, trivial⟩
  intro T H ⟨t1, t3, t4, h1, h3, _⟩
  refine p12 _ _ _ ?_ ⟨(k + 1), v, rfl, t1, (Eq.trans t3 (by first | rfl | (rw [acL_take (by omega), if_pos (by assumption), List.length_append]; rfl) | (rw [acL_take (by omega), if_neg (by assumption), List.append_nil]; done) | simp)), (Eq.trans t4 (by first | rfl | (rw [acL_take (by omega), if_pos (by assumption), List.length_append]; rfl) | (rw [acL_take (by omega), if_neg (by assumption), List.append_nil]; done) | simp)), h1, (Eq.trans h3 (by first | rfl | (rw [acL_take (by omega), if_pos (by assumption)]; simp [cat]; done) | (rw [acL_take (by omega), if_neg (by assumption), List.append_nil]; done) | simp)), ?_⟩
  · omega
  · omega
 refine W_seq_exit ?_
 refine p32 _ _ _ ?_
 refine x1 _ _ ?_
 refine .done ?_
 refine W_seq_regc (fun T H => T 2 = (V.ms 3 v 0 ((acL (t.nd.take k)).length)) ∧ H 1 = (⟨1, true, false, 24, 1, [[(V.sl (List.map cN (t.nd)))]]⟩ : Blk) ∧ H 3 = (⟨v, true, true, 38, 1, (List.map cL (acL (t.nd.take k)))⟩ : Blk) ∧ True) ?_ ?_
 ·
  unfold r41_7
  refine R_mv t3 ?_
  refine R_mv (@rfl V (V.ms 3 v 0 ((acL (t.nd.take k)).length))) ?_
  exact R_nil ⟨rfl, h1, h3, trivial⟩
 intro T H ⟨t2, h1, h3, _⟩
 refine W_ret ?_
 refine Ret_1 t2 (fz_ms h3 (by first | rfl | simp) (l := (acL (t.nd.take k))) rfl (by first | rfl | simp | omega) (fun _ => by simp) ?_)
 · rw [show k = t.nd.length by omega, List.take_length]
end Go.Proofs.YtmnjchcoigbngaaGreat


namespace Go.Proofs.YtmnjchcoigbngaaGreat
open Go Go.Proofs
def r42_0 : List SO := [
  ⟨none, some 2, .mv (.c (.nilsl))⟩]
def r42_1 : List SO := [
  ⟨none, some 3, .lazy 38 1⟩]
def r42_2 : List SO := [
  ⟨none, some 4, .mv (.c (.int .i64 0))⟩]
def r42_3 : List SO := [
  ⟨none, some 5, .mv (.t 4)⟩,
  ⟨none, some 6, .mv (.t 0)⟩,
  ⟨none, some 7, .len (.t 6)⟩,
  ⟨none, some 8, .bin .lss (.t 5) (.t 7)⟩]
def r42_5 : List SO := [
  ⟨none, some 11, .mv (.t 3)⟩,
  ⟨none, some 12, .mv (.t 0)⟩,
  ⟨none, some 13, .mv (.t 4)⟩,
  ⟨none, some 14, .idx 1 (.t 12) (.t 13)⟩,
  ⟨none, some 15, .load false 1 (.t 14)⟩,
  ⟨none, some 16, .call true 77 [.t 11, .t 15]⟩,
  ⟨none, some 3, .mv (.t 16)⟩]
def r42_4 : List SO := [
  ⟨none, some 9, .mv (.t 4)⟩,
  ⟨none, some 10, .bin .add (.t 9) (.c (.int .i64 1))⟩,
  ⟨none, some 4, .mv (.t 10)⟩]
def b42_0 : SC := .seq (.seq (.reg r42_3) (.cond (.t 8) (.skip) (.exit 0))) (.seq (.block 1 (.reg r42_5)) (.reg r42_4))
def r42_6 : List SO := [
  ⟨none, some 17, .mv (.t 3)⟩,
  ⟨none, some 2, .mv (.t 17)⟩]
def s42 : SF := ⟨18, [.tmp 2], .seq (.reg r42_0) (.seq (.reg r42_1) (.seq (.seq (.reg r42_2) (.block 0 (.loop b42_0))) (.seq (.reg r42_6) (.ret))))⟩
theorem s42_ok : slimF Tryz.prog ⟨[57, 58, 59, 63, 67, 68, 77, 102, 103, 104, 110, 116, 120], [3]⟩ Tryz.f42 = some s42 := by kernel_rfl
end Go.Proofs.YtmnjchcoigbngaaGreat


namespace Go.Proofs.YtmnjchcoigbngaaGreat
open Go Go.Proofs
def r77_0 : List SO := [
  ⟨none, some 4, .mv (.c (.nilsl))⟩]
def r77_1 : List SO := [
  ⟨none, some 7, .mv (.t 0)⟩,
  ⟨none, some 8, .mv (.t 1)⟩,
  ⟨none, some 9, .call false 108 [.t 7, .t 8]⟩,
  ⟨none, some 5, .mv (.t 9)⟩]
def r77_2 : List SO := [
  ⟨none, some 10, .mv (.t 5)⟩,
  ⟨none, some 11, .mv (.t 0)⟩,
  ⟨none, some 12, .len (.t 11)⟩,
  ⟨none, some 13, .bin .lss (.t 10) (.t 12)⟩,
  ⟨none, some 14, .mv (.t 13)⟩,
  ⟨some (14, true), some 15, .mv (.t 0)⟩,
  ⟨some (14, true), some 16, .mv (.t 5)⟩,
  ⟨some (14, true), some 17, .idx 1 (.t 15) (.t 16)⟩,
  ⟨some (14, true), some 18, .load false 1 (.t 17)⟩,
  ⟨some (14, true), some 19, .mv (.t 1)⟩,
  ⟨some (14, true), some 20, .call false 22 [.t 18, .t 19]⟩,
  ⟨none, some 21, .pick (.t 14) (.t 20) (.c (.bool false))⟩]
def r77_3 : List SO := [
  ⟨none, some 22, .mv (.t 0)⟩,
  ⟨none, some 4, .mv (.t 22)⟩]
def r77_4 : List SO := [
  ⟨none, some 23, .mv (.t 0)⟩,
  ⟨none, some 24, .bslice 38 1 false [.nilsl] 1 [(0, .c (.nilsl))]⟩,
  ⟨none, some 25, .append 38 1 24 (.t 23) (.t 24)⟩,
  ⟨none, some 0, .mv (.t 25)⟩]
def r77_5 : List SO := [
  ⟨none, some 26, .mv (.t 0)⟩,
  ⟨none, some 27, .len (.t 26)⟩,
  ⟨none, some 28, .bin .sub (.t 27) (.c (.int .i64 1))⟩,
  ⟨none, some 6, .mv (.t 28)⟩]
def r77_6 : List SO := [
  ⟨none, some 29, .mv (.t 6)⟩,
  ⟨none, some 30, .mv (.t 5)⟩,
  ⟨none, some 31, .bin .gtr (.t 29) (.t 30)⟩]
def r77_8 : List SO := [
  ⟨none, some 34, .mv (.t 0)⟩,
  ⟨none, some 35, .mv (.t 6)⟩,
  ⟨none, some 36, .mv (.t 0)⟩,
  ⟨none, some 37, .mv (.t 6)⟩,
  ⟨none, some 38, .bin .sub (.t 37) (.c (.int .i64 1))⟩,
  ⟨none, some 39, .idx 1 (.t 36) (.t 38)⟩,
  ⟨none, some 40, .load false 1 (.t 39)⟩,
  ⟨none, some 41, .idx 1 (.t 34) (.t 35)⟩,
  ⟨none, none, .store 1 (.t 41) (.t 40)⟩]
def r77_7 : List SO := [
  ⟨none, some 32, .mv (.t 6)⟩,
  ⟨none, some 33, .bin .sub (.t 32) (.c (.int .i64 1))⟩,
  ⟨none, some 6, .mv (.t 33)⟩]
def b77_0 : SC := .seq (.seq (.reg r77_6) (.cond (.t 31) (.skip) (.exit 0))) (.seq (.block 1 (.reg r77_8)) (.reg r77_7))
def r77_9 : List SO := [
  ⟨none, some 42, .mv (.t 0)⟩,
  ⟨none, some 43, .mv (.t 5)⟩,
  ⟨none, some 44, .lazy 3 1⟩,
  ⟨none, some 45, .mv (.t 1)⟩,
  ⟨none, some 46, .append 3 1 8 (.t 44) (.t 45)⟩,
  ⟨none, some 47, .idx 1 (.t 42) (.t 43)⟩,
  ⟨none, none, .store 1 (.t 47) (.t 46)⟩]
def r77_10 : List SO := [
  ⟨none, some 48, .mv (.t 0)⟩,
  ⟨none, some 4, .mv (.t 48)⟩]
def s77 : SF := ⟨49, [.tmp 4], .seq (.reg r77_0) (.seq (.reg r77_1) (.seq (.seq (.reg r77_2) (.cond (.t 21) (.seq (.reg r77_3) (.ret)) (.skip))) (.seq (.reg r77_4) (.seq (.seq (.reg r77_5) (.block 0 (.loop b77_0))) (.seq (.reg r77_9) (.seq (.reg r77_10) (.ret)))))))⟩
theorem s77_ok : slimF Tryz.prog ⟨[57, 58, 59, 63, 67, 68, 77, 102, 103, 104, 110, 116, 120], [44]⟩ Tryz.f77 = some s77 := by kernel_rfl
end Go.Proofs.YtmnjchcoigbngaaGreat


namespace Go.Proofs.YtmnjchcoigbngaaGreat
open Go Go.Proofs
def r108_0 : List SO := [
  ⟨none, some 4, .mv (.c (.int .i64 0))⟩]
def r108_1 : List SO := [
  ⟨none, some 8, .mv (.t 0)⟩,
  ⟨none, some 9, .len (.t 8)⟩,
  ⟨none, some 5, .mv (.c (.int .i64 0))⟩,
  ⟨none, some 6, .mv (.t 9)⟩]
def r108_2 : List SO := [
  ⟨none, some 10, .mv (.t 5)⟩,
  ⟨none, some 11, .mv (.t 6)⟩,
  ⟨none, some 12, .bin .lss (.t 10) (.t 11)⟩]
def r108_3 : List SO := [
  ⟨none, some 13, .mv (.t 5)⟩,
  ⟨none, some 14, .mv (.t 6)⟩,
  ⟨none, some 15, .bin .add (.t 13) (.t 14)⟩,
  ⟨none, some 16, .bin .quo (.t 15) (.c (.int .i64 2))⟩,
  ⟨none, some 7, .mv (.t 16)⟩]
def r108_4 : List SO := [
  ⟨none, some 17, .mv (.t 0)⟩,
  ⟨none, some 18, .mv (.t 7)⟩,
  ⟨none, some 19, .idx 1 (.t 17) (.t 18)⟩,
  ⟨none, some 20, .load false 1 (.t 19)⟩,
  ⟨none, some 21, .mv (.t 1)⟩,
  ⟨none, some 22, .call false 46 [.t 20, .t 21]⟩,
  ⟨none, some 23, .bin .lss (.t 22) (.c (.int .i64 0))⟩]
def r108_5 : List SO := [
  ⟨none, some 24, .mv (.t 7)⟩,
  ⟨none, some 25, .bin .add (.t 24) (.c (.int .i64 1))⟩,
  ⟨none, some 5, .mv (.t 25)⟩]
def r108_6 : List SO := [
  ⟨none, some 26, .mv (.t 7)⟩,
  ⟨none, some 6, .mv (.t 26)⟩]
def b108_0 : SC := .seq (.seq (.reg r108_2) (.cond (.t 12) (.skip) (.exit 0))) (.block 1 (.seq (.reg r108_3) (.seq (.reg r108_4) (.cond (.t 23) (.reg r108_5) (.reg r108_6)))))
def r108_7 : List SO := [
  ⟨none, some 27, .mv (.t 5)⟩,
  ⟨none, some 4, .mv (.t 27)⟩]
def s108 : SF := ⟨28, [.tmp 4], .seq (.reg r108_0) (.seq (.reg r108_1) (.seq (.block 0 (.loop b108_0)) (.seq (.reg r108_7) (.ret))))⟩
theorem s108_ok : slimF Tryz.prog ⟨[57, 58, 59, 63, 67, 68, 77, 102, 103, 104, 110, 116, 120], []⟩ Tryz.f108 = some s108 := by kernel_rfl
end Go.Proofs.YtmnjchcoigbngaaGreat


namespace Go.Proofs.YtmnjchcoigbngaaGreat
open Go Go.Proofs
def r46_0 : List SO := [
  ⟨none, some 4, .mv (.c (.int .i64 0))⟩]
def r46_1 : List SO := [
  ⟨none, some 5, .mv (.t 0)⟩,
  ⟨none, some 6, .len (.t 5)⟩,
  ⟨none, some 7, .mv (.t 1)⟩,
  ⟨none, some 8, .len (.t 7)⟩,
  ⟨none, some 9, .bin .lss (.t 6) (.t 8)⟩]
def r46_2 : List SO := [
  ⟨none, some 4, .mv (.c (.int .i64 (-1)))⟩]
def r46_3 : List SO := [
  ⟨none, some 10, .mv (.t 0)⟩,
  ⟨none, some 11, .len (.t 10)⟩,
  ⟨none, some 12, .mv (.t 1)⟩,
  ⟨none, some 13, .len (.t 12)⟩,
  ⟨none, some 14, .bin .gtr (.t 11) (.t 13)⟩]
def r46_4 : List SO := [
  ⟨none, some 4, .mv (.c (.int .i64 1))⟩]
def r46_5 : List SO := [
  ⟨none, some 15, .mv (.t 0)⟩,
  ⟨none, some 16, .mv (.t 1)⟩,
  ⟨none, some 17, .call false 76 [.t 15, .t 16]⟩,
  ⟨none, some 4, .mv (.t 17)⟩]
def s46 : SF := ⟨18, [.tmp 4], .seq (.reg r46_0) (.seq (.seq (.reg r46_1) (.cond (.t 9) (.seq (.reg r46_2) (.ret)) (.skip))) (.seq (.seq (.reg r46_3) (.cond (.t 14) (.seq (.reg r46_4) (.ret)) (.skip))) (.seq (.reg r46_5) (.ret))))⟩
theorem s46_ok : slimF Tryz.prog ⟨[57, 58, 59, 63, 67, 68, 77, 102, 103, 104, 110, 116, 120], []⟩ Tryz.f46 = some s46 := by kernel_rfl
end Go.Proofs.YtmnjchcoigbngaaGreat


namespace Go.Proofs.YtmnjchcoigbngaaGreat
open Go Go.Proofs
theorem rcompare_pure (a b : List Int) : PureC Tryz.prog 46 [(V.sl (List.map cI (a))), (V.sl (List.map cI (b)))] (iV (slx a b)) := by
 refine pure_of_Wb true 6 Tryz.func46 s46_ok (by kernel_rfl) (by simp [s46]) (by simp) (by simp) fun hB => ?_
 simp only [bnd_map, bnd_int, bnd_bool, bnd_str, bnd_agg, bnd_pp, bnd_nil, bnd_cons, implies_true, and_true, true_and] at hB
 unfold s46
 dsimp only
 refine W_seq_regc (fun T H => T 0 = (V.sl (List.map cI (a))) ∧ T 1 = (V.sl (List.map cI (b))) ∧ True) ?_ ?_
 ·
  unfold r46_0
  refine R_mv (@rfl V (iV (0 : Int))) ?_
  exact R_nil ⟨rfl, rfl, trivial⟩
 intro T H ⟨t0, t1, _⟩
 refine W_seq_seq ?_
 refine W_seq_regc (fun T H => T 0 = (V.sl (List.map cI (a))) ∧ T 1 = (V.sl (List.map cI (b))) ∧ T 9 = (V.bool (decide (((a.length : Nat) : Int) < ((b.length : Nat) : Int)))) ∧ True) ?_ ?_
 ·
  unfold r46_1
  refine R_mv t0 ?_
  refine R_len (@rfl V (V.sl (List.map cI (a)))) ?_
  refine R_mv t1 ?_
  refine R_len (@rfl V (V.sl (List.map cI (b)))) ?_
  refine R_lss (x := ((a.length : Nat) : Int)) (y := ((b.length : Nat) : Int)) (@rfl V (iV ((a.length : Nat) : Int))) (@rfl V (iV ((b.length : Nat) : Int))) ?_
  exact R_nil ⟨t0, t1, rfl, trivial⟩
 intro T H ⟨t0, t1, t9, _⟩
 refine W_seq_if (p := ((a.length : Nat) : Int) < ((b.length : Nat) : Int)) t9 (fun c1 => ?_) (fun c1 => ?_)
 ·
  refine W_seq_seq ?_
  refine W_seq_regc (fun T H => T 4 = (iV (-1 : Int)) ∧ True) ?_ ?_
  ·
   unfold r46_2
   refine R_mv (@rfl V (iV (-1 : Int))) ?_
   exact R_nil ⟨rfl, trivial⟩
  intro T H ⟨t4, _⟩
  refine W_seq_ret ?_
  refine Ret_1 t4 (fz_int ?_)
  · rw [slx, if_pos (by omega)]
 refine W_seq_skip ?_
 refine W_seq_seq ?_
 refine W_seq_regc (fun T H => T 0 = (V.sl (List.map cI (a))) ∧ T 1 = (V.sl (List.map cI (b))) ∧ T 14 = (V.bool (decide (((b.length : Nat) : Int) < ((a.length : Nat) : Int)))) ∧ True) ?_ ?_
 ·
  unfold r46_3
  refine R_mv t0 ?_
  refine R_len (@rfl V (V.sl (List.map cI (a)))) ?_
  refine R_mv t1 ?_
  refine R_len (@rfl V (V.sl (List.map cI (b)))) ?_
  refine R_gtr (x := ((a.length : Nat) : Int)) (y := ((b.length : Nat) : Int)) (@rfl V (iV ((a.length : Nat) : Int))) (@rfl V (iV ((b.length : Nat) : Int))) ?_
  exact R_nil ⟨t0, t1, rfl, trivial⟩
 intro T H ⟨t0, t1, t14, _⟩
 refine W_seq_if (p := ((b.length : Nat) : Int) < ((a.length : Nat) : Int)) t14 (fun c2 => ?_) (fun c2 => ?_)
 ·
  refine W_seq_seq ?_
  refine W_seq_regc (fun T H => T 4 = (iV (1 : Int)) ∧ True) ?_ ?_
  ·
   unfold r46_4
   refine R_mv (@rfl V (iV (1 : Int))) ?_
   exact R_nil ⟨rfl, trivial⟩
  intro T H ⟨t4, _⟩
  refine W_seq_ret ?_
  refine Ret_1 t4 (fz_int ?_)
  · rw [slx, if_neg (by omega), if_pos (by omega)]
 refine W_seq_skip ?_
 refine W_seq_regc (fun T H => T 4 = (iV (lexI a b)) ∧ True) ?_ ?_
 ·
  unfold r46_5
  refine R_mv t0 ?_
  refine R_mv t1 ?_
  refine R_call (evcons (@rfl V (V.sl (List.map cI (a)))) (evcons (@rfl V (V.sl (List.map cI (b)))) evnil)) (rlex_pure a b) (fzv_mapcanon _ _ (by simp [-List.map_take, -List.map_drop, -List.map_append, -List.map_reverse])) (by simp [-List.map_take, -List.map_drop, -List.map_append, -List.map_reverse]) (Or.inl (by simp [-List.map_take, -List.map_drop, -List.map_append, -List.map_reverse])) ?_
  refine R_mv (@rfl V (iV (lexI a b))) ?_
  exact R_nil ⟨rfl, trivial⟩
 intro T H ⟨t4, _⟩
 refine W_ret ?_
 refine Ret_1 t4 (fz_int ?_)
 · rw [slx, if_neg (by omega), if_neg (by omega)]
end Go.Proofs.YtmnjchcoigbngaaGreat


namespace Go.Proofs.YtmnjchcoigbngaaGreat
open Go Go.Proofs
theorem place_pure (l : List (List Int)) (w : List Int) (hs : SrtW l) (hl : l.length ≤ 1073741824) : PureC Tryz.prog 108 [(V.sl (List.map cL (l))), (V.sl (List.map cI (w)))] (iV ((plN l w : Nat) : Int)) := by
 refine pure_of_Wb true 6 Tryz.func108 s108_ok (by kernel_rfl) (by simp [s108]) (by simp) (by simp) fun hB => ?_
 simp only [bnd_map, bnd_int, bnd_bool, bnd_str, bnd_agg, bnd_pp, bnd_nil, bnd_cons, implies_true, and_true, true_and] at hB
 unfold s108
 dsimp only
 have q0 := pl_le (w := w) l
 refine W_seq_regc (fun T H => T 0 = (V.sl (List.map cL (l))) ∧ T 1 = (V.sl (List.map cI (w))) ∧ True) ?_ ?_
 ·
  unfold r108_0
  refine R_mv (@rfl V (iV (0 : Int))) ?_
  exact R_nil ⟨rfl, rfl, trivial⟩
 intro T H ⟨t0, t1, _⟩
 refine W_seq_regc (fun T H => T 0 = (V.sl (List.map cL (l))) ∧ T 1 = (V.sl (List.map cI (w))) ∧ T 5 = (iV (0 : Int)) ∧ T 6 = (iV ((l.length : Nat) : Int)) ∧ True) ?_ ?_
 ·
  unfold r108_1
  refine R_mv t0 ?_
  refine R_len (@rfl V (V.sl (List.map cL (l)))) ?_
  refine R_mv (@rfl V (iV (0 : Int))) ?_
  refine R_mv (@rfl V (iV ((l.length : Nat) : Int))) ?_
  exact R_nil ⟨t0, t1, rfl, rfl, trivial⟩
 intro T H ⟨t0, t1, t5, t6, _⟩
 refine W_seq_blockg fun Q1 n1 x1 y1 z1 => ?_
 refine W_loop (fun mm T H => ∃ (i : Nat) (j : Nat), mm = j - i ∧ T 0 = (V.sl (List.map cL (l))) ∧ T 1 = (V.sl (List.map cI (w))) ∧ T 5 = (iV ((i : Nat) : Int)) ∧ T 6 = (iV ((j : Nat) : Int)) ∧ (i ≤ plN l w) ∧ (plN l w ≤ j) ∧ (j ≤ l.length)) ?_ ?_
 ·
  refine ⟨_, 0, l.length, rfl, t0, t1, (Eq.trans t5 (by first | rfl | simp)), t6, ?_, ?_, ?_⟩
  · omega
  · omega
  · omega
 intro mm T H ⟨i, j, hmm, t0, t1, t5, t6, h1, h2, h3⟩ Q2 p12 p22 p32
 unfold b108_0
 refine W_seq_seq ?_
 refine W_seq_regc (fun T H => T 0 = (V.sl (List.map cL (l))) ∧ T 1 = (V.sl (List.map cI (w))) ∧ T 5 = (iV ((i : Nat) : Int)) ∧ T 6 = (iV ((j : Nat) : Int)) ∧ T 12 = (V.bool (decide (((i : Nat) : Int) < ((j : Nat) : Int)))) ∧ True) ?_ ?_
 ·
  unfold r108_2
  refine R_mv t5 ?_
  refine R_mv t6 ?_
  refine R_lss (x := ((i : Nat) : Int)) (y := ((j : Nat) : Int)) (@rfl V (iV ((i : Nat) : Int))) (@rfl V (iV ((j : Nat) : Int))) ?_
  exact R_nil ⟨t0, t1, t5, t6, rfl, trivial⟩
 intro T H ⟨t0, t1, t5, t6, t12, _⟩
 refine W_seq_if (p := ((i : Nat) : Int) < ((j : Nat) : Int)) t12 (fun c3 => ?_) (fun c3 => ?_)
 ·
  refine W_seq_skip ?_
  refine W_block fun Q4 n4 x4 y4 z4 => ?_
  refine W_seq_regc (fun T H => T 0 = (V.sl (List.map cL (l))) ∧ T 1 = (V.sl (List.map cI (w))) ∧ T 5 = (iV ((i : Nat) : Int)) ∧ T 6 = (iV ((j : Nat) : Int)) ∧ T 7 = (iV (((i + j) / 2 : Nat) : Int)) ∧ True) ?_ ?_
  ·
   unfold r108_3
   refine R_mv t5 ?_
   refine R_mv t6 ?_
   refine R_addN (m := i) (n := j) (@rfl V (iV ((i : Nat) : Int))) (@rfl V (iV ((j : Nat) : Int))) (by omega) ?_
   refine R_quo2 (n := (i + j)) (@rfl V (iV ((i + j : Nat) : Int))) (@rfl V (iV (2 : Int))) (by omega) ?_
   refine R_mv (@rfl V (iV (((i + j) / 2 : Nat) : Int))) ?_
   exact R_nil ⟨t0, t1, t5, t6, rfl, trivial⟩
  intro T H ⟨t0, t1, t5, t6, t7, _⟩
  refine W_seq_regc (fun T H => T 0 = (V.sl (List.map cL (l))) ∧ T 1 = (V.sl (List.map cI (w))) ∧ T 5 = (iV ((i : Nat) : Int)) ∧ T 6 = (iV ((j : Nat) : Int)) ∧ T 7 = (iV (((i + j) / 2 : Nat) : Int)) ∧ T 23 = (V.bool (decide ((slx ((nth (l) ((i + j) / 2))) w) < (0 : Int)))) ∧ True) ?_ ?_
  ·
   unfold r108_4
   refine R_mv t0 ?_
   refine R_mv t7 ?_
   refine R_idx (i := ((i + j) / 2)) (@rfl V (V.sl (List.map cL (l)))) (@rfl V (iV (((i + j) / 2 : Nat) : Int))) (by omega) rfl ?_
   refine R_load_pp (v := (V.sl (List.map cI ((nth (l) ((i + j) / 2)))))) (@rfl V (V.pp [(V.sl (List.map cI ((nth (l) ((i + j) / 2)))))])) (by first | rfl | simp [ldV]) ?_
   refine R_mv t1 ?_
   refine R_call (evcons (@rfl V (V.sl (List.map cI ((nth (l) ((i + j) / 2)))))) (evcons (@rfl V (V.sl (List.map cI (w)))) evnil)) (rcompare_pure ((nth (l) ((i + j) / 2))) w) (fzv_mapcanon _ _ (by simp [-List.map_take, -List.map_drop, -List.map_append, -List.map_reverse])) (by simp [-List.map_take, -List.map_drop, -List.map_append, -List.map_reverse]) (Or.inl (by simp [-List.map_take, -List.map_drop, -List.map_append, -List.map_reverse])) ?_
   refine R_lss (x := (slx ((nth (l) ((i + j) / 2))) w)) (y := (0 : Int)) (@rfl V (iV (slx ((nth (l) ((i + j) / 2))) w))) (@rfl V (iV (0 : Int))) ?_
   exact R_nil ⟨t0, t1, t5, t6, t7, rfl, trivial⟩
  intro T H ⟨t0, t1, t5, t6, t7, t23, _⟩
  refine W_if (p := (slx ((nth (l) ((i + j) / 2))) w) < (0 : Int)) t23 (fun c5 => ?_) (fun c5 => ?_)
  ·
   have d1 := (pl_iff hs (by omega)).1 c5
   refine W_regc (fun T H => T 0 = (V.sl (List.map cL (l))) ∧ T 1 = (V.sl (List.map cI (w))) ∧ T 5 = (iV ((((i + j) / 2) + 1 : Nat) : Int)) ∧ T 6 = (iV ((j : Nat) : Int)) ∧ True) ?_ ?_
   ·
    unfold r108_5
    refine R_mv t7 ?_
    refine R_addN (m := ((i + j) / 2)) (n := 1) (@rfl V (iV (((i + j) / 2 : Nat) : Int))) (@rfl V (iV ((1 : Nat) : Int))) (by omega) ?_
    refine R_mv (@rfl V (iV ((((i + j) / 2) + 1 : Nat) : Int))) ?_
    exact R_nil ⟨t0, t1, rfl, t6, trivial⟩
   intro T H ⟨t0, t1, t5, t6, _⟩
   refine n4 _ _ ?_
   refine p12 _ _ _ ?_ ⟨(((i + j) / 2) + 1), j, rfl, t0, t1, (Eq.trans t5 (by first | rfl | simp)), t6, ?_, ?_, ?_⟩
   · omega
   · omega
   · omega
   · omega
  have d1 : ¬((i + j) / 2 < plN l w) := fun e => c5 ((pl_iff hs (by omega)).2 e)
  refine W_regc (fun T H => T 0 = (V.sl (List.map cL (l))) ∧ T 1 = (V.sl (List.map cI (w))) ∧ T 5 = (iV ((i : Nat) : Int)) ∧ T 6 = (iV (((i + j) / 2 : Nat) : Int)) ∧ True) ?_ ?_
  ·
   unfold r108_6
   refine R_mv t7 ?_
   refine R_mv (@rfl V (iV (((i + j) / 2 : Nat) : Int))) ?_
   exact R_nil ⟨t0, t1, t5, rfl, trivial⟩
  intro T H ⟨t0, t1, t5, t6, _⟩
  refine n4 _ _ ?_
  refine p12 _ _ _ ?_ ⟨i, ((i + j) / 2), rfl, t0, t1, t5, (Eq.trans t6 (by first | rfl | simp)), ?_, ?_, ?_⟩
  · omega
  · omega
  · omega
  · omega
 refine W_seq_exit ?_
 refine p32 _ _ _ ?_
 refine x1 _ _ ?_
 refine .done ?_
 refine W_seq_regc (fun T H => T 4 = (iV ((i : Nat) : Int)) ∧ True) ?_ ?_
 ·
  unfold r108_7
  refine R_mv t5 ?_
  refine R_mv (@rfl V (iV ((i : Nat) : Int))) ?_
  exact R_nil ⟨rfl, trivial⟩
 intro T H ⟨t4, _⟩
 refine W_ret ?_
 refine Ret_1 t4 (fz_int ?_)
 · have e : i = plN l w := by omega
   rw [e]
end Go.Proofs.YtmnjchcoigbngaaGreat


namespace Go.Proofs.YtmnjchcoigbngaaGreat
open Go Go.Proofs
theorem with_E (l : List (List Int)) (w : List Int) (v3 v44 : Nat) (Hi : Heap) (h3 : Hi 3 = (⟨v3, true, true, 38, 1, (List.map cL (l))⟩ : Blk)) (h544 : (Hi 544).ver = v44) (hs : SrtW l) (hl : l.length ≤ 100000) (hw : w.length ≤ 1048576) : CallOK Tryz.prog 77 [(V.ms 3 v3 0 (l.length)), (V.sl (List.map cI (w)))] Hi (V.ms 3 (v3 + 1) 0 ((wiW l w).length)) (upd (upd Hi 544 (⟨v44 + 2, false, false, 0, 0, []⟩ : Blk)) 3 (⟨v3 + 1, true, true, 38, 1, (List.map cL (wiW l w))⟩ : Blk)) := by
 refine CallOK_of_Wf (k0 := 500) Tryz.func77 s77_ok (by kernel_rfl) (by simp [s77]) fun hB => ?_
 simp only [bnd_map, bnd_int, bnd_bool, bnd_str, bnd_agg, bnd_pp, bnd_nil, bnd_cons, implies_true, and_true, true_and] at hB
 have q0 := pl_le (w := w) l
 unfold s77
 dsimp only
 refine W_seq_regc (fun T H => T 0 = (V.ms 3 v3 0 (l.length)) ∧ T 1 = (V.sl (List.map cI (w))) ∧ (∀ j, j ∉ [544, 3] → H j = Hi j) ∧ H 3 = (⟨v3, true, true, 38, 1, (List.map cL (l))⟩ : Blk) ∧ (H 544).ver = v44 ∧ True) ?_ ?_
 ·
  unfold r77_0
  refine R_mv (@rfl V V.nilsl) ?_
  exact R_nil ⟨rfl, rfl, (fun _ _ => rfl), h3, h544, trivial⟩
 intro T H ⟨t0, t1, hF, h3, h544, _⟩
 refine W_seq_regc (fun T H => T 0 = (V.ms 3 v3 0 (l.length)) ∧ T 1 = (V.sl (List.map cI (w))) ∧ T 5 = (iV ((plN l w : Nat) : Int)) ∧ (∀ j, j ∉ [544, 3] → H j = Hi j) ∧ H 3 = (⟨v3, true, true, 38, 1, (List.map cL (l))⟩ : Blk) ∧ (H 544).ver = v44 ∧ True) ?_ ?_
 ·
  unfold r77_1
  refine R_mv t0 ?_
  refine R_mv t1 ?_
  refine R_call (evcons (@rfl V (V.ms 3 v3 0 (l.length))) (evcons (@rfl V (V.sl (List.map cI (w)))) evnil)) (place_pure l w hs (by omega)) (mcons (fz_mst h3 (by first | rfl | simp) (take_map (l := l) (by first | rfl | simp | omega)) (fun _ => by simp)) (mcons (fzv_canon 6 _ (by simp [-List.map_take, -List.map_drop, -List.map_append, -List.map_reverse])) rfl)) (by simp [-List.map_take, -List.map_drop, -List.map_append, -List.map_reverse]) (Or.inr rfl) ?_
  refine R_mv (@rfl V (iV ((plN l w : Nat) : Int))) ?_
  exact R_nil ⟨t0, t1, rfl, hF, h3, h544, trivial⟩
 intro T H ⟨t0, t1, t5, hF, h3, h544, _⟩
 refine W_seq_seq ?_
 refine W_seq_regc (fun T H => T 0 = (V.ms 3 v3 0 (l.length)) ∧ T 1 = (V.sl (List.map cI (w))) ∧ T 5 = (iV ((plN l w : Nat) : Int)) ∧ T 21 = (V.bool (decide ((((plN l w : Nat) : Int) < ((l.length : Nat) : Int)) ∧ (((nth (l) (plN l w))) = w)))) ∧ (∀ j, j ∉ [544, 3] → H j = Hi j) ∧ H 3 = (⟨v3, true, true, 38, 1, (List.map cL (l))⟩ : Blk) ∧ (H 544).ver = v44 ∧ True) ?_ ?_
 ·
  unfold r77_2
  refine R_mv t5 ?_
  refine R_mv t0 ?_
  refine R_len_ms (@rfl V (V.ms 3 v3 0 (l.length))) h3 (by first | rfl | simp) ?_
  refine R_lss (x := ((plN l w : Nat) : Int)) (y := ((l.length : Nat) : Int)) (@rfl V (iV ((plN l w : Nat) : Int))) (@rfl V (iV ((l.length : Nat) : Int))) ?_
  refine R_mv (@rfl V (V.bool (decide (((plN l w : Nat) : Int) < ((l.length : Nat) : Int))))) ?_
  refine Ops_seg 7 (fun T H => T 0 = (V.ms 3 v3 0 (l.length)) ∧ T 1 = (V.sl (List.map cI (w))) ∧ T 5 = (iV ((plN l w : Nat) : Int)) ∧ T 21 = (V.bool (decide ((((plN l w : Nat) : Int) < ((l.length : Nat) : Int)) ∧ (((nth (l) (plN l w))) = w)))) ∧ (∀ j, j ∉ [544, 3] → H j = Hi j) ∧ H 3 = (⟨v3, true, true, 38, 1, (List.map cL (l))⟩ : Blk) ∧ (H 544).ver = v44 ∧ True) ?_ ?_
  ·
   by_cases g1 : ((plN l w : Nat) : Int) < ((l.length : Nat) : Int)
   ·
    refine G_yes (Eq.trans (@rfl V (V.bool (decide (((plN l w : Nat) : Int) < ((l.length : Nat) : Int))))) (bdT g1)) ?_
    refine R_mv t0 ?_
    refine G_yes (Eq.trans (@rfl V (V.bool (decide (((plN l w : Nat) : Int) < ((l.length : Nat) : Int))))) (bdT g1)) ?_
    refine R_mv t5 ?_
    refine G_yes (Eq.trans (@rfl V (V.bool (decide (((plN l w : Nat) : Int) < ((l.length : Nat) : Int))))) (bdT g1)) ?_
    refine R_idx_ms0 (i := (plN l w)) (@rfl V (V.ms 3 v3 0 (l.length))) (@rfl V (iV ((plN l w : Nat) : Int))) h3 (okB_map (by omega)) rfl (by omega) ?_
    refine G_yes (Eq.trans (@rfl V (V.bool (decide (((plN l w : Nat) : Int) < ((l.length : Nat) : Int))))) (bdT g1)) ?_
    refine R_load_mp (v := (V.sl (List.map cI ((nth (l) (plN l w)))))) (@rfl V (V.mp 3 v3 (plN l w) 0)) h3 (ldB_map (by omega) (by first | rfl | simp [ldV, V.one])) ?_
    refine G_yes (Eq.trans (@rfl V (V.bool (decide (((plN l w : Nat) : Int) < ((l.length : Nat) : Int))))) (bdT g1)) ?_
    refine R_mv t1 ?_
    refine G_yes (Eq.trans (@rfl V (V.bool (decide (((plN l w : Nat) : Int) < ((l.length : Nat) : Int))))) (bdT g1)) ?_
    refine R_call (evcons (@rfl V (V.sl (List.map cI ((nth (l) (plN l w)))))) (evcons (@rfl V (V.sl (List.map cI (w)))) evnil)) (rsame1_pure ((nth (l) (plN l w))) w) (fzv_mapcanon _ _ (by simp [-List.map_take, -List.map_drop, -List.map_append, -List.map_reverse])) (by simp [-List.map_take, -List.map_drop, -List.map_append, -List.map_reverse]) (Or.inl (by simp [-List.map_take, -List.map_drop, -List.map_append, -List.map_reverse])) ?_
    refine R_pickT (Eq.trans (@rfl V (V.bool (decide (((plN l w : Nat) : Int) < ((l.length : Nat) : Int))))) (bdT g1)) (@rfl V (V.bool (decide (((nth (l) (plN l w))) = w)))) ?_
    exact ⟨t0, t1, t5, (Eq.trans (@rfl V (V.bool (decide (((nth (l) (plN l w))) = w)))) (dec_andT g1)), hF, h3, h544, trivial⟩
   ·
    refine G_no (Eq.trans (@rfl V (V.bool (decide (((plN l w : Nat) : Int) < ((l.length : Nat) : Int))))) (bdF g1)) (by decide) ?_
    refine G_no (Eq.trans (@rfl V (V.bool (decide (((plN l w : Nat) : Int) < ((l.length : Nat) : Int))))) (bdF g1)) (by decide) ?_
    refine G_no (Eq.trans (@rfl V (V.bool (decide (((plN l w : Nat) : Int) < ((l.length : Nat) : Int))))) (bdF g1)) (by decide) ?_
    refine G_no (Eq.trans (@rfl V (V.bool (decide (((plN l w : Nat) : Int) < ((l.length : Nat) : Int))))) (bdF g1)) (by decide) ?_
    refine G_no (Eq.trans (@rfl V (V.bool (decide (((plN l w : Nat) : Int) < ((l.length : Nat) : Int))))) (bdF g1)) (by decide) ?_
    refine G_no (Eq.trans (@rfl V (V.bool (decide (((plN l w : Nat) : Int) < ((l.length : Nat) : Int))))) (bdF g1)) (by decide) ?_
    refine R_pickF (Eq.trans (@rfl V (V.bool (decide (((plN l w : Nat) : Int) < ((l.length : Nat) : Int))))) (bdF g1)) (@rfl V (V.bool false)) ?_
    exact ⟨t0, t1, t5, (Eq.trans (@rfl V (V.bool false)) (dec_andF g1)), hF, h3, h544, trivial⟩
  intro T H ⟨t0, t1, t5, t21, hF, h3, h544, _⟩
  exact R_nil ⟨t0, t1, t5, t21, hF, h3, h544, trivial⟩
 intro T H ⟨t0, t1, t5, t21, hF, h3, h544, _⟩
 refine W_seq_if (p := (((plN l w : Nat) : Int) < ((l.length : Nat) : Int)) ∧ (((nth (l) (plN l w))) = w)) t21 (fun c2 => ?_) (fun c2 => ?_)
 ·
  have d1 : wiH l w := by simpa [wiH] using c2
  have hwi := wi_yes d1
  refine W_seq_seq ?_
  refine W_seq_regc (fun T H => T 4 = (V.ms 3 v3 0 (l.length)) ∧ (∀ j, j ∉ [544, 3] → H j = Hi j) ∧ H 3 = (⟨v3, true, true, 38, 1, (List.map cL (l))⟩ : Blk) ∧ (H 544).ver = v44 ∧ True) ?_ ?_
  ·
   unfold r77_3
   refine R_mv t0 ?_
   refine R_mv (@rfl V (V.ms 3 v3 0 (l.length))) ?_
   exact R_nil ⟨rfl, hF, h3, h544, trivial⟩
  intro T H ⟨t4, hF, h3, h544, _⟩
  refine W_seq_ret ?_
  skip
  have fh := FinX.fin (FinX.put (B := (⟨v3 + 1, true, true, 38, 1, (List.map cL (wiW l w))⟩ : Blk)) (FinX.putv (n := v44) (B := (⟨v44 + 2, false, false, 0, 0, []⟩ : Blk)) (FinX.start hF) h544 (by show _ ≤ v44 + 2; omega) rfl) h3 (FinB.up (by omega) (by first | rfl | (rw [hwi]; done) | (rw [mv_top]; done) | (rw [show (((j : Nat) : Int) - (1 : Int)).toNat = j - 1 by omega, mv_step (by omega) hj]; done) | (rw [show j = plN l w by omega, mv_end q0, hwi]; rfl) | simp)))
  exact RetF_1 t4 fh (FinV.trans_eq (FinV.ms (n := (v3 + 1)) fh (by simp [h3]) (by simp [h3]) rfl rfl) (by first | rfl | (rw [hwi]; done) | (congr 1; omega) | (rw [hwi]; simp; omega) | (exact congrArg (V.int .i64) (by omega)) | simp))
 have d1 : ¬wiH l w := fun q => by have q := wi_ok.1 q; simp [q] at c2
 have hwi := wi_no d1
 refine W_seq_skip ?_
 refine W_seq_g (fun T H => T 0 = (V.ms 3 (v3 + 1) 0 (l.length + 1)) ∧ T 1 = (V.sl (List.map cI (w))) ∧ T 5 = (iV ((plN l w : Nat) : Int)) ∧ (∀ j, j ∉ [544, 3] → H j = Hi j) ∧ H 3 = (⟨v3 + 1, true, true, 38, 1, (List.map cL (l) ++ List.replicate (1) [V.nilsl])⟩ : Blk) ∧ (H 544).ver = v44 ∧ True) ?_ ?_
 ·
  unfold r77_4
  refine R_mv t0 ?_
  refine R_bslice (qs := [(0, V.nilsl)]) (rows := [[V.nilsl]]) (mcons (congrArg (fun v => (0, v)) (@rfl V V.nilsl)) rfl) rfl ?_
  refine R_appendZ (l := l) (f := cL) (z := [.nilsl]) (@rfl V (V.ms 3 v3 0 (l.length))) h3 (by first | rfl | simp | omega) (@rfl V (V.sl [[V.nilsl]])) rfl rfl (by omega) (by omega) ?_
  refine R_mv (@rfl V (V.ms 3 (v3 + 1) 0 (l.length + 1))) ?_
  exact R_nil ⟨rfl, t1, t5, (upd_out hF (by decide)), rfl, h544, trivial⟩
 intro T H ⟨t0, t1, t5, hF, h3, h544, _⟩
 refine nil_cell (x := []) (f := cL) (l := l) h3 rfl (.done ?_)
 refine W_seq_seq ?_
 refine W_seq_regc (fun T H => T 0 = (V.ms 3 (v3 + 1) 0 (l.length + 1)) ∧ T 1 = (V.sl (List.map cI (w))) ∧ T 5 = (iV ((plN l w : Nat) : Int)) ∧ T 6 = (iV (((l.length + 1 : Nat) : Int) - (1 : Int))) ∧ (∀ j, j ∉ [544, 3] → H j = Hi j) ∧ H 3 = (⟨v3 + 1, true, true, 38, 1, (List.map cL (l ++ [[]]))⟩ : Blk) ∧ (H 544).ver = v44 ∧ True) ?_ ?_
 ·
  unfold r77_5
  refine R_mv t0 ?_
  refine R_len_ms (@rfl V (V.ms 3 (v3 + 1) 0 (l.length + 1))) (@rfl Blk (⟨v3 + 1, true, true, 38, 1, (List.map cL (l ++ [[]]))⟩ : Blk)) (by first | rfl | simp) ?_
  refine R_sub (x := ((l.length + 1 : Nat) : Int)) (y := (1 : Int)) (@rfl V (iV ((l.length + 1 : Nat) : Int))) (@rfl V (iV (1 : Int))) (by omega) (by omega) ?_
  refine R_mv (@rfl V (iV (((l.length + 1 : Nat) : Int) - (1 : Int)))) ?_
  exact R_nil ⟨t0, t1, t5, rfl, (upd_out hF (by decide)), rfl, ((congrArg Blk.ver (upd_ne _ _ (by decide))).trans h544), trivial⟩
 intro T H ⟨t0, t1, t5, t6, hF, h3, h544, _⟩
 refine W_seq_blockg fun Q3 n3 x3 y3 z3 => ?_
 refine W_loop (fun mm T H => ∃ (j : Nat), mm = j ∧ T 0 = (V.ms 3 (v3 + 1) 0 (l.length + 1)) ∧ T 1 = (V.sl (List.map cI (w))) ∧ T 5 = (iV ((plN l w : Nat) : Int)) ∧ T 6 = (iV ((j : Nat) : Int)) ∧ (∀ j, j ∉ [544, 3] → H j = Hi j) ∧ H 3 = (⟨v3 + 1, true, true, 38, 1, (List.map cL (mvL l j))⟩ : Blk) ∧ (H 544).ver = v44 ∧ (j ≤ l.length) ∧ (plN l w ≤ j)) ?_ ?_
 ·
  refine ⟨_, l.length, rfl, t0, t1, t5, (Eq.trans t6 (by first | rfl | (rw [hwi]; done) | (congr 1; omega) | (rw [hwi]; simp; omega) | (exact congrArg (V.int .i64) (by omega)) | simp)), hF, (Eq.trans h3 (by first | rfl | (rw [hwi]; done) | (rw [mv_top]; done) | (rw [show (((j : Nat) : Int) - (1 : Int)).toNat = j - 1 by omega, mv_step (by omega) hj]; done) | (rw [show j = plN l w by omega, mv_end q0, hwi]; rfl) | simp)), h544, ?_, ?_⟩
  · omega
  · omega
 intro mm T H ⟨j, hmm, t0, t1, t5, t6, hF, h3, h544, hj, hp⟩ Q4 p14 p24 p34
 unfold b77_0
 have q1 := mv_len hj
 refine W_seq_seq ?_
 refine W_seq_regc (fun T H => T 0 = (V.ms 3 (v3 + 1) 0 (l.length + 1)) ∧ T 1 = (V.sl (List.map cI (w))) ∧ T 5 = (iV ((plN l w : Nat) : Int)) ∧ T 6 = (iV ((j : Nat) : Int)) ∧ T 31 = (V.bool (decide (((plN l w : Nat) : Int) < ((j : Nat) : Int)))) ∧ (∀ j, j ∉ [544, 3] → H j = Hi j) ∧ H 3 = (⟨v3 + 1, true, true, 38, 1, (List.map cL (mvL l j))⟩ : Blk) ∧ (H 544).ver = v44 ∧ True) ?_ ?_
 ·
  unfold r77_6
  refine R_mv t6 ?_
  refine R_mv t5 ?_
  refine R_gtr (x := ((j : Nat) : Int)) (y := ((plN l w : Nat) : Int)) (@rfl V (iV ((j : Nat) : Int))) (@rfl V (iV ((plN l w : Nat) : Int))) ?_
  exact R_nil ⟨t0, t1, t5, t6, rfl, hF, h3, h544, trivial⟩
 intro T H ⟨t0, t1, t5, t6, t31, hF, h3, h544, _⟩
 refine W_seq_if (p := ((plN l w : Nat) : Int) < ((j : Nat) : Int)) t31 (fun c5 => ?_) (fun c5 => ?_)
 ·
  refine W_seq_skip ?_
  refine W_seq_blockg fun Q6 n6 x6 y6 z6 => ?_
  refine W_regc (fun T H => T 0 = (V.ms 3 (v3 + 1) 0 (l.length + 1)) ∧ T 1 = (V.sl (List.map cI (w))) ∧ T 5 = (iV ((plN l w : Nat) : Int)) ∧ T 6 = (iV ((j : Nat) : Int)) ∧ (∀ j, j ∉ [544, 3] → H j = Hi j) ∧ H 3 = (⟨v3 + 1, true, true, 38, 1, (List.map cL ((mvL l j).set j ((nth (mvL l j) (((((j : Nat) : Int) - (1 : Int))).toNat)))))⟩ : Blk) ∧ (H 544).ver = v44 ∧ True) ?_ ?_
  ·
   unfold r77_8
   refine R_mv t0 ?_
   refine R_mv t6 ?_
   refine R_mv t0 ?_
   refine R_mv t6 ?_
   refine R_sub (x := ((j : Nat) : Int)) (y := (1 : Int)) (@rfl V (iV ((j : Nat) : Int))) (@rfl V (iV (1 : Int))) (by omega) (by omega) ?_
   refine R_idxI_ms0 (i := (((j : Nat) : Int) - (1 : Int))) (@rfl V (V.ms 3 (v3 + 1) 0 (l.length + 1))) (@rfl V (iV (((j : Nat) : Int) - (1 : Int)))) h3 (okB_map (by omega)) rfl (by omega) (by omega) ?_
   refine R_load_mp (v := (V.sl (List.map cI ((nth (mvL l j) (((((j : Nat) : Int) - (1 : Int))).toNat)))))) (@rfl V (V.mp 3 (v3 + 1) (((((j : Nat) : Int) - (1 : Int))).toNat) 0)) h3 (ldB_map (by omega) (by first | rfl | simp [ldV, V.one])) ?_
   refine R_idx_ms0 (i := j) (@rfl V (V.ms 3 (v3 + 1) 0 (l.length + 1))) (@rfl V (iV ((j : Nat) : Int))) h3 (okB_map (by omega)) rfl (by omega) ?_
   refine R_store (vs := [(V.sl (List.map cI ((nth (mvL l j) (((((j : Nat) : Int) - (1 : Int))).toNat)))))]) (B' := (⟨v3 + 1, true, true, 38, 1, (List.map cL ((mvL l j).set j ((nth (mvL l j) (((((j : Nat) : Int) - (1 : Int))).toNat)))))⟩ : Blk)) (@rfl V (V.mp 3 (v3 + 1) j 0)) (@rfl V (V.sl (List.map cI ((nth (mvL l j) (((((j : Nat) : Int) - (1 : Int))).toNat)))))) rfl h3 (stB_map (x := ((nth (mvL l j) (((((j : Nat) : Int) - (1 : Int))).toNat)))) (i := j) (by omega) rfl rfl rfl rfl) ?_
   exact R_nil ⟨t0, t1, t5, t6, (upd_out hF (by decide)), rfl, h544, trivial⟩
  intro T H ⟨t0, t1, t5, t6, hF, h3, h544, _⟩
  refine n6 _ _ ?_
  refine .done ?_
  refine W_regc (fun T H => T 0 = (V.ms 3 (v3 + 1) 0 (l.length + 1)) ∧ T 1 = (V.sl (List.map cI (w))) ∧ T 5 = (iV ((plN l w : Nat) : Int)) ∧ T 6 = (iV (((j : Nat) : Int) - (1 : Int))) ∧ (∀ j, j ∉ [544, 3] → H j = Hi j) ∧ H 3 = (⟨v3 + 1, true, true, 38, 1, (List.map cL ((mvL l j).set j ((nth (mvL l j) (((((j : Nat) : Int) - (1 : Int))).toNat)))))⟩ : Blk) ∧ (H 544).ver = v44 ∧ True) ?_ ?_
  ·
   unfold r77_7
   refine R_mv t6 ?_
   refine R_sub (x := ((j : Nat) : Int)) (y := (1 : Int)) (@rfl V (iV ((j : Nat) : Int))) (@rfl V (iV (1 : Int))) (by omega) (by omega) ?_
   refine R_mv (@rfl V (iV (((j : Nat) : Int) - (1 : Int)))) ?_
   exact R_nil ⟨t0, t1, t5, rfl, hF, h3, h544, trivial⟩
  intro T H ⟨t0, t1, t5, t6, hF, h3, h544, _⟩
  refine p14 _ _ _ ?_ ⟨(j - 1), rfl, t0, t1, t5, (Eq.trans t6 (by first | rfl | (rw [hwi]; done) | (congr 1; omega) | (rw [hwi]; simp; omega) | (exact congrArg (V.int .i64) (by omega)) | simp)), hF, (Eq.trans h3 (by first | rfl | (rw [hwi]; done) | (rw [mv_top]; done) | (rw [show (((j : Nat) : Int) - (1 : Int)).toNat = j - 1 by omega, mv_step (by omega) hj]; done) | (rw [show j = plN l w by omega, mv_end q0, hwi]; rfl) | simp)), h544, ?_, ?_⟩
  · omega
  · omega
  · omega
 refine W_seq_exit ?_
 refine p34 _ _ _ ?_
 refine x3 _ _ ?_
 refine .done ?_
 refine W_seq_g (fun T H => T 0 = (V.ms 3 (v3 + 1) 0 (l.length + 1)) ∧ (∀ j, j ∉ [544, 3] → H j = Hi j) ∧ H 3 = (⟨v3 + 1, true, true, 38, 1, ((List.map cL (mvL l j)).set (plN l w) [(V.ms 544 (v44 + 2) 0 (0 + (w).length))])⟩ : Blk) ∧ H 544 = (⟨v44 + 2, true, true, 3, 1, (List.map cI ([] ++ w))⟩ : Blk) ∧ True) ?_ ?_
 ·
  unfold r77_9
  refine R_mv t0 ?_
  refine R_mv t5 ?_
  refine R_lazy (i := 544) (n := v44) (by rfl) h544 ?_
  refine R_mv t1 ?_
  refine R_appendS (l := ([])) (m := w) (f := cI) (@rfl V (V.ms 544 (v44 + 1) 0 (0))) (show _ = (⟨v44 + 1, true, true, 3, 1, (List.map cI ([]))⟩ : Blk) from (@rfl Blk (⟨v44 + 1, true, true, 3, 1, []⟩ : Blk))) (by first | rfl | simp | omega) (@rfl V (V.sl (List.map cI (w)))) (fun _ => rfl) (fun _ => rfl) (by omega) (by omega) ?_
  refine R_idx_ms0 (i := (plN l w)) (@rfl V (V.ms 3 (v3 + 1) 0 (l.length + 1))) (@rfl V (iV ((plN l w : Nat) : Int))) h3 (okB_map (by omega)) rfl (by omega) ?_
  refine R_store (vs := [(V.ms 544 (v44 + 2) 0 (0 + (w).length))]) (B' := (⟨v3 + 1, true, true, 38, 1, ((List.map cL (mvL l j)).set (plN l w) [(V.ms 544 (v44 + 2) 0 (0 + (w).length))])⟩ : Blk)) (@rfl V (V.mp 3 (v3 + 1) (plN l w) 0)) (@rfl V (V.ms 544 (v44 + 2) 0 (0 + (w).length))) rfl h3 (stB_setc (i := (plN l w)) (by omega) rfl rfl rfl) ?_
  exact R_nil ⟨t0, (upd_out (upd_out (upd_out hF (by decide)) (by decide)) (by decide)), rfl, rfl, trivial⟩
 intro T H ⟨t0, hF, h3, h544, _⟩
 refine frz_cellg (id := 544) (id2 := 3) (rows := (List.map cL (mvL l j))) (i := (plN l w)) (off := 0) (r := [(V.ms 544 (v44 + 2) 0 (0 + (w).length))]) (m := ([] ++ w)) (g := cI) (by decide) h544 h3 (by first | omega | (simp; omega) | (simp; done)) (by first | rfl | simp | omega) rfl (.done ?_)
 refine fork_ (R := fun T H => T 0 = (V.ms 3 (v3 + 1) 0 (l.length + 1)) ∧ (∀ j, j ∉ [544, 3] → H j = Hi j) ∧ H 3 = (⟨v3 + 1, true, true, 38, 1, (List.map cL ((mvL l j).set (plN l w) ([] ++ w)))⟩ : Blk) ∧ ((H 544).ver = v44 + 2 ∧ (H 544).live = false) ∧ True) ⟨(fzT_q t0 (fzq_other (by decide))), (upd_out (kill_out hF (by decide)) (by decide)), (Eq.trans (upd_same _ _ _) (by first | (rw [List.map_set]; done) | (rw [List.map_set]; rfl))), ⟨(congrArg Blk.ver (upd_ne _ _ (by decide))).trans (kill_self (congrArg Blk.ver h544)).1, (congrArg Blk.live (upd_ne _ _ (by decide))).trans (kill_self (congrArg Blk.ver h544)).2⟩, trivial⟩ ?_
 clear t0 hF h3 h544 T H
 intro T H ⟨t0, hF, h3, h544, _⟩
 refine W_seq_regc (fun T H => T 4 = (V.ms 3 (v3 + 1) 0 (l.length + 1)) ∧ (∀ j, j ∉ [544, 3] → H j = Hi j) ∧ H 3 = (⟨v3 + 1, true, true, 38, 1, (List.map cL ((mvL l j).set (plN l w) ([] ++ w)))⟩ : Blk) ∧ ((H 544).ver = v44 + 2 ∧ (H 544).live = false) ∧ True) ?_ ?_
 ·
  unfold r77_10
  refine R_mv t0 ?_
  refine R_mv (@rfl V (V.ms 3 (v3 + 1) 0 (l.length + 1))) ?_
  exact R_nil ⟨rfl, hF, h3, h544, trivial⟩
 intro T H ⟨t4, hF, h3, h544, _⟩
 refine W_ret ?_
 skip
 have fh := FinX.fin (FinX.put (B := (⟨v3 + 1, true, true, 38, 1, (List.map cL (wiW l w))⟩ : Blk)) (FinX.putv (n := (v44 + 2)) (B := (⟨v44 + 2, false, false, 0, 0, []⟩ : Blk)) (FinX.start hF) (h544).1 (by show _ ≤ v44 + 2; omega) rfl) h3 (FinB.eq (by first | rfl | (rw [hwi]; done) | (rw [mv_top]; done) | (rw [show (((j : Nat) : Int) - (1 : Int)).toNat = j - 1 by omega, mv_step (by omega) hj]; done) | (rw [show j = plN l w by omega, mv_end q0, hwi]; rfl) | simp)))
 exact RetF_1 t4 fh (FinV.trans_eq (FinV.same fh _) (by first | rfl | (rw [hwi]; done) | (congr 1; omega) | (rw [hwi]; simp; omega) | (exact congrArg (V.int .i64) (by omega)) | simp))
end Go.Proofs.YtmnjchcoigbngaaGreat


namespace Go.Proofs.YtmnjchcoigbngaaGreat
open Go Go.Proofs
theorem rsorted_pure (l : List (List Int)) (hl : l.length ≤ 10000) (hw : ∀ w ∈ l, w.length ≤ 1048576) : PureC Tryz.prog 42 [(V.sl (List.map cL (l)))] (V.sl (List.map cL (sdW l))) := by
 refine pure_of_Wb true 6 Tryz.func42 s42_ok (by kernel_rfl) (by simp [s42]) (by simp) (by simp) fun hB => ?_
 simp only [bnd_map, bnd_int, bnd_bool, bnd_str, bnd_agg, bnd_pp, bnd_nil, bnd_cons, implies_true, and_true, true_and] at hB
 unfold s42
 dsimp only
 refine W_seq_regc (fun T H => T 0 = (V.sl (List.map cL (l))) ∧ H 3 = (⟨0, false, false, 0, 0, []⟩ : Blk) ∧ H 544 = (⟨0, false, false, 0, 0, []⟩ : Blk) ∧ True) ?_ ?_
 ·
  unfold r42_0
  refine R_mv (@rfl V V.nilsl) ?_
  exact R_nil ⟨rfl, rfl, rfl, trivial⟩
 intro T H ⟨t0, h3, h544, _⟩
 refine W_seq_regc (fun T H => T 0 = (V.sl (List.map cL (l))) ∧ T 3 = (V.ms 3 1 0 (0)) ∧ H 3 = (⟨1, true, true, 38, 1, []⟩ : Blk) ∧ H 544 = (⟨0, false, false, 0, 0, []⟩ : Blk) ∧ True) ?_ ?_
 ·
  unfold r42_1
  refine R_lazy (i := 3) (n := 0) rfl (congrArg Blk.ver h3) ?_
  exact R_nil ⟨t0, rfl, rfl, h544, trivial⟩
 intro T H ⟨t0, t3, h3, h544, _⟩
 refine W_seq_seq ?_
 refine W_seq_regc (fun T H => T 0 = (V.sl (List.map cL (l))) ∧ T 3 = (V.ms 3 1 0 (0)) ∧ T 4 = (iV (0 : Int)) ∧ H 3 = (⟨1, true, true, 38, 1, []⟩ : Blk) ∧ H 544 = (⟨0, false, false, 0, 0, []⟩ : Blk) ∧ True) ?_ ?_
 ·
  unfold r42_2
  refine R_mv (@rfl V (iV (0 : Int))) ?_
  exact R_nil ⟨t0, t3, rfl, h3, h544, trivial⟩
 intro T H ⟨t0, t3, t4, h3, h544, _⟩
 refine W_seq_blockg fun Q1 n1 x1 y1 z1 => ?_
 refine W_loop (fun mm T H => ∃ (k : Nat) (v : Nat) (v544 : Nat), mm = l.length - k ∧ T 0 = (V.sl (List.map cL (l))) ∧ T 3 = (V.ms 3 v 0 ((sdW (l.take k)).length)) ∧ T 4 = (iV ((k : Nat) : Int)) ∧ H 3 = (⟨v, true, true, 38, 1, (List.map cL (sdW (l.take k)))⟩ : Blk) ∧ (H 544).ver = v544 ∧ (k ≤ l.length)) ?_ ?_
 ·
  refine ⟨_, 0, 1, 0, rfl, t0, (Eq.trans t3 (by first | rfl | (rw [sdW_take (by omega)]; done))), (Eq.trans t4 (by first | rfl | (rw [sdW_take (by omega)]; done))), (Eq.trans h3 (by first | rfl | (rw [sdW_take (by omega)]; done))), (congrArg Blk.ver h544), ?_⟩
  · omega
 intro mm T H ⟨k, v, v544, hmm, t0, t3, t4, h3, h544, hk⟩ Q2 p12 p22 p32
 unfold b42_0
 have q1 := sdW_len (l.take k)
 have q2 : (l.take k).length ≤ k := by simp; omega
 refine W_seq_seq ?_
 refine W_seq_regc (fun T H => T 0 = (V.sl (List.map cL (l))) ∧ T 3 = (V.ms 3 v 0 ((sdW (l.take k)).length)) ∧ T 4 = (iV ((k : Nat) : Int)) ∧ T 8 = (V.bool (decide (((k : Nat) : Int) < ((l.length : Nat) : Int)))) ∧ H 3 = (⟨v, true, true, 38, 1, (List.map cL (sdW (l.take k)))⟩ : Blk) ∧ (H 544).ver = v544 ∧ True) ?_ ?_
 ·
  unfold r42_3
  refine R_mv t4 ?_
  refine R_mv t0 ?_
  refine R_len (@rfl V (V.sl (List.map cL (l)))) ?_
  refine R_lss (x := ((k : Nat) : Int)) (y := ((l.length : Nat) : Int)) (@rfl V (iV ((k : Nat) : Int))) (@rfl V (iV ((l.length : Nat) : Int))) ?_
  exact R_nil ⟨t0, t3, t4, rfl, h3, h544, trivial⟩
 intro T H ⟨t0, t3, t4, t8, h3, h544, _⟩
 refine W_seq_if (p := ((k : Nat) : Int) < ((l.length : Nat) : Int)) t8 (fun c3 => ?_) (fun c3 => ?_)
 ·
  refine W_seq_skip ?_
  refine W_seq_blockg fun Q4 n4 x4 y4 z4 => ?_
  refine W_regc (fun T H => T 0 = (V.sl (List.map cL (l))) ∧ T 3 = (V.ms 3 (v + 1) 0 ((wiW (sdW (l.take k)) ((nth (l) (k)))).length)) ∧ T 4 = (iV ((k : Nat) : Int)) ∧ H 3 = (⟨v + 1, true, true, 38, 1, (List.map cL (wiW (sdW (l.take k)) ((nth (l) (k)))))⟩ : Blk) ∧ H 544 = (⟨v544 + 2, false, false, 0, 0, []⟩ : Blk) ∧ True) ?_ ?_
  ·
   unfold r42_5
   refine R_mv t3 ?_
   refine R_mv t0 ?_
   refine R_mv t4 ?_
   refine R_idx (i := k) (@rfl V (V.sl (List.map cL (l)))) (@rfl V (iV ((k : Nat) : Int))) (by omega) rfl ?_
   refine R_load_pp (v := (V.sl (List.map cI ((nth (l) (k)))))) (@rfl V (V.pp [(V.sl (List.map cI ((nth (l) (k)))))])) (by first | rfl | simp [ldV]) ?_
   refine R_callE (evcons (@rfl V (V.ms 3 v 0 ((sdW (l.take k)).length))) (evcons (@rfl V (V.sl (List.map cI ((nth (l) (k)))))) evnil)) (with_E (sdW (l.take k)) ((nth (l) (k))) v v544 _ h3 h544 (sdW_srt _) (by omega) (hw _ (nth_mem (by omega)))) ?_
   refine R_mv (@rfl V (V.ms 3 (v + 1) 0 ((wiW (sdW (l.take k)) ((nth (l) (k)))).length))) ?_
   exact R_nil ⟨t0, rfl, t4, rfl, rfl, trivial⟩
  intro T H ⟨t0, t3, t4, h3, h544, _⟩
  refine n4 _ _ ?_
  refine .done ?_
  refine W_regc (fun T H => T 0 = (V.sl (List.map cL (l))) ∧ T 3 = (V.ms 3 (v + 1) 0 ((wiW (sdW (l.take k)) ((nth (l) (k)))).length)) ∧ T 4 = (iV ((k + 1 : Nat) : Int)) ∧ H 3 = (⟨v + 1, true, true, 38, 1, (List.map cL (wiW (sdW (l.take k)) ((nth (l) (k)))))⟩ : Blk) ∧ H 544 = (⟨v544 + 2, false, false, 0, 0, []⟩ : Blk) ∧ True) ?_ ?_
  ·
   unfold r42_4
   refine R_mv t4 ?_
   refine R_addN (m := k) (n := 1) (@rfl V (iV ((k : Nat) : Int))) (@rfl V (iV ((1 : Nat) : Int))) (by omega) ?_
   refine R_mv (@rfl V (iV ((k + 1 : Nat) : Int))) ?_
   exact R_nil ⟨t0, t3, rfl, h3, h544, trivial⟩
  intro T H ⟨t0, t3, t4, h3, h544, _⟩
  refine p12 _ _ _ ?_ ⟨(k + 1), (v + 1), (v544 + 2), rfl, t0, (Eq.trans t3 (by first | rfl | (rw [sdW_take (by omega)]; done))), (Eq.trans t4 (by first | rfl | (rw [sdW_take (by omega)]; done))), (Eq.trans h3 (by first | rfl | (rw [sdW_take (by omega)]; done))), (congrArg Blk.ver h544), ?_⟩
  · omega
  · omega
 refine W_seq_exit ?_
 refine p32 _ _ _ ?_
 refine x1 _ _ ?_
 refine .done ?_
 refine W_seq_regc (fun T H => T 2 = (V.ms 3 v 0 ((sdW (l.take k)).length)) ∧ H 3 = (⟨v, true, true, 38, 1, (List.map cL (sdW (l.take k)))⟩ : Blk) ∧ (H 544).ver = v544 ∧ True) ?_ ?_
 ·
  unfold r42_6
  refine R_mv t3 ?_
  refine R_mv (@rfl V (V.ms 3 v 0 ((sdW (l.take k)).length))) ?_
  exact R_nil ⟨rfl, h3, h544, trivial⟩
 intro T H ⟨t2, h3, h544, _⟩
 refine W_ret ?_
 refine Ret_1 t2 (fz_ms h3 (by first | rfl | simp) (l := (sdW (l.take k))) rfl (by first | rfl | simp | omega) (fun _ => by simp) ?_)
 · rw [show k = l.length by omega, List.take_length]
end Go.Proofs.YtmnjchcoigbngaaGreat


namespace Go.Proofs.YtmnjchcoigbngaaGreat
open Go Go.Proofs
theorem rdvalid_pure (t : Dt) (hb : Bd t) : PureC Tryz.prog 12 [(V.agg [(V.sl (List.map cN (t.nd)))])] (iV (dvE t)) := by
 refine pure_of_Wb true 6 Tryz.func12 s12_ok (by kernel_rfl) (by simp [s12]) (by simp) (by simp) fun hB => ?_
 simp only [bnd_map, bnd_int, bnd_bool, bnd_str, bnd_agg, bnd_pp, bnd_nil, bnd_cons, implies_true, and_true, true_and] at hB
 unfold s12
 dsimp only
 refine W_seq_regc (fun T H => T 1 = (V.mp 1 1 0 0) ∧ H 1 = (⟨1, true, false, 24, 1, [[(V.sl (List.map cN (t.nd)))]]⟩ : Blk) ∧ True) ?_ ?_
 ·
  unfold r12_0
  refine R_box (i := 1) (n := 0) (m := 1) (cs := [(V.sl (List.map cN (t.nd)))]) rfl (congrArg Blk.ver rfl) (@rfl V (V.agg [(V.sl (List.map cN (t.nd)))])) rfl rfl ?_
  refine R_mv (@rfl V (iV (0 : Int))) ?_
  exact R_nil ⟨rfl, rfl, trivial⟩
 intro T H ⟨t1, h1, _⟩
 refine W_seq_seq ?_
 refine W_seq_regc (fun T H => T 1 = (V.mp 1 1 0 0) ∧ T 9 = (V.bool (decide (((t.nd.length : Nat) : Int) = (0 : Int)))) ∧ H 1 = (⟨1, true, false, 24, 1, [[(V.sl (List.map cN (t.nd)))]]⟩ : Blk) ∧ True) ?_ ?_
 ·
  unfold r12_1
  refine R_fld_mp (o' := 0) t1 h1 (by first | rfl | simp [okB, Blk.own]) rfl ?_
  refine R_load_mp (v := (V.sl (List.map cN (t.nd)))) (@rfl V (V.mp 1 1 0 0)) h1 (by first | rfl | simp [ldB, ldV, Blk.own, V.one]) ?_
  refine R_len (@rfl V (V.sl (List.map cN (t.nd)))) ?_
  refine R_eql (x := ((t.nd.length : Nat) : Int)) (y := (0 : Int)) (@rfl V (iV ((t.nd.length : Nat) : Int))) (@rfl V (iV (0 : Int))) ?_
  exact R_nil ⟨t1, rfl, h1, trivial⟩
 intro T H ⟨t1, t9, h1, _⟩
 refine W_seq_if (p := ((t.nd.length : Nat) : Int) = (0 : Int)) t9 (fun c1 => ?_) (fun c1 => ?_)
 ·
  refine W_seq_seq ?_
  refine W_seq_regc (fun T H => T 2 = (iV (19 : Int)) ∧ H 1 = (⟨1, true, false, 24, 1, [[(V.sl (List.map cN (t.nd)))]]⟩ : Blk) ∧ True) ?_ ?_
  ·
   unfold r12_2
   refine R_mv (@rfl V (iV (19 : Int))) ?_
   exact R_nil ⟨rfl, h1, trivial⟩
  intro T H ⟨t2, h1, _⟩
  refine W_seq_ret ?_
  refine Ret_1 t2 (fz_int ?_)
  · rw [dvE, if_pos (by omega)]
 refine W_seq_skip ?_
 refine W_seq_seq ?_
 refine W_seq_regc (fun T H => T 1 = (V.mp 1 1 0 0) ∧ T 13 = (V.bool (decide ((4096 : Int) < ((t.nd.length : Nat) : Int)))) ∧ H 1 = (⟨1, true, false, 24, 1, [[(V.sl (List.map cN (t.nd)))]]⟩ : Blk) ∧ True) ?_ ?_
 ·
  unfold r12_3
  refine R_fld_mp (o' := 0) t1 h1 (by first | rfl | simp [okB, Blk.own]) rfl ?_
  refine R_load_mp (v := (V.sl (List.map cN (t.nd)))) (@rfl V (V.mp 1 1 0 0)) h1 (by first | rfl | simp [ldB, ldV, Blk.own, V.one]) ?_
  refine R_len (@rfl V (V.sl (List.map cN (t.nd)))) ?_
  refine R_gtr (x := ((t.nd.length : Nat) : Int)) (y := (4096 : Int)) (@rfl V (iV ((t.nd.length : Nat) : Int))) (@rfl V (iV (4096 : Int))) ?_
  exact R_nil ⟨t1, rfl, h1, trivial⟩
 intro T H ⟨t1, t13, h1, _⟩
 refine W_seq_if (p := (4096 : Int) < ((t.nd.length : Nat) : Int)) t13 (fun c2 => ?_) (fun c2 => ?_)
 ·
  refine W_seq_seq ?_
  refine W_seq_regc (fun T H => T 2 = (iV (11 : Int)) ∧ H 1 = (⟨1, true, false, 24, 1, [[(V.sl (List.map cN (t.nd)))]]⟩ : Blk) ∧ True) ?_ ?_
  ·
   unfold r12_4
   refine R_mv (@rfl V (iV (11 : Int))) ?_
   exact R_nil ⟨rfl, h1, trivial⟩
  intro T H ⟨t2, h1, _⟩
  refine W_seq_ret ?_
  refine Ret_1 t2 (fz_int ?_)
  · rw [dvE, if_neg (by omega), if_pos (by omega)]
 refine W_seq_skip ?_
 refine W_seq_seq ?_
 refine W_seq_regc (fun T H => T 1 = (V.mp 1 1 0 0) ∧ T 3 = (iV (0 : Int)) ∧ H 1 = (⟨1, true, false, 24, 1, [[(V.sl (List.map cN (t.nd)))]]⟩ : Blk) ∧ True) ?_ ?_
 ·
  unfold r12_5
  refine R_mv (@rfl V (iV (0 : Int))) ?_
  exact R_nil ⟨t1, rfl, h1, trivial⟩
 intro T H ⟨t1, t3, h1, _⟩
 refine W_seq_blockg fun Q3 n3 x3 y3 z3 => ?_
 refine W_loop (fun mm T H => ∃ (k : Nat), mm = t.nd.length - k ∧ T 1 = (V.mp 1 1 0 0) ∧ T 3 = (iV ((k : Nat) : Int)) ∧ H 1 = (⟨1, true, false, 24, 1, [[(V.sl (List.map cN (t.nd)))]]⟩ : Blk) ∧ (k ≤ t.nd.length) ∧ (0 < t.nd.length) ∧ (t.nd.length ≤ 4096) ∧ (∀ j, j < k → ndE (nth t.nd j) t.nd.length = 0) ∧ (fe (fun k => ndE (nth t.nd k) t.nd.length) 0 t.nd.length = fe (fun k => ndE (nth t.nd k) t.nd.length) k (t.nd.length - k))) ?_ ?_
 ·
  refine ⟨_, 0, rfl, t1, (Eq.trans t3 (by first | rfl | simp)), h1, ?_, ?_, ?_, ?_, ?_⟩
  · omega
  · omega
  · omega
  · intro j hj; omega
  · rfl
 intro mm T H ⟨k, hmm, t1, t3, h1, hk, g0, g1, hp, hc⟩ Q4 p14 p24 p34
 unfold b12_0
 refine W_seq_seq ?_
 refine W_seq_regc (fun T H => T 1 = (V.mp 1 1 0 0) ∧ T 3 = (iV ((k : Nat) : Int)) ∧ T 18 = (V.bool (decide (((k : Nat) : Int) < ((t.nd.length : Nat) : Int)))) ∧ H 1 = (⟨1, true, false, 24, 1, [[(V.sl (List.map cN (t.nd)))]]⟩ : Blk) ∧ True) ?_ ?_
 ·
  unfold r12_6
  refine R_mv t3 ?_
  refine R_fld_mp (o' := 0) t1 h1 (by first | rfl | simp [okB, Blk.own]) rfl ?_
  refine R_load_mp (v := (V.sl (List.map cN (t.nd)))) (@rfl V (V.mp 1 1 0 0)) h1 (by first | rfl | simp [ldB, ldV, Blk.own, V.one]) ?_
  refine R_len (@rfl V (V.sl (List.map cN (t.nd)))) ?_
  refine R_lss (x := ((k : Nat) : Int)) (y := ((t.nd.length : Nat) : Int)) (@rfl V (iV ((k : Nat) : Int))) (@rfl V (iV ((t.nd.length : Nat) : Int))) ?_
  exact R_nil ⟨t1, t3, rfl, h1, trivial⟩
 intro T H ⟨t1, t3, t18, h1, _⟩
 refine W_seq_if (p := ((k : Nat) : Int) < ((t.nd.length : Nat) : Int)) t18 (fun c5 => ?_) (fun c5 => ?_)
 ·
  have r2 := hb.ou k (by omega)
  have r3 := hb.kd k (by omega)
  refine W_seq_skip ?_
  refine W_seq_blockg fun Q6 n6 x6 y6 z6 => ?_
  refine W_seq_regc (fun T H => T 1 = (V.mp 1 1 0 0) ∧ T 3 = (iV ((k : Nat) : Int)) ∧ T 4 = (iV (ndE (((nth (t.nd) (k)))) t.nd.length)) ∧ H 1 = (⟨1, true, false, 24, 1, [[(V.sl (List.map cN (t.nd)))]]⟩ : Blk) ∧ True) ?_ ?_
  ·
   unfold r12_8
   refine R_load_mp (v := (V.agg [(V.sl (List.map cN (t.nd)))])) t1 h1 (by first | rfl | simp [ldB, ldV, Blk.own, V.one]) ?_
   refine R_fld_mp (o' := 0) t1 h1 (by first | rfl | simp [okB, Blk.own]) rfl ?_
   refine R_load_mp (v := (V.sl (List.map cN (t.nd)))) (@rfl V (V.mp 1 1 0 0)) h1 (by first | rfl | simp [ldB, ldV, Blk.own, V.one]) ?_
   refine R_mv t3 ?_
   refine R_idx (i := k) (@rfl V (V.sl (List.map cN (t.nd)))) (@rfl V (iV ((k : Nat) : Int))) (by omega) rfl ?_
   refine R_load_pp (v := (V.agg [(V.bool (((nth (t.nd) (k))).lf)), (V.sl (List.map cI (((nth (t.nd) (k))).ac))), (V.sl (List.map cI (((nth (t.nd) (k))).sf))), (V.sl (List.map cL (((nth (t.nd) (k))).ou))), (V.sl (List.map cI (((nth (t.nd) (k))).kd)))])) (@rfl V (V.pp [(V.bool (((nth (t.nd) (k))).lf)), (V.sl (List.map cI (((nth (t.nd) (k))).ac))), (V.sl (List.map cI (((nth (t.nd) (k))).sf))), (V.sl (List.map cL (((nth (t.nd) (k))).ou))), (V.sl (List.map cI (((nth (t.nd) (k))).kd)))])) (by first | rfl | simp [ldV]) ?_
   refine R_call (evcons (@rfl V (V.agg [(V.sl (List.map cN (t.nd)))])) (evcons (@rfl V (V.agg [(V.bool (((nth (t.nd) (k))).lf)), (V.sl (List.map cI (((nth (t.nd) (k))).ac))), (V.sl (List.map cI (((nth (t.nd) (k))).sf))), (V.sl (List.map cL (((nth (t.nd) (k))).ou))), (V.sl (List.map cI (((nth (t.nd) (k))).kd)))])) evnil)) (rnode_pure t (((nth (t.nd) (k)))) (by first | omega | assumption) (by first | omega | assumption)) (fzv_mapcanon _ _ (by simp [-List.map_take, -List.map_drop, -List.map_append, -List.map_reverse])) (by simp [-List.map_take, -List.map_drop, -List.map_append, -List.map_reverse]) (Or.inl (by simp [-List.map_take, -List.map_drop, -List.map_append, -List.map_reverse])) ?_
   refine R_mv (@rfl V (iV (ndE (((nth (t.nd) (k)))) t.nd.length))) ?_
   exact R_nil ⟨t1, t3, rfl, h1, trivial⟩
  intro T H ⟨t1, t3, t4, h1, _⟩
  refine W_seq_regc (fun T H => T 1 = (V.mp 1 1 0 0) ∧ T 3 = (iV ((k : Nat) : Int)) ∧ T 4 = (iV (ndE (((nth (t.nd) (k)))) t.nd.length)) ∧ T 29 = (V.bool (decide ((ndE (((nth (t.nd) (k)))) t.nd.length) ≠ (0 : Int)))) ∧ H 1 = (⟨1, true, false, 24, 1, [[(V.sl (List.map cN (t.nd)))]]⟩ : Blk) ∧ True) ?_ ?_
  ·
   unfold r12_9
   refine R_mv t4 ?_
   refine R_neq (x := (ndE (((nth (t.nd) (k)))) t.nd.length)) (y := (0 : Int)) (@rfl V (iV (ndE (((nth (t.nd) (k)))) t.nd.length))) (@rfl V (iV (0 : Int))) ?_
   exact R_nil ⟨t1, t3, t4, rfl, h1, trivial⟩
  intro T H ⟨t1, t3, t4, t29, h1, _⟩
  refine W_if (p := (ndE (((nth (t.nd) (k)))) t.nd.length) ≠ (0 : Int)) t29 (fun c7 => ?_) (fun c7 => ?_)
  ·
   have d1 : ndE (nth t.nd k) t.nd.length ≠ 0 := c7
   refine W_seq_regc (fun T H => T 2 = (iV (ndE (((nth (t.nd) (k)))) t.nd.length)) ∧ H 1 = (⟨1, true, false, 24, 1, [[(V.sl (List.map cN (t.nd)))]]⟩ : Blk) ∧ True) ?_ ?_
   ·
    unfold r12_10
    refine R_mv t4 ?_
    refine R_mv (@rfl V (iV (ndE (((nth (t.nd) (k)))) t.nd.length))) ?_
    exact R_nil ⟨rfl, h1, trivial⟩
   intro T H ⟨t2, h1, _⟩
   refine W_ret ?_
   refine y6 _ _ ?_
   refine p24 _ _ ?_
   refine y3 _ _ ?_
   refine Ret_1 t2 (fz_int ?_)
   · have e : fe (fun k => ndE (nth t.nd k) t.nd.length) 0 t.nd.length = ndE (nth t.nd k) t.nd.length := by rw [hc]; exact fe_hit (e := fun k => ndE (nth t.nd k) t.nd.length) d1 (by omega)
     rw [dvE, if_neg (by omega), if_neg (by omega), if_pos (by rw [e]; exact d1), e]
  have d1 : ndE (nth t.nd k) t.nd.length = 0 := by omega
  refine W_skip ?_
  refine n6 _ _ ?_
  refine .done ?_
  refine W_regc (fun T H => T 1 = (V.mp 1 1 0 0) ∧ T 3 = (iV ((k + 1 : Nat) : Int)) ∧ H 1 = (⟨1, true, false, 24, 1, [[(V.sl (List.map cN (t.nd)))]]⟩ : Blk) ∧ True) ?_ ?_
  ·
   unfold r12_7
   refine R_mv t3 ?_
   refine R_addN (m := k) (n := 1) (@rfl V (iV ((k : Nat) : Int))) (@rfl V (iV ((1 : Nat) : Int))) (by omega) ?_
   refine R_mv (@rfl V (iV ((k + 1 : Nat) : Int))) ?_
   exact R_nil ⟨t1, rfl, h1, trivial⟩
  intro T H ⟨t1, t3, h1, _⟩
  refine p14 _ _ _ ?_ ⟨(k + 1), rfl, t1, (Eq.trans t3 (by first | rfl | simp)), h1, ?_, ?_, ?_, ?_, ?_⟩
  · omega
  · omega
  · omega
  · omega
  · intro i hi
    by_cases e : i = k
    · subst e; exact d1
    · exact hp i (by omega)
  · rw [hc, fe_skip (e := fun k => ndE (nth t.nd k) t.nd.length) (by exact d1) (by omega)]
 have hall : ∀ j, j < t.nd.length → ndE (nth t.nd j) t.nd.length = 0 := fun j hj => hp j (by omega)
 have hki : KI t := nds_ki g0 hall
 have hz : fe (fun k => ndE (nth t.nd k) t.nd.length) 0 t.nd.length = 0 := by rw [hc, fe_end (by omega)]
 have haw : ∀ w ∈ acL t.nd, w.length ≤ 1048576 := ac_len hb
 have hal := acL_len t.nd
 refine W_seq_exit ?_
 refine p34 _ _ _ ?_
 refine x3 _ _ ?_
 refine .done ?_
 refine W_seq_seq ?_
 refine W_seq_regc (fun T H => T 1 = (V.mp 1 1 0 0) ∧ T 33 = (V.bool ((!whB t))) ∧ H 1 = (⟨1, true, false, 24, 1, [[(V.sl (List.map cN (t.nd)))]]⟩ : Blk) ∧ True) ?_ ?_
 ·
  unfold r12_11
  refine R_load_mp (v := (V.agg [(V.sl (List.map cN (t.nd)))])) t1 h1 (by first | rfl | simp [ldB, ldV, Blk.own, V.one]) ?_
  refine R_call (evcons (@rfl V (V.agg [(V.sl (List.map cN (t.nd)))])) evnil) (whole_pure t hki hb) (fzv_mapcanon _ _ (by simp [-List.map_take, -List.map_drop, -List.map_append, -List.map_reverse])) (by simp [-List.map_take, -List.map_drop, -List.map_append, -List.map_reverse]) (Or.inl (by simp [-List.map_take, -List.map_drop, -List.map_append, -List.map_reverse])) ?_
  refine R_notb (@rfl V (V.bool (whB t))) ?_
  exact R_nil ⟨t1, rfl, h1, trivial⟩
 intro T H ⟨t1, t33, h1, _⟩
 refine W_seq_ifb t33 (fun c8 => ?_) (fun c8 => ?_)
 ·
  have d3 : whB t = false := by simpa using c8
  refine W_seq_seq ?_
  refine W_seq_regc (fun T H => T 2 = (iV (1 : Int)) ∧ H 1 = (⟨1, true, false, 24, 1, [[(V.sl (List.map cN (t.nd)))]]⟩ : Blk) ∧ True) ?_ ?_
  ·
   unfold r12_12
   refine R_mv (@rfl V (iV (1 : Int))) ?_
   exact R_nil ⟨rfl, h1, trivial⟩
  intro T H ⟨t2, h1, _⟩
  refine W_seq_ret ?_
  refine Ret_1 t2 (fz_int ?_)
  · rw [dvE, if_neg (by omega), if_neg (by omega), if_neg (by rw [hz]; simp), if_pos d3]
 have d3 : whB t = true := by simpa using c8
 refine W_seq_skip ?_
 refine W_seq_regc (fun T H => T 5 = (V.sl (List.map cL (acL t.nd))) ∧ H 1 = (⟨1, true, false, 24, 1, [[(V.sl (List.map cN (t.nd)))]]⟩ : Blk) ∧ True) ?_ ?_
 ·
  unfold r12_13
  refine R_load_mp (v := (V.agg [(V.sl (List.map cN (t.nd)))])) t1 h1 (by first | rfl | simp [ldB, ldV, Blk.own, V.one]) ?_
  refine R_call (evcons (@rfl V (V.agg [(V.sl (List.map cN (t.nd)))])) evnil) (raccess_pure t hb) (fzv_mapcanon _ _ (by simp [-List.map_take, -List.map_drop, -List.map_append, -List.map_reverse])) (by simp [-List.map_take, -List.map_drop, -List.map_append, -List.map_reverse]) (Or.inl (by simp [-List.map_take, -List.map_drop, -List.map_append, -List.map_reverse])) ?_
  refine R_mv (@rfl V (V.sl (List.map cL (acL t.nd)))) ?_
  exact R_nil ⟨rfl, h1, trivial⟩
 intro T H ⟨t5, h1, _⟩
 refine W_seq_seq ?_
 refine W_seq_regc (fun T H => T 41 = (V.bool (decide ((((sdW (acL t.nd)).length : Nat) : Int) ≠ (((acL t.nd).length : Nat) : Int)))) ∧ H 1 = (⟨1, true, false, 24, 1, [[(V.sl (List.map cN (t.nd)))]]⟩ : Blk) ∧ True) ?_ ?_
 ·
  unfold r12_14
  refine R_mv t5 ?_
  refine R_call (evcons (@rfl V (V.sl (List.map cL (acL t.nd)))) evnil) (rsorted_pure (acL t.nd) (by first | omega | assumption) haw) (fzv_mapcanon _ _ (by simp [-List.map_take, -List.map_drop, -List.map_append, -List.map_reverse])) (by simp [-List.map_take, -List.map_drop, -List.map_append, -List.map_reverse]) (Or.inl (by simp [-List.map_take, -List.map_drop, -List.map_append, -List.map_reverse])) ?_
  refine R_len (@rfl V (V.sl (List.map cL (sdW (acL t.nd))))) ?_
  refine R_mv t5 ?_
  refine R_len (@rfl V (V.sl (List.map cL (acL t.nd)))) ?_
  refine R_neq (x := (((sdW (acL t.nd)).length : Nat) : Int)) (y := (((acL t.nd).length : Nat) : Int)) (@rfl V (iV (((sdW (acL t.nd)).length : Nat) : Int))) (@rfl V (iV (((acL t.nd).length : Nat) : Int))) ?_
  exact R_nil ⟨rfl, h1, trivial⟩
 intro T H ⟨t41, h1, _⟩
 refine W_seq_if (p := (((sdW (acL t.nd)).length : Nat) : Int) ≠ (((acL t.nd).length : Nat) : Int)) t41 (fun c9 => ?_) (fun c9 => ?_)
 ·
  refine W_seq_seq ?_
  refine W_seq_regc (fun T H => T 2 = (iV (7 : Int)) ∧ H 1 = (⟨1, true, false, 24, 1, [[(V.sl (List.map cN (t.nd)))]]⟩ : Blk) ∧ True) ?_ ?_
  ·
   unfold r12_15
   refine R_mv (@rfl V (iV (7 : Int))) ?_
   exact R_nil ⟨rfl, h1, trivial⟩
  intro T H ⟨t2, h1, _⟩
  refine W_seq_ret ?_
  refine Ret_1 t2 (fz_int ?_)
  · rw [dvE, if_neg (by omega), if_neg (by omega), if_neg (by rw [hz]; simp), if_neg (by simp [d3]), if_pos (by omega)]
 refine W_seq_skip ?_
 refine W_seq_regc (fun T H => T 2 = (iV (0 : Int)) ∧ H 1 = (⟨1, true, false, 24, 1, [[(V.sl (List.map cN (t.nd)))]]⟩ : Blk) ∧ True) ?_ ?_
 ·
  unfold r12_16
  refine R_mv (@rfl V (iV (0 : Int))) ?_
  exact R_nil ⟨rfl, h1, trivial⟩
 intro T H ⟨t2, h1, _⟩
 refine W_ret ?_
 refine Ret_1 t2 (fz_int ?_)
 · rw [dvE, if_neg (by omega), if_neg (by omega), if_neg (by rw [hz]; simp), if_neg (by simp [d3]), if_neg (by omega)]
end Go.Proofs.YtmnjchcoigbngaaGreat


namespace Go.Proofs.YtmnjchcoigbngaaGreat
open Go Go.Proofs
def r72_0 : List SO := [
  ⟨none, some 2, .box 24 1 (.t 0)⟩,
  ⟨none, some 4, .mv (.c (.nilsl))⟩]
def r72_1 : List SO := [
  ⟨none, some 6, .mv (.t 1)⟩,
  ⟨none, some 7, .bslice 3 1 false [.int .i64 0] 1 [(0, .t 6)]⟩,
  ⟨none, some 5, .mv (.t 7)⟩]
def r72_2 : List SO := [
  ⟨none, some 8, .mv (.t 1)⟩,
  ⟨none, some 9, .bin .neq (.t 8) (.c (.int .i64 0))⟩]
def r72_3 : List SO := [
  ⟨none, some 10, .load true 1 (.t 2)⟩,
  ⟨none, some 11, .mv (.t 1)⟩,
  ⟨none, some 12, .call false 101 [.t 10, .t 11]⟩,
  ⟨none, some 1, .mv (.t 12)⟩]
def r72_4 : List SO := [
  ⟨none, some 13, .mv (.t 1)⟩,
  ⟨none, some 14, .bslice 3 1 false [.int .i64 0] 1 [(0, .t 13)]⟩,
  ⟨none, some 15, .mv (.t 5)⟩,
  ⟨none, some 16, .bslice 38 1 false [.nilsl] 2 [(0, .t 14), (1, .t 15)]⟩,
  ⟨none, some 17, .call false 31 [.t 16]⟩,
  ⟨none, some 5, .mv (.t 17)⟩]
def b72_0 : SC := .seq (.seq (.reg r72_2) (.cond (.t 9) (.skip) (.exit 0))) (.block 1 (.seq (.reg r72_3) (.reg r72_4)))
def r72_5 : List SO := [
  ⟨none, some 18, .mv (.t 5)⟩,
  ⟨none, some 4, .mv (.t 18)⟩]
def s72 : SF := ⟨19, [.tmp 4], .seq (.reg r72_0) (.seq (.reg r72_1) (.seq (.block 0 (.loop b72_0)) (.seq (.reg r72_5) (.ret))))⟩
theorem s72_ok : slimF Tryz.prog ⟨[57, 58, 59, 63, 67, 68, 77, 102, 103, 104, 110, 116, 120], []⟩ Tryz.f72 = some s72 := by kernel_rfl
end Go.Proofs.YtmnjchcoigbngaaGreat


namespace Go.Proofs.YtmnjchcoigbngaaGreat
open Go Go.Proofs
def r101_0 : List SO := [
  ⟨none, some 2, .box 24 1 (.t 0)⟩,
  ⟨none, some 4, .mv (.c (.int .i64 0))⟩]
def r101_1 : List SO := [
  ⟨none, some 5, .mv (.c (.int .i64 0))⟩]
def r101_2 : List SO := [
  ⟨none, some 7, .mv (.t 5)⟩,
  ⟨none, some 8, .fld 0 (.t 2)⟩,
  ⟨none, some 9, .load false 1 (.t 8)⟩,
  ⟨none, some 10, .len (.t 9)⟩,
  ⟨none, some 11, .bin .lss (.t 7) (.t 10)⟩]
def r101_4 : List SO := [
  ⟨none, some 6, .mv (.c (.int .i64 0))⟩]
def r101_5 : List SO := [
  ⟨none, some 14, .mv (.t 6)⟩,
  ⟨none, some 15, .fld 0 (.t 2)⟩,
  ⟨none, some 16, .load false 1 (.t 15)⟩,
  ⟨none, some 17, .mv (.t 5)⟩,
  ⟨none, some 18, .idx 5 (.t 16) (.t 17)⟩,
  ⟨none, some 19, .fld 4 (.t 18)⟩,
  ⟨none, some 20, .load false 1 (.t 19)⟩,
  ⟨none, some 21, .len (.t 20)⟩,
  ⟨none, some 22, .bin .lss (.t 14) (.t 21)⟩]
def r101_7 : List SO := [
  ⟨none, some 25, .fld 0 (.t 2)⟩,
  ⟨none, some 26, .load false 1 (.t 25)⟩,
  ⟨none, some 27, .mv (.t 5)⟩,
  ⟨none, some 28, .idx 5 (.t 26) (.t 27)⟩,
  ⟨none, some 29, .fld 4 (.t 28)⟩,
  ⟨none, some 30, .load false 1 (.t 29)⟩,
  ⟨none, some 31, .mv (.t 6)⟩,
  ⟨none, some 32, .idx 1 (.t 30) (.t 31)⟩,
  ⟨none, some 33, .load false 1 (.t 32)⟩,
  ⟨none, some 34, .mv (.t 1)⟩,
  ⟨none, some 35, .bin .eql (.t 33) (.t 34)⟩]
def r101_8 : List SO := [
  ⟨none, some 36, .mv (.t 5)⟩,
  ⟨none, some 4, .mv (.t 36)⟩]
def r101_6 : List SO := [
  ⟨none, some 23, .mv (.t 6)⟩,
  ⟨none, some 24, .bin .add (.t 23) (.c (.int .i64 1))⟩,
  ⟨none, some 6, .mv (.t 24)⟩]
def b101_1 : SC := .seq (.seq (.reg r101_5) (.cond (.t 22) (.skip) (.exit 2))) (.seq (.block 3 (.seq (.reg r101_7) (.cond (.t 35) (.seq (.reg r101_8) (.ret)) (.skip)))) (.reg r101_6))
def r101_3 : List SO := [
  ⟨none, some 12, .mv (.t 5)⟩,
  ⟨none, some 13, .bin .add (.t 12) (.c (.int .i64 1))⟩,
  ⟨none, some 5, .mv (.t 13)⟩]
def b101_0 : SC := .seq (.seq (.reg r101_2) (.cond (.t 11) (.skip) (.exit 0))) (.seq (.block 1 (.seq (.reg r101_4) (.block 2 (.loop b101_1)))) (.reg r101_3))
def r101_9 : List SO := [
  ⟨none, some 4, .mv (.c (.int .i64 0))⟩]
def s101 : SF := ⟨37, [.tmp 4], .seq (.reg r101_0) (.seq (.seq (.reg r101_1) (.block 0 (.loop b101_0))) (.seq (.reg r101_9) (.ret)))⟩
theorem s101_ok : slimF Tryz.prog ⟨[57, 58, 59, 63, 67, 68, 77, 102, 103, 104, 110, 116, 120], []⟩ Tryz.f101 = some s101 := by kernel_rfl
end Go.Proofs.YtmnjchcoigbngaaGreat


namespace Go.Proofs.YtmnjchcoigbngaaGreat
open Go Go.Proofs
theorem rparent_pure (t : Dt) (n : Int) (hb : Bd t) (h : 0 ≤ par t n) : PureC Tryz.prog 101 [(V.agg [(V.sl (List.map cN (t.nd)))]), (iV (n))] (iV (par t n)) := by
 refine pure_of_Wb true 6 Tryz.func101 s101_ok (by kernel_rfl) (by simp [s101]) (by simp) (by simp) fun hB => ?_
 simp only [bnd_map, bnd_int, bnd_bool, bnd_str, bnd_agg, bnd_pp, bnd_nil, bnd_cons, implies_true, and_true, true_and] at hB
 unfold s101
 dsimp only
 have hbn := hb.n
 refine W_seq_regc (fun T H => T 1 = (iV (n)) ∧ T 2 = (V.mp 2 1 0 0) ∧ H 2 = (⟨1, true, false, 24, 1, [[(V.sl (List.map cN (t.nd)))]]⟩ : Blk) ∧ True) ?_ ?_
 ·
  unfold r101_0
  refine R_box (i := 2) (n := 0) (m := 1) (cs := [(V.sl (List.map cN (t.nd)))]) rfl (congrArg Blk.ver rfl) (@rfl V (V.agg [(V.sl (List.map cN (t.nd)))])) rfl rfl ?_
  refine R_mv (@rfl V (iV (0 : Int))) ?_
  exact R_nil ⟨rfl, rfl, rfl, trivial⟩
 intro T H ⟨t1, t2, h2, _⟩
 refine W_seq_seq ?_
 refine W_seq_regc (fun T H => T 1 = (iV (n)) ∧ T 2 = (V.mp 2 1 0 0) ∧ T 5 = (iV (0 : Int)) ∧ H 2 = (⟨1, true, false, 24, 1, [[(V.sl (List.map cN (t.nd)))]]⟩ : Blk) ∧ True) ?_ ?_
 ·
  unfold r101_1
  refine R_mv (@rfl V (iV (0 : Int))) ?_
  exact R_nil ⟨t1, t2, rfl, h2, trivial⟩
 intro T H ⟨t1, t2, t5, h2, _⟩
 refine W_seq_blockg fun Q1 n1 x1 y1 z1 => ?_
 refine W_loop (fun mm T H => ∃ (k : Nat), mm = t.nd.length - k ∧ T 1 = (iV (n)) ∧ T 2 = (V.mp 2 1 0 0) ∧ T 5 = (iV ((k : Nat) : Int)) ∧ H 2 = (⟨1, true, false, 24, 1, [[(V.sl (List.map cN (t.nd)))]]⟩ : Blk) ∧ (k ≤ t.nd.length) ∧ (par t n = fi (fun k => decide (n ∈ (nth t.nd k).kd)) k (t.nd.length - k))) ?_ ?_
 ·
  refine ⟨_, 0, rfl, t1, t2, (Eq.trans t5 (by first | rfl | simp)), h2, ?_, ?_⟩
  · omega
  · rfl
 intro mm T H ⟨k, hmm, t1, t2, t5, h2, hk, hc⟩ Q2 p12 p22 p32
 unfold b101_0
 refine W_seq_seq ?_
 refine W_seq_regc (fun T H => T 1 = (iV (n)) ∧ T 2 = (V.mp 2 1 0 0) ∧ T 5 = (iV ((k : Nat) : Int)) ∧ T 11 = (V.bool (decide (((k : Nat) : Int) < ((t.nd.length : Nat) : Int)))) ∧ H 2 = (⟨1, true, false, 24, 1, [[(V.sl (List.map cN (t.nd)))]]⟩ : Blk) ∧ True) ?_ ?_
 ·
  unfold r101_2
  refine R_mv t5 ?_
  refine R_fld_mp (o' := 0) t2 h2 (by first | rfl | simp [okB, Blk.own]) rfl ?_
  refine R_load_mp (v := (V.sl (List.map cN (t.nd)))) (@rfl V (V.mp 2 1 0 0)) h2 (by first | rfl | simp [ldB, ldV, Blk.own, V.one]) ?_
  refine R_len (@rfl V (V.sl (List.map cN (t.nd)))) ?_
  refine R_lss (x := ((k : Nat) : Int)) (y := ((t.nd.length : Nat) : Int)) (@rfl V (iV ((k : Nat) : Int))) (@rfl V (iV ((t.nd.length : Nat) : Int))) ?_
  exact R_nil ⟨t1, t2, t5, rfl, h2, trivial⟩
 intro T H ⟨t1, t2, t5, t11, h2, _⟩
 refine W_seq_if (p := ((k : Nat) : Int) < ((t.nd.length : Nat) : Int)) t11 (fun c3 => ?_) (fun c3 => ?_)
 ·
  have r1 := hb.kd k (by omega)
  refine W_seq_skip ?_
  refine W_seq_blockg fun Q4 n4 x4 y4 z4 => ?_
  refine W_seq_regc (fun T H => T 1 = (iV (n)) ∧ T 2 = (V.mp 2 1 0 0) ∧ T 5 = (iV ((k : Nat) : Int)) ∧ T 6 = (iV (0 : Int)) ∧ H 2 = (⟨1, true, false, 24, 1, [[(V.sl (List.map cN (t.nd)))]]⟩ : Blk) ∧ True) ?_ ?_
  ·
   unfold r101_4
   refine R_mv (@rfl V (iV (0 : Int))) ?_
   exact R_nil ⟨t1, t2, t5, rfl, h2, trivial⟩
  intro T H ⟨t1, t2, t5, t6, h2, _⟩
  refine W_block fun Q5 n5 x5 y5 z5 => ?_
  refine W_loop (fun mm T H => ∃ (j : Nat), mm = ((((nth (t.nd) (k))).kd).length) - j ∧ T 1 = (iV (n)) ∧ T 2 = (V.mp 2 1 0 0) ∧ T 5 = (iV ((k : Nat) : Int)) ∧ T 6 = (iV ((j : Nat) : Int)) ∧ H 2 = (⟨1, true, false, 24, 1, [[(V.sl (List.map cN (t.nd)))]]⟩ : Blk) ∧ (j ≤ (((nth (t.nd) (k))).kd).length) ∧ (∀ i, i < j → nth (nth t.nd k).kd i ≠ n)) ?_ ?_
  ·
   refine ⟨_, 0, rfl, t1, t2, t5, (Eq.trans t6 (by first | rfl | simp)), h2, ?_, ?_⟩
   · omega
   · intro i hi; omega
  intro mm T H ⟨j, hmm, t1, t2, t5, t6, h2, hj, hq⟩ Q6 p16 p26 p36
  unfold b101_1
  refine W_seq_seq ?_
  refine W_seq_regc (fun T H => T 1 = (iV (n)) ∧ T 2 = (V.mp 2 1 0 0) ∧ T 5 = (iV ((k : Nat) : Int)) ∧ T 6 = (iV ((j : Nat) : Int)) ∧ T 22 = (V.bool (decide (((j : Nat) : Int) < (((((nth (t.nd) (k))).kd).length : Nat) : Int)))) ∧ H 2 = (⟨1, true, false, 24, 1, [[(V.sl (List.map cN (t.nd)))]]⟩ : Blk) ∧ True) ?_ ?_
  ·
   unfold r101_5
   refine R_mv t6 ?_
   refine R_fld_mp (o' := 0) t2 h2 (by first | rfl | simp [okB, Blk.own]) rfl ?_
   refine R_load_mp (v := (V.sl (List.map cN (t.nd)))) (@rfl V (V.mp 2 1 0 0)) h2 (by first | rfl | simp [ldB, ldV, Blk.own, V.one]) ?_
   refine R_mv t5 ?_
   refine R_idx (i := k) (@rfl V (V.sl (List.map cN (t.nd)))) (@rfl V (iV ((k : Nat) : Int))) (by omega) rfl ?_
   refine R_fld_pp (cs' := [(V.sl (List.map cI (((nth (t.nd) (k))).kd)))]) (@rfl V (V.pp [(V.bool (((nth (t.nd) (k))).lf)), (V.sl (List.map cI (((nth (t.nd) (k))).ac))), (V.sl (List.map cI (((nth (t.nd) (k))).sf))), (V.sl (List.map cL (((nth (t.nd) (k))).ou))), (V.sl (List.map cI (((nth (t.nd) (k))).kd)))])) rfl ?_
   refine R_load_pp (v := (V.sl (List.map cI (((nth (t.nd) (k))).kd)))) (@rfl V (V.pp [(V.sl (List.map cI (((nth (t.nd) (k))).kd)))])) (by first | rfl | simp [ldV]) ?_
   refine R_len (@rfl V (V.sl (List.map cI (((nth (t.nd) (k))).kd)))) ?_
   refine R_lss (x := ((j : Nat) : Int)) (y := (((((nth (t.nd) (k))).kd).length : Nat) : Int)) (@rfl V (iV ((j : Nat) : Int))) (@rfl V (iV (((((nth (t.nd) (k))).kd).length : Nat) : Int))) ?_
   exact R_nil ⟨t1, t2, t5, t6, rfl, h2, trivial⟩
  intro T H ⟨t1, t2, t5, t6, t22, h2, _⟩
  refine W_seq_if (p := ((j : Nat) : Int) < (((((nth (t.nd) (k))).kd).length : Nat) : Int)) t22 (fun c7 => ?_) (fun c7 => ?_)
  ·
   refine W_seq_skip ?_
   refine W_seq_blockg fun Q8 n8 x8 y8 z8 => ?_
   refine W_seq_regc (fun T H => T 1 = (iV (n)) ∧ T 2 = (V.mp 2 1 0 0) ∧ T 5 = (iV ((k : Nat) : Int)) ∧ T 6 = (iV ((j : Nat) : Int)) ∧ T 35 = (V.bool (decide (((nth (((nth (t.nd) (k))).kd) (j))) = (n)))) ∧ H 2 = (⟨1, true, false, 24, 1, [[(V.sl (List.map cN (t.nd)))]]⟩ : Blk) ∧ True) ?_ ?_
   ·
    unfold r101_7
    refine R_fld_mp (o' := 0) t2 h2 (by first | rfl | simp [okB, Blk.own]) rfl ?_
    refine R_load_mp (v := (V.sl (List.map cN (t.nd)))) (@rfl V (V.mp 2 1 0 0)) h2 (by first | rfl | simp [ldB, ldV, Blk.own, V.one]) ?_
    refine R_mv t5 ?_
    refine R_idx (i := k) (@rfl V (V.sl (List.map cN (t.nd)))) (@rfl V (iV ((k : Nat) : Int))) (by omega) rfl ?_
    refine R_fld_pp (cs' := [(V.sl (List.map cI (((nth (t.nd) (k))).kd)))]) (@rfl V (V.pp [(V.bool (((nth (t.nd) (k))).lf)), (V.sl (List.map cI (((nth (t.nd) (k))).ac))), (V.sl (List.map cI (((nth (t.nd) (k))).sf))), (V.sl (List.map cL (((nth (t.nd) (k))).ou))), (V.sl (List.map cI (((nth (t.nd) (k))).kd)))])) rfl ?_
    refine R_load_pp (v := (V.sl (List.map cI (((nth (t.nd) (k))).kd)))) (@rfl V (V.pp [(V.sl (List.map cI (((nth (t.nd) (k))).kd)))])) (by first | rfl | simp [ldV]) ?_
    refine R_mv t6 ?_
    refine R_idx (i := j) (@rfl V (V.sl (List.map cI (((nth (t.nd) (k))).kd)))) (@rfl V (iV ((j : Nat) : Int))) (by omega) rfl ?_
    refine R_load_pp (v := (iV ((nth (((nth (t.nd) (k))).kd) (j))))) (@rfl V (V.pp [(iV ((nth (((nth (t.nd) (k))).kd) (j))))])) (by first | rfl | simp [ldV]) ?_
    refine R_mv t1 ?_
    refine R_eql (x := ((nth (((nth (t.nd) (k))).kd) (j)))) (y := (n)) (@rfl V (iV ((nth (((nth (t.nd) (k))).kd) (j))))) (@rfl V (iV (n))) ?_
    exact R_nil ⟨t1, t2, t5, t6, rfl, h2, trivial⟩
   intro T H ⟨t1, t2, t5, t6, t35, h2, _⟩
   refine W_if (p := ((nth (((nth (t.nd) (k))).kd) (j))) = (n)) t35 (fun c9 => ?_) (fun c9 => ?_)
   ·
    have d1 := c9
    refine W_seq_regc (fun T H => T 4 = (iV ((k : Nat) : Int)) ∧ H 2 = (⟨1, true, false, 24, 1, [[(V.sl (List.map cN (t.nd)))]]⟩ : Blk) ∧ True) ?_ ?_
    ·
     unfold r101_8
     refine R_mv t5 ?_
     refine R_mv (@rfl V (iV ((k : Nat) : Int))) ?_
     exact R_nil ⟨rfl, h2, trivial⟩
    intro T H ⟨t4, h2, _⟩
    refine W_ret ?_
    refine y8 _ _ ?_
    refine p26 _ _ ?_
    refine y5 _ _ ?_
    refine y4 _ _ ?_
    refine p22 _ _ ?_
    refine y1 _ _ ?_
    refine Ret_1 t4 (fz_int ?_)
    · rw [hc, fi_hit (p := fun k => decide (n ∈ (nth t.nd k).kd)) (decide_eq_true (d1 ▸ nth_mem (by omega))) (by omega)]
   have d1 := c9
   refine W_skip ?_
   refine n8 _ _ ?_
   refine .done ?_
   refine W_regc (fun T H => T 1 = (iV (n)) ∧ T 2 = (V.mp 2 1 0 0) ∧ T 5 = (iV ((k : Nat) : Int)) ∧ T 6 = (iV ((j + 1 : Nat) : Int)) ∧ H 2 = (⟨1, true, false, 24, 1, [[(V.sl (List.map cN (t.nd)))]]⟩ : Blk) ∧ True) ?_ ?_
   ·
    unfold r101_6
    refine R_mv t6 ?_
    refine R_addN (m := j) (n := 1) (@rfl V (iV ((j : Nat) : Int))) (@rfl V (iV ((1 : Nat) : Int))) (by omega) ?_
    refine R_mv (@rfl V (iV ((j + 1 : Nat) : Int))) ?_
    exact R_nil ⟨t1, t2, t5, rfl, h2, trivial⟩
   intro T H ⟨t1, t2, t5, t6, h2, _⟩
   refine p16 _ _ _ ?_ ⟨(j + 1), rfl, t1, t2, t5, (Eq.trans t6 (by first | rfl | simp)), h2, ?_, ?_⟩
   · omega
   · omega
   · intro i hi
     by_cases e : i = j
     · subst e; exact d1
     · exact hq i (by omega)
  refine W_seq_exit ?_
  refine p36 _ _ _ ?_
  refine x5 _ _ ?_
  refine n4 _ _ ?_
  refine .done ?_
  refine W_regc (fun T H => T 1 = (iV (n)) ∧ T 2 = (V.mp 2 1 0 0) ∧ T 5 = (iV ((k + 1 : Nat) : Int)) ∧ H 2 = (⟨1, true, false, 24, 1, [[(V.sl (List.map cN (t.nd)))]]⟩ : Blk) ∧ True) ?_ ?_
  ·
   unfold r101_3
   refine R_mv t5 ?_
   refine R_addN (m := k) (n := 1) (@rfl V (iV ((k : Nat) : Int))) (@rfl V (iV ((1 : Nat) : Int))) (by omega) ?_
   refine R_mv (@rfl V (iV ((k + 1 : Nat) : Int))) ?_
   exact R_nil ⟨t1, t2, rfl, h2, trivial⟩
  intro T H ⟨t1, t2, t5, h2, _⟩
  refine p12 _ _ _ ?_ ⟨(k + 1), rfl, t1, t2, (Eq.trans t5 (by first | rfl | simp)), h2, ?_, ?_⟩
  · omega
  · omega
  · rw [hc, fi_skip (p := fun k => decide (n ∈ (nth t.nd k).kd)) (par_none (by omega) (fun i hi => hq i (by omega))) (by omega)]
 refine W_seq_exit ?_
 refine p32 _ _ _ ?_
 refine x1 _ _ ?_
 refine .done ?_
 refine W_seq_regc (fun T H => T 4 = (iV (0 : Int)) ∧ H 2 = (⟨1, true, false, 24, 1, [[(V.sl (List.map cN (t.nd)))]]⟩ : Blk) ∧ True) ?_ ?_
 ·
  unfold r101_9
  refine R_mv (@rfl V (iV (0 : Int))) ?_
  exact R_nil ⟨rfl, h2, trivial⟩
 intro T H ⟨t4, h2, _⟩
 refine W_ret ?_
 refine Ret_1 t4 (fz_int ?_)
 · rw [hc, fi_end (by omega)] at h; omega
end Go.Proofs.YtmnjchcoigbngaaGreat


namespace Go.Proofs.YtmnjchcoigbngaaGreat
open Go Go.Proofs
theorem rpath_pure (t : Dt) (n : Int) (hv : dvE t = 0) (hb : Bd t) (g0 : 0 ≤ n) (g1 : n < t.nd.length) : PureC Tryz.prog 72 [(V.agg [(V.sl (List.map cN (t.nd)))]), (iV (n))] (V.sl (List.map cI (pth t n))) := by
 refine pure_of_Wb true 6 Tryz.func72 s72_ok (by kernel_rfl) (by simp [s72]) (by simp) (by simp) fun hB => ?_
 simp only [bnd_map, bnd_int, bnd_bool, bnd_str, bnd_agg, bnd_pp, bnd_nil, bnd_cons, implies_true, and_true, true_and] at hB
 unfold s72
 dsimp only
 have hbn := hb.n
 refine W_seq_regc (fun T H => T 1 = (iV (n)) ∧ T 2 = (V.mp 2 1 0 0) ∧ H 2 = (⟨1, true, false, 24, 1, [[(V.sl (List.map cN (t.nd)))]]⟩ : Blk) ∧ True) ?_ ?_
 ·
  unfold r72_0
  refine R_box (i := 2) (n := 0) (m := 1) (cs := [(V.sl (List.map cN (t.nd)))]) rfl (congrArg Blk.ver rfl) (@rfl V (V.agg [(V.sl (List.map cN (t.nd)))])) rfl rfl ?_
  refine R_mv (@rfl V V.nilsl) ?_
  exact R_nil ⟨rfl, rfl, rfl, trivial⟩
 intro T H ⟨t1, t2, h2, _⟩
 refine W_seq_regc (fun T H => T 1 = (iV (n)) ∧ T 2 = (V.mp 2 1 0 0) ∧ T 5 = (V.sl [[(iV (n))]]) ∧ H 2 = (⟨1, true, false, 24, 1, [[(V.sl (List.map cN (t.nd)))]]⟩ : Blk) ∧ True) ?_ ?_
 ·
  unfold r72_1
  refine R_mv t1 ?_
  refine R_bslice (qs := [(0, (iV (n)))]) (rows := [[(iV (n))]]) (mcons (congrArg (fun v => (0, v)) (@rfl V (iV (n)))) rfl) rfl ?_
  refine R_mv (@rfl V (V.sl [[(iV (n))]])) ?_
  exact R_nil ⟨t1, t2, rfl, h2, trivial⟩
 intro T H ⟨t1, t2, t5, h2, _⟩
 refine W_seq_blockg fun Q1 n1 x1 y1 z1 => ?_
 refine W_loop (fun mm T H => ∃ (a : Int) (f : Nat) (l : List Int), mm = f ∧ T 1 = (iV (a)) ∧ T 2 = (V.mp 2 1 0 0) ∧ T 5 = (V.sl (List.map cI (l))) ∧ H 2 = (⟨1, true, false, 24, 1, [[(V.sl (List.map cN (t.nd)))]]⟩ : Blk) ∧ (Up t f a) ∧ (pth t n = ((upN t f a).drop 1).reverse ++ l) ∧ (l.length + f ≤ t.nd.length + 1)) ?_ ?_
 ·
  refine ⟨_, n, t.nd.length, [n], rfl, t1, t2, (Eq.trans t5 (by first | rfl | simp)), h2, ?_, ?_, ?_⟩
  · exact Up.of hv g0 g1
  · unfold pth; rw [up_head t t.nd.length n]; simp
  · simp; omega
 intro mm T H ⟨a, f, l, hmm, t1, t2, t5, h2, hu, hc, hl⟩ Q2 p12 p22 p32
 unfold b72_0
 refine W_seq_seq ?_
 refine W_seq_regc (fun T H => T 1 = (iV (a)) ∧ T 2 = (V.mp 2 1 0 0) ∧ T 5 = (V.sl (List.map cI (l))) ∧ T 9 = (V.bool (decide ((a) ≠ (0 : Int)))) ∧ H 2 = (⟨1, true, false, 24, 1, [[(V.sl (List.map cN (t.nd)))]]⟩ : Blk) ∧ True) ?_ ?_
 ·
  unfold r72_2
  refine R_mv t1 ?_
  refine R_neq (x := (a)) (y := (0 : Int)) (@rfl V (iV (a))) (@rfl V (iV (0 : Int))) ?_
  exact R_nil ⟨t1, t2, t5, rfl, h2, trivial⟩
 intro T H ⟨t1, t2, t5, t9, h2, _⟩
 refine W_seq_if (p := (a) ≠ (0 : Int)) t9 (fun c3 => ?_) (fun c3 => ?_)
 ·
  have d1 : a ≠ 0 := c3
  have d2 := (hu.par hv d1).2.1
  refine W_seq_skip ?_
  refine W_block fun Q4 n4 x4 y4 z4 => ?_
  refine W_seq_regc (fun T H => T 1 = (iV (par t ((a)))) ∧ T 2 = (V.mp 2 1 0 0) ∧ T 5 = (V.sl (List.map cI (l))) ∧ H 2 = (⟨1, true, false, 24, 1, [[(V.sl (List.map cN (t.nd)))]]⟩ : Blk) ∧ True) ?_ ?_
  ·
   unfold r72_3
   refine R_load_mp (v := (V.agg [(V.sl (List.map cN (t.nd)))])) t2 h2 (by first | rfl | simp [ldB, ldV, Blk.own, V.one]) ?_
   refine R_mv t1 ?_
   refine R_call (evcons (@rfl V (V.agg [(V.sl (List.map cN (t.nd)))])) (evcons (@rfl V (iV (a))) evnil)) (rparent_pure t ((a)) hb d2) (fzv_mapcanon _ _ (by simp [-List.map_take, -List.map_drop, -List.map_append, -List.map_reverse])) (by simp [-List.map_take, -List.map_drop, -List.map_append, -List.map_reverse]) (Or.inl (by simp [-List.map_take, -List.map_drop, -List.map_append, -List.map_reverse])) ?_
   refine R_mv (@rfl V (iV (par t ((a))))) ?_
   exact R_nil ⟨rfl, t2, t5, h2, trivial⟩
  intro T H ⟨t1, t2, t5, h2, _⟩
  refine W_regc (fun T H => T 1 = (iV (par t ((a)))) ∧ T 2 = (V.mp 2 1 0 0) ∧ T 5 = (V.sl (List.map cI (cat ([[(par t ((a)))], l])))) ∧ H 2 = (⟨1, true, false, 24, 1, [[(V.sl (List.map cN (t.nd)))]]⟩ : Blk) ∧ True) ?_ ?_
  ·
   unfold r72_4
   refine R_mv t1 ?_
   refine R_bslice (qs := [(0, (iV (par t ((a)))))]) (rows := [[(iV (par t ((a))))]]) (mcons (congrArg (fun v => (0, v)) (@rfl V (iV (par t ((a)))))) rfl) rfl ?_
   refine R_mv t5 ?_
   refine R_bslice (qs := [(0, (V.sl [[(iV (par t ((a))))]])), (1, (V.sl (List.map cI (l))))]) (rows := [[(V.sl [[(iV (par t ((a))))]])], [(V.sl (List.map cI (l)))]]) (mcons (congrArg (fun v => (0, v)) (@rfl V (V.sl [[(iV (par t ((a))))]]))) (mcons (congrArg (fun v => (1, v)) (@rfl V (V.sl (List.map cI (l))))) rfl)) rfl ?_
   refine R_call (evcons (@rfl V (V.sl [[(V.sl [[(iV (par t ((a))))]])], [(V.sl (List.map cI (l)))]])) evnil) (join_pure ([[(par t ((a)))], l]) (by simp only [cat, List.append_nil, List.length_append, List.length_cons, List.length_nil]; omega)) (fzv_mapcanon _ _ (by simp [-List.map_take, -List.map_drop, -List.map_append, -List.map_reverse])) (by simp [-List.map_take, -List.map_drop, -List.map_append, -List.map_reverse]) (Or.inl (by simp [-List.map_take, -List.map_drop, -List.map_append, -List.map_reverse])) ?_
   refine R_mv (@rfl V (V.sl (List.map cI (cat ([[(par t ((a)))], l]))))) ?_
   exact R_nil ⟨t1, t2, rfl, h2, trivial⟩
  intro T H ⟨t1, t2, t5, h2, _⟩
  refine n4 _ _ ?_
  refine p12 _ _ _ ?_ ⟨(par t a), (f - 1), (cat [[par t a], l]), rfl, (Eq.trans t1 (by first | rfl | simp)), t2, (Eq.trans t5 (by first | rfl | simp)), h2, ?_, ?_, ?_⟩
  · have := hu.pos d1; omega
  · exact (hu.par hv d1).1
  · rw [hc, up_go (hu.pos d1) d1]; conv => lhs; rw [List.drop_succ_cons, List.drop_zero, up_head t (f - 1) (par t a)]
    simp [cat]
  · have := hu.pos d1; simp [cat]; omega
 have d1 : a = 0 := Decidable.not_not.1 c3
 refine W_seq_exit ?_
 refine p32 _ _ _ ?_
 refine x1 _ _ ?_
 refine .done ?_
 refine W_seq_regc (fun T H => T 4 = (V.sl (List.map cI (l))) ∧ H 2 = (⟨1, true, false, 24, 1, [[(V.sl (List.map cN (t.nd)))]]⟩ : Blk) ∧ True) ?_ ?_
 ·
  unfold r72_5
  refine R_mv t5 ?_
  refine R_mv (@rfl V (V.sl (List.map cI (l)))) ?_
  exact R_nil ⟨rfl, h2, trivial⟩
 intro T H ⟨t4, h2, _⟩
 refine W_ret ?_
 refine Ret_1 t4 (fz_sl ?_ (fun _ => by simp))
 · rw [hc, d1, up_zero]; simp
end Go.Proofs.YtmnjchcoigbngaaGreat


namespace Go.Proofs.YtmnjchcoigbngaaGreat
open Go Go.Proofs
theorem rdcommon_pure (t : Dt) (a b : Int) (hb : Bd t) : PureC Tryz.prog 29 [(V.agg [(V.sl (List.map cN (t.nd)))]), (iV (a)), (iV (b))] (V.tup [(V.sl (List.map cI (cmR t a b))), (iV (cmE t a b))]) := by
 refine pure_of_Wb true 6 Tryz.func29 s29_ok (by kernel_rfl) (by simp [s29]) (by simp) (by simp) fun hB => ?_
 simp only [bnd_map, bnd_int, bnd_bool, bnd_str, bnd_agg, bnd_pp, bnd_nil, bnd_cons, implies_true, and_true, true_and] at hB
 unfold s29
 dsimp only
 refine W_seq_regc (fun T H => T 1 = (iV (a)) ∧ T 2 = (iV (b)) ∧ T 3 = (V.mp 3 1 0 0) ∧ H 3 = (⟨1, true, false, 24, 1, [[(V.sl (List.map cN (t.nd)))]]⟩ : Blk) ∧ True) ?_ ?_
 ·
  unfold r29_0
  refine R_box (i := 3) (n := 0) (m := 1) (cs := [(V.sl (List.map cN (t.nd)))]) rfl (congrArg Blk.ver rfl) (@rfl V (V.agg [(V.sl (List.map cN (t.nd)))])) rfl rfl ?_
  refine R_mv (@rfl V V.nilsl) ?_
  refine R_mv (@rfl V (iV (0 : Int))) ?_
  exact R_nil ⟨rfl, rfl, rfl, rfl, trivial⟩
 intro T H ⟨t1, t2, t3, h3, _⟩
 refine W_seq_seq ?_
 refine W_seq_regc (fun T H => T 1 = (iV (a)) ∧ T 2 = (iV (b)) ∧ T 3 = (V.mp 3 1 0 0) ∧ T 8 = (iV (dvE t)) ∧ H 3 = (⟨1, true, false, 24, 1, [[(V.sl (List.map cN (t.nd)))]]⟩ : Blk) ∧ True) ?_ ?_
 ·
  unfold r29_1
  refine R_load_mp (v := (V.agg [(V.sl (List.map cN (t.nd)))])) t3 h3 (by first | rfl | simp [ldB, ldV, Blk.own, V.one]) ?_
  refine R_call (evcons (@rfl V (V.agg [(V.sl (List.map cN (t.nd)))])) evnil) (rdvalid_pure t hb) (fzv_mapcanon _ _ (by simp [-List.map_take, -List.map_drop, -List.map_append, -List.map_reverse])) (by simp [-List.map_take, -List.map_drop, -List.map_append, -List.map_reverse]) (Or.inl (by simp [-List.map_take, -List.map_drop, -List.map_append, -List.map_reverse])) ?_
  refine R_mv (@rfl V (iV (dvE t))) ?_
  exact R_nil ⟨t1, t2, t3, rfl, h3, trivial⟩
 intro T H ⟨t1, t2, t3, t8, h3, _⟩
 refine W_seq_seq ?_
 refine W_seq_regc (fun T H => T 1 = (iV (a)) ∧ T 2 = (iV (b)) ∧ T 3 = (V.mp 3 1 0 0) ∧ T 8 = (iV (dvE t)) ∧ T 15 = (V.bool (decide ((dvE t) ≠ (0 : Int)))) ∧ H 3 = (⟨1, true, false, 24, 1, [[(V.sl (List.map cN (t.nd)))]]⟩ : Blk) ∧ True) ?_ ?_
 ·
  unfold r29_2
  refine R_mv t8 ?_
  refine R_neq (x := (dvE t)) (y := (0 : Int)) (@rfl V (iV (dvE t))) (@rfl V (iV (0 : Int))) ?_
  exact R_nil ⟨t1, t2, t3, t8, rfl, h3, trivial⟩
 intro T H ⟨t1, t2, t3, t8, t15, h3, _⟩
 refine W_seq_if (p := (dvE t) ≠ (0 : Int)) t15 (fun c1 => ?_) (fun c1 => ?_)
 ·
  have d0 : dvE t ≠ 0 := c1
  refine W_seq_seq ?_
  refine W_seq_regc (fun T H => T 6 = V.nilsl ∧ T 7 = (iV (dvE t)) ∧ H 3 = (⟨1, true, false, 24, 1, [[(V.sl (List.map cN (t.nd)))]]⟩ : Blk) ∧ True) ?_ ?_
  ·
   unfold r29_3
   refine R_mv t8 ?_
   refine R_mv (@rfl V V.nilsl) ?_
   refine R_mv (@rfl V (iV (dvE t))) ?_
   exact R_nil ⟨rfl, rfl, h3, trivial⟩
  intro T H ⟨t6, t7, h3, _⟩
  refine W_seq_ret ?_
  refine Ret_2 t6 t7 (fz_nil ?_) (fz_int ?_)
  · unfold cmR; rw [if_neg (by unfold cmE; rw [if_pos d0]; exact d0)]
  · unfold cmE; rw [if_pos d0]
 have hv : dvE t = 0 := by omega
 refine W_seq_skip ?_
 refine W_seq_seq ?_
 refine W_seq_regc (fun T H => T 1 = (iV (a)) ∧ T 2 = (iV (b)) ∧ T 3 = (V.mp 3 1 0 0) ∧ T 36 = (V.bool (decide (((((a) < (0 : Int)) ∨ (((t.nd.length : Nat) : Int) ≤ (a))) ∨ ((b) < (0 : Int))) ∨ (((t.nd.length : Nat) : Int) ≤ (b))))) ∧ H 3 = (⟨1, true, false, 24, 1, [[(V.sl (List.map cN (t.nd)))]]⟩ : Blk) ∧ True) ?_ ?_
 ·
  unfold r29_4
  refine R_mv t1 ?_
  refine R_lss (x := (a)) (y := (0 : Int)) (@rfl V (iV (a))) (@rfl V (iV (0 : Int))) ?_
  refine R_mv (@rfl V (V.bool (decide ((a) < (0 : Int))))) ?_
  refine Ops_seg 6 (fun T H => T 1 = (iV (a)) ∧ T 2 = (iV (b)) ∧ T 3 = (V.mp 3 1 0 0) ∧ T 25 = (V.bool (decide (((a) < (0 : Int)) ∨ (((t.nd.length : Nat) : Int) ≤ (a))))) ∧ H 3 = (⟨1, true, false, 24, 1, [[(V.sl (List.map cN (t.nd)))]]⟩ : Blk) ∧ True) ?_ ?_
  ·
   by_cases g2 : (a) < (0 : Int)
   ·
    refine G_no (Eq.trans (@rfl V (V.bool (decide ((a) < (0 : Int))))) (bdT g2)) (by decide) ?_
    refine G_no (Eq.trans (@rfl V (V.bool (decide ((a) < (0 : Int))))) (bdT g2)) (by decide) ?_
    refine G_no (Eq.trans (@rfl V (V.bool (decide ((a) < (0 : Int))))) (bdT g2)) (by decide) ?_
    refine G_no (Eq.trans (@rfl V (V.bool (decide ((a) < (0 : Int))))) (bdT g2)) (by decide) ?_
    refine G_no (Eq.trans (@rfl V (V.bool (decide ((a) < (0 : Int))))) (bdT g2)) (by decide) ?_
    refine R_pickT (Eq.trans (@rfl V (V.bool (decide ((a) < (0 : Int))))) (bdT g2)) (@rfl V (V.bool true)) ?_
    exact ⟨t1, t2, t3, (Eq.trans (@rfl V (V.bool true)) (dec_orT g2)), h3, trivial⟩
   ·
    refine G_yes (Eq.trans (@rfl V (V.bool (decide ((a) < (0 : Int))))) (bdF g2)) ?_
    refine R_mv t1 ?_
    refine G_yes (Eq.trans (@rfl V (V.bool (decide ((a) < (0 : Int))))) (bdF g2)) ?_
    refine R_fld_mp (o' := 0) t3 h3 (by first | rfl | simp [okB, Blk.own]) rfl ?_
    refine G_yes (Eq.trans (@rfl V (V.bool (decide ((a) < (0 : Int))))) (bdF g2)) ?_
    refine R_load_mp (v := (V.sl (List.map cN (t.nd)))) (@rfl V (V.mp 3 1 0 0)) h3 (by first | rfl | simp [ldB, ldV, Blk.own, V.one]) ?_
    refine G_yes (Eq.trans (@rfl V (V.bool (decide ((a) < (0 : Int))))) (bdF g2)) ?_
    refine R_len (@rfl V (V.sl (List.map cN (t.nd)))) ?_
    refine G_yes (Eq.trans (@rfl V (V.bool (decide ((a) < (0 : Int))))) (bdF g2)) ?_
    refine R_geq (x := (a)) (y := ((t.nd.length : Nat) : Int)) (@rfl V (iV (a))) (@rfl V (iV ((t.nd.length : Nat) : Int))) ?_
    refine R_pickF (Eq.trans (@rfl V (V.bool (decide ((a) < (0 : Int))))) (bdF g2)) (@rfl V (V.bool (decide (((t.nd.length : Nat) : Int) ≤ (a))))) ?_
    exact ⟨t1, t2, t3, (Eq.trans (@rfl V (V.bool (decide (((t.nd.length : Nat) : Int) ≤ (a))))) (dec_orF g2)), h3, trivial⟩
  intro T H ⟨t1, t2, t3, t25, h3, _⟩
  refine R_mv t25 ?_
  refine Ops_seg 3 (fun T H => T 1 = (iV (a)) ∧ T 2 = (iV (b)) ∧ T 3 = (V.mp 3 1 0 0) ∧ T 29 = (V.bool (decide ((((a) < (0 : Int)) ∨ (((t.nd.length : Nat) : Int) ≤ (a))) ∨ ((b) < (0 : Int))))) ∧ H 3 = (⟨1, true, false, 24, 1, [[(V.sl (List.map cN (t.nd)))]]⟩ : Blk) ∧ True) ?_ ?_
  ·
   by_cases g3 : ((a) < (0 : Int)) ∨ (((t.nd.length : Nat) : Int) ≤ (a))
   ·
    refine G_no (Eq.trans (@rfl V (V.bool (decide (((a) < (0 : Int)) ∨ (((t.nd.length : Nat) : Int) ≤ (a)))))) (bdT g3)) (by decide) ?_
    refine G_no (Eq.trans (@rfl V (V.bool (decide (((a) < (0 : Int)) ∨ (((t.nd.length : Nat) : Int) ≤ (a)))))) (bdT g3)) (by decide) ?_
    refine R_pickT (Eq.trans (@rfl V (V.bool (decide (((a) < (0 : Int)) ∨ (((t.nd.length : Nat) : Int) ≤ (a)))))) (bdT g3)) (@rfl V (V.bool true)) ?_
    exact ⟨t1, t2, t3, (Eq.trans (@rfl V (V.bool true)) (dec_orT g3)), h3, trivial⟩
   ·
    refine G_yes (Eq.trans (@rfl V (V.bool (decide (((a) < (0 : Int)) ∨ (((t.nd.length : Nat) : Int) ≤ (a)))))) (bdF g3)) ?_
    refine R_mv t2 ?_
    refine G_yes (Eq.trans (@rfl V (V.bool (decide (((a) < (0 : Int)) ∨ (((t.nd.length : Nat) : Int) ≤ (a)))))) (bdF g3)) ?_
    refine R_lss (x := (b)) (y := (0 : Int)) (@rfl V (iV (b))) (@rfl V (iV (0 : Int))) ?_
    refine R_pickF (Eq.trans (@rfl V (V.bool (decide (((a) < (0 : Int)) ∨ (((t.nd.length : Nat) : Int) ≤ (a)))))) (bdF g3)) (@rfl V (V.bool (decide ((b) < (0 : Int))))) ?_
    exact ⟨t1, t2, t3, (Eq.trans (@rfl V (V.bool (decide ((b) < (0 : Int))))) (dec_orF g3)), h3, trivial⟩
  intro T H ⟨t1, t2, t3, t29, h3, _⟩
  refine R_mv t29 ?_
  refine Ops_seg 6 (fun T H => T 1 = (iV (a)) ∧ T 2 = (iV (b)) ∧ T 3 = (V.mp 3 1 0 0) ∧ T 36 = (V.bool (decide (((((a) < (0 : Int)) ∨ (((t.nd.length : Nat) : Int) ≤ (a))) ∨ ((b) < (0 : Int))) ∨ (((t.nd.length : Nat) : Int) ≤ (b))))) ∧ H 3 = (⟨1, true, false, 24, 1, [[(V.sl (List.map cN (t.nd)))]]⟩ : Blk) ∧ True) ?_ ?_
  ·
   by_cases g4 : (((a) < (0 : Int)) ∨ (((t.nd.length : Nat) : Int) ≤ (a))) ∨ ((b) < (0 : Int))
   ·
    refine G_no (Eq.trans (@rfl V (V.bool (decide ((((a) < (0 : Int)) ∨ (((t.nd.length : Nat) : Int) ≤ (a))) ∨ ((b) < (0 : Int)))))) (bdT g4)) (by decide) ?_
    refine G_no (Eq.trans (@rfl V (V.bool (decide ((((a) < (0 : Int)) ∨ (((t.nd.length : Nat) : Int) ≤ (a))) ∨ ((b) < (0 : Int)))))) (bdT g4)) (by decide) ?_
    refine G_no (Eq.trans (@rfl V (V.bool (decide ((((a) < (0 : Int)) ∨ (((t.nd.length : Nat) : Int) ≤ (a))) ∨ ((b) < (0 : Int)))))) (bdT g4)) (by decide) ?_
    refine G_no (Eq.trans (@rfl V (V.bool (decide ((((a) < (0 : Int)) ∨ (((t.nd.length : Nat) : Int) ≤ (a))) ∨ ((b) < (0 : Int)))))) (bdT g4)) (by decide) ?_
    refine G_no (Eq.trans (@rfl V (V.bool (decide ((((a) < (0 : Int)) ∨ (((t.nd.length : Nat) : Int) ≤ (a))) ∨ ((b) < (0 : Int)))))) (bdT g4)) (by decide) ?_
    refine R_pickT (Eq.trans (@rfl V (V.bool (decide ((((a) < (0 : Int)) ∨ (((t.nd.length : Nat) : Int) ≤ (a))) ∨ ((b) < (0 : Int)))))) (bdT g4)) (@rfl V (V.bool true)) ?_
    exact ⟨t1, t2, t3, (Eq.trans (@rfl V (V.bool true)) (dec_orT g4)), h3, trivial⟩
   ·
    refine G_yes (Eq.trans (@rfl V (V.bool (decide ((((a) < (0 : Int)) ∨ (((t.nd.length : Nat) : Int) ≤ (a))) ∨ ((b) < (0 : Int)))))) (bdF g4)) ?_
    refine R_mv t2 ?_
    refine G_yes (Eq.trans (@rfl V (V.bool (decide ((((a) < (0 : Int)) ∨ (((t.nd.length : Nat) : Int) ≤ (a))) ∨ ((b) < (0 : Int)))))) (bdF g4)) ?_
    refine R_fld_mp (o' := 0) t3 h3 (by first | rfl | simp [okB, Blk.own]) rfl ?_
    refine G_yes (Eq.trans (@rfl V (V.bool (decide ((((a) < (0 : Int)) ∨ (((t.nd.length : Nat) : Int) ≤ (a))) ∨ ((b) < (0 : Int)))))) (bdF g4)) ?_
    refine R_load_mp (v := (V.sl (List.map cN (t.nd)))) (@rfl V (V.mp 3 1 0 0)) h3 (by first | rfl | simp [ldB, ldV, Blk.own, V.one]) ?_
    refine G_yes (Eq.trans (@rfl V (V.bool (decide ((((a) < (0 : Int)) ∨ (((t.nd.length : Nat) : Int) ≤ (a))) ∨ ((b) < (0 : Int)))))) (bdF g4)) ?_
    refine R_len (@rfl V (V.sl (List.map cN (t.nd)))) ?_
    refine G_yes (Eq.trans (@rfl V (V.bool (decide ((((a) < (0 : Int)) ∨ (((t.nd.length : Nat) : Int) ≤ (a))) ∨ ((b) < (0 : Int)))))) (bdF g4)) ?_
    refine R_geq (x := (b)) (y := ((t.nd.length : Nat) : Int)) (@rfl V (iV (b))) (@rfl V (iV ((t.nd.length : Nat) : Int))) ?_
    refine R_pickF (Eq.trans (@rfl V (V.bool (decide ((((a) < (0 : Int)) ∨ (((t.nd.length : Nat) : Int) ≤ (a))) ∨ ((b) < (0 : Int)))))) (bdF g4)) (@rfl V (V.bool (decide (((t.nd.length : Nat) : Int) ≤ (b))))) ?_
    exact ⟨t1, t2, t3, (Eq.trans (@rfl V (V.bool (decide (((t.nd.length : Nat) : Int) ≤ (b))))) (dec_orF g4)), h3, trivial⟩
  intro T H ⟨t1, t2, t3, t36, h3, _⟩
  exact R_nil ⟨t1, t2, t3, t36, h3, trivial⟩
 intro T H ⟨t1, t2, t3, t36, h3, _⟩
 refine W_seq_if (p := ((((a) < (0 : Int)) ∨ (((t.nd.length : Nat) : Int) ≤ (a))) ∨ ((b) < (0 : Int))) ∨ (((t.nd.length : Nat) : Int) ≤ (b))) t36 (fun c5 => ?_) (fun c5 => ?_)
 ·
  have d3 : a < 0 ∨ (t.nd.length : Int) ≤ a ∨ b < 0 ∨ (t.nd.length : Int) ≤ b := by omega
  refine W_seq_seq ?_
  refine W_seq_regc (fun T H => T 6 = V.nilsl ∧ T 7 = (iV (2 : Int)) ∧ H 3 = (⟨1, true, false, 24, 1, [[(V.sl (List.map cN (t.nd)))]]⟩ : Blk) ∧ True) ?_ ?_
  ·
   unfold r29_5
   refine R_mv (@rfl V V.nilsl) ?_
   refine R_mv (@rfl V (iV (2 : Int))) ?_
   exact R_nil ⟨rfl, rfl, h3, trivial⟩
  intro T H ⟨t6, t7, h3, _⟩
  refine W_seq_ret ?_
  refine Ret_2 t6 t7 (fz_nil ?_) (fz_int ?_)
  · unfold cmR; rw [if_neg (by unfold cmE; rw [if_neg (by omega), if_pos d3]; decide)]
  · unfold cmE; rw [if_neg (by omega), if_pos d3]
 have e1 : 0 ≤ a ∧ a < (t.nd.length : Int) := by omega
 have e2 : 0 ≤ b ∧ b < (t.nd.length : Int) := by omega
 refine W_seq_skip ?_
 refine W_seq_seq ?_
 refine W_seq_regc (fun T H => T 1 = (iV (a)) ∧ T 2 = (iV (b)) ∧ T 3 = (V.mp 3 1 0 0) ∧ T 52 = (V.bool ((((!((nth (t.nd) (a).toNat)).lf)) || ((!((nth (t.nd) (b).toNat)).lf))))) ∧ H 3 = (⟨1, true, false, 24, 1, [[(V.sl (List.map cN (t.nd)))]]⟩ : Blk) ∧ True) ?_ ?_
 ·
  unfold r29_6
  refine R_fld_mp (o' := 0) t3 h3 (by first | rfl | simp [okB, Blk.own]) rfl ?_
  refine R_load_mp (v := (V.sl (List.map cN (t.nd)))) (@rfl V (V.mp 3 1 0 0)) h3 (by first | rfl | simp [ldB, ldV, Blk.own, V.one]) ?_
  refine R_mv t1 ?_
  refine R_idxI (i := (a)) (@rfl V (V.sl (List.map cN (t.nd)))) (@rfl V (iV (a))) (by first | omega | (rw [p5]; omega)) (by first | omega | (rw [p5]; omega)) rfl ?_
  refine R_fld_pp (cs' := [(V.bool (((nth (t.nd) (a).toNat)).lf)), (V.sl (List.map cI (((nth (t.nd) (a).toNat)).ac))), (V.sl (List.map cI (((nth (t.nd) (a).toNat)).sf))), (V.sl (List.map cL (((nth (t.nd) (a).toNat)).ou))), (V.sl (List.map cI (((nth (t.nd) (a).toNat)).kd)))]) (@rfl V (V.pp [(V.bool (((nth (t.nd) (a).toNat)).lf)), (V.sl (List.map cI (((nth (t.nd) (a).toNat)).ac))), (V.sl (List.map cI (((nth (t.nd) (a).toNat)).sf))), (V.sl (List.map cL (((nth (t.nd) (a).toNat)).ou))), (V.sl (List.map cI (((nth (t.nd) (a).toNat)).kd)))])) rfl ?_
  refine R_load_pp (v := (V.bool (((nth (t.nd) (a).toNat)).lf))) (@rfl V (V.pp [(V.bool (((nth (t.nd) (a).toNat)).lf)), (V.sl (List.map cI (((nth (t.nd) (a).toNat)).ac))), (V.sl (List.map cI (((nth (t.nd) (a).toNat)).sf))), (V.sl (List.map cL (((nth (t.nd) (a).toNat)).ou))), (V.sl (List.map cI (((nth (t.nd) (a).toNat)).kd)))])) (by first | rfl | simp [ldV]) ?_
  refine R_notb (@rfl V (V.bool (((nth (t.nd) (a).toNat)).lf))) ?_
  refine R_mv (@rfl V (V.bool ((!((nth (t.nd) (a).toNat)).lf)))) ?_
  refine Ops_seg 8 (fun T H => T 1 = (iV (a)) ∧ T 2 = (iV (b)) ∧ T 3 = (V.mp 3 1 0 0) ∧ T 52 = (V.bool ((((!((nth (t.nd) (a).toNat)).lf)) || ((!((nth (t.nd) (b).toNat)).lf))))) ∧ H 3 = (⟨1, true, false, 24, 1, [[(V.sl (List.map cN (t.nd)))]]⟩ : Blk) ∧ True) ?_ ?_
  ·
   by_cases g6 : ((!((nth (t.nd) (a).toNat)).lf)) = true
   ·
    refine G_no (Eq.trans (@rfl V (V.bool ((!((nth (t.nd) (a).toNat)).lf)))) (bbT g6)) (by decide) ?_
    refine G_no (Eq.trans (@rfl V (V.bool ((!((nth (t.nd) (a).toNat)).lf)))) (bbT g6)) (by decide) ?_
    refine G_no (Eq.trans (@rfl V (V.bool ((!((nth (t.nd) (a).toNat)).lf)))) (bbT g6)) (by decide) ?_
    refine G_no (Eq.trans (@rfl V (V.bool ((!((nth (t.nd) (a).toNat)).lf)))) (bbT g6)) (by decide) ?_
    refine G_no (Eq.trans (@rfl V (V.bool ((!((nth (t.nd) (a).toNat)).lf)))) (bbT g6)) (by decide) ?_
    refine G_no (Eq.trans (@rfl V (V.bool ((!((nth (t.nd) (a).toNat)).lf)))) (bbT g6)) (by decide) ?_
    refine G_no (Eq.trans (@rfl V (V.bool ((!((nth (t.nd) (a).toNat)).lf)))) (bbT g6)) (by decide) ?_
    refine R_pickT (Eq.trans (@rfl V (V.bool ((!((nth (t.nd) (a).toNat)).lf)))) (bbT g6)) (@rfl V (V.bool true)) ?_
    exact ⟨t1, t2, t3, (Eq.trans (@rfl V (V.bool true)) (borT g6)), h3, trivial⟩
   ·
    refine G_yes (Eq.trans (@rfl V (V.bool ((!((nth (t.nd) (a).toNat)).lf)))) (bbF g6)) ?_
    refine R_fld_mp (o' := 0) t3 h3 (by first | rfl | simp [okB, Blk.own]) rfl ?_
    refine G_yes (Eq.trans (@rfl V (V.bool ((!((nth (t.nd) (a).toNat)).lf)))) (bbF g6)) ?_
    refine R_load_mp (v := (V.sl (List.map cN (t.nd)))) (@rfl V (V.mp 3 1 0 0)) h3 (by first | rfl | simp [ldB, ldV, Blk.own, V.one]) ?_
    refine G_yes (Eq.trans (@rfl V (V.bool ((!((nth (t.nd) (a).toNat)).lf)))) (bbF g6)) ?_
    refine R_mv t2 ?_
    refine G_yes (Eq.trans (@rfl V (V.bool ((!((nth (t.nd) (a).toNat)).lf)))) (bbF g6)) ?_
    refine R_idxI (i := (b)) (@rfl V (V.sl (List.map cN (t.nd)))) (@rfl V (iV (b))) (by first | omega | (rw [p5]; omega)) (by first | omega | (rw [p5]; omega)) rfl ?_
    refine G_yes (Eq.trans (@rfl V (V.bool ((!((nth (t.nd) (a).toNat)).lf)))) (bbF g6)) ?_
    refine R_fld_pp (cs' := [(V.bool (((nth (t.nd) (b).toNat)).lf)), (V.sl (List.map cI (((nth (t.nd) (b).toNat)).ac))), (V.sl (List.map cI (((nth (t.nd) (b).toNat)).sf))), (V.sl (List.map cL (((nth (t.nd) (b).toNat)).ou))), (V.sl (List.map cI (((nth (t.nd) (b).toNat)).kd)))]) (@rfl V (V.pp [(V.bool (((nth (t.nd) (b).toNat)).lf)), (V.sl (List.map cI (((nth (t.nd) (b).toNat)).ac))), (V.sl (List.map cI (((nth (t.nd) (b).toNat)).sf))), (V.sl (List.map cL (((nth (t.nd) (b).toNat)).ou))), (V.sl (List.map cI (((nth (t.nd) (b).toNat)).kd)))])) rfl ?_
    refine G_yes (Eq.trans (@rfl V (V.bool ((!((nth (t.nd) (a).toNat)).lf)))) (bbF g6)) ?_
    refine R_load_pp (v := (V.bool (((nth (t.nd) (b).toNat)).lf))) (@rfl V (V.pp [(V.bool (((nth (t.nd) (b).toNat)).lf)), (V.sl (List.map cI (((nth (t.nd) (b).toNat)).ac))), (V.sl (List.map cI (((nth (t.nd) (b).toNat)).sf))), (V.sl (List.map cL (((nth (t.nd) (b).toNat)).ou))), (V.sl (List.map cI (((nth (t.nd) (b).toNat)).kd)))])) (by first | rfl | simp [ldV]) ?_
    refine G_yes (Eq.trans (@rfl V (V.bool ((!((nth (t.nd) (a).toNat)).lf)))) (bbF g6)) ?_
    refine R_notb (@rfl V (V.bool (((nth (t.nd) (b).toNat)).lf))) ?_
    refine R_pickF (Eq.trans (@rfl V (V.bool ((!((nth (t.nd) (a).toNat)).lf)))) (bbF g6)) (@rfl V (V.bool ((!((nth (t.nd) (b).toNat)).lf)))) ?_
    exact ⟨t1, t2, t3, (Eq.trans (@rfl V (V.bool ((!((nth (t.nd) (b).toNat)).lf)))) (borF g6)), h3, trivial⟩
  intro T H ⟨t1, t2, t3, t52, h3, _⟩
  exact R_nil ⟨t1, t2, t3, t52, h3, trivial⟩
 intro T H ⟨t1, t2, t3, t52, h3, _⟩
 refine W_seq_ifb t52 (fun c7 => ?_) (fun c7 => ?_)
 ·
  have d4 : (nth t.nd a.toNat).lf = false ∨ (nth t.nd b.toNat).lf = false := by simpa using c7
  refine W_seq_seq ?_
  refine W_seq_regc (fun T H => T 6 = V.nilsl ∧ T 7 = (iV (10 : Int)) ∧ H 3 = (⟨1, true, false, 24, 1, [[(V.sl (List.map cN (t.nd)))]]⟩ : Blk) ∧ True) ?_ ?_
  ·
   unfold r29_7
   refine R_mv (@rfl V V.nilsl) ?_
   refine R_mv (@rfl V (iV (10 : Int))) ?_
   exact R_nil ⟨rfl, rfl, h3, trivial⟩
  intro T H ⟨t6, t7, h3, _⟩
  refine W_seq_ret ?_
  refine Ret_2 t6 t7 (fz_nil ?_) (fz_int ?_)
  · unfold cmR; rw [if_neg (by unfold cmE; rw [if_neg (by omega), if_neg (by omega), if_pos d4]; decide)]
  · unfold cmE; rw [if_neg (by omega), if_neg (by omega), if_pos d4]
 have d4 : ¬((nth t.nd a.toNat).lf = false ∨ (nth t.nd b.toNat).lf = false) := by simpa using c7
 refine W_seq_skip ?_
 refine W_seq_seq ?_
 refine W_seq_regc (fun T H => T 1 = (iV (a)) ∧ T 2 = (iV (b)) ∧ T 3 = (V.mp 3 1 0 0) ∧ T 55 = (V.bool (decide ((a) = (b)))) ∧ H 3 = (⟨1, true, false, 24, 1, [[(V.sl (List.map cN (t.nd)))]]⟩ : Blk) ∧ True) ?_ ?_
 ·
  unfold r29_8
  refine R_mv t1 ?_
  refine R_mv t2 ?_
  refine R_eql (x := (a)) (y := (b)) (@rfl V (iV (a))) (@rfl V (iV (b))) ?_
  exact R_nil ⟨t1, t2, t3, rfl, h3, trivial⟩
 intro T H ⟨t1, t2, t3, t55, h3, _⟩
 refine W_seq_if (p := (a) = (b)) t55 (fun c8 => ?_) (fun c8 => ?_)
 ·
  have d5 := c8
  refine W_seq_seq ?_
  refine W_seq_regc (fun T H => T 6 = V.nilsl ∧ T 7 = (iV (8 : Int)) ∧ H 3 = (⟨1, true, false, 24, 1, [[(V.sl (List.map cN (t.nd)))]]⟩ : Blk) ∧ True) ?_ ?_
  ·
   unfold r29_9
   refine R_mv (@rfl V V.nilsl) ?_
   refine R_mv (@rfl V (iV (8 : Int))) ?_
   exact R_nil ⟨rfl, rfl, h3, trivial⟩
  intro T H ⟨t6, t7, h3, _⟩
  refine W_seq_ret ?_
  refine Ret_2 t6 t7 (fz_nil ?_) (fz_int ?_)
  · unfold cmR; rw [if_neg (by unfold cmE; rw [if_neg (by omega), if_neg (by omega), if_neg d4, if_pos d5]; decide)]
  · unfold cmE; rw [if_neg (by omega), if_neg (by omega), if_neg d4, if_pos d5]
 have d5 := c8
 have p6 := pth_len t a
 have p1 := cmn_pos hv e1.1 e1.2 e2.1 e2.2
 have p2 := cmn_spec (pth t a) (pth t b)
 have p3 := pth_rng hv e1.1 e1.2 (show cmn (pth t a) (pth t b) - 1 < (pth t a).length by omega)
 have p4 := hb.sf _ (show (nth (pth t a) (cmn (pth t a) (pth t b) - 1)).toNat < t.nd.length by omega)
 have p5 : (((cmn (pth t a) (pth t b) : Nat) : Int) - (1 : Int)).toNat = cmn (pth t a) (pth t b) - 1 := by omega
 refine W_seq_skip ?_
 refine W_seq_regc (fun T H => T 3 = (V.mp 3 1 0 0) ∧ T 9 = (V.sl (List.map cI (pth t ((a))))) ∧ T 10 = (V.sl (List.map cI (pth t ((b))))) ∧ H 3 = (⟨1, true, false, 24, 1, [[(V.sl (List.map cN (t.nd)))]]⟩ : Blk) ∧ True) ?_ ?_
 ·
  unfold r29_10
  refine R_load_mp (v := (V.agg [(V.sl (List.map cN (t.nd)))])) t3 h3 (by first | rfl | simp [ldB, ldV, Blk.own, V.one]) ?_
  refine R_mv t1 ?_
  refine R_call (evcons (@rfl V (V.agg [(V.sl (List.map cN (t.nd)))])) (evcons (@rfl V (iV (a))) evnil)) (rpath_pure t ((a)) hv hb (by first | omega | assumption) (by first | omega | assumption)) (fzv_mapcanon _ _ (by simp [-List.map_take, -List.map_drop, -List.map_append, -List.map_reverse])) (by simp [-List.map_take, -List.map_drop, -List.map_append, -List.map_reverse]) (Or.inl (by simp [-List.map_take, -List.map_drop, -List.map_append, -List.map_reverse])) ?_
  refine R_load_mp (v := (V.agg [(V.sl (List.map cN (t.nd)))])) t3 h3 (by first | rfl | simp [ldB, ldV, Blk.own, V.one]) ?_
  refine R_mv t2 ?_
  refine R_call (evcons (@rfl V (V.agg [(V.sl (List.map cN (t.nd)))])) (evcons (@rfl V (iV (b))) evnil)) (rpath_pure t ((b)) hv hb (by first | omega | assumption) (by first | omega | assumption)) (fzv_mapcanon _ _ (by simp [-List.map_take, -List.map_drop, -List.map_append, -List.map_reverse])) (by simp [-List.map_take, -List.map_drop, -List.map_append, -List.map_reverse]) (Or.inl (by simp [-List.map_take, -List.map_drop, -List.map_append, -List.map_reverse])) ?_
  refine R_mv (@rfl V (V.sl (List.map cI (pth t ((a)))))) ?_
  refine R_mv (@rfl V (V.sl (List.map cI (pth t ((b)))))) ?_
  exact R_nil ⟨t3, rfl, rfl, h3, trivial⟩
 intro T H ⟨t3, t9, t10, h3, _⟩
 refine W_seq_regc (fun T H => T 3 = (V.mp 3 1 0 0) ∧ T 9 = (V.sl (List.map cI (pth t ((a))))) ∧ T 11 = (iV ((cmn (pth t ((a))) (pth t ((b))) : Nat) : Int)) ∧ H 3 = (⟨1, true, false, 24, 1, [[(V.sl (List.map cN (t.nd)))]]⟩ : Blk) ∧ True) ?_ ?_
 ·
  unfold r29_11
  refine R_mv t9 ?_
  refine R_mv t10 ?_
  have q9 := cmn_l (pth t ((a))) (pth t ((b)))
  have q10 := cmn_r (pth t ((a))) (pth t ((b)))
  refine R_call (evcons (@rfl V (V.sl (List.map cI (pth t ((a)))))) (evcons (@rfl V (V.sl (List.map cI (pth t ((b)))))) evnil)) (rcommon_pure (pth t ((a))) (pth t ((b)))) (fzv_mapcanon _ _ (by simp [-List.map_take, -List.map_drop, -List.map_append, -List.map_reverse])) (by simp [-List.map_take, -List.map_drop, -List.map_append, -List.map_reverse]) (Or.inl (by simp [-List.map_take, -List.map_drop, -List.map_append, -List.map_reverse])) ?_
  refine R_mv (@rfl V (iV ((cmn (pth t ((a))) (pth t ((b))) : Nat) : Int))) ?_
  exact R_nil ⟨t3, t9, rfl, h3, trivial⟩
 intro T H ⟨t3, t9, t11, h3, _⟩
 have q11 := cmn_l (pth t ((a))) (pth t ((b)))
 have q12 := cmn_r (pth t ((a))) (pth t ((b)))
 refine W_seq_regc (fun T H => T 6 = (V.sl (List.map cI (cat ([((nth (t.nd) ((nth (pth t ((a))) (((cmn (pth t ((a))) (pth t ((b))) : Nat) : Int) - (1 : Int)).toNat)).toNat)).sf])))) ∧ T 7 = (iV (0 : Int)) ∧ H 3 = (⟨1, true, false, 24, 1, [[(V.sl (List.map cN (t.nd)))]]⟩ : Blk) ∧ True) ?_ ?_
 ·
  unfold r29_12
  refine R_fld_mp (o' := 0) t3 h3 (by first | rfl | simp [okB, Blk.own]) rfl ?_
  refine R_load_mp (v := (V.sl (List.map cN (t.nd)))) (@rfl V (V.mp 3 1 0 0)) h3 (by first | rfl | simp [ldB, ldV, Blk.own, V.one]) ?_
  refine R_mv t9 ?_
  refine R_mv t11 ?_
  refine R_sub (x := ((cmn (pth t ((a))) (pth t ((b))) : Nat) : Int)) (y := (1 : Int)) (@rfl V (iV ((cmn (pth t ((a))) (pth t ((b))) : Nat) : Int))) (@rfl V (iV (1 : Int))) (by first | omega | (rw [p5]; omega)) (by first | omega | (rw [p5]; omega)) ?_
  refine R_idxI (i := (((cmn (pth t ((a))) (pth t ((b))) : Nat) : Int) - (1 : Int))) (@rfl V (V.sl (List.map cI (pth t ((a)))))) (@rfl V (iV (((cmn (pth t ((a))) (pth t ((b))) : Nat) : Int) - (1 : Int)))) (by first | omega | (rw [p5]; omega)) (by first | omega | (rw [p5]; omega)) rfl ?_
  refine R_load_pp (v := (iV ((nth (pth t ((a))) (((cmn (pth t ((a))) (pth t ((b))) : Nat) : Int) - (1 : Int)).toNat)))) (@rfl V (V.pp [(iV ((nth (pth t ((a))) (((cmn (pth t ((a))) (pth t ((b))) : Nat) : Int) - (1 : Int)).toNat)))])) (by first | rfl | simp [ldV]) ?_
  refine R_idxI (i := ((nth (pth t ((a))) (((cmn (pth t ((a))) (pth t ((b))) : Nat) : Int) - (1 : Int)).toNat))) (@rfl V (V.sl (List.map cN (t.nd)))) (@rfl V (iV ((nth (pth t ((a))) (((cmn (pth t ((a))) (pth t ((b))) : Nat) : Int) - (1 : Int)).toNat)))) (by first | omega | (rw [p5]; omega)) (by first | omega | (rw [p5]; omega)) rfl ?_
  refine R_fld_pp (cs' := [(V.sl (List.map cI (((nth (t.nd) ((nth (pth t ((a))) (((cmn (pth t ((a))) (pth t ((b))) : Nat) : Int) - (1 : Int)).toNat)).toNat)).sf))), (V.sl (List.map cL (((nth (t.nd) ((nth (pth t ((a))) (((cmn (pth t ((a))) (pth t ((b))) : Nat) : Int) - (1 : Int)).toNat)).toNat)).ou))), (V.sl (List.map cI (((nth (t.nd) ((nth (pth t ((a))) (((cmn (pth t ((a))) (pth t ((b))) : Nat) : Int) - (1 : Int)).toNat)).toNat)).kd)))]) (@rfl V (V.pp [(V.bool (((nth (t.nd) ((nth (pth t ((a))) (((cmn (pth t ((a))) (pth t ((b))) : Nat) : Int) - (1 : Int)).toNat)).toNat)).lf)), (V.sl (List.map cI (((nth (t.nd) ((nth (pth t ((a))) (((cmn (pth t ((a))) (pth t ((b))) : Nat) : Int) - (1 : Int)).toNat)).toNat)).ac))), (V.sl (List.map cI (((nth (t.nd) ((nth (pth t ((a))) (((cmn (pth t ((a))) (pth t ((b))) : Nat) : Int) - (1 : Int)).toNat)).toNat)).sf))), (V.sl (List.map cL (((nth (t.nd) ((nth (pth t ((a))) (((cmn (pth t ((a))) (pth t ((b))) : Nat) : Int) - (1 : Int)).toNat)).toNat)).ou))), (V.sl (List.map cI (((nth (t.nd) ((nth (pth t ((a))) (((cmn (pth t ((a))) (pth t ((b))) : Nat) : Int) - (1 : Int)).toNat)).toNat)).kd)))])) rfl ?_
  refine R_load_pp (v := (V.sl (List.map cI (((nth (t.nd) ((nth (pth t ((a))) (((cmn (pth t ((a))) (pth t ((b))) : Nat) : Int) - (1 : Int)).toNat)).toNat)).sf)))) (@rfl V (V.pp [(V.sl (List.map cI (((nth (t.nd) ((nth (pth t ((a))) (((cmn (pth t ((a))) (pth t ((b))) : Nat) : Int) - (1 : Int)).toNat)).toNat)).sf))), (V.sl (List.map cL (((nth (t.nd) ((nth (pth t ((a))) (((cmn (pth t ((a))) (pth t ((b))) : Nat) : Int) - (1 : Int)).toNat)).toNat)).ou))), (V.sl (List.map cI (((nth (t.nd) ((nth (pth t ((a))) (((cmn (pth t ((a))) (pth t ((b))) : Nat) : Int) - (1 : Int)).toNat)).toNat)).kd)))])) (by first | rfl | simp [ldV]) ?_
  refine R_bslice (qs := [(0, (V.sl (List.map cI (((nth (t.nd) ((nth (pth t ((a))) (((cmn (pth t ((a))) (pth t ((b))) : Nat) : Int) - (1 : Int)).toNat)).toNat)).sf))))]) (rows := [[(V.sl (List.map cI (((nth (t.nd) ((nth (pth t ((a))) (((cmn (pth t ((a))) (pth t ((b))) : Nat) : Int) - (1 : Int)).toNat)).toNat)).sf)))]]) (mcons (congrArg (fun v => (0, v)) (@rfl V (V.sl (List.map cI (((nth (t.nd) ((nth (pth t ((a))) (((cmn (pth t ((a))) (pth t ((b))) : Nat) : Int) - (1 : Int)).toNat)).toNat)).sf))))) rfl) rfl ?_
  refine R_call (evcons (@rfl V (V.sl [[(V.sl (List.map cI (((nth (t.nd) ((nth (pth t ((a))) (((cmn (pth t ((a))) (pth t ((b))) : Nat) : Int) - (1 : Int)).toNat)).toNat)).sf)))]])) evnil) (join_pure ([((nth (t.nd) ((nth (pth t ((a))) (((cmn (pth t ((a))) (pth t ((b))) : Nat) : Int) - (1 : Int)).toNat)).toNat)).sf]) (by rw [p5]; simp only [cat, List.append_nil]; omega)) (fzv_mapcanon _ _ (by simp [-List.map_take, -List.map_drop, -List.map_append, -List.map_reverse])) (by simp [-List.map_take, -List.map_drop, -List.map_append, -List.map_reverse]) (Or.inl (by simp [-List.map_take, -List.map_drop, -List.map_append, -List.map_reverse])) ?_
  refine R_mv (@rfl V (V.sl (List.map cI (cat ([((nth (t.nd) ((nth (pth t ((a))) (((cmn (pth t ((a))) (pth t ((b))) : Nat) : Int) - (1 : Int)).toNat)).toNat)).sf]))))) ?_
  refine R_mv (@rfl V (iV (0 : Int))) ?_
  exact R_nil ⟨rfl, rfl, h3, trivial⟩
 intro T H ⟨t6, t7, h3, _⟩
 refine W_ret ?_
 refine Ret_2 t6 t7 (fz_sl ?_ (fun _ => by simp)) (fz_int ?_)
 · have hE : cmE t a b = 0 := by unfold cmE; rw [if_neg (by omega), if_neg (by omega), if_neg d4, if_neg d5]
   unfold cmR cmS; rw [if_pos hE, p5]; simp [cat]
 · have hE : cmE t a b = 0 := by unfold cmE; rw [if_neg (by omega), if_neg (by omega), if_neg d4, if_neg d5]
   exact hE.symm
end Go.Proofs.YtmnjchcoigbngaaGreat


namespace Go.Proofs.YtmnjchcoigbngaaGreat
open Go Go.Proofs
theorem law7_pure (t : Dt) (a b : Int) : PureC Tryz.prog 7 [(V.agg [(V.sl (List.map cN (t.nd)))]), (iV (a)), (iV (b))] (V.bool true) := by
 refine pure_of_Wb true 6 Tryz.func7 s7_ok (by kernel_rfl) (by simp [s7]) (by simp) (by simp) fun hB => ?_
 simp only [bnd_map, bnd_int, bnd_bool, bnd_str, bnd_agg, bnd_pp, bnd_nil, bnd_cons, implies_true, and_true, true_and] at hB
 unfold s7
 dsimp only
 refine W_seq_regc (fun T H => T 1 = (iV (a)) ∧ T 2 = (iV (b)) ∧ T 3 = (V.mp 3 1 0 0) ∧ H 3 = (⟨1, true, false, 24, 1, [[(V.sl (List.map cN (t.nd)))]]⟩ : Blk) ∧ True) ?_ ?_
 ·
  unfold r7_0
  refine R_box (i := 3) (n := 0) (m := 1) (cs := [(V.sl (List.map cN (t.nd)))]) rfl (congrArg Blk.ver rfl) (@rfl V (V.agg [(V.sl (List.map cN (t.nd)))])) rfl rfl ?_
  refine R_mv (@rfl V (V.bool false)) ?_
  exact R_nil ⟨rfl, rfl, rfl, rfl, trivial⟩
 intro T H ⟨t1, t2, t3, h3, _⟩
 refine W_seq_seq ?_
 refine W_seq_regc (fun T H => T 1 = (iV (a)) ∧ T 2 = (iV (b)) ∧ T 3 = (V.mp 3 1 0 0) ∧ T 14 = (V.bool (bgT t)) ∧ H 3 = (⟨1, true, false, 24, 1, [[(V.sl (List.map cN (t.nd)))]]⟩ : Blk) ∧ True) ?_ ?_
 ·
  unfold r7_1
  refine R_load_mp (v := (V.agg [(V.sl (List.map cN (t.nd)))])) t3 h3 (by first | rfl | simp [ldB, ldV, Blk.own, V.one]) ?_
  refine R_call (evcons (@rfl V (V.agg [(V.sl (List.map cN (t.nd)))])) evnil) (great_pure t) (fzv_mapcanon _ _ (by simp [-List.map_take, -List.map_drop, -List.map_append, -List.map_reverse])) (by simp [-List.map_take, -List.map_drop, -List.map_append, -List.map_reverse]) (Or.inl (by simp [-List.map_take, -List.map_drop, -List.map_append, -List.map_reverse])) ?_
  exact R_nil ⟨t1, t2, t3, rfl, h3, trivial⟩
 intro T H ⟨t1, t2, t3, t14, h3, _⟩
 refine W_seq_ifb t14 (fun c1 => ?_) (fun c1 => ?_)
 ·
  refine W_seq_seq ?_
  refine W_seq_regc (fun T H => T 6 = (V.bool true) ∧ H 3 = (⟨1, true, false, 24, 1, [[(V.sl (List.map cN (t.nd)))]]⟩ : Blk) ∧ True) ?_ ?_
  ·
   unfold r7_2
   refine R_call evnil (aw_learnerlaw26_awake_pure) (fzv_mapcanon _ _ (by simp [-List.map_take, -List.map_drop, -List.map_append, -List.map_reverse])) (by simp [-List.map_take, -List.map_drop, -List.map_append, -List.map_reverse]) (Or.inl (by simp [-List.map_take, -List.map_drop, -List.map_append, -List.map_reverse])) ?_
   refine R_mv (@rfl V (V.bool true)) ?_
   exact R_nil ⟨rfl, h3, trivial⟩
  intro T H ⟨t6, h3, _⟩
  refine W_seq_ret ?_
  refine Ret_1 t6 (fz_canon (by simp) rfl)
 have hb := bg_bd (t := t) (by simpa using c1)
 refine W_seq_skip ?_
 refine W_seq_regc (fun T H => T 1 = (iV (a)) ∧ T 2 = (iV (b)) ∧ T 3 = (V.mp 3 1 0 0) ∧ T 7 = (V.sl (List.map cI (cmR t ((a)) ((b))))) ∧ T 8 = (iV (cmE t ((a)) ((b)))) ∧ H 3 = (⟨1, true, false, 24, 1, [[(V.sl (List.map cN (t.nd)))]]⟩ : Blk) ∧ True) ?_ ?_
 ·
  unfold r7_3
  refine R_load_mp (v := (V.agg [(V.sl (List.map cN (t.nd)))])) t3 h3 (by first | rfl | simp [ldB, ldV, Blk.own, V.one]) ?_
  refine R_mv t1 ?_
  refine R_mv t2 ?_
  refine R_call (evcons (@rfl V (V.agg [(V.sl (List.map cN (t.nd)))])) (evcons (@rfl V (iV (a))) (evcons (@rfl V (iV (b))) evnil))) (dcommon_pure t ((a)) ((b)) hb) (fzv_mapcanon _ _ (by simp [-List.map_take, -List.map_drop, -List.map_append, -List.map_reverse])) (by simp [-List.map_take, -List.map_drop, -List.map_append, -List.map_reverse]) (Or.inl (by simp [-List.map_take, -List.map_drop, -List.map_append, -List.map_reverse])) ?_
  refine R_mv (@rfl V (V.tup [(V.sl (List.map cI (cmR t ((a)) ((b))))), (iV (cmE t ((a)) ((b))))])) ?_
  refine R_ext (v := (V.sl (List.map cI (cmR t ((a)) ((b)))))) (@rfl V (V.tup [(V.sl (List.map cI (cmR t ((a)) ((b))))), (iV (cmE t ((a)) ((b))))])) rfl ?_
  refine R_ext (v := (iV (cmE t ((a)) ((b))))) (@rfl V (V.tup [(V.sl (List.map cI (cmR t ((a)) ((b))))), (iV (cmE t ((a)) ((b))))])) rfl ?_
  refine R_mv (@rfl V (V.sl (List.map cI (cmR t ((a)) ((b)))))) ?_
  refine R_mv (@rfl V (iV (cmE t ((a)) ((b))))) ?_
  exact R_nil ⟨t1, t2, t3, rfl, rfl, h3, trivial⟩
 intro T H ⟨t1, t2, t3, t7, t8, h3, _⟩
 refine W_seq_regc (fun T H => T 1 = (iV (a)) ∧ T 2 = (iV (b)) ∧ T 3 = (V.mp 3 1 0 0) ∧ T 7 = (V.sl (List.map cI (cmR t ((a)) ((b))))) ∧ T 8 = (iV (cmE t ((a)) ((b)))) ∧ T 9 = (V.sl (List.map cI (cmR t ((a)) ((b))))) ∧ T 10 = (iV (cmE t ((a)) ((b)))) ∧ H 3 = (⟨1, true, false, 24, 1, [[(V.sl (List.map cN (t.nd)))]]⟩ : Blk) ∧ True) ?_ ?_
 ·
  unfold r7_4
  refine R_load_mp (v := (V.agg [(V.sl (List.map cN (t.nd)))])) t3 h3 (by first | rfl | simp [ldB, ldV, Blk.own, V.one]) ?_
  refine R_mv t1 ?_
  refine R_mv t2 ?_
  refine R_call (evcons (@rfl V (V.agg [(V.sl (List.map cN (t.nd)))])) (evcons (@rfl V (iV (a))) (evcons (@rfl V (iV (b))) evnil))) (rdcommon_pure t ((a)) ((b)) hb) (fzv_mapcanon _ _ (by simp [-List.map_take, -List.map_drop, -List.map_append, -List.map_reverse])) (by simp [-List.map_take, -List.map_drop, -List.map_append, -List.map_reverse]) (Or.inl (by simp [-List.map_take, -List.map_drop, -List.map_append, -List.map_reverse])) ?_
  refine R_mv (@rfl V (V.tup [(V.sl (List.map cI (cmR t ((a)) ((b))))), (iV (cmE t ((a)) ((b))))])) ?_
  refine R_ext (v := (V.sl (List.map cI (cmR t ((a)) ((b)))))) (@rfl V (V.tup [(V.sl (List.map cI (cmR t ((a)) ((b))))), (iV (cmE t ((a)) ((b))))])) rfl ?_
  refine R_ext (v := (iV (cmE t ((a)) ((b))))) (@rfl V (V.tup [(V.sl (List.map cI (cmR t ((a)) ((b))))), (iV (cmE t ((a)) ((b))))])) rfl ?_
  refine R_mv (@rfl V (V.sl (List.map cI (cmR t ((a)) ((b)))))) ?_
  refine R_mv (@rfl V (iV (cmE t ((a)) ((b))))) ?_
  exact R_nil ⟨t1, t2, t3, t7, t8, rfl, rfl, h3, trivial⟩
 intro T H ⟨t1, t2, t3, t7, t8, t9, t10, h3, _⟩
 refine W_seq_regc (fun T H => T 7 = (V.sl (List.map cI (cmR t ((a)) ((b))))) ∧ T 8 = (iV (cmE t ((a)) ((b)))) ∧ T 9 = (V.sl (List.map cI (cmR t ((a)) ((b))))) ∧ T 10 = (iV (cmE t ((a)) ((b)))) ∧ T 11 = (V.sl (List.map cI (cmR t ((b)) ((a))))) ∧ T 12 = (iV (cmE t ((b)) ((a)))) ∧ H 3 = (⟨1, true, false, 24, 1, [[(V.sl (List.map cN (t.nd)))]]⟩ : Blk) ∧ True) ?_ ?_
 ·
  unfold r7_5
  refine R_load_mp (v := (V.agg [(V.sl (List.map cN (t.nd)))])) t3 h3 (by first | rfl | simp [ldB, ldV, Blk.own, V.one]) ?_
  refine R_mv t2 ?_
  refine R_mv t1 ?_
  refine R_call (evcons (@rfl V (V.agg [(V.sl (List.map cN (t.nd)))])) (evcons (@rfl V (iV (b))) (evcons (@rfl V (iV (a))) evnil))) (dcommon_pure t ((b)) ((a)) hb) (fzv_mapcanon _ _ (by simp [-List.map_take, -List.map_drop, -List.map_append, -List.map_reverse])) (by simp [-List.map_take, -List.map_drop, -List.map_append, -List.map_reverse]) (Or.inl (by simp [-List.map_take, -List.map_drop, -List.map_append, -List.map_reverse])) ?_
  refine R_mv (@rfl V (V.tup [(V.sl (List.map cI (cmR t ((b)) ((a))))), (iV (cmE t ((b)) ((a))))])) ?_
  refine R_ext (v := (V.sl (List.map cI (cmR t ((b)) ((a)))))) (@rfl V (V.tup [(V.sl (List.map cI (cmR t ((b)) ((a))))), (iV (cmE t ((b)) ((a))))])) rfl ?_
  refine R_ext (v := (iV (cmE t ((b)) ((a))))) (@rfl V (V.tup [(V.sl (List.map cI (cmR t ((b)) ((a))))), (iV (cmE t ((b)) ((a))))])) rfl ?_
  refine R_mv (@rfl V (V.sl (List.map cI (cmR t ((b)) ((a)))))) ?_
  refine R_mv (@rfl V (iV (cmE t ((b)) ((a))))) ?_
  exact R_nil ⟨t7, t8, t9, t10, rfl, rfl, h3, trivial⟩
 intro T H ⟨t7, t8, t9, t10, t11, t12, h3, _⟩
 refine W_seq_regc (fun T H => T 6 = (V.bool (decide (((((cmR t ((a)) ((b))) = (cmR t ((a)) ((b)))) ∧ ((cmE t ((a)) ((b))) = (cmE t ((a)) ((b))))) ∧ ((cmR t ((a)) ((b))) = (cmR t ((b)) ((a))))) ∧ ((cmE t ((a)) ((b))) = (cmE t ((b)) ((a))))))) ∧ H 3 = (⟨1, true, false, 24, 1, [[(V.sl (List.map cN (t.nd)))]]⟩ : Blk) ∧ True) ?_ ?_
 ·
  unfold r7_6
  refine R_mv t7 ?_
  refine R_mv t9 ?_
  refine R_call (evcons (@rfl V (V.sl (List.map cI (cmR t ((a)) ((b)))))) (evcons (@rfl V (V.sl (List.map cI (cmR t ((a)) ((b)))))) evnil)) (rsame1_pure (cmR t ((a)) ((b))) (cmR t ((a)) ((b)))) (fzv_mapcanon _ _ (by simp [-List.map_take, -List.map_drop, -List.map_append, -List.map_reverse])) (by simp [-List.map_take, -List.map_drop, -List.map_append, -List.map_reverse]) (Or.inl (by simp [-List.map_take, -List.map_drop, -List.map_append, -List.map_reverse])) ?_
  refine R_mv (@rfl V (V.bool (decide ((cmR t ((a)) ((b))) = (cmR t ((a)) ((b))))))) ?_
  refine Ops_seg 4 (fun T H => T 7 = (V.sl (List.map cI (cmR t ((a)) ((b))))) ∧ T 8 = (iV (cmE t ((a)) ((b)))) ∧ T 11 = (V.sl (List.map cI (cmR t ((b)) ((a))))) ∧ T 12 = (iV (cmE t ((b)) ((a)))) ∧ T 44 = (V.bool (decide (((cmR t ((a)) ((b))) = (cmR t ((a)) ((b)))) ∧ ((cmE t ((a)) ((b))) = (cmE t ((a)) ((b))))))) ∧ H 3 = (⟨1, true, false, 24, 1, [[(V.sl (List.map cN (t.nd)))]]⟩ : Blk) ∧ True) ?_ ?_
  ·
   by_cases g2 : (cmR t ((a)) ((b))) = (cmR t ((a)) ((b)))
   ·
    refine G_yes (Eq.trans (@rfl V (V.bool (decide ((cmR t ((a)) ((b))) = (cmR t ((a)) ((b))))))) (bdT g2)) ?_
    refine R_mv t8 ?_
    refine G_yes (Eq.trans (@rfl V (V.bool (decide ((cmR t ((a)) ((b))) = (cmR t ((a)) ((b))))))) (bdT g2)) ?_
    refine R_mv t10 ?_
    refine G_yes (Eq.trans (@rfl V (V.bool (decide ((cmR t ((a)) ((b))) = (cmR t ((a)) ((b))))))) (bdT g2)) ?_
    refine R_eql (x := (cmE t ((a)) ((b)))) (y := (cmE t ((a)) ((b)))) (@rfl V (iV (cmE t ((a)) ((b))))) (@rfl V (iV (cmE t ((a)) ((b))))) ?_
    refine R_pickT (Eq.trans (@rfl V (V.bool (decide ((cmR t ((a)) ((b))) = (cmR t ((a)) ((b))))))) (bdT g2)) (@rfl V (V.bool (decide ((cmE t ((a)) ((b))) = (cmE t ((a)) ((b))))))) ?_
    exact ⟨t7, t8, t11, t12, (Eq.trans (@rfl V (V.bool (decide ((cmE t ((a)) ((b))) = (cmE t ((a)) ((b))))))) (dec_andT g2)), h3, trivial⟩
   ·
    refine G_no (Eq.trans (@rfl V (V.bool (decide ((cmR t ((a)) ((b))) = (cmR t ((a)) ((b))))))) (bdF g2)) (by decide) ?_
    refine G_no (Eq.trans (@rfl V (V.bool (decide ((cmR t ((a)) ((b))) = (cmR t ((a)) ((b))))))) (bdF g2)) (by decide) ?_
    refine G_no (Eq.trans (@rfl V (V.bool (decide ((cmR t ((a)) ((b))) = (cmR t ((a)) ((b))))))) (bdF g2)) (by decide) ?_
    refine R_pickF (Eq.trans (@rfl V (V.bool (decide ((cmR t ((a)) ((b))) = (cmR t ((a)) ((b))))))) (bdF g2)) (@rfl V (V.bool false)) ?_
    exact ⟨t7, t8, t11, t12, (Eq.trans (@rfl V (V.bool false)) (dec_andF g2)), h3, trivial⟩
  intro T H ⟨t7, t8, t11, t12, t44, h3, _⟩
  refine R_mv t44 ?_
  refine Ops_seg 4 (fun T H => T 8 = (iV (cmE t ((a)) ((b)))) ∧ T 12 = (iV (cmE t ((b)) ((a)))) ∧ T 49 = (V.bool (decide ((((cmR t ((a)) ((b))) = (cmR t ((a)) ((b)))) ∧ ((cmE t ((a)) ((b))) = (cmE t ((a)) ((b))))) ∧ ((cmR t ((a)) ((b))) = (cmR t ((b)) ((a))))))) ∧ H 3 = (⟨1, true, false, 24, 1, [[(V.sl (List.map cN (t.nd)))]]⟩ : Blk) ∧ True) ?_ ?_
  ·
   by_cases g3 : ((cmR t ((a)) ((b))) = (cmR t ((a)) ((b)))) ∧ ((cmE t ((a)) ((b))) = (cmE t ((a)) ((b))))
   ·
    refine G_yes (Eq.trans (@rfl V (V.bool (decide (((cmR t ((a)) ((b))) = (cmR t ((a)) ((b)))) ∧ ((cmE t ((a)) ((b))) = (cmE t ((a)) ((b)))))))) (bdT g3)) ?_
    refine R_mv t7 ?_
    refine G_yes (Eq.trans (@rfl V (V.bool (decide (((cmR t ((a)) ((b))) = (cmR t ((a)) ((b)))) ∧ ((cmE t ((a)) ((b))) = (cmE t ((a)) ((b)))))))) (bdT g3)) ?_
    refine R_mv t11 ?_
    refine G_yes (Eq.trans (@rfl V (V.bool (decide (((cmR t ((a)) ((b))) = (cmR t ((a)) ((b)))) ∧ ((cmE t ((a)) ((b))) = (cmE t ((a)) ((b)))))))) (bdT g3)) ?_
    refine R_call (evcons (@rfl V (V.sl (List.map cI (cmR t ((a)) ((b)))))) (evcons (@rfl V (V.sl (List.map cI (cmR t ((b)) ((a)))))) evnil)) (rsame1_pure (cmR t ((a)) ((b))) (cmR t ((b)) ((a)))) (fzv_mapcanon _ _ (by simp [-List.map_take, -List.map_drop, -List.map_append, -List.map_reverse])) (by simp [-List.map_take, -List.map_drop, -List.map_append, -List.map_reverse]) (Or.inl (by simp [-List.map_take, -List.map_drop, -List.map_append, -List.map_reverse])) ?_
    refine R_pickT (Eq.trans (@rfl V (V.bool (decide (((cmR t ((a)) ((b))) = (cmR t ((a)) ((b)))) ∧ ((cmE t ((a)) ((b))) = (cmE t ((a)) ((b)))))))) (bdT g3)) (@rfl V (V.bool (decide ((cmR t ((a)) ((b))) = (cmR t ((b)) ((a))))))) ?_
    exact ⟨t8, t12, (Eq.trans (@rfl V (V.bool (decide ((cmR t ((a)) ((b))) = (cmR t ((b)) ((a))))))) (dec_andT g3)), h3, trivial⟩
   ·
    refine G_no (Eq.trans (@rfl V (V.bool (decide (((cmR t ((a)) ((b))) = (cmR t ((a)) ((b)))) ∧ ((cmE t ((a)) ((b))) = (cmE t ((a)) ((b)))))))) (bdF g3)) (by decide) ?_
    refine G_no (Eq.trans (@rfl V (V.bool (decide (((cmR t ((a)) ((b))) = (cmR t ((a)) ((b)))) ∧ ((cmE t ((a)) ((b))) = (cmE t ((a)) ((b)))))))) (bdF g3)) (by decide) ?_
    refine G_no (Eq.trans (@rfl V (V.bool (decide (((cmR t ((a)) ((b))) = (cmR t ((a)) ((b)))) ∧ ((cmE t ((a)) ((b))) = (cmE t ((a)) ((b)))))))) (bdF g3)) (by decide) ?_
    refine R_pickF (Eq.trans (@rfl V (V.bool (decide (((cmR t ((a)) ((b))) = (cmR t ((a)) ((b)))) ∧ ((cmE t ((a)) ((b))) = (cmE t ((a)) ((b)))))))) (bdF g3)) (@rfl V (V.bool false)) ?_
    exact ⟨t8, t12, (Eq.trans (@rfl V (V.bool false)) (dec_andF g3)), h3, trivial⟩
  intro T H ⟨t8, t12, t49, h3, _⟩
  refine R_mv t49 ?_
  refine Ops_seg 4 (fun T H => T 54 = (V.bool (decide (((((cmR t ((a)) ((b))) = (cmR t ((a)) ((b)))) ∧ ((cmE t ((a)) ((b))) = (cmE t ((a)) ((b))))) ∧ ((cmR t ((a)) ((b))) = (cmR t ((b)) ((a))))) ∧ ((cmE t ((a)) ((b))) = (cmE t ((b)) ((a))))))) ∧ H 3 = (⟨1, true, false, 24, 1, [[(V.sl (List.map cN (t.nd)))]]⟩ : Blk) ∧ True) ?_ ?_
  ·
   by_cases g4 : (((cmR t ((a)) ((b))) = (cmR t ((a)) ((b)))) ∧ ((cmE t ((a)) ((b))) = (cmE t ((a)) ((b))))) ∧ ((cmR t ((a)) ((b))) = (cmR t ((b)) ((a))))
   ·
    refine G_yes (Eq.trans (@rfl V (V.bool (decide ((((cmR t ((a)) ((b))) = (cmR t ((a)) ((b)))) ∧ ((cmE t ((a)) ((b))) = (cmE t ((a)) ((b))))) ∧ ((cmR t ((a)) ((b))) = (cmR t ((b)) ((a)))))))) (bdT g4)) ?_
    refine R_mv t8 ?_
    refine G_yes (Eq.trans (@rfl V (V.bool (decide ((((cmR t ((a)) ((b))) = (cmR t ((a)) ((b)))) ∧ ((cmE t ((a)) ((b))) = (cmE t ((a)) ((b))))) ∧ ((cmR t ((a)) ((b))) = (cmR t ((b)) ((a)))))))) (bdT g4)) ?_
    refine R_mv t12 ?_
    refine G_yes (Eq.trans (@rfl V (V.bool (decide ((((cmR t ((a)) ((b))) = (cmR t ((a)) ((b)))) ∧ ((cmE t ((a)) ((b))) = (cmE t ((a)) ((b))))) ∧ ((cmR t ((a)) ((b))) = (cmR t ((b)) ((a)))))))) (bdT g4)) ?_
    refine R_eql (x := (cmE t ((a)) ((b)))) (y := (cmE t ((b)) ((a)))) (@rfl V (iV (cmE t ((a)) ((b))))) (@rfl V (iV (cmE t ((b)) ((a))))) ?_
    refine R_pickT (Eq.trans (@rfl V (V.bool (decide ((((cmR t ((a)) ((b))) = (cmR t ((a)) ((b)))) ∧ ((cmE t ((a)) ((b))) = (cmE t ((a)) ((b))))) ∧ ((cmR t ((a)) ((b))) = (cmR t ((b)) ((a)))))))) (bdT g4)) (@rfl V (V.bool (decide ((cmE t ((a)) ((b))) = (cmE t ((b)) ((a))))))) ?_
    exact ⟨(Eq.trans (@rfl V (V.bool (decide ((cmE t ((a)) ((b))) = (cmE t ((b)) ((a))))))) (dec_andT g4)), h3, trivial⟩
   ·
    refine G_no (Eq.trans (@rfl V (V.bool (decide ((((cmR t ((a)) ((b))) = (cmR t ((a)) ((b)))) ∧ ((cmE t ((a)) ((b))) = (cmE t ((a)) ((b))))) ∧ ((cmR t ((a)) ((b))) = (cmR t ((b)) ((a)))))))) (bdF g4)) (by decide) ?_
    refine G_no (Eq.trans (@rfl V (V.bool (decide ((((cmR t ((a)) ((b))) = (cmR t ((a)) ((b)))) ∧ ((cmE t ((a)) ((b))) = (cmE t ((a)) ((b))))) ∧ ((cmR t ((a)) ((b))) = (cmR t ((b)) ((a)))))))) (bdF g4)) (by decide) ?_
    refine G_no (Eq.trans (@rfl V (V.bool (decide ((((cmR t ((a)) ((b))) = (cmR t ((a)) ((b)))) ∧ ((cmE t ((a)) ((b))) = (cmE t ((a)) ((b))))) ∧ ((cmR t ((a)) ((b))) = (cmR t ((b)) ((a)))))))) (bdF g4)) (by decide) ?_
    refine R_pickF (Eq.trans (@rfl V (V.bool (decide ((((cmR t ((a)) ((b))) = (cmR t ((a)) ((b)))) ∧ ((cmE t ((a)) ((b))) = (cmE t ((a)) ((b))))) ∧ ((cmR t ((a)) ((b))) = (cmR t ((b)) ((a)))))))) (bdF g4)) (@rfl V (V.bool false)) ?_
    exact ⟨(Eq.trans (@rfl V (V.bool false)) (dec_andF g4)), h3, trivial⟩
  intro T H ⟨t54, h3, _⟩
  refine R_mv t54 ?_
  refine Ops_seg 2 (fun T H => T 57 = (V.bool (decide (((((cmR t ((a)) ((b))) = (cmR t ((a)) ((b)))) ∧ ((cmE t ((a)) ((b))) = (cmE t ((a)) ((b))))) ∧ ((cmR t ((a)) ((b))) = (cmR t ((b)) ((a))))) ∧ ((cmE t ((a)) ((b))) = (cmE t ((b)) ((a))))))) ∧ H 3 = (⟨1, true, false, 24, 1, [[(V.sl (List.map cN (t.nd)))]]⟩ : Blk) ∧ True) ?_ ?_
  ·
   by_cases g5 : ((((cmR t ((a)) ((b))) = (cmR t ((a)) ((b)))) ∧ ((cmE t ((a)) ((b))) = (cmE t ((a)) ((b))))) ∧ ((cmR t ((a)) ((b))) = (cmR t ((b)) ((a))))) ∧ ((cmE t ((a)) ((b))) = (cmE t ((b)) ((a))))
   ·
    refine G_yes (Eq.trans (@rfl V (V.bool (decide (((((cmR t ((a)) ((b))) = (cmR t ((a)) ((b)))) ∧ ((cmE t ((a)) ((b))) = (cmE t ((a)) ((b))))) ∧ ((cmR t ((a)) ((b))) = (cmR t ((b)) ((a))))) ∧ ((cmE t ((a)) ((b))) = (cmE t ((b)) ((a)))))))) (bdT g5)) ?_
    refine R_call evnil (aw_learnerlaw26_awake_pure) (fzv_mapcanon _ _ (by simp [-List.map_take, -List.map_drop, -List.map_append, -List.map_reverse])) (by simp [-List.map_take, -List.map_drop, -List.map_append, -List.map_reverse]) (Or.inl (by simp [-List.map_take, -List.map_drop, -List.map_append, -List.map_reverse])) ?_
    refine R_pickT (Eq.trans (@rfl V (V.bool (decide (((((cmR t ((a)) ((b))) = (cmR t ((a)) ((b)))) ∧ ((cmE t ((a)) ((b))) = (cmE t ((a)) ((b))))) ∧ ((cmR t ((a)) ((b))) = (cmR t ((b)) ((a))))) ∧ ((cmE t ((a)) ((b))) = (cmE t ((b)) ((a)))))))) (bdT g5)) (@rfl V (V.bool true)) ?_
    exact ⟨(Eq.trans (@rfl V (V.bool true)) (dec_T g5)), h3, trivial⟩
   ·
    refine G_no (Eq.trans (@rfl V (V.bool (decide (((((cmR t ((a)) ((b))) = (cmR t ((a)) ((b)))) ∧ ((cmE t ((a)) ((b))) = (cmE t ((a)) ((b))))) ∧ ((cmR t ((a)) ((b))) = (cmR t ((b)) ((a))))) ∧ ((cmE t ((a)) ((b))) = (cmE t ((b)) ((a)))))))) (bdF g5)) (by decide) ?_
    refine R_pickF (Eq.trans (@rfl V (V.bool (decide (((((cmR t ((a)) ((b))) = (cmR t ((a)) ((b)))) ∧ ((cmE t ((a)) ((b))) = (cmE t ((a)) ((b))))) ∧ ((cmR t ((a)) ((b))) = (cmR t ((b)) ((a))))) ∧ ((cmE t ((a)) ((b))) = (cmE t ((b)) ((a)))))))) (bdF g5)) (@rfl V (V.bool false)) ?_
    exact ⟨(Eq.trans (@rfl V (V.bool false)) (dec_F g5)), h3, trivial⟩
  intro T H ⟨t57, h3, _⟩
  refine R_mv t57 ?_
  exact R_nil ⟨rfl, h3, trivial⟩
 intro T H ⟨t6, h3, _⟩
 refine W_ret ?_
 refine Ret_1 t6 (fz_bool ?_)
 · simp [cmR_comm t b a, cmE_comm t b a]
end Go.Proofs.YtmnjchcoigbngaaGreat


namespace Go.Proofs.YtmnjchcoigbngaaGreat
open Go Go.Proofs Go.Proofs.YtmnjchcoigbngaaGreat Go.ChangeShapes Go.WideShapes Go.ChangeAt Go.RowKit
structure UT (P : Program) : Prop where
  u22 : P.underlying 22 = some (.slice 68)
  u4 : P.underlying 4 = some (.bool)
  u38 : P.underlying 38 = some (.slice 3)
  u3 : P.underlying 3 = some (.int .i64)
  u31 : P.underlying 31 = some (.slice 38)
  u68 : ∃ f0 f1 f2 f3 f4 : Field, P.underlying 68 = some (.struct #[f0, f1, f2, f3, f4]) ∧ f0.type = 4 ∧ f1.type = 38 ∧ f2.type = 38 ∧ f3.type = 31 ∧ f4.type = 38
  u24 : ∃ f0 : Field, P.underlying 24 = some (.struct #[f0]) ∧ f0.type = 22
theorem sh4 {P : Program} (U : UT P) (n : Nat) (vs : List V) (h : Shp P (n + 1) 4 vs) : ∃ a : Bool, vs = (fun b => [V.bool b]) a := shp_bool U.u4 h
theorem sh3 {P : Program} (U : UT P) (n : Nat) (vs : List V) (h : Shp P (n + 1) 3 vs) : ∃ a : Int, vs = cI a := shp_int U.u3 h
theorem sh38 {P : Program} (U : UT P) (n : Nat) (vs : List V) (h : Shp P (n + 2) 38 vs) : ∃ a : List Int, vs = cL a := shp_slice (f := cI) U.u38 (fun vs h => sh3 U n vs h) h
theorem sh31 {P : Program} (U : UT P) (n : Nat) (vs : List V) (h : Shp P (n + 3) 31 vs) : ∃ a : List (List Int), vs = (fun l => [V.sl (List.map cL l)]) a := shp_slice (f := cL) U.u31 (fun vs h => sh38 U n vs h) h
theorem sh68 {P : Program} (U : UT P) (n : Nat) (vs : List V) (h : Shp P (n + 4) 68 vs) : ∃ a : Nd, vs = cN a := by
  obtain ⟨f0, f1, f2, f3, f4, hu, k0, k1, k2, k3, k4⟩ := U.u68
  have h0 := shp_step hu h
  obtain ⟨x0, u0, e0, h1⟩ := shpL_cons (c := (fun b => [V.bool b])) (fun vs h => sh4 U (n + 2) vs (by rw [k0] at h; exact h)) h0
  obtain ⟨x1, u1, e1, h2⟩ := shpL_cons (c := cL) (fun vs h => sh38 U (n + 1) vs (by rw [k1] at h; exact h)) h1
  obtain ⟨x2, u2, e2, h3⟩ := shpL_cons (c := cL) (fun vs h => sh38 U (n + 1) vs (by rw [k2] at h; exact h)) h2
  obtain ⟨x3, u3, e3, h4⟩ := shpL_cons (c := (fun l => [V.sl (List.map cL l)])) (fun vs h => sh31 U (n + 0) vs (by rw [k3] at h; exact h)) h3
  obtain ⟨x4, u4, e4, h5⟩ := shpL_cons (c := cL) (fun vs h => sh38 U (n + 1) vs (by rw [k4] at h; exact h)) h4
  have e5 := shpL_nil h5
  exact ⟨⟨x0, x1, x2, x3, x4⟩, by rw [e0, e1, e2, e3, e4, e5]; rfl⟩
theorem sh22 {P : Program} (U : UT P) (n : Nat) (vs : List V) (h : Shp P (n + 5) 22 vs) : ∃ a : List Nd, vs = (fun l => [V.sl (List.map cN l)]) a := shp_slice (f := cN) U.u22 (fun vs h => sh68 U n vs h) h
theorem sh24 {P : Program} (U : UT P) (n : Nat) (vs : List V) (h : Shp P (n + 6) 24 vs) : ∃ a : Dt, vs = cD a := by
  obtain ⟨f0, hu, k0⟩ := U.u24
  have h0 := shp_step hu h
  obtain ⟨x0, u0, e0, h1⟩ := shpL_cons (c := (fun l => [V.sl (List.map cN l)])) (fun vs h => sh22 U (n + 0) vs (by rw [k0] at h; exact h)) h0
  have e1 := shpL_nil h1
  exact ⟨⟨x0⟩, by rw [e0, e1]; rfl⟩
theorem ut : UT Tryz.prog := ⟨by kernel_rfl, by kernel_rfl, by kernel_rfl, by kernel_rfl, by kernel_rfl, ⟨_, _, _, _, _, Tryz.underlying68, rfl, rfl, rfl, rfl, rfl⟩, ⟨_, Tryz.underlying24, rfl⟩⟩
theorem args7 {P : Program} (U : UT P) {us : List V} (h : ShpA P 7 [24, 3, 3] us) : ∃ (d0 : Dt) (d1 : Int) (d2 : Int), us = [V.agg (cD d0), V.int .i64 d1, V.int .i64 d2] := by
  obtain ⟨a0, b0, e0, h0, h⟩ := shpA_cons h
  obtain ⟨d0, g0⟩ := sh24 U 1 a0 h0
  have q0 : packV P 24 a0 = V.agg (cD d0) := by obtain ⟨_, hu, _⟩ := U.u24; rw [g0]; exact pack_struct hu _
  obtain ⟨a1, b1, e1, h1, h⟩ := shpA_cons h
  obtain ⟨d1, g1⟩ := sh3 U 6 a1 h1
  have q1 : packV P 3 a1 = V.int .i64 d1 := by rw [g1]; exact pack_other (fun fs h => by rw [U.u3] at h; cases h) (fun m e h => by rw [U.u3] at h; cases h)
  obtain ⟨a2, b2, e2, h2, h⟩ := shpA_cons h
  obtain ⟨d2, g2⟩ := sh3 U 6 a2 h2
  have q2 : packV P 3 a2 = V.int .i64 d2 := by rw [g2]; exact pack_other (fun fs h => by rw [U.u3] at h; cases h) (fun m e h => by rw [U.u3] at h; cases h)
  have e3 := shpA_nil h
  exact ⟨d0, d1, d2, by rw [e0, q0, e1, q1, e2, q2, e3]⟩
theorem own7 : ownKnob Tryz.prog.godebug = none := by kernel_rfl
set_option maxRecDepth 100000 in
theorem lifted7 (os : Os) (started : os.Started) (H : Type) (enc : TypeId × Value → H) :
    ReturnsInHanded {} Tryz.checked os 7 .any (Rows.dtreeCommonSpec.pre6 enc Tryz.prog Tryz.f7 Rows.dtreeCommonRow.domain false) (Rows.dtreeCommonSpec.post enc Tryz.prog Tryz.f7 false true false false) := by
  refine returnsInHanded_of_change (C := Tryz.checked) own7 started (by kernel_rfl) Tryz.func7
    (ChangeSpec.witness6 (enc := enc) (C := Tryz.checked) false ⟨#[], #[.agg #[.slice none 0 0], .int .i64 0, .int .i64 0], []⟩ 8 (by kernel_rfl) (by kernel_rfl) (by kernel_rfl) (by kernel_rfl)) ?_
  intro W base args ds gs before hval0 hW hcnd _
  refine law_post (n := 7) (tb := 4) (by kernel_rfl) (by kernel_rfl) (by kernel_rfl) (fun t ht => ?_) rfl ?_ (fun us hu => ?_) hval0 hW
  · have h : t ∈ [24, 3, 3] := ht
    simp only [List.mem_cons, List.not_mem_nil, or_false] at h
    rcases h with rfl | rfl | rfl
    · exact ⟨by kernel_rfl, by kernel_rfl, of_decide_eq_true (by kernel_rfl)⟩
    · exact ⟨by kernel_rfl, by kernel_rfl, of_decide_eq_true (by kernel_rfl)⟩
    · exact ⟨by kernel_rfl, by kernel_rfl, of_decide_eq_true (by kernel_rfl)⟩
  · obtain ⟨p, q, hA, hV, rfl, hfz, hnd⟩ := hW
    obtain ⟨rfl, rfl⟩ := trodVars_none hV
    change DataW.TrodAll enc Tryz.prog W 0 (fun _ => true) true [24, 3, 3] args.toList ds p at hA
    obtain ⟨v0, vs0, y0, ds0, pa0, pb0, hv0, rfl, rfl, _, hA⟩ := trodAll_cons hA
    obtain ⟨v1, vs1, y1, ds1, pa1, pb1, hv1, rfl, rfl, _, hA⟩ := trodAll_cons hA
    obtain ⟨v2, vs2, y2, ds2, pa2, pb2, hv2, rfl, rfl, _, hA⟩ := trodAll_cons hA
    obtain ⟨_, rfl, rfl⟩ := trodAll_nil hA
    rfl
  · obtain ⟨d0, d1, d2, rfl⟩ := args7 ut hu
    exact law7_pure d0 d1 d2
theorem proved7 : Rows.DtreeCommonSaid :=
  OpenClaim.holds_of_wide 7 Tryz.f7 rfl rfl rfl rfl rfl rfl rfl ⟨rfl, rfl, rfl, rfl, rfl⟩ rfl rfl rfl rfl rfl (by kernel_rfl) Tryz.func7 (by kernel_rfl)
    (of_decide_eq_true (by kernel_rfl)) (by unfold Func.isWrapper; first | (rw [if_pos (by decide +kernel)]; kernel_rfl) | (rw [if_neg (by decide +kernel)]; exact ⟨rfl, rfl⟩))
    (fun os started H enc _ => lifted7 os started H enc)
end Go.Proofs.YtmnjchcoigbngaaGreat


