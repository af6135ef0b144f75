/- Contracts of the functions that the law DP reaches, and the law itself, for every input; no condition. -/
import Derived.KernelRfl
import Derived.Test.YtmnjchcoigbngaaGreatProg
import Derived.Test.YtmnjchcoigbngaaGreatRows
import Derived.Test.YtmnjchcoigbngaaGreatDP3
set_option linter.unusedSimpArgs false
set_option linter.unusedVariables false
namespace Go.Proofs.YtmnjchcoigbngaaGreat
open Go Go.Proofs
theorem sift_pure (t : Dt) (o : Ob) (w : List Int) (hb : Bd t) (ho : oval o = 0) (hw : w.length ≤ 1048576) : PureC Tryz.prog 20 [(V.agg [(V.sl (List.map cN (t.nd)))]), (V.agg [(iV (o.i)), (V.sl (List.map cT (o.tr)))]), (V.sl (List.map cI (w)))] (V.tup [(iV ((sftR t o w).1)), (V.sl (List.map cI ((sftR t o w).2.1))), (iV ((sftR t o w).2.2))]) := by
 refine pure_of_Wb true 6 Tryz.func20 s20_ok (by kernel_rfl) (by simp [s20]) (by simp) (by simp) fun hB => ?_
 simp only [bnd_map, bnd_int, bnd_bool, bnd_str, bnd_agg, bnd_pp, bnd_nil, bnd_cons, implies_true, and_true, true_and] at hB
 unfold s20
 dsimp only
 refine W_seq_regc (fun T H => T 2 = (V.sl (List.map cI (w))) ∧ T 3 = (V.mp 3 1 0 0) ∧ T 4 = (V.mp 4 1 0 0) ∧ H 3 = (⟨1, true, false, 24, 1, [[(V.sl (List.map cN (t.nd)))]]⟩ : Blk) ∧ H 4 = (⟨1, true, false, 37, 2, [[(iV (o.i)), (V.sl (List.map cT (o.tr)))]]⟩ : Blk) ∧ H 12 = (⟨0, false, false, 0, 0, []⟩ : Blk) ∧ True) ?_ ?_
 ·
  unfold r20_0
  refine R_box (i := 3) (n := 0) (m := 1) (cs := [(V.sl (List.map cN (t.nd)))]) rfl (congrArg Blk.ver rfl) (@rfl V (V.agg [(V.sl (List.map cN (t.nd)))])) rfl rfl ?_
  refine R_box (i := 4) (n := 0) (m := 2) (cs := [(iV (o.i)), (V.sl (List.map cT (o.tr)))]) rfl (congrArg Blk.ver rfl) (@rfl V (V.agg [(iV (o.i)), (V.sl (List.map cT (o.tr)))])) rfl rfl ?_
  refine R_mv (@rfl V (iV (0 : Int))) ?_
  refine R_mv (@rfl V V.nilsl) ?_
  refine R_mv (@rfl V (iV (0 : Int))) ?_
  exact R_nil ⟨rfl, rfl, rfl, rfl, rfl, rfl, trivial⟩
 intro T H ⟨t2, t3, t4, h3, h4, h12, _⟩
 refine W_seq_seq ?_
 refine W_seq_regc (fun T H => T 2 = (V.sl (List.map cI (w))) ∧ T 3 = (V.mp 3 1 0 0) ∧ T 4 = (V.mp 4 1 0 0) ∧ T 9 = (iV (dvE t)) ∧ H 3 = (⟨1, true, false, 24, 1, [[(V.sl (List.map cN (t.nd)))]]⟩ : Blk) ∧ H 4 = (⟨1, true, false, 37, 2, [[(iV (o.i)), (V.sl (List.map cT (o.tr)))]]⟩ : Blk) ∧ H 12 = (⟨0, false, false, 0, 0, []⟩ : Blk) ∧ True) ?_ ?_
 ·
  unfold r20_1
  refine R_load_mp (v := (V.agg [(V.sl (List.map cN (t.nd)))])) t3 h3 (by first | rfl | simp [ldB, ldV, Blk.own, V.one]) ?_
  refine R_call (evcons (@rfl V (V.agg [(V.sl (List.map cN (t.nd)))])) evnil) (dvalid_pure t hb) (fzv_mapcanon _ _ (by simp [-List.map_take, -List.map_drop, -List.map_append, -List.map_reverse])) (by simp [-List.map_take, -List.map_drop, -List.map_append, -List.map_reverse]) (Or.inl (by simp [-List.map_take, -List.map_drop, -List.map_append, -List.map_reverse])) ?_
  refine R_mv (@rfl V (iV (dvE t))) ?_
  exact R_nil ⟨t2, t3, t4, rfl, h3, h4, h12, trivial⟩
 intro T H ⟨t2, t3, t4, t9, h3, h4, h12, _⟩
 refine W_seq_seq ?_
 refine W_seq_regc (fun T H => T 2 = (V.sl (List.map cI (w))) ∧ T 3 = (V.mp 3 1 0 0) ∧ T 4 = (V.mp 4 1 0 0) ∧ T 9 = (iV (dvE t)) ∧ T 22 = (V.bool (decide ((dvE t) ≠ (0 : Int)))) ∧ H 3 = (⟨1, true, false, 24, 1, [[(V.sl (List.map cN (t.nd)))]]⟩ : Blk) ∧ H 4 = (⟨1, true, false, 37, 2, [[(iV (o.i)), (V.sl (List.map cT (o.tr)))]]⟩ : Blk) ∧ H 12 = (⟨0, false, false, 0, 0, []⟩ : Blk) ∧ True) ?_ ?_
 ·
  unfold r20_2
  refine R_mv t9 ?_
  refine R_neq (x := (dvE t)) (y := (0 : Int)) (@rfl V (iV (dvE t))) (@rfl V (iV (0 : Int))) ?_
  exact R_nil ⟨t2, t3, t4, t9, rfl, h3, h4, h12, trivial⟩
 intro T H ⟨t2, t3, t4, t9, t22, h3, h4, h12, _⟩
 refine W_seq_if (p := (dvE t) ≠ (0 : Int)) t22 (fun c1 => ?_) (fun c1 => ?_)
 ·
  refine W_seq_seq ?_
  refine W_seq_regc (fun T H => T 6 = (iV (0 : Int)) ∧ T 7 = V.nilsl ∧ T 8 = (iV (dvE t)) ∧ H 3 = (⟨1, true, false, 24, 1, [[(V.sl (List.map cN (t.nd)))]]⟩ : Blk) ∧ H 4 = (⟨1, true, false, 37, 2, [[(iV (o.i)), (V.sl (List.map cT (o.tr)))]]⟩ : Blk) ∧ H 12 = (⟨0, false, false, 0, 0, []⟩ : Blk) ∧ True) ?_ ?_
  ·
   unfold r20_3
   refine R_mv t9 ?_
   refine R_mv (@rfl V (iV (0 : Int))) ?_
   refine R_mv (@rfl V V.nilsl) ?_
   refine R_mv (@rfl V (iV (dvE t))) ?_
   exact R_nil ⟨rfl, rfl, rfl, h3, h4, h12, trivial⟩
  intro T H ⟨t6, t7, t8, h3, h4, h12, _⟩
  refine W_seq_ret ?_
  refine Ret_3 t6 t7 t8 (fz_int ?_) (fz_nil ?_) (fz_int ?_)
  · unfold sftR; rw [if_pos (by omega)]
  · unfold sftR; rw [if_pos (by omega)]
  · unfold sftR; rw [if_pos (by omega)]
 have hv : dvE t = 0 := by omega
 refine W_seq_skip ?_
 refine W_seq_seq ?_
 refine W_seq_regc (fun T H => T 2 = (V.sl (List.map cI (w))) ∧ T 3 = (V.mp 3 1 0 0) ∧ T 4 = (V.mp 4 1 0 0) ∧ T 10 = (iV (wchk w ((o.i)))) ∧ H 3 = (⟨1, true, false, 24, 1, [[(V.sl (List.map cN (t.nd)))]]⟩ : Blk) ∧ H 4 = (⟨1, true, false, 37, 2, [[(iV (o.i)), (V.sl (List.map cT (o.tr)))]]⟩ : Blk) ∧ H 12 = (⟨0, false, false, 0, 0, []⟩ : Blk) ∧ True) ?_ ?_
 ·
  unfold r20_4
  refine R_mv t2 ?_
  refine R_fld_mp (o' := 0) t4 h4 (by first | rfl | simp [okB, Blk.own]) rfl ?_
  refine R_load_mp (v := (iV (o.i))) (@rfl V (V.mp 4 1 0 0)) h4 (by first | rfl | simp [ldB, ldV, Blk.own, V.one]) ?_
  refine R_call (evcons (@rfl V (V.sl (List.map cI (w)))) (evcons (@rfl V (iV (o.i))) evnil)) (check_pure w ((o.i))) (fzv_mapcanon _ _ (by simp [-List.map_take, -List.map_drop, -List.map_append, -List.map_reverse])) (by simp [-List.map_take, -List.map_drop, -List.map_append, -List.map_reverse]) (Or.inl (by simp [-List.map_take, -List.map_drop, -List.map_append, -List.map_reverse])) ?_
  refine R_mv (@rfl V (iV (wchk w ((o.i))))) ?_
  exact R_nil ⟨t2, t3, t4, rfl, h3, h4, h12, trivial⟩
 intro T H ⟨t2, t3, t4, t10, h3, h4, h12, _⟩
 refine W_seq_seq ?_
 refine W_seq_regc (fun T H => T 2 = (V.sl (List.map cI (w))) ∧ T 3 = (V.mp 3 1 0 0) ∧ T 4 = (V.mp 4 1 0 0) ∧ T 10 = (iV (wchk w ((o.i)))) ∧ T 29 = (V.bool (decide ((wchk w ((o.i))) ≠ (0 : Int)))) ∧ H 3 = (⟨1, true, false, 24, 1, [[(V.sl (List.map cN (t.nd)))]]⟩ : Blk) ∧ H 4 = (⟨1, true, false, 37, 2, [[(iV (o.i)), (V.sl (List.map cT (o.tr)))]]⟩ : Blk) ∧ H 12 = (⟨0, false, false, 0, 0, []⟩ : Blk) ∧ True) ?_ ?_
 ·
  unfold r20_5
  refine R_mv t10 ?_
  refine R_neq (x := (wchk w ((o.i)))) (y := (0 : Int)) (@rfl V (iV (wchk w ((o.i))))) (@rfl V (iV (0 : Int))) ?_
  exact R_nil ⟨t2, t3, t4, t10, rfl, h3, h4, h12, trivial⟩
 intro T H ⟨t2, t3, t4, t10, t29, h3, h4, h12, _⟩
 refine W_seq_if (p := (wchk w ((o.i))) ≠ (0 : Int)) t29 (fun c2 => ?_) (fun c2 => ?_)
 ·
  refine W_seq_seq ?_
  refine W_seq_regc (fun T H => T 6 = (iV (0 : Int)) ∧ T 7 = V.nilsl ∧ T 8 = (iV (wchk w ((o.i)))) ∧ H 3 = (⟨1, true, false, 24, 1, [[(V.sl (List.map cN (t.nd)))]]⟩ : Blk) ∧ H 4 = (⟨1, true, false, 37, 2, [[(iV (o.i)), (V.sl (List.map cT (o.tr)))]]⟩ : Blk) ∧ H 12 = (⟨0, false, false, 0, 0, []⟩ : Blk) ∧ True) ?_ ?_
  ·
   unfold r20_6
   refine R_mv t10 ?_
   refine R_mv (@rfl V (iV (0 : Int))) ?_
   refine R_mv (@rfl V V.nilsl) ?_
   refine R_mv (@rfl V (iV (wchk w ((o.i))))) ?_
   exact R_nil ⟨rfl, rfl, rfl, h3, h4, h12, trivial⟩
  intro T H ⟨t6, t7, t8, h3, h4, h12, _⟩
  refine W_seq_ret ?_
  refine Ret_3 t6 t7 t8 (fz_int ?_) (fz_nil ?_) (fz_int ?_)
  · unfold sftR; rw [if_neg (by omega), if_pos (by omega)]
  · unfold sftR; rw [if_neg (by omega), if_pos (by omega)]
  · unfold sftR; rw [if_neg (by omega), if_pos (by omega)]
 refine W_seq_skip ?_
 refine W_seq_regc (fun T H => T 2 = (V.sl (List.map cI (w))) ∧ T 3 = (V.mp 3 1 0 0) ∧ T 4 = (V.mp 4 1 0 0) ∧ T 11 = (iV (0 : Int)) ∧ H 3 = (⟨1, true, false, 24, 1, [[(V.sl (List.map cN (t.nd)))]]⟩ : Blk) ∧ H 4 = (⟨1, true, false, 37, 2, [[(iV (o.i)), (V.sl (List.map cT (o.tr)))]]⟩ : Blk) ∧ H 12 = (⟨0, false, false, 0, 0, []⟩ : Blk) ∧ True) ?_ ?_
 ·
  unfold r20_7
  refine R_mv (@rfl V (iV (0 : Int))) ?_
  exact R_nil ⟨t2, t3, t4, rfl, h3, h4, h12, trivial⟩
 intro T H ⟨t2, t3, t4, t11, h3, h4, h12, _⟩
 refine W_seq_blockg fun Q3 n3 x3 y3 z3 => ?_
 refine W_loop (fun mm T H => ∃ (a : Int) (f : Nat) (v12 : Nat), mm = f ∧ T 2 = (V.sl (List.map cI (w))) ∧ T 3 = (V.mp 3 1 0 0) ∧ T 4 = (V.mp 4 1 0 0) ∧ T 11 = (iV (a)) ∧ H 3 = (⟨1, true, false, 24, 1, [[(V.sl (List.map cN (t.nd)))]]⟩ : Blk) ∧ H 4 = (⟨1, true, false, 37, 2, [[(iV (o.i)), (V.sl (List.map cT (o.tr)))]]⟩ : Blk) ∧ (H 12).ver = v12 ∧ (0 ≤ a) ∧ (Rk t f a.toNat) ∧ (sftN t o w t.nd.length 0 = sftN t o w f a.toNat)) ?_ ?_
 ·
  refine ⟨_, 0, t.nd.length, 0, rfl, t2, t3, t4, t11, h3, h4, (congrArg Blk.ver h12), ?_, ?_, ?_⟩
  · omega
  · exact rk0 hv
  · rfl
 intro mm T H ⟨a, f, v12, hmm, t2, t3, t4, t11, h3, h4, h12, ha, hr, hc⟩ Q4 p14 p24 p34
 unfold b20_0
 have hlt := hr.lt hv
 have hsf := hb.sf _ hlt
 have hbn := hb.n
 refine W_seq_seq ?_
 refine W_seq_regc (fun T H => T 2 = (V.sl (List.map cI (w))) ∧ T 3 = (V.mp 3 1 0 0) ∧ T 4 = (V.mp 4 1 0 0) ∧ T 11 = (iV (a)) ∧ T 37 = (V.bool ((!((nth (t.nd) (a).toNat)).lf))) ∧ H 3 = (⟨1, true, false, 24, 1, [[(V.sl (List.map cN (t.nd)))]]⟩ : Blk) ∧ H 4 = (⟨1, true, false, 37, 2, [[(iV (o.i)), (V.sl (List.map cT (o.tr)))]]⟩ : Blk) ∧ (H 12).ver = v12 ∧ True) ?_ ?_
 ·
  unfold r20_8
  refine R_fld_mp (o' := 0) t3 h3 (by first | rfl | simp [okB, Blk.own]) rfl ?_
  refine R_load_mp (v := (V.sl (List.map cN (t.nd)))) (@rfl V (V.mp 3 1 0 0)) h3 (by first | rfl | simp [ldB, ldV, Blk.own, V.one]) ?_
  refine R_mv t11 ?_
  refine R_idxI (i := (a)) (@rfl V (V.sl (List.map cN (t.nd)))) (@rfl V (iV (a))) (by omega) (by omega) rfl ?_
  refine R_fld_pp (cs' := [(V.bool (((nth (t.nd) (a).toNat)).lf)), (V.sl (List.map cI (((nth (t.nd) (a).toNat)).ac))), (V.sl (List.map cI (((nth (t.nd) (a).toNat)).sf))), (V.sl (List.map cL (((nth (t.nd) (a).toNat)).ou))), (V.sl (List.map cI (((nth (t.nd) (a).toNat)).kd)))]) (@rfl V (V.pp [(V.bool (((nth (t.nd) (a).toNat)).lf)), (V.sl (List.map cI (((nth (t.nd) (a).toNat)).ac))), (V.sl (List.map cI (((nth (t.nd) (a).toNat)).sf))), (V.sl (List.map cL (((nth (t.nd) (a).toNat)).ou))), (V.sl (List.map cI (((nth (t.nd) (a).toNat)).kd)))])) rfl ?_
  refine R_load_pp (v := (V.bool (((nth (t.nd) (a).toNat)).lf))) (@rfl V (V.pp [(V.bool (((nth (t.nd) (a).toNat)).lf)), (V.sl (List.map cI (((nth (t.nd) (a).toNat)).ac))), (V.sl (List.map cI (((nth (t.nd) (a).toNat)).sf))), (V.sl (List.map cL (((nth (t.nd) (a).toNat)).ou))), (V.sl (List.map cI (((nth (t.nd) (a).toNat)).kd)))])) (by first | rfl | simp [ldV]) ?_
  refine R_notb (@rfl V (V.bool (((nth (t.nd) (a).toNat)).lf))) ?_
  exact R_nil ⟨t2, t3, t4, t11, rfl, h3, h4, h12, trivial⟩
 intro T H ⟨t2, t3, t4, t11, t37, h3, h4, h12, _⟩
 refine W_seq_ifb t37 (fun c5 => ?_) (fun c5 => ?_)
 ·
  have d1 : (nth t.nd a.toNat).lf = false := by simpa using c5
  have hin := nd_in hv hlt d1
  have hou := hb.ou _ hlt
  refine W_seq_skip ?_
  refine W_block fun Q6 n6 x6 y6 z6 => ?_
  refine W_seq_regc (fun T H => T 2 = (V.sl (List.map cI (w))) ∧ T 3 = (V.mp 3 1 0 0) ∧ T 4 = (V.mp 4 1 0 0) ∧ T 11 = (iV (a)) ∧ T 12 = (V.mp 12 (v12 + 1) 0 0) ∧ H 3 = (⟨1, true, false, 24, 1, [[(V.sl (List.map cN (t.nd)))]]⟩ : Blk) ∧ H 4 = (⟨1, true, false, 37, 2, [[(iV (o.i)), (V.sl (List.map cT (o.tr)))]]⟩ : Blk) ∧ H 12 = (⟨v12 + 1, true, false, 68, 5, [[(V.bool (((nth (t.nd) (a).toNat)).lf)), (V.sl (List.map cI (((nth (t.nd) (a).toNat)).ac))), (V.sl (List.map cI (((nth (t.nd) (a).toNat)).sf))), (V.sl (List.map cL (((nth (t.nd) (a).toNat)).ou))), (V.sl (List.map cI (((nth (t.nd) (a).toNat)).kd)))]]⟩ : Blk) ∧ True) ?_ ?_
  ·
   unfold r20_9
   refine R_fld_mp (o' := 0) t3 h3 (by first | rfl | simp [okB, Blk.own]) rfl ?_
   refine R_load_mp (v := (V.sl (List.map cN (t.nd)))) (@rfl V (V.mp 3 1 0 0)) h3 (by first | rfl | simp [ldB, ldV, Blk.own, V.one]) ?_
   refine R_mv t11 ?_
   refine R_idxI (i := (a)) (@rfl V (V.sl (List.map cN (t.nd)))) (@rfl V (iV (a))) (by omega) (by omega) rfl ?_
   refine R_load_pp (v := (V.agg [(V.bool (((nth (t.nd) (a).toNat)).lf)), (V.sl (List.map cI (((nth (t.nd) (a).toNat)).ac))), (V.sl (List.map cI (((nth (t.nd) (a).toNat)).sf))), (V.sl (List.map cL (((nth (t.nd) (a).toNat)).ou))), (V.sl (List.map cI (((nth (t.nd) (a).toNat)).kd)))])) (@rfl V (V.pp [(V.bool (((nth (t.nd) (a).toNat)).lf)), (V.sl (List.map cI (((nth (t.nd) (a).toNat)).ac))), (V.sl (List.map cI (((nth (t.nd) (a).toNat)).sf))), (V.sl (List.map cL (((nth (t.nd) (a).toNat)).ou))), (V.sl (List.map cI (((nth (t.nd) (a).toNat)).kd)))])) (by first | rfl | simp [ldV]) ?_
   refine R_alloc (i := 12) (n := v12) (m := 5) rfl h12 rfl ?_
   refine R_store (vs := [(V.bool (((nth (t.nd) (a).toNat)).lf)), (V.sl (List.map cI (((nth (t.nd) (a).toNat)).ac))), (V.sl (List.map cI (((nth (t.nd) (a).toNat)).sf))), (V.sl (List.map cL (((nth (t.nd) (a).toNat)).ou))), (V.sl (List.map cI (((nth (t.nd) (a).toNat)).kd)))]) (B' := (⟨v12 + 1, true, false, 68, 5, [[(V.bool (((nth (t.nd) (a).toNat)).lf)), (V.sl (List.map cI (((nth (t.nd) (a).toNat)).ac))), (V.sl (List.map cI (((nth (t.nd) (a).toNat)).sf))), (V.sl (List.map cL (((nth (t.nd) (a).toNat)).ou))), (V.sl (List.map cI (((nth (t.nd) (a).toNat)).kd)))]]⟩ : Blk)) (@rfl V (V.mp 12 (v12 + 1) 0 0)) (@rfl V (V.agg [(V.bool (((nth (t.nd) (a).toNat)).lf)), (V.sl (List.map cI (((nth (t.nd) (a).toNat)).ac))), (V.sl (List.map cI (((nth (t.nd) (a).toNat)).sf))), (V.sl (List.map cL (((nth (t.nd) (a).toNat)).ou))), (V.sl (List.map cI (((nth (t.nd) (a).toNat)).kd)))])) rfl (@rfl Blk (⟨v12 + 1, true, false, 68, 5, [[(V.bool false), V.nilsl, V.nilsl, V.nilsl, V.nilsl]]⟩ : Blk)) (by first | rfl | simp [stB, okB, Blk.own, putAt, V.one]) ?_
   exact R_nil ⟨t2, t3, t4, t11, rfl, h3, h4, rfl, trivial⟩
  intro T H ⟨t2, t3, t4, t11, t12, h3, h4, h12, _⟩
  refine W_seq_regc (fun T H => T 2 = (V.sl (List.map cI (w))) ∧ T 3 = (V.mp 3 1 0 0) ∧ T 4 = (V.mp 4 1 0 0) ∧ T 11 = (iV (a)) ∧ T 12 = (V.mp 12 (v12 + 1) 0 0) ∧ T 13 = (V.sl (List.map cI (cat ([w, ((nth (t.nd) (a).toNat)).sf])))) ∧ H 3 = (⟨1, true, false, 24, 1, [[(V.sl (List.map cN (t.nd)))]]⟩ : Blk) ∧ H 4 = (⟨1, true, false, 37, 2, [[(iV (o.i)), (V.sl (List.map cT (o.tr)))]]⟩ : Blk) ∧ H 12 = (⟨v12 + 1, true, false, 68, 5, [[(V.bool (((nth (t.nd) (a).toNat)).lf)), (V.sl (List.map cI (((nth (t.nd) (a).toNat)).ac))), (V.sl (List.map cI (((nth (t.nd) (a).toNat)).sf))), (V.sl (List.map cL (((nth (t.nd) (a).toNat)).ou))), (V.sl (List.map cI (((nth (t.nd) (a).toNat)).kd)))]]⟩ : Blk) ∧ True) ?_ ?_
  ·
   unfold r20_10
   refine R_mv t2 ?_
   refine R_fld_mp (o' := 2) t12 h12 (by first | rfl | simp [okB, Blk.own]) rfl ?_
   refine R_load_mp (v := (V.sl (List.map cI (((nth (t.nd) (a).toNat)).sf)))) (@rfl V (V.mp 12 (v12 + 1) 0 2)) h12 (by first | rfl | simp [ldB, ldV, Blk.own, V.one]) ?_
   refine R_bslice (qs := [(0, (V.sl (List.map cI (w)))), (1, (V.sl (List.map cI (((nth (t.nd) (a).toNat)).sf))))]) (rows := [[(V.sl (List.map cI (w)))], [(V.sl (List.map cI (((nth (t.nd) (a).toNat)).sf)))]]) (mcons (congrArg (fun v => (0, v)) (@rfl V (V.sl (List.map cI (w))))) (mcons (congrArg (fun v => (1, v)) (@rfl V (V.sl (List.map cI (((nth (t.nd) (a).toNat)).sf))))) rfl)) rfl ?_
   refine R_call (evcons (@rfl V (V.sl [[(V.sl (List.map cI (w)))], [(V.sl (List.map cI (((nth (t.nd) (a).toNat)).sf)))]])) evnil) (pjoin_pure ([w, ((nth (t.nd) (a).toNat)).sf]) (by simp only [cat, List.append_nil, List.length_append]; omega)) (fzv_mapcanon _ _ (by simp [-List.map_take, -List.map_drop, -List.map_append, -List.map_reverse])) (by simp [-List.map_take, -List.map_drop, -List.map_append, -List.map_reverse]) (Or.inl (by simp [-List.map_take, -List.map_drop, -List.map_append, -List.map_reverse])) ?_
   refine R_mv (@rfl V (V.sl (List.map cI (cat ([w, ((nth (t.nd) (a).toNat)).sf]))))) ?_
   exact R_nil ⟨t2, t3, t4, t11, t12, rfl, h3, h4, h12, trivial⟩
  intro T H ⟨t2, t3, t4, t11, t12, t13, h3, h4, h12, _⟩
  refine W_seq_seq ?_
  refine W_seq_regc (fun T H => T 2 = (V.sl (List.map cI (w))) ∧ T 3 = (V.mp 3 1 0 0) ∧ T 4 = (V.mp 4 1 0 0) ∧ T 11 = (iV (a)) ∧ T 12 = (V.mp 12 (v12 + 1) 0 0) ∧ T 13 = (V.sl (List.map cI (cat ([w, ((nth (t.nd) (a).toNat)).sf])))) ∧ T 14 = (iV (wchk (cat ([w, ((nth (t.nd) (a).toNat)).sf])) ((o.i)))) ∧ H 3 = (⟨1, true, false, 24, 1, [[(V.sl (List.map cN (t.nd)))]]⟩ : Blk) ∧ H 4 = (⟨1, true, false, 37, 2, [[(iV (o.i)), (V.sl (List.map cT (o.tr)))]]⟩ : Blk) ∧ H 12 = (⟨v12 + 1, true, false, 68, 5, [[(V.bool (((nth (t.nd) (a).toNat)).lf)), (V.sl (List.map cI (((nth (t.nd) (a).toNat)).ac))), (V.sl (List.map cI (((nth (t.nd) (a).toNat)).sf))), (V.sl (List.map cL (((nth (t.nd) (a).toNat)).ou))), (V.sl (List.map cI (((nth (t.nd) (a).toNat)).kd)))]]⟩ : Blk) ∧ True) ?_ ?_
  ·
   unfold r20_11
   refine R_mv t13 ?_
   refine R_fld_mp (o' := 0) t4 h4 (by first | rfl | simp [okB, Blk.own]) rfl ?_
   refine R_load_mp (v := (iV (o.i))) (@rfl V (V.mp 4 1 0 0)) h4 (by first | rfl | simp [ldB, ldV, Blk.own, V.one]) ?_
   refine R_call (evcons (@rfl V (V.sl (List.map cI (cat ([w, ((nth (t.nd) (a).toNat)).sf]))))) (evcons (@rfl V (iV (o.i))) evnil)) (check_pure (cat ([w, ((nth (t.nd) (a).toNat)).sf])) ((o.i))) (fzv_mapcanon _ _ (by simp [-List.map_take, -List.map_drop, -List.map_append, -List.map_reverse])) (by simp [-List.map_take, -List.map_drop, -List.map_append, -List.map_reverse]) (Or.inl (by simp [-List.map_take, -List.map_drop, -List.map_append, -List.map_reverse])) ?_
   refine R_mv (@rfl V (iV (wchk (cat ([w, ((nth (t.nd) (a).toNat)).sf])) ((o.i))))) ?_
   exact R_nil ⟨t2, t3, t4, t11, t12, t13, rfl, h3, h4, h12, trivial⟩
  intro T H ⟨t2, t3, t4, t11, t12, t13, t14, h3, h4, h12, _⟩
  refine W_seq_seq ?_
  refine W_seq_regc (fun T H => T 2 = (V.sl (List.map cI (w))) ∧ T 3 = (V.mp 3 1 0 0) ∧ T 4 = (V.mp 4 1 0 0) ∧ T 11 = (iV (a)) ∧ T 12 = (V.mp 12 (v12 + 1) 0 0) ∧ T 13 = (V.sl (List.map cI (cat ([w, ((nth (t.nd) (a).toNat)).sf])))) ∧ T 14 = (iV (wchk (cat ([w, ((nth (t.nd) (a).toNat)).sf])) ((o.i)))) ∧ T 53 = (V.bool (decide ((wchk (cat ([w, ((nth (t.nd) (a).toNat)).sf])) ((o.i))) ≠ (0 : Int)))) ∧ H 3 = (⟨1, true, false, 24, 1, [[(V.sl (List.map cN (t.nd)))]]⟩ : Blk) ∧ H 4 = (⟨1, true, false, 37, 2, [[(iV (o.i)), (V.sl (List.map cT (o.tr)))]]⟩ : Blk) ∧ H 12 = (⟨v12 + 1, true, false, 68, 5, [[(V.bool (((nth (t.nd) (a).toNat)).lf)), (V.sl (List.map cI (((nth (t.nd) (a).toNat)).ac))), (V.sl (List.map cI (((nth (t.nd) (a).toNat)).sf))), (V.sl (List.map cL (((nth (t.nd) (a).toNat)).ou))), (V.sl (List.map cI (((nth (t.nd) (a).toNat)).kd)))]]⟩ : Blk) ∧ True) ?_ ?_
  ·
   unfold r20_12
   refine R_mv t14 ?_
   refine R_neq (x := (wchk (cat ([w, ((nth (t.nd) (a).toNat)).sf])) ((o.i)))) (y := (0 : Int)) (@rfl V (iV (wchk (cat ([w, ((nth (t.nd) (a).toNat)).sf])) ((o.i))))) (@rfl V (iV (0 : Int))) ?_
   exact R_nil ⟨t2, t3, t4, t11, t12, t13, t14, rfl, h3, h4, h12, trivial⟩
  intro T H ⟨t2, t3, t4, t11, t12, t13, t14, t53, h3, h4, h12, _⟩
  refine W_seq_if (p := (wchk (cat ([w, ((nth (t.nd) (a).toNat)).sf])) ((o.i))) ≠ (0 : Int)) t53 (fun c7 => ?_) (fun c7 => ?_)
  ·
   have d2 : wchk (cat [w, (nth t.nd a.toNat).sf]) o.i ≠ 0 := c7
   refine W_seq_seq ?_
   refine W_seq_regc (fun T H => T 6 = (iV (0 : Int)) ∧ T 7 = V.nilsl ∧ T 8 = (iV (wchk (cat ([w, ((nth (t.nd) (a).toNat)).sf])) ((o.i)))) ∧ H 3 = (⟨1, true, false, 24, 1, [[(V.sl (List.map cN (t.nd)))]]⟩ : Blk) ∧ H 4 = (⟨1, true, false, 37, 2, [[(iV (o.i)), (V.sl (List.map cT (o.tr)))]]⟩ : Blk) ∧ H 12 = (⟨v12 + 1, true, false, 68, 5, [[(V.bool (((nth (t.nd) (a).toNat)).lf)), (V.sl (List.map cI (((nth (t.nd) (a).toNat)).ac))), (V.sl (List.map cI (((nth (t.nd) (a).toNat)).sf))), (V.sl (List.map cL (((nth (t.nd) (a).toNat)).ou))), (V.sl (List.map cI (((nth (t.nd) (a).toNat)).kd)))]]⟩ : Blk) ∧ True) ?_ ?_
   ·
    unfold r20_13
    refine R_mv t14 ?_
    refine R_mv (@rfl V (iV (0 : Int))) ?_
    refine R_mv (@rfl V V.nilsl) ?_
    refine R_mv (@rfl V (iV (wchk (cat ([w, ((nth (t.nd) (a).toNat)).sf])) ((o.i))))) ?_
    exact R_nil ⟨rfl, rfl, rfl, h3, h4, h12, trivial⟩
   intro T H ⟨t6, t7, t8, h3, h4, h12, _⟩
   refine W_seq_ret ?_
   refine y6 _ _ ?_
   refine p24 _ _ ?_
   refine y3 _ _ ?_
   refine Ret_3 t6 t7 t8 (fz_int ?_) (fz_nil ?_) (fz_int ?_)
   · have e0 : sftR t o w = sftN t o w f a.toNat := by unfold sftR; rw [if_neg (by omega), if_neg (by omega), hc]
     rw [e0, sft_err hr.pos d1 d2]
   · have e0 : sftR t o w = sftN t o w f a.toNat := by unfold sftR; rw [if_neg (by omega), if_neg (by omega), hc]
     rw [e0, sft_err hr.pos d1 d2]
   · have e0 : sftR t o w = sftN t o w f a.toNat := by unfold sftR; rw [if_neg (by omega), if_neg (by omega), hc]
     rw [e0, sft_err hr.pos d1 d2]
  have d2 : ¬wchk (cat [w, (nth t.nd a.toNat).sf]) o.i ≠ 0 := c7
  refine W_seq_skip ?_
  refine W_seq_regc (fun T H => T 2 = (V.sl (List.map cI (w))) ∧ T 3 = (V.mp 3 1 0 0) ∧ T 4 = (V.mp 4 1 0 0) ∧ T 11 = (iV (a)) ∧ T 12 = (V.mp 12 (v12 + 1) 0 0) ∧ T 13 = (V.sl (List.map cI (cat ([w, ((nth (t.nd) (a).toNat)).sf])))) ∧ T 15 = (V.sl (List.map cI ((ans o (cat ([w, ((nth (t.nd) (a).toNat)).sf]))).getD []))) ∧ T 16 = (V.bool ((ans o (cat ([w, ((nth (t.nd) (a).toNat)).sf]))).isSome)) ∧ H 3 = (⟨1, true, false, 24, 1, [[(V.sl (List.map cN (t.nd)))]]⟩ : Blk) ∧ H 4 = (⟨1, true, false, 37, 2, [[(iV (o.i)), (V.sl (List.map cT (o.tr)))]]⟩ : Blk) ∧ H 12 = (⟨v12 + 1, true, false, 68, 5, [[(V.bool (((nth (t.nd) (a).toNat)).lf)), (V.sl (List.map cI (((nth (t.nd) (a).toNat)).ac))), (V.sl (List.map cI (((nth (t.nd) (a).toNat)).sf))), (V.sl (List.map cL (((nth (t.nd) (a).toNat)).ou))), (V.sl (List.map cI (((nth (t.nd) (a).toNat)).kd)))]]⟩ : Blk) ∧ True) ?_ ?_
  ·
   unfold r20_14
   refine R_load_mp (v := (V.agg [(iV (o.i)), (V.sl (List.map cT (o.tr)))])) t4 h4 (by first | rfl | simp [ldB, ldV, Blk.own, V.one]) ?_
   refine R_mv t13 ?_
   refine R_call (evcons (@rfl V (V.agg [(iV (o.i)), (V.sl (List.map cT (o.tr)))])) (evcons (@rfl V (V.sl (List.map cI (cat ([w, ((nth (t.nd) (a).toNat)).sf]))))) evnil)) (answer_pure o (cat ([w, ((nth (t.nd) (a).toNat)).sf])) ho) (fzv_mapcanon _ _ (by simp [-List.map_take, -List.map_drop, -List.map_append, -List.map_reverse])) (by simp [-List.map_take, -List.map_drop, -List.map_append, -List.map_reverse]) (Or.inl (by simp [-List.map_take, -List.map_drop, -List.map_append, -List.map_reverse])) ?_
   refine R_mv (@rfl V (V.tup [(V.sl (List.map cI ((ans o (cat ([w, ((nth (t.nd) (a).toNat)).sf]))).getD []))), (V.bool ((ans o (cat ([w, ((nth (t.nd) (a).toNat)).sf]))).isSome))])) ?_
   refine R_ext (v := (V.sl (List.map cI ((ans o (cat ([w, ((nth (t.nd) (a).toNat)).sf]))).getD [])))) (@rfl V (V.tup [(V.sl (List.map cI ((ans o (cat ([w, ((nth (t.nd) (a).toNat)).sf]))).getD []))), (V.bool ((ans o (cat ([w, ((nth (t.nd) (a).toNat)).sf]))).isSome))])) rfl ?_
   refine R_ext (v := (V.bool ((ans o (cat ([w, ((nth (t.nd) (a).toNat)).sf]))).isSome))) (@rfl V (V.tup [(V.sl (List.map cI ((ans o (cat ([w, ((nth (t.nd) (a).toNat)).sf]))).getD []))), (V.bool ((ans o (cat ([w, ((nth (t.nd) (a).toNat)).sf]))).isSome))])) rfl ?_
   refine R_mv (@rfl V (V.sl (List.map cI ((ans o (cat ([w, ((nth (t.nd) (a).toNat)).sf]))).getD [])))) ?_
   refine R_mv (@rfl V (V.bool ((ans o (cat ([w, ((nth (t.nd) (a).toNat)).sf]))).isSome))) ?_
   exact R_nil ⟨t2, t3, t4, t11, t12, t13, rfl, rfl, h3, h4, h12, trivial⟩
  intro T H ⟨t2, t3, t4, t11, t12, t13, t15, t16, h3, h4, h12, _⟩
  refine W_seq_seq ?_
  refine W_seq_regc (fun T H => T 2 = (V.sl (List.map cI (w))) ∧ T 3 = (V.mp 3 1 0 0) ∧ T 4 = (V.mp 4 1 0 0) ∧ T 11 = (iV (a)) ∧ T 12 = (V.mp 12 (v12 + 1) 0 0) ∧ T 13 = (V.sl (List.map cI (cat ([w, ((nth (t.nd) (a).toNat)).sf])))) ∧ T 15 = (V.sl (List.map cI ((ans o (cat ([w, ((nth (t.nd) (a).toNat)).sf]))).getD []))) ∧ T 62 = (V.bool ((!(ans o (cat ([w, ((nth (t.nd) (a).toNat)).sf]))).isSome))) ∧ H 3 = (⟨1, true, false, 24, 1, [[(V.sl (List.map cN (t.nd)))]]⟩ : Blk) ∧ H 4 = (⟨1, true, false, 37, 2, [[(iV (o.i)), (V.sl (List.map cT (o.tr)))]]⟩ : Blk) ∧ H 12 = (⟨v12 + 1, true, false, 68, 5, [[(V.bool (((nth (t.nd) (a).toNat)).lf)), (V.sl (List.map cI (((nth (t.nd) (a).toNat)).ac))), (V.sl (List.map cI (((nth (t.nd) (a).toNat)).sf))), (V.sl (List.map cL (((nth (t.nd) (a).toNat)).ou))), (V.sl (List.map cI (((nth (t.nd) (a).toNat)).kd)))]]⟩ : Blk) ∧ True) ?_ ?_
  ·
   unfold r20_15
   refine R_mv t16 ?_
   refine R_notb (@rfl V (V.bool ((ans o (cat ([w, ((nth (t.nd) (a).toNat)).sf]))).isSome))) ?_
   exact R_nil ⟨t2, t3, t4, t11, t12, t13, t15, rfl, h3, h4, h12, trivial⟩
  intro T H ⟨t2, t3, t4, t11, t12, t13, t15, t62, h3, h4, h12, _⟩
  refine W_seq_ifb t62 (fun c8 => ?_) (fun c8 => ?_)
  ·
   have d3 : (ans o (cat [w, (nth t.nd a.toNat).sf])).isSome = false := by simpa using c8
   refine W_seq_seq ?_
   refine W_seq_regc (fun T H => T 6 = (iV (0 : Int)) ∧ T 7 = (V.sl (List.map cI (cat ([w, ((nth (t.nd) (a).toNat)).sf])))) ∧ T 8 = (iV (0 : Int)) ∧ H 3 = (⟨1, true, false, 24, 1, [[(V.sl (List.map cN (t.nd)))]]⟩ : Blk) ∧ H 4 = (⟨1, true, false, 37, 2, [[(iV (o.i)), (V.sl (List.map cT (o.tr)))]]⟩ : Blk) ∧ H 12 = (⟨v12 + 1, true, false, 68, 5, [[(V.bool (((nth (t.nd) (a).toNat)).lf)), (V.sl (List.map cI (((nth (t.nd) (a).toNat)).ac))), (V.sl (List.map cI (((nth (t.nd) (a).toNat)).sf))), (V.sl (List.map cL (((nth (t.nd) (a).toNat)).ou))), (V.sl (List.map cI (((nth (t.nd) (a).toNat)).kd)))]]⟩ : Blk) ∧ True) ?_ ?_
   ·
    unfold r20_16
    refine R_mv t13 ?_
    refine R_mv (@rfl V (iV (0 : Int))) ?_
    refine R_mv (@rfl V (V.sl (List.map cI (cat ([w, ((nth (t.nd) (a).toNat)).sf]))))) ?_
    refine R_mv (@rfl V (iV (0 : Int))) ?_
    exact R_nil ⟨rfl, rfl, rfl, h3, h4, h12, trivial⟩
   intro T H ⟨t6, t7, t8, h3, h4, h12, _⟩
   refine W_seq_ret ?_
   refine y6 _ _ ?_
   refine p24 _ _ ?_
   refine y3 _ _ ?_
   refine Ret_3 t6 t7 t8 (fz_int ?_) (fz_sl ?_ (fun _ => by simp)) (fz_int ?_)
   · have e0 : sftR t o w = sftN t o w f a.toNat := by unfold sftR; rw [if_neg (by omega), if_neg (by omega), hc]
     rw [e0, sft_ask hr.pos d1 d2 d3]
   · have e0 : sftR t o w = sftN t o w f a.toNat := by unfold sftR; rw [if_neg (by omega), if_neg (by omega), hc]
     rw [e0, sft_ask hr.pos d1 d2 d3]
   · have e0 : sftR t o w = sftN t o w f a.toNat := by unfold sftR; rw [if_neg (by omega), if_neg (by omega), hc]
     rw [e0, sft_ask hr.pos d1 d2 d3]
  have d3 : (ans o (cat [w, (nth t.nd a.toNat).sf])).isSome = true := by simpa using c8
  have d4 := ans_len (oval_ok ho) d3
  have d5 : (cat [w, (nth t.nd a.toNat).sf]).length = w.length + (nth t.nd a.toNat).sf.length := by simp [cat]
  refine W_seq_skip ?_
  refine W_seq_regc (fun T H => T 2 = (V.sl (List.map cI (w))) ∧ T 3 = (V.mp 3 1 0 0) ∧ T 4 = (V.mp 4 1 0 0) ∧ T 11 = (iV (a)) ∧ T 12 = (V.mp 12 (v12 + 1) 0 0) ∧ T 17 = (iV ((lxN (((nth (t.nd) (a).toNat))).ou (List.drop (w.length) ((ans o (cat ([w, ((nth (t.nd) (a).toNat)).sf]))).getD [])) : Nat) : Int)) ∧ T 18 = (V.bool (decide (lxH (((nth (t.nd) (a).toNat))).ou (List.drop (w.length) ((ans o (cat ([w, ((nth (t.nd) (a).toNat)).sf]))).getD []))))) ∧ H 3 = (⟨1, true, false, 24, 1, [[(V.sl (List.map cN (t.nd)))]]⟩ : Blk) ∧ H 4 = (⟨1, true, false, 37, 2, [[(iV (o.i)), (V.sl (List.map cT (o.tr)))]]⟩ : Blk) ∧ H 12 = (⟨v12 + 1, true, false, 68, 5, [[(V.bool (((nth (t.nd) (a).toNat)).lf)), (V.sl (List.map cI (((nth (t.nd) (a).toNat)).ac))), (V.sl (List.map cI (((nth (t.nd) (a).toNat)).sf))), (V.sl (List.map cL (((nth (t.nd) (a).toNat)).ou))), (V.sl (List.map cI (((nth (t.nd) (a).toNat)).kd)))]]⟩ : Blk) ∧ True) ?_ ?_
  ·
   unfold r20_17
   refine R_load_mp (v := (V.agg [(V.bool (((nth (t.nd) (a).toNat)).lf)), (V.sl (List.map cI (((nth (t.nd) (a).toNat)).ac))), (V.sl (List.map cI (((nth (t.nd) (a).toNat)).sf))), (V.sl (List.map cL (((nth (t.nd) (a).toNat)).ou))), (V.sl (List.map cI (((nth (t.nd) (a).toNat)).kd)))])) t12 h12 (by first | rfl | simp [ldB, ldV, Blk.own, V.one]) ?_
   refine R_mv t15 ?_
   refine R_mv t2 ?_
   refine R_len (@rfl V (V.sl (List.map cI (w)))) ?_
   refine R_slice_lo (n := w.length) (@rfl V (V.sl (List.map cI ((ans o (cat ([w, ((nth (t.nd) (a).toNat)).sf]))).getD [])))) (@rfl V (iV ((w.length : Nat) : Int))) (by omega) (fun _ => rfl) ?_
   refine R_call (evcons (@rfl V (V.agg [(V.bool (((nth (t.nd) (a).toNat)).lf)), (V.sl (List.map cI (((nth (t.nd) (a).toNat)).ac))), (V.sl (List.map cI (((nth (t.nd) (a).toNat)).sf))), (V.sl (List.map cL (((nth (t.nd) (a).toNat)).ou))), (V.sl (List.map cI (((nth (t.nd) (a).toNat)).kd)))])) (evcons (@rfl V (V.sl (List.map cI (List.drop (w.length) ((ans o (cat ([w, ((nth (t.nd) (a).toNat)).sf]))).getD []))))) evnil)) (dchild_pure (((nth (t.nd) (a).toNat))) (List.drop (w.length) ((ans o (cat ([w, ((nth (t.nd) (a).toNat)).sf]))).getD [])) hin.srt hou) (fzv_mapcanon _ _ (by simp [-List.map_take, -List.map_drop, -List.map_append, -List.map_reverse])) (by simp [-List.map_take, -List.map_drop, -List.map_append, -List.map_reverse]) (Or.inl (by simp [-List.map_take, -List.map_drop, -List.map_append, -List.map_reverse])) ?_
   refine R_mv (@rfl V (V.tup [(iV ((lxN (((nth (t.nd) (a).toNat))).ou (List.drop (w.length) ((ans o (cat ([w, ((nth (t.nd) (a).toNat)).sf]))).getD [])) : Nat) : Int)), (V.bool (decide (lxH (((nth (t.nd) (a).toNat))).ou (List.drop (w.length) ((ans o (cat ([w, ((nth (t.nd) (a).toNat)).sf]))).getD [])))))])) ?_
   refine R_ext (v := (iV ((lxN (((nth (t.nd) (a).toNat))).ou (List.drop (w.length) ((ans o (cat ([w, ((nth (t.nd) (a).toNat)).sf]))).getD [])) : Nat) : Int))) (@rfl V (V.tup [(iV ((lxN (((nth (t.nd) (a).toNat))).ou (List.drop (w.length) ((ans o (cat ([w, ((nth (t.nd) (a).toNat)).sf]))).getD [])) : Nat) : Int)), (V.bool (decide (lxH (((nth (t.nd) (a).toNat))).ou (List.drop (w.length) ((ans o (cat ([w, ((nth (t.nd) (a).toNat)).sf]))).getD [])))))])) rfl ?_
   refine R_ext (v := (V.bool (decide (lxH (((nth (t.nd) (a).toNat))).ou (List.drop (w.length) ((ans o (cat ([w, ((nth (t.nd) (a).toNat)).sf]))).getD [])))))) (@rfl V (V.tup [(iV ((lxN (((nth (t.nd) (a).toNat))).ou (List.drop (w.length) ((ans o (cat ([w, ((nth (t.nd) (a).toNat)).sf]))).getD [])) : Nat) : Int)), (V.bool (decide (lxH (((nth (t.nd) (a).toNat))).ou (List.drop (w.length) ((ans o (cat ([w, ((nth (t.nd) (a).toNat)).sf]))).getD [])))))])) rfl ?_
   refine R_mv (@rfl V (iV ((lxN (((nth (t.nd) (a).toNat))).ou (List.drop (w.length) ((ans o (cat ([w, ((nth (t.nd) (a).toNat)).sf]))).getD [])) : Nat) : Int))) ?_
   refine R_mv (@rfl V (V.bool (decide (lxH (((nth (t.nd) (a).toNat))).ou (List.drop (w.length) ((ans o (cat ([w, ((nth (t.nd) (a).toNat)).sf]))).getD [])))))) ?_
   exact R_nil ⟨t2, t3, t4, t11, t12, rfl, rfl, h3, h4, h12, trivial⟩
  intro T H ⟨t2, t3, t4, t11, t12, t17, t18, h3, h4, h12, _⟩
  refine W_seq_seq ?_
  refine W_seq_regc (fun T H => T 2 = (V.sl (List.map cI (w))) ∧ T 3 = (V.mp 3 1 0 0) ∧ T 4 = (V.mp 4 1 0 0) ∧ T 11 = (iV (a)) ∧ T 12 = (V.mp 12 (v12 + 1) 0 0) ∧ T 17 = (iV ((lxN (((nth (t.nd) (a).toNat))).ou (List.drop (w.length) ((ans o (cat ([w, ((nth (t.nd) (a).toNat)).sf]))).getD [])) : Nat) : Int)) ∧ T 74 = (V.bool (decide (¬(lxH (((nth (t.nd) (a).toNat))).ou (List.drop (w.length) ((ans o (cat ([w, ((nth (t.nd) (a).toNat)).sf]))).getD [])))))) ∧ H 3 = (⟨1, true, false, 24, 1, [[(V.sl (List.map cN (t.nd)))]]⟩ : Blk) ∧ H 4 = (⟨1, true, false, 37, 2, [[(iV (o.i)), (V.sl (List.map cT (o.tr)))]]⟩ : Blk) ∧ H 12 = (⟨v12 + 1, true, false, 68, 5, [[(V.bool (((nth (t.nd) (a).toNat)).lf)), (V.sl (List.map cI (((nth (t.nd) (a).toNat)).ac))), (V.sl (List.map cI (((nth (t.nd) (a).toNat)).sf))), (V.sl (List.map cL (((nth (t.nd) (a).toNat)).ou))), (V.sl (List.map cI (((nth (t.nd) (a).toNat)).kd)))]]⟩ : Blk) ∧ True) ?_ ?_
  ·
   unfold r20_18
   refine R_mv t18 ?_
   refine R_not (p := lxH (((nth (t.nd) (a).toNat))).ou (List.drop (w.length) ((ans o (cat ([w, ((nth (t.nd) (a).toNat)).sf]))).getD []))) (@rfl V (V.bool (decide (lxH (((nth (t.nd) (a).toNat))).ou (List.drop (w.length) ((ans o (cat ([w, ((nth (t.nd) (a).toNat)).sf]))).getD [])))))) ?_
   exact R_nil ⟨t2, t3, t4, t11, t12, t17, rfl, h3, h4, h12, trivial⟩
  intro T H ⟨t2, t3, t4, t11, t12, t17, t74, h3, h4, h12, _⟩
  refine W_seq_if (p := ¬(lxH (((nth (t.nd) (a).toNat))).ou (List.drop (w.length) ((ans o (cat ([w, ((nth (t.nd) (a).toNat)).sf]))).getD [])))) t74 (fun c9 => ?_) (fun c9 => ?_)
  ·
   have d6 : ¬lxH (nth t.nd a.toNat).ou (((ans o (cat [w, (nth t.nd a.toNat).sf])).getD []).drop w.length) := c9
   refine W_seq_exit ?_
   refine z6 _ _ _ (by decide) ?_
   refine p34 _ _ _ ?_
   refine x3 _ _ ?_
   refine .done ?_
   refine W_seq_regc (fun T H => T 6 = (iV (a)) ∧ T 7 = V.nilsl ∧ T 8 = (iV (0 : Int)) ∧ H 3 = (⟨1, true, false, 24, 1, [[(V.sl (List.map cN (t.nd)))]]⟩ : Blk) ∧ H 4 = (⟨1, true, false, 37, 2, [[(iV (o.i)), (V.sl (List.map cT (o.tr)))]]⟩ : Blk) ∧ H 12 = (⟨v12 + 1, true, false, 68, 5, [[(V.bool (((nth (t.nd) (a).toNat)).lf)), (V.sl (List.map cI (((nth (t.nd) (a).toNat)).ac))), (V.sl (List.map cI (((nth (t.nd) (a).toNat)).sf))), (V.sl (List.map cL (((nth (t.nd) (a).toNat)).ou))), (V.sl (List.map cI (((nth (t.nd) (a).toNat)).kd)))]]⟩ : Blk) ∧ True) ?_ ?_
   ·
    unfold r20_20
    refine R_mv t11 ?_
    refine R_mv (@rfl V (iV (a))) ?_
    refine R_mv (@rfl V V.nilsl) ?_
    refine R_mv (@rfl V (iV (0 : Int))) ?_
    exact R_nil ⟨rfl, rfl, rfl, h3, h4, h12, trivial⟩
   intro T H ⟨t6, t7, t8, h3, h4, h12, _⟩
   refine W_ret ?_
   refine Ret_3 t6 t7 t8 (fz_int ?_) (fz_nil ?_) (fz_int ?_)
   · have e0 : sftR t o w = sftN t o w f a.toNat := by unfold sftR; rw [if_neg (by omega), if_neg (by omega), hc]
     rw [e0, sft_no hr.pos d1 d2 d3 d6]; exact (Int.toNat_of_nonneg ha).symm
   · have e0 : sftR t o w = sftN t o w f a.toNat := by unfold sftR; rw [if_neg (by omega), if_neg (by omega), hc]
     rw [e0, sft_no hr.pos d1 d2 d3 d6]
   · have e0 : sftR t o w = sftN t o w f a.toNat := by unfold sftR; rw [if_neg (by omega), if_neg (by omega), hc]
     rw [e0, sft_no hr.pos d1 d2 d3 d6]
  have d6 : lxH (nth t.nd a.toNat).ou (((ans o (cat [w, (nth t.nd a.toNat).sf])).getD []).drop w.length) := Decidable.not_not.1 c9
  have d7 : (nth (nth t.nd a.toNat).kd (lxN (nth t.nd a.toNat).ou (((ans o (cat [w, (nth t.nd a.toNat).sf])).getD []).drop w.length))) ∈ (nth t.nd a.toNat).kd := nth_mem (by have := d6.1; have := hin.len; omega)
  have d8 := hin.kr _ d7
  have d9 : lxN (nth t.nd a.toNat).ou (((ans o (cat [w, (nth t.nd a.toNat).sf])).getD []).drop w.length) < (nth t.nd a.toNat).kd.length := by have := d6.1; have := hin.len; omega
  refine W_seq_skip ?_
  refine W_regc (fun T H => T 2 = (V.sl (List.map cI (w))) ∧ T 3 = (V.mp 3 1 0 0) ∧ T 4 = (V.mp 4 1 0 0) ∧ T 11 = (iV ((nth (((nth (t.nd) (a).toNat)).kd) (lxN (((nth (t.nd) (a).toNat))).ou (List.drop (w.length) ((ans o (cat ([w, ((nth (t.nd) (a).toNat)).sf]))).getD [])))))) ∧ H 3 = (⟨1, true, false, 24, 1, [[(V.sl (List.map cN (t.nd)))]]⟩ : Blk) ∧ H 4 = (⟨1, true, false, 37, 2, [[(iV (o.i)), (V.sl (List.map cT (o.tr)))]]⟩ : Blk) ∧ H 12 = (⟨v12 + 1, true, false, 68, 5, [[(V.bool (((nth (t.nd) (a).toNat)).lf)), (V.sl (List.map cI (((nth (t.nd) (a).toNat)).ac))), (V.sl (List.map cI (((nth (t.nd) (a).toNat)).sf))), (V.sl (List.map cL (((nth (t.nd) (a).toNat)).ou))), (V.sl (List.map cI (((nth (t.nd) (a).toNat)).kd)))]]⟩ : Blk) ∧ True) ?_ ?_
  ·
   unfold r20_19
   refine R_fld_mp (o' := 4) t12 h12 (by first | rfl | simp [okB, Blk.own]) rfl ?_
   refine R_load_mp (v := (V.sl (List.map cI (((nth (t.nd) (a).toNat)).kd)))) (@rfl V (V.mp 12 (v12 + 1) 0 4)) h12 (by first | rfl | simp [ldB, ldV, Blk.own, V.one]) ?_
   refine R_mv t17 ?_
   refine R_idx (i := (lxN (((nth (t.nd) (a).toNat))).ou (List.drop (w.length) ((ans o (cat ([w, ((nth (t.nd) (a).toNat)).sf]))).getD [])))) (@rfl V (V.sl (List.map cI (((nth (t.nd) (a).toNat)).kd)))) (@rfl V (iV ((lxN (((nth (t.nd) (a).toNat))).ou (List.drop (w.length) ((ans o (cat ([w, ((nth (t.nd) (a).toNat)).sf]))).getD [])) : Nat) : Int))) (by omega) rfl ?_
   refine R_load_pp (v := (iV ((nth (((nth (t.nd) (a).toNat)).kd) (lxN (((nth (t.nd) (a).toNat))).ou (List.drop (w.length) ((ans o (cat ([w, ((nth (t.nd) (a).toNat)).sf]))).getD []))))))) (@rfl V (V.pp [(iV ((nth (((nth (t.nd) (a).toNat)).kd) (lxN (((nth (t.nd) (a).toNat))).ou (List.drop (w.length) ((ans o (cat ([w, ((nth (t.nd) (a).toNat)).sf]))).getD []))))))])) (by first | rfl | simp [ldV]) ?_
   refine R_mv (@rfl V (iV ((nth (((nth (t.nd) (a).toNat)).kd) (lxN (((nth (t.nd) (a).toNat))).ou (List.drop (w.length) ((ans o (cat ([w, ((nth (t.nd) (a).toNat)).sf]))).getD []))))))) ?_
   exact R_nil ⟨t2, t3, t4, rfl, h3, h4, h12, trivial⟩
  intro T H ⟨t2, t3, t4, t11, h3, h4, h12, _⟩
  refine n6 _ _ ?_
  refine p14 _ _ _ ?_ ⟨(nth (nth t.nd a.toNat).kd (lxN (nth t.nd a.toNat).ou (((ans o (cat [w, (nth t.nd a.toNat).sf])).getD []).drop w.length))), (f - 1), (v12 + 1), rfl, t2, t3, t4, (Eq.trans t11 (by first | rfl | simp)), h3, h4, (congrArg Blk.ver h12), ?_, ?_, ?_⟩
  · have := hr.pos; omega
  · exact d8.1
  · exact hr.step d7 d8.1
  · rw [hc, sft_go hr.pos d1 d2 d3 d6]
 have d1 : (nth t.nd a.toNat).lf = true := by simpa using c5
 refine W_seq_exit ?_
 refine p34 _ _ _ ?_
 refine x3 _ _ ?_
 refine .done ?_
 refine W_seq_regc (fun T H => T 6 = (iV (a)) ∧ T 7 = V.nilsl ∧ T 8 = (iV (0 : Int)) ∧ H 3 = (⟨1, true, false, 24, 1, [[(V.sl (List.map cN (t.nd)))]]⟩ : Blk) ∧ H 4 = (⟨1, true, false, 37, 2, [[(iV (o.i)), (V.sl (List.map cT (o.tr)))]]⟩ : Blk) ∧ (H 12).ver = v12 ∧ True) ?_ ?_
 ·
  unfold r20_20
  refine R_mv t11 ?_
  refine R_mv (@rfl V (iV (a))) ?_
  refine R_mv (@rfl V V.nilsl) ?_
  refine R_mv (@rfl V (iV (0 : Int))) ?_
  exact R_nil ⟨rfl, rfl, rfl, h3, h4, h12, trivial⟩
 intro T H ⟨t6, t7, t8, h3, h4, h12, _⟩
 refine W_ret ?_
 refine Ret_3 t6 t7 t8 (fz_int ?_) (fz_nil ?_) (fz_int ?_)
 · have e0 : sftR t o w = sftN t o w f a.toNat := by unfold sftR; rw [if_neg (by omega), if_neg (by omega), hc]
   rw [e0, sft_leaf hr.pos d1]; exact (Int.toNat_of_nonneg ha).symm
 · have e0 : sftR t o w = sftN t o w f a.toNat := by unfold sftR; rw [if_neg (by omega), if_neg (by omega), hc]
   rw [e0, sft_leaf hr.pos d1]
 · have e0 : sftR t o w = sftN t o w f a.toNat := by unfold sftR; rw [if_neg (by omega), if_neg (by omega), hc]
   rw [e0, sft_leaf hr.pos d1]
end Go.Proofs.YtmnjchcoigbngaaGreat


namespace Go.Proofs.YtmnjchcoigbngaaGreat
open Go Go.Proofs
theorem rsame1_pure (a b : List Int) : PureC Tryz.prog 22 [(V.sl (List.map cI (a))), (V.sl (List.map cI (b)))] (V.bool (decide (a = b))) := by
 refine pure_of_Wb true 6 Tryz.func22 s22_ok (by kernel_rfl) (by simp [s22]) (by simp) (by simp) fun hB => ?_
 simp only [bnd_map, bnd_int, bnd_bool, bnd_str, bnd_agg, bnd_pp, bnd_nil, bnd_cons, implies_true, and_true, true_and] at hB
 unfold s22
 dsimp only
 refine W_seq_regc (fun T H => T 0 = (V.sl (List.map cI (a))) ∧ T 1 = (V.sl (List.map cI (b))) ∧ True) ?_ ?_
 ·
  unfold r22_0
  refine R_mv (@rfl V (V.bool false)) ?_
  exact R_nil ⟨rfl, rfl, trivial⟩
 intro T H ⟨t0, t1, _⟩
 refine W_seq_regc (fun T H => T 4 = (V.bool (decide ((((a.length : Nat) : Int) = ((b.length : Nat) : Int)) ∧ (((cmn a b : Nat) : Int) = ((a.length : Nat) : Int))))) ∧ True) ?_ ?_
 ·
  unfold r22_1
  refine R_mv t0 ?_
  refine R_len (@rfl V (V.sl (List.map cI (a)))) ?_
  refine R_mv t1 ?_
  refine R_len (@rfl V (V.sl (List.map cI (b)))) ?_
  refine R_eql (x := ((a.length : Nat) : Int)) (y := ((b.length : Nat) : Int)) (@rfl V (iV ((a.length : Nat) : Int))) (@rfl V (iV ((b.length : Nat) : Int))) ?_
  refine R_mv (@rfl V (V.bool (decide (((a.length : Nat) : Int) = ((b.length : Nat) : Int))))) ?_
  refine Ops_seg 7 (fun T H => T 17 = (V.bool (decide ((((a.length : Nat) : Int) = ((b.length : Nat) : Int)) ∧ (((cmn a b : Nat) : Int) = ((a.length : Nat) : Int))))) ∧ True) ?_ ?_
  ·
   by_cases g1 : ((a.length : Nat) : Int) = ((b.length : Nat) : Int)
   ·
    refine G_yes (Eq.trans (@rfl V (V.bool (decide (((a.length : Nat) : Int) = ((b.length : Nat) : Int))))) (bdT g1)) ?_
    refine R_mv t0 ?_
    refine G_yes (Eq.trans (@rfl V (V.bool (decide (((a.length : Nat) : Int) = ((b.length : Nat) : Int))))) (bdT g1)) ?_
    refine R_mv t1 ?_
    refine G_yes (Eq.trans (@rfl V (V.bool (decide (((a.length : Nat) : Int) = ((b.length : Nat) : Int))))) (bdT g1)) ?_
    have q2 := cmn_l a b
    have q3 := cmn_r a b
    refine R_call (evcons (@rfl V (V.sl (List.map cI (a)))) (evcons (@rfl V (V.sl (List.map cI (b)))) evnil)) (rcommon_pure a b) (fzv_mapcanon _ _ (by simp [-List.map_take, -List.map_drop, -List.map_append, -List.map_reverse])) (by simp [-List.map_take, -List.map_drop, -List.map_append, -List.map_reverse]) (Or.inl (by simp [-List.map_take, -List.map_drop, -List.map_append, -List.map_reverse])) ?_
    refine G_yes (Eq.trans (@rfl V (V.bool (decide (((a.length : Nat) : Int) = ((b.length : Nat) : Int))))) (bdT g1)) ?_
    refine R_mv t0 ?_
    refine G_yes (Eq.trans (@rfl V (V.bool (decide (((a.length : Nat) : Int) = ((b.length : Nat) : Int))))) (bdT g1)) ?_
    refine R_len (@rfl V (V.sl (List.map cI (a)))) ?_
    refine G_yes (Eq.trans (@rfl V (V.bool (decide (((a.length : Nat) : Int) = ((b.length : Nat) : Int))))) (bdT g1)) ?_
    refine R_eql (x := ((cmn a b : Nat) : Int)) (y := ((a.length : Nat) : Int)) (@rfl V (iV ((cmn a b : Nat) : Int))) (@rfl V (iV ((a.length : Nat) : Int))) ?_
    refine R_pickT (Eq.trans (@rfl V (V.bool (decide (((a.length : Nat) : Int) = ((b.length : Nat) : Int))))) (bdT g1)) (@rfl V (V.bool (decide (((cmn a b : Nat) : Int) = ((a.length : Nat) : Int))))) ?_
    exact ⟨(Eq.trans (@rfl V (V.bool (decide (((cmn a b : Nat) : Int) = ((a.length : Nat) : Int))))) (dec_andT g1)), trivial⟩
   ·
    refine G_no (Eq.trans (@rfl V (V.bool (decide (((a.length : Nat) : Int) = ((b.length : Nat) : Int))))) (bdF g1)) (by decide) ?_
    refine G_no (Eq.trans (@rfl V (V.bool (decide (((a.length : Nat) : Int) = ((b.length : Nat) : Int))))) (bdF g1)) (by decide) ?_
    refine G_no (Eq.trans (@rfl V (V.bool (decide (((a.length : Nat) : Int) = ((b.length : Nat) : Int))))) (bdF g1)) (by decide) ?_
    refine G_no (Eq.trans (@rfl V (V.bool (decide (((a.length : Nat) : Int) = ((b.length : Nat) : Int))))) (bdF g1)) (by decide) ?_
    refine G_no (Eq.trans (@rfl V (V.bool (decide (((a.length : Nat) : Int) = ((b.length : Nat) : Int))))) (bdF g1)) (by decide) ?_
    refine G_no (Eq.trans (@rfl V (V.bool (decide (((a.length : Nat) : Int) = ((b.length : Nat) : Int))))) (bdF g1)) (by decide) ?_
    refine R_pickF (Eq.trans (@rfl V (V.bool (decide (((a.length : Nat) : Int) = ((b.length : Nat) : Int))))) (bdF g1)) (@rfl V (V.bool false)) ?_
    exact ⟨(Eq.trans (@rfl V (V.bool false)) (dec_andF g1)), trivial⟩
  intro T H ⟨t17, _⟩
  refine R_mv t17 ?_
  exact R_nil ⟨rfl, trivial⟩
 intro T H ⟨t4, _⟩
 refine W_ret ?_
 refine Ret_1 t4 (fz_bool ?_)
 · exact same_dec a b
end Go.Proofs.YtmnjchcoigbngaaGreat


namespace Go.Proofs.YtmnjchcoigbngaaGreat
open Go Go.Proofs
theorem revcI7_E (l : List Int) (v : Nat) (z : Bool) (Hi : Heap) (hq : Hi 7 = (⟨v, true, z, 3, 1, (List.map cI (l))⟩ : Blk)) (hl : l.length ≤ 1073741824) : CallOK Tryz.prog 68 [(V.ms 7 v 0 (l.length))] Hi (V.tup []) (upd Hi 7 (⟨v, true, z, 3, 1, (List.map cI (l.reverse))⟩ : Blk)) := by
 refine CallOK_of_Wf (k0 := 600) Tryz.func68 s68_ok (by kernel_rfl) (by simp [s68]) fun hB => ?_
 simp only [bnd_map, bnd_int, bnd_bool, bnd_str, bnd_agg, bnd_pp, bnd_nil, bnd_cons, implies_true, and_true, true_and] at hB
 unfold s68
 dsimp only
 refine W_seq_regc (fun T H => T 0 = (V.ms 7 v 0 (l.length)) ∧ T 2 = (iV (0 : Int)) ∧ T 3 = (iV (((l.length : Nat) : Int) - (1 : Int))) ∧ (∀ j, j ∉ [7] → H j = Hi j) ∧ H 7 = (⟨v, true, z, 3, 1, (List.map cI (l))⟩ : Blk) ∧ True) ?_ ?_
 ·
  unfold r68_0
  refine R_mv (@rfl V (V.ms 7 v 0 (l.length))) ?_
  refine R_len_ms (@rfl V (V.ms 7 v 0 (l.length))) hq (by first | rfl | simp) ?_
  refine R_sub (x := ((l.length : Nat) : Int)) (y := (1 : Int)) (@rfl V (iV ((l.length : Nat) : Int))) (@rfl V (iV (1 : Int))) (by first | omega | (simp only [List.length_set]; omega)) (by first | omega | (simp only [List.length_set]; omega)) ?_
  refine R_mv (@rfl V (iV (0 : Int))) ?_
  refine R_mv (@rfl V (iV (((l.length : Nat) : Int) - (1 : Int)))) ?_
  exact R_nil ⟨rfl, rfl, rfl, (fun _ _ => rfl), hq, trivial⟩
 intro T H ⟨t0, t2, t3, hF, h7, _⟩
 refine W_block fun Q1 n1 x1 y1 z1 => ?_
 refine W_loop (fun mm T H => ∃ (k : Nat), mm = l.length - k ∧ T 0 = (V.ms 7 v 0 (l.length)) ∧ T 2 = (iV ((k : Nat) : Int)) ∧ T 3 = (iV (((l.length : Nat) : Int) - 1 - k)) ∧ (∀ j, j ∉ [7] → H j = Hi j) ∧ H 7 = (⟨v, true, z, 3, 1, (List.map cI (rvL l k))⟩ : Blk) ∧ (2 * k ≤ l.length + 1)) ?_ ?_
 ·
  refine ⟨_, 0, rfl, t0, (Eq.trans t2 (by first | rfl | (exact congrArg (V.int .i64) (by omega)) | simp)), (Eq.trans t3 (by first | rfl | (exact congrArg (V.int .i64) (by omega)) | simp)), hF, (Eq.trans h7 (by first | rfl | (rw [rv_zero]; done) | (rw [show (((l.length : Nat) : Int) - 1 - (k : Int)).toNat = l.length - 1 - k by omega, rv_step (by omega) (by omega)]; done) | (rw [rv_end (by omega) (by omega)]; done))), ?_⟩
  · omega
 intro mm T H ⟨k, hmm, t0, t2, t3, hF, h7, hk⟩ Q2 p12 p22 p32
 unfold b68_0
 have q1 := rv_len l k
 refine W_seq_seq ?_
 refine W_seq_regc (fun T H => T 0 = (V.ms 7 v 0 (l.length)) ∧ T 2 = (iV ((k : Nat) : Int)) ∧ T 3 = (iV (((l.length : Nat) : Int) - 1 - k)) ∧ T 9 = (V.bool (decide (((k : Nat) : Int) < (((l.length : Nat) : Int) - 1 - k)))) ∧ (∀ j, j ∉ [7] → H j = Hi j) ∧ H 7 = (⟨v, true, z, 3, 1, (List.map cI (rvL l k))⟩ : Blk) ∧ True) ?_ ?_
 ·
  unfold r68_1
  refine R_mv t2 ?_
  refine R_mv t3 ?_
  refine R_lss (x := ((k : Nat) : Int)) (y := (((l.length : Nat) : Int) - 1 - k)) (@rfl V (iV ((k : Nat) : Int))) (@rfl V (iV (((l.length : Nat) : Int) - 1 - k))) ?_
  exact R_nil ⟨t0, t2, t3, rfl, hF, h7, trivial⟩
 intro T H ⟨t0, t2, t3, t9, hF, h7, _⟩
 refine W_seq_if (p := ((k : Nat) : Int) < (((l.length : Nat) : Int) - 1 - k)) t9 (fun c3 => ?_) (fun c3 => ?_)
 ·
  refine W_seq_skip ?_
  refine W_seq_blockg fun Q4 n4 x4 y4 z4 => ?_
  refine W_regc (fun T H => T 0 = (V.ms 7 v 0 (l.length)) ∧ T 2 = (iV ((k : Nat) : Int)) ∧ T 3 = (iV (((l.length : Nat) : Int) - 1 - k)) ∧ (∀ j, j ∉ [7] → H j = Hi j) ∧ H 7 = (⟨v, true, z, 3, 1, (List.map cI (((rvL l k).set k (((nth (rvL l k) (((((l.length : Nat) : Int) - 1 - k)).toNat))))).set (((((l.length : Nat) : Int) - 1 - k)).toNat) (((nth (rvL l k) (k))))))⟩ : Blk) ∧ True) ?_ ?_
  ·
   unfold r68_3
   refine R_mv t0 ?_
   refine R_mv t2 ?_
   refine R_mv t0 ?_
   refine R_mv t3 ?_
   refine R_mv t0 ?_
   refine R_mv t3 ?_
   refine R_idxI_ms0 (i := (((l.length : Nat) : Int) - 1 - k)) (@rfl V (V.ms 7 v 0 (l.length))) (@rfl V (iV (((l.length : Nat) : Int) - 1 - k))) h7 (okB_map (by first | omega | (simp only [List.length_set]; omega))) rfl (by first | omega | (simp only [List.length_set]; omega)) (by first | omega | (simp only [List.length_set]; omega)) ?_
   refine R_load_mp (v := (iV ((nth (rvL l k) (((((l.length : Nat) : Int) - 1 - k)).toNat))))) (@rfl V (V.mp 7 v (((((l.length : Nat) : Int) - 1 - k)).toNat) 0)) h7 (ldB_map (by first | omega | (simp only [List.length_set]; omega)) (by first | rfl | simp [ldV, V.one])) ?_
   refine R_mv t0 ?_
   refine R_mv t2 ?_
   refine R_idx_ms0 (i := k) (@rfl V (V.ms 7 v 0 (l.length))) (@rfl V (iV ((k : Nat) : Int))) h7 (okB_map (by first | omega | (simp only [List.length_set]; omega))) rfl (by first | omega | (simp only [List.length_set]; omega)) ?_
   refine R_load_mp (v := (iV ((nth (rvL l k) (k))))) (@rfl V (V.mp 7 v k 0)) h7 (ldB_map (by first | omega | (simp only [List.length_set]; omega)) (by first | rfl | simp [ldV, V.one])) ?_
   refine R_idx_ms0 (i := k) (@rfl V (V.ms 7 v 0 (l.length))) (@rfl V (iV ((k : Nat) : Int))) h7 (okB_map (by first | omega | (simp only [List.length_set]; omega))) rfl (by first | omega | (simp only [List.length_set]; omega)) ?_
   refine R_store (vs := [(iV ((nth (rvL l k) (((((l.length : Nat) : Int) - 1 - k)).toNat))))]) (B' := (⟨v, true, z, 3, 1, (List.map cI ((rvL l k).set k (((nth (rvL l k) (((((l.length : Nat) : Int) - 1 - k)).toNat))))))⟩ : Blk)) (@rfl V (V.mp 7 v k 0)) (@rfl V (iV ((nth (rvL l k) (((((l.length : Nat) : Int) - 1 - k)).toNat))))) rfl h7 (stB_map (x := (((nth (rvL l k) (((((l.length : Nat) : Int) - 1 - k)).toNat))))) (i := k) (by first | omega | (simp only [List.length_set]; omega)) rfl rfl rfl rfl) ?_
   refine R_idxI_ms0 (i := (((l.length : Nat) : Int) - 1 - k)) (@rfl V (V.ms 7 v 0 (l.length))) (@rfl V (iV (((l.length : Nat) : Int) - 1 - k))) (@rfl Blk (⟨v, true, z, 3, 1, (List.map cI ((rvL l k).set k (((nth (rvL l k) (((((l.length : Nat) : Int) - 1 - k)).toNat))))))⟩ : Blk)) (okB_map (by first | omega | (simp only [List.length_set]; omega))) rfl (by first | omega | (simp only [List.length_set]; omega)) (by first | omega | (simp only [List.length_set]; omega)) ?_
   refine R_store (vs := [(iV ((nth (rvL l k) (k))))]) (B' := (⟨v, true, z, 3, 1, (List.map cI (((rvL l k).set k (((nth (rvL l k) (((((l.length : Nat) : Int) - 1 - k)).toNat))))).set (((((l.length : Nat) : Int) - 1 - k)).toNat) (((nth (rvL l k) (k))))))⟩ : Blk)) (@rfl V (V.mp 7 v (((((l.length : Nat) : Int) - 1 - k)).toNat) 0)) (@rfl V (iV ((nth (rvL l k) (k))))) rfl (@rfl Blk (⟨v, true, z, 3, 1, (List.map cI ((rvL l k).set k (((nth (rvL l k) (((((l.length : Nat) : Int) - 1 - k)).toNat))))))⟩ : Blk)) (stB_map (x := (((nth (rvL l k) (k))))) (i := (((((l.length : Nat) : Int) - 1 - k)).toNat)) (by first | omega | (simp only [List.length_set]; omega)) rfl rfl rfl rfl) ?_
   exact R_nil ⟨t0, t2, t3, (upd_out (upd_out hF (by decide)) (by decide)), rfl, trivial⟩
  intro T H ⟨t0, t2, t3, hF, h7, _⟩
  refine n4 _ _ ?_
  refine .done ?_
  refine W_regc (fun T H => T 0 = (V.ms 7 v 0 (l.length)) ∧ T 2 = (iV ((k + 1 : Nat) : Int)) ∧ T 3 = (iV ((((l.length : Nat) : Int) - 1 - k) - (1 : Int))) ∧ (∀ j, j ∉ [7] → H j = Hi j) ∧ H 7 = (⟨v, true, z, 3, 1, (List.map cI (((rvL l k).set k (((nth (rvL l k) (((((l.length : Nat) : Int) - 1 - k)).toNat))))).set (((((l.length : Nat) : Int) - 1 - k)).toNat) (((nth (rvL l k) (k))))))⟩ : Blk) ∧ True) ?_ ?_
  ·
   unfold r68_2
   refine R_mv t2 ?_
   refine R_addN (m := k) (n := 1) (@rfl V (iV ((k : Nat) : Int))) (@rfl V (iV ((1 : Nat) : Int))) (by first | omega | (simp only [List.length_set]; omega)) ?_
   refine R_mv t3 ?_
   refine R_sub (x := (((l.length : Nat) : Int) - 1 - k)) (y := (1 : Int)) (@rfl V (iV (((l.length : Nat) : Int) - 1 - k))) (@rfl V (iV (1 : Int))) (by first | omega | (simp only [List.length_set]; omega)) (by first | omega | (simp only [List.length_set]; omega)) ?_
   refine R_mv (@rfl V (iV ((k + 1 : Nat) : Int))) ?_
   refine R_mv (@rfl V (iV ((((l.length : Nat) : Int) - 1 - k) - (1 : Int)))) ?_
   exact R_nil ⟨t0, rfl, rfl, hF, h7, trivial⟩
  intro T H ⟨t0, t2, t3, hF, h7, _⟩
  refine p12 _ _ _ ?_ ⟨(k + 1), rfl, t0, (Eq.trans t2 (by first | rfl | (exact congrArg (V.int .i64) (by omega)) | simp)), (Eq.trans t3 (by first | rfl | (exact congrArg (V.int .i64) (by omega)) | simp)), hF, (Eq.trans h7 (by first | rfl | (rw [rv_zero]; done) | (rw [show (((l.length : Nat) : Int) - 1 - (k : Int)).toNat = l.length - 1 - k by omega, rv_step (by omega) (by omega)]; done) | (rw [rv_end (by omega) (by omega)]; done))), ?_⟩
  · omega
  · omega
 refine W_seq_exit ?_
 refine p32 _ _ _ ?_
 refine x1 _ _ ?_
 skip
 have fh := FinX.fin (FinX.put (B := (⟨v, true, z, 3, 1, (List.map cI (l.reverse))⟩ : Blk)) (FinX.start hF) h7 (FinB.eq (by first | rfl | (rw [rv_zero]; done) | (rw [show (((l.length : Nat) : Int) - 1 - (k : Int)).toNat = l.length - 1 - k by omega, rv_step (by omega) (by omega)]; done) | (rw [rv_end (by omega) (by omega)]; done))))
 exact RetF_0 fh
end Go.Proofs.YtmnjchcoigbngaaGreat


namespace Go.Proofs.YtmnjchcoigbngaaGreat
open Go Go.Proofs
theorem idxn_pure (p : Nd → Bool) (w : List Nd) (g : Nat) (caps : List V) (hca : canonL caps = true) (hpu : pureL caps = true) (hq : ∀ k, k < w.length → PureC Tryz.prog g (nV (nth w k) :: caps) (.bool (p (nth w k)))) : PureC Tryz.prog 98 [(V.sl (List.map cN (w))), (V.fn g [] caps)] (iV (fi (fun j => p (nth w j)) 0 w.length)) := by
 refine pure_of_Wb true 6 Tryz.func98 s98_ok (by kernel_rfl) (by simp [s98]) (by simp [hpu]) (by simp) fun hB => ?_
 simp only [bnd_map, bnd_int, bnd_bool, bnd_str, bnd_agg, bnd_pp, bnd_nil, bnd_cons, implies_true, and_true, true_and] at hB
 unfold s98
 dsimp only
 refine W_seq_regc (fun T H => T 0 = (V.sl (List.map cN (w))) ∧ T 1 = (V.fn g [] caps) ∧ True) ?_ ?_
 ·
  unfold r98_0
  refine R_mv (@rfl V (iV (0 : Int))) ?_
  exact R_nil ⟨rfl, rfl, trivial⟩
 intro T H ⟨t0, t1, _⟩
 refine W_seq_seq ?_
 refine W_seq_regc (fun T H => T 0 = (V.sl (List.map cN (w))) ∧ T 1 = (V.fn g [] caps) ∧ T 7 = (iV ((w.length : Nat) : Int)) ∧ T 8 = (iV (0 : Int)) ∧ True) ?_ ?_
 ·
  unfold r98_1
  refine R_mv t0 ?_
  refine R_len (@rfl V (V.sl (List.map cN (w)))) ?_
  refine R_mv (@rfl V (iV (0 : Int))) ?_
  exact R_nil ⟨t0, t1, rfl, rfl, trivial⟩
 intro T H ⟨t0, t1, t7, t8, _⟩
 refine W_seq_blockg fun Q1 n1 x1 y1 z1 => ?_
 refine W_loop (fun mm T H => ∃ (k : Nat), mm = w.length - k ∧ T 0 = (V.sl (List.map cN (w))) ∧ T 1 = (V.fn g [] caps) ∧ T 7 = (iV ((w.length : Nat) : Int)) ∧ T 8 = (iV ((k : Nat) : Int)) ∧ (k ≤ w.length) ∧ (fi (fun j => p (nth w j)) 0 w.length = fi (fun j => p (nth w j)) k (w.length - k))) ?_ ?_
 ·
  refine ⟨_, 0, rfl, t0, t1, t7, (Eq.trans t8 (by first | rfl | simp)), ?_, ?_⟩
  · omega
  · rfl
 intro mm T H ⟨k, hmm, t0, t1, t7, t8, hk, hc⟩ Q2 p12 p22 p32
 unfold b98_0
 refine W_seq_regc (fun T H => T 0 = (V.sl (List.map cN (w))) ∧ T 1 = (V.fn g [] caps) ∧ T 7 = (iV ((w.length : Nat) : Int)) ∧ T 8 = (iV ((k : Nat) : Int)) ∧ T 9 = (V.bool (decide (((k : Nat) : Int) < ((w.length : Nat) : Int)))) ∧ True) ?_ ?_
 ·
  unfold r98_2
  refine R_lss (x := ((k : Nat) : Int)) (y := ((w.length : Nat) : Int)) t8 t7 ?_
  exact R_nil ⟨t0, t1, t7, t8, rfl, trivial⟩
 intro T H ⟨t0, t1, t7, t8, t9, _⟩
 refine W_seq_if (p := ((k : Nat) : Int) < ((w.length : Nat) : Int)) t9 (fun c3 => ?_) (fun c3 => ?_)
 ·
  refine W_seq_skip ?_
  refine W_seq_blockg fun Q4 n4 x4 y4 z4 => ?_
  refine W_seq_regc (fun T H => T 0 = (V.sl (List.map cN (w))) ∧ T 1 = (V.fn g [] caps) ∧ T 5 = (iV ((k : Nat) : Int)) ∧ T 7 = (iV ((w.length : Nat) : Int)) ∧ T 8 = (iV ((k : Nat) : Int)) ∧ True) ?_ ?_
  ·
   unfold r98_3
   refine R_mv t8 ?_
   refine R_mv (@rfl V (iV ((k : Nat) : Int))) ?_
   exact R_nil ⟨t0, t1, rfl, t7, t8, trivial⟩
  intro T H ⟨t0, t1, t5, t7, t8, _⟩
  refine W_seq_regc (fun T H => T 0 = (V.sl (List.map cN (w))) ∧ T 1 = (V.fn g [] caps) ∧ T 5 = (iV ((k : Nat) : Int)) ∧ T 7 = (iV ((w.length : Nat) : Int)) ∧ T 8 = (iV ((k : Nat) : Int)) ∧ T 16 = (V.bool (p (nth w k))) ∧ True) ?_ ?_
  ·
   unfold r98_4
   refine R_mv t1 ?_
   refine R_mv t0 ?_
   refine R_mv t5 ?_
   refine R_idx (i := k) (@rfl V (V.sl (List.map cN (w)))) (@rfl V (iV ((k : Nat) : Int))) (by omega) rfl ?_
   refine R_load_pp (v := (V.agg [(V.bool (((nth (w) (k))).lf)), (V.sl (List.map cI (((nth (w) (k))).ac))), (V.sl (List.map cI (((nth (w) (k))).sf))), (V.sl (List.map cL (((nth (w) (k))).ou))), (V.sl (List.map cI (((nth (w) (k))).kd)))])) (@rfl V (V.pp [(V.bool (((nth (w) (k))).lf)), (V.sl (List.map cI (((nth (w) (k))).ac))), (V.sl (List.map cI (((nth (w) (k))).sf))), (V.sl (List.map cL (((nth (w) (k))).ou))), (V.sl (List.map cI (((nth (w) (k))).kd)))])) (by first | rfl | simp [ldV]) ?_
   refine R_callv (@rfl V (V.fn g [] caps)) (evcons (@rfl V (V.agg [(V.bool (((nth (w) (k))).lf)), (V.sl (List.map cI (((nth (w) (k))).ac))), (V.sl (List.map cI (((nth (w) (k))).sf))), (V.sl (List.map cL (((nth (w) (k))).ou))), (V.sl (List.map cI (((nth (w) (k))).kd)))])) evnil) (hq k (by omega)) (fzv_mapcanon _ _ (by simp [hca])) (by simp [hpu]) (Or.inl (by simp [hpu])) ?_
   exact R_nil ⟨t0, t1, t5, t7, t8, rfl, trivial⟩
  intro T H ⟨t0, t1, t5, t7, t8, t16, _⟩
  refine W_ifb t16 (fun c5 => ?_) (fun c5 => ?_)
  ·
   have d1 := c5
   refine W_seq_regc (fun T H => T 4 = (iV ((k : Nat) : Int)) ∧ True) ?_ ?_
   ·
    unfold r98_5
    refine R_mv t5 ?_
    refine R_mv (@rfl V (iV ((k : Nat) : Int))) ?_
    exact R_nil ⟨rfl, trivial⟩
   intro T H ⟨t4, _⟩
   refine W_ret ?_
   refine y4 _ _ ?_
   refine p22 _ _ ?_
   refine y1 _ _ ?_
   refine Ret_1 t4 (fz_int ?_)
   · rw [hc, fi_hit (by exact d1) (by omega)]
  have d1 := c5
  refine W_skip ?_
  refine n4 _ _ ?_
  refine .done ?_
  refine W_regc (fun T H => T 0 = (V.sl (List.map cN (w))) ∧ T 1 = (V.fn g [] caps) ∧ T 7 = (iV ((w.length : Nat) : Int)) ∧ T 8 = (iV ((k + 1 : Nat) : Int)) ∧ True) ?_ ?_
  ·
   unfold r98_6
   refine R_addN (m := k) (n := 1) t8 (@rfl V (iV ((1 : Nat) : Int))) (by omega) ?_
   refine R_mv (@rfl V (iV ((k + 1 : Nat) : Int))) ?_
   exact R_nil ⟨t0, t1, t7, rfl, trivial⟩
  intro T H ⟨t0, t1, t7, t8, _⟩
  refine p12 _ _ _ ?_ ⟨(k + 1), rfl, t0, t1, t7, (Eq.trans t8 (by first | rfl | simp)), ?_, ?_⟩
  · omega
  · omega
  · rw [hc, fi_skip (by exact d1) (by omega)]
 refine W_seq_exit ?_
 refine p32 _ _ _ ?_
 refine x1 _ _ ?_
 refine .done ?_
 refine W_seq_regc (fun T H => T 4 = (iV (-1 : Int)) ∧ True) ?_ ?_
 ·
  unfold r98_7
  refine R_mv (@rfl V (iV (-1 : Int))) ?_
  exact R_nil ⟨rfl, trivial⟩
 intro T H ⟨t4, _⟩
 refine W_ret ?_
 refine Ret_1 t4 (fz_int ?_)
 · rw [hc, fi_end (by omega)]
end Go.Proofs.YtmnjchcoigbngaaGreat


namespace Go.Proofs.YtmnjchcoigbngaaGreat
open Go Go.Proofs
theorem sindex_pure (l : List Int) (n : Int) : PureC Tryz.prog 115 [(V.sl (List.map cI (l))), (iV (n))] (iV (fi (fun j => decide (n = nth l j)) 0 l.length)) := by
 refine pure_of_Wb true 6 Tryz.func115 s115_ok (by kernel_rfl) (by simp [s115]) (by simp) (by simp) fun hB => ?_
 simp only [bnd_map, bnd_int, bnd_bool, bnd_str, bnd_agg, bnd_pp, bnd_nil, bnd_cons, implies_true, and_true, true_and] at hB
 unfold s115
 dsimp only
 refine W_seq_regc (fun T H => T 0 = (V.sl (List.map cI (l))) ∧ T 1 = (iV (n)) ∧ True) ?_ ?_
 ·
  unfold r115_0
  refine R_mv (@rfl V (iV (0 : Int))) ?_
  exact R_nil ⟨rfl, rfl, trivial⟩
 intro T H ⟨t0, t1, _⟩
 refine W_seq_seq ?_
 refine W_seq_regc (fun T H => T 0 = (V.sl (List.map cI (l))) ∧ T 1 = (iV (n)) ∧ T 7 = (iV ((l.length : Nat) : Int)) ∧ T 8 = (iV (0 : Int)) ∧ True) ?_ ?_
 ·
  unfold r115_1
  refine R_mv t0 ?_
  refine R_len (@rfl V (V.sl (List.map cI (l)))) ?_
  refine R_mv (@rfl V (iV (0 : Int))) ?_
  exact R_nil ⟨t0, t1, rfl, rfl, trivial⟩
 intro T H ⟨t0, t1, t7, t8, _⟩
 refine W_seq_blockg fun Q1 n1 x1 y1 z1 => ?_
 refine W_loop (fun mm T H => ∃ (k : Nat), mm = l.length - k ∧ T 0 = (V.sl (List.map cI (l))) ∧ T 1 = (iV (n)) ∧ T 7 = (iV ((l.length : Nat) : Int)) ∧ T 8 = (iV ((k : Nat) : Int)) ∧ (k ≤ l.length) ∧ (fi (fun j => decide (n = nth l j)) 0 l.length = fi (fun j => decide (n = nth l j)) k (l.length - k))) ?_ ?_
 ·
  refine ⟨_, 0, rfl, t0, t1, t7, (Eq.trans t8 (by first | rfl | simp)), ?_, ?_⟩
  · omega
  · rfl
 intro mm T H ⟨k, hmm, t0, t1, t7, t8, hk, hc⟩ Q2 p12 p22 p32
 unfold b115_0
 refine W_seq_regc (fun T H => T 0 = (V.sl (List.map cI (l))) ∧ T 1 = (iV (n)) ∧ T 7 = (iV ((l.length : Nat) : Int)) ∧ T 8 = (iV ((k : Nat) : Int)) ∧ T 9 = (V.bool (decide (((k : Nat) : Int) < ((l.length : Nat) : Int)))) ∧ True) ?_ ?_
 ·
  unfold r115_2
  refine R_lss (x := ((k : Nat) : Int)) (y := ((l.length : Nat) : Int)) t8 t7 ?_
  exact R_nil ⟨t0, t1, t7, t8, rfl, trivial⟩
 intro T H ⟨t0, t1, t7, t8, t9, _⟩
 refine W_seq_if (p := ((k : Nat) : Int) < ((l.length : Nat) : Int)) t9 (fun c3 => ?_) (fun c3 => ?_)
 ·
  refine W_seq_skip ?_
  refine W_seq_blockg fun Q4 n4 x4 y4 z4 => ?_
  refine W_seq_regc (fun T H => T 0 = (V.sl (List.map cI (l))) ∧ T 1 = (iV (n)) ∧ T 5 = (iV ((k : Nat) : Int)) ∧ T 7 = (iV ((l.length : Nat) : Int)) ∧ T 8 = (iV ((k : Nat) : Int)) ∧ True) ?_ ?_
  ·
   unfold r115_3
   refine R_mv t8 ?_
   refine R_mv (@rfl V (iV ((k : Nat) : Int))) ?_
   exact R_nil ⟨t0, t1, rfl, t7, t8, trivial⟩
  intro T H ⟨t0, t1, t5, t7, t8, _⟩
  refine W_seq_regc (fun T H => T 0 = (V.sl (List.map cI (l))) ∧ T 1 = (iV (n)) ∧ T 5 = (iV ((k : Nat) : Int)) ∧ T 7 = (iV ((l.length : Nat) : Int)) ∧ T 8 = (iV ((k : Nat) : Int)) ∧ T 16 = (V.bool (decide ((n) = ((nth (l) (k)))))) ∧ True) ?_ ?_
  ·
   unfold r115_4
   refine R_mv t1 ?_
   refine R_mv t0 ?_
   refine R_mv t5 ?_
   refine R_idx (i := k) (@rfl V (V.sl (List.map cI (l)))) (@rfl V (iV ((k : Nat) : Int))) (by omega) rfl ?_
   refine R_load_pp (v := (iV ((nth (l) (k))))) (@rfl V (V.pp [(iV ((nth (l) (k))))])) (by first | rfl | simp [ldV]) ?_
   refine R_eql (x := (n)) (y := ((nth (l) (k)))) (@rfl V (iV (n))) (@rfl V (iV ((nth (l) (k))))) ?_
   exact R_nil ⟨t0, t1, t5, t7, t8, rfl, trivial⟩
  intro T H ⟨t0, t1, t5, t7, t8, t16, _⟩
  refine W_if (p := (n) = ((nth (l) (k)))) t16 (fun c5 => ?_) (fun c5 => ?_)
  ·
   have d1 := c5
   refine W_seq_regc (fun T H => T 4 = (iV ((k : Nat) : Int)) ∧ True) ?_ ?_
   ·
    unfold r115_5
    refine R_mv t5 ?_
    refine R_mv (@rfl V (iV ((k : Nat) : Int))) ?_
    exact R_nil ⟨rfl, trivial⟩
   intro T H ⟨t4, _⟩
   refine W_ret ?_
   refine y4 _ _ ?_
   refine p22 _ _ ?_
   refine y1 _ _ ?_
   refine Ret_1 t4 (fz_int ?_)
   · rw [hc, fi_hit (p := fun j => decide (n = nth l j)) (decide_eq_true d1) (by omega)]
  have d1 := c5
  refine W_skip ?_
  refine n4 _ _ ?_
  refine .done ?_
  refine W_regc (fun T H => T 0 = (V.sl (List.map cI (l))) ∧ T 1 = (iV (n)) ∧ T 7 = (iV ((l.length : Nat) : Int)) ∧ T 8 = (iV ((k + 1 : Nat) : Int)) ∧ True) ?_ ?_
  ·
   unfold r115_6
   refine R_addN (m := k) (n := 1) t8 (@rfl V (iV ((1 : Nat) : Int))) (by omega) ?_
   refine R_mv (@rfl V (iV ((k + 1 : Nat) : Int))) ?_
   exact R_nil ⟨t0, t1, t7, rfl, trivial⟩
  intro T H ⟨t0, t1, t7, t8, _⟩
  refine p12 _ _ _ ?_ ⟨(k + 1), rfl, t0, t1, t7, (Eq.trans t8 (by first | rfl | simp)), ?_, ?_⟩
  · omega
  · omega
  · rw [hc, fi_skip (p := fun j => decide (n = nth l j)) (decide_eq_false d1) (by omega)]
 refine W_seq_exit ?_
 refine p32 _ _ _ ?_
 refine x1 _ _ ?_
 refine .done ?_
 refine W_seq_regc (fun T H => T 4 = (iV (-1 : Int)) ∧ True) ?_ ?_
 ·
  unfold r115_7
  refine R_mv (@rfl V (iV (-1 : Int))) ?_
  exact R_nil ⟨rfl, trivial⟩
 intro T H ⟨t4, _⟩
 refine W_ret ?_
 refine Ret_1 t4 (fz_int ?_)
 · rw [hc, fi_end (by omega)]
end Go.Proofs.YtmnjchcoigbngaaGreat


namespace Go.Proofs.YtmnjchcoigbngaaGreat
open Go Go.Proofs
theorem scontains_pure (l : List Int) (n : Int) : PureC Tryz.prog 100 [(V.sl (List.map cI (l))), (iV (n))] (V.bool (decide (n ∈ l))) := by
 refine pure_of_Wb true 6 Tryz.func100 s100_ok (by kernel_rfl) (by simp [s100]) (by simp) (by simp) fun hB => ?_
 simp only [bnd_map, bnd_int, bnd_bool, bnd_str, bnd_agg, bnd_pp, bnd_nil, bnd_cons, implies_true, and_true, true_and] at hB
 unfold s100
 dsimp only
 refine W_seq_regc (fun T H => T 0 = (V.sl (List.map cI (l))) ∧ T 1 = (iV (n)) ∧ True) ?_ ?_
 ·
  unfold r100_0
  refine R_mv (@rfl V (V.bool false)) ?_
  exact R_nil ⟨rfl, rfl, trivial⟩
 intro T H ⟨t0, t1, _⟩
 refine W_seq_regc (fun T H => T 4 = (V.bool (decide ((0 : Int) ≤ (fi (fun j => decide (((n)) = nth l j)) 0 l.length)))) ∧ True) ?_ ?_
 ·
  unfold r100_1
  refine R_mv t0 ?_
  refine R_mv t1 ?_
  refine R_call (evcons (@rfl V (V.sl (List.map cI (l)))) (evcons (@rfl V (iV (n))) evnil)) (sindex_pure l ((n))) (fzv_mapcanon _ _ (by simp [-List.map_take, -List.map_drop, -List.map_append, -List.map_reverse])) (by simp [-List.map_take, -List.map_drop, -List.map_append, -List.map_reverse]) (Or.inl (by simp [-List.map_take, -List.map_drop, -List.map_append, -List.map_reverse])) ?_
  refine R_geq (x := (fi (fun j => decide (((n)) = nth l j)) 0 l.length)) (y := (0 : Int)) (@rfl V (iV (fi (fun j => decide (((n)) = nth l j)) 0 l.length))) (@rfl V (iV (0 : Int))) ?_
  refine R_mv (@rfl V (V.bool (decide ((0 : Int) ≤ (fi (fun j => decide (((n)) = nth l j)) 0 l.length))))) ?_
  exact R_nil ⟨rfl, trivial⟩
 intro T H ⟨t4, _⟩
 refine W_ret ?_
 refine Ret_1 t4 (fz_bool ?_)
 · exact decide_eq_decide.2 fi_memI
end Go.Proofs.YtmnjchcoigbngaaGreat


namespace Go.Proofs.YtmnjchcoigbngaaGreat
open Go Go.Proofs
theorem path1_pure (x : Nd) (n : Int) : PureC Tryz.prog 99 [(V.agg [(V.bool x.lf), (V.sl (List.map cI (x.ac))), (V.sl (List.map cI (x.sf))), (V.sl (List.map cL (x.ou))), (V.sl (List.map cI (x.kd)))]), (V.pp [(iV (n))])] (V.bool (decide (n ∈ x.kd))) := by
 refine pure_of_Wb true 6 Tryz.func99 s99_ok (by kernel_rfl) (by simp [s99]) (by simp) (by simp) fun hB => ?_
 simp only [bnd_map, bnd_int, bnd_bool, bnd_str, bnd_agg, bnd_pp, bnd_nil, bnd_cons, implies_true, and_true, true_and] at hB
 unfold s99
 dsimp only
 refine W_seq_regc (fun T H => T 1 = (V.pp [(iV (n))]) ∧ T 2 = (V.mp 2 1 0 0) ∧ H 2 = (⟨1, true, false, 68, 5, [[(V.bool x.lf), (V.sl (List.map cI (x.ac))), (V.sl (List.map cI (x.sf))), (V.sl (List.map cL (x.ou))), (V.sl (List.map cI (x.kd)))]]⟩ : Blk) ∧ True) ?_ ?_
 ·
  unfold r99_0
  refine R_box (i := 2) (n := 0) (m := 5) (cs := [(V.bool x.lf), (V.sl (List.map cI (x.ac))), (V.sl (List.map cI (x.sf))), (V.sl (List.map cL (x.ou))), (V.sl (List.map cI (x.kd)))]) rfl (congrArg Blk.ver rfl) (@rfl V (V.agg [(V.bool x.lf), (V.sl (List.map cI (x.ac))), (V.sl (List.map cI (x.sf))), (V.sl (List.map cL (x.ou))), (V.sl (List.map cI (x.kd)))])) rfl rfl ?_
  refine R_mv (@rfl V (V.bool false)) ?_
  exact R_nil ⟨rfl, rfl, rfl, trivial⟩
 intro T H ⟨t1, t2, h2, _⟩
 refine W_seq_regc (fun T H => T 3 = (V.bool (decide (((n)) ∈ x.kd))) ∧ H 2 = (⟨1, true, false, 68, 5, [[(V.bool x.lf), (V.sl (List.map cI (x.ac))), (V.sl (List.map cI (x.sf))), (V.sl (List.map cL (x.ou))), (V.sl (List.map cI (x.kd)))]]⟩ : Blk) ∧ True) ?_ ?_
 ·
  unfold r99_1
  refine R_fld_mp (o' := 4) t2 h2 (by first | rfl | simp [okB, Blk.own]) rfl ?_
  refine R_load_mp (v := (V.sl (List.map cI (x.kd)))) (@rfl V (V.mp 2 1 0 4)) h2 (by first | rfl | simp [ldB, ldV, Blk.own, V.one]) ?_
  refine R_load_pp (v := (iV (n))) t1 (by first | rfl | simp [ldV]) ?_
  refine R_call (evcons (@rfl V (V.sl (List.map cI (x.kd)))) (evcons (@rfl V (iV (n))) evnil)) (scontains_pure x.kd ((n))) (fzv_mapcanon _ _ (by simp [-List.map_take, -List.map_drop, -List.map_append, -List.map_reverse])) (by simp [-List.map_take, -List.map_drop, -List.map_append, -List.map_reverse]) (Or.inl (by simp [-List.map_take, -List.map_drop, -List.map_append, -List.map_reverse])) ?_
  refine R_mv (@rfl V (V.bool (decide (((n)) ∈ x.kd)))) ?_
  exact R_nil ⟨rfl, h2, trivial⟩
 intro T H ⟨t3, h2, _⟩
 refine W_ret ?_
 refine Ret_1 t3 (fz_bool ?_)
 · rfl
end Go.Proofs.YtmnjchcoigbngaaGreat


namespace Go.Proofs.YtmnjchcoigbngaaGreat
open Go Go.Proofs
theorem path_pure (t : Dt) (n : Int) (hv : dvE t = 0) (hb : Bd t) (g0 : 0 ≤ n) (g1 : n < t.nd.length) : PureC Tryz.prog 70 [(V.agg [(V.sl (List.map cN (t.nd)))]), (iV (n))] (V.sl (List.map cI (pth t n))) := by
 refine pure_of_Wb true 6 Tryz.func70 s70_ok (by kernel_rfl) (by simp [s70]) (by simp) (by simp) fun hB => ?_
 simp only [bnd_map, bnd_int, bnd_bool, bnd_str, bnd_agg, bnd_pp, bnd_nil, bnd_cons, implies_true, and_true, true_and] at hB
 unfold s70
 dsimp only
 have hbn := hb.n
 refine W_seq_regc (fun T H => T 2 = (V.mp 2 1 0 0) ∧ T 3 = (V.mp 3 1 0 0) ∧ H 2 = (⟨1, true, false, 24, 1, [[(V.sl (List.map cN (t.nd)))]]⟩ : Blk) ∧ H 3 = (⟨1, true, false, 3, 1, [[(iV (n))]]⟩ : Blk) ∧ H 7 = (⟨0, false, false, 0, 0, []⟩ : Blk) ∧ True) ?_ ?_
 ·
  unfold r70_0
  refine R_box (i := 2) (n := 0) (m := 1) (cs := [(V.sl (List.map cN (t.nd)))]) rfl (congrArg Blk.ver rfl) (@rfl V (V.agg [(V.sl (List.map cN (t.nd)))])) rfl rfl ?_
  refine R_box (i := 3) (n := 0) (m := 1) (cs := [(iV (n))]) rfl (congrArg Blk.ver rfl) (@rfl V (iV (n))) rfl rfl ?_
  refine R_mv (@rfl V V.nilsl) ?_
  exact R_nil ⟨rfl, rfl, rfl, rfl, rfl, trivial⟩
 intro T H ⟨t2, t3, h2, h3, h7, _⟩
 refine W_seq_regc (fun T H => T 2 = (V.mp 2 1 0 0) ∧ T 3 = (V.mp 3 1 0 0) ∧ T 5 = (V.ms 7 1 0 (1)) ∧ H 2 = (⟨1, true, false, 24, 1, [[(V.sl (List.map cN (t.nd)))]]⟩ : Blk) ∧ H 3 = (⟨1, true, false, 3, 1, [[(iV (n))]]⟩ : Blk) ∧ H 7 = (⟨1, true, false, 3, 1, [[(iV (n))]]⟩ : Blk) ∧ True) ?_ ?_
 ·
  unfold r70_1
  refine R_load_mp (v := (iV (n))) t3 h3 (by first | rfl | simp [ldB, ldV, Blk.own, V.one]) ?_
  refine R_bslice_own (i := 7) (n := 0) (qs := [(0, (iV (n)))]) (rows := [[(iV (n))]]) rfl (congrArg Blk.ver h7) (mcons (congrArg (fun v => (0, v)) (@rfl V (iV (n)))) rfl) rfl ?_
  refine R_mv (@rfl V (V.ms 7 1 0 (1))) ?_
  exact R_nil ⟨t2, t3, rfl, h2, h3, rfl, trivial⟩
 intro T H ⟨t2, t3, t5, h2, h3, h7, _⟩
 refine W_seq_blockg fun Q1 n1 x1 y1 z1 => ?_
 refine W_loop (fun mm T H => ∃ (a : Int) (f : Nat) (w : Nat) (out : List Int), mm = f ∧ T 2 = (V.mp 2 1 0 0) ∧ T 3 = (V.mp 3 1 0 0) ∧ T 5 = (V.ms 7 w 0 (out.length)) ∧ H 2 = (⟨1, true, false, 24, 1, [[(V.sl (List.map cN (t.nd)))]]⟩ : Blk) ∧ H 3 = (⟨1, true, false, 3, 1, [[(iV (a))]]⟩ : Blk) ∧ H 7 = (⟨w, true, false, 3, 1, (List.map cI (out))⟩ : Blk) ∧ (Up t f a) ∧ (upN t t.nd.length n = out ++ (upN t f a).drop 1) ∧ (out.length + f ≤ t.nd.length + 1)) ?_ ?_
 ·
  refine ⟨_, n, t.nd.length, 1, [n], rfl, t2, t3, (Eq.trans t5 (by first | rfl | simp)), h2, h3, (Eq.trans h7 (by first | rfl | simp)), ?_, ?_, ?_⟩
  · exact Up.of hv g0 g1
  · rw [up_head t t.nd.length n]; rfl
  · simp; omega
 intro mm T H ⟨a, f, w, out, hmm, t2, t3, t5, h2, h3, h7, hu, hc, hl⟩ Q2 p12 p22 p32
 unfold b70_0
 refine W_seq_seq ?_
 refine W_seq_regc (fun T H => T 2 = (V.mp 2 1 0 0) ∧ T 3 = (V.mp 3 1 0 0) ∧ T 5 = (V.ms 7 w 0 (out.length)) ∧ T 9 = (V.bool (decide ((a) ≠ (0 : Int)))) ∧ H 2 = (⟨1, true, false, 24, 1, [[(V.sl (List.map cN (t.nd)))]]⟩ : Blk) ∧ H 3 = (⟨1, true, false, 3, 1, [[(iV (a))]]⟩ : Blk) ∧ H 7 = (⟨w, true, false, 3, 1, (List.map cI (out))⟩ : Blk) ∧ True) ?_ ?_
 ·
  unfold r70_2
  refine R_load_mp (v := (iV (a))) t3 h3 (by first | rfl | simp [ldB, ldV, Blk.own, V.one]) ?_
  refine R_neq (x := (a)) (y := (0 : Int)) (@rfl V (iV (a))) (@rfl V (iV (0 : Int))) ?_
  exact R_nil ⟨t2, t3, t5, rfl, h2, h3, h7, trivial⟩
 intro T H ⟨t2, t3, t5, t9, h2, h3, h7, _⟩
 refine W_seq_if (p := (a) ≠ (0 : Int)) t9 (fun c3 => ?_) (fun c3 => ?_)
 ·
  have d1 : a ≠ 0 := c3
  refine W_seq_skip ?_
  refine W_block fun Q4 n4 x4 y4 z4 => ?_
  refine W_seq_regc (fun T H => T 2 = (V.mp 2 1 0 0) ∧ T 3 = (V.mp 3 1 0 0) ∧ T 5 = (V.ms 7 w 0 (out.length)) ∧ H 2 = (⟨1, true, false, 24, 1, [[(V.sl (List.map cN (t.nd)))]]⟩ : Blk) ∧ H 3 = (⟨1, true, false, 3, 1, [[(iV (fi (fun j => (fun x : Nd => decide (a ∈ x.kd)) (nth t.nd j)) 0 t.nd.length))]]⟩ : Blk) ∧ H 7 = (⟨w, true, false, 3, 1, (List.map cI (out))⟩ : Blk) ∧ True) ?_ ?_
  ·
   unfold r70_3
   refine R_fld_mp (o' := 0) t2 h2 (by first | rfl | simp [okB, Blk.own]) rfl ?_
   refine R_load_mp (v := (V.sl (List.map cN (t.nd)))) (@rfl V (V.mp 2 1 0 0)) h2 (by first | rfl | simp [ldB, ldV, Blk.own, V.one]) ?_
   refine R_mkf (evcons t3 evnil) ?_
   refine R_call (evcons (@rfl V (V.sl (List.map cN (t.nd)))) (evcons (@rfl V (V.fn 99 [] [(V.mp 3 1 0 0)])) evnil)) (idxn_pure (fun x : Nd => decide (a ∈ x.kd)) t.nd 99 ([(V.pp [(iV (a))])]) (by simp) (by simp) (fun j _ => path1_pure (nth t.nd j) a)) (mcons (fzv_canon 6 _ (by simp [-List.map_take, -List.map_drop, -List.map_append, -List.map_reverse])) (mcons (by simp [fzv, Blk.own, h2, h3, h7]) rfl)) (by simp [-List.map_take, -List.map_drop, -List.map_append, -List.map_reverse]) (Or.inr rfl) ?_
   refine R_store (vs := [(iV (fi (fun j => (fun x : Nd => decide (a ∈ x.kd)) (nth t.nd j)) 0 t.nd.length))]) (B' := (⟨1, true, false, 3, 1, [[(iV (fi (fun j => (fun x : Nd => decide (a ∈ x.kd)) (nth t.nd j)) 0 t.nd.length))]]⟩ : Blk)) t3 (@rfl V (iV (fi (fun j => (fun x : Nd => decide (a ∈ x.kd)) (nth t.nd j)) 0 t.nd.length))) rfl h3 (by first | rfl | simp [stB, okB, Blk.own, putAt, V.one]) ?_
   exact R_nil ⟨t2, t3, t5, h2, rfl, h7, trivial⟩
  intro T H ⟨t2, t3, t5, h2, h3, h7, _⟩
  refine W_regc (fun T H => T 2 = (V.mp 2 1 0 0) ∧ T 3 = (V.mp 3 1 0 0) ∧ T 5 = (V.ms 7 (w + 1) 0 (out.length + 1)) ∧ H 2 = (⟨1, true, false, 24, 1, [[(V.sl (List.map cN (t.nd)))]]⟩ : Blk) ∧ H 3 = (⟨1, true, false, 3, 1, [[(iV (fi (fun j => (fun x : Nd => decide (a ∈ x.kd)) (nth t.nd j)) 0 t.nd.length))]]⟩ : Blk) ∧ H 7 = (⟨w + 1, true, false, 3, 1, (List.map cI (out ++ [(fi (fun j => (fun x : Nd => decide (a ∈ x.kd)) (nth t.nd j)) 0 t.nd.length)]))⟩ : Blk) ∧ True) ?_ ?_
  ·
   unfold r70_4
   refine R_mv t5 ?_
   refine R_load_mp (v := (iV (fi (fun j => (fun x : Nd => decide (a ∈ x.kd)) (nth t.nd j)) 0 t.nd.length))) t3 h3 (by first | rfl | simp [ldB, ldV, Blk.own, V.one]) ?_
   refine R_bslice (qs := [(0, (iV (fi (fun j => (fun x : Nd => decide (a ∈ x.kd)) (nth t.nd j)) 0 t.nd.length)))]) (rows := [[(iV (fi (fun j => (fun x : Nd => decide (a ∈ x.kd)) (nth t.nd j)) 0 t.nd.length))]]) (mcons (congrArg (fun v => (0, v)) (@rfl V (iV (fi (fun j => (fun x : Nd => decide (a ∈ x.kd)) (nth t.nd j)) 0 t.nd.length)))) rfl) rfl ?_
   refine R_append1 (l := out) (f := cI) (x := ((fi (fun j => (fun x : Nd => decide (a ∈ x.kd)) (nth t.nd j)) 0 t.nd.length))) (@rfl V (V.ms 7 w 0 (out.length))) h7 (by first | rfl | simp | omega) (@rfl V (V.sl [[(iV (fi (fun j => (fun x : Nd => decide (a ∈ x.kd)) (nth t.nd j)) 0 t.nd.length))]])) rfl rfl (by omega) (by omega) ?_
   refine R_mv (@rfl V (V.ms 7 (w + 1) 0 (out.length + 1))) ?_
   exact R_nil ⟨t2, t3, rfl, h2, h3, rfl, trivial⟩
  intro T H ⟨t2, t3, t5, h2, h3, h7, _⟩
  refine n4 _ _ ?_
  refine p12 _ _ _ ?_ ⟨(par t a), (f - 1), (w + 1), (out ++ [par t a]), rfl, t2, t3, (Eq.trans t5 (by first | rfl | simp)), h2, (Eq.trans h3 (by first | rfl | simp)), (Eq.trans h7 (by first | rfl | simp)), ?_, ?_, ?_⟩
  · have := hu.pos d1; omega
  · exact (hu.par hv d1).1
  · rw [hc, up_go (hu.pos d1) d1]; conv => lhs; rw [List.drop_succ_cons, List.drop_zero, up_head t (f - 1) (par t a)]
    simp
  · have := hu.pos d1; rw [List.length_append]; simp; omega
 have d1 : a = 0 := Decidable.not_not.1 c3
 refine W_seq_exit ?_
 refine p32 _ _ _ ?_
 refine x1 _ _ ?_
 refine .done ?_
 refine W_seq_regc (fun T H => T 5 = (V.ms 7 w 0 (out.length)) ∧ H 2 = (⟨1, true, false, 24, 1, [[(V.sl (List.map cN (t.nd)))]]⟩ : Blk) ∧ H 3 = (⟨1, true, false, 3, 1, [[(iV (a))]]⟩ : Blk) ∧ H 7 = (⟨w, true, false, 3, 1, (List.map cI (out.reverse))⟩ : Blk) ∧ True) ?_ ?_
 ·
  unfold r70_5
  refine R_mv t5 ?_
  refine R_callE (evcons (@rfl V (V.ms 7 w 0 (out.length))) evnil) (revcI7_E out w false _ (show _ = (⟨w, true, false, 3, 1, (List.map cI (out))⟩ : Blk) from h7) (by omega)) ?_
  exact R_nil ⟨t5, h2, h3, rfl, trivial⟩
 intro T H ⟨t5, h2, h3, h7, _⟩
 refine W_seq_regc (fun T H => T 4 = (V.ms 7 w 0 (out.length)) ∧ H 2 = (⟨1, true, false, 24, 1, [[(V.sl (List.map cN (t.nd)))]]⟩ : Blk) ∧ H 3 = (⟨1, true, false, 3, 1, [[(iV (a))]]⟩ : Blk) ∧ H 7 = (⟨w, true, false, 3, 1, (List.map cI (out.reverse))⟩ : Blk) ∧ True) ?_ ?_
 ·
  unfold r70_6
  refine R_mv t5 ?_
  refine R_mv (@rfl V (V.ms 7 w 0 (out.length))) ?_
  exact R_nil ⟨rfl, h2, h3, h7, trivial⟩
 intro T H ⟨t4, h2, h3, h7, _⟩
 refine W_ret ?_
 refine Ret_1 t4 (fz_ms h7 (by first | rfl | simp) (l := out.reverse) rfl (by first | rfl | simp | omega) (fun _ => by simp) ?_)
 · unfold pth; rw [hc, d1, up_zero]; simp
end Go.Proofs.YtmnjchcoigbngaaGreat


namespace Go.Proofs.YtmnjchcoigbngaaGreat
open Go Go.Proofs
theorem dcommon_pure (t : Dt) (a b : Int) (hb : Bd t) : PureC Tryz.prog 28 [(V.agg [(V.sl (List.map cN (t.nd)))]), (iV (a)), (iV (b))] (V.tup [(V.sl (List.map cI (cmR t a b))), (iV (cmE t a b))]) := by
 refine pure_of_Wb true 6 Tryz.func28 s28_ok (by kernel_rfl) (by simp [s28]) (by simp) (by simp) fun hB => ?_
 simp only [bnd_map, bnd_int, bnd_bool, bnd_str, bnd_agg, bnd_pp, bnd_nil, bnd_cons, implies_true, and_true, true_and] at hB
 unfold s28
 dsimp only
 refine W_seq_regc (fun T H => T 1 = (iV (a)) ∧ T 2 = (iV (b)) ∧ T 3 = (V.mp 3 1 0 0) ∧ H 3 = (⟨1, true, false, 24, 1, [[(V.sl (List.map cN (t.nd)))]]⟩ : Blk) ∧ True) ?_ ?_
 ·
  unfold r28_0
  refine R_box (i := 3) (n := 0) (m := 1) (cs := [(V.sl (List.map cN (t.nd)))]) rfl (congrArg Blk.ver rfl) (@rfl V (V.agg [(V.sl (List.map cN (t.nd)))])) rfl rfl ?_
  refine R_mv (@rfl V V.nilsl) ?_
  refine R_mv (@rfl V (iV (0 : Int))) ?_
  exact R_nil ⟨rfl, rfl, rfl, rfl, trivial⟩
 intro T H ⟨t1, t2, t3, h3, _⟩
 refine W_seq_seq ?_
 refine W_seq_regc (fun T H => T 1 = (iV (a)) ∧ T 2 = (iV (b)) ∧ T 3 = (V.mp 3 1 0 0) ∧ T 8 = (iV (dvE t)) ∧ H 3 = (⟨1, true, false, 24, 1, [[(V.sl (List.map cN (t.nd)))]]⟩ : Blk) ∧ True) ?_ ?_
 ·
  unfold r28_1
  refine R_load_mp (v := (V.agg [(V.sl (List.map cN (t.nd)))])) t3 h3 (by first | rfl | simp [ldB, ldV, Blk.own, V.one]) ?_
  refine R_call (evcons (@rfl V (V.agg [(V.sl (List.map cN (t.nd)))])) evnil) (dvalid_pure t hb) (fzv_mapcanon _ _ (by simp [-List.map_take, -List.map_drop, -List.map_append, -List.map_reverse])) (by simp [-List.map_take, -List.map_drop, -List.map_append, -List.map_reverse]) (Or.inl (by simp [-List.map_take, -List.map_drop, -List.map_append, -List.map_reverse])) ?_
  refine R_mv (@rfl V (iV (dvE t))) ?_
  exact R_nil ⟨t1, t2, t3, rfl, h3, trivial⟩
 intro T H ⟨t1, t2, t3, t8, h3, _⟩
 refine W_seq_seq ?_
 refine W_seq_regc (fun T H => T 1 = (iV (a)) ∧ T 2 = (iV (b)) ∧ T 3 = (V.mp 3 1 0 0) ∧ T 8 = (iV (dvE t)) ∧ T 17 = (V.bool (decide ((dvE t) ≠ (0 : Int)))) ∧ H 3 = (⟨1, true, false, 24, 1, [[(V.sl (List.map cN (t.nd)))]]⟩ : Blk) ∧ True) ?_ ?_
 ·
  unfold r28_2
  refine R_mv t8 ?_
  refine R_neq (x := (dvE t)) (y := (0 : Int)) (@rfl V (iV (dvE t))) (@rfl V (iV (0 : Int))) ?_
  exact R_nil ⟨t1, t2, t3, t8, rfl, h3, trivial⟩
 intro T H ⟨t1, t2, t3, t8, t17, h3, _⟩
 refine W_seq_if (p := (dvE t) ≠ (0 : Int)) t17 (fun c1 => ?_) (fun c1 => ?_)
 ·
  have d0 : dvE t ≠ 0 := c1
  refine W_seq_seq ?_
  refine W_seq_regc (fun T H => T 6 = V.nilsl ∧ T 7 = (iV (dvE t)) ∧ H 3 = (⟨1, true, false, 24, 1, [[(V.sl (List.map cN (t.nd)))]]⟩ : Blk) ∧ True) ?_ ?_
  ·
   unfold r28_3
   refine R_mv t8 ?_
   refine R_mv (@rfl V V.nilsl) ?_
   refine R_mv (@rfl V (iV (dvE t))) ?_
   exact R_nil ⟨rfl, rfl, h3, trivial⟩
  intro T H ⟨t6, t7, h3, _⟩
  refine W_seq_ret ?_
  refine Ret_2 t6 t7 (fz_nil ?_) (fz_int ?_)
  · unfold cmR; rw [if_neg (by unfold cmE; rw [if_pos d0]; exact d0)]
  · unfold cmE; rw [if_pos d0]
 have hv : dvE t = 0 := by omega
 refine W_seq_skip ?_
 refine W_seq_seq ?_
 refine W_seq_regc (fun T H => T 1 = (iV (a)) ∧ T 2 = (iV (b)) ∧ T 3 = (V.mp 3 1 0 0) ∧ T 21 = (V.agg [(iV (a)), (iV (b))]) ∧ T 22 = (iV (0 : Int)) ∧ H 3 = (⟨1, true, false, 24, 1, [[(V.sl (List.map cN (t.nd)))]]⟩ : Blk) ∧ True) ?_ ?_
 ·
  unfold r28_4
  refine R_mv t1 ?_
  refine R_mv t2 ?_
  refine R_build (qs := [(0, 1, (iV (a))), (1, 1, (iV (b)))]) (cs := [(iV (a)), (iV (b))]) (mcons (congrArg (fun v => (0, 1, v)) (@rfl V (iV (a)))) (mcons (congrArg (fun v => (1, 1, v)) (@rfl V (iV (b)))) rfl)) rfl ?_
  refine R_mv (@rfl V (iV (0 : Int))) ?_
  exact R_nil ⟨t1, t2, t3, rfl, rfl, h3, trivial⟩
 intro T H ⟨t1, t2, t3, t21, t22, h3, _⟩
 refine W_seq_blockg fun Q2 n2 x2 y2 z2 => ?_
 refine W_loop (fun mm T H => ∃ (k : Nat), mm = (((2 : Int)).toNat) - k ∧ T 1 = (iV (a)) ∧ T 2 = (iV (b)) ∧ T 3 = (V.mp 3 1 0 0) ∧ T 21 = (V.agg [(iV (a)), (iV (b))]) ∧ T 22 = (iV ((k : Nat) : Int)) ∧ H 3 = (⟨1, true, false, 24, 1, [[(V.sl (List.map cN (t.nd)))]]⟩ : Blk) ∧ (k ≤ ((2 : Int)).toNat) ∧ (∀ j, j < k → 0 ≤ nth [a, b] j ∧ nth [a, b] j < (t.nd.length : Int))) ?_ ?_
 ·
  refine ⟨_, 0, rfl, t1, t2, t3, t21, (Eq.trans t22 (by first | rfl | simp)), h3, ?_, ?_⟩
  · omega
  · intro j hj; omega
 intro mm T H ⟨k, hmm, t1, t2, t3, t21, t22, h3, hk, hq⟩ Q3 p13 p23 p33
 unfold b28_0
 refine W_seq_regc (fun T H => T 1 = (iV (a)) ∧ T 2 = (iV (b)) ∧ T 3 = (V.mp 3 1 0 0) ∧ T 21 = (V.agg [(iV (a)), (iV (b))]) ∧ T 22 = (iV ((k : Nat) : Int)) ∧ T 23 = (V.bool (decide (((k : Nat) : Int) < (2 : Int)))) ∧ H 3 = (⟨1, true, false, 24, 1, [[(V.sl (List.map cN (t.nd)))]]⟩ : Blk) ∧ True) ?_ ?_
 ·
  unfold r28_5
  refine R_lss (x := ((k : Nat) : Int)) (y := (2 : Int)) t22 (@rfl V (iV (2 : Int))) ?_
  exact R_nil ⟨t1, t2, t3, t21, t22, rfl, h3, trivial⟩
 intro T H ⟨t1, t2, t3, t21, t22, t23, h3, _⟩
 refine W_seq_if (p := ((k : Nat) : Int) < (2 : Int)) t23 (fun c4 => ?_) (fun c4 => ?_)
 ·
  refine W_seq_skip ?_
  refine W_seq_blockg fun Q5 n5 x5 y5 z5 => ?_
  refine W_seq_regc (fun T H => T 1 = (iV (a)) ∧ T 2 = (iV (b)) ∧ T 3 = (V.mp 3 1 0 0) ∧ T 10 = (iV ((nth [(a), (b)] (k)))) ∧ T 21 = (V.agg [(iV (a)), (iV (b))]) ∧ T 22 = (iV ((k : Nat) : Int)) ∧ H 3 = (⟨1, true, false, 24, 1, [[(V.sl (List.map cN (t.nd)))]]⟩ : Blk) ∧ True) ?_ ?_
  ·
   unfold r28_6
   refine R_aidxI (l := [(a), (b)]) (i := k) t21 t22 (by rfl) (by first | omega | (rw [p5]; omega)) ?_
   refine R_mv (@rfl V (iV ((nth [(a), (b)] (k))))) ?_
   exact R_nil ⟨t1, t2, t3, rfl, t21, t22, h3, trivial⟩
  intro T H ⟨t1, t2, t3, t10, t21, t22, h3, _⟩
  refine W_seq_regc (fun T H => T 1 = (iV (a)) ∧ T 2 = (iV (b)) ∧ T 3 = (V.mp 3 1 0 0) ∧ T 21 = (V.agg [(iV (a)), (iV (b))]) ∧ T 22 = (iV ((k : Nat) : Int)) ∧ T 33 = (V.bool (decide ((((nth [(a), (b)] (k))) < (0 : Int)) ∨ (((t.nd.length : Nat) : Int) ≤ ((nth [(a), (b)] (k))))))) ∧ H 3 = (⟨1, true, false, 24, 1, [[(V.sl (List.map cN (t.nd)))]]⟩ : Blk) ∧ True) ?_ ?_
  ·
   unfold r28_7
   refine R_mv t10 ?_
   refine R_lss (x := ((nth [(a), (b)] (k)))) (y := (0 : Int)) (@rfl V (iV ((nth [(a), (b)] (k))))) (@rfl V (iV (0 : Int))) ?_
   refine R_mv (@rfl V (V.bool (decide (((nth [(a), (b)] (k))) < (0 : Int))))) ?_
   refine Ops_seg 6 (fun T H => T 1 = (iV (a)) ∧ T 2 = (iV (b)) ∧ T 3 = (V.mp 3 1 0 0) ∧ T 21 = (V.agg [(iV (a)), (iV (b))]) ∧ T 22 = (iV ((k : Nat) : Int)) ∧ T 33 = (V.bool (decide ((((nth [(a), (b)] (k))) < (0 : Int)) ∨ (((t.nd.length : Nat) : Int) ≤ ((nth [(a), (b)] (k))))))) ∧ H 3 = (⟨1, true, false, 24, 1, [[(V.sl (List.map cN (t.nd)))]]⟩ : Blk) ∧ True) ?_ ?_
   ·
    by_cases g6 : ((nth [(a), (b)] (k))) < (0 : Int)
    ·
     refine G_no (Eq.trans (@rfl V (V.bool (decide (((nth [(a), (b)] (k))) < (0 : Int))))) (bdT g6)) (by decide) ?_
     refine G_no (Eq.trans (@rfl V (V.bool (decide (((nth [(a), (b)] (k))) < (0 : Int))))) (bdT g6)) (by decide) ?_
     refine G_no (Eq.trans (@rfl V (V.bool (decide (((nth [(a), (b)] (k))) < (0 : Int))))) (bdT g6)) (by decide) ?_
     refine G_no (Eq.trans (@rfl V (V.bool (decide (((nth [(a), (b)] (k))) < (0 : Int))))) (bdT g6)) (by decide) ?_
     refine G_no (Eq.trans (@rfl V (V.bool (decide (((nth [(a), (b)] (k))) < (0 : Int))))) (bdT g6)) (by decide) ?_
     refine R_pickT (Eq.trans (@rfl V (V.bool (decide (((nth [(a), (b)] (k))) < (0 : Int))))) (bdT g6)) (@rfl V (V.bool true)) ?_
     exact ⟨t1, t2, t3, t21, t22, (Eq.trans (@rfl V (V.bool true)) (dec_orT g6)), h3, trivial⟩
    ·
     refine G_yes (Eq.trans (@rfl V (V.bool (decide (((nth [(a), (b)] (k))) < (0 : Int))))) (bdF g6)) ?_
     refine R_mv t10 ?_
     refine G_yes (Eq.trans (@rfl V (V.bool (decide (((nth [(a), (b)] (k))) < (0 : Int))))) (bdF g6)) ?_
     refine R_fld_mp (o' := 0) t3 h3 (by first | rfl | simp [okB, Blk.own]) rfl ?_
     refine G_yes (Eq.trans (@rfl V (V.bool (decide (((nth [(a), (b)] (k))) < (0 : Int))))) (bdF g6)) ?_
     refine R_load_mp (v := (V.sl (List.map cN (t.nd)))) (@rfl V (V.mp 3 1 0 0)) h3 (by first | rfl | simp [ldB, ldV, Blk.own, V.one]) ?_
     refine G_yes (Eq.trans (@rfl V (V.bool (decide (((nth [(a), (b)] (k))) < (0 : Int))))) (bdF g6)) ?_
     refine R_len (@rfl V (V.sl (List.map cN (t.nd)))) ?_
     refine G_yes (Eq.trans (@rfl V (V.bool (decide (((nth [(a), (b)] (k))) < (0 : Int))))) (bdF g6)) ?_
     refine R_geq (x := ((nth [(a), (b)] (k)))) (y := ((t.nd.length : Nat) : Int)) (@rfl V (iV ((nth [(a), (b)] (k))))) (@rfl V (iV ((t.nd.length : Nat) : Int))) ?_
     refine R_pickF (Eq.trans (@rfl V (V.bool (decide (((nth [(a), (b)] (k))) < (0 : Int))))) (bdF g6)) (@rfl V (V.bool (decide (((t.nd.length : Nat) : Int) ≤ ((nth [(a), (b)] (k))))))) ?_
     exact ⟨t1, t2, t3, t21, t22, (Eq.trans (@rfl V (V.bool (decide (((t.nd.length : Nat) : Int) ≤ ((nth [(a), (b)] (k))))))) (dec_orF g6)), h3, trivial⟩
   intro T H ⟨t1, t2, t3, t21, t22, t33, h3, _⟩
   exact R_nil ⟨t1, t2, t3, t21, t22, t33, h3, trivial⟩
  intro T H ⟨t1, t2, t3, t21, t22, t33, h3, _⟩
  refine W_if (p := (((nth [(a), (b)] (k))) < (0 : Int)) ∨ (((t.nd.length : Nat) : Int) ≤ ((nth [(a), (b)] (k))))) t33 (fun c7 => ?_) (fun c7 => ?_)
  ·
   have d3 : a < 0 ∨ (t.nd.length : Int) ≤ a ∨ b < 0 ∨ (t.nd.length : Int) ≤ b := by
     rcases (show k = 0 ∨ k = 1 by omega) with e | e
     · subst e; replace c7 : a < 0 ∨ (t.nd.length : Int) ≤ a := c7; omega
     · subst e; replace c7 : b < 0 ∨ (t.nd.length : Int) ≤ b := c7; omega
   refine W_seq_regc (fun T H => T 6 = V.nilsl ∧ T 7 = (iV (2 : Int)) ∧ H 3 = (⟨1, true, false, 24, 1, [[(V.sl (List.map cN (t.nd)))]]⟩ : Blk) ∧ True) ?_ ?_
   ·
    unfold r28_8
    refine R_mv (@rfl V V.nilsl) ?_
    refine R_mv (@rfl V (iV (2 : Int))) ?_
    exact R_nil ⟨rfl, rfl, h3, trivial⟩
   intro T H ⟨t6, t7, h3, _⟩
   refine W_ret ?_
   refine y5 _ _ ?_
   refine p23 _ _ ?_
   refine y2 _ _ ?_
   refine Ret_2 t6 t7 (fz_nil ?_) (fz_int ?_)
   · unfold cmR; rw [if_neg (by unfold cmE; rw [if_neg (by omega), if_pos d3]; decide)]
   · unfold cmE; rw [if_neg (by omega), if_pos d3]
  refine W_skip ?_
  refine n5 _ _ ?_
  refine .done ?_
  refine W_regc (fun T H => T 1 = (iV (a)) ∧ T 2 = (iV (b)) ∧ T 3 = (V.mp 3 1 0 0) ∧ T 21 = (V.agg [(iV (a)), (iV (b))]) ∧ T 22 = (iV ((k + 1 : Nat) : Int)) ∧ H 3 = (⟨1, true, false, 24, 1, [[(V.sl (List.map cN (t.nd)))]]⟩ : Blk) ∧ True) ?_ ?_
  ·
   unfold r28_9
   refine R_addN (m := k) (n := 1) t22 (@rfl V (iV ((1 : Nat) : Int))) (by first | omega | (rw [p5]; omega)) ?_
   refine R_mv (@rfl V (iV ((k + 1 : Nat) : Int))) ?_
   exact R_nil ⟨t1, t2, t3, t21, rfl, h3, trivial⟩
  intro T H ⟨t1, t2, t3, t21, t22, h3, _⟩
  refine p13 _ _ _ ?_ ⟨(k + 1), rfl, t1, t2, t3, t21, (Eq.trans t22 (by first | rfl | simp)), h3, ?_, ?_⟩
  · omega
  · omega
  · intro i hi
    by_cases e : i = k
    · subst e; omega
    · exact hq i (by omega)
 have e1 := hq 0 (by omega)
 have e2 := hq 1 (by omega)
 replace e1 : 0 ≤ a ∧ a < (t.nd.length : Int) := e1
 replace e2 : 0 ≤ b ∧ b < (t.nd.length : Int) := e2
 refine W_seq_exit ?_
 refine p33 _ _ _ ?_
 refine x2 _ _ ?_
 refine .done ?_
 refine W_seq_blockg fun Q8 n8 x8 y8 z8 => ?_
 refine W_seq_regc (fun T H => T 1 = (iV (a)) ∧ T 2 = (iV (b)) ∧ T 3 = (V.mp 3 1 0 0) ∧ T 35 = (V.bool ((((!((nth (t.nd) (a).toNat)).lf)) || ((!((nth (t.nd) (b).toNat)).lf))))) ∧ H 3 = (⟨1, true, false, 24, 1, [[(V.sl (List.map cN (t.nd)))]]⟩ : Blk) ∧ True) ?_ ?_
 ·
  unfold r28_10
  refine R_fld_mp (o' := 0) t3 h3 (by first | rfl | simp [okB, Blk.own]) rfl ?_
  refine R_load_mp (v := (V.sl (List.map cN (t.nd)))) (@rfl V (V.mp 3 1 0 0)) h3 (by first | rfl | simp [ldB, ldV, Blk.own, V.one]) ?_
  refine R_mv t1 ?_
  refine R_idxI (i := (a)) (@rfl V (V.sl (List.map cN (t.nd)))) (@rfl V (iV (a))) (by first | omega | (rw [p5]; omega)) (by first | omega | (rw [p5]; omega)) rfl ?_
  refine R_fld_pp (cs' := [(V.bool (((nth (t.nd) (a).toNat)).lf)), (V.sl (List.map cI (((nth (t.nd) (a).toNat)).ac))), (V.sl (List.map cI (((nth (t.nd) (a).toNat)).sf))), (V.sl (List.map cL (((nth (t.nd) (a).toNat)).ou))), (V.sl (List.map cI (((nth (t.nd) (a).toNat)).kd)))]) (@rfl V (V.pp [(V.bool (((nth (t.nd) (a).toNat)).lf)), (V.sl (List.map cI (((nth (t.nd) (a).toNat)).ac))), (V.sl (List.map cI (((nth (t.nd) (a).toNat)).sf))), (V.sl (List.map cL (((nth (t.nd) (a).toNat)).ou))), (V.sl (List.map cI (((nth (t.nd) (a).toNat)).kd)))])) rfl ?_
  refine R_load_pp (v := (V.bool (((nth (t.nd) (a).toNat)).lf))) (@rfl V (V.pp [(V.bool (((nth (t.nd) (a).toNat)).lf)), (V.sl (List.map cI (((nth (t.nd) (a).toNat)).ac))), (V.sl (List.map cI (((nth (t.nd) (a).toNat)).sf))), (V.sl (List.map cL (((nth (t.nd) (a).toNat)).ou))), (V.sl (List.map cI (((nth (t.nd) (a).toNat)).kd)))])) (by first | rfl | simp [ldV]) ?_
  refine R_notb (@rfl V (V.bool (((nth (t.nd) (a).toNat)).lf))) ?_
  refine R_mv (@rfl V (V.bool ((!((nth (t.nd) (a).toNat)).lf)))) ?_
  refine Ops_seg 8 (fun T H => T 1 = (iV (a)) ∧ T 2 = (iV (b)) ∧ T 3 = (V.mp 3 1 0 0) ∧ T 51 = (V.bool ((((!((nth (t.nd) (a).toNat)).lf)) || ((!((nth (t.nd) (b).toNat)).lf))))) ∧ H 3 = (⟨1, true, false, 24, 1, [[(V.sl (List.map cN (t.nd)))]]⟩ : Blk) ∧ True) ?_ ?_
  ·
   by_cases g9 : ((!((nth (t.nd) (a).toNat)).lf)) = true
   ·
    refine G_no (Eq.trans (@rfl V (V.bool ((!((nth (t.nd) (a).toNat)).lf)))) (bbT g9)) (by decide) ?_
    refine G_no (Eq.trans (@rfl V (V.bool ((!((nth (t.nd) (a).toNat)).lf)))) (bbT g9)) (by decide) ?_
    refine G_no (Eq.trans (@rfl V (V.bool ((!((nth (t.nd) (a).toNat)).lf)))) (bbT g9)) (by decide) ?_
    refine G_no (Eq.trans (@rfl V (V.bool ((!((nth (t.nd) (a).toNat)).lf)))) (bbT g9)) (by decide) ?_
    refine G_no (Eq.trans (@rfl V (V.bool ((!((nth (t.nd) (a).toNat)).lf)))) (bbT g9)) (by decide) ?_
    refine G_no (Eq.trans (@rfl V (V.bool ((!((nth (t.nd) (a).toNat)).lf)))) (bbT g9)) (by decide) ?_
    refine G_no (Eq.trans (@rfl V (V.bool ((!((nth (t.nd) (a).toNat)).lf)))) (bbT g9)) (by decide) ?_
    refine R_pickT (Eq.trans (@rfl V (V.bool ((!((nth (t.nd) (a).toNat)).lf)))) (bbT g9)) (@rfl V (V.bool true)) ?_
    exact ⟨t1, t2, t3, (Eq.trans (@rfl V (V.bool true)) (borT g9)), h3, trivial⟩
   ·
    refine G_yes (Eq.trans (@rfl V (V.bool ((!((nth (t.nd) (a).toNat)).lf)))) (bbF g9)) ?_
    refine R_fld_mp (o' := 0) t3 h3 (by first | rfl | simp [okB, Blk.own]) rfl ?_
    refine G_yes (Eq.trans (@rfl V (V.bool ((!((nth (t.nd) (a).toNat)).lf)))) (bbF g9)) ?_
    refine R_load_mp (v := (V.sl (List.map cN (t.nd)))) (@rfl V (V.mp 3 1 0 0)) h3 (by first | rfl | simp [ldB, ldV, Blk.own, V.one]) ?_
    refine G_yes (Eq.trans (@rfl V (V.bool ((!((nth (t.nd) (a).toNat)).lf)))) (bbF g9)) ?_
    refine R_mv t2 ?_
    refine G_yes (Eq.trans (@rfl V (V.bool ((!((nth (t.nd) (a).toNat)).lf)))) (bbF g9)) ?_
    refine R_idxI (i := (b)) (@rfl V (V.sl (List.map cN (t.nd)))) (@rfl V (iV (b))) (by first | omega | (rw [p5]; omega)) (by first | omega | (rw [p5]; omega)) rfl ?_
    refine G_yes (Eq.trans (@rfl V (V.bool ((!((nth (t.nd) (a).toNat)).lf)))) (bbF g9)) ?_
    refine R_fld_pp (cs' := [(V.bool (((nth (t.nd) (b).toNat)).lf)), (V.sl (List.map cI (((nth (t.nd) (b).toNat)).ac))), (V.sl (List.map cI (((nth (t.nd) (b).toNat)).sf))), (V.sl (List.map cL (((nth (t.nd) (b).toNat)).ou))), (V.sl (List.map cI (((nth (t.nd) (b).toNat)).kd)))]) (@rfl V (V.pp [(V.bool (((nth (t.nd) (b).toNat)).lf)), (V.sl (List.map cI (((nth (t.nd) (b).toNat)).ac))), (V.sl (List.map cI (((nth (t.nd) (b).toNat)).sf))), (V.sl (List.map cL (((nth (t.nd) (b).toNat)).ou))), (V.sl (List.map cI (((nth (t.nd) (b).toNat)).kd)))])) rfl ?_
    refine G_yes (Eq.trans (@rfl V (V.bool ((!((nth (t.nd) (a).toNat)).lf)))) (bbF g9)) ?_
    refine R_load_pp (v := (V.bool (((nth (t.nd) (b).toNat)).lf))) (@rfl V (V.pp [(V.bool (((nth (t.nd) (b).toNat)).lf)), (V.sl (List.map cI (((nth (t.nd) (b).toNat)).ac))), (V.sl (List.map cI (((nth (t.nd) (b).toNat)).sf))), (V.sl (List.map cL (((nth (t.nd) (b).toNat)).ou))), (V.sl (List.map cI (((nth (t.nd) (b).toNat)).kd)))])) (by first | rfl | simp [ldV]) ?_
    refine G_yes (Eq.trans (@rfl V (V.bool ((!((nth (t.nd) (a).toNat)).lf)))) (bbF g9)) ?_
    refine R_notb (@rfl V (V.bool (((nth (t.nd) (b).toNat)).lf))) ?_
    refine R_pickF (Eq.trans (@rfl V (V.bool ((!((nth (t.nd) (a).toNat)).lf)))) (bbF g9)) (@rfl V (V.bool ((!((nth (t.nd) (b).toNat)).lf)))) ?_
    exact ⟨t1, t2, t3, (Eq.trans (@rfl V (V.bool ((!((nth (t.nd) (b).toNat)).lf)))) (borF g9)), h3, trivial⟩
  intro T H ⟨t1, t2, t3, t51, h3, _⟩
  refine R_mv t51 ?_
  exact R_nil ⟨t1, t2, t3, rfl, h3, trivial⟩
 intro T H ⟨t1, t2, t3, t35, h3, _⟩
 refine W_ifb t35 (fun c10 => ?_) (fun c10 => ?_)
 ·
  have d4 : (nth t.nd a.toNat).lf = false ∨ (nth t.nd b.toNat).lf = false := by simpa using c10
  refine W_seq_regc (fun T H => T 6 = V.nilsl ∧ T 7 = (iV (10 : Int)) ∧ H 3 = (⟨1, true, false, 24, 1, [[(V.sl (List.map cN (t.nd)))]]⟩ : Blk) ∧ True) ?_ ?_
  ·
   unfold r28_11
   refine R_mv (@rfl V V.nilsl) ?_
   refine R_mv (@rfl V (iV (10 : Int))) ?_
   exact R_nil ⟨rfl, rfl, h3, trivial⟩
  intro T H ⟨t6, t7, h3, _⟩
  refine W_ret ?_
  refine y8 _ _ ?_
  refine Ret_2 t6 t7 (fz_nil ?_) (fz_int ?_)
  · unfold cmR; rw [if_neg (by unfold cmE; rw [if_neg (by omega), if_neg (by omega), if_pos d4]; decide)]
  · unfold cmE; rw [if_neg (by omega), if_neg (by omega), if_pos d4]
 have d4 : ¬((nth t.nd a.toNat).lf = false ∨ (nth t.nd b.toNat).lf = false) := by simpa using c10
 refine W_seq_regc (fun T H => T 1 = (iV (a)) ∧ T 2 = (iV (b)) ∧ T 3 = (V.mp 3 1 0 0) ∧ T 52 = (V.bool (decide ((a) = (b)))) ∧ H 3 = (⟨1, true, false, 24, 1, [[(V.sl (List.map cN (t.nd)))]]⟩ : Blk) ∧ True) ?_ ?_
 ·
  unfold r28_12
  refine R_mv t1 ?_
  refine R_mv t2 ?_
  refine R_eql (x := (a)) (y := (b)) (@rfl V (iV (a))) (@rfl V (iV (b))) ?_
  refine R_mv (@rfl V (V.bool (decide ((a) = (b))))) ?_
  exact R_nil ⟨t1, t2, t3, rfl, h3, trivial⟩
 intro T H ⟨t1, t2, t3, t52, h3, _⟩
 refine W_if (p := (a) = (b)) t52 (fun c11 => ?_) (fun c11 => ?_)
 ·
  have d5 := c11
  refine W_seq_regc (fun T H => T 6 = V.nilsl ∧ T 7 = (iV (8 : Int)) ∧ H 3 = (⟨1, true, false, 24, 1, [[(V.sl (List.map cN (t.nd)))]]⟩ : Blk) ∧ True) ?_ ?_
  ·
   unfold r28_13
   refine R_mv (@rfl V V.nilsl) ?_
   refine R_mv (@rfl V (iV (8 : Int))) ?_
   exact R_nil ⟨rfl, rfl, h3, trivial⟩
  intro T H ⟨t6, t7, h3, _⟩
  refine W_ret ?_
  refine y8 _ _ ?_
  refine Ret_2 t6 t7 (fz_nil ?_) (fz_int ?_)
  · unfold cmR; rw [if_neg (by unfold cmE; rw [if_neg (by omega), if_neg (by omega), if_neg d4, if_pos d5]; decide)]
  · unfold cmE; rw [if_neg (by omega), if_neg (by omega), if_neg d4, if_pos d5]
 have d5 := c11
 have p6 := pth_len t a
 have p1 := cmn_pos hv e1.1 e1.2 e2.1 e2.2
 have p2 := cmn_spec (pth t a) (pth t b)
 have p3 := pth_rng hv e1.1 e1.2 (show cmn (pth t a) (pth t b) - 1 < (pth t a).length by omega)
 have p4 := hb.sf _ (show (nth (pth t a) (cmn (pth t a) (pth t b) - 1)).toNat < t.nd.length by omega)
 have p5 : (((cmn (pth t a) (pth t b) : Nat) : Int) - (1 : Int)).toNat = cmn (pth t a) (pth t b) - 1 := by omega
 refine W_skip ?_
 refine n8 _ _ ?_
 refine .done ?_
 refine W_seq_regc (fun T H => T 3 = (V.mp 3 1 0 0) ∧ T 11 = (V.sl (List.map cI (pth t ((a))))) ∧ T 12 = (V.sl (List.map cI (pth t ((b))))) ∧ H 3 = (⟨1, true, false, 24, 1, [[(V.sl (List.map cN (t.nd)))]]⟩ : Blk) ∧ True) ?_ ?_
 ·
  unfold r28_14
  refine R_load_mp (v := (V.agg [(V.sl (List.map cN (t.nd)))])) t3 h3 (by first | rfl | simp [ldB, ldV, Blk.own, V.one]) ?_
  refine R_mv t1 ?_
  refine R_call (evcons (@rfl V (V.agg [(V.sl (List.map cN (t.nd)))])) (evcons (@rfl V (iV (a))) evnil)) (path_pure t ((a)) hv hb (by first | omega | assumption) (by first | omega | assumption)) (fzv_mapcanon _ _ (by simp [-List.map_take, -List.map_drop, -List.map_append, -List.map_reverse])) (by simp [-List.map_take, -List.map_drop, -List.map_append, -List.map_reverse]) (Or.inl (by simp [-List.map_take, -List.map_drop, -List.map_append, -List.map_reverse])) ?_
  refine R_load_mp (v := (V.agg [(V.sl (List.map cN (t.nd)))])) t3 h3 (by first | rfl | simp [ldB, ldV, Blk.own, V.one]) ?_
  refine R_mv t2 ?_
  refine R_call (evcons (@rfl V (V.agg [(V.sl (List.map cN (t.nd)))])) (evcons (@rfl V (iV (b))) evnil)) (path_pure t ((b)) hv hb (by first | omega | assumption) (by first | omega | assumption)) (fzv_mapcanon _ _ (by simp [-List.map_take, -List.map_drop, -List.map_append, -List.map_reverse])) (by simp [-List.map_take, -List.map_drop, -List.map_append, -List.map_reverse]) (Or.inl (by simp [-List.map_take, -List.map_drop, -List.map_append, -List.map_reverse])) ?_
  refine R_mv (@rfl V (V.sl (List.map cI (pth t ((a)))))) ?_
  refine R_mv (@rfl V (V.sl (List.map cI (pth t ((b)))))) ?_
  exact R_nil ⟨t3, rfl, rfl, h3, trivial⟩
 intro T H ⟨t3, t11, t12, h3, _⟩
 refine W_seq_regc (fun T H => T 3 = (V.mp 3 1 0 0) ∧ T 11 = (V.sl (List.map cI (pth t ((a))))) ∧ T 13 = (iV ((cmn (pth t ((a))) (pth t ((b))) : Nat) : Int)) ∧ H 3 = (⟨1, true, false, 24, 1, [[(V.sl (List.map cN (t.nd)))]]⟩ : Blk) ∧ True) ?_ ?_
 ·
  unfold r28_15
  refine R_mv t11 ?_
  refine R_mv t12 ?_
  have q12 := cmn_l (pth t ((a))) (pth t ((b)))
  have q13 := cmn_r (pth t ((a))) (pth t ((b)))
  refine R_call (evcons (@rfl V (V.sl (List.map cI (pth t ((a)))))) (evcons (@rfl V (V.sl (List.map cI (pth t ((b)))))) evnil)) (common_pure (pth t ((a))) (pth t ((b)))) (fzv_mapcanon _ _ (by simp [-List.map_take, -List.map_drop, -List.map_append, -List.map_reverse])) (by simp [-List.map_take, -List.map_drop, -List.map_append, -List.map_reverse]) (Or.inl (by simp [-List.map_take, -List.map_drop, -List.map_append, -List.map_reverse])) ?_
  refine R_mv (@rfl V (iV ((cmn (pth t ((a))) (pth t ((b))) : Nat) : Int))) ?_
  exact R_nil ⟨t3, t11, rfl, h3, trivial⟩
 intro T H ⟨t3, t11, t13, h3, _⟩
 have q14 := cmn_l (pth t ((a))) (pth t ((b)))
 have q15 := cmn_r (pth t ((a))) (pth t ((b)))
 refine W_seq_regc (fun T H => T 6 = (V.sl (List.map cI (cat ([((nth (t.nd) ((nth (pth t ((a))) (((cmn (pth t ((a))) (pth t ((b))) : Nat) : Int) - (1 : Int)).toNat)).toNat)).sf])))) ∧ T 7 = (iV (0 : Int)) ∧ H 3 = (⟨1, true, false, 24, 1, [[(V.sl (List.map cN (t.nd)))]]⟩ : Blk) ∧ True) ?_ ?_
 ·
  unfold r28_16
  refine R_fld_mp (o' := 0) t3 h3 (by first | rfl | simp [okB, Blk.own]) rfl ?_
  refine R_load_mp (v := (V.sl (List.map cN (t.nd)))) (@rfl V (V.mp 3 1 0 0)) h3 (by first | rfl | simp [ldB, ldV, Blk.own, V.one]) ?_
  refine R_mv t11 ?_
  refine R_mv t13 ?_
  refine R_sub (x := ((cmn (pth t ((a))) (pth t ((b))) : Nat) : Int)) (y := (1 : Int)) (@rfl V (iV ((cmn (pth t ((a))) (pth t ((b))) : Nat) : Int))) (@rfl V (iV (1 : Int))) (by first | omega | (rw [p5]; omega)) (by first | omega | (rw [p5]; omega)) ?_
  refine R_idxI (i := (((cmn (pth t ((a))) (pth t ((b))) : Nat) : Int) - (1 : Int))) (@rfl V (V.sl (List.map cI (pth t ((a)))))) (@rfl V (iV (((cmn (pth t ((a))) (pth t ((b))) : Nat) : Int) - (1 : Int)))) (by first | omega | (rw [p5]; omega)) (by first | omega | (rw [p5]; omega)) rfl ?_
  refine R_load_pp (v := (iV ((nth (pth t ((a))) (((cmn (pth t ((a))) (pth t ((b))) : Nat) : Int) - (1 : Int)).toNat)))) (@rfl V (V.pp [(iV ((nth (pth t ((a))) (((cmn (pth t ((a))) (pth t ((b))) : Nat) : Int) - (1 : Int)).toNat)))])) (by first | rfl | simp [ldV]) ?_
  refine R_idxI (i := ((nth (pth t ((a))) (((cmn (pth t ((a))) (pth t ((b))) : Nat) : Int) - (1 : Int)).toNat))) (@rfl V (V.sl (List.map cN (t.nd)))) (@rfl V (iV ((nth (pth t ((a))) (((cmn (pth t ((a))) (pth t ((b))) : Nat) : Int) - (1 : Int)).toNat)))) (by first | omega | (rw [p5]; omega)) (by first | omega | (rw [p5]; omega)) rfl ?_
  refine R_fld_pp (cs' := [(V.sl (List.map cI (((nth (t.nd) ((nth (pth t ((a))) (((cmn (pth t ((a))) (pth t ((b))) : Nat) : Int) - (1 : Int)).toNat)).toNat)).sf))), (V.sl (List.map cL (((nth (t.nd) ((nth (pth t ((a))) (((cmn (pth t ((a))) (pth t ((b))) : Nat) : Int) - (1 : Int)).toNat)).toNat)).ou))), (V.sl (List.map cI (((nth (t.nd) ((nth (pth t ((a))) (((cmn (pth t ((a))) (pth t ((b))) : Nat) : Int) - (1 : Int)).toNat)).toNat)).kd)))]) (@rfl V (V.pp [(V.bool (((nth (t.nd) ((nth (pth t ((a))) (((cmn (pth t ((a))) (pth t ((b))) : Nat) : Int) - (1 : Int)).toNat)).toNat)).lf)), (V.sl (List.map cI (((nth (t.nd) ((nth (pth t ((a))) (((cmn (pth t ((a))) (pth t ((b))) : Nat) : Int) - (1 : Int)).toNat)).toNat)).ac))), (V.sl (List.map cI (((nth (t.nd) ((nth (pth t ((a))) (((cmn (pth t ((a))) (pth t ((b))) : Nat) : Int) - (1 : Int)).toNat)).toNat)).sf))), (V.sl (List.map cL (((nth (t.nd) ((nth (pth t ((a))) (((cmn (pth t ((a))) (pth t ((b))) : Nat) : Int) - (1 : Int)).toNat)).toNat)).ou))), (V.sl (List.map cI (((nth (t.nd) ((nth (pth t ((a))) (((cmn (pth t ((a))) (pth t ((b))) : Nat) : Int) - (1 : Int)).toNat)).toNat)).kd)))])) rfl ?_
  refine R_load_pp (v := (V.sl (List.map cI (((nth (t.nd) ((nth (pth t ((a))) (((cmn (pth t ((a))) (pth t ((b))) : Nat) : Int) - (1 : Int)).toNat)).toNat)).sf)))) (@rfl V (V.pp [(V.sl (List.map cI (((nth (t.nd) ((nth (pth t ((a))) (((cmn (pth t ((a))) (pth t ((b))) : Nat) : Int) - (1 : Int)).toNat)).toNat)).sf))), (V.sl (List.map cL (((nth (t.nd) ((nth (pth t ((a))) (((cmn (pth t ((a))) (pth t ((b))) : Nat) : Int) - (1 : Int)).toNat)).toNat)).ou))), (V.sl (List.map cI (((nth (t.nd) ((nth (pth t ((a))) (((cmn (pth t ((a))) (pth t ((b))) : Nat) : Int) - (1 : Int)).toNat)).toNat)).kd)))])) (by first | rfl | simp [ldV]) ?_
  refine R_bslice (qs := [(0, (V.sl (List.map cI (((nth (t.nd) ((nth (pth t ((a))) (((cmn (pth t ((a))) (pth t ((b))) : Nat) : Int) - (1 : Int)).toNat)).toNat)).sf))))]) (rows := [[(V.sl (List.map cI (((nth (t.nd) ((nth (pth t ((a))) (((cmn (pth t ((a))) (pth t ((b))) : Nat) : Int) - (1 : Int)).toNat)).toNat)).sf)))]]) (mcons (congrArg (fun v => (0, v)) (@rfl V (V.sl (List.map cI (((nth (t.nd) ((nth (pth t ((a))) (((cmn (pth t ((a))) (pth t ((b))) : Nat) : Int) - (1 : Int)).toNat)).toNat)).sf))))) rfl) rfl ?_
  refine R_call (evcons (@rfl V (V.sl [[(V.sl (List.map cI (((nth (t.nd) ((nth (pth t ((a))) (((cmn (pth t ((a))) (pth t ((b))) : Nat) : Int) - (1 : Int)).toNat)).toNat)).sf)))]])) evnil) (pjoin_pure ([((nth (t.nd) ((nth (pth t ((a))) (((cmn (pth t ((a))) (pth t ((b))) : Nat) : Int) - (1 : Int)).toNat)).toNat)).sf]) (by rw [p5]; simp only [cat, List.append_nil]; omega)) (fzv_mapcanon _ _ (by simp [-List.map_take, -List.map_drop, -List.map_append, -List.map_reverse])) (by simp [-List.map_take, -List.map_drop, -List.map_append, -List.map_reverse]) (Or.inl (by simp [-List.map_take, -List.map_drop, -List.map_append, -List.map_reverse])) ?_
  refine R_mv (@rfl V (V.sl (List.map cI (cat ([((nth (t.nd) ((nth (pth t ((a))) (((cmn (pth t ((a))) (pth t ((b))) : Nat) : Int) - (1 : Int)).toNat)).toNat)).sf]))))) ?_
  refine R_mv (@rfl V (iV (0 : Int))) ?_
  exact R_nil ⟨rfl, rfl, h3, trivial⟩
 intro T H ⟨t6, t7, h3, _⟩
 refine W_ret ?_
 refine Ret_2 t6 t7 (fz_sl ?_ (fun _ => by simp)) (fz_int ?_)
 · have hE : cmE t a b = 0 := by unfold cmE; rw [if_neg (by omega), if_neg (by omega), if_neg d4, if_neg d5]
   unfold cmR cmS; rw [if_pos hE, p5]; simp [cat]
 · have hE : cmE t a b = 0 := by unfold cmE; rw [if_neg (by omega), if_neg (by omega), if_neg d4, if_neg d5]
   exact hE.symm
end Go.Proofs.YtmnjchcoigbngaaGreat


namespace Go.Proofs.YtmnjchcoigbngaaGreat
open Go Go.Proofs
def r30_0 : List SO := [
  ⟨none, some 2, .box 37 2 (.t 0)⟩,
  ⟨none, some 4, .mv (.c (.nilsl))⟩,
  ⟨none, some 5, .mv (.c (.bool false))⟩]
def r30_1 : List SO := [
  ⟨none, some 7, .mv (.t 1)⟩,
  ⟨none, some 8, .len (.t 7)⟩,
  ⟨none, some 9, .bin .eql (.t 8) (.c (.int .i64 0))⟩]
def r30_2 : List SO := [
  ⟨none, some 4, .mv (.c (.nilsl))⟩,
  ⟨none, some 5, .mv (.c (.bool true))⟩]
def r30_3 : List SO := [
  ⟨none, some 6, .mv (.c (.int .i64 0))⟩]
def r30_4 : List SO := [
  ⟨none, some 10, .mv (.t 6)⟩,
  ⟨none, some 11, .fld 1 (.t 2)⟩,
  ⟨none, some 12, .load false 1 (.t 11)⟩,
  ⟨none, some 13, .len (.t 12)⟩,
  ⟨none, some 14, .bin .lss (.t 10) (.t 13)⟩]
def r30_6 : List SO := [
  ⟨none, some 17, .fld 1 (.t 2)⟩,
  ⟨none, some 18, .load false 1 (.t 17)⟩,
  ⟨none, some 19, .mv (.t 6)⟩,
  ⟨none, some 20, .idx 2 (.t 18) (.t 19)⟩,
  ⟨none, some 21, .fld 0 (.t 20)⟩,
  ⟨none, some 22, .load false 1 (.t 21)⟩,
  ⟨none, some 23, .mv (.t 1)⟩,
  ⟨none, some 24, .call false 73 [.t 22, .t 23]⟩]
def r30_7 : List SO := [
  ⟨none, some 25, .fld 1 (.t 2)⟩,
  ⟨none, some 26, .load false 1 (.t 25)⟩,
  ⟨none, some 27, .mv (.t 6)⟩,
  ⟨none, some 28, .idx 2 (.t 26) (.t 27)⟩,
  ⟨none, some 29, .fld 1 (.t 28)⟩,
  ⟨none, some 30, .load false 1 (.t 29)⟩,
  ⟨none, some 31, .mv (.t 1)⟩,
  ⟨none, some 32, .len (.t 31)⟩,
  ⟨none, some 33, .slice 1 (.t 30) none (some (.t 32))⟩,
  ⟨none, some 34, .bslice 38 1 false [.nilsl] 1 [(0, .t 33)]⟩,
  ⟨none, some 35, .call false 31 [.t 34]⟩,
  ⟨none, some 4, .mv (.t 35)⟩,
  ⟨none, some 5, .mv (.c (.bool true))⟩]
def r30_5 : List SO := [
  ⟨none, some 15, .mv (.t 6)⟩,
  ⟨none, some 16, .bin .add (.t 15) (.c (.int .i64 1))⟩,
  ⟨none, some 6, .mv (.t 16)⟩]
def b30_0 : SC := .seq (.seq (.reg r30_4) (.cond (.t 14) (.skip) (.exit 0))) (.seq (.block 1 (.seq (.reg r30_6) (.cond (.t 24) (.seq (.reg r30_7) (.ret)) (.skip)))) (.reg r30_5))
def r30_8 : List SO := [
  ⟨none, some 4, .mv (.c (.nilsl))⟩,
  ⟨none, some 5, .mv (.c (.bool false))⟩]
def s30 : SF := ⟨36, [.tmp 4, .tmp 5], .seq (.reg r30_0) (.seq (.seq (.reg r30_1) (.cond (.t 9) (.seq (.reg r30_2) (.ret)) (.skip))) (.seq (.seq (.reg r30_3) (.block 0 (.loop b30_0))) (.seq (.reg r30_8) (.ret))))⟩
theorem s30_ok : slimF Tryz.prog ⟨[57, 58, 59, 63, 67, 68, 77, 102, 103, 104, 110, 116, 120], []⟩ Tryz.f30 = some s30 := by kernel_rfl
end Go.Proofs.YtmnjchcoigbngaaGreat


namespace Go.Proofs.YtmnjchcoigbngaaGreat
open Go Go.Proofs
def r31_0 : List SO := [
  ⟨none, some 2, .mv (.c (.nilsl))⟩]
def r31_1 : List SO := [
  ⟨none, some 3, .lazy 3 1⟩]
def r31_2 : List SO := [
  ⟨none, some 4, .mv (.c (.int .i64 0))⟩]
def r31_3 : List SO := [
  ⟨none, some 5, .mv (.t 4)⟩,
  ⟨none, some 6, .mv (.t 0)⟩,
  ⟨none, some 7, .len (.t 6)⟩,
  ⟨none, some 8, .bin .lss (.t 5) (.t 7)⟩]
def r31_5 : List SO := [
  ⟨none, some 11, .mv (.t 3)⟩,
  ⟨none, some 12, .mv (.t 0)⟩,
  ⟨none, some 13, .mv (.t 4)⟩,
  ⟨none, some 14, .idx 1 (.t 12) (.t 13)⟩,
  ⟨none, some 15, .load false 1 (.t 14)⟩,
  ⟨none, some 16, .append 3 1 8 (.t 11) (.t 15)⟩,
  ⟨none, some 3, .mv (.t 16)⟩]
def r31_4 : List SO := [
  ⟨none, some 9, .mv (.t 4)⟩,
  ⟨none, some 10, .bin .add (.t 9) (.c (.int .i64 1))⟩,
  ⟨none, some 4, .mv (.t 10)⟩]
def b31_0 : SC := .seq (.seq (.reg r31_3) (.cond (.t 8) (.skip) (.exit 0))) (.seq (.block 1 (.reg r31_5)) (.reg r31_4))
def r31_6 : List SO := [
  ⟨none, some 17, .mv (.t 3)⟩,
  ⟨none, some 2, .mv (.t 17)⟩]
def s31 : SF := ⟨18, [.tmp 2], .seq (.reg r31_0) (.seq (.reg r31_1) (.seq (.seq (.reg r31_2) (.block 0 (.loop b31_0))) (.seq (.reg r31_6) (.ret))))⟩
theorem s31_ok : slimF Tryz.prog ⟨[57, 58, 59, 63, 67, 68, 77, 102, 103, 104, 110, 116, 120], [3]⟩ Tryz.f31 = some s31 := by kernel_rfl
end Go.Proofs.YtmnjchcoigbngaaGreat


namespace Go.Proofs.YtmnjchcoigbngaaGreat
open Go Go.Proofs
theorem join_pure (l : List (List Int)) (hs : (cat l).length ≤ 17592186044416) : PureC Tryz.prog 31 [(V.sl (List.map cL (l)))] (V.sl (List.map cI (cat l))) := by
 refine pure_of_Wb true 6 Tryz.func31 s31_ok (by kernel_rfl) (by simp [s31]) (by simp) (by simp) fun hB => ?_
 simp only [bnd_map, bnd_int, bnd_bool, bnd_str, bnd_agg, bnd_pp, bnd_nil, bnd_cons, implies_true, and_true, true_and] at hB
 unfold s31
 dsimp only
 refine W_seq_regc (fun T H => T 0 = (V.sl (List.map cL (l))) ∧ H 3 = (⟨0, false, false, 0, 0, []⟩ : Blk) ∧ True) ?_ ?_
 ·
  unfold r31_0
  refine R_mv (@rfl V V.nilsl) ?_
  exact R_nil ⟨rfl, rfl, trivial⟩
 intro T H ⟨t0, h3, _⟩
 refine W_seq_regc (fun T H => T 0 = (V.sl (List.map cL (l))) ∧ T 3 = (V.ms 3 1 0 (0)) ∧ H 3 = (⟨1, true, true, 3, 1, []⟩ : Blk) ∧ True) ?_ ?_
 ·
  unfold r31_1
  refine R_lazy (i := 3) (n := 0) rfl (congrArg Blk.ver h3) ?_
  exact R_nil ⟨t0, rfl, rfl, trivial⟩
 intro T H ⟨t0, t3, h3, _⟩
 refine W_seq_seq ?_
 refine W_seq_regc (fun T H => T 0 = (V.sl (List.map cL (l))) ∧ T 3 = (V.ms 3 1 0 (0)) ∧ T 4 = (iV (0 : Int)) ∧ H 3 = (⟨1, true, true, 3, 1, []⟩ : Blk) ∧ True) ?_ ?_
 ·
  unfold r31_2
  refine R_mv (@rfl V (iV (0 : Int))) ?_
  exact R_nil ⟨t0, t3, rfl, h3, trivial⟩
 intro T H ⟨t0, t3, t4, h3, _⟩
 refine W_seq_blockg fun Q1 n1 x1 y1 z1 => ?_
 refine W_loop (fun mm T H => ∃ (k : Nat), mm = l.length - k ∧ T 0 = (V.sl (List.map cL (l))) ∧ T 3 = (V.ms 3 (1 + k) 0 ((cat (l.take k)).length)) ∧ T 4 = (iV ((k : Nat) : Int)) ∧ H 3 = (⟨1 + k, true, true, 3, 1, (List.map cI (cat (l.take k)))⟩ : Blk) ∧ (k ≤ l.length)) ?_ ?_
 ·
  refine ⟨_, 0, rfl, t0, (Eq.trans t3 (by first | rfl | (rw [cat_take (by omega), List.length_append]; rfl))), (Eq.trans t4 (by first | rfl | (rw [cat_take (by omega), List.length_append]; rfl))), (Eq.trans h3 (by first | rfl | (rw [cat_take (by omega)]; rfl))), ?_⟩
  · omega
 intro mm T H ⟨k, hmm, t0, t3, t4, h3, hk⟩ Q2 p12 p22 p32
 unfold b31_0
 refine W_seq_seq ?_
 refine W_seq_regc (fun T H => T 0 = (V.sl (List.map cL (l))) ∧ T 3 = (V.ms 3 (1 + k) 0 ((cat (l.take k)).length)) ∧ T 4 = (iV ((k : Nat) : Int)) ∧ T 8 = (V.bool (decide (((k : Nat) : Int) < ((l.length : Nat) : Int)))) ∧ H 3 = (⟨1 + k, true, true, 3, 1, (List.map cI (cat (l.take k)))⟩ : Blk) ∧ True) ?_ ?_
 ·
  unfold r31_3
  refine R_mv t4 ?_
  refine R_mv t0 ?_
  refine R_len (@rfl V (V.sl (List.map cL (l)))) ?_
  refine R_lss (x := ((k : Nat) : Int)) (y := ((l.length : Nat) : Int)) (@rfl V (iV ((k : Nat) : Int))) (@rfl V (iV ((l.length : Nat) : Int))) ?_
  exact R_nil ⟨t0, t3, t4, rfl, h3, trivial⟩
 intro T H ⟨t0, t3, t4, t8, h3, _⟩
 refine W_seq_if (p := ((k : Nat) : Int) < ((l.length : Nat) : Int)) t8 (fun c3 => ?_) (fun c3 => ?_)
 ·
  have hq := cat_take_le (l := l) (k := k) (by omega)
  refine W_seq_skip ?_
  refine W_seq_blockg fun Q4 n4 x4 y4 z4 => ?_
  refine W_regc (fun T H => T 0 = (V.sl (List.map cL (l))) ∧ T 3 = (V.ms 3 (1 + k + 1) 0 (((cat (l.take k)).length) + ((nth (l) (k))).length)) ∧ T 4 = (iV ((k : Nat) : Int)) ∧ H 3 = (⟨1 + k + 1, true, true, 3, 1, (List.map cI (cat (l.take k) ++ ((nth (l) (k)))))⟩ : Blk) ∧ True) ?_ ?_
  ·
   unfold r31_5
   refine R_mv t3 ?_
   refine R_mv t0 ?_
   refine R_mv t4 ?_
   refine R_idx (i := k) (@rfl V (V.sl (List.map cL (l)))) (@rfl V (iV ((k : Nat) : Int))) (by omega) rfl ?_
   refine R_load_pp (v := (V.sl (List.map cI ((nth (l) (k)))))) (@rfl V (V.pp [(V.sl (List.map cI ((nth (l) (k)))))])) (by first | rfl | simp [ldV]) ?_
   refine R_appendS (l := (cat (l.take k))) (m := ((nth (l) (k)))) (f := cI) (@rfl V (V.ms 3 (1 + k) 0 ((cat (l.take k)).length))) h3 (by first | rfl | simp) (@rfl V (V.sl (List.map cI ((nth (l) (k)))))) (fun _ => rfl) (fun _ => rfl) (by omega) (by omega) ?_
   refine R_mv (@rfl V (V.ms 3 (1 + k + 1) 0 (((cat (l.take k)).length) + ((nth (l) (k))).length))) ?_
   exact R_nil ⟨t0, rfl, t4, rfl, trivial⟩
  intro T H ⟨t0, t3, t4, h3, _⟩
  refine n4 _ _ ?_
  refine .done ?_
  refine W_regc (fun T H => T 0 = (V.sl (List.map cL (l))) ∧ T 3 = (V.ms 3 (1 + k + 1) 0 (((cat (l.take k)).length) + ((nth (l) (k))).length)) ∧ T 4 = (iV ((k + 1 : Nat) : Int)) ∧ H 3 = (⟨1 + k + 1, true, true, 3, 1, (List.map cI (cat (l.take k) ++ ((nth (l) (k)))))⟩ : Blk) ∧ True) ?_ ?_
  ·
   unfold r31_4
   refine R_mv t4 ?_
   refine R_addN (m := k) (n := 1) (@rfl V (iV ((k : Nat) : Int))) (@rfl V (iV ((1 : Nat) : Int))) (by omega) ?_
   refine R_mv (@rfl V (iV ((k + 1 : Nat) : Int))) ?_
   exact R_nil ⟨t0, t3, rfl, h3, trivial⟩
  intro T H ⟨t0, t3, t4, h3, _⟩
  refine p12 _ _ _ ?_ ⟨(k + 1), rfl, t0, (Eq.trans t3 (by first | rfl | (rw [cat_take (by omega), List.length_append]; rfl))), (Eq.trans t4 (by first | rfl | (rw [cat_take (by omega), List.length_append]; rfl))), (Eq.trans h3 (by first | rfl | (rw [cat_take (by omega)]; rfl))), ?_⟩
  · omega
  · omega
 refine W_seq_exit ?_
 refine p32 _ _ _ ?_
 refine x1 _ _ ?_
 refine .done ?_
 refine W_seq_regc (fun T H => T 2 = (V.ms 3 (1 + k) 0 ((cat (l.take k)).length)) ∧ H 3 = (⟨1 + k, true, true, 3, 1, (List.map cI (cat (l.take k)))⟩ : Blk) ∧ True) ?_ ?_
 ·
  unfold r31_6
  refine R_mv t3 ?_
  refine R_mv (@rfl V (V.ms 3 (1 + k) 0 ((cat (l.take k)).length))) ?_
  exact R_nil ⟨rfl, h3, trivial⟩
 intro T H ⟨t2, h3, _⟩
 refine W_ret ?_
 refine Ret_1 t2 (fz_ms h3 (by first | rfl | simp) (l := (cat (l.take k))) rfl (by first | rfl | simp) (fun _ => by simp) ?_)
 · (have e : k = l.length := (by omega); subst e; rw [List.take_length])
end Go.Proofs.YtmnjchcoigbngaaGreat


namespace Go.Proofs.YtmnjchcoigbngaaGreat
open Go Go.Proofs
theorem ranswer_pure (o : Ob) (w : List Int) (ho : oval o = 0) : PureC Tryz.prog 30 [(V.agg [(iV (o.i)), (V.sl (List.map cT (o.tr)))]), (V.sl (List.map cI (w)))] (V.tup [(V.sl (List.map cI ((ans o w).getD []))), (V.bool ((ans o w).isSome))]) := by
 refine pure_of_Wb true 6 Tryz.func30 s30_ok (by kernel_rfl) (by simp [s30]) (by simp) (by simp) fun hB => ?_
 simp only [bnd_map, bnd_int, bnd_bool, bnd_str, bnd_agg, bnd_pp, bnd_nil, bnd_cons, implies_true, and_true, true_and] at hB
 unfold s30
 dsimp only
 have u2 := oval_ok ho
 refine W_seq_regc (fun T H => T 1 = (V.sl (List.map cI (w))) ∧ T 2 = (V.mp 2 1 0 0) ∧ H 2 = (⟨1, true, false, 37, 2, [[(iV (o.i)), (V.sl (List.map cT (o.tr)))]]⟩ : Blk) ∧ True) ?_ ?_
 ·
  unfold r30_0
  refine R_box (i := 2) (n := 0) (m := 2) (cs := [(iV (o.i)), (V.sl (List.map cT (o.tr)))]) rfl (congrArg Blk.ver rfl) (@rfl V (V.agg [(iV (o.i)), (V.sl (List.map cT (o.tr)))])) rfl rfl ?_
  refine R_mv (@rfl V V.nilsl) ?_
  refine R_mv (@rfl V (V.bool false)) ?_
  exact R_nil ⟨rfl, rfl, rfl, trivial⟩
 intro T H ⟨t1, t2, h2, _⟩
 refine W_seq_seq ?_
 refine W_seq_regc (fun T H => T 1 = (V.sl (List.map cI (w))) ∧ T 2 = (V.mp 2 1 0 0) ∧ T 9 = (V.bool (decide (((w.length : Nat) : Int) = (0 : Int)))) ∧ H 2 = (⟨1, true, false, 37, 2, [[(iV (o.i)), (V.sl (List.map cT (o.tr)))]]⟩ : Blk) ∧ True) ?_ ?_
 ·
  unfold r30_1
  refine R_mv t1 ?_
  refine R_len (@rfl V (V.sl (List.map cI (w)))) ?_
  refine R_eql (x := ((w.length : Nat) : Int)) (y := (0 : Int)) (@rfl V (iV ((w.length : Nat) : Int))) (@rfl V (iV (0 : Int))) ?_
  exact R_nil ⟨t1, t2, rfl, h2, trivial⟩
 intro T H ⟨t1, t2, t9, h2, _⟩
 refine W_seq_if (p := ((w.length : Nat) : Int) = (0 : Int)) t9 (fun c1 => ?_) (fun c1 => ?_)
 ·
  refine W_seq_seq ?_
  refine W_seq_regc (fun T H => T 4 = V.nilsl ∧ T 5 = (V.bool true) ∧ H 2 = (⟨1, true, false, 37, 2, [[(iV (o.i)), (V.sl (List.map cT (o.tr)))]]⟩ : Blk) ∧ True) ?_ ?_
  ·
   unfold r30_2
   refine R_mv (@rfl V V.nilsl) ?_
   refine R_mv (@rfl V (V.bool true)) ?_
   exact R_nil ⟨rfl, rfl, h2, trivial⟩
  intro T H ⟨t4, t5, h2, _⟩
  refine W_seq_ret ?_
  refine Ret_2 t4 t5 (fz_nil ?_) (fz_bool ?_)
  · rw [List.length_eq_zero_iff.1 (show w.length = 0 by omega)]; rfl
  · rw [List.length_eq_zero_iff.1 (show w.length = 0 by omega)]; rfl
 refine W_seq_skip ?_
 refine W_seq_seq ?_
 refine W_seq_regc (fun T H => T 1 = (V.sl (List.map cI (w))) ∧ T 2 = (V.mp 2 1 0 0) ∧ T 6 = (iV (0 : Int)) ∧ H 2 = (⟨1, true, false, 37, 2, [[(iV (o.i)), (V.sl (List.map cT (o.tr)))]]⟩ : Blk) ∧ True) ?_ ?_
 ·
  unfold r30_3
  refine R_mv (@rfl V (iV (0 : Int))) ?_
  exact R_nil ⟨t1, t2, rfl, h2, trivial⟩
 intro T H ⟨t1, t2, t6, h2, _⟩
 refine W_seq_blockg fun Q2 n2 x2 y2 z2 => ?_
 refine W_loop (fun mm T H => ∃ (k : Nat), mm = o.tr.length - k ∧ T 1 = (V.sl (List.map cI (w))) ∧ T 2 = (V.mp 2 1 0 0) ∧ T 6 = (iV ((k : Nat) : Int)) ∧ H 2 = (⟨1, true, false, 37, 2, [[(iV (o.i)), (V.sl (List.map cT (o.tr)))]]⟩ : Blk) ∧ (k ≤ o.tr.length) ∧ (w ≠ []) ∧ (ansL o.tr w = ansL (o.tr.drop k) w)) ?_ ?_
 ·
  refine ⟨_, 0, rfl, t1, t2, (Eq.trans t6 (by first | rfl | simp)), h2, ?_, ?_, ?_⟩
  · omega
  · intro e; subst e; simp at *
  · rfl
 intro mm T H ⟨k, hmm, t1, t2, t6, h2, hk, hw, hc⟩ Q3 p13 p23 p33
 unfold b30_0
 refine W_seq_seq ?_
 refine W_seq_regc (fun T H => T 1 = (V.sl (List.map cI (w))) ∧ T 2 = (V.mp 2 1 0 0) ∧ T 6 = (iV ((k : Nat) : Int)) ∧ T 14 = (V.bool (decide (((k : Nat) : Int) < ((o.tr.length : Nat) : Int)))) ∧ H 2 = (⟨1, true, false, 37, 2, [[(iV (o.i)), (V.sl (List.map cT (o.tr)))]]⟩ : Blk) ∧ True) ?_ ?_
 ·
  unfold r30_4
  refine R_mv t6 ?_
  refine R_fld_mp (o' := 1) t2 h2 (by first | rfl | simp [okB, Blk.own]) rfl ?_
  refine R_load_mp (v := (V.sl (List.map cT (o.tr)))) (@rfl V (V.mp 2 1 0 1)) h2 (by first | rfl | simp [ldB, ldV, Blk.own, V.one]) ?_
  refine R_len (@rfl V (V.sl (List.map cT (o.tr)))) ?_
  refine R_lss (x := ((k : Nat) : Int)) (y := ((o.tr.length : Nat) : Int)) (@rfl V (iV ((k : Nat) : Int))) (@rfl V (iV ((o.tr.length : Nat) : Int))) ?_
  exact R_nil ⟨t1, t2, t6, rfl, h2, trivial⟩
 intro T H ⟨t1, t2, t6, t14, h2, _⟩
 refine W_seq_if (p := ((k : Nat) : Int) < ((o.tr.length : Nat) : Int)) t14 (fun c4 => ?_) (fun c4 => ?_)
 ·
  refine W_seq_skip ?_
  refine W_seq_blockg fun Q5 n5 x5 y5 z5 => ?_
  refine W_seq_regc (fun T H => T 1 = (V.sl (List.map cI (w))) ∧ T 2 = (V.mp 2 1 0 0) ∧ T 6 = (iV ((k : Nat) : Int)) ∧ T 24 = (V.bool (hp ((nth (o.tr) (k)).ni) w)) ∧ H 2 = (⟨1, true, false, 37, 2, [[(iV (o.i)), (V.sl (List.map cT (o.tr)))]]⟩ : Blk) ∧ True) ?_ ?_
  ·
   unfold r30_6
   refine R_fld_mp (o' := 1) t2 h2 (by first | rfl | simp [okB, Blk.own]) rfl ?_
   refine R_load_mp (v := (V.sl (List.map cT (o.tr)))) (@rfl V (V.mp 2 1 0 1)) h2 (by first | rfl | simp [ldB, ldV, Blk.own, V.one]) ?_
   refine R_mv t6 ?_
   refine R_idx (i := k) (@rfl V (V.sl (List.map cT (o.tr)))) (@rfl V (iV ((k : Nat) : Int))) (by omega) rfl ?_
   refine R_fld_pp (cs' := [(V.sl (List.map cI ((nth (o.tr) (k)).ni))), (V.sl (List.map cI ((nth (o.tr) (k)).no)))]) (@rfl V (V.pp [(V.sl (List.map cI ((nth (o.tr) (k)).ni))), (V.sl (List.map cI ((nth (o.tr) (k)).no)))])) rfl ?_
   refine R_load_pp (v := (V.sl (List.map cI ((nth (o.tr) (k)).ni)))) (@rfl V (V.pp [(V.sl (List.map cI ((nth (o.tr) (k)).ni))), (V.sl (List.map cI ((nth (o.tr) (k)).no)))])) (by first | rfl | simp [ldV]) ?_
   refine R_mv t1 ?_
   refine R_call (evcons (@rfl V (V.sl (List.map cI ((nth (o.tr) (k)).ni)))) (evcons (@rfl V (V.sl (List.map cI (w)))) evnil)) (rhp_pure ((nth (o.tr) (k)).ni) w) (fzv_mapcanon _ _ (by simp [-List.map_take, -List.map_drop, -List.map_append, -List.map_reverse])) (by simp [-List.map_take, -List.map_drop, -List.map_append, -List.map_reverse]) (Or.inl (by simp [-List.map_take, -List.map_drop, -List.map_append, -List.map_reverse])) ?_
   exact R_nil ⟨t1, t2, t6, rfl, h2, trivial⟩
  intro T H ⟨t1, t2, t6, t24, h2, _⟩
  refine W_ifb t24 (fun c6 => ?_) (fun c6 => ?_)
  ·
   have d1 := c6
   have d2 := hp_len c6
   have d3 := (u2.pr k (by omega)).1.len
   have d4 := (u2.pr k (by omega)).1.lel
   have d5 : ans o w = some ((nth o.tr k).no.take w.length) := by rw [ans, if_neg hw, hc, nth_drop (by omega), ansL, if_pos d1]
   refine W_seq_regc (fun T H => T 4 = (V.sl (List.map cI (cat ([List.take (w.length) ((nth (o.tr) (k)).no)])))) ∧ T 5 = (V.bool true) ∧ H 2 = (⟨1, true, false, 37, 2, [[(iV (o.i)), (V.sl (List.map cT (o.tr)))]]⟩ : Blk) ∧ True) ?_ ?_
   ·
    unfold r30_7
    refine R_fld_mp (o' := 1) t2 h2 (by first | rfl | simp [okB, Blk.own]) rfl ?_
    refine R_load_mp (v := (V.sl (List.map cT (o.tr)))) (@rfl V (V.mp 2 1 0 1)) h2 (by first | rfl | simp [ldB, ldV, Blk.own, V.one]) ?_
    refine R_mv t6 ?_
    refine R_idx (i := k) (@rfl V (V.sl (List.map cT (o.tr)))) (@rfl V (iV ((k : Nat) : Int))) (by omega) rfl ?_
    refine R_fld_pp (cs' := [(V.sl (List.map cI ((nth (o.tr) (k)).no)))]) (@rfl V (V.pp [(V.sl (List.map cI ((nth (o.tr) (k)).ni))), (V.sl (List.map cI ((nth (o.tr) (k)).no)))])) rfl ?_
    refine R_load_pp (v := (V.sl (List.map cI ((nth (o.tr) (k)).no)))) (@rfl V (V.pp [(V.sl (List.map cI ((nth (o.tr) (k)).no)))])) (by first | rfl | simp [ldV]) ?_
    refine R_mv t1 ?_
    refine R_len (@rfl V (V.sl (List.map cI (w)))) ?_
    refine R_slice_hi (n := w.length) (@rfl V (V.sl (List.map cI ((nth (o.tr) (k)).no)))) (@rfl V (iV ((w.length : Nat) : Int))) (by omega) (fun _ => rfl) ?_
    refine R_bslice (qs := [(0, (V.sl (List.map cI (List.take (w.length) ((nth (o.tr) (k)).no)))))]) (rows := [[(V.sl (List.map cI (List.take (w.length) ((nth (o.tr) (k)).no))))]]) (mcons (congrArg (fun v => (0, v)) (@rfl V (V.sl (List.map cI (List.take (w.length) ((nth (o.tr) (k)).no)))))) rfl) rfl ?_
    refine R_call (evcons (@rfl V (V.sl [[(V.sl (List.map cI (List.take (w.length) ((nth (o.tr) (k)).no))))]])) evnil) (join_pure ([List.take (w.length) ((nth (o.tr) (k)).no)]) (by simp [cat]; omega)) (fzv_mapcanon _ _ (by simp [-List.map_take, -List.map_drop, -List.map_append, -List.map_reverse])) (by simp [-List.map_take, -List.map_drop, -List.map_append, -List.map_reverse]) (Or.inl (by simp [-List.map_take, -List.map_drop, -List.map_append, -List.map_reverse])) ?_
    refine R_mv (@rfl V (V.sl (List.map cI (cat ([List.take (w.length) ((nth (o.tr) (k)).no)]))))) ?_
    refine R_mv (@rfl V (V.bool true)) ?_
    exact R_nil ⟨rfl, rfl, h2, trivial⟩
   intro T H ⟨t4, t5, h2, _⟩
   refine W_ret ?_
   refine y5 _ _ ?_
   refine p23 _ _ ?_
   refine y2 _ _ ?_
   refine Ret_2 t4 t5 (fz_sl ?_ (fun _ => by simp)) (fz_bool ?_)
   · rw [d5]; simp [cat]
   · rw [d5]; rfl
  have d1 := c6
  refine W_skip ?_
  refine n5 _ _ ?_
  refine .done ?_
  refine W_regc (fun T H => T 1 = (V.sl (List.map cI (w))) ∧ T 2 = (V.mp 2 1 0 0) ∧ T 6 = (iV ((k + 1 : Nat) : Int)) ∧ H 2 = (⟨1, true, false, 37, 2, [[(iV (o.i)), (V.sl (List.map cT (o.tr)))]]⟩ : Blk) ∧ True) ?_ ?_
  ·
   unfold r30_5
   refine R_mv t6 ?_
   refine R_addN (m := k) (n := 1) (@rfl V (iV ((k : Nat) : Int))) (@rfl V (iV ((1 : Nat) : Int))) (by omega) ?_
   refine R_mv (@rfl V (iV ((k + 1 : Nat) : Int))) ?_
   exact R_nil ⟨t1, t2, rfl, h2, trivial⟩
  intro T H ⟨t1, t2, t6, h2, _⟩
  refine p13 _ _ _ ?_ ⟨(k + 1), rfl, t1, t2, (Eq.trans t6 (by first | rfl | simp)), h2, ?_, ?_, ?_⟩
  · omega
  · omega
  · omega
  · rw [hc, nth_drop (by omega), ansL, if_neg (by simp [d1])]
 refine W_seq_exit ?_
 refine p33 _ _ _ ?_
 refine x2 _ _ ?_
 refine .done ?_
 refine W_seq_regc (fun T H => T 4 = V.nilsl ∧ T 5 = (V.bool false) ∧ H 2 = (⟨1, true, false, 37, 2, [[(iV (o.i)), (V.sl (List.map cT (o.tr)))]]⟩ : Blk) ∧ True) ?_ ?_
 ·
  unfold r30_8
  refine R_mv (@rfl V V.nilsl) ?_
  refine R_mv (@rfl V (V.bool false)) ?_
  exact R_nil ⟨rfl, rfl, h2, trivial⟩
 intro T H ⟨t4, t5, h2, _⟩
 refine W_ret ?_
 refine Ret_2 t4 t5 (fz_nil ?_) (fz_bool ?_)
 · rw [ans, if_neg hw, hc, List.drop_of_length_le (by omega)]; rfl
 · rw [ans, if_neg hw, hc, List.drop_of_length_le (by omega)]; rfl
end Go.Proofs.YtmnjchcoigbngaaGreat


namespace Go.Proofs.YtmnjchcoigbngaaGreat
structure Sp (t : Dt) (o : Ob) (w : List Int) (m a : Int) : Prop where
  lf : (nth t.nd m.toNat).lf = false
  kn : (ans o (cat [w, (nth t.nd m.toNat).sf])).isSome = true
  ex : lxH (nth t.nd m.toNat).ou (((ans o (cat [w, (nth t.nd m.toNat).sf])).getD []).drop w.length)
  to : a = nth (nth t.nd m.toNat).kd (lxN (nth t.nd m.toNat).ou (((ans o (cat [w, (nth t.nd m.toNat).sf])).getD []).drop w.length))
inductive Bw (t : Dt) (o : Ob) (w : List Int) : List Int → Prop where
  | root : Bw t o w [0]
  | step {a m : Int} {l : List Int} (h : Bw t o w (m :: l)) (hs : Sp t o w m a) : Bw t o w (a :: m :: l)
section
variable {t : Dt} {o : Ob} {w : List Int}
theorem Sp.kid (hv : dvE t = 0) {m a : Int} (h0 : 0 ≤ m) (h1 : m < t.nd.length) (h : Sp t o w m a) : a ∈ (nth t.nd m.toNat).kd := by
  rw [h.to]
  exact nth_mem (by have := (nd_in hv (show m.toNat < t.nd.length by omega) h.lf).len; have := h.ex.1; omega)
theorem Bw.rng (hv : dvE t = 0) : ∀ {l : List Int}, Bw t o w l → ∀ a ∈ l, 0 ≤ a ∧ a < t.nd.length := by
  intro l h
  induction h with
  | root => intro a ha; rw [List.mem_singleton.1 ha]; have := (dv_ok hv).1; omega
  | step h hs ih =>
    rename_i a m l
    intro b hb
    rcases List.mem_cons.1 hb with rfl | hb
    · have hm := ih m (by simp)
      exact (dv_ki hv).rng m.toNat (by omega) _ (hs.kid hv hm.1 hm.2)
    · exact ih b hb
theorem sft_bw (hv : dvE t = 0) {a : Int} : ∀ {f n : Nat} {l : List Int}, Rk t f n → Bw t o w ((n : Int) :: l) → sftN t o w f n = (a, [], 0) → ∃ l', Bw t o w (a :: l') := by
  intro f
  induction f with
  | zero => intro n l hr; have := hr.pos; omega
  | succ f ih =>
    intro n l hr hb hs
    cases hl : (nth t.nd n).lf with
    | true => rw [sft_leaf (by omega) hl] at hs; cases hs; exact ⟨l, hb⟩
    | false =>
      have hin := nd_in hv (hr.lt hv) hl
      by_cases h1 : wchk (cat [w, (nth t.nd n).sf]) o.i ≠ 0
      · rw [sft_err (by omega) hl h1] at hs
        simp only [Prod.mk.injEq] at hs
        exact (h1 hs.2.2).elim
      · cases h2 : (ans o (cat [w, (nth t.nd n).sf])).isSome with
        | false =>
          rw [sft_ask (by omega) hl h1 h2] at hs
          simp only [Prod.mk.injEq] at hs
          have h5 := congrArg List.length hs.2.1
          have h6 := hin.s0
          simp only [cat, List.append_nil, List.length_append, List.length_nil] at h5
          omega
        | true =>
          by_cases h3 : lxH (nth t.nd n).ou (((ans o (cat [w, (nth t.nd n).sf])).getD []).drop w.length)
          · rw [sft_go (by omega) hl h1 h2 h3] at hs
            have hk : nth (nth t.nd n).kd (lxN (nth t.nd n).ou (((ans o (cat [w, (nth t.nd n).sf])).getD []).drop w.length)) ∈ (nth t.nd n).kd := nth_mem (by have := hin.len; have := h3.1; omega)
            have h0 := (hin.kr _ hk).1
            refine ih (hr.step hk h0) (l := n :: l) ?_ hs
            rw [Int.toNat_of_nonneg h0]
            exact .step hb ⟨by simpa using hl, by simpa using h2, by simpa using h3, by simp⟩
          · rw [sft_no (by omega) hl h1 h2 h3] at hs; cases hs; exact ⟨l, hb⟩
theorem bw_up (hv : dvE t = 0) : ∀ {l : List Int}, Bw t o w l → ∀ {f : Nat} {a : Int} {r : List Int}, l = a :: r → Up t f a → upN t f a = l := by
  intro l h
  induction h with
  | root => intro f a r e _; cases e; exact up_zero t f
  | step h hs ih =>
    rename_i a m l
    intro f b r e hu
    cases e
    have hm := h.rng hv m (by simp)
    have hk := hs.kid hv hm.1 hm.2
    have hb : a ≠ 0 := by
      obtain ⟨P, hP⟩ := dv_line hv
      obtain ⟨s, g1, g2⟩ := hP.all (dv_ki hv) hm.1 hm.2
      obtain ⟨s', g3, g4, g5⟩ := hP.kid g1 (a := a) (by rw [g2]; exact hk)
      intro e
      have := nd_inj hP.2.1 g4 (show 0 < P.length by omega) (by rw [g5, e, hP.head.1])
      omega
    have hp := par_of hv hm.1 hm.2 hk
    have hu' := (hu.par hv hb).1
    rw [hp] at hu'
    rw [up_go (hu.pos hb) hb, hp, ih rfl hu']
theorem bw_step : ∀ {l : List Int}, Bw t o w l → ∀ {k : Nat}, k + 1 < l.length → Sp t o w (nth l.reverse k) (nth l.reverse (k + 1)) := by
  intro l h
  induction h with
  | root => intro k hk; simp at hk
  | step h hs ih =>
    rename_i a m l
    intro k hk
    have e : (a :: m :: l).reverse = (m :: l).reverse ++ [a] := List.reverse_cons
    have hlen : (m :: l).reverse.length = l.length + 1 := by simp
    rw [e]
    simp only [List.length_cons] at hk
    by_cases q : k + 1 < (m :: l).length
    · rw [nth_app_l (by simp at q ⊢; omega), nth_app_l (by simp at q ⊢; omega)]; exact ih q
    · have hk' : k = l.length := by simp at q; omega
      have e1 : nth ((m :: l).reverse ++ [a]) k = m := by
        rw [nth_app_l (by rw [hlen]; omega), show (m :: l).reverse = l.reverse ++ [m] from List.reverse_cons, show k = l.reverse.length + 0 by simp [hk'], nth_app_r]; rfl
      have e2 : nth ((m :: l).reverse ++ [a]) (k + 1) = a := by
        rw [show k + 1 = (m :: l).reverse.length + 0 by rw [hlen]; omega, nth_app_r]; rfl
      rw [e1, e2]; exact hs
end
theorem sft_path {t : Dt} {o : Ob} {w : List Int} {a : Int} (h : sftR t o w = (a, [], 0)) : dvE t = 0 ∧ 0 ≤ a ∧ a < t.nd.length ∧ (∀ k, k + 1 < (pth t a).length → Sp t o w (nth (pth t a) k) (nth (pth t a) (k + 1))) ∧ nth (pth t a) ((pth t a).length - 1) = a := by
  unfold sftR at h
  by_cases hv : dvE t ≠ 0
  · rw [if_pos hv] at h; simp only [Prod.mk.injEq] at h; exact (hv h.2.2).elim
  · rw [if_neg hv] at h
    have hv := Decidable.not_not.1 hv
    by_cases hw : wchk w o.i ≠ 0
    · rw [if_pos hw] at h; simp only [Prod.mk.injEq] at h; exact (hw h.2.2).elim
    · rw [if_neg hw] at h
      obtain ⟨l, hb⟩ := sft_bw hv (rk0 hv) (.root) h
      have hr := hb.rng hv a (by simp)
      have hu := bw_up hv hb rfl (Up.of hv hr.1 hr.2)
      have hp : pth t a = (a :: l).reverse := by unfold pth; rw [hu]
      refine ⟨hv, hr.1, hr.2, fun k hk => ?_, ?_⟩
      · rw [hp] at hk ⊢; exact bw_step hb (by simpa using hk)
      · rw [hp, List.reverse_cons, show (l.reverse ++ [a]).length - 1 = l.reverse.length + 0 by simp, nth_app_r]; rfl
theorem parts_ok {t : Dt} {o : Ob} {v w : List Int} {a b : Int} (h1 : sftR t o v = (a, [], 0)) (h2 : sftR t o w = (b, [], 0)) (hab : a ≠ b) (hc : cmE t a b ≠ 10) :
    cmE t a b = 0 ∧ (ans o (cat [v, cmS t a b])).isSome = true ∧ (ans o (cat [w, cmS t a b])).isSome = true ∧
      ((ans o (cat [v, cmS t a b])).getD []).drop v.length ≠ ((ans o (cat [w, cmS t a b])).getD []).drop w.length := by
  obtain ⟨hv, a0, a1, a2, a3⟩ := sft_path h1
  obtain ⟨_, b0, b1, b2, b3⟩ := sft_path h2
  have hE : cmE t a b = 0 := by
    unfold cmE at hc ⊢
    rw [if_neg (by omega), if_neg (by omega)] at hc ⊢
    split at hc
    · exact (hc rfl).elim
    · rename_i q; rw [if_neg q, if_neg hab]
  obtain ⟨_, _, _, _, _, la, lb, _⟩ := cmE_ok hE
  have hp := cmn_pos hv a0 a1 b0 b1
  have hs := cmn_spec (pth t a) (pth t b)
  -- neither path goes on beyond its leaf
  have ka : cmn (pth t a) (pth t b) < (pth t a).length := by
    rcases Nat.lt_or_ge (cmn (pth t a) (pth t b)) (pth t a).length with q | q
    · exact q
    · exfalso
      have e : cmn (pth t a) (pth t b) = (pth t a).length := by have := hs.1; omega
      have e1 := hs.2.2.1 ((pth t a).length - 1) (by omega)
      rw [a3] at e1
      by_cases q2 : (pth t a).length < (pth t b).length
      · have := (b2 ((pth t a).length - 1) (by omega)).lf
        rw [← e1, la] at this; cases this
      · have : (pth t b).length = (pth t a).length := by have := hs.2.1; omega
        rw [← this, b3] at e1
        exact hab e1
  have kb : cmn (pth t a) (pth t b) < (pth t b).length := by
    rcases Nat.lt_or_ge (cmn (pth t a) (pth t b)) (pth t b).length with q | q
    · exact q
    · exfalso
      have e : cmn (pth t a) (pth t b) = (pth t b).length := by have := hs.2.1; omega
      have e1 := hs.2.2.1 ((pth t b).length - 1) (by omega)
      rw [b3] at e1
      have := (a2 ((pth t b).length - 1) (by omega)).lf
      rw [e1, lb] at this; cases this
  have hne := hs.2.2.2 ka kb
  have he := hs.2.2.1 (cmn (pth t a) (pth t b) - 1) (by omega)
  have sa := a2 (cmn (pth t a) (pth t b) - 1) (by omega)
  have sb := b2 (cmn (pth t a) (pth t b) - 1) (by omega)
  rw [show cmn (pth t a) (pth t b) - 1 + 1 = cmn (pth t a) (pth t b) by omega] at sa sb
  rw [← he] at sb
  refine ⟨hE, sa.kn, sb.kn, fun q => hne ?_⟩
  have ta := sa.to
  have tb := sb.to
  unfold cmS at q
  rw [q] at ta
  rw [ta, tb]
end Go.Proofs.YtmnjchcoigbngaaGreat


namespace Go.Proofs.YtmnjchcoigbngaaGreat
theorem cmR_len {t : Dt} (hb : Bd t) (a b : Int) : (cmR t a b).length ≤ 1048576 := by
  unfold cmR
  split
  · rename_i h
    obtain ⟨hv, a0, a1, b0, b1, _⟩ := cmE_ok h
    have p1 := cmn_pos hv a0 a1 b0 b1
    have p2 := cmn_spec (pth t a) (pth t b)
    have p3 := pth_rng hv a0 a1 (show cmn (pth t a) (pth t b) - 1 < (pth t a).length by omega)
    exact hb.sf _ (by omega)
  · simp
theorem parts_all {t : Dt} {o : Ob} {v w : List Int} (hb : Bd t) (ho : oval o = 0) (h1 : (sftR t o v).2.2 = 0) (h2 : (sftR t o w).2.2 = 0) (g1 : (sftR t o v).2.1.length = 0) (g2 : (sftR t o w).2.1.length = 0) (hab : (sftR t o v).1 ≠ (sftR t o w).1)
    (hc : cmE t (sftR t o v).1 (sftR t o w).1 ≠ 10) :
    cmE t (sftR t o v).1 (sftR t o w).1 = 0 ∧ (ans o (cat [v, cmR t (sftR t o v).1 (sftR t o w).1])).isSome = true ∧ (ans o (cat [w, cmR t (sftR t o v).1 (sftR t o w).1])).isSome = true ∧
      ((ans o (cat [v, cmR t (sftR t o v).1 (sftR t o w).1])).getD []).drop v.length ≠ ((ans o (cat [w, cmR t (sftR t o v).1 (sftR t o w).1])).getD []).drop w.length ∧
      v.length ≤ ((ans o (cat [v, cmR t (sftR t o v).1 (sftR t o w).1])).getD []).length ∧ w.length ≤ ((ans o (cat [w, cmR t (sftR t o v).1 (sftR t o w).1])).getD []).length := by
  generalize e1 : sftR t o v = x at *
  generalize e2 : sftR t o w = y at *
  obtain ⟨a, va, ea⟩ := x
  obtain ⟨b, vb, eb⟩ := y
  simp only at *
  subst h1; subst h2
  have g1 := List.length_eq_zero_iff.1 g1
  have g2 := List.length_eq_zero_iff.1 g2
  subst g1; subst g2
  obtain ⟨p1, p2, p3, p4⟩ := parts_ok e1 e2 hab hc
  have p5 : cmR t a b = cmS t a b := by unfold cmR; rw [if_pos p1]
  rw [p5]
  have p6 := ans_len (oval_ok ho) p2
  have p7 := ans_len (oval_ok ho) p3
  refine ⟨p1, p2, p3, p4, ?_, ?_⟩
  · rw [p6]; simp [cat]
  · rw [p7]; simp [cat]
end Go.Proofs.YtmnjchcoigbngaaGreat


namespace Go.Proofs.YtmnjchcoigbngaaGreat
open Go Go.Proofs
theorem law8_pure (t : Dt) (o : Ob) (v w : List Int) : PureC Tryz.prog 8 [(V.agg [(V.sl (List.map cN (t.nd)))]), (V.agg [(iV (o.i)), (V.sl (List.map cT (o.tr)))]), (V.agg [(V.sl (List.map cI (v))), (V.sl (List.map cI (w)))])] (V.bool true) := by
 refine pure_of_Wb true 6 Tryz.func8 s8_ok (by kernel_rfl) (by simp [s8]) (by simp) (by simp) fun hB => ?_
 simp only [bnd_map, bnd_int, bnd_bool, bnd_str, bnd_agg, bnd_pp, bnd_nil, bnd_cons, implies_true, and_true, true_and] at hB
 unfold s8
 dsimp only
 refine W_seq_regc (fun T H => T 3 = (V.mp 3 1 0 0) ∧ T 4 = (V.mp 4 1 0 0) ∧ T 5 = (V.mp 5 1 0 0) ∧ H 3 = (⟨1, true, false, 24, 1, [[(V.sl (List.map cN (t.nd)))]]⟩ : Blk) ∧ H 4 = (⟨1, true, false, 37, 2, [[(iV (o.i)), (V.sl (List.map cT (o.tr)))]]⟩ : Blk) ∧ H 5 = (⟨1, true, false, 46, 2, [[(V.sl (List.map cI (v))), (V.sl (List.map cI (w)))]]⟩ : Blk) ∧ True) ?_ ?_
 ·
  unfold r8_0
  refine R_box (i := 3) (n := 0) (m := 1) (cs := [(V.sl (List.map cN (t.nd)))]) rfl (congrArg Blk.ver rfl) (@rfl V (V.agg [(V.sl (List.map cN (t.nd)))])) rfl rfl ?_
  refine R_box (i := 4) (n := 0) (m := 2) (cs := [(iV (o.i)), (V.sl (List.map cT (o.tr)))]) rfl (congrArg Blk.ver rfl) (@rfl V (V.agg [(iV (o.i)), (V.sl (List.map cT (o.tr)))])) rfl rfl ?_
  refine R_box (i := 5) (n := 0) (m := 2) (cs := [(V.sl (List.map cI (v))), (V.sl (List.map cI (w)))]) rfl (congrArg Blk.ver rfl) (@rfl V (V.agg [(V.sl (List.map cI (v))), (V.sl (List.map cI (w)))])) rfl rfl ?_
  refine R_mv (@rfl V (V.bool false)) ?_
  exact R_nil ⟨rfl, rfl, rfl, rfl, rfl, rfl, trivial⟩
 intro T H ⟨t3, t4, t5, h3, h4, h5, _⟩
 refine W_seq_seq ?_
 refine W_seq_regc (fun T H => T 3 = (V.mp 3 1 0 0) ∧ T 4 = (V.mp 4 1 0 0) ∧ T 5 = (V.mp 5 1 0 0) ∧ T 43 = (V.bool (((((((((bgT t) || decide ((300 : Int) < ((o.tr.length : Nat) : Int)))) || decide ((1100 : Int) < ((v.length : Nat) : Int)))) || decide ((1100 : Int) < ((w.length : Nat) : Int)))) || decide ((oval o) ≠ (0 : Int))))) ∧ H 3 = (⟨1, true, false, 24, 1, [[(V.sl (List.map cN (t.nd)))]]⟩ : Blk) ∧ H 4 = (⟨1, true, false, 37, 2, [[(iV (o.i)), (V.sl (List.map cT (o.tr)))]]⟩ : Blk) ∧ H 5 = (⟨1, true, false, 46, 2, [[(V.sl (List.map cI (v))), (V.sl (List.map cI (w)))]]⟩ : Blk) ∧ True) ?_ ?_
 ·
  unfold r8_1
  refine R_load_mp (v := (V.agg [(V.sl (List.map cN (t.nd)))])) t3 h3 (by first | rfl | simp [ldB, ldV, Blk.own, V.one]) ?_
  refine R_call (evcons (@rfl V (V.agg [(V.sl (List.map cN (t.nd)))])) evnil) (great_pure t) (fzv_mapcanon _ _ (by simp [-List.map_take, -List.map_drop, -List.map_append, -List.map_reverse])) (by simp [-List.map_take, -List.map_drop, -List.map_append, -List.map_reverse]) (Or.inl (by simp [-List.map_take, -List.map_drop, -List.map_append, -List.map_reverse])) ?_
  refine R_mv (@rfl V (V.bool (bgT t))) ?_
  refine Ops_seg 5 (fun T H => T 3 = (V.mp 3 1 0 0) ∧ T 4 = (V.mp 4 1 0 0) ∧ T 5 = (V.mp 5 1 0 0) ∧ T 26 = (V.bool (((bgT t) || decide ((300 : Int) < ((o.tr.length : Nat) : Int))))) ∧ H 3 = (⟨1, true, false, 24, 1, [[(V.sl (List.map cN (t.nd)))]]⟩ : Blk) ∧ H 4 = (⟨1, true, false, 37, 2, [[(iV (o.i)), (V.sl (List.map cT (o.tr)))]]⟩ : Blk) ∧ H 5 = (⟨1, true, false, 46, 2, [[(V.sl (List.map cI (v))), (V.sl (List.map cI (w)))]]⟩ : Blk) ∧ True) ?_ ?_
  ·
   by_cases g1 : (bgT t) = true
   ·
    refine G_no (Eq.trans (@rfl V (V.bool (bgT t))) (bbT g1)) (by decide) ?_
    refine G_no (Eq.trans (@rfl V (V.bool (bgT t))) (bbT g1)) (by decide) ?_
    refine G_no (Eq.trans (@rfl V (V.bool (bgT t))) (bbT g1)) (by decide) ?_
    refine G_no (Eq.trans (@rfl V (V.bool (bgT t))) (bbT g1)) (by decide) ?_
    refine R_pickT (Eq.trans (@rfl V (V.bool (bgT t))) (bbT g1)) (@rfl V (V.bool true)) ?_
    exact ⟨t3, t4, t5, (Eq.trans (@rfl V (V.bool true)) (borT g1)), h3, h4, h5, trivial⟩
   ·
    refine G_yes (Eq.trans (@rfl V (V.bool (bgT t))) (bbF g1)) ?_
    refine R_fld_mp (o' := 1) t4 h4 (by first | rfl | simp [okB, Blk.own]) rfl ?_
    refine G_yes (Eq.trans (@rfl V (V.bool (bgT t))) (bbF g1)) ?_
    refine R_load_mp (v := (V.sl (List.map cT (o.tr)))) (@rfl V (V.mp 4 1 0 1)) h4 (by first | rfl | simp [ldB, ldV, Blk.own, V.one]) ?_
    refine G_yes (Eq.trans (@rfl V (V.bool (bgT t))) (bbF g1)) ?_
    refine R_len (@rfl V (V.sl (List.map cT (o.tr)))) ?_
    refine G_yes (Eq.trans (@rfl V (V.bool (bgT t))) (bbF g1)) ?_
    refine R_gtr (x := ((o.tr.length : Nat) : Int)) (y := (300 : Int)) (@rfl V (iV ((o.tr.length : Nat) : Int))) (@rfl V (iV (300 : Int))) ?_
    refine R_pickF (Eq.trans (@rfl V (V.bool (bgT t))) (bbF g1)) (@rfl V (V.bool (decide ((300 : Int) < ((o.tr.length : Nat) : Int))))) ?_
    exact ⟨t3, t4, t5, (Eq.trans (@rfl V (V.bool (decide ((300 : Int) < ((o.tr.length : Nat) : Int))))) (borF g1)), h3, h4, h5, trivial⟩
  intro T H ⟨t3, t4, t5, t26, h3, h4, h5, _⟩
  refine R_mv t26 ?_
  refine Ops_seg 5 (fun T H => T 3 = (V.mp 3 1 0 0) ∧ T 4 = (V.mp 4 1 0 0) ∧ T 5 = (V.mp 5 1 0 0) ∧ T 32 = (V.bool (((((bgT t) || decide ((300 : Int) < ((o.tr.length : Nat) : Int)))) || decide ((1100 : Int) < ((v.length : Nat) : Int))))) ∧ H 3 = (⟨1, true, false, 24, 1, [[(V.sl (List.map cN (t.nd)))]]⟩ : Blk) ∧ H 4 = (⟨1, true, false, 37, 2, [[(iV (o.i)), (V.sl (List.map cT (o.tr)))]]⟩ : Blk) ∧ H 5 = (⟨1, true, false, 46, 2, [[(V.sl (List.map cI (v))), (V.sl (List.map cI (w)))]]⟩ : Blk) ∧ True) ?_ ?_
  ·
   by_cases g2 : (((bgT t) || decide ((300 : Int) < ((o.tr.length : Nat) : Int)))) = true
   ·
    refine G_no (Eq.trans (@rfl V (V.bool (((bgT t) || decide ((300 : Int) < ((o.tr.length : Nat) : Int)))))) (bbT g2)) (by decide) ?_
    refine G_no (Eq.trans (@rfl V (V.bool (((bgT t) || decide ((300 : Int) < ((o.tr.length : Nat) : Int)))))) (bbT g2)) (by decide) ?_
    refine G_no (Eq.trans (@rfl V (V.bool (((bgT t) || decide ((300 : Int) < ((o.tr.length : Nat) : Int)))))) (bbT g2)) (by decide) ?_
    refine G_no (Eq.trans (@rfl V (V.bool (((bgT t) || decide ((300 : Int) < ((o.tr.length : Nat) : Int)))))) (bbT g2)) (by decide) ?_
    refine R_pickT (Eq.trans (@rfl V (V.bool (((bgT t) || decide ((300 : Int) < ((o.tr.length : Nat) : Int)))))) (bbT g2)) (@rfl V (V.bool true)) ?_
    exact ⟨t3, t4, t5, (Eq.trans (@rfl V (V.bool true)) (borT g2)), h3, h4, h5, trivial⟩
   ·
    refine G_yes (Eq.trans (@rfl V (V.bool (((bgT t) || decide ((300 : Int) < ((o.tr.length : Nat) : Int)))))) (bbF g2)) ?_
    refine R_apos_mp (i := 0) (o' := 0) t5 (@rfl V (iV ((0 : Nat) : Int))) h5 (by first | rfl | simp [okB, Blk.own]) (by decide) rfl ?_
    refine G_yes (Eq.trans (@rfl V (V.bool (((bgT t) || decide ((300 : Int) < ((o.tr.length : Nat) : Int)))))) (bbF g2)) ?_
    refine R_load_mp (v := (V.sl (List.map cI (v)))) (@rfl V (V.mp 5 1 0 0)) h5 (by first | rfl | simp [ldB, ldV, Blk.own, V.one]) ?_
    refine G_yes (Eq.trans (@rfl V (V.bool (((bgT t) || decide ((300 : Int) < ((o.tr.length : Nat) : Int)))))) (bbF g2)) ?_
    refine R_len (@rfl V (V.sl (List.map cI (v)))) ?_
    refine G_yes (Eq.trans (@rfl V (V.bool (((bgT t) || decide ((300 : Int) < ((o.tr.length : Nat) : Int)))))) (bbF g2)) ?_
    refine R_gtr (x := ((v.length : Nat) : Int)) (y := (1100 : Int)) (@rfl V (iV ((v.length : Nat) : Int))) (@rfl V (iV (1100 : Int))) ?_
    refine R_pickF (Eq.trans (@rfl V (V.bool (((bgT t) || decide ((300 : Int) < ((o.tr.length : Nat) : Int)))))) (bbF g2)) (@rfl V (V.bool (decide ((1100 : Int) < ((v.length : Nat) : Int))))) ?_
    exact ⟨t3, t4, t5, (Eq.trans (@rfl V (V.bool (decide ((1100 : Int) < ((v.length : Nat) : Int))))) (borF g2)), h3, h4, h5, trivial⟩
  intro T H ⟨t3, t4, t5, t32, h3, h4, h5, _⟩
  refine R_mv t32 ?_
  refine Ops_seg 5 (fun T H => T 3 = (V.mp 3 1 0 0) ∧ T 4 = (V.mp 4 1 0 0) ∧ T 5 = (V.mp 5 1 0 0) ∧ T 38 = (V.bool (((((((bgT t) || decide ((300 : Int) < ((o.tr.length : Nat) : Int)))) || decide ((1100 : Int) < ((v.length : Nat) : Int)))) || decide ((1100 : Int) < ((w.length : Nat) : Int))))) ∧ H 3 = (⟨1, true, false, 24, 1, [[(V.sl (List.map cN (t.nd)))]]⟩ : Blk) ∧ H 4 = (⟨1, true, false, 37, 2, [[(iV (o.i)), (V.sl (List.map cT (o.tr)))]]⟩ : Blk) ∧ H 5 = (⟨1, true, false, 46, 2, [[(V.sl (List.map cI (v))), (V.sl (List.map cI (w)))]]⟩ : Blk) ∧ True) ?_ ?_
  ·
   by_cases g3 : (((((bgT t) || decide ((300 : Int) < ((o.tr.length : Nat) : Int)))) || decide ((1100 : Int) < ((v.length : Nat) : Int)))) = true
   ·
    refine G_no (Eq.trans (@rfl V (V.bool (((((bgT t) || decide ((300 : Int) < ((o.tr.length : Nat) : Int)))) || decide ((1100 : Int) < ((v.length : Nat) : Int)))))) (bbT g3)) (by decide) ?_
    refine G_no (Eq.trans (@rfl V (V.bool (((((bgT t) || decide ((300 : Int) < ((o.tr.length : Nat) : Int)))) || decide ((1100 : Int) < ((v.length : Nat) : Int)))))) (bbT g3)) (by decide) ?_
    refine G_no (Eq.trans (@rfl V (V.bool (((((bgT t) || decide ((300 : Int) < ((o.tr.length : Nat) : Int)))) || decide ((1100 : Int) < ((v.length : Nat) : Int)))))) (bbT g3)) (by decide) ?_
    refine G_no (Eq.trans (@rfl V (V.bool (((((bgT t) || decide ((300 : Int) < ((o.tr.length : Nat) : Int)))) || decide ((1100 : Int) < ((v.length : Nat) : Int)))))) (bbT g3)) (by decide) ?_
    refine R_pickT (Eq.trans (@rfl V (V.bool (((((bgT t) || decide ((300 : Int) < ((o.tr.length : Nat) : Int)))) || decide ((1100 : Int) < ((v.length : Nat) : Int)))))) (bbT g3)) (@rfl V (V.bool true)) ?_
    exact ⟨t3, t4, t5, (Eq.trans (@rfl V (V.bool true)) (borT g3)), h3, h4, h5, trivial⟩
   ·
    refine G_yes (Eq.trans (@rfl V (V.bool (((((bgT t) || decide ((300 : Int) < ((o.tr.length : Nat) : Int)))) || decide ((1100 : Int) < ((v.length : Nat) : Int)))))) (bbF g3)) ?_
    refine R_apos_mp (i := 1) (o' := 1) t5 (@rfl V (iV ((1 : Nat) : Int))) h5 (by first | rfl | simp [okB, Blk.own]) (by decide) rfl ?_
    refine G_yes (Eq.trans (@rfl V (V.bool (((((bgT t) || decide ((300 : Int) < ((o.tr.length : Nat) : Int)))) || decide ((1100 : Int) < ((v.length : Nat) : Int)))))) (bbF g3)) ?_
    refine R_load_mp (v := (V.sl (List.map cI (w)))) (@rfl V (V.mp 5 1 0 1)) h5 (by first | rfl | simp [ldB, ldV, Blk.own, V.one]) ?_
    refine G_yes (Eq.trans (@rfl V (V.bool (((((bgT t) || decide ((300 : Int) < ((o.tr.length : Nat) : Int)))) || decide ((1100 : Int) < ((v.length : Nat) : Int)))))) (bbF g3)) ?_
    refine R_len (@rfl V (V.sl (List.map cI (w)))) ?_
    refine G_yes (Eq.trans (@rfl V (V.bool (((((bgT t) || decide ((300 : Int) < ((o.tr.length : Nat) : Int)))) || decide ((1100 : Int) < ((v.length : Nat) : Int)))))) (bbF g3)) ?_
    refine R_gtr (x := ((w.length : Nat) : Int)) (y := (1100 : Int)) (@rfl V (iV ((w.length : Nat) : Int))) (@rfl V (iV (1100 : Int))) ?_
    refine R_pickF (Eq.trans (@rfl V (V.bool (((((bgT t) || decide ((300 : Int) < ((o.tr.length : Nat) : Int)))) || decide ((1100 : Int) < ((v.length : Nat) : Int)))))) (bbF g3)) (@rfl V (V.bool (decide ((1100 : Int) < ((w.length : Nat) : Int))))) ?_
    exact ⟨t3, t4, t5, (Eq.trans (@rfl V (V.bool (decide ((1100 : Int) < ((w.length : Nat) : Int))))) (borF g3)), h3, h4, h5, trivial⟩
  intro T H ⟨t3, t4, t5, t38, h3, h4, h5, _⟩
  refine R_mv t38 ?_
  refine Ops_seg 4 (fun T H => T 3 = (V.mp 3 1 0 0) ∧ T 4 = (V.mp 4 1 0 0) ∧ T 5 = (V.mp 5 1 0 0) ∧ T 43 = (V.bool (((((((((bgT t) || decide ((300 : Int) < ((o.tr.length : Nat) : Int)))) || decide ((1100 : Int) < ((v.length : Nat) : Int)))) || decide ((1100 : Int) < ((w.length : Nat) : Int)))) || decide ((oval o) ≠ (0 : Int))))) ∧ H 3 = (⟨1, true, false, 24, 1, [[(V.sl (List.map cN (t.nd)))]]⟩ : Blk) ∧ H 4 = (⟨1, true, false, 37, 2, [[(iV (o.i)), (V.sl (List.map cT (o.tr)))]]⟩ : Blk) ∧ H 5 = (⟨1, true, false, 46, 2, [[(V.sl (List.map cI (v))), (V.sl (List.map cI (w)))]]⟩ : Blk) ∧ True) ?_ ?_
  ·
   by_cases g4 : (((((((bgT t) || decide ((300 : Int) < ((o.tr.length : Nat) : Int)))) || decide ((1100 : Int) < ((v.length : Nat) : Int)))) || decide ((1100 : Int) < ((w.length : Nat) : Int)))) = true
   ·
    refine G_no (Eq.trans (@rfl V (V.bool (((((((bgT t) || decide ((300 : Int) < ((o.tr.length : Nat) : Int)))) || decide ((1100 : Int) < ((v.length : Nat) : Int)))) || decide ((1100 : Int) < ((w.length : Nat) : Int)))))) (bbT g4)) (by decide) ?_
    refine G_no (Eq.trans (@rfl V (V.bool (((((((bgT t) || decide ((300 : Int) < ((o.tr.length : Nat) : Int)))) || decide ((1100 : Int) < ((v.length : Nat) : Int)))) || decide ((1100 : Int) < ((w.length : Nat) : Int)))))) (bbT g4)) (by decide) ?_
    refine G_no (Eq.trans (@rfl V (V.bool (((((((bgT t) || decide ((300 : Int) < ((o.tr.length : Nat) : Int)))) || decide ((1100 : Int) < ((v.length : Nat) : Int)))) || decide ((1100 : Int) < ((w.length : Nat) : Int)))))) (bbT g4)) (by decide) ?_
    refine R_pickT (Eq.trans (@rfl V (V.bool (((((((bgT t) || decide ((300 : Int) < ((o.tr.length : Nat) : Int)))) || decide ((1100 : Int) < ((v.length : Nat) : Int)))) || decide ((1100 : Int) < ((w.length : Nat) : Int)))))) (bbT g4)) (@rfl V (V.bool true)) ?_
    exact ⟨t3, t4, t5, (Eq.trans (@rfl V (V.bool true)) (borT g4)), h3, h4, h5, trivial⟩
   ·
    refine G_yes (Eq.trans (@rfl V (V.bool (((((((bgT t) || decide ((300 : Int) < ((o.tr.length : Nat) : Int)))) || decide ((1100 : Int) < ((v.length : Nat) : Int)))) || decide ((1100 : Int) < ((w.length : Nat) : Int)))))) (bbF g4)) ?_
    refine R_load_mp (v := (V.agg [(iV (o.i)), (V.sl (List.map cT (o.tr)))])) t4 h4 (by first | rfl | simp [ldB, ldV, Blk.own, V.one]) ?_
    refine G_yes (Eq.trans (@rfl V (V.bool (((((((bgT t) || decide ((300 : Int) < ((o.tr.length : Nat) : Int)))) || decide ((1100 : Int) < ((v.length : Nat) : Int)))) || decide ((1100 : Int) < ((w.length : Nat) : Int)))))) (bbF g4)) ?_
    refine R_call (evcons (@rfl V (V.agg [(iV (o.i)), (V.sl (List.map cT (o.tr)))])) evnil) (roval_pure o) (fzv_mapcanon _ _ (by simp [-List.map_take, -List.map_drop, -List.map_append, -List.map_reverse])) (by simp [-List.map_take, -List.map_drop, -List.map_append, -List.map_reverse]) (Or.inl (by simp [-List.map_take, -List.map_drop, -List.map_append, -List.map_reverse])) ?_
    refine G_yes (Eq.trans (@rfl V (V.bool (((((((bgT t) || decide ((300 : Int) < ((o.tr.length : Nat) : Int)))) || decide ((1100 : Int) < ((v.length : Nat) : Int)))) || decide ((1100 : Int) < ((w.length : Nat) : Int)))))) (bbF g4)) ?_
    refine R_neq (x := (oval o)) (y := (0 : Int)) (@rfl V (iV (oval o))) (@rfl V (iV (0 : Int))) ?_
    refine R_pickF (Eq.trans (@rfl V (V.bool (((((((bgT t) || decide ((300 : Int) < ((o.tr.length : Nat) : Int)))) || decide ((1100 : Int) < ((v.length : Nat) : Int)))) || decide ((1100 : Int) < ((w.length : Nat) : Int)))))) (bbF g4)) (@rfl V (V.bool (decide ((oval o) ≠ (0 : Int))))) ?_
    exact ⟨t3, t4, t5, (Eq.trans (@rfl V (V.bool (decide ((oval o) ≠ (0 : Int))))) (borF g4)), h3, h4, h5, trivial⟩
  intro T H ⟨t3, t4, t5, t43, h3, h4, h5, _⟩
  exact R_nil ⟨t3, t4, t5, t43, h3, h4, h5, trivial⟩
 intro T H ⟨t3, t4, t5, t43, h3, h4, h5, _⟩
 refine W_seq_ifb t43 (fun c5 => ?_) (fun c5 => ?_)
 ·
  refine W_seq_seq ?_
  refine W_seq_regc (fun T H => T 6 = (V.bool true) ∧ H 3 = (⟨1, true, false, 24, 1, [[(V.sl (List.map cN (t.nd)))]]⟩ : Blk) ∧ H 4 = (⟨1, true, false, 37, 2, [[(iV (o.i)), (V.sl (List.map cT (o.tr)))]]⟩ : Blk) ∧ H 5 = (⟨1, true, false, 46, 2, [[(V.sl (List.map cI (v))), (V.sl (List.map cI (w)))]]⟩ : Blk) ∧ True) ?_ ?_
  ·
   unfold r8_2
   refine R_call evnil (aw_learnerlaw26_awake_pure) (fzv_mapcanon _ _ (by simp [-List.map_take, -List.map_drop, -List.map_append, -List.map_reverse])) (by simp [-List.map_take, -List.map_drop, -List.map_append, -List.map_reverse]) (Or.inl (by simp [-List.map_take, -List.map_drop, -List.map_append, -List.map_reverse])) ?_
   refine R_mv (@rfl V (V.bool true)) ?_
   exact R_nil ⟨rfl, h3, h4, h5, trivial⟩
  intro T H ⟨t6, h3, h4, h5, _⟩
  refine W_seq_ret ?_
  refine Ret_1 t6 (fz_canon (by simp) rfl)
 have q1 := c5
 simp only [Bool.or_eq_false_iff, decide_eq_false_iff_not, ne_eq, Decidable.not_not] at q1
 obtain ⟨⟨⟨⟨q2, q3⟩, q4⟩, q5⟩, q6⟩ := q1
 have hb := bg_bd (t := t) q2
 have ho : oval o = 0 := q6
 refine W_seq_skip ?_
 refine W_seq_regc (fun T H => T 3 = (V.mp 3 1 0 0) ∧ T 4 = (V.mp 4 1 0 0) ∧ T 5 = (V.mp 5 1 0 0) ∧ T 7 = (iV ((sftR t o v).1)) ∧ T 8 = (V.sl (List.map cI ((sftR t o v).2.1))) ∧ T 9 = (iV ((sftR t o v).2.2)) ∧ H 3 = (⟨1, true, false, 24, 1, [[(V.sl (List.map cN (t.nd)))]]⟩ : Blk) ∧ H 4 = (⟨1, true, false, 37, 2, [[(iV (o.i)), (V.sl (List.map cT (o.tr)))]]⟩ : Blk) ∧ H 5 = (⟨1, true, false, 46, 2, [[(V.sl (List.map cI (v))), (V.sl (List.map cI (w)))]]⟩ : Blk) ∧ True) ?_ ?_
 ·
  unfold r8_3
  refine R_load_mp (v := (V.agg [(V.sl (List.map cN (t.nd)))])) t3 h3 (by first | rfl | simp [ldB, ldV, Blk.own, V.one]) ?_
  refine R_load_mp (v := (V.agg [(iV (o.i)), (V.sl (List.map cT (o.tr)))])) t4 h4 (by first | rfl | simp [ldB, ldV, Blk.own, V.one]) ?_
  refine R_apos_mp (i := 0) (o' := 0) t5 (@rfl V (iV ((0 : Nat) : Int))) h5 (by first | rfl | simp [okB, Blk.own]) (by decide) rfl ?_
  refine R_load_mp (v := (V.sl (List.map cI (v)))) (@rfl V (V.mp 5 1 0 0)) h5 (by first | rfl | simp [ldB, ldV, Blk.own, V.one]) ?_
  refine R_call (evcons (@rfl V (V.agg [(V.sl (List.map cN (t.nd)))])) (evcons (@rfl V (V.agg [(iV (o.i)), (V.sl (List.map cT (o.tr)))])) (evcons (@rfl V (V.sl (List.map cI (v)))) evnil))) (sift_pure t o v hb ho (by first | omega | assumption)) (fzv_mapcanon _ _ (by simp [-List.map_take, -List.map_drop, -List.map_append, -List.map_reverse])) (by simp [-List.map_take, -List.map_drop, -List.map_append, -List.map_reverse]) (Or.inl (by simp [-List.map_take, -List.map_drop, -List.map_append, -List.map_reverse])) ?_
  refine R_mv (@rfl V (V.tup [(iV ((sftR t o v).1)), (V.sl (List.map cI ((sftR t o v).2.1))), (iV ((sftR t o v).2.2))])) ?_
  refine R_ext (v := (iV ((sftR t o v).1))) (@rfl V (V.tup [(iV ((sftR t o v).1)), (V.sl (List.map cI ((sftR t o v).2.1))), (iV ((sftR t o v).2.2))])) rfl ?_
  refine R_ext (v := (V.sl (List.map cI ((sftR t o v).2.1)))) (@rfl V (V.tup [(iV ((sftR t o v).1)), (V.sl (List.map cI ((sftR t o v).2.1))), (iV ((sftR t o v).2.2))])) rfl ?_
  refine R_ext (v := (iV ((sftR t o v).2.2))) (@rfl V (V.tup [(iV ((sftR t o v).1)), (V.sl (List.map cI ((sftR t o v).2.1))), (iV ((sftR t o v).2.2))])) rfl ?_
  refine R_mv (@rfl V (iV ((sftR t o v).1))) ?_
  refine R_mv (@rfl V (V.sl (List.map cI ((sftR t o v).2.1)))) ?_
  refine R_mv (@rfl V (iV ((sftR t o v).2.2))) ?_
  exact R_nil ⟨t3, t4, t5, rfl, rfl, rfl, h3, h4, h5, trivial⟩
 intro T H ⟨t3, t4, t5, t7, t8, t9, h3, h4, h5, _⟩
 refine W_seq_regc (fun T H => T 3 = (V.mp 3 1 0 0) ∧ T 4 = (V.mp 4 1 0 0) ∧ T 5 = (V.mp 5 1 0 0) ∧ T 7 = (iV ((sftR t o v).1)) ∧ T 8 = (V.sl (List.map cI ((sftR t o v).2.1))) ∧ T 9 = (iV ((sftR t o v).2.2)) ∧ T 10 = (iV ((sftR t o w).1)) ∧ T 11 = (V.sl (List.map cI ((sftR t o w).2.1))) ∧ T 12 = (iV ((sftR t o w).2.2)) ∧ H 3 = (⟨1, true, false, 24, 1, [[(V.sl (List.map cN (t.nd)))]]⟩ : Blk) ∧ H 4 = (⟨1, true, false, 37, 2, [[(iV (o.i)), (V.sl (List.map cT (o.tr)))]]⟩ : Blk) ∧ H 5 = (⟨1, true, false, 46, 2, [[(V.sl (List.map cI (v))), (V.sl (List.map cI (w)))]]⟩ : Blk) ∧ True) ?_ ?_
 ·
  unfold r8_4
  refine R_load_mp (v := (V.agg [(V.sl (List.map cN (t.nd)))])) t3 h3 (by first | rfl | simp [ldB, ldV, Blk.own, V.one]) ?_
  refine R_load_mp (v := (V.agg [(iV (o.i)), (V.sl (List.map cT (o.tr)))])) t4 h4 (by first | rfl | simp [ldB, ldV, Blk.own, V.one]) ?_
  refine R_apos_mp (i := 1) (o' := 1) t5 (@rfl V (iV ((1 : Nat) : Int))) h5 (by first | rfl | simp [okB, Blk.own]) (by decide) rfl ?_
  refine R_load_mp (v := (V.sl (List.map cI (w)))) (@rfl V (V.mp 5 1 0 1)) h5 (by first | rfl | simp [ldB, ldV, Blk.own, V.one]) ?_
  refine R_call (evcons (@rfl V (V.agg [(V.sl (List.map cN (t.nd)))])) (evcons (@rfl V (V.agg [(iV (o.i)), (V.sl (List.map cT (o.tr)))])) (evcons (@rfl V (V.sl (List.map cI (w)))) evnil))) (sift_pure t o w hb ho (by first | omega | assumption)) (fzv_mapcanon _ _ (by simp [-List.map_take, -List.map_drop, -List.map_append, -List.map_reverse])) (by simp [-List.map_take, -List.map_drop, -List.map_append, -List.map_reverse]) (Or.inl (by simp [-List.map_take, -List.map_drop, -List.map_append, -List.map_reverse])) ?_
  refine R_mv (@rfl V (V.tup [(iV ((sftR t o w).1)), (V.sl (List.map cI ((sftR t o w).2.1))), (iV ((sftR t o w).2.2))])) ?_
  refine R_ext (v := (iV ((sftR t o w).1))) (@rfl V (V.tup [(iV ((sftR t o w).1)), (V.sl (List.map cI ((sftR t o w).2.1))), (iV ((sftR t o w).2.2))])) rfl ?_
  refine R_ext (v := (V.sl (List.map cI ((sftR t o w).2.1)))) (@rfl V (V.tup [(iV ((sftR t o w).1)), (V.sl (List.map cI ((sftR t o w).2.1))), (iV ((sftR t o w).2.2))])) rfl ?_
  refine R_ext (v := (iV ((sftR t o w).2.2))) (@rfl V (V.tup [(iV ((sftR t o w).1)), (V.sl (List.map cI ((sftR t o w).2.1))), (iV ((sftR t o w).2.2))])) rfl ?_
  refine R_mv (@rfl V (iV ((sftR t o w).1))) ?_
  refine R_mv (@rfl V (V.sl (List.map cI ((sftR t o w).2.1)))) ?_
  refine R_mv (@rfl V (iV ((sftR t o w).2.2))) ?_
  exact R_nil ⟨t3, t4, t5, t7, t8, t9, rfl, rfl, rfl, h3, h4, h5, trivial⟩
 intro T H ⟨t3, t4, t5, t7, t8, t9, t10, t11, t12, h3, h4, h5, _⟩
 refine W_seq_seq ?_
 refine W_seq_regc (fun T H => T 3 = (V.mp 3 1 0 0) ∧ T 4 = (V.mp 4 1 0 0) ∧ T 5 = (V.mp 5 1 0 0) ∧ T 7 = (iV ((sftR t o v).1)) ∧ T 10 = (iV ((sftR t o w).1)) ∧ T 83 = (V.bool (decide (((((((sftR t o v).2.2) ≠ (0 : Int)) ∨ (((sftR t o w).2.2) ≠ (0 : Int))) ∨ ((0 : Int) < ((((sftR t o v).2.1).length : Nat) : Int))) ∨ ((0 : Int) < ((((sftR t o w).2.1).length : Nat) : Int))) ∨ (((sftR t o v).1) = ((sftR t o w).1))))) ∧ H 3 = (⟨1, true, false, 24, 1, [[(V.sl (List.map cN (t.nd)))]]⟩ : Blk) ∧ H 4 = (⟨1, true, false, 37, 2, [[(iV (o.i)), (V.sl (List.map cT (o.tr)))]]⟩ : Blk) ∧ H 5 = (⟨1, true, false, 46, 2, [[(V.sl (List.map cI (v))), (V.sl (List.map cI (w)))]]⟩ : Blk) ∧ True) ?_ ?_
 ·
  unfold r8_5
  refine R_mv t9 ?_
  refine R_neq (x := ((sftR t o v).2.2)) (y := (0 : Int)) (@rfl V (iV ((sftR t o v).2.2))) (@rfl V (iV (0 : Int))) ?_
  refine R_mv (@rfl V (V.bool (decide (((sftR t o v).2.2) ≠ (0 : Int))))) ?_
  refine Ops_seg 3 (fun T H => T 3 = (V.mp 3 1 0 0) ∧ T 4 = (V.mp 4 1 0 0) ∧ T 5 = (V.mp 5 1 0 0) ∧ T 7 = (iV ((sftR t o v).1)) ∧ T 8 = (V.sl (List.map cI ((sftR t o v).2.1))) ∧ T 10 = (iV ((sftR t o w).1)) ∧ T 11 = (V.sl (List.map cI ((sftR t o w).2.1))) ∧ T 68 = (V.bool (decide ((((sftR t o v).2.2) ≠ (0 : Int)) ∨ (((sftR t o w).2.2) ≠ (0 : Int))))) ∧ H 3 = (⟨1, true, false, 24, 1, [[(V.sl (List.map cN (t.nd)))]]⟩ : Blk) ∧ H 4 = (⟨1, true, false, 37, 2, [[(iV (o.i)), (V.sl (List.map cT (o.tr)))]]⟩ : Blk) ∧ H 5 = (⟨1, true, false, 46, 2, [[(V.sl (List.map cI (v))), (V.sl (List.map cI (w)))]]⟩ : Blk) ∧ True) ?_ ?_
  ·
   by_cases g6 : ((sftR t o v).2.2) ≠ (0 : Int)
   ·
    refine G_no (Eq.trans (@rfl V (V.bool (decide (((sftR t o v).2.2) ≠ (0 : Int))))) (bdT g6)) (by decide) ?_
    refine G_no (Eq.trans (@rfl V (V.bool (decide (((sftR t o v).2.2) ≠ (0 : Int))))) (bdT g6)) (by decide) ?_
    refine R_pickT (Eq.trans (@rfl V (V.bool (decide (((sftR t o v).2.2) ≠ (0 : Int))))) (bdT g6)) (@rfl V (V.bool true)) ?_
    exact ⟨t3, t4, t5, t7, t8, t10, t11, (Eq.trans (@rfl V (V.bool true)) (dec_orT g6)), h3, h4, h5, trivial⟩
   ·
    refine G_yes (Eq.trans (@rfl V (V.bool (decide (((sftR t o v).2.2) ≠ (0 : Int))))) (bdF g6)) ?_
    refine R_mv t12 ?_
    refine G_yes (Eq.trans (@rfl V (V.bool (decide (((sftR t o v).2.2) ≠ (0 : Int))))) (bdF g6)) ?_
    refine R_neq (x := ((sftR t o w).2.2)) (y := (0 : Int)) (@rfl V (iV ((sftR t o w).2.2))) (@rfl V (iV (0 : Int))) ?_
    refine R_pickF (Eq.trans (@rfl V (V.bool (decide (((sftR t o v).2.2) ≠ (0 : Int))))) (bdF g6)) (@rfl V (V.bool (decide (((sftR t o w).2.2) ≠ (0 : Int))))) ?_
    exact ⟨t3, t4, t5, t7, t8, t10, t11, (Eq.trans (@rfl V (V.bool (decide (((sftR t o w).2.2) ≠ (0 : Int))))) (dec_orF g6)), h3, h4, h5, trivial⟩
  intro T H ⟨t3, t4, t5, t7, t8, t10, t11, t68, h3, h4, h5, _⟩
  refine R_mv t68 ?_
  refine Ops_seg 4 (fun T H => T 3 = (V.mp 3 1 0 0) ∧ T 4 = (V.mp 4 1 0 0) ∧ T 5 = (V.mp 5 1 0 0) ∧ T 7 = (iV ((sftR t o v).1)) ∧ T 10 = (iV ((sftR t o w).1)) ∧ T 11 = (V.sl (List.map cI ((sftR t o w).2.1))) ∧ T 73 = (V.bool (decide (((((sftR t o v).2.2) ≠ (0 : Int)) ∨ (((sftR t o w).2.2) ≠ (0 : Int))) ∨ ((0 : Int) < ((((sftR t o v).2.1).length : Nat) : Int))))) ∧ H 3 = (⟨1, true, false, 24, 1, [[(V.sl (List.map cN (t.nd)))]]⟩ : Blk) ∧ H 4 = (⟨1, true, false, 37, 2, [[(iV (o.i)), (V.sl (List.map cT (o.tr)))]]⟩ : Blk) ∧ H 5 = (⟨1, true, false, 46, 2, [[(V.sl (List.map cI (v))), (V.sl (List.map cI (w)))]]⟩ : Blk) ∧ True) ?_ ?_
  ·
   by_cases g7 : (((sftR t o v).2.2) ≠ (0 : Int)) ∨ (((sftR t o w).2.2) ≠ (0 : Int))
   ·
    refine G_no (Eq.trans (@rfl V (V.bool (decide ((((sftR t o v).2.2) ≠ (0 : Int)) ∨ (((sftR t o w).2.2) ≠ (0 : Int)))))) (bdT g7)) (by decide) ?_
    refine G_no (Eq.trans (@rfl V (V.bool (decide ((((sftR t o v).2.2) ≠ (0 : Int)) ∨ (((sftR t o w).2.2) ≠ (0 : Int)))))) (bdT g7)) (by decide) ?_
    refine G_no (Eq.trans (@rfl V (V.bool (decide ((((sftR t o v).2.2) ≠ (0 : Int)) ∨ (((sftR t o w).2.2) ≠ (0 : Int)))))) (bdT g7)) (by decide) ?_
    refine R_pickT (Eq.trans (@rfl V (V.bool (decide ((((sftR t o v).2.2) ≠ (0 : Int)) ∨ (((sftR t o w).2.2) ≠ (0 : Int)))))) (bdT g7)) (@rfl V (V.bool true)) ?_
    exact ⟨t3, t4, t5, t7, t10, t11, (Eq.trans (@rfl V (V.bool true)) (dec_orT g7)), h3, h4, h5, trivial⟩
   ·
    refine G_yes (Eq.trans (@rfl V (V.bool (decide ((((sftR t o v).2.2) ≠ (0 : Int)) ∨ (((sftR t o w).2.2) ≠ (0 : Int)))))) (bdF g7)) ?_
    refine R_mv t8 ?_
    refine G_yes (Eq.trans (@rfl V (V.bool (decide ((((sftR t o v).2.2) ≠ (0 : Int)) ∨ (((sftR t o w).2.2) ≠ (0 : Int)))))) (bdF g7)) ?_
    refine R_len (@rfl V (V.sl (List.map cI ((sftR t o v).2.1)))) ?_
    refine G_yes (Eq.trans (@rfl V (V.bool (decide ((((sftR t o v).2.2) ≠ (0 : Int)) ∨ (((sftR t o w).2.2) ≠ (0 : Int)))))) (bdF g7)) ?_
    refine R_gtr (x := ((((sftR t o v).2.1).length : Nat) : Int)) (y := (0 : Int)) (@rfl V (iV ((((sftR t o v).2.1).length : Nat) : Int))) (@rfl V (iV (0 : Int))) ?_
    refine R_pickF (Eq.trans (@rfl V (V.bool (decide ((((sftR t o v).2.2) ≠ (0 : Int)) ∨ (((sftR t o w).2.2) ≠ (0 : Int)))))) (bdF g7)) (@rfl V (V.bool (decide ((0 : Int) < ((((sftR t o v).2.1).length : Nat) : Int))))) ?_
    exact ⟨t3, t4, t5, t7, t10, t11, (Eq.trans (@rfl V (V.bool (decide ((0 : Int) < ((((sftR t o v).2.1).length : Nat) : Int))))) (dec_orF g7)), h3, h4, h5, trivial⟩
  intro T H ⟨t3, t4, t5, t7, t10, t11, t73, h3, h4, h5, _⟩
  refine R_mv t73 ?_
  refine Ops_seg 4 (fun T H => T 3 = (V.mp 3 1 0 0) ∧ T 4 = (V.mp 4 1 0 0) ∧ T 5 = (V.mp 5 1 0 0) ∧ T 7 = (iV ((sftR t o v).1)) ∧ T 10 = (iV ((sftR t o w).1)) ∧ T 78 = (V.bool (decide ((((((sftR t o v).2.2) ≠ (0 : Int)) ∨ (((sftR t o w).2.2) ≠ (0 : Int))) ∨ ((0 : Int) < ((((sftR t o v).2.1).length : Nat) : Int))) ∨ ((0 : Int) < ((((sftR t o w).2.1).length : Nat) : Int))))) ∧ H 3 = (⟨1, true, false, 24, 1, [[(V.sl (List.map cN (t.nd)))]]⟩ : Blk) ∧ H 4 = (⟨1, true, false, 37, 2, [[(iV (o.i)), (V.sl (List.map cT (o.tr)))]]⟩ : Blk) ∧ H 5 = (⟨1, true, false, 46, 2, [[(V.sl (List.map cI (v))), (V.sl (List.map cI (w)))]]⟩ : Blk) ∧ True) ?_ ?_
  ·
   by_cases g8 : ((((sftR t o v).2.2) ≠ (0 : Int)) ∨ (((sftR t o w).2.2) ≠ (0 : Int))) ∨ ((0 : Int) < ((((sftR t o v).2.1).length : Nat) : Int))
   ·
    refine G_no (Eq.trans (@rfl V (V.bool (decide (((((sftR t o v).2.2) ≠ (0 : Int)) ∨ (((sftR t o w).2.2) ≠ (0 : Int))) ∨ ((0 : Int) < ((((sftR t o v).2.1).length : Nat) : Int)))))) (bdT g8)) (by decide) ?_
    refine G_no (Eq.trans (@rfl V (V.bool (decide (((((sftR t o v).2.2) ≠ (0 : Int)) ∨ (((sftR t o w).2.2) ≠ (0 : Int))) ∨ ((0 : Int) < ((((sftR t o v).2.1).length : Nat) : Int)))))) (bdT g8)) (by decide) ?_
    refine G_no (Eq.trans (@rfl V (V.bool (decide (((((sftR t o v).2.2) ≠ (0 : Int)) ∨ (((sftR t o w).2.2) ≠ (0 : Int))) ∨ ((0 : Int) < ((((sftR t o v).2.1).length : Nat) : Int)))))) (bdT g8)) (by decide) ?_
    refine R_pickT (Eq.trans (@rfl V (V.bool (decide (((((sftR t o v).2.2) ≠ (0 : Int)) ∨ (((sftR t o w).2.2) ≠ (0 : Int))) ∨ ((0 : Int) < ((((sftR t o v).2.1).length : Nat) : Int)))))) (bdT g8)) (@rfl V (V.bool true)) ?_
    exact ⟨t3, t4, t5, t7, t10, (Eq.trans (@rfl V (V.bool true)) (dec_orT g8)), h3, h4, h5, trivial⟩
   ·
    refine G_yes (Eq.trans (@rfl V (V.bool (decide (((((sftR t o v).2.2) ≠ (0 : Int)) ∨ (((sftR t o w).2.2) ≠ (0 : Int))) ∨ ((0 : Int) < ((((sftR t o v).2.1).length : Nat) : Int)))))) (bdF g8)) ?_
    refine R_mv t11 ?_
    refine G_yes (Eq.trans (@rfl V (V.bool (decide (((((sftR t o v).2.2) ≠ (0 : Int)) ∨ (((sftR t o w).2.2) ≠ (0 : Int))) ∨ ((0 : Int) < ((((sftR t o v).2.1).length : Nat) : Int)))))) (bdF g8)) ?_
    refine R_len (@rfl V (V.sl (List.map cI ((sftR t o w).2.1)))) ?_
    refine G_yes (Eq.trans (@rfl V (V.bool (decide (((((sftR t o v).2.2) ≠ (0 : Int)) ∨ (((sftR t o w).2.2) ≠ (0 : Int))) ∨ ((0 : Int) < ((((sftR t o v).2.1).length : Nat) : Int)))))) (bdF g8)) ?_
    refine R_gtr (x := ((((sftR t o w).2.1).length : Nat) : Int)) (y := (0 : Int)) (@rfl V (iV ((((sftR t o w).2.1).length : Nat) : Int))) (@rfl V (iV (0 : Int))) ?_
    refine R_pickF (Eq.trans (@rfl V (V.bool (decide (((((sftR t o v).2.2) ≠ (0 : Int)) ∨ (((sftR t o w).2.2) ≠ (0 : Int))) ∨ ((0 : Int) < ((((sftR t o v).2.1).length : Nat) : Int)))))) (bdF g8)) (@rfl V (V.bool (decide ((0 : Int) < ((((sftR t o w).2.1).length : Nat) : Int))))) ?_
    exact ⟨t3, t4, t5, t7, t10, (Eq.trans (@rfl V (V.bool (decide ((0 : Int) < ((((sftR t o w).2.1).length : Nat) : Int))))) (dec_orF g8)), h3, h4, h5, trivial⟩
  intro T H ⟨t3, t4, t5, t7, t10, t78, h3, h4, h5, _⟩
  refine R_mv t78 ?_
  refine Ops_seg 4 (fun T H => T 3 = (V.mp 3 1 0 0) ∧ T 4 = (V.mp 4 1 0 0) ∧ T 5 = (V.mp 5 1 0 0) ∧ T 7 = (iV ((sftR t o v).1)) ∧ T 10 = (iV ((sftR t o w).1)) ∧ T 83 = (V.bool (decide (((((((sftR t o v).2.2) ≠ (0 : Int)) ∨ (((sftR t o w).2.2) ≠ (0 : Int))) ∨ ((0 : Int) < ((((sftR t o v).2.1).length : Nat) : Int))) ∨ ((0 : Int) < ((((sftR t o w).2.1).length : Nat) : Int))) ∨ (((sftR t o v).1) = ((sftR t o w).1))))) ∧ H 3 = (⟨1, true, false, 24, 1, [[(V.sl (List.map cN (t.nd)))]]⟩ : Blk) ∧ H 4 = (⟨1, true, false, 37, 2, [[(iV (o.i)), (V.sl (List.map cT (o.tr)))]]⟩ : Blk) ∧ H 5 = (⟨1, true, false, 46, 2, [[(V.sl (List.map cI (v))), (V.sl (List.map cI (w)))]]⟩ : Blk) ∧ True) ?_ ?_
  ·
   by_cases g9 : (((((sftR t o v).2.2) ≠ (0 : Int)) ∨ (((sftR t o w).2.2) ≠ (0 : Int))) ∨ ((0 : Int) < ((((sftR t o v).2.1).length : Nat) : Int))) ∨ ((0 : Int) < ((((sftR t o w).2.1).length : Nat) : Int))
   ·
    refine G_no (Eq.trans (@rfl V (V.bool (decide ((((((sftR t o v).2.2) ≠ (0 : Int)) ∨ (((sftR t o w).2.2) ≠ (0 : Int))) ∨ ((0 : Int) < ((((sftR t o v).2.1).length : Nat) : Int))) ∨ ((0 : Int) < ((((sftR t o w).2.1).length : Nat) : Int)))))) (bdT g9)) (by decide) ?_
    refine G_no (Eq.trans (@rfl V (V.bool (decide ((((((sftR t o v).2.2) ≠ (0 : Int)) ∨ (((sftR t o w).2.2) ≠ (0 : Int))) ∨ ((0 : Int) < ((((sftR t o v).2.1).length : Nat) : Int))) ∨ ((0 : Int) < ((((sftR t o w).2.1).length : Nat) : Int)))))) (bdT g9)) (by decide) ?_
    refine G_no (Eq.trans (@rfl V (V.bool (decide ((((((sftR t o v).2.2) ≠ (0 : Int)) ∨ (((sftR t o w).2.2) ≠ (0 : Int))) ∨ ((0 : Int) < ((((sftR t o v).2.1).length : Nat) : Int))) ∨ ((0 : Int) < ((((sftR t o w).2.1).length : Nat) : Int)))))) (bdT g9)) (by decide) ?_
    refine R_pickT (Eq.trans (@rfl V (V.bool (decide ((((((sftR t o v).2.2) ≠ (0 : Int)) ∨ (((sftR t o w).2.2) ≠ (0 : Int))) ∨ ((0 : Int) < ((((sftR t o v).2.1).length : Nat) : Int))) ∨ ((0 : Int) < ((((sftR t o w).2.1).length : Nat) : Int)))))) (bdT g9)) (@rfl V (V.bool true)) ?_
    exact ⟨t3, t4, t5, t7, t10, (Eq.trans (@rfl V (V.bool true)) (dec_orT g9)), h3, h4, h5, trivial⟩
   ·
    refine G_yes (Eq.trans (@rfl V (V.bool (decide ((((((sftR t o v).2.2) ≠ (0 : Int)) ∨ (((sftR t o w).2.2) ≠ (0 : Int))) ∨ ((0 : Int) < ((((sftR t o v).2.1).length : Nat) : Int))) ∨ ((0 : Int) < ((((sftR t o w).2.1).length : Nat) : Int)))))) (bdF g9)) ?_
    refine R_mv t7 ?_
    refine G_yes (Eq.trans (@rfl V (V.bool (decide ((((((sftR t o v).2.2) ≠ (0 : Int)) ∨ (((sftR t o w).2.2) ≠ (0 : Int))) ∨ ((0 : Int) < ((((sftR t o v).2.1).length : Nat) : Int))) ∨ ((0 : Int) < ((((sftR t o w).2.1).length : Nat) : Int)))))) (bdF g9)) ?_
    refine R_mv t10 ?_
    refine G_yes (Eq.trans (@rfl V (V.bool (decide ((((((sftR t o v).2.2) ≠ (0 : Int)) ∨ (((sftR t o w).2.2) ≠ (0 : Int))) ∨ ((0 : Int) < ((((sftR t o v).2.1).length : Nat) : Int))) ∨ ((0 : Int) < ((((sftR t o w).2.1).length : Nat) : Int)))))) (bdF g9)) ?_
    refine R_eql (x := ((sftR t o v).1)) (y := ((sftR t o w).1)) (@rfl V (iV ((sftR t o v).1))) (@rfl V (iV ((sftR t o w).1))) ?_
    refine R_pickF (Eq.trans (@rfl V (V.bool (decide ((((((sftR t o v).2.2) ≠ (0 : Int)) ∨ (((sftR t o w).2.2) ≠ (0 : Int))) ∨ ((0 : Int) < ((((sftR t o v).2.1).length : Nat) : Int))) ∨ ((0 : Int) < ((((sftR t o w).2.1).length : Nat) : Int)))))) (bdF g9)) (@rfl V (V.bool (decide (((sftR t o v).1) = ((sftR t o w).1))))) ?_
    exact ⟨t3, t4, t5, t7, t10, (Eq.trans (@rfl V (V.bool (decide (((sftR t o v).1) = ((sftR t o w).1))))) (dec_orF g9)), h3, h4, h5, trivial⟩
  intro T H ⟨t3, t4, t5, t7, t10, t83, h3, h4, h5, _⟩
  exact R_nil ⟨t3, t4, t5, t7, t10, t83, h3, h4, h5, trivial⟩
 intro T H ⟨t3, t4, t5, t7, t10, t83, h3, h4, h5, _⟩
 refine W_seq_if (p := ((((((sftR t o v).2.2) ≠ (0 : Int)) ∨ (((sftR t o w).2.2) ≠ (0 : Int))) ∨ ((0 : Int) < ((((sftR t o v).2.1).length : Nat) : Int))) ∨ ((0 : Int) < ((((sftR t o w).2.1).length : Nat) : Int))) ∨ (((sftR t o v).1) = ((sftR t o w).1))) t83 (fun c10 => ?_) (fun c10 => ?_)
 ·
  refine W_seq_seq ?_
  refine W_seq_regc (fun T H => T 6 = (V.bool true) ∧ H 3 = (⟨1, true, false, 24, 1, [[(V.sl (List.map cN (t.nd)))]]⟩ : Blk) ∧ H 4 = (⟨1, true, false, 37, 2, [[(iV (o.i)), (V.sl (List.map cT (o.tr)))]]⟩ : Blk) ∧ H 5 = (⟨1, true, false, 46, 2, [[(V.sl (List.map cI (v))), (V.sl (List.map cI (w)))]]⟩ : Blk) ∧ True) ?_ ?_
  ·
   unfold r8_6
   refine R_call evnil (aw_learnerlaw26_awake_pure) (fzv_mapcanon _ _ (by simp [-List.map_take, -List.map_drop, -List.map_append, -List.map_reverse])) (by simp [-List.map_take, -List.map_drop, -List.map_append, -List.map_reverse]) (Or.inl (by simp [-List.map_take, -List.map_drop, -List.map_append, -List.map_reverse])) ?_
   refine R_mv (@rfl V (V.bool true)) ?_
   exact R_nil ⟨rfl, h3, h4, h5, trivial⟩
  intro T H ⟨t6, h3, h4, h5, _⟩
  refine W_seq_ret ?_
  refine Ret_1 t6 (fz_canon (by simp) rfl)
 have q7 := c10
 simp only [not_or, ne_eq, Decidable.not_not] at q7
 obtain ⟨⟨⟨⟨k1, k2⟩, k3⟩, k4⟩, k5⟩ := q7
 refine W_seq_skip ?_
 refine W_seq_regc (fun T H => T 4 = (V.mp 4 1 0 0) ∧ T 5 = (V.mp 5 1 0 0) ∧ T 13 = (V.sl (List.map cI (cmR t (((sftR t o v).1)) (((sftR t o w).1))))) ∧ T 14 = (iV (cmE t (((sftR t o v).1)) (((sftR t o w).1)))) ∧ H 3 = (⟨1, true, false, 24, 1, [[(V.sl (List.map cN (t.nd)))]]⟩ : Blk) ∧ H 4 = (⟨1, true, false, 37, 2, [[(iV (o.i)), (V.sl (List.map cT (o.tr)))]]⟩ : Blk) ∧ H 5 = (⟨1, true, false, 46, 2, [[(V.sl (List.map cI (v))), (V.sl (List.map cI (w)))]]⟩ : Blk) ∧ True) ?_ ?_
 ·
  unfold r8_7
  refine R_load_mp (v := (V.agg [(V.sl (List.map cN (t.nd)))])) t3 h3 (by first | rfl | simp [ldB, ldV, Blk.own, V.one]) ?_
  refine R_mv t7 ?_
  refine R_mv t10 ?_
  refine R_call (evcons (@rfl V (V.agg [(V.sl (List.map cN (t.nd)))])) (evcons (@rfl V (iV ((sftR t o v).1))) (evcons (@rfl V (iV ((sftR t o w).1))) evnil))) (dcommon_pure t (((sftR t o v).1)) (((sftR t o w).1)) hb) (fzv_mapcanon _ _ (by simp [-List.map_take, -List.map_drop, -List.map_append, -List.map_reverse])) (by simp [-List.map_take, -List.map_drop, -List.map_append, -List.map_reverse]) (Or.inl (by simp [-List.map_take, -List.map_drop, -List.map_append, -List.map_reverse])) ?_
  refine R_mv (@rfl V (V.tup [(V.sl (List.map cI (cmR t (((sftR t o v).1)) (((sftR t o w).1))))), (iV (cmE t (((sftR t o v).1)) (((sftR t o w).1))))])) ?_
  refine R_ext (v := (V.sl (List.map cI (cmR t (((sftR t o v).1)) (((sftR t o w).1)))))) (@rfl V (V.tup [(V.sl (List.map cI (cmR t (((sftR t o v).1)) (((sftR t o w).1))))), (iV (cmE t (((sftR t o v).1)) (((sftR t o w).1))))])) rfl ?_
  refine R_ext (v := (iV (cmE t (((sftR t o v).1)) (((sftR t o w).1))))) (@rfl V (V.tup [(V.sl (List.map cI (cmR t (((sftR t o v).1)) (((sftR t o w).1))))), (iV (cmE t (((sftR t o v).1)) (((sftR t o w).1))))])) rfl ?_
  refine R_mv (@rfl V (V.sl (List.map cI (cmR t (((sftR t o v).1)) (((sftR t o w).1)))))) ?_
  refine R_mv (@rfl V (iV (cmE t (((sftR t o v).1)) (((sftR t o w).1))))) ?_
  exact R_nil ⟨t4, t5, rfl, rfl, h3, h4, h5, trivial⟩
 intro T H ⟨t4, t5, t13, t14, h3, h4, h5, _⟩
 refine W_seq_seq ?_
 refine W_seq_regc (fun T H => T 4 = (V.mp 4 1 0 0) ∧ T 5 = (V.mp 5 1 0 0) ∧ T 13 = (V.sl (List.map cI (cmR t (((sftR t o v).1)) (((sftR t o w).1))))) ∧ T 14 = (iV (cmE t (((sftR t o v).1)) (((sftR t o w).1)))) ∧ T 93 = (V.bool (decide ((cmE t (((sftR t o v).1)) (((sftR t o w).1))) = (10 : Int)))) ∧ H 3 = (⟨1, true, false, 24, 1, [[(V.sl (List.map cN (t.nd)))]]⟩ : Blk) ∧ H 4 = (⟨1, true, false, 37, 2, [[(iV (o.i)), (V.sl (List.map cT (o.tr)))]]⟩ : Blk) ∧ H 5 = (⟨1, true, false, 46, 2, [[(V.sl (List.map cI (v))), (V.sl (List.map cI (w)))]]⟩ : Blk) ∧ True) ?_ ?_
 ·
  unfold r8_8
  refine R_mv t14 ?_
  refine R_eql (x := (cmE t (((sftR t o v).1)) (((sftR t o w).1)))) (y := (10 : Int)) (@rfl V (iV (cmE t (((sftR t o v).1)) (((sftR t o w).1))))) (@rfl V (iV (10 : Int))) ?_
  exact R_nil ⟨t4, t5, t13, t14, rfl, h3, h4, h5, trivial⟩
 intro T H ⟨t4, t5, t13, t14, t93, h3, h4, h5, _⟩
 refine W_seq_if (p := (cmE t (((sftR t o v).1)) (((sftR t o w).1))) = (10 : Int)) t93 (fun c11 => ?_) (fun c11 => ?_)
 ·
  refine W_seq_seq ?_
  refine W_seq_regc (fun T H => T 6 = (V.bool true) ∧ H 3 = (⟨1, true, false, 24, 1, [[(V.sl (List.map cN (t.nd)))]]⟩ : Blk) ∧ H 4 = (⟨1, true, false, 37, 2, [[(iV (o.i)), (V.sl (List.map cT (o.tr)))]]⟩ : Blk) ∧ H 5 = (⟨1, true, false, 46, 2, [[(V.sl (List.map cI (v))), (V.sl (List.map cI (w)))]]⟩ : Blk) ∧ True) ?_ ?_
  ·
   unfold r8_9
   refine R_call evnil (aw_learnerlaw26_awake_pure) (fzv_mapcanon _ _ (by simp [-List.map_take, -List.map_drop, -List.map_append, -List.map_reverse])) (by simp [-List.map_take, -List.map_drop, -List.map_append, -List.map_reverse]) (Or.inl (by simp [-List.map_take, -List.map_drop, -List.map_append, -List.map_reverse])) ?_
   refine R_mv (@rfl V (V.bool true)) ?_
   exact R_nil ⟨rfl, h3, h4, h5, trivial⟩
  intro T H ⟨t6, h3, h4, h5, _⟩
  refine W_seq_ret ?_
  refine Ret_1 t6 (fz_canon (by simp) rfl)
 obtain ⟨z1, z2, z3, z4, z5, z6⟩ := parts_all (v := v) (w := w) hb ho k1 k2 (by omega) (by omega) k5 c11
 have z7 := cmR_len hb (sftR t o v).1 (sftR t o w).1
 refine W_seq_skip ?_
 refine W_seq_regc (fun T H => T 4 = (V.mp 4 1 0 0) ∧ T 5 = (V.mp 5 1 0 0) ∧ T 13 = (V.sl (List.map cI (cmR t (((sftR t o v).1)) (((sftR t o w).1))))) ∧ T 14 = (iV (cmE t (((sftR t o v).1)) (((sftR t o w).1)))) ∧ T 15 = (V.sl (List.map cI ((ans o (cat ([v, cmR t (((sftR t o v).1)) (((sftR t o w).1))]))).getD []))) ∧ T 16 = (V.bool ((ans o (cat ([v, cmR t (((sftR t o v).1)) (((sftR t o w).1))]))).isSome)) ∧ H 3 = (⟨1, true, false, 24, 1, [[(V.sl (List.map cN (t.nd)))]]⟩ : Blk) ∧ H 4 = (⟨1, true, false, 37, 2, [[(iV (o.i)), (V.sl (List.map cT (o.tr)))]]⟩ : Blk) ∧ H 5 = (⟨1, true, false, 46, 2, [[(V.sl (List.map cI (v))), (V.sl (List.map cI (w)))]]⟩ : Blk) ∧ True) ?_ ?_
 ·
  unfold r8_10
  refine R_load_mp (v := (V.agg [(iV (o.i)), (V.sl (List.map cT (o.tr)))])) t4 h4 (by first | rfl | simp [ldB, ldV, Blk.own, V.one]) ?_
  refine R_apos_mp (i := 0) (o' := 0) t5 (@rfl V (iV ((0 : Nat) : Int))) h5 (by first | rfl | simp [okB, Blk.own]) (by decide) rfl ?_
  refine R_load_mp (v := (V.sl (List.map cI (v)))) (@rfl V (V.mp 5 1 0 0)) h5 (by first | rfl | simp [ldB, ldV, Blk.own, V.one]) ?_
  refine R_mv t13 ?_
  refine R_bslice (qs := [(0, (V.sl (List.map cI (v)))), (1, (V.sl (List.map cI (cmR t (((sftR t o v).1)) (((sftR t o w).1))))))]) (rows := [[(V.sl (List.map cI (v)))], [(V.sl (List.map cI (cmR t (((sftR t o v).1)) (((sftR t o w).1)))))]]) (mcons (congrArg (fun v => (0, v)) (@rfl V (V.sl (List.map cI (v))))) (mcons (congrArg (fun v => (1, v)) (@rfl V (V.sl (List.map cI (cmR t (((sftR t o v).1)) (((sftR t o w).1))))))) rfl)) rfl ?_
  refine R_call (evcons (@rfl V (V.sl [[(V.sl (List.map cI (v)))], [(V.sl (List.map cI (cmR t (((sftR t o v).1)) (((sftR t o w).1)))))]])) evnil) (join_pure ([v, cmR t (((sftR t o v).1)) (((sftR t o w).1))]) (by simp only [cat, List.append_nil, List.length_append]; omega)) (fzv_mapcanon _ _ (by simp [-List.map_take, -List.map_drop, -List.map_append, -List.map_reverse])) (by simp [-List.map_take, -List.map_drop, -List.map_append, -List.map_reverse]) (Or.inl (by simp [-List.map_take, -List.map_drop, -List.map_append, -List.map_reverse])) ?_
  refine R_call (evcons (@rfl V (V.agg [(iV (o.i)), (V.sl (List.map cT (o.tr)))])) (evcons (@rfl V (V.sl (List.map cI (cat ([v, cmR t (((sftR t o v).1)) (((sftR t o w).1))]))))) evnil)) (ranswer_pure o (cat ([v, cmR t (((sftR t o v).1)) (((sftR t o w).1))])) ho) (fzv_mapcanon _ _ (by simp [-List.map_take, -List.map_drop, -List.map_append, -List.map_reverse])) (by simp [-List.map_take, -List.map_drop, -List.map_append, -List.map_reverse]) (Or.inl (by simp [-List.map_take, -List.map_drop, -List.map_append, -List.map_reverse])) ?_
  refine R_mv (@rfl V (V.tup [(V.sl (List.map cI ((ans o (cat ([v, cmR t (((sftR t o v).1)) (((sftR t o w).1))]))).getD []))), (V.bool ((ans o (cat ([v, cmR t (((sftR t o v).1)) (((sftR t o w).1))]))).isSome))])) ?_
  refine R_ext (v := (V.sl (List.map cI ((ans o (cat ([v, cmR t (((sftR t o v).1)) (((sftR t o w).1))]))).getD [])))) (@rfl V (V.tup [(V.sl (List.map cI ((ans o (cat ([v, cmR t (((sftR t o v).1)) (((sftR t o w).1))]))).getD []))), (V.bool ((ans o (cat ([v, cmR t (((sftR t o v).1)) (((sftR t o w).1))]))).isSome))])) rfl ?_
  refine R_ext (v := (V.bool ((ans o (cat ([v, cmR t (((sftR t o v).1)) (((sftR t o w).1))]))).isSome))) (@rfl V (V.tup [(V.sl (List.map cI ((ans o (cat ([v, cmR t (((sftR t o v).1)) (((sftR t o w).1))]))).getD []))), (V.bool ((ans o (cat ([v, cmR t (((sftR t o v).1)) (((sftR t o w).1))]))).isSome))])) rfl ?_
  refine R_mv (@rfl V (V.sl (List.map cI ((ans o (cat ([v, cmR t (((sftR t o v).1)) (((sftR t o w).1))]))).getD [])))) ?_
  refine R_mv (@rfl V (V.bool ((ans o (cat ([v, cmR t (((sftR t o v).1)) (((sftR t o w).1))]))).isSome))) ?_
  exact R_nil ⟨t4, t5, t13, t14, rfl, rfl, h3, h4, h5, trivial⟩
 intro T H ⟨t4, t5, t13, t14, t15, t16, h3, h4, h5, _⟩
 refine W_seq_regc (fun T H => T 5 = (V.mp 5 1 0 0) ∧ T 14 = (iV (cmE t (((sftR t o v).1)) (((sftR t o w).1)))) ∧ T 15 = (V.sl (List.map cI ((ans o (cat ([v, cmR t (((sftR t o v).1)) (((sftR t o w).1))]))).getD []))) ∧ T 16 = (V.bool ((ans o (cat ([v, cmR t (((sftR t o v).1)) (((sftR t o w).1))]))).isSome)) ∧ T 17 = (V.sl (List.map cI ((ans o (cat ([w, cmR t (((sftR t o v).1)) (((sftR t o w).1))]))).getD []))) ∧ T 18 = (V.bool ((ans o (cat ([w, cmR t (((sftR t o v).1)) (((sftR t o w).1))]))).isSome)) ∧ H 3 = (⟨1, true, false, 24, 1, [[(V.sl (List.map cN (t.nd)))]]⟩ : Blk) ∧ H 4 = (⟨1, true, false, 37, 2, [[(iV (o.i)), (V.sl (List.map cT (o.tr)))]]⟩ : Blk) ∧ H 5 = (⟨1, true, false, 46, 2, [[(V.sl (List.map cI (v))), (V.sl (List.map cI (w)))]]⟩ : Blk) ∧ True) ?_ ?_
 ·
  unfold r8_11
  refine R_load_mp (v := (V.agg [(iV (o.i)), (V.sl (List.map cT (o.tr)))])) t4 h4 (by first | rfl | simp [ldB, ldV, Blk.own, V.one]) ?_
  refine R_apos_mp (i := 1) (o' := 1) t5 (@rfl V (iV ((1 : Nat) : Int))) h5 (by first | rfl | simp [okB, Blk.own]) (by decide) rfl ?_
  refine R_load_mp (v := (V.sl (List.map cI (w)))) (@rfl V (V.mp 5 1 0 1)) h5 (by first | rfl | simp [ldB, ldV, Blk.own, V.one]) ?_
  refine R_mv t13 ?_
  refine R_bslice (qs := [(0, (V.sl (List.map cI (w)))), (1, (V.sl (List.map cI (cmR t (((sftR t o v).1)) (((sftR t o w).1))))))]) (rows := [[(V.sl (List.map cI (w)))], [(V.sl (List.map cI (cmR t (((sftR t o v).1)) (((sftR t o w).1)))))]]) (mcons (congrArg (fun v => (0, v)) (@rfl V (V.sl (List.map cI (w))))) (mcons (congrArg (fun v => (1, v)) (@rfl V (V.sl (List.map cI (cmR t (((sftR t o v).1)) (((sftR t o w).1))))))) rfl)) rfl ?_
  refine R_call (evcons (@rfl V (V.sl [[(V.sl (List.map cI (w)))], [(V.sl (List.map cI (cmR t (((sftR t o v).1)) (((sftR t o w).1)))))]])) evnil) (join_pure ([w, cmR t (((sftR t o v).1)) (((sftR t o w).1))]) (by simp only [cat, List.append_nil, List.length_append]; omega)) (fzv_mapcanon _ _ (by simp [-List.map_take, -List.map_drop, -List.map_append, -List.map_reverse])) (by simp [-List.map_take, -List.map_drop, -List.map_append, -List.map_reverse]) (Or.inl (by simp [-List.map_take, -List.map_drop, -List.map_append, -List.map_reverse])) ?_
  refine R_call (evcons (@rfl V (V.agg [(iV (o.i)), (V.sl (List.map cT (o.tr)))])) (evcons (@rfl V (V.sl (List.map cI (cat ([w, cmR t (((sftR t o v).1)) (((sftR t o w).1))]))))) evnil)) (ranswer_pure o (cat ([w, cmR t (((sftR t o v).1)) (((sftR t o w).1))])) ho) (fzv_mapcanon _ _ (by simp [-List.map_take, -List.map_drop, -List.map_append, -List.map_reverse])) (by simp [-List.map_take, -List.map_drop, -List.map_append, -List.map_reverse]) (Or.inl (by simp [-List.map_take, -List.map_drop, -List.map_append, -List.map_reverse])) ?_
  refine R_mv (@rfl V (V.tup [(V.sl (List.map cI ((ans o (cat ([w, cmR t (((sftR t o v).1)) (((sftR t o w).1))]))).getD []))), (V.bool ((ans o (cat ([w, cmR t (((sftR t o v).1)) (((sftR t o w).1))]))).isSome))])) ?_
  refine R_ext (v := (V.sl (List.map cI ((ans o (cat ([w, cmR t (((sftR t o v).1)) (((sftR t o w).1))]))).getD [])))) (@rfl V (V.tup [(V.sl (List.map cI ((ans o (cat ([w, cmR t (((sftR t o v).1)) (((sftR t o w).1))]))).getD []))), (V.bool ((ans o (cat ([w, cmR t (((sftR t o v).1)) (((sftR t o w).1))]))).isSome))])) rfl ?_
  refine R_ext (v := (V.bool ((ans o (cat ([w, cmR t (((sftR t o v).1)) (((sftR t o w).1))]))).isSome))) (@rfl V (V.tup [(V.sl (List.map cI ((ans o (cat ([w, cmR t (((sftR t o v).1)) (((sftR t o w).1))]))).getD []))), (V.bool ((ans o (cat ([w, cmR t (((sftR t o v).1)) (((sftR t o w).1))]))).isSome))])) rfl ?_
  refine R_mv (@rfl V (V.sl (List.map cI ((ans o (cat ([w, cmR t (((sftR t o v).1)) (((sftR t o w).1))]))).getD [])))) ?_
  refine R_mv (@rfl V (V.bool ((ans o (cat ([w, cmR t (((sftR t o v).1)) (((sftR t o w).1))]))).isSome))) ?_
  exact R_nil ⟨t5, t14, t15, t16, rfl, rfl, h3, h4, h5, trivial⟩
 intro T H ⟨t5, t14, t15, t16, t17, t18, h3, h4, h5, _⟩
 refine W_seq_regc (fun T H => T 6 = (V.bool ((((((((decide ((cmE t (((sftR t o v).1)) (((sftR t o w).1))) = (0 : Int)) && ((ans o (cat ([v, cmR t (((sftR t o v).1)) (((sftR t o w).1))]))).isSome))) && ((ans o (cat ([w, cmR t (((sftR t o v).1)) (((sftR t o w).1))]))).isSome))) && decide (¬((List.drop (v.length) ((ans o (cat ([v, cmR t (((sftR t o v).1)) (((sftR t o w).1))]))).getD [])) = (List.drop (w.length) ((ans o (cat ([w, cmR t (((sftR t o v).1)) (((sftR t o w).1))]))).getD [])))))) || false))) ∧ H 3 = (⟨1, true, false, 24, 1, [[(V.sl (List.map cN (t.nd)))]]⟩ : Blk) ∧ H 4 = (⟨1, true, false, 37, 2, [[(iV (o.i)), (V.sl (List.map cT (o.tr)))]]⟩ : Blk) ∧ H 5 = (⟨1, true, false, 46, 2, [[(V.sl (List.map cI (v))), (V.sl (List.map cI (w)))]]⟩ : Blk) ∧ True) ?_ ?_
 ·
  unfold r8_12
  refine R_mv t14 ?_
  refine R_eql (x := (cmE t (((sftR t o v).1)) (((sftR t o w).1)))) (y := (0 : Int)) (@rfl V (iV (cmE t (((sftR t o v).1)) (((sftR t o w).1))))) (@rfl V (iV (0 : Int))) ?_
  refine R_mv (@rfl V (V.bool (decide ((cmE t (((sftR t o v).1)) (((sftR t o w).1))) = (0 : Int))))) ?_
  refine Ops_seg 2 (fun T H => T 5 = (V.mp 5 1 0 0) ∧ T 15 = (V.sl (List.map cI ((ans o (cat ([v, cmR t (((sftR t o v).1)) (((sftR t o w).1))]))).getD []))) ∧ T 17 = (V.sl (List.map cI ((ans o (cat ([w, cmR t (((sftR t o v).1)) (((sftR t o w).1))]))).getD []))) ∧ T 18 = (V.bool ((ans o (cat ([w, cmR t (((sftR t o v).1)) (((sftR t o w).1))]))).isSome)) ∧ T 119 = (V.bool ((decide ((cmE t (((sftR t o v).1)) (((sftR t o w).1))) = (0 : Int)) && ((ans o (cat ([v, cmR t (((sftR t o v).1)) (((sftR t o w).1))]))).isSome)))) ∧ H 3 = (⟨1, true, false, 24, 1, [[(V.sl (List.map cN (t.nd)))]]⟩ : Blk) ∧ H 4 = (⟨1, true, false, 37, 2, [[(iV (o.i)), (V.sl (List.map cT (o.tr)))]]⟩ : Blk) ∧ H 5 = (⟨1, true, false, 46, 2, [[(V.sl (List.map cI (v))), (V.sl (List.map cI (w)))]]⟩ : Blk) ∧ True) ?_ ?_
  ·
   by_cases g12 : (cmE t (((sftR t o v).1)) (((sftR t o w).1))) = (0 : Int)
   ·
    refine G_yes (Eq.trans (@rfl V (V.bool (decide ((cmE t (((sftR t o v).1)) (((sftR t o w).1))) = (0 : Int))))) (bdT g12)) ?_
    refine R_mv t16 ?_
    refine R_pickT (Eq.trans (@rfl V (V.bool (decide ((cmE t (((sftR t o v).1)) (((sftR t o w).1))) = (0 : Int))))) (bdT g12)) (@rfl V (V.bool ((ans o (cat ([v, cmR t (((sftR t o v).1)) (((sftR t o w).1))]))).isSome))) ?_
    exact ⟨t5, t15, t17, t18, (Eq.trans (@rfl V (V.bool ((ans o (cat ([v, cmR t (((sftR t o v).1)) (((sftR t o w).1))]))).isSome))) (dbandT g12)), h3, h4, h5, trivial⟩
   ·
    refine G_no (Eq.trans (@rfl V (V.bool (decide ((cmE t (((sftR t o v).1)) (((sftR t o w).1))) = (0 : Int))))) (bdF g12)) (by decide) ?_
    refine R_pickF (Eq.trans (@rfl V (V.bool (decide ((cmE t (((sftR t o v).1)) (((sftR t o w).1))) = (0 : Int))))) (bdF g12)) (@rfl V (V.bool false)) ?_
    exact ⟨t5, t15, t17, t18, (Eq.trans (@rfl V (V.bool false)) (dbandF g12)), h3, h4, h5, trivial⟩
  intro T H ⟨t5, t15, t17, t18, t119, h3, h4, h5, _⟩
  refine R_mv t119 ?_
  refine Ops_seg 2 (fun T H => T 5 = (V.mp 5 1 0 0) ∧ T 15 = (V.sl (List.map cI ((ans o (cat ([v, cmR t (((sftR t o v).1)) (((sftR t o w).1))]))).getD []))) ∧ T 17 = (V.sl (List.map cI ((ans o (cat ([w, cmR t (((sftR t o v).1)) (((sftR t o w).1))]))).getD []))) ∧ T 122 = (V.bool ((((decide ((cmE t (((sftR t o v).1)) (((sftR t o w).1))) = (0 : Int)) && ((ans o (cat ([v, cmR t (((sftR t o v).1)) (((sftR t o w).1))]))).isSome))) && ((ans o (cat ([w, cmR t (((sftR t o v).1)) (((sftR t o w).1))]))).isSome)))) ∧ H 3 = (⟨1, true, false, 24, 1, [[(V.sl (List.map cN (t.nd)))]]⟩ : Blk) ∧ H 4 = (⟨1, true, false, 37, 2, [[(iV (o.i)), (V.sl (List.map cT (o.tr)))]]⟩ : Blk) ∧ H 5 = (⟨1, true, false, 46, 2, [[(V.sl (List.map cI (v))), (V.sl (List.map cI (w)))]]⟩ : Blk) ∧ True) ?_ ?_
  ·
   by_cases g13 : ((decide ((cmE t (((sftR t o v).1)) (((sftR t o w).1))) = (0 : Int)) && ((ans o (cat ([v, cmR t (((sftR t o v).1)) (((sftR t o w).1))]))).isSome))) = true
   ·
    refine G_yes (Eq.trans (@rfl V (V.bool ((decide ((cmE t (((sftR t o v).1)) (((sftR t o w).1))) = (0 : Int)) && ((ans o (cat ([v, cmR t (((sftR t o v).1)) (((sftR t o w).1))]))).isSome))))) (bbT g13)) ?_
    refine R_mv t18 ?_
    refine R_pickT (Eq.trans (@rfl V (V.bool ((decide ((cmE t (((sftR t o v).1)) (((sftR t o w).1))) = (0 : Int)) && ((ans o (cat ([v, cmR t (((sftR t o v).1)) (((sftR t o w).1))]))).isSome))))) (bbT g13)) (@rfl V (V.bool ((ans o (cat ([w, cmR t (((sftR t o v).1)) (((sftR t o w).1))]))).isSome))) ?_
    exact ⟨t5, t15, t17, (Eq.trans (@rfl V (V.bool ((ans o (cat ([w, cmR t (((sftR t o v).1)) (((sftR t o w).1))]))).isSome))) (bandT g13)), h3, h4, h5, trivial⟩
   ·
    refine G_no (Eq.trans (@rfl V (V.bool ((decide ((cmE t (((sftR t o v).1)) (((sftR t o w).1))) = (0 : Int)) && ((ans o (cat ([v, cmR t (((sftR t o v).1)) (((sftR t o w).1))]))).isSome))))) (bbF g13)) (by decide) ?_
    refine R_pickF (Eq.trans (@rfl V (V.bool ((decide ((cmE t (((sftR t o v).1)) (((sftR t o w).1))) = (0 : Int)) && ((ans o (cat ([v, cmR t (((sftR t o v).1)) (((sftR t o w).1))]))).isSome))))) (bbF g13)) (@rfl V (V.bool false)) ?_
    exact ⟨t5, t15, t17, (Eq.trans (@rfl V (V.bool false)) (bandF g13)), h3, h4, h5, trivial⟩
  intro T H ⟨t5, t15, t17, t122, h3, h4, h5, _⟩
  refine R_mv t122 ?_
  refine Ops_seg 13 (fun T H => T 136 = (V.bool ((((((decide ((cmE t (((sftR t o v).1)) (((sftR t o w).1))) = (0 : Int)) && ((ans o (cat ([v, cmR t (((sftR t o v).1)) (((sftR t o w).1))]))).isSome))) && ((ans o (cat ([w, cmR t (((sftR t o v).1)) (((sftR t o w).1))]))).isSome))) && decide (¬((List.drop (v.length) ((ans o (cat ([v, cmR t (((sftR t o v).1)) (((sftR t o w).1))]))).getD [])) = (List.drop (w.length) ((ans o (cat ([w, cmR t (((sftR t o v).1)) (((sftR t o w).1))]))).getD []))))))) ∧ H 3 = (⟨1, true, false, 24, 1, [[(V.sl (List.map cN (t.nd)))]]⟩ : Blk) ∧ H 4 = (⟨1, true, false, 37, 2, [[(iV (o.i)), (V.sl (List.map cT (o.tr)))]]⟩ : Blk) ∧ H 5 = (⟨1, true, false, 46, 2, [[(V.sl (List.map cI (v))), (V.sl (List.map cI (w)))]]⟩ : Blk) ∧ True) ?_ ?_
  ·
   by_cases g14 : ((((decide ((cmE t (((sftR t o v).1)) (((sftR t o w).1))) = (0 : Int)) && ((ans o (cat ([v, cmR t (((sftR t o v).1)) (((sftR t o w).1))]))).isSome))) && ((ans o (cat ([w, cmR t (((sftR t o v).1)) (((sftR t o w).1))]))).isSome))) = true
   ·
    refine G_yes (Eq.trans (@rfl V (V.bool ((((decide ((cmE t (((sftR t o v).1)) (((sftR t o w).1))) = (0 : Int)) && ((ans o (cat ([v, cmR t (((sftR t o v).1)) (((sftR t o w).1))]))).isSome))) && ((ans o (cat ([w, cmR t (((sftR t o v).1)) (((sftR t o w).1))]))).isSome))))) (bbT g14)) ?_
    refine R_mv t15 ?_
    refine G_yes (Eq.trans (@rfl V (V.bool ((((decide ((cmE t (((sftR t o v).1)) (((sftR t o w).1))) = (0 : Int)) && ((ans o (cat ([v, cmR t (((sftR t o v).1)) (((sftR t o w).1))]))).isSome))) && ((ans o (cat ([w, cmR t (((sftR t o v).1)) (((sftR t o w).1))]))).isSome))))) (bbT g14)) ?_
    refine R_apos_mp (i := 0) (o' := 0) t5 (@rfl V (iV ((0 : Nat) : Int))) h5 (by first | rfl | simp [okB, Blk.own]) (by decide) rfl ?_
    refine G_yes (Eq.trans (@rfl V (V.bool ((((decide ((cmE t (((sftR t o v).1)) (((sftR t o w).1))) = (0 : Int)) && ((ans o (cat ([v, cmR t (((sftR t o v).1)) (((sftR t o w).1))]))).isSome))) && ((ans o (cat ([w, cmR t (((sftR t o v).1)) (((sftR t o w).1))]))).isSome))))) (bbT g14)) ?_
    refine R_load_mp (v := (V.sl (List.map cI (v)))) (@rfl V (V.mp 5 1 0 0)) h5 (by first | rfl | simp [ldB, ldV, Blk.own, V.one]) ?_
    refine G_yes (Eq.trans (@rfl V (V.bool ((((decide ((cmE t (((sftR t o v).1)) (((sftR t o w).1))) = (0 : Int)) && ((ans o (cat ([v, cmR t (((sftR t o v).1)) (((sftR t o w).1))]))).isSome))) && ((ans o (cat ([w, cmR t (((sftR t o v).1)) (((sftR t o w).1))]))).isSome))))) (bbT g14)) ?_
    refine R_len (@rfl V (V.sl (List.map cI (v)))) ?_
    refine G_yes (Eq.trans (@rfl V (V.bool ((((decide ((cmE t (((sftR t o v).1)) (((sftR t o w).1))) = (0 : Int)) && ((ans o (cat ([v, cmR t (((sftR t o v).1)) (((sftR t o w).1))]))).isSome))) && ((ans o (cat ([w, cmR t (((sftR t o v).1)) (((sftR t o w).1))]))).isSome))))) (bbT g14)) ?_
    refine R_slice_lo (n := v.length) (@rfl V (V.sl (List.map cI ((ans o (cat ([v, cmR t (((sftR t o v).1)) (((sftR t o w).1))]))).getD [])))) (@rfl V (iV ((v.length : Nat) : Int))) (by omega) (fun _ => rfl) ?_
    refine G_yes (Eq.trans (@rfl V (V.bool ((((decide ((cmE t (((sftR t o v).1)) (((sftR t o w).1))) = (0 : Int)) && ((ans o (cat ([v, cmR t (((sftR t o v).1)) (((sftR t o w).1))]))).isSome))) && ((ans o (cat ([w, cmR t (((sftR t o v).1)) (((sftR t o w).1))]))).isSome))))) (bbT g14)) ?_
    refine R_mv t17 ?_
    refine G_yes (Eq.trans (@rfl V (V.bool ((((decide ((cmE t (((sftR t o v).1)) (((sftR t o w).1))) = (0 : Int)) && ((ans o (cat ([v, cmR t (((sftR t o v).1)) (((sftR t o w).1))]))).isSome))) && ((ans o (cat ([w, cmR t (((sftR t o v).1)) (((sftR t o w).1))]))).isSome))))) (bbT g14)) ?_
    refine R_apos_mp (i := 1) (o' := 1) t5 (@rfl V (iV ((1 : Nat) : Int))) h5 (by first | rfl | simp [okB, Blk.own]) (by decide) rfl ?_
    refine G_yes (Eq.trans (@rfl V (V.bool ((((decide ((cmE t (((sftR t o v).1)) (((sftR t o w).1))) = (0 : Int)) && ((ans o (cat ([v, cmR t (((sftR t o v).1)) (((sftR t o w).1))]))).isSome))) && ((ans o (cat ([w, cmR t (((sftR t o v).1)) (((sftR t o w).1))]))).isSome))))) (bbT g14)) ?_
    refine R_load_mp (v := (V.sl (List.map cI (w)))) (@rfl V (V.mp 5 1 0 1)) h5 (by first | rfl | simp [ldB, ldV, Blk.own, V.one]) ?_
    refine G_yes (Eq.trans (@rfl V (V.bool ((((decide ((cmE t (((sftR t o v).1)) (((sftR t o w).1))) = (0 : Int)) && ((ans o (cat ([v, cmR t (((sftR t o v).1)) (((sftR t o w).1))]))).isSome))) && ((ans o (cat ([w, cmR t (((sftR t o v).1)) (((sftR t o w).1))]))).isSome))))) (bbT g14)) ?_
    refine R_len (@rfl V (V.sl (List.map cI (w)))) ?_
    refine G_yes (Eq.trans (@rfl V (V.bool ((((decide ((cmE t (((sftR t o v).1)) (((sftR t o w).1))) = (0 : Int)) && ((ans o (cat ([v, cmR t (((sftR t o v).1)) (((sftR t o w).1))]))).isSome))) && ((ans o (cat ([w, cmR t (((sftR t o v).1)) (((sftR t o w).1))]))).isSome))))) (bbT g14)) ?_
    refine R_slice_lo (n := w.length) (@rfl V (V.sl (List.map cI ((ans o (cat ([w, cmR t (((sftR t o v).1)) (((sftR t o w).1))]))).getD [])))) (@rfl V (iV ((w.length : Nat) : Int))) (by omega) (fun _ => rfl) ?_
    refine G_yes (Eq.trans (@rfl V (V.bool ((((decide ((cmE t (((sftR t o v).1)) (((sftR t o w).1))) = (0 : Int)) && ((ans o (cat ([v, cmR t (((sftR t o v).1)) (((sftR t o w).1))]))).isSome))) && ((ans o (cat ([w, cmR t (((sftR t o v).1)) (((sftR t o w).1))]))).isSome))))) (bbT g14)) ?_
    refine R_call (evcons (@rfl V (V.sl (List.map cI (List.drop (v.length) ((ans o (cat ([v, cmR t (((sftR t o v).1)) (((sftR t o w).1))]))).getD []))))) (evcons (@rfl V (V.sl (List.map cI (List.drop (w.length) ((ans o (cat ([w, cmR t (((sftR t o v).1)) (((sftR t o w).1))]))).getD []))))) evnil)) (rsame1_pure (List.drop (v.length) ((ans o (cat ([v, cmR t (((sftR t o v).1)) (((sftR t o w).1))]))).getD [])) (List.drop (w.length) ((ans o (cat ([w, cmR t (((sftR t o v).1)) (((sftR t o w).1))]))).getD []))) (fzv_mapcanon _ _ (by simp [-List.map_take, -List.map_drop, -List.map_append, -List.map_reverse])) (by simp [-List.map_take, -List.map_drop, -List.map_append, -List.map_reverse]) (Or.inl (by simp [-List.map_take, -List.map_drop, -List.map_append, -List.map_reverse])) ?_
    refine G_yes (Eq.trans (@rfl V (V.bool ((((decide ((cmE t (((sftR t o v).1)) (((sftR t o w).1))) = (0 : Int)) && ((ans o (cat ([v, cmR t (((sftR t o v).1)) (((sftR t o w).1))]))).isSome))) && ((ans o (cat ([w, cmR t (((sftR t o v).1)) (((sftR t o w).1))]))).isSome))))) (bbT g14)) ?_
    refine R_not (p := (List.drop (v.length) ((ans o (cat ([v, cmR t (((sftR t o v).1)) (((sftR t o w).1))]))).getD [])) = (List.drop (w.length) ((ans o (cat ([w, cmR t (((sftR t o v).1)) (((sftR t o w).1))]))).getD []))) (@rfl V (V.bool (decide ((List.drop (v.length) ((ans o (cat ([v, cmR t (((sftR t o v).1)) (((sftR t o w).1))]))).getD [])) = (List.drop (w.length) ((ans o (cat ([w, cmR t (((sftR t o v).1)) (((sftR t o w).1))]))).getD [])))))) ?_
    refine R_pickT (Eq.trans (@rfl V (V.bool ((((decide ((cmE t (((sftR t o v).1)) (((sftR t o w).1))) = (0 : Int)) && ((ans o (cat ([v, cmR t (((sftR t o v).1)) (((sftR t o w).1))]))).isSome))) && ((ans o (cat ([w, cmR t (((sftR t o v).1)) (((sftR t o w).1))]))).isSome))))) (bbT g14)) (@rfl V (V.bool (decide (¬((List.drop (v.length) ((ans o (cat ([v, cmR t (((sftR t o v).1)) (((sftR t o w).1))]))).getD [])) = (List.drop (w.length) ((ans o (cat ([w, cmR t (((sftR t o v).1)) (((sftR t o w).1))]))).getD []))))))) ?_
    exact ⟨(Eq.trans (@rfl V (V.bool (decide (¬((List.drop (v.length) ((ans o (cat ([v, cmR t (((sftR t o v).1)) (((sftR t o w).1))]))).getD [])) = (List.drop (w.length) ((ans o (cat ([w, cmR t (((sftR t o v).1)) (((sftR t o w).1))]))).getD []))))))) (bandT g14)), h3, h4, h5, trivial⟩
   ·
    refine G_no (Eq.trans (@rfl V (V.bool ((((decide ((cmE t (((sftR t o v).1)) (((sftR t o w).1))) = (0 : Int)) && ((ans o (cat ([v, cmR t (((sftR t o v).1)) (((sftR t o w).1))]))).isSome))) && ((ans o (cat ([w, cmR t (((sftR t o v).1)) (((sftR t o w).1))]))).isSome))))) (bbF g14)) (by decide) ?_
    refine G_no (Eq.trans (@rfl V (V.bool ((((decide ((cmE t (((sftR t o v).1)) (((sftR t o w).1))) = (0 : Int)) && ((ans o (cat ([v, cmR t (((sftR t o v).1)) (((sftR t o w).1))]))).isSome))) && ((ans o (cat ([w, cmR t (((sftR t o v).1)) (((sftR t o w).1))]))).isSome))))) (bbF g14)) (by decide) ?_
    refine G_no (Eq.trans (@rfl V (V.bool ((((decide ((cmE t (((sftR t o v).1)) (((sftR t o w).1))) = (0 : Int)) && ((ans o (cat ([v, cmR t (((sftR t o v).1)) (((sftR t o w).1))]))).isSome))) && ((ans o (cat ([w, cmR t (((sftR t o v).1)) (((sftR t o w).1))]))).isSome))))) (bbF g14)) (by decide) ?_
    refine G_no (Eq.trans (@rfl V (V.bool ((((decide ((cmE t (((sftR t o v).1)) (((sftR t o w).1))) = (0 : Int)) && ((ans o (cat ([v, cmR t (((sftR t o v).1)) (((sftR t o w).1))]))).isSome))) && ((ans o (cat ([w, cmR t (((sftR t o v).1)) (((sftR t o w).1))]))).isSome))))) (bbF g14)) (by decide) ?_
    refine G_no (Eq.trans (@rfl V (V.bool ((((decide ((cmE t (((sftR t o v).1)) (((sftR t o w).1))) = (0 : Int)) && ((ans o (cat ([v, cmR t (((sftR t o v).1)) (((sftR t o w).1))]))).isSome))) && ((ans o (cat ([w, cmR t (((sftR t o v).1)) (((sftR t o w).1))]))).isSome))))) (bbF g14)) (by decide) ?_
    refine G_no (Eq.trans (@rfl V (V.bool ((((decide ((cmE t (((sftR t o v).1)) (((sftR t o w).1))) = (0 : Int)) && ((ans o (cat ([v, cmR t (((sftR t o v).1)) (((sftR t o w).1))]))).isSome))) && ((ans o (cat ([w, cmR t (((sftR t o v).1)) (((sftR t o w).1))]))).isSome))))) (bbF g14)) (by decide) ?_
    refine G_no (Eq.trans (@rfl V (V.bool ((((decide ((cmE t (((sftR t o v).1)) (((sftR t o w).1))) = (0 : Int)) && ((ans o (cat ([v, cmR t (((sftR t o v).1)) (((sftR t o w).1))]))).isSome))) && ((ans o (cat ([w, cmR t (((sftR t o v).1)) (((sftR t o w).1))]))).isSome))))) (bbF g14)) (by decide) ?_
    refine G_no (Eq.trans (@rfl V (V.bool ((((decide ((cmE t (((sftR t o v).1)) (((sftR t o w).1))) = (0 : Int)) && ((ans o (cat ([v, cmR t (((sftR t o v).1)) (((sftR t o w).1))]))).isSome))) && ((ans o (cat ([w, cmR t (((sftR t o v).1)) (((sftR t o w).1))]))).isSome))))) (bbF g14)) (by decide) ?_
    refine G_no (Eq.trans (@rfl V (V.bool ((((decide ((cmE t (((sftR t o v).1)) (((sftR t o w).1))) = (0 : Int)) && ((ans o (cat ([v, cmR t (((sftR t o v).1)) (((sftR t o w).1))]))).isSome))) && ((ans o (cat ([w, cmR t (((sftR t o v).1)) (((sftR t o w).1))]))).isSome))))) (bbF g14)) (by decide) ?_
    refine G_no (Eq.trans (@rfl V (V.bool ((((decide ((cmE t (((sftR t o v).1)) (((sftR t o w).1))) = (0 : Int)) && ((ans o (cat ([v, cmR t (((sftR t o v).1)) (((sftR t o w).1))]))).isSome))) && ((ans o (cat ([w, cmR t (((sftR t o v).1)) (((sftR t o w).1))]))).isSome))))) (bbF g14)) (by decide) ?_
    refine G_no (Eq.trans (@rfl V (V.bool ((((decide ((cmE t (((sftR t o v).1)) (((sftR t o w).1))) = (0 : Int)) && ((ans o (cat ([v, cmR t (((sftR t o v).1)) (((sftR t o w).1))]))).isSome))) && ((ans o (cat ([w, cmR t (((sftR t o v).1)) (((sftR t o w).1))]))).isSome))))) (bbF g14)) (by decide) ?_
    refine G_no (Eq.trans (@rfl V (V.bool ((((decide ((cmE t (((sftR t o v).1)) (((sftR t o w).1))) = (0 : Int)) && ((ans o (cat ([v, cmR t (((sftR t o v).1)) (((sftR t o w).1))]))).isSome))) && ((ans o (cat ([w, cmR t (((sftR t o v).1)) (((sftR t o w).1))]))).isSome))))) (bbF g14)) (by decide) ?_
    refine R_pickF (Eq.trans (@rfl V (V.bool ((((decide ((cmE t (((sftR t o v).1)) (((sftR t o w).1))) = (0 : Int)) && ((ans o (cat ([v, cmR t (((sftR t o v).1)) (((sftR t o w).1))]))).isSome))) && ((ans o (cat ([w, cmR t (((sftR t o v).1)) (((sftR t o w).1))]))).isSome))))) (bbF g14)) (@rfl V (V.bool false)) ?_
    exact ⟨(Eq.trans (@rfl V (V.bool false)) (bandF g14)), h3, h4, h5, trivial⟩
  intro T H ⟨t136, h3, h4, h5, _⟩
  refine R_mv t136 ?_
  refine Ops_seg 2 (fun T H => T 139 = (V.bool ((((((((decide ((cmE t (((sftR t o v).1)) (((sftR t o w).1))) = (0 : Int)) && ((ans o (cat ([v, cmR t (((sftR t o v).1)) (((sftR t o w).1))]))).isSome))) && ((ans o (cat ([w, cmR t (((sftR t o v).1)) (((sftR t o w).1))]))).isSome))) && decide (¬((List.drop (v.length) ((ans o (cat ([v, cmR t (((sftR t o v).1)) (((sftR t o w).1))]))).getD [])) = (List.drop (w.length) ((ans o (cat ([w, cmR t (((sftR t o v).1)) (((sftR t o w).1))]))).getD [])))))) || false))) ∧ H 3 = (⟨1, true, false, 24, 1, [[(V.sl (List.map cN (t.nd)))]]⟩ : Blk) ∧ H 4 = (⟨1, true, false, 37, 2, [[(iV (o.i)), (V.sl (List.map cT (o.tr)))]]⟩ : Blk) ∧ H 5 = (⟨1, true, false, 46, 2, [[(V.sl (List.map cI (v))), (V.sl (List.map cI (w)))]]⟩ : Blk) ∧ True) ?_ ?_
  ·
   by_cases g15 : ((((((decide ((cmE t (((sftR t o v).1)) (((sftR t o w).1))) = (0 : Int)) && ((ans o (cat ([v, cmR t (((sftR t o v).1)) (((sftR t o w).1))]))).isSome))) && ((ans o (cat ([w, cmR t (((sftR t o v).1)) (((sftR t o w).1))]))).isSome))) && decide (¬((List.drop (v.length) ((ans o (cat ([v, cmR t (((sftR t o v).1)) (((sftR t o w).1))]))).getD [])) = (List.drop (w.length) ((ans o (cat ([w, cmR t (((sftR t o v).1)) (((sftR t o w).1))]))).getD [])))))) = true
   ·
    refine G_yes (Eq.trans (@rfl V (V.bool ((((((decide ((cmE t (((sftR t o v).1)) (((sftR t o w).1))) = (0 : Int)) && ((ans o (cat ([v, cmR t (((sftR t o v).1)) (((sftR t o w).1))]))).isSome))) && ((ans o (cat ([w, cmR t (((sftR t o v).1)) (((sftR t o w).1))]))).isSome))) && decide (¬((List.drop (v.length) ((ans o (cat ([v, cmR t (((sftR t o v).1)) (((sftR t o w).1))]))).getD [])) = (List.drop (w.length) ((ans o (cat ([w, cmR t (((sftR t o v).1)) (((sftR t o w).1))]))).getD [])))))))) (bbT g15)) ?_
    refine R_call evnil (aw_learnerlaw26_awake_pure) (fzv_mapcanon _ _ (by simp [-List.map_take, -List.map_drop, -List.map_append, -List.map_reverse])) (by simp [-List.map_take, -List.map_drop, -List.map_append, -List.map_reverse]) (Or.inl (by simp [-List.map_take, -List.map_drop, -List.map_append, -List.map_reverse])) ?_
    refine R_pickT (Eq.trans (@rfl V (V.bool ((((((decide ((cmE t (((sftR t o v).1)) (((sftR t o w).1))) = (0 : Int)) && ((ans o (cat ([v, cmR t (((sftR t o v).1)) (((sftR t o w).1))]))).isSome))) && ((ans o (cat ([w, cmR t (((sftR t o v).1)) (((sftR t o w).1))]))).isSome))) && decide (¬((List.drop (v.length) ((ans o (cat ([v, cmR t (((sftR t o v).1)) (((sftR t o w).1))]))).getD [])) = (List.drop (w.length) ((ans o (cat ([w, cmR t (((sftR t o v).1)) (((sftR t o w).1))]))).getD [])))))))) (bbT g15)) (@rfl V (V.bool true)) ?_
    exact ⟨(Eq.trans (@rfl V (V.bool true)) (borT g15)), h3, h4, h5, trivial⟩
   ·
    refine G_no (Eq.trans (@rfl V (V.bool ((((((decide ((cmE t (((sftR t o v).1)) (((sftR t o w).1))) = (0 : Int)) && ((ans o (cat ([v, cmR t (((sftR t o v).1)) (((sftR t o w).1))]))).isSome))) && ((ans o (cat ([w, cmR t (((sftR t o v).1)) (((sftR t o w).1))]))).isSome))) && decide (¬((List.drop (v.length) ((ans o (cat ([v, cmR t (((sftR t o v).1)) (((sftR t o w).1))]))).getD [])) = (List.drop (w.length) ((ans o (cat ([w, cmR t (((sftR t o v).1)) (((sftR t o w).1))]))).getD [])))))))) (bbF g15)) (by decide) ?_
    refine R_pickF (Eq.trans (@rfl V (V.bool ((((((decide ((cmE t (((sftR t o v).1)) (((sftR t o w).1))) = (0 : Int)) && ((ans o (cat ([v, cmR t (((sftR t o v).1)) (((sftR t o w).1))]))).isSome))) && ((ans o (cat ([w, cmR t (((sftR t o v).1)) (((sftR t o w).1))]))).isSome))) && decide (¬((List.drop (v.length) ((ans o (cat ([v, cmR t (((sftR t o v).1)) (((sftR t o w).1))]))).getD [])) = (List.drop (w.length) ((ans o (cat ([w, cmR t (((sftR t o v).1)) (((sftR t o w).1))]))).getD [])))))))) (bbF g15)) (@rfl V (V.bool false)) ?_
    exact ⟨(Eq.trans (@rfl V (V.bool false)) (borF g15)), h3, h4, h5, trivial⟩
  intro T H ⟨t139, h3, h4, h5, _⟩
  refine R_mv t139 ?_
  exact R_nil ⟨rfl, h3, h4, h5, trivial⟩
 intro T H ⟨t6, h3, h4, h5, _⟩
 refine W_ret ?_
 refine Ret_1 t6 (fz_bool ?_)
 · simp [z1, z2, z3, z4]
end Go.Proofs.YtmnjchcoigbngaaGreat


namespace Go.Proofs.YtmnjchcoigbngaaGreat
open Go Go.Proofs Go.Proofs.YtmnjchcoigbngaaGreat Go.ChangeShapes Go.WideShapes Go.ChangeAt Go.RowKit
structure UT (P : Program) : Prop where
  u22 : P.underlying 22 = some (.slice 68)
  u4 : P.underlying 4 = some (.bool)
  u38 : P.underlying 38 = some (.slice 3)
  u3 : P.underlying 3 = some (.int .i64)
  u31 : P.underlying 31 = some (.slice 38)
  u68 : ∃ f0 f1 f2 f3 f4 : Field, P.underlying 68 = some (.struct #[f0, f1, f2, f3, f4]) ∧ f0.type = 4 ∧ f1.type = 38 ∧ f2.type = 38 ∧ f3.type = 31 ∧ f4.type = 38
  u24 : ∃ f0 : Field, P.underlying 24 = some (.struct #[f0]) ∧ f0.type = 22
  u35 : P.underlying 35 = some (.slice 70)
  u70 : ∃ f0 f1 : Field, P.underlying 70 = some (.struct #[f0, f1]) ∧ f0.type = 38 ∧ f1.type = 38
  u37 : ∃ f0 f1 : Field, P.underlying 37 = some (.struct #[f0, f1]) ∧ f0.type = 3 ∧ f1.type = 35
  u46 : P.underlying 46 = some (.array 2 38)
theorem sh4 {P : Program} (U : UT P) (n : Nat) (vs : List V) (h : Shp P (n + 1) 4 vs) : ∃ a : Bool, vs = (fun b => [V.bool b]) a := shp_bool U.u4 h
theorem sh3 {P : Program} (U : UT P) (n : Nat) (vs : List V) (h : Shp P (n + 1) 3 vs) : ∃ a : Int, vs = cI a := shp_int U.u3 h
theorem sh38 {P : Program} (U : UT P) (n : Nat) (vs : List V) (h : Shp P (n + 2) 38 vs) : ∃ a : List Int, vs = cL a := shp_slice (f := cI) U.u38 (fun vs h => sh3 U n vs h) h
theorem sh31 {P : Program} (U : UT P) (n : Nat) (vs : List V) (h : Shp P (n + 3) 31 vs) : ∃ a : List (List Int), vs = (fun l => [V.sl (List.map cL l)]) a := shp_slice (f := cL) U.u31 (fun vs h => sh38 U n vs h) h
theorem sh68 {P : Program} (U : UT P) (n : Nat) (vs : List V) (h : Shp P (n + 4) 68 vs) : ∃ a : Nd, vs = cN a := by
  obtain ⟨f0, f1, f2, f3, f4, hu, k0, k1, k2, k3, k4⟩ := U.u68
  have h0 := shp_step hu h
  obtain ⟨x0, u0, e0, h1⟩ := shpL_cons (c := (fun b => [V.bool b])) (fun vs h => sh4 U (n + 2) vs (by rw [k0] at h; exact h)) h0
  obtain ⟨x1, u1, e1, h2⟩ := shpL_cons (c := cL) (fun vs h => sh38 U (n + 1) vs (by rw [k1] at h; exact h)) h1
  obtain ⟨x2, u2, e2, h3⟩ := shpL_cons (c := cL) (fun vs h => sh38 U (n + 1) vs (by rw [k2] at h; exact h)) h2
  obtain ⟨x3, u3, e3, h4⟩ := shpL_cons (c := (fun l => [V.sl (List.map cL l)])) (fun vs h => sh31 U (n + 0) vs (by rw [k3] at h; exact h)) h3
  obtain ⟨x4, u4, e4, h5⟩ := shpL_cons (c := cL) (fun vs h => sh38 U (n + 1) vs (by rw [k4] at h; exact h)) h4
  have e5 := shpL_nil h5
  exact ⟨⟨x0, x1, x2, x3, x4⟩, by rw [e0, e1, e2, e3, e4, e5]; rfl⟩
theorem sh22 {P : Program} (U : UT P) (n : Nat) (vs : List V) (h : Shp P (n + 5) 22 vs) : ∃ a : List Nd, vs = (fun l => [V.sl (List.map cN l)]) a := shp_slice (f := cN) U.u22 (fun vs h => sh68 U n vs h) h
theorem sh24 {P : Program} (U : UT P) (n : Nat) (vs : List V) (h : Shp P (n + 6) 24 vs) : ∃ a : Dt, vs = cD a := by
  obtain ⟨f0, hu, k0⟩ := U.u24
  have h0 := shp_step hu h
  obtain ⟨x0, u0, e0, h1⟩ := shpL_cons (c := (fun l => [V.sl (List.map cN l)])) (fun vs h => sh22 U (n + 0) vs (by rw [k0] at h; exact h)) h0
  have e1 := shpL_nil h1
  exact ⟨⟨x0⟩, by rw [e0, e1]; rfl⟩
theorem sh70 {P : Program} (U : UT P) (n : Nat) (vs : List V) (h : Shp P (n + 3) 70 vs) : ∃ a : Tr, vs = cT a := by
  obtain ⟨f0, f1, hu, k0, k1⟩ := U.u70
  have h0 := shp_step hu h
  obtain ⟨x0, u0, e0, h1⟩ := shpL_cons (c := cL) (fun vs h => sh38 U (n + 0) vs (by rw [k0] at h; exact h)) h0
  obtain ⟨x1, u1, e1, h2⟩ := shpL_cons (c := cL) (fun vs h => sh38 U (n + 0) vs (by rw [k1] at h; exact h)) h1
  have e2 := shpL_nil h2
  exact ⟨⟨x0, x1⟩, by rw [e0, e1, e2]; rfl⟩
theorem sh35 {P : Program} (U : UT P) (n : Nat) (vs : List V) (h : Shp P (n + 4) 35 vs) : ∃ a : List Tr, vs = (fun l => [V.sl (List.map cT l)]) a := shp_slice (f := cT) U.u35 (fun vs h => sh70 U n vs h) h
theorem sh37 {P : Program} (U : UT P) (n : Nat) (vs : List V) (h : Shp P (n + 5) 37 vs) : ∃ a : Ob, vs = oC a := by
  obtain ⟨f0, f1, hu, k0, k1⟩ := U.u37
  have h0 := shp_step hu h
  obtain ⟨x0, u0, e0, h1⟩ := shpL_cons (c := cI) (fun vs h => sh3 U (n + 3) vs (by rw [k0] at h; exact h)) h0
  obtain ⟨x1, u1, e1, h2⟩ := shpL_cons (c := (fun l => [V.sl (List.map cT l)])) (fun vs h => sh35 U (n + 0) vs (by rw [k1] at h; exact h)) h1
  have e2 := shpL_nil h2
  exact ⟨⟨x0, x1⟩, by rw [e0, e1, e2]; rfl⟩
theorem sh46 {P : Program} (U : UT P) (n : Nat) (vs : List V) (h : Shp P (n + 3) 46 vs) : ∃ a : (List Int × List Int), vs = (fun p => cL p.1 ++ cL p.2) a := shp_arr2 (c := cL) U.u46 (fun vs h => sh38 U n vs h) h
theorem ut : UT Tryz.prog := ⟨by kernel_rfl, by kernel_rfl, by kernel_rfl, by kernel_rfl, by kernel_rfl, ⟨_, _, _, _, _, Tryz.underlying68, rfl, rfl, rfl, rfl, rfl⟩, ⟨_, Tryz.underlying24, rfl⟩, by kernel_rfl, ⟨_, _, Tryz.underlying70, rfl, rfl⟩, ⟨_, _, Tryz.underlying37, rfl, rfl⟩, by kernel_rfl⟩
theorem args8 {P : Program} (U : UT P) {us : List V} (h : ShpA P 7 [24, 37, 46] us) : ∃ (d0 : Dt) (d1 : Ob) (d2 : (List Int × List Int)), us = [V.agg (cD d0), V.agg (oC d1), V.agg [V.sl (List.map cI d2.1), V.sl (List.map cI d2.2)]] := by
  obtain ⟨a0, b0, e0, h0, h⟩ := shpA_cons h
  obtain ⟨d0, g0⟩ := sh24 U 1 a0 h0
  have q0 : packV P 24 a0 = V.agg (cD d0) := by obtain ⟨_, hu, _⟩ := U.u24; rw [g0]; exact pack_struct hu _
  obtain ⟨a1, b1, e1, h1, h⟩ := shpA_cons h
  obtain ⟨d1, g1⟩ := sh37 U 2 a1 h1
  have q1 : packV P 37 a1 = V.agg (oC d1) := by obtain ⟨_, _, hu, _⟩ := U.u37; rw [g1]; exact pack_struct hu _
  obtain ⟨a2, b2, e2, h2, h⟩ := shpA_cons h
  obtain ⟨d2, g2⟩ := sh46 U 4 a2 h2
  have q2 : packV P 46 a2 = V.agg [V.sl (List.map cI d2.1), V.sl (List.map cI d2.2)] := by rw [g2]; exact pack_array U.u46 _
  have e3 := shpA_nil h
  exact ⟨d0, d1, d2, by rw [e0, q0, e1, q1, e2, q2, e3]⟩
theorem own8 : ownKnob Tryz.prog.godebug = none := by kernel_rfl
set_option maxRecDepth 100000 in
theorem lifted8 (os : Os) (started : os.Started) (H : Type) (enc : TypeId × Value → H) :
    ReturnsInHanded {} Tryz.checked os 8 .any (Rows.dtreePartsSpec.pre6 enc Tryz.prog Tryz.f8 Rows.dtreePartsRow.domain false) (Rows.dtreePartsSpec.post enc Tryz.prog Tryz.f8 false true false false) := by
  refine returnsInHanded_of_change (C := Tryz.checked) own8 started (by kernel_rfl) Tryz.func8
    (ChangeSpec.witness6 (enc := enc) (C := Tryz.checked) false ⟨#[], #[.agg #[.slice none 0 0], .agg #[.int .i64 0, .slice none 0 0], .agg #[.slice none 0 0, .slice none 0 0]], []⟩ 8 (by kernel_rfl) (by kernel_rfl) (by kernel_rfl) (by kernel_rfl)) ?_
  intro W base args ds gs before hval0 hW hcnd _
  refine law_post (n := 7) (tb := 4) (by kernel_rfl) (by kernel_rfl) (by kernel_rfl) (fun t ht => ?_) rfl ?_ (fun us hu => ?_) hval0 hW
  · have h : t ∈ [24, 37, 46] := ht
    simp only [List.mem_cons, List.not_mem_nil, or_false] at h
    rcases h with rfl | rfl | rfl
    · exact ⟨by kernel_rfl, by kernel_rfl, of_decide_eq_true (by kernel_rfl)⟩
    · exact ⟨by kernel_rfl, by kernel_rfl, of_decide_eq_true (by kernel_rfl)⟩
    · exact ⟨by kernel_rfl, by kernel_rfl, of_decide_eq_true (by kernel_rfl)⟩
  · obtain ⟨p, q, hA, hV, rfl, hfz, hnd⟩ := hW
    obtain ⟨rfl, rfl⟩ := trodVars_none hV
    change DataW.TrodAll enc Tryz.prog W 0 (fun _ => true) true [24, 37, 46] args.toList ds p at hA
    obtain ⟨v0, vs0, y0, ds0, pa0, pb0, hv0, rfl, rfl, _, hA⟩ := trodAll_cons hA
    obtain ⟨v1, vs1, y1, ds1, pa1, pb1, hv1, rfl, rfl, _, hA⟩ := trodAll_cons hA
    obtain ⟨v2, vs2, y2, ds2, pa2, pb2, hv2, rfl, rfl, _, hA⟩ := trodAll_cons hA
    obtain ⟨_, rfl, rfl⟩ := trodAll_nil hA
    rfl
  · obtain ⟨d0, d1, d2, rfl⟩ := args8 ut hu
    exact law8_pure d0 d1 d2.1 d2.2
theorem proved8 : Rows.DtreePartsSaid :=
  OpenClaim.holds_of_wide 8 Tryz.f8 rfl rfl rfl rfl rfl rfl rfl ⟨rfl, rfl, rfl, rfl, rfl⟩ rfl rfl rfl rfl rfl (by kernel_rfl) Tryz.func8 (by kernel_rfl)
    (of_decide_eq_true (by kernel_rfl)) (by unfold Func.isWrapper; first | (rw [if_pos (by decide +kernel)]; kernel_rfl) | (rw [if_neg (by decide +kernel)]; exact ⟨rfl, rfl⟩))
    (fun os started H enc _ => lifted8 os started H enc)
end Go.Proofs.YtmnjchcoigbngaaGreat


