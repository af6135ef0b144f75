/- Contracts of the functions that the law OX reaches, and the law itself, for every input; no condition. -/
import Derived.KernelRfl
import Derived.Test.YtngkckefanbhgaaProg
import Derived.Shelf.Spec.SlicesInsertGrow
import Derived.Test.YtngkckefanbhgaaOX1
set_option linter.unusedSimpArgs false
set_option linter.unusedVariables false
namespace Go.Proofs.Ytngkckefanbhgaa
open Go Go.Proofs
theorem mtraces_pure (m : M) (ws : List (List Int)) : PureC Try.prog 72 [(V.agg [(iV (m.i)), (iV (m.s)), (V.sl (List.map cL (m.nx))), (V.sl (List.map cL (m.ot)))]), (V.sl (List.map cL (ws)))] (V.tup [(V.sl (List.map cT (trsL m ws))), (iV (trsE m ws))]) := by
 refine pure_of_Wb true 6 Try.func72 s72_ok (by kernel_rfl) (by simp [s72]) (by simp) (by simp) fun hB => ?_
 simp only [bnd_map, bnd_int, bnd_bool, bnd_str, bnd_agg, bnd_pp, bnd_nil, bnd_cons, implies_true, and_true, true_and] at hB
 unfold s72
 dsimp only
 refine W_seq_regc (fun T H => T 1 = (V.sl (List.map cL (ws))) ∧ T 2 = (V.mp 2 1 0 0) ∧ H 2 = (⟨1, true, false, 24, 4, [[(iV (m.i)), (iV (m.s)), (V.sl (List.map cL (m.nx))), (V.sl (List.map cL (m.ot)))]]⟩ : Blk) ∧ H 7 = (⟨0, false, false, 0, 0, []⟩ : Blk) ∧ H 38 = (⟨0, false, false, 0, 0, []⟩ : Blk) ∧ H 105 = (⟨0, false, false, 0, 0, []⟩ : Blk) ∧ True) ?_ ?_
 ·
  unfold r72_0
  refine R_box (i := 2) (n := 0) (m := 4) (cs := [(iV (m.i)), (iV (m.s)), (V.sl (List.map cL (m.nx))), (V.sl (List.map cL (m.ot)))]) rfl (congrArg Blk.ver rfl) (@rfl V (V.agg [(iV (m.i)), (iV (m.s)), (V.sl (List.map cL (m.nx))), (V.sl (List.map cL (m.ot)))])) rfl rfl ?_
  refine R_mv (@rfl V V.nilsl) ?_
  refine R_mv (@rfl V (iV (0 : Int))) ?_
  exact R_nil ⟨rfl, rfl, rfl, rfl, rfl, rfl, trivial⟩
 intro T H ⟨t1, t2, h2, h7, h38, h105, _⟩
 refine W_seq_seq ?_
 refine W_seq_regc (fun T H => T 1 = (V.sl (List.map cL (ws))) ∧ T 2 = (V.mp 2 1 0 0) ∧ T 6 = (iV (mval m)) ∧ H 2 = (⟨1, true, false, 24, 4, [[(iV (m.i)), (iV (m.s)), (V.sl (List.map cL (m.nx))), (V.sl (List.map cL (m.ot)))]]⟩ : Blk) ∧ H 7 = (⟨0, false, false, 0, 0, []⟩ : Blk) ∧ H 38 = (⟨0, false, false, 0, 0, []⟩ : Blk) ∧ H 105 = (⟨0, false, false, 0, 0, []⟩ : Blk) ∧ True) ?_ ?_
 ·
  unfold r72_1
  refine R_load_mp (v := (V.agg [(iV (m.i)), (iV (m.s)), (V.sl (List.map cL (m.nx))), (V.sl (List.map cL (m.ot)))])) t2 h2 (by first | rfl | simp [ldB, ldV, Blk.own, V.one]) ?_
  refine R_call (evcons (@rfl V (V.agg [(iV (m.i)), (iV (m.s)), (V.sl (List.map cL (m.nx))), (V.sl (List.map cL (m.ot)))])) evnil) (mvalid_pure m) (fzv_mapcanon _ _ (by simp [-List.map_take, -List.map_drop, -List.map_append, -List.map_reverse])) (by simp [-List.map_take, -List.map_drop, -List.map_append, -List.map_reverse]) (Or.inl (by simp [-List.map_take, -List.map_drop, -List.map_append, -List.map_reverse])) ?_
  refine R_mv (@rfl V (iV (mval m))) ?_
  exact R_nil ⟨t1, t2, rfl, h2, h7, h38, h105, trivial⟩
 intro T H ⟨t1, t2, t6, h2, h7, h38, h105, _⟩
 refine W_seq_seq ?_
 refine W_seq_regc (fun T H => T 1 = (V.sl (List.map cL (ws))) ∧ T 2 = (V.mp 2 1 0 0) ∧ T 6 = (iV (mval m)) ∧ T 15 = (V.bool (decide ((mval m) ≠ (0 : Int)))) ∧ H 2 = (⟨1, true, false, 24, 4, [[(iV (m.i)), (iV (m.s)), (V.sl (List.map cL (m.nx))), (V.sl (List.map cL (m.ot)))]]⟩ : Blk) ∧ H 7 = (⟨0, false, false, 0, 0, []⟩ : Blk) ∧ H 38 = (⟨0, false, false, 0, 0, []⟩ : Blk) ∧ H 105 = (⟨0, false, false, 0, 0, []⟩ : Blk) ∧ True) ?_ ?_
 ·
  unfold r72_2
  refine R_mv t6 ?_
  refine R_neq (x := (mval m)) (y := (0 : Int)) (@rfl V (iV (mval m))) (@rfl V (iV (0 : Int))) ?_
  exact R_nil ⟨t1, t2, t6, rfl, h2, h7, h38, h105, trivial⟩
 intro T H ⟨t1, t2, t6, t15, h2, h7, h38, h105, _⟩
 refine W_seq_if (p := (mval m) ≠ (0 : Int)) t15 (fun c1 => ?_) (fun c1 => ?_)
 ·
  refine W_seq_seq ?_
  refine W_seq_regc (fun T H => T 4 = V.nilsl ∧ T 5 = (iV (mval m)) ∧ H 2 = (⟨1, true, false, 24, 4, [[(iV (m.i)), (iV (m.s)), (V.sl (List.map cL (m.nx))), (V.sl (List.map cL (m.ot)))]]⟩ : Blk) ∧ H 7 = (⟨0, false, false, 0, 0, []⟩ : Blk) ∧ H 38 = (⟨0, false, false, 0, 0, []⟩ : Blk) ∧ H 105 = (⟨0, false, false, 0, 0, []⟩ : Blk) ∧ True) ?_ ?_
  ·
   unfold r72_3
   refine R_mv t6 ?_
   refine R_mv (@rfl V V.nilsl) ?_
   refine R_mv (@rfl V (iV (mval m))) ?_
   exact R_nil ⟨rfl, rfl, h2, h7, h38, h105, trivial⟩
  intro T H ⟨t4, t5, h2, h7, h38, h105, _⟩
  refine W_seq_ret ?_
  refine Ret_2 t4 t5 (fz_nil ?_) (fz_int ?_)
  · have e : trsE m ws = mval m := by unfold trsE; rw [if_pos (by omega)]
    rw [trsL, if_pos (by omega)]
  · have e : trsE m ws = mval m := by unfold trsE; rw [if_pos (by omega)]
    exact e.symm
 have hs := (mval_ok (m := m) (by omega)).2.2.2.2.1
 have hs2 := (mval_ok (m := m) (by omega)).2.2.2.2.2.1
 refine W_seq_skip ?_
 refine W_seq_seq ?_
 refine W_seq_regc (fun T H => T 1 = (V.sl (List.map cL (ws))) ∧ T 2 = (V.mp 2 1 0 0) ∧ T 19 = (V.bool (decide ((10000 : Int) < ((ws.length : Nat) : Int)))) ∧ H 2 = (⟨1, true, false, 24, 4, [[(iV (m.i)), (iV (m.s)), (V.sl (List.map cL (m.nx))), (V.sl (List.map cL (m.ot)))]]⟩ : Blk) ∧ H 7 = (⟨0, false, false, 0, 0, []⟩ : Blk) ∧ H 38 = (⟨0, false, false, 0, 0, []⟩ : Blk) ∧ H 105 = (⟨0, false, false, 0, 0, []⟩ : Blk) ∧ True) ?_ ?_
 ·
  unfold r72_4
  refine R_mv t1 ?_
  refine R_len (@rfl V (V.sl (List.map cL (ws)))) ?_
  refine R_gtr (x := ((ws.length : Nat) : Int)) (y := (10000 : Int)) (@rfl V (iV ((ws.length : Nat) : Int))) (@rfl V (iV (10000 : Int))) ?_
  exact R_nil ⟨t1, t2, rfl, h2, h7, h38, h105, trivial⟩
 intro T H ⟨t1, t2, t19, h2, h7, h38, h105, _⟩
 refine W_seq_if (p := (10000 : Int) < ((ws.length : Nat) : Int)) t19 (fun c2 => ?_) (fun c2 => ?_)
 ·
  refine W_seq_seq ?_
  refine W_seq_regc (fun T H => T 4 = V.nilsl ∧ T 5 = (iV (11 : Int)) ∧ H 2 = (⟨1, true, false, 24, 4, [[(iV (m.i)), (iV (m.s)), (V.sl (List.map cL (m.nx))), (V.sl (List.map cL (m.ot)))]]⟩ : Blk) ∧ H 7 = (⟨0, false, false, 0, 0, []⟩ : Blk) ∧ H 38 = (⟨0, false, false, 0, 0, []⟩ : Blk) ∧ H 105 = (⟨0, false, false, 0, 0, []⟩ : Blk) ∧ True) ?_ ?_
  ·
   unfold r72_5
   refine R_mv (@rfl V V.nilsl) ?_
   refine R_mv (@rfl V (iV (11 : Int))) ?_
   exact R_nil ⟨rfl, rfl, h2, h7, h38, h105, trivial⟩
  intro T H ⟨t4, t5, h2, h7, h38, h105, _⟩
  refine W_seq_ret ?_
  refine Ret_2 t4 t5 (fz_nil ?_) (fz_int ?_)
  · have e : trsE m ws = 11 := by unfold trsE; rw [if_neg (by omega), if_pos (by omega)]
    rw [trsL, if_pos (by omega)]
  · have e : trsE m ws = 11 := by unfold trsE; rw [if_neg (by omega), if_pos (by omega)]
    exact e.symm
 refine W_seq_skip ?_
 refine W_seq_regc (fun T H => T 1 = (V.sl (List.map cL (ws))) ∧ T 2 = (V.mp 2 1 0 0) ∧ T 7 = (V.ms 7 1 0 (0)) ∧ H 2 = (⟨1, true, false, 24, 4, [[(iV (m.i)), (iV (m.s)), (V.sl (List.map cL (m.nx))), (V.sl (List.map cL (m.ot)))]]⟩ : Blk) ∧ H 7 = (⟨1, true, true, 63, 2, []⟩ : Blk) ∧ H 38 = (⟨0, false, false, 0, 0, []⟩ : Blk) ∧ H 105 = (⟨0, false, false, 0, 0, []⟩ : Blk) ∧ True) ?_ ?_
 ·
  unfold r72_6
  refine R_lazy (i := 7) (n := 0) rfl (congrArg Blk.ver h7) ?_
  exact R_nil ⟨t1, t2, rfl, h2, rfl, h38, h105, trivial⟩
 intro T H ⟨t1, t2, t7, h2, h7, h38, h105, _⟩
 refine W_seq_seq ?_
 refine W_seq_regc (fun T H => T 2 = (V.mp 2 1 0 0) ∧ T 7 = (V.ms 7 1 0 (0)) ∧ T 20 = (V.sl (List.map cL (ws))) ∧ T 21 = (iV ((ws.length : Nat) : Int)) ∧ T 22 = (iV (0 : Int)) ∧ H 2 = (⟨1, true, false, 24, 4, [[(iV (m.i)), (iV (m.s)), (V.sl (List.map cL (m.nx))), (V.sl (List.map cL (m.ot)))]]⟩ : Blk) ∧ H 7 = (⟨1, true, true, 63, 2, []⟩ : Blk) ∧ H 38 = (⟨0, false, false, 0, 0, []⟩ : Blk) ∧ H 105 = (⟨0, false, false, 0, 0, []⟩ : Blk) ∧ True) ?_ ?_
 ·
  unfold r72_7
  refine R_mv t1 ?_
  refine R_len (@rfl V (V.sl (List.map cL (ws)))) ?_
  refine R_mv (@rfl V (iV (0 : Int))) ?_
  exact R_nil ⟨t2, t7, rfl, rfl, rfl, h2, h7, h38, h105, trivial⟩
 intro T H ⟨t2, t7, t20, t21, t22, h2, h7, h38, h105, _⟩
 refine W_seq_blockg fun Q3 n3 x3 y3 z3 => ?_
 refine W_loop (fun mm T H => ∃ (k : Nat) (v38 : Nat) (v105 : Nat), mm = ws.length - k ∧ T 2 = (V.mp 2 1 0 0) ∧ T 7 = (V.ms 7 (1 + k) 0 (k)) ∧ T 20 = (V.sl (List.map cL (ws))) ∧ T 21 = (iV ((ws.length : Nat) : Int)) ∧ T 22 = (iV ((k : Nat) : Int)) ∧ H 2 = (⟨1, true, false, 24, 4, [[(iV (m.i)), (iV (m.s)), (V.sl (List.map cL (m.nx))), (V.sl (List.map cL (m.ot)))]]⟩ : Blk) ∧ H 7 = (⟨1 + k, true, true, 63, 2, (List.map cT ((ws.take k).map (trW m)))⟩ : Blk) ∧ (H 38).ver = v38 ∧ (H 105).ver = v105 ∧ (k ≤ ws.length) ∧ (ws.length ≤ 10000) ∧ (mval m = 0) ∧ (fe (wcE m ws) 0 ws.length = fe (wcE m ws) k (ws.length - k))) ?_ ?_
 ·
  refine ⟨_, 0, 0, 0, rfl, t2, (Eq.trans t7 (by first | rfl | simp)), t20, t21, (Eq.trans t22 (by first | rfl | simp)), h2, (Eq.trans h7 (by first | rfl | (rw [take_succ_nth (by omega), List.map_append, List.map_append]; simp [trW, cat, Nat.add_assoc]; done))), (congrArg Blk.ver h38), (congrArg Blk.ver h105), ?_, ?_, ?_, ?_⟩
  · omega
  · omega
  · omega
  · rfl
 intro mm T H ⟨k, v38, v105, hmm, t2, t7, t20, t21, t22, h2, h7, h38, h105, hk, hb, hm, hc⟩ Q4 p14 p24 p34
 unfold b72_0
 refine W_seq_regc (fun T H => T 2 = (V.mp 2 1 0 0) ∧ T 7 = (V.ms 7 (1 + k) 0 (k)) ∧ T 20 = (V.sl (List.map cL (ws))) ∧ T 21 = (iV ((ws.length : Nat) : Int)) ∧ T 22 = (iV ((k : Nat) : Int)) ∧ T 23 = (V.bool (decide (((k : Nat) : Int) < ((ws.length : Nat) : Int)))) ∧ H 2 = (⟨1, true, false, 24, 4, [[(iV (m.i)), (iV (m.s)), (V.sl (List.map cL (m.nx))), (V.sl (List.map cL (m.ot)))]]⟩ : Blk) ∧ H 7 = (⟨1 + k, true, true, 63, 2, (List.map cT ((ws.take k).map (trW m)))⟩ : Blk) ∧ (H 38).ver = v38 ∧ (H 105).ver = v105 ∧ True) ?_ ?_
 ·
  unfold r72_8
  refine R_lss (x := ((k : Nat) : Int)) (y := ((ws.length : Nat) : Int)) t22 t21 ?_
  exact R_nil ⟨t2, t7, t20, t21, t22, rfl, h2, h7, h38, h105, trivial⟩
 intro T H ⟨t2, t7, t20, t21, t22, t23, h2, h7, h38, h105, _⟩
 refine W_seq_if (p := ((k : Nat) : Int) < ((ws.length : Nat) : Int)) t23 (fun c5 => ?_) (fun c5 => ?_)
 ·
  refine W_seq_skip ?_
  refine W_seq_blockg fun Q6 n6 x6 y6 z6 => ?_
  refine W_seq_regc (fun T H => T 2 = (V.mp 2 1 0 0) ∧ T 7 = (V.ms 7 (1 + k) 0 (k)) ∧ T 9 = (V.sl (List.map cI ((nth (ws) (k))))) ∧ T 20 = (V.sl (List.map cL (ws))) ∧ T 21 = (iV ((ws.length : Nat) : Int)) ∧ T 22 = (iV ((k : Nat) : Int)) ∧ H 2 = (⟨1, true, false, 24, 4, [[(iV (m.i)), (iV (m.s)), (V.sl (List.map cL (m.nx))), (V.sl (List.map cL (m.ot)))]]⟩ : Blk) ∧ H 7 = (⟨1 + k, true, true, 63, 2, (List.map cT ((ws.take k).map (trW m)))⟩ : Blk) ∧ (H 38).ver = v38 ∧ (H 105).ver = v105 ∧ True) ?_ ?_
  ·
   unfold r72_9
   refine R_idx (i := k) t20 t22 (by omega) rfl ?_
   refine R_load_pp (v := (V.sl (List.map cI ((nth (ws) (k)))))) (@rfl V (V.pp [(V.sl (List.map cI ((nth (ws) (k)))))])) (by first | rfl | simp [ldV]) ?_
   refine R_mv (@rfl V (V.sl (List.map cI ((nth (ws) (k)))))) ?_
   exact R_nil ⟨t2, t7, rfl, t20, t21, t22, h2, h7, h38, h105, trivial⟩
  intro T H ⟨t2, t7, t9, t20, t21, t22, h2, h7, h38, h105, _⟩
  refine W_seq_seq ?_
  refine W_seq_regc (fun T H => T 2 = (V.mp 2 1 0 0) ∧ T 7 = (V.ms 7 (1 + k) 0 (k)) ∧ T 9 = (V.sl (List.map cI ((nth (ws) (k))))) ∧ T 10 = (iV (wchk ((nth (ws) (k))) ((m.i)))) ∧ T 20 = (V.sl (List.map cL (ws))) ∧ T 21 = (iV ((ws.length : Nat) : Int)) ∧ T 22 = (iV ((k : Nat) : Int)) ∧ H 2 = (⟨1, true, false, 24, 4, [[(iV (m.i)), (iV (m.s)), (V.sl (List.map cL (m.nx))), (V.sl (List.map cL (m.ot)))]]⟩ : Blk) ∧ H 7 = (⟨1 + k, true, true, 63, 2, (List.map cT ((ws.take k).map (trW m)))⟩ : Blk) ∧ (H 38).ver = v38 ∧ (H 105).ver = v105 ∧ True) ?_ ?_
  ·
   unfold r72_10
   refine R_mv t9 ?_
   refine R_fld_mp (o' := 0) t2 h2 (by first | rfl | simp [okB, Blk.own]) rfl ?_
   refine R_load_mp (v := (iV (m.i))) (@rfl V (V.mp 2 1 0 0)) h2 (by first | rfl | simp [ldB, ldV, Blk.own, V.one]) ?_
   refine R_call (evcons (@rfl V (V.sl (List.map cI ((nth (ws) (k)))))) (evcons (@rfl V (iV (m.i))) evnil)) (check_pure ((nth (ws) (k))) ((m.i))) (fzv_mapcanon _ _ (by simp [-List.map_take, -List.map_drop, -List.map_append, -List.map_reverse])) (by simp [-List.map_take, -List.map_drop, -List.map_append, -List.map_reverse]) (Or.inl (by simp [-List.map_take, -List.map_drop, -List.map_append, -List.map_reverse])) ?_
   refine R_mv (@rfl V (iV (wchk ((nth (ws) (k))) ((m.i))))) ?_
   exact R_nil ⟨t2, t7, t9, rfl, t20, t21, t22, h2, h7, h38, h105, trivial⟩
  intro T H ⟨t2, t7, t9, t10, t20, t21, t22, h2, h7, h38, h105, _⟩
  refine W_seq_seq ?_
  refine W_seq_regc (fun T H => T 2 = (V.mp 2 1 0 0) ∧ T 7 = (V.ms 7 (1 + k) 0 (k)) ∧ T 9 = (V.sl (List.map cI ((nth (ws) (k))))) ∧ T 10 = (iV (wchk ((nth (ws) (k))) ((m.i)))) ∧ T 20 = (V.sl (List.map cL (ws))) ∧ T 21 = (iV ((ws.length : Nat) : Int)) ∧ T 22 = (iV ((k : Nat) : Int)) ∧ T 31 = (V.bool (decide ((wchk ((nth (ws) (k))) ((m.i))) ≠ (0 : Int)))) ∧ H 2 = (⟨1, true, false, 24, 4, [[(iV (m.i)), (iV (m.s)), (V.sl (List.map cL (m.nx))), (V.sl (List.map cL (m.ot)))]]⟩ : Blk) ∧ H 7 = (⟨1 + k, true, true, 63, 2, (List.map cT ((ws.take k).map (trW m)))⟩ : Blk) ∧ (H 38).ver = v38 ∧ (H 105).ver = v105 ∧ True) ?_ ?_
  ·
   unfold r72_11
   refine R_mv t10 ?_
   refine R_neq (x := (wchk ((nth (ws) (k))) ((m.i)))) (y := (0 : Int)) (@rfl V (iV (wchk ((nth (ws) (k))) ((m.i))))) (@rfl V (iV (0 : Int))) ?_
   exact R_nil ⟨t2, t7, t9, t10, t20, t21, t22, rfl, h2, h7, h38, h105, trivial⟩
  intro T H ⟨t2, t7, t9, t10, t20, t21, t22, t31, h2, h7, h38, h105, _⟩
  refine W_seq_if (p := (wchk ((nth (ws) (k))) ((m.i))) ≠ (0 : Int)) t31 (fun c7 => ?_) (fun c7 => ?_)
  ·
   have d1 := c7
   refine W_seq_seq ?_
   refine W_seq_regc (fun T H => T 4 = V.nilsl ∧ T 5 = (iV (wchk ((nth (ws) (k))) ((m.i)))) ∧ H 2 = (⟨1, true, false, 24, 4, [[(iV (m.i)), (iV (m.s)), (V.sl (List.map cL (m.nx))), (V.sl (List.map cL (m.ot)))]]⟩ : Blk) ∧ H 7 = (⟨1 + k, true, true, 63, 2, (List.map cT ((ws.take k).map (trW m)))⟩ : Blk) ∧ (H 38).ver = v38 ∧ (H 105).ver = v105 ∧ True) ?_ ?_
   ·
    unfold r72_12
    refine R_mv t10 ?_
    refine R_mv (@rfl V V.nilsl) ?_
    refine R_mv (@rfl V (iV (wchk ((nth (ws) (k))) ((m.i))))) ?_
    exact R_nil ⟨rfl, rfl, h2, h7, h38, h105, trivial⟩
   intro T H ⟨t4, t5, h2, h7, h38, h105, _⟩
   refine W_seq_ret ?_
   refine y6 _ _ ?_
   refine p24 _ _ ?_
   refine y3 _ _ ?_
   refine Ret_2 t4 t5 (fz_nil ?_) (fz_int ?_)
   · have e : trsE m ws = wchk (nth ws k) m.i := by unfold trsE; rw [if_neg (by omega), if_neg (by omega), hc]; exact fe_hit (e := wcE m ws) d1 (by omega)
     rw [trsL, if_pos (by rw [e]; exact d1)]
   · have e : trsE m ws = wchk (nth ws k) m.i := by unfold trsE; rw [if_neg (by omega), if_neg (by omega), hc]; exact fe_hit (e := wcE m ws) d1 (by omega)
     exact e.symm
  have d1 := c7
  have hw := wchk_ok (w := nth ws k) (n := m.i) (by omega)
  refine W_seq_skip ?_
  refine W_seq_regc (fun T H => T 2 = (V.mp 2 1 0 0) ∧ T 7 = (V.ms 7 (1 + k) 0 (k)) ∧ T 9 = (V.sl (List.map cI ((nth (ws) (k))))) ∧ T 11 = (V.mp 38 (v38 + 1) 0 0) ∧ T 20 = (V.sl (List.map cL (ws))) ∧ T 21 = (iV ((ws.length : Nat) : Int)) ∧ T 22 = (iV ((k : Nat) : Int)) ∧ H 2 = (⟨1, true, false, 24, 4, [[(iV (m.i)), (iV (m.s)), (V.sl (List.map cL (m.nx))), (V.sl (List.map cL (m.ot)))]]⟩ : Blk) ∧ H 7 = (⟨1 + k, true, true, 63, 2, (List.map cT ((ws.take k).map (trW m)))⟩ : Blk) ∧ H 38 = (⟨v38 + 1, true, false, 122, 5, [[(iV (m.i)), (iV (m.s)), (V.sl (List.map cL (m.nx))), (V.sl (List.map cL (m.ot))), (iV (m.s))]]⟩ : Blk) ∧ (H 105).ver = v105 ∧ True) ?_ ?_
  ·
   unfold r72_13
   refine R_load_mp (v := (V.agg [(iV (m.i)), (iV (m.s)), (V.sl (List.map cL (m.nx))), (V.sl (List.map cL (m.ot)))])) t2 h2 (by first | rfl | simp [ldB, ldV, Blk.own, V.one]) ?_
   refine R_build (qs := [(0, 4, (V.agg [(iV (m.i)), (iV (m.s)), (V.sl (List.map cL (m.nx))), (V.sl (List.map cL (m.ot)))]))]) (cs := [(iV (m.i)), (iV (m.s)), (V.sl (List.map cL (m.nx))), (V.sl (List.map cL (m.ot)))]) (mcons (congrArg (fun v => (0, 4, v)) (@rfl V (V.agg [(iV (m.i)), (iV (m.s)), (V.sl (List.map cL (m.nx))), (V.sl (List.map cL (m.ot)))]))) rfl) rfl ?_
   refine R_fld_mp (o' := 1) t2 h2 (by first | rfl | simp [okB, Blk.own]) rfl ?_
   refine R_load_mp (v := (iV (m.s))) (@rfl V (V.mp 2 1 0 1)) h2 (by first | rfl | simp [ldB, ldV, Blk.own, V.one]) ?_
   refine R_build (qs := [(0, 4, (V.agg [(iV (m.i)), (iV (m.s)), (V.sl (List.map cL (m.nx))), (V.sl (List.map cL (m.ot)))])), (4, 1, (iV (m.s)))]) (cs := [(iV (m.i)), (iV (m.s)), (V.sl (List.map cL (m.nx))), (V.sl (List.map cL (m.ot))), (iV (m.s))]) (mcons (congrArg (fun v => (0, 4, v)) (@rfl V (V.agg [(iV (m.i)), (iV (m.s)), (V.sl (List.map cL (m.nx))), (V.sl (List.map cL (m.ot)))]))) (mcons (congrArg (fun v => (4, 1, v)) (@rfl V (iV (m.s)))) rfl)) rfl ?_
   refine R_box (i := 38) (n := v38) (m := 5) (cs := [(iV (m.i)), (iV (m.s)), (V.sl (List.map cL (m.nx))), (V.sl (List.map cL (m.ot))), (iV (m.s))]) rfl h38 (@rfl V (V.agg [(iV (m.i)), (iV (m.s)), (V.sl (List.map cL (m.nx))), (V.sl (List.map cL (m.ot))), (iV (m.s))])) rfl rfl ?_
   refine R_mv (@rfl V (V.mp 38 (v38 + 1) 0 0)) ?_
   exact R_nil ⟨t2, t7, t9, rfl, t20, t21, t22, h2, h7, rfl, h105, trivial⟩
  intro T H ⟨t2, t7, t9, t11, t20, t21, t22, h2, h7, h38, h105, _⟩
  refine W_regc (fun T H => T 2 = (V.mp 2 1 0 0) ∧ T 7 = (V.ms 7 (1 + k + 1) 0 (k + 1)) ∧ T 20 = (V.sl (List.map cL (ws))) ∧ T 21 = (iV ((ws.length : Nat) : Int)) ∧ T 22 = (iV ((k : Nat) : Int)) ∧ H 2 = (⟨1, true, false, 24, 4, [[(iV (m.i)), (iV (m.s)), (V.sl (List.map cL (m.nx))), (V.sl (List.map cL (m.ot)))]]⟩ : Blk) ∧ H 7 = (⟨1 + k + 1, true, true, 63, 2, (List.map cT ((ws.take k).map (trW m) ++ [(⟨nth (ws) (k), outs m m.s ((nth (ws) (k)))⟩ : Tr)]))⟩ : Blk) ∧ H 38 = (⟨v38 + 1, true, false, 122, 5, [[(iV (m.i)), (iV (m.s)), (V.sl (List.map cL (m.nx))), (V.sl (List.map cL (m.ot))), (iV (goal m m.s ((nth (ws) (k)))))]]⟩ : Blk) ∧ H 105 = (⟨v105 + 1 + ((nth (ws) (k))).length, false, false, 0, 0, []⟩ : Blk) ∧ True) ?_ ?_
  ·
   unfold r72_14
   refine R_mv t7 ?_
   refine R_mv t9 ?_
   refine R_call (evcons (@rfl V (V.sl (List.map cI ((nth (ws) (k)))))) evnil) (clone_pure ((nth (ws) (k))) (by omega)) (fzv_mapcanon _ _ (by simp [-List.map_take, -List.map_drop, -List.map_append, -List.map_reverse])) (by simp [-List.map_take, -List.map_drop, -List.map_append, -List.map_reverse]) (Or.inl (by simp [-List.map_take, -List.map_drop, -List.map_append, -List.map_reverse])) ?_
   refine R_mv t11 ?_
   refine R_mv t9 ?_
   refine R_callE (evcons (@rfl V (V.mp 38 (v38 + 1) 0 0)) (evcons (@rfl V (V.sl (List.map cI ((nth (ws) (k)))))) evnil)) (run38_E m m.s ((nth (ws) (k))) (v38 + 1) v105 _ h38 h105 hm ⟨hs, hs2⟩ hw.1 hw.2) ?_
   refine R_build (qs := [(0, 1, (V.sl (List.map cI (((nth (ws) (k))))))), (1, 1, (V.sl (List.map cI (outs m m.s ((nth (ws) (k)))))))]) (cs := [(V.sl (List.map cI (((nth (ws) (k)))))), (V.sl (List.map cI (outs m m.s ((nth (ws) (k))))))]) (mcons (congrArg (fun v => (0, 1, v)) (@rfl V (V.sl (List.map cI (((nth (ws) (k)))))))) (mcons (congrArg (fun v => (1, 1, v)) (@rfl V (V.sl (List.map cI (outs m m.s ((nth (ws) (k)))))))) rfl)) rfl ?_
   refine R_bslice (qs := [(0, (V.agg [(V.sl (List.map cI (((nth (ws) (k)))))), (V.sl (List.map cI (outs m m.s ((nth (ws) (k))))))]))]) (rows := [[(V.sl (List.map cI (((nth (ws) (k)))))), (V.sl (List.map cI (outs m m.s ((nth (ws) (k))))))]]) (mcons (congrArg (fun v => (0, v)) (@rfl V (V.agg [(V.sl (List.map cI (((nth (ws) (k)))))), (V.sl (List.map cI (outs m m.s ((nth (ws) (k))))))]))) rfl) rfl ?_
   refine R_append1 (l := ((ws.take k).map (trW m))) (f := cT) (x := ((⟨nth (ws) (k), outs m m.s ((nth (ws) (k)))⟩ : Tr))) (@rfl V (V.ms 7 (1 + k) 0 (k))) h7 (by first | rfl | (simp only [List.length_map, List.length_take]; omega) | simp) (@rfl V (V.sl [[(V.sl (List.map cI (((nth (ws) (k)))))), (V.sl (List.map cI (outs m m.s ((nth (ws) (k))))))]])) rfl rfl (by omega) (by omega) ?_
   refine R_mv (@rfl V (V.ms 7 (1 + k + 1) 0 (k + 1))) ?_
   exact R_nil ⟨t2, rfl, t20, t21, t22, h2, rfl, rfl, rfl, trivial⟩
  intro T H ⟨t2, t7, t20, t21, t22, h2, h7, h38, h105, _⟩
  refine n6 _ _ ?_
  refine .done ?_
  refine W_regc (fun T H => T 2 = (V.mp 2 1 0 0) ∧ T 7 = (V.ms 7 (1 + k + 1) 0 (k + 1)) ∧ T 20 = (V.sl (List.map cL (ws))) ∧ T 21 = (iV ((ws.length : Nat) : Int)) ∧ T 22 = (iV ((k + 1 : Nat) : Int)) ∧ H 2 = (⟨1, true, false, 24, 4, [[(iV (m.i)), (iV (m.s)), (V.sl (List.map cL (m.nx))), (V.sl (List.map cL (m.ot)))]]⟩ : Blk) ∧ H 7 = (⟨1 + k + 1, true, true, 63, 2, (List.map cT ((ws.take k).map (trW m) ++ [(⟨nth (ws) (k), outs m m.s ((nth (ws) (k)))⟩ : Tr)]))⟩ : Blk) ∧ H 38 = (⟨v38 + 1, true, false, 122, 5, [[(iV (m.i)), (iV (m.s)), (V.sl (List.map cL (m.nx))), (V.sl (List.map cL (m.ot))), (iV (goal m m.s ((nth (ws) (k)))))]]⟩ : Blk) ∧ H 105 = (⟨v105 + 1 + ((nth (ws) (k))).length, false, false, 0, 0, []⟩ : Blk) ∧ True) ?_ ?_
  ·
   unfold r72_15
   refine R_addN (m := k) (n := 1) t22 (@rfl V (iV ((1 : Nat) : Int))) (by omega) ?_
   refine R_mv (@rfl V (iV ((k + 1 : Nat) : Int))) ?_
   exact R_nil ⟨t2, t7, t20, t21, rfl, h2, h7, h38, h105, trivial⟩
  intro T H ⟨t2, t7, t20, t21, t22, h2, h7, h38, h105, _⟩
  refine p14 _ _ _ ?_ ⟨(k + 1), (v38 + 1), (v105 + 1 + ((nth (ws) (k))).length), rfl, t2, (Eq.trans t7 (by first | rfl | simp)), t20, t21, (Eq.trans t22 (by first | rfl | simp)), h2, (Eq.trans h7 (by first | rfl | (rw [take_succ_nth (by omega), List.map_append, List.map_append]; simp [trW, cat, Nat.add_assoc]; done))), (congrArg Blk.ver h38), (congrArg Blk.ver h105), ?_, ?_, ?_, ?_⟩
  · omega
  · omega
  · omega
  · omega
  · rw [hc, fe_skip (show wcE m ws k = 0 from Decidable.not_not.1 d1) (by omega)]
 refine W_seq_exit ?_
 refine p34 _ _ _ ?_
 refine x3 _ _ ?_
 refine .done ?_
 refine W_seq_regc (fun T H => T 4 = (V.ms 7 (1 + k) 0 (k)) ∧ T 5 = (iV (0 : Int)) ∧ H 2 = (⟨1, true, false, 24, 4, [[(iV (m.i)), (iV (m.s)), (V.sl (List.map cL (m.nx))), (V.sl (List.map cL (m.ot)))]]⟩ : Blk) ∧ H 7 = (⟨1 + k, true, true, 63, 2, (List.map cT ((ws.take k).map (trW m)))⟩ : Blk) ∧ (H 38).ver = v38 ∧ (H 105).ver = v105 ∧ True) ?_ ?_
 ·
  unfold r72_16
  refine R_mv t7 ?_
  refine R_mv (@rfl V (V.ms 7 (1 + k) 0 (k))) ?_
  refine R_mv (@rfl V (iV (0 : Int))) ?_
  exact R_nil ⟨rfl, rfl, h2, h7, h38, h105, trivial⟩
 intro T H ⟨t4, t5, h2, h7, h38, h105, _⟩
 refine W_ret ?_
 refine Ret_2 t4 t5 (fz_ms h7 (by first | rfl | simp) (l := ((ws.take k).map (trW m))) rfl (by first | rfl | (simp only [List.length_map, List.length_take]; omega) | simp) (fun _ => by simp) ?_) (fz_int ?_)
 · have e : trsE m ws = 0 := by unfold trsE; rw [if_neg (by omega), if_neg (by omega), hc, fe_end (by omega)]
   rw [trsL, if_neg (by omega), show k = ws.length by omega, List.take_length]
 · have e : trsE m ws = 0 := by unfold trsE; rw [if_neg (by omega), if_neg (by omega), hc, fe_end (by omega)]
   exact e.symm
end Go.Proofs.Ytngkckefanbhgaa

namespace Go.Proofs.Ytngkckefanbhgaa
open Go Go.Proofs
def r73_0 : List SO := [
  ⟨none, some 2, .box 34 2 (.t 0)⟩,
  ⟨none, some 4, .alloc 34 [.int .i64 0, .nilsl]⟩,
  ⟨none, some 5, .mv (.c (.int .i64 0))⟩]
def r73_1 : List SO := [
  ⟨none, some 12, .fld 1 (.t 2)⟩,
  ⟨none, some 13, .load false 1 (.t 12)⟩,
  ⟨none, some 14, .call true 102 [.t 13]⟩,
  ⟨none, some 6, .mv (.t 14)⟩]
def r73_2 : List SO := [
  ⟨none, some 15, .mv (.t 1)⟩,
  ⟨none, some 16, .len (.t 15)⟩,
  ⟨none, some 17, .mv (.c (.int .i64 0))⟩]
def r73_3 : List SO := [
  ⟨none, some 18, .bin .lss (.t 17) (.t 16)⟩]
def r73_4 : List SO := [
  ⟨none, some 19, .idx 2 (.t 15) (.t 17)⟩,
  ⟨none, some 20, .load true 2 (.t 19)⟩,
  ⟨none, some 8, .alloc 63 [.nilsl, .nilsl]⟩,
  ⟨none, none, .store 2 (.t 8) (.t 20)⟩]
def r73_5 : List SO := [
  ⟨none, some 21, .load true 2 (.t 8)⟩,
  ⟨none, some 22, .fld 0 (.t 2)⟩,
  ⟨none, some 23, .load false 1 (.t 22)⟩,
  ⟨none, some 24, .call false 78 [.t 21, .t 23]⟩,
  ⟨none, some 9, .mv (.t 24)⟩]
def r73_6 : List SO := [
  ⟨none, some 25, .mv (.t 9)⟩,
  ⟨none, some 26, .bin .neq (.t 25) (.c (.int .i64 0))⟩]
def r73_7 : List SO := [
  ⟨none, some 27, .load true 2 (.t 2)⟩,
  ⟨none, some 28, .mv (.t 9)⟩,
  ⟨none, none, .store 2 (.t 4) (.t 27)⟩,
  ⟨none, some 5, .mv (.t 28)⟩]
def r73_8 : List SO := [
  ⟨none, some 30, .mv (.t 6)⟩,
  ⟨none, some 31, .load true 2 (.t 8)⟩,
  ⟨none, some 32, .call true 103 [.t 30, .t 31]⟩,
  ⟨none, some 29, .mv (.t 32)⟩,
  ⟨none, some 33, .ext (.t 29) 0⟩,
  ⟨none, some 34, .ext (.t 29) 1⟩,
  ⟨none, some 10, .mv (.t 33)⟩,
  ⟨none, some 11, .mv (.t 34)⟩]
def r73_9 : List SO := [
  ⟨none, some 35, .mv (.t 11)⟩,
  ⟨none, some 36, .bin .neq (.t 35) (.c (.int .i64 0))⟩]
def r73_10 : List SO := [
  ⟨none, some 37, .load true 2 (.t 2)⟩,
  ⟨none, some 38, .mv (.t 11)⟩,
  ⟨none, none, .store 2 (.t 4) (.t 37)⟩,
  ⟨none, some 5, .mv (.t 38)⟩]
def r73_11 : List SO := [
  ⟨none, some 39, .mv (.t 10)⟩,
  ⟨none, some 6, .mv (.t 39)⟩]
def r73_12 : List SO := [
  ⟨none, some 40, .bin .add (.t 17) (.c (.int .i64 1))⟩,
  ⟨none, some 17, .mv (.t 40)⟩]
def b73_0 : SC := .seq (.reg r73_3) (.seq (.cond (.t 18) (.skip) (.exit 0)) (.seq (.block 1 (.seq (.reg r73_4) (.seq (.seq (.reg r73_5) (.seq (.reg r73_6) (.cond (.t 26) (.seq (.reg r73_7) (.ret)) (.skip)))) (.seq (.reg r73_8) (.seq (.seq (.reg r73_9) (.cond (.t 36) (.seq (.reg r73_10) (.ret)) (.skip))) (.reg r73_11)))))) (.reg r73_12)))
def r73_13 : List SO := [
  ⟨none, some 41, .fld 0 (.t 2)⟩,
  ⟨none, some 42, .load false 1 (.t 41)⟩,
  ⟨none, some 43, .mv (.t 6)⟩,
  ⟨none, some 44, .build [.int .i64 0, .nilsl] [(0, 1, .t 42), (1, 1, .t 43)]⟩,
  ⟨none, none, .store 2 (.t 4) (.t 44)⟩,
  ⟨none, some 5, .mv (.c (.int .i64 0))⟩]
def s73 : SF := ⟨45, [.cell 4 true 2, .tmp 5], .seq (.reg r73_0) (.seq (.reg r73_1) (.seq (.seq (.reg r73_2) (.block 0 (.loop b73_0))) (.seq (.reg r73_13) (.ret))))⟩
theorem s73_ok : slimF Try.prog ⟨[94, 102, 103, 108, 109, 116, 119, 121, 125], []⟩ Try.f73 = some s73 := by kernel_rfl
end Go.Proofs.Ytngkckefanbhgaa

namespace Go.Proofs.Ytngkckefanbhgaa
open Go Go.Proofs
def r78_0 : List SO := [
  ⟨none, some 2, .box 63 2 (.t 0)⟩,
  ⟨none, some 4, .mv (.c (.int .i64 0))⟩]
def r78_1 : List SO := [
  ⟨none, some 6, .fld 0 (.t 2)⟩,
  ⟨none, some 7, .load false 1 (.t 6)⟩,
  ⟨none, some 8, .mv (.t 1)⟩,
  ⟨none, some 9, .call false 77 [.t 7, .t 8]⟩,
  ⟨none, some 5, .mv (.t 9)⟩]
def r78_2 : List SO := [
  ⟨none, some 10, .mv (.t 5)⟩,
  ⟨none, some 11, .bin .neq (.t 10) (.c (.int .i64 0))⟩]
def r78_3 : List SO := [
  ⟨none, some 12, .mv (.t 5)⟩,
  ⟨none, some 4, .mv (.t 12)⟩]
def r78_4 : List SO := [
  ⟨none, some 14, .fld 1 (.t 2)⟩,
  ⟨none, some 15, .load false 1 (.t 14)⟩,
  ⟨none, some 16, .len (.t 15)⟩,
  ⟨none, some 17, .fld 0 (.t 2)⟩,
  ⟨none, some 18, .load false 1 (.t 17)⟩,
  ⟨none, some 19, .len (.t 18)⟩,
  ⟨none, some 20, .bin .neq (.t 16) (.t 19)⟩,
  ⟨none, some 13, .mv (.t 20)⟩]
def r78_5 : List SO := [
  ⟨none, some 4, .mv (.c (.int .i64 1))⟩]
def r78_6 : List SO := [
  ⟨none, some 22, .fld 1 (.t 2)⟩,
  ⟨none, some 23, .load false 1 (.t 22)⟩,
  ⟨none, some 24, .call false 105 [.t 23, .c (.fn 107 [] [])]⟩,
  ⟨none, some 21, .mv (.t 24)⟩]
def r78_7 : List SO := [
  ⟨none, some 4, .mv (.c (.int .i64 2))⟩]
def r78_8 : List SO := [
  ⟨none, some 4, .mv (.c (.int .i64 0))⟩]
def s78 : SF := ⟨25, [.tmp 4], .seq (.reg r78_0) (.seq (.seq (.reg r78_1) (.seq (.reg r78_2) (.cond (.t 11) (.seq (.reg r78_3) (.ret)) (.skip)))) (.seq (.block 0 (.seq (.reg r78_4) (.cond (.t 13) (.seq (.reg r78_5) (.ret)) (.seq (.reg r78_6) (.cond (.t 21) (.seq (.reg r78_7) (.ret)) (.skip)))))) (.seq (.reg r78_8) (.ret))))⟩
theorem s78_ok : slimF Try.prog ⟨[94, 102, 103, 108, 109, 116, 119, 121, 125], []⟩ Try.f78 = some s78 := by kernel_rfl
end Go.Proofs.Ytngkckefanbhgaa

namespace Go.Proofs.Ytngkckefanbhgaa
open Go Go.Proofs
def r107_0 : List SO := [
  ⟨none, some 2, .mv (.c (.bool false))⟩]
def r107_1 : List SO := [
  ⟨none, some 3, .mv (.t 0)⟩,
  ⟨none, some 4, .bin .lss (.t 3) (.c (.int .i64 0))⟩,
  ⟨none, some 5, .mv (.t 4)⟩,
  ⟨some (5, false), some 6, .mv (.t 0)⟩,
  ⟨some (5, false), some 7, .bin .gtr (.t 6) (.c (.int .i64 1048576))⟩,
  ⟨none, some 8, .pick (.t 5) (.c (.bool true)) (.t 7)⟩,
  ⟨none, some 2, .mv (.t 8)⟩]
def s107 : SF := ⟨9, [.tmp 2], .seq (.reg r107_0) (.seq (.reg r107_1) (.ret))⟩
theorem s107_ok : slimF Try.prog ⟨[94, 102, 103, 108, 109, 116, 119, 121, 125], []⟩ Try.f107 = some s107 := by kernel_rfl
end Go.Proofs.Ytngkckefanbhgaa

namespace Go.Proofs.Ytngkckefanbhgaa
open Go Go.Proofs
theorem proper1_pure (a : Int) : PureC Try.prog 107 [(iV (a))] (V.bool (decide (a < 0 ∨ 1048576 < a))) := by
 refine pure_of_Wb true 6 Try.func107 s107_ok (by kernel_rfl) (by simp [s107]) (by simp) (by simp) fun hB => ?_
 simp only [bnd_map, bnd_int, bnd_bool, bnd_str, bnd_agg, bnd_pp, bnd_nil, bnd_cons, implies_true, and_true, true_and] at hB
 unfold s107
 dsimp only
 refine W_seq_regc (fun T H => T 0 = (iV (a)) ∧ True) ?_ ?_
 ·
  unfold r107_0
  refine R_mv (@rfl V (V.bool false)) ?_
  exact R_nil ⟨rfl, trivial⟩
 intro T H ⟨t0, _⟩
 refine W_seq_regc (fun T H => T 2 = (V.bool (decide (((a) < (0 : Int)) ∨ ((1048576 : Int) < (a))))) ∧ True) ?_ ?_
 ·
  unfold r107_1
  refine R_mv t0 ?_
  refine R_lss (x := (a)) (y := (0 : Int)) (@rfl V (iV (a))) (@rfl V (iV (0 : Int))) ?_
  refine R_mv (@rfl V (V.bool (decide ((a) < (0 : Int))))) ?_
  refine Ops_seg 3 (fun T H => T 8 = (V.bool (decide (((a) < (0 : Int)) ∨ ((1048576 : Int) < (a))))) ∧ True) ?_ ?_
  ·
   by_cases g1 : (a) < (0 : Int)
   ·
    refine G_no (Eq.trans (@rfl V (V.bool (decide ((a) < (0 : Int))))) (bdT g1)) (by decide) ?_
    refine G_no (Eq.trans (@rfl V (V.bool (decide ((a) < (0 : Int))))) (bdT g1)) (by decide) ?_
    refine R_pickT (Eq.trans (@rfl V (V.bool (decide ((a) < (0 : Int))))) (bdT g1)) (@rfl V (V.bool true)) ?_
    exact ⟨(Eq.trans (@rfl V (V.bool true)) (dec_orT g1)), trivial⟩
   ·
    refine G_yes (Eq.trans (@rfl V (V.bool (decide ((a) < (0 : Int))))) (bdF g1)) ?_
    refine R_mv t0 ?_
    refine G_yes (Eq.trans (@rfl V (V.bool (decide ((a) < (0 : Int))))) (bdF g1)) ?_
    refine R_gtr (x := (a)) (y := (1048576 : Int)) (@rfl V (iV (a))) (@rfl V (iV (1048576 : Int))) ?_
    refine R_pickF (Eq.trans (@rfl V (V.bool (decide ((a) < (0 : Int))))) (bdF g1)) (@rfl V (V.bool (decide ((1048576 : Int) < (a))))) ?_
    exact ⟨(Eq.trans (@rfl V (V.bool (decide ((1048576 : Int) < (a))))) (dec_orF g1)), trivial⟩
  intro T H ⟨t8, _⟩
  refine R_mv t8 ?_
  exact R_nil ⟨rfl, trivial⟩
 intro T H ⟨t2, _⟩
 refine W_ret ?_
 refine Ret_1 t2 (fz_bool ?_)
 · first | rfl | omega | simp_all
end Go.Proofs.Ytngkckefanbhgaa

namespace Go.Proofs.Ytngkckefanbhgaa
open Go Go.Proofs
theorem proper_pure (t : Tr) (n : Int) : PureC Try.prog 78 [(V.agg [(V.sl (List.map cI (t.ni))), (V.sl (List.map cI (t.no)))]), (iV (n))] (iV (prE t n)) := by
 refine pure_of_Wb true 6 Try.func78 s78_ok (by kernel_rfl) (by simp [s78]) (by simp) (by simp) fun hB => ?_
 simp only [bnd_map, bnd_int, bnd_bool, bnd_str, bnd_agg, bnd_pp, bnd_nil, bnd_cons, implies_true, and_true, true_and] at hB
 unfold s78
 dsimp only
 refine W_seq_regc (fun T H => T 1 = (iV (n)) ∧ T 2 = (V.mp 2 1 0 0) ∧ H 2 = (⟨1, true, false, 63, 2, [[(V.sl (List.map cI (t.ni))), (V.sl (List.map cI (t.no)))]]⟩ : Blk) ∧ True) ?_ ?_
 ·
  unfold r78_0
  refine R_box (i := 2) (n := 0) (m := 2) (cs := [(V.sl (List.map cI (t.ni))), (V.sl (List.map cI (t.no)))]) rfl (congrArg Blk.ver rfl) (@rfl V (V.agg [(V.sl (List.map cI (t.ni))), (V.sl (List.map cI (t.no)))])) rfl rfl ?_
  refine R_mv (@rfl V (iV (0 : Int))) ?_
  exact R_nil ⟨rfl, rfl, rfl, trivial⟩
 intro T H ⟨t1, t2, h2, _⟩
 refine W_seq_seq ?_
 refine W_seq_regc (fun T H => T 2 = (V.mp 2 1 0 0) ∧ T 5 = (iV (wchk t.ni ((n)))) ∧ H 2 = (⟨1, true, false, 63, 2, [[(V.sl (List.map cI (t.ni))), (V.sl (List.map cI (t.no)))]]⟩ : Blk) ∧ True) ?_ ?_
 ·
  unfold r78_1
  refine R_fld_mp (o' := 0) t2 h2 (by first | rfl | simp [okB, Blk.own]) rfl ?_
  refine R_load_mp (v := (V.sl (List.map cI (t.ni)))) (@rfl V (V.mp 2 1 0 0)) h2 (by first | rfl | simp [ldB, ldV, Blk.own, V.one]) ?_
  refine R_mv t1 ?_
  refine R_call (evcons (@rfl V (V.sl (List.map cI (t.ni)))) (evcons (@rfl V (iV (n))) evnil)) (check_pure t.ni ((n))) (fzv_mapcanon _ _ (by simp [-List.map_take, -List.map_drop, -List.map_append, -List.map_reverse])) (by simp [-List.map_take, -List.map_drop, -List.map_append, -List.map_reverse]) (Or.inl (by simp [-List.map_take, -List.map_drop, -List.map_append, -List.map_reverse])) ?_
  refine R_mv (@rfl V (iV (wchk t.ni ((n))))) ?_
  exact R_nil ⟨t2, rfl, h2, trivial⟩
 intro T H ⟨t2, t5, h2, _⟩
 refine W_seq_seq ?_
 refine W_seq_regc (fun T H => T 2 = (V.mp 2 1 0 0) ∧ T 5 = (iV (wchk t.ni ((n)))) ∧ T 11 = (V.bool (decide ((wchk t.ni ((n))) ≠ (0 : Int)))) ∧ H 2 = (⟨1, true, false, 63, 2, [[(V.sl (List.map cI (t.ni))), (V.sl (List.map cI (t.no)))]]⟩ : Blk) ∧ True) ?_ ?_
 ·
  unfold r78_2
  refine R_mv t5 ?_
  refine R_neq (x := (wchk t.ni ((n)))) (y := (0 : Int)) (@rfl V (iV (wchk t.ni ((n))))) (@rfl V (iV (0 : Int))) ?_
  exact R_nil ⟨t2, t5, rfl, h2, trivial⟩
 intro T H ⟨t2, t5, t11, h2, _⟩
 refine W_seq_if (p := (wchk t.ni ((n))) ≠ (0 : Int)) t11 (fun c1 => ?_) (fun c1 => ?_)
 ·
  refine W_seq_seq ?_
  refine W_seq_regc (fun T H => T 4 = (iV (wchk t.ni ((n)))) ∧ H 2 = (⟨1, true, false, 63, 2, [[(V.sl (List.map cI (t.ni))), (V.sl (List.map cI (t.no)))]]⟩ : Blk) ∧ True) ?_ ?_
  ·
   unfold r78_3
   refine R_mv t5 ?_
   refine R_mv (@rfl V (iV (wchk t.ni ((n))))) ?_
   exact R_nil ⟨rfl, h2, trivial⟩
  intro T H ⟨t4, h2, _⟩
  refine W_seq_ret ?_
  refine Ret_1 t4 (fz_int ?_)
  · rw [prE, if_pos (by omega)]
 refine W_seq_skip ?_
 refine W_seq_blockg fun Q2 n2 x2 y2 z2 => ?_
 refine W_seq_regc (fun T H => T 2 = (V.mp 2 1 0 0) ∧ T 13 = (V.bool (decide (((t.no.length : Nat) : Int) ≠ ((t.ni.length : Nat) : Int)))) ∧ H 2 = (⟨1, true, false, 63, 2, [[(V.sl (List.map cI (t.ni))), (V.sl (List.map cI (t.no)))]]⟩ : Blk) ∧ True) ?_ ?_
 ·
  unfold r78_4
  refine R_fld_mp (o' := 1) t2 h2 (by first | rfl | simp [okB, Blk.own]) rfl ?_
  refine R_load_mp (v := (V.sl (List.map cI (t.no)))) (@rfl V (V.mp 2 1 0 1)) h2 (by first | rfl | simp [ldB, ldV, Blk.own, V.one]) ?_
  refine R_len (@rfl V (V.sl (List.map cI (t.no)))) ?_
  refine R_fld_mp (o' := 0) t2 h2 (by first | rfl | simp [okB, Blk.own]) rfl ?_
  refine R_load_mp (v := (V.sl (List.map cI (t.ni)))) (@rfl V (V.mp 2 1 0 0)) h2 (by first | rfl | simp [ldB, ldV, Blk.own, V.one]) ?_
  refine R_len (@rfl V (V.sl (List.map cI (t.ni)))) ?_
  refine R_neq (x := ((t.no.length : Nat) : Int)) (y := ((t.ni.length : Nat) : Int)) (@rfl V (iV ((t.no.length : Nat) : Int))) (@rfl V (iV ((t.ni.length : Nat) : Int))) ?_
  refine R_mv (@rfl V (V.bool (decide (((t.no.length : Nat) : Int) ≠ ((t.ni.length : Nat) : Int))))) ?_
  exact R_nil ⟨t2, rfl, h2, trivial⟩
 intro T H ⟨t2, t13, h2, _⟩
 refine W_if (p := ((t.no.length : Nat) : Int) ≠ ((t.ni.length : Nat) : Int)) t13 (fun c3 => ?_) (fun c3 => ?_)
 ·
  refine W_seq_regc (fun T H => T 4 = (iV (1 : Int)) ∧ H 2 = (⟨1, true, false, 63, 2, [[(V.sl (List.map cI (t.ni))), (V.sl (List.map cI (t.no)))]]⟩ : Blk) ∧ True) ?_ ?_
  ·
   unfold r78_5
   refine R_mv (@rfl V (iV (1 : Int))) ?_
   exact R_nil ⟨rfl, h2, trivial⟩
  intro T H ⟨t4, h2, _⟩
  refine W_ret ?_
  refine y2 _ _ ?_
  refine Ret_1 t4 (fz_int ?_)
  · rw [prE, if_neg (by omega), if_pos (by omega)]
 refine W_seq_regc (fun T H => T 21 = (V.bool (decide (0 ≤ fi (fun j => (fun a => decide (a < 0 ∨ 1048576 < a)) (nth t.no j)) 0 t.no.length))) ∧ H 2 = (⟨1, true, false, 63, 2, [[(V.sl (List.map cI (t.ni))), (V.sl (List.map cI (t.no)))]]⟩ : Blk) ∧ True) ?_ ?_
 ·
  unfold r78_6
  refine R_fld_mp (o' := 1) t2 h2 (by first | rfl | simp [okB, Blk.own]) rfl ?_
  refine R_load_mp (v := (V.sl (List.map cI (t.no)))) (@rfl V (V.mp 2 1 0 1)) h2 (by first | rfl | simp [ldB, ldV, Blk.own, V.one]) ?_
  refine R_call (evcons (@rfl V (V.sl (List.map cI (t.no)))) (evcons (@rfl V (V.fn 107 [] [])) evnil)) (coni_pure (fun a => decide (a < 0 ∨ 1048576 < a)) t.no 107 ([]) (by simp) (by simp) (fun k _ => proper1_pure (nth t.no k))) (fzv_mapcanon _ _ (by simp [-List.map_take, -List.map_drop, -List.map_append, -List.map_reverse])) (by simp [-List.map_take, -List.map_drop, -List.map_append, -List.map_reverse]) (Or.inl (by simp [-List.map_take, -List.map_drop, -List.map_append, -List.map_reverse])) ?_
  refine R_mv (@rfl V (V.bool (decide (0 ≤ fi (fun j => (fun a => decide (a < 0 ∨ 1048576 < a)) (nth t.no j)) 0 t.no.length)))) ?_
  exact R_nil ⟨rfl, h2, trivial⟩
 intro T H ⟨t21, h2, _⟩
 refine W_if (p := 0 ≤ fi (fun j => (fun a => decide (a < 0 ∨ 1048576 < a)) (nth t.no j)) 0 t.no.length) t21 (fun c4 => ?_) (fun c4 => ?_)
 ·
  refine W_seq_regc (fun T H => T 4 = (iV (2 : Int)) ∧ H 2 = (⟨1, true, false, 63, 2, [[(V.sl (List.map cI (t.ni))), (V.sl (List.map cI (t.no)))]]⟩ : Blk) ∧ True) ?_ ?_
  ·
   unfold r78_7
   refine R_mv (@rfl V (iV (2 : Int))) ?_
   exact R_nil ⟨rfl, h2, trivial⟩
  intro T H ⟨t4, h2, _⟩
  refine W_ret ?_
  refine y2 _ _ ?_
  refine Ret_1 t4 (fz_int ?_)
  · have e : (0 ≤ fi (fun j => (fun a => decide (a < 0 ∨ 1048576 < a)) (nth t.no j)) 0 t.no.length ↔ fe (outE t) 0 t.no.length = 2) ∧ (fe (outE t) 0 t.no.length = 0 ∨ fe (outE t) 0 t.no.length = 2) := out_fe t t.no.length 0
    rw [prE, if_neg (by omega), if_neg (by omega)]; omega
 refine W_skip ?_
 refine n2 _ _ ?_
 refine .done ?_
 refine W_seq_regc (fun T H => T 4 = (iV (0 : Int)) ∧ H 2 = (⟨1, true, false, 63, 2, [[(V.sl (List.map cI (t.ni))), (V.sl (List.map cI (t.no)))]]⟩ : Blk) ∧ True) ?_ ?_
 ·
  unfold r78_8
  refine R_mv (@rfl V (iV (0 : Int))) ?_
  exact R_nil ⟨rfl, h2, trivial⟩
 intro T H ⟨t4, h2, _⟩
 refine W_ret ?_
 refine Ret_1 t4 (fz_int ?_)
 · have e : (0 ≤ fi (fun j => (fun a => decide (a < 0 ∨ 1048576 < a)) (nth t.no j)) 0 t.no.length ↔ fe (outE t) 0 t.no.length = 2) ∧ (fe (outE t) 0 t.no.length = 0 ∨ fe (outE t) 0 t.no.length = 2) := out_fe t t.no.length 0
   rw [prE, if_neg (by omega), if_neg (by omega)]; omega
end Go.Proofs.Ytngkckefanbhgaa

namespace Go.Proofs.Ytngkckefanbhgaa
open Go Go.Proofs
def r102_0 : List SO := [
  ⟨none, some 2, .mv (.c (.nilsl))⟩]
def r102_1 : List SO := [
  ⟨none, some 6, .mv (.t 0)⟩,
  ⟨none, some 7, .len (.t 6)⟩,
  ⟨none, some 8, .bin .add (.t 7) (.c (.int .i64 1))⟩,
  ⟨none, some 9, .mks 63 2 48 [.nilsl, .nilsl] (.c (.int .i64 0)) (.t 8)⟩,
  ⟨none, some 3, .mv (.t 9)⟩]
def r102_2 : List SO := [
  ⟨none, some 10, .mv (.t 0)⟩,
  ⟨none, some 11, .len (.t 10)⟩,
  ⟨none, some 12, .mv (.c (.int .i64 0))⟩]
def r102_3 : List SO := [
  ⟨none, some 13, .bin .lss (.t 12) (.t 11)⟩]
def r102_4 : List SO := [
  ⟨none, some 14, .idx 2 (.t 10) (.t 12)⟩,
  ⟨none, some 15, .load true 2 (.t 14)⟩,
  ⟨none, some 5, .alloc 63 [.nilsl, .nilsl]⟩,
  ⟨none, none, .store 2 (.t 5) (.t 15)⟩]
def r102_5 : List SO := [
  ⟨none, some 16, .mv (.t 3)⟩,
  ⟨none, some 17, .load true 2 (.t 5)⟩,
  ⟨none, some 18, .call false 115 [.t 17]⟩,
  ⟨none, some 19, .bslice 63 2 false [.nilsl, .nilsl] 1 [(0, .t 18)]⟩,
  ⟨none, some 20, .append 63 2 48 (.t 16) (.t 19)⟩,
  ⟨none, some 3, .mv (.t 20)⟩]
def r102_6 : List SO := [
  ⟨none, some 21, .bin .add (.t 12) (.c (.int .i64 1))⟩,
  ⟨none, some 12, .mv (.t 21)⟩]
def b102_0 : SC := .seq (.reg r102_3) (.seq (.cond (.t 13) (.skip) (.exit 0)) (.seq (.block 1 (.seq (.reg r102_4) (.reg r102_5))) (.reg r102_6)))
def r102_7 : List SO := [
  ⟨none, some 22, .mv (.t 3)⟩,
  ⟨none, some 2, .mv (.t 22)⟩]
def s102 : SF := ⟨23, [.tmp 2], .seq (.reg r102_0) (.seq (.reg r102_1) (.seq (.seq (.reg r102_2) (.block 0 (.loop b102_0))) (.seq (.reg r102_7) (.ret))))⟩
theorem s102_ok : slimF Try.prog ⟨[94, 102, 103, 108, 109, 116, 119, 121, 125], []⟩ Try.f102 = some s102 := by kernel_rfl
end Go.Proofs.Ytngkckefanbhgaa

namespace Go.Proofs.Ytngkckefanbhgaa
open Go Go.Proofs
def r115_0 : List SO := [
  ⟨none, some 1, .box 63 2 (.t 0)⟩,
  ⟨none, some 2, .alloc 63 [.nilsl, .nilsl]⟩]
def r115_1 : List SO := [
  ⟨none, some 3, .fld 0 (.t 1)⟩,
  ⟨none, some 4, .load false 1 (.t 3)⟩,
  ⟨none, some 5, .call false 63 [.t 4]⟩,
  ⟨none, some 6, .fld 1 (.t 1)⟩,
  ⟨none, some 7, .load false 1 (.t 6)⟩,
  ⟨none, some 8, .call false 63 [.t 7]⟩,
  ⟨none, some 9, .build [.nilsl, .nilsl] [(0, 1, .t 5), (1, 1, .t 8)]⟩,
  ⟨none, none, .store 2 (.t 2) (.t 9)⟩]
def s115 : SF := ⟨10, [.cell 2 true 2], .seq (.reg r115_0) (.seq (.reg r115_1) (.ret))⟩
theorem s115_ok : slimF Try.prog ⟨[94, 102, 103, 108, 109, 116, 119, 121, 125], []⟩ Try.f115 = some s115 := by kernel_rfl
end Go.Proofs.Ytngkckefanbhgaa

namespace Go.Proofs.Ytngkckefanbhgaa
open Go Go.Proofs
theorem copied_pure (t : Tr) (h1 : t.ni.length ≤ 1048576) (h2 : t.no.length ≤ 1048576) : PureC Try.prog 115 [(V.agg [(V.sl (List.map cI (t.ni))), (V.sl (List.map cI (t.no)))])] (V.agg [(V.sl (List.map cI (t.ni))), (V.sl (List.map cI (t.no)))]) := by
 refine pure_of_Wb true 6 Try.func115 s115_ok (by kernel_rfl) (by simp [s115]) (by simp) (by simp) fun hB => ?_
 simp only [bnd_map, bnd_int, bnd_bool, bnd_str, bnd_agg, bnd_pp, bnd_nil, bnd_cons, implies_true, and_true, true_and] at hB
 unfold s115
 dsimp only
 refine W_seq_regc (fun T H => T 1 = (V.mp 1 1 0 0) ∧ T 2 = (V.mp 2 1 0 0) ∧ H 1 = (⟨1, true, false, 63, 2, [[(V.sl (List.map cI (t.ni))), (V.sl (List.map cI (t.no)))]]⟩ : Blk) ∧ H 2 = (⟨1, true, false, 63, 2, [[V.nilsl, V.nilsl]]⟩ : Blk) ∧ True) ?_ ?_
 ·
  unfold r115_0
  refine R_box (i := 1) (n := 0) (m := 2) (cs := [(V.sl (List.map cI (t.ni))), (V.sl (List.map cI (t.no)))]) rfl (congrArg Blk.ver rfl) (@rfl V (V.agg [(V.sl (List.map cI (t.ni))), (V.sl (List.map cI (t.no)))])) rfl rfl ?_
  refine R_alloc (i := 2) (n := 0) (m := 2) rfl (congrArg Blk.ver rfl) rfl ?_
  exact R_nil ⟨rfl, rfl, rfl, rfl, trivial⟩
 intro T H ⟨t1, t2, h1, h2, _⟩
 refine W_seq_regc (fun T H => T 2 = (V.mp 2 1 0 0) ∧ H 1 = (⟨1, true, false, 63, 2, [[(V.sl (List.map cI (t.ni))), (V.sl (List.map cI (t.no)))]]⟩ : Blk) ∧ H 2 = (⟨1, true, false, 63, 2, [[(V.sl (List.map cI (t.ni))), (V.sl (List.map cI (t.no)))]]⟩ : Blk) ∧ True) ?_ ?_
 ·
  unfold r115_1
  refine R_fld_mp (o' := 0) t1 h1 (by first | rfl | simp [okB, Blk.own]) rfl ?_
  refine R_load_mp (v := (V.sl (List.map cI (t.ni)))) (@rfl V (V.mp 1 1 0 0)) h1 (by first | rfl | simp [ldB, ldV, Blk.own, V.one]) ?_
  refine R_call (evcons (@rfl V (V.sl (List.map cI (t.ni)))) evnil) (clone_pure t.ni (by omega)) (fzv_mapcanon _ _ (by simp [-List.map_take, -List.map_drop, -List.map_append, -List.map_reverse])) (by simp [-List.map_take, -List.map_drop, -List.map_append, -List.map_reverse]) (Or.inl (by simp [-List.map_take, -List.map_drop, -List.map_append, -List.map_reverse])) ?_
  refine R_fld_mp (o' := 1) t1 h1 (by first | rfl | simp [okB, Blk.own]) rfl ?_
  refine R_load_mp (v := (V.sl (List.map cI (t.no)))) (@rfl V (V.mp 1 1 0 1)) h1 (by first | rfl | simp [ldB, ldV, Blk.own, V.one]) ?_
  refine R_call (evcons (@rfl V (V.sl (List.map cI (t.no)))) evnil) (clone_pure t.no (by omega)) (fzv_mapcanon _ _ (by simp [-List.map_take, -List.map_drop, -List.map_append, -List.map_reverse])) (by simp [-List.map_take, -List.map_drop, -List.map_append, -List.map_reverse]) (Or.inl (by simp [-List.map_take, -List.map_drop, -List.map_append, -List.map_reverse])) ?_
  refine R_build (qs := [(0, 1, (V.sl (List.map cI (t.ni)))), (1, 1, (V.sl (List.map cI (t.no))))]) (cs := [(V.sl (List.map cI (t.ni))), (V.sl (List.map cI (t.no)))]) (mcons (congrArg (fun v => (0, 1, v)) (@rfl V (V.sl (List.map cI (t.ni))))) (mcons (congrArg (fun v => (1, 1, v)) (@rfl V (V.sl (List.map cI (t.no))))) rfl)) rfl ?_
  refine R_store (vs := [(V.sl (List.map cI (t.ni))), (V.sl (List.map cI (t.no)))]) (B' := (⟨1, true, false, 63, 2, [[(V.sl (List.map cI (t.ni))), (V.sl (List.map cI (t.no)))]]⟩ : Blk)) t2 (@rfl V (V.agg [(V.sl (List.map cI (t.ni))), (V.sl (List.map cI (t.no)))])) rfl h2 (by first | rfl | simp [stB, okB, Blk.own, putAt, V.one]) ?_
  exact R_nil ⟨t2, h1, rfl, trivial⟩
 intro T H ⟨t2, h1, h2, _⟩
 refine W_ret ?_
 refine RetC_1 (resV_c (u := (V.agg [(V.sl (List.map cI (t.ni))), (V.sl (List.map cI (t.no)))])) t2 h2 (by first | rfl | simp [ldB, ldV, Blk.own, V.one])) (fz_canon (by simp) rfl)
end Go.Proofs.Ytngkckefanbhgaa

namespace Go.Proofs.Ytngkckefanbhgaa
open Go Go.Proofs
attribute [local irreducible] mksV
theorem owned_E (l : List Tr) (v5 v9 : Nat) (hb : ∀ k, k < l.length → (nth l k).ni.length ≤ 1048576 ∧ (nth l k).no.length ≤ 1048576) (Hi : Heap) (h205 : (Hi 205).ver = v5) (h209 : (Hi 209).ver = v9) (hl : l.length ≤ 1000000) : CallOK Try.prog 102 [(V.sl (List.map cT (l)))] Hi (V.ms 209 (v9 + 1 + l.length) 0 (l.length)) (upd (upd Hi 205 (⟨v5 + l.length, false, false, 0, 0, []⟩ : Blk)) 209 (⟨v9 + 1 + l.length, true, false, 63, 2, (List.map cT (l))⟩ : Blk)) := by
 refine CallOK_of_Wf (k0 := 200) Try.func102 s102_ok (by kernel_rfl) (by simp [s102]) fun hB => ?_
 simp only [bnd_map, bnd_int, bnd_bool, bnd_str, bnd_agg, bnd_pp, bnd_nil, bnd_cons, implies_true, and_true, true_and] at hB
 unfold s102
 dsimp only
 refine W_seq_regc (fun T H => T 0 = (V.sl (List.map cT (l))) ∧ (∀ j, j ∉ [205, 209] → H j = Hi j) ∧ (H 205).ver = v5 ∧ (H 209).ver = v9 ∧ True) ?_ ?_
 ·
  unfold r102_0
  refine R_mv (@rfl V V.nilsl) ?_
  exact R_nil ⟨rfl, (fun _ _ => rfl), h205, h209, trivial⟩
 intro T H ⟨t0, hF, h205, h209, _⟩
 refine W_seq_regc (fun T H => T 0 = (V.sl (List.map cT (l))) ∧ T 3 = (V.ms 209 (v9 + 1) 0 (0)) ∧ (∀ j, j ∉ [205, 209] → H j = Hi j) ∧ (H 205).ver = v5 ∧ H 209 = (⟨v9 + 1, true, false, 63, 2, (List.replicate (0) [V.nilsl, V.nilsl])⟩ : Blk) ∧ True) ?_ ?_
 ·
  unfold r102_1
  refine R_mv t0 ?_
  refine R_len (@rfl V (V.sl (List.map cT (l)))) ?_
  refine R_addN (m := l.length) (n := 1) (@rfl V (iV ((l.length : Nat) : Int))) (@rfl V (iV ((1 : Nat) : Int))) (by omega) ?_
  refine (R_mks (i := 209) (n := v9) (m := 0) (q := (l.length + 1)) (by rfl) h209 (@rfl V (iV (0 : Int))) (@rfl V (iV ((l.length + 1 : Nat) : Int))) (by omega) (by omega) (by omega) ?_)
  refine R_mv (@rfl V (V.ms 209 (v9 + 1) 0 (0))) ?_
  exact R_nil ⟨t0, rfl, (upd_out hF (by decide)), h205, rfl, trivial⟩
 intro T H ⟨t0, t3, hF, h205, h209, _⟩
 refine W_seq_seq ?_
 refine W_seq_regc (fun T H => T 3 = (V.ms 209 (v9 + 1) 0 (0)) ∧ T 10 = (V.sl (List.map cT (l))) ∧ T 11 = (iV ((l.length : Nat) : Int)) ∧ T 12 = (iV (0 : Int)) ∧ (∀ j, j ∉ [205, 209] → H j = Hi j) ∧ (H 205).ver = v5 ∧ H 209 = (⟨v9 + 1, true, false, 63, 2, (List.replicate (0) [V.nilsl, V.nilsl])⟩ : Blk) ∧ True) ?_ ?_
 ·
  unfold r102_2
  refine R_mv t0 ?_
  refine R_len (@rfl V (V.sl (List.map cT (l)))) ?_
  refine R_mv (@rfl V (iV (0 : Int))) ?_
  exact R_nil ⟨t3, rfl, rfl, rfl, hF, h205, h209, trivial⟩
 intro T H ⟨t3, t10, t11, t12, hF, h205, h209, _⟩
 refine W_seq_blockg fun Q1 n1 x1 y1 z1 => ?_
 refine W_loop (fun mm T H => ∃ (k : Nat), mm = l.length - k ∧ T 3 = (V.ms 209 (v9 + 1 + k) 0 (k)) ∧ T 10 = (V.sl (List.map cT (l))) ∧ T 11 = (iV ((l.length : Nat) : Int)) ∧ T 12 = (iV ((k : Nat) : Int)) ∧ (∀ j, j ∉ [205, 209] → H j = Hi j) ∧ (H 205).ver = v5 + k ∧ H 209 = (⟨v9 + 1 + k, true, false, 63, 2, (List.map cT ((l.take k)))⟩ : Blk) ∧ (k ≤ l.length)) ?_ ?_
 ·
  refine ⟨_, 0, rfl, (Eq.trans t3 (by first | rfl | (have e : k = l.length := (by omega); subst e; rfl))), t10, t11, (Eq.trans t12 (by first | rfl | (have e : k = l.length := (by omega); subst e; rfl))), hF, h205, (Eq.trans h209 (by first | rfl | (rw [take_succ_nth (by omega)]; rfl) | (have e : k = l.length := (by omega); subst e; rw [List.take_length]; done))), ?_⟩
  · omega
 intro mm T H ⟨k, hmm, t3, t10, t11, t12, hF, h205, h209, hk⟩ Q2 p12 p22 p32
 unfold b102_0
 refine W_seq_regc (fun T H => T 3 = (V.ms 209 (v9 + 1 + k) 0 (k)) ∧ T 10 = (V.sl (List.map cT (l))) ∧ T 11 = (iV ((l.length : Nat) : Int)) ∧ T 12 = (iV ((k : Nat) : Int)) ∧ T 13 = (V.bool (decide (((k : Nat) : Int) < ((l.length : Nat) : Int)))) ∧ (∀ j, j ∉ [205, 209] → H j = Hi j) ∧ (H 205).ver = v5 + k ∧ H 209 = (⟨v9 + 1 + k, true, false, 63, 2, (List.map cT ((l.take k)))⟩ : Blk) ∧ True) ?_ ?_
 ·
  unfold r102_3
  refine R_lss (x := ((k : Nat) : Int)) (y := ((l.length : Nat) : Int)) t12 t11 ?_
  exact R_nil ⟨t3, t10, t11, t12, rfl, hF, h205, h209, trivial⟩
 intro T H ⟨t3, t10, t11, t12, t13, hF, h205, h209, _⟩
 refine W_seq_if (p := ((k : Nat) : Int) < ((l.length : Nat) : Int)) t13 (fun c3 => ?_) (fun c3 => ?_)
 ·
  refine W_seq_skip ?_
  refine W_seq_blockg fun Q4 n4 x4 y4 z4 => ?_
  refine W_seq_regc (fun T H => T 3 = (V.ms 209 (v9 + 1 + k) 0 (k)) ∧ T 5 = (V.mp 205 (v5 + k + 1) 0 0) ∧ T 10 = (V.sl (List.map cT (l))) ∧ T 11 = (iV ((l.length : Nat) : Int)) ∧ T 12 = (iV ((k : Nat) : Int)) ∧ (∀ j, j ∉ [205, 209] → H j = Hi j) ∧ H 205 = (⟨v5 + k + 1, true, false, 63, 2, [[(V.sl (List.map cI ((nth (l) (k)).ni))), (V.sl (List.map cI ((nth (l) (k)).no)))]]⟩ : Blk) ∧ H 209 = (⟨v9 + 1 + k, true, false, 63, 2, (List.map cT ((l.take k)))⟩ : Blk) ∧ True) ?_ ?_
  ·
   unfold r102_4
   refine R_idx (i := k) t10 t12 (by omega) rfl ?_
   refine R_load_pp (v := (V.agg [(V.sl (List.map cI ((nth (l) (k)).ni))), (V.sl (List.map cI ((nth (l) (k)).no)))])) (@rfl V (V.pp [(V.sl (List.map cI ((nth (l) (k)).ni))), (V.sl (List.map cI ((nth (l) (k)).no)))])) (by first | rfl | simp [ldV]) ?_
   refine R_alloc (i := 205) (n := (v5 + k)) (m := 2) (by rfl) h205 rfl ?_
   refine R_store (vs := [(V.sl (List.map cI ((nth (l) (k)).ni))), (V.sl (List.map cI ((nth (l) (k)).no)))]) (B' := (⟨v5 + k + 1, true, false, 63, 2, [[(V.sl (List.map cI ((nth (l) (k)).ni))), (V.sl (List.map cI ((nth (l) (k)).no)))]]⟩ : Blk)) (@rfl V (V.mp 205 (v5 + k + 1) 0 0)) (@rfl V (V.agg [(V.sl (List.map cI ((nth (l) (k)).ni))), (V.sl (List.map cI ((nth (l) (k)).no)))])) rfl (@rfl Blk (⟨v5 + k + 1, true, false, 63, 2, [[V.nilsl, V.nilsl]]⟩ : Blk)) (by first | rfl | simp [stB, okB, Blk.own, putAt, V.one]) ?_
   exact R_nil ⟨t3, rfl, t10, t11, t12, (upd_out (upd_out hF (by decide)) (by decide)), rfl, h209, trivial⟩
  intro T H ⟨t3, t5, t10, t11, t12, hF, h205, h209, _⟩
  refine W_regc (fun T H => T 3 = (V.ms 209 (v9 + 1 + k + 1) 0 (k + 1)) ∧ T 10 = (V.sl (List.map cT (l))) ∧ T 11 = (iV ((l.length : Nat) : Int)) ∧ T 12 = (iV ((k : Nat) : Int)) ∧ (∀ j, j ∉ [205, 209] → H j = Hi j) ∧ H 205 = (⟨v5 + k + 1, true, false, 63, 2, [[(V.sl (List.map cI ((nth (l) (k)).ni))), (V.sl (List.map cI ((nth (l) (k)).no)))]]⟩ : Blk) ∧ H 209 = (⟨v9 + 1 + k + 1, true, false, 63, 2, (List.map cT ((l.take k) ++ [((nth (l) (k)))]))⟩ : Blk) ∧ True) ?_ ?_
  ·
   unfold r102_5
   refine R_mv t3 ?_
   refine R_load_mp (v := (V.agg [(V.sl (List.map cI ((nth (l) (k)).ni))), (V.sl (List.map cI ((nth (l) (k)).no)))])) t5 h205 (by first | rfl | simp [ldB, ldV, Blk.own, V.one]) ?_
   refine R_call (evcons (@rfl V (V.agg [(V.sl (List.map cI ((nth (l) (k)).ni))), (V.sl (List.map cI ((nth (l) (k)).no)))])) evnil) (copied_pure ((nth (l) (k))) (hb k (by omega)).1 (hb k (by omega)).2) (fzv_mapcanon _ _ (by simp [-List.map_take, -List.map_drop, -List.map_append, -List.map_reverse])) (by simp [-List.map_take, -List.map_drop, -List.map_append, -List.map_reverse]) (Or.inl (by simp [-List.map_take, -List.map_drop, -List.map_append, -List.map_reverse])) ?_
   refine R_bslice (qs := [(0, (V.agg [(V.sl (List.map cI (((nth (l) (k))).ni))), (V.sl (List.map cI (((nth (l) (k))).no)))]))]) (rows := [[(V.sl (List.map cI (((nth (l) (k))).ni))), (V.sl (List.map cI (((nth (l) (k))).no)))]]) (mcons (congrArg (fun v => (0, v)) (@rfl V (V.agg [(V.sl (List.map cI (((nth (l) (k))).ni))), (V.sl (List.map cI (((nth (l) (k))).no)))]))) rfl) rfl ?_
   refine R_append1 (l := ((l.take k))) (f := cT) (x := (((nth (l) (k))))) (@rfl V (V.ms 209 (v9 + 1 + k) 0 (k))) h209 (by first | rfl | (rw [List.length_take]; omega) | simp) (@rfl V (V.sl [[(V.sl (List.map cI (((nth (l) (k))).ni))), (V.sl (List.map cI (((nth (l) (k))).no)))]])) rfl rfl (by omega) (by omega) ?_
   refine R_mv (@rfl V (V.ms 209 (v9 + 1 + k + 1) 0 (k + 1))) ?_
   exact R_nil ⟨rfl, t10, t11, t12, (upd_out hF (by decide)), h205, rfl, trivial⟩
  intro T H ⟨t3, t10, t11, t12, hF, h205, h209, _⟩
  refine n4 _ _ ?_
  refine .done ?_
  refine W_regc (fun T H => T 3 = (V.ms 209 (v9 + 1 + k + 1) 0 (k + 1)) ∧ T 10 = (V.sl (List.map cT (l))) ∧ T 11 = (iV ((l.length : Nat) : Int)) ∧ T 12 = (iV ((k + 1 : Nat) : Int)) ∧ (∀ j, j ∉ [205, 209] → H j = Hi j) ∧ H 205 = (⟨v5 + k + 1, true, false, 63, 2, [[(V.sl (List.map cI ((nth (l) (k)).ni))), (V.sl (List.map cI ((nth (l) (k)).no)))]]⟩ : Blk) ∧ H 209 = (⟨v9 + 1 + k + 1, true, false, 63, 2, (List.map cT ((l.take k) ++ [((nth (l) (k)))]))⟩ : Blk) ∧ True) ?_ ?_
  ·
   unfold r102_6
   refine R_addN (m := k) (n := 1) t12 (@rfl V (iV ((1 : Nat) : Int))) (by omega) ?_
   refine R_mv (@rfl V (iV ((k + 1 : Nat) : Int))) ?_
   exact R_nil ⟨t3, t10, t11, rfl, hF, h205, h209, trivial⟩
  intro T H ⟨t3, t10, t11, t12, hF, h205, h209, _⟩
  refine p12 _ _ _ ?_ ⟨(k + 1), rfl, (Eq.trans t3 (by first | rfl | (have e : k = l.length := (by omega); subst e; rfl))), t10, t11, (Eq.trans t12 (by first | rfl | (have e : k = l.length := (by omega); subst e; rfl))), hF, (congrArg Blk.ver h205), (Eq.trans h209 (by first | rfl | (rw [take_succ_nth (by omega)]; rfl) | (have e : k = l.length := (by omega); subst e; rw [List.take_length]; done))), ?_⟩
  · omega
  · omega
 refine W_seq_exit ?_
 refine p32 _ _ _ ?_
 refine x1 _ _ ?_
 refine .done ?_
 refine W_seq_regc (fun T H => T 2 = (V.ms 209 (v9 + 1 + k) 0 (k)) ∧ (∀ j, j ∉ [205, 209] → H j = Hi j) ∧ (H 205).ver = v5 + k ∧ H 209 = (⟨v9 + 1 + k, true, false, 63, 2, (List.map cT ((l.take k)))⟩ : Blk) ∧ True) ?_ ?_
 ·
  unfold r102_7
  refine R_mv t3 ?_
  refine R_mv (@rfl V (V.ms 209 (v9 + 1 + k) 0 (k))) ?_
  exact R_nil ⟨rfl, hF, h205, h209, trivial⟩
 intro T H ⟨t2, hF, h205, h209, _⟩
 refine W_ret ?_
 have fh := FinX.fin (FinX.put (B := (⟨v9 + 1 + l.length, true, false, 63, 2, (List.map cT (l))⟩ : Blk)) (FinX.putv (n := (v5 + k)) (B := (⟨v5 + l.length, false, false, 0, 0, []⟩ : Blk)) (FinX.start hF) h205 (by show _ ≤ v5 + l.length; omega) rfl) h209 (FinB.up (by omega) (by first | rfl | (rw [take_succ_nth (by omega)]; rfl) | (have e : k = l.length := (by omega); subst e; rw [List.take_length]; done))))
 exact RetF_1 t2 fh (FinV.trans_eq (FinV.ms (n := (v9 + 1 + l.length)) fh (by simp [h209]) (by simp [h209]) rfl rfl) (by first | rfl | (have e : k = l.length := (by omega); subst e; rfl)))
end Go.Proofs.Ytngkckefanbhgaa

namespace Go.Proofs.Ytngkckefanbhgaa
open Go Go.Proofs
def r103_0 : List SO := [
  ⟨none, some 3, .box 63 2 (.t 1)⟩,
  ⟨none, some 4, .mv (.c (.nilsl))⟩,
  ⟨none, some 5, .mv (.c (.int .i64 0))⟩]
def r103_1 : List SO := [
  ⟨none, some 6, .mv (.c (.bool false))⟩]
def r103_2 : List SO := [
  ⟨none, some 11, .mv (.t 0)⟩,
  ⟨none, some 12, .len (.t 11)⟩,
  ⟨none, some 13, .mv (.c (.int .i64 0))⟩]
def r103_3 : List SO := [
  ⟨none, some 14, .bin .lss (.t 13) (.t 12)⟩]
def r103_4 : List SO := [
  ⟨none, some 15, .idx 2 (.t 11) (.t 13)⟩,
  ⟨none, some 16, .load true 2 (.t 15)⟩,
  ⟨none, some 8, .alloc 63 [.nilsl, .nilsl]⟩,
  ⟨none, none, .store 2 (.t 8) (.t 16)⟩]
def r103_5 : List SO := [
  ⟨none, some 17, .load true 2 (.t 8)⟩,
  ⟨none, some 18, .load true 2 (.t 3)⟩,
  ⟨none, some 19, .call false 84 [.t 17, .t 18]⟩,
  ⟨none, some 20, .bin .geq (.t 19) (.c (.int .i64 0))⟩]
def r103_6 : List SO := [
  ⟨none, some 4, .mv (.c (.nilsl))⟩,
  ⟨none, some 5, .mv (.c (.int .i64 13))⟩]
def r103_7 : List SO := [
  ⟨none, some 21, .mv (.t 6)⟩,
  ⟨none, some 22, .mv (.t 21)⟩,
  ⟨some (22, false), some 23, .fld 0 (.t 8)⟩,
  ⟨some (22, false), some 24, .load false 1 (.t 23)⟩,
  ⟨some (22, false), some 25, .fld 0 (.t 3)⟩,
  ⟨some (22, false), some 26, .load false 1 (.t 25)⟩,
  ⟨some (22, false), some 27, .call false 76 [.t 24, .t 26]⟩,
  ⟨none, some 28, .pick (.t 22) (.c (.bool true)) (.t 27)⟩,
  ⟨none, some 6, .mv (.t 28)⟩]
def r103_8 : List SO := [
  ⟨none, some 29, .bin .add (.t 13) (.c (.int .i64 1))⟩,
  ⟨none, some 13, .mv (.t 29)⟩]
def b103_0 : SC := .seq (.reg r103_3) (.seq (.cond (.t 14) (.skip) (.exit 0)) (.seq (.block 1 (.seq (.reg r103_4) (.seq (.seq (.reg r103_5) (.cond (.t 20) (.seq (.reg r103_6) (.ret)) (.skip))) (.reg r103_7)))) (.reg r103_8)))
def r103_9 : List SO := [
  ⟨none, some 30, .mv (.t 6)⟩,
  ⟨none, some 31, .mv (.t 30)⟩,
  ⟨some (31, false), some 32, .fld 0 (.t 3)⟩,
  ⟨some (31, false), some 33, .load false 1 (.t 32)⟩,
  ⟨some (31, false), some 34, .len (.t 33)⟩,
  ⟨some (31, false), some 35, .bin .eql (.t 34) (.c (.int .i64 0))⟩,
  ⟨none, some 36, .pick (.t 31) (.c (.bool true)) (.t 35)⟩]
def r103_10 : List SO := [
  ⟨none, some 37, .mv (.t 0)⟩,
  ⟨none, some 4, .mv (.t 37)⟩,
  ⟨none, some 5, .mv (.c (.int .i64 0))⟩]
def r103_11 : List SO := [
  ⟨none, some 38, .mv (.t 0)⟩,
  ⟨none, some 39, .mkf 117 [.t 3]⟩,
  ⟨none, some 40, .call true 116 [.t 38, .t 39]⟩,
  ⟨none, some 0, .mv (.t 40)⟩]
def r103_12 : List SO := [
  ⟨none, some 41, .mv (.t 0)⟩,
  ⟨none, some 42, .len (.t 41)⟩,
  ⟨none, some 43, .bin .eql (.t 42) (.c (.int .i64 10000))⟩]
def r103_13 : List SO := [
  ⟨none, some 4, .mv (.c (.nilsl))⟩,
  ⟨none, some 5, .mv (.c (.int .i64 11))⟩]
def r103_14 : List SO := [
  ⟨none, some 45, .mv (.t 0)⟩,
  ⟨none, some 46, .load true 2 (.t 3)⟩,
  ⟨none, some 47, .call false 118 [.t 45, .t 46, .c (.fn 79 [] [])]⟩,
  ⟨none, some 44, .mv (.t 47)⟩,
  ⟨none, some 48, .ext (.t 44) 0⟩,
  ⟨none, some 49, .ext (.t 44) 1⟩,
  ⟨none, some 9, .mv (.t 48)⟩,
  ⟨none, some 10, .mv (.t 49)⟩]
def r103_15 : List SO := [
  ⟨none, some 50, .mv (.t 0)⟩,
  ⟨none, some 51, .mv (.t 9)⟩,
  ⟨none, some 52, .load true 2 (.t 3)⟩,
  ⟨none, some 53, .call false 115 [.t 52]⟩,
  ⟨none, some 54, .bslice 63 2 true [.nilsl, .nilsl] 1 [(0, .t 53)]⟩,
  ⟨none, some 55, .call true 119 [.t 50, .t 51, .t 54]⟩,
  ⟨none, some 4, .mv (.t 55)⟩,
  ⟨none, some 5, .mv (.c (.int .i64 0))⟩]
def s103 : SF := ⟨56, [.tmp 4, .tmp 5], .seq (.reg r103_0) (.seq (.reg r103_1) (.seq (.seq (.reg r103_2) (.block 0 (.loop b103_0))) (.seq (.seq (.reg r103_9) (.cond (.t 36) (.seq (.reg r103_10) (.ret)) (.skip))) (.seq (.reg r103_11) (.seq (.seq (.reg r103_12) (.cond (.t 43) (.seq (.reg r103_13) (.ret)) (.skip))) (.seq (.reg r103_14) (.seq (.reg r103_15) (.ret))))))))⟩
theorem s103_ok : slimF Try.prog ⟨[94, 102, 103, 108, 109, 116, 119, 121, 125], [54]⟩ Try.f103 = some s103 := by kernel_rfl
end Go.Proofs.Ytngkckefanbhgaa

namespace Go.Proofs.Ytngkckefanbhgaa
open Go Go.Proofs
def r76_0 : List SO := [
  ⟨none, some 4, .mv (.c (.bool false))⟩]
def r76_1 : List SO := [
  ⟨none, some 5, .mv (.t 0)⟩,
  ⟨none, some 6, .mv (.t 1)⟩,
  ⟨none, some 7, .call false 69 [.t 5, .t 6]⟩,
  ⟨none, some 8, .mv (.t 1)⟩,
  ⟨none, some 9, .len (.t 8)⟩,
  ⟨none, some 10, .bin .eql (.t 7) (.t 9)⟩,
  ⟨none, some 4, .mv (.t 10)⟩]
def s76 : SF := ⟨11, [.tmp 4], .seq (.reg r76_0) (.seq (.reg r76_1) (.ret))⟩
theorem s76_ok : slimF Try.prog ⟨[94, 102, 103, 108, 109, 116, 119, 121, 125], []⟩ Try.f76 = some s76 := by kernel_rfl
end Go.Proofs.Ytngkckefanbhgaa

namespace Go.Proofs.Ytngkckefanbhgaa
open Go Go.Proofs
def r69_0 : List SO := [
  ⟨none, some 4, .mv (.c (.int .i64 0))⟩]
def r69_1 : List SO := [
  ⟨none, some 6, .mv (.t 0)⟩,
  ⟨none, some 7, .len (.t 6)⟩,
  ⟨none, some 8, .mv (.t 1)⟩,
  ⟨none, some 9, .len (.t 8)⟩,
  ⟨none, some 10, .mn (.t 7) (.t 9)⟩,
  ⟨none, some 11, .mv (.c (.int .i64 0))⟩]
def r69_2 : List SO := [
  ⟨none, some 12, .bin .lss (.t 11) (.t 10)⟩]
def r69_3 : List SO := [
  ⟨none, some 13, .mv (.t 11)⟩,
  ⟨none, some 5, .mv (.t 13)⟩]
def r69_4 : List SO := [
  ⟨none, some 14, .mv (.t 0)⟩,
  ⟨none, some 15, .mv (.t 5)⟩,
  ⟨none, some 16, .idx 1 (.t 14) (.t 15)⟩,
  ⟨none, some 17, .load false 1 (.t 16)⟩,
  ⟨none, some 18, .mv (.t 1)⟩,
  ⟨none, some 19, .mv (.t 5)⟩,
  ⟨none, some 20, .idx 1 (.t 18) (.t 19)⟩,
  ⟨none, some 21, .load false 1 (.t 20)⟩,
  ⟨none, some 22, .bin .neq (.t 17) (.t 21)⟩]
def r69_5 : List SO := [
  ⟨none, some 23, .mv (.t 5)⟩,
  ⟨none, some 4, .mv (.t 23)⟩]
def r69_6 : List SO := [
  ⟨none, some 24, .bin .add (.t 11) (.c (.int .i64 1))⟩,
  ⟨none, some 11, .mv (.t 24)⟩]
def b69_0 : SC := .seq (.reg r69_2) (.seq (.cond (.t 12) (.skip) (.exit 0)) (.seq (.block 1 (.seq (.reg r69_3) (.seq (.reg r69_4) (.cond (.t 22) (.seq (.reg r69_5) (.ret)) (.skip))))) (.reg r69_6)))
def r69_7 : List SO := [
  ⟨none, some 25, .mv (.t 0)⟩,
  ⟨none, some 26, .len (.t 25)⟩,
  ⟨none, some 27, .mv (.t 1)⟩,
  ⟨none, some 28, .len (.t 27)⟩,
  ⟨none, some 29, .mn (.t 26) (.t 28)⟩,
  ⟨none, some 4, .mv (.t 29)⟩]
def s69 : SF := ⟨30, [.tmp 4], .seq (.reg r69_0) (.seq (.seq (.reg r69_1) (.block 0 (.loop b69_0))) (.seq (.reg r69_7) (.ret)))⟩
theorem s69_ok : slimF Try.prog ⟨[94, 102, 103, 108, 109, 116, 119, 121, 125], []⟩ Try.f69 = some s69 := by kernel_rfl
end Go.Proofs.Ytngkckefanbhgaa

namespace Go.Proofs.Ytngkckefanbhgaa
open Go Go.Proofs
theorem common_pure (a b : List Int) : PureC Try.prog 69 [(V.sl (List.map cI (a))), (V.sl (List.map cI (b)))] (iV ((cmn a b : Nat) : Int)) := by
 refine pure_of_Wb true 6 Try.func69 s69_ok (by kernel_rfl) (by simp [s69]) (by simp) (by simp) fun hB => ?_
 simp only [bnd_map, bnd_int, bnd_bool, bnd_str, bnd_agg, bnd_pp, bnd_nil, bnd_cons, implies_true, and_true, true_and] at hB
 unfold s69
 dsimp only
 refine W_seq_regc (fun T H => T 0 = (V.sl (List.map cI (a))) ∧ T 1 = (V.sl (List.map cI (b))) ∧ True) ?_ ?_
 ·
  unfold r69_0
  refine R_mv (@rfl V (iV (0 : Int))) ?_
  exact R_nil ⟨rfl, rfl, trivial⟩
 intro T H ⟨t0, t1, _⟩
 refine W_seq_seq ?_
 refine W_seq_regc (fun T H => T 0 = (V.sl (List.map cI (a))) ∧ T 1 = (V.sl (List.map cI (b))) ∧ T 10 = (iV ((min a.length b.length : Nat) : Int)) ∧ T 11 = (iV (0 : Int)) ∧ True) ?_ ?_
 ·
  unfold r69_1
  refine R_mv t0 ?_
  refine R_len (@rfl V (V.sl (List.map cI (a)))) ?_
  refine R_mv t1 ?_
  refine R_len (@rfl V (V.sl (List.map cI (b)))) ?_
  refine R_mnN (m := a.length) (n := b.length) (@rfl V (iV ((a.length : Nat) : Int))) (@rfl V (iV ((b.length : Nat) : Int))) ?_
  refine R_mv (@rfl V (iV (0 : Int))) ?_
  exact R_nil ⟨t0, t1, rfl, rfl, trivial⟩
 intro T H ⟨t0, t1, t10, t11, _⟩
 refine W_seq_blockg fun Q1 n1 x1 y1 z1 => ?_
 refine W_loop (fun mm T H => ∃ (k : Nat), mm = (min a.length b.length) - k ∧ T 0 = (V.sl (List.map cI (a))) ∧ T 1 = (V.sl (List.map cI (b))) ∧ T 10 = (iV ((min a.length b.length : Nat) : Int)) ∧ T 11 = (iV ((k : Nat) : Int)) ∧ (k ≤ min a.length b.length) ∧ (k ≤ cmn a b)) ?_ ?_
 ·
  refine ⟨_, 0, rfl, t0, t1, t10, (Eq.trans t11 (by first | rfl | simp)), ?_, ?_⟩
  · omega
  · exact Nat.zero_le _
 intro mm T H ⟨k, hmm, t0, t1, t10, t11, hk, hc⟩ Q2 p12 p22 p32
 unfold b69_0
 refine W_seq_regc (fun T H => T 0 = (V.sl (List.map cI (a))) ∧ T 1 = (V.sl (List.map cI (b))) ∧ T 10 = (iV ((min a.length b.length : Nat) : Int)) ∧ T 11 = (iV ((k : Nat) : Int)) ∧ T 12 = (V.bool (decide (((k : Nat) : Int) < ((min a.length b.length : Nat) : Int)))) ∧ True) ?_ ?_
 ·
  unfold r69_2
  refine R_lss (x := ((k : Nat) : Int)) (y := ((min a.length b.length : Nat) : Int)) t11 t10 ?_
  exact R_nil ⟨t0, t1, t10, t11, rfl, trivial⟩
 intro T H ⟨t0, t1, t10, t11, t12, _⟩
 refine W_seq_if (p := ((k : Nat) : Int) < ((min a.length b.length : Nat) : Int)) t12 (fun c3 => ?_) (fun c3 => ?_)
 ·
  refine W_seq_skip ?_
  refine W_seq_blockg fun Q4 n4 x4 y4 z4 => ?_
  refine W_seq_regc (fun T H => T 0 = (V.sl (List.map cI (a))) ∧ T 1 = (V.sl (List.map cI (b))) ∧ T 5 = (iV ((k : Nat) : Int)) ∧ T 10 = (iV ((min a.length b.length : Nat) : Int)) ∧ T 11 = (iV ((k : Nat) : Int)) ∧ True) ?_ ?_
  ·
   unfold r69_3
   refine R_mv t11 ?_
   refine R_mv (@rfl V (iV ((k : Nat) : Int))) ?_
   exact R_nil ⟨t0, t1, rfl, t10, t11, trivial⟩
  intro T H ⟨t0, t1, t5, t10, t11, _⟩
  refine W_seq_regc (fun T H => T 0 = (V.sl (List.map cI (a))) ∧ T 1 = (V.sl (List.map cI (b))) ∧ T 5 = (iV ((k : Nat) : Int)) ∧ T 10 = (iV ((min a.length b.length : Nat) : Int)) ∧ T 11 = (iV ((k : Nat) : Int)) ∧ T 22 = (V.bool (decide (((nth (a) (k))) ≠ ((nth (b) (k)))))) ∧ True) ?_ ?_
  ·
   unfold r69_4
   refine R_mv t0 ?_
   refine R_mv t5 ?_
   refine R_idx (i := k) (@rfl V (V.sl (List.map cI (a)))) (@rfl V (iV ((k : Nat) : Int))) (by omega) rfl ?_
   refine R_load_pp (v := (iV ((nth (a) (k))))) (@rfl V (V.pp [(iV ((nth (a) (k))))])) (by first | rfl | simp [ldV]) ?_
   refine R_mv t1 ?_
   refine R_mv t5 ?_
   refine R_idx (i := k) (@rfl V (V.sl (List.map cI (b)))) (@rfl V (iV ((k : Nat) : Int))) (by omega) rfl ?_
   refine R_load_pp (v := (iV ((nth (b) (k))))) (@rfl V (V.pp [(iV ((nth (b) (k))))])) (by first | rfl | simp [ldV]) ?_
   refine R_neq (x := ((nth (a) (k)))) (y := ((nth (b) (k)))) (@rfl V (iV ((nth (a) (k))))) (@rfl V (iV ((nth (b) (k))))) ?_
   exact R_nil ⟨t0, t1, t5, t10, t11, rfl, trivial⟩
  intro T H ⟨t0, t1, t5, t10, t11, t22, _⟩
  refine W_if (p := ((nth (a) (k))) ≠ ((nth (b) (k)))) t22 (fun c5 => ?_) (fun c5 => ?_)
  ·
   refine W_seq_regc (fun T H => T 4 = (iV ((k : Nat) : Int)) ∧ True) ?_ ?_
   ·
    unfold r69_5
    refine R_mv t5 ?_
    refine R_mv (@rfl V (iV ((k : Nat) : Int))) ?_
    exact R_nil ⟨rfl, trivial⟩
   intro T H ⟨t4, _⟩
   refine W_ret ?_
   refine y4 _ _ ?_
   refine p22 _ _ ?_
   refine y1 _ _ ?_
   refine Ret_1 t4 (fz_int ?_)
   · rw [cmn_at hc (by omega)]
  refine W_skip ?_
  refine n4 _ _ ?_
  refine .done ?_
  refine W_regc (fun T H => T 0 = (V.sl (List.map cI (a))) ∧ T 1 = (V.sl (List.map cI (b))) ∧ T 10 = (iV ((min a.length b.length : Nat) : Int)) ∧ T 11 = (iV ((k + 1 : Nat) : Int)) ∧ True) ?_ ?_
  ·
   unfold r69_6
   refine R_addN (m := k) (n := 1) t11 (@rfl V (iV ((1 : Nat) : Int))) (by omega) ?_
   refine R_mv (@rfl V (iV ((k + 1 : Nat) : Int))) ?_
   exact R_nil ⟨t0, t1, t10, rfl, trivial⟩
  intro T H ⟨t0, t1, t10, t11, _⟩
  refine p12 _ _ _ ?_ ⟨(k + 1), rfl, t0, t1, t10, (Eq.trans t11 (by first | rfl | simp)), ?_, ?_⟩
  · omega
  · omega
  · exact cmn_next hc (by omega) (by omega) (by omega)
 refine W_seq_exit ?_
 refine p32 _ _ _ ?_
 refine x1 _ _ ?_
 refine .done ?_
 refine W_seq_regc (fun T H => T 4 = (iV ((min a.length b.length : Nat) : Int)) ∧ True) ?_ ?_
 ·
  unfold r69_7
  refine R_mv t0 ?_
  refine R_len (@rfl V (V.sl (List.map cI (a)))) ?_
  refine R_mv t1 ?_
  refine R_len (@rfl V (V.sl (List.map cI (b)))) ?_
  refine R_mnN (m := a.length) (n := b.length) (@rfl V (iV ((a.length : Nat) : Int))) (@rfl V (iV ((b.length : Nat) : Int))) ?_
  refine R_mv (@rfl V (iV ((min a.length b.length : Nat) : Int))) ?_
  exact R_nil ⟨rfl, trivial⟩
 intro T H ⟨t4, _⟩
 refine W_ret ?_
 refine Ret_1 t4 (fz_int ?_)
 · rw [cmn_at hc (by omega)]; omega
end Go.Proofs.Ytngkckefanbhgaa

namespace Go.Proofs.Ytngkckefanbhgaa
open Go Go.Proofs
theorem hp_pure (w p : List Int) : PureC Try.prog 76 [(V.sl (List.map cI (w))), (V.sl (List.map cI (p)))] (V.bool (hp w p)) := by
 refine pure_of_Wb true 6 Try.func76 s76_ok (by kernel_rfl) (by simp [s76]) (by simp) (by simp) fun hB => ?_
 simp only [bnd_map, bnd_int, bnd_bool, bnd_str, bnd_agg, bnd_pp, bnd_nil, bnd_cons, implies_true, and_true, true_and] at hB
 unfold s76
 dsimp only
 refine W_seq_regc (fun T H => T 0 = (V.sl (List.map cI (w))) ∧ T 1 = (V.sl (List.map cI (p))) ∧ True) ?_ ?_
 ·
  unfold r76_0
  refine R_mv (@rfl V (V.bool false)) ?_
  exact R_nil ⟨rfl, rfl, trivial⟩
 intro T H ⟨t0, t1, _⟩
 refine W_seq_regc (fun T H => T 4 = (V.bool (decide (((cmn w p : Nat) : Int) = ((p.length : Nat) : Int)))) ∧ True) ?_ ?_
 ·
  unfold r76_1
  refine R_mv t0 ?_
  refine R_mv t1 ?_
  have q1 := cmn_l w p
  have q2 := cmn_r w p
  refine R_call (evcons (@rfl V (V.sl (List.map cI (w)))) (evcons (@rfl V (V.sl (List.map cI (p)))) evnil)) (common_pure w p) (fzv_mapcanon _ _ (by simp [-List.map_take, -List.map_drop, -List.map_append, -List.map_reverse])) (by simp [-List.map_take, -List.map_drop, -List.map_append, -List.map_reverse]) (Or.inl (by simp [-List.map_take, -List.map_drop, -List.map_append, -List.map_reverse])) ?_
  refine R_mv t1 ?_
  refine R_len (@rfl V (V.sl (List.map cI (p)))) ?_
  refine R_eql (x := ((cmn w p : Nat) : Int)) (y := ((p.length : Nat) : Int)) (@rfl V (iV ((cmn w p : Nat) : Int))) (@rfl V (iV ((p.length : Nat) : Int))) ?_
  refine R_mv (@rfl V (V.bool (decide (((cmn w p : Nat) : Int) = ((p.length : Nat) : Int))))) ?_
  exact R_nil ⟨rfl, trivial⟩
 intro T H ⟨t4, _⟩
 have q3 := cmn_l w p
 have q4 := cmn_r w p
 refine W_ret ?_
 refine Ret_1 t4 (fz_bool ?_)
 · unfold hp; exact decide_eq_decide.2 (by omega)
end Go.Proofs.Ytngkckefanbhgaa

namespace Go.Proofs.Ytngkckefanbhgaa
open Go Go.Proofs
def r79_0 : List SO := [
  ⟨none, some 2, .box 63 2 (.t 0)⟩,
  ⟨none, some 3, .box 63 2 (.t 1)⟩,
  ⟨none, some 4, .mv (.c (.int .i64 0))⟩]
def r79_1 : List SO := [
  ⟨none, some 5, .fld 0 (.t 2)⟩,
  ⟨none, some 6, .load false 1 (.t 5)⟩,
  ⟨none, some 7, .fld 0 (.t 3)⟩,
  ⟨none, some 8, .load false 1 (.t 7)⟩,
  ⟨none, some 9, .call false 66 [.t 6, .t 8]⟩,
  ⟨none, some 4, .mv (.t 9)⟩]
def s79 : SF := ⟨10, [.tmp 4], .seq (.reg r79_0) (.seq (.reg r79_1) (.ret))⟩
theorem s79_ok : slimF Try.prog ⟨[94, 102, 103, 108, 109, 116, 119, 121, 125], []⟩ Try.f79 = some s79 := by kernel_rfl
end Go.Proofs.Ytngkckefanbhgaa

namespace Go.Proofs.Ytngkckefanbhgaa
open Go Go.Proofs
def r66_0 : List SO := [
  ⟨none, some 4, .mv (.c (.int .i64 0))⟩]
def r66_1 : List SO := [
  ⟨none, some 5, .mv (.t 0)⟩,
  ⟨none, some 6, .len (.t 5)⟩,
  ⟨none, some 7, .mv (.t 1)⟩,
  ⟨none, some 8, .len (.t 7)⟩,
  ⟨none, some 9, .call false 100 [.t 6, .t 8]⟩,
  ⟨none, some 10, .mv (.t 0)⟩,
  ⟨none, some 11, .mv (.t 1)⟩,
  ⟨none, some 12, .call false 101 [.t 10, .t 11]⟩,
  ⟨none, some 13, .bslice 3 1 false [.int .i64 0] 2 [(0, .t 9), (1, .t 12)]⟩,
  ⟨none, some 14, .call false 99 [.t 13]⟩,
  ⟨none, some 4, .mv (.t 14)⟩]
def s66 : SF := ⟨15, [.tmp 4], .seq (.reg r66_0) (.seq (.reg r66_1) (.ret))⟩
theorem s66_ok : slimF Try.prog ⟨[94, 102, 103, 108, 109, 116, 119, 121, 125], []⟩ Try.f66 = some s66 := by kernel_rfl
end Go.Proofs.Ytngkckefanbhgaa

namespace Go.Proofs.Ytngkckefanbhgaa
open Go Go.Proofs
def r99_0 : List SO := [
  ⟨none, some 2, .mv (.c (.int .i64 0))⟩]
def r99_1 : List SO := [
  ⟨none, some 3, .mv (.c (.int .i64 0))⟩]
def r99_2 : List SO := [
  ⟨none, some 6, .mv (.t 0)⟩,
  ⟨none, some 7, .len (.t 6)⟩,
  ⟨none, some 8, .mv (.c (.int .i64 0))⟩]
def r99_3 : List SO := [
  ⟨none, some 9, .bin .lss (.t 8) (.t 7)⟩]
def r99_4 : List SO := [
  ⟨none, some 10, .idx 1 (.t 6) (.t 8)⟩,
  ⟨none, some 11, .load false 1 (.t 10)⟩,
  ⟨none, some 5, .mv (.t 11)⟩]
def r99_5 : List SO := [
  ⟨none, some 12, .mv (.t 5)⟩,
  ⟨none, some 13, .mv (.t 3)⟩,
  ⟨none, some 14, .bin .neq (.t 12) (.t 13)⟩]
def r99_6 : List SO := [
  ⟨none, some 15, .mv (.t 5)⟩,
  ⟨none, some 2, .mv (.t 15)⟩]
def r99_7 : List SO := [
  ⟨none, some 16, .bin .add (.t 8) (.c (.int .i64 1))⟩,
  ⟨none, some 8, .mv (.t 16)⟩]
def b99_0 : SC := .seq (.reg r99_3) (.seq (.cond (.t 9) (.skip) (.exit 0)) (.seq (.block 1 (.seq (.reg r99_4) (.seq (.reg r99_5) (.cond (.t 14) (.seq (.reg r99_6) (.ret)) (.skip))))) (.reg r99_7)))
def r99_8 : List SO := [
  ⟨none, some 17, .mv (.t 3)⟩,
  ⟨none, some 2, .mv (.t 17)⟩]
def s99 : SF := ⟨18, [.tmp 2], .seq (.reg r99_0) (.seq (.reg r99_1) (.seq (.seq (.reg r99_2) (.block 0 (.loop b99_0))) (.seq (.reg r99_8) (.ret))))⟩
theorem s99_ok : slimF Try.prog ⟨[94, 102, 103, 108, 109, 116, 119, 121, 125], []⟩ Try.f99 = some s99 := by kernel_rfl
end Go.Proofs.Ytngkckefanbhgaa

namespace Go.Proofs.Ytngkckefanbhgaa
open Go Go.Proofs
theorem cmpor_pure (l : List Int) (hl : l.length < 4294967296) : PureC Try.prog 99 [(V.sl (List.map cI (l)))] (iV (orI l)) := by
 refine pure_of_Wb true 6 Try.func99 s99_ok (by kernel_rfl) (by simp [s99]) (by simp) (by simp) fun hB => ?_
 simp only [bnd_map, bnd_int, bnd_bool, bnd_str, bnd_agg, bnd_pp, bnd_nil, bnd_cons, implies_true, and_true, true_and] at hB
 unfold s99
 dsimp only
 refine W_seq_regc (fun T H => T 0 = (V.sl (List.map cI (l))) ∧ True) ?_ ?_
 ·
  unfold r99_0
  refine R_mv (@rfl V (iV (0 : Int))) ?_
  exact R_nil ⟨rfl, trivial⟩
 intro T H ⟨t0, _⟩
 refine W_seq_regc (fun T H => T 0 = (V.sl (List.map cI (l))) ∧ T 3 = (iV (0 : Int)) ∧ True) ?_ ?_
 ·
  unfold r99_1
  refine R_mv (@rfl V (iV (0 : Int))) ?_
  exact R_nil ⟨t0, rfl, trivial⟩
 intro T H ⟨t0, t3, _⟩
 refine W_seq_seq ?_
 refine W_seq_regc (fun T H => T 3 = (iV (0 : Int)) ∧ T 6 = (V.sl (List.map cI (l))) ∧ T 7 = (iV ((l.length : Nat) : Int)) ∧ T 8 = (iV (0 : Int)) ∧ True) ?_ ?_
 ·
  unfold r99_2
  refine R_mv t0 ?_
  refine R_len (@rfl V (V.sl (List.map cI (l)))) ?_
  refine R_mv (@rfl V (iV (0 : Int))) ?_
  exact R_nil ⟨t3, rfl, rfl, rfl, trivial⟩
 intro T H ⟨t3, t6, t7, t8, _⟩
 refine W_seq_blockg fun Q1 n1 x1 y1 z1 => ?_
 refine W_loop (fun mm T H => ∃ (k : Nat), mm = l.length - k ∧ T 3 = (iV (0 : Int)) ∧ T 6 = (V.sl (List.map cI (l))) ∧ T 7 = (iV ((l.length : Nat) : Int)) ∧ T 8 = (iV ((k : Nat) : Int)) ∧ (k ≤ l.length) ∧ (orI l = orI (l.drop k))) ?_ ?_
 ·
  refine ⟨_, 0, rfl, t3, t6, t7, (Eq.trans t8 (by first | rfl | simp)), ?_, ?_⟩
  · omega
  · rfl
 intro mm T H ⟨k, hmm, t3, t6, t7, t8, hk, hc⟩ Q2 p12 p22 p32
 unfold b99_0
 refine W_seq_regc (fun T H => T 3 = (iV (0 : Int)) ∧ T 6 = (V.sl (List.map cI (l))) ∧ T 7 = (iV ((l.length : Nat) : Int)) ∧ T 8 = (iV ((k : Nat) : Int)) ∧ T 9 = (V.bool (decide (((k : Nat) : Int) < ((l.length : Nat) : Int)))) ∧ True) ?_ ?_
 ·
  unfold r99_3
  refine R_lss (x := ((k : Nat) : Int)) (y := ((l.length : Nat) : Int)) t8 t7 ?_
  exact R_nil ⟨t3, t6, t7, t8, rfl, trivial⟩
 intro T H ⟨t3, t6, t7, t8, t9, _⟩
 refine W_seq_if (p := ((k : Nat) : Int) < ((l.length : Nat) : Int)) t9 (fun c3 => ?_) (fun c3 => ?_)
 ·
  refine W_seq_skip ?_
  refine W_seq_blockg fun Q4 n4 x4 y4 z4 => ?_
  refine W_seq_regc (fun T H => T 3 = (iV (0 : Int)) ∧ T 5 = (iV ((nth (l) (k)))) ∧ T 6 = (V.sl (List.map cI (l))) ∧ T 7 = (iV ((l.length : Nat) : Int)) ∧ T 8 = (iV ((k : Nat) : Int)) ∧ True) ?_ ?_
  ·
   unfold r99_4
   refine R_idx (i := k) t6 t8 (by omega) rfl ?_
   refine R_load_pp (v := (iV ((nth (l) (k))))) (@rfl V (V.pp [(iV ((nth (l) (k))))])) (by first | rfl | simp [ldV]) ?_
   refine R_mv (@rfl V (iV ((nth (l) (k))))) ?_
   exact R_nil ⟨t3, rfl, t6, t7, t8, trivial⟩
  intro T H ⟨t3, t5, t6, t7, t8, _⟩
  refine W_seq_regc (fun T H => T 3 = (iV (0 : Int)) ∧ T 5 = (iV ((nth (l) (k)))) ∧ T 6 = (V.sl (List.map cI (l))) ∧ T 7 = (iV ((l.length : Nat) : Int)) ∧ T 8 = (iV ((k : Nat) : Int)) ∧ T 14 = (V.bool (decide (((nth (l) (k))) ≠ (0 : Int)))) ∧ True) ?_ ?_
  ·
   unfold r99_5
   refine R_mv t5 ?_
   refine R_mv t3 ?_
   refine R_neq (x := ((nth (l) (k)))) (y := (0 : Int)) (@rfl V (iV ((nth (l) (k))))) (@rfl V (iV (0 : Int))) ?_
   exact R_nil ⟨t3, t5, t6, t7, t8, rfl, trivial⟩
  intro T H ⟨t3, t5, t6, t7, t8, t14, _⟩
  refine W_if (p := ((nth (l) (k))) ≠ (0 : Int)) t14 (fun c5 => ?_) (fun c5 => ?_)
  ·
   refine W_seq_regc (fun T H => T 2 = (iV ((nth (l) (k)))) ∧ True) ?_ ?_
   ·
    unfold r99_6
    refine R_mv t5 ?_
    refine R_mv (@rfl V (iV ((nth (l) (k))))) ?_
    exact R_nil ⟨rfl, trivial⟩
   intro T H ⟨t2, _⟩
   refine W_ret ?_
   refine y4 _ _ ?_
   refine p22 _ _ ?_
   refine y1 _ _ ?_
   refine Ret_1 t2 (fz_int ?_)
   · rw [hc, orI_drop (by omega), if_neg (by omega)]
  refine W_skip ?_
  refine n4 _ _ ?_
  refine .done ?_
  refine W_regc (fun T H => T 3 = (iV (0 : Int)) ∧ T 6 = (V.sl (List.map cI (l))) ∧ T 7 = (iV ((l.length : Nat) : Int)) ∧ T 8 = (iV ((k + 1 : Nat) : Int)) ∧ True) ?_ ?_
  ·
   unfold r99_7
   refine R_addN (m := k) (n := 1) t8 (@rfl V (iV ((1 : Nat) : Int))) (by omega) ?_
   refine R_mv (@rfl V (iV ((k + 1 : Nat) : Int))) ?_
   exact R_nil ⟨t3, t6, t7, rfl, trivial⟩
  intro T H ⟨t3, t6, t7, t8, _⟩
  refine p12 _ _ _ ?_ ⟨(k + 1), rfl, t3, t6, t7, (Eq.trans t8 (by first | rfl | simp)), ?_, ?_⟩
  · omega
  · omega
  · rw [hc, orI_drop (by omega), if_pos (by omega)]
 refine W_seq_exit ?_
 refine p32 _ _ _ ?_
 refine x1 _ _ ?_
 refine .done ?_
 refine W_seq_regc (fun T H => T 2 = (iV (0 : Int)) ∧ True) ?_ ?_
 ·
  unfold r99_8
  refine R_mv t3 ?_
  refine R_mv (@rfl V (iV (0 : Int))) ?_
  exact R_nil ⟨rfl, trivial⟩
 intro T H ⟨t2, _⟩
 refine W_ret ?_
 refine Ret_1 t2 (fz_int ?_)
 · rw [hc, List.drop_of_length_le (by omega)]; rfl
end Go.Proofs.Ytngkckefanbhgaa

namespace Go.Proofs.Ytngkckefanbhgaa
open Go Go.Proofs
def r100_0 : List SO := [
  ⟨none, some 4, .mv (.c (.int .i64 0))⟩]
def r100_1 : List SO := [
  ⟨none, some 7, .mv (.t 0)⟩,
  ⟨none, some 8, .call false 114 [.t 7]⟩,
  ⟨none, some 5, .mv (.t 8)⟩]
def r100_2 : List SO := [
  ⟨none, some 9, .mv (.t 1)⟩,
  ⟨none, some 10, .call false 114 [.t 9]⟩,
  ⟨none, some 6, .mv (.t 10)⟩]
def r100_3 : List SO := [
  ⟨none, some 11, .mv (.t 5)⟩]
def r100_4 : List SO := [
  ⟨none, some 12, .mv (.t 6)⟩]
def r100_5 : List SO := [
  ⟨none, some 4, .mv (.c (.int .i64 0))⟩]
def r100_6 : List SO := [
  ⟨none, some 4, .mv (.c (.int .i64 (-1)))⟩]
def r100_7 : List SO := [
  ⟨none, some 13, .mv (.t 6)⟩]
def r100_8 : List SO := [
  ⟨none, some 4, .mv (.c (.int .i64 1))⟩]
def r100_9 : List SO := [
  ⟨none, some 14, .mv (.t 0)⟩,
  ⟨none, some 15, .mv (.t 1)⟩,
  ⟨none, some 16, .bin .lss (.t 14) (.t 15)⟩]
def r100_10 : List SO := [
  ⟨none, some 4, .mv (.c (.int .i64 (-1)))⟩]
def r100_11 : List SO := [
  ⟨none, some 17, .mv (.t 0)⟩,
  ⟨none, some 18, .mv (.t 1)⟩,
  ⟨none, some 19, .bin .gtr (.t 17) (.t 18)⟩]
def r100_12 : List SO := [
  ⟨none, some 4, .mv (.c (.int .i64 1))⟩]
def r100_13 : List SO := [
  ⟨none, some 4, .mv (.c (.int .i64 0))⟩]
def s100 : SF := ⟨20, [.tmp 4], .seq (.reg r100_0) (.seq (.reg r100_1) (.seq (.reg r100_2) (.seq (.seq (.reg r100_3) (.cond (.t 11) (.seq (.seq (.reg r100_4) (.cond (.t 12) (.seq (.reg r100_5) (.ret)) (.skip))) (.seq (.reg r100_6) (.ret))) (.skip))) (.seq (.seq (.reg r100_7) (.cond (.t 13) (.seq (.reg r100_8) (.ret)) (.skip))) (.seq (.seq (.reg r100_9) (.cond (.t 16) (.seq (.reg r100_10) (.ret)) (.skip))) (.seq (.seq (.reg r100_11) (.cond (.t 19) (.seq (.reg r100_12) (.ret)) (.skip))) (.seq (.reg r100_13) (.ret))))))))⟩
theorem s100_ok : slimF Try.prog ⟨[94, 102, 103, 108, 109, 116, 119, 121, 125], []⟩ Try.f100 = some s100 := by kernel_rfl
end Go.Proofs.Ytngkckefanbhgaa

namespace Go.Proofs.Ytngkckefanbhgaa
open Go Go.Proofs
def r114_0 : List SO := [
  ⟨none, some 2, .mv (.c (.bool false))⟩]
def r114_1 : List SO := [
  ⟨none, some 3, .mv (.t 0)⟩,
  ⟨none, some 4, .mv (.t 0)⟩,
  ⟨none, some 5, .bin .neq (.t 3) (.t 4)⟩,
  ⟨none, some 2, .mv (.t 5)⟩]
def s114 : SF := ⟨6, [.tmp 2], .seq (.reg r114_0) (.seq (.reg r114_1) (.ret))⟩
theorem s114_ok : slimF Try.prog ⟨[94, 102, 103, 108, 109, 116, 119, 121, 125], []⟩ Try.f114 = some s114 := by kernel_rfl
end Go.Proofs.Ytngkckefanbhgaa

namespace Go.Proofs.Ytngkckefanbhgaa
open Go Go.Proofs
theorem isnan_pure (n : Int) : PureC Try.prog 114 [(iV (n))] (V.bool false) := by
 refine pure_of_Wb true 6 Try.func114 s114_ok (by kernel_rfl) (by simp [s114]) (by simp) (by simp) fun hB => ?_
 simp only [bnd_map, bnd_int, bnd_bool, bnd_str, bnd_agg, bnd_pp, bnd_nil, bnd_cons, implies_true, and_true, true_and] at hB
 unfold s114
 dsimp only
 refine W_seq_regc (fun T H => T 0 = (iV (n)) ∧ True) ?_ ?_
 ·
  unfold r114_0
  refine R_mv (@rfl V (V.bool false)) ?_
  exact R_nil ⟨rfl, trivial⟩
 intro T H ⟨t0, _⟩
 refine W_seq_regc (fun T H => T 2 = (V.bool (decide ((n) ≠ (n)))) ∧ True) ?_ ?_
 ·
  unfold r114_1
  refine R_mv t0 ?_
  refine R_mv t0 ?_
  refine R_neq (x := (n)) (y := (n)) (@rfl V (iV (n))) (@rfl V (iV (n))) ?_
  refine R_mv (@rfl V (V.bool (decide ((n) ≠ (n))))) ?_
  exact R_nil ⟨rfl, trivial⟩
 intro T H ⟨t2, _⟩
 refine W_ret ?_
 refine Ret_1 t2 (fz_bool ?_)
 · simp
end Go.Proofs.Ytngkckefanbhgaa

namespace Go.Proofs.Ytngkckefanbhgaa
open Go Go.Proofs
theorem cmpint_pure (x y : Int) : PureC Try.prog 100 [(iV (x)), (iV (y))] (iV (cmpI x y)) := by
 refine pure_of_Wb true 6 Try.func100 s100_ok (by kernel_rfl) (by simp [s100]) (by simp) (by simp) fun hB => ?_
 simp only [bnd_map, bnd_int, bnd_bool, bnd_str, bnd_agg, bnd_pp, bnd_nil, bnd_cons, implies_true, and_true, true_and] at hB
 unfold s100
 dsimp only
 refine W_seq_regc (fun T H => T 0 = (iV (x)) ∧ T 1 = (iV (y)) ∧ True) ?_ ?_
 ·
  unfold r100_0
  refine R_mv (@rfl V (iV (0 : Int))) ?_
  exact R_nil ⟨rfl, rfl, trivial⟩
 intro T H ⟨t0, t1, _⟩
 refine W_seq_regc (fun T H => T 0 = (iV (x)) ∧ T 1 = (iV (y)) ∧ T 5 = (V.bool false) ∧ True) ?_ ?_
 ·
  unfold r100_1
  refine R_mv t0 ?_
  refine R_call (evcons (@rfl V (iV (x))) evnil) (isnan_pure ((x))) (fzv_mapcanon _ _ (by simp [-List.map_take, -List.map_drop, -List.map_append, -List.map_reverse])) (by simp [-List.map_take, -List.map_drop, -List.map_append, -List.map_reverse]) (Or.inl (by simp [-List.map_take, -List.map_drop, -List.map_append, -List.map_reverse])) ?_
  refine R_mv (@rfl V (V.bool false)) ?_
  exact R_nil ⟨t0, t1, rfl, trivial⟩
 intro T H ⟨t0, t1, t5, _⟩
 refine W_seq_regc (fun T H => T 0 = (iV (x)) ∧ T 1 = (iV (y)) ∧ T 5 = (V.bool false) ∧ T 6 = (V.bool false) ∧ True) ?_ ?_
 ·
  unfold r100_2
  refine R_mv t1 ?_
  refine R_call (evcons (@rfl V (iV (y))) evnil) (isnan_pure ((y))) (fzv_mapcanon _ _ (by simp [-List.map_take, -List.map_drop, -List.map_append, -List.map_reverse])) (by simp [-List.map_take, -List.map_drop, -List.map_append, -List.map_reverse]) (Or.inl (by simp [-List.map_take, -List.map_drop, -List.map_append, -List.map_reverse])) ?_
  refine R_mv (@rfl V (V.bool false)) ?_
  exact R_nil ⟨t0, t1, t5, rfl, trivial⟩
 intro T H ⟨t0, t1, t5, t6, _⟩
 refine W_seq_seq ?_
 refine W_seq_regc (fun T H => T 0 = (iV (x)) ∧ T 1 = (iV (y)) ∧ T 6 = (V.bool false) ∧ T 11 = (V.bool false) ∧ True) ?_ ?_
 ·
  unfold r100_3
  refine R_mv t5 ?_
  exact R_nil ⟨t0, t1, t6, rfl, trivial⟩
 intro T H ⟨t0, t1, t6, t11, _⟩
 refine W_seq_ifb t11 (fun c1 => ?_) (fun c1 => ?_)
 · cases c1
 refine W_seq_skip ?_
 refine W_seq_seq ?_
 refine W_seq_regc (fun T H => T 0 = (iV (x)) ∧ T 1 = (iV (y)) ∧ T 13 = (V.bool false) ∧ True) ?_ ?_
 ·
  unfold r100_7
  refine R_mv t6 ?_
  exact R_nil ⟨t0, t1, rfl, trivial⟩
 intro T H ⟨t0, t1, t13, _⟩
 refine W_seq_ifb t13 (fun c2 => ?_) (fun c2 => ?_)
 · cases c2
 refine W_seq_skip ?_
 refine W_seq_seq ?_
 refine W_seq_regc (fun T H => T 0 = (iV (x)) ∧ T 1 = (iV (y)) ∧ T 16 = (V.bool (decide ((x) < (y)))) ∧ True) ?_ ?_
 ·
  unfold r100_9
  refine R_mv t0 ?_
  refine R_mv t1 ?_
  refine R_lss (x := (x)) (y := (y)) (@rfl V (iV (x))) (@rfl V (iV (y))) ?_
  exact R_nil ⟨t0, t1, rfl, trivial⟩
 intro T H ⟨t0, t1, t16, _⟩
 refine W_seq_if (p := (x) < (y)) t16 (fun c3 => ?_) (fun c3 => ?_)
 ·
  refine W_seq_seq ?_
  refine W_seq_regc (fun T H => T 4 = (iV (-1 : Int)) ∧ True) ?_ ?_
  ·
   unfold r100_10
   refine R_mv (@rfl V (iV (-1 : Int))) ?_
   exact R_nil ⟨rfl, trivial⟩
  intro T H ⟨t4, _⟩
  refine W_seq_ret ?_
  refine Ret_1 t4 (fz_int ?_)
  · unfold cmpI; repeat (split <;> first | rfl | omega | skip)
 refine W_seq_skip ?_
 refine W_seq_seq ?_
 refine W_seq_regc (fun T H => T 19 = (V.bool (decide ((y) < (x)))) ∧ True) ?_ ?_
 ·
  unfold r100_11
  refine R_mv t0 ?_
  refine R_mv t1 ?_
  refine R_gtr (x := (x)) (y := (y)) (@rfl V (iV (x))) (@rfl V (iV (y))) ?_
  exact R_nil ⟨rfl, trivial⟩
 intro T H ⟨t19, _⟩
 refine W_seq_if (p := (y) < (x)) t19 (fun c4 => ?_) (fun c4 => ?_)
 ·
  refine W_seq_seq ?_
  refine W_seq_regc (fun T H => T 4 = (iV (1 : Int)) ∧ True) ?_ ?_
  ·
   unfold r100_12
   refine R_mv (@rfl V (iV (1 : Int))) ?_
   exact R_nil ⟨rfl, trivial⟩
  intro T H ⟨t4, _⟩
  refine W_seq_ret ?_
  refine Ret_1 t4 (fz_int ?_)
  · unfold cmpI; repeat (split <;> first | rfl | omega | skip)
 refine W_seq_skip ?_
 refine W_seq_regc (fun T H => T 4 = (iV (0 : Int)) ∧ True) ?_ ?_
 ·
  unfold r100_13
  refine R_mv (@rfl V (iV (0 : Int))) ?_
  exact R_nil ⟨rfl, trivial⟩
 intro T H ⟨t4, _⟩
 refine W_ret ?_
 refine Ret_1 t4 (fz_int ?_)
 · unfold cmpI; repeat (split <;> first | rfl | omega | skip)
end Go.Proofs.Ytngkckefanbhgaa

namespace Go.Proofs.Ytngkckefanbhgaa
open Go Go.Proofs
def r101_0 : List SO := [
  ⟨none, some 4, .mv (.c (.int .i64 0))⟩]
def r101_1 : List SO := [
  ⟨none, some 9, .mv (.t 0)⟩,
  ⟨none, some 10, .len (.t 9)⟩,
  ⟨none, some 11, .mv (.c (.int .i64 0))⟩]
def r101_2 : List SO := [
  ⟨none, some 12, .bin .lss (.t 11) (.t 10)⟩]
def r101_3 : List SO := [
  ⟨none, some 13, .mv (.t 11)⟩,
  ⟨none, some 14, .idx 1 (.t 9) (.t 11)⟩,
  ⟨none, some 15, .load false 1 (.t 14)⟩,
  ⟨none, some 5, .mv (.t 13)⟩,
  ⟨none, some 6, .mv (.t 15)⟩]
def r101_4 : List SO := [
  ⟨none, some 16, .mv (.t 5)⟩,
  ⟨none, some 17, .mv (.t 1)⟩,
  ⟨none, some 18, .len (.t 17)⟩,
  ⟨none, some 19, .bin .geq (.t 16) (.t 18)⟩]
def r101_5 : List SO := [
  ⟨none, some 4, .mv (.c (.int .i64 1))⟩]
def r101_6 : List SO := [
  ⟨none, some 20, .mv (.t 1)⟩,
  ⟨none, some 21, .mv (.t 5)⟩,
  ⟨none, some 22, .idx 1 (.t 20) (.t 21)⟩,
  ⟨none, some 23, .load false 1 (.t 22)⟩,
  ⟨none, some 7, .mv (.t 23)⟩]
def r101_7 : List SO := [
  ⟨none, some 24, .mv (.t 6)⟩,
  ⟨none, some 25, .mv (.t 7)⟩,
  ⟨none, some 26, .call false 100 [.t 24, .t 25]⟩,
  ⟨none, some 8, .mv (.t 26)⟩]
def r101_8 : List SO := [
  ⟨none, some 27, .mv (.t 8)⟩,
  ⟨none, some 28, .bin .neq (.t 27) (.c (.int .i64 0))⟩]
def r101_9 : List SO := [
  ⟨none, some 29, .mv (.t 8)⟩,
  ⟨none, some 4, .mv (.t 29)⟩]
def r101_10 : List SO := [
  ⟨none, some 30, .bin .add (.t 11) (.c (.int .i64 1))⟩,
  ⟨none, some 11, .mv (.t 30)⟩]
def b101_0 : SC := .seq (.reg r101_2) (.seq (.cond (.t 12) (.skip) (.exit 0)) (.seq (.block 1 (.seq (.reg r101_3) (.seq (.seq (.reg r101_4) (.cond (.t 19) (.seq (.reg r101_5) (.ret)) (.skip))) (.seq (.reg r101_6) (.seq (.reg r101_7) (.seq (.reg r101_8) (.cond (.t 28) (.seq (.reg r101_9) (.ret)) (.skip)))))))) (.reg r101_10)))
def r101_11 : List SO := [
  ⟨none, some 31, .mv (.t 0)⟩,
  ⟨none, some 32, .len (.t 31)⟩,
  ⟨none, some 33, .mv (.t 1)⟩,
  ⟨none, some 34, .len (.t 33)⟩,
  ⟨none, some 35, .bin .lss (.t 32) (.t 34)⟩]
def r101_12 : List SO := [
  ⟨none, some 4, .mv (.c (.int .i64 (-1)))⟩]
def r101_13 : List SO := [
  ⟨none, some 4, .mv (.c (.int .i64 0))⟩]
def s101 : SF := ⟨36, [.tmp 4], .seq (.reg r101_0) (.seq (.seq (.reg r101_1) (.block 0 (.loop b101_0))) (.seq (.seq (.reg r101_11) (.cond (.t 35) (.seq (.reg r101_12) (.ret)) (.skip))) (.seq (.reg r101_13) (.ret))))⟩
theorem s101_ok : slimF Try.prog ⟨[94, 102, 103, 108, 109, 116, 119, 121, 125], []⟩ Try.f101 = some s101 := by kernel_rfl
end Go.Proofs.Ytngkckefanbhgaa

namespace Go.Proofs.Ytngkckefanbhgaa
open Go Go.Proofs
theorem scompare_pure (a b : List Int) : PureC Try.prog 101 [(V.sl (List.map cI (a))), (V.sl (List.map cI (b)))] (iV (lexI a b)) := by
 refine pure_of_Wb true 6 Try.func101 s101_ok (by kernel_rfl) (by simp [s101]) (by simp) (by simp) fun hB => ?_
 simp only [bnd_map, bnd_int, bnd_bool, bnd_str, bnd_agg, bnd_pp, bnd_nil, bnd_cons, implies_true, and_true, true_and] at hB
 unfold s101
 dsimp only
 refine W_seq_regc (fun T H => T 0 = (V.sl (List.map cI (a))) ∧ T 1 = (V.sl (List.map cI (b))) ∧ True) ?_ ?_
 ·
  unfold r101_0
  refine R_mv (@rfl V (iV (0 : Int))) ?_
  exact R_nil ⟨rfl, rfl, trivial⟩
 intro T H ⟨t0, t1, _⟩
 refine W_seq_seq ?_
 refine W_seq_regc (fun T H => T 0 = (V.sl (List.map cI (a))) ∧ T 1 = (V.sl (List.map cI (b))) ∧ T 9 = (V.sl (List.map cI (a))) ∧ T 10 = (iV ((a.length : Nat) : Int)) ∧ T 11 = (iV (0 : Int)) ∧ True) ?_ ?_
 ·
  unfold r101_1
  refine R_mv t0 ?_
  refine R_len (@rfl V (V.sl (List.map cI (a)))) ?_
  refine R_mv (@rfl V (iV (0 : Int))) ?_
  exact R_nil ⟨t0, t1, rfl, rfl, rfl, trivial⟩
 intro T H ⟨t0, t1, t9, t10, t11, _⟩
 refine W_seq_blockg fun Q1 n1 x1 y1 z1 => ?_
 refine W_loop (fun mm T H => ∃ (k : Nat), mm = a.length - k ∧ T 0 = (V.sl (List.map cI (a))) ∧ T 1 = (V.sl (List.map cI (b))) ∧ T 9 = (V.sl (List.map cI (a))) ∧ T 10 = (iV ((a.length : Nat) : Int)) ∧ T 11 = (iV ((k : Nat) : Int)) ∧ (k ≤ a.length) ∧ (k ≤ cmn a b)) ?_ ?_
 ·
  refine ⟨_, 0, rfl, t0, t1, t9, t10, (Eq.trans t11 (by first | rfl | simp)), ?_, ?_⟩
  · omega
  · exact Nat.zero_le _
 intro mm T H ⟨k, hmm, t0, t1, t9, t10, t11, hk, hc⟩ Q2 p12 p22 p32
 unfold b101_0
 refine W_seq_regc (fun T H => T 0 = (V.sl (List.map cI (a))) ∧ T 1 = (V.sl (List.map cI (b))) ∧ T 9 = (V.sl (List.map cI (a))) ∧ T 10 = (iV ((a.length : Nat) : Int)) ∧ T 11 = (iV ((k : Nat) : Int)) ∧ T 12 = (V.bool (decide (((k : Nat) : Int) < ((a.length : Nat) : Int)))) ∧ True) ?_ ?_
 ·
  unfold r101_2
  refine R_lss (x := ((k : Nat) : Int)) (y := ((a.length : Nat) : Int)) t11 t10 ?_
  exact R_nil ⟨t0, t1, t9, t10, t11, rfl, trivial⟩
 intro T H ⟨t0, t1, t9, t10, t11, t12, _⟩
 refine W_seq_if (p := ((k : Nat) : Int) < ((a.length : Nat) : Int)) t12 (fun c3 => ?_) (fun c3 => ?_)
 ·
  refine W_seq_skip ?_
  refine W_seq_blockg fun Q4 n4 x4 y4 z4 => ?_
  refine W_seq_regc (fun T H => T 0 = (V.sl (List.map cI (a))) ∧ T 1 = (V.sl (List.map cI (b))) ∧ T 5 = (iV ((k : Nat) : Int)) ∧ T 6 = (iV ((nth (a) (k)))) ∧ T 9 = (V.sl (List.map cI (a))) ∧ T 10 = (iV ((a.length : Nat) : Int)) ∧ T 11 = (iV ((k : Nat) : Int)) ∧ True) ?_ ?_
  ·
   unfold r101_3
   refine R_mv t11 ?_
   refine R_idx (i := k) t9 t11 (by omega) rfl ?_
   refine R_load_pp (v := (iV ((nth (a) (k))))) (@rfl V (V.pp [(iV ((nth (a) (k))))])) (by first | rfl | simp [ldV]) ?_
   refine R_mv (@rfl V (iV ((k : Nat) : Int))) ?_
   refine R_mv (@rfl V (iV ((nth (a) (k))))) ?_
   exact R_nil ⟨t0, t1, rfl, rfl, t9, t10, t11, trivial⟩
  intro T H ⟨t0, t1, t5, t6, t9, t10, t11, _⟩
  refine W_seq_seq ?_
  refine W_seq_regc (fun T H => T 0 = (V.sl (List.map cI (a))) ∧ T 1 = (V.sl (List.map cI (b))) ∧ T 5 = (iV ((k : Nat) : Int)) ∧ T 6 = (iV ((nth (a) (k)))) ∧ T 9 = (V.sl (List.map cI (a))) ∧ T 10 = (iV ((a.length : Nat) : Int)) ∧ T 11 = (iV ((k : Nat) : Int)) ∧ T 19 = (V.bool (decide (((b.length : Nat) : Int) ≤ ((k : Nat) : Int)))) ∧ True) ?_ ?_
  ·
   unfold r101_4
   refine R_mv t5 ?_
   refine R_mv t1 ?_
   refine R_len (@rfl V (V.sl (List.map cI (b)))) ?_
   refine R_geq (x := ((k : Nat) : Int)) (y := ((b.length : Nat) : Int)) (@rfl V (iV ((k : Nat) : Int))) (@rfl V (iV ((b.length : Nat) : Int))) ?_
   exact R_nil ⟨t0, t1, t5, t6, t9, t10, t11, rfl, trivial⟩
  intro T H ⟨t0, t1, t5, t6, t9, t10, t11, t19, _⟩
  refine W_seq_if (p := ((b.length : Nat) : Int) ≤ ((k : Nat) : Int)) t19 (fun c5 => ?_) (fun c5 => ?_)
  ·
   refine W_seq_seq ?_
   refine W_seq_regc (fun T H => T 4 = (iV (1 : Int)) ∧ True) ?_ ?_
   ·
    unfold r101_5
    refine R_mv (@rfl V (iV (1 : Int))) ?_
    exact R_nil ⟨rfl, trivial⟩
   intro T H ⟨t4, _⟩
   refine W_seq_ret ?_
   refine y4 _ _ ?_
   refine p22 _ _ ?_
   refine y1 _ _ ?_
   refine Ret_1 t4 (fz_int ?_)
   · have g1 := cmn_l a b
     have g2 := cmn_r a b
     have g3 := cmn_at hc (by omega)
     simp only [lexI, cmpI, g3] at *; repeat (split <;> first | rfl | omega | skip)
  refine W_seq_skip ?_
  refine W_seq_regc (fun T H => T 0 = (V.sl (List.map cI (a))) ∧ T 1 = (V.sl (List.map cI (b))) ∧ T 6 = (iV ((nth (a) (k)))) ∧ T 7 = (iV ((nth (b) (k)))) ∧ T 9 = (V.sl (List.map cI (a))) ∧ T 10 = (iV ((a.length : Nat) : Int)) ∧ T 11 = (iV ((k : Nat) : Int)) ∧ True) ?_ ?_
  ·
   unfold r101_6
   refine R_mv t1 ?_
   refine R_mv t5 ?_
   refine R_idx (i := k) (@rfl V (V.sl (List.map cI (b)))) (@rfl V (iV ((k : Nat) : Int))) (by omega) rfl ?_
   refine R_load_pp (v := (iV ((nth (b) (k))))) (@rfl V (V.pp [(iV ((nth (b) (k))))])) (by first | rfl | simp [ldV]) ?_
   refine R_mv (@rfl V (iV ((nth (b) (k))))) ?_
   exact R_nil ⟨t0, t1, t6, rfl, t9, t10, t11, trivial⟩
  intro T H ⟨t0, t1, t6, t7, t9, t10, t11, _⟩
  refine W_seq_regc (fun T H => T 0 = (V.sl (List.map cI (a))) ∧ T 1 = (V.sl (List.map cI (b))) ∧ T 8 = (iV (cmpI (((nth (a) (k)))) (((nth (b) (k)))))) ∧ T 9 = (V.sl (List.map cI (a))) ∧ T 10 = (iV ((a.length : Nat) : Int)) ∧ T 11 = (iV ((k : Nat) : Int)) ∧ True) ?_ ?_
  ·
   unfold r101_7
   refine R_mv t6 ?_
   refine R_mv t7 ?_
   refine R_call (evcons (@rfl V (iV ((nth (a) (k))))) (evcons (@rfl V (iV ((nth (b) (k))))) evnil)) (cmpint_pure (((nth (a) (k)))) (((nth (b) (k))))) (fzv_mapcanon _ _ (by simp [-List.map_take, -List.map_drop, -List.map_append, -List.map_reverse])) (by simp [-List.map_take, -List.map_drop, -List.map_append, -List.map_reverse]) (Or.inl (by simp [-List.map_take, -List.map_drop, -List.map_append, -List.map_reverse])) ?_
   refine R_mv (@rfl V (iV (cmpI (((nth (a) (k)))) (((nth (b) (k))))))) ?_
   exact R_nil ⟨t0, t1, rfl, t9, t10, t11, trivial⟩
  intro T H ⟨t0, t1, t8, t9, t10, t11, _⟩
  refine W_seq_regc (fun T H => T 0 = (V.sl (List.map cI (a))) ∧ T 1 = (V.sl (List.map cI (b))) ∧ T 8 = (iV (cmpI (((nth (a) (k)))) (((nth (b) (k)))))) ∧ T 9 = (V.sl (List.map cI (a))) ∧ T 10 = (iV ((a.length : Nat) : Int)) ∧ T 11 = (iV ((k : Nat) : Int)) ∧ T 28 = (V.bool (decide ((cmpI (((nth (a) (k)))) (((nth (b) (k))))) ≠ (0 : Int)))) ∧ True) ?_ ?_
  ·
   unfold r101_8
   refine R_mv t8 ?_
   refine R_neq (x := (cmpI (((nth (a) (k)))) (((nth (b) (k)))))) (y := (0 : Int)) (@rfl V (iV (cmpI (((nth (a) (k)))) (((nth (b) (k))))))) (@rfl V (iV (0 : Int))) ?_
   exact R_nil ⟨t0, t1, t8, t9, t10, t11, rfl, trivial⟩
  intro T H ⟨t0, t1, t8, t9, t10, t11, t28, _⟩
  refine W_if (p := (cmpI (((nth (a) (k)))) (((nth (b) (k))))) ≠ (0 : Int)) t28 (fun c6 => ?_) (fun c6 => ?_)
  ·
   have c9 : nth a k ≠ nth b k := fun e => c6 (cmpI_zero.2 e)
   refine W_seq_regc (fun T H => T 4 = (iV (cmpI (((nth (a) (k)))) (((nth (b) (k)))))) ∧ True) ?_ ?_
   ·
    unfold r101_9
    refine R_mv t8 ?_
    refine R_mv (@rfl V (iV (cmpI (((nth (a) (k)))) (((nth (b) (k))))))) ?_
    exact R_nil ⟨rfl, trivial⟩
   intro T H ⟨t4, _⟩
   refine W_ret ?_
   refine y4 _ _ ?_
   refine p22 _ _ ?_
   refine y1 _ _ ?_
   refine Ret_1 t4 (fz_int ?_)
   · have g1 := cmn_l a b
     have g2 := cmn_r a b
     have g3 := cmn_at hc (by omega)
     simp only [lexI, cmpI, g3] at *; repeat (split <;> first | rfl | omega | skip)
  refine W_skip ?_
  refine n4 _ _ ?_
  refine .done ?_
  refine W_regc (fun T H => T 0 = (V.sl (List.map cI (a))) ∧ T 1 = (V.sl (List.map cI (b))) ∧ T 9 = (V.sl (List.map cI (a))) ∧ T 10 = (iV ((a.length : Nat) : Int)) ∧ T 11 = (iV ((k + 1 : Nat) : Int)) ∧ True) ?_ ?_
  ·
   unfold r101_10
   refine R_addN (m := k) (n := 1) t11 (@rfl V (iV ((1 : Nat) : Int))) (by omega) ?_
   refine R_mv (@rfl V (iV ((k + 1 : Nat) : Int))) ?_
   exact R_nil ⟨t0, t1, t9, t10, rfl, trivial⟩
  intro T H ⟨t0, t1, t9, t10, t11, _⟩
  refine p12 _ _ _ ?_ ⟨(k + 1), rfl, t0, t1, t9, t10, (Eq.trans t11 (by first | rfl | simp)), ?_, ?_⟩
  · omega
  · omega
  · exact cmn_next hc (by omega) (by omega) (cmpI_zero.1 (by omega))
 refine W_seq_exit ?_
 refine p32 _ _ _ ?_
 refine x1 _ _ ?_
 refine .done ?_
 refine W_seq_seq ?_
 refine W_seq_regc (fun T H => T 35 = (V.bool (decide (((a.length : Nat) : Int) < ((b.length : Nat) : Int)))) ∧ True) ?_ ?_
 ·
  unfold r101_11
  refine R_mv t0 ?_
  refine R_len (@rfl V (V.sl (List.map cI (a)))) ?_
  refine R_mv t1 ?_
  refine R_len (@rfl V (V.sl (List.map cI (b)))) ?_
  refine R_lss (x := ((a.length : Nat) : Int)) (y := ((b.length : Nat) : Int)) (@rfl V (iV ((a.length : Nat) : Int))) (@rfl V (iV ((b.length : Nat) : Int))) ?_
  exact R_nil ⟨rfl, trivial⟩
 intro T H ⟨t35, _⟩
 refine W_seq_if (p := ((a.length : Nat) : Int) < ((b.length : Nat) : Int)) t35 (fun c7 => ?_) (fun c7 => ?_)
 ·
  refine W_seq_seq ?_
  refine W_seq_regc (fun T H => T 4 = (iV (-1 : Int)) ∧ True) ?_ ?_
  ·
   unfold r101_12
   refine R_mv (@rfl V (iV (-1 : Int))) ?_
   exact R_nil ⟨rfl, trivial⟩
  intro T H ⟨t4, _⟩
  refine W_seq_ret ?_
  refine Ret_1 t4 (fz_int ?_)
  · have g1 := cmn_l a b
    have g2 := cmn_r a b
    have g3 := cmn_at hc (by omega)
    simp only [lexI, cmpI, g3] at *; repeat (split <;> first | rfl | omega | skip)
 refine W_seq_skip ?_
 refine W_seq_regc (fun T H => T 4 = (iV (0 : Int)) ∧ True) ?_ ?_
 ·
  unfold r101_13
  refine R_mv (@rfl V (iV (0 : Int))) ?_
  exact R_nil ⟨rfl, trivial⟩
 intro T H ⟨t4, _⟩
 refine W_ret ?_
 refine Ret_1 t4 (fz_int ?_)
 · have g1 := cmn_l a b
   have g2 := cmn_r a b
   have g3 := cmn_at hc (by omega)
   simp only [lexI, cmpI, g3] at *; repeat (split <;> first | rfl | omega | skip)
end Go.Proofs.Ytngkckefanbhgaa

namespace Go.Proofs.Ytngkckefanbhgaa
open Go Go.Proofs
theorem compare_pure (a b : List Int) : PureC Try.prog 66 [(V.sl (List.map cI (a))), (V.sl (List.map cI (b)))] (iV (slx a b)) := by
 refine pure_of_Wb true 6 Try.func66 s66_ok (by kernel_rfl) (by simp [s66]) (by simp) (by simp) fun hB => ?_
 simp only [bnd_map, bnd_int, bnd_bool, bnd_str, bnd_agg, bnd_pp, bnd_nil, bnd_cons, implies_true, and_true, true_and] at hB
 unfold s66
 dsimp only
 refine W_seq_regc (fun T H => T 0 = (V.sl (List.map cI (a))) ∧ T 1 = (V.sl (List.map cI (b))) ∧ True) ?_ ?_
 ·
  unfold r66_0
  refine R_mv (@rfl V (iV (0 : Int))) ?_
  exact R_nil ⟨rfl, rfl, trivial⟩
 intro T H ⟨t0, t1, _⟩
 refine W_seq_regc (fun T H => T 4 = (iV (orI ([(cmpI (((a.length : Nat) : Int)) (((b.length : Nat) : Int))), (lexI a b)]))) ∧ True) ?_ ?_
 ·
  unfold r66_1
  refine R_mv t0 ?_
  refine R_len (@rfl V (V.sl (List.map cI (a)))) ?_
  refine R_mv t1 ?_
  refine R_len (@rfl V (V.sl (List.map cI (b)))) ?_
  refine R_call (evcons (@rfl V (iV ((a.length : Nat) : Int))) (evcons (@rfl V (iV ((b.length : Nat) : Int))) evnil)) (cmpint_pure (((a.length : Nat) : Int)) (((b.length : Nat) : Int))) (fzv_mapcanon _ _ (by simp [-List.map_take, -List.map_drop, -List.map_append, -List.map_reverse])) (by simp [-List.map_take, -List.map_drop, -List.map_append, -List.map_reverse]) (Or.inl (by simp [-List.map_take, -List.map_drop, -List.map_append, -List.map_reverse])) ?_
  refine R_mv t0 ?_
  refine R_mv t1 ?_
  refine R_call (evcons (@rfl V (V.sl (List.map cI (a)))) (evcons (@rfl V (V.sl (List.map cI (b)))) evnil)) (scompare_pure a b) (fzv_mapcanon _ _ (by simp [-List.map_take, -List.map_drop, -List.map_append, -List.map_reverse])) (by simp [-List.map_take, -List.map_drop, -List.map_append, -List.map_reverse]) (Or.inl (by simp [-List.map_take, -List.map_drop, -List.map_append, -List.map_reverse])) ?_
  refine R_bslice (qs := [(0, (iV (cmpI (((a.length : Nat) : Int)) (((b.length : Nat) : Int))))), (1, (iV (lexI a b)))]) (rows := [[(iV (cmpI (((a.length : Nat) : Int)) (((b.length : Nat) : Int))))], [(iV (lexI a b))]]) (mcons (congrArg (fun v => (0, v)) (@rfl V (iV (cmpI (((a.length : Nat) : Int)) (((b.length : Nat) : Int)))))) (mcons (congrArg (fun v => (1, v)) (@rfl V (iV (lexI a b)))) rfl)) rfl ?_
  refine R_call (evcons (@rfl V (V.sl [[(iV (cmpI (((a.length : Nat) : Int)) (((b.length : Nat) : Int))))], [(iV (lexI a b))]])) evnil) (cmpor_pure ([(cmpI (((a.length : Nat) : Int)) (((b.length : Nat) : Int))), (lexI a b)]) (by simp)) (fzv_mapcanon _ _ (by simp [-List.map_take, -List.map_drop, -List.map_append, -List.map_reverse])) (by simp [-List.map_take, -List.map_drop, -List.map_append, -List.map_reverse]) (Or.inl (by simp [-List.map_take, -List.map_drop, -List.map_append, -List.map_reverse])) ?_
  refine R_mv (@rfl V (iV (orI ([(cmpI (((a.length : Nat) : Int)) (((b.length : Nat) : Int))), (lexI a b)])))) ?_
  exact R_nil ⟨rfl, trivial⟩
 intro T H ⟨t4, _⟩
 refine W_ret ?_
 refine Ret_1 t4 (fz_int ?_)
 · simp only [orI, cmpI, slx]; repeat (split <;> first | rfl | omega | skip)
end Go.Proofs.Ytngkckefanbhgaa

namespace Go.Proofs.Ytngkckefanbhgaa
open Go Go.Proofs
theorem order_pure (a b : Tr) : PureC Try.prog 79 [(V.agg [(V.sl (List.map cI (a.ni))), (V.sl (List.map cI (a.no)))]), (V.agg [(V.sl (List.map cI (b.ni))), (V.sl (List.map cI (b.no)))])] (iV (slx a.ni b.ni)) := by
 refine pure_of_Wb true 6 Try.func79 s79_ok (by kernel_rfl) (by simp [s79]) (by simp) (by simp) fun hB => ?_
 simp only [bnd_map, bnd_int, bnd_bool, bnd_str, bnd_agg, bnd_pp, bnd_nil, bnd_cons, implies_true, and_true, true_and] at hB
 unfold s79
 dsimp only
 refine W_seq_regc (fun T H => T 2 = (V.mp 2 1 0 0) ∧ T 3 = (V.mp 3 1 0 0) ∧ H 2 = (⟨1, true, false, 63, 2, [[(V.sl (List.map cI (a.ni))), (V.sl (List.map cI (a.no)))]]⟩ : Blk) ∧ H 3 = (⟨1, true, false, 63, 2, [[(V.sl (List.map cI (b.ni))), (V.sl (List.map cI (b.no)))]]⟩ : Blk) ∧ True) ?_ ?_
 ·
  unfold r79_0
  refine R_box (i := 2) (n := 0) (m := 2) (cs := [(V.sl (List.map cI (a.ni))), (V.sl (List.map cI (a.no)))]) rfl (congrArg Blk.ver rfl) (@rfl V (V.agg [(V.sl (List.map cI (a.ni))), (V.sl (List.map cI (a.no)))])) rfl rfl ?_
  refine R_box (i := 3) (n := 0) (m := 2) (cs := [(V.sl (List.map cI (b.ni))), (V.sl (List.map cI (b.no)))]) rfl (congrArg Blk.ver rfl) (@rfl V (V.agg [(V.sl (List.map cI (b.ni))), (V.sl (List.map cI (b.no)))])) rfl rfl ?_
  refine R_mv (@rfl V (iV (0 : Int))) ?_
  exact R_nil ⟨rfl, rfl, rfl, rfl, trivial⟩
 intro T H ⟨t2, t3, h2, h3, _⟩
 refine W_seq_regc (fun T H => T 4 = (iV (slx a.ni b.ni)) ∧ H 2 = (⟨1, true, false, 63, 2, [[(V.sl (List.map cI (a.ni))), (V.sl (List.map cI (a.no)))]]⟩ : Blk) ∧ H 3 = (⟨1, true, false, 63, 2, [[(V.sl (List.map cI (b.ni))), (V.sl (List.map cI (b.no)))]]⟩ : Blk) ∧ True) ?_ ?_
 ·
  unfold r79_1
  refine R_fld_mp (o' := 0) t2 h2 (by first | rfl | simp [okB, Blk.own]) rfl ?_
  refine R_load_mp (v := (V.sl (List.map cI (a.ni)))) (@rfl V (V.mp 2 1 0 0)) h2 (by first | rfl | simp [ldB, ldV, Blk.own, V.one]) ?_
  refine R_fld_mp (o' := 0) t3 h3 (by first | rfl | simp [okB, Blk.own]) rfl ?_
  refine R_load_mp (v := (V.sl (List.map cI (b.ni)))) (@rfl V (V.mp 3 1 0 0)) h3 (by first | rfl | simp [ldB, ldV, Blk.own, V.one]) ?_
  refine R_call (evcons (@rfl V (V.sl (List.map cI (a.ni)))) (evcons (@rfl V (V.sl (List.map cI (b.ni)))) evnil)) (compare_pure a.ni b.ni) (fzv_mapcanon _ _ (by simp [-List.map_take, -List.map_drop, -List.map_append, -List.map_reverse])) (by simp [-List.map_take, -List.map_drop, -List.map_append, -List.map_reverse]) (Or.inl (by simp [-List.map_take, -List.map_drop, -List.map_append, -List.map_reverse])) ?_
  refine R_mv (@rfl V (iV (slx a.ni b.ni))) ?_
  exact R_nil ⟨rfl, h2, h3, trivial⟩
 intro T H ⟨t4, h2, h3, _⟩
 refine W_ret ?_
 refine Ret_1 t4 (fz_canon (by simp) rfl)
end Go.Proofs.Ytngkckefanbhgaa

namespace Go.Proofs.Ytngkckefanbhgaa
open Go Go.Proofs
def r84_0 : List SO := [
  ⟨none, some 2, .box 63 2 (.t 0)⟩,
  ⟨none, some 3, .box 63 2 (.t 1)⟩,
  ⟨none, some 4, .mv (.c (.int .i64 0))⟩]
def r84_1 : List SO := [
  ⟨none, some 7, .fld 0 (.t 2)⟩,
  ⟨none, some 8, .load false 1 (.t 7)⟩,
  ⟨none, some 9, .fld 0 (.t 3)⟩,
  ⟨none, some 10, .load false 1 (.t 9)⟩,
  ⟨none, some 11, .call false 69 [.t 8, .t 10]⟩,
  ⟨none, some 12, .fld 1 (.t 2)⟩,
  ⟨none, some 13, .load false 1 (.t 12)⟩,
  ⟨none, some 14, .len (.t 13)⟩,
  ⟨none, some 15, .fld 1 (.t 3)⟩,
  ⟨none, some 16, .load false 1 (.t 15)⟩,
  ⟨none, some 17, .len (.t 16)⟩,
  ⟨none, some 18, .mn3 (.t 11) (.t 14) (.t 17)⟩,
  ⟨none, some 5, .mv (.t 18)⟩]
def r84_2 : List SO := [
  ⟨none, some 19, .fld 1 (.t 2)⟩,
  ⟨none, some 20, .load false 1 (.t 19)⟩,
  ⟨none, some 21, .mv (.t 5)⟩,
  ⟨none, some 22, .slice 1 (.t 20) none (some (.t 21))⟩,
  ⟨none, some 23, .fld 1 (.t 3)⟩,
  ⟨none, some 24, .load false 1 (.t 23)⟩,
  ⟨none, some 25, .mv (.t 5)⟩,
  ⟨none, some 26, .slice 1 (.t 24) none (some (.t 25))⟩,
  ⟨none, some 27, .call false 69 [.t 22, .t 26]⟩,
  ⟨none, some 6, .mv (.t 27)⟩]
def r84_3 : List SO := [
  ⟨none, some 28, .mv (.t 6)⟩,
  ⟨none, some 29, .mv (.t 5)⟩,
  ⟨none, some 30, .bin .lss (.t 28) (.t 29)⟩]
def r84_4 : List SO := [
  ⟨none, some 31, .mv (.t 6)⟩,
  ⟨none, some 4, .mv (.t 31)⟩]
def r84_5 : List SO := [
  ⟨none, some 4, .mv (.c (.int .i64 (-1)))⟩]
def s84 : SF := ⟨32, [.tmp 4], .seq (.reg r84_0) (.seq (.reg r84_1) (.seq (.seq (.reg r84_2) (.seq (.reg r84_3) (.cond (.t 30) (.seq (.reg r84_4) (.ret)) (.skip)))) (.seq (.reg r84_5) (.ret))))⟩
theorem s84_ok : slimF Try.prog ⟨[94, 102, 103, 108, 109, 116, 119, 121, 125], []⟩ Try.f84 = some s84 := by kernel_rfl
end Go.Proofs.Ytngkckefanbhgaa

namespace Go.Proofs.Ytngkckefanbhgaa
open Go Go.Proofs
theorem odiffer_pure (a b : Tr) (ha : a.no.length = a.ni.length) (hb : b.no.length = b.ni.length) : PureC Try.prog 84 [(V.agg [(V.sl (List.map cI (a.ni))), (V.sl (List.map cI (a.no)))]), (V.agg [(V.sl (List.map cI (b.ni))), (V.sl (List.map cI (b.no)))])] (iV (df a b)) := by
 refine pure_of_Wb true 6 Try.func84 s84_ok (by kernel_rfl) (by simp [s84]) (by simp) (by simp) fun hB => ?_
 simp only [bnd_map, bnd_int, bnd_bool, bnd_str, bnd_agg, bnd_pp, bnd_nil, bnd_cons, implies_true, and_true, true_and] at hB
 unfold s84
 dsimp only
 refine W_seq_regc (fun T H => T 2 = (V.mp 2 1 0 0) ∧ T 3 = (V.mp 3 1 0 0) ∧ H 2 = (⟨1, true, false, 63, 2, [[(V.sl (List.map cI (a.ni))), (V.sl (List.map cI (a.no)))]]⟩ : Blk) ∧ H 3 = (⟨1, true, false, 63, 2, [[(V.sl (List.map cI (b.ni))), (V.sl (List.map cI (b.no)))]]⟩ : Blk) ∧ True) ?_ ?_
 ·
  unfold r84_0
  refine R_box (i := 2) (n := 0) (m := 2) (cs := [(V.sl (List.map cI (a.ni))), (V.sl (List.map cI (a.no)))]) rfl (congrArg Blk.ver rfl) (@rfl V (V.agg [(V.sl (List.map cI (a.ni))), (V.sl (List.map cI (a.no)))])) rfl rfl ?_
  refine R_box (i := 3) (n := 0) (m := 2) (cs := [(V.sl (List.map cI (b.ni))), (V.sl (List.map cI (b.no)))]) rfl (congrArg Blk.ver rfl) (@rfl V (V.agg [(V.sl (List.map cI (b.ni))), (V.sl (List.map cI (b.no)))])) rfl rfl ?_
  refine R_mv (@rfl V (iV (0 : Int))) ?_
  exact R_nil ⟨rfl, rfl, rfl, rfl, trivial⟩
 intro T H ⟨t2, t3, h2, h3, _⟩
 refine W_seq_regc (fun T H => T 2 = (V.mp 2 1 0 0) ∧ T 3 = (V.mp 3 1 0 0) ∧ T 5 = (iV ((min (min (cmn a.ni b.ni) a.no.length) b.no.length : Nat) : Int)) ∧ H 2 = (⟨1, true, false, 63, 2, [[(V.sl (List.map cI (a.ni))), (V.sl (List.map cI (a.no)))]]⟩ : Blk) ∧ H 3 = (⟨1, true, false, 63, 2, [[(V.sl (List.map cI (b.ni))), (V.sl (List.map cI (b.no)))]]⟩ : Blk) ∧ True) ?_ ?_
 ·
  unfold r84_1
  refine R_fld_mp (o' := 0) t2 h2 (by first | rfl | simp [okB, Blk.own]) rfl ?_
  refine R_load_mp (v := (V.sl (List.map cI (a.ni)))) (@rfl V (V.mp 2 1 0 0)) h2 (by first | rfl | simp [ldB, ldV, Blk.own, V.one]) ?_
  refine R_fld_mp (o' := 0) t3 h3 (by first | rfl | simp [okB, Blk.own]) rfl ?_
  refine R_load_mp (v := (V.sl (List.map cI (b.ni)))) (@rfl V (V.mp 3 1 0 0)) h3 (by first | rfl | simp [ldB, ldV, Blk.own, V.one]) ?_
  have q1 := cmn_l a.ni b.ni
  have q2 := cmn_r a.ni b.ni
  refine R_call (evcons (@rfl V (V.sl (List.map cI (a.ni)))) (evcons (@rfl V (V.sl (List.map cI (b.ni)))) evnil)) (common_pure a.ni b.ni) (fzv_mapcanon _ _ (by simp [-List.map_take, -List.map_drop, -List.map_append, -List.map_reverse])) (by simp [-List.map_take, -List.map_drop, -List.map_append, -List.map_reverse]) (Or.inl (by simp [-List.map_take, -List.map_drop, -List.map_append, -List.map_reverse])) ?_
  refine R_fld_mp (o' := 1) t2 h2 (by first | rfl | simp [okB, Blk.own]) rfl ?_
  refine R_load_mp (v := (V.sl (List.map cI (a.no)))) (@rfl V (V.mp 2 1 0 1)) h2 (by first | rfl | simp [ldB, ldV, Blk.own, V.one]) ?_
  refine R_len (@rfl V (V.sl (List.map cI (a.no)))) ?_
  refine R_fld_mp (o' := 1) t3 h3 (by first | rfl | simp [okB, Blk.own]) rfl ?_
  refine R_load_mp (v := (V.sl (List.map cI (b.no)))) (@rfl V (V.mp 3 1 0 1)) h3 (by first | rfl | simp [ldB, ldV, Blk.own, V.one]) ?_
  refine R_len (@rfl V (V.sl (List.map cI (b.no)))) ?_
  refine R_mn3N (m := (cmn a.ni b.ni)) (n := a.no.length) (q := b.no.length) (@rfl V (iV ((cmn a.ni b.ni : Nat) : Int))) (@rfl V (iV ((a.no.length : Nat) : Int))) (@rfl V (iV ((b.no.length : Nat) : Int))) ?_
  refine R_mv (@rfl V (iV ((min (min (cmn a.ni b.ni) a.no.length) b.no.length : Nat) : Int))) ?_
  exact R_nil ⟨t2, t3, rfl, h2, h3, trivial⟩
 intro T H ⟨t2, t3, t5, h2, h3, _⟩
 have q3 := cmn_l a.ni b.ni
 have q4 := cmn_r a.ni b.ni
 refine W_seq_seq ?_
 refine W_seq_regc (fun T H => T 5 = (iV ((min (min (cmn a.ni b.ni) a.no.length) b.no.length : Nat) : Int)) ∧ T 6 = (iV ((cmn (List.take (min (min (cmn a.ni b.ni) a.no.length) b.no.length) (a.no)) (List.take (min (min (cmn a.ni b.ni) a.no.length) b.no.length) (b.no)) : Nat) : Int)) ∧ H 2 = (⟨1, true, false, 63, 2, [[(V.sl (List.map cI (a.ni))), (V.sl (List.map cI (a.no)))]]⟩ : Blk) ∧ H 3 = (⟨1, true, false, 63, 2, [[(V.sl (List.map cI (b.ni))), (V.sl (List.map cI (b.no)))]]⟩ : Blk) ∧ True) ?_ ?_
 ·
  unfold r84_2
  refine R_fld_mp (o' := 1) t2 h2 (by first | rfl | simp [okB, Blk.own]) rfl ?_
  refine R_load_mp (v := (V.sl (List.map cI (a.no)))) (@rfl V (V.mp 2 1 0 1)) h2 (by first | rfl | simp [ldB, ldV, Blk.own, V.one]) ?_
  refine R_mv t5 ?_
  refine R_slice_hi (n := (min (min (cmn a.ni b.ni) a.no.length) b.no.length)) (@rfl V (V.sl (List.map cI (a.no)))) (@rfl V (iV ((min (min (cmn a.ni b.ni) a.no.length) b.no.length : Nat) : Int))) (by omega) (fun _ => rfl) ?_
  refine R_fld_mp (o' := 1) t3 h3 (by first | rfl | simp [okB, Blk.own]) rfl ?_
  refine R_load_mp (v := (V.sl (List.map cI (b.no)))) (@rfl V (V.mp 3 1 0 1)) h3 (by first | rfl | simp [ldB, ldV, Blk.own, V.one]) ?_
  refine R_mv t5 ?_
  refine R_slice_hi (n := (min (min (cmn a.ni b.ni) a.no.length) b.no.length)) (@rfl V (V.sl (List.map cI (b.no)))) (@rfl V (iV ((min (min (cmn a.ni b.ni) a.no.length) b.no.length : Nat) : Int))) (by omega) (fun _ => rfl) ?_
  have q5 := cmn_l (List.take (min (min (cmn a.ni b.ni) a.no.length) b.no.length) (a.no)) (List.take (min (min (cmn a.ni b.ni) a.no.length) b.no.length) (b.no))
  have q6 := cmn_r (List.take (min (min (cmn a.ni b.ni) a.no.length) b.no.length) (a.no)) (List.take (min (min (cmn a.ni b.ni) a.no.length) b.no.length) (b.no))
  refine R_call (evcons (@rfl V (V.sl (List.map cI (List.take (min (min (cmn a.ni b.ni) a.no.length) b.no.length) (a.no))))) (evcons (@rfl V (V.sl (List.map cI (List.take (min (min (cmn a.ni b.ni) a.no.length) b.no.length) (b.no))))) evnil)) (common_pure (List.take (min (min (cmn a.ni b.ni) a.no.length) b.no.length) (a.no)) (List.take (min (min (cmn a.ni b.ni) a.no.length) b.no.length) (b.no))) (fzv_mapcanon _ _ (by simp [-List.map_take, -List.map_drop, -List.map_append, -List.map_reverse])) (by simp [-List.map_take, -List.map_drop, -List.map_append, -List.map_reverse]) (Or.inl (by simp [-List.map_take, -List.map_drop, -List.map_append, -List.map_reverse])) ?_
  refine R_mv (@rfl V (iV ((cmn (List.take (min (min (cmn a.ni b.ni) a.no.length) b.no.length) (a.no)) (List.take (min (min (cmn a.ni b.ni) a.no.length) b.no.length) (b.no)) : Nat) : Int))) ?_
  exact R_nil ⟨t5, rfl, h2, h3, trivial⟩
 intro T H ⟨t5, t6, h2, h3, _⟩
 have q7 := cmn_l (List.take (min (min (cmn a.ni b.ni) a.no.length) b.no.length) (a.no)) (List.take (min (min (cmn a.ni b.ni) a.no.length) b.no.length) (b.no))
 have q8 := cmn_r (List.take (min (min (cmn a.ni b.ni) a.no.length) b.no.length) (a.no)) (List.take (min (min (cmn a.ni b.ni) a.no.length) b.no.length) (b.no))
 refine W_seq_seq ?_
 refine W_seq_regc (fun T H => T 6 = (iV ((cmn (List.take (min (min (cmn a.ni b.ni) a.no.length) b.no.length) (a.no)) (List.take (min (min (cmn a.ni b.ni) a.no.length) b.no.length) (b.no)) : Nat) : Int)) ∧ T 30 = (V.bool (decide (((cmn (List.take (min (min (cmn a.ni b.ni) a.no.length) b.no.length) (a.no)) (List.take (min (min (cmn a.ni b.ni) a.no.length) b.no.length) (b.no)) : Nat) : Int) < ((min (min (cmn a.ni b.ni) a.no.length) b.no.length : Nat) : Int)))) ∧ H 2 = (⟨1, true, false, 63, 2, [[(V.sl (List.map cI (a.ni))), (V.sl (List.map cI (a.no)))]]⟩ : Blk) ∧ H 3 = (⟨1, true, false, 63, 2, [[(V.sl (List.map cI (b.ni))), (V.sl (List.map cI (b.no)))]]⟩ : Blk) ∧ True) ?_ ?_
 ·
  unfold r84_3
  refine R_mv t6 ?_
  refine R_mv t5 ?_
  refine R_lss (x := ((cmn (List.take (min (min (cmn a.ni b.ni) a.no.length) b.no.length) (a.no)) (List.take (min (min (cmn a.ni b.ni) a.no.length) b.no.length) (b.no)) : Nat) : Int)) (y := ((min (min (cmn a.ni b.ni) a.no.length) b.no.length : Nat) : Int)) (@rfl V (iV ((cmn (List.take (min (min (cmn a.ni b.ni) a.no.length) b.no.length) (a.no)) (List.take (min (min (cmn a.ni b.ni) a.no.length) b.no.length) (b.no)) : Nat) : Int))) (@rfl V (iV ((min (min (cmn a.ni b.ni) a.no.length) b.no.length : Nat) : Int))) ?_
  exact R_nil ⟨t6, rfl, h2, h3, trivial⟩
 intro T H ⟨t6, t30, h2, h3, _⟩
 refine W_seq_if (p := ((cmn (List.take (min (min (cmn a.ni b.ni) a.no.length) b.no.length) (a.no)) (List.take (min (min (cmn a.ni b.ni) a.no.length) b.no.length) (b.no)) : Nat) : Int) < ((min (min (cmn a.ni b.ni) a.no.length) b.no.length : Nat) : Int)) t30 (fun c9 => ?_) (fun c9 => ?_)
 ·
  have d1 := c9
  refine W_seq_seq ?_
  refine W_seq_regc (fun T H => T 4 = (iV ((cmn (List.take (min (min (cmn a.ni b.ni) a.no.length) b.no.length) (a.no)) (List.take (min (min (cmn a.ni b.ni) a.no.length) b.no.length) (b.no)) : Nat) : Int)) ∧ H 2 = (⟨1, true, false, 63, 2, [[(V.sl (List.map cI (a.ni))), (V.sl (List.map cI (a.no)))]]⟩ : Blk) ∧ H 3 = (⟨1, true, false, 63, 2, [[(V.sl (List.map cI (b.ni))), (V.sl (List.map cI (b.no)))]]⟩ : Blk) ∧ True) ?_ ?_
  ·
   unfold r84_4
   refine R_mv t6 ?_
   refine R_mv (@rfl V (iV ((cmn (List.take (min (min (cmn a.ni b.ni) a.no.length) b.no.length) (a.no)) (List.take (min (min (cmn a.ni b.ni) a.no.length) b.no.length) (b.no)) : Nat) : Int))) ?_
   exact R_nil ⟨rfl, h2, h3, trivial⟩
  intro T H ⟨t4, h2, h3, _⟩
  refine W_seq_ret ?_
  refine Ret_1 t4 (fz_int ?_)
  · have e : min (min (cmn a.ni b.ni) a.no.length) b.no.length = cmn a.ni b.ni := by omega
    rw [e] at d1 ⊢
    rw [← df_prog ha hb, if_pos (by omega)]
 have d1 := c9
 refine W_seq_skip ?_
 refine W_seq_regc (fun T H => T 4 = (iV (-1 : Int)) ∧ H 2 = (⟨1, true, false, 63, 2, [[(V.sl (List.map cI (a.ni))), (V.sl (List.map cI (a.no)))]]⟩ : Blk) ∧ H 3 = (⟨1, true, false, 63, 2, [[(V.sl (List.map cI (b.ni))), (V.sl (List.map cI (b.no)))]]⟩ : Blk) ∧ True) ?_ ?_
 ·
  unfold r84_5
  refine R_mv (@rfl V (iV (-1 : Int))) ?_
  exact R_nil ⟨rfl, h2, h3, trivial⟩
 intro T H ⟨t4, h2, h3, _⟩
 refine W_ret ?_
 refine Ret_1 t4 (fz_int ?_)
 · have e : min (min (cmn a.ni b.ni) a.no.length) b.no.length = cmn a.ni b.ni := by omega
   rw [e] at d1
   rw [← df_prog ha hb, if_neg (by omega)]
end Go.Proofs.Ytngkckefanbhgaa

namespace Go.Proofs.Ytngkckefanbhgaa
open Go Go.Proofs
def r116_0 : List SO := [
  ⟨none, some 4, .mv (.c (.nilsl))⟩]
def r116_1 : List SO := [
  ⟨none, some 8, .mv (.t 0)⟩,
  ⟨none, some 9, .mv (.t 1)⟩,
  ⟨none, some 10, .call false 74 [.t 8, .t 9]⟩,
  ⟨none, some 5, .mv (.t 10)⟩]
def r116_2 : List SO := [
  ⟨none, some 11, .mv (.t 5)⟩,
  ⟨none, some 12, .bin .eql (.t 11) (.c (.int .i64 (-1)))⟩]
def r116_3 : List SO := [
  ⟨none, some 13, .mv (.t 0)⟩,
  ⟨none, some 4, .mv (.t 13)⟩]
def r116_4 : List SO := [
  ⟨none, some 14, .mv (.t 5)⟩,
  ⟨none, some 15, .bin .add (.t 14) (.c (.int .i64 1))⟩,
  ⟨none, some 6, .mv (.t 15)⟩]
def r116_5 : List SO := [
  ⟨none, some 16, .mv (.t 6)⟩,
  ⟨none, some 17, .mv (.t 0)⟩,
  ⟨none, some 18, .len (.t 17)⟩,
  ⟨none, some 19, .bin .lss (.t 16) (.t 18)⟩]
def r116_7 : List SO := [
  ⟨none, some 22, .mv (.t 0)⟩,
  ⟨none, some 23, .mv (.t 6)⟩,
  ⟨none, some 24, .idx 2 (.t 22) (.t 23)⟩,
  ⟨none, some 25, .load true 2 (.t 24)⟩,
  ⟨none, some 7, .alloc 63 [.nilsl, .nilsl]⟩,
  ⟨none, none, .store 2 (.t 7) (.t 25)⟩]
def r116_8 : List SO := [
  ⟨none, some 26, .mv (.t 1)⟩,
  ⟨none, some 27, .load true 2 (.t 7)⟩,
  ⟨none, some 28, .callv false (.t 26) [.t 27]⟩,
  ⟨none, some 29, .un .not (.t 28)⟩]
def r116_9 : List SO := [
  ⟨none, some 30, .mv (.t 0)⟩,
  ⟨none, some 31, .mv (.t 5)⟩,
  ⟨none, some 32, .load true 2 (.t 7)⟩,
  ⟨none, some 33, .idx 2 (.t 30) (.t 31)⟩,
  ⟨none, none, .store 2 (.t 33) (.t 32)⟩]
def r116_10 : List SO := [
  ⟨none, some 34, .mv (.t 5)⟩,
  ⟨none, some 35, .bin .add (.t 34) (.c (.int .i64 1))⟩,
  ⟨none, some 5, .mv (.t 35)⟩]
def r116_6 : List SO := [
  ⟨none, some 20, .mv (.t 6)⟩,
  ⟨none, some 21, .bin .add (.t 20) (.c (.int .i64 1))⟩,
  ⟨none, some 6, .mv (.t 21)⟩]
def b116_0 : SC := .seq (.seq (.reg r116_5) (.cond (.t 19) (.skip) (.exit 0))) (.seq (.block 1 (.seq (.reg r116_7) (.seq (.reg r116_8) (.cond (.t 29) (.seq (.reg r116_9) (.reg r116_10)) (.skip))))) (.reg r116_6))
def r116_11 : List SO := [
  ⟨none, some 36, .mv (.t 0)⟩,
  ⟨none, some 37, .mv (.t 5)⟩,
  ⟨none, some 38, .slice 2 (.t 36) (some (.t 37)) none⟩,
  ⟨none, none, .clr [.nilsl, .nilsl] (.t 38)⟩]
def r116_12 : List SO := [
  ⟨none, some 39, .mv (.t 0)⟩,
  ⟨none, some 40, .mv (.t 5)⟩,
  ⟨none, some 41, .slice 2 (.t 39) none (some (.t 40))⟩,
  ⟨none, some 4, .mv (.t 41)⟩]
def s116 : SF := ⟨42, [.tmp 4], .seq (.reg r116_0) (.seq (.reg r116_1) (.seq (.seq (.reg r116_2) (.cond (.t 12) (.seq (.reg r116_3) (.ret)) (.skip))) (.seq (.seq (.reg r116_4) (.block 0 (.loop b116_0))) (.seq (.reg r116_11) (.seq (.reg r116_12) (.ret))))))⟩
theorem s116_ok : slimF Try.prog ⟨[94, 102, 103, 108, 109, 116, 119, 121, 125], []⟩ Try.f116 = some s116 := by kernel_rfl
end Go.Proofs.Ytngkckefanbhgaa

namespace Go.Proofs.Ytngkckefanbhgaa
open Go Go.Proofs
def r74_0 : List SO := [
  ⟨none, some 4, .mv (.c (.int .i64 0))⟩]
def r74_1 : List SO := [
  ⟨none, some 6, .mv (.t 0)⟩,
  ⟨none, some 7, .len (.t 6)⟩,
  ⟨none, some 8, .mv (.c (.int .i64 0))⟩]
def r74_2 : List SO := [
  ⟨none, some 9, .bin .lss (.t 8) (.t 7)⟩]
def r74_3 : List SO := [
  ⟨none, some 10, .mv (.t 8)⟩,
  ⟨none, some 5, .mv (.t 10)⟩]
def r74_4 : List SO := [
  ⟨none, some 11, .mv (.t 1)⟩,
  ⟨none, some 12, .mv (.t 0)⟩,
  ⟨none, some 13, .mv (.t 5)⟩,
  ⟨none, some 14, .idx 2 (.t 12) (.t 13)⟩,
  ⟨none, some 15, .load true 2 (.t 14)⟩,
  ⟨none, some 16, .callv false (.t 11) [.t 15]⟩]
def r74_5 : List SO := [
  ⟨none, some 17, .mv (.t 5)⟩,
  ⟨none, some 4, .mv (.t 17)⟩]
def r74_6 : List SO := [
  ⟨none, some 18, .bin .add (.t 8) (.c (.int .i64 1))⟩,
  ⟨none, some 8, .mv (.t 18)⟩]
def b74_0 : SC := .seq (.reg r74_2) (.seq (.cond (.t 9) (.skip) (.exit 0)) (.seq (.block 1 (.seq (.reg r74_3) (.seq (.reg r74_4) (.cond (.t 16) (.seq (.reg r74_5) (.ret)) (.skip))))) (.reg r74_6)))
def r74_7 : List SO := [
  ⟨none, some 4, .mv (.c (.int .i64 (-1)))⟩]
def s74 : SF := ⟨19, [.tmp 4], .seq (.reg r74_0) (.seq (.seq (.reg r74_1) (.block 0 (.loop b74_0))) (.seq (.reg r74_7) (.ret)))⟩
theorem s74_ok : slimF Try.prog ⟨[94, 102, 103, 108, 109, 116, 119, 121, 125], []⟩ Try.f74 = some s74 := by kernel_rfl
end Go.Proofs.Ytngkckefanbhgaa

namespace Go.Proofs.Ytngkckefanbhgaa
open Go Go.Proofs
theorem idxt_pure (p : Tr → Bool) (w : List Tr) (g : Nat) (caps : List V) (hca : canonL caps = true) (hpu : pureL caps = true) (hq : ∀ k, k < w.length → PureC Try.prog g (tV (nth w k) :: caps) (.bool (p (nth w k)))) : PureC Try.prog 74 [(V.sl (List.map cT (w))), (V.fn g [] caps)] (iV (fi (fun j => p (nth w j)) 0 w.length)) := by
 refine pure_of_Wb true 6 Try.func74 s74_ok (by kernel_rfl) (by simp [s74]) (by simp [hpu]) (by simp) fun hB => ?_
 simp only [bnd_map, bnd_int, bnd_bool, bnd_str, bnd_agg, bnd_pp, bnd_nil, bnd_cons, implies_true, and_true, true_and] at hB
 unfold s74
 dsimp only
 refine W_seq_regc (fun T H => T 0 = (V.sl (List.map cT (w))) ∧ T 1 = (V.fn g [] caps) ∧ True) ?_ ?_
 ·
  unfold r74_0
  refine R_mv (@rfl V (iV (0 : Int))) ?_
  exact R_nil ⟨rfl, rfl, trivial⟩
 intro T H ⟨t0, t1, _⟩
 refine W_seq_seq ?_
 refine W_seq_regc (fun T H => T 0 = (V.sl (List.map cT (w))) ∧ T 1 = (V.fn g [] caps) ∧ T 7 = (iV ((w.length : Nat) : Int)) ∧ T 8 = (iV (0 : Int)) ∧ True) ?_ ?_
 ·
  unfold r74_1
  refine R_mv t0 ?_
  refine R_len (@rfl V (V.sl (List.map cT (w)))) ?_
  refine R_mv (@rfl V (iV (0 : Int))) ?_
  exact R_nil ⟨t0, t1, rfl, rfl, trivial⟩
 intro T H ⟨t0, t1, t7, t8, _⟩
 refine W_seq_blockg fun Q1 n1 x1 y1 z1 => ?_
 refine W_loop (fun mm T H => ∃ (k : Nat), mm = w.length - k ∧ T 0 = (V.sl (List.map cT (w))) ∧ T 1 = (V.fn g [] caps) ∧ T 7 = (iV ((w.length : Nat) : Int)) ∧ T 8 = (iV ((k : Nat) : Int)) ∧ (k ≤ w.length) ∧ (fi (fun j => p (nth w j)) 0 w.length = fi (fun j => p (nth w j)) k (w.length - k))) ?_ ?_
 ·
  refine ⟨_, 0, rfl, t0, t1, t7, (Eq.trans t8 (by first | rfl | simp)), ?_, ?_⟩
  · omega
  · rfl
 intro mm T H ⟨k, hmm, t0, t1, t7, t8, hk, hc⟩ Q2 p12 p22 p32
 unfold b74_0
 refine W_seq_regc (fun T H => T 0 = (V.sl (List.map cT (w))) ∧ T 1 = (V.fn g [] caps) ∧ T 7 = (iV ((w.length : Nat) : Int)) ∧ T 8 = (iV ((k : Nat) : Int)) ∧ T 9 = (V.bool (decide (((k : Nat) : Int) < ((w.length : Nat) : Int)))) ∧ True) ?_ ?_
 ·
  unfold r74_2
  refine R_lss (x := ((k : Nat) : Int)) (y := ((w.length : Nat) : Int)) t8 t7 ?_
  exact R_nil ⟨t0, t1, t7, t8, rfl, trivial⟩
 intro T H ⟨t0, t1, t7, t8, t9, _⟩
 refine W_seq_if (p := ((k : Nat) : Int) < ((w.length : Nat) : Int)) t9 (fun c3 => ?_) (fun c3 => ?_)
 ·
  refine W_seq_skip ?_
  refine W_seq_blockg fun Q4 n4 x4 y4 z4 => ?_
  refine W_seq_regc (fun T H => T 0 = (V.sl (List.map cT (w))) ∧ T 1 = (V.fn g [] caps) ∧ T 5 = (iV ((k : Nat) : Int)) ∧ T 7 = (iV ((w.length : Nat) : Int)) ∧ T 8 = (iV ((k : Nat) : Int)) ∧ True) ?_ ?_
  ·
   unfold r74_3
   refine R_mv t8 ?_
   refine R_mv (@rfl V (iV ((k : Nat) : Int))) ?_
   exact R_nil ⟨t0, t1, rfl, t7, t8, trivial⟩
  intro T H ⟨t0, t1, t5, t7, t8, _⟩
  refine W_seq_regc (fun T H => T 0 = (V.sl (List.map cT (w))) ∧ T 1 = (V.fn g [] caps) ∧ T 5 = (iV ((k : Nat) : Int)) ∧ T 7 = (iV ((w.length : Nat) : Int)) ∧ T 8 = (iV ((k : Nat) : Int)) ∧ T 16 = (V.bool (p (nth w k))) ∧ True) ?_ ?_
  ·
   unfold r74_4
   refine R_mv t1 ?_
   refine R_mv t0 ?_
   refine R_mv t5 ?_
   refine R_idx (i := k) (@rfl V (V.sl (List.map cT (w)))) (@rfl V (iV ((k : Nat) : Int))) (by omega) rfl ?_
   refine R_load_pp (v := (V.agg [(V.sl (List.map cI ((nth (w) (k)).ni))), (V.sl (List.map cI ((nth (w) (k)).no)))])) (@rfl V (V.pp [(V.sl (List.map cI ((nth (w) (k)).ni))), (V.sl (List.map cI ((nth (w) (k)).no)))])) (by first | rfl | simp [ldV]) ?_
   refine R_callv (@rfl V (V.fn g [] caps)) (evcons (@rfl V (V.agg [(V.sl (List.map cI ((nth (w) (k)).ni))), (V.sl (List.map cI ((nth (w) (k)).no)))])) evnil) (hq k (by omega)) (fzv_mapcanon _ _ (by simp [hca])) (by simp [hpu]) (Or.inl (by simp [hpu])) ?_
   exact R_nil ⟨t0, t1, t5, t7, t8, rfl, trivial⟩
  intro T H ⟨t0, t1, t5, t7, t8, t16, _⟩
  refine W_ifb t16 (fun c5 => ?_) (fun c5 => ?_)
  ·
   have d1 := c5
   refine W_seq_regc (fun T H => T 4 = (iV ((k : Nat) : Int)) ∧ True) ?_ ?_
   ·
    unfold r74_5
    refine R_mv t5 ?_
    refine R_mv (@rfl V (iV ((k : Nat) : Int))) ?_
    exact R_nil ⟨rfl, trivial⟩
   intro T H ⟨t4, _⟩
   refine W_ret ?_
   refine y4 _ _ ?_
   refine p22 _ _ ?_
   refine y1 _ _ ?_
   refine Ret_1 t4 (fz_int ?_)
   · rw [hc, fi_hit (by exact d1) (by omega)]
  have d1 := c5
  refine W_skip ?_
  refine n4 _ _ ?_
  refine .done ?_
  refine W_regc (fun T H => T 0 = (V.sl (List.map cT (w))) ∧ T 1 = (V.fn g [] caps) ∧ T 7 = (iV ((w.length : Nat) : Int)) ∧ T 8 = (iV ((k + 1 : Nat) : Int)) ∧ True) ?_ ?_
  ·
   unfold r74_6
   refine R_addN (m := k) (n := 1) t8 (@rfl V (iV ((1 : Nat) : Int))) (by omega) ?_
   refine R_mv (@rfl V (iV ((k + 1 : Nat) : Int))) ?_
   exact R_nil ⟨t0, t1, t7, rfl, trivial⟩
  intro T H ⟨t0, t1, t7, t8, _⟩
  refine p12 _ _ _ ?_ ⟨(k + 1), rfl, t0, t1, t7, (Eq.trans t8 (by first | rfl | simp)), ?_, ?_⟩
  · omega
  · omega
  · rw [hc, fi_skip (by exact d1) (by omega)]
 refine W_seq_exit ?_
 refine p32 _ _ _ ?_
 refine x1 _ _ ?_
 refine .done ?_
 refine W_seq_regc (fun T H => T 4 = (iV (-1 : Int)) ∧ True) ?_ ?_
 ·
  unfold r74_7
  refine R_mv (@rfl V (iV (-1 : Int))) ?_
  exact R_nil ⟨rfl, trivial⟩
 intro T H ⟨t4, _⟩
 refine W_ret ?_
 refine Ret_1 t4 (fz_int ?_)
 · rw [hc, fi_end (by omega)]
end Go.Proofs.Ytngkckefanbhgaa

namespace Go.Proofs.Ytngkckefanbhgaa
open Go Go.Proofs
def r117_0 : List SO := [
  ⟨none, some 2, .box 63 2 (.t 0)⟩,
  ⟨none, some 3, .mv (.c (.bool false))⟩]
def r117_1 : List SO := [
  ⟨none, some 4, .fld 0 (.t 1)⟩,
  ⟨none, some 5, .load false 1 (.t 4)⟩,
  ⟨none, some 6, .fld 0 (.t 2)⟩,
  ⟨none, some 7, .load false 1 (.t 6)⟩,
  ⟨none, some 8, .call false 76 [.t 5, .t 7]⟩,
  ⟨none, some 3, .mv (.t 8)⟩]
def s117 : SF := ⟨9, [.tmp 3], .seq (.reg r117_0) (.seq (.reg r117_1) (.ret))⟩
theorem s117_ok : slimF Try.prog ⟨[94, 102, 103, 108, 109, 116, 119, 121, 125], []⟩ Try.f117 = some s117 := by kernel_rfl
end Go.Proofs.Ytngkckefanbhgaa

namespace Go.Proofs.Ytngkckefanbhgaa
open Go Go.Proofs
theorem add1_pure (u t : Tr) : PureC Try.prog 117 [(V.agg [(V.sl (List.map cI (u.ni))), (V.sl (List.map cI (u.no)))]), (V.pp [(V.sl (List.map cI (t.ni))), (V.sl (List.map cI (t.no)))])] (V.bool (hp t.ni u.ni)) := by
 refine pure_of_Wb true 6 Try.func117 s117_ok (by kernel_rfl) (by simp [s117]) (by simp) (by simp) fun hB => ?_
 simp only [bnd_map, bnd_int, bnd_bool, bnd_str, bnd_agg, bnd_pp, bnd_nil, bnd_cons, implies_true, and_true, true_and] at hB
 unfold s117
 dsimp only
 refine W_seq_regc (fun T H => T 1 = (V.pp [(V.sl (List.map cI (t.ni))), (V.sl (List.map cI (t.no)))]) ∧ T 2 = (V.mp 2 1 0 0) ∧ H 2 = (⟨1, true, false, 63, 2, [[(V.sl (List.map cI (u.ni))), (V.sl (List.map cI (u.no)))]]⟩ : Blk) ∧ True) ?_ ?_
 ·
  unfold r117_0
  refine R_box (i := 2) (n := 0) (m := 2) (cs := [(V.sl (List.map cI (u.ni))), (V.sl (List.map cI (u.no)))]) rfl (congrArg Blk.ver rfl) (@rfl V (V.agg [(V.sl (List.map cI (u.ni))), (V.sl (List.map cI (u.no)))])) rfl rfl ?_
  refine R_mv (@rfl V (V.bool false)) ?_
  exact R_nil ⟨rfl, rfl, rfl, trivial⟩
 intro T H ⟨t1, t2, h2, _⟩
 refine W_seq_regc (fun T H => T 3 = (V.bool (hp t.ni u.ni)) ∧ H 2 = (⟨1, true, false, 63, 2, [[(V.sl (List.map cI (u.ni))), (V.sl (List.map cI (u.no)))]]⟩ : Blk) ∧ True) ?_ ?_
 ·
  unfold r117_1
  refine R_fld_pp (cs' := [(V.sl (List.map cI (t.ni))), (V.sl (List.map cI (t.no)))]) t1 rfl ?_
  refine R_load_pp (v := (V.sl (List.map cI (t.ni)))) (@rfl V (V.pp [(V.sl (List.map cI (t.ni))), (V.sl (List.map cI (t.no)))])) (by first | rfl | simp [ldV]) ?_
  refine R_fld_mp (o' := 0) t2 h2 (by first | rfl | simp [okB, Blk.own]) rfl ?_
  refine R_load_mp (v := (V.sl (List.map cI (u.ni)))) (@rfl V (V.mp 2 1 0 0)) h2 (by first | rfl | simp [ldB, ldV, Blk.own, V.one]) ?_
  refine R_call (evcons (@rfl V (V.sl (List.map cI (t.ni)))) (evcons (@rfl V (V.sl (List.map cI (u.ni)))) evnil)) (hp_pure t.ni u.ni) (fzv_mapcanon _ _ (by simp [-List.map_take, -List.map_drop, -List.map_append, -List.map_reverse])) (by simp [-List.map_take, -List.map_drop, -List.map_append, -List.map_reverse]) (Or.inl (by simp [-List.map_take, -List.map_drop, -List.map_append, -List.map_reverse])) ?_
  refine R_mv (@rfl V (V.bool (hp t.ni u.ni))) ?_
  exact R_nil ⟨rfl, h2, trivial⟩
 intro T H ⟨t3, h2, _⟩
 refine W_ret ?_
 refine Ret_1 t3 (fz_canon (by simp) rfl)
end Go.Proofs.Ytngkckefanbhgaa

namespace Go.Proofs.Ytngkckefanbhgaa
open Go Go.Proofs
theorem del_E (l : List Tr) (t : Tr) (v9 v3 v7 : Nat) (Hi : Heap) (h209 : Hi 209 = (⟨v9, true, false, 63, 2, (List.map cT (l))⟩ : Blk)) (h303 : Hi 303 = (⟨v3, true, false, 63, 2, [[(V.sl (List.map cI (t.ni))), (V.sl (List.map cI (t.no)))]]⟩ : Blk)) (h407 : (Hi 407).ver = v7) (hl : l.length ≤ 1000000) : CallOK Try.prog 116 [(V.ms 209 v9 0 (l.length)), (V.fn 117 [] [(V.mp 303 v3 0 0)])] Hi (V.ms 209 v9 0 (((l.filter (kp t)).length))) (upd (upd Hi 407 (⟨v7 + l.length, false, false, 0, 0, []⟩ : Blk)) 209 (⟨v9, true, false, 63, 2, (List.map cT (l.filter (kp t)) ++ List.replicate (l.length - (l.filter (kp t)).length) [V.nilsl, V.nilsl])⟩ : Blk)) := by
 refine CallOK_of_Wf (k0 := 400) Try.func116 s116_ok (by kernel_rfl) (by simp [s116]) fun hB => ?_
 simp only [bnd_map, bnd_int, bnd_bool, bnd_str, bnd_agg, bnd_pp, bnd_nil, bnd_cons, implies_true, and_true, true_and] at hB
 unfold s116
 dsimp only
 refine W_seq_regc (fun T H => T 0 = (V.ms 209 v9 0 (l.length)) ∧ T 1 = (V.fn 117 [] [(V.mp 303 v3 0 0)]) ∧ (∀ j, j ∉ [407, 209] → H j = Hi j) ∧ H 209 = (⟨v9, true, false, 63, 2, (List.map cT (l))⟩ : Blk) ∧ H 303 = (⟨v3, true, false, 63, 2, [[(V.sl (List.map cI (t.ni))), (V.sl (List.map cI (t.no)))]]⟩ : Blk) ∧ (H 407).ver = v7 ∧ True) ?_ ?_
 ·
  unfold r116_0
  refine R_mv (@rfl V V.nilsl) ?_
  exact R_nil ⟨rfl, rfl, (fun _ _ => rfl), h209, h303, h407, trivial⟩
 intro T H ⟨t0, t1, hF, h209, h303, h407, _⟩
 refine W_seq_regc (fun T H => T 0 = (V.ms 209 v9 0 (l.length)) ∧ T 1 = (V.fn 117 [] [(V.mp 303 v3 0 0)]) ∧ T 5 = (iV (fi (fun j => (fun u : Tr => hp t.ni u.ni) (nth l j)) 0 l.length)) ∧ (∀ j, j ∉ [407, 209] → H j = Hi j) ∧ H 209 = (⟨v9, true, false, 63, 2, (List.map cT (l))⟩ : Blk) ∧ H 303 = (⟨v3, true, false, 63, 2, [[(V.sl (List.map cI (t.ni))), (V.sl (List.map cI (t.no)))]]⟩ : Blk) ∧ (H 407).ver = v7 ∧ True) ?_ ?_
 ·
  unfold r116_1
  refine R_mv t0 ?_
  refine R_mv t1 ?_
  refine R_call (evcons (@rfl V (V.ms 209 v9 0 (l.length))) (evcons (@rfl V (V.fn 117 [] [(V.mp 303 v3 0 0)])) evnil)) (idxt_pure (fun u : Tr => hp t.ni u.ni) l 117 ([(V.pp [(V.sl (List.map cI (t.ni))), (V.sl (List.map cI (t.no)))])]) (by simp) (by simp) (fun j _ => add1_pure (nth l j) t)) (mcons (fz_mst h209 (by first | rfl | simp) (take_map (l := l) (by first | rfl | simp | omega)) (fun _ => by simp)) (mcons (by simp [fzv, Blk.own, h209, h303]) rfl)) (by simp [-List.map_take, -List.map_drop, -List.map_append, -List.map_reverse]) (Or.inr rfl) ?_
  refine R_mv (@rfl V (iV (fi (fun j => (fun u : Tr => hp t.ni u.ni) (nth l j)) 0 l.length))) ?_
  exact R_nil ⟨t0, t1, rfl, hF, h209, h303, h407, trivial⟩
 intro T H ⟨t0, t1, t5, hF, h209, h303, h407, _⟩
 refine W_seq_seq ?_
 refine W_seq_regc (fun T H => T 0 = (V.ms 209 v9 0 (l.length)) ∧ T 1 = (V.fn 117 [] [(V.mp 303 v3 0 0)]) ∧ T 5 = (iV (fi (fun j => (fun u : Tr => hp t.ni u.ni) (nth l j)) 0 l.length)) ∧ T 12 = (V.bool (decide ((fi (fun j => (fun u : Tr => hp t.ni u.ni) (nth l j)) 0 l.length) = (-1 : Int)))) ∧ (∀ j, j ∉ [407, 209] → H j = Hi j) ∧ H 209 = (⟨v9, true, false, 63, 2, (List.map cT (l))⟩ : Blk) ∧ H 303 = (⟨v3, true, false, 63, 2, [[(V.sl (List.map cI (t.ni))), (V.sl (List.map cI (t.no)))]]⟩ : Blk) ∧ (H 407).ver = v7 ∧ True) ?_ ?_
 ·
  unfold r116_2
  refine R_mv t5 ?_
  refine R_eql (x := (fi (fun j => (fun u : Tr => hp t.ni u.ni) (nth l j)) 0 l.length)) (y := (-1 : Int)) (@rfl V (iV (fi (fun j => (fun u : Tr => hp t.ni u.ni) (nth l j)) 0 l.length))) (@rfl V (iV (-1 : Int))) ?_
  exact R_nil ⟨t0, t1, t5, rfl, hF, h209, h303, h407, trivial⟩
 intro T H ⟨t0, t1, t5, t12, hF, h209, h303, h407, _⟩
 refine W_seq_if (p := (fi (fun j => (fun u : Tr => hp t.ni u.ni) (nth l j)) 0 l.length) = (-1 : Int)) t12 (fun c1 => ?_) (fun c1 => ?_)
 ·
  have d0 : fi (fun j => (fun u : Tr => hp t.ni u.ni) (nth l j)) 0 l.length < 0 := by omega
  refine W_seq_seq ?_
  refine W_seq_regc (fun T H => T 4 = (V.ms 209 v9 0 (l.length)) ∧ (∀ j, j ∉ [407, 209] → H j = Hi j) ∧ H 209 = (⟨v9, true, false, 63, 2, (List.map cT (l))⟩ : Blk) ∧ H 303 = (⟨v3, true, false, 63, 2, [[(V.sl (List.map cI (t.ni))), (V.sl (List.map cI (t.no)))]]⟩ : Blk) ∧ (H 407).ver = v7 ∧ True) ?_ ?_
  ·
   unfold r116_3
   refine R_mv t0 ?_
   refine R_mv (@rfl V (V.ms 209 v9 0 (l.length))) ?_
   exact R_nil ⟨rfl, hF, h209, h303, h407, trivial⟩
  intro T H ⟨t4, hF, h209, h303, h407, _⟩
  refine W_seq_ret ?_
  have fh := FinX.fin (FinX.put (B := (⟨v9, true, false, 63, 2, (List.map cT (l.filter (kp t)) ++ List.replicate (l.length - (l.filter (kp t)).length) [V.nilsl, V.nilsl])⟩ : Blk)) (FinX.putv (n := v7) (B := (⟨v7 + l.length, false, false, 0, 0, []⟩ : Blk)) (FinX.start hF) h407 (by show _ ≤ v7 + l.length; omega) rfl) h209 (FinB.eq (by first | rfl | (rw [d4]; done) | (rw [Nat.zero_add, dlL_nth, dlL_keep (by omega) d5]; done) | (rw [dlL_skip (by omega) d5]; done) | (rw [dl_none d0]; simp; done) | (have e : k = l.length := (by omega); subst e; unfold dlL dlF; rw [List.take_length, List.take_left]; done))))
  exact RetF_1 t4 fh (FinV.trans_eq (FinV.same fh _) (by first | rfl | (rw [d3]; exact congrArg (V.int .i64) (by first | rfl | omega)) | (exact congrArg (V.int .i64) (by omega)) | (rw [dlF_keep (by omega) d5, List.length_append]; rfl) | (rw [dlF_skip (by omega) d5]; done) | (rw [dl_none d0]; done) | (have e : k = l.length := (by omega); subst e; unfold dlF; rw [List.take_length]; done)))
 obtain ⟨i0, d1, d2, d3, d4⟩ := dl_start (t := t) (l := l) (by have := fi_bnd (p := fun j => (fun u : Tr => hp t.ni u.ni) (nth l j)) l.length 0; omega)
 refine W_seq_skip ?_
 refine W_seq_seq ?_
 refine W_seq_regc (fun T H => T 0 = (V.ms 209 v9 0 (l.length)) ∧ T 1 = (V.fn 117 [] [(V.mp 303 v3 0 0)]) ∧ T 5 = (iV (fi (fun j => (fun u : Tr => hp t.ni u.ni) (nth l j)) 0 l.length)) ∧ T 6 = (iV ((fi (fun j => (fun u : Tr => hp t.ni u.ni) (nth l j)) 0 l.length) + (1 : Int))) ∧ (∀ j, j ∉ [407, 209] → H j = Hi j) ∧ H 209 = (⟨v9, true, false, 63, 2, (List.map cT (l))⟩ : Blk) ∧ H 303 = (⟨v3, true, false, 63, 2, [[(V.sl (List.map cI (t.ni))), (V.sl (List.map cI (t.no)))]]⟩ : Blk) ∧ (H 407).ver = v7 ∧ True) ?_ ?_
 ·
  unfold r116_4
  refine R_mv t5 ?_
  refine R_add (x := (fi (fun j => (fun u : Tr => hp t.ni u.ni) (nth l j)) 0 l.length)) (y := (1 : Int)) (@rfl V (iV (fi (fun j => (fun u : Tr => hp t.ni u.ni) (nth l j)) 0 l.length))) (@rfl V (iV (1 : Int))) (by omega) (by omega) ?_
  refine R_mv (@rfl V (iV ((fi (fun j => (fun u : Tr => hp t.ni u.ni) (nth l j)) 0 l.length) + (1 : Int)))) ?_
  exact R_nil ⟨t0, t1, t5, rfl, hF, h209, h303, h407, trivial⟩
 intro T H ⟨t0, t1, t5, t6, hF, h209, h303, h407, _⟩
 refine W_seq_blockg fun Q2 n2 x2 y2 z2 => ?_
 refine W_loop (fun mm T H => ∃ (k : Nat) (v407 : Nat), mm = l.length - k ∧ T 0 = (V.ms 209 v9 0 (l.length)) ∧ T 1 = (V.fn 117 [] [(V.mp 303 v3 0 0)]) ∧ T 5 = (iV (((dlF t l k).length : Nat) : Int)) ∧ T 6 = (iV ((k : Nat) : Int)) ∧ (∀ j, j ∉ [407, 209] → H j = Hi j) ∧ H 209 = (⟨v9, true, false, 63, 2, (List.map cT (dlL t l k))⟩ : Blk) ∧ H 303 = (⟨v3, true, false, 63, 2, [[(V.sl (List.map cI (t.ni))), (V.sl (List.map cI (t.no)))]]⟩ : Blk) ∧ (H 407).ver = v407 ∧ (k ≤ l.length) ∧ ((dlF t l k).length < k) ∧ (v407 ≤ v7 + k)) ?_ ?_
 ·
  refine ⟨_, i0 + 1, v7, rfl, t0, t1, (Eq.trans t5 (by first | rfl | (rw [d3]; exact congrArg (V.int .i64) (by first | rfl | omega)) | (exact congrArg (V.int .i64) (by omega)) | (rw [dlF_keep (by omega) d5, List.length_append]; rfl) | (rw [dlF_skip (by omega) d5]; done) | (rw [dl_none d0]; done) | (have e : k = l.length := (by omega); subst e; unfold dlF; rw [List.take_length]; done))), (Eq.trans t6 (by first | rfl | (rw [d3]; exact congrArg (V.int .i64) (by first | rfl | omega)) | (exact congrArg (V.int .i64) (by omega)) | (rw [dlF_keep (by omega) d5, List.length_append]; rfl) | (rw [dlF_skip (by omega) d5]; done) | (rw [dl_none d0]; done) | (have e : k = l.length := (by omega); subst e; unfold dlF; rw [List.take_length]; done))), hF, (Eq.trans h209 (by first | rfl | (rw [d4]; done) | (rw [Nat.zero_add, dlL_nth, dlL_keep (by omega) d5]; done) | (rw [dlL_skip (by omega) d5]; done) | (rw [dl_none d0]; simp; done) | (have e : k = l.length := (by omega); subst e; unfold dlL dlF; rw [List.take_length, List.take_left]; done))), h303, h407, ?_, ?_, ?_⟩
  · omega
  · omega
  · omega
 intro mm T H ⟨k, v407, hmm, t0, t1, t5, t6, hF, h209, h303, h407, hk, hlt, hv⟩ Q3 p13 p23 p33
 unfold b116_0
 have q1 := dlL_len t l k
 refine W_seq_seq ?_
 refine W_seq_regc (fun T H => T 0 = (V.ms 209 v9 0 (l.length)) ∧ T 1 = (V.fn 117 [] [(V.mp 303 v3 0 0)]) ∧ T 5 = (iV (((dlF t l k).length : Nat) : Int)) ∧ T 6 = (iV ((k : Nat) : Int)) ∧ T 19 = (V.bool (decide (((k : Nat) : Int) < ((l.length : Nat) : Int)))) ∧ (∀ j, j ∉ [407, 209] → H j = Hi j) ∧ H 209 = (⟨v9, true, false, 63, 2, (List.map cT (dlL t l k))⟩ : Blk) ∧ H 303 = (⟨v3, true, false, 63, 2, [[(V.sl (List.map cI (t.ni))), (V.sl (List.map cI (t.no)))]]⟩ : Blk) ∧ (H 407).ver = v407 ∧ True) ?_ ?_
 ·
  unfold r116_5
  refine R_mv t6 ?_
  refine R_mv t0 ?_
  refine R_len_ms (@rfl V (V.ms 209 v9 0 (l.length))) h209 (by first | rfl | simp) ?_
  refine R_lss (x := ((k : Nat) : Int)) (y := ((l.length : Nat) : Int)) (@rfl V (iV ((k : Nat) : Int))) (@rfl V (iV ((l.length : Nat) : Int))) ?_
  exact R_nil ⟨t0, t1, t5, t6, rfl, hF, h209, h303, h407, trivial⟩
 intro T H ⟨t0, t1, t5, t6, t19, hF, h209, h303, h407, _⟩
 refine W_seq_if (p := ((k : Nat) : Int) < ((l.length : Nat) : Int)) t19 (fun c4 => ?_) (fun c4 => ?_)
 ·
  refine W_seq_skip ?_
  refine W_seq_blockg fun Q5 n5 x5 y5 z5 => ?_
  refine W_seq_regc (fun T H => T 0 = (V.ms 209 v9 0 (l.length)) ∧ T 1 = (V.fn 117 [] [(V.mp 303 v3 0 0)]) ∧ T 5 = (iV (((dlF t l k).length : Nat) : Int)) ∧ T 6 = (iV ((k : Nat) : Int)) ∧ T 7 = (V.mp 407 (v407 + 1) 0 0) ∧ (∀ j, j ∉ [407, 209] → H j = Hi j) ∧ H 209 = (⟨v9, true, false, 63, 2, (List.map cT (dlL t l k))⟩ : Blk) ∧ H 303 = (⟨v3, true, false, 63, 2, [[(V.sl (List.map cI (t.ni))), (V.sl (List.map cI (t.no)))]]⟩ : Blk) ∧ H 407 = (⟨v407 + 1, true, false, 63, 2, [[(V.sl (List.map cI ((nth (dlL t l k) (0 + (k))).ni))), (V.sl (List.map cI ((nth (dlL t l k) (0 + (k))).no)))]]⟩ : Blk) ∧ True) ?_ ?_
  ·
   unfold r116_7
   refine R_mv t0 ?_
   refine R_mv t6 ?_
   refine R_idx_ms (i := k) (@rfl V (V.ms 209 v9 0 (l.length))) (@rfl V (iV ((k : Nat) : Int))) h209 (okB_map (by omega)) rfl (by omega) ?_
   refine R_load_mp (v := (V.agg [(V.sl (List.map cI ((nth (dlL t l k) (0 + (k))).ni))), (V.sl (List.map cI ((nth (dlL t l k) (0 + (k))).no)))])) (@rfl V (V.mp 209 v9 (0 + (k)) 0)) h209 (ldB_map (by omega) (by first | rfl | simp [ldV, V.one])) ?_
   refine R_alloc (i := 407) (n := v407) (m := 2) (by rfl) h407 rfl ?_
   refine R_store (vs := [(V.sl (List.map cI ((nth (dlL t l k) (0 + (k))).ni))), (V.sl (List.map cI ((nth (dlL t l k) (0 + (k))).no)))]) (B' := (⟨v407 + 1, true, false, 63, 2, [[(V.sl (List.map cI ((nth (dlL t l k) (0 + (k))).ni))), (V.sl (List.map cI ((nth (dlL t l k) (0 + (k))).no)))]]⟩ : Blk)) (@rfl V (V.mp 407 (v407 + 1) 0 0)) (@rfl V (V.agg [(V.sl (List.map cI ((nth (dlL t l k) (0 + (k))).ni))), (V.sl (List.map cI ((nth (dlL t l k) (0 + (k))).no)))])) rfl (@rfl Blk (⟨v407 + 1, true, false, 63, 2, [[V.nilsl, V.nilsl]]⟩ : Blk)) (by first | rfl | simp [stB, okB, Blk.own, putAt, V.one]) ?_
   exact R_nil ⟨t0, t1, t5, t6, rfl, (upd_out (upd_out hF (by decide)) (by decide)), h209, h303, rfl, trivial⟩
  intro T H ⟨t0, t1, t5, t6, t7, hF, h209, h303, h407, _⟩
  refine W_seq_regc (fun T H => T 0 = (V.ms 209 v9 0 (l.length)) ∧ T 1 = (V.fn 117 [] [(V.mp 303 v3 0 0)]) ∧ T 5 = (iV (((dlF t l k).length : Nat) : Int)) ∧ T 6 = (iV ((k : Nat) : Int)) ∧ T 7 = (V.mp 407 (v407 + 1) 0 0) ∧ T 29 = (V.bool ((!hp t.ni ((nth (dlL t l k) (0 + (k)))).ni))) ∧ (∀ j, j ∉ [407, 209] → H j = Hi j) ∧ H 209 = (⟨v9, true, false, 63, 2, (List.map cT (dlL t l k))⟩ : Blk) ∧ H 303 = (⟨v3, true, false, 63, 2, [[(V.sl (List.map cI (t.ni))), (V.sl (List.map cI (t.no)))]]⟩ : Blk) ∧ H 407 = (⟨v407 + 1, true, false, 63, 2, [[(V.sl (List.map cI ((nth (dlL t l k) (0 + (k))).ni))), (V.sl (List.map cI ((nth (dlL t l k) (0 + (k))).no)))]]⟩ : Blk) ∧ True) ?_ ?_
  ·
   unfold r116_8
   refine R_mv t1 ?_
   refine R_load_mp (v := (V.agg [(V.sl (List.map cI ((nth (dlL t l k) (0 + (k))).ni))), (V.sl (List.map cI ((nth (dlL t l k) (0 + (k))).no)))])) t7 h407 (by first | rfl | simp [ldB, ldV, Blk.own, V.one]) ?_
   refine R_callv (@rfl V (V.fn 117 [] [(V.mp 303 v3 0 0)])) (evcons (@rfl V (V.agg [(V.sl (List.map cI ((nth (dlL t l k) (0 + (k))).ni))), (V.sl (List.map cI ((nth (dlL t l k) (0 + (k))).no)))])) evnil) (add1_pure ((nth (dlL t l k) (0 + (k)))) t) (mcons (fzv_canon 6 _ (by simp [-List.map_take, -List.map_drop, -List.map_append, -List.map_reverse])) (mcons (by simp [fzv, Blk.own, h209, h303, h407]) rfl)) (by simp [-List.map_take, -List.map_drop, -List.map_append, -List.map_reverse]) (Or.inr rfl) ?_
   refine R_notb (@rfl V (V.bool (hp t.ni ((nth (dlL t l k) (0 + (k)))).ni))) ?_
   exact R_nil ⟨t0, t1, t5, t6, t7, rfl, hF, h209, h303, h407, trivial⟩
  intro T H ⟨t0, t1, t5, t6, t7, t29, hF, h209, h303, h407, _⟩
  refine W_ifb t29 (fun c6 => ?_) (fun c6 => ?_)
  ·
   have d5 : kp t (nth l k) = true := by unfold kp; rw [Nat.zero_add, dlL_nth] at c6; simpa using c6
   refine W_seq_regc (fun T H => T 0 = (V.ms 209 v9 0 (l.length)) ∧ T 1 = (V.fn 117 [] [(V.mp 303 v3 0 0)]) ∧ T 5 = (iV (((dlF t l k).length : Nat) : Int)) ∧ T 6 = (iV ((k : Nat) : Int)) ∧ (∀ j, j ∉ [407, 209] → H j = Hi j) ∧ H 209 = (⟨v9, true, false, 63, 2, (List.map cT ((dlL t l k).set (((dlF t l k).length)) ((nth (dlL t l k) (0 + (k))))))⟩ : Blk) ∧ H 303 = (⟨v3, true, false, 63, 2, [[(V.sl (List.map cI (t.ni))), (V.sl (List.map cI (t.no)))]]⟩ : Blk) ∧ H 407 = (⟨v407 + 1, true, false, 63, 2, [[(V.sl (List.map cI ((nth (dlL t l k) (0 + (k))).ni))), (V.sl (List.map cI ((nth (dlL t l k) (0 + (k))).no)))]]⟩ : Blk) ∧ True) ?_ ?_
   ·
    unfold r116_9
    refine R_mv t0 ?_
    refine R_mv t5 ?_
    refine R_load_mp (v := (V.agg [(V.sl (List.map cI ((nth (dlL t l k) (0 + (k))).ni))), (V.sl (List.map cI ((nth (dlL t l k) (0 + (k))).no)))])) t7 h407 (by first | rfl | simp [ldB, ldV, Blk.own, V.one]) ?_
    refine R_idx_ms (i := ((dlF t l k).length)) (@rfl V (V.ms 209 v9 0 (l.length))) (@rfl V (iV (((dlF t l k).length : Nat) : Int))) h209 (okB_map (by omega)) rfl (by omega) ?_
    refine R_store (vs := [(V.sl (List.map cI ((nth (dlL t l k) (0 + (k))).ni))), (V.sl (List.map cI ((nth (dlL t l k) (0 + (k))).no)))]) (B' := (⟨v9, true, false, 63, 2, (List.map cT ((dlL t l k).set (((dlF t l k).length)) ((nth (dlL t l k) (0 + (k))))))⟩ : Blk)) (Eq.trans (@rfl V (V.mp 209 v9 (0 + ((dlF t l k).length)) 0)) (congrArg (fun n => V.mp 209 v9 n 0) (Nat.zero_add _))) (@rfl V (V.agg [(V.sl (List.map cI ((nth (dlL t l k) (0 + (k))).ni))), (V.sl (List.map cI ((nth (dlL t l k) (0 + (k))).no)))])) rfl h209 (stB_map (x := (nth (dlL t l k) (0 + (k)))) (i := ((dlF t l k).length)) (by omega) rfl rfl rfl rfl) ?_
    exact R_nil ⟨t0, t1, t5, t6, (upd_out hF (by decide)), rfl, h303, h407, trivial⟩
   intro T H ⟨t0, t1, t5, t6, hF, h209, h303, h407, _⟩
   refine W_regc (fun T H => T 0 = (V.ms 209 v9 0 (l.length)) ∧ T 1 = (V.fn 117 [] [(V.mp 303 v3 0 0)]) ∧ T 5 = (iV ((((dlF t l k).length) + 1 : Nat) : Int)) ∧ T 6 = (iV ((k : Nat) : Int)) ∧ (∀ j, j ∉ [407, 209] → H j = Hi j) ∧ H 209 = (⟨v9, true, false, 63, 2, (List.map cT ((dlL t l k).set (((dlF t l k).length)) ((nth (dlL t l k) (0 + (k))))))⟩ : Blk) ∧ H 303 = (⟨v3, true, false, 63, 2, [[(V.sl (List.map cI (t.ni))), (V.sl (List.map cI (t.no)))]]⟩ : Blk) ∧ H 407 = (⟨v407 + 1, true, false, 63, 2, [[(V.sl (List.map cI ((nth (dlL t l k) (0 + (k))).ni))), (V.sl (List.map cI ((nth (dlL t l k) (0 + (k))).no)))]]⟩ : Blk) ∧ True) ?_ ?_
   ·
    unfold r116_10
    refine R_mv t5 ?_
    refine R_addN (m := ((dlF t l k).length)) (n := 1) (@rfl V (iV (((dlF t l k).length : Nat) : Int))) (@rfl V (iV ((1 : Nat) : Int))) (by omega) ?_
    refine R_mv (@rfl V (iV ((((dlF t l k).length) + 1 : Nat) : Int))) ?_
    exact R_nil ⟨t0, t1, rfl, t6, hF, h209, h303, h407, trivial⟩
   intro T H ⟨t0, t1, t5, t6, hF, h209, h303, h407, _⟩
   refine n5 _ _ ?_
   refine .done ?_
   refine W_regc (fun T H => T 0 = (V.ms 209 v9 0 (l.length)) ∧ T 1 = (V.fn 117 [] [(V.mp 303 v3 0 0)]) ∧ T 5 = (iV ((((dlF t l k).length) + 1 : Nat) : Int)) ∧ T 6 = (iV ((k + 1 : Nat) : Int)) ∧ (∀ j, j ∉ [407, 209] → H j = Hi j) ∧ H 209 = (⟨v9, true, false, 63, 2, (List.map cT ((dlL t l k).set (((dlF t l k).length)) ((nth (dlL t l k) (0 + (k))))))⟩ : Blk) ∧ H 303 = (⟨v3, true, false, 63, 2, [[(V.sl (List.map cI (t.ni))), (V.sl (List.map cI (t.no)))]]⟩ : Blk) ∧ H 407 = (⟨v407 + 1, true, false, 63, 2, [[(V.sl (List.map cI ((nth (dlL t l k) (0 + (k))).ni))), (V.sl (List.map cI ((nth (dlL t l k) (0 + (k))).no)))]]⟩ : Blk) ∧ True) ?_ ?_
   ·
    unfold r116_6
    refine R_mv t6 ?_
    refine R_addN (m := k) (n := 1) (@rfl V (iV ((k : Nat) : Int))) (@rfl V (iV ((1 : Nat) : Int))) (by omega) ?_
    refine R_mv (@rfl V (iV ((k + 1 : Nat) : Int))) ?_
    exact R_nil ⟨t0, t1, t5, rfl, hF, h209, h303, h407, trivial⟩
   intro T H ⟨t0, t1, t5, t6, hF, h209, h303, h407, _⟩
   refine p13 _ _ _ ?_ ⟨k + 1, (v407 + 1), rfl, t0, t1, (Eq.trans t5 (by first | rfl | (rw [d3]; exact congrArg (V.int .i64) (by first | rfl | omega)) | (exact congrArg (V.int .i64) (by omega)) | (rw [dlF_keep (by omega) d5, List.length_append]; rfl) | (rw [dlF_skip (by omega) d5]; done) | (rw [dl_none d0]; done) | (have e : k = l.length := (by omega); subst e; unfold dlF; rw [List.take_length]; done))), (Eq.trans t6 (by first | rfl | (rw [d3]; exact congrArg (V.int .i64) (by first | rfl | omega)) | (exact congrArg (V.int .i64) (by omega)) | (rw [dlF_keep (by omega) d5, List.length_append]; rfl) | (rw [dlF_skip (by omega) d5]; done) | (rw [dl_none d0]; done) | (have e : k = l.length := (by omega); subst e; unfold dlF; rw [List.take_length]; done))), hF, (Eq.trans h209 (by first | rfl | (rw [d4]; done) | (rw [Nat.zero_add, dlL_nth, dlL_keep (by omega) d5]; done) | (rw [dlL_skip (by omega) d5]; done) | (rw [dl_none d0]; simp; done) | (have e : k = l.length := (by omega); subst e; unfold dlL dlF; rw [List.take_length, List.take_left]; done))), h303, (congrArg Blk.ver h407), ?_, ?_, ?_⟩
   · omega
   · omega
   · first | (rw [dlF_keep (by omega) d5, List.length_append]; simp; omega) | (rw [dlF_skip (by omega) d5]; omega)
   · omega
  have d5 : ¬kp t (nth l k) = true := by unfold kp; rw [Nat.zero_add, dlL_nth] at c6; simpa using c6
  refine W_skip ?_
  refine n5 _ _ ?_
  refine .done ?_
  refine W_regc (fun T H => T 0 = (V.ms 209 v9 0 (l.length)) ∧ T 1 = (V.fn 117 [] [(V.mp 303 v3 0 0)]) ∧ T 5 = (iV (((dlF t l k).length : Nat) : Int)) ∧ T 6 = (iV ((k + 1 : Nat) : Int)) ∧ (∀ j, j ∉ [407, 209] → H j = Hi j) ∧ H 209 = (⟨v9, true, false, 63, 2, (List.map cT (dlL t l k))⟩ : Blk) ∧ H 303 = (⟨v3, true, false, 63, 2, [[(V.sl (List.map cI (t.ni))), (V.sl (List.map cI (t.no)))]]⟩ : Blk) ∧ H 407 = (⟨v407 + 1, true, false, 63, 2, [[(V.sl (List.map cI ((nth (dlL t l k) (0 + (k))).ni))), (V.sl (List.map cI ((nth (dlL t l k) (0 + (k))).no)))]]⟩ : Blk) ∧ True) ?_ ?_
  ·
   unfold r116_6
   refine R_mv t6 ?_
   refine R_addN (m := k) (n := 1) (@rfl V (iV ((k : Nat) : Int))) (@rfl V (iV ((1 : Nat) : Int))) (by omega) ?_
   refine R_mv (@rfl V (iV ((k + 1 : Nat) : Int))) ?_
   exact R_nil ⟨t0, t1, t5, rfl, hF, h209, h303, h407, trivial⟩
  intro T H ⟨t0, t1, t5, t6, hF, h209, h303, h407, _⟩
  refine p13 _ _ _ ?_ ⟨k + 1, (v407 + 1), rfl, t0, t1, (Eq.trans t5 (by first | rfl | (rw [d3]; exact congrArg (V.int .i64) (by first | rfl | omega)) | (exact congrArg (V.int .i64) (by omega)) | (rw [dlF_keep (by omega) d5, List.length_append]; rfl) | (rw [dlF_skip (by omega) d5]; done) | (rw [dl_none d0]; done) | (have e : k = l.length := (by omega); subst e; unfold dlF; rw [List.take_length]; done))), (Eq.trans t6 (by first | rfl | (rw [d3]; exact congrArg (V.int .i64) (by first | rfl | omega)) | (exact congrArg (V.int .i64) (by omega)) | (rw [dlF_keep (by omega) d5, List.length_append]; rfl) | (rw [dlF_skip (by omega) d5]; done) | (rw [dl_none d0]; done) | (have e : k = l.length := (by omega); subst e; unfold dlF; rw [List.take_length]; done))), hF, (Eq.trans h209 (by first | rfl | (rw [d4]; done) | (rw [Nat.zero_add, dlL_nth, dlL_keep (by omega) d5]; done) | (rw [dlL_skip (by omega) d5]; done) | (rw [dl_none d0]; simp; done) | (have e : k = l.length := (by omega); subst e; unfold dlL dlF; rw [List.take_length, List.take_left]; done))), h303, (congrArg Blk.ver h407), ?_, ?_, ?_⟩
  · omega
  · omega
  · first | (rw [dlF_keep (by omega) d5, List.length_append]; simp; omega) | (rw [dlF_skip (by omega) d5]; omega)
  · omega
 refine W_seq_exit ?_
 refine p33 _ _ _ ?_
 refine x2 _ _ ?_
 refine .done ?_
 refine W_seq_regc (fun T H => T 0 = (V.ms 209 v9 0 (l.length)) ∧ T 5 = (iV (((dlF t l k).length : Nat) : Int)) ∧ (∀ j, j ∉ [407, 209] → H j = Hi j) ∧ H 209 = (⟨v9, true, false, 63, 2, (List.map cT (List.take (((dlF t l k).length)) (dlL t l k)) ++ List.replicate (l.length - ((dlF t l k).length)) [V.nilsl, V.nilsl])⟩ : Blk) ∧ H 303 = (⟨v3, true, false, 63, 2, [[(V.sl (List.map cI (t.ni))), (V.sl (List.map cI (t.no)))]]⟩ : Blk) ∧ (H 407).ver = v407 ∧ True) ?_ ?_
 ·
  unfold r116_11
  refine R_mv t0 ?_
  refine R_mv t5 ?_
  refine R_slice_ms_lo (n := ((dlF t l k).length)) (@rfl V (V.ms 209 v9 0 (l.length))) (@rfl V (iV (((dlF t l k).length : Nat) : Int))) h209 (okB_map (by omega)) rfl (by omega) ?_
  refine R_clr (m := (((dlF t l k).length))) (n := (l.length - ((dlF t l k).length))) (f := cT) (l := (dlL t l k)) (Eq.trans (@rfl V (V.ms 209 v9 (0 + ((dlF t l k).length)) (l.length - ((dlF t l k).length)))) (congrArg (fun n => V.ms 209 v9 n (l.length - ((dlF t l k).length))) (Nat.zero_add _))) h209 rfl (by decide) rfl (by omega) (by omega) ?_
  exact R_nil ⟨t0, t5, (upd_out hF (by decide)), rfl, h303, h407, trivial⟩
 intro T H ⟨t0, t5, hF, h209, h303, h407, _⟩
 refine W_seq_regc (fun T H => T 4 = (V.ms 209 v9 0 ((dlF t l k).length)) ∧ (∀ j, j ∉ [407, 209] → H j = Hi j) ∧ H 209 = (⟨v9, true, false, 63, 2, (List.map cT (List.take (((dlF t l k).length)) (dlL t l k)) ++ List.replicate (l.length - ((dlF t l k).length)) [V.nilsl, V.nilsl])⟩ : Blk) ∧ H 303 = (⟨v3, true, false, 63, 2, [[(V.sl (List.map cI (t.ni))), (V.sl (List.map cI (t.no)))]]⟩ : Blk) ∧ (H 407).ver = v407 ∧ True) ?_ ?_
 ·
  unfold r116_12
  refine R_mv t0 ?_
  refine R_mv t5 ?_
  refine R_slice_ms_hi (n := ((dlF t l k).length)) (@rfl V (V.ms 209 v9 0 (l.length))) (@rfl V (iV (((dlF t l k).length : Nat) : Int))) h209 (by first | rfl | simp [okB, Blk.own]) rfl (by omega) ?_
  refine R_mv (@rfl V (V.ms 209 v9 0 ((dlF t l k).length))) ?_
  exact R_nil ⟨rfl, hF, h209, h303, h407, trivial⟩
 intro T H ⟨t4, hF, h209, h303, h407, _⟩
 refine W_ret ?_
 have fh := FinX.fin (FinX.put (B := (⟨v9, true, false, 63, 2, (List.map cT (l.filter (kp t)) ++ List.replicate (l.length - (l.filter (kp t)).length) [V.nilsl, V.nilsl])⟩ : Blk)) (FinX.putv (n := v407) (B := (⟨v7 + l.length, false, false, 0, 0, []⟩ : Blk)) (FinX.start hF) h407 (by show _ ≤ v7 + l.length; omega) rfl) h209 (FinB.eq (by first | rfl | (rw [d4]; done) | (rw [Nat.zero_add, dlL_nth, dlL_keep (by omega) d5]; done) | (rw [dlL_skip (by omega) d5]; done) | (rw [dl_none d0]; simp; done) | (have e : k = l.length := (by omega); subst e; unfold dlL dlF; rw [List.take_length, List.take_left]; done))))
 exact RetF_1 t4 fh (FinV.trans_eq (FinV.same fh _) (by first | rfl | (rw [d3]; exact congrArg (V.int .i64) (by first | rfl | omega)) | (exact congrArg (V.int .i64) (by omega)) | (rw [dlF_keep (by omega) d5, List.length_append]; rfl) | (rw [dlF_skip (by omega) d5]; done) | (rw [dl_none d0]; done) | (have e : k = l.length := (by omega); subst e; unfold dlF; rw [List.take_length]; done)))
end Go.Proofs.Ytngkckefanbhgaa

namespace Go.Proofs.Ytngkckefanbhgaa
open Go Go.Proofs
def r118_0 : List SO := [
  ⟨none, some 4, .box 63 2 (.t 1)⟩,
  ⟨none, some 6, .mv (.c (.int .i64 0))⟩,
  ⟨none, some 7, .mv (.c (.bool false))⟩]
def r118_1 : List SO := [
  ⟨none, some 12, .mv (.t 0)⟩,
  ⟨none, some 13, .len (.t 12)⟩,
  ⟨none, some 8, .mv (.t 13)⟩]
def r118_2 : List SO := [
  ⟨none, some 14, .mv (.t 8)⟩,
  ⟨none, some 9, .mv (.c (.int .i64 0))⟩,
  ⟨none, some 10, .mv (.t 14)⟩]
def r118_3 : List SO := [
  ⟨none, some 15, .mv (.t 9)⟩,
  ⟨none, some 16, .mv (.t 10)⟩,
  ⟨none, some 17, .bin .lss (.t 15) (.t 16)⟩]
def r118_4 : List SO := [
  ⟨none, some 18, .mv (.t 9)⟩,
  ⟨none, some 19, .mv (.t 10)⟩,
  ⟨none, some 20, .bin .add (.t 18) (.t 19)⟩,
  ⟨none, some 21, .conv .u64 (.t 20)⟩,
  ⟨none, some 22, .bin .shr (.t 21) (.c (.int .u64 1))⟩,
  ⟨none, some 23, .conv .i64 (.t 22)⟩,
  ⟨none, some 11, .mv (.t 23)⟩]
def r118_5 : List SO := [
  ⟨none, some 24, .mv (.t 2)⟩,
  ⟨none, some 25, .mv (.t 0)⟩,
  ⟨none, some 26, .mv (.t 11)⟩,
  ⟨none, some 27, .idx 2 (.t 25) (.t 26)⟩,
  ⟨none, some 28, .load true 2 (.t 27)⟩,
  ⟨none, some 29, .load true 2 (.t 4)⟩,
  ⟨none, some 30, .callv false (.t 24) [.t 28, .t 29]⟩,
  ⟨none, some 31, .bin .lss (.t 30) (.c (.int .i64 0))⟩]
def r118_6 : List SO := [
  ⟨none, some 32, .mv (.t 11)⟩,
  ⟨none, some 33, .bin .add (.t 32) (.c (.int .i64 1))⟩,
  ⟨none, some 9, .mv (.t 33)⟩]
def r118_7 : List SO := [
  ⟨none, some 34, .mv (.t 11)⟩,
  ⟨none, some 10, .mv (.t 34)⟩]
def b118_0 : SC := .seq (.seq (.reg r118_3) (.cond (.t 17) (.skip) (.exit 0))) (.block 1 (.seq (.reg r118_4) (.seq (.reg r118_5) (.cond (.t 31) (.reg r118_6) (.reg r118_7)))))
def r118_8 : List SO := [
  ⟨none, some 35, .mv (.t 9)⟩,
  ⟨none, some 36, .mv (.t 9)⟩,
  ⟨none, some 37, .mv (.t 8)⟩,
  ⟨none, some 38, .bin .lss (.t 36) (.t 37)⟩,
  ⟨none, some 39, .mv (.t 38)⟩,
  ⟨some (39, true), some 40, .mv (.t 2)⟩,
  ⟨some (39, true), some 41, .mv (.t 0)⟩,
  ⟨some (39, true), some 42, .mv (.t 9)⟩,
  ⟨some (39, true), some 43, .idx 2 (.t 41) (.t 42)⟩,
  ⟨some (39, true), some 44, .load true 2 (.t 43)⟩,
  ⟨some (39, true), some 45, .load true 2 (.t 4)⟩,
  ⟨some (39, true), some 46, .callv false (.t 40) [.t 44, .t 45]⟩,
  ⟨some (39, true), some 47, .bin .eql (.t 46) (.c (.int .i64 0))⟩,
  ⟨none, some 48, .pick (.t 39) (.t 47) (.c (.bool false))⟩,
  ⟨none, some 6, .mv (.t 35)⟩,
  ⟨none, some 7, .mv (.t 48)⟩]
def s118 : SF := ⟨49, [.tmp 6, .tmp 7], .seq (.reg r118_0) (.seq (.reg r118_1) (.seq (.reg r118_2) (.seq (.block 0 (.loop b118_0)) (.seq (.reg r118_8) (.ret)))))⟩
theorem s118_ok : slimF Try.prog ⟨[94, 102, 103, 108, 109, 116, 119, 121, 125], []⟩ Try.f118 = some s118 := by kernel_rfl
end Go.Proofs.Ytngkckefanbhgaa

namespace Go.Proofs.Ytngkckefanbhgaa
open Go Go.Proofs
theorem bs_pure (l : List Tr) (t : Tr) (hs : Srt l) (hl : l.length ≤ 1000000) : PureC Try.prog 118 [(V.sl (List.map cT (l))), (V.agg [(V.sl (List.map cI (t.ni))), (V.sl (List.map cI (t.no)))]), (V.fn 79 [] [])] (V.tup [(iV ((lbN l t : Nat) : Int)), (V.bool (decide (lbN l t < l.length ∧ slx (nth l (lbN l t)).ni t.ni = 0)))]) := by
 refine pure_of_Wb true 6 Try.func118 s118_ok (by kernel_rfl) (by simp [s118]) (by simp) (by simp) fun hB => ?_
 simp only [bnd_map, bnd_int, bnd_bool, bnd_str, bnd_agg, bnd_pp, bnd_nil, bnd_cons, implies_true, and_true, true_and] at hB
 unfold s118
 dsimp only
 have q0 := lb_le (t := t) l
 refine W_seq_regc (fun T H => T 0 = (V.sl (List.map cT (l))) ∧ T 2 = (V.fn 79 [] []) ∧ T 4 = (V.mp 4 1 0 0) ∧ H 4 = (⟨1, true, false, 63, 2, [[(V.sl (List.map cI (t.ni))), (V.sl (List.map cI (t.no)))]]⟩ : Blk) ∧ True) ?_ ?_
 ·
  unfold r118_0
  refine R_box (i := 4) (n := 0) (m := 2) (cs := [(V.sl (List.map cI (t.ni))), (V.sl (List.map cI (t.no)))]) rfl (congrArg Blk.ver rfl) (@rfl V (V.agg [(V.sl (List.map cI (t.ni))), (V.sl (List.map cI (t.no)))])) rfl rfl ?_
  refine R_mv (@rfl V (iV (0 : Int))) ?_
  refine R_mv (@rfl V (V.bool false)) ?_
  exact R_nil ⟨rfl, rfl, rfl, rfl, trivial⟩
 intro T H ⟨t0, t2, t4, h4, _⟩
 refine W_seq_regc (fun T H => T 0 = (V.sl (List.map cT (l))) ∧ T 2 = (V.fn 79 [] []) ∧ T 4 = (V.mp 4 1 0 0) ∧ T 8 = (iV ((l.length : Nat) : Int)) ∧ H 4 = (⟨1, true, false, 63, 2, [[(V.sl (List.map cI (t.ni))), (V.sl (List.map cI (t.no)))]]⟩ : Blk) ∧ True) ?_ ?_
 ·
  unfold r118_1
  refine R_mv t0 ?_
  refine R_len (@rfl V (V.sl (List.map cT (l)))) ?_
  refine R_mv (@rfl V (iV ((l.length : Nat) : Int))) ?_
  exact R_nil ⟨t0, t2, t4, rfl, h4, trivial⟩
 intro T H ⟨t0, t2, t4, t8, h4, _⟩
 refine W_seq_regc (fun T H => T 0 = (V.sl (List.map cT (l))) ∧ T 2 = (V.fn 79 [] []) ∧ T 4 = (V.mp 4 1 0 0) ∧ T 8 = (iV ((l.length : Nat) : Int)) ∧ T 9 = (iV (0 : Int)) ∧ T 10 = (iV ((l.length : Nat) : Int)) ∧ H 4 = (⟨1, true, false, 63, 2, [[(V.sl (List.map cI (t.ni))), (V.sl (List.map cI (t.no)))]]⟩ : Blk) ∧ True) ?_ ?_
 ·
  unfold r118_2
  refine R_mv t8 ?_
  refine R_mv (@rfl V (iV (0 : Int))) ?_
  refine R_mv (@rfl V (iV ((l.length : Nat) : Int))) ?_
  exact R_nil ⟨t0, t2, t4, t8, rfl, rfl, h4, trivial⟩
 intro T H ⟨t0, t2, t4, t8, t9, t10, h4, _⟩
 refine W_seq_blockg fun Q1 n1 x1 y1 z1 => ?_
 refine W_loop (fun mm T H => ∃ (i : Nat) (j : Nat), mm = j - i ∧ T 0 = (V.sl (List.map cT (l))) ∧ T 2 = (V.fn 79 [] []) ∧ T 4 = (V.mp 4 1 0 0) ∧ T 8 = (iV ((l.length : Nat) : Int)) ∧ T 9 = (iV ((i : Nat) : Int)) ∧ T 10 = (iV ((j : Nat) : Int)) ∧ H 4 = (⟨1, true, false, 63, 2, [[(V.sl (List.map cI (t.ni))), (V.sl (List.map cI (t.no)))]]⟩ : Blk) ∧ (i ≤ lbN l t) ∧ (lbN l t ≤ j) ∧ (j ≤ l.length)) ?_ ?_
 ·
  refine ⟨_, 0, l.length, rfl, t0, t2, t4, t8, (Eq.trans t9 (by first | rfl | simp)), t10, h4, ?_, ?_, ?_⟩
  · omega
  · omega
  · omega
 intro mm T H ⟨i, j, hmm, t0, t2, t4, t8, t9, t10, h4, h1, h2, h3⟩ Q2 p12 p22 p32
 unfold b118_0
 refine W_seq_seq ?_
 refine W_seq_regc (fun T H => T 0 = (V.sl (List.map cT (l))) ∧ T 2 = (V.fn 79 [] []) ∧ T 4 = (V.mp 4 1 0 0) ∧ T 8 = (iV ((l.length : Nat) : Int)) ∧ T 9 = (iV ((i : Nat) : Int)) ∧ T 10 = (iV ((j : Nat) : Int)) ∧ T 17 = (V.bool (decide (((i : Nat) : Int) < ((j : Nat) : Int)))) ∧ H 4 = (⟨1, true, false, 63, 2, [[(V.sl (List.map cI (t.ni))), (V.sl (List.map cI (t.no)))]]⟩ : Blk) ∧ True) ?_ ?_
 ·
  unfold r118_3
  refine R_mv t9 ?_
  refine R_mv t10 ?_
  refine R_lss (x := ((i : Nat) : Int)) (y := ((j : Nat) : Int)) (@rfl V (iV ((i : Nat) : Int))) (@rfl V (iV ((j : Nat) : Int))) ?_
  exact R_nil ⟨t0, t2, t4, t8, t9, t10, rfl, h4, trivial⟩
 intro T H ⟨t0, t2, t4, t8, t9, t10, t17, h4, _⟩
 refine W_seq_if (p := ((i : Nat) : Int) < ((j : Nat) : Int)) t17 (fun c3 => ?_) (fun c3 => ?_)
 ·
  refine W_seq_skip ?_
  refine W_block fun Q4 n4 x4 y4 z4 => ?_
  refine W_seq_regc (fun T H => T 0 = (V.sl (List.map cT (l))) ∧ T 2 = (V.fn 79 [] []) ∧ T 4 = (V.mp 4 1 0 0) ∧ T 8 = (iV ((l.length : Nat) : Int)) ∧ T 9 = (iV ((i : Nat) : Int)) ∧ T 10 = (iV ((j : Nat) : Int)) ∧ T 11 = (iV (((i + j) / 2 : Nat) : Int)) ∧ H 4 = (⟨1, true, false, 63, 2, [[(V.sl (List.map cI (t.ni))), (V.sl (List.map cI (t.no)))]]⟩ : Blk) ∧ True) ?_ ?_
  ·
   unfold r118_4
   refine R_mv t9 ?_
   refine R_mv t10 ?_
   refine R_addN (m := i) (n := j) (@rfl V (iV ((i : Nat) : Int))) (@rfl V (iV ((j : Nat) : Int))) (by omega) ?_
   refine R_convU (n := (i + j)) (@rfl V (iV ((i + j : Nat) : Int))) (by omega) ?_
   refine R_shr1 (n := (i + j)) (@rfl V (V.int .u64 (((i + j : Nat) : Int)))) (@rfl V (V.int .u64 (1))) ?_
   refine R_convI (n := ((i + j) / 2)) (@rfl V (V.int .u64 ((((i + j) / 2 : Nat) : Int)))) (by omega) ?_
   refine R_mv (@rfl V (iV (((i + j) / 2 : Nat) : Int))) ?_
   exact R_nil ⟨t0, t2, t4, t8, t9, t10, rfl, h4, trivial⟩
  intro T H ⟨t0, t2, t4, t8, t9, t10, t11, h4, _⟩
  refine W_seq_regc (fun T H => T 0 = (V.sl (List.map cT (l))) ∧ T 2 = (V.fn 79 [] []) ∧ T 4 = (V.mp 4 1 0 0) ∧ T 8 = (iV ((l.length : Nat) : Int)) ∧ T 9 = (iV ((i : Nat) : Int)) ∧ T 10 = (iV ((j : Nat) : Int)) ∧ T 11 = (iV (((i + j) / 2 : Nat) : Int)) ∧ T 31 = (V.bool (decide ((slx ((nth (l) ((i + j) / 2))).ni t.ni) < (0 : Int)))) ∧ H 4 = (⟨1, true, false, 63, 2, [[(V.sl (List.map cI (t.ni))), (V.sl (List.map cI (t.no)))]]⟩ : Blk) ∧ True) ?_ ?_
  ·
   unfold r118_5
   refine R_mv t2 ?_
   refine R_mv t0 ?_
   refine R_mv t11 ?_
   refine R_idx (i := ((i + j) / 2)) (@rfl V (V.sl (List.map cT (l)))) (@rfl V (iV (((i + j) / 2 : Nat) : Int))) (by omega) rfl ?_
   refine R_load_pp (v := (V.agg [(V.sl (List.map cI ((nth (l) ((i + j) / 2)).ni))), (V.sl (List.map cI ((nth (l) ((i + j) / 2)).no)))])) (@rfl V (V.pp [(V.sl (List.map cI ((nth (l) ((i + j) / 2)).ni))), (V.sl (List.map cI ((nth (l) ((i + j) / 2)).no)))])) (by first | rfl | simp [ldV]) ?_
   refine R_load_mp (v := (V.agg [(V.sl (List.map cI (t.ni))), (V.sl (List.map cI (t.no)))])) t4 h4 (by first | rfl | simp [ldB, ldV, Blk.own, V.one]) ?_
   refine R_callv (@rfl V (V.fn 79 [] [])) (evcons (@rfl V (V.agg [(V.sl (List.map cI ((nth (l) ((i + j) / 2)).ni))), (V.sl (List.map cI ((nth (l) ((i + j) / 2)).no)))])) (evcons (@rfl V (V.agg [(V.sl (List.map cI (t.ni))), (V.sl (List.map cI (t.no)))])) evnil)) (order_pure ((nth (l) ((i + j) / 2))) t) (fzv_mapcanon _ _ (by simp [-List.map_take, -List.map_drop, -List.map_append, -List.map_reverse])) (by simp [-List.map_take, -List.map_drop, -List.map_append, -List.map_reverse]) (Or.inl (by simp [-List.map_take, -List.map_drop, -List.map_append, -List.map_reverse])) ?_
   refine R_lss (x := (slx ((nth (l) ((i + j) / 2))).ni t.ni)) (y := (0 : Int)) (@rfl V (iV (slx ((nth (l) ((i + j) / 2))).ni t.ni))) (@rfl V (iV (0 : Int))) ?_
   exact R_nil ⟨t0, t2, t4, t8, t9, t10, t11, rfl, h4, trivial⟩
  intro T H ⟨t0, t2, t4, t8, t9, t10, t11, t31, h4, _⟩
  refine W_if (p := (slx ((nth (l) ((i + j) / 2))).ni t.ni) < (0 : Int)) t31 (fun c5 => ?_) (fun c5 => ?_)
  ·
   have d1 := (lb_iff hs (by omega)).1 c5
   refine W_regc (fun T H => T 0 = (V.sl (List.map cT (l))) ∧ T 2 = (V.fn 79 [] []) ∧ T 4 = (V.mp 4 1 0 0) ∧ T 8 = (iV ((l.length : Nat) : Int)) ∧ T 9 = (iV ((((i + j) / 2) + 1 : Nat) : Int)) ∧ T 10 = (iV ((j : Nat) : Int)) ∧ H 4 = (⟨1, true, false, 63, 2, [[(V.sl (List.map cI (t.ni))), (V.sl (List.map cI (t.no)))]]⟩ : Blk) ∧ True) ?_ ?_
   ·
    unfold r118_6
    refine R_mv t11 ?_
    refine R_addN (m := ((i + j) / 2)) (n := 1) (@rfl V (iV (((i + j) / 2 : Nat) : Int))) (@rfl V (iV ((1 : Nat) : Int))) (by omega) ?_
    refine R_mv (@rfl V (iV ((((i + j) / 2) + 1 : Nat) : Int))) ?_
    exact R_nil ⟨t0, t2, t4, t8, rfl, t10, h4, trivial⟩
   intro T H ⟨t0, t2, t4, t8, t9, t10, h4, _⟩
   refine n4 _ _ ?_
   refine p12 _ _ _ ?_ ⟨(((i + j) / 2) + 1), j, rfl, t0, t2, t4, t8, (Eq.trans t9 (by first | rfl | simp)), t10, h4, ?_, ?_, ?_⟩
   · omega
   · omega
   · omega
   · omega
  have d1 : ¬((i + j) / 2 < lbN l t) := fun e => c5 ((lb_iff hs (by omega)).2 e)
  refine W_regc (fun T H => T 0 = (V.sl (List.map cT (l))) ∧ T 2 = (V.fn 79 [] []) ∧ T 4 = (V.mp 4 1 0 0) ∧ T 8 = (iV ((l.length : Nat) : Int)) ∧ T 9 = (iV ((i : Nat) : Int)) ∧ T 10 = (iV (((i + j) / 2 : Nat) : Int)) ∧ H 4 = (⟨1, true, false, 63, 2, [[(V.sl (List.map cI (t.ni))), (V.sl (List.map cI (t.no)))]]⟩ : Blk) ∧ True) ?_ ?_
  ·
   unfold r118_7
   refine R_mv t11 ?_
   refine R_mv (@rfl V (iV (((i + j) / 2 : Nat) : Int))) ?_
   exact R_nil ⟨t0, t2, t4, t8, t9, rfl, h4, trivial⟩
  intro T H ⟨t0, t2, t4, t8, t9, t10, h4, _⟩
  refine n4 _ _ ?_
  refine p12 _ _ _ ?_ ⟨i, ((i + j) / 2), rfl, t0, t2, t4, t8, t9, (Eq.trans t10 (by first | rfl | simp)), h4, ?_, ?_, ?_⟩
  · omega
  · omega
  · omega
  · omega
 refine W_seq_exit ?_
 refine p32 _ _ _ ?_
 refine x1 _ _ ?_
 refine .done ?_
 refine W_seq_regc (fun T H => T 6 = (iV ((i : Nat) : Int)) ∧ T 7 = (V.bool (decide ((((i : Nat) : Int) < ((l.length : Nat) : Int)) ∧ ((slx ((nth (l) (i))).ni t.ni) = (0 : Int))))) ∧ H 4 = (⟨1, true, false, 63, 2, [[(V.sl (List.map cI (t.ni))), (V.sl (List.map cI (t.no)))]]⟩ : Blk) ∧ True) ?_ ?_
 ·
  unfold r118_8
  refine R_mv t9 ?_
  refine R_mv t9 ?_
  refine R_mv t8 ?_
  refine R_lss (x := ((i : Nat) : Int)) (y := ((l.length : Nat) : Int)) (@rfl V (iV ((i : Nat) : Int))) (@rfl V (iV ((l.length : Nat) : Int))) ?_
  refine R_mv (@rfl V (V.bool (decide (((i : Nat) : Int) < ((l.length : Nat) : Int))))) ?_
  refine Ops_seg 9 (fun T H => T 35 = (iV ((i : Nat) : Int)) ∧ T 48 = (V.bool (decide ((((i : Nat) : Int) < ((l.length : Nat) : Int)) ∧ ((slx ((nth (l) (i))).ni t.ni) = (0 : Int))))) ∧ H 4 = (⟨1, true, false, 63, 2, [[(V.sl (List.map cI (t.ni))), (V.sl (List.map cI (t.no)))]]⟩ : Blk) ∧ True) ?_ ?_
  ·
   by_cases g6 : ((i : Nat) : Int) < ((l.length : Nat) : Int)
   ·
    refine G_yes (Eq.trans (@rfl V (V.bool (decide (((i : Nat) : Int) < ((l.length : Nat) : Int))))) (bdT g6)) ?_
    refine R_mv t2 ?_
    refine G_yes (Eq.trans (@rfl V (V.bool (decide (((i : Nat) : Int) < ((l.length : Nat) : Int))))) (bdT g6)) ?_
    refine R_mv t0 ?_
    refine G_yes (Eq.trans (@rfl V (V.bool (decide (((i : Nat) : Int) < ((l.length : Nat) : Int))))) (bdT g6)) ?_
    refine R_mv t9 ?_
    refine G_yes (Eq.trans (@rfl V (V.bool (decide (((i : Nat) : Int) < ((l.length : Nat) : Int))))) (bdT g6)) ?_
    refine R_idx (i := i) (@rfl V (V.sl (List.map cT (l)))) (@rfl V (iV ((i : Nat) : Int))) (by omega) rfl ?_
    refine G_yes (Eq.trans (@rfl V (V.bool (decide (((i : Nat) : Int) < ((l.length : Nat) : Int))))) (bdT g6)) ?_
    refine R_load_pp (v := (V.agg [(V.sl (List.map cI ((nth (l) (i)).ni))), (V.sl (List.map cI ((nth (l) (i)).no)))])) (@rfl V (V.pp [(V.sl (List.map cI ((nth (l) (i)).ni))), (V.sl (List.map cI ((nth (l) (i)).no)))])) (by first | rfl | simp [ldV]) ?_
    refine G_yes (Eq.trans (@rfl V (V.bool (decide (((i : Nat) : Int) < ((l.length : Nat) : Int))))) (bdT g6)) ?_
    refine R_load_mp (v := (V.agg [(V.sl (List.map cI (t.ni))), (V.sl (List.map cI (t.no)))])) t4 h4 (by first | rfl | simp [ldB, ldV, Blk.own, V.one]) ?_
    refine G_yes (Eq.trans (@rfl V (V.bool (decide (((i : Nat) : Int) < ((l.length : Nat) : Int))))) (bdT g6)) ?_
    refine R_callv (@rfl V (V.fn 79 [] [])) (evcons (@rfl V (V.agg [(V.sl (List.map cI ((nth (l) (i)).ni))), (V.sl (List.map cI ((nth (l) (i)).no)))])) (evcons (@rfl V (V.agg [(V.sl (List.map cI (t.ni))), (V.sl (List.map cI (t.no)))])) evnil)) (order_pure ((nth (l) (i))) t) (fzv_mapcanon _ _ (by simp [-List.map_take, -List.map_drop, -List.map_append, -List.map_reverse])) (by simp [-List.map_take, -List.map_drop, -List.map_append, -List.map_reverse]) (Or.inl (by simp [-List.map_take, -List.map_drop, -List.map_append, -List.map_reverse])) ?_
    refine G_yes (Eq.trans (@rfl V (V.bool (decide (((i : Nat) : Int) < ((l.length : Nat) : Int))))) (bdT g6)) ?_
    refine R_eql (x := (slx ((nth (l) (i))).ni t.ni)) (y := (0 : Int)) (@rfl V (iV (slx ((nth (l) (i))).ni t.ni))) (@rfl V (iV (0 : Int))) ?_
    refine R_pickT (Eq.trans (@rfl V (V.bool (decide (((i : Nat) : Int) < ((l.length : Nat) : Int))))) (bdT g6)) (@rfl V (V.bool (decide ((slx ((nth (l) (i))).ni t.ni) = (0 : Int))))) ?_
    exact ⟨rfl, (Eq.trans (@rfl V (V.bool (decide ((slx ((nth (l) (i))).ni t.ni) = (0 : Int))))) (dec_andT g6)), h4, trivial⟩
   ·
    refine G_no (Eq.trans (@rfl V (V.bool (decide (((i : Nat) : Int) < ((l.length : Nat) : Int))))) (bdF g6)) (by decide) ?_
    refine G_no (Eq.trans (@rfl V (V.bool (decide (((i : Nat) : Int) < ((l.length : Nat) : Int))))) (bdF g6)) (by decide) ?_
    refine G_no (Eq.trans (@rfl V (V.bool (decide (((i : Nat) : Int) < ((l.length : Nat) : Int))))) (bdF g6)) (by decide) ?_
    refine G_no (Eq.trans (@rfl V (V.bool (decide (((i : Nat) : Int) < ((l.length : Nat) : Int))))) (bdF g6)) (by decide) ?_
    refine G_no (Eq.trans (@rfl V (V.bool (decide (((i : Nat) : Int) < ((l.length : Nat) : Int))))) (bdF g6)) (by decide) ?_
    refine G_no (Eq.trans (@rfl V (V.bool (decide (((i : Nat) : Int) < ((l.length : Nat) : Int))))) (bdF g6)) (by decide) ?_
    refine G_no (Eq.trans (@rfl V (V.bool (decide (((i : Nat) : Int) < ((l.length : Nat) : Int))))) (bdF g6)) (by decide) ?_
    refine G_no (Eq.trans (@rfl V (V.bool (decide (((i : Nat) : Int) < ((l.length : Nat) : Int))))) (bdF g6)) (by decide) ?_
    refine R_pickF (Eq.trans (@rfl V (V.bool (decide (((i : Nat) : Int) < ((l.length : Nat) : Int))))) (bdF g6)) (@rfl V (V.bool false)) ?_
    exact ⟨rfl, (Eq.trans (@rfl V (V.bool false)) (dec_andF g6)), h4, trivial⟩
  intro T H ⟨t35, t48, h4, _⟩
  refine R_mv t35 ?_
  refine R_mv t48 ?_
  exact R_nil ⟨rfl, rfl, h4, trivial⟩
 intro T H ⟨t6, t7, h4, _⟩
 refine W_ret ?_
 refine Ret_2 t6 t7 (fz_int ?_) (fz_bool ?_)
 · have e : i = lbN l t := by omega
   rw [e]
 · have e : i = lbN l t := by omega
   rw [e]; exact decide_eq_decide.2 (by omega)
end Go.Proofs.Ytngkckefanbhgaa

namespace Go.Proofs.Ytngkckefanbhgaa
open Go Go.Proofs Go.Shelf Go.RowKit Go.Lib
structure InsLay (P : Program) (ρ : Ren) (n1 : String) (k bytes : Nat) (z : Value) : Prop where
  mixed : P.follows .mixedOrders = true
  f22 : P.funcs[ρ.f 22]? = some { Body2.n22 ρ with name := n1 }
  ov : ∀ args w, (callFunc (ρ.f 29) args).run P w = ((Extern.SlicesOverlaps.overlaps #[(ρ.t 24), (ρ.t 24)] #[(ρ.t 4)] args).run P w).andThen fun v w' => .ok (.value v) w'
  t0 : P.underlying (ρ.t 0) = some (TypeDesc.tuple #[])
  a0 : ∀ w, (isAgg (ρ.t 0)).run P w = .ok false w
  z0 : ∀ w, (Go.sizeOf (ρ.t 0)).run P w = .ok 1 w
  v0 : ∀ w, (zeroValue (ρ.t 0)).run P w = .ok (Value.tuple #[]) w
  t3 : P.underlying (ρ.t 3) = some (TypeDesc.int IntKind.i64)
  a3 : ∀ w, (isAgg (ρ.t 3)).run P w = .ok false w
  z3 : ∀ w, (Go.sizeOf (ρ.t 3)).run P w = .ok 1 w
  v3 : ∀ w, (zeroValue (ρ.t 3)).run P w = .ok (Value.int IntKind.i64 0) w
  t4 : P.underlying (ρ.t 4) = some (TypeDesc.bool)
  a4 : ∀ w, (isAgg (ρ.t 4)).run P w = .ok false w
  z4 : ∀ w, (Go.sizeOf (ρ.t 4)).run P w = .ok 1 w
  v4 : ∀ w, (zeroValue (ρ.t 4)).run P w = .ok (Value.bool false) w
  z9 : ∀ w, (Go.sizeOf (ρ.t 9)).run P w = .ok k w
  t24 : P.underlying (ρ.t 24) = some (TypeDesc.slice (ρ.t 9))
  a24 : ∀ w, (isAgg (ρ.t 24)).run P w = .ok false w
  z24 : ∀ w, (Go.sizeOf (ρ.t 24)).run P w = .ok 1 w
  v24 : ∀ w, (zeroValue (ρ.t 24)).run P w = .ok (Value.slice none 0 0) w
  i9 : (P.info? (ρ.t 9)).map (fun i => (i.zero, i.size, i.bytes)) = some (some z, k, bytes)
  hk : 0 < k
  hz : z.cells.size = k
variable {P : Program} {ρ : Ren} {n1 : String} {k bytes : Nat} {z : Value}
theorem run_copy_rowk (w : World) (dT sT ty elem : TypeId) (g o dLen dCap : Nat) (a : Addr) (sLen sCap : Nat) (cur : Array Value) (t : TypeId) (cs : List Value) (k : Nat)
    (hu : P.underlying dT = some (.slice elem)) (hs : (P.info? elem).map (·.size) = some k)
    (hg : w.heap[g]? = some (.cells cur t (0, 0))) (hn : cs.length = Nat.min sLen dLen * k)
    (hsrc : ∀ j v, cs[j]? = some v → w.cell? (a.add j) = some v) (hfit : o + cs.length ≤ cur.size) (h1 : ∀ v ∈ cs, v.oneCell' = true) :
    (Builtin.copy_ #[dT, sT] ty #[.slice (some ⟨g, o, none⟩) dLen dCap, .slice (some a) sLen sCap]).run P w =
      .ok (goInt (Nat.min sLen dLen)) (w.setRow g (cur.toList.take o ++ cs ++ cur.toList.drop (o + cs.length)).toArray) := by
  have hl := run_loadCells_list (P := P) w a cs hsrc
  have hst := run_storeCells_at P g o t cs 0 cur w hg (by simpa using hfit) h1
  cases hq : P.info? elem with
  | none => simp [hq] at hs
  | some i =>
    have hi : i.size = k := by simpa [hq] using hs
    simp [Builtin.copy_, run_underlying hu, Builtin.lenOf, Builtin.firstCells, sizeOf, typeInfo, hq, hi, ← hn, hl, hst]
def put (cc : Array Value) (o : Nat) (cs : List Value) : Array Value := (cc.toList.take o ++ cs ++ cc.toList.drop (o + cs.length)).toArray
set_option maxHeartbeats 4000000 in
set_option maxRecDepth 100000 in
theorem ins_shift (L : InsLay P ρ n1 k bytes z) (b n c i vb vc : Nat) (cc cv : Array Value) (tb tv : TypeId) (w : World) (hi : i < n) (hroom : n + 1 ≤ c) (hc63 : c ≤ 9223372036854775807) (hvb : vb ≠ b)
    (hb : w.heap[b]? = some (.cells cc tb (0, 0))) (hv : w.heap[vb]? = some (.cells cv tv (0, 0))) (hcc : c * k = cc.size) (hcv : k ≤ cv.size) (vs : List Value) (hvs : vs = cv.toList.take k)
    (h1c : ∀ v ∈ cc.toList.take (n * k), v.oneCell' = true) (h1v : ∀ v ∈ vs, v.oneCell' = true) :
    Calls P (ρ.f 22) #[.slice (some ⟨b, 0, none⟩) n c, .int .i64 i, .slice (some ⟨vb, 0, none⟩) 1 vc] w fun e w' =>
      e = .returned (.slice (some ⟨b, 0, none⟩) (n + 1) c) ∧ w' = w.drew.setRow b (put (put cc ((i + 1) * k) ((cc.toList.take (n * k)).drop (i * k))) (i * k) vs) := by
  have hk := L.hk
  have hvl : vs.length = k := by rw [hvs, List.length_take, Array.length_toList]; omega
  have t0 := L.t0; have a0 := L.a0; have z0 := L.z0; have v0 := L.v0; have t3 := L.t3; have a3 := L.a3; have z3 := L.z3; have v3 := L.v3; have t4 := L.t4; have a4 := L.a4; have z4 := L.z4; have v4 := L.v4; have z9 := L.z9; have t24 := L.t24; have a24 := L.a24; have z24 := L.z24; have v24 := L.v24
  have u0 := run_underlying L.t0; have u3 := run_underlying L.t3; have u4 := run_underlying L.t4; have u24 := run_underlying L.t24
  have hz2 : ¬ ((i : Int) = (n : Int)) := by omega
  have hsz : (P.info? (ρ.t 9)).map (·.size) = some k := by
    obtain ⟨i0, hi0, h0, h1, h2⟩ := info_parts L.i9
    rw [hi0]; simp [h1]
  have hov : ∀ lb cb, (callFunc (ρ.f 29) #[.slice (some ⟨vb, 0, none⟩) 1 vc, .slice (some ⟨b, (i + 1) * k, none⟩) lb cb]).run P w = .ok (.value (.bool false)) w := fun lb cb => by
    rw [L.ov,
      Lib.run_overlaps_apart w (ρ.t 24) (ρ.t 4) (ρ.t 9) L.t24 k L.z9 ⟨vb, 0, none⟩ ⟨b, (i + 1) * k, none⟩ 1 vc lb cb hvb tv tb cv.size cc.size (by simp [World.shape?, hv]) (by simp [World.shape?, hb]) (by rw [← hcc]; have : 0 < c * k := Nat.mul_pos (by omega) hk; omega) (by simp [World.frozen?, hv]) (by simp [World.frozen?, hv])]
    rfl
  have mixed := L.mixed
  have hw1 : IntKind.i64.wrap ((i : Int) + 1) = (i : Int) + 1 := by rw [IntKind.wrap_i64]; omega
  have hb1 : (0 : Int) ≤ (i : Int) + 1 := by omega
  have hin : i ≤ n := by omega
  have htn : ((i : Int) + 1).toNat = i + 1 := by omega
  have hb2 : ¬ (c = i + 1) := by omega
  have hb3 : (i : Int) ≤ (n : Int) + 1 := by omega
  have hb4 : ¬ (c = i) := by omega
  have hnk : n * k ≤ cc.size := by rw [← hcc]; exact Nat.mul_le_mul_right k (by omega)
  have hn1k : (n + 1) * k ≤ cc.size := by rw [← hcc]; exact Nat.mul_le_mul_right k (by omega)
  have hik : i * k ≤ n * k := Nat.mul_le_mul_right k hin
  obtain ⟨ds, hds⟩ : ∃ ds, ds = (cc.toList.take (n * k)).drop (i * k) := ⟨_, rfl⟩
  have hdl : ds.length = (n - i) * k := by rw [hds, List.length_drop, List.length_take, Array.length_toList, Nat.min_eq_left hnk, Nat.sub_mul]
  rw [← hds]
  have e1 : Nat.min (n + 1 - i) (n - i) = n - i := by simp only [Nat.min_def]; split <;> omega
  have e2 : (i + 1) * k + (n - i) * k = (n + 1) * k := by rw [← Nat.add_mul]; congr 1; omega
  have hcp1 : ∀ ty dc sc, (Builtin.copy_ #[(ρ.t 24), (ρ.t 24)] ty #[.slice (some ⟨b, (i + 1) * k, none⟩) (n - i) dc, .slice (some ⟨b, i * k, none⟩) (n + 1 - i) sc]).run P w.drew = .ok (goInt (n - i : Nat)) (w.drew.setRow b (put cc ((i + 1) * k) ds)) := fun ty dc sc => by
    have h := run_copy_rowk (P := P) w.drew (ρ.t 24) (ρ.t 24) ty (ρ.t 9) b ((i + 1) * k) (n - i) dc ⟨b, i * k, none⟩ (n + 1 - i) sc cc tb ds k L.t24 hsz hb (by rw [hdl, e1])
      (fun j v hj => by
        rw [Addr.add_lit]
        have hj' := hj
        rw [hds, List.getElem?_drop, List.getElem?_take] at hj
        split at hj
        · rw [Array.getElem?_toList] at hj
          simp [World.cell?, show w.drew.heap[b]? = _ from hb, hj]
        · cases hj) (by rw [hdl, e2]; exact hn1k) (fun v hv => h1c v (List.mem_of_mem_drop (hds ▸ hv)))
    rw [e1] at h
    exact h
  have hps : (put cc ((i + 1) * k) ds).size = cc.size := by
    simp only [put, List.size_toArray, List.length_append, List.length_take, List.length_drop, Array.length_toList, hdl, e2]
    omega
  obtain ⟨W1, hW1⟩ : ∃ W1, W1 = w.drew.setRow b (put cc ((i + 1) * k) ds) := ⟨_, rfl⟩
  have hB1 : W1.heap[b]? = some (.cells (put cc ((i + 1) * k) ds) tb (0, 0)) := by rw [hW1]; exact setRow_heap w.drew b cc _ tb _ hb
  have hV1 : W1.heap[vb]? = some (.cells cv tv (0, 0)) := by rw [hW1, setRow_other w.drew b vb _ hvb]; exact hv
  have hcp2 : ∀ ty dc, (Builtin.copy_ #[(ρ.t 24), (ρ.t 24)] ty #[.slice (some ⟨b, i * k, none⟩) (n + 1 - i) dc, .slice (some ⟨vb, 0, none⟩) 1 vc]).run P W1 = .ok (goInt (1 : Nat)) (W1.setRow b (put (put cc ((i + 1) * k) ds) (i * k) vs)) := fun ty dc => by
    have e3 : Nat.min 1 (n + 1 - i) = 1 := by simp only [Nat.min_def]; split <;> omega
    have h := run_copy_rowk (P := P) W1 (ρ.t 24) (ρ.t 24) ty (ρ.t 9) b (i * k) (n + 1 - i) dc ⟨vb, 0, none⟩ 1 vc _ tb vs k L.t24 hsz hB1 (by rw [e3, hvl, Nat.one_mul])
      (fun j v hj => by
        rw [Addr.add_lit]
        rw [hvs, List.getElem?_take] at hj
        split at hj
        · rw [Array.getElem?_toList] at hj
          simp [World.cell?, hV1, hj]
        · cases hj) (by rw [hps, hvl]; have : (i + 1) * k ≤ (n + 1) * k := Nat.mul_le_mul_right k (by omega); rw [Nat.add_mul, Nat.one_mul] at this; omega) h1v
    rw [e3] at h
    exact h
  have hfin : W1.setRow b (put (put cc ((i + 1) * k) ds) (i * k) vs) = w.drew.setRow b (put (put cc ((i + 1) * k) ds) (i * k) vs) := by rw [hW1, setRow_setRow]
  rw [← hW1] at hcp1
  clear hW1 hds e1 e2 hvs
  go_enter L.f22, Body2.n22_ntmps ρ
  go_wp2_with (simp only [hov])
  go_region_law_o (refine step_copy_runI rfl _ _ (ρ.t 24) (ρ.t 24) rfl _ _ (by simp [Act.eval, Act.put]) (by simp [Act.eval, Act.put]) (hcp1 _ _ _) ?_)
  go_wp2_with (at_builtin; refine wpList_copy_runI _ rfl _ _ (ρ.t 24) (ρ.t 24) rfl _ _ rfl rfl (hcp2 _ _) ?_)
  go_ret
  first | exact ⟨rfl, rfl⟩ | exact ⟨rfl, hfin⟩
theorem alloc_setRow (w : World) (a b : Array Value) (e : TypeId) : (w.alloc (.cells a e)).setRow w.heap.size b = w.alloc (.cells b e) := by
  have h : (w.alloc (.cells a e)).heap[w.heap.size]? = some (.cells a e (0, 0)) := heap_push_eq _ _
  unfold World.setRow World.alloc
  congr 1
  refine Array.ext_getElem? fun j => ?_
  rw [Array.getElem?_modify]
  split
  · rename_i hj
    subst hj
    simp [Obj.cells]
  · rename_i hj
    simp only [Array.getElem?_push]
    rw [if_neg (fun x => hj x.symm), if_neg (fun x => hj x.symm)]
set_option maxHeartbeats 4000000 in
set_option maxRecDepth 100000 in
theorem ins_grow (L : InsLay P ρ n1 k bytes z) (b n c i vb vc : Nat) (cc cv : Array Value) (tb tv : TypeId) (w : World) (hi : i < n) (hnc : n ≤ c) (hroom : c < n + 1) (hc63 : c < 9223372036854775807) (hbig : (n + 1) * bytes ≤ 140737488355328)
    (hb : w.heap[b]? = some (.cells cc tb (0, 0))) (hv : w.heap[vb]? = some (.cells cv tv (0, 0))) (hcc : c * k = cc.size) (hcv : k ≤ cv.size) (vs : List Value) (hvs : vs = cv.toList.take k)
    (h1c : ∀ v ∈ cc.toList.take (n * k), v.oneCell' = true) (h1v : ∀ v ∈ vs, v.oneCell' = true) :
    Calls P (ρ.f 22) #[.slice (some ⟨b, 0, none⟩) n c, .int .i64 i, .slice (some ⟨vb, 0, none⟩) 1 vc] w fun e w' =>
      ∃ G R, R.size = G * k ∧ n + 1 ≤ G ∧ G ≤ maxLen ∧ e = .returned (.slice (some ⟨w.heap.size, 0, none⟩) (n + 1) G) ∧ w' = w.drew.drew.alloc (.cells (put (put R (i * k) vs) ((i + 1) * k) ((cc.toList.take (n * k)).drop (i * k))) (ρ.t 9)) ∧ R.toList.take (i * k) = cc.toList.take (i * k) := by
  have hk := L.hk; have hzl := L.hz
  have hvl : vs.length = k := by rw [hvs, List.length_take, Array.length_toList]; omega
  have t0 := L.t0; have a0 := L.a0; have z0 := L.z0; have v0 := L.v0; have t3 := L.t3; have a3 := L.a3; have z3 := L.z3; have v3 := L.v3; have t4 := L.t4; have a4 := L.a4; have z4 := L.z4; have v4 := L.v4; have z9 := L.z9; have t24 := L.t24; have a24 := L.a24; have z24 := L.z24; have v24 := L.v24
  have u0 := run_underlying L.t0; have u3 := run_underlying L.t3; have u4 := run_underlying L.t4; have u24 := run_underlying L.t24
  have mixed := L.mixed
  obtain ⟨i0, hi0, hz0, hzs, hzb⟩ := info_parts L.i9
  have hz2 : ¬ ((i : Int) = (n : Int)) := by omega
  have hz3 : (c : Int) < (n : Int) + 1 := by omega
  have hsz : (P.info? (ρ.t 9)).map (·.size) = some k := by rw [hi0]; simp [hzs]
  have hbw : b < w.heap.size := (Array.getElem?_eq_some_iff.1 hb).1
  have hvw : vb < w.heap.size := (Array.getElem?_eq_some_iff.1 hv).1
  have hkk : (n : Int) + 1 - (i : Int) = ((n + 1 - i : Nat) : Int) := by omega
  have hik : i + (n + 1 - i) = n + 1 := by omega
  have hnk : n * k ≤ cc.size := by rw [← hcc]; exact Nat.mul_le_mul_right k (by omega)
  have hikn : i * k ≤ n * k := Nat.mul_le_mul_right k (by omega)
  have hold : (Builtin.firstCells i0.size i (.slice (some ⟨b, 0, none⟩) i c)).run P w.drew = .ok (cc.toList.take (i * k)).toArray w.drew := by
    rw [hzs]
    exact run_firstCells_some w.drew k i ⟨b, 0, none⟩ i c (cc.toList.take (i * k)) (by rw [List.length_take, Array.length_toList]; omega) (fun j v hj => by
      rw [Addr.add_lit]
      rw [List.getElem?_take] at hj
      split at hj
      · rw [Array.getElem?_toList] at hj
        simp [World.cell?, show w.drew.heap[b]? = _ from hb, hj]
      · cases hj)
  have hrz : ∀ ty, (Builtin.append_ #[(ρ.t 24), (ρ.t 3)] ty #[.slice (some ⟨b, 0, none⟩) i c, .int .i64 ((n : Int) + 1 - (i : Int))]).run P w =
      .ok (.slice (some ⟨w.heap.size, 0, none⟩) (n + 1) (grownCap w (n + 1) c (ρ.t 9))) (w.drew.alloc (.cells ((cc.toList.take (i * k)).toArray ++ Builtin.zeroCells z.cells (n + 1 - i) ++ Builtin.zeroCells z.cells (grownCap w (n + 1) c (ρ.t 9) - (n + 1))) (ρ.t 9))) := fun ty => by
    have h := Lib.run_append_grow_zeros w (ρ.t 24) (ρ.t 3) ty (ρ.t 9) i0 _ .i64 .i64 L.t24 L.t3 hi0 hz0 (some ⟨b, 0, none⟩) i c _ hold (n + 1 - i) (by omega) (by omega) (by omega) (by omega) (by rw [hzb]; have : (n + 1 - i) * bytes ≤ (n + 1) * bytes := Nat.mul_le_mul_right _ (by omega); omega) (by rw [hzb, hik]; exact growslice_fits hroom hbig)
    rw [hik] at h
    rw [hkk]
    exact h
  have hGn : n + 1 ≤ grownCap w (n + 1) c (ρ.t 9) := grownCap_ge w _ _ _
  have hGm : grownCap w (n + 1) c (ρ.t 9) ≤ maxLen := grownCap_le_maxLen w (n + 1) c (ρ.t 9) (by unfold maxLen; omega)
  obtain ⟨G, hG⟩ : ∃ G, G = grownCap w (n + 1) c (ρ.t 9) := ⟨_, rfl⟩
  rw [← hG] at hGn hGm
  obtain ⟨ROW, hROW⟩ : ∃ ROW : Array Value, ROW = (cc.toList.take (i * k)).toArray ++ Builtin.zeroCells z.cells (n + 1 - i) ++ Builtin.zeroCells z.cells (G - (n + 1)) := ⟨_, rfl⟩
  rw [← hG] at hrz
  rw [← hROW] at hrz
  have hRl : ROW.size = G * k := by
    rw [hROW]
    simp only [Array.size_append, List.size_toArray, List.length_take, Array.length_toList, size_zeroCells, hzl, Nat.min_eq_left (show i * k ≤ cc.size by omega), ← Nat.add_mul]
    congr 1; omega
  have hRt : ROW.toList.take (i * k) = cc.toList.take (i * k) := by
    rw [hROW]
    simp only [Array.toList_append, List.append_assoc]
    rw [List.take_append_of_le_length (by simp; omega), List.take_take, Nat.min_self]
  have hG63 : G ≤ 9223372036854775807 := by unfold maxLen at hGm; omega
  have hGi : ¬ (G = i) := by omega
  have hGim : ¬ (G = i + 1) := by omega
  have hci : ¬ (c = i) := by omega
  have hn1G : (n + 1) * k ≤ G * k := Nat.mul_le_mul_right k hGn
  obtain ⟨ds, hds⟩ : ∃ ds, ds = (cc.toList.take (n * k)).drop (i * k) := ⟨_, rfl⟩
  have hdl : ds.length = (n - i) * k := by rw [hds, List.length_drop, List.length_take, Array.length_toList, Nat.min_eq_left hnk, Nat.sub_mul]
  rw [← hds]
  have e1 : Nat.min (n - i) (n - i) = n - i := Nat.min_self _
  have e2 : (i + 1) * k + (n - i) * k = (n + 1) * k := by rw [← Nat.add_mul]; congr 1; omega
  have e4 : i * k + k ≤ (n + 1) * k := by have : (i + 1) * k ≤ (n + 1) * k := Nat.mul_le_mul_right k (by omega); rw [Nat.add_mul, Nat.one_mul] at this; exact this
  obtain ⟨W1, hW1⟩ : ∃ W1, W1 = w.drew.alloc (.cells ROW (ρ.t 9)) := ⟨_, rfl⟩
  have hcpA : ∀ (W : World), W.heap = W1.heap → ∀ ty dc, (Builtin.copy_ #[(ρ.t 24), (ρ.t 24)] ty #[.slice (some ⟨w.heap.size, i * k, none⟩) (n + 1 - i) dc, .slice (some ⟨vb, 0, none⟩) 1 vc]).run P W = .ok (goInt (1 : Nat)) (W.setRow w.heap.size (put ROW (i * k) vs)) := fun W hW ty dc => by
    have e3 : Nat.min 1 (n + 1 - i) = 1 := by simp only [Nat.min_def]; split <;> omega
    have hN : W.heap[w.heap.size]? = some (.cells ROW (ρ.t 9) (0, 0)) := by rw [hW, hW1]; exact heap_push_eq w.drew _
    have hV : W.heap[vb]? = some (.cells cv tv (0, 0)) := by rw [hW, hW1, heap_push_lt w.drew _ hvw]; exact hv
    have h := run_copy_rowk (P := P) W (ρ.t 24) (ρ.t 24) ty (ρ.t 9) w.heap.size (i * k) (n + 1 - i) dc ⟨vb, 0, none⟩ 1 vc ROW (ρ.t 9) vs k L.t24 hsz hN (by rw [e3, hvl, Nat.one_mul])
      (fun j v hj => by
        rw [Addr.add_lit]
        rw [hvs, List.getElem?_take] at hj
        split at hj
        · rw [Array.getElem?_toList] at hj
          simp [World.cell?, hV, hj]
        · cases hj) (by rw [hRl, hvl]; omega) h1v
    rw [e3] at h
    exact h
  have hps : (put ROW (i * k) vs).size = ROW.size := by
    simp only [put, List.size_toArray, List.length_append, List.length_take, List.length_drop, Array.length_toList, hvl]
    omega
  have hcpB : ∀ (W : World), W.heap = (W1.setRow w.heap.size (put ROW (i * k) vs)).heap → ∀ ty dc sc, (Builtin.copy_ #[(ρ.t 24), (ρ.t 24)] ty #[.slice (some ⟨w.heap.size, (i + 1) * k, none⟩) (n - i) dc, .slice (some ⟨b, i * k, none⟩) (n - i) sc]).run P W = .ok (goInt (n - i : Nat)) (W.setRow w.heap.size (put (put ROW (i * k) vs) ((i + 1) * k) ds)) := fun W hW ty dc sc => by
    have hN : W.heap[w.heap.size]? = some (.cells (put ROW (i * k) vs) (ρ.t 9) (0, 0)) := by
      rw [hW, hW1]; exact setRow_heap _ _ ROW _ (ρ.t 9) _ (heap_push_eq w.drew _)
    have hB : W.heap[b]? = some (.cells cc tb (0, 0)) := by
      rw [hW, hW1, setRow_other _ _ b _ (by omega), heap_push_lt w.drew _ hbw]; exact hb
    have h := run_copy_rowk (P := P) W (ρ.t 24) (ρ.t 24) ty (ρ.t 9) w.heap.size ((i + 1) * k) (n - i) dc ⟨b, i * k, none⟩ (n - i) sc _ (ρ.t 9) ds k L.t24 hsz hN (by rw [hdl, e1])
      (fun j v hj => by
        rw [Addr.add_lit]
        rw [hds, List.getElem?_drop, List.getElem?_take] at hj
        split at hj
        · rw [Array.getElem?_toList] at hj
          simp [World.cell?, hB, hj]
        · cases hj) (by rw [hdl, e2, hps, hRl]; exact hn1G) (fun v hv => h1c v (List.mem_of_mem_drop (hds ▸ hv)))
    rw [e1] at h
    exact h
  subst hW1
  have hw1 : IntKind.i64.wrap ((i : Int) + 1) = (i : Int) + 1 := by rw [IntKind.wrap_i64]; omega
  have hb1 : (0 : Int) ≤ (i : Int) + 1 := by omega
  have hin : i ≤ n := by omega
  have htn : ((i : Int) + 1).toNat = i + 1 := by omega
  have hb3 : (i : Int) ≤ (n : Int) := by omega
  have hE1 : ((w.alloc (.cells ROW (ρ.t 9))).drew).heap = (w.drew.alloc (.cells ROW (ρ.t 9))).heap := rfl
  have hF1 : (((w.alloc (.cells ROW (ρ.t 9))).drew.setRow w.heap.size (put ROW (i * k) vs)).drew).heap = ((w.drew.alloc (.cells ROW (ρ.t 9))).setRow w.heap.size (put ROW (i * k) vs)).heap := rfl
  have hcall : Calls P (ρ.f 22) #[.slice (some ⟨b, 0, none⟩) n c, .int .i64 i, .slice (some ⟨vb, 0, none⟩) 1 vc] w fun e w' => e = .returned (.slice (some ⟨w.heap.size, 0, none⟩) (n + 1) G) ∧ w' = (((w.alloc (.cells ROW (ρ.t 9))).drew.setRow w.heap.size (put ROW (i * k) vs)).drew).setRow w.heap.size (put (put ROW (i * k) vs) ((i + 1) * k) ds) := by
    clear hkk hik hold hROW hG hRl hds e1 e2 e4 hRt hvs
    go_enter L.f22, Body2.n22_ntmps ρ
    go_wp2_with (first
      | (at_builtin; refine Lib.wpList_append_run _ rfl _ _ _ _ rfl _ _ rfl rfl _ _ (hrz _) ?_)
      | (at_builtin; refine wpList_copy_runI _ rfl _ _ (ρ.t 24) (ρ.t 24) rfl _ _ rfl rfl (hcpA _ hE1 _ _) ?_)
      | (at_builtin; refine wpList_copy_runI _ rfl _ _ (ρ.t 24) (ρ.t 24) rfl _ _ rfl rfl (hcpB _ hF1 _ _ _) ?_))
    go_region_law_o (refine step_copy_runI rfl _ _ (ρ.t 24) (ρ.t 24) rfl (.slice (some ⟨w.heap.size, (i + 1) * k, none⟩) (n - i) (G - (i + 1))) (.slice (some ⟨b, i * k, none⟩) (n - i) (c - i)) (by simp [Act.eval, Act.put]) (by simp [Act.eval, Act.put]) (hcpB _ hF1 (ρ.t 3) (G - (i + 1)) (c - i)) ?_)
    go_wp2
    go_ret
    exact ⟨rfl, rfl⟩
  refine hcall.mono fun e w' h => ?_
  obtain ⟨rfl, rfl⟩ := h
  refine ⟨G, ROW, hRl, hGn, hGm, rfl, ?_, hRt⟩
  have q := alloc_setRow w ROW (put ROW (i * k) vs) (ρ.t 9)
  have q2 := alloc_setRow w (put ROW (i * k) vs) (put (put ROW (i * k) vs) ((i + 1) * k) ds) (ρ.t 9)
  have q3 : (((w.alloc (.cells ROW (ρ.t 9))).drew.setRow w.heap.size (put ROW (i * k) vs)).drew).setRow w.heap.size (put (put ROW (i * k) vs) ((i + 1) * k) ds) = ((((w.alloc (.cells ROW (ρ.t 9))).setRow w.heap.size (put ROW (i * k) vs))).setRow w.heap.size (put (put ROW (i * k) vs) ((i + 1) * k) ds)).drew.drew := rfl
  rw [q3, q, q2]
  rfl
set_option maxHeartbeats 4000000 in
set_option maxRecDepth 100000 in
theorem ins_end (L : InsLay P ρ n1 k bytes z) (b n c vb vc : Nat) (w w' : World) (v : Value) (hnc : n ≤ c)
    (hr : ∀ ty, (Builtin.append_ #[(ρ.t 24), (ρ.t 24)] ty #[.slice (some ⟨b, 0, none⟩) n c, .slice (some ⟨vb, 0, none⟩) 1 vc]).run P w = .ok v w') :
    Calls P (ρ.f 22) #[.slice (some ⟨b, 0, none⟩) n c, .int .i64 n, .slice (some ⟨vb, 0, none⟩) 1 vc] w fun e u => e = .returned v ∧ u = w' := by
  have hk := L.hk
  have t0 := L.t0; have a0 := L.a0; have z0 := L.z0; have v0 := L.v0; have t3 := L.t3; have a3 := L.a3; have z3 := L.z3; have v3 := L.v3; have t4 := L.t4; have a4 := L.a4; have z4 := L.z4; have v4 := L.v4; have z9 := L.z9; have t24 := L.t24; have a24 := L.a24; have z24 := L.z24; have v24 := L.v24
  have u0 := run_underlying L.t0; have u3 := run_underlying L.t3; have u4 := run_underlying L.t4; have u24 := run_underlying L.t24
  have mixed := L.mixed
  go_enter L.f22, Body2.n22_ntmps ρ
  go_wp2_with (at_builtin; refine Lib.wpList_append_run _ rfl _ _ _ _ rfl _ _ rfl rfl _ _ (hr _) ?_)
  all_goals (go_ret; exact ⟨rfl, rfl⟩)
end Go.Proofs.Ytngkckefanbhgaa

namespace Go.Proofs.Ytngkckefanbhgaa
open Go Go.Proofs Go.Shelf Go.Lib
theorem put_get {cc : Array Value} {o : Nat} {cs : List Value} (h : o + cs.length ≤ cc.size) (q : Nat) : (put cc o cs)[q]? = if o ≤ q ∧ q < o + cs.length then cs[q - o]? else cc[q]? := by
  unfold put
  rw [seg_get h]
theorem put_size {cc : Array Value} {o : Nat} {cs : List Value} (h : o + cs.length ≤ cc.size) : (put cc o cs).size = cc.size := by
  simp only [put, List.size_toArray, List.length_append, List.length_take, List.length_drop, Array.length_toList]
  omega
theorem ins_rows {x : Cx} {rows : List (List V)} {row : List V} {k i : Nat} {cc cv F : Array Value} (hsz : ∀ r ∈ rows, r.length = k) (hsz1 : row.length = k) (hi : i ≤ rows.length)
    (hr : ∀ (r : Nat) (row : List V) (j : Nat) (v : V), rows[r]? = some row → row[j]? = some v → R x v (cc.getD (r * k + j) undef))
    (hv : ∀ (j : Nat) (v : V), row[j]? = some v → R x v (cv.getD j undef))
    (ha : ∀ q, q < i * k → F[q]? = cc[q]?) (hb : ∀ q, q < k → F[i * k + q]? = cv[q]?) (hc : ∀ q, q < (rows.length - i) * k → F[(i + 1) * k + q]? = cc[i * k + q]?) :
    ∀ (r : Nat) (row' : List V) (j : Nat) (v : V), (rows.take i ++ row :: rows.drop i)[r]? = some row' → row'[j]? = some v → R x v (F.getD (r * k + j) undef) := by
  intro r row' j v h1 h2
  have hlt : (rows.take i).length = i := by rw [List.length_take]; omega
  rw [List.getElem?_append] at h1
  split at h1
  · rename_i hlt'
    rw [hlt] at hlt'
    rw [List.getElem?_take, if_pos hlt'] at h1
    have hjk : j < k := by rw [← hsz _ (List.mem_of_getElem? h1)]; exact (List.getElem?_eq_some_iff.1 h2).1
    have : r * k + j < i * k := by
      have : (r + 1) * k ≤ i * k := Nat.mul_le_mul_right k hlt'
      rw [Nat.add_mul, Nat.one_mul] at this; omega
    rw [Array.getD_eq_getD_getElem?, ha _ this, ← Array.getD_eq_getD_getElem?]
    exact hr r row' j v h1 h2
  · rename_i hge
    rw [hlt] at h1 hge
    by_cases he : r = i
    · subst he
      rw [Nat.sub_self] at h1
      simp only [List.getElem?_cons_zero, Option.some.injEq] at h1
      subst h1
      have hjk : j < k := by rw [← hsz1]; exact (List.getElem?_eq_some_iff.1 h2).1
      rw [Array.getD_eq_getD_getElem?, hb _ hjk, ← Array.getD_eq_getD_getElem?]
      exact hv j v h2
    · obtain ⟨q, hq⟩ : ∃ q, r - i = q + 1 := ⟨r - i - 1, by omega⟩
      rw [hq, List.getElem?_cons_succ, List.getElem?_drop] at h1
      have hjk : j < k := by rw [← hsz _ (List.mem_of_getElem? h1)]; exact (List.getElem?_eq_some_iff.1 h2).1
      have hql := (List.getElem?_eq_some_iff.1 h1).1
      have hlt2 : q * k + j < (rows.length - i) * k := by
        have : (q + 1) * k ≤ (rows.length - i) * k := Nat.mul_le_mul_right k (by omega)
        rw [Nat.add_mul, Nat.one_mul] at this; omega
      have e1 : r * k + j = (i + 1) * k + (q * k + j) := by rw [← Nat.add_assoc, ← Nat.add_mul]; congr 2; omega
      have e2 : i * k + (q * k + j) = (i + q) * k + j := by rw [Nat.add_mul]; omega
      rw [e1, Array.getD_eq_getD_getElem?, hc _ hlt2, ← Array.getD_eq_getD_getElem?, e2]
      exact hr _ row' j v h1 h2
section
variable {P : Program} {ρ : Ren} {n1 : String} {k bytes : Nat} {z : Value}
theorem ins_full (L : InsLay P ρ n1 k bytes z) {zz : List V} (hzz : zeroOf P (ρ.t 9) = some zz) (hzl : zz.length = k) {x : Cx} (hx : Inv x) {id id2 ver ver2 ty2 i : Nat} {rows : List (List V)} {row : List V} {c0 c2 : Value}
    (hH : x.H id = ⟨ver, true, false, ρ.t 9, k, rows⟩) (hH2 : x.H id2 = ⟨ver2, true, false, ty2, k, [row]⟩) (hne : id ≠ id2) (hi : i ≤ rows.length)
    (hf : fitRows k rows = true) (hf1 : fitRows k [row] = true) (hb : (rows.length + 1) * bytes ≤ 140737488355328) (hm : rows.length + 1 ≤ 9223372036854775807)
    (r0 : R x (.ms id ver 0 rows.length) c0) (r2 : R x (.ms id2 ver2 0 1) c2) :
    Calls P (ρ.f 22) #[c0, .int .i64 i, c2] x.w fun e w' => ∃ c y, e = .returned c ∧ y.w = w' ∧ y.H = upd x.H id ⟨ver + 1, true, false, ρ.t 9, k, rows.take i ++ row :: rows.drop i⟩ ∧ Inv y ∧ R y (.ms id (ver + 1) 0 (rows.length + 1)) c ∧ Frame x y := by
  have hk := L.hk
  have ho : (x.H id).own = true := by rw [hH]; rfl
  have ho2 : (x.H id2).own = true := by rw [hH2]; rfl
  obtain ⟨hsz, hone⟩ := fitRows_spec hf
  obtain ⟨hsz1, hone1⟩ := fitRows_spec hf1
  have r0' := r0; have r2' := r2
  cases r0 with
  | ms _ _ _ _ b n cap hv hh =>
  cases r2 with
  | ms _ _ _ _ b2 m2 cap2 hv2 hh2 =>
  obtain ⟨e1, e2, e3, e4, e5, e6⟩ := hh (by rw [hH]) (by rw [hH])
  obtain ⟨d1, d2, d3, d4, d5, d6⟩ := hh2 (by rw [hH2]) (by rw [hH2])
  obtain ⟨e7, e8⟩ := e5 ho
  obtain ⟨d7, d8⟩ := d5 ho2
  obtain ⟨cc, b1, bb2, bb3, bb4⟩ := hx.blk id ho
  obtain ⟨cv, v1, vv2, vv3, vv4⟩ := hx.blk id2 ho2
  have hrs : rowSize x.w (x.σ id) = cc.size := by unfold rowSize; rw [b1]
  have hrs2 : rowSize x.w (x.σ id2) = cv.size := by unfold rowSize; rw [v1]
  rw [hrs, hH] at e8
  rw [hrs2, hH2] at d8
  rw [hH] at e7 b1 bb3 bb4
  rw [hH2] at d7 v1 vv3 vv4
  simp only [Nat.zero_mul, Nat.zero_add] at e7 d7 e8 d8
  simp only at b1 bb3 bb4 v1 vv3 vv4
  subst e1; subst d1; subst e7; subst d7
  have hvb : x.σ id2 ≠ x.σ id := fun e => hne (hx.inj id id2 ho ho2 e.symm)
  have hcv : k ≤ cv.size := by simpa using vv3
  have hsz1' : row.length = k := hsz1 row (by simp)
  have hrow : ∀ (j : Nat) (v : V), row[j]? = some v → R x v (cv.getD j undef) := fun j v hj => by
    have := vv4 0 row j v rfl hj
    simpa using this
  have h1c : ∀ v ∈ cc.toList.take (rows.length * k), v.oneCell' = true := fun v hv => by
    obtain ⟨q, hq⟩ := List.getElem?_of_mem hv
    rw [List.getElem?_take] at hq
    split at hq
    · rename_i hlt
      obtain ⟨rw', u, h5, h6, h7⟩ := CRR_cell hsz hlt
      have h8 := bb4 _ _ _ _ h5 h6
      rw [h7, Array.getD_eq_getD_getElem?, ← Array.getElem?_toList, hq] at h8
      exact h8.one (hone _ (List.mem_of_getElem? h5) _ (List.mem_of_getElem? h6))
    · cases hq
  obtain ⟨vs, hvs⟩ : ∃ vs, vs = cv.toList.take k := ⟨_, rfl⟩
  have hvl : vs.length = k := by rw [hvs, List.length_take, Array.length_toList]; omega
  have hvg : ∀ q, q < k → vs[q]? = cv[q]? := fun q hq => by rw [hvs, List.getElem?_take, if_pos hq, Array.getElem?_toList]
  have h1v : ∀ v ∈ vs, v.oneCell' = true := fun v hv => by
    obtain ⟨q, hq⟩ := List.getElem?_of_mem hv
    have hlt : q < k := by rw [← hvl]; exact (List.getElem?_eq_some_iff.1 hq).1
    have hu : ∃ u, row[q]? = some u := ⟨_, List.getElem?_eq_getElem (by rw [hsz1']; exact hlt)⟩
    obtain ⟨u, hu⟩ := hu
    have h8 := hrow q u hu
    rw [Array.getD_eq_getD_getElem?, ← hvg q hlt, hq] at h8
    exact h8.one (hone1 row (by simp) u (List.mem_of_getElem? hu))
  obtain ⟨n, hn⟩ : ∃ n, n = rows.length := ⟨_, rfl⟩
  have hnew : ∀ r ∈ rows.take i ++ row :: rows.drop i, r.length = k := fun r hr => by
    rcases List.mem_append.1 hr with hr | hr
    · exact hsz r (List.mem_of_mem_take hr)
    · rcases List.mem_cons.1 hr with hr | hr
      · rw [hr]; exact hsz1'
      · exact hsz r (List.mem_of_mem_drop hr)
  have hnewl : (rows.take i ++ row :: rows.drop i).length = rows.length + 1 := by simp; omega
  by_cases hend : i = rows.length
  · obtain ⟨i0, hi0, hz0, hzs, hzb⟩ := info_parts L.i9
    obtain ⟨y, c, hr, y1, y2, y3, y4⟩ := append_run (P := P) (esz := k) (bytes := bytes) (new := [row]) hx L.t24 hi0 hzz hzs hzb hzl (by omega) (i := id) (ver := ver) (len := rows.length) (u := .ms id2 ver2 0 1) (by rw [hH]) (by rw [hH]) (by rw [hH]) (by rw [hH]) (by rw [hH])
      (by simp [rowsOf, hH2]) hf1 hb hm r0' r2' 0
    rw [hend]
    refine (ins_end L (x.σ id) rows.length cap (x.σ id2) cap2 x.w y.w c e2 fun ty => hr).mono fun e w' h => ?_
    obtain ⟨rfl, rfl⟩ := h
    refine ⟨c, y, rfl, rfl, ?_, y2, y4, y3⟩
    rw [y1, hH]
    simp
  have hlt : i < rows.length := by omega
  have hnk : rows.length * k ≤ cc.size := by rw [← e8]; exact Nat.mul_le_mul_right k e2
  have hik : i * k ≤ rows.length * k := Nat.mul_le_mul_right k hi
  obtain ⟨ds, hds⟩ : ∃ ds, ds = (cc.toList.take (rows.length * k)).drop (i * k) := ⟨_, rfl⟩
  have hdl : ds.length = (rows.length - i) * k := by rw [hds, List.length_drop, List.length_take, Array.length_toList (xs := cc), Nat.min_eq_left hnk, Nat.sub_mul]
  have hdg : ∀ q, q < (rows.length - i) * k → ds[q]? = cc[i * k + q]? := fun q hq => by
    rw [hds, List.getElem?_drop, List.getElem?_take, if_pos (by rw [Nat.sub_mul] at hq; omega), Array.getElem?_toList]
  have e9 : (i + 1) * k + (rows.length - i) * k = (rows.length + 1) * k := by rw [← Nat.add_mul]; congr 1; omega
  have e10 : (i + 1) * k = i * k + k := by rw [Nat.add_mul, Nat.one_mul]
  by_cases hroom : rows.length + 1 ≤ cap
  · have hn1k : (rows.length + 1) * k ≤ cc.size := by rw [← e8]; exact Nat.mul_le_mul_right k hroom
    refine (ins_shift L (x.σ id) rows.length cap i (x.σ id2) cap2 cc cv _ _ x.w hlt hroom (by unfold maxLen at e3; omega) hvb b1 v1 e8 hcv vs hvs h1c h1v).mono fun e w' h => ?_
    obtain ⟨rfl, rfl⟩ := h
    rw [← hds]
    have hs1 : (put cc ((i + 1) * k) ds).size = cc.size := put_size (by rw [hdl, e9]; exact hn1k)
    have hfit2 : i * k + vs.length ≤ (put cc ((i + 1) * k) ds).size := by rw [hs1, hvl]; omega
    obtain ⟨dI, dF⟩ := step_draw hx (x.w.drawn + 1) (Nat.le_succ _)
    obtain ⟨hI, hF⟩ := step_set dI id ho cc (put (put cc ((i + 1) * k) ds) (i * k) vs) (by rw [hH]; exact b1) (by rw [put_size hfit2, hs1]) (ver + 1) (rows.take i ++ row :: rows.drop i) (by simp only [hH]; omega) (by simp only [hH]; omega) (by simp only [hH]; rfl)
      (by simp only [hH]; exact hnew) (by simp only [hH]; rw [hnewl]; exact hn1k) (by
        simp only [hH]
        refine ins_rows hsz hsz1' hi (fun r row j v h5 h6 => (bb4 r row j v h5 h6).frame hx dF) (fun j v h5 => (hrow j v h5).frame hx dF) (fun q hq => ?_) (fun q hq => ?_) (fun q hq => ?_)
        · rw [put_get hfit2, if_neg (by omega), put_get (by rw [hdl, e9]; exact hn1k), if_neg (by omega)]
        · rw [put_get hfit2, if_pos (by omega), Nat.add_sub_cancel_left]; exact hvg q hq
        · rw [put_get hfit2, if_neg (by omega), put_get (by rw [hdl, e9]; exact hn1k), if_pos (by rw [hdl]; omega), Nat.add_sub_cancel_left]; exact hdg q hq)
    refine ⟨_, _, rfl, ?_, ?_, hI, ?_, dF.trans hF⟩
    · rfl
    · simp only [hH]
    · refine .ms _ _ _ _ _ _ _ (by simp [upd_same]) fun _ _ => ?_
      simp only [upd_same, hH]
      refine ⟨trivial, hroom, e3, by rw [hnewl]; omega, fun _ => ⟨by simp, ?_⟩, fun h => by simp [Blk.own] at h⟩
      have : rowSize (({ x.w with drawn := x.w.drawn + 1 } : World).setRow (x.σ id) (put (put cc ((i + 1) * k) ds) (i * k) vs)) (x.σ id) = cc.size := by
        have q := setRow_heap ({ x.w with drawn := x.w.drawn + 1 } : World) (x.σ id) cc (put (put cc ((i + 1) * k) ds) (i * k) vs) _ _ b1
        unfold rowSize
        rw [q]
        show (put (put cc ((i + 1) * k) ds) (i * k) vs).size = cc.size
        rw [put_size hfit2, hs1]
      rw [this, Nat.zero_add]; exact e8
  · refine (ins_grow L (x.σ id) rows.length cap i (x.σ id2) cap2 cc cv _ _ x.w hlt e2 (by omega) (by omega) hb b1 v1 e8 hcv vs hvs h1c h1v).mono fun e w' h => ?_
    obtain ⟨G, Rw, g1, g2, g3, rfl, rfl, g4⟩ := h
    rw [← hds]
    have hGk : (rows.length + 1) * k ≤ Rw.size := by rw [g1]; exact Nat.mul_le_mul_right k g2
    have hfit1 : i * k + vs.length ≤ Rw.size := by rw [hvl]; omega
    have hs1 : (put Rw (i * k) vs).size = Rw.size := put_size hfit1
    have hfit2 : (i + 1) * k + ds.length ≤ (put Rw (i * k) vs).size := by rw [hs1, hdl, e9]; exact hGk
    obtain ⟨dI, dF⟩ := step_draw hx (x.w.drawn + 2) (by omega)
    obtain ⟨hI, hF⟩ := step_own dI id (put (put Rw (i * k) vs) ((i + 1) * k) ds) false (ρ.t 9) k (rows.take i ++ row :: rows.drop i) hnew (by rw [hnewl, put_size hfit2, hs1]; exact hGk) (by
        refine ins_rows hsz hsz1' hi (fun r row j v h5 h6 => (bb4 r row j v h5 h6).frame hx dF) (fun j v h5 => (hrow j v h5).frame hx dF) (fun q hq => ?_) (fun q hq => ?_) (fun q hq => ?_)
        · rw [put_get hfit2, if_neg (by omega), put_get hfit1, if_neg (by omega)]
          have := congrArg (fun l => l[q]?) g4
          simp only [List.getElem?_take, if_pos hq, Array.getElem?_toList] at this
          exact this
        · rw [put_get hfit2, if_neg (by omega), put_get hfit1, if_pos (by omega), Nat.add_sub_cancel_left]; exact hvg q hq
        · rw [put_get hfit2, if_pos (by rw [hdl]; omega), Nat.add_sub_cancel_left]; exact hdg q hq)
    refine ⟨_, _, rfl, ?_, ?_, hI, ?_, dF.trans hF⟩
    · rfl
    · simp only [hH]
    · refine .ms _ _ _ _ _ _ _ (by simp [upd_same, hH]) fun _ _ => ?_
      simp only [upd_same, hH]
      refine ⟨trivial, g2, g3, by rw [hnewl]; omega, fun _ => ⟨by simp, ?_⟩, fun h => by simp [Blk.own] at h⟩
      rw [rowSize_new, put_size hfit2, hs1, g1, Nat.zero_add]
theorem CallOK_insert (L : InsLay P ρ n1 k bytes z) (hcf : callable P (ρ.f 22)) {zz : List V} (hzz : zeroOf P (ρ.t 9) = some zz) (hzl : zz.length = k) {id id2 ver ver2 ty2 i n : Nat} {rows : List (List V)} {row : List V} {H : Heap}
    (hH : H id = ⟨ver, true, false, ρ.t 9, k, rows⟩) (hH2 : H id2 = ⟨ver2, true, false, ty2, k, [row]⟩) (hne : id ≠ id2) (hn : n ≤ rows.length) (hi : i ≤ n)
    (hf : fitRows k (rows.take n) = true) (hf1 : fitRows k [row] = true) (hb : (n + 1) * bytes ≤ 140737488355328) (hm : n + 1 ≤ 9223372036854775807) :
    CallOK P (ρ.f 22) [.ms id ver 0 n, iV i, .ms id2 ver2 0 1] H (.ms id (ver + 2) 0 (n + 1)) (upd H id ⟨ver + 2, true, false, ρ.t 9, k, (rows.take n).take i ++ row :: (rows.take n).drop i⟩) := by
  refine ⟨hcf, fun x cs hxH hx hr => ?_⟩
  subst hxH
  obtain ⟨c0, c1, c2, rfl⟩ : ∃ c0 c1 c2, cs = [c0, c1, c2] := by
    have := hr.1
    match cs with
    | [a, b, c] => exact ⟨a, b, c, rfl⟩
    | [] => simp at this
    | [_] => simp at this
    | [_, _] => simp at this
    | _ :: _ :: _ :: _ :: _ => simp at this
  have r0 : R x (.ms id ver 0 n) c0 := hr.2 0 _ rfl
  have r1 : R x (iV i) c1 := hr.2 1 _ rfl
  have r2 : R x (.ms id2 ver2 0 1) c2 := hr.2 2 _ rfl
  have hc1 : c1 = .int .i64 i := by
    unfold iV at r1
    cases r1; rfl
  subst hc1
  have ho : (x.H id).own = true := by rw [hH]; rfl
  obtain ⟨cc, b1, bb2, bb3, bb4⟩ := hx.blk id ho
  have hlen : (rows.take n).length = n := by rw [List.length_take]; omega
  obtain ⟨hI, hF⟩ := step_set hx id ho cc cc b1 rfl (ver + 1) (rows.take n) (by rw [hH]; exact Nat.le_succ _) (by rw [hH]; simp) (by rw [hH]; rfl) (fun r h => bb2 r (by rw [hH]; exact List.mem_of_mem_take h))
    (by rw [hlen]; refine Nat.le_trans (Nat.mul_le_mul_right _ ?_) bb3; rw [hH]; exact hn) (fun r row j v h1 h2 => by
      rw [List.getElem?_take] at h1
      split at h1
      · exact bb4 r row j v (by rw [hH]; exact h1) h2
      · cases h1)
  have hw : x.w.setRow (x.σ id) cc = x.w := setRow_self x.w _ cc _ _ b1
  rw [hw] at hI hF
  have q0 : R { x with H := upd x.H id ⟨ver + 1, true, (x.H id).lz, (x.H id).ty, (x.H id).sz, rows.take n⟩ } (.ms id (ver + 1) 0 (rows.take n).length) c0 := by
    cases r0 with
    | ms _ _ _ _ b m cap hv hh =>
    obtain ⟨e1, e2, e3, e4, e5, e6⟩ := hh (by rw [hH]) (by rw [hH])
    obtain ⟨e7, e8⟩ := e5 ho
    refine .ms _ _ _ _ _ _ _ (by simp [upd_same]) fun _ _ => ?_
    simp only [upd_same, hlen]
    exact ⟨e1, e2, e3, by omega, fun _ => ⟨e7, e8⟩, fun h => by rw [hH] at h; simp [Blk.own] at h⟩
  have h := ins_full L hzz hzl hI (id := id) (id2 := id2) (ver := ver + 1) (ver2 := ver2) (ty2 := ty2) (i := i) (rows := rows.take n) (row := row) (by simp [upd_same, hH]) (by simp only [upd_ne _ _ (Ne.symm hne)]; exact hH2) hne (by rw [hlen]; exact hi) hf hf1 (by rw [hlen]; exact hb) (by rw [hlen]; exact hm) q0 (r2.frame hx hF)
  refine h.mono fun e w' h => ?_
  obtain ⟨c, y, rfl, h1, h2, h3, h4, h5⟩ := h
  refine ⟨c, y, rfl, h1, ?_, h3, ?_, hF.trans h5⟩
  · rw [h2]
    funext j
    by_cases e : j = id
    · subst e; simp only [upd_same]
    · simp only [upd_ne _ _ e]
  · rw [hlen] at h4; exact h4
end
end Go.Proofs.Ytngkckefanbhgaa

namespace Go.Proofs.Ytngkckefanbhgaa
open Go Go.Proofs Go.Shelf Go.Lib
def insP (f ty k bytes : Nat) : Prim := fun g args H =>
  if g = f then match args with
    | [.ms id ver 0 n, .int .i64 i, .ms id2 ver2 0 1] => match H id2 with
      | ⟨v2, true, false, _, k2, [row]⟩ => match H id with
        | ⟨v1, true, false, ty1, k1, rows⟩ =>
          if v1 = ver ∧ v2 = ver2 ∧ k1 = k ∧ k2 = k ∧ ty1 = ty ∧ id ≠ id2 ∧ n ≤ rows.length ∧ i.toNat ≤ n ∧ 0 ≤ i ∧ (n + 1) * bytes ≤ 140737488355328 ∧ n + 1 ≤ 9223372036854775807 then
            if fitRows k (rows.take n) && fitRows k [row] then
              some (.ms id (ver + 2) 0 (n + 1), upd H id ⟨ver + 2, true, false, ty, k, (rows.take n).take i.toNat ++ row :: (rows.take n).drop i.toNat⟩)
            else none
          else none
        | _ => none
      | _ => none
    | _ => none
  else none
theorem insP_ok {P : Program} {ρ : Ren} {n1 : String} {k bytes : Nat} {z : Value} (L : InsLay P ρ n1 k bytes z) (hcf : callable P (ρ.f 22)) {zz : List V} (hzz : zeroOf P (ρ.t 9) = some zz) (hzl : zz.length = k) : PrimOK P (insP (ρ.f 22) (ρ.t 9) k bytes) := by
  intro g args H v H' h
  unfold insP at h
  split at h
  · rename_i hg
    subst hg
    split at h
    · rename_i id ver n i id2 ver2
      split at h
      · rename_i v2 ty2 k2 row h2
        split at h
        · rename_i v1 ty1 k1 rows h1
          split at h
          · rename_i hc
            obtain ⟨rfl, rfl, rfl, rfl, rfl, c1, c2, c3, c4, c5, c6⟩ := hc
            split at h
            · rename_i hf
              simp only [Bool.and_eq_true] at hf
              cases h
              have := CallOK_insert L hcf hzz hzl (i := i.toNat) h1 h2 c1 c2 c3 hf.1 hf.2 c5 c6
              unfold iV at this
              rw [Int.toNat_of_nonneg c4] at this
              exact this
            · cases h
          · cases h
        · cases h
      · cases h
    · cases h
  · cases h
end Go.Proofs.Ytngkckefanbhgaa

namespace Go.Proofs.Ytngkckefanbhgaa
open Go Go.Proofs Go.Shelf
def insRen119 : Go.Shelf.Ren := ⟨fun | 22 => 119 | 29 => 123 | 30 => 124 | n => n, fun | 24 => 32 | 9 => 63 | n => n, fun n => n⟩
theorem insLay119 : InsLay Try.prog insRen119 Try.f119.name 2 48 (.agg #[.slice none 0 0, .slice none 0 0]) := {
  mixed := by kernel_rfl
  f22 := Try.func119.trans (congrArg some (by kernel_rfl))
  ov := fun args w => run_callFunc_extern Try.func123 (by kernel_rfl) (by kernel_rfl) (by kernel_rfl) (by kernel_rfl) args w
  t0 := Try.underlying0, a0 := Try.isAgg0, z0 := Try.sizeOf0, v0 := Try.zeroValue0
  t3 := Try.underlying3, a3 := Try.isAgg3, z3 := Try.sizeOf3, v3 := Try.zeroValue3
  t4 := Try.underlying4, a4 := Try.isAgg4, z4 := Try.sizeOf4, v4 := Try.zeroValue4
  z9 := Try.sizeOf63
  t24 := Try.underlying32, a24 := Try.isAgg32, z24 := Try.sizeOf32, v24 := Try.zeroValue32
  i9 := by kernel_rfl
  hk := by decide
  hz := by kernel_rfl }
theorem insCall119 : callable Try.prog 119 := ⟨_, Try.func119, by kernel_rfl, by kernel_rfl⟩
def insPrim119 : Prim := insP 119 63 2 48
theorem insPrim119_ok : PrimOK Try.prog insPrim119 := insP_ok insLay119 insCall119 (zz := [.nilsl, .nilsl]) (by kernel_rfl) rfl
end Go.Proofs.Ytngkckefanbhgaa

namespace Go.Proofs.Ytngkckefanbhgaa
open Go Go.Proofs
theorem insert_tr {F : List Tr} {t : Tr} {v9 v54 ty2 : Nat} {H : Heap} (r : List (List V)) (h209 : H 209 = ⟨v9, true, false, 63, 2, List.map cT F ++ r⟩) (h354 : H 354 = ⟨v54, true, false, ty2, 2, [cT t]⟩) (hl : F.length ≤ 100000) (hs : Srt F) :
    CallOK Try.prog 119 [.ms 209 v9 0 F.length, iV ((lbN F t : Nat) : Int), .ms 354 v54 0 1] H (.ms 209 (v9 + 2) 0 (F.length + 1)) (upd H 209 ⟨v9 + 2, true, false, 63, 2, List.map cT (ins F t)⟩) := by
  have hf : ∀ l : List Tr, fitRows 2 (List.map cT l) = true := fun l => by
    simp only [fitRows, List.all_eq_true]
    intro r hr
    obtain ⟨x, _, rfl⟩ := List.mem_map.1 hr
    rfl
  have e : (List.map cT F ++ r).take F.length = List.map cT F := take_zap rfl
  have := CallOK_insert (zz := [.nilsl, .nilsl]) (row := cT t) (i := lbN F t) (n := F.length) insLay119 insCall119 (by kernel_rfl) rfl h209 h354 (by decide) (by simp) (lb_le F) (by rw [e]; exact hf F) (hf [t]) (by omega) (by omega)
  rw [e] at this
  rw [← ins_at hs, List.map_append, List.map_cons, List.map_take, List.map_drop]
  exact this
theorem add_ok_E (l : List Tr) (t : Tr) (i : Int) (v9 v3 v8 v54 v7 : Nat) (ho : OK ⟨i, l⟩) (hpt : prE t i = 0) (he : addE l t = 0) (Hi : Heap) (h209 : Hi 209 = (⟨v9, true, false, 63, 2, (List.map cT (l))⟩ : Blk)) (h303 : (Hi 303).ver = v3) (h308 : (Hi 308).ver = v8) (h354 : (Hi 354).ver = v54) (h407 : (Hi 407).ver = v7) : CallOK Try.prog 103 [(V.ms 209 v9 0 (l.length)), (V.agg [(V.sl (List.map cI (t.ni))), (V.sl (List.map cI (t.no)))])] Hi (V.tup [(V.ms 209 (v9 + 2) 0 ((addL l t).length)), (iV (addE l t))]) (upd (upd (upd (upd (upd Hi 303 (⟨v3 + 1, false, false, 0, 0, []⟩ : Blk)) 308 (⟨v8 + l.length, false, false, 0, 0, []⟩ : Blk)) 354 (⟨v54 + 1, false, false, 0, 0, []⟩ : Blk)) 407 (⟨v7 + l.length, false, false, 0, 0, []⟩ : Blk)) 209 (⟨v9 + 2, true, false, 63, 2, (List.map cT (addL l t))⟩ : Blk)) := by
 refine CallOK_of_Wf (k0 := 300) Try.func103 s103_ok (by kernel_rfl) (by simp [s103]) fun hB => ?_
 simp only [bnd_map, bnd_int, bnd_bool, bnd_str, bnd_agg, bnd_pp, bnd_nil, bnd_cons, implies_true, and_true, true_and] at hB
 have hl : l.length ≤ 10000 := ho.len
 have hp1 := prE_ok hpt
 have hp2 := hp1.len
 have hp3 := hp1.lel
 have hpl : ∀ k, k < l.length → (nth l k).no.length = (nth l k).ni.length := fun k hk => ((ho.pr k hk).1.len)
 have hfl := List.length_filter_le (kp t) l
 have hsr : Srt (l.filter (kp t)) := filter_srt ho.srt _
 unfold s103
 dsimp only
 refine W_seq_regc (fun T H => T 0 = (V.ms 209 v9 0 (l.length)) ∧ T 3 = (V.mp 303 (v3 + 1) 0 0) ∧ (∀ j, j ∉ [303, 308, 354, 407, 209] → H j = Hi j) ∧ H 209 = (⟨v9, true, false, 63, 2, (List.map cT (l))⟩ : Blk) ∧ H 303 = (⟨v3 + 1, true, false, 63, 2, [[(V.sl (List.map cI (t.ni))), (V.sl (List.map cI (t.no)))]]⟩ : Blk) ∧ (H 308).ver = v8 ∧ (H 354).ver = v54 ∧ (H 407).ver = v7 ∧ True) ?_ ?_
 ·
  unfold r103_0
  refine R_box (i := 303) (n := v3) (m := 2) (cs := [(V.sl (List.map cI (t.ni))), (V.sl (List.map cI (t.no)))]) (by rfl) h303 (@rfl V (V.agg [(V.sl (List.map cI (t.ni))), (V.sl (List.map cI (t.no)))])) rfl rfl ?_
  refine R_mv (@rfl V V.nilsl) ?_
  refine R_mv (@rfl V (iV (0 : Int))) ?_
  exact R_nil ⟨rfl, rfl, (upd_out (fun _ _ => rfl) (by decide)), h209, rfl, h308, h354, h407, trivial⟩
 intro T H ⟨t0, t3, hF, h209, h303, h308, h354, h407, _⟩
 refine W_seq_regc (fun T H => T 0 = (V.ms 209 v9 0 (l.length)) ∧ T 3 = (V.mp 303 (v3 + 1) 0 0) ∧ T 6 = (V.bool false) ∧ (∀ j, j ∉ [303, 308, 354, 407, 209] → H j = Hi j) ∧ H 209 = (⟨v9, true, false, 63, 2, (List.map cT (l))⟩ : Blk) ∧ H 303 = (⟨v3 + 1, true, false, 63, 2, [[(V.sl (List.map cI (t.ni))), (V.sl (List.map cI (t.no)))]]⟩ : Blk) ∧ (H 308).ver = v8 ∧ (H 354).ver = v54 ∧ (H 407).ver = v7 ∧ True) ?_ ?_
 ·
  unfold r103_1
  refine R_mv (@rfl V (V.bool false)) ?_
  exact R_nil ⟨t0, t3, rfl, hF, h209, h303, h308, h354, h407, trivial⟩
 intro T H ⟨t0, t3, t6, hF, h209, h303, h308, h354, h407, _⟩
 refine W_seq_seq ?_
 refine W_seq_regc (fun T H => T 0 = (V.ms 209 v9 0 (l.length)) ∧ T 3 = (V.mp 303 (v3 + 1) 0 0) ∧ T 6 = (V.bool false) ∧ T 11 = (V.ms 209 v9 0 (l.length)) ∧ T 12 = (iV ((l.length : Nat) : Int)) ∧ T 13 = (iV (0 : Int)) ∧ (∀ j, j ∉ [303, 308, 354, 407, 209] → H j = Hi j) ∧ H 209 = (⟨v9, true, false, 63, 2, (List.map cT (l))⟩ : Blk) ∧ H 303 = (⟨v3 + 1, true, false, 63, 2, [[(V.sl (List.map cI (t.ni))), (V.sl (List.map cI (t.no)))]]⟩ : Blk) ∧ (H 308).ver = v8 ∧ (H 354).ver = v54 ∧ (H 407).ver = v7 ∧ True) ?_ ?_
 ·
  unfold r103_2
  refine R_mv t0 ?_
  refine R_len_ms (@rfl V (V.ms 209 v9 0 (l.length))) h209 (by first | rfl | simp) ?_
  refine R_mv (@rfl V (iV (0 : Int))) ?_
  exact R_nil ⟨t0, t3, t6, rfl, rfl, rfl, hF, h209, h303, h308, h354, h407, trivial⟩
 intro T H ⟨t0, t3, t6, t11, t12, t13, hF, h209, h303, h308, h354, h407, _⟩
 refine W_seq_blockg fun Q1 n1 x1 y1 z1 => ?_
 refine W_loop (fun mm T H => ∃ (k : Nat) (v308 : Nat), mm = l.length - k ∧ T 0 = (V.ms 209 v9 0 (l.length)) ∧ T 3 = (V.mp 303 (v3 + 1) 0 0) ∧ T 6 = (V.bool (exB (inP l t) 0 k)) ∧ T 11 = (V.ms 209 v9 0 (l.length)) ∧ T 12 = (iV ((l.length : Nat) : Int)) ∧ T 13 = (iV ((k : Nat) : Int)) ∧ (∀ j, j ∉ [303, 308, 354, 407, 209] → H j = Hi j) ∧ H 209 = (⟨v9, true, false, 63, 2, (List.map cT (l))⟩ : Blk) ∧ H 303 = (⟨v3 + 1, true, false, 63, 2, [[(V.sl (List.map cI (t.ni))), (V.sl (List.map cI (t.no)))]]⟩ : Blk) ∧ (H 308).ver = v308 ∧ (H 354).ver = v54 ∧ (H 407).ver = v7 ∧ (k ≤ l.length) ∧ (v308 ≤ v8 + k) ∧ (fi (ndP l t) 0 l.length = fi (ndP l t) k (l.length - k))) ?_ ?_
 ·
  refine ⟨_, 0, v8, rfl, t0, t3, (Eq.trans t6 (by first | rfl | (simp only [exB, inP, Nat.zero_add]; done) | (rw [he]; done) | (rw [addL, if_pos d2]; done) | (rw [addL, if_neg d2, ins_len]; done) | (rw [addE, if_pos (by rw [hc, fi_hit d1 (by omega)]; omega)]; done) | (rw [addE, if_neg d4, if_neg d2, if_pos (by omega)]; done))), t11, t12, (Eq.trans t13 (by first | rfl | (simp only [exB, inP, Nat.zero_add]; done) | (rw [he]; done) | (rw [addL, if_pos d2]; done) | (rw [addL, if_neg d2, ins_len]; done) | (rw [addE, if_pos (by rw [hc, fi_hit d1 (by omega)]; omega)]; done) | (rw [addE, if_neg d4, if_neg d2, if_pos (by omega)]; done))), hF, h209, h303, h308, h354, h407, ?_, ?_, ?_⟩
  · omega
  · omega
  · rfl
 intro mm T H ⟨k, v308, hmm, t0, t3, t6, t11, t12, t13, hF, h209, h303, h308, h354, h407, hk, hv8, hc⟩ Q2 p12 p22 p32
 unfold b103_0
 refine W_seq_regc (fun T H => T 0 = (V.ms 209 v9 0 (l.length)) ∧ T 3 = (V.mp 303 (v3 + 1) 0 0) ∧ T 6 = (V.bool (exB (inP l t) 0 k)) ∧ T 11 = (V.ms 209 v9 0 (l.length)) ∧ T 12 = (iV ((l.length : Nat) : Int)) ∧ T 13 = (iV ((k : Nat) : Int)) ∧ T 14 = (V.bool (decide (((k : Nat) : Int) < ((l.length : Nat) : Int)))) ∧ (∀ j, j ∉ [303, 308, 354, 407, 209] → H j = Hi j) ∧ H 209 = (⟨v9, true, false, 63, 2, (List.map cT (l))⟩ : Blk) ∧ H 303 = (⟨v3 + 1, true, false, 63, 2, [[(V.sl (List.map cI (t.ni))), (V.sl (List.map cI (t.no)))]]⟩ : Blk) ∧ (H 308).ver = v308 ∧ (H 354).ver = v54 ∧ (H 407).ver = v7 ∧ True) ?_ ?_
 ·
  unfold r103_3
  refine R_lss (x := ((k : Nat) : Int)) (y := ((l.length : Nat) : Int)) t13 t12 ?_
  exact R_nil ⟨t0, t3, t6, t11, t12, t13, rfl, hF, h209, h303, h308, h354, h407, trivial⟩
 intro T H ⟨t0, t3, t6, t11, t12, t13, t14, hF, h209, h303, h308, h354, h407, _⟩
 refine W_seq_if (p := ((k : Nat) : Int) < ((l.length : Nat) : Int)) t14 (fun c3 => ?_) (fun c3 => ?_)
 ·
  refine W_seq_skip ?_
  refine W_seq_blockg fun Q4 n4 x4 y4 z4 => ?_
  refine W_seq_regc (fun T H => T 0 = (V.ms 209 v9 0 (l.length)) ∧ T 3 = (V.mp 303 (v3 + 1) 0 0) ∧ T 6 = (V.bool (exB (inP l t) 0 k)) ∧ T 8 = (V.mp 308 (v308 + 1) 0 0) ∧ T 11 = (V.ms 209 v9 0 (l.length)) ∧ T 12 = (iV ((l.length : Nat) : Int)) ∧ T 13 = (iV ((k : Nat) : Int)) ∧ (∀ j, j ∉ [303, 308, 354, 407, 209] → H j = Hi j) ∧ H 209 = (⟨v9, true, false, 63, 2, (List.map cT (l))⟩ : Blk) ∧ H 303 = (⟨v3 + 1, true, false, 63, 2, [[(V.sl (List.map cI (t.ni))), (V.sl (List.map cI (t.no)))]]⟩ : Blk) ∧ H 308 = (⟨v308 + 1, true, false, 63, 2, [[(V.sl (List.map cI ((nth (l) (k)).ni))), (V.sl (List.map cI ((nth (l) (k)).no)))]]⟩ : Blk) ∧ (H 354).ver = v54 ∧ (H 407).ver = v7 ∧ True) ?_ ?_
  ·
   unfold r103_4
   refine R_idx_ms0 (i := k) t11 t13 h209 (okB_map (by omega)) rfl (by omega) ?_
   refine R_load_mp (v := (V.agg [(V.sl (List.map cI ((nth (l) (k)).ni))), (V.sl (List.map cI ((nth (l) (k)).no)))])) (@rfl V (V.mp 209 v9 k 0)) h209 (ldB_map (by omega) (by first | rfl | simp [ldV, V.one])) ?_
   refine R_alloc (i := 308) (n := v308) (m := 2) (by rfl) h308 rfl ?_
   refine R_store (vs := [(V.sl (List.map cI ((nth (l) (k)).ni))), (V.sl (List.map cI ((nth (l) (k)).no)))]) (B' := (⟨v308 + 1, true, false, 63, 2, [[(V.sl (List.map cI ((nth (l) (k)).ni))), (V.sl (List.map cI ((nth (l) (k)).no)))]]⟩ : Blk)) (@rfl V (V.mp 308 (v308 + 1) 0 0)) (@rfl V (V.agg [(V.sl (List.map cI ((nth (l) (k)).ni))), (V.sl (List.map cI ((nth (l) (k)).no)))])) rfl (@rfl Blk (⟨v308 + 1, true, false, 63, 2, [[V.nilsl, V.nilsl]]⟩ : Blk)) (by first | rfl | simp [stB, okB, Blk.own, putAt, V.one]) ?_
   exact R_nil ⟨t0, t3, t6, rfl, t11, t12, t13, (upd_out (upd_out hF (by decide)) (by decide)), h209, h303, rfl, h354, h407, trivial⟩
  intro T H ⟨t0, t3, t6, t8, t11, t12, t13, hF, h209, h303, h308, h354, h407, _⟩
  refine W_seq_seq ?_
  refine W_seq_regc (fun T H => T 0 = (V.ms 209 v9 0 (l.length)) ∧ T 3 = (V.mp 303 (v3 + 1) 0 0) ∧ T 6 = (V.bool (exB (inP l t) 0 k)) ∧ T 8 = (V.mp 308 (v308 + 1) 0 0) ∧ T 11 = (V.ms 209 v9 0 (l.length)) ∧ T 12 = (iV ((l.length : Nat) : Int)) ∧ T 13 = (iV ((k : Nat) : Int)) ∧ T 20 = (V.bool (decide ((0 : Int) ≤ (df ((nth (l) (k))) t)))) ∧ (∀ j, j ∉ [303, 308, 354, 407, 209] → H j = Hi j) ∧ H 209 = (⟨v9, true, false, 63, 2, (List.map cT (l))⟩ : Blk) ∧ H 303 = (⟨v3 + 1, true, false, 63, 2, [[(V.sl (List.map cI (t.ni))), (V.sl (List.map cI (t.no)))]]⟩ : Blk) ∧ H 308 = (⟨v308 + 1, true, false, 63, 2, [[(V.sl (List.map cI ((nth (l) (k)).ni))), (V.sl (List.map cI ((nth (l) (k)).no)))]]⟩ : Blk) ∧ (H 354).ver = v54 ∧ (H 407).ver = v7 ∧ True) ?_ ?_
  ·
   unfold r103_5
   refine R_load_mp (v := (V.agg [(V.sl (List.map cI ((nth (l) (k)).ni))), (V.sl (List.map cI ((nth (l) (k)).no)))])) t8 h308 (by first | rfl | simp [ldB, ldV, Blk.own, V.one]) ?_
   refine R_load_mp (v := (V.agg [(V.sl (List.map cI (t.ni))), (V.sl (List.map cI (t.no)))])) t3 h303 (by first | rfl | simp [ldB, ldV, Blk.own, V.one]) ?_
   refine R_call (evcons (@rfl V (V.agg [(V.sl (List.map cI ((nth (l) (k)).ni))), (V.sl (List.map cI ((nth (l) (k)).no)))])) (evcons (@rfl V (V.agg [(V.sl (List.map cI (t.ni))), (V.sl (List.map cI (t.no)))])) evnil)) (odiffer_pure ((nth (l) (k))) t (hpl k (by omega)) hp1.len) (fzv_mapcanon _ _ (by simp [-List.map_take, -List.map_drop, -List.map_append, -List.map_reverse])) (by simp [-List.map_take, -List.map_drop, -List.map_append, -List.map_reverse]) (Or.inl (by simp [-List.map_take, -List.map_drop, -List.map_append, -List.map_reverse])) ?_
   refine R_geq (x := (df ((nth (l) (k))) t)) (y := (0 : Int)) (@rfl V (iV (df ((nth (l) (k))) t))) (@rfl V (iV (0 : Int))) ?_
   exact R_nil ⟨t0, t3, t6, t8, t11, t12, t13, rfl, hF, h209, h303, h308, h354, h407, trivial⟩
  intro T H ⟨t0, t3, t6, t8, t11, t12, t13, t20, hF, h209, h303, h308, h354, h407, _⟩
  refine W_seq_if (p := (0 : Int) ≤ (df ((nth (l) (k))) t)) t20 (fun c5 => ?_) (fun c5 => ?_)
  ·
   have d1 : ndP l t k = true := decide_eq_true c5
   refine W_seq_seq ?_
   refine W_seq_regc (fun T H => T 4 = V.nilsl ∧ T 5 = (iV (13 : Int)) ∧ (∀ j, j ∉ [303, 308, 354, 407, 209] → H j = Hi j) ∧ H 209 = (⟨v9, true, false, 63, 2, (List.map cT (l))⟩ : Blk) ∧ H 303 = (⟨v3 + 1, true, false, 63, 2, [[(V.sl (List.map cI (t.ni))), (V.sl (List.map cI (t.no)))]]⟩ : Blk) ∧ H 308 = (⟨v308 + 1, true, false, 63, 2, [[(V.sl (List.map cI ((nth (l) (k)).ni))), (V.sl (List.map cI ((nth (l) (k)).no)))]]⟩ : Blk) ∧ (H 354).ver = v54 ∧ (H 407).ver = v7 ∧ True) ?_ ?_
   ·
    unfold r103_6
    refine R_mv (@rfl V V.nilsl) ?_
    refine R_mv (@rfl V (iV (13 : Int))) ?_
    exact R_nil ⟨rfl, rfl, hF, h209, h303, h308, h354, h407, trivial⟩
   intro T H ⟨t4, t5, hF, h209, h303, h308, h354, h407, _⟩
   refine W_seq_ret ?_
   refine y4 _ _ ?_
   refine p22 _ _ ?_
   refine y1 _ _ ?_
   exfalso; unfold addE at he; rw [if_pos (by rw [hc, fi_hit d1 (by omega)]; omega)] at he; cases he
  have d1 : ndP l t k = false := decide_eq_false c5
  refine W_seq_skip ?_
  refine W_regc (fun T H => T 0 = (V.ms 209 v9 0 (l.length)) ∧ T 3 = (V.mp 303 (v3 + 1) 0 0) ∧ T 6 = (V.bool (((exB (inP l t) 0 k) || (hp ((nth (l) (k)).ni) t.ni)))) ∧ T 11 = (V.ms 209 v9 0 (l.length)) ∧ T 12 = (iV ((l.length : Nat) : Int)) ∧ T 13 = (iV ((k : Nat) : Int)) ∧ (∀ j, j ∉ [303, 308, 354, 407, 209] → H j = Hi j) ∧ H 209 = (⟨v9, true, false, 63, 2, (List.map cT (l))⟩ : Blk) ∧ H 303 = (⟨v3 + 1, true, false, 63, 2, [[(V.sl (List.map cI (t.ni))), (V.sl (List.map cI (t.no)))]]⟩ : Blk) ∧ H 308 = (⟨v308 + 1, true, false, 63, 2, [[(V.sl (List.map cI ((nth (l) (k)).ni))), (V.sl (List.map cI ((nth (l) (k)).no)))]]⟩ : Blk) ∧ (H 354).ver = v54 ∧ (H 407).ver = v7 ∧ True) ?_ ?_
  ·
   unfold r103_7
   refine R_mv t6 ?_
   refine R_mv (@rfl V (V.bool (exB (inP l t) 0 k))) ?_
   refine Ops_seg 6 (fun T H => T 0 = (V.ms 209 v9 0 (l.length)) ∧ T 3 = (V.mp 303 (v3 + 1) 0 0) ∧ T 6 = (V.bool (exB (inP l t) 0 k)) ∧ T 11 = (V.ms 209 v9 0 (l.length)) ∧ T 12 = (iV ((l.length : Nat) : Int)) ∧ T 13 = (iV ((k : Nat) : Int)) ∧ T 28 = (V.bool (((exB (inP l t) 0 k) || (hp ((nth (l) (k)).ni) t.ni)))) ∧ (∀ j, j ∉ [303, 308, 354, 407, 209] → H j = Hi j) ∧ H 209 = (⟨v9, true, false, 63, 2, (List.map cT (l))⟩ : Blk) ∧ H 303 = (⟨v3 + 1, true, false, 63, 2, [[(V.sl (List.map cI (t.ni))), (V.sl (List.map cI (t.no)))]]⟩ : Blk) ∧ H 308 = (⟨v308 + 1, true, false, 63, 2, [[(V.sl (List.map cI ((nth (l) (k)).ni))), (V.sl (List.map cI ((nth (l) (k)).no)))]]⟩ : Blk) ∧ (H 354).ver = v54 ∧ (H 407).ver = v7 ∧ True) ?_ ?_
   ·
    by_cases g6 : (exB (inP l t) 0 k) = true
    ·
     refine G_no (Eq.trans (@rfl V (V.bool (exB (inP l t) 0 k))) (bbT g6)) (by decide) ?_
     refine G_no (Eq.trans (@rfl V (V.bool (exB (inP l t) 0 k))) (bbT g6)) (by decide) ?_
     refine G_no (Eq.trans (@rfl V (V.bool (exB (inP l t) 0 k))) (bbT g6)) (by decide) ?_
     refine G_no (Eq.trans (@rfl V (V.bool (exB (inP l t) 0 k))) (bbT g6)) (by decide) ?_
     refine G_no (Eq.trans (@rfl V (V.bool (exB (inP l t) 0 k))) (bbT g6)) (by decide) ?_
     refine R_pickT (Eq.trans (@rfl V (V.bool (exB (inP l t) 0 k))) (bbT g6)) (@rfl V (V.bool true)) ?_
     exact ⟨t0, t3, t6, t11, t12, t13, (Eq.trans (@rfl V (V.bool true)) (borT g6)), hF, h209, h303, h308, h354, h407, trivial⟩
    ·
     refine G_yes (Eq.trans (@rfl V (V.bool (exB (inP l t) 0 k))) (bbF g6)) ?_
     refine R_fld_mp (o' := 0) t8 h308 (by first | rfl | simp [okB, Blk.own]) rfl ?_
     refine G_yes (Eq.trans (@rfl V (V.bool (exB (inP l t) 0 k))) (bbF g6)) ?_
     refine R_load_mp (v := (V.sl (List.map cI ((nth (l) (k)).ni)))) (@rfl V (V.mp 308 (v308 + 1) 0 0)) h308 (by first | rfl | simp [ldB, ldV, Blk.own, V.one]) ?_
     refine G_yes (Eq.trans (@rfl V (V.bool (exB (inP l t) 0 k))) (bbF g6)) ?_
     refine R_fld_mp (o' := 0) t3 h303 (by first | rfl | simp [okB, Blk.own]) rfl ?_
     refine G_yes (Eq.trans (@rfl V (V.bool (exB (inP l t) 0 k))) (bbF g6)) ?_
     refine R_load_mp (v := (V.sl (List.map cI (t.ni)))) (@rfl V (V.mp 303 (v3 + 1) 0 0)) h303 (by first | rfl | simp [ldB, ldV, Blk.own, V.one]) ?_
     refine G_yes (Eq.trans (@rfl V (V.bool (exB (inP l t) 0 k))) (bbF g6)) ?_
     refine R_call (evcons (@rfl V (V.sl (List.map cI ((nth (l) (k)).ni)))) (evcons (@rfl V (V.sl (List.map cI (t.ni)))) evnil)) (hp_pure ((nth (l) (k)).ni) t.ni) (fzv_mapcanon _ _ (by simp [-List.map_take, -List.map_drop, -List.map_append, -List.map_reverse])) (by simp [-List.map_take, -List.map_drop, -List.map_append, -List.map_reverse]) (Or.inl (by simp [-List.map_take, -List.map_drop, -List.map_append, -List.map_reverse])) ?_
     refine R_pickF (Eq.trans (@rfl V (V.bool (exB (inP l t) 0 k))) (bbF g6)) (@rfl V (V.bool (hp ((nth (l) (k)).ni) t.ni))) ?_
     exact ⟨t0, t3, t6, t11, t12, t13, (Eq.trans (@rfl V (V.bool (hp ((nth (l) (k)).ni) t.ni))) (borF g6)), hF, h209, h303, h308, h354, h407, trivial⟩
   intro T H ⟨t0, t3, t6, t11, t12, t13, t28, hF, h209, h303, h308, h354, h407, _⟩
   refine R_mv t28 ?_
   exact R_nil ⟨t0, t3, rfl, t11, t12, t13, hF, h209, h303, h308, h354, h407, trivial⟩
  intro T H ⟨t0, t3, t6, t11, t12, t13, hF, h209, h303, h308, h354, h407, _⟩
  refine n4 _ _ ?_
  refine .done ?_
  refine W_regc (fun T H => T 0 = (V.ms 209 v9 0 (l.length)) ∧ T 3 = (V.mp 303 (v3 + 1) 0 0) ∧ T 6 = (V.bool (((exB (inP l t) 0 k) || (hp ((nth (l) (k)).ni) t.ni)))) ∧ T 11 = (V.ms 209 v9 0 (l.length)) ∧ T 12 = (iV ((l.length : Nat) : Int)) ∧ T 13 = (iV ((k + 1 : Nat) : Int)) ∧ (∀ j, j ∉ [303, 308, 354, 407, 209] → H j = Hi j) ∧ H 209 = (⟨v9, true, false, 63, 2, (List.map cT (l))⟩ : Blk) ∧ H 303 = (⟨v3 + 1, true, false, 63, 2, [[(V.sl (List.map cI (t.ni))), (V.sl (List.map cI (t.no)))]]⟩ : Blk) ∧ H 308 = (⟨v308 + 1, true, false, 63, 2, [[(V.sl (List.map cI ((nth (l) (k)).ni))), (V.sl (List.map cI ((nth (l) (k)).no)))]]⟩ : Blk) ∧ (H 354).ver = v54 ∧ (H 407).ver = v7 ∧ True) ?_ ?_
  ·
   unfold r103_8
   refine R_addN (m := k) (n := 1) t13 (@rfl V (iV ((1 : Nat) : Int))) (by omega) ?_
   refine R_mv (@rfl V (iV ((k + 1 : Nat) : Int))) ?_
   exact R_nil ⟨t0, t3, t6, t11, t12, rfl, hF, h209, h303, h308, h354, h407, trivial⟩
  intro T H ⟨t0, t3, t6, t11, t12, t13, hF, h209, h303, h308, h354, h407, _⟩
  refine p12 _ _ _ ?_ ⟨(k + 1), (v308 + 1), rfl, t0, t3, (Eq.trans t6 (by first | rfl | (simp only [exB, inP, Nat.zero_add]; done) | (rw [he]; done) | (rw [addL, if_pos d2]; done) | (rw [addL, if_neg d2, ins_len]; done) | (rw [addE, if_pos (by rw [hc, fi_hit d1 (by omega)]; omega)]; done) | (rw [addE, if_neg d4, if_neg d2, if_pos (by omega)]; done))), t11, t12, (Eq.trans t13 (by first | rfl | (simp only [exB, inP, Nat.zero_add]; done) | (rw [he]; done) | (rw [addL, if_pos d2]; done) | (rw [addL, if_neg d2, ins_len]; done) | (rw [addE, if_pos (by rw [hc, fi_hit d1 (by omega)]; omega)]; done) | (rw [addE, if_neg d4, if_neg d2, if_pos (by omega)]; done))), hF, h209, h303, (congrArg Blk.ver h308), h354, h407, ?_, ?_, ?_⟩
  · omega
  · omega
  · omega
  · rw [hc, fi_skip d1 (by omega)]
 refine W_seq_exit ?_
 refine p32 _ _ _ ?_
 refine x1 _ _ ?_
 refine .done ?_
 refine W_seq_seq ?_
 refine W_seq_regc (fun T H => T 0 = (V.ms 209 v9 0 (l.length)) ∧ T 3 = (V.mp 303 (v3 + 1) 0 0) ∧ T 36 = (V.bool (((exB (inP l t) 0 k) || decide (((t.ni.length : Nat) : Int) = (0 : Int))))) ∧ (∀ j, j ∉ [303, 308, 354, 407, 209] → H j = Hi j) ∧ H 209 = (⟨v9, true, false, 63, 2, (List.map cT (l))⟩ : Blk) ∧ H 303 = (⟨v3 + 1, true, false, 63, 2, [[(V.sl (List.map cI (t.ni))), (V.sl (List.map cI (t.no)))]]⟩ : Blk) ∧ (H 308).ver = v308 ∧ (H 354).ver = v54 ∧ (H 407).ver = v7 ∧ True) ?_ ?_
 ·
  unfold r103_9
  refine R_mv t6 ?_
  refine R_mv (@rfl V (V.bool (exB (inP l t) 0 k))) ?_
  refine Ops_seg 5 (fun T H => T 0 = (V.ms 209 v9 0 (l.length)) ∧ T 3 = (V.mp 303 (v3 + 1) 0 0) ∧ T 36 = (V.bool (((exB (inP l t) 0 k) || decide (((t.ni.length : Nat) : Int) = (0 : Int))))) ∧ (∀ j, j ∉ [303, 308, 354, 407, 209] → H j = Hi j) ∧ H 209 = (⟨v9, true, false, 63, 2, (List.map cT (l))⟩ : Blk) ∧ H 303 = (⟨v3 + 1, true, false, 63, 2, [[(V.sl (List.map cI (t.ni))), (V.sl (List.map cI (t.no)))]]⟩ : Blk) ∧ (H 308).ver = v308 ∧ (H 354).ver = v54 ∧ (H 407).ver = v7 ∧ True) ?_ ?_
  ·
   by_cases g7 : (exB (inP l t) 0 k) = true
   ·
    refine G_no (Eq.trans (@rfl V (V.bool (exB (inP l t) 0 k))) (bbT g7)) (by decide) ?_
    refine G_no (Eq.trans (@rfl V (V.bool (exB (inP l t) 0 k))) (bbT g7)) (by decide) ?_
    refine G_no (Eq.trans (@rfl V (V.bool (exB (inP l t) 0 k))) (bbT g7)) (by decide) ?_
    refine G_no (Eq.trans (@rfl V (V.bool (exB (inP l t) 0 k))) (bbT g7)) (by decide) ?_
    refine R_pickT (Eq.trans (@rfl V (V.bool (exB (inP l t) 0 k))) (bbT g7)) (@rfl V (V.bool true)) ?_
    exact ⟨t0, t3, (Eq.trans (@rfl V (V.bool true)) (borT g7)), hF, h209, h303, h308, h354, h407, trivial⟩
   ·
    refine G_yes (Eq.trans (@rfl V (V.bool (exB (inP l t) 0 k))) (bbF g7)) ?_
    refine R_fld_mp (o' := 0) t3 h303 (by first | rfl | simp [okB, Blk.own]) rfl ?_
    refine G_yes (Eq.trans (@rfl V (V.bool (exB (inP l t) 0 k))) (bbF g7)) ?_
    refine R_load_mp (v := (V.sl (List.map cI (t.ni)))) (@rfl V (V.mp 303 (v3 + 1) 0 0)) h303 (by first | rfl | simp [ldB, ldV, Blk.own, V.one]) ?_
    refine G_yes (Eq.trans (@rfl V (V.bool (exB (inP l t) 0 k))) (bbF g7)) ?_
    refine R_len (@rfl V (V.sl (List.map cI (t.ni)))) ?_
    refine G_yes (Eq.trans (@rfl V (V.bool (exB (inP l t) 0 k))) (bbF g7)) ?_
    refine R_eql (x := ((t.ni.length : Nat) : Int)) (y := (0 : Int)) (@rfl V (iV ((t.ni.length : Nat) : Int))) (@rfl V (iV (0 : Int))) ?_
    refine R_pickF (Eq.trans (@rfl V (V.bool (exB (inP l t) 0 k))) (bbF g7)) (@rfl V (V.bool (decide (((t.ni.length : Nat) : Int) = (0 : Int))))) ?_
    exact ⟨t0, t3, (Eq.trans (@rfl V (V.bool (decide (((t.ni.length : Nat) : Int) = (0 : Int))))) (borF g7)), hF, h209, h303, h308, h354, h407, trivial⟩
  intro T H ⟨t0, t3, t36, hF, h209, h303, h308, h354, h407, _⟩
  exact R_nil ⟨t0, t3, t36, hF, h209, h303, h308, h354, h407, trivial⟩
 intro T H ⟨t0, t3, t36, hF, h209, h303, h308, h354, h407, _⟩
 refine W_seq_ifb t36 (fun c8 => ?_) (fun c8 => ?_)
 ·
  have d2 : inL l t := by have q := c8; rw [show k = l.length by omega] at q; simpa [inL] using q
  refine W_seq_seq ?_
  refine W_seq_regc (fun T H => T 4 = (V.ms 209 v9 0 (l.length)) ∧ T 5 = (iV (0 : Int)) ∧ (∀ j, j ∉ [303, 308, 354, 407, 209] → H j = Hi j) ∧ H 209 = (⟨v9, true, false, 63, 2, (List.map cT (l))⟩ : Blk) ∧ H 303 = (⟨v3 + 1, true, false, 63, 2, [[(V.sl (List.map cI (t.ni))), (V.sl (List.map cI (t.no)))]]⟩ : Blk) ∧ (H 308).ver = v308 ∧ (H 354).ver = v54 ∧ (H 407).ver = v7 ∧ True) ?_ ?_
  ·
   unfold r103_10
   refine R_mv t0 ?_
   refine R_mv (@rfl V (V.ms 209 v9 0 (l.length))) ?_
   refine R_mv (@rfl V (iV (0 : Int))) ?_
   exact R_nil ⟨rfl, rfl, hF, h209, h303, h308, h354, h407, trivial⟩
  intro T H ⟨t4, t5, hF, h209, h303, h308, h354, h407, _⟩
  refine W_seq_ret ?_
  skip
  have fh := FinX.fin (FinX.put (B := (⟨v9 + 2, true, false, 63, 2, (List.map cT (addL l t))⟩ : Blk)) (FinX.putv (n := v7) (B := (⟨v7 + l.length, false, false, 0, 0, []⟩ : Blk)) (FinX.putv (n := v54) (B := (⟨v54 + 1, false, false, 0, 0, []⟩ : Blk)) (FinX.putv (n := v308) (B := (⟨v8 + l.length, false, false, 0, 0, []⟩ : Blk)) (FinX.putv (n := (v3 + 1)) (B := (⟨v3 + 1, false, false, 0, 0, []⟩ : Blk)) (FinX.start hF) (congrArg Blk.ver h303) (by show _ ≤ v3 + 1; omega) rfl) h308 (by show _ ≤ v8 + l.length; omega) rfl) h354 (by show _ ≤ v54 + 1; omega) rfl) h407 (by show _ ≤ v7 + l.length; omega) rfl) h209 (FinB.up (by omega) (by first | rfl | (rw [addL, if_pos d2]; done) | (rw [addL, if_neg d2]; done))))
  exact RetF_2 t4 t5 fh (FinV.trans_eq (FinV.ms (n := (v9 + 2)) fh (by simp [h209]) (by simp [h209]) rfl rfl) (by first | rfl | (simp only [exB, inP, Nat.zero_add]; done) | (rw [he]; done) | (rw [addL, if_pos d2]; done) | (rw [addL, if_neg d2, ins_len]; done) | (rw [addE, if_pos (by rw [hc, fi_hit d1 (by omega)]; omega)]; done) | (rw [addE, if_neg d4, if_neg d2, if_pos (by omega)]; done))) (FinV.trans_eq (FinV.same fh _) (by first | rfl | (simp only [exB, inP, Nat.zero_add]; done) | (rw [he]; done) | (rw [addL, if_pos d2]; done) | (rw [addL, if_neg d2, ins_len]; done) | (rw [addE, if_pos (by rw [hc, fi_hit d1 (by omega)]; omega)]; done) | (rw [addE, if_neg d4, if_neg d2, if_pos (by omega)]; done)))
 have d2 : ¬inL l t := by have q := c8; rw [show k = l.length by omega] at q; simpa [inL] using q
 refine W_seq_skip ?_
 refine W_seq_regc (fun T H => T 0 = (V.ms 209 v9 0 (((l.filter (kp t)).length))) ∧ T 3 = (V.mp 303 (v3 + 1) 0 0) ∧ (∀ j, j ∉ [303, 308, 354, 407, 209] → H j = Hi j) ∧ H 209 = (⟨v9, true, false, 63, 2, (List.map cT (l.filter (kp t)) ++ List.replicate (l.length - (l.filter (kp t)).length) [V.nilsl, V.nilsl])⟩ : Blk) ∧ H 303 = (⟨v3 + 1, true, false, 63, 2, [[(V.sl (List.map cI (t.ni))), (V.sl (List.map cI (t.no)))]]⟩ : Blk) ∧ (H 308).ver = v308 ∧ (H 354).ver = v54 ∧ H 407 = (⟨v7 + l.length, false, false, 0, 0, []⟩ : Blk) ∧ True) ?_ ?_
 ·
  unfold r103_11
  refine R_mv t0 ?_
  refine R_mkf (evcons t3 evnil) ?_
  refine R_callE (evcons (@rfl V (V.ms 209 v9 0 (l.length))) (evcons (@rfl V (V.fn 117 [] [(V.mp 303 (v3 + 1) 0 0)])) evnil)) (del_E l t v9 (v3 + 1) v7 _ h209 h303 h407 (by omega)) ?_
  refine R_mv (@rfl V (V.ms 209 v9 0 (((l.filter (kp t)).length)))) ?_
  exact R_nil ⟨rfl, t3, (upd_out (upd_out hF (by decide)) (by decide)), rfl, h303, h308, h354, rfl, trivial⟩
 intro T H ⟨t0, t3, hF, h209, h303, h308, h354, h407, _⟩
 refine W_seq_seq ?_
 refine W_seq_regc (fun T H => T 0 = (V.ms 209 v9 0 (((l.filter (kp t)).length))) ∧ T 3 = (V.mp 303 (v3 + 1) 0 0) ∧ T 43 = (V.bool (decide (((((l.filter (kp t)).length) : Nat) : Int) = (10000 : Int)))) ∧ (∀ j, j ∉ [303, 308, 354, 407, 209] → H j = Hi j) ∧ H 209 = (⟨v9, true, false, 63, 2, (List.map cT (l.filter (kp t)) ++ List.replicate (l.length - (l.filter (kp t)).length) [V.nilsl, V.nilsl])⟩ : Blk) ∧ H 303 = (⟨v3 + 1, true, false, 63, 2, [[(V.sl (List.map cI (t.ni))), (V.sl (List.map cI (t.no)))]]⟩ : Blk) ∧ (H 308).ver = v308 ∧ (H 354).ver = v54 ∧ H 407 = (⟨v7 + l.length, false, false, 0, 0, []⟩ : Blk) ∧ True) ?_ ?_
 ·
  unfold r103_12
  refine R_mv t0 ?_
  refine R_len_ms (@rfl V (V.ms 209 v9 0 (((l.filter (kp t)).length)))) h209 (by first | rfl | simp) ?_
  refine R_eql (x := ((((l.filter (kp t)).length) : Nat) : Int)) (y := (10000 : Int)) (@rfl V (iV ((((l.filter (kp t)).length) : Nat) : Int))) (@rfl V (iV (10000 : Int))) ?_
  exact R_nil ⟨t0, t3, rfl, hF, h209, h303, h308, h354, h407, trivial⟩
 intro T H ⟨t0, t3, t43, hF, h209, h303, h308, h354, h407, _⟩
 refine W_seq_if (p := ((((l.filter (kp t)).length) : Nat) : Int) = (10000 : Int)) t43 (fun c9 => ?_) (fun c9 => ?_)
 ·
  have d3 := c9
  refine W_seq_seq ?_
  refine W_seq_regc (fun T H => T 4 = V.nilsl ∧ T 5 = (iV (11 : Int)) ∧ (∀ j, j ∉ [303, 308, 354, 407, 209] → H j = Hi j) ∧ H 209 = (⟨v9, true, false, 63, 2, (List.map cT (l.filter (kp t)) ++ List.replicate (l.length - (l.filter (kp t)).length) [V.nilsl, V.nilsl])⟩ : Blk) ∧ H 303 = (⟨v3 + 1, true, false, 63, 2, [[(V.sl (List.map cI (t.ni))), (V.sl (List.map cI (t.no)))]]⟩ : Blk) ∧ (H 308).ver = v308 ∧ (H 354).ver = v54 ∧ H 407 = (⟨v7 + l.length, false, false, 0, 0, []⟩ : Blk) ∧ True) ?_ ?_
  ·
   unfold r103_13
   refine R_mv (@rfl V V.nilsl) ?_
   refine R_mv (@rfl V (iV (11 : Int))) ?_
   exact R_nil ⟨rfl, rfl, hF, h209, h303, h308, h354, h407, trivial⟩
  intro T H ⟨t4, t5, hF, h209, h303, h308, h354, h407, _⟩
  refine W_seq_ret ?_
  exfalso
  have d4 : ¬0 ≤ fi (ndP l t) 0 l.length := by rw [hc, fi_end (by omega)]; omega
  unfold addE at he
  rw [if_neg d4, if_neg d2, if_pos (by omega)] at he; cases he
 have d3 := c9
 refine W_seq_skip ?_
 refine W_seq_regc (fun T H => T 0 = (V.ms 209 v9 0 (((l.filter (kp t)).length))) ∧ T 3 = (V.mp 303 (v3 + 1) 0 0) ∧ T 9 = (iV ((lbN (l.filter (kp t)) t : Nat) : Int)) ∧ (∀ j, j ∉ [303, 308, 354, 407, 209] → H j = Hi j) ∧ H 209 = (⟨v9, true, false, 63, 2, (List.map cT (l.filter (kp t)) ++ List.replicate (l.length - (l.filter (kp t)).length) [V.nilsl, V.nilsl])⟩ : Blk) ∧ H 303 = (⟨v3 + 1, true, false, 63, 2, [[(V.sl (List.map cI (t.ni))), (V.sl (List.map cI (t.no)))]]⟩ : Blk) ∧ (H 308).ver = v308 ∧ (H 354).ver = v54 ∧ H 407 = (⟨v7 + l.length, false, false, 0, 0, []⟩ : Blk) ∧ True) ?_ ?_
 ·
  unfold r103_14
  refine R_mv t0 ?_
  refine R_load_mp (v := (V.agg [(V.sl (List.map cI (t.ni))), (V.sl (List.map cI (t.no)))])) t3 h303 (by first | rfl | simp [ldB, ldV, Blk.own, V.one]) ?_
  refine R_call (evcons (@rfl V (V.ms 209 v9 0 (((l.filter (kp t)).length)))) (evcons (@rfl V (V.agg [(V.sl (List.map cI (t.ni))), (V.sl (List.map cI (t.no)))])) (evcons (@rfl V (V.fn 79 [] [])) evnil))) (bs_pure (l.filter (kp t)) t hsr (by first | omega | assumption)) (mcons (fz_mst h209 (by first | rfl | simp) (take_zap (l := (l.filter (kp t))) (by first | rfl | simp | omega)) (fun _ => by simp)) (mcons (fzv_canon 6 _ (by simp [-List.map_take, -List.map_drop, -List.map_append, -List.map_reverse])) (mcons (fzv_canon 6 _ (by simp [-List.map_take, -List.map_drop, -List.map_append, -List.map_reverse])) rfl))) (by simp [-List.map_take, -List.map_drop, -List.map_append, -List.map_reverse]) (Or.inr rfl) ?_
  refine R_mv (@rfl V (V.tup [(iV ((lbN (l.filter (kp t)) t : Nat) : Int)), (V.bool (decide (lbN (l.filter (kp t)) t < (l.filter (kp t)).length ∧ slx (nth (l.filter (kp t)) (lbN (l.filter (kp t)) t)).ni t.ni = 0)))])) ?_
  refine R_ext (v := (iV ((lbN (l.filter (kp t)) t : Nat) : Int))) (@rfl V (V.tup [(iV ((lbN (l.filter (kp t)) t : Nat) : Int)), (V.bool (decide (lbN (l.filter (kp t)) t < (l.filter (kp t)).length ∧ slx (nth (l.filter (kp t)) (lbN (l.filter (kp t)) t)).ni t.ni = 0)))])) rfl ?_
  refine R_ext (v := (V.bool (decide (lbN (l.filter (kp t)) t < (l.filter (kp t)).length ∧ slx (nth (l.filter (kp t)) (lbN (l.filter (kp t)) t)).ni t.ni = 0)))) (@rfl V (V.tup [(iV ((lbN (l.filter (kp t)) t : Nat) : Int)), (V.bool (decide (lbN (l.filter (kp t)) t < (l.filter (kp t)).length ∧ slx (nth (l.filter (kp t)) (lbN (l.filter (kp t)) t)).ni t.ni = 0)))])) rfl ?_
  refine R_mv (@rfl V (iV ((lbN (l.filter (kp t)) t : Nat) : Int))) ?_
  refine R_mv (@rfl V (V.bool (decide (lbN (l.filter (kp t)) t < (l.filter (kp t)).length ∧ slx (nth (l.filter (kp t)) (lbN (l.filter (kp t)) t)).ni t.ni = 0)))) ?_
  exact R_nil ⟨t0, t3, rfl, hF, h209, h303, h308, h354, h407, trivial⟩
 intro T H ⟨t0, t3, t9, hF, h209, h303, h308, h354, h407, _⟩
 refine W_seq_regc (fun T H => T 4 = (V.ms 209 (v9 + 2) 0 ((l.filter (kp t)).length + 1)) ∧ T 5 = (iV (0 : Int)) ∧ (∀ j, j ∉ [303, 308, 354, 407, 209] → H j = Hi j) ∧ H 209 = (⟨v9 + 2, true, false, 63, 2, (List.map cT (ins (l.filter (kp t)) t))⟩ : Blk) ∧ H 303 = (⟨v3 + 1, true, false, 63, 2, [[(V.sl (List.map cI (t.ni))), (V.sl (List.map cI (t.no)))]]⟩ : Blk) ∧ (H 308).ver = v308 ∧ H 354 = (⟨v54 + 1, true, false, 63, 2, [[(V.sl (List.map cI (t.ni))), (V.sl (List.map cI (t.no)))]]⟩ : Blk) ∧ H 407 = (⟨v7 + l.length, false, false, 0, 0, []⟩ : Blk) ∧ True) ?_ ?_
 ·
  unfold r103_15
  refine R_mv t0 ?_
  refine R_mv t9 ?_
  refine R_load_mp (v := (V.agg [(V.sl (List.map cI (t.ni))), (V.sl (List.map cI (t.no)))])) t3 h303 (by first | rfl | simp [ldB, ldV, Blk.own, V.one]) ?_
  refine R_call (evcons (@rfl V (V.agg [(V.sl (List.map cI (t.ni))), (V.sl (List.map cI (t.no)))])) evnil) (copied_pure t (by first | omega | assumption) (by first | omega | assumption)) (fzv_mapcanon _ _ (by simp [-List.map_take, -List.map_drop, -List.map_append, -List.map_reverse])) (by simp [-List.map_take, -List.map_drop, -List.map_append, -List.map_reverse]) (Or.inl (by simp [-List.map_take, -List.map_drop, -List.map_append, -List.map_reverse])) ?_
  refine R_bslice_own (i := 354) (n := v54) (qs := [(0, (V.agg [(V.sl (List.map cI (t.ni))), (V.sl (List.map cI (t.no)))]))]) (rows := [[(V.sl (List.map cI (t.ni))), (V.sl (List.map cI (t.no)))]]) (by rfl) h354 (mcons (congrArg (fun v => (0, v)) (@rfl V (V.agg [(V.sl (List.map cI (t.ni))), (V.sl (List.map cI (t.no)))]))) rfl) rfl ?_
  refine R_callE (evcons (@rfl V (V.ms 209 v9 0 (((l.filter (kp t)).length)))) (evcons (@rfl V (iV ((lbN (l.filter (kp t)) t : Nat) : Int))) (evcons (@rfl V (V.ms 354 (v54 + 1) 0 (1))) evnil))) (insert_tr (F := (l.filter (kp t))) (t := t) _ h209 rfl (by omega) hsr) ?_
  refine R_mv (@rfl V (V.ms 209 (v9 + 2) 0 ((l.filter (kp t)).length + 1))) ?_
  refine R_mv (@rfl V (iV (0 : Int))) ?_
  exact R_nil ⟨rfl, rfl, (upd_out (upd_out hF (by decide)) (by decide)), rfl, h303, h308, rfl, h407, trivial⟩
 intro T H ⟨t4, t5, hF, h209, h303, h308, h354, h407, _⟩
 refine W_ret ?_
 skip
 have fh := FinX.fin (FinX.put (B := (⟨v9 + 2, true, false, 63, 2, (List.map cT (addL l t))⟩ : Blk)) (FinX.put (FinX.putv (n := (v54 + 1)) (B := (⟨v54 + 1, false, false, 0, 0, []⟩ : Blk)) (FinX.putv (n := v308) (B := (⟨v8 + l.length, false, false, 0, 0, []⟩ : Blk)) (FinX.putv (n := (v3 + 1)) (B := (⟨v3 + 1, false, false, 0, 0, []⟩ : Blk)) (FinX.start hF) (congrArg Blk.ver h303) (by show _ ≤ v3 + 1; omega) rfl) h308 (by show _ ≤ v8 + l.length; omega) rfl) (congrArg Blk.ver h354) (by show _ ≤ v54 + 1; omega) rfl) h407 (FinB.eq rfl)) h209 (FinB.eq (by first | rfl | (rw [addL, if_pos d2]; done) | (rw [addL, if_neg d2]; done))))
 exact RetF_2 t4 t5 fh (FinV.trans_eq (FinV.same fh _) (by first | rfl | (simp only [exB, inP, Nat.zero_add]; done) | (rw [he]; done) | (rw [addL, if_pos d2]; done) | (rw [addL, if_neg d2, ins_len]; done) | (rw [addE, if_pos (by rw [hc, fi_hit d1 (by omega)]; omega)]; done) | (rw [addE, if_neg d4, if_neg d2, if_pos (by omega)]; done))) (FinV.trans_eq (FinV.same fh _) (by first | rfl | (simp only [exB, inP, Nat.zero_add]; done) | (rw [he]; done) | (rw [addL, if_pos d2]; done) | (rw [addL, if_neg d2, ins_len]; done) | (rw [addE, if_pos (by rw [hc, fi_hit d1 (by omega)]; omega)]; done) | (rw [addE, if_neg d4, if_neg d2, if_pos (by omega)]; done)))
theorem add_err_E (l : List Tr) (t : Tr) (i : Int) (v9 v3 v8 v54 v7 : Nat) (ho : OK ⟨i, l⟩) (hpt : prE t i = 0) (he : addE l t ≠ 0) (Hi : Heap) (h209 : Hi 209 = (⟨v9, true, false, 63, 2, (List.map cT (l))⟩ : Blk)) (h303 : (Hi 303).ver = v3) (h308 : (Hi 308).ver = v8) (h354 : (Hi 354).ver = v54) (h407 : (Hi 407).ver = v7) : CallOK Try.prog 103 [(V.ms 209 v9 0 (l.length)), (V.agg [(V.sl (List.map cI (t.ni))), (V.sl (List.map cI (t.no)))])] Hi (V.tup [(V.sl []), (iV (addE l t))]) (upd (upd (upd (upd (upd Hi 303 (⟨v3 + 1, false, false, 0, 0, []⟩ : Blk)) 308 (⟨v8 + l.length, false, false, 0, 0, []⟩ : Blk)) 354 (⟨v54 + 1, false, false, 0, 0, []⟩ : Blk)) 407 (⟨v7 + l.length, false, false, 0, 0, []⟩ : Blk)) 209 (⟨v9 + 2, false, false, 0, 0, []⟩ : Blk)) := by
 refine CallOK_of_Wf (k0 := 300) Try.func103 s103_ok (by kernel_rfl) (by simp [s103]) fun hB => ?_
 simp only [bnd_map, bnd_int, bnd_bool, bnd_str, bnd_agg, bnd_pp, bnd_nil, bnd_cons, implies_true, and_true, true_and] at hB
 have hl : l.length ≤ 10000 := ho.len
 have hp1 := prE_ok hpt
 have hp2 := hp1.len
 have hp3 := hp1.lel
 have hpl : ∀ k, k < l.length → (nth l k).no.length = (nth l k).ni.length := fun k hk => ((ho.pr k hk).1.len)
 have hfl := List.length_filter_le (kp t) l
 have hsr : Srt (l.filter (kp t)) := filter_srt ho.srt _
 unfold s103
 dsimp only
 refine W_seq_regc (fun T H => T 0 = (V.ms 209 v9 0 (l.length)) ∧ T 3 = (V.mp 303 (v3 + 1) 0 0) ∧ (∀ j, j ∉ [303, 308, 354, 407, 209] → H j = Hi j) ∧ H 209 = (⟨v9, true, false, 63, 2, (List.map cT (l))⟩ : Blk) ∧ H 303 = (⟨v3 + 1, true, false, 63, 2, [[(V.sl (List.map cI (t.ni))), (V.sl (List.map cI (t.no)))]]⟩ : Blk) ∧ (H 308).ver = v8 ∧ (H 354).ver = v54 ∧ (H 407).ver = v7 ∧ True) ?_ ?_
 ·
  unfold r103_0
  refine R_box (i := 303) (n := v3) (m := 2) (cs := [(V.sl (List.map cI (t.ni))), (V.sl (List.map cI (t.no)))]) (by rfl) h303 (@rfl V (V.agg [(V.sl (List.map cI (t.ni))), (V.sl (List.map cI (t.no)))])) rfl rfl ?_
  refine R_mv (@rfl V V.nilsl) ?_
  refine R_mv (@rfl V (iV (0 : Int))) ?_
  exact R_nil ⟨rfl, rfl, (upd_out (fun _ _ => rfl) (by decide)), h209, rfl, h308, h354, h407, trivial⟩
 intro T H ⟨t0, t3, hF, h209, h303, h308, h354, h407, _⟩
 refine W_seq_regc (fun T H => T 0 = (V.ms 209 v9 0 (l.length)) ∧ T 3 = (V.mp 303 (v3 + 1) 0 0) ∧ T 6 = (V.bool false) ∧ (∀ j, j ∉ [303, 308, 354, 407, 209] → H j = Hi j) ∧ H 209 = (⟨v9, true, false, 63, 2, (List.map cT (l))⟩ : Blk) ∧ H 303 = (⟨v3 + 1, true, false, 63, 2, [[(V.sl (List.map cI (t.ni))), (V.sl (List.map cI (t.no)))]]⟩ : Blk) ∧ (H 308).ver = v8 ∧ (H 354).ver = v54 ∧ (H 407).ver = v7 ∧ True) ?_ ?_
 ·
  unfold r103_1
  refine R_mv (@rfl V (V.bool false)) ?_
  exact R_nil ⟨t0, t3, rfl, hF, h209, h303, h308, h354, h407, trivial⟩
 intro T H ⟨t0, t3, t6, hF, h209, h303, h308, h354, h407, _⟩
 refine W_seq_seq ?_
 refine W_seq_regc (fun T H => T 0 = (V.ms 209 v9 0 (l.length)) ∧ T 3 = (V.mp 303 (v3 + 1) 0 0) ∧ T 6 = (V.bool false) ∧ T 11 = (V.ms 209 v9 0 (l.length)) ∧ T 12 = (iV ((l.length : Nat) : Int)) ∧ T 13 = (iV (0 : Int)) ∧ (∀ j, j ∉ [303, 308, 354, 407, 209] → H j = Hi j) ∧ H 209 = (⟨v9, true, false, 63, 2, (List.map cT (l))⟩ : Blk) ∧ H 303 = (⟨v3 + 1, true, false, 63, 2, [[(V.sl (List.map cI (t.ni))), (V.sl (List.map cI (t.no)))]]⟩ : Blk) ∧ (H 308).ver = v8 ∧ (H 354).ver = v54 ∧ (H 407).ver = v7 ∧ True) ?_ ?_
 ·
  unfold r103_2
  refine R_mv t0 ?_
  refine R_len_ms (@rfl V (V.ms 209 v9 0 (l.length))) h209 (by first | rfl | simp) ?_
  refine R_mv (@rfl V (iV (0 : Int))) ?_
  exact R_nil ⟨t0, t3, t6, rfl, rfl, rfl, hF, h209, h303, h308, h354, h407, trivial⟩
 intro T H ⟨t0, t3, t6, t11, t12, t13, hF, h209, h303, h308, h354, h407, _⟩
 refine W_seq_blockg fun Q1 n1 x1 y1 z1 => ?_
 refine W_loop (fun mm T H => ∃ (k : Nat) (v308 : Nat), mm = l.length - k ∧ T 0 = (V.ms 209 v9 0 (l.length)) ∧ T 3 = (V.mp 303 (v3 + 1) 0 0) ∧ T 6 = (V.bool (exB (inP l t) 0 k)) ∧ T 11 = (V.ms 209 v9 0 (l.length)) ∧ T 12 = (iV ((l.length : Nat) : Int)) ∧ T 13 = (iV ((k : Nat) : Int)) ∧ (∀ j, j ∉ [303, 308, 354, 407, 209] → H j = Hi j) ∧ H 209 = (⟨v9, true, false, 63, 2, (List.map cT (l))⟩ : Blk) ∧ H 303 = (⟨v3 + 1, true, false, 63, 2, [[(V.sl (List.map cI (t.ni))), (V.sl (List.map cI (t.no)))]]⟩ : Blk) ∧ (H 308).ver = v308 ∧ (H 354).ver = v54 ∧ (H 407).ver = v7 ∧ (k ≤ l.length) ∧ (v308 ≤ v8 + k) ∧ (fi (ndP l t) 0 l.length = fi (ndP l t) k (l.length - k))) ?_ ?_
 ·
  refine ⟨_, 0, v8, rfl, t0, t3, (Eq.trans t6 (by first | rfl | (simp only [exB, inP, Nat.zero_add]; done) | (rw [he]; done) | (rw [addL, if_pos d2]; done) | (rw [addL, if_neg d2, ins_len]; done) | (rw [addE, if_pos (by rw [hc, fi_hit d1 (by omega)]; omega)]; done) | (rw [addE, if_neg d4, if_neg d2, if_pos (by omega)]; done))), t11, t12, (Eq.trans t13 (by first | rfl | (simp only [exB, inP, Nat.zero_add]; done) | (rw [he]; done) | (rw [addL, if_pos d2]; done) | (rw [addL, if_neg d2, ins_len]; done) | (rw [addE, if_pos (by rw [hc, fi_hit d1 (by omega)]; omega)]; done) | (rw [addE, if_neg d4, if_neg d2, if_pos (by omega)]; done))), hF, h209, h303, h308, h354, h407, ?_, ?_, ?_⟩
  · omega
  · omega
  · rfl
 intro mm T H ⟨k, v308, hmm, t0, t3, t6, t11, t12, t13, hF, h209, h303, h308, h354, h407, hk, hv8, hc⟩ Q2 p12 p22 p32
 unfold b103_0
 refine W_seq_regc (fun T H => T 0 = (V.ms 209 v9 0 (l.length)) ∧ T 3 = (V.mp 303 (v3 + 1) 0 0) ∧ T 6 = (V.bool (exB (inP l t) 0 k)) ∧ T 11 = (V.ms 209 v9 0 (l.length)) ∧ T 12 = (iV ((l.length : Nat) : Int)) ∧ T 13 = (iV ((k : Nat) : Int)) ∧ T 14 = (V.bool (decide (((k : Nat) : Int) < ((l.length : Nat) : Int)))) ∧ (∀ j, j ∉ [303, 308, 354, 407, 209] → H j = Hi j) ∧ H 209 = (⟨v9, true, false, 63, 2, (List.map cT (l))⟩ : Blk) ∧ H 303 = (⟨v3 + 1, true, false, 63, 2, [[(V.sl (List.map cI (t.ni))), (V.sl (List.map cI (t.no)))]]⟩ : Blk) ∧ (H 308).ver = v308 ∧ (H 354).ver = v54 ∧ (H 407).ver = v7 ∧ True) ?_ ?_
 ·
  unfold r103_3
  refine R_lss (x := ((k : Nat) : Int)) (y := ((l.length : Nat) : Int)) t13 t12 ?_
  exact R_nil ⟨t0, t3, t6, t11, t12, t13, rfl, hF, h209, h303, h308, h354, h407, trivial⟩
 intro T H ⟨t0, t3, t6, t11, t12, t13, t14, hF, h209, h303, h308, h354, h407, _⟩
 refine W_seq_if (p := ((k : Nat) : Int) < ((l.length : Nat) : Int)) t14 (fun c3 => ?_) (fun c3 => ?_)
 ·
  refine W_seq_skip ?_
  refine W_seq_blockg fun Q4 n4 x4 y4 z4 => ?_
  refine W_seq_regc (fun T H => T 0 = (V.ms 209 v9 0 (l.length)) ∧ T 3 = (V.mp 303 (v3 + 1) 0 0) ∧ T 6 = (V.bool (exB (inP l t) 0 k)) ∧ T 8 = (V.mp 308 (v308 + 1) 0 0) ∧ T 11 = (V.ms 209 v9 0 (l.length)) ∧ T 12 = (iV ((l.length : Nat) : Int)) ∧ T 13 = (iV ((k : Nat) : Int)) ∧ (∀ j, j ∉ [303, 308, 354, 407, 209] → H j = Hi j) ∧ H 209 = (⟨v9, true, false, 63, 2, (List.map cT (l))⟩ : Blk) ∧ H 303 = (⟨v3 + 1, true, false, 63, 2, [[(V.sl (List.map cI (t.ni))), (V.sl (List.map cI (t.no)))]]⟩ : Blk) ∧ H 308 = (⟨v308 + 1, true, false, 63, 2, [[(V.sl (List.map cI ((nth (l) (k)).ni))), (V.sl (List.map cI ((nth (l) (k)).no)))]]⟩ : Blk) ∧ (H 354).ver = v54 ∧ (H 407).ver = v7 ∧ True) ?_ ?_
  ·
   unfold r103_4
   refine R_idx_ms0 (i := k) t11 t13 h209 (okB_map (by omega)) rfl (by omega) ?_
   refine R_load_mp (v := (V.agg [(V.sl (List.map cI ((nth (l) (k)).ni))), (V.sl (List.map cI ((nth (l) (k)).no)))])) (@rfl V (V.mp 209 v9 k 0)) h209 (ldB_map (by omega) (by first | rfl | simp [ldV, V.one])) ?_
   refine R_alloc (i := 308) (n := v308) (m := 2) (by rfl) h308 rfl ?_
   refine R_store (vs := [(V.sl (List.map cI ((nth (l) (k)).ni))), (V.sl (List.map cI ((nth (l) (k)).no)))]) (B' := (⟨v308 + 1, true, false, 63, 2, [[(V.sl (List.map cI ((nth (l) (k)).ni))), (V.sl (List.map cI ((nth (l) (k)).no)))]]⟩ : Blk)) (@rfl V (V.mp 308 (v308 + 1) 0 0)) (@rfl V (V.agg [(V.sl (List.map cI ((nth (l) (k)).ni))), (V.sl (List.map cI ((nth (l) (k)).no)))])) rfl (@rfl Blk (⟨v308 + 1, true, false, 63, 2, [[V.nilsl, V.nilsl]]⟩ : Blk)) (by first | rfl | simp [stB, okB, Blk.own, putAt, V.one]) ?_
   exact R_nil ⟨t0, t3, t6, rfl, t11, t12, t13, (upd_out (upd_out hF (by decide)) (by decide)), h209, h303, rfl, h354, h407, trivial⟩
  intro T H ⟨t0, t3, t6, t8, t11, t12, t13, hF, h209, h303, h308, h354, h407, _⟩
  refine W_seq_seq ?_
  refine W_seq_regc (fun T H => T 0 = (V.ms 209 v9 0 (l.length)) ∧ T 3 = (V.mp 303 (v3 + 1) 0 0) ∧ T 6 = (V.bool (exB (inP l t) 0 k)) ∧ T 8 = (V.mp 308 (v308 + 1) 0 0) ∧ T 11 = (V.ms 209 v9 0 (l.length)) ∧ T 12 = (iV ((l.length : Nat) : Int)) ∧ T 13 = (iV ((k : Nat) : Int)) ∧ T 20 = (V.bool (decide ((0 : Int) ≤ (df ((nth (l) (k))) t)))) ∧ (∀ j, j ∉ [303, 308, 354, 407, 209] → H j = Hi j) ∧ H 209 = (⟨v9, true, false, 63, 2, (List.map cT (l))⟩ : Blk) ∧ H 303 = (⟨v3 + 1, true, false, 63, 2, [[(V.sl (List.map cI (t.ni))), (V.sl (List.map cI (t.no)))]]⟩ : Blk) ∧ H 308 = (⟨v308 + 1, true, false, 63, 2, [[(V.sl (List.map cI ((nth (l) (k)).ni))), (V.sl (List.map cI ((nth (l) (k)).no)))]]⟩ : Blk) ∧ (H 354).ver = v54 ∧ (H 407).ver = v7 ∧ True) ?_ ?_
  ·
   unfold r103_5
   refine R_load_mp (v := (V.agg [(V.sl (List.map cI ((nth (l) (k)).ni))), (V.sl (List.map cI ((nth (l) (k)).no)))])) t8 h308 (by first | rfl | simp [ldB, ldV, Blk.own, V.one]) ?_
   refine R_load_mp (v := (V.agg [(V.sl (List.map cI (t.ni))), (V.sl (List.map cI (t.no)))])) t3 h303 (by first | rfl | simp [ldB, ldV, Blk.own, V.one]) ?_
   refine R_call (evcons (@rfl V (V.agg [(V.sl (List.map cI ((nth (l) (k)).ni))), (V.sl (List.map cI ((nth (l) (k)).no)))])) (evcons (@rfl V (V.agg [(V.sl (List.map cI (t.ni))), (V.sl (List.map cI (t.no)))])) evnil)) (odiffer_pure ((nth (l) (k))) t (hpl k (by omega)) hp1.len) (fzv_mapcanon _ _ (by simp [-List.map_take, -List.map_drop, -List.map_append, -List.map_reverse])) (by simp [-List.map_take, -List.map_drop, -List.map_append, -List.map_reverse]) (Or.inl (by simp [-List.map_take, -List.map_drop, -List.map_append, -List.map_reverse])) ?_
   refine R_geq (x := (df ((nth (l) (k))) t)) (y := (0 : Int)) (@rfl V (iV (df ((nth (l) (k))) t))) (@rfl V (iV (0 : Int))) ?_
   exact R_nil ⟨t0, t3, t6, t8, t11, t12, t13, rfl, hF, h209, h303, h308, h354, h407, trivial⟩
  intro T H ⟨t0, t3, t6, t8, t11, t12, t13, t20, hF, h209, h303, h308, h354, h407, _⟩
  refine W_seq_if (p := (0 : Int) ≤ (df ((nth (l) (k))) t)) t20 (fun c5 => ?_) (fun c5 => ?_)
  ·
   have d1 : ndP l t k = true := decide_eq_true c5
   refine W_seq_seq ?_
   refine W_seq_regc (fun T H => T 4 = V.nilsl ∧ T 5 = (iV (13 : Int)) ∧ (∀ j, j ∉ [303, 308, 354, 407, 209] → H j = Hi j) ∧ H 209 = (⟨v9, true, false, 63, 2, (List.map cT (l))⟩ : Blk) ∧ H 303 = (⟨v3 + 1, true, false, 63, 2, [[(V.sl (List.map cI (t.ni))), (V.sl (List.map cI (t.no)))]]⟩ : Blk) ∧ H 308 = (⟨v308 + 1, true, false, 63, 2, [[(V.sl (List.map cI ((nth (l) (k)).ni))), (V.sl (List.map cI ((nth (l) (k)).no)))]]⟩ : Blk) ∧ (H 354).ver = v54 ∧ (H 407).ver = v7 ∧ True) ?_ ?_
   ·
    unfold r103_6
    refine R_mv (@rfl V V.nilsl) ?_
    refine R_mv (@rfl V (iV (13 : Int))) ?_
    exact R_nil ⟨rfl, rfl, hF, h209, h303, h308, h354, h407, trivial⟩
   intro T H ⟨t4, t5, hF, h209, h303, h308, h354, h407, _⟩
   refine W_seq_ret ?_
   refine y4 _ _ ?_
   refine p22 _ _ ?_
   refine y1 _ _ ?_
   skip
   have fh := FinX.fin (FinX.putv (n := v9) (B := (⟨v9 + 2, false, false, 0, 0, []⟩ : Blk)) (FinX.putv (n := v7) (B := (⟨v7 + l.length, false, false, 0, 0, []⟩ : Blk)) (FinX.putv (n := v54) (B := (⟨v54 + 1, false, false, 0, 0, []⟩ : Blk)) (FinX.putv (n := (v308 + 1)) (B := (⟨v8 + l.length, false, false, 0, 0, []⟩ : Blk)) (FinX.putv (n := (v3 + 1)) (B := (⟨v3 + 1, false, false, 0, 0, []⟩ : Blk)) (FinX.start hF) (congrArg Blk.ver h303) (by show _ ≤ v3 + 1; omega) rfl) (congrArg Blk.ver h308) (by show _ ≤ v8 + l.length; omega) rfl) h354 (by show _ ≤ v54 + 1; omega) rfl) h407 (by show _ ≤ v7 + l.length; omega) rfl) (congrArg Blk.ver h209) (by show _ ≤ v9 + 2; omega) rfl)
   exact RetF_2 t4 t5 fh .nil (FinV.trans_eq (FinV.same fh _) (by first | rfl | (simp only [exB, inP, Nat.zero_add]; done) | (rw [he]; done) | (rw [addL, if_pos d2]; done) | (rw [addL, if_neg d2, ins_len]; done) | (rw [addE, if_pos (by rw [hc, fi_hit d1 (by omega)]; omega)]; done) | (rw [addE, if_neg d4, if_neg d2, if_pos (by omega)]; done)))
  have d1 : ndP l t k = false := decide_eq_false c5
  refine W_seq_skip ?_
  refine W_regc (fun T H => T 0 = (V.ms 209 v9 0 (l.length)) ∧ T 3 = (V.mp 303 (v3 + 1) 0 0) ∧ T 6 = (V.bool (((exB (inP l t) 0 k) || (hp ((nth (l) (k)).ni) t.ni)))) ∧ T 11 = (V.ms 209 v9 0 (l.length)) ∧ T 12 = (iV ((l.length : Nat) : Int)) ∧ T 13 = (iV ((k : Nat) : Int)) ∧ (∀ j, j ∉ [303, 308, 354, 407, 209] → H j = Hi j) ∧ H 209 = (⟨v9, true, false, 63, 2, (List.map cT (l))⟩ : Blk) ∧ H 303 = (⟨v3 + 1, true, false, 63, 2, [[(V.sl (List.map cI (t.ni))), (V.sl (List.map cI (t.no)))]]⟩ : Blk) ∧ H 308 = (⟨v308 + 1, true, false, 63, 2, [[(V.sl (List.map cI ((nth (l) (k)).ni))), (V.sl (List.map cI ((nth (l) (k)).no)))]]⟩ : Blk) ∧ (H 354).ver = v54 ∧ (H 407).ver = v7 ∧ True) ?_ ?_
  ·
   unfold r103_7
   refine R_mv t6 ?_
   refine R_mv (@rfl V (V.bool (exB (inP l t) 0 k))) ?_
   refine Ops_seg 6 (fun T H => T 0 = (V.ms 209 v9 0 (l.length)) ∧ T 3 = (V.mp 303 (v3 + 1) 0 0) ∧ T 6 = (V.bool (exB (inP l t) 0 k)) ∧ T 11 = (V.ms 209 v9 0 (l.length)) ∧ T 12 = (iV ((l.length : Nat) : Int)) ∧ T 13 = (iV ((k : Nat) : Int)) ∧ T 28 = (V.bool (((exB (inP l t) 0 k) || (hp ((nth (l) (k)).ni) t.ni)))) ∧ (∀ j, j ∉ [303, 308, 354, 407, 209] → H j = Hi j) ∧ H 209 = (⟨v9, true, false, 63, 2, (List.map cT (l))⟩ : Blk) ∧ H 303 = (⟨v3 + 1, true, false, 63, 2, [[(V.sl (List.map cI (t.ni))), (V.sl (List.map cI (t.no)))]]⟩ : Blk) ∧ H 308 = (⟨v308 + 1, true, false, 63, 2, [[(V.sl (List.map cI ((nth (l) (k)).ni))), (V.sl (List.map cI ((nth (l) (k)).no)))]]⟩ : Blk) ∧ (H 354).ver = v54 ∧ (H 407).ver = v7 ∧ True) ?_ ?_
   ·
    by_cases g6 : (exB (inP l t) 0 k) = true
    ·
     refine G_no (Eq.trans (@rfl V (V.bool (exB (inP l t) 0 k))) (bbT g6)) (by decide) ?_
     refine G_no (Eq.trans (@rfl V (V.bool (exB (inP l t) 0 k))) (bbT g6)) (by decide) ?_
     refine G_no (Eq.trans (@rfl V (V.bool (exB (inP l t) 0 k))) (bbT g6)) (by decide) ?_
     refine G_no (Eq.trans (@rfl V (V.bool (exB (inP l t) 0 k))) (bbT g6)) (by decide) ?_
     refine G_no (Eq.trans (@rfl V (V.bool (exB (inP l t) 0 k))) (bbT g6)) (by decide) ?_
     refine R_pickT (Eq.trans (@rfl V (V.bool (exB (inP l t) 0 k))) (bbT g6)) (@rfl V (V.bool true)) ?_
     exact ⟨t0, t3, t6, t11, t12, t13, (Eq.trans (@rfl V (V.bool true)) (borT g6)), hF, h209, h303, h308, h354, h407, trivial⟩
    ·
     refine G_yes (Eq.trans (@rfl V (V.bool (exB (inP l t) 0 k))) (bbF g6)) ?_
     refine R_fld_mp (o' := 0) t8 h308 (by first | rfl | simp [okB, Blk.own]) rfl ?_
     refine G_yes (Eq.trans (@rfl V (V.bool (exB (inP l t) 0 k))) (bbF g6)) ?_
     refine R_load_mp (v := (V.sl (List.map cI ((nth (l) (k)).ni)))) (@rfl V (V.mp 308 (v308 + 1) 0 0)) h308 (by first | rfl | simp [ldB, ldV, Blk.own, V.one]) ?_
     refine G_yes (Eq.trans (@rfl V (V.bool (exB (inP l t) 0 k))) (bbF g6)) ?_
     refine R_fld_mp (o' := 0) t3 h303 (by first | rfl | simp [okB, Blk.own]) rfl ?_
     refine G_yes (Eq.trans (@rfl V (V.bool (exB (inP l t) 0 k))) (bbF g6)) ?_
     refine R_load_mp (v := (V.sl (List.map cI (t.ni)))) (@rfl V (V.mp 303 (v3 + 1) 0 0)) h303 (by first | rfl | simp [ldB, ldV, Blk.own, V.one]) ?_
     refine G_yes (Eq.trans (@rfl V (V.bool (exB (inP l t) 0 k))) (bbF g6)) ?_
     refine R_call (evcons (@rfl V (V.sl (List.map cI ((nth (l) (k)).ni)))) (evcons (@rfl V (V.sl (List.map cI (t.ni)))) evnil)) (hp_pure ((nth (l) (k)).ni) t.ni) (fzv_mapcanon _ _ (by simp [-List.map_take, -List.map_drop, -List.map_append, -List.map_reverse])) (by simp [-List.map_take, -List.map_drop, -List.map_append, -List.map_reverse]) (Or.inl (by simp [-List.map_take, -List.map_drop, -List.map_append, -List.map_reverse])) ?_
     refine R_pickF (Eq.trans (@rfl V (V.bool (exB (inP l t) 0 k))) (bbF g6)) (@rfl V (V.bool (hp ((nth (l) (k)).ni) t.ni))) ?_
     exact ⟨t0, t3, t6, t11, t12, t13, (Eq.trans (@rfl V (V.bool (hp ((nth (l) (k)).ni) t.ni))) (borF g6)), hF, h209, h303, h308, h354, h407, trivial⟩
   intro T H ⟨t0, t3, t6, t11, t12, t13, t28, hF, h209, h303, h308, h354, h407, _⟩
   refine R_mv t28 ?_
   exact R_nil ⟨t0, t3, rfl, t11, t12, t13, hF, h209, h303, h308, h354, h407, trivial⟩
  intro T H ⟨t0, t3, t6, t11, t12, t13, hF, h209, h303, h308, h354, h407, _⟩
  refine n4 _ _ ?_
  refine .done ?_
  refine W_regc (fun T H => T 0 = (V.ms 209 v9 0 (l.length)) ∧ T 3 = (V.mp 303 (v3 + 1) 0 0) ∧ T 6 = (V.bool (((exB (inP l t) 0 k) || (hp ((nth (l) (k)).ni) t.ni)))) ∧ T 11 = (V.ms 209 v9 0 (l.length)) ∧ T 12 = (iV ((l.length : Nat) : Int)) ∧ T 13 = (iV ((k + 1 : Nat) : Int)) ∧ (∀ j, j ∉ [303, 308, 354, 407, 209] → H j = Hi j) ∧ H 209 = (⟨v9, true, false, 63, 2, (List.map cT (l))⟩ : Blk) ∧ H 303 = (⟨v3 + 1, true, false, 63, 2, [[(V.sl (List.map cI (t.ni))), (V.sl (List.map cI (t.no)))]]⟩ : Blk) ∧ H 308 = (⟨v308 + 1, true, false, 63, 2, [[(V.sl (List.map cI ((nth (l) (k)).ni))), (V.sl (List.map cI ((nth (l) (k)).no)))]]⟩ : Blk) ∧ (H 354).ver = v54 ∧ (H 407).ver = v7 ∧ True) ?_ ?_
  ·
   unfold r103_8
   refine R_addN (m := k) (n := 1) t13 (@rfl V (iV ((1 : Nat) : Int))) (by omega) ?_
   refine R_mv (@rfl V (iV ((k + 1 : Nat) : Int))) ?_
   exact R_nil ⟨t0, t3, t6, t11, t12, rfl, hF, h209, h303, h308, h354, h407, trivial⟩
  intro T H ⟨t0, t3, t6, t11, t12, t13, hF, h209, h303, h308, h354, h407, _⟩
  refine p12 _ _ _ ?_ ⟨(k + 1), (v308 + 1), rfl, t0, t3, (Eq.trans t6 (by first | rfl | (simp only [exB, inP, Nat.zero_add]; done) | (rw [he]; done) | (rw [addL, if_pos d2]; done) | (rw [addL, if_neg d2, ins_len]; done) | (rw [addE, if_pos (by rw [hc, fi_hit d1 (by omega)]; omega)]; done) | (rw [addE, if_neg d4, if_neg d2, if_pos (by omega)]; done))), t11, t12, (Eq.trans t13 (by first | rfl | (simp only [exB, inP, Nat.zero_add]; done) | (rw [he]; done) | (rw [addL, if_pos d2]; done) | (rw [addL, if_neg d2, ins_len]; done) | (rw [addE, if_pos (by rw [hc, fi_hit d1 (by omega)]; omega)]; done) | (rw [addE, if_neg d4, if_neg d2, if_pos (by omega)]; done))), hF, h209, h303, (congrArg Blk.ver h308), h354, h407, ?_, ?_, ?_⟩
  · omega
  · omega
  · omega
  · rw [hc, fi_skip d1 (by omega)]
 refine W_seq_exit ?_
 refine p32 _ _ _ ?_
 refine x1 _ _ ?_
 refine .done ?_
 refine W_seq_seq ?_
 refine W_seq_regc (fun T H => T 0 = (V.ms 209 v9 0 (l.length)) ∧ T 3 = (V.mp 303 (v3 + 1) 0 0) ∧ T 36 = (V.bool (((exB (inP l t) 0 k) || decide (((t.ni.length : Nat) : Int) = (0 : Int))))) ∧ (∀ j, j ∉ [303, 308, 354, 407, 209] → H j = Hi j) ∧ H 209 = (⟨v9, true, false, 63, 2, (List.map cT (l))⟩ : Blk) ∧ H 303 = (⟨v3 + 1, true, false, 63, 2, [[(V.sl (List.map cI (t.ni))), (V.sl (List.map cI (t.no)))]]⟩ : Blk) ∧ (H 308).ver = v308 ∧ (H 354).ver = v54 ∧ (H 407).ver = v7 ∧ True) ?_ ?_
 ·
  unfold r103_9
  refine R_mv t6 ?_
  refine R_mv (@rfl V (V.bool (exB (inP l t) 0 k))) ?_
  refine Ops_seg 5 (fun T H => T 0 = (V.ms 209 v9 0 (l.length)) ∧ T 3 = (V.mp 303 (v3 + 1) 0 0) ∧ T 36 = (V.bool (((exB (inP l t) 0 k) || decide (((t.ni.length : Nat) : Int) = (0 : Int))))) ∧ (∀ j, j ∉ [303, 308, 354, 407, 209] → H j = Hi j) ∧ H 209 = (⟨v9, true, false, 63, 2, (List.map cT (l))⟩ : Blk) ∧ H 303 = (⟨v3 + 1, true, false, 63, 2, [[(V.sl (List.map cI (t.ni))), (V.sl (List.map cI (t.no)))]]⟩ : Blk) ∧ (H 308).ver = v308 ∧ (H 354).ver = v54 ∧ (H 407).ver = v7 ∧ True) ?_ ?_
  ·
   by_cases g7 : (exB (inP l t) 0 k) = true
   ·
    refine G_no (Eq.trans (@rfl V (V.bool (exB (inP l t) 0 k))) (bbT g7)) (by decide) ?_
    refine G_no (Eq.trans (@rfl V (V.bool (exB (inP l t) 0 k))) (bbT g7)) (by decide) ?_
    refine G_no (Eq.trans (@rfl V (V.bool (exB (inP l t) 0 k))) (bbT g7)) (by decide) ?_
    refine G_no (Eq.trans (@rfl V (V.bool (exB (inP l t) 0 k))) (bbT g7)) (by decide) ?_
    refine R_pickT (Eq.trans (@rfl V (V.bool (exB (inP l t) 0 k))) (bbT g7)) (@rfl V (V.bool true)) ?_
    exact ⟨t0, t3, (Eq.trans (@rfl V (V.bool true)) (borT g7)), hF, h209, h303, h308, h354, h407, trivial⟩
   ·
    refine G_yes (Eq.trans (@rfl V (V.bool (exB (inP l t) 0 k))) (bbF g7)) ?_
    refine R_fld_mp (o' := 0) t3 h303 (by first | rfl | simp [okB, Blk.own]) rfl ?_
    refine G_yes (Eq.trans (@rfl V (V.bool (exB (inP l t) 0 k))) (bbF g7)) ?_
    refine R_load_mp (v := (V.sl (List.map cI (t.ni)))) (@rfl V (V.mp 303 (v3 + 1) 0 0)) h303 (by first | rfl | simp [ldB, ldV, Blk.own, V.one]) ?_
    refine G_yes (Eq.trans (@rfl V (V.bool (exB (inP l t) 0 k))) (bbF g7)) ?_
    refine R_len (@rfl V (V.sl (List.map cI (t.ni)))) ?_
    refine G_yes (Eq.trans (@rfl V (V.bool (exB (inP l t) 0 k))) (bbF g7)) ?_
    refine R_eql (x := ((t.ni.length : Nat) : Int)) (y := (0 : Int)) (@rfl V (iV ((t.ni.length : Nat) : Int))) (@rfl V (iV (0 : Int))) ?_
    refine R_pickF (Eq.trans (@rfl V (V.bool (exB (inP l t) 0 k))) (bbF g7)) (@rfl V (V.bool (decide (((t.ni.length : Nat) : Int) = (0 : Int))))) ?_
    exact ⟨t0, t3, (Eq.trans (@rfl V (V.bool (decide (((t.ni.length : Nat) : Int) = (0 : Int))))) (borF g7)), hF, h209, h303, h308, h354, h407, trivial⟩
  intro T H ⟨t0, t3, t36, hF, h209, h303, h308, h354, h407, _⟩
  exact R_nil ⟨t0, t3, t36, hF, h209, h303, h308, h354, h407, trivial⟩
 intro T H ⟨t0, t3, t36, hF, h209, h303, h308, h354, h407, _⟩
 refine W_seq_ifb t36 (fun c8 => ?_) (fun c8 => ?_)
 ·
  have d2 : inL l t := by have q := c8; rw [show k = l.length by omega] at q; simpa [inL] using q
  refine W_seq_seq ?_
  refine W_seq_regc (fun T H => T 4 = (V.ms 209 v9 0 (l.length)) ∧ T 5 = (iV (0 : Int)) ∧ (∀ j, j ∉ [303, 308, 354, 407, 209] → H j = Hi j) ∧ H 209 = (⟨v9, true, false, 63, 2, (List.map cT (l))⟩ : Blk) ∧ H 303 = (⟨v3 + 1, true, false, 63, 2, [[(V.sl (List.map cI (t.ni))), (V.sl (List.map cI (t.no)))]]⟩ : Blk) ∧ (H 308).ver = v308 ∧ (H 354).ver = v54 ∧ (H 407).ver = v7 ∧ True) ?_ ?_
  ·
   unfold r103_10
   refine R_mv t0 ?_
   refine R_mv (@rfl V (V.ms 209 v9 0 (l.length))) ?_
   refine R_mv (@rfl V (iV (0 : Int))) ?_
   exact R_nil ⟨rfl, rfl, hF, h209, h303, h308, h354, h407, trivial⟩
  intro T H ⟨t4, t5, hF, h209, h303, h308, h354, h407, _⟩
  refine W_seq_ret ?_
  exfalso
  have d4 : ¬0 ≤ fi (ndP l t) 0 l.length := by rw [hc, fi_end (by omega)]; omega
  apply he; rw [addE, if_neg d4, if_pos d2]
 have d2 : ¬inL l t := by have q := c8; rw [show k = l.length by omega] at q; simpa [inL] using q
 refine W_seq_skip ?_
 refine W_seq_regc (fun T H => T 0 = (V.ms 209 v9 0 (((l.filter (kp t)).length))) ∧ T 3 = (V.mp 303 (v3 + 1) 0 0) ∧ (∀ j, j ∉ [303, 308, 354, 407, 209] → H j = Hi j) ∧ H 209 = (⟨v9, true, false, 63, 2, (List.map cT (l.filter (kp t)) ++ List.replicate (l.length - (l.filter (kp t)).length) [V.nilsl, V.nilsl])⟩ : Blk) ∧ H 303 = (⟨v3 + 1, true, false, 63, 2, [[(V.sl (List.map cI (t.ni))), (V.sl (List.map cI (t.no)))]]⟩ : Blk) ∧ (H 308).ver = v308 ∧ (H 354).ver = v54 ∧ H 407 = (⟨v7 + l.length, false, false, 0, 0, []⟩ : Blk) ∧ True) ?_ ?_
 ·
  unfold r103_11
  refine R_mv t0 ?_
  refine R_mkf (evcons t3 evnil) ?_
  refine R_callE (evcons (@rfl V (V.ms 209 v9 0 (l.length))) (evcons (@rfl V (V.fn 117 [] [(V.mp 303 (v3 + 1) 0 0)])) evnil)) (del_E l t v9 (v3 + 1) v7 _ h209 h303 h407 (by omega)) ?_
  refine R_mv (@rfl V (V.ms 209 v9 0 (((l.filter (kp t)).length)))) ?_
  exact R_nil ⟨rfl, t3, (upd_out (upd_out hF (by decide)) (by decide)), rfl, h303, h308, h354, rfl, trivial⟩
 intro T H ⟨t0, t3, hF, h209, h303, h308, h354, h407, _⟩
 refine W_seq_seq ?_
 refine W_seq_regc (fun T H => T 0 = (V.ms 209 v9 0 (((l.filter (kp t)).length))) ∧ T 3 = (V.mp 303 (v3 + 1) 0 0) ∧ T 43 = (V.bool (decide (((((l.filter (kp t)).length) : Nat) : Int) = (10000 : Int)))) ∧ (∀ j, j ∉ [303, 308, 354, 407, 209] → H j = Hi j) ∧ H 209 = (⟨v9, true, false, 63, 2, (List.map cT (l.filter (kp t)) ++ List.replicate (l.length - (l.filter (kp t)).length) [V.nilsl, V.nilsl])⟩ : Blk) ∧ H 303 = (⟨v3 + 1, true, false, 63, 2, [[(V.sl (List.map cI (t.ni))), (V.sl (List.map cI (t.no)))]]⟩ : Blk) ∧ (H 308).ver = v308 ∧ (H 354).ver = v54 ∧ H 407 = (⟨v7 + l.length, false, false, 0, 0, []⟩ : Blk) ∧ True) ?_ ?_
 ·
  unfold r103_12
  refine R_mv t0 ?_
  refine R_len_ms (@rfl V (V.ms 209 v9 0 (((l.filter (kp t)).length)))) h209 (by first | rfl | simp) ?_
  refine R_eql (x := ((((l.filter (kp t)).length) : Nat) : Int)) (y := (10000 : Int)) (@rfl V (iV ((((l.filter (kp t)).length) : Nat) : Int))) (@rfl V (iV (10000 : Int))) ?_
  exact R_nil ⟨t0, t3, rfl, hF, h209, h303, h308, h354, h407, trivial⟩
 intro T H ⟨t0, t3, t43, hF, h209, h303, h308, h354, h407, _⟩
 refine W_seq_if (p := ((((l.filter (kp t)).length) : Nat) : Int) = (10000 : Int)) t43 (fun c9 => ?_) (fun c9 => ?_)
 ·
  have d3 := c9
  refine W_seq_seq ?_
  refine W_seq_regc (fun T H => T 4 = V.nilsl ∧ T 5 = (iV (11 : Int)) ∧ (∀ j, j ∉ [303, 308, 354, 407, 209] → H j = Hi j) ∧ H 209 = (⟨v9, true, false, 63, 2, (List.map cT (l.filter (kp t)) ++ List.replicate (l.length - (l.filter (kp t)).length) [V.nilsl, V.nilsl])⟩ : Blk) ∧ H 303 = (⟨v3 + 1, true, false, 63, 2, [[(V.sl (List.map cI (t.ni))), (V.sl (List.map cI (t.no)))]]⟩ : Blk) ∧ (H 308).ver = v308 ∧ (H 354).ver = v54 ∧ H 407 = (⟨v7 + l.length, false, false, 0, 0, []⟩ : Blk) ∧ True) ?_ ?_
  ·
   unfold r103_13
   refine R_mv (@rfl V V.nilsl) ?_
   refine R_mv (@rfl V (iV (11 : Int))) ?_
   exact R_nil ⟨rfl, rfl, hF, h209, h303, h308, h354, h407, trivial⟩
  intro T H ⟨t4, t5, hF, h209, h303, h308, h354, h407, _⟩
  refine W_seq_ret ?_
  have d4 : ¬0 ≤ fi (ndP l t) 0 l.length := by rw [hc, fi_end (by omega)]; omega
  
  have fh := FinX.fin (FinX.putv (n := v9) (B := (⟨v9 + 2, false, false, 0, 0, []⟩ : Blk)) (FinX.put (FinX.putv (n := v54) (B := (⟨v54 + 1, false, false, 0, 0, []⟩ : Blk)) (FinX.putv (n := v308) (B := (⟨v8 + l.length, false, false, 0, 0, []⟩ : Blk)) (FinX.putv (n := (v3 + 1)) (B := (⟨v3 + 1, false, false, 0, 0, []⟩ : Blk)) (FinX.start hF) (congrArg Blk.ver h303) (by show _ ≤ v3 + 1; omega) rfl) h308 (by show _ ≤ v8 + l.length; omega) rfl) h354 (by show _ ≤ v54 + 1; omega) rfl) h407 (FinB.eq rfl)) (congrArg Blk.ver h209) (by show _ ≤ v9 + 2; omega) rfl)
  exact RetF_2 t4 t5 fh .nil (FinV.trans_eq (FinV.same fh _) (by first | rfl | (simp only [exB, inP, Nat.zero_add]; done) | (rw [he]; done) | (rw [addL, if_pos d2]; done) | (rw [addL, if_neg d2, ins_len]; done) | (rw [addE, if_pos (by rw [hc, fi_hit d1 (by omega)]; omega)]; done) | (rw [addE, if_neg d4, if_neg d2, if_pos (by omega)]; done)))
 have d3 := c9
 refine W_seq_skip ?_
 refine W_seq_regc (fun T H => T 0 = (V.ms 209 v9 0 (((l.filter (kp t)).length))) ∧ T 3 = (V.mp 303 (v3 + 1) 0 0) ∧ T 9 = (iV ((lbN (l.filter (kp t)) t : Nat) : Int)) ∧ (∀ j, j ∉ [303, 308, 354, 407, 209] → H j = Hi j) ∧ H 209 = (⟨v9, true, false, 63, 2, (List.map cT (l.filter (kp t)) ++ List.replicate (l.length - (l.filter (kp t)).length) [V.nilsl, V.nilsl])⟩ : Blk) ∧ H 303 = (⟨v3 + 1, true, false, 63, 2, [[(V.sl (List.map cI (t.ni))), (V.sl (List.map cI (t.no)))]]⟩ : Blk) ∧ (H 308).ver = v308 ∧ (H 354).ver = v54 ∧ H 407 = (⟨v7 + l.length, false, false, 0, 0, []⟩ : Blk) ∧ True) ?_ ?_
 ·
  unfold r103_14
  refine R_mv t0 ?_
  refine R_load_mp (v := (V.agg [(V.sl (List.map cI (t.ni))), (V.sl (List.map cI (t.no)))])) t3 h303 (by first | rfl | simp [ldB, ldV, Blk.own, V.one]) ?_
  refine R_call (evcons (@rfl V (V.ms 209 v9 0 (((l.filter (kp t)).length)))) (evcons (@rfl V (V.agg [(V.sl (List.map cI (t.ni))), (V.sl (List.map cI (t.no)))])) (evcons (@rfl V (V.fn 79 [] [])) evnil))) (bs_pure (l.filter (kp t)) t hsr (by first | omega | assumption)) (mcons (fz_mst h209 (by first | rfl | simp) (take_zap (l := (l.filter (kp t))) (by first | rfl | simp | omega)) (fun _ => by simp)) (mcons (fzv_canon 6 _ (by simp [-List.map_take, -List.map_drop, -List.map_append, -List.map_reverse])) (mcons (fzv_canon 6 _ (by simp [-List.map_take, -List.map_drop, -List.map_append, -List.map_reverse])) rfl))) (by simp [-List.map_take, -List.map_drop, -List.map_append, -List.map_reverse]) (Or.inr rfl) ?_
  refine R_mv (@rfl V (V.tup [(iV ((lbN (l.filter (kp t)) t : Nat) : Int)), (V.bool (decide (lbN (l.filter (kp t)) t < (l.filter (kp t)).length ∧ slx (nth (l.filter (kp t)) (lbN (l.filter (kp t)) t)).ni t.ni = 0)))])) ?_
  refine R_ext (v := (iV ((lbN (l.filter (kp t)) t : Nat) : Int))) (@rfl V (V.tup [(iV ((lbN (l.filter (kp t)) t : Nat) : Int)), (V.bool (decide (lbN (l.filter (kp t)) t < (l.filter (kp t)).length ∧ slx (nth (l.filter (kp t)) (lbN (l.filter (kp t)) t)).ni t.ni = 0)))])) rfl ?_
  refine R_ext (v := (V.bool (decide (lbN (l.filter (kp t)) t < (l.filter (kp t)).length ∧ slx (nth (l.filter (kp t)) (lbN (l.filter (kp t)) t)).ni t.ni = 0)))) (@rfl V (V.tup [(iV ((lbN (l.filter (kp t)) t : Nat) : Int)), (V.bool (decide (lbN (l.filter (kp t)) t < (l.filter (kp t)).length ∧ slx (nth (l.filter (kp t)) (lbN (l.filter (kp t)) t)).ni t.ni = 0)))])) rfl ?_
  refine R_mv (@rfl V (iV ((lbN (l.filter (kp t)) t : Nat) : Int))) ?_
  refine R_mv (@rfl V (V.bool (decide (lbN (l.filter (kp t)) t < (l.filter (kp t)).length ∧ slx (nth (l.filter (kp t)) (lbN (l.filter (kp t)) t)).ni t.ni = 0)))) ?_
  exact R_nil ⟨t0, t3, rfl, hF, h209, h303, h308, h354, h407, trivial⟩
 intro T H ⟨t0, t3, t9, hF, h209, h303, h308, h354, h407, _⟩
 refine W_seq_regc (fun T H => T 4 = (V.ms 209 (v9 + 2) 0 ((l.filter (kp t)).length + 1)) ∧ T 5 = (iV (0 : Int)) ∧ (∀ j, j ∉ [303, 308, 354, 407, 209] → H j = Hi j) ∧ H 209 = (⟨v9 + 2, true, false, 63, 2, (List.map cT (ins (l.filter (kp t)) t))⟩ : Blk) ∧ H 303 = (⟨v3 + 1, true, false, 63, 2, [[(V.sl (List.map cI (t.ni))), (V.sl (List.map cI (t.no)))]]⟩ : Blk) ∧ (H 308).ver = v308 ∧ H 354 = (⟨v54 + 1, true, false, 63, 2, [[(V.sl (List.map cI (t.ni))), (V.sl (List.map cI (t.no)))]]⟩ : Blk) ∧ H 407 = (⟨v7 + l.length, false, false, 0, 0, []⟩ : Blk) ∧ True) ?_ ?_
 ·
  unfold r103_15
  refine R_mv t0 ?_
  refine R_mv t9 ?_
  refine R_load_mp (v := (V.agg [(V.sl (List.map cI (t.ni))), (V.sl (List.map cI (t.no)))])) t3 h303 (by first | rfl | simp [ldB, ldV, Blk.own, V.one]) ?_
  refine R_call (evcons (@rfl V (V.agg [(V.sl (List.map cI (t.ni))), (V.sl (List.map cI (t.no)))])) evnil) (copied_pure t (by first | omega | assumption) (by first | omega | assumption)) (fzv_mapcanon _ _ (by simp [-List.map_take, -List.map_drop, -List.map_append, -List.map_reverse])) (by simp [-List.map_take, -List.map_drop, -List.map_append, -List.map_reverse]) (Or.inl (by simp [-List.map_take, -List.map_drop, -List.map_append, -List.map_reverse])) ?_
  refine R_bslice_own (i := 354) (n := v54) (qs := [(0, (V.agg [(V.sl (List.map cI (t.ni))), (V.sl (List.map cI (t.no)))]))]) (rows := [[(V.sl (List.map cI (t.ni))), (V.sl (List.map cI (t.no)))]]) (by rfl) h354 (mcons (congrArg (fun v => (0, v)) (@rfl V (V.agg [(V.sl (List.map cI (t.ni))), (V.sl (List.map cI (t.no)))]))) rfl) rfl ?_
  refine R_callE (evcons (@rfl V (V.ms 209 v9 0 (((l.filter (kp t)).length)))) (evcons (@rfl V (iV ((lbN (l.filter (kp t)) t : Nat) : Int))) (evcons (@rfl V (V.ms 354 (v54 + 1) 0 (1))) evnil))) (insert_tr (F := (l.filter (kp t))) (t := t) _ h209 rfl (by omega) hsr) ?_
  refine R_mv (@rfl V (V.ms 209 (v9 + 2) 0 ((l.filter (kp t)).length + 1))) ?_
  refine R_mv (@rfl V (iV (0 : Int))) ?_
  exact R_nil ⟨rfl, rfl, (upd_out (upd_out hF (by decide)) (by decide)), rfl, h303, h308, rfl, h407, trivial⟩
 intro T H ⟨t4, t5, hF, h209, h303, h308, h354, h407, _⟩
 refine W_ret ?_
 exfalso
 have d4 : ¬0 ≤ fi (ndP l t) 0 l.length := by rw [hc, fi_end (by omega)]; omega
 apply he; rw [addE, if_neg d4, if_neg d2, if_neg (by omega)]
end Go.Proofs.Ytngkckefanbhgaa

