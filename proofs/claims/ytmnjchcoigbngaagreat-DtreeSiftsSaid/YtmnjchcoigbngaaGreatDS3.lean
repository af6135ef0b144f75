/- Contracts of the functions that the law DS reaches, and the law itself, for every input; no condition. -/
import Derived.KernelRfl
import Derived.Test.YtmnjchcoigbngaaGreatProg
import Derived.Test.YtmnjchcoigbngaaGreatDS2
set_option linter.unusedSimpArgs false
set_option linter.unusedVariables false
namespace Go.Proofs.YtmnjchcoigbngaaGreat
open Go Go.Proofs
theorem inner_pure (x : Nd) (n : Nat) (ho : x.ou.length ≤ 1048576) : PureC Tryz.prog 35 [(V.agg (cN x)), (iV ((n : Nat) : Int))] (iV (inE2 x n)) := by
 refine pure_of_Wb true 6 Tryz.func35 s35_ok (by kernel_rfl) (by simp [s35]) (by simp) (by simp) fun hB => ?_
 simp only [bnd_map, bnd_int, bnd_bool, bnd_str, bnd_agg, bnd_pp, bnd_nil, bnd_cons, implies_true, and_true, true_and] at hB
 unfold s35
 dsimp only
 refine W_seq_regc (fun T H => T 1 = (iV ((n : Nat) : Int)) ∧ T 2 = (V.mp 2 1 0 0) ∧ H 2 = (bk 1 68 5 [(cN x)]) ∧ True) ?_ ?_
 ·
  unfold r35_0
  refine R_box (i := 2) (n := 0) (m := 5) (cs := [(V.bool x.lf), (ints x.ac), (ints x.sf), (intss x.ou), (ints x.kd)]) rfl (congrArg Blk.ver rfl) (@rfl V (V.agg (cN x))) rfl rfl ?_
  refine R_mv (@rfl V (iV (0 : Int))) ?_
  exact R_nil ⟨rfl, rfl, rfl, trivial⟩
 intro T H ⟨t1, t2, h2, _⟩
 refine W_seq_blockg fun Q1 n1 x1 y1 z1 => ?_
 refine W_seq_regc (fun T H => T 1 = (iV ((n : Nat) : Int)) ∧ T 2 = (V.mp 2 1 0 0) ∧ T 9 = (V.bool (decide ((0 : Int) < ((x.ac.length : Nat) : Int)))) ∧ H 2 = (bk 1 68 5 [(cN x)]) ∧ True) ?_ ?_
 ·
  unfold r35_1
  refine R_fld_mp (o' := 1) t2 h2 (by first | rfl | simp [okB, Blk.own]) rfl ?_
  refine R_load_mp (v := (ints x.ac)) (@rfl V (V.mp 2 1 0 1)) h2 (by first | rfl | simp [ldB, ldV, Blk.own, V.one]) ?_
  refine R_len (@rfl V (ints x.ac)) ?_
  refine R_gtr (x := ((x.ac.length : Nat) : Int)) (y := (0 : Int)) (@rfl V (iV ((x.ac.length : Nat) : Int))) (@rfl V (iV (0 : Int))) ?_
  refine R_mv (@rfl V (V.bool (decide ((0 : Int) < ((x.ac.length : Nat) : Int))))) ?_
  exact R_nil ⟨t1, t2, rfl, h2, trivial⟩
 intro T H ⟨t1, t2, t9, h2, _⟩
 refine W_if (p := (0 : Int) < ((x.ac.length : Nat) : Int)) t9 (fun c2 => ?_) (fun c2 => ?_)
 ·
  refine W_seq_regc (fun T H => T 4 = (iV (1 : Int)) ∧ H 2 = (bk 1 68 5 [(cN x)]) ∧ True) ?_ ?_
  ·
   unfold r35_2
   refine R_mv (@rfl V (iV (1 : Int))) ?_
   exact R_nil ⟨rfl, h2, trivial⟩
  intro T H ⟨t4, h2, _⟩
  refine W_ret ?_
  refine y1 _ _ ?_
  refine Ret_1 t4 (fz_int ?_)
  · rw [inE2, if_pos (by omega)]
 refine W_seq_regc (fun T H => T 1 = (iV ((n : Nat) : Int)) ∧ T 2 = (V.mp 2 1 0 0) ∧ T 14 = (V.bool (decide (((x.sf.length : Nat) : Int) = (0 : Int)))) ∧ H 2 = (bk 1 68 5 [(cN x)]) ∧ True) ?_ ?_
 ·
  unfold r35_3
  refine R_fld_mp (o' := 2) t2 h2 (by first | rfl | simp [okB, Blk.own]) rfl ?_
  refine R_load_mp (v := (ints x.sf)) (@rfl V (V.mp 2 1 0 2)) h2 (by first | rfl | simp [ldB, ldV, Blk.own, V.one]) ?_
  refine R_len (@rfl V (ints x.sf)) ?_
  refine R_eql (x := ((x.sf.length : Nat) : Int)) (y := (0 : Int)) (@rfl V (iV ((x.sf.length : Nat) : Int))) (@rfl V (iV (0 : Int))) ?_
  refine R_mv (@rfl V (V.bool (decide (((x.sf.length : Nat) : Int) = (0 : Int))))) ?_
  exact R_nil ⟨t1, t2, rfl, h2, trivial⟩
 intro T H ⟨t1, t2, t14, h2, _⟩
 refine W_if (p := ((x.sf.length : Nat) : Int) = (0 : Int)) t14 (fun c3 => ?_) (fun c3 => ?_)
 ·
  refine W_seq_regc (fun T H => T 4 = (iV (19 : Int)) ∧ H 2 = (bk 1 68 5 [(cN x)]) ∧ True) ?_ ?_
  ·
   unfold r35_4
   refine R_mv (@rfl V (iV (19 : Int))) ?_
   exact R_nil ⟨rfl, h2, trivial⟩
  intro T H ⟨t4, h2, _⟩
  refine W_ret ?_
  refine y1 _ _ ?_
  refine Ret_1 t4 (fz_int ?_)
  · rw [inE2, if_neg (by omega), if_pos (by omega)]
 refine W_skip ?_
 refine n1 _ _ ?_
 refine .done ?_
 refine W_seq_seq ?_
 refine W_seq_regc (fun T H => T 1 = (iV ((n : Nat) : Int)) ∧ T 2 = (V.mp 2 1 0 0) ∧ T 5 = (iV (wchk x.sf ((64 : Int)))) ∧ H 2 = (bk 1 68 5 [(cN x)]) ∧ True) ?_ ?_
 ·
  unfold r35_5
  refine R_fld_mp (o' := 2) t2 h2 (by first | rfl | simp [okB, Blk.own]) rfl ?_
  refine R_load_mp (v := (ints x.sf)) (@rfl V (V.mp 2 1 0 2)) h2 (by first | rfl | simp [ldB, ldV, Blk.own, V.one]) ?_
  refine R_callc (evcons (@rfl V (ints x.sf)) (evcons (@rfl V (iV (64 : Int))) evnil)) (check_pure x.sf ((64 : Int))) ?_
  refine R_mv (@rfl V (iV (wchk x.sf ((64 : Int))))) ?_
  exact R_nil ⟨t1, t2, rfl, h2, trivial⟩
 intro T H ⟨t1, t2, t5, h2, _⟩
 refine W_seq_seq ?_
 refine W_seq_regc (fun T H => T 1 = (iV ((n : Nat) : Int)) ∧ T 2 = (V.mp 2 1 0 0) ∧ T 5 = (iV (wchk x.sf ((64 : Int)))) ∧ T 23 = (V.bool (decide ((wchk x.sf ((64 : Int))) ≠ (0 : Int)))) ∧ H 2 = (bk 1 68 5 [(cN x)]) ∧ True) ?_ ?_
 ·
  unfold r35_6
  refine R_mv t5 ?_
  refine R_neq (x := (wchk x.sf ((64 : Int)))) (y := (0 : Int)) (@rfl V (iV (wchk x.sf ((64 : Int))))) (@rfl V (iV (0 : Int))) ?_
  exact R_nil ⟨t1, t2, t5, rfl, h2, trivial⟩
 intro T H ⟨t1, t2, t5, t23, h2, _⟩
 refine W_seq_if (p := (wchk x.sf ((64 : Int))) ≠ (0 : Int)) t23 (fun c4 => ?_) (fun c4 => ?_)
 ·
  refine W_seq_seq ?_
  refine W_seq_regc (fun T H => T 4 = (iV (wchk x.sf ((64 : Int)))) ∧ H 2 = (bk 1 68 5 [(cN x)]) ∧ True) ?_ ?_
  ·
   unfold r35_7
   refine R_mv t5 ?_
   refine R_mv (@rfl V (iV (wchk x.sf ((64 : Int))))) ?_
   exact R_nil ⟨rfl, h2, trivial⟩
  intro T H ⟨t4, h2, _⟩
  refine W_seq_ret ?_
  refine Ret_1 t4 (fz_int ?_)
  · rw [inE2, if_neg (by omega), if_neg (by omega), if_pos (by omega)]
 refine W_seq_skip ?_
 refine W_seq_seq ?_
 refine W_seq_regc (fun T H => T 1 = (iV ((n : Nat) : Int)) ∧ T 2 = (V.mp 2 1 0 0) ∧ T 31 = (V.bool (decide (((x.ou.length : Nat) : Int) ≠ ((x.kd.length : Nat) : Int)))) ∧ H 2 = (bk 1 68 5 [(cN x)]) ∧ True) ?_ ?_
 ·
  unfold r35_8
  refine R_fld_mp (o' := 3) t2 h2 (by first | rfl | simp [okB, Blk.own]) rfl ?_
  refine R_load_mp (v := (intss x.ou)) (@rfl V (V.mp 2 1 0 3)) h2 (by first | rfl | simp [ldB, ldV, Blk.own, V.one]) ?_
  refine R_len (@rfl V (intss x.ou)) ?_
  refine R_fld_mp (o' := 4) t2 h2 (by first | rfl | simp [okB, Blk.own]) rfl ?_
  refine R_load_mp (v := (ints x.kd)) (@rfl V (V.mp 2 1 0 4)) h2 (by first | rfl | simp [ldB, ldV, Blk.own, V.one]) ?_
  refine R_len (@rfl V (ints x.kd)) ?_
  refine R_neq (x := ((x.ou.length : Nat) : Int)) (y := ((x.kd.length : Nat) : Int)) (@rfl V (iV ((x.ou.length : Nat) : Int))) (@rfl V (iV ((x.kd.length : Nat) : Int))) ?_
  exact R_nil ⟨t1, t2, rfl, h2, trivial⟩
 intro T H ⟨t1, t2, t31, h2, _⟩
 refine W_seq_if (p := ((x.ou.length : Nat) : Int) ≠ ((x.kd.length : Nat) : Int)) t31 (fun c5 => ?_) (fun c5 => ?_)
 ·
  refine W_seq_seq ?_
  refine W_seq_regc (fun T H => T 4 = (iV (1 : Int)) ∧ H 2 = (bk 1 68 5 [(cN x)]) ∧ True) ?_ ?_
  ·
   unfold r35_9
   refine R_mv (@rfl V (iV (1 : Int))) ?_
   exact R_nil ⟨rfl, h2, trivial⟩
  intro T H ⟨t4, h2, _⟩
  refine W_seq_ret ?_
  refine Ret_1 t4 (fz_int ?_)
  · rw [inE2, if_neg (by omega), if_neg (by omega), if_neg (by omega), if_pos (by omega)]
 refine W_seq_skip ?_
 refine W_seq_seq ?_
 refine W_seq_regc (fun T H => T 1 = (iV ((n : Nat) : Int)) ∧ T 2 = (V.mp 2 1 0 0) ∧ T 33 = (intss x.ou) ∧ T 34 = (iV ((x.ou.length : Nat) : Int)) ∧ T 35 = (iV (0 : Int)) ∧ H 2 = (bk 1 68 5 [(cN x)]) ∧ True) ?_ ?_
 ·
  unfold r35_10
  refine R_fld_mp (o' := 3) t2 h2 (by first | rfl | simp [okB, Blk.own]) rfl ?_
  refine R_load_mp (v := (intss x.ou)) (@rfl V (V.mp 2 1 0 3)) h2 (by first | rfl | simp [ldB, ldV, Blk.own, V.one]) ?_
  refine R_len (@rfl V (intss x.ou)) ?_
  refine R_mv (@rfl V (iV (0 : Int))) ?_
  exact R_nil ⟨t1, t2, rfl, rfl, rfl, h2, trivial⟩
 intro T H ⟨t1, t2, t33, t34, t35, h2, _⟩
 refine W_seq_blockg fun Q6 n6 x6 y6 z6 => ?_
 refine W_loop (fun mm T H => ∃ (k : Nat), mm = x.ou.length - k ∧ T 1 = (iV ((n : Nat) : Int)) ∧ T 2 = (V.mp 2 1 0 0) ∧ T 33 = (intss x.ou) ∧ T 34 = (iV ((x.ou.length : Nat) : Int)) ∧ T 35 = (iV ((k : Nat) : Int)) ∧ H 2 = (bk 1 68 5 [(cN x)]) ∧ (k ≤ x.ou.length) ∧ (x.ou.length = x.kd.length) ∧ (x.ac.length = 0) ∧ (x.sf.length ≠ 0) ∧ (wchk x.sf 64 = 0) ∧ (fe (chE x n) 0 x.ou.length = fe (chE x n) k (x.ou.length - k))) ?_ ?_
 ·
  refine ⟨_, 0, rfl, t1, t2, t33, t34, (Eq.trans t35 (by first | rfl | simp)), h2, ?_, ?_, ?_, ?_, ?_, ?_⟩
  · omega
  · omega
  · omega
  · omega
  · omega
  · rfl
 intro mm T H ⟨k, hmm, t1, t2, t33, t34, t35, h2, hk, hl, ga, gs, gw, hc⟩ Q7 p17 p27 p37
 unfold b35_0
 refine W_seq_regc (fun T H => T 1 = (iV ((n : Nat) : Int)) ∧ T 2 = (V.mp 2 1 0 0) ∧ T 33 = (intss x.ou) ∧ T 34 = (iV ((x.ou.length : Nat) : Int)) ∧ T 35 = (iV ((k : Nat) : Int)) ∧ T 36 = (V.bool (decide (((k : Nat) : Int) < ((x.ou.length : Nat) : Int)))) ∧ H 2 = (bk 1 68 5 [(cN x)]) ∧ True) ?_ ?_
 ·
  unfold r35_11
  refine R_lss (x := ((k : Nat) : Int)) (y := ((x.ou.length : Nat) : Int)) t35 t34 ?_
  exact R_nil ⟨t1, t2, t33, t34, t35, rfl, h2, trivial⟩
 intro T H ⟨t1, t2, t33, t34, t35, t36, h2, _⟩
 refine W_seq_if (p := ((k : Nat) : Int) < ((x.ou.length : Nat) : Int)) t36 (fun c8 => ?_) (fun c8 => ?_)
 ·
  refine W_seq_skip ?_
  refine W_seq_blockg fun Q9 n9 x9 y9 z9 => ?_
  refine W_seq_regc (fun T H => T 1 = (iV ((n : Nat) : Int)) ∧ T 2 = (V.mp 2 1 0 0) ∧ T 6 = (iV ((k : Nat) : Int)) ∧ T 7 = (ints ((nth (x.ou) (k)))) ∧ T 33 = (intss x.ou) ∧ T 34 = (iV ((x.ou.length : Nat) : Int)) ∧ T 35 = (iV ((k : Nat) : Int)) ∧ H 2 = (bk 1 68 5 [(cN x)]) ∧ True) ?_ ?_
  ·
   unfold r35_12
   refine R_mv t35 ?_
   refine R_idx (i := k) t33 t35 (by omega) rfl ?_
   refine R_load_pp (v := (ints ((nth (x.ou) (k))))) rfl (by first | rfl | simp [ldV]) ?_
   refine R_mv (@rfl V (iV ((k : Nat) : Int))) ?_
   refine R_mv (@rfl V (ints ((nth (x.ou) (k))))) ?_
   exact R_nil ⟨t1, t2, rfl, rfl, t33, t34, t35, h2, trivial⟩
  intro T H ⟨t1, t2, t6, t7, t33, t34, t35, h2, _⟩
  refine W_seq_seq ?_
  refine W_seq_regc (fun T H => T 1 = (iV ((n : Nat) : Int)) ∧ T 2 = (V.mp 2 1 0 0) ∧ T 6 = (iV ((k : Nat) : Int)) ∧ T 7 = (ints ((nth (x.ou) (k)))) ∧ T 8 = (iV (vlE ((nth (x.ou) (k))) x.sf)) ∧ T 33 = (intss x.ou) ∧ T 34 = (iV ((x.ou.length : Nat) : Int)) ∧ T 35 = (iV ((k : Nat) : Int)) ∧ H 2 = (bk 1 68 5 [(cN x)]) ∧ True) ?_ ?_
  ·
   unfold r35_13
   refine R_mv t7 ?_
   refine R_fld_mp (o' := 2) t2 h2 (by first | rfl | simp [okB, Blk.own]) rfl ?_
   refine R_load_mp (v := (ints x.sf)) (@rfl V (V.mp 2 1 0 2)) h2 (by first | rfl | simp [ldB, ldV, Blk.own, V.one]) ?_
   refine R_callc (evcons (@rfl V (ints ((nth (x.ou) (k))))) (evcons (@rfl V (ints x.sf)) evnil)) (values_pure ((nth (x.ou) (k))) x.sf) ?_
   refine R_mv (@rfl V (iV (vlE ((nth (x.ou) (k))) x.sf))) ?_
   exact R_nil ⟨t1, t2, t6, t7, rfl, t33, t34, t35, h2, trivial⟩
  intro T H ⟨t1, t2, t6, t7, t8, t33, t34, t35, h2, _⟩
  refine W_seq_seq ?_
  refine W_seq_regc (fun T H => T 1 = (iV ((n : Nat) : Int)) ∧ T 2 = (V.mp 2 1 0 0) ∧ T 6 = (iV ((k : Nat) : Int)) ∧ T 7 = (ints ((nth (x.ou) (k)))) ∧ T 8 = (iV (vlE ((nth (x.ou) (k))) x.sf)) ∧ T 33 = (intss x.ou) ∧ T 34 = (iV ((x.ou.length : Nat) : Int)) ∧ T 35 = (iV ((k : Nat) : Int)) ∧ T 45 = (V.bool (decide ((vlE ((nth (x.ou) (k))) x.sf) ≠ (0 : Int)))) ∧ H 2 = (bk 1 68 5 [(cN x)]) ∧ True) ?_ ?_
  ·
   unfold r35_14
   refine R_mv t8 ?_
   refine R_neq (x := (vlE ((nth (x.ou) (k))) x.sf)) (y := (0 : Int)) (@rfl V (iV (vlE ((nth (x.ou) (k))) x.sf))) (@rfl V (iV (0 : Int))) ?_
   exact R_nil ⟨t1, t2, t6, t7, t8, t33, t34, t35, rfl, h2, trivial⟩
  intro T H ⟨t1, t2, t6, t7, t8, t33, t34, t35, t45, h2, _⟩
  refine W_seq_if (p := (vlE ((nth (x.ou) (k))) x.sf) ≠ (0 : Int)) t45 (fun c10 => ?_) (fun c10 => ?_)
  ·
   refine W_seq_seq ?_
   refine W_seq_regc (fun T H => T 4 = (iV (vlE ((nth (x.ou) (k))) x.sf)) ∧ H 2 = (bk 1 68 5 [(cN x)]) ∧ True) ?_ ?_
   ·
    unfold r35_15
    refine R_mv t8 ?_
    refine R_mv (@rfl V (iV (vlE ((nth (x.ou) (k))) x.sf))) ?_
    exact R_nil ⟨rfl, h2, trivial⟩
   intro T H ⟨t4, h2, _⟩
   refine W_seq_ret ?_
   refine y9 _ _ ?_
   refine p27 _ _ ?_
   refine y6 _ _ ?_
   refine Ret_1 t4 (fz_int ?_)
   · rw [inE2, if_neg (by omega), if_neg (by omega), if_neg (by omega), if_neg (by omega), hc, fe_hit (by rw [chE, if_pos (by omega)]; omega) (by omega), chE, if_pos (by omega)]
  refine W_seq_skip ?_
  refine W_seq_seq ?_
  refine W_seq_regc (fun T H => T 1 = (iV ((n : Nat) : Int)) ∧ T 2 = (V.mp 2 1 0 0) ∧ T 6 = (iV ((k : Nat) : Int)) ∧ T 33 = (intss x.ou) ∧ T 34 = (iV ((x.ou.length : Nat) : Int)) ∧ T 35 = (iV ((k : Nat) : Int)) ∧ T 59 = (V.bool (decide (((0 : Int) < ((k : Nat) : Int)) ∧ ((0 : Int) ≤ (lexI ((nth (x.ou) (((k : Nat) : Int) - (1 : Int)).toNat)) ((nth (x.ou) (k)))))))) ∧ H 2 = (bk 1 68 5 [(cN x)]) ∧ True) ?_ ?_
  ·
   unfold r35_16
   refine R_mv t6 ?_
   refine R_gtr (x := ((k : Nat) : Int)) (y := (0 : Int)) (@rfl V (iV ((k : Nat) : Int))) (@rfl V (iV (0 : Int))) ?_
   refine R_mv (@rfl V (V.bool (decide ((0 : Int) < ((k : Nat) : Int))))) ?_
   refine Ops_seg 10 (fun T H => T 1 = (iV ((n : Nat) : Int)) ∧ T 2 = (V.mp 2 1 0 0) ∧ T 6 = (iV ((k : Nat) : Int)) ∧ T 33 = (intss x.ou) ∧ T 34 = (iV ((x.ou.length : Nat) : Int)) ∧ T 35 = (iV ((k : Nat) : Int)) ∧ T 59 = (V.bool (decide (((0 : Int) < ((k : Nat) : Int)) ∧ ((0 : Int) ≤ (lexI ((nth (x.ou) (((k : Nat) : Int) - (1 : Int)).toNat)) ((nth (x.ou) (k)))))))) ∧ H 2 = (bk 1 68 5 [(cN x)]) ∧ True) ?_ ?_
   ·
    by_cases g11 : (0 : Int) < ((k : Nat) : Int)
    ·
     refine G_yes (Eq.trans (@rfl V (V.bool (decide ((0 : Int) < ((k : Nat) : Int))))) (bdT g11)) ?_
     refine R_fld_mp (o' := 3) t2 h2 (by first | rfl | simp [okB, Blk.own]) rfl ?_
     refine G_yes (Eq.trans (@rfl V (V.bool (decide ((0 : Int) < ((k : Nat) : Int))))) (bdT g11)) ?_
     refine R_load_mp (v := (intss x.ou)) (@rfl V (V.mp 2 1 0 3)) h2 (by first | rfl | simp [ldB, ldV, Blk.own, V.one]) ?_
     refine G_yes (Eq.trans (@rfl V (V.bool (decide ((0 : Int) < ((k : Nat) : Int))))) (bdT g11)) ?_
     refine R_mv t6 ?_
     refine G_yes (Eq.trans (@rfl V (V.bool (decide ((0 : Int) < ((k : Nat) : Int))))) (bdT g11)) ?_
     refine R_sub (x := ((k : Nat) : Int)) (y := (1 : Int)) (@rfl V (iV ((k : Nat) : Int))) (@rfl V (iV (1 : Int))) (by omega) (by omega) ?_
     refine G_yes (Eq.trans (@rfl V (V.bool (decide ((0 : Int) < ((k : Nat) : Int))))) (bdT g11)) ?_
     refine R_idxI (i := (((k : Nat) : Int) - (1 : Int))) (@rfl V (intss x.ou)) (@rfl V (iV (((k : Nat) : Int) - (1 : Int)))) (by omega) (by omega) rfl ?_
     refine G_yes (Eq.trans (@rfl V (V.bool (decide ((0 : Int) < ((k : Nat) : Int))))) (bdT g11)) ?_
     refine R_load_pp (v := (ints ((nth (x.ou) (((k : Nat) : Int) - (1 : Int)).toNat)))) rfl (by first | rfl | simp [ldV]) ?_
     refine G_yes (Eq.trans (@rfl V (V.bool (decide ((0 : Int) < ((k : Nat) : Int))))) (bdT g11)) ?_
     refine R_mv t7 ?_
     refine G_yes (Eq.trans (@rfl V (V.bool (decide ((0 : Int) < ((k : Nat) : Int))))) (bdT g11)) ?_
     refine R_callc (evcons (@rfl V (ints ((nth (x.ou) (((k : Nat) : Int) - (1 : Int)).toNat)))) (evcons (@rfl V (ints ((nth (x.ou) (k))))) evnil)) (lex_pure ((nth (x.ou) (((k : Nat) : Int) - (1 : Int)).toNat)) ((nth (x.ou) (k)))) ?_
     refine G_yes (Eq.trans (@rfl V (V.bool (decide ((0 : Int) < ((k : Nat) : Int))))) (bdT g11)) ?_
     refine R_geq (x := (lexI ((nth (x.ou) (((k : Nat) : Int) - (1 : Int)).toNat)) ((nth (x.ou) (k))))) (y := (0 : Int)) (@rfl V (iV (lexI ((nth (x.ou) (((k : Nat) : Int) - (1 : Int)).toNat)) ((nth (x.ou) (k)))))) (@rfl V (iV (0 : Int))) ?_
     refine R_pickT (Eq.trans (@rfl V (V.bool (decide ((0 : Int) < ((k : Nat) : Int))))) (bdT g11)) (@rfl V (V.bool (decide ((0 : Int) ≤ (lexI ((nth (x.ou) (((k : Nat) : Int) - (1 : Int)).toNat)) ((nth (x.ou) (k)))))))) ?_
     exact ⟨t1, t2, t6, t33, t34, t35, (Eq.trans (@rfl V (V.bool (decide ((0 : Int) ≤ (lexI ((nth (x.ou) (((k : Nat) : Int) - (1 : Int)).toNat)) ((nth (x.ou) (k)))))))) (dec_andT g11)), h2, trivial⟩
    ·
     refine G_no (Eq.trans (@rfl V (V.bool (decide ((0 : Int) < ((k : Nat) : Int))))) (bdF g11)) (by decide) ?_
     refine G_no (Eq.trans (@rfl V (V.bool (decide ((0 : Int) < ((k : Nat) : Int))))) (bdF g11)) (by decide) ?_
     refine G_no (Eq.trans (@rfl V (V.bool (decide ((0 : Int) < ((k : Nat) : Int))))) (bdF g11)) (by decide) ?_
     refine G_no (Eq.trans (@rfl V (V.bool (decide ((0 : Int) < ((k : Nat) : Int))))) (bdF g11)) (by decide) ?_
     refine G_no (Eq.trans (@rfl V (V.bool (decide ((0 : Int) < ((k : Nat) : Int))))) (bdF g11)) (by decide) ?_
     refine G_no (Eq.trans (@rfl V (V.bool (decide ((0 : Int) < ((k : Nat) : Int))))) (bdF g11)) (by decide) ?_
     refine G_no (Eq.trans (@rfl V (V.bool (decide ((0 : Int) < ((k : Nat) : Int))))) (bdF g11)) (by decide) ?_
     refine G_no (Eq.trans (@rfl V (V.bool (decide ((0 : Int) < ((k : Nat) : Int))))) (bdF g11)) (by decide) ?_
     refine G_no (Eq.trans (@rfl V (V.bool (decide ((0 : Int) < ((k : Nat) : Int))))) (bdF g11)) (by decide) ?_
     refine R_pickF (Eq.trans (@rfl V (V.bool (decide ((0 : Int) < ((k : Nat) : Int))))) (bdF g11)) (@rfl V (V.bool false)) ?_
     exact ⟨t1, t2, t6, t33, t34, t35, (Eq.trans (@rfl V (V.bool false)) (dec_andF g11)), h2, trivial⟩
   intro T H ⟨t1, t2, t6, t33, t34, t35, t59, h2, _⟩
   exact R_nil ⟨t1, t2, t6, t33, t34, t35, t59, h2, trivial⟩
  intro T H ⟨t1, t2, t6, t33, t34, t35, t59, h2, _⟩
  refine W_seq_if (p := ((0 : Int) < ((k : Nat) : Int)) ∧ ((0 : Int) ≤ (lexI ((nth (x.ou) (((k : Nat) : Int) - (1 : Int)).toNat)) ((nth (x.ou) (k)))))) t59 (fun c12 => ?_) (fun c12 => ?_)
  ·
   have d2 : 0 < k ∧ 0 ≤ lexI (nth x.ou (k - 1)) (nth x.ou k) := by have q := c12; rw [show (((k : Nat) : Int) - (1 : Int)).toNat = k - 1 by omega] at q; omega
   refine W_seq_seq ?_
   refine W_seq_regc (fun T H => T 4 = (iV (10 : Int)) ∧ H 2 = (bk 1 68 5 [(cN x)]) ∧ True) ?_ ?_
   ·
    unfold r35_17
    refine R_mv (@rfl V (iV (10 : Int))) ?_
    exact R_nil ⟨rfl, h2, trivial⟩
   intro T H ⟨t4, h2, _⟩
   refine W_seq_ret ?_
   refine y9 _ _ ?_
   refine p27 _ _ ?_
   refine y6 _ _ ?_
   refine Ret_1 t4 (fz_int ?_)
   · rw [inE2, if_neg (by omega), if_neg (by omega), if_neg (by omega), if_neg (by omega), hc, fe_hit (by rw [chE, if_neg (by omega), if_pos d2]; omega) (by omega), chE, if_neg (by omega), if_pos d2]
  have d2 : ¬(0 < k ∧ 0 ≤ lexI (nth x.ou (k - 1)) (nth x.ou k)) := by have q := c12; rw [show (((k : Nat) : Int) - (1 : Int)).toNat = k - 1 by omega] at q; omega
  refine W_seq_skip ?_
  refine W_seq_regc (fun T H => T 1 = (iV ((n : Nat) : Int)) ∧ T 2 = (V.mp 2 1 0 0) ∧ T 33 = (intss x.ou) ∧ T 34 = (iV ((x.ou.length : Nat) : Int)) ∧ T 35 = (iV ((k : Nat) : Int)) ∧ T 74 = (V.bool (decide ((((nth (x.kd) (k))) < (0 : Int)) ∨ (((n : Nat) : Int) ≤ ((nth (x.kd) (k))))))) ∧ H 2 = (bk 1 68 5 [(cN x)]) ∧ True) ?_ ?_
  ·
   unfold r35_18
   refine R_fld_mp (o' := 4) t2 h2 (by first | rfl | simp [okB, Blk.own]) rfl ?_
   refine R_load_mp (v := (ints x.kd)) (@rfl V (V.mp 2 1 0 4)) h2 (by first | rfl | simp [ldB, ldV, Blk.own, V.one]) ?_
   refine R_mv t6 ?_
   refine R_idx (i := k) (@rfl V (ints x.kd)) (@rfl V (iV ((k : Nat) : Int))) (by omega) rfl ?_
   refine R_load_pp (v := (iV ((nth (x.kd) (k))))) rfl (by first | rfl | simp [ldV]) ?_
   refine R_lss (x := ((nth (x.kd) (k)))) (y := (0 : Int)) (@rfl V (iV ((nth (x.kd) (k))))) (@rfl V (iV (0 : Int))) ?_
   refine R_mv (@rfl V (V.bool (decide (((nth (x.kd) (k))) < (0 : Int))))) ?_
   refine Ops_seg 8 (fun T H => T 1 = (iV ((n : Nat) : Int)) ∧ T 2 = (V.mp 2 1 0 0) ∧ T 33 = (intss x.ou) ∧ T 34 = (iV ((x.ou.length : Nat) : Int)) ∧ T 35 = (iV ((k : Nat) : Int)) ∧ T 74 = (V.bool (decide ((((nth (x.kd) (k))) < (0 : Int)) ∨ (((n : Nat) : Int) ≤ ((nth (x.kd) (k))))))) ∧ H 2 = (bk 1 68 5 [(cN x)]) ∧ True) ?_ ?_
   ·
    by_cases g13 : ((nth (x.kd) (k))) < (0 : Int)
    ·
     refine G_no (Eq.trans (@rfl V (V.bool (decide (((nth (x.kd) (k))) < (0 : Int))))) (bdT g13)) (by decide) ?_
     refine G_no (Eq.trans (@rfl V (V.bool (decide (((nth (x.kd) (k))) < (0 : Int))))) (bdT g13)) (by decide) ?_
     refine G_no (Eq.trans (@rfl V (V.bool (decide (((nth (x.kd) (k))) < (0 : Int))))) (bdT g13)) (by decide) ?_
     refine G_no (Eq.trans (@rfl V (V.bool (decide (((nth (x.kd) (k))) < (0 : Int))))) (bdT g13)) (by decide) ?_
     refine G_no (Eq.trans (@rfl V (V.bool (decide (((nth (x.kd) (k))) < (0 : Int))))) (bdT g13)) (by decide) ?_
     refine G_no (Eq.trans (@rfl V (V.bool (decide (((nth (x.kd) (k))) < (0 : Int))))) (bdT g13)) (by decide) ?_
     refine G_no (Eq.trans (@rfl V (V.bool (decide (((nth (x.kd) (k))) < (0 : Int))))) (bdT g13)) (by decide) ?_
     refine R_pickT (Eq.trans (@rfl V (V.bool (decide (((nth (x.kd) (k))) < (0 : Int))))) (bdT g13)) (@rfl V (V.bool true)) ?_
     exact ⟨t1, t2, t33, t34, t35, (Eq.trans (@rfl V (V.bool true)) (dec_orT g13)), h2, trivial⟩
    ·
     refine G_yes (Eq.trans (@rfl V (V.bool (decide (((nth (x.kd) (k))) < (0 : Int))))) (bdF g13)) ?_
     refine R_fld_mp (o' := 4) t2 h2 (by first | rfl | simp [okB, Blk.own]) rfl ?_
     refine G_yes (Eq.trans (@rfl V (V.bool (decide (((nth (x.kd) (k))) < (0 : Int))))) (bdF g13)) ?_
     refine R_load_mp (v := (ints x.kd)) (@rfl V (V.mp 2 1 0 4)) h2 (by first | rfl | simp [ldB, ldV, Blk.own, V.one]) ?_
     refine G_yes (Eq.trans (@rfl V (V.bool (decide (((nth (x.kd) (k))) < (0 : Int))))) (bdF g13)) ?_
     refine R_mv t6 ?_
     refine G_yes (Eq.trans (@rfl V (V.bool (decide (((nth (x.kd) (k))) < (0 : Int))))) (bdF g13)) ?_
     refine R_idx (i := k) (@rfl V (ints x.kd)) (@rfl V (iV ((k : Nat) : Int))) (by omega) rfl ?_
     refine G_yes (Eq.trans (@rfl V (V.bool (decide (((nth (x.kd) (k))) < (0 : Int))))) (bdF g13)) ?_
     refine R_load_pp (v := (iV ((nth (x.kd) (k))))) rfl (by first | rfl | simp [ldV]) ?_
     refine G_yes (Eq.trans (@rfl V (V.bool (decide (((nth (x.kd) (k))) < (0 : Int))))) (bdF g13)) ?_
     refine R_mv t1 ?_
     refine G_yes (Eq.trans (@rfl V (V.bool (decide (((nth (x.kd) (k))) < (0 : Int))))) (bdF g13)) ?_
     refine R_geq (x := ((nth (x.kd) (k)))) (y := ((n : Nat) : Int)) (@rfl V (iV ((nth (x.kd) (k))))) (@rfl V (iV ((n : Nat) : Int))) ?_
     refine R_pickF (Eq.trans (@rfl V (V.bool (decide (((nth (x.kd) (k))) < (0 : Int))))) (bdF g13)) (@rfl V (V.bool (decide (((n : Nat) : Int) ≤ ((nth (x.kd) (k))))))) ?_
     exact ⟨t1, t2, t33, t34, t35, (Eq.trans (@rfl V (V.bool (decide (((n : Nat) : Int) ≤ ((nth (x.kd) (k))))))) (dec_orF g13)), h2, trivial⟩
   intro T H ⟨t1, t2, t33, t34, t35, t74, h2, _⟩
   exact R_nil ⟨t1, t2, t33, t34, t35, t74, h2, trivial⟩
  intro T H ⟨t1, t2, t33, t34, t35, t74, h2, _⟩
  refine W_if (p := (((nth (x.kd) (k))) < (0 : Int)) ∨ (((n : Nat) : Int) ≤ ((nth (x.kd) (k))))) t74 (fun c14 => ?_) (fun c14 => ?_)
  ·
   refine W_seq_regc (fun T H => T 4 = (iV (2 : Int)) ∧ H 2 = (bk 1 68 5 [(cN x)]) ∧ True) ?_ ?_
   ·
    unfold r35_19
    refine R_mv (@rfl V (iV (2 : Int))) ?_
    exact R_nil ⟨rfl, h2, trivial⟩
   intro T H ⟨t4, h2, _⟩
   refine W_ret ?_
   refine y9 _ _ ?_
   refine p27 _ _ ?_
   refine y6 _ _ ?_
   refine Ret_1 t4 (fz_int ?_)
   · rw [inE2, if_neg (by omega), if_neg (by omega), if_neg (by omega), if_neg (by omega), hc, fe_hit (by rw [chE, if_neg (by omega), if_neg d2, if_pos (by omega)]; omega) (by omega), chE, if_neg (by omega), if_neg d2, if_pos (by omega)]
  refine W_skip ?_
  refine n9 _ _ ?_
  refine .done ?_
  refine W_regc (fun T H => T 1 = (iV ((n : Nat) : Int)) ∧ T 2 = (V.mp 2 1 0 0) ∧ T 33 = (intss x.ou) ∧ T 34 = (iV ((x.ou.length : Nat) : Int)) ∧ T 35 = (iV ((k + 1 : Nat) : Int)) ∧ H 2 = (bk 1 68 5 [(cN x)]) ∧ True) ?_ ?_
  ·
   unfold r35_20
   refine R_addN (m := k) (n := 1) t35 (@rfl V (iV ((1 : Nat) : Int))) (by omega) ?_
   refine R_mv (@rfl V (iV ((k + 1 : Nat) : Int))) ?_
   exact R_nil ⟨t1, t2, t33, t34, rfl, h2, trivial⟩
  intro T H ⟨t1, t2, t33, t34, t35, h2, _⟩
  refine p17 _ _ _ ?_ ⟨(k + 1), rfl, t1, t2, t33, t34, (Eq.trans t35 (by first | rfl | simp)), h2, ?_, ?_, ?_, ?_, ?_, ?_⟩
  · omega
  · omega
  · omega
  · omega
  · omega
  · omega
  · rw [hc, fe_skip (by rw [chE, if_neg (by omega), if_neg d2, if_neg (by omega)]) (by omega)]
 refine W_seq_exit ?_
 refine p37 _ _ _ ?_
 refine x6 _ _ ?_
 refine .done ?_
 refine W_seq_regc (fun T H => T 4 = (iV (0 : Int)) ∧ H 2 = (bk 1 68 5 [(cN x)]) ∧ True) ?_ ?_
 ·
  unfold r35_21
  refine R_mv (@rfl V (iV (0 : Int))) ?_
  exact R_nil ⟨rfl, h2, trivial⟩
 intro T H ⟨t4, h2, _⟩
 refine W_ret ?_
 refine Ret_1 t4 (fz_int ?_)
 · rw [inE2, if_neg (by omega), if_neg (by omega), if_neg (by omega), if_neg (by omega), hc, fe_end (by omega)]
end Go.Proofs.YtmnjchcoigbngaaGreat


namespace Go.Proofs.YtmnjchcoigbngaaGreat
open Go Go.Proofs
attribute [local irreducible] mksV
theorem connected_pure (t : Dt) (hk : KI t) (hb : Bd t) : PureC Tryz.prog 36 [(V.agg [(V.sl (List.map cN (t.nd)))])] (V.bool (coB t)) := by
 refine pure_of_Wb true 6 Tryz.func36 s36_ok (by kernel_rfl) (by simp [s36]) (by simp) (by simp) fun hB => ?_
 simp only [bnd_map, bnd_int, bnd_bool, bnd_str, bnd_agg, bnd_pp, bnd_nil, bnd_cons, implies_true, and_true, true_and] at hB
 unfold s36
 dsimp only
 have hp := hk.pos
 have hbn := hb.n
 refine W_seq_regc (fun T H => T 1 = (V.mp 1 1 0 0) ∧ H 1 = (bk 1 24 1 [[(V.sl (List.map cN (t.nd)))]]) ∧ H 10 = (⟨0, false, false, 0, 0, []⟩ : Blk) ∧ H 11 = (⟨0, false, false, 0, 0, []⟩ : Blk) ∧ True) ?_ ?_
 ·
  unfold r36_0
  refine R_box (i := 1) (n := 0) (m := 1) (cs := [(V.sl (List.map cN (t.nd)))]) rfl (congrArg Blk.ver rfl) (@rfl V (V.agg [(V.sl (List.map cN (t.nd)))])) rfl rfl ?_
  refine R_mv (@rfl V (V.bool false)) ?_
  exact R_nil ⟨rfl, rfl, rfl, rfl, trivial⟩
 intro T H ⟨t1, h1, h10, h11, _⟩
 refine W_seq_regc (fun T H => T 1 = (V.mp 1 1 0 0) ∧ T 3 = (V.ms 10 1 0 (t.nd.length)) ∧ H 1 = (bk 1 24 1 [[(V.sl (List.map cN (t.nd)))]]) ∧ H 10 = (bk 1 4 1 (List.map cB (List.replicate t.nd.length false))) ∧ H 11 = (⟨0, false, false, 0, 0, []⟩ : Blk) ∧ True) ?_ ?_
 ·
  unfold r36_1
  refine R_fld_mp (o' := 0) t1 h1 (by first | rfl | simp [okB, Blk.own]) rfl ?_
  refine R_load_mp (v := (V.sl (List.map cN (t.nd)))) (@rfl V (V.mp 1 1 0 0)) h1 (by first | rfl | simp [ldB, ldV, Blk.own, V.one]) ?_
  refine R_len (@rfl V (V.sl (List.map cN (t.nd)))) ?_
  refine R_mksm (i := 10) (n := 0) (m := t.nd.length) (q := t.nd.length) (f := cB) (x := false) rfl (congrArg Blk.ver h10) (@rfl V (iV ((t.nd.length : Nat) : Int))) (@rfl V (iV ((t.nd.length : Nat) : Int))) rfl (by first | omega | (simp only [List.length_replicate]; omega)) (by first | omega | (simp only [List.length_replicate]; omega)) (by first | omega | (simp only [List.length_replicate]; omega)) ?_
  refine R_mv (@rfl V (V.ms 10 1 0 (t.nd.length))) ?_
  exact R_nil ⟨t1, rfl, h1, rfl, h11, trivial⟩
 intro T H ⟨t1, t3, h1, h10, h11, _⟩
 refine W_seq_regc (fun T H => T 1 = (V.mp 1 1 0 0) ∧ T 3 = (V.ms 10 1 0 (t.nd.length)) ∧ T 4 = (V.ms 11 1 0 (1)) ∧ H 1 = (bk 1 24 1 [[(V.sl (List.map cN (t.nd)))]]) ∧ H 10 = (bk 1 4 1 (List.map cB (List.replicate t.nd.length false))) ∧ H 11 = (bk 1 3 1 [[(iV (0 : Int))]]) ∧ True) ?_ ?_
 ·
  unfold r36_2
  refine R_bslice_own (i := 11) (n := 0) (qs := [(0, (iV (0 : Int)))]) (rows := [[(iV (0 : Int))]]) rfl (congrArg Blk.ver h11) (mcons (congrArg (fun v => (0, v)) (@rfl V (iV (0 : Int)))) rfl) rfl ?_
  refine R_mv (@rfl V (V.ms 11 1 0 (1))) ?_
  exact R_nil ⟨t1, t3, rfl, h1, h10, rfl, trivial⟩
 intro T H ⟨t1, t3, t4, h1, h10, h11, _⟩
 refine W_seq_seq ?_
 refine W_seq_regc (fun T H => T 1 = (V.mp 1 1 0 0) ∧ T 3 = (V.ms 10 1 0 (t.nd.length)) ∧ T 4 = (V.ms 11 1 0 (1)) ∧ T 5 = (iV (0 : Int)) ∧ H 1 = (bk 1 24 1 [[(V.sl (List.map cN (t.nd)))]]) ∧ H 10 = (bk 1 4 1 (List.map cB (List.replicate t.nd.length false))) ∧ H 11 = (bk 1 3 1 [[(iV (0 : Int))]]) ∧ True) ?_ ?_
 ·
  unfold r36_3
  refine R_mv (@rfl V (iV (0 : Int))) ?_
  exact R_nil ⟨t1, t3, t4, rfl, h1, h10, h11, trivial⟩
 intro T H ⟨t1, t3, t4, t5, h1, h10, h11, _⟩
 refine W_seq_blockg fun Q1 n1 x1 y1 z1 => ?_
 refine W_loop (fun mm T H => ∃ (k : Nat) (w : Nat) (P : RS), mm = t.nd.length + 1 - k ∧ T 1 = (V.mp 1 1 0 0) ∧ T 3 = (V.ms 10 1 0 (t.nd.length)) ∧ T 4 = (V.ms 11 w 0 (P.1.length)) ∧ T 5 = (iV ((k : Nat) : Int)) ∧ H 1 = (bk 1 24 1 [[(V.sl (List.map cN (t.nd)))]]) ∧ H 10 = (bk 1 4 1 (List.map cB (P.2))) ∧ H 11 = (bk w 3 1 (List.map cI (P.1))) ∧ (k ≤ P.1.length) ∧ (CI t P) ∧ (coN t (t.nd.length + 1) 0 (co0 t) = coN t (t.nd.length + 1 - k) k P)) ?_ ?_
 ·
  refine ⟨_, 0, 1, (co0 t), rfl, t1, t3, (Eq.trans t4 (by first | rfl | (rw [show (cS t P k).1.length = (qS t P.1 k).length from rfl, r3]; done) | simp)), (Eq.trans t5 (by first | rfl | (rw [show (cS t P k).1.length = (qS t P.1 k).length from rfl, r3]; done) | simp)), h1, (Eq.trans h10 (by first | rfl)), (Eq.trans h11 (by first | rfl)), ?_, ?_, ?_⟩
  · exact Nat.zero_le _
  · exact ci0 hk
  · rfl
 intro mm T H ⟨k, w, P, hmm, t1, t3, t4, t5, h1, h10, h11, hk2, hi, hc⟩ Q2 p12 p22 p32
 unfold b36_0
 have hi1 := hi.l1
 have hi2 := hi.l2
 refine W_seq_seq ?_
 refine W_seq_regc (fun T H => T 1 = (V.mp 1 1 0 0) ∧ T 3 = (V.ms 10 1 0 (t.nd.length)) ∧ T 4 = (V.ms 11 w 0 (P.1.length)) ∧ T 5 = (iV ((k : Nat) : Int)) ∧ T 15 = (V.bool (decide (((k : Nat) : Int) < ((P.1.length : Nat) : Int)))) ∧ H 1 = (bk 1 24 1 [[(V.sl (List.map cN (t.nd)))]]) ∧ H 10 = (bk 1 4 1 (List.map cB (P.2))) ∧ H 11 = (bk w 3 1 (List.map cI (P.1))) ∧ True) ?_ ?_
 ·
  unfold r36_4
  refine R_mv t5 ?_
  refine R_mv t4 ?_
  refine R_len_ms (@rfl V (V.ms 11 w 0 (P.1.length))) h11 (by first | rfl | simp) ?_
  refine R_lss (x := ((k : Nat) : Int)) (y := ((P.1.length : Nat) : Int)) (@rfl V (iV ((k : Nat) : Int))) (@rfl V (iV ((P.1.length : Nat) : Int))) ?_
  exact R_nil ⟨t1, t3, t4, t5, rfl, h1, h10, h11, trivial⟩
 intro T H ⟨t1, t3, t4, t5, t15, h1, h10, h11, _⟩
 refine W_seq_if (p := ((k : Nat) : Int) < ((P.1.length : Nat) : Int)) t15 (fun c3 => ?_) (fun c3 => ?_)
 ·
  have r1 := hi.rg _ (nth_mem (show k < P.1.length by omega))
  have r2 := hb.kd _ (show (nth P.1 k).toNat < t.nd.length by omega)
  have r3 : (qS t P.1 k).length = P.1.length + (nth t.nd (nth P.1 k).toNat).kd.length := by unfold qS; rw [List.length_append]
  refine W_seq_skip ?_
  refine W_seq_blockg fun Q4 n4 x4 y4 z4 => ?_
  refine W_seq_regc (fun T H => T 1 = (V.mp 1 1 0 0) ∧ T 3 = (V.ms 10 1 0 (t.nd.length)) ∧ T 4 = (V.ms 11 w 0 (P.1.length)) ∧ T 5 = (iV ((k : Nat) : Int)) ∧ T 6 = (iV ((nth (P.1) (k)))) ∧ H 1 = (bk 1 24 1 [[(V.sl (List.map cN (t.nd)))]]) ∧ H 10 = (bk 1 4 1 (List.map cB (P.2))) ∧ H 11 = (bk w 3 1 (List.map cI (P.1))) ∧ True) ?_ ?_
  ·
   unfold r36_6
   refine R_mv t4 ?_
   refine R_mv t5 ?_
   refine R_idx_ms0 (i := k) (@rfl V (V.ms 11 w 0 (P.1.length))) (@rfl V (iV ((k : Nat) : Int))) h11 (okB_map (by first | omega | (simp only [List.length_replicate]; omega))) rfl (by first | omega | (simp only [List.length_replicate]; omega)) ?_
   refine R_load_mp (v := (iV ((nth (P.1) (k))))) (@rfl V (V.mp 11 w k 0)) h11 (ldB_map (by first | omega | (simp only [List.length_replicate]; omega)) (by first | rfl | simp [ldV, V.one])) ?_
   refine R_mv (@rfl V (iV ((nth (P.1) (k))))) ?_
   exact R_nil ⟨t1, t3, t4, t5, rfl, h1, h10, h11, trivial⟩
  intro T H ⟨t1, t3, t4, t5, t6, h1, h10, h11, _⟩
  refine W_seq_seq ?_
  refine W_seq_regc (fun T H => T 1 = (V.mp 1 1 0 0) ∧ T 3 = (V.ms 10 1 0 (t.nd.length)) ∧ T 4 = (V.ms 11 w 0 (P.1.length)) ∧ T 5 = (iV ((k : Nat) : Int)) ∧ T 6 = (iV ((nth (P.1) (k)))) ∧ T 25 = (V.bool ((nth (P.2) ((((nth (P.1) (k)))).toNat)))) ∧ H 1 = (bk 1 24 1 [[(V.sl (List.map cN (t.nd)))]]) ∧ H 10 = (bk 1 4 1 (List.map cB (P.2))) ∧ H 11 = (bk w 3 1 (List.map cI (P.1))) ∧ True) ?_ ?_
  ·
   unfold r36_7
   refine R_mv t3 ?_
   refine R_mv t6 ?_
   refine R_idxI_ms0 (i := ((nth (P.1) (k)))) (@rfl V (V.ms 10 1 0 (t.nd.length))) (@rfl V (iV ((nth (P.1) (k))))) h10 (okB_map (by first | omega | (simp only [List.length_replicate]; omega))) rfl (by first | omega | (simp only [List.length_replicate]; omega)) (by first | omega | (simp only [List.length_replicate]; omega)) ?_
   refine R_load_mp (v := (V.bool ((nth (P.2) ((((nth (P.1) (k)))).toNat))))) (@rfl V (V.mp 10 1 ((((nth (P.1) (k)))).toNat) 0)) h10 (ldB_map (by first | omega | (simp only [List.length_replicate]; omega)) (by first | rfl | simp [ldV, V.one])) ?_
   exact R_nil ⟨t1, t3, t4, t5, t6, rfl, h1, h10, h11, trivial⟩
  intro T H ⟨t1, t3, t4, t5, t6, t25, h1, h10, h11, _⟩
  refine W_seq_ifb t25 (fun c5 => ?_) (fun c5 => ?_)
  ·
   have d2 : nth P.2 (nth P.1 k).toNat = true := c5
   refine W_seq_seq ?_
   refine W_seq_regc (fun T H => T 2 = (V.bool false) ∧ H 1 = (bk 1 24 1 [[(V.sl (List.map cN (t.nd)))]]) ∧ H 10 = (bk 1 4 1 (List.map cB (P.2))) ∧ H 11 = (bk w 3 1 (List.map cI (P.1))) ∧ True) ?_ ?_
   ·
    unfold r36_8
    refine R_mv (@rfl V (V.bool false)) ?_
    exact R_nil ⟨rfl, h1, h10, h11, trivial⟩
   intro T H ⟨t2, h1, h10, h11, _⟩
   refine W_seq_ret ?_
   refine y4 _ _ ?_
   refine p22 _ _ ?_
   refine y1 _ _ ?_
   refine Ret_1 t2 (fz_bool ?_)
   · rw [coB_none (by rw [hc]; exact co_yes (by omega) (by omega) d2)]
  have d2 : nth P.2 (nth P.1 k).toNat = false := by simpa using c5
  refine W_seq_skip ?_
  refine W_seq_regc (fun T H => T 1 = (V.mp 1 1 0 0) ∧ T 3 = (V.ms 10 1 0 (t.nd.length)) ∧ T 4 = (V.ms 11 w 0 (P.1.length)) ∧ T 5 = (iV ((k : Nat) : Int)) ∧ T 6 = (iV ((nth (P.1) (k)))) ∧ H 1 = (bk 1 24 1 [[(V.sl (List.map cN (t.nd)))]]) ∧ H 10 = (bk 1 4 1 (List.map cB ((P.2).set ((((nth (P.1) (k)))).toNat) true))) ∧ H 11 = (bk w 3 1 (List.map cI (P.1))) ∧ True) ?_ ?_
  ·
   unfold r36_9
   refine R_mv t3 ?_
   refine R_mv t6 ?_
   refine R_idxI_ms0 (i := ((nth (P.1) (k)))) (@rfl V (V.ms 10 1 0 (t.nd.length))) (@rfl V (iV ((nth (P.1) (k))))) h10 (okB_map (by first | omega | (simp only [List.length_replicate]; omega))) rfl (by first | omega | (simp only [List.length_replicate]; omega)) (by first | omega | (simp only [List.length_replicate]; omega)) ?_
   refine R_store (vs := [(V.bool true)]) (B' := (bk 1 4 1 (List.map cB ((P.2).set ((((nth (P.1) (k)))).toNat) true)))) (@rfl V (V.mp 10 1 ((((nth (P.1) (k)))).toNat) 0)) (@rfl V (V.bool true)) rfl h10 (stB_map (x := true) (i := ((((nth (P.1) (k)))).toNat)) (by first | omega | (simp only [List.length_replicate]; omega)) rfl rfl rfl rfl) ?_
   exact R_nil ⟨t1, t3, t4, t5, t6, h1, rfl, h11, trivial⟩
  intro T H ⟨t1, t3, t4, t5, t6, h1, h10, h11, _⟩
  refine W_seq_regc (fun T H => T 1 = (V.mp 1 1 0 0) ∧ T 3 = (V.ms 10 1 0 (t.nd.length)) ∧ T 4 = (V.ms 11 (w + 1) 0 (P.1.length + (((nth (t.nd) ((nth (P.1) (k))).toNat)).kd).length)) ∧ T 5 = (iV ((k : Nat) : Int)) ∧ H 1 = (bk 1 24 1 [[(V.sl (List.map cN (t.nd)))]]) ∧ H 10 = (bk 1 4 1 (List.map cB ((P.2).set ((((nth (P.1) (k)))).toNat) true))) ∧ H 11 = (bk (w + 1) 3 1 (List.map cI (P.1 ++ (((nth (t.nd) ((nth (P.1) (k))).toNat)).kd)))) ∧ True) ?_ ?_
  ·
   unfold r36_10
   refine R_mv t4 ?_
   refine R_fld_mp (o' := 0) t1 h1 (by first | rfl | simp [okB, Blk.own]) rfl ?_
   refine R_load_mp (v := (V.sl (List.map cN (t.nd)))) (@rfl V (V.mp 1 1 0 0)) h1 (by first | rfl | simp [ldB, ldV, Blk.own, V.one]) ?_
   refine R_mv t6 ?_
   refine R_idxI (i := ((nth (P.1) (k)))) (@rfl V (V.sl (List.map cN (t.nd)))) (@rfl V (iV ((nth (P.1) (k))))) (by first | omega | (simp only [List.length_replicate]; omega)) (by first | omega | (simp only [List.length_replicate]; omega)) rfl ?_
   refine R_fld_pp (cs' := [(ints (((nth (t.nd) ((nth (P.1) (k))).toNat)).kd))]) rfl rfl ?_
   refine R_load_pp (v := (ints (((nth (t.nd) ((nth (P.1) (k))).toNat)).kd))) rfl (by first | rfl | simp [ldV]) ?_
   refine R_appendS (l := P.1) (m := (((nth (t.nd) ((nth (P.1) (k))).toNat)).kd)) (f := cI) (@rfl V (V.ms 11 w 0 (P.1.length))) h11 (by first | rfl | simp | omega) (@rfl V (ints (((nth (t.nd) ((nth (P.1) (k))).toNat)).kd))) (fun _ => rfl) (fun _ => rfl) (by first | omega | (simp only [List.length_replicate]; omega)) (by first | omega | (simp only [List.length_replicate]; omega)) ?_
   refine R_mv (@rfl V (V.ms 11 (w + 1) 0 (P.1.length + (((nth (t.nd) ((nth (P.1) (k))).toNat)).kd).length))) ?_
   exact R_nil ⟨t1, t3, rfl, t5, h1, h10, rfl, trivial⟩
  intro T H ⟨t1, t3, t4, t5, h1, h10, h11, _⟩
  refine W_seq_regc (fun T H => T 1 = (V.mp 1 1 0 0) ∧ T 3 = (V.ms 10 1 0 (t.nd.length)) ∧ T 4 = (V.ms 11 (w + 1) 0 (P.1.length + (((nth (t.nd) ((nth (P.1) (k))).toNat)).kd).length)) ∧ T 5 = (iV ((k : Nat) : Int)) ∧ T 42 = (V.bool (decide (((t.nd.length : Nat) : Int) < ((P.1.length + (((nth (t.nd) ((nth (P.1) (k))).toNat)).kd).length : Nat) : Int)))) ∧ H 1 = (bk 1 24 1 [[(V.sl (List.map cN (t.nd)))]]) ∧ H 10 = (bk 1 4 1 (List.map cB ((P.2).set ((((nth (P.1) (k)))).toNat) true))) ∧ H 11 = (bk (w + 1) 3 1 (List.map cI (P.1 ++ (((nth (t.nd) ((nth (P.1) (k))).toNat)).kd)))) ∧ True) ?_ ?_
  ·
   unfold r36_11
   refine R_mv t4 ?_
   refine R_len_ms (@rfl V (V.ms 11 (w + 1) 0 (P.1.length + (((nth (t.nd) ((nth (P.1) (k))).toNat)).kd).length))) h11 (by first | rfl | simp) ?_
   refine R_fld_mp (o' := 0) t1 h1 (by first | rfl | simp [okB, Blk.own]) rfl ?_
   refine R_load_mp (v := (V.sl (List.map cN (t.nd)))) (@rfl V (V.mp 1 1 0 0)) h1 (by first | rfl | simp [ldB, ldV, Blk.own, V.one]) ?_
   refine R_len (@rfl V (V.sl (List.map cN (t.nd)))) ?_
   refine R_gtr (x := ((P.1.length + (((nth (t.nd) ((nth (P.1) (k))).toNat)).kd).length : Nat) : Int)) (y := ((t.nd.length : Nat) : Int)) (@rfl V (iV ((P.1.length + (((nth (t.nd) ((nth (P.1) (k))).toNat)).kd).length : Nat) : Int))) (@rfl V (iV ((t.nd.length : Nat) : Int))) ?_
   exact R_nil ⟨t1, t3, t4, t5, rfl, h1, h10, h11, trivial⟩
  intro T H ⟨t1, t3, t4, t5, t42, h1, h10, h11, _⟩
  refine W_if (p := ((t.nd.length : Nat) : Int) < ((P.1.length + (((nth (t.nd) ((nth (P.1) (k))).toNat)).kd).length : Nat) : Int)) t42 (fun c6 => ?_) (fun c6 => ?_)
  ·
   have d3 := c6
   refine W_seq_regc (fun T H => T 2 = (V.bool false) ∧ H 1 = (bk 1 24 1 [[(V.sl (List.map cN (t.nd)))]]) ∧ H 10 = (bk 1 4 1 (List.map cB ((P.2).set ((((nth (P.1) (k)))).toNat) true))) ∧ H 11 = (bk (w + 1) 3 1 (List.map cI (P.1 ++ (((nth (t.nd) ((nth (P.1) (k))).toNat)).kd)))) ∧ True) ?_ ?_
   ·
    unfold r36_12
    refine R_mv (@rfl V (V.bool false)) ?_
    exact R_nil ⟨rfl, h1, h10, h11, trivial⟩
   intro T H ⟨t2, h1, h10, h11, _⟩
   refine W_ret ?_
   refine y4 _ _ ?_
   refine p22 _ _ ?_
   refine y1 _ _ ?_
   refine Ret_1 t2 (fz_bool ?_)
   · rw [coB_none (by rw [hc]; exact co_big (by omega) (by omega) d2 (by omega))]
  have d3 := c6
  refine W_skip ?_
  refine n4 _ _ ?_
  refine .done ?_
  refine W_regc (fun T H => T 1 = (V.mp 1 1 0 0) ∧ T 3 = (V.ms 10 1 0 (t.nd.length)) ∧ T 4 = (V.ms 11 (w + 1) 0 (P.1.length + (((nth (t.nd) ((nth (P.1) (k))).toNat)).kd).length)) ∧ T 5 = (iV ((k + 1 : Nat) : Int)) ∧ H 1 = (bk 1 24 1 [[(V.sl (List.map cN (t.nd)))]]) ∧ H 10 = (bk 1 4 1 (List.map cB ((P.2).set ((((nth (P.1) (k)))).toNat) true))) ∧ H 11 = (bk (w + 1) 3 1 (List.map cI (P.1 ++ (((nth (t.nd) ((nth (P.1) (k))).toNat)).kd)))) ∧ True) ?_ ?_
  ·
   unfold r36_5
   refine R_mv t5 ?_
   refine R_addN (m := k) (n := 1) (@rfl V (iV ((k : Nat) : Int))) (@rfl V (iV ((1 : Nat) : Int))) (by first | omega | (simp only [List.length_replicate]; omega)) ?_
   refine R_mv (@rfl V (iV ((k + 1 : Nat) : Int))) ?_
   exact R_nil ⟨t1, t3, t4, rfl, h1, h10, h11, trivial⟩
  intro T H ⟨t1, t3, t4, t5, h1, h10, h11, _⟩
  refine p12 _ _ _ ?_ ⟨(k + 1), (w + 1), (cS t P k), rfl, t1, t3, (Eq.trans t4 (by first | rfl | (rw [show (cS t P k).1.length = (qS t P.1 k).length from rfl, r3]; done) | simp)), (Eq.trans t5 (by first | rfl | (rw [show (cS t P k).1.length = (qS t P.1 k).length from rfl, r3]; done) | simp)), h1, (Eq.trans h10 (by first | rfl)), (Eq.trans h11 (by first | rfl)), ?_, ?_, ?_⟩
  · omega
  · show k + 1 ≤ (P.1 ++ _).length; rw [List.length_append]; omega
  · exact hi.step hk (by omega) (by omega)
  · rw [hc, co_go (by omega) (by omega) d2 (by omega)]
 refine W_seq_exit ?_
 refine p32 _ _ _ ?_
 refine x1 _ _ ?_
 refine .done ?_
 refine W_seq_regc (fun T H => T 2 = (V.bool (decide (((P.1.length : Nat) : Int) = ((t.nd.length : Nat) : Int)))) ∧ H 1 = (bk 1 24 1 [[(V.sl (List.map cN (t.nd)))]]) ∧ H 10 = (bk 1 4 1 (List.map cB (P.2))) ∧ H 11 = (bk w 3 1 (List.map cI (P.1))) ∧ True) ?_ ?_
 ·
  unfold r36_13
  refine R_mv t4 ?_
  refine R_len_ms (@rfl V (V.ms 11 w 0 (P.1.length))) h11 (by first | rfl | simp) ?_
  refine R_fld_mp (o' := 0) t1 h1 (by first | rfl | simp [okB, Blk.own]) rfl ?_
  refine R_load_mp (v := (V.sl (List.map cN (t.nd)))) (@rfl V (V.mp 1 1 0 0)) h1 (by first | rfl | simp [ldB, ldV, Blk.own, V.one]) ?_
  refine R_len (@rfl V (V.sl (List.map cN (t.nd)))) ?_
  refine R_eql (x := ((P.1.length : Nat) : Int)) (y := ((t.nd.length : Nat) : Int)) (@rfl V (iV ((P.1.length : Nat) : Int))) (@rfl V (iV ((t.nd.length : Nat) : Int))) ?_
  refine R_mv (@rfl V (V.bool (decide (((P.1.length : Nat) : Int) = ((t.nd.length : Nat) : Int))))) ?_
  exact R_nil ⟨rfl, h1, h10, h11, trivial⟩
 intro T H ⟨t2, h1, h10, h11, _⟩
 refine W_ret ?_
 refine Ret_1 t2 (fz_bool ?_)
 · rw [coB_some (by rw [hc]; exact co_end (by omega) (by omega))]; exact decide_eq_decide.2 (by omega)
end Go.Proofs.YtmnjchcoigbngaaGreat


namespace Go.Proofs.YtmnjchcoigbngaaGreat
open Go Go.Proofs
theorem concat_pure (l : List (List Int)) (hs : (cat l).length ≤ 4294967296) : PureC Tryz.prog 83 [(intss l)] (ints (cat l)) := by
 refine pure_of_Wb true 6 Tryz.func83 s83_ok (by kernel_rfl) (by simp [s83]) (by simp) (by simp) fun hB => ?_
 simp only [bnd_map, bnd_int, bnd_bool, bnd_str, bnd_agg, bnd_pp, bnd_nil, bnd_cons, implies_true, and_true, true_and] at hB
 unfold s83
 dsimp only
 refine W_seq_regc (fun T H => T 0 = (intss l) ∧ H 900 = (⟨0, false, false, 0, 0, []⟩ : Blk) ∧ True) ?_ ?_
 ·
  unfold r83_0
  refine R_mv (@rfl V V.nilsl) ?_
  exact R_nil ⟨rfl, rfl, trivial⟩
 intro T H ⟨t0, h900, _⟩
 refine W_seq_regc (fun T H => T 0 = (intss l) ∧ T 3 = (iV (0 : Int)) ∧ H 900 = (⟨0, false, false, 0, 0, []⟩ : Blk) ∧ True) ?_ ?_
 ·
  unfold r83_1
  refine R_mv (@rfl V (iV (0 : Int))) ?_
  exact R_nil ⟨t0, rfl, h900, trivial⟩
 intro T H ⟨t0, t3, h900, _⟩
 refine W_seq_seq ?_
 refine W_seq_regc (fun T H => T 0 = (intss l) ∧ T 3 = (iV (0 : Int)) ∧ T 9 = (intss l) ∧ T 10 = (iV ((l.length : Nat) : Int)) ∧ T 11 = (iV (0 : Int)) ∧ H 900 = (⟨0, false, false, 0, 0, []⟩ : Blk) ∧ True) ?_ ?_
 ·
  unfold r83_2
  refine R_mv t0 ?_
  refine R_len (@rfl V (intss l)) ?_
  refine R_mv (@rfl V (iV (0 : Int))) ?_
  exact R_nil ⟨t0, t3, rfl, rfl, rfl, h900, trivial⟩
 intro T H ⟨t0, t3, t9, t10, t11, h900, _⟩
 refine W_seq_blockg fun Q1 n1 x1 y1 z1 => ?_
 refine W_loop (fun mm T H => ∃ (k : Nat), mm = l.length - k ∧ T 0 = (intss l) ∧ T 3 = (iV (((cat (l.take k)).length : Nat) : Int)) ∧ T 9 = (intss l) ∧ T 10 = (iV ((l.length : Nat) : Int)) ∧ T 11 = (iV ((k : Nat) : Int)) ∧ H 900 = (⟨0, false, false, 0, 0, []⟩ : Blk) ∧ (k ≤ l.length)) ?_ ?_
 ·
  refine ⟨_, 0, rfl, t0, (Eq.trans t3 (by first | rfl | (rw [cat_take (by omega), List.length_append]; done) | (rw [cat_take (by omega), List.length_append]; rfl) | simp)), t9, t10, (Eq.trans t11 (by first | rfl | (rw [cat_take (by omega), List.length_append]; done) | (rw [cat_take (by omega), List.length_append]; rfl) | simp)), h900, ?_⟩
  · omega
 intro mm T H ⟨k, hmm, t0, t3, t9, t10, t11, h900, hk⟩ Q2 p12 p22 p32
 unfold b83_0
 refine W_seq_regc (fun T H => T 0 = (intss l) ∧ T 3 = (iV (((cat (l.take k)).length : Nat) : Int)) ∧ T 9 = (intss l) ∧ T 10 = (iV ((l.length : Nat) : Int)) ∧ T 11 = (iV ((k : Nat) : Int)) ∧ T 12 = (V.bool (decide (((k : Nat) : Int) < ((l.length : Nat) : Int)))) ∧ H 900 = (⟨0, false, false, 0, 0, []⟩ : Blk) ∧ True) ?_ ?_
 ·
  unfold r83_3
  refine R_lss (x := ((k : Nat) : Int)) (y := ((l.length : Nat) : Int)) t11 t10 ?_
  exact R_nil ⟨t0, t3, t9, t10, t11, rfl, h900, trivial⟩
 intro T H ⟨t0, t3, t9, t10, t11, t12, h900, _⟩
 refine W_seq_if (p := ((k : Nat) : Int) < ((l.length : Nat) : Int)) t12 (fun c3 => ?_) (fun c3 => ?_)
 ·
  have hq := cat_take_le (l := l) (k := k) (by omega)
  refine W_seq_skip ?_
  refine W_seq_blockg fun Q4 n4 x4 y4 z4 => ?_
  refine W_seq_regc (fun T H => T 0 = (intss l) ∧ T 3 = (iV (((cat (l.take k)).length : Nat) : Int)) ∧ T 5 = (ints ((nth (l) (k)))) ∧ T 9 = (intss l) ∧ T 10 = (iV ((l.length : Nat) : Int)) ∧ T 11 = (iV ((k : Nat) : Int)) ∧ H 900 = (⟨0, false, false, 0, 0, []⟩ : Blk) ∧ True) ?_ ?_
  ·
   unfold r83_4
   refine R_idx (i := k) t9 t11 (by omega) rfl ?_
   refine R_load_pp (v := (ints ((nth (l) (k))))) rfl (by first | rfl | simp [ldV]) ?_
   refine R_mv (@rfl V (ints ((nth (l) (k))))) ?_
   exact R_nil ⟨t0, t3, rfl, t9, t10, t11, h900, trivial⟩
  intro T H ⟨t0, t3, t5, t9, t10, t11, h900, _⟩
  refine W_seq_regc (fun T H => T 0 = (intss l) ∧ T 3 = (iV ((((cat (l.take k)).length) + ((nth (l) (k))).length : Nat) : Int)) ∧ T 9 = (intss l) ∧ T 10 = (iV ((l.length : Nat) : Int)) ∧ T 11 = (iV ((k : Nat) : Int)) ∧ H 900 = (⟨0, false, false, 0, 0, []⟩ : Blk) ∧ True) ?_ ?_
  ·
   unfold r83_5
   refine R_mv t3 ?_
   refine R_mv t5 ?_
   refine R_len (@rfl V (ints ((nth (l) (k))))) ?_
   refine R_addN (m := ((cat (l.take k)).length)) (n := (((nth (l) (k))).length)) (@rfl V (iV (((cat (l.take k)).length : Nat) : Int))) (@rfl V (iV ((((nth (l) (k))).length : Nat) : Int))) (by omega) ?_
   refine R_mv (@rfl V (iV ((((cat (l.take k)).length) + ((nth (l) (k))).length : Nat) : Int))) ?_
   exact R_nil ⟨t0, rfl, t9, t10, t11, h900, trivial⟩
  intro T H ⟨t0, t3, t9, t10, t11, h900, _⟩
  refine W_seq_regc (fun T H => T 0 = (intss l) ∧ T 3 = (iV ((((cat (l.take k)).length) + ((nth (l) (k))).length : Nat) : Int)) ∧ T 9 = (intss l) ∧ T 10 = (iV ((l.length : Nat) : Int)) ∧ T 11 = (iV ((k : Nat) : Int)) ∧ T 20 = (V.bool (decide (((((cat (l.take k)).length) + ((nth (l) (k))).length : Nat) : Int) < (0 : Int)))) ∧ H 900 = (⟨0, false, false, 0, 0, []⟩ : Blk) ∧ True) ?_ ?_
  ·
   unfold r83_6
   refine R_mv t3 ?_
   refine R_lss (x := ((((cat (l.take k)).length) + ((nth (l) (k))).length : Nat) : Int)) (y := (0 : Int)) (@rfl V (iV ((((cat (l.take k)).length) + ((nth (l) (k))).length : Nat) : Int))) (@rfl V (iV (0 : Int))) ?_
   exact R_nil ⟨t0, t3, t9, t10, t11, rfl, h900, trivial⟩
  intro T H ⟨t0, t3, t9, t10, t11, t20, h900, _⟩
  refine W_if (p := ((((cat (l.take k)).length) + ((nth (l) (k))).length : Nat) : Int) < (0 : Int)) t20 (fun c5 => ?_) (fun c5 => ?_)
  · exfalso; omega
  refine W_skip ?_
  refine n4 _ _ ?_
  refine .done ?_
  refine W_regc (fun T H => T 0 = (intss l) ∧ T 3 = (iV ((((cat (l.take k)).length) + ((nth (l) (k))).length : Nat) : Int)) ∧ T 9 = (intss l) ∧ T 10 = (iV ((l.length : Nat) : Int)) ∧ T 11 = (iV ((k + 1 : Nat) : Int)) ∧ H 900 = (⟨0, false, false, 0, 0, []⟩ : Blk) ∧ True) ?_ ?_
  ·
   unfold r83_8
   refine R_addN (m := k) (n := 1) t11 (@rfl V (iV ((1 : Nat) : Int))) (by omega) ?_
   refine R_mv (@rfl V (iV ((k + 1 : Nat) : Int))) ?_
   exact R_nil ⟨t0, t3, t9, t10, rfl, h900, trivial⟩
  intro T H ⟨t0, t3, t9, t10, t11, h900, _⟩
  refine p12 _ _ _ ?_ ⟨(k + 1), rfl, t0, (Eq.trans t3 (by first | rfl | (rw [cat_take (by omega), List.length_append]; done) | (rw [cat_take (by omega), List.length_append]; rfl) | simp)), t9, t10, (Eq.trans t11 (by first | rfl | (rw [cat_take (by omega), List.length_append]; done) | (rw [cat_take (by omega), List.length_append]; rfl) | simp)), h900, ?_⟩
  · omega
  · omega
 have hk2 : (cat (l.take k)).length = (cat l).length := by rw [show k = l.length by omega, List.take_length]
 refine W_seq_exit ?_
 refine p32 _ _ _ ?_
 refine x1 _ _ ?_
 refine .done ?_
 refine W_seq_regc (fun T H => T 0 = (intss l) ∧ T 6 = (V.ms 900 (0 + 1) 0 (0)) ∧ H 900 = (⟨0 + 1, true, decide ((cat (l.take k)).length = 0), 3, 1, []⟩ : Blk) ∧ True) ?_ ?_
 ·
  unfold r83_9
  refine R_mv t3 ?_
  refine R_callE (evcons (@rfl V V.nilsl) (evcons (@rfl V (iV (((cat (l.take k)).length : Nat) : Int))) evnil)) (CallOK_growv growLay110 growCall110 growInfo110 (by decide) rfl (n := ((cat (l.take k)).length)) (by omega) (by omega) 900 (congrArg Blk.ver h900)) ?_
  refine R_mv (@rfl V (V.ms 900 (0 + 1) 0 (0))) ?_
  exact R_nil ⟨t0, rfl, rfl, trivial⟩
 intro T H ⟨t0, t6, h900, _⟩
 refine W_seq_seq ?_
 refine W_seq_regc (fun T H => T 6 = (V.ms 900 (0 + 1) 0 (0)) ∧ T 25 = (intss l) ∧ T 26 = (iV ((l.length : Nat) : Int)) ∧ T 27 = (iV (0 : Int)) ∧ H 900 = (⟨0 + 1, true, decide ((cat (l.take k)).length = 0), 3, 1, []⟩ : Blk) ∧ True) ?_ ?_
 ·
  unfold r83_10
  refine R_mv t0 ?_
  refine R_len (@rfl V (intss l)) ?_
  refine R_mv (@rfl V (iV (0 : Int))) ?_
  exact R_nil ⟨t6, rfl, rfl, rfl, h900, trivial⟩
 intro T H ⟨t6, t25, t26, t27, h900, _⟩
 refine W_seq_blockg fun Q6 n6 x6 y6 z6 => ?_
 refine W_loop (fun mm T H => ∃ (j : Nat) (w : Nat), mm = l.length - j ∧ T 6 = (V.ms 900 w 0 ((cat (l.take j)).length)) ∧ T 25 = (intss l) ∧ T 26 = (iV ((l.length : Nat) : Int)) ∧ T 27 = (iV ((j : Nat) : Int)) ∧ H 900 = (⟨w, true, decide ((cat (l.take k)).length = 0), 3, 1, (List.map cI (cat (l.take j)))⟩ : Blk) ∧ (j ≤ l.length)) ?_ ?_
 ·
  refine ⟨_, 0, (0 + 1), rfl, (Eq.trans t6 (by first | rfl | (rw [cat_take (by omega), List.length_append]; done) | (rw [cat_take (by omega), List.length_append]; rfl) | simp)), t25, t26, (Eq.trans t27 (by first | rfl | (rw [cat_take (by omega), List.length_append]; done) | (rw [cat_take (by omega), List.length_append]; rfl) | simp)), (Eq.trans h900 (by first | rfl | (rw [cat_take (by omega)]; done) | (rw [cat_take (by omega)]; rfl))), ?_⟩
  · omega
 intro mm T H ⟨j, w, hmm, t6, t25, t26, t27, h900, hj⟩ Q7 p17 p27 p37
 unfold b83_1
 refine W_seq_regc (fun T H => T 6 = (V.ms 900 w 0 ((cat (l.take j)).length)) ∧ T 25 = (intss l) ∧ T 26 = (iV ((l.length : Nat) : Int)) ∧ T 27 = (iV ((j : Nat) : Int)) ∧ T 28 = (V.bool (decide (((j : Nat) : Int) < ((l.length : Nat) : Int)))) ∧ H 900 = (⟨w, true, decide ((cat (l.take k)).length = 0), 3, 1, (List.map cI (cat (l.take j)))⟩ : Blk) ∧ True) ?_ ?_
 ·
  unfold r83_11
  refine R_lss (x := ((j : Nat) : Int)) (y := ((l.length : Nat) : Int)) t27 t26 ?_
  exact R_nil ⟨t6, t25, t26, t27, rfl, h900, trivial⟩
 intro T H ⟨t6, t25, t26, t27, t28, h900, _⟩
 refine W_seq_if (p := ((j : Nat) : Int) < ((l.length : Nat) : Int)) t28 (fun c8 => ?_) (fun c8 => ?_)
 ·
  have hq := cat_take_le (l := l) (k := j) (by omega)
  refine W_seq_skip ?_
  refine W_seq_blockg fun Q9 n9 x9 y9 z9 => ?_
  refine W_seq_regc (fun T H => T 6 = (V.ms 900 w 0 ((cat (l.take j)).length)) ∧ T 8 = (ints ((nth (l) (j)))) ∧ T 25 = (intss l) ∧ T 26 = (iV ((l.length : Nat) : Int)) ∧ T 27 = (iV ((j : Nat) : Int)) ∧ H 900 = (⟨w, true, decide ((cat (l.take k)).length = 0), 3, 1, (List.map cI (cat (l.take j)))⟩ : Blk) ∧ True) ?_ ?_
  ·
   unfold r83_12
   refine R_idx (i := j) t25 t27 (by omega) rfl ?_
   refine R_load_pp (v := (ints ((nth (l) (j))))) rfl (by first | rfl | simp [ldV]) ?_
   refine R_mv (@rfl V (ints ((nth (l) (j))))) ?_
   exact R_nil ⟨t6, rfl, t25, t26, t27, h900, trivial⟩
  intro T H ⟨t6, t8, t25, t26, t27, h900, _⟩
  refine W_regc (fun T H => T 6 = (V.ms 900 (w + 1) 0 (((cat (l.take j)).length) + ((nth (l) (j))).length)) ∧ T 25 = (intss l) ∧ T 26 = (iV ((l.length : Nat) : Int)) ∧ T 27 = (iV ((j : Nat) : Int)) ∧ H 900 = (⟨w + 1, true, decide ((cat (l.take k)).length = 0), 3, 1, (List.map cI (cat (l.take j) ++ ((nth (l) (j)))))⟩ : Blk) ∧ True) ?_ ?_
  ·
   unfold r83_13
   refine R_mv t6 ?_
   refine R_mv t8 ?_
   refine R_appendS (l := (cat (l.take j))) (m := ((nth (l) (j)))) (f := cI) (@rfl V (V.ms 900 w 0 ((cat (l.take j)).length))) h900 (by first | rfl | simp | omega) (@rfl V (ints ((nth (l) (j))))) (fun _ => rfl) (fun _ => rfl) (by omega) (by omega) ?_
   refine R_mv (@rfl V (V.ms 900 (w + 1) 0 (((cat (l.take j)).length) + ((nth (l) (j))).length))) ?_
   exact R_nil ⟨rfl, t25, t26, t27, rfl, trivial⟩
  intro T H ⟨t6, t25, t26, t27, h900, _⟩
  refine n9 _ _ ?_
  refine .done ?_
  refine W_regc (fun T H => T 6 = (V.ms 900 (w + 1) 0 (((cat (l.take j)).length) + ((nth (l) (j))).length)) ∧ T 25 = (intss l) ∧ T 26 = (iV ((l.length : Nat) : Int)) ∧ T 27 = (iV ((j + 1 : Nat) : Int)) ∧ H 900 = (⟨w + 1, true, decide ((cat (l.take k)).length = 0), 3, 1, (List.map cI (cat (l.take j) ++ ((nth (l) (j)))))⟩ : Blk) ∧ True) ?_ ?_
  ·
   unfold r83_14
   refine R_addN (m := j) (n := 1) t27 (@rfl V (iV ((1 : Nat) : Int))) (by omega) ?_
   refine R_mv (@rfl V (iV ((j + 1 : Nat) : Int))) ?_
   exact R_nil ⟨t6, t25, t26, rfl, h900, trivial⟩
  intro T H ⟨t6, t25, t26, t27, h900, _⟩
  refine p17 _ _ _ ?_ ⟨(j + 1), (w + 1), rfl, (Eq.trans t6 (by first | rfl | (rw [cat_take (by omega), List.length_append]; done) | (rw [cat_take (by omega), List.length_append]; rfl) | simp)), t25, t26, (Eq.trans t27 (by first | rfl | (rw [cat_take (by omega), List.length_append]; done) | (rw [cat_take (by omega), List.length_append]; rfl) | simp)), (Eq.trans h900 (by first | rfl | (rw [cat_take (by omega)]; done) | (rw [cat_take (by omega)]; rfl))), ?_⟩
  · omega
  · omega
 refine W_seq_exit ?_
 refine p37 _ _ _ ?_
 refine x6 _ _ ?_
 refine .done ?_
 refine W_seq_regc (fun T H => T 2 = (V.ms 900 w 0 ((cat (l.take j)).length)) ∧ H 900 = (⟨w, true, decide ((cat (l.take k)).length = 0), 3, 1, (List.map cI (cat (l.take j)))⟩ : Blk) ∧ True) ?_ ?_
 ·
  unfold r83_15
  refine R_mv t6 ?_
  refine R_mv (@rfl V (V.ms 900 w 0 ((cat (l.take j)).length))) ?_
  exact R_nil ⟨rfl, h900, trivial⟩
 intro T H ⟨t2, h900, _⟩
 refine W_ret ?_
 refine Ret_1 t2 (fz_ms h900 (by first | rfl | simp) (l := (cat (l.take j))) rfl (by first | rfl | simp | omega) (fun _ => by simp) ?_)
 · rw [show j = l.length by omega, List.take_length]
end Go.Proofs.YtmnjchcoigbngaaGreat


namespace Go.Proofs.YtmnjchcoigbngaaGreat
open Go Go.Proofs
theorem pjoin_pure (l : List (List Int)) (hs : (cat l).length ≤ 4294967296) : PureC Tryz.prog 49 [(intss l)] (ints (cat l)) := by
 refine pure_of_Wb true 6 Tryz.func49 s49_ok (by kernel_rfl) (by simp [s49]) (by simp) (by simp) fun hB => ?_
 simp only [bnd_map, bnd_int, bnd_bool, bnd_str, bnd_agg, bnd_pp, bnd_nil, bnd_cons, implies_true, and_true, true_and] at hB
 unfold s49
 dsimp only
 refine W_seq_regc (fun T H => T 0 = (intss l) ∧ True) ?_ ?_
 ·
  unfold r49_0
  refine R_mv (@rfl V V.nilsl) ?_
  exact R_nil ⟨rfl, trivial⟩
 intro T H ⟨t0, _⟩
 refine W_seq_regc (fun T H => T 2 = (ints (cat l)) ∧ True) ?_ ?_
 ·
  unfold r49_1
  refine R_mv t0 ?_
  refine R_callc (evcons (@rfl V (intss l)) evnil) (concat_pure l hs) ?_
  refine R_mv (@rfl V (ints (cat l))) ?_
  exact R_nil ⟨rfl, trivial⟩
 intro T H ⟨t2, _⟩
 refine W_ret ?_
 refine Ret_1 t2 (fz_canon (by simp) rfl)
end Go.Proofs.YtmnjchcoigbngaaGreat


namespace Go.Proofs.YtmnjchcoigbngaaGreat
open Go Go.Proofs
theorem access_pure (t : Dt) (hb : Bd t) : PureC Tryz.prog 37 [(V.agg [(V.sl (List.map cN (t.nd)))])] (intss (acL t.nd)) := by
 refine pure_of_Wb true 6 Tryz.func37 s37_ok (by kernel_rfl) (by simp [s37]) (by simp) (by simp) fun hB => ?_
 simp only [bnd_map, bnd_int, bnd_bool, bnd_str, bnd_agg, bnd_pp, bnd_nil, bnd_cons, implies_true, and_true, true_and] at hB
 unfold s37
 dsimp only
 have hbn := hb.n
 refine W_seq_regc (fun T H => T 1 = (V.mp 1 1 0 0) ∧ H 1 = (bk 1 24 1 [[(V.sl (List.map cN (t.nd)))]]) ∧ H 3 = (⟨0, false, false, 0, 0, []⟩ : Blk) ∧ H 5 = (⟨0, false, false, 0, 0, []⟩ : Blk) ∧ True) ?_ ?_
 ·
  unfold r37_0
  refine R_box (i := 1) (n := 0) (m := 1) (cs := [(V.sl (List.map cN (t.nd)))]) rfl (congrArg Blk.ver rfl) (@rfl V (V.agg [(V.sl (List.map cN (t.nd)))])) rfl rfl ?_
  refine R_mv (@rfl V V.nilsl) ?_
  exact R_nil ⟨rfl, rfl, rfl, rfl, trivial⟩
 intro T H ⟨t1, h1, h3, h5, _⟩
 refine W_seq_regc (fun T H => T 1 = (V.mp 1 1 0 0) ∧ T 3 = (V.ms 3 1 0 (0)) ∧ H 1 = (bk 1 24 1 [[(V.sl (List.map cN (t.nd)))]]) ∧ H 3 = (bz 1 38 1 []) ∧ H 5 = (⟨0, false, false, 0, 0, []⟩ : Blk) ∧ True) ?_ ?_
 ·
  unfold r37_1
  refine R_lazy (i := 3) (n := 0) rfl (congrArg Blk.ver h3) ?_
  exact R_nil ⟨t1, rfl, h1, rfl, h5, trivial⟩
 intro T H ⟨t1, t3, h1, h3, h5, _⟩
 refine W_seq_seq ?_
 refine W_seq_regc (fun T H => T 3 = (V.ms 3 1 0 (0)) ∧ T 7 = (V.sl (List.map cN (t.nd))) ∧ T 8 = (iV ((t.nd.length : Nat) : Int)) ∧ T 9 = (iV (0 : Int)) ∧ H 1 = (bk 1 24 1 [[(V.sl (List.map cN (t.nd)))]]) ∧ H 3 = (bz 1 38 1 []) ∧ H 5 = (⟨0, false, false, 0, 0, []⟩ : Blk) ∧ True) ?_ ?_
 ·
  unfold r37_2
  refine R_fld_mp (o' := 0) t1 h1 (by first | rfl | simp [okB, Blk.own]) rfl ?_
  refine R_load_mp (v := (V.sl (List.map cN (t.nd)))) (@rfl V (V.mp 1 1 0 0)) h1 (by first | rfl | simp [ldB, ldV, Blk.own, V.one]) ?_
  refine R_len (@rfl V (V.sl (List.map cN (t.nd)))) ?_
  refine R_mv (@rfl V (iV (0 : Int))) ?_
  exact R_nil ⟨t3, rfl, rfl, rfl, h1, h3, h5, trivial⟩
 intro T H ⟨t3, t7, t8, t9, h1, h3, h5, _⟩
 refine W_seq_blockg fun Q1 n1 x1 y1 z1 => ?_
 refine W_loop (fun mm T H => ∃ (k : Nat) (v : Nat) (v5 : Nat), mm = t.nd.length - k ∧ T 3 = (V.ms 3 v 0 ((acL (t.nd.take k)).length)) ∧ T 7 = (V.sl (List.map cN (t.nd))) ∧ T 8 = (iV ((t.nd.length : Nat) : Int)) ∧ T 9 = (iV ((k : Nat) : Int)) ∧ H 1 = (bk 1 24 1 [[(V.sl (List.map cN (t.nd)))]]) ∧ H 3 = (bz v 38 1 (List.map cL (acL (t.nd.take k)))) ∧ (H 5).ver = v5 ∧ (k ≤ t.nd.length)) ?_ ?_
 ·
  refine ⟨_, 0, 1, 0, rfl, (Eq.trans t3 (by first | rfl | (rw [acL_take (by omega), if_pos (by assumption), List.length_append]; rfl) | (rw [acL_take (by omega), if_neg (by assumption), List.append_nil]; done) | simp)), t7, t8, (Eq.trans t9 (by first | rfl | (rw [acL_take (by omega), if_pos (by assumption), List.length_append]; rfl) | (rw [acL_take (by omega), if_neg (by assumption), List.append_nil]; done) | simp)), h1, (Eq.trans h3 (by first | rfl | (rw [acL_take (by omega), if_pos (by assumption)]; simp [cat]; done) | (rw [acL_take (by omega), if_neg (by assumption), List.append_nil]; done) | simp)), (congrArg Blk.ver h5), ?_⟩
  · omega
 intro mm T H ⟨k, v, v5, hmm, t3, t7, t8, t9, h1, h3, h5, hk⟩ Q2 p12 p22 p32
 unfold b37_0
 have q1 := acL_len (t.nd.take k)
 have q2 : (t.nd.take k).length ≤ k := by simp; omega
 refine W_seq_regc (fun T H => T 3 = (V.ms 3 v 0 ((acL (t.nd.take k)).length)) ∧ T 7 = (V.sl (List.map cN (t.nd))) ∧ T 8 = (iV ((t.nd.length : Nat) : Int)) ∧ T 9 = (iV ((k : Nat) : Int)) ∧ T 10 = (V.bool (decide (((k : Nat) : Int) < ((t.nd.length : Nat) : Int)))) ∧ H 1 = (bk 1 24 1 [[(V.sl (List.map cN (t.nd)))]]) ∧ H 3 = (bz v 38 1 (List.map cL (acL (t.nd.take k)))) ∧ (H 5).ver = v5 ∧ True) ?_ ?_
 ·
  unfold r37_3
  refine R_lss (x := ((k : Nat) : Int)) (y := ((t.nd.length : Nat) : Int)) t9 t8 ?_
  exact R_nil ⟨t3, t7, t8, t9, rfl, h1, h3, h5, trivial⟩
 intro T H ⟨t3, t7, t8, t9, t10, h1, h3, h5, _⟩
 refine W_seq_if (p := ((k : Nat) : Int) < ((t.nd.length : Nat) : Int)) t10 (fun c3 => ?_) (fun c3 => ?_)
 ·
  have r1 := hb.ac k (by omega)
  refine W_seq_skip ?_
  refine W_seq_blockg fun Q4 n4 x4 y4 z4 => ?_
  refine W_seq_regc (fun T H => T 3 = (V.ms 3 v 0 ((acL (t.nd.take k)).length)) ∧ T 5 = (V.mp 5 (v5 + 1) 0 0) ∧ T 7 = (V.sl (List.map cN (t.nd))) ∧ T 8 = (iV ((t.nd.length : Nat) : Int)) ∧ T 9 = (iV ((k : Nat) : Int)) ∧ H 1 = (bk 1 24 1 [[(V.sl (List.map cN (t.nd)))]]) ∧ H 3 = (bz v 38 1 (List.map cL (acL (t.nd.take k)))) ∧ H 5 = (bk (v5 + 1) 68 5 [(cN (((nth (t.nd) (k)))))]) ∧ True) ?_ ?_
  ·
   unfold r37_4
   refine R_idx (i := k) t7 t9 (by omega) rfl ?_
   refine R_load_pp (v := (V.agg (cN (((nth (t.nd) (k))))))) rfl (by first | rfl | simp [ldV]) ?_
   refine R_alloc (i := 5) (n := v5) (m := 5) rfl h5 rfl ?_
   refine R_store (vs := [(V.bool (((nth (t.nd) (k))).lf)), (ints (((nth (t.nd) (k))).ac)), (ints (((nth (t.nd) (k))).sf)), (intss (((nth (t.nd) (k))).ou)), (ints (((nth (t.nd) (k))).kd))]) (B' := (bk (v5 + 1) 68 5 [(cN (((nth (t.nd) (k)))))])) (@rfl V (V.mp 5 (v5 + 1) 0 0)) (@rfl V (V.agg (cN (((nth (t.nd) (k))))))) rfl (@rfl Blk (bk (v5 + 1) 68 5 [[(V.bool false), V.nilsl, V.nilsl, V.nilsl, V.nilsl]])) (by first | rfl | simp [stB, okB, Blk.own, putAt, V.one]) ?_
   exact R_nil ⟨t3, rfl, t7, t8, t9, h1, h3, rfl, trivial⟩
  intro T H ⟨t3, t5, t7, t8, t9, h1, h3, h5, _⟩
  refine W_seq_regc (fun T H => T 3 = (V.ms 3 v 0 ((acL (t.nd.take k)).length)) ∧ T 5 = (V.mp 5 (v5 + 1) 0 0) ∧ T 7 = (V.sl (List.map cN (t.nd))) ∧ T 8 = (iV ((t.nd.length : Nat) : Int)) ∧ T 9 = (iV ((k : Nat) : Int)) ∧ T 14 = (V.bool (((nth (t.nd) (k))).lf)) ∧ H 1 = (bk 1 24 1 [[(V.sl (List.map cN (t.nd)))]]) ∧ H 3 = (bz v 38 1 (List.map cL (acL (t.nd.take k)))) ∧ H 5 = (bk (v5 + 1) 68 5 [(cN (((nth (t.nd) (k)))))]) ∧ True) ?_ ?_
  ·
   unfold r37_5
   refine R_fld_mp (o' := 0) t5 h5 (by first | rfl | simp [okB, Blk.own]) rfl ?_
   refine R_load_mp (v := (V.bool (((nth (t.nd) (k))).lf))) (@rfl V (V.mp 5 (v5 + 1) 0 0)) h5 (by first | rfl | simp [ldB, ldV, Blk.own, V.one]) ?_
   exact R_nil ⟨t3, t5, t7, t8, t9, rfl, h1, h3, h5, trivial⟩
  intro T H ⟨t3, t5, t7, t8, t9, t14, h1, h3, h5, _⟩
  refine W_ifb t14 (fun c5 => ?_) (fun c5 => ?_)
  ·
   have d1 : (nth t.nd k).lf = true := c5
   refine W_regc (fun T H => T 3 = (V.ms 3 (v + 1) 0 (((acL (t.nd.take k)).length) + 1)) ∧ T 7 = (V.sl (List.map cN (t.nd))) ∧ T 8 = (iV ((t.nd.length : Nat) : Int)) ∧ T 9 = (iV ((k : Nat) : Int)) ∧ H 1 = (bk 1 24 1 [[(V.sl (List.map cN (t.nd)))]]) ∧ H 3 = (bz (v + 1) 38 1 (List.map cL (acL (t.nd.take k) ++ [cat ([((nth (t.nd) (k))).ac])]))) ∧ H 5 = (bk (v5 + 1) 68 5 [(cN (((nth (t.nd) (k)))))]) ∧ True) ?_ ?_
   ·
    unfold r37_6
    refine R_mv t3 ?_
    refine R_fld_mp (o' := 1) t5 h5 (by first | rfl | simp [okB, Blk.own]) rfl ?_
    refine R_load_mp (v := (ints (((nth (t.nd) (k))).ac))) (@rfl V (V.mp 5 (v5 + 1) 0 1)) h5 (by first | rfl | simp [ldB, ldV, Blk.own, V.one]) ?_
    refine R_bslice (qs := [(0, (ints (((nth (t.nd) (k))).ac)))]) (rows := [[(ints (((nth (t.nd) (k))).ac))]]) (mcons (congrArg (fun v => (0, v)) (@rfl V (ints (((nth (t.nd) (k))).ac)))) rfl) rfl ?_
    refine R_callc (evcons (@rfl V (V.sl [[(ints (((nth (t.nd) (k))).ac))]])) evnil) (pjoin_pure ([((nth (t.nd) (k))).ac]) (by simp [cat]; omega)) ?_
    refine R_bslice (qs := [(0, (ints (cat ([((nth (t.nd) (k))).ac]))))]) (rows := [[(ints (cat ([((nth (t.nd) (k))).ac])))]]) (mcons (congrArg (fun v => (0, v)) (@rfl V (ints (cat ([((nth (t.nd) (k))).ac]))))) rfl) rfl ?_
    refine R_append1 (l := (acL (t.nd.take k))) (f := cL) (x := (cat ([((nth (t.nd) (k))).ac]))) (@rfl V (V.ms 3 v 0 ((acL (t.nd.take k)).length))) h3 (by first | rfl | simp | omega) (@rfl V (V.sl [[(ints (cat ([((nth (t.nd) (k))).ac])))]])) rfl rfl (by omega) (by omega) ?_
    refine R_mv (@rfl V (V.ms 3 (v + 1) 0 (((acL (t.nd.take k)).length) + 1))) ?_
    exact R_nil ⟨rfl, t7, t8, t9, h1, rfl, h5, trivial⟩
   intro T H ⟨t3, t7, t8, t9, h1, h3, h5, _⟩
   refine n4 _ _ ?_
   refine .done ?_
   refine W_regc (fun T H => T 3 = (V.ms 3 (v + 1) 0 (((acL (t.nd.take k)).length) + 1)) ∧ T 7 = (V.sl (List.map cN (t.nd))) ∧ T 8 = (iV ((t.nd.length : Nat) : Int)) ∧ T 9 = (iV ((k + 1 : Nat) : Int)) ∧ H 1 = (bk 1 24 1 [[(V.sl (List.map cN (t.nd)))]]) ∧ H 3 = (bz (v + 1) 38 1 (List.map cL (acL (t.nd.take k) ++ [cat ([((nth (t.nd) (k))).ac])]))) ∧ H 5 = (bk (v5 + 1) 68 5 [(cN (((nth (t.nd) (k)))))]) ∧ True) ?_ ?_
   ·
    unfold r37_7
    refine R_addN (m := k) (n := 1) t9 (@rfl V (iV ((1 : Nat) : Int))) (by omega) ?_
    refine R_mv (@rfl V (iV ((k + 1 : Nat) : Int))) ?_
    exact R_nil ⟨t3, t7, t8, rfl, h1, h3, h5, trivial⟩
   intro T H ⟨t3, t7, t8, t9, h1, h3, h5, _⟩
   refine p12 _ _ _ ?_ ⟨(k + 1), (v + 1), (v5 + 1), rfl, (Eq.trans t3 (by first | rfl | (rw [acL_take (by omega), if_pos (by assumption), List.length_append]; rfl) | (rw [acL_take (by omega), if_neg (by assumption), List.append_nil]; done) | simp)), t7, t8, (Eq.trans t9 (by first | rfl | (rw [acL_take (by omega), if_pos (by assumption), List.length_append]; rfl) | (rw [acL_take (by omega), if_neg (by assumption), List.append_nil]; done) | simp)), h1, (Eq.trans h3 (by first | rfl | (rw [acL_take (by omega), if_pos (by assumption)]; simp [cat]; done) | (rw [acL_take (by omega), if_neg (by assumption), List.append_nil]; done) | simp)), (congrArg Blk.ver h5), ?_⟩
   · omega
   · omega
  have d1 : ¬(nth t.nd k).lf = true := by simpa using c5
  refine W_skip ?_
  refine n4 _ _ ?_
  refine .done ?_
  refine W_regc (fun T H => T 3 = (V.ms 3 v 0 ((acL (t.nd.take k)).length)) ∧ T 7 = (V.sl (List.map cN (t.nd))) ∧ T 8 = (iV ((t.nd.length : Nat) : Int)) ∧ T 9 = (iV ((k + 1 : Nat) : Int)) ∧ H 1 = (bk 1 24 1 [[(V.sl (List.map cN (t.nd)))]]) ∧ H 3 = (bz v 38 1 (List.map cL (acL (t.nd.take k)))) ∧ H 5 = (bk (v5 + 1) 68 5 [(cN (((nth (t.nd) (k)))))]) ∧ True) ?_ ?_
  ·
   unfold r37_7
   refine R_addN (m := k) (n := 1) t9 (@rfl V (iV ((1 : Nat) : Int))) (by omega) ?_
   refine R_mv (@rfl V (iV ((k + 1 : Nat) : Int))) ?_
   exact R_nil ⟨t3, t7, t8, rfl, h1, h3, h5, trivial⟩
  intro T H ⟨t3, t7, t8, t9, h1, h3, h5, _⟩
  refine p12 _ _ _ ?_ ⟨(k + 1), v, (v5 + 1), rfl, (Eq.trans t3 (by first | rfl | (rw [acL_take (by omega), if_pos (by assumption), List.length_append]; rfl) | (rw [acL_take (by omega), if_neg (by assumption), List.append_nil]; done) | simp)), t7, t8, (Eq.trans t9 (by first | rfl | (rw [acL_take (by omega), if_pos (by assumption), List.length_append]; rfl) | (rw [acL_take (by omega), if_neg (by assumption), List.append_nil]; done) | simp)), h1, (Eq.trans h3 (by first | rfl | (rw [acL_take (by omega), if_pos (by assumption)]; simp [cat]; done) | (rw [acL_take (by omega), if_neg (by assumption), List.append_nil]; done) | simp)), (congrArg Blk.ver h5), ?_⟩
  · omega
  · omega
 refine W_seq_exit ?_
 refine p32 _ _ _ ?_
 refine x1 _ _ ?_
 refine .done ?_
 refine W_seq_regc (fun T H => T 2 = (V.ms 3 v 0 ((acL (t.nd.take k)).length)) ∧ H 1 = (bk 1 24 1 [[(V.sl (List.map cN (t.nd)))]]) ∧ H 3 = (bz v 38 1 (List.map cL (acL (t.nd.take k)))) ∧ (H 5).ver = v5 ∧ True) ?_ ?_
 ·
  unfold r37_8
  refine R_mv t3 ?_
  refine R_mv (@rfl V (V.ms 3 v 0 ((acL (t.nd.take k)).length))) ?_
  exact R_nil ⟨rfl, h1, h3, h5, trivial⟩
 intro T H ⟨t2, h1, h3, h5, _⟩
 refine W_ret ?_
 refine Ret_1 t2 (fz_ms h3 (by first | rfl | simp) (l := (acL (t.nd.take k))) rfl (by first | rfl | simp | omega) (fun _ => by simp) ?_)
 · rw [show k = t.nd.length by omega, List.take_length]
end Go.Proofs.YtmnjchcoigbngaaGreat


namespace Go.Proofs.YtmnjchcoigbngaaGreat
open Go Go.Proofs
theorem dvalid_pure (t : Dt) (hb : Bd t) : PureC Tryz.prog 11 [(V.agg [(V.sl (List.map cN (t.nd)))])] (iV (dvE t)) := by
 refine pure_of_Wb true 6 Tryz.func11 s11_ok (by kernel_rfl) (by simp [s11]) (by simp) (by simp) fun hB => ?_
 simp only [bnd_map, bnd_int, bnd_bool, bnd_str, bnd_agg, bnd_pp, bnd_nil, bnd_cons, implies_true, and_true, true_and] at hB
 unfold s11
 dsimp only
 refine W_seq_regc (fun T H => T 1 = (V.mp 1 1 0 0) ∧ H 1 = (bk 1 24 1 [[(V.sl (List.map cN (t.nd)))]]) ∧ H 4 = (⟨0, false, false, 0, 0, []⟩ : Blk) ∧ True) ?_ ?_
 ·
  unfold r11_0
  refine R_box (i := 1) (n := 0) (m := 1) (cs := [(V.sl (List.map cN (t.nd)))]) rfl (congrArg Blk.ver rfl) (@rfl V (V.agg [(V.sl (List.map cN (t.nd)))])) rfl rfl ?_
  refine R_mv (@rfl V (iV (0 : Int))) ?_
  exact R_nil ⟨rfl, rfl, rfl, trivial⟩
 intro T H ⟨t1, h1, h4, _⟩
 refine W_seq_blockg fun Q1 n1 x1 y1 z1 => ?_
 refine W_seq_regc (fun T H => T 1 = (V.mp 1 1 0 0) ∧ T 7 = (V.bool (decide (((t.nd.length : Nat) : Int) = (0 : Int)))) ∧ H 1 = (bk 1 24 1 [[(V.sl (List.map cN (t.nd)))]]) ∧ H 4 = (⟨0, false, false, 0, 0, []⟩ : Blk) ∧ True) ?_ ?_
 ·
  unfold r11_1
  refine R_fld_mp (o' := 0) t1 h1 (by first | rfl | simp [okB, Blk.own]) rfl ?_
  refine R_load_mp (v := (V.sl (List.map cN (t.nd)))) (@rfl V (V.mp 1 1 0 0)) h1 (by first | rfl | simp [ldB, ldV, Blk.own, V.one]) ?_
  refine R_len (@rfl V (V.sl (List.map cN (t.nd)))) ?_
  refine R_eql (x := ((t.nd.length : Nat) : Int)) (y := (0 : Int)) (@rfl V (iV ((t.nd.length : Nat) : Int))) (@rfl V (iV (0 : Int))) ?_
  refine R_mv (@rfl V (V.bool (decide (((t.nd.length : Nat) : Int) = (0 : Int))))) ?_
  exact R_nil ⟨t1, rfl, h1, h4, trivial⟩
 intro T H ⟨t1, t7, h1, h4, _⟩
 refine W_if (p := ((t.nd.length : Nat) : Int) = (0 : Int)) t7 (fun c2 => ?_) (fun c2 => ?_)
 ·
  refine W_seq_regc (fun T H => T 2 = (iV (19 : Int)) ∧ H 1 = (bk 1 24 1 [[(V.sl (List.map cN (t.nd)))]]) ∧ H 4 = (⟨0, false, false, 0, 0, []⟩ : Blk) ∧ True) ?_ ?_
  ·
   unfold r11_2
   refine R_mv (@rfl V (iV (19 : Int))) ?_
   exact R_nil ⟨rfl, h1, h4, trivial⟩
  intro T H ⟨t2, h1, h4, _⟩
  refine W_ret ?_
  refine y1 _ _ ?_
  refine Ret_1 t2 (fz_int ?_)
  · rw [dvE, if_pos (by omega)]
 refine W_seq_regc (fun T H => T 1 = (V.mp 1 1 0 0) ∧ T 12 = (V.bool (decide ((4096 : Int) < ((t.nd.length : Nat) : Int)))) ∧ H 1 = (bk 1 24 1 [[(V.sl (List.map cN (t.nd)))]]) ∧ H 4 = (⟨0, false, false, 0, 0, []⟩ : Blk) ∧ True) ?_ ?_
 ·
  unfold r11_3
  refine R_fld_mp (o' := 0) t1 h1 (by first | rfl | simp [okB, Blk.own]) rfl ?_
  refine R_load_mp (v := (V.sl (List.map cN (t.nd)))) (@rfl V (V.mp 1 1 0 0)) h1 (by first | rfl | simp [ldB, ldV, Blk.own, V.one]) ?_
  refine R_len (@rfl V (V.sl (List.map cN (t.nd)))) ?_
  refine R_gtr (x := ((t.nd.length : Nat) : Int)) (y := (4096 : Int)) (@rfl V (iV ((t.nd.length : Nat) : Int))) (@rfl V (iV (4096 : Int))) ?_
  refine R_mv (@rfl V (V.bool (decide ((4096 : Int) < ((t.nd.length : Nat) : Int))))) ?_
  exact R_nil ⟨t1, rfl, h1, h4, trivial⟩
 intro T H ⟨t1, t12, h1, h4, _⟩
 refine W_if (p := (4096 : Int) < ((t.nd.length : Nat) : Int)) t12 (fun c3 => ?_) (fun c3 => ?_)
 ·
  refine W_seq_regc (fun T H => T 2 = (iV (11 : Int)) ∧ H 1 = (bk 1 24 1 [[(V.sl (List.map cN (t.nd)))]]) ∧ H 4 = (⟨0, false, false, 0, 0, []⟩ : Blk) ∧ True) ?_ ?_
  ·
   unfold r11_4
   refine R_mv (@rfl V (iV (11 : Int))) ?_
   exact R_nil ⟨rfl, h1, h4, trivial⟩
  intro T H ⟨t2, h1, h4, _⟩
  refine W_ret ?_
  refine y1 _ _ ?_
  refine Ret_1 t2 (fz_int ?_)
  · rw [dvE, if_neg (by omega), if_pos (by omega)]
 refine W_skip ?_
 refine n1 _ _ ?_
 refine .done ?_
 refine W_seq_seq ?_
 refine W_seq_regc (fun T H => T 1 = (V.mp 1 1 0 0) ∧ T 18 = (V.sl (List.map cN (t.nd))) ∧ T 19 = (iV ((t.nd.length : Nat) : Int)) ∧ T 20 = (iV (0 : Int)) ∧ H 1 = (bk 1 24 1 [[(V.sl (List.map cN (t.nd)))]]) ∧ H 4 = (⟨0, false, false, 0, 0, []⟩ : Blk) ∧ True) ?_ ?_
 ·
  unfold r11_5
  refine R_fld_mp (o' := 0) t1 h1 (by first | rfl | simp [okB, Blk.own]) rfl ?_
  refine R_load_mp (v := (V.sl (List.map cN (t.nd)))) (@rfl V (V.mp 1 1 0 0)) h1 (by first | rfl | simp [ldB, ldV, Blk.own, V.one]) ?_
  refine R_len (@rfl V (V.sl (List.map cN (t.nd)))) ?_
  refine R_mv (@rfl V (iV (0 : Int))) ?_
  exact R_nil ⟨t1, rfl, rfl, rfl, h1, h4, trivial⟩
 intro T H ⟨t1, t18, t19, t20, h1, h4, _⟩
 refine W_seq_blockg fun Q4 n4 x4 y4 z4 => ?_
 refine W_loop (fun mm T H => ∃ (k : Nat) (v4 : Nat), mm = t.nd.length - k ∧ T 1 = (V.mp 1 1 0 0) ∧ T 18 = (V.sl (List.map cN (t.nd))) ∧ T 19 = (iV ((t.nd.length : Nat) : Int)) ∧ T 20 = (iV ((k : Nat) : Int)) ∧ H 1 = (bk 1 24 1 [[(V.sl (List.map cN (t.nd)))]]) ∧ (H 4).ver = v4 ∧ (k ≤ t.nd.length) ∧ (0 < t.nd.length) ∧ (t.nd.length ≤ 4096) ∧ (∀ j, j < k → ndE (nth t.nd j) t.nd.length = 0) ∧ (fe (fun k => ndE (nth t.nd k) t.nd.length) 0 t.nd.length = fe (fun k => ndE (nth t.nd k) t.nd.length) k (t.nd.length - k))) ?_ ?_
 ·
  refine ⟨_, 0, 0, rfl, t1, t18, t19, (Eq.trans t20 (by first | rfl | simp)), h1, (congrArg Blk.ver h4), ?_, ?_, ?_, ?_, ?_⟩
  · omega
  · omega
  · omega
  · intro j hj; omega
  · rfl
 intro mm T H ⟨k, v4, hmm, t1, t18, t19, t20, h1, h4, hk, g0, g1, hp, hc⟩ Q5 p15 p25 p35
 unfold b11_0
 refine W_seq_regc (fun T H => T 1 = (V.mp 1 1 0 0) ∧ T 18 = (V.sl (List.map cN (t.nd))) ∧ T 19 = (iV ((t.nd.length : Nat) : Int)) ∧ T 20 = (iV ((k : Nat) : Int)) ∧ T 21 = (V.bool (decide (((k : Nat) : Int) < ((t.nd.length : Nat) : Int)))) ∧ H 1 = (bk 1 24 1 [[(V.sl (List.map cN (t.nd)))]]) ∧ (H 4).ver = v4 ∧ True) ?_ ?_
 ·
  unfold r11_6
  refine R_lss (x := ((k : Nat) : Int)) (y := ((t.nd.length : Nat) : Int)) t20 t19 ?_
  exact R_nil ⟨t1, t18, t19, t20, rfl, h1, h4, trivial⟩
 intro T H ⟨t1, t18, t19, t20, t21, h1, h4, _⟩
 refine W_seq_if (p := ((k : Nat) : Int) < ((t.nd.length : Nat) : Int)) t21 (fun c6 => ?_) (fun c6 => ?_)
 ·
  have r1 := hb.sf k (by omega)
  have r2 := hb.ou k (by omega)
  have r3 := hb.kd k (by omega)
  refine W_seq_skip ?_
  refine W_seq_blockg fun Q7 n7 x7 y7 z7 => ?_
  refine W_seq_regc (fun T H => T 1 = (V.mp 1 1 0 0) ∧ T 4 = (V.mp 4 (v4 + 1) 0 0) ∧ T 18 = (V.sl (List.map cN (t.nd))) ∧ T 19 = (iV ((t.nd.length : Nat) : Int)) ∧ T 20 = (iV ((k : Nat) : Int)) ∧ H 1 = (bk 1 24 1 [[(V.sl (List.map cN (t.nd)))]]) ∧ H 4 = (bk (v4 + 1) 68 5 [(cN (((nth (t.nd) (k)))))]) ∧ True) ?_ ?_
  ·
   unfold r11_7
   refine R_idx (i := k) t18 t20 (by omega) rfl ?_
   refine R_load_pp (v := (V.agg (cN (((nth (t.nd) (k))))))) rfl (by first | rfl | simp [ldV]) ?_
   refine R_alloc (i := 4) (n := v4) (m := 5) rfl h4 rfl ?_
   refine R_store (vs := [(V.bool (((nth (t.nd) (k))).lf)), (ints (((nth (t.nd) (k))).ac)), (ints (((nth (t.nd) (k))).sf)), (intss (((nth (t.nd) (k))).ou)), (ints (((nth (t.nd) (k))).kd))]) (B' := (bk (v4 + 1) 68 5 [(cN (((nth (t.nd) (k)))))])) (@rfl V (V.mp 4 (v4 + 1) 0 0)) (@rfl V (V.agg (cN (((nth (t.nd) (k))))))) rfl (@rfl Blk (bk (v4 + 1) 68 5 [[(V.bool false), V.nilsl, V.nilsl, V.nilsl, V.nilsl]])) (by first | rfl | simp [stB, okB, Blk.own, putAt, V.one]) ?_
   exact R_nil ⟨t1, rfl, t18, t19, t20, h1, rfl, trivial⟩
  intro T H ⟨t1, t4, t18, t19, t20, h1, h4, _⟩
  refine W_seq_regc (fun T H => T 1 = (V.mp 1 1 0 0) ∧ T 4 = (V.mp 4 (v4 + 1) 0 0) ∧ T 18 = (V.sl (List.map cN (t.nd))) ∧ T 19 = (iV ((t.nd.length : Nat) : Int)) ∧ T 20 = (iV ((k : Nat) : Int)) ∧ H 1 = (bk 1 24 1 [[(V.sl (List.map cN (t.nd)))]]) ∧ H 4 = (bk (v4 + 1) 68 5 [(cN (((nth (t.nd) (k)))))]) ∧ True) ?_ ?_
  ·
   unfold r11_8
   refine R_mv (@rfl V (iV (0 : Int))) ?_
   exact R_nil ⟨t1, t4, t18, t19, t20, h1, h4, trivial⟩
  intro T H ⟨t1, t4, t18, t19, t20, h1, h4, _⟩
  refine W_seq_seq ?_
  refine W_seq_regc (fun T H => T 1 = (V.mp 1 1 0 0) ∧ T 4 = (V.mp 4 (v4 + 1) 0 0) ∧ T 18 = (V.sl (List.map cN (t.nd))) ∧ T 19 = (iV ((t.nd.length : Nat) : Int)) ∧ T 20 = (iV ((k : Nat) : Int)) ∧ T 25 = (V.bool (((nth (t.nd) (k))).lf)) ∧ H 1 = (bk 1 24 1 [[(V.sl (List.map cN (t.nd)))]]) ∧ H 4 = (bk (v4 + 1) 68 5 [(cN (((nth (t.nd) (k)))))]) ∧ True) ?_ ?_
  ·
   unfold r11_9
   refine R_fld_mp (o' := 0) t4 h4 (by first | rfl | simp [okB, Blk.own]) rfl ?_
   refine R_load_mp (v := (V.bool (((nth (t.nd) (k))).lf))) (@rfl V (V.mp 4 (v4 + 1) 0 0)) h4 (by first | rfl | simp [ldB, ldV, Blk.own, V.one]) ?_
   exact R_nil ⟨t1, t4, t18, t19, t20, rfl, h1, h4, trivial⟩
  intro T H ⟨t1, t4, t18, t19, t20, t25, h1, h4, _⟩
  refine W_seq_ifb t25 (fun c8 => ?_) (fun c8 => ?_)
  ·
   have d0 : (nth t.nd k).lf = true := c8
   have e0 : ndE (nth t.nd k) t.nd.length = lfE (nth t.nd k) := by rw [ndE, if_pos d0]
   refine W_seq_regc (fun T H => T 1 = (V.mp 1 1 0 0) ∧ T 5 = (iV (lfE (((nth (t.nd) (k)))))) ∧ T 18 = (V.sl (List.map cN (t.nd))) ∧ T 19 = (iV ((t.nd.length : Nat) : Int)) ∧ T 20 = (iV ((k : Nat) : Int)) ∧ H 1 = (bk 1 24 1 [[(V.sl (List.map cN (t.nd)))]]) ∧ H 4 = (bk (v4 + 1) 68 5 [(cN (((nth (t.nd) (k)))))]) ∧ True) ?_ ?_
   ·
    unfold r11_10
    refine R_load_mp (v := (V.agg (cN (((nth (t.nd) (k))))))) t4 h4 (by first | rfl | simp [ldB, ldV, Blk.own, V.one]) ?_
    refine R_callc (evcons (@rfl V (V.agg (cN (((nth (t.nd) (k))))))) evnil) (leaf_pure (((nth (t.nd) (k)))) (by first | omega | assumption) (by first | omega | assumption) (by first | omega | assumption)) ?_
    refine R_mv (@rfl V (iV (lfE (((nth (t.nd) (k))))))) ?_
    exact R_nil ⟨t1, rfl, t18, t19, t20, h1, h4, trivial⟩
   intro T H ⟨t1, t5, t18, t19, t20, h1, h4, _⟩
   refine W_seq_regc (fun T H => T 1 = (V.mp 1 1 0 0) ∧ T 5 = (iV (lfE (((nth (t.nd) (k)))))) ∧ T 18 = (V.sl (List.map cN (t.nd))) ∧ T 19 = (iV ((t.nd.length : Nat) : Int)) ∧ T 20 = (iV ((k : Nat) : Int)) ∧ T 34 = (V.bool (decide ((lfE (((nth (t.nd) (k))))) ≠ (0 : Int)))) ∧ H 1 = (bk 1 24 1 [[(V.sl (List.map cN (t.nd)))]]) ∧ H 4 = (bk (v4 + 1) 68 5 [(cN (((nth (t.nd) (k)))))]) ∧ True) ?_ ?_
   ·
    unfold r11_12
    refine R_mv t5 ?_
    refine R_neq (x := (lfE (((nth (t.nd) (k)))))) (y := (0 : Int)) (@rfl V (iV (lfE (((nth (t.nd) (k))))))) (@rfl V (iV (0 : Int))) ?_
    exact R_nil ⟨t1, t5, t18, t19, t20, rfl, h1, h4, trivial⟩
   intro T H ⟨t1, t5, t18, t19, t20, t34, h1, h4, _⟩
   refine W_if (p := (lfE (((nth (t.nd) (k))))) ≠ (0 : Int)) t34 (fun c9 => ?_) (fun c9 => ?_)
   ·
    have d1 : ndE (nth t.nd k) t.nd.length ≠ 0 := by rw [e0]; exact c9
    refine W_seq_regc (fun T H => T 2 = (iV (lfE (((nth (t.nd) (k)))))) ∧ H 1 = (bk 1 24 1 [[(V.sl (List.map cN (t.nd)))]]) ∧ H 4 = (bk (v4 + 1) 68 5 [(cN (((nth (t.nd) (k)))))]) ∧ True) ?_ ?_
    ·
     unfold r11_13
     refine R_mv t5 ?_
     refine R_mv (@rfl V (iV (lfE (((nth (t.nd) (k))))))) ?_
     exact R_nil ⟨rfl, h1, h4, trivial⟩
    intro T H ⟨t2, h1, h4, _⟩
    refine W_ret ?_
    refine y7 _ _ ?_
    refine p25 _ _ ?_
    refine y4 _ _ ?_
    refine Ret_1 t2 (fz_int ?_)
    · have e : fe (fun k => ndE (nth t.nd k) t.nd.length) 0 t.nd.length = ndE (nth t.nd k) t.nd.length := by rw [hc]; exact fe_hit (e := fun k => ndE (nth t.nd k) t.nd.length) d1 (by omega)
      rw [dvE, if_neg (by omega), if_neg (by omega), if_pos (by rw [e]; exact d1), e, e0]
   have d1 : ndE (nth t.nd k) t.nd.length = 0 := by rw [e0]; omega
   refine W_skip ?_
   refine n7 _ _ ?_
   refine .done ?_
   refine W_regc (fun T H => T 1 = (V.mp 1 1 0 0) ∧ T 18 = (V.sl (List.map cN (t.nd))) ∧ T 19 = (iV ((t.nd.length : Nat) : Int)) ∧ T 20 = (iV ((k + 1 : Nat) : Int)) ∧ H 1 = (bk 1 24 1 [[(V.sl (List.map cN (t.nd)))]]) ∧ H 4 = (bk (v4 + 1) 68 5 [(cN (((nth (t.nd) (k)))))]) ∧ True) ?_ ?_
   ·
    unfold r11_14
    refine R_addN (m := k) (n := 1) t20 (@rfl V (iV ((1 : Nat) : Int))) (by omega) ?_
    refine R_mv (@rfl V (iV ((k + 1 : Nat) : Int))) ?_
    exact R_nil ⟨t1, t18, t19, rfl, h1, h4, trivial⟩
   intro T H ⟨t1, t18, t19, t20, h1, h4, _⟩
   refine p15 _ _ _ ?_ ⟨(k + 1), (v4 + 1), rfl, t1, t18, t19, (Eq.trans t20 (by first | rfl | simp)), h1, (congrArg Blk.ver h4), ?_, ?_, ?_, ?_, ?_⟩
   · omega
   · omega
   · omega
   · omega
   · intro i hi
     by_cases e : i = k
     · subst e; exact d1
     · exact hp i (by omega)
   · rw [hc, fe_skip (e := fun k => ndE (nth t.nd k) t.nd.length) (by exact d1) (by omega)]
  have d0 : (nth t.nd k).lf = false := by simpa using c8
  have e0 : ndE (nth t.nd k) t.nd.length = inE2 (nth t.nd k) t.nd.length := by rw [ndE, if_neg (by simp [d0])]
  refine W_seq_regc (fun T H => T 1 = (V.mp 1 1 0 0) ∧ T 5 = (iV (inE2 (((nth (t.nd) (k)))) t.nd.length)) ∧ T 18 = (V.sl (List.map cN (t.nd))) ∧ T 19 = (iV ((t.nd.length : Nat) : Int)) ∧ T 20 = (iV ((k : Nat) : Int)) ∧ H 1 = (bk 1 24 1 [[(V.sl (List.map cN (t.nd)))]]) ∧ H 4 = (bk (v4 + 1) 68 5 [(cN (((nth (t.nd) (k)))))]) ∧ True) ?_ ?_
  ·
   unfold r11_11
   refine R_load_mp (v := (V.agg (cN (((nth (t.nd) (k))))))) t4 h4 (by first | rfl | simp [ldB, ldV, Blk.own, V.one]) ?_
   refine R_fld_mp (o' := 0) t1 h1 (by first | rfl | simp [okB, Blk.own]) rfl ?_
   refine R_load_mp (v := (V.sl (List.map cN (t.nd)))) (@rfl V (V.mp 1 1 0 0)) h1 (by first | rfl | simp [ldB, ldV, Blk.own, V.one]) ?_
   refine R_len (@rfl V (V.sl (List.map cN (t.nd)))) ?_
   refine R_callc (evcons (@rfl V (V.agg (cN (((nth (t.nd) (k))))))) (evcons (@rfl V (iV ((t.nd.length : Nat) : Int))) evnil)) (inner_pure (((nth (t.nd) (k)))) t.nd.length (by first | omega | assumption)) ?_
   refine R_mv (@rfl V (iV (inE2 (((nth (t.nd) (k)))) t.nd.length))) ?_
   exact R_nil ⟨t1, rfl, t18, t19, t20, h1, h4, trivial⟩
  intro T H ⟨t1, t5, t18, t19, t20, h1, h4, _⟩
  refine W_seq_regc (fun T H => T 1 = (V.mp 1 1 0 0) ∧ T 5 = (iV (inE2 (((nth (t.nd) (k)))) t.nd.length)) ∧ T 18 = (V.sl (List.map cN (t.nd))) ∧ T 19 = (iV ((t.nd.length : Nat) : Int)) ∧ T 20 = (iV ((k : Nat) : Int)) ∧ T 34 = (V.bool (decide ((inE2 (((nth (t.nd) (k)))) t.nd.length) ≠ (0 : Int)))) ∧ H 1 = (bk 1 24 1 [[(V.sl (List.map cN (t.nd)))]]) ∧ H 4 = (bk (v4 + 1) 68 5 [(cN (((nth (t.nd) (k)))))]) ∧ True) ?_ ?_
  ·
   unfold r11_12
   refine R_mv t5 ?_
   refine R_neq (x := (inE2 (((nth (t.nd) (k)))) t.nd.length)) (y := (0 : Int)) (@rfl V (iV (inE2 (((nth (t.nd) (k)))) t.nd.length))) (@rfl V (iV (0 : Int))) ?_
   exact R_nil ⟨t1, t5, t18, t19, t20, rfl, h1, h4, trivial⟩
  intro T H ⟨t1, t5, t18, t19, t20, t34, h1, h4, _⟩
  refine W_if (p := (inE2 (((nth (t.nd) (k)))) t.nd.length) ≠ (0 : Int)) t34 (fun c10 => ?_) (fun c10 => ?_)
  ·
   have d1 : ndE (nth t.nd k) t.nd.length ≠ 0 := by rw [e0]; exact c10
   refine W_seq_regc (fun T H => T 2 = (iV (inE2 (((nth (t.nd) (k)))) t.nd.length)) ∧ H 1 = (bk 1 24 1 [[(V.sl (List.map cN (t.nd)))]]) ∧ H 4 = (bk (v4 + 1) 68 5 [(cN (((nth (t.nd) (k)))))]) ∧ True) ?_ ?_
   ·
    unfold r11_13
    refine R_mv t5 ?_
    refine R_mv (@rfl V (iV (inE2 (((nth (t.nd) (k)))) t.nd.length))) ?_
    exact R_nil ⟨rfl, h1, h4, trivial⟩
   intro T H ⟨t2, h1, h4, _⟩
   refine W_ret ?_
   refine y7 _ _ ?_
   refine p25 _ _ ?_
   refine y4 _ _ ?_
   refine Ret_1 t2 (fz_int ?_)
   · have e : fe (fun k => ndE (nth t.nd k) t.nd.length) 0 t.nd.length = ndE (nth t.nd k) t.nd.length := by rw [hc]; exact fe_hit (e := fun k => ndE (nth t.nd k) t.nd.length) d1 (by omega)
     rw [dvE, if_neg (by omega), if_neg (by omega), if_pos (by rw [e]; exact d1), e, e0]
  have d1 : ndE (nth t.nd k) t.nd.length = 0 := by rw [e0]; omega
  refine W_skip ?_
  refine n7 _ _ ?_
  refine .done ?_
  refine W_regc (fun T H => T 1 = (V.mp 1 1 0 0) ∧ T 18 = (V.sl (List.map cN (t.nd))) ∧ T 19 = (iV ((t.nd.length : Nat) : Int)) ∧ T 20 = (iV ((k + 1 : Nat) : Int)) ∧ H 1 = (bk 1 24 1 [[(V.sl (List.map cN (t.nd)))]]) ∧ H 4 = (bk (v4 + 1) 68 5 [(cN (((nth (t.nd) (k)))))]) ∧ True) ?_ ?_
  ·
   unfold r11_14
   refine R_addN (m := k) (n := 1) t20 (@rfl V (iV ((1 : Nat) : Int))) (by omega) ?_
   refine R_mv (@rfl V (iV ((k + 1 : Nat) : Int))) ?_
   exact R_nil ⟨t1, t18, t19, rfl, h1, h4, trivial⟩
  intro T H ⟨t1, t18, t19, t20, h1, h4, _⟩
  refine p15 _ _ _ ?_ ⟨(k + 1), (v4 + 1), rfl, t1, t18, t19, (Eq.trans t20 (by first | rfl | simp)), h1, (congrArg Blk.ver h4), ?_, ?_, ?_, ?_, ?_⟩
  · omega
  · omega
  · omega
  · omega
  · intro i hi
    by_cases e : i = k
    · subst e; exact d1
    · exact hp i (by omega)
  · rw [hc, fe_skip (e := fun k => ndE (nth t.nd k) t.nd.length) (by exact d1) (by omega)]
 have hall : ∀ j, j < t.nd.length → ndE (nth t.nd j) t.nd.length = 0 := fun j hj => hp j (by omega)
 have hki : KI t := nds_ki g0 hall
 have hz : fe (fun k => ndE (nth t.nd k) t.nd.length) 0 t.nd.length = 0 := by rw [hc, fe_end (by omega)]
 have haw : ∀ w ∈ acL t.nd, w.length ≤ 1048576 := ac_len hb
 have hal := acL_len t.nd
 refine W_seq_exit ?_
 refine p35 _ _ _ ?_
 refine x4 _ _ ?_
 refine .done ?_
 refine W_seq_seq ?_
 refine W_seq_regc (fun T H => T 1 = (V.mp 1 1 0 0) ∧ T 39 = (V.bool ((!coB t))) ∧ H 1 = (bk 1 24 1 [[(V.sl (List.map cN (t.nd)))]]) ∧ (H 4).ver = v4 ∧ True) ?_ ?_
 ·
  unfold r11_15
  refine R_load_mp (v := (V.agg [(V.sl (List.map cN (t.nd)))])) t1 h1 (by first | rfl | simp [ldB, ldV, Blk.own, V.one]) ?_
  refine R_callc (evcons (@rfl V (V.agg [(V.sl (List.map cN (t.nd)))])) evnil) (connected_pure t hki hb) ?_
  refine R_notb (@rfl V (V.bool (coB t))) ?_
  exact R_nil ⟨t1, rfl, h1, h4, trivial⟩
 intro T H ⟨t1, t39, h1, h4, _⟩
 refine W_seq_ifb t39 (fun c11 => ?_) (fun c11 => ?_)
 ·
  have d3 : whB t = false := by rw [← co_wh hki]; simpa using c11
  refine W_seq_seq ?_
  refine W_seq_regc (fun T H => T 2 = (iV (1 : Int)) ∧ H 1 = (bk 1 24 1 [[(V.sl (List.map cN (t.nd)))]]) ∧ (H 4).ver = v4 ∧ True) ?_ ?_
  ·
   unfold r11_16
   refine R_mv (@rfl V (iV (1 : Int))) ?_
   exact R_nil ⟨rfl, h1, h4, trivial⟩
  intro T H ⟨t2, h1, h4, _⟩
  refine W_seq_ret ?_
  refine Ret_1 t2 (fz_int ?_)
  · rw [dvE, if_neg (by omega), if_neg (by omega), if_neg (by rw [hz]; simp), if_pos d3]
 have d3 : whB t = true := by rw [← co_wh hki]; simpa using c11
 refine W_seq_skip ?_
 refine W_seq_seq ?_
 refine W_seq_regc (fun T H => T 6 = (intss (acL t.nd)) ∧ H 1 = (bk 1 24 1 [[(V.sl (List.map cN (t.nd)))]]) ∧ (H 4).ver = v4 ∧ True) ?_ ?_
 ·
  unfold r11_17
  refine R_load_mp (v := (V.agg [(V.sl (List.map cN (t.nd)))])) t1 h1 (by first | rfl | simp [ldB, ldV, Blk.own, V.one]) ?_
  refine R_callc (evcons (@rfl V (V.agg [(V.sl (List.map cN (t.nd)))])) evnil) (access_pure t hb) ?_
  refine R_mv (@rfl V (intss (acL t.nd))) ?_
  exact R_nil ⟨rfl, h1, h4, trivial⟩
 intro T H ⟨t6, h1, h4, _⟩
 refine W_seq_seq ?_
 refine W_seq_regc (fun T H => T 47 = (V.bool (decide ((((sdW (acL t.nd)).length : Nat) : Int) ≠ (((acL t.nd).length : Nat) : Int)))) ∧ H 1 = (bk 1 24 1 [[(V.sl (List.map cN (t.nd)))]]) ∧ (H 4).ver = v4 ∧ True) ?_ ?_
 ·
  unfold r11_18
  refine R_mv t6 ?_
  refine R_callc (evcons (@rfl V (intss (acL t.nd))) evnil) (sorted_pure (acL t.nd) (by first | omega | assumption) haw) ?_
  refine R_len (@rfl V (intss (sdW (acL t.nd)))) ?_
  refine R_mv t6 ?_
  refine R_len (@rfl V (intss (acL t.nd))) ?_
  refine R_neq (x := (((sdW (acL t.nd)).length : Nat) : Int)) (y := (((acL t.nd).length : Nat) : Int)) (@rfl V (iV (((sdW (acL t.nd)).length : Nat) : Int))) (@rfl V (iV (((acL t.nd).length : Nat) : Int))) ?_
  exact R_nil ⟨rfl, h1, h4, trivial⟩
 intro T H ⟨t47, h1, h4, _⟩
 refine W_seq_if (p := (((sdW (acL t.nd)).length : Nat) : Int) ≠ (((acL t.nd).length : Nat) : Int)) t47 (fun c12 => ?_) (fun c12 => ?_)
 ·
  refine W_seq_seq ?_
  refine W_seq_regc (fun T H => T 2 = (iV (7 : Int)) ∧ H 1 = (bk 1 24 1 [[(V.sl (List.map cN (t.nd)))]]) ∧ (H 4).ver = v4 ∧ True) ?_ ?_
  ·
   unfold r11_19
   refine R_mv (@rfl V (iV (7 : Int))) ?_
   exact R_nil ⟨rfl, h1, h4, trivial⟩
  intro T H ⟨t2, h1, h4, _⟩
  refine W_seq_ret ?_
  refine Ret_1 t2 (fz_int ?_)
  · rw [dvE, if_neg (by omega), if_neg (by omega), if_neg (by rw [hz]; simp), if_neg (by simp [d3]), if_pos (by omega)]
 refine W_seq_skip ?_
 refine W_seq_regc (fun T H => T 2 = (iV (0 : Int)) ∧ H 1 = (bk 1 24 1 [[(V.sl (List.map cN (t.nd)))]]) ∧ (H 4).ver = v4 ∧ True) ?_ ?_
 ·
  unfold r11_20
  refine R_mv (@rfl V (iV (0 : Int))) ?_
  exact R_nil ⟨rfl, h1, h4, trivial⟩
 intro T H ⟨t2, h1, h4, _⟩
 refine W_ret ?_
 refine Ret_1 t2 (fz_int ?_)
 · rw [dvE, if_neg (by omega), if_neg (by omega), if_neg (by rw [hz]; simp), if_neg (by simp [d3]), if_neg (by omega)]
end Go.Proofs.YtmnjchcoigbngaaGreat


namespace Go.Proofs.YtmnjchcoigbngaaGreat
open Go Go.Proofs
theorem idxt_pure (p : Tr → Bool) (w : List Tr) (g : Nat) (caps : List V) (hca : canonL caps = true) (hpu : pureL caps = true) (hq : ∀ k, k < w.length → PureC Tryz.prog g (tV (nth w k) :: caps) (.bool (p (nth w k)))) : PureC Tryz.prog 84 [(V.sl (List.map cT (w))), (V.fn g [] caps)] (iV (fi (fun j => p (nth w j)) 0 w.length)) := by
 refine pure_of_Wb true 6 Tryz.func84 s84_ok (by kernel_rfl) (by simp [s84]) (by simp [hpu]) (by simp) fun hB => ?_
 simp only [bnd_map, bnd_int, bnd_bool, bnd_str, bnd_agg, bnd_pp, bnd_nil, bnd_cons, implies_true, and_true, true_and] at hB
 unfold s84
 dsimp only
 refine W_seq_regc (fun T H => T 0 = (V.sl (List.map cT (w))) ∧ T 1 = (V.fn g [] caps) ∧ True) ?_ ?_
 ·
  unfold r84_0
  refine R_mv (@rfl V (iV (0 : Int))) ?_
  exact R_nil ⟨rfl, rfl, trivial⟩
 intro T H ⟨t0, t1, _⟩
 refine W_seq_seq ?_
 refine W_seq_regc (fun T H => T 0 = (V.sl (List.map cT (w))) ∧ T 1 = (V.fn g [] caps) ∧ T 7 = (iV ((w.length : Nat) : Int)) ∧ T 8 = (iV (0 : Int)) ∧ True) ?_ ?_
 ·
  unfold r84_1
  refine R_mv t0 ?_
  refine R_len (@rfl V (V.sl (List.map cT (w)))) ?_
  refine R_mv (@rfl V (iV (0 : Int))) ?_
  exact R_nil ⟨t0, t1, rfl, rfl, trivial⟩
 intro T H ⟨t0, t1, t7, t8, _⟩
 refine W_seq_blockg fun Q1 n1 x1 y1 z1 => ?_
 refine W_loop (fun mm T H => ∃ (k : Nat), mm = w.length - k ∧ T 0 = (V.sl (List.map cT (w))) ∧ T 1 = (V.fn g [] caps) ∧ T 7 = (iV ((w.length : Nat) : Int)) ∧ T 8 = (iV ((k : Nat) : Int)) ∧ (k ≤ w.length) ∧ (fi (fun j => p (nth w j)) 0 w.length = fi (fun j => p (nth w j)) k (w.length - k))) ?_ ?_
 ·
  refine ⟨_, 0, rfl, t0, t1, t7, (Eq.trans t8 (by first | rfl | simp)), ?_, ?_⟩
  · omega
  · rfl
 intro mm T H ⟨k, hmm, t0, t1, t7, t8, hk, hc⟩ Q2 p12 p22 p32
 unfold b84_0
 refine W_seq_regc (fun T H => T 0 = (V.sl (List.map cT (w))) ∧ T 1 = (V.fn g [] caps) ∧ T 7 = (iV ((w.length : Nat) : Int)) ∧ T 8 = (iV ((k : Nat) : Int)) ∧ T 9 = (V.bool (decide (((k : Nat) : Int) < ((w.length : Nat) : Int)))) ∧ True) ?_ ?_
 ·
  unfold r84_2
  refine R_lss (x := ((k : Nat) : Int)) (y := ((w.length : Nat) : Int)) t8 t7 ?_
  exact R_nil ⟨t0, t1, t7, t8, rfl, trivial⟩
 intro T H ⟨t0, t1, t7, t8, t9, _⟩
 refine W_seq_if (p := ((k : Nat) : Int) < ((w.length : Nat) : Int)) t9 (fun c3 => ?_) (fun c3 => ?_)
 ·
  refine W_seq_skip ?_
  refine W_seq_blockg fun Q4 n4 x4 y4 z4 => ?_
  refine W_seq_regc (fun T H => T 0 = (V.sl (List.map cT (w))) ∧ T 1 = (V.fn g [] caps) ∧ T 5 = (iV ((k : Nat) : Int)) ∧ T 7 = (iV ((w.length : Nat) : Int)) ∧ T 8 = (iV ((k : Nat) : Int)) ∧ True) ?_ ?_
  ·
   unfold r84_3
   refine R_mv t8 ?_
   refine R_mv (@rfl V (iV ((k : Nat) : Int))) ?_
   exact R_nil ⟨t0, t1, rfl, t7, t8, trivial⟩
  intro T H ⟨t0, t1, t5, t7, t8, _⟩
  refine W_seq_regc (fun T H => T 0 = (V.sl (List.map cT (w))) ∧ T 1 = (V.fn g [] caps) ∧ T 5 = (iV ((k : Nat) : Int)) ∧ T 7 = (iV ((w.length : Nat) : Int)) ∧ T 8 = (iV ((k : Nat) : Int)) ∧ T 16 = (V.bool (p (nth w k))) ∧ True) ?_ ?_
  ·
   unfold r84_4
   refine R_mv t1 ?_
   refine R_mv t0 ?_
   refine R_mv t5 ?_
   refine R_idx (i := k) (@rfl V (V.sl (List.map cT (w)))) (@rfl V (iV ((k : Nat) : Int))) (by omega) rfl ?_
   refine R_load_pp (v := (V.agg [(ints ((nth (w) (k)).ni)), (ints ((nth (w) (k)).no))])) rfl (by first | rfl | simp [ldV]) ?_
   refine R_callv (@rfl V (V.fn g [] caps)) (evcons (@rfl V (V.agg [(ints ((nth (w) (k)).ni)), (ints ((nth (w) (k)).no))])) evnil) (hq k (by omega)) (fzv_mapcanon _ _ (by simp [hca])) (by simp [hpu]) (Or.inl (by simp [hpu])) ?_
   exact R_nil ⟨t0, t1, t5, t7, t8, rfl, trivial⟩
  intro T H ⟨t0, t1, t5, t7, t8, t16, _⟩
  refine W_ifb t16 (fun c5 => ?_) (fun c5 => ?_)
  ·
   have d1 := c5
   refine W_seq_regc (fun T H => T 4 = (iV ((k : Nat) : Int)) ∧ True) ?_ ?_
   ·
    unfold r84_5
    refine R_mv t5 ?_
    refine R_mv (@rfl V (iV ((k : Nat) : Int))) ?_
    exact R_nil ⟨rfl, trivial⟩
   intro T H ⟨t4, _⟩
   refine W_ret ?_
   refine y4 _ _ ?_
   refine p22 _ _ ?_
   refine y1 _ _ ?_
   refine Ret_1 t4 (fz_int ?_)
   · rw [hc, fi_hit (by exact d1) (by omega)]
  have d1 := c5
  refine W_skip ?_
  refine n4 _ _ ?_
  refine .done ?_
  refine W_regc (fun T H => T 0 = (V.sl (List.map cT (w))) ∧ T 1 = (V.fn g [] caps) ∧ T 7 = (iV ((w.length : Nat) : Int)) ∧ T 8 = (iV ((k + 1 : Nat) : Int)) ∧ True) ?_ ?_
  ·
   unfold r84_6
   refine R_addN (m := k) (n := 1) t8 (@rfl V (iV ((1 : Nat) : Int))) (by omega) ?_
   refine R_mv (@rfl V (iV ((k + 1 : Nat) : Int))) ?_
   exact R_nil ⟨t0, t1, t7, rfl, trivial⟩
  intro T H ⟨t0, t1, t7, t8, _⟩
  refine p12 _ _ _ ?_ ⟨(k + 1), rfl, t0, t1, t7, (Eq.trans t8 (by first | rfl | simp)), ?_, ?_⟩
  · omega
  · omega
  · rw [hc, fi_skip (by exact d1) (by omega)]
 refine W_seq_exit ?_
 refine p32 _ _ _ ?_
 refine x1 _ _ ?_
 refine .done ?_
 refine W_seq_regc (fun T H => T 4 = (iV (-1 : Int)) ∧ True) ?_ ?_
 ·
  unfold r84_7
  refine R_mv (@rfl V (iV (-1 : Int))) ?_
  exact R_nil ⟨rfl, trivial⟩
 intro T H ⟨t4, _⟩
 refine W_ret ?_
 refine Ret_1 t4 (fz_int ?_)
 · rw [hc, fi_end (by omega)]
end Go.Proofs.YtmnjchcoigbngaaGreat


namespace Go.Proofs.YtmnjchcoigbngaaGreat
open Go Go.Proofs
theorem common_pure (a b : List Int) : PureC Tryz.prog 71 [(ints a), (ints b)] (iV ((cmn a b : Nat) : Int)) := by
 refine pure_of_Wb true 6 Tryz.func71 s71_ok (by kernel_rfl) (by simp [s71]) (by simp) (by simp) fun hB => ?_
 simp only [bnd_map, bnd_int, bnd_bool, bnd_str, bnd_agg, bnd_pp, bnd_nil, bnd_cons, implies_true, and_true, true_and] at hB
 unfold s71
 dsimp only
 refine W_seq_regc (fun T H => T 0 = (ints a) ∧ T 1 = (ints b) ∧ True) ?_ ?_
 ·
  unfold r71_0
  refine R_mv (@rfl V (iV (0 : Int))) ?_
  exact R_nil ⟨rfl, rfl, trivial⟩
 intro T H ⟨t0, t1, _⟩
 refine W_seq_seq ?_
 refine W_seq_regc (fun T H => T 0 = (ints a) ∧ T 1 = (ints b) ∧ T 10 = (iV ((min a.length b.length : Nat) : Int)) ∧ T 11 = (iV (0 : Int)) ∧ True) ?_ ?_
 ·
  unfold r71_1
  refine R_mv t0 ?_
  refine R_len (@rfl V (ints a)) ?_
  refine R_mv t1 ?_
  refine R_len (@rfl V (ints b)) ?_
  refine R_mnN (m := a.length) (n := b.length) (@rfl V (iV ((a.length : Nat) : Int))) (@rfl V (iV ((b.length : Nat) : Int))) ?_
  refine R_mv (@rfl V (iV (0 : Int))) ?_
  exact R_nil ⟨t0, t1, rfl, rfl, trivial⟩
 intro T H ⟨t0, t1, t10, t11, _⟩
 refine W_seq_blockg fun Q1 n1 x1 y1 z1 => ?_
 refine W_loop (fun mm T H => ∃ (k : Nat), mm = (min a.length b.length) - k ∧ T 0 = (ints a) ∧ T 1 = (ints b) ∧ T 10 = (iV ((min a.length b.length : Nat) : Int)) ∧ T 11 = (iV ((k : Nat) : Int)) ∧ (k ≤ min a.length b.length) ∧ (k ≤ cmn a b)) ?_ ?_
 ·
  refine ⟨_, 0, rfl, t0, t1, t10, (Eq.trans t11 (by first | rfl | simp)), ?_, ?_⟩
  · omega
  · exact Nat.zero_le _
 intro mm T H ⟨k, hmm, t0, t1, t10, t11, hk, hc⟩ Q2 p12 p22 p32
 unfold b71_0
 refine W_seq_regc (fun T H => T 0 = (ints a) ∧ T 1 = (ints b) ∧ T 10 = (iV ((min a.length b.length : Nat) : Int)) ∧ T 11 = (iV ((k : Nat) : Int)) ∧ T 12 = (V.bool (decide (((k : Nat) : Int) < ((min a.length b.length : Nat) : Int)))) ∧ True) ?_ ?_
 ·
  unfold r71_2
  refine R_lss (x := ((k : Nat) : Int)) (y := ((min a.length b.length : Nat) : Int)) t11 t10 ?_
  exact R_nil ⟨t0, t1, t10, t11, rfl, trivial⟩
 intro T H ⟨t0, t1, t10, t11, t12, _⟩
 refine W_seq_if (p := ((k : Nat) : Int) < ((min a.length b.length : Nat) : Int)) t12 (fun c3 => ?_) (fun c3 => ?_)
 ·
  refine W_seq_skip ?_
  refine W_seq_blockg fun Q4 n4 x4 y4 z4 => ?_
  refine W_seq_regc (fun T H => T 0 = (ints a) ∧ T 1 = (ints b) ∧ T 5 = (iV ((k : Nat) : Int)) ∧ T 10 = (iV ((min a.length b.length : Nat) : Int)) ∧ T 11 = (iV ((k : Nat) : Int)) ∧ True) ?_ ?_
  ·
   unfold r71_3
   refine R_mv t11 ?_
   refine R_mv (@rfl V (iV ((k : Nat) : Int))) ?_
   exact R_nil ⟨t0, t1, rfl, t10, t11, trivial⟩
  intro T H ⟨t0, t1, t5, t10, t11, _⟩
  refine W_seq_regc (fun T H => T 0 = (ints a) ∧ T 1 = (ints b) ∧ T 5 = (iV ((k : Nat) : Int)) ∧ T 10 = (iV ((min a.length b.length : Nat) : Int)) ∧ T 11 = (iV ((k : Nat) : Int)) ∧ T 22 = (V.bool (decide (((nth (a) (k))) ≠ ((nth (b) (k)))))) ∧ True) ?_ ?_
  ·
   unfold r71_4
   refine R_mv t0 ?_
   refine R_mv t5 ?_
   refine R_idx (i := k) (@rfl V (ints a)) (@rfl V (iV ((k : Nat) : Int))) (by omega) rfl ?_
   refine R_load_pp (v := (iV ((nth (a) (k))))) rfl (by first | rfl | simp [ldV]) ?_
   refine R_mv t1 ?_
   refine R_mv t5 ?_
   refine R_idx (i := k) (@rfl V (ints b)) (@rfl V (iV ((k : Nat) : Int))) (by omega) rfl ?_
   refine R_load_pp (v := (iV ((nth (b) (k))))) rfl (by first | rfl | simp [ldV]) ?_
   refine R_neq (x := ((nth (a) (k)))) (y := ((nth (b) (k)))) (@rfl V (iV ((nth (a) (k))))) (@rfl V (iV ((nth (b) (k))))) ?_
   exact R_nil ⟨t0, t1, t5, t10, t11, rfl, trivial⟩
  intro T H ⟨t0, t1, t5, t10, t11, t22, _⟩
  refine W_if (p := ((nth (a) (k))) ≠ ((nth (b) (k)))) t22 (fun c5 => ?_) (fun c5 => ?_)
  ·
   refine W_seq_regc (fun T H => T 4 = (iV ((k : Nat) : Int)) ∧ True) ?_ ?_
   ·
    unfold r71_5
    refine R_mv t5 ?_
    refine R_mv (@rfl V (iV ((k : Nat) : Int))) ?_
    exact R_nil ⟨rfl, trivial⟩
   intro T H ⟨t4, _⟩
   refine W_ret ?_
   refine y4 _ _ ?_
   refine p22 _ _ ?_
   refine y1 _ _ ?_
   refine Ret_1 t4 (fz_int ?_)
   · rw [cmn_at hc (by omega)]
  refine W_skip ?_
  refine n4 _ _ ?_
  refine .done ?_
  refine W_regc (fun T H => T 0 = (ints a) ∧ T 1 = (ints b) ∧ T 10 = (iV ((min a.length b.length : Nat) : Int)) ∧ T 11 = (iV ((k + 1 : Nat) : Int)) ∧ True) ?_ ?_
  ·
   unfold r71_6
   refine R_addN (m := k) (n := 1) t11 (@rfl V (iV ((1 : Nat) : Int))) (by omega) ?_
   refine R_mv (@rfl V (iV ((k + 1 : Nat) : Int))) ?_
   exact R_nil ⟨t0, t1, t10, rfl, trivial⟩
  intro T H ⟨t0, t1, t10, t11, _⟩
  refine p12 _ _ _ ?_ ⟨(k + 1), rfl, t0, t1, t10, (Eq.trans t11 (by first | rfl | simp)), ?_, ?_⟩
  · omega
  · omega
  · exact cmn_next hc (by omega) (by omega) (by omega)
 refine W_seq_exit ?_
 refine p32 _ _ _ ?_
 refine x1 _ _ ?_
 refine .done ?_
 refine W_seq_regc (fun T H => T 4 = (iV ((min a.length b.length : Nat) : Int)) ∧ True) ?_ ?_
 ·
  unfold r71_7
  refine R_mv t0 ?_
  refine R_len (@rfl V (ints a)) ?_
  refine R_mv t1 ?_
  refine R_len (@rfl V (ints b)) ?_
  refine R_mnN (m := a.length) (n := b.length) (@rfl V (iV ((a.length : Nat) : Int))) (@rfl V (iV ((b.length : Nat) : Int))) ?_
  refine R_mv (@rfl V (iV ((min a.length b.length : Nat) : Int))) ?_
  exact R_nil ⟨rfl, trivial⟩
 intro T H ⟨t4, _⟩
 refine W_ret ?_
 refine Ret_1 t4 (fz_int ?_)
 · rw [cmn_at hc (by omega)]; omega
end Go.Proofs.YtmnjchcoigbngaaGreat


namespace Go.Proofs.YtmnjchcoigbngaaGreat
open Go Go.Proofs
theorem hp_pure (w p : List Int) : PureC Tryz.prog 86 [(ints w), (ints p)] (V.bool (hp w p)) := by
 refine pure_of_Wb true 6 Tryz.func86 s86_ok (by kernel_rfl) (by simp [s86]) (by simp) (by simp) fun hB => ?_
 simp only [bnd_map, bnd_int, bnd_bool, bnd_str, bnd_agg, bnd_pp, bnd_nil, bnd_cons, implies_true, and_true, true_and] at hB
 unfold s86
 dsimp only
 refine W_seq_regc (fun T H => T 0 = (ints w) ∧ T 1 = (ints p) ∧ True) ?_ ?_
 ·
  unfold r86_0
  refine R_mv (@rfl V (V.bool false)) ?_
  exact R_nil ⟨rfl, rfl, trivial⟩
 intro T H ⟨t0, t1, _⟩
 refine W_seq_regc (fun T H => T 4 = (V.bool (decide (((cmn w p : Nat) : Int) = ((p.length : Nat) : Int)))) ∧ True) ?_ ?_
 ·
  unfold r86_1
  refine R_mv t0 ?_
  refine R_mv t1 ?_
  have q1 := cmn_l w p
  have q2 := cmn_r w p
  refine R_callc (evcons (@rfl V (ints w)) (evcons (@rfl V (ints p)) evnil)) (common_pure w p) ?_
  refine R_mv t1 ?_
  refine R_len (@rfl V (ints p)) ?_
  refine R_eql (x := ((cmn w p : Nat) : Int)) (y := ((p.length : Nat) : Int)) (@rfl V (iV ((cmn w p : Nat) : Int))) (@rfl V (iV ((p.length : Nat) : Int))) ?_
  refine R_mv (@rfl V (V.bool (decide (((cmn w p : Nat) : Int) = ((p.length : Nat) : Int))))) ?_
  exact R_nil ⟨rfl, trivial⟩
 intro T H ⟨t4, _⟩
 have q3 := cmn_l w p
 have q4 := cmn_r w p
 refine W_ret ?_
 refine Ret_1 t4 (fz_bool ?_)
 · unfold hp; exact decide_eq_decide.2 (by omega)
end Go.Proofs.YtmnjchcoigbngaaGreat


namespace Go.Proofs.YtmnjchcoigbngaaGreat
open Go Go.Proofs
theorem answer1_pure (t : Tr) (w : List Int) : PureC Tryz.prog 85 [(V.agg [(ints t.ni), (ints t.no)]), (V.pp [(ints w)])] (V.bool (hp t.ni w)) := by
 refine pure_of_Wb true 6 Tryz.func85 s85_ok (by kernel_rfl) (by simp [s85]) (by simp) (by simp) fun hB => ?_
 simp only [bnd_map, bnd_int, bnd_bool, bnd_str, bnd_agg, bnd_pp, bnd_nil, bnd_cons, implies_true, and_true, true_and] at hB
 unfold s85
 dsimp only
 refine W_seq_regc (fun T H => T 1 = (V.pp [(ints w)]) ∧ T 2 = (V.mp 2 1 0 0) ∧ H 2 = (bk 1 70 2 [[(ints t.ni), (ints t.no)]]) ∧ True) ?_ ?_
 ·
  unfold r85_0
  refine R_box (i := 2) (n := 0) (m := 2) (cs := [(ints t.ni), (ints t.no)]) rfl (congrArg Blk.ver rfl) (@rfl V (V.agg [(ints t.ni), (ints t.no)])) rfl rfl ?_
  refine R_mv (@rfl V (V.bool false)) ?_
  exact R_nil ⟨rfl, rfl, rfl, trivial⟩
 intro T H ⟨t1, t2, h2, _⟩
 refine W_seq_regc (fun T H => T 3 = (V.bool (hp t.ni w)) ∧ H 2 = (bk 1 70 2 [[(ints t.ni), (ints t.no)]]) ∧ True) ?_ ?_
 ·
  unfold r85_1
  refine R_fld_mp (o' := 0) t2 h2 (by first | rfl | simp [okB, Blk.own]) rfl ?_
  refine R_load_mp (v := (ints t.ni)) (@rfl V (V.mp 2 1 0 0)) h2 (by first | rfl | simp [ldB, ldV, Blk.own, V.one]) ?_
  refine R_load_pp (v := (ints w)) t1 (by first | rfl | simp [ldV]) ?_
  refine R_callc (evcons (@rfl V (ints t.ni)) (evcons (@rfl V (ints w)) evnil)) (hp_pure t.ni w) ?_
  refine R_mv (@rfl V (V.bool (hp t.ni w))) ?_
  exact R_nil ⟨rfl, h2, trivial⟩
 intro T H ⟨t3, h2, _⟩
 refine W_ret ?_
 refine Ret_1 t3 (fz_canon (by simp) rfl)
end Go.Proofs.YtmnjchcoigbngaaGreat


namespace Go.Proofs.YtmnjchcoigbngaaGreat
open Go Go.Proofs
theorem answer_pure (o : Ob) (w : List Int) (ho : oval o = 0) : PureC Tryz.prog 50 [(V.agg [(iV (o.i)), (V.sl (List.map cT (o.tr)))]), (ints w)] (V.tup [(ints ((ans o w).getD [])), (V.bool ((ans o w).isSome))]) := by
 refine pure_of_Wb true 6 Tryz.func50 s50_ok (by kernel_rfl) (by simp [s50]) (by simp) (by simp) fun hB => ?_
 simp only [bnd_map, bnd_int, bnd_bool, bnd_str, bnd_agg, bnd_pp, bnd_nil, bnd_cons, implies_true, and_true, true_and] at hB
 unfold s50
 dsimp only
 have u2 := oval_ok ho
 refine W_seq_regc (fun T H => T 2 = (V.mp 2 1 0 0) ∧ T 3 = (V.mp 3 1 0 0) ∧ H 2 = (bk 1 37 2 [[(iV (o.i)), (V.sl (List.map cT (o.tr)))]]) ∧ H 3 = (bk 1 38 1 [[(ints w)]]) ∧ True) ?_ ?_
 ·
  unfold r50_0
  refine R_box (i := 2) (n := 0) (m := 2) (cs := [(iV (o.i)), (V.sl (List.map cT (o.tr)))]) rfl (congrArg Blk.ver rfl) (@rfl V (V.agg [(iV (o.i)), (V.sl (List.map cT (o.tr)))])) rfl rfl ?_
  refine R_box (i := 3) (n := 0) (m := 1) (cs := [(ints w)]) rfl (congrArg Blk.ver rfl) (@rfl V (ints w)) rfl rfl ?_
  refine R_mv (@rfl V V.nilsl) ?_
  refine R_mv (@rfl V (V.bool false)) ?_
  exact R_nil ⟨rfl, rfl, rfl, rfl, trivial⟩
 intro T H ⟨t2, t3, h2, h3, _⟩
 refine W_seq_seq ?_
 refine W_seq_regc (fun T H => T 2 = (V.mp 2 1 0 0) ∧ T 3 = (V.mp 3 1 0 0) ∧ T 10 = (V.bool (decide (((w.length : Nat) : Int) = (0 : Int)))) ∧ H 2 = (bk 1 37 2 [[(iV (o.i)), (V.sl (List.map cT (o.tr)))]]) ∧ H 3 = (bk 1 38 1 [[(ints w)]]) ∧ True) ?_ ?_
 ·
  unfold r50_1
  refine R_load_mp (v := (ints w)) t3 h3 (by first | rfl | simp [ldB, ldV, Blk.own, V.one]) ?_
  refine R_len (@rfl V (ints w)) ?_
  refine R_eql (x := ((w.length : Nat) : Int)) (y := (0 : Int)) (@rfl V (iV ((w.length : Nat) : Int))) (@rfl V (iV (0 : Int))) ?_
  exact R_nil ⟨t2, t3, rfl, h2, h3, trivial⟩
 intro T H ⟨t2, t3, t10, h2, h3, _⟩
 refine W_seq_if (p := ((w.length : Nat) : Int) = (0 : Int)) t10 (fun c1 => ?_) (fun c1 => ?_)
 ·
  refine W_seq_seq ?_
  refine W_seq_regc (fun T H => T 4 = V.nilsl ∧ T 5 = (V.bool true) ∧ H 2 = (bk 1 37 2 [[(iV (o.i)), (V.sl (List.map cT (o.tr)))]]) ∧ H 3 = (bk 1 38 1 [[(ints w)]]) ∧ True) ?_ ?_
  ·
   unfold r50_2
   refine R_mv (@rfl V V.nilsl) ?_
   refine R_mv (@rfl V (V.bool true)) ?_
   exact R_nil ⟨rfl, rfl, h2, h3, trivial⟩
  intro T H ⟨t4, t5, h2, h3, _⟩
  refine W_seq_ret ?_
  refine Ret_2 t4 t5 (fz_nil ?_) (fz_bool ?_)
  · rw [List.length_eq_zero_iff.1 (show w.length = 0 by omega)]; rfl
  · rw [List.length_eq_zero_iff.1 (show w.length = 0 by omega)]; rfl
 have hw : w ≠ [] := by intro e; subst e; simp at *
 refine W_seq_skip ?_
 refine W_seq_regc (fun T H => T 2 = (V.mp 2 1 0 0) ∧ T 3 = (V.mp 3 1 0 0) ∧ T 6 = (iV (fi (fun j => (fun t : Tr => hp t.ni w) (nth o.tr j)) 0 o.tr.length)) ∧ H 2 = (bk 1 37 2 [[(iV (o.i)), (V.sl (List.map cT (o.tr)))]]) ∧ H 3 = (bk 1 38 1 [[(ints w)]]) ∧ True) ?_ ?_
 ·
  unfold r50_3
  refine R_fld_mp (o' := 1) t2 h2 (by first | rfl | simp [okB, Blk.own]) rfl ?_
  refine R_load_mp (v := (V.sl (List.map cT (o.tr)))) (@rfl V (V.mp 2 1 0 1)) h2 (by first | rfl | simp [ldB, ldV, Blk.own, V.one]) ?_
  refine R_mkf (evcons t3 evnil) ?_
  refine R_call (evcons (@rfl V (V.sl (List.map cT (o.tr)))) (evcons (@rfl V (V.fn 85 [] [(V.mp 3 1 0 0)])) evnil)) (idxt_pure (fun t : Tr => hp t.ni w) o.tr 85 ([(V.pp [(ints w)])]) (by simp) (by simp) (fun j _ => answer1_pure (nth o.tr j) w)) (mcons (fzv_canon 6 _ (by simp [-List.map_take, -List.map_drop, -List.map_append, -List.map_reverse])) (mcons (by simp [fzv, Blk.own, h2, h3]) rfl)) (by simp [-List.map_take, -List.map_drop, -List.map_append, -List.map_reverse]) (Or.inr rfl) ?_
  refine R_mv (@rfl V (iV (fi (fun j => (fun t : Tr => hp t.ni w) (nth o.tr j)) 0 o.tr.length))) ?_
  exact R_nil ⟨t2, t3, rfl, h2, h3, trivial⟩
 intro T H ⟨t2, t3, t6, h2, h3, _⟩
 refine W_seq_seq ?_
 refine W_seq_regc (fun T H => T 2 = (V.mp 2 1 0 0) ∧ T 3 = (V.mp 3 1 0 0) ∧ T 6 = (iV (fi (fun j => (fun t : Tr => hp t.ni w) (nth o.tr j)) 0 o.tr.length)) ∧ T 16 = (V.bool (decide ((fi (fun j => (fun t : Tr => hp t.ni w) (nth o.tr j)) 0 o.tr.length) < (0 : Int)))) ∧ H 2 = (bk 1 37 2 [[(iV (o.i)), (V.sl (List.map cT (o.tr)))]]) ∧ H 3 = (bk 1 38 1 [[(ints w)]]) ∧ True) ?_ ?_
 ·
  unfold r50_4
  refine R_mv t6 ?_
  refine R_lss (x := (fi (fun j => (fun t : Tr => hp t.ni w) (nth o.tr j)) 0 o.tr.length)) (y := (0 : Int)) (@rfl V (iV (fi (fun j => (fun t : Tr => hp t.ni w) (nth o.tr j)) 0 o.tr.length))) (@rfl V (iV (0 : Int))) ?_
  exact R_nil ⟨t2, t3, t6, rfl, h2, h3, trivial⟩
 intro T H ⟨t2, t3, t6, t16, h2, h3, _⟩
 refine W_seq_if (p := (fi (fun j => (fun t : Tr => hp t.ni w) (nth o.tr j)) 0 o.tr.length) < (0 : Int)) t16 (fun c2 => ?_) (fun c2 => ?_)
 ·
  have d1 : ansL o.tr w = none := ansL_miss (l := o.tr) (w := w) c2
  refine W_seq_seq ?_
  refine W_seq_regc (fun T H => T 4 = V.nilsl ∧ T 5 = (V.bool false) ∧ H 2 = (bk 1 37 2 [[(iV (o.i)), (V.sl (List.map cT (o.tr)))]]) ∧ H 3 = (bk 1 38 1 [[(ints w)]]) ∧ True) ?_ ?_
  ·
   unfold r50_5
   refine R_mv (@rfl V V.nilsl) ?_
   refine R_mv (@rfl V (V.bool false)) ?_
   exact R_nil ⟨rfl, rfl, h2, h3, trivial⟩
  intro T H ⟨t4, t5, h2, h3, _⟩
  refine W_seq_ret ?_
  refine Ret_2 t4 t5 (fz_nil ?_) (fz_bool ?_)
  · rw [ans, if_neg hw, d1]; rfl
  · rw [ans, if_neg hw, d1]; rfl
 have d1 := ansL_hit (l := o.tr) (w := w) (by omega)
 have d2 := (u2.pr _ d1.1).1.len
 have d3 := (u2.pr _ d1.1).1.lel
 have d4 := hp_len d1.2.1
 refine W_seq_skip ?_
 refine W_seq_regc (fun T H => T 3 = (V.mp 3 1 0 0) ∧ T 7 = (ints ((nth (o.tr) (fi (fun j => (fun t : Tr => hp t.ni w) (nth o.tr j)) 0 o.tr.length).toNat).no)) ∧ H 2 = (bk 1 37 2 [[(iV (o.i)), (V.sl (List.map cT (o.tr)))]]) ∧ H 3 = (bk 1 38 1 [[(ints w)]]) ∧ True) ?_ ?_
 ·
  unfold r50_6
  refine R_fld_mp (o' := 1) t2 h2 (by first | rfl | simp [okB, Blk.own]) rfl ?_
  refine R_load_mp (v := (V.sl (List.map cT (o.tr)))) (@rfl V (V.mp 2 1 0 1)) h2 (by first | rfl | simp [ldB, ldV, Blk.own, V.one]) ?_
  refine R_mv t6 ?_
  refine R_idxI (i := (fi (fun j => (fun t : Tr => hp t.ni w) (nth o.tr j)) 0 o.tr.length)) (@rfl V (V.sl (List.map cT (o.tr)))) (@rfl V (iV (fi (fun j => (fun t : Tr => hp t.ni w) (nth o.tr j)) 0 o.tr.length))) (by omega) (by omega) rfl ?_
  refine R_fld_pp (cs' := [(ints ((nth (o.tr) (fi (fun j => (fun t : Tr => hp t.ni w) (nth o.tr j)) 0 o.tr.length).toNat).no))]) rfl rfl ?_
  refine R_load_pp (v := (ints ((nth (o.tr) (fi (fun j => (fun t : Tr => hp t.ni w) (nth o.tr j)) 0 o.tr.length).toNat).no))) rfl (by first | rfl | simp [ldV]) ?_
  refine R_mv (@rfl V (ints ((nth (o.tr) (fi (fun j => (fun t : Tr => hp t.ni w) (nth o.tr j)) 0 o.tr.length).toNat).no))) ?_
  exact R_nil ⟨t3, rfl, h2, h3, trivial⟩
 intro T H ⟨t3, t7, h2, h3, _⟩
 refine W_seq_regc (fun T H => T 4 = (ints ((List.take (min w.length (((nth (o.tr) (fi (fun j => (fun t : Tr => hp t.ni w) (nth o.tr j)) 0 o.tr.length).toNat).no).length)) ((nth (o.tr) (fi (fun j => (fun t : Tr => hp t.ni w) (nth o.tr j)) 0 o.tr.length).toNat).no)))) ∧ T 5 = (V.bool true) ∧ H 2 = (bk 1 37 2 [[(iV (o.i)), (V.sl (List.map cT (o.tr)))]]) ∧ H 3 = (bk 1 38 1 [[(ints w)]]) ∧ True) ?_ ?_
 ·
  unfold r50_7
  refine R_mv t7 ?_
  refine R_load_mp (v := (ints w)) t3 h3 (by first | rfl | simp [ldB, ldV, Blk.own, V.one]) ?_
  refine R_len (@rfl V (ints w)) ?_
  refine R_mv t7 ?_
  refine R_len (@rfl V (ints ((nth (o.tr) (fi (fun j => (fun t : Tr => hp t.ni w) (nth o.tr j)) 0 o.tr.length).toNat).no))) ?_
  refine R_mnN (m := w.length) (n := (((nth (o.tr) (fi (fun j => (fun t : Tr => hp t.ni w) (nth o.tr j)) 0 o.tr.length).toNat).no).length)) (@rfl V (iV ((w.length : Nat) : Int))) (@rfl V (iV ((((nth (o.tr) (fi (fun j => (fun t : Tr => hp t.ni w) (nth o.tr j)) 0 o.tr.length).toNat).no).length : Nat) : Int))) ?_
  refine R_slice_hi (n := (min w.length (((nth (o.tr) (fi (fun j => (fun t : Tr => hp t.ni w) (nth o.tr j)) 0 o.tr.length).toNat).no).length))) (@rfl V (ints ((nth (o.tr) (fi (fun j => (fun t : Tr => hp t.ni w) (nth o.tr j)) 0 o.tr.length).toNat).no))) (@rfl V (iV ((min w.length (((nth (o.tr) (fi (fun j => (fun t : Tr => hp t.ni w) (nth o.tr j)) 0 o.tr.length).toNat).no).length) : Nat) : Int))) (by omega) (fun _ => rfl) ?_
  refine R_callc (evcons (@rfl V (ints (List.take (min w.length (((nth (o.tr) (fi (fun j => (fun t : Tr => hp t.ni w) (nth o.tr j)) 0 o.tr.length).toNat).no).length)) ((nth (o.tr) (fi (fun j => (fun t : Tr => hp t.ni w) (nth o.tr j)) 0 o.tr.length).toNat).no)))) evnil) (clone_pure (List.take (min w.length (((nth (o.tr) (fi (fun j => (fun t : Tr => hp t.ni w) (nth o.tr j)) 0 o.tr.length).toNat).no).length)) ((nth (o.tr) (fi (fun j => (fun t : Tr => hp t.ni w) (nth o.tr j)) 0 o.tr.length).toNat).no)) (by simp; omega)) ?_
  refine R_mv (@rfl V (ints ((List.take (min w.length (((nth (o.tr) (fi (fun j => (fun t : Tr => hp t.ni w) (nth o.tr j)) 0 o.tr.length).toNat).no).length)) ((nth (o.tr) (fi (fun j => (fun t : Tr => hp t.ni w) (nth o.tr j)) 0 o.tr.length).toNat).no))))) ?_
  refine R_mv (@rfl V (V.bool true)) ?_
  exact R_nil ⟨rfl, rfl, h2, h3, trivial⟩
 intro T H ⟨t4, t5, h2, h3, _⟩
 refine W_ret ?_
 refine Ret_2 t4 t5 (fz_sl ?_ (fun _ => by simp)) (fz_bool ?_)
 · rw [ans, if_neg hw, d1.2.2, Nat.min_eq_left (by omega)]; rfl
 · rw [ans, if_neg hw, d1.2.2]; rfl
end Go.Proofs.YtmnjchcoigbngaaGreat


namespace Go.Proofs.YtmnjchcoigbngaaGreat
open Go Go.Proofs
theorem bsw_pure (l : List (List Int)) (t : List Int) (hs : SrtL l) (hl : l.length ≤ 1048576) : PureC Tryz.prog 88 [(intss l), (ints t), (V.fn 66 [] [])] (V.tup [(iV ((lxN l t : Nat) : Int)), (V.bool (decide (lxH l t)))]) := by
 refine pure_of_Wb true 6 Tryz.func88 s88_ok (by kernel_rfl) (by simp [s88]) (by simp) (by simp) fun hB => ?_
 simp only [bnd_map, bnd_int, bnd_bool, bnd_str, bnd_agg, bnd_pp, bnd_nil, bnd_cons, implies_true, and_true, true_and] at hB
 unfold s88
 dsimp only
 have q0 := lx_le (w := t) l
 refine W_seq_regc (fun T H => T 0 = (intss l) ∧ T 1 = (ints t) ∧ T 2 = (V.fn 66 [] []) ∧ True) ?_ ?_
 ·
  unfold r88_0
  refine R_mv (@rfl V (iV (0 : Int))) ?_
  refine R_mv (@rfl V (V.bool false)) ?_
  exact R_nil ⟨rfl, rfl, rfl, trivial⟩
 intro T H ⟨t0, t1, t2, _⟩
 refine W_seq_regc (fun T H => T 0 = (intss l) ∧ T 1 = (ints t) ∧ T 2 = (V.fn 66 [] []) ∧ T 8 = (iV ((l.length : Nat) : Int)) ∧ True) ?_ ?_
 ·
  unfold r88_1
  refine R_mv t0 ?_
  refine R_len (@rfl V (intss l)) ?_
  refine R_mv (@rfl V (iV ((l.length : Nat) : Int))) ?_
  exact R_nil ⟨t0, t1, t2, rfl, trivial⟩
 intro T H ⟨t0, t1, t2, t8, _⟩
 refine W_seq_regc (fun T H => T 0 = (intss l) ∧ T 1 = (ints t) ∧ T 2 = (V.fn 66 [] []) ∧ T 8 = (iV ((l.length : Nat) : Int)) ∧ T 9 = (iV (0 : Int)) ∧ T 10 = (iV ((l.length : Nat) : Int)) ∧ True) ?_ ?_
 ·
  unfold r88_2
  refine R_mv t8 ?_
  refine R_mv (@rfl V (iV (0 : Int))) ?_
  refine R_mv (@rfl V (iV ((l.length : Nat) : Int))) ?_
  exact R_nil ⟨t0, t1, t2, t8, rfl, rfl, trivial⟩
 intro T H ⟨t0, t1, t2, t8, t9, t10, _⟩
 refine W_seq_blockg fun Q1 n1 x1 y1 z1 => ?_
 refine W_loop (fun mm T H => ∃ (i : Nat) (j : Nat), mm = j - i ∧ T 0 = (intss l) ∧ T 1 = (ints t) ∧ T 2 = (V.fn 66 [] []) ∧ T 8 = (iV ((l.length : Nat) : Int)) ∧ T 9 = (iV ((i : Nat) : Int)) ∧ T 10 = (iV ((j : Nat) : Int)) ∧ (i ≤ lxN l t) ∧ (lxN l t ≤ j) ∧ (j ≤ l.length)) ?_ ?_
 ·
  refine ⟨_, 0, l.length, rfl, t0, t1, t2, t8, (Eq.trans t9 (by first | rfl | simp)), t10, ?_, ?_, ?_⟩
  · omega
  · omega
  · omega
 intro mm T H ⟨i, j, hmm, t0, t1, t2, t8, t9, t10, h1, h2, h3⟩ Q2 p12 p22 p32
 unfold b88_0
 refine W_seq_seq ?_
 refine W_seq_regc (fun T H => T 0 = (intss l) ∧ T 1 = (ints t) ∧ T 2 = (V.fn 66 [] []) ∧ T 8 = (iV ((l.length : Nat) : Int)) ∧ T 9 = (iV ((i : Nat) : Int)) ∧ T 10 = (iV ((j : Nat) : Int)) ∧ T 17 = (V.bool (decide (((i : Nat) : Int) < ((j : Nat) : Int)))) ∧ True) ?_ ?_
 ·
  unfold r88_3
  refine R_mv t9 ?_
  refine R_mv t10 ?_
  refine R_lss (x := ((i : Nat) : Int)) (y := ((j : Nat) : Int)) (@rfl V (iV ((i : Nat) : Int))) (@rfl V (iV ((j : Nat) : Int))) ?_
  exact R_nil ⟨t0, t1, t2, t8, t9, t10, rfl, trivial⟩
 intro T H ⟨t0, t1, t2, t8, t9, t10, t17, _⟩
 refine W_seq_if (p := ((i : Nat) : Int) < ((j : Nat) : Int)) t17 (fun c3 => ?_) (fun c3 => ?_)
 ·
  refine W_seq_skip ?_
  refine W_block fun Q4 n4 x4 y4 z4 => ?_
  refine W_seq_regc (fun T H => T 0 = (intss l) ∧ T 1 = (ints t) ∧ T 2 = (V.fn 66 [] []) ∧ T 8 = (iV ((l.length : Nat) : Int)) ∧ T 9 = (iV ((i : Nat) : Int)) ∧ T 10 = (iV ((j : Nat) : Int)) ∧ T 11 = (iV (((i + j) / 2 : Nat) : Int)) ∧ True) ?_ ?_
  ·
   unfold r88_4
   refine R_mv t9 ?_
   refine R_mv t10 ?_
   refine R_addN (m := i) (n := j) (@rfl V (iV ((i : Nat) : Int))) (@rfl V (iV ((j : Nat) : Int))) (by omega) ?_
   refine R_convU (n := (i + j)) (@rfl V (iV ((i + j : Nat) : Int))) (by omega) ?_
   refine R_shr1 (n := (i + j)) (@rfl V (V.int .u64 (((i + j : Nat) : Int)))) (@rfl V (V.int .u64 (1))) ?_
   refine R_convI (n := ((i + j) / 2)) (@rfl V (V.int .u64 ((((i + j) / 2 : Nat) : Int)))) (by omega) ?_
   refine R_mv (@rfl V (iV (((i + j) / 2 : Nat) : Int))) ?_
   exact R_nil ⟨t0, t1, t2, t8, t9, t10, rfl, trivial⟩
  intro T H ⟨t0, t1, t2, t8, t9, t10, t11, _⟩
  refine W_seq_regc (fun T H => T 0 = (intss l) ∧ T 1 = (ints t) ∧ T 2 = (V.fn 66 [] []) ∧ T 8 = (iV ((l.length : Nat) : Int)) ∧ T 9 = (iV ((i : Nat) : Int)) ∧ T 10 = (iV ((j : Nat) : Int)) ∧ T 11 = (iV (((i + j) / 2 : Nat) : Int)) ∧ T 31 = (V.bool (decide ((lexI ((nth (l) ((i + j) / 2))) t) < (0 : Int)))) ∧ True) ?_ ?_
  ·
   unfold r88_5
   refine R_mv t2 ?_
   refine R_mv t0 ?_
   refine R_mv t11 ?_
   refine R_idx (i := ((i + j) / 2)) (@rfl V (intss l)) (@rfl V (iV (((i + j) / 2 : Nat) : Int))) (by omega) rfl ?_
   refine R_load_pp (v := (ints ((nth (l) ((i + j) / 2))))) rfl (by first | rfl | simp [ldV]) ?_
   refine R_mv t1 ?_
   refine R_callv (@rfl V (V.fn 66 [] [])) (evcons (@rfl V (ints ((nth (l) ((i + j) / 2))))) (evcons (@rfl V (ints t)) evnil)) (lex_pure ((nth (l) ((i + j) / 2))) t) (fzv_mapcanon _ _ (by simp [-List.map_take, -List.map_drop, -List.map_append, -List.map_reverse])) (by simp [-List.map_take, -List.map_drop, -List.map_append, -List.map_reverse]) (Or.inl (by simp [-List.map_take, -List.map_drop, -List.map_append, -List.map_reverse])) ?_
   refine R_lss (x := (lexI ((nth (l) ((i + j) / 2))) t)) (y := (0 : Int)) (@rfl V (iV (lexI ((nth (l) ((i + j) / 2))) t))) (@rfl V (iV (0 : Int))) ?_
   exact R_nil ⟨t0, t1, t2, t8, t9, t10, t11, rfl, trivial⟩
  intro T H ⟨t0, t1, t2, t8, t9, t10, t11, t31, _⟩
  refine W_if (p := (lexI ((nth (l) ((i + j) / 2))) t) < (0 : Int)) t31 (fun c5 => ?_) (fun c5 => ?_)
  ·
   have d1 := (lx_iff hs (by omega)).1 c5
   refine W_regc (fun T H => T 0 = (intss l) ∧ T 1 = (ints t) ∧ T 2 = (V.fn 66 [] []) ∧ T 8 = (iV ((l.length : Nat) : Int)) ∧ T 9 = (iV ((((i + j) / 2) + 1 : Nat) : Int)) ∧ T 10 = (iV ((j : Nat) : Int)) ∧ True) ?_ ?_
   ·
    unfold r88_6
    refine R_mv t11 ?_
    refine R_addN (m := ((i + j) / 2)) (n := 1) (@rfl V (iV (((i + j) / 2 : Nat) : Int))) (@rfl V (iV ((1 : Nat) : Int))) (by omega) ?_
    refine R_mv (@rfl V (iV ((((i + j) / 2) + 1 : Nat) : Int))) ?_
    exact R_nil ⟨t0, t1, t2, t8, rfl, t10, trivial⟩
   intro T H ⟨t0, t1, t2, t8, t9, t10, _⟩
   refine n4 _ _ ?_
   refine p12 _ _ _ ?_ ⟨(((i + j) / 2) + 1), j, rfl, t0, t1, t2, t8, (Eq.trans t9 (by first | rfl | simp)), t10, ?_, ?_, ?_⟩
   · omega
   · omega
   · omega
   · omega
  have d1 : ¬((i + j) / 2 < lxN l t) := fun e => c5 ((lx_iff hs (by omega)).2 e)
  refine W_regc (fun T H => T 0 = (intss l) ∧ T 1 = (ints t) ∧ T 2 = (V.fn 66 [] []) ∧ T 8 = (iV ((l.length : Nat) : Int)) ∧ T 9 = (iV ((i : Nat) : Int)) ∧ T 10 = (iV (((i + j) / 2 : Nat) : Int)) ∧ True) ?_ ?_
  ·
   unfold r88_7
   refine R_mv t11 ?_
   refine R_mv (@rfl V (iV (((i + j) / 2 : Nat) : Int))) ?_
   exact R_nil ⟨t0, t1, t2, t8, t9, rfl, trivial⟩
  intro T H ⟨t0, t1, t2, t8, t9, t10, _⟩
  refine n4 _ _ ?_
  refine p12 _ _ _ ?_ ⟨i, ((i + j) / 2), rfl, t0, t1, t2, t8, t9, (Eq.trans t10 (by first | rfl | simp)), ?_, ?_, ?_⟩
  · omega
  · omega
  · omega
  · omega
 refine W_seq_exit ?_
 refine p32 _ _ _ ?_
 refine x1 _ _ ?_
 refine .done ?_
 refine W_seq_regc (fun T H => T 6 = (iV ((i : Nat) : Int)) ∧ T 7 = (V.bool (decide ((((i : Nat) : Int) < ((l.length : Nat) : Int)) ∧ ((lexI ((nth (l) (i))) t) = (0 : Int))))) ∧ True) ?_ ?_
 ·
  unfold r88_8
  refine R_mv t9 ?_
  refine R_mv t9 ?_
  refine R_mv t8 ?_
  refine R_lss (x := ((i : Nat) : Int)) (y := ((l.length : Nat) : Int)) (@rfl V (iV ((i : Nat) : Int))) (@rfl V (iV ((l.length : Nat) : Int))) ?_
  refine R_mv (@rfl V (V.bool (decide (((i : Nat) : Int) < ((l.length : Nat) : Int))))) ?_
  refine Ops_seg 9 (fun T H => T 35 = (iV ((i : Nat) : Int)) ∧ T 48 = (V.bool (decide ((((i : Nat) : Int) < ((l.length : Nat) : Int)) ∧ ((lexI ((nth (l) (i))) t) = (0 : Int))))) ∧ True) ?_ ?_
  ·
   by_cases g6 : ((i : Nat) : Int) < ((l.length : Nat) : Int)
   ·
    refine G_yes (Eq.trans (@rfl V (V.bool (decide (((i : Nat) : Int) < ((l.length : Nat) : Int))))) (bdT g6)) ?_
    refine R_mv t2 ?_
    refine G_yes (Eq.trans (@rfl V (V.bool (decide (((i : Nat) : Int) < ((l.length : Nat) : Int))))) (bdT g6)) ?_
    refine R_mv t0 ?_
    refine G_yes (Eq.trans (@rfl V (V.bool (decide (((i : Nat) : Int) < ((l.length : Nat) : Int))))) (bdT g6)) ?_
    refine R_mv t9 ?_
    refine G_yes (Eq.trans (@rfl V (V.bool (decide (((i : Nat) : Int) < ((l.length : Nat) : Int))))) (bdT g6)) ?_
    refine R_idx (i := i) (@rfl V (intss l)) (@rfl V (iV ((i : Nat) : Int))) (by omega) rfl ?_
    refine G_yes (Eq.trans (@rfl V (V.bool (decide (((i : Nat) : Int) < ((l.length : Nat) : Int))))) (bdT g6)) ?_
    refine R_load_pp (v := (ints ((nth (l) (i))))) rfl (by first | rfl | simp [ldV]) ?_
    refine G_yes (Eq.trans (@rfl V (V.bool (decide (((i : Nat) : Int) < ((l.length : Nat) : Int))))) (bdT g6)) ?_
    refine R_mv t1 ?_
    refine G_yes (Eq.trans (@rfl V (V.bool (decide (((i : Nat) : Int) < ((l.length : Nat) : Int))))) (bdT g6)) ?_
    refine R_callv (@rfl V (V.fn 66 [] [])) (evcons (@rfl V (ints ((nth (l) (i))))) (evcons (@rfl V (ints t)) evnil)) (lex_pure ((nth (l) (i))) t) (fzv_mapcanon _ _ (by simp [-List.map_take, -List.map_drop, -List.map_append, -List.map_reverse])) (by simp [-List.map_take, -List.map_drop, -List.map_append, -List.map_reverse]) (Or.inl (by simp [-List.map_take, -List.map_drop, -List.map_append, -List.map_reverse])) ?_
    refine G_yes (Eq.trans (@rfl V (V.bool (decide (((i : Nat) : Int) < ((l.length : Nat) : Int))))) (bdT g6)) ?_
    refine R_eql (x := (lexI ((nth (l) (i))) t)) (y := (0 : Int)) (@rfl V (iV (lexI ((nth (l) (i))) t))) (@rfl V (iV (0 : Int))) ?_
    refine R_pickT (Eq.trans (@rfl V (V.bool (decide (((i : Nat) : Int) < ((l.length : Nat) : Int))))) (bdT g6)) (@rfl V (V.bool (decide ((lexI ((nth (l) (i))) t) = (0 : Int))))) ?_
    exact ⟨rfl, (Eq.trans (@rfl V (V.bool (decide ((lexI ((nth (l) (i))) t) = (0 : Int))))) (dec_andT g6)), trivial⟩
   ·
    refine G_no (Eq.trans (@rfl V (V.bool (decide (((i : Nat) : Int) < ((l.length : Nat) : Int))))) (bdF g6)) (by decide) ?_
    refine G_no (Eq.trans (@rfl V (V.bool (decide (((i : Nat) : Int) < ((l.length : Nat) : Int))))) (bdF g6)) (by decide) ?_
    refine G_no (Eq.trans (@rfl V (V.bool (decide (((i : Nat) : Int) < ((l.length : Nat) : Int))))) (bdF g6)) (by decide) ?_
    refine G_no (Eq.trans (@rfl V (V.bool (decide (((i : Nat) : Int) < ((l.length : Nat) : Int))))) (bdF g6)) (by decide) ?_
    refine G_no (Eq.trans (@rfl V (V.bool (decide (((i : Nat) : Int) < ((l.length : Nat) : Int))))) (bdF g6)) (by decide) ?_
    refine G_no (Eq.trans (@rfl V (V.bool (decide (((i : Nat) : Int) < ((l.length : Nat) : Int))))) (bdF g6)) (by decide) ?_
    refine G_no (Eq.trans (@rfl V (V.bool (decide (((i : Nat) : Int) < ((l.length : Nat) : Int))))) (bdF g6)) (by decide) ?_
    refine G_no (Eq.trans (@rfl V (V.bool (decide (((i : Nat) : Int) < ((l.length : Nat) : Int))))) (bdF g6)) (by decide) ?_
    refine R_pickF (Eq.trans (@rfl V (V.bool (decide (((i : Nat) : Int) < ((l.length : Nat) : Int))))) (bdF g6)) (@rfl V (V.bool false)) ?_
    exact ⟨rfl, (Eq.trans (@rfl V (V.bool false)) (dec_andF g6)), trivial⟩
  intro T H ⟨t35, t48, _⟩
  refine R_mv t35 ?_
  refine R_mv t48 ?_
  exact R_nil ⟨rfl, rfl, trivial⟩
 intro T H ⟨t6, t7, _⟩
 refine W_ret ?_
 refine Ret_2 t6 t7 (fz_int ?_) (fz_bool ?_)
 · have e : i = lxN l t := by omega
   rw [e]
 · have e : i = lxN l t := by omega
   rw [e]; exact decide_eq_decide.2 (by unfold lxH; omega)
end Go.Proofs.YtmnjchcoigbngaaGreat


namespace Go.Proofs.YtmnjchcoigbngaaGreat
open Go Go.Proofs
theorem dchild_pure (x : Nd) (outs : List Int) (hs : SrtL x.ou) (hl : x.ou.length ≤ 1048576) : PureC Tryz.prog 51 [(V.agg (cN x)), (ints outs)] (V.tup [(iV ((lxN x.ou outs : Nat) : Int)), (V.bool (decide (lxH x.ou outs)))]) := by
 refine pure_of_Wb true 6 Tryz.func51 s51_ok (by kernel_rfl) (by simp [s51]) (by simp) (by simp) fun hB => ?_
 simp only [bnd_map, bnd_int, bnd_bool, bnd_str, bnd_agg, bnd_pp, bnd_nil, bnd_cons, implies_true, and_true, true_and] at hB
 unfold s51
 dsimp only
 refine W_seq_regc (fun T H => T 1 = (ints outs) ∧ T 2 = (V.mp 2 1 0 0) ∧ H 2 = (bk 1 68 5 [(cN x)]) ∧ True) ?_ ?_
 ·
  unfold r51_0
  refine R_box (i := 2) (n := 0) (m := 5) (cs := [(V.bool x.lf), (ints x.ac), (ints x.sf), (intss x.ou), (ints x.kd)]) rfl (congrArg Blk.ver rfl) (@rfl V (V.agg (cN x))) rfl rfl ?_
  refine R_mv (@rfl V (iV (0 : Int))) ?_
  refine R_mv (@rfl V (V.bool false)) ?_
  exact R_nil ⟨rfl, rfl, rfl, trivial⟩
 intro T H ⟨t1, t2, h2, _⟩
 refine W_seq_regc (fun T H => T 4 = (iV ((lxN x.ou outs : Nat) : Int)) ∧ T 5 = (V.bool (decide (lxH x.ou outs))) ∧ H 2 = (bk 1 68 5 [(cN x)]) ∧ True) ?_ ?_
 ·
  unfold r51_1
  refine R_fld_mp (o' := 3) t2 h2 (by first | rfl | simp [okB, Blk.own]) rfl ?_
  refine R_load_mp (v := (intss x.ou)) (@rfl V (V.mp 2 1 0 3)) h2 (by first | rfl | simp [ldB, ldV, Blk.own, V.one]) ?_
  refine R_mv t1 ?_
  refine R_callc (evcons (@rfl V (intss x.ou)) (evcons (@rfl V (ints outs)) (evcons (@rfl V (V.fn 66 [] [])) evnil))) (bsw_pure x.ou outs hs hl) ?_
  refine R_ext (v := (iV ((lxN x.ou outs : Nat) : Int))) (@rfl V (V.tup [(iV ((lxN x.ou outs : Nat) : Int)), (V.bool (decide (lxH x.ou outs)))])) rfl ?_
  refine R_ext (v := (V.bool (decide (lxH x.ou outs)))) (@rfl V (V.tup [(iV ((lxN x.ou outs : Nat) : Int)), (V.bool (decide (lxH x.ou outs)))])) rfl ?_
  refine R_mv (@rfl V (iV ((lxN x.ou outs : Nat) : Int))) ?_
  refine R_mv (@rfl V (V.bool (decide (lxH x.ou outs)))) ?_
  exact R_nil ⟨rfl, rfl, h2, trivial⟩
 intro T H ⟨t4, t5, h2, _⟩
 refine W_ret ?_
 refine Ret_2 t4 t5 (fz_canon (by simp) rfl) (fz_canon (by simp) rfl)
end Go.Proofs.YtmnjchcoigbngaaGreat


namespace Go.Proofs.YtmnjchcoigbngaaGreat
open Go Go.Proofs
theorem sift_pure (t : Dt) (o : Ob) (w : List Int) (hb : Bd t) (ho : oval o = 0) (hw : w.length ≤ 1048576) : PureC Tryz.prog 20 [(V.agg [(V.sl (List.map cN (t.nd)))]), (V.agg [(iV (o.i)), (V.sl (List.map cT (o.tr)))]), (ints w)] (V.tup [(iV ((sftR t o w).1)), (ints ((sftR t o w).2.1)), (iV ((sftR t o w).2.2))]) := by
 refine pure_of_Wb true 6 Tryz.func20 s20_ok (by kernel_rfl) (by simp [s20]) (by simp) (by simp) fun hB => ?_
 simp only [bnd_map, bnd_int, bnd_bool, bnd_str, bnd_agg, bnd_pp, bnd_nil, bnd_cons, implies_true, and_true, true_and] at hB
 unfold s20
 dsimp only
 refine W_seq_regc (fun T H => T 2 = (ints w) ∧ T 3 = (V.mp 3 1 0 0) ∧ T 4 = (V.mp 4 1 0 0) ∧ H 3 = (bk 1 24 1 [[(V.sl (List.map cN (t.nd)))]]) ∧ H 4 = (bk 1 37 2 [[(iV (o.i)), (V.sl (List.map cT (o.tr)))]]) ∧ H 12 = (⟨0, false, false, 0, 0, []⟩ : Blk) ∧ True) ?_ ?_
 ·
  unfold r20_0
  refine R_box (i := 3) (n := 0) (m := 1) (cs := [(V.sl (List.map cN (t.nd)))]) rfl (congrArg Blk.ver rfl) (@rfl V (V.agg [(V.sl (List.map cN (t.nd)))])) rfl rfl ?_
  refine R_box (i := 4) (n := 0) (m := 2) (cs := [(iV (o.i)), (V.sl (List.map cT (o.tr)))]) rfl (congrArg Blk.ver rfl) (@rfl V (V.agg [(iV (o.i)), (V.sl (List.map cT (o.tr)))])) rfl rfl ?_
  refine R_mv (@rfl V (iV (0 : Int))) ?_
  refine R_mv (@rfl V V.nilsl) ?_
  refine R_mv (@rfl V (iV (0 : Int))) ?_
  exact R_nil ⟨rfl, rfl, rfl, rfl, rfl, rfl, trivial⟩
 intro T H ⟨t2, t3, t4, h3, h4, h12, _⟩
 refine W_seq_seq ?_
 refine W_seq_regc (fun T H => T 2 = (ints w) ∧ T 3 = (V.mp 3 1 0 0) ∧ T 4 = (V.mp 4 1 0 0) ∧ T 9 = (iV (dvE t)) ∧ H 3 = (bk 1 24 1 [[(V.sl (List.map cN (t.nd)))]]) ∧ H 4 = (bk 1 37 2 [[(iV (o.i)), (V.sl (List.map cT (o.tr)))]]) ∧ H 12 = (⟨0, false, false, 0, 0, []⟩ : Blk) ∧ True) ?_ ?_
 ·
  unfold r20_1
  refine R_load_mp (v := (V.agg [(V.sl (List.map cN (t.nd)))])) t3 h3 (by first | rfl | simp [ldB, ldV, Blk.own, V.one]) ?_
  refine R_callc (evcons (@rfl V (V.agg [(V.sl (List.map cN (t.nd)))])) evnil) (dvalid_pure t hb) ?_
  refine R_mv (@rfl V (iV (dvE t))) ?_
  exact R_nil ⟨t2, t3, t4, rfl, h3, h4, h12, trivial⟩
 intro T H ⟨t2, t3, t4, t9, h3, h4, h12, _⟩
 refine W_seq_seq ?_
 refine W_seq_regc (fun T H => T 2 = (ints w) ∧ T 3 = (V.mp 3 1 0 0) ∧ T 4 = (V.mp 4 1 0 0) ∧ T 9 = (iV (dvE t)) ∧ T 22 = (V.bool (decide ((dvE t) ≠ (0 : Int)))) ∧ H 3 = (bk 1 24 1 [[(V.sl (List.map cN (t.nd)))]]) ∧ H 4 = (bk 1 37 2 [[(iV (o.i)), (V.sl (List.map cT (o.tr)))]]) ∧ H 12 = (⟨0, false, false, 0, 0, []⟩ : Blk) ∧ True) ?_ ?_
 ·
  unfold r20_2
  refine R_mv t9 ?_
  refine R_neq (x := (dvE t)) (y := (0 : Int)) (@rfl V (iV (dvE t))) (@rfl V (iV (0 : Int))) ?_
  exact R_nil ⟨t2, t3, t4, t9, rfl, h3, h4, h12, trivial⟩
 intro T H ⟨t2, t3, t4, t9, t22, h3, h4, h12, _⟩
 refine W_seq_if (p := (dvE t) ≠ (0 : Int)) t22 (fun c1 => ?_) (fun c1 => ?_)
 ·
  refine W_seq_seq ?_
  refine W_seq_regc (fun T H => T 6 = (iV (0 : Int)) ∧ T 7 = V.nilsl ∧ T 8 = (iV (dvE t)) ∧ H 3 = (bk 1 24 1 [[(V.sl (List.map cN (t.nd)))]]) ∧ H 4 = (bk 1 37 2 [[(iV (o.i)), (V.sl (List.map cT (o.tr)))]]) ∧ H 12 = (⟨0, false, false, 0, 0, []⟩ : Blk) ∧ True) ?_ ?_
  ·
   unfold r20_3
   refine R_mv t9 ?_
   refine R_mv (@rfl V (iV (0 : Int))) ?_
   refine R_mv (@rfl V V.nilsl) ?_
   refine R_mv (@rfl V (iV (dvE t))) ?_
   exact R_nil ⟨rfl, rfl, rfl, h3, h4, h12, trivial⟩
  intro T H ⟨t6, t7, t8, h3, h4, h12, _⟩
  refine W_seq_ret ?_
  refine Ret_3 t6 t7 t8 (fz_int ?_) (fz_nil ?_) (fz_int ?_)
  · unfold sftR; rw [if_pos (by omega)]
  · unfold sftR; rw [if_pos (by omega)]
  · unfold sftR; rw [if_pos (by omega)]
 have hv : dvE t = 0 := by omega
 refine W_seq_skip ?_
 refine W_seq_seq ?_
 refine W_seq_regc (fun T H => T 2 = (ints w) ∧ T 3 = (V.mp 3 1 0 0) ∧ T 4 = (V.mp 4 1 0 0) ∧ T 10 = (iV (wchk w ((o.i)))) ∧ H 3 = (bk 1 24 1 [[(V.sl (List.map cN (t.nd)))]]) ∧ H 4 = (bk 1 37 2 [[(iV (o.i)), (V.sl (List.map cT (o.tr)))]]) ∧ H 12 = (⟨0, false, false, 0, 0, []⟩ : Blk) ∧ True) ?_ ?_
 ·
  unfold r20_4
  refine R_mv t2 ?_
  refine R_fld_mp (o' := 0) t4 h4 (by first | rfl | simp [okB, Blk.own]) rfl ?_
  refine R_load_mp (v := (iV (o.i))) (@rfl V (V.mp 4 1 0 0)) h4 (by first | rfl | simp [ldB, ldV, Blk.own, V.one]) ?_
  refine R_callc (evcons (@rfl V (ints w)) (evcons (@rfl V (iV (o.i))) evnil)) (check_pure w ((o.i))) ?_
  refine R_mv (@rfl V (iV (wchk w ((o.i))))) ?_
  exact R_nil ⟨t2, t3, t4, rfl, h3, h4, h12, trivial⟩
 intro T H ⟨t2, t3, t4, t10, h3, h4, h12, _⟩
 refine W_seq_seq ?_
 refine W_seq_regc (fun T H => T 2 = (ints w) ∧ T 3 = (V.mp 3 1 0 0) ∧ T 4 = (V.mp 4 1 0 0) ∧ T 10 = (iV (wchk w ((o.i)))) ∧ T 29 = (V.bool (decide ((wchk w ((o.i))) ≠ (0 : Int)))) ∧ H 3 = (bk 1 24 1 [[(V.sl (List.map cN (t.nd)))]]) ∧ H 4 = (bk 1 37 2 [[(iV (o.i)), (V.sl (List.map cT (o.tr)))]]) ∧ H 12 = (⟨0, false, false, 0, 0, []⟩ : Blk) ∧ True) ?_ ?_
 ·
  unfold r20_5
  refine R_mv t10 ?_
  refine R_neq (x := (wchk w ((o.i)))) (y := (0 : Int)) (@rfl V (iV (wchk w ((o.i))))) (@rfl V (iV (0 : Int))) ?_
  exact R_nil ⟨t2, t3, t4, t10, rfl, h3, h4, h12, trivial⟩
 intro T H ⟨t2, t3, t4, t10, t29, h3, h4, h12, _⟩
 refine W_seq_if (p := (wchk w ((o.i))) ≠ (0 : Int)) t29 (fun c2 => ?_) (fun c2 => ?_)
 ·
  refine W_seq_seq ?_
  refine W_seq_regc (fun T H => T 6 = (iV (0 : Int)) ∧ T 7 = V.nilsl ∧ T 8 = (iV (wchk w ((o.i)))) ∧ H 3 = (bk 1 24 1 [[(V.sl (List.map cN (t.nd)))]]) ∧ H 4 = (bk 1 37 2 [[(iV (o.i)), (V.sl (List.map cT (o.tr)))]]) ∧ H 12 = (⟨0, false, false, 0, 0, []⟩ : Blk) ∧ True) ?_ ?_
  ·
   unfold r20_6
   refine R_mv t10 ?_
   refine R_mv (@rfl V (iV (0 : Int))) ?_
   refine R_mv (@rfl V V.nilsl) ?_
   refine R_mv (@rfl V (iV (wchk w ((o.i))))) ?_
   exact R_nil ⟨rfl, rfl, rfl, h3, h4, h12, trivial⟩
  intro T H ⟨t6, t7, t8, h3, h4, h12, _⟩
  refine W_seq_ret ?_
  refine Ret_3 t6 t7 t8 (fz_int ?_) (fz_nil ?_) (fz_int ?_)
  · unfold sftR; rw [if_neg (by omega), if_pos (by omega)]
  · unfold sftR; rw [if_neg (by omega), if_pos (by omega)]
  · unfold sftR; rw [if_neg (by omega), if_pos (by omega)]
 refine W_seq_skip ?_
 refine W_seq_regc (fun T H => T 2 = (ints w) ∧ T 3 = (V.mp 3 1 0 0) ∧ T 4 = (V.mp 4 1 0 0) ∧ T 11 = (iV (0 : Int)) ∧ H 3 = (bk 1 24 1 [[(V.sl (List.map cN (t.nd)))]]) ∧ H 4 = (bk 1 37 2 [[(iV (o.i)), (V.sl (List.map cT (o.tr)))]]) ∧ H 12 = (⟨0, false, false, 0, 0, []⟩ : Blk) ∧ True) ?_ ?_
 ·
  unfold r20_7
  refine R_mv (@rfl V (iV (0 : Int))) ?_
  exact R_nil ⟨t2, t3, t4, rfl, h3, h4, h12, trivial⟩
 intro T H ⟨t2, t3, t4, t11, h3, h4, h12, _⟩
 refine W_seq_blockg fun Q3 n3 x3 y3 z3 => ?_
 refine W_loop (fun mm T H => ∃ (a : Int) (f : Nat) (v12 : Nat), mm = f ∧ T 2 = (ints w) ∧ T 3 = (V.mp 3 1 0 0) ∧ T 4 = (V.mp 4 1 0 0) ∧ T 11 = (iV (a)) ∧ H 3 = (bk 1 24 1 [[(V.sl (List.map cN (t.nd)))]]) ∧ H 4 = (bk 1 37 2 [[(iV (o.i)), (V.sl (List.map cT (o.tr)))]]) ∧ (H 12).ver = v12 ∧ (0 ≤ a) ∧ (Rk t f a.toNat) ∧ (sftN t o w t.nd.length 0 = sftN t o w f a.toNat)) ?_ ?_
 ·
  refine ⟨_, 0, t.nd.length, 0, rfl, t2, t3, t4, t11, h3, h4, (congrArg Blk.ver h12), ?_, ?_, ?_⟩
  · omega
  · exact rk0 hv
  · rfl
 intro mm T H ⟨a, f, v12, hmm, t2, t3, t4, t11, h3, h4, h12, ha, hr, hc⟩ Q4 p14 p24 p34
 unfold b20_0
 have hlt := hr.lt hv
 have hsf := hb.sf _ hlt
 have hbn := hb.n
 refine W_seq_seq ?_
 refine W_seq_regc (fun T H => T 2 = (ints w) ∧ T 3 = (V.mp 3 1 0 0) ∧ T 4 = (V.mp 4 1 0 0) ∧ T 11 = (iV (a)) ∧ T 37 = (V.bool ((!((nth (t.nd) (a).toNat)).lf))) ∧ H 3 = (bk 1 24 1 [[(V.sl (List.map cN (t.nd)))]]) ∧ H 4 = (bk 1 37 2 [[(iV (o.i)), (V.sl (List.map cT (o.tr)))]]) ∧ (H 12).ver = v12 ∧ True) ?_ ?_
 ·
  unfold r20_8
  refine R_fld_mp (o' := 0) t3 h3 (by first | rfl | simp [okB, Blk.own]) rfl ?_
  refine R_load_mp (v := (V.sl (List.map cN (t.nd)))) (@rfl V (V.mp 3 1 0 0)) h3 (by first | rfl | simp [ldB, ldV, Blk.own, V.one]) ?_
  refine R_mv t11 ?_
  refine R_idxI (i := (a)) (@rfl V (V.sl (List.map cN (t.nd)))) (@rfl V (iV (a))) (by omega) (by omega) rfl ?_
  refine R_fld_pp (cs' := (cN (((nth (t.nd) (a).toNat))))) rfl rfl ?_
  refine R_load_pp (v := (V.bool (((nth (t.nd) (a).toNat)).lf))) rfl (by first | rfl | simp [ldV]) ?_
  refine R_notb (@rfl V (V.bool (((nth (t.nd) (a).toNat)).lf))) ?_
  exact R_nil ⟨t2, t3, t4, t11, rfl, h3, h4, h12, trivial⟩
 intro T H ⟨t2, t3, t4, t11, t37, h3, h4, h12, _⟩
 refine W_seq_ifb t37 (fun c5 => ?_) (fun c5 => ?_)
 ·
  have d1 : (nth t.nd a.toNat).lf = false := by simpa using c5
  have hin := nd_in hv hlt d1
  have hou := hb.ou _ hlt
  refine W_seq_skip ?_
  refine W_block fun Q6 n6 x6 y6 z6 => ?_
  refine W_seq_regc (fun T H => T 2 = (ints w) ∧ T 3 = (V.mp 3 1 0 0) ∧ T 4 = (V.mp 4 1 0 0) ∧ T 11 = (iV (a)) ∧ T 12 = (V.mp 12 (v12 + 1) 0 0) ∧ H 3 = (bk 1 24 1 [[(V.sl (List.map cN (t.nd)))]]) ∧ H 4 = (bk 1 37 2 [[(iV (o.i)), (V.sl (List.map cT (o.tr)))]]) ∧ H 12 = (bk (v12 + 1) 68 5 [(cN (((nth (t.nd) (a).toNat))))]) ∧ True) ?_ ?_
  ·
   unfold r20_9
   refine R_fld_mp (o' := 0) t3 h3 (by first | rfl | simp [okB, Blk.own]) rfl ?_
   refine R_load_mp (v := (V.sl (List.map cN (t.nd)))) (@rfl V (V.mp 3 1 0 0)) h3 (by first | rfl | simp [ldB, ldV, Blk.own, V.one]) ?_
   refine R_mv t11 ?_
   refine R_idxI (i := (a)) (@rfl V (V.sl (List.map cN (t.nd)))) (@rfl V (iV (a))) (by omega) (by omega) rfl ?_
   refine R_load_pp (v := (V.agg (cN (((nth (t.nd) (a).toNat)))))) rfl (by first | rfl | simp [ldV]) ?_
   refine R_alloc (i := 12) (n := v12) (m := 5) rfl h12 rfl ?_
   refine R_store (vs := [(V.bool (((nth (t.nd) (a).toNat)).lf)), (ints (((nth (t.nd) (a).toNat)).ac)), (ints (((nth (t.nd) (a).toNat)).sf)), (intss (((nth (t.nd) (a).toNat)).ou)), (ints (((nth (t.nd) (a).toNat)).kd))]) (B' := (bk (v12 + 1) 68 5 [(cN (((nth (t.nd) (a).toNat))))])) (@rfl V (V.mp 12 (v12 + 1) 0 0)) (@rfl V (V.agg (cN (((nth (t.nd) (a).toNat)))))) rfl (@rfl Blk (bk (v12 + 1) 68 5 [[(V.bool false), V.nilsl, V.nilsl, V.nilsl, V.nilsl]])) (by first | rfl | simp [stB, okB, Blk.own, putAt, V.one]) ?_
   exact R_nil ⟨t2, t3, t4, t11, rfl, h3, h4, rfl, trivial⟩
  intro T H ⟨t2, t3, t4, t11, t12, h3, h4, h12, _⟩
  refine W_seq_regc (fun T H => T 2 = (ints w) ∧ T 3 = (V.mp 3 1 0 0) ∧ T 4 = (V.mp 4 1 0 0) ∧ T 11 = (iV (a)) ∧ T 12 = (V.mp 12 (v12 + 1) 0 0) ∧ T 13 = (ints (cat ([w, ((nth (t.nd) (a).toNat)).sf]))) ∧ H 3 = (bk 1 24 1 [[(V.sl (List.map cN (t.nd)))]]) ∧ H 4 = (bk 1 37 2 [[(iV (o.i)), (V.sl (List.map cT (o.tr)))]]) ∧ H 12 = (bk (v12 + 1) 68 5 [(cN (((nth (t.nd) (a).toNat))))]) ∧ True) ?_ ?_
  ·
   unfold r20_10
   refine R_mv t2 ?_
   refine R_fld_mp (o' := 2) t12 h12 (by first | rfl | simp [okB, Blk.own]) rfl ?_
   refine R_load_mp (v := (ints (((nth (t.nd) (a).toNat)).sf))) (@rfl V (V.mp 12 (v12 + 1) 0 2)) h12 (by first | rfl | simp [ldB, ldV, Blk.own, V.one]) ?_
   refine R_bslice (qs := [(0, (ints w)), (1, (ints (((nth (t.nd) (a).toNat)).sf)))]) (rows := [[(ints w)], [(ints (((nth (t.nd) (a).toNat)).sf))]]) (mcons (congrArg (fun v => (0, v)) (@rfl V (ints w))) (mcons (congrArg (fun v => (1, v)) (@rfl V (ints (((nth (t.nd) (a).toNat)).sf)))) rfl)) rfl ?_
   refine R_callc (evcons (@rfl V (V.sl [[(ints w)], [(ints (((nth (t.nd) (a).toNat)).sf))]])) evnil) (pjoin_pure ([w, ((nth (t.nd) (a).toNat)).sf]) (by simp only [cat, List.append_nil, List.length_append]; omega)) ?_
   refine R_mv (@rfl V (ints (cat ([w, ((nth (t.nd) (a).toNat)).sf])))) ?_
   exact R_nil ⟨t2, t3, t4, t11, t12, rfl, h3, h4, h12, trivial⟩
  intro T H ⟨t2, t3, t4, t11, t12, t13, h3, h4, h12, _⟩
  refine W_seq_seq ?_
  refine W_seq_regc (fun T H => T 2 = (ints w) ∧ T 3 = (V.mp 3 1 0 0) ∧ T 4 = (V.mp 4 1 0 0) ∧ T 11 = (iV (a)) ∧ T 12 = (V.mp 12 (v12 + 1) 0 0) ∧ T 13 = (ints (cat ([w, ((nth (t.nd) (a).toNat)).sf]))) ∧ T 14 = (iV (wchk (cat ([w, ((nth (t.nd) (a).toNat)).sf])) ((o.i)))) ∧ H 3 = (bk 1 24 1 [[(V.sl (List.map cN (t.nd)))]]) ∧ H 4 = (bk 1 37 2 [[(iV (o.i)), (V.sl (List.map cT (o.tr)))]]) ∧ H 12 = (bk (v12 + 1) 68 5 [(cN (((nth (t.nd) (a).toNat))))]) ∧ True) ?_ ?_
  ·
   unfold r20_11
   refine R_mv t13 ?_
   refine R_fld_mp (o' := 0) t4 h4 (by first | rfl | simp [okB, Blk.own]) rfl ?_
   refine R_load_mp (v := (iV (o.i))) (@rfl V (V.mp 4 1 0 0)) h4 (by first | rfl | simp [ldB, ldV, Blk.own, V.one]) ?_
   refine R_callc (evcons (@rfl V (ints (cat ([w, ((nth (t.nd) (a).toNat)).sf])))) (evcons (@rfl V (iV (o.i))) evnil)) (check_pure (cat ([w, ((nth (t.nd) (a).toNat)).sf])) ((o.i))) ?_
   refine R_mv (@rfl V (iV (wchk (cat ([w, ((nth (t.nd) (a).toNat)).sf])) ((o.i))))) ?_
   exact R_nil ⟨t2, t3, t4, t11, t12, t13, rfl, h3, h4, h12, trivial⟩
  intro T H ⟨t2, t3, t4, t11, t12, t13, t14, h3, h4, h12, _⟩
  refine W_seq_seq ?_
  refine W_seq_regc (fun T H => T 2 = (ints w) ∧ T 3 = (V.mp 3 1 0 0) ∧ T 4 = (V.mp 4 1 0 0) ∧ T 11 = (iV (a)) ∧ T 12 = (V.mp 12 (v12 + 1) 0 0) ∧ T 13 = (ints (cat ([w, ((nth (t.nd) (a).toNat)).sf]))) ∧ T 14 = (iV (wchk (cat ([w, ((nth (t.nd) (a).toNat)).sf])) ((o.i)))) ∧ T 53 = (V.bool (decide ((wchk (cat ([w, ((nth (t.nd) (a).toNat)).sf])) ((o.i))) ≠ (0 : Int)))) ∧ H 3 = (bk 1 24 1 [[(V.sl (List.map cN (t.nd)))]]) ∧ H 4 = (bk 1 37 2 [[(iV (o.i)), (V.sl (List.map cT (o.tr)))]]) ∧ H 12 = (bk (v12 + 1) 68 5 [(cN (((nth (t.nd) (a).toNat))))]) ∧ True) ?_ ?_
  ·
   unfold r20_12
   refine R_mv t14 ?_
   refine R_neq (x := (wchk (cat ([w, ((nth (t.nd) (a).toNat)).sf])) ((o.i)))) (y := (0 : Int)) (@rfl V (iV (wchk (cat ([w, ((nth (t.nd) (a).toNat)).sf])) ((o.i))))) (@rfl V (iV (0 : Int))) ?_
   exact R_nil ⟨t2, t3, t4, t11, t12, t13, t14, rfl, h3, h4, h12, trivial⟩
  intro T H ⟨t2, t3, t4, t11, t12, t13, t14, t53, h3, h4, h12, _⟩
  refine W_seq_if (p := (wchk (cat ([w, ((nth (t.nd) (a).toNat)).sf])) ((o.i))) ≠ (0 : Int)) t53 (fun c7 => ?_) (fun c7 => ?_)
  ·
   have d2 : wchk (cat [w, (nth t.nd a.toNat).sf]) o.i ≠ 0 := c7
   refine W_seq_seq ?_
   refine W_seq_regc (fun T H => T 6 = (iV (0 : Int)) ∧ T 7 = V.nilsl ∧ T 8 = (iV (wchk (cat ([w, ((nth (t.nd) (a).toNat)).sf])) ((o.i)))) ∧ H 3 = (bk 1 24 1 [[(V.sl (List.map cN (t.nd)))]]) ∧ H 4 = (bk 1 37 2 [[(iV (o.i)), (V.sl (List.map cT (o.tr)))]]) ∧ H 12 = (bk (v12 + 1) 68 5 [(cN (((nth (t.nd) (a).toNat))))]) ∧ True) ?_ ?_
   ·
    unfold r20_13
    refine R_mv t14 ?_
    refine R_mv (@rfl V (iV (0 : Int))) ?_
    refine R_mv (@rfl V V.nilsl) ?_
    refine R_mv (@rfl V (iV (wchk (cat ([w, ((nth (t.nd) (a).toNat)).sf])) ((o.i))))) ?_
    exact R_nil ⟨rfl, rfl, rfl, h3, h4, h12, trivial⟩
   intro T H ⟨t6, t7, t8, h3, h4, h12, _⟩
   refine W_seq_ret ?_
   refine y6 _ _ ?_
   refine p24 _ _ ?_
   refine y3 _ _ ?_
   refine Ret_3 t6 t7 t8 (fz_int ?_) (fz_nil ?_) (fz_int ?_)
   · have e0 : sftR t o w = sftN t o w f a.toNat := by unfold sftR; rw [if_neg (by omega), if_neg (by omega), hc]
     rw [e0, sft_err hr.pos d1 d2]
   · have e0 : sftR t o w = sftN t o w f a.toNat := by unfold sftR; rw [if_neg (by omega), if_neg (by omega), hc]
     rw [e0, sft_err hr.pos d1 d2]
   · have e0 : sftR t o w = sftN t o w f a.toNat := by unfold sftR; rw [if_neg (by omega), if_neg (by omega), hc]
     rw [e0, sft_err hr.pos d1 d2]
  have d2 : ¬wchk (cat [w, (nth t.nd a.toNat).sf]) o.i ≠ 0 := c7
  refine W_seq_skip ?_
  refine W_seq_regc (fun T H => T 2 = (ints w) ∧ T 3 = (V.mp 3 1 0 0) ∧ T 4 = (V.mp 4 1 0 0) ∧ T 11 = (iV (a)) ∧ T 12 = (V.mp 12 (v12 + 1) 0 0) ∧ T 13 = (ints (cat ([w, ((nth (t.nd) (a).toNat)).sf]))) ∧ T 15 = (ints ((ans o (cat ([w, ((nth (t.nd) (a).toNat)).sf]))).getD [])) ∧ T 16 = (V.bool ((ans o (cat ([w, ((nth (t.nd) (a).toNat)).sf]))).isSome)) ∧ H 3 = (bk 1 24 1 [[(V.sl (List.map cN (t.nd)))]]) ∧ H 4 = (bk 1 37 2 [[(iV (o.i)), (V.sl (List.map cT (o.tr)))]]) ∧ H 12 = (bk (v12 + 1) 68 5 [(cN (((nth (t.nd) (a).toNat))))]) ∧ True) ?_ ?_
  ·
   unfold r20_14
   refine R_load_mp (v := (V.agg [(iV (o.i)), (V.sl (List.map cT (o.tr)))])) t4 h4 (by first | rfl | simp [ldB, ldV, Blk.own, V.one]) ?_
   refine R_mv t13 ?_
   refine R_callc (evcons (@rfl V (V.agg [(iV (o.i)), (V.sl (List.map cT (o.tr)))])) (evcons (@rfl V (ints (cat ([w, ((nth (t.nd) (a).toNat)).sf])))) evnil)) (answer_pure o (cat ([w, ((nth (t.nd) (a).toNat)).sf])) ho) ?_
   refine R_mv (@rfl V (V.tup [(ints ((ans o (cat ([w, ((nth (t.nd) (a).toNat)).sf]))).getD [])), (V.bool ((ans o (cat ([w, ((nth (t.nd) (a).toNat)).sf]))).isSome))])) ?_
   refine R_ext (v := (ints ((ans o (cat ([w, ((nth (t.nd) (a).toNat)).sf]))).getD []))) (@rfl V (V.tup [(ints ((ans o (cat ([w, ((nth (t.nd) (a).toNat)).sf]))).getD [])), (V.bool ((ans o (cat ([w, ((nth (t.nd) (a).toNat)).sf]))).isSome))])) rfl ?_
   refine R_ext (v := (V.bool ((ans o (cat ([w, ((nth (t.nd) (a).toNat)).sf]))).isSome))) (@rfl V (V.tup [(ints ((ans o (cat ([w, ((nth (t.nd) (a).toNat)).sf]))).getD [])), (V.bool ((ans o (cat ([w, ((nth (t.nd) (a).toNat)).sf]))).isSome))])) rfl ?_
   refine R_mv (@rfl V (ints ((ans o (cat ([w, ((nth (t.nd) (a).toNat)).sf]))).getD []))) ?_
   refine R_mv (@rfl V (V.bool ((ans o (cat ([w, ((nth (t.nd) (a).toNat)).sf]))).isSome))) ?_
   exact R_nil ⟨t2, t3, t4, t11, t12, t13, rfl, rfl, h3, h4, h12, trivial⟩
  intro T H ⟨t2, t3, t4, t11, t12, t13, t15, t16, h3, h4, h12, _⟩
  refine W_seq_seq ?_
  refine W_seq_regc (fun T H => T 2 = (ints w) ∧ T 3 = (V.mp 3 1 0 0) ∧ T 4 = (V.mp 4 1 0 0) ∧ T 11 = (iV (a)) ∧ T 12 = (V.mp 12 (v12 + 1) 0 0) ∧ T 13 = (ints (cat ([w, ((nth (t.nd) (a).toNat)).sf]))) ∧ T 15 = (ints ((ans o (cat ([w, ((nth (t.nd) (a).toNat)).sf]))).getD [])) ∧ T 62 = (V.bool ((!(ans o (cat ([w, ((nth (t.nd) (a).toNat)).sf]))).isSome))) ∧ H 3 = (bk 1 24 1 [[(V.sl (List.map cN (t.nd)))]]) ∧ H 4 = (bk 1 37 2 [[(iV (o.i)), (V.sl (List.map cT (o.tr)))]]) ∧ H 12 = (bk (v12 + 1) 68 5 [(cN (((nth (t.nd) (a).toNat))))]) ∧ True) ?_ ?_
  ·
   unfold r20_15
   refine R_mv t16 ?_
   refine R_notb (@rfl V (V.bool ((ans o (cat ([w, ((nth (t.nd) (a).toNat)).sf]))).isSome))) ?_
   exact R_nil ⟨t2, t3, t4, t11, t12, t13, t15, rfl, h3, h4, h12, trivial⟩
  intro T H ⟨t2, t3, t4, t11, t12, t13, t15, t62, h3, h4, h12, _⟩
  refine W_seq_ifb t62 (fun c8 => ?_) (fun c8 => ?_)
  ·
   have d3 : (ans o (cat [w, (nth t.nd a.toNat).sf])).isSome = false := by simpa using c8
   refine W_seq_seq ?_
   refine W_seq_regc (fun T H => T 6 = (iV (0 : Int)) ∧ T 7 = (ints (cat ([w, ((nth (t.nd) (a).toNat)).sf]))) ∧ T 8 = (iV (0 : Int)) ∧ H 3 = (bk 1 24 1 [[(V.sl (List.map cN (t.nd)))]]) ∧ H 4 = (bk 1 37 2 [[(iV (o.i)), (V.sl (List.map cT (o.tr)))]]) ∧ H 12 = (bk (v12 + 1) 68 5 [(cN (((nth (t.nd) (a).toNat))))]) ∧ True) ?_ ?_
   ·
    unfold r20_16
    refine R_mv t13 ?_
    refine R_mv (@rfl V (iV (0 : Int))) ?_
    refine R_mv (@rfl V (ints (cat ([w, ((nth (t.nd) (a).toNat)).sf])))) ?_
    refine R_mv (@rfl V (iV (0 : Int))) ?_
    exact R_nil ⟨rfl, rfl, rfl, h3, h4, h12, trivial⟩
   intro T H ⟨t6, t7, t8, h3, h4, h12, _⟩
   refine W_seq_ret ?_
   refine y6 _ _ ?_
   refine p24 _ _ ?_
   refine y3 _ _ ?_
   refine Ret_3 t6 t7 t8 (fz_int ?_) (fz_sl ?_ (fun _ => by simp)) (fz_int ?_)
   · have e0 : sftR t o w = sftN t o w f a.toNat := by unfold sftR; rw [if_neg (by omega), if_neg (by omega), hc]
     rw [e0, sft_ask hr.pos d1 d2 d3]
   · have e0 : sftR t o w = sftN t o w f a.toNat := by unfold sftR; rw [if_neg (by omega), if_neg (by omega), hc]
     rw [e0, sft_ask hr.pos d1 d2 d3]
   · have e0 : sftR t o w = sftN t o w f a.toNat := by unfold sftR; rw [if_neg (by omega), if_neg (by omega), hc]
     rw [e0, sft_ask hr.pos d1 d2 d3]
  have d3 : (ans o (cat [w, (nth t.nd a.toNat).sf])).isSome = true := by simpa using c8
  have d4 := ans_len (oval_ok ho) d3
  have d5 : (cat [w, (nth t.nd a.toNat).sf]).length = w.length + (nth t.nd a.toNat).sf.length := by simp [cat]
  refine W_seq_skip ?_
  refine W_seq_regc (fun T H => T 2 = (ints w) ∧ T 3 = (V.mp 3 1 0 0) ∧ T 4 = (V.mp 4 1 0 0) ∧ T 11 = (iV (a)) ∧ T 12 = (V.mp 12 (v12 + 1) 0 0) ∧ T 17 = (iV ((lxN (((nth (t.nd) (a).toNat))).ou (List.drop (w.length) ((ans o (cat ([w, ((nth (t.nd) (a).toNat)).sf]))).getD [])) : Nat) : Int)) ∧ T 18 = (V.bool (decide (lxH (((nth (t.nd) (a).toNat))).ou (List.drop (w.length) ((ans o (cat ([w, ((nth (t.nd) (a).toNat)).sf]))).getD []))))) ∧ H 3 = (bk 1 24 1 [[(V.sl (List.map cN (t.nd)))]]) ∧ H 4 = (bk 1 37 2 [[(iV (o.i)), (V.sl (List.map cT (o.tr)))]]) ∧ H 12 = (bk (v12 + 1) 68 5 [(cN (((nth (t.nd) (a).toNat))))]) ∧ True) ?_ ?_
  ·
   unfold r20_17
   refine R_load_mp (v := (V.agg (cN (((nth (t.nd) (a).toNat)))))) t12 h12 (by first | rfl | simp [ldB, ldV, Blk.own, V.one]) ?_
   refine R_mv t15 ?_
   refine R_mv t2 ?_
   refine R_len (@rfl V (ints w)) ?_
   refine R_slice_lo (n := w.length) (@rfl V (ints ((ans o (cat ([w, ((nth (t.nd) (a).toNat)).sf]))).getD []))) (@rfl V (iV ((w.length : Nat) : Int))) (by omega) (fun _ => rfl) ?_
   refine R_callc (evcons (@rfl V (V.agg (cN (((nth (t.nd) (a).toNat)))))) (evcons (@rfl V (ints (List.drop (w.length) ((ans o (cat ([w, ((nth (t.nd) (a).toNat)).sf]))).getD [])))) evnil)) (dchild_pure (((nth (t.nd) (a).toNat))) (List.drop (w.length) ((ans o (cat ([w, ((nth (t.nd) (a).toNat)).sf]))).getD [])) hin.srt hou) ?_
   refine R_mv (@rfl V (V.tup [(iV ((lxN (((nth (t.nd) (a).toNat))).ou (List.drop (w.length) ((ans o (cat ([w, ((nth (t.nd) (a).toNat)).sf]))).getD [])) : Nat) : Int)), (V.bool (decide (lxH (((nth (t.nd) (a).toNat))).ou (List.drop (w.length) ((ans o (cat ([w, ((nth (t.nd) (a).toNat)).sf]))).getD [])))))])) ?_
   refine R_ext (v := (iV ((lxN (((nth (t.nd) (a).toNat))).ou (List.drop (w.length) ((ans o (cat ([w, ((nth (t.nd) (a).toNat)).sf]))).getD [])) : Nat) : Int))) (@rfl V (V.tup [(iV ((lxN (((nth (t.nd) (a).toNat))).ou (List.drop (w.length) ((ans o (cat ([w, ((nth (t.nd) (a).toNat)).sf]))).getD [])) : Nat) : Int)), (V.bool (decide (lxH (((nth (t.nd) (a).toNat))).ou (List.drop (w.length) ((ans o (cat ([w, ((nth (t.nd) (a).toNat)).sf]))).getD [])))))])) rfl ?_
   refine R_ext (v := (V.bool (decide (lxH (((nth (t.nd) (a).toNat))).ou (List.drop (w.length) ((ans o (cat ([w, ((nth (t.nd) (a).toNat)).sf]))).getD [])))))) (@rfl V (V.tup [(iV ((lxN (((nth (t.nd) (a).toNat))).ou (List.drop (w.length) ((ans o (cat ([w, ((nth (t.nd) (a).toNat)).sf]))).getD [])) : Nat) : Int)), (V.bool (decide (lxH (((nth (t.nd) (a).toNat))).ou (List.drop (w.length) ((ans o (cat ([w, ((nth (t.nd) (a).toNat)).sf]))).getD [])))))])) rfl ?_
   refine R_mv (@rfl V (iV ((lxN (((nth (t.nd) (a).toNat))).ou (List.drop (w.length) ((ans o (cat ([w, ((nth (t.nd) (a).toNat)).sf]))).getD [])) : Nat) : Int))) ?_
   refine R_mv (@rfl V (V.bool (decide (lxH (((nth (t.nd) (a).toNat))).ou (List.drop (w.length) ((ans o (cat ([w, ((nth (t.nd) (a).toNat)).sf]))).getD [])))))) ?_
   exact R_nil ⟨t2, t3, t4, t11, t12, rfl, rfl, h3, h4, h12, trivial⟩
  intro T H ⟨t2, t3, t4, t11, t12, t17, t18, h3, h4, h12, _⟩
  refine W_seq_seq ?_
  refine W_seq_regc (fun T H => T 2 = (ints w) ∧ T 3 = (V.mp 3 1 0 0) ∧ T 4 = (V.mp 4 1 0 0) ∧ T 11 = (iV (a)) ∧ T 12 = (V.mp 12 (v12 + 1) 0 0) ∧ T 17 = (iV ((lxN (((nth (t.nd) (a).toNat))).ou (List.drop (w.length) ((ans o (cat ([w, ((nth (t.nd) (a).toNat)).sf]))).getD [])) : Nat) : Int)) ∧ T 74 = (V.bool (decide (¬(lxH (((nth (t.nd) (a).toNat))).ou (List.drop (w.length) ((ans o (cat ([w, ((nth (t.nd) (a).toNat)).sf]))).getD [])))))) ∧ H 3 = (bk 1 24 1 [[(V.sl (List.map cN (t.nd)))]]) ∧ H 4 = (bk 1 37 2 [[(iV (o.i)), (V.sl (List.map cT (o.tr)))]]) ∧ H 12 = (bk (v12 + 1) 68 5 [(cN (((nth (t.nd) (a).toNat))))]) ∧ True) ?_ ?_
  ·
   unfold r20_18
   refine R_mv t18 ?_
   refine R_not (p := lxH (((nth (t.nd) (a).toNat))).ou (List.drop (w.length) ((ans o (cat ([w, ((nth (t.nd) (a).toNat)).sf]))).getD []))) (@rfl V (V.bool (decide (lxH (((nth (t.nd) (a).toNat))).ou (List.drop (w.length) ((ans o (cat ([w, ((nth (t.nd) (a).toNat)).sf]))).getD [])))))) ?_
   exact R_nil ⟨t2, t3, t4, t11, t12, t17, rfl, h3, h4, h12, trivial⟩
  intro T H ⟨t2, t3, t4, t11, t12, t17, t74, h3, h4, h12, _⟩
  refine W_seq_if (p := ¬(lxH (((nth (t.nd) (a).toNat))).ou (List.drop (w.length) ((ans o (cat ([w, ((nth (t.nd) (a).toNat)).sf]))).getD [])))) t74 (fun c9 => ?_) (fun c9 => ?_)
  ·
   have d6 : ¬lxH (nth t.nd a.toNat).ou (((ans o (cat [w, (nth t.nd a.toNat).sf])).getD []).drop w.length) := c9
   refine W_seq_exit ?_
   refine z6 _ _ _ (by decide) ?_
   refine p34 _ _ _ ?_
   refine x3 _ _ ?_
   refine .done ?_
   refine W_seq_regc (fun T H => T 6 = (iV (a)) ∧ T 7 = V.nilsl ∧ T 8 = (iV (0 : Int)) ∧ H 3 = (bk 1 24 1 [[(V.sl (List.map cN (t.nd)))]]) ∧ H 4 = (bk 1 37 2 [[(iV (o.i)), (V.sl (List.map cT (o.tr)))]]) ∧ H 12 = (bk (v12 + 1) 68 5 [(cN (((nth (t.nd) (a).toNat))))]) ∧ True) ?_ ?_
   ·
    unfold r20_20
    refine R_mv t11 ?_
    refine R_mv (@rfl V (iV (a))) ?_
    refine R_mv (@rfl V V.nilsl) ?_
    refine R_mv (@rfl V (iV (0 : Int))) ?_
    exact R_nil ⟨rfl, rfl, rfl, h3, h4, h12, trivial⟩
   intro T H ⟨t6, t7, t8, h3, h4, h12, _⟩
   refine W_ret ?_
   refine Ret_3 t6 t7 t8 (fz_int ?_) (fz_nil ?_) (fz_int ?_)
   · have e0 : sftR t o w = sftN t o w f a.toNat := by unfold sftR; rw [if_neg (by omega), if_neg (by omega), hc]
     rw [e0, sft_no hr.pos d1 d2 d3 d6]; exact (Int.toNat_of_nonneg ha).symm
   · have e0 : sftR t o w = sftN t o w f a.toNat := by unfold sftR; rw [if_neg (by omega), if_neg (by omega), hc]
     rw [e0, sft_no hr.pos d1 d2 d3 d6]
   · have e0 : sftR t o w = sftN t o w f a.toNat := by unfold sftR; rw [if_neg (by omega), if_neg (by omega), hc]
     rw [e0, sft_no hr.pos d1 d2 d3 d6]
  have d6 : lxH (nth t.nd a.toNat).ou (((ans o (cat [w, (nth t.nd a.toNat).sf])).getD []).drop w.length) := Decidable.not_not.1 c9
  have d7 : (nth (nth t.nd a.toNat).kd (lxN (nth t.nd a.toNat).ou (((ans o (cat [w, (nth t.nd a.toNat).sf])).getD []).drop w.length))) ∈ (nth t.nd a.toNat).kd := nth_mem (by have := d6.1; have := hin.len; omega)
  have d8 := hin.kr _ d7
  have d9 : lxN (nth t.nd a.toNat).ou (((ans o (cat [w, (nth t.nd a.toNat).sf])).getD []).drop w.length) < (nth t.nd a.toNat).kd.length := by have := d6.1; have := hin.len; omega
  refine W_seq_skip ?_
  refine W_regc (fun T H => T 2 = (ints w) ∧ T 3 = (V.mp 3 1 0 0) ∧ T 4 = (V.mp 4 1 0 0) ∧ T 11 = (iV ((nth (((nth (t.nd) (a).toNat)).kd) (lxN (((nth (t.nd) (a).toNat))).ou (List.drop (w.length) ((ans o (cat ([w, ((nth (t.nd) (a).toNat)).sf]))).getD [])))))) ∧ H 3 = (bk 1 24 1 [[(V.sl (List.map cN (t.nd)))]]) ∧ H 4 = (bk 1 37 2 [[(iV (o.i)), (V.sl (List.map cT (o.tr)))]]) ∧ H 12 = (bk (v12 + 1) 68 5 [(cN (((nth (t.nd) (a).toNat))))]) ∧ True) ?_ ?_
  ·
   unfold r20_19
   refine R_fld_mp (o' := 4) t12 h12 (by first | rfl | simp [okB, Blk.own]) rfl ?_
   refine R_load_mp (v := (ints (((nth (t.nd) (a).toNat)).kd))) (@rfl V (V.mp 12 (v12 + 1) 0 4)) h12 (by first | rfl | simp [ldB, ldV, Blk.own, V.one]) ?_
   refine R_mv t17 ?_
   refine R_idx (i := (lxN (((nth (t.nd) (a).toNat))).ou (List.drop (w.length) ((ans o (cat ([w, ((nth (t.nd) (a).toNat)).sf]))).getD [])))) (@rfl V (ints (((nth (t.nd) (a).toNat)).kd))) (@rfl V (iV ((lxN (((nth (t.nd) (a).toNat))).ou (List.drop (w.length) ((ans o (cat ([w, ((nth (t.nd) (a).toNat)).sf]))).getD [])) : Nat) : Int))) (by omega) rfl ?_
   refine R_load_pp (v := (iV ((nth (((nth (t.nd) (a).toNat)).kd) (lxN (((nth (t.nd) (a).toNat))).ou (List.drop (w.length) ((ans o (cat ([w, ((nth (t.nd) (a).toNat)).sf]))).getD []))))))) rfl (by first | rfl | simp [ldV]) ?_
   refine R_mv (@rfl V (iV ((nth (((nth (t.nd) (a).toNat)).kd) (lxN (((nth (t.nd) (a).toNat))).ou (List.drop (w.length) ((ans o (cat ([w, ((nth (t.nd) (a).toNat)).sf]))).getD []))))))) ?_
   exact R_nil ⟨t2, t3, t4, rfl, h3, h4, h12, trivial⟩
  intro T H ⟨t2, t3, t4, t11, h3, h4, h12, _⟩
  refine n6 _ _ ?_
  refine p14 _ _ _ ?_ ⟨(nth (nth t.nd a.toNat).kd (lxN (nth t.nd a.toNat).ou (((ans o (cat [w, (nth t.nd a.toNat).sf])).getD []).drop w.length))), (f - 1), (v12 + 1), rfl, t2, t3, t4, (Eq.trans t11 (by first | rfl | simp)), h3, h4, (congrArg Blk.ver h12), ?_, ?_, ?_⟩
  · have := hr.pos; omega
  · exact d8.1
  · exact hr.step d7 d8.1
  · rw [hc, sft_go hr.pos d1 d2 d3 d6]
 have d1 : (nth t.nd a.toNat).lf = true := by simpa using c5
 refine W_seq_exit ?_
 refine p34 _ _ _ ?_
 refine x3 _ _ ?_
 refine .done ?_
 refine W_seq_regc (fun T H => T 6 = (iV (a)) ∧ T 7 = V.nilsl ∧ T 8 = (iV (0 : Int)) ∧ H 3 = (bk 1 24 1 [[(V.sl (List.map cN (t.nd)))]]) ∧ H 4 = (bk 1 37 2 [[(iV (o.i)), (V.sl (List.map cT (o.tr)))]]) ∧ (H 12).ver = v12 ∧ True) ?_ ?_
 ·
  unfold r20_20
  refine R_mv t11 ?_
  refine R_mv (@rfl V (iV (a))) ?_
  refine R_mv (@rfl V V.nilsl) ?_
  refine R_mv (@rfl V (iV (0 : Int))) ?_
  exact R_nil ⟨rfl, rfl, rfl, h3, h4, h12, trivial⟩
 intro T H ⟨t6, t7, t8, h3, h4, h12, _⟩
 refine W_ret ?_
 refine Ret_3 t6 t7 t8 (fz_int ?_) (fz_nil ?_) (fz_int ?_)
 · have e0 : sftR t o w = sftN t o w f a.toNat := by unfold sftR; rw [if_neg (by omega), if_neg (by omega), hc]
   rw [e0, sft_leaf hr.pos d1]; exact (Int.toNat_of_nonneg ha).symm
 · have e0 : sftR t o w = sftN t o w f a.toNat := by unfold sftR; rw [if_neg (by omega), if_neg (by omega), hc]
   rw [e0, sft_leaf hr.pos d1]
 · have e0 : sftR t o w = sftN t o w f a.toNat := by unfold sftR; rw [if_neg (by omega), if_neg (by omega), hc]
   rw [e0, sft_leaf hr.pos d1]
end Go.Proofs.YtmnjchcoigbngaaGreat


namespace Go.Proofs.YtmnjchcoigbngaaGreat
open Go Go.Proofs
def r21_0 : List SO := [
  sO 3 (.box 24 1 (.t 0)),
  sO 4 (.box 37 2 (.t 1)),
  sO 6 (.mv (.c (.int .i64 0))),
  sO 7 (.mv (.c (.nilsl))),
  sO 8 (.mv (.c (.int .i64 0)))]
def r21_1 : List SO := [
  sO 17 (.load true 1 (.t 3)),
  sO 18 (.call false 12 [.t 17]),
  sO 9 (.mv (.t 18))]
def r21_2 : List SO := [
  sO 19 (.mv (.t 9)),
  sO 20 (.bin .neq (.t 19) (.c (.int .i64 0)))]
def r21_3 : List SO := [
  sO 21 (.mv (.t 9)),
  sO 6 (.mv (.c (.int .i64 0))),
  sO 7 (.mv (.c (.nilsl))),
  sO 8 (.mv (.t 21))]
def r21_4 : List SO := [
  sO 22 (.mv (.t 2)),
  sO 23 (.fld 0 (.t 4)),
  sO 24 (.load false 1 (.t 23)),
  sO 25 (.call false 44 [.t 22, .t 24]),
  sO 10 (.mv (.t 25))]
def r21_5 : List SO := [
  sO 26 (.mv (.t 10)),
  sO 27 (.bin .neq (.t 26) (.c (.int .i64 0)))]
def r21_6 : List SO := [
  sO 28 (.mv (.t 10)),
  sO 6 (.mv (.c (.int .i64 0))),
  sO 7 (.mv (.c (.nilsl))),
  sO 8 (.mv (.t 28))]
def r21_7 : List SO := [
  sO 11 (.mv (.c (.int .i64 0)))]
def r21_8 : List SO := [
  sO 29 (.fld 0 (.t 3)),
  sO 30 (.load false 1 (.t 29)),
  sO 31 (.mv (.t 11)),
  sO 32 (.idx 5 (.t 30) (.t 31)),
  sO 33 (.fld 0 (.t 32)),
  sO 34 (.load false 1 (.t 33)),
  sO 35 (.un .not (.t 34))]
def r21_9 : List SO := [
  sO 36 (.mv (.t 2)),
  sO 37 (.fld 0 (.t 3)),
  sO 38 (.load false 1 (.t 37)),
  sO 39 (.mv (.t 11)),
  sO 40 (.idx 5 (.t 38) (.t 39)),
  sO 41 (.fld 2 (.t 40)),
  sO 42 (.load false 1 (.t 41)),
  sO 43 (.bslice 38 1 false [.nilsl] 2 [(0, .t 36), (1, .t 42)]),
  sO 44 (.call false 31 [.t 43]),
  sO 12 (.mv (.t 44))]
def r21_10 : List SO := [
  sO 45 (.mv (.t 12)),
  sO 46 (.fld 0 (.t 4)),
  sO 47 (.load false 1 (.t 46)),
  sO 48 (.call false 44 [.t 45, .t 47]),
  sO 13 (.mv (.t 48))]
def r21_11 : List SO := [
  sO 49 (.mv (.t 13)),
  sO 50 (.bin .neq (.t 49) (.c (.int .i64 0)))]
def r21_12 : List SO := [
  sO 51 (.mv (.t 13)),
  sO 6 (.mv (.c (.int .i64 0))),
  sO 7 (.mv (.c (.nilsl))),
  sO 8 (.mv (.t 51))]
def r21_13 : List SO := [
  sO 53 (.load true 2 (.t 4)),
  sO 54 (.mv (.t 12)),
  sO 55 (.call false 30 [.t 53, .t 54]),
  sO 52 (.mv (.t 55)),
  sO 56 (.ext (.t 52) 0),
  sO 57 (.ext (.t 52) 1),
  sO 14 (.mv (.t 56)),
  sO 15 (.mv (.t 57))]
def r21_14 : List SO := [
  sO 58 (.mv (.t 15)),
  sO 59 (.un .not (.t 58))]
def r21_15 : List SO := [
  sO 60 (.mv (.t 12)),
  sO 6 (.mv (.c (.int .i64 0))),
  sO 7 (.mv (.t 60)),
  sO 8 (.mv (.c (.int .i64 0)))]
def r21_16 : List SO := [
  sO 61 (.fld 0 (.t 3)),
  sO 62 (.load false 1 (.t 61)),
  sO 63 (.mv (.t 11)),
  sO 64 (.idx 5 (.t 62) (.t 63)),
  sO 65 (.load true 5 (.t 64)),
  sO 66 (.mv (.t 14)),
  sO 67 (.mv (.t 2)),
  sO 68 (.len (.t 67)),
  sO 69 (.slice 1 (.t 66) (some (.t 68)) none),
  sO 70 (.call false 52 [.t 65, .t 69]),
  sO 16 (.mv (.t 70))]
def r21_17 : List SO := [
  sO 71 (.mv (.t 16)),
  sO 72 (.bin .lss (.t 71) (.c (.int .i64 0)))]
def r21_18 : List SO := [
  sO 73 (.mv (.t 11)),
  sO 6 (.mv (.t 73)),
  sO 7 (.mv (.c (.nilsl))),
  sO 8 (.mv (.c (.int .i64 0)))]
def r21_19 : List SO := [
  sO 74 (.mv (.t 16)),
  sO 11 (.mv (.t 74))]
def b21_0 : SC := .seq (.seq (.reg r21_8) (.cond (.t 35) (.skip) (.exit 0))) (.block 1 (.seq (.reg r21_9) (.seq (.seq (.reg r21_10) (.seq (.reg r21_11) (.cond (.t 50) (.seq (.reg r21_12) (.ret)) (.skip)))) (.seq (.reg r21_13) (.seq (.seq (.reg r21_14) (.cond (.t 59) (.seq (.reg r21_15) (.ret)) (.skip))) (.seq (.reg r21_16) (.seq (.seq (.reg r21_17) (.cond (.t 72) (.seq (.reg r21_18) (.ret)) (.skip))) (.reg r21_19))))))))
def r21_20 : List SO := [
  sO 75 (.mv (.t 11)),
  sO 6 (.mv (.t 75)),
  sO 7 (.mv (.c (.nilsl))),
  sO 8 (.mv (.c (.int .i64 0)))]
def s21 : SF := ⟨76, [.tmp 6, .tmp 7, .tmp 8], .seq (.reg r21_0) (.seq (.seq (.reg r21_1) (.seq (.reg r21_2) (.cond (.t 20) (.seq (.reg r21_3) (.ret)) (.skip)))) (.seq (.seq (.reg r21_4) (.seq (.reg r21_5) (.cond (.t 27) (.seq (.reg r21_6) (.ret)) (.skip)))) (.seq (.reg r21_7) (.seq (.block 0 (.loop b21_0)) (.seq (.reg r21_20) (.ret))))))⟩
theorem s21_ok : slimF Tryz.prog ⟨[57, 58, 59, 63, 67, 68, 77, 102, 103, 104, 110, 116, 120], []⟩ Tryz.f21 = some s21 := by kernel_rfl
end Go.Proofs.YtmnjchcoigbngaaGreat


namespace Go.Proofs.YtmnjchcoigbngaaGreat
open Go Go.Proofs
def r12_0 : List SO := [
  sO 1 (.box 24 1 (.t 0)),
  sO 2 (.mv (.c (.int .i64 0)))]
def r12_1 : List SO := [
  sO 6 (.fld 0 (.t 1)),
  sO 7 (.load false 1 (.t 6)),
  sO 8 (.len (.t 7)),
  sO 9 (.bin .eql (.t 8) (.c (.int .i64 0)))]
def r12_2 : List SO := [
  sO 2 (.mv (.c (.int .i64 19)))]
def r12_3 : List SO := [
  sO 10 (.fld 0 (.t 1)),
  sO 11 (.load false 1 (.t 10)),
  sO 12 (.len (.t 11)),
  sO 13 (.bin .gtr (.t 12) (.c (.int .i64 4096)))]
def r12_4 : List SO := [
  sO 2 (.mv (.c (.int .i64 11)))]
def r12_5 : List SO := [
  sO 3 (.mv (.c (.int .i64 0)))]
def r12_6 : List SO := [
  sO 14 (.mv (.t 3)),
  sO 15 (.fld 0 (.t 1)),
  sO 16 (.load false 1 (.t 15)),
  sO 17 (.len (.t 16)),
  sO 18 (.bin .lss (.t 14) (.t 17))]
def r12_8 : List SO := [
  sO 21 (.load true 1 (.t 1)),
  sO 22 (.fld 0 (.t 1)),
  sO 23 (.load false 1 (.t 22)),
  sO 24 (.mv (.t 3)),
  sO 25 (.idx 5 (.t 23) (.t 24)),
  sO 26 (.load true 5 (.t 25)),
  sO 27 (.call false 39 [.t 21, .t 26]),
  sO 4 (.mv (.t 27))]
def r12_9 : List SO := [
  sO 28 (.mv (.t 4)),
  sO 29 (.bin .neq (.t 28) (.c (.int .i64 0)))]
def r12_10 : List SO := [
  sO 30 (.mv (.t 4)),
  sO 2 (.mv (.t 30))]
def r12_7 : List SO := [
  sO 19 (.mv (.t 3)),
  sO 20 (.bin .add (.t 19) (.c (.int .i64 1))),
  sO 3 (.mv (.t 20))]
def b12_0 : SC := .seq (.seq (.reg r12_6) (.cond (.t 18) (.skip) (.exit 0))) (.seq (.block 1 (.seq (.reg r12_8) (.seq (.reg r12_9) (.cond (.t 29) (.seq (.reg r12_10) (.ret)) (.skip))))) (.reg r12_7))
def r12_11 : List SO := [
  sO 31 (.load true 1 (.t 1)),
  sO 32 (.call false 40 [.t 31]),
  sO 33 (.un .not (.t 32))]
def r12_12 : List SO := [
  sO 2 (.mv (.c (.int .i64 1)))]
def r12_13 : List SO := [
  sO 34 (.load true 1 (.t 1)),
  sO 35 (.call false 41 [.t 34]),
  sO 5 (.mv (.t 35))]
def r12_14 : List SO := [
  sO 36 (.mv (.t 5)),
  sO 37 (.call false 42 [.t 36]),
  sO 38 (.len (.t 37)),
  sO 39 (.mv (.t 5)),
  sO 40 (.len (.t 39)),
  sO 41 (.bin .neq (.t 38) (.t 40))]
def r12_15 : List SO := [
  sO 2 (.mv (.c (.int .i64 7)))]
def r12_16 : List SO := [
  sO 2 (.mv (.c (.int .i64 0)))]
def s12 : SF := ⟨42, [.tmp 2], .seq (.reg r12_0) (.seq (.seq (.reg r12_1) (.cond (.t 9) (.seq (.reg r12_2) (.ret)) (.skip))) (.seq (.seq (.reg r12_3) (.cond (.t 13) (.seq (.reg r12_4) (.ret)) (.skip))) (.seq (.seq (.reg r12_5) (.block 0 (.loop b12_0))) (.seq (.seq (.reg r12_11) (.cond (.t 33) (.seq (.reg r12_12) (.ret)) (.skip))) (.seq (.reg r12_13) (.seq (.seq (.reg r12_14) (.cond (.t 41) (.seq (.reg r12_15) (.ret)) (.skip))) (.seq (.reg r12_16) (.ret))))))))⟩
theorem s12_ok : slimF Tryz.prog ⟨[57, 58, 59, 63, 67, 68, 77, 102, 103, 104, 110, 116, 120], []⟩ Tryz.f12 = some s12 := by kernel_rfl
end Go.Proofs.YtmnjchcoigbngaaGreat


namespace Go.Proofs.YtmnjchcoigbngaaGreat
open Go Go.Proofs
def r39_0 : List SO := [
  sO 2 (.box 24 1 (.t 0)),
  sO 3 (.box 68 5 (.t 1)),
  sO 4 (.mv (.c (.int .i64 0)))]
def r39_1 : List SO := [
  sO 9 (.fld 0 (.t 3)),
  sO 10 (.load false 1 (.t 9))]
def r39_2 : List SO := [
  sO 11 (.fld 2 (.t 3)),
  sO 12 (.load false 1 (.t 11)),
  sO 13 (.len (.t 12)),
  sO 14 (.bin .gtr (.t 13) (.c (.int .i64 0))),
  sO 15 (.mv (.t 14)),
  ⟨some (15, false), some 16, .fld 3 (.t 3)⟩,
  ⟨some (15, false), some 17, .load false 1 (.t 16)⟩,
  ⟨some (15, false), some 18, .len (.t 17)⟩,
  ⟨some (15, false), some 19, .bin .gtr (.t 18) (.c (.int .i64 0))⟩,
  sO 20 (.pick (.t 15) (.c (.bool true)) (.t 19)),
  sO 21 (.mv (.t 20)),
  ⟨some (21, false), some 22, .fld 4 (.t 3)⟩,
  ⟨some (21, false), some 23, .load false 1 (.t 22)⟩,
  ⟨some (21, false), some 24, .len (.t 23)⟩,
  ⟨some (21, false), some 25, .bin .gtr (.t 24) (.c (.int .i64 0))⟩,
  sO 26 (.pick (.t 21) (.c (.bool true)) (.t 25))]
def r39_3 : List SO := [
  sO 4 (.mv (.c (.int .i64 1)))]
def r39_4 : List SO := [
  sO 27 (.fld 1 (.t 3)),
  sO 28 (.load false 1 (.t 27)),
  sO 29 (.call false 44 [.t 28, .c (.int .i64 64)]),
  sO 4 (.mv (.t 29))]
def r39_5 : List SO := [
  sO 30 (.fld 1 (.t 3)),
  sO 31 (.load false 1 (.t 30)),
  sO 32 (.len (.t 31)),
  sO 33 (.bin .gtr (.t 32) (.c (.int .i64 0)))]
def r39_6 : List SO := [
  sO 4 (.mv (.c (.int .i64 1)))]
def r39_7 : List SO := [
  sO 34 (.fld 2 (.t 3)),
  sO 35 (.load false 1 (.t 34)),
  sO 36 (.call false 69 [.t 35]),
  sO 5 (.mv (.t 36))]
def r39_8 : List SO := [
  sO 37 (.mv (.t 5)),
  sO 38 (.bin .neq (.t 37) (.c (.int .i64 0)))]
def r39_9 : List SO := [
  sO 39 (.mv (.t 5)),
  sO 4 (.mv (.t 39))]
def r39_10 : List SO := [
  sO 40 (.fld 3 (.t 3)),
  sO 41 (.load false 1 (.t 40)),
  sO 42 (.len (.t 41)),
  sO 43 (.fld 4 (.t 3)),
  sO 44 (.load false 1 (.t 43)),
  sO 45 (.len (.t 44)),
  sO 46 (.bin .neq (.t 42) (.t 45))]
def r39_11 : List SO := [
  sO 4 (.mv (.c (.int .i64 1)))]
def r39_12 : List SO := [
  sO 6 (.mv (.c (.int .i64 0)))]
def r39_13 : List SO := [
  sO 47 (.mv (.t 6)),
  sO 48 (.fld 4 (.t 3)),
  sO 49 (.load false 1 (.t 48)),
  sO 50 (.len (.t 49)),
  sO 51 (.bin .lss (.t 47) (.t 50))]
def r39_15 : List SO := [
  sO 54 (.fld 3 (.t 3)),
  sO 55 (.load false 1 (.t 54)),
  sO 56 (.mv (.t 6)),
  sO 57 (.idx 1 (.t 55) (.t 56)),
  sO 58 (.load false 1 (.t 57)),
  sO 59 (.fld 2 (.t 3)),
  sO 60 (.load false 1 (.t 59)),
  sO 61 (.call false 61 [.t 58, .t 60]),
  sO 7 (.mv (.t 61))]
def r39_16 : List SO := [
  sO 62 (.mv (.t 7)),
  sO 63 (.bin .neq (.t 62) (.c (.int .i64 0)))]
def r39_17 : List SO := [
  sO 64 (.mv (.t 7)),
  sO 4 (.mv (.t 64))]
def r39_18 : List SO := [
  sO 8 (.mv (.c (.int .i64 0)))]
def r39_19 : List SO := [
  sO 65 (.mv (.t 8)),
  sO 66 (.mv (.t 6)),
  sO 67 (.bin .lss (.t 65) (.t 66))]
def r39_21 : List SO := [
  sO 70 (.fld 3 (.t 3)),
  sO 71 (.load false 1 (.t 70)),
  sO 72 (.mv (.t 8)),
  sO 73 (.idx 1 (.t 71) (.t 72)),
  sO 74 (.load false 1 (.t 73)),
  sO 75 (.fld 3 (.t 3)),
  sO 76 (.load false 1 (.t 75)),
  sO 77 (.mv (.t 6)),
  sO 78 (.idx 1 (.t 76) (.t 77)),
  sO 79 (.load false 1 (.t 78)),
  sO 80 (.call false 76 [.t 74, .t 79]),
  sO 81 (.bin .geq (.t 80) (.c (.int .i64 0)))]
def r39_22 : List SO := [
  sO 4 (.mv (.c (.int .i64 10)))]
def r39_20 : List SO := [
  sO 68 (.mv (.t 8)),
  sO 69 (.bin .add (.t 68) (.c (.int .i64 1))),
  sO 8 (.mv (.t 69))]
def b39_1 : SC := .seq (.seq (.reg r39_19) (.cond (.t 67) (.skip) (.exit 2))) (.seq (.block 3 (.seq (.reg r39_21) (.cond (.t 81) (.seq (.reg r39_22) (.ret)) (.skip)))) (.reg r39_20))
def r39_23 : List SO := [
  sO 82 (.fld 4 (.t 3)),
  sO 83 (.load false 1 (.t 82)),
  sO 84 (.mv (.t 6)),
  sO 85 (.idx 1 (.t 83) (.t 84)),
  sO 86 (.load false 1 (.t 85)),
  sO 87 (.bin .lss (.t 86) (.c (.int .i64 0))),
  sO 88 (.mv (.t 87)),
  ⟨some (88, false), some 89, .fld 4 (.t 3)⟩,
  ⟨some (88, false), some 90, .load false 1 (.t 89)⟩,
  ⟨some (88, false), some 91, .mv (.t 6)⟩,
  ⟨some (88, false), some 92, .idx 1 (.t 90) (.t 91)⟩,
  ⟨some (88, false), some 93, .load false 1 (.t 92)⟩,
  ⟨some (88, false), some 94, .fld 0 (.t 2)⟩,
  ⟨some (88, false), some 95, .load false 1 (.t 94)⟩,
  ⟨some (88, false), some 96, .len (.t 95)⟩,
  ⟨some (88, false), some 97, .bin .geq (.t 93) (.t 96)⟩,
  sO 98 (.pick (.t 88) (.c (.bool true)) (.t 97))]
def r39_24 : List SO := [
  sO 4 (.mv (.c (.int .i64 2)))]
def r39_14 : List SO := [
  sO 52 (.mv (.t 6)),
  sO 53 (.bin .add (.t 52) (.c (.int .i64 1))),
  sO 6 (.mv (.t 53))]
def b39_0 : SC := .seq (.seq (.reg r39_13) (.cond (.t 51) (.skip) (.exit 0))) (.seq (.block 1 (.seq (.seq (.reg r39_15) (.seq (.reg r39_16) (.cond (.t 63) (.seq (.reg r39_17) (.ret)) (.skip)))) (.seq (.seq (.reg r39_18) (.block 2 (.loop b39_1))) (.seq (.reg r39_23) (.cond (.t 98) (.seq (.reg r39_24) (.ret)) (.skip)))))) (.reg r39_14))
def r39_25 : List SO := [
  sO 4 (.mv (.c (.int .i64 0)))]
def s39 : SF := ⟨99, [.tmp 4], .seq (.reg r39_0) (.seq (.seq (.reg r39_1) (.cond (.t 10) (.seq (.seq (.reg r39_2) (.cond (.t 26) (.seq (.reg r39_3) (.ret)) (.skip))) (.seq (.reg r39_4) (.ret))) (.skip))) (.seq (.seq (.reg r39_5) (.cond (.t 33) (.seq (.reg r39_6) (.ret)) (.skip))) (.seq (.seq (.reg r39_7) (.seq (.reg r39_8) (.cond (.t 38) (.seq (.reg r39_9) (.ret)) (.skip)))) (.seq (.seq (.reg r39_10) (.cond (.t 46) (.seq (.reg r39_11) (.ret)) (.skip))) (.seq (.seq (.reg r39_12) (.block 0 (.loop b39_0))) (.seq (.reg r39_25) (.ret)))))))⟩
theorem s39_ok : slimF Tryz.prog ⟨[57, 58, 59, 63, 67, 68, 77, 102, 103, 104, 110, 116, 120], []⟩ Tryz.f39 = some s39 := by kernel_rfl
end Go.Proofs.YtmnjchcoigbngaaGreat


namespace Go.Proofs.YtmnjchcoigbngaaGreat
open Go Go.Proofs
def r61_0 : List SO := [
  sO 4 (.mv (.c (.int .i64 0)))]
def r61_1 : List SO := [
  sO 6 (.mv (.t 0)),
  sO 7 (.len (.t 6)),
  sO 8 (.mv (.t 1)),
  sO 9 (.len (.t 8)),
  sO 10 (.bin .neq (.t 7) (.t 9))]
def r61_2 : List SO := [
  sO 4 (.mv (.c (.int .i64 1)))]
def r61_3 : List SO := [
  sO 5 (.mv (.c (.int .i64 0)))]
def r61_4 : List SO := [
  sO 11 (.mv (.t 5)),
  sO 12 (.mv (.t 0)),
  sO 13 (.len (.t 12)),
  sO 14 (.bin .lss (.t 11) (.t 13))]
def r61_6 : List SO := [
  sO 17 (.mv (.t 0)),
  sO 18 (.mv (.t 5)),
  sO 19 (.idx 1 (.t 17) (.t 18)),
  sO 20 (.load false 1 (.t 19)),
  sO 21 (.bin .lss (.t 20) (.c (.int .i64 0))),
  sO 22 (.mv (.t 21)),
  ⟨some (22, false), some 23, .mv (.t 0)⟩,
  ⟨some (22, false), some 24, .mv (.t 5)⟩,
  ⟨some (22, false), some 25, .idx 1 (.t 23) (.t 24)⟩,
  ⟨some (22, false), some 26, .load false 1 (.t 25)⟩,
  ⟨some (22, false), some 27, .bin .gtr (.t 26) (.c (.int .i64 1048576))⟩,
  sO 28 (.pick (.t 22) (.c (.bool true)) (.t 27))]
def r61_7 : List SO := [
  sO 4 (.mv (.c (.int .i64 2)))]
def r61_5 : List SO := [
  sO 15 (.mv (.t 5)),
  sO 16 (.bin .add (.t 15) (.c (.int .i64 1))),
  sO 5 (.mv (.t 16))]
def b61_0 : SC := .seq (.seq (.reg r61_4) (.cond (.t 14) (.skip) (.exit 0))) (.seq (.block 1 (.seq (.reg r61_6) (.cond (.t 28) (.seq (.reg r61_7) (.ret)) (.skip)))) (.reg r61_5))
def r61_8 : List SO := [
  sO 4 (.mv (.c (.int .i64 0)))]
def s61 : SF := ⟨29, [.tmp 4], .seq (.reg r61_0) (.seq (.seq (.reg r61_1) (.cond (.t 10) (.seq (.reg r61_2) (.ret)) (.skip))) (.seq (.seq (.reg r61_3) (.block 0 (.loop b61_0))) (.seq (.reg r61_8) (.ret))))⟩
theorem s61_ok : slimF Tryz.prog ⟨[57, 58, 59, 63, 67, 68, 77, 102, 103, 104, 110, 116, 120], []⟩ Tryz.f61 = some s61 := by kernel_rfl
end Go.Proofs.YtmnjchcoigbngaaGreat


namespace Go.Proofs.YtmnjchcoigbngaaGreat
open Go Go.Proofs
theorem outputs_pure (outs suffix : List Int) : PureC Tryz.prog 61 [(ints outs), (ints suffix)] (iV (vlE outs suffix)) := by
 refine pure_of_Wb true 6 Tryz.func61 s61_ok (by kernel_rfl) (by simp [s61]) (by simp) (by simp) fun hB => ?_
 simp only [bnd_map, bnd_int, bnd_bool, bnd_str, bnd_agg, bnd_pp, bnd_nil, bnd_cons, implies_true, and_true, true_and] at hB
 unfold s61
 dsimp only
 refine W_seq_regc (fun T H => T 0 = (ints outs) ∧ T 1 = (ints suffix) ∧ True) ?_ ?_
 ·
  unfold r61_0
  refine R_mv (@rfl V (iV (0 : Int))) ?_
  exact R_nil ⟨rfl, rfl, trivial⟩
 intro T H ⟨t0, t1, _⟩
 refine W_seq_seq ?_
 refine W_seq_regc (fun T H => T 0 = (ints outs) ∧ T 10 = (V.bool (decide (((outs.length : Nat) : Int) ≠ ((suffix.length : Nat) : Int)))) ∧ True) ?_ ?_
 ·
  unfold r61_1
  refine R_mv t0 ?_
  refine R_len (@rfl V (ints outs)) ?_
  refine R_mv t1 ?_
  refine R_len (@rfl V (ints suffix)) ?_
  refine R_neq (x := ((outs.length : Nat) : Int)) (y := ((suffix.length : Nat) : Int)) (@rfl V (iV ((outs.length : Nat) : Int))) (@rfl V (iV ((suffix.length : Nat) : Int))) ?_
  exact R_nil ⟨t0, rfl, trivial⟩
 intro T H ⟨t0, t10, _⟩
 refine W_seq_if (p := ((outs.length : Nat) : Int) ≠ ((suffix.length : Nat) : Int)) t10 (fun c1 => ?_) (fun c1 => ?_)
 ·
  refine W_seq_seq ?_
  refine W_seq_regc (fun T H => T 4 = (iV (1 : Int)) ∧ True) ?_ ?_
  ·
   unfold r61_2
   refine R_mv (@rfl V (iV (1 : Int))) ?_
   exact R_nil ⟨rfl, trivial⟩
  intro T H ⟨t4, _⟩
  refine W_seq_ret ?_
  refine Ret_1 t4 (fz_int ?_)
  · rw [vlE, if_pos (by omega)]
 refine W_seq_skip ?_
 refine W_seq_seq ?_
 refine W_seq_regc (fun T H => T 0 = (ints outs) ∧ T 5 = (iV (0 : Int)) ∧ True) ?_ ?_
 ·
  unfold r61_3
  refine R_mv (@rfl V (iV (0 : Int))) ?_
  exact R_nil ⟨t0, rfl, trivial⟩
 intro T H ⟨t0, t5, _⟩
 refine W_seq_blockg fun Q2 n2 x2 y2 z2 => ?_
 refine W_loop (fun mm T H => ∃ (k : Nat), mm = outs.length - k ∧ T 0 = (ints outs) ∧ T 5 = (iV ((k : Nat) : Int)) ∧ (k ≤ outs.length) ∧ (outs.length = suffix.length) ∧ (fe (ouE outs) 0 outs.length = fe (ouE outs) k (outs.length - k))) ?_ ?_
 ·
  refine ⟨_, 0, rfl, t0, (Eq.trans t5 (by first | rfl | simp)), ?_, ?_, ?_⟩
  · omega
  · omega
  · rfl
 intro mm T H ⟨k, hmm, t0, t5, hk, hl, hc⟩ Q3 p13 p23 p33
 unfold b61_0
 refine W_seq_seq ?_
 refine W_seq_regc (fun T H => T 0 = (ints outs) ∧ T 5 = (iV ((k : Nat) : Int)) ∧ T 14 = (V.bool (decide (((k : Nat) : Int) < ((outs.length : Nat) : Int)))) ∧ True) ?_ ?_
 ·
  unfold r61_4
  refine R_mv t5 ?_
  refine R_mv t0 ?_
  refine R_len (@rfl V (ints outs)) ?_
  refine R_lss (x := ((k : Nat) : Int)) (y := ((outs.length : Nat) : Int)) (@rfl V (iV ((k : Nat) : Int))) (@rfl V (iV ((outs.length : Nat) : Int))) ?_
  exact R_nil ⟨t0, t5, rfl, trivial⟩
 intro T H ⟨t0, t5, t14, _⟩
 refine W_seq_if (p := ((k : Nat) : Int) < ((outs.length : Nat) : Int)) t14 (fun c4 => ?_) (fun c4 => ?_)
 ·
  refine W_seq_skip ?_
  refine W_seq_blockg fun Q5 n5 x5 y5 z5 => ?_
  refine W_seq_regc (fun T H => T 0 = (ints outs) ∧ T 5 = (iV ((k : Nat) : Int)) ∧ T 28 = (V.bool (decide ((((nth (outs) (k))) < (0 : Int)) ∨ ((1048576 : Int) < ((nth (outs) (k))))))) ∧ True) ?_ ?_
  ·
   unfold r61_6
   refine R_mv t0 ?_
   refine R_mv t5 ?_
   refine R_idx (i := k) (@rfl V (ints outs)) (@rfl V (iV ((k : Nat) : Int))) (by omega) rfl ?_
   refine R_load_pp (v := (iV ((nth (outs) (k))))) rfl (by first | rfl | simp [ldV]) ?_
   refine R_lss (x := ((nth (outs) (k)))) (y := (0 : Int)) (@rfl V (iV ((nth (outs) (k))))) (@rfl V (iV (0 : Int))) ?_
   refine R_mv (@rfl V (V.bool (decide (((nth (outs) (k))) < (0 : Int))))) ?_
   refine Ops_seg 6 (fun T H => T 0 = (ints outs) ∧ T 5 = (iV ((k : Nat) : Int)) ∧ T 28 = (V.bool (decide ((((nth (outs) (k))) < (0 : Int)) ∨ ((1048576 : Int) < ((nth (outs) (k))))))) ∧ True) ?_ ?_
   ·
    by_cases g6 : ((nth (outs) (k))) < (0 : Int)
    ·
     refine G_no (Eq.trans (@rfl V (V.bool (decide (((nth (outs) (k))) < (0 : Int))))) (bdT g6)) (by decide) ?_
     refine G_no (Eq.trans (@rfl V (V.bool (decide (((nth (outs) (k))) < (0 : Int))))) (bdT g6)) (by decide) ?_
     refine G_no (Eq.trans (@rfl V (V.bool (decide (((nth (outs) (k))) < (0 : Int))))) (bdT g6)) (by decide) ?_
     refine G_no (Eq.trans (@rfl V (V.bool (decide (((nth (outs) (k))) < (0 : Int))))) (bdT g6)) (by decide) ?_
     refine G_no (Eq.trans (@rfl V (V.bool (decide (((nth (outs) (k))) < (0 : Int))))) (bdT g6)) (by decide) ?_
     refine R_pickT (Eq.trans (@rfl V (V.bool (decide (((nth (outs) (k))) < (0 : Int))))) (bdT g6)) (@rfl V (V.bool true)) ?_
     exact ⟨t0, t5, (Eq.trans (@rfl V (V.bool true)) (dec_orT g6)), trivial⟩
    ·
     refine G_yes (Eq.trans (@rfl V (V.bool (decide (((nth (outs) (k))) < (0 : Int))))) (bdF g6)) ?_
     refine R_mv t0 ?_
     refine G_yes (Eq.trans (@rfl V (V.bool (decide (((nth (outs) (k))) < (0 : Int))))) (bdF g6)) ?_
     refine R_mv t5 ?_
     refine G_yes (Eq.trans (@rfl V (V.bool (decide (((nth (outs) (k))) < (0 : Int))))) (bdF g6)) ?_
     refine R_idx (i := k) (@rfl V (ints outs)) (@rfl V (iV ((k : Nat) : Int))) (by omega) rfl ?_
     refine G_yes (Eq.trans (@rfl V (V.bool (decide (((nth (outs) (k))) < (0 : Int))))) (bdF g6)) ?_
     refine R_load_pp (v := (iV ((nth (outs) (k))))) rfl (by first | rfl | simp [ldV]) ?_
     refine G_yes (Eq.trans (@rfl V (V.bool (decide (((nth (outs) (k))) < (0 : Int))))) (bdF g6)) ?_
     refine R_gtr (x := ((nth (outs) (k)))) (y := (1048576 : Int)) (@rfl V (iV ((nth (outs) (k))))) (@rfl V (iV (1048576 : Int))) ?_
     refine R_pickF (Eq.trans (@rfl V (V.bool (decide (((nth (outs) (k))) < (0 : Int))))) (bdF g6)) (@rfl V (V.bool (decide ((1048576 : Int) < ((nth (outs) (k))))))) ?_
     exact ⟨t0, t5, (Eq.trans (@rfl V (V.bool (decide ((1048576 : Int) < ((nth (outs) (k))))))) (dec_orF g6)), trivial⟩
   intro T H ⟨t0, t5, t28, _⟩
   exact R_nil ⟨t0, t5, t28, trivial⟩
  intro T H ⟨t0, t5, t28, _⟩
  refine W_if (p := (((nth (outs) (k))) < (0 : Int)) ∨ ((1048576 : Int) < ((nth (outs) (k))))) t28 (fun c7 => ?_) (fun c7 => ?_)
  ·
   refine W_seq_regc (fun T H => T 4 = (iV (2 : Int)) ∧ True) ?_ ?_
   ·
    unfold r61_7
    refine R_mv (@rfl V (iV (2 : Int))) ?_
    exact R_nil ⟨rfl, trivial⟩
   intro T H ⟨t4, _⟩
   refine W_ret ?_
   refine y5 _ _ ?_
   refine p23 _ _ ?_
   refine y2 _ _ ?_
   refine Ret_1 t4 (fz_int ?_)
   · rw [vlE, if_neg (by omega)]; rw [hc, fe_hit (by unfold ouE; split <;> omega) (by omega)]; unfold ouE; split <;> omega
  refine W_skip ?_
  refine n5 _ _ ?_
  refine .done ?_
  refine W_regc (fun T H => T 0 = (ints outs) ∧ T 5 = (iV ((k + 1 : Nat) : Int)) ∧ True) ?_ ?_
  ·
   unfold r61_5
   refine R_mv t5 ?_
   refine R_addN (m := k) (n := 1) (@rfl V (iV ((k : Nat) : Int))) (@rfl V (iV ((1 : Nat) : Int))) (by omega) ?_
   refine R_mv (@rfl V (iV ((k + 1 : Nat) : Int))) ?_
   exact R_nil ⟨t0, rfl, trivial⟩
  intro T H ⟨t0, t5, _⟩
  refine p13 _ _ _ ?_ ⟨(k + 1), rfl, t0, (Eq.trans t5 (by first | rfl | simp)), ?_, ?_, ?_⟩
  · omega
  · omega
  · omega
  · rw [hc, fe_skip (by unfold ouE; split <;> omega) (by omega)]
 refine W_seq_exit ?_
 refine p33 _ _ _ ?_
 refine x2 _ _ ?_
 refine .done ?_
 refine W_seq_regc (fun T H => T 4 = (iV (0 : Int)) ∧ True) ?_ ?_
 ·
  unfold r61_8
  refine R_mv (@rfl V (iV (0 : Int))) ?_
  exact R_nil ⟨rfl, trivial⟩
 intro T H ⟨t4, _⟩
 refine W_ret ?_
 refine Ret_1 t4 (fz_int ?_)
 · rw [vlE, if_neg (by omega)]; rw [hc, fe_end (by omega)]
end Go.Proofs.YtmnjchcoigbngaaGreat


namespace Go.Proofs.YtmnjchcoigbngaaGreat
open Go Go.Proofs
def r69_0 : List SO := [
  sO 2 (.mv (.c (.int .i64 0)))]
def r69_1 : List SO := [
  sO 3 (.mv (.t 0)),
  sO 4 (.len (.t 3)),
  sO 5 (.bin .eql (.t 4) (.c (.int .i64 0)))]
def r69_2 : List SO := [
  sO 2 (.mv (.c (.int .i64 19)))]
def r69_3 : List SO := [
  sO 6 (.mv (.t 0)),
  sO 7 (.call false 44 [.t 6, .c (.int .i64 64)]),
  sO 2 (.mv (.t 7))]
def s69 : SF := ⟨8, [.tmp 2], .seq (.reg r69_0) (.seq (.seq (.reg r69_1) (.cond (.t 5) (.seq (.reg r69_2) (.ret)) (.skip))) (.seq (.reg r69_3) (.ret)))⟩
theorem s69_ok : slimF Tryz.prog ⟨[57, 58, 59, 63, 67, 68, 77, 102, 103, 104, 110, 116, 120], []⟩ Tryz.f69 = some s69 := by kernel_rfl
end Go.Proofs.YtmnjchcoigbngaaGreat


namespace Go.Proofs.YtmnjchcoigbngaaGreat
open Go Go.Proofs
theorem ending_pure (s : List Int) : PureC Tryz.prog 69 [(ints s)] (iV (if s.length = 0 then 19 else wchk s 64)) := by
 refine pure_of_Wb true 6 Tryz.func69 s69_ok (by kernel_rfl) (by simp [s69]) (by simp) (by simp) fun hB => ?_
 simp only [bnd_map, bnd_int, bnd_bool, bnd_str, bnd_agg, bnd_pp, bnd_nil, bnd_cons, implies_true, and_true, true_and] at hB
 unfold s69
 dsimp only
 refine W_seq_regc (fun T H => T 0 = (ints s) ∧ True) ?_ ?_
 ·
  unfold r69_0
  refine R_mv (@rfl V (iV (0 : Int))) ?_
  exact R_nil ⟨rfl, trivial⟩
 intro T H ⟨t0, _⟩
 refine W_seq_seq ?_
 refine W_seq_regc (fun T H => T 0 = (ints s) ∧ T 5 = (V.bool (decide (((s.length : Nat) : Int) = (0 : Int)))) ∧ True) ?_ ?_
 ·
  unfold r69_1
  refine R_mv t0 ?_
  refine R_len (@rfl V (ints s)) ?_
  refine R_eql (x := ((s.length : Nat) : Int)) (y := (0 : Int)) (@rfl V (iV ((s.length : Nat) : Int))) (@rfl V (iV (0 : Int))) ?_
  exact R_nil ⟨t0, rfl, trivial⟩
 intro T H ⟨t0, t5, _⟩
 refine W_seq_if (p := ((s.length : Nat) : Int) = (0 : Int)) t5 (fun c1 => ?_) (fun c1 => ?_)
 ·
  refine W_seq_seq ?_
  refine W_seq_regc (fun T H => T 2 = (iV (19 : Int)) ∧ True) ?_ ?_
  ·
   unfold r69_2
   refine R_mv (@rfl V (iV (19 : Int))) ?_
   exact R_nil ⟨rfl, trivial⟩
  intro T H ⟨t2, _⟩
  refine W_seq_ret ?_
  refine Ret_1 t2 (fz_int ?_)
  · rw [if_pos (by omega)]
 refine W_seq_skip ?_
 refine W_seq_regc (fun T H => T 2 = (iV (wchk s ((64 : Int)))) ∧ True) ?_ ?_
 ·
  unfold r69_3
  refine R_mv t0 ?_
  refine R_callc (evcons (@rfl V (ints s)) (evcons (@rfl V (iV (64 : Int))) evnil)) (rcheck_pure s ((64 : Int))) ?_
  refine R_mv (@rfl V (iV (wchk s ((64 : Int))))) ?_
  exact R_nil ⟨rfl, trivial⟩
 intro T H ⟨t2, _⟩
 refine W_ret ?_
 refine Ret_1 t2 (fz_int ?_)
 · rw [if_neg (by omega)]
end Go.Proofs.YtmnjchcoigbngaaGreat


namespace Go.Proofs.YtmnjchcoigbngaaGreat
open Go Go.Proofs
theorem rnode_pure (t : Dt) (x : Nd) (ho : x.ou.length ≤ 1048576) (hk0 : x.kd.length ≤ 1048576) : PureC Tryz.prog 39 [(V.agg [(V.sl (List.map cN (t.nd)))]), (V.agg (cN x))] (iV (ndE x t.nd.length)) := by
 refine pure_of_Wb true 6 Tryz.func39 s39_ok (by kernel_rfl) (by simp [s39]) (by simp) (by simp) fun hB => ?_
 simp only [bnd_map, bnd_int, bnd_bool, bnd_str, bnd_agg, bnd_pp, bnd_nil, bnd_cons, implies_true, and_true, true_and] at hB
 unfold s39
 dsimp only
 refine W_seq_regc (fun T H => T 2 = (V.mp 2 1 0 0) ∧ T 3 = (V.mp 3 1 0 0) ∧ H 2 = (bk 1 24 1 [[(V.sl (List.map cN (t.nd)))]]) ∧ H 3 = (bk 1 68 5 [(cN x)]) ∧ True) ?_ ?_
 ·
  unfold r39_0
  refine R_box (i := 2) (n := 0) (m := 1) (cs := [(V.sl (List.map cN (t.nd)))]) rfl (congrArg Blk.ver rfl) (@rfl V (V.agg [(V.sl (List.map cN (t.nd)))])) rfl rfl ?_
  refine R_box (i := 3) (n := 0) (m := 5) (cs := [(V.bool x.lf), (ints x.ac), (ints x.sf), (intss x.ou), (ints x.kd)]) rfl (congrArg Blk.ver rfl) (@rfl V (V.agg (cN x))) rfl rfl ?_
  refine R_mv (@rfl V (iV (0 : Int))) ?_
  exact R_nil ⟨rfl, rfl, rfl, rfl, trivial⟩
 intro T H ⟨t2, t3, h2, h3, _⟩
 refine W_seq_seq ?_
 refine W_seq_regc (fun T H => T 2 = (V.mp 2 1 0 0) ∧ T 3 = (V.mp 3 1 0 0) ∧ T 10 = (V.bool x.lf) ∧ H 2 = (bk 1 24 1 [[(V.sl (List.map cN (t.nd)))]]) ∧ H 3 = (bk 1 68 5 [(cN x)]) ∧ True) ?_ ?_
 ·
  unfold r39_1
  refine R_fld_mp (o' := 0) t3 h3 (by first | rfl | simp [okB, Blk.own]) rfl ?_
  refine R_load_mp (v := (V.bool x.lf)) (@rfl V (V.mp 3 1 0 0)) h3 (by first | rfl | simp [ldB, ldV, Blk.own, V.one]) ?_
  exact R_nil ⟨t2, t3, rfl, h2, h3, trivial⟩
 intro T H ⟨t2, t3, t10, h2, h3, _⟩
 refine W_seq_ifb t10 (fun c1 => ?_) (fun c1 => ?_)
 ·
  have d0 : x.lf = true := c1
  refine W_seq_seq ?_
  refine W_seq_seq ?_
  refine W_seq_regc (fun T H => T 3 = (V.mp 3 1 0 0) ∧ T 26 = (V.bool (decide ((((0 : Int) < ((x.sf.length : Nat) : Int)) ∨ ((0 : Int) < ((x.ou.length : Nat) : Int))) ∨ ((0 : Int) < ((x.kd.length : Nat) : Int))))) ∧ H 2 = (bk 1 24 1 [[(V.sl (List.map cN (t.nd)))]]) ∧ H 3 = (bk 1 68 5 [(cN x)]) ∧ True) ?_ ?_
  ·
   unfold r39_2
   refine R_fld_mp (o' := 2) t3 h3 (by first | rfl | simp [okB, Blk.own]) rfl ?_
   refine R_load_mp (v := (ints x.sf)) (@rfl V (V.mp 3 1 0 2)) h3 (by first | rfl | simp [ldB, ldV, Blk.own, V.one]) ?_
   refine R_len (@rfl V (ints x.sf)) ?_
   refine R_gtr (x := ((x.sf.length : Nat) : Int)) (y := (0 : Int)) (@rfl V (iV ((x.sf.length : Nat) : Int))) (@rfl V (iV (0 : Int))) ?_
   refine R_mv (@rfl V (V.bool (decide ((0 : Int) < ((x.sf.length : Nat) : Int))))) ?_
   refine Ops_seg 5 (fun T H => T 3 = (V.mp 3 1 0 0) ∧ T 20 = (V.bool (decide (((0 : Int) < ((x.sf.length : Nat) : Int)) ∨ ((0 : Int) < ((x.ou.length : Nat) : Int))))) ∧ H 2 = (bk 1 24 1 [[(V.sl (List.map cN (t.nd)))]]) ∧ H 3 = (bk 1 68 5 [(cN x)]) ∧ True) ?_ ?_
   ·
    by_cases g2 : (0 : Int) < ((x.sf.length : Nat) : Int)
    ·
     refine G_no (Eq.trans (@rfl V (V.bool (decide ((0 : Int) < ((x.sf.length : Nat) : Int))))) (bdT g2)) (by decide) ?_
     refine G_no (Eq.trans (@rfl V (V.bool (decide ((0 : Int) < ((x.sf.length : Nat) : Int))))) (bdT g2)) (by decide) ?_
     refine G_no (Eq.trans (@rfl V (V.bool (decide ((0 : Int) < ((x.sf.length : Nat) : Int))))) (bdT g2)) (by decide) ?_
     refine G_no (Eq.trans (@rfl V (V.bool (decide ((0 : Int) < ((x.sf.length : Nat) : Int))))) (bdT g2)) (by decide) ?_
     refine R_pickT (Eq.trans (@rfl V (V.bool (decide ((0 : Int) < ((x.sf.length : Nat) : Int))))) (bdT g2)) (@rfl V (V.bool true)) ?_
     exact ⟨t3, (Eq.trans (@rfl V (V.bool true)) (dec_orT g2)), h2, h3, trivial⟩
    ·
     refine G_yes (Eq.trans (@rfl V (V.bool (decide ((0 : Int) < ((x.sf.length : Nat) : Int))))) (bdF g2)) ?_
     refine R_fld_mp (o' := 3) t3 h3 (by first | rfl | simp [okB, Blk.own]) rfl ?_
     refine G_yes (Eq.trans (@rfl V (V.bool (decide ((0 : Int) < ((x.sf.length : Nat) : Int))))) (bdF g2)) ?_
     refine R_load_mp (v := (intss x.ou)) (@rfl V (V.mp 3 1 0 3)) h3 (by first | rfl | simp [ldB, ldV, Blk.own, V.one]) ?_
     refine G_yes (Eq.trans (@rfl V (V.bool (decide ((0 : Int) < ((x.sf.length : Nat) : Int))))) (bdF g2)) ?_
     refine R_len (@rfl V (intss x.ou)) ?_
     refine G_yes (Eq.trans (@rfl V (V.bool (decide ((0 : Int) < ((x.sf.length : Nat) : Int))))) (bdF g2)) ?_
     refine R_gtr (x := ((x.ou.length : Nat) : Int)) (y := (0 : Int)) (@rfl V (iV ((x.ou.length : Nat) : Int))) (@rfl V (iV (0 : Int))) ?_
     refine R_pickF (Eq.trans (@rfl V (V.bool (decide ((0 : Int) < ((x.sf.length : Nat) : Int))))) (bdF g2)) (@rfl V (V.bool (decide ((0 : Int) < ((x.ou.length : Nat) : Int))))) ?_
     exact ⟨t3, (Eq.trans (@rfl V (V.bool (decide ((0 : Int) < ((x.ou.length : Nat) : Int))))) (dec_orF g2)), h2, h3, trivial⟩
   intro T H ⟨t3, t20, h2, h3, _⟩
   refine R_mv t20 ?_
   refine Ops_seg 5 (fun T H => T 3 = (V.mp 3 1 0 0) ∧ T 26 = (V.bool (decide ((((0 : Int) < ((x.sf.length : Nat) : Int)) ∨ ((0 : Int) < ((x.ou.length : Nat) : Int))) ∨ ((0 : Int) < ((x.kd.length : Nat) : Int))))) ∧ H 2 = (bk 1 24 1 [[(V.sl (List.map cN (t.nd)))]]) ∧ H 3 = (bk 1 68 5 [(cN x)]) ∧ True) ?_ ?_
   ·
    by_cases g3 : ((0 : Int) < ((x.sf.length : Nat) : Int)) ∨ ((0 : Int) < ((x.ou.length : Nat) : Int))
    ·
     refine G_no (Eq.trans (@rfl V (V.bool (decide (((0 : Int) < ((x.sf.length : Nat) : Int)) ∨ ((0 : Int) < ((x.ou.length : Nat) : Int)))))) (bdT g3)) (by decide) ?_
     refine G_no (Eq.trans (@rfl V (V.bool (decide (((0 : Int) < ((x.sf.length : Nat) : Int)) ∨ ((0 : Int) < ((x.ou.length : Nat) : Int)))))) (bdT g3)) (by decide) ?_
     refine G_no (Eq.trans (@rfl V (V.bool (decide (((0 : Int) < ((x.sf.length : Nat) : Int)) ∨ ((0 : Int) < ((x.ou.length : Nat) : Int)))))) (bdT g3)) (by decide) ?_
     refine G_no (Eq.trans (@rfl V (V.bool (decide (((0 : Int) < ((x.sf.length : Nat) : Int)) ∨ ((0 : Int) < ((x.ou.length : Nat) : Int)))))) (bdT g3)) (by decide) ?_
     refine R_pickT (Eq.trans (@rfl V (V.bool (decide (((0 : Int) < ((x.sf.length : Nat) : Int)) ∨ ((0 : Int) < ((x.ou.length : Nat) : Int)))))) (bdT g3)) (@rfl V (V.bool true)) ?_
     exact ⟨t3, (Eq.trans (@rfl V (V.bool true)) (dec_orT g3)), h2, h3, trivial⟩
    ·
     refine G_yes (Eq.trans (@rfl V (V.bool (decide (((0 : Int) < ((x.sf.length : Nat) : Int)) ∨ ((0 : Int) < ((x.ou.length : Nat) : Int)))))) (bdF g3)) ?_
     refine R_fld_mp (o' := 4) t3 h3 (by first | rfl | simp [okB, Blk.own]) rfl ?_
     refine G_yes (Eq.trans (@rfl V (V.bool (decide (((0 : Int) < ((x.sf.length : Nat) : Int)) ∨ ((0 : Int) < ((x.ou.length : Nat) : Int)))))) (bdF g3)) ?_
     refine R_load_mp (v := (ints x.kd)) (@rfl V (V.mp 3 1 0 4)) h3 (by first | rfl | simp [ldB, ldV, Blk.own, V.one]) ?_
     refine G_yes (Eq.trans (@rfl V (V.bool (decide (((0 : Int) < ((x.sf.length : Nat) : Int)) ∨ ((0 : Int) < ((x.ou.length : Nat) : Int)))))) (bdF g3)) ?_
     refine R_len (@rfl V (ints x.kd)) ?_
     refine G_yes (Eq.trans (@rfl V (V.bool (decide (((0 : Int) < ((x.sf.length : Nat) : Int)) ∨ ((0 : Int) < ((x.ou.length : Nat) : Int)))))) (bdF g3)) ?_
     refine R_gtr (x := ((x.kd.length : Nat) : Int)) (y := (0 : Int)) (@rfl V (iV ((x.kd.length : Nat) : Int))) (@rfl V (iV (0 : Int))) ?_
     refine R_pickF (Eq.trans (@rfl V (V.bool (decide (((0 : Int) < ((x.sf.length : Nat) : Int)) ∨ ((0 : Int) < ((x.ou.length : Nat) : Int)))))) (bdF g3)) (@rfl V (V.bool (decide ((0 : Int) < ((x.kd.length : Nat) : Int))))) ?_
     exact ⟨t3, (Eq.trans (@rfl V (V.bool (decide ((0 : Int) < ((x.kd.length : Nat) : Int))))) (dec_orF g3)), h2, h3, trivial⟩
   intro T H ⟨t3, t26, h2, h3, _⟩
   exact R_nil ⟨t3, t26, h2, h3, trivial⟩
  intro T H ⟨t3, t26, h2, h3, _⟩
  refine W_seq_if (p := (((0 : Int) < ((x.sf.length : Nat) : Int)) ∨ ((0 : Int) < ((x.ou.length : Nat) : Int))) ∨ ((0 : Int) < ((x.kd.length : Nat) : Int))) t26 (fun c4 => ?_) (fun c4 => ?_)
  ·
   refine W_seq_seq ?_
   refine W_seq_regc (fun T H => T 4 = (iV (1 : Int)) ∧ H 2 = (bk 1 24 1 [[(V.sl (List.map cN (t.nd)))]]) ∧ H 3 = (bk 1 68 5 [(cN x)]) ∧ True) ?_ ?_
   ·
    unfold r39_3
    refine R_mv (@rfl V (iV (1 : Int))) ?_
    exact R_nil ⟨rfl, h2, h3, trivial⟩
   intro T H ⟨t4, h2, h3, _⟩
   refine W_seq_ret ?_
   refine Ret_1 t4 (fz_int ?_)
   · rw [ndE, if_pos d0, lfE, if_pos (by omega)]
  refine W_seq_skip ?_
  refine W_seq_seq ?_
  refine W_seq_regc (fun T H => T 4 = (iV (wchk x.ac ((64 : Int)))) ∧ H 2 = (bk 1 24 1 [[(V.sl (List.map cN (t.nd)))]]) ∧ H 3 = (bk 1 68 5 [(cN x)]) ∧ True) ?_ ?_
  ·
   unfold r39_4
   refine R_fld_mp (o' := 1) t3 h3 (by first | rfl | simp [okB, Blk.own]) rfl ?_
   refine R_load_mp (v := (ints x.ac)) (@rfl V (V.mp 3 1 0 1)) h3 (by first | rfl | simp [ldB, ldV, Blk.own, V.one]) ?_
   refine R_callc (evcons (@rfl V (ints x.ac)) (evcons (@rfl V (iV (64 : Int))) evnil)) (rcheck_pure x.ac ((64 : Int))) ?_
   refine R_mv (@rfl V (iV (wchk x.ac ((64 : Int))))) ?_
   exact R_nil ⟨rfl, h2, h3, trivial⟩
  intro T H ⟨t4, h2, h3, _⟩
  refine W_seq_ret ?_
  refine Ret_1 t4 (fz_int ?_)
  · rw [ndE, if_pos d0, lfE, if_neg (by omega)]
 have d0 : x.lf = false := by simpa using c1
 refine W_seq_skip ?_
 refine W_seq_seq ?_
 refine W_seq_regc (fun T H => T 2 = (V.mp 2 1 0 0) ∧ T 3 = (V.mp 3 1 0 0) ∧ T 33 = (V.bool (decide ((0 : Int) < ((x.ac.length : Nat) : Int)))) ∧ H 2 = (bk 1 24 1 [[(V.sl (List.map cN (t.nd)))]]) ∧ H 3 = (bk 1 68 5 [(cN x)]) ∧ True) ?_ ?_
 ·
  unfold r39_5
  refine R_fld_mp (o' := 1) t3 h3 (by first | rfl | simp [okB, Blk.own]) rfl ?_
  refine R_load_mp (v := (ints x.ac)) (@rfl V (V.mp 3 1 0 1)) h3 (by first | rfl | simp [ldB, ldV, Blk.own, V.one]) ?_
  refine R_len (@rfl V (ints x.ac)) ?_
  refine R_gtr (x := ((x.ac.length : Nat) : Int)) (y := (0 : Int)) (@rfl V (iV ((x.ac.length : Nat) : Int))) (@rfl V (iV (0 : Int))) ?_
  exact R_nil ⟨t2, t3, rfl, h2, h3, trivial⟩
 intro T H ⟨t2, t3, t33, h2, h3, _⟩
 refine W_seq_if (p := (0 : Int) < ((x.ac.length : Nat) : Int)) t33 (fun c5 => ?_) (fun c5 => ?_)
 ·
  refine W_seq_seq ?_
  refine W_seq_regc (fun T H => T 4 = (iV (1 : Int)) ∧ H 2 = (bk 1 24 1 [[(V.sl (List.map cN (t.nd)))]]) ∧ H 3 = (bk 1 68 5 [(cN x)]) ∧ True) ?_ ?_
  ·
   unfold r39_6
   refine R_mv (@rfl V (iV (1 : Int))) ?_
   exact R_nil ⟨rfl, h2, h3, trivial⟩
  intro T H ⟨t4, h2, h3, _⟩
  refine W_seq_ret ?_
  refine Ret_1 t4 (fz_int ?_)
  · rw [ndE, if_neg (by simp [d0]), inE2, if_pos (by omega)]
 refine W_seq_skip ?_
 refine W_seq_seq ?_
 refine W_seq_regc (fun T H => T 2 = (V.mp 2 1 0 0) ∧ T 3 = (V.mp 3 1 0 0) ∧ T 5 = (iV (if x.sf.length = 0 then 19 else wchk x.sf 64)) ∧ H 2 = (bk 1 24 1 [[(V.sl (List.map cN (t.nd)))]]) ∧ H 3 = (bk 1 68 5 [(cN x)]) ∧ True) ?_ ?_
 ·
  unfold r39_7
  refine R_fld_mp (o' := 2) t3 h3 (by first | rfl | simp [okB, Blk.own]) rfl ?_
  refine R_load_mp (v := (ints x.sf)) (@rfl V (V.mp 3 1 0 2)) h3 (by first | rfl | simp [ldB, ldV, Blk.own, V.one]) ?_
  refine R_callc (evcons (@rfl V (ints x.sf)) evnil) (ending_pure x.sf) ?_
  refine R_mv (@rfl V (iV (if x.sf.length = 0 then 19 else wchk x.sf 64))) ?_
  exact R_nil ⟨t2, t3, rfl, h2, h3, trivial⟩
 intro T H ⟨t2, t3, t5, h2, h3, _⟩
 refine W_seq_seq ?_
 refine W_seq_regc (fun T H => T 2 = (V.mp 2 1 0 0) ∧ T 3 = (V.mp 3 1 0 0) ∧ T 5 = (iV (if x.sf.length = 0 then 19 else wchk x.sf 64)) ∧ T 38 = (V.bool (decide ((if x.sf.length = 0 then 19 else wchk x.sf 64) ≠ (0 : Int)))) ∧ H 2 = (bk 1 24 1 [[(V.sl (List.map cN (t.nd)))]]) ∧ H 3 = (bk 1 68 5 [(cN x)]) ∧ True) ?_ ?_
 ·
  unfold r39_8
  refine R_mv t5 ?_
  refine R_neq (x := (if x.sf.length = 0 then 19 else wchk x.sf 64)) (y := (0 : Int)) (@rfl V (iV (if x.sf.length = 0 then 19 else wchk x.sf 64))) (@rfl V (iV (0 : Int))) ?_
  exact R_nil ⟨t2, t3, t5, rfl, h2, h3, trivial⟩
 intro T H ⟨t2, t3, t5, t38, h2, h3, _⟩
 refine W_seq_if (p := (if x.sf.length = 0 then 19 else wchk x.sf 64) ≠ (0 : Int)) t38 (fun c6 => ?_) (fun c6 => ?_)
 ·
  have d4 : x.sf.length = 0 ∨ wchk x.sf 64 ≠ 0 := by by_cases e : x.sf.length = 0; exact .inl e; (rw [if_neg e] at c6; exact .inr c6)
  refine W_seq_seq ?_
  refine W_seq_regc (fun T H => T 4 = (iV (if x.sf.length = 0 then 19 else wchk x.sf 64)) ∧ H 2 = (bk 1 24 1 [[(V.sl (List.map cN (t.nd)))]]) ∧ H 3 = (bk 1 68 5 [(cN x)]) ∧ True) ?_ ?_
  ·
   unfold r39_9
   refine R_mv t5 ?_
   refine R_mv (@rfl V (iV (if x.sf.length = 0 then 19 else wchk x.sf 64))) ?_
   exact R_nil ⟨rfl, h2, h3, trivial⟩
  intro T H ⟨t4, h2, h3, _⟩
  refine W_seq_ret ?_
  refine Ret_1 t4 (fz_int ?_)
  · rcases d4 with e | e
    · rw [if_pos e]; rw [ndE, if_neg (by simp [d0]), inE2, if_neg (by omega), if_pos e]
    · by_cases e2 : x.sf.length = 0
      · rw [if_pos e2]; rw [ndE, if_neg (by simp [d0]), inE2, if_neg (by omega), if_pos e2]
      · rw [if_neg e2]; rw [ndE, if_neg (by simp [d0]), inE2, if_neg (by omega), if_neg e2, if_pos e]
 have d4 : x.sf.length ≠ 0 ∧ wchk x.sf 64 = 0 := by by_cases e : x.sf.length = 0; (rw [if_pos e] at c6; exact (c6 (by decide)).elim); (rw [if_neg e] at c6; exact ⟨e, by omega⟩)
 refine W_seq_skip ?_
 refine W_seq_seq ?_
 refine W_seq_regc (fun T H => T 2 = (V.mp 2 1 0 0) ∧ T 3 = (V.mp 3 1 0 0) ∧ T 46 = (V.bool (decide (((x.ou.length : Nat) : Int) ≠ ((x.kd.length : Nat) : Int)))) ∧ H 2 = (bk 1 24 1 [[(V.sl (List.map cN (t.nd)))]]) ∧ H 3 = (bk 1 68 5 [(cN x)]) ∧ True) ?_ ?_
 ·
  unfold r39_10
  refine R_fld_mp (o' := 3) t3 h3 (by first | rfl | simp [okB, Blk.own]) rfl ?_
  refine R_load_mp (v := (intss x.ou)) (@rfl V (V.mp 3 1 0 3)) h3 (by first | rfl | simp [ldB, ldV, Blk.own, V.one]) ?_
  refine R_len (@rfl V (intss x.ou)) ?_
  refine R_fld_mp (o' := 4) t3 h3 (by first | rfl | simp [okB, Blk.own]) rfl ?_
  refine R_load_mp (v := (ints x.kd)) (@rfl V (V.mp 3 1 0 4)) h3 (by first | rfl | simp [ldB, ldV, Blk.own, V.one]) ?_
  refine R_len (@rfl V (ints x.kd)) ?_
  refine R_neq (x := ((x.ou.length : Nat) : Int)) (y := ((x.kd.length : Nat) : Int)) (@rfl V (iV ((x.ou.length : Nat) : Int))) (@rfl V (iV ((x.kd.length : Nat) : Int))) ?_
  exact R_nil ⟨t2, t3, rfl, h2, h3, trivial⟩
 intro T H ⟨t2, t3, t46, h2, h3, _⟩
 refine W_seq_if (p := ((x.ou.length : Nat) : Int) ≠ ((x.kd.length : Nat) : Int)) t46 (fun c7 => ?_) (fun c7 => ?_)
 ·
  refine W_seq_seq ?_
  refine W_seq_regc (fun T H => T 4 = (iV (1 : Int)) ∧ H 2 = (bk 1 24 1 [[(V.sl (List.map cN (t.nd)))]]) ∧ H 3 = (bk 1 68 5 [(cN x)]) ∧ True) ?_ ?_
  ·
   unfold r39_11
   refine R_mv (@rfl V (iV (1 : Int))) ?_
   exact R_nil ⟨rfl, h2, h3, trivial⟩
  intro T H ⟨t4, h2, h3, _⟩
  refine W_seq_ret ?_
  refine Ret_1 t4 (fz_int ?_)
  · rw [ndE, if_neg (by simp [d0]), inE2, if_neg (by omega), if_neg (by omega), if_neg (by omega), if_pos (by omega)]
 refine W_seq_skip ?_
 refine W_seq_seq ?_
 refine W_seq_regc (fun T H => T 2 = (V.mp 2 1 0 0) ∧ T 3 = (V.mp 3 1 0 0) ∧ T 6 = (iV (0 : Int)) ∧ H 2 = (bk 1 24 1 [[(V.sl (List.map cN (t.nd)))]]) ∧ H 3 = (bk 1 68 5 [(cN x)]) ∧ True) ?_ ?_
 ·
  unfold r39_12
  refine R_mv (@rfl V (iV (0 : Int))) ?_
  exact R_nil ⟨t2, t3, rfl, h2, h3, trivial⟩
 intro T H ⟨t2, t3, t6, h2, h3, _⟩
 refine W_seq_blockg fun Q8 n8 x8 y8 z8 => ?_
 refine W_loop (fun mm T H => ∃ (k : Nat), mm = x.kd.length - k ∧ T 2 = (V.mp 2 1 0 0) ∧ T 3 = (V.mp 3 1 0 0) ∧ T 6 = (iV ((k : Nat) : Int)) ∧ H 2 = (bk 1 24 1 [[(V.sl (List.map cN (t.nd)))]]) ∧ H 3 = (bk 1 68 5 [(cN x)]) ∧ (k ≤ x.kd.length) ∧ (x.ou.length = x.kd.length) ∧ (x.ac.length = 0) ∧ (x.sf.length ≠ 0) ∧ (wchk x.sf 64 = 0) ∧ (∀ j, j < k → chE x t.nd.length j = 0) ∧ (fe (chE x t.nd.length) 0 x.ou.length = fe (chE x t.nd.length) k (x.ou.length - k))) ?_ ?_
 ·
  refine ⟨_, 0, rfl, t2, t3, (Eq.trans t6 (by first | rfl | simp)), h2, h3, ?_, ?_, ?_, ?_, ?_, ?_, ?_⟩
  · omega
  · omega
  · omega
  · omega
  · omega
  · intro j hj; omega
  · rfl
 intro mm T H ⟨k, hmm, t2, t3, t6, h2, h3, hk, hl, ga, gs, gw, hp, hc⟩ Q9 p19 p29 p39
 unfold b39_0
 refine W_seq_seq ?_
 refine W_seq_regc (fun T H => T 2 = (V.mp 2 1 0 0) ∧ T 3 = (V.mp 3 1 0 0) ∧ T 6 = (iV ((k : Nat) : Int)) ∧ T 51 = (V.bool (decide (((k : Nat) : Int) < ((x.kd.length : Nat) : Int)))) ∧ H 2 = (bk 1 24 1 [[(V.sl (List.map cN (t.nd)))]]) ∧ H 3 = (bk 1 68 5 [(cN x)]) ∧ True) ?_ ?_
 ·
  unfold r39_13
  refine R_mv t6 ?_
  refine R_fld_mp (o' := 4) t3 h3 (by first | rfl | simp [okB, Blk.own]) rfl ?_
  refine R_load_mp (v := (ints x.kd)) (@rfl V (V.mp 3 1 0 4)) h3 (by first | rfl | simp [ldB, ldV, Blk.own, V.one]) ?_
  refine R_len (@rfl V (ints x.kd)) ?_
  refine R_lss (x := ((k : Nat) : Int)) (y := ((x.kd.length : Nat) : Int)) (@rfl V (iV ((k : Nat) : Int))) (@rfl V (iV ((x.kd.length : Nat) : Int))) ?_
  exact R_nil ⟨t2, t3, t6, rfl, h2, h3, trivial⟩
 intro T H ⟨t2, t3, t6, t51, h2, h3, _⟩
 refine W_seq_if (p := ((k : Nat) : Int) < ((x.kd.length : Nat) : Int)) t51 (fun c10 => ?_) (fun c10 => ?_)
 ·
  refine W_seq_skip ?_
  refine W_seq_blockg fun Q11 n11 x11 y11 z11 => ?_
  refine W_seq_seq ?_
  refine W_seq_regc (fun T H => T 2 = (V.mp 2 1 0 0) ∧ T 3 = (V.mp 3 1 0 0) ∧ T 6 = (iV ((k : Nat) : Int)) ∧ T 7 = (iV (vlE ((nth (x.ou) (k))) x.sf)) ∧ H 2 = (bk 1 24 1 [[(V.sl (List.map cN (t.nd)))]]) ∧ H 3 = (bk 1 68 5 [(cN x)]) ∧ True) ?_ ?_
  ·
   unfold r39_15
   refine R_fld_mp (o' := 3) t3 h3 (by first | rfl | simp [okB, Blk.own]) rfl ?_
   refine R_load_mp (v := (intss x.ou)) (@rfl V (V.mp 3 1 0 3)) h3 (by first | rfl | simp [ldB, ldV, Blk.own, V.one]) ?_
   refine R_mv t6 ?_
   refine R_idx (i := k) (@rfl V (intss x.ou)) (@rfl V (iV ((k : Nat) : Int))) (by omega) rfl ?_
   refine R_load_pp (v := (ints ((nth (x.ou) (k))))) rfl (by first | rfl | simp [ldV]) ?_
   refine R_fld_mp (o' := 2) t3 h3 (by first | rfl | simp [okB, Blk.own]) rfl ?_
   refine R_load_mp (v := (ints x.sf)) (@rfl V (V.mp 3 1 0 2)) h3 (by first | rfl | simp [ldB, ldV, Blk.own, V.one]) ?_
   refine R_callc (evcons (@rfl V (ints ((nth (x.ou) (k))))) (evcons (@rfl V (ints x.sf)) evnil)) (outputs_pure ((nth (x.ou) (k))) x.sf) ?_
   refine R_mv (@rfl V (iV (vlE ((nth (x.ou) (k))) x.sf))) ?_
   exact R_nil ⟨t2, t3, t6, rfl, h2, h3, trivial⟩
  intro T H ⟨t2, t3, t6, t7, h2, h3, _⟩
  refine W_seq_seq ?_
  refine W_seq_regc (fun T H => T 2 = (V.mp 2 1 0 0) ∧ T 3 = (V.mp 3 1 0 0) ∧ T 6 = (iV ((k : Nat) : Int)) ∧ T 7 = (iV (vlE ((nth (x.ou) (k))) x.sf)) ∧ T 63 = (V.bool (decide ((vlE ((nth (x.ou) (k))) x.sf) ≠ (0 : Int)))) ∧ H 2 = (bk 1 24 1 [[(V.sl (List.map cN (t.nd)))]]) ∧ H 3 = (bk 1 68 5 [(cN x)]) ∧ True) ?_ ?_
  ·
   unfold r39_16
   refine R_mv t7 ?_
   refine R_neq (x := (vlE ((nth (x.ou) (k))) x.sf)) (y := (0 : Int)) (@rfl V (iV (vlE ((nth (x.ou) (k))) x.sf))) (@rfl V (iV (0 : Int))) ?_
   exact R_nil ⟨t2, t3, t6, t7, rfl, h2, h3, trivial⟩
  intro T H ⟨t2, t3, t6, t7, t63, h2, h3, _⟩
  refine W_seq_if (p := (vlE ((nth (x.ou) (k))) x.sf) ≠ (0 : Int)) t63 (fun c12 => ?_) (fun c12 => ?_)
  ·
   refine W_seq_seq ?_
   refine W_seq_regc (fun T H => T 4 = (iV (vlE ((nth (x.ou) (k))) x.sf)) ∧ H 2 = (bk 1 24 1 [[(V.sl (List.map cN (t.nd)))]]) ∧ H 3 = (bk 1 68 5 [(cN x)]) ∧ True) ?_ ?_
   ·
    unfold r39_17
    refine R_mv t7 ?_
    refine R_mv (@rfl V (iV (vlE ((nth (x.ou) (k))) x.sf))) ?_
    exact R_nil ⟨rfl, h2, h3, trivial⟩
   intro T H ⟨t4, h2, h3, _⟩
   refine W_seq_ret ?_
   refine y11 _ _ ?_
   refine p29 _ _ ?_
   refine y8 _ _ ?_
   refine Ret_1 t4 (fz_int ?_)
   · rw [ndE, if_neg (by simp [d0]), inE2, if_neg (by omega), if_neg (by omega), if_neg (by omega), if_neg (by omega), hc, fe_hit (by rw [chE, if_pos (by omega)]; omega) (by omega), chE, if_pos (by omega)]
  refine W_seq_skip ?_
  refine W_seq_seq ?_
  refine W_seq_regc (fun T H => T 2 = (V.mp 2 1 0 0) ∧ T 3 = (V.mp 3 1 0 0) ∧ T 6 = (iV ((k : Nat) : Int)) ∧ T 8 = (iV (0 : Int)) ∧ H 2 = (bk 1 24 1 [[(V.sl (List.map cN (t.nd)))]]) ∧ H 3 = (bk 1 68 5 [(cN x)]) ∧ True) ?_ ?_
  ·
   unfold r39_18
   refine R_mv (@rfl V (iV (0 : Int))) ?_
   exact R_nil ⟨t2, t3, t6, rfl, h2, h3, trivial⟩
  intro T H ⟨t2, t3, t6, t8, h2, h3, _⟩
  refine W_seq_blockg fun Q13 n13 x13 y13 z13 => ?_
  refine W_loop (fun mm T H => ∃ (j : Nat), mm = k - j ∧ T 2 = (V.mp 2 1 0 0) ∧ T 3 = (V.mp 3 1 0 0) ∧ T 6 = (iV ((k : Nat) : Int)) ∧ T 8 = (iV ((j : Nat) : Int)) ∧ H 2 = (bk 1 24 1 [[(V.sl (List.map cN (t.nd)))]]) ∧ H 3 = (bk 1 68 5 [(cN x)]) ∧ (j ≤ k) ∧ (∀ i, i < j → lexI (nth x.ou i) (nth x.ou k) < 0)) ?_ ?_
  ·
   refine ⟨_, 0, rfl, t2, t3, t6, (Eq.trans t8 (by first | rfl | simp)), h2, h3, ?_, ?_⟩
   · omega
   · intro i hi; omega
  intro mm T H ⟨j, hmm, t2, t3, t6, t8, h2, h3, hj, hq⟩ Q14 p114 p214 p314
  unfold b39_1
  refine W_seq_seq ?_
  refine W_seq_regc (fun T H => T 2 = (V.mp 2 1 0 0) ∧ T 3 = (V.mp 3 1 0 0) ∧ T 6 = (iV ((k : Nat) : Int)) ∧ T 8 = (iV ((j : Nat) : Int)) ∧ T 67 = (V.bool (decide (((j : Nat) : Int) < ((k : Nat) : Int)))) ∧ H 2 = (bk 1 24 1 [[(V.sl (List.map cN (t.nd)))]]) ∧ H 3 = (bk 1 68 5 [(cN x)]) ∧ True) ?_ ?_
  ·
   unfold r39_19
   refine R_mv t8 ?_
   refine R_mv t6 ?_
   refine R_lss (x := ((j : Nat) : Int)) (y := ((k : Nat) : Int)) (@rfl V (iV ((j : Nat) : Int))) (@rfl V (iV ((k : Nat) : Int))) ?_
   exact R_nil ⟨t2, t3, t6, t8, rfl, h2, h3, trivial⟩
  intro T H ⟨t2, t3, t6, t8, t67, h2, h3, _⟩
  refine W_seq_if (p := ((j : Nat) : Int) < ((k : Nat) : Int)) t67 (fun c15 => ?_) (fun c15 => ?_)
  ·
   refine W_seq_skip ?_
   refine W_seq_blockg fun Q16 n16 x16 y16 z16 => ?_
   refine W_seq_regc (fun T H => T 2 = (V.mp 2 1 0 0) ∧ T 3 = (V.mp 3 1 0 0) ∧ T 6 = (iV ((k : Nat) : Int)) ∧ T 8 = (iV ((j : Nat) : Int)) ∧ T 81 = (V.bool (decide ((0 : Int) ≤ (lexI ((nth (x.ou) (j))) ((nth (x.ou) (k))))))) ∧ H 2 = (bk 1 24 1 [[(V.sl (List.map cN (t.nd)))]]) ∧ H 3 = (bk 1 68 5 [(cN x)]) ∧ True) ?_ ?_
   ·
    unfold r39_21
    refine R_fld_mp (o' := 3) t3 h3 (by first | rfl | simp [okB, Blk.own]) rfl ?_
    refine R_load_mp (v := (intss x.ou)) (@rfl V (V.mp 3 1 0 3)) h3 (by first | rfl | simp [ldB, ldV, Blk.own, V.one]) ?_
    refine R_mv t8 ?_
    refine R_idx (i := j) (@rfl V (intss x.ou)) (@rfl V (iV ((j : Nat) : Int))) (by omega) rfl ?_
    refine R_load_pp (v := (ints ((nth (x.ou) (j))))) rfl (by first | rfl | simp [ldV]) ?_
    refine R_fld_mp (o' := 3) t3 h3 (by first | rfl | simp [okB, Blk.own]) rfl ?_
    refine R_load_mp (v := (intss x.ou)) (@rfl V (V.mp 3 1 0 3)) h3 (by first | rfl | simp [ldB, ldV, Blk.own, V.one]) ?_
    refine R_mv t6 ?_
    refine R_idx (i := k) (@rfl V (intss x.ou)) (@rfl V (iV ((k : Nat) : Int))) (by omega) rfl ?_
    refine R_load_pp (v := (ints ((nth (x.ou) (k))))) rfl (by first | rfl | simp [ldV]) ?_
    refine R_callc (evcons (@rfl V (ints ((nth (x.ou) (j))))) (evcons (@rfl V (ints ((nth (x.ou) (k))))) evnil)) (rlex_pure ((nth (x.ou) (j))) ((nth (x.ou) (k)))) ?_
    refine R_geq (x := (lexI ((nth (x.ou) (j))) ((nth (x.ou) (k))))) (y := (0 : Int)) (@rfl V (iV (lexI ((nth (x.ou) (j))) ((nth (x.ou) (k)))))) (@rfl V (iV (0 : Int))) ?_
    exact R_nil ⟨t2, t3, t6, t8, rfl, h2, h3, trivial⟩
   intro T H ⟨t2, t3, t6, t8, t81, h2, h3, _⟩
   refine W_if (p := (0 : Int) ≤ (lexI ((nth (x.ou) (j))) ((nth (x.ou) (k))))) t81 (fun c17 => ?_) (fun c17 => ?_)
   ·
    have d5 := ch_err (x := x) (n := t.nd.length) (k := k) (j := j) (by omega) (by omega) (by omega) hp
    refine W_seq_regc (fun T H => T 4 = (iV (10 : Int)) ∧ H 2 = (bk 1 24 1 [[(V.sl (List.map cN (t.nd)))]]) ∧ H 3 = (bk 1 68 5 [(cN x)]) ∧ True) ?_ ?_
    ·
     unfold r39_22
     refine R_mv (@rfl V (iV (10 : Int))) ?_
     exact R_nil ⟨rfl, h2, h3, trivial⟩
    intro T H ⟨t4, h2, h3, _⟩
    refine W_ret ?_
    refine y16 _ _ ?_
    refine p214 _ _ ?_
    refine y13 _ _ ?_
    refine y11 _ _ ?_
    refine p29 _ _ ?_
    refine y8 _ _ ?_
    refine Ret_1 t4 (fz_int ?_)
    · rw [ndE, if_neg (by simp [d0]), inE2, if_neg (by omega), if_neg (by omega), if_neg (by omega), if_neg (by omega), hc, fe_hit (by rw [d5]; decide) (by omega), d5]
   refine W_skip ?_
   refine n16 _ _ ?_
   refine .done ?_
   refine W_regc (fun T H => T 2 = (V.mp 2 1 0 0) ∧ T 3 = (V.mp 3 1 0 0) ∧ T 6 = (iV ((k : Nat) : Int)) ∧ T 8 = (iV ((j + 1 : Nat) : Int)) ∧ H 2 = (bk 1 24 1 [[(V.sl (List.map cN (t.nd)))]]) ∧ H 3 = (bk 1 68 5 [(cN x)]) ∧ True) ?_ ?_
   ·
    unfold r39_20
    refine R_mv t8 ?_
    refine R_addN (m := j) (n := 1) (@rfl V (iV ((j : Nat) : Int))) (@rfl V (iV ((1 : Nat) : Int))) (by omega) ?_
    refine R_mv (@rfl V (iV ((j + 1 : Nat) : Int))) ?_
    exact R_nil ⟨t2, t3, t6, rfl, h2, h3, trivial⟩
   intro T H ⟨t2, t3, t6, t8, h2, h3, _⟩
   refine p114 _ _ _ ?_ ⟨(j + 1), rfl, t2, t3, t6, (Eq.trans t8 (by first | rfl | simp)), h2, h3, ?_, ?_⟩
   · omega
   · omega
   · intro i hi
     by_cases e : i = j
     · subst e; omega
     · exact hq i (by omega)
  refine W_seq_exit ?_
  refine p314 _ _ _ ?_
  refine x13 _ _ ?_
  refine .done ?_
  refine W_seq_regc (fun T H => T 2 = (V.mp 2 1 0 0) ∧ T 3 = (V.mp 3 1 0 0) ∧ T 6 = (iV ((k : Nat) : Int)) ∧ T 98 = (V.bool (decide ((((nth (x.kd) (k))) < (0 : Int)) ∨ (((t.nd.length : Nat) : Int) ≤ ((nth (x.kd) (k))))))) ∧ H 2 = (bk 1 24 1 [[(V.sl (List.map cN (t.nd)))]]) ∧ H 3 = (bk 1 68 5 [(cN x)]) ∧ True) ?_ ?_
  ·
   unfold r39_23
   refine R_fld_mp (o' := 4) t3 h3 (by first | rfl | simp [okB, Blk.own]) rfl ?_
   refine R_load_mp (v := (ints x.kd)) (@rfl V (V.mp 3 1 0 4)) h3 (by first | rfl | simp [ldB, ldV, Blk.own, V.one]) ?_
   refine R_mv t6 ?_
   refine R_idx (i := k) (@rfl V (ints x.kd)) (@rfl V (iV ((k : Nat) : Int))) (by omega) rfl ?_
   refine R_load_pp (v := (iV ((nth (x.kd) (k))))) rfl (by first | rfl | simp [ldV]) ?_
   refine R_lss (x := ((nth (x.kd) (k)))) (y := (0 : Int)) (@rfl V (iV ((nth (x.kd) (k))))) (@rfl V (iV (0 : Int))) ?_
   refine R_mv (@rfl V (V.bool (decide (((nth (x.kd) (k))) < (0 : Int))))) ?_
   refine Ops_seg 10 (fun T H => T 2 = (V.mp 2 1 0 0) ∧ T 3 = (V.mp 3 1 0 0) ∧ T 6 = (iV ((k : Nat) : Int)) ∧ T 98 = (V.bool (decide ((((nth (x.kd) (k))) < (0 : Int)) ∨ (((t.nd.length : Nat) : Int) ≤ ((nth (x.kd) (k))))))) ∧ H 2 = (bk 1 24 1 [[(V.sl (List.map cN (t.nd)))]]) ∧ H 3 = (bk 1 68 5 [(cN x)]) ∧ True) ?_ ?_
   ·
    by_cases g18 : ((nth (x.kd) (k))) < (0 : Int)
    ·
     refine G_no (Eq.trans (@rfl V (V.bool (decide (((nth (x.kd) (k))) < (0 : Int))))) (bdT g18)) (by decide) ?_
     refine G_no (Eq.trans (@rfl V (V.bool (decide (((nth (x.kd) (k))) < (0 : Int))))) (bdT g18)) (by decide) ?_
     refine G_no (Eq.trans (@rfl V (V.bool (decide (((nth (x.kd) (k))) < (0 : Int))))) (bdT g18)) (by decide) ?_
     refine G_no (Eq.trans (@rfl V (V.bool (decide (((nth (x.kd) (k))) < (0 : Int))))) (bdT g18)) (by decide) ?_
     refine G_no (Eq.trans (@rfl V (V.bool (decide (((nth (x.kd) (k))) < (0 : Int))))) (bdT g18)) (by decide) ?_
     refine G_no (Eq.trans (@rfl V (V.bool (decide (((nth (x.kd) (k))) < (0 : Int))))) (bdT g18)) (by decide) ?_
     refine G_no (Eq.trans (@rfl V (V.bool (decide (((nth (x.kd) (k))) < (0 : Int))))) (bdT g18)) (by decide) ?_
     refine G_no (Eq.trans (@rfl V (V.bool (decide (((nth (x.kd) (k))) < (0 : Int))))) (bdT g18)) (by decide) ?_
     refine G_no (Eq.trans (@rfl V (V.bool (decide (((nth (x.kd) (k))) < (0 : Int))))) (bdT g18)) (by decide) ?_
     refine R_pickT (Eq.trans (@rfl V (V.bool (decide (((nth (x.kd) (k))) < (0 : Int))))) (bdT g18)) (@rfl V (V.bool true)) ?_
     exact ⟨t2, t3, t6, (Eq.trans (@rfl V (V.bool true)) (dec_orT g18)), h2, h3, trivial⟩
    ·
     refine G_yes (Eq.trans (@rfl V (V.bool (decide (((nth (x.kd) (k))) < (0 : Int))))) (bdF g18)) ?_
     refine R_fld_mp (o' := 4) t3 h3 (by first | rfl | simp [okB, Blk.own]) rfl ?_
     refine G_yes (Eq.trans (@rfl V (V.bool (decide (((nth (x.kd) (k))) < (0 : Int))))) (bdF g18)) ?_
     refine R_load_mp (v := (ints x.kd)) (@rfl V (V.mp 3 1 0 4)) h3 (by first | rfl | simp [ldB, ldV, Blk.own, V.one]) ?_
     refine G_yes (Eq.trans (@rfl V (V.bool (decide (((nth (x.kd) (k))) < (0 : Int))))) (bdF g18)) ?_
     refine R_mv t6 ?_
     refine G_yes (Eq.trans (@rfl V (V.bool (decide (((nth (x.kd) (k))) < (0 : Int))))) (bdF g18)) ?_
     refine R_idx (i := k) (@rfl V (ints x.kd)) (@rfl V (iV ((k : Nat) : Int))) (by omega) rfl ?_
     refine G_yes (Eq.trans (@rfl V (V.bool (decide (((nth (x.kd) (k))) < (0 : Int))))) (bdF g18)) ?_
     refine R_load_pp (v := (iV ((nth (x.kd) (k))))) rfl (by first | rfl | simp [ldV]) ?_
     refine G_yes (Eq.trans (@rfl V (V.bool (decide (((nth (x.kd) (k))) < (0 : Int))))) (bdF g18)) ?_
     refine R_fld_mp (o' := 0) t2 h2 (by first | rfl | simp [okB, Blk.own]) rfl ?_
     refine G_yes (Eq.trans (@rfl V (V.bool (decide (((nth (x.kd) (k))) < (0 : Int))))) (bdF g18)) ?_
     refine R_load_mp (v := (V.sl (List.map cN (t.nd)))) (@rfl V (V.mp 2 1 0 0)) h2 (by first | rfl | simp [ldB, ldV, Blk.own, V.one]) ?_
     refine G_yes (Eq.trans (@rfl V (V.bool (decide (((nth (x.kd) (k))) < (0 : Int))))) (bdF g18)) ?_
     refine R_len (@rfl V (V.sl (List.map cN (t.nd)))) ?_
     refine G_yes (Eq.trans (@rfl V (V.bool (decide (((nth (x.kd) (k))) < (0 : Int))))) (bdF g18)) ?_
     refine R_geq (x := ((nth (x.kd) (k)))) (y := ((t.nd.length : Nat) : Int)) (@rfl V (iV ((nth (x.kd) (k))))) (@rfl V (iV ((t.nd.length : Nat) : Int))) ?_
     refine R_pickF (Eq.trans (@rfl V (V.bool (decide (((nth (x.kd) (k))) < (0 : Int))))) (bdF g18)) (@rfl V (V.bool (decide (((t.nd.length : Nat) : Int) ≤ ((nth (x.kd) (k))))))) ?_
     exact ⟨t2, t3, t6, (Eq.trans (@rfl V (V.bool (decide (((t.nd.length : Nat) : Int) ≤ ((nth (x.kd) (k))))))) (dec_orF g18)), h2, h3, trivial⟩
   intro T H ⟨t2, t3, t6, t98, h2, h3, _⟩
   exact R_nil ⟨t2, t3, t6, t98, h2, h3, trivial⟩
  intro T H ⟨t2, t3, t6, t98, h2, h3, _⟩
  refine W_if (p := (((nth (x.kd) (k))) < (0 : Int)) ∨ (((t.nd.length : Nat) : Int) ≤ ((nth (x.kd) (k))))) t98 (fun c19 => ?_) (fun c19 => ?_)
  ·
   skip
   refine W_seq_regc (fun T H => T 4 = (iV (2 : Int)) ∧ H 2 = (bk 1 24 1 [[(V.sl (List.map cN (t.nd)))]]) ∧ H 3 = (bk 1 68 5 [(cN x)]) ∧ True) ?_ ?_
   ·
    unfold r39_24
    refine R_mv (@rfl V (iV (2 : Int))) ?_
    exact R_nil ⟨rfl, h2, h3, trivial⟩
   intro T H ⟨t4, h2, h3, _⟩
   refine W_ret ?_
   refine y11 _ _ ?_
   refine p29 _ _ ?_
   refine y8 _ _ ?_
   refine Ret_1 t4 (fz_int ?_)
   · have e : chE x t.nd.length k = 2 := by rw [chE, if_neg (by omega), if_neg (by rintro ⟨q1, q2⟩; have := hq (k - 1) (by omega); omega), if_pos (by omega)]
     rw [ndE, if_neg (by simp [d0]), inE2, if_neg (by omega), if_neg (by omega), if_neg (by omega), if_neg (by omega), hc, fe_hit (by rw [e]; decide) (by omega), e]
  have dz : chE x t.nd.length k = 0 := by rw [chE, if_neg (by omega), if_neg (by rintro ⟨q1, q2⟩; have := hq (k - 1) (by omega); omega), if_neg (by omega)]
  refine W_skip ?_
  refine n11 _ _ ?_
  refine .done ?_
  refine W_regc (fun T H => T 2 = (V.mp 2 1 0 0) ∧ T 3 = (V.mp 3 1 0 0) ∧ T 6 = (iV ((k + 1 : Nat) : Int)) ∧ H 2 = (bk 1 24 1 [[(V.sl (List.map cN (t.nd)))]]) ∧ H 3 = (bk 1 68 5 [(cN x)]) ∧ True) ?_ ?_
  ·
   unfold r39_14
   refine R_mv t6 ?_
   refine R_addN (m := k) (n := 1) (@rfl V (iV ((k : Nat) : Int))) (@rfl V (iV ((1 : Nat) : Int))) (by omega) ?_
   refine R_mv (@rfl V (iV ((k + 1 : Nat) : Int))) ?_
   exact R_nil ⟨t2, t3, rfl, h2, h3, trivial⟩
  intro T H ⟨t2, t3, t6, h2, h3, _⟩
  refine p19 _ _ _ ?_ ⟨(k + 1), rfl, t2, t3, (Eq.trans t6 (by first | rfl | simp)), h2, h3, ?_, ?_, ?_, ?_, ?_, ?_, ?_⟩
  · omega
  · omega
  · omega
  · omega
  · omega
  · omega
  · intro i hi
    by_cases e : i = k
    · subst e; exact dz
    · exact hp i (by omega)
  · rw [hc, fe_skip dz (by omega)]
 refine W_seq_exit ?_
 refine p39 _ _ _ ?_
 refine x8 _ _ ?_
 refine .done ?_
 refine W_seq_regc (fun T H => T 4 = (iV (0 : Int)) ∧ H 2 = (bk 1 24 1 [[(V.sl (List.map cN (t.nd)))]]) ∧ H 3 = (bk 1 68 5 [(cN x)]) ∧ True) ?_ ?_
 ·
  unfold r39_25
  refine R_mv (@rfl V (iV (0 : Int))) ?_
  exact R_nil ⟨rfl, h2, h3, trivial⟩
 intro T H ⟨t4, h2, h3, _⟩
 refine W_ret ?_
 refine Ret_1 t4 (fz_int ?_)
 · rw [ndE, if_neg (by simp [d0]), inE2, if_neg (by omega), if_neg (by omega), if_neg (by omega), if_neg (by omega), hc, fe_end (by omega)]
end Go.Proofs.YtmnjchcoigbngaaGreat


namespace Go.Proofs.YtmnjchcoigbngaaGreat
open Go Go.Proofs
def r40_0 : List SO := [
  sO 1 (.box 24 1 (.t 0)),
  sO 2 (.mv (.c (.bool false)))]
def r40_1 : List SO := [
  sO 8 (.fld 0 (.t 1)),
  sO 9 (.load false 1 (.t 8)),
  sO 10 (.len (.t 9)),
  sO 11 (.mks 4 1 1 [.bool false] (.t 10) (.t 10)),
  sO 3 (.mv (.t 11))]
def r40_2 : List SO := [
  sO 12 (.mv (.t 3)),
  sO 13 (.idx 1 (.t 12) (.c (.int .i64 0))),
  sN (.store 1 (.t 13) (.c (.bool true)))]
def r40_3 : List SO := [
  sO 14 (.bslice 3 1 true [.int .i64 0] 1 [(0, .c (.int .i64 0))]),
  sO 4 (.mv (.t 14))]
def r40_4 : List SO := [
  sO 5 (.mv (.c (.int .i64 0)))]
def r40_5 : List SO := [
  sO 15 (.mv (.t 5)),
  sO 16 (.mv (.t 4)),
  sO 17 (.len (.t 16)),
  sO 18 (.bin .lss (.t 15) (.t 17))]
def r40_7 : List SO := [
  sO 21 (.fld 0 (.t 1)),
  sO 22 (.load false 1 (.t 21)),
  sO 23 (.mv (.t 4)),
  sO 24 (.mv (.t 5)),
  sO 25 (.idx 1 (.t 23) (.t 24)),
  sO 26 (.load false 1 (.t 25)),
  sO 27 (.idx 5 (.t 22) (.t 26)),
  sO 28 (.load true 5 (.t 27)),
  sO 6 (.alloc 68 [.bool false, .nilsl, .nilsl, .nilsl, .nilsl]),
  sN (.store 5 (.t 6) (.t 28))]
def r40_8 : List SO := [
  sO 7 (.mv (.c (.int .i64 0)))]
def r40_9 : List SO := [
  sO 29 (.mv (.t 7)),
  sO 30 (.fld 4 (.t 6)),
  sO 31 (.load false 1 (.t 30)),
  sO 32 (.len (.t 31)),
  sO 33 (.bin .lss (.t 29) (.t 32))]
def r40_11 : List SO := [
  sO 36 (.mv (.t 3)),
  sO 37 (.fld 4 (.t 6)),
  sO 38 (.load false 1 (.t 37)),
  sO 39 (.mv (.t 7)),
  sO 40 (.idx 1 (.t 38) (.t 39)),
  sO 41 (.load false 1 (.t 40)),
  sO 42 (.idx 1 (.t 36) (.t 41)),
  sO 43 (.load false 1 (.t 42))]
def r40_12 : List SO := [
  sO 2 (.mv (.c (.bool false)))]
def r40_13 : List SO := [
  sO 44 (.mv (.t 3)),
  sO 45 (.fld 4 (.t 6)),
  sO 46 (.load false 1 (.t 45)),
  sO 47 (.mv (.t 7)),
  sO 48 (.idx 1 (.t 46) (.t 47)),
  sO 49 (.load false 1 (.t 48)),
  sO 50 (.idx 1 (.t 44) (.t 49)),
  sN (.store 1 (.t 50) (.c (.bool true)))]
def r40_14 : List SO := [
  sO 51 (.mv (.t 4)),
  sO 52 (.fld 4 (.t 6)),
  sO 53 (.load false 1 (.t 52)),
  sO 54 (.mv (.t 7)),
  sO 55 (.idx 1 (.t 53) (.t 54)),
  sO 56 (.load false 1 (.t 55)),
  sO 57 (.bslice 3 1 false [.int .i64 0] 1 [(0, .t 56)]),
  sO 58 (.append 3 1 8 (.t 51) (.t 57)),
  sO 4 (.mv (.t 58))]
def r40_10 : List SO := [
  sO 34 (.mv (.t 7)),
  sO 35 (.bin .add (.t 34) (.c (.int .i64 1))),
  sO 7 (.mv (.t 35))]
def b40_1 : SC := .seq (.seq (.reg r40_9) (.cond (.t 33) (.skip) (.exit 2))) (.seq (.block 3 (.seq (.seq (.reg r40_11) (.cond (.t 43) (.seq (.reg r40_12) (.ret)) (.skip))) (.seq (.reg r40_13) (.reg r40_14)))) (.reg r40_10))
def r40_6 : List SO := [
  sO 19 (.mv (.t 5)),
  sO 20 (.bin .add (.t 19) (.c (.int .i64 1))),
  sO 5 (.mv (.t 20))]
def b40_0 : SC := .seq (.seq (.reg r40_5) (.cond (.t 18) (.skip) (.exit 0))) (.seq (.block 1 (.seq (.dreg [6] r40_7) (.seq (.reg r40_8) (.block 2 (.loop b40_1))))) (.reg r40_6))
def r40_15 : List SO := [
  sO 59 (.mv (.t 4)),
  sO 60 (.len (.t 59)),
  sO 61 (.fld 0 (.t 1)),
  sO 62 (.load false 1 (.t 61)),
  sO 63 (.len (.t 62)),
  sO 64 (.bin .eql (.t 60) (.t 63)),
  sO 2 (.mv (.t 64))]
def s40 : SF := ⟨65, [.tmp 2], .seq (.reg r40_0) (.seq (.reg r40_1) (.seq (.reg r40_2) (.seq (.reg r40_3) (.seq (.seq (.reg r40_4) (.block 0 (.loop b40_0))) (.seq (.reg r40_15) (.ret))))))⟩
theorem s40_ok : slimF Tryz.prog ⟨[57, 58, 59, 63, 67, 68, 77, 102, 103, 104, 110, 116, 120], [14]⟩ Tryz.f40 = some s40 := by kernel_rfl
end Go.Proofs.YtmnjchcoigbngaaGreat


namespace Go.Proofs.YtmnjchcoigbngaaGreat
open Go Go.Proofs
attribute [local irreducible] mksV
theorem whole_pure (t : Dt) (hk : KI t) (hb : Bd t) : PureC Tryz.prog 40 [(V.agg [(V.sl (List.map cN (t.nd)))])] (V.bool (whB t)) := by
 refine pure_of_Wb true 6 Tryz.func40 s40_ok (by kernel_rfl) (by simp [s40]) (by simp) (by simp) fun hB => ?_
 simp only [bnd_map, bnd_int, bnd_bool, bnd_str, bnd_agg, bnd_pp, bnd_nil, bnd_cons, implies_true, and_true, true_and] at hB
 unfold s40
 dsimp only
 have hp := hk.pos
 have hbn := hb.n
 refine W_seq_regc (fun T H => T 1 = (V.mp 1 1 0 0) ∧ H 1 = (bk 1 24 1 [[(V.sl (List.map cN (t.nd)))]]) ∧ H 6 = (⟨0, false, false, 0, 0, []⟩ : Blk) ∧ H 11 = (⟨0, false, false, 0, 0, []⟩ : Blk) ∧ H 14 = (⟨0, false, false, 0, 0, []⟩ : Blk) ∧ True) ?_ ?_
 ·
  unfold r40_0
  refine R_box (i := 1) (n := 0) (m := 1) (cs := [(V.sl (List.map cN (t.nd)))]) rfl (congrArg Blk.ver rfl) (@rfl V (V.agg [(V.sl (List.map cN (t.nd)))])) rfl rfl ?_
  refine R_mv (@rfl V (V.bool false)) ?_
  exact R_nil ⟨rfl, rfl, rfl, rfl, rfl, trivial⟩
 intro T H ⟨t1, h1, h6, h11, h14, _⟩
 refine W_seq_regc (fun T H => T 1 = (V.mp 1 1 0 0) ∧ T 3 = (V.ms 11 1 0 (t.nd.length)) ∧ H 1 = (bk 1 24 1 [[(V.sl (List.map cN (t.nd)))]]) ∧ H 6 = (⟨0, false, false, 0, 0, []⟩ : Blk) ∧ H 11 = (bk 1 4 1 (List.map cB (List.replicate t.nd.length false))) ∧ H 14 = (⟨0, false, false, 0, 0, []⟩ : Blk) ∧ True) ?_ ?_
 ·
  unfold r40_1
  refine R_fld_mp (o' := 0) t1 h1 (by first | rfl | simp [okB, Blk.own]) rfl ?_
  refine R_load_mp (v := (V.sl (List.map cN (t.nd)))) (@rfl V (V.mp 1 1 0 0)) h1 (by first | rfl | simp [ldB, ldV, Blk.own, V.one]) ?_
  refine R_len (@rfl V (V.sl (List.map cN (t.nd)))) ?_
  refine R_mksm (i := 11) (n := 0) (m := t.nd.length) (q := t.nd.length) (f := cB) (x := false) rfl (congrArg Blk.ver h11) (@rfl V (iV ((t.nd.length : Nat) : Int))) (@rfl V (iV ((t.nd.length : Nat) : Int))) rfl (by first | omega | (simp only [List.length_replicate]; omega) | (simp only [List.length_set, List.length_replicate]; omega)) (by first | omega | (simp only [List.length_replicate]; omega) | (simp only [List.length_set, List.length_replicate]; omega)) (by first | omega | (simp only [List.length_replicate]; omega) | (simp only [List.length_set, List.length_replicate]; omega)) ?_
  refine R_mv (@rfl V (V.ms 11 1 0 (t.nd.length))) ?_
  exact R_nil ⟨t1, rfl, h1, h6, rfl, h14, trivial⟩
 intro T H ⟨t1, t3, h1, h6, h11, h14, _⟩
 refine W_seq_regc (fun T H => T 1 = (V.mp 1 1 0 0) ∧ T 3 = (V.ms 11 1 0 (t.nd.length)) ∧ H 1 = (bk 1 24 1 [[(V.sl (List.map cN (t.nd)))]]) ∧ H 6 = (⟨0, false, false, 0, 0, []⟩ : Blk) ∧ H 11 = (bk 1 4 1 (List.map cB ((List.replicate t.nd.length false).set (((0 : Int)).toNat) true))) ∧ H 14 = (⟨0, false, false, 0, 0, []⟩ : Blk) ∧ True) ?_ ?_
 ·
  unfold r40_2
  refine R_mv t3 ?_
  refine R_idxI_ms0 (i := (0 : Int)) (@rfl V (V.ms 11 1 0 (t.nd.length))) (@rfl V (iV (0 : Int))) h11 (okB_map (by first | omega | (simp only [List.length_replicate]; omega) | (simp only [List.length_set, List.length_replicate]; omega))) rfl (by first | omega | (simp only [List.length_replicate]; omega) | (simp only [List.length_set, List.length_replicate]; omega)) (by first | omega | (simp only [List.length_replicate]; omega) | (simp only [List.length_set, List.length_replicate]; omega)) ?_
  refine R_store (vs := [(V.bool true)]) (B' := (bk 1 4 1 (List.map cB ((List.replicate t.nd.length false).set (((0 : Int)).toNat) true)))) (@rfl V (V.mp 11 1 (((0 : Int)).toNat) 0)) (@rfl V (V.bool true)) rfl h11 (stB_map (x := true) (i := (((0 : Int)).toNat)) (by first | omega | (simp only [List.length_replicate]; omega) | (simp only [List.length_set, List.length_replicate]; omega)) rfl rfl rfl rfl) ?_
  exact R_nil ⟨t1, t3, h1, h6, rfl, h14, trivial⟩
 intro T H ⟨t1, t3, h1, h6, h11, h14, _⟩
 refine W_seq_regc (fun T H => T 1 = (V.mp 1 1 0 0) ∧ T 3 = (V.ms 11 1 0 (t.nd.length)) ∧ T 4 = (V.ms 14 1 0 (1)) ∧ H 1 = (bk 1 24 1 [[(V.sl (List.map cN (t.nd)))]]) ∧ H 6 = (⟨0, false, false, 0, 0, []⟩ : Blk) ∧ H 11 = (bk 1 4 1 (List.map cB ((List.replicate t.nd.length false).set (((0 : Int)).toNat) true))) ∧ H 14 = (bk 1 3 1 [[(iV (0 : Int))]]) ∧ True) ?_ ?_
 ·
  unfold r40_3
  refine R_bslice_own (i := 14) (n := 0) (qs := [(0, (iV (0 : Int)))]) (rows := [[(iV (0 : Int))]]) rfl (congrArg Blk.ver h14) (mcons (congrArg (fun v => (0, v)) (@rfl V (iV (0 : Int)))) rfl) rfl ?_
  refine R_mv (@rfl V (V.ms 14 1 0 (1))) ?_
  exact R_nil ⟨t1, t3, rfl, h1, h6, h11, rfl, trivial⟩
 intro T H ⟨t1, t3, t4, h1, h6, h11, h14, _⟩
 refine W_seq_seq ?_
 refine W_seq_regc (fun T H => T 1 = (V.mp 1 1 0 0) ∧ T 3 = (V.ms 11 1 0 (t.nd.length)) ∧ T 4 = (V.ms 14 1 0 (1)) ∧ T 5 = (iV (0 : Int)) ∧ H 1 = (bk 1 24 1 [[(V.sl (List.map cN (t.nd)))]]) ∧ H 6 = (⟨0, false, false, 0, 0, []⟩ : Blk) ∧ H 11 = (bk 1 4 1 (List.map cB ((List.replicate t.nd.length false).set (((0 : Int)).toNat) true))) ∧ H 14 = (bk 1 3 1 [[(iV (0 : Int))]]) ∧ True) ?_ ?_
 ·
  unfold r40_4
  refine R_mv (@rfl V (iV (0 : Int))) ?_
  exact R_nil ⟨t1, t3, t4, rfl, h1, h6, h11, h14, trivial⟩
 intro T H ⟨t1, t3, t4, t5, h1, h6, h11, h14, _⟩
 refine W_seq_blockg fun Q1 n1 x1 y1 z1 => ?_
 refine W_loop (fun mm T H => ∃ (k : Nat) (w : Nat) (P : RS) (v6 : Nat), mm = t.nd.length - k ∧ T 1 = (V.mp 1 1 0 0) ∧ T 3 = (V.ms 11 1 0 (t.nd.length)) ∧ T 4 = (V.ms 14 w 0 (P.1.length)) ∧ T 5 = (iV ((k : Nat) : Int)) ∧ H 1 = (bk 1 24 1 [[(V.sl (List.map cN (t.nd)))]]) ∧ ((H 6).ver = v6 ∧ (H 6).live = false) ∧ H 11 = (bk 1 4 1 (List.map cB (P.2))) ∧ H 14 = (bk w 3 1 (List.map cI (P.1))) ∧ (k ≤ P.1.length) ∧ (WI t P) ∧ (whN t t.nd.length 0 (wh0 t) = whN t (t.nd.length - k) k P)) ?_ ?_
 ·
  refine ⟨_, 0, 1, (wh0 t), 0, rfl, t1, t3, (Eq.trans t4 (by first | rfl | (rw [show (wS Q (nth (nth t.nd (nth P.1 k).toNat).kd j)).1.length = Q.1.length + 1 by simp [wS]]; done) | simp)), (Eq.trans t5 (by first | rfl | (rw [show (wS Q (nth (nth t.nd (nth P.1 k).toNat).kd j)).1.length = Q.1.length + 1 by simp [wS]]; done) | simp)), h1, ⟨(congrArg Blk.ver h6), congrArg Blk.live h6⟩, (Eq.trans h11 (by first | rfl)), (Eq.trans h14 (by first | rfl)), ?_, ?_, ?_⟩
  · exact Nat.zero_le _
  · exact wi0 hk
  · rfl
 intro mm T H ⟨k, w, P, v6, hmm, t1, t3, t4, t5, h1, h6, h11, h14, hk2, hi, hc⟩ Q2 p12 p22 p32
 unfold b40_0
 have hi1 := hi.len
 refine W_seq_seq ?_
 refine W_seq_regc (fun T H => T 1 = (V.mp 1 1 0 0) ∧ T 3 = (V.ms 11 1 0 (t.nd.length)) ∧ T 4 = (V.ms 14 w 0 (P.1.length)) ∧ T 5 = (iV ((k : Nat) : Int)) ∧ T 18 = (V.bool (decide (((k : Nat) : Int) < ((P.1.length : Nat) : Int)))) ∧ H 1 = (bk 1 24 1 [[(V.sl (List.map cN (t.nd)))]]) ∧ ((H 6).ver = v6 ∧ (H 6).live = false) ∧ H 11 = (bk 1 4 1 (List.map cB (P.2))) ∧ H 14 = (bk w 3 1 (List.map cI (P.1))) ∧ True) ?_ ?_
 ·
  unfold r40_5
  refine R_mv t5 ?_
  refine R_mv t4 ?_
  refine R_len_ms (@rfl V (V.ms 14 w 0 (P.1.length))) h14 (by first | rfl | simp) ?_
  refine R_lss (x := ((k : Nat) : Int)) (y := ((P.1.length : Nat) : Int)) (@rfl V (iV ((k : Nat) : Int))) (@rfl V (iV ((P.1.length : Nat) : Int))) ?_
  exact R_nil ⟨t1, t3, t4, t5, rfl, h1, h6, h11, h14, trivial⟩
 intro T H ⟨t1, t3, t4, t5, t18, h1, h6, h11, h14, _⟩
 refine W_seq_if (p := ((k : Nat) : Int) < ((P.1.length : Nat) : Int)) t18 (fun c3 => ?_) (fun c3 => ?_)
 ·
  have r1 := hi.rg _ (nth_mem (show k < P.1.length by omega))
  have r3 := hb.kd _ (show (nth P.1 k).toNat < t.nd.length by omega)
  refine W_seq_skip ?_
  refine W_seq_blockg fun Q4 n4 x4 y4 z4 => ?_
  refine W_seq_dregc (fun T H => T 1 = (V.mp 1 1 0 0) ∧ T 3 = (V.ms 11 1 0 (t.nd.length)) ∧ T 4 = (V.ms 14 w 0 (P.1.length)) ∧ T 5 = (iV ((k : Nat) : Int)) ∧ T 6 = (V.mp 6 (v6 + 1) 0 0) ∧ H 1 = (bk 1 24 1 [[(V.sl (List.map cN (t.nd)))]]) ∧ H 6 = (bk (v6 + 1) 68 5 [(cN (((nth (t.nd) ((nth (P.1) (k))).toNat))))]) ∧ H 11 = (bk 1 4 1 (List.map cB (P.2))) ∧ H 14 = (bk w 3 1 (List.map cI (P.1))) ∧ True) (by intro d hd; simp only [List.mem_cons, List.not_mem_nil, or_false] at hd; rcases hd with rfl <;> simp [h1, h6, h11, h14]) ?_ ?_
  ·
   unfold r40_7
   refine R_fld_mp (o' := 0) t1 h1 (by first | rfl | simp [okB, Blk.own]) rfl ?_
   refine R_load_mp (v := (V.sl (List.map cN (t.nd)))) (@rfl V (V.mp 1 1 0 0)) h1 (by first | rfl | simp [ldB, ldV, Blk.own, V.one]) ?_
   refine R_mv t4 ?_
   refine R_mv t5 ?_
   refine R_idx_ms0 (i := k) (@rfl V (V.ms 14 w 0 (P.1.length))) (@rfl V (iV ((k : Nat) : Int))) h14 (okB_map (by first | omega | (simp only [List.length_replicate]; omega) | (simp only [List.length_set, List.length_replicate]; omega))) rfl (by first | omega | (simp only [List.length_replicate]; omega) | (simp only [List.length_set, List.length_replicate]; omega)) ?_
   refine R_load_mp (v := (iV ((nth (P.1) (k))))) (@rfl V (V.mp 14 w k 0)) h14 (ldB_map (by first | omega | (simp only [List.length_replicate]; omega) | (simp only [List.length_set, List.length_replicate]; omega)) (by first | rfl | simp [ldV, V.one])) ?_
   refine R_idxI (i := ((nth (P.1) (k)))) (@rfl V (V.sl (List.map cN (t.nd)))) (@rfl V (iV ((nth (P.1) (k))))) (by first | omega | (simp only [List.length_replicate]; omega) | (simp only [List.length_set, List.length_replicate]; omega)) (by first | omega | (simp only [List.length_replicate]; omega) | (simp only [List.length_set, List.length_replicate]; omega)) rfl ?_
   refine R_load_pp (v := (V.agg (cN (((nth (t.nd) ((nth (P.1) (k))).toNat)))))) rfl (by first | rfl | simp [ldV]) ?_
   refine R_alloc (i := 6) (n := v6) (m := 5) rfl (h6).1 rfl ?_
   refine R_store (vs := [(V.bool (((nth (t.nd) ((nth (P.1) (k))).toNat)).lf)), (ints (((nth (t.nd) ((nth (P.1) (k))).toNat)).ac)), (ints (((nth (t.nd) ((nth (P.1) (k))).toNat)).sf)), (intss (((nth (t.nd) ((nth (P.1) (k))).toNat)).ou)), (ints (((nth (t.nd) ((nth (P.1) (k))).toNat)).kd))]) (B' := (bk (v6 + 1) 68 5 [(cN (((nth (t.nd) ((nth (P.1) (k))).toNat))))])) (@rfl V (V.mp 6 (v6 + 1) 0 0)) (@rfl V (V.agg (cN (((nth (t.nd) ((nth (P.1) (k))).toNat)))))) rfl (@rfl Blk (bk (v6 + 1) 68 5 [[(V.bool false), V.nilsl, V.nilsl, V.nilsl, V.nilsl]])) (by first | rfl | simp [stB, okB, Blk.own, putAt, V.one]) ?_
   exact R_nil ⟨t1, t3, t4, t5, rfl, h1, rfl, h11, h14, trivial⟩
  intro T H ⟨t1, t3, t4, t5, t6, h1, h6, h11, h14, _⟩
  refine W_seq_regc (fun T H => T 1 = (V.mp 1 1 0 0) ∧ T 3 = (V.ms 11 1 0 (t.nd.length)) ∧ T 4 = (V.ms 14 w 0 (P.1.length)) ∧ T 5 = (iV ((k : Nat) : Int)) ∧ T 6 = (V.mp 6 (v6 + 1) 0 0) ∧ T 7 = (iV (0 : Int)) ∧ H 1 = (bk 1 24 1 [[(V.sl (List.map cN (t.nd)))]]) ∧ H 6 = (bk (v6 + 1) 68 5 [(cN (((nth (t.nd) ((nth (P.1) (k))).toNat))))]) ∧ H 11 = (bk 1 4 1 (List.map cB (P.2))) ∧ H 14 = (bk w 3 1 (List.map cI (P.1))) ∧ True) ?_ ?_
  ·
   unfold r40_8
   refine R_mv (@rfl V (iV (0 : Int))) ?_
   exact R_nil ⟨t1, t3, t4, t5, t6, rfl, h1, h6, h11, h14, trivial⟩
  intro T H ⟨t1, t3, t4, t5, t6, t7, h1, h6, h11, h14, _⟩
  refine W_block fun Q5 n5 x5 y5 z5 => ?_
  refine W_loop (fun mm T H => ∃ (j : Nat) (w2 : Nat) (Q : RS), mm = (nth t.nd (nth P.1 k).toNat).kd.length - j ∧ T 1 = (V.mp 1 1 0 0) ∧ T 3 = (V.ms 11 1 0 (t.nd.length)) ∧ T 4 = (V.ms 14 w2 0 (Q.1.length)) ∧ T 5 = (iV ((k : Nat) : Int)) ∧ T 6 = (V.mp 6 (v6 + 1) 0 0) ∧ T 7 = (iV ((j : Nat) : Int)) ∧ H 1 = (bk 1 24 1 [[(V.sl (List.map cN (t.nd)))]]) ∧ H 6 = (bk (v6 + 1) 68 5 [(cN (((nth (t.nd) ((nth (P.1) (k))).toNat))))]) ∧ H 11 = (bk 1 4 1 (List.map cB (Q.2))) ∧ H 14 = (bk w2 3 1 (List.map cI (Q.1))) ∧ (j ≤ (nth t.nd (nth P.1 k).toNat).kd.length) ∧ (k < Q.1.length) ∧ (WI t Q) ∧ (whN t t.nd.length 0 (wh0 t) = (whI Q ((nth t.nd (nth P.1 k).toNat).kd.drop j)).bind (whN t (t.nd.length - (k + 1)) (k + 1)))) ?_ ?_
  ·
   refine ⟨_, 0, w, P, rfl, t1, t3, t4, t5, t6, (Eq.trans t7 (by first | rfl | (rw [show (wS Q (nth (nth t.nd (nth P.1 k).toNat).kd j)).1.length = Q.1.length + 1 by simp [wS]]; done) | simp)), h1, h6, h11, h14, ?_, ?_, ?_, ?_⟩
   · omega
   · omega
   · exact hi
   · rw [hc, wh_go (by omega) (by omega)]; rfl
  intro mm T H ⟨j, w2, Q, hmm, t1, t3, t4, t5, t6, t7, h1, h6, h11, h14, hj, hk3, hiq, hc2⟩ Q6 p16 p26 p36
  unfold b40_1
  have hi2 := hiq.len
  refine W_seq_seq ?_
  refine W_seq_regc (fun T H => T 1 = (V.mp 1 1 0 0) ∧ T 3 = (V.ms 11 1 0 (t.nd.length)) ∧ T 4 = (V.ms 14 w2 0 (Q.1.length)) ∧ T 5 = (iV ((k : Nat) : Int)) ∧ T 6 = (V.mp 6 (v6 + 1) 0 0) ∧ T 7 = (iV ((j : Nat) : Int)) ∧ T 33 = (V.bool (decide (((j : Nat) : Int) < (((((nth (t.nd) ((nth (P.1) (k))).toNat)).kd).length : Nat) : Int)))) ∧ H 1 = (bk 1 24 1 [[(V.sl (List.map cN (t.nd)))]]) ∧ H 6 = (bk (v6 + 1) 68 5 [(cN (((nth (t.nd) ((nth (P.1) (k))).toNat))))]) ∧ H 11 = (bk 1 4 1 (List.map cB (Q.2))) ∧ H 14 = (bk w2 3 1 (List.map cI (Q.1))) ∧ True) ?_ ?_
  ·
   unfold r40_9
   refine R_mv t7 ?_
   refine R_fld_mp (o' := 4) t6 h6 (by first | rfl | simp [okB, Blk.own]) rfl ?_
   refine R_load_mp (v := (ints (((nth (t.nd) ((nth (P.1) (k))).toNat)).kd))) (@rfl V (V.mp 6 (v6 + 1) 0 4)) h6 (by first | rfl | simp [ldB, ldV, Blk.own, V.one]) ?_
   refine R_len (@rfl V (ints (((nth (t.nd) ((nth (P.1) (k))).toNat)).kd))) ?_
   refine R_lss (x := ((j : Nat) : Int)) (y := (((((nth (t.nd) ((nth (P.1) (k))).toNat)).kd).length : Nat) : Int)) (@rfl V (iV ((j : Nat) : Int))) (@rfl V (iV (((((nth (t.nd) ((nth (P.1) (k))).toNat)).kd).length : Nat) : Int))) ?_
   exact R_nil ⟨t1, t3, t4, t5, t6, t7, rfl, h1, h6, h11, h14, trivial⟩
  intro T H ⟨t1, t3, t4, t5, t6, t7, t33, h1, h6, h11, h14, _⟩
  refine W_seq_if (p := ((j : Nat) : Int) < (((((nth (t.nd) ((nth (P.1) (k))).toNat)).kd).length : Nat) : Int)) t33 (fun c7 => ?_) (fun c7 => ?_)
  ·
   have r2 := hk.rng _ (show (nth P.1 k).toNat < t.nd.length by omega) _ (nth_mem (show j < (nth t.nd (nth P.1 k).toNat).kd.length by omega))
   refine W_seq_skip ?_
   refine W_seq_blockg fun Q8 n8 x8 y8 z8 => ?_
   refine W_seq_seq ?_
   refine W_seq_regc (fun T H => T 1 = (V.mp 1 1 0 0) ∧ T 3 = (V.ms 11 1 0 (t.nd.length)) ∧ T 4 = (V.ms 14 w2 0 (Q.1.length)) ∧ T 5 = (iV ((k : Nat) : Int)) ∧ T 6 = (V.mp 6 (v6 + 1) 0 0) ∧ T 7 = (iV ((j : Nat) : Int)) ∧ T 43 = (V.bool ((nth (Q.2) ((((nth (((nth (t.nd) ((nth (P.1) (k))).toNat)).kd) (j)))).toNat)))) ∧ H 1 = (bk 1 24 1 [[(V.sl (List.map cN (t.nd)))]]) ∧ H 6 = (bk (v6 + 1) 68 5 [(cN (((nth (t.nd) ((nth (P.1) (k))).toNat))))]) ∧ H 11 = (bk 1 4 1 (List.map cB (Q.2))) ∧ H 14 = (bk w2 3 1 (List.map cI (Q.1))) ∧ True) ?_ ?_
   ·
    unfold r40_11
    refine R_mv t3 ?_
    refine R_fld_mp (o' := 4) t6 h6 (by first | rfl | simp [okB, Blk.own]) rfl ?_
    refine R_load_mp (v := (ints (((nth (t.nd) ((nth (P.1) (k))).toNat)).kd))) (@rfl V (V.mp 6 (v6 + 1) 0 4)) h6 (by first | rfl | simp [ldB, ldV, Blk.own, V.one]) ?_
    refine R_mv t7 ?_
    refine R_idx (i := j) (@rfl V (ints (((nth (t.nd) ((nth (P.1) (k))).toNat)).kd))) (@rfl V (iV ((j : Nat) : Int))) (by first | omega | (simp only [List.length_replicate]; omega) | (simp only [List.length_set, List.length_replicate]; omega)) rfl ?_
    refine R_load_pp (v := (iV ((nth (((nth (t.nd) ((nth (P.1) (k))).toNat)).kd) (j))))) rfl (by first | rfl | simp [ldV]) ?_
    refine R_idxI_ms0 (i := ((nth (((nth (t.nd) ((nth (P.1) (k))).toNat)).kd) (j)))) (@rfl V (V.ms 11 1 0 (t.nd.length))) (@rfl V (iV ((nth (((nth (t.nd) ((nth (P.1) (k))).toNat)).kd) (j))))) h11 (okB_map (by first | omega | (simp only [List.length_replicate]; omega) | (simp only [List.length_set, List.length_replicate]; omega))) rfl (by first | omega | (simp only [List.length_replicate]; omega) | (simp only [List.length_set, List.length_replicate]; omega)) (by first | omega | (simp only [List.length_replicate]; omega) | (simp only [List.length_set, List.length_replicate]; omega)) ?_
    refine R_load_mp (v := (V.bool ((nth (Q.2) ((((nth (((nth (t.nd) ((nth (P.1) (k))).toNat)).kd) (j)))).toNat))))) (@rfl V (V.mp 11 1 ((((nth (((nth (t.nd) ((nth (P.1) (k))).toNat)).kd) (j)))).toNat) 0)) h11 (ldB_map (by first | omega | (simp only [List.length_replicate]; omega) | (simp only [List.length_set, List.length_replicate]; omega)) (by first | rfl | simp [ldV, V.one])) ?_
    exact R_nil ⟨t1, t3, t4, t5, t6, t7, rfl, h1, h6, h11, h14, trivial⟩
   intro T H ⟨t1, t3, t4, t5, t6, t7, t43, h1, h6, h11, h14, _⟩
   refine W_seq_ifb t43 (fun c9 => ?_) (fun c9 => ?_)
   ·
    have d2 : nth Q.2 (nth (nth t.nd (nth P.1 k).toNat).kd j).toNat = true := c9
    refine W_seq_seq ?_
    refine W_seq_regc (fun T H => T 2 = (V.bool false) ∧ H 1 = (bk 1 24 1 [[(V.sl (List.map cN (t.nd)))]]) ∧ H 6 = (bk (v6 + 1) 68 5 [(cN (((nth (t.nd) ((nth (P.1) (k))).toNat))))]) ∧ H 11 = (bk 1 4 1 (List.map cB (Q.2))) ∧ H 14 = (bk w2 3 1 (List.map cI (Q.1))) ∧ True) ?_ ?_
    ·
     unfold r40_12
     refine R_mv (@rfl V (V.bool false)) ?_
     exact R_nil ⟨rfl, h1, h6, h11, h14, trivial⟩
    intro T H ⟨t2, h1, h6, h11, h14, _⟩
    refine W_seq_ret ?_
    refine y8 _ _ ?_
    refine p26 _ _ ?_
    refine y5 _ _ ?_
    refine y4 _ _ ?_
    refine p22 _ _ ?_
    refine y1 _ _ ?_
    refine Ret_1 t2 (fz_bool ?_)
    · rw [whB_none (by rw [hc2, whI_yes (by omega) d2]; rfl)]
   have d2 : nth Q.2 (nth (nth t.nd (nth P.1 k).toNat).kd j).toNat = false := by simpa using c9
   refine W_seq_skip ?_
   refine W_seq_regc (fun T H => T 1 = (V.mp 1 1 0 0) ∧ T 3 = (V.ms 11 1 0 (t.nd.length)) ∧ T 4 = (V.ms 14 w2 0 (Q.1.length)) ∧ T 5 = (iV ((k : Nat) : Int)) ∧ T 6 = (V.mp 6 (v6 + 1) 0 0) ∧ T 7 = (iV ((j : Nat) : Int)) ∧ H 1 = (bk 1 24 1 [[(V.sl (List.map cN (t.nd)))]]) ∧ H 6 = (bk (v6 + 1) 68 5 [(cN (((nth (t.nd) ((nth (P.1) (k))).toNat))))]) ∧ H 11 = (bk 1 4 1 (List.map cB ((Q.2).set ((((nth (((nth (t.nd) ((nth (P.1) (k))).toNat)).kd) (j)))).toNat) true))) ∧ H 14 = (bk w2 3 1 (List.map cI (Q.1))) ∧ True) ?_ ?_
   ·
    unfold r40_13
    refine R_mv t3 ?_
    refine R_fld_mp (o' := 4) t6 h6 (by first | rfl | simp [okB, Blk.own]) rfl ?_
    refine R_load_mp (v := (ints (((nth (t.nd) ((nth (P.1) (k))).toNat)).kd))) (@rfl V (V.mp 6 (v6 + 1) 0 4)) h6 (by first | rfl | simp [ldB, ldV, Blk.own, V.one]) ?_
    refine R_mv t7 ?_
    refine R_idx (i := j) (@rfl V (ints (((nth (t.nd) ((nth (P.1) (k))).toNat)).kd))) (@rfl V (iV ((j : Nat) : Int))) (by first | omega | (simp only [List.length_replicate]; omega) | (simp only [List.length_set, List.length_replicate]; omega)) rfl ?_
    refine R_load_pp (v := (iV ((nth (((nth (t.nd) ((nth (P.1) (k))).toNat)).kd) (j))))) rfl (by first | rfl | simp [ldV]) ?_
    refine R_idxI_ms0 (i := ((nth (((nth (t.nd) ((nth (P.1) (k))).toNat)).kd) (j)))) (@rfl V (V.ms 11 1 0 (t.nd.length))) (@rfl V (iV ((nth (((nth (t.nd) ((nth (P.1) (k))).toNat)).kd) (j))))) h11 (okB_map (by first | omega | (simp only [List.length_replicate]; omega) | (simp only [List.length_set, List.length_replicate]; omega))) rfl (by first | omega | (simp only [List.length_replicate]; omega) | (simp only [List.length_set, List.length_replicate]; omega)) (by first | omega | (simp only [List.length_replicate]; omega) | (simp only [List.length_set, List.length_replicate]; omega)) ?_
    refine R_store (vs := [(V.bool true)]) (B' := (bk 1 4 1 (List.map cB ((Q.2).set ((((nth (((nth (t.nd) ((nth (P.1) (k))).toNat)).kd) (j)))).toNat) true)))) (@rfl V (V.mp 11 1 ((((nth (((nth (t.nd) ((nth (P.1) (k))).toNat)).kd) (j)))).toNat) 0)) (@rfl V (V.bool true)) rfl h11 (stB_map (x := true) (i := ((((nth (((nth (t.nd) ((nth (P.1) (k))).toNat)).kd) (j)))).toNat)) (by first | omega | (simp only [List.length_replicate]; omega) | (simp only [List.length_set, List.length_replicate]; omega)) rfl rfl rfl rfl) ?_
    exact R_nil ⟨t1, t3, t4, t5, t6, t7, h1, h6, rfl, h14, trivial⟩
   intro T H ⟨t1, t3, t4, t5, t6, t7, h1, h6, h11, h14, _⟩
   refine W_regc (fun T H => T 1 = (V.mp 1 1 0 0) ∧ T 3 = (V.ms 11 1 0 (t.nd.length)) ∧ T 4 = (V.ms 14 (w2 + 1) 0 (Q.1.length + 1)) ∧ T 5 = (iV ((k : Nat) : Int)) ∧ T 6 = (V.mp 6 (v6 + 1) 0 0) ∧ T 7 = (iV ((j : Nat) : Int)) ∧ H 1 = (bk 1 24 1 [[(V.sl (List.map cN (t.nd)))]]) ∧ H 6 = (bk (v6 + 1) 68 5 [(cN (((nth (t.nd) ((nth (P.1) (k))).toNat))))]) ∧ H 11 = (bk 1 4 1 (List.map cB ((Q.2).set ((((nth (((nth (t.nd) ((nth (P.1) (k))).toNat)).kd) (j)))).toNat) true))) ∧ H 14 = (bk (w2 + 1) 3 1 (List.map cI (Q.1 ++ [((nth (((nth (t.nd) ((nth (P.1) (k))).toNat)).kd) (j)))]))) ∧ True) ?_ ?_
   ·
    unfold r40_14
    refine R_mv t4 ?_
    refine R_fld_mp (o' := 4) t6 h6 (by first | rfl | simp [okB, Blk.own]) rfl ?_
    refine R_load_mp (v := (ints (((nth (t.nd) ((nth (P.1) (k))).toNat)).kd))) (@rfl V (V.mp 6 (v6 + 1) 0 4)) h6 (by first | rfl | simp [ldB, ldV, Blk.own, V.one]) ?_
    refine R_mv t7 ?_
    refine R_idx (i := j) (@rfl V (ints (((nth (t.nd) ((nth (P.1) (k))).toNat)).kd))) (@rfl V (iV ((j : Nat) : Int))) (by first | omega | (simp only [List.length_replicate]; omega) | (simp only [List.length_set, List.length_replicate]; omega)) rfl ?_
    refine R_load_pp (v := (iV ((nth (((nth (t.nd) ((nth (P.1) (k))).toNat)).kd) (j))))) rfl (by first | rfl | simp [ldV]) ?_
    refine R_bslice (qs := [(0, (iV ((nth (((nth (t.nd) ((nth (P.1) (k))).toNat)).kd) (j)))))]) (rows := [[(iV ((nth (((nth (t.nd) ((nth (P.1) (k))).toNat)).kd) (j))))]]) (mcons (congrArg (fun v => (0, v)) (@rfl V (iV ((nth (((nth (t.nd) ((nth (P.1) (k))).toNat)).kd) (j)))))) rfl) rfl ?_
    refine R_append1 (l := Q.1) (f := cI) (x := (((nth (((nth (t.nd) ((nth (P.1) (k))).toNat)).kd) (j))))) (@rfl V (V.ms 14 w2 0 (Q.1.length))) h14 (by first | rfl | simp | omega) (@rfl V (V.sl [[(iV ((nth (((nth (t.nd) ((nth (P.1) (k))).toNat)).kd) (j))))]])) rfl rfl (by first | omega | (simp only [List.length_replicate]; omega) | (simp only [List.length_set, List.length_replicate]; omega)) (by first | omega | (simp only [List.length_replicate]; omega) | (simp only [List.length_set, List.length_replicate]; omega)) ?_
    refine R_mv (@rfl V (V.ms 14 (w2 + 1) 0 (Q.1.length + 1))) ?_
    exact R_nil ⟨t1, t3, rfl, t5, t6, t7, h1, h6, h11, rfl, trivial⟩
   intro T H ⟨t1, t3, t4, t5, t6, t7, h1, h6, h11, h14, _⟩
   refine n8 _ _ ?_
   refine .done ?_
   refine W_regc (fun T H => T 1 = (V.mp 1 1 0 0) ∧ T 3 = (V.ms 11 1 0 (t.nd.length)) ∧ T 4 = (V.ms 14 (w2 + 1) 0 (Q.1.length + 1)) ∧ T 5 = (iV ((k : Nat) : Int)) ∧ T 6 = (V.mp 6 (v6 + 1) 0 0) ∧ T 7 = (iV ((j + 1 : Nat) : Int)) ∧ H 1 = (bk 1 24 1 [[(V.sl (List.map cN (t.nd)))]]) ∧ H 6 = (bk (v6 + 1) 68 5 [(cN (((nth (t.nd) ((nth (P.1) (k))).toNat))))]) ∧ H 11 = (bk 1 4 1 (List.map cB ((Q.2).set ((((nth (((nth (t.nd) ((nth (P.1) (k))).toNat)).kd) (j)))).toNat) true))) ∧ H 14 = (bk (w2 + 1) 3 1 (List.map cI (Q.1 ++ [((nth (((nth (t.nd) ((nth (P.1) (k))).toNat)).kd) (j)))]))) ∧ True) ?_ ?_
   ·
    unfold r40_10
    refine R_mv t7 ?_
    refine R_addN (m := j) (n := 1) (@rfl V (iV ((j : Nat) : Int))) (@rfl V (iV ((1 : Nat) : Int))) (by first | omega | (simp only [List.length_replicate]; omega) | (simp only [List.length_set, List.length_replicate]; omega)) ?_
    refine R_mv (@rfl V (iV ((j + 1 : Nat) : Int))) ?_
    exact R_nil ⟨t1, t3, t4, t5, t6, rfl, h1, h6, h11, h14, trivial⟩
   intro T H ⟨t1, t3, t4, t5, t6, t7, h1, h6, h11, h14, _⟩
   refine p16 _ _ _ ?_ ⟨(j + 1), (w2 + 1), (wS Q (nth (nth t.nd (nth P.1 k).toNat).kd j)), rfl, t1, t3, (Eq.trans t4 (by first | rfl | (rw [show (wS Q (nth (nth t.nd (nth P.1 k).toNat).kd j)).1.length = Q.1.length + 1 by simp [wS]]; done) | simp)), t5, t6, (Eq.trans t7 (by first | rfl | (rw [show (wS Q (nth (nth t.nd (nth P.1 k).toNat).kd j)).1.length = Q.1.length + 1 by simp [wS]]; done) | simp)), h1, h6, (Eq.trans h11 (by first | rfl)), (Eq.trans h14 (by first | rfl)), ?_, ?_, ?_, ?_⟩
   · omega
   · omega
   · show k < (Q.1 ++ _).length; rw [List.length_append]; omega
   · exact hiq.step r2.1 r2.2 d2
   · rw [hc2, whI_no (by omega) d2]
  refine W_seq_exit ?_
  refine p36 _ _ _ ?_
  refine x5 _ _ ?_
  refine n4 _ _ ?_
  refine .freeze 6 (.done ?_)
  refine fork_ (R := fun T H => T 1 = (V.mp 1 1 0 0) ∧ T 3 = (V.ms 11 1 0 (t.nd.length)) ∧ T 4 = (V.ms 14 w2 0 (Q.1.length)) ∧ T 5 = (iV ((k : Nat) : Int)) ∧ T 6 = (V.mp 6 (v6 + 1) 0 0) ∧ T 7 = (iV ((j : Nat) : Int)) ∧ T 33 = (V.bool (decide (((j : Nat) : Int) < (((((nth (t.nd) ((nth (P.1) (k))).toNat)).kd).length : Nat) : Int)))) ∧ H 1 = (bk 1 24 1 [[(V.sl (List.map cN (t.nd)))]]) ∧ ((H 6).ver = v6 + 1 ∧ (H 6).live = false) ∧ H 11 = (bk 1 4 1 (List.map cB (Q.2))) ∧ H 14 = (bk w2 3 1 (List.map cI (Q.1))) ∧ True) ⟨(fzT_q t1 rfl), (fzT_q t3 (fzq_other (by decide))), (fzT_q t4 (fzq_other (by decide))), (fzT_q t5 rfl), (fzT_q t6 rfl), (fzT_q t7 rfl), (fzT_q t33 rfl), (kill_ne h1 (by decide)), (kill_self (congrArg Blk.ver h6)), (kill_ne h11 (by decide)), (kill_ne h14 (by decide)), trivial⟩ ?_
  clear t1 t3 t4 t5 t6 t7 t33 h1 h6 h11 h14 T H
  intro T H ⟨t1, t3, t4, t5, t6, t7, t33, h1, h6, h11, h14, _⟩
  refine W_regc (fun T H => T 1 = (V.mp 1 1 0 0) ∧ T 3 = (V.ms 11 1 0 (t.nd.length)) ∧ T 4 = (V.ms 14 w2 0 (Q.1.length)) ∧ T 5 = (iV ((k + 1 : Nat) : Int)) ∧ H 1 = (bk 1 24 1 [[(V.sl (List.map cN (t.nd)))]]) ∧ ((H 6).ver = v6 + 1 ∧ (H 6).live = false) ∧ H 11 = (bk 1 4 1 (List.map cB (Q.2))) ∧ H 14 = (bk w2 3 1 (List.map cI (Q.1))) ∧ True) ?_ ?_
  ·
   unfold r40_6
   refine R_mv t5 ?_
   refine R_addN (m := k) (n := 1) (@rfl V (iV ((k : Nat) : Int))) (@rfl V (iV ((1 : Nat) : Int))) (by first | omega | (simp only [List.length_replicate]; omega) | (simp only [List.length_set, List.length_replicate]; omega)) ?_
   refine R_mv (@rfl V (iV ((k + 1 : Nat) : Int))) ?_
   exact R_nil ⟨t1, t3, t4, rfl, h1, h6, h11, h14, trivial⟩
  intro T H ⟨t1, t3, t4, t5, h1, h6, h11, h14, _⟩
  refine p12 _ _ _ ?_ ⟨(k + 1), w2, Q, (v6 + 1), rfl, t1, t3, t4, (Eq.trans t5 (by first | rfl | (rw [show (wS Q (nth (nth t.nd (nth P.1 k).toNat).kd j)).1.length = Q.1.length + 1 by simp [wS]]; done) | simp)), h1, h6, h11, h14, ?_, ?_, ?_⟩
  · omega
  · omega
  · exact hiq
  · rw [hc2, whI_end (by omega)]; rfl
 refine W_seq_exit ?_
 refine p32 _ _ _ ?_
 refine x1 _ _ ?_
 refine .done ?_
 refine W_seq_regc (fun T H => T 2 = (V.bool (decide (((P.1.length : Nat) : Int) = ((t.nd.length : Nat) : Int)))) ∧ H 1 = (bk 1 24 1 [[(V.sl (List.map cN (t.nd)))]]) ∧ ((H 6).ver = v6 ∧ (H 6).live = false) ∧ H 11 = (bk 1 4 1 (List.map cB (P.2))) ∧ H 14 = (bk w 3 1 (List.map cI (P.1))) ∧ True) ?_ ?_
 ·
  unfold r40_15
  refine R_mv t4 ?_
  refine R_len_ms (@rfl V (V.ms 14 w 0 (P.1.length))) h14 (by first | rfl | simp) ?_
  refine R_fld_mp (o' := 0) t1 h1 (by first | rfl | simp [okB, Blk.own]) rfl ?_
  refine R_load_mp (v := (V.sl (List.map cN (t.nd)))) (@rfl V (V.mp 1 1 0 0)) h1 (by first | rfl | simp [ldB, ldV, Blk.own, V.one]) ?_
  refine R_len (@rfl V (V.sl (List.map cN (t.nd)))) ?_
  refine R_eql (x := ((P.1.length : Nat) : Int)) (y := ((t.nd.length : Nat) : Int)) (@rfl V (iV ((P.1.length : Nat) : Int))) (@rfl V (iV ((t.nd.length : Nat) : Int))) ?_
  refine R_mv (@rfl V (V.bool (decide (((P.1.length : Nat) : Int) = ((t.nd.length : Nat) : Int))))) ?_
  exact R_nil ⟨rfl, h1, h6, h11, h14, trivial⟩
 intro T H ⟨t2, h1, h6, h11, h14, _⟩
 refine W_ret ?_
 refine Ret_1 t2 (fz_bool ?_)
 · rw [whB_some (by rw [hc]; exact wh_end (by omega))]; exact decide_eq_decide.2 (by omega)
end Go.Proofs.YtmnjchcoigbngaaGreat


namespace Go.Proofs.YtmnjchcoigbngaaGreat
open Go Go.Proofs
def r41_0 : List SO := [
  sO 1 (.box 24 1 (.t 0)),
  sO 2 (.mv (.c (.nilsl)))]
def r41_1 : List SO := [
  sO 3 (.lazy 38 1)]
def r41_2 : List SO := [
  sO 4 (.mv (.c (.int .i64 0)))]
def r41_3 : List SO := [
  sO 5 (.mv (.t 4)),
  sO 6 (.fld 0 (.t 1)),
  sO 7 (.load false 1 (.t 6)),
  sO 8 (.len (.t 7)),
  sO 9 (.bin .lss (.t 5) (.t 8))]
def r41_5 : List SO := [
  sO 12 (.fld 0 (.t 1)),
  sO 13 (.load false 1 (.t 12)),
  sO 14 (.mv (.t 4)),
  sO 15 (.idx 5 (.t 13) (.t 14)),
  sO 16 (.fld 0 (.t 15)),
  sO 17 (.load false 1 (.t 16))]
def r41_6 : List SO := [
  sO 18 (.mv (.t 3)),
  sO 19 (.fld 0 (.t 1)),
  sO 20 (.load false 1 (.t 19)),
  sO 21 (.mv (.t 4)),
  sO 22 (.idx 5 (.t 20) (.t 21)),
  sO 23 (.fld 1 (.t 22)),
  sO 24 (.load false 1 (.t 23)),
  sO 25 (.bslice 38 1 false [.nilsl] 1 [(0, .t 24)]),
  sO 26 (.call false 31 [.t 25]),
  sO 27 (.bslice 38 1 false [.nilsl] 1 [(0, .t 26)]),
  sO 28 (.append 38 1 24 (.t 18) (.t 27)),
  sO 3 (.mv (.t 28))]
def r41_4 : List SO := [
  sO 10 (.mv (.t 4)),
  sO 11 (.bin .add (.t 10) (.c (.int .i64 1))),
  sO 4 (.mv (.t 11))]
def b41_0 : SC := .seq (.seq (.reg r41_3) (.cond (.t 9) (.skip) (.exit 0))) (.seq (.block 1 (.seq (.reg r41_5) (.cond (.t 17) (.reg r41_6) (.skip)))) (.reg r41_4))
def r41_7 : List SO := [
  sO 29 (.mv (.t 3)),
  sO 2 (.mv (.t 29))]
def s41 : SF := ⟨30, [.tmp 2], .seq (.reg r41_0) (.seq (.reg r41_1) (.seq (.seq (.reg r41_2) (.block 0 (.loop b41_0))) (.seq (.reg r41_7) (.ret))))⟩
theorem s41_ok : slimF Tryz.prog ⟨[57, 58, 59, 63, 67, 68, 77, 102, 103, 104, 110, 116, 120], [3]⟩ Tryz.f41 = some s41 := by kernel_rfl
end Go.Proofs.YtmnjchcoigbngaaGreat


namespace Go.Proofs.YtmnjchcoigbngaaGreat
open Go Go.Proofs
def r31_0 : List SO := [
  sO 2 (.mv (.c (.nilsl)))]
def r31_1 : List SO := [
  sO 3 (.lazy 3 1)]
def r31_2 : List SO := [
  sO 4 (.mv (.c (.int .i64 0)))]
def r31_3 : List SO := [
  sO 5 (.mv (.t 4)),
  sO 6 (.mv (.t 0)),
  sO 7 (.len (.t 6)),
  sO 8 (.bin .lss (.t 5) (.t 7))]
def r31_5 : List SO := [
  sO 11 (.mv (.t 3)),
  sO 12 (.mv (.t 0)),
  sO 13 (.mv (.t 4)),
  sO 14 (.idx 1 (.t 12) (.t 13)),
  sO 15 (.load false 1 (.t 14)),
  sO 16 (.append 3 1 8 (.t 11) (.t 15)),
  sO 3 (.mv (.t 16))]
def r31_4 : List SO := [
  sO 9 (.mv (.t 4)),
  sO 10 (.bin .add (.t 9) (.c (.int .i64 1))),
  sO 4 (.mv (.t 10))]
def b31_0 : SC := .seq (.seq (.reg r31_3) (.cond (.t 8) (.skip) (.exit 0))) (.seq (.block 1 (.reg r31_5)) (.reg r31_4))
def r31_6 : List SO := [
  sO 17 (.mv (.t 3)),
  sO 2 (.mv (.t 17))]
def s31 : SF := ⟨18, [.tmp 2], .seq (.reg r31_0) (.seq (.reg r31_1) (.seq (.seq (.reg r31_2) (.block 0 (.loop b31_0))) (.seq (.reg r31_6) (.ret))))⟩
theorem s31_ok : slimF Tryz.prog ⟨[57, 58, 59, 63, 67, 68, 77, 102, 103, 104, 110, 116, 120], [3]⟩ Tryz.f31 = some s31 := by kernel_rfl
end Go.Proofs.YtmnjchcoigbngaaGreat


namespace Go.Proofs.YtmnjchcoigbngaaGreat
open Go Go.Proofs
theorem join_pure (l : List (List Int)) (hs : (cat l).length ≤ 17592186044416) : PureC Tryz.prog 31 [(intss l)] (ints (cat l)) := by
 refine pure_of_Wb true 6 Tryz.func31 s31_ok (by kernel_rfl) (by simp [s31]) (by simp) (by simp) fun hB => ?_
 simp only [bnd_map, bnd_int, bnd_bool, bnd_str, bnd_agg, bnd_pp, bnd_nil, bnd_cons, implies_true, and_true, true_and] at hB
 unfold s31
 dsimp only
 refine W_seq_regc (fun T H => T 0 = (intss l) ∧ H 3 = (⟨0, false, false, 0, 0, []⟩ : Blk) ∧ True) ?_ ?_
 ·
  unfold r31_0
  refine R_mv (@rfl V V.nilsl) ?_
  exact R_nil ⟨rfl, rfl, trivial⟩
 intro T H ⟨t0, h3, _⟩
 refine W_seq_regc (fun T H => T 0 = (intss l) ∧ T 3 = (V.ms 3 1 0 (0)) ∧ H 3 = (bz 1 3 1 []) ∧ True) ?_ ?_
 ·
  unfold r31_1
  refine R_lazy (i := 3) (n := 0) rfl (congrArg Blk.ver h3) ?_
  exact R_nil ⟨t0, rfl, rfl, trivial⟩
 intro T H ⟨t0, t3, h3, _⟩
 refine W_seq_seq ?_
 refine W_seq_regc (fun T H => T 0 = (intss l) ∧ T 3 = (V.ms 3 1 0 (0)) ∧ T 4 = (iV (0 : Int)) ∧ H 3 = (bz 1 3 1 []) ∧ True) ?_ ?_
 ·
  unfold r31_2
  refine R_mv (@rfl V (iV (0 : Int))) ?_
  exact R_nil ⟨t0, t3, rfl, h3, trivial⟩
 intro T H ⟨t0, t3, t4, h3, _⟩
 refine W_seq_blockg fun Q1 n1 x1 y1 z1 => ?_
 refine W_loop (fun mm T H => ∃ (k : Nat), mm = l.length - k ∧ T 0 = (intss l) ∧ T 3 = (V.ms 3 (1 + k) 0 ((cat (l.take k)).length)) ∧ T 4 = (iV ((k : Nat) : Int)) ∧ H 3 = (bz (1 + k) 3 1 (List.map cI (cat (l.take k)))) ∧ (k ≤ l.length)) ?_ ?_
 ·
  refine ⟨_, 0, rfl, t0, (Eq.trans t3 (by first | rfl | (rw [cat_take (by omega), List.length_append]; rfl))), (Eq.trans t4 (by first | rfl | (rw [cat_take (by omega), List.length_append]; rfl))), (Eq.trans h3 (by first | rfl | (rw [cat_take (by omega)]; rfl))), ?_⟩
  · omega
 intro mm T H ⟨k, hmm, t0, t3, t4, h3, hk⟩ Q2 p12 p22 p32
 unfold b31_0
 refine W_seq_seq ?_
 refine W_seq_regc (fun T H => T 0 = (intss l) ∧ T 3 = (V.ms 3 (1 + k) 0 ((cat (l.take k)).length)) ∧ T 4 = (iV ((k : Nat) : Int)) ∧ T 8 = (V.bool (decide (((k : Nat) : Int) < ((l.length : Nat) : Int)))) ∧ H 3 = (bz (1 + k) 3 1 (List.map cI (cat (l.take k)))) ∧ True) ?_ ?_
 ·
  unfold r31_3
  refine R_mv t4 ?_
  refine R_mv t0 ?_
  refine R_len (@rfl V (intss l)) ?_
  refine R_lss (x := ((k : Nat) : Int)) (y := ((l.length : Nat) : Int)) (@rfl V (iV ((k : Nat) : Int))) (@rfl V (iV ((l.length : Nat) : Int))) ?_
  exact R_nil ⟨t0, t3, t4, rfl, h3, trivial⟩
 intro T H ⟨t0, t3, t4, t8, h3, _⟩
 refine W_seq_if (p := ((k : Nat) : Int) < ((l.length : Nat) : Int)) t8 (fun c3 => ?_) (fun c3 => ?_)
 ·
  have hq := cat_take_le (l := l) (k := k) (by omega)
  refine W_seq_skip ?_
  refine W_seq_blockg fun Q4 n4 x4 y4 z4 => ?_
  refine W_regc (fun T H => T 0 = (intss l) ∧ T 3 = (V.ms 3 (1 + k + 1) 0 (((cat (l.take k)).length) + ((nth (l) (k))).length)) ∧ T 4 = (iV ((k : Nat) : Int)) ∧ H 3 = (bz (1 + k + 1) 3 1 (List.map cI (cat (l.take k) ++ ((nth (l) (k)))))) ∧ True) ?_ ?_
  ·
   unfold r31_5
   refine R_mv t3 ?_
   refine R_mv t0 ?_
   refine R_mv t4 ?_
   refine R_idx (i := k) (@rfl V (intss l)) (@rfl V (iV ((k : Nat) : Int))) (by omega) rfl ?_
   refine R_load_pp (v := (ints ((nth (l) (k))))) rfl (by first | rfl | simp [ldV]) ?_
   refine R_appendS (l := (cat (l.take k))) (m := ((nth (l) (k)))) (f := cI) (@rfl V (V.ms 3 (1 + k) 0 ((cat (l.take k)).length))) h3 (by first | rfl | simp) (@rfl V (ints ((nth (l) (k))))) (fun _ => rfl) (fun _ => rfl) (by omega) (by omega) ?_
   refine R_mv (@rfl V (V.ms 3 (1 + k + 1) 0 (((cat (l.take k)).length) + ((nth (l) (k))).length))) ?_
   exact R_nil ⟨t0, rfl, t4, rfl, trivial⟩
  intro T H ⟨t0, t3, t4, h3, _⟩
  refine n4 _ _ ?_
  refine .done ?_
  refine W_regc (fun T H => T 0 = (intss l) ∧ T 3 = (V.ms 3 (1 + k + 1) 0 (((cat (l.take k)).length) + ((nth (l) (k))).length)) ∧ T 4 = (iV ((k + 1 : Nat) : Int)) ∧ H 3 = (bz (1 + k + 1) 3 1 (List.map cI (cat (l.take k) ++ ((nth (l) (k)))))) ∧ True) ?_ ?_
  ·
   unfold r31_4
   refine R_mv t4 ?_
   refine R_addN (m := k) (n := 1) (@rfl V (iV ((k : Nat) : Int))) (@rfl V (iV ((1 : Nat) : Int))) (by omega) ?_
   refine R_mv (@rfl V (iV ((k + 1 : Nat) : Int))) ?_
   exact R_nil ⟨t0, t3, rfl, h3, trivial⟩
  intro T H ⟨t0, t3, t4, h3, _⟩
  refine p12 _ _ _ ?_ ⟨(k + 1), rfl, t0, (Eq.trans t3 (by first | rfl | (rw [cat_take (by omega), List.length_append]; rfl))), (Eq.trans t4 (by first | rfl | (rw [cat_take (by omega), List.length_append]; rfl))), (Eq.trans h3 (by first | rfl | (rw [cat_take (by omega)]; rfl))), ?_⟩
  · omega
  · omega
 refine W_seq_exit ?_
 refine p32 _ _ _ ?_
 refine x1 _ _ ?_
 refine .done ?_
 refine W_seq_regc (fun T H => T 2 = (V.ms 3 (1 + k) 0 ((cat (l.take k)).length)) ∧ H 3 = (bz (1 + k) 3 1 (List.map cI (cat (l.take k)))) ∧ True) ?_ ?_
 ·
  unfold r31_6
  refine R_mv t3 ?_
  refine R_mv (@rfl V (V.ms 3 (1 + k) 0 ((cat (l.take k)).length))) ?_
  exact R_nil ⟨rfl, h3, trivial⟩
 intro T H ⟨t2, h3, _⟩
 refine W_ret ?_
 refine Ret_1 t2 (fz_ms h3 (by first | rfl | simp) (l := (cat (l.take k))) rfl (by first | rfl | simp) (fun _ => by simp) ?_)
 · (have e : k = l.length := (by omega); subst e; rw [List.take_length])
end Go.Proofs.YtmnjchcoigbngaaGreat


namespace Go.Proofs.YtmnjchcoigbngaaGreat
open Go Go.Proofs
theorem raccess_pure (t : Dt) (hb : Bd t) : PureC Tryz.prog 41 [(V.agg [(V.sl (List.map cN (t.nd)))])] (intss (acL t.nd)) := by
 refine pure_of_Wb true 6 Tryz.func41 s41_ok (by kernel_rfl) (by simp [s41]) (by simp) (by simp) fun hB => ?_
 simp only [bnd_map, bnd_int, bnd_bool, bnd_str, bnd_agg, bnd_pp, bnd_nil, bnd_cons, implies_true, and_true, true_and] at hB
 unfold s41
 dsimp only
 have hbn := hb.n
 refine W_seq_regc (fun T H => T 1 = (V.mp 1 1 0 0) ∧ H 1 = (bk 1 24 1 [[(V.sl (List.map cN (t.nd)))]]) ∧ H 3 = (⟨0, false, false, 0, 0, []⟩ : Blk) ∧ True) ?_ ?_
 ·
  unfold r41_0
  refine R_box (i := 1) (n := 0) (m := 1) (cs := [(V.sl (List.map cN (t.nd)))]) rfl (congrArg Blk.ver rfl) (@rfl V (V.agg [(V.sl (List.map cN (t.nd)))])) rfl rfl ?_
  refine R_mv (@rfl V V.nilsl) ?_
  exact R_nil ⟨rfl, rfl, rfl, trivial⟩
 intro T H ⟨t1, h1, h3, _⟩
 refine W_seq_regc (fun T H => T 1 = (V.mp 1 1 0 0) ∧ T 3 = (V.ms 3 1 0 (0)) ∧ H 1 = (bk 1 24 1 [[(V.sl (List.map cN (t.nd)))]]) ∧ H 3 = (bz 1 38 1 []) ∧ True) ?_ ?_
 ·
  unfold r41_1
  refine R_lazy (i := 3) (n := 0) rfl (congrArg Blk.ver h3) ?_
  exact R_nil ⟨t1, rfl, h1, rfl, trivial⟩
 intro T H ⟨t1, t3, h1, h3, _⟩
 refine W_seq_seq ?_
 refine W_seq_regc (fun T H => T 1 = (V.mp 1 1 0 0) ∧ T 3 = (V.ms 3 1 0 (0)) ∧ T 4 = (iV (0 : Int)) ∧ H 1 = (bk 1 24 1 [[(V.sl (List.map cN (t.nd)))]]) ∧ H 3 = (bz 1 38 1 []) ∧ True) ?_ ?_
 ·
  unfold r41_2
  refine R_mv (@rfl V (iV (0 : Int))) ?_
  exact R_nil ⟨t1, t3, rfl, h1, h3, trivial⟩
 intro T H ⟨t1, t3, t4, h1, h3, _⟩
 refine W_seq_blockg fun Q1 n1 x1 y1 z1 => ?_
 refine W_loop (fun mm T H => ∃ (k : Nat) (v : Nat), mm = t.nd.length - k ∧ T 1 = (V.mp 1 1 0 0) ∧ T 3 = (V.ms 3 v 0 ((acL (t.nd.take k)).length)) ∧ T 4 = (iV ((k : Nat) : Int)) ∧ H 1 = (bk 1 24 1 [[(V.sl (List.map cN (t.nd)))]]) ∧ H 3 = (bz v 38 1 (List.map cL (acL (t.nd.take k)))) ∧ (k ≤ t.nd.length)) ?_ ?_
 ·
  refine ⟨_, 0, 1, rfl, t1, (Eq.trans t3 (by first | rfl | (rw [acL_take (by omega), if_pos (by assumption), List.length_append]; rfl) | (rw [acL_take (by omega), if_neg (by assumption), List.append_nil]; done) | simp)), (Eq.trans t4 (by first | rfl | (rw [acL_take (by omega), if_pos (by assumption), List.length_append]; rfl) | (rw [acL_take (by omega), if_neg (by assumption), List.append_nil]; done) | simp)), h1, (Eq.trans h3 (by first | rfl | (rw [acL_take (by omega), if_pos (by assumption)]; simp [cat]; done) | (rw [acL_take (by omega), if_neg (by assumption), List.append_nil]; done) | simp)), ?_⟩
  · omega
 intro mm T H ⟨k, v, hmm, t1, t3, t4, h1, h3, hk⟩ Q2 p12 p22 p32
 unfold b41_0
 have q1 := acL_len (t.nd.take k)
 have q2 : (t.nd.take k).length ≤ k := by simp; omega
 refine W_seq_seq ?_
 refine W_seq_regc (fun T H => T 1 = (V.mp 1 1 0 0) ∧ T 3 = (V.ms 3 v 0 ((acL (t.nd.take k)).length)) ∧ T 4 = (iV ((k : Nat) : Int)) ∧ T 9 = (V.bool (decide (((k : Nat) : Int) < ((t.nd.length : Nat) : Int)))) ∧ H 1 = (bk 1 24 1 [[(V.sl (List.map cN (t.nd)))]]) ∧ H 3 = (bz v 38 1 (List.map cL (acL (t.nd.take k)))) ∧ True) ?_ ?_
 ·
  unfold r41_3
  refine R_mv t4 ?_
  refine R_fld_mp (o' := 0) t1 h1 (by first | rfl | simp [okB, Blk.own]) rfl ?_
  refine R_load_mp (v := (V.sl (List.map cN (t.nd)))) (@rfl V (V.mp 1 1 0 0)) h1 (by first | rfl | simp [ldB, ldV, Blk.own, V.one]) ?_
  refine R_len (@rfl V (V.sl (List.map cN (t.nd)))) ?_
  refine R_lss (x := ((k : Nat) : Int)) (y := ((t.nd.length : Nat) : Int)) (@rfl V (iV ((k : Nat) : Int))) (@rfl V (iV ((t.nd.length : Nat) : Int))) ?_
  exact R_nil ⟨t1, t3, t4, rfl, h1, h3, trivial⟩
 intro T H ⟨t1, t3, t4, t9, h1, h3, _⟩
 refine W_seq_if (p := ((k : Nat) : Int) < ((t.nd.length : Nat) : Int)) t9 (fun c3 => ?_) (fun c3 => ?_)
 ·
  have r1 := hb.ac k (by omega)
  refine W_seq_skip ?_
  refine W_seq_blockg fun Q4 n4 x4 y4 z4 => ?_
  refine W_seq_regc (fun T H => T 1 = (V.mp 1 1 0 0) ∧ T 3 = (V.ms 3 v 0 ((acL (t.nd.take k)).length)) ∧ T 4 = (iV ((k : Nat) : Int)) ∧ T 17 = (V.bool (((nth (t.nd) (k))).lf)) ∧ H 1 = (bk 1 24 1 [[(V.sl (List.map cN (t.nd)))]]) ∧ H 3 = (bz v 38 1 (List.map cL (acL (t.nd.take k)))) ∧ True) ?_ ?_
  ·
   unfold r41_5
   refine R_fld_mp (o' := 0) t1 h1 (by first | rfl | simp [okB, Blk.own]) rfl ?_
   refine R_load_mp (v := (V.sl (List.map cN (t.nd)))) (@rfl V (V.mp 1 1 0 0)) h1 (by first | rfl | simp [ldB, ldV, Blk.own, V.one]) ?_
   refine R_mv t4 ?_
   refine R_idx (i := k) (@rfl V (V.sl (List.map cN (t.nd)))) (@rfl V (iV ((k : Nat) : Int))) (by omega) rfl ?_
   refine R_fld_pp (cs' := (cN (((nth (t.nd) (k)))))) rfl rfl ?_
   refine R_load_pp (v := (V.bool (((nth (t.nd) (k))).lf))) rfl (by first | rfl | simp [ldV]) ?_
   exact R_nil ⟨t1, t3, t4, rfl, h1, h3, trivial⟩
  intro T H ⟨t1, t3, t4, t17, h1, h3, _⟩
  refine W_ifb t17 (fun c5 => ?_) (fun c5 => ?_)
  ·
   have d1 : (nth t.nd k).lf = true := c5
   refine W_regc (fun T H => T 1 = (V.mp 1 1 0 0) ∧ T 3 = (V.ms 3 (v + 1) 0 (((acL (t.nd.take k)).length) + 1)) ∧ T 4 = (iV ((k : Nat) : Int)) ∧ H 1 = (bk 1 24 1 [[(V.sl (List.map cN (t.nd)))]]) ∧ H 3 = (bz (v + 1) 38 1 (List.map cL (acL (t.nd.take k) ++ [cat ([((nth (t.nd) (k))).ac])]))) ∧ True) ?_ ?_
   ·
    unfold r41_6
    refine R_mv t3 ?_
    refine R_fld_mp (o' := 0) t1 h1 (by first | rfl | simp [okB, Blk.own]) rfl ?_
    refine R_load_mp (v := (V.sl (List.map cN (t.nd)))) (@rfl V (V.mp 1 1 0 0)) h1 (by first | rfl | simp [ldB, ldV, Blk.own, V.one]) ?_
    refine R_mv t4 ?_
    refine R_idx (i := k) (@rfl V (V.sl (List.map cN (t.nd)))) (@rfl V (iV ((k : Nat) : Int))) (by omega) rfl ?_
    refine R_fld_pp (cs' := (List.drop 1 (cN (((nth (t.nd) (k))))))) rfl rfl ?_
    refine R_load_pp (v := (ints (((nth (t.nd) (k))).ac))) rfl (by first | rfl | simp [ldV]) ?_
    refine R_bslice (qs := [(0, (ints (((nth (t.nd) (k))).ac)))]) (rows := [[(ints (((nth (t.nd) (k))).ac))]]) (mcons (congrArg (fun v => (0, v)) (@rfl V (ints (((nth (t.nd) (k))).ac)))) rfl) rfl ?_
    refine R_callc (evcons (@rfl V (V.sl [[(ints (((nth (t.nd) (k))).ac))]])) evnil) (join_pure ([((nth (t.nd) (k))).ac]) (by simp [cat]; omega)) ?_
    refine R_bslice (qs := [(0, (ints (cat ([((nth (t.nd) (k))).ac]))))]) (rows := [[(ints (cat ([((nth (t.nd) (k))).ac])))]]) (mcons (congrArg (fun v => (0, v)) (@rfl V (ints (cat ([((nth (t.nd) (k))).ac]))))) rfl) rfl ?_
    refine R_append1 (l := (acL (t.nd.take k))) (f := cL) (x := (cat ([((nth (t.nd) (k))).ac]))) (@rfl V (V.ms 3 v 0 ((acL (t.nd.take k)).length))) h3 (by first | rfl | simp | omega) (@rfl V (V.sl [[(ints (cat ([((nth (t.nd) (k))).ac])))]])) rfl rfl (by omega) (by omega) ?_
    refine R_mv (@rfl V (V.ms 3 (v + 1) 0 (((acL (t.nd.take k)).length) + 1))) ?_
    exact R_nil ⟨t1, rfl, t4, h1, rfl, trivial⟩
   intro T H ⟨t1, t3, t4, h1, h3, _⟩
   refine n4 _ _ ?_
   refine .done ?_
   refine W_regc (fun T H => T 1 = (V.mp 1 1 0 0) ∧ T 3 = (V.ms 3 (v + 1) 0 (((acL (t.nd.take k)).length) + 1)) ∧ T 4 = (iV ((k + 1 : Nat) : Int)) ∧ H 1 = (bk 1 24 1 [[(V.sl (List.map cN (t.nd)))]]) ∧ H 3 = (bz (v + 1) 38 1 (List.map cL (acL (t.nd.take k) ++ [cat ([((nth (t.nd) (k))).ac])]))) ∧ True) ?_ ?_
   ·
    unfold r41_4
    refine R_mv t4 ?_
    refine R_addN (m := k) (n := 1) (@rfl V (iV ((k : Nat) : Int))) (@rfl V (iV ((1 : Nat) : Int))) (by omega) ?_
    refine R_mv (@rfl V (iV ((k + 1 : Nat) : Int))) ?_
    exact R_nil ⟨t1, t3, rfl, h1, h3, trivial⟩
   intro T H ⟨t1, t3, t4, h1, h3, _⟩
   refine p12 _ _ _ ?_ ⟨(k + 1), (v + 1), rfl, t1, (Eq.trans t3 (by first | rfl | (rw [acL_take (by omega), if_pos (by assumption), List.length_append]; rfl) | (rw [acL_take (by omega), if_neg (by assumption), List.append_nil]; done) | simp)), (Eq.trans t4 (by first | rfl | (rw [acL_take (by omega), if_pos (by assumption), List.length_append]; rfl) | (rw [acL_take (by omega), if_neg (by assumption), List.append_nil]; done) | simp)), h1, (Eq.trans h3 (by first | rfl | (rw [acL_take (by omega), if_pos (by assumption)]; simp [cat]; done) | (rw [acL_take (by omega), if_neg (by assumption), List.append_nil]; done) | simp)), ?_⟩
   · omega
   · omega
  have d1 : ¬(nth t.nd k).lf = true := by simpa using c5
  refine W_skip ?_
  refine n4 _ _ ?_
  refine .done ?_
  refine W_regc (fun T H => T 1 = (V.mp 1 1 0 0) ∧ T 3 = (V.ms 3 v 0 ((acL (t.nd.take k)).length)) ∧ T 4 = (iV ((k + 1 : Nat) : Int)) ∧ H 1 = (bk 1 24 1 [[(V.sl (List.map cN (t.nd)))]]) ∧ H 3 = (bz v 38 1 (List.map cL (acL (t.nd.take k)))) ∧ True) ?_ ?_
  ·
   unfold r41_4
   refine R_mv t4 ?_
   refine R_addN (m := k) (n := 1) (@rfl V (iV ((k : Nat) : Int))) (@rfl V (iV ((1 : Nat) : Int))) (by omega) ?_
   refine R_mv (@rfl V (iV ((k + 1 : Nat) : Int))) ?_
   exact R_nil ⟨t1, t3, rfl, h1, h3, trivial⟩
  intro T H ⟨t1, t3, t4, h1, h3, _⟩
  refine p12 _ _ _ ?_ ⟨(k + 1), v, rfl, t1, (Eq.trans t3 (by first | rfl | (rw [acL_take (by omega), if_pos (by assumption), List.length_append]; rfl) | (rw [acL_take (by omega), if_neg (by assumption), List.append_nil]; done) | simp)), (Eq.trans t4 (by first | rfl | (rw [acL_take (by omega), if_pos (by assumption), List.length_append]; rfl) | (rw [acL_take (by omega), if_neg (by assumption), List.append_nil]; done) | simp)), h1, (Eq.trans h3 (by first | rfl | (rw [acL_take (by omega), if_pos (by assumption)]; simp [cat]; done) | (rw [acL_take (by omega), if_neg (by assumption), List.append_nil]; done) | simp)), ?_⟩
  · omega
  · omega
 refine W_seq_exit ?_
 refine p32 _ _ _ ?_
 refine x1 _ _ ?_
 refine .done ?_
 refine W_seq_regc (fun T H => T 2 = (V.ms 3 v 0 ((acL (t.nd.take k)).length)) ∧ H 1 = (bk 1 24 1 [[(V.sl (List.map cN (t.nd)))]]) ∧ H 3 = (bz v 38 1 (List.map cL (acL (t.nd.take k)))) ∧ True) ?_ ?_
 ·
  unfold r41_7
  refine R_mv t3 ?_
  refine R_mv (@rfl V (V.ms 3 v 0 ((acL (t.nd.take k)).length))) ?_
  exact R_nil ⟨rfl, h1, h3, trivial⟩
 intro T H ⟨t2, h1, h3, _⟩
 refine W_ret ?_
 refine Ret_1 t2 (fz_ms h3 (by first | rfl | simp) (l := (acL (t.nd.take k))) rfl (by first | rfl | simp | omega) (fun _ => by simp) ?_)
 · rw [show k = t.nd.length by omega, List.take_length]
end Go.Proofs.YtmnjchcoigbngaaGreat


namespace Go.Proofs.YtmnjchcoigbngaaGreat
open Go Go.Proofs
def r42_0 : List SO := [
  sO 2 (.mv (.c (.nilsl)))]
def r42_1 : List SO := [
  sO 3 (.lazy 38 1)]
def r42_2 : List SO := [
  sO 4 (.mv (.c (.int .i64 0)))]
def r42_3 : List SO := [
  sO 5 (.mv (.t 4)),
  sO 6 (.mv (.t 0)),
  sO 7 (.len (.t 6)),
  sO 8 (.bin .lss (.t 5) (.t 7))]
def r42_5 : List SO := [
  sO 11 (.mv (.t 3)),
  sO 12 (.mv (.t 0)),
  sO 13 (.mv (.t 4)),
  sO 14 (.idx 1 (.t 12) (.t 13)),
  sO 15 (.load false 1 (.t 14)),
  sO 16 (.call true 77 [.t 11, .t 15]),
  sO 3 (.mv (.t 16))]
def r42_4 : List SO := [
  sO 9 (.mv (.t 4)),
  sO 10 (.bin .add (.t 9) (.c (.int .i64 1))),
  sO 4 (.mv (.t 10))]
def b42_0 : SC := .seq (.seq (.reg r42_3) (.cond (.t 8) (.skip) (.exit 0))) (.seq (.block 1 (.reg r42_5)) (.reg r42_4))
def r42_6 : List SO := [
  sO 17 (.mv (.t 3)),
  sO 2 (.mv (.t 17))]
def s42 : SF := ⟨18, [.tmp 2], .seq (.reg r42_0) (.seq (.reg r42_1) (.seq (.seq (.reg r42_2) (.block 0 (.loop b42_0))) (.seq (.reg r42_6) (.ret))))⟩
theorem s42_ok : slimF Tryz.prog ⟨[57, 58, 59, 63, 67, 68, 77, 102, 103, 104, 110, 116, 120], [3]⟩ Tryz.f42 = some s42 := by kernel_rfl
end Go.Proofs.YtmnjchcoigbngaaGreat


namespace Go.Proofs.YtmnjchcoigbngaaGreat
open Go Go.Proofs
def r77_0 : List SO := [
  sO 4 (.mv (.c (.nilsl)))]
def r77_1 : List SO := [
  sO 7 (.mv (.t 0)),
  sO 8 (.mv (.t 1)),
  sO 9 (.call false 108 [.t 7, .t 8]),
  sO 5 (.mv (.t 9))]
def r77_2 : List SO := [
  sO 10 (.mv (.t 5)),
  sO 11 (.mv (.t 0)),
  sO 12 (.len (.t 11)),
  sO 13 (.bin .lss (.t 10) (.t 12)),
  sO 14 (.mv (.t 13)),
  ⟨some (14, true), some 15, .mv (.t 0)⟩,
  ⟨some (14, true), some 16, .mv (.t 5)⟩,
  ⟨some (14, true), some 17, .idx 1 (.t 15) (.t 16)⟩,
  ⟨some (14, true), some 18, .load false 1 (.t 17)⟩,
  ⟨some (14, true), some 19, .mv (.t 1)⟩,
  ⟨some (14, true), some 20, .call false 22 [.t 18, .t 19]⟩,
  sO 21 (.pick (.t 14) (.t 20) (.c (.bool false)))]
def r77_3 : List SO := [
  sO 22 (.mv (.t 0)),
  sO 4 (.mv (.t 22))]
def r77_4 : List SO := [
  sO 23 (.mv (.t 0)),
  sO 24 (.bslice 38 1 false [.nilsl] 1 [(0, .c (.nilsl))]),
  sO 25 (.append 38 1 24 (.t 23) (.t 24)),
  sO 0 (.mv (.t 25))]
def r77_5 : List SO := [
  sO 26 (.mv (.t 0)),
  sO 27 (.len (.t 26)),
  sO 28 (.bin .sub (.t 27) (.c (.int .i64 1))),
  sO 6 (.mv (.t 28))]
def r77_6 : List SO := [
  sO 29 (.mv (.t 6)),
  sO 30 (.mv (.t 5)),
  sO 31 (.bin .gtr (.t 29) (.t 30))]
def r77_8 : List SO := [
  sO 34 (.mv (.t 0)),
  sO 35 (.mv (.t 6)),
  sO 36 (.mv (.t 0)),
  sO 37 (.mv (.t 6)),
  sO 38 (.bin .sub (.t 37) (.c (.int .i64 1))),
  sO 39 (.idx 1 (.t 36) (.t 38)),
  sO 40 (.load false 1 (.t 39)),
  sO 41 (.idx 1 (.t 34) (.t 35)),
  sN (.store 1 (.t 41) (.t 40))]
def r77_7 : List SO := [
  sO 32 (.mv (.t 6)),
  sO 33 (.bin .sub (.t 32) (.c (.int .i64 1))),
  sO 6 (.mv (.t 33))]
def b77_0 : SC := .seq (.seq (.reg r77_6) (.cond (.t 31) (.skip) (.exit 0))) (.seq (.block 1 (.reg r77_8)) (.reg r77_7))
def r77_9 : List SO := [
  sO 42 (.mv (.t 0)),
  sO 43 (.mv (.t 5)),
  sO 44 (.lazy 3 1),
  sO 45 (.mv (.t 1)),
  sO 46 (.append 3 1 8 (.t 44) (.t 45)),
  sO 47 (.idx 1 (.t 42) (.t 43)),
  sN (.store 1 (.t 47) (.t 46))]
def r77_10 : List SO := [
  sO 48 (.mv (.t 0)),
  sO 4 (.mv (.t 48))]
def s77 : SF := ⟨49, [.tmp 4], .seq (.reg r77_0) (.seq (.reg r77_1) (.seq (.seq (.reg r77_2) (.cond (.t 21) (.seq (.reg r77_3) (.ret)) (.skip))) (.seq (.reg r77_4) (.seq (.seq (.reg r77_5) (.block 0 (.loop b77_0))) (.seq (.reg r77_9) (.seq (.reg r77_10) (.ret)))))))⟩
theorem s77_ok : slimF Tryz.prog ⟨[57, 58, 59, 63, 67, 68, 77, 102, 103, 104, 110, 116, 120], [44]⟩ Tryz.f77 = some s77 := by kernel_rfl
end Go.Proofs.YtmnjchcoigbngaaGreat


namespace Go.Proofs.YtmnjchcoigbngaaGreat
open Go Go.Proofs
theorem rsame1_pure (a b : List Int) : PureC Tryz.prog 22 [(ints a), (ints b)] (V.bool (decide (a = b))) := by
 refine pure_of_Wb true 6 Tryz.func22 s22_ok (by kernel_rfl) (by simp [s22]) (by simp) (by simp) fun hB => ?_
 simp only [bnd_map, bnd_int, bnd_bool, bnd_str, bnd_agg, bnd_pp, bnd_nil, bnd_cons, implies_true, and_true, true_and] at hB
 unfold s22
 dsimp only
 refine W_seq_regc (fun T H => T 0 = (ints a) ∧ T 1 = (ints b) ∧ True) ?_ ?_
 ·
  unfold r22_0
  refine R_mv (@rfl V (V.bool false)) ?_
  exact R_nil ⟨rfl, rfl, trivial⟩
 intro T H ⟨t0, t1, _⟩
 refine W_seq_regc (fun T H => T 4 = (V.bool (decide ((((a.length : Nat) : Int) = ((b.length : Nat) : Int)) ∧ (((cmn a b : Nat) : Int) = ((a.length : Nat) : Int))))) ∧ True) ?_ ?_
 ·
  unfold r22_1
  refine R_mv t0 ?_
  refine R_len (@rfl V (ints a)) ?_
  refine R_mv t1 ?_
  refine R_len (@rfl V (ints b)) ?_
  refine R_eql (x := ((a.length : Nat) : Int)) (y := ((b.length : Nat) : Int)) (@rfl V (iV ((a.length : Nat) : Int))) (@rfl V (iV ((b.length : Nat) : Int))) ?_
  refine R_mv (@rfl V (V.bool (decide (((a.length : Nat) : Int) = ((b.length : Nat) : Int))))) ?_
  refine Ops_seg 7 (fun T H => T 17 = (V.bool (decide ((((a.length : Nat) : Int) = ((b.length : Nat) : Int)) ∧ (((cmn a b : Nat) : Int) = ((a.length : Nat) : Int))))) ∧ True) ?_ ?_
  ·
   by_cases g1 : ((a.length : Nat) : Int) = ((b.length : Nat) : Int)
   ·
    refine G_yes (Eq.trans (@rfl V (V.bool (decide (((a.length : Nat) : Int) = ((b.length : Nat) : Int))))) (bdT g1)) ?_
    refine R_mv t0 ?_
    refine G_yes (Eq.trans (@rfl V (V.bool (decide (((a.length : Nat) : Int) = ((b.length : Nat) : Int))))) (bdT g1)) ?_
    refine R_mv t1 ?_
    refine G_yes (Eq.trans (@rfl V (V.bool (decide (((a.length : Nat) : Int) = ((b.length : Nat) : Int))))) (bdT g1)) ?_
    have q2 := cmn_l a b
    have q3 := cmn_r a b
    refine R_callc (evcons (@rfl V (ints a)) (evcons (@rfl V (ints b)) evnil)) (rcommon_pure a b) ?_
    refine G_yes (Eq.trans (@rfl V (V.bool (decide (((a.length : Nat) : Int) = ((b.length : Nat) : Int))))) (bdT g1)) ?_
    refine R_mv t0 ?_
    refine G_yes (Eq.trans (@rfl V (V.bool (decide (((a.length : Nat) : Int) = ((b.length : Nat) : Int))))) (bdT g1)) ?_
    refine R_len (@rfl V (ints a)) ?_
    refine G_yes (Eq.trans (@rfl V (V.bool (decide (((a.length : Nat) : Int) = ((b.length : Nat) : Int))))) (bdT g1)) ?_
    refine R_eql (x := ((cmn a b : Nat) : Int)) (y := ((a.length : Nat) : Int)) (@rfl V (iV ((cmn a b : Nat) : Int))) (@rfl V (iV ((a.length : Nat) : Int))) ?_
    refine R_pickT (Eq.trans (@rfl V (V.bool (decide (((a.length : Nat) : Int) = ((b.length : Nat) : Int))))) (bdT g1)) (@rfl V (V.bool (decide (((cmn a b : Nat) : Int) = ((a.length : Nat) : Int))))) ?_
    exact ⟨(Eq.trans (@rfl V (V.bool (decide (((cmn a b : Nat) : Int) = ((a.length : Nat) : Int))))) (dec_andT g1)), trivial⟩
   ·
    refine G_no (Eq.trans (@rfl V (V.bool (decide (((a.length : Nat) : Int) = ((b.length : Nat) : Int))))) (bdF g1)) (by decide) ?_
    refine G_no (Eq.trans (@rfl V (V.bool (decide (((a.length : Nat) : Int) = ((b.length : Nat) : Int))))) (bdF g1)) (by decide) ?_
    refine G_no (Eq.trans (@rfl V (V.bool (decide (((a.length : Nat) : Int) = ((b.length : Nat) : Int))))) (bdF g1)) (by decide) ?_
    refine G_no (Eq.trans (@rfl V (V.bool (decide (((a.length : Nat) : Int) = ((b.length : Nat) : Int))))) (bdF g1)) (by decide) ?_
    refine G_no (Eq.trans (@rfl V (V.bool (decide (((a.length : Nat) : Int) = ((b.length : Nat) : Int))))) (bdF g1)) (by decide) ?_
    refine G_no (Eq.trans (@rfl V (V.bool (decide (((a.length : Nat) : Int) = ((b.length : Nat) : Int))))) (bdF g1)) (by decide) ?_
    refine R_pickF (Eq.trans (@rfl V (V.bool (decide (((a.length : Nat) : Int) = ((b.length : Nat) : Int))))) (bdF g1)) (@rfl V (V.bool false)) ?_
    exact ⟨(Eq.trans (@rfl V (V.bool false)) (dec_andF g1)), trivial⟩
  intro T H ⟨t17, _⟩
  refine R_mv t17 ?_
  exact R_nil ⟨rfl, trivial⟩
 intro T H ⟨t4, _⟩
 refine W_ret ?_
 refine Ret_1 t4 (fz_bool ?_)
 · exact same_dec a b
end Go.Proofs.YtmnjchcoigbngaaGreat


namespace Go.Proofs.YtmnjchcoigbngaaGreat
open Go Go.Proofs
def r108_0 : List SO := [
  sO 4 (.mv (.c (.int .i64 0)))]
def r108_1 : List SO := [
  sO 8 (.mv (.t 0)),
  sO 9 (.len (.t 8)),
  sO 5 (.mv (.c (.int .i64 0))),
  sO 6 (.mv (.t 9))]
def r108_2 : List SO := [
  sO 10 (.mv (.t 5)),
  sO 11 (.mv (.t 6)),
  sO 12 (.bin .lss (.t 10) (.t 11))]
def r108_3 : List SO := [
  sO 13 (.mv (.t 5)),
  sO 14 (.mv (.t 6)),
  sO 15 (.bin .add (.t 13) (.t 14)),
  sO 16 (.bin .quo (.t 15) (.c (.int .i64 2))),
  sO 7 (.mv (.t 16))]
def r108_4 : List SO := [
  sO 17 (.mv (.t 0)),
  sO 18 (.mv (.t 7)),
  sO 19 (.idx 1 (.t 17) (.t 18)),
  sO 20 (.load false 1 (.t 19)),
  sO 21 (.mv (.t 1)),
  sO 22 (.call false 46 [.t 20, .t 21]),
  sO 23 (.bin .lss (.t 22) (.c (.int .i64 0)))]
def r108_5 : List SO := [
  sO 24 (.mv (.t 7)),
  sO 25 (.bin .add (.t 24) (.c (.int .i64 1))),
  sO 5 (.mv (.t 25))]
def r108_6 : List SO := [
  sO 26 (.mv (.t 7)),
  sO 6 (.mv (.t 26))]
def b108_0 : SC := .seq (.seq (.reg r108_2) (.cond (.t 12) (.skip) (.exit 0))) (.block 1 (.seq (.reg r108_3) (.seq (.reg r108_4) (.cond (.t 23) (.reg r108_5) (.reg r108_6)))))
def r108_7 : List SO := [
  sO 27 (.mv (.t 5)),
  sO 4 (.mv (.t 27))]
def s108 : SF := ⟨28, [.tmp 4], .seq (.reg r108_0) (.seq (.reg r108_1) (.seq (.block 0 (.loop b108_0)) (.seq (.reg r108_7) (.ret))))⟩
theorem s108_ok : slimF Tryz.prog ⟨[57, 58, 59, 63, 67, 68, 77, 102, 103, 104, 110, 116, 120], []⟩ Tryz.f108 = some s108 := by kernel_rfl
end Go.Proofs.YtmnjchcoigbngaaGreat


namespace Go.Proofs.YtmnjchcoigbngaaGreat
open Go Go.Proofs
theorem place_pure (l : List (List Int)) (w : List Int) (hs : SrtW l) (hl : l.length ≤ 1073741824) : PureC Tryz.prog 108 [(intss l), (ints w)] (iV ((plN l w : Nat) : Int)) := by
 refine pure_of_Wb true 6 Tryz.func108 s108_ok (by kernel_rfl) (by simp [s108]) (by simp) (by simp) fun hB => ?_
 simp only [bnd_map, bnd_int, bnd_bool, bnd_str, bnd_agg, bnd_pp, bnd_nil, bnd_cons, implies_true, and_true, true_and] at hB
 unfold s108
 dsimp only
 have q0 := pl_le (w := w) l
 refine W_seq_regc (fun T H => T 0 = (intss l) ∧ T 1 = (ints w) ∧ True) ?_ ?_
 ·
  unfold r108_0
  refine R_mv (@rfl V (iV (0 : Int))) ?_
  exact R_nil ⟨rfl, rfl, trivial⟩
 intro T H ⟨t0, t1, _⟩
 refine W_seq_regc (fun T H => T 0 = (intss l) ∧ T 1 = (ints w) ∧ T 5 = (iV (0 : Int)) ∧ T 6 = (iV ((l.length : Nat) : Int)) ∧ True) ?_ ?_
 ·
  unfold r108_1
  refine R_mv t0 ?_
  refine R_len (@rfl V (intss l)) ?_
  refine R_mv (@rfl V (iV (0 : Int))) ?_
  refine R_mv (@rfl V (iV ((l.length : Nat) : Int))) ?_
  exact R_nil ⟨t0, t1, rfl, rfl, trivial⟩
 intro T H ⟨t0, t1, t5, t6, _⟩
 refine W_seq_blockg fun Q1 n1 x1 y1 z1 => ?_
 refine W_loop (fun mm T H => ∃ (i : Nat) (j : Nat), mm = j - i ∧ T 0 = (intss l) ∧ T 1 = (ints w) ∧ T 5 = (iV ((i : Nat) : Int)) ∧ T 6 = (iV ((j : Nat) : Int)) ∧ (i ≤ plN l w) ∧ (plN l w ≤ j) ∧ (j ≤ l.length)) ?_ ?_
 ·
  refine ⟨_, 0, l.length, rfl, t0, t1, (Eq.trans t5 (by first | rfl | simp)), t6, ?_, ?_, ?_⟩
  · omega
  · omega
  · omega
 intro mm T H ⟨i, j, hmm, t0, t1, t5, t6, h1, h2, h3⟩ Q2 p12 p22 p32
 unfold b108_0
 refine W_seq_seq ?_
 refine W_seq_regc (fun T H => T 0 = (intss l) ∧ T 1 = (ints w) ∧ T 5 = (iV ((i : Nat) : Int)) ∧ T 6 = (iV ((j : Nat) : Int)) ∧ T 12 = (V.bool (decide (((i : Nat) : Int) < ((j : Nat) : Int)))) ∧ True) ?_ ?_
 ·
  unfold r108_2
  refine R_mv t5 ?_
  refine R_mv t6 ?_
  refine R_lss (x := ((i : Nat) : Int)) (y := ((j : Nat) : Int)) (@rfl V (iV ((i : Nat) : Int))) (@rfl V (iV ((j : Nat) : Int))) ?_
  exact R_nil ⟨t0, t1, t5, t6, rfl, trivial⟩
 intro T H ⟨t0, t1, t5, t6, t12, _⟩
 refine W_seq_if (p := ((i : Nat) : Int) < ((j : Nat) : Int)) t12 (fun c3 => ?_) (fun c3 => ?_)
 ·
  refine W_seq_skip ?_
  refine W_block fun Q4 n4 x4 y4 z4 => ?_
  refine W_seq_regc (fun T H => T 0 = (intss l) ∧ T 1 = (ints w) ∧ T 5 = (iV ((i : Nat) : Int)) ∧ T 6 = (iV ((j : Nat) : Int)) ∧ T 7 = (iV (((i + j) / 2 : Nat) : Int)) ∧ True) ?_ ?_
  ·
   unfold r108_3
   refine R_mv t5 ?_
   refine R_mv t6 ?_
   refine R_addN (m := i) (n := j) (@rfl V (iV ((i : Nat) : Int))) (@rfl V (iV ((j : Nat) : Int))) (by omega) ?_
   refine R_quo2 (n := (i + j)) (@rfl V (iV ((i + j : Nat) : Int))) (@rfl V (iV (2 : Int))) (by omega) ?_
   refine R_mv (@rfl V (iV (((i + j) / 2 : Nat) : Int))) ?_
   exact R_nil ⟨t0, t1, t5, t6, rfl, trivial⟩
  intro T H ⟨t0, t1, t5, t6, t7, _⟩
  refine W_seq_regc (fun T H => T 0 = (intss l) ∧ T 1 = (ints w) ∧ T 5 = (iV ((i : Nat) : Int)) ∧ T 6 = (iV ((j : Nat) : Int)) ∧ T 7 = (iV (((i + j) / 2 : Nat) : Int)) ∧ T 23 = (V.bool (decide ((slx ((nth (l) ((i + j) / 2))) w) < (0 : Int)))) ∧ True) ?_ ?_
  ·
   unfold r108_4
   refine R_mv t0 ?_
   refine R_mv t7 ?_
   refine R_idx (i := ((i + j) / 2)) (@rfl V (intss l)) (@rfl V (iV (((i + j) / 2 : Nat) : Int))) (by omega) rfl ?_
   refine R_load_pp (v := (ints ((nth (l) ((i + j) / 2))))) rfl (by first | rfl | simp [ldV]) ?_
   refine R_mv t1 ?_
   refine R_callc (evcons (@rfl V (ints ((nth (l) ((i + j) / 2))))) (evcons (@rfl V (ints w)) evnil)) (rcompare_pure ((nth (l) ((i + j) / 2))) w) ?_
   refine R_lss (x := (slx ((nth (l) ((i + j) / 2))) w)) (y := (0 : Int)) (@rfl V (iV (slx ((nth (l) ((i + j) / 2))) w))) (@rfl V (iV (0 : Int))) ?_
   exact R_nil ⟨t0, t1, t5, t6, t7, rfl, trivial⟩
  intro T H ⟨t0, t1, t5, t6, t7, t23, _⟩
  refine W_if (p := (slx ((nth (l) ((i + j) / 2))) w) < (0 : Int)) t23 (fun c5 => ?_) (fun c5 => ?_)
  ·
   have d1 := (pl_iff hs (by omega)).1 c5
   refine W_regc (fun T H => T 0 = (intss l) ∧ T 1 = (ints w) ∧ T 5 = (iV ((((i + j) / 2) + 1 : Nat) : Int)) ∧ T 6 = (iV ((j : Nat) : Int)) ∧ True) ?_ ?_
   ·
    unfold r108_5
    refine R_mv t7 ?_
    refine R_addN (m := ((i + j) / 2)) (n := 1) (@rfl V (iV (((i + j) / 2 : Nat) : Int))) (@rfl V (iV ((1 : Nat) : Int))) (by omega) ?_
    refine R_mv (@rfl V (iV ((((i + j) / 2) + 1 : Nat) : Int))) ?_
    exact R_nil ⟨t0, t1, rfl, t6, trivial⟩
   intro T H ⟨t0, t1, t5, t6, _⟩
   refine n4 _ _ ?_
   refine p12 _ _ _ ?_ ⟨(((i + j) / 2) + 1), j, rfl, t0, t1, (Eq.trans t5 (by first | rfl | simp)), t6, ?_, ?_, ?_⟩
   · omega
   · omega
   · omega
   · omega
  have d1 : ¬((i + j) / 2 < plN l w) := fun e => c5 ((pl_iff hs (by omega)).2 e)
  refine W_regc (fun T H => T 0 = (intss l) ∧ T 1 = (ints w) ∧ T 5 = (iV ((i : Nat) : Int)) ∧ T 6 = (iV (((i + j) / 2 : Nat) : Int)) ∧ True) ?_ ?_
  ·
   unfold r108_6
   refine R_mv t7 ?_
   refine R_mv (@rfl V (iV (((i + j) / 2 : Nat) : Int))) ?_
   exact R_nil ⟨t0, t1, t5, rfl, trivial⟩
  intro T H ⟨t0, t1, t5, t6, _⟩
  refine n4 _ _ ?_
  refine p12 _ _ _ ?_ ⟨i, ((i + j) / 2), rfl, t0, t1, t5, (Eq.trans t6 (by first | rfl | simp)), ?_, ?_, ?_⟩
  · omega
  · omega
  · omega
  · omega
 refine W_seq_exit ?_
 refine p32 _ _ _ ?_
 refine x1 _ _ ?_
 refine .done ?_
 refine W_seq_regc (fun T H => T 4 = (iV ((i : Nat) : Int)) ∧ True) ?_ ?_
 ·
  unfold r108_7
  refine R_mv t5 ?_
  refine R_mv (@rfl V (iV ((i : Nat) : Int))) ?_
  exact R_nil ⟨rfl, trivial⟩
 intro T H ⟨t4, _⟩
 refine W_ret ?_
 refine Ret_1 t4 (fz_int ?_)
 · have e : i = plN l w := by omega
   rw [e]
end Go.Proofs.YtmnjchcoigbngaaGreat


