/- Contracts of the functions that the law HC reaches, and the law itself, for every input; no condition. -/
import Derived.KernelRfl
import Derived.Test.YtngkckefanbhgaaRows
import Derived.Test.YtngkckefanbhgaaHC2
set_option linter.unusedSimpArgs false
set_option linter.unusedVariables false
namespace Go.Proofs.Ytngkckefanbhgaa
open Go Go.Proofs

theorem oval_pure (o : Ob) : PureC Try.prog 36 [(V.agg [(iV (o.i)), (V.sl (List.map cT (o.tr)))])] (iV (oval o)) := by
 refine pure_of_Wb true 6 Try.func36 s36_ok (by kernel_rfl) (by simp [s36]) (by simp) (by simp) fun hB => ?_
 simp only [bnd_map, bnd_int, bnd_bool, bnd_str, bnd_agg, bnd_pp, bnd_nil, bnd_cons, implies_true, and_true, true_and] at hB
 unfold s36
 dsimp only
 refine W_seq_regc (fun T H => T 1 = (V.mp 1 1 0 0) ∧ H 1 = (⟨1, true, false, 34, 2, [[(iV (o.i)), (V.sl (List.map cT (o.tr)))]]⟩ : Blk) ∧ H 4 = (⟨0, false, false, 0, 0, []⟩ : Blk) ∧ H 8 = (⟨0, false, false, 0, 0, []⟩ : Blk) ∧ True) ?_ ?_
 ·
  unfold r36_0
  refine R_box (i := 1) (n := 0) (m := 2) (cs := [(iV (o.i)), (V.sl (List.map cT (o.tr)))]) rfl (congrArg Blk.ver rfl) (@rfl V (V.agg [(iV (o.i)), (V.sl (List.map cT (o.tr)))])) rfl rfl ?_
  refine R_mv (@rfl V (iV (0 : Int))) ?_
  exact R_nil ⟨rfl, rfl, rfl, rfl, trivial⟩
 intro T H ⟨t1, h1, h4, h8, _⟩
 refine W_seq_seq ?_
 refine W_seq_regc (fun T H => T 1 = (V.mp 1 1 0 0) ∧ T 17 = (V.bool (decide (((o.i) < (1 : Int)) ∨ ((64 : Int) < (o.i))))) ∧ H 1 = (⟨1, true, false, 34, 2, [[(iV (o.i)), (V.sl (List.map cT (o.tr)))]]⟩ : Blk) ∧ H 4 = (⟨0, false, false, 0, 0, []⟩ : Blk) ∧ H 8 = (⟨0, false, false, 0, 0, []⟩ : Blk) ∧ True) ?_ ?_
 ·
  unfold r36_1
  refine R_fld_mp (o' := 0) t1 h1 (by first | rfl | simp [okB, Blk.own]) rfl ?_
  refine R_load_mp (v := (iV (o.i))) (@rfl V (V.mp 1 1 0 0)) h1 (by first | rfl | simp [ldB, ldV, Blk.own, V.one]) ?_
  refine R_lss (x := (o.i)) (y := (1 : Int)) (@rfl V (iV (o.i))) (@rfl V (iV (1 : Int))) ?_
  refine R_mv (@rfl V (V.bool (decide ((o.i) < (1 : Int))))) ?_
  refine Ops_seg 4 (fun T H => T 1 = (V.mp 1 1 0 0) ∧ T 17 = (V.bool (decide (((o.i) < (1 : Int)) ∨ ((64 : Int) < (o.i))))) ∧ H 1 = (⟨1, true, false, 34, 2, [[(iV (o.i)), (V.sl (List.map cT (o.tr)))]]⟩ : Blk) ∧ H 4 = (⟨0, false, false, 0, 0, []⟩ : Blk) ∧ H 8 = (⟨0, false, false, 0, 0, []⟩ : Blk) ∧ True) ?_ ?_
  ·
   by_cases g1 : (o.i) < (1 : Int)
   ·
    refine G_no (Eq.trans (@rfl V (V.bool (decide ((o.i) < (1 : Int))))) (bdT g1)) (by decide) ?_
    refine G_no (Eq.trans (@rfl V (V.bool (decide ((o.i) < (1 : Int))))) (bdT g1)) (by decide) ?_
    refine G_no (Eq.trans (@rfl V (V.bool (decide ((o.i) < (1 : Int))))) (bdT g1)) (by decide) ?_
    refine R_pickT (Eq.trans (@rfl V (V.bool (decide ((o.i) < (1 : Int))))) (bdT g1)) (@rfl V (V.bool true)) ?_
    exact ⟨t1, (Eq.trans (@rfl V (V.bool true)) (dec_orT g1)), h1, h4, h8, trivial⟩
   ·
    refine G_yes (Eq.trans (@rfl V (V.bool (decide ((o.i) < (1 : Int))))) (bdF g1)) ?_
    refine R_fld_mp (o' := 0) t1 h1 (by first | rfl | simp [okB, Blk.own]) rfl ?_
    refine G_yes (Eq.trans (@rfl V (V.bool (decide ((o.i) < (1 : Int))))) (bdF g1)) ?_
    refine R_load_mp (v := (iV (o.i))) (@rfl V (V.mp 1 1 0 0)) h1 (by first | rfl | simp [ldB, ldV, Blk.own, V.one]) ?_
    refine G_yes (Eq.trans (@rfl V (V.bool (decide ((o.i) < (1 : Int))))) (bdF g1)) ?_
    refine R_gtr (x := (o.i)) (y := (64 : Int)) (@rfl V (iV (o.i))) (@rfl V (iV (64 : Int))) ?_
    refine R_pickF (Eq.trans (@rfl V (V.bool (decide ((o.i) < (1 : Int))))) (bdF g1)) (@rfl V (V.bool (decide ((64 : Int) < (o.i))))) ?_
    exact ⟨t1, (Eq.trans (@rfl V (V.bool (decide ((64 : Int) < (o.i))))) (dec_orF g1)), h1, h4, h8, trivial⟩
  intro T H ⟨t1, t17, h1, h4, h8, _⟩
  exact R_nil ⟨t1, t17, h1, h4, h8, trivial⟩
 intro T H ⟨t1, t17, h1, h4, h8, _⟩
 refine W_seq_if (p := ((o.i) < (1 : Int)) ∨ ((64 : Int) < (o.i))) t17 (fun c2 => ?_) (fun c2 => ?_)
 ·
  refine W_seq_seq ?_
  refine W_seq_regc (fun T H => T 2 = (iV (2 : Int)) ∧ H 1 = (⟨1, true, false, 34, 2, [[(iV (o.i)), (V.sl (List.map cT (o.tr)))]]⟩ : Blk) ∧ H 4 = (⟨0, false, false, 0, 0, []⟩ : Blk) ∧ H 8 = (⟨0, false, false, 0, 0, []⟩ : Blk) ∧ True) ?_ ?_
  ·
   unfold r36_2
   refine R_mv (@rfl V (iV (2 : Int))) ?_
   exact R_nil ⟨rfl, h1, h4, h8, trivial⟩
  intro T H ⟨t2, h1, h4, h8, _⟩
  refine W_seq_ret ?_
  refine Ret_1 t2 (fz_int ?_)
  · rw [oval, if_pos (by omega)]
 refine W_seq_skip ?_
 refine W_seq_seq ?_
 refine W_seq_regc (fun T H => T 1 = (V.mp 1 1 0 0) ∧ T 21 = (V.bool (decide ((10000 : Int) < ((o.tr.length : Nat) : Int)))) ∧ H 1 = (⟨1, true, false, 34, 2, [[(iV (o.i)), (V.sl (List.map cT (o.tr)))]]⟩ : Blk) ∧ H 4 = (⟨0, false, false, 0, 0, []⟩ : Blk) ∧ H 8 = (⟨0, false, false, 0, 0, []⟩ : Blk) ∧ True) ?_ ?_
 ·
  unfold r36_3
  refine R_fld_mp (o' := 1) t1 h1 (by first | rfl | simp [okB, Blk.own]) rfl ?_
  refine R_load_mp (v := (V.sl (List.map cT (o.tr)))) (@rfl V (V.mp 1 1 0 1)) h1 (by first | rfl | simp [ldB, ldV, Blk.own, V.one]) ?_
  refine R_len (@rfl V (V.sl (List.map cT (o.tr)))) ?_
  refine R_gtr (x := ((o.tr.length : Nat) : Int)) (y := (10000 : Int)) (@rfl V (iV ((o.tr.length : Nat) : Int))) (@rfl V (iV (10000 : Int))) ?_
  exact R_nil ⟨t1, rfl, h1, h4, h8, trivial⟩
 intro T H ⟨t1, t21, h1, h4, h8, _⟩
 refine W_seq_if (p := (10000 : Int) < ((o.tr.length : Nat) : Int)) t21 (fun c3 => ?_) (fun c3 => ?_)
 ·
  refine W_seq_seq ?_
  refine W_seq_regc (fun T H => T 2 = (iV (11 : Int)) ∧ H 1 = (⟨1, true, false, 34, 2, [[(iV (o.i)), (V.sl (List.map cT (o.tr)))]]⟩ : Blk) ∧ H 4 = (⟨0, false, false, 0, 0, []⟩ : Blk) ∧ H 8 = (⟨0, false, false, 0, 0, []⟩ : Blk) ∧ True) ?_ ?_
  ·
   unfold r36_4
   refine R_mv (@rfl V (iV (11 : Int))) ?_
   exact R_nil ⟨rfl, h1, h4, h8, trivial⟩
  intro T H ⟨t2, h1, h4, h8, _⟩
  refine W_seq_ret ?_
  refine Ret_1 t2 (fz_int ?_)
  · rw [oval, if_neg (by omega), if_pos (by omega)]
 refine W_seq_skip ?_
 refine W_seq_seq ?_
 refine W_seq_regc (fun T H => T 1 = (V.mp 1 1 0 0) ∧ T 23 = (V.sl (List.map cT (o.tr))) ∧ T 24 = (iV ((o.tr.length : Nat) : Int)) ∧ T 25 = (iV (0 : Int)) ∧ H 1 = (⟨1, true, false, 34, 2, [[(iV (o.i)), (V.sl (List.map cT (o.tr)))]]⟩ : Blk) ∧ H 4 = (⟨0, false, false, 0, 0, []⟩ : Blk) ∧ H 8 = (⟨0, false, false, 0, 0, []⟩ : Blk) ∧ True) ?_ ?_
 ·
  unfold r36_5
  refine R_fld_mp (o' := 1) t1 h1 (by first | rfl | simp [okB, Blk.own]) rfl ?_
  refine R_load_mp (v := (V.sl (List.map cT (o.tr)))) (@rfl V (V.mp 1 1 0 1)) h1 (by first | rfl | simp [ldB, ldV, Blk.own, V.one]) ?_
  refine R_len (@rfl V (V.sl (List.map cT (o.tr)))) ?_
  refine R_mv (@rfl V (iV (0 : Int))) ?_
  exact R_nil ⟨t1, rfl, rfl, rfl, h1, h4, h8, trivial⟩
 intro T H ⟨t1, t23, t24, t25, h1, h4, h8, _⟩
 refine W_seq_blockg fun Q4 n4 x4 y4 z4 => ?_
 refine W_loop (fun mm T H => ∃ (k : Nat) (v4 : Nat), mm = o.tr.length - k ∧ T 1 = (V.mp 1 1 0 0) ∧ T 23 = (V.sl (List.map cT (o.tr))) ∧ T 24 = (iV ((o.tr.length : Nat) : Int)) ∧ T 25 = (iV ((k : Nat) : Int)) ∧ H 1 = (⟨1, true, false, 34, 2, [[(iV (o.i)), (V.sl (List.map cT (o.tr)))]]⟩ : Blk) ∧ (H 4).ver = v4 ∧ H 8 = (⟨0, false, false, 0, 0, []⟩ : Blk) ∧ (k ≤ o.tr.length) ∧ (1 ≤ o.i ∧ o.i ≤ 64 ∧ o.tr.length ≤ 10000) ∧ (fe (trE o) 0 o.tr.length = fe (trE o) k (o.tr.length - k)) ∧ (∀ j, j < k → (nth o.tr j).no.length = (nth o.tr j).ni.length) ∧ (∀ j, j + 1 < k → slx (nth o.tr j).ni (nth o.tr (j + 1)).ni < 0)) ?_ ?_
 ·
  refine ⟨_, 0, 0, rfl, t1, t23, t24, (Eq.trans t25 (by first | rfl | simp)), h1, (congrArg Blk.ver h4), h8, ?_, ?_, ?_, ?_, ?_⟩
  · omega
  · omega
  · rfl
  · intro j hj; omega
  · intro j hj; omega
 intro mm T H ⟨k, v4, hmm, t1, t23, t24, t25, h1, h4, h8, hk, hh, hc, hpl, hlt⟩ Q5 p15 p25 p35
 unfold b36_0
 refine W_seq_regc (fun T H => T 1 = (V.mp 1 1 0 0) ∧ T 23 = (V.sl (List.map cT (o.tr))) ∧ T 24 = (iV ((o.tr.length : Nat) : Int)) ∧ T 25 = (iV ((k : Nat) : Int)) ∧ T 26 = (V.bool (decide (((k : Nat) : Int) < ((o.tr.length : Nat) : Int)))) ∧ H 1 = (⟨1, true, false, 34, 2, [[(iV (o.i)), (V.sl (List.map cT (o.tr)))]]⟩ : Blk) ∧ (H 4).ver = v4 ∧ H 8 = (⟨0, false, false, 0, 0, []⟩ : Blk) ∧ True) ?_ ?_
 ·
  unfold r36_6
  refine R_lss (x := ((k : Nat) : Int)) (y := ((o.tr.length : Nat) : Int)) t25 t24 ?_
  exact R_nil ⟨t1, t23, t24, t25, rfl, h1, h4, h8, trivial⟩
 intro T H ⟨t1, t23, t24, t25, t26, h1, h4, h8, _⟩
 refine W_seq_if (p := ((k : Nat) : Int) < ((o.tr.length : Nat) : Int)) t26 (fun c6 => ?_) (fun c6 => ?_)
 ·
  refine W_seq_skip ?_
  refine W_seq_blockg fun Q7 n7 x7 y7 z7 => ?_
  refine W_seq_regc (fun T H => T 1 = (V.mp 1 1 0 0) ∧ T 3 = (iV ((k : Nat) : Int)) ∧ T 4 = (V.mp 4 (v4 + 1) 0 0) ∧ T 23 = (V.sl (List.map cT (o.tr))) ∧ T 24 = (iV ((o.tr.length : Nat) : Int)) ∧ T 25 = (iV ((k : Nat) : Int)) ∧ H 1 = (⟨1, true, false, 34, 2, [[(iV (o.i)), (V.sl (List.map cT (o.tr)))]]⟩ : Blk) ∧ H 4 = (⟨v4 + 1, true, false, 63, 2, [[(V.sl (List.map cI ((nth (o.tr) (k)).ni))), (V.sl (List.map cI ((nth (o.tr) (k)).no)))]]⟩ : Blk) ∧ H 8 = (⟨0, false, false, 0, 0, []⟩ : Blk) ∧ True) ?_ ?_
  ·
   unfold r36_7
   refine R_mv t25 ?_
   refine R_idx (i := k) t23 t25 (by omega) rfl ?_
   refine R_load_pp (v := (V.agg [(V.sl (List.map cI ((nth (o.tr) (k)).ni))), (V.sl (List.map cI ((nth (o.tr) (k)).no)))])) (@rfl V (V.pp [(V.sl (List.map cI ((nth (o.tr) (k)).ni))), (V.sl (List.map cI ((nth (o.tr) (k)).no)))])) (by first | rfl | simp [ldV]) ?_
   refine R_alloc (i := 4) (n := v4) (m := 2) rfl h4 rfl ?_
   refine R_mv (@rfl V (iV ((k : Nat) : Int))) ?_
   refine R_store (vs := [(V.sl (List.map cI ((nth (o.tr) (k)).ni))), (V.sl (List.map cI ((nth (o.tr) (k)).no)))]) (B' := (⟨v4 + 1, true, false, 63, 2, [[(V.sl (List.map cI ((nth (o.tr) (k)).ni))), (V.sl (List.map cI ((nth (o.tr) (k)).no)))]]⟩ : Blk)) (@rfl V (V.mp 4 (v4 + 1) 0 0)) (@rfl V (V.agg [(V.sl (List.map cI ((nth (o.tr) (k)).ni))), (V.sl (List.map cI ((nth (o.tr) (k)).no)))])) rfl (@rfl Blk (⟨v4 + 1, true, false, 63, 2, [[V.nilsl, V.nilsl]]⟩ : Blk)) (by first | rfl | simp [stB, okB, Blk.own, putAt, V.one]) ?_
   exact R_nil ⟨t1, rfl, rfl, t23, t24, t25, h1, rfl, h8, trivial⟩
  intro T H ⟨t1, t3, t4, t23, t24, t25, h1, h4, h8, _⟩
  refine W_seq_seq ?_
  refine W_seq_regc (fun T H => T 1 = (V.mp 1 1 0 0) ∧ T 3 = (iV ((k : Nat) : Int)) ∧ T 4 = (V.mp 4 (v4 + 1) 0 0) ∧ T 5 = (iV (wchk ((nth (o.tr) (k)).ni) ((o.i)))) ∧ T 23 = (V.sl (List.map cT (o.tr))) ∧ T 24 = (iV ((o.tr.length : Nat) : Int)) ∧ T 25 = (iV ((k : Nat) : Int)) ∧ H 1 = (⟨1, true, false, 34, 2, [[(iV (o.i)), (V.sl (List.map cT (o.tr)))]]⟩ : Blk) ∧ H 4 = (⟨v4 + 1, true, false, 63, 2, [[(V.sl (List.map cI ((nth (o.tr) (k)).ni))), (V.sl (List.map cI ((nth (o.tr) (k)).no)))]]⟩ : Blk) ∧ H 8 = (⟨0, false, false, 0, 0, []⟩ : Blk) ∧ True) ?_ ?_
  ·
   unfold r36_8
   refine R_fld_mp (o' := 0) t4 h4 (by first | rfl | simp [okB, Blk.own]) rfl ?_
   refine R_load_mp (v := (V.sl (List.map cI ((nth (o.tr) (k)).ni)))) (@rfl V (V.mp 4 (v4 + 1) 0 0)) h4 (by first | rfl | simp [ldB, ldV, Blk.own, V.one]) ?_
   refine R_fld_mp (o' := 0) t1 h1 (by first | rfl | simp [okB, Blk.own]) rfl ?_
   refine R_load_mp (v := (iV (o.i))) (@rfl V (V.mp 1 1 0 0)) h1 (by first | rfl | simp [ldB, ldV, Blk.own, V.one]) ?_
   refine R_call (evcons (@rfl V (V.sl (List.map cI ((nth (o.tr) (k)).ni)))) (evcons (@rfl V (iV (o.i))) evnil)) (check_pure ((nth (o.tr) (k)).ni) ((o.i))) (fzv_mapcanon _ _ (by simp [-List.map_take, -List.map_drop, -List.map_append, -List.map_reverse])) (by simp [-List.map_take, -List.map_drop, -List.map_append, -List.map_reverse]) (Or.inl (by simp [-List.map_take, -List.map_drop, -List.map_append, -List.map_reverse])) ?_
   refine R_mv (@rfl V (iV (wchk ((nth (o.tr) (k)).ni) ((o.i))))) ?_
   exact R_nil ⟨t1, t3, t4, rfl, t23, t24, t25, h1, h4, h8, trivial⟩
  intro T H ⟨t1, t3, t4, t5, t23, t24, t25, h1, h4, h8, _⟩
  refine W_seq_seq ?_
  refine W_seq_regc (fun T H => T 1 = (V.mp 1 1 0 0) ∧ T 3 = (iV ((k : Nat) : Int)) ∧ T 4 = (V.mp 4 (v4 + 1) 0 0) ∧ T 5 = (iV (wchk ((nth (o.tr) (k)).ni) ((o.i)))) ∧ T 23 = (V.sl (List.map cT (o.tr))) ∧ T 24 = (iV ((o.tr.length : Nat) : Int)) ∧ T 25 = (iV ((k : Nat) : Int)) ∧ T 36 = (V.bool (decide ((wchk ((nth (o.tr) (k)).ni) ((o.i))) ≠ (0 : Int)))) ∧ H 1 = (⟨1, true, false, 34, 2, [[(iV (o.i)), (V.sl (List.map cT (o.tr)))]]⟩ : Blk) ∧ H 4 = (⟨v4 + 1, true, false, 63, 2, [[(V.sl (List.map cI ((nth (o.tr) (k)).ni))), (V.sl (List.map cI ((nth (o.tr) (k)).no)))]]⟩ : Blk) ∧ H 8 = (⟨0, false, false, 0, 0, []⟩ : Blk) ∧ True) ?_ ?_
  ·
   unfold r36_9
   refine R_mv t5 ?_
   refine R_neq (x := (wchk ((nth (o.tr) (k)).ni) ((o.i)))) (y := (0 : Int)) (@rfl V (iV (wchk ((nth (o.tr) (k)).ni) ((o.i))))) (@rfl V (iV (0 : Int))) ?_
   exact R_nil ⟨t1, t3, t4, t5, t23, t24, t25, rfl, h1, h4, h8, trivial⟩
  intro T H ⟨t1, t3, t4, t5, t23, t24, t25, t36, h1, h4, h8, _⟩
  refine W_seq_if (p := (wchk ((nth (o.tr) (k)).ni) ((o.i))) ≠ (0 : Int)) t36 (fun c8 => ?_) (fun c8 => ?_)
  ·
   refine W_seq_seq ?_
   refine W_seq_regc (fun T H => T 2 = (iV (wchk ((nth (o.tr) (k)).ni) ((o.i)))) ∧ H 1 = (⟨1, true, false, 34, 2, [[(iV (o.i)), (V.sl (List.map cT (o.tr)))]]⟩ : Blk) ∧ H 4 = (⟨v4 + 1, true, false, 63, 2, [[(V.sl (List.map cI ((nth (o.tr) (k)).ni))), (V.sl (List.map cI ((nth (o.tr) (k)).no)))]]⟩ : Blk) ∧ H 8 = (⟨0, false, false, 0, 0, []⟩ : Blk) ∧ True) ?_ ?_
   ·
    unfold r36_10
    refine R_mv t5 ?_
    refine R_mv (@rfl V (iV (wchk ((nth (o.tr) (k)).ni) ((o.i))))) ?_
    exact R_nil ⟨rfl, h1, h4, h8, trivial⟩
   intro T H ⟨t2, h1, h4, h8, _⟩
   refine W_seq_ret ?_
   refine y7 _ _ ?_
   refine p25 _ _ ?_
   refine y4 _ _ ?_
   refine Ret_1 t2 (fz_int ?_)
   · have e : trE o k = wchk (nth o.tr k).ni o.i := by rw [trE, if_pos (by omega)]
     have e2 : fe (trE o) 0 o.tr.length = trE o k := by rw [hc]; exact fe_hit (by omega) (by omega)
     rw [oval, if_neg (by omega), if_neg (by omega), if_pos (by omega)]; omega
  refine W_seq_skip ?_
  refine W_seq_seq ?_
  refine W_seq_regc (fun T H => T 1 = (V.mp 1 1 0 0) ∧ T 3 = (iV ((k : Nat) : Int)) ∧ T 4 = (V.mp 4 (v4 + 1) 0 0) ∧ T 23 = (V.sl (List.map cT (o.tr))) ∧ T 24 = (iV ((o.tr.length : Nat) : Int)) ∧ T 25 = (iV ((k : Nat) : Int)) ∧ T 41 = (V.bool (decide (((((nth (o.tr) (k)).ni).length : Nat) : Int) = (0 : Int)))) ∧ H 1 = (⟨1, true, false, 34, 2, [[(iV (o.i)), (V.sl (List.map cT (o.tr)))]]⟩ : Blk) ∧ H 4 = (⟨v4 + 1, true, false, 63, 2, [[(V.sl (List.map cI ((nth (o.tr) (k)).ni))), (V.sl (List.map cI ((nth (o.tr) (k)).no)))]]⟩ : Blk) ∧ H 8 = (⟨0, false, false, 0, 0, []⟩ : Blk) ∧ True) ?_ ?_
  ·
   unfold r36_11
   refine R_fld_mp (o' := 0) t4 h4 (by first | rfl | simp [okB, Blk.own]) rfl ?_
   refine R_load_mp (v := (V.sl (List.map cI ((nth (o.tr) (k)).ni)))) (@rfl V (V.mp 4 (v4 + 1) 0 0)) h4 (by first | rfl | simp [ldB, ldV, Blk.own, V.one]) ?_
   refine R_len (@rfl V (V.sl (List.map cI ((nth (o.tr) (k)).ni)))) ?_
   refine R_eql (x := ((((nth (o.tr) (k)).ni).length : Nat) : Int)) (y := (0 : Int)) (@rfl V (iV ((((nth (o.tr) (k)).ni).length : Nat) : Int))) (@rfl V (iV (0 : Int))) ?_
   exact R_nil ⟨t1, t3, t4, t23, t24, t25, rfl, h1, h4, h8, trivial⟩
  intro T H ⟨t1, t3, t4, t23, t24, t25, t41, h1, h4, h8, _⟩
  refine W_seq_if (p := ((((nth (o.tr) (k)).ni).length : Nat) : Int) = (0 : Int)) t41 (fun c9 => ?_) (fun c9 => ?_)
  ·
   refine W_seq_seq ?_
   refine W_seq_regc (fun T H => T 2 = (iV (19 : Int)) ∧ H 1 = (⟨1, true, false, 34, 2, [[(iV (o.i)), (V.sl (List.map cT (o.tr)))]]⟩ : Blk) ∧ H 4 = (⟨v4 + 1, true, false, 63, 2, [[(V.sl (List.map cI ((nth (o.tr) (k)).ni))), (V.sl (List.map cI ((nth (o.tr) (k)).no)))]]⟩ : Blk) ∧ H 8 = (⟨0, false, false, 0, 0, []⟩ : Blk) ∧ True) ?_ ?_
   ·
    unfold r36_12
    refine R_mv (@rfl V (iV (19 : Int))) ?_
    exact R_nil ⟨rfl, h1, h4, h8, trivial⟩
   intro T H ⟨t2, h1, h4, h8, _⟩
   refine W_seq_ret ?_
   refine y7 _ _ ?_
   refine p25 _ _ ?_
   refine y4 _ _ ?_
   refine Ret_1 t2 (fz_int ?_)
   · have e : trE o k = 19 := by rw [trE, if_neg (by omega), if_pos (by omega)]
     have e2 : fe (trE o) 0 o.tr.length = trE o k := by rw [hc]; exact fe_hit (by omega) (by omega)
     rw [oval, if_neg (by omega), if_neg (by omega), if_pos (by omega)]; omega
  refine W_seq_skip ?_
  refine W_seq_seq ?_
  refine W_seq_regc (fun T H => T 1 = (V.mp 1 1 0 0) ∧ T 3 = (iV ((k : Nat) : Int)) ∧ T 4 = (V.mp 4 (v4 + 1) 0 0) ∧ T 6 = (iV (prE ((nth (o.tr) (k))) ((o.i)))) ∧ T 23 = (V.sl (List.map cT (o.tr))) ∧ T 24 = (iV ((o.tr.length : Nat) : Int)) ∧ T 25 = (iV ((k : Nat) : Int)) ∧ H 1 = (⟨1, true, false, 34, 2, [[(iV (o.i)), (V.sl (List.map cT (o.tr)))]]⟩ : Blk) ∧ H 4 = (⟨v4 + 1, true, false, 63, 2, [[(V.sl (List.map cI ((nth (o.tr) (k)).ni))), (V.sl (List.map cI ((nth (o.tr) (k)).no)))]]⟩ : Blk) ∧ H 8 = (⟨0, false, false, 0, 0, []⟩ : Blk) ∧ True) ?_ ?_
  ·
   unfold r36_13
   refine R_load_mp (v := (V.agg [(V.sl (List.map cI ((nth (o.tr) (k)).ni))), (V.sl (List.map cI ((nth (o.tr) (k)).no)))])) t4 h4 (by first | rfl | simp [ldB, ldV, Blk.own, V.one]) ?_
   refine R_fld_mp (o' := 0) t1 h1 (by first | rfl | simp [okB, Blk.own]) rfl ?_
   refine R_load_mp (v := (iV (o.i))) (@rfl V (V.mp 1 1 0 0)) h1 (by first | rfl | simp [ldB, ldV, Blk.own, V.one]) ?_
   refine R_call (evcons (@rfl V (V.agg [(V.sl (List.map cI ((nth (o.tr) (k)).ni))), (V.sl (List.map cI ((nth (o.tr) (k)).no)))])) (evcons (@rfl V (iV (o.i))) evnil)) (proper_pure ((nth (o.tr) (k))) ((o.i))) (fzv_mapcanon _ _ (by simp [-List.map_take, -List.map_drop, -List.map_append, -List.map_reverse])) (by simp [-List.map_take, -List.map_drop, -List.map_append, -List.map_reverse]) (Or.inl (by simp [-List.map_take, -List.map_drop, -List.map_append, -List.map_reverse])) ?_
   refine R_mv (@rfl V (iV (prE ((nth (o.tr) (k))) ((o.i))))) ?_
   exact R_nil ⟨t1, t3, t4, rfl, t23, t24, t25, h1, h4, h8, trivial⟩
  intro T H ⟨t1, t3, t4, t6, t23, t24, t25, h1, h4, h8, _⟩
  refine W_seq_seq ?_
  refine W_seq_regc (fun T H => T 1 = (V.mp 1 1 0 0) ∧ T 3 = (iV ((k : Nat) : Int)) ∧ T 4 = (V.mp 4 (v4 + 1) 0 0) ∧ T 6 = (iV (prE ((nth (o.tr) (k))) ((o.i)))) ∧ T 23 = (V.sl (List.map cT (o.tr))) ∧ T 24 = (iV ((o.tr.length : Nat) : Int)) ∧ T 25 = (iV ((k : Nat) : Int)) ∧ T 47 = (V.bool (decide ((prE ((nth (o.tr) (k))) ((o.i))) ≠ (0 : Int)))) ∧ H 1 = (⟨1, true, false, 34, 2, [[(iV (o.i)), (V.sl (List.map cT (o.tr)))]]⟩ : Blk) ∧ H 4 = (⟨v4 + 1, true, false, 63, 2, [[(V.sl (List.map cI ((nth (o.tr) (k)).ni))), (V.sl (List.map cI ((nth (o.tr) (k)).no)))]]⟩ : Blk) ∧ H 8 = (⟨0, false, false, 0, 0, []⟩ : Blk) ∧ True) ?_ ?_
  ·
   unfold r36_14
   refine R_mv t6 ?_
   refine R_neq (x := (prE ((nth (o.tr) (k))) ((o.i)))) (y := (0 : Int)) (@rfl V (iV (prE ((nth (o.tr) (k))) ((o.i))))) (@rfl V (iV (0 : Int))) ?_
   exact R_nil ⟨t1, t3, t4, t6, t23, t24, t25, rfl, h1, h4, h8, trivial⟩
  intro T H ⟨t1, t3, t4, t6, t23, t24, t25, t47, h1, h4, h8, _⟩
  refine W_seq_if (p := (prE ((nth (o.tr) (k))) ((o.i))) ≠ (0 : Int)) t47 (fun c10 => ?_) (fun c10 => ?_)
  ·
   refine W_seq_seq ?_
   refine W_seq_regc (fun T H => T 2 = (iV (prE ((nth (o.tr) (k))) ((o.i)))) ∧ H 1 = (⟨1, true, false, 34, 2, [[(iV (o.i)), (V.sl (List.map cT (o.tr)))]]⟩ : Blk) ∧ H 4 = (⟨v4 + 1, true, false, 63, 2, [[(V.sl (List.map cI ((nth (o.tr) (k)).ni))), (V.sl (List.map cI ((nth (o.tr) (k)).no)))]]⟩ : Blk) ∧ H 8 = (⟨0, false, false, 0, 0, []⟩ : Blk) ∧ True) ?_ ?_
   ·
    unfold r36_15
    refine R_mv t6 ?_
    refine R_mv (@rfl V (iV (prE ((nth (o.tr) (k))) ((o.i))))) ?_
    exact R_nil ⟨rfl, h1, h4, h8, trivial⟩
   intro T H ⟨t2, h1, h4, h8, _⟩
   refine W_seq_ret ?_
   refine y7 _ _ ?_
   refine p25 _ _ ?_
   refine y4 _ _ ?_
   refine Ret_1 t2 (fz_int ?_)
   · have e : trE o k = prE (nth o.tr k) o.i := by rw [trE, if_neg (by omega), if_neg (by omega), if_pos (by omega)]
     have e2 : fe (trE o) 0 o.tr.length = trE o k := by rw [hc]; exact fe_hit (by omega) (by omega)
     rw [oval, if_neg (by omega), if_neg (by omega), if_pos (by omega)]; rw [e2, e]
  refine W_seq_skip ?_
  refine W_seq_regc (fun T H => T 1 = (V.mp 1 1 0 0) ∧ T 23 = (V.sl (List.map cT (o.tr))) ∧ T 24 = (iV ((o.tr.length : Nat) : Int)) ∧ T 25 = (iV ((k : Nat) : Int)) ∧ T 61 = (V.bool (decide (((0 : Int) < ((k : Nat) : Int)) ∧ ((0 : Int) ≤ (slx ((nth (o.tr) (((k : Nat) : Int) - (1 : Int)).toNat)).ni ((nth (o.tr) (k))).ni))))) ∧ H 1 = (⟨1, true, false, 34, 2, [[(iV (o.i)), (V.sl (List.map cT (o.tr)))]]⟩ : Blk) ∧ H 4 = (⟨v4 + 1, true, false, 63, 2, [[(V.sl (List.map cI ((nth (o.tr) (k)).ni))), (V.sl (List.map cI ((nth (o.tr) (k)).no)))]]⟩ : Blk) ∧ H 8 = (⟨0, false, false, 0, 0, []⟩ : Blk) ∧ True) ?_ ?_
  ·
   unfold r36_16
   refine R_mv t3 ?_
   refine R_gtr (x := ((k : Nat) : Int)) (y := (0 : Int)) (@rfl V (iV ((k : Nat) : Int))) (@rfl V (iV (0 : Int))) ?_
   refine R_mv (@rfl V (V.bool (decide ((0 : Int) < ((k : Nat) : Int))))) ?_
   refine Ops_seg 10 (fun T H => T 1 = (V.mp 1 1 0 0) ∧ T 23 = (V.sl (List.map cT (o.tr))) ∧ T 24 = (iV ((o.tr.length : Nat) : Int)) ∧ T 25 = (iV ((k : Nat) : Int)) ∧ T 61 = (V.bool (decide (((0 : Int) < ((k : Nat) : Int)) ∧ ((0 : Int) ≤ (slx ((nth (o.tr) (((k : Nat) : Int) - (1 : Int)).toNat)).ni ((nth (o.tr) (k))).ni))))) ∧ H 1 = (⟨1, true, false, 34, 2, [[(iV (o.i)), (V.sl (List.map cT (o.tr)))]]⟩ : Blk) ∧ H 4 = (⟨v4 + 1, true, false, 63, 2, [[(V.sl (List.map cI ((nth (o.tr) (k)).ni))), (V.sl (List.map cI ((nth (o.tr) (k)).no)))]]⟩ : Blk) ∧ H 8 = (⟨0, false, false, 0, 0, []⟩ : Blk) ∧ True) ?_ ?_
   ·
    by_cases g11 : (0 : Int) < ((k : Nat) : Int)
    ·
     refine G_yes (Eq.trans (@rfl V (V.bool (decide ((0 : Int) < ((k : Nat) : Int))))) (bdT g11)) ?_
     refine R_fld_mp (o' := 1) t1 h1 (by first | rfl | simp [okB, Blk.own]) rfl ?_
     refine G_yes (Eq.trans (@rfl V (V.bool (decide ((0 : Int) < ((k : Nat) : Int))))) (bdT g11)) ?_
     refine R_load_mp (v := (V.sl (List.map cT (o.tr)))) (@rfl V (V.mp 1 1 0 1)) h1 (by first | rfl | simp [ldB, ldV, Blk.own, V.one]) ?_
     refine G_yes (Eq.trans (@rfl V (V.bool (decide ((0 : Int) < ((k : Nat) : Int))))) (bdT g11)) ?_
     refine R_mv t3 ?_
     refine G_yes (Eq.trans (@rfl V (V.bool (decide ((0 : Int) < ((k : Nat) : Int))))) (bdT g11)) ?_
     refine R_sub (x := ((k : Nat) : Int)) (y := (1 : Int)) (@rfl V (iV ((k : Nat) : Int))) (@rfl V (iV (1 : Int))) (by omega) (by omega) ?_
     refine G_yes (Eq.trans (@rfl V (V.bool (decide ((0 : Int) < ((k : Nat) : Int))))) (bdT g11)) ?_
     refine R_idxI (i := (((k : Nat) : Int) - (1 : Int))) (@rfl V (V.sl (List.map cT (o.tr)))) (@rfl V (iV (((k : Nat) : Int) - (1 : Int)))) (by omega) (by omega) rfl ?_
     refine G_yes (Eq.trans (@rfl V (V.bool (decide ((0 : Int) < ((k : Nat) : Int))))) (bdT g11)) ?_
     refine R_load_pp (v := (V.agg [(V.sl (List.map cI ((nth (o.tr) (((k : Nat) : Int) - (1 : Int)).toNat).ni))), (V.sl (List.map cI ((nth (o.tr) (((k : Nat) : Int) - (1 : Int)).toNat).no)))])) (@rfl V (V.pp [(V.sl (List.map cI ((nth (o.tr) (((k : Nat) : Int) - (1 : Int)).toNat).ni))), (V.sl (List.map cI ((nth (o.tr) (((k : Nat) : Int) - (1 : Int)).toNat).no)))])) (by first | rfl | simp [ldV]) ?_
     refine G_yes (Eq.trans (@rfl V (V.bool (decide ((0 : Int) < ((k : Nat) : Int))))) (bdT g11)) ?_
     refine R_load_mp (v := (V.agg [(V.sl (List.map cI ((nth (o.tr) (k)).ni))), (V.sl (List.map cI ((nth (o.tr) (k)).no)))])) t4 h4 (by first | rfl | simp [ldB, ldV, Blk.own, V.one]) ?_
     refine G_yes (Eq.trans (@rfl V (V.bool (decide ((0 : Int) < ((k : Nat) : Int))))) (bdT g11)) ?_
     refine R_call (evcons (@rfl V (V.agg [(V.sl (List.map cI ((nth (o.tr) (((k : Nat) : Int) - (1 : Int)).toNat).ni))), (V.sl (List.map cI ((nth (o.tr) (((k : Nat) : Int) - (1 : Int)).toNat).no)))])) (evcons (@rfl V (V.agg [(V.sl (List.map cI ((nth (o.tr) (k)).ni))), (V.sl (List.map cI ((nth (o.tr) (k)).no)))])) evnil)) (order_pure ((nth (o.tr) (((k : Nat) : Int) - (1 : Int)).toNat)) ((nth (o.tr) (k)))) (fzv_mapcanon _ _ (by simp [-List.map_take, -List.map_drop, -List.map_append, -List.map_reverse])) (by simp [-List.map_take, -List.map_drop, -List.map_append, -List.map_reverse]) (Or.inl (by simp [-List.map_take, -List.map_drop, -List.map_append, -List.map_reverse])) ?_
     refine G_yes (Eq.trans (@rfl V (V.bool (decide ((0 : Int) < ((k : Nat) : Int))))) (bdT g11)) ?_
     refine R_geq (x := (slx ((nth (o.tr) (((k : Nat) : Int) - (1 : Int)).toNat)).ni ((nth (o.tr) (k))).ni)) (y := (0 : Int)) (@rfl V (iV (slx ((nth (o.tr) (((k : Nat) : Int) - (1 : Int)).toNat)).ni ((nth (o.tr) (k))).ni))) (@rfl V (iV (0 : Int))) ?_
     refine R_pickT (Eq.trans (@rfl V (V.bool (decide ((0 : Int) < ((k : Nat) : Int))))) (bdT g11)) (@rfl V (V.bool (decide ((0 : Int) ≤ (slx ((nth (o.tr) (((k : Nat) : Int) - (1 : Int)).toNat)).ni ((nth (o.tr) (k))).ni))))) ?_
     exact ⟨t1, t23, t24, t25, (Eq.trans (@rfl V (V.bool (decide ((0 : Int) ≤ (slx ((nth (o.tr) (((k : Nat) : Int) - (1 : Int)).toNat)).ni ((nth (o.tr) (k))).ni))))) (dec_andT g11)), h1, h4, h8, trivial⟩
    ·
     refine G_no (Eq.trans (@rfl V (V.bool (decide ((0 : Int) < ((k : Nat) : Int))))) (bdF g11)) (by decide) ?_
     refine G_no (Eq.trans (@rfl V (V.bool (decide ((0 : Int) < ((k : Nat) : Int))))) (bdF g11)) (by decide) ?_
     refine G_no (Eq.trans (@rfl V (V.bool (decide ((0 : Int) < ((k : Nat) : Int))))) (bdF g11)) (by decide) ?_
     refine G_no (Eq.trans (@rfl V (V.bool (decide ((0 : Int) < ((k : Nat) : Int))))) (bdF g11)) (by decide) ?_
     refine G_no (Eq.trans (@rfl V (V.bool (decide ((0 : Int) < ((k : Nat) : Int))))) (bdF g11)) (by decide) ?_
     refine G_no (Eq.trans (@rfl V (V.bool (decide ((0 : Int) < ((k : Nat) : Int))))) (bdF g11)) (by decide) ?_
     refine G_no (Eq.trans (@rfl V (V.bool (decide ((0 : Int) < ((k : Nat) : Int))))) (bdF g11)) (by decide) ?_
     refine G_no (Eq.trans (@rfl V (V.bool (decide ((0 : Int) < ((k : Nat) : Int))))) (bdF g11)) (by decide) ?_
     refine G_no (Eq.trans (@rfl V (V.bool (decide ((0 : Int) < ((k : Nat) : Int))))) (bdF g11)) (by decide) ?_
     refine R_pickF (Eq.trans (@rfl V (V.bool (decide ((0 : Int) < ((k : Nat) : Int))))) (bdF g11)) (@rfl V (V.bool false)) ?_
     exact ⟨t1, t23, t24, t25, (Eq.trans (@rfl V (V.bool false)) (dec_andF g11)), h1, h4, h8, trivial⟩
   intro T H ⟨t1, t23, t24, t25, t61, h1, h4, h8, _⟩
   exact R_nil ⟨t1, t23, t24, t25, t61, h1, h4, h8, trivial⟩
  intro T H ⟨t1, t23, t24, t25, t61, h1, h4, h8, _⟩
  refine W_if (p := ((0 : Int) < ((k : Nat) : Int)) ∧ ((0 : Int) ≤ (slx ((nth (o.tr) (((k : Nat) : Int) - (1 : Int)).toNat)).ni ((nth (o.tr) (k))).ni))) t61 (fun c12 => ?_) (fun c12 => ?_)
  ·
   rw [show (((k : Nat) : Int) - (1)).toNat = k - 1 by omega] at c12
   refine W_seq_regc (fun T H => T 2 = (iV (10 : Int)) ∧ H 1 = (⟨1, true, false, 34, 2, [[(iV (o.i)), (V.sl (List.map cT (o.tr)))]]⟩ : Blk) ∧ H 4 = (⟨v4 + 1, true, false, 63, 2, [[(V.sl (List.map cI ((nth (o.tr) (k)).ni))), (V.sl (List.map cI ((nth (o.tr) (k)).no)))]]⟩ : Blk) ∧ H 8 = (⟨0, false, false, 0, 0, []⟩ : Blk) ∧ True) ?_ ?_
   ·
    unfold r36_17
    refine R_mv (@rfl V (iV (10 : Int))) ?_
    exact R_nil ⟨rfl, h1, h4, h8, trivial⟩
   intro T H ⟨t2, h1, h4, h8, _⟩
   refine W_ret ?_
   refine y7 _ _ ?_
   refine p25 _ _ ?_
   refine y4 _ _ ?_
   refine Ret_1 t2 (fz_int ?_)
   · have e : trE o k = 10 := by rw [trE, if_neg (by omega), if_neg (by omega), if_neg (by omega), if_pos (by omega)]
     have e2 : fe (trE o) 0 o.tr.length = trE o k := by rw [hc]; exact fe_hit (by omega) (by omega)
     rw [oval, if_neg (by omega), if_neg (by omega), if_pos (by omega)]; omega
  rw [show (((k : Nat) : Int) - (1)).toNat = k - 1 by omega] at c12
  have d4 := c12
  refine W_skip ?_
  refine n7 _ _ ?_
  refine .done ?_
  refine W_regc (fun T H => T 1 = (V.mp 1 1 0 0) ∧ T 23 = (V.sl (List.map cT (o.tr))) ∧ T 24 = (iV ((o.tr.length : Nat) : Int)) ∧ T 25 = (iV ((k + 1 : Nat) : Int)) ∧ H 1 = (⟨1, true, false, 34, 2, [[(iV (o.i)), (V.sl (List.map cT (o.tr)))]]⟩ : Blk) ∧ H 4 = (⟨v4 + 1, true, false, 63, 2, [[(V.sl (List.map cI ((nth (o.tr) (k)).ni))), (V.sl (List.map cI ((nth (o.tr) (k)).no)))]]⟩ : Blk) ∧ H 8 = (⟨0, false, false, 0, 0, []⟩ : Blk) ∧ True) ?_ ?_
  ·
   unfold r36_18
   refine R_addN (m := k) (n := 1) t25 (@rfl V (iV ((1 : Nat) : Int))) (by omega) ?_
   refine R_mv (@rfl V (iV ((k + 1 : Nat) : Int))) ?_
   exact R_nil ⟨t1, t23, t24, rfl, h1, h4, h8, trivial⟩
  intro T H ⟨t1, t23, t24, t25, h1, h4, h8, _⟩
  refine p15 _ _ _ ?_ ⟨(k + 1), (v4 + 1), rfl, t1, t23, t24, (Eq.trans t25 (by first | rfl | simp)), h1, (congrArg Blk.ver h4), h8, ?_, ?_, ?_, ?_, ?_⟩
  · omega
  · omega
  · omega
  · have e : trE o k = 0 := by rw [trE, if_neg (by omega), if_neg (by omega), if_neg (by omega), if_neg (by omega)]
    rw [hc]; exact fe_skip e (by omega)
  · intro j hj
    by_cases e : j = k
    · subst e; exact (prE_ok (n := o.i) (by omega)).len
    · exact hpl j (by omega)
  · intro j hj
    by_cases e : j + 1 < k
    · exact hlt j e
    · have e2 : j = k - 1 := by omega
      subst e2; rw [show k - 1 + 1 = k by omega]; omega
 have f0 : fe (trE o) 0 o.tr.length = 0 := by rw [hc, fe_end (by omega)]
 have f1 : ∀ a ∈ o.tr, a.no.length = a.ni.length := fun a ha => by obtain ⟨j, hj, rfl⟩ := mem_nth ha; exact hpl j (by omega)
 have f2 : ∀ j, j + 1 < o.tr.length → slx (nth o.tr j).ni (nth o.tr (j + 1)).ni < 0 := fun j hj => hlt j (by omega)
 have f3 := tr_inj f2
 clear hc hpl hlt hk
 refine W_seq_exit ?_
 refine p35 _ _ _ ?_
 refine x4 _ _ ?_
 refine .done ?_
 refine W_seq_seq ?_
 refine W_seq_regc (fun T H => T 1 = (V.mp 1 1 0 0) ∧ T 65 = (V.bool (fitB o.tr)) ∧ H 1 = (⟨1, true, false, 34, 2, [[(iV (o.i)), (V.sl (List.map cT (o.tr)))]]⟩ : Blk) ∧ (H 4).ver = v4 ∧ H 8 = (⟨0, false, false, 0, 0, []⟩ : Blk) ∧ True) ?_ ?_
 ·
  unfold r36_19
  refine R_fld_mp (o' := 1) t1 h1 (by first | rfl | simp [okB, Blk.own]) rfl ?_
  refine R_load_mp (v := (V.sl (List.map cT (o.tr)))) (@rfl V (V.mp 1 1 0 1)) h1 (by first | rfl | simp [ldB, ldV, Blk.own, V.one]) ?_
  refine R_call (evcons (@rfl V (V.sl (List.map cT (o.tr)))) evnil) (fits_pure o.tr (by omega) f3 f1) (fzv_mapcanon _ _ (by simp [-List.map_take, -List.map_drop, -List.map_append, -List.map_reverse])) (by simp [-List.map_take, -List.map_drop, -List.map_append, -List.map_reverse]) (Or.inl (by simp [-List.map_take, -List.map_drop, -List.map_append, -List.map_reverse])) ?_
  exact R_nil ⟨t1, rfl, h1, h4, h8, trivial⟩
 intro T H ⟨t1, t65, h1, h4, h8, _⟩
 refine W_seq_ifb t65 (fun c13 => ?_) (fun c13 => ?_)
 ·
  have d3 := c13
  refine W_seq_seq ?_
  refine W_seq_regc (fun T H => T 2 = (iV (0 : Int)) ∧ H 1 = (⟨1, true, false, 34, 2, [[(iV (o.i)), (V.sl (List.map cT (o.tr)))]]⟩ : Blk) ∧ (H 4).ver = v4 ∧ H 8 = (⟨0, false, false, 0, 0, []⟩ : Blk) ∧ True) ?_ ?_
  ·
   unfold r36_20
   refine R_mv (@rfl V (iV (0 : Int))) ?_
   exact R_nil ⟨rfl, h1, h4, h8, trivial⟩
  intro T H ⟨t2, h1, h4, h8, _⟩
  refine W_seq_ret ?_
  refine Ret_1 t2 (fz_int ?_)
  · rw [oval, if_neg (by omega), if_neg (by omega), if_neg (by omega), fit_ap f2 d3]
 refine W_seq_skip ?_
 refine W_seq_seq ?_
 refine W_seq_regc (fun T H => T 1 = (V.mp 1 1 0 0) ∧ T 67 = (V.sl (List.map cT (o.tr))) ∧ T 68 = (iV ((o.tr.length : Nat) : Int)) ∧ T 69 = (iV (0 : Int)) ∧ H 1 = (⟨1, true, false, 34, 2, [[(iV (o.i)), (V.sl (List.map cT (o.tr)))]]⟩ : Blk) ∧ (H 4).ver = v4 ∧ H 8 = (⟨0, false, false, 0, 0, []⟩ : Blk) ∧ True) ?_ ?_
 ·
  unfold r36_21
  refine R_fld_mp (o' := 1) t1 h1 (by first | rfl | simp [okB, Blk.own]) rfl ?_
  refine R_load_mp (v := (V.sl (List.map cT (o.tr)))) (@rfl V (V.mp 1 1 0 1)) h1 (by first | rfl | simp [ldB, ldV, Blk.own, V.one]) ?_
  refine R_len (@rfl V (V.sl (List.map cT (o.tr)))) ?_
  refine R_mv (@rfl V (iV (0 : Int))) ?_
  exact R_nil ⟨t1, rfl, rfl, rfl, h1, h4, h8, trivial⟩
 intro T H ⟨t1, t67, t68, t69, h1, h4, h8, _⟩
 refine W_seq_blockg fun Q14 n14 x14 y14 z14 => ?_
 refine W_loop (fun mm T H => ∃ (k : Nat) (v8 : Nat), mm = o.tr.length - k ∧ T 1 = (V.mp 1 1 0 0) ∧ T 67 = (V.sl (List.map cT (o.tr))) ∧ T 68 = (iV ((o.tr.length : Nat) : Int)) ∧ T 69 = (iV ((k : Nat) : Int)) ∧ H 1 = (⟨1, true, false, 34, 2, [[(iV (o.i)), (V.sl (List.map cT (o.tr)))]]⟩ : Blk) ∧ (H 4).ver = v4 ∧ (H 8).ver = v8 ∧ (k ≤ o.tr.length) ∧ (fe (apE o) 0 o.tr.length = fe (apE o) k (o.tr.length - k))) ?_ ?_
 ·
  refine ⟨_, 0, 0, rfl, t1, t67, t68, (Eq.trans t69 (by first | rfl | simp)), h1, h4, (congrArg Blk.ver h8), ?_, ?_⟩
  · omega
  · rfl
 intro mm T H ⟨k, v8, hmm, t1, t67, t68, t69, h1, h4, h8, hk, hd⟩ Q15 p115 p215 p315
 unfold b36_1
 refine W_seq_regc (fun T H => T 1 = (V.mp 1 1 0 0) ∧ T 67 = (V.sl (List.map cT (o.tr))) ∧ T 68 = (iV ((o.tr.length : Nat) : Int)) ∧ T 69 = (iV ((k : Nat) : Int)) ∧ T 70 = (V.bool (decide (((k : Nat) : Int) < ((o.tr.length : Nat) : Int)))) ∧ H 1 = (⟨1, true, false, 34, 2, [[(iV (o.i)), (V.sl (List.map cT (o.tr)))]]⟩ : Blk) ∧ (H 4).ver = v4 ∧ (H 8).ver = v8 ∧ True) ?_ ?_
 ·
  unfold r36_22
  refine R_lss (x := ((k : Nat) : Int)) (y := ((o.tr.length : Nat) : Int)) t69 t68 ?_
  exact R_nil ⟨t1, t67, t68, t69, rfl, h1, h4, h8, trivial⟩
 intro T H ⟨t1, t67, t68, t69, t70, h1, h4, h8, _⟩
 refine W_seq_if (p := ((k : Nat) : Int) < ((o.tr.length : Nat) : Int)) t70 (fun c16 => ?_) (fun c16 => ?_)
 ·
  have g1 : exB (preB o k) (k + 1) (o.tr.length - (k + 1)) = true ↔ _ := (fi_exB (p := fun u => hp u.ni (nth o.tr k).ni) (l := o.tr) (m := k + 1)).symm
  have g2 : exB (claB o k) (k + 1) (o.tr.length - (k + 1)) = true ↔ _ := (fi_exB (p := fun u => decide (0 ≤ df (nth o.tr k) u)) (l := o.tr) (m := k + 1)).symm
  refine W_seq_skip ?_
  refine W_seq_blockg fun Q17 n17 x17 y17 z17 => ?_
  refine W_seq_regc (fun T H => T 1 = (V.mp 1 1 0 0) ∧ T 7 = (iV ((k : Nat) : Int)) ∧ T 8 = (V.mp 8 (v8 + 1) 0 0) ∧ T 67 = (V.sl (List.map cT (o.tr))) ∧ T 68 = (iV ((o.tr.length : Nat) : Int)) ∧ T 69 = (iV ((k : Nat) : Int)) ∧ H 1 = (⟨1, true, false, 34, 2, [[(iV (o.i)), (V.sl (List.map cT (o.tr)))]]⟩ : Blk) ∧ (H 4).ver = v4 ∧ H 8 = (⟨v8 + 1, true, false, 63, 2, [[(V.sl (List.map cI ((nth (o.tr) (k)).ni))), (V.sl (List.map cI ((nth (o.tr) (k)).no)))]]⟩ : Blk) ∧ True) ?_ ?_
  ·
   unfold r36_23
   refine R_mv t69 ?_
   refine R_idx (i := k) t67 t69 (by omega) rfl ?_
   refine R_load_pp (v := (V.agg [(V.sl (List.map cI ((nth (o.tr) (k)).ni))), (V.sl (List.map cI ((nth (o.tr) (k)).no)))])) (@rfl V (V.pp [(V.sl (List.map cI ((nth (o.tr) (k)).ni))), (V.sl (List.map cI ((nth (o.tr) (k)).no)))])) (by first | rfl | simp [ldV]) ?_
   refine R_alloc (i := 8) (n := v8) (m := 2) rfl h8 rfl ?_
   refine R_mv (@rfl V (iV ((k : Nat) : Int))) ?_
   refine R_store (vs := [(V.sl (List.map cI ((nth (o.tr) (k)).ni))), (V.sl (List.map cI ((nth (o.tr) (k)).no)))]) (B' := (⟨v8 + 1, true, false, 63, 2, [[(V.sl (List.map cI ((nth (o.tr) (k)).ni))), (V.sl (List.map cI ((nth (o.tr) (k)).no)))]]⟩ : Blk)) (@rfl V (V.mp 8 (v8 + 1) 0 0)) (@rfl V (V.agg [(V.sl (List.map cI ((nth (o.tr) (k)).ni))), (V.sl (List.map cI ((nth (o.tr) (k)).no)))])) rfl (@rfl Blk (⟨v8 + 1, true, false, 63, 2, [[V.nilsl, V.nilsl]]⟩ : Blk)) (by first | rfl | simp [stB, okB, Blk.own, putAt, V.one]) ?_
   exact R_nil ⟨t1, rfl, rfl, t67, t68, t69, h1, h4, rfl, trivial⟩
  intro T H ⟨t1, t7, t8, t67, t68, t69, h1, h4, h8, _⟩
  refine W_seq_regc (fun T H => T 1 = (V.mp 1 1 0 0) ∧ T 8 = (V.mp 8 (v8 + 1) 0 0) ∧ T 9 = (V.sl (List.map cT (List.drop (k + 1) (o.tr)))) ∧ T 67 = (V.sl (List.map cT (o.tr))) ∧ T 68 = (iV ((o.tr.length : Nat) : Int)) ∧ T 69 = (iV ((k : Nat) : Int)) ∧ H 1 = (⟨1, true, false, 34, 2, [[(iV (o.i)), (V.sl (List.map cT (o.tr)))]]⟩ : Blk) ∧ (H 4).ver = v4 ∧ H 8 = (⟨v8 + 1, true, false, 63, 2, [[(V.sl (List.map cI ((nth (o.tr) (k)).ni))), (V.sl (List.map cI ((nth (o.tr) (k)).no)))]]⟩ : Blk) ∧ True) ?_ ?_
  ·
   unfold r36_24
   refine R_fld_mp (o' := 1) t1 h1 (by first | rfl | simp [okB, Blk.own]) rfl ?_
   refine R_load_mp (v := (V.sl (List.map cT (o.tr)))) (@rfl V (V.mp 1 1 0 1)) h1 (by first | rfl | simp [ldB, ldV, Blk.own, V.one]) ?_
   refine R_mv t7 ?_
   refine R_addN (m := k) (n := 1) (@rfl V (iV ((k : Nat) : Int))) (@rfl V (iV ((1 : Nat) : Int))) (by omega) ?_
   refine R_slice_lo (n := (k + 1)) (@rfl V (V.sl (List.map cT (o.tr)))) (@rfl V (iV ((k + 1 : Nat) : Int))) (by omega) (fun _ => rfl) ?_
   refine R_mv (@rfl V (V.sl (List.map cT (List.drop (k + 1) (o.tr))))) ?_
   exact R_nil ⟨t1, t8, rfl, t67, t68, t69, h1, h4, h8, trivial⟩
  intro T H ⟨t1, t8, t9, t67, t68, t69, h1, h4, h8, _⟩
  refine W_seq_seq ?_
  refine W_seq_regc (fun T H => T 1 = (V.mp 1 1 0 0) ∧ T 8 = (V.mp 8 (v8 + 1) 0 0) ∧ T 9 = (V.sl (List.map cT (List.drop (k + 1) (o.tr)))) ∧ T 67 = (V.sl (List.map cT (o.tr))) ∧ T 68 = (iV ((o.tr.length : Nat) : Int)) ∧ T 69 = (iV ((k : Nat) : Int)) ∧ T 81 = (V.bool (decide (0 ≤ fi (fun j => (fun u => hp u.ni (nth o.tr k).ni) (nth (List.drop (k + 1) (o.tr)) j)) 0 (List.drop (k + 1) (o.tr)).length))) ∧ H 1 = (⟨1, true, false, 34, 2, [[(iV (o.i)), (V.sl (List.map cT (o.tr)))]]⟩ : Blk) ∧ (H 4).ver = v4 ∧ H 8 = (⟨v8 + 1, true, false, 63, 2, [[(V.sl (List.map cI ((nth (o.tr) (k)).ni))), (V.sl (List.map cI ((nth (o.tr) (k)).no)))]]⟩ : Blk) ∧ True) ?_ ?_
  ·
   unfold r36_25
   refine R_mv t9 ?_
   refine R_mkf (evcons t8 evnil) ?_
   refine R_call (evcons (@rfl V (V.sl (List.map cT (List.drop (k + 1) (o.tr))))) (evcons (@rfl V (V.fn 82 [] [(V.mp 8 (v8 + 1) 0 0)])) evnil)) (cont_pure (fun u => hp u.ni (nth o.tr k).ni) (List.drop (k + 1) (o.tr)) 82 ([(V.pp [(V.sl (List.map cI ((nth (o.tr) (k)).ni))), (V.sl (List.map cI ((nth (o.tr) (k)).no)))])]) (by simp) (by simp) (fun j _ => valid1_pure (nth (List.drop (k + 1) o.tr) j) (nth o.tr k))) (mcons (fzv_canon 6 _ (by simp [-List.map_take, -List.map_drop, -List.map_append, -List.map_reverse])) (mcons (by simp [fzv, Blk.own, h1, h8]) rfl)) (by simp [-List.map_take, -List.map_drop, -List.map_append, -List.map_reverse]) (Or.inr rfl) ?_
   exact R_nil ⟨t1, t8, t9, t67, t68, t69, rfl, h1, h4, h8, trivial⟩
  intro T H ⟨t1, t8, t9, t67, t68, t69, t81, h1, h4, h8, _⟩
  refine W_seq_if (p := 0 ≤ fi (fun j => (fun u => hp u.ni (nth o.tr k).ni) (nth (List.drop (k + 1) (o.tr)) j)) 0 (List.drop (k + 1) (o.tr)).length) t81 (fun c18 => ?_) (fun c18 => ?_)
  ·
   have d1 := c18
   refine W_seq_seq ?_
   refine W_seq_regc (fun T H => T 2 = (iV (7 : Int)) ∧ H 1 = (⟨1, true, false, 34, 2, [[(iV (o.i)), (V.sl (List.map cT (o.tr)))]]⟩ : Blk) ∧ (H 4).ver = v4 ∧ H 8 = (⟨v8 + 1, true, false, 63, 2, [[(V.sl (List.map cI ((nth (o.tr) (k)).ni))), (V.sl (List.map cI ((nth (o.tr) (k)).no)))]]⟩ : Blk) ∧ True) ?_ ?_
   ·
    unfold r36_26
    refine R_mv (@rfl V (iV (7 : Int))) ?_
    exact R_nil ⟨rfl, h1, h4, h8, trivial⟩
   intro T H ⟨t2, h1, h4, h8, _⟩
   refine W_seq_ret ?_
   refine y17 _ _ ?_
   refine p215 _ _ ?_
   refine y14 _ _ ?_
   refine Ret_1 t2 (fz_int ?_)
   · rw [oval, if_neg (by omega), if_neg (by omega), if_neg (by omega), hd, fe_hit (by rw [apE, if_pos (g1.2 d1)]; decide) (by omega), apE, if_pos (g1.2 d1)]
  have d1 := c18
  refine W_seq_skip ?_
  refine W_seq_regc (fun T H => T 1 = (V.mp 1 1 0 0) ∧ T 67 = (V.sl (List.map cT (o.tr))) ∧ T 68 = (iV ((o.tr.length : Nat) : Int)) ∧ T 69 = (iV ((k : Nat) : Int)) ∧ T 84 = (V.bool (decide (0 ≤ fi (fun j => (fun u => decide (0 ≤ df (nth o.tr k) u)) (nth (List.drop (k + 1) (o.tr)) j)) 0 (List.drop (k + 1) (o.tr)).length))) ∧ H 1 = (⟨1, true, false, 34, 2, [[(iV (o.i)), (V.sl (List.map cT (o.tr)))]]⟩ : Blk) ∧ (H 4).ver = v4 ∧ H 8 = (⟨v8 + 1, true, false, 63, 2, [[(V.sl (List.map cI ((nth (o.tr) (k)).ni))), (V.sl (List.map cI ((nth (o.tr) (k)).no)))]]⟩ : Blk) ∧ True) ?_ ?_
  ·
   unfold r36_27
   refine R_mv t9 ?_
   refine R_mkf (evcons t8 evnil) ?_
   refine R_call (evcons (@rfl V (V.sl (List.map cT (List.drop (k + 1) (o.tr))))) (evcons (@rfl V (V.fn 83 [] [(V.mp 8 (v8 + 1) 0 0)])) evnil)) (cont_pure (fun u => decide (0 ≤ df (nth o.tr k) u)) (List.drop (k + 1) (o.tr)) 83 ([(V.pp [(V.sl (List.map cI ((nth (o.tr) (k)).ni))), (V.sl (List.map cI ((nth (o.tr) (k)).no)))])]) (by simp) (by simp) (fun j hj => valid2_pure (nth (List.drop (k + 1) o.tr) j) (nth o.tr k) (f1 _ (List.mem_of_mem_drop (nth_mem hj))) (f1 _ (nth_mem (by omega))))) (mcons (fzv_canon 6 _ (by simp [-List.map_take, -List.map_drop, -List.map_append, -List.map_reverse])) (mcons (by simp [fzv, Blk.own, h1, h8]) rfl)) (by simp [-List.map_take, -List.map_drop, -List.map_append, -List.map_reverse]) (Or.inr rfl) ?_
   exact R_nil ⟨t1, t67, t68, t69, rfl, h1, h4, h8, trivial⟩
  intro T H ⟨t1, t67, t68, t69, t84, h1, h4, h8, _⟩
  refine W_if (p := 0 ≤ fi (fun j => (fun u => decide (0 ≤ df (nth o.tr k) u)) (nth (List.drop (k + 1) (o.tr)) j)) 0 (List.drop (k + 1) (o.tr)).length) t84 (fun c19 => ?_) (fun c19 => ?_)
  ·
   have d2 := c19
   refine W_seq_regc (fun T H => T 2 = (iV (13 : Int)) ∧ H 1 = (⟨1, true, false, 34, 2, [[(iV (o.i)), (V.sl (List.map cT (o.tr)))]]⟩ : Blk) ∧ (H 4).ver = v4 ∧ H 8 = (⟨v8 + 1, true, false, 63, 2, [[(V.sl (List.map cI ((nth (o.tr) (k)).ni))), (V.sl (List.map cI ((nth (o.tr) (k)).no)))]]⟩ : Blk) ∧ True) ?_ ?_
   ·
    unfold r36_28
    refine R_mv (@rfl V (iV (13 : Int))) ?_
    exact R_nil ⟨rfl, h1, h4, h8, trivial⟩
   intro T H ⟨t2, h1, h4, h8, _⟩
   refine W_ret ?_
   refine y17 _ _ ?_
   refine p215 _ _ ?_
   refine y14 _ _ ?_
   refine Ret_1 t2 (fz_int ?_)
   · rw [oval, if_neg (by omega), if_neg (by omega), if_neg (by omega), hd, fe_hit (by rw [apE, if_neg (fun e => d1 (g1.1 e)), if_pos (g2.2 d2)]; decide) (by omega), apE, if_neg (fun e => d1 (g1.1 e)), if_pos (g2.2 d2)]
  have d2 := c19
  refine W_skip ?_
  refine n17 _ _ ?_
  refine .done ?_
  refine W_regc (fun T H => T 1 = (V.mp 1 1 0 0) ∧ T 67 = (V.sl (List.map cT (o.tr))) ∧ T 68 = (iV ((o.tr.length : Nat) : Int)) ∧ T 69 = (iV ((k + 1 : Nat) : Int)) ∧ H 1 = (⟨1, true, false, 34, 2, [[(iV (o.i)), (V.sl (List.map cT (o.tr)))]]⟩ : Blk) ∧ (H 4).ver = v4 ∧ H 8 = (⟨v8 + 1, true, false, 63, 2, [[(V.sl (List.map cI ((nth (o.tr) (k)).ni))), (V.sl (List.map cI ((nth (o.tr) (k)).no)))]]⟩ : Blk) ∧ True) ?_ ?_
  ·
   unfold r36_29
   refine R_addN (m := k) (n := 1) t69 (@rfl V (iV ((1 : Nat) : Int))) (by omega) ?_
   refine R_mv (@rfl V (iV ((k + 1 : Nat) : Int))) ?_
   exact R_nil ⟨t1, t67, t68, rfl, h1, h4, h8, trivial⟩
  intro T H ⟨t1, t67, t68, t69, h1, h4, h8, _⟩
  refine p115 _ _ _ ?_ ⟨(k + 1), (v8 + 1), rfl, t1, t67, t68, (Eq.trans t69 (by first | rfl | simp)), h1, h4, (congrArg Blk.ver h8), ?_, ?_⟩
  · omega
  · omega
  · rw [hd, fe_skip (by rw [apE, if_neg (fun e => d1 (g1.1 e)), if_neg (fun e => d2 (g2.1 e))]) (by omega)]
 refine W_seq_exit ?_
 refine p315 _ _ _ ?_
 refine x14 _ _ ?_
 refine .done ?_
 refine W_seq_regc (fun T H => T 2 = (iV (0 : Int)) ∧ H 1 = (⟨1, true, false, 34, 2, [[(iV (o.i)), (V.sl (List.map cT (o.tr)))]]⟩ : Blk) ∧ (H 4).ver = v4 ∧ (H 8).ver = v8 ∧ True) ?_ ?_
 ·
  unfold r36_30
  refine R_mv (@rfl V (iV (0 : Int))) ?_
  exact R_nil ⟨rfl, h1, h4, h8, trivial⟩
 intro T H ⟨t2, h1, h4, h8, _⟩
 refine W_ret ?_
 refine Ret_1 t2 (fz_int ?_)
 · rw [oval, if_neg (by omega), if_neg (by omega), if_neg (by omega), hd, fe_end (by omega)]

end Go.Proofs.Ytngkckefanbhgaa

namespace Go.Proofs.Ytngkckefanbhgaa
open Go Go.Proofs

theorem law7_pure (h : Hy) (o : Ob) : PureC Try.prog 7 [(V.agg [(iV (h.m.i)), (iV (h.m.s)), (V.sl (List.map cL (h.m.nx))), (V.sl (List.map cL (h.m.ot))), (V.sl (List.map cL (h.acc)))]), (V.agg [(iV (o.i)), (V.sl (List.map cT (o.tr)))])] (V.bool true) := by
 refine pure_of_Wb true 6 Try.func7 s7_ok (by kernel_rfl) (by simp [s7]) (by simp) (by simp) fun hB => ?_
 simp only [bnd_map, bnd_int, bnd_bool, bnd_str, bnd_agg, bnd_pp, bnd_nil, bnd_cons, implies_true, and_true, true_and] at hB
 unfold s7
 dsimp only
 refine W_seq_regc (fun T H => T 2 = (V.mp 2 1 0 0) ∧ T 3 = (V.mp 3 1 0 0) ∧ H 2 = (⟨1, true, false, 26, 5, [[(iV (h.m.i)), (iV (h.m.s)), (V.sl (List.map cL (h.m.nx))), (V.sl (List.map cL (h.m.ot))), (V.sl (List.map cL (h.acc)))]]⟩ : Blk) ∧ H 3 = (⟨1, true, false, 34, 2, [[(iV (o.i)), (V.sl (List.map cT (o.tr)))]]⟩ : Blk) ∧ True) ?_ ?_
 ·
  unfold r7_0
  refine R_box (i := 2) (n := 0) (m := 5) (cs := [(iV (h.m.i)), (iV (h.m.s)), (V.sl (List.map cL (h.m.nx))), (V.sl (List.map cL (h.m.ot))), (V.sl (List.map cL (h.acc)))]) rfl (congrArg Blk.ver rfl) (@rfl V (V.agg [(iV (h.m.i)), (iV (h.m.s)), (V.sl (List.map cL (h.m.nx))), (V.sl (List.map cL (h.m.ot))), (V.sl (List.map cL (h.acc)))])) rfl rfl ?_
  refine R_box (i := 3) (n := 0) (m := 2) (cs := [(iV (o.i)), (V.sl (List.map cT (o.tr)))]) rfl (congrArg Blk.ver rfl) (@rfl V (V.agg [(iV (o.i)), (V.sl (List.map cT (o.tr)))])) rfl rfl ?_
  refine R_mv (@rfl V (V.bool false)) ?_
  exact R_nil ⟨rfl, rfl, rfl, rfl, trivial⟩
 intro T H ⟨t2, t3, h2, h3, _⟩
 refine W_seq_seq ?_
 refine W_seq_regc (fun T H => T 2 = (V.mp 2 1 0 0) ∧ T 3 = (V.mp 3 1 0 0) ∧ T 39 = (V.bool (decide ((((((40 < h.m.nx.length ∨ 40 < h.m.ot.length ∨ 20 < h.m.i) ∨ (200 < h.acc.length ∨ fe (longE h.acc) 0 h.acc.length ≠ 0)) ∨ (ogr o)) ∨ ((hval h) ≠ (0 : Int))) ∨ ((oval o) ≠ (0 : Int))) ∨ ((h.m.i) ≠ (o.i))))) ∧ H 2 = (⟨1, true, false, 26, 5, [[(iV (h.m.i)), (iV (h.m.s)), (V.sl (List.map cL (h.m.nx))), (V.sl (List.map cL (h.m.ot))), (V.sl (List.map cL (h.acc)))]]⟩ : Blk) ∧ H 3 = (⟨1, true, false, 34, 2, [[(iV (o.i)), (V.sl (List.map cT (o.tr)))]]⟩ : Blk) ∧ True) ?_ ?_
 ·
  unfold r7_1
  refine R_load_mp (v := (V.agg [(iV (h.m.i)), (iV (h.m.s)), (V.sl (List.map cL (h.m.nx))), (V.sl (List.map cL (h.m.ot))), (V.sl (List.map cL (h.acc)))])) t2 h2 (by first | rfl | simp [ldB, ldV, Blk.own, V.one]) ?_
  refine R_call (evcons (@rfl V (V.agg [(iV (h.m.i)), (iV (h.m.s)), (V.sl (List.map cL (h.m.nx))), (V.sl (List.map cL (h.m.ot))), (V.sl (List.map cL (h.acc)))])) evnil) (great22_pure h) (fzv_mapcanon _ _ (by simp [-List.map_take, -List.map_drop, -List.map_append, -List.map_reverse])) (by simp [-List.map_take, -List.map_drop, -List.map_append, -List.map_reverse]) (Or.inl (by simp [-List.map_take, -List.map_drop, -List.map_append, -List.map_reverse])) ?_
  refine R_mv (@rfl V (V.bool (decide ((40 < h.m.nx.length ∨ 40 < h.m.ot.length ∨ 20 < h.m.i) ∨ (200 < h.acc.length ∨ fe (longE h.acc) 0 h.acc.length ≠ 0))))) ?_
  refine Ops_seg 3 (fun T H => T 2 = (V.mp 2 1 0 0) ∧ T 3 = (V.mp 3 1 0 0) ∧ T 21 = (V.bool (decide (((40 < h.m.nx.length ∨ 40 < h.m.ot.length ∨ 20 < h.m.i) ∨ (200 < h.acc.length ∨ fe (longE h.acc) 0 h.acc.length ≠ 0)) ∨ (ogr o)))) ∧ H 2 = (⟨1, true, false, 26, 5, [[(iV (h.m.i)), (iV (h.m.s)), (V.sl (List.map cL (h.m.nx))), (V.sl (List.map cL (h.m.ot))), (V.sl (List.map cL (h.acc)))]]⟩ : Blk) ∧ H 3 = (⟨1, true, false, 34, 2, [[(iV (o.i)), (V.sl (List.map cT (o.tr)))]]⟩ : Blk) ∧ True) ?_ ?_
  ·
   by_cases g1 : (40 < h.m.nx.length ∨ 40 < h.m.ot.length ∨ 20 < h.m.i) ∨ (200 < h.acc.length ∨ fe (longE h.acc) 0 h.acc.length ≠ 0)
   ·
    refine G_no (Eq.trans (@rfl V (V.bool (decide ((40 < h.m.nx.length ∨ 40 < h.m.ot.length ∨ 20 < h.m.i) ∨ (200 < h.acc.length ∨ fe (longE h.acc) 0 h.acc.length ≠ 0))))) (bdT g1)) (by decide) ?_
    refine G_no (Eq.trans (@rfl V (V.bool (decide ((40 < h.m.nx.length ∨ 40 < h.m.ot.length ∨ 20 < h.m.i) ∨ (200 < h.acc.length ∨ fe (longE h.acc) 0 h.acc.length ≠ 0))))) (bdT g1)) (by decide) ?_
    refine R_pickT (Eq.trans (@rfl V (V.bool (decide ((40 < h.m.nx.length ∨ 40 < h.m.ot.length ∨ 20 < h.m.i) ∨ (200 < h.acc.length ∨ fe (longE h.acc) 0 h.acc.length ≠ 0))))) (bdT g1)) (@rfl V (V.bool true)) ?_
    exact ⟨t2, t3, (Eq.trans (@rfl V (V.bool true)) (dec_orT g1)), h2, h3, trivial⟩
   ·
    refine G_yes (Eq.trans (@rfl V (V.bool (decide ((40 < h.m.nx.length ∨ 40 < h.m.ot.length ∨ 20 < h.m.i) ∨ (200 < h.acc.length ∨ fe (longE h.acc) 0 h.acc.length ≠ 0))))) (bdF g1)) ?_
    refine R_load_mp (v := (V.agg [(iV (o.i)), (V.sl (List.map cT (o.tr)))])) t3 h3 (by first | rfl | simp [ldB, ldV, Blk.own, V.one]) ?_
    refine G_yes (Eq.trans (@rfl V (V.bool (decide ((40 < h.m.nx.length ∨ 40 < h.m.ot.length ∨ 20 < h.m.i) ∨ (200 < h.acc.length ∨ fe (longE h.acc) 0 h.acc.length ≠ 0))))) (bdF g1)) ?_
    refine R_call (evcons (@rfl V (V.agg [(iV (o.i)), (V.sl (List.map cT (o.tr)))])) evnil) (great16_pure o) (fzv_mapcanon _ _ (by simp [-List.map_take, -List.map_drop, -List.map_append, -List.map_reverse])) (by simp [-List.map_take, -List.map_drop, -List.map_append, -List.map_reverse]) (Or.inl (by simp [-List.map_take, -List.map_drop, -List.map_append, -List.map_reverse])) ?_
    refine R_pickF (Eq.trans (@rfl V (V.bool (decide ((40 < h.m.nx.length ∨ 40 < h.m.ot.length ∨ 20 < h.m.i) ∨ (200 < h.acc.length ∨ fe (longE h.acc) 0 h.acc.length ≠ 0))))) (bdF g1)) (@rfl V (V.bool (decide (ogr o)))) ?_
    exact ⟨t2, t3, (Eq.trans (@rfl V (V.bool (decide (ogr o)))) (dec_orF g1)), h2, h3, trivial⟩
  intro T H ⟨t2, t3, t21, h2, h3, _⟩
  refine R_mv t21 ?_
  refine Ops_seg 4 (fun T H => T 2 = (V.mp 2 1 0 0) ∧ T 3 = (V.mp 3 1 0 0) ∧ T 26 = (V.bool (decide ((((40 < h.m.nx.length ∨ 40 < h.m.ot.length ∨ 20 < h.m.i) ∨ (200 < h.acc.length ∨ fe (longE h.acc) 0 h.acc.length ≠ 0)) ∨ (ogr o)) ∨ ((hval h) ≠ (0 : Int))))) ∧ H 2 = (⟨1, true, false, 26, 5, [[(iV (h.m.i)), (iV (h.m.s)), (V.sl (List.map cL (h.m.nx))), (V.sl (List.map cL (h.m.ot))), (V.sl (List.map cL (h.acc)))]]⟩ : Blk) ∧ H 3 = (⟨1, true, false, 34, 2, [[(iV (o.i)), (V.sl (List.map cT (o.tr)))]]⟩ : Blk) ∧ True) ?_ ?_
  ·
   by_cases g2 : ((40 < h.m.nx.length ∨ 40 < h.m.ot.length ∨ 20 < h.m.i) ∨ (200 < h.acc.length ∨ fe (longE h.acc) 0 h.acc.length ≠ 0)) ∨ (ogr o)
   ·
    refine G_no (Eq.trans (@rfl V (V.bool (decide (((40 < h.m.nx.length ∨ 40 < h.m.ot.length ∨ 20 < h.m.i) ∨ (200 < h.acc.length ∨ fe (longE h.acc) 0 h.acc.length ≠ 0)) ∨ (ogr o))))) (bdT g2)) (by decide) ?_
    refine G_no (Eq.trans (@rfl V (V.bool (decide (((40 < h.m.nx.length ∨ 40 < h.m.ot.length ∨ 20 < h.m.i) ∨ (200 < h.acc.length ∨ fe (longE h.acc) 0 h.acc.length ≠ 0)) ∨ (ogr o))))) (bdT g2)) (by decide) ?_
    refine G_no (Eq.trans (@rfl V (V.bool (decide (((40 < h.m.nx.length ∨ 40 < h.m.ot.length ∨ 20 < h.m.i) ∨ (200 < h.acc.length ∨ fe (longE h.acc) 0 h.acc.length ≠ 0)) ∨ (ogr o))))) (bdT g2)) (by decide) ?_
    refine R_pickT (Eq.trans (@rfl V (V.bool (decide (((40 < h.m.nx.length ∨ 40 < h.m.ot.length ∨ 20 < h.m.i) ∨ (200 < h.acc.length ∨ fe (longE h.acc) 0 h.acc.length ≠ 0)) ∨ (ogr o))))) (bdT g2)) (@rfl V (V.bool true)) ?_
    exact ⟨t2, t3, (Eq.trans (@rfl V (V.bool true)) (dec_orT g2)), h2, h3, trivial⟩
   ·
    refine G_yes (Eq.trans (@rfl V (V.bool (decide (((40 < h.m.nx.length ∨ 40 < h.m.ot.length ∨ 20 < h.m.i) ∨ (200 < h.acc.length ∨ fe (longE h.acc) 0 h.acc.length ≠ 0)) ∨ (ogr o))))) (bdF g2)) ?_
    refine R_load_mp (v := (V.agg [(iV (h.m.i)), (iV (h.m.s)), (V.sl (List.map cL (h.m.nx))), (V.sl (List.map cL (h.m.ot))), (V.sl (List.map cL (h.acc)))])) t2 h2 (by first | rfl | simp [ldB, ldV, Blk.own, V.one]) ?_
    refine G_yes (Eq.trans (@rfl V (V.bool (decide (((40 < h.m.nx.length ∨ 40 < h.m.ot.length ∨ 20 < h.m.i) ∨ (200 < h.acc.length ∨ fe (longE h.acc) 0 h.acc.length ≠ 0)) ∨ (ogr o))))) (bdF g2)) ?_
    refine R_call (evcons (@rfl V (V.agg [(iV (h.m.i)), (iV (h.m.s)), (V.sl (List.map cL (h.m.nx))), (V.sl (List.map cL (h.m.ot))), (V.sl (List.map cL (h.acc)))])) evnil) (hvalid_pure h) (fzv_mapcanon _ _ (by simp [-List.map_take, -List.map_drop, -List.map_append, -List.map_reverse])) (by simp [-List.map_take, -List.map_drop, -List.map_append, -List.map_reverse]) (Or.inl (by simp [-List.map_take, -List.map_drop, -List.map_append, -List.map_reverse])) ?_
    refine G_yes (Eq.trans (@rfl V (V.bool (decide (((40 < h.m.nx.length ∨ 40 < h.m.ot.length ∨ 20 < h.m.i) ∨ (200 < h.acc.length ∨ fe (longE h.acc) 0 h.acc.length ≠ 0)) ∨ (ogr o))))) (bdF g2)) ?_
    refine R_neq (x := (hval h)) (y := (0 : Int)) (@rfl V (iV (hval h))) (@rfl V (iV (0 : Int))) ?_
    refine R_pickF (Eq.trans (@rfl V (V.bool (decide (((40 < h.m.nx.length ∨ 40 < h.m.ot.length ∨ 20 < h.m.i) ∨ (200 < h.acc.length ∨ fe (longE h.acc) 0 h.acc.length ≠ 0)) ∨ (ogr o))))) (bdF g2)) (@rfl V (V.bool (decide ((hval h) ≠ (0 : Int))))) ?_
    exact ⟨t2, t3, (Eq.trans (@rfl V (V.bool (decide ((hval h) ≠ (0 : Int))))) (dec_orF g2)), h2, h3, trivial⟩
  intro T H ⟨t2, t3, t26, h2, h3, _⟩
  refine R_mv t26 ?_
  refine Ops_seg 4 (fun T H => T 2 = (V.mp 2 1 0 0) ∧ T 3 = (V.mp 3 1 0 0) ∧ T 31 = (V.bool (decide (((((40 < h.m.nx.length ∨ 40 < h.m.ot.length ∨ 20 < h.m.i) ∨ (200 < h.acc.length ∨ fe (longE h.acc) 0 h.acc.length ≠ 0)) ∨ (ogr o)) ∨ ((hval h) ≠ (0 : Int))) ∨ ((oval o) ≠ (0 : Int))))) ∧ H 2 = (⟨1, true, false, 26, 5, [[(iV (h.m.i)), (iV (h.m.s)), (V.sl (List.map cL (h.m.nx))), (V.sl (List.map cL (h.m.ot))), (V.sl (List.map cL (h.acc)))]]⟩ : Blk) ∧ H 3 = (⟨1, true, false, 34, 2, [[(iV (o.i)), (V.sl (List.map cT (o.tr)))]]⟩ : Blk) ∧ True) ?_ ?_
  ·
   by_cases g3 : (((40 < h.m.nx.length ∨ 40 < h.m.ot.length ∨ 20 < h.m.i) ∨ (200 < h.acc.length ∨ fe (longE h.acc) 0 h.acc.length ≠ 0)) ∨ (ogr o)) ∨ ((hval h) ≠ (0 : Int))
   ·
    refine G_no (Eq.trans (@rfl V (V.bool (decide ((((40 < h.m.nx.length ∨ 40 < h.m.ot.length ∨ 20 < h.m.i) ∨ (200 < h.acc.length ∨ fe (longE h.acc) 0 h.acc.length ≠ 0)) ∨ (ogr o)) ∨ ((hval h) ≠ (0 : Int)))))) (bdT g3)) (by decide) ?_
    refine G_no (Eq.trans (@rfl V (V.bool (decide ((((40 < h.m.nx.length ∨ 40 < h.m.ot.length ∨ 20 < h.m.i) ∨ (200 < h.acc.length ∨ fe (longE h.acc) 0 h.acc.length ≠ 0)) ∨ (ogr o)) ∨ ((hval h) ≠ (0 : Int)))))) (bdT g3)) (by decide) ?_
    refine G_no (Eq.trans (@rfl V (V.bool (decide ((((40 < h.m.nx.length ∨ 40 < h.m.ot.length ∨ 20 < h.m.i) ∨ (200 < h.acc.length ∨ fe (longE h.acc) 0 h.acc.length ≠ 0)) ∨ (ogr o)) ∨ ((hval h) ≠ (0 : Int)))))) (bdT g3)) (by decide) ?_
    refine R_pickT (Eq.trans (@rfl V (V.bool (decide ((((40 < h.m.nx.length ∨ 40 < h.m.ot.length ∨ 20 < h.m.i) ∨ (200 < h.acc.length ∨ fe (longE h.acc) 0 h.acc.length ≠ 0)) ∨ (ogr o)) ∨ ((hval h) ≠ (0 : Int)))))) (bdT g3)) (@rfl V (V.bool true)) ?_
    exact ⟨t2, t3, (Eq.trans (@rfl V (V.bool true)) (dec_orT g3)), h2, h3, trivial⟩
   ·
    refine G_yes (Eq.trans (@rfl V (V.bool (decide ((((40 < h.m.nx.length ∨ 40 < h.m.ot.length ∨ 20 < h.m.i) ∨ (200 < h.acc.length ∨ fe (longE h.acc) 0 h.acc.length ≠ 0)) ∨ (ogr o)) ∨ ((hval h) ≠ (0 : Int)))))) (bdF g3)) ?_
    refine R_load_mp (v := (V.agg [(iV (o.i)), (V.sl (List.map cT (o.tr)))])) t3 h3 (by first | rfl | simp [ldB, ldV, Blk.own, V.one]) ?_
    refine G_yes (Eq.trans (@rfl V (V.bool (decide ((((40 < h.m.nx.length ∨ 40 < h.m.ot.length ∨ 20 < h.m.i) ∨ (200 < h.acc.length ∨ fe (longE h.acc) 0 h.acc.length ≠ 0)) ∨ (ogr o)) ∨ ((hval h) ≠ (0 : Int)))))) (bdF g3)) ?_
    refine R_call (evcons (@rfl V (V.agg [(iV (o.i)), (V.sl (List.map cT (o.tr)))])) evnil) (oval_pure o) (fzv_mapcanon _ _ (by simp [-List.map_take, -List.map_drop, -List.map_append, -List.map_reverse])) (by simp [-List.map_take, -List.map_drop, -List.map_append, -List.map_reverse]) (Or.inl (by simp [-List.map_take, -List.map_drop, -List.map_append, -List.map_reverse])) ?_
    refine G_yes (Eq.trans (@rfl V (V.bool (decide ((((40 < h.m.nx.length ∨ 40 < h.m.ot.length ∨ 20 < h.m.i) ∨ (200 < h.acc.length ∨ fe (longE h.acc) 0 h.acc.length ≠ 0)) ∨ (ogr o)) ∨ ((hval h) ≠ (0 : Int)))))) (bdF g3)) ?_
    refine R_neq (x := (oval o)) (y := (0 : Int)) (@rfl V (iV (oval o))) (@rfl V (iV (0 : Int))) ?_
    refine R_pickF (Eq.trans (@rfl V (V.bool (decide ((((40 < h.m.nx.length ∨ 40 < h.m.ot.length ∨ 20 < h.m.i) ∨ (200 < h.acc.length ∨ fe (longE h.acc) 0 h.acc.length ≠ 0)) ∨ (ogr o)) ∨ ((hval h) ≠ (0 : Int)))))) (bdF g3)) (@rfl V (V.bool (decide ((oval o) ≠ (0 : Int))))) ?_
    exact ⟨t2, t3, (Eq.trans (@rfl V (V.bool (decide ((oval o) ≠ (0 : Int))))) (dec_orF g3)), h2, h3, trivial⟩
  intro T H ⟨t2, t3, t31, h2, h3, _⟩
  refine R_mv t31 ?_
  refine Ops_seg 7 (fun T H => T 2 = (V.mp 2 1 0 0) ∧ T 3 = (V.mp 3 1 0 0) ∧ T 39 = (V.bool (decide ((((((40 < h.m.nx.length ∨ 40 < h.m.ot.length ∨ 20 < h.m.i) ∨ (200 < h.acc.length ∨ fe (longE h.acc) 0 h.acc.length ≠ 0)) ∨ (ogr o)) ∨ ((hval h) ≠ (0 : Int))) ∨ ((oval o) ≠ (0 : Int))) ∨ ((h.m.i) ≠ (o.i))))) ∧ H 2 = (⟨1, true, false, 26, 5, [[(iV (h.m.i)), (iV (h.m.s)), (V.sl (List.map cL (h.m.nx))), (V.sl (List.map cL (h.m.ot))), (V.sl (List.map cL (h.acc)))]]⟩ : Blk) ∧ H 3 = (⟨1, true, false, 34, 2, [[(iV (o.i)), (V.sl (List.map cT (o.tr)))]]⟩ : Blk) ∧ True) ?_ ?_
  ·
   by_cases g4 : ((((40 < h.m.nx.length ∨ 40 < h.m.ot.length ∨ 20 < h.m.i) ∨ (200 < h.acc.length ∨ fe (longE h.acc) 0 h.acc.length ≠ 0)) ∨ (ogr o)) ∨ ((hval h) ≠ (0 : Int))) ∨ ((oval o) ≠ (0 : Int))
   ·
    refine G_no (Eq.trans (@rfl V (V.bool (decide (((((40 < h.m.nx.length ∨ 40 < h.m.ot.length ∨ 20 < h.m.i) ∨ (200 < h.acc.length ∨ fe (longE h.acc) 0 h.acc.length ≠ 0)) ∨ (ogr o)) ∨ ((hval h) ≠ (0 : Int))) ∨ ((oval o) ≠ (0 : Int)))))) (bdT g4)) (by decide) ?_
    refine G_no (Eq.trans (@rfl V (V.bool (decide (((((40 < h.m.nx.length ∨ 40 < h.m.ot.length ∨ 20 < h.m.i) ∨ (200 < h.acc.length ∨ fe (longE h.acc) 0 h.acc.length ≠ 0)) ∨ (ogr o)) ∨ ((hval h) ≠ (0 : Int))) ∨ ((oval o) ≠ (0 : Int)))))) (bdT g4)) (by decide) ?_
    refine G_no (Eq.trans (@rfl V (V.bool (decide (((((40 < h.m.nx.length ∨ 40 < h.m.ot.length ∨ 20 < h.m.i) ∨ (200 < h.acc.length ∨ fe (longE h.acc) 0 h.acc.length ≠ 0)) ∨ (ogr o)) ∨ ((hval h) ≠ (0 : Int))) ∨ ((oval o) ≠ (0 : Int)))))) (bdT g4)) (by decide) ?_
    refine G_no (Eq.trans (@rfl V (V.bool (decide (((((40 < h.m.nx.length ∨ 40 < h.m.ot.length ∨ 20 < h.m.i) ∨ (200 < h.acc.length ∨ fe (longE h.acc) 0 h.acc.length ≠ 0)) ∨ (ogr o)) ∨ ((hval h) ≠ (0 : Int))) ∨ ((oval o) ≠ (0 : Int)))))) (bdT g4)) (by decide) ?_
    refine G_no (Eq.trans (@rfl V (V.bool (decide (((((40 < h.m.nx.length ∨ 40 < h.m.ot.length ∨ 20 < h.m.i) ∨ (200 < h.acc.length ∨ fe (longE h.acc) 0 h.acc.length ≠ 0)) ∨ (ogr o)) ∨ ((hval h) ≠ (0 : Int))) ∨ ((oval o) ≠ (0 : Int)))))) (bdT g4)) (by decide) ?_
    refine G_no (Eq.trans (@rfl V (V.bool (decide (((((40 < h.m.nx.length ∨ 40 < h.m.ot.length ∨ 20 < h.m.i) ∨ (200 < h.acc.length ∨ fe (longE h.acc) 0 h.acc.length ≠ 0)) ∨ (ogr o)) ∨ ((hval h) ≠ (0 : Int))) ∨ ((oval o) ≠ (0 : Int)))))) (bdT g4)) (by decide) ?_
    refine R_pickT (Eq.trans (@rfl V (V.bool (decide (((((40 < h.m.nx.length ∨ 40 < h.m.ot.length ∨ 20 < h.m.i) ∨ (200 < h.acc.length ∨ fe (longE h.acc) 0 h.acc.length ≠ 0)) ∨ (ogr o)) ∨ ((hval h) ≠ (0 : Int))) ∨ ((oval o) ≠ (0 : Int)))))) (bdT g4)) (@rfl V (V.bool true)) ?_
    exact ⟨t2, t3, (Eq.trans (@rfl V (V.bool true)) (dec_orT g4)), h2, h3, trivial⟩
   ·
    refine G_yes (Eq.trans (@rfl V (V.bool (decide (((((40 < h.m.nx.length ∨ 40 < h.m.ot.length ∨ 20 < h.m.i) ∨ (200 < h.acc.length ∨ fe (longE h.acc) 0 h.acc.length ≠ 0)) ∨ (ogr o)) ∨ ((hval h) ≠ (0 : Int))) ∨ ((oval o) ≠ (0 : Int)))))) (bdF g4)) ?_
    refine R_fld_mp (o' := 0) t2 h2 (by first | rfl | simp [okB, Blk.own]) rfl ?_
    refine G_yes (Eq.trans (@rfl V (V.bool (decide (((((40 < h.m.nx.length ∨ 40 < h.m.ot.length ∨ 20 < h.m.i) ∨ (200 < h.acc.length ∨ fe (longE h.acc) 0 h.acc.length ≠ 0)) ∨ (ogr o)) ∨ ((hval h) ≠ (0 : Int))) ∨ ((oval o) ≠ (0 : Int)))))) (bdF g4)) ?_
    refine R_fld_mp (o' := 0) (@rfl V (V.mp 2 1 0 0)) h2 (by first | rfl | simp [okB, Blk.own]) rfl ?_
    refine G_yes (Eq.trans (@rfl V (V.bool (decide (((((40 < h.m.nx.length ∨ 40 < h.m.ot.length ∨ 20 < h.m.i) ∨ (200 < h.acc.length ∨ fe (longE h.acc) 0 h.acc.length ≠ 0)) ∨ (ogr o)) ∨ ((hval h) ≠ (0 : Int))) ∨ ((oval o) ≠ (0 : Int)))))) (bdF g4)) ?_
    refine R_load_mp (v := (iV (h.m.i))) (@rfl V (V.mp 2 1 0 0)) h2 (by first | rfl | simp [ldB, ldV, Blk.own, V.one]) ?_
    refine G_yes (Eq.trans (@rfl V (V.bool (decide (((((40 < h.m.nx.length ∨ 40 < h.m.ot.length ∨ 20 < h.m.i) ∨ (200 < h.acc.length ∨ fe (longE h.acc) 0 h.acc.length ≠ 0)) ∨ (ogr o)) ∨ ((hval h) ≠ (0 : Int))) ∨ ((oval o) ≠ (0 : Int)))))) (bdF g4)) ?_
    refine R_fld_mp (o' := 0) t3 h3 (by first | rfl | simp [okB, Blk.own]) rfl ?_
    refine G_yes (Eq.trans (@rfl V (V.bool (decide (((((40 < h.m.nx.length ∨ 40 < h.m.ot.length ∨ 20 < h.m.i) ∨ (200 < h.acc.length ∨ fe (longE h.acc) 0 h.acc.length ≠ 0)) ∨ (ogr o)) ∨ ((hval h) ≠ (0 : Int))) ∨ ((oval o) ≠ (0 : Int)))))) (bdF g4)) ?_
    refine R_load_mp (v := (iV (o.i))) (@rfl V (V.mp 3 1 0 0)) h3 (by first | rfl | simp [ldB, ldV, Blk.own, V.one]) ?_
    refine G_yes (Eq.trans (@rfl V (V.bool (decide (((((40 < h.m.nx.length ∨ 40 < h.m.ot.length ∨ 20 < h.m.i) ∨ (200 < h.acc.length ∨ fe (longE h.acc) 0 h.acc.length ≠ 0)) ∨ (ogr o)) ∨ ((hval h) ≠ (0 : Int))) ∨ ((oval o) ≠ (0 : Int)))))) (bdF g4)) ?_
    refine R_neq (x := (h.m.i)) (y := (o.i)) (@rfl V (iV (h.m.i))) (@rfl V (iV (o.i))) ?_
    refine R_pickF (Eq.trans (@rfl V (V.bool (decide (((((40 < h.m.nx.length ∨ 40 < h.m.ot.length ∨ 20 < h.m.i) ∨ (200 < h.acc.length ∨ fe (longE h.acc) 0 h.acc.length ≠ 0)) ∨ (ogr o)) ∨ ((hval h) ≠ (0 : Int))) ∨ ((oval o) ≠ (0 : Int)))))) (bdF g4)) (@rfl V (V.bool (decide ((h.m.i) ≠ (o.i))))) ?_
    exact ⟨t2, t3, (Eq.trans (@rfl V (V.bool (decide ((h.m.i) ≠ (o.i))))) (dec_orF g4)), h2, h3, trivial⟩
  intro T H ⟨t2, t3, t39, h2, h3, _⟩
  exact R_nil ⟨t2, t3, t39, h2, h3, trivial⟩
 intro T H ⟨t2, t3, t39, h2, h3, _⟩
 refine W_seq_if (p := (((((40 < h.m.nx.length ∨ 40 < h.m.ot.length ∨ 20 < h.m.i) ∨ (200 < h.acc.length ∨ fe (longE h.acc) 0 h.acc.length ≠ 0)) ∨ (ogr o)) ∨ ((hval h) ≠ (0 : Int))) ∨ ((oval o) ≠ (0 : Int))) ∨ ((h.m.i) ≠ (o.i))) t39 (fun c5 => ?_) (fun c5 => ?_)
 ·
  refine W_seq_seq ?_
  refine W_seq_regc (fun T H => T 4 = (V.bool true) ∧ H 2 = (⟨1, true, false, 26, 5, [[(iV (h.m.i)), (iV (h.m.s)), (V.sl (List.map cL (h.m.nx))), (V.sl (List.map cL (h.m.ot))), (V.sl (List.map cL (h.acc)))]]⟩ : Blk) ∧ H 3 = (⟨1, true, false, 34, 2, [[(iV (o.i)), (V.sl (List.map cT (o.tr)))]]⟩ : Blk) ∧ True) ?_ ?_
  ·
   unfold r7_2
   refine R_call evnil (aw_learnerlaw22_awake_pure) (fzv_mapcanon _ _ (by simp [-List.map_take, -List.map_drop, -List.map_append, -List.map_reverse])) (by simp [-List.map_take, -List.map_drop, -List.map_append, -List.map_reverse]) (Or.inl (by simp [-List.map_take, -List.map_drop, -List.map_append, -List.map_reverse])) ?_
   refine R_mv (@rfl V (V.bool true)) ?_
   exact R_nil ⟨rfl, h2, h3, trivial⟩
  intro T H ⟨t4, h2, h3, _⟩
  refine W_seq_ret ?_
  refine Ret_1 t4 (fz_canon (by simp) rfl)
 simp only [not_or, Decidable.not_not] at c5
 have hv : hval h = 0 := by omega
 have ho : oval o = 0 := by omega
 have hi : h.m.i = o.i := by omega
 have hW : (if h.m.i ≠ o.i then [] else least (rfs h o.tr)) = least (rfs h o.tr) := if_neg (by omega)
 refine W_seq_skip ?_
 refine W_seq_regc (fun T H => T 2 = (V.mp 2 1 0 0) ∧ T 3 = (V.mp 3 1 0 0) ∧ T 5 = (V.sl (List.map cI (if h.m.i ≠ o.i then [] else least (rfs h o.tr)))) ∧ T 6 = (V.bool (decide (h.m.i = o.i ∧ rfs h o.tr ≠ []))) ∧ T 7 = (iV (if h.m.i ≠ o.i then (15 : Int) else 0)) ∧ H 2 = (⟨1, true, false, 26, 5, [[(iV (h.m.i)), (iV (h.m.s)), (V.sl (List.map cL (h.m.nx))), (V.sl (List.map cL (h.m.ot))), (V.sl (List.map cL (h.acc)))]]⟩ : Blk) ∧ H 3 = (⟨1, true, false, 34, 2, [[(iV (o.i)), (V.sl (List.map cT (o.tr)))]]⟩ : Blk) ∧ True) ?_ ?_
 ·
  unfold r7_3
  refine R_load_mp (v := (V.agg [(iV (h.m.i)), (iV (h.m.s)), (V.sl (List.map cL (h.m.nx))), (V.sl (List.map cL (h.m.ot))), (V.sl (List.map cL (h.acc)))])) t2 h2 (by first | rfl | simp [ldB, ldV, Blk.own, V.one]) ?_
  refine R_load_mp (v := (V.agg [(iV (o.i)), (V.sl (List.map cT (o.tr)))])) t3 h3 (by first | rfl | simp [ldB, ldV, Blk.own, V.one]) ?_
  refine R_call (evcons (@rfl V (V.agg [(iV (h.m.i)), (iV (h.m.s)), (V.sl (List.map cL (h.m.nx))), (V.sl (List.map cL (h.m.ot))), (V.sl (List.map cL (h.acc)))])) (evcons (@rfl V (V.agg [(iV (o.i)), (V.sl (List.map cT (o.tr)))])) evnil)) (hrefuted_pure h o hv ho) (fzv_mapcanon _ _ (by simp [-List.map_take, -List.map_drop, -List.map_append, -List.map_reverse])) (by simp [-List.map_take, -List.map_drop, -List.map_append, -List.map_reverse]) (Or.inl (by simp [-List.map_take, -List.map_drop, -List.map_append, -List.map_reverse])) ?_
  refine R_mv (@rfl V (V.tup [(V.sl (List.map cI (if h.m.i ≠ o.i then [] else least (rfs h o.tr)))), (V.bool (decide (h.m.i = o.i ∧ rfs h o.tr ≠ []))), (iV (if h.m.i ≠ o.i then (15 : Int) else 0))])) ?_
  refine R_ext (v := (V.sl (List.map cI (if h.m.i ≠ o.i then [] else least (rfs h o.tr))))) (@rfl V (V.tup [(V.sl (List.map cI (if h.m.i ≠ o.i then [] else least (rfs h o.tr)))), (V.bool (decide (h.m.i = o.i ∧ rfs h o.tr ≠ []))), (iV (if h.m.i ≠ o.i then (15 : Int) else 0))])) rfl ?_
  refine R_ext (v := (V.bool (decide (h.m.i = o.i ∧ rfs h o.tr ≠ [])))) (@rfl V (V.tup [(V.sl (List.map cI (if h.m.i ≠ o.i then [] else least (rfs h o.tr)))), (V.bool (decide (h.m.i = o.i ∧ rfs h o.tr ≠ []))), (iV (if h.m.i ≠ o.i then (15 : Int) else 0))])) rfl ?_
  refine R_ext (v := (iV (if h.m.i ≠ o.i then (15 : Int) else 0))) (@rfl V (V.tup [(V.sl (List.map cI (if h.m.i ≠ o.i then [] else least (rfs h o.tr)))), (V.bool (decide (h.m.i = o.i ∧ rfs h o.tr ≠ []))), (iV (if h.m.i ≠ o.i then (15 : Int) else 0))])) rfl ?_
  refine R_mv (@rfl V (V.sl (List.map cI (if h.m.i ≠ o.i then [] else least (rfs h o.tr))))) ?_
  refine R_mv (@rfl V (V.bool (decide (h.m.i = o.i ∧ rfs h o.tr ≠ [])))) ?_
  refine R_mv (@rfl V (iV (if h.m.i ≠ o.i then (15 : Int) else 0))) ?_
  exact R_nil ⟨t2, t3, rfl, rfl, rfl, h2, h3, trivial⟩
 intro T H ⟨t2, t3, t5, t6, t7, h2, h3, _⟩
 refine W_seq_seq ?_
 refine W_seq_regc (fun T H => T 2 = (V.mp 2 1 0 0) ∧ T 3 = (V.mp 3 1 0 0) ∧ T 5 = (V.sl (List.map cI (if h.m.i ≠ o.i then [] else least (rfs h o.tr)))) ∧ T 6 = (V.bool (decide (h.m.i = o.i ∧ rfs h o.tr ≠ []))) ∧ T 49 = (V.bool (decide ((if h.m.i ≠ o.i then (15 : Int) else 0) ≠ (0 : Int)))) ∧ H 2 = (⟨1, true, false, 26, 5, [[(iV (h.m.i)), (iV (h.m.s)), (V.sl (List.map cL (h.m.nx))), (V.sl (List.map cL (h.m.ot))), (V.sl (List.map cL (h.acc)))]]⟩ : Blk) ∧ H 3 = (⟨1, true, false, 34, 2, [[(iV (o.i)), (V.sl (List.map cT (o.tr)))]]⟩ : Blk) ∧ True) ?_ ?_
 ·
  unfold r7_4
  refine R_mv t7 ?_
  refine R_neq (x := (if h.m.i ≠ o.i then (15 : Int) else 0)) (y := (0 : Int)) (@rfl V (iV (if h.m.i ≠ o.i then (15 : Int) else 0))) (@rfl V (iV (0 : Int))) ?_
  exact R_nil ⟨t2, t3, t5, t6, rfl, h2, h3, trivial⟩
 intro T H ⟨t2, t3, t5, t6, t49, h2, h3, _⟩
 refine W_seq_if (p := (if h.m.i ≠ o.i then (15 : Int) else 0) ≠ (0 : Int)) t49 (fun c6 => ?_) (fun c6 => ?_)
 · exfalso; simp [hi] at c6
 refine W_seq_skip ?_
 refine W_seq_seq ?_
 refine W_seq_regc (fun T H => T 2 = (V.mp 2 1 0 0) ∧ T 3 = (V.mp 3 1 0 0) ∧ T 5 = (V.sl (List.map cI (if h.m.i ≠ o.i then [] else least (rfs h o.tr)))) ∧ T 51 = (V.bool (decide (¬(h.m.i = o.i ∧ rfs h o.tr ≠ [])))) ∧ H 2 = (⟨1, true, false, 26, 5, [[(iV (h.m.i)), (iV (h.m.s)), (V.sl (List.map cL (h.m.nx))), (V.sl (List.map cL (h.m.ot))), (V.sl (List.map cL (h.acc)))]]⟩ : Blk) ∧ H 3 = (⟨1, true, false, 34, 2, [[(iV (o.i)), (V.sl (List.map cT (o.tr)))]]⟩ : Blk) ∧ True) ?_ ?_
 ·
  unfold r7_6
  refine R_mv t6 ?_
  refine R_not (p := h.m.i = o.i ∧ rfs h o.tr ≠ []) (@rfl V (V.bool (decide (h.m.i = o.i ∧ rfs h o.tr ≠ [])))) ?_
  exact R_nil ⟨t2, t3, t5, rfl, h2, h3, trivial⟩
 intro T H ⟨t2, t3, t5, t51, h2, h3, _⟩
 refine W_seq_if (p := ¬(h.m.i = o.i ∧ rfs h o.tr ≠ [])) t51 (fun c7 => ?_) (fun c7 => ?_)
 ·
  have hf : rfs h o.tr = [] := by simpa [hi] using c7
  refine W_seq_seq ?_
  refine W_seq_seq ?_
  refine W_seq_regc (fun T H => T 2 = (V.mp 2 1 0 0) ∧ T 3 = (V.mp 3 1 0 0) ∧ T 5 = (V.sl (List.map cI (if h.m.i ≠ o.i then [] else least (rfs h o.tr)))) ∧ T 8 = (iV (0 : Int)) ∧ H 2 = (⟨1, true, false, 26, 5, [[(iV (h.m.i)), (iV (h.m.s)), (V.sl (List.map cL (h.m.nx))), (V.sl (List.map cL (h.m.ot))), (V.sl (List.map cL (h.acc)))]]⟩ : Blk) ∧ H 3 = (⟨1, true, false, 34, 2, [[(iV (o.i)), (V.sl (List.map cT (o.tr)))]]⟩ : Blk) ∧ True) ?_ ?_
  ·
   unfold r7_7
   refine R_mv (@rfl V (iV (0 : Int))) ?_
   exact R_nil ⟨t2, t3, t5, rfl, h2, h3, trivial⟩
  intro T H ⟨t2, t3, t5, t8, h2, h3, _⟩
  refine W_seq_blockg fun Q8 n8 x8 y8 z8 => ?_
  refine W_loop (fun mm T H => ∃ (k : Nat), mm = o.tr.length - k ∧ T 2 = (V.mp 2 1 0 0) ∧ T 3 = (V.mp 3 1 0 0) ∧ T 5 = (V.sl (List.map cI (if h.m.i ≠ o.i then [] else least (rfs h o.tr)))) ∧ T 8 = (iV ((k : Nat) : Int)) ∧ H 2 = (⟨1, true, false, 26, 5, [[(iV (h.m.i)), (iV (h.m.s)), (V.sl (List.map cL (h.m.nx))), (V.sl (List.map cL (h.m.ot))), (V.sl (List.map cL (h.acc)))]]⟩ : Blk) ∧ H 3 = (⟨1, true, false, 34, 2, [[(iV (o.i)), (V.sl (List.map cT (o.tr)))]]⟩ : Blk) ∧ (k ≤ o.tr.length)) ?_ ?_
  ·
   refine ⟨_, 0, rfl, t2, t3, t5, (Eq.trans t8 (by first | rfl | simp)), h2, h3, ?_⟩
   · omega
  intro mm T H ⟨k, hmm, t2, t3, t5, t8, h2, h3, hk⟩ Q9 p19 p29 p39
  unfold b7_0
  refine W_seq_seq ?_
  refine W_seq_regc (fun T H => T 2 = (V.mp 2 1 0 0) ∧ T 3 = (V.mp 3 1 0 0) ∧ T 5 = (V.sl (List.map cI (if h.m.i ≠ o.i then [] else least (rfs h o.tr)))) ∧ T 8 = (iV ((k : Nat) : Int)) ∧ T 56 = (V.bool (decide (((k : Nat) : Int) < ((o.tr.length : Nat) : Int)))) ∧ H 2 = (⟨1, true, false, 26, 5, [[(iV (h.m.i)), (iV (h.m.s)), (V.sl (List.map cL (h.m.nx))), (V.sl (List.map cL (h.m.ot))), (V.sl (List.map cL (h.acc)))]]⟩ : Blk) ∧ H 3 = (⟨1, true, false, 34, 2, [[(iV (o.i)), (V.sl (List.map cT (o.tr)))]]⟩ : Blk) ∧ True) ?_ ?_
  ·
   unfold r7_8
   refine R_mv t8 ?_
   refine R_fld_mp (o' := 1) t3 h3 (by first | rfl | simp [okB, Blk.own]) rfl ?_
   refine R_load_mp (v := (V.sl (List.map cT (o.tr)))) (@rfl V (V.mp 3 1 0 1)) h3 (by first | rfl | simp [ldB, ldV, Blk.own, V.one]) ?_
   refine R_len (@rfl V (V.sl (List.map cT (o.tr)))) ?_
   refine R_lss (x := ((k : Nat) : Int)) (y := ((o.tr.length : Nat) : Int)) (@rfl V (iV ((k : Nat) : Int))) (@rfl V (iV ((o.tr.length : Nat) : Int))) ?_
   exact R_nil ⟨t2, t3, t5, t8, rfl, h2, h3, trivial⟩
  intro T H ⟨t2, t3, t5, t8, t56, h2, h3, _⟩
  refine W_seq_if (p := ((k : Nat) : Int) < ((o.tr.length : Nat) : Int)) t56 (fun c10 => ?_) (fun c10 => ?_)
  ·
   refine W_seq_skip ?_
   refine W_seq_blockg fun Q11 n11 x11 y11 z11 => ?_
   refine W_seq_regc (fun T H => T 2 = (V.mp 2 1 0 0) ∧ T 3 = (V.mp 3 1 0 0) ∧ T 5 = (V.sl (List.map cI (if h.m.i ≠ o.i then [] else least (rfs h o.tr)))) ∧ T 8 = (iV ((k : Nat) : Int)) ∧ T 9 = (V.sl (List.map cI (frOut h.m h.m.s ((nth (o.tr) (k)).ni)))) ∧ T 10 = (iV (frE h.m h.m.s ((nth (o.tr) (k)).ni))) ∧ H 2 = (⟨1, true, false, 26, 5, [[(iV (h.m.i)), (iV (h.m.s)), (V.sl (List.map cL (h.m.nx))), (V.sl (List.map cL (h.m.ot))), (V.sl (List.map cL (h.acc)))]]⟩ : Blk) ∧ H 3 = (⟨1, true, false, 34, 2, [[(iV (o.i)), (V.sl (List.map cT (o.tr)))]]⟩ : Blk) ∧ True) ?_ ?_
   ·
    unfold r7_10
    refine R_fld_mp (o' := 0) t2 h2 (by first | rfl | simp [okB, Blk.own]) rfl ?_
    refine R_load_mp (v := (V.agg [(iV (h.m.i)), (iV (h.m.s)), (V.sl (List.map cL (h.m.nx))), (V.sl (List.map cL (h.m.ot)))])) (@rfl V (V.mp 2 1 0 0)) h2 (by first | rfl | simp [ldB, ldV, Blk.own, V.one]) ?_
    refine R_fld_mp (o' := 1) t3 h3 (by first | rfl | simp [okB, Blk.own]) rfl ?_
    refine R_load_mp (v := (V.sl (List.map cT (o.tr)))) (@rfl V (V.mp 3 1 0 1)) h3 (by first | rfl | simp [ldB, ldV, Blk.own, V.one]) ?_
    refine R_mv t8 ?_
    refine R_idx (i := k) (@rfl V (V.sl (List.map cT (o.tr)))) (@rfl V (iV ((k : Nat) : Int))) (by omega) rfl ?_
    refine R_fld_pp (cs' := [(V.sl (List.map cI ((nth (o.tr) (k)).ni))), (V.sl (List.map cI ((nth (o.tr) (k)).no)))]) (@rfl V (V.pp [(V.sl (List.map cI ((nth (o.tr) (k)).ni))), (V.sl (List.map cI ((nth (o.tr) (k)).no)))])) rfl ?_
    refine R_load_pp (v := (V.sl (List.map cI ((nth (o.tr) (k)).ni)))) (@rfl V (V.pp [(V.sl (List.map cI ((nth (o.tr) (k)).ni))), (V.sl (List.map cI ((nth (o.tr) (k)).no)))])) (by first | rfl | simp [ldV]) ?_
    refine R_call (evcons (@rfl V (V.agg [(iV (h.m.i)), (iV (h.m.s)), (V.sl (List.map cL (h.m.nx))), (V.sl (List.map cL (h.m.ot)))])) (evcons (@rfl V (V.sl (List.map cI ((nth (o.tr) (k)).ni)))) evnil)) (mrun_pure h.m ((nth (o.tr) (k)).ni)) (fzv_mapcanon _ _ (by simp [-List.map_take, -List.map_drop, -List.map_append, -List.map_reverse])) (by simp [-List.map_take, -List.map_drop, -List.map_append, -List.map_reverse]) (Or.inl (by simp [-List.map_take, -List.map_drop, -List.map_append, -List.map_reverse])) ?_
    refine R_mv (@rfl V (V.tup [(V.sl (List.map cI (frOut h.m h.m.s ((nth (o.tr) (k)).ni)))), (iV (frE h.m h.m.s ((nth (o.tr) (k)).ni)))])) ?_
    refine R_ext (v := (V.sl (List.map cI (frOut h.m h.m.s ((nth (o.tr) (k)).ni))))) (@rfl V (V.tup [(V.sl (List.map cI (frOut h.m h.m.s ((nth (o.tr) (k)).ni)))), (iV (frE h.m h.m.s ((nth (o.tr) (k)).ni)))])) rfl ?_
    refine R_ext (v := (iV (frE h.m h.m.s ((nth (o.tr) (k)).ni)))) (@rfl V (V.tup [(V.sl (List.map cI (frOut h.m h.m.s ((nth (o.tr) (k)).ni)))), (iV (frE h.m h.m.s ((nth (o.tr) (k)).ni)))])) rfl ?_
    refine R_mv (@rfl V (V.sl (List.map cI (frOut h.m h.m.s ((nth (o.tr) (k)).ni))))) ?_
    refine R_mv (@rfl V (iV (frE h.m h.m.s ((nth (o.tr) (k)).ni)))) ?_
    exact R_nil ⟨t2, t3, t5, t8, rfl, rfl, h2, h3, trivial⟩
   intro T H ⟨t2, t3, t5, t8, t9, t10, h2, h3, _⟩
   refine W_seq_regc (fun T H => T 2 = (V.mp 2 1 0 0) ∧ T 3 = (V.mp 3 1 0 0) ∧ T 5 = (V.sl (List.map cI (if h.m.i ≠ o.i then [] else least (rfs h o.tr)))) ∧ T 8 = (iV ((k : Nat) : Int)) ∧ T 83 = (V.bool (decide (((frE h.m h.m.s ((nth (o.tr) (k)).ni)) ≠ (0 : Int)) ∨ (¬((frOut h.m h.m.s ((nth (o.tr) (k)).ni)) = ((nth (o.tr) (k)).no)))))) ∧ H 2 = (⟨1, true, false, 26, 5, [[(iV (h.m.i)), (iV (h.m.s)), (V.sl (List.map cL (h.m.nx))), (V.sl (List.map cL (h.m.ot))), (V.sl (List.map cL (h.acc)))]]⟩ : Blk) ∧ H 3 = (⟨1, true, false, 34, 2, [[(iV (o.i)), (V.sl (List.map cT (o.tr)))]]⟩ : Blk) ∧ True) ?_ ?_
   ·
    unfold r7_11
    refine R_mv t10 ?_
    refine R_neq (x := (frE h.m h.m.s ((nth (o.tr) (k)).ni))) (y := (0 : Int)) (@rfl V (iV (frE h.m h.m.s ((nth (o.tr) (k)).ni)))) (@rfl V (iV (0 : Int))) ?_
    refine R_mv (@rfl V (V.bool (decide ((frE h.m h.m.s ((nth (o.tr) (k)).ni)) ≠ (0 : Int))))) ?_
    refine Ops_seg 10 (fun T H => T 2 = (V.mp 2 1 0 0) ∧ T 3 = (V.mp 3 1 0 0) ∧ T 5 = (V.sl (List.map cI (if h.m.i ≠ o.i then [] else least (rfs h o.tr)))) ∧ T 8 = (iV ((k : Nat) : Int)) ∧ T 83 = (V.bool (decide (((frE h.m h.m.s ((nth (o.tr) (k)).ni)) ≠ (0 : Int)) ∨ (¬((frOut h.m h.m.s ((nth (o.tr) (k)).ni)) = ((nth (o.tr) (k)).no)))))) ∧ H 2 = (⟨1, true, false, 26, 5, [[(iV (h.m.i)), (iV (h.m.s)), (V.sl (List.map cL (h.m.nx))), (V.sl (List.map cL (h.m.ot))), (V.sl (List.map cL (h.acc)))]]⟩ : Blk) ∧ H 3 = (⟨1, true, false, 34, 2, [[(iV (o.i)), (V.sl (List.map cT (o.tr)))]]⟩ : Blk) ∧ True) ?_ ?_
    ·
     by_cases g12 : (frE h.m h.m.s ((nth (o.tr) (k)).ni)) ≠ (0 : Int)
     ·
      refine G_no (Eq.trans (@rfl V (V.bool (decide ((frE h.m h.m.s ((nth (o.tr) (k)).ni)) ≠ (0 : Int))))) (bdT g12)) (by decide) ?_
      refine G_no (Eq.trans (@rfl V (V.bool (decide ((frE h.m h.m.s ((nth (o.tr) (k)).ni)) ≠ (0 : Int))))) (bdT g12)) (by decide) ?_
      refine G_no (Eq.trans (@rfl V (V.bool (decide ((frE h.m h.m.s ((nth (o.tr) (k)).ni)) ≠ (0 : Int))))) (bdT g12)) (by decide) ?_
      refine G_no (Eq.trans (@rfl V (V.bool (decide ((frE h.m h.m.s ((nth (o.tr) (k)).ni)) ≠ (0 : Int))))) (bdT g12)) (by decide) ?_
      refine G_no (Eq.trans (@rfl V (V.bool (decide ((frE h.m h.m.s ((nth (o.tr) (k)).ni)) ≠ (0 : Int))))) (bdT g12)) (by decide) ?_
      refine G_no (Eq.trans (@rfl V (V.bool (decide ((frE h.m h.m.s ((nth (o.tr) (k)).ni)) ≠ (0 : Int))))) (bdT g12)) (by decide) ?_
      refine G_no (Eq.trans (@rfl V (V.bool (decide ((frE h.m h.m.s ((nth (o.tr) (k)).ni)) ≠ (0 : Int))))) (bdT g12)) (by decide) ?_
      refine G_no (Eq.trans (@rfl V (V.bool (decide ((frE h.m h.m.s ((nth (o.tr) (k)).ni)) ≠ (0 : Int))))) (bdT g12)) (by decide) ?_
      refine G_no (Eq.trans (@rfl V (V.bool (decide ((frE h.m h.m.s ((nth (o.tr) (k)).ni)) ≠ (0 : Int))))) (bdT g12)) (by decide) ?_
      refine R_pickT (Eq.trans (@rfl V (V.bool (decide ((frE h.m h.m.s ((nth (o.tr) (k)).ni)) ≠ (0 : Int))))) (bdT g12)) (@rfl V (V.bool true)) ?_
      exact ⟨t2, t3, t5, t8, (Eq.trans (@rfl V (V.bool true)) (dec_orT g12)), h2, h3, trivial⟩
     ·
      refine G_yes (Eq.trans (@rfl V (V.bool (decide ((frE h.m h.m.s ((nth (o.tr) (k)).ni)) ≠ (0 : Int))))) (bdF g12)) ?_
      refine R_mv t9 ?_
      refine G_yes (Eq.trans (@rfl V (V.bool (decide ((frE h.m h.m.s ((nth (o.tr) (k)).ni)) ≠ (0 : Int))))) (bdF g12)) ?_
      refine R_fld_mp (o' := 1) t3 h3 (by first | rfl | simp [okB, Blk.own]) rfl ?_
      refine G_yes (Eq.trans (@rfl V (V.bool (decide ((frE h.m h.m.s ((nth (o.tr) (k)).ni)) ≠ (0 : Int))))) (bdF g12)) ?_
      refine R_load_mp (v := (V.sl (List.map cT (o.tr)))) (@rfl V (V.mp 3 1 0 1)) h3 (by first | rfl | simp [ldB, ldV, Blk.own, V.one]) ?_
      refine G_yes (Eq.trans (@rfl V (V.bool (decide ((frE h.m h.m.s ((nth (o.tr) (k)).ni)) ≠ (0 : Int))))) (bdF g12)) ?_
      refine R_mv t8 ?_
      refine G_yes (Eq.trans (@rfl V (V.bool (decide ((frE h.m h.m.s ((nth (o.tr) (k)).ni)) ≠ (0 : Int))))) (bdF g12)) ?_
      refine R_idx (i := k) (@rfl V (V.sl (List.map cT (o.tr)))) (@rfl V (iV ((k : Nat) : Int))) (by omega) rfl ?_
      refine G_yes (Eq.trans (@rfl V (V.bool (decide ((frE h.m h.m.s ((nth (o.tr) (k)).ni)) ≠ (0 : Int))))) (bdF g12)) ?_
      refine R_fld_pp (cs' := [(V.sl (List.map cI ((nth (o.tr) (k)).no)))]) (@rfl V (V.pp [(V.sl (List.map cI ((nth (o.tr) (k)).ni))), (V.sl (List.map cI ((nth (o.tr) (k)).no)))])) rfl ?_
      refine G_yes (Eq.trans (@rfl V (V.bool (decide ((frE h.m h.m.s ((nth (o.tr) (k)).ni)) ≠ (0 : Int))))) (bdF g12)) ?_
      refine R_load_pp (v := (V.sl (List.map cI ((nth (o.tr) (k)).no)))) (@rfl V (V.pp [(V.sl (List.map cI ((nth (o.tr) (k)).no)))])) (by first | rfl | simp [ldV]) ?_
      refine G_yes (Eq.trans (@rfl V (V.bool (decide ((frE h.m h.m.s ((nth (o.tr) (k)).ni)) ≠ (0 : Int))))) (bdF g12)) ?_
      refine R_call (evcons (@rfl V (V.sl (List.map cI (frOut h.m h.m.s ((nth (o.tr) (k)).ni))))) (evcons (@rfl V (V.sl (List.map cI ((nth (o.tr) (k)).no)))) evnil)) (ints_pure (frOut h.m h.m.s ((nth (o.tr) (k)).ni)) ((nth (o.tr) (k)).no)) (fzv_mapcanon _ _ (by simp [-List.map_take, -List.map_drop, -List.map_append, -List.map_reverse])) (by simp [-List.map_take, -List.map_drop, -List.map_append, -List.map_reverse]) (Or.inl (by simp [-List.map_take, -List.map_drop, -List.map_append, -List.map_reverse])) ?_
      refine G_yes (Eq.trans (@rfl V (V.bool (decide ((frE h.m h.m.s ((nth (o.tr) (k)).ni)) ≠ (0 : Int))))) (bdF g12)) ?_
      refine R_not (p := (frOut h.m h.m.s ((nth (o.tr) (k)).ni)) = ((nth (o.tr) (k)).no)) (@rfl V (V.bool (decide ((frOut h.m h.m.s ((nth (o.tr) (k)).ni)) = ((nth (o.tr) (k)).no))))) ?_
      refine R_pickF (Eq.trans (@rfl V (V.bool (decide ((frE h.m h.m.s ((nth (o.tr) (k)).ni)) ≠ (0 : Int))))) (bdF g12)) (@rfl V (V.bool (decide (¬((frOut h.m h.m.s ((nth (o.tr) (k)).ni)) = ((nth (o.tr) (k)).no)))))) ?_
      exact ⟨t2, t3, t5, t8, (Eq.trans (@rfl V (V.bool (decide (¬((frOut h.m h.m.s ((nth (o.tr) (k)).ni)) = ((nth (o.tr) (k)).no)))))) (dec_orF g12)), h2, h3, trivial⟩
    intro T H ⟨t2, t3, t5, t8, t83, h2, h3, _⟩
    exact R_nil ⟨t2, t3, t5, t8, t83, h2, h3, trivial⟩
   intro T H ⟨t2, t3, t5, t8, t83, h2, h3, _⟩
   refine W_if (p := ((frE h.m h.m.s ((nth (o.tr) (k)).ni)) ≠ (0 : Int)) ∨ (¬((frOut h.m h.m.s ((nth (o.tr) (k)).ni)) = ((nth (o.tr) (k)).no)))) t83 (fun c13 => ?_) (fun c13 => ?_)
   · exfalso; have g := agree_ok hv ho hi hf (k := k) (by omega); simp [g.1, g.2] at c13
   refine W_skip ?_
   refine n11 _ _ ?_
   refine .done ?_
   refine W_regc (fun T H => T 2 = (V.mp 2 1 0 0) ∧ T 3 = (V.mp 3 1 0 0) ∧ T 5 = (V.sl (List.map cI (if h.m.i ≠ o.i then [] else least (rfs h o.tr)))) ∧ T 8 = (iV ((k + 1 : Nat) : Int)) ∧ H 2 = (⟨1, true, false, 26, 5, [[(iV (h.m.i)), (iV (h.m.s)), (V.sl (List.map cL (h.m.nx))), (V.sl (List.map cL (h.m.ot))), (V.sl (List.map cL (h.acc)))]]⟩ : Blk) ∧ H 3 = (⟨1, true, false, 34, 2, [[(iV (o.i)), (V.sl (List.map cT (o.tr)))]]⟩ : Blk) ∧ True) ?_ ?_
   ·
    unfold r7_9
    refine R_mv t8 ?_
    refine R_addN (m := k) (n := 1) (@rfl V (iV ((k : Nat) : Int))) (@rfl V (iV ((1 : Nat) : Int))) (by omega) ?_
    refine R_mv (@rfl V (iV ((k + 1 : Nat) : Int))) ?_
    exact R_nil ⟨t2, t3, t5, rfl, h2, h3, trivial⟩
   intro T H ⟨t2, t3, t5, t8, h2, h3, _⟩
   refine p19 _ _ _ ?_ ⟨(k + 1), rfl, t2, t3, t5, (Eq.trans t8 (by first | rfl | simp)), h2, h3, ?_⟩
   · omega
   · omega
  refine W_seq_exit ?_
  refine p39 _ _ _ ?_
  refine x8 _ _ ?_
  refine .done ?_
  refine W_seq_seq ?_
  refine W_seq_regc (fun T H => T 4 = (V.bool (decide ((((if h.m.i ≠ o.i then [] else least (rfs h o.tr)).length : Nat) : Int) = (0 : Int)))) ∧ H 2 = (⟨1, true, false, 26, 5, [[(iV (h.m.i)), (iV (h.m.s)), (V.sl (List.map cL (h.m.nx))), (V.sl (List.map cL (h.m.ot))), (V.sl (List.map cL (h.acc)))]]⟩ : Blk) ∧ H 3 = (⟨1, true, false, 34, 2, [[(iV (o.i)), (V.sl (List.map cT (o.tr)))]]⟩ : Blk) ∧ True) ?_ ?_
  ·
   unfold r7_13
   refine R_mv t5 ?_
   refine R_len (@rfl V (V.sl (List.map cI (if h.m.i ≠ o.i then [] else least (rfs h o.tr))))) ?_
   refine R_eql (x := (((if h.m.i ≠ o.i then [] else least (rfs h o.tr)).length : Nat) : Int)) (y := (0 : Int)) (@rfl V (iV (((if h.m.i ≠ o.i then [] else least (rfs h o.tr)).length : Nat) : Int))) (@rfl V (iV (0 : Int))) ?_
   refine R_mv (@rfl V (V.bool (decide ((((if h.m.i ≠ o.i then [] else least (rfs h o.tr)).length : Nat) : Int) = (0 : Int))))) ?_
   refine Ops_seg 2 (fun T H => T 89 = (V.bool (decide ((((if h.m.i ≠ o.i then [] else least (rfs h o.tr)).length : Nat) : Int) = (0 : Int)))) ∧ H 2 = (⟨1, true, false, 26, 5, [[(iV (h.m.i)), (iV (h.m.s)), (V.sl (List.map cL (h.m.nx))), (V.sl (List.map cL (h.m.ot))), (V.sl (List.map cL (h.acc)))]]⟩ : Blk) ∧ H 3 = (⟨1, true, false, 34, 2, [[(iV (o.i)), (V.sl (List.map cT (o.tr)))]]⟩ : Blk) ∧ True) ?_ ?_
   ·
    by_cases g14 : (((if h.m.i ≠ o.i then [] else least (rfs h o.tr)).length : Nat) : Int) = (0 : Int)
    ·
     refine G_yes (Eq.trans (@rfl V (V.bool (decide ((((if h.m.i ≠ o.i then [] else least (rfs h o.tr)).length : Nat) : Int) = (0 : Int))))) (bdT g14)) ?_
     refine R_call evnil (aw_learnerlaw22_awake_pure) (fzv_mapcanon _ _ (by simp [-List.map_take, -List.map_drop, -List.map_append, -List.map_reverse])) (by simp [-List.map_take, -List.map_drop, -List.map_append, -List.map_reverse]) (Or.inl (by simp [-List.map_take, -List.map_drop, -List.map_append, -List.map_reverse])) ?_
     refine R_pickT (Eq.trans (@rfl V (V.bool (decide ((((if h.m.i ≠ o.i then [] else least (rfs h o.tr)).length : Nat) : Int) = (0 : Int))))) (bdT g14)) (@rfl V (V.bool true)) ?_
     exact ⟨(Eq.trans (@rfl V (V.bool true)) (dec_T g14)), h2, h3, trivial⟩
    ·
     refine G_no (Eq.trans (@rfl V (V.bool (decide ((((if h.m.i ≠ o.i then [] else least (rfs h o.tr)).length : Nat) : Int) = (0 : Int))))) (bdF g14)) (by decide) ?_
     refine R_pickF (Eq.trans (@rfl V (V.bool (decide ((((if h.m.i ≠ o.i then [] else least (rfs h o.tr)).length : Nat) : Int) = (0 : Int))))) (bdF g14)) (@rfl V (V.bool false)) ?_
     exact ⟨(Eq.trans (@rfl V (V.bool false)) (dec_F g14)), h2, h3, trivial⟩
   intro T H ⟨t89, h2, h3, _⟩
   refine R_mv t89 ?_
   exact R_nil ⟨rfl, h2, h3, trivial⟩
  intro T H ⟨t4, h2, h3, _⟩
  refine W_seq_ret ?_
  refine Ret_1 t4 (fz_bool ?_)
  · rw [hW, hf]; simp [least]
 have hk := counter_ok hv ho hi (by simpa [hi] using c7)
 rw [← hW] at hk
 obtain ⟨n0, q0, q1, q2, q3, q4, q5, q6, q7⟩ := hk
 refine W_seq_skip ?_
 refine W_seq_regc (fun T H => T 2 = (V.mp 2 1 0 0) ∧ T 5 = (V.sl (List.map cI (if h.m.i ≠ o.i then [] else least (rfs h o.tr)))) ∧ T 11 = (V.sl (List.map cI ((ans o (if h.m.i ≠ o.i then [] else least (rfs h o.tr))).getD []))) ∧ T 12 = (V.bool ((ans o (if h.m.i ≠ o.i then [] else least (rfs h o.tr))).isSome)) ∧ H 2 = (⟨1, true, false, 26, 5, [[(iV (h.m.i)), (iV (h.m.s)), (V.sl (List.map cL (h.m.nx))), (V.sl (List.map cL (h.m.ot))), (V.sl (List.map cL (h.acc)))]]⟩ : Blk) ∧ H 3 = (⟨1, true, false, 34, 2, [[(iV (o.i)), (V.sl (List.map cT (o.tr)))]]⟩ : Blk) ∧ True) ?_ ?_
 ·
  unfold r7_14
  refine R_load_mp (v := (V.agg [(iV (o.i)), (V.sl (List.map cT (o.tr)))])) t3 h3 (by first | rfl | simp [ldB, ldV, Blk.own, V.one]) ?_
  refine R_mv t5 ?_
  refine R_call (evcons (@rfl V (V.agg [(iV (o.i)), (V.sl (List.map cT (o.tr)))])) (evcons (@rfl V (V.sl (List.map cI (if h.m.i ≠ o.i then [] else least (rfs h o.tr))))) evnil)) (answer_pure o (if h.m.i ≠ o.i then [] else least (rfs h o.tr)) ho) (fzv_mapcanon _ _ (by simp [-List.map_take, -List.map_drop, -List.map_append, -List.map_reverse])) (by simp [-List.map_take, -List.map_drop, -List.map_append, -List.map_reverse]) (Or.inl (by simp [-List.map_take, -List.map_drop, -List.map_append, -List.map_reverse])) ?_
  refine R_mv (@rfl V (V.tup [(V.sl (List.map cI ((ans o (if h.m.i ≠ o.i then [] else least (rfs h o.tr))).getD []))), (V.bool ((ans o (if h.m.i ≠ o.i then [] else least (rfs h o.tr))).isSome))])) ?_
  refine R_ext (v := (V.sl (List.map cI ((ans o (if h.m.i ≠ o.i then [] else least (rfs h o.tr))).getD [])))) (@rfl V (V.tup [(V.sl (List.map cI ((ans o (if h.m.i ≠ o.i then [] else least (rfs h o.tr))).getD []))), (V.bool ((ans o (if h.m.i ≠ o.i then [] else least (rfs h o.tr))).isSome))])) rfl ?_
  refine R_ext (v := (V.bool ((ans o (if h.m.i ≠ o.i then [] else least (rfs h o.tr))).isSome))) (@rfl V (V.tup [(V.sl (List.map cI ((ans o (if h.m.i ≠ o.i then [] else least (rfs h o.tr))).getD []))), (V.bool ((ans o (if h.m.i ≠ o.i then [] else least (rfs h o.tr))).isSome))])) rfl ?_
  refine R_mv (@rfl V (V.sl (List.map cI ((ans o (if h.m.i ≠ o.i then [] else least (rfs h o.tr))).getD [])))) ?_
  refine R_mv (@rfl V (V.bool ((ans o (if h.m.i ≠ o.i then [] else least (rfs h o.tr))).isSome))) ?_
  exact R_nil ⟨t2, t5, rfl, rfl, h2, h3, trivial⟩
 intro T H ⟨t2, t5, t11, t12, h2, h3, _⟩
 refine W_seq_regc (fun T H => T 5 = (V.sl (List.map cI (if h.m.i ≠ o.i then [] else least (rfs h o.tr)))) ∧ T 11 = (V.sl (List.map cI ((ans o (if h.m.i ≠ o.i then [] else least (rfs h o.tr))).getD []))) ∧ T 12 = (V.bool ((ans o (if h.m.i ≠ o.i then [] else least (rfs h o.tr))).isSome)) ∧ T 13 = (V.sl (List.map cI (frOut h.m h.m.s (if h.m.i ≠ o.i then [] else least (rfs h o.tr))))) ∧ T 14 = (iV (frE h.m h.m.s (if h.m.i ≠ o.i then [] else least (rfs h o.tr)))) ∧ H 2 = (⟨1, true, false, 26, 5, [[(iV (h.m.i)), (iV (h.m.s)), (V.sl (List.map cL (h.m.nx))), (V.sl (List.map cL (h.m.ot))), (V.sl (List.map cL (h.acc)))]]⟩ : Blk) ∧ H 3 = (⟨1, true, false, 34, 2, [[(iV (o.i)), (V.sl (List.map cT (o.tr)))]]⟩ : Blk) ∧ True) ?_ ?_
 ·
  unfold r7_15
  refine R_fld_mp (o' := 0) t2 h2 (by first | rfl | simp [okB, Blk.own]) rfl ?_
  refine R_load_mp (v := (V.agg [(iV (h.m.i)), (iV (h.m.s)), (V.sl (List.map cL (h.m.nx))), (V.sl (List.map cL (h.m.ot)))])) (@rfl V (V.mp 2 1 0 0)) h2 (by first | rfl | simp [ldB, ldV, Blk.own, V.one]) ?_
  refine R_mv t5 ?_
  refine R_call (evcons (@rfl V (V.agg [(iV (h.m.i)), (iV (h.m.s)), (V.sl (List.map cL (h.m.nx))), (V.sl (List.map cL (h.m.ot)))])) (evcons (@rfl V (V.sl (List.map cI (if h.m.i ≠ o.i then [] else least (rfs h o.tr))))) evnil)) (mrun_pure h.m (if h.m.i ≠ o.i then [] else least (rfs h o.tr))) (fzv_mapcanon _ _ (by simp [-List.map_take, -List.map_drop, -List.map_append, -List.map_reverse])) (by simp [-List.map_take, -List.map_drop, -List.map_append, -List.map_reverse]) (Or.inl (by simp [-List.map_take, -List.map_drop, -List.map_append, -List.map_reverse])) ?_
  refine R_mv (@rfl V (V.tup [(V.sl (List.map cI (frOut h.m h.m.s (if h.m.i ≠ o.i then [] else least (rfs h o.tr))))), (iV (frE h.m h.m.s (if h.m.i ≠ o.i then [] else least (rfs h o.tr))))])) ?_
  refine R_ext (v := (V.sl (List.map cI (frOut h.m h.m.s (if h.m.i ≠ o.i then [] else least (rfs h o.tr)))))) (@rfl V (V.tup [(V.sl (List.map cI (frOut h.m h.m.s (if h.m.i ≠ o.i then [] else least (rfs h o.tr))))), (iV (frE h.m h.m.s (if h.m.i ≠ o.i then [] else least (rfs h o.tr))))])) rfl ?_
  refine R_ext (v := (iV (frE h.m h.m.s (if h.m.i ≠ o.i then [] else least (rfs h o.tr))))) (@rfl V (V.tup [(V.sl (List.map cI (frOut h.m h.m.s (if h.m.i ≠ o.i then [] else least (rfs h o.tr))))), (iV (frE h.m h.m.s (if h.m.i ≠ o.i then [] else least (rfs h o.tr))))])) rfl ?_
  refine R_mv (@rfl V (V.sl (List.map cI (frOut h.m h.m.s (if h.m.i ≠ o.i then [] else least (rfs h o.tr)))))) ?_
  refine R_mv (@rfl V (iV (frE h.m h.m.s (if h.m.i ≠ o.i then [] else least (rfs h o.tr))))) ?_
  exact R_nil ⟨t5, t11, t12, rfl, rfl, h2, h3, trivial⟩
 intro T H ⟨t5, t11, t12, t13, t14, h2, h3, _⟩
 refine W_seq_regc (fun T H => T 11 = (V.sl (List.map cI ((ans o (if h.m.i ≠ o.i then [] else least (rfs h o.tr))).getD []))) ∧ T 12 = (V.bool ((ans o (if h.m.i ≠ o.i then [] else least (rfs h o.tr))).isSome)) ∧ T 13 = (V.sl (List.map cI (frOut h.m h.m.s (if h.m.i ≠ o.i then [] else least (rfs h o.tr))))) ∧ T 14 = (iV (frE h.m h.m.s (if h.m.i ≠ o.i then [] else least (rfs h o.tr)))) ∧ T 15 = (iV (((if h.m.i ≠ o.i then [] else least (rfs h o.tr)).length : Nat) : Int)) ∧ H 2 = (⟨1, true, false, 26, 5, [[(iV (h.m.i)), (iV (h.m.s)), (V.sl (List.map cL (h.m.nx))), (V.sl (List.map cL (h.m.ot))), (V.sl (List.map cL (h.acc)))]]⟩ : Blk) ∧ H 3 = (⟨1, true, false, 34, 2, [[(iV (o.i)), (V.sl (List.map cT (o.tr)))]]⟩ : Blk) ∧ True) ?_ ?_
 ·
  unfold r7_16
  refine R_mv t5 ?_
  refine R_len (@rfl V (V.sl (List.map cI (if h.m.i ≠ o.i then [] else least (rfs h o.tr))))) ?_
  refine R_mv (@rfl V (iV (((if h.m.i ≠ o.i then [] else least (rfs h o.tr)).length : Nat) : Int))) ?_
  exact R_nil ⟨t11, t12, t13, t14, rfl, h2, h3, trivial⟩
 intro T H ⟨t11, t12, t13, t14, t15, h2, h3, _⟩
 refine W_seq_seq ?_
 refine W_seq_regc (fun T H => T 11 = (V.sl (List.map cI ((ans o (if h.m.i ≠ o.i then [] else least (rfs h o.tr))).getD []))) ∧ T 13 = (V.sl (List.map cI (frOut h.m h.m.s (if h.m.i ≠ o.i then [] else least (rfs h o.tr))))) ∧ T 15 = (iV (((if h.m.i ≠ o.i then [] else least (rfs h o.tr)).length : Nat) : Int)) ∧ T 126 = (V.bool ((((((((((!(ans o (if h.m.i ≠ o.i then [] else least (rfs h o.tr))).isSome)) || decide ((frE h.m h.m.s (if h.m.i ≠ o.i then [] else least (rfs h o.tr))) ≠ (0 : Int)))) || decide ((((if h.m.i ≠ o.i then [] else least (rfs h o.tr)).length : Nat) : Int) = (0 : Int)))) || decide (((((ans o (if h.m.i ≠ o.i then [] else least (rfs h o.tr))).getD []).length : Nat) : Int) ≠ (((if h.m.i ≠ o.i then [] else least (rfs h o.tr)).length : Nat) : Int)))) || decide ((((frOut h.m h.m.s (if h.m.i ≠ o.i then [] else least (rfs h o.tr))).length : Nat) : Int) ≠ (((if h.m.i ≠ o.i then [] else least (rfs h o.tr)).length : Nat) : Int))))) ∧ H 2 = (⟨1, true, false, 26, 5, [[(iV (h.m.i)), (iV (h.m.s)), (V.sl (List.map cL (h.m.nx))), (V.sl (List.map cL (h.m.ot))), (V.sl (List.map cL (h.acc)))]]⟩ : Blk) ∧ H 3 = (⟨1, true, false, 34, 2, [[(iV (o.i)), (V.sl (List.map cT (o.tr)))]]⟩ : Blk) ∧ True) ?_ ?_
 ·
  unfold r7_17
  refine R_mv t12 ?_
  refine R_notb (@rfl V (V.bool ((ans o (if h.m.i ≠ o.i then [] else least (rfs h o.tr))).isSome))) ?_
  refine R_mv (@rfl V (V.bool ((!(ans o (if h.m.i ≠ o.i then [] else least (rfs h o.tr))).isSome)))) ?_
  refine Ops_seg 3 (fun T H => T 11 = (V.sl (List.map cI ((ans o (if h.m.i ≠ o.i then [] else least (rfs h o.tr))).getD []))) ∧ T 13 = (V.sl (List.map cI (frOut h.m h.m.s (if h.m.i ≠ o.i then [] else least (rfs h o.tr))))) ∧ T 15 = (iV (((if h.m.i ≠ o.i then [] else least (rfs h o.tr)).length : Nat) : Int)) ∧ T 110 = (V.bool ((((!(ans o (if h.m.i ≠ o.i then [] else least (rfs h o.tr))).isSome)) || decide ((frE h.m h.m.s (if h.m.i ≠ o.i then [] else least (rfs h o.tr))) ≠ (0 : Int))))) ∧ H 2 = (⟨1, true, false, 26, 5, [[(iV (h.m.i)), (iV (h.m.s)), (V.sl (List.map cL (h.m.nx))), (V.sl (List.map cL (h.m.ot))), (V.sl (List.map cL (h.acc)))]]⟩ : Blk) ∧ H 3 = (⟨1, true, false, 34, 2, [[(iV (o.i)), (V.sl (List.map cT (o.tr)))]]⟩ : Blk) ∧ True) ?_ ?_
  ·
   by_cases g15 : ((!(ans o (if h.m.i ≠ o.i then [] else least (rfs h o.tr))).isSome)) = true
   ·
    refine G_no (Eq.trans (@rfl V (V.bool ((!(ans o (if h.m.i ≠ o.i then [] else least (rfs h o.tr))).isSome)))) (bbT g15)) (by decide) ?_
    refine G_no (Eq.trans (@rfl V (V.bool ((!(ans o (if h.m.i ≠ o.i then [] else least (rfs h o.tr))).isSome)))) (bbT g15)) (by decide) ?_
    refine R_pickT (Eq.trans (@rfl V (V.bool ((!(ans o (if h.m.i ≠ o.i then [] else least (rfs h o.tr))).isSome)))) (bbT g15)) (@rfl V (V.bool true)) ?_
    exact ⟨t11, t13, t15, (Eq.trans (@rfl V (V.bool true)) (borT g15)), h2, h3, trivial⟩
   ·
    refine G_yes (Eq.trans (@rfl V (V.bool ((!(ans o (if h.m.i ≠ o.i then [] else least (rfs h o.tr))).isSome)))) (bbF g15)) ?_
    refine R_mv t14 ?_
    refine G_yes (Eq.trans (@rfl V (V.bool ((!(ans o (if h.m.i ≠ o.i then [] else least (rfs h o.tr))).isSome)))) (bbF g15)) ?_
    refine R_neq (x := (frE h.m h.m.s (if h.m.i ≠ o.i then [] else least (rfs h o.tr)))) (y := (0 : Int)) (@rfl V (iV (frE h.m h.m.s (if h.m.i ≠ o.i then [] else least (rfs h o.tr))))) (@rfl V (iV (0 : Int))) ?_
    refine R_pickF (Eq.trans (@rfl V (V.bool ((!(ans o (if h.m.i ≠ o.i then [] else least (rfs h o.tr))).isSome)))) (bbF g15)) (@rfl V (V.bool (decide ((frE h.m h.m.s (if h.m.i ≠ o.i then [] else least (rfs h o.tr))) ≠ (0 : Int))))) ?_
    exact ⟨t11, t13, t15, (Eq.trans (@rfl V (V.bool (decide ((frE h.m h.m.s (if h.m.i ≠ o.i then [] else least (rfs h o.tr))) ≠ (0 : Int))))) (borF g15)), h2, h3, trivial⟩
  intro T H ⟨t11, t13, t15, t110, h2, h3, _⟩
  refine R_mv t110 ?_
  refine Ops_seg 3 (fun T H => T 11 = (V.sl (List.map cI ((ans o (if h.m.i ≠ o.i then [] else least (rfs h o.tr))).getD []))) ∧ T 13 = (V.sl (List.map cI (frOut h.m h.m.s (if h.m.i ≠ o.i then [] else least (rfs h o.tr))))) ∧ T 15 = (iV (((if h.m.i ≠ o.i then [] else least (rfs h o.tr)).length : Nat) : Int)) ∧ T 114 = (V.bool ((((((!(ans o (if h.m.i ≠ o.i then [] else least (rfs h o.tr))).isSome)) || decide ((frE h.m h.m.s (if h.m.i ≠ o.i then [] else least (rfs h o.tr))) ≠ (0 : Int)))) || decide ((((if h.m.i ≠ o.i then [] else least (rfs h o.tr)).length : Nat) : Int) = (0 : Int))))) ∧ H 2 = (⟨1, true, false, 26, 5, [[(iV (h.m.i)), (iV (h.m.s)), (V.sl (List.map cL (h.m.nx))), (V.sl (List.map cL (h.m.ot))), (V.sl (List.map cL (h.acc)))]]⟩ : Blk) ∧ H 3 = (⟨1, true, false, 34, 2, [[(iV (o.i)), (V.sl (List.map cT (o.tr)))]]⟩ : Blk) ∧ True) ?_ ?_
  ·
   by_cases g16 : ((((!(ans o (if h.m.i ≠ o.i then [] else least (rfs h o.tr))).isSome)) || decide ((frE h.m h.m.s (if h.m.i ≠ o.i then [] else least (rfs h o.tr))) ≠ (0 : Int)))) = true
   ·
    refine G_no (Eq.trans (@rfl V (V.bool ((((!(ans o (if h.m.i ≠ o.i then [] else least (rfs h o.tr))).isSome)) || decide ((frE h.m h.m.s (if h.m.i ≠ o.i then [] else least (rfs h o.tr))) ≠ (0 : Int)))))) (bbT g16)) (by decide) ?_
    refine G_no (Eq.trans (@rfl V (V.bool ((((!(ans o (if h.m.i ≠ o.i then [] else least (rfs h o.tr))).isSome)) || decide ((frE h.m h.m.s (if h.m.i ≠ o.i then [] else least (rfs h o.tr))) ≠ (0 : Int)))))) (bbT g16)) (by decide) ?_
    refine R_pickT (Eq.trans (@rfl V (V.bool ((((!(ans o (if h.m.i ≠ o.i then [] else least (rfs h o.tr))).isSome)) || decide ((frE h.m h.m.s (if h.m.i ≠ o.i then [] else least (rfs h o.tr))) ≠ (0 : Int)))))) (bbT g16)) (@rfl V (V.bool true)) ?_
    exact ⟨t11, t13, t15, (Eq.trans (@rfl V (V.bool true)) (borT g16)), h2, h3, trivial⟩
   ·
    refine G_yes (Eq.trans (@rfl V (V.bool ((((!(ans o (if h.m.i ≠ o.i then [] else least (rfs h o.tr))).isSome)) || decide ((frE h.m h.m.s (if h.m.i ≠ o.i then [] else least (rfs h o.tr))) ≠ (0 : Int)))))) (bbF g16)) ?_
    refine R_mv t15 ?_
    refine G_yes (Eq.trans (@rfl V (V.bool ((((!(ans o (if h.m.i ≠ o.i then [] else least (rfs h o.tr))).isSome)) || decide ((frE h.m h.m.s (if h.m.i ≠ o.i then [] else least (rfs h o.tr))) ≠ (0 : Int)))))) (bbF g16)) ?_
    refine R_eql (x := (((if h.m.i ≠ o.i then [] else least (rfs h o.tr)).length : Nat) : Int)) (y := (0 : Int)) (@rfl V (iV (((if h.m.i ≠ o.i then [] else least (rfs h o.tr)).length : Nat) : Int))) (@rfl V (iV (0 : Int))) ?_
    refine R_pickF (Eq.trans (@rfl V (V.bool ((((!(ans o (if h.m.i ≠ o.i then [] else least (rfs h o.tr))).isSome)) || decide ((frE h.m h.m.s (if h.m.i ≠ o.i then [] else least (rfs h o.tr))) ≠ (0 : Int)))))) (bbF g16)) (@rfl V (V.bool (decide ((((if h.m.i ≠ o.i then [] else least (rfs h o.tr)).length : Nat) : Int) = (0 : Int))))) ?_
    exact ⟨t11, t13, t15, (Eq.trans (@rfl V (V.bool (decide ((((if h.m.i ≠ o.i then [] else least (rfs h o.tr)).length : Nat) : Int) = (0 : Int))))) (borF g16)), h2, h3, trivial⟩
  intro T H ⟨t11, t13, t15, t114, h2, h3, _⟩
  refine R_mv t114 ?_
  refine Ops_seg 5 (fun T H => T 11 = (V.sl (List.map cI ((ans o (if h.m.i ≠ o.i then [] else least (rfs h o.tr))).getD []))) ∧ T 13 = (V.sl (List.map cI (frOut h.m h.m.s (if h.m.i ≠ o.i then [] else least (rfs h o.tr))))) ∧ T 15 = (iV (((if h.m.i ≠ o.i then [] else least (rfs h o.tr)).length : Nat) : Int)) ∧ T 120 = (V.bool ((((((((!(ans o (if h.m.i ≠ o.i then [] else least (rfs h o.tr))).isSome)) || decide ((frE h.m h.m.s (if h.m.i ≠ o.i then [] else least (rfs h o.tr))) ≠ (0 : Int)))) || decide ((((if h.m.i ≠ o.i then [] else least (rfs h o.tr)).length : Nat) : Int) = (0 : Int)))) || decide (((((ans o (if h.m.i ≠ o.i then [] else least (rfs h o.tr))).getD []).length : Nat) : Int) ≠ (((if h.m.i ≠ o.i then [] else least (rfs h o.tr)).length : Nat) : Int))))) ∧ H 2 = (⟨1, true, false, 26, 5, [[(iV (h.m.i)), (iV (h.m.s)), (V.sl (List.map cL (h.m.nx))), (V.sl (List.map cL (h.m.ot))), (V.sl (List.map cL (h.acc)))]]⟩ : Blk) ∧ H 3 = (⟨1, true, false, 34, 2, [[(iV (o.i)), (V.sl (List.map cT (o.tr)))]]⟩ : Blk) ∧ True) ?_ ?_
  ·
   by_cases g17 : ((((((!(ans o (if h.m.i ≠ o.i then [] else least (rfs h o.tr))).isSome)) || decide ((frE h.m h.m.s (if h.m.i ≠ o.i then [] else least (rfs h o.tr))) ≠ (0 : Int)))) || decide ((((if h.m.i ≠ o.i then [] else least (rfs h o.tr)).length : Nat) : Int) = (0 : Int)))) = true
   ·
    refine G_no (Eq.trans (@rfl V (V.bool ((((((!(ans o (if h.m.i ≠ o.i then [] else least (rfs h o.tr))).isSome)) || decide ((frE h.m h.m.s (if h.m.i ≠ o.i then [] else least (rfs h o.tr))) ≠ (0 : Int)))) || decide ((((if h.m.i ≠ o.i then [] else least (rfs h o.tr)).length : Nat) : Int) = (0 : Int)))))) (bbT g17)) (by decide) ?_
    refine G_no (Eq.trans (@rfl V (V.bool ((((((!(ans o (if h.m.i ≠ o.i then [] else least (rfs h o.tr))).isSome)) || decide ((frE h.m h.m.s (if h.m.i ≠ o.i then [] else least (rfs h o.tr))) ≠ (0 : Int)))) || decide ((((if h.m.i ≠ o.i then [] else least (rfs h o.tr)).length : Nat) : Int) = (0 : Int)))))) (bbT g17)) (by decide) ?_
    refine G_no (Eq.trans (@rfl V (V.bool ((((((!(ans o (if h.m.i ≠ o.i then [] else least (rfs h o.tr))).isSome)) || decide ((frE h.m h.m.s (if h.m.i ≠ o.i then [] else least (rfs h o.tr))) ≠ (0 : Int)))) || decide ((((if h.m.i ≠ o.i then [] else least (rfs h o.tr)).length : Nat) : Int) = (0 : Int)))))) (bbT g17)) (by decide) ?_
    refine G_no (Eq.trans (@rfl V (V.bool ((((((!(ans o (if h.m.i ≠ o.i then [] else least (rfs h o.tr))).isSome)) || decide ((frE h.m h.m.s (if h.m.i ≠ o.i then [] else least (rfs h o.tr))) ≠ (0 : Int)))) || decide ((((if h.m.i ≠ o.i then [] else least (rfs h o.tr)).length : Nat) : Int) = (0 : Int)))))) (bbT g17)) (by decide) ?_
    refine R_pickT (Eq.trans (@rfl V (V.bool ((((((!(ans o (if h.m.i ≠ o.i then [] else least (rfs h o.tr))).isSome)) || decide ((frE h.m h.m.s (if h.m.i ≠ o.i then [] else least (rfs h o.tr))) ≠ (0 : Int)))) || decide ((((if h.m.i ≠ o.i then [] else least (rfs h o.tr)).length : Nat) : Int) = (0 : Int)))))) (bbT g17)) (@rfl V (V.bool true)) ?_
    exact ⟨t11, t13, t15, (Eq.trans (@rfl V (V.bool true)) (borT g17)), h2, h3, trivial⟩
   ·
    refine G_yes (Eq.trans (@rfl V (V.bool ((((((!(ans o (if h.m.i ≠ o.i then [] else least (rfs h o.tr))).isSome)) || decide ((frE h.m h.m.s (if h.m.i ≠ o.i then [] else least (rfs h o.tr))) ≠ (0 : Int)))) || decide ((((if h.m.i ≠ o.i then [] else least (rfs h o.tr)).length : Nat) : Int) = (0 : Int)))))) (bbF g17)) ?_
    refine R_mv t11 ?_
    refine G_yes (Eq.trans (@rfl V (V.bool ((((((!(ans o (if h.m.i ≠ o.i then [] else least (rfs h o.tr))).isSome)) || decide ((frE h.m h.m.s (if h.m.i ≠ o.i then [] else least (rfs h o.tr))) ≠ (0 : Int)))) || decide ((((if h.m.i ≠ o.i then [] else least (rfs h o.tr)).length : Nat) : Int) = (0 : Int)))))) (bbF g17)) ?_
    refine R_len (@rfl V (V.sl (List.map cI ((ans o (if h.m.i ≠ o.i then [] else least (rfs h o.tr))).getD [])))) ?_
    refine G_yes (Eq.trans (@rfl V (V.bool ((((((!(ans o (if h.m.i ≠ o.i then [] else least (rfs h o.tr))).isSome)) || decide ((frE h.m h.m.s (if h.m.i ≠ o.i then [] else least (rfs h o.tr))) ≠ (0 : Int)))) || decide ((((if h.m.i ≠ o.i then [] else least (rfs h o.tr)).length : Nat) : Int) = (0 : Int)))))) (bbF g17)) ?_
    refine R_mv t15 ?_
    refine G_yes (Eq.trans (@rfl V (V.bool ((((((!(ans o (if h.m.i ≠ o.i then [] else least (rfs h o.tr))).isSome)) || decide ((frE h.m h.m.s (if h.m.i ≠ o.i then [] else least (rfs h o.tr))) ≠ (0 : Int)))) || decide ((((if h.m.i ≠ o.i then [] else least (rfs h o.tr)).length : Nat) : Int) = (0 : Int)))))) (bbF g17)) ?_
    refine R_neq (x := ((((ans o (if h.m.i ≠ o.i then [] else least (rfs h o.tr))).getD []).length : Nat) : Int)) (y := (((if h.m.i ≠ o.i then [] else least (rfs h o.tr)).length : Nat) : Int)) (@rfl V (iV ((((ans o (if h.m.i ≠ o.i then [] else least (rfs h o.tr))).getD []).length : Nat) : Int))) (@rfl V (iV (((if h.m.i ≠ o.i then [] else least (rfs h o.tr)).length : Nat) : Int))) ?_
    refine R_pickF (Eq.trans (@rfl V (V.bool ((((((!(ans o (if h.m.i ≠ o.i then [] else least (rfs h o.tr))).isSome)) || decide ((frE h.m h.m.s (if h.m.i ≠ o.i then [] else least (rfs h o.tr))) ≠ (0 : Int)))) || decide ((((if h.m.i ≠ o.i then [] else least (rfs h o.tr)).length : Nat) : Int) = (0 : Int)))))) (bbF g17)) (@rfl V (V.bool (decide (((((ans o (if h.m.i ≠ o.i then [] else least (rfs h o.tr))).getD []).length : Nat) : Int) ≠ (((if h.m.i ≠ o.i then [] else least (rfs h o.tr)).length : Nat) : Int))))) ?_
    exact ⟨t11, t13, t15, (Eq.trans (@rfl V (V.bool (decide (((((ans o (if h.m.i ≠ o.i then [] else least (rfs h o.tr))).getD []).length : Nat) : Int) ≠ (((if h.m.i ≠ o.i then [] else least (rfs h o.tr)).length : Nat) : Int))))) (borF g17)), h2, h3, trivial⟩
  intro T H ⟨t11, t13, t15, t120, h2, h3, _⟩
  refine R_mv t120 ?_
  refine Ops_seg 5 (fun T H => T 11 = (V.sl (List.map cI ((ans o (if h.m.i ≠ o.i then [] else least (rfs h o.tr))).getD []))) ∧ T 13 = (V.sl (List.map cI (frOut h.m h.m.s (if h.m.i ≠ o.i then [] else least (rfs h o.tr))))) ∧ T 15 = (iV (((if h.m.i ≠ o.i then [] else least (rfs h o.tr)).length : Nat) : Int)) ∧ T 126 = (V.bool ((((((((((!(ans o (if h.m.i ≠ o.i then [] else least (rfs h o.tr))).isSome)) || decide ((frE h.m h.m.s (if h.m.i ≠ o.i then [] else least (rfs h o.tr))) ≠ (0 : Int)))) || decide ((((if h.m.i ≠ o.i then [] else least (rfs h o.tr)).length : Nat) : Int) = (0 : Int)))) || decide (((((ans o (if h.m.i ≠ o.i then [] else least (rfs h o.tr))).getD []).length : Nat) : Int) ≠ (((if h.m.i ≠ o.i then [] else least (rfs h o.tr)).length : Nat) : Int)))) || decide ((((frOut h.m h.m.s (if h.m.i ≠ o.i then [] else least (rfs h o.tr))).length : Nat) : Int) ≠ (((if h.m.i ≠ o.i then [] else least (rfs h o.tr)).length : Nat) : Int))))) ∧ H 2 = (⟨1, true, false, 26, 5, [[(iV (h.m.i)), (iV (h.m.s)), (V.sl (List.map cL (h.m.nx))), (V.sl (List.map cL (h.m.ot))), (V.sl (List.map cL (h.acc)))]]⟩ : Blk) ∧ H 3 = (⟨1, true, false, 34, 2, [[(iV (o.i)), (V.sl (List.map cT (o.tr)))]]⟩ : Blk) ∧ True) ?_ ?_
  ·
   by_cases g18 : ((((((((!(ans o (if h.m.i ≠ o.i then [] else least (rfs h o.tr))).isSome)) || decide ((frE h.m h.m.s (if h.m.i ≠ o.i then [] else least (rfs h o.tr))) ≠ (0 : Int)))) || decide ((((if h.m.i ≠ o.i then [] else least (rfs h o.tr)).length : Nat) : Int) = (0 : Int)))) || decide (((((ans o (if h.m.i ≠ o.i then [] else least (rfs h o.tr))).getD []).length : Nat) : Int) ≠ (((if h.m.i ≠ o.i then [] else least (rfs h o.tr)).length : Nat) : Int)))) = true
   ·
    refine G_no (Eq.trans (@rfl V (V.bool ((((((((!(ans o (if h.m.i ≠ o.i then [] else least (rfs h o.tr))).isSome)) || decide ((frE h.m h.m.s (if h.m.i ≠ o.i then [] else least (rfs h o.tr))) ≠ (0 : Int)))) || decide ((((if h.m.i ≠ o.i then [] else least (rfs h o.tr)).length : Nat) : Int) = (0 : Int)))) || decide (((((ans o (if h.m.i ≠ o.i then [] else least (rfs h o.tr))).getD []).length : Nat) : Int) ≠ (((if h.m.i ≠ o.i then [] else least (rfs h o.tr)).length : Nat) : Int)))))) (bbT g18)) (by decide) ?_
    refine G_no (Eq.trans (@rfl V (V.bool ((((((((!(ans o (if h.m.i ≠ o.i then [] else least (rfs h o.tr))).isSome)) || decide ((frE h.m h.m.s (if h.m.i ≠ o.i then [] else least (rfs h o.tr))) ≠ (0 : Int)))) || decide ((((if h.m.i ≠ o.i then [] else least (rfs h o.tr)).length : Nat) : Int) = (0 : Int)))) || decide (((((ans o (if h.m.i ≠ o.i then [] else least (rfs h o.tr))).getD []).length : Nat) : Int) ≠ (((if h.m.i ≠ o.i then [] else least (rfs h o.tr)).length : Nat) : Int)))))) (bbT g18)) (by decide) ?_
    refine G_no (Eq.trans (@rfl V (V.bool ((((((((!(ans o (if h.m.i ≠ o.i then [] else least (rfs h o.tr))).isSome)) || decide ((frE h.m h.m.s (if h.m.i ≠ o.i then [] else least (rfs h o.tr))) ≠ (0 : Int)))) || decide ((((if h.m.i ≠ o.i then [] else least (rfs h o.tr)).length : Nat) : Int) = (0 : Int)))) || decide (((((ans o (if h.m.i ≠ o.i then [] else least (rfs h o.tr))).getD []).length : Nat) : Int) ≠ (((if h.m.i ≠ o.i then [] else least (rfs h o.tr)).length : Nat) : Int)))))) (bbT g18)) (by decide) ?_
    refine G_no (Eq.trans (@rfl V (V.bool ((((((((!(ans o (if h.m.i ≠ o.i then [] else least (rfs h o.tr))).isSome)) || decide ((frE h.m h.m.s (if h.m.i ≠ o.i then [] else least (rfs h o.tr))) ≠ (0 : Int)))) || decide ((((if h.m.i ≠ o.i then [] else least (rfs h o.tr)).length : Nat) : Int) = (0 : Int)))) || decide (((((ans o (if h.m.i ≠ o.i then [] else least (rfs h o.tr))).getD []).length : Nat) : Int) ≠ (((if h.m.i ≠ o.i then [] else least (rfs h o.tr)).length : Nat) : Int)))))) (bbT g18)) (by decide) ?_
    refine R_pickT (Eq.trans (@rfl V (V.bool ((((((((!(ans o (if h.m.i ≠ o.i then [] else least (rfs h o.tr))).isSome)) || decide ((frE h.m h.m.s (if h.m.i ≠ o.i then [] else least (rfs h o.tr))) ≠ (0 : Int)))) || decide ((((if h.m.i ≠ o.i then [] else least (rfs h o.tr)).length : Nat) : Int) = (0 : Int)))) || decide (((((ans o (if h.m.i ≠ o.i then [] else least (rfs h o.tr))).getD []).length : Nat) : Int) ≠ (((if h.m.i ≠ o.i then [] else least (rfs h o.tr)).length : Nat) : Int)))))) (bbT g18)) (@rfl V (V.bool true)) ?_
    exact ⟨t11, t13, t15, (Eq.trans (@rfl V (V.bool true)) (borT g18)), h2, h3, trivial⟩
   ·
    refine G_yes (Eq.trans (@rfl V (V.bool ((((((((!(ans o (if h.m.i ≠ o.i then [] else least (rfs h o.tr))).isSome)) || decide ((frE h.m h.m.s (if h.m.i ≠ o.i then [] else least (rfs h o.tr))) ≠ (0 : Int)))) || decide ((((if h.m.i ≠ o.i then [] else least (rfs h o.tr)).length : Nat) : Int) = (0 : Int)))) || decide (((((ans o (if h.m.i ≠ o.i then [] else least (rfs h o.tr))).getD []).length : Nat) : Int) ≠ (((if h.m.i ≠ o.i then [] else least (rfs h o.tr)).length : Nat) : Int)))))) (bbF g18)) ?_
    refine R_mv t13 ?_
    refine G_yes (Eq.trans (@rfl V (V.bool ((((((((!(ans o (if h.m.i ≠ o.i then [] else least (rfs h o.tr))).isSome)) || decide ((frE h.m h.m.s (if h.m.i ≠ o.i then [] else least (rfs h o.tr))) ≠ (0 : Int)))) || decide ((((if h.m.i ≠ o.i then [] else least (rfs h o.tr)).length : Nat) : Int) = (0 : Int)))) || decide (((((ans o (if h.m.i ≠ o.i then [] else least (rfs h o.tr))).getD []).length : Nat) : Int) ≠ (((if h.m.i ≠ o.i then [] else least (rfs h o.tr)).length : Nat) : Int)))))) (bbF g18)) ?_
    refine R_len (@rfl V (V.sl (List.map cI (frOut h.m h.m.s (if h.m.i ≠ o.i then [] else least (rfs h o.tr)))))) ?_
    refine G_yes (Eq.trans (@rfl V (V.bool ((((((((!(ans o (if h.m.i ≠ o.i then [] else least (rfs h o.tr))).isSome)) || decide ((frE h.m h.m.s (if h.m.i ≠ o.i then [] else least (rfs h o.tr))) ≠ (0 : Int)))) || decide ((((if h.m.i ≠ o.i then [] else least (rfs h o.tr)).length : Nat) : Int) = (0 : Int)))) || decide (((((ans o (if h.m.i ≠ o.i then [] else least (rfs h o.tr))).getD []).length : Nat) : Int) ≠ (((if h.m.i ≠ o.i then [] else least (rfs h o.tr)).length : Nat) : Int)))))) (bbF g18)) ?_
    refine R_mv t15 ?_
    refine G_yes (Eq.trans (@rfl V (V.bool ((((((((!(ans o (if h.m.i ≠ o.i then [] else least (rfs h o.tr))).isSome)) || decide ((frE h.m h.m.s (if h.m.i ≠ o.i then [] else least (rfs h o.tr))) ≠ (0 : Int)))) || decide ((((if h.m.i ≠ o.i then [] else least (rfs h o.tr)).length : Nat) : Int) = (0 : Int)))) || decide (((((ans o (if h.m.i ≠ o.i then [] else least (rfs h o.tr))).getD []).length : Nat) : Int) ≠ (((if h.m.i ≠ o.i then [] else least (rfs h o.tr)).length : Nat) : Int)))))) (bbF g18)) ?_
    refine R_neq (x := (((frOut h.m h.m.s (if h.m.i ≠ o.i then [] else least (rfs h o.tr))).length : Nat) : Int)) (y := (((if h.m.i ≠ o.i then [] else least (rfs h o.tr)).length : Nat) : Int)) (@rfl V (iV (((frOut h.m h.m.s (if h.m.i ≠ o.i then [] else least (rfs h o.tr))).length : Nat) : Int))) (@rfl V (iV (((if h.m.i ≠ o.i then [] else least (rfs h o.tr)).length : Nat) : Int))) ?_
    refine R_pickF (Eq.trans (@rfl V (V.bool ((((((((!(ans o (if h.m.i ≠ o.i then [] else least (rfs h o.tr))).isSome)) || decide ((frE h.m h.m.s (if h.m.i ≠ o.i then [] else least (rfs h o.tr))) ≠ (0 : Int)))) || decide ((((if h.m.i ≠ o.i then [] else least (rfs h o.tr)).length : Nat) : Int) = (0 : Int)))) || decide (((((ans o (if h.m.i ≠ o.i then [] else least (rfs h o.tr))).getD []).length : Nat) : Int) ≠ (((if h.m.i ≠ o.i then [] else least (rfs h o.tr)).length : Nat) : Int)))))) (bbF g18)) (@rfl V (V.bool (decide ((((frOut h.m h.m.s (if h.m.i ≠ o.i then [] else least (rfs h o.tr))).length : Nat) : Int) ≠ (((if h.m.i ≠ o.i then [] else least (rfs h o.tr)).length : Nat) : Int))))) ?_
    exact ⟨t11, t13, t15, (Eq.trans (@rfl V (V.bool (decide ((((frOut h.m h.m.s (if h.m.i ≠ o.i then [] else least (rfs h o.tr))).length : Nat) : Int) ≠ (((if h.m.i ≠ o.i then [] else least (rfs h o.tr)).length : Nat) : Int))))) (borF g18)), h2, h3, trivial⟩
  intro T H ⟨t11, t13, t15, t126, h2, h3, _⟩
  exact R_nil ⟨t11, t13, t15, t126, h2, h3, trivial⟩
 intro T H ⟨t11, t13, t15, t126, h2, h3, _⟩
 refine W_seq_ifb t126 (fun c19 => ?_) (fun c19 => ?_)
 · exfalso; rw [hW] at q1 q2 q3 q4 q5 c19; simp [q1, q2, q3, q4, q5] at c19 <;> omega
 refine W_seq_skip ?_
 refine W_seq_regc (fun T H => T 4 = (V.bool (decide (((List.take ((((((if h.m.i ≠ o.i then [] else least (rfs h o.tr)).length : Nat) : Int) - (1 : Int))).toNat) ((ans o (if h.m.i ≠ o.i then [] else least (rfs h o.tr))).getD [])) = (List.take ((((((if h.m.i ≠ o.i then [] else least (rfs h o.tr)).length : Nat) : Int) - (1 : Int))).toNat) (frOut h.m h.m.s (if h.m.i ≠ o.i then [] else least (rfs h o.tr))))) ∧ (((nth ((ans o (if h.m.i ≠ o.i then [] else least (rfs h o.tr))).getD []) ((((if h.m.i ≠ o.i then [] else least (rfs h o.tr)).length : Nat) : Int) - (1 : Int)).toNat)) ≠ ((nth (frOut h.m h.m.s (if h.m.i ≠ o.i then [] else least (rfs h o.tr))) ((((if h.m.i ≠ o.i then [] else least (rfs h o.tr)).length : Nat) : Int) - (1 : Int)).toNat)))))) ∧ H 2 = (⟨1, true, false, 26, 5, [[(iV (h.m.i)), (iV (h.m.s)), (V.sl (List.map cL (h.m.nx))), (V.sl (List.map cL (h.m.ot))), (V.sl (List.map cL (h.acc)))]]⟩ : Blk) ∧ H 3 = (⟨1, true, false, 34, 2, [[(iV (o.i)), (V.sl (List.map cT (o.tr)))]]⟩ : Blk) ∧ True) ?_ ?_
 ·
  unfold r7_19
  refine R_mv t11 ?_
  refine R_mv t15 ?_
  refine R_sub (x := (((if h.m.i ≠ o.i then [] else least (rfs h o.tr)).length : Nat) : Int)) (y := (1 : Int)) (@rfl V (iV (((if h.m.i ≠ o.i then [] else least (rfs h o.tr)).length : Nat) : Int))) (@rfl V (iV (1 : Int))) (by omega) (by omega) ?_
  refine R_slice_hi (n := ((((((if h.m.i ≠ o.i then [] else least (rfs h o.tr)).length : Nat) : Int) - (1 : Int))).toNat)) (@rfl V (V.sl (List.map cI ((ans o (if h.m.i ≠ o.i then [] else least (rfs h o.tr))).getD [])))) (Eq.trans (@rfl V (iV ((((if h.m.i ≠ o.i then [] else least (rfs h o.tr)).length : Nat) : Int) - (1 : Int)))) (iv_toNat (by omega))) (by omega) (fun _ => rfl) ?_
  refine R_mv t13 ?_
  refine R_mv t15 ?_
  refine R_sub (x := (((if h.m.i ≠ o.i then [] else least (rfs h o.tr)).length : Nat) : Int)) (y := (1 : Int)) (@rfl V (iV (((if h.m.i ≠ o.i then [] else least (rfs h o.tr)).length : Nat) : Int))) (@rfl V (iV (1 : Int))) (by omega) (by omega) ?_
  refine R_slice_hi (n := ((((((if h.m.i ≠ o.i then [] else least (rfs h o.tr)).length : Nat) : Int) - (1 : Int))).toNat)) (@rfl V (V.sl (List.map cI (frOut h.m h.m.s (if h.m.i ≠ o.i then [] else least (rfs h o.tr)))))) (Eq.trans (@rfl V (iV ((((if h.m.i ≠ o.i then [] else least (rfs h o.tr)).length : Nat) : Int) - (1 : Int)))) (iv_toNat (by omega))) (by omega) (fun _ => rfl) ?_
  refine R_call (evcons (@rfl V (V.sl (List.map cI (List.take ((((((if h.m.i ≠ o.i then [] else least (rfs h o.tr)).length : Nat) : Int) - (1 : Int))).toNat) ((ans o (if h.m.i ≠ o.i then [] else least (rfs h o.tr))).getD []))))) (evcons (@rfl V (V.sl (List.map cI (List.take ((((((if h.m.i ≠ o.i then [] else least (rfs h o.tr)).length : Nat) : Int) - (1 : Int))).toNat) (frOut h.m h.m.s (if h.m.i ≠ o.i then [] else least (rfs h o.tr))))))) evnil)) (ints_pure (List.take ((((((if h.m.i ≠ o.i then [] else least (rfs h o.tr)).length : Nat) : Int) - (1 : Int))).toNat) ((ans o (if h.m.i ≠ o.i then [] else least (rfs h o.tr))).getD [])) (List.take ((((((if h.m.i ≠ o.i then [] else least (rfs h o.tr)).length : Nat) : Int) - (1 : Int))).toNat) (frOut h.m h.m.s (if h.m.i ≠ o.i then [] else least (rfs h o.tr))))) (fzv_mapcanon _ _ (by simp [-List.map_take, -List.map_drop, -List.map_append, -List.map_reverse])) (by simp [-List.map_take, -List.map_drop, -List.map_append, -List.map_reverse]) (Or.inl (by simp [-List.map_take, -List.map_drop, -List.map_append, -List.map_reverse])) ?_
  refine R_mv (@rfl V (V.bool (decide ((List.take ((((((if h.m.i ≠ o.i then [] else least (rfs h o.tr)).length : Nat) : Int) - (1 : Int))).toNat) ((ans o (if h.m.i ≠ o.i then [] else least (rfs h o.tr))).getD [])) = (List.take ((((((if h.m.i ≠ o.i then [] else least (rfs h o.tr)).length : Nat) : Int) - (1 : Int))).toNat) (frOut h.m h.m.s (if h.m.i ≠ o.i then [] else least (rfs h o.tr)))))))) ?_
  refine Ops_seg 12 (fun T H => T 148 = (V.bool (decide (((List.take ((((((if h.m.i ≠ o.i then [] else least (rfs h o.tr)).length : Nat) : Int) - (1 : Int))).toNat) ((ans o (if h.m.i ≠ o.i then [] else least (rfs h o.tr))).getD [])) = (List.take ((((((if h.m.i ≠ o.i then [] else least (rfs h o.tr)).length : Nat) : Int) - (1 : Int))).toNat) (frOut h.m h.m.s (if h.m.i ≠ o.i then [] else least (rfs h o.tr))))) ∧ (((nth ((ans o (if h.m.i ≠ o.i then [] else least (rfs h o.tr))).getD []) ((((if h.m.i ≠ o.i then [] else least (rfs h o.tr)).length : Nat) : Int) - (1 : Int)).toNat)) ≠ ((nth (frOut h.m h.m.s (if h.m.i ≠ o.i then [] else least (rfs h o.tr))) ((((if h.m.i ≠ o.i then [] else least (rfs h o.tr)).length : Nat) : Int) - (1 : Int)).toNat)))))) ∧ H 2 = (⟨1, true, false, 26, 5, [[(iV (h.m.i)), (iV (h.m.s)), (V.sl (List.map cL (h.m.nx))), (V.sl (List.map cL (h.m.ot))), (V.sl (List.map cL (h.acc)))]]⟩ : Blk) ∧ H 3 = (⟨1, true, false, 34, 2, [[(iV (o.i)), (V.sl (List.map cT (o.tr)))]]⟩ : Blk) ∧ True) ?_ ?_
  ·
   by_cases g20 : (List.take ((((((if h.m.i ≠ o.i then [] else least (rfs h o.tr)).length : Nat) : Int) - (1 : Int))).toNat) ((ans o (if h.m.i ≠ o.i then [] else least (rfs h o.tr))).getD [])) = (List.take ((((((if h.m.i ≠ o.i then [] else least (rfs h o.tr)).length : Nat) : Int) - (1 : Int))).toNat) (frOut h.m h.m.s (if h.m.i ≠ o.i then [] else least (rfs h o.tr))))
   ·
    refine G_yes (Eq.trans (@rfl V (V.bool (decide ((List.take ((((((if h.m.i ≠ o.i then [] else least (rfs h o.tr)).length : Nat) : Int) - (1 : Int))).toNat) ((ans o (if h.m.i ≠ o.i then [] else least (rfs h o.tr))).getD [])) = (List.take ((((((if h.m.i ≠ o.i then [] else least (rfs h o.tr)).length : Nat) : Int) - (1 : Int))).toNat) (frOut h.m h.m.s (if h.m.i ≠ o.i then [] else least (rfs h o.tr)))))))) (bdT g20)) ?_
    refine R_mv t11 ?_
    refine G_yes (Eq.trans (@rfl V (V.bool (decide ((List.take ((((((if h.m.i ≠ o.i then [] else least (rfs h o.tr)).length : Nat) : Int) - (1 : Int))).toNat) ((ans o (if h.m.i ≠ o.i then [] else least (rfs h o.tr))).getD [])) = (List.take ((((((if h.m.i ≠ o.i then [] else least (rfs h o.tr)).length : Nat) : Int) - (1 : Int))).toNat) (frOut h.m h.m.s (if h.m.i ≠ o.i then [] else least (rfs h o.tr)))))))) (bdT g20)) ?_
    refine R_mv t15 ?_
    refine G_yes (Eq.trans (@rfl V (V.bool (decide ((List.take ((((((if h.m.i ≠ o.i then [] else least (rfs h o.tr)).length : Nat) : Int) - (1 : Int))).toNat) ((ans o (if h.m.i ≠ o.i then [] else least (rfs h o.tr))).getD [])) = (List.take ((((((if h.m.i ≠ o.i then [] else least (rfs h o.tr)).length : Nat) : Int) - (1 : Int))).toNat) (frOut h.m h.m.s (if h.m.i ≠ o.i then [] else least (rfs h o.tr)))))))) (bdT g20)) ?_
    refine R_sub (x := (((if h.m.i ≠ o.i then [] else least (rfs h o.tr)).length : Nat) : Int)) (y := (1 : Int)) (@rfl V (iV (((if h.m.i ≠ o.i then [] else least (rfs h o.tr)).length : Nat) : Int))) (@rfl V (iV (1 : Int))) (by omega) (by omega) ?_
    refine G_yes (Eq.trans (@rfl V (V.bool (decide ((List.take ((((((if h.m.i ≠ o.i then [] else least (rfs h o.tr)).length : Nat) : Int) - (1 : Int))).toNat) ((ans o (if h.m.i ≠ o.i then [] else least (rfs h o.tr))).getD [])) = (List.take ((((((if h.m.i ≠ o.i then [] else least (rfs h o.tr)).length : Nat) : Int) - (1 : Int))).toNat) (frOut h.m h.m.s (if h.m.i ≠ o.i then [] else least (rfs h o.tr)))))))) (bdT g20)) ?_
    refine R_idxI (i := ((((if h.m.i ≠ o.i then [] else least (rfs h o.tr)).length : Nat) : Int) - (1 : Int))) (@rfl V (V.sl (List.map cI ((ans o (if h.m.i ≠ o.i then [] else least (rfs h o.tr))).getD [])))) (@rfl V (iV ((((if h.m.i ≠ o.i then [] else least (rfs h o.tr)).length : Nat) : Int) - (1 : Int)))) (by omega) (by omega) rfl ?_
    refine G_yes (Eq.trans (@rfl V (V.bool (decide ((List.take ((((((if h.m.i ≠ o.i then [] else least (rfs h o.tr)).length : Nat) : Int) - (1 : Int))).toNat) ((ans o (if h.m.i ≠ o.i then [] else least (rfs h o.tr))).getD [])) = (List.take ((((((if h.m.i ≠ o.i then [] else least (rfs h o.tr)).length : Nat) : Int) - (1 : Int))).toNat) (frOut h.m h.m.s (if h.m.i ≠ o.i then [] else least (rfs h o.tr)))))))) (bdT g20)) ?_
    refine R_load_pp (v := (iV ((nth ((ans o (if h.m.i ≠ o.i then [] else least (rfs h o.tr))).getD []) ((((if h.m.i ≠ o.i then [] else least (rfs h o.tr)).length : Nat) : Int) - (1 : Int)).toNat)))) (@rfl V (V.pp [(iV ((nth ((ans o (if h.m.i ≠ o.i then [] else least (rfs h o.tr))).getD []) ((((if h.m.i ≠ o.i then [] else least (rfs h o.tr)).length : Nat) : Int) - (1 : Int)).toNat)))])) (by first | rfl | simp [ldV]) ?_
    refine G_yes (Eq.trans (@rfl V (V.bool (decide ((List.take ((((((if h.m.i ≠ o.i then [] else least (rfs h o.tr)).length : Nat) : Int) - (1 : Int))).toNat) ((ans o (if h.m.i ≠ o.i then [] else least (rfs h o.tr))).getD [])) = (List.take ((((((if h.m.i ≠ o.i then [] else least (rfs h o.tr)).length : Nat) : Int) - (1 : Int))).toNat) (frOut h.m h.m.s (if h.m.i ≠ o.i then [] else least (rfs h o.tr)))))))) (bdT g20)) ?_
    refine R_mv t13 ?_
    refine G_yes (Eq.trans (@rfl V (V.bool (decide ((List.take ((((((if h.m.i ≠ o.i then [] else least (rfs h o.tr)).length : Nat) : Int) - (1 : Int))).toNat) ((ans o (if h.m.i ≠ o.i then [] else least (rfs h o.tr))).getD [])) = (List.take ((((((if h.m.i ≠ o.i then [] else least (rfs h o.tr)).length : Nat) : Int) - (1 : Int))).toNat) (frOut h.m h.m.s (if h.m.i ≠ o.i then [] else least (rfs h o.tr)))))))) (bdT g20)) ?_
    refine R_mv t15 ?_
    refine G_yes (Eq.trans (@rfl V (V.bool (decide ((List.take ((((((if h.m.i ≠ o.i then [] else least (rfs h o.tr)).length : Nat) : Int) - (1 : Int))).toNat) ((ans o (if h.m.i ≠ o.i then [] else least (rfs h o.tr))).getD [])) = (List.take ((((((if h.m.i ≠ o.i then [] else least (rfs h o.tr)).length : Nat) : Int) - (1 : Int))).toNat) (frOut h.m h.m.s (if h.m.i ≠ o.i then [] else least (rfs h o.tr)))))))) (bdT g20)) ?_
    refine R_sub (x := (((if h.m.i ≠ o.i then [] else least (rfs h o.tr)).length : Nat) : Int)) (y := (1 : Int)) (@rfl V (iV (((if h.m.i ≠ o.i then [] else least (rfs h o.tr)).length : Nat) : Int))) (@rfl V (iV (1 : Int))) (by omega) (by omega) ?_
    refine G_yes (Eq.trans (@rfl V (V.bool (decide ((List.take ((((((if h.m.i ≠ o.i then [] else least (rfs h o.tr)).length : Nat) : Int) - (1 : Int))).toNat) ((ans o (if h.m.i ≠ o.i then [] else least (rfs h o.tr))).getD [])) = (List.take ((((((if h.m.i ≠ o.i then [] else least (rfs h o.tr)).length : Nat) : Int) - (1 : Int))).toNat) (frOut h.m h.m.s (if h.m.i ≠ o.i then [] else least (rfs h o.tr)))))))) (bdT g20)) ?_
    refine R_idxI (i := ((((if h.m.i ≠ o.i then [] else least (rfs h o.tr)).length : Nat) : Int) - (1 : Int))) (@rfl V (V.sl (List.map cI (frOut h.m h.m.s (if h.m.i ≠ o.i then [] else least (rfs h o.tr)))))) (@rfl V (iV ((((if h.m.i ≠ o.i then [] else least (rfs h o.tr)).length : Nat) : Int) - (1 : Int)))) (by omega) (by omega) rfl ?_
    refine G_yes (Eq.trans (@rfl V (V.bool (decide ((List.take ((((((if h.m.i ≠ o.i then [] else least (rfs h o.tr)).length : Nat) : Int) - (1 : Int))).toNat) ((ans o (if h.m.i ≠ o.i then [] else least (rfs h o.tr))).getD [])) = (List.take ((((((if h.m.i ≠ o.i then [] else least (rfs h o.tr)).length : Nat) : Int) - (1 : Int))).toNat) (frOut h.m h.m.s (if h.m.i ≠ o.i then [] else least (rfs h o.tr)))))))) (bdT g20)) ?_
    refine R_load_pp (v := (iV ((nth (frOut h.m h.m.s (if h.m.i ≠ o.i then [] else least (rfs h o.tr))) ((((if h.m.i ≠ o.i then [] else least (rfs h o.tr)).length : Nat) : Int) - (1 : Int)).toNat)))) (@rfl V (V.pp [(iV ((nth (frOut h.m h.m.s (if h.m.i ≠ o.i then [] else least (rfs h o.tr))) ((((if h.m.i ≠ o.i then [] else least (rfs h o.tr)).length : Nat) : Int) - (1 : Int)).toNat)))])) (by first | rfl | simp [ldV]) ?_
    refine G_yes (Eq.trans (@rfl V (V.bool (decide ((List.take ((((((if h.m.i ≠ o.i then [] else least (rfs h o.tr)).length : Nat) : Int) - (1 : Int))).toNat) ((ans o (if h.m.i ≠ o.i then [] else least (rfs h o.tr))).getD [])) = (List.take ((((((if h.m.i ≠ o.i then [] else least (rfs h o.tr)).length : Nat) : Int) - (1 : Int))).toNat) (frOut h.m h.m.s (if h.m.i ≠ o.i then [] else least (rfs h o.tr)))))))) (bdT g20)) ?_
    refine R_neq (x := ((nth ((ans o (if h.m.i ≠ o.i then [] else least (rfs h o.tr))).getD []) ((((if h.m.i ≠ o.i then [] else least (rfs h o.tr)).length : Nat) : Int) - (1 : Int)).toNat))) (y := ((nth (frOut h.m h.m.s (if h.m.i ≠ o.i then [] else least (rfs h o.tr))) ((((if h.m.i ≠ o.i then [] else least (rfs h o.tr)).length : Nat) : Int) - (1 : Int)).toNat))) (@rfl V (iV ((nth ((ans o (if h.m.i ≠ o.i then [] else least (rfs h o.tr))).getD []) ((((if h.m.i ≠ o.i then [] else least (rfs h o.tr)).length : Nat) : Int) - (1 : Int)).toNat)))) (@rfl V (iV ((nth (frOut h.m h.m.s (if h.m.i ≠ o.i then [] else least (rfs h o.tr))) ((((if h.m.i ≠ o.i then [] else least (rfs h o.tr)).length : Nat) : Int) - (1 : Int)).toNat)))) ?_
    refine R_pickT (Eq.trans (@rfl V (V.bool (decide ((List.take ((((((if h.m.i ≠ o.i then [] else least (rfs h o.tr)).length : Nat) : Int) - (1 : Int))).toNat) ((ans o (if h.m.i ≠ o.i then [] else least (rfs h o.tr))).getD [])) = (List.take ((((((if h.m.i ≠ o.i then [] else least (rfs h o.tr)).length : Nat) : Int) - (1 : Int))).toNat) (frOut h.m h.m.s (if h.m.i ≠ o.i then [] else least (rfs h o.tr)))))))) (bdT g20)) (@rfl V (V.bool (decide (((nth ((ans o (if h.m.i ≠ o.i then [] else least (rfs h o.tr))).getD []) ((((if h.m.i ≠ o.i then [] else least (rfs h o.tr)).length : Nat) : Int) - (1 : Int)).toNat)) ≠ ((nth (frOut h.m h.m.s (if h.m.i ≠ o.i then [] else least (rfs h o.tr))) ((((if h.m.i ≠ o.i then [] else least (rfs h o.tr)).length : Nat) : Int) - (1 : Int)).toNat)))))) ?_
    exact ⟨(Eq.trans (@rfl V (V.bool (decide (((nth ((ans o (if h.m.i ≠ o.i then [] else least (rfs h o.tr))).getD []) ((((if h.m.i ≠ o.i then [] else least (rfs h o.tr)).length : Nat) : Int) - (1 : Int)).toNat)) ≠ ((nth (frOut h.m h.m.s (if h.m.i ≠ o.i then [] else least (rfs h o.tr))) ((((if h.m.i ≠ o.i then [] else least (rfs h o.tr)).length : Nat) : Int) - (1 : Int)).toNat)))))) (dec_andT g20)), h2, h3, trivial⟩
   ·
    refine G_no (Eq.trans (@rfl V (V.bool (decide ((List.take ((((((if h.m.i ≠ o.i then [] else least (rfs h o.tr)).length : Nat) : Int) - (1 : Int))).toNat) ((ans o (if h.m.i ≠ o.i then [] else least (rfs h o.tr))).getD [])) = (List.take ((((((if h.m.i ≠ o.i then [] else least (rfs h o.tr)).length : Nat) : Int) - (1 : Int))).toNat) (frOut h.m h.m.s (if h.m.i ≠ o.i then [] else least (rfs h o.tr)))))))) (bdF g20)) (by decide) ?_
    refine G_no (Eq.trans (@rfl V (V.bool (decide ((List.take ((((((if h.m.i ≠ o.i then [] else least (rfs h o.tr)).length : Nat) : Int) - (1 : Int))).toNat) ((ans o (if h.m.i ≠ o.i then [] else least (rfs h o.tr))).getD [])) = (List.take ((((((if h.m.i ≠ o.i then [] else least (rfs h o.tr)).length : Nat) : Int) - (1 : Int))).toNat) (frOut h.m h.m.s (if h.m.i ≠ o.i then [] else least (rfs h o.tr)))))))) (bdF g20)) (by decide) ?_
    refine G_no (Eq.trans (@rfl V (V.bool (decide ((List.take ((((((if h.m.i ≠ o.i then [] else least (rfs h o.tr)).length : Nat) : Int) - (1 : Int))).toNat) ((ans o (if h.m.i ≠ o.i then [] else least (rfs h o.tr))).getD [])) = (List.take ((((((if h.m.i ≠ o.i then [] else least (rfs h o.tr)).length : Nat) : Int) - (1 : Int))).toNat) (frOut h.m h.m.s (if h.m.i ≠ o.i then [] else least (rfs h o.tr)))))))) (bdF g20)) (by decide) ?_
    refine G_no (Eq.trans (@rfl V (V.bool (decide ((List.take ((((((if h.m.i ≠ o.i then [] else least (rfs h o.tr)).length : Nat) : Int) - (1 : Int))).toNat) ((ans o (if h.m.i ≠ o.i then [] else least (rfs h o.tr))).getD [])) = (List.take ((((((if h.m.i ≠ o.i then [] else least (rfs h o.tr)).length : Nat) : Int) - (1 : Int))).toNat) (frOut h.m h.m.s (if h.m.i ≠ o.i then [] else least (rfs h o.tr)))))))) (bdF g20)) (by decide) ?_
    refine G_no (Eq.trans (@rfl V (V.bool (decide ((List.take ((((((if h.m.i ≠ o.i then [] else least (rfs h o.tr)).length : Nat) : Int) - (1 : Int))).toNat) ((ans o (if h.m.i ≠ o.i then [] else least (rfs h o.tr))).getD [])) = (List.take ((((((if h.m.i ≠ o.i then [] else least (rfs h o.tr)).length : Nat) : Int) - (1 : Int))).toNat) (frOut h.m h.m.s (if h.m.i ≠ o.i then [] else least (rfs h o.tr)))))))) (bdF g20)) (by decide) ?_
    refine G_no (Eq.trans (@rfl V (V.bool (decide ((List.take ((((((if h.m.i ≠ o.i then [] else least (rfs h o.tr)).length : Nat) : Int) - (1 : Int))).toNat) ((ans o (if h.m.i ≠ o.i then [] else least (rfs h o.tr))).getD [])) = (List.take ((((((if h.m.i ≠ o.i then [] else least (rfs h o.tr)).length : Nat) : Int) - (1 : Int))).toNat) (frOut h.m h.m.s (if h.m.i ≠ o.i then [] else least (rfs h o.tr)))))))) (bdF g20)) (by decide) ?_
    refine G_no (Eq.trans (@rfl V (V.bool (decide ((List.take ((((((if h.m.i ≠ o.i then [] else least (rfs h o.tr)).length : Nat) : Int) - (1 : Int))).toNat) ((ans o (if h.m.i ≠ o.i then [] else least (rfs h o.tr))).getD [])) = (List.take ((((((if h.m.i ≠ o.i then [] else least (rfs h o.tr)).length : Nat) : Int) - (1 : Int))).toNat) (frOut h.m h.m.s (if h.m.i ≠ o.i then [] else least (rfs h o.tr)))))))) (bdF g20)) (by decide) ?_
    refine G_no (Eq.trans (@rfl V (V.bool (decide ((List.take ((((((if h.m.i ≠ o.i then [] else least (rfs h o.tr)).length : Nat) : Int) - (1 : Int))).toNat) ((ans o (if h.m.i ≠ o.i then [] else least (rfs h o.tr))).getD [])) = (List.take ((((((if h.m.i ≠ o.i then [] else least (rfs h o.tr)).length : Nat) : Int) - (1 : Int))).toNat) (frOut h.m h.m.s (if h.m.i ≠ o.i then [] else least (rfs h o.tr)))))))) (bdF g20)) (by decide) ?_
    refine G_no (Eq.trans (@rfl V (V.bool (decide ((List.take ((((((if h.m.i ≠ o.i then [] else least (rfs h o.tr)).length : Nat) : Int) - (1 : Int))).toNat) ((ans o (if h.m.i ≠ o.i then [] else least (rfs h o.tr))).getD [])) = (List.take ((((((if h.m.i ≠ o.i then [] else least (rfs h o.tr)).length : Nat) : Int) - (1 : Int))).toNat) (frOut h.m h.m.s (if h.m.i ≠ o.i then [] else least (rfs h o.tr)))))))) (bdF g20)) (by decide) ?_
    refine G_no (Eq.trans (@rfl V (V.bool (decide ((List.take ((((((if h.m.i ≠ o.i then [] else least (rfs h o.tr)).length : Nat) : Int) - (1 : Int))).toNat) ((ans o (if h.m.i ≠ o.i then [] else least (rfs h o.tr))).getD [])) = (List.take ((((((if h.m.i ≠ o.i then [] else least (rfs h o.tr)).length : Nat) : Int) - (1 : Int))).toNat) (frOut h.m h.m.s (if h.m.i ≠ o.i then [] else least (rfs h o.tr)))))))) (bdF g20)) (by decide) ?_
    refine G_no (Eq.trans (@rfl V (V.bool (decide ((List.take ((((((if h.m.i ≠ o.i then [] else least (rfs h o.tr)).length : Nat) : Int) - (1 : Int))).toNat) ((ans o (if h.m.i ≠ o.i then [] else least (rfs h o.tr))).getD [])) = (List.take ((((((if h.m.i ≠ o.i then [] else least (rfs h o.tr)).length : Nat) : Int) - (1 : Int))).toNat) (frOut h.m h.m.s (if h.m.i ≠ o.i then [] else least (rfs h o.tr)))))))) (bdF g20)) (by decide) ?_
    refine R_pickF (Eq.trans (@rfl V (V.bool (decide ((List.take ((((((if h.m.i ≠ o.i then [] else least (rfs h o.tr)).length : Nat) : Int) - (1 : Int))).toNat) ((ans o (if h.m.i ≠ o.i then [] else least (rfs h o.tr))).getD [])) = (List.take ((((((if h.m.i ≠ o.i then [] else least (rfs h o.tr)).length : Nat) : Int) - (1 : Int))).toNat) (frOut h.m h.m.s (if h.m.i ≠ o.i then [] else least (rfs h o.tr)))))))) (bdF g20)) (@rfl V (V.bool false)) ?_
    exact ⟨(Eq.trans (@rfl V (V.bool false)) (dec_andF g20)), h2, h3, trivial⟩
  intro T H ⟨t148, h2, h3, _⟩
  refine R_mv t148 ?_
  refine Ops_seg 2 (fun T H => T 151 = (V.bool (decide (((List.take ((((((if h.m.i ≠ o.i then [] else least (rfs h o.tr)).length : Nat) : Int) - (1 : Int))).toNat) ((ans o (if h.m.i ≠ o.i then [] else least (rfs h o.tr))).getD [])) = (List.take ((((((if h.m.i ≠ o.i then [] else least (rfs h o.tr)).length : Nat) : Int) - (1 : Int))).toNat) (frOut h.m h.m.s (if h.m.i ≠ o.i then [] else least (rfs h o.tr))))) ∧ (((nth ((ans o (if h.m.i ≠ o.i then [] else least (rfs h o.tr))).getD []) ((((if h.m.i ≠ o.i then [] else least (rfs h o.tr)).length : Nat) : Int) - (1 : Int)).toNat)) ≠ ((nth (frOut h.m h.m.s (if h.m.i ≠ o.i then [] else least (rfs h o.tr))) ((((if h.m.i ≠ o.i then [] else least (rfs h o.tr)).length : Nat) : Int) - (1 : Int)).toNat)))))) ∧ H 2 = (⟨1, true, false, 26, 5, [[(iV (h.m.i)), (iV (h.m.s)), (V.sl (List.map cL (h.m.nx))), (V.sl (List.map cL (h.m.ot))), (V.sl (List.map cL (h.acc)))]]⟩ : Blk) ∧ H 3 = (⟨1, true, false, 34, 2, [[(iV (o.i)), (V.sl (List.map cT (o.tr)))]]⟩ : Blk) ∧ True) ?_ ?_
  ·
   by_cases g21 : ((List.take ((((((if h.m.i ≠ o.i then [] else least (rfs h o.tr)).length : Nat) : Int) - (1 : Int))).toNat) ((ans o (if h.m.i ≠ o.i then [] else least (rfs h o.tr))).getD [])) = (List.take ((((((if h.m.i ≠ o.i then [] else least (rfs h o.tr)).length : Nat) : Int) - (1 : Int))).toNat) (frOut h.m h.m.s (if h.m.i ≠ o.i then [] else least (rfs h o.tr))))) ∧ (((nth ((ans o (if h.m.i ≠ o.i then [] else least (rfs h o.tr))).getD []) ((((if h.m.i ≠ o.i then [] else least (rfs h o.tr)).length : Nat) : Int) - (1 : Int)).toNat)) ≠ ((nth (frOut h.m h.m.s (if h.m.i ≠ o.i then [] else least (rfs h o.tr))) ((((if h.m.i ≠ o.i then [] else least (rfs h o.tr)).length : Nat) : Int) - (1 : Int)).toNat)))
   ·
    refine G_yes (Eq.trans (@rfl V (V.bool (decide (((List.take ((((((if h.m.i ≠ o.i then [] else least (rfs h o.tr)).length : Nat) : Int) - (1 : Int))).toNat) ((ans o (if h.m.i ≠ o.i then [] else least (rfs h o.tr))).getD [])) = (List.take ((((((if h.m.i ≠ o.i then [] else least (rfs h o.tr)).length : Nat) : Int) - (1 : Int))).toNat) (frOut h.m h.m.s (if h.m.i ≠ o.i then [] else least (rfs h o.tr))))) ∧ (((nth ((ans o (if h.m.i ≠ o.i then [] else least (rfs h o.tr))).getD []) ((((if h.m.i ≠ o.i then [] else least (rfs h o.tr)).length : Nat) : Int) - (1 : Int)).toNat)) ≠ ((nth (frOut h.m h.m.s (if h.m.i ≠ o.i then [] else least (rfs h o.tr))) ((((if h.m.i ≠ o.i then [] else least (rfs h o.tr)).length : Nat) : Int) - (1 : Int)).toNat))))))) (bdT g21)) ?_
    refine R_call evnil (aw_learnerlaw22_awake_pure) (fzv_mapcanon _ _ (by simp [-List.map_take, -List.map_drop, -List.map_append, -List.map_reverse])) (by simp [-List.map_take, -List.map_drop, -List.map_append, -List.map_reverse]) (Or.inl (by simp [-List.map_take, -List.map_drop, -List.map_append, -List.map_reverse])) ?_
    refine R_pickT (Eq.trans (@rfl V (V.bool (decide (((List.take ((((((if h.m.i ≠ o.i then [] else least (rfs h o.tr)).length : Nat) : Int) - (1 : Int))).toNat) ((ans o (if h.m.i ≠ o.i then [] else least (rfs h o.tr))).getD [])) = (List.take ((((((if h.m.i ≠ o.i then [] else least (rfs h o.tr)).length : Nat) : Int) - (1 : Int))).toNat) (frOut h.m h.m.s (if h.m.i ≠ o.i then [] else least (rfs h o.tr))))) ∧ (((nth ((ans o (if h.m.i ≠ o.i then [] else least (rfs h o.tr))).getD []) ((((if h.m.i ≠ o.i then [] else least (rfs h o.tr)).length : Nat) : Int) - (1 : Int)).toNat)) ≠ ((nth (frOut h.m h.m.s (if h.m.i ≠ o.i then [] else least (rfs h o.tr))) ((((if h.m.i ≠ o.i then [] else least (rfs h o.tr)).length : Nat) : Int) - (1 : Int)).toNat))))))) (bdT g21)) (@rfl V (V.bool true)) ?_
    exact ⟨(Eq.trans (@rfl V (V.bool true)) (dec_T g21)), h2, h3, trivial⟩
   ·
    refine G_no (Eq.trans (@rfl V (V.bool (decide (((List.take ((((((if h.m.i ≠ o.i then [] else least (rfs h o.tr)).length : Nat) : Int) - (1 : Int))).toNat) ((ans o (if h.m.i ≠ o.i then [] else least (rfs h o.tr))).getD [])) = (List.take ((((((if h.m.i ≠ o.i then [] else least (rfs h o.tr)).length : Nat) : Int) - (1 : Int))).toNat) (frOut h.m h.m.s (if h.m.i ≠ o.i then [] else least (rfs h o.tr))))) ∧ (((nth ((ans o (if h.m.i ≠ o.i then [] else least (rfs h o.tr))).getD []) ((((if h.m.i ≠ o.i then [] else least (rfs h o.tr)).length : Nat) : Int) - (1 : Int)).toNat)) ≠ ((nth (frOut h.m h.m.s (if h.m.i ≠ o.i then [] else least (rfs h o.tr))) ((((if h.m.i ≠ o.i then [] else least (rfs h o.tr)).length : Nat) : Int) - (1 : Int)).toNat))))))) (bdF g21)) (by decide) ?_
    refine R_pickF (Eq.trans (@rfl V (V.bool (decide (((List.take ((((((if h.m.i ≠ o.i then [] else least (rfs h o.tr)).length : Nat) : Int) - (1 : Int))).toNat) ((ans o (if h.m.i ≠ o.i then [] else least (rfs h o.tr))).getD [])) = (List.take ((((((if h.m.i ≠ o.i then [] else least (rfs h o.tr)).length : Nat) : Int) - (1 : Int))).toNat) (frOut h.m h.m.s (if h.m.i ≠ o.i then [] else least (rfs h o.tr))))) ∧ (((nth ((ans o (if h.m.i ≠ o.i then [] else least (rfs h o.tr))).getD []) ((((if h.m.i ≠ o.i then [] else least (rfs h o.tr)).length : Nat) : Int) - (1 : Int)).toNat)) ≠ ((nth (frOut h.m h.m.s (if h.m.i ≠ o.i then [] else least (rfs h o.tr))) ((((if h.m.i ≠ o.i then [] else least (rfs h o.tr)).length : Nat) : Int) - (1 : Int)).toNat))))))) (bdF g21)) (@rfl V (V.bool false)) ?_
    exact ⟨(Eq.trans (@rfl V (V.bool false)) (dec_F g21)), h2, h3, trivial⟩
  intro T H ⟨t151, h2, h3, _⟩
  refine R_mv t151 ?_
  exact R_nil ⟨rfl, h2, h3, trivial⟩
 intro T H ⟨t4, h2, h3, _⟩
 refine W_ret ?_
 refine Ret_1 t4 (fz_bool ?_)
 · have e : ((((if h.m.i ≠ o.i then [] else least (rfs h o.tr)).length : Nat) : Int) - (1 : Int)).toNat = n0 := by omega
   rw [e]; rw [hW] at q6 q7 ⊢; simp [q6, q7]

end Go.Proofs.Ytngkckefanbhgaa

namespace Go.Proofs.Ytngkckefanbhgaa
open Go Go.Proofs Go.Proofs.Ytngkckefanbhgaa Go.ChangeShapes Go.WideShapes Go.ChangeAt Go.RowKit

structure UT (P : Program) : Prop where
  u3 : P.underlying 3 = some (.int .i64)
  u22 : P.underlying 22 = some (.slice 35)
  u35 : P.underlying 35 = some (.slice 3)
  u24 : ∃ f0 f1 f2 f3 : Field, P.underlying 24 = some (.struct #[f0, f1, f2, f3]) ∧ f0.type = 3 ∧ f1.type = 3 ∧ f2.type = 22 ∧ f3.type = 22
  u26 : ∃ f0 f1 : Field, P.underlying 26 = some (.struct #[f0, f1]) ∧ f0.type = 24 ∧ f1.type = 22
  u32 : P.underlying 32 = some (.slice 63)
  u63 : ∃ f0 f1 : Field, P.underlying 63 = some (.struct #[f0, f1]) ∧ f0.type = 35 ∧ f1.type = 35
  u34 : ∃ f0 f1 : Field, P.underlying 34 = some (.struct #[f0, f1]) ∧ f0.type = 3 ∧ f1.type = 32
theorem sh3 {P : Program} (U : UT P) (n : Nat) (vs : List V) (h : Shp P (n + 1) 3 vs) : ∃ a : Int, vs = cI a := shp_int U.u3 h

theorem sh35 {P : Program} (U : UT P) (n : Nat) (vs : List V) (h : Shp P (n + 2) 35 vs) : ∃ a : List Int, vs = cL a := shp_slice (f := cI) U.u35 (fun vs h => sh3 U n vs h) h

theorem sh22 {P : Program} (U : UT P) (n : Nat) (vs : List V) (h : Shp P (n + 3) 22 vs) : ∃ a : List (List Int), vs = (fun l => [V.sl (List.map cL l)]) a := shp_slice (f := cL) U.u22 (fun vs h => sh35 U n vs h) h

theorem sh24 {P : Program} (U : UT P) (n : Nat) (vs : List V) (h : Shp P (n + 4) 24 vs) : ∃ a : M, vs = mC a := by
  obtain ⟨f0, f1, f2, f3, hu, k0, k1, k2, k3⟩ := U.u24
  have h0 := shp_step hu h
  obtain ⟨x0, u0, e0, h1⟩ := shpL_cons (c := cI) (fun vs h => sh3 U (n + 2) vs (by rw [k0] at h; exact h)) h0
  obtain ⟨x1, u1, e1, h2⟩ := shpL_cons (c := cI) (fun vs h => sh3 U (n + 2) vs (by rw [k1] at h; exact h)) h1
  obtain ⟨x2, u2, e2, h3⟩ := shpL_cons (c := (fun l => [V.sl (List.map cL l)])) (fun vs h => sh22 U (n + 0) vs (by rw [k2] at h; exact h)) h2
  obtain ⟨x3, u3, e3, h4⟩ := shpL_cons (c := (fun l => [V.sl (List.map cL l)])) (fun vs h => sh22 U (n + 0) vs (by rw [k3] at h; exact h)) h3
  have e4 := shpL_nil h4
  exact ⟨⟨x0, x1, x2, x3⟩, by rw [e0, e1, e2, e3, e4]; rfl⟩

theorem sh26 {P : Program} (U : UT P) (n : Nat) (vs : List V) (h : Shp P (n + 5) 26 vs) : ∃ a : Hy, vs = hC a := by
  obtain ⟨f0, f1, hu, k0, k1⟩ := U.u26
  have h0 := shp_step hu h
  obtain ⟨x0, u0, e0, h1⟩ := shpL_cons (c := mC) (fun vs h => sh24 U (n + 0) vs (by rw [k0] at h; exact h)) h0
  obtain ⟨x1, u1, e1, h2⟩ := shpL_cons (c := (fun l => [V.sl (List.map cL l)])) (fun vs h => sh22 U (n + 1) vs (by rw [k1] at h; exact h)) h1
  have e2 := shpL_nil h2
  exact ⟨⟨x0, x1⟩, by rw [e0, e1, e2]; rfl⟩

theorem sh63 {P : Program} (U : UT P) (n : Nat) (vs : List V) (h : Shp P (n + 3) 63 vs) : ∃ a : Tr, vs = cT a := by
  obtain ⟨f0, f1, hu, k0, k1⟩ := U.u63
  have h0 := shp_step hu h
  obtain ⟨x0, u0, e0, h1⟩ := shpL_cons (c := cL) (fun vs h => sh35 U (n + 0) vs (by rw [k0] at h; exact h)) h0
  obtain ⟨x1, u1, e1, h2⟩ := shpL_cons (c := cL) (fun vs h => sh35 U (n + 0) vs (by rw [k1] at h; exact h)) h1
  have e2 := shpL_nil h2
  exact ⟨⟨x0, x1⟩, by rw [e0, e1, e2]; rfl⟩

theorem sh32 {P : Program} (U : UT P) (n : Nat) (vs : List V) (h : Shp P (n + 4) 32 vs) : ∃ a : List Tr, vs = (fun l => [V.sl (List.map cT l)]) a := shp_slice (f := cT) U.u32 (fun vs h => sh63 U n vs h) h

theorem sh34 {P : Program} (U : UT P) (n : Nat) (vs : List V) (h : Shp P (n + 5) 34 vs) : ∃ a : Ob, vs = oC a := by
  obtain ⟨f0, f1, hu, k0, k1⟩ := U.u34
  have h0 := shp_step hu h
  obtain ⟨x0, u0, e0, h1⟩ := shpL_cons (c := cI) (fun vs h => sh3 U (n + 3) vs (by rw [k0] at h; exact h)) h0
  obtain ⟨x1, u1, e1, h2⟩ := shpL_cons (c := (fun l => [V.sl (List.map cT l)])) (fun vs h => sh32 U (n + 0) vs (by rw [k1] at h; exact h)) h1
  have e2 := shpL_nil h2
  exact ⟨⟨x0, x1⟩, by rw [e0, e1, e2]; rfl⟩

theorem ut : UT Try.prog := ⟨by kernel_rfl, by kernel_rfl, by kernel_rfl, ⟨_, _, _, _, Try.underlying24, rfl, rfl, rfl, rfl⟩, ⟨_, _, Try.underlying26, rfl, rfl⟩, by kernel_rfl, ⟨_, _, Try.underlying63, rfl, rfl⟩, ⟨_, _, Try.underlying34, rfl, rfl⟩⟩
theorem args7 {P : Program} (U : UT P) {us : List V} (h : ShpA P 6 [26, 34] us) : ∃ (d0 : Hy) (d1 : Ob), us = [V.agg (hC d0), V.agg (oC d1)] := by
  obtain ⟨a0, b0, e0, h0, h⟩ := shpA_cons h
  obtain ⟨d0, g0⟩ := sh26 U 1 a0 h0
  have q0 : packV P 26 a0 = V.agg (hC d0) := by obtain ⟨_, _, hu, _⟩ := U.u26; rw [g0]; exact pack_struct hu _
  obtain ⟨a1, b1, e1, h1, h⟩ := shpA_cons h
  obtain ⟨d1, g1⟩ := sh34 U 1 a1 h1
  have q1 : packV P 34 a1 = V.agg (oC d1) := by obtain ⟨_, _, hu, _⟩ := U.u34; rw [g1]; exact pack_struct hu _
  have e2 := shpA_nil h
  exact ⟨d0, d1, by rw [e0, q0, e1, q1, e2]⟩
theorem own7 : ownKnob Try.prog.godebug = none := by kernel_rfl

set_option maxRecDepth 100000 in
theorem lifted7 (os : Os) (started : os.Started) (H : Type) (enc : TypeId × Value → H) :
    ReturnsInHanded {} Try.checked os 7 .any (Rows.hypothesisCounterSpec.pre6 enc Try.prog Try.f7 Rows.hypothesisCounterRow.domain false) (Rows.hypothesisCounterSpec.post enc Try.prog Try.f7 false true false false) := by
  refine returnsInHanded_of_change (C := Try.checked) own7 started (by kernel_rfl) Try.func7
    (ChangeSpec.witness6 (enc := enc) (C := Try.checked) false ⟨#[], #[.agg #[.int .i64 0, .int .i64 0, .slice none 0 0, .slice none 0 0, .slice none 0 0], .agg #[.int .i64 0, .slice none 0 0]], []⟩ 8 (by kernel_rfl) (by kernel_rfl) (by kernel_rfl) (by kernel_rfl)) ?_
  intro W base args ds gs before hval0 hW hcnd _
  refine law_post (n := 6) (tb := 4) (by kernel_rfl) (by kernel_rfl) (by kernel_rfl) (fun t ht => ?_) rfl ?_ (fun us hu => ?_) hval0 hW
  · have h : t ∈ [26, 34] := ht
    simp only [List.mem_cons, List.not_mem_nil, or_false] at h
    rcases h with rfl | rfl
    · exact ⟨by kernel_rfl, by kernel_rfl, of_decide_eq_true (by kernel_rfl)⟩
    · exact ⟨by kernel_rfl, by kernel_rfl, of_decide_eq_true (by kernel_rfl)⟩
  · obtain ⟨p, q, hA, hV, rfl, hfz, hnd⟩ := hW
    obtain ⟨rfl, rfl⟩ := trodVars_none hV
    change DataW.TrodAll enc Try.prog W 0 (fun _ => true) true [26, 34] args.toList ds p at hA
    obtain ⟨v0, vs0, y0, ds0, pa0, pb0, hv0, rfl, rfl, _, hA⟩ := trodAll_cons hA
    obtain ⟨v1, vs1, y1, ds1, pa1, pb1, hv1, rfl, rfl, _, hA⟩ := trodAll_cons hA
    obtain ⟨_, rfl, rfl⟩ := trodAll_nil hA
    rfl
  · obtain ⟨d0, d1, rfl⟩ := args7 ut hu
    exact law7_pure d0 d1

theorem proved7 : Rows.HypothesisCounterSaid :=
  OpenClaim.holds_of_wide 7 Try.f7 rfl rfl rfl rfl rfl rfl rfl ⟨rfl, rfl, rfl, rfl, rfl⟩ rfl rfl rfl rfl rfl (by kernel_rfl) Try.func7 (by kernel_rfl)
    (of_decide_eq_true (by kernel_rfl)) (by unfold Func.isWrapper; first | (rw [if_pos (by decide +kernel)]; kernel_rfl) | (rw [if_neg (by decide +kernel)]; exact ⟨rfl, rfl⟩))
    (fun os started H enc _ => lifted7 os started H enc)
end Go.Proofs.Ytngkckefanbhgaa

