/- Contracts of the functions that the law HA reaches, and the law itself, for every input; no condition. -/
import Derived.KernelRfl
import Derived.Test.YtngkckefanbhgaaHA1
set_option linter.unusedSimpArgs false
set_option linter.unusedVariables false
namespace Go.Proofs.Ytngkckefanbhgaa
open Go Go.Proofs

theorem roval_pure (o : Ob) : PureC Try.prog 20 [(V.agg [(iV (o.i)), (V.sl (List.map cT (o.tr)))])] (iV (oval o)) := by
 refine pure_of_Wb true 6 Try.func20 s20_ok (by kernel_rfl) (by simp [s20]) (by simp) (by simp) fun hB => ?_
 simp only [bnd_map, bnd_int, bnd_bool, bnd_str, bnd_agg, bnd_pp, bnd_nil, bnd_cons, implies_true, and_true, true_and] at hB
 unfold s20
 dsimp only
 refine W_seq_regc (fun T H => T 1 = (V.mp 1 1 0 0) ∧ H 1 = (⟨1, true, false, 34, 2, [[(iV (o.i)), (V.sl (List.map cT (o.tr)))]]⟩ : Blk) ∧ H 4 = (⟨0, false, false, 0, 0, []⟩ : Blk) ∧ True) ?_ ?_
 ·
  unfold r20_0
  refine R_box (i := 1) (n := 0) (m := 2) (cs := [(iV (o.i)), (V.sl (List.map cT (o.tr)))]) rfl (congrArg Blk.ver rfl) (@rfl V (V.agg [(iV (o.i)), (V.sl (List.map cT (o.tr)))])) rfl rfl ?_
  refine R_mv (@rfl V (iV (0 : Int))) ?_
  exact R_nil ⟨rfl, rfl, rfl, trivial⟩
 intro T H ⟨t1, h1, h4, _⟩
 refine W_seq_seq ?_
 refine W_seq_regc (fun T H => T 1 = (V.mp 1 1 0 0) ∧ T 14 = (V.bool (decide (((o.i) < (1 : Int)) ∨ ((64 : Int) < (o.i))))) ∧ H 1 = (⟨1, true, false, 34, 2, [[(iV (o.i)), (V.sl (List.map cT (o.tr)))]]⟩ : Blk) ∧ H 4 = (⟨0, false, false, 0, 0, []⟩ : Blk) ∧ True) ?_ ?_
 ·
  unfold r20_1
  refine R_fld_mp (o' := 0) t1 h1 (by first | rfl | simp [okB, Blk.own]) rfl ?_
  refine R_load_mp (v := (iV (o.i))) (@rfl V (V.mp 1 1 0 0)) h1 (by first | rfl | simp [ldB, ldV, Blk.own, V.one]) ?_
  refine R_lss (x := (o.i)) (y := (1 : Int)) (@rfl V (iV (o.i))) (@rfl V (iV (1 : Int))) ?_
  refine R_mv (@rfl V (V.bool (decide ((o.i) < (1 : Int))))) ?_
  refine Ops_seg 4 (fun T H => T 1 = (V.mp 1 1 0 0) ∧ T 14 = (V.bool (decide (((o.i) < (1 : Int)) ∨ ((64 : Int) < (o.i))))) ∧ H 1 = (⟨1, true, false, 34, 2, [[(iV (o.i)), (V.sl (List.map cT (o.tr)))]]⟩ : Blk) ∧ H 4 = (⟨0, false, false, 0, 0, []⟩ : Blk) ∧ True) ?_ ?_
  ·
   by_cases g1 : (o.i) < (1 : Int)
   ·
    refine G_no (Eq.trans (@rfl V (V.bool (decide ((o.i) < (1 : Int))))) (bdT g1)) (by decide) ?_
    refine G_no (Eq.trans (@rfl V (V.bool (decide ((o.i) < (1 : Int))))) (bdT g1)) (by decide) ?_
    refine G_no (Eq.trans (@rfl V (V.bool (decide ((o.i) < (1 : Int))))) (bdT g1)) (by decide) ?_
    refine R_pickT (Eq.trans (@rfl V (V.bool (decide ((o.i) < (1 : Int))))) (bdT g1)) (@rfl V (V.bool true)) ?_
    exact ⟨t1, (Eq.trans (@rfl V (V.bool true)) (dec_orT g1)), h1, h4, trivial⟩
   ·
    refine G_yes (Eq.trans (@rfl V (V.bool (decide ((o.i) < (1 : Int))))) (bdF g1)) ?_
    refine R_fld_mp (o' := 0) t1 h1 (by first | rfl | simp [okB, Blk.own]) rfl ?_
    refine G_yes (Eq.trans (@rfl V (V.bool (decide ((o.i) < (1 : Int))))) (bdF g1)) ?_
    refine R_load_mp (v := (iV (o.i))) (@rfl V (V.mp 1 1 0 0)) h1 (by first | rfl | simp [ldB, ldV, Blk.own, V.one]) ?_
    refine G_yes (Eq.trans (@rfl V (V.bool (decide ((o.i) < (1 : Int))))) (bdF g1)) ?_
    refine R_gtr (x := (o.i)) (y := (64 : Int)) (@rfl V (iV (o.i))) (@rfl V (iV (64 : Int))) ?_
    refine R_pickF (Eq.trans (@rfl V (V.bool (decide ((o.i) < (1 : Int))))) (bdF g1)) (@rfl V (V.bool (decide ((64 : Int) < (o.i))))) ?_
    exact ⟨t1, (Eq.trans (@rfl V (V.bool (decide ((64 : Int) < (o.i))))) (dec_orF g1)), h1, h4, trivial⟩
  intro T H ⟨t1, t14, h1, h4, _⟩
  exact R_nil ⟨t1, t14, h1, h4, trivial⟩
 intro T H ⟨t1, t14, h1, h4, _⟩
 refine W_seq_if (p := ((o.i) < (1 : Int)) ∨ ((64 : Int) < (o.i))) t14 (fun c2 => ?_) (fun c2 => ?_)
 ·
  refine W_seq_seq ?_
  refine W_seq_regc (fun T H => T 2 = (iV (2 : Int)) ∧ H 1 = (⟨1, true, false, 34, 2, [[(iV (o.i)), (V.sl (List.map cT (o.tr)))]]⟩ : Blk) ∧ H 4 = (⟨0, false, false, 0, 0, []⟩ : Blk) ∧ True) ?_ ?_
  ·
   unfold r20_2
   refine R_mv (@rfl V (iV (2 : Int))) ?_
   exact R_nil ⟨rfl, h1, h4, trivial⟩
  intro T H ⟨t2, h1, h4, _⟩
  refine W_seq_ret ?_
  refine Ret_1 t2 (fz_int ?_)
  · rw [oval, if_pos (by omega)]
 refine W_seq_skip ?_
 refine W_seq_seq ?_
 refine W_seq_regc (fun T H => T 1 = (V.mp 1 1 0 0) ∧ T 18 = (V.bool (decide ((10000 : Int) < ((o.tr.length : Nat) : Int)))) ∧ H 1 = (⟨1, true, false, 34, 2, [[(iV (o.i)), (V.sl (List.map cT (o.tr)))]]⟩ : Blk) ∧ H 4 = (⟨0, false, false, 0, 0, []⟩ : Blk) ∧ True) ?_ ?_
 ·
  unfold r20_3
  refine R_fld_mp (o' := 1) t1 h1 (by first | rfl | simp [okB, Blk.own]) rfl ?_
  refine R_load_mp (v := (V.sl (List.map cT (o.tr)))) (@rfl V (V.mp 1 1 0 1)) h1 (by first | rfl | simp [ldB, ldV, Blk.own, V.one]) ?_
  refine R_len (@rfl V (V.sl (List.map cT (o.tr)))) ?_
  refine R_gtr (x := ((o.tr.length : Nat) : Int)) (y := (10000 : Int)) (@rfl V (iV ((o.tr.length : Nat) : Int))) (@rfl V (iV (10000 : Int))) ?_
  exact R_nil ⟨t1, rfl, h1, h4, trivial⟩
 intro T H ⟨t1, t18, h1, h4, _⟩
 refine W_seq_if (p := (10000 : Int) < ((o.tr.length : Nat) : Int)) t18 (fun c3 => ?_) (fun c3 => ?_)
 ·
  refine W_seq_seq ?_
  refine W_seq_regc (fun T H => T 2 = (iV (11 : Int)) ∧ H 1 = (⟨1, true, false, 34, 2, [[(iV (o.i)), (V.sl (List.map cT (o.tr)))]]⟩ : Blk) ∧ H 4 = (⟨0, false, false, 0, 0, []⟩ : Blk) ∧ True) ?_ ?_
  ·
   unfold r20_4
   refine R_mv (@rfl V (iV (11 : Int))) ?_
   exact R_nil ⟨rfl, h1, h4, trivial⟩
  intro T H ⟨t2, h1, h4, _⟩
  refine W_seq_ret ?_
  refine Ret_1 t2 (fz_int ?_)
  · rw [oval, if_neg (by omega), if_pos (by omega)]
 refine W_seq_skip ?_
 refine W_seq_seq ?_
 refine W_seq_regc (fun T H => T 1 = (V.mp 1 1 0 0) ∧ T 3 = (iV (0 : Int)) ∧ H 1 = (⟨1, true, false, 34, 2, [[(iV (o.i)), (V.sl (List.map cT (o.tr)))]]⟩ : Blk) ∧ H 4 = (⟨0, false, false, 0, 0, []⟩ : Blk) ∧ True) ?_ ?_
 ·
  unfold r20_5
  refine R_mv (@rfl V (iV (0 : Int))) ?_
  exact R_nil ⟨t1, rfl, h1, h4, trivial⟩
 intro T H ⟨t1, t3, h1, h4, _⟩
 refine W_seq_blockg fun Q4 n4 x4 y4 z4 => ?_
 refine W_loop (fun mm T H => ∃ (k : Nat) (v4 : Nat), mm = o.tr.length - k ∧ T 1 = (V.mp 1 1 0 0) ∧ T 3 = (iV ((k : Nat) : Int)) ∧ H 1 = (⟨1, true, false, 34, 2, [[(iV (o.i)), (V.sl (List.map cT (o.tr)))]]⟩ : Blk) ∧ (H 4).ver = v4 ∧ (k ≤ o.tr.length) ∧ (1 ≤ o.i ∧ o.i ≤ 64 ∧ o.tr.length ≤ 10000) ∧ (fe (trE o) 0 o.tr.length = fe (trE o) k (o.tr.length - k)) ∧ (∀ j, j < k → (nth o.tr j).no.length = (nth o.tr j).ni.length)) ?_ ?_
 ·
  refine ⟨_, 0, 0, rfl, t1, (Eq.trans t3 (by first | rfl | simp)), h1, (congrArg Blk.ver h4), ?_, ?_, ?_, ?_⟩
  · omega
  · omega
  · rfl
  · intro j hj; omega
 intro mm T H ⟨k, v4, hmm, t1, t3, h1, h4, hk, hh, hc, hpl⟩ Q5 p15 p25 p35
 unfold b20_0
 refine W_seq_seq ?_
 refine W_seq_regc (fun T H => T 1 = (V.mp 1 1 0 0) ∧ T 3 = (iV ((k : Nat) : Int)) ∧ T 23 = (V.bool (decide (((k : Nat) : Int) < ((o.tr.length : Nat) : Int)))) ∧ H 1 = (⟨1, true, false, 34, 2, [[(iV (o.i)), (V.sl (List.map cT (o.tr)))]]⟩ : Blk) ∧ (H 4).ver = v4 ∧ True) ?_ ?_
 ·
  unfold r20_6
  refine R_mv t3 ?_
  refine R_fld_mp (o' := 1) t1 h1 (by first | rfl | simp [okB, Blk.own]) rfl ?_
  refine R_load_mp (v := (V.sl (List.map cT (o.tr)))) (@rfl V (V.mp 1 1 0 1)) h1 (by first | rfl | simp [ldB, ldV, Blk.own, V.one]) ?_
  refine R_len (@rfl V (V.sl (List.map cT (o.tr)))) ?_
  refine R_lss (x := ((k : Nat) : Int)) (y := ((o.tr.length : Nat) : Int)) (@rfl V (iV ((k : Nat) : Int))) (@rfl V (iV ((o.tr.length : Nat) : Int))) ?_
  exact R_nil ⟨t1, t3, rfl, h1, h4, trivial⟩
 intro T H ⟨t1, t3, t23, h1, h4, _⟩
 refine W_seq_if (p := ((k : Nat) : Int) < ((o.tr.length : Nat) : Int)) t23 (fun c6 => ?_) (fun c6 => ?_)
 ·
  refine W_seq_skip ?_
  refine W_seq_blockg fun Q7 n7 x7 y7 z7 => ?_
  refine W_seq_regc (fun T H => T 1 = (V.mp 1 1 0 0) ∧ T 3 = (iV ((k : Nat) : Int)) ∧ T 4 = (V.mp 4 (v4 + 1) 0 0) ∧ H 1 = (⟨1, true, false, 34, 2, [[(iV (o.i)), (V.sl (List.map cT (o.tr)))]]⟩ : Blk) ∧ H 4 = (⟨v4 + 1, true, false, 63, 2, [[(V.sl (List.map cI ((nth (o.tr) (k)).ni))), (V.sl (List.map cI ((nth (o.tr) (k)).no)))]]⟩ : Blk) ∧ True) ?_ ?_
  ·
   unfold r20_8
   refine R_fld_mp (o' := 1) t1 h1 (by first | rfl | simp [okB, Blk.own]) rfl ?_
   refine R_load_mp (v := (V.sl (List.map cT (o.tr)))) (@rfl V (V.mp 1 1 0 1)) h1 (by first | rfl | simp [ldB, ldV, Blk.own, V.one]) ?_
   refine R_mv t3 ?_
   refine R_idx (i := k) (@rfl V (V.sl (List.map cT (o.tr)))) (@rfl V (iV ((k : Nat) : Int))) (by omega) rfl ?_
   refine R_load_pp (v := (V.agg [(V.sl (List.map cI ((nth (o.tr) (k)).ni))), (V.sl (List.map cI ((nth (o.tr) (k)).no)))])) (@rfl V (V.pp [(V.sl (List.map cI ((nth (o.tr) (k)).ni))), (V.sl (List.map cI ((nth (o.tr) (k)).no)))])) (by first | rfl | simp [ldV]) ?_
   refine R_alloc (i := 4) (n := v4) (m := 2) rfl h4 rfl ?_
   refine R_store (vs := [(V.sl (List.map cI ((nth (o.tr) (k)).ni))), (V.sl (List.map cI ((nth (o.tr) (k)).no)))]) (B' := (⟨v4 + 1, true, false, 63, 2, [[(V.sl (List.map cI ((nth (o.tr) (k)).ni))), (V.sl (List.map cI ((nth (o.tr) (k)).no)))]]⟩ : Blk)) (@rfl V (V.mp 4 (v4 + 1) 0 0)) (@rfl V (V.agg [(V.sl (List.map cI ((nth (o.tr) (k)).ni))), (V.sl (List.map cI ((nth (o.tr) (k)).no)))])) rfl (@rfl Blk (⟨v4 + 1, true, false, 63, 2, [[V.nilsl, V.nilsl]]⟩ : Blk)) (by first | rfl | simp [stB, okB, Blk.own, putAt, V.one]) ?_
   exact R_nil ⟨t1, t3, rfl, h1, rfl, trivial⟩
  intro T H ⟨t1, t3, t4, h1, h4, _⟩
  refine W_seq_seq ?_
  refine W_seq_regc (fun T H => T 1 = (V.mp 1 1 0 0) ∧ T 3 = (iV ((k : Nat) : Int)) ∧ T 4 = (V.mp 4 (v4 + 1) 0 0) ∧ T 5 = (iV (wchk ((nth (o.tr) (k)).ni) ((o.i)))) ∧ H 1 = (⟨1, true, false, 34, 2, [[(iV (o.i)), (V.sl (List.map cT (o.tr)))]]⟩ : Blk) ∧ H 4 = (⟨v4 + 1, true, false, 63, 2, [[(V.sl (List.map cI ((nth (o.tr) (k)).ni))), (V.sl (List.map cI ((nth (o.tr) (k)).no)))]]⟩ : Blk) ∧ True) ?_ ?_
  ·
   unfold r20_9
   refine R_fld_mp (o' := 0) t4 h4 (by first | rfl | simp [okB, Blk.own]) rfl ?_
   refine R_load_mp (v := (V.sl (List.map cI ((nth (o.tr) (k)).ni)))) (@rfl V (V.mp 4 (v4 + 1) 0 0)) h4 (by first | rfl | simp [ldB, ldV, Blk.own, V.one]) ?_
   refine R_fld_mp (o' := 0) t1 h1 (by first | rfl | simp [okB, Blk.own]) rfl ?_
   refine R_load_mp (v := (iV (o.i))) (@rfl V (V.mp 1 1 0 0)) h1 (by first | rfl | simp [ldB, ldV, Blk.own, V.one]) ?_
   refine R_call (evcons (@rfl V (V.sl (List.map cI ((nth (o.tr) (k)).ni)))) (evcons (@rfl V (iV (o.i))) evnil)) (rcheck_pure ((nth (o.tr) (k)).ni) ((o.i))) (fzv_mapcanon _ _ (by simp [-List.map_take, -List.map_drop, -List.map_append, -List.map_reverse])) (by simp [-List.map_take, -List.map_drop, -List.map_append, -List.map_reverse]) (Or.inl (by simp [-List.map_take, -List.map_drop, -List.map_append, -List.map_reverse])) ?_
   refine R_mv (@rfl V (iV (wchk ((nth (o.tr) (k)).ni) ((o.i))))) ?_
   exact R_nil ⟨t1, t3, t4, rfl, h1, h4, trivial⟩
  intro T H ⟨t1, t3, t4, t5, h1, h4, _⟩
  refine W_seq_seq ?_
  refine W_seq_regc (fun T H => T 1 = (V.mp 1 1 0 0) ∧ T 3 = (iV ((k : Nat) : Int)) ∧ T 4 = (V.mp 4 (v4 + 1) 0 0) ∧ T 5 = (iV (wchk ((nth (o.tr) (k)).ni) ((o.i)))) ∧ T 37 = (V.bool (decide ((wchk ((nth (o.tr) (k)).ni) ((o.i))) ≠ (0 : Int)))) ∧ H 1 = (⟨1, true, false, 34, 2, [[(iV (o.i)), (V.sl (List.map cT (o.tr)))]]⟩ : Blk) ∧ H 4 = (⟨v4 + 1, true, false, 63, 2, [[(V.sl (List.map cI ((nth (o.tr) (k)).ni))), (V.sl (List.map cI ((nth (o.tr) (k)).no)))]]⟩ : Blk) ∧ True) ?_ ?_
  ·
   unfold r20_10
   refine R_mv t5 ?_
   refine R_neq (x := (wchk ((nth (o.tr) (k)).ni) ((o.i)))) (y := (0 : Int)) (@rfl V (iV (wchk ((nth (o.tr) (k)).ni) ((o.i))))) (@rfl V (iV (0 : Int))) ?_
   exact R_nil ⟨t1, t3, t4, t5, rfl, h1, h4, trivial⟩
  intro T H ⟨t1, t3, t4, t5, t37, h1, h4, _⟩
  refine W_seq_if (p := (wchk ((nth (o.tr) (k)).ni) ((o.i))) ≠ (0 : Int)) t37 (fun c8 => ?_) (fun c8 => ?_)
  ·
   refine W_seq_seq ?_
   refine W_seq_regc (fun T H => T 2 = (iV (wchk ((nth (o.tr) (k)).ni) ((o.i)))) ∧ H 1 = (⟨1, true, false, 34, 2, [[(iV (o.i)), (V.sl (List.map cT (o.tr)))]]⟩ : Blk) ∧ H 4 = (⟨v4 + 1, true, false, 63, 2, [[(V.sl (List.map cI ((nth (o.tr) (k)).ni))), (V.sl (List.map cI ((nth (o.tr) (k)).no)))]]⟩ : Blk) ∧ True) ?_ ?_
   ·
    unfold r20_11
    refine R_mv t5 ?_
    refine R_mv (@rfl V (iV (wchk ((nth (o.tr) (k)).ni) ((o.i))))) ?_
    exact R_nil ⟨rfl, h1, h4, trivial⟩
   intro T H ⟨t2, h1, h4, _⟩
   refine W_seq_ret ?_
   refine y7 _ _ ?_
   refine p25 _ _ ?_
   refine y4 _ _ ?_
   refine Ret_1 t2 (fz_int ?_)
   · have e : trE o k = wchk (nth o.tr k).ni o.i := by rw [trE, if_pos (by omega)]
     have e2 : fe (trE o) 0 o.tr.length = trE o k := by rw [hc]; exact fe_hit (by omega) (by omega)
     rw [oval, if_neg (by omega), if_neg (by omega), if_pos (by omega)]; omega
  refine W_seq_skip ?_
  refine W_seq_seq ?_
  refine W_seq_regc (fun T H => T 1 = (V.mp 1 1 0 0) ∧ T 3 = (iV ((k : Nat) : Int)) ∧ T 4 = (V.mp 4 (v4 + 1) 0 0) ∧ T 42 = (V.bool (decide (((((nth (o.tr) (k)).ni).length : Nat) : Int) = (0 : Int)))) ∧ H 1 = (⟨1, true, false, 34, 2, [[(iV (o.i)), (V.sl (List.map cT (o.tr)))]]⟩ : Blk) ∧ H 4 = (⟨v4 + 1, true, false, 63, 2, [[(V.sl (List.map cI ((nth (o.tr) (k)).ni))), (V.sl (List.map cI ((nth (o.tr) (k)).no)))]]⟩ : Blk) ∧ True) ?_ ?_
  ·
   unfold r20_12
   refine R_fld_mp (o' := 0) t4 h4 (by first | rfl | simp [okB, Blk.own]) rfl ?_
   refine R_load_mp (v := (V.sl (List.map cI ((nth (o.tr) (k)).ni)))) (@rfl V (V.mp 4 (v4 + 1) 0 0)) h4 (by first | rfl | simp [ldB, ldV, Blk.own, V.one]) ?_
   refine R_len (@rfl V (V.sl (List.map cI ((nth (o.tr) (k)).ni)))) ?_
   refine R_eql (x := ((((nth (o.tr) (k)).ni).length : Nat) : Int)) (y := (0 : Int)) (@rfl V (iV ((((nth (o.tr) (k)).ni).length : Nat) : Int))) (@rfl V (iV (0 : Int))) ?_
   exact R_nil ⟨t1, t3, t4, rfl, h1, h4, trivial⟩
  intro T H ⟨t1, t3, t4, t42, h1, h4, _⟩
  refine W_seq_if (p := ((((nth (o.tr) (k)).ni).length : Nat) : Int) = (0 : Int)) t42 (fun c9 => ?_) (fun c9 => ?_)
  ·
   refine W_seq_seq ?_
   refine W_seq_regc (fun T H => T 2 = (iV (19 : Int)) ∧ H 1 = (⟨1, true, false, 34, 2, [[(iV (o.i)), (V.sl (List.map cT (o.tr)))]]⟩ : Blk) ∧ H 4 = (⟨v4 + 1, true, false, 63, 2, [[(V.sl (List.map cI ((nth (o.tr) (k)).ni))), (V.sl (List.map cI ((nth (o.tr) (k)).no)))]]⟩ : Blk) ∧ True) ?_ ?_
   ·
    unfold r20_13
    refine R_mv (@rfl V (iV (19 : Int))) ?_
    exact R_nil ⟨rfl, h1, h4, trivial⟩
   intro T H ⟨t2, h1, h4, _⟩
   refine W_seq_ret ?_
   refine y7 _ _ ?_
   refine p25 _ _ ?_
   refine y4 _ _ ?_
   refine Ret_1 t2 (fz_int ?_)
   · have e : trE o k = 19 := by rw [trE, if_neg (by omega), if_pos (by omega)]
     have e2 : fe (trE o) 0 o.tr.length = trE o k := by rw [hc]; exact fe_hit (by omega) (by omega)
     rw [oval, if_neg (by omega), if_neg (by omega), if_pos (by omega)]; omega
  refine W_seq_skip ?_
  refine W_seq_seq ?_
  refine W_seq_regc (fun T H => T 1 = (V.mp 1 1 0 0) ∧ T 3 = (iV ((k : Nat) : Int)) ∧ T 4 = (V.mp 4 (v4 + 1) 0 0) ∧ T 6 = (iV (prE ((nth (o.tr) (k))) ((o.i)))) ∧ H 1 = (⟨1, true, false, 34, 2, [[(iV (o.i)), (V.sl (List.map cT (o.tr)))]]⟩ : Blk) ∧ H 4 = (⟨v4 + 1, true, false, 63, 2, [[(V.sl (List.map cI ((nth (o.tr) (k)).ni))), (V.sl (List.map cI ((nth (o.tr) (k)).no)))]]⟩ : Blk) ∧ True) ?_ ?_
  ·
   unfold r20_14
   refine R_load_mp (v := (V.agg [(V.sl (List.map cI ((nth (o.tr) (k)).ni))), (V.sl (List.map cI ((nth (o.tr) (k)).no)))])) t4 h4 (by first | rfl | simp [ldB, ldV, Blk.own, V.one]) ?_
   refine R_fld_mp (o' := 0) t1 h1 (by first | rfl | simp [okB, Blk.own]) rfl ?_
   refine R_load_mp (v := (iV (o.i))) (@rfl V (V.mp 1 1 0 0)) h1 (by first | rfl | simp [ldB, ldV, Blk.own, V.one]) ?_
   refine R_call (evcons (@rfl V (V.agg [(V.sl (List.map cI ((nth (o.tr) (k)).ni))), (V.sl (List.map cI ((nth (o.tr) (k)).no)))])) (evcons (@rfl V (iV (o.i))) evnil)) (rproper_pure ((nth (o.tr) (k))) ((o.i))) (fzv_mapcanon _ _ (by simp [-List.map_take, -List.map_drop, -List.map_append, -List.map_reverse])) (by simp [-List.map_take, -List.map_drop, -List.map_append, -List.map_reverse]) (Or.inl (by simp [-List.map_take, -List.map_drop, -List.map_append, -List.map_reverse])) ?_
   refine R_mv (@rfl V (iV (prE ((nth (o.tr) (k))) ((o.i))))) ?_
   exact R_nil ⟨t1, t3, t4, rfl, h1, h4, trivial⟩
  intro T H ⟨t1, t3, t4, t6, h1, h4, _⟩
  refine W_seq_seq ?_
  refine W_seq_regc (fun T H => T 1 = (V.mp 1 1 0 0) ∧ T 3 = (iV ((k : Nat) : Int)) ∧ T 4 = (V.mp 4 (v4 + 1) 0 0) ∧ T 6 = (iV (prE ((nth (o.tr) (k))) ((o.i)))) ∧ T 48 = (V.bool (decide ((prE ((nth (o.tr) (k))) ((o.i))) ≠ (0 : Int)))) ∧ H 1 = (⟨1, true, false, 34, 2, [[(iV (o.i)), (V.sl (List.map cT (o.tr)))]]⟩ : Blk) ∧ H 4 = (⟨v4 + 1, true, false, 63, 2, [[(V.sl (List.map cI ((nth (o.tr) (k)).ni))), (V.sl (List.map cI ((nth (o.tr) (k)).no)))]]⟩ : Blk) ∧ True) ?_ ?_
  ·
   unfold r20_15
   refine R_mv t6 ?_
   refine R_neq (x := (prE ((nth (o.tr) (k))) ((o.i)))) (y := (0 : Int)) (@rfl V (iV (prE ((nth (o.tr) (k))) ((o.i))))) (@rfl V (iV (0 : Int))) ?_
   exact R_nil ⟨t1, t3, t4, t6, rfl, h1, h4, trivial⟩
  intro T H ⟨t1, t3, t4, t6, t48, h1, h4, _⟩
  refine W_seq_if (p := (prE ((nth (o.tr) (k))) ((o.i))) ≠ (0 : Int)) t48 (fun c10 => ?_) (fun c10 => ?_)
  ·
   refine W_seq_seq ?_
   refine W_seq_regc (fun T H => T 2 = (iV (prE ((nth (o.tr) (k))) ((o.i)))) ∧ H 1 = (⟨1, true, false, 34, 2, [[(iV (o.i)), (V.sl (List.map cT (o.tr)))]]⟩ : Blk) ∧ H 4 = (⟨v4 + 1, true, false, 63, 2, [[(V.sl (List.map cI ((nth (o.tr) (k)).ni))), (V.sl (List.map cI ((nth (o.tr) (k)).no)))]]⟩ : Blk) ∧ True) ?_ ?_
   ·
    unfold r20_16
    refine R_mv t6 ?_
    refine R_mv (@rfl V (iV (prE ((nth (o.tr) (k))) ((o.i))))) ?_
    exact R_nil ⟨rfl, h1, h4, trivial⟩
   intro T H ⟨t2, h1, h4, _⟩
   refine W_seq_ret ?_
   refine y7 _ _ ?_
   refine p25 _ _ ?_
   refine y4 _ _ ?_
   refine Ret_1 t2 (fz_int ?_)
   · have e : trE o k = prE (nth o.tr k) o.i := by rw [trE, if_neg (by omega), if_neg (by omega), if_pos (by omega)]
     have e2 : fe (trE o) 0 o.tr.length = trE o k := by rw [hc]; exact fe_hit (by omega) (by omega)
     rw [oval, if_neg (by omega), if_neg (by omega), if_pos (by omega)]; rw [e2, e]
  refine W_seq_skip ?_
  refine W_seq_regc (fun T H => T 1 = (V.mp 1 1 0 0) ∧ T 3 = (iV ((k : Nat) : Int)) ∧ T 64 = (V.bool (decide (((0 : Int) < ((k : Nat) : Int)) ∧ ((0 : Int) ≤ (slx ((nth (o.tr) (((k : Nat) : Int) - (1 : Int)).toNat).ni) ((nth (o.tr) (k)).ni)))))) ∧ H 1 = (⟨1, true, false, 34, 2, [[(iV (o.i)), (V.sl (List.map cT (o.tr)))]]⟩ : Blk) ∧ H 4 = (⟨v4 + 1, true, false, 63, 2, [[(V.sl (List.map cI ((nth (o.tr) (k)).ni))), (V.sl (List.map cI ((nth (o.tr) (k)).no)))]]⟩ : Blk) ∧ True) ?_ ?_
  ·
   unfold r20_17
   refine R_mv t3 ?_
   refine R_gtr (x := ((k : Nat) : Int)) (y := (0 : Int)) (@rfl V (iV ((k : Nat) : Int))) (@rfl V (iV (0 : Int))) ?_
   refine R_mv (@rfl V (V.bool (decide ((0 : Int) < ((k : Nat) : Int))))) ?_
   refine Ops_seg 12 (fun T H => T 1 = (V.mp 1 1 0 0) ∧ T 3 = (iV ((k : Nat) : Int)) ∧ T 64 = (V.bool (decide (((0 : Int) < ((k : Nat) : Int)) ∧ ((0 : Int) ≤ (slx ((nth (o.tr) (((k : Nat) : Int) - (1 : Int)).toNat).ni) ((nth (o.tr) (k)).ni)))))) ∧ H 1 = (⟨1, true, false, 34, 2, [[(iV (o.i)), (V.sl (List.map cT (o.tr)))]]⟩ : Blk) ∧ H 4 = (⟨v4 + 1, true, false, 63, 2, [[(V.sl (List.map cI ((nth (o.tr) (k)).ni))), (V.sl (List.map cI ((nth (o.tr) (k)).no)))]]⟩ : Blk) ∧ True) ?_ ?_
   ·
    by_cases g11 : (0 : Int) < ((k : Nat) : Int)
    ·
     refine G_yes (Eq.trans (@rfl V (V.bool (decide ((0 : Int) < ((k : Nat) : Int))))) (bdT g11)) ?_
     refine R_fld_mp (o' := 1) t1 h1 (by first | rfl | simp [okB, Blk.own]) rfl ?_
     refine G_yes (Eq.trans (@rfl V (V.bool (decide ((0 : Int) < ((k : Nat) : Int))))) (bdT g11)) ?_
     refine R_load_mp (v := (V.sl (List.map cT (o.tr)))) (@rfl V (V.mp 1 1 0 1)) h1 (by first | rfl | simp [ldB, ldV, Blk.own, V.one]) ?_
     refine G_yes (Eq.trans (@rfl V (V.bool (decide ((0 : Int) < ((k : Nat) : Int))))) (bdT g11)) ?_
     refine R_mv t3 ?_
     refine G_yes (Eq.trans (@rfl V (V.bool (decide ((0 : Int) < ((k : Nat) : Int))))) (bdT g11)) ?_
     refine R_sub (x := ((k : Nat) : Int)) (y := (1 : Int)) (@rfl V (iV ((k : Nat) : Int))) (@rfl V (iV (1 : Int))) (by omega) (by omega) ?_
     refine G_yes (Eq.trans (@rfl V (V.bool (decide ((0 : Int) < ((k : Nat) : Int))))) (bdT g11)) ?_
     refine R_idxI (i := (((k : Nat) : Int) - (1 : Int))) (@rfl V (V.sl (List.map cT (o.tr)))) (@rfl V (iV (((k : Nat) : Int) - (1 : Int)))) (by omega) (by omega) rfl ?_
     refine G_yes (Eq.trans (@rfl V (V.bool (decide ((0 : Int) < ((k : Nat) : Int))))) (bdT g11)) ?_
     refine R_fld_pp (cs' := [(V.sl (List.map cI ((nth (o.tr) (((k : Nat) : Int) - (1 : Int)).toNat).ni))), (V.sl (List.map cI ((nth (o.tr) (((k : Nat) : Int) - (1 : Int)).toNat).no)))]) (@rfl V (V.pp [(V.sl (List.map cI ((nth (o.tr) (((k : Nat) : Int) - (1 : Int)).toNat).ni))), (V.sl (List.map cI ((nth (o.tr) (((k : Nat) : Int) - (1 : Int)).toNat).no)))])) rfl ?_
     refine G_yes (Eq.trans (@rfl V (V.bool (decide ((0 : Int) < ((k : Nat) : Int))))) (bdT g11)) ?_
     refine R_load_pp (v := (V.sl (List.map cI ((nth (o.tr) (((k : Nat) : Int) - (1 : Int)).toNat).ni)))) (@rfl V (V.pp [(V.sl (List.map cI ((nth (o.tr) (((k : Nat) : Int) - (1 : Int)).toNat).ni))), (V.sl (List.map cI ((nth (o.tr) (((k : Nat) : Int) - (1 : Int)).toNat).no)))])) (by first | rfl | simp [ldV]) ?_
     refine G_yes (Eq.trans (@rfl V (V.bool (decide ((0 : Int) < ((k : Nat) : Int))))) (bdT g11)) ?_
     refine R_fld_mp (o' := 0) t4 h4 (by first | rfl | simp [okB, Blk.own]) rfl ?_
     refine G_yes (Eq.trans (@rfl V (V.bool (decide ((0 : Int) < ((k : Nat) : Int))))) (bdT g11)) ?_
     refine R_load_mp (v := (V.sl (List.map cI ((nth (o.tr) (k)).ni)))) (@rfl V (V.mp 4 (v4 + 1) 0 0)) h4 (by first | rfl | simp [ldB, ldV, Blk.own, V.one]) ?_
     refine G_yes (Eq.trans (@rfl V (V.bool (decide ((0 : Int) < ((k : Nat) : Int))))) (bdT g11)) ?_
     refine R_call (evcons (@rfl V (V.sl (List.map cI ((nth (o.tr) (((k : Nat) : Int) - (1 : Int)).toNat).ni)))) (evcons (@rfl V (V.sl (List.map cI ((nth (o.tr) (k)).ni)))) evnil)) (rcompare_pure ((nth (o.tr) (((k : Nat) : Int) - (1 : Int)).toNat).ni) ((nth (o.tr) (k)).ni)) (fzv_mapcanon _ _ (by simp [-List.map_take, -List.map_drop, -List.map_append, -List.map_reverse])) (by simp [-List.map_take, -List.map_drop, -List.map_append, -List.map_reverse]) (Or.inl (by simp [-List.map_take, -List.map_drop, -List.map_append, -List.map_reverse])) ?_
     refine G_yes (Eq.trans (@rfl V (V.bool (decide ((0 : Int) < ((k : Nat) : Int))))) (bdT g11)) ?_
     refine R_geq (x := (slx ((nth (o.tr) (((k : Nat) : Int) - (1 : Int)).toNat).ni) ((nth (o.tr) (k)).ni))) (y := (0 : Int)) (@rfl V (iV (slx ((nth (o.tr) (((k : Nat) : Int) - (1 : Int)).toNat).ni) ((nth (o.tr) (k)).ni)))) (@rfl V (iV (0 : Int))) ?_
     refine R_pickT (Eq.trans (@rfl V (V.bool (decide ((0 : Int) < ((k : Nat) : Int))))) (bdT g11)) (@rfl V (V.bool (decide ((0 : Int) ≤ (slx ((nth (o.tr) (((k : Nat) : Int) - (1 : Int)).toNat).ni) ((nth (o.tr) (k)).ni)))))) ?_
     exact ⟨t1, t3, (Eq.trans (@rfl V (V.bool (decide ((0 : Int) ≤ (slx ((nth (o.tr) (((k : Nat) : Int) - (1 : Int)).toNat).ni) ((nth (o.tr) (k)).ni)))))) (dec_andT g11)), h1, h4, trivial⟩
    ·
     refine G_no (Eq.trans (@rfl V (V.bool (decide ((0 : Int) < ((k : Nat) : Int))))) (bdF g11)) (by decide) ?_
     refine G_no (Eq.trans (@rfl V (V.bool (decide ((0 : Int) < ((k : Nat) : Int))))) (bdF g11)) (by decide) ?_
     refine G_no (Eq.trans (@rfl V (V.bool (decide ((0 : Int) < ((k : Nat) : Int))))) (bdF g11)) (by decide) ?_
     refine G_no (Eq.trans (@rfl V (V.bool (decide ((0 : Int) < ((k : Nat) : Int))))) (bdF g11)) (by decide) ?_
     refine G_no (Eq.trans (@rfl V (V.bool (decide ((0 : Int) < ((k : Nat) : Int))))) (bdF g11)) (by decide) ?_
     refine G_no (Eq.trans (@rfl V (V.bool (decide ((0 : Int) < ((k : Nat) : Int))))) (bdF g11)) (by decide) ?_
     refine G_no (Eq.trans (@rfl V (V.bool (decide ((0 : Int) < ((k : Nat) : Int))))) (bdF g11)) (by decide) ?_
     refine G_no (Eq.trans (@rfl V (V.bool (decide ((0 : Int) < ((k : Nat) : Int))))) (bdF g11)) (by decide) ?_
     refine G_no (Eq.trans (@rfl V (V.bool (decide ((0 : Int) < ((k : Nat) : Int))))) (bdF g11)) (by decide) ?_
     refine G_no (Eq.trans (@rfl V (V.bool (decide ((0 : Int) < ((k : Nat) : Int))))) (bdF g11)) (by decide) ?_
     refine G_no (Eq.trans (@rfl V (V.bool (decide ((0 : Int) < ((k : Nat) : Int))))) (bdF g11)) (by decide) ?_
     refine R_pickF (Eq.trans (@rfl V (V.bool (decide ((0 : Int) < ((k : Nat) : Int))))) (bdF g11)) (@rfl V (V.bool false)) ?_
     exact ⟨t1, t3, (Eq.trans (@rfl V (V.bool false)) (dec_andF g11)), h1, h4, trivial⟩
   intro T H ⟨t1, t3, t64, h1, h4, _⟩
   exact R_nil ⟨t1, t3, t64, h1, h4, trivial⟩
  intro T H ⟨t1, t3, t64, h1, h4, _⟩
  refine W_if (p := ((0 : Int) < ((k : Nat) : Int)) ∧ ((0 : Int) ≤ (slx ((nth (o.tr) (((k : Nat) : Int) - (1 : Int)).toNat).ni) ((nth (o.tr) (k)).ni)))) t64 (fun c12 => ?_) (fun c12 => ?_)
  ·
   rw [show (((k : Nat) : Int) - (1)).toNat = k - 1 by omega] at c12
   refine W_seq_regc (fun T H => T 2 = (iV (10 : Int)) ∧ H 1 = (⟨1, true, false, 34, 2, [[(iV (o.i)), (V.sl (List.map cT (o.tr)))]]⟩ : Blk) ∧ H 4 = (⟨v4 + 1, true, false, 63, 2, [[(V.sl (List.map cI ((nth (o.tr) (k)).ni))), (V.sl (List.map cI ((nth (o.tr) (k)).no)))]]⟩ : Blk) ∧ True) ?_ ?_
   ·
    unfold r20_18
    refine R_mv (@rfl V (iV (10 : Int))) ?_
    exact R_nil ⟨rfl, h1, h4, trivial⟩
   intro T H ⟨t2, h1, h4, _⟩
   refine W_ret ?_
   refine y7 _ _ ?_
   refine p25 _ _ ?_
   refine y4 _ _ ?_
   refine Ret_1 t2 (fz_int ?_)
   · have e : trE o k = 10 := by rw [trE, if_neg (by omega), if_neg (by omega), if_neg (by omega), if_pos (by omega)]
     have e2 : fe (trE o) 0 o.tr.length = trE o k := by rw [hc]; exact fe_hit (by omega) (by omega)
     rw [oval, if_neg (by omega), if_neg (by omega), if_pos (by omega)]; omega
  rw [show (((k : Nat) : Int) - (1)).toNat = k - 1 by omega] at c12
  refine W_skip ?_
  refine n7 _ _ ?_
  refine .done ?_
  refine W_regc (fun T H => T 1 = (V.mp 1 1 0 0) ∧ T 3 = (iV ((k + 1 : Nat) : Int)) ∧ H 1 = (⟨1, true, false, 34, 2, [[(iV (o.i)), (V.sl (List.map cT (o.tr)))]]⟩ : Blk) ∧ H 4 = (⟨v4 + 1, true, false, 63, 2, [[(V.sl (List.map cI ((nth (o.tr) (k)).ni))), (V.sl (List.map cI ((nth (o.tr) (k)).no)))]]⟩ : Blk) ∧ True) ?_ ?_
  ·
   unfold r20_7
   refine R_mv t3 ?_
   refine R_addN (m := k) (n := 1) (@rfl V (iV ((k : Nat) : Int))) (@rfl V (iV ((1 : Nat) : Int))) (by omega) ?_
   refine R_mv (@rfl V (iV ((k + 1 : Nat) : Int))) ?_
   exact R_nil ⟨t1, rfl, h1, h4, trivial⟩
  intro T H ⟨t1, t3, h1, h4, _⟩
  refine p15 _ _ _ ?_ ⟨(k + 1), (v4 + 1), rfl, t1, (Eq.trans t3 (by first | rfl | simp)), h1, (congrArg Blk.ver h4), ?_, ?_, ?_, ?_⟩
  · omega
  · omega
  · omega
  · have e : trE o k = 0 := by rw [trE, if_neg (by omega), if_neg (by omega), if_neg (by omega), if_neg (by omega)]
    rw [hc]; exact fe_skip e (by omega)
  · intro j hj
    by_cases e : j = k
    · subst e; exact (prE_ok (n := o.i) (by omega)).len
    · exact hpl j (by omega)
 refine W_seq_exit ?_
 refine p35 _ _ _ ?_
 refine x4 _ _ ?_
 refine .done ?_
 refine W_seq_regc (fun T H => T 2 = (iV (fe (apE o) 0 o.tr.length)) ∧ H 1 = (⟨1, true, false, 34, 2, [[(iV (o.i)), (V.sl (List.map cT (o.tr)))]]⟩ : Blk) ∧ (H 4).ver = v4 ∧ True) ?_ ?_
 ·
  unfold r20_19
  refine R_load_mp (v := (V.agg [(iV (o.i)), (V.sl (List.map cT (o.tr)))])) t1 h1 (by first | rfl | simp [ldB, ldV, Blk.own, V.one]) ?_
  refine R_call (evcons (@rfl V (V.agg [(iV (o.i)), (V.sl (List.map cT (o.tr)))])) evnil) (rapart_pure o (fun j hj => hpl j (by omega))) (fzv_mapcanon _ _ (by simp [-List.map_take, -List.map_drop, -List.map_append, -List.map_reverse])) (by simp [-List.map_take, -List.map_drop, -List.map_append, -List.map_reverse]) (Or.inl (by simp [-List.map_take, -List.map_drop, -List.map_append, -List.map_reverse])) ?_
  refine R_mv (@rfl V (iV (fe (apE o) 0 o.tr.length))) ?_
  exact R_nil ⟨rfl, h1, h4, trivial⟩
 intro T H ⟨t2, h1, h4, _⟩
 refine W_ret ?_
 refine Ret_1 t2 (fz_int ?_)
 · rw [oval, if_neg (by omega), if_neg (by omega), if_neg (by rw [hc, fe_end (by omega)]; omega)]

end Go.Proofs.Ytngkckefanbhgaa

namespace Go.Proofs.Ytngkckefanbhgaa
open Go Go.Proofs

theorem ints_pure (a b : List Int) : PureC Try.prog 25 [(V.sl (List.map cI (a))), (V.sl (List.map cI (b)))] (V.bool (decide (a = b))) := by
 refine pure_of_Wb true 6 Try.func25 s25_ok (by kernel_rfl) (by simp [s25]) (by simp) (by simp) fun hB => ?_
 simp only [bnd_map, bnd_int, bnd_bool, bnd_str, bnd_agg, bnd_pp, bnd_nil, bnd_cons, implies_true, and_true, true_and] at hB
 unfold s25
 dsimp only
 refine W_seq_regc (fun T H => T 0 = (V.sl (List.map cI (a))) ∧ T 1 = (V.sl (List.map cI (b))) ∧ True) ?_ ?_
 ·
  unfold r25_0
  refine R_mv (@rfl V (V.bool false)) ?_
  exact R_nil ⟨rfl, rfl, trivial⟩
 intro T H ⟨t0, t1, _⟩
 refine W_seq_seq ?_
 refine W_seq_regc (fun T H => T 0 = (V.sl (List.map cI (a))) ∧ T 1 = (V.sl (List.map cI (b))) ∧ T 10 = (V.bool (decide (((a.length : Nat) : Int) ≠ ((b.length : Nat) : Int)))) ∧ True) ?_ ?_
 ·
  unfold r25_1
  refine R_mv t0 ?_
  refine R_len (@rfl V (V.sl (List.map cI (a)))) ?_
  refine R_mv t1 ?_
  refine R_len (@rfl V (V.sl (List.map cI (b)))) ?_
  refine R_neq (x := ((a.length : Nat) : Int)) (y := ((b.length : Nat) : Int)) (@rfl V (iV ((a.length : Nat) : Int))) (@rfl V (iV ((b.length : Nat) : Int))) ?_
  exact R_nil ⟨t0, t1, rfl, trivial⟩
 intro T H ⟨t0, t1, t10, _⟩
 refine W_seq_if (p := ((a.length : Nat) : Int) ≠ ((b.length : Nat) : Int)) t10 (fun c1 => ?_) (fun c1 => ?_)
 ·
  refine W_seq_seq ?_
  refine W_seq_regc (fun T H => T 4 = (V.bool false) ∧ True) ?_ ?_
  ·
   unfold r25_2
   refine R_mv (@rfl V (V.bool false)) ?_
   exact R_nil ⟨rfl, trivial⟩
  intro T H ⟨t4, _⟩
  refine W_seq_ret ?_
  refine Ret_1 t4 (fz_bool ?_)
  · exact (decide_eq_false (fun e => by subst e; omega)).symm
 refine W_seq_skip ?_
 refine W_seq_seq ?_
 refine W_seq_regc (fun T H => T 0 = (V.sl (List.map cI (a))) ∧ T 1 = (V.sl (List.map cI (b))) ∧ T 5 = (iV (0 : Int)) ∧ True) ?_ ?_
 ·
  unfold r25_3
  refine R_mv (@rfl V (iV (0 : Int))) ?_
  exact R_nil ⟨t0, t1, rfl, trivial⟩
 intro T H ⟨t0, t1, t5, _⟩
 refine W_seq_blockg fun Q2 n2 x2 y2 z2 => ?_
 refine W_loop (fun mm T H => ∃ (k : Nat), mm = a.length - k ∧ T 0 = (V.sl (List.map cI (a))) ∧ T 1 = (V.sl (List.map cI (b))) ∧ T 5 = (iV ((k : Nat) : Int)) ∧ (k ≤ a.length) ∧ (a.length = b.length) ∧ (∀ j, j < k → nth a j = nth b j)) ?_ ?_
 ·
  refine ⟨_, 0, rfl, t0, t1, (Eq.trans t5 (by first | rfl | simp)), ?_, ?_, ?_⟩
  · omega
  · omega
  · intro j hj; omega
 intro mm T H ⟨k, hmm, t0, t1, t5, hk, hl, hc⟩ Q3 p13 p23 p33
 unfold b25_0
 refine W_seq_seq ?_
 refine W_seq_regc (fun T H => T 0 = (V.sl (List.map cI (a))) ∧ T 1 = (V.sl (List.map cI (b))) ∧ T 5 = (iV ((k : Nat) : Int)) ∧ T 14 = (V.bool (decide (((k : Nat) : Int) < ((a.length : Nat) : Int)))) ∧ True) ?_ ?_
 ·
  unfold r25_4
  refine R_mv t5 ?_
  refine R_mv t0 ?_
  refine R_len (@rfl V (V.sl (List.map cI (a)))) ?_
  refine R_lss (x := ((k : Nat) : Int)) (y := ((a.length : Nat) : Int)) (@rfl V (iV ((k : Nat) : Int))) (@rfl V (iV ((a.length : Nat) : Int))) ?_
  exact R_nil ⟨t0, t1, t5, rfl, trivial⟩
 intro T H ⟨t0, t1, t5, t14, _⟩
 refine W_seq_if (p := ((k : Nat) : Int) < ((a.length : Nat) : Int)) t14 (fun c4 => ?_) (fun c4 => ?_)
 ·
  refine W_seq_skip ?_
  refine W_seq_blockg fun Q5 n5 x5 y5 z5 => ?_
  refine W_seq_regc (fun T H => T 0 = (V.sl (List.map cI (a))) ∧ T 1 = (V.sl (List.map cI (b))) ∧ T 5 = (iV ((k : Nat) : Int)) ∧ T 25 = (V.bool (decide (((nth (a) (k))) ≠ ((nth (b) (k)))))) ∧ True) ?_ ?_
  ·
   unfold r25_6
   refine R_mv t0 ?_
   refine R_mv t5 ?_
   refine R_idx (i := k) (@rfl V (V.sl (List.map cI (a)))) (@rfl V (iV ((k : Nat) : Int))) (by omega) rfl ?_
   refine R_load_pp (v := (iV ((nth (a) (k))))) (@rfl V (V.pp [(iV ((nth (a) (k))))])) (by first | rfl | simp [ldV]) ?_
   refine R_mv t1 ?_
   refine R_mv t5 ?_
   refine R_idx (i := k) (@rfl V (V.sl (List.map cI (b)))) (@rfl V (iV ((k : Nat) : Int))) (by omega) rfl ?_
   refine R_load_pp (v := (iV ((nth (b) (k))))) (@rfl V (V.pp [(iV ((nth (b) (k))))])) (by first | rfl | simp [ldV]) ?_
   refine R_neq (x := ((nth (a) (k)))) (y := ((nth (b) (k)))) (@rfl V (iV ((nth (a) (k))))) (@rfl V (iV ((nth (b) (k))))) ?_
   exact R_nil ⟨t0, t1, t5, rfl, trivial⟩
  intro T H ⟨t0, t1, t5, t25, _⟩
  refine W_if (p := ((nth (a) (k))) ≠ ((nth (b) (k)))) t25 (fun c6 => ?_) (fun c6 => ?_)
  ·
   refine W_seq_regc (fun T H => T 4 = (V.bool false) ∧ True) ?_ ?_
   ·
    unfold r25_7
    refine R_mv (@rfl V (V.bool false)) ?_
    exact R_nil ⟨rfl, trivial⟩
   intro T H ⟨t4, _⟩
   refine W_ret ?_
   refine y5 _ _ ?_
   refine p23 _ _ ?_
   refine y2 _ _ ?_
   refine Ret_1 t4 (fz_bool ?_)
   · exact (decide_eq_false (fun e => by subst e; omega)).symm
  refine W_skip ?_
  refine n5 _ _ ?_
  refine .done ?_
  refine W_regc (fun T H => T 0 = (V.sl (List.map cI (a))) ∧ T 1 = (V.sl (List.map cI (b))) ∧ T 5 = (iV ((k + 1 : Nat) : Int)) ∧ True) ?_ ?_
  ·
   unfold r25_5
   refine R_mv t5 ?_
   refine R_addN (m := k) (n := 1) (@rfl V (iV ((k : Nat) : Int))) (@rfl V (iV ((1 : Nat) : Int))) (by omega) ?_
   refine R_mv (@rfl V (iV ((k + 1 : Nat) : Int))) ?_
   exact R_nil ⟨t0, t1, rfl, trivial⟩
  intro T H ⟨t0, t1, t5, _⟩
  refine p13 _ _ _ ?_ ⟨(k + 1), rfl, t0, t1, (Eq.trans t5 (by first | rfl | simp)), ?_, ?_, ?_⟩
  · omega
  · omega
  · omega
  · intro j hj
    by_cases e : j = k
    · subst e; omega
    · exact hc j (by omega)
 refine W_seq_exit ?_
 refine p33 _ _ _ ?_
 refine x2 _ _ ?_
 refine .done ?_
 refine W_seq_regc (fun T H => T 4 = (V.bool true) ∧ True) ?_ ?_
 ·
  unfold r25_8
  refine R_mv (@rfl V (V.bool true)) ?_
  exact R_nil ⟨rfl, trivial⟩
 intro T H ⟨t4, _⟩
 refine W_ret ?_
 refine Ret_1 t4 (fz_bool ?_)
 · exact (decide_eq_true (nth_ext hl fun j hj => hc j (by omega))).symm

end Go.Proofs.Ytngkckefanbhgaa

namespace Go.Proofs.Ytngkckefanbhgaa
open Go Go.Proofs

theorem long_pure (l : List (List Int)) : PureC Try.prog 26 [(V.sl (List.map cL (l)))] (V.bool (decide (200 < l.length ∨ fe (longE l) 0 l.length ≠ 0))) := by
 refine pure_of_Wb true 6 Try.func26 s26_ok (by kernel_rfl) (by simp [s26]) (by simp) (by simp) fun hB => ?_
 simp only [bnd_map, bnd_int, bnd_bool, bnd_str, bnd_agg, bnd_pp, bnd_nil, bnd_cons, implies_true, and_true, true_and] at hB
 unfold s26
 dsimp only
 refine W_seq_regc (fun T H => T 0 = (V.sl (List.map cL (l))) ∧ True) ?_ ?_
 ·
  unfold r26_0
  refine R_mv (@rfl V (V.bool false)) ?_
  exact R_nil ⟨rfl, trivial⟩
 intro T H ⟨t0, _⟩
 refine W_seq_seq ?_
 refine W_seq_regc (fun T H => T 0 = (V.sl (List.map cL (l))) ∧ T 6 = (V.bool (decide ((200 : Int) < ((l.length : Nat) : Int)))) ∧ True) ?_ ?_
 ·
  unfold r26_1
  refine R_mv t0 ?_
  refine R_len (@rfl V (V.sl (List.map cL (l)))) ?_
  refine R_gtr (x := ((l.length : Nat) : Int)) (y := (200 : Int)) (@rfl V (iV ((l.length : Nat) : Int))) (@rfl V (iV (200 : Int))) ?_
  exact R_nil ⟨t0, rfl, trivial⟩
 intro T H ⟨t0, t6, _⟩
 refine W_seq_if (p := (200 : Int) < ((l.length : Nat) : Int)) t6 (fun c1 => ?_) (fun c1 => ?_)
 ·
  refine W_seq_seq ?_
  refine W_seq_regc (fun T H => T 2 = (V.bool true) ∧ True) ?_ ?_
  ·
   unfold r26_2
   refine R_mv (@rfl V (V.bool true)) ?_
   exact R_nil ⟨rfl, trivial⟩
  intro T H ⟨t2, _⟩
  refine W_seq_ret ?_
  refine Ret_1 t2 (fz_bool ?_)
  · exact (decide_eq_true (Or.inl (by omega))).symm
 refine W_seq_skip ?_
 refine W_seq_seq ?_
 refine W_seq_regc (fun T H => T 0 = (V.sl (List.map cL (l))) ∧ T 3 = (iV (0 : Int)) ∧ True) ?_ ?_
 ·
  unfold r26_3
  refine R_mv (@rfl V (iV (0 : Int))) ?_
  exact R_nil ⟨t0, rfl, trivial⟩
 intro T H ⟨t0, t3, _⟩
 refine W_seq_blockg fun Q2 n2 x2 y2 z2 => ?_
 refine W_loop (fun mm T H => ∃ (k : Nat), mm = l.length - k ∧ T 0 = (V.sl (List.map cL (l))) ∧ T 3 = (iV ((k : Nat) : Int)) ∧ (k ≤ l.length) ∧ (l.length ≤ 200) ∧ (fe (longE l) 0 l.length = fe (longE l) k (l.length - k))) ?_ ?_
 ·
  refine ⟨_, 0, rfl, t0, (Eq.trans t3 (by first | rfl | simp)), ?_, ?_, ?_⟩
  · omega
  · omega
  · rfl
 intro mm T H ⟨k, hmm, t0, t3, hk, hl, hc⟩ Q3 p13 p23 p33
 unfold b26_0
 refine W_seq_seq ?_
 refine W_seq_regc (fun T H => T 0 = (V.sl (List.map cL (l))) ∧ T 3 = (iV ((k : Nat) : Int)) ∧ T 10 = (V.bool (decide (((k : Nat) : Int) < ((l.length : Nat) : Int)))) ∧ True) ?_ ?_
 ·
  unfold r26_4
  refine R_mv t3 ?_
  refine R_mv t0 ?_
  refine R_len (@rfl V (V.sl (List.map cL (l)))) ?_
  refine R_lss (x := ((k : Nat) : Int)) (y := ((l.length : Nat) : Int)) (@rfl V (iV ((k : Nat) : Int))) (@rfl V (iV ((l.length : Nat) : Int))) ?_
  exact R_nil ⟨t0, t3, rfl, trivial⟩
 intro T H ⟨t0, t3, t10, _⟩
 refine W_seq_if (p := ((k : Nat) : Int) < ((l.length : Nat) : Int)) t10 (fun c4 => ?_) (fun c4 => ?_)
 ·
  refine W_seq_skip ?_
  refine W_seq_blockg fun Q5 n5 x5 y5 z5 => ?_
  refine W_seq_regc (fun T H => T 0 = (V.sl (List.map cL (l))) ∧ T 3 = (iV ((k : Nat) : Int)) ∧ T 18 = (V.bool (decide ((200 : Int) < ((((nth (l) (k))).length : Nat) : Int)))) ∧ True) ?_ ?_
  ·
   unfold r26_6
   refine R_mv t0 ?_
   refine R_mv t3 ?_
   refine R_idx (i := k) (@rfl V (V.sl (List.map cL (l)))) (@rfl V (iV ((k : Nat) : Int))) (by omega) rfl ?_
   refine R_load_pp (v := (V.sl (List.map cI ((nth (l) (k)))))) (@rfl V (V.pp [(V.sl (List.map cI ((nth (l) (k)))))])) (by first | rfl | simp [ldV]) ?_
   refine R_len (@rfl V (V.sl (List.map cI ((nth (l) (k)))))) ?_
   refine R_gtr (x := ((((nth (l) (k))).length : Nat) : Int)) (y := (200 : Int)) (@rfl V (iV ((((nth (l) (k))).length : Nat) : Int))) (@rfl V (iV (200 : Int))) ?_
   exact R_nil ⟨t0, t3, rfl, trivial⟩
  intro T H ⟨t0, t3, t18, _⟩
  refine W_if (p := (200 : Int) < ((((nth (l) (k))).length : Nat) : Int)) t18 (fun c6 => ?_) (fun c6 => ?_)
  ·
   refine W_seq_regc (fun T H => T 2 = (V.bool true) ∧ True) ?_ ?_
   ·
    unfold r26_7
    refine R_mv (@rfl V (V.bool true)) ?_
    exact R_nil ⟨rfl, trivial⟩
   intro T H ⟨t2, _⟩
   refine W_ret ?_
   refine y5 _ _ ?_
   refine p23 _ _ ?_
   refine y2 _ _ ?_
   refine Ret_1 t2 (fz_bool ?_)
   · exact (decide_eq_true (Or.inr (by rw [hc, fe_hit (by unfold longE; split <;> omega) (by omega)]; unfold longE; split <;> omega))).symm
  refine W_skip ?_
  refine n5 _ _ ?_
  refine .done ?_
  refine W_regc (fun T H => T 0 = (V.sl (List.map cL (l))) ∧ T 3 = (iV ((k + 1 : Nat) : Int)) ∧ True) ?_ ?_
  ·
   unfold r26_5
   refine R_mv t3 ?_
   refine R_addN (m := k) (n := 1) (@rfl V (iV ((k : Nat) : Int))) (@rfl V (iV ((1 : Nat) : Int))) (by omega) ?_
   refine R_mv (@rfl V (iV ((k + 1 : Nat) : Int))) ?_
   exact R_nil ⟨t0, rfl, trivial⟩
  intro T H ⟨t0, t3, _⟩
  refine p13 _ _ _ ?_ ⟨(k + 1), rfl, t0, (Eq.trans t3 (by first | rfl | simp)), ?_, ?_, ?_⟩
  · omega
  · omega
  · omega
  · rw [hc, fe_skip (by unfold longE; split <;> omega) (by omega)]
 refine W_seq_exit ?_
 refine p33 _ _ _ ?_
 refine x2 _ _ ?_
 refine .done ?_
 refine W_seq_regc (fun T H => T 2 = (V.bool false) ∧ True) ?_ ?_
 ·
  unfold r26_8
  refine R_mv (@rfl V (V.bool false)) ?_
  exact R_nil ⟨rfl, trivial⟩
 intro T H ⟨t2, _⟩
 refine W_ret ?_
 refine Ret_1 t2 (fz_bool ?_)
 · exact (decide_eq_false (by rw [hc, fe_end (by omega)]; omega)).symm

end Go.Proofs.Ytngkckefanbhgaa

namespace Go.Proofs.Ytngkckefanbhgaa
open Go Go.Proofs

theorem clone_pure (l : List Int) (hl : l.length ≤ 4294967296) : PureC Try.prog 63 [(V.sl (List.map cI (l)))] (V.sl (List.map cI (l))) := by
 refine pure_of_Wb true 6 Try.func63 s63_ok (by kernel_rfl) (by simp [s63]) (by simp) (by simp) fun hB => ?_
 simp only [bnd_map, bnd_int, bnd_bool, bnd_str, bnd_agg, bnd_pp, bnd_nil, bnd_cons, implies_true, and_true, true_and] at hB
 unfold s63
 dsimp only
 refine W_seq_regc (fun T H => T 0 = (V.sl (List.map cI (l))) ∧ H 5 = (⟨0, false, false, 0, 0, []⟩ : Blk) ∧ True) ?_ ?_
 ·
  unfold r63_0
  refine R_mv (@rfl V V.nilsl) ?_
  exact R_nil ⟨rfl, rfl, trivial⟩
 intro T H ⟨t0, h5, _⟩
 refine W_seq_seq ?_
 refine W_seq_reg fun K hK => ?_
 unfold r63_1
 refine R_mv t0 ?_
 refine R_isnil_sl (@rfl V (V.sl (List.map cI (l)))) (fun e1 => ?_) ?_
 ·
  replace e1 := List.map_eq_nil_iff.1 e1
  refine R_nil (hK _ _ ?_); clear hK K
  refine fork_ (R := fun T H => T 0 = (V.sl (List.map cI (l))) ∧ T 4 = (V.bool true) ∧ H 5 = (⟨0, false, false, 0, 0, []⟩ : Blk) ∧ True) ⟨t0, rfl, h5, trivial⟩ ?_
  intro T H ⟨t0, t4, h5, _⟩
  refine W_seq_ifb t4 (fun c4 => ?_) (fun c4 => ?_)
  ·
   refine W_seq_seq ?_
   refine W_seq_regc (fun T H => T 2 = V.nilsl ∧ H 5 = (⟨0, false, false, 0, 0, []⟩ : Blk) ∧ True) ?_ ?_
   ·
    unfold r63_2
    refine R_mv (@rfl V V.nilsl) ?_
    exact R_nil ⟨rfl, h5, trivial⟩
   intro T H ⟨t2, h5, _⟩
   refine W_seq_ret ?_
   refine Ret_1 t2 (fz_nil ?_)
   · exact e1
  · cases c4
 ·
  refine R_nil (hK _ _ ?_); clear hK K
  refine fork_ (R := fun T H => T 0 = (V.sl (List.map cI (l))) ∧ T 4 = (V.bool false) ∧ H 5 = (⟨0, false, false, 0, 0, []⟩ : Blk) ∧ True) ⟨t0, rfl, h5, trivial⟩ ?_
  intro T H ⟨t0, t4, h5, _⟩
  refine W_seq_ifb t4 (fun c7 => ?_) (fun c7 => ?_)
  · cases c7
  refine W_seq_skip ?_
  refine W_seq_regc (fun T H => T 2 = (V.ms 5 2 0 (0 + (l).length)) ∧ H 5 = (⟨2, true, false, 3, 1, (List.map cI ([] ++ l))⟩ : Blk) ∧ True) ?_ ?_
  ·
   unfold r63_3
   refine R_bslice_own (i := 5) (n := 0) (qs := []) (rows := []) rfl (congrArg Blk.ver h5) rfl rfl ?_
   refine R_mv t0 ?_
   refine R_appendS (l := ([])) (m := l) (f := cI) (@rfl V (V.ms 5 1 0 (0))) (show _ = (⟨1, true, false, 3, 1, (List.map cI ([]))⟩ : Blk) from (@rfl Blk (⟨1, true, false, 3, 1, []⟩ : Blk))) (by first | rfl | simp) (@rfl V (V.sl (List.map cI (l)))) (fun _ => rfl) (fun _ => rfl) (by omega) (by omega) ?_
   refine R_mv (@rfl V (V.ms 5 2 0 (0 + (l).length))) ?_
   exact R_nil ⟨rfl, rfl, trivial⟩
  intro T H ⟨t2, h5, _⟩
  refine W_ret ?_
  refine Ret_1 t2 (fz_ms h5 (by first | rfl | simp) (l := ([] ++ l)) rfl (by first | rfl | simp) (fun _ => by simp) ?_)
  · rfl

end Go.Proofs.Ytngkckefanbhgaa

namespace Go.Proofs.Ytngkckefanbhgaa
open Go Go.Proofs

theorem hdiffer_pure (a b : List Int) : PureC Try.prog 64 [(V.sl (List.map cI (a))), (V.sl (List.map cI (b)))] (V.tup [(iV ((difn a b : Nat) : Int)), (V.bool (decide (cmn a b < min a.length b.length)))]) := by
 refine pure_of_Wb true 6 Try.func64 s64_ok (by kernel_rfl) (by simp [s64]) (by simp) (by simp) fun hB => ?_
 simp only [bnd_map, bnd_int, bnd_bool, bnd_str, bnd_agg, bnd_pp, bnd_nil, bnd_cons, implies_true, and_true, true_and] at hB
 unfold s64
 dsimp only
 refine W_seq_regc (fun T H => T 0 = (V.sl (List.map cI (a))) ∧ T 1 = (V.sl (List.map cI (b))) ∧ True) ?_ ?_
 ·
  unfold r64_0
  refine R_mv (@rfl V (iV (0 : Int))) ?_
  refine R_mv (@rfl V (V.bool false)) ?_
  exact R_nil ⟨rfl, rfl, trivial⟩
 intro T H ⟨t0, t1, _⟩
 refine W_seq_seq ?_
 refine W_seq_regc (fun T H => T 0 = (V.sl (List.map cI (a))) ∧ T 1 = (V.sl (List.map cI (b))) ∧ T 11 = (iV ((min a.length b.length : Nat) : Int)) ∧ T 12 = (iV (0 : Int)) ∧ True) ?_ ?_
 ·
  unfold r64_1
  refine R_mv t0 ?_
  refine R_len (@rfl V (V.sl (List.map cI (a)))) ?_
  refine R_mv t1 ?_
  refine R_len (@rfl V (V.sl (List.map cI (b)))) ?_
  refine R_mnN (m := a.length) (n := b.length) (@rfl V (iV ((a.length : Nat) : Int))) (@rfl V (iV ((b.length : Nat) : Int))) ?_
  refine R_mv (@rfl V (iV (0 : Int))) ?_
  exact R_nil ⟨t0, t1, rfl, rfl, trivial⟩
 intro T H ⟨t0, t1, t11, t12, _⟩
 refine W_seq_blockg fun Q1 n1 x1 y1 z1 => ?_
 refine W_loop (fun mm T H => ∃ (k : Nat), mm = (min a.length b.length) - k ∧ T 0 = (V.sl (List.map cI (a))) ∧ T 1 = (V.sl (List.map cI (b))) ∧ T 11 = (iV ((min a.length b.length : Nat) : Int)) ∧ T 12 = (iV ((k : Nat) : Int)) ∧ (k ≤ min a.length b.length) ∧ (k ≤ cmn a b)) ?_ ?_
 ·
  refine ⟨_, 0, rfl, t0, t1, t11, (Eq.trans t12 (by first | rfl | simp)), ?_, ?_⟩
  · omega
  · exact Nat.zero_le _
 intro mm T H ⟨k, hmm, t0, t1, t11, t12, hk, hc⟩ Q2 p12 p22 p32
 unfold b64_0
 refine W_seq_regc (fun T H => T 0 = (V.sl (List.map cI (a))) ∧ T 1 = (V.sl (List.map cI (b))) ∧ T 11 = (iV ((min a.length b.length : Nat) : Int)) ∧ T 12 = (iV ((k : Nat) : Int)) ∧ T 13 = (V.bool (decide (((k : Nat) : Int) < ((min a.length b.length : Nat) : Int)))) ∧ True) ?_ ?_
 ·
  unfold r64_2
  refine R_lss (x := ((k : Nat) : Int)) (y := ((min a.length b.length : Nat) : Int)) t12 t11 ?_
  exact R_nil ⟨t0, t1, t11, t12, rfl, trivial⟩
 intro T H ⟨t0, t1, t11, t12, t13, _⟩
 refine W_seq_if (p := ((k : Nat) : Int) < ((min a.length b.length : Nat) : Int)) t13 (fun c3 => ?_) (fun c3 => ?_)
 ·
  refine W_seq_skip ?_
  refine W_seq_blockg fun Q4 n4 x4 y4 z4 => ?_
  refine W_seq_regc (fun T H => T 0 = (V.sl (List.map cI (a))) ∧ T 1 = (V.sl (List.map cI (b))) ∧ T 6 = (iV ((k : Nat) : Int)) ∧ T 11 = (iV ((min a.length b.length : Nat) : Int)) ∧ T 12 = (iV ((k : Nat) : Int)) ∧ True) ?_ ?_
  ·
   unfold r64_3
   refine R_mv t12 ?_
   refine R_mv (@rfl V (iV ((k : Nat) : Int))) ?_
   exact R_nil ⟨t0, t1, rfl, t11, t12, trivial⟩
  intro T H ⟨t0, t1, t6, t11, t12, _⟩
  refine W_seq_regc (fun T H => T 0 = (V.sl (List.map cI (a))) ∧ T 1 = (V.sl (List.map cI (b))) ∧ T 6 = (iV ((k : Nat) : Int)) ∧ T 11 = (iV ((min a.length b.length : Nat) : Int)) ∧ T 12 = (iV ((k : Nat) : Int)) ∧ T 23 = (V.bool (decide (((nth (a) (k))) ≠ ((nth (b) (k)))))) ∧ True) ?_ ?_
  ·
   unfold r64_4
   refine R_mv t0 ?_
   refine R_mv t6 ?_
   refine R_idx (i := k) (@rfl V (V.sl (List.map cI (a)))) (@rfl V (iV ((k : Nat) : Int))) (by omega) rfl ?_
   refine R_load_pp (v := (iV ((nth (a) (k))))) (@rfl V (V.pp [(iV ((nth (a) (k))))])) (by first | rfl | simp [ldV]) ?_
   refine R_mv t1 ?_
   refine R_mv t6 ?_
   refine R_idx (i := k) (@rfl V (V.sl (List.map cI (b)))) (@rfl V (iV ((k : Nat) : Int))) (by omega) rfl ?_
   refine R_load_pp (v := (iV ((nth (b) (k))))) (@rfl V (V.pp [(iV ((nth (b) (k))))])) (by first | rfl | simp [ldV]) ?_
   refine R_neq (x := ((nth (a) (k)))) (y := ((nth (b) (k)))) (@rfl V (iV ((nth (a) (k))))) (@rfl V (iV ((nth (b) (k))))) ?_
   exact R_nil ⟨t0, t1, t6, t11, t12, rfl, trivial⟩
  intro T H ⟨t0, t1, t6, t11, t12, t23, _⟩
  refine W_if (p := ((nth (a) (k))) ≠ ((nth (b) (k)))) t23 (fun c5 => ?_) (fun c5 => ?_)
  ·
   refine W_seq_regc (fun T H => T 4 = (iV ((k : Nat) : Int)) ∧ T 5 = (V.bool true) ∧ True) ?_ ?_
   ·
    unfold r64_5
    refine R_mv t6 ?_
    refine R_mv (@rfl V (iV ((k : Nat) : Int))) ?_
    refine R_mv (@rfl V (V.bool true)) ?_
    exact R_nil ⟨rfl, rfl, trivial⟩
   intro T H ⟨t4, t5, _⟩
   refine W_ret ?_
   refine y4 _ _ ?_
   refine p22 _ _ ?_
   refine y1 _ _ ?_
   refine Ret_2 t4 t5 (fz_int ?_) (fz_bool ?_)
   · rw [difn, cmn_at hc (by omega), if_pos (by omega)]
   · exact (decide_eq_true (by rw [cmn_at hc (by omega)]; omega)).symm
  refine W_skip ?_
  refine n4 _ _ ?_
  refine .done ?_
  refine W_regc (fun T H => T 0 = (V.sl (List.map cI (a))) ∧ T 1 = (V.sl (List.map cI (b))) ∧ T 11 = (iV ((min a.length b.length : Nat) : Int)) ∧ T 12 = (iV ((k + 1 : Nat) : Int)) ∧ True) ?_ ?_
  ·
   unfold r64_6
   refine R_addN (m := k) (n := 1) t12 (@rfl V (iV ((1 : Nat) : Int))) (by omega) ?_
   refine R_mv (@rfl V (iV ((k + 1 : Nat) : Int))) ?_
   exact R_nil ⟨t0, t1, t11, rfl, trivial⟩
  intro T H ⟨t0, t1, t11, t12, _⟩
  refine p12 _ _ _ ?_ ⟨(k + 1), rfl, t0, t1, t11, (Eq.trans t12 (by first | rfl | simp)), ?_, ?_⟩
  · omega
  · omega
  · exact cmn_next hc (by omega) (by omega) (by omega)
 refine W_seq_exit ?_
 refine p32 _ _ _ ?_
 refine x1 _ _ ?_
 refine .done ?_
 refine W_seq_regc (fun T H => T 4 = (iV (0 : Int)) ∧ T 5 = (V.bool false) ∧ True) ?_ ?_
 ·
  unfold r64_7
  refine R_mv (@rfl V (iV (0 : Int))) ?_
  refine R_mv (@rfl V (V.bool false)) ?_
  exact R_nil ⟨rfl, rfl, trivial⟩
 intro T H ⟨t4, t5, _⟩
 refine W_ret ?_
 refine Ret_2 t4 t5 (fz_int ?_) (fz_bool ?_)
 · rw [difn, cmn_at hc (by omega), if_neg (by omega)]; rfl
 · exact (decide_eq_false (by rw [cmn_at hc (by omega)]; omega)).symm

end Go.Proofs.Ytngkckefanbhgaa

namespace Go.Proofs.Ytngkckefanbhgaa
open Go Go.Proofs

theorem cmpor_pure (l : List Int) (hl : l.length < 4294967296) : PureC Try.prog 99 [(V.sl (List.map cI (l)))] (iV (orI l)) := by
 refine pure_of_Wb true 6 Try.func99 s99_ok (by kernel_rfl) (by simp [s99]) (by simp) (by simp) fun hB => ?_
 simp only [bnd_map, bnd_int, bnd_bool, bnd_str, bnd_agg, bnd_pp, bnd_nil, bnd_cons, implies_true, and_true, true_and] at hB
 unfold s99
 dsimp only
 refine W_seq_regc (fun T H => T 0 = (V.sl (List.map cI (l))) ∧ True) ?_ ?_
 ·
  unfold r99_0
  refine R_mv (@rfl V (iV (0 : Int))) ?_
  exact R_nil ⟨rfl, trivial⟩
 intro T H ⟨t0, _⟩
 refine W_seq_regc (fun T H => T 0 = (V.sl (List.map cI (l))) ∧ T 3 = (iV (0 : Int)) ∧ True) ?_ ?_
 ·
  unfold r99_1
  refine R_mv (@rfl V (iV (0 : Int))) ?_
  exact R_nil ⟨t0, rfl, trivial⟩
 intro T H ⟨t0, t3, _⟩
 refine W_seq_seq ?_
 refine W_seq_regc (fun T H => T 3 = (iV (0 : Int)) ∧ T 6 = (V.sl (List.map cI (l))) ∧ T 7 = (iV ((l.length : Nat) : Int)) ∧ T 8 = (iV (0 : Int)) ∧ True) ?_ ?_
 ·
  unfold r99_2
  refine R_mv t0 ?_
  refine R_len (@rfl V (V.sl (List.map cI (l)))) ?_
  refine R_mv (@rfl V (iV (0 : Int))) ?_
  exact R_nil ⟨t3, rfl, rfl, rfl, trivial⟩
 intro T H ⟨t3, t6, t7, t8, _⟩
 refine W_seq_blockg fun Q1 n1 x1 y1 z1 => ?_
 refine W_loop (fun mm T H => ∃ (k : Nat), mm = l.length - k ∧ T 3 = (iV (0 : Int)) ∧ T 6 = (V.sl (List.map cI (l))) ∧ T 7 = (iV ((l.length : Nat) : Int)) ∧ T 8 = (iV ((k : Nat) : Int)) ∧ (k ≤ l.length) ∧ (orI l = orI (l.drop k))) ?_ ?_
 ·
  refine ⟨_, 0, rfl, t3, t6, t7, (Eq.trans t8 (by first | rfl | simp)), ?_, ?_⟩
  · omega
  · rfl
 intro mm T H ⟨k, hmm, t3, t6, t7, t8, hk, hc⟩ Q2 p12 p22 p32
 unfold b99_0
 refine W_seq_regc (fun T H => T 3 = (iV (0 : Int)) ∧ T 6 = (V.sl (List.map cI (l))) ∧ T 7 = (iV ((l.length : Nat) : Int)) ∧ T 8 = (iV ((k : Nat) : Int)) ∧ T 9 = (V.bool (decide (((k : Nat) : Int) < ((l.length : Nat) : Int)))) ∧ True) ?_ ?_
 ·
  unfold r99_3
  refine R_lss (x := ((k : Nat) : Int)) (y := ((l.length : Nat) : Int)) t8 t7 ?_
  exact R_nil ⟨t3, t6, t7, t8, rfl, trivial⟩
 intro T H ⟨t3, t6, t7, t8, t9, _⟩
 refine W_seq_if (p := ((k : Nat) : Int) < ((l.length : Nat) : Int)) t9 (fun c3 => ?_) (fun c3 => ?_)
 ·
  refine W_seq_skip ?_
  refine W_seq_blockg fun Q4 n4 x4 y4 z4 => ?_
  refine W_seq_regc (fun T H => T 3 = (iV (0 : Int)) ∧ T 5 = (iV ((nth (l) (k)))) ∧ T 6 = (V.sl (List.map cI (l))) ∧ T 7 = (iV ((l.length : Nat) : Int)) ∧ T 8 = (iV ((k : Nat) : Int)) ∧ True) ?_ ?_
  ·
   unfold r99_4
   refine R_idx (i := k) t6 t8 (by omega) rfl ?_
   refine R_load_pp (v := (iV ((nth (l) (k))))) (@rfl V (V.pp [(iV ((nth (l) (k))))])) (by first | rfl | simp [ldV]) ?_
   refine R_mv (@rfl V (iV ((nth (l) (k))))) ?_
   exact R_nil ⟨t3, rfl, t6, t7, t8, trivial⟩
  intro T H ⟨t3, t5, t6, t7, t8, _⟩
  refine W_seq_regc (fun T H => T 3 = (iV (0 : Int)) ∧ T 5 = (iV ((nth (l) (k)))) ∧ T 6 = (V.sl (List.map cI (l))) ∧ T 7 = (iV ((l.length : Nat) : Int)) ∧ T 8 = (iV ((k : Nat) : Int)) ∧ T 14 = (V.bool (decide (((nth (l) (k))) ≠ (0 : Int)))) ∧ True) ?_ ?_
  ·
   unfold r99_5
   refine R_mv t5 ?_
   refine R_mv t3 ?_
   refine R_neq (x := ((nth (l) (k)))) (y := (0 : Int)) (@rfl V (iV ((nth (l) (k))))) (@rfl V (iV (0 : Int))) ?_
   exact R_nil ⟨t3, t5, t6, t7, t8, rfl, trivial⟩
  intro T H ⟨t3, t5, t6, t7, t8, t14, _⟩
  refine W_if (p := ((nth (l) (k))) ≠ (0 : Int)) t14 (fun c5 => ?_) (fun c5 => ?_)
  ·
   refine W_seq_regc (fun T H => T 2 = (iV ((nth (l) (k)))) ∧ True) ?_ ?_
   ·
    unfold r99_6
    refine R_mv t5 ?_
    refine R_mv (@rfl V (iV ((nth (l) (k))))) ?_
    exact R_nil ⟨rfl, trivial⟩
   intro T H ⟨t2, _⟩
   refine W_ret ?_
   refine y4 _ _ ?_
   refine p22 _ _ ?_
   refine y1 _ _ ?_
   refine Ret_1 t2 (fz_int ?_)
   · rw [hc, orI_drop (by omega), if_neg (by omega)]
  refine W_skip ?_
  refine n4 _ _ ?_
  refine .done ?_
  refine W_regc (fun T H => T 3 = (iV (0 : Int)) ∧ T 6 = (V.sl (List.map cI (l))) ∧ T 7 = (iV ((l.length : Nat) : Int)) ∧ T 8 = (iV ((k + 1 : Nat) : Int)) ∧ True) ?_ ?_
  ·
   unfold r99_7
   refine R_addN (m := k) (n := 1) t8 (@rfl V (iV ((1 : Nat) : Int))) (by omega) ?_
   refine R_mv (@rfl V (iV ((k + 1 : Nat) : Int))) ?_
   exact R_nil ⟨t3, t6, t7, rfl, trivial⟩
  intro T H ⟨t3, t6, t7, t8, _⟩
  refine p12 _ _ _ ?_ ⟨(k + 1), rfl, t3, t6, t7, (Eq.trans t8 (by first | rfl | simp)), ?_, ?_⟩
  · omega
  · omega
  · rw [hc, orI_drop (by omega), if_pos (by omega)]
 refine W_seq_exit ?_
 refine p32 _ _ _ ?_
 refine x1 _ _ ?_
 refine .done ?_
 refine W_seq_regc (fun T H => T 2 = (iV (0 : Int)) ∧ True) ?_ ?_
 ·
  unfold r99_8
  refine R_mv t3 ?_
  refine R_mv (@rfl V (iV (0 : Int))) ?_
  exact R_nil ⟨rfl, trivial⟩
 intro T H ⟨t2, _⟩
 refine W_ret ?_
 refine Ret_1 t2 (fz_int ?_)
 · rw [hc, List.drop_of_length_le (by omega)]; rfl

end Go.Proofs.Ytngkckefanbhgaa

namespace Go.Proofs.Ytngkckefanbhgaa
open Go Go.Proofs

theorem isnan_pure (n : Int) : PureC Try.prog 114 [(iV (n))] (V.bool false) := by
 refine pure_of_Wb true 6 Try.func114 s114_ok (by kernel_rfl) (by simp [s114]) (by simp) (by simp) fun hB => ?_
 simp only [bnd_map, bnd_int, bnd_bool, bnd_str, bnd_agg, bnd_pp, bnd_nil, bnd_cons, implies_true, and_true, true_and] at hB
 unfold s114
 dsimp only
 refine W_seq_regc (fun T H => T 0 = (iV (n)) ∧ True) ?_ ?_
 ·
  unfold r114_0
  refine R_mv (@rfl V (V.bool false)) ?_
  exact R_nil ⟨rfl, trivial⟩
 intro T H ⟨t0, _⟩
 refine W_seq_regc (fun T H => T 2 = (V.bool (decide ((n) ≠ (n)))) ∧ True) ?_ ?_
 ·
  unfold r114_1
  refine R_mv t0 ?_
  refine R_mv t0 ?_
  refine R_neq (x := (n)) (y := (n)) (@rfl V (iV (n))) (@rfl V (iV (n))) ?_
  refine R_mv (@rfl V (V.bool (decide ((n) ≠ (n))))) ?_
  exact R_nil ⟨rfl, trivial⟩
 intro T H ⟨t2, _⟩
 refine W_ret ?_
 refine Ret_1 t2 (fz_bool ?_)
 · simp

end Go.Proofs.Ytngkckefanbhgaa

namespace Go.Proofs.Ytngkckefanbhgaa
open Go Go.Proofs

theorem cmpint_pure (x y : Int) : PureC Try.prog 100 [(iV (x)), (iV (y))] (iV (cmpI x y)) := by
 refine pure_of_Wb true 6 Try.func100 s100_ok (by kernel_rfl) (by simp [s100]) (by simp) (by simp) fun hB => ?_
 simp only [bnd_map, bnd_int, bnd_bool, bnd_str, bnd_agg, bnd_pp, bnd_nil, bnd_cons, implies_true, and_true, true_and] at hB
 unfold s100
 dsimp only
 refine W_seq_regc (fun T H => T 0 = (iV (x)) ∧ T 1 = (iV (y)) ∧ True) ?_ ?_
 ·
  unfold r100_0
  refine R_mv (@rfl V (iV (0 : Int))) ?_
  exact R_nil ⟨rfl, rfl, trivial⟩
 intro T H ⟨t0, t1, _⟩
 refine W_seq_regc (fun T H => T 0 = (iV (x)) ∧ T 1 = (iV (y)) ∧ T 5 = (V.bool false) ∧ True) ?_ ?_
 ·
  unfold r100_1
  refine R_mv t0 ?_
  refine R_call (evcons (@rfl V (iV (x))) evnil) (isnan_pure ((x))) (fzv_mapcanon _ _ (by simp [-List.map_take, -List.map_drop, -List.map_append, -List.map_reverse])) (by simp [-List.map_take, -List.map_drop, -List.map_append, -List.map_reverse]) (Or.inl (by simp [-List.map_take, -List.map_drop, -List.map_append, -List.map_reverse])) ?_
  refine R_mv (@rfl V (V.bool false)) ?_
  exact R_nil ⟨t0, t1, rfl, trivial⟩
 intro T H ⟨t0, t1, t5, _⟩
 refine W_seq_regc (fun T H => T 0 = (iV (x)) ∧ T 1 = (iV (y)) ∧ T 5 = (V.bool false) ∧ T 6 = (V.bool false) ∧ True) ?_ ?_
 ·
  unfold r100_2
  refine R_mv t1 ?_
  refine R_call (evcons (@rfl V (iV (y))) evnil) (isnan_pure ((y))) (fzv_mapcanon _ _ (by simp [-List.map_take, -List.map_drop, -List.map_append, -List.map_reverse])) (by simp [-List.map_take, -List.map_drop, -List.map_append, -List.map_reverse]) (Or.inl (by simp [-List.map_take, -List.map_drop, -List.map_append, -List.map_reverse])) ?_
  refine R_mv (@rfl V (V.bool false)) ?_
  exact R_nil ⟨t0, t1, t5, rfl, trivial⟩
 intro T H ⟨t0, t1, t5, t6, _⟩
 refine W_seq_seq ?_
 refine W_seq_regc (fun T H => T 0 = (iV (x)) ∧ T 1 = (iV (y)) ∧ T 6 = (V.bool false) ∧ T 11 = (V.bool false) ∧ True) ?_ ?_
 ·
  unfold r100_3
  refine R_mv t5 ?_
  exact R_nil ⟨t0, t1, t6, rfl, trivial⟩
 intro T H ⟨t0, t1, t6, t11, _⟩
 refine W_seq_ifb t11 (fun c1 => ?_) (fun c1 => ?_)
 · cases c1
 refine W_seq_skip ?_
 refine W_seq_seq ?_
 refine W_seq_regc (fun T H => T 0 = (iV (x)) ∧ T 1 = (iV (y)) ∧ T 13 = (V.bool false) ∧ True) ?_ ?_
 ·
  unfold r100_7
  refine R_mv t6 ?_
  exact R_nil ⟨t0, t1, rfl, trivial⟩
 intro T H ⟨t0, t1, t13, _⟩
 refine W_seq_ifb t13 (fun c2 => ?_) (fun c2 => ?_)
 · cases c2
 refine W_seq_skip ?_
 refine W_seq_seq ?_
 refine W_seq_regc (fun T H => T 0 = (iV (x)) ∧ T 1 = (iV (y)) ∧ T 16 = (V.bool (decide ((x) < (y)))) ∧ True) ?_ ?_
 ·
  unfold r100_9
  refine R_mv t0 ?_
  refine R_mv t1 ?_
  refine R_lss (x := (x)) (y := (y)) (@rfl V (iV (x))) (@rfl V (iV (y))) ?_
  exact R_nil ⟨t0, t1, rfl, trivial⟩
 intro T H ⟨t0, t1, t16, _⟩
 refine W_seq_if (p := (x) < (y)) t16 (fun c3 => ?_) (fun c3 => ?_)
 ·
  refine W_seq_seq ?_
  refine W_seq_regc (fun T H => T 4 = (iV (-1 : Int)) ∧ True) ?_ ?_
  ·
   unfold r100_10
   refine R_mv (@rfl V (iV (-1 : Int))) ?_
   exact R_nil ⟨rfl, trivial⟩
  intro T H ⟨t4, _⟩
  refine W_seq_ret ?_
  refine Ret_1 t4 (fz_int ?_)
  · unfold cmpI; repeat (split <;> first | rfl | omega | skip)
 refine W_seq_skip ?_
 refine W_seq_seq ?_
 refine W_seq_regc (fun T H => T 19 = (V.bool (decide ((y) < (x)))) ∧ True) ?_ ?_
 ·
  unfold r100_11
  refine R_mv t0 ?_
  refine R_mv t1 ?_
  refine R_gtr (x := (x)) (y := (y)) (@rfl V (iV (x))) (@rfl V (iV (y))) ?_
  exact R_nil ⟨rfl, trivial⟩
 intro T H ⟨t19, _⟩
 refine W_seq_if (p := (y) < (x)) t19 (fun c4 => ?_) (fun c4 => ?_)
 ·
  refine W_seq_seq ?_
  refine W_seq_regc (fun T H => T 4 = (iV (1 : Int)) ∧ True) ?_ ?_
  ·
   unfold r100_12
   refine R_mv (@rfl V (iV (1 : Int))) ?_
   exact R_nil ⟨rfl, trivial⟩
  intro T H ⟨t4, _⟩
  refine W_seq_ret ?_
  refine Ret_1 t4 (fz_int ?_)
  · unfold cmpI; repeat (split <;> first | rfl | omega | skip)
 refine W_seq_skip ?_
 refine W_seq_regc (fun T H => T 4 = (iV (0 : Int)) ∧ True) ?_ ?_
 ·
  unfold r100_13
  refine R_mv (@rfl V (iV (0 : Int))) ?_
  exact R_nil ⟨rfl, trivial⟩
 intro T H ⟨t4, _⟩
 refine W_ret ?_
 refine Ret_1 t4 (fz_int ?_)
 · unfold cmpI; repeat (split <;> first | rfl | omega | skip)

end Go.Proofs.Ytngkckefanbhgaa

namespace Go.Proofs.Ytngkckefanbhgaa
open Go Go.Proofs

theorem scompare_pure (a b : List Int) : PureC Try.prog 101 [(V.sl (List.map cI (a))), (V.sl (List.map cI (b)))] (iV (lexI a b)) := by
 refine pure_of_Wb true 6 Try.func101 s101_ok (by kernel_rfl) (by simp [s101]) (by simp) (by simp) fun hB => ?_
 simp only [bnd_map, bnd_int, bnd_bool, bnd_str, bnd_agg, bnd_pp, bnd_nil, bnd_cons, implies_true, and_true, true_and] at hB
 unfold s101
 dsimp only
 refine W_seq_regc (fun T H => T 0 = (V.sl (List.map cI (a))) ∧ T 1 = (V.sl (List.map cI (b))) ∧ True) ?_ ?_
 ·
  unfold r101_0
  refine R_mv (@rfl V (iV (0 : Int))) ?_
  exact R_nil ⟨rfl, rfl, trivial⟩
 intro T H ⟨t0, t1, _⟩
 refine W_seq_seq ?_
 refine W_seq_regc (fun T H => T 0 = (V.sl (List.map cI (a))) ∧ T 1 = (V.sl (List.map cI (b))) ∧ T 9 = (V.sl (List.map cI (a))) ∧ T 10 = (iV ((a.length : Nat) : Int)) ∧ T 11 = (iV (0 : Int)) ∧ True) ?_ ?_
 ·
  unfold r101_1
  refine R_mv t0 ?_
  refine R_len (@rfl V (V.sl (List.map cI (a)))) ?_
  refine R_mv (@rfl V (iV (0 : Int))) ?_
  exact R_nil ⟨t0, t1, rfl, rfl, rfl, trivial⟩
 intro T H ⟨t0, t1, t9, t10, t11, _⟩
 refine W_seq_blockg fun Q1 n1 x1 y1 z1 => ?_
 refine W_loop (fun mm T H => ∃ (k : Nat), mm = a.length - k ∧ T 0 = (V.sl (List.map cI (a))) ∧ T 1 = (V.sl (List.map cI (b))) ∧ T 9 = (V.sl (List.map cI (a))) ∧ T 10 = (iV ((a.length : Nat) : Int)) ∧ T 11 = (iV ((k : Nat) : Int)) ∧ (k ≤ a.length) ∧ (k ≤ cmn a b)) ?_ ?_
 ·
  refine ⟨_, 0, rfl, t0, t1, t9, t10, (Eq.trans t11 (by first | rfl | simp)), ?_, ?_⟩
  · omega
  · exact Nat.zero_le _
 intro mm T H ⟨k, hmm, t0, t1, t9, t10, t11, hk, hc⟩ Q2 p12 p22 p32
 unfold b101_0
 refine W_seq_regc (fun T H => T 0 = (V.sl (List.map cI (a))) ∧ T 1 = (V.sl (List.map cI (b))) ∧ T 9 = (V.sl (List.map cI (a))) ∧ T 10 = (iV ((a.length : Nat) : Int)) ∧ T 11 = (iV ((k : Nat) : Int)) ∧ T 12 = (V.bool (decide (((k : Nat) : Int) < ((a.length : Nat) : Int)))) ∧ True) ?_ ?_
 ·
  unfold r101_2
  refine R_lss (x := ((k : Nat) : Int)) (y := ((a.length : Nat) : Int)) t11 t10 ?_
  exact R_nil ⟨t0, t1, t9, t10, t11, rfl, trivial⟩
 intro T H ⟨t0, t1, t9, t10, t11, t12, _⟩
 refine W_seq_if (p := ((k : Nat) : Int) < ((a.length : Nat) : Int)) t12 (fun c3 => ?_) (fun c3 => ?_)
 ·
  refine W_seq_skip ?_
  refine W_seq_blockg fun Q4 n4 x4 y4 z4 => ?_
  refine W_seq_regc (fun T H => T 0 = (V.sl (List.map cI (a))) ∧ T 1 = (V.sl (List.map cI (b))) ∧ T 5 = (iV ((k : Nat) : Int)) ∧ T 6 = (iV ((nth (a) (k)))) ∧ T 9 = (V.sl (List.map cI (a))) ∧ T 10 = (iV ((a.length : Nat) : Int)) ∧ T 11 = (iV ((k : Nat) : Int)) ∧ True) ?_ ?_
  ·
   unfold r101_3
   refine R_mv t11 ?_
   refine R_idx (i := k) t9 t11 (by omega) rfl ?_
   refine R_load_pp (v := (iV ((nth (a) (k))))) (@rfl V (V.pp [(iV ((nth (a) (k))))])) (by first | rfl | simp [ldV]) ?_
   refine R_mv (@rfl V (iV ((k : Nat) : Int))) ?_
   refine R_mv (@rfl V (iV ((nth (a) (k))))) ?_
   exact R_nil ⟨t0, t1, rfl, rfl, t9, t10, t11, trivial⟩
  intro T H ⟨t0, t1, t5, t6, t9, t10, t11, _⟩
  refine W_seq_seq ?_
  refine W_seq_regc (fun T H => T 0 = (V.sl (List.map cI (a))) ∧ T 1 = (V.sl (List.map cI (b))) ∧ T 5 = (iV ((k : Nat) : Int)) ∧ T 6 = (iV ((nth (a) (k)))) ∧ T 9 = (V.sl (List.map cI (a))) ∧ T 10 = (iV ((a.length : Nat) : Int)) ∧ T 11 = (iV ((k : Nat) : Int)) ∧ T 19 = (V.bool (decide (((b.length : Nat) : Int) ≤ ((k : Nat) : Int)))) ∧ True) ?_ ?_
  ·
   unfold r101_4
   refine R_mv t5 ?_
   refine R_mv t1 ?_
   refine R_len (@rfl V (V.sl (List.map cI (b)))) ?_
   refine R_geq (x := ((k : Nat) : Int)) (y := ((b.length : Nat) : Int)) (@rfl V (iV ((k : Nat) : Int))) (@rfl V (iV ((b.length : Nat) : Int))) ?_
   exact R_nil ⟨t0, t1, t5, t6, t9, t10, t11, rfl, trivial⟩
  intro T H ⟨t0, t1, t5, t6, t9, t10, t11, t19, _⟩
  refine W_seq_if (p := ((b.length : Nat) : Int) ≤ ((k : Nat) : Int)) t19 (fun c5 => ?_) (fun c5 => ?_)
  ·
   refine W_seq_seq ?_
   refine W_seq_regc (fun T H => T 4 = (iV (1 : Int)) ∧ True) ?_ ?_
   ·
    unfold r101_5
    refine R_mv (@rfl V (iV (1 : Int))) ?_
    exact R_nil ⟨rfl, trivial⟩
   intro T H ⟨t4, _⟩
   refine W_seq_ret ?_
   refine y4 _ _ ?_
   refine p22 _ _ ?_
   refine y1 _ _ ?_
   refine Ret_1 t4 (fz_int ?_)
   · have g1 := cmn_l a b
     have g2 := cmn_r a b
     have g3 := cmn_at hc (by omega)
     simp only [lexI, cmpI, g3] at *; repeat (split <;> first | rfl | omega | skip)
  refine W_seq_skip ?_
  refine W_seq_regc (fun T H => T 0 = (V.sl (List.map cI (a))) ∧ T 1 = (V.sl (List.map cI (b))) ∧ T 6 = (iV ((nth (a) (k)))) ∧ T 7 = (iV ((nth (b) (k)))) ∧ T 9 = (V.sl (List.map cI (a))) ∧ T 10 = (iV ((a.length : Nat) : Int)) ∧ T 11 = (iV ((k : Nat) : Int)) ∧ True) ?_ ?_
  ·
   unfold r101_6
   refine R_mv t1 ?_
   refine R_mv t5 ?_
   refine R_idx (i := k) (@rfl V (V.sl (List.map cI (b)))) (@rfl V (iV ((k : Nat) : Int))) (by omega) rfl ?_
   refine R_load_pp (v := (iV ((nth (b) (k))))) (@rfl V (V.pp [(iV ((nth (b) (k))))])) (by first | rfl | simp [ldV]) ?_
   refine R_mv (@rfl V (iV ((nth (b) (k))))) ?_
   exact R_nil ⟨t0, t1, t6, rfl, t9, t10, t11, trivial⟩
  intro T H ⟨t0, t1, t6, t7, t9, t10, t11, _⟩
  refine W_seq_regc (fun T H => T 0 = (V.sl (List.map cI (a))) ∧ T 1 = (V.sl (List.map cI (b))) ∧ T 8 = (iV (cmpI (((nth (a) (k)))) (((nth (b) (k)))))) ∧ T 9 = (V.sl (List.map cI (a))) ∧ T 10 = (iV ((a.length : Nat) : Int)) ∧ T 11 = (iV ((k : Nat) : Int)) ∧ True) ?_ ?_
  ·
   unfold r101_7
   refine R_mv t6 ?_
   refine R_mv t7 ?_
   refine R_call (evcons (@rfl V (iV ((nth (a) (k))))) (evcons (@rfl V (iV ((nth (b) (k))))) evnil)) (cmpint_pure (((nth (a) (k)))) (((nth (b) (k))))) (fzv_mapcanon _ _ (by simp [-List.map_take, -List.map_drop, -List.map_append, -List.map_reverse])) (by simp [-List.map_take, -List.map_drop, -List.map_append, -List.map_reverse]) (Or.inl (by simp [-List.map_take, -List.map_drop, -List.map_append, -List.map_reverse])) ?_
   refine R_mv (@rfl V (iV (cmpI (((nth (a) (k)))) (((nth (b) (k))))))) ?_
   exact R_nil ⟨t0, t1, rfl, t9, t10, t11, trivial⟩
  intro T H ⟨t0, t1, t8, t9, t10, t11, _⟩
  refine W_seq_regc (fun T H => T 0 = (V.sl (List.map cI (a))) ∧ T 1 = (V.sl (List.map cI (b))) ∧ T 8 = (iV (cmpI (((nth (a) (k)))) (((nth (b) (k)))))) ∧ T 9 = (V.sl (List.map cI (a))) ∧ T 10 = (iV ((a.length : Nat) : Int)) ∧ T 11 = (iV ((k : Nat) : Int)) ∧ T 28 = (V.bool (decide ((cmpI (((nth (a) (k)))) (((nth (b) (k))))) ≠ (0 : Int)))) ∧ True) ?_ ?_
  ·
   unfold r101_8
   refine R_mv t8 ?_
   refine R_neq (x := (cmpI (((nth (a) (k)))) (((nth (b) (k)))))) (y := (0 : Int)) (@rfl V (iV (cmpI (((nth (a) (k)))) (((nth (b) (k))))))) (@rfl V (iV (0 : Int))) ?_
   exact R_nil ⟨t0, t1, t8, t9, t10, t11, rfl, trivial⟩
  intro T H ⟨t0, t1, t8, t9, t10, t11, t28, _⟩
  refine W_if (p := (cmpI (((nth (a) (k)))) (((nth (b) (k))))) ≠ (0 : Int)) t28 (fun c6 => ?_) (fun c6 => ?_)
  ·
   have c9 : nth a k ≠ nth b k := fun e => c6 (cmpI_zero.2 e)
   refine W_seq_regc (fun T H => T 4 = (iV (cmpI (((nth (a) (k)))) (((nth (b) (k)))))) ∧ True) ?_ ?_
   ·
    unfold r101_9
    refine R_mv t8 ?_
    refine R_mv (@rfl V (iV (cmpI (((nth (a) (k)))) (((nth (b) (k))))))) ?_
    exact R_nil ⟨rfl, trivial⟩
   intro T H ⟨t4, _⟩
   refine W_ret ?_
   refine y4 _ _ ?_
   refine p22 _ _ ?_
   refine y1 _ _ ?_
   refine Ret_1 t4 (fz_int ?_)
   · have g1 := cmn_l a b
     have g2 := cmn_r a b
     have g3 := cmn_at hc (by omega)
     simp only [lexI, cmpI, g3] at *; repeat (split <;> first | rfl | omega | skip)
  refine W_skip ?_
  refine n4 _ _ ?_
  refine .done ?_
  refine W_regc (fun T H => T 0 = (V.sl (List.map cI (a))) ∧ T 1 = (V.sl (List.map cI (b))) ∧ T 9 = (V.sl (List.map cI (a))) ∧ T 10 = (iV ((a.length : Nat) : Int)) ∧ T 11 = (iV ((k + 1 : Nat) : Int)) ∧ True) ?_ ?_
  ·
   unfold r101_10
   refine R_addN (m := k) (n := 1) t11 (@rfl V (iV ((1 : Nat) : Int))) (by omega) ?_
   refine R_mv (@rfl V (iV ((k + 1 : Nat) : Int))) ?_
   exact R_nil ⟨t0, t1, t9, t10, rfl, trivial⟩
  intro T H ⟨t0, t1, t9, t10, t11, _⟩
  refine p12 _ _ _ ?_ ⟨(k + 1), rfl, t0, t1, t9, t10, (Eq.trans t11 (by first | rfl | simp)), ?_, ?_⟩
  · omega
  · omega
  · exact cmn_next hc (by omega) (by omega) (cmpI_zero.1 (by omega))
 refine W_seq_exit ?_
 refine p32 _ _ _ ?_
 refine x1 _ _ ?_
 refine .done ?_
 refine W_seq_seq ?_
 refine W_seq_regc (fun T H => T 35 = (V.bool (decide (((a.length : Nat) : Int) < ((b.length : Nat) : Int)))) ∧ True) ?_ ?_
 ·
  unfold r101_11
  refine R_mv t0 ?_
  refine R_len (@rfl V (V.sl (List.map cI (a)))) ?_
  refine R_mv t1 ?_
  refine R_len (@rfl V (V.sl (List.map cI (b)))) ?_
  refine R_lss (x := ((a.length : Nat) : Int)) (y := ((b.length : Nat) : Int)) (@rfl V (iV ((a.length : Nat) : Int))) (@rfl V (iV ((b.length : Nat) : Int))) ?_
  exact R_nil ⟨rfl, trivial⟩
 intro T H ⟨t35, _⟩
 refine W_seq_if (p := ((a.length : Nat) : Int) < ((b.length : Nat) : Int)) t35 (fun c7 => ?_) (fun c7 => ?_)
 ·
  refine W_seq_seq ?_
  refine W_seq_regc (fun T H => T 4 = (iV (-1 : Int)) ∧ True) ?_ ?_
  ·
   unfold r101_12
   refine R_mv (@rfl V (iV (-1 : Int))) ?_
   exact R_nil ⟨rfl, trivial⟩
  intro T H ⟨t4, _⟩
  refine W_seq_ret ?_
  refine Ret_1 t4 (fz_int ?_)
  · have g1 := cmn_l a b
    have g2 := cmn_r a b
    have g3 := cmn_at hc (by omega)
    simp only [lexI, cmpI, g3] at *; repeat (split <;> first | rfl | omega | skip)
 refine W_seq_skip ?_
 refine W_seq_regc (fun T H => T 4 = (iV (0 : Int)) ∧ True) ?_ ?_
 ·
  unfold r101_13
  refine R_mv (@rfl V (iV (0 : Int))) ?_
  exact R_nil ⟨rfl, trivial⟩
 intro T H ⟨t4, _⟩
 refine W_ret ?_
 refine Ret_1 t4 (fz_int ?_)
 · have g1 := cmn_l a b
   have g2 := cmn_r a b
   have g3 := cmn_at hc (by omega)
   simp only [lexI, cmpI, g3] at *; repeat (split <;> first | rfl | omega | skip)

end Go.Proofs.Ytngkckefanbhgaa

namespace Go.Proofs.Ytngkckefanbhgaa
open Go Go.Proofs

theorem compare_pure (a b : List Int) : PureC Try.prog 66 [(V.sl (List.map cI (a))), (V.sl (List.map cI (b)))] (iV (slx a b)) := by
 refine pure_of_Wb true 6 Try.func66 s66_ok (by kernel_rfl) (by simp [s66]) (by simp) (by simp) fun hB => ?_
 simp only [bnd_map, bnd_int, bnd_bool, bnd_str, bnd_agg, bnd_pp, bnd_nil, bnd_cons, implies_true, and_true, true_and] at hB
 unfold s66
 dsimp only
 refine W_seq_regc (fun T H => T 0 = (V.sl (List.map cI (a))) ∧ T 1 = (V.sl (List.map cI (b))) ∧ True) ?_ ?_
 ·
  unfold r66_0
  refine R_mv (@rfl V (iV (0 : Int))) ?_
  exact R_nil ⟨rfl, rfl, trivial⟩
 intro T H ⟨t0, t1, _⟩
 refine W_seq_regc (fun T H => T 4 = (iV (orI ([(cmpI (((a.length : Nat) : Int)) (((b.length : Nat) : Int))), (lexI a b)]))) ∧ True) ?_ ?_
 ·
  unfold r66_1
  refine R_mv t0 ?_
  refine R_len (@rfl V (V.sl (List.map cI (a)))) ?_
  refine R_mv t1 ?_
  refine R_len (@rfl V (V.sl (List.map cI (b)))) ?_
  refine R_call (evcons (@rfl V (iV ((a.length : Nat) : Int))) (evcons (@rfl V (iV ((b.length : Nat) : Int))) evnil)) (cmpint_pure (((a.length : Nat) : Int)) (((b.length : Nat) : Int))) (fzv_mapcanon _ _ (by simp [-List.map_take, -List.map_drop, -List.map_append, -List.map_reverse])) (by simp [-List.map_take, -List.map_drop, -List.map_append, -List.map_reverse]) (Or.inl (by simp [-List.map_take, -List.map_drop, -List.map_append, -List.map_reverse])) ?_
  refine R_mv t0 ?_
  refine R_mv t1 ?_
  refine R_call (evcons (@rfl V (V.sl (List.map cI (a)))) (evcons (@rfl V (V.sl (List.map cI (b)))) evnil)) (scompare_pure a b) (fzv_mapcanon _ _ (by simp [-List.map_take, -List.map_drop, -List.map_append, -List.map_reverse])) (by simp [-List.map_take, -List.map_drop, -List.map_append, -List.map_reverse]) (Or.inl (by simp [-List.map_take, -List.map_drop, -List.map_append, -List.map_reverse])) ?_
  refine R_bslice (qs := [(0, (iV (cmpI (((a.length : Nat) : Int)) (((b.length : Nat) : Int))))), (1, (iV (lexI a b)))]) (rows := [[(iV (cmpI (((a.length : Nat) : Int)) (((b.length : Nat) : Int))))], [(iV (lexI a b))]]) (mcons (congrArg (fun v => (0, v)) (@rfl V (iV (cmpI (((a.length : Nat) : Int)) (((b.length : Nat) : Int)))))) (mcons (congrArg (fun v => (1, v)) (@rfl V (iV (lexI a b)))) rfl)) rfl ?_
  refine R_call (evcons (@rfl V (V.sl [[(iV (cmpI (((a.length : Nat) : Int)) (((b.length : Nat) : Int))))], [(iV (lexI a b))]])) evnil) (cmpor_pure ([(cmpI (((a.length : Nat) : Int)) (((b.length : Nat) : Int))), (lexI a b)]) (by simp)) (fzv_mapcanon _ _ (by simp [-List.map_take, -List.map_drop, -List.map_append, -List.map_reverse])) (by simp [-List.map_take, -List.map_drop, -List.map_append, -List.map_reverse]) (Or.inl (by simp [-List.map_take, -List.map_drop, -List.map_append, -List.map_reverse])) ?_
  refine R_mv (@rfl V (iV (orI ([(cmpI (((a.length : Nat) : Int)) (((b.length : Nat) : Int))), (lexI a b)])))) ?_
  exact R_nil ⟨rfl, trivial⟩
 intro T H ⟨t4, _⟩
 refine W_ret ?_
 refine Ret_1 t4 (fz_int ?_)
 · simp only [orI, cmpI, slx]; repeat (split <;> first | rfl | omega | skip)

end Go.Proofs.Ytngkckefanbhgaa

namespace Go.Proofs.Ytngkckefanbhgaa
open Go Go.Proofs

theorem minfunc_pure (l : List (List Int)) (hl : 1 ≤ l.length) : PureC Try.prog 98 [(V.sl (List.map cL (l))), (V.fn 66 [] [])] (V.sl (List.map cI (least l))) := by
 refine pure_of_Wb true 6 Try.func98 s98_ok (by kernel_rfl) (by simp [s98]) (by simp) (by simp) fun hB => ?_
 simp only [bnd_map, bnd_int, bnd_bool, bnd_str, bnd_agg, bnd_pp, bnd_nil, bnd_cons, implies_true, and_true, true_and] at hB
 unfold s98
 dsimp only
 refine W_seq_regc (fun T H => T 0 = (V.sl (List.map cL (l))) ∧ T 1 = (V.fn 66 [] []) ∧ True) ?_ ?_
 ·
  unfold r98_0
  refine R_mv (@rfl V V.nilsl) ?_
  exact R_nil ⟨rfl, rfl, trivial⟩
 intro T H ⟨t0, t1, _⟩
 refine W_seq_seq ?_
 refine W_seq_regc (fun T H => T 0 = (V.sl (List.map cL (l))) ∧ T 1 = (V.fn 66 [] []) ∧ T 9 = (V.bool (decide (((l.length : Nat) : Int) < (1 : Int)))) ∧ True) ?_ ?_
 ·
  unfold r98_1
  refine R_mv t0 ?_
  refine R_len (@rfl V (V.sl (List.map cL (l)))) ?_
  refine R_lss (x := ((l.length : Nat) : Int)) (y := (1 : Int)) (@rfl V (iV ((l.length : Nat) : Int))) (@rfl V (iV (1 : Int))) ?_
  exact R_nil ⟨t0, t1, rfl, trivial⟩
 intro T H ⟨t0, t1, t9, _⟩
 refine W_seq_if (p := ((l.length : Nat) : Int) < (1 : Int)) t9 (fun c1 => ?_) (fun c1 => ?_)
 · exfalso; omega
 refine W_seq_skip ?_
 refine W_seq_regc (fun T H => T 0 = (V.sl (List.map cL (l))) ∧ T 1 = (V.fn 66 [] []) ∧ T 5 = (V.sl (List.map cI ((nth (l) (0))))) ∧ True) ?_ ?_
 ·
  unfold r98_3
  refine R_mv t0 ?_
  refine R_idx (i := 0) (@rfl V (V.sl (List.map cL (l)))) (@rfl V (iV ((0 : Nat) : Int))) (by omega) rfl ?_
  refine R_load_pp (v := (V.sl (List.map cI ((nth (l) (0)))))) (@rfl V (V.pp [(V.sl (List.map cI ((nth (l) (0)))))])) (by first | rfl | simp [ldV]) ?_
  refine R_mv (@rfl V (V.sl (List.map cI ((nth (l) (0)))))) ?_
  exact R_nil ⟨t0, t1, rfl, trivial⟩
 intro T H ⟨t0, t1, t5, _⟩
 refine W_seq_seq ?_
 refine W_seq_regc (fun T H => T 0 = (V.sl (List.map cL (l))) ∧ T 1 = (V.fn 66 [] []) ∧ T 5 = (V.sl (List.map cI ((nth (l) (0))))) ∧ T 6 = (iV (1 : Int)) ∧ True) ?_ ?_
 ·
  unfold r98_4
  refine R_mv (@rfl V (iV (1 : Int))) ?_
  exact R_nil ⟨t0, t1, t5, rfl, trivial⟩
 intro T H ⟨t0, t1, t5, t6, _⟩
 refine W_seq_blockg fun Q2 n2 x2 y2 z2 => ?_
 refine W_loop (fun mm T H => ∃ (k : Nat), mm = l.length - k ∧ T 0 = (V.sl (List.map cL (l))) ∧ T 1 = (V.fn 66 [] []) ∧ T 5 = (V.sl (List.map cI (least (l.take k)))) ∧ T 6 = (iV ((k : Nat) : Int)) ∧ (k ≤ l.length) ∧ (1 ≤ k)) ?_ ?_
 ·
  refine ⟨_, 1, rfl, t0, t1, (Eq.trans t5 (by first | rfl | (rw [least_step (by omega) (by omega), if_pos (by omega)]) | (rw [least_step (by omega) (by omega), if_neg (by omega)]) | (rw [least_one (by omega)]))), (Eq.trans t6 (by first | rfl | (rw [least_step (by omega) (by omega), if_pos (by omega)]) | (rw [least_step (by omega) (by omega), if_neg (by omega)]) | (rw [least_one (by omega)]))), ?_, ?_⟩
  · omega
  · omega
 intro mm T H ⟨k, hmm, t0, t1, t5, t6, hk, h1⟩ Q3 p13 p23 p33
 unfold b98_0
 refine W_seq_seq ?_
 refine W_seq_regc (fun T H => T 0 = (V.sl (List.map cL (l))) ∧ T 1 = (V.fn 66 [] []) ∧ T 5 = (V.sl (List.map cI (least (l.take k)))) ∧ T 6 = (iV ((k : Nat) : Int)) ∧ T 17 = (V.bool (decide (((k : Nat) : Int) < ((l.length : Nat) : Int)))) ∧ True) ?_ ?_
 ·
  unfold r98_5
  refine R_mv t6 ?_
  refine R_mv t0 ?_
  refine R_len (@rfl V (V.sl (List.map cL (l)))) ?_
  refine R_lss (x := ((k : Nat) : Int)) (y := ((l.length : Nat) : Int)) (@rfl V (iV ((k : Nat) : Int))) (@rfl V (iV ((l.length : Nat) : Int))) ?_
  exact R_nil ⟨t0, t1, t5, t6, rfl, trivial⟩
 intro T H ⟨t0, t1, t5, t6, t17, _⟩
 refine W_seq_if (p := ((k : Nat) : Int) < ((l.length : Nat) : Int)) t17 (fun c4 => ?_) (fun c4 => ?_)
 ·
  refine W_seq_skip ?_
  refine W_seq_blockg fun Q5 n5 x5 y5 z5 => ?_
  refine W_seq_regc (fun T H => T 0 = (V.sl (List.map cL (l))) ∧ T 1 = (V.fn 66 [] []) ∧ T 5 = (V.sl (List.map cI (least (l.take k)))) ∧ T 6 = (iV ((k : Nat) : Int)) ∧ T 27 = (V.bool (decide ((slx ((nth (l) (k))) (least (l.take k))) < (0 : Int)))) ∧ True) ?_ ?_
  ·
   unfold r98_7
   refine R_mv t1 ?_
   refine R_mv t0 ?_
   refine R_mv t6 ?_
   refine R_idx (i := k) (@rfl V (V.sl (List.map cL (l)))) (@rfl V (iV ((k : Nat) : Int))) (by omega) rfl ?_
   refine R_load_pp (v := (V.sl (List.map cI ((nth (l) (k)))))) (@rfl V (V.pp [(V.sl (List.map cI ((nth (l) (k)))))])) (by first | rfl | simp [ldV]) ?_
   refine R_mv t5 ?_
   refine R_callv (@rfl V (V.fn 66 [] [])) (evcons (@rfl V (V.sl (List.map cI ((nth (l) (k)))))) (evcons (@rfl V (V.sl (List.map cI (least (l.take k))))) evnil)) (compare_pure ((nth (l) (k))) (least (l.take k))) (fzv_mapcanon _ _ (by simp [-List.map_take, -List.map_drop, -List.map_append, -List.map_reverse])) (by simp [-List.map_take, -List.map_drop, -List.map_append, -List.map_reverse]) (Or.inl (by simp [-List.map_take, -List.map_drop, -List.map_append, -List.map_reverse])) ?_
   refine R_lss (x := (slx ((nth (l) (k))) (least (l.take k)))) (y := (0 : Int)) (@rfl V (iV (slx ((nth (l) (k))) (least (l.take k))))) (@rfl V (iV (0 : Int))) ?_
   exact R_nil ⟨t0, t1, t5, t6, rfl, trivial⟩
  intro T H ⟨t0, t1, t5, t6, t27, _⟩
  refine W_if (p := (slx ((nth (l) (k))) (least (l.take k))) < (0 : Int)) t27 (fun c6 => ?_) (fun c6 => ?_)
  ·
   refine W_regc (fun T H => T 0 = (V.sl (List.map cL (l))) ∧ T 1 = (V.fn 66 [] []) ∧ T 5 = (V.sl (List.map cI ((nth (l) (k))))) ∧ T 6 = (iV ((k : Nat) : Int)) ∧ True) ?_ ?_
   ·
    unfold r98_8
    refine R_mv t0 ?_
    refine R_mv t6 ?_
    refine R_idx (i := k) (@rfl V (V.sl (List.map cL (l)))) (@rfl V (iV ((k : Nat) : Int))) (by omega) rfl ?_
    refine R_load_pp (v := (V.sl (List.map cI ((nth (l) (k)))))) (@rfl V (V.pp [(V.sl (List.map cI ((nth (l) (k)))))])) (by first | rfl | simp [ldV]) ?_
    refine R_mv (@rfl V (V.sl (List.map cI ((nth (l) (k)))))) ?_
    exact R_nil ⟨t0, t1, rfl, t6, trivial⟩
   intro T H ⟨t0, t1, t5, t6, _⟩
   refine n5 _ _ ?_
   refine .done ?_
   refine W_regc (fun T H => T 0 = (V.sl (List.map cL (l))) ∧ T 1 = (V.fn 66 [] []) ∧ T 5 = (V.sl (List.map cI ((nth (l) (k))))) ∧ T 6 = (iV ((k + 1 : Nat) : Int)) ∧ True) ?_ ?_
   ·
    unfold r98_6
    refine R_mv t6 ?_
    refine R_addN (m := k) (n := 1) (@rfl V (iV ((k : Nat) : Int))) (@rfl V (iV ((1 : Nat) : Int))) (by omega) ?_
    refine R_mv (@rfl V (iV ((k + 1 : Nat) : Int))) ?_
    exact R_nil ⟨t0, t1, t5, rfl, trivial⟩
   intro T H ⟨t0, t1, t5, t6, _⟩
   refine p13 _ _ _ ?_ ⟨(k + 1), rfl, t0, t1, (Eq.trans t5 (by first | rfl | (rw [least_step (by omega) (by omega), if_pos (by omega)]) | (rw [least_step (by omega) (by omega), if_neg (by omega)]) | (rw [least_one (by omega)]))), (Eq.trans t6 (by first | rfl | (rw [least_step (by omega) (by omega), if_pos (by omega)]) | (rw [least_step (by omega) (by omega), if_neg (by omega)]) | (rw [least_one (by omega)]))), ?_, ?_⟩
   · omega
   · omega
   · omega
  refine W_skip ?_
  refine n5 _ _ ?_
  refine .done ?_
  refine W_regc (fun T H => T 0 = (V.sl (List.map cL (l))) ∧ T 1 = (V.fn 66 [] []) ∧ T 5 = (V.sl (List.map cI (least (l.take k)))) ∧ T 6 = (iV ((k + 1 : Nat) : Int)) ∧ True) ?_ ?_
  ·
   unfold r98_6
   refine R_mv t6 ?_
   refine R_addN (m := k) (n := 1) (@rfl V (iV ((k : Nat) : Int))) (@rfl V (iV ((1 : Nat) : Int))) (by omega) ?_
   refine R_mv (@rfl V (iV ((k + 1 : Nat) : Int))) ?_
   exact R_nil ⟨t0, t1, t5, rfl, trivial⟩
  intro T H ⟨t0, t1, t5, t6, _⟩
  refine p13 _ _ _ ?_ ⟨(k + 1), rfl, t0, t1, (Eq.trans t5 (by first | rfl | (rw [least_step (by omega) (by omega), if_pos (by omega)]) | (rw [least_step (by omega) (by omega), if_neg (by omega)]) | (rw [least_one (by omega)]))), (Eq.trans t6 (by first | rfl | (rw [least_step (by omega) (by omega), if_pos (by omega)]) | (rw [least_step (by omega) (by omega), if_neg (by omega)]) | (rw [least_one (by omega)]))), ?_, ?_⟩
  · omega
  · omega
  · omega
 refine W_seq_exit ?_
 refine p33 _ _ _ ?_
 refine x2 _ _ ?_
 refine .done ?_
 refine W_seq_regc (fun T H => T 4 = (V.sl (List.map cI (least (l.take k)))) ∧ True) ?_ ?_
 ·
  unfold r98_9
  refine R_mv t5 ?_
  refine R_mv (@rfl V (V.sl (List.map cI (least (l.take k))))) ?_
  exact R_nil ⟨rfl, trivial⟩
 intro T H ⟨t4, _⟩
 refine W_ret ?_
 refine Ret_1 t4 (fz_sl ?_ (fun _ => by simp))
 · (have e : k = l.length := (by omega); subst e; rw [List.take_length])

end Go.Proofs.Ytngkckefanbhgaa

namespace Go.Proofs.Ytngkckefanbhgaa
open Go Go.Proofs

theorem hleast_pure (l : List (List Int)) : PureC Try.prog 65 [(V.sl (List.map cL (l))), (V.fn 66 [] [])] (V.tup [(V.sl (List.map cI (least l))), (V.bool (decide (l ≠ [])))]) := by
 refine pure_of_Wb true 6 Try.func65 s65_ok (by kernel_rfl) (by simp [s65]) (by simp) (by simp) fun hB => ?_
 simp only [bnd_map, bnd_int, bnd_bool, bnd_str, bnd_agg, bnd_pp, bnd_nil, bnd_cons, implies_true, and_true, true_and] at hB
 unfold s65
 dsimp only
 refine W_seq_regc (fun T H => T 0 = (V.sl (List.map cL (l))) ∧ T 1 = (V.fn 66 [] []) ∧ True) ?_ ?_
 ·
  unfold r65_0
  refine R_mv (@rfl V V.nilsl) ?_
  refine R_mv (@rfl V (V.bool false)) ?_
  exact R_nil ⟨rfl, rfl, trivial⟩
 intro T H ⟨t0, t1, _⟩
 refine W_seq_regc (fun T H => T 0 = (V.sl (List.map cL (l))) ∧ T 1 = (V.fn 66 [] []) ∧ T 6 = V.nilsl ∧ True) ?_ ?_
 ·
  unfold r65_1
  refine R_mv (@rfl V V.nilsl) ?_
  exact R_nil ⟨t0, t1, rfl, trivial⟩
 intro T H ⟨t0, t1, t6, _⟩
 refine W_seq_seq ?_
 refine W_seq_regc (fun T H => T 0 = (V.sl (List.map cL (l))) ∧ T 1 = (V.fn 66 [] []) ∧ T 6 = V.nilsl ∧ T 9 = (V.bool (decide (((l.length : Nat) : Int) = (0 : Int)))) ∧ True) ?_ ?_
 ·
  unfold r65_2
  refine R_mv t0 ?_
  refine R_len (@rfl V (V.sl (List.map cL (l)))) ?_
  refine R_eql (x := ((l.length : Nat) : Int)) (y := (0 : Int)) (@rfl V (iV ((l.length : Nat) : Int))) (@rfl V (iV (0 : Int))) ?_
  exact R_nil ⟨t0, t1, t6, rfl, trivial⟩
 intro T H ⟨t0, t1, t6, t9, _⟩
 refine W_seq_if (p := ((l.length : Nat) : Int) = (0 : Int)) t9 (fun c1 => ?_) (fun c1 => ?_)
 ·
  refine W_seq_seq ?_
  refine W_seq_regc (fun T H => T 4 = V.nilsl ∧ T 5 = (V.bool false) ∧ True) ?_ ?_
  ·
   unfold r65_3
   refine R_mv t6 ?_
   refine R_mv (@rfl V V.nilsl) ?_
   refine R_mv (@rfl V (V.bool false)) ?_
   exact R_nil ⟨rfl, rfl, trivial⟩
  intro T H ⟨t4, t5, _⟩
  refine W_seq_ret ?_
  refine Ret_2 t4 t5 (fz_nil ?_) (fz_bool ?_)
  · have e : l = [] := List.length_eq_zero_iff.1 (by omega)
    subst e; rfl
  · have e : l = [] := List.length_eq_zero_iff.1 (by omega)
    subst e; simp
 refine W_seq_skip ?_
 refine W_seq_regc (fun T H => T 4 = (V.sl (List.map cI (least l))) ∧ T 5 = (V.bool true) ∧ True) ?_ ?_
 ·
  unfold r65_4
  refine R_mv t0 ?_
  refine R_mv t1 ?_
  refine R_call (evcons (@rfl V (V.sl (List.map cL (l)))) (evcons (@rfl V (V.fn 66 [] [])) evnil)) (minfunc_pure l (by first | omega | assumption)) (fzv_mapcanon _ _ (by simp [-List.map_take, -List.map_drop, -List.map_append, -List.map_reverse])) (by simp [-List.map_take, -List.map_drop, -List.map_append, -List.map_reverse]) (Or.inl (by simp [-List.map_take, -List.map_drop, -List.map_append, -List.map_reverse])) ?_
  refine R_mv (@rfl V (V.sl (List.map cI (least l)))) ?_
  refine R_mv (@rfl V (V.bool true)) ?_
  exact R_nil ⟨rfl, rfl, trivial⟩
 intro T H ⟨t4, t5, _⟩
 refine W_ret ?_
 refine Ret_2 t4 t5 (fz_canon (by simp) rfl) (fz_bool ?_)
 · exact (decide_eq_true (by intro e; subst e; simp at *)).symm

end Go.Proofs.Ytngkckefanbhgaa

namespace Go.Proofs.Ytngkckefanbhgaa
open Go Go.Proofs

theorem common_pure (a b : List Int) : PureC Try.prog 69 [(V.sl (List.map cI (a))), (V.sl (List.map cI (b)))] (iV ((cmn a b : Nat) : Int)) := by
 refine pure_of_Wb true 6 Try.func69 s69_ok (by kernel_rfl) (by simp [s69]) (by simp) (by simp) fun hB => ?_
 simp only [bnd_map, bnd_int, bnd_bool, bnd_str, bnd_agg, bnd_pp, bnd_nil, bnd_cons, implies_true, and_true, true_and] at hB
 unfold s69
 dsimp only
 refine W_seq_regc (fun T H => T 0 = (V.sl (List.map cI (a))) ∧ T 1 = (V.sl (List.map cI (b))) ∧ True) ?_ ?_
 ·
  unfold r69_0
  refine R_mv (@rfl V (iV (0 : Int))) ?_
  exact R_nil ⟨rfl, rfl, trivial⟩
 intro T H ⟨t0, t1, _⟩
 refine W_seq_seq ?_
 refine W_seq_regc (fun T H => T 0 = (V.sl (List.map cI (a))) ∧ T 1 = (V.sl (List.map cI (b))) ∧ T 10 = (iV ((min a.length b.length : Nat) : Int)) ∧ T 11 = (iV (0 : Int)) ∧ True) ?_ ?_
 ·
  unfold r69_1
  refine R_mv t0 ?_
  refine R_len (@rfl V (V.sl (List.map cI (a)))) ?_
  refine R_mv t1 ?_
  refine R_len (@rfl V (V.sl (List.map cI (b)))) ?_
  refine R_mnN (m := a.length) (n := b.length) (@rfl V (iV ((a.length : Nat) : Int))) (@rfl V (iV ((b.length : Nat) : Int))) ?_
  refine R_mv (@rfl V (iV (0 : Int))) ?_
  exact R_nil ⟨t0, t1, rfl, rfl, trivial⟩
 intro T H ⟨t0, t1, t10, t11, _⟩
 refine W_seq_blockg fun Q1 n1 x1 y1 z1 => ?_
 refine W_loop (fun mm T H => ∃ (k : Nat), mm = (min a.length b.length) - k ∧ T 0 = (V.sl (List.map cI (a))) ∧ T 1 = (V.sl (List.map cI (b))) ∧ T 10 = (iV ((min a.length b.length : Nat) : Int)) ∧ T 11 = (iV ((k : Nat) : Int)) ∧ (k ≤ min a.length b.length) ∧ (k ≤ cmn a b)) ?_ ?_
 ·
  refine ⟨_, 0, rfl, t0, t1, t10, (Eq.trans t11 (by first | rfl | simp)), ?_, ?_⟩
  · omega
  · exact Nat.zero_le _
 intro mm T H ⟨k, hmm, t0, t1, t10, t11, hk, hc⟩ Q2 p12 p22 p32
 unfold b69_0
 refine W_seq_regc (fun T H => T 0 = (V.sl (List.map cI (a))) ∧ T 1 = (V.sl (List.map cI (b))) ∧ T 10 = (iV ((min a.length b.length : Nat) : Int)) ∧ T 11 = (iV ((k : Nat) : Int)) ∧ T 12 = (V.bool (decide (((k : Nat) : Int) < ((min a.length b.length : Nat) : Int)))) ∧ True) ?_ ?_
 ·
  unfold r69_2
  refine R_lss (x := ((k : Nat) : Int)) (y := ((min a.length b.length : Nat) : Int)) t11 t10 ?_
  exact R_nil ⟨t0, t1, t10, t11, rfl, trivial⟩
 intro T H ⟨t0, t1, t10, t11, t12, _⟩
 refine W_seq_if (p := ((k : Nat) : Int) < ((min a.length b.length : Nat) : Int)) t12 (fun c3 => ?_) (fun c3 => ?_)
 ·
  refine W_seq_skip ?_
  refine W_seq_blockg fun Q4 n4 x4 y4 z4 => ?_
  refine W_seq_regc (fun T H => T 0 = (V.sl (List.map cI (a))) ∧ T 1 = (V.sl (List.map cI (b))) ∧ T 5 = (iV ((k : Nat) : Int)) ∧ T 10 = (iV ((min a.length b.length : Nat) : Int)) ∧ T 11 = (iV ((k : Nat) : Int)) ∧ True) ?_ ?_
  ·
   unfold r69_3
   refine R_mv t11 ?_
   refine R_mv (@rfl V (iV ((k : Nat) : Int))) ?_
   exact R_nil ⟨t0, t1, rfl, t10, t11, trivial⟩
  intro T H ⟨t0, t1, t5, t10, t11, _⟩
  refine W_seq_regc (fun T H => T 0 = (V.sl (List.map cI (a))) ∧ T 1 = (V.sl (List.map cI (b))) ∧ T 5 = (iV ((k : Nat) : Int)) ∧ T 10 = (iV ((min a.length b.length : Nat) : Int)) ∧ T 11 = (iV ((k : Nat) : Int)) ∧ T 22 = (V.bool (decide (((nth (a) (k))) ≠ ((nth (b) (k)))))) ∧ True) ?_ ?_
  ·
   unfold r69_4
   refine R_mv t0 ?_
   refine R_mv t5 ?_
   refine R_idx (i := k) (@rfl V (V.sl (List.map cI (a)))) (@rfl V (iV ((k : Nat) : Int))) (by omega) rfl ?_
   refine R_load_pp (v := (iV ((nth (a) (k))))) (@rfl V (V.pp [(iV ((nth (a) (k))))])) (by first | rfl | simp [ldV]) ?_
   refine R_mv t1 ?_
   refine R_mv t5 ?_
   refine R_idx (i := k) (@rfl V (V.sl (List.map cI (b)))) (@rfl V (iV ((k : Nat) : Int))) (by omega) rfl ?_
   refine R_load_pp (v := (iV ((nth (b) (k))))) (@rfl V (V.pp [(iV ((nth (b) (k))))])) (by first | rfl | simp [ldV]) ?_
   refine R_neq (x := ((nth (a) (k)))) (y := ((nth (b) (k)))) (@rfl V (iV ((nth (a) (k))))) (@rfl V (iV ((nth (b) (k))))) ?_
   exact R_nil ⟨t0, t1, t5, t10, t11, rfl, trivial⟩
  intro T H ⟨t0, t1, t5, t10, t11, t22, _⟩
  refine W_if (p := ((nth (a) (k))) ≠ ((nth (b) (k)))) t22 (fun c5 => ?_) (fun c5 => ?_)
  ·
   refine W_seq_regc (fun T H => T 4 = (iV ((k : Nat) : Int)) ∧ True) ?_ ?_
   ·
    unfold r69_5
    refine R_mv t5 ?_
    refine R_mv (@rfl V (iV ((k : Nat) : Int))) ?_
    exact R_nil ⟨rfl, trivial⟩
   intro T H ⟨t4, _⟩
   refine W_ret ?_
   refine y4 _ _ ?_
   refine p22 _ _ ?_
   refine y1 _ _ ?_
   refine Ret_1 t4 (fz_int ?_)
   · rw [cmn_at hc (by omega)]
  refine W_skip ?_
  refine n4 _ _ ?_
  refine .done ?_
  refine W_regc (fun T H => T 0 = (V.sl (List.map cI (a))) ∧ T 1 = (V.sl (List.map cI (b))) ∧ T 10 = (iV ((min a.length b.length : Nat) : Int)) ∧ T 11 = (iV ((k + 1 : Nat) : Int)) ∧ True) ?_ ?_
  ·
   unfold r69_6
   refine R_addN (m := k) (n := 1) t11 (@rfl V (iV ((1 : Nat) : Int))) (by omega) ?_
   refine R_mv (@rfl V (iV ((k + 1 : Nat) : Int))) ?_
   exact R_nil ⟨t0, t1, t10, rfl, trivial⟩
  intro T H ⟨t0, t1, t10, t11, _⟩
  refine p12 _ _ _ ?_ ⟨(k + 1), rfl, t0, t1, t10, (Eq.trans t11 (by first | rfl | simp)), ?_, ?_⟩
  · omega
  · omega
  · exact cmn_next hc (by omega) (by omega) (by omega)
 refine W_seq_exit ?_
 refine p32 _ _ _ ?_
 refine x1 _ _ ?_
 refine .done ?_
 refine W_seq_regc (fun T H => T 4 = (iV ((min a.length b.length : Nat) : Int)) ∧ True) ?_ ?_
 ·
  unfold r69_7
  refine R_mv t0 ?_
  refine R_len (@rfl V (V.sl (List.map cI (a)))) ?_
  refine R_mv t1 ?_
  refine R_len (@rfl V (V.sl (List.map cI (b)))) ?_
  refine R_mnN (m := a.length) (n := b.length) (@rfl V (iV ((a.length : Nat) : Int))) (@rfl V (iV ((b.length : Nat) : Int))) ?_
  refine R_mv (@rfl V (iV ((min a.length b.length : Nat) : Int))) ?_
  exact R_nil ⟨rfl, trivial⟩
 intro T H ⟨t4, _⟩
 refine W_ret ?_
 refine Ret_1 t4 (fz_int ?_)
 · rw [cmn_at hc (by omega)]; omega

end Go.Proofs.Ytngkckefanbhgaa

namespace Go.Proofs.Ytngkckefanbhgaa
open Go Go.Proofs

theorem hp_pure (w p : List Int) : PureC Try.prog 76 [(V.sl (List.map cI (w))), (V.sl (List.map cI (p)))] (V.bool (hp w p)) := by
 refine pure_of_Wb true 6 Try.func76 s76_ok (by kernel_rfl) (by simp [s76]) (by simp) (by simp) fun hB => ?_
 simp only [bnd_map, bnd_int, bnd_bool, bnd_str, bnd_agg, bnd_pp, bnd_nil, bnd_cons, implies_true, and_true, true_and] at hB
 unfold s76
 dsimp only
 refine W_seq_regc (fun T H => T 0 = (V.sl (List.map cI (w))) ∧ T 1 = (V.sl (List.map cI (p))) ∧ True) ?_ ?_
 ·
  unfold r76_0
  refine R_mv (@rfl V (V.bool false)) ?_
  exact R_nil ⟨rfl, rfl, trivial⟩
 intro T H ⟨t0, t1, _⟩
 refine W_seq_regc (fun T H => T 4 = (V.bool (decide (((cmn w p : Nat) : Int) = ((p.length : Nat) : Int)))) ∧ True) ?_ ?_
 ·
  unfold r76_1
  refine R_mv t0 ?_
  refine R_mv t1 ?_
  have q1 := cmn_l w p
  have q2 := cmn_r w p
  refine R_call (evcons (@rfl V (V.sl (List.map cI (w)))) (evcons (@rfl V (V.sl (List.map cI (p)))) evnil)) (common_pure w p) (fzv_mapcanon _ _ (by simp [-List.map_take, -List.map_drop, -List.map_append, -List.map_reverse])) (by simp [-List.map_take, -List.map_drop, -List.map_append, -List.map_reverse]) (Or.inl (by simp [-List.map_take, -List.map_drop, -List.map_append, -List.map_reverse])) ?_
  refine R_mv t1 ?_
  refine R_len (@rfl V (V.sl (List.map cI (p)))) ?_
  refine R_eql (x := ((cmn w p : Nat) : Int)) (y := ((p.length : Nat) : Int)) (@rfl V (iV ((cmn w p : Nat) : Int))) (@rfl V (iV ((p.length : Nat) : Int))) ?_
  refine R_mv (@rfl V (V.bool (decide (((cmn w p : Nat) : Int) = ((p.length : Nat) : Int))))) ?_
  exact R_nil ⟨rfl, trivial⟩
 intro T H ⟨t4, _⟩
 have q3 := cmn_l w p
 have q4 := cmn_r w p
 refine W_ret ?_
 refine Ret_1 t4 (fz_bool ?_)
 · unfold hp; exact decide_eq_decide.2 (by omega)

end Go.Proofs.Ytngkckefanbhgaa

/-
  Words that are apart: the program's list and the document's.
-/
namespace Go.Proofs.Ytngkckefanbhgaa
open Go

theorem hp_len {a p : List Int} (h : hp a p = true) : p.length ≤ a.length := by
  simp only [hp, decide_eq_true_eq] at h
  have := cmn_l a p; omega

def ansL : List Tr → List Int → Option (List Int)
  | [], _ => none
  | t :: l, w => if hp t.ni w then some (t.no.take w.length) else ansL l w
/-- The answer of observations. -/
def ans (o : Ob) (w : List Int) : Option (List Int) := if w = [] then some [] else ansL o.tr w
theorem ansL_some {w x : List Int} : ∀ {l : List Tr}, ansL l w = some x → ∃ t ∈ l, hp t.ni w = true ∧ x = t.no.take w.length
  | [], h => by cases h
  | t :: l, h => by
    simp only [ansL] at h
    split at h
    · rename_i g; exact ⟨t, List.mem_cons_self .., g, by simpa using h.symm⟩
    · obtain ⟨s, h1, h2⟩ := ansL_some h; exact ⟨s, List.mem_cons_of_mem _ h1, h2⟩
theorem ansL_none {w : List Int} : ∀ {l : List Tr}, ansL l w = none → ∀ t ∈ l, hp t.ni w = false
  | [], _, t, ht => by cases ht
  | t :: l, h, s, hs => by
    simp only [ansL] at h
    split at h
    · cases h
    · rename_i g
      rcases List.mem_cons.1 hs with rfl | hs
      · simpa using g
      · exact ansL_none h s hs
theorem OK.mem {o : Ob} (ok : OK o) {t : Tr} (ht : t ∈ o.tr) : Proper t o.i ∧ 0 < t.ni.length := by
  obtain ⟨k, hk, rfl⟩ := mem_nth ht; exact ok.pr k hk
theorem ans_len {o : Ob} (ok : OK o) {w : List Int} (h : (ans o w).isSome = true) : ((ans o w).getD []).length = w.length := by
  obtain ⟨x, hx⟩ := Option.isSome_iff_exists.1 h
  rw [hx]
  unfold ans at hx
  split at hx
  · rename_i e; subst e; cases hx; rfl
  · obtain ⟨t, h1, h2, rfl⟩ := ansL_some hx
    have := hp_len h2
    have := (ok.mem h1).1.len
    simp; omega
theorem long_ok {l : List (List Int)} (h : fe (longE l) 0 l.length = 0) : ∀ k, k < l.length → (nth l k).length ≤ 200 := by
  intro k hk
  have := fe_zero_iff.1 h k (Nat.zero_le _) (by omega)
  unfold longE at this
  split at this
  · cases this
  · omega

/-! The document's list. -/

abbrev shX (t : Tr) (n i : Nat) : List Int := (t.ni.take (i + 1)).drop n
abbrev lastN (x : List Int) : Int := nth x (((x.length : Nat) : Int) - (1 : Int)).toNat
def shw (o : Ob) (t : Tr) (n : Nat) (v : List Int) (i : Nat) : Nat → Option (List Int)
  | 0 => none
  | m + 1 => if (ans o (cat [v, shX t n i])).isSome = false then none else if lastN ((ans o (cat [v, shX t n i])).getD []) ≠ nth t.no i then some (shX t n i) else shw o t n v (i + 1) m
theorem shw_eq {o : Ob} {t : Tr} {n : Nat} {v : List Int} {i N : Nat} (h : i < N) : shw o t n v i (N - i) =
    if (ans o (cat [v, shX t n i])).isSome = false then none else if lastN ((ans o (cat [v, shX t n i])).getD []) ≠ nth t.no i then some (shX t n i) else shw o t n v (i + 1) (N - (i + 1)) := by
  obtain ⟨m, hm⟩ : ∃ m, N - i = m + 1 := ⟨N - i - 1, by omega⟩
  rw [hm, show N - (i + 1) = m by omega]; rfl
theorem shw_end {o : Ob} {t : Tr} {n : Nat} {v : List Int} {i N : Nat} (h : N ≤ i) : shw o t n v i (N - i) = none := by
  rw [show N - i = 0 by omega]; rfl
def ap1 (o : Ob) (u v : List Int) (t : Tr) : List (List Int) := if hp t.ni u = true then (shw o t u.length v u.length (t.ni.length - u.length)).toList else []
def apx (o : Ob) (u v : List Int) (l : List Tr) : List (List Int) := l.flatMap (ap1 o u v)
theorem apx_take {o : Ob} {u v : List Int} {l : List Tr} {k : Nat} (hk : k < l.length) : apx o u v (l.take (k + 1)) = apx o u v (l.take k) ++ ap1 o u v (nth l k) := flat_take hk
theorem opt_yes {A B : List (List Int)} {s : Option (List Int)} (g : B = A ++ s.toList) (h1 : s.isSome = true) (h2 : ¬(A ≠ []) ∨ slx (s.getD []) (least A) < 0) : least B = s.getD [] ∧ B ≠ [] := by
  obtain ⟨x, rfl⟩ := Option.isSome_iff_exists.1 h1
  exact rb_yes (c := True) (x := x) (by simpa using g) trivial h2
theorem opt_no {A B : List (List Int)} {s : Option (List Int)} (g : B = A ++ s.toList) (h : ¬(s.isSome = true ∧ (¬(A ≠ []) ∨ slx (s.getD []) (least A) < 0))) : least B = least A ∧ (B ≠ [] ↔ A ≠ []) := by
  cases s with
  | none => simp at g; subst g; exact ⟨rfl, Iff.rfl⟩
  | some x => exact rb_no (c := True) (x := x) (by simpa using g) (by simpa using h)
theorem opt_yesB {A B : List (List Int)} {s : Option (List Int)} (g : B = A ++ s.toList) (h : (s.isSome && decide (¬(A ≠ []) ∨ slx (s.getD []) (least A) < 0)) = true) : least B = s.getD [] ∧ B ≠ [] := by
  simp only [Bool.and_eq_true, decide_eq_true_eq] at h
  exact opt_yes g h.1 h.2
theorem opt_noB {A B : List (List Int)} {s : Option (List Int)} (g : B = A ++ s.toList) (h : (s.isSome && decide (¬(A ≠ []) ∨ slx (s.getD []) (least A) < 0)) = false) : least B = least A ∧ (B ≠ [] ↔ A ≠ []) := by
  refine opt_no g fun e => ?_
  rw [e.1, decide_eq_true e.2] at h; cases h

/-! The program's list. -/

def bh1 (u : List Int) (t : Tr) : List Tr := if hp t.ni u = true then [⟨t.ni.drop u.length, t.no.drop u.length⟩] else []
def bhd (l : List Tr) (u : List Int) : List Tr := l.flatMap (bh1 u)
theorem bhd_take {l : List Tr} {u : List Int} {k : Nat} (hk : k < l.length) : bhd (l.take (k + 1)) u = bhd (l.take k) u ++ bh1 u (nth l k) := flat_take hk
theorem bhd_len {u : List Int} : ∀ (l : List Tr), (bhd l u).length ≤ l.length
  | [] => by simp [bhd]
  | t :: l => by
    have := bhd_len (u := u) l
    simp only [bhd, List.flatMap_cons, List.length_append, List.length_cons] at this ⊢
    have : (bh1 u t).length ≤ 1 := by unfold bh1; split <;> simp
    omega
theorem bhd_mem {l : List Tr} {u : List Int} {a : Tr} (h : a ∈ bhd l u) : ∃ t ∈ l, hp t.ni u = true ∧ a = ⟨t.ni.drop u.length, t.no.drop u.length⟩ := by
  simp only [bhd, List.mem_flatMap] at h
  obtain ⟨t, ht, h1⟩ := h
  unfold bh1 at h1
  split at h1
  · rename_i g; exact ⟨t, ht, g, by simpa using h1⟩
  · cases h1
theorem bhd_in {l : List Tr} {u : List Int} {t : Tr} (h : t ∈ l) (hh : hp t.ni u = true) : (⟨t.ni.drop u.length, t.no.drop u.length⟩ : Tr) ∈ bhd l u := by
  simp only [bhd, List.mem_flatMap]
  exact ⟨t, h, by rw [bh1, if_pos hh]; simp⟩
theorem bhd_ok {o : Ob} (ok : OK o) {u : List Int} {k : Nat} (hk : k < (bhd o.tr u).length) : (nth (bhd o.tr u) k).no.length = (nth (bhd o.tr u) k).ni.length ∧ (nth (bhd o.tr u) k).ni.length ≤ 1024 := by
  obtain ⟨t, ht, _, e⟩ := bhd_mem (nth_mem hk)
  have h1 := (ok.mem ht).1.len
  have h2 := (ok.mem ht).1.lel
  rw [e]; simp; omega

abbrev fdA (a b : Tr) : List Int := a.no.take (cmn a.ni b.ni)
abbrev fdB (a b : Tr) : List Int := b.no.take (cmn a.ni b.ni)
def fd (a b : Tr) : List (List Int) := if cmn (fdA a b) (fdB a b) < min (fdA a b).length (fdB a b).length then [a.ni.take (difn (fdA a b) (fdB a b) + 1)] else []
def fdr (B : List Tr) (a : Tr) : List (List Int) := B.flatMap (fd a)
def fds (A B : List Tr) (k j : Nat) : List (List Int) := (A.take k).flatMap (fdr B) ++ (B.take j).flatMap (fd (nth A k))
def fdl (A B : List Tr) : List (List Int) := A.flatMap (fdr B)
theorem fds_zero (A B : List Tr) : fds A B 0 0 = [] := rfl
theorem fds_row {A B : List Tr} {k : Nat} (h : k < A.length) : fds A B k B.length = fds A B (k + 1) 0 := by
  simp only [fds, List.take_length, List.take_zero, List.flatMap_nil, List.append_nil]
  rw [flat_take h]; rfl
theorem fds_step {A B : List Tr} {k j : Nat} (h : j < B.length) : fds A B k (j + 1) = fds A B k j ++ fd (nth A k) (nth B j) := by
  simp only [fds]; rw [flat_take h, List.append_assoc]
theorem fds_end (A B : List Tr) : fds A B A.length 0 = fdl A B := by
  simp [fds, fdl]

/-! Both say the same. -/

theorem OK.same {o : Ob} (ok : OK o) {s t : Tr} (hs : s ∈ o.tr) (ht : t ∈ o.tr) {j : Nat} (hj : j < cmn s.ni t.ni) : nth s.no j = nth t.no j := by
  obtain ⟨a, ha, rfl⟩ := mem_nth hs
  obtain ⟨b, hb, rfl⟩ := mem_nth ht
  have key : ∀ a b, a < b → b < o.tr.length → ∀ j, j < cmn (nth o.tr a).ni (nth o.tr b).ni → nth (nth o.tr a).no j = nth (nth o.tr b).no j := by
    intro a b hab hb j hj
    by_cases e : nth (nth o.tr a).no j = nth (nth o.tr b).no j
    · exact e
    · have h1 := ok.cla a b hab hb
      have h2 := df_iff.2 ⟨j, hj, e⟩
      omega
  by_cases e : a = b
  · subst e; rfl
  · by_cases h : a < b
    · exact key a b h hb j hj
    · rw [cmn_comm] at hj
      exact (key b a (by omega) ha j hj).symm

theorem cmn_app {p x y : List Int} : cmn (p ++ x) (p ++ y) = p.length + cmn x y := by
  induction p with
  | nil => simp
  | cons a p ih => simp [cmn, ih]; omega
theorem cmn_of_pre {a b w : List Int} (h1 : hp a w = true) (h2 : hp b w = true) : w.length ≤ cmn a b := by
  obtain ⟨x, rfl⟩ := hp_iff.1 h1
  obtain ⟨y, rfl⟩ := hp_iff.1 h2
  rw [cmn_app]; omega
theorem hp_take {a : List Int} {k : Nat} (h : k ≤ a.length) : hp a (a.take k) = true := hp_iff.2 ⟨a.drop k, (List.take_append_drop k a).symm⟩

/-- x shows that u and v are apart. -/
def Ap (o : Ob) (u v x : List Int) : Prop :=
  x ≠ [] ∧ ∃ s ∈ o.tr, ∃ t ∈ o.tr, hp s.ni (u ++ x) = true ∧ hp t.ni (v ++ x) = true ∧ nth s.no (u.length + x.length - 1) ≠ nth t.no (v.length + x.length - 1)
theorem Ap.symm {o : Ob} {u v x : List Int} (h : Ap o u v x) : Ap o v u x := by
  obtain ⟨h1, s, hs, t, ht, h2, h3, h4⟩ := h
  exact ⟨h1, t, ht, s, hs, h3, h2, fun e => h4 e.symm⟩

/-- A list whose words all show it, and in which there is one not greater than any that shows it. -/
structure Covers (o : Ob) (u v : List Int) (l : List (List Int)) : Prop where
  sound : ∀ x ∈ l, Ap o u v x
  full : ∀ x, Ap o u v x → ∃ y ∈ l, slx y x ≤ 0
theorem Covers.least {o : Ob} {u v : List Int} {l m : List (List Int)} (hl : Covers o u v l) (hm : Covers o u v m) : Go.Proofs.Ytngkckefanbhgaa.least l = Go.Proofs.Ytngkckefanbhgaa.least m ∧ (l ≠ [] ↔ m ≠ []) := by
  have one : ∀ {l m : List (List Int)}, Covers o u v l → Covers o u v m → l ≠ [] → m ≠ [] ∧ slx (Go.Proofs.Ytngkckefanbhgaa.least m) (Go.Proofs.Ytngkckefanbhgaa.least l) ≤ 0 := by
    intro l m hl hm h
    obtain ⟨y, hy, h1⟩ := hm.full _ (hl.sound _ (least_mem h))
    exact ⟨fun e => (by rw [e] at hy; cases hy), slx_tr (least_le hy) h1⟩
  have iff : l ≠ [] ↔ m ≠ [] := ⟨fun h => (one hl hm h).1, fun h => (one hm hl h).1⟩
  refine ⟨?_, iff⟩
  by_cases h : l = []
  · have : m = [] := by
      by_cases h' : m = []
      · exact h'
      · exact (iff.2 h' h).elim
    rw [h, this]
  · exact slx_anti (one hm hl (iff.1 h)).2 (one hl hm h).2

theorem slx_take {x y : List Int} (h : hp y x = true) : slx x y ≤ 0 := by
  obtain ⟨z, rfl⟩ := hp_iff.1 h
  cases z with
  | nil => rw [List.append_nil, slx_zero.2 rfl]; omega
  | cons a z => unfold slx; rw [if_pos (by simp)]; omega

theorem app_take {p x : List Int} {k : Nat} : p ++ x.take k = (p ++ x).take (p.length + k) := by
  rw [List.take_append, (List.take_of_length_le (by omega) : p.take (p.length + k) = p), Nat.add_sub_cancel_left]

theorem fd_covers {o : Ob} (ok : OK o) (u v : List Int) : Covers o u v (fdl (bhd o.tr u) (bhd o.tr v)) := by
  have mem : ∀ x, x ∈ fdl (bhd o.tr u) (bhd o.tr v) ↔ ∃ a ∈ bhd o.tr u, ∃ b ∈ bhd o.tr v, x ∈ fd a b := by
    intro x; simp only [fdl, fdr, List.mem_flatMap]
  refine ⟨fun x hx => ?_, fun x hx => ?_⟩
  · obtain ⟨a, ha, b, hb, h1⟩ := (mem x).1 hx
    obtain ⟨s, hs, s1, rfl⟩ := bhd_mem ha
    obtain ⟨t, ht, t1, rfl⟩ := bhd_mem hb
    obtain ⟨p, hp1⟩ := hp_iff.1 s1
    obtain ⟨q, hq1⟩ := hp_iff.1 t1
    have sl := (ok.mem hs).1.len
    have tl := (ok.mem ht).1.len
    have es : s.ni.drop u.length = p := by rw [hp1]; simp
    have et : t.ni.drop v.length = q := by rw [hq1]; simp
    have lp : s.ni.length = u.length + p.length := by rw [hp1]; simp
    have lq : t.ni.length = v.length + q.length := by rw [hq1]; simp
    unfold fd at h1
    split at h1
    · rename_i g
      have hd := difn_at g
      simp only [fdA, fdB, es, et, List.length_take, List.length_drop] at g hd h1
      generalize hn : cmn p q = n at *
      generalize hc : cmn ((s.no.drop u.length).take n) ((t.no.drop v.length).take n) = c at *
      rw [hd] at h1
      have hx' : x = p.take (c + 1) := by simpa using h1
      subst hx'
      have h4 := cmn_spec ((s.no.drop u.length).take n) ((t.no.drop v.length).take n)
      rw [hc] at h4
      have h5 := h4.2.2.2 (by simp; omega) (by simp; omega)
      rw [nth_take (by omega), nth_take (by omega), nth_dropn, nth_dropn] at h5
      have cp := cmn_spec p q
      rw [hn] at cp
      have hpl : (p.take (c + 1)).length = c + 1 := by simp; omega
      refine ⟨fun e => by rw [e] at hpl; simp at hpl, s, hs, t, ht, ?_, ?_, ?_⟩
      · rw [app_take, ← hp1]; exact hp_take (by omega)
      · have e : p.take (c + 1) = q.take (c + 1) := nth_ext (by simp; omega) fun j hj => by
          simp at hj
          rw [nth_take (by omega), nth_take (by omega)]; exact cp.2.2.1 j (by omega)
        rw [e, app_take, ← hq1]; exact hp_take (by omega)
      · rw [hpl, show u.length + (c + 1) - 1 = u.length + c by omega, show v.length + (c + 1) - 1 = v.length + c by omega]; exact h5
    · cases h1
  · obtain ⟨h1, s, hs, t, ht, h2, h3, h4⟩ := hx
    have hxl : 0 < x.length := by cases x with
      | nil => exact (h1 rfl).elim
      | cons a x => simp
    obtain ⟨p, hp1⟩ := hp_iff.1 h2
    obtain ⟨q, hq1⟩ := hp_iff.1 h3
    rw [List.append_assoc] at hp1 hq1
    have s1 : hp s.ni u = true := hp_iff.2 ⟨_, hp1⟩
    have t1 : hp t.ni v = true := hp_iff.2 ⟨_, hq1⟩
    have sl := (ok.mem hs).1.len
    have tl := (ok.mem ht).1.len
    have es : s.ni.drop u.length = x ++ p := by rw [hp1]; simp
    have et : t.ni.drop v.length = x ++ q := by rw [hq1]; simp
    have lp : s.ni.length = u.length + (x.length + p.length) := by rw [hp1]; simp
    have lq : t.ni.length = v.length + (x.length + q.length) := by rw [hq1]; simp
    have hn : cmn (x ++ p) (x ++ q) = x.length + cmn p q := cmn_app
    have cp := cmn_spec p q
    have hex : ∀ n, x.length ≤ n → n ≤ x.length + p.length → n ≤ x.length + q.length → cmn ((s.no.drop u.length).take n) ((t.no.drop v.length).take n) < x.length := by
      intro n g1 g2 g3
      by_cases e : cmn ((s.no.drop u.length).take n) ((t.no.drop v.length).take n) < x.length
      · exact e
      · have h5 := (cmn_spec ((s.no.drop u.length).take n) ((t.no.drop v.length).take n)).2.2.1 (x.length - 1) (by omega)
        rw [nth_take (by omega), nth_take (by omega), nth_dropn, nth_dropn] at h5
        rw [show u.length + x.length - 1 = u.length + (x.length - 1) by omega, show v.length + x.length - 1 = v.length + (x.length - 1) by omega] at h4
        exact (h4 h5).elim
    have hlt := hex (x.length + cmn p q) (by omega) (by omega) (by omega)
    refine ⟨x.take (cmn ((s.no.drop u.length).take (x.length + cmn p q)) ((t.no.drop v.length).take (x.length + cmn p q)) + 1), (mem _).2 ⟨_, bhd_in hs s1, _, bhd_in ht t1, ?_⟩, slx_take (hp_take (by omega))⟩
    have g : cmn (fdA ⟨s.ni.drop u.length, s.no.drop u.length⟩ ⟨t.ni.drop v.length, t.no.drop v.length⟩) (fdB ⟨s.ni.drop u.length, s.no.drop u.length⟩ ⟨t.ni.drop v.length, t.no.drop v.length⟩) <
        min (fdA ⟨s.ni.drop u.length, s.no.drop u.length⟩ ⟨t.ni.drop v.length, t.no.drop v.length⟩).length (fdB ⟨s.ni.drop u.length, s.no.drop u.length⟩ ⟨t.ni.drop v.length, t.no.drop v.length⟩).length := by
      simp only [fdA, fdB, es, et, hn, List.length_take, List.length_drop]; omega
    unfold fd
    rw [if_pos g, difn_at g]
    simp only [fdA, fdB, es, et, hn]
    rw [List.take_append, show cmn ((s.no.drop u.length).take (x.length + cmn p q)) ((t.no.drop v.length).take (x.length + cmn p q)) + 1 - x.length = 0 by omega]
    simp

/-- What the document's search finds. -/
theorem shw_spec {o : Ob} (ok : OK o) {s : Tr} (hs : s ∈ o.tr) {u v : List Int} (hu : hp s.ni u = true) : ∀ (m i : Nat), u.length ≤ i → i + m = s.ni.length →
    (∀ x, shw o s u.length v i m = some x → Ap o u v x) ∧
    (∀ j, i ≤ j → j < s.ni.length → (∃ t ∈ o.tr, hp t.ni (v ++ shX s u.length j) = true ∧ nth s.no j ≠ nth t.no (v.length + (j - u.length))) → ∃ y, shw o s u.length v i m = some y ∧ hp (shX s u.length j) y = true) := by
  obtain ⟨p, hp1⟩ := hp_iff.1 hu
  have lp : s.ni.length = u.length + p.length := by rw [hp1]; simp
  have xe : ∀ i, u.length ≤ i → shX s u.length i = p.take (i + 1 - u.length) := by
    intro i hi
    simp only [shX]
    rw [hp1, List.take_append, List.take_of_length_le (by omega)]
    simp
  have sl := (ok.mem hs).1.len
  intro m
  induction m with
  | zero =>
    intro i h1 h2
    refine ⟨fun x hx => by simp [shw] at hx, fun j h3 h4 _ => by omega⟩
  | succ m ih =>
    intro i h1 h2
    obtain ⟨ih1, ih2⟩ := ih (i + 1) (by omega) (by omega)
    have hxl : (shX s u.length i).length = i + 1 - u.length := by rw [xe i h1]; simp; omega
    have hne : cat [v, shX s u.length i] ≠ [] := by
      intro e
      have := congrArg List.length e
      simp [cat] at this
      omega
    have hcat : cat [v, shX s u.length i] = v ++ shX s u.length i := by simp [cat]
    have hsx : hp s.ni (u ++ shX s u.length i) = true := by
      rw [xe i h1, app_take, ← hp1]; exact hp_take (by omega)
    simp only [shw]
    by_cases hn : (ans o (cat [v, shX s u.length i])).isSome = false
    · rw [if_pos hn]
      refine ⟨fun x hx => (by cases hx), fun j h3 h4 ⟨t, ht, h5, _⟩ => ?_⟩
      exfalso
      have hnone : ansL o.tr (v ++ shX s u.length i) = none := by
        unfold ans at hn
        rw [if_neg hne, hcat] at hn
        simpa using hn
      have h6 := ansL_none hnone t ht
      obtain ⟨z, hz⟩ := hp_iff.1 h5
      have h7 : hp t.ni (v ++ shX s u.length i) = true := by
        refine hp_iff.2 ⟨(p.take (j + 1 - u.length)).drop (i + 1 - u.length) ++ z, ?_⟩
        rw [hz, xe j (by omega), xe i h1]
        have e : p.take (j + 1 - u.length) = p.take (i + 1 - u.length) ++ (p.take (j + 1 - u.length)).drop (i + 1 - u.length) := by
          conv => lhs; rw [← List.take_append_drop (i + 1 - u.length) (p.take (j + 1 - u.length))]
          rw [List.take_take, Nat.min_eq_left (by omega)]
        conv => lhs; rw [e]
        simp
      rw [h6] at h7; cases h7
    · rw [if_neg hn]
      have hsome : (ans o (cat [v, shX s u.length i])).isSome = true := (by cases hq : (ans o (cat [v, shX s u.length i])).isSome with | true => rfl | false => exact (hn hq).elim)
      obtain ⟨out, hout⟩ := Option.isSome_iff_exists.1 hsome
      have hL : ansL o.tr (v ++ shX s u.length i) = some out := by
        unfold ans at hout
        rw [if_neg hne, hcat] at hout; exact hout
      obtain ⟨t, ht, t1, rfl⟩ := ansL_some hL
      have tl := (ok.mem ht).1.len
      have t2 := hp_len t1
      have hol : ((t.no.take (v ++ shX s u.length i).length)).length = v.length + (i + 1 - u.length) := by simp [hxl] at t2 ⊢; omega
      have hlast : lastN ((ans o (cat [v, shX s u.length i])).getD []) = nth t.no (v.length + (i - u.length)) := by
        rw [hout]
        simp only [Option.getD_some, lastN]
        rw [hol, nth_take (by rw [List.length_append, hxl]; omega)]
        congr 1; omega
      by_cases hd : lastN ((ans o (cat [v, shX s u.length i])).getD []) ≠ nth s.no i
      · rw [if_pos hd]
        refine ⟨fun x hx => ?_, fun j h3 h4 _ => ⟨_, rfl, ?_⟩⟩
        · cases hx
          refine ⟨fun e => by rw [e] at hxl; simp at hxl; omega, s, hs, t, ht, hsx, t1, ?_⟩
          rw [hxl, show u.length + (i + 1 - u.length) - 1 = i by omega, show v.length + (i + 1 - u.length) - 1 = v.length + (i - u.length) by omega]
          rw [hlast] at hd
          exact fun e => hd e.symm
        · rw [xe i h1, xe j (by omega)]
          have : p.take (i + 1 - u.length) = (p.take (j + 1 - u.length)).take (i + 1 - u.length) := by rw [List.take_take, Nat.min_eq_left (by omega)]
          rw [this]; exact hp_take (by simp; omega)
      · rw [if_neg hd]
        refine ⟨ih1, fun j h3 h4 hh => ?_⟩
        by_cases e : j = i
        · subst e
          exfalso
          obtain ⟨r, hr, r1, r2⟩ := hh
          have h8 := ok.same hr ht (j := v.length + (j - u.length)) (by
            have := cmn_of_pre r1 t1
            rw [List.length_append, hxl] at this; omega)
          simp only [ne_eq, Decidable.not_not] at hd
          rw [hlast] at hd
          rw [h8] at r2
          exact r2 hd.symm
        · exact ih2 j (by omega) h4 hh

theorem ap_covers {o : Ob} (ok : OK o) (u v : List Int) : Covers o u v (apx o u v o.tr) := by
  refine ⟨fun x hx => ?_, fun x hx => ?_⟩
  · simp only [apx, List.mem_flatMap] at hx
    obtain ⟨s, hs, h1⟩ := hx
    unfold ap1 at h1
    split at h1
    · rename_i hu
      have := hp_len hu
      simp only [Option.mem_toList] at h1
      exact (shw_spec ok hs hu (v := v) (s.ni.length - u.length) u.length (Nat.le_refl _) (by omega)).1 x h1
    · cases h1
  · obtain ⟨h1, s, hs, t, ht, h2, h3, h4⟩ := hx
    have hxl : 0 < x.length := by cases x with
      | nil => exact (h1 rfl).elim
      | cons a x => simp
    obtain ⟨p, hp1⟩ := hp_iff.1 h2
    rw [List.append_assoc] at hp1
    have hu : hp s.ni u = true := hp_iff.2 ⟨_, hp1⟩
    have lp : s.ni.length = u.length + (x.length + p.length) := by rw [hp1]; simp
    have xe : shX s u.length (u.length + x.length - 1) = x := by
      simp only [shX]
      rw [show u.length + x.length - 1 + 1 = u.length + x.length by omega, hp1, ← List.append_assoc, List.take_append, List.take_of_length_le (by simp)]
      simp
    obtain ⟨y, h5, h6⟩ := (shw_spec ok hs hu (v := v) (s.ni.length - u.length) u.length (Nat.le_refl _) (by omega)).2 (u.length + x.length - 1) (by omega) (by omega)
      ⟨t, ht, by rw [xe]; exact h3, by rw [show v.length + (u.length + x.length - 1 - u.length) = v.length + x.length - 1 by omega]; exact h4⟩
    rw [xe] at h6
    refine ⟨y, ?_, slx_take h6⟩
    simp only [apx, List.mem_flatMap]
    exact ⟨s, hs, by rw [ap1, if_pos hu, h5]; simp⟩

theorem Covers.swap {o : Ob} {u v : List Int} {l : List (List Int)} (h : Covers o u v l) : Covers o v u l :=
  ⟨fun x hx => (h.sound x hx).symm, fun x hx => h.full x hx.symm⟩
theorem apart_eq {o : Ob} (ok : OK o) (u v : List Int) : least (fdl (bhd o.tr u) (bhd o.tr v)) = least (apx o u v o.tr) ∧ (fdl (bhd o.tr u) (bhd o.tr v) ≠ [] ↔ apx o u v o.tr ≠ []) :=
  (fd_covers ok u v).least (ap_covers ok u v)
theorem apart_swap {o : Ob} (ok : OK o) (u v : List Int) : fdl (bhd o.tr u) (bhd o.tr v) ≠ [] ↔ apx o v u o.tr ≠ [] :=
  ((fd_covers ok u v).swap.least (ap_covers ok v u)).2
theorem fdl_least {o : Ob} (ok : OK o) (u v : List Int) : (least (fdl (bhd o.tr u) (bhd o.tr v))).length ≤ 1024 := by
  by_cases h : fdl (bhd o.tr u) (bhd o.tr v) = []
  · rw [h]; simp [least]
  · obtain ⟨_, s, hs, t, ht, h2, _, _⟩ := (fd_covers ok u v).sound _ (least_mem h)
    have h3 := hp_len h2
    have := (ok.mem hs).1.lel
    rw [List.length_append] at h3; omega

/-! Lower bounds. -/

/-- All, from the first one. -/
def alB (p : Nat → Bool) : Nat → Bool
  | 0 => true
  | n + 1 => alB p n && p n
theorem alB_congr {p q : Nat → Bool} : ∀ {n : Nat}, (∀ j, j < n → p j = q j) → alB p n = alB q n
  | 0, _ => rfl
  | n + 1, h => by simp only [alB]; rw [h n (by omega), alB_congr fun j hj => h j (by omega)]
def low1 (ap : List Int → List Int → Bool) (kept : List (List Int)) (w : List Int) : List (List Int) := if alB (fun j => ap (nth kept j) w) kept.length = true then kept ++ [w] else kept
def lowL (ap : List Int → List Int → Bool) (l : List (List Int)) : List (List Int) := l.foldl (low1 ap) []
theorem low_take {ap : List Int → List Int → Bool} {l : List (List Int)} {k : Nat} (h : k < l.length) : lowL ap (l.take (k + 1)) = low1 ap (lowL ap (l.take k)) (nth l k) := by
  unfold lowL; rw [take_succ_nth h, List.foldl_append]; rfl
theorem low_len {ap : List Int → List Int → Bool} {l : List (List Int)} : ∀ {k : Nat}, k ≤ l.length → (lowL ap (l.take k)).length ≤ k
  | 0, _ => by simp [lowL]
  | k + 1, h => by
    have := low_len (ap := ap) (l := l) (k := k) (by omega)
    rw [low_take (by omega), low1]
    split
    · simp; omega
    · omega
theorem low_mem {ap : List Int → List Int → Bool} {l : List (List Int)} : ∀ {k j : Nat}, j < (lowL ap (l.take k)).length → ∃ i, i < l.length ∧ nth (lowL ap (l.take k)) j = nth l i
  | 0, j, h => by simp [lowL] at h
  | k + 1, j, h => by
    by_cases hk : k < l.length
    · rw [low_take hk, low1] at h ⊢
      split at h
      · rename_i g
        rw [if_pos g]
        by_cases hj : j < (lowL ap (l.take k)).length
        · rw [nth_app_l hj]; exact low_mem hj
        · have e : j = (lowL ap (l.take k)).length + 0 := by simp at h; omega
          rw [e, nth_app_r]; exact ⟨k, hk, rfl⟩
      · rename_i g
        rw [if_neg g]; exact low_mem h
    · have e : l.take (k + 1) = l.take k := by rw [List.take_of_length_le (by omega), List.take_of_length_le (by omega)]
      rw [e] at h ⊢; exact low_mem h
theorem low_congr {ap bp : List Int → List Int → Bool} (h : ∀ u v, ap u v = bp u v) (l : List (List Int)) : lowL ap l = lowL bp l := by
  have : ap = bp := by funext u v; exact h u v
  rw [this]
def apB (o : Ob) (u v : List Int) : Bool := decide (apx o u v o.tr ≠ [])
def fdP (o : Ob) (u v : List Int) : Bool := decide (fdl (bhd o.tr v) (bhd o.tr u) ≠ [])
theorem fdP_eq {o : Ob} (ok : OK o) (u v : List Int) : fdP o u v = apB o u v := decide_eq_decide.2 (apart_swap ok v u)

end Go.Proofs.Ytngkckefanbhgaa

namespace Go.Proofs.Ytngkckefanbhgaa
open Go Go.Proofs

theorem behind_pure (o : Ob) (u : List Int) (ho : oval o = 0) (hu : u.length ≤ 1048576) : PureC Try.prog 68 [(V.agg [(iV (o.i)), (V.sl (List.map cT (o.tr)))]), (V.sl (List.map cI (u)))] (V.sl (List.map cT (bhd o.tr u))) := by
 refine pure_of_Wb true 6 Try.func68 s68_ok (by kernel_rfl) (by simp [s68]) (by simp) (by simp) fun hB => ?_
 simp only [bnd_map, bnd_int, bnd_bool, bnd_str, bnd_agg, bnd_pp, bnd_nil, bnd_cons, implies_true, and_true, true_and] at hB
 unfold s68
 dsimp only
 have u2 := oval_ok ho
 have u3 := u2.len
 refine W_seq_regc (fun T H => T 1 = (V.sl (List.map cI (u))) ∧ T 2 = (V.mp 2 1 0 0) ∧ H 2 = (⟨1, true, false, 34, 2, [[(iV (o.i)), (V.sl (List.map cT (o.tr)))]]⟩ : Blk) ∧ H 5 = (⟨0, false, false, 0, 0, []⟩ : Blk) ∧ H 7 = (⟨0, false, false, 0, 0, []⟩ : Blk) ∧ True) ?_ ?_
 ·
  unfold r68_0
  refine R_box (i := 2) (n := 0) (m := 2) (cs := [(iV (o.i)), (V.sl (List.map cT (o.tr)))]) rfl (congrArg Blk.ver rfl) (@rfl V (V.agg [(iV (o.i)), (V.sl (List.map cT (o.tr)))])) rfl rfl ?_
  refine R_mv (@rfl V V.nilsl) ?_
  exact R_nil ⟨rfl, rfl, rfl, rfl, rfl, trivial⟩
 intro T H ⟨t1, t2, h2, h5, h7, _⟩
 refine W_seq_regc (fun T H => T 1 = (V.sl (List.map cI (u))) ∧ T 2 = (V.mp 2 1 0 0) ∧ T 5 = (V.ms 5 1 0 (0)) ∧ H 2 = (⟨1, true, false, 34, 2, [[(iV (o.i)), (V.sl (List.map cT (o.tr)))]]⟩ : Blk) ∧ H 5 = (⟨1, true, true, 63, 2, []⟩ : Blk) ∧ H 7 = (⟨0, false, false, 0, 0, []⟩ : Blk) ∧ True) ?_ ?_
 ·
  unfold r68_1
  refine R_lazy (i := 5) (n := 0) rfl (congrArg Blk.ver h5) ?_
  exact R_nil ⟨t1, t2, rfl, h2, rfl, h7, trivial⟩
 intro T H ⟨t1, t2, t5, h2, h5, h7, _⟩
 refine W_seq_seq ?_
 refine W_seq_regc (fun T H => T 1 = (V.sl (List.map cI (u))) ∧ T 5 = (V.ms 5 1 0 (0)) ∧ T 9 = (V.sl (List.map cT (o.tr))) ∧ T 10 = (iV ((o.tr.length : Nat) : Int)) ∧ T 11 = (iV (0 : Int)) ∧ H 2 = (⟨1, true, false, 34, 2, [[(iV (o.i)), (V.sl (List.map cT (o.tr)))]]⟩ : Blk) ∧ H 5 = (⟨1, true, true, 63, 2, []⟩ : Blk) ∧ H 7 = (⟨0, false, false, 0, 0, []⟩ : Blk) ∧ True) ?_ ?_
 ·
  unfold r68_2
  refine R_fld_mp (o' := 1) t2 h2 (by first | rfl | simp [okB, Blk.own]) rfl ?_
  refine R_load_mp (v := (V.sl (List.map cT (o.tr)))) (@rfl V (V.mp 2 1 0 1)) h2 (by first | rfl | simp [ldB, ldV, Blk.own, V.one]) ?_
  refine R_len (@rfl V (V.sl (List.map cT (o.tr)))) ?_
  refine R_mv (@rfl V (iV (0 : Int))) ?_
  exact R_nil ⟨t1, t5, rfl, rfl, rfl, h2, h5, h7, trivial⟩
 intro T H ⟨t1, t5, t9, t10, t11, h2, h5, h7, _⟩
 refine W_seq_blockg fun Q1 n1 x1 y1 z1 => ?_
 refine W_loop (fun mm T H => ∃ (k : Nat) (v7 : Nat), mm = o.tr.length - k ∧ T 1 = (V.sl (List.map cI (u))) ∧ T 5 = (V.ms 5 (1 + (bhd (o.tr.take k) u).length) 0 ((bhd (o.tr.take k) u).length)) ∧ T 9 = (V.sl (List.map cT (o.tr))) ∧ T 10 = (iV ((o.tr.length : Nat) : Int)) ∧ T 11 = (iV ((k : Nat) : Int)) ∧ H 2 = (⟨1, true, false, 34, 2, [[(iV (o.i)), (V.sl (List.map cT (o.tr)))]]⟩ : Blk) ∧ H 5 = (⟨1 + (bhd (o.tr.take k) u).length, true, true, 63, 2, (List.map cT (bhd (o.tr.take k) u))⟩ : Blk) ∧ (H 7).ver = v7 ∧ (k ≤ o.tr.length)) ?_ ?_
 ·
  refine ⟨_, 0, 0, rfl, t1, (Eq.trans t5 (by first | rfl | (rw [g1, List.length_append]; rfl) | (rw [g1]; done))), t9, t10, (Eq.trans t11 (by first | rfl | (rw [g1, List.length_append]; rfl) | (rw [g1]; done))), h2, (Eq.trans h5 (by first | rfl | (rw [g1, List.length_append]; rfl) | (rw [g1]; done))), (congrArg Blk.ver h7), ?_⟩
  · omega
 intro mm T H ⟨k, v7, hmm, t1, t5, t9, t10, t11, h2, h5, h7, hk⟩ Q2 p12 p22 p32
 unfold b68_0
 refine W_seq_regc (fun T H => T 1 = (V.sl (List.map cI (u))) ∧ T 5 = (V.ms 5 (1 + (bhd (o.tr.take k) u).length) 0 ((bhd (o.tr.take k) u).length)) ∧ T 9 = (V.sl (List.map cT (o.tr))) ∧ T 10 = (iV ((o.tr.length : Nat) : Int)) ∧ T 11 = (iV ((k : Nat) : Int)) ∧ T 12 = (V.bool (decide (((k : Nat) : Int) < ((o.tr.length : Nat) : Int)))) ∧ H 2 = (⟨1, true, false, 34, 2, [[(iV (o.i)), (V.sl (List.map cT (o.tr)))]]⟩ : Blk) ∧ H 5 = (⟨1 + (bhd (o.tr.take k) u).length, true, true, 63, 2, (List.map cT (bhd (o.tr.take k) u))⟩ : Blk) ∧ (H 7).ver = v7 ∧ True) ?_ ?_
 ·
  unfold r68_3
  refine R_lss (x := ((k : Nat) : Int)) (y := ((o.tr.length : Nat) : Int)) t11 t10 ?_
  exact R_nil ⟨t1, t5, t9, t10, t11, rfl, h2, h5, h7, trivial⟩
 intro T H ⟨t1, t5, t9, t10, t11, t12, h2, h5, h7, _⟩
 refine W_seq_if (p := ((k : Nat) : Int) < ((o.tr.length : Nat) : Int)) t12 (fun c3 => ?_) (fun c3 => ?_)
 ·
  have g1 := bhd_take (l := o.tr) (u := u) (k := k) (by omega)
  have g2 := bhd_len (u := u) (o.tr.take k)
  have g3 : (o.tr.take k).length ≤ k := by simp; omega
  have u4 := (u2.pr k (by omega)).1.len
  refine W_seq_skip ?_
  refine W_seq_blockg fun Q4 n4 x4 y4 z4 => ?_
  refine W_seq_regc (fun T H => T 1 = (V.sl (List.map cI (u))) ∧ T 5 = (V.ms 5 (1 + (bhd (o.tr.take k) u).length) 0 ((bhd (o.tr.take k) u).length)) ∧ T 7 = (V.mp 7 (v7 + 1) 0 0) ∧ T 9 = (V.sl (List.map cT (o.tr))) ∧ T 10 = (iV ((o.tr.length : Nat) : Int)) ∧ T 11 = (iV ((k : Nat) : Int)) ∧ H 2 = (⟨1, true, false, 34, 2, [[(iV (o.i)), (V.sl (List.map cT (o.tr)))]]⟩ : Blk) ∧ H 5 = (⟨1 + (bhd (o.tr.take k) u).length, true, true, 63, 2, (List.map cT (bhd (o.tr.take k) u))⟩ : Blk) ∧ H 7 = (⟨v7 + 1, true, false, 63, 2, [[(V.sl (List.map cI ((nth (o.tr) (k)).ni))), (V.sl (List.map cI ((nth (o.tr) (k)).no)))]]⟩ : Blk) ∧ True) ?_ ?_
  ·
   unfold r68_4
   refine R_idx (i := k) t9 t11 (by omega) rfl ?_
   refine R_load_pp (v := (V.agg [(V.sl (List.map cI ((nth (o.tr) (k)).ni))), (V.sl (List.map cI ((nth (o.tr) (k)).no)))])) (@rfl V (V.pp [(V.sl (List.map cI ((nth (o.tr) (k)).ni))), (V.sl (List.map cI ((nth (o.tr) (k)).no)))])) (by first | rfl | simp [ldV]) ?_
   refine R_alloc (i := 7) (n := v7) (m := 2) rfl h7 rfl ?_
   refine R_store (vs := [(V.sl (List.map cI ((nth (o.tr) (k)).ni))), (V.sl (List.map cI ((nth (o.tr) (k)).no)))]) (B' := (⟨v7 + 1, true, false, 63, 2, [[(V.sl (List.map cI ((nth (o.tr) (k)).ni))), (V.sl (List.map cI ((nth (o.tr) (k)).no)))]]⟩ : Blk)) (@rfl V (V.mp 7 (v7 + 1) 0 0)) (@rfl V (V.agg [(V.sl (List.map cI ((nth (o.tr) (k)).ni))), (V.sl (List.map cI ((nth (o.tr) (k)).no)))])) rfl (@rfl Blk (⟨v7 + 1, true, false, 63, 2, [[V.nilsl, V.nilsl]]⟩ : Blk)) (by first | rfl | simp [stB, okB, Blk.own, putAt, V.one]) ?_
   exact R_nil ⟨t1, t5, rfl, t9, t10, t11, h2, h5, rfl, trivial⟩
  intro T H ⟨t1, t5, t7, t9, t10, t11, h2, h5, h7, _⟩
  refine W_seq_regc (fun T H => T 1 = (V.sl (List.map cI (u))) ∧ T 5 = (V.ms 5 (1 + (bhd (o.tr.take k) u).length) 0 ((bhd (o.tr.take k) u).length)) ∧ T 7 = (V.mp 7 (v7 + 1) 0 0) ∧ T 9 = (V.sl (List.map cT (o.tr))) ∧ T 10 = (iV ((o.tr.length : Nat) : Int)) ∧ T 11 = (iV ((k : Nat) : Int)) ∧ T 18 = (V.bool (hp ((nth (o.tr) (k)).ni) u)) ∧ H 2 = (⟨1, true, false, 34, 2, [[(iV (o.i)), (V.sl (List.map cT (o.tr)))]]⟩ : Blk) ∧ H 5 = (⟨1 + (bhd (o.tr.take k) u).length, true, true, 63, 2, (List.map cT (bhd (o.tr.take k) u))⟩ : Blk) ∧ H 7 = (⟨v7 + 1, true, false, 63, 2, [[(V.sl (List.map cI ((nth (o.tr) (k)).ni))), (V.sl (List.map cI ((nth (o.tr) (k)).no)))]]⟩ : Blk) ∧ True) ?_ ?_
  ·
   unfold r68_5
   refine R_fld_mp (o' := 0) t7 h7 (by first | rfl | simp [okB, Blk.own]) rfl ?_
   refine R_load_mp (v := (V.sl (List.map cI ((nth (o.tr) (k)).ni)))) (@rfl V (V.mp 7 (v7 + 1) 0 0)) h7 (by first | rfl | simp [ldB, ldV, Blk.own, V.one]) ?_
   refine R_mv t1 ?_
   refine R_call (evcons (@rfl V (V.sl (List.map cI ((nth (o.tr) (k)).ni)))) (evcons (@rfl V (V.sl (List.map cI (u)))) evnil)) (hp_pure ((nth (o.tr) (k)).ni) u) (fzv_mapcanon _ _ (by simp [-List.map_take, -List.map_drop, -List.map_append, -List.map_reverse])) (by simp [-List.map_take, -List.map_drop, -List.map_append, -List.map_reverse]) (Or.inl (by simp [-List.map_take, -List.map_drop, -List.map_append, -List.map_reverse])) ?_
   exact R_nil ⟨t1, t5, t7, t9, t10, t11, rfl, h2, h5, h7, trivial⟩
  intro T H ⟨t1, t5, t7, t9, t10, t11, t18, h2, h5, h7, _⟩
  refine W_ifb t18 (fun c5 => ?_) (fun c5 => ?_)
  ·
   rw [bh1, if_pos c5] at g1
   have u5 := hp_len c5
   refine W_regc (fun T H => T 1 = (V.sl (List.map cI (u))) ∧ T 5 = (V.ms 5 ((1 + (bhd (o.tr.take k) u).length) + 1) 0 (((bhd (o.tr.take k) u).length) + 1)) ∧ T 9 = (V.sl (List.map cT (o.tr))) ∧ T 10 = (iV ((o.tr.length : Nat) : Int)) ∧ T 11 = (iV ((k : Nat) : Int)) ∧ H 2 = (⟨1, true, false, 34, 2, [[(iV (o.i)), (V.sl (List.map cT (o.tr)))]]⟩ : Blk) ∧ H 5 = (⟨(1 + (bhd (o.tr.take k) u).length) + 1, true, true, 63, 2, (List.map cT (bhd (o.tr.take k) u ++ [(⟨List.drop (u.length) ((nth (o.tr) (k)).ni), List.drop (u.length) ((nth (o.tr) (k)).no)⟩ : Tr)]))⟩ : Blk) ∧ H 7 = (⟨v7 + 1, true, false, 63, 2, [[(V.sl (List.map cI ((nth (o.tr) (k)).ni))), (V.sl (List.map cI ((nth (o.tr) (k)).no)))]]⟩ : Blk) ∧ True) ?_ ?_
   ·
    unfold r68_6
    refine R_mv t5 ?_
    refine R_fld_mp (o' := 0) t7 h7 (by first | rfl | simp [okB, Blk.own]) rfl ?_
    refine R_load_mp (v := (V.sl (List.map cI ((nth (o.tr) (k)).ni)))) (@rfl V (V.mp 7 (v7 + 1) 0 0)) h7 (by first | rfl | simp [ldB, ldV, Blk.own, V.one]) ?_
    refine R_mv t1 ?_
    refine R_len (@rfl V (V.sl (List.map cI (u)))) ?_
    refine R_slice_lo (n := u.length) (@rfl V (V.sl (List.map cI ((nth (o.tr) (k)).ni)))) (@rfl V (iV ((u.length : Nat) : Int))) (by omega) (fun _ => rfl) ?_
    refine R_fld_mp (o' := 1) t7 h7 (by first | rfl | simp [okB, Blk.own]) rfl ?_
    refine R_load_mp (v := (V.sl (List.map cI ((nth (o.tr) (k)).no)))) (@rfl V (V.mp 7 (v7 + 1) 0 1)) h7 (by first | rfl | simp [ldB, ldV, Blk.own, V.one]) ?_
    refine R_mv t1 ?_
    refine R_len (@rfl V (V.sl (List.map cI (u)))) ?_
    refine R_slice_lo (n := u.length) (@rfl V (V.sl (List.map cI ((nth (o.tr) (k)).no)))) (@rfl V (iV ((u.length : Nat) : Int))) (by omega) (fun _ => rfl) ?_
    refine R_build (qs := [(0, 1, (V.sl (List.map cI (List.drop (u.length) ((nth (o.tr) (k)).ni))))), (1, 1, (V.sl (List.map cI (List.drop (u.length) ((nth (o.tr) (k)).no)))))]) (cs := [(V.sl (List.map cI (List.drop (u.length) ((nth (o.tr) (k)).ni)))), (V.sl (List.map cI (List.drop (u.length) ((nth (o.tr) (k)).no))))]) (mcons (congrArg (fun v => (0, 1, v)) (@rfl V (V.sl (List.map cI (List.drop (u.length) ((nth (o.tr) (k)).ni)))))) (mcons (congrArg (fun v => (1, 1, v)) (@rfl V (V.sl (List.map cI (List.drop (u.length) ((nth (o.tr) (k)).no)))))) rfl)) rfl ?_
    refine R_bslice (qs := [(0, (V.agg [(V.sl (List.map cI (List.drop (u.length) ((nth (o.tr) (k)).ni)))), (V.sl (List.map cI (List.drop (u.length) ((nth (o.tr) (k)).no))))]))]) (rows := [[(V.sl (List.map cI (List.drop (u.length) ((nth (o.tr) (k)).ni)))), (V.sl (List.map cI (List.drop (u.length) ((nth (o.tr) (k)).no))))]]) (mcons (congrArg (fun v => (0, v)) (@rfl V (V.agg [(V.sl (List.map cI (List.drop (u.length) ((nth (o.tr) (k)).ni)))), (V.sl (List.map cI (List.drop (u.length) ((nth (o.tr) (k)).no))))]))) rfl) rfl ?_
    refine R_append1 (l := (bhd (o.tr.take k) u)) (f := cT) (x := ((⟨List.drop (u.length) ((nth (o.tr) (k)).ni), List.drop (u.length) ((nth (o.tr) (k)).no)⟩ : Tr))) (@rfl V (V.ms 5 (1 + (bhd (o.tr.take k) u).length) 0 ((bhd (o.tr.take k) u).length))) h5 (by first | rfl | simp | omega) (@rfl V (V.sl [[(V.sl (List.map cI (List.drop (u.length) ((nth (o.tr) (k)).ni)))), (V.sl (List.map cI (List.drop (u.length) ((nth (o.tr) (k)).no))))]])) rfl rfl (by omega) (by omega) ?_
    refine R_mv (@rfl V (V.ms 5 ((1 + (bhd (o.tr.take k) u).length) + 1) 0 (((bhd (o.tr.take k) u).length) + 1))) ?_
    exact R_nil ⟨t1, rfl, t9, t10, t11, h2, rfl, h7, trivial⟩
   intro T H ⟨t1, t5, t9, t10, t11, h2, h5, h7, _⟩
   refine n4 _ _ ?_
   refine .done ?_
   refine W_regc (fun T H => T 1 = (V.sl (List.map cI (u))) ∧ T 5 = (V.ms 5 ((1 + (bhd (o.tr.take k) u).length) + 1) 0 (((bhd (o.tr.take k) u).length) + 1)) ∧ T 9 = (V.sl (List.map cT (o.tr))) ∧ T 10 = (iV ((o.tr.length : Nat) : Int)) ∧ T 11 = (iV ((k + 1 : Nat) : Int)) ∧ H 2 = (⟨1, true, false, 34, 2, [[(iV (o.i)), (V.sl (List.map cT (o.tr)))]]⟩ : Blk) ∧ H 5 = (⟨(1 + (bhd (o.tr.take k) u).length) + 1, true, true, 63, 2, (List.map cT (bhd (o.tr.take k) u ++ [(⟨List.drop (u.length) ((nth (o.tr) (k)).ni), List.drop (u.length) ((nth (o.tr) (k)).no)⟩ : Tr)]))⟩ : Blk) ∧ H 7 = (⟨v7 + 1, true, false, 63, 2, [[(V.sl (List.map cI ((nth (o.tr) (k)).ni))), (V.sl (List.map cI ((nth (o.tr) (k)).no)))]]⟩ : Blk) ∧ True) ?_ ?_
   ·
    unfold r68_7
    refine R_addN (m := k) (n := 1) t11 (@rfl V (iV ((1 : Nat) : Int))) (by omega) ?_
    refine R_mv (@rfl V (iV ((k + 1 : Nat) : Int))) ?_
    exact R_nil ⟨t1, t5, t9, t10, rfl, h2, h5, h7, trivial⟩
   intro T H ⟨t1, t5, t9, t10, t11, h2, h5, h7, _⟩
   refine p12 _ _ _ ?_ ⟨(k + 1), (v7 + 1), rfl, t1, (Eq.trans t5 (by first | rfl | (rw [g1, List.length_append]; rfl) | (rw [g1]; done))), t9, t10, (Eq.trans t11 (by first | rfl | (rw [g1, List.length_append]; rfl) | (rw [g1]; done))), h2, (Eq.trans h5 (by first | rfl | (rw [g1, List.length_append]; rfl) | (rw [g1]; done))), (congrArg Blk.ver h7), ?_⟩
   · omega
   · omega
  rw [bh1, if_neg (by simp [c5]), List.append_nil] at g1
  refine W_skip ?_
  refine n4 _ _ ?_
  refine .done ?_
  refine W_regc (fun T H => T 1 = (V.sl (List.map cI (u))) ∧ T 5 = (V.ms 5 (1 + (bhd (o.tr.take k) u).length) 0 ((bhd (o.tr.take k) u).length)) ∧ T 9 = (V.sl (List.map cT (o.tr))) ∧ T 10 = (iV ((o.tr.length : Nat) : Int)) ∧ T 11 = (iV ((k + 1 : Nat) : Int)) ∧ H 2 = (⟨1, true, false, 34, 2, [[(iV (o.i)), (V.sl (List.map cT (o.tr)))]]⟩ : Blk) ∧ H 5 = (⟨1 + (bhd (o.tr.take k) u).length, true, true, 63, 2, (List.map cT (bhd (o.tr.take k) u))⟩ : Blk) ∧ H 7 = (⟨v7 + 1, true, false, 63, 2, [[(V.sl (List.map cI ((nth (o.tr) (k)).ni))), (V.sl (List.map cI ((nth (o.tr) (k)).no)))]]⟩ : Blk) ∧ True) ?_ ?_
  ·
   unfold r68_7
   refine R_addN (m := k) (n := 1) t11 (@rfl V (iV ((1 : Nat) : Int))) (by omega) ?_
   refine R_mv (@rfl V (iV ((k + 1 : Nat) : Int))) ?_
   exact R_nil ⟨t1, t5, t9, t10, rfl, h2, h5, h7, trivial⟩
  intro T H ⟨t1, t5, t9, t10, t11, h2, h5, h7, _⟩
  refine p12 _ _ _ ?_ ⟨(k + 1), (v7 + 1), rfl, t1, (Eq.trans t5 (by first | rfl | (rw [g1, List.length_append]; rfl) | (rw [g1]; done))), t9, t10, (Eq.trans t11 (by first | rfl | (rw [g1, List.length_append]; rfl) | (rw [g1]; done))), h2, (Eq.trans h5 (by first | rfl | (rw [g1, List.length_append]; rfl) | (rw [g1]; done))), (congrArg Blk.ver h7), ?_⟩
  · omega
  · omega
 refine W_seq_exit ?_
 refine p32 _ _ _ ?_
 refine x1 _ _ ?_
 refine .done ?_
 refine W_seq_regc (fun T H => T 4 = (V.ms 5 (1 + (bhd (o.tr.take k) u).length) 0 ((bhd (o.tr.take k) u).length)) ∧ H 2 = (⟨1, true, false, 34, 2, [[(iV (o.i)), (V.sl (List.map cT (o.tr)))]]⟩ : Blk) ∧ H 5 = (⟨1 + (bhd (o.tr.take k) u).length, true, true, 63, 2, (List.map cT (bhd (o.tr.take k) u))⟩ : Blk) ∧ (H 7).ver = v7 ∧ True) ?_ ?_
 ·
  unfold r68_8
  refine R_mv t5 ?_
  refine R_mv (@rfl V (V.ms 5 (1 + (bhd (o.tr.take k) u).length) 0 ((bhd (o.tr.take k) u).length))) ?_
  exact R_nil ⟨rfl, h2, h5, h7, trivial⟩
 intro T H ⟨t4, h2, h5, h7, _⟩
 refine W_ret ?_
 refine Ret_1 t4 (fz_ms h5 (by first | rfl | simp) (l := (bhd (o.tr.take k) u)) rfl (by first | rfl | simp | omega) (fun _ => by simp) ?_)
 · (have e : k = o.tr.length := (by omega)); subst e; rw [List.take_length]

end Go.Proofs.Ytngkckefanbhgaa

namespace Go.Proofs.Ytngkckefanbhgaa
open Go Go.Proofs

theorem hapart_pure (o : Ob) (u v : List Int) (ho : oval o = 0) (hu : u.length ≤ 1048576) (hv : v.length ≤ 1048576) : PureC Try.prog 27 [(V.agg [(iV (o.i)), (V.sl (List.map cT (o.tr)))]), (V.sl (List.map cI (u))), (V.sl (List.map cI (v)))] (V.tup [(V.sl (List.map cI (least (fdl (bhd o.tr u) (bhd o.tr v))))), (V.bool (decide (fdl (bhd o.tr u) (bhd o.tr v) ≠ [])))]) := by
 refine pure_of_Wb true 6 Try.func27 s27_ok (by kernel_rfl) (by simp [s27]) (by simp) (by simp) fun hB => ?_
 simp only [bnd_map, bnd_int, bnd_bool, bnd_str, bnd_agg, bnd_pp, bnd_nil, bnd_cons, implies_true, and_true, true_and] at hB
 unfold s27
 dsimp only
 have u2 := oval_ok ho
 have u3 := u2.len
 have u4 := bhd_len (u := u) o.tr
 have u5 := bhd_len (u := v) o.tr
 refine W_seq_regc (fun T H => T 1 = (V.sl (List.map cI (u))) ∧ T 2 = (V.sl (List.map cI (v))) ∧ T 3 = (V.mp 3 1 0 0) ∧ H 3 = (⟨1, true, false, 34, 2, [[(iV (o.i)), (V.sl (List.map cT (o.tr)))]]⟩ : Blk) ∧ H 8 = (⟨0, false, false, 0, 0, []⟩ : Blk) ∧ H 11 = (⟨0, false, false, 0, 0, []⟩ : Blk) ∧ H 13 = (⟨0, false, false, 0, 0, []⟩ : Blk) ∧ True) ?_ ?_
 ·
  unfold r27_0
  refine R_box (i := 3) (n := 0) (m := 2) (cs := [(iV (o.i)), (V.sl (List.map cT (o.tr)))]) rfl (congrArg Blk.ver rfl) (@rfl V (V.agg [(iV (o.i)), (V.sl (List.map cT (o.tr)))])) rfl rfl ?_
  refine R_mv (@rfl V V.nilsl) ?_
  refine R_mv (@rfl V (V.bool false)) ?_
  exact R_nil ⟨rfl, rfl, rfl, rfl, rfl, rfl, rfl, trivial⟩
 intro T H ⟨t1, t2, t3, h3, h8, h11, h13, _⟩
 refine W_seq_regc (fun T H => T 1 = (V.sl (List.map cI (u))) ∧ T 2 = (V.sl (List.map cI (v))) ∧ T 3 = (V.mp 3 1 0 0) ∧ T 8 = (V.ms 8 1 0 (0)) ∧ H 3 = (⟨1, true, false, 34, 2, [[(iV (o.i)), (V.sl (List.map cT (o.tr)))]]⟩ : Blk) ∧ H 8 = (⟨1, true, true, 35, 1, []⟩ : Blk) ∧ H 11 = (⟨0, false, false, 0, 0, []⟩ : Blk) ∧ H 13 = (⟨0, false, false, 0, 0, []⟩ : Blk) ∧ True) ?_ ?_
 ·
  unfold r27_1
  refine R_lazy (i := 8) (n := 0) rfl (congrArg Blk.ver h8) ?_
  exact R_nil ⟨t1, t2, t3, rfl, h3, rfl, h11, h13, trivial⟩
 intro T H ⟨t1, t2, t3, t8, h3, h8, h11, h13, _⟩
 refine W_seq_regc (fun T H => T 1 = (V.sl (List.map cI (u))) ∧ T 3 = (V.mp 3 1 0 0) ∧ T 8 = (V.ms 8 1 0 (0)) ∧ T 9 = (V.sl (List.map cT (bhd o.tr v))) ∧ H 3 = (⟨1, true, false, 34, 2, [[(iV (o.i)), (V.sl (List.map cT (o.tr)))]]⟩ : Blk) ∧ H 8 = (⟨1, true, true, 35, 1, []⟩ : Blk) ∧ H 11 = (⟨0, false, false, 0, 0, []⟩ : Blk) ∧ H 13 = (⟨0, false, false, 0, 0, []⟩ : Blk) ∧ True) ?_ ?_
 ·
  unfold r27_2
  refine R_load_mp (v := (V.agg [(iV (o.i)), (V.sl (List.map cT (o.tr)))])) t3 h3 (by first | rfl | simp [ldB, ldV, Blk.own, V.one]) ?_
  refine R_mv t2 ?_
  refine R_call (evcons (@rfl V (V.agg [(iV (o.i)), (V.sl (List.map cT (o.tr)))])) (evcons (@rfl V (V.sl (List.map cI (v)))) evnil)) (behind_pure o v ho (by omega)) (fzv_mapcanon _ _ (by simp [-List.map_take, -List.map_drop, -List.map_append, -List.map_reverse])) (by simp [-List.map_take, -List.map_drop, -List.map_append, -List.map_reverse]) (Or.inl (by simp [-List.map_take, -List.map_drop, -List.map_append, -List.map_reverse])) ?_
  refine R_mv (@rfl V (V.sl (List.map cT (bhd o.tr v)))) ?_
  exact R_nil ⟨t1, t3, t8, rfl, h3, h8, h11, h13, trivial⟩
 intro T H ⟨t1, t3, t8, t9, h3, h8, h11, h13, _⟩
 refine W_seq_seq ?_
 refine W_seq_regc (fun T H => T 8 = (V.ms 8 1 0 (0)) ∧ T 9 = (V.sl (List.map cT (bhd o.tr v))) ∧ T 24 = (V.sl (List.map cT (bhd o.tr u))) ∧ T 25 = (iV (((bhd o.tr u).length : Nat) : Int)) ∧ T 26 = (iV (0 : Int)) ∧ H 3 = (⟨1, true, false, 34, 2, [[(iV (o.i)), (V.sl (List.map cT (o.tr)))]]⟩ : Blk) ∧ H 8 = (⟨1, true, true, 35, 1, []⟩ : Blk) ∧ H 11 = (⟨0, false, false, 0, 0, []⟩ : Blk) ∧ H 13 = (⟨0, false, false, 0, 0, []⟩ : Blk) ∧ True) ?_ ?_
 ·
  unfold r27_3
  refine R_load_mp (v := (V.agg [(iV (o.i)), (V.sl (List.map cT (o.tr)))])) t3 h3 (by first | rfl | simp [ldB, ldV, Blk.own, V.one]) ?_
  refine R_mv t1 ?_
  refine R_call (evcons (@rfl V (V.agg [(iV (o.i)), (V.sl (List.map cT (o.tr)))])) (evcons (@rfl V (V.sl (List.map cI (u)))) evnil)) (behind_pure o u ho (by omega)) (fzv_mapcanon _ _ (by simp [-List.map_take, -List.map_drop, -List.map_append, -List.map_reverse])) (by simp [-List.map_take, -List.map_drop, -List.map_append, -List.map_reverse]) (Or.inl (by simp [-List.map_take, -List.map_drop, -List.map_append, -List.map_reverse])) ?_
  refine R_len (@rfl V (V.sl (List.map cT (bhd o.tr u)))) ?_
  refine R_mv (@rfl V (iV (0 : Int))) ?_
  exact R_nil ⟨t8, t9, rfl, rfl, rfl, h3, h8, h11, h13, trivial⟩
 intro T H ⟨t8, t9, t24, t25, t26, h3, h8, h11, h13, _⟩
 refine W_seq_blockg fun Q1 n1 x1 y1 z1 => ?_
 refine W_loop (fun mm T H => ∃ (k : Nat) (v11 : Nat) (v13 : Nat), mm = ((bhd o.tr u).length) - k ∧ T 8 = (V.ms 8 (1 + (fds (bhd o.tr u) (bhd o.tr v) k 0).length) 0 ((fds (bhd o.tr u) (bhd o.tr v) k 0).length)) ∧ T 9 = (V.sl (List.map cT (bhd o.tr v))) ∧ T 24 = (V.sl (List.map cT (bhd o.tr u))) ∧ T 25 = (iV (((bhd o.tr u).length : Nat) : Int)) ∧ T 26 = (iV ((k : Nat) : Int)) ∧ H 3 = (⟨1, true, false, 34, 2, [[(iV (o.i)), (V.sl (List.map cT (o.tr)))]]⟩ : Blk) ∧ H 8 = (⟨1 + (fds (bhd o.tr u) (bhd o.tr v) k 0).length, true, true, 35, 1, (List.map cL (fds (bhd o.tr u) (bhd o.tr v) k 0))⟩ : Blk) ∧ (H 11).ver = v11 ∧ (H 13).ver = v13 ∧ (k ≤ (bhd o.tr u).length) ∧ ((fds (bhd o.tr u) (bhd o.tr v) k 0).length ≤ k * 10000)) ?_ ?_
 ·
  refine ⟨_, 0, 0, 0, rfl, (Eq.trans t8 (by first | rfl | (rw [g1, List.length_append]; rfl) | (rw [g1]; done) | (have e : j = (bhd o.tr v).length := (by omega); subst e; rw [fds_row (by omega)]; first | done | rfl))), t9, t24, t25, (Eq.trans t26 (by first | rfl | (rw [g1, List.length_append]; rfl) | (rw [g1]; done) | (have e : j = (bhd o.tr v).length := (by omega); subst e; rw [fds_row (by omega)]; first | done | rfl))), h3, (Eq.trans h8 (by first | rfl | (rw [g1, List.length_append]; rfl) | (rw [g1]; done) | (have e : j = (bhd o.tr v).length := (by omega); subst e; rw [fds_row (by omega)]; first | done | rfl))), (congrArg Blk.ver h11), (congrArg Blk.ver h13), ?_, ?_⟩
  · omega
  · simp [fds]
 intro mm T H ⟨k, v11, v13, hmm, t8, t9, t24, t25, t26, h3, h8, h11, h13, hk, hz⟩ Q2 p12 p22 p32
 unfold b27_0
 refine W_seq_regc (fun T H => T 8 = (V.ms 8 (1 + (fds (bhd o.tr u) (bhd o.tr v) k 0).length) 0 ((fds (bhd o.tr u) (bhd o.tr v) k 0).length)) ∧ T 9 = (V.sl (List.map cT (bhd o.tr v))) ∧ T 24 = (V.sl (List.map cT (bhd o.tr u))) ∧ T 25 = (iV (((bhd o.tr u).length : Nat) : Int)) ∧ T 26 = (iV ((k : Nat) : Int)) ∧ T 27 = (V.bool (decide (((k : Nat) : Int) < (((bhd o.tr u).length : Nat) : Int)))) ∧ H 3 = (⟨1, true, false, 34, 2, [[(iV (o.i)), (V.sl (List.map cT (o.tr)))]]⟩ : Blk) ∧ H 8 = (⟨1 + (fds (bhd o.tr u) (bhd o.tr v) k 0).length, true, true, 35, 1, (List.map cL (fds (bhd o.tr u) (bhd o.tr v) k 0))⟩ : Blk) ∧ (H 11).ver = v11 ∧ (H 13).ver = v13 ∧ True) ?_ ?_
 ·
  unfold r27_4
  refine R_lss (x := ((k : Nat) : Int)) (y := (((bhd o.tr u).length : Nat) : Int)) t26 t25 ?_
  exact R_nil ⟨t8, t9, t24, t25, t26, rfl, h3, h8, h11, h13, trivial⟩
 intro T H ⟨t8, t9, t24, t25, t26, t27, h3, h8, h11, h13, _⟩
 refine W_seq_if (p := ((k : Nat) : Int) < (((bhd o.tr u).length : Nat) : Int)) t27 (fun c3 => ?_) (fun c3 => ?_)
 ·
  have b1 := bhd_ok u2 (u := u) (k := k) (by omega)
  refine W_seq_skip ?_
  refine W_seq_blockg fun Q4 n4 x4 y4 z4 => ?_
  refine W_seq_regc (fun T H => T 8 = (V.ms 8 (1 + (fds (bhd o.tr u) (bhd o.tr v) k 0).length) 0 ((fds (bhd o.tr u) (bhd o.tr v) k 0).length)) ∧ T 9 = (V.sl (List.map cT (bhd o.tr v))) ∧ T 11 = (V.mp 11 (v11 + 1) 0 0) ∧ T 24 = (V.sl (List.map cT (bhd o.tr u))) ∧ T 25 = (iV (((bhd o.tr u).length : Nat) : Int)) ∧ T 26 = (iV ((k : Nat) : Int)) ∧ H 3 = (⟨1, true, false, 34, 2, [[(iV (o.i)), (V.sl (List.map cT (o.tr)))]]⟩ : Blk) ∧ H 8 = (⟨1 + (fds (bhd o.tr u) (bhd o.tr v) k 0).length, true, true, 35, 1, (List.map cL (fds (bhd o.tr u) (bhd o.tr v) k 0))⟩ : Blk) ∧ H 11 = (⟨v11 + 1, true, false, 63, 2, [[(V.sl (List.map cI ((nth (bhd o.tr u) (k)).ni))), (V.sl (List.map cI ((nth (bhd o.tr u) (k)).no)))]]⟩ : Blk) ∧ (H 13).ver = v13 ∧ True) ?_ ?_
  ·
   unfold r27_5
   refine R_idx (i := k) t24 t26 (by omega) rfl ?_
   refine R_load_pp (v := (V.agg [(V.sl (List.map cI ((nth (bhd o.tr u) (k)).ni))), (V.sl (List.map cI ((nth (bhd o.tr u) (k)).no)))])) (@rfl V (V.pp [(V.sl (List.map cI ((nth (bhd o.tr u) (k)).ni))), (V.sl (List.map cI ((nth (bhd o.tr u) (k)).no)))])) (by first | rfl | simp [ldV]) ?_
   refine R_alloc (i := 11) (n := v11) (m := 2) rfl h11 rfl ?_
   refine R_store (vs := [(V.sl (List.map cI ((nth (bhd o.tr u) (k)).ni))), (V.sl (List.map cI ((nth (bhd o.tr u) (k)).no)))]) (B' := (⟨v11 + 1, true, false, 63, 2, [[(V.sl (List.map cI ((nth (bhd o.tr u) (k)).ni))), (V.sl (List.map cI ((nth (bhd o.tr u) (k)).no)))]]⟩ : Blk)) (@rfl V (V.mp 11 (v11 + 1) 0 0)) (@rfl V (V.agg [(V.sl (List.map cI ((nth (bhd o.tr u) (k)).ni))), (V.sl (List.map cI ((nth (bhd o.tr u) (k)).no)))])) rfl (@rfl Blk (⟨v11 + 1, true, false, 63, 2, [[V.nilsl, V.nilsl]]⟩ : Blk)) (by first | rfl | simp [stB, okB, Blk.own, putAt, V.one]) ?_
   exact R_nil ⟨t8, t9, rfl, t24, t25, t26, h3, h8, rfl, h13, trivial⟩
  intro T H ⟨t8, t9, t11, t24, t25, t26, h3, h8, h11, h13, _⟩
  refine W_seq_regc (fun T H => T 8 = (V.ms 8 (1 + (fds (bhd o.tr u) (bhd o.tr v) k 0).length) 0 ((fds (bhd o.tr u) (bhd o.tr v) k 0).length)) ∧ T 9 = (V.sl (List.map cT (bhd o.tr v))) ∧ T 11 = (V.mp 11 (v11 + 1) 0 0) ∧ T 24 = (V.sl (List.map cT (bhd o.tr u))) ∧ T 25 = (iV (((bhd o.tr u).length : Nat) : Int)) ∧ T 26 = (iV ((k : Nat) : Int)) ∧ T 30 = (V.sl (List.map cT (bhd o.tr v))) ∧ T 31 = (iV (((bhd o.tr v).length : Nat) : Int)) ∧ T 32 = (iV (0 : Int)) ∧ H 3 = (⟨1, true, false, 34, 2, [[(iV (o.i)), (V.sl (List.map cT (o.tr)))]]⟩ : Blk) ∧ H 8 = (⟨1 + (fds (bhd o.tr u) (bhd o.tr v) k 0).length, true, true, 35, 1, (List.map cL (fds (bhd o.tr u) (bhd o.tr v) k 0))⟩ : Blk) ∧ H 11 = (⟨v11 + 1, true, false, 63, 2, [[(V.sl (List.map cI ((nth (bhd o.tr u) (k)).ni))), (V.sl (List.map cI ((nth (bhd o.tr u) (k)).no)))]]⟩ : Blk) ∧ (H 13).ver = v13 ∧ True) ?_ ?_
  ·
   unfold r27_6
   refine R_mv t9 ?_
   refine R_len (@rfl V (V.sl (List.map cT (bhd o.tr v)))) ?_
   refine R_mv (@rfl V (iV (0 : Int))) ?_
   exact R_nil ⟨t8, t9, t11, t24, t25, t26, rfl, rfl, rfl, h3, h8, h11, h13, trivial⟩
  intro T H ⟨t8, t9, t11, t24, t25, t26, t30, t31, t32, h3, h8, h11, h13, _⟩
  refine W_block fun Q5 n5 x5 y5 z5 => ?_
  refine W_loop (fun mm T H => ∃ (j : Nat) (v13 : Nat), mm = ((bhd o.tr v).length) - j ∧ T 8 = (V.ms 8 (1 + (fds (bhd o.tr u) (bhd o.tr v) k j).length) 0 ((fds (bhd o.tr u) (bhd o.tr v) k j).length)) ∧ T 9 = (V.sl (List.map cT (bhd o.tr v))) ∧ T 11 = (V.mp 11 (v11 + 1) 0 0) ∧ T 24 = (V.sl (List.map cT (bhd o.tr u))) ∧ T 25 = (iV (((bhd o.tr u).length : Nat) : Int)) ∧ T 26 = (iV ((k : Nat) : Int)) ∧ T 30 = (V.sl (List.map cT (bhd o.tr v))) ∧ T 31 = (iV (((bhd o.tr v).length : Nat) : Int)) ∧ T 32 = (iV ((j : Nat) : Int)) ∧ H 3 = (⟨1, true, false, 34, 2, [[(iV (o.i)), (V.sl (List.map cT (o.tr)))]]⟩ : Blk) ∧ H 8 = (⟨1 + (fds (bhd o.tr u) (bhd o.tr v) k j).length, true, true, 35, 1, (List.map cL (fds (bhd o.tr u) (bhd o.tr v) k j))⟩ : Blk) ∧ H 11 = (⟨v11 + 1, true, false, 63, 2, [[(V.sl (List.map cI ((nth (bhd o.tr u) (k)).ni))), (V.sl (List.map cI ((nth (bhd o.tr u) (k)).no)))]]⟩ : Blk) ∧ (H 13).ver = v13 ∧ (j ≤ (bhd o.tr v).length) ∧ ((fds (bhd o.tr u) (bhd o.tr v) k j).length ≤ k * 10000 + j)) ?_ ?_
  ·
   refine ⟨_, 0, v13, rfl, t8, t9, t11, t24, t25, t26, t30, t31, (Eq.trans t32 (by first | rfl | (rw [g1, List.length_append]; rfl) | (rw [g1]; done) | (have e : j = (bhd o.tr v).length := (by omega); subst e; rw [fds_row (by omega)]; first | done | rfl))), h3, h8, h11, h13, ?_, ?_⟩
   · omega
   · rw [Nat.add_zero]; exact hz
  intro mm T H ⟨j, v13, hmm, t8, t9, t11, t24, t25, t26, t30, t31, t32, h3, h8, h11, h13, hj, hy⟩ Q6 p16 p26 p36
  unfold b27_1
  refine W_seq_regc (fun T H => T 8 = (V.ms 8 (1 + (fds (bhd o.tr u) (bhd o.tr v) k j).length) 0 ((fds (bhd o.tr u) (bhd o.tr v) k j).length)) ∧ T 9 = (V.sl (List.map cT (bhd o.tr v))) ∧ T 11 = (V.mp 11 (v11 + 1) 0 0) ∧ T 24 = (V.sl (List.map cT (bhd o.tr u))) ∧ T 25 = (iV (((bhd o.tr u).length : Nat) : Int)) ∧ T 26 = (iV ((k : Nat) : Int)) ∧ T 30 = (V.sl (List.map cT (bhd o.tr v))) ∧ T 31 = (iV (((bhd o.tr v).length : Nat) : Int)) ∧ T 32 = (iV ((j : Nat) : Int)) ∧ T 33 = (V.bool (decide (((j : Nat) : Int) < (((bhd o.tr v).length : Nat) : Int)))) ∧ H 3 = (⟨1, true, false, 34, 2, [[(iV (o.i)), (V.sl (List.map cT (o.tr)))]]⟩ : Blk) ∧ H 8 = (⟨1 + (fds (bhd o.tr u) (bhd o.tr v) k j).length, true, true, 35, 1, (List.map cL (fds (bhd o.tr u) (bhd o.tr v) k j))⟩ : Blk) ∧ H 11 = (⟨v11 + 1, true, false, 63, 2, [[(V.sl (List.map cI ((nth (bhd o.tr u) (k)).ni))), (V.sl (List.map cI ((nth (bhd o.tr u) (k)).no)))]]⟩ : Blk) ∧ (H 13).ver = v13 ∧ True) ?_ ?_
  ·
   unfold r27_7
   refine R_lss (x := ((j : Nat) : Int)) (y := (((bhd o.tr v).length : Nat) : Int)) t32 t31 ?_
   exact R_nil ⟨t8, t9, t11, t24, t25, t26, t30, t31, t32, rfl, h3, h8, h11, h13, trivial⟩
  intro T H ⟨t8, t9, t11, t24, t25, t26, t30, t31, t32, t33, h3, h8, h11, h13, _⟩
  refine W_seq_if (p := ((j : Nat) : Int) < (((bhd o.tr v).length : Nat) : Int)) t33 (fun c7 => ?_) (fun c7 => ?_)
  ·
   have b2 := bhd_ok u2 (u := v) (k := j) (by omega)
   have g1 := fds_step (A := bhd o.tr u) (B := bhd o.tr v) (k := k) (j := j) (by omega)
   have q0 := cmn_l (nth (bhd o.tr u) k).ni (nth (bhd o.tr v) j).ni
   have q00 := cmn_r (nth (bhd o.tr u) k).ni (nth (bhd o.tr v) j).ni
   refine W_seq_skip ?_
   refine W_seq_blockg fun Q8 n8 x8 y8 z8 => ?_
   refine W_seq_regc (fun T H => T 8 = (V.ms 8 (1 + (fds (bhd o.tr u) (bhd o.tr v) k j).length) 0 ((fds (bhd o.tr u) (bhd o.tr v) k j).length)) ∧ T 9 = (V.sl (List.map cT (bhd o.tr v))) ∧ T 11 = (V.mp 11 (v11 + 1) 0 0) ∧ T 13 = (V.mp 13 (v13 + 1) 0 0) ∧ T 24 = (V.sl (List.map cT (bhd o.tr u))) ∧ T 25 = (iV (((bhd o.tr u).length : Nat) : Int)) ∧ T 26 = (iV ((k : Nat) : Int)) ∧ T 30 = (V.sl (List.map cT (bhd o.tr v))) ∧ T 31 = (iV (((bhd o.tr v).length : Nat) : Int)) ∧ T 32 = (iV ((j : Nat) : Int)) ∧ H 3 = (⟨1, true, false, 34, 2, [[(iV (o.i)), (V.sl (List.map cT (o.tr)))]]⟩ : Blk) ∧ H 8 = (⟨1 + (fds (bhd o.tr u) (bhd o.tr v) k j).length, true, true, 35, 1, (List.map cL (fds (bhd o.tr u) (bhd o.tr v) k j))⟩ : Blk) ∧ H 11 = (⟨v11 + 1, true, false, 63, 2, [[(V.sl (List.map cI ((nth (bhd o.tr u) (k)).ni))), (V.sl (List.map cI ((nth (bhd o.tr u) (k)).no)))]]⟩ : Blk) ∧ H 13 = (⟨v13 + 1, true, false, 63, 2, [[(V.sl (List.map cI ((nth (bhd o.tr v) (j)).ni))), (V.sl (List.map cI ((nth (bhd o.tr v) (j)).no)))]]⟩ : Blk) ∧ True) ?_ ?_
   ·
    unfold r27_8
    refine R_idx (i := j) t30 t32 (by omega) rfl ?_
    refine R_load_pp (v := (V.agg [(V.sl (List.map cI ((nth (bhd o.tr v) (j)).ni))), (V.sl (List.map cI ((nth (bhd o.tr v) (j)).no)))])) (@rfl V (V.pp [(V.sl (List.map cI ((nth (bhd o.tr v) (j)).ni))), (V.sl (List.map cI ((nth (bhd o.tr v) (j)).no)))])) (by first | rfl | simp [ldV]) ?_
    refine R_alloc (i := 13) (n := v13) (m := 2) rfl h13 rfl ?_
    refine R_store (vs := [(V.sl (List.map cI ((nth (bhd o.tr v) (j)).ni))), (V.sl (List.map cI ((nth (bhd o.tr v) (j)).no)))]) (B' := (⟨v13 + 1, true, false, 63, 2, [[(V.sl (List.map cI ((nth (bhd o.tr v) (j)).ni))), (V.sl (List.map cI ((nth (bhd o.tr v) (j)).no)))]]⟩ : Blk)) (@rfl V (V.mp 13 (v13 + 1) 0 0)) (@rfl V (V.agg [(V.sl (List.map cI ((nth (bhd o.tr v) (j)).ni))), (V.sl (List.map cI ((nth (bhd o.tr v) (j)).no)))])) rfl (@rfl Blk (⟨v13 + 1, true, false, 63, 2, [[V.nilsl, V.nilsl]]⟩ : Blk)) (by first | rfl | simp [stB, okB, Blk.own, putAt, V.one]) ?_
    exact R_nil ⟨t8, t9, t11, rfl, t24, t25, t26, t30, t31, t32, h3, h8, h11, rfl, trivial⟩
   intro T H ⟨t8, t9, t11, t13, t24, t25, t26, t30, t31, t32, h3, h8, h11, h13, _⟩
   refine W_seq_regc (fun T H => T 8 = (V.ms 8 (1 + (fds (bhd o.tr u) (bhd o.tr v) k j).length) 0 ((fds (bhd o.tr u) (bhd o.tr v) k j).length)) ∧ T 9 = (V.sl (List.map cT (bhd o.tr v))) ∧ T 11 = (V.mp 11 (v11 + 1) 0 0) ∧ T 13 = (V.mp 13 (v13 + 1) 0 0) ∧ T 14 = (iV ((cmn ((nth (bhd o.tr u) (k)).ni) ((nth (bhd o.tr v) (j)).ni) : Nat) : Int)) ∧ T 24 = (V.sl (List.map cT (bhd o.tr u))) ∧ T 25 = (iV (((bhd o.tr u).length : Nat) : Int)) ∧ T 26 = (iV ((k : Nat) : Int)) ∧ T 30 = (V.sl (List.map cT (bhd o.tr v))) ∧ T 31 = (iV (((bhd o.tr v).length : Nat) : Int)) ∧ T 32 = (iV ((j : Nat) : Int)) ∧ H 3 = (⟨1, true, false, 34, 2, [[(iV (o.i)), (V.sl (List.map cT (o.tr)))]]⟩ : Blk) ∧ H 8 = (⟨1 + (fds (bhd o.tr u) (bhd o.tr v) k j).length, true, true, 35, 1, (List.map cL (fds (bhd o.tr u) (bhd o.tr v) k j))⟩ : Blk) ∧ H 11 = (⟨v11 + 1, true, false, 63, 2, [[(V.sl (List.map cI ((nth (bhd o.tr u) (k)).ni))), (V.sl (List.map cI ((nth (bhd o.tr u) (k)).no)))]]⟩ : Blk) ∧ H 13 = (⟨v13 + 1, true, false, 63, 2, [[(V.sl (List.map cI ((nth (bhd o.tr v) (j)).ni))), (V.sl (List.map cI ((nth (bhd o.tr v) (j)).no)))]]⟩ : Blk) ∧ True) ?_ ?_
   ·
    unfold r27_9
    refine R_fld_mp (o' := 0) t11 h11 (by first | rfl | simp [okB, Blk.own]) rfl ?_
    refine R_load_mp (v := (V.sl (List.map cI ((nth (bhd o.tr u) (k)).ni)))) (@rfl V (V.mp 11 (v11 + 1) 0 0)) h11 (by first | rfl | simp [ldB, ldV, Blk.own, V.one]) ?_
    refine R_fld_mp (o' := 0) t13 h13 (by first | rfl | simp [okB, Blk.own]) rfl ?_
    refine R_load_mp (v := (V.sl (List.map cI ((nth (bhd o.tr v) (j)).ni)))) (@rfl V (V.mp 13 (v13 + 1) 0 0)) h13 (by first | rfl | simp [ldB, ldV, Blk.own, V.one]) ?_
    have q9 := cmn_l ((nth (bhd o.tr u) (k)).ni) ((nth (bhd o.tr v) (j)).ni)
    have q10 := cmn_r ((nth (bhd o.tr u) (k)).ni) ((nth (bhd o.tr v) (j)).ni)
    refine R_call (evcons (@rfl V (V.sl (List.map cI ((nth (bhd o.tr u) (k)).ni)))) (evcons (@rfl V (V.sl (List.map cI ((nth (bhd o.tr v) (j)).ni)))) evnil)) (common_pure ((nth (bhd o.tr u) (k)).ni) ((nth (bhd o.tr v) (j)).ni)) (fzv_mapcanon _ _ (by simp [-List.map_take, -List.map_drop, -List.map_append, -List.map_reverse])) (by simp [-List.map_take, -List.map_drop, -List.map_append, -List.map_reverse]) (Or.inl (by simp [-List.map_take, -List.map_drop, -List.map_append, -List.map_reverse])) ?_
    refine R_mv (@rfl V (iV ((cmn ((nth (bhd o.tr u) (k)).ni) ((nth (bhd o.tr v) (j)).ni) : Nat) : Int))) ?_
    exact R_nil ⟨t8, t9, t11, t13, rfl, t24, t25, t26, t30, t31, t32, h3, h8, h11, h13, trivial⟩
   intro T H ⟨t8, t9, t11, t13, t14, t24, t25, t26, t30, t31, t32, h3, h8, h11, h13, _⟩
   have q11 := cmn_l ((nth (bhd o.tr u) (k)).ni) ((nth (bhd o.tr v) (j)).ni)
   have q12 := cmn_r ((nth (bhd o.tr u) (k)).ni) ((nth (bhd o.tr v) (j)).ni)
   refine W_seq_regc (fun T H => T 8 = (V.ms 8 (1 + (fds (bhd o.tr u) (bhd o.tr v) k j).length) 0 ((fds (bhd o.tr u) (bhd o.tr v) k j).length)) ∧ T 9 = (V.sl (List.map cT (bhd o.tr v))) ∧ T 11 = (V.mp 11 (v11 + 1) 0 0) ∧ T 15 = (iV ((difn (List.take (cmn ((nth (bhd o.tr u) (k)).ni) ((nth (bhd o.tr v) (j)).ni)) ((nth (bhd o.tr u) (k)).no)) (List.take (cmn ((nth (bhd o.tr u) (k)).ni) ((nth (bhd o.tr v) (j)).ni)) ((nth (bhd o.tr v) (j)).no)) : Nat) : Int)) ∧ T 16 = (V.bool (decide (cmn (List.take (cmn ((nth (bhd o.tr u) (k)).ni) ((nth (bhd o.tr v) (j)).ni)) ((nth (bhd o.tr u) (k)).no)) (List.take (cmn ((nth (bhd o.tr u) (k)).ni) ((nth (bhd o.tr v) (j)).ni)) ((nth (bhd o.tr v) (j)).no)) < min (List.take (cmn ((nth (bhd o.tr u) (k)).ni) ((nth (bhd o.tr v) (j)).ni)) ((nth (bhd o.tr u) (k)).no)).length (List.take (cmn ((nth (bhd o.tr u) (k)).ni) ((nth (bhd o.tr v) (j)).ni)) ((nth (bhd o.tr v) (j)).no)).length))) ∧ T 24 = (V.sl (List.map cT (bhd o.tr u))) ∧ T 25 = (iV (((bhd o.tr u).length : Nat) : Int)) ∧ T 26 = (iV ((k : Nat) : Int)) ∧ T 30 = (V.sl (List.map cT (bhd o.tr v))) ∧ T 31 = (iV (((bhd o.tr v).length : Nat) : Int)) ∧ T 32 = (iV ((j : Nat) : Int)) ∧ H 3 = (⟨1, true, false, 34, 2, [[(iV (o.i)), (V.sl (List.map cT (o.tr)))]]⟩ : Blk) ∧ H 8 = (⟨1 + (fds (bhd o.tr u) (bhd o.tr v) k j).length, true, true, 35, 1, (List.map cL (fds (bhd o.tr u) (bhd o.tr v) k j))⟩ : Blk) ∧ H 11 = (⟨v11 + 1, true, false, 63, 2, [[(V.sl (List.map cI ((nth (bhd o.tr u) (k)).ni))), (V.sl (List.map cI ((nth (bhd o.tr u) (k)).no)))]]⟩ : Blk) ∧ H 13 = (⟨v13 + 1, true, false, 63, 2, [[(V.sl (List.map cI ((nth (bhd o.tr v) (j)).ni))), (V.sl (List.map cI ((nth (bhd o.tr v) (j)).no)))]]⟩ : Blk) ∧ True) ?_ ?_
   ·
    unfold r27_10
    refine R_fld_mp (o' := 1) t11 h11 (by first | rfl | simp [okB, Blk.own]) rfl ?_
    refine R_load_mp (v := (V.sl (List.map cI ((nth (bhd o.tr u) (k)).no)))) (@rfl V (V.mp 11 (v11 + 1) 0 1)) h11 (by first | rfl | simp [ldB, ldV, Blk.own, V.one]) ?_
    refine R_mv t14 ?_
    refine R_slice_hi (n := (cmn ((nth (bhd o.tr u) (k)).ni) ((nth (bhd o.tr v) (j)).ni))) (@rfl V (V.sl (List.map cI ((nth (bhd o.tr u) (k)).no)))) (@rfl V (iV ((cmn ((nth (bhd o.tr u) (k)).ni) ((nth (bhd o.tr v) (j)).ni) : Nat) : Int))) (by omega) (fun _ => rfl) ?_
    refine R_fld_mp (o' := 1) t13 h13 (by first | rfl | simp [okB, Blk.own]) rfl ?_
    refine R_load_mp (v := (V.sl (List.map cI ((nth (bhd o.tr v) (j)).no)))) (@rfl V (V.mp 13 (v13 + 1) 0 1)) h13 (by first | rfl | simp [ldB, ldV, Blk.own, V.one]) ?_
    refine R_mv t14 ?_
    refine R_slice_hi (n := (cmn ((nth (bhd o.tr u) (k)).ni) ((nth (bhd o.tr v) (j)).ni))) (@rfl V (V.sl (List.map cI ((nth (bhd o.tr v) (j)).no)))) (@rfl V (iV ((cmn ((nth (bhd o.tr u) (k)).ni) ((nth (bhd o.tr v) (j)).ni) : Nat) : Int))) (by omega) (fun _ => rfl) ?_
    refine R_call (evcons (@rfl V (V.sl (List.map cI (List.take (cmn ((nth (bhd o.tr u) (k)).ni) ((nth (bhd o.tr v) (j)).ni)) ((nth (bhd o.tr u) (k)).no))))) (evcons (@rfl V (V.sl (List.map cI (List.take (cmn ((nth (bhd o.tr u) (k)).ni) ((nth (bhd o.tr v) (j)).ni)) ((nth (bhd o.tr v) (j)).no))))) evnil)) (hdiffer_pure (List.take (cmn ((nth (bhd o.tr u) (k)).ni) ((nth (bhd o.tr v) (j)).ni)) ((nth (bhd o.tr u) (k)).no)) (List.take (cmn ((nth (bhd o.tr u) (k)).ni) ((nth (bhd o.tr v) (j)).ni)) ((nth (bhd o.tr v) (j)).no))) (fzv_mapcanon _ _ (by simp [-List.map_take, -List.map_drop, -List.map_append, -List.map_reverse])) (by simp [-List.map_take, -List.map_drop, -List.map_append, -List.map_reverse]) (Or.inl (by simp [-List.map_take, -List.map_drop, -List.map_append, -List.map_reverse])) ?_
    refine R_mv (@rfl V (V.tup [(iV ((difn (List.take (cmn ((nth (bhd o.tr u) (k)).ni) ((nth (bhd o.tr v) (j)).ni)) ((nth (bhd o.tr u) (k)).no)) (List.take (cmn ((nth (bhd o.tr u) (k)).ni) ((nth (bhd o.tr v) (j)).ni)) ((nth (bhd o.tr v) (j)).no)) : Nat) : Int)), (V.bool (decide (cmn (List.take (cmn ((nth (bhd o.tr u) (k)).ni) ((nth (bhd o.tr v) (j)).ni)) ((nth (bhd o.tr u) (k)).no)) (List.take (cmn ((nth (bhd o.tr u) (k)).ni) ((nth (bhd o.tr v) (j)).ni)) ((nth (bhd o.tr v) (j)).no)) < min (List.take (cmn ((nth (bhd o.tr u) (k)).ni) ((nth (bhd o.tr v) (j)).ni)) ((nth (bhd o.tr u) (k)).no)).length (List.take (cmn ((nth (bhd o.tr u) (k)).ni) ((nth (bhd o.tr v) (j)).ni)) ((nth (bhd o.tr v) (j)).no)).length)))])) ?_
    refine R_ext (v := (iV ((difn (List.take (cmn ((nth (bhd o.tr u) (k)).ni) ((nth (bhd o.tr v) (j)).ni)) ((nth (bhd o.tr u) (k)).no)) (List.take (cmn ((nth (bhd o.tr u) (k)).ni) ((nth (bhd o.tr v) (j)).ni)) ((nth (bhd o.tr v) (j)).no)) : Nat) : Int))) (@rfl V (V.tup [(iV ((difn (List.take (cmn ((nth (bhd o.tr u) (k)).ni) ((nth (bhd o.tr v) (j)).ni)) ((nth (bhd o.tr u) (k)).no)) (List.take (cmn ((nth (bhd o.tr u) (k)).ni) ((nth (bhd o.tr v) (j)).ni)) ((nth (bhd o.tr v) (j)).no)) : Nat) : Int)), (V.bool (decide (cmn (List.take (cmn ((nth (bhd o.tr u) (k)).ni) ((nth (bhd o.tr v) (j)).ni)) ((nth (bhd o.tr u) (k)).no)) (List.take (cmn ((nth (bhd o.tr u) (k)).ni) ((nth (bhd o.tr v) (j)).ni)) ((nth (bhd o.tr v) (j)).no)) < min (List.take (cmn ((nth (bhd o.tr u) (k)).ni) ((nth (bhd o.tr v) (j)).ni)) ((nth (bhd o.tr u) (k)).no)).length (List.take (cmn ((nth (bhd o.tr u) (k)).ni) ((nth (bhd o.tr v) (j)).ni)) ((nth (bhd o.tr v) (j)).no)).length)))])) rfl ?_
    refine R_ext (v := (V.bool (decide (cmn (List.take (cmn ((nth (bhd o.tr u) (k)).ni) ((nth (bhd o.tr v) (j)).ni)) ((nth (bhd o.tr u) (k)).no)) (List.take (cmn ((nth (bhd o.tr u) (k)).ni) ((nth (bhd o.tr v) (j)).ni)) ((nth (bhd o.tr v) (j)).no)) < min (List.take (cmn ((nth (bhd o.tr u) (k)).ni) ((nth (bhd o.tr v) (j)).ni)) ((nth (bhd o.tr u) (k)).no)).length (List.take (cmn ((nth (bhd o.tr u) (k)).ni) ((nth (bhd o.tr v) (j)).ni)) ((nth (bhd o.tr v) (j)).no)).length)))) (@rfl V (V.tup [(iV ((difn (List.take (cmn ((nth (bhd o.tr u) (k)).ni) ((nth (bhd o.tr v) (j)).ni)) ((nth (bhd o.tr u) (k)).no)) (List.take (cmn ((nth (bhd o.tr u) (k)).ni) ((nth (bhd o.tr v) (j)).ni)) ((nth (bhd o.tr v) (j)).no)) : Nat) : Int)), (V.bool (decide (cmn (List.take (cmn ((nth (bhd o.tr u) (k)).ni) ((nth (bhd o.tr v) (j)).ni)) ((nth (bhd o.tr u) (k)).no)) (List.take (cmn ((nth (bhd o.tr u) (k)).ni) ((nth (bhd o.tr v) (j)).ni)) ((nth (bhd o.tr v) (j)).no)) < min (List.take (cmn ((nth (bhd o.tr u) (k)).ni) ((nth (bhd o.tr v) (j)).ni)) ((nth (bhd o.tr u) (k)).no)).length (List.take (cmn ((nth (bhd o.tr u) (k)).ni) ((nth (bhd o.tr v) (j)).ni)) ((nth (bhd o.tr v) (j)).no)).length)))])) rfl ?_
    refine R_mv (@rfl V (iV ((difn (List.take (cmn ((nth (bhd o.tr u) (k)).ni) ((nth (bhd o.tr v) (j)).ni)) ((nth (bhd o.tr u) (k)).no)) (List.take (cmn ((nth (bhd o.tr u) (k)).ni) ((nth (bhd o.tr v) (j)).ni)) ((nth (bhd o.tr v) (j)).no)) : Nat) : Int))) ?_
    refine R_mv (@rfl V (V.bool (decide (cmn (List.take (cmn ((nth (bhd o.tr u) (k)).ni) ((nth (bhd o.tr v) (j)).ni)) ((nth (bhd o.tr u) (k)).no)) (List.take (cmn ((nth (bhd o.tr u) (k)).ni) ((nth (bhd o.tr v) (j)).ni)) ((nth (bhd o.tr v) (j)).no)) < min (List.take (cmn ((nth (bhd o.tr u) (k)).ni) ((nth (bhd o.tr v) (j)).ni)) ((nth (bhd o.tr u) (k)).no)).length (List.take (cmn ((nth (bhd o.tr u) (k)).ni) ((nth (bhd o.tr v) (j)).ni)) ((nth (bhd o.tr v) (j)).no)).length)))) ?_
    exact R_nil ⟨t8, t9, t11, rfl, rfl, t24, t25, t26, t30, t31, t32, h3, h8, h11, h13, trivial⟩
   intro T H ⟨t8, t9, t11, t15, t16, t24, t25, t26, t30, t31, t32, h3, h8, h11, h13, _⟩
   refine W_seq_regc (fun T H => T 8 = (V.ms 8 (1 + (fds (bhd o.tr u) (bhd o.tr v) k j).length) 0 ((fds (bhd o.tr u) (bhd o.tr v) k j).length)) ∧ T 9 = (V.sl (List.map cT (bhd o.tr v))) ∧ T 11 = (V.mp 11 (v11 + 1) 0 0) ∧ T 15 = (iV ((difn (List.take (cmn ((nth (bhd o.tr u) (k)).ni) ((nth (bhd o.tr v) (j)).ni)) ((nth (bhd o.tr u) (k)).no)) (List.take (cmn ((nth (bhd o.tr u) (k)).ni) ((nth (bhd o.tr v) (j)).ni)) ((nth (bhd o.tr v) (j)).no)) : Nat) : Int)) ∧ T 24 = (V.sl (List.map cT (bhd o.tr u))) ∧ T 25 = (iV (((bhd o.tr u).length : Nat) : Int)) ∧ T 26 = (iV ((k : Nat) : Int)) ∧ T 30 = (V.sl (List.map cT (bhd o.tr v))) ∧ T 31 = (iV (((bhd o.tr v).length : Nat) : Int)) ∧ T 32 = (iV ((j : Nat) : Int)) ∧ T 53 = (V.bool (decide (cmn (List.take (cmn ((nth (bhd o.tr u) (k)).ni) ((nth (bhd o.tr v) (j)).ni)) ((nth (bhd o.tr u) (k)).no)) (List.take (cmn ((nth (bhd o.tr u) (k)).ni) ((nth (bhd o.tr v) (j)).ni)) ((nth (bhd o.tr v) (j)).no)) < min (List.take (cmn ((nth (bhd o.tr u) (k)).ni) ((nth (bhd o.tr v) (j)).ni)) ((nth (bhd o.tr u) (k)).no)).length (List.take (cmn ((nth (bhd o.tr u) (k)).ni) ((nth (bhd o.tr v) (j)).ni)) ((nth (bhd o.tr v) (j)).no)).length))) ∧ H 3 = (⟨1, true, false, 34, 2, [[(iV (o.i)), (V.sl (List.map cT (o.tr)))]]⟩ : Blk) ∧ H 8 = (⟨1 + (fds (bhd o.tr u) (bhd o.tr v) k j).length, true, true, 35, 1, (List.map cL (fds (bhd o.tr u) (bhd o.tr v) k j))⟩ : Blk) ∧ H 11 = (⟨v11 + 1, true, false, 63, 2, [[(V.sl (List.map cI ((nth (bhd o.tr u) (k)).ni))), (V.sl (List.map cI ((nth (bhd o.tr u) (k)).no)))]]⟩ : Blk) ∧ H 13 = (⟨v13 + 1, true, false, 63, 2, [[(V.sl (List.map cI ((nth (bhd o.tr v) (j)).ni))), (V.sl (List.map cI ((nth (bhd o.tr v) (j)).no)))]]⟩ : Blk) ∧ True) ?_ ?_
   ·
    unfold r27_11
    refine R_mv t16 ?_
    exact R_nil ⟨t8, t9, t11, t15, t24, t25, t26, t30, t31, t32, rfl, h3, h8, h11, h13, trivial⟩
   intro T H ⟨t8, t9, t11, t15, t24, t25, t26, t30, t31, t32, t53, h3, h8, h11, h13, _⟩
   refine W_if (p := cmn (List.take (cmn ((nth (bhd o.tr u) (k)).ni) ((nth (bhd o.tr v) (j)).ni)) ((nth (bhd o.tr u) (k)).no)) (List.take (cmn ((nth (bhd o.tr u) (k)).ni) ((nth (bhd o.tr v) (j)).ni)) ((nth (bhd o.tr v) (j)).no)) < min (List.take (cmn ((nth (bhd o.tr u) (k)).ni) ((nth (bhd o.tr v) (j)).ni)) ((nth (bhd o.tr u) (k)).no)).length (List.take (cmn ((nth (bhd o.tr u) (k)).ni) ((nth (bhd o.tr v) (j)).ni)) ((nth (bhd o.tr v) (j)).no)).length) t53 (fun c13 => ?_) (fun c13 => ?_)
   ·
    have g4 := difn_at c13
    have g5 : (List.take (cmn (nth (bhd o.tr u) k).ni (nth (bhd o.tr v) j).ni) (nth (bhd o.tr u) k).no).length ≤ (nth (bhd o.tr u) k).ni.length := by simp; omega
    rw [fd, if_pos c13] at g1
    refine W_regc (fun T H => T 8 = (V.ms 8 ((1 + (fds (bhd o.tr u) (bhd o.tr v) k j).length) + 1) 0 (((fds (bhd o.tr u) (bhd o.tr v) k j).length) + 1)) ∧ T 9 = (V.sl (List.map cT (bhd o.tr v))) ∧ T 11 = (V.mp 11 (v11 + 1) 0 0) ∧ T 24 = (V.sl (List.map cT (bhd o.tr u))) ∧ T 25 = (iV (((bhd o.tr u).length : Nat) : Int)) ∧ T 26 = (iV ((k : Nat) : Int)) ∧ T 30 = (V.sl (List.map cT (bhd o.tr v))) ∧ T 31 = (iV (((bhd o.tr v).length : Nat) : Int)) ∧ T 32 = (iV ((j : Nat) : Int)) ∧ H 3 = (⟨1, true, false, 34, 2, [[(iV (o.i)), (V.sl (List.map cT (o.tr)))]]⟩ : Blk) ∧ H 8 = (⟨(1 + (fds (bhd o.tr u) (bhd o.tr v) k j).length) + 1, true, true, 35, 1, (List.map cL (fds (bhd o.tr u) (bhd o.tr v) k j ++ [List.take ((difn (List.take (cmn ((nth (bhd o.tr u) (k)).ni) ((nth (bhd o.tr v) (j)).ni)) ((nth (bhd o.tr u) (k)).no)) (List.take (cmn ((nth (bhd o.tr u) (k)).ni) ((nth (bhd o.tr v) (j)).ni)) ((nth (bhd o.tr v) (j)).no))) + 1) ((nth (bhd o.tr u) (k)).ni)]))⟩ : Blk) ∧ H 11 = (⟨v11 + 1, true, false, 63, 2, [[(V.sl (List.map cI ((nth (bhd o.tr u) (k)).ni))), (V.sl (List.map cI ((nth (bhd o.tr u) (k)).no)))]]⟩ : Blk) ∧ H 13 = (⟨v13 + 1, true, false, 63, 2, [[(V.sl (List.map cI ((nth (bhd o.tr v) (j)).ni))), (V.sl (List.map cI ((nth (bhd o.tr v) (j)).no)))]]⟩ : Blk) ∧ True) ?_ ?_
    ·
     unfold r27_12
     refine R_mv t8 ?_
     refine R_fld_mp (o' := 0) t11 h11 (by first | rfl | simp [okB, Blk.own]) rfl ?_
     refine R_load_mp (v := (V.sl (List.map cI ((nth (bhd o.tr u) (k)).ni)))) (@rfl V (V.mp 11 (v11 + 1) 0 0)) h11 (by first | rfl | simp [ldB, ldV, Blk.own, V.one]) ?_
     refine R_mv t15 ?_
     refine R_addN (m := (difn (List.take (cmn ((nth (bhd o.tr u) (k)).ni) ((nth (bhd o.tr v) (j)).ni)) ((nth (bhd o.tr u) (k)).no)) (List.take (cmn ((nth (bhd o.tr u) (k)).ni) ((nth (bhd o.tr v) (j)).ni)) ((nth (bhd o.tr v) (j)).no)))) (n := 1) (@rfl V (iV ((difn (List.take (cmn ((nth (bhd o.tr u) (k)).ni) ((nth (bhd o.tr v) (j)).ni)) ((nth (bhd o.tr u) (k)).no)) (List.take (cmn ((nth (bhd o.tr u) (k)).ni) ((nth (bhd o.tr v) (j)).ni)) ((nth (bhd o.tr v) (j)).no)) : Nat) : Int))) (@rfl V (iV ((1 : Nat) : Int))) (by omega) ?_
     refine R_slice_hi (n := ((difn (List.take (cmn ((nth (bhd o.tr u) (k)).ni) ((nth (bhd o.tr v) (j)).ni)) ((nth (bhd o.tr u) (k)).no)) (List.take (cmn ((nth (bhd o.tr u) (k)).ni) ((nth (bhd o.tr v) (j)).ni)) ((nth (bhd o.tr v) (j)).no))) + 1)) (@rfl V (V.sl (List.map cI ((nth (bhd o.tr u) (k)).ni)))) (@rfl V (iV (((difn (List.take (cmn ((nth (bhd o.tr u) (k)).ni) ((nth (bhd o.tr v) (j)).ni)) ((nth (bhd o.tr u) (k)).no)) (List.take (cmn ((nth (bhd o.tr u) (k)).ni) ((nth (bhd o.tr v) (j)).ni)) ((nth (bhd o.tr v) (j)).no))) + 1 : Nat) : Int))) (by omega) (fun _ => rfl) ?_
     refine R_bslice (qs := [(0, (V.sl (List.map cI (List.take ((difn (List.take (cmn ((nth (bhd o.tr u) (k)).ni) ((nth (bhd o.tr v) (j)).ni)) ((nth (bhd o.tr u) (k)).no)) (List.take (cmn ((nth (bhd o.tr u) (k)).ni) ((nth (bhd o.tr v) (j)).ni)) ((nth (bhd o.tr v) (j)).no))) + 1) ((nth (bhd o.tr u) (k)).ni)))))]) (rows := [[(V.sl (List.map cI (List.take ((difn (List.take (cmn ((nth (bhd o.tr u) (k)).ni) ((nth (bhd o.tr v) (j)).ni)) ((nth (bhd o.tr u) (k)).no)) (List.take (cmn ((nth (bhd o.tr u) (k)).ni) ((nth (bhd o.tr v) (j)).ni)) ((nth (bhd o.tr v) (j)).no))) + 1) ((nth (bhd o.tr u) (k)).ni))))]]) (mcons (congrArg (fun v => (0, v)) (@rfl V (V.sl (List.map cI (List.take ((difn (List.take (cmn ((nth (bhd o.tr u) (k)).ni) ((nth (bhd o.tr v) (j)).ni)) ((nth (bhd o.tr u) (k)).no)) (List.take (cmn ((nth (bhd o.tr u) (k)).ni) ((nth (bhd o.tr v) (j)).ni)) ((nth (bhd o.tr v) (j)).no))) + 1) ((nth (bhd o.tr u) (k)).ni)))))) rfl) rfl ?_
     refine R_append1 (l := (fds (bhd o.tr u) (bhd o.tr v) k j)) (f := cL) (x := (List.take ((difn (List.take (cmn ((nth (bhd o.tr u) (k)).ni) ((nth (bhd o.tr v) (j)).ni)) ((nth (bhd o.tr u) (k)).no)) (List.take (cmn ((nth (bhd o.tr u) (k)).ni) ((nth (bhd o.tr v) (j)).ni)) ((nth (bhd o.tr v) (j)).no))) + 1) ((nth (bhd o.tr u) (k)).ni))) (@rfl V (V.ms 8 (1 + (fds (bhd o.tr u) (bhd o.tr v) k j).length) 0 ((fds (bhd o.tr u) (bhd o.tr v) k j).length))) h8 (by first | rfl | simp | omega) (@rfl V (V.sl [[(V.sl (List.map cI (List.take ((difn (List.take (cmn ((nth (bhd o.tr u) (k)).ni) ((nth (bhd o.tr v) (j)).ni)) ((nth (bhd o.tr u) (k)).no)) (List.take (cmn ((nth (bhd o.tr u) (k)).ni) ((nth (bhd o.tr v) (j)).ni)) ((nth (bhd o.tr v) (j)).no))) + 1) ((nth (bhd o.tr u) (k)).ni))))]])) rfl rfl (by omega) (by omega) ?_
     refine R_mv (@rfl V (V.ms 8 ((1 + (fds (bhd o.tr u) (bhd o.tr v) k j).length) + 1) 0 (((fds (bhd o.tr u) (bhd o.tr v) k j).length) + 1))) ?_
     exact R_nil ⟨rfl, t9, t11, t24, t25, t26, t30, t31, t32, h3, rfl, h11, h13, trivial⟩
    intro T H ⟨t8, t9, t11, t24, t25, t26, t30, t31, t32, h3, h8, h11, h13, _⟩
    refine n8 _ _ ?_
    refine .done ?_
    refine W_regc (fun T H => T 8 = (V.ms 8 ((1 + (fds (bhd o.tr u) (bhd o.tr v) k j).length) + 1) 0 (((fds (bhd o.tr u) (bhd o.tr v) k j).length) + 1)) ∧ T 9 = (V.sl (List.map cT (bhd o.tr v))) ∧ T 11 = (V.mp 11 (v11 + 1) 0 0) ∧ T 24 = (V.sl (List.map cT (bhd o.tr u))) ∧ T 25 = (iV (((bhd o.tr u).length : Nat) : Int)) ∧ T 26 = (iV ((k : Nat) : Int)) ∧ T 30 = (V.sl (List.map cT (bhd o.tr v))) ∧ T 31 = (iV (((bhd o.tr v).length : Nat) : Int)) ∧ T 32 = (iV ((j + 1 : Nat) : Int)) ∧ H 3 = (⟨1, true, false, 34, 2, [[(iV (o.i)), (V.sl (List.map cT (o.tr)))]]⟩ : Blk) ∧ H 8 = (⟨(1 + (fds (bhd o.tr u) (bhd o.tr v) k j).length) + 1, true, true, 35, 1, (List.map cL (fds (bhd o.tr u) (bhd o.tr v) k j ++ [List.take ((difn (List.take (cmn ((nth (bhd o.tr u) (k)).ni) ((nth (bhd o.tr v) (j)).ni)) ((nth (bhd o.tr u) (k)).no)) (List.take (cmn ((nth (bhd o.tr u) (k)).ni) ((nth (bhd o.tr v) (j)).ni)) ((nth (bhd o.tr v) (j)).no))) + 1) ((nth (bhd o.tr u) (k)).ni)]))⟩ : Blk) ∧ H 11 = (⟨v11 + 1, true, false, 63, 2, [[(V.sl (List.map cI ((nth (bhd o.tr u) (k)).ni))), (V.sl (List.map cI ((nth (bhd o.tr u) (k)).no)))]]⟩ : Blk) ∧ H 13 = (⟨v13 + 1, true, false, 63, 2, [[(V.sl (List.map cI ((nth (bhd o.tr v) (j)).ni))), (V.sl (List.map cI ((nth (bhd o.tr v) (j)).no)))]]⟩ : Blk) ∧ True) ?_ ?_
    ·
     unfold r27_13
     refine R_addN (m := j) (n := 1) t32 (@rfl V (iV ((1 : Nat) : Int))) (by omega) ?_
     refine R_mv (@rfl V (iV ((j + 1 : Nat) : Int))) ?_
     exact R_nil ⟨t8, t9, t11, t24, t25, t26, t30, t31, rfl, h3, h8, h11, h13, trivial⟩
    intro T H ⟨t8, t9, t11, t24, t25, t26, t30, t31, t32, h3, h8, h11, h13, _⟩
    refine p16 _ _ _ ?_ ⟨(j + 1), (v13 + 1), rfl, (Eq.trans t8 (by first | rfl | (rw [g1, List.length_append]; rfl) | (rw [g1]; done) | (have e : j = (bhd o.tr v).length := (by omega); subst e; rw [fds_row (by omega)]; first | done | rfl))), t9, t11, t24, t25, t26, t30, t31, (Eq.trans t32 (by first | rfl | (rw [g1, List.length_append]; rfl) | (rw [g1]; done) | (have e : j = (bhd o.tr v).length := (by omega); subst e; rw [fds_row (by omega)]; first | done | rfl))), h3, (Eq.trans h8 (by first | rfl | (rw [g1, List.length_append]; rfl) | (rw [g1]; done) | (have e : j = (bhd o.tr v).length := (by omega); subst e; rw [fds_row (by omega)]; first | done | rfl))), h11, (congrArg Blk.ver h13), ?_, ?_⟩
    · omega
    · omega
    · rw [g1]; first | omega | (simp only [List.length_append, List.length_cons, List.length_nil]; omega)
   rw [fd, if_neg c13, List.append_nil] at g1
   refine W_skip ?_
   refine n8 _ _ ?_
   refine .done ?_
   refine W_regc (fun T H => T 8 = (V.ms 8 (1 + (fds (bhd o.tr u) (bhd o.tr v) k j).length) 0 ((fds (bhd o.tr u) (bhd o.tr v) k j).length)) ∧ T 9 = (V.sl (List.map cT (bhd o.tr v))) ∧ T 11 = (V.mp 11 (v11 + 1) 0 0) ∧ T 24 = (V.sl (List.map cT (bhd o.tr u))) ∧ T 25 = (iV (((bhd o.tr u).length : Nat) : Int)) ∧ T 26 = (iV ((k : Nat) : Int)) ∧ T 30 = (V.sl (List.map cT (bhd o.tr v))) ∧ T 31 = (iV (((bhd o.tr v).length : Nat) : Int)) ∧ T 32 = (iV ((j + 1 : Nat) : Int)) ∧ H 3 = (⟨1, true, false, 34, 2, [[(iV (o.i)), (V.sl (List.map cT (o.tr)))]]⟩ : Blk) ∧ H 8 = (⟨1 + (fds (bhd o.tr u) (bhd o.tr v) k j).length, true, true, 35, 1, (List.map cL (fds (bhd o.tr u) (bhd o.tr v) k j))⟩ : Blk) ∧ H 11 = (⟨v11 + 1, true, false, 63, 2, [[(V.sl (List.map cI ((nth (bhd o.tr u) (k)).ni))), (V.sl (List.map cI ((nth (bhd o.tr u) (k)).no)))]]⟩ : Blk) ∧ H 13 = (⟨v13 + 1, true, false, 63, 2, [[(V.sl (List.map cI ((nth (bhd o.tr v) (j)).ni))), (V.sl (List.map cI ((nth (bhd o.tr v) (j)).no)))]]⟩ : Blk) ∧ True) ?_ ?_
   ·
    unfold r27_13
    refine R_addN (m := j) (n := 1) t32 (@rfl V (iV ((1 : Nat) : Int))) (by omega) ?_
    refine R_mv (@rfl V (iV ((j + 1 : Nat) : Int))) ?_
    exact R_nil ⟨t8, t9, t11, t24, t25, t26, t30, t31, rfl, h3, h8, h11, h13, trivial⟩
   intro T H ⟨t8, t9, t11, t24, t25, t26, t30, t31, t32, h3, h8, h11, h13, _⟩
   refine p16 _ _ _ ?_ ⟨(j + 1), (v13 + 1), rfl, (Eq.trans t8 (by first | rfl | (rw [g1, List.length_append]; rfl) | (rw [g1]; done) | (have e : j = (bhd o.tr v).length := (by omega); subst e; rw [fds_row (by omega)]; first | done | rfl))), t9, t11, t24, t25, t26, t30, t31, (Eq.trans t32 (by first | rfl | (rw [g1, List.length_append]; rfl) | (rw [g1]; done) | (have e : j = (bhd o.tr v).length := (by omega); subst e; rw [fds_row (by omega)]; first | done | rfl))), h3, (Eq.trans h8 (by first | rfl | (rw [g1, List.length_append]; rfl) | (rw [g1]; done) | (have e : j = (bhd o.tr v).length := (by omega); subst e; rw [fds_row (by omega)]; first | done | rfl))), h11, (congrArg Blk.ver h13), ?_, ?_⟩
   · omega
   · omega
   · rw [g1]; first | omega | (simp only [List.length_append, List.length_cons, List.length_nil]; omega)
  refine W_seq_exit ?_
  refine p36 _ _ _ ?_
  refine x5 _ _ ?_
  refine n4 _ _ ?_
  refine .done ?_
  refine W_regc (fun T H => T 8 = (V.ms 8 (1 + (fds (bhd o.tr u) (bhd o.tr v) k j).length) 0 ((fds (bhd o.tr u) (bhd o.tr v) k j).length)) ∧ T 9 = (V.sl (List.map cT (bhd o.tr v))) ∧ T 24 = (V.sl (List.map cT (bhd o.tr u))) ∧ T 25 = (iV (((bhd o.tr u).length : Nat) : Int)) ∧ T 26 = (iV ((k + 1 : Nat) : Int)) ∧ H 3 = (⟨1, true, false, 34, 2, [[(iV (o.i)), (V.sl (List.map cT (o.tr)))]]⟩ : Blk) ∧ H 8 = (⟨1 + (fds (bhd o.tr u) (bhd o.tr v) k j).length, true, true, 35, 1, (List.map cL (fds (bhd o.tr u) (bhd o.tr v) k j))⟩ : Blk) ∧ H 11 = (⟨v11 + 1, true, false, 63, 2, [[(V.sl (List.map cI ((nth (bhd o.tr u) (k)).ni))), (V.sl (List.map cI ((nth (bhd o.tr u) (k)).no)))]]⟩ : Blk) ∧ (H 13).ver = v13 ∧ True) ?_ ?_
  ·
   unfold r27_14
   refine R_addN (m := k) (n := 1) t26 (@rfl V (iV ((1 : Nat) : Int))) (by omega) ?_
   refine R_mv (@rfl V (iV ((k + 1 : Nat) : Int))) ?_
   exact R_nil ⟨t8, t9, t24, t25, rfl, h3, h8, h11, h13, trivial⟩
  intro T H ⟨t8, t9, t24, t25, t26, h3, h8, h11, h13, _⟩
  refine p12 _ _ _ ?_ ⟨(k + 1), (v11 + 1), v13, rfl, (Eq.trans t8 (by first | rfl | (rw [g1, List.length_append]; rfl) | (rw [g1]; done) | (have e : j = (bhd o.tr v).length := (by omega); subst e; rw [fds_row (by omega)]; first | done | rfl))), t9, t24, t25, (Eq.trans t26 (by first | rfl | (rw [g1, List.length_append]; rfl) | (rw [g1]; done) | (have e : j = (bhd o.tr v).length := (by omega); subst e; rw [fds_row (by omega)]; first | done | rfl))), h3, (Eq.trans h8 (by first | rfl | (rw [g1, List.length_append]; rfl) | (rw [g1]; done) | (have e : j = (bhd o.tr v).length := (by omega); subst e; rw [fds_row (by omega)]; first | done | rfl))), (congrArg Blk.ver h11), h13, ?_, ?_⟩
  · omega
  · omega
  · have e : j = (bhd o.tr v).length := by omega
    subst e
    rw [← fds_row (by omega)]; omega
 have e0 : fds (bhd o.tr u) (bhd o.tr v) k 0 = fdl (bhd o.tr u) (bhd o.tr v) := by rw [show k = (bhd o.tr u).length by omega]; exact fds_end _ _
 refine W_seq_exit ?_
 refine p32 _ _ _ ?_
 refine x1 _ _ ?_
 refine .freeze 8 (.done ?_)
 refine fork_ (R := fun T H => T 8 = (V.sl (List.map cL (fds (bhd o.tr u) (bhd o.tr v) k 0))) ∧ T 9 = (V.sl (List.map cT (bhd o.tr v))) ∧ T 24 = (V.sl (List.map cT (bhd o.tr u))) ∧ T 25 = (iV (((bhd o.tr u).length : Nat) : Int)) ∧ T 26 = (iV ((k : Nat) : Int)) ∧ T 27 = (V.bool (decide (((k : Nat) : Int) < (((bhd o.tr u).length : Nat) : Int)))) ∧ H 3 = (⟨1, true, false, 34, 2, [[(iV (o.i)), (V.sl (List.map cT (o.tr)))]]⟩ : Blk) ∧ (H 8).ver = 1 + (fds (bhd o.tr u) (bhd o.tr v) k 0).length ∧ (H 11).ver = v11 ∧ (H 13).ver = v13 ∧ True) ⟨(fzT_q t8 (fzq_own h8 (by first | rfl | simp) (l := (fds (bhd o.tr u) (bhd o.tr v) k 0)) rfl (by first | rfl | simp | omega))), (fzT_q t9 rfl), (fzT_q t24 rfl), (fzT_q t25 rfl), (fzT_q t26 rfl), (fzT_q t27 rfl), (kill_ne h3 (by decide)), (kill_ver (congrArg Blk.ver h8)), (kill_ver h11), (kill_ver h13), trivial⟩ ?_
 clear t8 t9 t24 t25 t26 t27 h3 h8 h11 h13 T H
 intro T H ⟨t8, t9, t24, t25, t26, t27, h3, h8, h11, h13, _⟩
 refine W_seq_regc (fun T H => T 17 = (V.sl (List.map cI (least (fds (bhd o.tr u) (bhd o.tr v) k 0)))) ∧ T 18 = (V.bool (decide ((fds (bhd o.tr u) (bhd o.tr v) k 0) ≠ []))) ∧ H 3 = (⟨1, true, false, 34, 2, [[(iV (o.i)), (V.sl (List.map cT (o.tr)))]]⟩ : Blk) ∧ (H 8).ver = 1 + (fds (bhd o.tr u) (bhd o.tr v) k 0).length ∧ (H 11).ver = v11 ∧ (H 13).ver = v13 ∧ True) ?_ ?_
 ·
  unfold r27_15
  refine R_mv t8 ?_
  refine R_call (evcons (@rfl V (V.sl (List.map cL (fds (bhd o.tr u) (bhd o.tr v) k 0)))) (evcons (@rfl V (V.fn 66 [] [])) evnil)) (hleast_pure (fds (bhd o.tr u) (bhd o.tr v) k 0)) (fzv_mapcanon _ _ (by simp [-List.map_take, -List.map_drop, -List.map_append, -List.map_reverse])) (by simp [-List.map_take, -List.map_drop, -List.map_append, -List.map_reverse]) (Or.inl (by simp [-List.map_take, -List.map_drop, -List.map_append, -List.map_reverse])) ?_
  refine R_mv (@rfl V (V.tup [(V.sl (List.map cI (least (fds (bhd o.tr u) (bhd o.tr v) k 0)))), (V.bool (decide ((fds (bhd o.tr u) (bhd o.tr v) k 0) ≠ [])))])) ?_
  refine R_ext (v := (V.sl (List.map cI (least (fds (bhd o.tr u) (bhd o.tr v) k 0))))) (@rfl V (V.tup [(V.sl (List.map cI (least (fds (bhd o.tr u) (bhd o.tr v) k 0)))), (V.bool (decide ((fds (bhd o.tr u) (bhd o.tr v) k 0) ≠ [])))])) rfl ?_
  refine R_ext (v := (V.bool (decide ((fds (bhd o.tr u) (bhd o.tr v) k 0) ≠ [])))) (@rfl V (V.tup [(V.sl (List.map cI (least (fds (bhd o.tr u) (bhd o.tr v) k 0)))), (V.bool (decide ((fds (bhd o.tr u) (bhd o.tr v) k 0) ≠ [])))])) rfl ?_
  refine R_mv (@rfl V (V.sl (List.map cI (least (fds (bhd o.tr u) (bhd o.tr v) k 0))))) ?_
  refine R_mv (@rfl V (V.bool (decide ((fds (bhd o.tr u) (bhd o.tr v) k 0) ≠ [])))) ?_
  exact R_nil ⟨rfl, rfl, h3, h8, h11, h13, trivial⟩
 intro T H ⟨t17, t18, h3, h8, h11, h13, _⟩
 refine W_seq_regc (fun T H => T 6 = (V.sl (List.map cI ((least (fds (bhd o.tr u) (bhd o.tr v) k 0))))) ∧ T 7 = (V.bool (decide ((fds (bhd o.tr u) (bhd o.tr v) k 0) ≠ []))) ∧ H 3 = (⟨1, true, false, 34, 2, [[(iV (o.i)), (V.sl (List.map cT (o.tr)))]]⟩ : Blk) ∧ (H 8).ver = 1 + (fds (bhd o.tr u) (bhd o.tr v) k 0).length ∧ (H 11).ver = v11 ∧ (H 13).ver = v13 ∧ True) ?_ ?_
 ·
  unfold r27_16
  refine R_mv t17 ?_
  refine R_call (evcons (@rfl V (V.sl (List.map cI (least (fds (bhd o.tr u) (bhd o.tr v) k 0))))) evnil) (clone_pure (least (fds (bhd o.tr u) (bhd o.tr v) k 0)) (by rw [e0]; have := fdl_least u2 u v; omega)) (fzv_mapcanon _ _ (by simp [-List.map_take, -List.map_drop, -List.map_append, -List.map_reverse])) (by simp [-List.map_take, -List.map_drop, -List.map_append, -List.map_reverse]) (Or.inl (by simp [-List.map_take, -List.map_drop, -List.map_append, -List.map_reverse])) ?_
  refine R_mv t18 ?_
  refine R_mv (@rfl V (V.sl (List.map cI ((least (fds (bhd o.tr u) (bhd o.tr v) k 0)))))) ?_
  refine R_mv (@rfl V (V.bool (decide ((fds (bhd o.tr u) (bhd o.tr v) k 0) ≠ [])))) ?_
  exact R_nil ⟨rfl, rfl, h3, h8, h11, h13, trivial⟩
 intro T H ⟨t6, t7, h3, h8, h11, h13, _⟩
 refine W_ret ?_
 refine Ret_2 t6 t7 (fz_sl ?_ (fun _ => by simp)) (fz_bool ?_)
 · rw [e0]
 · rw [e0]

end Go.Proofs.Ytngkckefanbhgaa

namespace Go.Proofs.Ytngkckefanbhgaa
open Go Go.Proofs

theorem join_pure (l : List (List Int)) (hs : (cat l).length ≤ 17592186044416) : PureC Try.prog 35 [(V.sl (List.map cL (l)))] (V.sl (List.map cI (cat l))) := by
 refine pure_of_Wb true 6 Try.func35 s35_ok (by kernel_rfl) (by simp [s35]) (by simp) (by simp) fun hB => ?_
 simp only [bnd_map, bnd_int, bnd_bool, bnd_str, bnd_agg, bnd_pp, bnd_nil, bnd_cons, implies_true, and_true, true_and] at hB
 unfold s35
 dsimp only
 refine W_seq_regc (fun T H => T 0 = (V.sl (List.map cL (l))) ∧ H 3 = (⟨0, false, false, 0, 0, []⟩ : Blk) ∧ True) ?_ ?_
 ·
  unfold r35_0
  refine R_mv (@rfl V V.nilsl) ?_
  exact R_nil ⟨rfl, rfl, trivial⟩
 intro T H ⟨t0, h3, _⟩
 refine W_seq_regc (fun T H => T 0 = (V.sl (List.map cL (l))) ∧ T 3 = (V.ms 3 1 0 (0)) ∧ H 3 = (⟨1, true, true, 3, 1, []⟩ : Blk) ∧ True) ?_ ?_
 ·
  unfold r35_1
  refine R_lazy (i := 3) (n := 0) rfl (congrArg Blk.ver h3) ?_
  exact R_nil ⟨t0, rfl, rfl, trivial⟩
 intro T H ⟨t0, t3, h3, _⟩
 refine W_seq_seq ?_
 refine W_seq_regc (fun T H => T 0 = (V.sl (List.map cL (l))) ∧ T 3 = (V.ms 3 1 0 (0)) ∧ T 4 = (iV (0 : Int)) ∧ H 3 = (⟨1, true, true, 3, 1, []⟩ : Blk) ∧ True) ?_ ?_
 ·
  unfold r35_2
  refine R_mv (@rfl V (iV (0 : Int))) ?_
  exact R_nil ⟨t0, t3, rfl, h3, trivial⟩
 intro T H ⟨t0, t3, t4, h3, _⟩
 refine W_seq_blockg fun Q1 n1 x1 y1 z1 => ?_
 refine W_loop (fun mm T H => ∃ (k : Nat), mm = l.length - k ∧ T 0 = (V.sl (List.map cL (l))) ∧ T 3 = (V.ms 3 (1 + k) 0 ((cat (l.take k)).length)) ∧ T 4 = (iV ((k : Nat) : Int)) ∧ H 3 = (⟨1 + k, true, true, 3, 1, (List.map cI (cat (l.take k)))⟩ : Blk) ∧ (k ≤ l.length)) ?_ ?_
 ·
  refine ⟨_, 0, rfl, t0, (Eq.trans t3 (by first | rfl | (rw [cat_take (by omega), List.length_append]; rfl))), (Eq.trans t4 (by first | rfl | (rw [cat_take (by omega), List.length_append]; rfl))), (Eq.trans h3 (by first | rfl | (rw [cat_take (by omega)]; rfl))), ?_⟩
  · omega
 intro mm T H ⟨k, hmm, t0, t3, t4, h3, hk⟩ Q2 p12 p22 p32
 unfold b35_0
 refine W_seq_seq ?_
 refine W_seq_regc (fun T H => T 0 = (V.sl (List.map cL (l))) ∧ T 3 = (V.ms 3 (1 + k) 0 ((cat (l.take k)).length)) ∧ T 4 = (iV ((k : Nat) : Int)) ∧ T 8 = (V.bool (decide (((k : Nat) : Int) < ((l.length : Nat) : Int)))) ∧ H 3 = (⟨1 + k, true, true, 3, 1, (List.map cI (cat (l.take k)))⟩ : Blk) ∧ True) ?_ ?_
 ·
  unfold r35_3
  refine R_mv t4 ?_
  refine R_mv t0 ?_
  refine R_len (@rfl V (V.sl (List.map cL (l)))) ?_
  refine R_lss (x := ((k : Nat) : Int)) (y := ((l.length : Nat) : Int)) (@rfl V (iV ((k : Nat) : Int))) (@rfl V (iV ((l.length : Nat) : Int))) ?_
  exact R_nil ⟨t0, t3, t4, rfl, h3, trivial⟩
 intro T H ⟨t0, t3, t4, t8, h3, _⟩
 refine W_seq_if (p := ((k : Nat) : Int) < ((l.length : Nat) : Int)) t8 (fun c3 => ?_) (fun c3 => ?_)
 ·
  have hq := cat_take_le (l := l) (k := k) (by omega)
  refine W_seq_skip ?_
  refine W_seq_blockg fun Q4 n4 x4 y4 z4 => ?_
  refine W_regc (fun T H => T 0 = (V.sl (List.map cL (l))) ∧ T 3 = (V.ms 3 (1 + k + 1) 0 (((cat (l.take k)).length) + ((nth (l) (k))).length)) ∧ T 4 = (iV ((k : Nat) : Int)) ∧ H 3 = (⟨1 + k + 1, true, true, 3, 1, (List.map cI (cat (l.take k) ++ ((nth (l) (k)))))⟩ : Blk) ∧ True) ?_ ?_
  ·
   unfold r35_5
   refine R_mv t3 ?_
   refine R_mv t0 ?_
   refine R_mv t4 ?_
   refine R_idx (i := k) (@rfl V (V.sl (List.map cL (l)))) (@rfl V (iV ((k : Nat) : Int))) (by omega) rfl ?_
   refine R_load_pp (v := (V.sl (List.map cI ((nth (l) (k)))))) (@rfl V (V.pp [(V.sl (List.map cI ((nth (l) (k)))))])) (by first | rfl | simp [ldV]) ?_
   refine R_appendS (l := (cat (l.take k))) (m := ((nth (l) (k)))) (f := cI) (@rfl V (V.ms 3 (1 + k) 0 ((cat (l.take k)).length))) h3 (by first | rfl | simp) (@rfl V (V.sl (List.map cI ((nth (l) (k)))))) (fun _ => rfl) (fun _ => rfl) (by omega) (by omega) ?_
   refine R_mv (@rfl V (V.ms 3 (1 + k + 1) 0 (((cat (l.take k)).length) + ((nth (l) (k))).length))) ?_
   exact R_nil ⟨t0, rfl, t4, rfl, trivial⟩
  intro T H ⟨t0, t3, t4, h3, _⟩
  refine n4 _ _ ?_
  refine .done ?_
  refine W_regc (fun T H => T 0 = (V.sl (List.map cL (l))) ∧ T 3 = (V.ms 3 (1 + k + 1) 0 (((cat (l.take k)).length) + ((nth (l) (k))).length)) ∧ T 4 = (iV ((k + 1 : Nat) : Int)) ∧ H 3 = (⟨1 + k + 1, true, true, 3, 1, (List.map cI (cat (l.take k) ++ ((nth (l) (k)))))⟩ : Blk) ∧ True) ?_ ?_
  ·
   unfold r35_4
   refine R_mv t4 ?_
   refine R_addN (m := k) (n := 1) (@rfl V (iV ((k : Nat) : Int))) (@rfl V (iV ((1 : Nat) : Int))) (by omega) ?_
   refine R_mv (@rfl V (iV ((k + 1 : Nat) : Int))) ?_
   exact R_nil ⟨t0, t3, rfl, h3, trivial⟩
  intro T H ⟨t0, t3, t4, h3, _⟩
  refine p12 _ _ _ ?_ ⟨(k + 1), rfl, t0, (Eq.trans t3 (by first | rfl | (rw [cat_take (by omega), List.length_append]; rfl))), (Eq.trans t4 (by first | rfl | (rw [cat_take (by omega), List.length_append]; rfl))), (Eq.trans h3 (by first | rfl | (rw [cat_take (by omega)]; rfl))), ?_⟩
  · omega
  · omega
 refine W_seq_exit ?_
 refine p32 _ _ _ ?_
 refine x1 _ _ ?_
 refine .done ?_
 refine W_seq_regc (fun T H => T 2 = (V.ms 3 (1 + k) 0 ((cat (l.take k)).length)) ∧ H 3 = (⟨1 + k, true, true, 3, 1, (List.map cI (cat (l.take k)))⟩ : Blk) ∧ True) ?_ ?_
 ·
  unfold r35_6
  refine R_mv t3 ?_
  refine R_mv (@rfl V (V.ms 3 (1 + k) 0 ((cat (l.take k)).length))) ?_
  exact R_nil ⟨rfl, h3, trivial⟩
 intro T H ⟨t2, h3, _⟩
 refine W_ret ?_
 refine Ret_1 t2 (fz_ms h3 (by first | rfl | simp) (l := (cat (l.take k))) rfl (by first | rfl | simp) (fun _ => by simp) ?_)
 · (have e : k = l.length := (by omega); subst e; rw [List.take_length])

end Go.Proofs.Ytngkckefanbhgaa

namespace Go.Proofs.Ytngkckefanbhgaa
open Go Go.Proofs

theorem ranswer_pure (o : Ob) (w : List Int) (ho : oval o = 0) : PureC Try.prog 40 [(V.agg [(iV (o.i)), (V.sl (List.map cT (o.tr)))]), (V.sl (List.map cI (w)))] (V.tup [(V.sl (List.map cI ((ans o w).getD []))), (V.bool ((ans o w).isSome))]) := by
 refine pure_of_Wb true 6 Try.func40 s40_ok (by kernel_rfl) (by simp [s40]) (by simp) (by simp) fun hB => ?_
 simp only [bnd_map, bnd_int, bnd_bool, bnd_str, bnd_agg, bnd_pp, bnd_nil, bnd_cons, implies_true, and_true, true_and] at hB
 unfold s40
 dsimp only
 have u2 := oval_ok ho
 refine W_seq_regc (fun T H => T 1 = (V.sl (List.map cI (w))) ∧ T 2 = (V.mp 2 1 0 0) ∧ H 2 = (⟨1, true, false, 34, 2, [[(iV (o.i)), (V.sl (List.map cT (o.tr)))]]⟩ : Blk) ∧ True) ?_ ?_
 ·
  unfold r40_0
  refine R_box (i := 2) (n := 0) (m := 2) (cs := [(iV (o.i)), (V.sl (List.map cT (o.tr)))]) rfl (congrArg Blk.ver rfl) (@rfl V (V.agg [(iV (o.i)), (V.sl (List.map cT (o.tr)))])) rfl rfl ?_
  refine R_mv (@rfl V V.nilsl) ?_
  refine R_mv (@rfl V (V.bool false)) ?_
  exact R_nil ⟨rfl, rfl, rfl, trivial⟩
 intro T H ⟨t1, t2, h2, _⟩
 refine W_seq_seq ?_
 refine W_seq_regc (fun T H => T 1 = (V.sl (List.map cI (w))) ∧ T 2 = (V.mp 2 1 0 0) ∧ T 9 = (V.bool (decide (((w.length : Nat) : Int) = (0 : Int)))) ∧ H 2 = (⟨1, true, false, 34, 2, [[(iV (o.i)), (V.sl (List.map cT (o.tr)))]]⟩ : Blk) ∧ True) ?_ ?_
 ·
  unfold r40_1
  refine R_mv t1 ?_
  refine R_len (@rfl V (V.sl (List.map cI (w)))) ?_
  refine R_eql (x := ((w.length : Nat) : Int)) (y := (0 : Int)) (@rfl V (iV ((w.length : Nat) : Int))) (@rfl V (iV (0 : Int))) ?_
  exact R_nil ⟨t1, t2, rfl, h2, trivial⟩
 intro T H ⟨t1, t2, t9, h2, _⟩
 refine W_seq_if (p := ((w.length : Nat) : Int) = (0 : Int)) t9 (fun c1 => ?_) (fun c1 => ?_)
 ·
  refine W_seq_seq ?_
  refine W_seq_regc (fun T H => T 4 = V.nilsl ∧ T 5 = (V.bool true) ∧ H 2 = (⟨1, true, false, 34, 2, [[(iV (o.i)), (V.sl (List.map cT (o.tr)))]]⟩ : Blk) ∧ True) ?_ ?_
  ·
   unfold r40_2
   refine R_mv (@rfl V V.nilsl) ?_
   refine R_mv (@rfl V (V.bool true)) ?_
   exact R_nil ⟨rfl, rfl, h2, trivial⟩
  intro T H ⟨t4, t5, h2, _⟩
  refine W_seq_ret ?_
  refine Ret_2 t4 t5 (fz_nil ?_) (fz_bool ?_)
  · rw [List.length_eq_zero_iff.1 (show w.length = 0 by omega)]; rfl
  · rw [List.length_eq_zero_iff.1 (show w.length = 0 by omega)]; rfl
 refine W_seq_skip ?_
 refine W_seq_seq ?_
 refine W_seq_regc (fun T H => T 1 = (V.sl (List.map cI (w))) ∧ T 2 = (V.mp 2 1 0 0) ∧ T 6 = (iV (0 : Int)) ∧ H 2 = (⟨1, true, false, 34, 2, [[(iV (o.i)), (V.sl (List.map cT (o.tr)))]]⟩ : Blk) ∧ True) ?_ ?_
 ·
  unfold r40_3
  refine R_mv (@rfl V (iV (0 : Int))) ?_
  exact R_nil ⟨t1, t2, rfl, h2, trivial⟩
 intro T H ⟨t1, t2, t6, h2, _⟩
 refine W_seq_blockg fun Q2 n2 x2 y2 z2 => ?_
 refine W_loop (fun mm T H => ∃ (k : Nat), mm = o.tr.length - k ∧ T 1 = (V.sl (List.map cI (w))) ∧ T 2 = (V.mp 2 1 0 0) ∧ T 6 = (iV ((k : Nat) : Int)) ∧ H 2 = (⟨1, true, false, 34, 2, [[(iV (o.i)), (V.sl (List.map cT (o.tr)))]]⟩ : Blk) ∧ (k ≤ o.tr.length) ∧ (w ≠ []) ∧ (ansL o.tr w = ansL (o.tr.drop k) w)) ?_ ?_
 ·
  refine ⟨_, 0, rfl, t1, t2, (Eq.trans t6 (by first | rfl | simp)), h2, ?_, ?_, ?_⟩
  · omega
  · intro e; subst e; simp at *
  · rfl
 intro mm T H ⟨k, hmm, t1, t2, t6, h2, hk, hw, hc⟩ Q3 p13 p23 p33
 unfold b40_0
 refine W_seq_seq ?_
 refine W_seq_regc (fun T H => T 1 = (V.sl (List.map cI (w))) ∧ T 2 = (V.mp 2 1 0 0) ∧ T 6 = (iV ((k : Nat) : Int)) ∧ T 14 = (V.bool (decide (((k : Nat) : Int) < ((o.tr.length : Nat) : Int)))) ∧ H 2 = (⟨1, true, false, 34, 2, [[(iV (o.i)), (V.sl (List.map cT (o.tr)))]]⟩ : Blk) ∧ True) ?_ ?_
 ·
  unfold r40_4
  refine R_mv t6 ?_
  refine R_fld_mp (o' := 1) t2 h2 (by first | rfl | simp [okB, Blk.own]) rfl ?_
  refine R_load_mp (v := (V.sl (List.map cT (o.tr)))) (@rfl V (V.mp 2 1 0 1)) h2 (by first | rfl | simp [ldB, ldV, Blk.own, V.one]) ?_
  refine R_len (@rfl V (V.sl (List.map cT (o.tr)))) ?_
  refine R_lss (x := ((k : Nat) : Int)) (y := ((o.tr.length : Nat) : Int)) (@rfl V (iV ((k : Nat) : Int))) (@rfl V (iV ((o.tr.length : Nat) : Int))) ?_
  exact R_nil ⟨t1, t2, t6, rfl, h2, trivial⟩
 intro T H ⟨t1, t2, t6, t14, h2, _⟩
 refine W_seq_if (p := ((k : Nat) : Int) < ((o.tr.length : Nat) : Int)) t14 (fun c4 => ?_) (fun c4 => ?_)
 ·
  refine W_seq_skip ?_
  refine W_seq_blockg fun Q5 n5 x5 y5 z5 => ?_
  refine W_seq_regc (fun T H => T 1 = (V.sl (List.map cI (w))) ∧ T 2 = (V.mp 2 1 0 0) ∧ T 6 = (iV ((k : Nat) : Int)) ∧ T 24 = (V.bool (hp ((nth (o.tr) (k)).ni) w)) ∧ H 2 = (⟨1, true, false, 34, 2, [[(iV (o.i)), (V.sl (List.map cT (o.tr)))]]⟩ : Blk) ∧ True) ?_ ?_
  ·
   unfold r40_6
   refine R_fld_mp (o' := 1) t2 h2 (by first | rfl | simp [okB, Blk.own]) rfl ?_
   refine R_load_mp (v := (V.sl (List.map cT (o.tr)))) (@rfl V (V.mp 2 1 0 1)) h2 (by first | rfl | simp [ldB, ldV, Blk.own, V.one]) ?_
   refine R_mv t6 ?_
   refine R_idx (i := k) (@rfl V (V.sl (List.map cT (o.tr)))) (@rfl V (iV ((k : Nat) : Int))) (by omega) rfl ?_
   refine R_fld_pp (cs' := [(V.sl (List.map cI ((nth (o.tr) (k)).ni))), (V.sl (List.map cI ((nth (o.tr) (k)).no)))]) (@rfl V (V.pp [(V.sl (List.map cI ((nth (o.tr) (k)).ni))), (V.sl (List.map cI ((nth (o.tr) (k)).no)))])) rfl ?_
   refine R_load_pp (v := (V.sl (List.map cI ((nth (o.tr) (k)).ni)))) (@rfl V (V.pp [(V.sl (List.map cI ((nth (o.tr) (k)).ni))), (V.sl (List.map cI ((nth (o.tr) (k)).no)))])) (by first | rfl | simp [ldV]) ?_
   refine R_mv t1 ?_
   refine R_call (evcons (@rfl V (V.sl (List.map cI ((nth (o.tr) (k)).ni)))) (evcons (@rfl V (V.sl (List.map cI (w)))) evnil)) (rhp_pure ((nth (o.tr) (k)).ni) w) (fzv_mapcanon _ _ (by simp [-List.map_take, -List.map_drop, -List.map_append, -List.map_reverse])) (by simp [-List.map_take, -List.map_drop, -List.map_append, -List.map_reverse]) (Or.inl (by simp [-List.map_take, -List.map_drop, -List.map_append, -List.map_reverse])) ?_
   exact R_nil ⟨t1, t2, t6, rfl, h2, trivial⟩
  intro T H ⟨t1, t2, t6, t24, h2, _⟩
  refine W_ifb t24 (fun c6 => ?_) (fun c6 => ?_)
  ·
   have d1 := c6
   have d2 := hp_len c6
   have d3 := (u2.pr k (by omega)).1.len
   have d4 := (u2.pr k (by omega)).1.lel
   have d5 : ans o w = some ((nth o.tr k).no.take w.length) := by rw [ans, if_neg hw, hc, nth_drop (by omega), ansL, if_pos d1]
   refine W_seq_regc (fun T H => T 4 = (V.sl (List.map cI (cat ([List.take (w.length) ((nth (o.tr) (k)).no)])))) ∧ T 5 = (V.bool true) ∧ H 2 = (⟨1, true, false, 34, 2, [[(iV (o.i)), (V.sl (List.map cT (o.tr)))]]⟩ : Blk) ∧ True) ?_ ?_
   ·
    unfold r40_7
    refine R_fld_mp (o' := 1) t2 h2 (by first | rfl | simp [okB, Blk.own]) rfl ?_
    refine R_load_mp (v := (V.sl (List.map cT (o.tr)))) (@rfl V (V.mp 2 1 0 1)) h2 (by first | rfl | simp [ldB, ldV, Blk.own, V.one]) ?_
    refine R_mv t6 ?_
    refine R_idx (i := k) (@rfl V (V.sl (List.map cT (o.tr)))) (@rfl V (iV ((k : Nat) : Int))) (by omega) rfl ?_
    refine R_fld_pp (cs' := [(V.sl (List.map cI ((nth (o.tr) (k)).no)))]) (@rfl V (V.pp [(V.sl (List.map cI ((nth (o.tr) (k)).ni))), (V.sl (List.map cI ((nth (o.tr) (k)).no)))])) rfl ?_
    refine R_load_pp (v := (V.sl (List.map cI ((nth (o.tr) (k)).no)))) (@rfl V (V.pp [(V.sl (List.map cI ((nth (o.tr) (k)).no)))])) (by first | rfl | simp [ldV]) ?_
    refine R_mv t1 ?_
    refine R_len (@rfl V (V.sl (List.map cI (w)))) ?_
    refine R_slice_hi (n := w.length) (@rfl V (V.sl (List.map cI ((nth (o.tr) (k)).no)))) (@rfl V (iV ((w.length : Nat) : Int))) (by omega) (fun _ => rfl) ?_
    refine R_bslice (qs := [(0, (V.sl (List.map cI (List.take (w.length) ((nth (o.tr) (k)).no)))))]) (rows := [[(V.sl (List.map cI (List.take (w.length) ((nth (o.tr) (k)).no))))]]) (mcons (congrArg (fun v => (0, v)) (@rfl V (V.sl (List.map cI (List.take (w.length) ((nth (o.tr) (k)).no)))))) rfl) rfl ?_
    refine R_call (evcons (@rfl V (V.sl [[(V.sl (List.map cI (List.take (w.length) ((nth (o.tr) (k)).no))))]])) evnil) (join_pure ([List.take (w.length) ((nth (o.tr) (k)).no)]) (by simp [cat]; omega)) (fzv_mapcanon _ _ (by simp [-List.map_take, -List.map_drop, -List.map_append, -List.map_reverse])) (by simp [-List.map_take, -List.map_drop, -List.map_append, -List.map_reverse]) (Or.inl (by simp [-List.map_take, -List.map_drop, -List.map_append, -List.map_reverse])) ?_
    refine R_mv (@rfl V (V.sl (List.map cI (cat ([List.take (w.length) ((nth (o.tr) (k)).no)]))))) ?_
    refine R_mv (@rfl V (V.bool true)) ?_
    exact R_nil ⟨rfl, rfl, h2, trivial⟩
   intro T H ⟨t4, t5, h2, _⟩
   refine W_ret ?_
   refine y5 _ _ ?_
   refine p23 _ _ ?_
   refine y2 _ _ ?_
   refine Ret_2 t4 t5 (fz_sl ?_ (fun _ => by simp)) (fz_bool ?_)
   · rw [d5]; simp [cat]
   · rw [d5]; rfl
  have d1 := c6
  refine W_skip ?_
  refine n5 _ _ ?_
  refine .done ?_
  refine W_regc (fun T H => T 1 = (V.sl (List.map cI (w))) ∧ T 2 = (V.mp 2 1 0 0) ∧ T 6 = (iV ((k + 1 : Nat) : Int)) ∧ H 2 = (⟨1, true, false, 34, 2, [[(iV (o.i)), (V.sl (List.map cT (o.tr)))]]⟩ : Blk) ∧ True) ?_ ?_
  ·
   unfold r40_5
   refine R_mv t6 ?_
   refine R_addN (m := k) (n := 1) (@rfl V (iV ((k : Nat) : Int))) (@rfl V (iV ((1 : Nat) : Int))) (by omega) ?_
   refine R_mv (@rfl V (iV ((k + 1 : Nat) : Int))) ?_
   exact R_nil ⟨t1, t2, rfl, h2, trivial⟩
  intro T H ⟨t1, t2, t6, h2, _⟩
  refine p13 _ _ _ ?_ ⟨(k + 1), rfl, t1, t2, (Eq.trans t6 (by first | rfl | simp)), h2, ?_, ?_, ?_⟩
  · omega
  · omega
  · omega
  · rw [hc, nth_drop (by omega), ansL, if_neg (by simp [d1])]
 refine W_seq_exit ?_
 refine p33 _ _ _ ?_
 refine x2 _ _ ?_
 refine .done ?_
 refine W_seq_regc (fun T H => T 4 = V.nilsl ∧ T 5 = (V.bool false) ∧ H 2 = (⟨1, true, false, 34, 2, [[(iV (o.i)), (V.sl (List.map cT (o.tr)))]]⟩ : Blk) ∧ True) ?_ ?_
 ·
  unfold r40_8
  refine R_mv (@rfl V V.nilsl) ?_
  refine R_mv (@rfl V (V.bool false)) ?_
  exact R_nil ⟨rfl, rfl, h2, trivial⟩
 intro T H ⟨t4, t5, h2, _⟩
 refine W_ret ?_
 refine Ret_2 t4 t5 (fz_nil ?_) (fz_bool ?_)
 · rw [ans, if_neg hw, hc, List.drop_of_length_le (by omega)]; rfl
 · rw [ans, if_neg hw, hc, List.drop_of_length_le (by omega)]; rfl

end Go.Proofs.Ytngkckefanbhgaa

namespace Go.Proofs.Ytngkckefanbhgaa
open Go Go.Proofs

theorem shown_pure (o : Ob) (t : Tr) (n : Nat) (v : List Int) (ho : oval o = 0) (ht : Proper t o.i) (hv : v.length ≤ 1048576) : PureC Try.prog 71 [(V.agg [(iV (o.i)), (V.sl (List.map cT (o.tr)))]), (V.agg [(V.sl (List.map cI (t.ni))), (V.sl (List.map cI (t.no)))]), (iV ((n : Nat) : Int)), (V.sl (List.map cI (v)))] (V.tup [(V.sl (List.map cI ((shw o t n v n (t.ni.length - n)).getD []))), (V.bool ((shw o t n v n (t.ni.length - n)).isSome))]) := by
 refine pure_of_Wb true 6 Try.func71 s71_ok (by kernel_rfl) (by simp [s71]) (by simp) (by simp) fun hB => ?_
 simp only [bnd_map, bnd_int, bnd_bool, bnd_str, bnd_agg, bnd_pp, bnd_nil, bnd_cons, implies_true, and_true, true_and] at hB
 unfold s71
 dsimp only
 have u2 := oval_ok ho
 have u3 := ht.len
 have u4 := ht.lel
 refine W_seq_regc (fun T H => T 2 = (iV ((n : Nat) : Int)) ∧ T 3 = (V.sl (List.map cI (v))) ∧ T 4 = (V.mp 4 1 0 0) ∧ T 5 = (V.mp 5 1 0 0) ∧ H 4 = (⟨1, true, false, 34, 2, [[(iV (o.i)), (V.sl (List.map cT (o.tr)))]]⟩ : Blk) ∧ H 5 = (⟨1, true, false, 63, 2, [[(V.sl (List.map cI (t.ni))), (V.sl (List.map cI (t.no)))]]⟩ : Blk) ∧ True) ?_ ?_
 ·
  unfold r71_0
  refine R_box (i := 4) (n := 0) (m := 2) (cs := [(iV (o.i)), (V.sl (List.map cT (o.tr)))]) rfl (congrArg Blk.ver rfl) (@rfl V (V.agg [(iV (o.i)), (V.sl (List.map cT (o.tr)))])) rfl rfl ?_
  refine R_box (i := 5) (n := 0) (m := 2) (cs := [(V.sl (List.map cI (t.ni))), (V.sl (List.map cI (t.no)))]) rfl (congrArg Blk.ver rfl) (@rfl V (V.agg [(V.sl (List.map cI (t.ni))), (V.sl (List.map cI (t.no)))])) rfl rfl ?_
  refine R_mv (@rfl V V.nilsl) ?_
  refine R_mv (@rfl V (V.bool false)) ?_
  exact R_nil ⟨rfl, rfl, rfl, rfl, rfl, rfl, trivial⟩
 intro T H ⟨t2, t3, t4, t5, h4, h5, _⟩
 refine W_seq_seq ?_
 refine W_seq_regc (fun T H => T 2 = (iV ((n : Nat) : Int)) ∧ T 3 = (V.sl (List.map cI (v))) ∧ T 4 = (V.mp 4 1 0 0) ∧ T 5 = (V.mp 5 1 0 0) ∧ T 10 = (iV ((n : Nat) : Int)) ∧ H 4 = (⟨1, true, false, 34, 2, [[(iV (o.i)), (V.sl (List.map cT (o.tr)))]]⟩ : Blk) ∧ H 5 = (⟨1, true, false, 63, 2, [[(V.sl (List.map cI (t.ni))), (V.sl (List.map cI (t.no)))]]⟩ : Blk) ∧ True) ?_ ?_
 ·
  unfold r71_1
  refine R_mv t2 ?_
  refine R_mv (@rfl V (iV ((n : Nat) : Int))) ?_
  exact R_nil ⟨t2, t3, t4, t5, rfl, h4, h5, trivial⟩
 intro T H ⟨t2, t3, t4, t5, t10, h4, h5, _⟩
 refine W_seq_blockg fun Q1 n1 x1 y1 z1 => ?_
 refine W_loop (fun mm T H => ∃ (k : Nat), mm = t.ni.length - k ∧ T 2 = (iV ((n : Nat) : Int)) ∧ T 3 = (V.sl (List.map cI (v))) ∧ T 4 = (V.mp 4 1 0 0) ∧ T 5 = (V.mp 5 1 0 0) ∧ T 10 = (iV ((k : Nat) : Int)) ∧ H 4 = (⟨1, true, false, 34, 2, [[(iV (o.i)), (V.sl (List.map cT (o.tr)))]]⟩ : Blk) ∧ H 5 = (⟨1, true, false, 63, 2, [[(V.sl (List.map cI (t.ni))), (V.sl (List.map cI (t.no)))]]⟩ : Blk) ∧ (n ≤ k) ∧ (shw o t n v n (t.ni.length - n) = shw o t n v k (t.ni.length - k))) ?_ ?_
 ·
  refine ⟨_, n, rfl, t2, t3, t4, t5, t10, h4, h5, ?_, ?_⟩
  · omega
  · rfl
 intro mm T H ⟨k, hmm, t2, t3, t4, t5, t10, h4, h5, hn, hc⟩ Q2 p12 p22 p32
 unfold b71_0
 refine W_seq_seq ?_
 refine W_seq_regc (fun T H => T 2 = (iV ((n : Nat) : Int)) ∧ T 3 = (V.sl (List.map cI (v))) ∧ T 4 = (V.mp 4 1 0 0) ∧ T 5 = (V.mp 5 1 0 0) ∧ T 10 = (iV ((k : Nat) : Int)) ∧ T 19 = (V.bool (decide (((k : Nat) : Int) < ((t.ni.length : Nat) : Int)))) ∧ H 4 = (⟨1, true, false, 34, 2, [[(iV (o.i)), (V.sl (List.map cT (o.tr)))]]⟩ : Blk) ∧ H 5 = (⟨1, true, false, 63, 2, [[(V.sl (List.map cI (t.ni))), (V.sl (List.map cI (t.no)))]]⟩ : Blk) ∧ True) ?_ ?_
 ·
  unfold r71_2
  refine R_mv t10 ?_
  refine R_fld_mp (o' := 0) t5 h5 (by first | rfl | simp [okB, Blk.own]) rfl ?_
  refine R_load_mp (v := (V.sl (List.map cI (t.ni)))) (@rfl V (V.mp 5 1 0 0)) h5 (by first | rfl | simp [ldB, ldV, Blk.own, V.one]) ?_
  refine R_len (@rfl V (V.sl (List.map cI (t.ni)))) ?_
  refine R_lss (x := ((k : Nat) : Int)) (y := ((t.ni.length : Nat) : Int)) (@rfl V (iV ((k : Nat) : Int))) (@rfl V (iV ((t.ni.length : Nat) : Int))) ?_
  exact R_nil ⟨t2, t3, t4, t5, t10, rfl, h4, h5, trivial⟩
 intro T H ⟨t2, t3, t4, t5, t10, t19, h4, h5, _⟩
 refine W_seq_if (p := ((k : Nat) : Int) < ((t.ni.length : Nat) : Int)) t19 (fun c3 => ?_) (fun c3 => ?_)
 ·
  refine W_seq_skip ?_
  refine W_seq_blockg fun Q4 n4 x4 y4 z4 => ?_
  refine W_seq_regc (fun T H => T 2 = (iV ((n : Nat) : Int)) ∧ T 3 = (V.sl (List.map cI (v))) ∧ T 4 = (V.mp 4 1 0 0) ∧ T 5 = (V.mp 5 1 0 0) ∧ T 10 = (iV ((k : Nat) : Int)) ∧ T 11 = (V.sl (List.map cI ((List.take (k + 1) (t.ni)).drop (n)))) ∧ H 4 = (⟨1, true, false, 34, 2, [[(iV (o.i)), (V.sl (List.map cT (o.tr)))]]⟩ : Blk) ∧ H 5 = (⟨1, true, false, 63, 2, [[(V.sl (List.map cI (t.ni))), (V.sl (List.map cI (t.no)))]]⟩ : Blk) ∧ True) ?_ ?_
  ·
   unfold r71_4
   refine R_fld_mp (o' := 0) t5 h5 (by first | rfl | simp [okB, Blk.own]) rfl ?_
   refine R_load_mp (v := (V.sl (List.map cI (t.ni)))) (@rfl V (V.mp 5 1 0 0)) h5 (by first | rfl | simp [ldB, ldV, Blk.own, V.one]) ?_
   refine R_mv t2 ?_
   refine R_mv t10 ?_
   refine R_addN (m := k) (n := 1) (@rfl V (iV ((k : Nat) : Int))) (@rfl V (iV ((1 : Nat) : Int))) (by omega) ?_
   refine R_slice_lh (m := n) (n := (k + 1)) (@rfl V (V.sl (List.map cI (t.ni)))) (@rfl V (iV ((n : Nat) : Int))) (@rfl V (iV ((k + 1 : Nat) : Int))) (by omega) (by omega) (fun _ => rfl) ?_
   refine R_mv (@rfl V (V.sl (List.map cI ((List.take (k + 1) (t.ni)).drop (n))))) ?_
   exact R_nil ⟨t2, t3, t4, t5, t10, rfl, h4, h5, trivial⟩
  intro T H ⟨t2, t3, t4, t5, t10, t11, h4, h5, _⟩
  refine W_seq_regc (fun T H => T 2 = (iV ((n : Nat) : Int)) ∧ T 3 = (V.sl (List.map cI (v))) ∧ T 4 = (V.mp 4 1 0 0) ∧ T 5 = (V.mp 5 1 0 0) ∧ T 10 = (iV ((k : Nat) : Int)) ∧ T 11 = (V.sl (List.map cI ((List.take (k + 1) (t.ni)).drop (n)))) ∧ T 12 = (V.sl (List.map cI ((ans o (cat ([v, (List.take (k + 1) (t.ni)).drop (n)]))).getD []))) ∧ T 13 = (V.bool ((ans o (cat ([v, (List.take (k + 1) (t.ni)).drop (n)]))).isSome)) ∧ H 4 = (⟨1, true, false, 34, 2, [[(iV (o.i)), (V.sl (List.map cT (o.tr)))]]⟩ : Blk) ∧ H 5 = (⟨1, true, false, 63, 2, [[(V.sl (List.map cI (t.ni))), (V.sl (List.map cI (t.no)))]]⟩ : Blk) ∧ True) ?_ ?_
  ·
   unfold r71_5
   refine R_load_mp (v := (V.agg [(iV (o.i)), (V.sl (List.map cT (o.tr)))])) t4 h4 (by first | rfl | simp [ldB, ldV, Blk.own, V.one]) ?_
   refine R_mv t3 ?_
   refine R_mv t11 ?_
   refine R_bslice (qs := [(0, (V.sl (List.map cI (v)))), (1, (V.sl (List.map cI ((List.take (k + 1) (t.ni)).drop (n)))))]) (rows := [[(V.sl (List.map cI (v)))], [(V.sl (List.map cI ((List.take (k + 1) (t.ni)).drop (n))))]]) (mcons (congrArg (fun v => (0, v)) (@rfl V (V.sl (List.map cI (v))))) (mcons (congrArg (fun v => (1, v)) (@rfl V (V.sl (List.map cI ((List.take (k + 1) (t.ni)).drop (n)))))) rfl)) rfl ?_
   refine R_call (evcons (@rfl V (V.sl [[(V.sl (List.map cI (v)))], [(V.sl (List.map cI ((List.take (k + 1) (t.ni)).drop (n))))]])) evnil) (join_pure ([v, (List.take (k + 1) (t.ni)).drop (n)]) (by simp [cat]; omega)) (fzv_mapcanon _ _ (by simp [-List.map_take, -List.map_drop, -List.map_append, -List.map_reverse])) (by simp [-List.map_take, -List.map_drop, -List.map_append, -List.map_reverse]) (Or.inl (by simp [-List.map_take, -List.map_drop, -List.map_append, -List.map_reverse])) ?_
   refine R_call (evcons (@rfl V (V.agg [(iV (o.i)), (V.sl (List.map cT (o.tr)))])) (evcons (@rfl V (V.sl (List.map cI (cat ([v, (List.take (k + 1) (t.ni)).drop (n)]))))) evnil)) (ranswer_pure o (cat ([v, (List.take (k + 1) (t.ni)).drop (n)])) ho) (fzv_mapcanon _ _ (by simp [-List.map_take, -List.map_drop, -List.map_append, -List.map_reverse])) (by simp [-List.map_take, -List.map_drop, -List.map_append, -List.map_reverse]) (Or.inl (by simp [-List.map_take, -List.map_drop, -List.map_append, -List.map_reverse])) ?_
   refine R_mv (@rfl V (V.tup [(V.sl (List.map cI ((ans o (cat ([v, (List.take (k + 1) (t.ni)).drop (n)]))).getD []))), (V.bool ((ans o (cat ([v, (List.take (k + 1) (t.ni)).drop (n)]))).isSome))])) ?_
   refine R_ext (v := (V.sl (List.map cI ((ans o (cat ([v, (List.take (k + 1) (t.ni)).drop (n)]))).getD [])))) (@rfl V (V.tup [(V.sl (List.map cI ((ans o (cat ([v, (List.take (k + 1) (t.ni)).drop (n)]))).getD []))), (V.bool ((ans o (cat ([v, (List.take (k + 1) (t.ni)).drop (n)]))).isSome))])) rfl ?_
   refine R_ext (v := (V.bool ((ans o (cat ([v, (List.take (k + 1) (t.ni)).drop (n)]))).isSome))) (@rfl V (V.tup [(V.sl (List.map cI ((ans o (cat ([v, (List.take (k + 1) (t.ni)).drop (n)]))).getD []))), (V.bool ((ans o (cat ([v, (List.take (k + 1) (t.ni)).drop (n)]))).isSome))])) rfl ?_
   refine R_mv (@rfl V (V.sl (List.map cI ((ans o (cat ([v, (List.take (k + 1) (t.ni)).drop (n)]))).getD [])))) ?_
   refine R_mv (@rfl V (V.bool ((ans o (cat ([v, (List.take (k + 1) (t.ni)).drop (n)]))).isSome))) ?_
   exact R_nil ⟨t2, t3, t4, t5, t10, t11, rfl, rfl, h4, h5, trivial⟩
  intro T H ⟨t2, t3, t4, t5, t10, t11, t12, t13, h4, h5, _⟩
  refine W_seq_seq ?_
  refine W_seq_regc (fun T H => T 2 = (iV ((n : Nat) : Int)) ∧ T 3 = (V.sl (List.map cI (v))) ∧ T 4 = (V.mp 4 1 0 0) ∧ T 5 = (V.mp 5 1 0 0) ∧ T 10 = (iV ((k : Nat) : Int)) ∧ T 11 = (V.sl (List.map cI ((List.take (k + 1) (t.ni)).drop (n)))) ∧ T 12 = (V.sl (List.map cI ((ans o (cat ([v, (List.take (k + 1) (t.ni)).drop (n)]))).getD []))) ∧ T 38 = (V.bool ((!(ans o (cat ([v, (List.take (k + 1) (t.ni)).drop (n)]))).isSome))) ∧ H 4 = (⟨1, true, false, 34, 2, [[(iV (o.i)), (V.sl (List.map cT (o.tr)))]]⟩ : Blk) ∧ H 5 = (⟨1, true, false, 63, 2, [[(V.sl (List.map cI (t.ni))), (V.sl (List.map cI (t.no)))]]⟩ : Blk) ∧ True) ?_ ?_
  ·
   unfold r71_6
   refine R_mv t13 ?_
   refine R_notb (@rfl V (V.bool ((ans o (cat ([v, (List.take (k + 1) (t.ni)).drop (n)]))).isSome))) ?_
   exact R_nil ⟨t2, t3, t4, t5, t10, t11, t12, rfl, h4, h5, trivial⟩
  intro T H ⟨t2, t3, t4, t5, t10, t11, t12, t38, h4, h5, _⟩
  refine W_seq_ifb t38 (fun c5 => ?_) (fun c5 => ?_)
  ·
   have d1 : (ans o (cat [v, List.drop n (List.take (k + 1) t.ni)])).isSome = false := by simpa using c5
   refine W_seq_seq ?_
   refine W_seq_regc (fun T H => T 8 = V.nilsl ∧ T 9 = (V.bool false) ∧ H 4 = (⟨1, true, false, 34, 2, [[(iV (o.i)), (V.sl (List.map cT (o.tr)))]]⟩ : Blk) ∧ H 5 = (⟨1, true, false, 63, 2, [[(V.sl (List.map cI (t.ni))), (V.sl (List.map cI (t.no)))]]⟩ : Blk) ∧ True) ?_ ?_
   ·
    unfold r71_7
    refine R_mv (@rfl V V.nilsl) ?_
    refine R_mv (@rfl V (V.bool false)) ?_
    exact R_nil ⟨rfl, rfl, h4, h5, trivial⟩
   intro T H ⟨t8, t9, h4, h5, _⟩
   refine W_seq_ret ?_
   refine y4 _ _ ?_
   refine p22 _ _ ?_
   refine y1 _ _ ?_
   refine Ret_2 t8 t9 (fz_nil ?_) (fz_bool ?_)
   · rw [hc, shw_eq (by omega), if_pos d1]; rfl
   · rw [hc, shw_eq (by omega), if_pos d1]; rfl
  have d1 : (ans o (cat [v, List.drop n (List.take (k + 1) t.ni)])).isSome = true := by simpa using c5
  have d3 := ans_len u2 d1
  have d4 : (cat [v, List.drop n (List.take (k + 1) t.ni)]).length = v.length + (k + 1 - n) := by simp [cat]; omega
  refine W_seq_skip ?_
  refine W_seq_regc (fun T H => T 2 = (iV ((n : Nat) : Int)) ∧ T 3 = (V.sl (List.map cI (v))) ∧ T 4 = (V.mp 4 1 0 0) ∧ T 5 = (V.mp 5 1 0 0) ∧ T 10 = (iV ((k : Nat) : Int)) ∧ T 11 = (V.sl (List.map cI ((List.take (k + 1) (t.ni)).drop (n)))) ∧ T 50 = (V.bool (decide (((nth ((ans o (cat ([v, (List.take (k + 1) (t.ni)).drop (n)]))).getD []) (((((ans o (cat ([v, (List.take (k + 1) (t.ni)).drop (n)]))).getD []).length : Nat) : Int) - (1 : Int)).toNat)) ≠ ((nth (t.no) (k)))))) ∧ H 4 = (⟨1, true, false, 34, 2, [[(iV (o.i)), (V.sl (List.map cT (o.tr)))]]⟩ : Blk) ∧ H 5 = (⟨1, true, false, 63, 2, [[(V.sl (List.map cI (t.ni))), (V.sl (List.map cI (t.no)))]]⟩ : Blk) ∧ True) ?_ ?_
  ·
   unfold r71_8
   refine R_mv t12 ?_
   refine R_mv t12 ?_
   refine R_len (@rfl V (V.sl (List.map cI ((ans o (cat ([v, (List.take (k + 1) (t.ni)).drop (n)]))).getD [])))) ?_
   refine R_sub (x := ((((ans o (cat ([v, (List.take (k + 1) (t.ni)).drop (n)]))).getD []).length : Nat) : Int)) (y := (1 : Int)) (@rfl V (iV ((((ans o (cat ([v, (List.take (k + 1) (t.ni)).drop (n)]))).getD []).length : Nat) : Int))) (@rfl V (iV (1 : Int))) (by omega) (by omega) ?_
   refine R_idxI (i := (((((ans o (cat ([v, (List.take (k + 1) (t.ni)).drop (n)]))).getD []).length : Nat) : Int) - (1 : Int))) (@rfl V (V.sl (List.map cI ((ans o (cat ([v, (List.take (k + 1) (t.ni)).drop (n)]))).getD [])))) (@rfl V (iV (((((ans o (cat ([v, (List.take (k + 1) (t.ni)).drop (n)]))).getD []).length : Nat) : Int) - (1 : Int)))) (by omega) (by omega) rfl ?_
   refine R_load_pp (v := (iV ((nth ((ans o (cat ([v, (List.take (k + 1) (t.ni)).drop (n)]))).getD []) (((((ans o (cat ([v, (List.take (k + 1) (t.ni)).drop (n)]))).getD []).length : Nat) : Int) - (1 : Int)).toNat)))) (@rfl V (V.pp [(iV ((nth ((ans o (cat ([v, (List.take (k + 1) (t.ni)).drop (n)]))).getD []) (((((ans o (cat ([v, (List.take (k + 1) (t.ni)).drop (n)]))).getD []).length : Nat) : Int) - (1 : Int)).toNat)))])) (by first | rfl | simp [ldV]) ?_
   refine R_fld_mp (o' := 1) t5 h5 (by first | rfl | simp [okB, Blk.own]) rfl ?_
   refine R_load_mp (v := (V.sl (List.map cI (t.no)))) (@rfl V (V.mp 5 1 0 1)) h5 (by first | rfl | simp [ldB, ldV, Blk.own, V.one]) ?_
   refine R_mv t10 ?_
   refine R_idx (i := k) (@rfl V (V.sl (List.map cI (t.no)))) (@rfl V (iV ((k : Nat) : Int))) (by omega) rfl ?_
   refine R_load_pp (v := (iV ((nth (t.no) (k))))) (@rfl V (V.pp [(iV ((nth (t.no) (k))))])) (by first | rfl | simp [ldV]) ?_
   refine R_neq (x := ((nth ((ans o (cat ([v, (List.take (k + 1) (t.ni)).drop (n)]))).getD []) (((((ans o (cat ([v, (List.take (k + 1) (t.ni)).drop (n)]))).getD []).length : Nat) : Int) - (1 : Int)).toNat))) (y := ((nth (t.no) (k)))) (@rfl V (iV ((nth ((ans o (cat ([v, (List.take (k + 1) (t.ni)).drop (n)]))).getD []) (((((ans o (cat ([v, (List.take (k + 1) (t.ni)).drop (n)]))).getD []).length : Nat) : Int) - (1 : Int)).toNat)))) (@rfl V (iV ((nth (t.no) (k))))) ?_
   exact R_nil ⟨t2, t3, t4, t5, t10, t11, rfl, h4, h5, trivial⟩
  intro T H ⟨t2, t3, t4, t5, t10, t11, t50, h4, h5, _⟩
  refine W_if (p := ((nth ((ans o (cat ([v, (List.take (k + 1) (t.ni)).drop (n)]))).getD []) (((((ans o (cat ([v, (List.take (k + 1) (t.ni)).drop (n)]))).getD []).length : Nat) : Int) - (1 : Int)).toNat)) ≠ ((nth (t.no) (k)))) t50 (fun c6 => ?_) (fun c6 => ?_)
  ·
   have d2 := c6
   refine W_seq_regc (fun T H => T 8 = (V.sl (List.map cI (cat ([(List.take (k + 1) (t.ni)).drop (n)])))) ∧ T 9 = (V.bool true) ∧ H 4 = (⟨1, true, false, 34, 2, [[(iV (o.i)), (V.sl (List.map cT (o.tr)))]]⟩ : Blk) ∧ H 5 = (⟨1, true, false, 63, 2, [[(V.sl (List.map cI (t.ni))), (V.sl (List.map cI (t.no)))]]⟩ : Blk) ∧ True) ?_ ?_
   ·
    unfold r71_9
    refine R_mv t11 ?_
    refine R_bslice (qs := [(0, (V.sl (List.map cI ((List.take (k + 1) (t.ni)).drop (n)))))]) (rows := [[(V.sl (List.map cI ((List.take (k + 1) (t.ni)).drop (n))))]]) (mcons (congrArg (fun v => (0, v)) (@rfl V (V.sl (List.map cI ((List.take (k + 1) (t.ni)).drop (n)))))) rfl) rfl ?_
    refine R_call (evcons (@rfl V (V.sl [[(V.sl (List.map cI ((List.take (k + 1) (t.ni)).drop (n))))]])) evnil) (join_pure ([(List.take (k + 1) (t.ni)).drop (n)]) (by simp [cat]; omega)) (fzv_mapcanon _ _ (by simp [-List.map_take, -List.map_drop, -List.map_append, -List.map_reverse])) (by simp [-List.map_take, -List.map_drop, -List.map_append, -List.map_reverse]) (Or.inl (by simp [-List.map_take, -List.map_drop, -List.map_append, -List.map_reverse])) ?_
    refine R_mv (@rfl V (V.sl (List.map cI (cat ([(List.take (k + 1) (t.ni)).drop (n)]))))) ?_
    refine R_mv (@rfl V (V.bool true)) ?_
    exact R_nil ⟨rfl, rfl, h4, h5, trivial⟩
   intro T H ⟨t8, t9, h4, h5, _⟩
   refine W_ret ?_
   refine y4 _ _ ?_
   refine p22 _ _ ?_
   refine y1 _ _ ?_
   refine Ret_2 t8 t9 (fz_sl ?_ (fun _ => by simp)) (fz_bool ?_)
   · rw [hc, shw_eq (by omega), if_neg (by simp [d1]), if_pos d2]; simp [cat]
   · rw [hc, shw_eq (by omega), if_neg (by simp [d1]), if_pos d2]; rfl
  have d2 := c6
  refine W_skip ?_
  refine n4 _ _ ?_
  refine .done ?_
  refine W_regc (fun T H => T 2 = (iV ((n : Nat) : Int)) ∧ T 3 = (V.sl (List.map cI (v))) ∧ T 4 = (V.mp 4 1 0 0) ∧ T 5 = (V.mp 5 1 0 0) ∧ T 10 = (iV ((k + 1 : Nat) : Int)) ∧ H 4 = (⟨1, true, false, 34, 2, [[(iV (o.i)), (V.sl (List.map cT (o.tr)))]]⟩ : Blk) ∧ H 5 = (⟨1, true, false, 63, 2, [[(V.sl (List.map cI (t.ni))), (V.sl (List.map cI (t.no)))]]⟩ : Blk) ∧ True) ?_ ?_
  ·
   unfold r71_3
   refine R_mv t10 ?_
   refine R_addN (m := k) (n := 1) (@rfl V (iV ((k : Nat) : Int))) (@rfl V (iV ((1 : Nat) : Int))) (by omega) ?_
   refine R_mv (@rfl V (iV ((k + 1 : Nat) : Int))) ?_
   exact R_nil ⟨t2, t3, t4, t5, rfl, h4, h5, trivial⟩
  intro T H ⟨t2, t3, t4, t5, t10, h4, h5, _⟩
  refine p12 _ _ _ ?_ ⟨(k + 1), rfl, t2, t3, t4, t5, (Eq.trans t10 (by first | rfl | simp)), h4, h5, ?_, ?_⟩
  · omega
  · omega
  · rw [hc, shw_eq (by omega), if_neg (by simp [d1]), if_neg d2]
 refine W_seq_exit ?_
 refine p32 _ _ _ ?_
 refine x1 _ _ ?_
 refine .done ?_
 refine W_seq_regc (fun T H => T 8 = V.nilsl ∧ T 9 = (V.bool false) ∧ H 4 = (⟨1, true, false, 34, 2, [[(iV (o.i)), (V.sl (List.map cT (o.tr)))]]⟩ : Blk) ∧ H 5 = (⟨1, true, false, 63, 2, [[(V.sl (List.map cI (t.ni))), (V.sl (List.map cI (t.no)))]]⟩ : Blk) ∧ True) ?_ ?_
 ·
  unfold r71_10
  refine R_mv (@rfl V V.nilsl) ?_
  refine R_mv (@rfl V (V.bool false)) ?_
  exact R_nil ⟨rfl, rfl, h4, h5, trivial⟩
 intro T H ⟨t8, t9, h4, h5, _⟩
 refine W_ret ?_
 refine Ret_2 t8 t9 (fz_nil ?_) (fz_bool ?_)
 · rw [hc, shw_end (by omega)]; rfl
 · rw [hc, shw_end (by omega)]; rfl

end Go.Proofs.Ytngkckefanbhgaa

namespace Go.Proofs.Ytngkckefanbhgaa
open Go Go.Proofs

theorem rapartw_pure (o : Ob) (u v : List Int) (ho : oval o = 0) (hu : u.length ≤ 1048576) (hv : v.length ≤ 1048576) : PureC Try.prog 28 [(V.agg [(iV (o.i)), (V.sl (List.map cT (o.tr)))]), (V.sl (List.map cI (u))), (V.sl (List.map cI (v)))] (V.tup [(V.sl (List.map cI (least (apx o u v o.tr)))), (V.bool (apB o u v))]) := by
 refine pure_of_Wb true 6 Try.func28 s28_ok (by kernel_rfl) (by simp [s28]) (by simp) (by simp) fun hB => ?_
 simp only [bnd_map, bnd_int, bnd_bool, bnd_str, bnd_agg, bnd_pp, bnd_nil, bnd_cons, implies_true, and_true, true_and] at hB
 unfold s28
 dsimp only
 have u2 := oval_ok ho
 refine W_seq_regc (fun T H => T 1 = (V.sl (List.map cI (u))) ∧ T 2 = (V.sl (List.map cI (v))) ∧ T 3 = (V.mp 3 1 0 0) ∧ H 3 = (⟨1, true, false, 34, 2, [[(iV (o.i)), (V.sl (List.map cT (o.tr)))]]⟩ : Blk) ∧ True) ?_ ?_
 ·
  unfold r28_0
  refine R_box (i := 3) (n := 0) (m := 2) (cs := [(iV (o.i)), (V.sl (List.map cT (o.tr)))]) rfl (congrArg Blk.ver rfl) (@rfl V (V.agg [(iV (o.i)), (V.sl (List.map cT (o.tr)))])) rfl rfl ?_
  refine R_mv (@rfl V V.nilsl) ?_
  refine R_mv (@rfl V (V.bool false)) ?_
  exact R_nil ⟨rfl, rfl, rfl, rfl, trivial⟩
 intro T H ⟨t1, t2, t3, h3, _⟩
 refine W_seq_regc (fun T H => T 1 = (V.sl (List.map cI (u))) ∧ T 2 = (V.sl (List.map cI (v))) ∧ T 3 = (V.mp 3 1 0 0) ∧ T 8 = V.nilsl ∧ H 3 = (⟨1, true, false, 34, 2, [[(iV (o.i)), (V.sl (List.map cT (o.tr)))]]⟩ : Blk) ∧ True) ?_ ?_
 ·
  unfold r28_1
  refine R_mv (@rfl V V.nilsl) ?_
  exact R_nil ⟨t1, t2, t3, rfl, h3, trivial⟩
 intro T H ⟨t1, t2, t3, t8, h3, _⟩
 refine W_seq_regc (fun T H => T 1 = (V.sl (List.map cI (u))) ∧ T 2 = (V.sl (List.map cI (v))) ∧ T 3 = (V.mp 3 1 0 0) ∧ T 8 = V.nilsl ∧ T 9 = (V.bool false) ∧ H 3 = (⟨1, true, false, 34, 2, [[(iV (o.i)), (V.sl (List.map cT (o.tr)))]]⟩ : Blk) ∧ True) ?_ ?_
 ·
  unfold r28_2
  refine R_mv (@rfl V (V.bool false)) ?_
  exact R_nil ⟨t1, t2, t3, t8, rfl, h3, trivial⟩
 intro T H ⟨t1, t2, t3, t8, t9, h3, _⟩
 refine W_seq_seq ?_
 refine W_seq_g (fun T H => T 1 = (V.sl (List.map cI (u))) ∧ T 2 = (V.sl (List.map cI (v))) ∧ T 3 = (V.mp 3 1 0 0) ∧ T 8 = V.nilsl ∧ T 9 = (V.bool false) ∧ T 10 = (iV (0 : Int)) ∧ H 3 = (⟨1, true, false, 34, 2, [[(iV (o.i)), (V.sl (List.map cT (o.tr)))]]⟩ : Blk) ∧ True) ?_ ?_
 ·
  unfold r28_3
  refine R_mv (@rfl V (iV (0 : Int))) ?_
  exact R_nil ⟨t1, t2, t3, t8, t9, rfl, h3, trivial⟩
 intro T H ⟨t1, t2, t3, t8, t9, t10, h3, _⟩
 refine G_nil t8 ?_
 refine fork_ (R := fun T H => T 1 = (V.sl (List.map cI (u))) ∧ T 2 = (V.sl (List.map cI (v))) ∧ T 3 = (V.mp 3 1 0 0) ∧ T 8 = (V.sl []) ∧ T 9 = (V.bool false) ∧ T 10 = (iV (0 : Int)) ∧ H 3 = (⟨1, true, false, 34, 2, [[(iV (o.i)), (V.sl (List.map cT (o.tr)))]]⟩ : Blk) ∧ True) ⟨((upd_ne _ _ (by decide)).trans t1), ((upd_ne _ _ (by decide)).trans t2), ((upd_ne _ _ (by decide)).trans t3), (upd_same _ _ _), ((upd_ne _ _ (by decide)).trans t9), ((upd_ne _ _ (by decide)).trans t10), h3, trivial⟩ ?_
 clear t1 t2 t3 t8 t9 t10 h3 T H
 intro T H ⟨t1, t2, t3, t8, t9, t10, h3, _⟩
 refine W_seq_blockg fun Q1 n1 x1 y1 z1 => ?_
 refine W_loop (fun mm T H => ∃ (k : Nat), mm = o.tr.length - k ∧ T 1 = (V.sl (List.map cI (u))) ∧ T 2 = (V.sl (List.map cI (v))) ∧ T 3 = (V.mp 3 1 0 0) ∧ T 8 = (V.sl (List.map cI (least (apx o u v (o.tr.take k))))) ∧ T 9 = (V.bool (decide (apx o u v (o.tr.take k) ≠ []))) ∧ T 10 = (iV ((k : Nat) : Int)) ∧ H 3 = (⟨1, true, false, 34, 2, [[(iV (o.i)), (V.sl (List.map cT (o.tr)))]]⟩ : Blk) ∧ (k ≤ o.tr.length)) ?_ ?_
 ·
  refine ⟨_, 0, rfl, t1, t2, t3, (Eq.trans t8 (by first | rfl | (simp [apx]; done) | (rw [d5.1]; done) | (simp [d5.2]; done) | (simp only [d5.2]; done) | (rw [g1]; done))), (Eq.trans t9 (by first | rfl | (simp [apx]; done) | (rw [d5.1]; done) | (simp [d5.2]; done) | (simp only [d5.2]; done) | (rw [g1]; done))), (Eq.trans t10 (by first | rfl | (simp [apx]; done) | (rw [d5.1]; done) | (simp [d5.2]; done) | (simp only [d5.2]; done) | (rw [g1]; done))), h3, ?_⟩
  · omega
 intro mm T H ⟨k, hmm, t1, t2, t3, t8, t9, t10, h3, hk⟩ Q2 p12 p22 p32
 unfold b28_0
 refine W_seq_seq ?_
 refine W_seq_regc (fun T H => T 1 = (V.sl (List.map cI (u))) ∧ T 2 = (V.sl (List.map cI (v))) ∧ T 3 = (V.mp 3 1 0 0) ∧ T 8 = (V.sl (List.map cI (least (apx o u v (o.tr.take k))))) ∧ T 9 = (V.bool (decide (apx o u v (o.tr.take k) ≠ []))) ∧ T 10 = (iV ((k : Nat) : Int)) ∧ T 17 = (V.bool (decide (((k : Nat) : Int) < ((o.tr.length : Nat) : Int)))) ∧ H 3 = (⟨1, true, false, 34, 2, [[(iV (o.i)), (V.sl (List.map cT (o.tr)))]]⟩ : Blk) ∧ True) ?_ ?_
 ·
  unfold r28_4
  refine R_mv t10 ?_
  refine R_fld_mp (o' := 1) t3 h3 (by first | rfl | simp [okB, Blk.own]) rfl ?_
  refine R_load_mp (v := (V.sl (List.map cT (o.tr)))) (@rfl V (V.mp 3 1 0 1)) h3 (by first | rfl | simp [ldB, ldV, Blk.own, V.one]) ?_
  refine R_len (@rfl V (V.sl (List.map cT (o.tr)))) ?_
  refine R_lss (x := ((k : Nat) : Int)) (y := ((o.tr.length : Nat) : Int)) (@rfl V (iV ((k : Nat) : Int))) (@rfl V (iV ((o.tr.length : Nat) : Int))) ?_
  exact R_nil ⟨t1, t2, t3, t8, t9, t10, rfl, h3, trivial⟩
 intro T H ⟨t1, t2, t3, t8, t9, t10, t17, h3, _⟩
 refine W_seq_if (p := ((k : Nat) : Int) < ((o.tr.length : Nat) : Int)) t17 (fun c3 => ?_) (fun c3 => ?_)
 ·
  have g1 := apx_take (o := o) (u := u) (v := v) (l := o.tr) (k := k) (by omega)
  have u3 := (u2.pr k (by omega)).1
  refine W_seq_skip ?_
  refine W_seq_blockg fun Q4 n4 x4 y4 z4 => ?_
  refine W_seq_seq ?_
  refine W_seq_regc (fun T H => T 1 = (V.sl (List.map cI (u))) ∧ T 2 = (V.sl (List.map cI (v))) ∧ T 3 = (V.mp 3 1 0 0) ∧ T 8 = (V.sl (List.map cI (least (apx o u v (o.tr.take k))))) ∧ T 9 = (V.bool (decide (apx o u v (o.tr.take k) ≠ []))) ∧ T 10 = (iV ((k : Nat) : Int)) ∧ T 28 = (V.bool ((!hp ((nth (o.tr) (k)).ni) u))) ∧ H 3 = (⟨1, true, false, 34, 2, [[(iV (o.i)), (V.sl (List.map cT (o.tr)))]]⟩ : Blk) ∧ True) ?_ ?_
  ·
   unfold r28_6
   refine R_fld_mp (o' := 1) t3 h3 (by first | rfl | simp [okB, Blk.own]) rfl ?_
   refine R_load_mp (v := (V.sl (List.map cT (o.tr)))) (@rfl V (V.mp 3 1 0 1)) h3 (by first | rfl | simp [ldB, ldV, Blk.own, V.one]) ?_
   refine R_mv t10 ?_
   refine R_idx (i := k) (@rfl V (V.sl (List.map cT (o.tr)))) (@rfl V (iV ((k : Nat) : Int))) (by omega) rfl ?_
   refine R_fld_pp (cs' := [(V.sl (List.map cI ((nth (o.tr) (k)).ni))), (V.sl (List.map cI ((nth (o.tr) (k)).no)))]) (@rfl V (V.pp [(V.sl (List.map cI ((nth (o.tr) (k)).ni))), (V.sl (List.map cI ((nth (o.tr) (k)).no)))])) rfl ?_
   refine R_load_pp (v := (V.sl (List.map cI ((nth (o.tr) (k)).ni)))) (@rfl V (V.pp [(V.sl (List.map cI ((nth (o.tr) (k)).ni))), (V.sl (List.map cI ((nth (o.tr) (k)).no)))])) (by first | rfl | simp [ldV]) ?_
   refine R_mv t1 ?_
   refine R_call (evcons (@rfl V (V.sl (List.map cI ((nth (o.tr) (k)).ni)))) (evcons (@rfl V (V.sl (List.map cI (u)))) evnil)) (rhp_pure ((nth (o.tr) (k)).ni) u) (fzv_mapcanon _ _ (by simp [-List.map_take, -List.map_drop, -List.map_append, -List.map_reverse])) (by simp [-List.map_take, -List.map_drop, -List.map_append, -List.map_reverse]) (Or.inl (by simp [-List.map_take, -List.map_drop, -List.map_append, -List.map_reverse])) ?_
   refine R_notb (@rfl V (V.bool (hp ((nth (o.tr) (k)).ni) u))) ?_
   exact R_nil ⟨t1, t2, t3, t8, t9, t10, rfl, h3, trivial⟩
  intro T H ⟨t1, t2, t3, t8, t9, t10, t28, h3, _⟩
  refine W_seq_ifb t28 (fun c5 => ?_) (fun c5 => ?_)
  ·
   rw [ap1, if_neg (by simpa using c5), List.append_nil] at g1
   refine W_seq_exit ?_
   refine x4 _ _ ?_
   refine .done ?_
   refine W_regc (fun T H => T 1 = (V.sl (List.map cI (u))) ∧ T 2 = (V.sl (List.map cI (v))) ∧ T 3 = (V.mp 3 1 0 0) ∧ T 8 = (V.sl (List.map cI (least (apx o u v (o.tr.take k))))) ∧ T 9 = (V.bool (decide (apx o u v (o.tr.take k) ≠ []))) ∧ T 10 = (iV ((k + 1 : Nat) : Int)) ∧ H 3 = (⟨1, true, false, 34, 2, [[(iV (o.i)), (V.sl (List.map cT (o.tr)))]]⟩ : Blk) ∧ True) ?_ ?_
   ·
    unfold r28_5
    refine R_mv t10 ?_
    refine R_addN (m := k) (n := 1) (@rfl V (iV ((k : Nat) : Int))) (@rfl V (iV ((1 : Nat) : Int))) (by omega) ?_
    refine R_mv (@rfl V (iV ((k + 1 : Nat) : Int))) ?_
    exact R_nil ⟨t1, t2, t3, t8, t9, rfl, h3, trivial⟩
   intro T H ⟨t1, t2, t3, t8, t9, t10, h3, _⟩
   refine p12 _ _ _ ?_ ⟨(k + 1), rfl, t1, t2, t3, (Eq.trans t8 (by first | rfl | (simp [apx]; done) | (rw [d5.1]; done) | (simp [d5.2]; done) | (simp only [d5.2]; done) | (rw [g1]; done))), (Eq.trans t9 (by first | rfl | (simp [apx]; done) | (rw [d5.1]; done) | (simp [d5.2]; done) | (simp only [d5.2]; done) | (rw [g1]; done))), (Eq.trans t10 (by first | rfl | (simp [apx]; done) | (rw [d5.1]; done) | (simp [d5.2]; done) | (simp only [d5.2]; done) | (rw [g1]; done))), h3, ?_⟩
   · omega
   · omega
  rw [ap1, if_pos (by simpa using c5)] at g1
  refine W_seq_skip ?_
  refine W_seq_regc (fun T H => T 1 = (V.sl (List.map cI (u))) ∧ T 2 = (V.sl (List.map cI (v))) ∧ T 3 = (V.mp 3 1 0 0) ∧ T 8 = (V.sl (List.map cI (least (apx o u v (o.tr.take k))))) ∧ T 9 = (V.bool (decide (apx o u v (o.tr.take k) ≠ []))) ∧ T 10 = (iV ((k : Nat) : Int)) ∧ T 11 = (V.sl (List.map cI ((shw o ((nth (o.tr) (k))) u.length v u.length (((nth (o.tr) (k))).ni.length - u.length)).getD []))) ∧ T 12 = (V.bool ((shw o ((nth (o.tr) (k))) u.length v u.length (((nth (o.tr) (k))).ni.length - u.length)).isSome)) ∧ H 3 = (⟨1, true, false, 34, 2, [[(iV (o.i)), (V.sl (List.map cT (o.tr)))]]⟩ : Blk) ∧ True) ?_ ?_
  ·
   unfold r28_7
   refine R_load_mp (v := (V.agg [(iV (o.i)), (V.sl (List.map cT (o.tr)))])) t3 h3 (by first | rfl | simp [ldB, ldV, Blk.own, V.one]) ?_
   refine R_fld_mp (o' := 1) t3 h3 (by first | rfl | simp [okB, Blk.own]) rfl ?_
   refine R_load_mp (v := (V.sl (List.map cT (o.tr)))) (@rfl V (V.mp 3 1 0 1)) h3 (by first | rfl | simp [ldB, ldV, Blk.own, V.one]) ?_
   refine R_mv t10 ?_
   refine R_idx (i := k) (@rfl V (V.sl (List.map cT (o.tr)))) (@rfl V (iV ((k : Nat) : Int))) (by omega) rfl ?_
   refine R_load_pp (v := (V.agg [(V.sl (List.map cI ((nth (o.tr) (k)).ni))), (V.sl (List.map cI ((nth (o.tr) (k)).no)))])) (@rfl V (V.pp [(V.sl (List.map cI ((nth (o.tr) (k)).ni))), (V.sl (List.map cI ((nth (o.tr) (k)).no)))])) (by first | rfl | simp [ldV]) ?_
   refine R_mv t1 ?_
   refine R_len (@rfl V (V.sl (List.map cI (u)))) ?_
   refine R_mv t2 ?_
   refine R_call (evcons (@rfl V (V.agg [(iV (o.i)), (V.sl (List.map cT (o.tr)))])) (evcons (@rfl V (V.agg [(V.sl (List.map cI ((nth (o.tr) (k)).ni))), (V.sl (List.map cI ((nth (o.tr) (k)).no)))])) (evcons (@rfl V (iV ((u.length : Nat) : Int))) (evcons (@rfl V (V.sl (List.map cI (v)))) evnil)))) (shown_pure o ((nth (o.tr) (k))) u.length v ho u3 hv) (fzv_mapcanon _ _ (by simp [-List.map_take, -List.map_drop, -List.map_append, -List.map_reverse])) (by simp [-List.map_take, -List.map_drop, -List.map_append, -List.map_reverse]) (Or.inl (by simp [-List.map_take, -List.map_drop, -List.map_append, -List.map_reverse])) ?_
   refine R_mv (@rfl V (V.tup [(V.sl (List.map cI ((shw o ((nth (o.tr) (k))) u.length v u.length (((nth (o.tr) (k))).ni.length - u.length)).getD []))), (V.bool ((shw o ((nth (o.tr) (k))) u.length v u.length (((nth (o.tr) (k))).ni.length - u.length)).isSome))])) ?_
   refine R_ext (v := (V.sl (List.map cI ((shw o ((nth (o.tr) (k))) u.length v u.length (((nth (o.tr) (k))).ni.length - u.length)).getD [])))) (@rfl V (V.tup [(V.sl (List.map cI ((shw o ((nth (o.tr) (k))) u.length v u.length (((nth (o.tr) (k))).ni.length - u.length)).getD []))), (V.bool ((shw o ((nth (o.tr) (k))) u.length v u.length (((nth (o.tr) (k))).ni.length - u.length)).isSome))])) rfl ?_
   refine R_ext (v := (V.bool ((shw o ((nth (o.tr) (k))) u.length v u.length (((nth (o.tr) (k))).ni.length - u.length)).isSome))) (@rfl V (V.tup [(V.sl (List.map cI ((shw o ((nth (o.tr) (k))) u.length v u.length (((nth (o.tr) (k))).ni.length - u.length)).getD []))), (V.bool ((shw o ((nth (o.tr) (k))) u.length v u.length (((nth (o.tr) (k))).ni.length - u.length)).isSome))])) rfl ?_
   refine R_mv (@rfl V (V.sl (List.map cI ((shw o ((nth (o.tr) (k))) u.length v u.length (((nth (o.tr) (k))).ni.length - u.length)).getD [])))) ?_
   refine R_mv (@rfl V (V.bool ((shw o ((nth (o.tr) (k))) u.length v u.length (((nth (o.tr) (k))).ni.length - u.length)).isSome))) ?_
   exact R_nil ⟨t1, t2, t3, t8, t9, t10, rfl, rfl, h3, trivial⟩
  intro T H ⟨t1, t2, t3, t8, t9, t10, t11, t12, h3, _⟩
  refine W_seq_regc (fun T H => T 1 = (V.sl (List.map cI (u))) ∧ T 2 = (V.sl (List.map cI (v))) ∧ T 3 = (V.mp 3 1 0 0) ∧ T 8 = (V.sl (List.map cI (least (apx o u v (o.tr.take k))))) ∧ T 9 = (V.bool (decide (apx o u v (o.tr.take k) ≠ []))) ∧ T 10 = (iV ((k : Nat) : Int)) ∧ T 11 = (V.sl (List.map cI ((shw o ((nth (o.tr) (k))) u.length v u.length (((nth (o.tr) (k))).ni.length - u.length)).getD []))) ∧ T 52 = (V.bool ((((shw o ((nth (o.tr) (k))) u.length v u.length (((nth (o.tr) (k))).ni.length - u.length)).isSome) && decide ((¬(apx o u v (o.tr.take k) ≠ [])) ∨ ((slx ((shw o ((nth (o.tr) (k))) u.length v u.length (((nth (o.tr) (k))).ni.length - u.length)).getD []) (least (apx o u v (o.tr.take k)))) < (0 : Int)))))) ∧ H 3 = (⟨1, true, false, 34, 2, [[(iV (o.i)), (V.sl (List.map cT (o.tr)))]]⟩ : Blk) ∧ True) ?_ ?_
  ·
   unfold r28_8
   refine R_mv t12 ?_
   refine R_mv (@rfl V (V.bool ((shw o ((nth (o.tr) (k))) u.length v u.length (((nth (o.tr) (k))).ni.length - u.length)).isSome))) ?_
   refine Ops_seg 9 (fun T H => T 1 = (V.sl (List.map cI (u))) ∧ T 2 = (V.sl (List.map cI (v))) ∧ T 3 = (V.mp 3 1 0 0) ∧ T 8 = (V.sl (List.map cI (least (apx o u v (o.tr.take k))))) ∧ T 9 = (V.bool (decide (apx o u v (o.tr.take k) ≠ []))) ∧ T 10 = (iV ((k : Nat) : Int)) ∧ T 11 = (V.sl (List.map cI ((shw o ((nth (o.tr) (k))) u.length v u.length (((nth (o.tr) (k))).ni.length - u.length)).getD []))) ∧ T 52 = (V.bool ((((shw o ((nth (o.tr) (k))) u.length v u.length (((nth (o.tr) (k))).ni.length - u.length)).isSome) && decide ((¬(apx o u v (o.tr.take k) ≠ [])) ∨ ((slx ((shw o ((nth (o.tr) (k))) u.length v u.length (((nth (o.tr) (k))).ni.length - u.length)).getD []) (least (apx o u v (o.tr.take k)))) < (0 : Int)))))) ∧ H 3 = (⟨1, true, false, 34, 2, [[(iV (o.i)), (V.sl (List.map cT (o.tr)))]]⟩ : Blk) ∧ True) ?_ ?_
   ·
    by_cases g6 : ((shw o ((nth (o.tr) (k))) u.length v u.length (((nth (o.tr) (k))).ni.length - u.length)).isSome) = true
    ·
     refine G_yes (Eq.trans (@rfl V (V.bool ((shw o ((nth (o.tr) (k))) u.length v u.length (((nth (o.tr) (k))).ni.length - u.length)).isSome))) (bbT g6)) ?_
     refine R_mv t9 ?_
     refine G_yes (Eq.trans (@rfl V (V.bool ((shw o ((nth (o.tr) (k))) u.length v u.length (((nth (o.tr) (k))).ni.length - u.length)).isSome))) (bbT g6)) ?_
     refine R_not (p := apx o u v (o.tr.take k) ≠ []) (@rfl V (V.bool (decide (apx o u v (o.tr.take k) ≠ [])))) ?_
     refine G_yes (Eq.trans (@rfl V (V.bool ((shw o ((nth (o.tr) (k))) u.length v u.length (((nth (o.tr) (k))).ni.length - u.length)).isSome))) (bbT g6)) ?_
     refine R_mv (@rfl V (V.bool (decide (¬(apx o u v (o.tr.take k) ≠ []))))) ?_
     refine Ops_seg 5 (fun T H => T 1 = (V.sl (List.map cI (u))) ∧ T 2 = (V.sl (List.map cI (v))) ∧ T 3 = (V.mp 3 1 0 0) ∧ T 8 = (V.sl (List.map cI (least (apx o u v (o.tr.take k))))) ∧ T 9 = (V.bool (decide (apx o u v (o.tr.take k) ≠ []))) ∧ T 10 = (iV ((k : Nat) : Int)) ∧ T 11 = (V.sl (List.map cI ((shw o ((nth (o.tr) (k))) u.length v u.length (((nth (o.tr) (k))).ni.length - u.length)).getD []))) ∧ T 43 = (V.bool true) ∧ T 44 = (V.bool (decide (apx o u v (o.tr.take k) ≠ []))) ∧ T 45 = (V.bool (decide (¬(apx o u v (o.tr.take k) ≠ [])))) ∧ T 46 = (V.bool (decide (¬(apx o u v (o.tr.take k) ≠ [])))) ∧ T 51 = (V.bool (decide ((¬(apx o u v (o.tr.take k) ≠ [])) ∨ ((slx ((shw o ((nth (o.tr) (k))) u.length v u.length (((nth (o.tr) (k))).ni.length - u.length)).getD []) (least (apx o u v (o.tr.take k)))) < (0 : Int))))) ∧ H 3 = (⟨1, true, false, 34, 2, [[(iV (o.i)), (V.sl (List.map cT (o.tr)))]]⟩ : Blk) ∧ True) ?_ ?_
     ·
      by_cases g7 : ¬(apx o u v (o.tr.take k) ≠ [])
      ·
       refine G_no (Eq.trans (@rfl V (V.bool (decide (¬(apx o u v (o.tr.take k) ≠ []))))) (bdT g7)) (by decide) ?_
       refine G_no (Eq.trans (@rfl V (V.bool (decide (¬(apx o u v (o.tr.take k) ≠ []))))) (bdT g7)) (by decide) ?_
       refine G_no (Eq.trans (@rfl V (V.bool (decide (¬(apx o u v (o.tr.take k) ≠ []))))) (bdT g7)) (by decide) ?_
       refine G_no (Eq.trans (@rfl V (V.bool (decide (¬(apx o u v (o.tr.take k) ≠ []))))) (bdT g7)) (by decide) ?_
       refine G_yes (Eq.trans (@rfl V (V.bool ((shw o ((nth (o.tr) (k))) u.length v u.length (((nth (o.tr) (k))).ni.length - u.length)).isSome))) (bbT g6)) ?_
       refine R_pickT (Eq.trans (@rfl V (V.bool (decide (¬(apx o u v (o.tr.take k) ≠ []))))) (bdT g7)) (@rfl V (V.bool true)) ?_
       exact ⟨t1, t2, t3, t8, t9, t10, t11, (Eq.trans (@rfl V (V.bool ((shw o ((nth (o.tr) (k))) u.length v u.length (((nth (o.tr) (k))).ni.length - u.length)).isSome))) (bbT g6)), rfl, rfl, (@rfl V (V.bool (decide (¬(apx o u v (o.tr.take k) ≠ []))))), (Eq.trans (@rfl V (V.bool true)) (dec_orT g7)), h3, trivial⟩
      ·
       refine G_yes (Eq.trans (@rfl V (V.bool (decide (¬(apx o u v (o.tr.take k) ≠ []))))) (bdF g7)) ?_
       refine R_mv t11 ?_
       refine G_yes (Eq.trans (@rfl V (V.bool (decide (¬(apx o u v (o.tr.take k) ≠ []))))) (bdF g7)) ?_
       refine R_mv t8 ?_
       refine G_yes (Eq.trans (@rfl V (V.bool (decide (¬(apx o u v (o.tr.take k) ≠ []))))) (bdF g7)) ?_
       refine R_call (evcons (@rfl V (V.sl (List.map cI ((shw o ((nth (o.tr) (k))) u.length v u.length (((nth (o.tr) (k))).ni.length - u.length)).getD [])))) (evcons (@rfl V (V.sl (List.map cI (least (apx o u v (o.tr.take k)))))) evnil)) (rcompare_pure ((shw o ((nth (o.tr) (k))) u.length v u.length (((nth (o.tr) (k))).ni.length - u.length)).getD []) (least (apx o u v (o.tr.take k)))) (fzv_mapcanon _ _ (by simp [-List.map_take, -List.map_drop, -List.map_append, -List.map_reverse])) (by simp [-List.map_take, -List.map_drop, -List.map_append, -List.map_reverse]) (Or.inl (by simp [-List.map_take, -List.map_drop, -List.map_append, -List.map_reverse])) ?_
       refine G_yes (Eq.trans (@rfl V (V.bool (decide (¬(apx o u v (o.tr.take k) ≠ []))))) (bdF g7)) ?_
       refine R_lss (x := (slx ((shw o ((nth (o.tr) (k))) u.length v u.length (((nth (o.tr) (k))).ni.length - u.length)).getD []) (least (apx o u v (o.tr.take k))))) (y := (0 : Int)) (@rfl V (iV (slx ((shw o ((nth (o.tr) (k))) u.length v u.length (((nth (o.tr) (k))).ni.length - u.length)).getD []) (least (apx o u v (o.tr.take k)))))) (@rfl V (iV (0 : Int))) ?_
       refine G_yes (Eq.trans (@rfl V (V.bool ((shw o ((nth (o.tr) (k))) u.length v u.length (((nth (o.tr) (k))).ni.length - u.length)).isSome))) (bbT g6)) ?_
       refine R_pickF (Eq.trans (@rfl V (V.bool (decide (¬(apx o u v (o.tr.take k) ≠ []))))) (bdF g7)) (@rfl V (V.bool (decide ((slx ((shw o ((nth (o.tr) (k))) u.length v u.length (((nth (o.tr) (k))).ni.length - u.length)).getD []) (least (apx o u v (o.tr.take k)))) < (0 : Int))))) ?_
       exact ⟨t1, t2, t3, t8, t9, t10, t11, (Eq.trans (@rfl V (V.bool ((shw o ((nth (o.tr) (k))) u.length v u.length (((nth (o.tr) (k))).ni.length - u.length)).isSome))) (bbT g6)), rfl, rfl, (@rfl V (V.bool (decide (¬(apx o u v (o.tr.take k) ≠ []))))), (Eq.trans (@rfl V (V.bool (decide ((slx ((shw o ((nth (o.tr) (k))) u.length v u.length (((nth (o.tr) (k))).ni.length - u.length)).getD []) (least (apx o u v (o.tr.take k)))) < (0 : Int))))) (dec_orF g7)), h3, trivial⟩
     intro T H ⟨t1, t2, t3, t8, t9, t10, t11, t43, t44, t45, t46, t51, h3, _⟩
     refine R_pickT t43 t51 ?_
     exact ⟨t1, t2, t3, t8, t9, t10, t11, (Eq.trans (@rfl V (V.bool (decide ((¬(apx o u v (o.tr.take k) ≠ [])) ∨ ((slx ((shw o ((nth (o.tr) (k))) u.length v u.length (((nth (o.tr) (k))).ni.length - u.length)).getD []) (least (apx o u v (o.tr.take k)))) < (0 : Int)))))) (bandT g6)), h3, trivial⟩
    ·
     refine G_no (Eq.trans (@rfl V (V.bool ((shw o ((nth (o.tr) (k))) u.length v u.length (((nth (o.tr) (k))).ni.length - u.length)).isSome))) (bbF g6)) (by decide) ?_
     refine G_no (Eq.trans (@rfl V (V.bool ((shw o ((nth (o.tr) (k))) u.length v u.length (((nth (o.tr) (k))).ni.length - u.length)).isSome))) (bbF g6)) (by decide) ?_
     refine G_no (Eq.trans (@rfl V (V.bool ((shw o ((nth (o.tr) (k))) u.length v u.length (((nth (o.tr) (k))).ni.length - u.length)).isSome))) (bbF g6)) (by decide) ?_
     refine G_raw (@rfl V (V.raw undef)) ?_
     refine G_raw (@rfl V (V.raw undef)) ?_
     refine G_raw (@rfl V (V.raw undef)) ?_
     refine G_raw (@rfl V (V.raw undef)) ?_
     refine G_no (Eq.trans (@rfl V (V.bool ((shw o ((nth (o.tr) (k))) u.length v u.length (((nth (o.tr) (k))).ni.length - u.length)).isSome))) (bbF g6)) (by decide) ?_
     refine R_pickF (Eq.trans (@rfl V (V.bool ((shw o ((nth (o.tr) (k))) u.length v u.length (((nth (o.tr) (k))).ni.length - u.length)).isSome))) (bbF g6)) (@rfl V (V.bool false)) ?_
     exact ⟨t1, t2, t3, t8, t9, t10, t11, (Eq.trans (@rfl V (V.bool false)) (bandF g6)), h3, trivial⟩
   intro T H ⟨t1, t2, t3, t8, t9, t10, t11, t52, h3, _⟩
   exact R_nil ⟨t1, t2, t3, t8, t9, t10, t11, t52, h3, trivial⟩
  intro T H ⟨t1, t2, t3, t8, t9, t10, t11, t52, h3, _⟩
  refine W_ifb t52 (fun c8 => ?_) (fun c8 => ?_)
  ·
   have d5 := opt_yesB g1 c8
   refine W_seq_regc (fun T H => T 1 = (V.sl (List.map cI (u))) ∧ T 2 = (V.sl (List.map cI (v))) ∧ T 3 = (V.mp 3 1 0 0) ∧ T 8 = (V.sl (List.map cI ((shw o ((nth (o.tr) (k))) u.length v u.length (((nth (o.tr) (k))).ni.length - u.length)).getD []))) ∧ T 10 = (iV ((k : Nat) : Int)) ∧ H 3 = (⟨1, true, false, 34, 2, [[(iV (o.i)), (V.sl (List.map cT (o.tr)))]]⟩ : Blk) ∧ True) ?_ ?_
   ·
    unfold r28_9
    refine R_mv t11 ?_
    refine R_mv (@rfl V (V.sl (List.map cI ((shw o ((nth (o.tr) (k))) u.length v u.length (((nth (o.tr) (k))).ni.length - u.length)).getD [])))) ?_
    exact R_nil ⟨t1, t2, t3, rfl, t10, h3, trivial⟩
   intro T H ⟨t1, t2, t3, t8, t10, h3, _⟩
   refine W_regc (fun T H => T 1 = (V.sl (List.map cI (u))) ∧ T 2 = (V.sl (List.map cI (v))) ∧ T 3 = (V.mp 3 1 0 0) ∧ T 8 = (V.sl (List.map cI ((shw o ((nth (o.tr) (k))) u.length v u.length (((nth (o.tr) (k))).ni.length - u.length)).getD []))) ∧ T 9 = (V.bool true) ∧ T 10 = (iV ((k : Nat) : Int)) ∧ H 3 = (⟨1, true, false, 34, 2, [[(iV (o.i)), (V.sl (List.map cT (o.tr)))]]⟩ : Blk) ∧ True) ?_ ?_
   ·
    unfold r28_10
    refine R_mv (@rfl V (V.bool true)) ?_
    exact R_nil ⟨t1, t2, t3, t8, rfl, t10, h3, trivial⟩
   intro T H ⟨t1, t2, t3, t8, t9, t10, h3, _⟩
   refine n4 _ _ ?_
   refine .done ?_
   refine W_regc (fun T H => T 1 = (V.sl (List.map cI (u))) ∧ T 2 = (V.sl (List.map cI (v))) ∧ T 3 = (V.mp 3 1 0 0) ∧ T 8 = (V.sl (List.map cI ((shw o ((nth (o.tr) (k))) u.length v u.length (((nth (o.tr) (k))).ni.length - u.length)).getD []))) ∧ T 9 = (V.bool true) ∧ T 10 = (iV ((k + 1 : Nat) : Int)) ∧ H 3 = (⟨1, true, false, 34, 2, [[(iV (o.i)), (V.sl (List.map cT (o.tr)))]]⟩ : Blk) ∧ True) ?_ ?_
   ·
    unfold r28_5
    refine R_mv t10 ?_
    refine R_addN (m := k) (n := 1) (@rfl V (iV ((k : Nat) : Int))) (@rfl V (iV ((1 : Nat) : Int))) (by omega) ?_
    refine R_mv (@rfl V (iV ((k + 1 : Nat) : Int))) ?_
    exact R_nil ⟨t1, t2, t3, t8, t9, rfl, h3, trivial⟩
   intro T H ⟨t1, t2, t3, t8, t9, t10, h3, _⟩
   refine p12 _ _ _ ?_ ⟨(k + 1), rfl, t1, t2, t3, (Eq.trans t8 (by first | rfl | (simp [apx]; done) | (rw [d5.1]; done) | (simp [d5.2]; done) | (simp only [d5.2]; done) | (rw [g1]; done))), (Eq.trans t9 (by first | rfl | (simp [apx]; done) | (rw [d5.1]; done) | (simp [d5.2]; done) | (simp only [d5.2]; done) | (rw [g1]; done))), (Eq.trans t10 (by first | rfl | (simp [apx]; done) | (rw [d5.1]; done) | (simp [d5.2]; done) | (simp only [d5.2]; done) | (rw [g1]; done))), h3, ?_⟩
   · omega
   · omega
  have d5 := opt_noB g1 c8
  refine W_skip ?_
  refine n4 _ _ ?_
  refine .done ?_
  refine W_regc (fun T H => T 1 = (V.sl (List.map cI (u))) ∧ T 2 = (V.sl (List.map cI (v))) ∧ T 3 = (V.mp 3 1 0 0) ∧ T 8 = (V.sl (List.map cI (least (apx o u v (o.tr.take k))))) ∧ T 9 = (V.bool (decide (apx o u v (o.tr.take k) ≠ []))) ∧ T 10 = (iV ((k + 1 : Nat) : Int)) ∧ H 3 = (⟨1, true, false, 34, 2, [[(iV (o.i)), (V.sl (List.map cT (o.tr)))]]⟩ : Blk) ∧ True) ?_ ?_
  ·
   unfold r28_5
   refine R_mv t10 ?_
   refine R_addN (m := k) (n := 1) (@rfl V (iV ((k : Nat) : Int))) (@rfl V (iV ((1 : Nat) : Int))) (by omega) ?_
   refine R_mv (@rfl V (iV ((k + 1 : Nat) : Int))) ?_
   exact R_nil ⟨t1, t2, t3, t8, t9, rfl, h3, trivial⟩
  intro T H ⟨t1, t2, t3, t8, t9, t10, h3, _⟩
  refine p12 _ _ _ ?_ ⟨(k + 1), rfl, t1, t2, t3, (Eq.trans t8 (by first | rfl | (simp [apx]; done) | (rw [d5.1]; done) | (simp [d5.2]; done) | (simp only [d5.2]; done) | (rw [g1]; done))), (Eq.trans t9 (by first | rfl | (simp [apx]; done) | (rw [d5.1]; done) | (simp [d5.2]; done) | (simp only [d5.2]; done) | (rw [g1]; done))), (Eq.trans t10 (by first | rfl | (simp [apx]; done) | (rw [d5.1]; done) | (simp [d5.2]; done) | (simp only [d5.2]; done) | (rw [g1]; done))), h3, ?_⟩
  · omega
  · omega
 refine W_seq_exit ?_
 refine p32 _ _ _ ?_
 refine x1 _ _ ?_
 refine .done ?_
 refine W_seq_regc (fun T H => T 6 = (V.sl (List.map cI (least (apx o u v (o.tr.take k))))) ∧ T 7 = (V.bool (decide (apx o u v (o.tr.take k) ≠ []))) ∧ H 3 = (⟨1, true, false, 34, 2, [[(iV (o.i)), (V.sl (List.map cT (o.tr)))]]⟩ : Blk) ∧ True) ?_ ?_
 ·
  unfold r28_11
  refine R_mv t8 ?_
  refine R_mv t9 ?_
  refine R_mv (@rfl V (V.sl (List.map cI (least (apx o u v (o.tr.take k)))))) ?_
  refine R_mv (@rfl V (V.bool (decide (apx o u v (o.tr.take k) ≠ [])))) ?_
  exact R_nil ⟨rfl, rfl, h3, trivial⟩
 intro T H ⟨t6, t7, h3, _⟩
 refine W_ret ?_
 refine Ret_2 t6 t7 (fz_sl ?_ (fun _ => by simp)) (fz_bool ?_)
 · (have e : k = o.tr.length := (by omega)); subst e; rw [List.take_length]
 · (have e : k = o.tr.length := (by omega)); subst e; rw [List.take_length]; rfl

end Go.Proofs.Ytngkckefanbhgaa

namespace Go.Proofs.Ytngkckefanbhgaa
open Go Go.Proofs

theorem plow_pure (o : Ob) (l : List (List Int)) (ho : oval o = 0) (hl : l.length ≤ 1000000) (hw : ∀ k, k < l.length → (nth l k).length ≤ 1048576) : PureC Try.prog 29 [(V.agg [(iV (o.i)), (V.sl (List.map cT (o.tr)))]), (V.sl (List.map cL (l)))] (iV (((lowL (fdP o) l).length : Nat) : Int)) := by
 refine pure_of_Wb true 6 Try.func29 s29_ok (by kernel_rfl) (by simp [s29]) (by simp) (by simp) fun hB => ?_
 simp only [bnd_map, bnd_int, bnd_bool, bnd_str, bnd_agg, bnd_pp, bnd_nil, bnd_cons, implies_true, and_true, true_and] at hB
 unfold s29
 dsimp only
 refine W_seq_regc (fun T H => T 1 = (V.sl (List.map cL (l))) ∧ T 2 = (V.mp 2 1 0 0) ∧ H 2 = (⟨1, true, false, 34, 2, [[(iV (o.i)), (V.sl (List.map cT (o.tr)))]]⟩ : Blk) ∧ H 5 = (⟨0, false, false, 0, 0, []⟩ : Blk) ∧ True) ?_ ?_
 ·
  unfold r29_0
  refine R_box (i := 2) (n := 0) (m := 2) (cs := [(iV (o.i)), (V.sl (List.map cT (o.tr)))]) rfl (congrArg Blk.ver rfl) (@rfl V (V.agg [(iV (o.i)), (V.sl (List.map cT (o.tr)))])) rfl rfl ?_
  refine R_mv (@rfl V (iV (0 : Int))) ?_
  exact R_nil ⟨rfl, rfl, rfl, rfl, trivial⟩
 intro T H ⟨t1, t2, h2, h5, _⟩
 refine W_seq_regc (fun T H => T 1 = (V.sl (List.map cL (l))) ∧ T 2 = (V.mp 2 1 0 0) ∧ T 5 = (V.ms 5 1 0 (0)) ∧ H 2 = (⟨1, true, false, 34, 2, [[(iV (o.i)), (V.sl (List.map cT (o.tr)))]]⟩ : Blk) ∧ H 5 = (⟨1, true, true, 35, 1, []⟩ : Blk) ∧ True) ?_ ?_
 ·
  unfold r29_1
  refine R_lazy (i := 5) (n := 0) rfl (congrArg Blk.ver h5) ?_
  exact R_nil ⟨t1, t2, rfl, h2, rfl, trivial⟩
 intro T H ⟨t1, t2, t5, h2, h5, _⟩
 refine W_seq_seq ?_
 refine W_seq_regc (fun T H => T 2 = (V.mp 2 1 0 0) ∧ T 5 = (V.ms 5 1 0 (0)) ∧ T 13 = (V.sl (List.map cL (l))) ∧ T 14 = (iV ((l.length : Nat) : Int)) ∧ T 15 = (iV (0 : Int)) ∧ H 2 = (⟨1, true, false, 34, 2, [[(iV (o.i)), (V.sl (List.map cT (o.tr)))]]⟩ : Blk) ∧ H 5 = (⟨1, true, true, 35, 1, []⟩ : Blk) ∧ True) ?_ ?_
 ·
  unfold r29_2
  refine R_mv t1 ?_
  refine R_len (@rfl V (V.sl (List.map cL (l)))) ?_
  refine R_mv (@rfl V (iV (0 : Int))) ?_
  exact R_nil ⟨t2, t5, rfl, rfl, rfl, h2, h5, trivial⟩
 intro T H ⟨t2, t5, t13, t14, t15, h2, h5, _⟩
 refine W_seq_blockg fun Q1 n1 x1 y1 z1 => ?_
 refine W_loop (fun mm T H => ∃ (k : Nat), mm = l.length - k ∧ T 2 = (V.mp 2 1 0 0) ∧ T 5 = (V.ms 5 (1 + (lowL (fdP o) (l.take k)).length) 0 ((lowL (fdP o) (l.take k)).length)) ∧ T 13 = (V.sl (List.map cL (l))) ∧ T 14 = (iV ((l.length : Nat) : Int)) ∧ T 15 = (iV ((k : Nat) : Int)) ∧ H 2 = (⟨1, true, false, 34, 2, [[(iV (o.i)), (V.sl (List.map cT (o.tr)))]]⟩ : Blk) ∧ H 5 = (⟨1 + (lowL (fdP o) (l.take k)).length, true, true, 35, 1, (List.map cL (lowL (fdP o) (l.take k)))⟩ : Blk) ∧ (k ≤ l.length)) ?_ ?_
 ·
  refine ⟨_, 0, rfl, t2, (Eq.trans t5 (by first | rfl | (rw [Nat.zero_add]; rfl) | (simp only [alB, d1, Nat.zero_add]; simp; done) | (rw [g1, low1, if_pos d2, List.length_append]; rfl) | (rw [g1, low1, if_pos d2]; done) | (rw [g1, low1, if_neg (by simp [d2])]; done))), t13, t14, (Eq.trans t15 (by first | rfl | (rw [Nat.zero_add]; rfl) | (simp only [alB, d1, Nat.zero_add]; simp; done) | (rw [g1, low1, if_pos d2, List.length_append]; rfl) | (rw [g1, low1, if_pos d2]; done) | (rw [g1, low1, if_neg (by simp [d2])]; done))), h2, (Eq.trans h5 (by first | rfl | (rw [Nat.zero_add]; rfl) | (simp only [alB, d1, Nat.zero_add]; simp; done) | (rw [g1, low1, if_pos d2, List.length_append]; rfl) | (rw [g1, low1, if_pos d2]; done) | (rw [g1, low1, if_neg (by simp [d2])]; done))), ?_⟩
  · omega
 intro mm T H ⟨k, hmm, t2, t5, t13, t14, t15, h2, h5, hk⟩ Q2 p12 p22 p32
 unfold b29_0
 refine W_seq_regc (fun T H => T 2 = (V.mp 2 1 0 0) ∧ T 5 = (V.ms 5 (1 + (lowL (fdP o) (l.take k)).length) 0 ((lowL (fdP o) (l.take k)).length)) ∧ T 13 = (V.sl (List.map cL (l))) ∧ T 14 = (iV ((l.length : Nat) : Int)) ∧ T 15 = (iV ((k : Nat) : Int)) ∧ T 16 = (V.bool (decide (((k : Nat) : Int) < ((l.length : Nat) : Int)))) ∧ H 2 = (⟨1, true, false, 34, 2, [[(iV (o.i)), (V.sl (List.map cT (o.tr)))]]⟩ : Blk) ∧ H 5 = (⟨1 + (lowL (fdP o) (l.take k)).length, true, true, 35, 1, (List.map cL (lowL (fdP o) (l.take k)))⟩ : Blk) ∧ True) ?_ ?_
 ·
  unfold r29_3
  refine R_lss (x := ((k : Nat) : Int)) (y := ((l.length : Nat) : Int)) t15 t14 ?_
  exact R_nil ⟨t2, t5, t13, t14, t15, rfl, h2, h5, trivial⟩
 intro T H ⟨t2, t5, t13, t14, t15, t16, h2, h5, _⟩
 refine W_seq_if (p := ((k : Nat) : Int) < ((l.length : Nat) : Int)) t16 (fun c3 => ?_) (fun c3 => ?_)
 ·
  have g1 := low_take (ap := (fdP o)) (l := l) (k := k) (by omega)
  have g2 := low_len (ap := (fdP o)) (l := l) (k := k) (by omega)
  refine W_seq_skip ?_
  refine W_seq_blockg fun Q4 n4 x4 y4 z4 => ?_
  refine W_seq_regc (fun T H => T 2 = (V.mp 2 1 0 0) ∧ T 5 = (V.ms 5 (1 + (lowL (fdP o) (l.take k)).length) 0 ((lowL (fdP o) (l.take k)).length)) ∧ T 7 = (V.sl (List.map cI ((nth (l) (k))))) ∧ T 13 = (V.sl (List.map cL (l))) ∧ T 14 = (iV ((l.length : Nat) : Int)) ∧ T 15 = (iV ((k : Nat) : Int)) ∧ H 2 = (⟨1, true, false, 34, 2, [[(iV (o.i)), (V.sl (List.map cT (o.tr)))]]⟩ : Blk) ∧ H 5 = (⟨1 + (lowL (fdP o) (l.take k)).length, true, true, 35, 1, (List.map cL (lowL (fdP o) (l.take k)))⟩ : Blk) ∧ True) ?_ ?_
  ·
   unfold r29_4
   refine R_idx (i := k) t13 t15 (by omega) rfl ?_
   refine R_load_pp (v := (V.sl (List.map cI ((nth (l) (k)))))) (@rfl V (V.pp [(V.sl (List.map cI ((nth (l) (k)))))])) (by first | rfl | simp [ldV]) ?_
   refine R_mv (@rfl V (V.sl (List.map cI ((nth (l) (k)))))) ?_
   exact R_nil ⟨t2, t5, rfl, t13, t14, t15, h2, h5, trivial⟩
  intro T H ⟨t2, t5, t7, t13, t14, t15, h2, h5, _⟩
  refine W_seq_regc (fun T H => T 2 = (V.mp 2 1 0 0) ∧ T 5 = (V.ms 5 (1 + (lowL (fdP o) (l.take k)).length) 0 ((lowL (fdP o) (l.take k)).length)) ∧ T 7 = (V.sl (List.map cI ((nth (l) (k))))) ∧ T 8 = (V.bool true) ∧ T 13 = (V.sl (List.map cL (l))) ∧ T 14 = (iV ((l.length : Nat) : Int)) ∧ T 15 = (iV ((k : Nat) : Int)) ∧ H 2 = (⟨1, true, false, 34, 2, [[(iV (o.i)), (V.sl (List.map cT (o.tr)))]]⟩ : Blk) ∧ H 5 = (⟨1 + (lowL (fdP o) (l.take k)).length, true, true, 35, 1, (List.map cL (lowL (fdP o) (l.take k)))⟩ : Blk) ∧ True) ?_ ?_
  ·
   unfold r29_5
   refine R_mv (@rfl V (V.bool true)) ?_
   exact R_nil ⟨t2, t5, t7, rfl, t13, t14, t15, h2, h5, trivial⟩
  intro T H ⟨t2, t5, t7, t8, t13, t14, t15, h2, h5, _⟩
  refine W_seq_seq ?_
  refine W_seq_regc (fun T H => T 2 = (V.mp 2 1 0 0) ∧ T 5 = (V.ms 5 (1 + (lowL (fdP o) (l.take k)).length) 0 ((lowL (fdP o) (l.take k)).length)) ∧ T 7 = (V.sl (List.map cI ((nth (l) (k))))) ∧ T 8 = (V.bool true) ∧ T 13 = (V.sl (List.map cL (l))) ∧ T 14 = (iV ((l.length : Nat) : Int)) ∧ T 15 = (iV ((k : Nat) : Int)) ∧ T 19 = (V.ms 5 (1 + (lowL (fdP o) (l.take k)).length) 0 ((lowL (fdP o) (l.take k)).length)) ∧ T 20 = (iV (((lowL (fdP o) (l.take k)).length : Nat) : Int)) ∧ T 21 = (iV (0 : Int)) ∧ H 2 = (⟨1, true, false, 34, 2, [[(iV (o.i)), (V.sl (List.map cT (o.tr)))]]⟩ : Blk) ∧ H 5 = (⟨1 + (lowL (fdP o) (l.take k)).length, true, true, 35, 1, (List.map cL (lowL (fdP o) (l.take k)))⟩ : Blk) ∧ True) ?_ ?_
  ·
   unfold r29_6
   refine R_mv t5 ?_
   refine R_len_ms (@rfl V (V.ms 5 (1 + (lowL (fdP o) (l.take k)).length) 0 ((lowL (fdP o) (l.take k)).length))) h5 (by first | rfl | simp) ?_
   refine R_mv (@rfl V (iV (0 : Int))) ?_
   exact R_nil ⟨t2, t5, t7, t8, t13, t14, t15, rfl, rfl, rfl, h2, h5, trivial⟩
  intro T H ⟨t2, t5, t7, t8, t13, t14, t15, t19, t20, t21, h2, h5, _⟩
  refine W_seq_blockg fun Q5 n5 x5 y5 z5 => ?_
  refine W_loop (fun mm T H => ∃ (j : Nat), mm = ((lowL (fdP o) (l.take k)).length) - j ∧ T 2 = (V.mp 2 1 0 0) ∧ T 5 = (V.ms 5 (1 + (lowL (fdP o) (l.take k)).length) 0 ((lowL (fdP o) (l.take k)).length)) ∧ T 7 = (V.sl (List.map cI ((nth (l) (k))))) ∧ T 8 = (V.bool (alB (fun j => (fdP o) (nth (lowL (fdP o) (l.take k)) j) (nth l k)) j)) ∧ T 13 = (V.sl (List.map cL (l))) ∧ T 14 = (iV ((l.length : Nat) : Int)) ∧ T 15 = (iV ((k : Nat) : Int)) ∧ T 19 = (V.ms 5 (1 + (lowL (fdP o) (l.take k)).length) 0 ((lowL (fdP o) (l.take k)).length)) ∧ T 20 = (iV (((lowL (fdP o) (l.take k)).length : Nat) : Int)) ∧ T 21 = (iV ((j : Nat) : Int)) ∧ H 2 = (⟨1, true, false, 34, 2, [[(iV (o.i)), (V.sl (List.map cT (o.tr)))]]⟩ : Blk) ∧ H 5 = (⟨1 + (lowL (fdP o) (l.take k)).length, true, true, 35, 1, (List.map cL (lowL (fdP o) (l.take k)))⟩ : Blk) ∧ (j ≤ (lowL (fdP o) (l.take k)).length)) ?_ ?_
  ·
   refine ⟨_, 0, rfl, t2, t5, t7, (Eq.trans t8 (by first | rfl | (rw [Nat.zero_add]; rfl) | (simp only [alB, d1, Nat.zero_add]; simp; done) | (rw [g1, low1, if_pos d2, List.length_append]; rfl) | (rw [g1, low1, if_pos d2]; done) | (rw [g1, low1, if_neg (by simp [d2])]; done))), t13, t14, t15, t19, t20, (Eq.trans t21 (by first | rfl | (rw [Nat.zero_add]; rfl) | (simp only [alB, d1, Nat.zero_add]; simp; done) | (rw [g1, low1, if_pos d2, List.length_append]; rfl) | (rw [g1, low1, if_pos d2]; done) | (rw [g1, low1, if_neg (by simp [d2])]; done))), h2, h5, ?_⟩
   · omega
  intro mm T H ⟨j, hmm, t2, t5, t7, t8, t13, t14, t15, t19, t20, t21, h2, h5, hj⟩ Q6 p16 p26 p36
  unfold b29_1
  refine W_seq_regc (fun T H => T 2 = (V.mp 2 1 0 0) ∧ T 5 = (V.ms 5 (1 + (lowL (fdP o) (l.take k)).length) 0 ((lowL (fdP o) (l.take k)).length)) ∧ T 7 = (V.sl (List.map cI ((nth (l) (k))))) ∧ T 8 = (V.bool (alB (fun j => (fdP o) (nth (lowL (fdP o) (l.take k)) j) (nth l k)) j)) ∧ T 13 = (V.sl (List.map cL (l))) ∧ T 14 = (iV ((l.length : Nat) : Int)) ∧ T 15 = (iV ((k : Nat) : Int)) ∧ T 19 = (V.ms 5 (1 + (lowL (fdP o) (l.take k)).length) 0 ((lowL (fdP o) (l.take k)).length)) ∧ T 20 = (iV (((lowL (fdP o) (l.take k)).length : Nat) : Int)) ∧ T 21 = (iV ((j : Nat) : Int)) ∧ T 22 = (V.bool (decide (((j : Nat) : Int) < (((lowL (fdP o) (l.take k)).length : Nat) : Int)))) ∧ H 2 = (⟨1, true, false, 34, 2, [[(iV (o.i)), (V.sl (List.map cT (o.tr)))]]⟩ : Blk) ∧ H 5 = (⟨1 + (lowL (fdP o) (l.take k)).length, true, true, 35, 1, (List.map cL (lowL (fdP o) (l.take k)))⟩ : Blk) ∧ True) ?_ ?_
  ·
   unfold r29_7
   refine R_lss (x := ((j : Nat) : Int)) (y := (((lowL (fdP o) (l.take k)).length : Nat) : Int)) t21 t20 ?_
   exact R_nil ⟨t2, t5, t7, t8, t13, t14, t15, t19, t20, t21, rfl, h2, h5, trivial⟩
  intro T H ⟨t2, t5, t7, t8, t13, t14, t15, t19, t20, t21, t22, h2, h5, _⟩
  refine W_seq_if (p := ((j : Nat) : Int) < (((lowL (fdP o) (l.take k)).length : Nat) : Int)) t22 (fun c7 => ?_) (fun c7 => ?_)
  ·
   have g3 := low_mem (ap := (fdP o)) (l := l) (k := k) (j := j) (by omega)
   obtain ⟨i0, i1, i2⟩ := g3
   have g4 : (nth (lowL ((fdP o)) (l.take k)) (0 + j)).length ≤ 1048576 := by rw [Nat.zero_add, i2]; exact hw i0 (by omega)
   have g5 := hw k (by omega)
   refine W_seq_skip ?_
   refine W_seq_blockg fun Q8 n8 x8 y8 z8 => ?_
   refine W_seq_regc (fun T H => T 2 = (V.mp 2 1 0 0) ∧ T 5 = (V.ms 5 (1 + (lowL (fdP o) (l.take k)).length) 0 ((lowL (fdP o) (l.take k)).length)) ∧ T 7 = (V.sl (List.map cI ((nth (l) (k))))) ∧ T 8 = (V.bool (alB (fun j => (fdP o) (nth (lowL (fdP o) (l.take k)) j) (nth l k)) j)) ∧ T 10 = (V.sl (List.map cI ((nth (lowL (fdP o) (l.take k)) (0 + (j)))))) ∧ T 13 = (V.sl (List.map cL (l))) ∧ T 14 = (iV ((l.length : Nat) : Int)) ∧ T 15 = (iV ((k : Nat) : Int)) ∧ T 19 = (V.ms 5 (1 + (lowL (fdP o) (l.take k)).length) 0 ((lowL (fdP o) (l.take k)).length)) ∧ T 20 = (iV (((lowL (fdP o) (l.take k)).length : Nat) : Int)) ∧ T 21 = (iV ((j : Nat) : Int)) ∧ H 2 = (⟨1, true, false, 34, 2, [[(iV (o.i)), (V.sl (List.map cT (o.tr)))]]⟩ : Blk) ∧ H 5 = (⟨1 + (lowL (fdP o) (l.take k)).length, true, true, 35, 1, (List.map cL (lowL (fdP o) (l.take k)))⟩ : Blk) ∧ True) ?_ ?_
   ·
    unfold r29_8
    refine R_idx_ms (i := j) t19 t21 h5 (okB_map (by omega)) rfl (by omega) ?_
    refine R_load_mp (v := (V.sl (List.map cI ((nth (lowL (fdP o) (l.take k)) (0 + (j))))))) (@rfl V (V.mp 5 (1 + (lowL (fdP o) (l.take k)).length) (0 + (j)) 0)) h5 (ldB_map (by omega) (by first | rfl | simp [ldV, V.one])) ?_
    refine R_mv (@rfl V (V.sl (List.map cI ((nth (lowL (fdP o) (l.take k)) (0 + (j))))))) ?_
    exact R_nil ⟨t2, t5, t7, t8, rfl, t13, t14, t15, t19, t20, t21, h2, h5, trivial⟩
   intro T H ⟨t2, t5, t7, t8, t10, t13, t14, t15, t19, t20, t21, h2, h5, _⟩
   refine W_seq_regc (fun T H => T 2 = (V.mp 2 1 0 0) ∧ T 5 = (V.ms 5 (1 + (lowL (fdP o) (l.take k)).length) 0 ((lowL (fdP o) (l.take k)).length)) ∧ T 7 = (V.sl (List.map cI ((nth (l) (k))))) ∧ T 8 = (V.bool (alB (fun j => (fdP o) (nth (lowL (fdP o) (l.take k)) j) (nth l k)) j)) ∧ T 12 = (V.bool (decide (fdl (bhd o.tr ((nth (l) (k)))) (bhd o.tr ((nth (lowL (fdP o) (l.take k)) (0 + (j))))) ≠ []))) ∧ T 13 = (V.sl (List.map cL (l))) ∧ T 14 = (iV ((l.length : Nat) : Int)) ∧ T 15 = (iV ((k : Nat) : Int)) ∧ T 19 = (V.ms 5 (1 + (lowL (fdP o) (l.take k)).length) 0 ((lowL (fdP o) (l.take k)).length)) ∧ T 20 = (iV (((lowL (fdP o) (l.take k)).length : Nat) : Int)) ∧ T 21 = (iV ((j : Nat) : Int)) ∧ H 2 = (⟨1, true, false, 34, 2, [[(iV (o.i)), (V.sl (List.map cT (o.tr)))]]⟩ : Blk) ∧ H 5 = (⟨1 + (lowL (fdP o) (l.take k)).length, true, true, 35, 1, (List.map cL (lowL (fdP o) (l.take k)))⟩ : Blk) ∧ True) ?_ ?_
   ·
    unfold r29_9
    refine R_load_mp (v := (V.agg [(iV (o.i)), (V.sl (List.map cT (o.tr)))])) t2 h2 (by first | rfl | simp [ldB, ldV, Blk.own, V.one]) ?_
    refine R_mv t7 ?_
    refine R_mv t10 ?_
    refine R_call (evcons (@rfl V (V.agg [(iV (o.i)), (V.sl (List.map cT (o.tr)))])) (evcons (@rfl V (V.sl (List.map cI ((nth (l) (k)))))) (evcons (@rfl V (V.sl (List.map cI ((nth (lowL (fdP o) (l.take k)) (0 + (j))))))) evnil))) (hapart_pure o ((nth (l) (k))) ((nth (lowL (fdP o) (l.take k)) (0 + (j)))) ho g5 g4) (fzv_mapcanon _ _ (by simp [-List.map_take, -List.map_drop, -List.map_append, -List.map_reverse])) (by simp [-List.map_take, -List.map_drop, -List.map_append, -List.map_reverse]) (Or.inl (by simp [-List.map_take, -List.map_drop, -List.map_append, -List.map_reverse])) ?_
    refine R_mv (@rfl V (V.tup [(V.sl (List.map cI (least (fdl (bhd o.tr ((nth (l) (k)))) (bhd o.tr ((nth (lowL (fdP o) (l.take k)) (0 + (j))))))))), (V.bool (decide (fdl (bhd o.tr ((nth (l) (k)))) (bhd o.tr ((nth (lowL (fdP o) (l.take k)) (0 + (j))))) ≠ [])))])) ?_
    refine R_ext (v := (V.sl (List.map cI (least (fdl (bhd o.tr ((nth (l) (k)))) (bhd o.tr ((nth (lowL (fdP o) (l.take k)) (0 + (j)))))))))) (@rfl V (V.tup [(V.sl (List.map cI (least (fdl (bhd o.tr ((nth (l) (k)))) (bhd o.tr ((nth (lowL (fdP o) (l.take k)) (0 + (j))))))))), (V.bool (decide (fdl (bhd o.tr ((nth (l) (k)))) (bhd o.tr ((nth (lowL (fdP o) (l.take k)) (0 + (j))))) ≠ [])))])) rfl ?_
    refine R_ext (v := (V.bool (decide (fdl (bhd o.tr ((nth (l) (k)))) (bhd o.tr ((nth (lowL (fdP o) (l.take k)) (0 + (j))))) ≠ [])))) (@rfl V (V.tup [(V.sl (List.map cI (least (fdl (bhd o.tr ((nth (l) (k)))) (bhd o.tr ((nth (lowL (fdP o) (l.take k)) (0 + (j))))))))), (V.bool (decide (fdl (bhd o.tr ((nth (l) (k)))) (bhd o.tr ((nth (lowL (fdP o) (l.take k)) (0 + (j))))) ≠ [])))])) rfl ?_
    refine R_mv (@rfl V (V.sl (List.map cI (least (fdl (bhd o.tr ((nth (l) (k)))) (bhd o.tr ((nth (lowL (fdP o) (l.take k)) (0 + (j)))))))))) ?_
    refine R_mv (@rfl V (V.bool (decide (fdl (bhd o.tr ((nth (l) (k)))) (bhd o.tr ((nth (lowL (fdP o) (l.take k)) (0 + (j))))) ≠ [])))) ?_
    exact R_nil ⟨t2, t5, t7, t8, rfl, t13, t14, t15, t19, t20, t21, h2, h5, trivial⟩
   intro T H ⟨t2, t5, t7, t8, t12, t13, t14, t15, t19, t20, t21, h2, h5, _⟩
   refine W_regc (fun T H => T 2 = (V.mp 2 1 0 0) ∧ T 5 = (V.ms 5 (1 + (lowL (fdP o) (l.take k)).length) 0 ((lowL (fdP o) (l.take k)).length)) ∧ T 7 = (V.sl (List.map cI ((nth (l) (k))))) ∧ T 8 = (V.bool (((alB (fun j => (fdP o) (nth (lowL (fdP o) (l.take k)) j) (nth l k)) j) && decide (fdl (bhd o.tr ((nth (l) (k)))) (bhd o.tr ((nth (lowL (fdP o) (l.take k)) (0 + (j))))) ≠ [])))) ∧ T 13 = (V.sl (List.map cL (l))) ∧ T 14 = (iV ((l.length : Nat) : Int)) ∧ T 15 = (iV ((k : Nat) : Int)) ∧ T 19 = (V.ms 5 (1 + (lowL (fdP o) (l.take k)).length) 0 ((lowL (fdP o) (l.take k)).length)) ∧ T 20 = (iV (((lowL (fdP o) (l.take k)).length : Nat) : Int)) ∧ T 21 = (iV ((j : Nat) : Int)) ∧ H 2 = (⟨1, true, false, 34, 2, [[(iV (o.i)), (V.sl (List.map cT (o.tr)))]]⟩ : Blk) ∧ H 5 = (⟨1 + (lowL (fdP o) (l.take k)).length, true, true, 35, 1, (List.map cL (lowL (fdP o) (l.take k)))⟩ : Blk) ∧ True) ?_ ?_
   ·
    unfold r29_10
    refine R_mv t8 ?_
    refine R_mv (@rfl V (V.bool (alB (fun j => (fdP o) (nth (lowL (fdP o) (l.take k)) j) (nth l k)) j))) ?_
    refine Ops_seg 2 (fun T H => T 2 = (V.mp 2 1 0 0) ∧ T 5 = (V.ms 5 (1 + (lowL (fdP o) (l.take k)).length) 0 ((lowL (fdP o) (l.take k)).length)) ∧ T 7 = (V.sl (List.map cI ((nth (l) (k))))) ∧ T 8 = (V.bool (alB (fun j => (fdP o) (nth (lowL (fdP o) (l.take k)) j) (nth l k)) j)) ∧ T 13 = (V.sl (List.map cL (l))) ∧ T 14 = (iV ((l.length : Nat) : Int)) ∧ T 15 = (iV ((k : Nat) : Int)) ∧ T 19 = (V.ms 5 (1 + (lowL (fdP o) (l.take k)).length) 0 ((lowL (fdP o) (l.take k)).length)) ∧ T 20 = (iV (((lowL (fdP o) (l.take k)).length : Nat) : Int)) ∧ T 21 = (iV ((j : Nat) : Int)) ∧ T 35 = (V.bool (((alB (fun j => (fdP o) (nth (lowL (fdP o) (l.take k)) j) (nth l k)) j) && decide (fdl (bhd o.tr ((nth (l) (k)))) (bhd o.tr ((nth (lowL (fdP o) (l.take k)) (0 + (j))))) ≠ [])))) ∧ H 2 = (⟨1, true, false, 34, 2, [[(iV (o.i)), (V.sl (List.map cT (o.tr)))]]⟩ : Blk) ∧ H 5 = (⟨1 + (lowL (fdP o) (l.take k)).length, true, true, 35, 1, (List.map cL (lowL (fdP o) (l.take k)))⟩ : Blk) ∧ True) ?_ ?_
    ·
     by_cases g9 : (alB (fun j => (fdP o) (nth (lowL (fdP o) (l.take k)) j) (nth l k)) j) = true
     ·
      refine G_yes (Eq.trans (@rfl V (V.bool (alB (fun j => (fdP o) (nth (lowL (fdP o) (l.take k)) j) (nth l k)) j))) (bbT g9)) ?_
      refine R_mv t12 ?_
      refine R_pickT (Eq.trans (@rfl V (V.bool (alB (fun j => (fdP o) (nth (lowL (fdP o) (l.take k)) j) (nth l k)) j))) (bbT g9)) (@rfl V (V.bool (decide (fdl (bhd o.tr ((nth (l) (k)))) (bhd o.tr ((nth (lowL (fdP o) (l.take k)) (0 + (j))))) ≠ [])))) ?_
      exact ⟨t2, t5, t7, t8, t13, t14, t15, t19, t20, t21, (Eq.trans (@rfl V (V.bool (decide (fdl (bhd o.tr ((nth (l) (k)))) (bhd o.tr ((nth (lowL (fdP o) (l.take k)) (0 + (j))))) ≠ [])))) (bandT g9)), h2, h5, trivial⟩
     ·
      refine G_no (Eq.trans (@rfl V (V.bool (alB (fun j => (fdP o) (nth (lowL (fdP o) (l.take k)) j) (nth l k)) j))) (bbF g9)) (by decide) ?_
      refine R_pickF (Eq.trans (@rfl V (V.bool (alB (fun j => (fdP o) (nth (lowL (fdP o) (l.take k)) j) (nth l k)) j))) (bbF g9)) (@rfl V (V.bool false)) ?_
      exact ⟨t2, t5, t7, t8, t13, t14, t15, t19, t20, t21, (Eq.trans (@rfl V (V.bool false)) (bandF g9)), h2, h5, trivial⟩
    intro T H ⟨t2, t5, t7, t8, t13, t14, t15, t19, t20, t21, t35, h2, h5, _⟩
    refine R_mv t35 ?_
    exact R_nil ⟨t2, t5, t7, rfl, t13, t14, t15, t19, t20, t21, h2, h5, trivial⟩
   intro T H ⟨t2, t5, t7, t8, t13, t14, t15, t19, t20, t21, h2, h5, _⟩
   refine n8 _ _ ?_
   refine .done ?_
   refine W_regc (fun T H => T 2 = (V.mp 2 1 0 0) ∧ T 5 = (V.ms 5 (1 + (lowL (fdP o) (l.take k)).length) 0 ((lowL (fdP o) (l.take k)).length)) ∧ T 7 = (V.sl (List.map cI ((nth (l) (k))))) ∧ T 8 = (V.bool (((alB (fun j => (fdP o) (nth (lowL (fdP o) (l.take k)) j) (nth l k)) j) && decide (fdl (bhd o.tr ((nth (l) (k)))) (bhd o.tr ((nth (lowL (fdP o) (l.take k)) (0 + (j))))) ≠ [])))) ∧ T 13 = (V.sl (List.map cL (l))) ∧ T 14 = (iV ((l.length : Nat) : Int)) ∧ T 15 = (iV ((k : Nat) : Int)) ∧ T 19 = (V.ms 5 (1 + (lowL (fdP o) (l.take k)).length) 0 ((lowL (fdP o) (l.take k)).length)) ∧ T 20 = (iV (((lowL (fdP o) (l.take k)).length : Nat) : Int)) ∧ T 21 = (iV ((j + 1 : Nat) : Int)) ∧ H 2 = (⟨1, true, false, 34, 2, [[(iV (o.i)), (V.sl (List.map cT (o.tr)))]]⟩ : Blk) ∧ H 5 = (⟨1 + (lowL (fdP o) (l.take k)).length, true, true, 35, 1, (List.map cL (lowL (fdP o) (l.take k)))⟩ : Blk) ∧ True) ?_ ?_
   ·
    unfold r29_11
    refine R_addN (m := j) (n := 1) t21 (@rfl V (iV ((1 : Nat) : Int))) (by omega) ?_
    refine R_mv (@rfl V (iV ((j + 1 : Nat) : Int))) ?_
    exact R_nil ⟨t2, t5, t7, t8, t13, t14, t15, t19, t20, rfl, h2, h5, trivial⟩
   intro T H ⟨t2, t5, t7, t8, t13, t14, t15, t19, t20, t21, h2, h5, _⟩
   refine p16 _ _ _ ?_ ⟨(j + 1), rfl, t2, t5, t7, (Eq.trans t8 (by first | rfl | (rw [Nat.zero_add]; rfl) | (simp only [alB, d1, Nat.zero_add]; simp; done) | (rw [g1, low1, if_pos d2, List.length_append]; rfl) | (rw [g1, low1, if_pos d2]; done) | (rw [g1, low1, if_neg (by simp [d2])]; done))), t13, t14, t15, t19, t20, (Eq.trans t21 (by first | rfl | (rw [Nat.zero_add]; rfl) | (simp only [alB, d1, Nat.zero_add]; simp; done) | (rw [g1, low1, if_pos d2, List.length_append]; rfl) | (rw [g1, low1, if_pos d2]; done) | (rw [g1, low1, if_neg (by simp [d2])]; done))), h2, h5, ?_⟩
   · omega
   · omega
  refine W_seq_exit ?_
  refine p36 _ _ _ ?_
  refine x5 _ _ ?_
  refine .done ?_
  refine W_seq_regc (fun T H => T 2 = (V.mp 2 1 0 0) ∧ T 5 = (V.ms 5 (1 + (lowL (fdP o) (l.take k)).length) 0 ((lowL (fdP o) (l.take k)).length)) ∧ T 7 = (V.sl (List.map cI ((nth (l) (k))))) ∧ T 13 = (V.sl (List.map cL (l))) ∧ T 14 = (iV ((l.length : Nat) : Int)) ∧ T 15 = (iV ((k : Nat) : Int)) ∧ T 37 = (V.bool (alB (fun j => (fdP o) (nth (lowL (fdP o) (l.take k)) j) (nth l k)) j)) ∧ H 2 = (⟨1, true, false, 34, 2, [[(iV (o.i)), (V.sl (List.map cT (o.tr)))]]⟩ : Blk) ∧ H 5 = (⟨1 + (lowL (fdP o) (l.take k)).length, true, true, 35, 1, (List.map cL (lowL (fdP o) (l.take k)))⟩ : Blk) ∧ True) ?_ ?_
  ·
   unfold r29_12
   refine R_mv t8 ?_
   exact R_nil ⟨t2, t5, t7, t13, t14, t15, rfl, h2, h5, trivial⟩
  intro T H ⟨t2, t5, t7, t13, t14, t15, t37, h2, h5, _⟩
  refine W_ifb t37 (fun c10 => ?_) (fun c10 => ?_)
  ·
   have e : j = (lowL (fdP o) (l.take k)).length := by omega
   subst e
   have d2 := c10
   refine W_regc (fun T H => T 2 = (V.mp 2 1 0 0) ∧ T 5 = (V.ms 5 ((1 + (lowL (fdP o) (l.take k)).length) + 1) 0 (((lowL (fdP o) (l.take k)).length) + 1)) ∧ T 13 = (V.sl (List.map cL (l))) ∧ T 14 = (iV ((l.length : Nat) : Int)) ∧ T 15 = (iV ((k : Nat) : Int)) ∧ H 2 = (⟨1, true, false, 34, 2, [[(iV (o.i)), (V.sl (List.map cT (o.tr)))]]⟩ : Blk) ∧ H 5 = (⟨(1 + (lowL (fdP o) (l.take k)).length) + 1, true, true, 35, 1, (List.map cL (lowL (fdP o) (l.take k) ++ [(nth (l) (k))]))⟩ : Blk) ∧ True) ?_ ?_
   ·
    unfold r29_13
    refine R_mv t5 ?_
    refine R_mv t7 ?_
    refine R_bslice (qs := [(0, (V.sl (List.map cI ((nth (l) (k))))))]) (rows := [[(V.sl (List.map cI ((nth (l) (k)))))]]) (mcons (congrArg (fun v => (0, v)) (@rfl V (V.sl (List.map cI ((nth (l) (k))))))) rfl) rfl ?_
    refine R_append1 (l := (lowL (fdP o) (l.take k))) (f := cL) (x := ((nth (l) (k)))) (@rfl V (V.ms 5 (1 + (lowL (fdP o) (l.take k)).length) 0 ((lowL (fdP o) (l.take k)).length))) h5 (by first | rfl | simp | omega) (@rfl V (V.sl [[(V.sl (List.map cI ((nth (l) (k)))))]])) rfl rfl (by omega) (by omega) ?_
    refine R_mv (@rfl V (V.ms 5 ((1 + (lowL (fdP o) (l.take k)).length) + 1) 0 (((lowL (fdP o) (l.take k)).length) + 1))) ?_
    exact R_nil ⟨t2, rfl, t13, t14, t15, h2, rfl, trivial⟩
   intro T H ⟨t2, t5, t13, t14, t15, h2, h5, _⟩
   refine n4 _ _ ?_
   refine .done ?_
   refine W_regc (fun T H => T 2 = (V.mp 2 1 0 0) ∧ T 5 = (V.ms 5 ((1 + (lowL (fdP o) (l.take k)).length) + 1) 0 (((lowL (fdP o) (l.take k)).length) + 1)) ∧ T 13 = (V.sl (List.map cL (l))) ∧ T 14 = (iV ((l.length : Nat) : Int)) ∧ T 15 = (iV ((k + 1 : Nat) : Int)) ∧ H 2 = (⟨1, true, false, 34, 2, [[(iV (o.i)), (V.sl (List.map cT (o.tr)))]]⟩ : Blk) ∧ H 5 = (⟨(1 + (lowL (fdP o) (l.take k)).length) + 1, true, true, 35, 1, (List.map cL (lowL (fdP o) (l.take k) ++ [(nth (l) (k))]))⟩ : Blk) ∧ True) ?_ ?_
   ·
    unfold r29_14
    refine R_addN (m := k) (n := 1) t15 (@rfl V (iV ((1 : Nat) : Int))) (by omega) ?_
    refine R_mv (@rfl V (iV ((k + 1 : Nat) : Int))) ?_
    exact R_nil ⟨t2, t5, t13, t14, rfl, h2, h5, trivial⟩
   intro T H ⟨t2, t5, t13, t14, t15, h2, h5, _⟩
   refine p12 _ _ _ ?_ ⟨(k + 1), rfl, t2, (Eq.trans t5 (by first | rfl | (rw [Nat.zero_add]; rfl) | (simp only [alB, d1, Nat.zero_add]; simp; done) | (rw [g1, low1, if_pos d2, List.length_append]; rfl) | (rw [g1, low1, if_pos d2]; done) | (rw [g1, low1, if_neg (by simp [d2])]; done))), t13, t14, (Eq.trans t15 (by first | rfl | (rw [Nat.zero_add]; rfl) | (simp only [alB, d1, Nat.zero_add]; simp; done) | (rw [g1, low1, if_pos d2, List.length_append]; rfl) | (rw [g1, low1, if_pos d2]; done) | (rw [g1, low1, if_neg (by simp [d2])]; done))), h2, (Eq.trans h5 (by first | rfl | (rw [Nat.zero_add]; rfl) | (simp only [alB, d1, Nat.zero_add]; simp; done) | (rw [g1, low1, if_pos d2, List.length_append]; rfl) | (rw [g1, low1, if_pos d2]; done) | (rw [g1, low1, if_neg (by simp [d2])]; done))), ?_⟩
   · omega
   · omega
  have e : j = (lowL (fdP o) (l.take k)).length := by omega
  subst e
  have d2 := c10
  refine W_skip ?_
  refine n4 _ _ ?_
  refine .done ?_
  refine W_regc (fun T H => T 2 = (V.mp 2 1 0 0) ∧ T 5 = (V.ms 5 (1 + (lowL (fdP o) (l.take k)).length) 0 ((lowL (fdP o) (l.take k)).length)) ∧ T 13 = (V.sl (List.map cL (l))) ∧ T 14 = (iV ((l.length : Nat) : Int)) ∧ T 15 = (iV ((k + 1 : Nat) : Int)) ∧ H 2 = (⟨1, true, false, 34, 2, [[(iV (o.i)), (V.sl (List.map cT (o.tr)))]]⟩ : Blk) ∧ H 5 = (⟨1 + (lowL (fdP o) (l.take k)).length, true, true, 35, 1, (List.map cL (lowL (fdP o) (l.take k)))⟩ : Blk) ∧ True) ?_ ?_
  ·
   unfold r29_14
   refine R_addN (m := k) (n := 1) t15 (@rfl V (iV ((1 : Nat) : Int))) (by omega) ?_
   refine R_mv (@rfl V (iV ((k + 1 : Nat) : Int))) ?_
   exact R_nil ⟨t2, t5, t13, t14, rfl, h2, h5, trivial⟩
  intro T H ⟨t2, t5, t13, t14, t15, h2, h5, _⟩
  refine p12 _ _ _ ?_ ⟨(k + 1), rfl, t2, (Eq.trans t5 (by first | rfl | (rw [Nat.zero_add]; rfl) | (simp only [alB, d1, Nat.zero_add]; simp; done) | (rw [g1, low1, if_pos d2, List.length_append]; rfl) | (rw [g1, low1, if_pos d2]; done) | (rw [g1, low1, if_neg (by simp [d2])]; done))), t13, t14, (Eq.trans t15 (by first | rfl | (rw [Nat.zero_add]; rfl) | (simp only [alB, d1, Nat.zero_add]; simp; done) | (rw [g1, low1, if_pos d2, List.length_append]; rfl) | (rw [g1, low1, if_pos d2]; done) | (rw [g1, low1, if_neg (by simp [d2])]; done))), h2, (Eq.trans h5 (by first | rfl | (rw [Nat.zero_add]; rfl) | (simp only [alB, d1, Nat.zero_add]; simp; done) | (rw [g1, low1, if_pos d2, List.length_append]; rfl) | (rw [g1, low1, if_pos d2]; done) | (rw [g1, low1, if_neg (by simp [d2])]; done))), ?_⟩
  · omega
  · omega
 refine W_seq_exit ?_
 refine p32 _ _ _ ?_
 refine x1 _ _ ?_
 refine .done ?_
 refine W_seq_regc (fun T H => T 4 = (iV (((lowL (fdP o) (l.take k)).length : Nat) : Int)) ∧ H 2 = (⟨1, true, false, 34, 2, [[(iV (o.i)), (V.sl (List.map cT (o.tr)))]]⟩ : Blk) ∧ H 5 = (⟨1 + (lowL (fdP o) (l.take k)).length, true, true, 35, 1, (List.map cL (lowL (fdP o) (l.take k)))⟩ : Blk) ∧ True) ?_ ?_
 ·
  unfold r29_15
  refine R_mv t5 ?_
  refine R_len_ms (@rfl V (V.ms 5 (1 + (lowL (fdP o) (l.take k)).length) 0 ((lowL (fdP o) (l.take k)).length))) h5 (by first | rfl | simp) ?_
  refine R_mv (@rfl V (iV (((lowL (fdP o) (l.take k)).length : Nat) : Int))) ?_
  exact R_nil ⟨rfl, h2, h5, trivial⟩
 intro T H ⟨t4, h2, h5, _⟩
 refine W_ret ?_
 refine Ret_1 t4 (fz_int ?_)
 · (have e : k = l.length := (by omega)); subst e; rw [List.take_length]

end Go.Proofs.Ytngkckefanbhgaa

