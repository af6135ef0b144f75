/- Contracts of the functions that the law OA reaches, and the law itself, for every input; no condition. -/
import Derived.KernelRfl
import Derived.Test.YtngkckefanbhgaaProg
import Derived.Test.YtngkckefanbhgaaRows
import Derived.Test.YtngkckefanbhgaaOA2
set_option linter.unusedSimpArgs false
set_option linter.unusedVariables false
namespace Go.Proofs.Ytngkckefanbhgaa
open Go Go.Proofs

theorem clash_pure (o : Ob) (t : Tr) (ho : oval o = 0) : PureC Try.prog 41 [(V.agg [(iV (o.i)), (V.sl (List.map cT (o.tr)))]), (V.agg [(V.sl (List.map cI (t.ni))), (V.sl (List.map cI (t.no)))])] (V.tup [(V.agg [(V.sl (List.map cI (clW o t))), (iV (clF o t)), (iV (clS o t))]), (V.bool (decide (clB o t)))]) := by
 refine pure_of_Wb true 6 Try.func41 s41_ok (by kernel_rfl) (by simp [s41]) (by simp) (by simp) fun hB => ?_
 simp only [bnd_map, bnd_int, bnd_bool, bnd_str, bnd_agg, bnd_pp, bnd_nil, bnd_cons, implies_true, and_true, true_and] at hB
 unfold s41
 dsimp only
 have u2 := oval_ok ho
 refine W_seq_regc (fun T H => T 2 = (V.mp 2 1 0 0) ∧ T 3 = (V.mp 3 1 0 0) ∧ T 4 = (V.mp 4 1 0 0) ∧ H 2 = (⟨1, true, false, 34, 2, [[(iV (o.i)), (V.sl (List.map cT (o.tr)))]]⟩ : Blk) ∧ H 3 = (⟨1, true, false, 63, 2, [[(V.sl (List.map cI (t.ni))), (V.sl (List.map cI (t.no)))]]⟩ : Blk) ∧ H 4 = (⟨1, true, false, 67, 3, [[V.nilsl, (iV (0 : Int)), (iV (0 : Int))]]⟩ : Blk) ∧ H 9 = (⟨0, false, false, 0, 0, []⟩ : Blk) ∧ True) ?_ ?_
 ·
  unfold r41_0
  refine R_box (i := 2) (n := 0) (m := 2) (cs := [(iV (o.i)), (V.sl (List.map cT (o.tr)))]) rfl (congrArg Blk.ver rfl) (@rfl V (V.agg [(iV (o.i)), (V.sl (List.map cT (o.tr)))])) rfl rfl ?_
  refine R_box (i := 3) (n := 0) (m := 2) (cs := [(V.sl (List.map cI (t.ni))), (V.sl (List.map cI (t.no)))]) rfl (congrArg Blk.ver rfl) (@rfl V (V.agg [(V.sl (List.map cI (t.ni))), (V.sl (List.map cI (t.no)))])) rfl rfl ?_
  refine R_alloc (i := 4) (n := 0) (m := 3) rfl (congrArg Blk.ver rfl) rfl ?_
  refine R_mv (@rfl V (V.bool false)) ?_
  exact R_nil ⟨rfl, rfl, rfl, rfl, rfl, rfl, rfl, trivial⟩
 intro T H ⟨t2, t3, t4, h2, h3, h4, h9, _⟩
 refine W_seq_seq ?_
 refine W_seq_regc (fun T H => T 2 = (V.mp 2 1 0 0) ∧ T 3 = (V.mp 3 1 0 0) ∧ T 4 = (V.mp 4 1 0 0) ∧ T 15 = (V.bool (decide ((prE t ((o.i))) ≠ (0 : Int)))) ∧ H 2 = (⟨1, true, false, 34, 2, [[(iV (o.i)), (V.sl (List.map cT (o.tr)))]]⟩ : Blk) ∧ H 3 = (⟨1, true, false, 63, 2, [[(V.sl (List.map cI (t.ni))), (V.sl (List.map cI (t.no)))]]⟩ : Blk) ∧ H 4 = (⟨1, true, false, 67, 3, [[V.nilsl, (iV (0 : Int)), (iV (0 : Int))]]⟩ : Blk) ∧ H 9 = (⟨0, false, false, 0, 0, []⟩ : Blk) ∧ True) ?_ ?_
 ·
  unfold r41_1
  refine R_load_mp (v := (V.agg [(V.sl (List.map cI (t.ni))), (V.sl (List.map cI (t.no)))])) t3 h3 (by first | rfl | simp [ldB, ldV, Blk.own, V.one]) ?_
  refine R_fld_mp (o' := 0) t2 h2 (by first | rfl | simp [okB, Blk.own]) rfl ?_
  refine R_load_mp (v := (iV (o.i))) (@rfl V (V.mp 2 1 0 0)) h2 (by first | rfl | simp [ldB, ldV, Blk.own, V.one]) ?_
  refine R_call (evcons (@rfl V (V.agg [(V.sl (List.map cI (t.ni))), (V.sl (List.map cI (t.no)))])) (evcons (@rfl V (iV (o.i))) evnil)) (proper_pure t ((o.i))) (fzv_mapcanon _ _ (by simp [-List.map_take, -List.map_drop, -List.map_append, -List.map_reverse])) (by simp [-List.map_take, -List.map_drop, -List.map_append, -List.map_reverse]) (Or.inl (by simp [-List.map_take, -List.map_drop, -List.map_append, -List.map_reverse])) ?_
  refine R_neq (x := (prE t ((o.i)))) (y := (0 : Int)) (@rfl V (iV (prE t ((o.i))))) (@rfl V (iV (0 : Int))) ?_
  exact R_nil ⟨t2, t3, t4, rfl, h2, h3, h4, h9, trivial⟩
 intro T H ⟨t2, t3, t4, t15, h2, h3, h4, h9, _⟩
 refine W_seq_if (p := (prE t ((o.i))) ≠ (0 : Int)) t15 (fun c1 => ?_) (fun c1 => ?_)
 ·
  have d0 := c1
  refine W_seq_seq ?_
  refine W_seq_regc (fun T H => T 4 = (V.mp 4 1 0 0) ∧ T 5 = (V.bool false) ∧ H 2 = (⟨1, true, false, 34, 2, [[(iV (o.i)), (V.sl (List.map cT (o.tr)))]]⟩ : Blk) ∧ H 3 = (⟨1, true, false, 63, 2, [[(V.sl (List.map cI (t.ni))), (V.sl (List.map cI (t.no)))]]⟩ : Blk) ∧ H 4 = (⟨1, true, false, 67, 3, [[V.nilsl, (iV (0 : Int)), (iV (0 : Int))]]⟩ : Blk) ∧ H 9 = (⟨0, false, false, 0, 0, []⟩ : Blk) ∧ True) ?_ ?_
  ·
   unfold r41_2
   refine R_build (qs := []) (cs := [V.nilsl, (iV (0 : Int)), (iV (0 : Int))]) rfl rfl ?_
   refine R_store (vs := [V.nilsl, (iV (0 : Int)), (iV (0 : Int))]) (B' := (⟨1, true, false, 67, 3, [[V.nilsl, (iV (0 : Int)), (iV (0 : Int))]]⟩ : Blk)) t4 (@rfl V (V.agg [V.nilsl, (iV (0 : Int)), (iV (0 : Int))])) rfl h4 (by first | rfl | simp [stB, okB, Blk.own, putAt, V.one]) ?_
   refine R_mv (@rfl V (V.bool false)) ?_
   exact R_nil ⟨t4, rfl, h2, h3, rfl, h9, trivial⟩
  intro T H ⟨t4, t5, h2, h3, h4, h9, _⟩
  refine W_seq_ret ?_
  refine RetC_2 (resV_c (u := (V.agg [V.nilsl, (iV (0 : Int)), (iV (0 : Int))])) t4 h4 (by first | rfl | simp [ldB, ldV, Blk.own, V.one])) (resV_t t5) (fz_agg3 (fz_nil ?_) (fz_int ?_) (fz_int ?_)) (fz_bool ?_)
  · rw [clW, if_neg (fun e => d0 e.1)]
  · rw [clF, if_neg (fun e => d0 e.1)]
  · rw [clS, if_neg (fun e => d0 e.1)]
  · exact (decide_eq_false (fun e => d0 e.1)).symm
 have d0 : prE t o.i = 0 := by omega
 have u3 := prE_ok d0
 have u4 := u3.len
 have u5 := u3.lel
 refine W_seq_skip ?_
 refine W_seq_regc (fun T H => T 2 = (V.mp 2 1 0 0) ∧ T 3 = (V.mp 3 1 0 0) ∧ T 4 = (V.mp 4 1 0 0) ∧ T 6 = (iV ((t.ni.length : Nat) : Int)) ∧ T 7 = (iV (0 : Int)) ∧ H 2 = (⟨1, true, false, 34, 2, [[(iV (o.i)), (V.sl (List.map cT (o.tr)))]]⟩ : Blk) ∧ H 3 = (⟨1, true, false, 63, 2, [[(V.sl (List.map cI (t.ni))), (V.sl (List.map cI (t.no)))]]⟩ : Blk) ∧ H 4 = (⟨1, true, false, 67, 3, [[V.nilsl, (iV (0 : Int)), (iV (0 : Int))]]⟩ : Blk) ∧ H 9 = (⟨0, false, false, 0, 0, []⟩ : Blk) ∧ True) ?_ ?_
 ·
  unfold r41_3
  refine R_fld_mp (o' := 0) t3 h3 (by first | rfl | simp [okB, Blk.own]) rfl ?_
  refine R_load_mp (v := (V.sl (List.map cI (t.ni)))) (@rfl V (V.mp 3 1 0 0)) h3 (by first | rfl | simp [ldB, ldV, Blk.own, V.one]) ?_
  refine R_len (@rfl V (V.sl (List.map cI (t.ni)))) ?_
  refine R_mv (@rfl V (iV ((t.ni.length : Nat) : Int))) ?_
  refine R_mv (@rfl V (iV (0 : Int))) ?_
  exact R_nil ⟨t2, t3, t4, rfl, rfl, h2, h3, h4, h9, trivial⟩
 intro T H ⟨t2, t3, t4, t6, t7, h2, h3, h4, h9, _⟩
 refine W_seq_seq ?_
 refine W_seq_regc (fun T H => T 3 = (V.mp 3 1 0 0) ∧ T 4 = (V.mp 4 1 0 0) ∧ T 6 = (iV ((t.ni.length : Nat) : Int)) ∧ T 7 = (iV (0 : Int)) ∧ T 21 = (V.sl (List.map cT (o.tr))) ∧ T 22 = (iV ((o.tr.length : Nat) : Int)) ∧ T 23 = (iV (0 : Int)) ∧ H 2 = (⟨1, true, false, 34, 2, [[(iV (o.i)), (V.sl (List.map cT (o.tr)))]]⟩ : Blk) ∧ H 3 = (⟨1, true, false, 63, 2, [[(V.sl (List.map cI (t.ni))), (V.sl (List.map cI (t.no)))]]⟩ : Blk) ∧ H 4 = (⟨1, true, false, 67, 3, [[V.nilsl, (iV (0 : Int)), (iV (0 : Int))]]⟩ : Blk) ∧ H 9 = (⟨0, false, false, 0, 0, []⟩ : Blk) ∧ True) ?_ ?_
 ·
  unfold r41_4
  refine R_fld_mp (o' := 1) t2 h2 (by first | rfl | simp [okB, Blk.own]) rfl ?_
  refine R_load_mp (v := (V.sl (List.map cT (o.tr)))) (@rfl V (V.mp 2 1 0 1)) h2 (by first | rfl | simp [ldB, ldV, Blk.own, V.one]) ?_
  refine R_len (@rfl V (V.sl (List.map cT (o.tr)))) ?_
  refine R_mv (@rfl V (iV (0 : Int))) ?_
  exact R_nil ⟨t3, t4, t6, t7, rfl, rfl, rfl, h2, h3, h4, h9, trivial⟩
 intro T H ⟨t3, t4, t6, t7, t21, t22, t23, h2, h3, h4, h9, _⟩
 refine W_seq_blockg fun Q2 n2 x2 y2 z2 => ?_
 refine W_loop (fun mm T H => ∃ (k : Nat) (v9 : Nat), mm = o.tr.length - k ∧ T 3 = (V.mp 3 1 0 0) ∧ T 4 = (V.mp 4 1 0 0) ∧ T 6 = (iV (((clA o.tr t k).1 : Nat) : Int)) ∧ T 7 = (iV ((clA o.tr t k).2)) ∧ T 21 = (V.sl (List.map cT (o.tr))) ∧ T 22 = (iV ((o.tr.length : Nat) : Int)) ∧ T 23 = (iV ((k : Nat) : Int)) ∧ H 2 = (⟨1, true, false, 34, 2, [[(iV (o.i)), (V.sl (List.map cT (o.tr)))]]⟩ : Blk) ∧ H 3 = (⟨1, true, false, 63, 2, [[(V.sl (List.map cI (t.ni))), (V.sl (List.map cI (t.no)))]]⟩ : Blk) ∧ H 4 = (⟨1, true, false, 67, 3, [[V.nilsl, (iV (0 : Int)), (iV (0 : Int))]]⟩ : Blk) ∧ (H 9).ver = v9 ∧ (k ≤ o.tr.length)) ?_ ?_
 ·
  refine ⟨_, 0, 0, rfl, t3, t4, (Eq.trans t6 (by first | rfl | (rw [clA_hit d1]; done) | (rw [clA_hit d1]; exact congrArg (V.int .i64) (Int.toNat_of_nonneg d1.1).symm) | (rw [clA_skip d1]; done))), (Eq.trans t7 (by first | rfl | (rw [clA_hit d1]; done) | (rw [clA_hit d1]; exact congrArg (V.int .i64) (Int.toNat_of_nonneg d1.1).symm) | (rw [clA_skip d1]; done))), t21, t22, (Eq.trans t23 (by first | rfl | (rw [clA_hit d1]; done) | (rw [clA_hit d1]; exact congrArg (V.int .i64) (Int.toNat_of_nonneg d1.1).symm) | (rw [clA_skip d1]; done))), h2, h3, h4, (congrArg Blk.ver h9), ?_⟩
  · omega
 intro mm T H ⟨k, v9, hmm, t3, t4, t6, t7, t21, t22, t23, h2, h3, h4, h9, hk⟩ Q3 p13 p23 p33
 unfold b41_0
 refine W_seq_regc (fun T H => T 3 = (V.mp 3 1 0 0) ∧ T 4 = (V.mp 4 1 0 0) ∧ T 6 = (iV (((clA o.tr t k).1 : Nat) : Int)) ∧ T 7 = (iV ((clA o.tr t k).2)) ∧ T 21 = (V.sl (List.map cT (o.tr))) ∧ T 22 = (iV ((o.tr.length : Nat) : Int)) ∧ T 23 = (iV ((k : Nat) : Int)) ∧ T 24 = (V.bool (decide (((k : Nat) : Int) < ((o.tr.length : Nat) : Int)))) ∧ H 2 = (⟨1, true, false, 34, 2, [[(iV (o.i)), (V.sl (List.map cT (o.tr)))]]⟩ : Blk) ∧ H 3 = (⟨1, true, false, 63, 2, [[(V.sl (List.map cI (t.ni))), (V.sl (List.map cI (t.no)))]]⟩ : Blk) ∧ H 4 = (⟨1, true, false, 67, 3, [[V.nilsl, (iV (0 : Int)), (iV (0 : Int))]]⟩ : Blk) ∧ (H 9).ver = v9 ∧ True) ?_ ?_
 ·
  unfold r41_5
  refine R_lss (x := ((k : Nat) : Int)) (y := ((o.tr.length : Nat) : Int)) t23 t22 ?_
  exact R_nil ⟨t3, t4, t6, t7, t21, t22, t23, rfl, h2, h3, h4, h9, trivial⟩
 intro T H ⟨t3, t4, t6, t7, t21, t22, t23, t24, h2, h3, h4, h9, _⟩
 refine W_seq_if (p := ((k : Nat) : Int) < ((o.tr.length : Nat) : Int)) t24 (fun c4 => ?_) (fun c4 => ?_)
 ·
  have u6 := (u2.pr k (by omega)).1.len
  have u7 := df_bnd (nth o.tr k) t
  have u8 := clA_le (l := o.tr) (t := t) k
  have u9 := cmn_l (nth o.tr k).ni t.ni
  refine W_seq_skip ?_
  refine W_seq_blockg fun Q5 n5 x5 y5 z5 => ?_
  refine W_seq_regc (fun T H => T 3 = (V.mp 3 1 0 0) ∧ T 4 = (V.mp 4 1 0 0) ∧ T 6 = (iV (((clA o.tr t k).1 : Nat) : Int)) ∧ T 7 = (iV ((clA o.tr t k).2)) ∧ T 9 = (V.mp 9 (v9 + 1) 0 0) ∧ T 21 = (V.sl (List.map cT (o.tr))) ∧ T 22 = (iV ((o.tr.length : Nat) : Int)) ∧ T 23 = (iV ((k : Nat) : Int)) ∧ H 2 = (⟨1, true, false, 34, 2, [[(iV (o.i)), (V.sl (List.map cT (o.tr)))]]⟩ : Blk) ∧ H 3 = (⟨1, true, false, 63, 2, [[(V.sl (List.map cI (t.ni))), (V.sl (List.map cI (t.no)))]]⟩ : Blk) ∧ H 4 = (⟨1, true, false, 67, 3, [[V.nilsl, (iV (0 : Int)), (iV (0 : Int))]]⟩ : Blk) ∧ H 9 = (⟨v9 + 1, true, false, 63, 2, [[(V.sl (List.map cI ((nth (o.tr) (k)).ni))), (V.sl (List.map cI ((nth (o.tr) (k)).no)))]]⟩ : Blk) ∧ True) ?_ ?_
  ·
   unfold r41_6
   refine R_idx (i := k) t21 t23 (by omega) rfl ?_
   refine R_load_pp (v := (V.agg [(V.sl (List.map cI ((nth (o.tr) (k)).ni))), (V.sl (List.map cI ((nth (o.tr) (k)).no)))])) (@rfl V (V.pp [(V.sl (List.map cI ((nth (o.tr) (k)).ni))), (V.sl (List.map cI ((nth (o.tr) (k)).no)))])) (by first | rfl | simp [ldV]) ?_
   refine R_alloc (i := 9) (n := v9) (m := 2) rfl h9 rfl ?_
   refine R_store (vs := [(V.sl (List.map cI ((nth (o.tr) (k)).ni))), (V.sl (List.map cI ((nth (o.tr) (k)).no)))]) (B' := (⟨v9 + 1, true, false, 63, 2, [[(V.sl (List.map cI ((nth (o.tr) (k)).ni))), (V.sl (List.map cI ((nth (o.tr) (k)).no)))]]⟩ : Blk)) (@rfl V (V.mp 9 (v9 + 1) 0 0)) (@rfl V (V.agg [(V.sl (List.map cI ((nth (o.tr) (k)).ni))), (V.sl (List.map cI ((nth (o.tr) (k)).no)))])) rfl (@rfl Blk (⟨v9 + 1, true, false, 63, 2, [[V.nilsl, V.nilsl]]⟩ : Blk)) (by first | rfl | simp [stB, okB, Blk.own, putAt, V.one]) ?_
   exact R_nil ⟨t3, t4, t6, t7, rfl, t21, t22, t23, h2, h3, h4, rfl, trivial⟩
  intro T H ⟨t3, t4, t6, t7, t9, t21, t22, t23, h2, h3, h4, h9, _⟩
  refine W_seq_regc (fun T H => T 3 = (V.mp 3 1 0 0) ∧ T 4 = (V.mp 4 1 0 0) ∧ T 6 = (iV (((clA o.tr t k).1 : Nat) : Int)) ∧ T 7 = (iV ((clA o.tr t k).2)) ∧ T 9 = (V.mp 9 (v9 + 1) 0 0) ∧ T 10 = (iV (df ((nth (o.tr) (k))) t)) ∧ T 21 = (V.sl (List.map cT (o.tr))) ∧ T 22 = (iV ((o.tr.length : Nat) : Int)) ∧ T 23 = (iV ((k : Nat) : Int)) ∧ H 2 = (⟨1, true, false, 34, 2, [[(iV (o.i)), (V.sl (List.map cT (o.tr)))]]⟩ : Blk) ∧ H 3 = (⟨1, true, false, 63, 2, [[(V.sl (List.map cI (t.ni))), (V.sl (List.map cI (t.no)))]]⟩ : Blk) ∧ H 4 = (⟨1, true, false, 67, 3, [[V.nilsl, (iV (0 : Int)), (iV (0 : Int))]]⟩ : Blk) ∧ H 9 = (⟨v9 + 1, true, false, 63, 2, [[(V.sl (List.map cI ((nth (o.tr) (k)).ni))), (V.sl (List.map cI ((nth (o.tr) (k)).no)))]]⟩ : Blk) ∧ True) ?_ ?_
  ·
   unfold r41_7
   refine R_load_mp (v := (V.agg [(V.sl (List.map cI ((nth (o.tr) (k)).ni))), (V.sl (List.map cI ((nth (o.tr) (k)).no)))])) t9 h9 (by first | rfl | simp [ldB, ldV, Blk.own, V.one]) ?_
   refine R_load_mp (v := (V.agg [(V.sl (List.map cI (t.ni))), (V.sl (List.map cI (t.no)))])) t3 h3 (by first | rfl | simp [ldB, ldV, Blk.own, V.one]) ?_
   refine R_call (evcons (@rfl V (V.agg [(V.sl (List.map cI ((nth (o.tr) (k)).ni))), (V.sl (List.map cI ((nth (o.tr) (k)).no)))])) (evcons (@rfl V (V.agg [(V.sl (List.map cI (t.ni))), (V.sl (List.map cI (t.no)))])) evnil)) (odiffer_pure ((nth (o.tr) (k))) t u6 u4) (fzv_mapcanon _ _ (by simp [-List.map_take, -List.map_drop, -List.map_append, -List.map_reverse])) (by simp [-List.map_take, -List.map_drop, -List.map_append, -List.map_reverse]) (Or.inl (by simp [-List.map_take, -List.map_drop, -List.map_append, -List.map_reverse])) ?_
   refine R_mv (@rfl V (iV (df ((nth (o.tr) (k))) t))) ?_
   exact R_nil ⟨t3, t4, t6, t7, t9, rfl, t21, t22, t23, h2, h3, h4, h9, trivial⟩
  intro T H ⟨t3, t4, t6, t7, t9, t10, t21, t22, t23, h2, h3, h4, h9, _⟩
  refine W_seq_regc (fun T H => T 3 = (V.mp 3 1 0 0) ∧ T 4 = (V.mp 4 1 0 0) ∧ T 6 = (iV (((clA o.tr t k).1 : Nat) : Int)) ∧ T 7 = (iV ((clA o.tr t k).2)) ∧ T 9 = (V.mp 9 (v9 + 1) 0 0) ∧ T 10 = (iV (df ((nth (o.tr) (k))) t)) ∧ T 21 = (V.sl (List.map cT (o.tr))) ∧ T 22 = (iV ((o.tr.length : Nat) : Int)) ∧ T 23 = (iV ((k : Nat) : Int)) ∧ T 36 = (V.bool (decide (((0 : Int) ≤ (df ((nth (o.tr) (k))) t)) ∧ ((df ((nth (o.tr) (k))) t) < (((clA o.tr t k).1 : Nat) : Int))))) ∧ H 2 = (⟨1, true, false, 34, 2, [[(iV (o.i)), (V.sl (List.map cT (o.tr)))]]⟩ : Blk) ∧ H 3 = (⟨1, true, false, 63, 2, [[(V.sl (List.map cI (t.ni))), (V.sl (List.map cI (t.no)))]]⟩ : Blk) ∧ H 4 = (⟨1, true, false, 67, 3, [[V.nilsl, (iV (0 : Int)), (iV (0 : Int))]]⟩ : Blk) ∧ H 9 = (⟨v9 + 1, true, false, 63, 2, [[(V.sl (List.map cI ((nth (o.tr) (k)).ni))), (V.sl (List.map cI ((nth (o.tr) (k)).no)))]]⟩ : Blk) ∧ True) ?_ ?_
  ·
   unfold r41_8
   refine R_mv t10 ?_
   refine R_geq (x := (df ((nth (o.tr) (k))) t)) (y := (0 : Int)) (@rfl V (iV (df ((nth (o.tr) (k))) t))) (@rfl V (iV (0 : Int))) ?_
   refine R_mv (@rfl V (V.bool (decide ((0 : Int) ≤ (df ((nth (o.tr) (k))) t))))) ?_
   refine Ops_seg 4 (fun T H => T 3 = (V.mp 3 1 0 0) ∧ T 4 = (V.mp 4 1 0 0) ∧ T 6 = (iV (((clA o.tr t k).1 : Nat) : Int)) ∧ T 7 = (iV ((clA o.tr t k).2)) ∧ T 9 = (V.mp 9 (v9 + 1) 0 0) ∧ T 10 = (iV (df ((nth (o.tr) (k))) t)) ∧ T 21 = (V.sl (List.map cT (o.tr))) ∧ T 22 = (iV ((o.tr.length : Nat) : Int)) ∧ T 23 = (iV ((k : Nat) : Int)) ∧ T 36 = (V.bool (decide (((0 : Int) ≤ (df ((nth (o.tr) (k))) t)) ∧ ((df ((nth (o.tr) (k))) t) < (((clA o.tr t k).1 : Nat) : Int))))) ∧ H 2 = (⟨1, true, false, 34, 2, [[(iV (o.i)), (V.sl (List.map cT (o.tr)))]]⟩ : Blk) ∧ H 3 = (⟨1, true, false, 63, 2, [[(V.sl (List.map cI (t.ni))), (V.sl (List.map cI (t.no)))]]⟩ : Blk) ∧ H 4 = (⟨1, true, false, 67, 3, [[V.nilsl, (iV (0 : Int)), (iV (0 : Int))]]⟩ : Blk) ∧ H 9 = (⟨v9 + 1, true, false, 63, 2, [[(V.sl (List.map cI ((nth (o.tr) (k)).ni))), (V.sl (List.map cI ((nth (o.tr) (k)).no)))]]⟩ : Blk) ∧ True) ?_ ?_
   ·
    by_cases g6 : (0 : Int) ≤ (df ((nth (o.tr) (k))) t)
    ·
     refine G_yes (Eq.trans (@rfl V (V.bool (decide ((0 : Int) ≤ (df ((nth (o.tr) (k))) t))))) (bdT g6)) ?_
     refine R_mv t10 ?_
     refine G_yes (Eq.trans (@rfl V (V.bool (decide ((0 : Int) ≤ (df ((nth (o.tr) (k))) t))))) (bdT g6)) ?_
     refine R_mv t6 ?_
     refine G_yes (Eq.trans (@rfl V (V.bool (decide ((0 : Int) ≤ (df ((nth (o.tr) (k))) t))))) (bdT g6)) ?_
     refine R_lss (x := (df ((nth (o.tr) (k))) t)) (y := (((clA o.tr t k).1 : Nat) : Int)) (@rfl V (iV (df ((nth (o.tr) (k))) t))) (@rfl V (iV (((clA o.tr t k).1 : Nat) : Int))) ?_
     refine R_pickT (Eq.trans (@rfl V (V.bool (decide ((0 : Int) ≤ (df ((nth (o.tr) (k))) t))))) (bdT g6)) (@rfl V (V.bool (decide ((df ((nth (o.tr) (k))) t) < (((clA o.tr t k).1 : Nat) : Int))))) ?_
     exact ⟨t3, t4, t6, t7, t9, t10, t21, t22, t23, (Eq.trans (@rfl V (V.bool (decide ((df ((nth (o.tr) (k))) t) < (((clA o.tr t k).1 : Nat) : Int))))) (dec_andT g6)), h2, h3, h4, h9, trivial⟩
    ·
     refine G_no (Eq.trans (@rfl V (V.bool (decide ((0 : Int) ≤ (df ((nth (o.tr) (k))) t))))) (bdF g6)) (by decide) ?_
     refine G_no (Eq.trans (@rfl V (V.bool (decide ((0 : Int) ≤ (df ((nth (o.tr) (k))) t))))) (bdF g6)) (by decide) ?_
     refine G_no (Eq.trans (@rfl V (V.bool (decide ((0 : Int) ≤ (df ((nth (o.tr) (k))) t))))) (bdF g6)) (by decide) ?_
     refine R_pickF (Eq.trans (@rfl V (V.bool (decide ((0 : Int) ≤ (df ((nth (o.tr) (k))) t))))) (bdF g6)) (@rfl V (V.bool false)) ?_
     exact ⟨t3, t4, t6, t7, t9, t10, t21, t22, t23, (Eq.trans (@rfl V (V.bool false)) (dec_andF g6)), h2, h3, h4, h9, trivial⟩
   intro T H ⟨t3, t4, t6, t7, t9, t10, t21, t22, t23, t36, h2, h3, h4, h9, _⟩
   exact R_nil ⟨t3, t4, t6, t7, t9, t10, t21, t22, t23, t36, h2, h3, h4, h9, trivial⟩
  intro T H ⟨t3, t4, t6, t7, t9, t10, t21, t22, t23, t36, h2, h3, h4, h9, _⟩
  refine W_if (p := ((0 : Int) ≤ (df ((nth (o.tr) (k))) t)) ∧ ((df ((nth (o.tr) (k))) t) < (((clA o.tr t k).1 : Nat) : Int))) t36 (fun c7 => ?_) (fun c7 => ?_)
  ·
   have d1 := c7
   refine W_regc (fun T H => T 3 = (V.mp 3 1 0 0) ∧ T 4 = (V.mp 4 1 0 0) ∧ T 6 = (iV (df ((nth (o.tr) (k))) t)) ∧ T 7 = (iV ((nth ((nth (o.tr) (k)).no) (df ((nth (o.tr) (k))) t).toNat))) ∧ T 21 = (V.sl (List.map cT (o.tr))) ∧ T 22 = (iV ((o.tr.length : Nat) : Int)) ∧ T 23 = (iV ((k : Nat) : Int)) ∧ H 2 = (⟨1, true, false, 34, 2, [[(iV (o.i)), (V.sl (List.map cT (o.tr)))]]⟩ : Blk) ∧ H 3 = (⟨1, true, false, 63, 2, [[(V.sl (List.map cI (t.ni))), (V.sl (List.map cI (t.no)))]]⟩ : Blk) ∧ H 4 = (⟨1, true, false, 67, 3, [[V.nilsl, (iV (0 : Int)), (iV (0 : Int))]]⟩ : Blk) ∧ H 9 = (⟨v9 + 1, true, false, 63, 2, [[(V.sl (List.map cI ((nth (o.tr) (k)).ni))), (V.sl (List.map cI ((nth (o.tr) (k)).no)))]]⟩ : Blk) ∧ True) ?_ ?_
   ·
    unfold r41_9
    refine R_mv t10 ?_
    refine R_fld_mp (o' := 1) t9 h9 (by first | rfl | simp [okB, Blk.own]) rfl ?_
    refine R_load_mp (v := (V.sl (List.map cI ((nth (o.tr) (k)).no)))) (@rfl V (V.mp 9 (v9 + 1) 0 1)) h9 (by first | rfl | simp [ldB, ldV, Blk.own, V.one]) ?_
    refine R_mv t10 ?_
    refine R_idxI (i := (df ((nth (o.tr) (k))) t)) (@rfl V (V.sl (List.map cI ((nth (o.tr) (k)).no)))) (@rfl V (iV (df ((nth (o.tr) (k))) t))) (by omega) (by omega) rfl ?_
    refine R_load_pp (v := (iV ((nth ((nth (o.tr) (k)).no) (df ((nth (o.tr) (k))) t).toNat)))) (@rfl V (V.pp [(iV ((nth ((nth (o.tr) (k)).no) (df ((nth (o.tr) (k))) t).toNat)))])) (by first | rfl | simp [ldV]) ?_
    refine R_mv (@rfl V (iV (df ((nth (o.tr) (k))) t))) ?_
    refine R_mv (@rfl V (iV ((nth ((nth (o.tr) (k)).no) (df ((nth (o.tr) (k))) t).toNat)))) ?_
    exact R_nil ⟨t3, t4, rfl, rfl, t21, t22, t23, h2, h3, h4, h9, trivial⟩
   intro T H ⟨t3, t4, t6, t7, t21, t22, t23, h2, h3, h4, h9, _⟩
   refine n5 _ _ ?_
   refine .done ?_
   refine W_regc (fun T H => T 3 = (V.mp 3 1 0 0) ∧ T 4 = (V.mp 4 1 0 0) ∧ T 6 = (iV (df ((nth (o.tr) (k))) t)) ∧ T 7 = (iV ((nth ((nth (o.tr) (k)).no) (df ((nth (o.tr) (k))) t).toNat))) ∧ T 21 = (V.sl (List.map cT (o.tr))) ∧ T 22 = (iV ((o.tr.length : Nat) : Int)) ∧ T 23 = (iV ((k + 1 : Nat) : Int)) ∧ H 2 = (⟨1, true, false, 34, 2, [[(iV (o.i)), (V.sl (List.map cT (o.tr)))]]⟩ : Blk) ∧ H 3 = (⟨1, true, false, 63, 2, [[(V.sl (List.map cI (t.ni))), (V.sl (List.map cI (t.no)))]]⟩ : Blk) ∧ H 4 = (⟨1, true, false, 67, 3, [[V.nilsl, (iV (0 : Int)), (iV (0 : Int))]]⟩ : Blk) ∧ H 9 = (⟨v9 + 1, true, false, 63, 2, [[(V.sl (List.map cI ((nth (o.tr) (k)).ni))), (V.sl (List.map cI ((nth (o.tr) (k)).no)))]]⟩ : Blk) ∧ True) ?_ ?_
   ·
    unfold r41_10
    refine R_addN (m := k) (n := 1) t23 (@rfl V (iV ((1 : Nat) : Int))) (by omega) ?_
    refine R_mv (@rfl V (iV ((k + 1 : Nat) : Int))) ?_
    exact R_nil ⟨t3, t4, t6, t7, t21, t22, rfl, h2, h3, h4, h9, trivial⟩
   intro T H ⟨t3, t4, t6, t7, t21, t22, t23, h2, h3, h4, h9, _⟩
   refine p13 _ _ _ ?_ ⟨(k + 1), (v9 + 1), rfl, t3, t4, (Eq.trans t6 (by first | rfl | (rw [clA_hit d1]; done) | (rw [clA_hit d1]; exact congrArg (V.int .i64) (Int.toNat_of_nonneg d1.1).symm) | (rw [clA_skip d1]; done))), (Eq.trans t7 (by first | rfl | (rw [clA_hit d1]; done) | (rw [clA_hit d1]; exact congrArg (V.int .i64) (Int.toNat_of_nonneg d1.1).symm) | (rw [clA_skip d1]; done))), t21, t22, (Eq.trans t23 (by first | rfl | (rw [clA_hit d1]; done) | (rw [clA_hit d1]; exact congrArg (V.int .i64) (Int.toNat_of_nonneg d1.1).symm) | (rw [clA_skip d1]; done))), h2, h3, h4, (congrArg Blk.ver h9), ?_⟩
   · omega
   · omega
  have d1 := c7
  refine W_skip ?_
  refine n5 _ _ ?_
  refine .done ?_
  refine W_regc (fun T H => T 3 = (V.mp 3 1 0 0) ∧ T 4 = (V.mp 4 1 0 0) ∧ T 6 = (iV (((clA o.tr t k).1 : Nat) : Int)) ∧ T 7 = (iV ((clA o.tr t k).2)) ∧ T 21 = (V.sl (List.map cT (o.tr))) ∧ T 22 = (iV ((o.tr.length : Nat) : Int)) ∧ T 23 = (iV ((k + 1 : Nat) : Int)) ∧ H 2 = (⟨1, true, false, 34, 2, [[(iV (o.i)), (V.sl (List.map cT (o.tr)))]]⟩ : Blk) ∧ H 3 = (⟨1, true, false, 63, 2, [[(V.sl (List.map cI (t.ni))), (V.sl (List.map cI (t.no)))]]⟩ : Blk) ∧ H 4 = (⟨1, true, false, 67, 3, [[V.nilsl, (iV (0 : Int)), (iV (0 : Int))]]⟩ : Blk) ∧ H 9 = (⟨v9 + 1, true, false, 63, 2, [[(V.sl (List.map cI ((nth (o.tr) (k)).ni))), (V.sl (List.map cI ((nth (o.tr) (k)).no)))]]⟩ : Blk) ∧ True) ?_ ?_
  ·
   unfold r41_10
   refine R_addN (m := k) (n := 1) t23 (@rfl V (iV ((1 : Nat) : Int))) (by omega) ?_
   refine R_mv (@rfl V (iV ((k + 1 : Nat) : Int))) ?_
   exact R_nil ⟨t3, t4, t6, t7, t21, t22, rfl, h2, h3, h4, h9, trivial⟩
  intro T H ⟨t3, t4, t6, t7, t21, t22, t23, h2, h3, h4, h9, _⟩
  refine p13 _ _ _ ?_ ⟨(k + 1), (v9 + 1), rfl, t3, t4, (Eq.trans t6 (by first | rfl | (rw [clA_hit d1]; done) | (rw [clA_hit d1]; exact congrArg (V.int .i64) (Int.toNat_of_nonneg d1.1).symm) | (rw [clA_skip d1]; done))), (Eq.trans t7 (by first | rfl | (rw [clA_hit d1]; done) | (rw [clA_hit d1]; exact congrArg (V.int .i64) (Int.toNat_of_nonneg d1.1).symm) | (rw [clA_skip d1]; done))), t21, t22, (Eq.trans t23 (by first | rfl | (rw [clA_hit d1]; done) | (rw [clA_hit d1]; exact congrArg (V.int .i64) (Int.toNat_of_nonneg d1.1).symm) | (rw [clA_skip d1]; done))), h2, h3, h4, (congrArg Blk.ver h9), ?_⟩
  · omega
  · omega
 have u8 := clA_le (l := o.tr) (t := t) k
 refine W_seq_exit ?_
 refine p33 _ _ _ ?_
 refine x2 _ _ ?_
 refine .done ?_
 refine W_seq_seq ?_
 refine W_seq_regc (fun T H => T 3 = (V.mp 3 1 0 0) ∧ T 4 = (V.mp 4 1 0 0) ∧ T 6 = (iV (((clA o.tr t k).1 : Nat) : Int)) ∧ T 7 = (iV ((clA o.tr t k).2)) ∧ T 48 = (V.bool (decide ((((clA o.tr t k).1 : Nat) : Int) = ((t.ni.length : Nat) : Int)))) ∧ H 2 = (⟨1, true, false, 34, 2, [[(iV (o.i)), (V.sl (List.map cT (o.tr)))]]⟩ : Blk) ∧ H 3 = (⟨1, true, false, 63, 2, [[(V.sl (List.map cI (t.ni))), (V.sl (List.map cI (t.no)))]]⟩ : Blk) ∧ H 4 = (⟨1, true, false, 67, 3, [[V.nilsl, (iV (0 : Int)), (iV (0 : Int))]]⟩ : Blk) ∧ (H 9).ver = v9 ∧ True) ?_ ?_
 ·
  unfold r41_11
  refine R_mv t6 ?_
  refine R_fld_mp (o' := 0) t3 h3 (by first | rfl | simp [okB, Blk.own]) rfl ?_
  refine R_load_mp (v := (V.sl (List.map cI (t.ni)))) (@rfl V (V.mp 3 1 0 0)) h3 (by first | rfl | simp [ldB, ldV, Blk.own, V.one]) ?_
  refine R_len (@rfl V (V.sl (List.map cI (t.ni)))) ?_
  refine R_eql (x := (((clA o.tr t k).1 : Nat) : Int)) (y := ((t.ni.length : Nat) : Int)) (@rfl V (iV (((clA o.tr t k).1 : Nat) : Int))) (@rfl V (iV ((t.ni.length : Nat) : Int))) ?_
  exact R_nil ⟨t3, t4, t6, t7, rfl, h2, h3, h4, h9, trivial⟩
 intro T H ⟨t3, t4, t6, t7, t48, h2, h3, h4, h9, _⟩
 refine W_seq_if (p := (((clA o.tr t k).1 : Nat) : Int) = ((t.ni.length : Nat) : Int)) t48 (fun c8 => ?_) (fun c8 => ?_)
 ·
  have d2 := c8
  refine W_seq_seq ?_
  refine W_seq_regc (fun T H => T 4 = (V.mp 4 1 0 0) ∧ T 5 = (V.bool false) ∧ H 2 = (⟨1, true, false, 34, 2, [[(iV (o.i)), (V.sl (List.map cT (o.tr)))]]⟩ : Blk) ∧ H 3 = (⟨1, true, false, 63, 2, [[(V.sl (List.map cI (t.ni))), (V.sl (List.map cI (t.no)))]]⟩ : Blk) ∧ H 4 = (⟨1, true, false, 67, 3, [[V.nilsl, (iV (0 : Int)), (iV (0 : Int))]]⟩ : Blk) ∧ (H 9).ver = v9 ∧ True) ?_ ?_
  ·
   unfold r41_12
   refine R_build (qs := []) (cs := [V.nilsl, (iV (0 : Int)), (iV (0 : Int))]) rfl rfl ?_
   refine R_store (vs := [V.nilsl, (iV (0 : Int)), (iV (0 : Int))]) (B' := (⟨1, true, false, 67, 3, [[V.nilsl, (iV (0 : Int)), (iV (0 : Int))]]⟩ : Blk)) t4 (@rfl V (V.agg [V.nilsl, (iV (0 : Int)), (iV (0 : Int))])) rfl h4 (by first | rfl | simp [stB, okB, Blk.own, putAt, V.one]) ?_
   refine R_mv (@rfl V (V.bool false)) ?_
   exact R_nil ⟨t4, rfl, h2, h3, rfl, h9, trivial⟩
  intro T H ⟨t4, t5, h2, h3, h4, h9, _⟩
  refine W_seq_ret ?_
  refine RetC_2 (resV_c (u := (V.agg [V.nilsl, (iV (0 : Int)), (iV (0 : Int))])) t4 h4 (by first | rfl | simp [ldB, ldV, Blk.own, V.one])) (resV_t t5) (fz_agg3 (fz_nil ?_) (fz_int ?_) (fz_int ?_)) (fz_bool ?_)
  · have e0 : k = o.tr.length := by omega
    subst e0
    rw [clW, if_neg (fun e => e.2 (by omega))]
  · have e0 : k = o.tr.length := by omega
    subst e0
    rw [clF, if_neg (fun e => e.2 (by omega))]
  · have e0 : k = o.tr.length := by omega
    subst e0
    rw [clS, if_neg (fun e => e.2 (by omega))]
  · have e0 : k = o.tr.length := by omega
    subst e0
    exact (decide_eq_false (fun e => e.2 (by omega))).symm
 have d2 := c8
 refine W_seq_skip ?_
 refine W_seq_regc (fun T H => T 4 = (V.mp 4 1 0 0) ∧ T 5 = (V.bool true) ∧ H 2 = (⟨1, true, false, 34, 2, [[(iV (o.i)), (V.sl (List.map cT (o.tr)))]]⟩ : Blk) ∧ H 3 = (⟨1, true, false, 63, 2, [[(V.sl (List.map cI (t.ni))), (V.sl (List.map cI (t.no)))]]⟩ : Blk) ∧ H 4 = (⟨1, true, false, 67, 3, [[(V.sl (List.map cI ((List.take (((clA o.tr t k).1) + 1) (t.ni))))), (iV ((clA o.tr t k).2)), (iV ((nth (t.no) ((clA o.tr t k).1))))]]⟩ : Blk) ∧ (H 9).ver = v9 ∧ True) ?_ ?_
 ·
  unfold r41_13
  refine R_fld_mp (o' := 0) t3 h3 (by first | rfl | simp [okB, Blk.own]) rfl ?_
  refine R_load_mp (v := (V.sl (List.map cI (t.ni)))) (@rfl V (V.mp 3 1 0 0)) h3 (by first | rfl | simp [ldB, ldV, Blk.own, V.one]) ?_
  refine R_mv t6 ?_
  refine R_addN (m := ((clA o.tr t k).1)) (n := 1) (@rfl V (iV (((clA o.tr t k).1 : Nat) : Int))) (@rfl V (iV ((1 : Nat) : Int))) (by omega) ?_
  refine R_slice_hi (n := (((clA o.tr t k).1) + 1)) (@rfl V (V.sl (List.map cI (t.ni)))) (@rfl V (iV ((((clA o.tr t k).1) + 1 : Nat) : Int))) (by omega) (fun _ => rfl) ?_
  refine R_call (evcons (@rfl V (V.sl (List.map cI (List.take (((clA o.tr t k).1) + 1) (t.ni))))) evnil) (clone_pure (List.take (((clA o.tr t k).1) + 1) (t.ni)) (by simp; omega)) (fzv_mapcanon _ _ (by simp [-List.map_take, -List.map_drop, -List.map_append, -List.map_reverse])) (by simp [-List.map_take, -List.map_drop, -List.map_append, -List.map_reverse]) (Or.inl (by simp [-List.map_take, -List.map_drop, -List.map_append, -List.map_reverse])) ?_
  refine R_mv t7 ?_
  refine R_fld_mp (o' := 1) t3 h3 (by first | rfl | simp [okB, Blk.own]) rfl ?_
  refine R_load_mp (v := (V.sl (List.map cI (t.no)))) (@rfl V (V.mp 3 1 0 1)) h3 (by first | rfl | simp [ldB, ldV, Blk.own, V.one]) ?_
  refine R_mv t6 ?_
  refine R_idx (i := ((clA o.tr t k).1)) (@rfl V (V.sl (List.map cI (t.no)))) (@rfl V (iV (((clA o.tr t k).1 : Nat) : Int))) (by omega) rfl ?_
  refine R_load_pp (v := (iV ((nth (t.no) ((clA o.tr t k).1))))) (@rfl V (V.pp [(iV ((nth (t.no) ((clA o.tr t k).1))))])) (by first | rfl | simp [ldV]) ?_
  refine R_build (qs := [(0, 1, (V.sl (List.map cI ((List.take (((clA o.tr t k).1) + 1) (t.ni)))))), (1, 1, (iV ((clA o.tr t k).2))), (2, 1, (iV ((nth (t.no) ((clA o.tr t k).1)))))]) (cs := [(V.sl (List.map cI ((List.take (((clA o.tr t k).1) + 1) (t.ni))))), (iV ((clA o.tr t k).2)), (iV ((nth (t.no) ((clA o.tr t k).1))))]) (mcons (congrArg (fun v => (0, 1, v)) (@rfl V (V.sl (List.map cI ((List.take (((clA o.tr t k).1) + 1) (t.ni))))))) (mcons (congrArg (fun v => (1, 1, v)) (@rfl V (iV ((clA o.tr t k).2)))) (mcons (congrArg (fun v => (2, 1, v)) (@rfl V (iV ((nth (t.no) ((clA o.tr t k).1)))))) rfl))) rfl ?_
  refine R_store (vs := [(V.sl (List.map cI ((List.take (((clA o.tr t k).1) + 1) (t.ni))))), (iV ((clA o.tr t k).2)), (iV ((nth (t.no) ((clA o.tr t k).1))))]) (B' := (⟨1, true, false, 67, 3, [[(V.sl (List.map cI ((List.take (((clA o.tr t k).1) + 1) (t.ni))))), (iV ((clA o.tr t k).2)), (iV ((nth (t.no) ((clA o.tr t k).1))))]]⟩ : Blk)) t4 (@rfl V (V.agg [(V.sl (List.map cI ((List.take (((clA o.tr t k).1) + 1) (t.ni))))), (iV ((clA o.tr t k).2)), (iV ((nth (t.no) ((clA o.tr t k).1))))])) rfl h4 (by first | rfl | simp [stB, okB, Blk.own, putAt, V.one]) ?_
  refine R_mv (@rfl V (V.bool true)) ?_
  exact R_nil ⟨t4, rfl, h2, h3, rfl, h9, trivial⟩
 intro T H ⟨t4, t5, h2, h3, h4, h9, _⟩
 refine W_ret ?_
 refine RetC_2 (resV_c (u := (V.agg [(V.sl (List.map cI ((List.take (((clA o.tr t k).1) + 1) (t.ni))))), (iV ((clA o.tr t k).2)), (iV ((nth (t.no) ((clA o.tr t k).1))))])) t4 h4 (by first | rfl | simp [ldB, ldV, Blk.own, V.one])) (resV_t t5) (fz_agg3 (fz_sl ?_ (fun _ => by simp)) (fz_int ?_) (fz_int ?_)) (fz_bool ?_)
 · have e0 : k = o.tr.length := by omega
   subst e0
   rw [clW, if_pos ⟨d0, by omega⟩]
 · have e0 : k = o.tr.length := by omega
   subst e0
   rw [clF, if_pos ⟨d0, by omega⟩]
 · have e0 : k = o.tr.length := by omega
   subst e0
   rw [clS, if_pos ⟨d0, by omega⟩]
 · have e0 : k = o.tr.length := by omega
   subst e0
   exact (decide_eq_true ⟨d0, by omega⟩).symm

end Go.Proofs.Ytngkckefanbhgaa

namespace Go.Proofs.Ytngkckefanbhgaa
open Go Go.Proofs

def r42_0 : List SO := [
  ⟨none, some 2, .box 34 2 (.t 0)⟩,
  ⟨none, some 3, .box 63 2 (.t 1)⟩,
  ⟨none, some 4, .alloc 67 [.nilsl, .int .i64 0, .int .i64 0]⟩,
  ⟨none, some 5, .mv (.c (.bool false))⟩]
def r42_1 : List SO := [
  ⟨none, some 10, .load true 2 (.t 3)⟩,
  ⟨none, some 11, .fld 0 (.t 2)⟩,
  ⟨none, some 12, .load false 1 (.t 11)⟩,
  ⟨none, some 13, .call false 60 [.t 10, .t 12]⟩,
  ⟨none, some 14, .bin .neq (.t 13) (.c (.int .i64 0))⟩]
def r42_2 : List SO := [
  ⟨none, some 15, .build [.nilsl, .int .i64 0, .int .i64 0] []⟩,
  ⟨none, none, .store 3 (.t 4) (.t 15)⟩,
  ⟨none, some 5, .mv (.c (.bool false))⟩]
def r42_3 : List SO := [
  ⟨none, some 6, .mv (.c (.int .i64 (-1)))⟩,
  ⟨none, some 7, .mv (.c (.int .i64 0))⟩]
def r42_4 : List SO := [
  ⟨none, some 8, .mv (.c (.int .i64 0))⟩]
def r42_5 : List SO := [
  ⟨none, some 16, .mv (.t 8)⟩,
  ⟨none, some 17, .fld 1 (.t 2)⟩,
  ⟨none, some 18, .load false 1 (.t 17)⟩,
  ⟨none, some 19, .len (.t 18)⟩,
  ⟨none, some 20, .bin .lss (.t 16) (.t 19)⟩]
def r42_7 : List SO := [
  ⟨none, some 23, .fld 1 (.t 2)⟩,
  ⟨none, some 24, .load false 1 (.t 23)⟩,
  ⟨none, some 25, .mv (.t 8)⟩,
  ⟨none, some 26, .idx 2 (.t 24) (.t 25)⟩,
  ⟨none, some 27, .load true 2 (.t 26)⟩,
  ⟨none, some 28, .load true 2 (.t 3)⟩,
  ⟨none, some 29, .call false 85 [.t 27, .t 28]⟩,
  ⟨none, some 9, .mv (.t 29)⟩]
def r42_8 : List SO := [
  ⟨none, some 30, .mv (.t 9)⟩,
  ⟨none, some 31, .bin .geq (.t 30) (.c (.int .i64 0))⟩,
  ⟨none, some 32, .mv (.t 31)⟩,
  ⟨some (32, true), some 33, .mv (.t 6)⟩,
  ⟨some (32, true), some 34, .bin .lss (.t 33) (.c (.int .i64 0))⟩,
  ⟨some (32, true), some 35, .mv (.t 34)⟩,
  ⟨some (35, false), some 36, .mv (.t 9)⟩,
  ⟨some (35, false), some 37, .mv (.t 6)⟩,
  ⟨some (35, false), some 38, .bin .lss (.t 36) (.t 37)⟩,
  ⟨some (32, true), some 39, .pick (.t 35) (.c (.bool true)) (.t 38)⟩,
  ⟨none, some 40, .pick (.t 32) (.t 39) (.c (.bool false))⟩]
def r42_9 : List SO := [
  ⟨none, some 41, .mv (.t 9)⟩,
  ⟨none, some 6, .mv (.t 41)⟩]
def r42_10 : List SO := [
  ⟨none, some 42, .fld 1 (.t 2)⟩,
  ⟨none, some 43, .load false 1 (.t 42)⟩,
  ⟨none, some 44, .mv (.t 8)⟩,
  ⟨none, some 45, .idx 2 (.t 43) (.t 44)⟩,
  ⟨none, some 46, .fld 1 (.t 45)⟩,
  ⟨none, some 47, .load false 1 (.t 46)⟩,
  ⟨none, some 48, .mv (.t 9)⟩,
  ⟨none, some 49, .idx 1 (.t 47) (.t 48)⟩,
  ⟨none, some 50, .load false 1 (.t 49)⟩,
  ⟨none, some 7, .mv (.t 50)⟩]
def r42_6 : List SO := [
  ⟨none, some 21, .mv (.t 8)⟩,
  ⟨none, some 22, .bin .add (.t 21) (.c (.int .i64 1))⟩,
  ⟨none, some 8, .mv (.t 22)⟩]
def b42_0 : SC := .seq (.seq (.reg r42_5) (.cond (.t 20) (.skip) (.exit 0))) (.seq (.block 1 (.seq (.reg r42_7) (.seq (.reg r42_8) (.cond (.t 40) (.seq (.reg r42_9) (.reg r42_10)) (.skip))))) (.reg r42_6))
def r42_11 : List SO := [
  ⟨none, some 51, .mv (.t 6)⟩,
  ⟨none, some 52, .bin .lss (.t 51) (.c (.int .i64 0))⟩]
def r42_12 : List SO := [
  ⟨none, some 53, .build [.nilsl, .int .i64 0, .int .i64 0] []⟩,
  ⟨none, none, .store 3 (.t 4) (.t 53)⟩,
  ⟨none, some 5, .mv (.c (.bool false))⟩]
def r42_13 : List SO := [
  ⟨none, some 54, .fld 0 (.t 3)⟩,
  ⟨none, some 55, .load false 1 (.t 54)⟩,
  ⟨none, some 56, .mv (.t 6)⟩,
  ⟨none, some 57, .bin .add (.t 56) (.c (.int .i64 1))⟩,
  ⟨none, some 58, .slice 1 (.t 55) none (some (.t 57))⟩,
  ⟨none, some 59, .bslice 35 1 false [.nilsl] 1 [(0, .t 58)]⟩,
  ⟨none, some 60, .call false 35 [.t 59]⟩,
  ⟨none, some 61, .mv (.t 7)⟩,
  ⟨none, some 62, .fld 1 (.t 3)⟩,
  ⟨none, some 63, .load false 1 (.t 62)⟩,
  ⟨none, some 64, .mv (.t 6)⟩,
  ⟨none, some 65, .idx 1 (.t 63) (.t 64)⟩,
  ⟨none, some 66, .load false 1 (.t 65)⟩,
  ⟨none, some 67, .build [.nilsl, .int .i64 0, .int .i64 0] [(0, 1, .t 60), (1, 1, .t 61), (2, 1, .t 66)]⟩,
  ⟨none, none, .store 3 (.t 4) (.t 67)⟩,
  ⟨none, some 5, .mv (.c (.bool true))⟩]
def s42 : SF := ⟨68, [.cell 4 true 3, .tmp 5], .seq (.reg r42_0) (.seq (.seq (.reg r42_1) (.cond (.t 14) (.seq (.reg r42_2) (.ret)) (.skip))) (.seq (.reg r42_3) (.seq (.seq (.reg r42_4) (.block 0 (.loop b42_0))) (.seq (.seq (.reg r42_11) (.cond (.t 52) (.seq (.reg r42_12) (.ret)) (.skip))) (.seq (.reg r42_13) (.ret))))))⟩
theorem s42_ok : slimF Try.prog ⟨[94, 102, 103, 108, 109, 116, 119, 121, 125], []⟩ Try.f42 = some s42 := by kernel_rfl

end Go.Proofs.Ytngkckefanbhgaa

namespace Go.Proofs.Ytngkckefanbhgaa
open Go Go.Proofs

def r60_0 : List SO := [
  ⟨none, some 2, .box 63 2 (.t 0)⟩,
  ⟨none, some 4, .mv (.c (.int .i64 0))⟩]
def r60_1 : List SO := [
  ⟨none, some 7, .fld 0 (.t 2)⟩,
  ⟨none, some 8, .load false 1 (.t 7)⟩,
  ⟨none, some 9, .mv (.t 1)⟩,
  ⟨none, some 10, .call false 58 [.t 8, .t 9]⟩,
  ⟨none, some 5, .mv (.t 10)⟩]
def r60_2 : List SO := [
  ⟨none, some 11, .mv (.t 5)⟩,
  ⟨none, some 12, .bin .neq (.t 11) (.c (.int .i64 0))⟩]
def r60_3 : List SO := [
  ⟨none, some 13, .mv (.t 5)⟩,
  ⟨none, some 4, .mv (.t 13)⟩]
def r60_4 : List SO := [
  ⟨none, some 14, .fld 1 (.t 2)⟩,
  ⟨none, some 15, .load false 1 (.t 14)⟩,
  ⟨none, some 16, .len (.t 15)⟩,
  ⟨none, some 17, .fld 0 (.t 2)⟩,
  ⟨none, some 18, .load false 1 (.t 17)⟩,
  ⟨none, some 19, .len (.t 18)⟩,
  ⟨none, some 20, .bin .neq (.t 16) (.t 19)⟩]
def r60_5 : List SO := [
  ⟨none, some 4, .mv (.c (.int .i64 1))⟩]
def r60_6 : List SO := [
  ⟨none, some 6, .mv (.c (.int .i64 0))⟩]
def r60_7 : List SO := [
  ⟨none, some 21, .mv (.t 6)⟩,
  ⟨none, some 22, .fld 1 (.t 2)⟩,
  ⟨none, some 23, .load false 1 (.t 22)⟩,
  ⟨none, some 24, .len (.t 23)⟩,
  ⟨none, some 25, .bin .lss (.t 21) (.t 24)⟩]
def r60_9 : List SO := [
  ⟨none, some 28, .fld 1 (.t 2)⟩,
  ⟨none, some 29, .load false 1 (.t 28)⟩,
  ⟨none, some 30, .mv (.t 6)⟩,
  ⟨none, some 31, .idx 1 (.t 29) (.t 30)⟩,
  ⟨none, some 32, .load false 1 (.t 31)⟩,
  ⟨none, some 33, .bin .lss (.t 32) (.c (.int .i64 0))⟩,
  ⟨none, some 34, .mv (.t 33)⟩,
  ⟨some (34, false), some 35, .fld 1 (.t 2)⟩,
  ⟨some (34, false), some 36, .load false 1 (.t 35)⟩,
  ⟨some (34, false), some 37, .mv (.t 6)⟩,
  ⟨some (34, false), some 38, .idx 1 (.t 36) (.t 37)⟩,
  ⟨some (34, false), some 39, .load false 1 (.t 38)⟩,
  ⟨some (34, false), some 40, .bin .gtr (.t 39) (.c (.int .i64 1048576))⟩,
  ⟨none, some 41, .pick (.t 34) (.c (.bool true)) (.t 40)⟩]
def r60_10 : List SO := [
  ⟨none, some 4, .mv (.c (.int .i64 2))⟩]
def r60_8 : List SO := [
  ⟨none, some 26, .mv (.t 6)⟩,
  ⟨none, some 27, .bin .add (.t 26) (.c (.int .i64 1))⟩,
  ⟨none, some 6, .mv (.t 27)⟩]
def b60_0 : SC := .seq (.seq (.reg r60_7) (.cond (.t 25) (.skip) (.exit 0))) (.seq (.block 1 (.seq (.reg r60_9) (.cond (.t 41) (.seq (.reg r60_10) (.ret)) (.skip)))) (.reg r60_8))
def r60_11 : List SO := [
  ⟨none, some 4, .mv (.c (.int .i64 0))⟩]
def s60 : SF := ⟨42, [.tmp 4], .seq (.reg r60_0) (.seq (.seq (.reg r60_1) (.seq (.reg r60_2) (.cond (.t 12) (.seq (.reg r60_3) (.ret)) (.skip)))) (.seq (.seq (.reg r60_4) (.cond (.t 20) (.seq (.reg r60_5) (.ret)) (.skip))) (.seq (.seq (.reg r60_6) (.block 0 (.loop b60_0))) (.seq (.reg r60_11) (.ret)))))⟩
theorem s60_ok : slimF Try.prog ⟨[94, 102, 103, 108, 109, 116, 119, 121, 125], []⟩ Try.f60 = some s60 := by kernel_rfl

end Go.Proofs.Ytngkckefanbhgaa

namespace Go.Proofs.Ytngkckefanbhgaa
open Go Go.Proofs

def r58_0 : List SO := [
  ⟨none, some 4, .mv (.c (.int .i64 0))⟩]
def r58_1 : List SO := [
  ⟨none, some 6, .mv (.t 1)⟩,
  ⟨none, some 7, .call false 96 [.t 6]⟩,
  ⟨none, some 8, .un .not (.t 7)⟩]
def r58_2 : List SO := [
  ⟨none, some 4, .mv (.c (.int .i64 2))⟩]
def r58_3 : List SO := [
  ⟨none, some 9, .mv (.t 0)⟩,
  ⟨none, some 10, .len (.t 9)⟩,
  ⟨none, some 11, .bin .gtr (.t 10) (.c (.int .i64 1024))⟩]
def r58_4 : List SO := [
  ⟨none, some 4, .mv (.c (.int .i64 3))⟩]
def r58_5 : List SO := [
  ⟨none, some 5, .mv (.c (.int .i64 0))⟩]
def r58_6 : List SO := [
  ⟨none, some 12, .mv (.t 5)⟩,
  ⟨none, some 13, .mv (.t 0)⟩,
  ⟨none, some 14, .len (.t 13)⟩,
  ⟨none, some 15, .bin .lss (.t 12) (.t 14)⟩]
def r58_8 : List SO := [
  ⟨none, some 18, .mv (.t 0)⟩,
  ⟨none, some 19, .mv (.t 5)⟩,
  ⟨none, some 20, .idx 1 (.t 18) (.t 19)⟩,
  ⟨none, some 21, .load false 1 (.t 20)⟩,
  ⟨none, some 22, .bin .lss (.t 21) (.c (.int .i64 0))⟩,
  ⟨none, some 23, .mv (.t 22)⟩,
  ⟨some (23, false), some 24, .mv (.t 0)⟩,
  ⟨some (23, false), some 25, .mv (.t 5)⟩,
  ⟨some (23, false), some 26, .idx 1 (.t 24) (.t 25)⟩,
  ⟨some (23, false), some 27, .load false 1 (.t 26)⟩,
  ⟨some (23, false), some 28, .mv (.t 1)⟩,
  ⟨some (23, false), some 29, .bin .geq (.t 27) (.t 28)⟩,
  ⟨none, some 30, .pick (.t 23) (.c (.bool true)) (.t 29)⟩]
def r58_9 : List SO := [
  ⟨none, some 4, .mv (.c (.int .i64 1))⟩]
def r58_7 : List SO := [
  ⟨none, some 16, .mv (.t 5)⟩,
  ⟨none, some 17, .bin .add (.t 16) (.c (.int .i64 1))⟩,
  ⟨none, some 5, .mv (.t 17)⟩]
def b58_0 : SC := .seq (.seq (.reg r58_6) (.cond (.t 15) (.skip) (.exit 0))) (.seq (.block 1 (.seq (.reg r58_8) (.cond (.t 30) (.seq (.reg r58_9) (.ret)) (.skip)))) (.reg r58_7))
def r58_10 : List SO := [
  ⟨none, some 4, .mv (.c (.int .i64 0))⟩]
def s58 : SF := ⟨31, [.tmp 4], .seq (.reg r58_0) (.seq (.seq (.reg r58_1) (.cond (.t 8) (.seq (.reg r58_2) (.ret)) (.skip))) (.seq (.seq (.reg r58_3) (.cond (.t 11) (.seq (.reg r58_4) (.ret)) (.skip))) (.seq (.seq (.reg r58_5) (.block 0 (.loop b58_0))) (.seq (.reg r58_10) (.ret)))))⟩
theorem s58_ok : slimF Try.prog ⟨[94, 102, 103, 108, 109, 116, 119, 121, 125], []⟩ Try.f58 = some s58 := by kernel_rfl

end Go.Proofs.Ytngkckefanbhgaa

namespace Go.Proofs.Ytngkckefanbhgaa
open Go Go.Proofs

def r96_0 : List SO := [
  ⟨none, some 2, .mv (.c (.bool false))⟩]
def r96_1 : List SO := [
  ⟨none, some 3, .mv (.t 0)⟩,
  ⟨none, some 4, .bin .geq (.t 3) (.c (.int .i64 1))⟩,
  ⟨none, some 5, .mv (.t 4)⟩,
  ⟨some (5, true), some 6, .mv (.t 0)⟩,
  ⟨some (5, true), some 7, .bin .leq (.t 6) (.c (.int .i64 1024))⟩,
  ⟨none, some 8, .pick (.t 5) (.t 7) (.c (.bool false))⟩,
  ⟨none, some 2, .mv (.t 8)⟩]
def s96 : SF := ⟨9, [.tmp 2], .seq (.reg r96_0) (.seq (.reg r96_1) (.ret))⟩
theorem s96_ok : slimF Try.prog ⟨[94, 102, 103, 108, 109, 116, 119, 121, 125], []⟩ Try.f96 = some s96 := by kernel_rfl

end Go.Proofs.Ytngkckefanbhgaa

namespace Go.Proofs.Ytngkckefanbhgaa
open Go Go.Proofs

theorem size_pure (n : Int) : PureC Try.prog 96 [(iV (n))] (V.bool (decide (1 ≤ n ∧ n ≤ 1024))) := by
 refine pure_of_Wb true 6 Try.func96 s96_ok (by kernel_rfl) (by simp [s96]) (by simp) (by simp) fun hB => ?_
 simp only [bnd_map, bnd_int, bnd_bool, bnd_str, bnd_agg, bnd_pp, bnd_nil, bnd_cons, implies_true, and_true, true_and] at hB
 unfold s96
 dsimp only
 refine W_seq_regc (fun T H => T 0 = (iV (n)) ∧ True) ?_ ?_
 ·
  unfold r96_0
  refine R_mv (@rfl V (V.bool false)) ?_
  exact R_nil ⟨rfl, trivial⟩
 intro T H ⟨t0, _⟩
 refine W_seq_regc (fun T H => T 2 = (V.bool (decide (((1 : Int) ≤ (n)) ∧ ((n) ≤ (1024 : Int))))) ∧ True) ?_ ?_
 ·
  unfold r96_1
  refine R_mv t0 ?_
  refine R_geq (x := (n)) (y := (1 : Int)) (@rfl V (iV (n))) (@rfl V (iV (1 : Int))) ?_
  refine R_mv (@rfl V (V.bool (decide ((1 : Int) ≤ (n))))) ?_
  refine Ops_seg 3 (fun T H => T 8 = (V.bool (decide (((1 : Int) ≤ (n)) ∧ ((n) ≤ (1024 : Int))))) ∧ True) ?_ ?_
  ·
   by_cases g1 : (1 : Int) ≤ (n)
   ·
    refine G_yes (Eq.trans (@rfl V (V.bool (decide ((1 : Int) ≤ (n))))) (bdT g1)) ?_
    refine R_mv t0 ?_
    refine G_yes (Eq.trans (@rfl V (V.bool (decide ((1 : Int) ≤ (n))))) (bdT g1)) ?_
    refine R_leq (x := (n)) (y := (1024 : Int)) (@rfl V (iV (n))) (@rfl V (iV (1024 : Int))) ?_
    refine R_pickT (Eq.trans (@rfl V (V.bool (decide ((1 : Int) ≤ (n))))) (bdT g1)) (@rfl V (V.bool (decide ((n) ≤ (1024 : Int))))) ?_
    exact ⟨(Eq.trans (@rfl V (V.bool (decide ((n) ≤ (1024 : Int))))) (dec_andT g1)), trivial⟩
   ·
    refine G_no (Eq.trans (@rfl V (V.bool (decide ((1 : Int) ≤ (n))))) (bdF g1)) (by decide) ?_
    refine G_no (Eq.trans (@rfl V (V.bool (decide ((1 : Int) ≤ (n))))) (bdF g1)) (by decide) ?_
    refine R_pickF (Eq.trans (@rfl V (V.bool (decide ((1 : Int) ≤ (n))))) (bdF g1)) (@rfl V (V.bool false)) ?_
    exact ⟨(Eq.trans (@rfl V (V.bool false)) (dec_andF g1)), trivial⟩
  intro T H ⟨t8, _⟩
  refine R_mv t8 ?_
  exact R_nil ⟨rfl, trivial⟩
 intro T H ⟨t2, _⟩
 refine W_ret ?_
 refine Ret_1 t2 (fz_bool ?_)
 · first | rfl | omega | simp_all

end Go.Proofs.Ytngkckefanbhgaa

namespace Go.Proofs.Ytngkckefanbhgaa
open Go Go.Proofs

theorem rcheck_pure (w : List Int) (n : Int) : PureC Try.prog 58 [(V.sl (List.map cI (w))), (iV (n))] (iV (wchk w n)) := by
 refine pure_of_Wb true 6 Try.func58 s58_ok (by kernel_rfl) (by simp [s58]) (by simp) (by simp) fun hB => ?_
 simp only [bnd_map, bnd_int, bnd_bool, bnd_str, bnd_agg, bnd_pp, bnd_nil, bnd_cons, implies_true, and_true, true_and] at hB
 unfold s58
 dsimp only
 refine W_seq_regc (fun T H => T 0 = (V.sl (List.map cI (w))) ∧ T 1 = (iV (n)) ∧ True) ?_ ?_
 ·
  unfold r58_0
  refine R_mv (@rfl V (iV (0 : Int))) ?_
  exact R_nil ⟨rfl, rfl, trivial⟩
 intro T H ⟨t0, t1, _⟩
 refine W_seq_seq ?_
 refine W_seq_regc (fun T H => T 0 = (V.sl (List.map cI (w))) ∧ T 1 = (iV (n)) ∧ T 8 = (V.bool (decide (¬(1 ≤ ((n)) ∧ ((n)) ≤ 1024)))) ∧ True) ?_ ?_
 ·
  unfold r58_1
  refine R_mv t1 ?_
  refine R_call (evcons (@rfl V (iV (n))) evnil) (size_pure ((n))) (fzv_mapcanon _ _ (by simp [-List.map_take, -List.map_drop, -List.map_append, -List.map_reverse])) (by simp [-List.map_take, -List.map_drop, -List.map_append, -List.map_reverse]) (Or.inl (by simp [-List.map_take, -List.map_drop, -List.map_append, -List.map_reverse])) ?_
  refine R_not (p := 1 ≤ ((n)) ∧ ((n)) ≤ 1024) (@rfl V (V.bool (decide (1 ≤ ((n)) ∧ ((n)) ≤ 1024)))) ?_
  exact R_nil ⟨t0, t1, rfl, trivial⟩
 intro T H ⟨t0, t1, t8, _⟩
 refine W_seq_if (p := ¬(1 ≤ ((n)) ∧ ((n)) ≤ 1024)) t8 (fun c1 => ?_) (fun c1 => ?_)
 ·
  refine W_seq_seq ?_
  refine W_seq_regc (fun T H => T 4 = (iV (2 : Int)) ∧ True) ?_ ?_
  ·
   unfold r58_2
   refine R_mv (@rfl V (iV (2 : Int))) ?_
   exact R_nil ⟨rfl, trivial⟩
  intro T H ⟨t4, _⟩
  refine W_seq_ret ?_
  refine Ret_1 t4 (fz_int ?_)
  · rw [wchk, if_pos (by omega)]
 refine W_seq_skip ?_
 refine W_seq_seq ?_
 refine W_seq_regc (fun T H => T 0 = (V.sl (List.map cI (w))) ∧ T 1 = (iV (n)) ∧ T 11 = (V.bool (decide ((1024 : Int) < ((w.length : Nat) : Int)))) ∧ True) ?_ ?_
 ·
  unfold r58_3
  refine R_mv t0 ?_
  refine R_len (@rfl V (V.sl (List.map cI (w)))) ?_
  refine R_gtr (x := ((w.length : Nat) : Int)) (y := (1024 : Int)) (@rfl V (iV ((w.length : Nat) : Int))) (@rfl V (iV (1024 : Int))) ?_
  exact R_nil ⟨t0, t1, rfl, trivial⟩
 intro T H ⟨t0, t1, t11, _⟩
 refine W_seq_if (p := (1024 : Int) < ((w.length : Nat) : Int)) t11 (fun c2 => ?_) (fun c2 => ?_)
 ·
  refine W_seq_seq ?_
  refine W_seq_regc (fun T H => T 4 = (iV (3 : Int)) ∧ True) ?_ ?_
  ·
   unfold r58_4
   refine R_mv (@rfl V (iV (3 : Int))) ?_
   exact R_nil ⟨rfl, trivial⟩
  intro T H ⟨t4, _⟩
  refine W_seq_ret ?_
  refine Ret_1 t4 (fz_int ?_)
  · rw [wchk, if_neg (by omega), if_pos (by omega)]
 refine W_seq_skip ?_
 refine W_seq_seq ?_
 refine W_seq_regc (fun T H => T 0 = (V.sl (List.map cI (w))) ∧ T 1 = (iV (n)) ∧ T 5 = (iV (0 : Int)) ∧ True) ?_ ?_
 ·
  unfold r58_5
  refine R_mv (@rfl V (iV (0 : Int))) ?_
  exact R_nil ⟨t0, t1, rfl, trivial⟩
 intro T H ⟨t0, t1, t5, _⟩
 refine W_seq_blockg fun Q3 n3 x3 y3 z3 => ?_
 refine W_loop (fun mm T H => ∃ (k : Nat), mm = w.length - k ∧ T 0 = (V.sl (List.map cI (w))) ∧ T 1 = (iV (n)) ∧ T 5 = (iV ((k : Nat) : Int)) ∧ (k ≤ w.length) ∧ (w.length ≤ 1024) ∧ (1 ≤ n ∧ n ≤ 1024) ∧ (wchk w n = fe (wE w n) k (w.length - k))) ?_ ?_
 ·
  refine ⟨_, 0, rfl, t0, t1, (Eq.trans t5 (by first | rfl | simp)), ?_, ?_, ?_, ?_⟩
  · omega
  · omega
  · omega
  · rw [wchk, if_neg (by omega), if_neg (by omega)]; rfl
 intro mm T H ⟨k, hmm, t0, t1, t5, hk, hl, hn, hc⟩ Q4 p14 p24 p34
 unfold b58_0
 refine W_seq_seq ?_
 refine W_seq_regc (fun T H => T 0 = (V.sl (List.map cI (w))) ∧ T 1 = (iV (n)) ∧ T 5 = (iV ((k : Nat) : Int)) ∧ T 15 = (V.bool (decide (((k : Nat) : Int) < ((w.length : Nat) : Int)))) ∧ True) ?_ ?_
 ·
  unfold r58_6
  refine R_mv t5 ?_
  refine R_mv t0 ?_
  refine R_len (@rfl V (V.sl (List.map cI (w)))) ?_
  refine R_lss (x := ((k : Nat) : Int)) (y := ((w.length : Nat) : Int)) (@rfl V (iV ((k : Nat) : Int))) (@rfl V (iV ((w.length : Nat) : Int))) ?_
  exact R_nil ⟨t0, t1, t5, rfl, trivial⟩
 intro T H ⟨t0, t1, t5, t15, _⟩
 refine W_seq_if (p := ((k : Nat) : Int) < ((w.length : Nat) : Int)) t15 (fun c5 => ?_) (fun c5 => ?_)
 ·
  refine W_seq_skip ?_
  refine W_seq_blockg fun Q6 n6 x6 y6 z6 => ?_
  refine W_seq_regc (fun T H => T 0 = (V.sl (List.map cI (w))) ∧ T 1 = (iV (n)) ∧ T 5 = (iV ((k : Nat) : Int)) ∧ T 30 = (V.bool (decide ((((nth (w) (k))) < (0 : Int)) ∨ ((n) ≤ ((nth (w) (k))))))) ∧ True) ?_ ?_
  ·
   unfold r58_8
   refine R_mv t0 ?_
   refine R_mv t5 ?_
   refine R_idx (i := k) (@rfl V (V.sl (List.map cI (w)))) (@rfl V (iV ((k : Nat) : Int))) (by omega) rfl ?_
   refine R_load_pp (v := (iV ((nth (w) (k))))) (@rfl V (V.pp [(iV ((nth (w) (k))))])) (by first | rfl | simp [ldV]) ?_
   refine R_lss (x := ((nth (w) (k)))) (y := (0 : Int)) (@rfl V (iV ((nth (w) (k))))) (@rfl V (iV (0 : Int))) ?_
   refine R_mv (@rfl V (V.bool (decide (((nth (w) (k))) < (0 : Int))))) ?_
   refine Ops_seg 7 (fun T H => T 0 = (V.sl (List.map cI (w))) ∧ T 1 = (iV (n)) ∧ T 5 = (iV ((k : Nat) : Int)) ∧ T 30 = (V.bool (decide ((((nth (w) (k))) < (0 : Int)) ∨ ((n) ≤ ((nth (w) (k))))))) ∧ True) ?_ ?_
   ·
    by_cases g7 : ((nth (w) (k))) < (0 : Int)
    ·
     refine G_no (Eq.trans (@rfl V (V.bool (decide (((nth (w) (k))) < (0 : Int))))) (bdT g7)) (by decide) ?_
     refine G_no (Eq.trans (@rfl V (V.bool (decide (((nth (w) (k))) < (0 : Int))))) (bdT g7)) (by decide) ?_
     refine G_no (Eq.trans (@rfl V (V.bool (decide (((nth (w) (k))) < (0 : Int))))) (bdT g7)) (by decide) ?_
     refine G_no (Eq.trans (@rfl V (V.bool (decide (((nth (w) (k))) < (0 : Int))))) (bdT g7)) (by decide) ?_
     refine G_no (Eq.trans (@rfl V (V.bool (decide (((nth (w) (k))) < (0 : Int))))) (bdT g7)) (by decide) ?_
     refine G_no (Eq.trans (@rfl V (V.bool (decide (((nth (w) (k))) < (0 : Int))))) (bdT g7)) (by decide) ?_
     refine R_pickT (Eq.trans (@rfl V (V.bool (decide (((nth (w) (k))) < (0 : Int))))) (bdT g7)) (@rfl V (V.bool true)) ?_
     exact ⟨t0, t1, t5, (Eq.trans (@rfl V (V.bool true)) (dec_orT g7)), trivial⟩
    ·
     refine G_yes (Eq.trans (@rfl V (V.bool (decide (((nth (w) (k))) < (0 : Int))))) (bdF g7)) ?_
     refine R_mv t0 ?_
     refine G_yes (Eq.trans (@rfl V (V.bool (decide (((nth (w) (k))) < (0 : Int))))) (bdF g7)) ?_
     refine R_mv t5 ?_
     refine G_yes (Eq.trans (@rfl V (V.bool (decide (((nth (w) (k))) < (0 : Int))))) (bdF g7)) ?_
     refine R_idx (i := k) (@rfl V (V.sl (List.map cI (w)))) (@rfl V (iV ((k : Nat) : Int))) (by omega) rfl ?_
     refine G_yes (Eq.trans (@rfl V (V.bool (decide (((nth (w) (k))) < (0 : Int))))) (bdF g7)) ?_
     refine R_load_pp (v := (iV ((nth (w) (k))))) (@rfl V (V.pp [(iV ((nth (w) (k))))])) (by first | rfl | simp [ldV]) ?_
     refine G_yes (Eq.trans (@rfl V (V.bool (decide (((nth (w) (k))) < (0 : Int))))) (bdF g7)) ?_
     refine R_mv t1 ?_
     refine G_yes (Eq.trans (@rfl V (V.bool (decide (((nth (w) (k))) < (0 : Int))))) (bdF g7)) ?_
     refine R_geq (x := ((nth (w) (k)))) (y := (n)) (@rfl V (iV ((nth (w) (k))))) (@rfl V (iV (n))) ?_
     refine R_pickF (Eq.trans (@rfl V (V.bool (decide (((nth (w) (k))) < (0 : Int))))) (bdF g7)) (@rfl V (V.bool (decide ((n) ≤ ((nth (w) (k))))))) ?_
     exact ⟨t0, t1, t5, (Eq.trans (@rfl V (V.bool (decide ((n) ≤ ((nth (w) (k))))))) (dec_orF g7)), trivial⟩
   intro T H ⟨t0, t1, t5, t30, _⟩
   exact R_nil ⟨t0, t1, t5, t30, trivial⟩
  intro T H ⟨t0, t1, t5, t30, _⟩
  refine W_if (p := (((nth (w) (k))) < (0 : Int)) ∨ ((n) ≤ ((nth (w) (k))))) t30 (fun c8 => ?_) (fun c8 => ?_)
  ·
   refine W_seq_regc (fun T H => T 4 = (iV (1 : Int)) ∧ True) ?_ ?_
   ·
    unfold r58_9
    refine R_mv (@rfl V (iV (1 : Int))) ?_
    exact R_nil ⟨rfl, trivial⟩
   intro T H ⟨t4, _⟩
   refine W_ret ?_
   refine y6 _ _ ?_
   refine p24 _ _ ?_
   refine y3 _ _ ?_
   refine Ret_1 t4 (fz_int ?_)
   · rw [hc, fe_hit (by unfold wE; split <;> omega) (by omega)]; unfold wE; split <;> omega
  refine W_skip ?_
  refine n6 _ _ ?_
  refine .done ?_
  refine W_regc (fun T H => T 0 = (V.sl (List.map cI (w))) ∧ T 1 = (iV (n)) ∧ T 5 = (iV ((k + 1 : Nat) : Int)) ∧ True) ?_ ?_
  ·
   unfold r58_7
   refine R_mv t5 ?_
   refine R_addN (m := k) (n := 1) (@rfl V (iV ((k : Nat) : Int))) (@rfl V (iV ((1 : Nat) : Int))) (by omega) ?_
   refine R_mv (@rfl V (iV ((k + 1 : Nat) : Int))) ?_
   exact R_nil ⟨t0, t1, rfl, trivial⟩
  intro T H ⟨t0, t1, t5, _⟩
  refine p14 _ _ _ ?_ ⟨(k + 1), rfl, t0, t1, (Eq.trans t5 (by first | rfl | simp)), ?_, ?_, ?_, ?_⟩
  · omega
  · omega
  · omega
  · omega
  · rw [hc, fe_skip (by unfold wE; split <;> omega) (by omega)]
 refine W_seq_exit ?_
 refine p34 _ _ _ ?_
 refine x3 _ _ ?_
 refine .done ?_
 refine W_seq_regc (fun T H => T 4 = (iV (0 : Int)) ∧ True) ?_ ?_
 ·
  unfold r58_10
  refine R_mv (@rfl V (iV (0 : Int))) ?_
  exact R_nil ⟨rfl, trivial⟩
 intro T H ⟨t4, _⟩
 refine W_ret ?_
 refine Ret_1 t4 (fz_int ?_)
 · rw [hc, fe_end (by omega)]

end Go.Proofs.Ytngkckefanbhgaa

namespace Go.Proofs.Ytngkckefanbhgaa
open Go Go.Proofs

theorem rproper_pure (t : Tr) (n : Int) : PureC Try.prog 60 [(V.agg [(V.sl (List.map cI (t.ni))), (V.sl (List.map cI (t.no)))]), (iV (n))] (iV (prE t n)) := by
 refine pure_of_Wb true 6 Try.func60 s60_ok (by kernel_rfl) (by simp [s60]) (by simp) (by simp) fun hB => ?_
 simp only [bnd_map, bnd_int, bnd_bool, bnd_str, bnd_agg, bnd_pp, bnd_nil, bnd_cons, implies_true, and_true, true_and] at hB
 unfold s60
 dsimp only
 refine W_seq_regc (fun T H => T 1 = (iV (n)) ∧ T 2 = (V.mp 2 1 0 0) ∧ H 2 = (⟨1, true, false, 63, 2, [[(V.sl (List.map cI (t.ni))), (V.sl (List.map cI (t.no)))]]⟩ : Blk) ∧ True) ?_ ?_
 ·
  unfold r60_0
  refine R_box (i := 2) (n := 0) (m := 2) (cs := [(V.sl (List.map cI (t.ni))), (V.sl (List.map cI (t.no)))]) rfl (congrArg Blk.ver rfl) (@rfl V (V.agg [(V.sl (List.map cI (t.ni))), (V.sl (List.map cI (t.no)))])) rfl rfl ?_
  refine R_mv (@rfl V (iV (0 : Int))) ?_
  exact R_nil ⟨rfl, rfl, rfl, trivial⟩
 intro T H ⟨t1, t2, h2, _⟩
 refine W_seq_seq ?_
 refine W_seq_regc (fun T H => T 2 = (V.mp 2 1 0 0) ∧ T 5 = (iV (wchk t.ni ((n)))) ∧ H 2 = (⟨1, true, false, 63, 2, [[(V.sl (List.map cI (t.ni))), (V.sl (List.map cI (t.no)))]]⟩ : Blk) ∧ True) ?_ ?_
 ·
  unfold r60_1
  refine R_fld_mp (o' := 0) t2 h2 (by first | rfl | simp [okB, Blk.own]) rfl ?_
  refine R_load_mp (v := (V.sl (List.map cI (t.ni)))) (@rfl V (V.mp 2 1 0 0)) h2 (by first | rfl | simp [ldB, ldV, Blk.own, V.one]) ?_
  refine R_mv t1 ?_
  refine R_call (evcons (@rfl V (V.sl (List.map cI (t.ni)))) (evcons (@rfl V (iV (n))) evnil)) (rcheck_pure t.ni ((n))) (fzv_mapcanon _ _ (by simp [-List.map_take, -List.map_drop, -List.map_append, -List.map_reverse])) (by simp [-List.map_take, -List.map_drop, -List.map_append, -List.map_reverse]) (Or.inl (by simp [-List.map_take, -List.map_drop, -List.map_append, -List.map_reverse])) ?_
  refine R_mv (@rfl V (iV (wchk t.ni ((n))))) ?_
  exact R_nil ⟨t2, rfl, h2, trivial⟩
 intro T H ⟨t2, t5, h2, _⟩
 refine W_seq_seq ?_
 refine W_seq_regc (fun T H => T 2 = (V.mp 2 1 0 0) ∧ T 5 = (iV (wchk t.ni ((n)))) ∧ T 12 = (V.bool (decide ((wchk t.ni ((n))) ≠ (0 : Int)))) ∧ H 2 = (⟨1, true, false, 63, 2, [[(V.sl (List.map cI (t.ni))), (V.sl (List.map cI (t.no)))]]⟩ : Blk) ∧ True) ?_ ?_
 ·
  unfold r60_2
  refine R_mv t5 ?_
  refine R_neq (x := (wchk t.ni ((n)))) (y := (0 : Int)) (@rfl V (iV (wchk t.ni ((n))))) (@rfl V (iV (0 : Int))) ?_
  exact R_nil ⟨t2, t5, rfl, h2, trivial⟩
 intro T H ⟨t2, t5, t12, h2, _⟩
 refine W_seq_if (p := (wchk t.ni ((n))) ≠ (0 : Int)) t12 (fun c1 => ?_) (fun c1 => ?_)
 ·
  refine W_seq_seq ?_
  refine W_seq_regc (fun T H => T 4 = (iV (wchk t.ni ((n)))) ∧ H 2 = (⟨1, true, false, 63, 2, [[(V.sl (List.map cI (t.ni))), (V.sl (List.map cI (t.no)))]]⟩ : Blk) ∧ True) ?_ ?_
  ·
   unfold r60_3
   refine R_mv t5 ?_
   refine R_mv (@rfl V (iV (wchk t.ni ((n))))) ?_
   exact R_nil ⟨rfl, h2, trivial⟩
  intro T H ⟨t4, h2, _⟩
  refine W_seq_ret ?_
  refine Ret_1 t4 (fz_int ?_)
  · rw [prE, if_pos (by omega)]
 refine W_seq_skip ?_
 refine W_seq_seq ?_
 refine W_seq_regc (fun T H => T 2 = (V.mp 2 1 0 0) ∧ T 20 = (V.bool (decide (((t.no.length : Nat) : Int) ≠ ((t.ni.length : Nat) : Int)))) ∧ H 2 = (⟨1, true, false, 63, 2, [[(V.sl (List.map cI (t.ni))), (V.sl (List.map cI (t.no)))]]⟩ : Blk) ∧ True) ?_ ?_
 ·
  unfold r60_4
  refine R_fld_mp (o' := 1) t2 h2 (by first | rfl | simp [okB, Blk.own]) rfl ?_
  refine R_load_mp (v := (V.sl (List.map cI (t.no)))) (@rfl V (V.mp 2 1 0 1)) h2 (by first | rfl | simp [ldB, ldV, Blk.own, V.one]) ?_
  refine R_len (@rfl V (V.sl (List.map cI (t.no)))) ?_
  refine R_fld_mp (o' := 0) t2 h2 (by first | rfl | simp [okB, Blk.own]) rfl ?_
  refine R_load_mp (v := (V.sl (List.map cI (t.ni)))) (@rfl V (V.mp 2 1 0 0)) h2 (by first | rfl | simp [ldB, ldV, Blk.own, V.one]) ?_
  refine R_len (@rfl V (V.sl (List.map cI (t.ni)))) ?_
  refine R_neq (x := ((t.no.length : Nat) : Int)) (y := ((t.ni.length : Nat) : Int)) (@rfl V (iV ((t.no.length : Nat) : Int))) (@rfl V (iV ((t.ni.length : Nat) : Int))) ?_
  exact R_nil ⟨t2, rfl, h2, trivial⟩
 intro T H ⟨t2, t20, h2, _⟩
 refine W_seq_if (p := ((t.no.length : Nat) : Int) ≠ ((t.ni.length : Nat) : Int)) t20 (fun c2 => ?_) (fun c2 => ?_)
 ·
  refine W_seq_seq ?_
  refine W_seq_regc (fun T H => T 4 = (iV (1 : Int)) ∧ H 2 = (⟨1, true, false, 63, 2, [[(V.sl (List.map cI (t.ni))), (V.sl (List.map cI (t.no)))]]⟩ : Blk) ∧ True) ?_ ?_
  ·
   unfold r60_5
   refine R_mv (@rfl V (iV (1 : Int))) ?_
   exact R_nil ⟨rfl, h2, trivial⟩
  intro T H ⟨t4, h2, _⟩
  refine W_seq_ret ?_
  refine Ret_1 t4 (fz_int ?_)
  · rw [prE, if_neg (by omega), if_pos (by omega)]
 refine W_seq_skip ?_
 refine W_seq_seq ?_
 refine W_seq_regc (fun T H => T 2 = (V.mp 2 1 0 0) ∧ T 6 = (iV (0 : Int)) ∧ H 2 = (⟨1, true, false, 63, 2, [[(V.sl (List.map cI (t.ni))), (V.sl (List.map cI (t.no)))]]⟩ : Blk) ∧ True) ?_ ?_
 ·
  unfold r60_6
  refine R_mv (@rfl V (iV (0 : Int))) ?_
  exact R_nil ⟨t2, rfl, h2, trivial⟩
 intro T H ⟨t2, t6, h2, _⟩
 refine W_seq_blockg fun Q3 n3 x3 y3 z3 => ?_
 refine W_loop (fun mm T H => ∃ (k : Nat), mm = t.no.length - k ∧ T 2 = (V.mp 2 1 0 0) ∧ T 6 = (iV ((k : Nat) : Int)) ∧ H 2 = (⟨1, true, false, 63, 2, [[(V.sl (List.map cI (t.ni))), (V.sl (List.map cI (t.no)))]]⟩ : Blk) ∧ (k ≤ t.no.length) ∧ (prE t n = fe (outE t) k (t.no.length - k))) ?_ ?_
 ·
  refine ⟨_, 0, rfl, t2, (Eq.trans t6 (by first | rfl | simp)), h2, ?_, ?_⟩
  · omega
  · rw [prE, if_neg (by omega), if_neg (by omega)]; rfl
 intro mm T H ⟨k, hmm, t2, t6, h2, hk, hc⟩ Q4 p14 p24 p34
 unfold b60_0
 refine W_seq_seq ?_
 refine W_seq_regc (fun T H => T 2 = (V.mp 2 1 0 0) ∧ T 6 = (iV ((k : Nat) : Int)) ∧ T 25 = (V.bool (decide (((k : Nat) : Int) < ((t.no.length : Nat) : Int)))) ∧ H 2 = (⟨1, true, false, 63, 2, [[(V.sl (List.map cI (t.ni))), (V.sl (List.map cI (t.no)))]]⟩ : Blk) ∧ True) ?_ ?_
 ·
  unfold r60_7
  refine R_mv t6 ?_
  refine R_fld_mp (o' := 1) t2 h2 (by first | rfl | simp [okB, Blk.own]) rfl ?_
  refine R_load_mp (v := (V.sl (List.map cI (t.no)))) (@rfl V (V.mp 2 1 0 1)) h2 (by first | rfl | simp [ldB, ldV, Blk.own, V.one]) ?_
  refine R_len (@rfl V (V.sl (List.map cI (t.no)))) ?_
  refine R_lss (x := ((k : Nat) : Int)) (y := ((t.no.length : Nat) : Int)) (@rfl V (iV ((k : Nat) : Int))) (@rfl V (iV ((t.no.length : Nat) : Int))) ?_
  exact R_nil ⟨t2, t6, rfl, h2, trivial⟩
 intro T H ⟨t2, t6, t25, h2, _⟩
 refine W_seq_if (p := ((k : Nat) : Int) < ((t.no.length : Nat) : Int)) t25 (fun c5 => ?_) (fun c5 => ?_)
 ·
  refine W_seq_skip ?_
  refine W_seq_blockg fun Q6 n6 x6 y6 z6 => ?_
  refine W_seq_regc (fun T H => T 2 = (V.mp 2 1 0 0) ∧ T 6 = (iV ((k : Nat) : Int)) ∧ T 41 = (V.bool (decide ((((nth (t.no) (k))) < (0 : Int)) ∨ ((1048576 : Int) < ((nth (t.no) (k))))))) ∧ H 2 = (⟨1, true, false, 63, 2, [[(V.sl (List.map cI (t.ni))), (V.sl (List.map cI (t.no)))]]⟩ : Blk) ∧ True) ?_ ?_
  ·
   unfold r60_9
   refine R_fld_mp (o' := 1) t2 h2 (by first | rfl | simp [okB, Blk.own]) rfl ?_
   refine R_load_mp (v := (V.sl (List.map cI (t.no)))) (@rfl V (V.mp 2 1 0 1)) h2 (by first | rfl | simp [ldB, ldV, Blk.own, V.one]) ?_
   refine R_mv t6 ?_
   refine R_idx (i := k) (@rfl V (V.sl (List.map cI (t.no)))) (@rfl V (iV ((k : Nat) : Int))) (by omega) rfl ?_
   refine R_load_pp (v := (iV ((nth (t.no) (k))))) (@rfl V (V.pp [(iV ((nth (t.no) (k))))])) (by first | rfl | simp [ldV]) ?_
   refine R_lss (x := ((nth (t.no) (k)))) (y := (0 : Int)) (@rfl V (iV ((nth (t.no) (k))))) (@rfl V (iV (0 : Int))) ?_
   refine R_mv (@rfl V (V.bool (decide (((nth (t.no) (k))) < (0 : Int))))) ?_
   refine Ops_seg 7 (fun T H => T 2 = (V.mp 2 1 0 0) ∧ T 6 = (iV ((k : Nat) : Int)) ∧ T 41 = (V.bool (decide ((((nth (t.no) (k))) < (0 : Int)) ∨ ((1048576 : Int) < ((nth (t.no) (k))))))) ∧ H 2 = (⟨1, true, false, 63, 2, [[(V.sl (List.map cI (t.ni))), (V.sl (List.map cI (t.no)))]]⟩ : Blk) ∧ True) ?_ ?_
   ·
    by_cases g7 : ((nth (t.no) (k))) < (0 : Int)
    ·
     refine G_no (Eq.trans (@rfl V (V.bool (decide (((nth (t.no) (k))) < (0 : Int))))) (bdT g7)) (by decide) ?_
     refine G_no (Eq.trans (@rfl V (V.bool (decide (((nth (t.no) (k))) < (0 : Int))))) (bdT g7)) (by decide) ?_
     refine G_no (Eq.trans (@rfl V (V.bool (decide (((nth (t.no) (k))) < (0 : Int))))) (bdT g7)) (by decide) ?_
     refine G_no (Eq.trans (@rfl V (V.bool (decide (((nth (t.no) (k))) < (0 : Int))))) (bdT g7)) (by decide) ?_
     refine G_no (Eq.trans (@rfl V (V.bool (decide (((nth (t.no) (k))) < (0 : Int))))) (bdT g7)) (by decide) ?_
     refine G_no (Eq.trans (@rfl V (V.bool (decide (((nth (t.no) (k))) < (0 : Int))))) (bdT g7)) (by decide) ?_
     refine R_pickT (Eq.trans (@rfl V (V.bool (decide (((nth (t.no) (k))) < (0 : Int))))) (bdT g7)) (@rfl V (V.bool true)) ?_
     exact ⟨t2, t6, (Eq.trans (@rfl V (V.bool true)) (dec_orT g7)), h2, trivial⟩
    ·
     refine G_yes (Eq.trans (@rfl V (V.bool (decide (((nth (t.no) (k))) < (0 : Int))))) (bdF g7)) ?_
     refine R_fld_mp (o' := 1) t2 h2 (by first | rfl | simp [okB, Blk.own]) rfl ?_
     refine G_yes (Eq.trans (@rfl V (V.bool (decide (((nth (t.no) (k))) < (0 : Int))))) (bdF g7)) ?_
     refine R_load_mp (v := (V.sl (List.map cI (t.no)))) (@rfl V (V.mp 2 1 0 1)) h2 (by first | rfl | simp [ldB, ldV, Blk.own, V.one]) ?_
     refine G_yes (Eq.trans (@rfl V (V.bool (decide (((nth (t.no) (k))) < (0 : Int))))) (bdF g7)) ?_
     refine R_mv t6 ?_
     refine G_yes (Eq.trans (@rfl V (V.bool (decide (((nth (t.no) (k))) < (0 : Int))))) (bdF g7)) ?_
     refine R_idx (i := k) (@rfl V (V.sl (List.map cI (t.no)))) (@rfl V (iV ((k : Nat) : Int))) (by omega) rfl ?_
     refine G_yes (Eq.trans (@rfl V (V.bool (decide (((nth (t.no) (k))) < (0 : Int))))) (bdF g7)) ?_
     refine R_load_pp (v := (iV ((nth (t.no) (k))))) (@rfl V (V.pp [(iV ((nth (t.no) (k))))])) (by first | rfl | simp [ldV]) ?_
     refine G_yes (Eq.trans (@rfl V (V.bool (decide (((nth (t.no) (k))) < (0 : Int))))) (bdF g7)) ?_
     refine R_gtr (x := ((nth (t.no) (k)))) (y := (1048576 : Int)) (@rfl V (iV ((nth (t.no) (k))))) (@rfl V (iV (1048576 : Int))) ?_
     refine R_pickF (Eq.trans (@rfl V (V.bool (decide (((nth (t.no) (k))) < (0 : Int))))) (bdF g7)) (@rfl V (V.bool (decide ((1048576 : Int) < ((nth (t.no) (k))))))) ?_
     exact ⟨t2, t6, (Eq.trans (@rfl V (V.bool (decide ((1048576 : Int) < ((nth (t.no) (k))))))) (dec_orF g7)), h2, trivial⟩
   intro T H ⟨t2, t6, t41, h2, _⟩
   exact R_nil ⟨t2, t6, t41, h2, trivial⟩
  intro T H ⟨t2, t6, t41, h2, _⟩
  refine W_if (p := (((nth (t.no) (k))) < (0 : Int)) ∨ ((1048576 : Int) < ((nth (t.no) (k))))) t41 (fun c8 => ?_) (fun c8 => ?_)
  ·
   refine W_seq_regc (fun T H => T 4 = (iV (2 : Int)) ∧ H 2 = (⟨1, true, false, 63, 2, [[(V.sl (List.map cI (t.ni))), (V.sl (List.map cI (t.no)))]]⟩ : Blk) ∧ True) ?_ ?_
   ·
    unfold r60_10
    refine R_mv (@rfl V (iV (2 : Int))) ?_
    exact R_nil ⟨rfl, h2, trivial⟩
   intro T H ⟨t4, h2, _⟩
   refine W_ret ?_
   refine y6 _ _ ?_
   refine p24 _ _ ?_
   refine y3 _ _ ?_
   refine Ret_1 t4 (fz_int ?_)
   · rw [hc, fe_hit (by unfold outE; split <;> omega) (by omega)]; unfold outE; split <;> omega
  refine W_skip ?_
  refine n6 _ _ ?_
  refine .done ?_
  refine W_regc (fun T H => T 2 = (V.mp 2 1 0 0) ∧ T 6 = (iV ((k + 1 : Nat) : Int)) ∧ H 2 = (⟨1, true, false, 63, 2, [[(V.sl (List.map cI (t.ni))), (V.sl (List.map cI (t.no)))]]⟩ : Blk) ∧ True) ?_ ?_
  ·
   unfold r60_8
   refine R_mv t6 ?_
   refine R_addN (m := k) (n := 1) (@rfl V (iV ((k : Nat) : Int))) (@rfl V (iV ((1 : Nat) : Int))) (by omega) ?_
   refine R_mv (@rfl V (iV ((k + 1 : Nat) : Int))) ?_
   exact R_nil ⟨t2, rfl, h2, trivial⟩
  intro T H ⟨t2, t6, h2, _⟩
  refine p14 _ _ _ ?_ ⟨(k + 1), rfl, t2, (Eq.trans t6 (by first | rfl | simp)), h2, ?_, ?_⟩
  · omega
  · omega
  · rw [hc, fe_skip (by unfold outE; split <;> omega) (by omega)]
 refine W_seq_exit ?_
 refine p34 _ _ _ ?_
 refine x3 _ _ ?_
 refine .done ?_
 refine W_seq_regc (fun T H => T 4 = (iV (0 : Int)) ∧ H 2 = (⟨1, true, false, 63, 2, [[(V.sl (List.map cI (t.ni))), (V.sl (List.map cI (t.no)))]]⟩ : Blk) ∧ True) ?_ ?_
 ·
  unfold r60_11
  refine R_mv (@rfl V (iV (0 : Int))) ?_
  exact R_nil ⟨rfl, h2, trivial⟩
 intro T H ⟨t4, h2, _⟩
 refine W_ret ?_
 refine Ret_1 t4 (fz_int ?_)
 · rw [hc, fe_end (by omega)]

end Go.Proofs.Ytngkckefanbhgaa

namespace Go.Proofs.Ytngkckefanbhgaa
open Go Go.Proofs

def r85_0 : List SO := [
  ⟨none, some 2, .box 63 2 (.t 0)⟩,
  ⟨none, some 3, .box 63 2 (.t 1)⟩,
  ⟨none, some 4, .mv (.c (.int .i64 0))⟩]
def r85_1 : List SO := [
  ⟨none, some 7, .fld 0 (.t 2)⟩,
  ⟨none, some 8, .load false 1 (.t 7)⟩,
  ⟨none, some 9, .fld 0 (.t 3)⟩,
  ⟨none, some 10, .load false 1 (.t 9)⟩,
  ⟨none, some 11, .call false 67 [.t 8, .t 10]⟩,
  ⟨none, some 5, .mv (.t 11)⟩]
def r85_2 : List SO := [
  ⟨none, some 6, .mv (.c (.int .i64 0))⟩]
def r85_3 : List SO := [
  ⟨none, some 12, .mv (.t 6)⟩,
  ⟨none, some 13, .mv (.t 5)⟩,
  ⟨none, some 14, .bin .lss (.t 12) (.t 13)⟩]
def r85_5 : List SO := [
  ⟨none, some 17, .fld 1 (.t 2)⟩,
  ⟨none, some 18, .load false 1 (.t 17)⟩,
  ⟨none, some 19, .mv (.t 6)⟩,
  ⟨none, some 20, .idx 1 (.t 18) (.t 19)⟩,
  ⟨none, some 21, .load false 1 (.t 20)⟩,
  ⟨none, some 22, .fld 1 (.t 3)⟩,
  ⟨none, some 23, .load false 1 (.t 22)⟩,
  ⟨none, some 24, .mv (.t 6)⟩,
  ⟨none, some 25, .idx 1 (.t 23) (.t 24)⟩,
  ⟨none, some 26, .load false 1 (.t 25)⟩,
  ⟨none, some 27, .bin .neq (.t 21) (.t 26)⟩]
def r85_6 : List SO := [
  ⟨none, some 28, .mv (.t 6)⟩,
  ⟨none, some 4, .mv (.t 28)⟩]
def r85_4 : List SO := [
  ⟨none, some 15, .mv (.t 6)⟩,
  ⟨none, some 16, .bin .add (.t 15) (.c (.int .i64 1))⟩,
  ⟨none, some 6, .mv (.t 16)⟩]
def b85_0 : SC := .seq (.seq (.reg r85_3) (.cond (.t 14) (.skip) (.exit 0))) (.seq (.block 1 (.seq (.reg r85_5) (.cond (.t 27) (.seq (.reg r85_6) (.ret)) (.skip)))) (.reg r85_4))
def r85_7 : List SO := [
  ⟨none, some 4, .mv (.c (.int .i64 (-1)))⟩]
def s85 : SF := ⟨29, [.tmp 4], .seq (.reg r85_0) (.seq (.reg r85_1) (.seq (.seq (.reg r85_2) (.block 0 (.loop b85_0))) (.seq (.reg r85_7) (.ret))))⟩
theorem s85_ok : slimF Try.prog ⟨[94, 102, 103, 108, 109, 116, 119, 121, 125], []⟩ Try.f85 = some s85 := by kernel_rfl

end Go.Proofs.Ytngkckefanbhgaa

namespace Go.Proofs.Ytngkckefanbhgaa
open Go Go.Proofs

theorem rdiffer_pure (a b : Tr) (ha : a.no.length = a.ni.length) (hb : b.no.length = b.ni.length) : PureC Try.prog 85 [(V.agg [(V.sl (List.map cI (a.ni))), (V.sl (List.map cI (a.no)))]), (V.agg [(V.sl (List.map cI (b.ni))), (V.sl (List.map cI (b.no)))])] (iV (df a b)) := by
 refine pure_of_Wb true 6 Try.func85 s85_ok (by kernel_rfl) (by simp [s85]) (by simp) (by simp) fun hB => ?_
 simp only [bnd_map, bnd_int, bnd_bool, bnd_str, bnd_agg, bnd_pp, bnd_nil, bnd_cons, implies_true, and_true, true_and] at hB
 unfold s85
 dsimp only
 refine W_seq_regc (fun T H => T 2 = (V.mp 2 1 0 0) ∧ T 3 = (V.mp 3 1 0 0) ∧ H 2 = (⟨1, true, false, 63, 2, [[(V.sl (List.map cI (a.ni))), (V.sl (List.map cI (a.no)))]]⟩ : Blk) ∧ H 3 = (⟨1, true, false, 63, 2, [[(V.sl (List.map cI (b.ni))), (V.sl (List.map cI (b.no)))]]⟩ : Blk) ∧ True) ?_ ?_
 ·
  unfold r85_0
  refine R_box (i := 2) (n := 0) (m := 2) (cs := [(V.sl (List.map cI (a.ni))), (V.sl (List.map cI (a.no)))]) rfl (congrArg Blk.ver rfl) (@rfl V (V.agg [(V.sl (List.map cI (a.ni))), (V.sl (List.map cI (a.no)))])) rfl rfl ?_
  refine R_box (i := 3) (n := 0) (m := 2) (cs := [(V.sl (List.map cI (b.ni))), (V.sl (List.map cI (b.no)))]) rfl (congrArg Blk.ver rfl) (@rfl V (V.agg [(V.sl (List.map cI (b.ni))), (V.sl (List.map cI (b.no)))])) rfl rfl ?_
  refine R_mv (@rfl V (iV (0 : Int))) ?_
  exact R_nil ⟨rfl, rfl, rfl, rfl, trivial⟩
 intro T H ⟨t2, t3, h2, h3, _⟩
 refine W_seq_regc (fun T H => T 2 = (V.mp 2 1 0 0) ∧ T 3 = (V.mp 3 1 0 0) ∧ T 5 = (iV ((cmn a.ni b.ni : Nat) : Int)) ∧ H 2 = (⟨1, true, false, 63, 2, [[(V.sl (List.map cI (a.ni))), (V.sl (List.map cI (a.no)))]]⟩ : Blk) ∧ H 3 = (⟨1, true, false, 63, 2, [[(V.sl (List.map cI (b.ni))), (V.sl (List.map cI (b.no)))]]⟩ : Blk) ∧ True) ?_ ?_
 ·
  unfold r85_1
  refine R_fld_mp (o' := 0) t2 h2 (by first | rfl | simp [okB, Blk.own]) rfl ?_
  refine R_load_mp (v := (V.sl (List.map cI (a.ni)))) (@rfl V (V.mp 2 1 0 0)) h2 (by first | rfl | simp [ldB, ldV, Blk.own, V.one]) ?_
  refine R_fld_mp (o' := 0) t3 h3 (by first | rfl | simp [okB, Blk.own]) rfl ?_
  refine R_load_mp (v := (V.sl (List.map cI (b.ni)))) (@rfl V (V.mp 3 1 0 0)) h3 (by first | rfl | simp [ldB, ldV, Blk.own, V.one]) ?_
  have q1 := cmn_l a.ni b.ni
  have q2 := cmn_r a.ni b.ni
  refine R_call (evcons (@rfl V (V.sl (List.map cI (a.ni)))) (evcons (@rfl V (V.sl (List.map cI (b.ni)))) evnil)) (rcommon_pure a.ni b.ni) (fzv_mapcanon _ _ (by simp [-List.map_take, -List.map_drop, -List.map_append, -List.map_reverse])) (by simp [-List.map_take, -List.map_drop, -List.map_append, -List.map_reverse]) (Or.inl (by simp [-List.map_take, -List.map_drop, -List.map_append, -List.map_reverse])) ?_
  refine R_mv (@rfl V (iV ((cmn a.ni b.ni : Nat) : Int))) ?_
  exact R_nil ⟨t2, t3, rfl, h2, h3, trivial⟩
 intro T H ⟨t2, t3, t5, h2, h3, _⟩
 have q3 := cmn_l a.ni b.ni
 have q4 := cmn_r a.ni b.ni
 refine W_seq_seq ?_
 refine W_seq_regc (fun T H => T 2 = (V.mp 2 1 0 0) ∧ T 3 = (V.mp 3 1 0 0) ∧ T 5 = (iV ((cmn a.ni b.ni : Nat) : Int)) ∧ T 6 = (iV (0 : Int)) ∧ H 2 = (⟨1, true, false, 63, 2, [[(V.sl (List.map cI (a.ni))), (V.sl (List.map cI (a.no)))]]⟩ : Blk) ∧ H 3 = (⟨1, true, false, 63, 2, [[(V.sl (List.map cI (b.ni))), (V.sl (List.map cI (b.no)))]]⟩ : Blk) ∧ True) ?_ ?_
 ·
  unfold r85_2
  refine R_mv (@rfl V (iV (0 : Int))) ?_
  exact R_nil ⟨t2, t3, t5, rfl, h2, h3, trivial⟩
 intro T H ⟨t2, t3, t5, t6, h2, h3, _⟩
 refine W_seq_blockg fun Q5 n5 x5 y5 z5 => ?_
 refine W_loop (fun mm T H => ∃ (k : Nat), mm = (cmn a.ni b.ni) - k ∧ T 2 = (V.mp 2 1 0 0) ∧ T 3 = (V.mp 3 1 0 0) ∧ T 5 = (iV ((cmn a.ni b.ni : Nat) : Int)) ∧ T 6 = (iV ((k : Nat) : Int)) ∧ H 2 = (⟨1, true, false, 63, 2, [[(V.sl (List.map cI (a.ni))), (V.sl (List.map cI (a.no)))]]⟩ : Blk) ∧ H 3 = (⟨1, true, false, 63, 2, [[(V.sl (List.map cI (b.ni))), (V.sl (List.map cI (b.no)))]]⟩ : Blk) ∧ (k ≤ cmn a.ni b.ni) ∧ (df a b = fi (dfE a b) k (cmn a.ni b.ni - k))) ?_ ?_
 ·
  refine ⟨_, 0, rfl, t2, t3, t5, (Eq.trans t6 (by first | rfl | simp)), h2, h3, ?_, ?_⟩
  · omega
  · rfl
 intro mm T H ⟨k, hmm, t2, t3, t5, t6, h2, h3, hk, hc⟩ Q6 p16 p26 p36
 unfold b85_0
 refine W_seq_seq ?_
 refine W_seq_regc (fun T H => T 2 = (V.mp 2 1 0 0) ∧ T 3 = (V.mp 3 1 0 0) ∧ T 5 = (iV ((cmn a.ni b.ni : Nat) : Int)) ∧ T 6 = (iV ((k : Nat) : Int)) ∧ T 14 = (V.bool (decide (((k : Nat) : Int) < ((cmn a.ni b.ni : Nat) : Int)))) ∧ H 2 = (⟨1, true, false, 63, 2, [[(V.sl (List.map cI (a.ni))), (V.sl (List.map cI (a.no)))]]⟩ : Blk) ∧ H 3 = (⟨1, true, false, 63, 2, [[(V.sl (List.map cI (b.ni))), (V.sl (List.map cI (b.no)))]]⟩ : Blk) ∧ True) ?_ ?_
 ·
  unfold r85_3
  refine R_mv t6 ?_
  refine R_mv t5 ?_
  refine R_lss (x := ((k : Nat) : Int)) (y := ((cmn a.ni b.ni : Nat) : Int)) (@rfl V (iV ((k : Nat) : Int))) (@rfl V (iV ((cmn a.ni b.ni : Nat) : Int))) ?_
  exact R_nil ⟨t2, t3, t5, t6, rfl, h2, h3, trivial⟩
 intro T H ⟨t2, t3, t5, t6, t14, h2, h3, _⟩
 refine W_seq_if (p := ((k : Nat) : Int) < ((cmn a.ni b.ni : Nat) : Int)) t14 (fun c7 => ?_) (fun c7 => ?_)
 ·
  refine W_seq_skip ?_
  refine W_seq_blockg fun Q8 n8 x8 y8 z8 => ?_
  refine W_seq_regc (fun T H => T 2 = (V.mp 2 1 0 0) ∧ T 3 = (V.mp 3 1 0 0) ∧ T 5 = (iV ((cmn a.ni b.ni : Nat) : Int)) ∧ T 6 = (iV ((k : Nat) : Int)) ∧ T 27 = (V.bool (decide (((nth (a.no) (k))) ≠ ((nth (b.no) (k)))))) ∧ H 2 = (⟨1, true, false, 63, 2, [[(V.sl (List.map cI (a.ni))), (V.sl (List.map cI (a.no)))]]⟩ : Blk) ∧ H 3 = (⟨1, true, false, 63, 2, [[(V.sl (List.map cI (b.ni))), (V.sl (List.map cI (b.no)))]]⟩ : Blk) ∧ True) ?_ ?_
  ·
   unfold r85_5
   refine R_fld_mp (o' := 1) t2 h2 (by first | rfl | simp [okB, Blk.own]) rfl ?_
   refine R_load_mp (v := (V.sl (List.map cI (a.no)))) (@rfl V (V.mp 2 1 0 1)) h2 (by first | rfl | simp [ldB, ldV, Blk.own, V.one]) ?_
   refine R_mv t6 ?_
   refine R_idx (i := k) (@rfl V (V.sl (List.map cI (a.no)))) (@rfl V (iV ((k : Nat) : Int))) (by omega) rfl ?_
   refine R_load_pp (v := (iV ((nth (a.no) (k))))) (@rfl V (V.pp [(iV ((nth (a.no) (k))))])) (by first | rfl | simp [ldV]) ?_
   refine R_fld_mp (o' := 1) t3 h3 (by first | rfl | simp [okB, Blk.own]) rfl ?_
   refine R_load_mp (v := (V.sl (List.map cI (b.no)))) (@rfl V (V.mp 3 1 0 1)) h3 (by first | rfl | simp [ldB, ldV, Blk.own, V.one]) ?_
   refine R_mv t6 ?_
   refine R_idx (i := k) (@rfl V (V.sl (List.map cI (b.no)))) (@rfl V (iV ((k : Nat) : Int))) (by omega) rfl ?_
   refine R_load_pp (v := (iV ((nth (b.no) (k))))) (@rfl V (V.pp [(iV ((nth (b.no) (k))))])) (by first | rfl | simp [ldV]) ?_
   refine R_neq (x := ((nth (a.no) (k)))) (y := ((nth (b.no) (k)))) (@rfl V (iV ((nth (a.no) (k))))) (@rfl V (iV ((nth (b.no) (k))))) ?_
   exact R_nil ⟨t2, t3, t5, t6, rfl, h2, h3, trivial⟩
  intro T H ⟨t2, t3, t5, t6, t27, h2, h3, _⟩
  refine W_if (p := ((nth (a.no) (k))) ≠ ((nth (b.no) (k)))) t27 (fun c9 => ?_) (fun c9 => ?_)
  ·
   refine W_seq_regc (fun T H => T 4 = (iV ((k : Nat) : Int)) ∧ H 2 = (⟨1, true, false, 63, 2, [[(V.sl (List.map cI (a.ni))), (V.sl (List.map cI (a.no)))]]⟩ : Blk) ∧ H 3 = (⟨1, true, false, 63, 2, [[(V.sl (List.map cI (b.ni))), (V.sl (List.map cI (b.no)))]]⟩ : Blk) ∧ True) ?_ ?_
   ·
    unfold r85_6
    refine R_mv t6 ?_
    refine R_mv (@rfl V (iV ((k : Nat) : Int))) ?_
    exact R_nil ⟨rfl, h2, h3, trivial⟩
   intro T H ⟨t4, h2, h3, _⟩
   refine W_ret ?_
   refine y8 _ _ ?_
   refine p26 _ _ ?_
   refine y5 _ _ ?_
   refine Ret_1 t4 (fz_int ?_)
   · rw [hc, fi_hit (by simp only [dfE, decide_eq_true_eq]; omega) (by omega)]
  refine W_skip ?_
  refine n8 _ _ ?_
  refine .done ?_
  refine W_regc (fun T H => T 2 = (V.mp 2 1 0 0) ∧ T 3 = (V.mp 3 1 0 0) ∧ T 5 = (iV ((cmn a.ni b.ni : Nat) : Int)) ∧ T 6 = (iV ((k + 1 : Nat) : Int)) ∧ H 2 = (⟨1, true, false, 63, 2, [[(V.sl (List.map cI (a.ni))), (V.sl (List.map cI (a.no)))]]⟩ : Blk) ∧ H 3 = (⟨1, true, false, 63, 2, [[(V.sl (List.map cI (b.ni))), (V.sl (List.map cI (b.no)))]]⟩ : Blk) ∧ True) ?_ ?_
  ·
   unfold r85_4
   refine R_mv t6 ?_
   refine R_addN (m := k) (n := 1) (@rfl V (iV ((k : Nat) : Int))) (@rfl V (iV ((1 : Nat) : Int))) (by omega) ?_
   refine R_mv (@rfl V (iV ((k + 1 : Nat) : Int))) ?_
   exact R_nil ⟨t2, t3, t5, rfl, h2, h3, trivial⟩
  intro T H ⟨t2, t3, t5, t6, h2, h3, _⟩
  refine p16 _ _ _ ?_ ⟨(k + 1), rfl, t2, t3, t5, (Eq.trans t6 (by first | rfl | simp)), h2, h3, ?_, ?_⟩
  · omega
  · omega
  · rw [hc, fi_skip (by simp only [dfE, decide_eq_false_iff_not]; omega) (by omega)]
 refine W_seq_exit ?_
 refine p36 _ _ _ ?_
 refine x5 _ _ ?_
 refine .done ?_
 refine W_seq_regc (fun T H => T 4 = (iV (-1 : Int)) ∧ H 2 = (⟨1, true, false, 63, 2, [[(V.sl (List.map cI (a.ni))), (V.sl (List.map cI (a.no)))]]⟩ : Blk) ∧ H 3 = (⟨1, true, false, 63, 2, [[(V.sl (List.map cI (b.ni))), (V.sl (List.map cI (b.no)))]]⟩ : Blk) ∧ True) ?_ ?_
 ·
  unfold r85_7
  refine R_mv (@rfl V (iV (-1 : Int))) ?_
  exact R_nil ⟨rfl, h2, h3, trivial⟩
 intro T H ⟨t4, h2, h3, _⟩
 refine W_ret ?_
 refine Ret_1 t4 (fz_int ?_)
 · rw [hc, fi_end (by omega)]

end Go.Proofs.Ytngkckefanbhgaa

namespace Go.Proofs.Ytngkckefanbhgaa
open Go Go.Proofs

theorem rclash_pure (o : Ob) (t : Tr) (ho : oval o = 0) : PureC Try.prog 42 [(V.agg [(iV (o.i)), (V.sl (List.map cT (o.tr)))]), (V.agg [(V.sl (List.map cI (t.ni))), (V.sl (List.map cI (t.no)))])] (V.tup [(V.agg [(V.sl (List.map cI (clW o t))), (iV (clF o t)), (iV (clS o t))]), (V.bool (decide (clB o t)))]) := by
 refine pure_of_Wb true 6 Try.func42 s42_ok (by kernel_rfl) (by simp [s42]) (by simp) (by simp) fun hB => ?_
 simp only [bnd_map, bnd_int, bnd_bool, bnd_str, bnd_agg, bnd_pp, bnd_nil, bnd_cons, implies_true, and_true, true_and] at hB
 unfold s42
 dsimp only
 have u2 := oval_ok ho
 refine W_seq_regc (fun T H => T 2 = (V.mp 2 1 0 0) ∧ T 3 = (V.mp 3 1 0 0) ∧ T 4 = (V.mp 4 1 0 0) ∧ H 2 = (⟨1, true, false, 34, 2, [[(iV (o.i)), (V.sl (List.map cT (o.tr)))]]⟩ : Blk) ∧ H 3 = (⟨1, true, false, 63, 2, [[(V.sl (List.map cI (t.ni))), (V.sl (List.map cI (t.no)))]]⟩ : Blk) ∧ H 4 = (⟨1, true, false, 67, 3, [[V.nilsl, (iV (0 : Int)), (iV (0 : Int))]]⟩ : Blk) ∧ True) ?_ ?_
 ·
  unfold r42_0
  refine R_box (i := 2) (n := 0) (m := 2) (cs := [(iV (o.i)), (V.sl (List.map cT (o.tr)))]) rfl (congrArg Blk.ver rfl) (@rfl V (V.agg [(iV (o.i)), (V.sl (List.map cT (o.tr)))])) rfl rfl ?_
  refine R_box (i := 3) (n := 0) (m := 2) (cs := [(V.sl (List.map cI (t.ni))), (V.sl (List.map cI (t.no)))]) rfl (congrArg Blk.ver rfl) (@rfl V (V.agg [(V.sl (List.map cI (t.ni))), (V.sl (List.map cI (t.no)))])) rfl rfl ?_
  refine R_alloc (i := 4) (n := 0) (m := 3) rfl (congrArg Blk.ver rfl) rfl ?_
  refine R_mv (@rfl V (V.bool false)) ?_
  exact R_nil ⟨rfl, rfl, rfl, rfl, rfl, rfl, trivial⟩
 intro T H ⟨t2, t3, t4, h2, h3, h4, _⟩
 refine W_seq_seq ?_
 refine W_seq_regc (fun T H => T 2 = (V.mp 2 1 0 0) ∧ T 3 = (V.mp 3 1 0 0) ∧ T 4 = (V.mp 4 1 0 0) ∧ T 14 = (V.bool (decide ((prE t ((o.i))) ≠ (0 : Int)))) ∧ H 2 = (⟨1, true, false, 34, 2, [[(iV (o.i)), (V.sl (List.map cT (o.tr)))]]⟩ : Blk) ∧ H 3 = (⟨1, true, false, 63, 2, [[(V.sl (List.map cI (t.ni))), (V.sl (List.map cI (t.no)))]]⟩ : Blk) ∧ H 4 = (⟨1, true, false, 67, 3, [[V.nilsl, (iV (0 : Int)), (iV (0 : Int))]]⟩ : Blk) ∧ True) ?_ ?_
 ·
  unfold r42_1
  refine R_load_mp (v := (V.agg [(V.sl (List.map cI (t.ni))), (V.sl (List.map cI (t.no)))])) t3 h3 (by first | rfl | simp [ldB, ldV, Blk.own, V.one]) ?_
  refine R_fld_mp (o' := 0) t2 h2 (by first | rfl | simp [okB, Blk.own]) rfl ?_
  refine R_load_mp (v := (iV (o.i))) (@rfl V (V.mp 2 1 0 0)) h2 (by first | rfl | simp [ldB, ldV, Blk.own, V.one]) ?_
  refine R_call (evcons (@rfl V (V.agg [(V.sl (List.map cI (t.ni))), (V.sl (List.map cI (t.no)))])) (evcons (@rfl V (iV (o.i))) evnil)) (rproper_pure t ((o.i))) (fzv_mapcanon _ _ (by simp [-List.map_take, -List.map_drop, -List.map_append, -List.map_reverse])) (by simp [-List.map_take, -List.map_drop, -List.map_append, -List.map_reverse]) (Or.inl (by simp [-List.map_take, -List.map_drop, -List.map_append, -List.map_reverse])) ?_
  refine R_neq (x := (prE t ((o.i)))) (y := (0 : Int)) (@rfl V (iV (prE t ((o.i))))) (@rfl V (iV (0 : Int))) ?_
  exact R_nil ⟨t2, t3, t4, rfl, h2, h3, h4, trivial⟩
 intro T H ⟨t2, t3, t4, t14, h2, h3, h4, _⟩
 refine W_seq_if (p := (prE t ((o.i))) ≠ (0 : Int)) t14 (fun c1 => ?_) (fun c1 => ?_)
 ·
  have d0 := c1
  refine W_seq_seq ?_
  refine W_seq_regc (fun T H => T 4 = (V.mp 4 1 0 0) ∧ T 5 = (V.bool false) ∧ H 2 = (⟨1, true, false, 34, 2, [[(iV (o.i)), (V.sl (List.map cT (o.tr)))]]⟩ : Blk) ∧ H 3 = (⟨1, true, false, 63, 2, [[(V.sl (List.map cI (t.ni))), (V.sl (List.map cI (t.no)))]]⟩ : Blk) ∧ H 4 = (⟨1, true, false, 67, 3, [[V.nilsl, (iV (0 : Int)), (iV (0 : Int))]]⟩ : Blk) ∧ True) ?_ ?_
  ·
   unfold r42_2
   refine R_build (qs := []) (cs := [V.nilsl, (iV (0 : Int)), (iV (0 : Int))]) rfl rfl ?_
   refine R_store (vs := [V.nilsl, (iV (0 : Int)), (iV (0 : Int))]) (B' := (⟨1, true, false, 67, 3, [[V.nilsl, (iV (0 : Int)), (iV (0 : Int))]]⟩ : Blk)) t4 (@rfl V (V.agg [V.nilsl, (iV (0 : Int)), (iV (0 : Int))])) rfl h4 (by first | rfl | simp [stB, okB, Blk.own, putAt, V.one]) ?_
   refine R_mv (@rfl V (V.bool false)) ?_
   exact R_nil ⟨t4, rfl, h2, h3, rfl, trivial⟩
  intro T H ⟨t4, t5, h2, h3, h4, _⟩
  refine W_seq_ret ?_
  refine RetC_2 (resV_c (u := (V.agg [V.nilsl, (iV (0 : Int)), (iV (0 : Int))])) t4 h4 (by first | rfl | simp [ldB, ldV, Blk.own, V.one])) (resV_t t5) (fz_agg3 (fz_nil ?_) (fz_int ?_) (fz_int ?_)) (fz_bool ?_)
  · rw [clW, if_neg (fun e => d0 e.1)]
  · rw [clF, if_neg (fun e => d0 e.1)]
  · rw [clS, if_neg (fun e => d0 e.1)]
  · exact (decide_eq_false (fun e => d0 e.1)).symm
 have d0 : prE t o.i = 0 := by omega
 have u3 := prE_ok d0
 have u4 := u3.len
 have u5 := u3.lel
 refine W_seq_skip ?_
 refine W_seq_regc (fun T H => T 2 = (V.mp 2 1 0 0) ∧ T 3 = (V.mp 3 1 0 0) ∧ T 4 = (V.mp 4 1 0 0) ∧ T 6 = (iV (-1 : Int)) ∧ T 7 = (iV (0 : Int)) ∧ H 2 = (⟨1, true, false, 34, 2, [[(iV (o.i)), (V.sl (List.map cT (o.tr)))]]⟩ : Blk) ∧ H 3 = (⟨1, true, false, 63, 2, [[(V.sl (List.map cI (t.ni))), (V.sl (List.map cI (t.no)))]]⟩ : Blk) ∧ H 4 = (⟨1, true, false, 67, 3, [[V.nilsl, (iV (0 : Int)), (iV (0 : Int))]]⟩ : Blk) ∧ True) ?_ ?_
 ·
  unfold r42_3
  refine R_mv (@rfl V (iV (-1 : Int))) ?_
  refine R_mv (@rfl V (iV (0 : Int))) ?_
  exact R_nil ⟨t2, t3, t4, rfl, rfl, h2, h3, h4, trivial⟩
 intro T H ⟨t2, t3, t4, t6, t7, h2, h3, h4, _⟩
 refine W_seq_seq ?_
 refine W_seq_regc (fun T H => T 2 = (V.mp 2 1 0 0) ∧ T 3 = (V.mp 3 1 0 0) ∧ T 4 = (V.mp 4 1 0 0) ∧ T 6 = (iV (-1 : Int)) ∧ T 7 = (iV (0 : Int)) ∧ T 8 = (iV (0 : Int)) ∧ H 2 = (⟨1, true, false, 34, 2, [[(iV (o.i)), (V.sl (List.map cT (o.tr)))]]⟩ : Blk) ∧ H 3 = (⟨1, true, false, 63, 2, [[(V.sl (List.map cI (t.ni))), (V.sl (List.map cI (t.no)))]]⟩ : Blk) ∧ H 4 = (⟨1, true, false, 67, 3, [[V.nilsl, (iV (0 : Int)), (iV (0 : Int))]]⟩ : Blk) ∧ True) ?_ ?_
 ·
  unfold r42_4
  refine R_mv (@rfl V (iV (0 : Int))) ?_
  exact R_nil ⟨t2, t3, t4, t6, t7, rfl, h2, h3, h4, trivial⟩
 intro T H ⟨t2, t3, t4, t6, t7, t8, h2, h3, h4, _⟩
 refine W_seq_blockg fun Q2 n2 x2 y2 z2 => ?_
 refine W_loop (fun mm T H => ∃ (k : Nat), mm = o.tr.length - k ∧ T 2 = (V.mp 2 1 0 0) ∧ T 3 = (V.mp 3 1 0 0) ∧ T 4 = (V.mp 4 1 0 0) ∧ T 6 = (iV ((if (clA o.tr t k).1 = t.ni.length then -1 else (((clA o.tr t k).1 : Nat) : Int)))) ∧ T 7 = (iV ((clA o.tr t k).2)) ∧ T 8 = (iV ((k : Nat) : Int)) ∧ H 2 = (⟨1, true, false, 34, 2, [[(iV (o.i)), (V.sl (List.map cT (o.tr)))]]⟩ : Blk) ∧ H 3 = (⟨1, true, false, 63, 2, [[(V.sl (List.map cI (t.ni))), (V.sl (List.map cI (t.no)))]]⟩ : Blk) ∧ H 4 = (⟨1, true, false, 67, 3, [[V.nilsl, (iV (0 : Int)), (iV (0 : Int))]]⟩ : Blk) ∧ (k ≤ o.tr.length)) ?_ ?_
 ·
  refine ⟨_, 0, rfl, t2, t3, t4, (Eq.trans t6 (by first | rfl | (simp [clA_zero]; done) | (rw [clA_hit d1]; done) | (rw [clA_hit d1]; simp only; rw [if_neg (by omega), Int.toNat_of_nonneg d1.1]; done) | (rw [clA_skip d1]; done))), (Eq.trans t7 (by first | rfl | (simp [clA_zero]; done) | (rw [clA_hit d1]; done) | (rw [clA_hit d1]; simp only; rw [if_neg (by omega), Int.toNat_of_nonneg d1.1]; done) | (rw [clA_skip d1]; done))), (Eq.trans t8 (by first | rfl | (simp [clA_zero]; done) | (rw [clA_hit d1]; done) | (rw [clA_hit d1]; simp only; rw [if_neg (by omega), Int.toNat_of_nonneg d1.1]; done) | (rw [clA_skip d1]; done))), h2, h3, h4, ?_⟩
  · omega
 intro mm T H ⟨k, hmm, t2, t3, t4, t6, t7, t8, h2, h3, h4, hk⟩ Q3 p13 p23 p33
 unfold b42_0
 refine W_seq_seq ?_
 refine W_seq_regc (fun T H => T 2 = (V.mp 2 1 0 0) ∧ T 3 = (V.mp 3 1 0 0) ∧ T 4 = (V.mp 4 1 0 0) ∧ T 6 = (iV ((if (clA o.tr t k).1 = t.ni.length then -1 else (((clA o.tr t k).1 : Nat) : Int)))) ∧ T 7 = (iV ((clA o.tr t k).2)) ∧ T 8 = (iV ((k : Nat) : Int)) ∧ T 20 = (V.bool (decide (((k : Nat) : Int) < ((o.tr.length : Nat) : Int)))) ∧ H 2 = (⟨1, true, false, 34, 2, [[(iV (o.i)), (V.sl (List.map cT (o.tr)))]]⟩ : Blk) ∧ H 3 = (⟨1, true, false, 63, 2, [[(V.sl (List.map cI (t.ni))), (V.sl (List.map cI (t.no)))]]⟩ : Blk) ∧ H 4 = (⟨1, true, false, 67, 3, [[V.nilsl, (iV (0 : Int)), (iV (0 : Int))]]⟩ : Blk) ∧ True) ?_ ?_
 ·
  unfold r42_5
  refine R_mv t8 ?_
  refine R_fld_mp (o' := 1) t2 h2 (by first | rfl | simp [okB, Blk.own]) rfl ?_
  refine R_load_mp (v := (V.sl (List.map cT (o.tr)))) (@rfl V (V.mp 2 1 0 1)) h2 (by first | rfl | simp [ldB, ldV, Blk.own, V.one]) ?_
  refine R_len (@rfl V (V.sl (List.map cT (o.tr)))) ?_
  refine R_lss (x := ((k : Nat) : Int)) (y := ((o.tr.length : Nat) : Int)) (@rfl V (iV ((k : Nat) : Int))) (@rfl V (iV ((o.tr.length : Nat) : Int))) ?_
  exact R_nil ⟨t2, t3, t4, t6, t7, t8, rfl, h2, h3, h4, trivial⟩
 intro T H ⟨t2, t3, t4, t6, t7, t8, t20, h2, h3, h4, _⟩
 refine W_seq_if (p := ((k : Nat) : Int) < ((o.tr.length : Nat) : Int)) t20 (fun c4 => ?_) (fun c4 => ?_)
 ·
  have u6 := (u2.pr k (by omega)).1.len
  have u7 := df_bnd (nth o.tr k) t
  have u8 := clA_le (l := o.tr) (t := t) k
  have u9 := cmn_l (nth o.tr k).ni t.ni
  have u10 := cmn_r (nth o.tr k).ni t.ni
  refine W_seq_skip ?_
  refine W_seq_blockg fun Q5 n5 x5 y5 z5 => ?_
  refine W_seq_regc (fun T H => T 2 = (V.mp 2 1 0 0) ∧ T 3 = (V.mp 3 1 0 0) ∧ T 4 = (V.mp 4 1 0 0) ∧ T 6 = (iV ((if (clA o.tr t k).1 = t.ni.length then -1 else (((clA o.tr t k).1 : Nat) : Int)))) ∧ T 7 = (iV ((clA o.tr t k).2)) ∧ T 8 = (iV ((k : Nat) : Int)) ∧ T 9 = (iV (df ((nth (o.tr) (k))) t)) ∧ H 2 = (⟨1, true, false, 34, 2, [[(iV (o.i)), (V.sl (List.map cT (o.tr)))]]⟩ : Blk) ∧ H 3 = (⟨1, true, false, 63, 2, [[(V.sl (List.map cI (t.ni))), (V.sl (List.map cI (t.no)))]]⟩ : Blk) ∧ H 4 = (⟨1, true, false, 67, 3, [[V.nilsl, (iV (0 : Int)), (iV (0 : Int))]]⟩ : Blk) ∧ True) ?_ ?_
  ·
   unfold r42_7
   refine R_fld_mp (o' := 1) t2 h2 (by first | rfl | simp [okB, Blk.own]) rfl ?_
   refine R_load_mp (v := (V.sl (List.map cT (o.tr)))) (@rfl V (V.mp 2 1 0 1)) h2 (by first | rfl | simp [ldB, ldV, Blk.own, V.one]) ?_
   refine R_mv t8 ?_
   refine R_idx (i := k) (@rfl V (V.sl (List.map cT (o.tr)))) (@rfl V (iV ((k : Nat) : Int))) (by omega) rfl ?_
   refine R_load_pp (v := (V.agg [(V.sl (List.map cI ((nth (o.tr) (k)).ni))), (V.sl (List.map cI ((nth (o.tr) (k)).no)))])) (@rfl V (V.pp [(V.sl (List.map cI ((nth (o.tr) (k)).ni))), (V.sl (List.map cI ((nth (o.tr) (k)).no)))])) (by first | rfl | simp [ldV]) ?_
   refine R_load_mp (v := (V.agg [(V.sl (List.map cI (t.ni))), (V.sl (List.map cI (t.no)))])) t3 h3 (by first | rfl | simp [ldB, ldV, Blk.own, V.one]) ?_
   refine R_call (evcons (@rfl V (V.agg [(V.sl (List.map cI ((nth (o.tr) (k)).ni))), (V.sl (List.map cI ((nth (o.tr) (k)).no)))])) (evcons (@rfl V (V.agg [(V.sl (List.map cI (t.ni))), (V.sl (List.map cI (t.no)))])) evnil)) (rdiffer_pure ((nth (o.tr) (k))) t u6 u4) (fzv_mapcanon _ _ (by simp [-List.map_take, -List.map_drop, -List.map_append, -List.map_reverse])) (by simp [-List.map_take, -List.map_drop, -List.map_append, -List.map_reverse]) (Or.inl (by simp [-List.map_take, -List.map_drop, -List.map_append, -List.map_reverse])) ?_
   refine R_mv (@rfl V (iV (df ((nth (o.tr) (k))) t))) ?_
   exact R_nil ⟨t2, t3, t4, t6, t7, t8, rfl, h2, h3, h4, trivial⟩
  intro T H ⟨t2, t3, t4, t6, t7, t8, t9, h2, h3, h4, _⟩
  refine W_seq_regc (fun T H => T 2 = (V.mp 2 1 0 0) ∧ T 3 = (V.mp 3 1 0 0) ∧ T 4 = (V.mp 4 1 0 0) ∧ T 6 = (iV ((if (clA o.tr t k).1 = t.ni.length then -1 else (((clA o.tr t k).1 : Nat) : Int)))) ∧ T 7 = (iV ((clA o.tr t k).2)) ∧ T 8 = (iV ((k : Nat) : Int)) ∧ T 9 = (iV (df ((nth (o.tr) (k))) t)) ∧ T 40 = (V.bool (decide (((0 : Int) ≤ (df ((nth (o.tr) (k))) t)) ∧ ((((if (clA o.tr t k).1 = t.ni.length then -1 else (((clA o.tr t k).1 : Nat) : Int))) < (0 : Int)) ∨ ((df ((nth (o.tr) (k))) t) < ((if (clA o.tr t k).1 = t.ni.length then -1 else (((clA o.tr t k).1 : Nat) : Int)))))))) ∧ H 2 = (⟨1, true, false, 34, 2, [[(iV (o.i)), (V.sl (List.map cT (o.tr)))]]⟩ : Blk) ∧ H 3 = (⟨1, true, false, 63, 2, [[(V.sl (List.map cI (t.ni))), (V.sl (List.map cI (t.no)))]]⟩ : Blk) ∧ H 4 = (⟨1, true, false, 67, 3, [[V.nilsl, (iV (0 : Int)), (iV (0 : Int))]]⟩ : Blk) ∧ True) ?_ ?_
  ·
   unfold r42_8
   refine R_mv t9 ?_
   refine R_geq (x := (df ((nth (o.tr) (k))) t)) (y := (0 : Int)) (@rfl V (iV (df ((nth (o.tr) (k))) t))) (@rfl V (iV (0 : Int))) ?_
   refine R_mv (@rfl V (V.bool (decide ((0 : Int) ≤ (df ((nth (o.tr) (k))) t))))) ?_
   refine Ops_seg 8 (fun T H => T 2 = (V.mp 2 1 0 0) ∧ T 3 = (V.mp 3 1 0 0) ∧ T 4 = (V.mp 4 1 0 0) ∧ T 6 = (iV ((if (clA o.tr t k).1 = t.ni.length then -1 else (((clA o.tr t k).1 : Nat) : Int)))) ∧ T 7 = (iV ((clA o.tr t k).2)) ∧ T 8 = (iV ((k : Nat) : Int)) ∧ T 9 = (iV (df ((nth (o.tr) (k))) t)) ∧ T 40 = (V.bool (decide (((0 : Int) ≤ (df ((nth (o.tr) (k))) t)) ∧ ((((if (clA o.tr t k).1 = t.ni.length then -1 else (((clA o.tr t k).1 : Nat) : Int))) < (0 : Int)) ∨ ((df ((nth (o.tr) (k))) t) < ((if (clA o.tr t k).1 = t.ni.length then -1 else (((clA o.tr t k).1 : Nat) : Int)))))))) ∧ H 2 = (⟨1, true, false, 34, 2, [[(iV (o.i)), (V.sl (List.map cT (o.tr)))]]⟩ : Blk) ∧ H 3 = (⟨1, true, false, 63, 2, [[(V.sl (List.map cI (t.ni))), (V.sl (List.map cI (t.no)))]]⟩ : Blk) ∧ H 4 = (⟨1, true, false, 67, 3, [[V.nilsl, (iV (0 : Int)), (iV (0 : Int))]]⟩ : Blk) ∧ True) ?_ ?_
   ·
    by_cases g6 : (0 : Int) ≤ (df ((nth (o.tr) (k))) t)
    ·
     refine G_yes (Eq.trans (@rfl V (V.bool (decide ((0 : Int) ≤ (df ((nth (o.tr) (k))) t))))) (bdT g6)) ?_
     refine R_mv t6 ?_
     refine G_yes (Eq.trans (@rfl V (V.bool (decide ((0 : Int) ≤ (df ((nth (o.tr) (k))) t))))) (bdT g6)) ?_
     refine R_lss (x := ((if (clA o.tr t k).1 = t.ni.length then -1 else (((clA o.tr t k).1 : Nat) : Int)))) (y := (0 : Int)) (@rfl V (iV ((if (clA o.tr t k).1 = t.ni.length then -1 else (((clA o.tr t k).1 : Nat) : Int))))) (@rfl V (iV (0 : Int))) ?_
     refine G_yes (Eq.trans (@rfl V (V.bool (decide ((0 : Int) ≤ (df ((nth (o.tr) (k))) t))))) (bdT g6)) ?_
     refine R_mv (@rfl V (V.bool (decide (((if (clA o.tr t k).1 = t.ni.length then -1 else (((clA o.tr t k).1 : Nat) : Int))) < (0 : Int))))) ?_
     refine Ops_seg 4 (fun T H => T 2 = (V.mp 2 1 0 0) ∧ T 3 = (V.mp 3 1 0 0) ∧ T 4 = (V.mp 4 1 0 0) ∧ T 6 = (iV ((if (clA o.tr t k).1 = t.ni.length then -1 else (((clA o.tr t k).1 : Nat) : Int)))) ∧ T 7 = (iV ((clA o.tr t k).2)) ∧ T 8 = (iV ((k : Nat) : Int)) ∧ T 9 = (iV (df ((nth (o.tr) (k))) t)) ∧ T 32 = (V.bool true) ∧ T 33 = (iV ((if (clA o.tr t k).1 = t.ni.length then -1 else (((clA o.tr t k).1 : Nat) : Int)))) ∧ T 34 = (V.bool (decide (((if (clA o.tr t k).1 = t.ni.length then -1 else (((clA o.tr t k).1 : Nat) : Int))) < (0 : Int)))) ∧ T 35 = (V.bool (decide (((if (clA o.tr t k).1 = t.ni.length then -1 else (((clA o.tr t k).1 : Nat) : Int))) < (0 : Int)))) ∧ T 39 = (V.bool (decide ((((if (clA o.tr t k).1 = t.ni.length then -1 else (((clA o.tr t k).1 : Nat) : Int))) < (0 : Int)) ∨ ((df ((nth (o.tr) (k))) t) < ((if (clA o.tr t k).1 = t.ni.length then -1 else (((clA o.tr t k).1 : Nat) : Int))))))) ∧ H 2 = (⟨1, true, false, 34, 2, [[(iV (o.i)), (V.sl (List.map cT (o.tr)))]]⟩ : Blk) ∧ H 3 = (⟨1, true, false, 63, 2, [[(V.sl (List.map cI (t.ni))), (V.sl (List.map cI (t.no)))]]⟩ : Blk) ∧ H 4 = (⟨1, true, false, 67, 3, [[V.nilsl, (iV (0 : Int)), (iV (0 : Int))]]⟩ : Blk) ∧ True) ?_ ?_
     ·
      by_cases g7 : ((if (clA o.tr t k).1 = t.ni.length then -1 else (((clA o.tr t k).1 : Nat) : Int))) < (0 : Int)
      ·
       refine G_no (Eq.trans (@rfl V (V.bool (decide (((if (clA o.tr t k).1 = t.ni.length then -1 else (((clA o.tr t k).1 : Nat) : Int))) < (0 : Int))))) (bdT g7)) (by decide) ?_
       refine G_no (Eq.trans (@rfl V (V.bool (decide (((if (clA o.tr t k).1 = t.ni.length then -1 else (((clA o.tr t k).1 : Nat) : Int))) < (0 : Int))))) (bdT g7)) (by decide) ?_
       refine G_no (Eq.trans (@rfl V (V.bool (decide (((if (clA o.tr t k).1 = t.ni.length then -1 else (((clA o.tr t k).1 : Nat) : Int))) < (0 : Int))))) (bdT g7)) (by decide) ?_
       refine G_yes (Eq.trans (@rfl V (V.bool (decide ((0 : Int) ≤ (df ((nth (o.tr) (k))) t))))) (bdT g6)) ?_
       refine R_pickT (Eq.trans (@rfl V (V.bool (decide (((if (clA o.tr t k).1 = t.ni.length then -1 else (((clA o.tr t k).1 : Nat) : Int))) < (0 : Int))))) (bdT g7)) (@rfl V (V.bool true)) ?_
       exact ⟨t2, t3, t4, t6, t7, t8, t9, (Eq.trans (@rfl V (V.bool (decide ((0 : Int) ≤ (df ((nth (o.tr) (k))) t))))) (bdT g6)), rfl, rfl, (@rfl V (V.bool (decide (((if (clA o.tr t k).1 = t.ni.length then -1 else (((clA o.tr t k).1 : Nat) : Int))) < (0 : Int))))), (Eq.trans (@rfl V (V.bool true)) (dec_orT g7)), h2, h3, h4, trivial⟩
      ·
       refine G_yes (Eq.trans (@rfl V (V.bool (decide (((if (clA o.tr t k).1 = t.ni.length then -1 else (((clA o.tr t k).1 : Nat) : Int))) < (0 : Int))))) (bdF g7)) ?_
       refine R_mv t9 ?_
       refine G_yes (Eq.trans (@rfl V (V.bool (decide (((if (clA o.tr t k).1 = t.ni.length then -1 else (((clA o.tr t k).1 : Nat) : Int))) < (0 : Int))))) (bdF g7)) ?_
       refine R_mv t6 ?_
       refine G_yes (Eq.trans (@rfl V (V.bool (decide (((if (clA o.tr t k).1 = t.ni.length then -1 else (((clA o.tr t k).1 : Nat) : Int))) < (0 : Int))))) (bdF g7)) ?_
       refine R_lss (x := (df ((nth (o.tr) (k))) t)) (y := ((if (clA o.tr t k).1 = t.ni.length then -1 else (((clA o.tr t k).1 : Nat) : Int)))) (@rfl V (iV (df ((nth (o.tr) (k))) t))) (@rfl V (iV ((if (clA o.tr t k).1 = t.ni.length then -1 else (((clA o.tr t k).1 : Nat) : Int))))) ?_
       refine G_yes (Eq.trans (@rfl V (V.bool (decide ((0 : Int) ≤ (df ((nth (o.tr) (k))) t))))) (bdT g6)) ?_
       refine R_pickF (Eq.trans (@rfl V (V.bool (decide (((if (clA o.tr t k).1 = t.ni.length then -1 else (((clA o.tr t k).1 : Nat) : Int))) < (0 : Int))))) (bdF g7)) (@rfl V (V.bool (decide ((df ((nth (o.tr) (k))) t) < ((if (clA o.tr t k).1 = t.ni.length then -1 else (((clA o.tr t k).1 : Nat) : Int))))))) ?_
       exact ⟨t2, t3, t4, t6, t7, t8, t9, (Eq.trans (@rfl V (V.bool (decide ((0 : Int) ≤ (df ((nth (o.tr) (k))) t))))) (bdT g6)), rfl, rfl, (@rfl V (V.bool (decide (((if (clA o.tr t k).1 = t.ni.length then -1 else (((clA o.tr t k).1 : Nat) : Int))) < (0 : Int))))), (Eq.trans (@rfl V (V.bool (decide ((df ((nth (o.tr) (k))) t) < ((if (clA o.tr t k).1 = t.ni.length then -1 else (((clA o.tr t k).1 : Nat) : Int))))))) (dec_orF g7)), h2, h3, h4, trivial⟩
     intro T H ⟨t2, t3, t4, t6, t7, t8, t9, t32, t33, t34, t35, t39, h2, h3, h4, _⟩
     refine R_pickT t32 t39 ?_
     exact ⟨t2, t3, t4, t6, t7, t8, t9, (Eq.trans (@rfl V (V.bool (decide ((((if (clA o.tr t k).1 = t.ni.length then -1 else (((clA o.tr t k).1 : Nat) : Int))) < (0 : Int)) ∨ ((df ((nth (o.tr) (k))) t) < ((if (clA o.tr t k).1 = t.ni.length then -1 else (((clA o.tr t k).1 : Nat) : Int)))))))) (dec_andT g6)), h2, h3, h4, trivial⟩
    ·
     refine G_no (Eq.trans (@rfl V (V.bool (decide ((0 : Int) ≤ (df ((nth (o.tr) (k))) t))))) (bdF g6)) (by decide) ?_
     refine G_no (Eq.trans (@rfl V (V.bool (decide ((0 : Int) ≤ (df ((nth (o.tr) (k))) t))))) (bdF g6)) (by decide) ?_
     refine G_no (Eq.trans (@rfl V (V.bool (decide ((0 : Int) ≤ (df ((nth (o.tr) (k))) t))))) (bdF g6)) (by decide) ?_
     refine G_raw (@rfl V (V.raw undef)) ?_
     refine G_raw (@rfl V (V.raw undef)) ?_
     refine G_raw (@rfl V (V.raw undef)) ?_
     refine G_no (Eq.trans (@rfl V (V.bool (decide ((0 : Int) ≤ (df ((nth (o.tr) (k))) t))))) (bdF g6)) (by decide) ?_
     refine R_pickF (Eq.trans (@rfl V (V.bool (decide ((0 : Int) ≤ (df ((nth (o.tr) (k))) t))))) (bdF g6)) (@rfl V (V.bool false)) ?_
     exact ⟨t2, t3, t4, t6, t7, t8, t9, (Eq.trans (@rfl V (V.bool false)) (dec_andF g6)), h2, h3, h4, trivial⟩
   intro T H ⟨t2, t3, t4, t6, t7, t8, t9, t40, h2, h3, h4, _⟩
   exact R_nil ⟨t2, t3, t4, t6, t7, t8, t9, t40, h2, h3, h4, trivial⟩
  intro T H ⟨t2, t3, t4, t6, t7, t8, t9, t40, h2, h3, h4, _⟩
  refine W_if (p := ((0 : Int) ≤ (df ((nth (o.tr) (k))) t)) ∧ ((((if (clA o.tr t k).1 = t.ni.length then -1 else (((clA o.tr t k).1 : Nat) : Int))) < (0 : Int)) ∨ ((df ((nth (o.tr) (k))) t) < ((if (clA o.tr t k).1 = t.ni.length then -1 else (((clA o.tr t k).1 : Nat) : Int)))))) t40 (fun c8 => ?_) (fun c8 => ?_)
  ·
   have d1 : 0 ≤ df (nth o.tr k) t ∧ df (nth o.tr k) t < (((clA o.tr t k).1 : Nat) : Int) := by have q := c8; split at q <;> omega
   refine W_seq_regc (fun T H => T 2 = (V.mp 2 1 0 0) ∧ T 3 = (V.mp 3 1 0 0) ∧ T 4 = (V.mp 4 1 0 0) ∧ T 6 = (iV (df ((nth (o.tr) (k))) t)) ∧ T 8 = (iV ((k : Nat) : Int)) ∧ T 9 = (iV (df ((nth (o.tr) (k))) t)) ∧ H 2 = (⟨1, true, false, 34, 2, [[(iV (o.i)), (V.sl (List.map cT (o.tr)))]]⟩ : Blk) ∧ H 3 = (⟨1, true, false, 63, 2, [[(V.sl (List.map cI (t.ni))), (V.sl (List.map cI (t.no)))]]⟩ : Blk) ∧ H 4 = (⟨1, true, false, 67, 3, [[V.nilsl, (iV (0 : Int)), (iV (0 : Int))]]⟩ : Blk) ∧ True) ?_ ?_
   ·
    unfold r42_9
    refine R_mv t9 ?_
    refine R_mv (@rfl V (iV (df ((nth (o.tr) (k))) t))) ?_
    exact R_nil ⟨t2, t3, t4, rfl, t8, t9, h2, h3, h4, trivial⟩
   intro T H ⟨t2, t3, t4, t6, t8, t9, h2, h3, h4, _⟩
   refine W_regc (fun T H => T 2 = (V.mp 2 1 0 0) ∧ T 3 = (V.mp 3 1 0 0) ∧ T 4 = (V.mp 4 1 0 0) ∧ T 6 = (iV (df ((nth (o.tr) (k))) t)) ∧ T 7 = (iV ((nth ((nth (o.tr) (k)).no) (df ((nth (o.tr) (k))) t).toNat))) ∧ T 8 = (iV ((k : Nat) : Int)) ∧ H 2 = (⟨1, true, false, 34, 2, [[(iV (o.i)), (V.sl (List.map cT (o.tr)))]]⟩ : Blk) ∧ H 3 = (⟨1, true, false, 63, 2, [[(V.sl (List.map cI (t.ni))), (V.sl (List.map cI (t.no)))]]⟩ : Blk) ∧ H 4 = (⟨1, true, false, 67, 3, [[V.nilsl, (iV (0 : Int)), (iV (0 : Int))]]⟩ : Blk) ∧ True) ?_ ?_
   ·
    unfold r42_10
    refine R_fld_mp (o' := 1) t2 h2 (by first | rfl | simp [okB, Blk.own]) rfl ?_
    refine R_load_mp (v := (V.sl (List.map cT (o.tr)))) (@rfl V (V.mp 2 1 0 1)) h2 (by first | rfl | simp [ldB, ldV, Blk.own, V.one]) ?_
    refine R_mv t8 ?_
    refine R_idx (i := k) (@rfl V (V.sl (List.map cT (o.tr)))) (@rfl V (iV ((k : Nat) : Int))) (by omega) rfl ?_
    refine R_fld_pp (cs' := [(V.sl (List.map cI ((nth (o.tr) (k)).no)))]) (@rfl V (V.pp [(V.sl (List.map cI ((nth (o.tr) (k)).ni))), (V.sl (List.map cI ((nth (o.tr) (k)).no)))])) rfl ?_
    refine R_load_pp (v := (V.sl (List.map cI ((nth (o.tr) (k)).no)))) (@rfl V (V.pp [(V.sl (List.map cI ((nth (o.tr) (k)).no)))])) (by first | rfl | simp [ldV]) ?_
    refine R_mv t9 ?_
    refine R_idxI (i := (df ((nth (o.tr) (k))) t)) (@rfl V (V.sl (List.map cI ((nth (o.tr) (k)).no)))) (@rfl V (iV (df ((nth (o.tr) (k))) t))) (by omega) (by omega) rfl ?_
    refine R_load_pp (v := (iV ((nth ((nth (o.tr) (k)).no) (df ((nth (o.tr) (k))) t).toNat)))) (@rfl V (V.pp [(iV ((nth ((nth (o.tr) (k)).no) (df ((nth (o.tr) (k))) t).toNat)))])) (by first | rfl | simp [ldV]) ?_
    refine R_mv (@rfl V (iV ((nth ((nth (o.tr) (k)).no) (df ((nth (o.tr) (k))) t).toNat)))) ?_
    exact R_nil ⟨t2, t3, t4, t6, rfl, t8, h2, h3, h4, trivial⟩
   intro T H ⟨t2, t3, t4, t6, t7, t8, h2, h3, h4, _⟩
   refine n5 _ _ ?_
   refine .done ?_
   refine W_regc (fun T H => T 2 = (V.mp 2 1 0 0) ∧ T 3 = (V.mp 3 1 0 0) ∧ T 4 = (V.mp 4 1 0 0) ∧ T 6 = (iV (df ((nth (o.tr) (k))) t)) ∧ T 7 = (iV ((nth ((nth (o.tr) (k)).no) (df ((nth (o.tr) (k))) t).toNat))) ∧ T 8 = (iV ((k + 1 : Nat) : Int)) ∧ H 2 = (⟨1, true, false, 34, 2, [[(iV (o.i)), (V.sl (List.map cT (o.tr)))]]⟩ : Blk) ∧ H 3 = (⟨1, true, false, 63, 2, [[(V.sl (List.map cI (t.ni))), (V.sl (List.map cI (t.no)))]]⟩ : Blk) ∧ H 4 = (⟨1, true, false, 67, 3, [[V.nilsl, (iV (0 : Int)), (iV (0 : Int))]]⟩ : Blk) ∧ True) ?_ ?_
   ·
    unfold r42_6
    refine R_mv t8 ?_
    refine R_addN (m := k) (n := 1) (@rfl V (iV ((k : Nat) : Int))) (@rfl V (iV ((1 : Nat) : Int))) (by omega) ?_
    refine R_mv (@rfl V (iV ((k + 1 : Nat) : Int))) ?_
    exact R_nil ⟨t2, t3, t4, t6, t7, rfl, h2, h3, h4, trivial⟩
   intro T H ⟨t2, t3, t4, t6, t7, t8, h2, h3, h4, _⟩
   refine p13 _ _ _ ?_ ⟨(k + 1), rfl, t2, t3, t4, (Eq.trans t6 (by first | rfl | (simp [clA_zero]; done) | (rw [clA_hit d1]; done) | (rw [clA_hit d1]; simp only; rw [if_neg (by omega), Int.toNat_of_nonneg d1.1]; done) | (rw [clA_skip d1]; done))), (Eq.trans t7 (by first | rfl | (simp [clA_zero]; done) | (rw [clA_hit d1]; done) | (rw [clA_hit d1]; simp only; rw [if_neg (by omega), Int.toNat_of_nonneg d1.1]; done) | (rw [clA_skip d1]; done))), (Eq.trans t8 (by first | rfl | (simp [clA_zero]; done) | (rw [clA_hit d1]; done) | (rw [clA_hit d1]; simp only; rw [if_neg (by omega), Int.toNat_of_nonneg d1.1]; done) | (rw [clA_skip d1]; done))), h2, h3, h4, ?_⟩
   · omega
   · omega
  have d1 : ¬(0 ≤ df (nth o.tr k) t ∧ df (nth o.tr k) t < (((clA o.tr t k).1 : Nat) : Int)) := by have q := c8; intro e; apply q; split <;> omega
  refine W_skip ?_
  refine n5 _ _ ?_
  refine .done ?_
  refine W_regc (fun T H => T 2 = (V.mp 2 1 0 0) ∧ T 3 = (V.mp 3 1 0 0) ∧ T 4 = (V.mp 4 1 0 0) ∧ T 6 = (iV ((if (clA o.tr t k).1 = t.ni.length then -1 else (((clA o.tr t k).1 : Nat) : Int)))) ∧ T 7 = (iV ((clA o.tr t k).2)) ∧ T 8 = (iV ((k + 1 : Nat) : Int)) ∧ H 2 = (⟨1, true, false, 34, 2, [[(iV (o.i)), (V.sl (List.map cT (o.tr)))]]⟩ : Blk) ∧ H 3 = (⟨1, true, false, 63, 2, [[(V.sl (List.map cI (t.ni))), (V.sl (List.map cI (t.no)))]]⟩ : Blk) ∧ H 4 = (⟨1, true, false, 67, 3, [[V.nilsl, (iV (0 : Int)), (iV (0 : Int))]]⟩ : Blk) ∧ True) ?_ ?_
  ·
   unfold r42_6
   refine R_mv t8 ?_
   refine R_addN (m := k) (n := 1) (@rfl V (iV ((k : Nat) : Int))) (@rfl V (iV ((1 : Nat) : Int))) (by omega) ?_
   refine R_mv (@rfl V (iV ((k + 1 : Nat) : Int))) ?_
   exact R_nil ⟨t2, t3, t4, t6, t7, rfl, h2, h3, h4, trivial⟩
  intro T H ⟨t2, t3, t4, t6, t7, t8, h2, h3, h4, _⟩
  refine p13 _ _ _ ?_ ⟨(k + 1), rfl, t2, t3, t4, (Eq.trans t6 (by first | rfl | (simp [clA_zero]; done) | (rw [clA_hit d1]; done) | (rw [clA_hit d1]; simp only; rw [if_neg (by omega), Int.toNat_of_nonneg d1.1]; done) | (rw [clA_skip d1]; done))), (Eq.trans t7 (by first | rfl | (simp [clA_zero]; done) | (rw [clA_hit d1]; done) | (rw [clA_hit d1]; simp only; rw [if_neg (by omega), Int.toNat_of_nonneg d1.1]; done) | (rw [clA_skip d1]; done))), (Eq.trans t8 (by first | rfl | (simp [clA_zero]; done) | (rw [clA_hit d1]; done) | (rw [clA_hit d1]; simp only; rw [if_neg (by omega), Int.toNat_of_nonneg d1.1]; done) | (rw [clA_skip d1]; done))), h2, h3, h4, ?_⟩
  · omega
  · omega
 have u8 := clA_le (l := o.tr) (t := t) k
 refine W_seq_exit ?_
 refine p33 _ _ _ ?_
 refine x2 _ _ ?_
 refine .done ?_
 refine W_seq_seq ?_
 refine W_seq_regc (fun T H => T 3 = (V.mp 3 1 0 0) ∧ T 4 = (V.mp 4 1 0 0) ∧ T 6 = (iV ((if (clA o.tr t k).1 = t.ni.length then -1 else (((clA o.tr t k).1 : Nat) : Int)))) ∧ T 7 = (iV ((clA o.tr t k).2)) ∧ T 52 = (V.bool (decide (((if (clA o.tr t k).1 = t.ni.length then -1 else (((clA o.tr t k).1 : Nat) : Int))) < (0 : Int)))) ∧ H 2 = (⟨1, true, false, 34, 2, [[(iV (o.i)), (V.sl (List.map cT (o.tr)))]]⟩ : Blk) ∧ H 3 = (⟨1, true, false, 63, 2, [[(V.sl (List.map cI (t.ni))), (V.sl (List.map cI (t.no)))]]⟩ : Blk) ∧ H 4 = (⟨1, true, false, 67, 3, [[V.nilsl, (iV (0 : Int)), (iV (0 : Int))]]⟩ : Blk) ∧ True) ?_ ?_
 ·
  unfold r42_11
  refine R_mv t6 ?_
  refine R_lss (x := ((if (clA o.tr t k).1 = t.ni.length then -1 else (((clA o.tr t k).1 : Nat) : Int)))) (y := (0 : Int)) (@rfl V (iV ((if (clA o.tr t k).1 = t.ni.length then -1 else (((clA o.tr t k).1 : Nat) : Int))))) (@rfl V (iV (0 : Int))) ?_
  exact R_nil ⟨t3, t4, t6, t7, rfl, h2, h3, h4, trivial⟩
 intro T H ⟨t3, t4, t6, t7, t52, h2, h3, h4, _⟩
 refine W_seq_if (p := ((if (clA o.tr t k).1 = t.ni.length then -1 else (((clA o.tr t k).1 : Nat) : Int))) < (0 : Int)) t52 (fun c9 => ?_) (fun c9 => ?_)
 ·
  have d2 := c9
  refine W_seq_seq ?_
  refine W_seq_regc (fun T H => T 4 = (V.mp 4 1 0 0) ∧ T 5 = (V.bool false) ∧ H 2 = (⟨1, true, false, 34, 2, [[(iV (o.i)), (V.sl (List.map cT (o.tr)))]]⟩ : Blk) ∧ H 3 = (⟨1, true, false, 63, 2, [[(V.sl (List.map cI (t.ni))), (V.sl (List.map cI (t.no)))]]⟩ : Blk) ∧ H 4 = (⟨1, true, false, 67, 3, [[V.nilsl, (iV (0 : Int)), (iV (0 : Int))]]⟩ : Blk) ∧ True) ?_ ?_
  ·
   unfold r42_12
   refine R_build (qs := []) (cs := [V.nilsl, (iV (0 : Int)), (iV (0 : Int))]) rfl rfl ?_
   refine R_store (vs := [V.nilsl, (iV (0 : Int)), (iV (0 : Int))]) (B' := (⟨1, true, false, 67, 3, [[V.nilsl, (iV (0 : Int)), (iV (0 : Int))]]⟩ : Blk)) t4 (@rfl V (V.agg [V.nilsl, (iV (0 : Int)), (iV (0 : Int))])) rfl h4 (by first | rfl | simp [stB, okB, Blk.own, putAt, V.one]) ?_
   refine R_mv (@rfl V (V.bool false)) ?_
   exact R_nil ⟨t4, rfl, h2, h3, rfl, trivial⟩
  intro T H ⟨t4, t5, h2, h3, h4, _⟩
  refine W_seq_ret ?_
  refine RetC_2 (resV_c (u := (V.agg [V.nilsl, (iV (0 : Int)), (iV (0 : Int))])) t4 h4 (by first | rfl | simp [ldB, ldV, Blk.own, V.one])) (resV_t t5) (fz_agg3 (fz_nil ?_) (fz_int ?_) (fz_int ?_)) (fz_bool ?_)
  · have e0 : k = o.tr.length := by omega
    subst e0
    rw [clW, if_neg (fun e => e.2 (by omega))]
  · have e0 : k = o.tr.length := by omega
    subst e0
    rw [clF, if_neg (fun e => e.2 (by omega))]
  · have e0 : k = o.tr.length := by omega
    subst e0
    rw [clS, if_neg (fun e => e.2 (by omega))]
  · have e0 : k = o.tr.length := by omega
    subst e0
    exact (decide_eq_false (fun e => e.2 (by omega))).symm
 have d2 := c9
 refine W_seq_skip ?_
 refine W_seq_regc (fun T H => T 4 = (V.mp 4 1 0 0) ∧ T 5 = (V.bool true) ∧ H 2 = (⟨1, true, false, 34, 2, [[(iV (o.i)), (V.sl (List.map cT (o.tr)))]]⟩ : Blk) ∧ H 3 = (⟨1, true, false, 63, 2, [[(V.sl (List.map cI (t.ni))), (V.sl (List.map cI (t.no)))]]⟩ : Blk) ∧ H 4 = (⟨1, true, false, 67, 3, [[(V.sl (List.map cI (cat ([List.take (((((if (clA o.tr t k).1 = t.ni.length then -1 else (((clA o.tr t k).1 : Nat) : Int))) + (1 : Int))).toNat) (t.ni)])))), (iV ((clA o.tr t k).2)), (iV ((nth (t.no) ((if (clA o.tr t k).1 = t.ni.length then -1 else (((clA o.tr t k).1 : Nat) : Int))).toNat)))]]⟩ : Blk) ∧ True) ?_ ?_
 ·
  unfold r42_13
  refine R_fld_mp (o' := 0) t3 h3 (by first | rfl | simp [okB, Blk.own]) rfl ?_
  refine R_load_mp (v := (V.sl (List.map cI (t.ni)))) (@rfl V (V.mp 3 1 0 0)) h3 (by first | rfl | simp [ldB, ldV, Blk.own, V.one]) ?_
  refine R_mv t6 ?_
  refine R_add (x := ((if (clA o.tr t k).1 = t.ni.length then -1 else (((clA o.tr t k).1 : Nat) : Int)))) (y := (1 : Int)) (@rfl V (iV ((if (clA o.tr t k).1 = t.ni.length then -1 else (((clA o.tr t k).1 : Nat) : Int))))) (@rfl V (iV (1 : Int))) (by omega) (by omega) ?_
  refine R_slice_hi (n := (((((if (clA o.tr t k).1 = t.ni.length then -1 else (((clA o.tr t k).1 : Nat) : Int))) + (1 : Int))).toNat)) (@rfl V (V.sl (List.map cI (t.ni)))) (Eq.trans (@rfl V (iV (((if (clA o.tr t k).1 = t.ni.length then -1 else (((clA o.tr t k).1 : Nat) : Int))) + (1 : Int)))) (iv_toNat (by omega))) (by omega) (fun _ => rfl) ?_
  refine R_bslice (qs := [(0, (V.sl (List.map cI (List.take (((((if (clA o.tr t k).1 = t.ni.length then -1 else (((clA o.tr t k).1 : Nat) : Int))) + (1 : Int))).toNat) (t.ni)))))]) (rows := [[(V.sl (List.map cI (List.take (((((if (clA o.tr t k).1 = t.ni.length then -1 else (((clA o.tr t k).1 : Nat) : Int))) + (1 : Int))).toNat) (t.ni))))]]) (mcons (congrArg (fun v => (0, v)) (@rfl V (V.sl (List.map cI (List.take (((((if (clA o.tr t k).1 = t.ni.length then -1 else (((clA o.tr t k).1 : Nat) : Int))) + (1 : Int))).toNat) (t.ni)))))) rfl) rfl ?_
  refine R_call (evcons (@rfl V (V.sl [[(V.sl (List.map cI (List.take (((((if (clA o.tr t k).1 = t.ni.length then -1 else (((clA o.tr t k).1 : Nat) : Int))) + (1 : Int))).toNat) (t.ni))))]])) evnil) (join_pure ([List.take (((((if (clA o.tr t k).1 = t.ni.length then -1 else (((clA o.tr t k).1 : Nat) : Int))) + (1 : Int))).toNat) (t.ni)]) (by simp [cat]; omega)) (fzv_mapcanon _ _ (by simp [-List.map_take, -List.map_drop, -List.map_append, -List.map_reverse])) (by simp [-List.map_take, -List.map_drop, -List.map_append, -List.map_reverse]) (Or.inl (by simp [-List.map_take, -List.map_drop, -List.map_append, -List.map_reverse])) ?_
  refine R_mv t7 ?_
  refine R_fld_mp (o' := 1) t3 h3 (by first | rfl | simp [okB, Blk.own]) rfl ?_
  refine R_load_mp (v := (V.sl (List.map cI (t.no)))) (@rfl V (V.mp 3 1 0 1)) h3 (by first | rfl | simp [ldB, ldV, Blk.own, V.one]) ?_
  refine R_mv t6 ?_
  refine R_idxI (i := ((if (clA o.tr t k).1 = t.ni.length then -1 else (((clA o.tr t k).1 : Nat) : Int)))) (@rfl V (V.sl (List.map cI (t.no)))) (@rfl V (iV ((if (clA o.tr t k).1 = t.ni.length then -1 else (((clA o.tr t k).1 : Nat) : Int))))) (by omega) (by omega) rfl ?_
  refine R_load_pp (v := (iV ((nth (t.no) ((if (clA o.tr t k).1 = t.ni.length then -1 else (((clA o.tr t k).1 : Nat) : Int))).toNat)))) (@rfl V (V.pp [(iV ((nth (t.no) ((if (clA o.tr t k).1 = t.ni.length then -1 else (((clA o.tr t k).1 : Nat) : Int))).toNat)))])) (by first | rfl | simp [ldV]) ?_
  refine R_build (qs := [(0, 1, (V.sl (List.map cI (cat ([List.take (((((if (clA o.tr t k).1 = t.ni.length then -1 else (((clA o.tr t k).1 : Nat) : Int))) + (1 : Int))).toNat) (t.ni)]))))), (1, 1, (iV ((clA o.tr t k).2))), (2, 1, (iV ((nth (t.no) ((if (clA o.tr t k).1 = t.ni.length then -1 else (((clA o.tr t k).1 : Nat) : Int))).toNat))))]) (cs := [(V.sl (List.map cI (cat ([List.take (((((if (clA o.tr t k).1 = t.ni.length then -1 else (((clA o.tr t k).1 : Nat) : Int))) + (1 : Int))).toNat) (t.ni)])))), (iV ((clA o.tr t k).2)), (iV ((nth (t.no) ((if (clA o.tr t k).1 = t.ni.length then -1 else (((clA o.tr t k).1 : Nat) : Int))).toNat)))]) (mcons (congrArg (fun v => (0, 1, v)) (@rfl V (V.sl (List.map cI (cat ([List.take (((((if (clA o.tr t k).1 = t.ni.length then -1 else (((clA o.tr t k).1 : Nat) : Int))) + (1 : Int))).toNat) (t.ni)])))))) (mcons (congrArg (fun v => (1, 1, v)) (@rfl V (iV ((clA o.tr t k).2)))) (mcons (congrArg (fun v => (2, 1, v)) (@rfl V (iV ((nth (t.no) ((if (clA o.tr t k).1 = t.ni.length then -1 else (((clA o.tr t k).1 : Nat) : Int))).toNat))))) rfl))) rfl ?_
  refine R_store (vs := [(V.sl (List.map cI (cat ([List.take (((((if (clA o.tr t k).1 = t.ni.length then -1 else (((clA o.tr t k).1 : Nat) : Int))) + (1 : Int))).toNat) (t.ni)])))), (iV ((clA o.tr t k).2)), (iV ((nth (t.no) ((if (clA o.tr t k).1 = t.ni.length then -1 else (((clA o.tr t k).1 : Nat) : Int))).toNat)))]) (B' := (⟨1, true, false, 67, 3, [[(V.sl (List.map cI (cat ([List.take (((((if (clA o.tr t k).1 = t.ni.length then -1 else (((clA o.tr t k).1 : Nat) : Int))) + (1 : Int))).toNat) (t.ni)])))), (iV ((clA o.tr t k).2)), (iV ((nth (t.no) ((if (clA o.tr t k).1 = t.ni.length then -1 else (((clA o.tr t k).1 : Nat) : Int))).toNat)))]]⟩ : Blk)) t4 (@rfl V (V.agg [(V.sl (List.map cI (cat ([List.take (((((if (clA o.tr t k).1 = t.ni.length then -1 else (((clA o.tr t k).1 : Nat) : Int))) + (1 : Int))).toNat) (t.ni)])))), (iV ((clA o.tr t k).2)), (iV ((nth (t.no) ((if (clA o.tr t k).1 = t.ni.length then -1 else (((clA o.tr t k).1 : Nat) : Int))).toNat)))])) rfl h4 (by first | rfl | simp [stB, okB, Blk.own, putAt, V.one]) ?_
  refine R_mv (@rfl V (V.bool true)) ?_
  exact R_nil ⟨t4, rfl, h2, h3, rfl, trivial⟩
 intro T H ⟨t4, t5, h2, h3, h4, _⟩
 refine W_ret ?_
 refine RetC_2 (resV_c (u := (V.agg [(V.sl (List.map cI (cat ([List.take (((((if (clA o.tr t k).1 = t.ni.length then -1 else (((clA o.tr t k).1 : Nat) : Int))) + (1 : Int))).toNat) (t.ni)])))), (iV ((clA o.tr t k).2)), (iV ((nth (t.no) ((if (clA o.tr t k).1 = t.ni.length then -1 else (((clA o.tr t k).1 : Nat) : Int))).toNat)))])) t4 h4 (by first | rfl | simp [ldB, ldV, Blk.own, V.one])) (resV_t t5) (fz_agg3 (fz_sl ?_ (fun _ => by simp)) (fz_int ?_) (fz_int ?_)) (fz_bool ?_)
 · have e0 : k = o.tr.length := by omega
   subst e0
   have d3 : (clA o.tr t o.tr.length).1 ≠ t.ni.length := by intro q; rw [if_pos q] at d2; omega
   rw [clW, if_pos (show clB o t from ⟨d0, d3⟩), if_neg d3]; rw [show ((((clA o.tr t o.tr.length).1 : Nat) : Int) + 1).toNat = (clA o.tr t o.tr.length).1 + 1 by omega]; simp [cat]
 · have e0 : k = o.tr.length := by omega
   subst e0
   have d3 : (clA o.tr t o.tr.length).1 ≠ t.ni.length := by intro q; rw [if_pos q] at d2; omega
   rw [clF, if_pos ⟨d0, d3⟩]
 · have e0 : k = o.tr.length := by omega
   subst e0
   have d3 : (clA o.tr t o.tr.length).1 ≠ t.ni.length := by intro q; rw [if_pos q] at d2; omega
   rw [clS, if_pos (show clB o t from ⟨d0, d3⟩), if_neg d3]; rfl
 · have e0 : k = o.tr.length := by omega
   subst e0
   have d3 : (clA o.tr t o.tr.length).1 ≠ t.ni.length := by intro q; rw [if_pos q] at d2; omega
   exact (decide_eq_true ⟨d0, d3⟩).symm

end Go.Proofs.Ytngkckefanbhgaa

namespace Go.Proofs.Ytngkckefanbhgaa
open Go Go.Proofs

theorem known_pure (o : Ob) (w : List Int) : PureC Try.prog 43 [(V.agg [(iV (o.i)), (V.sl (List.map cT (o.tr)))]), (V.sl (List.map cI (w)))] (iV ((knw o.tr w o.tr.length : Nat) : Int)) := by
 refine pure_of_Wb true 6 Try.func43 s43_ok (by kernel_rfl) (by simp [s43]) (by simp) (by simp) fun hB => ?_
 simp only [bnd_map, bnd_int, bnd_bool, bnd_str, bnd_agg, bnd_pp, bnd_nil, bnd_cons, implies_true, and_true, true_and] at hB
 unfold s43
 dsimp only
 refine W_seq_regc (fun T H => T 1 = (V.sl (List.map cI (w))) ∧ T 2 = (V.mp 2 1 0 0) ∧ H 2 = (⟨1, true, false, 34, 2, [[(iV (o.i)), (V.sl (List.map cT (o.tr)))]]⟩ : Blk) ∧ H 7 = (⟨0, false, false, 0, 0, []⟩ : Blk) ∧ True) ?_ ?_
 ·
  unfold r43_0
  refine R_box (i := 2) (n := 0) (m := 2) (cs := [(iV (o.i)), (V.sl (List.map cT (o.tr)))]) rfl (congrArg Blk.ver rfl) (@rfl V (V.agg [(iV (o.i)), (V.sl (List.map cT (o.tr)))])) rfl rfl ?_
  refine R_mv (@rfl V (iV (0 : Int))) ?_
  exact R_nil ⟨rfl, rfl, rfl, rfl, trivial⟩
 intro T H ⟨t1, t2, h2, h7, _⟩
 refine W_seq_regc (fun T H => T 1 = (V.sl (List.map cI (w))) ∧ T 2 = (V.mp 2 1 0 0) ∧ T 5 = (iV (0 : Int)) ∧ H 2 = (⟨1, true, false, 34, 2, [[(iV (o.i)), (V.sl (List.map cT (o.tr)))]]⟩ : Blk) ∧ H 7 = (⟨0, false, false, 0, 0, []⟩ : Blk) ∧ True) ?_ ?_
 ·
  unfold r43_1
  refine R_mv (@rfl V (iV (0 : Int))) ?_
  exact R_nil ⟨t1, t2, rfl, h2, h7, trivial⟩
 intro T H ⟨t1, t2, t5, h2, h7, _⟩
 refine W_seq_seq ?_
 refine W_seq_regc (fun T H => T 1 = (V.sl (List.map cI (w))) ∧ T 5 = (iV (0 : Int)) ∧ T 9 = (V.sl (List.map cT (o.tr))) ∧ T 10 = (iV ((o.tr.length : Nat) : Int)) ∧ T 11 = (iV (0 : Int)) ∧ H 2 = (⟨1, true, false, 34, 2, [[(iV (o.i)), (V.sl (List.map cT (o.tr)))]]⟩ : Blk) ∧ H 7 = (⟨0, false, false, 0, 0, []⟩ : Blk) ∧ True) ?_ ?_
 ·
  unfold r43_2
  refine R_fld_mp (o' := 1) t2 h2 (by first | rfl | simp [okB, Blk.own]) rfl ?_
  refine R_load_mp (v := (V.sl (List.map cT (o.tr)))) (@rfl V (V.mp 2 1 0 1)) h2 (by first | rfl | simp [ldB, ldV, Blk.own, V.one]) ?_
  refine R_len (@rfl V (V.sl (List.map cT (o.tr)))) ?_
  refine R_mv (@rfl V (iV (0 : Int))) ?_
  exact R_nil ⟨t1, t5, rfl, rfl, rfl, h2, h7, trivial⟩
 intro T H ⟨t1, t5, t9, t10, t11, h2, h7, _⟩
 refine W_seq_blockg fun Q1 n1 x1 y1 z1 => ?_
 refine W_loop (fun mm T H => ∃ (k : Nat) (v7 : Nat), mm = o.tr.length - k ∧ T 1 = (V.sl (List.map cI (w))) ∧ T 5 = (iV ((knw o.tr w k : Nat) : Int)) ∧ T 9 = (V.sl (List.map cT (o.tr))) ∧ T 10 = (iV ((o.tr.length : Nat) : Int)) ∧ T 11 = (iV ((k : Nat) : Int)) ∧ H 2 = (⟨1, true, false, 34, 2, [[(iV (o.i)), (V.sl (List.map cT (o.tr)))]]⟩ : Blk) ∧ (H 7).ver = v7 ∧ (k ≤ o.tr.length)) ?_ ?_
 ·
  refine ⟨_, 0, 0, rfl, t1, (Eq.trans t5 (by first | rfl | (rw [knw_succ]; done))), t9, t10, (Eq.trans t11 (by first | rfl | (rw [knw_succ]; done))), h2, (congrArg Blk.ver h7), ?_⟩
  · omega
 intro mm T H ⟨k, v7, hmm, t1, t5, t9, t10, t11, h2, h7, hk⟩ Q2 p12 p22 p32
 unfold b43_0
 refine W_seq_regc (fun T H => T 1 = (V.sl (List.map cI (w))) ∧ T 5 = (iV ((knw o.tr w k : Nat) : Int)) ∧ T 9 = (V.sl (List.map cT (o.tr))) ∧ T 10 = (iV ((o.tr.length : Nat) : Int)) ∧ T 11 = (iV ((k : Nat) : Int)) ∧ T 12 = (V.bool (decide (((k : Nat) : Int) < ((o.tr.length : Nat) : Int)))) ∧ H 2 = (⟨1, true, false, 34, 2, [[(iV (o.i)), (V.sl (List.map cT (o.tr)))]]⟩ : Blk) ∧ (H 7).ver = v7 ∧ True) ?_ ?_
 ·
  unfold r43_3
  refine R_lss (x := ((k : Nat) : Int)) (y := ((o.tr.length : Nat) : Int)) t11 t10 ?_
  exact R_nil ⟨t1, t5, t9, t10, t11, rfl, h2, h7, trivial⟩
 intro T H ⟨t1, t5, t9, t10, t11, t12, h2, h7, _⟩
 refine W_seq_if (p := ((k : Nat) : Int) < ((o.tr.length : Nat) : Int)) t12 (fun c3 => ?_) (fun c3 => ?_)
 ·
  refine W_seq_skip ?_
  refine W_seq_blockg fun Q4 n4 x4 y4 z4 => ?_
  refine W_seq_regc (fun T H => T 1 = (V.sl (List.map cI (w))) ∧ T 5 = (iV ((knw o.tr w k : Nat) : Int)) ∧ T 7 = (V.mp 7 (v7 + 1) 0 0) ∧ T 9 = (V.sl (List.map cT (o.tr))) ∧ T 10 = (iV ((o.tr.length : Nat) : Int)) ∧ T 11 = (iV ((k : Nat) : Int)) ∧ H 2 = (⟨1, true, false, 34, 2, [[(iV (o.i)), (V.sl (List.map cT (o.tr)))]]⟩ : Blk) ∧ H 7 = (⟨v7 + 1, true, false, 63, 2, [[(V.sl (List.map cI ((nth (o.tr) (k)).ni))), (V.sl (List.map cI ((nth (o.tr) (k)).no)))]]⟩ : Blk) ∧ True) ?_ ?_
  ·
   unfold r43_4
   refine R_idx (i := k) t9 t11 (by omega) rfl ?_
   refine R_load_pp (v := (V.agg [(V.sl (List.map cI ((nth (o.tr) (k)).ni))), (V.sl (List.map cI ((nth (o.tr) (k)).no)))])) (@rfl V (V.pp [(V.sl (List.map cI ((nth (o.tr) (k)).ni))), (V.sl (List.map cI ((nth (o.tr) (k)).no)))])) (by first | rfl | simp [ldV]) ?_
   refine R_alloc (i := 7) (n := v7) (m := 2) rfl h7 rfl ?_
   refine R_store (vs := [(V.sl (List.map cI ((nth (o.tr) (k)).ni))), (V.sl (List.map cI ((nth (o.tr) (k)).no)))]) (B' := (⟨v7 + 1, true, false, 63, 2, [[(V.sl (List.map cI ((nth (o.tr) (k)).ni))), (V.sl (List.map cI ((nth (o.tr) (k)).no)))]]⟩ : Blk)) (@rfl V (V.mp 7 (v7 + 1) 0 0)) (@rfl V (V.agg [(V.sl (List.map cI ((nth (o.tr) (k)).ni))), (V.sl (List.map cI ((nth (o.tr) (k)).no)))])) rfl (@rfl Blk (⟨v7 + 1, true, false, 63, 2, [[V.nilsl, V.nilsl]]⟩ : Blk)) (by first | rfl | simp [stB, okB, Blk.own, putAt, V.one]) ?_
   exact R_nil ⟨t1, t5, rfl, t9, t10, t11, h2, rfl, trivial⟩
  intro T H ⟨t1, t5, t7, t9, t10, t11, h2, h7, _⟩
  refine W_regc (fun T H => T 1 = (V.sl (List.map cI (w))) ∧ T 5 = (iV ((max (knw o.tr w k) (cmn ((nth (o.tr) (k)).ni) w) : Nat) : Int)) ∧ T 9 = (V.sl (List.map cT (o.tr))) ∧ T 10 = (iV ((o.tr.length : Nat) : Int)) ∧ T 11 = (iV ((k : Nat) : Int)) ∧ H 2 = (⟨1, true, false, 34, 2, [[(iV (o.i)), (V.sl (List.map cT (o.tr)))]]⟩ : Blk) ∧ H 7 = (⟨v7 + 1, true, false, 63, 2, [[(V.sl (List.map cI ((nth (o.tr) (k)).ni))), (V.sl (List.map cI ((nth (o.tr) (k)).no)))]]⟩ : Blk) ∧ True) ?_ ?_
  ·
   unfold r43_5
   refine R_mv t5 ?_
   refine R_fld_mp (o' := 0) t7 h7 (by first | rfl | simp [okB, Blk.own]) rfl ?_
   refine R_load_mp (v := (V.sl (List.map cI ((nth (o.tr) (k)).ni)))) (@rfl V (V.mp 7 (v7 + 1) 0 0)) h7 (by first | rfl | simp [ldB, ldV, Blk.own, V.one]) ?_
   refine R_mv t1 ?_
   have q5 := cmn_l ((nth (o.tr) (k)).ni) w
   have q6 := cmn_r ((nth (o.tr) (k)).ni) w
   refine R_call (evcons (@rfl V (V.sl (List.map cI ((nth (o.tr) (k)).ni)))) (evcons (@rfl V (V.sl (List.map cI (w)))) evnil)) (common_pure ((nth (o.tr) (k)).ni) w) (fzv_mapcanon _ _ (by simp [-List.map_take, -List.map_drop, -List.map_append, -List.map_reverse])) (by simp [-List.map_take, -List.map_drop, -List.map_append, -List.map_reverse]) (Or.inl (by simp [-List.map_take, -List.map_drop, -List.map_append, -List.map_reverse])) ?_
   refine R_mxN (m := (knw o.tr w k)) (n := (cmn ((nth (o.tr) (k)).ni) w)) (@rfl V (iV ((knw o.tr w k : Nat) : Int))) (@rfl V (iV ((cmn ((nth (o.tr) (k)).ni) w : Nat) : Int))) ?_
   refine R_mv (@rfl V (iV ((max (knw o.tr w k) (cmn ((nth (o.tr) (k)).ni) w) : Nat) : Int))) ?_
   exact R_nil ⟨t1, rfl, t9, t10, t11, h2, h7, trivial⟩
  intro T H ⟨t1, t5, t9, t10, t11, h2, h7, _⟩
  have q7 := cmn_l ((nth (o.tr) (k)).ni) w
  have q8 := cmn_r ((nth (o.tr) (k)).ni) w
  refine n4 _ _ ?_
  refine .done ?_
  refine W_regc (fun T H => T 1 = (V.sl (List.map cI (w))) ∧ T 5 = (iV ((max (knw o.tr w k) (cmn ((nth (o.tr) (k)).ni) w) : Nat) : Int)) ∧ T 9 = (V.sl (List.map cT (o.tr))) ∧ T 10 = (iV ((o.tr.length : Nat) : Int)) ∧ T 11 = (iV ((k + 1 : Nat) : Int)) ∧ H 2 = (⟨1, true, false, 34, 2, [[(iV (o.i)), (V.sl (List.map cT (o.tr)))]]⟩ : Blk) ∧ H 7 = (⟨v7 + 1, true, false, 63, 2, [[(V.sl (List.map cI ((nth (o.tr) (k)).ni))), (V.sl (List.map cI ((nth (o.tr) (k)).no)))]]⟩ : Blk) ∧ True) ?_ ?_
  ·
   unfold r43_6
   refine R_addN (m := k) (n := 1) t11 (@rfl V (iV ((1 : Nat) : Int))) (by omega) ?_
   refine R_mv (@rfl V (iV ((k + 1 : Nat) : Int))) ?_
   exact R_nil ⟨t1, t5, t9, t10, rfl, h2, h7, trivial⟩
  intro T H ⟨t1, t5, t9, t10, t11, h2, h7, _⟩
  refine p12 _ _ _ ?_ ⟨(k + 1), (v7 + 1), rfl, t1, (Eq.trans t5 (by first | rfl | (rw [knw_succ]; done))), t9, t10, (Eq.trans t11 (by first | rfl | (rw [knw_succ]; done))), h2, (congrArg Blk.ver h7), ?_⟩
  · omega
  · omega
 refine W_seq_exit ?_
 refine p32 _ _ _ ?_
 refine x1 _ _ ?_
 refine .done ?_
 refine W_seq_regc (fun T H => T 4 = (iV ((knw o.tr w k : Nat) : Int)) ∧ H 2 = (⟨1, true, false, 34, 2, [[(iV (o.i)), (V.sl (List.map cT (o.tr)))]]⟩ : Blk) ∧ (H 7).ver = v7 ∧ True) ?_ ?_
 ·
  unfold r43_7
  refine R_mv t5 ?_
  refine R_mv (@rfl V (iV ((knw o.tr w k : Nat) : Int))) ?_
  exact R_nil ⟨rfl, h2, h7, trivial⟩
 intro T H ⟨t4, h2, h7, _⟩
 refine W_ret ?_
 refine Ret_1 t4 (fz_int ?_)
 · (have e : k = o.tr.length := (by omega)); subst e; rfl

end Go.Proofs.Ytngkckefanbhgaa

namespace Go.Proofs.Ytngkckefanbhgaa
open Go Go.Proofs

def r44_0 : List SO := [
  ⟨none, some 2, .box 34 2 (.t 0)⟩,
  ⟨none, some 4, .mv (.c (.int .i64 0))⟩]
def r44_1 : List SO := [
  ⟨none, some 5, .mv (.c (.int .i64 0))⟩]
def r44_2 : List SO := [
  ⟨none, some 6, .mv (.c (.int .i64 0))⟩]
def r44_3 : List SO := [
  ⟨none, some 7, .mv (.t 6)⟩,
  ⟨none, some 8, .fld 1 (.t 2)⟩,
  ⟨none, some 9, .load false 1 (.t 8)⟩,
  ⟨none, some 10, .len (.t 9)⟩,
  ⟨none, some 11, .bin .lss (.t 7) (.t 10)⟩]
def r44_5 : List SO := [
  ⟨none, some 14, .mv (.t 5)⟩,
  ⟨none, some 15, .fld 1 (.t 2)⟩,
  ⟨none, some 16, .load false 1 (.t 15)⟩,
  ⟨none, some 17, .mv (.t 6)⟩,
  ⟨none, some 18, .idx 2 (.t 16) (.t 17)⟩,
  ⟨none, some 19, .fld 0 (.t 18)⟩,
  ⟨none, some 20, .load false 1 (.t 19)⟩,
  ⟨none, some 21, .mv (.t 1)⟩,
  ⟨none, some 22, .call false 67 [.t 20, .t 21]⟩,
  ⟨none, some 23, .mx (.t 14) (.t 22)⟩,
  ⟨none, some 5, .mv (.t 23)⟩]
def r44_4 : List SO := [
  ⟨none, some 12, .mv (.t 6)⟩,
  ⟨none, some 13, .bin .add (.t 12) (.c (.int .i64 1))⟩,
  ⟨none, some 6, .mv (.t 13)⟩]
def b44_0 : SC := .seq (.seq (.reg r44_3) (.cond (.t 11) (.skip) (.exit 0))) (.seq (.block 1 (.reg r44_5)) (.reg r44_4))
def r44_6 : List SO := [
  ⟨none, some 24, .mv (.t 5)⟩,
  ⟨none, some 4, .mv (.t 24)⟩]
def s44 : SF := ⟨25, [.tmp 4], .seq (.reg r44_0) (.seq (.reg r44_1) (.seq (.seq (.reg r44_2) (.block 0 (.loop b44_0))) (.seq (.reg r44_6) (.ret))))⟩
theorem s44_ok : slimF Try.prog ⟨[94, 102, 103, 108, 109, 116, 119, 121, 125], []⟩ Try.f44 = some s44 := by kernel_rfl

end Go.Proofs.Ytngkckefanbhgaa

namespace Go.Proofs.Ytngkckefanbhgaa
open Go Go.Proofs

theorem rknown_pure (o : Ob) (w : List Int) : PureC Try.prog 44 [(V.agg [(iV (o.i)), (V.sl (List.map cT (o.tr)))]), (V.sl (List.map cI (w)))] (iV ((knw o.tr w o.tr.length : Nat) : Int)) := by
 refine pure_of_Wb true 6 Try.func44 s44_ok (by kernel_rfl) (by simp [s44]) (by simp) (by simp) fun hB => ?_
 simp only [bnd_map, bnd_int, bnd_bool, bnd_str, bnd_agg, bnd_pp, bnd_nil, bnd_cons, implies_true, and_true, true_and] at hB
 unfold s44
 dsimp only
 refine W_seq_regc (fun T H => T 1 = (V.sl (List.map cI (w))) ∧ T 2 = (V.mp 2 1 0 0) ∧ H 2 = (⟨1, true, false, 34, 2, [[(iV (o.i)), (V.sl (List.map cT (o.tr)))]]⟩ : Blk) ∧ True) ?_ ?_
 ·
  unfold r44_0
  refine R_box (i := 2) (n := 0) (m := 2) (cs := [(iV (o.i)), (V.sl (List.map cT (o.tr)))]) rfl (congrArg Blk.ver rfl) (@rfl V (V.agg [(iV (o.i)), (V.sl (List.map cT (o.tr)))])) rfl rfl ?_
  refine R_mv (@rfl V (iV (0 : Int))) ?_
  exact R_nil ⟨rfl, rfl, rfl, trivial⟩
 intro T H ⟨t1, t2, h2, _⟩
 refine W_seq_regc (fun T H => T 1 = (V.sl (List.map cI (w))) ∧ T 2 = (V.mp 2 1 0 0) ∧ T 5 = (iV (0 : Int)) ∧ H 2 = (⟨1, true, false, 34, 2, [[(iV (o.i)), (V.sl (List.map cT (o.tr)))]]⟩ : Blk) ∧ True) ?_ ?_
 ·
  unfold r44_1
  refine R_mv (@rfl V (iV (0 : Int))) ?_
  exact R_nil ⟨t1, t2, rfl, h2, trivial⟩
 intro T H ⟨t1, t2, t5, h2, _⟩
 refine W_seq_seq ?_
 refine W_seq_regc (fun T H => T 1 = (V.sl (List.map cI (w))) ∧ T 2 = (V.mp 2 1 0 0) ∧ T 5 = (iV (0 : Int)) ∧ T 6 = (iV (0 : Int)) ∧ H 2 = (⟨1, true, false, 34, 2, [[(iV (o.i)), (V.sl (List.map cT (o.tr)))]]⟩ : Blk) ∧ True) ?_ ?_
 ·
  unfold r44_2
  refine R_mv (@rfl V (iV (0 : Int))) ?_
  exact R_nil ⟨t1, t2, t5, rfl, h2, trivial⟩
 intro T H ⟨t1, t2, t5, t6, h2, _⟩
 refine W_seq_blockg fun Q1 n1 x1 y1 z1 => ?_
 refine W_loop (fun mm T H => ∃ (k : Nat), mm = o.tr.length - k ∧ T 1 = (V.sl (List.map cI (w))) ∧ T 2 = (V.mp 2 1 0 0) ∧ T 5 = (iV ((knw o.tr w k : Nat) : Int)) ∧ T 6 = (iV ((k : Nat) : Int)) ∧ H 2 = (⟨1, true, false, 34, 2, [[(iV (o.i)), (V.sl (List.map cT (o.tr)))]]⟩ : Blk) ∧ (k ≤ o.tr.length)) ?_ ?_
 ·
  refine ⟨_, 0, rfl, t1, t2, (Eq.trans t5 (by first | rfl | (rw [knw_succ]; done))), (Eq.trans t6 (by first | rfl | (rw [knw_succ]; done))), h2, ?_⟩
  · omega
 intro mm T H ⟨k, hmm, t1, t2, t5, t6, h2, hk⟩ Q2 p12 p22 p32
 unfold b44_0
 refine W_seq_seq ?_
 refine W_seq_regc (fun T H => T 1 = (V.sl (List.map cI (w))) ∧ T 2 = (V.mp 2 1 0 0) ∧ T 5 = (iV ((knw o.tr w k : Nat) : Int)) ∧ T 6 = (iV ((k : Nat) : Int)) ∧ T 11 = (V.bool (decide (((k : Nat) : Int) < ((o.tr.length : Nat) : Int)))) ∧ H 2 = (⟨1, true, false, 34, 2, [[(iV (o.i)), (V.sl (List.map cT (o.tr)))]]⟩ : Blk) ∧ True) ?_ ?_
 ·
  unfold r44_3
  refine R_mv t6 ?_
  refine R_fld_mp (o' := 1) t2 h2 (by first | rfl | simp [okB, Blk.own]) rfl ?_
  refine R_load_mp (v := (V.sl (List.map cT (o.tr)))) (@rfl V (V.mp 2 1 0 1)) h2 (by first | rfl | simp [ldB, ldV, Blk.own, V.one]) ?_
  refine R_len (@rfl V (V.sl (List.map cT (o.tr)))) ?_
  refine R_lss (x := ((k : Nat) : Int)) (y := ((o.tr.length : Nat) : Int)) (@rfl V (iV ((k : Nat) : Int))) (@rfl V (iV ((o.tr.length : Nat) : Int))) ?_
  exact R_nil ⟨t1, t2, t5, t6, rfl, h2, trivial⟩
 intro T H ⟨t1, t2, t5, t6, t11, h2, _⟩
 refine W_seq_if (p := ((k : Nat) : Int) < ((o.tr.length : Nat) : Int)) t11 (fun c3 => ?_) (fun c3 => ?_)
 ·
  refine W_seq_skip ?_
  refine W_seq_blockg fun Q4 n4 x4 y4 z4 => ?_
  refine W_regc (fun T H => T 1 = (V.sl (List.map cI (w))) ∧ T 2 = (V.mp 2 1 0 0) ∧ T 5 = (iV ((max (knw o.tr w k) (cmn ((nth (o.tr) (k)).ni) w) : Nat) : Int)) ∧ T 6 = (iV ((k : Nat) : Int)) ∧ H 2 = (⟨1, true, false, 34, 2, [[(iV (o.i)), (V.sl (List.map cT (o.tr)))]]⟩ : Blk) ∧ True) ?_ ?_
  ·
   unfold r44_5
   refine R_mv t5 ?_
   refine R_fld_mp (o' := 1) t2 h2 (by first | rfl | simp [okB, Blk.own]) rfl ?_
   refine R_load_mp (v := (V.sl (List.map cT (o.tr)))) (@rfl V (V.mp 2 1 0 1)) h2 (by first | rfl | simp [ldB, ldV, Blk.own, V.one]) ?_
   refine R_mv t6 ?_
   refine R_idx (i := k) (@rfl V (V.sl (List.map cT (o.tr)))) (@rfl V (iV ((k : Nat) : Int))) (by omega) rfl ?_
   refine R_fld_pp (cs' := [(V.sl (List.map cI ((nth (o.tr) (k)).ni))), (V.sl (List.map cI ((nth (o.tr) (k)).no)))]) (@rfl V (V.pp [(V.sl (List.map cI ((nth (o.tr) (k)).ni))), (V.sl (List.map cI ((nth (o.tr) (k)).no)))])) rfl ?_
   refine R_load_pp (v := (V.sl (List.map cI ((nth (o.tr) (k)).ni)))) (@rfl V (V.pp [(V.sl (List.map cI ((nth (o.tr) (k)).ni))), (V.sl (List.map cI ((nth (o.tr) (k)).no)))])) (by first | rfl | simp [ldV]) ?_
   refine R_mv t1 ?_
   have q5 := cmn_l ((nth (o.tr) (k)).ni) w
   have q6 := cmn_r ((nth (o.tr) (k)).ni) w
   refine R_call (evcons (@rfl V (V.sl (List.map cI ((nth (o.tr) (k)).ni)))) (evcons (@rfl V (V.sl (List.map cI (w)))) evnil)) (rcommon_pure ((nth (o.tr) (k)).ni) w) (fzv_mapcanon _ _ (by simp [-List.map_take, -List.map_drop, -List.map_append, -List.map_reverse])) (by simp [-List.map_take, -List.map_drop, -List.map_append, -List.map_reverse]) (Or.inl (by simp [-List.map_take, -List.map_drop, -List.map_append, -List.map_reverse])) ?_
   refine R_mxN (m := (knw o.tr w k)) (n := (cmn ((nth (o.tr) (k)).ni) w)) (@rfl V (iV ((knw o.tr w k : Nat) : Int))) (@rfl V (iV ((cmn ((nth (o.tr) (k)).ni) w : Nat) : Int))) ?_
   refine R_mv (@rfl V (iV ((max (knw o.tr w k) (cmn ((nth (o.tr) (k)).ni) w) : Nat) : Int))) ?_
   exact R_nil ⟨t1, t2, rfl, t6, h2, trivial⟩
  intro T H ⟨t1, t2, t5, t6, h2, _⟩
  have q7 := cmn_l ((nth (o.tr) (k)).ni) w
  have q8 := cmn_r ((nth (o.tr) (k)).ni) w
  refine n4 _ _ ?_
  refine .done ?_
  refine W_regc (fun T H => T 1 = (V.sl (List.map cI (w))) ∧ T 2 = (V.mp 2 1 0 0) ∧ T 5 = (iV ((max (knw o.tr w k) (cmn ((nth (o.tr) (k)).ni) w) : Nat) : Int)) ∧ T 6 = (iV ((k + 1 : Nat) : Int)) ∧ H 2 = (⟨1, true, false, 34, 2, [[(iV (o.i)), (V.sl (List.map cT (o.tr)))]]⟩ : Blk) ∧ True) ?_ ?_
  ·
   unfold r44_4
   refine R_mv t6 ?_
   refine R_addN (m := k) (n := 1) (@rfl V (iV ((k : Nat) : Int))) (@rfl V (iV ((1 : Nat) : Int))) (by omega) ?_
   refine R_mv (@rfl V (iV ((k + 1 : Nat) : Int))) ?_
   exact R_nil ⟨t1, t2, t5, rfl, h2, trivial⟩
  intro T H ⟨t1, t2, t5, t6, h2, _⟩
  refine p12 _ _ _ ?_ ⟨(k + 1), rfl, t1, t2, (Eq.trans t5 (by first | rfl | (rw [knw_succ]; done))), (Eq.trans t6 (by first | rfl | (rw [knw_succ]; done))), h2, ?_⟩
  · omega
  · omega
 refine W_seq_exit ?_
 refine p32 _ _ _ ?_
 refine x1 _ _ ?_
 refine .done ?_
 refine W_seq_regc (fun T H => T 4 = (iV ((knw o.tr w k : Nat) : Int)) ∧ H 2 = (⟨1, true, false, 34, 2, [[(iV (o.i)), (V.sl (List.map cT (o.tr)))]]⟩ : Blk) ∧ True) ?_ ?_
 ·
  unfold r44_6
  refine R_mv t5 ?_
  refine R_mv (@rfl V (iV ((knw o.tr w k : Nat) : Int))) ?_
  exact R_nil ⟨rfl, h2, trivial⟩
 intro T H ⟨t4, h2, _⟩
 refine W_ret ?_
 refine Ret_1 t4 (fz_int ?_)
 · (have e : k = o.tr.length := (by omega)); subst e; rfl

end Go.Proofs.Ytngkckefanbhgaa

namespace Go.Proofs.Ytngkckefanbhgaa
open Go Go.Proofs

theorem law8_pure (o : Ob) (w : List Int) (t : Tr) : PureC Try.prog 8 [(V.agg [(iV (o.i)), (V.sl (List.map cT (o.tr)))]), (V.sl (List.map cI (w))), (V.agg [(V.sl (List.map cI (t.ni))), (V.sl (List.map cI (t.no)))])] (V.bool true) := by
 refine pure_of_Wb true 6 Try.func8 s8_ok (by kernel_rfl) (by simp [s8]) (by simp) (by simp) fun hB => ?_
 simp only [bnd_map, bnd_int, bnd_bool, bnd_str, bnd_agg, bnd_pp, bnd_nil, bnd_cons, implies_true, and_true, true_and] at hB
 unfold s8
 dsimp only
 refine W_seq_regc (fun T H => T 1 = (V.sl (List.map cI (w))) ∧ T 3 = (V.mp 3 1 0 0) ∧ T 5 = (V.mp 5 1 0 0) ∧ H 3 = (⟨1, true, false, 34, 2, [[(iV (o.i)), (V.sl (List.map cT (o.tr)))]]⟩ : Blk) ∧ H 5 = (⟨1, true, false, 63, 2, [[(V.sl (List.map cI (t.ni))), (V.sl (List.map cI (t.no)))]]⟩ : Blk) ∧ H 11 = (⟨0, false, false, 0, 0, []⟩ : Blk) ∧ H 13 = (⟨0, false, false, 0, 0, []⟩ : Blk) ∧ True) ?_ ?_
 ·
  unfold r8_0
  refine R_box (i := 3) (n := 0) (m := 2) (cs := [(iV (o.i)), (V.sl (List.map cT (o.tr)))]) rfl (congrArg Blk.ver rfl) (@rfl V (V.agg [(iV (o.i)), (V.sl (List.map cT (o.tr)))])) rfl rfl ?_
  refine R_box (i := 5) (n := 0) (m := 2) (cs := [(V.sl (List.map cI (t.ni))), (V.sl (List.map cI (t.no)))]) rfl (congrArg Blk.ver rfl) (@rfl V (V.agg [(V.sl (List.map cI (t.ni))), (V.sl (List.map cI (t.no)))])) rfl rfl ?_
  refine R_mv (@rfl V (V.bool false)) ?_
  exact R_nil ⟨rfl, rfl, rfl, rfl, rfl, rfl, rfl, trivial⟩
 intro T H ⟨t1, t3, t5, h3, h5, h11, h13, _⟩
 refine W_seq_seq ?_
 refine W_seq_regc (fun T H => T 1 = (V.sl (List.map cI (w))) ∧ T 3 = (V.mp 3 1 0 0) ∧ T 5 = (V.mp 5 1 0 0) ∧ T 30 = (V.bool (decide ((((ogr o) ∨ ((1100 : Int) < (t.ni.length : Nat) ∨ (1100 : Int) < (t.no.length : Nat))) ∨ ((1100 : Int) < ((w.length : Nat) : Int))) ∨ ((oval o) ≠ (0 : Int))))) ∧ H 3 = (⟨1, true, false, 34, 2, [[(iV (o.i)), (V.sl (List.map cT (o.tr)))]]⟩ : Blk) ∧ H 5 = (⟨1, true, false, 63, 2, [[(V.sl (List.map cI (t.ni))), (V.sl (List.map cI (t.no)))]]⟩ : Blk) ∧ H 11 = (⟨0, false, false, 0, 0, []⟩ : Blk) ∧ H 13 = (⟨0, false, false, 0, 0, []⟩ : Blk) ∧ True) ?_ ?_
 ·
  unfold r8_1
  refine R_load_mp (v := (V.agg [(iV (o.i)), (V.sl (List.map cT (o.tr)))])) t3 h3 (by first | rfl | simp [ldB, ldV, Blk.own, V.one]) ?_
  refine R_call (evcons (@rfl V (V.agg [(iV (o.i)), (V.sl (List.map cT (o.tr)))])) evnil) (great16_pure o) (fzv_mapcanon _ _ (by simp [-List.map_take, -List.map_drop, -List.map_append, -List.map_reverse])) (by simp [-List.map_take, -List.map_drop, -List.map_append, -List.map_reverse]) (Or.inl (by simp [-List.map_take, -List.map_drop, -List.map_append, -List.map_reverse])) ?_
  refine R_mv (@rfl V (V.bool (decide (ogr o)))) ?_
  refine Ops_seg 3 (fun T H => T 1 = (V.sl (List.map cI (w))) ∧ T 3 = (V.mp 3 1 0 0) ∧ T 5 = (V.mp 5 1 0 0) ∧ T 20 = (V.bool (decide ((ogr o) ∨ ((1100 : Int) < (t.ni.length : Nat) ∨ (1100 : Int) < (t.no.length : Nat))))) ∧ H 3 = (⟨1, true, false, 34, 2, [[(iV (o.i)), (V.sl (List.map cT (o.tr)))]]⟩ : Blk) ∧ H 5 = (⟨1, true, false, 63, 2, [[(V.sl (List.map cI (t.ni))), (V.sl (List.map cI (t.no)))]]⟩ : Blk) ∧ H 11 = (⟨0, false, false, 0, 0, []⟩ : Blk) ∧ H 13 = (⟨0, false, false, 0, 0, []⟩ : Blk) ∧ True) ?_ ?_
  ·
   by_cases g1 : ogr o
   ·
    refine G_no (Eq.trans (@rfl V (V.bool (decide (ogr o)))) (bdT g1)) (by decide) ?_
    refine G_no (Eq.trans (@rfl V (V.bool (decide (ogr o)))) (bdT g1)) (by decide) ?_
    refine R_pickT (Eq.trans (@rfl V (V.bool (decide (ogr o)))) (bdT g1)) (@rfl V (V.bool true)) ?_
    exact ⟨t1, t3, t5, (Eq.trans (@rfl V (V.bool true)) (dec_orT g1)), h3, h5, h11, h13, trivial⟩
   ·
    refine G_yes (Eq.trans (@rfl V (V.bool (decide (ogr o)))) (bdF g1)) ?_
    refine R_load_mp (v := (V.agg [(V.sl (List.map cI (t.ni))), (V.sl (List.map cI (t.no)))])) t5 h5 (by first | rfl | simp [ldB, ldV, Blk.own, V.one]) ?_
    refine G_yes (Eq.trans (@rfl V (V.bool (decide (ogr o)))) (bdF g1)) ?_
    refine R_call (evcons (@rfl V (V.agg [(V.sl (List.map cI (t.ni))), (V.sl (List.map cI (t.no)))])) evnil) (long16_pure t) (fzv_mapcanon _ _ (by simp [-List.map_take, -List.map_drop, -List.map_append, -List.map_reverse])) (by simp [-List.map_take, -List.map_drop, -List.map_append, -List.map_reverse]) (Or.inl (by simp [-List.map_take, -List.map_drop, -List.map_append, -List.map_reverse])) ?_
    refine R_pickF (Eq.trans (@rfl V (V.bool (decide (ogr o)))) (bdF g1)) (@rfl V (V.bool (decide ((1100 : Int) < (t.ni.length : Nat) ∨ (1100 : Int) < (t.no.length : Nat))))) ?_
    exact ⟨t1, t3, t5, (Eq.trans (@rfl V (V.bool (decide ((1100 : Int) < (t.ni.length : Nat) ∨ (1100 : Int) < (t.no.length : Nat))))) (dec_orF g1)), h3, h5, h11, h13, trivial⟩
  intro T H ⟨t1, t3, t5, t20, h3, h5, h11, h13, _⟩
  refine R_mv t20 ?_
  refine Ops_seg 4 (fun T H => T 1 = (V.sl (List.map cI (w))) ∧ T 3 = (V.mp 3 1 0 0) ∧ T 5 = (V.mp 5 1 0 0) ∧ T 25 = (V.bool (decide (((ogr o) ∨ ((1100 : Int) < (t.ni.length : Nat) ∨ (1100 : Int) < (t.no.length : Nat))) ∨ ((1100 : Int) < ((w.length : Nat) : Int))))) ∧ H 3 = (⟨1, true, false, 34, 2, [[(iV (o.i)), (V.sl (List.map cT (o.tr)))]]⟩ : Blk) ∧ H 5 = (⟨1, true, false, 63, 2, [[(V.sl (List.map cI (t.ni))), (V.sl (List.map cI (t.no)))]]⟩ : Blk) ∧ H 11 = (⟨0, false, false, 0, 0, []⟩ : Blk) ∧ H 13 = (⟨0, false, false, 0, 0, []⟩ : Blk) ∧ True) ?_ ?_
  ·
   by_cases g2 : (ogr o) ∨ ((1100 : Int) < (t.ni.length : Nat) ∨ (1100 : Int) < (t.no.length : Nat))
   ·
    refine G_no (Eq.trans (@rfl V (V.bool (decide ((ogr o) ∨ ((1100 : Int) < (t.ni.length : Nat) ∨ (1100 : Int) < (t.no.length : Nat)))))) (bdT g2)) (by decide) ?_
    refine G_no (Eq.trans (@rfl V (V.bool (decide ((ogr o) ∨ ((1100 : Int) < (t.ni.length : Nat) ∨ (1100 : Int) < (t.no.length : Nat)))))) (bdT g2)) (by decide) ?_
    refine G_no (Eq.trans (@rfl V (V.bool (decide ((ogr o) ∨ ((1100 : Int) < (t.ni.length : Nat) ∨ (1100 : Int) < (t.no.length : Nat)))))) (bdT g2)) (by decide) ?_
    refine R_pickT (Eq.trans (@rfl V (V.bool (decide ((ogr o) ∨ ((1100 : Int) < (t.ni.length : Nat) ∨ (1100 : Int) < (t.no.length : Nat)))))) (bdT g2)) (@rfl V (V.bool true)) ?_
    exact ⟨t1, t3, t5, (Eq.trans (@rfl V (V.bool true)) (dec_orT g2)), h3, h5, h11, h13, trivial⟩
   ·
    refine G_yes (Eq.trans (@rfl V (V.bool (decide ((ogr o) ∨ ((1100 : Int) < (t.ni.length : Nat) ∨ (1100 : Int) < (t.no.length : Nat)))))) (bdF g2)) ?_
    refine R_mv t1 ?_
    refine G_yes (Eq.trans (@rfl V (V.bool (decide ((ogr o) ∨ ((1100 : Int) < (t.ni.length : Nat) ∨ (1100 : Int) < (t.no.length : Nat)))))) (bdF g2)) ?_
    refine R_len (@rfl V (V.sl (List.map cI (w)))) ?_
    refine G_yes (Eq.trans (@rfl V (V.bool (decide ((ogr o) ∨ ((1100 : Int) < (t.ni.length : Nat) ∨ (1100 : Int) < (t.no.length : Nat)))))) (bdF g2)) ?_
    refine R_gtr (x := ((w.length : Nat) : Int)) (y := (1100 : Int)) (@rfl V (iV ((w.length : Nat) : Int))) (@rfl V (iV (1100 : Int))) ?_
    refine R_pickF (Eq.trans (@rfl V (V.bool (decide ((ogr o) ∨ ((1100 : Int) < (t.ni.length : Nat) ∨ (1100 : Int) < (t.no.length : Nat)))))) (bdF g2)) (@rfl V (V.bool (decide ((1100 : Int) < ((w.length : Nat) : Int))))) ?_
    exact ⟨t1, t3, t5, (Eq.trans (@rfl V (V.bool (decide ((1100 : Int) < ((w.length : Nat) : Int))))) (dec_orF g2)), h3, h5, h11, h13, trivial⟩
  intro T H ⟨t1, t3, t5, t25, h3, h5, h11, h13, _⟩
  refine R_mv t25 ?_
  refine Ops_seg 4 (fun T H => T 1 = (V.sl (List.map cI (w))) ∧ T 3 = (V.mp 3 1 0 0) ∧ T 5 = (V.mp 5 1 0 0) ∧ T 30 = (V.bool (decide ((((ogr o) ∨ ((1100 : Int) < (t.ni.length : Nat) ∨ (1100 : Int) < (t.no.length : Nat))) ∨ ((1100 : Int) < ((w.length : Nat) : Int))) ∨ ((oval o) ≠ (0 : Int))))) ∧ H 3 = (⟨1, true, false, 34, 2, [[(iV (o.i)), (V.sl (List.map cT (o.tr)))]]⟩ : Blk) ∧ H 5 = (⟨1, true, false, 63, 2, [[(V.sl (List.map cI (t.ni))), (V.sl (List.map cI (t.no)))]]⟩ : Blk) ∧ H 11 = (⟨0, false, false, 0, 0, []⟩ : Blk) ∧ H 13 = (⟨0, false, false, 0, 0, []⟩ : Blk) ∧ True) ?_ ?_
  ·
   by_cases g3 : ((ogr o) ∨ ((1100 : Int) < (t.ni.length : Nat) ∨ (1100 : Int) < (t.no.length : Nat))) ∨ ((1100 : Int) < ((w.length : Nat) : Int))
   ·
    refine G_no (Eq.trans (@rfl V (V.bool (decide (((ogr o) ∨ ((1100 : Int) < (t.ni.length : Nat) ∨ (1100 : Int) < (t.no.length : Nat))) ∨ ((1100 : Int) < ((w.length : Nat) : Int)))))) (bdT g3)) (by decide) ?_
    refine G_no (Eq.trans (@rfl V (V.bool (decide (((ogr o) ∨ ((1100 : Int) < (t.ni.length : Nat) ∨ (1100 : Int) < (t.no.length : Nat))) ∨ ((1100 : Int) < ((w.length : Nat) : Int)))))) (bdT g3)) (by decide) ?_
    refine G_no (Eq.trans (@rfl V (V.bool (decide (((ogr o) ∨ ((1100 : Int) < (t.ni.length : Nat) ∨ (1100 : Int) < (t.no.length : Nat))) ∨ ((1100 : Int) < ((w.length : Nat) : Int)))))) (bdT g3)) (by decide) ?_
    refine R_pickT (Eq.trans (@rfl V (V.bool (decide (((ogr o) ∨ ((1100 : Int) < (t.ni.length : Nat) ∨ (1100 : Int) < (t.no.length : Nat))) ∨ ((1100 : Int) < ((w.length : Nat) : Int)))))) (bdT g3)) (@rfl V (V.bool true)) ?_
    exact ⟨t1, t3, t5, (Eq.trans (@rfl V (V.bool true)) (dec_orT g3)), h3, h5, h11, h13, trivial⟩
   ·
    refine G_yes (Eq.trans (@rfl V (V.bool (decide (((ogr o) ∨ ((1100 : Int) < (t.ni.length : Nat) ∨ (1100 : Int) < (t.no.length : Nat))) ∨ ((1100 : Int) < ((w.length : Nat) : Int)))))) (bdF g3)) ?_
    refine R_load_mp (v := (V.agg [(iV (o.i)), (V.sl (List.map cT (o.tr)))])) t3 h3 (by first | rfl | simp [ldB, ldV, Blk.own, V.one]) ?_
    refine G_yes (Eq.trans (@rfl V (V.bool (decide (((ogr o) ∨ ((1100 : Int) < (t.ni.length : Nat) ∨ (1100 : Int) < (t.no.length : Nat))) ∨ ((1100 : Int) < ((w.length : Nat) : Int)))))) (bdF g3)) ?_
    refine R_call (evcons (@rfl V (V.agg [(iV (o.i)), (V.sl (List.map cT (o.tr)))])) evnil) (oval_pure o) (fzv_mapcanon _ _ (by simp [-List.map_take, -List.map_drop, -List.map_append, -List.map_reverse])) (by simp [-List.map_take, -List.map_drop, -List.map_append, -List.map_reverse]) (Or.inl (by simp [-List.map_take, -List.map_drop, -List.map_append, -List.map_reverse])) ?_
    refine G_yes (Eq.trans (@rfl V (V.bool (decide (((ogr o) ∨ ((1100 : Int) < (t.ni.length : Nat) ∨ (1100 : Int) < (t.no.length : Nat))) ∨ ((1100 : Int) < ((w.length : Nat) : Int)))))) (bdF g3)) ?_
    refine R_neq (x := (oval o)) (y := (0 : Int)) (@rfl V (iV (oval o))) (@rfl V (iV (0 : Int))) ?_
    refine R_pickF (Eq.trans (@rfl V (V.bool (decide (((ogr o) ∨ ((1100 : Int) < (t.ni.length : Nat) ∨ (1100 : Int) < (t.no.length : Nat))) ∨ ((1100 : Int) < ((w.length : Nat) : Int)))))) (bdF g3)) (@rfl V (V.bool (decide ((oval o) ≠ (0 : Int))))) ?_
    exact ⟨t1, t3, t5, (Eq.trans (@rfl V (V.bool (decide ((oval o) ≠ (0 : Int))))) (dec_orF g3)), h3, h5, h11, h13, trivial⟩
  intro T H ⟨t1, t3, t5, t30, h3, h5, h11, h13, _⟩
  exact R_nil ⟨t1, t3, t5, t30, h3, h5, h11, h13, trivial⟩
 intro T H ⟨t1, t3, t5, t30, h3, h5, h11, h13, _⟩
 refine W_seq_if (p := (((ogr o) ∨ ((1100 : Int) < (t.ni.length : Nat) ∨ (1100 : Int) < (t.no.length : Nat))) ∨ ((1100 : Int) < ((w.length : Nat) : Int))) ∨ ((oval o) ≠ (0 : Int))) t30 (fun c4 => ?_) (fun c4 => ?_)
 ·
  refine W_seq_seq ?_
  refine W_seq_regc (fun T H => T 6 = (V.bool true) ∧ H 3 = (⟨1, true, false, 34, 2, [[(iV (o.i)), (V.sl (List.map cT (o.tr)))]]⟩ : Blk) ∧ H 5 = (⟨1, true, false, 63, 2, [[(V.sl (List.map cI (t.ni))), (V.sl (List.map cI (t.no)))]]⟩ : Blk) ∧ H 11 = (⟨0, false, false, 0, 0, []⟩ : Blk) ∧ H 13 = (⟨0, false, false, 0, 0, []⟩ : Blk) ∧ True) ?_ ?_
  ·
   unfold r8_2
   refine R_call evnil (aw_learnerlaw16_awake_pure) (fzv_mapcanon _ _ (by simp [-List.map_take, -List.map_drop, -List.map_append, -List.map_reverse])) (by simp [-List.map_take, -List.map_drop, -List.map_append, -List.map_reverse]) (Or.inl (by simp [-List.map_take, -List.map_drop, -List.map_append, -List.map_reverse])) ?_
   refine R_mv (@rfl V (V.bool true)) ?_
   exact R_nil ⟨rfl, h3, h5, h11, h13, trivial⟩
  intro T H ⟨t6, h3, h5, h11, h13, _⟩
  refine W_seq_ret ?_
  refine Ret_1 t6 (fz_canon (by simp) rfl)
 simp only [not_or, Decidable.not_not] at c4
 have ho : oval o = 0 := by omega
 refine W_seq_skip ?_
 refine W_seq_regc (fun T H => T 1 = (V.sl (List.map cI (w))) ∧ T 3 = (V.mp 3 1 0 0) ∧ T 5 = (V.mp 5 1 0 0) ∧ T 7 = (V.sl (List.map cI ((ans o w).getD []))) ∧ T 8 = (V.bool ((ans o w).isSome)) ∧ H 3 = (⟨1, true, false, 34, 2, [[(iV (o.i)), (V.sl (List.map cT (o.tr)))]]⟩ : Blk) ∧ H 5 = (⟨1, true, false, 63, 2, [[(V.sl (List.map cI (t.ni))), (V.sl (List.map cI (t.no)))]]⟩ : Blk) ∧ H 11 = (⟨0, false, false, 0, 0, []⟩ : Blk) ∧ H 13 = (⟨0, false, false, 0, 0, []⟩ : Blk) ∧ True) ?_ ?_
 ·
  unfold r8_3
  refine R_load_mp (v := (V.agg [(iV (o.i)), (V.sl (List.map cT (o.tr)))])) t3 h3 (by first | rfl | simp [ldB, ldV, Blk.own, V.one]) ?_
  refine R_mv t1 ?_
  refine R_call (evcons (@rfl V (V.agg [(iV (o.i)), (V.sl (List.map cT (o.tr)))])) (evcons (@rfl V (V.sl (List.map cI (w)))) evnil)) (answer_pure o w ho) (fzv_mapcanon _ _ (by simp [-List.map_take, -List.map_drop, -List.map_append, -List.map_reverse])) (by simp [-List.map_take, -List.map_drop, -List.map_append, -List.map_reverse]) (Or.inl (by simp [-List.map_take, -List.map_drop, -List.map_append, -List.map_reverse])) ?_
  refine R_mv (@rfl V (V.tup [(V.sl (List.map cI ((ans o w).getD []))), (V.bool ((ans o w).isSome))])) ?_
  refine R_ext (v := (V.sl (List.map cI ((ans o w).getD [])))) (@rfl V (V.tup [(V.sl (List.map cI ((ans o w).getD []))), (V.bool ((ans o w).isSome))])) rfl ?_
  refine R_ext (v := (V.bool ((ans o w).isSome))) (@rfl V (V.tup [(V.sl (List.map cI ((ans o w).getD []))), (V.bool ((ans o w).isSome))])) rfl ?_
  refine R_mv (@rfl V (V.sl (List.map cI ((ans o w).getD [])))) ?_
  refine R_mv (@rfl V (V.bool ((ans o w).isSome))) ?_
  exact R_nil ⟨t1, t3, t5, rfl, rfl, h3, h5, h11, h13, trivial⟩
 intro T H ⟨t1, t3, t5, t7, t8, h3, h5, h11, h13, _⟩
 refine W_seq_regc (fun T H => T 1 = (V.sl (List.map cI (w))) ∧ T 3 = (V.mp 3 1 0 0) ∧ T 5 = (V.mp 5 1 0 0) ∧ T 7 = (V.sl (List.map cI ((ans o w).getD []))) ∧ T 8 = (V.bool ((ans o w).isSome)) ∧ T 9 = (V.sl (List.map cI ((ans o w).getD []))) ∧ T 10 = (V.bool ((ans o w).isSome)) ∧ H 3 = (⟨1, true, false, 34, 2, [[(iV (o.i)), (V.sl (List.map cT (o.tr)))]]⟩ : Blk) ∧ H 5 = (⟨1, true, false, 63, 2, [[(V.sl (List.map cI (t.ni))), (V.sl (List.map cI (t.no)))]]⟩ : Blk) ∧ H 11 = (⟨0, false, false, 0, 0, []⟩ : Blk) ∧ H 13 = (⟨0, false, false, 0, 0, []⟩ : Blk) ∧ True) ?_ ?_
 ·
  unfold r8_4
  refine R_load_mp (v := (V.agg [(iV (o.i)), (V.sl (List.map cT (o.tr)))])) t3 h3 (by first | rfl | simp [ldB, ldV, Blk.own, V.one]) ?_
  refine R_mv t1 ?_
  refine R_call (evcons (@rfl V (V.agg [(iV (o.i)), (V.sl (List.map cT (o.tr)))])) (evcons (@rfl V (V.sl (List.map cI (w)))) evnil)) (ranswer_pure o w ho) (fzv_mapcanon _ _ (by simp [-List.map_take, -List.map_drop, -List.map_append, -List.map_reverse])) (by simp [-List.map_take, -List.map_drop, -List.map_append, -List.map_reverse]) (Or.inl (by simp [-List.map_take, -List.map_drop, -List.map_append, -List.map_reverse])) ?_
  refine R_mv (@rfl V (V.tup [(V.sl (List.map cI ((ans o w).getD []))), (V.bool ((ans o w).isSome))])) ?_
  refine R_ext (v := (V.sl (List.map cI ((ans o w).getD [])))) (@rfl V (V.tup [(V.sl (List.map cI ((ans o w).getD []))), (V.bool ((ans o w).isSome))])) rfl ?_
  refine R_ext (v := (V.bool ((ans o w).isSome))) (@rfl V (V.tup [(V.sl (List.map cI ((ans o w).getD []))), (V.bool ((ans o w).isSome))])) rfl ?_
  refine R_mv (@rfl V (V.sl (List.map cI ((ans o w).getD [])))) ?_
  refine R_mv (@rfl V (V.bool ((ans o w).isSome))) ?_
  exact R_nil ⟨t1, t3, t5, t7, t8, rfl, rfl, h3, h5, h11, h13, trivial⟩
 intro T H ⟨t1, t3, t5, t7, t8, t9, t10, h3, h5, h11, h13, _⟩
 refine W_seq_regc (fun T H => T 1 = (V.sl (List.map cI (w))) ∧ T 3 = (V.mp 3 1 0 0) ∧ T 5 = (V.mp 5 1 0 0) ∧ T 7 = (V.sl (List.map cI ((ans o w).getD []))) ∧ T 8 = (V.bool ((ans o w).isSome)) ∧ T 9 = (V.sl (List.map cI ((ans o w).getD []))) ∧ T 10 = (V.bool ((ans o w).isSome)) ∧ T 11 = (V.mp 11 1 0 0) ∧ T 12 = (V.bool (decide (clB o t))) ∧ H 3 = (⟨1, true, false, 34, 2, [[(iV (o.i)), (V.sl (List.map cT (o.tr)))]]⟩ : Blk) ∧ H 5 = (⟨1, true, false, 63, 2, [[(V.sl (List.map cI (t.ni))), (V.sl (List.map cI (t.no)))]]⟩ : Blk) ∧ H 11 = (⟨1, true, false, 67, 3, [[(V.sl (List.map cI (clW o t))), (iV (clF o t)), (iV (clS o t))]]⟩ : Blk) ∧ H 13 = (⟨0, false, false, 0, 0, []⟩ : Blk) ∧ True) ?_ ?_
 ·
  unfold r8_5
  refine R_load_mp (v := (V.agg [(iV (o.i)), (V.sl (List.map cT (o.tr)))])) t3 h3 (by first | rfl | simp [ldB, ldV, Blk.own, V.one]) ?_
  refine R_load_mp (v := (V.agg [(V.sl (List.map cI (t.ni))), (V.sl (List.map cI (t.no)))])) t5 h5 (by first | rfl | simp [ldB, ldV, Blk.own, V.one]) ?_
  refine R_call (evcons (@rfl V (V.agg [(iV (o.i)), (V.sl (List.map cT (o.tr)))])) (evcons (@rfl V (V.agg [(V.sl (List.map cI (t.ni))), (V.sl (List.map cI (t.no)))])) evnil)) (clash_pure o t ho) (fzv_mapcanon _ _ (by simp [-List.map_take, -List.map_drop, -List.map_append, -List.map_reverse])) (by simp [-List.map_take, -List.map_drop, -List.map_append, -List.map_reverse]) (Or.inl (by simp [-List.map_take, -List.map_drop, -List.map_append, -List.map_reverse])) ?_
  refine R_mv (@rfl V (V.tup [(V.agg [(V.sl (List.map cI (clW o t))), (iV (clF o t)), (iV (clS o t))]), (V.bool (decide (clB o t)))])) ?_
  refine R_ext (v := (V.agg [(V.sl (List.map cI (clW o t))), (iV (clF o t)), (iV (clS o t))])) (@rfl V (V.tup [(V.agg [(V.sl (List.map cI (clW o t))), (iV (clF o t)), (iV (clS o t))]), (V.bool (decide (clB o t)))])) rfl ?_
  refine R_ext (v := (V.bool (decide (clB o t)))) (@rfl V (V.tup [(V.agg [(V.sl (List.map cI (clW o t))), (iV (clF o t)), (iV (clS o t))]), (V.bool (decide (clB o t)))])) rfl ?_
  refine R_alloc (i := 11) (n := 0) (m := 3) rfl (congrArg Blk.ver h11) rfl ?_
  refine R_store (vs := [(V.sl (List.map cI (clW o t))), (iV (clF o t)), (iV (clS o t))]) (B' := (⟨1, true, false, 67, 3, [[(V.sl (List.map cI (clW o t))), (iV (clF o t)), (iV (clS o t))]]⟩ : Blk)) (@rfl V (V.mp 11 1 0 0)) (@rfl V (V.agg [(V.sl (List.map cI (clW o t))), (iV (clF o t)), (iV (clS o t))])) rfl (@rfl Blk (⟨1, true, false, 67, 3, [[V.nilsl, (iV (0 : Int)), (iV (0 : Int))]]⟩ : Blk)) (by first | rfl | simp [stB, okB, Blk.own, putAt, V.one]) ?_
  refine R_mv (@rfl V (V.bool (decide (clB o t)))) ?_
  exact R_nil ⟨t1, t3, t5, t7, t8, t9, t10, rfl, rfl, h3, h5, rfl, h13, trivial⟩
 intro T H ⟨t1, t3, t5, t7, t8, t9, t10, t11, t12, h3, h5, h11, h13, _⟩
 refine W_seq_regc (fun T H => T 1 = (V.sl (List.map cI (w))) ∧ T 3 = (V.mp 3 1 0 0) ∧ T 7 = (V.sl (List.map cI ((ans o w).getD []))) ∧ T 8 = (V.bool ((ans o w).isSome)) ∧ T 9 = (V.sl (List.map cI ((ans o w).getD []))) ∧ T 10 = (V.bool ((ans o w).isSome)) ∧ T 11 = (V.mp 11 1 0 0) ∧ T 12 = (V.bool (decide (clB o t))) ∧ T 13 = (V.mp 13 1 0 0) ∧ T 14 = (V.bool (decide (clB o t))) ∧ H 3 = (⟨1, true, false, 34, 2, [[(iV (o.i)), (V.sl (List.map cT (o.tr)))]]⟩ : Blk) ∧ H 5 = (⟨1, true, false, 63, 2, [[(V.sl (List.map cI (t.ni))), (V.sl (List.map cI (t.no)))]]⟩ : Blk) ∧ H 11 = (⟨1, true, false, 67, 3, [[(V.sl (List.map cI (clW o t))), (iV (clF o t)), (iV (clS o t))]]⟩ : Blk) ∧ H 13 = (⟨1, true, false, 67, 3, [[(V.sl (List.map cI (clW o t))), (iV (clF o t)), (iV (clS o t))]]⟩ : Blk) ∧ True) ?_ ?_
 ·
  unfold r8_6
  refine R_load_mp (v := (V.agg [(iV (o.i)), (V.sl (List.map cT (o.tr)))])) t3 h3 (by first | rfl | simp [ldB, ldV, Blk.own, V.one]) ?_
  refine R_load_mp (v := (V.agg [(V.sl (List.map cI (t.ni))), (V.sl (List.map cI (t.no)))])) t5 h5 (by first | rfl | simp [ldB, ldV, Blk.own, V.one]) ?_
  refine R_call (evcons (@rfl V (V.agg [(iV (o.i)), (V.sl (List.map cT (o.tr)))])) (evcons (@rfl V (V.agg [(V.sl (List.map cI (t.ni))), (V.sl (List.map cI (t.no)))])) evnil)) (rclash_pure o t ho) (fzv_mapcanon _ _ (by simp [-List.map_take, -List.map_drop, -List.map_append, -List.map_reverse])) (by simp [-List.map_take, -List.map_drop, -List.map_append, -List.map_reverse]) (Or.inl (by simp [-List.map_take, -List.map_drop, -List.map_append, -List.map_reverse])) ?_
  refine R_mv (@rfl V (V.tup [(V.agg [(V.sl (List.map cI (clW o t))), (iV (clF o t)), (iV (clS o t))]), (V.bool (decide (clB o t)))])) ?_
  refine R_ext (v := (V.agg [(V.sl (List.map cI (clW o t))), (iV (clF o t)), (iV (clS o t))])) (@rfl V (V.tup [(V.agg [(V.sl (List.map cI (clW o t))), (iV (clF o t)), (iV (clS o t))]), (V.bool (decide (clB o t)))])) rfl ?_
  refine R_ext (v := (V.bool (decide (clB o t)))) (@rfl V (V.tup [(V.agg [(V.sl (List.map cI (clW o t))), (iV (clF o t)), (iV (clS o t))]), (V.bool (decide (clB o t)))])) rfl ?_
  refine R_alloc (i := 13) (n := 0) (m := 3) rfl (congrArg Blk.ver h13) rfl ?_
  refine R_store (vs := [(V.sl (List.map cI (clW o t))), (iV (clF o t)), (iV (clS o t))]) (B' := (⟨1, true, false, 67, 3, [[(V.sl (List.map cI (clW o t))), (iV (clF o t)), (iV (clS o t))]]⟩ : Blk)) (@rfl V (V.mp 13 1 0 0)) (@rfl V (V.agg [(V.sl (List.map cI (clW o t))), (iV (clF o t)), (iV (clS o t))])) rfl (@rfl Blk (⟨1, true, false, 67, 3, [[V.nilsl, (iV (0 : Int)), (iV (0 : Int))]]⟩ : Blk)) (by first | rfl | simp [stB, okB, Blk.own, putAt, V.one]) ?_
  refine R_mv (@rfl V (V.bool (decide (clB o t)))) ?_
  exact R_nil ⟨t1, t3, t7, t8, t9, t10, t11, t12, rfl, rfl, h3, h5, h11, rfl, trivial⟩
 intro T H ⟨t1, t3, t7, t8, t9, t10, t11, t12, t13, t14, h3, h5, h11, h13, _⟩
 refine W_seq_seq ?_
 refine W_seq_regc (fun T H => T 1 = (V.sl (List.map cI (w))) ∧ T 3 = (V.mp 3 1 0 0) ∧ T 91 = (V.bool ((((((((((decide (¬(((ans o w).getD []) = ((ans o w).getD []))) || ((((ans o w).isSome) != ((ans o w).isSome))))) || ((decide (clB o t) != decide (clB o t))))) || decide ((clF o t) ≠ (clF o t)))) || decide ((clS o t) ≠ (clS o t)))) || decide (¬((clW o t) = (clW o t)))))) ∧ H 3 = (⟨1, true, false, 34, 2, [[(iV (o.i)), (V.sl (List.map cT (o.tr)))]]⟩ : Blk) ∧ H 5 = (⟨1, true, false, 63, 2, [[(V.sl (List.map cI (t.ni))), (V.sl (List.map cI (t.no)))]]⟩ : Blk) ∧ H 11 = (⟨1, true, false, 67, 3, [[(V.sl (List.map cI (clW o t))), (iV (clF o t)), (iV (clS o t))]]⟩ : Blk) ∧ H 13 = (⟨1, true, false, 67, 3, [[(V.sl (List.map cI (clW o t))), (iV (clF o t)), (iV (clS o t))]]⟩ : Blk) ∧ True) ?_ ?_
 ·
  unfold r8_7
  refine R_mv t7 ?_
  refine R_mv t9 ?_
  refine R_call (evcons (@rfl V (V.sl (List.map cI ((ans o w).getD [])))) (evcons (@rfl V (V.sl (List.map cI ((ans o w).getD [])))) evnil)) (ints_pure ((ans o w).getD []) ((ans o w).getD [])) (fzv_mapcanon _ _ (by simp [-List.map_take, -List.map_drop, -List.map_append, -List.map_reverse])) (by simp [-List.map_take, -List.map_drop, -List.map_append, -List.map_reverse]) (Or.inl (by simp [-List.map_take, -List.map_drop, -List.map_append, -List.map_reverse])) ?_
  refine R_not (p := ((ans o w).getD []) = ((ans o w).getD [])) (@rfl V (V.bool (decide (((ans o w).getD []) = ((ans o w).getD []))))) ?_
  refine R_mv (@rfl V (V.bool (decide (¬(((ans o w).getD []) = ((ans o w).getD [])))))) ?_
  refine Ops_seg 4 (fun T H => T 1 = (V.sl (List.map cI (w))) ∧ T 3 = (V.mp 3 1 0 0) ∧ T 11 = (V.mp 11 1 0 0) ∧ T 12 = (V.bool (decide (clB o t))) ∧ T 13 = (V.mp 13 1 0 0) ∧ T 14 = (V.bool (decide (clB o t))) ∧ T 64 = (V.bool ((decide (¬(((ans o w).getD []) = ((ans o w).getD []))) || ((((ans o w).isSome) != ((ans o w).isSome)))))) ∧ H 3 = (⟨1, true, false, 34, 2, [[(iV (o.i)), (V.sl (List.map cT (o.tr)))]]⟩ : Blk) ∧ H 5 = (⟨1, true, false, 63, 2, [[(V.sl (List.map cI (t.ni))), (V.sl (List.map cI (t.no)))]]⟩ : Blk) ∧ H 11 = (⟨1, true, false, 67, 3, [[(V.sl (List.map cI (clW o t))), (iV (clF o t)), (iV (clS o t))]]⟩ : Blk) ∧ H 13 = (⟨1, true, false, 67, 3, [[(V.sl (List.map cI (clW o t))), (iV (clF o t)), (iV (clS o t))]]⟩ : Blk) ∧ True) ?_ ?_
  ·
   by_cases g5 : ¬(((ans o w).getD []) = ((ans o w).getD []))
   ·
    refine G_no (Eq.trans (@rfl V (V.bool (decide (¬(((ans o w).getD []) = ((ans o w).getD [])))))) (bdT g5)) (by decide) ?_
    refine G_no (Eq.trans (@rfl V (V.bool (decide (¬(((ans o w).getD []) = ((ans o w).getD [])))))) (bdT g5)) (by decide) ?_
    refine G_no (Eq.trans (@rfl V (V.bool (decide (¬(((ans o w).getD []) = ((ans o w).getD [])))))) (bdT g5)) (by decide) ?_
    refine R_pickT (Eq.trans (@rfl V (V.bool (decide (¬(((ans o w).getD []) = ((ans o w).getD [])))))) (bdT g5)) (@rfl V (V.bool true)) ?_
    exact ⟨t1, t3, t11, t12, t13, t14, (Eq.trans (@rfl V (V.bool true)) (dborT g5)), h3, h5, h11, h13, trivial⟩
   ·
    refine G_yes (Eq.trans (@rfl V (V.bool (decide (¬(((ans o w).getD []) = ((ans o w).getD [])))))) (bdF g5)) ?_
    refine R_mv t8 ?_
    refine G_yes (Eq.trans (@rfl V (V.bool (decide (¬(((ans o w).getD []) = ((ans o w).getD [])))))) (bdF g5)) ?_
    refine R_mv t10 ?_
    refine G_yes (Eq.trans (@rfl V (V.bool (decide (¬(((ans o w).getD []) = ((ans o w).getD [])))))) (bdF g5)) ?_
    refine R_bneq (x := ((ans o w).isSome)) (y := ((ans o w).isSome)) (@rfl V (V.bool ((ans o w).isSome))) (@rfl V (V.bool ((ans o w).isSome))) ?_
    refine R_pickF (Eq.trans (@rfl V (V.bool (decide (¬(((ans o w).getD []) = ((ans o w).getD [])))))) (bdF g5)) (@rfl V (V.bool ((((ans o w).isSome) != ((ans o w).isSome))))) ?_
    exact ⟨t1, t3, t11, t12, t13, t14, (Eq.trans (@rfl V (V.bool ((((ans o w).isSome) != ((ans o w).isSome))))) (dborF g5)), h3, h5, h11, h13, trivial⟩
  intro T H ⟨t1, t3, t11, t12, t13, t14, t64, h3, h5, h11, h13, _⟩
  refine R_mv t64 ?_
  refine Ops_seg 4 (fun T H => T 1 = (V.sl (List.map cI (w))) ∧ T 3 = (V.mp 3 1 0 0) ∧ T 11 = (V.mp 11 1 0 0) ∧ T 13 = (V.mp 13 1 0 0) ∧ T 69 = (V.bool ((((decide (¬(((ans o w).getD []) = ((ans o w).getD []))) || ((((ans o w).isSome) != ((ans o w).isSome))))) || ((decide (clB o t) != decide (clB o t)))))) ∧ H 3 = (⟨1, true, false, 34, 2, [[(iV (o.i)), (V.sl (List.map cT (o.tr)))]]⟩ : Blk) ∧ H 5 = (⟨1, true, false, 63, 2, [[(V.sl (List.map cI (t.ni))), (V.sl (List.map cI (t.no)))]]⟩ : Blk) ∧ H 11 = (⟨1, true, false, 67, 3, [[(V.sl (List.map cI (clW o t))), (iV (clF o t)), (iV (clS o t))]]⟩ : Blk) ∧ H 13 = (⟨1, true, false, 67, 3, [[(V.sl (List.map cI (clW o t))), (iV (clF o t)), (iV (clS o t))]]⟩ : Blk) ∧ True) ?_ ?_
  ·
   by_cases g6 : ((decide (¬(((ans o w).getD []) = ((ans o w).getD []))) || ((((ans o w).isSome) != ((ans o w).isSome))))) = true
   ·
    refine G_no (Eq.trans (@rfl V (V.bool ((decide (¬(((ans o w).getD []) = ((ans o w).getD []))) || ((((ans o w).isSome) != ((ans o w).isSome))))))) (bbT g6)) (by decide) ?_
    refine G_no (Eq.trans (@rfl V (V.bool ((decide (¬(((ans o w).getD []) = ((ans o w).getD []))) || ((((ans o w).isSome) != ((ans o w).isSome))))))) (bbT g6)) (by decide) ?_
    refine G_no (Eq.trans (@rfl V (V.bool ((decide (¬(((ans o w).getD []) = ((ans o w).getD []))) || ((((ans o w).isSome) != ((ans o w).isSome))))))) (bbT g6)) (by decide) ?_
    refine R_pickT (Eq.trans (@rfl V (V.bool ((decide (¬(((ans o w).getD []) = ((ans o w).getD []))) || ((((ans o w).isSome) != ((ans o w).isSome))))))) (bbT g6)) (@rfl V (V.bool true)) ?_
    exact ⟨t1, t3, t11, t13, (Eq.trans (@rfl V (V.bool true)) (borT g6)), h3, h5, h11, h13, trivial⟩
   ·
    refine G_yes (Eq.trans (@rfl V (V.bool ((decide (¬(((ans o w).getD []) = ((ans o w).getD []))) || ((((ans o w).isSome) != ((ans o w).isSome))))))) (bbF g6)) ?_
    refine R_mv t12 ?_
    refine G_yes (Eq.trans (@rfl V (V.bool ((decide (¬(((ans o w).getD []) = ((ans o w).getD []))) || ((((ans o w).isSome) != ((ans o w).isSome))))))) (bbF g6)) ?_
    refine R_mv t14 ?_
    refine G_yes (Eq.trans (@rfl V (V.bool ((decide (¬(((ans o w).getD []) = ((ans o w).getD []))) || ((((ans o w).isSome) != ((ans o w).isSome))))))) (bbF g6)) ?_
    refine R_bneq (x := decide (clB o t)) (y := decide (clB o t)) (@rfl V (V.bool (decide (clB o t)))) (@rfl V (V.bool (decide (clB o t)))) ?_
    refine R_pickF (Eq.trans (@rfl V (V.bool ((decide (¬(((ans o w).getD []) = ((ans o w).getD []))) || ((((ans o w).isSome) != ((ans o w).isSome))))))) (bbF g6)) (@rfl V (V.bool ((decide (clB o t) != decide (clB o t))))) ?_
    exact ⟨t1, t3, t11, t13, (Eq.trans (@rfl V (V.bool ((decide (clB o t) != decide (clB o t))))) (borF g6)), h3, h5, h11, h13, trivial⟩
  intro T H ⟨t1, t3, t11, t13, t69, h3, h5, h11, h13, _⟩
  refine R_mv t69 ?_
  refine Ops_seg 6 (fun T H => T 1 = (V.sl (List.map cI (w))) ∧ T 3 = (V.mp 3 1 0 0) ∧ T 11 = (V.mp 11 1 0 0) ∧ T 13 = (V.mp 13 1 0 0) ∧ T 76 = (V.bool ((((((decide (¬(((ans o w).getD []) = ((ans o w).getD []))) || ((((ans o w).isSome) != ((ans o w).isSome))))) || ((decide (clB o t) != decide (clB o t))))) || decide ((clF o t) ≠ (clF o t))))) ∧ H 3 = (⟨1, true, false, 34, 2, [[(iV (o.i)), (V.sl (List.map cT (o.tr)))]]⟩ : Blk) ∧ H 5 = (⟨1, true, false, 63, 2, [[(V.sl (List.map cI (t.ni))), (V.sl (List.map cI (t.no)))]]⟩ : Blk) ∧ H 11 = (⟨1, true, false, 67, 3, [[(V.sl (List.map cI (clW o t))), (iV (clF o t)), (iV (clS o t))]]⟩ : Blk) ∧ H 13 = (⟨1, true, false, 67, 3, [[(V.sl (List.map cI (clW o t))), (iV (clF o t)), (iV (clS o t))]]⟩ : Blk) ∧ True) ?_ ?_
  ·
   by_cases g7 : ((((decide (¬(((ans o w).getD []) = ((ans o w).getD []))) || ((((ans o w).isSome) != ((ans o w).isSome))))) || ((decide (clB o t) != decide (clB o t))))) = true
   ·
    refine G_no (Eq.trans (@rfl V (V.bool ((((decide (¬(((ans o w).getD []) = ((ans o w).getD []))) || ((((ans o w).isSome) != ((ans o w).isSome))))) || ((decide (clB o t) != decide (clB o t))))))) (bbT g7)) (by decide) ?_
    refine G_no (Eq.trans (@rfl V (V.bool ((((decide (¬(((ans o w).getD []) = ((ans o w).getD []))) || ((((ans o w).isSome) != ((ans o w).isSome))))) || ((decide (clB o t) != decide (clB o t))))))) (bbT g7)) (by decide) ?_
    refine G_no (Eq.trans (@rfl V (V.bool ((((decide (¬(((ans o w).getD []) = ((ans o w).getD []))) || ((((ans o w).isSome) != ((ans o w).isSome))))) || ((decide (clB o t) != decide (clB o t))))))) (bbT g7)) (by decide) ?_
    refine G_no (Eq.trans (@rfl V (V.bool ((((decide (¬(((ans o w).getD []) = ((ans o w).getD []))) || ((((ans o w).isSome) != ((ans o w).isSome))))) || ((decide (clB o t) != decide (clB o t))))))) (bbT g7)) (by decide) ?_
    refine G_no (Eq.trans (@rfl V (V.bool ((((decide (¬(((ans o w).getD []) = ((ans o w).getD []))) || ((((ans o w).isSome) != ((ans o w).isSome))))) || ((decide (clB o t) != decide (clB o t))))))) (bbT g7)) (by decide) ?_
    refine R_pickT (Eq.trans (@rfl V (V.bool ((((decide (¬(((ans o w).getD []) = ((ans o w).getD []))) || ((((ans o w).isSome) != ((ans o w).isSome))))) || ((decide (clB o t) != decide (clB o t))))))) (bbT g7)) (@rfl V (V.bool true)) ?_
    exact ⟨t1, t3, t11, t13, (Eq.trans (@rfl V (V.bool true)) (borT g7)), h3, h5, h11, h13, trivial⟩
   ·
    refine G_yes (Eq.trans (@rfl V (V.bool ((((decide (¬(((ans o w).getD []) = ((ans o w).getD []))) || ((((ans o w).isSome) != ((ans o w).isSome))))) || ((decide (clB o t) != decide (clB o t))))))) (bbF g7)) ?_
    refine R_fld_mp (o' := 1) t11 h11 (by first | rfl | simp [okB, Blk.own]) rfl ?_
    refine G_yes (Eq.trans (@rfl V (V.bool ((((decide (¬(((ans o w).getD []) = ((ans o w).getD []))) || ((((ans o w).isSome) != ((ans o w).isSome))))) || ((decide (clB o t) != decide (clB o t))))))) (bbF g7)) ?_
    refine R_load_mp (v := (iV (clF o t))) (@rfl V (V.mp 11 1 0 1)) h11 (by first | rfl | simp [ldB, ldV, Blk.own, V.one]) ?_
    refine G_yes (Eq.trans (@rfl V (V.bool ((((decide (¬(((ans o w).getD []) = ((ans o w).getD []))) || ((((ans o w).isSome) != ((ans o w).isSome))))) || ((decide (clB o t) != decide (clB o t))))))) (bbF g7)) ?_
    refine R_fld_mp (o' := 1) t13 h13 (by first | rfl | simp [okB, Blk.own]) rfl ?_
    refine G_yes (Eq.trans (@rfl V (V.bool ((((decide (¬(((ans o w).getD []) = ((ans o w).getD []))) || ((((ans o w).isSome) != ((ans o w).isSome))))) || ((decide (clB o t) != decide (clB o t))))))) (bbF g7)) ?_
    refine R_load_mp (v := (iV (clF o t))) (@rfl V (V.mp 13 1 0 1)) h13 (by first | rfl | simp [ldB, ldV, Blk.own, V.one]) ?_
    refine G_yes (Eq.trans (@rfl V (V.bool ((((decide (¬(((ans o w).getD []) = ((ans o w).getD []))) || ((((ans o w).isSome) != ((ans o w).isSome))))) || ((decide (clB o t) != decide (clB o t))))))) (bbF g7)) ?_
    refine R_neq (x := (clF o t)) (y := (clF o t)) (@rfl V (iV (clF o t))) (@rfl V (iV (clF o t))) ?_
    refine R_pickF (Eq.trans (@rfl V (V.bool ((((decide (¬(((ans o w).getD []) = ((ans o w).getD []))) || ((((ans o w).isSome) != ((ans o w).isSome))))) || ((decide (clB o t) != decide (clB o t))))))) (bbF g7)) (@rfl V (V.bool (decide ((clF o t) ≠ (clF o t))))) ?_
    exact ⟨t1, t3, t11, t13, (Eq.trans (@rfl V (V.bool (decide ((clF o t) ≠ (clF o t))))) (borF g7)), h3, h5, h11, h13, trivial⟩
  intro T H ⟨t1, t3, t11, t13, t76, h3, h5, h11, h13, _⟩
  refine R_mv t76 ?_
  refine Ops_seg 6 (fun T H => T 1 = (V.sl (List.map cI (w))) ∧ T 3 = (V.mp 3 1 0 0) ∧ T 11 = (V.mp 11 1 0 0) ∧ T 13 = (V.mp 13 1 0 0) ∧ T 83 = (V.bool ((((((((decide (¬(((ans o w).getD []) = ((ans o w).getD []))) || ((((ans o w).isSome) != ((ans o w).isSome))))) || ((decide (clB o t) != decide (clB o t))))) || decide ((clF o t) ≠ (clF o t)))) || decide ((clS o t) ≠ (clS o t))))) ∧ H 3 = (⟨1, true, false, 34, 2, [[(iV (o.i)), (V.sl (List.map cT (o.tr)))]]⟩ : Blk) ∧ H 5 = (⟨1, true, false, 63, 2, [[(V.sl (List.map cI (t.ni))), (V.sl (List.map cI (t.no)))]]⟩ : Blk) ∧ H 11 = (⟨1, true, false, 67, 3, [[(V.sl (List.map cI (clW o t))), (iV (clF o t)), (iV (clS o t))]]⟩ : Blk) ∧ H 13 = (⟨1, true, false, 67, 3, [[(V.sl (List.map cI (clW o t))), (iV (clF o t)), (iV (clS o t))]]⟩ : Blk) ∧ True) ?_ ?_
  ·
   by_cases g8 : ((((((decide (¬(((ans o w).getD []) = ((ans o w).getD []))) || ((((ans o w).isSome) != ((ans o w).isSome))))) || ((decide (clB o t) != decide (clB o t))))) || decide ((clF o t) ≠ (clF o t)))) = true
   ·
    refine G_no (Eq.trans (@rfl V (V.bool ((((((decide (¬(((ans o w).getD []) = ((ans o w).getD []))) || ((((ans o w).isSome) != ((ans o w).isSome))))) || ((decide (clB o t) != decide (clB o t))))) || decide ((clF o t) ≠ (clF o t)))))) (bbT g8)) (by decide) ?_
    refine G_no (Eq.trans (@rfl V (V.bool ((((((decide (¬(((ans o w).getD []) = ((ans o w).getD []))) || ((((ans o w).isSome) != ((ans o w).isSome))))) || ((decide (clB o t) != decide (clB o t))))) || decide ((clF o t) ≠ (clF o t)))))) (bbT g8)) (by decide) ?_
    refine G_no (Eq.trans (@rfl V (V.bool ((((((decide (¬(((ans o w).getD []) = ((ans o w).getD []))) || ((((ans o w).isSome) != ((ans o w).isSome))))) || ((decide (clB o t) != decide (clB o t))))) || decide ((clF o t) ≠ (clF o t)))))) (bbT g8)) (by decide) ?_
    refine G_no (Eq.trans (@rfl V (V.bool ((((((decide (¬(((ans o w).getD []) = ((ans o w).getD []))) || ((((ans o w).isSome) != ((ans o w).isSome))))) || ((decide (clB o t) != decide (clB o t))))) || decide ((clF o t) ≠ (clF o t)))))) (bbT g8)) (by decide) ?_
    refine G_no (Eq.trans (@rfl V (V.bool ((((((decide (¬(((ans o w).getD []) = ((ans o w).getD []))) || ((((ans o w).isSome) != ((ans o w).isSome))))) || ((decide (clB o t) != decide (clB o t))))) || decide ((clF o t) ≠ (clF o t)))))) (bbT g8)) (by decide) ?_
    refine R_pickT (Eq.trans (@rfl V (V.bool ((((((decide (¬(((ans o w).getD []) = ((ans o w).getD []))) || ((((ans o w).isSome) != ((ans o w).isSome))))) || ((decide (clB o t) != decide (clB o t))))) || decide ((clF o t) ≠ (clF o t)))))) (bbT g8)) (@rfl V (V.bool true)) ?_
    exact ⟨t1, t3, t11, t13, (Eq.trans (@rfl V (V.bool true)) (borT g8)), h3, h5, h11, h13, trivial⟩
   ·
    refine G_yes (Eq.trans (@rfl V (V.bool ((((((decide (¬(((ans o w).getD []) = ((ans o w).getD []))) || ((((ans o w).isSome) != ((ans o w).isSome))))) || ((decide (clB o t) != decide (clB o t))))) || decide ((clF o t) ≠ (clF o t)))))) (bbF g8)) ?_
    refine R_fld_mp (o' := 2) t11 h11 (by first | rfl | simp [okB, Blk.own]) rfl ?_
    refine G_yes (Eq.trans (@rfl V (V.bool ((((((decide (¬(((ans o w).getD []) = ((ans o w).getD []))) || ((((ans o w).isSome) != ((ans o w).isSome))))) || ((decide (clB o t) != decide (clB o t))))) || decide ((clF o t) ≠ (clF o t)))))) (bbF g8)) ?_
    refine R_load_mp (v := (iV (clS o t))) (@rfl V (V.mp 11 1 0 2)) h11 (by first | rfl | simp [ldB, ldV, Blk.own, V.one]) ?_
    refine G_yes (Eq.trans (@rfl V (V.bool ((((((decide (¬(((ans o w).getD []) = ((ans o w).getD []))) || ((((ans o w).isSome) != ((ans o w).isSome))))) || ((decide (clB o t) != decide (clB o t))))) || decide ((clF o t) ≠ (clF o t)))))) (bbF g8)) ?_
    refine R_fld_mp (o' := 2) t13 h13 (by first | rfl | simp [okB, Blk.own]) rfl ?_
    refine G_yes (Eq.trans (@rfl V (V.bool ((((((decide (¬(((ans o w).getD []) = ((ans o w).getD []))) || ((((ans o w).isSome) != ((ans o w).isSome))))) || ((decide (clB o t) != decide (clB o t))))) || decide ((clF o t) ≠ (clF o t)))))) (bbF g8)) ?_
    refine R_load_mp (v := (iV (clS o t))) (@rfl V (V.mp 13 1 0 2)) h13 (by first | rfl | simp [ldB, ldV, Blk.own, V.one]) ?_
    refine G_yes (Eq.trans (@rfl V (V.bool ((((((decide (¬(((ans o w).getD []) = ((ans o w).getD []))) || ((((ans o w).isSome) != ((ans o w).isSome))))) || ((decide (clB o t) != decide (clB o t))))) || decide ((clF o t) ≠ (clF o t)))))) (bbF g8)) ?_
    refine R_neq (x := (clS o t)) (y := (clS o t)) (@rfl V (iV (clS o t))) (@rfl V (iV (clS o t))) ?_
    refine R_pickF (Eq.trans (@rfl V (V.bool ((((((decide (¬(((ans o w).getD []) = ((ans o w).getD []))) || ((((ans o w).isSome) != ((ans o w).isSome))))) || ((decide (clB o t) != decide (clB o t))))) || decide ((clF o t) ≠ (clF o t)))))) (bbF g8)) (@rfl V (V.bool (decide ((clS o t) ≠ (clS o t))))) ?_
    exact ⟨t1, t3, t11, t13, (Eq.trans (@rfl V (V.bool (decide ((clS o t) ≠ (clS o t))))) (borF g8)), h3, h5, h11, h13, trivial⟩
  intro T H ⟨t1, t3, t11, t13, t83, h3, h5, h11, h13, _⟩
  refine R_mv t83 ?_
  refine Ops_seg 7 (fun T H => T 1 = (V.sl (List.map cI (w))) ∧ T 3 = (V.mp 3 1 0 0) ∧ T 91 = (V.bool ((((((((((decide (¬(((ans o w).getD []) = ((ans o w).getD []))) || ((((ans o w).isSome) != ((ans o w).isSome))))) || ((decide (clB o t) != decide (clB o t))))) || decide ((clF o t) ≠ (clF o t)))) || decide ((clS o t) ≠ (clS o t)))) || decide (¬((clW o t) = (clW o t)))))) ∧ H 3 = (⟨1, true, false, 34, 2, [[(iV (o.i)), (V.sl (List.map cT (o.tr)))]]⟩ : Blk) ∧ H 5 = (⟨1, true, false, 63, 2, [[(V.sl (List.map cI (t.ni))), (V.sl (List.map cI (t.no)))]]⟩ : Blk) ∧ H 11 = (⟨1, true, false, 67, 3, [[(V.sl (List.map cI (clW o t))), (iV (clF o t)), (iV (clS o t))]]⟩ : Blk) ∧ H 13 = (⟨1, true, false, 67, 3, [[(V.sl (List.map cI (clW o t))), (iV (clF o t)), (iV (clS o t))]]⟩ : Blk) ∧ True) ?_ ?_
  ·
   by_cases g9 : ((((((((decide (¬(((ans o w).getD []) = ((ans o w).getD []))) || ((((ans o w).isSome) != ((ans o w).isSome))))) || ((decide (clB o t) != decide (clB o t))))) || decide ((clF o t) ≠ (clF o t)))) || decide ((clS o t) ≠ (clS o t)))) = true
   ·
    refine G_no (Eq.trans (@rfl V (V.bool ((((((((decide (¬(((ans o w).getD []) = ((ans o w).getD []))) || ((((ans o w).isSome) != ((ans o w).isSome))))) || ((decide (clB o t) != decide (clB o t))))) || decide ((clF o t) ≠ (clF o t)))) || decide ((clS o t) ≠ (clS o t)))))) (bbT g9)) (by decide) ?_
    refine G_no (Eq.trans (@rfl V (V.bool ((((((((decide (¬(((ans o w).getD []) = ((ans o w).getD []))) || ((((ans o w).isSome) != ((ans o w).isSome))))) || ((decide (clB o t) != decide (clB o t))))) || decide ((clF o t) ≠ (clF o t)))) || decide ((clS o t) ≠ (clS o t)))))) (bbT g9)) (by decide) ?_
    refine G_no (Eq.trans (@rfl V (V.bool ((((((((decide (¬(((ans o w).getD []) = ((ans o w).getD []))) || ((((ans o w).isSome) != ((ans o w).isSome))))) || ((decide (clB o t) != decide (clB o t))))) || decide ((clF o t) ≠ (clF o t)))) || decide ((clS o t) ≠ (clS o t)))))) (bbT g9)) (by decide) ?_
    refine G_no (Eq.trans (@rfl V (V.bool ((((((((decide (¬(((ans o w).getD []) = ((ans o w).getD []))) || ((((ans o w).isSome) != ((ans o w).isSome))))) || ((decide (clB o t) != decide (clB o t))))) || decide ((clF o t) ≠ (clF o t)))) || decide ((clS o t) ≠ (clS o t)))))) (bbT g9)) (by decide) ?_
    refine G_no (Eq.trans (@rfl V (V.bool ((((((((decide (¬(((ans o w).getD []) = ((ans o w).getD []))) || ((((ans o w).isSome) != ((ans o w).isSome))))) || ((decide (clB o t) != decide (clB o t))))) || decide ((clF o t) ≠ (clF o t)))) || decide ((clS o t) ≠ (clS o t)))))) (bbT g9)) (by decide) ?_
    refine G_no (Eq.trans (@rfl V (V.bool ((((((((decide (¬(((ans o w).getD []) = ((ans o w).getD []))) || ((((ans o w).isSome) != ((ans o w).isSome))))) || ((decide (clB o t) != decide (clB o t))))) || decide ((clF o t) ≠ (clF o t)))) || decide ((clS o t) ≠ (clS o t)))))) (bbT g9)) (by decide) ?_
    refine R_pickT (Eq.trans (@rfl V (V.bool ((((((((decide (¬(((ans o w).getD []) = ((ans o w).getD []))) || ((((ans o w).isSome) != ((ans o w).isSome))))) || ((decide (clB o t) != decide (clB o t))))) || decide ((clF o t) ≠ (clF o t)))) || decide ((clS o t) ≠ (clS o t)))))) (bbT g9)) (@rfl V (V.bool true)) ?_
    exact ⟨t1, t3, (Eq.trans (@rfl V (V.bool true)) (borT g9)), h3, h5, h11, h13, trivial⟩
   ·
    refine G_yes (Eq.trans (@rfl V (V.bool ((((((((decide (¬(((ans o w).getD []) = ((ans o w).getD []))) || ((((ans o w).isSome) != ((ans o w).isSome))))) || ((decide (clB o t) != decide (clB o t))))) || decide ((clF o t) ≠ (clF o t)))) || decide ((clS o t) ≠ (clS o t)))))) (bbF g9)) ?_
    refine R_fld_mp (o' := 0) t11 h11 (by first | rfl | simp [okB, Blk.own]) rfl ?_
    refine G_yes (Eq.trans (@rfl V (V.bool ((((((((decide (¬(((ans o w).getD []) = ((ans o w).getD []))) || ((((ans o w).isSome) != ((ans o w).isSome))))) || ((decide (clB o t) != decide (clB o t))))) || decide ((clF o t) ≠ (clF o t)))) || decide ((clS o t) ≠ (clS o t)))))) (bbF g9)) ?_
    refine R_load_mp (v := (V.sl (List.map cI (clW o t)))) (@rfl V (V.mp 11 1 0 0)) h11 (by first | rfl | simp [ldB, ldV, Blk.own, V.one]) ?_
    refine G_yes (Eq.trans (@rfl V (V.bool ((((((((decide (¬(((ans o w).getD []) = ((ans o w).getD []))) || ((((ans o w).isSome) != ((ans o w).isSome))))) || ((decide (clB o t) != decide (clB o t))))) || decide ((clF o t) ≠ (clF o t)))) || decide ((clS o t) ≠ (clS o t)))))) (bbF g9)) ?_
    refine R_fld_mp (o' := 0) t13 h13 (by first | rfl | simp [okB, Blk.own]) rfl ?_
    refine G_yes (Eq.trans (@rfl V (V.bool ((((((((decide (¬(((ans o w).getD []) = ((ans o w).getD []))) || ((((ans o w).isSome) != ((ans o w).isSome))))) || ((decide (clB o t) != decide (clB o t))))) || decide ((clF o t) ≠ (clF o t)))) || decide ((clS o t) ≠ (clS o t)))))) (bbF g9)) ?_
    refine R_load_mp (v := (V.sl (List.map cI (clW o t)))) (@rfl V (V.mp 13 1 0 0)) h13 (by first | rfl | simp [ldB, ldV, Blk.own, V.one]) ?_
    refine G_yes (Eq.trans (@rfl V (V.bool ((((((((decide (¬(((ans o w).getD []) = ((ans o w).getD []))) || ((((ans o w).isSome) != ((ans o w).isSome))))) || ((decide (clB o t) != decide (clB o t))))) || decide ((clF o t) ≠ (clF o t)))) || decide ((clS o t) ≠ (clS o t)))))) (bbF g9)) ?_
    refine R_call (evcons (@rfl V (V.sl (List.map cI (clW o t)))) (evcons (@rfl V (V.sl (List.map cI (clW o t)))) evnil)) (ints_pure (clW o t) (clW o t)) (fzv_mapcanon _ _ (by simp [-List.map_take, -List.map_drop, -List.map_append, -List.map_reverse])) (by simp [-List.map_take, -List.map_drop, -List.map_append, -List.map_reverse]) (Or.inl (by simp [-List.map_take, -List.map_drop, -List.map_append, -List.map_reverse])) ?_
    refine G_yes (Eq.trans (@rfl V (V.bool ((((((((decide (¬(((ans o w).getD []) = ((ans o w).getD []))) || ((((ans o w).isSome) != ((ans o w).isSome))))) || ((decide (clB o t) != decide (clB o t))))) || decide ((clF o t) ≠ (clF o t)))) || decide ((clS o t) ≠ (clS o t)))))) (bbF g9)) ?_
    refine R_not (p := (clW o t) = (clW o t)) (@rfl V (V.bool (decide ((clW o t) = (clW o t))))) ?_
    refine R_pickF (Eq.trans (@rfl V (V.bool ((((((((decide (¬(((ans o w).getD []) = ((ans o w).getD []))) || ((((ans o w).isSome) != ((ans o w).isSome))))) || ((decide (clB o t) != decide (clB o t))))) || decide ((clF o t) ≠ (clF o t)))) || decide ((clS o t) ≠ (clS o t)))))) (bbF g9)) (@rfl V (V.bool (decide (¬((clW o t) = (clW o t)))))) ?_
    exact ⟨t1, t3, (Eq.trans (@rfl V (V.bool (decide (¬((clW o t) = (clW o t)))))) (borF g9)), h3, h5, h11, h13, trivial⟩
  intro T H ⟨t1, t3, t91, h3, h5, h11, h13, _⟩
  exact R_nil ⟨t1, t3, t91, h3, h5, h11, h13, trivial⟩
 intro T H ⟨t1, t3, t91, h3, h5, h11, h13, _⟩
 refine W_seq_ifb t91 (fun c10 => ?_) (fun c10 => ?_)
 · exfalso; simp at c10
 refine W_seq_skip ?_
 refine W_seq_regc (fun T H => T 6 = (V.bool (decide (((knw o.tr w o.tr.length : Nat) : Int) = ((knw o.tr w o.tr.length : Nat) : Int)))) ∧ H 3 = (⟨1, true, false, 34, 2, [[(iV (o.i)), (V.sl (List.map cT (o.tr)))]]⟩ : Blk) ∧ H 5 = (⟨1, true, false, 63, 2, [[(V.sl (List.map cI (t.ni))), (V.sl (List.map cI (t.no)))]]⟩ : Blk) ∧ H 11 = (⟨1, true, false, 67, 3, [[(V.sl (List.map cI (clW o t))), (iV (clF o t)), (iV (clS o t))]]⟩ : Blk) ∧ H 13 = (⟨1, true, false, 67, 3, [[(V.sl (List.map cI (clW o t))), (iV (clF o t)), (iV (clS o t))]]⟩ : Blk) ∧ True) ?_ ?_
 ·
  unfold r8_9
  refine R_load_mp (v := (V.agg [(iV (o.i)), (V.sl (List.map cT (o.tr)))])) t3 h3 (by first | rfl | simp [ldB, ldV, Blk.own, V.one]) ?_
  refine R_mv t1 ?_
  refine R_call (evcons (@rfl V (V.agg [(iV (o.i)), (V.sl (List.map cT (o.tr)))])) (evcons (@rfl V (V.sl (List.map cI (w)))) evnil)) (known_pure o w) (fzv_mapcanon _ _ (by simp [-List.map_take, -List.map_drop, -List.map_append, -List.map_reverse])) (by simp [-List.map_take, -List.map_drop, -List.map_append, -List.map_reverse]) (Or.inl (by simp [-List.map_take, -List.map_drop, -List.map_append, -List.map_reverse])) ?_
  refine R_load_mp (v := (V.agg [(iV (o.i)), (V.sl (List.map cT (o.tr)))])) t3 h3 (by first | rfl | simp [ldB, ldV, Blk.own, V.one]) ?_
  refine R_mv t1 ?_
  refine R_call (evcons (@rfl V (V.agg [(iV (o.i)), (V.sl (List.map cT (o.tr)))])) (evcons (@rfl V (V.sl (List.map cI (w)))) evnil)) (rknown_pure o w) (fzv_mapcanon _ _ (by simp [-List.map_take, -List.map_drop, -List.map_append, -List.map_reverse])) (by simp [-List.map_take, -List.map_drop, -List.map_append, -List.map_reverse]) (Or.inl (by simp [-List.map_take, -List.map_drop, -List.map_append, -List.map_reverse])) ?_
  refine R_eql (x := ((knw o.tr w o.tr.length : Nat) : Int)) (y := ((knw o.tr w o.tr.length : Nat) : Int)) (@rfl V (iV ((knw o.tr w o.tr.length : Nat) : Int))) (@rfl V (iV ((knw o.tr w o.tr.length : Nat) : Int))) ?_
  refine R_mv (@rfl V (V.bool (decide (((knw o.tr w o.tr.length : Nat) : Int) = ((knw o.tr w o.tr.length : Nat) : Int))))) ?_
  refine Ops_seg 2 (fun T H => T 101 = (V.bool (decide (((knw o.tr w o.tr.length : Nat) : Int) = ((knw o.tr w o.tr.length : Nat) : Int)))) ∧ H 3 = (⟨1, true, false, 34, 2, [[(iV (o.i)), (V.sl (List.map cT (o.tr)))]]⟩ : Blk) ∧ H 5 = (⟨1, true, false, 63, 2, [[(V.sl (List.map cI (t.ni))), (V.sl (List.map cI (t.no)))]]⟩ : Blk) ∧ H 11 = (⟨1, true, false, 67, 3, [[(V.sl (List.map cI (clW o t))), (iV (clF o t)), (iV (clS o t))]]⟩ : Blk) ∧ H 13 = (⟨1, true, false, 67, 3, [[(V.sl (List.map cI (clW o t))), (iV (clF o t)), (iV (clS o t))]]⟩ : Blk) ∧ True) ?_ ?_
  ·
   by_cases g11 : ((knw o.tr w o.tr.length : Nat) : Int) = ((knw o.tr w o.tr.length : Nat) : Int)
   ·
    refine G_yes (Eq.trans (@rfl V (V.bool (decide (((knw o.tr w o.tr.length : Nat) : Int) = ((knw o.tr w o.tr.length : Nat) : Int))))) (bdT g11)) ?_
    refine R_call evnil (aw_learnerlaw16_awake_pure) (fzv_mapcanon _ _ (by simp [-List.map_take, -List.map_drop, -List.map_append, -List.map_reverse])) (by simp [-List.map_take, -List.map_drop, -List.map_append, -List.map_reverse]) (Or.inl (by simp [-List.map_take, -List.map_drop, -List.map_append, -List.map_reverse])) ?_
    refine R_pickT (Eq.trans (@rfl V (V.bool (decide (((knw o.tr w o.tr.length : Nat) : Int) = ((knw o.tr w o.tr.length : Nat) : Int))))) (bdT g11)) (@rfl V (V.bool true)) ?_
    exact ⟨(Eq.trans (@rfl V (V.bool true)) (dec_T g11)), h3, h5, h11, h13, trivial⟩
   ·
    refine G_no (Eq.trans (@rfl V (V.bool (decide (((knw o.tr w o.tr.length : Nat) : Int) = ((knw o.tr w o.tr.length : Nat) : Int))))) (bdF g11)) (by decide) ?_
    refine R_pickF (Eq.trans (@rfl V (V.bool (decide (((knw o.tr w o.tr.length : Nat) : Int) = ((knw o.tr w o.tr.length : Nat) : Int))))) (bdF g11)) (@rfl V (V.bool false)) ?_
    exact ⟨(Eq.trans (@rfl V (V.bool false)) (dec_F g11)), h3, h5, h11, h13, trivial⟩
  intro T H ⟨t101, h3, h5, h11, h13, _⟩
  refine R_mv t101 ?_
  exact R_nil ⟨rfl, h3, h5, h11, h13, trivial⟩
 intro T H ⟨t6, h3, h5, h11, h13, _⟩
 refine W_ret ?_
 refine Ret_1 t6 (fz_bool ?_)
 · simp

end Go.Proofs.Ytngkckefanbhgaa

namespace Go.Proofs.Ytngkckefanbhgaa
open Go Go.Proofs Go.Proofs.Ytngkckefanbhgaa Go.ChangeShapes Go.WideShapes Go.ChangeAt Go.RowKit

structure UT (P : Program) : Prop where
  u3 : P.underlying 3 = some (.int .i64)
  u32 : P.underlying 32 = some (.slice 63)
  u35 : P.underlying 35 = some (.slice 3)
  u63 : ∃ f0 f1 : Field, P.underlying 63 = some (.struct #[f0, f1]) ∧ f0.type = 35 ∧ f1.type = 35
  u34 : ∃ f0 f1 : Field, P.underlying 34 = some (.struct #[f0, f1]) ∧ f0.type = 3 ∧ f1.type = 32
theorem sh3 {P : Program} (U : UT P) (n : Nat) (vs : List V) (h : Shp P (n + 1) 3 vs) : ∃ a : Int, vs = cI a := shp_int U.u3 h

theorem sh35 {P : Program} (U : UT P) (n : Nat) (vs : List V) (h : Shp P (n + 2) 35 vs) : ∃ a : List Int, vs = cL a := shp_slice (f := cI) U.u35 (fun vs h => sh3 U n vs h) h

theorem sh63 {P : Program} (U : UT P) (n : Nat) (vs : List V) (h : Shp P (n + 3) 63 vs) : ∃ a : Tr, vs = cT a := by
  obtain ⟨f0, f1, hu, k0, k1⟩ := U.u63
  have h0 := shp_step hu h
  obtain ⟨x0, u0, e0, h1⟩ := shpL_cons (c := cL) (fun vs h => sh35 U (n + 0) vs (by rw [k0] at h; exact h)) h0
  obtain ⟨x1, u1, e1, h2⟩ := shpL_cons (c := cL) (fun vs h => sh35 U (n + 0) vs (by rw [k1] at h; exact h)) h1
  have e2 := shpL_nil h2
  exact ⟨⟨x0, x1⟩, by rw [e0, e1, e2]; rfl⟩

theorem sh32 {P : Program} (U : UT P) (n : Nat) (vs : List V) (h : Shp P (n + 4) 32 vs) : ∃ a : List Tr, vs = (fun l => [V.sl (List.map cT l)]) a := shp_slice (f := cT) U.u32 (fun vs h => sh63 U n vs h) h

theorem sh34 {P : Program} (U : UT P) (n : Nat) (vs : List V) (h : Shp P (n + 5) 34 vs) : ∃ a : Ob, vs = oC a := by
  obtain ⟨f0, f1, hu, k0, k1⟩ := U.u34
  have h0 := shp_step hu h
  obtain ⟨x0, u0, e0, h1⟩ := shpL_cons (c := cI) (fun vs h => sh3 U (n + 3) vs (by rw [k0] at h; exact h)) h0
  obtain ⟨x1, u1, e1, h2⟩ := shpL_cons (c := (fun l => [V.sl (List.map cT l)])) (fun vs h => sh32 U (n + 0) vs (by rw [k1] at h; exact h)) h1
  have e2 := shpL_nil h2
  exact ⟨⟨x0, x1⟩, by rw [e0, e1, e2]; rfl⟩

theorem ut : UT Try.prog := ⟨by kernel_rfl, by kernel_rfl, by kernel_rfl, ⟨_, _, Try.underlying63, rfl, rfl⟩, ⟨_, _, Try.underlying34, rfl, rfl⟩⟩
theorem args8 {P : Program} (U : UT P) {us : List V} (h : ShpA P 6 [34, 35, 63] us) : ∃ (d0 : Ob) (d1 : List Int) (d2 : Tr), us = [V.agg (oC d0), V.sl (List.map cI d1), V.agg (cT d2)] := by
  obtain ⟨a0, b0, e0, h0, h⟩ := shpA_cons h
  obtain ⟨d0, g0⟩ := sh34 U 1 a0 h0
  have q0 : packV P 34 a0 = V.agg (oC d0) := by obtain ⟨_, _, hu, _⟩ := U.u34; rw [g0]; exact pack_struct hu _
  obtain ⟨a1, b1, e1, h1, h⟩ := shpA_cons h
  obtain ⟨d1, g1⟩ := sh35 U 4 a1 h1
  have q1 : packV P 35 a1 = V.sl (List.map cI d1) := by rw [g1]; exact pack_other (fun fs h => by rw [U.u35] at h; cases h)
  obtain ⟨a2, b2, e2, h2, h⟩ := shpA_cons h
  obtain ⟨d2, g2⟩ := sh63 U 3 a2 h2
  have q2 : packV P 63 a2 = V.agg (cT d2) := by obtain ⟨_, _, hu, _⟩ := U.u63; rw [g2]; exact pack_struct hu _
  have e3 := shpA_nil h
  exact ⟨d0, d1, d2, by rw [e0, q0, e1, q1, e2, q2, e3]⟩
theorem own8 : ownKnob Try.prog.godebug = none := by kernel_rfl

set_option maxRecDepth 100000 in
theorem lifted8 (os : Os) (started : os.Started) (H : Type) (enc : TypeId × Value → H) :
    ReturnsInHanded {} Try.checked os 8 .any (Rows.observeAnswersSpec.pre6 enc Try.prog Try.f8 Rows.observeAnswersRow.domain false) (Rows.observeAnswersSpec.post enc Try.prog Try.f8 false true false false) := by
  refine returnsInHanded_of_change (C := Try.checked) own8 started (by kernel_rfl) Try.func8
    (ChangeSpec.witness6 (enc := enc) (C := Try.checked) false ⟨#[], #[.agg #[.int .i64 0, .slice none 0 0], .slice none 0 0, .agg #[.slice none 0 0, .slice none 0 0]], []⟩ 8 (by kernel_rfl) (by kernel_rfl) (by kernel_rfl) (by kernel_rfl)) ?_
  intro W base args ds gs before hval0 hW hcnd _
  refine law_post (n := 6) (tb := 4) (by kernel_rfl) (by kernel_rfl) (by kernel_rfl) (fun t ht => ?_) rfl ?_ (fun us hu => ?_) hval0 hW
  · have h : t ∈ [34, 35, 63] := ht
    simp only [List.mem_cons, List.not_mem_nil, or_false] at h
    rcases h with rfl | rfl | rfl
    · exact ⟨by kernel_rfl, by kernel_rfl, of_decide_eq_true (by kernel_rfl)⟩
    · exact ⟨by kernel_rfl, by kernel_rfl, of_decide_eq_true (by kernel_rfl)⟩
    · exact ⟨by kernel_rfl, by kernel_rfl, of_decide_eq_true (by kernel_rfl)⟩
  · obtain ⟨p, q, hA, hV, rfl, hfz, hnd⟩ := hW
    obtain ⟨rfl, rfl⟩ := trodVars_none hV
    change DataW.TrodAll enc Try.prog W 0 (fun _ => true) true [34, 35, 63] args.toList ds p at hA
    obtain ⟨v0, vs0, y0, ds0, pa0, pb0, hv0, rfl, rfl, _, hA⟩ := trodAll_cons hA
    obtain ⟨v1, vs1, y1, ds1, pa1, pb1, hv1, rfl, rfl, _, hA⟩ := trodAll_cons hA
    obtain ⟨v2, vs2, y2, ds2, pa2, pb2, hv2, rfl, rfl, _, hA⟩ := trodAll_cons hA
    obtain ⟨_, rfl, rfl⟩ := trodAll_nil hA
    rfl
  · obtain ⟨d0, d1, d2, rfl⟩ := args8 ut hu
    exact law8_pure d0 d1 d2

theorem proved8 : Rows.ObserveAnswersSaid :=
  OpenClaim.holds_of_wide 8 Try.f8 rfl rfl rfl rfl rfl rfl rfl ⟨rfl, rfl, rfl, rfl, rfl⟩ rfl rfl rfl rfl rfl (by kernel_rfl) Try.func8 (by kernel_rfl)
    (of_decide_eq_true (by kernel_rfl)) (by unfold Func.isWrapper; first | (rw [if_pos (by decide +kernel)]; kernel_rfl) | (rw [if_neg (by decide +kernel)]; exact ⟨rfl, rfl⟩))
    (fun os started H enc _ => lifted8 os started H enc)
end Go.Proofs.Ytngkckefanbhgaa

