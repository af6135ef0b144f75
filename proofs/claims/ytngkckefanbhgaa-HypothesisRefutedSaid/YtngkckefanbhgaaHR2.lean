import Derived.KernelRfl
import Derived.Test.YtngkckefanbhgaaHR1
namespace Go.Proofs.Ytngkckefanbhgaa
open Go Go.Proofs

theorem rhvalid_pure (h : Hy) : PureC Try.prog 18 [(V.agg [(iV (h.m.i)), (iV (h.m.s)), (V.sl (List.map cL (h.m.nx))), (V.sl (List.map cL (h.m.ot))), (V.sl (List.map cL (h.acc)))])] (iV (hval h)) := by
  refine pure_of_Wb true 6 Try.func18 s18_ok (by kernel_rfl) (by simp [s18]) (by simp) (by simp) fun hB => ?_
  simp only [bnd_map, bnd_int, bnd_bool, bnd_str, bnd_agg, bnd_pp, bnd_nil, bnd_cons, implies_true, and_true, true_and] at hB
  unfold s18
  dsimp only
  refine W_seq_regc (fun T H => T 1 = (V.mp 1 1 0 0) ∧ H 1 = (⟨1, true, false, 26, 5, [[(iV (h.m.i)), (iV (h.m.s)), (V.sl (List.map cL (h.m.nx))), (V.sl (List.map cL (h.m.ot))), (V.sl (List.map cL (h.acc)))]]⟩ : Blk) ∧ True) ?_ ?_
  · unfold r18_0
    refine R_box (i := 1) (n := 0) (m := 5) (cs := [(iV (h.m.i)), (iV (h.m.s)), (V.sl (List.map cL (h.m.nx))), (V.sl (List.map cL (h.m.ot))), (V.sl (List.map cL (h.acc)))]) rfl (congrArg Blk.ver rfl) (@rfl V (V.agg [(iV (h.m.i)), (iV (h.m.s)), (V.sl (List.map cL (h.m.nx))), (V.sl (List.map cL (h.m.ot))), (V.sl (List.map cL (h.acc)))])) rfl rfl ?_
    refine R_mv (@rfl V (iV (0 : Int))) ?_
    exact R_nil ⟨rfl, rfl, trivial⟩
  · intro T H ⟨t1, h1, _⟩
    refine W_seq_seq ?_
    refine W_seq_regc (fun T H => T 1 = (V.mp 1 1 0 0) ∧ T 3 = (iV (mval h.m)) ∧ H 1 = (⟨1, true, false, 26, 5, [[(iV (h.m.i)), (iV (h.m.s)), (V.sl (List.map cL (h.m.nx))), (V.sl (List.map cL (h.m.ot))), (V.sl (List.map cL (h.acc)))]]⟩ : Blk) ∧ True) ?_ ?_
    · unfold r18_1
      refine R_fld_mp (o' := 0) t1 h1 (by first | rfl | simp [okB, Blk.own]) rfl ?_
      refine R_load_mp (v := (V.agg [(iV (h.m.i)), (iV (h.m.s)), (V.sl (List.map cL (h.m.nx))), (V.sl (List.map cL (h.m.ot)))])) (@rfl V (V.mp 1 1 0 0)) h1 (by first | rfl | simp [ldB, ldV, Blk.own, V.one]) ?_
      refine R_call (evcons (@rfl V (V.agg [(iV (h.m.i)), (iV (h.m.s)), (V.sl (List.map cL (h.m.nx))), (V.sl (List.map cL (h.m.ot)))])) evnil) (rvalid_pure h.m) (fzv_mapcanon _ _ (by simp [-List.map_take, -List.map_drop, -List.map_append, -List.map_reverse])) (by simp [-List.map_take, -List.map_drop, -List.map_append, -List.map_reverse]) (Or.inl (by simp [-List.map_take, -List.map_drop, -List.map_append, -List.map_reverse])) ?_
      refine R_mv (@rfl V (iV (mval h.m))) ?_
      exact R_nil ⟨t1, rfl, h1, trivial⟩
    · intro T H ⟨t1, t3, h1, _⟩
      refine W_seq_seq ?_
      refine W_seq_regc (fun T H => T 1 = (V.mp 1 1 0 0) ∧ T 3 = (iV (mval h.m)) ∧ T 13 = (V.bool (decide ((mval h.m) ≠ (0 : Int)))) ∧ H 1 = (⟨1, true, false, 26, 5, [[(iV (h.m.i)), (iV (h.m.s)), (V.sl (List.map cL (h.m.nx))), (V.sl (List.map cL (h.m.ot))), (V.sl (List.map cL (h.acc)))]]⟩ : Blk) ∧ True) ?_ ?_
      · unfold r18_2
        refine R_mv t3 ?_
        refine R_neq (x := (mval h.m)) (y := (0 : Int)) (@rfl V (iV (mval h.m))) (@rfl V (iV (0 : Int))) ?_
        exact R_nil ⟨t1, t3, rfl, h1, trivial⟩
      · intro T H ⟨t1, t3, t13, h1, _⟩
        refine W_seq_if (p := (mval h.m) ≠ (0 : Int)) t13 (fun c1 => ?_) (fun c1 => ?_)
        ·
          refine W_seq_seq ?_
          refine W_seq_regc (fun T H => T 2 = (iV (mval h.m)) ∧ H 1 = (⟨1, true, false, 26, 5, [[(iV (h.m.i)), (iV (h.m.s)), (V.sl (List.map cL (h.m.nx))), (V.sl (List.map cL (h.m.ot))), (V.sl (List.map cL (h.acc)))]]⟩ : Blk) ∧ True) ?_ ?_
          · unfold r18_3
            refine R_mv t3 ?_
            refine R_mv (@rfl V (iV (mval h.m))) ?_
            exact R_nil ⟨rfl, h1, trivial⟩
          · intro T H ⟨t2, h1, _⟩
            refine W_seq_ret ?_
            refine Ret_1 t2 (fz_int ?_)
            · rw [hval, if_pos (by omega)]
        ·
          have hm := mval_ok (m := h.m) (by omega)
          refine W_seq_skip ?_
          refine W_seq_seq ?_
          refine W_seq_regc (fun T H => T 1 = (V.mp 1 1 0 0) ∧ T 22 = (V.bool (decide (((h.acc.length : Nat) : Int) ≠ ((h.m.nx.length : Nat) : Int)))) ∧ H 1 = (⟨1, true, false, 26, 5, [[(iV (h.m.i)), (iV (h.m.s)), (V.sl (List.map cL (h.m.nx))), (V.sl (List.map cL (h.m.ot))), (V.sl (List.map cL (h.acc)))]]⟩ : Blk) ∧ True) ?_ ?_
          · unfold r18_4
            refine R_fld_mp (o' := 4) t1 h1 (by first | rfl | simp [okB, Blk.own]) rfl ?_
            refine R_load_mp (v := (V.sl (List.map cL (h.acc)))) (@rfl V (V.mp 1 1 0 4)) h1 (by first | rfl | simp [ldB, ldV, Blk.own, V.one]) ?_
            refine R_len (@rfl V (V.sl (List.map cL (h.acc)))) ?_
            refine R_fld_mp (o' := 0) t1 h1 (by first | rfl | simp [okB, Blk.own]) rfl ?_
            refine R_fld_mp (o' := 2) (@rfl V (V.mp 1 1 0 0)) h1 (by first | rfl | simp [okB, Blk.own]) rfl ?_
            refine R_load_mp (v := (V.sl (List.map cL (h.m.nx)))) (@rfl V (V.mp 1 1 0 2)) h1 (by first | rfl | simp [ldB, ldV, Blk.own, V.one]) ?_
            refine R_len (@rfl V (V.sl (List.map cL (h.m.nx)))) ?_
            refine R_neq (x := ((h.acc.length : Nat) : Int)) (y := ((h.m.nx.length : Nat) : Int)) (@rfl V (iV ((h.acc.length : Nat) : Int))) (@rfl V (iV ((h.m.nx.length : Nat) : Int))) ?_
            exact R_nil ⟨t1, rfl, h1, trivial⟩
          · intro T H ⟨t1, t22, h1, _⟩
            refine W_seq_if (p := ((h.acc.length : Nat) : Int) ≠ ((h.m.nx.length : Nat) : Int)) t22 (fun c2 => ?_) (fun c2 => ?_)
            ·
              refine W_seq_seq ?_
              refine W_seq_regc (fun T H => T 2 = (iV (1 : Int)) ∧ H 1 = (⟨1, true, false, 26, 5, [[(iV (h.m.i)), (iV (h.m.s)), (V.sl (List.map cL (h.m.nx))), (V.sl (List.map cL (h.m.ot))), (V.sl (List.map cL (h.acc)))]]⟩ : Blk) ∧ True) ?_ ?_
              · unfold r18_5
                refine R_mv (@rfl V (iV (1 : Int))) ?_
                exact R_nil ⟨rfl, h1, trivial⟩
              · intro T H ⟨t2, h1, _⟩
                refine W_seq_ret ?_
                refine Ret_1 t2 (fz_int ?_)
                · rw [hval, if_neg (by omega), if_pos (by omega)]
            ·
              refine W_seq_skip ?_
              refine W_seq_seq ?_
              refine W_seq_regc (fun T H => T 1 = (V.mp 1 1 0 0) ∧ T 4 = (iV (0 : Int)) ∧ H 1 = (⟨1, true, false, 26, 5, [[(iV (h.m.i)), (iV (h.m.s)), (V.sl (List.map cL (h.m.nx))), (V.sl (List.map cL (h.m.ot))), (V.sl (List.map cL (h.acc)))]]⟩ : Blk) ∧ True) ?_ ?_
              · unfold r18_6
                refine R_mv (@rfl V (iV (0 : Int))) ?_
                exact R_nil ⟨t1, rfl, h1, trivial⟩
              · intro T H ⟨t1, t4, h1, _⟩
                refine W_seq_blockg fun Q3 n3 x3 y3 z3 => ?_
                refine W_loop (fun mm T H => ∃ (k : Nat), mm = h.acc.length - k ∧ T 1 = (V.mp 1 1 0 0) ∧ T 4 = (iV ((k : Nat) : Int)) ∧ H 1 = (⟨1, true, false, 26, 5, [[(iV (h.m.i)), (iV (h.m.s)), (V.sl (List.map cL (h.m.nx))), (V.sl (List.map cL (h.m.ot))), (V.sl (List.map cL (h.acc)))]]⟩ : Blk) ∧ (k ≤ h.acc.length) ∧ (mval h.m = 0) ∧ (h.acc.length = h.m.nx.length) ∧ (0 ≤ h.m.s ∧ h.m.s < h.m.nx.length ∧ h.m.nx.length ≤ 128) ∧ (fe (accE h) 0 h.acc.length = fe (accE h) k (h.acc.length - k))) ?_ ?_
                · refine ⟨_, 0, rfl, t1, (Eq.trans t4 (by first | rfl | simp)), h1, ?_, ?_, ?_, ?_, ?_⟩
                  · omega
                  · omega
                  · omega
                  · omega
                  · rfl
                · intro mm T H ⟨k, hmm, t1, t4, h1, hk, hv, hl, hs, hc⟩ Q4 p14 p24 p34
                  unfold b18_0
                  refine W_seq_seq ?_
                  refine W_seq_regc (fun T H => T 1 = (V.mp 1 1 0 0) ∧ T 4 = (iV ((k : Nat) : Int)) ∧ T 27 = (V.bool (decide (((k : Nat) : Int) < ((h.acc.length : Nat) : Int)))) ∧ H 1 = (⟨1, true, false, 26, 5, [[(iV (h.m.i)), (iV (h.m.s)), (V.sl (List.map cL (h.m.nx))), (V.sl (List.map cL (h.m.ot))), (V.sl (List.map cL (h.acc)))]]⟩ : Blk) ∧ True) ?_ ?_
                  · unfold r18_7
                    refine R_mv t4 ?_
                    refine R_fld_mp (o' := 4) t1 h1 (by first | rfl | simp [okB, Blk.own]) rfl ?_
                    refine R_load_mp (v := (V.sl (List.map cL (h.acc)))) (@rfl V (V.mp 1 1 0 4)) h1 (by first | rfl | simp [ldB, ldV, Blk.own, V.one]) ?_
                    refine R_len (@rfl V (V.sl (List.map cL (h.acc)))) ?_
                    refine R_lss (x := ((k : Nat) : Int)) (y := ((h.acc.length : Nat) : Int)) (@rfl V (iV ((k : Nat) : Int))) (@rfl V (iV ((h.acc.length : Nat) : Int))) ?_
                    exact R_nil ⟨t1, t4, rfl, h1, trivial⟩
                  · intro T H ⟨t1, t4, t27, h1, _⟩
                    refine W_seq_if (p := ((k : Nat) : Int) < ((h.acc.length : Nat) : Int)) t27 (fun c5 => ?_) (fun c5 => ?_)
                    ·
                      refine W_seq_skip ?_
                      refine W_seq_blockg fun Q6 n6 x6 y6 z6 => ?_
                      refine W_seq_regc (fun T H => T 1 = (V.mp 1 1 0 0) ∧ T 4 = (iV ((k : Nat) : Int)) ∧ T 5 = (V.sl (List.map cI ((nth (h.acc) (k))))) ∧ H 1 = (⟨1, true, false, 26, 5, [[(iV (h.m.i)), (iV (h.m.s)), (V.sl (List.map cL (h.m.nx))), (V.sl (List.map cL (h.m.ot))), (V.sl (List.map cL (h.acc)))]]⟩ : Blk) ∧ True) ?_ ?_
                      · unfold r18_9
                        refine R_fld_mp (o' := 4) t1 h1 (by first | rfl | simp [okB, Blk.own]) rfl ?_
                        refine R_load_mp (v := (V.sl (List.map cL (h.acc)))) (@rfl V (V.mp 1 1 0 4)) h1 (by first | rfl | simp [ldB, ldV, Blk.own, V.one]) ?_
                        refine R_mv t4 ?_
                        refine R_idx (i := k) (@rfl V (V.sl (List.map cL (h.acc)))) (@rfl V (iV ((k : Nat) : Int))) (by omega) rfl ?_
                        refine R_load_pp (v := (V.sl (List.map cI ((nth (h.acc) (k)))))) (@rfl V (V.pp [(V.sl (List.map cI ((nth (h.acc) (k)))))])) (by first | rfl | simp [ldV]) ?_
                        refine R_mv (@rfl V (V.sl (List.map cI ((nth (h.acc) (k)))))) ?_
                        exact R_nil ⟨t1, t4, rfl, h1, trivial⟩
                      · intro T H ⟨t1, t4, t5, h1, _⟩
                        refine W_seq_seq ?_
                        refine W_seq_regc (fun T H => T 1 = (V.mp 1 1 0 0) ∧ T 4 = (iV ((k : Nat) : Int)) ∧ T 5 = (V.sl (List.map cI ((nth (h.acc) (k))))) ∧ T 6 = (iV (wchk ((nth (h.acc) (k))) ((h.m.i)))) ∧ H 1 = (⟨1, true, false, 26, 5, [[(iV (h.m.i)), (iV (h.m.s)), (V.sl (List.map cL (h.m.nx))), (V.sl (List.map cL (h.m.ot))), (V.sl (List.map cL (h.acc)))]]⟩ : Blk) ∧ True) ?_ ?_
                        · unfold r18_10
                          refine R_mv t5 ?_
                          refine R_fld_mp (o' := 0) t1 h1 (by first | rfl | simp [okB, Blk.own]) rfl ?_
                          refine R_fld_mp (o' := 0) (@rfl V (V.mp 1 1 0 0)) h1 (by first | rfl | simp [okB, Blk.own]) rfl ?_
                          refine R_load_mp (v := (iV (h.m.i))) (@rfl V (V.mp 1 1 0 0)) h1 (by first | rfl | simp [ldB, ldV, Blk.own, V.one]) ?_
                          refine R_call (evcons (@rfl V (V.sl (List.map cI ((nth (h.acc) (k)))))) (evcons (@rfl V (iV (h.m.i))) evnil)) (rcheck_pure ((nth (h.acc) (k))) ((h.m.i))) (fzv_mapcanon _ _ (by simp [-List.map_take, -List.map_drop, -List.map_append, -List.map_reverse])) (by simp [-List.map_take, -List.map_drop, -List.map_append, -List.map_reverse]) (Or.inl (by simp [-List.map_take, -List.map_drop, -List.map_append, -List.map_reverse])) ?_
                          refine R_mv (@rfl V (iV (wchk ((nth (h.acc) (k))) ((h.m.i))))) ?_
                          exact R_nil ⟨t1, t4, t5, rfl, h1, trivial⟩
                        · intro T H ⟨t1, t4, t5, t6, h1, _⟩
                          refine W_seq_seq ?_
                          refine W_seq_regc (fun T H => T 1 = (V.mp 1 1 0 0) ∧ T 4 = (iV ((k : Nat) : Int)) ∧ T 5 = (V.sl (List.map cI ((nth (h.acc) (k))))) ∧ T 6 = (iV (wchk ((nth (h.acc) (k))) ((h.m.i)))) ∧ T 41 = (V.bool (decide ((wchk ((nth (h.acc) (k))) ((h.m.i))) ≠ (0 : Int)))) ∧ H 1 = (⟨1, true, false, 26, 5, [[(iV (h.m.i)), (iV (h.m.s)), (V.sl (List.map cL (h.m.nx))), (V.sl (List.map cL (h.m.ot))), (V.sl (List.map cL (h.acc)))]]⟩ : Blk) ∧ True) ?_ ?_
                          · unfold r18_11
                            refine R_mv t6 ?_
                            refine R_neq (x := (wchk ((nth (h.acc) (k))) ((h.m.i)))) (y := (0 : Int)) (@rfl V (iV (wchk ((nth (h.acc) (k))) ((h.m.i))))) (@rfl V (iV (0 : Int))) ?_
                            exact R_nil ⟨t1, t4, t5, t6, rfl, h1, trivial⟩
                          · intro T H ⟨t1, t4, t5, t6, t41, h1, _⟩
                            refine W_seq_if (p := (wchk ((nth (h.acc) (k))) ((h.m.i))) ≠ (0 : Int)) t41 (fun c7 => ?_) (fun c7 => ?_)
                            ·
                              refine W_seq_seq ?_
                              refine W_seq_regc (fun T H => T 2 = (iV (wchk ((nth (h.acc) (k))) ((h.m.i)))) ∧ H 1 = (⟨1, true, false, 26, 5, [[(iV (h.m.i)), (iV (h.m.s)), (V.sl (List.map cL (h.m.nx))), (V.sl (List.map cL (h.m.ot))), (V.sl (List.map cL (h.acc)))]]⟩ : Blk) ∧ True) ?_ ?_
                              · unfold r18_12
                                refine R_mv t6 ?_
                                refine R_mv (@rfl V (iV (wchk ((nth (h.acc) (k))) ((h.m.i))))) ?_
                                exact R_nil ⟨rfl, h1, trivial⟩
                              · intro T H ⟨t2, h1, _⟩
                                refine W_seq_ret ?_
                                refine y6 _ _ ?_
                                refine p24 _ _ ?_
                                refine y3 _ _ ?_
                                refine Ret_1 t2 (fz_int ?_)
                                · have e : accE h k = wchk (nth h.acc k) h.m.i := by rw [accE, if_pos (by omega)]
                                  have e2 : fe (accE h) 0 h.acc.length = accE h k := by rw [hc]; exact fe_hit (by omega) (by omega)
                                  rw [hval, if_neg (by omega), if_neg (by omega), if_pos (by omega)]; omega
                            ·
                              have hw := wchk_ok (w := nth h.acc k) (n := h.m.i) (by omega)
                              refine W_seq_skip ?_
                              refine W_seq_regc (fun T H => T 1 = (V.mp 1 1 0 0) ∧ T 4 = (iV ((k : Nat) : Int)) ∧ T 8 = (iV (goal h.m ((h.m.s)) ((nth (h.acc) (k))))) ∧ H 1 = (⟨1, true, false, 26, 5, [[(iV (h.m.i)), (iV (h.m.s)), (V.sl (List.map cL (h.m.nx))), (V.sl (List.map cL (h.m.ot))), (V.sl (List.map cL (h.acc)))]]⟩ : Blk) ∧ True) ?_ ?_
                              · unfold r18_13
                                refine R_fld_mp (o' := 0) t1 h1 (by first | rfl | simp [okB, Blk.own]) rfl ?_
                                refine R_load_mp (v := (V.agg [(iV (h.m.i)), (iV (h.m.s)), (V.sl (List.map cL (h.m.nx))), (V.sl (List.map cL (h.m.ot)))])) (@rfl V (V.mp 1 1 0 0)) h1 (by first | rfl | simp [ldB, ldV, Blk.own, V.one]) ?_
                                refine R_fld_mp (o' := 0) t1 h1 (by first | rfl | simp [okB, Blk.own]) rfl ?_
                                refine R_fld_mp (o' := 1) (@rfl V (V.mp 1 1 0 0)) h1 (by first | rfl | simp [okB, Blk.own]) rfl ?_
                                refine R_load_mp (v := (iV (h.m.s))) (@rfl V (V.mp 1 1 0 1)) h1 (by first | rfl | simp [ldB, ldV, Blk.own, V.one]) ?_
                                refine R_mv t5 ?_
                                refine R_call (evcons (@rfl V (V.agg [(iV (h.m.i)), (iV (h.m.s)), (V.sl (List.map cL (h.m.nx))), (V.sl (List.map cL (h.m.ot)))])) (evcons (@rfl V (iV (h.m.s))) (evcons (@rfl V (V.sl (List.map cI ((nth (h.acc) (k)))))) evnil))) (outs_pure h.m ((h.m.s)) ((nth (h.acc) (k))) hv ⟨hs.1, hs.2.1⟩ hw.1 hw.2) (fzv_mapcanon _ _ (by simp [-List.map_take, -List.map_drop, -List.map_append, -List.map_reverse])) (by simp [-List.map_take, -List.map_drop, -List.map_append, -List.map_reverse]) (Or.inl (by simp [-List.map_take, -List.map_drop, -List.map_append, -List.map_reverse])) ?_
                                refine R_mv (@rfl V (V.tup [(V.sl (List.map cI (outs h.m ((h.m.s)) ((nth (h.acc) (k)))))), (iV (goal h.m ((h.m.s)) ((nth (h.acc) (k)))))])) ?_
                                refine R_ext (v := (V.sl (List.map cI (outs h.m ((h.m.s)) ((nth (h.acc) (k))))))) (@rfl V (V.tup [(V.sl (List.map cI (outs h.m ((h.m.s)) ((nth (h.acc) (k)))))), (iV (goal h.m ((h.m.s)) ((nth (h.acc) (k)))))])) rfl ?_
                                refine R_ext (v := (iV (goal h.m ((h.m.s)) ((nth (h.acc) (k)))))) (@rfl V (V.tup [(V.sl (List.map cI (outs h.m ((h.m.s)) ((nth (h.acc) (k)))))), (iV (goal h.m ((h.m.s)) ((nth (h.acc) (k)))))])) rfl ?_
                                refine R_mv (@rfl V (V.sl (List.map cI (outs h.m ((h.m.s)) ((nth (h.acc) (k))))))) ?_
                                refine R_mv (@rfl V (iV (goal h.m ((h.m.s)) ((nth (h.acc) (k)))))) ?_
                                exact R_nil ⟨t1, t4, rfl, h1, trivial⟩
                              · intro T H ⟨t1, t4, t8, h1, _⟩
                                refine W_seq_regc (fun T H => T 1 = (V.mp 1 1 0 0) ∧ T 4 = (iV ((k : Nat) : Int)) ∧ T 55 = (V.bool (decide ((goal h.m ((h.m.s)) ((nth (h.acc) (k)))) ≠ ((k : Nat) : Int)))) ∧ H 1 = (⟨1, true, false, 26, 5, [[(iV (h.m.i)), (iV (h.m.s)), (V.sl (List.map cL (h.m.nx))), (V.sl (List.map cL (h.m.ot))), (V.sl (List.map cL (h.acc)))]]⟩ : Blk) ∧ True) ?_ ?_
                                · unfold r18_14
                                  refine R_mv t8 ?_
                                  refine R_mv t4 ?_
                                  refine R_neq (x := (goal h.m ((h.m.s)) ((nth (h.acc) (k))))) (y := ((k : Nat) : Int)) (@rfl V (iV (goal h.m ((h.m.s)) ((nth (h.acc) (k)))))) (@rfl V (iV ((k : Nat) : Int))) ?_
                                  exact R_nil ⟨t1, t4, rfl, h1, trivial⟩
                                · intro T H ⟨t1, t4, t55, h1, _⟩
                                  refine W_if (p := (goal h.m ((h.m.s)) ((nth (h.acc) (k)))) ≠ ((k : Nat) : Int)) t55 (fun c8 => ?_) (fun c8 => ?_)
                                  ·
                                    refine W_seq_regc (fun T H => T 2 = (iV (15 : Int)) ∧ H 1 = (⟨1, true, false, 26, 5, [[(iV (h.m.i)), (iV (h.m.s)), (V.sl (List.map cL (h.m.nx))), (V.sl (List.map cL (h.m.ot))), (V.sl (List.map cL (h.acc)))]]⟩ : Blk) ∧ True) ?_ ?_
                                    · unfold r18_15
                                      refine R_mv (@rfl V (iV (15 : Int))) ?_
                                      exact R_nil ⟨rfl, h1, trivial⟩
                                    · intro T H ⟨t2, h1, _⟩
                                      refine W_ret ?_
                                      refine y6 _ _ ?_
                                      refine p24 _ _ ?_
                                      refine y3 _ _ ?_
                                      refine Ret_1 t2 (fz_int ?_)
                                      · have e : accE h k = 15 := by rw [accE, if_neg (by omega), if_pos (by omega)]
                                        have e2 : fe (accE h) 0 h.acc.length = accE h k := by rw [hc]; exact fe_hit (by omega) (by omega)
                                        rw [hval, if_neg (by omega), if_neg (by omega), if_pos (by omega)]; omega
                                  ·
                                    refine W_skip ?_
                                    refine n6 _ _ ?_
                                    refine .done ?_
                                    refine W_regc (fun T H => T 1 = (V.mp 1 1 0 0) ∧ T 4 = (iV ((k + 1 : Nat) : Int)) ∧ H 1 = (⟨1, true, false, 26, 5, [[(iV (h.m.i)), (iV (h.m.s)), (V.sl (List.map cL (h.m.nx))), (V.sl (List.map cL (h.m.ot))), (V.sl (List.map cL (h.acc)))]]⟩ : Blk) ∧ True) ?_ ?_
                                    · unfold r18_8
                                      refine R_mv t4 ?_
                                      refine R_addN (m := k) (n := 1) (@rfl V (iV ((k : Nat) : Int))) (@rfl V (iV ((1 : Nat) : Int))) (by omega) ?_
                                      refine R_mv (@rfl V (iV ((k + 1 : Nat) : Int))) ?_
                                      exact R_nil ⟨t1, rfl, h1, trivial⟩
                                    · intro T H ⟨t1, t4, h1, _⟩
                                      refine p14 _ _ _ ?_ ⟨(k + 1), rfl, t1, (Eq.trans t4 (by first | rfl | simp)), h1, ?_, ?_, ?_, ?_, ?_⟩
                                      · omega
                                      · omega
                                      · omega
                                      · omega
                                      · omega
                                      · have e : accE h k = 0 := by rw [accE, if_neg (by omega), if_neg (by omega)]
                                        rw [hc]; exact fe_skip e (by omega)
                    ·
                      refine W_seq_exit ?_
                      refine p34 _ _ _ ?_
                      refine x3 _ _ ?_
                      refine .done ?_
                      refine W_seq_seq ?_
                      refine W_seq_regc (fun T H => T 64 = (V.bool (decide ((0 : Int) < ((((nth (h.acc) (h.m.s).toNat)).length : Nat) : Int)))) ∧ H 1 = (⟨1, true, false, 26, 5, [[(iV (h.m.i)), (iV (h.m.s)), (V.sl (List.map cL (h.m.nx))), (V.sl (List.map cL (h.m.ot))), (V.sl (List.map cL (h.acc)))]]⟩ : Blk) ∧ True) ?_ ?_
                      · unfold r18_16
                        refine R_fld_mp (o' := 4) t1 h1 (by first | rfl | simp [okB, Blk.own]) rfl ?_
                        refine R_load_mp (v := (V.sl (List.map cL (h.acc)))) (@rfl V (V.mp 1 1 0 4)) h1 (by first | rfl | simp [ldB, ldV, Blk.own, V.one]) ?_
                        refine R_fld_mp (o' := 0) t1 h1 (by first | rfl | simp [okB, Blk.own]) rfl ?_
                        refine R_fld_mp (o' := 1) (@rfl V (V.mp 1 1 0 0)) h1 (by first | rfl | simp [okB, Blk.own]) rfl ?_
                        refine R_load_mp (v := (iV (h.m.s))) (@rfl V (V.mp 1 1 0 1)) h1 (by first | rfl | simp [ldB, ldV, Blk.own, V.one]) ?_
                        refine R_idxI (i := (h.m.s)) (@rfl V (V.sl (List.map cL (h.acc)))) (@rfl V (iV (h.m.s))) (by omega) (by omega) rfl ?_
                        refine R_load_pp (v := (V.sl (List.map cI ((nth (h.acc) (h.m.s).toNat))))) (@rfl V (V.pp [(V.sl (List.map cI ((nth (h.acc) (h.m.s).toNat))))])) (by first | rfl | simp [ldV]) ?_
                        refine R_len (@rfl V (V.sl (List.map cI ((nth (h.acc) (h.m.s).toNat))))) ?_
                        refine R_gtr (x := ((((nth (h.acc) (h.m.s).toNat)).length : Nat) : Int)) (y := (0 : Int)) (@rfl V (iV ((((nth (h.acc) (h.m.s).toNat)).length : Nat) : Int))) (@rfl V (iV (0 : Int))) ?_
                        exact R_nil ⟨rfl, h1, trivial⟩
                      · intro T H ⟨t64, h1, _⟩
                        refine W_seq_if (p := (0 : Int) < ((((nth (h.acc) (h.m.s).toNat)).length : Nat) : Int)) t64 (fun c9 => ?_) (fun c9 => ?_)
                        ·
                          refine W_seq_seq ?_
                          refine W_seq_regc (fun T H => T 2 = (iV (10 : Int)) ∧ H 1 = (⟨1, true, false, 26, 5, [[(iV (h.m.i)), (iV (h.m.s)), (V.sl (List.map cL (h.m.nx))), (V.sl (List.map cL (h.m.ot))), (V.sl (List.map cL (h.acc)))]]⟩ : Blk) ∧ True) ?_ ?_
                          · unfold r18_17
                            refine R_mv (@rfl V (iV (10 : Int))) ?_
                            exact R_nil ⟨rfl, h1, trivial⟩
                          · intro T H ⟨t2, h1, _⟩
                            refine W_seq_ret ?_
                            refine Ret_1 t2 (fz_int ?_)
                            · have e2 : fe (accE h) 0 h.acc.length = 0 := by rw [hc, fe_end (by omega)]
                              rw [hval, if_neg (by omega), if_neg (by omega), if_neg (by omega), if_pos (by omega)]
                        ·
                          refine W_seq_skip ?_
                          refine W_seq_regc (fun T H => T 2 = (iV (0 : Int)) ∧ H 1 = (⟨1, true, false, 26, 5, [[(iV (h.m.i)), (iV (h.m.s)), (V.sl (List.map cL (h.m.nx))), (V.sl (List.map cL (h.m.ot))), (V.sl (List.map cL (h.acc)))]]⟩ : Blk) ∧ True) ?_ ?_
                          · unfold r18_18
                            refine R_mv (@rfl V (iV (0 : Int))) ?_
                            exact R_nil ⟨rfl, h1, trivial⟩
                          · intro T H ⟨t2, h1, _⟩
                            refine W_ret ?_
                            refine Ret_1 t2 (fz_int ?_)
                            · have e2 : fe (accE h) 0 h.acc.length = 0 := by rw [hc, fe_end (by omega)]
                              rw [hval, if_neg (by omega), if_neg (by omega), if_neg (by omega), if_neg (by omega)]

end Go.Proofs.Ytngkckefanbhgaa

namespace Go.Proofs.Ytngkckefanbhgaa
open Go Go.Proofs

theorem great16_pure (o : Ob) : PureC Try.prog 19 [(V.agg [(iV (o.i)), (V.sl (List.map cT (o.tr)))])] (V.bool (decide (ogr o))) := by
  refine pure_of_Wb true 6 Try.func19 s19_ok (by kernel_rfl) (by simp [s19]) (by simp) (by simp) fun hB => ?_
  simp only [bnd_map, bnd_int, bnd_bool, bnd_str, bnd_agg, bnd_pp, bnd_nil, bnd_cons, implies_true, and_true, true_and] at hB
  unfold s19
  dsimp only
  refine W_seq_regc (fun T H => T 1 = (V.mp 1 1 0 0) ∧ H 1 = (⟨1, true, false, 34, 2, [[(iV (o.i)), (V.sl (List.map cT (o.tr)))]]⟩ : Blk) ∧ True) ?_ ?_
  · unfold r19_0
    refine R_box (i := 1) (n := 0) (m := 2) (cs := [(iV (o.i)), (V.sl (List.map cT (o.tr)))]) rfl (congrArg Blk.ver rfl) (@rfl V (V.agg [(iV (o.i)), (V.sl (List.map cT (o.tr)))])) rfl rfl ?_
    refine R_mv (@rfl V (V.bool false)) ?_
    exact R_nil ⟨rfl, rfl, trivial⟩
  · intro T H ⟨t1, h1, _⟩
    refine W_seq_seq ?_
    refine W_seq_regc (fun T H => T 1 = (V.mp 1 1 0 0) ∧ T 7 = (V.bool (decide ((60 : Int) < ((o.tr.length : Nat) : Int)))) ∧ H 1 = (⟨1, true, false, 34, 2, [[(iV (o.i)), (V.sl (List.map cT (o.tr)))]]⟩ : Blk) ∧ True) ?_ ?_
    · unfold r19_1
      refine R_fld_mp (o' := 1) t1 h1 (by first | rfl | simp [okB, Blk.own]) rfl ?_
      refine R_load_mp (v := (V.sl (List.map cT (o.tr)))) (@rfl V (V.mp 1 1 0 1)) h1 (by first | rfl | simp [ldB, ldV, Blk.own, V.one]) ?_
      refine R_len (@rfl V (V.sl (List.map cT (o.tr)))) ?_
      refine R_gtr (x := ((o.tr.length : Nat) : Int)) (y := (60 : Int)) (@rfl V (iV ((o.tr.length : Nat) : Int))) (@rfl V (iV (60 : Int))) ?_
      exact R_nil ⟨t1, rfl, h1, trivial⟩
    · intro T H ⟨t1, t7, h1, _⟩
      refine W_seq_if (p := (60 : Int) < ((o.tr.length : Nat) : Int)) t7 (fun c1 => ?_) (fun c1 => ?_)
      ·
        refine W_seq_seq ?_
        refine W_seq_regc (fun T H => T 2 = (V.bool true) ∧ H 1 = (⟨1, true, false, 34, 2, [[(iV (o.i)), (V.sl (List.map cT (o.tr)))]]⟩ : Blk) ∧ True) ?_ ?_
        · unfold r19_2
          refine R_mv (@rfl V (V.bool true)) ?_
          exact R_nil ⟨rfl, h1, trivial⟩
        · intro T H ⟨t2, h1, _⟩
          refine W_seq_ret ?_
          refine Ret_1 t2 (fz_bool ?_)
          · exact (decide_eq_true (show ogr o from Or.inl (by omega))).symm
      ·
        refine W_seq_skip ?_
        refine W_seq_seq ?_
        refine W_seq_regc (fun T H => T 1 = (V.mp 1 1 0 0) ∧ T 3 = (iV (0 : Int)) ∧ H 1 = (⟨1, true, false, 34, 2, [[(iV (o.i)), (V.sl (List.map cT (o.tr)))]]⟩ : Blk) ∧ True) ?_ ?_
        · unfold r19_3
          refine R_mv (@rfl V (iV (0 : Int))) ?_
          exact R_nil ⟨t1, rfl, h1, trivial⟩
        · intro T H ⟨t1, t3, h1, _⟩
          refine W_seq_blockg fun Q2 n2 x2 y2 z2 => ?_
          refine W_loop (fun mm T H => ∃ (k : Nat), mm = o.tr.length - k ∧ T 1 = (V.mp 1 1 0 0) ∧ T 3 = (iV ((k : Nat) : Int)) ∧ H 1 = (⟨1, true, false, 34, 2, [[(iV (o.i)), (V.sl (List.map cT (o.tr)))]]⟩ : Blk) ∧ (k ≤ o.tr.length) ∧ (o.tr.length ≤ 60) ∧ (fe (lngE o) 0 o.tr.length = fe (lngE o) k (o.tr.length - k))) ?_ ?_
          · refine ⟨_, 0, rfl, t1, (Eq.trans t3 (by first | rfl | simp)), h1, ?_, ?_, ?_⟩
            · omega
            · omega
            · rfl
          · intro mm T H ⟨k, hmm, t1, t3, h1, hk, hl, hc⟩ Q3 p13 p23 p33
            unfold b19_0
            refine W_seq_seq ?_
            refine W_seq_regc (fun T H => T 1 = (V.mp 1 1 0 0) ∧ T 3 = (iV ((k : Nat) : Int)) ∧ T 12 = (V.bool (decide (((k : Nat) : Int) < ((o.tr.length : Nat) : Int)))) ∧ H 1 = (⟨1, true, false, 34, 2, [[(iV (o.i)), (V.sl (List.map cT (o.tr)))]]⟩ : Blk) ∧ True) ?_ ?_
            · unfold r19_4
              refine R_mv t3 ?_
              refine R_fld_mp (o' := 1) t1 h1 (by first | rfl | simp [okB, Blk.own]) rfl ?_
              refine R_load_mp (v := (V.sl (List.map cT (o.tr)))) (@rfl V (V.mp 1 1 0 1)) h1 (by first | rfl | simp [ldB, ldV, Blk.own, V.one]) ?_
              refine R_len (@rfl V (V.sl (List.map cT (o.tr)))) ?_
              refine R_lss (x := ((k : Nat) : Int)) (y := ((o.tr.length : Nat) : Int)) (@rfl V (iV ((k : Nat) : Int))) (@rfl V (iV ((o.tr.length : Nat) : Int))) ?_
              exact R_nil ⟨t1, t3, rfl, h1, trivial⟩
            · intro T H ⟨t1, t3, t12, h1, _⟩
              refine W_seq_if (p := ((k : Nat) : Int) < ((o.tr.length : Nat) : Int)) t12 (fun c4 => ?_) (fun c4 => ?_)
              ·
                refine W_seq_skip ?_
                refine W_seq_blockg fun Q5 n5 x5 y5 z5 => ?_
                refine W_seq_regc (fun T H => T 1 = (V.mp 1 1 0 0) ∧ T 3 = (iV ((k : Nat) : Int)) ∧ T 32 = (V.bool (decide (((100 : Int) < ((((nth (o.tr) (k)).ni).length : Nat) : Int)) ∨ ((100 : Int) < ((((nth (o.tr) (k)).no).length : Nat) : Int))))) ∧ H 1 = (⟨1, true, false, 34, 2, [[(iV (o.i)), (V.sl (List.map cT (o.tr)))]]⟩ : Blk) ∧ True) ?_ ?_
                · unfold r19_6
                  refine R_fld_mp (o' := 1) t1 h1 (by first | rfl | simp [okB, Blk.own]) rfl ?_
                  refine R_load_mp (v := (V.sl (List.map cT (o.tr)))) (@rfl V (V.mp 1 1 0 1)) h1 (by first | rfl | simp [ldB, ldV, Blk.own, V.one]) ?_
                  refine R_mv t3 ?_
                  refine R_idx (i := k) (@rfl V (V.sl (List.map cT (o.tr)))) (@rfl V (iV ((k : Nat) : Int))) (by omega) rfl ?_
                  refine R_fld_pp (cs' := [(V.sl (List.map cI ((nth (o.tr) (k)).ni))), (V.sl (List.map cI ((nth (o.tr) (k)).no)))]) (@rfl V (V.pp [(V.sl (List.map cI ((nth (o.tr) (k)).ni))), (V.sl (List.map cI ((nth (o.tr) (k)).no)))])) rfl ?_
                  refine R_load_pp (v := (V.sl (List.map cI ((nth (o.tr) (k)).ni)))) (@rfl V (V.pp [(V.sl (List.map cI ((nth (o.tr) (k)).ni))), (V.sl (List.map cI ((nth (o.tr) (k)).no)))])) (by first | rfl | simp [ldV]) ?_
                  refine R_len (@rfl V (V.sl (List.map cI ((nth (o.tr) (k)).ni)))) ?_
                  refine R_gtr (x := ((((nth (o.tr) (k)).ni).length : Nat) : Int)) (y := (100 : Int)) (@rfl V (iV ((((nth (o.tr) (k)).ni).length : Nat) : Int))) (@rfl V (iV (100 : Int))) ?_
                  refine R_mv (@rfl V (V.bool (decide ((100 : Int) < ((((nth (o.tr) (k)).ni).length : Nat) : Int))))) ?_
                  refine Ops_seg 9 (fun T H => T 1 = (V.mp 1 1 0 0) ∧ T 3 = (iV ((k : Nat) : Int)) ∧ T 32 = (V.bool (decide (((100 : Int) < ((((nth (o.tr) (k)).ni).length : Nat) : Int)) ∨ ((100 : Int) < ((((nth (o.tr) (k)).no).length : Nat) : Int))))) ∧ H 1 = (⟨1, true, false, 34, 2, [[(iV (o.i)), (V.sl (List.map cT (o.tr)))]]⟩ : Blk) ∧ True) ?_ ?_
                  · by_cases g6 : (100 : Int) < ((((nth (o.tr) (k)).ni).length : Nat) : Int)
                    ·
                      refine G_no (Eq.trans (@rfl V (V.bool (decide ((100 : Int) < ((((nth (o.tr) (k)).ni).length : Nat) : Int))))) (bdT g6)) (by decide) ?_
                      refine G_no (Eq.trans (@rfl V (V.bool (decide ((100 : Int) < ((((nth (o.tr) (k)).ni).length : Nat) : Int))))) (bdT g6)) (by decide) ?_
                      refine G_no (Eq.trans (@rfl V (V.bool (decide ((100 : Int) < ((((nth (o.tr) (k)).ni).length : Nat) : Int))))) (bdT g6)) (by decide) ?_
                      refine G_no (Eq.trans (@rfl V (V.bool (decide ((100 : Int) < ((((nth (o.tr) (k)).ni).length : Nat) : Int))))) (bdT g6)) (by decide) ?_
                      refine G_no (Eq.trans (@rfl V (V.bool (decide ((100 : Int) < ((((nth (o.tr) (k)).ni).length : Nat) : Int))))) (bdT g6)) (by decide) ?_
                      refine G_no (Eq.trans (@rfl V (V.bool (decide ((100 : Int) < ((((nth (o.tr) (k)).ni).length : Nat) : Int))))) (bdT g6)) (by decide) ?_
                      refine G_no (Eq.trans (@rfl V (V.bool (decide ((100 : Int) < ((((nth (o.tr) (k)).ni).length : Nat) : Int))))) (bdT g6)) (by decide) ?_
                      refine G_no (Eq.trans (@rfl V (V.bool (decide ((100 : Int) < ((((nth (o.tr) (k)).ni).length : Nat) : Int))))) (bdT g6)) (by decide) ?_
                      refine R_pickT (Eq.trans (@rfl V (V.bool (decide ((100 : Int) < ((((nth (o.tr) (k)).ni).length : Nat) : Int))))) (bdT g6)) (@rfl V (V.bool true)) ?_
                      exact ⟨t1, t3, (Eq.trans (@rfl V (V.bool true)) (dec_orT g6)), h1, trivial⟩
                    ·
                      refine G_yes (Eq.trans (@rfl V (V.bool (decide ((100 : Int) < ((((nth (o.tr) (k)).ni).length : Nat) : Int))))) (bdF g6)) ?_
                      refine R_fld_mp (o' := 1) t1 h1 (by first | rfl | simp [okB, Blk.own]) rfl ?_
                      refine G_yes (Eq.trans (@rfl V (V.bool (decide ((100 : Int) < ((((nth (o.tr) (k)).ni).length : Nat) : Int))))) (bdF g6)) ?_
                      refine R_load_mp (v := (V.sl (List.map cT (o.tr)))) (@rfl V (V.mp 1 1 0 1)) h1 (by first | rfl | simp [ldB, ldV, Blk.own, V.one]) ?_
                      refine G_yes (Eq.trans (@rfl V (V.bool (decide ((100 : Int) < ((((nth (o.tr) (k)).ni).length : Nat) : Int))))) (bdF g6)) ?_
                      refine R_mv t3 ?_
                      refine G_yes (Eq.trans (@rfl V (V.bool (decide ((100 : Int) < ((((nth (o.tr) (k)).ni).length : Nat) : Int))))) (bdF g6)) ?_
                      refine R_idx (i := k) (@rfl V (V.sl (List.map cT (o.tr)))) (@rfl V (iV ((k : Nat) : Int))) (by omega) rfl ?_
                      refine G_yes (Eq.trans (@rfl V (V.bool (decide ((100 : Int) < ((((nth (o.tr) (k)).ni).length : Nat) : Int))))) (bdF g6)) ?_
                      refine R_fld_pp (cs' := [(V.sl (List.map cI ((nth (o.tr) (k)).no)))]) (@rfl V (V.pp [(V.sl (List.map cI ((nth (o.tr) (k)).ni))), (V.sl (List.map cI ((nth (o.tr) (k)).no)))])) rfl ?_
                      refine G_yes (Eq.trans (@rfl V (V.bool (decide ((100 : Int) < ((((nth (o.tr) (k)).ni).length : Nat) : Int))))) (bdF g6)) ?_
                      refine R_load_pp (v := (V.sl (List.map cI ((nth (o.tr) (k)).no)))) (@rfl V (V.pp [(V.sl (List.map cI ((nth (o.tr) (k)).no)))])) (by first | rfl | simp [ldV]) ?_
                      refine G_yes (Eq.trans (@rfl V (V.bool (decide ((100 : Int) < ((((nth (o.tr) (k)).ni).length : Nat) : Int))))) (bdF g6)) ?_
                      refine R_len (@rfl V (V.sl (List.map cI ((nth (o.tr) (k)).no)))) ?_
                      refine G_yes (Eq.trans (@rfl V (V.bool (decide ((100 : Int) < ((((nth (o.tr) (k)).ni).length : Nat) : Int))))) (bdF g6)) ?_
                      refine R_gtr (x := ((((nth (o.tr) (k)).no).length : Nat) : Int)) (y := (100 : Int)) (@rfl V (iV ((((nth (o.tr) (k)).no).length : Nat) : Int))) (@rfl V (iV (100 : Int))) ?_
                      refine R_pickF (Eq.trans (@rfl V (V.bool (decide ((100 : Int) < ((((nth (o.tr) (k)).ni).length : Nat) : Int))))) (bdF g6)) (@rfl V (V.bool (decide ((100 : Int) < ((((nth (o.tr) (k)).no).length : Nat) : Int))))) ?_
                      exact ⟨t1, t3, (Eq.trans (@rfl V (V.bool (decide ((100 : Int) < ((((nth (o.tr) (k)).no).length : Nat) : Int))))) (dec_orF g6)), h1, trivial⟩
                  · intro T H ⟨t1, t3, t32, h1, _⟩
                    exact R_nil ⟨t1, t3, t32, h1, trivial⟩
                · intro T H ⟨t1, t3, t32, h1, _⟩
                  refine W_if (p := ((100 : Int) < ((((nth (o.tr) (k)).ni).length : Nat) : Int)) ∨ ((100 : Int) < ((((nth (o.tr) (k)).no).length : Nat) : Int))) t32 (fun c7 => ?_) (fun c7 => ?_)
                  ·
                    refine W_seq_regc (fun T H => T 2 = (V.bool true) ∧ H 1 = (⟨1, true, false, 34, 2, [[(iV (o.i)), (V.sl (List.map cT (o.tr)))]]⟩ : Blk) ∧ True) ?_ ?_
                    · unfold r19_7
                      refine R_mv (@rfl V (V.bool true)) ?_
                      exact R_nil ⟨rfl, h1, trivial⟩
                    · intro T H ⟨t2, h1, _⟩
                      refine W_ret ?_
                      refine y5 _ _ ?_
                      refine p23 _ _ ?_
                      refine y2 _ _ ?_
                      refine Ret_1 t2 (fz_bool ?_)
                      · exact (decide_eq_true (show ogr o from Or.inr (by rw [hc, fe_hit (by unfold lngE; split <;> omega) (by omega)]; unfold lngE; split <;> omega))).symm
                  ·
                    refine W_skip ?_
                    refine n5 _ _ ?_
                    refine .done ?_
                    refine W_regc (fun T H => T 1 = (V.mp 1 1 0 0) ∧ T 3 = (iV ((k + 1 : Nat) : Int)) ∧ H 1 = (⟨1, true, false, 34, 2, [[(iV (o.i)), (V.sl (List.map cT (o.tr)))]]⟩ : Blk) ∧ True) ?_ ?_
                    · unfold r19_5
                      refine R_mv t3 ?_
                      refine R_addN (m := k) (n := 1) (@rfl V (iV ((k : Nat) : Int))) (@rfl V (iV ((1 : Nat) : Int))) (by omega) ?_
                      refine R_mv (@rfl V (iV ((k + 1 : Nat) : Int))) ?_
                      exact R_nil ⟨t1, rfl, h1, trivial⟩
                    · intro T H ⟨t1, t3, h1, _⟩
                      refine p13 _ _ _ ?_ ⟨(k + 1), rfl, t1, (Eq.trans t3 (by first | rfl | simp)), h1, ?_, ?_, ?_⟩
                      · omega
                      · omega
                      · omega
                      · rw [hc, fe_skip (by unfold lngE; split <;> omega) (by omega)]
              ·
                refine W_seq_exit ?_
                refine p33 _ _ _ ?_
                refine x2 _ _ ?_
                refine .done ?_
                refine W_seq_regc (fun T H => T 2 = (V.bool false) ∧ H 1 = (⟨1, true, false, 34, 2, [[(iV (o.i)), (V.sl (List.map cT (o.tr)))]]⟩ : Blk) ∧ True) ?_ ?_
                · unfold r19_8
                  refine R_mv (@rfl V (V.bool false)) ?_
                  exact R_nil ⟨rfl, h1, trivial⟩
                · intro T H ⟨t2, h1, _⟩
                  refine W_ret ?_
                  refine Ret_1 t2 (fz_bool ?_)
                  · exact (decide_eq_false (show ¬ogr o by unfold ogr; rw [hc, fe_end (by omega)]; omega)).symm

end Go.Proofs.Ytngkckefanbhgaa

namespace Go.Proofs.Ytngkckefanbhgaa
open Go Go.Proofs

theorem rproper_pure (t : Tr) (n : Int) : PureC Try.prog 60 [(V.agg [(V.sl (List.map cI (t.ni))), (V.sl (List.map cI (t.no)))]), (iV (n))] (iV (prE t n)) := by
  refine pure_of_Wb true 6 Try.func60 s60_ok (by kernel_rfl) (by simp [s60]) (by simp) (by simp) fun hB => ?_
  simp only [bnd_map, bnd_int, bnd_bool, bnd_str, bnd_agg, bnd_pp, bnd_nil, bnd_cons, implies_true, and_true, true_and] at hB
  unfold s60
  dsimp only
  refine W_seq_regc (fun T H => T 1 = (iV (n)) ∧ T 2 = (V.mp 2 1 0 0) ∧ H 2 = (⟨1, true, false, 63, 2, [[(V.sl (List.map cI (t.ni))), (V.sl (List.map cI (t.no)))]]⟩ : Blk) ∧ True) ?_ ?_
  · unfold r60_0
    refine R_box (i := 2) (n := 0) (m := 2) (cs := [(V.sl (List.map cI (t.ni))), (V.sl (List.map cI (t.no)))]) rfl (congrArg Blk.ver rfl) (@rfl V (V.agg [(V.sl (List.map cI (t.ni))), (V.sl (List.map cI (t.no)))])) rfl rfl ?_
    refine R_mv (@rfl V (iV (0 : Int))) ?_
    exact R_nil ⟨rfl, rfl, rfl, trivial⟩
  · intro T H ⟨t1, t2, h2, _⟩
    refine W_seq_seq ?_
    refine W_seq_regc (fun T H => T 2 = (V.mp 2 1 0 0) ∧ T 5 = (iV (wchk t.ni ((n)))) ∧ H 2 = (⟨1, true, false, 63, 2, [[(V.sl (List.map cI (t.ni))), (V.sl (List.map cI (t.no)))]]⟩ : Blk) ∧ True) ?_ ?_
    · unfold r60_1
      refine R_fld_mp (o' := 0) t2 h2 (by first | rfl | simp [okB, Blk.own]) rfl ?_
      refine R_load_mp (v := (V.sl (List.map cI (t.ni)))) (@rfl V (V.mp 2 1 0 0)) h2 (by first | rfl | simp [ldB, ldV, Blk.own, V.one]) ?_
      refine R_mv t1 ?_
      refine R_call (evcons (@rfl V (V.sl (List.map cI (t.ni)))) (evcons (@rfl V (iV (n))) evnil)) (rcheck_pure t.ni ((n))) (fzv_mapcanon _ _ (by simp [-List.map_take, -List.map_drop, -List.map_append, -List.map_reverse])) (by simp [-List.map_take, -List.map_drop, -List.map_append, -List.map_reverse]) (Or.inl (by simp [-List.map_take, -List.map_drop, -List.map_append, -List.map_reverse])) ?_
      refine R_mv (@rfl V (iV (wchk t.ni ((n))))) ?_
      exact R_nil ⟨t2, rfl, h2, trivial⟩
    · intro T H ⟨t2, t5, h2, _⟩
      refine W_seq_seq ?_
      refine W_seq_regc (fun T H => T 2 = (V.mp 2 1 0 0) ∧ T 5 = (iV (wchk t.ni ((n)))) ∧ T 12 = (V.bool (decide ((wchk t.ni ((n))) ≠ (0 : Int)))) ∧ H 2 = (⟨1, true, false, 63, 2, [[(V.sl (List.map cI (t.ni))), (V.sl (List.map cI (t.no)))]]⟩ : Blk) ∧ True) ?_ ?_
      · unfold r60_2
        refine R_mv t5 ?_
        refine R_neq (x := (wchk t.ni ((n)))) (y := (0 : Int)) (@rfl V (iV (wchk t.ni ((n))))) (@rfl V (iV (0 : Int))) ?_
        exact R_nil ⟨t2, t5, rfl, h2, trivial⟩
      · intro T H ⟨t2, t5, t12, h2, _⟩
        refine W_seq_if (p := (wchk t.ni ((n))) ≠ (0 : Int)) t12 (fun c1 => ?_) (fun c1 => ?_)
        ·
          refine W_seq_seq ?_
          refine W_seq_regc (fun T H => T 4 = (iV (wchk t.ni ((n)))) ∧ H 2 = (⟨1, true, false, 63, 2, [[(V.sl (List.map cI (t.ni))), (V.sl (List.map cI (t.no)))]]⟩ : Blk) ∧ True) ?_ ?_
          · unfold r60_3
            refine R_mv t5 ?_
            refine R_mv (@rfl V (iV (wchk t.ni ((n))))) ?_
            exact R_nil ⟨rfl, h2, trivial⟩
          · intro T H ⟨t4, h2, _⟩
            refine W_seq_ret ?_
            refine Ret_1 t4 (fz_int ?_)
            · rw [prE, if_pos (by omega)]
        ·
          refine W_seq_skip ?_
          refine W_seq_seq ?_
          refine W_seq_regc (fun T H => T 2 = (V.mp 2 1 0 0) ∧ T 20 = (V.bool (decide (((t.no.length : Nat) : Int) ≠ ((t.ni.length : Nat) : Int)))) ∧ H 2 = (⟨1, true, false, 63, 2, [[(V.sl (List.map cI (t.ni))), (V.sl (List.map cI (t.no)))]]⟩ : Blk) ∧ True) ?_ ?_
          · unfold r60_4
            refine R_fld_mp (o' := 1) t2 h2 (by first | rfl | simp [okB, Blk.own]) rfl ?_
            refine R_load_mp (v := (V.sl (List.map cI (t.no)))) (@rfl V (V.mp 2 1 0 1)) h2 (by first | rfl | simp [ldB, ldV, Blk.own, V.one]) ?_
            refine R_len (@rfl V (V.sl (List.map cI (t.no)))) ?_
            refine R_fld_mp (o' := 0) t2 h2 (by first | rfl | simp [okB, Blk.own]) rfl ?_
            refine R_load_mp (v := (V.sl (List.map cI (t.ni)))) (@rfl V (V.mp 2 1 0 0)) h2 (by first | rfl | simp [ldB, ldV, Blk.own, V.one]) ?_
            refine R_len (@rfl V (V.sl (List.map cI (t.ni)))) ?_
            refine R_neq (x := ((t.no.length : Nat) : Int)) (y := ((t.ni.length : Nat) : Int)) (@rfl V (iV ((t.no.length : Nat) : Int))) (@rfl V (iV ((t.ni.length : Nat) : Int))) ?_
            exact R_nil ⟨t2, rfl, h2, trivial⟩
          · intro T H ⟨t2, t20, h2, _⟩
            refine W_seq_if (p := ((t.no.length : Nat) : Int) ≠ ((t.ni.length : Nat) : Int)) t20 (fun c2 => ?_) (fun c2 => ?_)
            ·
              refine W_seq_seq ?_
              refine W_seq_regc (fun T H => T 4 = (iV (1 : Int)) ∧ H 2 = (⟨1, true, false, 63, 2, [[(V.sl (List.map cI (t.ni))), (V.sl (List.map cI (t.no)))]]⟩ : Blk) ∧ True) ?_ ?_
              · unfold r60_5
                refine R_mv (@rfl V (iV (1 : Int))) ?_
                exact R_nil ⟨rfl, h2, trivial⟩
              · intro T H ⟨t4, h2, _⟩
                refine W_seq_ret ?_
                refine Ret_1 t4 (fz_int ?_)
                · rw [prE, if_neg (by omega), if_pos (by omega)]
            ·
              refine W_seq_skip ?_
              refine W_seq_seq ?_
              refine W_seq_regc (fun T H => T 2 = (V.mp 2 1 0 0) ∧ T 6 = (iV (0 : Int)) ∧ H 2 = (⟨1, true, false, 63, 2, [[(V.sl (List.map cI (t.ni))), (V.sl (List.map cI (t.no)))]]⟩ : Blk) ∧ True) ?_ ?_
              · unfold r60_6
                refine R_mv (@rfl V (iV (0 : Int))) ?_
                exact R_nil ⟨t2, rfl, h2, trivial⟩
              · intro T H ⟨t2, t6, h2, _⟩
                refine W_seq_blockg fun Q3 n3 x3 y3 z3 => ?_
                refine W_loop (fun mm T H => ∃ (k : Nat), mm = t.no.length - k ∧ T 2 = (V.mp 2 1 0 0) ∧ T 6 = (iV ((k : Nat) : Int)) ∧ H 2 = (⟨1, true, false, 63, 2, [[(V.sl (List.map cI (t.ni))), (V.sl (List.map cI (t.no)))]]⟩ : Blk) ∧ (k ≤ t.no.length) ∧ (prE t n = fe (outE t) k (t.no.length - k))) ?_ ?_
                · refine ⟨_, 0, rfl, t2, (Eq.trans t6 (by first | rfl | simp)), h2, ?_, ?_⟩
                  · omega
                  · rw [prE, if_neg (by omega), if_neg (by omega)]; rfl
                · intro mm T H ⟨k, hmm, t2, t6, h2, hk, hc⟩ Q4 p14 p24 p34
                  unfold b60_0
                  refine W_seq_seq ?_
                  refine W_seq_regc (fun T H => T 2 = (V.mp 2 1 0 0) ∧ T 6 = (iV ((k : Nat) : Int)) ∧ T 25 = (V.bool (decide (((k : Nat) : Int) < ((t.no.length : Nat) : Int)))) ∧ H 2 = (⟨1, true, false, 63, 2, [[(V.sl (List.map cI (t.ni))), (V.sl (List.map cI (t.no)))]]⟩ : Blk) ∧ True) ?_ ?_
                  · unfold r60_7
                    refine R_mv t6 ?_
                    refine R_fld_mp (o' := 1) t2 h2 (by first | rfl | simp [okB, Blk.own]) rfl ?_
                    refine R_load_mp (v := (V.sl (List.map cI (t.no)))) (@rfl V (V.mp 2 1 0 1)) h2 (by first | rfl | simp [ldB, ldV, Blk.own, V.one]) ?_
                    refine R_len (@rfl V (V.sl (List.map cI (t.no)))) ?_
                    refine R_lss (x := ((k : Nat) : Int)) (y := ((t.no.length : Nat) : Int)) (@rfl V (iV ((k : Nat) : Int))) (@rfl V (iV ((t.no.length : Nat) : Int))) ?_
                    exact R_nil ⟨t2, t6, rfl, h2, trivial⟩
                  · intro T H ⟨t2, t6, t25, h2, _⟩
                    refine W_seq_if (p := ((k : Nat) : Int) < ((t.no.length : Nat) : Int)) t25 (fun c5 => ?_) (fun c5 => ?_)
                    ·
                      refine W_seq_skip ?_
                      refine W_seq_blockg fun Q6 n6 x6 y6 z6 => ?_
                      refine W_seq_regc (fun T H => T 2 = (V.mp 2 1 0 0) ∧ T 6 = (iV ((k : Nat) : Int)) ∧ T 41 = (V.bool (decide ((((nth (t.no) (k))) < (0 : Int)) ∨ ((1048576 : Int) < ((nth (t.no) (k))))))) ∧ H 2 = (⟨1, true, false, 63, 2, [[(V.sl (List.map cI (t.ni))), (V.sl (List.map cI (t.no)))]]⟩ : Blk) ∧ True) ?_ ?_
                      · unfold r60_9
                        refine R_fld_mp (o' := 1) t2 h2 (by first | rfl | simp [okB, Blk.own]) rfl ?_
                        refine R_load_mp (v := (V.sl (List.map cI (t.no)))) (@rfl V (V.mp 2 1 0 1)) h2 (by first | rfl | simp [ldB, ldV, Blk.own, V.one]) ?_
                        refine R_mv t6 ?_
                        refine R_idx (i := k) (@rfl V (V.sl (List.map cI (t.no)))) (@rfl V (iV ((k : Nat) : Int))) (by omega) rfl ?_
                        refine R_load_pp (v := (iV ((nth (t.no) (k))))) (@rfl V (V.pp [(iV ((nth (t.no) (k))))])) (by first | rfl | simp [ldV]) ?_
                        refine R_lss (x := ((nth (t.no) (k)))) (y := (0 : Int)) (@rfl V (iV ((nth (t.no) (k))))) (@rfl V (iV (0 : Int))) ?_
                        refine R_mv (@rfl V (V.bool (decide (((nth (t.no) (k))) < (0 : Int))))) ?_
                        refine Ops_seg 7 (fun T H => T 2 = (V.mp 2 1 0 0) ∧ T 6 = (iV ((k : Nat) : Int)) ∧ T 41 = (V.bool (decide ((((nth (t.no) (k))) < (0 : Int)) ∨ ((1048576 : Int) < ((nth (t.no) (k))))))) ∧ H 2 = (⟨1, true, false, 63, 2, [[(V.sl (List.map cI (t.ni))), (V.sl (List.map cI (t.no)))]]⟩ : Blk) ∧ True) ?_ ?_
                        · by_cases g7 : ((nth (t.no) (k))) < (0 : Int)
                          ·
                            refine G_no (Eq.trans (@rfl V (V.bool (decide (((nth (t.no) (k))) < (0 : Int))))) (bdT g7)) (by decide) ?_
                            refine G_no (Eq.trans (@rfl V (V.bool (decide (((nth (t.no) (k))) < (0 : Int))))) (bdT g7)) (by decide) ?_
                            refine G_no (Eq.trans (@rfl V (V.bool (decide (((nth (t.no) (k))) < (0 : Int))))) (bdT g7)) (by decide) ?_
                            refine G_no (Eq.trans (@rfl V (V.bool (decide (((nth (t.no) (k))) < (0 : Int))))) (bdT g7)) (by decide) ?_
                            refine G_no (Eq.trans (@rfl V (V.bool (decide (((nth (t.no) (k))) < (0 : Int))))) (bdT g7)) (by decide) ?_
                            refine G_no (Eq.trans (@rfl V (V.bool (decide (((nth (t.no) (k))) < (0 : Int))))) (bdT g7)) (by decide) ?_
                            refine R_pickT (Eq.trans (@rfl V (V.bool (decide (((nth (t.no) (k))) < (0 : Int))))) (bdT g7)) (@rfl V (V.bool true)) ?_
                            exact ⟨t2, t6, (Eq.trans (@rfl V (V.bool true)) (dec_orT g7)), h2, trivial⟩
                          ·
                            refine G_yes (Eq.trans (@rfl V (V.bool (decide (((nth (t.no) (k))) < (0 : Int))))) (bdF g7)) ?_
                            refine R_fld_mp (o' := 1) t2 h2 (by first | rfl | simp [okB, Blk.own]) rfl ?_
                            refine G_yes (Eq.trans (@rfl V (V.bool (decide (((nth (t.no) (k))) < (0 : Int))))) (bdF g7)) ?_
                            refine R_load_mp (v := (V.sl (List.map cI (t.no)))) (@rfl V (V.mp 2 1 0 1)) h2 (by first | rfl | simp [ldB, ldV, Blk.own, V.one]) ?_
                            refine G_yes (Eq.trans (@rfl V (V.bool (decide (((nth (t.no) (k))) < (0 : Int))))) (bdF g7)) ?_
                            refine R_mv t6 ?_
                            refine G_yes (Eq.trans (@rfl V (V.bool (decide (((nth (t.no) (k))) < (0 : Int))))) (bdF g7)) ?_
                            refine R_idx (i := k) (@rfl V (V.sl (List.map cI (t.no)))) (@rfl V (iV ((k : Nat) : Int))) (by omega) rfl ?_
                            refine G_yes (Eq.trans (@rfl V (V.bool (decide (((nth (t.no) (k))) < (0 : Int))))) (bdF g7)) ?_
                            refine R_load_pp (v := (iV ((nth (t.no) (k))))) (@rfl V (V.pp [(iV ((nth (t.no) (k))))])) (by first | rfl | simp [ldV]) ?_
                            refine G_yes (Eq.trans (@rfl V (V.bool (decide (((nth (t.no) (k))) < (0 : Int))))) (bdF g7)) ?_
                            refine R_gtr (x := ((nth (t.no) (k)))) (y := (1048576 : Int)) (@rfl V (iV ((nth (t.no) (k))))) (@rfl V (iV (1048576 : Int))) ?_
                            refine R_pickF (Eq.trans (@rfl V (V.bool (decide (((nth (t.no) (k))) < (0 : Int))))) (bdF g7)) (@rfl V (V.bool (decide ((1048576 : Int) < ((nth (t.no) (k))))))) ?_
                            exact ⟨t2, t6, (Eq.trans (@rfl V (V.bool (decide ((1048576 : Int) < ((nth (t.no) (k))))))) (dec_orF g7)), h2, trivial⟩
                        · intro T H ⟨t2, t6, t41, h2, _⟩
                          exact R_nil ⟨t2, t6, t41, h2, trivial⟩
                      · intro T H ⟨t2, t6, t41, h2, _⟩
                        refine W_if (p := (((nth (t.no) (k))) < (0 : Int)) ∨ ((1048576 : Int) < ((nth (t.no) (k))))) t41 (fun c8 => ?_) (fun c8 => ?_)
                        ·
                          refine W_seq_regc (fun T H => T 4 = (iV (2 : Int)) ∧ H 2 = (⟨1, true, false, 63, 2, [[(V.sl (List.map cI (t.ni))), (V.sl (List.map cI (t.no)))]]⟩ : Blk) ∧ True) ?_ ?_
                          · unfold r60_10
                            refine R_mv (@rfl V (iV (2 : Int))) ?_
                            exact R_nil ⟨rfl, h2, trivial⟩
                          · intro T H ⟨t4, h2, _⟩
                            refine W_ret ?_
                            refine y6 _ _ ?_
                            refine p24 _ _ ?_
                            refine y3 _ _ ?_
                            refine Ret_1 t4 (fz_int ?_)
                            · rw [hc, fe_hit (by unfold outE; split <;> omega) (by omega)]; unfold outE; split <;> omega
                        ·
                          refine W_skip ?_
                          refine n6 _ _ ?_
                          refine .done ?_
                          refine W_regc (fun T H => T 2 = (V.mp 2 1 0 0) ∧ T 6 = (iV ((k + 1 : Nat) : Int)) ∧ H 2 = (⟨1, true, false, 63, 2, [[(V.sl (List.map cI (t.ni))), (V.sl (List.map cI (t.no)))]]⟩ : Blk) ∧ True) ?_ ?_
                          · unfold r60_8
                            refine R_mv t6 ?_
                            refine R_addN (m := k) (n := 1) (@rfl V (iV ((k : Nat) : Int))) (@rfl V (iV ((1 : Nat) : Int))) (by omega) ?_
                            refine R_mv (@rfl V (iV ((k + 1 : Nat) : Int))) ?_
                            exact R_nil ⟨t2, rfl, h2, trivial⟩
                          · intro T H ⟨t2, t6, h2, _⟩
                            refine p14 _ _ _ ?_ ⟨(k + 1), rfl, t2, (Eq.trans t6 (by first | rfl | simp)), h2, ?_, ?_⟩
                            · omega
                            · omega
                            · rw [hc, fe_skip (by unfold outE; split <;> omega) (by omega)]
                    ·
                      refine W_seq_exit ?_
                      refine p34 _ _ _ ?_
                      refine x3 _ _ ?_
                      refine .done ?_
                      refine W_seq_regc (fun T H => T 4 = (iV (0 : Int)) ∧ H 2 = (⟨1, true, false, 63, 2, [[(V.sl (List.map cI (t.ni))), (V.sl (List.map cI (t.no)))]]⟩ : Blk) ∧ True) ?_ ?_
                      · unfold r60_11
                        refine R_mv (@rfl V (iV (0 : Int))) ?_
                        exact R_nil ⟨rfl, h2, trivial⟩
                      · intro T H ⟨t4, h2, _⟩
                        refine W_ret ?_
                        refine Ret_1 t4 (fz_int ?_)
                        · rw [hc, fe_end (by omega)]

end Go.Proofs.Ytngkckefanbhgaa

namespace Go.Proofs.Ytngkckefanbhgaa
open Go Go.Proofs

theorem rcommon_pure (a b : List Int) : PureC Try.prog 67 [(V.sl (List.map cI (a))), (V.sl (List.map cI (b)))] (iV ((cmn a b : Nat) : Int)) := by
  refine pure_of_Wb true 6 Try.func67 s67_ok (by kernel_rfl) (by simp [s67]) (by simp) (by simp) fun hB => ?_
  simp only [bnd_map, bnd_int, bnd_bool, bnd_str, bnd_agg, bnd_pp, bnd_nil, bnd_cons, implies_true, and_true, true_and] at hB
  unfold s67
  dsimp only
  refine W_seq_regc (fun T H => T 0 = (V.sl (List.map cI (a))) ∧ T 1 = (V.sl (List.map cI (b))) ∧ True) ?_ ?_
  · unfold r67_0
    refine R_mv (@rfl V (iV (0 : Int))) ?_
    exact R_nil ⟨rfl, rfl, trivial⟩
  · intro T H ⟨t0, t1, _⟩
    refine W_seq_regc (fun T H => T 0 = (V.sl (List.map cI (a))) ∧ T 1 = (V.sl (List.map cI (b))) ∧ T 5 = (iV (0 : Int)) ∧ True) ?_ ?_
    · unfold r67_1
      refine R_mv (@rfl V (iV (0 : Int))) ?_
      exact R_nil ⟨t0, t1, rfl, trivial⟩
    · intro T H ⟨t0, t1, t5, _⟩
      refine W_seq_blockg fun Q1 n1 x1 y1 z1 => ?_
      refine W_loop (fun mm T H => ∃ (k : Nat), mm = a.length - k ∧ T 0 = (V.sl (List.map cI (a))) ∧ T 1 = (V.sl (List.map cI (b))) ∧ T 5 = (iV ((k : Nat) : Int)) ∧ (k ≤ a.length) ∧ (k ≤ cmn a b)) ?_ ?_
      · refine ⟨_, 0, rfl, t0, t1, (Eq.trans t5 (by first | rfl | simp)), ?_, ?_⟩
        · omega
        · exact Nat.zero_le _
      · intro mm T H ⟨k, hmm, t0, t1, t5, hk, hc⟩ Q2 p12 p22 p32
        unfold b67_0
        refine W_seq_seq ?_
        refine W_seq_regc (fun T H => T 0 = (V.sl (List.map cI (a))) ∧ T 1 = (V.sl (List.map cI (b))) ∧ T 5 = (iV ((k : Nat) : Int)) ∧ T 26 = (V.bool (decide (((((k : Nat) : Int) < ((a.length : Nat) : Int)) ∧ (((k : Nat) : Int) < ((b.length : Nat) : Int))) ∧ (((nth (a) (k))) = ((nth (b) (k))))))) ∧ True) ?_ ?_
        · unfold r67_2
          refine R_mv t5 ?_
          refine R_mv t0 ?_
          refine R_len (@rfl V (V.sl (List.map cI (a)))) ?_
          refine R_lss (x := ((k : Nat) : Int)) (y := ((a.length : Nat) : Int)) (@rfl V (iV ((k : Nat) : Int))) (@rfl V (iV ((a.length : Nat) : Int))) ?_
          refine R_mv (@rfl V (V.bool (decide (((k : Nat) : Int) < ((a.length : Nat) : Int))))) ?_
          refine Ops_seg 5 (fun T H => T 0 = (V.sl (List.map cI (a))) ∧ T 1 = (V.sl (List.map cI (b))) ∧ T 5 = (iV ((k : Nat) : Int)) ∧ T 15 = (V.bool (decide ((((k : Nat) : Int) < ((a.length : Nat) : Int)) ∧ (((k : Nat) : Int) < ((b.length : Nat) : Int))))) ∧ True) ?_ ?_
          · by_cases g3 : ((k : Nat) : Int) < ((a.length : Nat) : Int)
            ·
              refine G_yes (Eq.trans (@rfl V (V.bool (decide (((k : Nat) : Int) < ((a.length : Nat) : Int))))) (bdT g3)) ?_
              refine R_mv t5 ?_
              refine G_yes (Eq.trans (@rfl V (V.bool (decide (((k : Nat) : Int) < ((a.length : Nat) : Int))))) (bdT g3)) ?_
              refine R_mv t1 ?_
              refine G_yes (Eq.trans (@rfl V (V.bool (decide (((k : Nat) : Int) < ((a.length : Nat) : Int))))) (bdT g3)) ?_
              refine R_len (@rfl V (V.sl (List.map cI (b)))) ?_
              refine G_yes (Eq.trans (@rfl V (V.bool (decide (((k : Nat) : Int) < ((a.length : Nat) : Int))))) (bdT g3)) ?_
              refine R_lss (x := ((k : Nat) : Int)) (y := ((b.length : Nat) : Int)) (@rfl V (iV ((k : Nat) : Int))) (@rfl V (iV ((b.length : Nat) : Int))) ?_
              refine R_pickT (Eq.trans (@rfl V (V.bool (decide (((k : Nat) : Int) < ((a.length : Nat) : Int))))) (bdT g3)) (@rfl V (V.bool (decide (((k : Nat) : Int) < ((b.length : Nat) : Int))))) ?_
              exact ⟨t0, t1, t5, (Eq.trans (@rfl V (V.bool (decide (((k : Nat) : Int) < ((b.length : Nat) : Int))))) (dec_andT g3)), trivial⟩
            ·
              refine G_no (Eq.trans (@rfl V (V.bool (decide (((k : Nat) : Int) < ((a.length : Nat) : Int))))) (bdF g3)) (by decide) ?_
              refine G_no (Eq.trans (@rfl V (V.bool (decide (((k : Nat) : Int) < ((a.length : Nat) : Int))))) (bdF g3)) (by decide) ?_
              refine G_no (Eq.trans (@rfl V (V.bool (decide (((k : Nat) : Int) < ((a.length : Nat) : Int))))) (bdF g3)) (by decide) ?_
              refine G_no (Eq.trans (@rfl V (V.bool (decide (((k : Nat) : Int) < ((a.length : Nat) : Int))))) (bdF g3)) (by decide) ?_
              refine R_pickF (Eq.trans (@rfl V (V.bool (decide (((k : Nat) : Int) < ((a.length : Nat) : Int))))) (bdF g3)) (@rfl V (V.bool false)) ?_
              exact ⟨t0, t1, t5, (Eq.trans (@rfl V (V.bool false)) (dec_andF g3)), trivial⟩
          · intro T H ⟨t0, t1, t5, t15, _⟩
            refine R_mv t15 ?_
            refine Ops_seg 10 (fun T H => T 0 = (V.sl (List.map cI (a))) ∧ T 1 = (V.sl (List.map cI (b))) ∧ T 5 = (iV ((k : Nat) : Int)) ∧ T 26 = (V.bool (decide (((((k : Nat) : Int) < ((a.length : Nat) : Int)) ∧ (((k : Nat) : Int) < ((b.length : Nat) : Int))) ∧ (((nth (a) (k))) = ((nth (b) (k))))))) ∧ True) ?_ ?_
            · by_cases g4 : (((k : Nat) : Int) < ((a.length : Nat) : Int)) ∧ (((k : Nat) : Int) < ((b.length : Nat) : Int))
              ·
                refine G_yes (Eq.trans (@rfl V (V.bool (decide ((((k : Nat) : Int) < ((a.length : Nat) : Int)) ∧ (((k : Nat) : Int) < ((b.length : Nat) : Int)))))) (bdT g4)) ?_
                refine R_mv t0 ?_
                refine G_yes (Eq.trans (@rfl V (V.bool (decide ((((k : Nat) : Int) < ((a.length : Nat) : Int)) ∧ (((k : Nat) : Int) < ((b.length : Nat) : Int)))))) (bdT g4)) ?_
                refine R_mv t5 ?_
                refine G_yes (Eq.trans (@rfl V (V.bool (decide ((((k : Nat) : Int) < ((a.length : Nat) : Int)) ∧ (((k : Nat) : Int) < ((b.length : Nat) : Int)))))) (bdT g4)) ?_
                refine R_idx (i := k) (@rfl V (V.sl (List.map cI (a)))) (@rfl V (iV ((k : Nat) : Int))) (by omega) rfl ?_
                refine G_yes (Eq.trans (@rfl V (V.bool (decide ((((k : Nat) : Int) < ((a.length : Nat) : Int)) ∧ (((k : Nat) : Int) < ((b.length : Nat) : Int)))))) (bdT g4)) ?_
                refine R_load_pp (v := (iV ((nth (a) (k))))) (@rfl V (V.pp [(iV ((nth (a) (k))))])) (by first | rfl | simp [ldV]) ?_
                refine G_yes (Eq.trans (@rfl V (V.bool (decide ((((k : Nat) : Int) < ((a.length : Nat) : Int)) ∧ (((k : Nat) : Int) < ((b.length : Nat) : Int)))))) (bdT g4)) ?_
                refine R_mv t1 ?_
                refine G_yes (Eq.trans (@rfl V (V.bool (decide ((((k : Nat) : Int) < ((a.length : Nat) : Int)) ∧ (((k : Nat) : Int) < ((b.length : Nat) : Int)))))) (bdT g4)) ?_
                refine R_mv t5 ?_
                refine G_yes (Eq.trans (@rfl V (V.bool (decide ((((k : Nat) : Int) < ((a.length : Nat) : Int)) ∧ (((k : Nat) : Int) < ((b.length : Nat) : Int)))))) (bdT g4)) ?_
                refine R_idx (i := k) (@rfl V (V.sl (List.map cI (b)))) (@rfl V (iV ((k : Nat) : Int))) (by omega) rfl ?_
                refine G_yes (Eq.trans (@rfl V (V.bool (decide ((((k : Nat) : Int) < ((a.length : Nat) : Int)) ∧ (((k : Nat) : Int) < ((b.length : Nat) : Int)))))) (bdT g4)) ?_
                refine R_load_pp (v := (iV ((nth (b) (k))))) (@rfl V (V.pp [(iV ((nth (b) (k))))])) (by first | rfl | simp [ldV]) ?_
                refine G_yes (Eq.trans (@rfl V (V.bool (decide ((((k : Nat) : Int) < ((a.length : Nat) : Int)) ∧ (((k : Nat) : Int) < ((b.length : Nat) : Int)))))) (bdT g4)) ?_
                refine R_eql (x := ((nth (a) (k)))) (y := ((nth (b) (k)))) (@rfl V (iV ((nth (a) (k))))) (@rfl V (iV ((nth (b) (k))))) ?_
                refine R_pickT (Eq.trans (@rfl V (V.bool (decide ((((k : Nat) : Int) < ((a.length : Nat) : Int)) ∧ (((k : Nat) : Int) < ((b.length : Nat) : Int)))))) (bdT g4)) (@rfl V (V.bool (decide (((nth (a) (k))) = ((nth (b) (k))))))) ?_
                exact ⟨t0, t1, t5, (Eq.trans (@rfl V (V.bool (decide (((nth (a) (k))) = ((nth (b) (k))))))) (dec_andT g4)), trivial⟩
              ·
                refine G_no (Eq.trans (@rfl V (V.bool (decide ((((k : Nat) : Int) < ((a.length : Nat) : Int)) ∧ (((k : Nat) : Int) < ((b.length : Nat) : Int)))))) (bdF g4)) (by decide) ?_
                refine G_no (Eq.trans (@rfl V (V.bool (decide ((((k : Nat) : Int) < ((a.length : Nat) : Int)) ∧ (((k : Nat) : Int) < ((b.length : Nat) : Int)))))) (bdF g4)) (by decide) ?_
                refine G_no (Eq.trans (@rfl V (V.bool (decide ((((k : Nat) : Int) < ((a.length : Nat) : Int)) ∧ (((k : Nat) : Int) < ((b.length : Nat) : Int)))))) (bdF g4)) (by decide) ?_
                refine G_no (Eq.trans (@rfl V (V.bool (decide ((((k : Nat) : Int) < ((a.length : Nat) : Int)) ∧ (((k : Nat) : Int) < ((b.length : Nat) : Int)))))) (bdF g4)) (by decide) ?_
                refine G_no (Eq.trans (@rfl V (V.bool (decide ((((k : Nat) : Int) < ((a.length : Nat) : Int)) ∧ (((k : Nat) : Int) < ((b.length : Nat) : Int)))))) (bdF g4)) (by decide) ?_
                refine G_no (Eq.trans (@rfl V (V.bool (decide ((((k : Nat) : Int) < ((a.length : Nat) : Int)) ∧ (((k : Nat) : Int) < ((b.length : Nat) : Int)))))) (bdF g4)) (by decide) ?_
                refine G_no (Eq.trans (@rfl V (V.bool (decide ((((k : Nat) : Int) < ((a.length : Nat) : Int)) ∧ (((k : Nat) : Int) < ((b.length : Nat) : Int)))))) (bdF g4)) (by decide) ?_
                refine G_no (Eq.trans (@rfl V (V.bool (decide ((((k : Nat) : Int) < ((a.length : Nat) : Int)) ∧ (((k : Nat) : Int) < ((b.length : Nat) : Int)))))) (bdF g4)) (by decide) ?_
                refine G_no (Eq.trans (@rfl V (V.bool (decide ((((k : Nat) : Int) < ((a.length : Nat) : Int)) ∧ (((k : Nat) : Int) < ((b.length : Nat) : Int)))))) (bdF g4)) (by decide) ?_
                refine R_pickF (Eq.trans (@rfl V (V.bool (decide ((((k : Nat) : Int) < ((a.length : Nat) : Int)) ∧ (((k : Nat) : Int) < ((b.length : Nat) : Int)))))) (bdF g4)) (@rfl V (V.bool false)) ?_
                exact ⟨t0, t1, t5, (Eq.trans (@rfl V (V.bool false)) (dec_andF g4)), trivial⟩
            · intro T H ⟨t0, t1, t5, t26, _⟩
              exact R_nil ⟨t0, t1, t5, t26, trivial⟩
        · intro T H ⟨t0, t1, t5, t26, _⟩
          refine W_seq_if (p := ((((k : Nat) : Int) < ((a.length : Nat) : Int)) ∧ (((k : Nat) : Int) < ((b.length : Nat) : Int))) ∧ (((nth (a) (k))) = ((nth (b) (k))))) t26 (fun c5 => ?_) (fun c5 => ?_)
          ·
            refine W_seq_skip ?_
            refine W_block fun Q6 n6 x6 y6 z6 => ?_
            refine W_regc (fun T H => T 0 = (V.sl (List.map cI (a))) ∧ T 1 = (V.sl (List.map cI (b))) ∧ T 5 = (iV ((k + 1 : Nat) : Int)) ∧ True) ?_ ?_
            · unfold r67_3
              refine R_mv t5 ?_
              refine R_addN (m := k) (n := 1) (@rfl V (iV ((k : Nat) : Int))) (@rfl V (iV ((1 : Nat) : Int))) (by omega) ?_
              refine R_mv (@rfl V (iV ((k + 1 : Nat) : Int))) ?_
              exact R_nil ⟨t0, t1, rfl, trivial⟩
            · intro T H ⟨t0, t1, t5, _⟩
              refine n6 _ _ ?_
              refine p12 _ _ _ ?_ ⟨(k + 1), rfl, t0, t1, (Eq.trans t5 (by first | rfl | simp)), ?_, ?_⟩
              · omega
              · omega
              · exact cmn_next hc (by omega) (by omega) (by omega)
          ·
            refine W_seq_exit ?_
            refine p32 _ _ _ ?_
            refine x1 _ _ ?_
            refine .done ?_
            refine W_seq_regc (fun T H => T 4 = (iV ((k : Nat) : Int)) ∧ True) ?_ ?_
            · unfold r67_4
              refine R_mv t5 ?_
              refine R_mv (@rfl V (iV ((k : Nat) : Int))) ?_
              exact R_nil ⟨rfl, trivial⟩
            · intro T H ⟨t4, _⟩
              refine W_ret ?_
              refine Ret_1 t4 (fz_int ?_)
              · rw [cmn_at hc (by omega)]

end Go.Proofs.Ytngkckefanbhgaa

namespace Go.Proofs.Ytngkckefanbhgaa
open Go Go.Proofs

theorem rlex_pure (a b : List Int) : PureC Try.prog 97 [(V.sl (List.map cI (a))), (V.sl (List.map cI (b)))] (iV (lexI a b)) := by
  refine pure_of_Wb true 6 Try.func97 s97_ok (by kernel_rfl) (by simp [s97]) (by simp) (by simp) fun hB => ?_
  simp only [bnd_map, bnd_int, bnd_bool, bnd_str, bnd_agg, bnd_pp, bnd_nil, bnd_cons, implies_true, and_true, true_and] at hB
  unfold s97
  dsimp only
  refine W_seq_regc (fun T H => T 0 = (V.sl (List.map cI (a))) ∧ T 1 = (V.sl (List.map cI (b))) ∧ True) ?_ ?_
  · unfold r97_0
    refine R_mv (@rfl V (iV (0 : Int))) ?_
    exact R_nil ⟨rfl, rfl, trivial⟩
  · intro T H ⟨t0, t1, _⟩
    refine W_seq_regc (fun T H => T 0 = (V.sl (List.map cI (a))) ∧ T 1 = (V.sl (List.map cI (b))) ∧ T 5 = (iV ((cmn a b : Nat) : Int)) ∧ True) ?_ ?_
    · unfold r97_1
      refine R_mv t0 ?_
      refine R_mv t1 ?_
      have q1 := cmn_l a b
      have q2 := cmn_r a b
      refine R_call (evcons (@rfl V (V.sl (List.map cI (a)))) (evcons (@rfl V (V.sl (List.map cI (b)))) evnil)) (rcommon_pure a b) (fzv_mapcanon _ _ (by simp [-List.map_take, -List.map_drop, -List.map_append, -List.map_reverse])) (by simp [-List.map_take, -List.map_drop, -List.map_append, -List.map_reverse]) (Or.inl (by simp [-List.map_take, -List.map_drop, -List.map_append, -List.map_reverse])) ?_
      refine R_mv (@rfl V (iV ((cmn a b : Nat) : Int))) ?_
      exact R_nil ⟨t0, t1, rfl, trivial⟩
    · intro T H ⟨t0, t1, t5, _⟩
      have q3 := cmn_l a b
      have q4 := cmn_r a b
      refine W_seq_blockg fun Q5 n5 x5 y5 z5 => ?_
      refine W_seq_regc (fun T H => T 0 = (V.sl (List.map cI (a))) ∧ T 1 = (V.sl (List.map cI (b))) ∧ T 5 = (iV ((cmn a b : Nat) : Int)) ∧ T 9 = (V.bool (decide ((((cmn a b : Nat) : Int) = ((a.length : Nat) : Int)) ∧ (((cmn a b : Nat) : Int) = ((b.length : Nat) : Int))))) ∧ True) ?_ ?_
      · unfold r97_2
        refine R_mv t5 ?_
        refine R_mv t0 ?_
        refine R_len (@rfl V (V.sl (List.map cI (a)))) ?_
        refine R_eql (x := ((cmn a b : Nat) : Int)) (y := ((a.length : Nat) : Int)) (@rfl V (iV ((cmn a b : Nat) : Int))) (@rfl V (iV ((a.length : Nat) : Int))) ?_
        refine R_mv (@rfl V (V.bool (decide (((cmn a b : Nat) : Int) = ((a.length : Nat) : Int))))) ?_
        refine Ops_seg 5 (fun T H => T 0 = (V.sl (List.map cI (a))) ∧ T 1 = (V.sl (List.map cI (b))) ∧ T 5 = (iV ((cmn a b : Nat) : Int)) ∧ T 19 = (V.bool (decide ((((cmn a b : Nat) : Int) = ((a.length : Nat) : Int)) ∧ (((cmn a b : Nat) : Int) = ((b.length : Nat) : Int))))) ∧ True) ?_ ?_
        · by_cases g6 : ((cmn a b : Nat) : Int) = ((a.length : Nat) : Int)
          ·
            refine G_yes (Eq.trans (@rfl V (V.bool (decide (((cmn a b : Nat) : Int) = ((a.length : Nat) : Int))))) (bdT g6)) ?_
            refine R_mv t5 ?_
            refine G_yes (Eq.trans (@rfl V (V.bool (decide (((cmn a b : Nat) : Int) = ((a.length : Nat) : Int))))) (bdT g6)) ?_
            refine R_mv t1 ?_
            refine G_yes (Eq.trans (@rfl V (V.bool (decide (((cmn a b : Nat) : Int) = ((a.length : Nat) : Int))))) (bdT g6)) ?_
            refine R_len (@rfl V (V.sl (List.map cI (b)))) ?_
            refine G_yes (Eq.trans (@rfl V (V.bool (decide (((cmn a b : Nat) : Int) = ((a.length : Nat) : Int))))) (bdT g6)) ?_
            refine R_eql (x := ((cmn a b : Nat) : Int)) (y := ((b.length : Nat) : Int)) (@rfl V (iV ((cmn a b : Nat) : Int))) (@rfl V (iV ((b.length : Nat) : Int))) ?_
            refine R_pickT (Eq.trans (@rfl V (V.bool (decide (((cmn a b : Nat) : Int) = ((a.length : Nat) : Int))))) (bdT g6)) (@rfl V (V.bool (decide (((cmn a b : Nat) : Int) = ((b.length : Nat) : Int))))) ?_
            exact ⟨t0, t1, t5, (Eq.trans (@rfl V (V.bool (decide (((cmn a b : Nat) : Int) = ((b.length : Nat) : Int))))) (dec_andT g6)), trivial⟩
          ·
            refine G_no (Eq.trans (@rfl V (V.bool (decide (((cmn a b : Nat) : Int) = ((a.length : Nat) : Int))))) (bdF g6)) (by decide) ?_
            refine G_no (Eq.trans (@rfl V (V.bool (decide (((cmn a b : Nat) : Int) = ((a.length : Nat) : Int))))) (bdF g6)) (by decide) ?_
            refine G_no (Eq.trans (@rfl V (V.bool (decide (((cmn a b : Nat) : Int) = ((a.length : Nat) : Int))))) (bdF g6)) (by decide) ?_
            refine G_no (Eq.trans (@rfl V (V.bool (decide (((cmn a b : Nat) : Int) = ((a.length : Nat) : Int))))) (bdF g6)) (by decide) ?_
            refine R_pickF (Eq.trans (@rfl V (V.bool (decide (((cmn a b : Nat) : Int) = ((a.length : Nat) : Int))))) (bdF g6)) (@rfl V (V.bool false)) ?_
            exact ⟨t0, t1, t5, (Eq.trans (@rfl V (V.bool false)) (dec_andF g6)), trivial⟩
        · intro T H ⟨t0, t1, t5, t19, _⟩
          refine R_mv t19 ?_
          exact R_nil ⟨t0, t1, t5, rfl, trivial⟩
      · intro T H ⟨t0, t1, t5, t9, _⟩
        refine W_if (p := (((cmn a b : Nat) : Int) = ((a.length : Nat) : Int)) ∧ (((cmn a b : Nat) : Int) = ((b.length : Nat) : Int))) t9 (fun c7 => ?_) (fun c7 => ?_)
        ·
          refine W_seq_regc (fun T H => T 4 = (iV (0 : Int)) ∧ True) ?_ ?_
          · unfold r97_3
            refine R_mv (@rfl V (iV (0 : Int))) ?_
            exact R_nil ⟨rfl, trivial⟩
          · intro T H ⟨t4, _⟩
            refine W_ret ?_
            refine y5 _ _ ?_
            refine Ret_1 t4 (fz_int ?_)
            · unfold lexI; rw [if_pos (by omega)]
        ·
          refine W_seq_seq ?_
          refine W_seq_regc (fun T H => T 0 = (V.sl (List.map cI (a))) ∧ T 1 = (V.sl (List.map cI (b))) ∧ T 5 = (iV ((cmn a b : Nat) : Int)) ∧ T 20 = (V.bool (decide (((cmn a b : Nat) : Int) = ((a.length : Nat) : Int)))) ∧ True) ?_ ?_
          · unfold r97_4
            refine R_mv t5 ?_
            refine R_mv t0 ?_
            refine R_len (@rfl V (V.sl (List.map cI (a)))) ?_
            refine R_eql (x := ((cmn a b : Nat) : Int)) (y := ((a.length : Nat) : Int)) (@rfl V (iV ((cmn a b : Nat) : Int))) (@rfl V (iV ((a.length : Nat) : Int))) ?_
            refine R_mv (@rfl V (V.bool (decide (((cmn a b : Nat) : Int) = ((a.length : Nat) : Int))))) ?_
            exact R_nil ⟨t0, t1, t5, rfl, trivial⟩
          · intro T H ⟨t0, t1, t5, t20, _⟩
            refine W_seq_if (p := ((cmn a b : Nat) : Int) = ((a.length : Nat) : Int)) t20 (fun c8 => ?_) (fun c8 => ?_)
            ·
              refine W_seq_skip ?_
              refine W_if (p := ((cmn a b : Nat) : Int) = ((a.length : Nat) : Int)) t20 (fun c9 => ?_) (fun c9 => ?_)
              ·
                refine W_seq_regc (fun T H => T 4 = (iV (-1 : Int)) ∧ True) ?_ ?_
                · unfold r97_6
                  refine R_mv (@rfl V (iV (-1 : Int))) ?_
                  exact R_nil ⟨rfl, trivial⟩
                · intro T H ⟨t4, _⟩
                  refine W_ret ?_
                  refine y5 _ _ ?_
                  refine Ret_1 t4 (fz_int ?_)
                  · unfold lexI; rw [if_neg (by omega), if_pos (by omega)]
              · exact (c9 c8).elim
            ·
              refine W_seq_regc (fun T H => T 20 = (V.bool (decide ((((cmn a b : Nat) : Int) < ((b.length : Nat) : Int)) ∧ (((nth (a) (cmn a b))) < ((nth (b) (cmn a b))))))) ∧ True) ?_ ?_
              · unfold r97_5
                refine R_mv t5 ?_
                refine R_mv t1 ?_
                refine R_len (@rfl V (V.sl (List.map cI (b)))) ?_
                refine R_lss (x := ((cmn a b : Nat) : Int)) (y := ((b.length : Nat) : Int)) (@rfl V (iV ((cmn a b : Nat) : Int))) (@rfl V (iV ((b.length : Nat) : Int))) ?_
                refine R_mv (@rfl V (V.bool (decide (((cmn a b : Nat) : Int) < ((b.length : Nat) : Int))))) ?_
                refine Ops_seg 10 (fun T H => T 20 = (V.bool (decide (((cmn a b : Nat) : Int) = ((a.length : Nat) : Int)))) ∧ T 39 = (V.bool (decide ((((cmn a b : Nat) : Int) < ((b.length : Nat) : Int)) ∧ (((nth (a) (cmn a b))) < ((nth (b) (cmn a b))))))) ∧ True) ?_ ?_
                · by_cases g10 : ((cmn a b : Nat) : Int) < ((b.length : Nat) : Int)
                  ·
                    refine G_yes (Eq.trans (@rfl V (V.bool (decide (((cmn a b : Nat) : Int) < ((b.length : Nat) : Int))))) (bdT g10)) ?_
                    refine R_mv t0 ?_
                    refine G_yes (Eq.trans (@rfl V (V.bool (decide (((cmn a b : Nat) : Int) < ((b.length : Nat) : Int))))) (bdT g10)) ?_
                    refine R_mv t5 ?_
                    refine G_yes (Eq.trans (@rfl V (V.bool (decide (((cmn a b : Nat) : Int) < ((b.length : Nat) : Int))))) (bdT g10)) ?_
                    refine R_idx (i := (cmn a b)) (@rfl V (V.sl (List.map cI (a)))) (@rfl V (iV ((cmn a b : Nat) : Int))) (by omega) rfl ?_
                    refine G_yes (Eq.trans (@rfl V (V.bool (decide (((cmn a b : Nat) : Int) < ((b.length : Nat) : Int))))) (bdT g10)) ?_
                    refine R_load_pp (v := (iV ((nth (a) (cmn a b))))) (@rfl V (V.pp [(iV ((nth (a) (cmn a b))))])) (by first | rfl | simp [ldV]) ?_
                    refine G_yes (Eq.trans (@rfl V (V.bool (decide (((cmn a b : Nat) : Int) < ((b.length : Nat) : Int))))) (bdT g10)) ?_
                    refine R_mv t1 ?_
                    refine G_yes (Eq.trans (@rfl V (V.bool (decide (((cmn a b : Nat) : Int) < ((b.length : Nat) : Int))))) (bdT g10)) ?_
                    refine R_mv t5 ?_
                    refine G_yes (Eq.trans (@rfl V (V.bool (decide (((cmn a b : Nat) : Int) < ((b.length : Nat) : Int))))) (bdT g10)) ?_
                    refine R_idx (i := (cmn a b)) (@rfl V (V.sl (List.map cI (b)))) (@rfl V (iV ((cmn a b : Nat) : Int))) (by omega) rfl ?_
                    refine G_yes (Eq.trans (@rfl V (V.bool (decide (((cmn a b : Nat) : Int) < ((b.length : Nat) : Int))))) (bdT g10)) ?_
                    refine R_load_pp (v := (iV ((nth (b) (cmn a b))))) (@rfl V (V.pp [(iV ((nth (b) (cmn a b))))])) (by first | rfl | simp [ldV]) ?_
                    refine G_yes (Eq.trans (@rfl V (V.bool (decide (((cmn a b : Nat) : Int) < ((b.length : Nat) : Int))))) (bdT g10)) ?_
                    refine R_lss (x := ((nth (a) (cmn a b)))) (y := ((nth (b) (cmn a b)))) (@rfl V (iV ((nth (a) (cmn a b))))) (@rfl V (iV ((nth (b) (cmn a b))))) ?_
                    refine R_pickT (Eq.trans (@rfl V (V.bool (decide (((cmn a b : Nat) : Int) < ((b.length : Nat) : Int))))) (bdT g10)) (@rfl V (V.bool (decide (((nth (a) (cmn a b))) < ((nth (b) (cmn a b))))))) ?_
                    exact ⟨t20, (Eq.trans (@rfl V (V.bool (decide (((nth (a) (cmn a b))) < ((nth (b) (cmn a b))))))) (dec_andT g10)), trivial⟩
                  ·
                    refine G_no (Eq.trans (@rfl V (V.bool (decide (((cmn a b : Nat) : Int) < ((b.length : Nat) : Int))))) (bdF g10)) (by decide) ?_
                    refine G_no (Eq.trans (@rfl V (V.bool (decide (((cmn a b : Nat) : Int) < ((b.length : Nat) : Int))))) (bdF g10)) (by decide) ?_
                    refine G_no (Eq.trans (@rfl V (V.bool (decide (((cmn a b : Nat) : Int) < ((b.length : Nat) : Int))))) (bdF g10)) (by decide) ?_
                    refine G_no (Eq.trans (@rfl V (V.bool (decide (((cmn a b : Nat) : Int) < ((b.length : Nat) : Int))))) (bdF g10)) (by decide) ?_
                    refine G_no (Eq.trans (@rfl V (V.bool (decide (((cmn a b : Nat) : Int) < ((b.length : Nat) : Int))))) (bdF g10)) (by decide) ?_
                    refine G_no (Eq.trans (@rfl V (V.bool (decide (((cmn a b : Nat) : Int) < ((b.length : Nat) : Int))))) (bdF g10)) (by decide) ?_
                    refine G_no (Eq.trans (@rfl V (V.bool (decide (((cmn a b : Nat) : Int) < ((b.length : Nat) : Int))))) (bdF g10)) (by decide) ?_
                    refine G_no (Eq.trans (@rfl V (V.bool (decide (((cmn a b : Nat) : Int) < ((b.length : Nat) : Int))))) (bdF g10)) (by decide) ?_
                    refine G_no (Eq.trans (@rfl V (V.bool (decide (((cmn a b : Nat) : Int) < ((b.length : Nat) : Int))))) (bdF g10)) (by decide) ?_
                    refine R_pickF (Eq.trans (@rfl V (V.bool (decide (((cmn a b : Nat) : Int) < ((b.length : Nat) : Int))))) (bdF g10)) (@rfl V (V.bool false)) ?_
                    exact ⟨t20, (Eq.trans (@rfl V (V.bool false)) (dec_andF g10)), trivial⟩
                · intro T H ⟨t20, t39, _⟩
                  refine R_mv t39 ?_
                  exact R_nil ⟨rfl, trivial⟩
              · intro T H ⟨t20, _⟩
                refine W_if (p := (((cmn a b : Nat) : Int) < ((b.length : Nat) : Int)) ∧ (((nth (a) (cmn a b))) < ((nth (b) (cmn a b))))) t20 (fun c11 => ?_) (fun c11 => ?_)
                ·
                  refine W_seq_regc (fun T H => T 4 = (iV (-1 : Int)) ∧ True) ?_ ?_
                  · unfold r97_6
                    refine R_mv (@rfl V (iV (-1 : Int))) ?_
                    exact R_nil ⟨rfl, trivial⟩
                  · intro T H ⟨t4, _⟩
                    refine W_ret ?_
                    refine y5 _ _ ?_
                    refine Ret_1 t4 (fz_int ?_)
                    · unfold lexI; rw [if_neg (by omega), if_pos (by omega)]
                ·
                  refine W_skip ?_
                  refine n5 _ _ ?_
                  refine .done ?_
                  refine W_seq_regc (fun T H => T 4 = (iV (1 : Int)) ∧ True) ?_ ?_
                  · unfold r97_7
                    refine R_mv (@rfl V (iV (1 : Int))) ?_
                    exact R_nil ⟨rfl, trivial⟩
                  · intro T H ⟨t4, _⟩
                    refine W_ret ?_
                    refine Ret_1 t4 (fz_int ?_)
                    · unfold lexI; rw [if_neg (by omega), if_neg (by omega)]

end Go.Proofs.Ytngkckefanbhgaa

namespace Go.Proofs.Ytngkckefanbhgaa
open Go Go.Proofs

theorem rcompare_pure (a b : List Int) : PureC Try.prog 61 [(V.sl (List.map cI (a))), (V.sl (List.map cI (b)))] (iV (slx a b)) := by
  refine pure_of_Wb true 6 Try.func61 s61_ok (by kernel_rfl) (by simp [s61]) (by simp) (by simp) fun hB => ?_
  simp only [bnd_map, bnd_int, bnd_bool, bnd_str, bnd_agg, bnd_pp, bnd_nil, bnd_cons, implies_true, and_true, true_and] at hB
  unfold s61
  dsimp only
  refine W_seq_regc (fun T H => T 0 = (V.sl (List.map cI (a))) ∧ T 1 = (V.sl (List.map cI (b))) ∧ True) ?_ ?_
  · unfold r61_0
    refine R_mv (@rfl V (iV (0 : Int))) ?_
    exact R_nil ⟨rfl, rfl, trivial⟩
  · intro T H ⟨t0, t1, _⟩
    refine W_seq_seq ?_
    refine W_seq_regc (fun T H => T 0 = (V.sl (List.map cI (a))) ∧ T 1 = (V.sl (List.map cI (b))) ∧ T 9 = (V.bool (decide (((a.length : Nat) : Int) < ((b.length : Nat) : Int)))) ∧ True) ?_ ?_
    · unfold r61_1
      refine R_mv t0 ?_
      refine R_len (@rfl V (V.sl (List.map cI (a)))) ?_
      refine R_mv t1 ?_
      refine R_len (@rfl V (V.sl (List.map cI (b)))) ?_
      refine R_lss (x := ((a.length : Nat) : Int)) (y := ((b.length : Nat) : Int)) (@rfl V (iV ((a.length : Nat) : Int))) (@rfl V (iV ((b.length : Nat) : Int))) ?_
      exact R_nil ⟨t0, t1, rfl, trivial⟩
    · intro T H ⟨t0, t1, t9, _⟩
      refine W_seq_if (p := ((a.length : Nat) : Int) < ((b.length : Nat) : Int)) t9 (fun c1 => ?_) (fun c1 => ?_)
      ·
        refine W_seq_seq ?_
        refine W_seq_regc (fun T H => T 4 = (iV (-1 : Int)) ∧ True) ?_ ?_
        · unfold r61_2
          refine R_mv (@rfl V (iV (-1 : Int))) ?_
          exact R_nil ⟨rfl, trivial⟩
        · intro T H ⟨t4, _⟩
          refine W_seq_ret ?_
          refine Ret_1 t4 (fz_int ?_)
          · rw [slx, if_pos (by omega)]
      ·
        refine W_seq_skip ?_
        refine W_seq_seq ?_
        refine W_seq_regc (fun T H => T 0 = (V.sl (List.map cI (a))) ∧ T 1 = (V.sl (List.map cI (b))) ∧ T 14 = (V.bool (decide (((b.length : Nat) : Int) < ((a.length : Nat) : Int)))) ∧ True) ?_ ?_
        · unfold r61_3
          refine R_mv t0 ?_
          refine R_len (@rfl V (V.sl (List.map cI (a)))) ?_
          refine R_mv t1 ?_
          refine R_len (@rfl V (V.sl (List.map cI (b)))) ?_
          refine R_gtr (x := ((a.length : Nat) : Int)) (y := ((b.length : Nat) : Int)) (@rfl V (iV ((a.length : Nat) : Int))) (@rfl V (iV ((b.length : Nat) : Int))) ?_
          exact R_nil ⟨t0, t1, rfl, trivial⟩
        · intro T H ⟨t0, t1, t14, _⟩
          refine W_seq_if (p := ((b.length : Nat) : Int) < ((a.length : Nat) : Int)) t14 (fun c2 => ?_) (fun c2 => ?_)
          ·
            refine W_seq_seq ?_
            refine W_seq_regc (fun T H => T 4 = (iV (1 : Int)) ∧ True) ?_ ?_
            · unfold r61_4
              refine R_mv (@rfl V (iV (1 : Int))) ?_
              exact R_nil ⟨rfl, trivial⟩
            · intro T H ⟨t4, _⟩
              refine W_seq_ret ?_
              refine Ret_1 t4 (fz_int ?_)
              · rw [slx, if_neg (by omega), if_pos (by omega)]
          ·
            refine W_seq_skip ?_
            refine W_seq_regc (fun T H => T 4 = (iV (lexI a b)) ∧ True) ?_ ?_
            · unfold r61_5
              refine R_mv t0 ?_
              refine R_mv t1 ?_
              refine R_call (evcons (@rfl V (V.sl (List.map cI (a)))) (evcons (@rfl V (V.sl (List.map cI (b)))) evnil)) (rlex_pure a b) (fzv_mapcanon _ _ (by simp [-List.map_take, -List.map_drop, -List.map_append, -List.map_reverse])) (by simp [-List.map_take, -List.map_drop, -List.map_append, -List.map_reverse]) (Or.inl (by simp [-List.map_take, -List.map_drop, -List.map_append, -List.map_reverse])) ?_
              refine R_mv (@rfl V (iV (lexI a b))) ?_
              exact R_nil ⟨rfl, trivial⟩
            · intro T H ⟨t4, _⟩
              refine W_ret ?_
              refine Ret_1 t4 (fz_int ?_)
              · rw [slx, if_neg (by omega), if_neg (by omega)]

end Go.Proofs.Ytngkckefanbhgaa

namespace Go.Proofs.Ytngkckefanbhgaa
open Go Go.Proofs

theorem rhp_pure (w p : List Int) : PureC Try.prog 70 [(V.sl (List.map cI (w))), (V.sl (List.map cI (p)))] (V.bool (hp w p)) := by
  refine pure_of_Wb true 6 Try.func70 s70_ok (by kernel_rfl) (by simp [s70]) (by simp) (by simp) fun hB => ?_
  simp only [bnd_map, bnd_int, bnd_bool, bnd_str, bnd_agg, bnd_pp, bnd_nil, bnd_cons, implies_true, and_true, true_and] at hB
  unfold s70
  dsimp only
  refine W_seq_regc (fun T H => T 0 = (V.sl (List.map cI (w))) ∧ T 1 = (V.sl (List.map cI (p))) ∧ True) ?_ ?_
  · unfold r70_0
    refine R_mv (@rfl V (V.bool false)) ?_
    exact R_nil ⟨rfl, rfl, trivial⟩
  · intro T H ⟨t0, t1, _⟩
    refine W_seq_regc (fun T H => T 4 = (V.bool (decide (((cmn w p : Nat) : Int) = ((p.length : Nat) : Int)))) ∧ True) ?_ ?_
    · unfold r70_1
      refine R_mv t0 ?_
      refine R_mv t1 ?_
      have q1 := cmn_l w p
      have q2 := cmn_r w p
      refine R_call (evcons (@rfl V (V.sl (List.map cI (w)))) (evcons (@rfl V (V.sl (List.map cI (p)))) evnil)) (rcommon_pure w p) (fzv_mapcanon _ _ (by simp [-List.map_take, -List.map_drop, -List.map_append, -List.map_reverse])) (by simp [-List.map_take, -List.map_drop, -List.map_append, -List.map_reverse]) (Or.inl (by simp [-List.map_take, -List.map_drop, -List.map_append, -List.map_reverse])) ?_
      refine R_mv t1 ?_
      refine R_len (@rfl V (V.sl (List.map cI (p)))) ?_
      refine R_eql (x := ((cmn w p : Nat) : Int)) (y := ((p.length : Nat) : Int)) (@rfl V (iV ((cmn w p : Nat) : Int))) (@rfl V (iV ((p.length : Nat) : Int))) ?_
      refine R_mv (@rfl V (V.bool (decide (((cmn w p : Nat) : Int) = ((p.length : Nat) : Int))))) ?_
      exact R_nil ⟨rfl, trivial⟩
    · intro T H ⟨t4, _⟩
      have q3 := cmn_l w p
      have q4 := cmn_r w p
      refine W_ret ?_
      refine Ret_1 t4 (fz_bool ?_)
      · unfold hp; exact decide_eq_decide.2 (by omega)

end Go.Proofs.Ytngkckefanbhgaa

namespace Go.Proofs.Ytngkckefanbhgaa
open Go Go.Proofs

theorem rdiffer_pure (a b : Tr) (ha : a.no.length = a.ni.length) (hb : b.no.length = b.ni.length) : PureC Try.prog 85 [(V.agg [(V.sl (List.map cI (a.ni))), (V.sl (List.map cI (a.no)))]), (V.agg [(V.sl (List.map cI (b.ni))), (V.sl (List.map cI (b.no)))])] (iV (df a b)) := by
  refine pure_of_Wb true 6 Try.func85 s85_ok (by kernel_rfl) (by simp [s85]) (by simp) (by simp) fun hB => ?_
  simp only [bnd_map, bnd_int, bnd_bool, bnd_str, bnd_agg, bnd_pp, bnd_nil, bnd_cons, implies_true, and_true, true_and] at hB
  unfold s85
  dsimp only
  refine W_seq_regc (fun T H => T 2 = (V.mp 2 1 0 0) ∧ T 3 = (V.mp 3 1 0 0) ∧ H 2 = (⟨1, true, false, 63, 2, [[(V.sl (List.map cI (a.ni))), (V.sl (List.map cI (a.no)))]]⟩ : Blk) ∧ H 3 = (⟨1, true, false, 63, 2, [[(V.sl (List.map cI (b.ni))), (V.sl (List.map cI (b.no)))]]⟩ : Blk) ∧ True) ?_ ?_
  · unfold r85_0
    refine R_box (i := 2) (n := 0) (m := 2) (cs := [(V.sl (List.map cI (a.ni))), (V.sl (List.map cI (a.no)))]) rfl (congrArg Blk.ver rfl) (@rfl V (V.agg [(V.sl (List.map cI (a.ni))), (V.sl (List.map cI (a.no)))])) rfl rfl ?_
    refine R_box (i := 3) (n := 0) (m := 2) (cs := [(V.sl (List.map cI (b.ni))), (V.sl (List.map cI (b.no)))]) rfl (congrArg Blk.ver rfl) (@rfl V (V.agg [(V.sl (List.map cI (b.ni))), (V.sl (List.map cI (b.no)))])) rfl rfl ?_
    refine R_mv (@rfl V (iV (0 : Int))) ?_
    exact R_nil ⟨rfl, rfl, rfl, rfl, trivial⟩
  · intro T H ⟨t2, t3, h2, h3, _⟩
    refine W_seq_regc (fun T H => T 2 = (V.mp 2 1 0 0) ∧ T 3 = (V.mp 3 1 0 0) ∧ T 5 = (iV ((cmn a.ni b.ni : Nat) : Int)) ∧ H 2 = (⟨1, true, false, 63, 2, [[(V.sl (List.map cI (a.ni))), (V.sl (List.map cI (a.no)))]]⟩ : Blk) ∧ H 3 = (⟨1, true, false, 63, 2, [[(V.sl (List.map cI (b.ni))), (V.sl (List.map cI (b.no)))]]⟩ : Blk) ∧ True) ?_ ?_
    · unfold r85_1
      refine R_fld_mp (o' := 0) t2 h2 (by first | rfl | simp [okB, Blk.own]) rfl ?_
      refine R_load_mp (v := (V.sl (List.map cI (a.ni)))) (@rfl V (V.mp 2 1 0 0)) h2 (by first | rfl | simp [ldB, ldV, Blk.own, V.one]) ?_
      refine R_fld_mp (o' := 0) t3 h3 (by first | rfl | simp [okB, Blk.own]) rfl ?_
      refine R_load_mp (v := (V.sl (List.map cI (b.ni)))) (@rfl V (V.mp 3 1 0 0)) h3 (by first | rfl | simp [ldB, ldV, Blk.own, V.one]) ?_
      have q1 := cmn_l a.ni b.ni
      have q2 := cmn_r a.ni b.ni
      refine R_call (evcons (@rfl V (V.sl (List.map cI (a.ni)))) (evcons (@rfl V (V.sl (List.map cI (b.ni)))) evnil)) (rcommon_pure a.ni b.ni) (fzv_mapcanon _ _ (by simp [-List.map_take, -List.map_drop, -List.map_append, -List.map_reverse])) (by simp [-List.map_take, -List.map_drop, -List.map_append, -List.map_reverse]) (Or.inl (by simp [-List.map_take, -List.map_drop, -List.map_append, -List.map_reverse])) ?_
      refine R_mv (@rfl V (iV ((cmn a.ni b.ni : Nat) : Int))) ?_
      exact R_nil ⟨t2, t3, rfl, h2, h3, trivial⟩
    · intro T H ⟨t2, t3, t5, h2, h3, _⟩
      have q3 := cmn_l a.ni b.ni
      have q4 := cmn_r a.ni b.ni
      refine W_seq_seq ?_
      refine W_seq_regc (fun T H => T 2 = (V.mp 2 1 0 0) ∧ T 3 = (V.mp 3 1 0 0) ∧ T 5 = (iV ((cmn a.ni b.ni : Nat) : Int)) ∧ T 6 = (iV (0 : Int)) ∧ H 2 = (⟨1, true, false, 63, 2, [[(V.sl (List.map cI (a.ni))), (V.sl (List.map cI (a.no)))]]⟩ : Blk) ∧ H 3 = (⟨1, true, false, 63, 2, [[(V.sl (List.map cI (b.ni))), (V.sl (List.map cI (b.no)))]]⟩ : Blk) ∧ True) ?_ ?_
      · unfold r85_2
        refine R_mv (@rfl V (iV (0 : Int))) ?_
        exact R_nil ⟨t2, t3, t5, rfl, h2, h3, trivial⟩
      · intro T H ⟨t2, t3, t5, t6, h2, h3, _⟩
        refine W_seq_blockg fun Q5 n5 x5 y5 z5 => ?_
        refine W_loop (fun mm T H => ∃ (k : Nat), mm = (cmn a.ni b.ni) - k ∧ T 2 = (V.mp 2 1 0 0) ∧ T 3 = (V.mp 3 1 0 0) ∧ T 5 = (iV ((cmn a.ni b.ni : Nat) : Int)) ∧ T 6 = (iV ((k : Nat) : Int)) ∧ H 2 = (⟨1, true, false, 63, 2, [[(V.sl (List.map cI (a.ni))), (V.sl (List.map cI (a.no)))]]⟩ : Blk) ∧ H 3 = (⟨1, true, false, 63, 2, [[(V.sl (List.map cI (b.ni))), (V.sl (List.map cI (b.no)))]]⟩ : Blk) ∧ (k ≤ cmn a.ni b.ni) ∧ (df a b = fi (dfE a b) k (cmn a.ni b.ni - k))) ?_ ?_
        · refine ⟨_, 0, rfl, t2, t3, t5, (Eq.trans t6 (by first | rfl | simp)), h2, h3, ?_, ?_⟩
          · omega
          · rfl
        · intro mm T H ⟨k, hmm, t2, t3, t5, t6, h2, h3, hk, hc⟩ Q6 p16 p26 p36
          unfold b85_0
          refine W_seq_seq ?_
          refine W_seq_regc (fun T H => T 2 = (V.mp 2 1 0 0) ∧ T 3 = (V.mp 3 1 0 0) ∧ T 5 = (iV ((cmn a.ni b.ni : Nat) : Int)) ∧ T 6 = (iV ((k : Nat) : Int)) ∧ T 14 = (V.bool (decide (((k : Nat) : Int) < ((cmn a.ni b.ni : Nat) : Int)))) ∧ H 2 = (⟨1, true, false, 63, 2, [[(V.sl (List.map cI (a.ni))), (V.sl (List.map cI (a.no)))]]⟩ : Blk) ∧ H 3 = (⟨1, true, false, 63, 2, [[(V.sl (List.map cI (b.ni))), (V.sl (List.map cI (b.no)))]]⟩ : Blk) ∧ True) ?_ ?_
          · unfold r85_3
            refine R_mv t6 ?_
            refine R_mv t5 ?_
            refine R_lss (x := ((k : Nat) : Int)) (y := ((cmn a.ni b.ni : Nat) : Int)) (@rfl V (iV ((k : Nat) : Int))) (@rfl V (iV ((cmn a.ni b.ni : Nat) : Int))) ?_
            exact R_nil ⟨t2, t3, t5, t6, rfl, h2, h3, trivial⟩
          · intro T H ⟨t2, t3, t5, t6, t14, h2, h3, _⟩
            refine W_seq_if (p := ((k : Nat) : Int) < ((cmn a.ni b.ni : Nat) : Int)) t14 (fun c7 => ?_) (fun c7 => ?_)
            ·
              refine W_seq_skip ?_
              refine W_seq_blockg fun Q8 n8 x8 y8 z8 => ?_
              refine W_seq_regc (fun T H => T 2 = (V.mp 2 1 0 0) ∧ T 3 = (V.mp 3 1 0 0) ∧ T 5 = (iV ((cmn a.ni b.ni : Nat) : Int)) ∧ T 6 = (iV ((k : Nat) : Int)) ∧ T 27 = (V.bool (decide (((nth (a.no) (k))) ≠ ((nth (b.no) (k)))))) ∧ H 2 = (⟨1, true, false, 63, 2, [[(V.sl (List.map cI (a.ni))), (V.sl (List.map cI (a.no)))]]⟩ : Blk) ∧ H 3 = (⟨1, true, false, 63, 2, [[(V.sl (List.map cI (b.ni))), (V.sl (List.map cI (b.no)))]]⟩ : Blk) ∧ True) ?_ ?_
              · unfold r85_5
                refine R_fld_mp (o' := 1) t2 h2 (by first | rfl | simp [okB, Blk.own]) rfl ?_
                refine R_load_mp (v := (V.sl (List.map cI (a.no)))) (@rfl V (V.mp 2 1 0 1)) h2 (by first | rfl | simp [ldB, ldV, Blk.own, V.one]) ?_
                refine R_mv t6 ?_
                refine R_idx (i := k) (@rfl V (V.sl (List.map cI (a.no)))) (@rfl V (iV ((k : Nat) : Int))) (by omega) rfl ?_
                refine R_load_pp (v := (iV ((nth (a.no) (k))))) (@rfl V (V.pp [(iV ((nth (a.no) (k))))])) (by first | rfl | simp [ldV]) ?_
                refine R_fld_mp (o' := 1) t3 h3 (by first | rfl | simp [okB, Blk.own]) rfl ?_
                refine R_load_mp (v := (V.sl (List.map cI (b.no)))) (@rfl V (V.mp 3 1 0 1)) h3 (by first | rfl | simp [ldB, ldV, Blk.own, V.one]) ?_
                refine R_mv t6 ?_
                refine R_idx (i := k) (@rfl V (V.sl (List.map cI (b.no)))) (@rfl V (iV ((k : Nat) : Int))) (by omega) rfl ?_
                refine R_load_pp (v := (iV ((nth (b.no) (k))))) (@rfl V (V.pp [(iV ((nth (b.no) (k))))])) (by first | rfl | simp [ldV]) ?_
                refine R_neq (x := ((nth (a.no) (k)))) (y := ((nth (b.no) (k)))) (@rfl V (iV ((nth (a.no) (k))))) (@rfl V (iV ((nth (b.no) (k))))) ?_
                exact R_nil ⟨t2, t3, t5, t6, rfl, h2, h3, trivial⟩
              · intro T H ⟨t2, t3, t5, t6, t27, h2, h3, _⟩
                refine W_if (p := ((nth (a.no) (k))) ≠ ((nth (b.no) (k)))) t27 (fun c9 => ?_) (fun c9 => ?_)
                ·
                  refine W_seq_regc (fun T H => T 4 = (iV ((k : Nat) : Int)) ∧ H 2 = (⟨1, true, false, 63, 2, [[(V.sl (List.map cI (a.ni))), (V.sl (List.map cI (a.no)))]]⟩ : Blk) ∧ H 3 = (⟨1, true, false, 63, 2, [[(V.sl (List.map cI (b.ni))), (V.sl (List.map cI (b.no)))]]⟩ : Blk) ∧ True) ?_ ?_
                  · unfold r85_6
                    refine R_mv t6 ?_
                    refine R_mv (@rfl V (iV ((k : Nat) : Int))) ?_
                    exact R_nil ⟨rfl, h2, h3, trivial⟩
                  · intro T H ⟨t4, h2, h3, _⟩
                    refine W_ret ?_
                    refine y8 _ _ ?_
                    refine p26 _ _ ?_
                    refine y5 _ _ ?_
                    refine Ret_1 t4 (fz_int ?_)
                    · rw [hc, fi_hit (by simp only [dfE, decide_eq_true_eq]; omega) (by omega)]
                ·
                  refine W_skip ?_
                  refine n8 _ _ ?_
                  refine .done ?_
                  refine W_regc (fun T H => T 2 = (V.mp 2 1 0 0) ∧ T 3 = (V.mp 3 1 0 0) ∧ T 5 = (iV ((cmn a.ni b.ni : Nat) : Int)) ∧ T 6 = (iV ((k + 1 : Nat) : Int)) ∧ H 2 = (⟨1, true, false, 63, 2, [[(V.sl (List.map cI (a.ni))), (V.sl (List.map cI (a.no)))]]⟩ : Blk) ∧ H 3 = (⟨1, true, false, 63, 2, [[(V.sl (List.map cI (b.ni))), (V.sl (List.map cI (b.no)))]]⟩ : Blk) ∧ True) ?_ ?_
                  · unfold r85_4
                    refine R_mv t6 ?_
                    refine R_addN (m := k) (n := 1) (@rfl V (iV ((k : Nat) : Int))) (@rfl V (iV ((1 : Nat) : Int))) (by omega) ?_
                    refine R_mv (@rfl V (iV ((k + 1 : Nat) : Int))) ?_
                    exact R_nil ⟨t2, t3, t5, rfl, h2, h3, trivial⟩
                  · intro T H ⟨t2, t3, t5, t6, h2, h3, _⟩
                    refine p16 _ _ _ ?_ ⟨(k + 1), rfl, t2, t3, t5, (Eq.trans t6 (by first | rfl | simp)), h2, h3, ?_, ?_⟩
                    · omega
                    · omega
                    · rw [hc, fi_skip (by simp only [dfE, decide_eq_false_iff_not]; omega) (by omega)]
            ·
              refine W_seq_exit ?_
              refine p36 _ _ _ ?_
              refine x5 _ _ ?_
              refine .done ?_
              refine W_seq_regc (fun T H => T 4 = (iV (-1 : Int)) ∧ H 2 = (⟨1, true, false, 63, 2, [[(V.sl (List.map cI (a.ni))), (V.sl (List.map cI (a.no)))]]⟩ : Blk) ∧ H 3 = (⟨1, true, false, 63, 2, [[(V.sl (List.map cI (b.ni))), (V.sl (List.map cI (b.no)))]]⟩ : Blk) ∧ True) ?_ ?_
              · unfold r85_7
                refine R_mv (@rfl V (iV (-1 : Int))) ?_
                exact R_nil ⟨rfl, h2, h3, trivial⟩
              · intro T H ⟨t4, h2, h3, _⟩
                refine W_ret ?_
                refine Ret_1 t4 (fz_int ?_)
                · rw [hc, fi_end (by omega)]

end Go.Proofs.Ytngkckefanbhgaa

namespace Go.Proofs.Ytngkckefanbhgaa
open Go Go.Proofs

theorem rapart_pure (o : Ob) (hpl : ∀ k, k < o.tr.length → (nth o.tr k).no.length = (nth o.tr k).ni.length) : PureC Try.prog 62 [(V.agg [(iV (o.i)), (V.sl (List.map cT (o.tr)))])] (iV (fe (apE o) 0 o.tr.length)) := by
  refine pure_of_Wb true 6 Try.func62 s62_ok (by kernel_rfl) (by simp [s62]) (by simp) (by simp) fun hB => ?_
  simp only [bnd_map, bnd_int, bnd_bool, bnd_str, bnd_agg, bnd_pp, bnd_nil, bnd_cons, implies_true, and_true, true_and] at hB
  unfold s62
  dsimp only
  refine W_seq_regc (fun T H => T 1 = (V.mp 1 1 0 0) ∧ H 1 = (⟨1, true, false, 34, 2, [[(iV (o.i)), (V.sl (List.map cT (o.tr)))]]⟩ : Blk) ∧ True) ?_ ?_
  · unfold r62_0
    refine R_box (i := 1) (n := 0) (m := 2) (cs := [(iV (o.i)), (V.sl (List.map cT (o.tr)))]) rfl (congrArg Blk.ver rfl) (@rfl V (V.agg [(iV (o.i)), (V.sl (List.map cT (o.tr)))])) rfl rfl ?_
    refine R_mv (@rfl V (iV (0 : Int))) ?_
    exact R_nil ⟨rfl, rfl, trivial⟩
  · intro T H ⟨t1, h1, _⟩
    refine W_seq_seq ?_
    refine W_seq_regc (fun T H => T 1 = (V.mp 1 1 0 0) ∧ T 3 = (iV (0 : Int)) ∧ H 1 = (⟨1, true, false, 34, 2, [[(iV (o.i)), (V.sl (List.map cT (o.tr)))]]⟩ : Blk) ∧ True) ?_ ?_
    · unfold r62_1
      refine R_mv (@rfl V (iV (0 : Int))) ?_
      exact R_nil ⟨t1, rfl, h1, trivial⟩
    · intro T H ⟨t1, t3, h1, _⟩
      refine W_seq_blockg fun Q1 n1 x1 y1 z1 => ?_
      refine W_loop (fun mm T H => ∃ (k : Nat), mm = o.tr.length - k ∧ T 1 = (V.mp 1 1 0 0) ∧ T 3 = (iV ((k : Nat) : Int)) ∧ H 1 = (⟨1, true, false, 34, 2, [[(iV (o.i)), (V.sl (List.map cT (o.tr)))]]⟩ : Blk) ∧ (k ≤ o.tr.length) ∧ (fe (apE o) 0 o.tr.length = fe (apE o) k (o.tr.length - k))) ?_ ?_
      · refine ⟨_, 0, rfl, t1, (Eq.trans t3 (by first | rfl | simp)), h1, ?_, ?_⟩
        · omega
        · rfl
      · intro mm T H ⟨k, hmm, t1, t3, h1, hk, hc⟩ Q2 p12 p22 p32
        unfold b62_0
        refine W_seq_seq ?_
        refine W_seq_regc (fun T H => T 1 = (V.mp 1 1 0 0) ∧ T 3 = (iV ((k : Nat) : Int)) ∧ T 11 = (V.bool (decide (((k : Nat) : Int) < ((o.tr.length : Nat) : Int)))) ∧ H 1 = (⟨1, true, false, 34, 2, [[(iV (o.i)), (V.sl (List.map cT (o.tr)))]]⟩ : Blk) ∧ True) ?_ ?_
        · unfold r62_2
          refine R_mv t3 ?_
          refine R_fld_mp (o' := 1) t1 h1 (by first | rfl | simp [okB, Blk.own]) rfl ?_
          refine R_load_mp (v := (V.sl (List.map cT (o.tr)))) (@rfl V (V.mp 1 1 0 1)) h1 (by first | rfl | simp [ldB, ldV, Blk.own, V.one]) ?_
          refine R_len (@rfl V (V.sl (List.map cT (o.tr)))) ?_
          refine R_lss (x := ((k : Nat) : Int)) (y := ((o.tr.length : Nat) : Int)) (@rfl V (iV ((k : Nat) : Int))) (@rfl V (iV ((o.tr.length : Nat) : Int))) ?_
          exact R_nil ⟨t1, t3, rfl, h1, trivial⟩
        · intro T H ⟨t1, t3, t11, h1, _⟩
          refine W_seq_if (p := ((k : Nat) : Int) < ((o.tr.length : Nat) : Int)) t11 (fun c3 => ?_) (fun c3 => ?_)
          ·
            refine W_seq_skip ?_
            refine W_seq_blockg fun Q4 n4 x4 y4 z4 => ?_
            refine W_seq_regc (fun T H => T 1 = (V.mp 1 1 0 0) ∧ T 3 = (iV ((k : Nat) : Int)) ∧ T 4 = (V.bool false) ∧ T 5 = (V.bool false) ∧ H 1 = (⟨1, true, false, 34, 2, [[(iV (o.i)), (V.sl (List.map cT (o.tr)))]]⟩ : Blk) ∧ True) ?_ ?_
            · unfold r62_4
              refine R_mv (@rfl V (V.bool false)) ?_
              refine R_mv (@rfl V (V.bool false)) ?_
              exact R_nil ⟨t1, t3, rfl, rfl, h1, trivial⟩
            · intro T H ⟨t1, t3, t4, t5, h1, _⟩
              refine W_seq_seq ?_
              refine W_seq_regc (fun T H => T 1 = (V.mp 1 1 0 0) ∧ T 3 = (iV ((k : Nat) : Int)) ∧ T 4 = (V.bool false) ∧ T 5 = (V.bool false) ∧ T 6 = (iV ((k + 1 : Nat) : Int)) ∧ H 1 = (⟨1, true, false, 34, 2, [[(iV (o.i)), (V.sl (List.map cT (o.tr)))]]⟩ : Blk) ∧ True) ?_ ?_
              · unfold r62_5
                refine R_mv t3 ?_
                refine R_addN (m := k) (n := 1) (@rfl V (iV ((k : Nat) : Int))) (@rfl V (iV ((1 : Nat) : Int))) (by omega) ?_
                refine R_mv (@rfl V (iV ((k + 1 : Nat) : Int))) ?_
                exact R_nil ⟨t1, t3, t4, t5, rfl, h1, trivial⟩
              · intro T H ⟨t1, t3, t4, t5, t6, h1, _⟩
                refine W_seq_blockg fun Q5 n5 x5 y5 z5 => ?_
                refine W_loop (fun mm T H => ∃ (j : Nat), mm = o.tr.length - (k + 1 + j) ∧ T 1 = (V.mp 1 1 0 0) ∧ T 3 = (iV ((k : Nat) : Int)) ∧ T 4 = (V.bool (exB (preB o k) (k + 1) j)) ∧ T 5 = (V.bool (exB (claB o k) (k + 1) j)) ∧ T 6 = (iV ((k + 1 + j : Nat) : Int)) ∧ H 1 = (⟨1, true, false, 34, 2, [[(iV (o.i)), (V.sl (List.map cT (o.tr)))]]⟩ : Blk) ∧ (k + 1 + j ≤ o.tr.length)) ?_ ?_
                · refine ⟨_, 0, rfl, t1, t3, (Eq.trans t4 (by first | rfl | simp)), (Eq.trans t5 (by first | rfl | simp)), (Eq.trans t6 (by first | rfl | simp)), h1, ?_⟩
                  · omega
                · intro mm T H ⟨j, hmm, t1, t3, t4, t5, t6, h1, hj⟩ Q6 p16 p26 p36
                  unfold b62_1
                  refine W_seq_seq ?_
                  refine W_seq_regc (fun T H => T 1 = (V.mp 1 1 0 0) ∧ T 3 = (iV ((k : Nat) : Int)) ∧ T 4 = (V.bool (exB (preB o k) (k + 1) j)) ∧ T 5 = (V.bool (exB (claB o k) (k + 1) j)) ∧ T 6 = (iV ((k + 1 + j : Nat) : Int)) ∧ T 20 = (V.bool (decide (((k + 1 + j : Nat) : Int) < ((o.tr.length : Nat) : Int)))) ∧ H 1 = (⟨1, true, false, 34, 2, [[(iV (o.i)), (V.sl (List.map cT (o.tr)))]]⟩ : Blk) ∧ True) ?_ ?_
                  · unfold r62_6
                    refine R_mv t6 ?_
                    refine R_fld_mp (o' := 1) t1 h1 (by first | rfl | simp [okB, Blk.own]) rfl ?_
                    refine R_load_mp (v := (V.sl (List.map cT (o.tr)))) (@rfl V (V.mp 1 1 0 1)) h1 (by first | rfl | simp [ldB, ldV, Blk.own, V.one]) ?_
                    refine R_len (@rfl V (V.sl (List.map cT (o.tr)))) ?_
                    refine R_lss (x := ((k + 1 + j : Nat) : Int)) (y := ((o.tr.length : Nat) : Int)) (@rfl V (iV ((k + 1 + j : Nat) : Int))) (@rfl V (iV ((o.tr.length : Nat) : Int))) ?_
                    exact R_nil ⟨t1, t3, t4, t5, t6, rfl, h1, trivial⟩
                  · intro T H ⟨t1, t3, t4, t5, t6, t20, h1, _⟩
                    refine W_seq_if (p := ((k + 1 + j : Nat) : Int) < ((o.tr.length : Nat) : Int)) t20 (fun c7 => ?_) (fun c7 => ?_)
                    ·
                      refine W_seq_skip ?_
                      refine W_seq_blockg fun Q8 n8 x8 y8 z8 => ?_
                      refine W_seq_regc (fun T H => T 1 = (V.mp 1 1 0 0) ∧ T 3 = (iV ((k : Nat) : Int)) ∧ T 4 = (V.bool (((exB (preB o k) (k + 1) j) || (hp ((nth (o.tr) (k + 1 + j)).ni) ((nth (o.tr) (k)).ni))))) ∧ T 5 = (V.bool (exB (claB o k) (k + 1) j)) ∧ T 6 = (iV ((k + 1 + j : Nat) : Int)) ∧ H 1 = (⟨1, true, false, 34, 2, [[(iV (o.i)), (V.sl (List.map cT (o.tr)))]]⟩ : Blk) ∧ True) ?_ ?_
                      · unfold r62_8
                        refine R_mv t4 ?_
                        refine R_mv (@rfl V (V.bool (exB (preB o k) (k + 1) j))) ?_
                        refine Ops_seg 14 (fun T H => T 1 = (V.mp 1 1 0 0) ∧ T 3 = (iV ((k : Nat) : Int)) ∧ T 4 = (V.bool (exB (preB o k) (k + 1) j)) ∧ T 5 = (V.bool (exB (claB o k) (k + 1) j)) ∧ T 6 = (iV ((k + 1 + j : Nat) : Int)) ∧ T 38 = (V.bool (((exB (preB o k) (k + 1) j) || (hp ((nth (o.tr) (k + 1 + j)).ni) ((nth (o.tr) (k)).ni))))) ∧ H 1 = (⟨1, true, false, 34, 2, [[(iV (o.i)), (V.sl (List.map cT (o.tr)))]]⟩ : Blk) ∧ True) ?_ ?_
                        · by_cases g9 : (exB (preB o k) (k + 1) j) = true
                          ·
                            refine G_no (Eq.trans (@rfl V (V.bool (exB (preB o k) (k + 1) j))) (bbT g9)) (by decide) ?_
                            refine G_no (Eq.trans (@rfl V (V.bool (exB (preB o k) (k + 1) j))) (bbT g9)) (by decide) ?_
                            refine G_no (Eq.trans (@rfl V (V.bool (exB (preB o k) (k + 1) j))) (bbT g9)) (by decide) ?_
                            refine G_no (Eq.trans (@rfl V (V.bool (exB (preB o k) (k + 1) j))) (bbT g9)) (by decide) ?_
                            refine G_no (Eq.trans (@rfl V (V.bool (exB (preB o k) (k + 1) j))) (bbT g9)) (by decide) ?_
                            refine G_no (Eq.trans (@rfl V (V.bool (exB (preB o k) (k + 1) j))) (bbT g9)) (by decide) ?_
                            refine G_no (Eq.trans (@rfl V (V.bool (exB (preB o k) (k + 1) j))) (bbT g9)) (by decide) ?_
                            refine G_no (Eq.trans (@rfl V (V.bool (exB (preB o k) (k + 1) j))) (bbT g9)) (by decide) ?_
                            refine G_no (Eq.trans (@rfl V (V.bool (exB (preB o k) (k + 1) j))) (bbT g9)) (by decide) ?_
                            refine G_no (Eq.trans (@rfl V (V.bool (exB (preB o k) (k + 1) j))) (bbT g9)) (by decide) ?_
                            refine G_no (Eq.trans (@rfl V (V.bool (exB (preB o k) (k + 1) j))) (bbT g9)) (by decide) ?_
                            refine G_no (Eq.trans (@rfl V (V.bool (exB (preB o k) (k + 1) j))) (bbT g9)) (by decide) ?_
                            refine G_no (Eq.trans (@rfl V (V.bool (exB (preB o k) (k + 1) j))) (bbT g9)) (by decide) ?_
                            refine R_pickT (Eq.trans (@rfl V (V.bool (exB (preB o k) (k + 1) j))) (bbT g9)) (@rfl V (V.bool true)) ?_
                            exact ⟨t1, t3, t4, t5, t6, (Eq.trans (@rfl V (V.bool true)) (borT g9)), h1, trivial⟩
                          ·
                            refine G_yes (Eq.trans (@rfl V (V.bool (exB (preB o k) (k + 1) j))) (bbF g9)) ?_
                            refine R_fld_mp (o' := 1) t1 h1 (by first | rfl | simp [okB, Blk.own]) rfl ?_
                            refine G_yes (Eq.trans (@rfl V (V.bool (exB (preB o k) (k + 1) j))) (bbF g9)) ?_
                            refine R_load_mp (v := (V.sl (List.map cT (o.tr)))) (@rfl V (V.mp 1 1 0 1)) h1 (by first | rfl | simp [ldB, ldV, Blk.own, V.one]) ?_
                            refine G_yes (Eq.trans (@rfl V (V.bool (exB (preB o k) (k + 1) j))) (bbF g9)) ?_
                            refine R_mv t6 ?_
                            refine G_yes (Eq.trans (@rfl V (V.bool (exB (preB o k) (k + 1) j))) (bbF g9)) ?_
                            refine R_idx (i := (k + 1 + j)) (@rfl V (V.sl (List.map cT (o.tr)))) (@rfl V (iV ((k + 1 + j : Nat) : Int))) (by omega) rfl ?_
                            refine G_yes (Eq.trans (@rfl V (V.bool (exB (preB o k) (k + 1) j))) (bbF g9)) ?_
                            refine R_fld_pp (cs' := [(V.sl (List.map cI ((nth (o.tr) (k + 1 + j)).ni))), (V.sl (List.map cI ((nth (o.tr) (k + 1 + j)).no)))]) (@rfl V (V.pp [(V.sl (List.map cI ((nth (o.tr) (k + 1 + j)).ni))), (V.sl (List.map cI ((nth (o.tr) (k + 1 + j)).no)))])) rfl ?_
                            refine G_yes (Eq.trans (@rfl V (V.bool (exB (preB o k) (k + 1) j))) (bbF g9)) ?_
                            refine R_load_pp (v := (V.sl (List.map cI ((nth (o.tr) (k + 1 + j)).ni)))) (@rfl V (V.pp [(V.sl (List.map cI ((nth (o.tr) (k + 1 + j)).ni))), (V.sl (List.map cI ((nth (o.tr) (k + 1 + j)).no)))])) (by first | rfl | simp [ldV]) ?_
                            refine G_yes (Eq.trans (@rfl V (V.bool (exB (preB o k) (k + 1) j))) (bbF g9)) ?_
                            refine R_fld_mp (o' := 1) t1 h1 (by first | rfl | simp [okB, Blk.own]) rfl ?_
                            refine G_yes (Eq.trans (@rfl V (V.bool (exB (preB o k) (k + 1) j))) (bbF g9)) ?_
                            refine R_load_mp (v := (V.sl (List.map cT (o.tr)))) (@rfl V (V.mp 1 1 0 1)) h1 (by first | rfl | simp [ldB, ldV, Blk.own, V.one]) ?_
                            refine G_yes (Eq.trans (@rfl V (V.bool (exB (preB o k) (k + 1) j))) (bbF g9)) ?_
                            refine R_mv t3 ?_
                            refine G_yes (Eq.trans (@rfl V (V.bool (exB (preB o k) (k + 1) j))) (bbF g9)) ?_
                            refine R_idx (i := k) (@rfl V (V.sl (List.map cT (o.tr)))) (@rfl V (iV ((k : Nat) : Int))) (by omega) rfl ?_
                            refine G_yes (Eq.trans (@rfl V (V.bool (exB (preB o k) (k + 1) j))) (bbF g9)) ?_
                            refine R_fld_pp (cs' := [(V.sl (List.map cI ((nth (o.tr) (k)).ni))), (V.sl (List.map cI ((nth (o.tr) (k)).no)))]) (@rfl V (V.pp [(V.sl (List.map cI ((nth (o.tr) (k)).ni))), (V.sl (List.map cI ((nth (o.tr) (k)).no)))])) rfl ?_
                            refine G_yes (Eq.trans (@rfl V (V.bool (exB (preB o k) (k + 1) j))) (bbF g9)) ?_
                            refine R_load_pp (v := (V.sl (List.map cI ((nth (o.tr) (k)).ni)))) (@rfl V (V.pp [(V.sl (List.map cI ((nth (o.tr) (k)).ni))), (V.sl (List.map cI ((nth (o.tr) (k)).no)))])) (by first | rfl | simp [ldV]) ?_
                            refine G_yes (Eq.trans (@rfl V (V.bool (exB (preB o k) (k + 1) j))) (bbF g9)) ?_
                            refine R_call (evcons (@rfl V (V.sl (List.map cI ((nth (o.tr) (k + 1 + j)).ni)))) (evcons (@rfl V (V.sl (List.map cI ((nth (o.tr) (k)).ni)))) evnil)) (rhp_pure ((nth (o.tr) (k + 1 + j)).ni) ((nth (o.tr) (k)).ni)) (fzv_mapcanon _ _ (by simp [-List.map_take, -List.map_drop, -List.map_append, -List.map_reverse])) (by simp [-List.map_take, -List.map_drop, -List.map_append, -List.map_reverse]) (Or.inl (by simp [-List.map_take, -List.map_drop, -List.map_append, -List.map_reverse])) ?_
                            refine R_pickF (Eq.trans (@rfl V (V.bool (exB (preB o k) (k + 1) j))) (bbF g9)) (@rfl V (V.bool (hp ((nth (o.tr) (k + 1 + j)).ni) ((nth (o.tr) (k)).ni)))) ?_
                            exact ⟨t1, t3, t4, t5, t6, (Eq.trans (@rfl V (V.bool (hp ((nth (o.tr) (k + 1 + j)).ni) ((nth (o.tr) (k)).ni)))) (borF g9)), h1, trivial⟩
                        · intro T H ⟨t1, t3, t4, t5, t6, t38, h1, _⟩
                          refine R_mv t38 ?_
                          exact R_nil ⟨t1, t3, rfl, t5, t6, h1, trivial⟩
                      · intro T H ⟨t1, t3, t4, t5, t6, h1, _⟩
                        refine W_regc (fun T H => T 1 = (V.mp 1 1 0 0) ∧ T 3 = (iV ((k : Nat) : Int)) ∧ T 4 = (V.bool (((exB (preB o k) (k + 1) j) || (hp ((nth (o.tr) (k + 1 + j)).ni) ((nth (o.tr) (k)).ni))))) ∧ T 5 = (V.bool (((exB (claB o k) (k + 1) j) || decide ((0 : Int) ≤ (df ((nth (o.tr) (k))) ((nth (o.tr) (k + 1 + j)))))))) ∧ T 6 = (iV ((k + 1 + j : Nat) : Int)) ∧ H 1 = (⟨1, true, false, 34, 2, [[(iV (o.i)), (V.sl (List.map cT (o.tr)))]]⟩ : Blk) ∧ True) ?_ ?_
                        · unfold r62_9
                          refine R_mv t5 ?_
                          refine R_mv (@rfl V (V.bool (exB (claB o k) (k + 1) j))) ?_
                          refine Ops_seg 13 (fun T H => T 1 = (V.mp 1 1 0 0) ∧ T 3 = (iV ((k : Nat) : Int)) ∧ T 4 = (V.bool (((exB (preB o k) (k + 1) j) || (hp ((nth (o.tr) (k + 1 + j)).ni) ((nth (o.tr) (k)).ni))))) ∧ T 5 = (V.bool (exB (claB o k) (k + 1) j)) ∧ T 6 = (iV ((k + 1 + j : Nat) : Int)) ∧ T 53 = (V.bool (((exB (claB o k) (k + 1) j) || decide ((0 : Int) ≤ (df ((nth (o.tr) (k))) ((nth (o.tr) (k + 1 + j)))))))) ∧ H 1 = (⟨1, true, false, 34, 2, [[(iV (o.i)), (V.sl (List.map cT (o.tr)))]]⟩ : Blk) ∧ True) ?_ ?_
                          · by_cases g10 : (exB (claB o k) (k + 1) j) = true
                            ·
                              refine G_no (Eq.trans (@rfl V (V.bool (exB (claB o k) (k + 1) j))) (bbT g10)) (by decide) ?_
                              refine G_no (Eq.trans (@rfl V (V.bool (exB (claB o k) (k + 1) j))) (bbT g10)) (by decide) ?_
                              refine G_no (Eq.trans (@rfl V (V.bool (exB (claB o k) (k + 1) j))) (bbT g10)) (by decide) ?_
                              refine G_no (Eq.trans (@rfl V (V.bool (exB (claB o k) (k + 1) j))) (bbT g10)) (by decide) ?_
                              refine G_no (Eq.trans (@rfl V (V.bool (exB (claB o k) (k + 1) j))) (bbT g10)) (by decide) ?_
                              refine G_no (Eq.trans (@rfl V (V.bool (exB (claB o k) (k + 1) j))) (bbT g10)) (by decide) ?_
                              refine G_no (Eq.trans (@rfl V (V.bool (exB (claB o k) (k + 1) j))) (bbT g10)) (by decide) ?_
                              refine G_no (Eq.trans (@rfl V (V.bool (exB (claB o k) (k + 1) j))) (bbT g10)) (by decide) ?_
                              refine G_no (Eq.trans (@rfl V (V.bool (exB (claB o k) (k + 1) j))) (bbT g10)) (by decide) ?_
                              refine G_no (Eq.trans (@rfl V (V.bool (exB (claB o k) (k + 1) j))) (bbT g10)) (by decide) ?_
                              refine G_no (Eq.trans (@rfl V (V.bool (exB (claB o k) (k + 1) j))) (bbT g10)) (by decide) ?_
                              refine G_no (Eq.trans (@rfl V (V.bool (exB (claB o k) (k + 1) j))) (bbT g10)) (by decide) ?_
                              refine R_pickT (Eq.trans (@rfl V (V.bool (exB (claB o k) (k + 1) j))) (bbT g10)) (@rfl V (V.bool true)) ?_
                              exact ⟨t1, t3, t4, t5, t6, (Eq.trans (@rfl V (V.bool true)) (borT g10)), h1, trivial⟩
                            ·
                              refine G_yes (Eq.trans (@rfl V (V.bool (exB (claB o k) (k + 1) j))) (bbF g10)) ?_
                              refine R_fld_mp (o' := 1) t1 h1 (by first | rfl | simp [okB, Blk.own]) rfl ?_
                              refine G_yes (Eq.trans (@rfl V (V.bool (exB (claB o k) (k + 1) j))) (bbF g10)) ?_
                              refine R_load_mp (v := (V.sl (List.map cT (o.tr)))) (@rfl V (V.mp 1 1 0 1)) h1 (by first | rfl | simp [ldB, ldV, Blk.own, V.one]) ?_
                              refine G_yes (Eq.trans (@rfl V (V.bool (exB (claB o k) (k + 1) j))) (bbF g10)) ?_
                              refine R_mv t3 ?_
                              refine G_yes (Eq.trans (@rfl V (V.bool (exB (claB o k) (k + 1) j))) (bbF g10)) ?_
                              refine R_idx (i := k) (@rfl V (V.sl (List.map cT (o.tr)))) (@rfl V (iV ((k : Nat) : Int))) (by omega) rfl ?_
                              refine G_yes (Eq.trans (@rfl V (V.bool (exB (claB o k) (k + 1) j))) (bbF g10)) ?_
                              refine R_load_pp (v := (V.agg [(V.sl (List.map cI ((nth (o.tr) (k)).ni))), (V.sl (List.map cI ((nth (o.tr) (k)).no)))])) (@rfl V (V.pp [(V.sl (List.map cI ((nth (o.tr) (k)).ni))), (V.sl (List.map cI ((nth (o.tr) (k)).no)))])) (by first | rfl | simp [ldV]) ?_
                              refine G_yes (Eq.trans (@rfl V (V.bool (exB (claB o k) (k + 1) j))) (bbF g10)) ?_
                              refine R_fld_mp (o' := 1) t1 h1 (by first | rfl | simp [okB, Blk.own]) rfl ?_
                              refine G_yes (Eq.trans (@rfl V (V.bool (exB (claB o k) (k + 1) j))) (bbF g10)) ?_
                              refine R_load_mp (v := (V.sl (List.map cT (o.tr)))) (@rfl V (V.mp 1 1 0 1)) h1 (by first | rfl | simp [ldB, ldV, Blk.own, V.one]) ?_
                              refine G_yes (Eq.trans (@rfl V (V.bool (exB (claB o k) (k + 1) j))) (bbF g10)) ?_
                              refine R_mv t6 ?_
                              refine G_yes (Eq.trans (@rfl V (V.bool (exB (claB o k) (k + 1) j))) (bbF g10)) ?_
                              refine R_idx (i := (k + 1 + j)) (@rfl V (V.sl (List.map cT (o.tr)))) (@rfl V (iV ((k + 1 + j : Nat) : Int))) (by omega) rfl ?_
                              refine G_yes (Eq.trans (@rfl V (V.bool (exB (claB o k) (k + 1) j))) (bbF g10)) ?_
                              refine R_load_pp (v := (V.agg [(V.sl (List.map cI ((nth (o.tr) (k + 1 + j)).ni))), (V.sl (List.map cI ((nth (o.tr) (k + 1 + j)).no)))])) (@rfl V (V.pp [(V.sl (List.map cI ((nth (o.tr) (k + 1 + j)).ni))), (V.sl (List.map cI ((nth (o.tr) (k + 1 + j)).no)))])) (by first | rfl | simp [ldV]) ?_
                              refine G_yes (Eq.trans (@rfl V (V.bool (exB (claB o k) (k + 1) j))) (bbF g10)) ?_
                              refine R_call (evcons (@rfl V (V.agg [(V.sl (List.map cI ((nth (o.tr) (k)).ni))), (V.sl (List.map cI ((nth (o.tr) (k)).no)))])) (evcons (@rfl V (V.agg [(V.sl (List.map cI ((nth (o.tr) (k + 1 + j)).ni))), (V.sl (List.map cI ((nth (o.tr) (k + 1 + j)).no)))])) evnil)) (rdiffer_pure ((nth (o.tr) (k))) ((nth (o.tr) (k + 1 + j))) (hpl k (by omega)) (hpl (k + 1 + j) (by omega))) (fzv_mapcanon _ _ (by simp [-List.map_take, -List.map_drop, -List.map_append, -List.map_reverse])) (by simp [-List.map_take, -List.map_drop, -List.map_append, -List.map_reverse]) (Or.inl (by simp [-List.map_take, -List.map_drop, -List.map_append, -List.map_reverse])) ?_
                              refine G_yes (Eq.trans (@rfl V (V.bool (exB (claB o k) (k + 1) j))) (bbF g10)) ?_
                              refine R_geq (x := (df ((nth (o.tr) (k))) ((nth (o.tr) (k + 1 + j))))) (y := (0 : Int)) (@rfl V (iV (df ((nth (o.tr) (k))) ((nth (o.tr) (k + 1 + j)))))) (@rfl V (iV (0 : Int))) ?_
                              refine R_pickF (Eq.trans (@rfl V (V.bool (exB (claB o k) (k + 1) j))) (bbF g10)) (@rfl V (V.bool (decide ((0 : Int) ≤ (df ((nth (o.tr) (k))) ((nth (o.tr) (k + 1 + j)))))))) ?_
                              exact ⟨t1, t3, t4, t5, t6, (Eq.trans (@rfl V (V.bool (decide ((0 : Int) ≤ (df ((nth (o.tr) (k))) ((nth (o.tr) (k + 1 + j)))))))) (borF g10)), h1, trivial⟩
                          · intro T H ⟨t1, t3, t4, t5, t6, t53, h1, _⟩
                            refine R_mv t53 ?_
                            exact R_nil ⟨t1, t3, t4, rfl, t6, h1, trivial⟩
                        · intro T H ⟨t1, t3, t4, t5, t6, h1, _⟩
                          refine n8 _ _ ?_
                          refine .done ?_
                          refine W_regc (fun T H => T 1 = (V.mp 1 1 0 0) ∧ T 3 = (iV ((k : Nat) : Int)) ∧ T 4 = (V.bool (((exB (preB o k) (k + 1) j) || (hp ((nth (o.tr) (k + 1 + j)).ni) ((nth (o.tr) (k)).ni))))) ∧ T 5 = (V.bool (((exB (claB o k) (k + 1) j) || decide ((0 : Int) ≤ (df ((nth (o.tr) (k))) ((nth (o.tr) (k + 1 + j)))))))) ∧ T 6 = (iV ((k + 1 + j + 1 : Nat) : Int)) ∧ H 1 = (⟨1, true, false, 34, 2, [[(iV (o.i)), (V.sl (List.map cT (o.tr)))]]⟩ : Blk) ∧ True) ?_ ?_
                          · unfold r62_7
                            refine R_mv t6 ?_
                            refine R_addN (m := (k + 1 + j)) (n := 1) (@rfl V (iV ((k + 1 + j : Nat) : Int))) (@rfl V (iV ((1 : Nat) : Int))) (by omega) ?_
                            refine R_mv (@rfl V (iV ((k + 1 + j + 1 : Nat) : Int))) ?_
                            exact R_nil ⟨t1, t3, t4, t5, rfl, h1, trivial⟩
                          · intro T H ⟨t1, t3, t4, t5, t6, h1, _⟩
                            refine p16 _ _ _ ?_ ⟨j + 1, rfl, t1, t3, (Eq.trans t4 (by first | rfl | simp)), (Eq.trans t5 (by first | rfl | simp)), (Eq.trans t6 (by first | rfl | simp)), h1, ?_⟩
                            · omega
                            · omega
                    ·
                      refine W_seq_exit ?_
                      refine p36 _ _ _ ?_
                      refine x5 _ _ ?_
                      refine .done ?_
                      refine W_seq_seq ?_
                      refine W_seq_regc (fun T H => T 1 = (V.mp 1 1 0 0) ∧ T 3 = (iV ((k : Nat) : Int)) ∧ T 5 = (V.bool (exB (claB o k) (k + 1) j)) ∧ T 54 = (V.bool (exB (preB o k) (k + 1) j)) ∧ H 1 = (⟨1, true, false, 34, 2, [[(iV (o.i)), (V.sl (List.map cT (o.tr)))]]⟩ : Blk) ∧ True) ?_ ?_
                      · unfold r62_10
                        refine R_mv t4 ?_
                        exact R_nil ⟨t1, t3, t5, rfl, h1, trivial⟩
                      · intro T H ⟨t1, t3, t5, t54, h1, _⟩
                        refine W_seq_ifb t54 (fun c11 => ?_) (fun c11 => ?_)
                        ·
                          have d1 := c11
                          refine W_seq_seq ?_
                          refine W_seq_regc (fun T H => T 2 = (iV (7 : Int)) ∧ H 1 = (⟨1, true, false, 34, 2, [[(iV (o.i)), (V.sl (List.map cT (o.tr)))]]⟩ : Blk) ∧ True) ?_ ?_
                          · unfold r62_11
                            refine R_mv (@rfl V (iV (7 : Int))) ?_
                            exact R_nil ⟨rfl, h1, trivial⟩
                          · intro T H ⟨t2, h1, _⟩
                            refine W_seq_ret ?_
                            refine y4 _ _ ?_
                            refine p22 _ _ ?_
                            refine y1 _ _ ?_
                            refine Ret_1 t2 (fz_int ?_)
                            · have e : j = o.tr.length - (k + 1) := by omega
                              subst e
                              rw [hc, fe_hit (by rw [apE, if_pos d1]; decide) (by omega), apE, if_pos d1]
                        ·
                          have d1 := c11
                          refine W_seq_skip ?_
                          refine W_seq_regc (fun T H => T 1 = (V.mp 1 1 0 0) ∧ T 3 = (iV ((k : Nat) : Int)) ∧ T 55 = (V.bool (exB (claB o k) (k + 1) j)) ∧ H 1 = (⟨1, true, false, 34, 2, [[(iV (o.i)), (V.sl (List.map cT (o.tr)))]]⟩ : Blk) ∧ True) ?_ ?_
                          · unfold r62_12
                            refine R_mv t5 ?_
                            exact R_nil ⟨t1, t3, rfl, h1, trivial⟩
                          · intro T H ⟨t1, t3, t55, h1, _⟩
                            refine W_ifb t55 (fun c12 => ?_) (fun c12 => ?_)
                            ·
                              have d2 := c12
                              refine W_seq_regc (fun T H => T 2 = (iV (13 : Int)) ∧ H 1 = (⟨1, true, false, 34, 2, [[(iV (o.i)), (V.sl (List.map cT (o.tr)))]]⟩ : Blk) ∧ True) ?_ ?_
                              · unfold r62_13
                                refine R_mv (@rfl V (iV (13 : Int))) ?_
                                exact R_nil ⟨rfl, h1, trivial⟩
                              · intro T H ⟨t2, h1, _⟩
                                refine W_ret ?_
                                refine y4 _ _ ?_
                                refine p22 _ _ ?_
                                refine y1 _ _ ?_
                                refine Ret_1 t2 (fz_int ?_)
                                · have e : j = o.tr.length - (k + 1) := by omega
                                  subst e
                                  rw [hc, fe_hit (by rw [apE, if_neg (by simp [d1]), if_pos d2]; decide) (by omega), apE, if_neg (by simp [d1]), if_pos d2]
                            ·
                              have d2 := c12
                              refine W_skip ?_
                              refine n4 _ _ ?_
                              refine .done ?_
                              refine W_regc (fun T H => T 1 = (V.mp 1 1 0 0) ∧ T 3 = (iV ((k + 1 : Nat) : Int)) ∧ H 1 = (⟨1, true, false, 34, 2, [[(iV (o.i)), (V.sl (List.map cT (o.tr)))]]⟩ : Blk) ∧ True) ?_ ?_
                              · unfold r62_3
                                refine R_mv t3 ?_
                                refine R_addN (m := k) (n := 1) (@rfl V (iV ((k : Nat) : Int))) (@rfl V (iV ((1 : Nat) : Int))) (by omega) ?_
                                refine R_mv (@rfl V (iV ((k + 1 : Nat) : Int))) ?_
                                exact R_nil ⟨t1, rfl, h1, trivial⟩
                              · intro T H ⟨t1, t3, h1, _⟩
                                refine p12 _ _ _ ?_ ⟨(k + 1), rfl, t1, (Eq.trans t3 (by first | rfl | simp)), h1, ?_, ?_⟩
                                · omega
                                · omega
                                · have e : j = o.tr.length - (k + 1) := by omega
                                  subst e
                                  rw [hc, fe_skip (by rw [apE, if_neg (by simp [d1]), if_neg (by simp [d2])]) (by omega)]
          ·
            refine W_seq_exit ?_
            refine p32 _ _ _ ?_
            refine x1 _ _ ?_
            refine .done ?_
            refine W_seq_regc (fun T H => T 2 = (iV (0 : Int)) ∧ H 1 = (⟨1, true, false, 34, 2, [[(iV (o.i)), (V.sl (List.map cT (o.tr)))]]⟩ : Blk) ∧ True) ?_ ?_
            · unfold r62_14
              refine R_mv (@rfl V (iV (0 : Int))) ?_
              exact R_nil ⟨rfl, h1, trivial⟩
            · intro T H ⟨t2, h1, _⟩
              refine W_ret ?_
              refine Ret_1 t2 (fz_int ?_)
              · rw [hc, fe_end (by omega)]

end Go.Proofs.Ytngkckefanbhgaa

namespace Go.Proofs.Ytngkckefanbhgaa
open Go Go.Proofs

theorem roval_pure (o : Ob) : PureC Try.prog 20 [(V.agg [(iV (o.i)), (V.sl (List.map cT (o.tr)))])] (iV (oval o)) := by
  refine pure_of_Wb true 6 Try.func20 s20_ok (by kernel_rfl) (by simp [s20]) (by simp) (by simp) fun hB => ?_
  simp only [bnd_map, bnd_int, bnd_bool, bnd_str, bnd_agg, bnd_pp, bnd_nil, bnd_cons, implies_true, and_true, true_and] at hB
  unfold s20
  dsimp only
  refine W_seq_regc (fun T H => T 1 = (V.mp 1 1 0 0) ∧ H 1 = (⟨1, true, false, 34, 2, [[(iV (o.i)), (V.sl (List.map cT (o.tr)))]]⟩ : Blk) ∧ H 4 = (⟨0, false, false, 0, 0, []⟩ : Blk) ∧ True) ?_ ?_
  · unfold r20_0
    refine R_box (i := 1) (n := 0) (m := 2) (cs := [(iV (o.i)), (V.sl (List.map cT (o.tr)))]) rfl (congrArg Blk.ver rfl) (@rfl V (V.agg [(iV (o.i)), (V.sl (List.map cT (o.tr)))])) rfl rfl ?_
    refine R_mv (@rfl V (iV (0 : Int))) ?_
    exact R_nil ⟨rfl, rfl, rfl, trivial⟩
  · intro T H ⟨t1, h1, h4, _⟩
    refine W_seq_seq ?_
    refine W_seq_regc (fun T H => T 1 = (V.mp 1 1 0 0) ∧ T 14 = (V.bool (decide (((o.i) < (1 : Int)) ∨ ((64 : Int) < (o.i))))) ∧ H 1 = (⟨1, true, false, 34, 2, [[(iV (o.i)), (V.sl (List.map cT (o.tr)))]]⟩ : Blk) ∧ H 4 = (⟨0, false, false, 0, 0, []⟩ : Blk) ∧ True) ?_ ?_
    · unfold r20_1
      refine R_fld_mp (o' := 0) t1 h1 (by first | rfl | simp [okB, Blk.own]) rfl ?_
      refine R_load_mp (v := (iV (o.i))) (@rfl V (V.mp 1 1 0 0)) h1 (by first | rfl | simp [ldB, ldV, Blk.own, V.one]) ?_
      refine R_lss (x := (o.i)) (y := (1 : Int)) (@rfl V (iV (o.i))) (@rfl V (iV (1 : Int))) ?_
      refine R_mv (@rfl V (V.bool (decide ((o.i) < (1 : Int))))) ?_
      refine Ops_seg 4 (fun T H => T 1 = (V.mp 1 1 0 0) ∧ T 14 = (V.bool (decide (((o.i) < (1 : Int)) ∨ ((64 : Int) < (o.i))))) ∧ H 1 = (⟨1, true, false, 34, 2, [[(iV (o.i)), (V.sl (List.map cT (o.tr)))]]⟩ : Blk) ∧ H 4 = (⟨0, false, false, 0, 0, []⟩ : Blk) ∧ True) ?_ ?_
      · by_cases g1 : (o.i) < (1 : Int)
        ·
          refine G_no (Eq.trans (@rfl V (V.bool (decide ((o.i) < (1 : Int))))) (bdT g1)) (by decide) ?_
          refine G_no (Eq.trans (@rfl V (V.bool (decide ((o.i) < (1 : Int))))) (bdT g1)) (by decide) ?_
          refine G_no (Eq.trans (@rfl V (V.bool (decide ((o.i) < (1 : Int))))) (bdT g1)) (by decide) ?_
          refine R_pickT (Eq.trans (@rfl V (V.bool (decide ((o.i) < (1 : Int))))) (bdT g1)) (@rfl V (V.bool true)) ?_
          exact ⟨t1, (Eq.trans (@rfl V (V.bool true)) (dec_orT g1)), h1, h4, trivial⟩
        ·
          refine G_yes (Eq.trans (@rfl V (V.bool (decide ((o.i) < (1 : Int))))) (bdF g1)) ?_
          refine R_fld_mp (o' := 0) t1 h1 (by first | rfl | simp [okB, Blk.own]) rfl ?_
          refine G_yes (Eq.trans (@rfl V (V.bool (decide ((o.i) < (1 : Int))))) (bdF g1)) ?_
          refine R_load_mp (v := (iV (o.i))) (@rfl V (V.mp 1 1 0 0)) h1 (by first | rfl | simp [ldB, ldV, Blk.own, V.one]) ?_
          refine G_yes (Eq.trans (@rfl V (V.bool (decide ((o.i) < (1 : Int))))) (bdF g1)) ?_
          refine R_gtr (x := (o.i)) (y := (64 : Int)) (@rfl V (iV (o.i))) (@rfl V (iV (64 : Int))) ?_
          refine R_pickF (Eq.trans (@rfl V (V.bool (decide ((o.i) < (1 : Int))))) (bdF g1)) (@rfl V (V.bool (decide ((64 : Int) < (o.i))))) ?_
          exact ⟨t1, (Eq.trans (@rfl V (V.bool (decide ((64 : Int) < (o.i))))) (dec_orF g1)), h1, h4, trivial⟩
      · intro T H ⟨t1, t14, h1, h4, _⟩
        exact R_nil ⟨t1, t14, h1, h4, trivial⟩
    · intro T H ⟨t1, t14, h1, h4, _⟩
      refine W_seq_if (p := ((o.i) < (1 : Int)) ∨ ((64 : Int) < (o.i))) t14 (fun c2 => ?_) (fun c2 => ?_)
      ·
        refine W_seq_seq ?_
        refine W_seq_regc (fun T H => T 2 = (iV (2 : Int)) ∧ H 1 = (⟨1, true, false, 34, 2, [[(iV (o.i)), (V.sl (List.map cT (o.tr)))]]⟩ : Blk) ∧ H 4 = (⟨0, false, false, 0, 0, []⟩ : Blk) ∧ True) ?_ ?_
        · unfold r20_2
          refine R_mv (@rfl V (iV (2 : Int))) ?_
          exact R_nil ⟨rfl, h1, h4, trivial⟩
        · intro T H ⟨t2, h1, h4, _⟩
          refine W_seq_ret ?_
          refine Ret_1 t2 (fz_int ?_)
          · rw [oval, if_pos (by omega)]
      ·
        refine W_seq_skip ?_
        refine W_seq_seq ?_
        refine W_seq_regc (fun T H => T 1 = (V.mp 1 1 0 0) ∧ T 18 = (V.bool (decide ((10000 : Int) < ((o.tr.length : Nat) : Int)))) ∧ H 1 = (⟨1, true, false, 34, 2, [[(iV (o.i)), (V.sl (List.map cT (o.tr)))]]⟩ : Blk) ∧ H 4 = (⟨0, false, false, 0, 0, []⟩ : Blk) ∧ True) ?_ ?_
        · unfold r20_3
          refine R_fld_mp (o' := 1) t1 h1 (by first | rfl | simp [okB, Blk.own]) rfl ?_
          refine R_load_mp (v := (V.sl (List.map cT (o.tr)))) (@rfl V (V.mp 1 1 0 1)) h1 (by first | rfl | simp [ldB, ldV, Blk.own, V.one]) ?_
          refine R_len (@rfl V (V.sl (List.map cT (o.tr)))) ?_
          refine R_gtr (x := ((o.tr.length : Nat) : Int)) (y := (10000 : Int)) (@rfl V (iV ((o.tr.length : Nat) : Int))) (@rfl V (iV (10000 : Int))) ?_
          exact R_nil ⟨t1, rfl, h1, h4, trivial⟩
        · intro T H ⟨t1, t18, h1, h4, _⟩
          refine W_seq_if (p := (10000 : Int) < ((o.tr.length : Nat) : Int)) t18 (fun c3 => ?_) (fun c3 => ?_)
          ·
            refine W_seq_seq ?_
            refine W_seq_regc (fun T H => T 2 = (iV (11 : Int)) ∧ H 1 = (⟨1, true, false, 34, 2, [[(iV (o.i)), (V.sl (List.map cT (o.tr)))]]⟩ : Blk) ∧ H 4 = (⟨0, false, false, 0, 0, []⟩ : Blk) ∧ True) ?_ ?_
            · unfold r20_4
              refine R_mv (@rfl V (iV (11 : Int))) ?_
              exact R_nil ⟨rfl, h1, h4, trivial⟩
            · intro T H ⟨t2, h1, h4, _⟩
              refine W_seq_ret ?_
              refine Ret_1 t2 (fz_int ?_)
              · rw [oval, if_neg (by omega), if_pos (by omega)]
          ·
            refine W_seq_skip ?_
            refine W_seq_seq ?_
            refine W_seq_regc (fun T H => T 1 = (V.mp 1 1 0 0) ∧ T 3 = (iV (0 : Int)) ∧ H 1 = (⟨1, true, false, 34, 2, [[(iV (o.i)), (V.sl (List.map cT (o.tr)))]]⟩ : Blk) ∧ H 4 = (⟨0, false, false, 0, 0, []⟩ : Blk) ∧ True) ?_ ?_
            · unfold r20_5
              refine R_mv (@rfl V (iV (0 : Int))) ?_
              exact R_nil ⟨t1, rfl, h1, h4, trivial⟩
            · intro T H ⟨t1, t3, h1, h4, _⟩
              refine W_seq_blockg fun Q4 n4 x4 y4 z4 => ?_
              refine W_loop (fun mm T H => ∃ (k : Nat) (v4 : Nat), mm = o.tr.length - k ∧ T 1 = (V.mp 1 1 0 0) ∧ T 3 = (iV ((k : Nat) : Int)) ∧ H 1 = (⟨1, true, false, 34, 2, [[(iV (o.i)), (V.sl (List.map cT (o.tr)))]]⟩ : Blk) ∧ (H 4).ver = v4 ∧ (k ≤ o.tr.length) ∧ (1 ≤ o.i ∧ o.i ≤ 64 ∧ o.tr.length ≤ 10000) ∧ (fe (trE o) 0 o.tr.length = fe (trE o) k (o.tr.length - k)) ∧ (∀ j, j < k → (nth o.tr j).no.length = (nth o.tr j).ni.length)) ?_ ?_
              · refine ⟨_, 0, 0, rfl, t1, (Eq.trans t3 (by first | rfl | simp)), h1, (congrArg Blk.ver h4), ?_, ?_, ?_, ?_⟩
                · omega
                · omega
                · rfl
                · intro j hj; omega
              · intro mm T H ⟨k, v4, hmm, t1, t3, h1, h4, hk, hh, hc, hpl⟩ Q5 p15 p25 p35
                unfold b20_0
                refine W_seq_seq ?_
                refine W_seq_regc (fun T H => T 1 = (V.mp 1 1 0 0) ∧ T 3 = (iV ((k : Nat) : Int)) ∧ T 23 = (V.bool (decide (((k : Nat) : Int) < ((o.tr.length : Nat) : Int)))) ∧ H 1 = (⟨1, true, false, 34, 2, [[(iV (o.i)), (V.sl (List.map cT (o.tr)))]]⟩ : Blk) ∧ (H 4).ver = v4 ∧ True) ?_ ?_
                · unfold r20_6
                  refine R_mv t3 ?_
                  refine R_fld_mp (o' := 1) t1 h1 (by first | rfl | simp [okB, Blk.own]) rfl ?_
                  refine R_load_mp (v := (V.sl (List.map cT (o.tr)))) (@rfl V (V.mp 1 1 0 1)) h1 (by first | rfl | simp [ldB, ldV, Blk.own, V.one]) ?_
                  refine R_len (@rfl V (V.sl (List.map cT (o.tr)))) ?_
                  refine R_lss (x := ((k : Nat) : Int)) (y := ((o.tr.length : Nat) : Int)) (@rfl V (iV ((k : Nat) : Int))) (@rfl V (iV ((o.tr.length : Nat) : Int))) ?_
                  exact R_nil ⟨t1, t3, rfl, h1, h4, trivial⟩
                · intro T H ⟨t1, t3, t23, h1, h4, _⟩
                  refine W_seq_if (p := ((k : Nat) : Int) < ((o.tr.length : Nat) : Int)) t23 (fun c6 => ?_) (fun c6 => ?_)
                  ·
                    refine W_seq_skip ?_
                    refine W_seq_blockg fun Q7 n7 x7 y7 z7 => ?_
                    refine W_seq_regc (fun T H => T 1 = (V.mp 1 1 0 0) ∧ T 3 = (iV ((k : Nat) : Int)) ∧ T 4 = (V.mp 4 (v4 + 1) 0 0) ∧ H 1 = (⟨1, true, false, 34, 2, [[(iV (o.i)), (V.sl (List.map cT (o.tr)))]]⟩ : Blk) ∧ H 4 = (⟨v4 + 1, true, false, 63, 2, [[(V.sl (List.map cI ((nth (o.tr) (k)).ni))), (V.sl (List.map cI ((nth (o.tr) (k)).no)))]]⟩ : Blk) ∧ True) ?_ ?_
                    · unfold r20_8
                      refine R_fld_mp (o' := 1) t1 h1 (by first | rfl | simp [okB, Blk.own]) rfl ?_
                      refine R_load_mp (v := (V.sl (List.map cT (o.tr)))) (@rfl V (V.mp 1 1 0 1)) h1 (by first | rfl | simp [ldB, ldV, Blk.own, V.one]) ?_
                      refine R_mv t3 ?_
                      refine R_idx (i := k) (@rfl V (V.sl (List.map cT (o.tr)))) (@rfl V (iV ((k : Nat) : Int))) (by omega) rfl ?_
                      refine R_load_pp (v := (V.agg [(V.sl (List.map cI ((nth (o.tr) (k)).ni))), (V.sl (List.map cI ((nth (o.tr) (k)).no)))])) (@rfl V (V.pp [(V.sl (List.map cI ((nth (o.tr) (k)).ni))), (V.sl (List.map cI ((nth (o.tr) (k)).no)))])) (by first | rfl | simp [ldV]) ?_
                      refine R_alloc (i := 4) (n := v4) (m := 2) rfl h4 rfl ?_
                      refine R_store (vs := [(V.sl (List.map cI ((nth (o.tr) (k)).ni))), (V.sl (List.map cI ((nth (o.tr) (k)).no)))]) (B' := (⟨v4 + 1, true, false, 63, 2, [[(V.sl (List.map cI ((nth (o.tr) (k)).ni))), (V.sl (List.map cI ((nth (o.tr) (k)).no)))]]⟩ : Blk)) (@rfl V (V.mp 4 (v4 + 1) 0 0)) (@rfl V (V.agg [(V.sl (List.map cI ((nth (o.tr) (k)).ni))), (V.sl (List.map cI ((nth (o.tr) (k)).no)))])) rfl (@rfl Blk (⟨v4 + 1, true, false, 63, 2, [[V.nilsl, V.nilsl]]⟩ : Blk)) (by first | rfl | simp [stB, okB, Blk.own, putAt, V.one]) ?_
                      exact R_nil ⟨t1, t3, rfl, h1, rfl, trivial⟩
                    · intro T H ⟨t1, t3, t4, h1, h4, _⟩
                      refine W_seq_seq ?_
                      refine W_seq_regc (fun T H => T 1 = (V.mp 1 1 0 0) ∧ T 3 = (iV ((k : Nat) : Int)) ∧ T 4 = (V.mp 4 (v4 + 1) 0 0) ∧ T 5 = (iV (wchk ((nth (o.tr) (k)).ni) ((o.i)))) ∧ H 1 = (⟨1, true, false, 34, 2, [[(iV (o.i)), (V.sl (List.map cT (o.tr)))]]⟩ : Blk) ∧ H 4 = (⟨v4 + 1, true, false, 63, 2, [[(V.sl (List.map cI ((nth (o.tr) (k)).ni))), (V.sl (List.map cI ((nth (o.tr) (k)).no)))]]⟩ : Blk) ∧ True) ?_ ?_
                      · unfold r20_9
                        refine R_fld_mp (o' := 0) t4 h4 (by first | rfl | simp [okB, Blk.own]) rfl ?_
                        refine R_load_mp (v := (V.sl (List.map cI ((nth (o.tr) (k)).ni)))) (@rfl V (V.mp 4 (v4 + 1) 0 0)) h4 (by first | rfl | simp [ldB, ldV, Blk.own, V.one]) ?_
                        refine R_fld_mp (o' := 0) t1 h1 (by first | rfl | simp [okB, Blk.own]) rfl ?_
                        refine R_load_mp (v := (iV (o.i))) (@rfl V (V.mp 1 1 0 0)) h1 (by first | rfl | simp [ldB, ldV, Blk.own, V.one]) ?_
                        refine R_call (evcons (@rfl V (V.sl (List.map cI ((nth (o.tr) (k)).ni)))) (evcons (@rfl V (iV (o.i))) evnil)) (rcheck_pure ((nth (o.tr) (k)).ni) ((o.i))) (fzv_mapcanon _ _ (by simp [-List.map_take, -List.map_drop, -List.map_append, -List.map_reverse])) (by simp [-List.map_take, -List.map_drop, -List.map_append, -List.map_reverse]) (Or.inl (by simp [-List.map_take, -List.map_drop, -List.map_append, -List.map_reverse])) ?_
                        refine R_mv (@rfl V (iV (wchk ((nth (o.tr) (k)).ni) ((o.i))))) ?_
                        exact R_nil ⟨t1, t3, t4, rfl, h1, h4, trivial⟩
                      · intro T H ⟨t1, t3, t4, t5, h1, h4, _⟩
                        refine W_seq_seq ?_
                        refine W_seq_regc (fun T H => T 1 = (V.mp 1 1 0 0) ∧ T 3 = (iV ((k : Nat) : Int)) ∧ T 4 = (V.mp 4 (v4 + 1) 0 0) ∧ T 5 = (iV (wchk ((nth (o.tr) (k)).ni) ((o.i)))) ∧ T 37 = (V.bool (decide ((wchk ((nth (o.tr) (k)).ni) ((o.i))) ≠ (0 : Int)))) ∧ H 1 = (⟨1, true, false, 34, 2, [[(iV (o.i)), (V.sl (List.map cT (o.tr)))]]⟩ : Blk) ∧ H 4 = (⟨v4 + 1, true, false, 63, 2, [[(V.sl (List.map cI ((nth (o.tr) (k)).ni))), (V.sl (List.map cI ((nth (o.tr) (k)).no)))]]⟩ : Blk) ∧ True) ?_ ?_
                        · unfold r20_10
                          refine R_mv t5 ?_
                          refine R_neq (x := (wchk ((nth (o.tr) (k)).ni) ((o.i)))) (y := (0 : Int)) (@rfl V (iV (wchk ((nth (o.tr) (k)).ni) ((o.i))))) (@rfl V (iV (0 : Int))) ?_
                          exact R_nil ⟨t1, t3, t4, t5, rfl, h1, h4, trivial⟩
                        · intro T H ⟨t1, t3, t4, t5, t37, h1, h4, _⟩
                          refine W_seq_if (p := (wchk ((nth (o.tr) (k)).ni) ((o.i))) ≠ (0 : Int)) t37 (fun c8 => ?_) (fun c8 => ?_)
                          ·
                            refine W_seq_seq ?_
                            refine W_seq_regc (fun T H => T 2 = (iV (wchk ((nth (o.tr) (k)).ni) ((o.i)))) ∧ H 1 = (⟨1, true, false, 34, 2, [[(iV (o.i)), (V.sl (List.map cT (o.tr)))]]⟩ : Blk) ∧ H 4 = (⟨v4 + 1, true, false, 63, 2, [[(V.sl (List.map cI ((nth (o.tr) (k)).ni))), (V.sl (List.map cI ((nth (o.tr) (k)).no)))]]⟩ : Blk) ∧ True) ?_ ?_
                            · unfold r20_11
                              refine R_mv t5 ?_
                              refine R_mv (@rfl V (iV (wchk ((nth (o.tr) (k)).ni) ((o.i))))) ?_
                              exact R_nil ⟨rfl, h1, h4, trivial⟩
                            · intro T H ⟨t2, h1, h4, _⟩
                              refine W_seq_ret ?_
                              refine y7 _ _ ?_
                              refine p25 _ _ ?_
                              refine y4 _ _ ?_
                              refine Ret_1 t2 (fz_int ?_)
                              · have e : trE o k = wchk (nth o.tr k).ni o.i := by rw [trE, if_pos (by omega)]
                                have e2 : fe (trE o) 0 o.tr.length = trE o k := by rw [hc]; exact fe_hit (by omega) (by omega)
                                rw [oval, if_neg (by omega), if_neg (by omega), if_pos (by omega)]; omega
                          ·
                            refine W_seq_skip ?_
                            refine W_seq_seq ?_
                            refine W_seq_regc (fun T H => T 1 = (V.mp 1 1 0 0) ∧ T 3 = (iV ((k : Nat) : Int)) ∧ T 4 = (V.mp 4 (v4 + 1) 0 0) ∧ T 42 = (V.bool (decide (((((nth (o.tr) (k)).ni).length : Nat) : Int) = (0 : Int)))) ∧ H 1 = (⟨1, true, false, 34, 2, [[(iV (o.i)), (V.sl (List.map cT (o.tr)))]]⟩ : Blk) ∧ H 4 = (⟨v4 + 1, true, false, 63, 2, [[(V.sl (List.map cI ((nth (o.tr) (k)).ni))), (V.sl (List.map cI ((nth (o.tr) (k)).no)))]]⟩ : Blk) ∧ True) ?_ ?_
                            · unfold r20_12
                              refine R_fld_mp (o' := 0) t4 h4 (by first | rfl | simp [okB, Blk.own]) rfl ?_
                              refine R_load_mp (v := (V.sl (List.map cI ((nth (o.tr) (k)).ni)))) (@rfl V (V.mp 4 (v4 + 1) 0 0)) h4 (by first | rfl | simp [ldB, ldV, Blk.own, V.one]) ?_
                              refine R_len (@rfl V (V.sl (List.map cI ((nth (o.tr) (k)).ni)))) ?_
                              refine R_eql (x := ((((nth (o.tr) (k)).ni).length : Nat) : Int)) (y := (0 : Int)) (@rfl V (iV ((((nth (o.tr) (k)).ni).length : Nat) : Int))) (@rfl V (iV (0 : Int))) ?_
                              exact R_nil ⟨t1, t3, t4, rfl, h1, h4, trivial⟩
                            · intro T H ⟨t1, t3, t4, t42, h1, h4, _⟩
                              refine W_seq_if (p := ((((nth (o.tr) (k)).ni).length : Nat) : Int) = (0 : Int)) t42 (fun c9 => ?_) (fun c9 => ?_)
                              ·
                                refine W_seq_seq ?_
                                refine W_seq_regc (fun T H => T 2 = (iV (19 : Int)) ∧ H 1 = (⟨1, true, false, 34, 2, [[(iV (o.i)), (V.sl (List.map cT (o.tr)))]]⟩ : Blk) ∧ H 4 = (⟨v4 + 1, true, false, 63, 2, [[(V.sl (List.map cI ((nth (o.tr) (k)).ni))), (V.sl (List.map cI ((nth (o.tr) (k)).no)))]]⟩ : Blk) ∧ True) ?_ ?_
                                · unfold r20_13
                                  refine R_mv (@rfl V (iV (19 : Int))) ?_
                                  exact R_nil ⟨rfl, h1, h4, trivial⟩
                                · intro T H ⟨t2, h1, h4, _⟩
                                  refine W_seq_ret ?_
                                  refine y7 _ _ ?_
                                  refine p25 _ _ ?_
                                  refine y4 _ _ ?_
                                  refine Ret_1 t2 (fz_int ?_)
                                  · have e : trE o k = 19 := by rw [trE, if_neg (by omega), if_pos (by omega)]
                                    have e2 : fe (trE o) 0 o.tr.length = trE o k := by rw [hc]; exact fe_hit (by omega) (by omega)
                                    rw [oval, if_neg (by omega), if_neg (by omega), if_pos (by omega)]; omega
                              ·
                                refine W_seq_skip ?_
                                refine W_seq_seq ?_
                                refine W_seq_regc (fun T H => T 1 = (V.mp 1 1 0 0) ∧ T 3 = (iV ((k : Nat) : Int)) ∧ T 4 = (V.mp 4 (v4 + 1) 0 0) ∧ T 6 = (iV (prE ((nth (o.tr) (k))) ((o.i)))) ∧ H 1 = (⟨1, true, false, 34, 2, [[(iV (o.i)), (V.sl (List.map cT (o.tr)))]]⟩ : Blk) ∧ H 4 = (⟨v4 + 1, true, false, 63, 2, [[(V.sl (List.map cI ((nth (o.tr) (k)).ni))), (V.sl (List.map cI ((nth (o.tr) (k)).no)))]]⟩ : Blk) ∧ True) ?_ ?_
                                · unfold r20_14
                                  refine R_load_mp (v := (V.agg [(V.sl (List.map cI ((nth (o.tr) (k)).ni))), (V.sl (List.map cI ((nth (o.tr) (k)).no)))])) t4 h4 (by first | rfl | simp [ldB, ldV, Blk.own, V.one]) ?_
                                  refine R_fld_mp (o' := 0) t1 h1 (by first | rfl | simp [okB, Blk.own]) rfl ?_
                                  refine R_load_mp (v := (iV (o.i))) (@rfl V (V.mp 1 1 0 0)) h1 (by first | rfl | simp [ldB, ldV, Blk.own, V.one]) ?_
                                  refine R_call (evcons (@rfl V (V.agg [(V.sl (List.map cI ((nth (o.tr) (k)).ni))), (V.sl (List.map cI ((nth (o.tr) (k)).no)))])) (evcons (@rfl V (iV (o.i))) evnil)) (rproper_pure ((nth (o.tr) (k))) ((o.i))) (fzv_mapcanon _ _ (by simp [-List.map_take, -List.map_drop, -List.map_append, -List.map_reverse])) (by simp [-List.map_take, -List.map_drop, -List.map_append, -List.map_reverse]) (Or.inl (by simp [-List.map_take, -List.map_drop, -List.map_append, -List.map_reverse])) ?_
                                  refine R_mv (@rfl V (iV (prE ((nth (o.tr) (k))) ((o.i))))) ?_
                                  exact R_nil ⟨t1, t3, t4, rfl, h1, h4, trivial⟩
                                · intro T H ⟨t1, t3, t4, t6, h1, h4, _⟩
                                  refine W_seq_seq ?_
                                  refine W_seq_regc (fun T H => T 1 = (V.mp 1 1 0 0) ∧ T 3 = (iV ((k : Nat) : Int)) ∧ T 4 = (V.mp 4 (v4 + 1) 0 0) ∧ T 6 = (iV (prE ((nth (o.tr) (k))) ((o.i)))) ∧ T 48 = (V.bool (decide ((prE ((nth (o.tr) (k))) ((o.i))) ≠ (0 : Int)))) ∧ H 1 = (⟨1, true, false, 34, 2, [[(iV (o.i)), (V.sl (List.map cT (o.tr)))]]⟩ : Blk) ∧ H 4 = (⟨v4 + 1, true, false, 63, 2, [[(V.sl (List.map cI ((nth (o.tr) (k)).ni))), (V.sl (List.map cI ((nth (o.tr) (k)).no)))]]⟩ : Blk) ∧ True) ?_ ?_
                                  · unfold r20_15
                                    refine R_mv t6 ?_
                                    refine R_neq (x := (prE ((nth (o.tr) (k))) ((o.i)))) (y := (0 : Int)) (@rfl V (iV (prE ((nth (o.tr) (k))) ((o.i))))) (@rfl V (iV (0 : Int))) ?_
                                    exact R_nil ⟨t1, t3, t4, t6, rfl, h1, h4, trivial⟩
                                  · intro T H ⟨t1, t3, t4, t6, t48, h1, h4, _⟩
                                    refine W_seq_if (p := (prE ((nth (o.tr) (k))) ((o.i))) ≠ (0 : Int)) t48 (fun c10 => ?_) (fun c10 => ?_)
                                    ·
                                      refine W_seq_seq ?_
                                      refine W_seq_regc (fun T H => T 2 = (iV (prE ((nth (o.tr) (k))) ((o.i)))) ∧ H 1 = (⟨1, true, false, 34, 2, [[(iV (o.i)), (V.sl (List.map cT (o.tr)))]]⟩ : Blk) ∧ H 4 = (⟨v4 + 1, true, false, 63, 2, [[(V.sl (List.map cI ((nth (o.tr) (k)).ni))), (V.sl (List.map cI ((nth (o.tr) (k)).no)))]]⟩ : Blk) ∧ True) ?_ ?_
                                      · unfold r20_16
                                        refine R_mv t6 ?_
                                        refine R_mv (@rfl V (iV (prE ((nth (o.tr) (k))) ((o.i))))) ?_
                                        exact R_nil ⟨rfl, h1, h4, trivial⟩
                                      · intro T H ⟨t2, h1, h4, _⟩
                                        refine W_seq_ret ?_
                                        refine y7 _ _ ?_
                                        refine p25 _ _ ?_
                                        refine y4 _ _ ?_
                                        refine Ret_1 t2 (fz_int ?_)
                                        · have e : trE o k = prE (nth o.tr k) o.i := by rw [trE, if_neg (by omega), if_neg (by omega), if_pos (by omega)]
                                          have e2 : fe (trE o) 0 o.tr.length = trE o k := by rw [hc]; exact fe_hit (by omega) (by omega)
                                          rw [oval, if_neg (by omega), if_neg (by omega), if_pos (by omega)]; rw [e2, e]
                                    ·
                                      refine W_seq_skip ?_
                                      refine W_seq_regc (fun T H => T 1 = (V.mp 1 1 0 0) ∧ T 3 = (iV ((k : Nat) : Int)) ∧ T 64 = (V.bool (decide (((0 : Int) < ((k : Nat) : Int)) ∧ ((0 : Int) ≤ (slx ((nth (o.tr) (((k : Nat) : Int) - (1 : Int)).toNat).ni) ((nth (o.tr) (k)).ni)))))) ∧ H 1 = (⟨1, true, false, 34, 2, [[(iV (o.i)), (V.sl (List.map cT (o.tr)))]]⟩ : Blk) ∧ H 4 = (⟨v4 + 1, true, false, 63, 2, [[(V.sl (List.map cI ((nth (o.tr) (k)).ni))), (V.sl (List.map cI ((nth (o.tr) (k)).no)))]]⟩ : Blk) ∧ True) ?_ ?_
                                      · unfold r20_17
                                        refine R_mv t3 ?_
                                        refine R_gtr (x := ((k : Nat) : Int)) (y := (0 : Int)) (@rfl V (iV ((k : Nat) : Int))) (@rfl V (iV (0 : Int))) ?_
                                        refine R_mv (@rfl V (V.bool (decide ((0 : Int) < ((k : Nat) : Int))))) ?_
                                        refine Ops_seg 12 (fun T H => T 1 = (V.mp 1 1 0 0) ∧ T 3 = (iV ((k : Nat) : Int)) ∧ T 64 = (V.bool (decide (((0 : Int) < ((k : Nat) : Int)) ∧ ((0 : Int) ≤ (slx ((nth (o.tr) (((k : Nat) : Int) - (1 : Int)).toNat).ni) ((nth (o.tr) (k)).ni)))))) ∧ H 1 = (⟨1, true, false, 34, 2, [[(iV (o.i)), (V.sl (List.map cT (o.tr)))]]⟩ : Blk) ∧ H 4 = (⟨v4 + 1, true, false, 63, 2, [[(V.sl (List.map cI ((nth (o.tr) (k)).ni))), (V.sl (List.map cI ((nth (o.tr) (k)).no)))]]⟩ : Blk) ∧ True) ?_ ?_
                                        · by_cases g11 : (0 : Int) < ((k : Nat) : Int)
                                          ·
                                            refine G_yes (Eq.trans (@rfl V (V.bool (decide ((0 : Int) < ((k : Nat) : Int))))) (bdT g11)) ?_
                                            refine R_fld_mp (o' := 1) t1 h1 (by first | rfl | simp [okB, Blk.own]) rfl ?_
                                            refine G_yes (Eq.trans (@rfl V (V.bool (decide ((0 : Int) < ((k : Nat) : Int))))) (bdT g11)) ?_
                                            refine R_load_mp (v := (V.sl (List.map cT (o.tr)))) (@rfl V (V.mp 1 1 0 1)) h1 (by first | rfl | simp [ldB, ldV, Blk.own, V.one]) ?_
                                            refine G_yes (Eq.trans (@rfl V (V.bool (decide ((0 : Int) < ((k : Nat) : Int))))) (bdT g11)) ?_
                                            refine R_mv t3 ?_
                                            refine G_yes (Eq.trans (@rfl V (V.bool (decide ((0 : Int) < ((k : Nat) : Int))))) (bdT g11)) ?_
                                            refine R_sub (x := ((k : Nat) : Int)) (y := (1 : Int)) (@rfl V (iV ((k : Nat) : Int))) (@rfl V (iV (1 : Int))) (by omega) (by omega) ?_
                                            refine G_yes (Eq.trans (@rfl V (V.bool (decide ((0 : Int) < ((k : Nat) : Int))))) (bdT g11)) ?_
                                            refine R_idxI (i := (((k : Nat) : Int) - (1 : Int))) (@rfl V (V.sl (List.map cT (o.tr)))) (@rfl V (iV (((k : Nat) : Int) - (1 : Int)))) (by omega) (by omega) rfl ?_
                                            refine G_yes (Eq.trans (@rfl V (V.bool (decide ((0 : Int) < ((k : Nat) : Int))))) (bdT g11)) ?_
                                            refine R_fld_pp (cs' := [(V.sl (List.map cI ((nth (o.tr) (((k : Nat) : Int) - (1 : Int)).toNat).ni))), (V.sl (List.map cI ((nth (o.tr) (((k : Nat) : Int) - (1 : Int)).toNat).no)))]) (@rfl V (V.pp [(V.sl (List.map cI ((nth (o.tr) (((k : Nat) : Int) - (1 : Int)).toNat).ni))), (V.sl (List.map cI ((nth (o.tr) (((k : Nat) : Int) - (1 : Int)).toNat).no)))])) rfl ?_
                                            refine G_yes (Eq.trans (@rfl V (V.bool (decide ((0 : Int) < ((k : Nat) : Int))))) (bdT g11)) ?_
                                            refine R_load_pp (v := (V.sl (List.map cI ((nth (o.tr) (((k : Nat) : Int) - (1 : Int)).toNat).ni)))) (@rfl V (V.pp [(V.sl (List.map cI ((nth (o.tr) (((k : Nat) : Int) - (1 : Int)).toNat).ni))), (V.sl (List.map cI ((nth (o.tr) (((k : Nat) : Int) - (1 : Int)).toNat).no)))])) (by first | rfl | simp [ldV]) ?_
                                            refine G_yes (Eq.trans (@rfl V (V.bool (decide ((0 : Int) < ((k : Nat) : Int))))) (bdT g11)) ?_
                                            refine R_fld_mp (o' := 0) t4 h4 (by first | rfl | simp [okB, Blk.own]) rfl ?_
                                            refine G_yes (Eq.trans (@rfl V (V.bool (decide ((0 : Int) < ((k : Nat) : Int))))) (bdT g11)) ?_
                                            refine R_load_mp (v := (V.sl (List.map cI ((nth (o.tr) (k)).ni)))) (@rfl V (V.mp 4 (v4 + 1) 0 0)) h4 (by first | rfl | simp [ldB, ldV, Blk.own, V.one]) ?_
                                            refine G_yes (Eq.trans (@rfl V (V.bool (decide ((0 : Int) < ((k : Nat) : Int))))) (bdT g11)) ?_
                                            refine R_call (evcons (@rfl V (V.sl (List.map cI ((nth (o.tr) (((k : Nat) : Int) - (1 : Int)).toNat).ni)))) (evcons (@rfl V (V.sl (List.map cI ((nth (o.tr) (k)).ni)))) evnil)) (rcompare_pure ((nth (o.tr) (((k : Nat) : Int) - (1 : Int)).toNat).ni) ((nth (o.tr) (k)).ni)) (fzv_mapcanon _ _ (by simp [-List.map_take, -List.map_drop, -List.map_append, -List.map_reverse])) (by simp [-List.map_take, -List.map_drop, -List.map_append, -List.map_reverse]) (Or.inl (by simp [-List.map_take, -List.map_drop, -List.map_append, -List.map_reverse])) ?_
                                            refine G_yes (Eq.trans (@rfl V (V.bool (decide ((0 : Int) < ((k : Nat) : Int))))) (bdT g11)) ?_
                                            refine R_geq (x := (slx ((nth (o.tr) (((k : Nat) : Int) - (1 : Int)).toNat).ni) ((nth (o.tr) (k)).ni))) (y := (0 : Int)) (@rfl V (iV (slx ((nth (o.tr) (((k : Nat) : Int) - (1 : Int)).toNat).ni) ((nth (o.tr) (k)).ni)))) (@rfl V (iV (0 : Int))) ?_
                                            refine R_pickT (Eq.trans (@rfl V (V.bool (decide ((0 : Int) < ((k : Nat) : Int))))) (bdT g11)) (@rfl V (V.bool (decide ((0 : Int) ≤ (slx ((nth (o.tr) (((k : Nat) : Int) - (1 : Int)).toNat).ni) ((nth (o.tr) (k)).ni)))))) ?_
                                            exact ⟨t1, t3, (Eq.trans (@rfl V (V.bool (decide ((0 : Int) ≤ (slx ((nth (o.tr) (((k : Nat) : Int) - (1 : Int)).toNat).ni) ((nth (o.tr) (k)).ni)))))) (dec_andT g11)), h1, h4, trivial⟩
                                          ·
                                            refine G_no (Eq.trans (@rfl V (V.bool (decide ((0 : Int) < ((k : Nat) : Int))))) (bdF g11)) (by decide) ?_
                                            refine G_no (Eq.trans (@rfl V (V.bool (decide ((0 : Int) < ((k : Nat) : Int))))) (bdF g11)) (by decide) ?_
                                            refine G_no (Eq.trans (@rfl V (V.bool (decide ((0 : Int) < ((k : Nat) : Int))))) (bdF g11)) (by decide) ?_
                                            refine G_no (Eq.trans (@rfl V (V.bool (decide ((0 : Int) < ((k : Nat) : Int))))) (bdF g11)) (by decide) ?_
                                            refine G_no (Eq.trans (@rfl V (V.bool (decide ((0 : Int) < ((k : Nat) : Int))))) (bdF g11)) (by decide) ?_
                                            refine G_no (Eq.trans (@rfl V (V.bool (decide ((0 : Int) < ((k : Nat) : Int))))) (bdF g11)) (by decide) ?_
                                            refine G_no (Eq.trans (@rfl V (V.bool (decide ((0 : Int) < ((k : Nat) : Int))))) (bdF g11)) (by decide) ?_
                                            refine G_no (Eq.trans (@rfl V (V.bool (decide ((0 : Int) < ((k : Nat) : Int))))) (bdF g11)) (by decide) ?_
                                            refine G_no (Eq.trans (@rfl V (V.bool (decide ((0 : Int) < ((k : Nat) : Int))))) (bdF g11)) (by decide) ?_
                                            refine G_no (Eq.trans (@rfl V (V.bool (decide ((0 : Int) < ((k : Nat) : Int))))) (bdF g11)) (by decide) ?_
                                            refine G_no (Eq.trans (@rfl V (V.bool (decide ((0 : Int) < ((k : Nat) : Int))))) (bdF g11)) (by decide) ?_
                                            refine R_pickF (Eq.trans (@rfl V (V.bool (decide ((0 : Int) < ((k : Nat) : Int))))) (bdF g11)) (@rfl V (V.bool false)) ?_
                                            exact ⟨t1, t3, (Eq.trans (@rfl V (V.bool false)) (dec_andF g11)), h1, h4, trivial⟩
                                        · intro T H ⟨t1, t3, t64, h1, h4, _⟩
                                          exact R_nil ⟨t1, t3, t64, h1, h4, trivial⟩
                                      · intro T H ⟨t1, t3, t64, h1, h4, _⟩
                                        refine W_if (p := ((0 : Int) < ((k : Nat) : Int)) ∧ ((0 : Int) ≤ (slx ((nth (o.tr) (((k : Nat) : Int) - (1 : Int)).toNat).ni) ((nth (o.tr) (k)).ni)))) t64 (fun c12 => ?_) (fun c12 => ?_)
                                        ·
                                          rw [show (((k : Nat) : Int) - (1)).toNat = k - 1 by omega] at c12
                                          refine W_seq_regc (fun T H => T 2 = (iV (10 : Int)) ∧ H 1 = (⟨1, true, false, 34, 2, [[(iV (o.i)), (V.sl (List.map cT (o.tr)))]]⟩ : Blk) ∧ H 4 = (⟨v4 + 1, true, false, 63, 2, [[(V.sl (List.map cI ((nth (o.tr) (k)).ni))), (V.sl (List.map cI ((nth (o.tr) (k)).no)))]]⟩ : Blk) ∧ True) ?_ ?_
                                          · unfold r20_18
                                            refine R_mv (@rfl V (iV (10 : Int))) ?_
                                            exact R_nil ⟨rfl, h1, h4, trivial⟩
                                          · intro T H ⟨t2, h1, h4, _⟩
                                            refine W_ret ?_
                                            refine y7 _ _ ?_
                                            refine p25 _ _ ?_
                                            refine y4 _ _ ?_
                                            refine Ret_1 t2 (fz_int ?_)
                                            · have e : trE o k = 10 := by rw [trE, if_neg (by omega), if_neg (by omega), if_neg (by omega), if_pos (by omega)]
                                              have e2 : fe (trE o) 0 o.tr.length = trE o k := by rw [hc]; exact fe_hit (by omega) (by omega)
                                              rw [oval, if_neg (by omega), if_neg (by omega), if_pos (by omega)]; omega
                                        ·
                                          rw [show (((k : Nat) : Int) - (1)).toNat = k - 1 by omega] at c12
                                          refine W_skip ?_
                                          refine n7 _ _ ?_
                                          refine .done ?_
                                          refine W_regc (fun T H => T 1 = (V.mp 1 1 0 0) ∧ T 3 = (iV ((k + 1 : Nat) : Int)) ∧ H 1 = (⟨1, true, false, 34, 2, [[(iV (o.i)), (V.sl (List.map cT (o.tr)))]]⟩ : Blk) ∧ H 4 = (⟨v4 + 1, true, false, 63, 2, [[(V.sl (List.map cI ((nth (o.tr) (k)).ni))), (V.sl (List.map cI ((nth (o.tr) (k)).no)))]]⟩ : Blk) ∧ True) ?_ ?_
                                          · unfold r20_7
                                            refine R_mv t3 ?_
                                            refine R_addN (m := k) (n := 1) (@rfl V (iV ((k : Nat) : Int))) (@rfl V (iV ((1 : Nat) : Int))) (by omega) ?_
                                            refine R_mv (@rfl V (iV ((k + 1 : Nat) : Int))) ?_
                                            exact R_nil ⟨t1, rfl, h1, h4, trivial⟩
                                          · intro T H ⟨t1, t3, h1, h4, _⟩
                                            refine p15 _ _ _ ?_ ⟨(k + 1), (v4 + 1), rfl, t1, (Eq.trans t3 (by first | rfl | simp)), h1, (congrArg Blk.ver h4), ?_, ?_, ?_, ?_⟩
                                            · omega
                                            · omega
                                            · omega
                                            · have e : trE o k = 0 := by rw [trE, if_neg (by omega), if_neg (by omega), if_neg (by omega), if_neg (by omega)]
                                              rw [hc]; exact fe_skip e (by omega)
                                            · intro j hj
                                              by_cases e : j = k
                                              · subst e; exact (prE_ok (n := o.i) (by omega)).len
                                              · exact hpl j (by omega)
                  ·
                    refine W_seq_exit ?_
                    refine p35 _ _ _ ?_
                    refine x4 _ _ ?_
                    refine .done ?_
                    refine W_seq_regc (fun T H => T 2 = (iV (fe (apE o) 0 o.tr.length)) ∧ H 1 = (⟨1, true, false, 34, 2, [[(iV (o.i)), (V.sl (List.map cT (o.tr)))]]⟩ : Blk) ∧ (H 4).ver = v4 ∧ True) ?_ ?_
                    · unfold r20_19
                      refine R_load_mp (v := (V.agg [(iV (o.i)), (V.sl (List.map cT (o.tr)))])) t1 h1 (by first | rfl | simp [ldB, ldV, Blk.own, V.one]) ?_
                      refine R_call (evcons (@rfl V (V.agg [(iV (o.i)), (V.sl (List.map cT (o.tr)))])) evnil) (rapart_pure o (fun j hj => hpl j (by omega))) (fzv_mapcanon _ _ (by simp [-List.map_take, -List.map_drop, -List.map_append, -List.map_reverse])) (by simp [-List.map_take, -List.map_drop, -List.map_append, -List.map_reverse]) (Or.inl (by simp [-List.map_take, -List.map_drop, -List.map_append, -List.map_reverse])) ?_
                      refine R_mv (@rfl V (iV (fe (apE o) 0 o.tr.length))) ?_
                      exact R_nil ⟨rfl, h1, h4, trivial⟩
                    · intro T H ⟨t2, h1, h4, _⟩
                      refine W_ret ?_
                      refine Ret_1 t2 (fz_int ?_)
                      · rw [oval, if_neg (by omega), if_neg (by omega), if_neg (by rw [hc, fe_end (by omega)]; omega)]

end Go.Proofs.Ytngkckefanbhgaa

namespace Go.Proofs.Ytngkckefanbhgaa
open Go Go.Proofs

theorem permitted_pure (n : Int) : PureC Try.prog 104 [(iV (n))] (V.bool (decide (1 ≤ n ∧ n ≤ 1024))) := by
  refine pure_of_Wb true 6 Try.func104 s104_ok (by kernel_rfl) (by simp [s104]) (by simp) (by simp) fun hB => ?_
  simp only [bnd_map, bnd_int, bnd_bool, bnd_str, bnd_agg, bnd_pp, bnd_nil, bnd_cons, implies_true, and_true, true_and] at hB
  unfold s104
  dsimp only
  refine W_seq_regc (fun T H => T 0 = (iV (n)) ∧ True) ?_ ?_
  · unfold r104_0
    refine R_mv (@rfl V (V.bool false)) ?_
    exact R_nil ⟨rfl, trivial⟩
  · intro T H ⟨t0, _⟩
    refine W_seq_regc (fun T H => T 2 = (V.bool (decide (((1 : Int) ≤ (n)) ∧ ((n) ≤ (1024 : Int))))) ∧ True) ?_ ?_
    · unfold r104_1
      refine R_mv t0 ?_
      refine R_geq (x := (n)) (y := (1 : Int)) (@rfl V (iV (n))) (@rfl V (iV (1 : Int))) ?_
      refine R_mv (@rfl V (V.bool (decide ((1 : Int) ≤ (n))))) ?_
      refine Ops_seg 3 (fun T H => T 8 = (V.bool (decide (((1 : Int) ≤ (n)) ∧ ((n) ≤ (1024 : Int))))) ∧ True) ?_ ?_
      · by_cases g1 : (1 : Int) ≤ (n)
        ·
          refine G_yes (Eq.trans (@rfl V (V.bool (decide ((1 : Int) ≤ (n))))) (bdT g1)) ?_
          refine R_mv t0 ?_
          refine G_yes (Eq.trans (@rfl V (V.bool (decide ((1 : Int) ≤ (n))))) (bdT g1)) ?_
          refine R_leq (x := (n)) (y := (1024 : Int)) (@rfl V (iV (n))) (@rfl V (iV (1024 : Int))) ?_
          refine R_pickT (Eq.trans (@rfl V (V.bool (decide ((1 : Int) ≤ (n))))) (bdT g1)) (@rfl V (V.bool (decide ((n) ≤ (1024 : Int))))) ?_
          exact ⟨(Eq.trans (@rfl V (V.bool (decide ((n) ≤ (1024 : Int))))) (dec_andT g1)), trivial⟩
        ·
          refine G_no (Eq.trans (@rfl V (V.bool (decide ((1 : Int) ≤ (n))))) (bdF g1)) (by decide) ?_
          refine G_no (Eq.trans (@rfl V (V.bool (decide ((1 : Int) ≤ (n))))) (bdF g1)) (by decide) ?_
          refine R_pickF (Eq.trans (@rfl V (V.bool (decide ((1 : Int) ≤ (n))))) (bdF g1)) (@rfl V (V.bool false)) ?_
          exact ⟨(Eq.trans (@rfl V (V.bool false)) (dec_andF g1)), trivial⟩
      · intro T H ⟨t8, _⟩
        refine R_mv t8 ?_
        exact R_nil ⟨rfl, trivial⟩
    · intro T H ⟨t2, _⟩
      refine W_ret ?_
      refine Ret_1 t2 (fz_bool ?_)
      · first | rfl | omega | simp_all

end Go.Proofs.Ytngkckefanbhgaa

namespace Go.Proofs.Ytngkckefanbhgaa
open Go Go.Proofs

theorem check1_pure (a n : Int) : PureC Try.prog 106 [(iV (a)), (V.pp [(iV (n))])] (V.bool (decide (a < 0 ∨ n ≤ a))) := by
  refine pure_of_Wb true 6 Try.func106 s106_ok (by kernel_rfl) (by simp [s106]) (by simp) (by simp) fun hB => ?_
  simp only [bnd_map, bnd_int, bnd_bool, bnd_str, bnd_agg, bnd_pp, bnd_nil, bnd_cons, implies_true, and_true, true_and] at hB
  unfold s106
  dsimp only
  refine W_seq_regc (fun T H => T 0 = (iV (a)) ∧ T 1 = (V.pp [(iV (n))]) ∧ True) ?_ ?_
  · unfold r106_0
    refine R_mv (@rfl V (V.bool false)) ?_
    exact R_nil ⟨rfl, rfl, trivial⟩
  · intro T H ⟨t0, t1, _⟩
    refine W_seq_regc (fun T H => T 3 = (V.bool (decide (((a) < (0 : Int)) ∨ ((n) ≤ (a))))) ∧ True) ?_ ?_
    · unfold r106_1
      refine R_mv t0 ?_
      refine R_lss (x := (a)) (y := (0 : Int)) (@rfl V (iV (a))) (@rfl V (iV (0 : Int))) ?_
      refine R_mv (@rfl V (V.bool (decide ((a) < (0 : Int))))) ?_
      refine Ops_seg 4 (fun T H => T 10 = (V.bool (decide (((a) < (0 : Int)) ∨ ((n) ≤ (a))))) ∧ True) ?_ ?_
      · by_cases g1 : (a) < (0 : Int)
        ·
          refine G_no (Eq.trans (@rfl V (V.bool (decide ((a) < (0 : Int))))) (bdT g1)) (by decide) ?_
          refine G_no (Eq.trans (@rfl V (V.bool (decide ((a) < (0 : Int))))) (bdT g1)) (by decide) ?_
          refine G_no (Eq.trans (@rfl V (V.bool (decide ((a) < (0 : Int))))) (bdT g1)) (by decide) ?_
          refine R_pickT (Eq.trans (@rfl V (V.bool (decide ((a) < (0 : Int))))) (bdT g1)) (@rfl V (V.bool true)) ?_
          exact ⟨(Eq.trans (@rfl V (V.bool true)) (dec_orT g1)), trivial⟩
        ·
          refine G_yes (Eq.trans (@rfl V (V.bool (decide ((a) < (0 : Int))))) (bdF g1)) ?_
          refine R_mv t0 ?_
          refine G_yes (Eq.trans (@rfl V (V.bool (decide ((a) < (0 : Int))))) (bdF g1)) ?_
          refine R_load_pp (v := (iV (n))) t1 (by first | rfl | simp [ldV]) ?_
          refine G_yes (Eq.trans (@rfl V (V.bool (decide ((a) < (0 : Int))))) (bdF g1)) ?_
          refine R_geq (x := (a)) (y := (n)) (@rfl V (iV (a))) (@rfl V (iV (n))) ?_
          refine R_pickF (Eq.trans (@rfl V (V.bool (decide ((a) < (0 : Int))))) (bdF g1)) (@rfl V (V.bool (decide ((n) ≤ (a))))) ?_
          exact ⟨(Eq.trans (@rfl V (V.bool (decide ((n) ≤ (a))))) (dec_orF g1)), trivial⟩
      · intro T H ⟨t10, _⟩
        refine R_mv t10 ?_
        exact R_nil ⟨rfl, trivial⟩
    · intro T H ⟨t3, _⟩
      refine W_ret ?_
      refine Ret_1 t3 (fz_bool ?_)
      · first | rfl | omega | simp_all

end Go.Proofs.Ytngkckefanbhgaa

namespace Go.Proofs.Ytngkckefanbhgaa
open Go Go.Proofs

theorem index_pure (w : List Int) (n : Int) (hw : w.length ≤ 1024) : PureC Try.prog 120 [(V.sl (List.map cI (w))), (V.fn 106 [] [(V.pp [(iV (n))])])] (iV (fi (inE w n) 0 w.length)) := by
  refine pure_of_Wb true 6 Try.func120 s120_ok (by kernel_rfl) (by simp [s120]) (by simp) (by simp) fun hB => ?_
  simp only [bnd_map, bnd_int, bnd_bool, bnd_str, bnd_agg, bnd_pp, bnd_nil, bnd_cons, implies_true, and_true, true_and] at hB
  unfold s120
  dsimp only
  refine W_seq_regc (fun T H => T 0 = (V.sl (List.map cI (w))) ∧ T 1 = (V.fn 106 [] [(V.pp [(iV (n))])]) ∧ True) ?_ ?_
  · unfold r120_0
    refine R_mv (@rfl V (iV (0 : Int))) ?_
    exact R_nil ⟨rfl, rfl, trivial⟩
  · intro T H ⟨t0, t1, _⟩
    refine W_seq_seq ?_
    refine W_seq_regc (fun T H => T 0 = (V.sl (List.map cI (w))) ∧ T 1 = (V.fn 106 [] [(V.pp [(iV (n))])]) ∧ T 7 = (iV ((w.length : Nat) : Int)) ∧ T 8 = (iV (0 : Int)) ∧ True) ?_ ?_
    · unfold r120_1
      refine R_mv t0 ?_
      refine R_len (@rfl V (V.sl (List.map cI (w)))) ?_
      refine R_mv (@rfl V (iV (0 : Int))) ?_
      exact R_nil ⟨t0, t1, rfl, rfl, trivial⟩
    · intro T H ⟨t0, t1, t7, t8, _⟩
      refine W_seq_blockg fun Q1 n1 x1 y1 z1 => ?_
      refine W_loop (fun mm T H => ∃ (k : Nat), mm = w.length - k ∧ T 0 = (V.sl (List.map cI (w))) ∧ T 1 = (V.fn 106 [] [(V.pp [(iV (n))])]) ∧ T 7 = (iV ((w.length : Nat) : Int)) ∧ T 8 = (iV ((k : Nat) : Int)) ∧ (k ≤ w.length) ∧ (fi (inE w n) 0 w.length = fi (inE w n) k (w.length - k))) ?_ ?_
      · refine ⟨_, 0, rfl, t0, t1, t7, (Eq.trans t8 (by first | rfl | simp)), ?_, ?_⟩
        · omega
        · rfl
      · intro mm T H ⟨k, hmm, t0, t1, t7, t8, hk, hc⟩ Q2 p12 p22 p32
        unfold b120_0
        refine W_seq_regc (fun T H => T 0 = (V.sl (List.map cI (w))) ∧ T 1 = (V.fn 106 [] [(V.pp [(iV (n))])]) ∧ T 7 = (iV ((w.length : Nat) : Int)) ∧ T 8 = (iV ((k : Nat) : Int)) ∧ T 9 = (V.bool (decide (((k : Nat) : Int) < ((w.length : Nat) : Int)))) ∧ True) ?_ ?_
        · unfold r120_2
          refine R_lss (x := ((k : Nat) : Int)) (y := ((w.length : Nat) : Int)) t8 t7 ?_
          exact R_nil ⟨t0, t1, t7, t8, rfl, trivial⟩
        · intro T H ⟨t0, t1, t7, t8, t9, _⟩
          refine W_seq_if (p := ((k : Nat) : Int) < ((w.length : Nat) : Int)) t9 (fun c3 => ?_) (fun c3 => ?_)
          ·
            refine W_seq_skip ?_
            refine W_seq_blockg fun Q4 n4 x4 y4 z4 => ?_
            refine W_seq_regc (fun T H => T 0 = (V.sl (List.map cI (w))) ∧ T 1 = (V.fn 106 [] [(V.pp [(iV (n))])]) ∧ T 5 = (iV ((k : Nat) : Int)) ∧ T 7 = (iV ((w.length : Nat) : Int)) ∧ T 8 = (iV ((k : Nat) : Int)) ∧ True) ?_ ?_
            · unfold r120_3
              refine R_mv t8 ?_
              refine R_mv (@rfl V (iV ((k : Nat) : Int))) ?_
              exact R_nil ⟨t0, t1, rfl, t7, t8, trivial⟩
            · intro T H ⟨t0, t1, t5, t7, t8, _⟩
              refine W_seq_regc (fun T H => T 0 = (V.sl (List.map cI (w))) ∧ T 1 = (V.fn 106 [] [(V.pp [(iV (n))])]) ∧ T 5 = (iV ((k : Nat) : Int)) ∧ T 7 = (iV ((w.length : Nat) : Int)) ∧ T 8 = (iV ((k : Nat) : Int)) ∧ T 16 = (V.bool (decide ((((nth (w) (k)))) < 0 ∨ ((n)) ≤ (((nth (w) (k))))))) ∧ True) ?_ ?_
              · unfold r120_4
                refine R_mv t1 ?_
                refine R_mv t0 ?_
                refine R_mv t5 ?_
                refine R_idx (i := k) (@rfl V (V.sl (List.map cI (w)))) (@rfl V (iV ((k : Nat) : Int))) (by omega) rfl ?_
                refine R_load_pp (v := (iV ((nth (w) (k))))) (@rfl V (V.pp [(iV ((nth (w) (k))))])) (by first | rfl | simp [ldV]) ?_
                refine R_callv (@rfl V (V.fn 106 [] [(V.pp [(iV (n))])])) (evcons (@rfl V (iV ((nth (w) (k))))) evnil) (check1_pure (((nth (w) (k)))) ((n))) (fzv_mapcanon _ _ (by simp [-List.map_take, -List.map_drop, -List.map_append, -List.map_reverse])) (by simp [-List.map_take, -List.map_drop, -List.map_append, -List.map_reverse]) (Or.inl (by simp [-List.map_take, -List.map_drop, -List.map_append, -List.map_reverse])) ?_
                exact R_nil ⟨t0, t1, t5, t7, t8, rfl, trivial⟩
              · intro T H ⟨t0, t1, t5, t7, t8, t16, _⟩
                refine W_if (p := (((nth (w) (k)))) < 0 ∨ ((n)) ≤ (((nth (w) (k))))) t16 (fun c5 => ?_) (fun c5 => ?_)
                ·
                  refine W_seq_regc (fun T H => T 4 = (iV ((k : Nat) : Int)) ∧ True) ?_ ?_
                  · unfold r120_5
                    refine R_mv t5 ?_
                    refine R_mv (@rfl V (iV ((k : Nat) : Int))) ?_
                    exact R_nil ⟨rfl, trivial⟩
                  · intro T H ⟨t4, _⟩
                    refine W_ret ?_
                    refine y4 _ _ ?_
                    refine p22 _ _ ?_
                    refine y1 _ _ ?_
                    refine Ret_1 t4 (fz_int ?_)
                    · rw [hc, fi_hit (by simp only [inE, decide_eq_true_eq]; omega) (by omega)]
                ·
                  refine W_skip ?_
                  refine n4 _ _ ?_
                  refine .done ?_
                  refine W_regc (fun T H => T 0 = (V.sl (List.map cI (w))) ∧ T 1 = (V.fn 106 [] [(V.pp [(iV (n))])]) ∧ T 7 = (iV ((w.length : Nat) : Int)) ∧ T 8 = (iV ((k + 1 : Nat) : Int)) ∧ True) ?_ ?_
                  · unfold r120_6
                    refine R_addN (m := k) (n := 1) t8 (@rfl V (iV ((1 : Nat) : Int))) (by omega) ?_
                    refine R_mv (@rfl V (iV ((k + 1 : Nat) : Int))) ?_
                    exact R_nil ⟨t0, t1, t7, rfl, trivial⟩
                  · intro T H ⟨t0, t1, t7, t8, _⟩
                    refine p12 _ _ _ ?_ ⟨(k + 1), rfl, t0, t1, t7, (Eq.trans t8 (by first | rfl | simp)), ?_, ?_⟩
                    · omega
                    · omega
                    · rw [hc, fi_skip (by simp only [inE, decide_eq_false_iff_not]; omega) (by omega)]
          ·
            refine W_seq_exit ?_
            refine p32 _ _ _ ?_
            refine x1 _ _ ?_
            refine .done ?_
            refine W_seq_regc (fun T H => T 4 = (iV (-1 : Int)) ∧ True) ?_ ?_
            · unfold r120_7
              refine R_mv (@rfl V (iV (-1 : Int))) ?_
              exact R_nil ⟨rfl, trivial⟩
            · intro T H ⟨t4, _⟩
              refine W_ret ?_
              refine Ret_1 t4 (fz_int ?_)
              · rw [hc, fi_end (by omega)]

end Go.Proofs.Ytngkckefanbhgaa

namespace Go.Proofs.Ytngkckefanbhgaa
open Go Go.Proofs

theorem contains_pure (w : List Int) (n : Int) (hw : w.length ≤ 1024) : PureC Try.prog 105 [(V.sl (List.map cI (w))), (V.fn 106 [] [(V.pp [(iV (n))])])] (V.bool (decide (0 ≤ fi (inE w n) 0 w.length))) := by
  refine pure_of_Wb true 6 Try.func105 s105_ok (by kernel_rfl) (by simp [s105]) (by simp) (by simp) fun hB => ?_
  simp only [bnd_map, bnd_int, bnd_bool, bnd_str, bnd_agg, bnd_pp, bnd_nil, bnd_cons, implies_true, and_true, true_and] at hB
  unfold s105
  dsimp only
  refine W_seq_regc (fun T H => T 0 = (V.sl (List.map cI (w))) ∧ T 1 = (V.fn 106 [] [(V.pp [(iV (n))])]) ∧ True) ?_ ?_
  · unfold r105_0
    refine R_mv (@rfl V (V.bool false)) ?_
    exact R_nil ⟨rfl, rfl, trivial⟩
  · intro T H ⟨t0, t1, _⟩
    refine W_seq_regc (fun T H => T 4 = (V.bool (decide ((0 : Int) ≤ (fi (inE w ((n))) 0 w.length)))) ∧ True) ?_ ?_
    · unfold r105_1
      refine R_mv t0 ?_
      refine R_mv t1 ?_
      refine R_call (evcons (@rfl V (V.sl (List.map cI (w)))) (evcons (@rfl V (V.fn 106 [] [(V.pp [(iV (n))])])) evnil)) (index_pure w ((n)) (by first | omega | assumption)) (fzv_mapcanon _ _ (by simp [-List.map_take, -List.map_drop, -List.map_append, -List.map_reverse])) (by simp [-List.map_take, -List.map_drop, -List.map_append, -List.map_reverse]) (Or.inl (by simp [-List.map_take, -List.map_drop, -List.map_append, -List.map_reverse])) ?_
      refine R_geq (x := (fi (inE w ((n))) 0 w.length)) (y := (0 : Int)) (@rfl V (iV (fi (inE w ((n))) 0 w.length))) (@rfl V (iV (0 : Int))) ?_
      refine R_mv (@rfl V (V.bool (decide ((0 : Int) ≤ (fi (inE w ((n))) 0 w.length))))) ?_
      exact R_nil ⟨rfl, trivial⟩
    · intro T H ⟨t4, _⟩
      refine W_ret ?_
      refine Ret_1 t4 (fz_bool ?_)
      · first | rfl | omega | simp_all

end Go.Proofs.Ytngkckefanbhgaa

namespace Go.Proofs.Ytngkckefanbhgaa
open Go Go.Proofs

theorem check_pure (w : List Int) (n : Int) : PureC Try.prog 77 [(V.sl (List.map cI (w))), (iV (n))] (iV (wchk w n)) := by
  refine pure_of_Wb true 6 Try.func77 s77_ok (by kernel_rfl) (by simp [s77]) (by simp) (by simp) fun hB => ?_
  simp only [bnd_map, bnd_int, bnd_bool, bnd_str, bnd_agg, bnd_pp, bnd_nil, bnd_cons, implies_true, and_true, true_and] at hB
  unfold s77
  dsimp only
  refine W_seq_regc (fun T H => T 0 = (V.sl (List.map cI (w))) ∧ T 3 = (V.mp 3 1 0 0) ∧ H 3 = (⟨1, true, false, 3, 1, [[(iV (n))]]⟩ : Blk) ∧ True) ?_ ?_
  · unfold r77_0
    refine R_box (i := 3) (n := 0) (m := 1) (cs := [(iV (n))]) rfl (congrArg Blk.ver rfl) (@rfl V (iV (n))) rfl rfl ?_
    refine R_mv (@rfl V (iV (0 : Int))) ?_
    exact R_nil ⟨rfl, rfl, rfl, trivial⟩
  · intro T H ⟨t0, t3, h3, _⟩
    refine W_seq_blockg fun Q1 n1 x1 y1 z1 => ?_
    refine W_seq_regc (fun T H => T 0 = (V.sl (List.map cI (w))) ∧ T 3 = (V.mp 3 1 0 0) ∧ T 5 = (V.bool (decide (¬(1 ≤ ((n)) ∧ ((n)) ≤ 1024)))) ∧ H 3 = (⟨1, true, false, 3, 1, [[(iV (n))]]⟩ : Blk) ∧ True) ?_ ?_
    · unfold r77_1
      refine R_load_mp (v := (iV (n))) t3 h3 (by first | rfl | simp [ldB, ldV, Blk.own, V.one]) ?_
      refine R_call (evcons (@rfl V (iV (n))) evnil) (permitted_pure ((n))) (fzv_mapcanon _ _ (by simp [-List.map_take, -List.map_drop, -List.map_append, -List.map_reverse])) (by simp [-List.map_take, -List.map_drop, -List.map_append, -List.map_reverse]) (Or.inl (by simp [-List.map_take, -List.map_drop, -List.map_append, -List.map_reverse])) ?_
      refine R_not (p := 1 ≤ ((n)) ∧ ((n)) ≤ 1024) (@rfl V (V.bool (decide (1 ≤ ((n)) ∧ ((n)) ≤ 1024)))) ?_
      refine R_mv (@rfl V (V.bool (decide (¬(1 ≤ ((n)) ∧ ((n)) ≤ 1024))))) ?_
      exact R_nil ⟨t0, t3, rfl, h3, trivial⟩
    · intro T H ⟨t0, t3, t5, h3, _⟩
      refine W_if (p := ¬(1 ≤ ((n)) ∧ ((n)) ≤ 1024)) t5 (fun c2 => ?_) (fun c2 => ?_)
      ·
        refine W_seq_regc (fun T H => T 4 = (iV (2 : Int)) ∧ H 3 = (⟨1, true, false, 3, 1, [[(iV (n))]]⟩ : Blk) ∧ True) ?_ ?_
        · unfold r77_2
          refine R_mv (@rfl V (iV (2 : Int))) ?_
          exact R_nil ⟨rfl, h3, trivial⟩
        · intro T H ⟨t4, h3, _⟩
          refine W_ret ?_
          refine y1 _ _ ?_
          refine Ret_1 t4 (fz_int ?_)
          · rw [wchk, if_pos (by omega)]
      ·
        refine W_seq_regc (fun T H => T 0 = (V.sl (List.map cI (w))) ∧ T 3 = (V.mp 3 1 0 0) ∧ T 9 = (V.bool (decide ((1024 : Int) < ((w.length : Nat) : Int)))) ∧ H 3 = (⟨1, true, false, 3, 1, [[(iV (n))]]⟩ : Blk) ∧ True) ?_ ?_
        · unfold r77_3
          refine R_mv t0 ?_
          refine R_len (@rfl V (V.sl (List.map cI (w)))) ?_
          refine R_gtr (x := ((w.length : Nat) : Int)) (y := (1024 : Int)) (@rfl V (iV ((w.length : Nat) : Int))) (@rfl V (iV (1024 : Int))) ?_
          refine R_mv (@rfl V (V.bool (decide ((1024 : Int) < ((w.length : Nat) : Int))))) ?_
          exact R_nil ⟨t0, t3, rfl, h3, trivial⟩
        · intro T H ⟨t0, t3, t9, h3, _⟩
          refine W_if (p := (1024 : Int) < ((w.length : Nat) : Int)) t9 (fun c3 => ?_) (fun c3 => ?_)
          ·
            refine W_seq_regc (fun T H => T 4 = (iV (3 : Int)) ∧ H 3 = (⟨1, true, false, 3, 1, [[(iV (n))]]⟩ : Blk) ∧ True) ?_ ?_
            · unfold r77_4
              refine R_mv (@rfl V (iV (3 : Int))) ?_
              exact R_nil ⟨rfl, h3, trivial⟩
            · intro T H ⟨t4, h3, _⟩
              refine W_ret ?_
              refine y1 _ _ ?_
              refine Ret_1 t4 (fz_int ?_)
              · rw [wchk, if_neg (by omega), if_pos (by omega)]
          ·
            refine W_seq_regc (fun T H => T 13 = (V.bool (decide (0 ≤ fi (inE w ((n))) 0 w.length))) ∧ H 3 = (⟨1, true, false, 3, 1, [[(iV (n))]]⟩ : Blk) ∧ True) ?_ ?_
            · unfold r77_5
              refine R_mv t0 ?_
              refine R_mkf (evcons t3 evnil) ?_
              refine R_call (evcons (@rfl V (V.sl (List.map cI (w)))) (evcons (@rfl V (V.fn 106 [] [(V.mp 3 1 0 0)])) evnil)) (contains_pure w ((n)) (by first | omega | assumption)) (by simp [fzv, Blk.own, h3]) (by simp [-List.map_take, -List.map_drop, -List.map_append, -List.map_reverse]) (Or.inr rfl) ?_
              refine R_mv (@rfl V (V.bool (decide (0 ≤ fi (inE w ((n))) 0 w.length)))) ?_
              exact R_nil ⟨rfl, h3, trivial⟩
            · intro T H ⟨t13, h3, _⟩
              refine W_if (p := 0 ≤ fi (inE w ((n))) 0 w.length) t13 (fun c4 => ?_) (fun c4 => ?_)
              ·
                refine W_seq_regc (fun T H => T 4 = (iV (1 : Int)) ∧ H 3 = (⟨1, true, false, 3, 1, [[(iV (n))]]⟩ : Blk) ∧ True) ?_ ?_
                · unfold r77_6
                  refine R_mv (@rfl V (iV (1 : Int))) ?_
                  exact R_nil ⟨rfl, h3, trivial⟩
                · intro T H ⟨t4, h3, _⟩
                  refine W_ret ?_
                  refine y1 _ _ ?_
                  refine Ret_1 t4 (fz_int ?_)
                  · have e := in_fe w n w.length 0
                    rw [wchk, if_neg (by omega), if_neg (by omega)]; omega
              ·
                refine W_skip ?_
                refine n1 _ _ ?_
                refine .done ?_
                refine W_seq_regc (fun T H => T 4 = (iV (0 : Int)) ∧ H 3 = (⟨1, true, false, 3, 1, [[(iV (n))]]⟩ : Blk) ∧ True) ?_ ?_
                · unfold r77_7
                  refine R_mv (@rfl V (iV (0 : Int))) ?_
                  exact R_nil ⟨rfl, h3, trivial⟩
                · intro T H ⟨t4, h3, _⟩
                  refine W_ret ?_
                  refine Ret_1 t4 (fz_int ?_)
                  · have e := in_fe w n w.length 0
                    rw [wchk, if_neg (by omega), if_neg (by omega)]; omega

end Go.Proofs.Ytngkckefanbhgaa

namespace Go.Proofs.Ytngkckefanbhgaa
open Go Go.Proofs

theorem mvalid_pure (m : M) : PureC Try.prog 55 [(V.agg [(iV (m.i)), (iV (m.s)), (V.sl (List.map cL (m.nx))), (V.sl (List.map cL (m.ot)))])] (iV (mval m)) := by
  refine pure_of_Wb true 6 Try.func55 s55_ok (by kernel_rfl) (by simp [s55]) (by simp) (by simp) fun hB => ?_
  simp only [bnd_map, bnd_int, bnd_bool, bnd_str, bnd_agg, bnd_pp, bnd_nil, bnd_cons, implies_true, and_true, true_and] at hB
  unfold s55
  dsimp only
  refine W_seq_regc (fun T H => T 1 = (V.mp 1 1 0 0) ∧ H 1 = (⟨1, true, false, 24, 4, [[(iV (m.i)), (iV (m.s)), (V.sl (List.map cL (m.nx))), (V.sl (List.map cL (m.ot)))]]⟩ : Blk) ∧ True) ?_ ?_
  · unfold r55_0
    refine R_box (i := 1) (n := 0) (m := 4) (cs := [(iV (m.i)), (iV (m.s)), (V.sl (List.map cL (m.nx))), (V.sl (List.map cL (m.ot)))]) rfl (congrArg Blk.ver rfl) (@rfl V (V.agg [(iV (m.i)), (iV (m.s)), (V.sl (List.map cL (m.nx))), (V.sl (List.map cL (m.ot)))])) rfl rfl ?_
    refine R_mv (@rfl V (iV (0 : Int))) ?_
    exact R_nil ⟨rfl, rfl, trivial⟩
  · intro T H ⟨t1, h1, _⟩
    refine W_seq_regc (fun T H => T 1 = (V.mp 1 1 0 0) ∧ T 3 = (iV ((m.nx.length : Nat) : Int)) ∧ H 1 = (⟨1, true, false, 24, 4, [[(iV (m.i)), (iV (m.s)), (V.sl (List.map cL (m.nx))), (V.sl (List.map cL (m.ot)))]]⟩ : Blk) ∧ True) ?_ ?_
    · unfold r55_1
      refine R_fld_mp (o' := 2) t1 h1 (by first | rfl | simp [okB, Blk.own]) rfl ?_
      refine R_load_mp (v := (V.sl (List.map cL (m.nx)))) (@rfl V (V.mp 1 1 0 2)) h1 (by first | rfl | simp [ldB, ldV, Blk.own, V.one]) ?_
      refine R_len (@rfl V (V.sl (List.map cL (m.nx)))) ?_
      refine R_mv (@rfl V (iV ((m.nx.length : Nat) : Int))) ?_
      exact R_nil ⟨t1, rfl, h1, trivial⟩
    · intro T H ⟨t1, t3, h1, _⟩
      refine W_seq_blockg fun Q1 n1 x1 y1 z1 => ?_
      refine W_seq_regc (fun T H => T 1 = (V.mp 1 1 0 0) ∧ T 3 = (iV ((m.nx.length : Nat) : Int)) ∧ T 11 = (V.bool (decide (((m.i) < (1 : Int)) ∨ ((64 : Int) < (m.i))))) ∧ H 1 = (⟨1, true, false, 24, 4, [[(iV (m.i)), (iV (m.s)), (V.sl (List.map cL (m.nx))), (V.sl (List.map cL (m.ot)))]]⟩ : Blk) ∧ True) ?_ ?_
      · unfold r55_2
        refine R_fld_mp (o' := 0) t1 h1 (by first | rfl | simp [okB, Blk.own]) rfl ?_
        refine R_load_mp (v := (iV (m.i))) (@rfl V (V.mp 1 1 0 0)) h1 (by first | rfl | simp [ldB, ldV, Blk.own, V.one]) ?_
        refine R_lss (x := (m.i)) (y := (1 : Int)) (@rfl V (iV (m.i))) (@rfl V (iV (1 : Int))) ?_
        refine R_mv (@rfl V (V.bool (decide ((m.i) < (1 : Int))))) ?_
        refine Ops_seg 4 (fun T H => T 1 = (V.mp 1 1 0 0) ∧ T 3 = (iV ((m.nx.length : Nat) : Int)) ∧ T 19 = (V.bool (decide (((m.i) < (1 : Int)) ∨ ((64 : Int) < (m.i))))) ∧ H 1 = (⟨1, true, false, 24, 4, [[(iV (m.i)), (iV (m.s)), (V.sl (List.map cL (m.nx))), (V.sl (List.map cL (m.ot)))]]⟩ : Blk) ∧ True) ?_ ?_
        · by_cases g2 : (m.i) < (1 : Int)
          ·
            refine G_no (Eq.trans (@rfl V (V.bool (decide ((m.i) < (1 : Int))))) (bdT g2)) (by decide) ?_
            refine G_no (Eq.trans (@rfl V (V.bool (decide ((m.i) < (1 : Int))))) (bdT g2)) (by decide) ?_
            refine G_no (Eq.trans (@rfl V (V.bool (decide ((m.i) < (1 : Int))))) (bdT g2)) (by decide) ?_
            refine R_pickT (Eq.trans (@rfl V (V.bool (decide ((m.i) < (1 : Int))))) (bdT g2)) (@rfl V (V.bool true)) ?_
            exact ⟨t1, t3, (Eq.trans (@rfl V (V.bool true)) (dec_orT g2)), h1, trivial⟩
          ·
            refine G_yes (Eq.trans (@rfl V (V.bool (decide ((m.i) < (1 : Int))))) (bdF g2)) ?_
            refine R_fld_mp (o' := 0) t1 h1 (by first | rfl | simp [okB, Blk.own]) rfl ?_
            refine G_yes (Eq.trans (@rfl V (V.bool (decide ((m.i) < (1 : Int))))) (bdF g2)) ?_
            refine R_load_mp (v := (iV (m.i))) (@rfl V (V.mp 1 1 0 0)) h1 (by first | rfl | simp [ldB, ldV, Blk.own, V.one]) ?_
            refine G_yes (Eq.trans (@rfl V (V.bool (decide ((m.i) < (1 : Int))))) (bdF g2)) ?_
            refine R_gtr (x := (m.i)) (y := (64 : Int)) (@rfl V (iV (m.i))) (@rfl V (iV (64 : Int))) ?_
            refine R_pickF (Eq.trans (@rfl V (V.bool (decide ((m.i) < (1 : Int))))) (bdF g2)) (@rfl V (V.bool (decide ((64 : Int) < (m.i))))) ?_
            exact ⟨t1, t3, (Eq.trans (@rfl V (V.bool (decide ((64 : Int) < (m.i))))) (dec_orF g2)), h1, trivial⟩
        · intro T H ⟨t1, t3, t19, h1, _⟩
          refine R_mv t19 ?_
          exact R_nil ⟨t1, t3, rfl, h1, trivial⟩
      · intro T H ⟨t1, t3, t11, h1, _⟩
        refine W_if (p := ((m.i) < (1 : Int)) ∨ ((64 : Int) < (m.i))) t11 (fun c3 => ?_) (fun c3 => ?_)
        ·
          refine W_seq_regc (fun T H => T 2 = (iV (2 : Int)) ∧ H 1 = (⟨1, true, false, 24, 4, [[(iV (m.i)), (iV (m.s)), (V.sl (List.map cL (m.nx))), (V.sl (List.map cL (m.ot)))]]⟩ : Blk) ∧ True) ?_ ?_
          · unfold r55_3
            refine R_mv (@rfl V (iV (2 : Int))) ?_
            exact R_nil ⟨rfl, h1, trivial⟩
          · intro T H ⟨t2, h1, _⟩
            refine W_ret ?_
            refine y1 _ _ ?_
            refine Ret_1 t2 (fz_int ?_)
            · rw [mval, if_pos (by omega)]
        ·
          refine W_seq_regc (fun T H => T 1 = (V.mp 1 1 0 0) ∧ T 3 = (iV ((m.nx.length : Nat) : Int)) ∧ T 20 = (V.bool (decide (((m.nx.length : Nat) : Int) = (0 : Int)))) ∧ H 1 = (⟨1, true, false, 24, 4, [[(iV (m.i)), (iV (m.s)), (V.sl (List.map cL (m.nx))), (V.sl (List.map cL (m.ot)))]]⟩ : Blk) ∧ True) ?_ ?_
          · unfold r55_4
            refine R_mv t3 ?_
            refine R_eql (x := ((m.nx.length : Nat) : Int)) (y := (0 : Int)) (@rfl V (iV ((m.nx.length : Nat) : Int))) (@rfl V (iV (0 : Int))) ?_
            refine R_mv (@rfl V (V.bool (decide (((m.nx.length : Nat) : Int) = (0 : Int))))) ?_
            exact R_nil ⟨t1, t3, rfl, h1, trivial⟩
          · intro T H ⟨t1, t3, t20, h1, _⟩
            refine W_if (p := ((m.nx.length : Nat) : Int) = (0 : Int)) t20 (fun c4 => ?_) (fun c4 => ?_)
            ·
              refine W_seq_regc (fun T H => T 2 = (iV (19 : Int)) ∧ H 1 = (⟨1, true, false, 24, 4, [[(iV (m.i)), (iV (m.s)), (V.sl (List.map cL (m.nx))), (V.sl (List.map cL (m.ot)))]]⟩ : Blk) ∧ True) ?_ ?_
              · unfold r55_5
                refine R_mv (@rfl V (iV (19 : Int))) ?_
                exact R_nil ⟨rfl, h1, trivial⟩
              · intro T H ⟨t2, h1, _⟩
                refine W_ret ?_
                refine y1 _ _ ?_
                refine Ret_1 t2 (fz_int ?_)
                · rw [mval, if_neg (by omega), if_pos (by omega)]
            ·
              refine W_seq_regc (fun T H => T 1 = (V.mp 1 1 0 0) ∧ T 3 = (iV ((m.nx.length : Nat) : Int)) ∧ T 23 = (V.bool (decide ((128 : Int) < ((m.nx.length : Nat) : Int)))) ∧ H 1 = (⟨1, true, false, 24, 4, [[(iV (m.i)), (iV (m.s)), (V.sl (List.map cL (m.nx))), (V.sl (List.map cL (m.ot)))]]⟩ : Blk) ∧ True) ?_ ?_
              · unfold r55_6
                refine R_mv t3 ?_
                refine R_gtr (x := ((m.nx.length : Nat) : Int)) (y := (128 : Int)) (@rfl V (iV ((m.nx.length : Nat) : Int))) (@rfl V (iV (128 : Int))) ?_
                refine R_mv (@rfl V (V.bool (decide ((128 : Int) < ((m.nx.length : Nat) : Int))))) ?_
                exact R_nil ⟨t1, t3, rfl, h1, trivial⟩
              · intro T H ⟨t1, t3, t23, h1, _⟩
                refine W_if (p := (128 : Int) < ((m.nx.length : Nat) : Int)) t23 (fun c5 => ?_) (fun c5 => ?_)
                ·
                  refine W_seq_regc (fun T H => T 2 = (iV (11 : Int)) ∧ H 1 = (⟨1, true, false, 24, 4, [[(iV (m.i)), (iV (m.s)), (V.sl (List.map cL (m.nx))), (V.sl (List.map cL (m.ot)))]]⟩ : Blk) ∧ True) ?_ ?_
                  · unfold r55_7
                    refine R_mv (@rfl V (iV (11 : Int))) ?_
                    exact R_nil ⟨rfl, h1, trivial⟩
                  · intro T H ⟨t2, h1, _⟩
                    refine W_ret ?_
                    refine y1 _ _ ?_
                    refine Ret_1 t2 (fz_int ?_)
                    · rw [mval, if_neg (by omega), if_neg (by omega), if_pos (by omega)]
                ·
                  refine W_seq_regc (fun T H => T 1 = (V.mp 1 1 0 0) ∧ T 3 = (iV ((m.nx.length : Nat) : Int)) ∧ T 26 = (V.bool (decide (((m.s) < (0 : Int)) ∨ (((m.nx.length : Nat) : Int) ≤ (m.s))))) ∧ H 1 = (⟨1, true, false, 24, 4, [[(iV (m.i)), (iV (m.s)), (V.sl (List.map cL (m.nx))), (V.sl (List.map cL (m.ot)))]]⟩ : Blk) ∧ True) ?_ ?_
                  · unfold r55_8
                    refine R_fld_mp (o' := 1) t1 h1 (by first | rfl | simp [okB, Blk.own]) rfl ?_
                    refine R_load_mp (v := (iV (m.s))) (@rfl V (V.mp 1 1 0 1)) h1 (by first | rfl | simp [ldB, ldV, Blk.own, V.one]) ?_
                    refine R_lss (x := (m.s)) (y := (0 : Int)) (@rfl V (iV (m.s))) (@rfl V (iV (0 : Int))) ?_
                    refine R_mv (@rfl V (V.bool (decide ((m.s) < (0 : Int))))) ?_
                    refine Ops_seg 5 (fun T H => T 1 = (V.mp 1 1 0 0) ∧ T 3 = (iV ((m.nx.length : Nat) : Int)) ∧ T 35 = (V.bool (decide (((m.s) < (0 : Int)) ∨ (((m.nx.length : Nat) : Int) ≤ (m.s))))) ∧ H 1 = (⟨1, true, false, 24, 4, [[(iV (m.i)), (iV (m.s)), (V.sl (List.map cL (m.nx))), (V.sl (List.map cL (m.ot)))]]⟩ : Blk) ∧ True) ?_ ?_
                    · by_cases g6 : (m.s) < (0 : Int)
                      ·
                        refine G_no (Eq.trans (@rfl V (V.bool (decide ((m.s) < (0 : Int))))) (bdT g6)) (by decide) ?_
                        refine G_no (Eq.trans (@rfl V (V.bool (decide ((m.s) < (0 : Int))))) (bdT g6)) (by decide) ?_
                        refine G_no (Eq.trans (@rfl V (V.bool (decide ((m.s) < (0 : Int))))) (bdT g6)) (by decide) ?_
                        refine G_no (Eq.trans (@rfl V (V.bool (decide ((m.s) < (0 : Int))))) (bdT g6)) (by decide) ?_
                        refine R_pickT (Eq.trans (@rfl V (V.bool (decide ((m.s) < (0 : Int))))) (bdT g6)) (@rfl V (V.bool true)) ?_
                        exact ⟨t1, t3, (Eq.trans (@rfl V (V.bool true)) (dec_orT g6)), h1, trivial⟩
                      ·
                        refine G_yes (Eq.trans (@rfl V (V.bool (decide ((m.s) < (0 : Int))))) (bdF g6)) ?_
                        refine R_fld_mp (o' := 1) t1 h1 (by first | rfl | simp [okB, Blk.own]) rfl ?_
                        refine G_yes (Eq.trans (@rfl V (V.bool (decide ((m.s) < (0 : Int))))) (bdF g6)) ?_
                        refine R_load_mp (v := (iV (m.s))) (@rfl V (V.mp 1 1 0 1)) h1 (by first | rfl | simp [ldB, ldV, Blk.own, V.one]) ?_
                        refine G_yes (Eq.trans (@rfl V (V.bool (decide ((m.s) < (0 : Int))))) (bdF g6)) ?_
                        refine R_mv t3 ?_
                        refine G_yes (Eq.trans (@rfl V (V.bool (decide ((m.s) < (0 : Int))))) (bdF g6)) ?_
                        refine R_geq (x := (m.s)) (y := ((m.nx.length : Nat) : Int)) (@rfl V (iV (m.s))) (@rfl V (iV ((m.nx.length : Nat) : Int))) ?_
                        refine R_pickF (Eq.trans (@rfl V (V.bool (decide ((m.s) < (0 : Int))))) (bdF g6)) (@rfl V (V.bool (decide (((m.nx.length : Nat) : Int) ≤ (m.s))))) ?_
                        exact ⟨t1, t3, (Eq.trans (@rfl V (V.bool (decide (((m.nx.length : Nat) : Int) ≤ (m.s))))) (dec_orF g6)), h1, trivial⟩
                    · intro T H ⟨t1, t3, t35, h1, _⟩
                      refine R_mv t35 ?_
                      exact R_nil ⟨t1, t3, rfl, h1, trivial⟩
                  · intro T H ⟨t1, t3, t26, h1, _⟩
                    refine W_if (p := ((m.s) < (0 : Int)) ∨ (((m.nx.length : Nat) : Int) ≤ (m.s))) t26 (fun c7 => ?_) (fun c7 => ?_)
                    ·
                      refine W_seq_regc (fun T H => T 2 = (iV (2 : Int)) ∧ H 1 = (⟨1, true, false, 24, 4, [[(iV (m.i)), (iV (m.s)), (V.sl (List.map cL (m.nx))), (V.sl (List.map cL (m.ot)))]]⟩ : Blk) ∧ True) ?_ ?_
                      · unfold r55_9
                        refine R_mv (@rfl V (iV (2 : Int))) ?_
                        exact R_nil ⟨rfl, h1, trivial⟩
                      · intro T H ⟨t2, h1, _⟩
                        refine W_ret ?_
                        refine y1 _ _ ?_
                        refine Ret_1 t2 (fz_int ?_)
                        · rw [mval, if_neg (by omega), if_neg (by omega), if_neg (by omega), if_pos (by omega)]
                    ·
                      refine W_seq_regc (fun T H => T 1 = (V.mp 1 1 0 0) ∧ T 3 = (iV ((m.nx.length : Nat) : Int)) ∧ T 36 = (V.bool (decide (((m.ot.length : Nat) : Int) ≠ ((m.nx.length : Nat) : Int)))) ∧ H 1 = (⟨1, true, false, 24, 4, [[(iV (m.i)), (iV (m.s)), (V.sl (List.map cL (m.nx))), (V.sl (List.map cL (m.ot)))]]⟩ : Blk) ∧ True) ?_ ?_
                      · unfold r55_10
                        refine R_fld_mp (o' := 3) t1 h1 (by first | rfl | simp [okB, Blk.own]) rfl ?_
                        refine R_load_mp (v := (V.sl (List.map cL (m.ot)))) (@rfl V (V.mp 1 1 0 3)) h1 (by first | rfl | simp [ldB, ldV, Blk.own, V.one]) ?_
                        refine R_len (@rfl V (V.sl (List.map cL (m.ot)))) ?_
                        refine R_mv t3 ?_
                        refine R_neq (x := ((m.ot.length : Nat) : Int)) (y := ((m.nx.length : Nat) : Int)) (@rfl V (iV ((m.ot.length : Nat) : Int))) (@rfl V (iV ((m.nx.length : Nat) : Int))) ?_
                        refine R_mv (@rfl V (V.bool (decide (((m.ot.length : Nat) : Int) ≠ ((m.nx.length : Nat) : Int))))) ?_
                        exact R_nil ⟨t1, t3, rfl, h1, trivial⟩
                      · intro T H ⟨t1, t3, t36, h1, _⟩
                        refine W_if (p := ((m.ot.length : Nat) : Int) ≠ ((m.nx.length : Nat) : Int)) t36 (fun c8 => ?_) (fun c8 => ?_)
                        ·
                          refine W_seq_regc (fun T H => T 2 = (iV (1 : Int)) ∧ H 1 = (⟨1, true, false, 24, 4, [[(iV (m.i)), (iV (m.s)), (V.sl (List.map cL (m.nx))), (V.sl (List.map cL (m.ot)))]]⟩ : Blk) ∧ True) ?_ ?_
                          · unfold r55_11
                            refine R_mv (@rfl V (iV (1 : Int))) ?_
                            exact R_nil ⟨rfl, h1, trivial⟩
                          · intro T H ⟨t2, h1, _⟩
                            refine W_ret ?_
                            refine y1 _ _ ?_
                            refine Ret_1 t2 (fz_int ?_)
                            · rw [mval, if_neg (by omega), if_neg (by omega), if_neg (by omega), if_neg (by omega), if_pos (by omega)]
                        ·
                          refine W_skip ?_
                          refine n1 _ _ ?_
                          refine .done ?_
                          refine W_seq_seq ?_
                          refine W_seq_regc (fun T H => T 1 = (V.mp 1 1 0 0) ∧ T 3 = (iV ((m.nx.length : Nat) : Int)) ∧ T 42 = (iV ((m.nx.length : Nat) : Int)) ∧ T 43 = (iV (0 : Int)) ∧ H 1 = (⟨1, true, false, 24, 4, [[(iV (m.i)), (iV (m.s)), (V.sl (List.map cL (m.nx))), (V.sl (List.map cL (m.ot)))]]⟩ : Blk) ∧ True) ?_ ?_
                          · unfold r55_12
                            refine R_mv t3 ?_
                            refine R_mv (@rfl V (iV (0 : Int))) ?_
                            exact R_nil ⟨t1, t3, rfl, rfl, h1, trivial⟩
                          · intro T H ⟨t1, t3, t42, t43, h1, _⟩
                            refine W_seq_blockg fun Q9 n9 x9 y9 z9 => ?_
                            refine W_loop (fun mm T H => ∃ (k : Nat), mm = m.nx.length - k ∧ T 1 = (V.mp 1 1 0 0) ∧ T 3 = (iV ((m.nx.length : Nat) : Int)) ∧ T 42 = (iV ((m.nx.length : Nat) : Int)) ∧ T 43 = (iV ((k : Nat) : Int)) ∧ H 1 = (⟨1, true, false, 24, 4, [[(iV (m.i)), (iV (m.s)), (V.sl (List.map cL (m.nx))), (V.sl (List.map cL (m.ot)))]]⟩ : Blk) ∧ (k ≤ m.nx.length) ∧ (1 ≤ m.i ∧ m.i ≤ 64 ∧ 0 < m.nx.length ∧ m.nx.length ≤ 128 ∧ m.ot.length = m.nx.length) ∧ (mval m = fe (rowE m) k (m.nx.length - k))) ?_ ?_
                            · refine ⟨_, 0, rfl, t1, t3, t42, (Eq.trans t43 (by first | rfl | simp)), h1, ?_, ?_, ?_⟩
                              · omega
                              · omega
                              · rw [mval, if_neg (by omega), if_neg (by omega), if_neg (by omega), if_neg (by omega), if_neg (by omega)]; rfl
                            · intro mm T H ⟨k, hmm, t1, t3, t42, t43, h1, hk, hv, hc⟩ Q10 p110 p210 p310
                              unfold b55_0
                              refine W_seq_regc (fun T H => T 1 = (V.mp 1 1 0 0) ∧ T 3 = (iV ((m.nx.length : Nat) : Int)) ∧ T 42 = (iV ((m.nx.length : Nat) : Int)) ∧ T 43 = (iV ((k : Nat) : Int)) ∧ T 44 = (V.bool (decide (((k : Nat) : Int) < ((m.nx.length : Nat) : Int)))) ∧ H 1 = (⟨1, true, false, 24, 4, [[(iV (m.i)), (iV (m.s)), (V.sl (List.map cL (m.nx))), (V.sl (List.map cL (m.ot)))]]⟩ : Blk) ∧ True) ?_ ?_
                              · unfold r55_13
                                refine R_lss (x := ((k : Nat) : Int)) (y := ((m.nx.length : Nat) : Int)) t43 t42 ?_
                                exact R_nil ⟨t1, t3, t42, t43, rfl, h1, trivial⟩
                              · intro T H ⟨t1, t3, t42, t43, t44, h1, _⟩
                                refine W_seq_if (p := ((k : Nat) : Int) < ((m.nx.length : Nat) : Int)) t44 (fun c11 => ?_) (fun c11 => ?_)
                                ·
                                  refine W_seq_skip ?_
                                  refine W_seq_blockg fun Q12 n12 x12 y12 z12 => ?_
                                  refine W_seq_regc (fun T H => T 1 = (V.mp 1 1 0 0) ∧ T 3 = (iV ((m.nx.length : Nat) : Int)) ∧ T 4 = (iV ((k : Nat) : Int)) ∧ T 42 = (iV ((m.nx.length : Nat) : Int)) ∧ T 43 = (iV ((k : Nat) : Int)) ∧ H 1 = (⟨1, true, false, 24, 4, [[(iV (m.i)), (iV (m.s)), (V.sl (List.map cL (m.nx))), (V.sl (List.map cL (m.ot)))]]⟩ : Blk) ∧ True) ?_ ?_
                                  · unfold r55_14
                                    refine R_mv t43 ?_
                                    refine R_mv (@rfl V (iV ((k : Nat) : Int))) ?_
                                    exact R_nil ⟨t1, t3, rfl, t42, t43, h1, trivial⟩
                                  · intro T H ⟨t1, t3, t4, t42, t43, h1, _⟩
                                    refine W_seq_seq ?_
                                    refine W_seq_regc (fun T H => T 1 = (V.mp 1 1 0 0) ∧ T 3 = (iV ((m.nx.length : Nat) : Int)) ∧ T 4 = (iV ((k : Nat) : Int)) ∧ T 42 = (iV ((m.nx.length : Nat) : Int)) ∧ T 43 = (iV ((k : Nat) : Int)) ∧ T 65 = (V.bool (decide ((((((nth (m.nx) (k))).length : Nat) : Int) ≠ (m.i)) ∨ (((((nth (m.ot) (k))).length : Nat) : Int) ≠ (m.i))))) ∧ H 1 = (⟨1, true, false, 24, 4, [[(iV (m.i)), (iV (m.s)), (V.sl (List.map cL (m.nx))), (V.sl (List.map cL (m.ot)))]]⟩ : Blk) ∧ True) ?_ ?_
                                    · unfold r55_15
                                      refine R_fld_mp (o' := 2) t1 h1 (by first | rfl | simp [okB, Blk.own]) rfl ?_
                                      refine R_load_mp (v := (V.sl (List.map cL (m.nx)))) (@rfl V (V.mp 1 1 0 2)) h1 (by first | rfl | simp [ldB, ldV, Blk.own, V.one]) ?_
                                      refine R_mv t4 ?_
                                      refine R_idx (i := k) (@rfl V (V.sl (List.map cL (m.nx)))) (@rfl V (iV ((k : Nat) : Int))) (by omega) rfl ?_
                                      refine R_load_pp (v := (V.sl (List.map cI ((nth (m.nx) (k)))))) (@rfl V (V.pp [(V.sl (List.map cI ((nth (m.nx) (k)))))])) (by first | rfl | simp [ldV]) ?_
                                      refine R_len (@rfl V (V.sl (List.map cI ((nth (m.nx) (k)))))) ?_
                                      refine R_fld_mp (o' := 0) t1 h1 (by first | rfl | simp [okB, Blk.own]) rfl ?_
                                      refine R_load_mp (v := (iV (m.i))) (@rfl V (V.mp 1 1 0 0)) h1 (by first | rfl | simp [ldB, ldV, Blk.own, V.one]) ?_
                                      refine R_neq (x := ((((nth (m.nx) (k))).length : Nat) : Int)) (y := (m.i)) (@rfl V (iV ((((nth (m.nx) (k))).length : Nat) : Int))) (@rfl V (iV (m.i))) ?_
                                      refine R_mv (@rfl V (V.bool (decide (((((nth (m.nx) (k))).length : Nat) : Int) ≠ (m.i))))) ?_
                                      refine Ops_seg 10 (fun T H => T 1 = (V.mp 1 1 0 0) ∧ T 3 = (iV ((m.nx.length : Nat) : Int)) ∧ T 4 = (iV ((k : Nat) : Int)) ∧ T 42 = (iV ((m.nx.length : Nat) : Int)) ∧ T 43 = (iV ((k : Nat) : Int)) ∧ T 65 = (V.bool (decide ((((((nth (m.nx) (k))).length : Nat) : Int) ≠ (m.i)) ∨ (((((nth (m.ot) (k))).length : Nat) : Int) ≠ (m.i))))) ∧ H 1 = (⟨1, true, false, 24, 4, [[(iV (m.i)), (iV (m.s)), (V.sl (List.map cL (m.nx))), (V.sl (List.map cL (m.ot)))]]⟩ : Blk) ∧ True) ?_ ?_
                                      · by_cases g13 : ((((nth (m.nx) (k))).length : Nat) : Int) ≠ (m.i)
                                        ·
                                          refine G_no (Eq.trans (@rfl V (V.bool (decide (((((nth (m.nx) (k))).length : Nat) : Int) ≠ (m.i))))) (bdT g13)) (by decide) ?_
                                          refine G_no (Eq.trans (@rfl V (V.bool (decide (((((nth (m.nx) (k))).length : Nat) : Int) ≠ (m.i))))) (bdT g13)) (by decide) ?_
                                          refine G_no (Eq.trans (@rfl V (V.bool (decide (((((nth (m.nx) (k))).length : Nat) : Int) ≠ (m.i))))) (bdT g13)) (by decide) ?_
                                          refine G_no (Eq.trans (@rfl V (V.bool (decide (((((nth (m.nx) (k))).length : Nat) : Int) ≠ (m.i))))) (bdT g13)) (by decide) ?_
                                          refine G_no (Eq.trans (@rfl V (V.bool (decide (((((nth (m.nx) (k))).length : Nat) : Int) ≠ (m.i))))) (bdT g13)) (by decide) ?_
                                          refine G_no (Eq.trans (@rfl V (V.bool (decide (((((nth (m.nx) (k))).length : Nat) : Int) ≠ (m.i))))) (bdT g13)) (by decide) ?_
                                          refine G_no (Eq.trans (@rfl V (V.bool (decide (((((nth (m.nx) (k))).length : Nat) : Int) ≠ (m.i))))) (bdT g13)) (by decide) ?_
                                          refine G_no (Eq.trans (@rfl V (V.bool (decide (((((nth (m.nx) (k))).length : Nat) : Int) ≠ (m.i))))) (bdT g13)) (by decide) ?_
                                          refine G_no (Eq.trans (@rfl V (V.bool (decide (((((nth (m.nx) (k))).length : Nat) : Int) ≠ (m.i))))) (bdT g13)) (by decide) ?_
                                          refine R_pickT (Eq.trans (@rfl V (V.bool (decide (((((nth (m.nx) (k))).length : Nat) : Int) ≠ (m.i))))) (bdT g13)) (@rfl V (V.bool true)) ?_
                                          exact ⟨t1, t3, t4, t42, t43, (Eq.trans (@rfl V (V.bool true)) (dec_orT g13)), h1, trivial⟩
                                        ·
                                          refine G_yes (Eq.trans (@rfl V (V.bool (decide (((((nth (m.nx) (k))).length : Nat) : Int) ≠ (m.i))))) (bdF g13)) ?_
                                          refine R_fld_mp (o' := 3) t1 h1 (by first | rfl | simp [okB, Blk.own]) rfl ?_
                                          refine G_yes (Eq.trans (@rfl V (V.bool (decide (((((nth (m.nx) (k))).length : Nat) : Int) ≠ (m.i))))) (bdF g13)) ?_
                                          refine R_load_mp (v := (V.sl (List.map cL (m.ot)))) (@rfl V (V.mp 1 1 0 3)) h1 (by first | rfl | simp [ldB, ldV, Blk.own, V.one]) ?_
                                          refine G_yes (Eq.trans (@rfl V (V.bool (decide (((((nth (m.nx) (k))).length : Nat) : Int) ≠ (m.i))))) (bdF g13)) ?_
                                          refine R_mv t4 ?_
                                          refine G_yes (Eq.trans (@rfl V (V.bool (decide (((((nth (m.nx) (k))).length : Nat) : Int) ≠ (m.i))))) (bdF g13)) ?_
                                          refine R_idx (i := k) (@rfl V (V.sl (List.map cL (m.ot)))) (@rfl V (iV ((k : Nat) : Int))) (by omega) rfl ?_
                                          refine G_yes (Eq.trans (@rfl V (V.bool (decide (((((nth (m.nx) (k))).length : Nat) : Int) ≠ (m.i))))) (bdF g13)) ?_
                                          refine R_load_pp (v := (V.sl (List.map cI ((nth (m.ot) (k)))))) (@rfl V (V.pp [(V.sl (List.map cI ((nth (m.ot) (k)))))])) (by first | rfl | simp [ldV]) ?_
                                          refine G_yes (Eq.trans (@rfl V (V.bool (decide (((((nth (m.nx) (k))).length : Nat) : Int) ≠ (m.i))))) (bdF g13)) ?_
                                          refine R_len (@rfl V (V.sl (List.map cI ((nth (m.ot) (k)))))) ?_
                                          refine G_yes (Eq.trans (@rfl V (V.bool (decide (((((nth (m.nx) (k))).length : Nat) : Int) ≠ (m.i))))) (bdF g13)) ?_
                                          refine R_fld_mp (o' := 0) t1 h1 (by first | rfl | simp [okB, Blk.own]) rfl ?_
                                          refine G_yes (Eq.trans (@rfl V (V.bool (decide (((((nth (m.nx) (k))).length : Nat) : Int) ≠ (m.i))))) (bdF g13)) ?_
                                          refine R_load_mp (v := (iV (m.i))) (@rfl V (V.mp 1 1 0 0)) h1 (by first | rfl | simp [ldB, ldV, Blk.own, V.one]) ?_
                                          refine G_yes (Eq.trans (@rfl V (V.bool (decide (((((nth (m.nx) (k))).length : Nat) : Int) ≠ (m.i))))) (bdF g13)) ?_
                                          refine R_neq (x := ((((nth (m.ot) (k))).length : Nat) : Int)) (y := (m.i)) (@rfl V (iV ((((nth (m.ot) (k))).length : Nat) : Int))) (@rfl V (iV (m.i))) ?_
                                          refine R_pickF (Eq.trans (@rfl V (V.bool (decide (((((nth (m.nx) (k))).length : Nat) : Int) ≠ (m.i))))) (bdF g13)) (@rfl V (V.bool (decide (((((nth (m.ot) (k))).length : Nat) : Int) ≠ (m.i))))) ?_
                                          exact ⟨t1, t3, t4, t42, t43, (Eq.trans (@rfl V (V.bool (decide (((((nth (m.ot) (k))).length : Nat) : Int) ≠ (m.i))))) (dec_orF g13)), h1, trivial⟩
                                      · intro T H ⟨t1, t3, t4, t42, t43, t65, h1, _⟩
                                        exact R_nil ⟨t1, t3, t4, t42, t43, t65, h1, trivial⟩
                                    · intro T H ⟨t1, t3, t4, t42, t43, t65, h1, _⟩
                                      refine W_seq_if (p := (((((nth (m.nx) (k))).length : Nat) : Int) ≠ (m.i)) ∨ (((((nth (m.ot) (k))).length : Nat) : Int) ≠ (m.i))) t65 (fun c14 => ?_) (fun c14 => ?_)
                                      ·
                                        refine W_seq_seq ?_
                                        refine W_seq_regc (fun T H => T 2 = (iV (1 : Int)) ∧ H 1 = (⟨1, true, false, 24, 4, [[(iV (m.i)), (iV (m.s)), (V.sl (List.map cL (m.nx))), (V.sl (List.map cL (m.ot)))]]⟩ : Blk) ∧ True) ?_ ?_
                                        · unfold r55_16
                                          refine R_mv (@rfl V (iV (1 : Int))) ?_
                                          exact R_nil ⟨rfl, h1, trivial⟩
                                        · intro T H ⟨t2, h1, _⟩
                                          refine W_seq_ret ?_
                                          refine y12 _ _ ?_
                                          refine p210 _ _ ?_
                                          refine y9 _ _ ?_
                                          refine Ret_1 t2 (fz_int ?_)
                                          · rw [hc, fe_hit (by rw [rowE, if_pos (by omega)]; decide) (by omega), rowE, if_pos (by omega)]
                                      ·
                                        refine W_seq_skip ?_
                                        refine W_seq_regc (fun T H => T 1 = (V.mp 1 1 0 0) ∧ T 3 = (iV ((m.nx.length : Nat) : Int)) ∧ T 4 = (iV ((k : Nat) : Int)) ∧ T 42 = (iV ((m.nx.length : Nat) : Int)) ∧ T 43 = (iV ((k : Nat) : Int)) ∧ T 67 = (iV (m.i)) ∧ T 68 = (iV (0 : Int)) ∧ H 1 = (⟨1, true, false, 24, 4, [[(iV (m.i)), (iV (m.s)), (V.sl (List.map cL (m.nx))), (V.sl (List.map cL (m.ot)))]]⟩ : Blk) ∧ True) ?_ ?_
                                        · unfold r55_17
                                          refine R_fld_mp (o' := 0) t1 h1 (by first | rfl | simp [okB, Blk.own]) rfl ?_
                                          refine R_load_mp (v := (iV (m.i))) (@rfl V (V.mp 1 1 0 0)) h1 (by first | rfl | simp [ldB, ldV, Blk.own, V.one]) ?_
                                          refine R_mv (@rfl V (iV (0 : Int))) ?_
                                          exact R_nil ⟨t1, t3, t4, t42, t43, rfl, rfl, h1, trivial⟩
                                        · intro T H ⟨t1, t3, t4, t42, t43, t67, t68, h1, _⟩
                                          refine W_block fun Q15 n15 x15 y15 z15 => ?_
                                          refine W_loop (fun mm T H => ∃ (j : Nat), mm = ((m.i).toNat) - j ∧ T 1 = (V.mp 1 1 0 0) ∧ T 3 = (iV ((m.nx.length : Nat) : Int)) ∧ T 4 = (iV ((k : Nat) : Int)) ∧ T 42 = (iV ((m.nx.length : Nat) : Int)) ∧ T 43 = (iV ((k : Nat) : Int)) ∧ T 67 = (iV (m.i)) ∧ T 68 = (iV ((j : Nat) : Int)) ∧ H 1 = (⟨1, true, false, 24, 4, [[(iV (m.i)), (iV (m.s)), (V.sl (List.map cL (m.nx))), (V.sl (List.map cL (m.ot)))]]⟩ : Blk) ∧ (j ≤ (m.i).toNat) ∧ (((nth m.nx k).length : Int) = m.i ∧ ((nth m.ot k).length : Int) = m.i) ∧ (rowE m k = fe (celE m k) j (m.i.toNat - j))) ?_ ?_
                                          · refine ⟨_, 0, rfl, t1, t3, t4, t42, t43, t67, (Eq.trans t68 (by first | rfl | simp)), h1, ?_, ?_, ?_⟩
                                            · omega
                                            · omega
                                            · rw [rowE, if_neg (by omega)]; rfl
                                          · intro mm T H ⟨j, hmm, t1, t3, t4, t42, t43, t67, t68, h1, hj, hl, hr⟩ Q16 p116 p216 p316
                                            unfold b55_1
                                            refine W_seq_regc (fun T H => T 1 = (V.mp 1 1 0 0) ∧ T 3 = (iV ((m.nx.length : Nat) : Int)) ∧ T 4 = (iV ((k : Nat) : Int)) ∧ T 42 = (iV ((m.nx.length : Nat) : Int)) ∧ T 43 = (iV ((k : Nat) : Int)) ∧ T 67 = (iV (m.i)) ∧ T 68 = (iV ((j : Nat) : Int)) ∧ T 69 = (V.bool (decide (((j : Nat) : Int) < (m.i)))) ∧ H 1 = (⟨1, true, false, 24, 4, [[(iV (m.i)), (iV (m.s)), (V.sl (List.map cL (m.nx))), (V.sl (List.map cL (m.ot)))]]⟩ : Blk) ∧ True) ?_ ?_
                                            · unfold r55_18
                                              refine R_lss (x := ((j : Nat) : Int)) (y := (m.i)) t68 t67 ?_
                                              exact R_nil ⟨t1, t3, t4, t42, t43, t67, t68, rfl, h1, trivial⟩
                                            · intro T H ⟨t1, t3, t4, t42, t43, t67, t68, t69, h1, _⟩
                                              refine W_seq_if (p := ((j : Nat) : Int) < (m.i)) t69 (fun c17 => ?_) (fun c17 => ?_)
                                              ·
                                                refine W_seq_skip ?_
                                                refine W_seq_blockg fun Q18 n18 x18 y18 z18 => ?_
                                                refine W_seq_regc (fun T H => T 1 = (V.mp 1 1 0 0) ∧ T 3 = (iV ((m.nx.length : Nat) : Int)) ∧ T 4 = (iV ((k : Nat) : Int)) ∧ T 5 = (iV ((j : Nat) : Int)) ∧ T 42 = (iV ((m.nx.length : Nat) : Int)) ∧ T 43 = (iV ((k : Nat) : Int)) ∧ T 67 = (iV (m.i)) ∧ T 68 = (iV ((j : Nat) : Int)) ∧ H 1 = (⟨1, true, false, 24, 4, [[(iV (m.i)), (iV (m.s)), (V.sl (List.map cL (m.nx))), (V.sl (List.map cL (m.ot)))]]⟩ : Blk) ∧ True) ?_ ?_
                                                · unfold r55_19
                                                  refine R_mv t68 ?_
                                                  refine R_mv (@rfl V (iV ((j : Nat) : Int))) ?_
                                                  exact R_nil ⟨t1, t3, t4, rfl, t42, t43, t67, t68, h1, trivial⟩
                                                · intro T H ⟨t1, t3, t4, t5, t42, t43, t67, t68, h1, _⟩
                                                  refine W_seq_regc (fun T H => T 1 = (V.mp 1 1 0 0) ∧ T 3 = (iV ((m.nx.length : Nat) : Int)) ∧ T 4 = (iV ((k : Nat) : Int)) ∧ T 6 = (iV ((nth ((nth (m.nx) (k))) (j)))) ∧ T 7 = (iV ((nth ((nth (m.ot) (k))) (j)))) ∧ T 42 = (iV ((m.nx.length : Nat) : Int)) ∧ T 43 = (iV ((k : Nat) : Int)) ∧ T 67 = (iV (m.i)) ∧ T 68 = (iV ((j : Nat) : Int)) ∧ H 1 = (⟨1, true, false, 24, 4, [[(iV (m.i)), (iV (m.s)), (V.sl (List.map cL (m.nx))), (V.sl (List.map cL (m.ot)))]]⟩ : Blk) ∧ True) ?_ ?_
                                                  · unfold r55_20
                                                    refine R_fld_mp (o' := 2) t1 h1 (by first | rfl | simp [okB, Blk.own]) rfl ?_
                                                    refine R_load_mp (v := (V.sl (List.map cL (m.nx)))) (@rfl V (V.mp 1 1 0 2)) h1 (by first | rfl | simp [ldB, ldV, Blk.own, V.one]) ?_
                                                    refine R_mv t4 ?_
                                                    refine R_idx (i := k) (@rfl V (V.sl (List.map cL (m.nx)))) (@rfl V (iV ((k : Nat) : Int))) (by omega) rfl ?_
                                                    refine R_load_pp (v := (V.sl (List.map cI ((nth (m.nx) (k)))))) (@rfl V (V.pp [(V.sl (List.map cI ((nth (m.nx) (k)))))])) (by first | rfl | simp [ldV]) ?_
                                                    refine R_mv t5 ?_
                                                    refine R_idx (i := j) (@rfl V (V.sl (List.map cI ((nth (m.nx) (k)))))) (@rfl V (iV ((j : Nat) : Int))) (by omega) rfl ?_
                                                    refine R_load_pp (v := (iV ((nth ((nth (m.nx) (k))) (j))))) (@rfl V (V.pp [(iV ((nth ((nth (m.nx) (k))) (j))))])) (by first | rfl | simp [ldV]) ?_
                                                    refine R_fld_mp (o' := 3) t1 h1 (by first | rfl | simp [okB, Blk.own]) rfl ?_
                                                    refine R_load_mp (v := (V.sl (List.map cL (m.ot)))) (@rfl V (V.mp 1 1 0 3)) h1 (by first | rfl | simp [ldB, ldV, Blk.own, V.one]) ?_
                                                    refine R_mv t4 ?_
                                                    refine R_idx (i := k) (@rfl V (V.sl (List.map cL (m.ot)))) (@rfl V (iV ((k : Nat) : Int))) (by omega) rfl ?_
                                                    refine R_load_pp (v := (V.sl (List.map cI ((nth (m.ot) (k)))))) (@rfl V (V.pp [(V.sl (List.map cI ((nth (m.ot) (k)))))])) (by first | rfl | simp [ldV]) ?_
                                                    refine R_mv t5 ?_
                                                    refine R_idx (i := j) (@rfl V (V.sl (List.map cI ((nth (m.ot) (k)))))) (@rfl V (iV ((j : Nat) : Int))) (by omega) rfl ?_
                                                    refine R_load_pp (v := (iV ((nth ((nth (m.ot) (k))) (j))))) (@rfl V (V.pp [(iV ((nth ((nth (m.ot) (k))) (j))))])) (by first | rfl | simp [ldV]) ?_
                                                    refine R_mv (@rfl V (iV ((nth ((nth (m.nx) (k))) (j))))) ?_
                                                    refine R_mv (@rfl V (iV ((nth ((nth (m.ot) (k))) (j))))) ?_
                                                    exact R_nil ⟨t1, t3, t4, rfl, rfl, t42, t43, t67, t68, h1, trivial⟩
                                                  · intro T H ⟨t1, t3, t4, t6, t7, t42, t43, t67, t68, h1, _⟩
                                                    refine W_seq_regc (fun T H => T 1 = (V.mp 1 1 0 0) ∧ T 3 = (iV ((m.nx.length : Nat) : Int)) ∧ T 4 = (iV ((k : Nat) : Int)) ∧ T 42 = (iV ((m.nx.length : Nat) : Int)) ∧ T 43 = (iV ((k : Nat) : Int)) ∧ T 67 = (iV (m.i)) ∧ T 68 = (iV ((j : Nat) : Int)) ∧ T 101 = (V.bool (decide ((((((nth ((nth (m.nx) (k))) (j))) < (0 : Int)) ∨ (((m.nx.length : Nat) : Int) ≤ ((nth ((nth (m.nx) (k))) (j))))) ∨ (((nth ((nth (m.ot) (k))) (j))) < (0 : Int))) ∨ ((1048576 : Int) < ((nth ((nth (m.ot) (k))) (j))))))) ∧ H 1 = (⟨1, true, false, 24, 4, [[(iV (m.i)), (iV (m.s)), (V.sl (List.map cL (m.nx))), (V.sl (List.map cL (m.ot)))]]⟩ : Blk) ∧ True) ?_ ?_
                                                    · unfold r55_21
                                                      refine R_mv t6 ?_
                                                      refine R_lss (x := ((nth ((nth (m.nx) (k))) (j)))) (y := (0 : Int)) (@rfl V (iV ((nth ((nth (m.nx) (k))) (j))))) (@rfl V (iV (0 : Int))) ?_
                                                      refine R_mv (@rfl V (V.bool (decide (((nth ((nth (m.nx) (k))) (j))) < (0 : Int))))) ?_
                                                      refine Ops_seg 4 (fun T H => T 1 = (V.mp 1 1 0 0) ∧ T 3 = (iV ((m.nx.length : Nat) : Int)) ∧ T 4 = (iV ((k : Nat) : Int)) ∧ T 7 = (iV ((nth ((nth (m.ot) (k))) (j)))) ∧ T 42 = (iV ((m.nx.length : Nat) : Int)) ∧ T 43 = (iV ((k : Nat) : Int)) ∧ T 67 = (iV (m.i)) ∧ T 68 = (iV ((j : Nat) : Int)) ∧ T 93 = (V.bool (decide ((((nth ((nth (m.nx) (k))) (j))) < (0 : Int)) ∨ (((m.nx.length : Nat) : Int) ≤ ((nth ((nth (m.nx) (k))) (j))))))) ∧ H 1 = (⟨1, true, false, 24, 4, [[(iV (m.i)), (iV (m.s)), (V.sl (List.map cL (m.nx))), (V.sl (List.map cL (m.ot)))]]⟩ : Blk) ∧ True) ?_ ?_
                                                      · by_cases g19 : ((nth ((nth (m.nx) (k))) (j))) < (0 : Int)
                                                        ·
                                                          refine G_no (Eq.trans (@rfl V (V.bool (decide (((nth ((nth (m.nx) (k))) (j))) < (0 : Int))))) (bdT g19)) (by decide) ?_
                                                          refine G_no (Eq.trans (@rfl V (V.bool (decide (((nth ((nth (m.nx) (k))) (j))) < (0 : Int))))) (bdT g19)) (by decide) ?_
                                                          refine G_no (Eq.trans (@rfl V (V.bool (decide (((nth ((nth (m.nx) (k))) (j))) < (0 : Int))))) (bdT g19)) (by decide) ?_
                                                          refine R_pickT (Eq.trans (@rfl V (V.bool (decide (((nth ((nth (m.nx) (k))) (j))) < (0 : Int))))) (bdT g19)) (@rfl V (V.bool true)) ?_
                                                          exact ⟨t1, t3, t4, t7, t42, t43, t67, t68, (Eq.trans (@rfl V (V.bool true)) (dec_orT g19)), h1, trivial⟩
                                                        ·
                                                          refine G_yes (Eq.trans (@rfl V (V.bool (decide (((nth ((nth (m.nx) (k))) (j))) < (0 : Int))))) (bdF g19)) ?_
                                                          refine R_mv t6 ?_
                                                          refine G_yes (Eq.trans (@rfl V (V.bool (decide (((nth ((nth (m.nx) (k))) (j))) < (0 : Int))))) (bdF g19)) ?_
                                                          refine R_mv t3 ?_
                                                          refine G_yes (Eq.trans (@rfl V (V.bool (decide (((nth ((nth (m.nx) (k))) (j))) < (0 : Int))))) (bdF g19)) ?_
                                                          refine R_geq (x := ((nth ((nth (m.nx) (k))) (j)))) (y := ((m.nx.length : Nat) : Int)) (@rfl V (iV ((nth ((nth (m.nx) (k))) (j))))) (@rfl V (iV ((m.nx.length : Nat) : Int))) ?_
                                                          refine R_pickF (Eq.trans (@rfl V (V.bool (decide (((nth ((nth (m.nx) (k))) (j))) < (0 : Int))))) (bdF g19)) (@rfl V (V.bool (decide (((m.nx.length : Nat) : Int) ≤ ((nth ((nth (m.nx) (k))) (j))))))) ?_
                                                          exact ⟨t1, t3, t4, t7, t42, t43, t67, t68, (Eq.trans (@rfl V (V.bool (decide (((m.nx.length : Nat) : Int) ≤ ((nth ((nth (m.nx) (k))) (j))))))) (dec_orF g19)), h1, trivial⟩
                                                      · intro T H ⟨t1, t3, t4, t7, t42, t43, t67, t68, t93, h1, _⟩
                                                        refine R_mv t93 ?_
                                                        refine Ops_seg 3 (fun T H => T 1 = (V.mp 1 1 0 0) ∧ T 3 = (iV ((m.nx.length : Nat) : Int)) ∧ T 4 = (iV ((k : Nat) : Int)) ∧ T 7 = (iV ((nth ((nth (m.ot) (k))) (j)))) ∧ T 42 = (iV ((m.nx.length : Nat) : Int)) ∧ T 43 = (iV ((k : Nat) : Int)) ∧ T 67 = (iV (m.i)) ∧ T 68 = (iV ((j : Nat) : Int)) ∧ T 97 = (V.bool (decide (((((nth ((nth (m.nx) (k))) (j))) < (0 : Int)) ∨ (((m.nx.length : Nat) : Int) ≤ ((nth ((nth (m.nx) (k))) (j))))) ∨ (((nth ((nth (m.ot) (k))) (j))) < (0 : Int))))) ∧ H 1 = (⟨1, true, false, 24, 4, [[(iV (m.i)), (iV (m.s)), (V.sl (List.map cL (m.nx))), (V.sl (List.map cL (m.ot)))]]⟩ : Blk) ∧ True) ?_ ?_
                                                        · by_cases g20 : (((nth ((nth (m.nx) (k))) (j))) < (0 : Int)) ∨ (((m.nx.length : Nat) : Int) ≤ ((nth ((nth (m.nx) (k))) (j))))
                                                          ·
                                                            refine G_no (Eq.trans (@rfl V (V.bool (decide ((((nth ((nth (m.nx) (k))) (j))) < (0 : Int)) ∨ (((m.nx.length : Nat) : Int) ≤ ((nth ((nth (m.nx) (k))) (j)))))))) (bdT g20)) (by decide) ?_
                                                            refine G_no (Eq.trans (@rfl V (V.bool (decide ((((nth ((nth (m.nx) (k))) (j))) < (0 : Int)) ∨ (((m.nx.length : Nat) : Int) ≤ ((nth ((nth (m.nx) (k))) (j)))))))) (bdT g20)) (by decide) ?_
                                                            refine R_pickT (Eq.trans (@rfl V (V.bool (decide ((((nth ((nth (m.nx) (k))) (j))) < (0 : Int)) ∨ (((m.nx.length : Nat) : Int) ≤ ((nth ((nth (m.nx) (k))) (j)))))))) (bdT g20)) (@rfl V (V.bool true)) ?_
                                                            exact ⟨t1, t3, t4, t7, t42, t43, t67, t68, (Eq.trans (@rfl V (V.bool true)) (dec_orT g20)), h1, trivial⟩
                                                          ·
                                                            refine G_yes (Eq.trans (@rfl V (V.bool (decide ((((nth ((nth (m.nx) (k))) (j))) < (0 : Int)) ∨ (((m.nx.length : Nat) : Int) ≤ ((nth ((nth (m.nx) (k))) (j)))))))) (bdF g20)) ?_
                                                            refine R_mv t7 ?_
                                                            refine G_yes (Eq.trans (@rfl V (V.bool (decide ((((nth ((nth (m.nx) (k))) (j))) < (0 : Int)) ∨ (((m.nx.length : Nat) : Int) ≤ ((nth ((nth (m.nx) (k))) (j)))))))) (bdF g20)) ?_
                                                            refine R_lss (x := ((nth ((nth (m.ot) (k))) (j)))) (y := (0 : Int)) (@rfl V (iV ((nth ((nth (m.ot) (k))) (j))))) (@rfl V (iV (0 : Int))) ?_
                                                            refine R_pickF (Eq.trans (@rfl V (V.bool (decide ((((nth ((nth (m.nx) (k))) (j))) < (0 : Int)) ∨ (((m.nx.length : Nat) : Int) ≤ ((nth ((nth (m.nx) (k))) (j)))))))) (bdF g20)) (@rfl V (V.bool (decide (((nth ((nth (m.ot) (k))) (j))) < (0 : Int))))) ?_
                                                            exact ⟨t1, t3, t4, t7, t42, t43, t67, t68, (Eq.trans (@rfl V (V.bool (decide (((nth ((nth (m.ot) (k))) (j))) < (0 : Int))))) (dec_orF g20)), h1, trivial⟩
                                                        · intro T H ⟨t1, t3, t4, t7, t42, t43, t67, t68, t97, h1, _⟩
                                                          refine R_mv t97 ?_
                                                          refine Ops_seg 3 (fun T H => T 1 = (V.mp 1 1 0 0) ∧ T 3 = (iV ((m.nx.length : Nat) : Int)) ∧ T 4 = (iV ((k : Nat) : Int)) ∧ T 42 = (iV ((m.nx.length : Nat) : Int)) ∧ T 43 = (iV ((k : Nat) : Int)) ∧ T 67 = (iV (m.i)) ∧ T 68 = (iV ((j : Nat) : Int)) ∧ T 101 = (V.bool (decide ((((((nth ((nth (m.nx) (k))) (j))) < (0 : Int)) ∨ (((m.nx.length : Nat) : Int) ≤ ((nth ((nth (m.nx) (k))) (j))))) ∨ (((nth ((nth (m.ot) (k))) (j))) < (0 : Int))) ∨ ((1048576 : Int) < ((nth ((nth (m.ot) (k))) (j))))))) ∧ H 1 = (⟨1, true, false, 24, 4, [[(iV (m.i)), (iV (m.s)), (V.sl (List.map cL (m.nx))), (V.sl (List.map cL (m.ot)))]]⟩ : Blk) ∧ True) ?_ ?_
                                                          · by_cases g21 : ((((nth ((nth (m.nx) (k))) (j))) < (0 : Int)) ∨ (((m.nx.length : Nat) : Int) ≤ ((nth ((nth (m.nx) (k))) (j))))) ∨ (((nth ((nth (m.ot) (k))) (j))) < (0 : Int))
                                                            ·
                                                              refine G_no (Eq.trans (@rfl V (V.bool (decide (((((nth ((nth (m.nx) (k))) (j))) < (0 : Int)) ∨ (((m.nx.length : Nat) : Int) ≤ ((nth ((nth (m.nx) (k))) (j))))) ∨ (((nth ((nth (m.ot) (k))) (j))) < (0 : Int)))))) (bdT g21)) (by decide) ?_
                                                              refine G_no (Eq.trans (@rfl V (V.bool (decide (((((nth ((nth (m.nx) (k))) (j))) < (0 : Int)) ∨ (((m.nx.length : Nat) : Int) ≤ ((nth ((nth (m.nx) (k))) (j))))) ∨ (((nth ((nth (m.ot) (k))) (j))) < (0 : Int)))))) (bdT g21)) (by decide) ?_
                                                              refine R_pickT (Eq.trans (@rfl V (V.bool (decide (((((nth ((nth (m.nx) (k))) (j))) < (0 : Int)) ∨ (((m.nx.length : Nat) : Int) ≤ ((nth ((nth (m.nx) (k))) (j))))) ∨ (((nth ((nth (m.ot) (k))) (j))) < (0 : Int)))))) (bdT g21)) (@rfl V (V.bool true)) ?_
                                                              exact ⟨t1, t3, t4, t42, t43, t67, t68, (Eq.trans (@rfl V (V.bool true)) (dec_orT g21)), h1, trivial⟩
                                                            ·
                                                              refine G_yes (Eq.trans (@rfl V (V.bool (decide (((((nth ((nth (m.nx) (k))) (j))) < (0 : Int)) ∨ (((m.nx.length : Nat) : Int) ≤ ((nth ((nth (m.nx) (k))) (j))))) ∨ (((nth ((nth (m.ot) (k))) (j))) < (0 : Int)))))) (bdF g21)) ?_
                                                              refine R_mv t7 ?_
                                                              refine G_yes (Eq.trans (@rfl V (V.bool (decide (((((nth ((nth (m.nx) (k))) (j))) < (0 : Int)) ∨ (((m.nx.length : Nat) : Int) ≤ ((nth ((nth (m.nx) (k))) (j))))) ∨ (((nth ((nth (m.ot) (k))) (j))) < (0 : Int)))))) (bdF g21)) ?_
                                                              refine R_gtr (x := ((nth ((nth (m.ot) (k))) (j)))) (y := (1048576 : Int)) (@rfl V (iV ((nth ((nth (m.ot) (k))) (j))))) (@rfl V (iV (1048576 : Int))) ?_
                                                              refine R_pickF (Eq.trans (@rfl V (V.bool (decide (((((nth ((nth (m.nx) (k))) (j))) < (0 : Int)) ∨ (((m.nx.length : Nat) : Int) ≤ ((nth ((nth (m.nx) (k))) (j))))) ∨ (((nth ((nth (m.ot) (k))) (j))) < (0 : Int)))))) (bdF g21)) (@rfl V (V.bool (decide ((1048576 : Int) < ((nth ((nth (m.ot) (k))) (j))))))) ?_
                                                              exact ⟨t1, t3, t4, t42, t43, t67, t68, (Eq.trans (@rfl V (V.bool (decide ((1048576 : Int) < ((nth ((nth (m.ot) (k))) (j))))))) (dec_orF g21)), h1, trivial⟩
                                                          · intro T H ⟨t1, t3, t4, t42, t43, t67, t68, t101, h1, _⟩
                                                            exact R_nil ⟨t1, t3, t4, t42, t43, t67, t68, t101, h1, trivial⟩
                                                    · intro T H ⟨t1, t3, t4, t42, t43, t67, t68, t101, h1, _⟩
                                                      refine W_if (p := (((((nth ((nth (m.nx) (k))) (j))) < (0 : Int)) ∨ (((m.nx.length : Nat) : Int) ≤ ((nth ((nth (m.nx) (k))) (j))))) ∨ (((nth ((nth (m.ot) (k))) (j))) < (0 : Int))) ∨ ((1048576 : Int) < ((nth ((nth (m.ot) (k))) (j))))) t101 (fun c22 => ?_) (fun c22 => ?_)
                                                      ·
                                                        refine W_seq_regc (fun T H => T 2 = (iV (2 : Int)) ∧ H 1 = (⟨1, true, false, 24, 4, [[(iV (m.i)), (iV (m.s)), (V.sl (List.map cL (m.nx))), (V.sl (List.map cL (m.ot)))]]⟩ : Blk) ∧ True) ?_ ?_
                                                        · unfold r55_22
                                                          refine R_mv (@rfl V (iV (2 : Int))) ?_
                                                          exact R_nil ⟨rfl, h1, trivial⟩
                                                        · intro T H ⟨t2, h1, _⟩
                                                          refine W_ret ?_
                                                          refine y18 _ _ ?_
                                                          refine p216 _ _ ?_
                                                          refine y15 _ _ ?_
                                                          refine y12 _ _ ?_
                                                          refine p210 _ _ ?_
                                                          refine y9 _ _ ?_
                                                          refine Ret_1 t2 (fz_int ?_)
                                                          · have e : rowE m k = 2 := by
                                                              rw [hr, fe_hit (by unfold celE; split <;> omega) (by omega)]; unfold celE; split <;> omega
                                                            rw [hc, fe_hit (by omega) (by omega), e]
                                                      ·
                                                        refine W_skip ?_
                                                        refine n18 _ _ ?_
                                                        refine .done ?_
                                                        refine W_regc (fun T H => T 1 = (V.mp 1 1 0 0) ∧ T 3 = (iV ((m.nx.length : Nat) : Int)) ∧ T 4 = (iV ((k : Nat) : Int)) ∧ T 42 = (iV ((m.nx.length : Nat) : Int)) ∧ T 43 = (iV ((k : Nat) : Int)) ∧ T 67 = (iV (m.i)) ∧ T 68 = (iV ((j + 1 : Nat) : Int)) ∧ H 1 = (⟨1, true, false, 24, 4, [[(iV (m.i)), (iV (m.s)), (V.sl (List.map cL (m.nx))), (V.sl (List.map cL (m.ot)))]]⟩ : Blk) ∧ True) ?_ ?_
                                                        · unfold r55_23
                                                          refine R_addN (m := j) (n := 1) t68 (@rfl V (iV ((1 : Nat) : Int))) (by omega) ?_
                                                          refine R_mv (@rfl V (iV ((j + 1 : Nat) : Int))) ?_
                                                          exact R_nil ⟨t1, t3, t4, t42, t43, t67, rfl, h1, trivial⟩
                                                        · intro T H ⟨t1, t3, t4, t42, t43, t67, t68, h1, _⟩
                                                          refine p116 _ _ _ ?_ ⟨(j + 1), rfl, t1, t3, t4, t42, t43, t67, (Eq.trans t68 (by first | rfl | simp)), h1, ?_, ?_, ?_⟩
                                                          · omega
                                                          · omega
                                                          · omega
                                                          · rw [hr, fe_skip (by unfold celE; split <;> omega) (by omega)]
                                              ·
                                                refine W_seq_exit ?_
                                                refine p316 _ _ _ ?_
                                                refine x15 _ _ ?_
                                                refine n12 _ _ ?_
                                                refine .done ?_
                                                refine W_regc (fun T H => T 1 = (V.mp 1 1 0 0) ∧ T 3 = (iV ((m.nx.length : Nat) : Int)) ∧ T 42 = (iV ((m.nx.length : Nat) : Int)) ∧ T 43 = (iV ((k + 1 : Nat) : Int)) ∧ H 1 = (⟨1, true, false, 24, 4, [[(iV (m.i)), (iV (m.s)), (V.sl (List.map cL (m.nx))), (V.sl (List.map cL (m.ot)))]]⟩ : Blk) ∧ True) ?_ ?_
                                                · unfold r55_24
                                                  refine R_addN (m := k) (n := 1) t43 (@rfl V (iV ((1 : Nat) : Int))) (by omega) ?_
                                                  refine R_mv (@rfl V (iV ((k + 1 : Nat) : Int))) ?_
                                                  exact R_nil ⟨t1, t3, t42, rfl, h1, trivial⟩
                                                · intro T H ⟨t1, t3, t42, t43, h1, _⟩
                                                  refine p110 _ _ _ ?_ ⟨(k + 1), rfl, t1, t3, t42, (Eq.trans t43 (by first | rfl | simp)), h1, ?_, ?_, ?_⟩
                                                  · omega
                                                  · omega
                                                  · omega
                                                  · rw [hc, fe_skip (by rw [hr, fe_end (by omega)]) (by omega)]
                                ·
                                  refine W_seq_exit ?_
                                  refine p310 _ _ _ ?_
                                  refine x9 _ _ ?_
                                  refine .done ?_
                                  refine W_seq_regc (fun T H => T 2 = (iV (0 : Int)) ∧ H 1 = (⟨1, true, false, 24, 4, [[(iV (m.i)), (iV (m.s)), (V.sl (List.map cL (m.nx))), (V.sl (List.map cL (m.ot)))]]⟩ : Blk) ∧ True) ?_ ?_
                                  · unfold r55_25
                                    refine R_mv (@rfl V (iV (0 : Int))) ?_
                                    exact R_nil ⟨rfl, h1, trivial⟩
                                  · intro T H ⟨t2, h1, _⟩
                                    refine W_ret ?_
                                    refine Ret_1 t2 (fz_int ?_)
                                    · rw [hc, fe_end (by omega)]

end Go.Proofs.Ytngkckefanbhgaa

namespace Go.Proofs.Ytngkckefanbhgaa
open Go Go.Proofs

theorem state_pure (m : M) (s : Int) : PureC Try.prog 93 [(V.agg [(iV (m.i)), (iV (m.s)), (V.sl (List.map cL (m.nx))), (V.sl (List.map cL (m.ot)))]), (iV (s))] (iV (stE m s)) := by
  refine pure_of_Wb true 6 Try.func93 s93_ok (by kernel_rfl) (by simp [s93]) (by simp) (by simp) fun hB => ?_
  simp only [bnd_map, bnd_int, bnd_bool, bnd_str, bnd_agg, bnd_pp, bnd_nil, bnd_cons, implies_true, and_true, true_and] at hB
  unfold s93
  dsimp only
  refine W_seq_regc (fun T H => T 1 = (iV (s)) ∧ T 2 = (V.mp 2 1 0 0) ∧ H 2 = (⟨1, true, false, 24, 4, [[(iV (m.i)), (iV (m.s)), (V.sl (List.map cL (m.nx))), (V.sl (List.map cL (m.ot)))]]⟩ : Blk) ∧ True) ?_ ?_
  · unfold r93_0
    refine R_box (i := 2) (n := 0) (m := 4) (cs := [(iV (m.i)), (iV (m.s)), (V.sl (List.map cL (m.nx))), (V.sl (List.map cL (m.ot)))]) rfl (congrArg Blk.ver rfl) (@rfl V (V.agg [(iV (m.i)), (iV (m.s)), (V.sl (List.map cL (m.nx))), (V.sl (List.map cL (m.ot)))])) rfl rfl ?_
    refine R_mv (@rfl V (iV (0 : Int))) ?_
    exact R_nil ⟨rfl, rfl, rfl, trivial⟩
  · intro T H ⟨t1, t2, h2, _⟩
    refine W_seq_seq ?_
    refine W_seq_regc (fun T H => T 1 = (iV (s)) ∧ T 2 = (V.mp 2 1 0 0) ∧ T 5 = (iV (mval m)) ∧ H 2 = (⟨1, true, false, 24, 4, [[(iV (m.i)), (iV (m.s)), (V.sl (List.map cL (m.nx))), (V.sl (List.map cL (m.ot)))]]⟩ : Blk) ∧ True) ?_ ?_
    · unfold r93_1
      refine R_load_mp (v := (V.agg [(iV (m.i)), (iV (m.s)), (V.sl (List.map cL (m.nx))), (V.sl (List.map cL (m.ot)))])) t2 h2 (by first | rfl | simp [ldB, ldV, Blk.own, V.one]) ?_
      refine R_call (evcons (@rfl V (V.agg [(iV (m.i)), (iV (m.s)), (V.sl (List.map cL (m.nx))), (V.sl (List.map cL (m.ot)))])) evnil) (mvalid_pure m) (fzv_mapcanon _ _ (by simp [-List.map_take, -List.map_drop, -List.map_append, -List.map_reverse])) (by simp [-List.map_take, -List.map_drop, -List.map_append, -List.map_reverse]) (Or.inl (by simp [-List.map_take, -List.map_drop, -List.map_append, -List.map_reverse])) ?_
      refine R_mv (@rfl V (iV (mval m))) ?_
      exact R_nil ⟨t1, t2, rfl, h2, trivial⟩
    · intro T H ⟨t1, t2, t5, h2, _⟩
      refine W_seq_seq ?_
      refine W_seq_regc (fun T H => T 1 = (iV (s)) ∧ T 2 = (V.mp 2 1 0 0) ∧ T 5 = (iV (mval m)) ∧ T 9 = (V.bool (decide ((mval m) ≠ (0 : Int)))) ∧ H 2 = (⟨1, true, false, 24, 4, [[(iV (m.i)), (iV (m.s)), (V.sl (List.map cL (m.nx))), (V.sl (List.map cL (m.ot)))]]⟩ : Blk) ∧ True) ?_ ?_
      · unfold r93_2
        refine R_mv t5 ?_
        refine R_neq (x := (mval m)) (y := (0 : Int)) (@rfl V (iV (mval m))) (@rfl V (iV (0 : Int))) ?_
        exact R_nil ⟨t1, t2, t5, rfl, h2, trivial⟩
      · intro T H ⟨t1, t2, t5, t9, h2, _⟩
        refine W_seq_if (p := (mval m) ≠ (0 : Int)) t9 (fun c1 => ?_) (fun c1 => ?_)
        ·
          refine W_seq_seq ?_
          refine W_seq_regc (fun T H => T 4 = (iV (mval m)) ∧ H 2 = (⟨1, true, false, 24, 4, [[(iV (m.i)), (iV (m.s)), (V.sl (List.map cL (m.nx))), (V.sl (List.map cL (m.ot)))]]⟩ : Blk) ∧ True) ?_ ?_
          · unfold r93_3
            refine R_mv t5 ?_
            refine R_mv (@rfl V (iV (mval m))) ?_
            exact R_nil ⟨rfl, h2, trivial⟩
          · intro T H ⟨t4, h2, _⟩
            refine W_seq_ret ?_
            refine Ret_1 t4 (fz_int ?_)
            · rw [stE, if_pos (by omega)]
        ·
          refine W_seq_skip ?_
          refine W_seq_seq ?_
          refine W_seq_regc (fun T H => T 19 = (V.bool (decide (((s) < (0 : Int)) ∨ (((m.nx.length : Nat) : Int) ≤ (s))))) ∧ H 2 = (⟨1, true, false, 24, 4, [[(iV (m.i)), (iV (m.s)), (V.sl (List.map cL (m.nx))), (V.sl (List.map cL (m.ot)))]]⟩ : Blk) ∧ True) ?_ ?_
          · unfold r93_4
            refine R_mv t1 ?_
            refine R_lss (x := (s)) (y := (0 : Int)) (@rfl V (iV (s))) (@rfl V (iV (0 : Int))) ?_
            refine R_mv (@rfl V (V.bool (decide ((s) < (0 : Int))))) ?_
            refine Ops_seg 6 (fun T H => T 19 = (V.bool (decide (((s) < (0 : Int)) ∨ (((m.nx.length : Nat) : Int) ≤ (s))))) ∧ H 2 = (⟨1, true, false, 24, 4, [[(iV (m.i)), (iV (m.s)), (V.sl (List.map cL (m.nx))), (V.sl (List.map cL (m.ot)))]]⟩ : Blk) ∧ True) ?_ ?_
            · by_cases g2 : (s) < (0 : Int)
              ·
                refine G_no (Eq.trans (@rfl V (V.bool (decide ((s) < (0 : Int))))) (bdT g2)) (by decide) ?_
                refine G_no (Eq.trans (@rfl V (V.bool (decide ((s) < (0 : Int))))) (bdT g2)) (by decide) ?_
                refine G_no (Eq.trans (@rfl V (V.bool (decide ((s) < (0 : Int))))) (bdT g2)) (by decide) ?_
                refine G_no (Eq.trans (@rfl V (V.bool (decide ((s) < (0 : Int))))) (bdT g2)) (by decide) ?_
                refine G_no (Eq.trans (@rfl V (V.bool (decide ((s) < (0 : Int))))) (bdT g2)) (by decide) ?_
                refine R_pickT (Eq.trans (@rfl V (V.bool (decide ((s) < (0 : Int))))) (bdT g2)) (@rfl V (V.bool true)) ?_
                exact ⟨(Eq.trans (@rfl V (V.bool true)) (dec_orT g2)), h2, trivial⟩
              ·
                refine G_yes (Eq.trans (@rfl V (V.bool (decide ((s) < (0 : Int))))) (bdF g2)) ?_
                refine R_mv t1 ?_
                refine G_yes (Eq.trans (@rfl V (V.bool (decide ((s) < (0 : Int))))) (bdF g2)) ?_
                refine R_fld_mp (o' := 2) t2 h2 (by first | rfl | simp [okB, Blk.own]) rfl ?_
                refine G_yes (Eq.trans (@rfl V (V.bool (decide ((s) < (0 : Int))))) (bdF g2)) ?_
                refine R_load_mp (v := (V.sl (List.map cL (m.nx)))) (@rfl V (V.mp 2 1 0 2)) h2 (by first | rfl | simp [ldB, ldV, Blk.own, V.one]) ?_
                refine G_yes (Eq.trans (@rfl V (V.bool (decide ((s) < (0 : Int))))) (bdF g2)) ?_
                refine R_len (@rfl V (V.sl (List.map cL (m.nx)))) ?_
                refine G_yes (Eq.trans (@rfl V (V.bool (decide ((s) < (0 : Int))))) (bdF g2)) ?_
                refine R_geq (x := (s)) (y := ((m.nx.length : Nat) : Int)) (@rfl V (iV (s))) (@rfl V (iV ((m.nx.length : Nat) : Int))) ?_
                refine R_pickF (Eq.trans (@rfl V (V.bool (decide ((s) < (0 : Int))))) (bdF g2)) (@rfl V (V.bool (decide (((m.nx.length : Nat) : Int) ≤ (s))))) ?_
                exact ⟨(Eq.trans (@rfl V (V.bool (decide (((m.nx.length : Nat) : Int) ≤ (s))))) (dec_orF g2)), h2, trivial⟩
            · intro T H ⟨t19, h2, _⟩
              exact R_nil ⟨t19, h2, trivial⟩
          · intro T H ⟨t19, h2, _⟩
            refine W_seq_if (p := ((s) < (0 : Int)) ∨ (((m.nx.length : Nat) : Int) ≤ (s))) t19 (fun c3 => ?_) (fun c3 => ?_)
            ·
              refine W_seq_seq ?_
              refine W_seq_regc (fun T H => T 4 = (iV (2 : Int)) ∧ H 2 = (⟨1, true, false, 24, 4, [[(iV (m.i)), (iV (m.s)), (V.sl (List.map cL (m.nx))), (V.sl (List.map cL (m.ot)))]]⟩ : Blk) ∧ True) ?_ ?_
              · unfold r93_5
                refine R_mv (@rfl V (iV (2 : Int))) ?_
                exact R_nil ⟨rfl, h2, trivial⟩
              · intro T H ⟨t4, h2, _⟩
                refine W_seq_ret ?_
                refine Ret_1 t4 (fz_int ?_)
                · rw [stE, if_neg (by omega), if_pos (by omega)]
            ·
              refine W_seq_skip ?_
              refine W_seq_regc (fun T H => T 4 = (iV (0 : Int)) ∧ H 2 = (⟨1, true, false, 24, 4, [[(iV (m.i)), (iV (m.s)), (V.sl (List.map cL (m.nx))), (V.sl (List.map cL (m.ot)))]]⟩ : Blk) ∧ True) ?_ ?_
              · unfold r93_6
                refine R_mv (@rfl V (iV (0 : Int))) ?_
                exact R_nil ⟨rfl, h2, trivial⟩
              · intro T H ⟨t4, h2, _⟩
                refine W_ret ?_
                refine Ret_1 t4 (fz_int ?_)
                · rw [stE, if_neg (by omega), if_neg (by omega)]

end Go.Proofs.Ytngkckefanbhgaa

namespace Go.Proofs.Ytngkckefanbhgaa
open Go Go.Proofs

theorem move_pure (m : M) (s a : Int) (hs : 0 ≤ s ∧ s < m.nx.length ∧ m.ot.length = m.nx.length) (ha : 0 ≤ a ∧ a < (nth m.nx s.toNat).length ∧ a < (nth m.ot s.toNat).length) : PureC Try.prog 113 [(V.agg [(iV (m.i)), (iV (m.s)), (V.sl (List.map cL (m.nx))), (V.sl (List.map cL (m.ot)))]), (iV (s)), (iV (a))] (V.tup [(iV (cell m.nx s a)), (iV (cell m.ot s a))]) := by
  refine pure_of_Wb true 6 Try.func113 s113_ok (by kernel_rfl) (by simp [s113]) (by simp) (by simp) fun hB => ?_
  simp only [bnd_map, bnd_int, bnd_bool, bnd_str, bnd_agg, bnd_pp, bnd_nil, bnd_cons, implies_true, and_true, true_and] at hB
  unfold s113
  dsimp only
  refine W_seq_regc (fun T H => T 1 = (iV (s)) ∧ T 2 = (iV (a)) ∧ T 3 = (V.mp 3 1 0 0) ∧ H 3 = (⟨1, true, false, 120, 4, [[(iV (m.i)), (iV (m.s)), (V.sl (List.map cL (m.nx))), (V.sl (List.map cL (m.ot)))]]⟩ : Blk) ∧ True) ?_ ?_
  · unfold r113_0
    refine R_box (i := 3) (n := 0) (m := 4) (cs := [(iV (m.i)), (iV (m.s)), (V.sl (List.map cL (m.nx))), (V.sl (List.map cL (m.ot)))]) rfl (congrArg Blk.ver rfl) (@rfl V (V.agg [(iV (m.i)), (iV (m.s)), (V.sl (List.map cL (m.nx))), (V.sl (List.map cL (m.ot)))])) rfl rfl ?_
    refine R_mv (@rfl V (iV (0 : Int))) ?_
    refine R_mv (@rfl V (iV (0 : Int))) ?_
    exact R_nil ⟨rfl, rfl, rfl, rfl, trivial⟩
  · intro T H ⟨t1, t2, t3, h3, _⟩
    refine W_seq_regc (fun T H => T 6 = (iV ((nth ((nth (m.nx) (s).toNat)) (a).toNat))) ∧ T 7 = (iV ((nth ((nth (m.ot) (s).toNat)) (a).toNat))) ∧ H 3 = (⟨1, true, false, 120, 4, [[(iV (m.i)), (iV (m.s)), (V.sl (List.map cL (m.nx))), (V.sl (List.map cL (m.ot)))]]⟩ : Blk) ∧ True) ?_ ?_
    · unfold r113_1
      refine R_fld_mp (o' := 0) t3 h3 (by first | rfl | simp [okB, Blk.own]) rfl ?_
      refine R_fld_mp (o' := 2) (@rfl V (V.mp 3 1 0 0)) h3 (by first | rfl | simp [okB, Blk.own]) rfl ?_
      refine R_load_mp (v := (V.sl (List.map cL (m.nx)))) (@rfl V (V.mp 3 1 0 2)) h3 (by first | rfl | simp [ldB, ldV, Blk.own, V.one]) ?_
      refine R_mv t1 ?_
      refine R_idxI (i := (s)) (@rfl V (V.sl (List.map cL (m.nx)))) (@rfl V (iV (s))) (by omega) (by omega) rfl ?_
      refine R_load_pp (v := (V.sl (List.map cI ((nth (m.nx) (s).toNat))))) (@rfl V (V.pp [(V.sl (List.map cI ((nth (m.nx) (s).toNat))))])) (by first | rfl | simp [ldV]) ?_
      refine R_mv t2 ?_
      refine R_idxI (i := (a)) (@rfl V (V.sl (List.map cI ((nth (m.nx) (s).toNat))))) (@rfl V (iV (a))) (by omega) (by omega) rfl ?_
      refine R_load_pp (v := (iV ((nth ((nth (m.nx) (s).toNat)) (a).toNat)))) (@rfl V (V.pp [(iV ((nth ((nth (m.nx) (s).toNat)) (a).toNat)))])) (by first | rfl | simp [ldV]) ?_
      refine R_fld_mp (o' := 0) t3 h3 (by first | rfl | simp [okB, Blk.own]) rfl ?_
      refine R_fld_mp (o' := 3) (@rfl V (V.mp 3 1 0 0)) h3 (by first | rfl | simp [okB, Blk.own]) rfl ?_
      refine R_load_mp (v := (V.sl (List.map cL (m.ot)))) (@rfl V (V.mp 3 1 0 3)) h3 (by first | rfl | simp [ldB, ldV, Blk.own, V.one]) ?_
      refine R_mv t1 ?_
      refine R_idxI (i := (s)) (@rfl V (V.sl (List.map cL (m.ot)))) (@rfl V (iV (s))) (by omega) (by omega) rfl ?_
      refine R_load_pp (v := (V.sl (List.map cI ((nth (m.ot) (s).toNat))))) (@rfl V (V.pp [(V.sl (List.map cI ((nth (m.ot) (s).toNat))))])) (by first | rfl | simp [ldV]) ?_
      refine R_mv t2 ?_
      refine R_idxI (i := (a)) (@rfl V (V.sl (List.map cI ((nth (m.ot) (s).toNat))))) (@rfl V (iV (a))) (by omega) (by omega) rfl ?_
      refine R_load_pp (v := (iV ((nth ((nth (m.ot) (s).toNat)) (a).toNat)))) (@rfl V (V.pp [(iV ((nth ((nth (m.ot) (s).toNat)) (a).toNat)))])) (by first | rfl | simp [ldV]) ?_
      refine R_mv (@rfl V (iV ((nth ((nth (m.nx) (s).toNat)) (a).toNat)))) ?_
      refine R_mv (@rfl V (iV ((nth ((nth (m.ot) (s).toNat)) (a).toNat)))) ?_
      exact R_nil ⟨rfl, rfl, h3, trivial⟩
    · intro T H ⟨t6, t7, h3, _⟩
      refine W_ret ?_
      refine Ret_2 t6 t7 (fz_int ?_) (fz_int ?_)
      · rfl
      · rfl

end Go.Proofs.Ytngkckefanbhgaa

namespace Go.Proofs.Ytngkckefanbhgaa
open Go Go.Proofs

theorem run_E (m : M) (s : Int) (w : List Int) (v5 : Nat) (Hi : Heap) (h30 : Hi 30 = (⟨1, true, false, 122, 5, [[(iV (m.i)), (iV (m.s)), (V.sl (List.map cL (m.nx))), (V.sl (List.map cL (m.ot))), (iV (s))]]⟩ : Blk)) (h105 : (Hi 105).ver = v5) (hm : mval m = 0) (hs : 0 ≤ s ∧ s < m.nx.length) (hl : w.length ≤ 1024) (hw : ∀ k, k < w.length → 0 ≤ nth w k ∧ nth w k < m.i) : CallOK Try.prog 94 [(V.mp 30 1 0 0), (V.sl (List.map cI (w)))] Hi (V.ms 105 (v5 + 1 + w.length) 0 (w.length)) (upd (upd Hi 105 (⟨v5 + 1 + w.length, true, true, 3, 1, (List.map cI (outs m s w))⟩ : Blk)) 30 (⟨1, true, false, 122, 5, [[(iV (m.i)), (iV (m.s)), (V.sl (List.map cL (m.nx))), (V.sl (List.map cL (m.ot))), (iV (goal m s w))]]⟩ : Blk)) := by
  refine CallOK_of_Wb (k0 := 100) Try.func94 s94_ok (by kernel_rfl) (by simp [s94]) fun hB => ?_
  simp only [bnd_map, bnd_int, bnd_bool, bnd_str, bnd_agg, bnd_pp, bnd_nil, bnd_cons, implies_true, and_true, true_and] at hB
  unfold s94
  dsimp only
  refine W_seq_regc (fun T H => T 0 = (V.mp 30 1 0 0) ∧ T 1 = (V.sl (List.map cI (w))) ∧ (∀ j, j ∉ [105, 30] → H j = Hi j) ∧ H 30 = (⟨1, true, false, 122, 5, [[(iV (m.i)), (iV (m.s)), (V.sl (List.map cL (m.nx))), (V.sl (List.map cL (m.ot))), (iV (s))]]⟩ : Blk) ∧ (H 105).ver = v5 ∧ True) ?_ ?_
  · unfold r94_0
    refine R_mv (@rfl V V.nilsl) ?_
    exact R_nil ⟨rfl, rfl, (fun _ _ => rfl), h30, h105, trivial⟩
  · intro T H ⟨t0, t1, hF, h30, h105, _⟩
    refine W_seq_regc (fun T H => T 0 = (V.mp 30 1 0 0) ∧ T 1 = (V.sl (List.map cI (w))) ∧ T 5 = (V.ms 105 (v5 + 1) 0 (0)) ∧ (∀ j, j ∉ [105, 30] → H j = Hi j) ∧ H 30 = (⟨1, true, false, 122, 5, [[(iV (m.i)), (iV (m.s)), (V.sl (List.map cL (m.nx))), (V.sl (List.map cL (m.ot))), (iV (s))]]⟩ : Blk) ∧ H 105 = (⟨v5 + 1, true, true, 3, 1, []⟩ : Blk) ∧ True) ?_ ?_
    · unfold r94_1
      refine R_lazy (i := 105) (n := v5) rfl h105 ?_
      exact R_nil ⟨t0, t1, rfl, (upd_out hF (by decide)), h30, rfl, trivial⟩
    · intro T H ⟨t0, t1, t5, hF, h30, h105, _⟩
      refine W_seq_seq ?_
      refine W_seq_regc (fun T H => T 0 = (V.mp 30 1 0 0) ∧ T 5 = (V.ms 105 (v5 + 1) 0 (0)) ∧ T 10 = (V.sl (List.map cI (w))) ∧ T 11 = (iV ((w.length : Nat) : Int)) ∧ T 12 = (iV (0 : Int)) ∧ (∀ j, j ∉ [105, 30] → H j = Hi j) ∧ H 30 = (⟨1, true, false, 122, 5, [[(iV (m.i)), (iV (m.s)), (V.sl (List.map cL (m.nx))), (V.sl (List.map cL (m.ot))), (iV (s))]]⟩ : Blk) ∧ H 105 = (⟨v5 + 1, true, true, 3, 1, []⟩ : Blk) ∧ True) ?_ ?_
      · unfold r94_2
        refine R_mv t1 ?_
        refine R_len (@rfl V (V.sl (List.map cI (w)))) ?_
        refine R_mv (@rfl V (iV (0 : Int))) ?_
        exact R_nil ⟨t0, t5, rfl, rfl, rfl, hF, h30, h105, trivial⟩
      · intro T H ⟨t0, t5, t10, t11, t12, hF, h30, h105, _⟩
        refine W_seq_blockg fun Q1 n1 x1 y1 z1 => ?_
        refine W_loop (fun mm T H => ∃ (k : Nat), mm = w.length - k ∧ T 0 = (V.mp 30 1 0 0) ∧ T 5 = (V.ms 105 (v5 + 1 + k) 0 (k)) ∧ T 10 = (V.sl (List.map cI (w))) ∧ T 11 = (iV ((w.length : Nat) : Int)) ∧ T 12 = (iV ((k : Nat) : Int)) ∧ (∀ j, j ∉ [105, 30] → H j = Hi j) ∧ H 30 = (⟨1, true, false, 122, 5, [[(iV (m.i)), (iV (m.s)), (V.sl (List.map cL (m.nx))), (V.sl (List.map cL (m.ot))), (iV (goal m s (w.take k)))]]⟩ : Blk) ∧ H 105 = (⟨v5 + 1 + k, true, true, 3, 1, (List.map cI (outs m s (w.take k)))⟩ : Blk) ∧ (k ≤ w.length)) ?_ ?_
        · refine ⟨_, 0, rfl, t0, (Eq.trans t5 (by first | rfl | (have e : k = w.length := (by omega); subst e; rfl))), t10, t11, (Eq.trans t12 (by first | rfl | (have e : k = w.length := (by omega); subst e; rfl))), hF, (Eq.trans h30 (by first | rfl | (rw [outs_step m s (by omega)]; rfl) | (rw [goal_step m s (by omega)]) | (have e : k = w.length := (by omega); subst e; rw [List.take_length]; done))), (Eq.trans h105 (by first | rfl | (rw [outs_step m s (by omega)]; rfl) | (rw [goal_step m s (by omega)]) | (have e : k = w.length := (by omega); subst e; rw [List.take_length]; done))), ?_⟩
          · omega
        · intro mm T H ⟨k, hmm, t0, t5, t10, t11, t12, hF, h30, h105, hk⟩ Q2 p12 p22 p32
          unfold b94_0
          refine W_seq_regc (fun T H => T 0 = (V.mp 30 1 0 0) ∧ T 5 = (V.ms 105 (v5 + 1 + k) 0 (k)) ∧ T 10 = (V.sl (List.map cI (w))) ∧ T 11 = (iV ((w.length : Nat) : Int)) ∧ T 12 = (iV ((k : Nat) : Int)) ∧ T 13 = (V.bool (decide (((k : Nat) : Int) < ((w.length : Nat) : Int)))) ∧ (∀ j, j ∉ [105, 30] → H j = Hi j) ∧ H 30 = (⟨1, true, false, 122, 5, [[(iV (m.i)), (iV (m.s)), (V.sl (List.map cL (m.nx))), (V.sl (List.map cL (m.ot))), (iV (goal m s (w.take k)))]]⟩ : Blk) ∧ H 105 = (⟨v5 + 1 + k, true, true, 3, 1, (List.map cI (outs m s (w.take k)))⟩ : Blk) ∧ True) ?_ ?_
          · unfold r94_3
            refine R_lss (x := ((k : Nat) : Int)) (y := ((w.length : Nat) : Int)) t12 t11 ?_
            exact R_nil ⟨t0, t5, t10, t11, t12, rfl, hF, h30, h105, trivial⟩
          · intro T H ⟨t0, t5, t10, t11, t12, t13, hF, h30, h105, _⟩
            refine W_seq_if (p := ((k : Nat) : Int) < ((w.length : Nat) : Int)) t13 (fun c3 => ?_) (fun c3 => ?_)
            ·
              have h1 := run_at hm hs hw (k := k) (by omega)
              refine W_seq_skip ?_
              refine W_seq_blockg fun Q4 n4 x4 y4 z4 => ?_
              refine W_seq_regc (fun T H => T 0 = (V.mp 30 1 0 0) ∧ T 5 = (V.ms 105 (v5 + 1 + k) 0 (k)) ∧ T 7 = (iV ((nth (w) (k)))) ∧ T 10 = (V.sl (List.map cI (w))) ∧ T 11 = (iV ((w.length : Nat) : Int)) ∧ T 12 = (iV ((k : Nat) : Int)) ∧ (∀ j, j ∉ [105, 30] → H j = Hi j) ∧ H 30 = (⟨1, true, false, 122, 5, [[(iV (m.i)), (iV (m.s)), (V.sl (List.map cL (m.nx))), (V.sl (List.map cL (m.ot))), (iV (goal m s (w.take k)))]]⟩ : Blk) ∧ H 105 = (⟨v5 + 1 + k, true, true, 3, 1, (List.map cI (outs m s (w.take k)))⟩ : Blk) ∧ True) ?_ ?_
              · unfold r94_4
                refine R_idx (i := k) t10 t12 (by omega) rfl ?_
                refine R_load_pp (v := (iV ((nth (w) (k))))) (@rfl V (V.pp [(iV ((nth (w) (k))))])) (by first | rfl | simp [ldV]) ?_
                refine R_mv (@rfl V (iV ((nth (w) (k))))) ?_
                exact R_nil ⟨t0, t5, rfl, t10, t11, t12, hF, h30, h105, trivial⟩
              · intro T H ⟨t0, t5, t7, t10, t11, t12, hF, h30, h105, _⟩
                refine W_seq_regc (fun T H => T 0 = (V.mp 30 1 0 0) ∧ T 5 = (V.ms 105 (v5 + 1 + k) 0 (k)) ∧ T 8 = (iV (cell m.nx ((goal m s (w.take k))) (((nth (w) (k)))))) ∧ T 9 = (iV (cell m.ot ((goal m s (w.take k))) (((nth (w) (k)))))) ∧ T 10 = (V.sl (List.map cI (w))) ∧ T 11 = (iV ((w.length : Nat) : Int)) ∧ T 12 = (iV ((k : Nat) : Int)) ∧ (∀ j, j ∉ [105, 30] → H j = Hi j) ∧ H 30 = (⟨1, true, false, 122, 5, [[(iV (m.i)), (iV (m.s)), (V.sl (List.map cL (m.nx))), (V.sl (List.map cL (m.ot))), (iV (goal m s (w.take k)))]]⟩ : Blk) ∧ H 105 = (⟨v5 + 1 + k, true, true, 3, 1, (List.map cI (outs m s (w.take k)))⟩ : Blk) ∧ True) ?_ ?_
                · unfold r94_5
                  refine R_mv t0 ?_
                  refine R_nilck_mp (@rfl V (V.mp 30 1 0 0)) h30 (by first | rfl | simp [okB, Blk.own]) ?_
                  refine R_fld_mp (o' := 0) (@rfl V (V.mp 30 1 0 0)) h30 (by first | rfl | simp [okB, Blk.own]) rfl ?_
                  refine R_load_mp (v := (V.agg [(iV (m.i)), (iV (m.s)), (V.sl (List.map cL (m.nx))), (V.sl (List.map cL (m.ot)))])) (@rfl V (V.mp 30 1 0 0)) h30 (by first | rfl | simp [ldB, ldV, Blk.own, V.one]) ?_
                  refine R_mv t0 ?_
                  refine R_nilck_mp (@rfl V (V.mp 30 1 0 0)) h30 (by first | rfl | simp [okB, Blk.own]) ?_
                  refine R_fld_mp (o' := 4) (@rfl V (V.mp 30 1 0 0)) h30 (by first | rfl | simp [okB, Blk.own]) rfl ?_
                  refine R_load_mp (v := (iV (goal m s (w.take k)))) (@rfl V (V.mp 30 1 0 4)) h30 (by first | rfl | simp [ldB, ldV, Blk.own, V.one]) ?_
                  refine R_mv t7 ?_
                  refine R_call (evcons (@rfl V (V.agg [(iV (m.i)), (iV (m.s)), (V.sl (List.map cL (m.nx))), (V.sl (List.map cL (m.ot)))])) (evcons (@rfl V (iV (goal m s (w.take k)))) (evcons (@rfl V (iV ((nth (w) (k))))) evnil))) (move_pure m ((goal m s (w.take k))) (((nth (w) (k)))) h1.1 h1.2) (fzv_mapcanon _ _ (by simp [-List.map_take, -List.map_drop, -List.map_append, -List.map_reverse])) (by simp [-List.map_take, -List.map_drop, -List.map_append, -List.map_reverse]) (Or.inl (by simp [-List.map_take, -List.map_drop, -List.map_append, -List.map_reverse])) ?_
                  refine R_mv (@rfl V (V.tup [(iV (cell m.nx ((goal m s (w.take k))) (((nth (w) (k)))))), (iV (cell m.ot ((goal m s (w.take k))) (((nth (w) (k))))))])) ?_
                  refine R_ext (v := (iV (cell m.nx ((goal m s (w.take k))) (((nth (w) (k))))))) (@rfl V (V.tup [(iV (cell m.nx ((goal m s (w.take k))) (((nth (w) (k)))))), (iV (cell m.ot ((goal m s (w.take k))) (((nth (w) (k))))))])) rfl ?_
                  refine R_ext (v := (iV (cell m.ot ((goal m s (w.take k))) (((nth (w) (k))))))) (@rfl V (V.tup [(iV (cell m.nx ((goal m s (w.take k))) (((nth (w) (k)))))), (iV (cell m.ot ((goal m s (w.take k))) (((nth (w) (k))))))])) rfl ?_
                  refine R_mv (@rfl V (iV (cell m.nx ((goal m s (w.take k))) (((nth (w) (k))))))) ?_
                  refine R_mv (@rfl V (iV (cell m.ot ((goal m s (w.take k))) (((nth (w) (k))))))) ?_
                  exact R_nil ⟨t0, t5, rfl, rfl, t10, t11, t12, hF, h30, h105, trivial⟩
                · intro T H ⟨t0, t5, t8, t9, t10, t11, t12, hF, h30, h105, _⟩
                  refine W_seq_regc (fun T H => T 0 = (V.mp 30 1 0 0) ∧ T 5 = (V.ms 105 (v5 + 1 + k) 0 (k)) ∧ T 9 = (iV (cell m.ot ((goal m s (w.take k))) (((nth (w) (k)))))) ∧ T 10 = (V.sl (List.map cI (w))) ∧ T 11 = (iV ((w.length : Nat) : Int)) ∧ T 12 = (iV ((k : Nat) : Int)) ∧ (∀ j, j ∉ [105, 30] → H j = Hi j) ∧ H 30 = (⟨1, true, false, 122, 5, [[(iV (m.i)), (iV (m.s)), (V.sl (List.map cL (m.nx))), (V.sl (List.map cL (m.ot))), (iV (cell m.nx ((goal m s (w.take k))) (((nth (w) (k))))))]]⟩ : Blk) ∧ H 105 = (⟨v5 + 1 + k, true, true, 3, 1, (List.map cI (outs m s (w.take k)))⟩ : Blk) ∧ True) ?_ ?_
                  · unfold r94_6
                    refine R_mv t0 ?_
                    refine R_mv t8 ?_
                    refine R_nilck_mp (@rfl V (V.mp 30 1 0 0)) h30 (by first | rfl | simp [okB, Blk.own]) ?_
                    refine R_fld_mp (o' := 4) (@rfl V (V.mp 30 1 0 0)) h30 (by first | rfl | simp [okB, Blk.own]) rfl ?_
                    refine R_store (vs := [(iV (cell m.nx ((goal m s (w.take k))) (((nth (w) (k))))))]) (B' := (⟨1, true, false, 122, 5, [[(iV (m.i)), (iV (m.s)), (V.sl (List.map cL (m.nx))), (V.sl (List.map cL (m.ot))), (iV (cell m.nx ((goal m s (w.take k))) (((nth (w) (k))))))]]⟩ : Blk)) (@rfl V (V.mp 30 1 0 4)) (@rfl V (iV (cell m.nx ((goal m s (w.take k))) (((nth (w) (k))))))) rfl h30 (by first | rfl | simp [stB, okB, Blk.own, putAt, V.one]) ?_
                    exact R_nil ⟨t0, t5, t9, t10, t11, t12, (upd_out hF (by decide)), rfl, h105, trivial⟩
                  · intro T H ⟨t0, t5, t9, t10, t11, t12, hF, h30, h105, _⟩
                    refine W_regc (fun T H => T 0 = (V.mp 30 1 0 0) ∧ T 5 = (V.ms 105 (v5 + 1 + k + 1) 0 (k + 1)) ∧ T 10 = (V.sl (List.map cI (w))) ∧ T 11 = (iV ((w.length : Nat) : Int)) ∧ T 12 = (iV ((k : Nat) : Int)) ∧ (∀ j, j ∉ [105, 30] → H j = Hi j) ∧ H 30 = (⟨1, true, false, 122, 5, [[(iV (m.i)), (iV (m.s)), (V.sl (List.map cL (m.nx))), (V.sl (List.map cL (m.ot))), (iV (cell m.nx ((goal m s (w.take k))) (((nth (w) (k))))))]]⟩ : Blk) ∧ H 105 = (⟨v5 + 1 + k + 1, true, true, 3, 1, (List.map cI (outs m s (w.take k) ++ [(cell m.ot ((goal m s (w.take k))) (((nth (w) (k)))))]))⟩ : Blk) ∧ True) ?_ ?_
                    · unfold r94_7
                      refine R_mv t5 ?_
                      refine R_mv t9 ?_
                      refine R_bslice (qs := [(0, (iV (cell m.ot ((goal m s (w.take k))) (((nth (w) (k)))))))]) (rows := [[(iV (cell m.ot ((goal m s (w.take k))) (((nth (w) (k))))))]]) (mcons (congrArg (fun v => (0, v)) (@rfl V (iV (cell m.ot ((goal m s (w.take k))) (((nth (w) (k)))))))) rfl) rfl ?_
                      refine R_append1 (l := (outs m s (w.take k))) (f := cI) (x := ((cell m.ot ((goal m s (w.take k))) (((nth (w) (k))))))) (@rfl V (V.ms 105 (v5 + 1 + k) 0 (k))) h105 (by first | rfl | (simp only [outs_len, List.length_take]; omega)) (@rfl V (V.sl [[(iV (cell m.ot ((goal m s (w.take k))) (((nth (w) (k))))))]])) rfl rfl (by omega) (by omega) ?_
                      refine R_mv (@rfl V (V.ms 105 (v5 + 1 + k + 1) 0 (k + 1))) ?_
                      exact R_nil ⟨t0, rfl, t10, t11, t12, (upd_out hF (by decide)), h30, rfl, trivial⟩
                    · intro T H ⟨t0, t5, t10, t11, t12, hF, h30, h105, _⟩
                      refine n4 _ _ ?_
                      refine .done ?_
                      refine W_regc (fun T H => T 0 = (V.mp 30 1 0 0) ∧ T 5 = (V.ms 105 (v5 + 1 + k + 1) 0 (k + 1)) ∧ T 10 = (V.sl (List.map cI (w))) ∧ T 11 = (iV ((w.length : Nat) : Int)) ∧ T 12 = (iV ((k + 1 : Nat) : Int)) ∧ (∀ j, j ∉ [105, 30] → H j = Hi j) ∧ H 30 = (⟨1, true, false, 122, 5, [[(iV (m.i)), (iV (m.s)), (V.sl (List.map cL (m.nx))), (V.sl (List.map cL (m.ot))), (iV (cell m.nx ((goal m s (w.take k))) (((nth (w) (k))))))]]⟩ : Blk) ∧ H 105 = (⟨v5 + 1 + k + 1, true, true, 3, 1, (List.map cI (outs m s (w.take k) ++ [(cell m.ot ((goal m s (w.take k))) (((nth (w) (k)))))]))⟩ : Blk) ∧ True) ?_ ?_
                      · unfold r94_8
                        refine R_addN (m := k) (n := 1) t12 (@rfl V (iV ((1 : Nat) : Int))) (by omega) ?_
                        refine R_mv (@rfl V (iV ((k + 1 : Nat) : Int))) ?_
                        exact R_nil ⟨t0, t5, t10, t11, rfl, hF, h30, h105, trivial⟩
                      · intro T H ⟨t0, t5, t10, t11, t12, hF, h30, h105, _⟩
                        refine p12 _ _ _ ?_ ⟨(k + 1), rfl, t0, (Eq.trans t5 (by first | rfl | (have e : k = w.length := (by omega); subst e; rfl))), t10, t11, (Eq.trans t12 (by first | rfl | (have e : k = w.length := (by omega); subst e; rfl))), hF, (Eq.trans h30 (by first | rfl | (rw [outs_step m s (by omega)]; rfl) | (rw [goal_step m s (by omega)]) | (have e : k = w.length := (by omega); subst e; rw [List.take_length]; done))), (Eq.trans h105 (by first | rfl | (rw [outs_step m s (by omega)]; rfl) | (rw [goal_step m s (by omega)]) | (have e : k = w.length := (by omega); subst e; rw [List.take_length]; done))), ?_⟩
                        · omega
                        · omega
            ·
              refine W_seq_exit ?_
              refine p32 _ _ _ ?_
              refine x1 _ _ ?_
              refine .done ?_
              refine W_seq_regc (fun T H => T 4 = (V.ms 105 (v5 + 1 + k) 0 (k)) ∧ (∀ j, j ∉ [105, 30] → H j = Hi j) ∧ H 30 = (⟨1, true, false, 122, 5, [[(iV (m.i)), (iV (m.s)), (V.sl (List.map cL (m.nx))), (V.sl (List.map cL (m.ot))), (iV (goal m s (w.take k)))]]⟩ : Blk) ∧ H 105 = (⟨v5 + 1 + k, true, true, 3, 1, (List.map cI (outs m s (w.take k)))⟩ : Blk) ∧ True) ?_ ?_
              · unfold r94_9
                refine R_mv t5 ?_
                refine R_mv (@rfl V (V.ms 105 (v5 + 1 + k) 0 (k))) ?_
                exact R_nil ⟨rfl, hF, h30, h105, trivial⟩
              · intro T H ⟨t4, hF, h30, h105, _⟩
                refine W_ret ?_
                refine RetE_1 (Eq.trans t4 (by first | rfl | (have e : k = w.length := (by omega); subst e; rfl))) ?_
                refine heap2 hF (Eq.trans h105 (by first | rfl | (rw [outs_step m s (by omega)]; rfl) | (rw [goal_step m s (by omega)]) | (have e : k = w.length := (by omega); subst e; rw [List.take_length]; done))) (Eq.trans h30 (by first | rfl | (rw [outs_step m s (by omega)]; rfl) | (rw [goal_step m s (by omega)]) | (have e : k = w.length := (by omega); subst e; rw [List.take_length]; done))) (by decide)

end Go.Proofs.Ytngkckefanbhgaa

namespace Go.Proofs.Ytngkckefanbhgaa
open Go Go.Proofs

theorem from_pure (m : M) (s : Int) (w : List Int) : PureC Try.prog 56 [(V.agg [(iV (m.i)), (iV (m.s)), (V.sl (List.map cL (m.nx))), (V.sl (List.map cL (m.ot)))]), (iV (s)), (V.sl (List.map cI (w)))] (V.tup [(V.sl (List.map cI (frOut m s w))), (iV (frEnd m s w)), (iV (frE m s w))]) := by
  refine pure_of_Wb true 6 Try.func56 s56_ok (by kernel_rfl) (by simp [s56]) (by simp) (by simp) fun hB => ?_
  simp only [bnd_map, bnd_int, bnd_bool, bnd_str, bnd_agg, bnd_pp, bnd_nil, bnd_cons, implies_true, and_true, true_and] at hB
  unfold s56
  dsimp only
  refine W_seq_regc (fun T H => T 1 = (iV (s)) ∧ T 2 = (V.sl (List.map cI (w))) ∧ T 3 = (V.mp 3 1 0 0) ∧ H 3 = (⟨1, true, false, 24, 4, [[(iV (m.i)), (iV (m.s)), (V.sl (List.map cL (m.nx))), (V.sl (List.map cL (m.ot)))]]⟩ : Blk) ∧ H 30 = (⟨0, false, false, 0, 0, []⟩ : Blk) ∧ H 105 = (⟨0, false, false, 0, 0, []⟩ : Blk) ∧ True) ?_ ?_
  · unfold r56_0
    refine R_box (i := 3) (n := 0) (m := 4) (cs := [(iV (m.i)), (iV (m.s)), (V.sl (List.map cL (m.nx))), (V.sl (List.map cL (m.ot)))]) rfl (congrArg Blk.ver rfl) (@rfl V (V.agg [(iV (m.i)), (iV (m.s)), (V.sl (List.map cL (m.nx))), (V.sl (List.map cL (m.ot)))])) rfl rfl ?_
    refine R_mv (@rfl V V.nilsl) ?_
    refine R_mv (@rfl V (iV (0 : Int))) ?_
    refine R_mv (@rfl V (iV (0 : Int))) ?_
    exact R_nil ⟨rfl, rfl, rfl, rfl, rfl, rfl, trivial⟩
  · intro T H ⟨t1, t2, t3, h3, h30, h105, _⟩
    refine W_seq_seq ?_
    refine W_seq_regc (fun T H => T 1 = (iV (s)) ∧ T 2 = (V.sl (List.map cI (w))) ∧ T 3 = (V.mp 3 1 0 0) ∧ T 9 = (iV (stE m ((s)))) ∧ H 3 = (⟨1, true, false, 24, 4, [[(iV (m.i)), (iV (m.s)), (V.sl (List.map cL (m.nx))), (V.sl (List.map cL (m.ot)))]]⟩ : Blk) ∧ H 30 = (⟨0, false, false, 0, 0, []⟩ : Blk) ∧ H 105 = (⟨0, false, false, 0, 0, []⟩ : Blk) ∧ True) ?_ ?_
    · unfold r56_1
      refine R_load_mp (v := (V.agg [(iV (m.i)), (iV (m.s)), (V.sl (List.map cL (m.nx))), (V.sl (List.map cL (m.ot)))])) t3 h3 (by first | rfl | simp [ldB, ldV, Blk.own, V.one]) ?_
      refine R_mv t1 ?_
      refine R_call (evcons (@rfl V (V.agg [(iV (m.i)), (iV (m.s)), (V.sl (List.map cL (m.nx))), (V.sl (List.map cL (m.ot)))])) (evcons (@rfl V (iV (s))) evnil)) (state_pure m ((s))) (fzv_mapcanon _ _ (by simp [-List.map_take, -List.map_drop, -List.map_append, -List.map_reverse])) (by simp [-List.map_take, -List.map_drop, -List.map_append, -List.map_reverse]) (Or.inl (by simp [-List.map_take, -List.map_drop, -List.map_append, -List.map_reverse])) ?_
      refine R_mv (@rfl V (iV (stE m ((s))))) ?_
      exact R_nil ⟨t1, t2, t3, rfl, h3, h30, h105, trivial⟩
    · intro T H ⟨t1, t2, t3, t9, h3, h30, h105, _⟩
      refine W_seq_seq ?_
      refine W_seq_regc (fun T H => T 1 = (iV (s)) ∧ T 2 = (V.sl (List.map cI (w))) ∧ T 3 = (V.mp 3 1 0 0) ∧ T 9 = (iV (stE m ((s)))) ∧ T 17 = (V.bool (decide ((stE m ((s))) ≠ (0 : Int)))) ∧ H 3 = (⟨1, true, false, 24, 4, [[(iV (m.i)), (iV (m.s)), (V.sl (List.map cL (m.nx))), (V.sl (List.map cL (m.ot)))]]⟩ : Blk) ∧ H 30 = (⟨0, false, false, 0, 0, []⟩ : Blk) ∧ H 105 = (⟨0, false, false, 0, 0, []⟩ : Blk) ∧ True) ?_ ?_
      · unfold r56_2
        refine R_mv t9 ?_
        refine R_neq (x := (stE m ((s)))) (y := (0 : Int)) (@rfl V (iV (stE m ((s))))) (@rfl V (iV (0 : Int))) ?_
        exact R_nil ⟨t1, t2, t3, t9, rfl, h3, h30, h105, trivial⟩
      · intro T H ⟨t1, t2, t3, t9, t17, h3, h30, h105, _⟩
        refine W_seq_if (p := (stE m ((s))) ≠ (0 : Int)) t17 (fun c1 => ?_) (fun c1 => ?_)
        ·
          refine W_seq_seq ?_
          refine W_seq_regc (fun T H => T 6 = V.nilsl ∧ T 7 = (iV (0 : Int)) ∧ T 8 = (iV (stE m ((s)))) ∧ H 3 = (⟨1, true, false, 24, 4, [[(iV (m.i)), (iV (m.s)), (V.sl (List.map cL (m.nx))), (V.sl (List.map cL (m.ot)))]]⟩ : Blk) ∧ H 30 = (⟨0, false, false, 0, 0, []⟩ : Blk) ∧ H 105 = (⟨0, false, false, 0, 0, []⟩ : Blk) ∧ True) ?_ ?_
          · unfold r56_3
            refine R_mv t9 ?_
            refine R_mv (@rfl V V.nilsl) ?_
            refine R_mv (@rfl V (iV (0 : Int))) ?_
            refine R_mv (@rfl V (iV (stE m ((s))))) ?_
            exact R_nil ⟨rfl, rfl, rfl, h3, h30, h105, trivial⟩
          · intro T H ⟨t6, t7, t8, h3, h30, h105, _⟩
            refine W_seq_ret ?_
            refine Ret_3 t6 t7 t8 (fz_nil ?_) (fz_int ?_) (fz_int ?_)
            · rw [frOut, if_pos (by rw [frE, if_pos (by omega)]; omega)]
            · rw [frEnd, if_pos (by rw [frE, if_pos (by omega)]; omega)]
            · rw [frE, if_pos (by omega)]
        ·
          have hs := stE_ok (m := m) (s := s) (by omega)
          refine W_seq_skip ?_
          refine W_seq_seq ?_
          refine W_seq_regc (fun T H => T 1 = (iV (s)) ∧ T 2 = (V.sl (List.map cI (w))) ∧ T 3 = (V.mp 3 1 0 0) ∧ T 10 = (iV (wchk w ((m.i)))) ∧ H 3 = (⟨1, true, false, 24, 4, [[(iV (m.i)), (iV (m.s)), (V.sl (List.map cL (m.nx))), (V.sl (List.map cL (m.ot)))]]⟩ : Blk) ∧ H 30 = (⟨0, false, false, 0, 0, []⟩ : Blk) ∧ H 105 = (⟨0, false, false, 0, 0, []⟩ : Blk) ∧ True) ?_ ?_
          · unfold r56_4
            refine R_mv t2 ?_
            refine R_fld_mp (o' := 0) t3 h3 (by first | rfl | simp [okB, Blk.own]) rfl ?_
            refine R_load_mp (v := (iV (m.i))) (@rfl V (V.mp 3 1 0 0)) h3 (by first | rfl | simp [ldB, ldV, Blk.own, V.one]) ?_
            refine R_call (evcons (@rfl V (V.sl (List.map cI (w)))) (evcons (@rfl V (iV (m.i))) evnil)) (check_pure w ((m.i))) (fzv_mapcanon _ _ (by simp [-List.map_take, -List.map_drop, -List.map_append, -List.map_reverse])) (by simp [-List.map_take, -List.map_drop, -List.map_append, -List.map_reverse]) (Or.inl (by simp [-List.map_take, -List.map_drop, -List.map_append, -List.map_reverse])) ?_
            refine R_mv (@rfl V (iV (wchk w ((m.i))))) ?_
            exact R_nil ⟨t1, t2, t3, rfl, h3, h30, h105, trivial⟩
          · intro T H ⟨t1, t2, t3, t10, h3, h30, h105, _⟩
            refine W_seq_seq ?_
            refine W_seq_regc (fun T H => T 1 = (iV (s)) ∧ T 2 = (V.sl (List.map cI (w))) ∧ T 3 = (V.mp 3 1 0 0) ∧ T 10 = (iV (wchk w ((m.i)))) ∧ T 24 = (V.bool (decide ((wchk w ((m.i))) ≠ (0 : Int)))) ∧ H 3 = (⟨1, true, false, 24, 4, [[(iV (m.i)), (iV (m.s)), (V.sl (List.map cL (m.nx))), (V.sl (List.map cL (m.ot)))]]⟩ : Blk) ∧ H 30 = (⟨0, false, false, 0, 0, []⟩ : Blk) ∧ H 105 = (⟨0, false, false, 0, 0, []⟩ : Blk) ∧ True) ?_ ?_
            · unfold r56_5
              refine R_mv t10 ?_
              refine R_neq (x := (wchk w ((m.i)))) (y := (0 : Int)) (@rfl V (iV (wchk w ((m.i))))) (@rfl V (iV (0 : Int))) ?_
              exact R_nil ⟨t1, t2, t3, t10, rfl, h3, h30, h105, trivial⟩
            · intro T H ⟨t1, t2, t3, t10, t24, h3, h30, h105, _⟩
              refine W_seq_if (p := (wchk w ((m.i))) ≠ (0 : Int)) t24 (fun c2 => ?_) (fun c2 => ?_)
              ·
                refine W_seq_seq ?_
                refine W_seq_regc (fun T H => T 6 = V.nilsl ∧ T 7 = (iV (0 : Int)) ∧ T 8 = (iV (wchk w ((m.i)))) ∧ H 3 = (⟨1, true, false, 24, 4, [[(iV (m.i)), (iV (m.s)), (V.sl (List.map cL (m.nx))), (V.sl (List.map cL (m.ot)))]]⟩ : Blk) ∧ H 30 = (⟨0, false, false, 0, 0, []⟩ : Blk) ∧ H 105 = (⟨0, false, false, 0, 0, []⟩ : Blk) ∧ True) ?_ ?_
                · unfold r56_6
                  refine R_mv t10 ?_
                  refine R_mv (@rfl V V.nilsl) ?_
                  refine R_mv (@rfl V (iV (0 : Int))) ?_
                  refine R_mv (@rfl V (iV (wchk w ((m.i))))) ?_
                  exact R_nil ⟨rfl, rfl, rfl, h3, h30, h105, trivial⟩
                · intro T H ⟨t6, t7, t8, h3, h30, h105, _⟩
                  refine W_seq_ret ?_
                  refine Ret_3 t6 t7 t8 (fz_nil ?_) (fz_int ?_) (fz_int ?_)
                  · rw [frOut, if_pos (by rw [frE, if_neg (by omega)]; omega)]
                  · rw [frEnd, if_pos (by rw [frE, if_neg (by omega)]; omega)]
                  · rw [frE, if_neg (by omega)]
              ·
                have hw := wchk_ok (w := w) (n := m.i) (by omega)
                refine W_seq_skip ?_
                refine W_seq_regc (fun T H => T 2 = (V.sl (List.map cI (w))) ∧ T 11 = (V.mp 30 1 0 0) ∧ H 3 = (⟨1, true, false, 24, 4, [[(iV (m.i)), (iV (m.s)), (V.sl (List.map cL (m.nx))), (V.sl (List.map cL (m.ot)))]]⟩ : Blk) ∧ H 30 = (⟨1, true, false, 122, 5, [[(iV (m.i)), (iV (m.s)), (V.sl (List.map cL (m.nx))), (V.sl (List.map cL (m.ot))), (iV (s))]]⟩ : Blk) ∧ H 105 = (⟨0, false, false, 0, 0, []⟩ : Blk) ∧ True) ?_ ?_
                · unfold r56_7
                  refine R_load_mp (v := (V.agg [(iV (m.i)), (iV (m.s)), (V.sl (List.map cL (m.nx))), (V.sl (List.map cL (m.ot)))])) t3 h3 (by first | rfl | simp [ldB, ldV, Blk.own, V.one]) ?_
                  refine R_build (qs := [(0, 4, (V.agg [(iV (m.i)), (iV (m.s)), (V.sl (List.map cL (m.nx))), (V.sl (List.map cL (m.ot)))]))]) (cs := [(iV (m.i)), (iV (m.s)), (V.sl (List.map cL (m.nx))), (V.sl (List.map cL (m.ot)))]) (mcons (congrArg (fun v => (0, 4, v)) (@rfl V (V.agg [(iV (m.i)), (iV (m.s)), (V.sl (List.map cL (m.nx))), (V.sl (List.map cL (m.ot)))]))) rfl) rfl ?_
                  refine R_mv t1 ?_
                  refine R_build (qs := [(0, 4, (V.agg [(iV (m.i)), (iV (m.s)), (V.sl (List.map cL (m.nx))), (V.sl (List.map cL (m.ot)))])), (4, 1, (iV (s)))]) (cs := [(iV (m.i)), (iV (m.s)), (V.sl (List.map cL (m.nx))), (V.sl (List.map cL (m.ot))), (iV (s))]) (mcons (congrArg (fun v => (0, 4, v)) (@rfl V (V.agg [(iV (m.i)), (iV (m.s)), (V.sl (List.map cL (m.nx))), (V.sl (List.map cL (m.ot)))]))) (mcons (congrArg (fun v => (4, 1, v)) (@rfl V (iV (s)))) rfl)) rfl ?_
                  refine R_box (i := 30) (n := 0) (m := 5) (cs := [(iV (m.i)), (iV (m.s)), (V.sl (List.map cL (m.nx))), (V.sl (List.map cL (m.ot))), (iV (s))]) rfl (congrArg Blk.ver h30) (@rfl V (V.agg [(iV (m.i)), (iV (m.s)), (V.sl (List.map cL (m.nx))), (V.sl (List.map cL (m.ot))), (iV (s))])) rfl rfl ?_
                  refine R_mv (@rfl V (V.mp 30 1 0 0)) ?_
                  exact R_nil ⟨t2, rfl, h3, rfl, h105, trivial⟩
                · intro T H ⟨t2, t11, h3, h30, h105, _⟩
                  refine W_seq_regc (fun T H => T 11 = (V.mp 30 1 0 0) ∧ T 12 = (V.ms 105 (0 + 1 + w.length) 0 (w.length)) ∧ H 3 = (⟨1, true, false, 24, 4, [[(iV (m.i)), (iV (m.s)), (V.sl (List.map cL (m.nx))), (V.sl (List.map cL (m.ot)))]]⟩ : Blk) ∧ H 30 = (⟨1, true, false, 122, 5, [[(iV (m.i)), (iV (m.s)), (V.sl (List.map cL (m.nx))), (V.sl (List.map cL (m.ot))), (iV (goal m s w))]]⟩ : Blk) ∧ H 105 = (⟨0 + 1 + w.length, true, true, 3, 1, (List.map cI (outs m s w))⟩ : Blk) ∧ True) ?_ ?_
                  · unfold r56_8
                    refine R_mv t11 ?_
                    refine R_mv t2 ?_
                    refine R_callE (evcons (@rfl V (V.mp 30 1 0 0)) (evcons (@rfl V (V.sl (List.map cI (w)))) evnil)) (run_E m s w 0 _ h30 (congrArg Blk.ver h105) hs.1 hs.2 hw.1 hw.2) ?_
                    refine R_mv (@rfl V (V.ms 105 (0 + 1 + w.length) 0 (w.length))) ?_
                    exact R_nil ⟨t11, rfl, h3, rfl, rfl, trivial⟩
                  · intro T H ⟨t11, t12, h3, h30, h105, _⟩
                    refine W_seq_regc (fun T H => T 6 = (V.ms 105 (0 + 1 + w.length) 0 (w.length)) ∧ T 7 = (iV (goal m s w)) ∧ T 8 = (iV (0 : Int)) ∧ H 3 = (⟨1, true, false, 24, 4, [[(iV (m.i)), (iV (m.s)), (V.sl (List.map cL (m.nx))), (V.sl (List.map cL (m.ot)))]]⟩ : Blk) ∧ H 30 = (⟨1, true, false, 122, 5, [[(iV (m.i)), (iV (m.s)), (V.sl (List.map cL (m.nx))), (V.sl (List.map cL (m.ot))), (iV (goal m s w))]]⟩ : Blk) ∧ H 105 = (⟨0 + 1 + w.length, true, true, 3, 1, (List.map cI (outs m s w))⟩ : Blk) ∧ True) ?_ ?_
                    · unfold r56_9
                      refine R_mv t12 ?_
                      refine R_mv t11 ?_
                      refine R_nilck_mp (@rfl V (V.mp 30 1 0 0)) h30 (by first | rfl | simp [okB, Blk.own]) ?_
                      refine R_fld_mp (o' := 4) (@rfl V (V.mp 30 1 0 0)) h30 (by first | rfl | simp [okB, Blk.own]) rfl ?_
                      refine R_load_mp (v := (iV (goal m s w))) (@rfl V (V.mp 30 1 0 4)) h30 (by first | rfl | simp [ldB, ldV, Blk.own, V.one]) ?_
                      refine R_mv (@rfl V (V.ms 105 (0 + 1 + w.length) 0 (w.length))) ?_
                      refine R_mv (@rfl V (iV (goal m s w))) ?_
                      refine R_mv (@rfl V (iV (0 : Int))) ?_
                      exact R_nil ⟨rfl, rfl, rfl, h3, h30, h105, trivial⟩
                    · intro T H ⟨t6, t7, t8, h3, h30, h105, _⟩
                      refine W_ret ?_
                      refine Ret_3 t6 t7 t8 (fz_ms h105 (by first | rfl | simp) (l := (outs m s w)) rfl (by first | rfl | (rw [outs_len])) (fun _ => by simp) ?_) (fz_int ?_) (fz_int ?_)
                      · rw [frOut, if_neg (by rw [frE, if_neg (by omega)]; omega)]
                      · rw [frEnd, if_neg (by rw [frE, if_neg (by omega)]; omega)]
                      · rw [frE, if_neg (by omega)]; omega

end Go.Proofs.Ytngkckefanbhgaa

namespace Go.Proofs.Ytngkckefanbhgaa
open Go Go.Proofs

theorem clone_pure (l : List Int) (hl : l.length ≤ 4294967296) : PureC Try.prog 63 [(V.sl (List.map cI (l)))] (V.sl (List.map cI (l))) := by
  refine pure_of_Wb true 6 Try.func63 s63_ok (by kernel_rfl) (by simp [s63]) (by simp) (by simp) fun hB => ?_
  simp only [bnd_map, bnd_int, bnd_bool, bnd_str, bnd_agg, bnd_pp, bnd_nil, bnd_cons, implies_true, and_true, true_and] at hB
  unfold s63
  dsimp only
  refine W_seq_regc (fun T H => T 0 = (V.sl (List.map cI (l))) ∧ H 5 = (⟨0, false, false, 0, 0, []⟩ : Blk) ∧ True) ?_ ?_
  · unfold r63_0
    refine R_mv (@rfl V V.nilsl) ?_
    exact R_nil ⟨rfl, rfl, trivial⟩
  · intro T H ⟨t0, h5, _⟩
    refine W_seq_seq ?_
    refine W_seq_reg fun K hK => ?_
    unfold r63_1
    refine R_mv t0 ?_
    refine R_isnil_sl (@rfl V (V.sl (List.map cI (l)))) (fun e1 => ?_) ?_
    ·
      replace e1 := List.map_eq_nil_iff.1 e1
      refine R_nil (hK _ _ ?_); clear hK K
      refine fork_ (R := fun T H => T 0 = (V.sl (List.map cI (l))) ∧ T 4 = (V.bool true) ∧ H 5 = (⟨0, false, false, 0, 0, []⟩ : Blk) ∧ True) ⟨t0, rfl, h5, trivial⟩ ?_
      intro T H ⟨t0, t4, h5, _⟩
      refine W_seq_ifb t4 (fun c4 => ?_) (fun c4 => ?_)
      ·
        refine W_seq_seq ?_
        refine W_seq_regc (fun T H => T 2 = V.nilsl ∧ H 5 = (⟨0, false, false, 0, 0, []⟩ : Blk) ∧ True) ?_ ?_
        · unfold r63_2
          refine R_mv (@rfl V V.nilsl) ?_
          exact R_nil ⟨rfl, h5, trivial⟩
        · intro T H ⟨t2, h5, _⟩
          refine W_seq_ret ?_
          refine Ret_1 t2 (fz_nil ?_)
          · exact e1
      · cases c4
    ·
      refine R_nil (hK _ _ ?_); clear hK K
      refine fork_ (R := fun T H => T 0 = (V.sl (List.map cI (l))) ∧ T 4 = (V.bool false) ∧ H 5 = (⟨0, false, false, 0, 0, []⟩ : Blk) ∧ True) ⟨t0, rfl, h5, trivial⟩ ?_
      intro T H ⟨t0, t4, h5, _⟩
      refine W_seq_ifb t4 (fun c7 => ?_) (fun c7 => ?_)
      · cases c7
      ·
        refine W_seq_skip ?_
        refine W_seq_regc (fun T H => T 2 = (V.ms 5 2 0 (0 + (l).length)) ∧ H 5 = (⟨2, true, false, 3, 1, (List.map cI ([] ++ l))⟩ : Blk) ∧ True) ?_ ?_
        · unfold r63_3
          refine R_bslice_own (i := 5) (n := 0) (qs := []) (rows := []) rfl (congrArg Blk.ver h5) rfl rfl ?_
          refine R_mv t0 ?_
          refine R_appendS (l := ([])) (m := l) (f := cI) (@rfl V (V.ms 5 1 0 (0))) (show _ = (⟨1, true, false, 3, 1, (List.map cI ([]))⟩ : Blk) from (@rfl Blk (⟨1, true, false, 3, 1, []⟩ : Blk))) (by first | rfl | simp) (@rfl V (V.sl (List.map cI (l)))) (fun _ => rfl) (fun _ => rfl) (by omega) (by omega) ?_
          refine R_mv (@rfl V (V.ms 5 2 0 (0 + (l).length))) ?_
          exact R_nil ⟨rfl, rfl, trivial⟩
        · intro T H ⟨t2, h5, _⟩
          refine W_ret ?_
          refine Ret_1 t2 (fz_ms h5 (by first | rfl | simp) (l := ([] ++ l)) rfl (by first | rfl | simp) (fun _ => by simp) ?_)
          · rfl

end Go.Proofs.Ytngkckefanbhgaa

