import Derived.KernelRfl
import Derived.ChangeArms
import Derived.DataElems
import Derived.DataReads
import Derived.ProofKit
import Derived.WalkKit
import Derived.Carry
import Derived.OpenShut
import Derived.Test.YtngkckefanbhgaaRows
import Derived.Test.YtngkckefanbhgaaHV2
namespace Go.Proofs.Ytngkckefanbhgaa
open Go Go.Proofs

theorem from_pure (m : M) (s : Int) (w : List Int) : PureC Try.prog 56 [(V.agg [(iV (m.i)), (iV (m.s)), (V.sl (List.map cL (m.nx))), (V.sl (List.map cL (m.ot)))]), (iV (s)), (V.sl (List.map cI (w)))] (V.tup [(V.sl (List.map cI (frOut m s w))), (iV (frEnd m s w)), (iV (frE m s w))]) := by
  refine pure_of_Wz true 6 Try.func56 s56_ok (by kernel_rfl) (by simp [s56]) (by simp) (by simp) ?_
  unfold s56
  dsimp only
  refine W_seq_regc (fun T H => T 1 = (iV (s)) ∧ T 2 = (V.sl (List.map cI (w))) ∧ T 3 = (V.mp 3 1 0 0) ∧ H 3 = (⟨1, true, false, 24, 4, [[(iV (m.i)), (iV (m.s)), (V.sl (List.map cL (m.nx))), (V.sl (List.map cL (m.ot)))]]⟩ : Blk) ∧ H 30 = (⟨0, false, false, 0, 0, []⟩ : Blk) ∧ H 105 = (⟨0, false, false, 0, 0, []⟩ : Blk) ∧ True) ?_ ?_
  · unfold r56_0
    refine R_box (i := 3) (n := 0) (m := 4) (cs := [(iV (m.i)), (iV (m.s)), (V.sl (List.map cL (m.nx))), (V.sl (List.map cL (m.ot)))]) rfl (congrArg Blk.ver rfl) (@rfl V (V.agg [(iV (m.i)), (iV (m.s)), (V.sl (List.map cL (m.nx))), (V.sl (List.map cL (m.ot)))])) rfl rfl ?_
    refine R_mv (@rfl V V.nilsl) ?_
    refine R_mv (@rfl V (iV (0))) ?_
    refine R_mv (@rfl V (iV (0))) ?_
    exact R_nil ⟨rfl, rfl, rfl, rfl, rfl, rfl, trivial⟩
  · intro T H ⟨t1, t2, t3, h3, h30, h105, _⟩
    refine W_seq_seq ?_
    refine W_seq_regc (fun T H => T 1 = (iV (s)) ∧ T 2 = (V.sl (List.map cI (w))) ∧ T 3 = (V.mp 3 1 0 0) ∧ T 9 = (iV (stE m (s))) ∧ H 3 = (⟨1, true, false, 24, 4, [[(iV (m.i)), (iV (m.s)), (V.sl (List.map cL (m.nx))), (V.sl (List.map cL (m.ot)))]]⟩ : Blk) ∧ H 30 = (⟨0, false, false, 0, 0, []⟩ : Blk) ∧ H 105 = (⟨0, false, false, 0, 0, []⟩ : Blk) ∧ True) ?_ ?_
    · unfold r56_1
      refine R_load_mp (v := (V.agg [(iV (m.i)), (iV (m.s)), (V.sl (List.map cL (m.nx))), (V.sl (List.map cL (m.ot)))])) t3 h3 (by first | rfl | simp [ldB, ldV, Blk.own, V.one]) ?_
      refine R_mv t1 ?_
      refine R_call (evcons (@rfl V (V.agg [(iV (m.i)), (iV (m.s)), (V.sl (List.map cL (m.nx))), (V.sl (List.map cL (m.ot)))])) (evcons (@rfl V (iV (s))) evnil)) (state_pure m (s)) (fzv_mapcanon _ _ (by simp)) (by simp) (Or.inl (by simp)) ?_
      refine R_mv (@rfl V (iV (stE m (s)))) ?_
      exact R_nil ⟨t1, t2, t3, rfl, h3, h30, h105, trivial⟩
    · intro T H ⟨t1, t2, t3, t9, h3, h30, h105, _⟩
      refine W_seq_seq ?_
      refine W_seq_regc (fun T H => T 1 = (iV (s)) ∧ T 2 = (V.sl (List.map cI (w))) ∧ T 3 = (V.mp 3 1 0 0) ∧ T 9 = (iV (stE m (s))) ∧ T 17 = (V.bool (decide ((stE m (s)) ≠ (0)))) ∧ H 3 = (⟨1, true, false, 24, 4, [[(iV (m.i)), (iV (m.s)), (V.sl (List.map cL (m.nx))), (V.sl (List.map cL (m.ot)))]]⟩ : Blk) ∧ H 30 = (⟨0, false, false, 0, 0, []⟩ : Blk) ∧ H 105 = (⟨0, false, false, 0, 0, []⟩ : Blk) ∧ True) ?_ ?_
      · unfold r56_2
        refine R_mv t9 ?_
        refine R_neq (x := (stE m (s))) (y := (0)) (@rfl V (iV (stE m (s)))) (@rfl V (iV (0))) ?_
        exact R_nil ⟨t1, t2, t3, t9, rfl, h3, h30, h105, trivial⟩
      · intro T H ⟨t1, t2, t3, t9, t17, h3, h30, h105, _⟩
        refine W_seq_if (p := (stE m (s)) ≠ (0)) t17 (fun c1 => ?_) (fun c1 => ?_)
        ·
          refine W_seq_seq ?_
          refine W_seq_regc (fun T H => T 6 = V.nilsl ∧ T 7 = (iV (0)) ∧ T 8 = (iV (stE m (s))) ∧ H 3 = (⟨1, true, false, 24, 4, [[(iV (m.i)), (iV (m.s)), (V.sl (List.map cL (m.nx))), (V.sl (List.map cL (m.ot)))]]⟩ : Blk) ∧ H 30 = (⟨0, false, false, 0, 0, []⟩ : Blk) ∧ H 105 = (⟨0, false, false, 0, 0, []⟩ : Blk) ∧ True) ?_ ?_
          · unfold r56_3
            refine R_mv t9 ?_
            refine R_mv (@rfl V V.nilsl) ?_
            refine R_mv (@rfl V (iV (0))) ?_
            refine R_mv (@rfl V (iV (stE m (s)))) ?_
            exact R_nil ⟨rfl, rfl, rfl, h3, h30, h105, trivial⟩
          · intro T H ⟨t6, t7, t8, h3, h30, h105, _⟩
            refine W_seq_ret ?_
            refine Ret_3 t6 t7 t8 (fz_nil ?_) (fz_int ?_) (fz_int ?_)
            · rw [frOut, if_pos (by rw [frE, if_pos (by omega)]; omega)]
            · rw [frEnd, if_pos (by rw [frE, if_pos (by omega)]; omega)]
            · rw [frE, if_pos (by omega)]
        ·
          have hs := stE_ok (m := m) (s := s) (by omega)
          refine W_seq_skip ?_
          refine W_seq_seq ?_
          refine W_seq_regc (fun T H => T 1 = (iV (s)) ∧ T 2 = (V.sl (List.map cI (w))) ∧ T 3 = (V.mp 3 1 0 0) ∧ T 10 = (iV (wchk (w) (m.i))) ∧ H 3 = (⟨1, true, false, 24, 4, [[(iV (m.i)), (iV (m.s)), (V.sl (List.map cL (m.nx))), (V.sl (List.map cL (m.ot)))]]⟩ : Blk) ∧ H 30 = (⟨0, false, false, 0, 0, []⟩ : Blk) ∧ H 105 = (⟨0, false, false, 0, 0, []⟩ : Blk) ∧ True) ?_ ?_
          · unfold r56_4
            refine R_mv t2 ?_
            refine R_fld_mp (o' := 0) t3 h3 (by first | rfl | simp [okB, Blk.own]) rfl ?_
            refine R_load_mp (v := (iV (m.i))) (@rfl V (V.mp 3 1 0 0)) h3 (by first | rfl | simp [ldB, ldV, Blk.own, V.one]) ?_
            refine R_call (evcons (@rfl V (V.sl (List.map cI (w)))) (evcons (@rfl V (iV (m.i))) evnil)) (check_pure w (m.i)) (fzv_mapcanon _ _ (by simp)) (by simp) (Or.inl (by simp)) ?_
            refine R_mv (@rfl V (iV (wchk (w) (m.i)))) ?_
            exact R_nil ⟨t1, t2, t3, rfl, h3, h30, h105, trivial⟩
          · intro T H ⟨t1, t2, t3, t10, h3, h30, h105, _⟩
            refine W_seq_seq ?_
            refine W_seq_regc (fun T H => T 1 = (iV (s)) ∧ T 2 = (V.sl (List.map cI (w))) ∧ T 3 = (V.mp 3 1 0 0) ∧ T 10 = (iV (wchk (w) (m.i))) ∧ T 24 = (V.bool (decide ((wchk (w) (m.i)) ≠ (0)))) ∧ H 3 = (⟨1, true, false, 24, 4, [[(iV (m.i)), (iV (m.s)), (V.sl (List.map cL (m.nx))), (V.sl (List.map cL (m.ot)))]]⟩ : Blk) ∧ H 30 = (⟨0, false, false, 0, 0, []⟩ : Blk) ∧ H 105 = (⟨0, false, false, 0, 0, []⟩ : Blk) ∧ True) ?_ ?_
            · unfold r56_5
              refine R_mv t10 ?_
              refine R_neq (x := (wchk (w) (m.i))) (y := (0)) (@rfl V (iV (wchk (w) (m.i)))) (@rfl V (iV (0))) ?_
              exact R_nil ⟨t1, t2, t3, t10, rfl, h3, h30, h105, trivial⟩
            · intro T H ⟨t1, t2, t3, t10, t24, h3, h30, h105, _⟩
              refine W_seq_if (p := (wchk (w) (m.i)) ≠ (0)) t24 (fun c2 => ?_) (fun c2 => ?_)
              ·
                refine W_seq_seq ?_
                refine W_seq_regc (fun T H => T 6 = V.nilsl ∧ T 7 = (iV (0)) ∧ T 8 = (iV (wchk (w) (m.i))) ∧ H 3 = (⟨1, true, false, 24, 4, [[(iV (m.i)), (iV (m.s)), (V.sl (List.map cL (m.nx))), (V.sl (List.map cL (m.ot)))]]⟩ : Blk) ∧ H 30 = (⟨0, false, false, 0, 0, []⟩ : Blk) ∧ H 105 = (⟨0, false, false, 0, 0, []⟩ : Blk) ∧ True) ?_ ?_
                · unfold r56_6
                  refine R_mv t10 ?_
                  refine R_mv (@rfl V V.nilsl) ?_
                  refine R_mv (@rfl V (iV (0))) ?_
                  refine R_mv (@rfl V (iV (wchk (w) (m.i)))) ?_
                  exact R_nil ⟨rfl, rfl, rfl, h3, h30, h105, trivial⟩
                · intro T H ⟨t6, t7, t8, h3, h30, h105, _⟩
                  refine W_seq_ret ?_
                  refine Ret_3 t6 t7 t8 (fz_nil ?_) (fz_int ?_) (fz_int ?_)
                  · rw [frOut, if_pos (by rw [frE, if_neg (by omega)]; omega)]
                  · rw [frEnd, if_pos (by rw [frE, if_neg (by omega)]; omega)]
                  · rw [frE, if_neg (by omega)]
              ·
                have hw := wchk_ok (w := w) (n := m.i) (by omega)
                refine W_seq_skip ?_
                refine W_seq_regc (fun T H => T 2 = (V.sl (List.map cI (w))) ∧ T 11 = (V.mp 30 1 0 0) ∧ H 3 = (⟨1, true, false, 24, 4, [[(iV (m.i)), (iV (m.s)), (V.sl (List.map cL (m.nx))), (V.sl (List.map cL (m.ot)))]]⟩ : Blk) ∧ H 30 = (⟨1, true, false, 122, 5, [[(iV (m.i)), (iV (m.s)), (V.sl (List.map cL (m.nx))), (V.sl (List.map cL (m.ot))), (iV (s))]]⟩ : Blk) ∧ H 105 = (⟨0, false, false, 0, 0, []⟩ : Blk) ∧ True) ?_ ?_
                · unfold r56_7
                  refine R_load_mp (v := (V.agg [(iV (m.i)), (iV (m.s)), (V.sl (List.map cL (m.nx))), (V.sl (List.map cL (m.ot)))])) t3 h3 (by first | rfl | simp [ldB, ldV, Blk.own, V.one]) ?_
                  refine R_build (qs := [(0, 4, (V.agg [(iV (m.i)), (iV (m.s)), (V.sl (List.map cL (m.nx))), (V.sl (List.map cL (m.ot)))]))]) (cs := [(iV (m.i)), (iV (m.s)), (V.sl (List.map cL (m.nx))), (V.sl (List.map cL (m.ot)))]) (mcons (congrArg (fun v => (0, 4, v)) (@rfl V (V.agg [(iV (m.i)), (iV (m.s)), (V.sl (List.map cL (m.nx))), (V.sl (List.map cL (m.ot)))]))) rfl) rfl ?_
                  refine R_mv t1 ?_
                  refine R_build (qs := [(0, 4, (V.agg [(iV (m.i)), (iV (m.s)), (V.sl (List.map cL (m.nx))), (V.sl (List.map cL (m.ot)))])), (4, 1, (iV (s)))]) (cs := [(iV (m.i)), (iV (m.s)), (V.sl (List.map cL (m.nx))), (V.sl (List.map cL (m.ot))), (iV (s))]) (mcons (congrArg (fun v => (0, 4, v)) (@rfl V (V.agg [(iV (m.i)), (iV (m.s)), (V.sl (List.map cL (m.nx))), (V.sl (List.map cL (m.ot)))]))) (mcons (congrArg (fun v => (4, 1, v)) (@rfl V (iV (s)))) rfl)) rfl ?_
                  refine R_box (i := 30) (n := 0) (m := 5) (cs := [(iV (m.i)), (iV (m.s)), (V.sl (List.map cL (m.nx))), (V.sl (List.map cL (m.ot))), (iV (s))]) rfl (congrArg Blk.ver h30) (@rfl V (V.agg [(iV (m.i)), (iV (m.s)), (V.sl (List.map cL (m.nx))), (V.sl (List.map cL (m.ot))), (iV (s))])) rfl rfl ?_
                  refine R_mv (@rfl V (V.mp 30 1 0 0)) ?_
                  exact R_nil ⟨t2, rfl, h3, rfl, h105, trivial⟩
                · intro T H ⟨t2, t11, h3, h30, h105, _⟩
                  refine W_seq_regc (fun T H => T 11 = (V.mp 30 1 0 0) ∧ T 12 = (V.ms 105 (0 + 1 + w.length) 0 (w.length)) ∧ H 3 = (⟨1, true, false, 24, 4, [[(iV (m.i)), (iV (m.s)), (V.sl (List.map cL (m.nx))), (V.sl (List.map cL (m.ot)))]]⟩ : Blk) ∧ H 30 = (⟨1, true, false, 122, 5, [[(iV (m.i)), (iV (m.s)), (V.sl (List.map cL (m.nx))), (V.sl (List.map cL (m.ot))), (iV (goal m s w))]]⟩ : Blk) ∧ H 105 = (⟨0 + 1 + w.length, true, true, 3, 1, (List.map cI (outs m s w))⟩ : Blk) ∧ True) ?_ ?_
                  · unfold r56_8
                    refine R_mv t11 ?_
                    refine R_mv t2 ?_
                    refine R_callE (evcons (@rfl V (V.mp 30 1 0 0)) (evcons (@rfl V (V.sl (List.map cI (w)))) evnil)) (run_E m s w 0 _ h30 (congrArg Blk.ver h105) hs.1 hs.2 hw.1 hw.2) ?_
                    refine R_mv (@rfl V (V.ms 105 (0 + 1 + w.length) 0 (w.length))) ?_
                    exact R_nil ⟨t11, rfl, h3, rfl, rfl, trivial⟩
                  · intro T H ⟨t11, t12, h3, h30, h105, _⟩
                    refine W_seq_regc (fun T H => T 6 = (V.ms 105 (0 + 1 + w.length) 0 (w.length)) ∧ T 7 = (iV (goal m s w)) ∧ T 8 = (iV (0)) ∧ H 3 = (⟨1, true, false, 24, 4, [[(iV (m.i)), (iV (m.s)), (V.sl (List.map cL (m.nx))), (V.sl (List.map cL (m.ot)))]]⟩ : Blk) ∧ H 30 = (⟨1, true, false, 122, 5, [[(iV (m.i)), (iV (m.s)), (V.sl (List.map cL (m.nx))), (V.sl (List.map cL (m.ot))), (iV (goal m s w))]]⟩ : Blk) ∧ H 105 = (⟨0 + 1 + w.length, true, true, 3, 1, (List.map cI (outs m s w))⟩ : Blk) ∧ True) ?_ ?_
                    · unfold r56_9
                      refine R_mv t12 ?_
                      refine R_mv t11 ?_
                      refine R_nilck_mp (@rfl V (V.mp 30 1 0 0)) h30 (by first | rfl | simp [okB, Blk.own]) ?_
                      refine R_fld_mp (o' := 4) (@rfl V (V.mp 30 1 0 0)) h30 (by first | rfl | simp [okB, Blk.own]) rfl ?_
                      refine R_load_mp (v := (iV (goal m s w))) (@rfl V (V.mp 30 1 0 4)) h30 (by first | rfl | simp [ldB, ldV, Blk.own, V.one]) ?_
                      refine R_mv (@rfl V (V.ms 105 (0 + 1 + w.length) 0 (w.length))) ?_
                      refine R_mv (@rfl V (iV (goal m s w))) ?_
                      refine R_mv (@rfl V (iV (0))) ?_
                      exact R_nil ⟨rfl, rfl, rfl, h3, h30, h105, trivial⟩
                    · intro T H ⟨t6, t7, t8, h3, h30, h105, _⟩
                      refine W_ret ?_
                      refine Ret_3 t6 t7 t8 (fz_ms h105 (by first | rfl | simp) (l := (outs m s w)) rfl (by first | rfl | (rw [outs_len])) (fun _ => by simp) ?_) (fz_int ?_) (fz_int ?_)
                      · rw [frOut, if_neg (by rw [frE, if_neg (by omega)]; omega)]
                      · rw [frEnd, if_neg (by rw [frE, if_neg (by omega)]; omega)]
                      · rw [frE, if_neg (by omega)]; omega

end Go.Proofs.Ytngkckefanbhgaa

namespace Go.Proofs.Ytngkckefanbhgaa
open Go Go.Proofs

theorem hvalid_pure (h : Hy) : PureC Try.prog 17 [(V.agg [(iV (h.m.i)), (iV (h.m.s)), (V.sl (List.map cL (h.m.nx))), (V.sl (List.map cL (h.m.ot))), (V.sl (List.map cL (h.acc)))])] (iV (hval h)) := by
  refine pure_of_Wz true 6 Try.func17 s17_ok (by kernel_rfl) (by simp [s17]) (by simp) (by simp) ?_
  unfold s17
  dsimp only
  refine W_seq_regc (fun T H => T 1 = (V.mp 1 1 0 0) ∧ H 1 = (⟨1, true, false, 26, 5, [[(iV (h.m.i)), (iV (h.m.s)), (V.sl (List.map cL (h.m.nx))), (V.sl (List.map cL (h.m.ot))), (V.sl (List.map cL (h.acc)))]]⟩ : Blk) ∧ True) ?_ ?_
  · unfold r17_0
    refine R_box (i := 1) (n := 0) (m := 5) (cs := [(iV (h.m.i)), (iV (h.m.s)), (V.sl (List.map cL (h.m.nx))), (V.sl (List.map cL (h.m.ot))), (V.sl (List.map cL (h.acc)))]) rfl (congrArg Blk.ver rfl) (@rfl V (V.agg [(iV (h.m.i)), (iV (h.m.s)), (V.sl (List.map cL (h.m.nx))), (V.sl (List.map cL (h.m.ot))), (V.sl (List.map cL (h.acc)))])) rfl rfl ?_
    refine R_mv (@rfl V (iV (0))) ?_
    exact R_nil ⟨rfl, rfl, trivial⟩
  · intro T H ⟨t1, h1, _⟩
    refine W_seq_seq ?_
    refine W_seq_regc (fun T H => T 1 = (V.mp 1 1 0 0) ∧ T 3 = (iV (mval h.m)) ∧ H 1 = (⟨1, true, false, 26, 5, [[(iV (h.m.i)), (iV (h.m.s)), (V.sl (List.map cL (h.m.nx))), (V.sl (List.map cL (h.m.ot))), (V.sl (List.map cL (h.acc)))]]⟩ : Blk) ∧ True) ?_ ?_
    · unfold r17_1
      refine R_fld_mp (o' := 0) t1 h1 (by first | rfl | simp [okB, Blk.own]) rfl ?_
      refine R_load_mp (v := (V.agg [(iV (h.m.i)), (iV (h.m.s)), (V.sl (List.map cL (h.m.nx))), (V.sl (List.map cL (h.m.ot)))])) (@rfl V (V.mp 1 1 0 0)) h1 (by first | rfl | simp [ldB, ldV, Blk.own, V.one]) ?_
      refine R_call (evcons (@rfl V (V.agg [(iV (h.m.i)), (iV (h.m.s)), (V.sl (List.map cL (h.m.nx))), (V.sl (List.map cL (h.m.ot)))])) evnil) (mvalid_pure h.m) (fzv_mapcanon _ _ (by simp)) (by simp) (Or.inl (by simp)) ?_
      refine R_mv (@rfl V (iV (mval h.m))) ?_
      exact R_nil ⟨t1, rfl, h1, trivial⟩
    · intro T H ⟨t1, t3, h1, _⟩
      refine W_seq_seq ?_
      refine W_seq_regc (fun T H => T 1 = (V.mp 1 1 0 0) ∧ T 3 = (iV (mval h.m)) ∧ T 13 = (V.bool (decide ((mval h.m) ≠ (0)))) ∧ H 1 = (⟨1, true, false, 26, 5, [[(iV (h.m.i)), (iV (h.m.s)), (V.sl (List.map cL (h.m.nx))), (V.sl (List.map cL (h.m.ot))), (V.sl (List.map cL (h.acc)))]]⟩ : Blk) ∧ True) ?_ ?_
      · unfold r17_2
        refine R_mv t3 ?_
        refine R_neq (x := (mval h.m)) (y := (0)) (@rfl V (iV (mval h.m))) (@rfl V (iV (0))) ?_
        exact R_nil ⟨t1, t3, rfl, h1, trivial⟩
      · intro T H ⟨t1, t3, t13, h1, _⟩
        refine W_seq_if (p := (mval h.m) ≠ (0)) t13 (fun c1 => ?_) (fun c1 => ?_)
        ·
          refine W_seq_seq ?_
          refine W_seq_regc (fun T H => T 2 = (iV (mval h.m)) ∧ H 1 = (⟨1, true, false, 26, 5, [[(iV (h.m.i)), (iV (h.m.s)), (V.sl (List.map cL (h.m.nx))), (V.sl (List.map cL (h.m.ot))), (V.sl (List.map cL (h.acc)))]]⟩ : Blk) ∧ True) ?_ ?_
          · unfold r17_3
            refine R_mv t3 ?_
            refine R_mv (@rfl V (iV (mval h.m))) ?_
            exact R_nil ⟨rfl, h1, trivial⟩
          · intro T H ⟨t2, h1, _⟩
            refine W_seq_ret ?_
            refine Ret_1 t2 (fz_int ?_)
            · rw [hval, if_pos (by omega)]
        ·
          have hm := mval_ok (m := h.m) (by omega)
          refine W_seq_skip ?_
          refine W_seq_seq ?_
          refine W_seq_regc (fun T H => T 1 = (V.mp 1 1 0 0) ∧ T 22 = (V.bool (decide (((h.acc.length : Nat) : Int) ≠ ((h.m.nx.length : Nat) : Int)))) ∧ H 1 = (⟨1, true, false, 26, 5, [[(iV (h.m.i)), (iV (h.m.s)), (V.sl (List.map cL (h.m.nx))), (V.sl (List.map cL (h.m.ot))), (V.sl (List.map cL (h.acc)))]]⟩ : Blk) ∧ True) ?_ ?_
          · unfold r17_4
            refine R_fld_mp (o' := 4) t1 h1 (by first | rfl | simp [okB, Blk.own]) rfl ?_
            refine R_load_mp (v := (V.sl (List.map cL (h.acc)))) (@rfl V (V.mp 1 1 0 4)) h1 (by first | rfl | simp [ldB, ldV, Blk.own, V.one]) ?_
            refine R_len (@rfl V (V.sl (List.map cL (h.acc)))) ?_
            refine R_fld_mp (o' := 0) t1 h1 (by first | rfl | simp [okB, Blk.own]) rfl ?_
            refine R_fld_mp (o' := 2) (@rfl V (V.mp 1 1 0 0)) h1 (by first | rfl | simp [okB, Blk.own]) rfl ?_
            refine R_load_mp (v := (V.sl (List.map cL (h.m.nx)))) (@rfl V (V.mp 1 1 0 2)) h1 (by first | rfl | simp [ldB, ldV, Blk.own, V.one]) ?_
            refine R_len (@rfl V (V.sl (List.map cL (h.m.nx)))) ?_
            refine R_neq (x := ((h.acc.length : Nat) : Int)) (y := ((h.m.nx.length : Nat) : Int)) (@rfl V (iV ((h.acc.length : Nat) : Int))) (@rfl V (iV ((h.m.nx.length : Nat) : Int))) ?_
            exact R_nil ⟨t1, rfl, h1, trivial⟩
          · intro T H ⟨t1, t22, h1, _⟩
            refine W_seq_if (p := ((h.acc.length : Nat) : Int) ≠ ((h.m.nx.length : Nat) : Int)) t22 (fun c2 => ?_) (fun c2 => ?_)
            ·
              refine W_seq_seq ?_
              refine W_seq_regc (fun T H => T 2 = (iV (1)) ∧ H 1 = (⟨1, true, false, 26, 5, [[(iV (h.m.i)), (iV (h.m.s)), (V.sl (List.map cL (h.m.nx))), (V.sl (List.map cL (h.m.ot))), (V.sl (List.map cL (h.acc)))]]⟩ : Blk) ∧ True) ?_ ?_
              · unfold r17_5
                refine R_mv (@rfl V (iV (1))) ?_
                exact R_nil ⟨rfl, h1, trivial⟩
              · intro T H ⟨t2, h1, _⟩
                refine W_seq_ret ?_
                refine Ret_1 t2 (fz_int ?_)
                · rw [hval, if_neg (by omega), if_pos (by omega)]
            ·
              refine W_seq_skip ?_
              refine W_seq_seq ?_
              refine W_seq_regc (fun T H => T 1 = (V.mp 1 1 0 0) ∧ T 24 = (V.sl (List.map cL (h.acc))) ∧ T 25 = (iV ((h.acc.length : Nat) : Int)) ∧ T 26 = (iV (0)) ∧ H 1 = (⟨1, true, false, 26, 5, [[(iV (h.m.i)), (iV (h.m.s)), (V.sl (List.map cL (h.m.nx))), (V.sl (List.map cL (h.m.ot))), (V.sl (List.map cL (h.acc)))]]⟩ : Blk) ∧ True) ?_ ?_
              · unfold r17_6
                refine R_fld_mp (o' := 4) t1 h1 (by first | rfl | simp [okB, Blk.own]) rfl ?_
                refine R_load_mp (v := (V.sl (List.map cL (h.acc)))) (@rfl V (V.mp 1 1 0 4)) h1 (by first | rfl | simp [ldB, ldV, Blk.own, V.one]) ?_
                refine R_len (@rfl V (V.sl (List.map cL (h.acc)))) ?_
                refine R_mv (@rfl V (iV (0))) ?_
                exact R_nil ⟨t1, rfl, rfl, rfl, h1, trivial⟩
              · intro T H ⟨t1, t24, t25, t26, h1, _⟩
                refine W_seq_block fun Q3 n3 x3 y3 z3 => ?_
                refine W_loop (fun mm T H => ∃ (k : Nat), mm = h.acc.length - k ∧ T 1 = (V.mp 1 1 0 0) ∧ T 24 = (V.sl (List.map cL (h.acc))) ∧ T 25 = (iV ((h.acc.length : Nat) : Int)) ∧ T 26 = (iV ((k : Nat) : Int)) ∧ H 1 = (⟨1, true, false, 26, 5, [[(iV (h.m.i)), (iV (h.m.s)), (V.sl (List.map cL (h.m.nx))), (V.sl (List.map cL (h.m.ot))), (V.sl (List.map cL (h.acc)))]]⟩ : Blk) ∧ (k ≤ h.acc.length) ∧ (mval h.m = 0) ∧ (h.acc.length = h.m.nx.length) ∧ (0 ≤ h.m.s ∧ h.m.s < h.m.nx.length ∧ h.m.nx.length ≤ 128) ∧ (fe (accE h) 0 h.acc.length = fe (accE h) k (h.acc.length - k))) ?_ ?_
                · refine ⟨_, 0, rfl, t1, t24, t25, (Eq.trans t26 (by first | rfl | simp)), h1, ?_, ?_, ?_, ?_, ?_⟩
                  · omega
                  · omega
                  · omega
                  · omega
                  · rfl
                · intro mm T H ⟨k, hmm, t1, t24, t25, t26, h1, hk, hv, hl, hs, hc⟩ Q4 p14 p24 p34
                  unfold b17_0
                  refine W_seq_regc (fun T H => T 1 = (V.mp 1 1 0 0) ∧ T 24 = (V.sl (List.map cL (h.acc))) ∧ T 25 = (iV ((h.acc.length : Nat) : Int)) ∧ T 26 = (iV ((k : Nat) : Int)) ∧ T 27 = (V.bool (decide (((k : Nat) : Int) < ((h.acc.length : Nat) : Int)))) ∧ H 1 = (⟨1, true, false, 26, 5, [[(iV (h.m.i)), (iV (h.m.s)), (V.sl (List.map cL (h.m.nx))), (V.sl (List.map cL (h.m.ot))), (V.sl (List.map cL (h.acc)))]]⟩ : Blk) ∧ True) ?_ ?_
                  · unfold r17_7
                    refine R_lss (x := ((k : Nat) : Int)) (y := ((h.acc.length : Nat) : Int)) t26 t25 ?_
                    exact R_nil ⟨t1, t24, t25, t26, rfl, h1, trivial⟩
                  · intro T H ⟨t1, t24, t25, t26, t27, h1, _⟩
                    refine W_seq_if (p := ((k : Nat) : Int) < ((h.acc.length : Nat) : Int)) t27 (fun c5 => ?_) (fun c5 => ?_)
                    ·
                      refine W_seq_skip ?_
                      refine W_seq_block fun Q6 n6 x6 y6 z6 => ?_
                      refine W_seq_regc (fun T H => T 1 = (V.mp 1 1 0 0) ∧ T 4 = (iV ((k : Nat) : Int)) ∧ T 5 = (V.sl (List.map cI ((nth (h.acc) (k))))) ∧ T 24 = (V.sl (List.map cL (h.acc))) ∧ T 25 = (iV ((h.acc.length : Nat) : Int)) ∧ T 26 = (iV ((k : Nat) : Int)) ∧ H 1 = (⟨1, true, false, 26, 5, [[(iV (h.m.i)), (iV (h.m.s)), (V.sl (List.map cL (h.m.nx))), (V.sl (List.map cL (h.m.ot))), (V.sl (List.map cL (h.acc)))]]⟩ : Blk) ∧ True) ?_ ?_
                      · unfold r17_8
                        refine R_mv t26 ?_
                        refine R_idx (i := k) t24 t26 (by omega) rfl ?_
                        refine R_load_pp (v := (V.sl (List.map cI ((nth (h.acc) (k)))))) (@rfl V (V.pp [(V.sl (List.map cI ((nth (h.acc) (k)))))])) (by first | rfl | simp [ldV]) ?_
                        refine R_mv (@rfl V (iV ((k : Nat) : Int))) ?_
                        refine R_mv (@rfl V (V.sl (List.map cI ((nth (h.acc) (k)))))) ?_
                        exact R_nil ⟨t1, rfl, rfl, t24, t25, t26, h1, trivial⟩
                      · intro T H ⟨t1, t4, t5, t24, t25, t26, h1, _⟩
                        refine W_seq_regc (fun T H => T 1 = (V.mp 1 1 0 0) ∧ T 4 = (iV ((k : Nat) : Int)) ∧ T 7 = (iV (frEnd h.m (h.m.s) ((nth (h.acc) (k))))) ∧ T 8 = (iV (frE h.m (h.m.s) ((nth (h.acc) (k))))) ∧ T 24 = (V.sl (List.map cL (h.acc))) ∧ T 25 = (iV ((h.acc.length : Nat) : Int)) ∧ T 26 = (iV ((k : Nat) : Int)) ∧ H 1 = (⟨1, true, false, 26, 5, [[(iV (h.m.i)), (iV (h.m.s)), (V.sl (List.map cL (h.m.nx))), (V.sl (List.map cL (h.m.ot))), (V.sl (List.map cL (h.acc)))]]⟩ : Blk) ∧ True) ?_ ?_
                        · unfold r17_9
                          refine R_fld_mp (o' := 0) t1 h1 (by first | rfl | simp [okB, Blk.own]) rfl ?_
                          refine R_load_mp (v := (V.agg [(iV (h.m.i)), (iV (h.m.s)), (V.sl (List.map cL (h.m.nx))), (V.sl (List.map cL (h.m.ot)))])) (@rfl V (V.mp 1 1 0 0)) h1 (by first | rfl | simp [ldB, ldV, Blk.own, V.one]) ?_
                          refine R_fld_mp (o' := 0) t1 h1 (by first | rfl | simp [okB, Blk.own]) rfl ?_
                          refine R_fld_mp (o' := 1) (@rfl V (V.mp 1 1 0 0)) h1 (by first | rfl | simp [okB, Blk.own]) rfl ?_
                          refine R_load_mp (v := (iV (h.m.s))) (@rfl V (V.mp 1 1 0 1)) h1 (by first | rfl | simp [ldB, ldV, Blk.own, V.one]) ?_
                          refine R_mv t5 ?_
                          refine R_call (evcons (@rfl V (V.agg [(iV (h.m.i)), (iV (h.m.s)), (V.sl (List.map cL (h.m.nx))), (V.sl (List.map cL (h.m.ot)))])) (evcons (@rfl V (iV (h.m.s))) (evcons (@rfl V (V.sl (List.map cI ((nth (h.acc) (k)))))) evnil))) (from_pure h.m (h.m.s) ((nth (h.acc) (k)))) (fzv_mapcanon _ _ (by simp)) (by simp) (Or.inl (by simp)) ?_
                          refine R_mv (@rfl V (V.tup [(V.sl (List.map cI (frOut h.m (h.m.s) ((nth (h.acc) (k)))))), (iV (frEnd h.m (h.m.s) ((nth (h.acc) (k))))), (iV (frE h.m (h.m.s) ((nth (h.acc) (k)))))])) ?_
                          refine R_ext (v := (V.sl (List.map cI (frOut h.m (h.m.s) ((nth (h.acc) (k))))))) (@rfl V (V.tup [(V.sl (List.map cI (frOut h.m (h.m.s) ((nth (h.acc) (k)))))), (iV (frEnd h.m (h.m.s) ((nth (h.acc) (k))))), (iV (frE h.m (h.m.s) ((nth (h.acc) (k)))))])) rfl ?_
                          refine R_ext (v := (iV (frEnd h.m (h.m.s) ((nth (h.acc) (k)))))) (@rfl V (V.tup [(V.sl (List.map cI (frOut h.m (h.m.s) ((nth (h.acc) (k)))))), (iV (frEnd h.m (h.m.s) ((nth (h.acc) (k))))), (iV (frE h.m (h.m.s) ((nth (h.acc) (k)))))])) rfl ?_
                          refine R_ext (v := (iV (frE h.m (h.m.s) ((nth (h.acc) (k)))))) (@rfl V (V.tup [(V.sl (List.map cI (frOut h.m (h.m.s) ((nth (h.acc) (k)))))), (iV (frEnd h.m (h.m.s) ((nth (h.acc) (k))))), (iV (frE h.m (h.m.s) ((nth (h.acc) (k)))))])) rfl ?_
                          refine R_mv (@rfl V (V.sl (List.map cI (frOut h.m (h.m.s) ((nth (h.acc) (k))))))) ?_
                          refine R_mv (@rfl V (iV (frEnd h.m (h.m.s) ((nth (h.acc) (k)))))) ?_
                          refine R_mv (@rfl V (iV (frE h.m (h.m.s) ((nth (h.acc) (k)))))) ?_
                          exact R_nil ⟨t1, t4, rfl, rfl, t24, t25, t26, h1, trivial⟩
                        · intro T H ⟨t1, t4, t7, t8, t24, t25, t26, h1, _⟩
                          refine W_seq_seq ?_
                          refine W_seq_regc (fun T H => T 1 = (V.mp 1 1 0 0) ∧ T 4 = (iV ((k : Nat) : Int)) ∧ T 7 = (iV (frEnd h.m (h.m.s) ((nth (h.acc) (k))))) ∧ T 8 = (iV (frE h.m (h.m.s) ((nth (h.acc) (k))))) ∧ T 24 = (V.sl (List.map cL (h.acc))) ∧ T 25 = (iV ((h.acc.length : Nat) : Int)) ∧ T 26 = (iV ((k : Nat) : Int)) ∧ T 43 = (V.bool (decide ((frE h.m (h.m.s) ((nth (h.acc) (k)))) ≠ (0)))) ∧ H 1 = (⟨1, true, false, 26, 5, [[(iV (h.m.i)), (iV (h.m.s)), (V.sl (List.map cL (h.m.nx))), (V.sl (List.map cL (h.m.ot))), (V.sl (List.map cL (h.acc)))]]⟩ : Blk) ∧ True) ?_ ?_
                          · unfold r17_10
                            refine R_mv t8 ?_
                            refine R_neq (x := (frE h.m (h.m.s) ((nth (h.acc) (k))))) (y := (0)) (@rfl V (iV (frE h.m (h.m.s) ((nth (h.acc) (k)))))) (@rfl V (iV (0))) ?_
                            exact R_nil ⟨t1, t4, t7, t8, t24, t25, t26, rfl, h1, trivial⟩
                          · intro T H ⟨t1, t4, t7, t8, t24, t25, t26, t43, h1, _⟩
                            refine W_seq_if (p := (frE h.m (h.m.s) ((nth (h.acc) (k)))) ≠ (0)) t43 (fun c7 => ?_) (fun c7 => ?_)
                            ·
                              refine W_seq_seq ?_
                              refine W_seq_regc (fun T H => T 2 = (iV (frE h.m (h.m.s) ((nth (h.acc) (k))))) ∧ H 1 = (⟨1, true, false, 26, 5, [[(iV (h.m.i)), (iV (h.m.s)), (V.sl (List.map cL (h.m.nx))), (V.sl (List.map cL (h.m.ot))), (V.sl (List.map cL (h.acc)))]]⟩ : Blk) ∧ True) ?_ ?_
                              · unfold r17_11
                                refine R_mv t8 ?_
                                refine R_mv (@rfl V (iV (frE h.m (h.m.s) ((nth (h.acc) (k)))))) ?_
                                exact R_nil ⟨rfl, h1, trivial⟩
                              · intro T H ⟨t2, h1, _⟩
                                refine W_seq_ret ?_
                                refine y6 _ _ ?_
                                refine p24 _ _ ?_
                                refine y3 _ _ ?_
                                refine Ret_1 t2 (fz_int ?_)
                                · have e := accE_of hv k
                                  rw [if_pos (by omega)] at e
                                  have e2 : fe (accE h) 0 h.acc.length = accE h k := by rw [hc]; exact fe_hit (by omega) (by omega)
                                  rw [hval, if_neg (by omega), if_neg (by omega), if_pos (by omega)]; omega
                            ·
                              refine W_seq_skip ?_
                              refine W_seq_regc (fun T H => T 1 = (V.mp 1 1 0 0) ∧ T 24 = (V.sl (List.map cL (h.acc))) ∧ T 25 = (iV ((h.acc.length : Nat) : Int)) ∧ T 26 = (iV ((k : Nat) : Int)) ∧ T 47 = (V.bool (decide ((frEnd h.m (h.m.s) ((nth (h.acc) (k)))) ≠ ((k : Nat) : Int)))) ∧ H 1 = (⟨1, true, false, 26, 5, [[(iV (h.m.i)), (iV (h.m.s)), (V.sl (List.map cL (h.m.nx))), (V.sl (List.map cL (h.m.ot))), (V.sl (List.map cL (h.acc)))]]⟩ : Blk) ∧ True) ?_ ?_
                              · unfold r17_12
                                refine R_mv t7 ?_
                                refine R_mv t4 ?_
                                refine R_neq (x := (frEnd h.m (h.m.s) ((nth (h.acc) (k))))) (y := ((k : Nat) : Int)) (@rfl V (iV (frEnd h.m (h.m.s) ((nth (h.acc) (k)))))) (@rfl V (iV ((k : Nat) : Int))) ?_
                                exact R_nil ⟨t1, t24, t25, t26, rfl, h1, trivial⟩
                              · intro T H ⟨t1, t24, t25, t26, t47, h1, _⟩
                                refine W_if (p := (frEnd h.m (h.m.s) ((nth (h.acc) (k)))) ≠ ((k : Nat) : Int)) t47 (fun c8 => ?_) (fun c8 => ?_)
                                ·
                                  refine W_seq_regc (fun T H => T 2 = (iV (15)) ∧ H 1 = (⟨1, true, false, 26, 5, [[(iV (h.m.i)), (iV (h.m.s)), (V.sl (List.map cL (h.m.nx))), (V.sl (List.map cL (h.m.ot))), (V.sl (List.map cL (h.acc)))]]⟩ : Blk) ∧ True) ?_ ?_
                                  · unfold r17_13
                                    refine R_mv (@rfl V (iV (15))) ?_
                                    exact R_nil ⟨rfl, h1, trivial⟩
                                  · intro T H ⟨t2, h1, _⟩
                                    refine W_ret ?_
                                    refine y6 _ _ ?_
                                    refine p24 _ _ ?_
                                    refine y3 _ _ ?_
                                    refine Ret_1 t2 (fz_int ?_)
                                    · have e := accE_of hv k
                                      rw [if_neg (by omega), if_pos (by omega)] at e
                                      have e2 : fe (accE h) 0 h.acc.length = accE h k := by rw [hc]; exact fe_hit (by omega) (by omega)
                                      rw [hval, if_neg (by omega), if_neg (by omega), if_pos (by omega)]; omega
                                ·
                                  refine W_skip ?_
                                  refine n6 _ _ ?_
                                  refine W_regc (fun T H => T 1 = (V.mp 1 1 0 0) ∧ T 24 = (V.sl (List.map cL (h.acc))) ∧ T 25 = (iV ((h.acc.length : Nat) : Int)) ∧ T 26 = (iV ((k + 1 : Nat) : Int)) ∧ H 1 = (⟨1, true, false, 26, 5, [[(iV (h.m.i)), (iV (h.m.s)), (V.sl (List.map cL (h.m.nx))), (V.sl (List.map cL (h.m.ot))), (V.sl (List.map cL (h.acc)))]]⟩ : Blk) ∧ True) ?_ ?_
                                  · unfold r17_14
                                    refine R_addN (m := k) (n := 1) t26 (@rfl V (iV ((1 : Nat) : Int))) (by omega) ?_
                                    refine R_mv (@rfl V (iV ((k + 1 : Nat) : Int))) ?_
                                    exact R_nil ⟨t1, t24, t25, rfl, h1, trivial⟩
                                  · intro T H ⟨t1, t24, t25, t26, h1, _⟩
                                    refine p14 _ _ _ ?_ ⟨k+1, rfl, t1, t24, t25, (Eq.trans t26 (by first | rfl | simp)), h1, ?_, ?_, ?_, ?_, ?_⟩
                                    · omega
                                    · omega
                                    · omega
                                    · omega
                                    · omega
                                    · have e := accE_of hv k
                                      rw [if_neg (by omega), if_neg (by omega)] at e
                                      rw [hc]; exact fe_skip e (by omega)
                    ·
                      refine W_seq_exit ?_
                      refine p34 _ _ _ ?_
                      refine x3 _ _ ?_
                      refine W_seq_seq ?_
                      refine W_seq_regc (fun T H => T 57 = (V.bool (decide (((((nth (h.acc) (h.m.s).toNat)).length : Nat) : Int) ≠ (0)))) ∧ H 1 = (⟨1, true, false, 26, 5, [[(iV (h.m.i)), (iV (h.m.s)), (V.sl (List.map cL (h.m.nx))), (V.sl (List.map cL (h.m.ot))), (V.sl (List.map cL (h.acc)))]]⟩ : Blk) ∧ True) ?_ ?_
                      · unfold r17_15
                        refine R_fld_mp (o' := 4) t1 h1 (by first | rfl | simp [okB, Blk.own]) rfl ?_
                        refine R_load_mp (v := (V.sl (List.map cL (h.acc)))) (@rfl V (V.mp 1 1 0 4)) h1 (by first | rfl | simp [ldB, ldV, Blk.own, V.one]) ?_
                        refine R_fld_mp (o' := 0) t1 h1 (by first | rfl | simp [okB, Blk.own]) rfl ?_
                        refine R_fld_mp (o' := 1) (@rfl V (V.mp 1 1 0 0)) h1 (by first | rfl | simp [okB, Blk.own]) rfl ?_
                        refine R_load_mp (v := (iV (h.m.s))) (@rfl V (V.mp 1 1 0 1)) h1 (by first | rfl | simp [ldB, ldV, Blk.own, V.one]) ?_
                        refine R_idxI (i := (h.m.s)) (@rfl V (V.sl (List.map cL (h.acc)))) (@rfl V (iV (h.m.s))) (by omega) (by omega) rfl ?_
                        refine R_load_pp (v := (V.sl (List.map cI ((nth (h.acc) (h.m.s).toNat))))) (@rfl V (V.pp [(V.sl (List.map cI ((nth (h.acc) (h.m.s).toNat))))])) (by first | rfl | simp [ldV]) ?_
                        refine R_len (@rfl V (V.sl (List.map cI ((nth (h.acc) (h.m.s).toNat))))) ?_
                        refine R_neq (x := ((((nth (h.acc) (h.m.s).toNat)).length : Nat) : Int)) (y := (0)) (@rfl V (iV ((((nth (h.acc) (h.m.s).toNat)).length : Nat) : Int))) (@rfl V (iV (0))) ?_
                        exact R_nil ⟨rfl, h1, trivial⟩
                      · intro T H ⟨t57, h1, _⟩
                        refine W_seq_if (p := ((((nth (h.acc) (h.m.s).toNat)).length : Nat) : Int) ≠ (0)) t57 (fun c9 => ?_) (fun c9 => ?_)
                        ·
                          refine W_seq_seq ?_
                          refine W_seq_regc (fun T H => T 2 = (iV (10)) ∧ H 1 = (⟨1, true, false, 26, 5, [[(iV (h.m.i)), (iV (h.m.s)), (V.sl (List.map cL (h.m.nx))), (V.sl (List.map cL (h.m.ot))), (V.sl (List.map cL (h.acc)))]]⟩ : Blk) ∧ True) ?_ ?_
                          · unfold r17_16
                            refine R_mv (@rfl V (iV (10))) ?_
                            exact R_nil ⟨rfl, h1, trivial⟩
                          · intro T H ⟨t2, h1, _⟩
                            refine W_seq_ret ?_
                            refine Ret_1 t2 (fz_int ?_)
                            · have e2 : fe (accE h) 0 h.acc.length = 0 := by rw [hc, fe_end (by omega)]
                              rw [hval, if_neg (by omega), if_neg (by omega), if_neg (by omega), if_pos (by omega)]
                        ·
                          refine W_seq_skip ?_
                          refine W_seq_regc (fun T H => T 2 = (iV (0)) ∧ H 1 = (⟨1, true, false, 26, 5, [[(iV (h.m.i)), (iV (h.m.s)), (V.sl (List.map cL (h.m.nx))), (V.sl (List.map cL (h.m.ot))), (V.sl (List.map cL (h.acc)))]]⟩ : Blk) ∧ True) ?_ ?_
                          · unfold r17_17
                            refine R_mv (@rfl V (iV (0))) ?_
                            exact R_nil ⟨rfl, h1, trivial⟩
                          · intro T H ⟨t2, h1, _⟩
                            refine W_ret ?_
                            refine Ret_1 t2 (fz_int ?_)
                            · have e2 : fe (accE h) 0 h.acc.length = 0 := by rw [hc, fe_end (by omega)]
                              rw [hval, if_neg (by omega), if_neg (by omega), if_neg (by omega), if_neg (by omega)]

end Go.Proofs.Ytngkckefanbhgaa

namespace Go.Proofs.Ytngkckefanbhgaa
open Go Go.Proofs

theorem row_pure (m : M) (s : Nat) (h1 : s < m.nx.length) (h2 : s < m.ot.length) (hi : 1 ≤ m.i ∧ m.i ≤ 64) : PureC Try.prog 95 [(V.agg [(iV (m.i)), (iV (m.s)), (V.sl (List.map cL (m.nx))), (V.sl (List.map cL (m.ot)))]), (iV ((s : Nat) : Int))] (iV (rowE m s)) := by
  refine pure_of_Wz true 6 Try.func95 s95_ok (by kernel_rfl) (by simp [s95]) (by simp) (by simp) ?_
  unfold s95
  dsimp only
  refine W_seq_regc (fun T H => T 1 = (iV ((s : Nat) : Int)) ∧ T 2 = (V.mp 2 1 0 0) ∧ H 2 = (⟨1, true, false, 24, 4, [[(iV (m.i)), (iV (m.s)), (V.sl (List.map cL (m.nx))), (V.sl (List.map cL (m.ot)))]]⟩ : Blk) ∧ True) ?_ ?_
  · unfold r95_0
    refine R_box (i := 2) (n := 0) (m := 4) (cs := [(iV (m.i)), (iV (m.s)), (V.sl (List.map cL (m.nx))), (V.sl (List.map cL (m.ot)))]) rfl (congrArg Blk.ver rfl) (@rfl V (V.agg [(iV (m.i)), (iV (m.s)), (V.sl (List.map cL (m.nx))), (V.sl (List.map cL (m.ot)))])) rfl rfl ?_
    refine R_mv (@rfl V (iV (0))) ?_
    exact R_nil ⟨rfl, rfl, rfl, trivial⟩
  · intro T H ⟨t1, t2, h2, _⟩
    refine W_seq_seq ?_
    refine W_seq_regc (fun T H => T 1 = (iV ((s : Nat) : Int)) ∧ T 2 = (V.mp 2 1 0 0) ∧ T 25 = (V.bool (decide ((((((nth (m.nx) (s))).length : Nat) : Int) ≠ (m.i)) ∨ (((((nth (m.ot) (s))).length : Nat) : Int) ≠ (m.i))))) ∧ H 2 = (⟨1, true, false, 24, 4, [[(iV (m.i)), (iV (m.s)), (V.sl (List.map cL (m.nx))), (V.sl (List.map cL (m.ot)))]]⟩ : Blk) ∧ True) ?_ ?_
    · unfold r95_1
      refine R_fld_mp (o' := 2) t2 h2 (by first | rfl | simp [okB, Blk.own]) rfl ?_
      refine R_load_mp (v := (V.sl (List.map cL (m.nx)))) (@rfl V (V.mp 2 1 0 2)) h2 (by first | rfl | simp [ldB, ldV, Blk.own, V.one]) ?_
      refine R_mv t1 ?_
      refine R_idx (i := s) (@rfl V (V.sl (List.map cL (m.nx)))) (@rfl V (iV ((s : Nat) : Int))) (by omega) rfl ?_
      refine R_load_pp (v := (V.sl (List.map cI ((nth (m.nx) (s)))))) (@rfl V (V.pp [(V.sl (List.map cI ((nth (m.nx) (s)))))])) (by first | rfl | simp [ldV]) ?_
      refine R_len (@rfl V (V.sl (List.map cI ((nth (m.nx) (s)))))) ?_
      refine R_fld_mp (o' := 0) t2 h2 (by first | rfl | simp [okB, Blk.own]) rfl ?_
      refine R_load_mp (v := (iV (m.i))) (@rfl V (V.mp 2 1 0 0)) h2 (by first | rfl | simp [ldB, ldV, Blk.own, V.one]) ?_
      refine R_neq (x := ((((nth (m.nx) (s))).length : Nat) : Int)) (y := (m.i)) (@rfl V (iV ((((nth (m.nx) (s))).length : Nat) : Int))) (@rfl V (iV (m.i))) ?_
      refine R_mv (@rfl V (V.bool (decide (((((nth (m.nx) (s))).length : Nat) : Int) ≠ (m.i))))) ?_
      refine Ops_seg 10 (fun T H => T 1 = (iV ((s : Nat) : Int)) ∧ T 2 = (V.mp 2 1 0 0) ∧ T 25 = (V.bool (decide ((((((nth (m.nx) (s))).length : Nat) : Int) ≠ (m.i)) ∨ (((((nth (m.ot) (s))).length : Nat) : Int) ≠ (m.i))))) ∧ H 2 = (⟨1, true, false, 24, 4, [[(iV (m.i)), (iV (m.s)), (V.sl (List.map cL (m.nx))), (V.sl (List.map cL (m.ot)))]]⟩ : Blk) ∧ True) ?_ ?_
      · by_cases g1 : ((((nth (m.nx) (s))).length : Nat) : Int) ≠ (m.i)
        ·
          refine G_no (Eq.trans (@rfl V (V.bool (decide (((((nth (m.nx) (s))).length : Nat) : Int) ≠ (m.i))))) (congrArg V.bool (decide_eq_true g1))) (by decide) ?_
          refine G_no (Eq.trans (@rfl V (V.bool (decide (((((nth (m.nx) (s))).length : Nat) : Int) ≠ (m.i))))) (congrArg V.bool (decide_eq_true g1))) (by decide) ?_
          refine G_no (Eq.trans (@rfl V (V.bool (decide (((((nth (m.nx) (s))).length : Nat) : Int) ≠ (m.i))))) (congrArg V.bool (decide_eq_true g1))) (by decide) ?_
          refine G_no (Eq.trans (@rfl V (V.bool (decide (((((nth (m.nx) (s))).length : Nat) : Int) ≠ (m.i))))) (congrArg V.bool (decide_eq_true g1))) (by decide) ?_
          refine G_no (Eq.trans (@rfl V (V.bool (decide (((((nth (m.nx) (s))).length : Nat) : Int) ≠ (m.i))))) (congrArg V.bool (decide_eq_true g1))) (by decide) ?_
          refine G_no (Eq.trans (@rfl V (V.bool (decide (((((nth (m.nx) (s))).length : Nat) : Int) ≠ (m.i))))) (congrArg V.bool (decide_eq_true g1))) (by decide) ?_
          refine G_no (Eq.trans (@rfl V (V.bool (decide (((((nth (m.nx) (s))).length : Nat) : Int) ≠ (m.i))))) (congrArg V.bool (decide_eq_true g1))) (by decide) ?_
          refine G_no (Eq.trans (@rfl V (V.bool (decide (((((nth (m.nx) (s))).length : Nat) : Int) ≠ (m.i))))) (congrArg V.bool (decide_eq_true g1))) (by decide) ?_
          refine G_no (Eq.trans (@rfl V (V.bool (decide (((((nth (m.nx) (s))).length : Nat) : Int) ≠ (m.i))))) (congrArg V.bool (decide_eq_true g1))) (by decide) ?_
          refine R_pickT (Eq.trans (@rfl V (V.bool (decide (((((nth (m.nx) (s))).length : Nat) : Int) ≠ (m.i))))) (congrArg V.bool (decide_eq_true g1))) (@rfl V (V.bool true)) ?_
          exact ⟨t1, t2, (Eq.trans (@rfl V (V.bool true)) (dec_orT g1)), h2, trivial⟩
        ·
          refine G_yes (Eq.trans (@rfl V (V.bool (decide (((((nth (m.nx) (s))).length : Nat) : Int) ≠ (m.i))))) (congrArg V.bool (decide_eq_false g1))) ?_
          refine R_fld_mp (o' := 3) t2 h2 (by first | rfl | simp [okB, Blk.own]) rfl ?_
          refine G_yes (Eq.trans (@rfl V (V.bool (decide (((((nth (m.nx) (s))).length : Nat) : Int) ≠ (m.i))))) (congrArg V.bool (decide_eq_false g1))) ?_
          refine R_load_mp (v := (V.sl (List.map cL (m.ot)))) (@rfl V (V.mp 2 1 0 3)) h2 (by first | rfl | simp [ldB, ldV, Blk.own, V.one]) ?_
          refine G_yes (Eq.trans (@rfl V (V.bool (decide (((((nth (m.nx) (s))).length : Nat) : Int) ≠ (m.i))))) (congrArg V.bool (decide_eq_false g1))) ?_
          refine R_mv t1 ?_
          refine G_yes (Eq.trans (@rfl V (V.bool (decide (((((nth (m.nx) (s))).length : Nat) : Int) ≠ (m.i))))) (congrArg V.bool (decide_eq_false g1))) ?_
          refine R_idx (i := s) (@rfl V (V.sl (List.map cL (m.ot)))) (@rfl V (iV ((s : Nat) : Int))) (by omega) rfl ?_
          refine G_yes (Eq.trans (@rfl V (V.bool (decide (((((nth (m.nx) (s))).length : Nat) : Int) ≠ (m.i))))) (congrArg V.bool (decide_eq_false g1))) ?_
          refine R_load_pp (v := (V.sl (List.map cI ((nth (m.ot) (s)))))) (@rfl V (V.pp [(V.sl (List.map cI ((nth (m.ot) (s)))))])) (by first | rfl | simp [ldV]) ?_
          refine G_yes (Eq.trans (@rfl V (V.bool (decide (((((nth (m.nx) (s))).length : Nat) : Int) ≠ (m.i))))) (congrArg V.bool (decide_eq_false g1))) ?_
          refine R_len (@rfl V (V.sl (List.map cI ((nth (m.ot) (s)))))) ?_
          refine G_yes (Eq.trans (@rfl V (V.bool (decide (((((nth (m.nx) (s))).length : Nat) : Int) ≠ (m.i))))) (congrArg V.bool (decide_eq_false g1))) ?_
          refine R_fld_mp (o' := 0) t2 h2 (by first | rfl | simp [okB, Blk.own]) rfl ?_
          refine G_yes (Eq.trans (@rfl V (V.bool (decide (((((nth (m.nx) (s))).length : Nat) : Int) ≠ (m.i))))) (congrArg V.bool (decide_eq_false g1))) ?_
          refine R_load_mp (v := (iV (m.i))) (@rfl V (V.mp 2 1 0 0)) h2 (by first | rfl | simp [ldB, ldV, Blk.own, V.one]) ?_
          refine G_yes (Eq.trans (@rfl V (V.bool (decide (((((nth (m.nx) (s))).length : Nat) : Int) ≠ (m.i))))) (congrArg V.bool (decide_eq_false g1))) ?_
          refine R_neq (x := ((((nth (m.ot) (s))).length : Nat) : Int)) (y := (m.i)) (@rfl V (iV ((((nth (m.ot) (s))).length : Nat) : Int))) (@rfl V (iV (m.i))) ?_
          refine R_pickF (Eq.trans (@rfl V (V.bool (decide (((((nth (m.nx) (s))).length : Nat) : Int) ≠ (m.i))))) (congrArg V.bool (decide_eq_false g1))) (@rfl V (V.bool (decide (((((nth (m.ot) (s))).length : Nat) : Int) ≠ (m.i))))) ?_
          exact ⟨t1, t2, (Eq.trans (@rfl V (V.bool (decide (((((nth (m.ot) (s))).length : Nat) : Int) ≠ (m.i))))) (dec_orF g1)), h2, trivial⟩
      · intro T H ⟨t1, t2, t25, h2, _⟩
        exact R_nil ⟨t1, t2, t25, h2, trivial⟩
    · intro T H ⟨t1, t2, t25, h2, _⟩
      refine W_seq_if (p := (((((nth (m.nx) (s))).length : Nat) : Int) ≠ (m.i)) ∨ (((((nth (m.ot) (s))).length : Nat) : Int) ≠ (m.i))) t25 (fun c2 => ?_) (fun c2 => ?_)
      ·
        refine W_seq_seq ?_
        refine W_seq_regc (fun T H => T 4 = (iV (1)) ∧ H 2 = (⟨1, true, false, 24, 4, [[(iV (m.i)), (iV (m.s)), (V.sl (List.map cL (m.nx))), (V.sl (List.map cL (m.ot)))]]⟩ : Blk) ∧ True) ?_ ?_
        · unfold r95_2
          refine R_mv (@rfl V (iV (1))) ?_
          exact R_nil ⟨rfl, h2, trivial⟩
        · intro T H ⟨t4, h2, _⟩
          refine W_seq_ret ?_
          refine Ret_1 t4 (fz_int ?_)
          · rw [rowE, if_pos (by omega)]
      ·
        refine W_seq_skip ?_
        refine W_seq_seq ?_
        refine W_seq_regc (fun T H => T 1 = (iV ((s : Nat) : Int)) ∧ T 2 = (V.mp 2 1 0 0) ∧ T 5 = (iV (0)) ∧ H 2 = (⟨1, true, false, 24, 4, [[(iV (m.i)), (iV (m.s)), (V.sl (List.map cL (m.nx))), (V.sl (List.map cL (m.ot)))]]⟩ : Blk) ∧ True) ?_ ?_
        · unfold r95_3
          refine R_mv (@rfl V (iV (0))) ?_
          exact R_nil ⟨t1, t2, rfl, h2, trivial⟩
        · intro T H ⟨t1, t2, t5, h2, _⟩
          refine W_seq_block fun Q3 n3 x3 y3 z3 => ?_
          refine W_loop (fun mm T H => ∃ (k : Nat), mm = m.i.toNat - k ∧ T 1 = (iV ((s : Nat) : Int)) ∧ T 2 = (V.mp 2 1 0 0) ∧ T 5 = (iV ((k : Nat) : Int)) ∧ H 2 = (⟨1, true, false, 24, 4, [[(iV (m.i)), (iV (m.s)), (V.sl (List.map cL (m.nx))), (V.sl (List.map cL (m.ot)))]]⟩ : Blk) ∧ (k ≤ m.i.toNat) ∧ (((nth m.nx s).length : Int) = m.i ∧ ((nth m.ot s).length : Int) = m.i) ∧ (rowE m s = fe (celE m s) k (m.i.toNat - k))) ?_ ?_
          · refine ⟨_, 0, rfl, t1, t2, (Eq.trans t5 (by first | rfl | simp)), h2, ?_, ?_, ?_⟩
            · omega
            · omega
            · rw [rowE, if_neg (by omega)]; rfl
          · intro mm T H ⟨k, hmm, t1, t2, t5, h2, hk, hl, hc⟩ Q4 p14 p24 p34
            unfold b95_0
            refine W_seq_seq ?_
            refine W_seq_regc (fun T H => T 1 = (iV ((s : Nat) : Int)) ∧ T 2 = (V.mp 2 1 0 0) ∧ T 5 = (iV ((k : Nat) : Int)) ∧ T 29 = (V.bool (decide (((k : Nat) : Int) < (m.i)))) ∧ H 2 = (⟨1, true, false, 24, 4, [[(iV (m.i)), (iV (m.s)), (V.sl (List.map cL (m.nx))), (V.sl (List.map cL (m.ot)))]]⟩ : Blk) ∧ True) ?_ ?_
            · unfold r95_4
              refine R_mv t5 ?_
              refine R_fld_mp (o' := 0) t2 h2 (by first | rfl | simp [okB, Blk.own]) rfl ?_
              refine R_load_mp (v := (iV (m.i))) (@rfl V (V.mp 2 1 0 0)) h2 (by first | rfl | simp [ldB, ldV, Blk.own, V.one]) ?_
              refine R_lss (x := ((k : Nat) : Int)) (y := (m.i)) (@rfl V (iV ((k : Nat) : Int))) (@rfl V (iV (m.i))) ?_
              exact R_nil ⟨t1, t2, t5, rfl, h2, trivial⟩
            · intro T H ⟨t1, t2, t5, t29, h2, _⟩
              refine W_seq_if (p := ((k : Nat) : Int) < (m.i)) t29 (fun c5 => ?_) (fun c5 => ?_)
              ·
                refine W_seq_skip ?_
                refine W_seq_block fun Q6 n6 x6 y6 z6 => ?_
                refine W_seq_regc (fun T H => T 1 = (iV ((s : Nat) : Int)) ∧ T 2 = (V.mp 2 1 0 0) ∧ T 5 = (iV ((k : Nat) : Int)) ∧ T 76 = (V.bool (decide ((((((nth ((nth (m.nx) (s))) (k))) < (0)) ∨ (((m.nx.length : Nat) : Int) ≤ ((nth ((nth (m.nx) (s))) (k))))) ∨ (((nth ((nth (m.ot) (s))) (k))) < (0))) ∨ ((1048576) < ((nth ((nth (m.ot) (s))) (k))))))) ∧ H 2 = (⟨1, true, false, 24, 4, [[(iV (m.i)), (iV (m.s)), (V.sl (List.map cL (m.nx))), (V.sl (List.map cL (m.ot)))]]⟩ : Blk) ∧ True) ?_ ?_
                · unfold r95_6
                  refine R_fld_mp (o' := 2) t2 h2 (by first | rfl | simp [okB, Blk.own]) rfl ?_
                  refine R_load_mp (v := (V.sl (List.map cL (m.nx)))) (@rfl V (V.mp 2 1 0 2)) h2 (by first | rfl | simp [ldB, ldV, Blk.own, V.one]) ?_
                  refine R_mv t1 ?_
                  refine R_idx (i := s) (@rfl V (V.sl (List.map cL (m.nx)))) (@rfl V (iV ((s : Nat) : Int))) (by omega) rfl ?_
                  refine R_load_pp (v := (V.sl (List.map cI ((nth (m.nx) (s)))))) (@rfl V (V.pp [(V.sl (List.map cI ((nth (m.nx) (s)))))])) (by first | rfl | simp [ldV]) ?_
                  refine R_mv t5 ?_
                  refine R_idx (i := k) (@rfl V (V.sl (List.map cI ((nth (m.nx) (s)))))) (@rfl V (iV ((k : Nat) : Int))) (by omega) rfl ?_
                  refine R_load_pp (v := (iV ((nth ((nth (m.nx) (s))) (k))))) (@rfl V (V.pp [(iV ((nth ((nth (m.nx) (s))) (k))))])) (by first | rfl | simp [ldV]) ?_
                  refine R_lss (x := ((nth ((nth (m.nx) (s))) (k)))) (y := (0)) (@rfl V (iV ((nth ((nth (m.nx) (s))) (k))))) (@rfl V (iV (0))) ?_
                  refine R_mv (@rfl V (V.bool (decide (((nth ((nth (m.nx) (s))) (k))) < (0))))) ?_
                  refine Ops_seg 13 (fun T H => T 1 = (iV ((s : Nat) : Int)) ∧ T 2 = (V.mp 2 1 0 0) ∧ T 5 = (iV ((k : Nat) : Int)) ∧ T 54 = (V.bool (decide ((((nth ((nth (m.nx) (s))) (k))) < (0)) ∨ (((m.nx.length : Nat) : Int) ≤ ((nth ((nth (m.nx) (s))) (k))))))) ∧ H 2 = (⟨1, true, false, 24, 4, [[(iV (m.i)), (iV (m.s)), (V.sl (List.map cL (m.nx))), (V.sl (List.map cL (m.ot)))]]⟩ : Blk) ∧ True) ?_ ?_
                  · by_cases g7 : ((nth ((nth (m.nx) (s))) (k))) < (0)
                    ·
                      refine G_no (Eq.trans (@rfl V (V.bool (decide (((nth ((nth (m.nx) (s))) (k))) < (0))))) (congrArg V.bool (decide_eq_true g7))) (by decide) ?_
                      refine G_no (Eq.trans (@rfl V (V.bool (decide (((nth ((nth (m.nx) (s))) (k))) < (0))))) (congrArg V.bool (decide_eq_true g7))) (by decide) ?_
                      refine G_no (Eq.trans (@rfl V (V.bool (decide (((nth ((nth (m.nx) (s))) (k))) < (0))))) (congrArg V.bool (decide_eq_true g7))) (by decide) ?_
                      refine G_no (Eq.trans (@rfl V (V.bool (decide (((nth ((nth (m.nx) (s))) (k))) < (0))))) (congrArg V.bool (decide_eq_true g7))) (by decide) ?_
                      refine G_no (Eq.trans (@rfl V (V.bool (decide (((nth ((nth (m.nx) (s))) (k))) < (0))))) (congrArg V.bool (decide_eq_true g7))) (by decide) ?_
                      refine G_no (Eq.trans (@rfl V (V.bool (decide (((nth ((nth (m.nx) (s))) (k))) < (0))))) (congrArg V.bool (decide_eq_true g7))) (by decide) ?_
                      refine G_no (Eq.trans (@rfl V (V.bool (decide (((nth ((nth (m.nx) (s))) (k))) < (0))))) (congrArg V.bool (decide_eq_true g7))) (by decide) ?_
                      refine G_no (Eq.trans (@rfl V (V.bool (decide (((nth ((nth (m.nx) (s))) (k))) < (0))))) (congrArg V.bool (decide_eq_true g7))) (by decide) ?_
                      refine G_no (Eq.trans (@rfl V (V.bool (decide (((nth ((nth (m.nx) (s))) (k))) < (0))))) (congrArg V.bool (decide_eq_true g7))) (by decide) ?_
                      refine G_no (Eq.trans (@rfl V (V.bool (decide (((nth ((nth (m.nx) (s))) (k))) < (0))))) (congrArg V.bool (decide_eq_true g7))) (by decide) ?_
                      refine G_no (Eq.trans (@rfl V (V.bool (decide (((nth ((nth (m.nx) (s))) (k))) < (0))))) (congrArg V.bool (decide_eq_true g7))) (by decide) ?_
                      refine G_no (Eq.trans (@rfl V (V.bool (decide (((nth ((nth (m.nx) (s))) (k))) < (0))))) (congrArg V.bool (decide_eq_true g7))) (by decide) ?_
                      refine R_pickT (Eq.trans (@rfl V (V.bool (decide (((nth ((nth (m.nx) (s))) (k))) < (0))))) (congrArg V.bool (decide_eq_true g7))) (@rfl V (V.bool true)) ?_
                      exact ⟨t1, t2, t5, (Eq.trans (@rfl V (V.bool true)) (dec_orT g7)), h2, trivial⟩
                    ·
                      refine G_yes (Eq.trans (@rfl V (V.bool (decide (((nth ((nth (m.nx) (s))) (k))) < (0))))) (congrArg V.bool (decide_eq_false g7))) ?_
                      refine R_fld_mp (o' := 2) t2 h2 (by first | rfl | simp [okB, Blk.own]) rfl ?_
                      refine G_yes (Eq.trans (@rfl V (V.bool (decide (((nth ((nth (m.nx) (s))) (k))) < (0))))) (congrArg V.bool (decide_eq_false g7))) ?_
                      refine R_load_mp (v := (V.sl (List.map cL (m.nx)))) (@rfl V (V.mp 2 1 0 2)) h2 (by first | rfl | simp [ldB, ldV, Blk.own, V.one]) ?_
                      refine G_yes (Eq.trans (@rfl V (V.bool (decide (((nth ((nth (m.nx) (s))) (k))) < (0))))) (congrArg V.bool (decide_eq_false g7))) ?_
                      refine R_mv t1 ?_
                      refine G_yes (Eq.trans (@rfl V (V.bool (decide (((nth ((nth (m.nx) (s))) (k))) < (0))))) (congrArg V.bool (decide_eq_false g7))) ?_
                      refine R_idx (i := s) (@rfl V (V.sl (List.map cL (m.nx)))) (@rfl V (iV ((s : Nat) : Int))) (by omega) rfl ?_
                      refine G_yes (Eq.trans (@rfl V (V.bool (decide (((nth ((nth (m.nx) (s))) (k))) < (0))))) (congrArg V.bool (decide_eq_false g7))) ?_
                      refine R_load_pp (v := (V.sl (List.map cI ((nth (m.nx) (s)))))) (@rfl V (V.pp [(V.sl (List.map cI ((nth (m.nx) (s)))))])) (by first | rfl | simp [ldV]) ?_
                      refine G_yes (Eq.trans (@rfl V (V.bool (decide (((nth ((nth (m.nx) (s))) (k))) < (0))))) (congrArg V.bool (decide_eq_false g7))) ?_
                      refine R_mv t5 ?_
                      refine G_yes (Eq.trans (@rfl V (V.bool (decide (((nth ((nth (m.nx) (s))) (k))) < (0))))) (congrArg V.bool (decide_eq_false g7))) ?_
                      refine R_idx (i := k) (@rfl V (V.sl (List.map cI ((nth (m.nx) (s)))))) (@rfl V (iV ((k : Nat) : Int))) (by omega) rfl ?_
                      refine G_yes (Eq.trans (@rfl V (V.bool (decide (((nth ((nth (m.nx) (s))) (k))) < (0))))) (congrArg V.bool (decide_eq_false g7))) ?_
                      refine R_load_pp (v := (iV ((nth ((nth (m.nx) (s))) (k))))) (@rfl V (V.pp [(iV ((nth ((nth (m.nx) (s))) (k))))])) (by first | rfl | simp [ldV]) ?_
                      refine G_yes (Eq.trans (@rfl V (V.bool (decide (((nth ((nth (m.nx) (s))) (k))) < (0))))) (congrArg V.bool (decide_eq_false g7))) ?_
                      refine R_fld_mp (o' := 2) t2 h2 (by first | rfl | simp [okB, Blk.own]) rfl ?_
                      refine G_yes (Eq.trans (@rfl V (V.bool (decide (((nth ((nth (m.nx) (s))) (k))) < (0))))) (congrArg V.bool (decide_eq_false g7))) ?_
                      refine R_load_mp (v := (V.sl (List.map cL (m.nx)))) (@rfl V (V.mp 2 1 0 2)) h2 (by first | rfl | simp [ldB, ldV, Blk.own, V.one]) ?_
                      refine G_yes (Eq.trans (@rfl V (V.bool (decide (((nth ((nth (m.nx) (s))) (k))) < (0))))) (congrArg V.bool (decide_eq_false g7))) ?_
                      refine R_len (@rfl V (V.sl (List.map cL (m.nx)))) ?_
                      refine G_yes (Eq.trans (@rfl V (V.bool (decide (((nth ((nth (m.nx) (s))) (k))) < (0))))) (congrArg V.bool (decide_eq_false g7))) ?_
                      refine R_geq (x := ((nth ((nth (m.nx) (s))) (k)))) (y := ((m.nx.length : Nat) : Int)) (@rfl V (iV ((nth ((nth (m.nx) (s))) (k))))) (@rfl V (iV ((m.nx.length : Nat) : Int))) ?_
                      refine R_pickF (Eq.trans (@rfl V (V.bool (decide (((nth ((nth (m.nx) (s))) (k))) < (0))))) (congrArg V.bool (decide_eq_false g7))) (@rfl V (V.bool (decide (((m.nx.length : Nat) : Int) ≤ ((nth ((nth (m.nx) (s))) (k))))))) ?_
                      exact ⟨t1, t2, t5, (Eq.trans (@rfl V (V.bool (decide (((m.nx.length : Nat) : Int) ≤ ((nth ((nth (m.nx) (s))) (k))))))) (dec_orF g7)), h2, trivial⟩
                  · intro T H ⟨t1, t2, t5, t54, h2, _⟩
                    refine R_mv t54 ?_
                    refine Ops_seg 10 (fun T H => T 1 = (iV ((s : Nat) : Int)) ∧ T 2 = (V.mp 2 1 0 0) ∧ T 5 = (iV ((k : Nat) : Int)) ∧ T 65 = (V.bool (decide (((((nth ((nth (m.nx) (s))) (k))) < (0)) ∨ (((m.nx.length : Nat) : Int) ≤ ((nth ((nth (m.nx) (s))) (k))))) ∨ (((nth ((nth (m.ot) (s))) (k))) < (0))))) ∧ H 2 = (⟨1, true, false, 24, 4, [[(iV (m.i)), (iV (m.s)), (V.sl (List.map cL (m.nx))), (V.sl (List.map cL (m.ot)))]]⟩ : Blk) ∧ True) ?_ ?_
                    · by_cases g8 : (((nth ((nth (m.nx) (s))) (k))) < (0)) ∨ (((m.nx.length : Nat) : Int) ≤ ((nth ((nth (m.nx) (s))) (k))))
                      ·
                        refine G_no (Eq.trans (@rfl V (V.bool (decide ((((nth ((nth (m.nx) (s))) (k))) < (0)) ∨ (((m.nx.length : Nat) : Int) ≤ ((nth ((nth (m.nx) (s))) (k)))))))) (congrArg V.bool (decide_eq_true g8))) (by decide) ?_
                        refine G_no (Eq.trans (@rfl V (V.bool (decide ((((nth ((nth (m.nx) (s))) (k))) < (0)) ∨ (((m.nx.length : Nat) : Int) ≤ ((nth ((nth (m.nx) (s))) (k)))))))) (congrArg V.bool (decide_eq_true g8))) (by decide) ?_
                        refine G_no (Eq.trans (@rfl V (V.bool (decide ((((nth ((nth (m.nx) (s))) (k))) < (0)) ∨ (((m.nx.length : Nat) : Int) ≤ ((nth ((nth (m.nx) (s))) (k)))))))) (congrArg V.bool (decide_eq_true g8))) (by decide) ?_
                        refine G_no (Eq.trans (@rfl V (V.bool (decide ((((nth ((nth (m.nx) (s))) (k))) < (0)) ∨ (((m.nx.length : Nat) : Int) ≤ ((nth ((nth (m.nx) (s))) (k)))))))) (congrArg V.bool (decide_eq_true g8))) (by decide) ?_
                        refine G_no (Eq.trans (@rfl V (V.bool (decide ((((nth ((nth (m.nx) (s))) (k))) < (0)) ∨ (((m.nx.length : Nat) : Int) ≤ ((nth ((nth (m.nx) (s))) (k)))))))) (congrArg V.bool (decide_eq_true g8))) (by decide) ?_
                        refine G_no (Eq.trans (@rfl V (V.bool (decide ((((nth ((nth (m.nx) (s))) (k))) < (0)) ∨ (((m.nx.length : Nat) : Int) ≤ ((nth ((nth (m.nx) (s))) (k)))))))) (congrArg V.bool (decide_eq_true g8))) (by decide) ?_
                        refine G_no (Eq.trans (@rfl V (V.bool (decide ((((nth ((nth (m.nx) (s))) (k))) < (0)) ∨ (((m.nx.length : Nat) : Int) ≤ ((nth ((nth (m.nx) (s))) (k)))))))) (congrArg V.bool (decide_eq_true g8))) (by decide) ?_
                        refine G_no (Eq.trans (@rfl V (V.bool (decide ((((nth ((nth (m.nx) (s))) (k))) < (0)) ∨ (((m.nx.length : Nat) : Int) ≤ ((nth ((nth (m.nx) (s))) (k)))))))) (congrArg V.bool (decide_eq_true g8))) (by decide) ?_
                        refine G_no (Eq.trans (@rfl V (V.bool (decide ((((nth ((nth (m.nx) (s))) (k))) < (0)) ∨ (((m.nx.length : Nat) : Int) ≤ ((nth ((nth (m.nx) (s))) (k)))))))) (congrArg V.bool (decide_eq_true g8))) (by decide) ?_
                        refine R_pickT (Eq.trans (@rfl V (V.bool (decide ((((nth ((nth (m.nx) (s))) (k))) < (0)) ∨ (((m.nx.length : Nat) : Int) ≤ ((nth ((nth (m.nx) (s))) (k)))))))) (congrArg V.bool (decide_eq_true g8))) (@rfl V (V.bool true)) ?_
                        exact ⟨t1, t2, t5, (Eq.trans (@rfl V (V.bool true)) (dec_orT g8)), h2, trivial⟩
                      ·
                        refine G_yes (Eq.trans (@rfl V (V.bool (decide ((((nth ((nth (m.nx) (s))) (k))) < (0)) ∨ (((m.nx.length : Nat) : Int) ≤ ((nth ((nth (m.nx) (s))) (k)))))))) (congrArg V.bool (decide_eq_false g8))) ?_
                        refine R_fld_mp (o' := 3) t2 h2 (by first | rfl | simp [okB, Blk.own]) rfl ?_
                        refine G_yes (Eq.trans (@rfl V (V.bool (decide ((((nth ((nth (m.nx) (s))) (k))) < (0)) ∨ (((m.nx.length : Nat) : Int) ≤ ((nth ((nth (m.nx) (s))) (k)))))))) (congrArg V.bool (decide_eq_false g8))) ?_
                        refine R_load_mp (v := (V.sl (List.map cL (m.ot)))) (@rfl V (V.mp 2 1 0 3)) h2 (by first | rfl | simp [ldB, ldV, Blk.own, V.one]) ?_
                        refine G_yes (Eq.trans (@rfl V (V.bool (decide ((((nth ((nth (m.nx) (s))) (k))) < (0)) ∨ (((m.nx.length : Nat) : Int) ≤ ((nth ((nth (m.nx) (s))) (k)))))))) (congrArg V.bool (decide_eq_false g8))) ?_
                        refine R_mv t1 ?_
                        refine G_yes (Eq.trans (@rfl V (V.bool (decide ((((nth ((nth (m.nx) (s))) (k))) < (0)) ∨ (((m.nx.length : Nat) : Int) ≤ ((nth ((nth (m.nx) (s))) (k)))))))) (congrArg V.bool (decide_eq_false g8))) ?_
                        refine R_idx (i := s) (@rfl V (V.sl (List.map cL (m.ot)))) (@rfl V (iV ((s : Nat) : Int))) (by omega) rfl ?_
                        refine G_yes (Eq.trans (@rfl V (V.bool (decide ((((nth ((nth (m.nx) (s))) (k))) < (0)) ∨ (((m.nx.length : Nat) : Int) ≤ ((nth ((nth (m.nx) (s))) (k)))))))) (congrArg V.bool (decide_eq_false g8))) ?_
                        refine R_load_pp (v := (V.sl (List.map cI ((nth (m.ot) (s)))))) (@rfl V (V.pp [(V.sl (List.map cI ((nth (m.ot) (s)))))])) (by first | rfl | simp [ldV]) ?_
                        refine G_yes (Eq.trans (@rfl V (V.bool (decide ((((nth ((nth (m.nx) (s))) (k))) < (0)) ∨ (((m.nx.length : Nat) : Int) ≤ ((nth ((nth (m.nx) (s))) (k)))))))) (congrArg V.bool (decide_eq_false g8))) ?_
                        refine R_mv t5 ?_
                        refine G_yes (Eq.trans (@rfl V (V.bool (decide ((((nth ((nth (m.nx) (s))) (k))) < (0)) ∨ (((m.nx.length : Nat) : Int) ≤ ((nth ((nth (m.nx) (s))) (k)))))))) (congrArg V.bool (decide_eq_false g8))) ?_
                        refine R_idx (i := k) (@rfl V (V.sl (List.map cI ((nth (m.ot) (s)))))) (@rfl V (iV ((k : Nat) : Int))) (by omega) rfl ?_
                        refine G_yes (Eq.trans (@rfl V (V.bool (decide ((((nth ((nth (m.nx) (s))) (k))) < (0)) ∨ (((m.nx.length : Nat) : Int) ≤ ((nth ((nth (m.nx) (s))) (k)))))))) (congrArg V.bool (decide_eq_false g8))) ?_
                        refine R_load_pp (v := (iV ((nth ((nth (m.ot) (s))) (k))))) (@rfl V (V.pp [(iV ((nth ((nth (m.ot) (s))) (k))))])) (by first | rfl | simp [ldV]) ?_
                        refine G_yes (Eq.trans (@rfl V (V.bool (decide ((((nth ((nth (m.nx) (s))) (k))) < (0)) ∨ (((m.nx.length : Nat) : Int) ≤ ((nth ((nth (m.nx) (s))) (k)))))))) (congrArg V.bool (decide_eq_false g8))) ?_
                        refine R_lss (x := ((nth ((nth (m.ot) (s))) (k)))) (y := (0)) (@rfl V (iV ((nth ((nth (m.ot) (s))) (k))))) (@rfl V (iV (0))) ?_
                        refine R_pickF (Eq.trans (@rfl V (V.bool (decide ((((nth ((nth (m.nx) (s))) (k))) < (0)) ∨ (((m.nx.length : Nat) : Int) ≤ ((nth ((nth (m.nx) (s))) (k)))))))) (congrArg V.bool (decide_eq_false g8))) (@rfl V (V.bool (decide (((nth ((nth (m.ot) (s))) (k))) < (0))))) ?_
                        exact ⟨t1, t2, t5, (Eq.trans (@rfl V (V.bool (decide (((nth ((nth (m.ot) (s))) (k))) < (0))))) (dec_orF g8)), h2, trivial⟩
                    · intro T H ⟨t1, t2, t5, t65, h2, _⟩
                      refine R_mv t65 ?_
                      refine Ops_seg 10 (fun T H => T 1 = (iV ((s : Nat) : Int)) ∧ T 2 = (V.mp 2 1 0 0) ∧ T 5 = (iV ((k : Nat) : Int)) ∧ T 76 = (V.bool (decide ((((((nth ((nth (m.nx) (s))) (k))) < (0)) ∨ (((m.nx.length : Nat) : Int) ≤ ((nth ((nth (m.nx) (s))) (k))))) ∨ (((nth ((nth (m.ot) (s))) (k))) < (0))) ∨ ((1048576) < ((nth ((nth (m.ot) (s))) (k))))))) ∧ H 2 = (⟨1, true, false, 24, 4, [[(iV (m.i)), (iV (m.s)), (V.sl (List.map cL (m.nx))), (V.sl (List.map cL (m.ot)))]]⟩ : Blk) ∧ True) ?_ ?_
                      · by_cases g9 : ((((nth ((nth (m.nx) (s))) (k))) < (0)) ∨ (((m.nx.length : Nat) : Int) ≤ ((nth ((nth (m.nx) (s))) (k))))) ∨ (((nth ((nth (m.ot) (s))) (k))) < (0))
                        ·
                          refine G_no (Eq.trans (@rfl V (V.bool (decide (((((nth ((nth (m.nx) (s))) (k))) < (0)) ∨ (((m.nx.length : Nat) : Int) ≤ ((nth ((nth (m.nx) (s))) (k))))) ∨ (((nth ((nth (m.ot) (s))) (k))) < (0)))))) (congrArg V.bool (decide_eq_true g9))) (by decide) ?_
                          refine G_no (Eq.trans (@rfl V (V.bool (decide (((((nth ((nth (m.nx) (s))) (k))) < (0)) ∨ (((m.nx.length : Nat) : Int) ≤ ((nth ((nth (m.nx) (s))) (k))))) ∨ (((nth ((nth (m.ot) (s))) (k))) < (0)))))) (congrArg V.bool (decide_eq_true g9))) (by decide) ?_
                          refine G_no (Eq.trans (@rfl V (V.bool (decide (((((nth ((nth (m.nx) (s))) (k))) < (0)) ∨ (((m.nx.length : Nat) : Int) ≤ ((nth ((nth (m.nx) (s))) (k))))) ∨ (((nth ((nth (m.ot) (s))) (k))) < (0)))))) (congrArg V.bool (decide_eq_true g9))) (by decide) ?_
                          refine G_no (Eq.trans (@rfl V (V.bool (decide (((((nth ((nth (m.nx) (s))) (k))) < (0)) ∨ (((m.nx.length : Nat) : Int) ≤ ((nth ((nth (m.nx) (s))) (k))))) ∨ (((nth ((nth (m.ot) (s))) (k))) < (0)))))) (congrArg V.bool (decide_eq_true g9))) (by decide) ?_
                          refine G_no (Eq.trans (@rfl V (V.bool (decide (((((nth ((nth (m.nx) (s))) (k))) < (0)) ∨ (((m.nx.length : Nat) : Int) ≤ ((nth ((nth (m.nx) (s))) (k))))) ∨ (((nth ((nth (m.ot) (s))) (k))) < (0)))))) (congrArg V.bool (decide_eq_true g9))) (by decide) ?_
                          refine G_no (Eq.trans (@rfl V (V.bool (decide (((((nth ((nth (m.nx) (s))) (k))) < (0)) ∨ (((m.nx.length : Nat) : Int) ≤ ((nth ((nth (m.nx) (s))) (k))))) ∨ (((nth ((nth (m.ot) (s))) (k))) < (0)))))) (congrArg V.bool (decide_eq_true g9))) (by decide) ?_
                          refine G_no (Eq.trans (@rfl V (V.bool (decide (((((nth ((nth (m.nx) (s))) (k))) < (0)) ∨ (((m.nx.length : Nat) : Int) ≤ ((nth ((nth (m.nx) (s))) (k))))) ∨ (((nth ((nth (m.ot) (s))) (k))) < (0)))))) (congrArg V.bool (decide_eq_true g9))) (by decide) ?_
                          refine G_no (Eq.trans (@rfl V (V.bool (decide (((((nth ((nth (m.nx) (s))) (k))) < (0)) ∨ (((m.nx.length : Nat) : Int) ≤ ((nth ((nth (m.nx) (s))) (k))))) ∨ (((nth ((nth (m.ot) (s))) (k))) < (0)))))) (congrArg V.bool (decide_eq_true g9))) (by decide) ?_
                          refine G_no (Eq.trans (@rfl V (V.bool (decide (((((nth ((nth (m.nx) (s))) (k))) < (0)) ∨ (((m.nx.length : Nat) : Int) ≤ ((nth ((nth (m.nx) (s))) (k))))) ∨ (((nth ((nth (m.ot) (s))) (k))) < (0)))))) (congrArg V.bool (decide_eq_true g9))) (by decide) ?_
                          refine R_pickT (Eq.trans (@rfl V (V.bool (decide (((((nth ((nth (m.nx) (s))) (k))) < (0)) ∨ (((m.nx.length : Nat) : Int) ≤ ((nth ((nth (m.nx) (s))) (k))))) ∨ (((nth ((nth (m.ot) (s))) (k))) < (0)))))) (congrArg V.bool (decide_eq_true g9))) (@rfl V (V.bool true)) ?_
                          exact ⟨t1, t2, t5, (Eq.trans (@rfl V (V.bool true)) (dec_orT g9)), h2, trivial⟩
                        ·
                          refine G_yes (Eq.trans (@rfl V (V.bool (decide (((((nth ((nth (m.nx) (s))) (k))) < (0)) ∨ (((m.nx.length : Nat) : Int) ≤ ((nth ((nth (m.nx) (s))) (k))))) ∨ (((nth ((nth (m.ot) (s))) (k))) < (0)))))) (congrArg V.bool (decide_eq_false g9))) ?_
                          refine R_fld_mp (o' := 3) t2 h2 (by first | rfl | simp [okB, Blk.own]) rfl ?_
                          refine G_yes (Eq.trans (@rfl V (V.bool (decide (((((nth ((nth (m.nx) (s))) (k))) < (0)) ∨ (((m.nx.length : Nat) : Int) ≤ ((nth ((nth (m.nx) (s))) (k))))) ∨ (((nth ((nth (m.ot) (s))) (k))) < (0)))))) (congrArg V.bool (decide_eq_false g9))) ?_
                          refine R_load_mp (v := (V.sl (List.map cL (m.ot)))) (@rfl V (V.mp 2 1 0 3)) h2 (by first | rfl | simp [ldB, ldV, Blk.own, V.one]) ?_
                          refine G_yes (Eq.trans (@rfl V (V.bool (decide (((((nth ((nth (m.nx) (s))) (k))) < (0)) ∨ (((m.nx.length : Nat) : Int) ≤ ((nth ((nth (m.nx) (s))) (k))))) ∨ (((nth ((nth (m.ot) (s))) (k))) < (0)))))) (congrArg V.bool (decide_eq_false g9))) ?_
                          refine R_mv t1 ?_
                          refine G_yes (Eq.trans (@rfl V (V.bool (decide (((((nth ((nth (m.nx) (s))) (k))) < (0)) ∨ (((m.nx.length : Nat) : Int) ≤ ((nth ((nth (m.nx) (s))) (k))))) ∨ (((nth ((nth (m.ot) (s))) (k))) < (0)))))) (congrArg V.bool (decide_eq_false g9))) ?_
                          refine R_idx (i := s) (@rfl V (V.sl (List.map cL (m.ot)))) (@rfl V (iV ((s : Nat) : Int))) (by omega) rfl ?_
                          refine G_yes (Eq.trans (@rfl V (V.bool (decide (((((nth ((nth (m.nx) (s))) (k))) < (0)) ∨ (((m.nx.length : Nat) : Int) ≤ ((nth ((nth (m.nx) (s))) (k))))) ∨ (((nth ((nth (m.ot) (s))) (k))) < (0)))))) (congrArg V.bool (decide_eq_false g9))) ?_
                          refine R_load_pp (v := (V.sl (List.map cI ((nth (m.ot) (s)))))) (@rfl V (V.pp [(V.sl (List.map cI ((nth (m.ot) (s)))))])) (by first | rfl | simp [ldV]) ?_
                          refine G_yes (Eq.trans (@rfl V (V.bool (decide (((((nth ((nth (m.nx) (s))) (k))) < (0)) ∨ (((m.nx.length : Nat) : Int) ≤ ((nth ((nth (m.nx) (s))) (k))))) ∨ (((nth ((nth (m.ot) (s))) (k))) < (0)))))) (congrArg V.bool (decide_eq_false g9))) ?_
                          refine R_mv t5 ?_
                          refine G_yes (Eq.trans (@rfl V (V.bool (decide (((((nth ((nth (m.nx) (s))) (k))) < (0)) ∨ (((m.nx.length : Nat) : Int) ≤ ((nth ((nth (m.nx) (s))) (k))))) ∨ (((nth ((nth (m.ot) (s))) (k))) < (0)))))) (congrArg V.bool (decide_eq_false g9))) ?_
                          refine R_idx (i := k) (@rfl V (V.sl (List.map cI ((nth (m.ot) (s)))))) (@rfl V (iV ((k : Nat) : Int))) (by omega) rfl ?_
                          refine G_yes (Eq.trans (@rfl V (V.bool (decide (((((nth ((nth (m.nx) (s))) (k))) < (0)) ∨ (((m.nx.length : Nat) : Int) ≤ ((nth ((nth (m.nx) (s))) (k))))) ∨ (((nth ((nth (m.ot) (s))) (k))) < (0)))))) (congrArg V.bool (decide_eq_false g9))) ?_
                          refine R_load_pp (v := (iV ((nth ((nth (m.ot) (s))) (k))))) (@rfl V (V.pp [(iV ((nth ((nth (m.ot) (s))) (k))))])) (by first | rfl | simp [ldV]) ?_
                          refine G_yes (Eq.trans (@rfl V (V.bool (decide (((((nth ((nth (m.nx) (s))) (k))) < (0)) ∨ (((m.nx.length : Nat) : Int) ≤ ((nth ((nth (m.nx) (s))) (k))))) ∨ (((nth ((nth (m.ot) (s))) (k))) < (0)))))) (congrArg V.bool (decide_eq_false g9))) ?_
                          refine R_gtr (x := ((nth ((nth (m.ot) (s))) (k)))) (y := (1048576)) (@rfl V (iV ((nth ((nth (m.ot) (s))) (k))))) (@rfl V (iV (1048576))) ?_
                          refine R_pickF (Eq.trans (@rfl V (V.bool (decide (((((nth ((nth (m.nx) (s))) (k))) < (0)) ∨ (((m.nx.length : Nat) : Int) ≤ ((nth ((nth (m.nx) (s))) (k))))) ∨ (((nth ((nth (m.ot) (s))) (k))) < (0)))))) (congrArg V.bool (decide_eq_false g9))) (@rfl V (V.bool (decide ((1048576) < ((nth ((nth (m.ot) (s))) (k))))))) ?_
                          exact ⟨t1, t2, t5, (Eq.trans (@rfl V (V.bool (decide ((1048576) < ((nth ((nth (m.ot) (s))) (k))))))) (dec_orF g9)), h2, trivial⟩
                      · intro T H ⟨t1, t2, t5, t76, h2, _⟩
                        exact R_nil ⟨t1, t2, t5, t76, h2, trivial⟩
                · intro T H ⟨t1, t2, t5, t76, h2, _⟩
                  refine W_if (p := (((((nth ((nth (m.nx) (s))) (k))) < (0)) ∨ (((m.nx.length : Nat) : Int) ≤ ((nth ((nth (m.nx) (s))) (k))))) ∨ (((nth ((nth (m.ot) (s))) (k))) < (0))) ∨ ((1048576) < ((nth ((nth (m.ot) (s))) (k))))) t76 (fun c10 => ?_) (fun c10 => ?_)
                  ·
                    refine W_seq_regc (fun T H => T 4 = (iV (2)) ∧ H 2 = (⟨1, true, false, 24, 4, [[(iV (m.i)), (iV (m.s)), (V.sl (List.map cL (m.nx))), (V.sl (List.map cL (m.ot)))]]⟩ : Blk) ∧ True) ?_ ?_
                    · unfold r95_7
                      refine R_mv (@rfl V (iV (2))) ?_
                      exact R_nil ⟨rfl, h2, trivial⟩
                    · intro T H ⟨t4, h2, _⟩
                      refine W_ret ?_
                      refine y6 _ _ ?_
                      refine p24 _ _ ?_
                      refine y3 _ _ ?_
                      refine Ret_1 t4 (fz_int ?_)
                      · rw [hc, fe_hit (by unfold celE; split <;> omega) (by omega)]; unfold celE; split <;> omega
                  ·
                    refine W_skip ?_
                    refine n6 _ _ ?_
                    refine W_regc (fun T H => T 1 = (iV ((s : Nat) : Int)) ∧ T 2 = (V.mp 2 1 0 0) ∧ T 5 = (iV ((k + 1 : Nat) : Int)) ∧ H 2 = (⟨1, true, false, 24, 4, [[(iV (m.i)), (iV (m.s)), (V.sl (List.map cL (m.nx))), (V.sl (List.map cL (m.ot)))]]⟩ : Blk) ∧ True) ?_ ?_
                    · unfold r95_5
                      refine R_mv t5 ?_
                      refine R_addN (m := k) (n := 1) (@rfl V (iV ((k : Nat) : Int))) (@rfl V (iV ((1 : Nat) : Int))) (by omega) ?_
                      refine R_mv (@rfl V (iV ((k + 1 : Nat) : Int))) ?_
                      exact R_nil ⟨t1, t2, rfl, h2, trivial⟩
                    · intro T H ⟨t1, t2, t5, h2, _⟩
                      refine p14 _ _ _ ?_ ⟨k+1, rfl, t1, t2, (Eq.trans t5 (by first | rfl | simp)), h2, ?_, ?_, ?_⟩
                      · omega
                      · omega
                      · omega
                      · rw [hc, fe_skip (by unfold celE; split <;> omega) (by omega)]
              ·
                refine W_seq_exit ?_
                refine p34 _ _ _ ?_
                refine x3 _ _ ?_
                refine W_seq_regc (fun T H => T 4 = (iV (0)) ∧ H 2 = (⟨1, true, false, 24, 4, [[(iV (m.i)), (iV (m.s)), (V.sl (List.map cL (m.nx))), (V.sl (List.map cL (m.ot)))]]⟩ : Blk) ∧ True) ?_ ?_
                · unfold r95_8
                  refine R_mv (@rfl V (iV (0))) ?_
                  exact R_nil ⟨rfl, h2, trivial⟩
                · intro T H ⟨t4, h2, _⟩
                  refine W_ret ?_
                  refine Ret_1 t4 (fz_int ?_)
                  · rw [hc, fe_end (by omega)]

end Go.Proofs.Ytngkckefanbhgaa

namespace Go.Proofs.Ytngkckefanbhgaa
open Go Go.Proofs

theorem rvalid_pure (m : M) : PureC Try.prog 57 [(V.agg [(iV (m.i)), (iV (m.s)), (V.sl (List.map cL (m.nx))), (V.sl (List.map cL (m.ot)))])] (iV (mval m)) := by
  refine pure_of_Wz true 6 Try.func57 s57_ok (by kernel_rfl) (by simp [s57]) (by simp) (by simp) ?_
  unfold s57
  dsimp only
  refine W_seq_regc (fun T H => T 1 = (V.mp 1 1 0 0) ∧ H 1 = (⟨1, true, false, 24, 4, [[(iV (m.i)), (iV (m.s)), (V.sl (List.map cL (m.nx))), (V.sl (List.map cL (m.ot)))]]⟩ : Blk) ∧ True) ?_ ?_
  · unfold r57_0
    refine R_box (i := 1) (n := 0) (m := 4) (cs := [(iV (m.i)), (iV (m.s)), (V.sl (List.map cL (m.nx))), (V.sl (List.map cL (m.ot)))]) rfl (congrArg Blk.ver rfl) (@rfl V (V.agg [(iV (m.i)), (iV (m.s)), (V.sl (List.map cL (m.nx))), (V.sl (List.map cL (m.ot)))])) rfl rfl ?_
    refine R_mv (@rfl V (iV (0))) ?_
    exact R_nil ⟨rfl, rfl, trivial⟩
  · intro T H ⟨t1, h1, _⟩
    refine W_seq_seq ?_
    refine W_seq_regc (fun T H => T 1 = (V.mp 1 1 0 0) ∧ T 12 = (V.bool (decide (((m.i) < (1)) ∨ ((64) < (m.i))))) ∧ H 1 = (⟨1, true, false, 24, 4, [[(iV (m.i)), (iV (m.s)), (V.sl (List.map cL (m.nx))), (V.sl (List.map cL (m.ot)))]]⟩ : Blk) ∧ True) ?_ ?_
    · unfold r57_1
      refine R_fld_mp (o' := 0) t1 h1 (by first | rfl | simp [okB, Blk.own]) rfl ?_
      refine R_load_mp (v := (iV (m.i))) (@rfl V (V.mp 1 1 0 0)) h1 (by first | rfl | simp [ldB, ldV, Blk.own, V.one]) ?_
      refine R_lss (x := (m.i)) (y := (1)) (@rfl V (iV (m.i))) (@rfl V (iV (1))) ?_
      refine R_mv (@rfl V (V.bool (decide ((m.i) < (1))))) ?_
      refine Ops_seg 4 (fun T H => T 1 = (V.mp 1 1 0 0) ∧ T 12 = (V.bool (decide (((m.i) < (1)) ∨ ((64) < (m.i))))) ∧ H 1 = (⟨1, true, false, 24, 4, [[(iV (m.i)), (iV (m.s)), (V.sl (List.map cL (m.nx))), (V.sl (List.map cL (m.ot)))]]⟩ : Blk) ∧ True) ?_ ?_
      · by_cases g1 : (m.i) < (1)
        ·
          refine G_no (Eq.trans (@rfl V (V.bool (decide ((m.i) < (1))))) (congrArg V.bool (decide_eq_true g1))) (by decide) ?_
          refine G_no (Eq.trans (@rfl V (V.bool (decide ((m.i) < (1))))) (congrArg V.bool (decide_eq_true g1))) (by decide) ?_
          refine G_no (Eq.trans (@rfl V (V.bool (decide ((m.i) < (1))))) (congrArg V.bool (decide_eq_true g1))) (by decide) ?_
          refine R_pickT (Eq.trans (@rfl V (V.bool (decide ((m.i) < (1))))) (congrArg V.bool (decide_eq_true g1))) (@rfl V (V.bool true)) ?_
          exact ⟨t1, (Eq.trans (@rfl V (V.bool true)) (dec_orT g1)), h1, trivial⟩
        ·
          refine G_yes (Eq.trans (@rfl V (V.bool (decide ((m.i) < (1))))) (congrArg V.bool (decide_eq_false g1))) ?_
          refine R_fld_mp (o' := 0) t1 h1 (by first | rfl | simp [okB, Blk.own]) rfl ?_
          refine G_yes (Eq.trans (@rfl V (V.bool (decide ((m.i) < (1))))) (congrArg V.bool (decide_eq_false g1))) ?_
          refine R_load_mp (v := (iV (m.i))) (@rfl V (V.mp 1 1 0 0)) h1 (by first | rfl | simp [ldB, ldV, Blk.own, V.one]) ?_
          refine G_yes (Eq.trans (@rfl V (V.bool (decide ((m.i) < (1))))) (congrArg V.bool (decide_eq_false g1))) ?_
          refine R_gtr (x := (m.i)) (y := (64)) (@rfl V (iV (m.i))) (@rfl V (iV (64))) ?_
          refine R_pickF (Eq.trans (@rfl V (V.bool (decide ((m.i) < (1))))) (congrArg V.bool (decide_eq_false g1))) (@rfl V (V.bool (decide ((64) < (m.i))))) ?_
          exact ⟨t1, (Eq.trans (@rfl V (V.bool (decide ((64) < (m.i))))) (dec_orF g1)), h1, trivial⟩
      · intro T H ⟨t1, t12, h1, _⟩
        exact R_nil ⟨t1, t12, h1, trivial⟩
    · intro T H ⟨t1, t12, h1, _⟩
      refine W_seq_if (p := ((m.i) < (1)) ∨ ((64) < (m.i))) t12 (fun c2 => ?_) (fun c2 => ?_)
      ·
        refine W_seq_seq ?_
        refine W_seq_regc (fun T H => T 2 = (iV (2)) ∧ H 1 = (⟨1, true, false, 24, 4, [[(iV (m.i)), (iV (m.s)), (V.sl (List.map cL (m.nx))), (V.sl (List.map cL (m.ot)))]]⟩ : Blk) ∧ True) ?_ ?_
        · unfold r57_2
          refine R_mv (@rfl V (iV (2))) ?_
          exact R_nil ⟨rfl, h1, trivial⟩
        · intro T H ⟨t2, h1, _⟩
          refine W_seq_ret ?_
          refine Ret_1 t2 (fz_int ?_)
          · rw [mval, if_pos (by omega)]
      ·
        refine W_seq_skip ?_
        refine W_seq_seq ?_
        refine W_seq_regc (fun T H => T 1 = (V.mp 1 1 0 0) ∧ T 16 = (V.bool (decide (((m.nx.length : Nat) : Int) = (0)))) ∧ H 1 = (⟨1, true, false, 24, 4, [[(iV (m.i)), (iV (m.s)), (V.sl (List.map cL (m.nx))), (V.sl (List.map cL (m.ot)))]]⟩ : Blk) ∧ True) ?_ ?_
        · unfold r57_3
          refine R_fld_mp (o' := 2) t1 h1 (by first | rfl | simp [okB, Blk.own]) rfl ?_
          refine R_load_mp (v := (V.sl (List.map cL (m.nx)))) (@rfl V (V.mp 1 1 0 2)) h1 (by first | rfl | simp [ldB, ldV, Blk.own, V.one]) ?_
          refine R_len (@rfl V (V.sl (List.map cL (m.nx)))) ?_
          refine R_eql (x := ((m.nx.length : Nat) : Int)) (y := (0)) (@rfl V (iV ((m.nx.length : Nat) : Int))) (@rfl V (iV (0))) ?_
          exact R_nil ⟨t1, rfl, h1, trivial⟩
        · intro T H ⟨t1, t16, h1, _⟩
          refine W_seq_if (p := ((m.nx.length : Nat) : Int) = (0)) t16 (fun c3 => ?_) (fun c3 => ?_)
          ·
            refine W_seq_seq ?_
            refine W_seq_regc (fun T H => T 2 = (iV (19)) ∧ H 1 = (⟨1, true, false, 24, 4, [[(iV (m.i)), (iV (m.s)), (V.sl (List.map cL (m.nx))), (V.sl (List.map cL (m.ot)))]]⟩ : Blk) ∧ True) ?_ ?_
            · unfold r57_4
              refine R_mv (@rfl V (iV (19))) ?_
              exact R_nil ⟨rfl, h1, trivial⟩
            · intro T H ⟨t2, h1, _⟩
              refine W_seq_ret ?_
              refine Ret_1 t2 (fz_int ?_)
              · rw [mval, if_neg (by omega), if_pos (by omega)]
          ·
            refine W_seq_skip ?_
            refine W_seq_seq ?_
            refine W_seq_regc (fun T H => T 1 = (V.mp 1 1 0 0) ∧ T 20 = (V.bool (decide ((128) < ((m.nx.length : Nat) : Int)))) ∧ H 1 = (⟨1, true, false, 24, 4, [[(iV (m.i)), (iV (m.s)), (V.sl (List.map cL (m.nx))), (V.sl (List.map cL (m.ot)))]]⟩ : Blk) ∧ True) ?_ ?_
            · unfold r57_5
              refine R_fld_mp (o' := 2) t1 h1 (by first | rfl | simp [okB, Blk.own]) rfl ?_
              refine R_load_mp (v := (V.sl (List.map cL (m.nx)))) (@rfl V (V.mp 1 1 0 2)) h1 (by first | rfl | simp [ldB, ldV, Blk.own, V.one]) ?_
              refine R_len (@rfl V (V.sl (List.map cL (m.nx)))) ?_
              refine R_gtr (x := ((m.nx.length : Nat) : Int)) (y := (128)) (@rfl V (iV ((m.nx.length : Nat) : Int))) (@rfl V (iV (128))) ?_
              exact R_nil ⟨t1, rfl, h1, trivial⟩
            · intro T H ⟨t1, t20, h1, _⟩
              refine W_seq_if (p := (128) < ((m.nx.length : Nat) : Int)) t20 (fun c4 => ?_) (fun c4 => ?_)
              ·
                refine W_seq_seq ?_
                refine W_seq_regc (fun T H => T 2 = (iV (11)) ∧ H 1 = (⟨1, true, false, 24, 4, [[(iV (m.i)), (iV (m.s)), (V.sl (List.map cL (m.nx))), (V.sl (List.map cL (m.ot)))]]⟩ : Blk) ∧ True) ?_ ?_
                · unfold r57_6
                  refine R_mv (@rfl V (iV (11))) ?_
                  exact R_nil ⟨rfl, h1, trivial⟩
                · intro T H ⟨t2, h1, _⟩
                  refine W_seq_ret ?_
                  refine Ret_1 t2 (fz_int ?_)
                  · rw [mval, if_neg (by omega), if_neg (by omega), if_pos (by omega)]
              ·
                refine W_seq_skip ?_
                refine W_seq_seq ?_
                refine W_seq_regc (fun T H => T 1 = (V.mp 1 1 0 0) ∧ T 31 = (V.bool (decide (((m.s) < (0)) ∨ (((m.nx.length : Nat) : Int) ≤ (m.s))))) ∧ H 1 = (⟨1, true, false, 24, 4, [[(iV (m.i)), (iV (m.s)), (V.sl (List.map cL (m.nx))), (V.sl (List.map cL (m.ot)))]]⟩ : Blk) ∧ True) ?_ ?_
                · unfold r57_7
                  refine R_fld_mp (o' := 1) t1 h1 (by first | rfl | simp [okB, Blk.own]) rfl ?_
                  refine R_load_mp (v := (iV (m.s))) (@rfl V (V.mp 1 1 0 1)) h1 (by first | rfl | simp [ldB, ldV, Blk.own, V.one]) ?_
                  refine R_lss (x := (m.s)) (y := (0)) (@rfl V (iV (m.s))) (@rfl V (iV (0))) ?_
                  refine R_mv (@rfl V (V.bool (decide ((m.s) < (0))))) ?_
                  refine Ops_seg 7 (fun T H => T 1 = (V.mp 1 1 0 0) ∧ T 31 = (V.bool (decide (((m.s) < (0)) ∨ (((m.nx.length : Nat) : Int) ≤ (m.s))))) ∧ H 1 = (⟨1, true, false, 24, 4, [[(iV (m.i)), (iV (m.s)), (V.sl (List.map cL (m.nx))), (V.sl (List.map cL (m.ot)))]]⟩ : Blk) ∧ True) ?_ ?_
                  · by_cases g5 : (m.s) < (0)
                    ·
                      refine G_no (Eq.trans (@rfl V (V.bool (decide ((m.s) < (0))))) (congrArg V.bool (decide_eq_true g5))) (by decide) ?_
                      refine G_no (Eq.trans (@rfl V (V.bool (decide ((m.s) < (0))))) (congrArg V.bool (decide_eq_true g5))) (by decide) ?_
                      refine G_no (Eq.trans (@rfl V (V.bool (decide ((m.s) < (0))))) (congrArg V.bool (decide_eq_true g5))) (by decide) ?_
                      refine G_no (Eq.trans (@rfl V (V.bool (decide ((m.s) < (0))))) (congrArg V.bool (decide_eq_true g5))) (by decide) ?_
                      refine G_no (Eq.trans (@rfl V (V.bool (decide ((m.s) < (0))))) (congrArg V.bool (decide_eq_true g5))) (by decide) ?_
                      refine G_no (Eq.trans (@rfl V (V.bool (decide ((m.s) < (0))))) (congrArg V.bool (decide_eq_true g5))) (by decide) ?_
                      refine R_pickT (Eq.trans (@rfl V (V.bool (decide ((m.s) < (0))))) (congrArg V.bool (decide_eq_true g5))) (@rfl V (V.bool true)) ?_
                      exact ⟨t1, (Eq.trans (@rfl V (V.bool true)) (dec_orT g5)), h1, trivial⟩
                    ·
                      refine G_yes (Eq.trans (@rfl V (V.bool (decide ((m.s) < (0))))) (congrArg V.bool (decide_eq_false g5))) ?_
                      refine R_fld_mp (o' := 1) t1 h1 (by first | rfl | simp [okB, Blk.own]) rfl ?_
                      refine G_yes (Eq.trans (@rfl V (V.bool (decide ((m.s) < (0))))) (congrArg V.bool (decide_eq_false g5))) ?_
                      refine R_load_mp (v := (iV (m.s))) (@rfl V (V.mp 1 1 0 1)) h1 (by first | rfl | simp [ldB, ldV, Blk.own, V.one]) ?_
                      refine G_yes (Eq.trans (@rfl V (V.bool (decide ((m.s) < (0))))) (congrArg V.bool (decide_eq_false g5))) ?_
                      refine R_fld_mp (o' := 2) t1 h1 (by first | rfl | simp [okB, Blk.own]) rfl ?_
                      refine G_yes (Eq.trans (@rfl V (V.bool (decide ((m.s) < (0))))) (congrArg V.bool (decide_eq_false g5))) ?_
                      refine R_load_mp (v := (V.sl (List.map cL (m.nx)))) (@rfl V (V.mp 1 1 0 2)) h1 (by first | rfl | simp [ldB, ldV, Blk.own, V.one]) ?_
                      refine G_yes (Eq.trans (@rfl V (V.bool (decide ((m.s) < (0))))) (congrArg V.bool (decide_eq_false g5))) ?_
                      refine R_len (@rfl V (V.sl (List.map cL (m.nx)))) ?_
                      refine G_yes (Eq.trans (@rfl V (V.bool (decide ((m.s) < (0))))) (congrArg V.bool (decide_eq_false g5))) ?_
                      refine R_geq (x := (m.s)) (y := ((m.nx.length : Nat) : Int)) (@rfl V (iV (m.s))) (@rfl V (iV ((m.nx.length : Nat) : Int))) ?_
                      refine R_pickF (Eq.trans (@rfl V (V.bool (decide ((m.s) < (0))))) (congrArg V.bool (decide_eq_false g5))) (@rfl V (V.bool (decide (((m.nx.length : Nat) : Int) ≤ (m.s))))) ?_
                      exact ⟨t1, (Eq.trans (@rfl V (V.bool (decide (((m.nx.length : Nat) : Int) ≤ (m.s))))) (dec_orF g5)), h1, trivial⟩
                  · intro T H ⟨t1, t31, h1, _⟩
                    exact R_nil ⟨t1, t31, h1, trivial⟩
                · intro T H ⟨t1, t31, h1, _⟩
                  refine W_seq_if (p := ((m.s) < (0)) ∨ (((m.nx.length : Nat) : Int) ≤ (m.s))) t31 (fun c6 => ?_) (fun c6 => ?_)
                  ·
                    refine W_seq_seq ?_
                    refine W_seq_regc (fun T H => T 2 = (iV (2)) ∧ H 1 = (⟨1, true, false, 24, 4, [[(iV (m.i)), (iV (m.s)), (V.sl (List.map cL (m.nx))), (V.sl (List.map cL (m.ot)))]]⟩ : Blk) ∧ True) ?_ ?_
                    · unfold r57_8
                      refine R_mv (@rfl V (iV (2))) ?_
                      exact R_nil ⟨rfl, h1, trivial⟩
                    · intro T H ⟨t2, h1, _⟩
                      refine W_seq_ret ?_
                      refine Ret_1 t2 (fz_int ?_)
                      · rw [mval, if_neg (by omega), if_neg (by omega), if_neg (by omega), if_pos (by omega)]
                  ·
                    refine W_seq_skip ?_
                    refine W_seq_seq ?_
                    refine W_seq_regc (fun T H => T 1 = (V.mp 1 1 0 0) ∧ T 38 = (V.bool (decide (((m.ot.length : Nat) : Int) ≠ ((m.nx.length : Nat) : Int)))) ∧ H 1 = (⟨1, true, false, 24, 4, [[(iV (m.i)), (iV (m.s)), (V.sl (List.map cL (m.nx))), (V.sl (List.map cL (m.ot)))]]⟩ : Blk) ∧ True) ?_ ?_
                    · unfold r57_9
                      refine R_fld_mp (o' := 3) t1 h1 (by first | rfl | simp [okB, Blk.own]) rfl ?_
                      refine R_load_mp (v := (V.sl (List.map cL (m.ot)))) (@rfl V (V.mp 1 1 0 3)) h1 (by first | rfl | simp [ldB, ldV, Blk.own, V.one]) ?_
                      refine R_len (@rfl V (V.sl (List.map cL (m.ot)))) ?_
                      refine R_fld_mp (o' := 2) t1 h1 (by first | rfl | simp [okB, Blk.own]) rfl ?_
                      refine R_load_mp (v := (V.sl (List.map cL (m.nx)))) (@rfl V (V.mp 1 1 0 2)) h1 (by first | rfl | simp [ldB, ldV, Blk.own, V.one]) ?_
                      refine R_len (@rfl V (V.sl (List.map cL (m.nx)))) ?_
                      refine R_neq (x := ((m.ot.length : Nat) : Int)) (y := ((m.nx.length : Nat) : Int)) (@rfl V (iV ((m.ot.length : Nat) : Int))) (@rfl V (iV ((m.nx.length : Nat) : Int))) ?_
                      exact R_nil ⟨t1, rfl, h1, trivial⟩
                    · intro T H ⟨t1, t38, h1, _⟩
                      refine W_seq_if (p := ((m.ot.length : Nat) : Int) ≠ ((m.nx.length : Nat) : Int)) t38 (fun c7 => ?_) (fun c7 => ?_)
                      ·
                        refine W_seq_seq ?_
                        refine W_seq_regc (fun T H => T 2 = (iV (1)) ∧ H 1 = (⟨1, true, false, 24, 4, [[(iV (m.i)), (iV (m.s)), (V.sl (List.map cL (m.nx))), (V.sl (List.map cL (m.ot)))]]⟩ : Blk) ∧ True) ?_ ?_
                        · unfold r57_10
                          refine R_mv (@rfl V (iV (1))) ?_
                          exact R_nil ⟨rfl, h1, trivial⟩
                        · intro T H ⟨t2, h1, _⟩
                          refine W_seq_ret ?_
                          refine Ret_1 t2 (fz_int ?_)
                          · rw [mval, if_neg (by omega), if_neg (by omega), if_neg (by omega), if_neg (by omega), if_pos (by omega)]
                      ·
                        refine W_seq_skip ?_
                        refine W_seq_seq ?_
                        refine W_seq_regc (fun T H => T 1 = (V.mp 1 1 0 0) ∧ T 3 = (iV (0)) ∧ H 1 = (⟨1, true, false, 24, 4, [[(iV (m.i)), (iV (m.s)), (V.sl (List.map cL (m.nx))), (V.sl (List.map cL (m.ot)))]]⟩ : Blk) ∧ True) ?_ ?_
                        · unfold r57_11
                          refine R_mv (@rfl V (iV (0))) ?_
                          exact R_nil ⟨t1, rfl, h1, trivial⟩
                        · intro T H ⟨t1, t3, h1, _⟩
                          refine W_seq_block fun Q8 n8 x8 y8 z8 => ?_
                          refine W_loop (fun mm T H => ∃ (k : Nat), mm = m.nx.length - k ∧ T 1 = (V.mp 1 1 0 0) ∧ T 3 = (iV ((k : Nat) : Int)) ∧ H 1 = (⟨1, true, false, 24, 4, [[(iV (m.i)), (iV (m.s)), (V.sl (List.map cL (m.nx))), (V.sl (List.map cL (m.ot)))]]⟩ : Blk) ∧ (k ≤ m.nx.length) ∧ (1 ≤ m.i ∧ m.i ≤ 64 ∧ 0 < m.nx.length ∧ m.nx.length ≤ 128 ∧ m.ot.length = m.nx.length) ∧ (mval m = fe (rowE m) k (m.nx.length - k))) ?_ ?_
                          · refine ⟨_, 0, rfl, t1, (Eq.trans t3 (by first | rfl | simp)), h1, ?_, ?_, ?_⟩
                            · omega
                            · omega
                            · rw [mval, if_neg (by omega), if_neg (by omega), if_neg (by omega), if_neg (by omega), if_neg (by omega)]; rfl
                          · intro mm T H ⟨k, hmm, t1, t3, h1, hk, hv, hc⟩ Q9 p19 p29 p39
                            unfold b57_0
                            refine W_seq_seq ?_
                            refine W_seq_regc (fun T H => T 1 = (V.mp 1 1 0 0) ∧ T 3 = (iV ((k : Nat) : Int)) ∧ T 43 = (V.bool (decide (((k : Nat) : Int) < ((m.nx.length : Nat) : Int)))) ∧ H 1 = (⟨1, true, false, 24, 4, [[(iV (m.i)), (iV (m.s)), (V.sl (List.map cL (m.nx))), (V.sl (List.map cL (m.ot)))]]⟩ : Blk) ∧ True) ?_ ?_
                            · unfold r57_12
                              refine R_mv t3 ?_
                              refine R_fld_mp (o' := 2) t1 h1 (by first | rfl | simp [okB, Blk.own]) rfl ?_
                              refine R_load_mp (v := (V.sl (List.map cL (m.nx)))) (@rfl V (V.mp 1 1 0 2)) h1 (by first | rfl | simp [ldB, ldV, Blk.own, V.one]) ?_
                              refine R_len (@rfl V (V.sl (List.map cL (m.nx)))) ?_
                              refine R_lss (x := ((k : Nat) : Int)) (y := ((m.nx.length : Nat) : Int)) (@rfl V (iV ((k : Nat) : Int))) (@rfl V (iV ((m.nx.length : Nat) : Int))) ?_
                              exact R_nil ⟨t1, t3, rfl, h1, trivial⟩
                            · intro T H ⟨t1, t3, t43, h1, _⟩
                              refine W_seq_if (p := ((k : Nat) : Int) < ((m.nx.length : Nat) : Int)) t43 (fun c10 => ?_) (fun c10 => ?_)
                              ·
                                refine W_seq_skip ?_
                                refine W_seq_block fun Q11 n11 x11 y11 z11 => ?_
                                refine W_seq_regc (fun T H => T 1 = (V.mp 1 1 0 0) ∧ T 3 = (iV ((k : Nat) : Int)) ∧ T 4 = (iV (rowE m k)) ∧ H 1 = (⟨1, true, false, 24, 4, [[(iV (m.i)), (iV (m.s)), (V.sl (List.map cL (m.nx))), (V.sl (List.map cL (m.ot)))]]⟩ : Blk) ∧ True) ?_ ?_
                                · unfold r57_14
                                  refine R_load_mp (v := (V.agg [(iV (m.i)), (iV (m.s)), (V.sl (List.map cL (m.nx))), (V.sl (List.map cL (m.ot)))])) t1 h1 (by first | rfl | simp [ldB, ldV, Blk.own, V.one]) ?_
                                  refine R_mv t3 ?_
                                  refine R_call (evcons (@rfl V (V.agg [(iV (m.i)), (iV (m.s)), (V.sl (List.map cL (m.nx))), (V.sl (List.map cL (m.ot)))])) (evcons (@rfl V (iV ((k : Nat) : Int))) evnil)) (row_pure m k (by omega) (by omega) (by omega)) (fzv_mapcanon _ _ (by simp)) (by simp) (Or.inl (by simp)) ?_
                                  refine R_mv (@rfl V (iV (rowE m k))) ?_
                                  exact R_nil ⟨t1, t3, rfl, h1, trivial⟩
                                · intro T H ⟨t1, t3, t4, h1, _⟩
                                  refine W_seq_regc (fun T H => T 1 = (V.mp 1 1 0 0) ∧ T 3 = (iV ((k : Nat) : Int)) ∧ T 4 = (iV (rowE m k)) ∧ T 50 = (V.bool (decide ((rowE m k) ≠ (0)))) ∧ H 1 = (⟨1, true, false, 24, 4, [[(iV (m.i)), (iV (m.s)), (V.sl (List.map cL (m.nx))), (V.sl (List.map cL (m.ot)))]]⟩ : Blk) ∧ True) ?_ ?_
                                  · unfold r57_15
                                    refine R_mv t4 ?_
                                    refine R_neq (x := (rowE m k)) (y := (0)) (@rfl V (iV (rowE m k))) (@rfl V (iV (0))) ?_
                                    exact R_nil ⟨t1, t3, t4, rfl, h1, trivial⟩
                                  · intro T H ⟨t1, t3, t4, t50, h1, _⟩
                                    refine W_if (p := (rowE m k) ≠ (0)) t50 (fun c12 => ?_) (fun c12 => ?_)
                                    ·
                                      refine W_seq_regc (fun T H => T 2 = (iV (rowE m k)) ∧ H 1 = (⟨1, true, false, 24, 4, [[(iV (m.i)), (iV (m.s)), (V.sl (List.map cL (m.nx))), (V.sl (List.map cL (m.ot)))]]⟩ : Blk) ∧ True) ?_ ?_
                                      · unfold r57_16
                                        refine R_mv t4 ?_
                                        refine R_mv (@rfl V (iV (rowE m k))) ?_
                                        exact R_nil ⟨rfl, h1, trivial⟩
                                      · intro T H ⟨t2, h1, _⟩
                                        refine W_ret ?_
                                        refine y11 _ _ ?_
                                        refine p29 _ _ ?_
                                        refine y8 _ _ ?_
                                        refine Ret_1 t2 (fz_int ?_)
                                        · rw [hc, fe_hit (by omega) (by omega)]
                                    ·
                                      refine W_skip ?_
                                      refine n11 _ _ ?_
                                      refine W_regc (fun T H => T 1 = (V.mp 1 1 0 0) ∧ T 3 = (iV ((k + 1 : Nat) : Int)) ∧ H 1 = (⟨1, true, false, 24, 4, [[(iV (m.i)), (iV (m.s)), (V.sl (List.map cL (m.nx))), (V.sl (List.map cL (m.ot)))]]⟩ : Blk) ∧ True) ?_ ?_
                                      · unfold r57_13
                                        refine R_mv t3 ?_
                                        refine R_addN (m := k) (n := 1) (@rfl V (iV ((k : Nat) : Int))) (@rfl V (iV ((1 : Nat) : Int))) (by omega) ?_
                                        refine R_mv (@rfl V (iV ((k + 1 : Nat) : Int))) ?_
                                        exact R_nil ⟨t1, rfl, h1, trivial⟩
                                      · intro T H ⟨t1, t3, h1, _⟩
                                        refine p19 _ _ _ ?_ ⟨k+1, rfl, t1, (Eq.trans t3 (by first | rfl | simp)), h1, ?_, ?_, ?_⟩
                                        · omega
                                        · omega
                                        · omega
                                        · rw [hc, fe_skip (by omega) (by omega)]
                              ·
                                refine W_seq_exit ?_
                                refine p39 _ _ _ ?_
                                refine x8 _ _ ?_
                                refine W_seq_regc (fun T H => T 2 = (iV (0)) ∧ H 1 = (⟨1, true, false, 24, 4, [[(iV (m.i)), (iV (m.s)), (V.sl (List.map cL (m.nx))), (V.sl (List.map cL (m.ot)))]]⟩ : Blk) ∧ True) ?_ ?_
                                · unfold r57_17
                                  refine R_mv (@rfl V (iV (0))) ?_
                                  exact R_nil ⟨rfl, h1, trivial⟩
                                · intro T H ⟨t2, h1, _⟩
                                  refine W_ret ?_
                                  refine Ret_1 t2 (fz_int ?_)
                                  · rw [hc, fe_end (by omega)]

end Go.Proofs.Ytngkckefanbhgaa

namespace Go.Proofs.Ytngkckefanbhgaa
open Go Go.Proofs

theorem size_pure (n : Int) : PureC Try.prog 96 [(iV (n))] (V.bool (decide (1 ≤ n ∧ n ≤ 1024))) := by
  refine pure_of_Wz true 6 Try.func96 s96_ok (by kernel_rfl) (by simp [s96]) (by simp) (by simp) ?_
  unfold s96
  dsimp only
  refine W_seq_regc (fun T H => T 0 = (iV (n)) ∧ True) ?_ ?_
  · unfold r96_0
    refine R_mv (@rfl V (V.bool false)) ?_
    exact R_nil ⟨rfl, trivial⟩
  · intro T H ⟨t0, _⟩
    refine W_seq_regc (fun T H => T 2 = (V.bool (decide (((1) ≤ (n)) ∧ ((n) ≤ (1024))))) ∧ True) ?_ ?_
    · unfold r96_1
      refine R_mv t0 ?_
      refine R_geq (x := (n)) (y := (1)) (@rfl V (iV (n))) (@rfl V (iV (1))) ?_
      refine R_mv (@rfl V (V.bool (decide ((1) ≤ (n))))) ?_
      refine Ops_seg 3 (fun T H => T 8 = (V.bool (decide (((1) ≤ (n)) ∧ ((n) ≤ (1024))))) ∧ True) ?_ ?_
      · by_cases g1 : (1) ≤ (n)
        ·
          refine G_yes (Eq.trans (@rfl V (V.bool (decide ((1) ≤ (n))))) (congrArg V.bool (decide_eq_true g1))) ?_
          refine R_mv t0 ?_
          refine G_yes (Eq.trans (@rfl V (V.bool (decide ((1) ≤ (n))))) (congrArg V.bool (decide_eq_true g1))) ?_
          refine R_leq (x := (n)) (y := (1024)) (@rfl V (iV (n))) (@rfl V (iV (1024))) ?_
          refine R_pickT (Eq.trans (@rfl V (V.bool (decide ((1) ≤ (n))))) (congrArg V.bool (decide_eq_true g1))) (@rfl V (V.bool (decide ((n) ≤ (1024))))) ?_
          exact ⟨(Eq.trans (@rfl V (V.bool (decide ((n) ≤ (1024))))) (dec_andT g1)), trivial⟩
        ·
          refine G_no (Eq.trans (@rfl V (V.bool (decide ((1) ≤ (n))))) (congrArg V.bool (decide_eq_false g1))) (by decide) ?_
          refine G_no (Eq.trans (@rfl V (V.bool (decide ((1) ≤ (n))))) (congrArg V.bool (decide_eq_false g1))) (by decide) ?_
          refine R_pickF (Eq.trans (@rfl V (V.bool (decide ((1) ≤ (n))))) (congrArg V.bool (decide_eq_false g1))) (@rfl V (V.bool false)) ?_
          exact ⟨(Eq.trans (@rfl V (V.bool false)) (dec_andF g1)), trivial⟩
      · intro T H ⟨t8, _⟩
        refine R_mv t8 ?_
        exact R_nil ⟨rfl, trivial⟩
    · intro T H ⟨t2, _⟩
      refine W_ret ?_
      refine Ret_1 t2 (fz_bool ?_)
      · first | rfl | omega | simp_all

end Go.Proofs.Ytngkckefanbhgaa

namespace Go.Proofs.Ytngkckefanbhgaa
open Go Go.Proofs

theorem rcheck_pure (w : List Int) (n : Int) : PureC Try.prog 58 [(V.sl (List.map cI (w))), (iV (n))] (iV (wchk w n)) := by
  refine pure_of_Wz true 6 Try.func58 s58_ok (by kernel_rfl) (by simp [s58]) (by simp) (by simp) ?_
  unfold s58
  dsimp only
  refine W_seq_regc (fun T H => T 0 = (V.sl (List.map cI (w))) ∧ T 1 = (iV (n)) ∧ True) ?_ ?_
  · unfold r58_0
    refine R_mv (@rfl V (iV (0))) ?_
    exact R_nil ⟨rfl, rfl, trivial⟩
  · intro T H ⟨t0, t1, _⟩
    refine W_seq_seq ?_
    refine W_seq_regc (fun T H => T 0 = (V.sl (List.map cI (w))) ∧ T 1 = (iV (n)) ∧ T 8 = (V.bool (decide (¬(1 ≤ (n) ∧ (n) ≤ 1024)))) ∧ True) ?_ ?_
    · unfold r58_1
      refine R_mv t1 ?_
      refine R_call (evcons (@rfl V (iV (n))) evnil) (size_pure (n)) (fzv_mapcanon _ _ (by simp)) (by simp) (Or.inl (by simp)) ?_
      refine R_not (p := 1 ≤ (n) ∧ (n) ≤ 1024) (@rfl V (V.bool (decide (1 ≤ (n) ∧ (n) ≤ 1024)))) ?_
      exact R_nil ⟨t0, t1, rfl, trivial⟩
    · intro T H ⟨t0, t1, t8, _⟩
      refine W_seq_if (p := ¬(1 ≤ (n) ∧ (n) ≤ 1024)) t8 (fun c1 => ?_) (fun c1 => ?_)
      ·
        refine W_seq_seq ?_
        refine W_seq_regc (fun T H => T 4 = (iV (2)) ∧ True) ?_ ?_
        · unfold r58_2
          refine R_mv (@rfl V (iV (2))) ?_
          exact R_nil ⟨rfl, trivial⟩
        · intro T H ⟨t4, _⟩
          refine W_seq_ret ?_
          refine Ret_1 t4 (fz_int ?_)
          · rw [wchk, if_pos (by omega)]
      ·
        refine W_seq_skip ?_
        refine W_seq_seq ?_
        refine W_seq_regc (fun T H => T 0 = (V.sl (List.map cI (w))) ∧ T 1 = (iV (n)) ∧ T 11 = (V.bool (decide ((1024) < ((w.length : Nat) : Int)))) ∧ True) ?_ ?_
        · unfold r58_3
          refine R_mv t0 ?_
          refine R_len (@rfl V (V.sl (List.map cI (w)))) ?_
          refine R_gtr (x := ((w.length : Nat) : Int)) (y := (1024)) (@rfl V (iV ((w.length : Nat) : Int))) (@rfl V (iV (1024))) ?_
          exact R_nil ⟨t0, t1, rfl, trivial⟩
        · intro T H ⟨t0, t1, t11, _⟩
          refine W_seq_if (p := (1024) < ((w.length : Nat) : Int)) t11 (fun c2 => ?_) (fun c2 => ?_)
          ·
            refine W_seq_seq ?_
            refine W_seq_regc (fun T H => T 4 = (iV (3)) ∧ True) ?_ ?_
            · unfold r58_4
              refine R_mv (@rfl V (iV (3))) ?_
              exact R_nil ⟨rfl, trivial⟩
            · intro T H ⟨t4, _⟩
              refine W_seq_ret ?_
              refine Ret_1 t4 (fz_int ?_)
              · rw [wchk, if_neg (by omega), if_pos (by omega)]
          ·
            refine W_seq_skip ?_
            refine W_seq_seq ?_
            refine W_seq_regc (fun T H => T 0 = (V.sl (List.map cI (w))) ∧ T 1 = (iV (n)) ∧ T 5 = (iV (0)) ∧ True) ?_ ?_
            · unfold r58_5
              refine R_mv (@rfl V (iV (0))) ?_
              exact R_nil ⟨t0, t1, rfl, trivial⟩
            · intro T H ⟨t0, t1, t5, _⟩
              refine W_seq_block fun Q3 n3 x3 y3 z3 => ?_
              refine W_loop (fun mm T H => ∃ (k : Nat), mm = w.length - k ∧ T 0 = (V.sl (List.map cI (w))) ∧ T 1 = (iV (n)) ∧ T 5 = (iV ((k : Nat) : Int)) ∧ (k ≤ w.length) ∧ (w.length ≤ 1024) ∧ (1 ≤ n ∧ n ≤ 1024) ∧ (wchk w n = fe (wE w n) k (w.length - k))) ?_ ?_
              · refine ⟨_, 0, rfl, t0, t1, (Eq.trans t5 (by first | rfl | simp)), ?_, ?_, ?_, ?_⟩
                · omega
                · omega
                · omega
                · rw [wchk, if_neg (by omega), if_neg (by omega)]; rfl
              · intro mm T H ⟨k, hmm, t0, t1, t5, hk, hl, hn, hc⟩ Q4 p14 p24 p34
                unfold b58_0
                refine W_seq_seq ?_
                refine W_seq_regc (fun T H => T 0 = (V.sl (List.map cI (w))) ∧ T 1 = (iV (n)) ∧ T 5 = (iV ((k : Nat) : Int)) ∧ T 15 = (V.bool (decide (((k : Nat) : Int) < ((w.length : Nat) : Int)))) ∧ True) ?_ ?_
                · unfold r58_6
                  refine R_mv t5 ?_
                  refine R_mv t0 ?_
                  refine R_len (@rfl V (V.sl (List.map cI (w)))) ?_
                  refine R_lss (x := ((k : Nat) : Int)) (y := ((w.length : Nat) : Int)) (@rfl V (iV ((k : Nat) : Int))) (@rfl V (iV ((w.length : Nat) : Int))) ?_
                  exact R_nil ⟨t0, t1, t5, rfl, trivial⟩
                · intro T H ⟨t0, t1, t5, t15, _⟩
                  refine W_seq_if (p := ((k : Nat) : Int) < ((w.length : Nat) : Int)) t15 (fun c5 => ?_) (fun c5 => ?_)
                  ·
                    refine W_seq_skip ?_
                    refine W_seq_block fun Q6 n6 x6 y6 z6 => ?_
                    refine W_seq_regc (fun T H => T 0 = (V.sl (List.map cI (w))) ∧ T 1 = (iV (n)) ∧ T 5 = (iV ((k : Nat) : Int)) ∧ T 30 = (V.bool (decide ((((nth (w) (k))) < (0)) ∨ ((n) ≤ ((nth (w) (k))))))) ∧ True) ?_ ?_
                    · unfold r58_8
                      refine R_mv t0 ?_
                      refine R_mv t5 ?_
                      refine R_idx (i := k) (@rfl V (V.sl (List.map cI (w)))) (@rfl V (iV ((k : Nat) : Int))) (by omega) rfl ?_
                      refine R_load_pp (v := (iV ((nth (w) (k))))) (@rfl V (V.pp [(iV ((nth (w) (k))))])) (by first | rfl | simp [ldV]) ?_
                      refine R_lss (x := ((nth (w) (k)))) (y := (0)) (@rfl V (iV ((nth (w) (k))))) (@rfl V (iV (0))) ?_
                      refine R_mv (@rfl V (V.bool (decide (((nth (w) (k))) < (0))))) ?_
                      refine Ops_seg 7 (fun T H => T 0 = (V.sl (List.map cI (w))) ∧ T 1 = (iV (n)) ∧ T 5 = (iV ((k : Nat) : Int)) ∧ T 30 = (V.bool (decide ((((nth (w) (k))) < (0)) ∨ ((n) ≤ ((nth (w) (k))))))) ∧ True) ?_ ?_
                      · by_cases g7 : ((nth (w) (k))) < (0)
                        ·
                          refine G_no (Eq.trans (@rfl V (V.bool (decide (((nth (w) (k))) < (0))))) (congrArg V.bool (decide_eq_true g7))) (by decide) ?_
                          refine G_no (Eq.trans (@rfl V (V.bool (decide (((nth (w) (k))) < (0))))) (congrArg V.bool (decide_eq_true g7))) (by decide) ?_
                          refine G_no (Eq.trans (@rfl V (V.bool (decide (((nth (w) (k))) < (0))))) (congrArg V.bool (decide_eq_true g7))) (by decide) ?_
                          refine G_no (Eq.trans (@rfl V (V.bool (decide (((nth (w) (k))) < (0))))) (congrArg V.bool (decide_eq_true g7))) (by decide) ?_
                          refine G_no (Eq.trans (@rfl V (V.bool (decide (((nth (w) (k))) < (0))))) (congrArg V.bool (decide_eq_true g7))) (by decide) ?_
                          refine G_no (Eq.trans (@rfl V (V.bool (decide (((nth (w) (k))) < (0))))) (congrArg V.bool (decide_eq_true g7))) (by decide) ?_
                          refine R_pickT (Eq.trans (@rfl V (V.bool (decide (((nth (w) (k))) < (0))))) (congrArg V.bool (decide_eq_true g7))) (@rfl V (V.bool true)) ?_
                          exact ⟨t0, t1, t5, (Eq.trans (@rfl V (V.bool true)) (dec_orT g7)), trivial⟩
                        ·
                          refine G_yes (Eq.trans (@rfl V (V.bool (decide (((nth (w) (k))) < (0))))) (congrArg V.bool (decide_eq_false g7))) ?_
                          refine R_mv t0 ?_
                          refine G_yes (Eq.trans (@rfl V (V.bool (decide (((nth (w) (k))) < (0))))) (congrArg V.bool (decide_eq_false g7))) ?_
                          refine R_mv t5 ?_
                          refine G_yes (Eq.trans (@rfl V (V.bool (decide (((nth (w) (k))) < (0))))) (congrArg V.bool (decide_eq_false g7))) ?_
                          refine R_idx (i := k) (@rfl V (V.sl (List.map cI (w)))) (@rfl V (iV ((k : Nat) : Int))) (by omega) rfl ?_
                          refine G_yes (Eq.trans (@rfl V (V.bool (decide (((nth (w) (k))) < (0))))) (congrArg V.bool (decide_eq_false g7))) ?_
                          refine R_load_pp (v := (iV ((nth (w) (k))))) (@rfl V (V.pp [(iV ((nth (w) (k))))])) (by first | rfl | simp [ldV]) ?_
                          refine G_yes (Eq.trans (@rfl V (V.bool (decide (((nth (w) (k))) < (0))))) (congrArg V.bool (decide_eq_false g7))) ?_
                          refine R_mv t1 ?_
                          refine G_yes (Eq.trans (@rfl V (V.bool (decide (((nth (w) (k))) < (0))))) (congrArg V.bool (decide_eq_false g7))) ?_
                          refine R_geq (x := ((nth (w) (k)))) (y := (n)) (@rfl V (iV ((nth (w) (k))))) (@rfl V (iV (n))) ?_
                          refine R_pickF (Eq.trans (@rfl V (V.bool (decide (((nth (w) (k))) < (0))))) (congrArg V.bool (decide_eq_false g7))) (@rfl V (V.bool (decide ((n) ≤ ((nth (w) (k))))))) ?_
                          exact ⟨t0, t1, t5, (Eq.trans (@rfl V (V.bool (decide ((n) ≤ ((nth (w) (k))))))) (dec_orF g7)), trivial⟩
                      · intro T H ⟨t0, t1, t5, t30, _⟩
                        exact R_nil ⟨t0, t1, t5, t30, trivial⟩
                    · intro T H ⟨t0, t1, t5, t30, _⟩
                      refine W_if (p := (((nth (w) (k))) < (0)) ∨ ((n) ≤ ((nth (w) (k))))) t30 (fun c8 => ?_) (fun c8 => ?_)
                      ·
                        refine W_seq_regc (fun T H => T 4 = (iV (1)) ∧ True) ?_ ?_
                        · unfold r58_9
                          refine R_mv (@rfl V (iV (1))) ?_
                          exact R_nil ⟨rfl, trivial⟩
                        · intro T H ⟨t4, _⟩
                          refine W_ret ?_
                          refine y6 _ _ ?_
                          refine p24 _ _ ?_
                          refine y3 _ _ ?_
                          refine Ret_1 t4 (fz_int ?_)
                          · rw [hc, fe_hit (by unfold wE; split <;> omega) (by omega)]; unfold wE; split <;> omega
                      ·
                        refine W_skip ?_
                        refine n6 _ _ ?_
                        refine W_regc (fun T H => T 0 = (V.sl (List.map cI (w))) ∧ T 1 = (iV (n)) ∧ T 5 = (iV ((k + 1 : Nat) : Int)) ∧ True) ?_ ?_
                        · unfold r58_7
                          refine R_mv t5 ?_
                          refine R_addN (m := k) (n := 1) (@rfl V (iV ((k : Nat) : Int))) (@rfl V (iV ((1 : Nat) : Int))) (by omega) ?_
                          refine R_mv (@rfl V (iV ((k + 1 : Nat) : Int))) ?_
                          exact R_nil ⟨t0, t1, rfl, trivial⟩
                        · intro T H ⟨t0, t1, t5, _⟩
                          refine p14 _ _ _ ?_ ⟨k+1, rfl, t0, t1, (Eq.trans t5 (by first | rfl | simp)), ?_, ?_, ?_, ?_⟩
                          · omega
                          · omega
                          · omega
                          · omega
                          · rw [hc, fe_skip (by unfold wE; split <;> omega) (by omega)]
                  ·
                    refine W_seq_exit ?_
                    refine p34 _ _ _ ?_
                    refine x3 _ _ ?_
                    refine W_seq_regc (fun T H => T 4 = (iV (0)) ∧ True) ?_ ?_
                    · unfold r58_10
                      refine R_mv (@rfl V (iV (0))) ?_
                      exact R_nil ⟨rfl, trivial⟩
                    · intro T H ⟨t4, _⟩
                      refine W_ret ?_
                      refine Ret_1 t4 (fz_int ?_)
                      · rw [hc, fe_end (by omega)]

end Go.Proofs.Ytngkckefanbhgaa

namespace Go.Proofs.Ytngkckefanbhgaa
open Go Go.Proofs

theorem outs_pure (m : M) (s : Int) (w : List Int) (hm : mval m = 0) (hs : 0 ≤ s ∧ s < m.nx.length) (hl : w.length ≤ 1024) (hw : ∀ k, k < w.length → 0 ≤ nth w k ∧ nth w k < m.i) : PureC Try.prog 59 [(V.agg [(iV (m.i)), (iV (m.s)), (V.sl (List.map cL (m.nx))), (V.sl (List.map cL (m.ot)))]), (iV (s)), (V.sl (List.map cI (w)))] (V.tup [(V.sl (List.map cI (outs m s w))), (iV (goal m s w))]) := by
  refine pure_of_Wz true 6 Try.func59 s59_ok (by kernel_rfl) (by simp [s59]) (by simp) (by simp) ?_
  unfold s59
  dsimp only
  refine W_seq_regc (fun T H => T 1 = (iV (s)) ∧ T 2 = (V.sl (List.map cI (w))) ∧ T 3 = (V.mp 3 1 0 0) ∧ H 3 = (⟨1, true, false, 24, 4, [[(iV (m.i)), (iV (m.s)), (V.sl (List.map cL (m.nx))), (V.sl (List.map cL (m.ot)))]]⟩ : Blk) ∧ H 8 = (⟨0, false, false, 0, 0, []⟩ : Blk) ∧ True) ?_ ?_
  · unfold r59_0
    refine R_box (i := 3) (n := 0) (m := 4) (cs := [(iV (m.i)), (iV (m.s)), (V.sl (List.map cL (m.nx))), (V.sl (List.map cL (m.ot)))]) rfl (congrArg Blk.ver rfl) (@rfl V (V.agg [(iV (m.i)), (iV (m.s)), (V.sl (List.map cL (m.nx))), (V.sl (List.map cL (m.ot)))])) rfl rfl ?_
    refine R_mv (@rfl V V.nilsl) ?_
    refine R_mv (@rfl V (iV (0))) ?_
    exact R_nil ⟨rfl, rfl, rfl, rfl, rfl, trivial⟩
  · intro T H ⟨t1, t2, t3, h3, h8, _⟩
    refine W_seq_regc (fun T H => T 1 = (iV (s)) ∧ T 2 = (V.sl (List.map cI (w))) ∧ T 3 = (V.mp 3 1 0 0) ∧ T 8 = (V.ms 8 1 0 (0)) ∧ H 3 = (⟨1, true, false, 24, 4, [[(iV (m.i)), (iV (m.s)), (V.sl (List.map cL (m.nx))), (V.sl (List.map cL (m.ot)))]]⟩ : Blk) ∧ H 8 = (⟨1, true, true, 3, 1, []⟩ : Blk) ∧ True) ?_ ?_
    · unfold r59_1
      refine R_lazy (i := 8) (n := 0) rfl (congrArg Blk.ver h8) ?_
      exact R_nil ⟨t1, t2, t3, rfl, h3, rfl, trivial⟩
    · intro T H ⟨t1, t2, t3, t8, h3, h8, _⟩
      refine W_seq_seq ?_
      refine W_seq_regc (fun T H => T 1 = (iV (s)) ∧ T 2 = (V.sl (List.map cI (w))) ∧ T 3 = (V.mp 3 1 0 0) ∧ T 8 = (V.ms 8 1 0 (0)) ∧ T 9 = (iV (0)) ∧ H 3 = (⟨1, true, false, 24, 4, [[(iV (m.i)), (iV (m.s)), (V.sl (List.map cL (m.nx))), (V.sl (List.map cL (m.ot)))]]⟩ : Blk) ∧ H 8 = (⟨1, true, true, 3, 1, []⟩ : Blk) ∧ True) ?_ ?_
      · unfold r59_2
        refine R_mv (@rfl V (iV (0))) ?_
        exact R_nil ⟨t1, t2, t3, t8, rfl, h3, h8, trivial⟩
      · intro T H ⟨t1, t2, t3, t8, t9, h3, h8, _⟩
        refine W_seq_block fun Q1 n1 x1 y1 z1 => ?_
        refine W_loop (fun mm T H => ∃ (k : Nat), mm = w.length - k ∧ T 1 = (iV (goal m s (w.take k))) ∧ T 2 = (V.sl (List.map cI (w))) ∧ T 3 = (V.mp 3 1 0 0) ∧ T 8 = (V.ms 8 (1 + k) 0 (k)) ∧ T 9 = (iV ((k : Nat) : Int)) ∧ H 3 = (⟨1, true, false, 24, 4, [[(iV (m.i)), (iV (m.s)), (V.sl (List.map cL (m.nx))), (V.sl (List.map cL (m.ot)))]]⟩ : Blk) ∧ H 8 = (⟨1 + k, true, true, 3, 1, (List.map cI (outs m s (w.take k)))⟩ : Blk) ∧ (k ≤ w.length)) ?_ ?_
        · refine ⟨_, 0, rfl, (Eq.trans t1 (by first | rfl | (rw [goal_step m s (by omega)]; rfl))), t2, t3, (Eq.trans t8 (by first | rfl | (rw [goal_step m s (by omega)]; rfl))), (Eq.trans t9 (by first | rfl | (rw [goal_step m s (by omega)]; rfl))), h3, (Eq.trans h8 (by first | rfl | (rw [outs_step m s (by omega)]; rfl))), ?_⟩
          · omega
        · intro mm T H ⟨k, hmm, t1, t2, t3, t8, t9, h3, h8, hk⟩ Q2 p12 p22 p32
          unfold b59_0
          refine W_seq_seq ?_
          refine W_seq_regc (fun T H => T 1 = (iV (goal m s (w.take k))) ∧ T 2 = (V.sl (List.map cI (w))) ∧ T 3 = (V.mp 3 1 0 0) ∧ T 8 = (V.ms 8 (1 + k) 0 (k)) ∧ T 9 = (iV ((k : Nat) : Int)) ∧ T 13 = (V.bool (decide (((k : Nat) : Int) < ((w.length : Nat) : Int)))) ∧ H 3 = (⟨1, true, false, 24, 4, [[(iV (m.i)), (iV (m.s)), (V.sl (List.map cL (m.nx))), (V.sl (List.map cL (m.ot)))]]⟩ : Blk) ∧ H 8 = (⟨1 + k, true, true, 3, 1, (List.map cI (outs m s (w.take k)))⟩ : Blk) ∧ True) ?_ ?_
          · unfold r59_3
            refine R_mv t9 ?_
            refine R_mv t2 ?_
            refine R_len (@rfl V (V.sl (List.map cI (w)))) ?_
            refine R_lss (x := ((k : Nat) : Int)) (y := ((w.length : Nat) : Int)) (@rfl V (iV ((k : Nat) : Int))) (@rfl V (iV ((w.length : Nat) : Int))) ?_
            exact R_nil ⟨t1, t2, t3, t8, t9, rfl, h3, h8, trivial⟩
          · intro T H ⟨t1, t2, t3, t8, t9, t13, h3, h8, _⟩
            refine W_seq_if (p := ((k : Nat) : Int) < ((w.length : Nat) : Int)) t13 (fun c3 => ?_) (fun c3 => ?_)
            ·
              have h1 := run_at hm hs hw (k := k) (by omega)
              refine W_seq_skip ?_
              refine W_seq_block fun Q4 n4 x4 y4 z4 => ?_
              refine W_seq_regc (fun T H => T 1 = (iV (goal m s (w.take k))) ∧ T 2 = (V.sl (List.map cI (w))) ∧ T 3 = (V.mp 3 1 0 0) ∧ T 8 = (V.ms 8 (1 + k + 1) 0 (k + 1)) ∧ T 9 = (iV ((k : Nat) : Int)) ∧ H 3 = (⟨1, true, false, 24, 4, [[(iV (m.i)), (iV (m.s)), (V.sl (List.map cL (m.nx))), (V.sl (List.map cL (m.ot)))]]⟩ : Blk) ∧ H 8 = (⟨1 + k + 1, true, true, 3, 1, (List.map cI (outs m s (w.take k) ++ [(nth ((nth (m.ot) (goal m s (w.take k)).toNat)) ((nth (w) (k))).toNat)]))⟩ : Blk) ∧ True) ?_ ?_
              · unfold r59_5
                refine R_mv t8 ?_
                refine R_fld_mp (o' := 3) t3 h3 (by first | rfl | simp [okB, Blk.own]) rfl ?_
                refine R_load_mp (v := (V.sl (List.map cL (m.ot)))) (@rfl V (V.mp 3 1 0 3)) h3 (by first | rfl | simp [ldB, ldV, Blk.own, V.one]) ?_
                refine R_mv t1 ?_
                refine R_idxI (i := (goal m s (w.take k))) (@rfl V (V.sl (List.map cL (m.ot)))) (@rfl V (iV (goal m s (w.take k)))) (by omega) (by omega) rfl ?_
                refine R_load_pp (v := (V.sl (List.map cI ((nth (m.ot) (goal m s (w.take k)).toNat))))) (@rfl V (V.pp [(V.sl (List.map cI ((nth (m.ot) (goal m s (w.take k)).toNat))))])) (by first | rfl | simp [ldV]) ?_
                refine R_mv t2 ?_
                refine R_mv t9 ?_
                refine R_idx (i := k) (@rfl V (V.sl (List.map cI (w)))) (@rfl V (iV ((k : Nat) : Int))) (by omega) rfl ?_
                refine R_load_pp (v := (iV ((nth (w) (k))))) (@rfl V (V.pp [(iV ((nth (w) (k))))])) (by first | rfl | simp [ldV]) ?_
                refine R_idxI (i := ((nth (w) (k)))) (@rfl V (V.sl (List.map cI ((nth (m.ot) (goal m s (w.take k)).toNat))))) (@rfl V (iV ((nth (w) (k))))) (by omega) (by omega) rfl ?_
                refine R_load_pp (v := (iV ((nth ((nth (m.ot) (goal m s (w.take k)).toNat)) ((nth (w) (k))).toNat)))) (@rfl V (V.pp [(iV ((nth ((nth (m.ot) (goal m s (w.take k)).toNat)) ((nth (w) (k))).toNat)))])) (by first | rfl | simp [ldV]) ?_
                refine R_bslice (qs := [(0, (iV ((nth ((nth (m.ot) (goal m s (w.take k)).toNat)) ((nth (w) (k))).toNat))))]) (rows := [[(iV ((nth ((nth (m.ot) (goal m s (w.take k)).toNat)) ((nth (w) (k))).toNat)))]]) (mcons (congrArg (fun v => (0, v)) (@rfl V (iV ((nth ((nth (m.ot) (goal m s (w.take k)).toNat)) ((nth (w) (k))).toNat))))) rfl) rfl ?_
                refine R_append1 (l := (outs m s (w.take k))) (f := cI) (x := ((nth ((nth (m.ot) (goal m s (w.take k)).toNat)) ((nth (w) (k))).toNat))) (@rfl V (V.ms 8 (1 + k) 0 (k))) h8 (by first | rfl | (simp only [outs_len, List.length_take]; omega)) (@rfl V (V.sl [[(iV ((nth ((nth (m.ot) (goal m s (w.take k)).toNat)) ((nth (w) (k))).toNat)))]])) rfl rfl (by omega) (by omega) ?_
                refine R_mv (@rfl V (V.ms 8 (1 + k + 1) 0 (k + 1))) ?_
                exact R_nil ⟨t1, t2, t3, rfl, t9, h3, rfl, trivial⟩
              · intro T H ⟨t1, t2, t3, t8, t9, h3, h8, _⟩
                refine W_regc (fun T H => T 1 = (iV ((nth ((nth (m.nx) (goal m s (w.take k)).toNat)) ((nth (w) (k))).toNat))) ∧ T 2 = (V.sl (List.map cI (w))) ∧ T 3 = (V.mp 3 1 0 0) ∧ T 8 = (V.ms 8 (1 + k + 1) 0 (k + 1)) ∧ T 9 = (iV ((k : Nat) : Int)) ∧ H 3 = (⟨1, true, false, 24, 4, [[(iV (m.i)), (iV (m.s)), (V.sl (List.map cL (m.nx))), (V.sl (List.map cL (m.ot)))]]⟩ : Blk) ∧ H 8 = (⟨1 + k + 1, true, true, 3, 1, (List.map cI (outs m s (w.take k) ++ [(nth ((nth (m.ot) (goal m s (w.take k)).toNat)) ((nth (w) (k))).toNat)]))⟩ : Blk) ∧ True) ?_ ?_
                · unfold r59_6
                  refine R_fld_mp (o' := 2) t3 h3 (by first | rfl | simp [okB, Blk.own]) rfl ?_
                  refine R_load_mp (v := (V.sl (List.map cL (m.nx)))) (@rfl V (V.mp 3 1 0 2)) h3 (by first | rfl | simp [ldB, ldV, Blk.own, V.one]) ?_
                  refine R_mv t1 ?_
                  refine R_idxI (i := (goal m s (w.take k))) (@rfl V (V.sl (List.map cL (m.nx)))) (@rfl V (iV (goal m s (w.take k)))) (by omega) (by omega) rfl ?_
                  refine R_load_pp (v := (V.sl (List.map cI ((nth (m.nx) (goal m s (w.take k)).toNat))))) (@rfl V (V.pp [(V.sl (List.map cI ((nth (m.nx) (goal m s (w.take k)).toNat))))])) (by first | rfl | simp [ldV]) ?_
                  refine R_mv t2 ?_
                  refine R_mv t9 ?_
                  refine R_idx (i := k) (@rfl V (V.sl (List.map cI (w)))) (@rfl V (iV ((k : Nat) : Int))) (by omega) rfl ?_
                  refine R_load_pp (v := (iV ((nth (w) (k))))) (@rfl V (V.pp [(iV ((nth (w) (k))))])) (by first | rfl | simp [ldV]) ?_
                  refine R_idxI (i := ((nth (w) (k)))) (@rfl V (V.sl (List.map cI ((nth (m.nx) (goal m s (w.take k)).toNat))))) (@rfl V (iV ((nth (w) (k))))) (by omega) (by omega) rfl ?_
                  refine R_load_pp (v := (iV ((nth ((nth (m.nx) (goal m s (w.take k)).toNat)) ((nth (w) (k))).toNat)))) (@rfl V (V.pp [(iV ((nth ((nth (m.nx) (goal m s (w.take k)).toNat)) ((nth (w) (k))).toNat)))])) (by first | rfl | simp [ldV]) ?_
                  refine R_mv (@rfl V (iV ((nth ((nth (m.nx) (goal m s (w.take k)).toNat)) ((nth (w) (k))).toNat)))) ?_
                  exact R_nil ⟨rfl, t2, t3, t8, t9, h3, h8, trivial⟩
                · intro T H ⟨t1, t2, t3, t8, t9, h3, h8, _⟩
                  refine n4 _ _ ?_
                  refine W_regc (fun T H => T 1 = (iV ((nth ((nth (m.nx) (goal m s (w.take k)).toNat)) ((nth (w) (k))).toNat))) ∧ T 2 = (V.sl (List.map cI (w))) ∧ T 3 = (V.mp 3 1 0 0) ∧ T 8 = (V.ms 8 (1 + k + 1) 0 (k + 1)) ∧ T 9 = (iV ((k + 1 : Nat) : Int)) ∧ H 3 = (⟨1, true, false, 24, 4, [[(iV (m.i)), (iV (m.s)), (V.sl (List.map cL (m.nx))), (V.sl (List.map cL (m.ot)))]]⟩ : Blk) ∧ H 8 = (⟨1 + k + 1, true, true, 3, 1, (List.map cI (outs m s (w.take k) ++ [(nth ((nth (m.ot) (goal m s (w.take k)).toNat)) ((nth (w) (k))).toNat)]))⟩ : Blk) ∧ True) ?_ ?_
                  · unfold r59_4
                    refine R_mv t9 ?_
                    refine R_addN (m := k) (n := 1) (@rfl V (iV ((k : Nat) : Int))) (@rfl V (iV ((1 : Nat) : Int))) (by omega) ?_
                    refine R_mv (@rfl V (iV ((k + 1 : Nat) : Int))) ?_
                    exact R_nil ⟨t1, t2, t3, t8, rfl, h3, h8, trivial⟩
                  · intro T H ⟨t1, t2, t3, t8, t9, h3, h8, _⟩
                    refine p12 _ _ _ ?_ ⟨k+1, rfl, (Eq.trans t1 (by first | rfl | (rw [goal_step m s (by omega)]; rfl))), t2, t3, (Eq.trans t8 (by first | rfl | (rw [goal_step m s (by omega)]; rfl))), (Eq.trans t9 (by first | rfl | (rw [goal_step m s (by omega)]; rfl))), h3, (Eq.trans h8 (by first | rfl | (rw [outs_step m s (by omega)]; rfl))), ?_⟩
                    · omega
                    · omega
            ·
              refine W_seq_exit ?_
              refine p32 _ _ _ ?_
              refine x1 _ _ ?_
              refine W_seq_regc (fun T H => T 6 = (V.ms 8 (1 + k) 0 (k)) ∧ T 7 = (iV (goal m s (w.take k))) ∧ H 3 = (⟨1, true, false, 24, 4, [[(iV (m.i)), (iV (m.s)), (V.sl (List.map cL (m.nx))), (V.sl (List.map cL (m.ot)))]]⟩ : Blk) ∧ H 8 = (⟨1 + k, true, true, 3, 1, (List.map cI (outs m s (w.take k)))⟩ : Blk) ∧ True) ?_ ?_
              · unfold r59_7
                refine R_mv t8 ?_
                refine R_mv t1 ?_
                refine R_mv (@rfl V (V.ms 8 (1 + k) 0 (k))) ?_
                refine R_mv (@rfl V (iV (goal m s (w.take k)))) ?_
                exact R_nil ⟨rfl, rfl, h3, h8, trivial⟩
              · intro T H ⟨t6, t7, h3, h8, _⟩
                refine W_ret ?_
                refine Ret_2 t6 t7 (fz_ms h8 (by first | rfl | simp) (l := (outs m s (w.take k))) rfl (by first | rfl | (simp only [outs_len, List.length_take]; omega)) (fun _ => by simp) ?_) (fz_int ?_)
                · (have e : k = w.length := (by omega); subst e; rw [List.take_length])
                · (have e : k = w.length := (by omega); subst e; rw [List.take_length])

end Go.Proofs.Ytngkckefanbhgaa

namespace Go.Proofs.Ytngkckefanbhgaa
open Go Go.Proofs

theorem rhvalid_pure (h : Hy) : PureC Try.prog 18 [(V.agg [(iV (h.m.i)), (iV (h.m.s)), (V.sl (List.map cL (h.m.nx))), (V.sl (List.map cL (h.m.ot))), (V.sl (List.map cL (h.acc)))])] (iV (hval h)) := by
  refine pure_of_Wz true 6 Try.func18 s18_ok (by kernel_rfl) (by simp [s18]) (by simp) (by simp) ?_
  unfold s18
  dsimp only
  refine W_seq_regc (fun T H => T 1 = (V.mp 1 1 0 0) ∧ H 1 = (⟨1, true, false, 26, 5, [[(iV (h.m.i)), (iV (h.m.s)), (V.sl (List.map cL (h.m.nx))), (V.sl (List.map cL (h.m.ot))), (V.sl (List.map cL (h.acc)))]]⟩ : Blk) ∧ True) ?_ ?_
  · unfold r18_0
    refine R_box (i := 1) (n := 0) (m := 5) (cs := [(iV (h.m.i)), (iV (h.m.s)), (V.sl (List.map cL (h.m.nx))), (V.sl (List.map cL (h.m.ot))), (V.sl (List.map cL (h.acc)))]) rfl (congrArg Blk.ver rfl) (@rfl V (V.agg [(iV (h.m.i)), (iV (h.m.s)), (V.sl (List.map cL (h.m.nx))), (V.sl (List.map cL (h.m.ot))), (V.sl (List.map cL (h.acc)))])) rfl rfl ?_
    refine R_mv (@rfl V (iV (0))) ?_
    exact R_nil ⟨rfl, rfl, trivial⟩
  · intro T H ⟨t1, h1, _⟩
    refine W_seq_seq ?_
    refine W_seq_regc (fun T H => T 1 = (V.mp 1 1 0 0) ∧ T 3 = (iV (mval h.m)) ∧ H 1 = (⟨1, true, false, 26, 5, [[(iV (h.m.i)), (iV (h.m.s)), (V.sl (List.map cL (h.m.nx))), (V.sl (List.map cL (h.m.ot))), (V.sl (List.map cL (h.acc)))]]⟩ : Blk) ∧ True) ?_ ?_
    · unfold r18_1
      refine R_fld_mp (o' := 0) t1 h1 (by first | rfl | simp [okB, Blk.own]) rfl ?_
      refine R_load_mp (v := (V.agg [(iV (h.m.i)), (iV (h.m.s)), (V.sl (List.map cL (h.m.nx))), (V.sl (List.map cL (h.m.ot)))])) (@rfl V (V.mp 1 1 0 0)) h1 (by first | rfl | simp [ldB, ldV, Blk.own, V.one]) ?_
      refine R_call (evcons (@rfl V (V.agg [(iV (h.m.i)), (iV (h.m.s)), (V.sl (List.map cL (h.m.nx))), (V.sl (List.map cL (h.m.ot)))])) evnil) (rvalid_pure h.m) (fzv_mapcanon _ _ (by simp)) (by simp) (Or.inl (by simp)) ?_
      refine R_mv (@rfl V (iV (mval h.m))) ?_
      exact R_nil ⟨t1, rfl, h1, trivial⟩
    · intro T H ⟨t1, t3, h1, _⟩
      refine W_seq_seq ?_
      refine W_seq_regc (fun T H => T 1 = (V.mp 1 1 0 0) ∧ T 3 = (iV (mval h.m)) ∧ T 13 = (V.bool (decide ((mval h.m) ≠ (0)))) ∧ H 1 = (⟨1, true, false, 26, 5, [[(iV (h.m.i)), (iV (h.m.s)), (V.sl (List.map cL (h.m.nx))), (V.sl (List.map cL (h.m.ot))), (V.sl (List.map cL (h.acc)))]]⟩ : Blk) ∧ True) ?_ ?_
      · unfold r18_2
        refine R_mv t3 ?_
        refine R_neq (x := (mval h.m)) (y := (0)) (@rfl V (iV (mval h.m))) (@rfl V (iV (0))) ?_
        exact R_nil ⟨t1, t3, rfl, h1, trivial⟩
      · intro T H ⟨t1, t3, t13, h1, _⟩
        refine W_seq_if (p := (mval h.m) ≠ (0)) t13 (fun c1 => ?_) (fun c1 => ?_)
        ·
          refine W_seq_seq ?_
          refine W_seq_regc (fun T H => T 2 = (iV (mval h.m)) ∧ H 1 = (⟨1, true, false, 26, 5, [[(iV (h.m.i)), (iV (h.m.s)), (V.sl (List.map cL (h.m.nx))), (V.sl (List.map cL (h.m.ot))), (V.sl (List.map cL (h.acc)))]]⟩ : Blk) ∧ True) ?_ ?_
          · unfold r18_3
            refine R_mv t3 ?_
            refine R_mv (@rfl V (iV (mval h.m))) ?_
            exact R_nil ⟨rfl, h1, trivial⟩
          · intro T H ⟨t2, h1, _⟩
            refine W_seq_ret ?_
            refine Ret_1 t2 (fz_int ?_)
            · rw [hval, if_pos (by omega)]
        ·
          have hm := mval_ok (m := h.m) (by omega)
          refine W_seq_skip ?_
          refine W_seq_seq ?_
          refine W_seq_regc (fun T H => T 1 = (V.mp 1 1 0 0) ∧ T 22 = (V.bool (decide (((h.acc.length : Nat) : Int) ≠ ((h.m.nx.length : Nat) : Int)))) ∧ H 1 = (⟨1, true, false, 26, 5, [[(iV (h.m.i)), (iV (h.m.s)), (V.sl (List.map cL (h.m.nx))), (V.sl (List.map cL (h.m.ot))), (V.sl (List.map cL (h.acc)))]]⟩ : Blk) ∧ True) ?_ ?_
          · unfold r18_4
            refine R_fld_mp (o' := 4) t1 h1 (by first | rfl | simp [okB, Blk.own]) rfl ?_
            refine R_load_mp (v := (V.sl (List.map cL (h.acc)))) (@rfl V (V.mp 1 1 0 4)) h1 (by first | rfl | simp [ldB, ldV, Blk.own, V.one]) ?_
            refine R_len (@rfl V (V.sl (List.map cL (h.acc)))) ?_
            refine R_fld_mp (o' := 0) t1 h1 (by first | rfl | simp [okB, Blk.own]) rfl ?_
            refine R_fld_mp (o' := 2) (@rfl V (V.mp 1 1 0 0)) h1 (by first | rfl | simp [okB, Blk.own]) rfl ?_
            refine R_load_mp (v := (V.sl (List.map cL (h.m.nx)))) (@rfl V (V.mp 1 1 0 2)) h1 (by first | rfl | simp [ldB, ldV, Blk.own, V.one]) ?_
            refine R_len (@rfl V (V.sl (List.map cL (h.m.nx)))) ?_
            refine R_neq (x := ((h.acc.length : Nat) : Int)) (y := ((h.m.nx.length : Nat) : Int)) (@rfl V (iV ((h.acc.length : Nat) : Int))) (@rfl V (iV ((h.m.nx.length : Nat) : Int))) ?_
            exact R_nil ⟨t1, rfl, h1, trivial⟩
          · intro T H ⟨t1, t22, h1, _⟩
            refine W_seq_if (p := ((h.acc.length : Nat) : Int) ≠ ((h.m.nx.length : Nat) : Int)) t22 (fun c2 => ?_) (fun c2 => ?_)
            ·
              refine W_seq_seq ?_
              refine W_seq_regc (fun T H => T 2 = (iV (1)) ∧ H 1 = (⟨1, true, false, 26, 5, [[(iV (h.m.i)), (iV (h.m.s)), (V.sl (List.map cL (h.m.nx))), (V.sl (List.map cL (h.m.ot))), (V.sl (List.map cL (h.acc)))]]⟩ : Blk) ∧ True) ?_ ?_
              · unfold r18_5
                refine R_mv (@rfl V (iV (1))) ?_
                exact R_nil ⟨rfl, h1, trivial⟩
              · intro T H ⟨t2, h1, _⟩
                refine W_seq_ret ?_
                refine Ret_1 t2 (fz_int ?_)
                · rw [hval, if_neg (by omega), if_pos (by omega)]
            ·
              refine W_seq_skip ?_
              refine W_seq_seq ?_
              refine W_seq_regc (fun T H => T 1 = (V.mp 1 1 0 0) ∧ T 4 = (iV (0)) ∧ H 1 = (⟨1, true, false, 26, 5, [[(iV (h.m.i)), (iV (h.m.s)), (V.sl (List.map cL (h.m.nx))), (V.sl (List.map cL (h.m.ot))), (V.sl (List.map cL (h.acc)))]]⟩ : Blk) ∧ True) ?_ ?_
              · unfold r18_6
                refine R_mv (@rfl V (iV (0))) ?_
                exact R_nil ⟨t1, rfl, h1, trivial⟩
              · intro T H ⟨t1, t4, h1, _⟩
                refine W_seq_block fun Q3 n3 x3 y3 z3 => ?_
                refine W_loop (fun mm T H => ∃ (k : Nat), mm = h.acc.length - k ∧ T 1 = (V.mp 1 1 0 0) ∧ T 4 = (iV ((k : Nat) : Int)) ∧ H 1 = (⟨1, true, false, 26, 5, [[(iV (h.m.i)), (iV (h.m.s)), (V.sl (List.map cL (h.m.nx))), (V.sl (List.map cL (h.m.ot))), (V.sl (List.map cL (h.acc)))]]⟩ : Blk) ∧ (k ≤ h.acc.length) ∧ (mval h.m = 0) ∧ (h.acc.length = h.m.nx.length) ∧ (0 ≤ h.m.s ∧ h.m.s < h.m.nx.length ∧ h.m.nx.length ≤ 128) ∧ (fe (accE h) 0 h.acc.length = fe (accE h) k (h.acc.length - k))) ?_ ?_
                · refine ⟨_, 0, rfl, t1, (Eq.trans t4 (by first | rfl | simp)), h1, ?_, ?_, ?_, ?_, ?_⟩
                  · omega
                  · omega
                  · omega
                  · omega
                  · rfl
                · intro mm T H ⟨k, hmm, t1, t4, h1, hk, hv, hl, hs, hc⟩ Q4 p14 p24 p34
                  unfold b18_0
                  refine W_seq_seq ?_
                  refine W_seq_regc (fun T H => T 1 = (V.mp 1 1 0 0) ∧ T 4 = (iV ((k : Nat) : Int)) ∧ T 27 = (V.bool (decide (((k : Nat) : Int) < ((h.acc.length : Nat) : Int)))) ∧ H 1 = (⟨1, true, false, 26, 5, [[(iV (h.m.i)), (iV (h.m.s)), (V.sl (List.map cL (h.m.nx))), (V.sl (List.map cL (h.m.ot))), (V.sl (List.map cL (h.acc)))]]⟩ : Blk) ∧ True) ?_ ?_
                  · unfold r18_7
                    refine R_mv t4 ?_
                    refine R_fld_mp (o' := 4) t1 h1 (by first | rfl | simp [okB, Blk.own]) rfl ?_
                    refine R_load_mp (v := (V.sl (List.map cL (h.acc)))) (@rfl V (V.mp 1 1 0 4)) h1 (by first | rfl | simp [ldB, ldV, Blk.own, V.one]) ?_
                    refine R_len (@rfl V (V.sl (List.map cL (h.acc)))) ?_
                    refine R_lss (x := ((k : Nat) : Int)) (y := ((h.acc.length : Nat) : Int)) (@rfl V (iV ((k : Nat) : Int))) (@rfl V (iV ((h.acc.length : Nat) : Int))) ?_
                    exact R_nil ⟨t1, t4, rfl, h1, trivial⟩
                  · intro T H ⟨t1, t4, t27, h1, _⟩
                    refine W_seq_if (p := ((k : Nat) : Int) < ((h.acc.length : Nat) : Int)) t27 (fun c5 => ?_) (fun c5 => ?_)
                    ·
                      refine W_seq_skip ?_
                      refine W_seq_block fun Q6 n6 x6 y6 z6 => ?_
                      refine W_seq_regc (fun T H => T 1 = (V.mp 1 1 0 0) ∧ T 4 = (iV ((k : Nat) : Int)) ∧ T 5 = (V.sl (List.map cI ((nth (h.acc) (k))))) ∧ H 1 = (⟨1, true, false, 26, 5, [[(iV (h.m.i)), (iV (h.m.s)), (V.sl (List.map cL (h.m.nx))), (V.sl (List.map cL (h.m.ot))), (V.sl (List.map cL (h.acc)))]]⟩ : Blk) ∧ True) ?_ ?_
                      · unfold r18_9
                        refine R_fld_mp (o' := 4) t1 h1 (by first | rfl | simp [okB, Blk.own]) rfl ?_
                        refine R_load_mp (v := (V.sl (List.map cL (h.acc)))) (@rfl V (V.mp 1 1 0 4)) h1 (by first | rfl | simp [ldB, ldV, Blk.own, V.one]) ?_
                        refine R_mv t4 ?_
                        refine R_idx (i := k) (@rfl V (V.sl (List.map cL (h.acc)))) (@rfl V (iV ((k : Nat) : Int))) (by omega) rfl ?_
                        refine R_load_pp (v := (V.sl (List.map cI ((nth (h.acc) (k)))))) (@rfl V (V.pp [(V.sl (List.map cI ((nth (h.acc) (k)))))])) (by first | rfl | simp [ldV]) ?_
                        refine R_mv (@rfl V (V.sl (List.map cI ((nth (h.acc) (k)))))) ?_
                        exact R_nil ⟨t1, t4, rfl, h1, trivial⟩
                      · intro T H ⟨t1, t4, t5, h1, _⟩
                        refine W_seq_seq ?_
                        refine W_seq_regc (fun T H => T 1 = (V.mp 1 1 0 0) ∧ T 4 = (iV ((k : Nat) : Int)) ∧ T 5 = (V.sl (List.map cI ((nth (h.acc) (k))))) ∧ T 6 = (iV (wchk ((nth (h.acc) (k))) (h.m.i))) ∧ H 1 = (⟨1, true, false, 26, 5, [[(iV (h.m.i)), (iV (h.m.s)), (V.sl (List.map cL (h.m.nx))), (V.sl (List.map cL (h.m.ot))), (V.sl (List.map cL (h.acc)))]]⟩ : Blk) ∧ True) ?_ ?_
                        · unfold r18_10
                          refine R_mv t5 ?_
                          refine R_fld_mp (o' := 0) t1 h1 (by first | rfl | simp [okB, Blk.own]) rfl ?_
                          refine R_fld_mp (o' := 0) (@rfl V (V.mp 1 1 0 0)) h1 (by first | rfl | simp [okB, Blk.own]) rfl ?_
                          refine R_load_mp (v := (iV (h.m.i))) (@rfl V (V.mp 1 1 0 0)) h1 (by first | rfl | simp [ldB, ldV, Blk.own, V.one]) ?_
                          refine R_call (evcons (@rfl V (V.sl (List.map cI ((nth (h.acc) (k)))))) (evcons (@rfl V (iV (h.m.i))) evnil)) (rcheck_pure ((nth (h.acc) (k))) (h.m.i)) (fzv_mapcanon _ _ (by simp)) (by simp) (Or.inl (by simp)) ?_
                          refine R_mv (@rfl V (iV (wchk ((nth (h.acc) (k))) (h.m.i)))) ?_
                          exact R_nil ⟨t1, t4, t5, rfl, h1, trivial⟩
                        · intro T H ⟨t1, t4, t5, t6, h1, _⟩
                          refine W_seq_seq ?_
                          refine W_seq_regc (fun T H => T 1 = (V.mp 1 1 0 0) ∧ T 4 = (iV ((k : Nat) : Int)) ∧ T 5 = (V.sl (List.map cI ((nth (h.acc) (k))))) ∧ T 6 = (iV (wchk ((nth (h.acc) (k))) (h.m.i))) ∧ T 41 = (V.bool (decide ((wchk ((nth (h.acc) (k))) (h.m.i)) ≠ (0)))) ∧ H 1 = (⟨1, true, false, 26, 5, [[(iV (h.m.i)), (iV (h.m.s)), (V.sl (List.map cL (h.m.nx))), (V.sl (List.map cL (h.m.ot))), (V.sl (List.map cL (h.acc)))]]⟩ : Blk) ∧ True) ?_ ?_
                          · unfold r18_11
                            refine R_mv t6 ?_
                            refine R_neq (x := (wchk ((nth (h.acc) (k))) (h.m.i))) (y := (0)) (@rfl V (iV (wchk ((nth (h.acc) (k))) (h.m.i)))) (@rfl V (iV (0))) ?_
                            exact R_nil ⟨t1, t4, t5, t6, rfl, h1, trivial⟩
                          · intro T H ⟨t1, t4, t5, t6, t41, h1, _⟩
                            refine W_seq_if (p := (wchk ((nth (h.acc) (k))) (h.m.i)) ≠ (0)) t41 (fun c7 => ?_) (fun c7 => ?_)
                            ·
                              refine W_seq_seq ?_
                              refine W_seq_regc (fun T H => T 2 = (iV (wchk ((nth (h.acc) (k))) (h.m.i))) ∧ H 1 = (⟨1, true, false, 26, 5, [[(iV (h.m.i)), (iV (h.m.s)), (V.sl (List.map cL (h.m.nx))), (V.sl (List.map cL (h.m.ot))), (V.sl (List.map cL (h.acc)))]]⟩ : Blk) ∧ True) ?_ ?_
                              · unfold r18_12
                                refine R_mv t6 ?_
                                refine R_mv (@rfl V (iV (wchk ((nth (h.acc) (k))) (h.m.i)))) ?_
                                exact R_nil ⟨rfl, h1, trivial⟩
                              · intro T H ⟨t2, h1, _⟩
                                refine W_seq_ret ?_
                                refine y6 _ _ ?_
                                refine p24 _ _ ?_
                                refine y3 _ _ ?_
                                refine Ret_1 t2 (fz_int ?_)
                                · have e : accE h k = wchk (nth h.acc k) h.m.i := by rw [accE, if_pos (by omega)]
                                  have e2 : fe (accE h) 0 h.acc.length = accE h k := by rw [hc]; exact fe_hit (by omega) (by omega)
                                  rw [hval, if_neg (by omega), if_neg (by omega), if_pos (by omega)]; omega
                            ·
                              have hw := wchk_ok (w := nth h.acc k) (n := h.m.i) (by omega)
                              refine W_seq_skip ?_
                              refine W_seq_regc (fun T H => T 1 = (V.mp 1 1 0 0) ∧ T 4 = (iV ((k : Nat) : Int)) ∧ T 8 = (iV (goal h.m (h.m.s) ((nth (h.acc) (k))))) ∧ H 1 = (⟨1, true, false, 26, 5, [[(iV (h.m.i)), (iV (h.m.s)), (V.sl (List.map cL (h.m.nx))), (V.sl (List.map cL (h.m.ot))), (V.sl (List.map cL (h.acc)))]]⟩ : Blk) ∧ True) ?_ ?_
                              · unfold r18_13
                                refine R_fld_mp (o' := 0) t1 h1 (by first | rfl | simp [okB, Blk.own]) rfl ?_
                                refine R_load_mp (v := (V.agg [(iV (h.m.i)), (iV (h.m.s)), (V.sl (List.map cL (h.m.nx))), (V.sl (List.map cL (h.m.ot)))])) (@rfl V (V.mp 1 1 0 0)) h1 (by first | rfl | simp [ldB, ldV, Blk.own, V.one]) ?_
                                refine R_fld_mp (o' := 0) t1 h1 (by first | rfl | simp [okB, Blk.own]) rfl ?_
                                refine R_fld_mp (o' := 1) (@rfl V (V.mp 1 1 0 0)) h1 (by first | rfl | simp [okB, Blk.own]) rfl ?_
                                refine R_load_mp (v := (iV (h.m.s))) (@rfl V (V.mp 1 1 0 1)) h1 (by first | rfl | simp [ldB, ldV, Blk.own, V.one]) ?_
                                refine R_mv t5 ?_
                                refine R_call (evcons (@rfl V (V.agg [(iV (h.m.i)), (iV (h.m.s)), (V.sl (List.map cL (h.m.nx))), (V.sl (List.map cL (h.m.ot)))])) (evcons (@rfl V (iV (h.m.s))) (evcons (@rfl V (V.sl (List.map cI ((nth (h.acc) (k)))))) evnil))) (outs_pure h.m (h.m.s) ((nth (h.acc) (k))) hv ⟨hs.1, hs.2.1⟩ hw.1 hw.2) (fzv_mapcanon _ _ (by simp)) (by simp) (Or.inl (by simp)) ?_
                                refine R_mv (@rfl V (V.tup [(V.sl (List.map cI (outs h.m (h.m.s) ((nth (h.acc) (k)))))), (iV (goal h.m (h.m.s) ((nth (h.acc) (k)))))])) ?_
                                refine R_ext (v := (V.sl (List.map cI (outs h.m (h.m.s) ((nth (h.acc) (k))))))) (@rfl V (V.tup [(V.sl (List.map cI (outs h.m (h.m.s) ((nth (h.acc) (k)))))), (iV (goal h.m (h.m.s) ((nth (h.acc) (k)))))])) rfl ?_
                                refine R_ext (v := (iV (goal h.m (h.m.s) ((nth (h.acc) (k)))))) (@rfl V (V.tup [(V.sl (List.map cI (outs h.m (h.m.s) ((nth (h.acc) (k)))))), (iV (goal h.m (h.m.s) ((nth (h.acc) (k)))))])) rfl ?_
                                refine R_mv (@rfl V (V.sl (List.map cI (outs h.m (h.m.s) ((nth (h.acc) (k))))))) ?_
                                refine R_mv (@rfl V (iV (goal h.m (h.m.s) ((nth (h.acc) (k)))))) ?_
                                exact R_nil ⟨t1, t4, rfl, h1, trivial⟩
                              · intro T H ⟨t1, t4, t8, h1, _⟩
                                refine W_seq_regc (fun T H => T 1 = (V.mp 1 1 0 0) ∧ T 4 = (iV ((k : Nat) : Int)) ∧ T 55 = (V.bool (decide ((goal h.m (h.m.s) ((nth (h.acc) (k)))) ≠ ((k : Nat) : Int)))) ∧ H 1 = (⟨1, true, false, 26, 5, [[(iV (h.m.i)), (iV (h.m.s)), (V.sl (List.map cL (h.m.nx))), (V.sl (List.map cL (h.m.ot))), (V.sl (List.map cL (h.acc)))]]⟩ : Blk) ∧ True) ?_ ?_
                                · unfold r18_14
                                  refine R_mv t8 ?_
                                  refine R_mv t4 ?_
                                  refine R_neq (x := (goal h.m (h.m.s) ((nth (h.acc) (k))))) (y := ((k : Nat) : Int)) (@rfl V (iV (goal h.m (h.m.s) ((nth (h.acc) (k)))))) (@rfl V (iV ((k : Nat) : Int))) ?_
                                  exact R_nil ⟨t1, t4, rfl, h1, trivial⟩
                                · intro T H ⟨t1, t4, t55, h1, _⟩
                                  refine W_if (p := (goal h.m (h.m.s) ((nth (h.acc) (k)))) ≠ ((k : Nat) : Int)) t55 (fun c8 => ?_) (fun c8 => ?_)
                                  ·
                                    refine W_seq_regc (fun T H => T 2 = (iV (15)) ∧ H 1 = (⟨1, true, false, 26, 5, [[(iV (h.m.i)), (iV (h.m.s)), (V.sl (List.map cL (h.m.nx))), (V.sl (List.map cL (h.m.ot))), (V.sl (List.map cL (h.acc)))]]⟩ : Blk) ∧ True) ?_ ?_
                                    · unfold r18_15
                                      refine R_mv (@rfl V (iV (15))) ?_
                                      exact R_nil ⟨rfl, h1, trivial⟩
                                    · intro T H ⟨t2, h1, _⟩
                                      refine W_ret ?_
                                      refine y6 _ _ ?_
                                      refine p24 _ _ ?_
                                      refine y3 _ _ ?_
                                      refine Ret_1 t2 (fz_int ?_)
                                      · have e : accE h k = 15 := by rw [accE, if_neg (by omega), if_pos (by omega)]
                                        have e2 : fe (accE h) 0 h.acc.length = accE h k := by rw [hc]; exact fe_hit (by omega) (by omega)
                                        rw [hval, if_neg (by omega), if_neg (by omega), if_pos (by omega)]; omega
                                  ·
                                    refine W_skip ?_
                                    refine n6 _ _ ?_
                                    refine W_regc (fun T H => T 1 = (V.mp 1 1 0 0) ∧ T 4 = (iV ((k + 1 : Nat) : Int)) ∧ H 1 = (⟨1, true, false, 26, 5, [[(iV (h.m.i)), (iV (h.m.s)), (V.sl (List.map cL (h.m.nx))), (V.sl (List.map cL (h.m.ot))), (V.sl (List.map cL (h.acc)))]]⟩ : Blk) ∧ True) ?_ ?_
                                    · unfold r18_8
                                      refine R_mv t4 ?_
                                      refine R_addN (m := k) (n := 1) (@rfl V (iV ((k : Nat) : Int))) (@rfl V (iV ((1 : Nat) : Int))) (by omega) ?_
                                      refine R_mv (@rfl V (iV ((k + 1 : Nat) : Int))) ?_
                                      exact R_nil ⟨t1, rfl, h1, trivial⟩
                                    · intro T H ⟨t1, t4, h1, _⟩
                                      refine p14 _ _ _ ?_ ⟨k+1, rfl, t1, (Eq.trans t4 (by first | rfl | simp)), h1, ?_, ?_, ?_, ?_, ?_⟩
                                      · omega
                                      · omega
                                      · omega
                                      · omega
                                      · omega
                                      · have e : accE h k = 0 := by rw [accE, if_neg (by omega), if_neg (by omega)]
                                        rw [hc]; exact fe_skip e (by omega)
                    ·
                      refine W_seq_exit ?_
                      refine p34 _ _ _ ?_
                      refine x3 _ _ ?_
                      refine W_seq_seq ?_
                      refine W_seq_regc (fun T H => T 64 = (V.bool (decide ((0) < ((((nth (h.acc) (h.m.s).toNat)).length : Nat) : Int)))) ∧ H 1 = (⟨1, true, false, 26, 5, [[(iV (h.m.i)), (iV (h.m.s)), (V.sl (List.map cL (h.m.nx))), (V.sl (List.map cL (h.m.ot))), (V.sl (List.map cL (h.acc)))]]⟩ : Blk) ∧ True) ?_ ?_
                      · unfold r18_16
                        refine R_fld_mp (o' := 4) t1 h1 (by first | rfl | simp [okB, Blk.own]) rfl ?_
                        refine R_load_mp (v := (V.sl (List.map cL (h.acc)))) (@rfl V (V.mp 1 1 0 4)) h1 (by first | rfl | simp [ldB, ldV, Blk.own, V.one]) ?_
                        refine R_fld_mp (o' := 0) t1 h1 (by first | rfl | simp [okB, Blk.own]) rfl ?_
                        refine R_fld_mp (o' := 1) (@rfl V (V.mp 1 1 0 0)) h1 (by first | rfl | simp [okB, Blk.own]) rfl ?_
                        refine R_load_mp (v := (iV (h.m.s))) (@rfl V (V.mp 1 1 0 1)) h1 (by first | rfl | simp [ldB, ldV, Blk.own, V.one]) ?_
                        refine R_idxI (i := (h.m.s)) (@rfl V (V.sl (List.map cL (h.acc)))) (@rfl V (iV (h.m.s))) (by omega) (by omega) rfl ?_
                        refine R_load_pp (v := (V.sl (List.map cI ((nth (h.acc) (h.m.s).toNat))))) (@rfl V (V.pp [(V.sl (List.map cI ((nth (h.acc) (h.m.s).toNat))))])) (by first | rfl | simp [ldV]) ?_
                        refine R_len (@rfl V (V.sl (List.map cI ((nth (h.acc) (h.m.s).toNat))))) ?_
                        refine R_gtr (x := ((((nth (h.acc) (h.m.s).toNat)).length : Nat) : Int)) (y := (0)) (@rfl V (iV ((((nth (h.acc) (h.m.s).toNat)).length : Nat) : Int))) (@rfl V (iV (0))) ?_
                        exact R_nil ⟨rfl, h1, trivial⟩
                      · intro T H ⟨t64, h1, _⟩
                        refine W_seq_if (p := (0) < ((((nth (h.acc) (h.m.s).toNat)).length : Nat) : Int)) t64 (fun c9 => ?_) (fun c9 => ?_)
                        ·
                          refine W_seq_seq ?_
                          refine W_seq_regc (fun T H => T 2 = (iV (10)) ∧ H 1 = (⟨1, true, false, 26, 5, [[(iV (h.m.i)), (iV (h.m.s)), (V.sl (List.map cL (h.m.nx))), (V.sl (List.map cL (h.m.ot))), (V.sl (List.map cL (h.acc)))]]⟩ : Blk) ∧ True) ?_ ?_
                          · unfold r18_17
                            refine R_mv (@rfl V (iV (10))) ?_
                            exact R_nil ⟨rfl, h1, trivial⟩
                          · intro T H ⟨t2, h1, _⟩
                            refine W_seq_ret ?_
                            refine Ret_1 t2 (fz_int ?_)
                            · have e2 : fe (accE h) 0 h.acc.length = 0 := by rw [hc, fe_end (by omega)]
                              rw [hval, if_neg (by omega), if_neg (by omega), if_neg (by omega), if_pos (by omega)]
                        ·
                          refine W_seq_skip ?_
                          refine W_seq_regc (fun T H => T 2 = (iV (0)) ∧ H 1 = (⟨1, true, false, 26, 5, [[(iV (h.m.i)), (iV (h.m.s)), (V.sl (List.map cL (h.m.nx))), (V.sl (List.map cL (h.m.ot))), (V.sl (List.map cL (h.acc)))]]⟩ : Blk) ∧ True) ?_ ?_
                          · unfold r18_18
                            refine R_mv (@rfl V (iV (0))) ?_
                            exact R_nil ⟨rfl, h1, trivial⟩
                          · intro T H ⟨t2, h1, _⟩
                            refine W_ret ?_
                            refine Ret_1 t2 (fz_int ?_)
                            · have e2 : fe (accE h) 0 h.acc.length = 0 := by rw [hc, fe_end (by omega)]
                              rw [hval, if_neg (by omega), if_neg (by omega), if_neg (by omega), if_neg (by omega)]

end Go.Proofs.Ytngkckefanbhgaa

namespace Go.Proofs.Ytngkckefanbhgaa
open Go Go.Proofs

def tab16 : List (Nat × XF) := [(16, ⟨s16, []⟩), (17, ⟨s17, []⟩), (21, ⟨s21, []⟩), (23, ⟨s23, [(59, 7)]⟩), (25, ⟨s25, []⟩), (27, ⟨s27, [(66, 8)]⟩), (29, ⟨s29, []⟩), (37, ⟨s37, []⟩), (55, ⟨s55, []⟩), (56, ⟨s56, []⟩), (63, ⟨s63, []⟩), (64, ⟨s64, []⟩), (65, ⟨s65, []⟩), (66, ⟨s66, []⟩), (68, ⟨s68, []⟩), (69, ⟨s69, []⟩), (76, ⟨s76, []⟩), (77, ⟨s77, []⟩), (93, ⟨s93, []⟩), (94, ⟨s94, []⟩), (98, ⟨s98, []⟩), (99, ⟨s99, []⟩), (100, ⟨s100, []⟩), (101, ⟨s101, []⟩), (104, ⟨s104, []⟩), (105, ⟨s105, []⟩), (106, ⟨s106, []⟩), (113, ⟨s113, []⟩), (114, ⟨s114, []⟩), (120, ⟨s120, []⟩)]
theorem tab16_ok : ∀ p ∈ tab16, Good1 Try.prog p := by
  intro p hp
  simp only [tab16, List.mem_cons, List.not_mem_nil, or_false] at hp
  rcases hp with rfl | rfl | rfl | rfl | rfl | rfl | rfl | rfl | rfl | rfl | rfl | rfl | rfl | rfl | rfl | rfl | rfl | rfl | rfl | rfl | rfl | rfl | rfl | rfl | rfl | rfl | rfl | rfl | rfl | rfl
  · exact ⟨_, _, Try.func16, s16_ok, by kernel_rfl⟩
  · exact ⟨_, _, Try.func17, s17_ok, by kernel_rfl⟩
  · exact ⟨_, _, Try.func21, s21_ok, by kernel_rfl⟩
  · exact ⟨_, _, Try.func23, s23_ok, by kernel_rfl⟩
  · exact ⟨_, _, Try.func25, s25_ok, by kernel_rfl⟩
  · exact ⟨_, _, Try.func27, s27_ok, by kernel_rfl⟩
  · exact ⟨_, _, Try.func29, s29_ok, by kernel_rfl⟩
  · exact ⟨_, _, Try.func37, s37_ok, by kernel_rfl⟩
  · exact ⟨_, _, Try.func55, s55_ok, by kernel_rfl⟩
  · exact ⟨_, _, Try.func56, s56_ok, by kernel_rfl⟩
  · exact ⟨_, _, Try.func63, s63_ok, by kernel_rfl⟩
  · exact ⟨_, _, Try.func64, s64_ok, by kernel_rfl⟩
  · exact ⟨_, _, Try.func65, s65_ok, by kernel_rfl⟩
  · exact ⟨_, _, Try.func66, s66_ok, by kernel_rfl⟩
  · exact ⟨_, _, Try.func68, s68_ok, by kernel_rfl⟩
  · exact ⟨_, _, Try.func69, s69_ok, by kernel_rfl⟩
  · exact ⟨_, _, Try.func76, s76_ok, by kernel_rfl⟩
  · exact ⟨_, _, Try.func77, s77_ok, by kernel_rfl⟩
  · exact ⟨_, _, Try.func93, s93_ok, by kernel_rfl⟩
  · exact ⟨_, _, Try.func94, s94_ok, by kernel_rfl⟩
  · exact ⟨_, _, Try.func98, s98_ok, by kernel_rfl⟩
  · exact ⟨_, _, Try.func99, s99_ok, by kernel_rfl⟩
  · exact ⟨_, _, Try.func100, s100_ok, by kernel_rfl⟩
  · exact ⟨_, _, Try.func101, s101_ok, by kernel_rfl⟩
  · exact ⟨_, _, Try.func104, s104_ok, by kernel_rfl⟩
  · exact ⟨_, _, Try.func105, s105_ok, by kernel_rfl⟩
  · exact ⟨_, _, Try.func106, s106_ok, by kernel_rfl⟩
  · exact ⟨_, _, Try.func113, s113_ok, by kernel_rfl⟩
  · exact ⟨_, _, Try.func114, s114_ok, by kernel_rfl⟩
  · exact ⟨_, _, Try.func120, s120_ok, by kernel_rfl⟩
theorem awake22_pure : PureC Try.prog 16 [] (.bool true) := pure_of_run (Good_of tab16_ok) 400 rfl (by kernel_rfl)

end Go.Proofs.Ytngkckefanbhgaa

namespace Go.Proofs.Ytngkckefanbhgaa
open Go Go.Proofs

theorem law3_pure (h : Hy) : PureC Try.prog 3 [(V.agg [(iV (h.m.i)), (iV (h.m.s)), (V.sl (List.map cL (h.m.nx))), (V.sl (List.map cL (h.m.ot))), (V.sl (List.map cL (h.acc)))])] (V.bool true) := by
  refine pure_of_Wz true 6 Try.func3 s3_ok (by kernel_rfl) (by simp [s3]) (by simp) (by simp) ?_
  unfold s3
  dsimp only
  refine W_seq_regc (fun T H => T 1 = (V.mp 1 1 0 0) ∧ H 1 = (⟨1, true, false, 26, 5, [[(iV (h.m.i)), (iV (h.m.s)), (V.sl (List.map cL (h.m.nx))), (V.sl (List.map cL (h.m.ot))), (V.sl (List.map cL (h.acc)))]]⟩ : Blk) ∧ True) ?_ ?_
  · unfold r3_0
    refine R_box (i := 1) (n := 0) (m := 5) (cs := [(iV (h.m.i)), (iV (h.m.s)), (V.sl (List.map cL (h.m.nx))), (V.sl (List.map cL (h.m.ot))), (V.sl (List.map cL (h.acc)))]) rfl (congrArg Blk.ver rfl) (@rfl V (V.agg [(iV (h.m.i)), (iV (h.m.s)), (V.sl (List.map cL (h.m.nx))), (V.sl (List.map cL (h.m.ot))), (V.sl (List.map cL (h.acc)))])) rfl rfl ?_
    refine R_mv (@rfl V (V.bool false)) ?_
    exact R_nil ⟨rfl, rfl, trivial⟩
  · intro T H ⟨t1, h1, _⟩
    refine W_seq_seq ?_
    refine W_seq_regc (fun T H => T 1 = (V.mp 1 1 0 0) ∧ T 4 = (V.bool (decide ((40 < h.m.nx.length ∨ 40 < h.m.ot.length ∨ 20 < h.m.i) ∨ (200 < h.acc.length ∨ fe (longE h.acc) 0 h.acc.length ≠ 0)))) ∧ H 1 = (⟨1, true, false, 26, 5, [[(iV (h.m.i)), (iV (h.m.s)), (V.sl (List.map cL (h.m.nx))), (V.sl (List.map cL (h.m.ot))), (V.sl (List.map cL (h.acc)))]]⟩ : Blk) ∧ True) ?_ ?_
    · unfold r3_1
      refine R_load_mp (v := (V.agg [(iV (h.m.i)), (iV (h.m.s)), (V.sl (List.map cL (h.m.nx))), (V.sl (List.map cL (h.m.ot))), (V.sl (List.map cL (h.acc)))])) t1 h1 (by first | rfl | simp [ldB, ldV, Blk.own, V.one]) ?_
      refine R_call (evcons (@rfl V (V.agg [(iV (h.m.i)), (iV (h.m.s)), (V.sl (List.map cL (h.m.nx))), (V.sl (List.map cL (h.m.ot))), (V.sl (List.map cL (h.acc)))])) evnil) (great22_pure h) (fzv_mapcanon _ _ (by simp)) (by simp) (Or.inl (by simp)) ?_
      exact R_nil ⟨t1, rfl, h1, trivial⟩
    · intro T H ⟨t1, t4, h1, _⟩
      refine W_seq_if (p := (40 < h.m.nx.length ∨ 40 < h.m.ot.length ∨ 20 < h.m.i) ∨ (200 < h.acc.length ∨ fe (longE h.acc) 0 h.acc.length ≠ 0)) t4 (fun c1 => ?_) (fun c1 => ?_)
      ·
        refine W_seq_seq ?_
        refine W_seq_regc (fun T H => T 2 = (V.bool true) ∧ H 1 = (⟨1, true, false, 26, 5, [[(iV (h.m.i)), (iV (h.m.s)), (V.sl (List.map cL (h.m.nx))), (V.sl (List.map cL (h.m.ot))), (V.sl (List.map cL (h.acc)))]]⟩ : Blk) ∧ True) ?_ ?_
        · unfold r3_2
          refine R_call evnil (awake22_pure) (fzv_mapcanon _ _ (by simp)) (by simp) (Or.inl (by simp)) ?_
          refine R_mv (@rfl V (V.bool true)) ?_
          exact R_nil ⟨rfl, h1, trivial⟩
        · intro T H ⟨t2, h1, _⟩
          refine W_seq_ret ?_
          refine Ret_1 t2 (fz_canon (by simp) rfl)
      ·
        refine W_seq_skip ?_
        refine W_seq_regc (fun T H => T 2 = (V.bool (decide ((hval h) = (hval h)))) ∧ H 1 = (⟨1, true, false, 26, 5, [[(iV (h.m.i)), (iV (h.m.s)), (V.sl (List.map cL (h.m.nx))), (V.sl (List.map cL (h.m.ot))), (V.sl (List.map cL (h.acc)))]]⟩ : Blk) ∧ True) ?_ ?_
        · unfold r3_3
          refine R_load_mp (v := (V.agg [(iV (h.m.i)), (iV (h.m.s)), (V.sl (List.map cL (h.m.nx))), (V.sl (List.map cL (h.m.ot))), (V.sl (List.map cL (h.acc)))])) t1 h1 (by first | rfl | simp [ldB, ldV, Blk.own, V.one]) ?_
          refine R_call (evcons (@rfl V (V.agg [(iV (h.m.i)), (iV (h.m.s)), (V.sl (List.map cL (h.m.nx))), (V.sl (List.map cL (h.m.ot))), (V.sl (List.map cL (h.acc)))])) evnil) (hvalid_pure h) (fzv_mapcanon _ _ (by simp)) (by simp) (Or.inl (by simp)) ?_
          refine R_load_mp (v := (V.agg [(iV (h.m.i)), (iV (h.m.s)), (V.sl (List.map cL (h.m.nx))), (V.sl (List.map cL (h.m.ot))), (V.sl (List.map cL (h.acc)))])) t1 h1 (by first | rfl | simp [ldB, ldV, Blk.own, V.one]) ?_
          refine R_call (evcons (@rfl V (V.agg [(iV (h.m.i)), (iV (h.m.s)), (V.sl (List.map cL (h.m.nx))), (V.sl (List.map cL (h.m.ot))), (V.sl (List.map cL (h.acc)))])) evnil) (rhvalid_pure h) (fzv_mapcanon _ _ (by simp)) (by simp) (Or.inl (by simp)) ?_
          refine R_eql (x := (hval h)) (y := (hval h)) (@rfl V (iV (hval h))) (@rfl V (iV (hval h))) ?_
          refine R_mv (@rfl V (V.bool (decide ((hval h) = (hval h))))) ?_
          refine Ops_seg 2 (fun T H => T 13 = (V.bool (decide ((hval h) = (hval h)))) ∧ H 1 = (⟨1, true, false, 26, 5, [[(iV (h.m.i)), (iV (h.m.s)), (V.sl (List.map cL (h.m.nx))), (V.sl (List.map cL (h.m.ot))), (V.sl (List.map cL (h.acc)))]]⟩ : Blk) ∧ True) ?_ ?_
          · by_cases g2 : (hval h) = (hval h)
            ·
              refine G_yes (Eq.trans (@rfl V (V.bool (decide ((hval h) = (hval h))))) (congrArg V.bool (decide_eq_true g2))) ?_
              refine R_call evnil (awake22_pure) (fzv_mapcanon _ _ (by simp)) (by simp) (Or.inl (by simp)) ?_
              refine R_pickT (Eq.trans (@rfl V (V.bool (decide ((hval h) = (hval h))))) (congrArg V.bool (decide_eq_true g2))) (@rfl V (V.bool true)) ?_
              exact ⟨(Eq.trans (@rfl V (V.bool true)) (dec_T g2)), h1, trivial⟩
            ·
              refine G_no (Eq.trans (@rfl V (V.bool (decide ((hval h) = (hval h))))) (congrArg V.bool (decide_eq_false g2))) (by decide) ?_
              refine R_pickF (Eq.trans (@rfl V (V.bool (decide ((hval h) = (hval h))))) (congrArg V.bool (decide_eq_false g2))) (@rfl V (V.bool false)) ?_
              exact ⟨(Eq.trans (@rfl V (V.bool false)) (dec_F g2)), h1, trivial⟩
          · intro T H ⟨t13, h1, _⟩
            refine R_mv t13 ?_
            exact R_nil ⟨rfl, h1, trivial⟩
        · intro T H ⟨t2, h1, _⟩
          refine W_ret ?_
          refine Ret_1 t2 (fz_bool ?_)
          · simp

end Go.Proofs.Ytngkckefanbhgaa

/-
  From the reading of an argument to an abstract value.
-/
namespace Go.Proofs.Ytngkckefanbhgaa
open Go

theorem choiceL {α : Type} {n : Nat} {p : Nat → α → Prop} (h : ∀ i, i < n → ∃ a, p i a) : ∃ l : List α, l.length = n ∧ ∀ i a, l[i]? = some a → p i a := by
  induction n with
  | zero => exact ⟨[], rfl, fun i a h => by simp at h⟩
  | succ n ih =>
    obtain ⟨l, h1, h2⟩ := ih fun i hi => h i (by omega)
    obtain ⟨b, hb⟩ := h n (by omega)
    refine ⟨l ++ [b], by simp [h1], fun i a hi => ?_⟩
    rw [List.getElem?_append] at hi
    split at hi
    · exact h2 i a hi
    · rename_i hlt
      have e : i = n := by
        have := (List.getElem?_eq_some_iff.1 hi).1
        simp at this; omega
      subst e
      simp [h1] at hi
      subst hi
      exact hb

def tile (P : Program) (all : Nat) : Nat → List Field → Bool
  | off, [] => decide (off = all)
  | off, f :: r => decide (f.offset = off) && tile P all (off + P.cellsOf f.type) r

def okT (P : Program) : Nat → TypeId → Bool
  | 0, _ => false
  | n + 1, t => match P.underlying t with
    | some .bool => true
    | some (.int _) => true
    | some .string => true
    | some (.slice e) => okT P n e && decide (P.cellsOf e ≠ 0)
    | some (.struct fs) => fs.toList.all (fun f => okT P n f.type) && tile P (P.cellsOf t) 0 fs.toList
    | _ => false

def ShpL (S : TypeId → List V → Prop) : List Field → List V → Prop
  | [], vs => vs = []
  | f :: r, vs => ∃ a b, vs = a ++ b ∧ S f.type a ∧ ShpL S r b

def Shp (P : Program) : Nat → TypeId → List V → Prop
  | 0, _, _ => False
  | n + 1, t, vs => match P.underlying t with
    | some .bool => ∃ b, vs = [.bool b]
    | some (.int k) => ∃ m, vs = [.int k m]
    | some .string => ∃ s, vs = [.str s]
    | some (.slice e) => ∃ rows, vs = [.sl rows] ∧ ∀ r ∈ rows, Shp P n e r
    | some (.struct fs) => ShpL (Shp P n) fs.toList vs
    | _ => False

def RC (x : Cx) (vs : List V) (cs : List Value) : Prop := vs.length = cs.length ∧ ∀ j v, vs[j]? = some v → R x v (cs.getD j undef)

theorem RC_append {x : Cx} {a b : List V} {c d : List Value} (h1 : RC x a c) (h2 : RC x b d) : RC x (a ++ b) (c ++ d) := by
  refine ⟨by simp [h1.1, h2.1], fun j v hj => ?_⟩
  rw [List.getElem?_append] at hj
  rw [List.getD_eq_getElem?_getD, List.getElem?_append, ← h1.1]
  split at hj
  · rename_i hlt
    rw [if_pos hlt, ← List.getD_eq_getElem?_getD]; exact h1.2 j v hj
  · rename_i hlt
    rw [if_neg hlt, ← List.getD_eq_getElem?_getD]; exact h2.2 _ v hj

section
variable {H : Type} {enc : TypeId × Value → H} {P : Program} {base : Nat} {spare : Nat → Bool} {held : Bool}

theorem trod_R {x : Cx} (hZ : ∀ b, b < x.w.heap.size → x.Z b) : ∀ (n : Nat) (t : TypeId), okT P n t = true → ∀ (fuel : Nat) (cs : List Value) (y : DataW H × List MemPlace), DataW.trod enc P x.w base spare held fuel t cs = some y →
    ∃ vs, Shp P n t vs ∧ RC x vs cs := by
  intro n
  induction n with
  | zero => intro t h; cases h
  | succ n ih =>
    intro t hok fuel cs y hy
    have one : ∀ {v : V} {c : Value}, R x v c → RC x [v] [c] := fun {v c} h => ⟨rfl, fun j u hj => by
      cases j with
      | zero => simp at hj; subst hj; exact h
      | succ j => simp at hj⟩
    simp only [okT] at hok
    simp only [Shp]
    split at hok
    · rename_i ht
      obtain ⟨b, rfl, _⟩ := DataW.trod_bool ht hy
      exact ⟨[.bool b], ⟨b, rfl⟩, one (.bool b)⟩
    · rename_i k ht
      obtain ⟨m, rfl, _⟩ := DataW.trod_int ht hy
      exact ⟨[.int k m], ⟨m, rfl⟩, one (.int k m)⟩
    · rename_i ht
      obtain ⟨s, rfl, _⟩ := DataW.trod_string ht hy
      exact ⟨[.str s.data.toList], ⟨_, rfl⟩, one (R.str s.data.toList)⟩
    · rename_i e ht
      simp only [Bool.and_eq_true, decide_eq_true_eq] at hok
      obtain ⟨hok, hnz⟩ := hok
      rcases DataW.trod_slice ht hy with ⟨rfl, _⟩ | ⟨a, len, cap, elems, rest, m, _, rfl, _, hb, hl, hc, hlen, hel, _, _⟩
      · exact ⟨[.sl []], ⟨[], rfl, fun r hr => by cases hr⟩, one .slnil⟩
      · have hall : ∀ i, i < len → ∃ r : List V, Shp P n e r ∧ ∃ ci : List Value, x.w.cells? base (a.add (i * P.cellsOf e)) (P.cellsOf e) = some ci ∧ RC x r ci := by
          intro i hi
          have h1 := hel i hi
          rw [List.getElem?_eq_getElem (by omega)] at h1
          cases h2 : x.w.cells? base (a.add (i * P.cellsOf e)) (P.cellsOf e) with
          | none => rw [h2] at h1; cases h1
          | some ci =>
            rw [h2] at h1
            obtain ⟨vs, h3, h4⟩ := ih e hok m ci _ h1
            exact ⟨vs, h3, ci, rfl, h4⟩
        obtain ⟨rows, hrl, hrows⟩ := choiceL hall
        have hcell : ∀ (r : Nat) (row : List V) (j : Nat) (v : V), rows[r]? = some row → row[j]? = some v →
            ∃ c, x.w.cell? (a.add (r * P.cellsOf e + j)) = some c ∧ R x v c := by
          intro r row j v hr hj
          obtain ⟨_, ci, g1, g2⟩ := hrows r row hr
          obtain ⟨_, g4, g5⟩ := World.cells?_some g1
          have hjlt : j < ci.length := by have := (List.getElem?_eq_some_iff.1 hj).1; rw [← g2.1]; exact this
          have g6 := g5 j (by omega)
          rw [List.getElem?_eq_getElem hjlt, Addr.add_add] at g6
          refine ⟨_, g6, ?_⟩
          have := g2.2 j v hj
          rw [List.getD_eq_getElem?_getD, List.getElem?_eq_getElem hjlt] at this
          exact this
        have key := R.sl (x := x) rows a cap (P.cellsOf e) (fun k => (x.w.cell? (a.add k)).getD undef) (by omega) hc ?_ ?_ ?_ ?_
        · rw [hrl] at key
          exact ⟨[.sl rows], ⟨rows, rfl, fun r hr => by obtain ⟨i, hi⟩ := List.getElem?_of_mem hr; exact (hrows i r hi).1⟩, one key⟩
        · intro hne
          cases hrr : rows with
          | nil => exact (hne hrr).elim
          | cons r0 rs =>
            obtain ⟨_, ci, g1, g2⟩ := hrows 0 r0 (by rw [hrr]; rfl)
            · obtain ⟨_, g4, g5⟩ := World.cells?_some g1
              have g6 := g5 0 (by omega)
              rw [List.getElem?_eq_getElem (by omega), Addr.add_add] at g6
              have hlt : (a.add (0 * P.cellsOf e + 0)).block < x.w.heap.size := by
                unfold World.cell? at g6
                split at g6
                · rename_i hh
                  exact (Array.getElem?_eq_some_iff.1 hh).1
                · cases g6
              exact hZ _ (by simpa [Addr.add] using hlt)
        · intro r hr
          obtain ⟨i, hi⟩ := List.getElem?_of_mem hr
          obtain ⟨_, ci, g1, g2⟩ := hrows i r hi
          rw [g2.1]
          exact (World.cells?_some g1).2.1
        · intro r row j v hr hj
          obtain ⟨c, g1, _⟩ := hcell r row j v hr hj
          rw [g1]; rfl
        · intro r row j v hr hj
          obtain ⟨c, g1, g2⟩ := hcell r row j v hr hj
          simp only [g1, Option.getD_some]
          exact g2
    · rename_i fs ht
      simp only [Bool.and_eq_true] at hok
      obtain ⟨xs, m, _, _, hl, hxl, hf⟩ := DataW.trod_struct ht hy
      have hfs : ∀ f ∈ fs.toList, ∃ z, DataW.trod enc P x.w base spare held m f.type ((cs.drop f.offset).take (P.cellsOf f.type)) = some z := by
        intro f hm
        obtain ⟨i, hi⟩ := List.getElem?_of_mem hm
        have hi' : fs[i]? = some f := by simpa using hi
        have hlt : i < xs.length := by
          have := (Array.getElem?_eq_some_iff.1 hi').1
          omega
        exact ⟨xs[i], by rw [hf i f hi', List.getElem?_eq_getElem hlt]⟩
      have hok' := List.all_eq_true.1 hok.1
      have main : ∀ (l : List Field) (off : Nat), (∀ f ∈ l, f ∈ fs.toList) → tile P (P.cellsOf t) off l = true → off ≤ cs.length → ∃ vs, ShpL (Shp P n) l vs ∧ RC x vs (cs.drop off) := by
        intro l
        induction l with
        | nil =>
          intro off _ htl hle
          simp only [tile, decide_eq_true_eq] at htl
          refine ⟨[], rfl, ?_⟩
          rw [List.drop_of_length_le (by omega)]
          exact ⟨rfl, fun j v hj => by simp at hj⟩
        | cons f r ihr =>
          intro off hsub htl hle
          simp only [tile, Bool.and_eq_true, decide_eq_true_eq] at htl
          obtain ⟨z, hz⟩ := hfs f (hsub f (List.mem_cons_self ..))
          obtain ⟨va, g1, g2⟩ := ih f.type (hok' f (hsub f (List.mem_cons_self ..))) _ _ _ hz
          have hoff : off + P.cellsOf f.type ≤ cs.length := by
            rw [hl]
            have : ∀ (l : List Field) (o : Nat), tile P (P.cellsOf t) o l = true → o ≤ P.cellsOf t := by
              intro l
              induction l with
              | nil => intro o h; simp only [tile, decide_eq_true_eq] at h; omega
              | cons f r ih => intro o h; simp only [tile, Bool.and_eq_true, decide_eq_true_eq] at h; have := ih _ h.2; omega
            exact this _ _ htl.2
          obtain ⟨vb, g3, g4⟩ := ihr (off + P.cellsOf f.type) (fun q hq => hsub q (List.mem_cons_of_mem _ hq)) htl.2 hoff
          refine ⟨va ++ vb, ⟨va, vb, rfl, g1, g3⟩, ?_⟩
          have hsplit : cs.drop off = (cs.drop off).take (P.cellsOf f.type) ++ cs.drop (off + P.cellsOf f.type) := by
            rw [← List.drop_drop, List.take_append_drop]
          rw [hsplit]
          rw [htl.1] at g2
          exact RC_append g2 g4
      obtain ⟨vs, g1, g2⟩ := main fs.toList 0 (fun _ h => h) hok.2 (Nat.zero_le _)
      exact ⟨vs, g1, by simpa using g2⟩
    · cases hok
end

end Go.Proofs.Ytngkckefanbhgaa

/-
  The row's step for a law: all arguments are read, the law is called, they read as before.
-/
namespace Go.Proofs.Ytngkckefanbhgaa
open Go Go.ChangeShapes Go.WideShapes Go.ChangeAt Go.RowKit

section
variable {H : Type} {enc : TypeId × Value → H} {P : Program}

theorem post_of_below {f : Func} {s : ChangeSpec} {apart fresh handsOn again : Bool} {W W' : World} {args : Array Value} {v : Value} {ds gs : List (DataW H)} {before pa pv : List MemPlace}
    (hW : DataW.Whole enc P f.params.toList s.vars apart W args.toList ds gs before)
    (hres : ∀ (b : Nat) (sp : Nat → Bool) (hd : Bool), DataW.TrodAll enc P W' b sp hd f.resultTypes.toList (v.resultList f.resultTypes.size) (s.fn H (ds ++ gs)).results [])
    (hargs : ∀ sp : Nat → Bool, (∀ p ∈ before, sp p.block = true) → DataW.TrodAll enc P W' 0 sp true f.params.toList args.toList (s.fn H (ds ++ gs)).args pa)
    (hvars : ∀ sp : Nat → Bool, (∀ p ∈ before, sp p.block = true) → DataW.TrodVars enc P W' sp s.vars (s.fn H (ds ++ gs)).vars pv)
    (hps : before = pa ++ pv) (hb : Below W.heap.size W W')
    (hok : ∀ (j : Nat) (t : TypeId) (r : Value), f.resultTypes[j]? = some t → (v.resultList f.resultTypes.size)[j]? = some r → Value.okWide P W' .any 0 t r) :
    s.post enc P f apart fresh handsOn again W args v W' := by
  have hold : ∀ p ∈ before, (fun b => decide (b < W.heap.size)) p.block = true := fun p hp => by simpa using hW.lt p hp
  refine ⟨ds, gs, before, [], pa, pv, hW, hres _ _ _, hargs _ hold, hvars _ hold, World.keptBut_mono (fun p hp => ⟨hp, ?_⟩) (hb.frame (· ∈ before)), fun _ => ?_⟩
  · rw [hps, List.mem_append] at hp
    exact Or.inr hp
  · have hlt := hW.lt
    obtain ⟨_, _, _, _, _, hz, hn⟩ := hW
    refine ⟨hok, _, _, ([] ++ pa) ++ pv, ⟨[] ++ pa, pv, trodAll_append (hargs _ (fun _ _ => rfl)) (hres _ _ _), hvars _ (fun _ _ => rfl), rfl, ?_, ?_⟩, ?_⟩
    · intro b off hp
      have hp' : MemPlace.cell b off ∈ before := by rw [hps]; simpa using hp
      rw [hb.frozen (hlt _ hp')]
      exact hz b off hp'
    · intro ha
      have := hn ha
      rw [hps] at this
      simpa using this
    · intro p hp _
      rw [hps]
      simpa using hp

/-- A frame over a start that owns nothing. -/
theorem below_of_frame {x y : Cx} {w : World} (h : Frame x y) (hx : ∀ id, (x.H id).own = false) (hw : x.w = w) : Below w.heap.size w y.w := by
  subst hw
  exact ⟨h.os, h.tape, h.output, h.size, fun k hk => h.keep k hk fun id ho => by rw [hx id] at ho; cases ho⟩

/-- The value of a type whose cells are vs. -/
def packV (P : Program) (t : TypeId) (vs : List V) : V := match P.underlying t with
  | some (.struct _) => .agg vs
  | _ => vs.headD undefV

theorem RC_one {x : Cx} {vs : List V} {c : Value} (h : RC x vs [c]) : R x (vs.headD undefV) c := by
  obtain ⟨h1, h2⟩ := h
  cases vs with
  | nil => simp at h1
  | cons u l => exact h2 0 u rfl

theorem open_R {x : Cx} (hZ : ∀ b, b < x.w.heap.size → x.Z b) {n : Nat} {t : TypeId} (hok : okT P n t = true) {r : Reach} {b0 base : Nat} {spare : Nat → Bool} {held : Bool} {v : Value} {d : DataW H} {ps : List MemPlace}
    (hval : Value.okWide P x.w r b0 t v) (hd : DataW.Trod enc P x.w base spare held t v d ps) : ∃ vs, Shp P n t vs ∧ R x (packV P t vs) v := by
  obtain ⟨fuel, hf⟩ := hd
  obtain ⟨vs, h1, h2⟩ := trod_R hZ n t hok fuel _ _ hf
  refine ⟨vs, h1, ?_⟩
  unfold packV
  cases n with
  | zero => cases hok
  | succ n =>
    simp only [okT] at hok
    split at hok
    · rename_i ht
      obtain ⟨b, rfl⟩ := okWide_bool ht hval
      rw [ht]; exact RC_one h2
    · rename_i k ht
      obtain ⟨m, rfl⟩ := okWide_int ht hval
      rw [ht]; exact RC_one h2
    · rename_i ht
      obtain ⟨s, rfl⟩ := okWide_string ht hval
      rw [ht]; exact RC_one h2
    · rename_i e ht
      obtain ⟨a, l, c, rfl⟩ := okWide_slice ht hval
      rw [ht]; exact RC_one h2
    · rename_i fs ht
      obtain ⟨cs, rfl, _⟩ := okWide_struct ht hval
      rw [ht]
      refine .agg vs cs (by have := h2.1; simp [Value.cells] at this; omega) fun j u hj => ?_
      have := h2.2 j u hj
      rw [List.getD_eq_getElem?_getD] at this
      rw [Array.getD_eq_getD_getElem?, ← Array.getElem?_toList]
      exact this
    · cases hok

/-- Several arguments. -/
def ShpA (P : Program) (n : Nat) : List TypeId → List V → Prop
  | [], vs => vs = []
  | t :: ts, vs => ∃ a b, vs = packV P t a :: b ∧ Shp P n t a ∧ ShpA P n ts b

theorem open_all {x : Cx} (hZ : ∀ b, b < x.w.heap.size → x.Z b) {n : Nat} {r : Reach} {b0 base : Nat} {spare : Nat → Bool} {held : Bool} : ∀ (ts : List TypeId) (vs : List Value) (ds : List (DataW H)) (ps : List MemPlace),
    (∀ t ∈ ts, okT P n t = true) → (∀ (j : Nat) t v, ts[j]? = some t → vs[j]? = some v → Value.okWide P x.w r b0 t v) → DataW.TrodAll enc P x.w base spare held ts vs ds ps →
    ∃ us, ShpA P n ts us ∧ RL x us vs
  | [], vs, ds, ps, _, _, h => by
    obtain ⟨rfl, rfl, rfl⟩ := trodAll_nil h
    exact ⟨[], rfl, rfl, fun j v hj => by simp at hj⟩
  | t :: ts, vs, ds, ps, hok, hval, h => by
    obtain ⟨v, vs1, d, ds1, a, b, rfl, rfl, rfl, h1, h2⟩ := trodAll_cons h
    obtain ⟨ws, g1, g2⟩ := open_R hZ (hok t (List.mem_cons_self ..)) (hval 0 t v rfl rfl) h1
    obtain ⟨us, g3, g4⟩ := open_all hZ ts vs1 ds1 b (fun q hq => hok q (List.mem_cons_of_mem _ hq)) (fun j q u hq hu => hval (j + 1) q u (by simpa using hq) (by simpa using hu)) h2
    refine ⟨packV P t ws :: us, ⟨ws, us, rfl, g1, g3⟩, by simp [g4.1], fun j u hj => ?_⟩
    cases j with
    | zero => simp at hj; subst hj; exact g2
    | succ j => exact g4.2 j u (by simpa using hj)

theorem trodAll_stays (hl : laidOutB P = true) {W W' : World} (hb : Below W.heap.size W W') {sp : Nat → Bool} : ∀ (ts : List TypeId) (vs : List Value) (ds : List (DataW H)) (ps : List MemPlace),
    (∀ t ∈ ts, P.readableRec t = true ∧ t < P.types.size) → DataW.TrodAll enc P W 0 (fun _ => true) true ts vs ds ps → (∀ p ∈ ps, p.block < W.heap.size) → (∀ p ∈ ps, sp p.block = true) → DataW.TrodAll enc P W' 0 sp true ts vs ds ps
  | [], vs, ds, ps, _, h, _, _ => by
    obtain ⟨rfl, rfl, rfl⟩ := trodAll_nil h
    exact h
  | t :: ts, vs, ds, ps, hr, h, hlt, hsp => by
    obtain ⟨v, vs1, d, ds1, a, b, rfl, rfl, rfl, h1, h2⟩ := trodAll_cons h
    refine ⟨a, b, WideElems.Trod_stays hl (hr t (List.mem_cons_self ..)).1 (hr t (List.mem_cons_self ..)).2 h1 (fun p hp => hb.same (hlt p (List.mem_append_left _ hp))) (fun p hp => hsp p (List.mem_append_left _ hp)),
      trodAll_stays hl hb ts vs1 ds1 b (fun q hq => hr q (List.mem_cons_of_mem _ hq)) h2 (fun p hp => hlt p (List.mem_append_right _ hp)) (fun p hp => hsp p (List.mem_append_right _ hp)), rfl⟩

/-- THE STEP OF A LAW: it returns true, and all reads as before. -/
theorem law_post {f : FuncId} {fn : Func} {s : ChangeSpec} {apart fresh handsOn again : Bool} {n tb : Nat} {W : World} {args : Array Value} {ds gs : List (DataW H)} {before : List MemPlace}
    (hl : laidOutB P = true) (hres : fn.resultTypes = #[tb]) (htb : P.underlying tb = some .bool) (hts : ∀ t ∈ fn.params.toList, okT P n t = true ∧ P.readableRec t = true ∧ t < P.types.size)
    (hvars : s.vars = []) (hs : s.fn H (ds ++ gs) = { results := [.lit (.bool true)], args := ds })
    (hlaw : ∀ us, ShpA P n fn.params.toList us → PureC P f us (.bool true))
    (hval : ∀ (j : Nat) t v, fn.params[j]? = some t → args[j]? = some v → Value.okWide P W .any 0 t v)
    (hW : DataW.Whole enc P fn.params.toList s.vars apart W args.toList ds gs before) :
    Calls P f args W fun e W' => ∃ v, e = .returned v ∧ s.post enc P fn apart fresh handsOn again W args v W' := by
  have hW' := hW
  obtain ⟨p, q, hA, hV, rfl, hfz, hnd⟩ := hW
  rw [hvars] at hV
  obtain ⟨rfl, rfl⟩ := trodVars_none hV
  have hlt := hW'.lt
  let x : Cx := start { w := W, Z := fun b => b < W.heap.size, σ := fun _ => 0, H := H0 } (fun b => b < W.heap.size)
  have hx : Inv x := start_ok fun b hb => hb
  obtain ⟨us, g1, g2⟩ := open_all (x := x) (fun b hb => hb) fn.params.toList args.toList ds p (fun t ht => (hts t ht).1) (fun j t v h1 h2 => hval j t v (by simpa using h1) (by simpa using h2)) hA
  have hc := (hlaw us g1 H0).2 x args.toList rfl hx g2
  rw [Array.toArray_toList] at hc
  refine Calls.mono (show Calls P f args W _ from hc) fun e W' h => ?_
  obtain ⟨c, y, rfl, rfl, h3, h4, h5, h6⟩ := h
  cases h5
  have hb : Below W.heap.size W y.w := below_of_frame h6 (fun _ => rfl) rfl
  refine ⟨_, rfl, post_of_below (pa := p) (pv := []) hW' (fun b sp hd => ?_) (fun sp hsp => ?_) (fun sp _ => ?_) (by simp) hb ?_⟩
  · rw [hs, hres]
    exact trodAll_mk1 (shut_bool htb true)
  · rw [hs]
    exact trodAll_stays hl hb _ _ _ _ (fun t ht => (hts t ht).2) hA (fun z hz => hlt z (by simpa using hz)) (fun z hz => hsp z (by simpa using hz))
  · rw [hs, hvars]; rfl
  · exact ok_one hres rfl (okWide_bool_mk htb true)
end
end Go.Proofs.Ytngkckefanbhgaa

namespace Go.Proofs.Ytngkckefanbhgaa
open Go Go.Proofs Go.Proofs.Ytngkckefanbhgaa Go.ChangeShapes Go.WideShapes Go.ChangeAt Go.RowKit

theorem rows_map {α : Type} {f : α → List V} : ∀ {rows : List (List V)}, (∀ r ∈ rows, ∃ a, r = f a) → ∃ l : List α, rows = l.map f
  | [], _ => ⟨[], rfl⟩
  | r :: rows, h => by
    obtain ⟨a, ha⟩ := h r (List.mem_cons_self ..)
    obtain ⟨l, hl⟩ := rows_map (rows := rows) fun q hq => h q (List.mem_cons_of_mem _ hq)
    exact ⟨a :: l, by rw [ha, hl]; rfl⟩
theorem shp_int {P : Program} {n t : Nat} {vs : List V} (ht : P.underlying t = some (.int .i64)) (h : Shp P (n + 1) t vs) : ∃ m : Int, vs = cI m := by
  simp only [Shp, ht] at h; exact h
theorem shp_ints {P : Program} {n t e : Nat} {vs : List V} (ht : P.underlying t = some (.slice e)) (he : P.underlying e = some (.int .i64)) (h : Shp P (n + 2) t vs) : ∃ l : List Int, vs = cL l := by
  simp only [Shp, ht] at h
  obtain ⟨rows, rfl, hr⟩ := h
  obtain ⟨l, rfl⟩ := rows_map (f := cI) fun r h => shp_int (n := n) he (by exact hr r h)
  exact ⟨l, rfl⟩
theorem shp_intss {P : Program} {n t e u : Nat} {vs : List V} (ht : P.underlying t = some (.slice e)) (he : P.underlying e = some (.slice u)) (hu : P.underlying u = some (.int .i64)) (h : Shp P (n + 3) t vs) : ∃ l : List (List Int), vs = [intss l] := by
  simp only [Shp, ht] at h
  obtain ⟨rows, rfl, hr⟩ := h
  obtain ⟨l, rfl⟩ := rows_map (f := cL) fun r h => shp_ints (n := n) he hu (by exact hr r h)
  exact ⟨l, rfl⟩

theorem u3 : Try.prog.underlying 3 = some (.int .i64) := by kernel_rfl
theorem u35 : Try.prog.underlying 35 = some (.slice 3) := by kernel_rfl
theorem u22 : Try.prog.underlying 22 = some (.slice 35) := by kernel_rfl

theorem shp_step {P : Program} {n t : Nat} {vs : List V} {fs : Array Field} (ht : P.underlying t = some (.struct fs)) (h : Shp P (n + 1) t vs) : ShpL (Shp P n) fs.toList vs := by
  simp only [Shp, ht] at h; exact h
theorem shpL4 {S : TypeId → List V → Prop} {f1 f2 f3 f4 : Field} {vs : List V} (h : ShpL S [f1, f2, f3, f4] vs) : ∃ a b c d, vs = a ++ (b ++ (c ++ d)) ∧ S f1.type a ∧ S f2.type b ∧ S f3.type c ∧ S f4.type d := by
  obtain ⟨a, r1, rfl, h1, b, r2, rfl, h2, c, r3, rfl, h3, d, r4, rfl, h4, rfl⟩ := h
  exact ⟨a, b, c, d, by simp, h1, h2, h3, h4⟩
theorem shpL2 {S : TypeId → List V → Prop} {f1 f2 : Field} {vs : List V} (h : ShpL S [f1, f2] vs) : ∃ a b, vs = a ++ b ∧ S f1.type a ∧ S f2.type b := by
  obtain ⟨a, r1, rfl, h1, b, r2, rfl, h2, rfl⟩ := h
  exact ⟨a, b, by simp, h1, h2⟩
theorem shp_M' {P : Program} {n : Nat} {vs : List V} {f1 f2 f3 f4 : Field} (u24 : P.underlying 24 = some (.struct #[f1, f2, f3, f4])) (e1 : f1.type = 3) (e2 : f2.type = 3) (e3 : f3.type = 22) (e4 : f4.type = 22)
    (u3 : P.underlying 3 = some (.int .i64)) (u35 : P.underlying 35 = some (.slice 3)) (u22 : P.underlying 22 = some (.slice 35)) (h : Shp P (n + 4) 24 vs) : ∃ m : M, vs = mC m := by
  obtain ⟨a, b, c, d, e, h1, h2, h3, h4⟩ := shpL4 (shp_step u24 h)
  rw [e1] at h1; rw [e2] at h2; rw [e3] at h3; rw [e4] at h4
  obtain ⟨i, g1⟩ := shp_int (n := n + 2) u3 h1
  obtain ⟨s, g2⟩ := shp_int (n := n + 2) u3 h2
  obtain ⟨nx, g3⟩ := shp_intss (n := n) u22 u35 u3 h3
  obtain ⟨ot, g4⟩ := shp_intss (n := n) u22 u35 u3 h4
  exact ⟨⟨i, s, nx, ot⟩, by rw [e, g1, g2, g3, g4]; rfl⟩
theorem shp_Hy' {P : Program} {n : Nat} {vs : List V} {f1 f2 f3 f4 k1 k2 : Field} (u26 : P.underlying 26 = some (.struct #[k1, k2])) (d1 : k1.type = 24) (d2 : k2.type = 22) (u24 : P.underlying 24 = some (.struct #[f1, f2, f3, f4])) (e1 : f1.type = 3) (e2 : f2.type = 3) (e3 : f3.type = 22) (e4 : f4.type = 22)
    (u3 : P.underlying 3 = some (.int .i64)) (u35 : P.underlying 35 = some (.slice 3)) (u22 : P.underlying 22 = some (.slice 35)) (h : Shp P (n + 5) 26 vs) : ∃ q : Hy, vs = hC q := by
  obtain ⟨a, b, e, h1, h2⟩ := shpL2 (shp_step u26 h)
  rw [d1] at h1; rw [d2] at h2
  obtain ⟨m, g1⟩ := shp_M' (n := n) u24 e1 e2 e3 e4 u3 u35 u22 h1
  obtain ⟨acc, g2⟩ := shp_intss (n := n + 1) u22 u35 u3 h2
  exact ⟨⟨m, acc⟩, by rw [e, g1, g2]; rfl⟩

theorem pack_struct {P : Program} {t : Nat} {fs : Array Field} (ht : P.underlying t = some (.struct fs)) (vs : List V) : packV P t vs = .agg vs := by
  unfold packV; rw [ht]
theorem shpA1 {P : Program} {n t : Nat} {us : List V} (h : ShpA P n [t] us) : ∃ a, us = [packV P t a] ∧ Shp P n t a := by
  obtain ⟨a, b, e1, h1, e2⟩ := h
  exact ⟨a, by rw [e1, e2], h1⟩
theorem args3' {P : Program} {n : Nat} {us : List V} {f1 f2 f3 f4 k1 k2 : Field} (u26 : P.underlying 26 = some (.struct #[k1, k2])) (d1 : k1.type = 24) (d2 : k2.type = 22) (u24 : P.underlying 24 = some (.struct #[f1, f2, f3, f4])) (e1 : f1.type = 3) (e2 : f2.type = 3) (e3 : f3.type = 22) (e4 : f4.type = 22)
    (u3 : P.underlying 3 = some (.int .i64)) (u35 : P.underlying 35 = some (.slice 3)) (u22 : P.underlying 22 = some (.slice 35)) (h : ShpA P (n + 5) [26] us) : ∃ q : Hy, us = [hV q] := by
  obtain ⟨a, e, h1⟩ := shpA1 h
  obtain ⟨q, g1⟩ := shp_Hy' (n := n) u26 d1 d2 u24 e1 e2 e3 e4 u3 u35 u22 h1
  exact ⟨q, by rw [e, g1, pack_struct u26]⟩

theorem own3 : ownKnob Try.prog.godebug = none := by kernel_rfl

set_option maxRecDepth 100000 in
theorem lifted3 (os : Os) (started : os.Started) (H : Type) (enc : TypeId × Value → H) :
    ReturnsInHanded {} Try.checked os 3 .any (Rows.hypothesisValidSpec.pre6 enc Try.prog Try.f3 Rows.hypothesisValidRow.domain false) (Rows.hypothesisValidSpec.post enc Try.prog Try.f3 false true false false) := by
  refine returnsInHanded_of_change (C := Try.checked) own3 started (by kernel_rfl) Try.func3
    (ChangeSpec.witness6 (enc := enc) (C := Try.checked) false ⟨#[], #[.agg #[.int .i64 0, .int .i64 0, .slice none 0 0, .slice none 0 0, .slice none 0 0]], []⟩ 8 (by kernel_rfl) (by kernel_rfl) (by kernel_rfl) (by kernel_rfl)) ?_
  intro W base args ds gs before hval0 hW hcnd _

  refine law_post (n := 3 + 5) (tb := 4) (by kernel_rfl) (by kernel_rfl) (by kernel_rfl) (fun t ht => ?_) rfl ?_ (fun us hu => ?_) hval0 hW
  · have e : t = 26 := by have h : t ∈ [26] := ht; simpa using h
    subst e
    exact ⟨by kernel_rfl, by kernel_rfl, of_decide_eq_true (by kernel_rfl)⟩
  · obtain ⟨p, q, hA, hV, rfl, hfz, hnd⟩ := hW
    obtain ⟨rfl, rfl⟩ := trodVars_none hV
    obtain ⟨v0, d0, _, rfl, _⟩ := trodAll_one (t := 26) hA
    rfl
  · obtain ⟨q, rfl⟩ := args3' (P := Try.prog) (n := 3) Try.underlying26 rfl rfl Try.underlying24 rfl rfl rfl rfl u3 u35 u22 hu
    exact law3_pure q

theorem proved3 : Rows.HypothesisValidSaid :=
  OpenClaim.holds_of_wide 3 Try.f3 rfl rfl rfl rfl rfl rfl rfl ⟨rfl, rfl, rfl, rfl, rfl⟩ rfl rfl rfl rfl rfl (by kernel_rfl) Try.func3 (by kernel_rfl)
    (of_decide_eq_true (by kernel_rfl)) (by unfold Func.isWrapper; first | (rw [if_pos (by decide +kernel)]; kernel_rfl) | (rw [if_neg (by decide +kernel)]; exact ⟨rfl, rfl⟩))
    (fun os started H enc _ => lifted3 os started H enc)

end Go.Proofs.Ytngkckefanbhgaa

