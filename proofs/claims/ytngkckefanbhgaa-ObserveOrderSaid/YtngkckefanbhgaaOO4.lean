/- Contracts of the functions that the law OO reaches, and the law itself, for every input; no condition. -/
import Derived.KernelRfl
import Derived.Test.YtngkckefanbhgaaRows
import Derived.Test.YtngkckefanbhgaaOO3
set_option linter.unusedSimpArgs false
set_option linter.unusedVariables false
namespace Go.Proofs.Ytngkckefanbhgaa
open Go Go.Proofs
theorem law12_pure (o : Ob) (s t : Tr) : PureC Try.prog 12 [(V.agg [(iV (o.i)), (V.sl (List.map cT (o.tr)))]), (V.agg [(V.sl (List.map cI (s.ni))), (V.sl (List.map cI (s.no)))]), (V.agg [(V.sl (List.map cI (t.ni))), (V.sl (List.map cI (t.no)))])] (V.bool true) := by
 refine pure_of_Wb true 6 Try.func12 s12_ok (by kernel_rfl) (by simp [s12]) (by simp) (by simp) fun hB => ?_
 simp only [bnd_map, bnd_int, bnd_bool, bnd_str, bnd_agg, bnd_pp, bnd_nil, bnd_cons, implies_true, and_true, true_and] at hB
 unfold s12
 dsimp only
 refine W_seq_regc (fun T H => T 3 = (V.mp 3 1 0 0) ∧ T 4 = (V.mp 4 1 0 0) ∧ T 5 = (V.mp 5 1 0 0) ∧ H 3 = (⟨1, true, false, 34, 2, [[(iV (o.i)), (V.sl (List.map cT (o.tr)))]]⟩ : Blk) ∧ H 4 = (⟨1, true, false, 63, 2, [[(V.sl (List.map cI (s.ni))), (V.sl (List.map cI (s.no)))]]⟩ : Blk) ∧ H 5 = (⟨1, true, false, 63, 2, [[(V.sl (List.map cI (t.ni))), (V.sl (List.map cI (t.no)))]]⟩ : Blk) ∧ H 7 = (⟨0, false, false, 0, 0, []⟩ : Blk) ∧ H 10 = (⟨0, false, false, 0, 0, []⟩ : Blk) ∧ H 13 = (⟨0, false, false, 0, 0, []⟩ : Blk) ∧ True) ?_ ?_
 ·
  unfold r12_0
  refine R_box (i := 3) (n := 0) (m := 2) (cs := [(iV (o.i)), (V.sl (List.map cT (o.tr)))]) rfl (congrArg Blk.ver rfl) (@rfl V (V.agg [(iV (o.i)), (V.sl (List.map cT (o.tr)))])) rfl rfl ?_
  refine R_box (i := 4) (n := 0) (m := 2) (cs := [(V.sl (List.map cI (s.ni))), (V.sl (List.map cI (s.no)))]) rfl (congrArg Blk.ver rfl) (@rfl V (V.agg [(V.sl (List.map cI (s.ni))), (V.sl (List.map cI (s.no)))])) rfl rfl ?_
  refine R_box (i := 5) (n := 0) (m := 2) (cs := [(V.sl (List.map cI (t.ni))), (V.sl (List.map cI (t.no)))]) rfl (congrArg Blk.ver rfl) (@rfl V (V.agg [(V.sl (List.map cI (t.ni))), (V.sl (List.map cI (t.no)))])) rfl rfl ?_
  refine R_mv (@rfl V (V.bool false)) ?_
  exact R_nil ⟨rfl, rfl, rfl, rfl, rfl, rfl, rfl, rfl, rfl, trivial⟩
 intro T H ⟨t3, t4, t5, h3, h4, h5, h7, h10, h13, _⟩
 refine W_seq_seq ?_
 refine W_seq_regc (fun T H => T 3 = (V.mp 3 1 0 0) ∧ T 4 = (V.mp 4 1 0 0) ∧ T 5 = (V.mp 5 1 0 0) ∧ T 34 = (V.bool (decide ((((ogr o) ∨ ((1100 : Int) < (s.ni.length : Nat) ∨ (1100 : Int) < (s.no.length : Nat))) ∨ ((1100 : Int) < (t.ni.length : Nat) ∨ (1100 : Int) < (t.no.length : Nat))) ∨ ((oval o) ≠ (0 : Int))))) ∧ H 3 = (⟨1, true, false, 34, 2, [[(iV (o.i)), (V.sl (List.map cT (o.tr)))]]⟩ : Blk) ∧ H 4 = (⟨1, true, false, 63, 2, [[(V.sl (List.map cI (s.ni))), (V.sl (List.map cI (s.no)))]]⟩ : Blk) ∧ H 5 = (⟨1, true, false, 63, 2, [[(V.sl (List.map cI (t.ni))), (V.sl (List.map cI (t.no)))]]⟩ : Blk) ∧ H 7 = (⟨0, false, false, 0, 0, []⟩ : Blk) ∧ H 10 = (⟨0, false, false, 0, 0, []⟩ : Blk) ∧ H 13 = (⟨0, false, false, 0, 0, []⟩ : Blk) ∧ True) ?_ ?_
 ·
  unfold r12_1
  refine R_load_mp (v := (V.agg [(iV (o.i)), (V.sl (List.map cT (o.tr)))])) t3 h3 (by first | rfl | simp [ldB, ldV, Blk.own, V.one]) ?_
  refine R_call (evcons (@rfl V (V.agg [(iV (o.i)), (V.sl (List.map cT (o.tr)))])) evnil) (great16_pure o) (fzv_mapcanon _ _ (by simp [-List.map_take, -List.map_drop, -List.map_append, -List.map_reverse])) (by simp [-List.map_take, -List.map_drop, -List.map_append, -List.map_reverse]) (Or.inl (by simp [-List.map_take, -List.map_drop, -List.map_append, -List.map_reverse])) ?_
  refine R_mv (@rfl V (V.bool (decide (ogr o)))) ?_
  refine Ops_seg 3 (fun T H => T 3 = (V.mp 3 1 0 0) ∧ T 4 = (V.mp 4 1 0 0) ∧ T 5 = (V.mp 5 1 0 0) ∧ T 25 = (V.bool (decide ((ogr o) ∨ ((1100 : Int) < (s.ni.length : Nat) ∨ (1100 : Int) < (s.no.length : Nat))))) ∧ H 3 = (⟨1, true, false, 34, 2, [[(iV (o.i)), (V.sl (List.map cT (o.tr)))]]⟩ : Blk) ∧ H 4 = (⟨1, true, false, 63, 2, [[(V.sl (List.map cI (s.ni))), (V.sl (List.map cI (s.no)))]]⟩ : Blk) ∧ H 5 = (⟨1, true, false, 63, 2, [[(V.sl (List.map cI (t.ni))), (V.sl (List.map cI (t.no)))]]⟩ : Blk) ∧ H 7 = (⟨0, false, false, 0, 0, []⟩ : Blk) ∧ H 10 = (⟨0, false, false, 0, 0, []⟩ : Blk) ∧ H 13 = (⟨0, false, false, 0, 0, []⟩ : Blk) ∧ True) ?_ ?_
  ·
   by_cases g1 : ogr o
   ·
    refine G_no (Eq.trans (@rfl V (V.bool (decide (ogr o)))) (bdT g1)) (by decide) ?_
    refine G_no (Eq.trans (@rfl V (V.bool (decide (ogr o)))) (bdT g1)) (by decide) ?_
    refine R_pickT (Eq.trans (@rfl V (V.bool (decide (ogr o)))) (bdT g1)) (@rfl V (V.bool true)) ?_
    exact ⟨t3, t4, t5, (Eq.trans (@rfl V (V.bool true)) (dec_orT g1)), h3, h4, h5, h7, h10, h13, trivial⟩
   ·
    refine G_yes (Eq.trans (@rfl V (V.bool (decide (ogr o)))) (bdF g1)) ?_
    refine R_load_mp (v := (V.agg [(V.sl (List.map cI (s.ni))), (V.sl (List.map cI (s.no)))])) t4 h4 (by first | rfl | simp [ldB, ldV, Blk.own, V.one]) ?_
    refine G_yes (Eq.trans (@rfl V (V.bool (decide (ogr o)))) (bdF g1)) ?_
    refine R_call (evcons (@rfl V (V.agg [(V.sl (List.map cI (s.ni))), (V.sl (List.map cI (s.no)))])) evnil) (long16_pure s) (fzv_mapcanon _ _ (by simp [-List.map_take, -List.map_drop, -List.map_append, -List.map_reverse])) (by simp [-List.map_take, -List.map_drop, -List.map_append, -List.map_reverse]) (Or.inl (by simp [-List.map_take, -List.map_drop, -List.map_append, -List.map_reverse])) ?_
    refine R_pickF (Eq.trans (@rfl V (V.bool (decide (ogr o)))) (bdF g1)) (@rfl V (V.bool (decide ((1100 : Int) < (s.ni.length : Nat) ∨ (1100 : Int) < (s.no.length : Nat))))) ?_
    exact ⟨t3, t4, t5, (Eq.trans (@rfl V (V.bool (decide ((1100 : Int) < (s.ni.length : Nat) ∨ (1100 : Int) < (s.no.length : Nat))))) (dec_orF g1)), h3, h4, h5, h7, h10, h13, trivial⟩
  intro T H ⟨t3, t4, t5, t25, h3, h4, h5, h7, h10, h13, _⟩
  refine R_mv t25 ?_
  refine Ops_seg 3 (fun T H => T 3 = (V.mp 3 1 0 0) ∧ T 4 = (V.mp 4 1 0 0) ∧ T 5 = (V.mp 5 1 0 0) ∧ T 29 = (V.bool (decide (((ogr o) ∨ ((1100 : Int) < (s.ni.length : Nat) ∨ (1100 : Int) < (s.no.length : Nat))) ∨ ((1100 : Int) < (t.ni.length : Nat) ∨ (1100 : Int) < (t.no.length : Nat))))) ∧ H 3 = (⟨1, true, false, 34, 2, [[(iV (o.i)), (V.sl (List.map cT (o.tr)))]]⟩ : Blk) ∧ H 4 = (⟨1, true, false, 63, 2, [[(V.sl (List.map cI (s.ni))), (V.sl (List.map cI (s.no)))]]⟩ : Blk) ∧ H 5 = (⟨1, true, false, 63, 2, [[(V.sl (List.map cI (t.ni))), (V.sl (List.map cI (t.no)))]]⟩ : Blk) ∧ H 7 = (⟨0, false, false, 0, 0, []⟩ : Blk) ∧ H 10 = (⟨0, false, false, 0, 0, []⟩ : Blk) ∧ H 13 = (⟨0, false, false, 0, 0, []⟩ : Blk) ∧ True) ?_ ?_
  ·
   by_cases g2 : (ogr o) ∨ ((1100 : Int) < (s.ni.length : Nat) ∨ (1100 : Int) < (s.no.length : Nat))
   ·
    refine G_no (Eq.trans (@rfl V (V.bool (decide ((ogr o) ∨ ((1100 : Int) < (s.ni.length : Nat) ∨ (1100 : Int) < (s.no.length : Nat)))))) (bdT g2)) (by decide) ?_
    refine G_no (Eq.trans (@rfl V (V.bool (decide ((ogr o) ∨ ((1100 : Int) < (s.ni.length : Nat) ∨ (1100 : Int) < (s.no.length : Nat)))))) (bdT g2)) (by decide) ?_
    refine R_pickT (Eq.trans (@rfl V (V.bool (decide ((ogr o) ∨ ((1100 : Int) < (s.ni.length : Nat) ∨ (1100 : Int) < (s.no.length : Nat)))))) (bdT g2)) (@rfl V (V.bool true)) ?_
    exact ⟨t3, t4, t5, (Eq.trans (@rfl V (V.bool true)) (dec_orT g2)), h3, h4, h5, h7, h10, h13, trivial⟩
   ·
    refine G_yes (Eq.trans (@rfl V (V.bool (decide ((ogr o) ∨ ((1100 : Int) < (s.ni.length : Nat) ∨ (1100 : Int) < (s.no.length : Nat)))))) (bdF g2)) ?_
    refine R_load_mp (v := (V.agg [(V.sl (List.map cI (t.ni))), (V.sl (List.map cI (t.no)))])) t5 h5 (by first | rfl | simp [ldB, ldV, Blk.own, V.one]) ?_
    refine G_yes (Eq.trans (@rfl V (V.bool (decide ((ogr o) ∨ ((1100 : Int) < (s.ni.length : Nat) ∨ (1100 : Int) < (s.no.length : Nat)))))) (bdF g2)) ?_
    refine R_call (evcons (@rfl V (V.agg [(V.sl (List.map cI (t.ni))), (V.sl (List.map cI (t.no)))])) evnil) (long16_pure t) (fzv_mapcanon _ _ (by simp [-List.map_take, -List.map_drop, -List.map_append, -List.map_reverse])) (by simp [-List.map_take, -List.map_drop, -List.map_append, -List.map_reverse]) (Or.inl (by simp [-List.map_take, -List.map_drop, -List.map_append, -List.map_reverse])) ?_
    refine R_pickF (Eq.trans (@rfl V (V.bool (decide ((ogr o) ∨ ((1100 : Int) < (s.ni.length : Nat) ∨ (1100 : Int) < (s.no.length : Nat)))))) (bdF g2)) (@rfl V (V.bool (decide ((1100 : Int) < (t.ni.length : Nat) ∨ (1100 : Int) < (t.no.length : Nat))))) ?_
    exact ⟨t3, t4, t5, (Eq.trans (@rfl V (V.bool (decide ((1100 : Int) < (t.ni.length : Nat) ∨ (1100 : Int) < (t.no.length : Nat))))) (dec_orF g2)), h3, h4, h5, h7, h10, h13, trivial⟩
  intro T H ⟨t3, t4, t5, t29, h3, h4, h5, h7, h10, h13, _⟩
  refine R_mv t29 ?_
  refine Ops_seg 4 (fun T H => T 3 = (V.mp 3 1 0 0) ∧ T 4 = (V.mp 4 1 0 0) ∧ T 5 = (V.mp 5 1 0 0) ∧ T 34 = (V.bool (decide ((((ogr o) ∨ ((1100 : Int) < (s.ni.length : Nat) ∨ (1100 : Int) < (s.no.length : Nat))) ∨ ((1100 : Int) < (t.ni.length : Nat) ∨ (1100 : Int) < (t.no.length : Nat))) ∨ ((oval o) ≠ (0 : Int))))) ∧ H 3 = (⟨1, true, false, 34, 2, [[(iV (o.i)), (V.sl (List.map cT (o.tr)))]]⟩ : Blk) ∧ H 4 = (⟨1, true, false, 63, 2, [[(V.sl (List.map cI (s.ni))), (V.sl (List.map cI (s.no)))]]⟩ : Blk) ∧ H 5 = (⟨1, true, false, 63, 2, [[(V.sl (List.map cI (t.ni))), (V.sl (List.map cI (t.no)))]]⟩ : Blk) ∧ H 7 = (⟨0, false, false, 0, 0, []⟩ : Blk) ∧ H 10 = (⟨0, false, false, 0, 0, []⟩ : Blk) ∧ H 13 = (⟨0, false, false, 0, 0, []⟩ : Blk) ∧ True) ?_ ?_
  ·
   by_cases g3 : ((ogr o) ∨ ((1100 : Int) < (s.ni.length : Nat) ∨ (1100 : Int) < (s.no.length : Nat))) ∨ ((1100 : Int) < (t.ni.length : Nat) ∨ (1100 : Int) < (t.no.length : Nat))
   ·
    refine G_no (Eq.trans (@rfl V (V.bool (decide (((ogr o) ∨ ((1100 : Int) < (s.ni.length : Nat) ∨ (1100 : Int) < (s.no.length : Nat))) ∨ ((1100 : Int) < (t.ni.length : Nat) ∨ (1100 : Int) < (t.no.length : Nat)))))) (bdT g3)) (by decide) ?_
    refine G_no (Eq.trans (@rfl V (V.bool (decide (((ogr o) ∨ ((1100 : Int) < (s.ni.length : Nat) ∨ (1100 : Int) < (s.no.length : Nat))) ∨ ((1100 : Int) < (t.ni.length : Nat) ∨ (1100 : Int) < (t.no.length : Nat)))))) (bdT g3)) (by decide) ?_
    refine G_no (Eq.trans (@rfl V (V.bool (decide (((ogr o) ∨ ((1100 : Int) < (s.ni.length : Nat) ∨ (1100 : Int) < (s.no.length : Nat))) ∨ ((1100 : Int) < (t.ni.length : Nat) ∨ (1100 : Int) < (t.no.length : Nat)))))) (bdT g3)) (by decide) ?_
    refine R_pickT (Eq.trans (@rfl V (V.bool (decide (((ogr o) ∨ ((1100 : Int) < (s.ni.length : Nat) ∨ (1100 : Int) < (s.no.length : Nat))) ∨ ((1100 : Int) < (t.ni.length : Nat) ∨ (1100 : Int) < (t.no.length : Nat)))))) (bdT g3)) (@rfl V (V.bool true)) ?_
    exact ⟨t3, t4, t5, (Eq.trans (@rfl V (V.bool true)) (dec_orT g3)), h3, h4, h5, h7, h10, h13, trivial⟩
   ·
    refine G_yes (Eq.trans (@rfl V (V.bool (decide (((ogr o) ∨ ((1100 : Int) < (s.ni.length : Nat) ∨ (1100 : Int) < (s.no.length : Nat))) ∨ ((1100 : Int) < (t.ni.length : Nat) ∨ (1100 : Int) < (t.no.length : Nat)))))) (bdF g3)) ?_
    refine R_load_mp (v := (V.agg [(iV (o.i)), (V.sl (List.map cT (o.tr)))])) t3 h3 (by first | rfl | simp [ldB, ldV, Blk.own, V.one]) ?_
    refine G_yes (Eq.trans (@rfl V (V.bool (decide (((ogr o) ∨ ((1100 : Int) < (s.ni.length : Nat) ∨ (1100 : Int) < (s.no.length : Nat))) ∨ ((1100 : Int) < (t.ni.length : Nat) ∨ (1100 : Int) < (t.no.length : Nat)))))) (bdF g3)) ?_
    refine R_call (evcons (@rfl V (V.agg [(iV (o.i)), (V.sl (List.map cT (o.tr)))])) evnil) (oval_pure o) (fzv_mapcanon _ _ (by simp [-List.map_take, -List.map_drop, -List.map_append, -List.map_reverse])) (by simp [-List.map_take, -List.map_drop, -List.map_append, -List.map_reverse]) (Or.inl (by simp [-List.map_take, -List.map_drop, -List.map_append, -List.map_reverse])) ?_
    refine G_yes (Eq.trans (@rfl V (V.bool (decide (((ogr o) ∨ ((1100 : Int) < (s.ni.length : Nat) ∨ (1100 : Int) < (s.no.length : Nat))) ∨ ((1100 : Int) < (t.ni.length : Nat) ∨ (1100 : Int) < (t.no.length : Nat)))))) (bdF g3)) ?_
    refine R_neq (x := (oval o)) (y := (0 : Int)) (@rfl V (iV (oval o))) (@rfl V (iV (0 : Int))) ?_
    refine R_pickF (Eq.trans (@rfl V (V.bool (decide (((ogr o) ∨ ((1100 : Int) < (s.ni.length : Nat) ∨ (1100 : Int) < (s.no.length : Nat))) ∨ ((1100 : Int) < (t.ni.length : Nat) ∨ (1100 : Int) < (t.no.length : Nat)))))) (bdF g3)) (@rfl V (V.bool (decide ((oval o) ≠ (0 : Int))))) ?_
    exact ⟨t3, t4, t5, (Eq.trans (@rfl V (V.bool (decide ((oval o) ≠ (0 : Int))))) (dec_orF g3)), h3, h4, h5, h7, h10, h13, trivial⟩
  intro T H ⟨t3, t4, t5, t34, h3, h4, h5, h7, h10, h13, _⟩
  exact R_nil ⟨t3, t4, t5, t34, h3, h4, h5, h7, h10, h13, trivial⟩
 intro T H ⟨t3, t4, t5, t34, h3, h4, h5, h7, h10, h13, _⟩
 refine W_seq_if (p := (((ogr o) ∨ ((1100 : Int) < (s.ni.length : Nat) ∨ (1100 : Int) < (s.no.length : Nat))) ∨ ((1100 : Int) < (t.ni.length : Nat) ∨ (1100 : Int) < (t.no.length : Nat))) ∨ ((oval o) ≠ (0 : Int))) t34 (fun c4 => ?_) (fun c4 => ?_)
 ·
  refine W_seq_seq ?_
  refine W_seq_regc (fun T H => T 6 = (V.bool true) ∧ H 3 = (⟨1, true, false, 34, 2, [[(iV (o.i)), (V.sl (List.map cT (o.tr)))]]⟩ : Blk) ∧ H 4 = (⟨1, true, false, 63, 2, [[(V.sl (List.map cI (s.ni))), (V.sl (List.map cI (s.no)))]]⟩ : Blk) ∧ H 5 = (⟨1, true, false, 63, 2, [[(V.sl (List.map cI (t.ni))), (V.sl (List.map cI (t.no)))]]⟩ : Blk) ∧ H 7 = (⟨0, false, false, 0, 0, []⟩ : Blk) ∧ H 10 = (⟨0, false, false, 0, 0, []⟩ : Blk) ∧ H 13 = (⟨0, false, false, 0, 0, []⟩ : Blk) ∧ True) ?_ ?_
  ·
   unfold r12_2
   refine R_call evnil (aw_learnerlaw16_awake_pure) (fzv_mapcanon _ _ (by simp [-List.map_take, -List.map_drop, -List.map_append, -List.map_reverse])) (by simp [-List.map_take, -List.map_drop, -List.map_append, -List.map_reverse]) (Or.inl (by simp [-List.map_take, -List.map_drop, -List.map_append, -List.map_reverse])) ?_
   refine R_mv (@rfl V (V.bool true)) ?_
   exact R_nil ⟨rfl, h3, h4, h5, h7, h10, h13, trivial⟩
  intro T H ⟨t6, h3, h4, h5, h7, h10, h13, _⟩
  refine W_seq_ret ?_
  refine Ret_1 t6 (fz_canon (by simp) rfl)
 simp only [not_or, Decidable.not_not] at c4
 have ho := oval_ok (o := o) (by omega)
 refine W_seq_skip ?_
 refine W_seq_regc (fun T H => T 3 = (V.mp 3 1 0 0) ∧ T 4 = (V.mp 4 1 0 0) ∧ T 5 = (V.mp 5 1 0 0) ∧ T 7 = (V.mp 7 1 0 0) ∧ T 8 = (iV ((alR o.i o.tr [s]).2)) ∧ H 3 = (⟨1, true, false, 34, 2, [[(iV (o.i)), (V.sl (List.map cT (o.tr)))]]⟩ : Blk) ∧ H 4 = (⟨1, true, false, 63, 2, [[(V.sl (List.map cI (s.ni))), (V.sl (List.map cI (s.no)))]]⟩ : Blk) ∧ H 5 = (⟨1, true, false, 63, 2, [[(V.sl (List.map cI (t.ni))), (V.sl (List.map cI (t.no)))]]⟩ : Blk) ∧ H 7 = (⟨1, true, false, 34, 2, [[(iV ((alO o [s]).i)), (V.sl (List.map cT ((alO o [s]).tr)))]]⟩ : Blk) ∧ H 10 = (⟨0, false, false, 0, 0, []⟩ : Blk) ∧ H 13 = (⟨0, false, false, 0, 0, []⟩ : Blk) ∧ True) ?_ ?_
 ·
  unfold r12_3
  refine R_load_mp (v := (V.agg [(iV (o.i)), (V.sl (List.map cT (o.tr)))])) t3 h3 (by first | rfl | simp [ldB, ldV, Blk.own, V.one]) ?_
  refine R_load_mp (v := (V.agg [(V.sl (List.map cI (s.ni))), (V.sl (List.map cI (s.no)))])) t4 h4 (by first | rfl | simp [ldB, ldV, Blk.own, V.one]) ?_
  refine R_call (evcons (@rfl V (V.agg [(iV (o.i)), (V.sl (List.map cT (o.tr)))])) (evcons (@rfl V (V.agg [(V.sl (List.map cI (s.ni))), (V.sl (List.map cI (s.no)))])) evnil)) (oadd_pure o s ho) (fzv_mapcanon _ _ (by simp [-List.map_take, -List.map_drop, -List.map_append, -List.map_reverse])) (by simp [-List.map_take, -List.map_drop, -List.map_append, -List.map_reverse]) (Or.inl (by simp [-List.map_take, -List.map_drop, -List.map_append, -List.map_reverse])) ?_
  refine R_mv (@rfl V (V.tup [(V.agg [(iV ((alO o [s]).i)), (V.sl (List.map cT ((alO o [s]).tr)))]), (iV ((alR o.i o.tr [s]).2))])) ?_
  refine R_ext (v := (V.agg [(iV ((alO o [s]).i)), (V.sl (List.map cT ((alO o [s]).tr)))])) (@rfl V (V.tup [(V.agg [(iV ((alO o [s]).i)), (V.sl (List.map cT ((alO o [s]).tr)))]), (iV ((alR o.i o.tr [s]).2))])) rfl ?_
  refine R_ext (v := (iV ((alR o.i o.tr [s]).2))) (@rfl V (V.tup [(V.agg [(iV ((alO o [s]).i)), (V.sl (List.map cT ((alO o [s]).tr)))]), (iV ((alR o.i o.tr [s]).2))])) rfl ?_
  refine R_alloc (i := 7) (n := 0) (m := 2) rfl (congrArg Blk.ver h7) rfl ?_
  refine R_store (vs := [(iV ((alO o [s]).i)), (V.sl (List.map cT ((alO o [s]).tr)))]) (B' := (⟨1, true, false, 34, 2, [[(iV ((alO o [s]).i)), (V.sl (List.map cT ((alO o [s]).tr)))]]⟩ : Blk)) (@rfl V (V.mp 7 1 0 0)) (@rfl V (V.agg [(iV ((alO o [s]).i)), (V.sl (List.map cT ((alO o [s]).tr)))])) rfl (@rfl Blk (⟨1, true, false, 34, 2, [[(iV (0 : Int)), V.nilsl]]⟩ : Blk)) (by first | rfl | simp [stB, okB, Blk.own, putAt, V.one]) ?_
  refine R_mv (@rfl V (iV ((alR o.i o.tr [s]).2))) ?_
  exact R_nil ⟨t3, t4, t5, rfl, rfl, h3, h4, h5, rfl, h10, h13, trivial⟩
 intro T H ⟨t3, t4, t5, t7, t8, h3, h4, h5, h7, h10, h13, _⟩
 refine W_seq_regc (fun T H => T 3 = (V.mp 3 1 0 0) ∧ T 4 = (V.mp 4 1 0 0) ∧ T 5 = (V.mp 5 1 0 0) ∧ T 7 = (V.mp 7 1 0 0) ∧ T 8 = (iV ((alR o.i o.tr [s]).2)) ∧ T 9 = (iV ((alR ((alO o [s])).i ((alO o [s])).tr [t]).2)) ∧ H 3 = (⟨1, true, false, 34, 2, [[(iV (o.i)), (V.sl (List.map cT (o.tr)))]]⟩ : Blk) ∧ H 4 = (⟨1, true, false, 63, 2, [[(V.sl (List.map cI (s.ni))), (V.sl (List.map cI (s.no)))]]⟩ : Blk) ∧ H 5 = (⟨1, true, false, 63, 2, [[(V.sl (List.map cI (t.ni))), (V.sl (List.map cI (t.no)))]]⟩ : Blk) ∧ H 7 = (⟨1, true, false, 34, 2, [[(iV ((alO ((alO o [s])) [t]).i)), (V.sl (List.map cT ((alO ((alO o [s])) [t]).tr)))]]⟩ : Blk) ∧ H 10 = (⟨0, false, false, 0, 0, []⟩ : Blk) ∧ H 13 = (⟨0, false, false, 0, 0, []⟩ : Blk) ∧ True) ?_ ?_
 ·
  unfold r12_4
  refine R_load_mp (v := (V.agg [(iV ((alO o [s]).i)), (V.sl (List.map cT ((alO o [s]).tr)))])) t7 h7 (by first | rfl | simp [ldB, ldV, Blk.own, V.one]) ?_
  refine R_load_mp (v := (V.agg [(V.sl (List.map cI (t.ni))), (V.sl (List.map cI (t.no)))])) t5 h5 (by first | rfl | simp [ldB, ldV, Blk.own, V.one]) ?_
  refine R_call (evcons (@rfl V (V.agg [(iV ((alO o [s]).i)), (V.sl (List.map cT ((alO o [s]).tr)))])) (evcons (@rfl V (V.agg [(V.sl (List.map cI (t.ni))), (V.sl (List.map cI (t.no)))])) evnil)) (oadd_pure ((alO o [s])) t (alO_ok ho)) (fzv_mapcanon _ _ (by simp [-List.map_take, -List.map_drop, -List.map_append, -List.map_reverse])) (by simp [-List.map_take, -List.map_drop, -List.map_append, -List.map_reverse]) (Or.inl (by simp [-List.map_take, -List.map_drop, -List.map_append, -List.map_reverse])) ?_
  refine R_mv (@rfl V (V.tup [(V.agg [(iV ((alO ((alO o [s])) [t]).i)), (V.sl (List.map cT ((alO ((alO o [s])) [t]).tr)))]), (iV ((alR ((alO o [s])).i ((alO o [s])).tr [t]).2))])) ?_
  refine R_ext (v := (V.agg [(iV ((alO ((alO o [s])) [t]).i)), (V.sl (List.map cT ((alO ((alO o [s])) [t]).tr)))])) (@rfl V (V.tup [(V.agg [(iV ((alO ((alO o [s])) [t]).i)), (V.sl (List.map cT ((alO ((alO o [s])) [t]).tr)))]), (iV ((alR ((alO o [s])).i ((alO o [s])).tr [t]).2))])) rfl ?_
  refine R_ext (v := (iV ((alR ((alO o [s])).i ((alO o [s])).tr [t]).2))) (@rfl V (V.tup [(V.agg [(iV ((alO ((alO o [s])) [t]).i)), (V.sl (List.map cT ((alO ((alO o [s])) [t]).tr)))]), (iV ((alR ((alO o [s])).i ((alO o [s])).tr [t]).2))])) rfl ?_
  refine R_store (vs := [(iV ((alO ((alO o [s])) [t]).i)), (V.sl (List.map cT ((alO ((alO o [s])) [t]).tr)))]) (B' := (⟨1, true, false, 34, 2, [[(iV ((alO ((alO o [s])) [t]).i)), (V.sl (List.map cT ((alO ((alO o [s])) [t]).tr)))]]⟩ : Blk)) t7 (@rfl V (V.agg [(iV ((alO ((alO o [s])) [t]).i)), (V.sl (List.map cT ((alO ((alO o [s])) [t]).tr)))])) rfl h7 (by first | rfl | simp [stB, okB, Blk.own, putAt, V.one]) ?_
  refine R_mv (@rfl V (iV ((alR ((alO o [s])).i ((alO o [s])).tr [t]).2))) ?_
  exact R_nil ⟨t3, t4, t5, t7, t8, rfl, h3, h4, h5, rfl, h10, h13, trivial⟩
 intro T H ⟨t3, t4, t5, t7, t8, t9, h3, h4, h5, h7, h10, h13, _⟩
 refine W_seq_regc (fun T H => T 3 = (V.mp 3 1 0 0) ∧ T 4 = (V.mp 4 1 0 0) ∧ T 5 = (V.mp 5 1 0 0) ∧ T 7 = (V.mp 7 1 0 0) ∧ T 8 = (iV ((alR o.i o.tr [s]).2)) ∧ T 9 = (iV ((alR ((alO o [s])).i ((alO o [s])).tr [t]).2)) ∧ T 10 = (V.mp 10 1 0 0) ∧ T 11 = (iV ((alR o.i o.tr [t]).2)) ∧ H 3 = (⟨1, true, false, 34, 2, [[(iV (o.i)), (V.sl (List.map cT (o.tr)))]]⟩ : Blk) ∧ H 4 = (⟨1, true, false, 63, 2, [[(V.sl (List.map cI (s.ni))), (V.sl (List.map cI (s.no)))]]⟩ : Blk) ∧ H 5 = (⟨1, true, false, 63, 2, [[(V.sl (List.map cI (t.ni))), (V.sl (List.map cI (t.no)))]]⟩ : Blk) ∧ H 7 = (⟨1, true, false, 34, 2, [[(iV ((alO ((alO o [s])) [t]).i)), (V.sl (List.map cT ((alO ((alO o [s])) [t]).tr)))]]⟩ : Blk) ∧ H 10 = (⟨1, true, false, 34, 2, [[(iV ((alO o [t]).i)), (V.sl (List.map cT ((alO o [t]).tr)))]]⟩ : Blk) ∧ H 13 = (⟨0, false, false, 0, 0, []⟩ : Blk) ∧ True) ?_ ?_
 ·
  unfold r12_5
  refine R_load_mp (v := (V.agg [(iV (o.i)), (V.sl (List.map cT (o.tr)))])) t3 h3 (by first | rfl | simp [ldB, ldV, Blk.own, V.one]) ?_
  refine R_load_mp (v := (V.agg [(V.sl (List.map cI (t.ni))), (V.sl (List.map cI (t.no)))])) t5 h5 (by first | rfl | simp [ldB, ldV, Blk.own, V.one]) ?_
  refine R_call (evcons (@rfl V (V.agg [(iV (o.i)), (V.sl (List.map cT (o.tr)))])) (evcons (@rfl V (V.agg [(V.sl (List.map cI (t.ni))), (V.sl (List.map cI (t.no)))])) evnil)) (oadd_pure o t ho) (fzv_mapcanon _ _ (by simp [-List.map_take, -List.map_drop, -List.map_append, -List.map_reverse])) (by simp [-List.map_take, -List.map_drop, -List.map_append, -List.map_reverse]) (Or.inl (by simp [-List.map_take, -List.map_drop, -List.map_append, -List.map_reverse])) ?_
  refine R_mv (@rfl V (V.tup [(V.agg [(iV ((alO o [t]).i)), (V.sl (List.map cT ((alO o [t]).tr)))]), (iV ((alR o.i o.tr [t]).2))])) ?_
  refine R_ext (v := (V.agg [(iV ((alO o [t]).i)), (V.sl (List.map cT ((alO o [t]).tr)))])) (@rfl V (V.tup [(V.agg [(iV ((alO o [t]).i)), (V.sl (List.map cT ((alO o [t]).tr)))]), (iV ((alR o.i o.tr [t]).2))])) rfl ?_
  refine R_ext (v := (iV ((alR o.i o.tr [t]).2))) (@rfl V (V.tup [(V.agg [(iV ((alO o [t]).i)), (V.sl (List.map cT ((alO o [t]).tr)))]), (iV ((alR o.i o.tr [t]).2))])) rfl ?_
  refine R_alloc (i := 10) (n := 0) (m := 2) rfl (congrArg Blk.ver h10) rfl ?_
  refine R_store (vs := [(iV ((alO o [t]).i)), (V.sl (List.map cT ((alO o [t]).tr)))]) (B' := (⟨1, true, false, 34, 2, [[(iV ((alO o [t]).i)), (V.sl (List.map cT ((alO o [t]).tr)))]]⟩ : Blk)) (@rfl V (V.mp 10 1 0 0)) (@rfl V (V.agg [(iV ((alO o [t]).i)), (V.sl (List.map cT ((alO o [t]).tr)))])) rfl (@rfl Blk (⟨1, true, false, 34, 2, [[(iV (0 : Int)), V.nilsl]]⟩ : Blk)) (by first | rfl | simp [stB, okB, Blk.own, putAt, V.one]) ?_
  refine R_mv (@rfl V (iV ((alR o.i o.tr [t]).2))) ?_
  exact R_nil ⟨t3, t4, t5, t7, t8, t9, rfl, rfl, h3, h4, h5, h7, rfl, h13, trivial⟩
 intro T H ⟨t3, t4, t5, t7, t8, t9, t10, t11, h3, h4, h5, h7, h10, h13, _⟩
 refine W_seq_regc (fun T H => T 3 = (V.mp 3 1 0 0) ∧ T 4 = (V.mp 4 1 0 0) ∧ T 5 = (V.mp 5 1 0 0) ∧ T 7 = (V.mp 7 1 0 0) ∧ T 8 = (iV ((alR o.i o.tr [s]).2)) ∧ T 9 = (iV ((alR ((alO o [s])).i ((alO o [s])).tr [t]).2)) ∧ T 10 = (V.mp 10 1 0 0) ∧ T 11 = (iV ((alR o.i o.tr [t]).2)) ∧ T 12 = (iV ((alR ((alO o [t])).i ((alO o [t])).tr [s]).2)) ∧ H 3 = (⟨1, true, false, 34, 2, [[(iV (o.i)), (V.sl (List.map cT (o.tr)))]]⟩ : Blk) ∧ H 4 = (⟨1, true, false, 63, 2, [[(V.sl (List.map cI (s.ni))), (V.sl (List.map cI (s.no)))]]⟩ : Blk) ∧ H 5 = (⟨1, true, false, 63, 2, [[(V.sl (List.map cI (t.ni))), (V.sl (List.map cI (t.no)))]]⟩ : Blk) ∧ H 7 = (⟨1, true, false, 34, 2, [[(iV ((alO ((alO o [s])) [t]).i)), (V.sl (List.map cT ((alO ((alO o [s])) [t]).tr)))]]⟩ : Blk) ∧ H 10 = (⟨1, true, false, 34, 2, [[(iV ((alO ((alO o [t])) [s]).i)), (V.sl (List.map cT ((alO ((alO o [t])) [s]).tr)))]]⟩ : Blk) ∧ H 13 = (⟨0, false, false, 0, 0, []⟩ : Blk) ∧ True) ?_ ?_
 ·
  unfold r12_6
  refine R_load_mp (v := (V.agg [(iV ((alO o [t]).i)), (V.sl (List.map cT ((alO o [t]).tr)))])) t10 h10 (by first | rfl | simp [ldB, ldV, Blk.own, V.one]) ?_
  refine R_load_mp (v := (V.agg [(V.sl (List.map cI (s.ni))), (V.sl (List.map cI (s.no)))])) t4 h4 (by first | rfl | simp [ldB, ldV, Blk.own, V.one]) ?_
  refine R_call (evcons (@rfl V (V.agg [(iV ((alO o [t]).i)), (V.sl (List.map cT ((alO o [t]).tr)))])) (evcons (@rfl V (V.agg [(V.sl (List.map cI (s.ni))), (V.sl (List.map cI (s.no)))])) evnil)) (oadd_pure ((alO o [t])) s (alO_ok ho)) (fzv_mapcanon _ _ (by simp [-List.map_take, -List.map_drop, -List.map_append, -List.map_reverse])) (by simp [-List.map_take, -List.map_drop, -List.map_append, -List.map_reverse]) (Or.inl (by simp [-List.map_take, -List.map_drop, -List.map_append, -List.map_reverse])) ?_
  refine R_mv (@rfl V (V.tup [(V.agg [(iV ((alO ((alO o [t])) [s]).i)), (V.sl (List.map cT ((alO ((alO o [t])) [s]).tr)))]), (iV ((alR ((alO o [t])).i ((alO o [t])).tr [s]).2))])) ?_
  refine R_ext (v := (V.agg [(iV ((alO ((alO o [t])) [s]).i)), (V.sl (List.map cT ((alO ((alO o [t])) [s]).tr)))])) (@rfl V (V.tup [(V.agg [(iV ((alO ((alO o [t])) [s]).i)), (V.sl (List.map cT ((alO ((alO o [t])) [s]).tr)))]), (iV ((alR ((alO o [t])).i ((alO o [t])).tr [s]).2))])) rfl ?_
  refine R_ext (v := (iV ((alR ((alO o [t])).i ((alO o [t])).tr [s]).2))) (@rfl V (V.tup [(V.agg [(iV ((alO ((alO o [t])) [s]).i)), (V.sl (List.map cT ((alO ((alO o [t])) [s]).tr)))]), (iV ((alR ((alO o [t])).i ((alO o [t])).tr [s]).2))])) rfl ?_
  refine R_store (vs := [(iV ((alO ((alO o [t])) [s]).i)), (V.sl (List.map cT ((alO ((alO o [t])) [s]).tr)))]) (B' := (⟨1, true, false, 34, 2, [[(iV ((alO ((alO o [t])) [s]).i)), (V.sl (List.map cT ((alO ((alO o [t])) [s]).tr)))]]⟩ : Blk)) t10 (@rfl V (V.agg [(iV ((alO ((alO o [t])) [s]).i)), (V.sl (List.map cT ((alO ((alO o [t])) [s]).tr)))])) rfl h10 (by first | rfl | simp [stB, okB, Blk.own, putAt, V.one]) ?_
  refine R_mv (@rfl V (iV ((alR ((alO o [t])).i ((alO o [t])).tr [s]).2))) ?_
  exact R_nil ⟨t3, t4, t5, t7, t8, t9, t10, t11, rfl, h3, h4, h5, h7, rfl, h13, trivial⟩
 intro T H ⟨t3, t4, t5, t7, t8, t9, t10, t11, t12, h3, h4, h5, h7, h10, h13, _⟩
 refine W_seq_seq ?_
 refine W_seq_regc (fun T H => T 3 = (V.mp 3 1 0 0) ∧ T 4 = (V.mp 4 1 0 0) ∧ T 5 = (V.mp 5 1 0 0) ∧ T 7 = (V.mp 7 1 0 0) ∧ T 10 = (V.mp 10 1 0 0) ∧ T 73 = (V.bool (decide ((((((alR o.i o.tr [s]).2) ≠ (0 : Int)) ∨ (((alR ((alO o [s])).i ((alO o [s])).tr [t]).2) ≠ (0 : Int))) ∨ (((alR o.i o.tr [t]).2) ≠ (0 : Int))) ∨ (((alR ((alO o [t])).i ((alO o [t])).tr [s]).2) ≠ (0 : Int))))) ∧ H 3 = (⟨1, true, false, 34, 2, [[(iV (o.i)), (V.sl (List.map cT (o.tr)))]]⟩ : Blk) ∧ H 4 = (⟨1, true, false, 63, 2, [[(V.sl (List.map cI (s.ni))), (V.sl (List.map cI (s.no)))]]⟩ : Blk) ∧ H 5 = (⟨1, true, false, 63, 2, [[(V.sl (List.map cI (t.ni))), (V.sl (List.map cI (t.no)))]]⟩ : Blk) ∧ H 7 = (⟨1, true, false, 34, 2, [[(iV ((alO ((alO o [s])) [t]).i)), (V.sl (List.map cT ((alO ((alO o [s])) [t]).tr)))]]⟩ : Blk) ∧ H 10 = (⟨1, true, false, 34, 2, [[(iV ((alO ((alO o [t])) [s]).i)), (V.sl (List.map cT ((alO ((alO o [t])) [s]).tr)))]]⟩ : Blk) ∧ H 13 = (⟨0, false, false, 0, 0, []⟩ : Blk) ∧ True) ?_ ?_
 ·
  unfold r12_7
  refine R_mv t8 ?_
  refine R_neq (x := ((alR o.i o.tr [s]).2)) (y := (0 : Int)) (@rfl V (iV ((alR o.i o.tr [s]).2))) (@rfl V (iV (0 : Int))) ?_
  refine R_mv (@rfl V (V.bool (decide (((alR o.i o.tr [s]).2) ≠ (0 : Int))))) ?_
  refine Ops_seg 3 (fun T H => T 3 = (V.mp 3 1 0 0) ∧ T 4 = (V.mp 4 1 0 0) ∧ T 5 = (V.mp 5 1 0 0) ∧ T 7 = (V.mp 7 1 0 0) ∧ T 10 = (V.mp 10 1 0 0) ∧ T 11 = (iV ((alR o.i o.tr [t]).2)) ∧ T 12 = (iV ((alR ((alO o [t])).i ((alO o [t])).tr [s]).2)) ∧ T 65 = (V.bool (decide ((((alR o.i o.tr [s]).2) ≠ (0 : Int)) ∨ (((alR ((alO o [s])).i ((alO o [s])).tr [t]).2) ≠ (0 : Int))))) ∧ H 3 = (⟨1, true, false, 34, 2, [[(iV (o.i)), (V.sl (List.map cT (o.tr)))]]⟩ : Blk) ∧ H 4 = (⟨1, true, false, 63, 2, [[(V.sl (List.map cI (s.ni))), (V.sl (List.map cI (s.no)))]]⟩ : Blk) ∧ H 5 = (⟨1, true, false, 63, 2, [[(V.sl (List.map cI (t.ni))), (V.sl (List.map cI (t.no)))]]⟩ : Blk) ∧ H 7 = (⟨1, true, false, 34, 2, [[(iV ((alO ((alO o [s])) [t]).i)), (V.sl (List.map cT ((alO ((alO o [s])) [t]).tr)))]]⟩ : Blk) ∧ H 10 = (⟨1, true, false, 34, 2, [[(iV ((alO ((alO o [t])) [s]).i)), (V.sl (List.map cT ((alO ((alO o [t])) [s]).tr)))]]⟩ : Blk) ∧ H 13 = (⟨0, false, false, 0, 0, []⟩ : Blk) ∧ True) ?_ ?_
  ·
   by_cases g5 : ((alR o.i o.tr [s]).2) ≠ (0 : Int)
   ·
    refine G_no (Eq.trans (@rfl V (V.bool (decide (((alR o.i o.tr [s]).2) ≠ (0 : Int))))) (bdT g5)) (by decide) ?_
    refine G_no (Eq.trans (@rfl V (V.bool (decide (((alR o.i o.tr [s]).2) ≠ (0 : Int))))) (bdT g5)) (by decide) ?_
    refine R_pickT (Eq.trans (@rfl V (V.bool (decide (((alR o.i o.tr [s]).2) ≠ (0 : Int))))) (bdT g5)) (@rfl V (V.bool true)) ?_
    exact ⟨t3, t4, t5, t7, t10, t11, t12, (Eq.trans (@rfl V (V.bool true)) (dec_orT g5)), h3, h4, h5, h7, h10, h13, trivial⟩
   ·
    refine G_yes (Eq.trans (@rfl V (V.bool (decide (((alR o.i o.tr [s]).2) ≠ (0 : Int))))) (bdF g5)) ?_
    refine R_mv t9 ?_
    refine G_yes (Eq.trans (@rfl V (V.bool (decide (((alR o.i o.tr [s]).2) ≠ (0 : Int))))) (bdF g5)) ?_
    refine R_neq (x := ((alR ((alO o [s])).i ((alO o [s])).tr [t]).2)) (y := (0 : Int)) (@rfl V (iV ((alR ((alO o [s])).i ((alO o [s])).tr [t]).2))) (@rfl V (iV (0 : Int))) ?_
    refine R_pickF (Eq.trans (@rfl V (V.bool (decide (((alR o.i o.tr [s]).2) ≠ (0 : Int))))) (bdF g5)) (@rfl V (V.bool (decide (((alR ((alO o [s])).i ((alO o [s])).tr [t]).2) ≠ (0 : Int))))) ?_
    exact ⟨t3, t4, t5, t7, t10, t11, t12, (Eq.trans (@rfl V (V.bool (decide (((alR ((alO o [s])).i ((alO o [s])).tr [t]).2) ≠ (0 : Int))))) (dec_orF g5)), h3, h4, h5, h7, h10, h13, trivial⟩
  intro T H ⟨t3, t4, t5, t7, t10, t11, t12, t65, h3, h4, h5, h7, h10, h13, _⟩
  refine R_mv t65 ?_
  refine Ops_seg 3 (fun T H => T 3 = (V.mp 3 1 0 0) ∧ T 4 = (V.mp 4 1 0 0) ∧ T 5 = (V.mp 5 1 0 0) ∧ T 7 = (V.mp 7 1 0 0) ∧ T 10 = (V.mp 10 1 0 0) ∧ T 12 = (iV ((alR ((alO o [t])).i ((alO o [t])).tr [s]).2)) ∧ T 69 = (V.bool (decide (((((alR o.i o.tr [s]).2) ≠ (0 : Int)) ∨ (((alR ((alO o [s])).i ((alO o [s])).tr [t]).2) ≠ (0 : Int))) ∨ (((alR o.i o.tr [t]).2) ≠ (0 : Int))))) ∧ H 3 = (⟨1, true, false, 34, 2, [[(iV (o.i)), (V.sl (List.map cT (o.tr)))]]⟩ : Blk) ∧ H 4 = (⟨1, true, false, 63, 2, [[(V.sl (List.map cI (s.ni))), (V.sl (List.map cI (s.no)))]]⟩ : Blk) ∧ H 5 = (⟨1, true, false, 63, 2, [[(V.sl (List.map cI (t.ni))), (V.sl (List.map cI (t.no)))]]⟩ : Blk) ∧ H 7 = (⟨1, true, false, 34, 2, [[(iV ((alO ((alO o [s])) [t]).i)), (V.sl (List.map cT ((alO ((alO o [s])) [t]).tr)))]]⟩ : Blk) ∧ H 10 = (⟨1, true, false, 34, 2, [[(iV ((alO ((alO o [t])) [s]).i)), (V.sl (List.map cT ((alO ((alO o [t])) [s]).tr)))]]⟩ : Blk) ∧ H 13 = (⟨0, false, false, 0, 0, []⟩ : Blk) ∧ True) ?_ ?_
  ·
   by_cases g6 : (((alR o.i o.tr [s]).2) ≠ (0 : Int)) ∨ (((alR ((alO o [s])).i ((alO o [s])).tr [t]).2) ≠ (0 : Int))
   ·
    refine G_no (Eq.trans (@rfl V (V.bool (decide ((((alR o.i o.tr [s]).2) ≠ (0 : Int)) ∨ (((alR ((alO o [s])).i ((alO o [s])).tr [t]).2) ≠ (0 : Int)))))) (bdT g6)) (by decide) ?_
    refine G_no (Eq.trans (@rfl V (V.bool (decide ((((alR o.i o.tr [s]).2) ≠ (0 : Int)) ∨ (((alR ((alO o [s])).i ((alO o [s])).tr [t]).2) ≠ (0 : Int)))))) (bdT g6)) (by decide) ?_
    refine R_pickT (Eq.trans (@rfl V (V.bool (decide ((((alR o.i o.tr [s]).2) ≠ (0 : Int)) ∨ (((alR ((alO o [s])).i ((alO o [s])).tr [t]).2) ≠ (0 : Int)))))) (bdT g6)) (@rfl V (V.bool true)) ?_
    exact ⟨t3, t4, t5, t7, t10, t12, (Eq.trans (@rfl V (V.bool true)) (dec_orT g6)), h3, h4, h5, h7, h10, h13, trivial⟩
   ·
    refine G_yes (Eq.trans (@rfl V (V.bool (decide ((((alR o.i o.tr [s]).2) ≠ (0 : Int)) ∨ (((alR ((alO o [s])).i ((alO o [s])).tr [t]).2) ≠ (0 : Int)))))) (bdF g6)) ?_
    refine R_mv t11 ?_
    refine G_yes (Eq.trans (@rfl V (V.bool (decide ((((alR o.i o.tr [s]).2) ≠ (0 : Int)) ∨ (((alR ((alO o [s])).i ((alO o [s])).tr [t]).2) ≠ (0 : Int)))))) (bdF g6)) ?_
    refine R_neq (x := ((alR o.i o.tr [t]).2)) (y := (0 : Int)) (@rfl V (iV ((alR o.i o.tr [t]).2))) (@rfl V (iV (0 : Int))) ?_
    refine R_pickF (Eq.trans (@rfl V (V.bool (decide ((((alR o.i o.tr [s]).2) ≠ (0 : Int)) ∨ (((alR ((alO o [s])).i ((alO o [s])).tr [t]).2) ≠ (0 : Int)))))) (bdF g6)) (@rfl V (V.bool (decide (((alR o.i o.tr [t]).2) ≠ (0 : Int))))) ?_
    exact ⟨t3, t4, t5, t7, t10, t12, (Eq.trans (@rfl V (V.bool (decide (((alR o.i o.tr [t]).2) ≠ (0 : Int))))) (dec_orF g6)), h3, h4, h5, h7, h10, h13, trivial⟩
  intro T H ⟨t3, t4, t5, t7, t10, t12, t69, h3, h4, h5, h7, h10, h13, _⟩
  refine R_mv t69 ?_
  refine Ops_seg 3 (fun T H => T 3 = (V.mp 3 1 0 0) ∧ T 4 = (V.mp 4 1 0 0) ∧ T 5 = (V.mp 5 1 0 0) ∧ T 7 = (V.mp 7 1 0 0) ∧ T 10 = (V.mp 10 1 0 0) ∧ T 73 = (V.bool (decide ((((((alR o.i o.tr [s]).2) ≠ (0 : Int)) ∨ (((alR ((alO o [s])).i ((alO o [s])).tr [t]).2) ≠ (0 : Int))) ∨ (((alR o.i o.tr [t]).2) ≠ (0 : Int))) ∨ (((alR ((alO o [t])).i ((alO o [t])).tr [s]).2) ≠ (0 : Int))))) ∧ H 3 = (⟨1, true, false, 34, 2, [[(iV (o.i)), (V.sl (List.map cT (o.tr)))]]⟩ : Blk) ∧ H 4 = (⟨1, true, false, 63, 2, [[(V.sl (List.map cI (s.ni))), (V.sl (List.map cI (s.no)))]]⟩ : Blk) ∧ H 5 = (⟨1, true, false, 63, 2, [[(V.sl (List.map cI (t.ni))), (V.sl (List.map cI (t.no)))]]⟩ : Blk) ∧ H 7 = (⟨1, true, false, 34, 2, [[(iV ((alO ((alO o [s])) [t]).i)), (V.sl (List.map cT ((alO ((alO o [s])) [t]).tr)))]]⟩ : Blk) ∧ H 10 = (⟨1, true, false, 34, 2, [[(iV ((alO ((alO o [t])) [s]).i)), (V.sl (List.map cT ((alO ((alO o [t])) [s]).tr)))]]⟩ : Blk) ∧ H 13 = (⟨0, false, false, 0, 0, []⟩ : Blk) ∧ True) ?_ ?_
  ·
   by_cases g7 : ((((alR o.i o.tr [s]).2) ≠ (0 : Int)) ∨ (((alR ((alO o [s])).i ((alO o [s])).tr [t]).2) ≠ (0 : Int))) ∨ (((alR o.i o.tr [t]).2) ≠ (0 : Int))
   ·
    refine G_no (Eq.trans (@rfl V (V.bool (decide (((((alR o.i o.tr [s]).2) ≠ (0 : Int)) ∨ (((alR ((alO o [s])).i ((alO o [s])).tr [t]).2) ≠ (0 : Int))) ∨ (((alR o.i o.tr [t]).2) ≠ (0 : Int)))))) (bdT g7)) (by decide) ?_
    refine G_no (Eq.trans (@rfl V (V.bool (decide (((((alR o.i o.tr [s]).2) ≠ (0 : Int)) ∨ (((alR ((alO o [s])).i ((alO o [s])).tr [t]).2) ≠ (0 : Int))) ∨ (((alR o.i o.tr [t]).2) ≠ (0 : Int)))))) (bdT g7)) (by decide) ?_
    refine R_pickT (Eq.trans (@rfl V (V.bool (decide (((((alR o.i o.tr [s]).2) ≠ (0 : Int)) ∨ (((alR ((alO o [s])).i ((alO o [s])).tr [t]).2) ≠ (0 : Int))) ∨ (((alR o.i o.tr [t]).2) ≠ (0 : Int)))))) (bdT g7)) (@rfl V (V.bool true)) ?_
    exact ⟨t3, t4, t5, t7, t10, (Eq.trans (@rfl V (V.bool true)) (dec_orT g7)), h3, h4, h5, h7, h10, h13, trivial⟩
   ·
    refine G_yes (Eq.trans (@rfl V (V.bool (decide (((((alR o.i o.tr [s]).2) ≠ (0 : Int)) ∨ (((alR ((alO o [s])).i ((alO o [s])).tr [t]).2) ≠ (0 : Int))) ∨ (((alR o.i o.tr [t]).2) ≠ (0 : Int)))))) (bdF g7)) ?_
    refine R_mv t12 ?_
    refine G_yes (Eq.trans (@rfl V (V.bool (decide (((((alR o.i o.tr [s]).2) ≠ (0 : Int)) ∨ (((alR ((alO o [s])).i ((alO o [s])).tr [t]).2) ≠ (0 : Int))) ∨ (((alR o.i o.tr [t]).2) ≠ (0 : Int)))))) (bdF g7)) ?_
    refine R_neq (x := ((alR ((alO o [t])).i ((alO o [t])).tr [s]).2)) (y := (0 : Int)) (@rfl V (iV ((alR ((alO o [t])).i ((alO o [t])).tr [s]).2))) (@rfl V (iV (0 : Int))) ?_
    refine R_pickF (Eq.trans (@rfl V (V.bool (decide (((((alR o.i o.tr [s]).2) ≠ (0 : Int)) ∨ (((alR ((alO o [s])).i ((alO o [s])).tr [t]).2) ≠ (0 : Int))) ∨ (((alR o.i o.tr [t]).2) ≠ (0 : Int)))))) (bdF g7)) (@rfl V (V.bool (decide (((alR ((alO o [t])).i ((alO o [t])).tr [s]).2) ≠ (0 : Int))))) ?_
    exact ⟨t3, t4, t5, t7, t10, (Eq.trans (@rfl V (V.bool (decide (((alR ((alO o [t])).i ((alO o [t])).tr [s]).2) ≠ (0 : Int))))) (dec_orF g7)), h3, h4, h5, h7, h10, h13, trivial⟩
  intro T H ⟨t3, t4, t5, t7, t10, t73, h3, h4, h5, h7, h10, h13, _⟩
  exact R_nil ⟨t3, t4, t5, t7, t10, t73, h3, h4, h5, h7, h10, h13, trivial⟩
 intro T H ⟨t3, t4, t5, t7, t10, t73, h3, h4, h5, h7, h10, h13, _⟩
 refine W_seq_if (p := (((((alR o.i o.tr [s]).2) ≠ (0 : Int)) ∨ (((alR ((alO o [s])).i ((alO o [s])).tr [t]).2) ≠ (0 : Int))) ∨ (((alR o.i o.tr [t]).2) ≠ (0 : Int))) ∨ (((alR ((alO o [t])).i ((alO o [t])).tr [s]).2) ≠ (0 : Int))) t73 (fun c8 => ?_) (fun c8 => ?_)
 ·
  refine W_seq_seq ?_
  refine W_seq_regc (fun T H => T 6 = (V.bool true) ∧ H 3 = (⟨1, true, false, 34, 2, [[(iV (o.i)), (V.sl (List.map cT (o.tr)))]]⟩ : Blk) ∧ H 4 = (⟨1, true, false, 63, 2, [[(V.sl (List.map cI (s.ni))), (V.sl (List.map cI (s.no)))]]⟩ : Blk) ∧ H 5 = (⟨1, true, false, 63, 2, [[(V.sl (List.map cI (t.ni))), (V.sl (List.map cI (t.no)))]]⟩ : Blk) ∧ H 7 = (⟨1, true, false, 34, 2, [[(iV ((alO ((alO o [s])) [t]).i)), (V.sl (List.map cT ((alO ((alO o [s])) [t]).tr)))]]⟩ : Blk) ∧ H 10 = (⟨1, true, false, 34, 2, [[(iV ((alO ((alO o [t])) [s]).i)), (V.sl (List.map cT ((alO ((alO o [t])) [s]).tr)))]]⟩ : Blk) ∧ H 13 = (⟨0, false, false, 0, 0, []⟩ : Blk) ∧ True) ?_ ?_
  ·
   unfold r12_8
   refine R_call evnil (aw_learnerlaw16_awake_pure) (fzv_mapcanon _ _ (by simp [-List.map_take, -List.map_drop, -List.map_append, -List.map_reverse])) (by simp [-List.map_take, -List.map_drop, -List.map_append, -List.map_reverse]) (Or.inl (by simp [-List.map_take, -List.map_drop, -List.map_append, -List.map_reverse])) ?_
   refine R_mv (@rfl V (V.bool true)) ?_
   exact R_nil ⟨rfl, h3, h4, h5, h7, h10, h13, trivial⟩
  intro T H ⟨t6, h3, h4, h5, h7, h10, h13, _⟩
  refine W_seq_ret ?_
  refine Ret_1 t6 (fz_canon (by simp) rfl)
 simp only [not_or, Decidable.not_not] at c8
 obtain ⟨k1, k2, k3, k4, k5, k6⟩ := order_all ho c8.1.1.1 c8.1.1.2 c8.1.2 c8.2
 have k7 := oval_of (alO_ok (l := [t]) (alO_ok (l := [s]) ho))
 refine W_seq_skip ?_
 refine W_seq_regc (fun T H => T 3 = (V.mp 3 1 0 0) ∧ T 4 = (V.mp 4 1 0 0) ∧ T 5 = (V.mp 5 1 0 0) ∧ T 7 = (V.mp 7 1 0 0) ∧ T 10 = (V.mp 10 1 0 0) ∧ T 13 = (V.mp 13 1 0 0) ∧ T 14 = (iV ((alR ((alO ((alO o [s])) [t])).i ((alO ((alO o [s])) [t])).tr [s]).2)) ∧ H 3 = (⟨1, true, false, 34, 2, [[(iV (o.i)), (V.sl (List.map cT (o.tr)))]]⟩ : Blk) ∧ H 4 = (⟨1, true, false, 63, 2, [[(V.sl (List.map cI (s.ni))), (V.sl (List.map cI (s.no)))]]⟩ : Blk) ∧ H 5 = (⟨1, true, false, 63, 2, [[(V.sl (List.map cI (t.ni))), (V.sl (List.map cI (t.no)))]]⟩ : Blk) ∧ H 7 = (⟨1, true, false, 34, 2, [[(iV ((alO ((alO o [s])) [t]).i)), (V.sl (List.map cT ((alO ((alO o [s])) [t]).tr)))]]⟩ : Blk) ∧ H 10 = (⟨1, true, false, 34, 2, [[(iV ((alO ((alO o [t])) [s]).i)), (V.sl (List.map cT ((alO ((alO o [t])) [s]).tr)))]]⟩ : Blk) ∧ H 13 = (⟨1, true, false, 34, 2, [[(iV ((alO ((alO ((alO o [s])) [t])) [s]).i)), (V.sl (List.map cT ((alO ((alO ((alO o [s])) [t])) [s]).tr)))]]⟩ : Blk) ∧ True) ?_ ?_
 ·
  unfold r12_9
  refine R_load_mp (v := (V.agg [(iV ((alO ((alO o [s])) [t]).i)), (V.sl (List.map cT ((alO ((alO o [s])) [t]).tr)))])) t7 h7 (by first | rfl | simp [ldB, ldV, Blk.own, V.one]) ?_
  refine R_load_mp (v := (V.agg [(V.sl (List.map cI (s.ni))), (V.sl (List.map cI (s.no)))])) t4 h4 (by first | rfl | simp [ldB, ldV, Blk.own, V.one]) ?_
  refine R_call (evcons (@rfl V (V.agg [(iV ((alO ((alO o [s])) [t]).i)), (V.sl (List.map cT ((alO ((alO o [s])) [t]).tr)))])) (evcons (@rfl V (V.agg [(V.sl (List.map cI (s.ni))), (V.sl (List.map cI (s.no)))])) evnil)) (oadd_pure ((alO ((alO o [s])) [t])) s (alO_ok (alO_ok ho))) (fzv_mapcanon _ _ (by simp [-List.map_take, -List.map_drop, -List.map_append, -List.map_reverse])) (by simp [-List.map_take, -List.map_drop, -List.map_append, -List.map_reverse]) (Or.inl (by simp [-List.map_take, -List.map_drop, -List.map_append, -List.map_reverse])) ?_
  refine R_mv (@rfl V (V.tup [(V.agg [(iV ((alO ((alO ((alO o [s])) [t])) [s]).i)), (V.sl (List.map cT ((alO ((alO ((alO o [s])) [t])) [s]).tr)))]), (iV ((alR ((alO ((alO o [s])) [t])).i ((alO ((alO o [s])) [t])).tr [s]).2))])) ?_
  refine R_ext (v := (V.agg [(iV ((alO ((alO ((alO o [s])) [t])) [s]).i)), (V.sl (List.map cT ((alO ((alO ((alO o [s])) [t])) [s]).tr)))])) (@rfl V (V.tup [(V.agg [(iV ((alO ((alO ((alO o [s])) [t])) [s]).i)), (V.sl (List.map cT ((alO ((alO ((alO o [s])) [t])) [s]).tr)))]), (iV ((alR ((alO ((alO o [s])) [t])).i ((alO ((alO o [s])) [t])).tr [s]).2))])) rfl ?_
  refine R_ext (v := (iV ((alR ((alO ((alO o [s])) [t])).i ((alO ((alO o [s])) [t])).tr [s]).2))) (@rfl V (V.tup [(V.agg [(iV ((alO ((alO ((alO o [s])) [t])) [s]).i)), (V.sl (List.map cT ((alO ((alO ((alO o [s])) [t])) [s]).tr)))]), (iV ((alR ((alO ((alO o [s])) [t])).i ((alO ((alO o [s])) [t])).tr [s]).2))])) rfl ?_
  refine R_alloc (i := 13) (n := 0) (m := 2) rfl (congrArg Blk.ver h13) rfl ?_
  refine R_store (vs := [(iV ((alO ((alO ((alO o [s])) [t])) [s]).i)), (V.sl (List.map cT ((alO ((alO ((alO o [s])) [t])) [s]).tr)))]) (B' := (⟨1, true, false, 34, 2, [[(iV ((alO ((alO ((alO o [s])) [t])) [s]).i)), (V.sl (List.map cT ((alO ((alO ((alO o [s])) [t])) [s]).tr)))]]⟩ : Blk)) (@rfl V (V.mp 13 1 0 0)) (@rfl V (V.agg [(iV ((alO ((alO ((alO o [s])) [t])) [s]).i)), (V.sl (List.map cT ((alO ((alO ((alO o [s])) [t])) [s]).tr)))])) rfl (@rfl Blk (⟨1, true, false, 34, 2, [[(iV (0 : Int)), V.nilsl]]⟩ : Blk)) (by first | rfl | simp [stB, okB, Blk.own, putAt, V.one]) ?_
  refine R_mv (@rfl V (iV ((alR ((alO ((alO o [s])) [t])).i ((alO ((alO o [s])) [t])).tr [s]).2))) ?_
  exact R_nil ⟨t3, t4, t5, t7, t10, rfl, rfl, h3, h4, h5, h7, h10, rfl, trivial⟩
 intro T H ⟨t3, t4, t5, t7, t10, t13, t14, h3, h4, h5, h7, h10, h13, _⟩
 refine W_seq_regc (fun T H => T 3 = (V.mp 3 1 0 0) ∧ T 4 = (V.mp 4 1 0 0) ∧ T 5 = (V.mp 5 1 0 0) ∧ T 7 = (V.mp 7 1 0 0) ∧ T 10 = (V.mp 10 1 0 0) ∧ T 13 = (V.mp 13 1 0 0) ∧ T 14 = (iV ((alR ((alO ((alO o [s])) [t])).i ((alO ((alO o [s])) [t])).tr [s]).2)) ∧ T 15 = (V.sl (List.map cI ((ans ((alO ((alO o [s])) [t])) s.ni).getD []))) ∧ T 16 = (V.bool ((ans ((alO ((alO o [s])) [t])) s.ni).isSome)) ∧ H 3 = (⟨1, true, false, 34, 2, [[(iV (o.i)), (V.sl (List.map cT (o.tr)))]]⟩ : Blk) ∧ H 4 = (⟨1, true, false, 63, 2, [[(V.sl (List.map cI (s.ni))), (V.sl (List.map cI (s.no)))]]⟩ : Blk) ∧ H 5 = (⟨1, true, false, 63, 2, [[(V.sl (List.map cI (t.ni))), (V.sl (List.map cI (t.no)))]]⟩ : Blk) ∧ H 7 = (⟨1, true, false, 34, 2, [[(iV ((alO ((alO o [s])) [t]).i)), (V.sl (List.map cT ((alO ((alO o [s])) [t]).tr)))]]⟩ : Blk) ∧ H 10 = (⟨1, true, false, 34, 2, [[(iV ((alO ((alO o [t])) [s]).i)), (V.sl (List.map cT ((alO ((alO o [t])) [s]).tr)))]]⟩ : Blk) ∧ H 13 = (⟨1, true, false, 34, 2, [[(iV ((alO ((alO ((alO o [s])) [t])) [s]).i)), (V.sl (List.map cT ((alO ((alO ((alO o [s])) [t])) [s]).tr)))]]⟩ : Blk) ∧ True) ?_ ?_
 ·
  unfold r12_10
  refine R_load_mp (v := (V.agg [(iV ((alO ((alO o [s])) [t]).i)), (V.sl (List.map cT ((alO ((alO o [s])) [t]).tr)))])) t7 h7 (by first | rfl | simp [ldB, ldV, Blk.own, V.one]) ?_
  refine R_fld_mp (o' := 0) t4 h4 (by first | rfl | simp [okB, Blk.own]) rfl ?_
  refine R_load_mp (v := (V.sl (List.map cI (s.ni)))) (@rfl V (V.mp 4 1 0 0)) h4 (by first | rfl | simp [ldB, ldV, Blk.own, V.one]) ?_
  refine R_call (evcons (@rfl V (V.agg [(iV ((alO ((alO o [s])) [t]).i)), (V.sl (List.map cT ((alO ((alO o [s])) [t]).tr)))])) (evcons (@rfl V (V.sl (List.map cI (s.ni)))) evnil)) (answer_pure ((alO ((alO o [s])) [t])) s.ni k7) (fzv_mapcanon _ _ (by simp [-List.map_take, -List.map_drop, -List.map_append, -List.map_reverse])) (by simp [-List.map_take, -List.map_drop, -List.map_append, -List.map_reverse]) (Or.inl (by simp [-List.map_take, -List.map_drop, -List.map_append, -List.map_reverse])) ?_
  refine R_mv (@rfl V (V.tup [(V.sl (List.map cI ((ans ((alO ((alO o [s])) [t])) s.ni).getD []))), (V.bool ((ans ((alO ((alO o [s])) [t])) s.ni).isSome))])) ?_
  refine R_ext (v := (V.sl (List.map cI ((ans ((alO ((alO o [s])) [t])) s.ni).getD [])))) (@rfl V (V.tup [(V.sl (List.map cI ((ans ((alO ((alO o [s])) [t])) s.ni).getD []))), (V.bool ((ans ((alO ((alO o [s])) [t])) s.ni).isSome))])) rfl ?_
  refine R_ext (v := (V.bool ((ans ((alO ((alO o [s])) [t])) s.ni).isSome))) (@rfl V (V.tup [(V.sl (List.map cI ((ans ((alO ((alO o [s])) [t])) s.ni).getD []))), (V.bool ((ans ((alO ((alO o [s])) [t])) s.ni).isSome))])) rfl ?_
  refine R_mv (@rfl V (V.sl (List.map cI ((ans ((alO ((alO o [s])) [t])) s.ni).getD [])))) ?_
  refine R_mv (@rfl V (V.bool ((ans ((alO ((alO o [s])) [t])) s.ni).isSome))) ?_
  exact R_nil ⟨t3, t4, t5, t7, t10, t13, t14, rfl, rfl, h3, h4, h5, h7, h10, h13, trivial⟩
 intro T H ⟨t3, t4, t5, t7, t10, t13, t14, t15, t16, h3, h4, h5, h7, h10, h13, _⟩
 refine W_seq_regc (fun T H => T 3 = (V.mp 3 1 0 0) ∧ T 4 = (V.mp 4 1 0 0) ∧ T 5 = (V.mp 5 1 0 0) ∧ T 7 = (V.mp 7 1 0 0) ∧ T 10 = (V.mp 10 1 0 0) ∧ T 13 = (V.mp 13 1 0 0) ∧ T 14 = (iV ((alR ((alO ((alO o [s])) [t])).i ((alO ((alO o [s])) [t])).tr [s]).2)) ∧ T 15 = (V.sl (List.map cI ((ans ((alO ((alO o [s])) [t])) s.ni).getD []))) ∧ T 16 = (V.bool ((ans ((alO ((alO o [s])) [t])) s.ni).isSome)) ∧ T 17 = (V.sl (List.map cI ((ans ((alO ((alO o [s])) [t])) t.ni).getD []))) ∧ T 18 = (V.bool ((ans ((alO ((alO o [s])) [t])) t.ni).isSome)) ∧ H 3 = (⟨1, true, false, 34, 2, [[(iV (o.i)), (V.sl (List.map cT (o.tr)))]]⟩ : Blk) ∧ H 4 = (⟨1, true, false, 63, 2, [[(V.sl (List.map cI (s.ni))), (V.sl (List.map cI (s.no)))]]⟩ : Blk) ∧ H 5 = (⟨1, true, false, 63, 2, [[(V.sl (List.map cI (t.ni))), (V.sl (List.map cI (t.no)))]]⟩ : Blk) ∧ H 7 = (⟨1, true, false, 34, 2, [[(iV ((alO ((alO o [s])) [t]).i)), (V.sl (List.map cT ((alO ((alO o [s])) [t]).tr)))]]⟩ : Blk) ∧ H 10 = (⟨1, true, false, 34, 2, [[(iV ((alO ((alO o [t])) [s]).i)), (V.sl (List.map cT ((alO ((alO o [t])) [s]).tr)))]]⟩ : Blk) ∧ H 13 = (⟨1, true, false, 34, 2, [[(iV ((alO ((alO ((alO o [s])) [t])) [s]).i)), (V.sl (List.map cT ((alO ((alO ((alO o [s])) [t])) [s]).tr)))]]⟩ : Blk) ∧ True) ?_ ?_
 ·
  unfold r12_11
  refine R_load_mp (v := (V.agg [(iV ((alO ((alO o [s])) [t]).i)), (V.sl (List.map cT ((alO ((alO o [s])) [t]).tr)))])) t7 h7 (by first | rfl | simp [ldB, ldV, Blk.own, V.one]) ?_
  refine R_fld_mp (o' := 0) t5 h5 (by first | rfl | simp [okB, Blk.own]) rfl ?_
  refine R_load_mp (v := (V.sl (List.map cI (t.ni)))) (@rfl V (V.mp 5 1 0 0)) h5 (by first | rfl | simp [ldB, ldV, Blk.own, V.one]) ?_
  refine R_call (evcons (@rfl V (V.agg [(iV ((alO ((alO o [s])) [t]).i)), (V.sl (List.map cT ((alO ((alO o [s])) [t]).tr)))])) (evcons (@rfl V (V.sl (List.map cI (t.ni)))) evnil)) (answer_pure ((alO ((alO o [s])) [t])) t.ni k7) (fzv_mapcanon _ _ (by simp [-List.map_take, -List.map_drop, -List.map_append, -List.map_reverse])) (by simp [-List.map_take, -List.map_drop, -List.map_append, -List.map_reverse]) (Or.inl (by simp [-List.map_take, -List.map_drop, -List.map_append, -List.map_reverse])) ?_
  refine R_mv (@rfl V (V.tup [(V.sl (List.map cI ((ans ((alO ((alO o [s])) [t])) t.ni).getD []))), (V.bool ((ans ((alO ((alO o [s])) [t])) t.ni).isSome))])) ?_
  refine R_ext (v := (V.sl (List.map cI ((ans ((alO ((alO o [s])) [t])) t.ni).getD [])))) (@rfl V (V.tup [(V.sl (List.map cI ((ans ((alO ((alO o [s])) [t])) t.ni).getD []))), (V.bool ((ans ((alO ((alO o [s])) [t])) t.ni).isSome))])) rfl ?_
  refine R_ext (v := (V.bool ((ans ((alO ((alO o [s])) [t])) t.ni).isSome))) (@rfl V (V.tup [(V.sl (List.map cI ((ans ((alO ((alO o [s])) [t])) t.ni).getD []))), (V.bool ((ans ((alO ((alO o [s])) [t])) t.ni).isSome))])) rfl ?_
  refine R_mv (@rfl V (V.sl (List.map cI ((ans ((alO ((alO o [s])) [t])) t.ni).getD [])))) ?_
  refine R_mv (@rfl V (V.bool ((ans ((alO ((alO o [s])) [t])) t.ni).isSome))) ?_
  exact R_nil ⟨t3, t4, t5, t7, t10, t13, t14, t15, t16, rfl, rfl, h3, h4, h5, h7, h10, h13, trivial⟩
 intro T H ⟨t3, t4, t5, t7, t10, t13, t14, t15, t16, t17, t18, h3, h4, h5, h7, h10, h13, _⟩
 refine W_seq_seq ?_
 refine W_seq_regc (fun T H => T 3 = (V.mp 3 1 0 0) ∧ T 7 = (V.mp 7 1 0 0) ∧ T 135 = (V.bool ((((((((((decide (((¬(((alO ((alO o [s])) [t])) = ((alO ((alO o [t])) [s])))) ∨ (¬(((alO ((alO o [s])) [t])) = ((alO ((alO ((alO o [s])) [t])) [s]))))) ∨ (((alR ((alO ((alO o [s])) [t])).i ((alO ((alO o [s])) [t])).tr [s]).2) ≠ (0 : Int))) || ((!(ans ((alO ((alO o [s])) [t])) s.ni).isSome)))) || ((!(ans ((alO ((alO o [s])) [t])) t.ni).isSome)))) || decide (¬(((ans ((alO ((alO o [s])) [t])) s.ni).getD []) = s.no)))) || decide (¬(((ans ((alO ((alO o [s])) [t])) t.ni).getD []) = t.no)))) || decide ((oval ((alO ((alO o [s])) [t]))) ≠ (0 : Int))))) ∧ H 3 = (⟨1, true, false, 34, 2, [[(iV (o.i)), (V.sl (List.map cT (o.tr)))]]⟩ : Blk) ∧ H 4 = (⟨1, true, false, 63, 2, [[(V.sl (List.map cI (s.ni))), (V.sl (List.map cI (s.no)))]]⟩ : Blk) ∧ H 5 = (⟨1, true, false, 63, 2, [[(V.sl (List.map cI (t.ni))), (V.sl (List.map cI (t.no)))]]⟩ : Blk) ∧ H 7 = (⟨1, true, false, 34, 2, [[(iV ((alO ((alO o [s])) [t]).i)), (V.sl (List.map cT ((alO ((alO o [s])) [t]).tr)))]]⟩ : Blk) ∧ H 10 = (⟨1, true, false, 34, 2, [[(iV ((alO ((alO o [t])) [s]).i)), (V.sl (List.map cT ((alO ((alO o [t])) [s]).tr)))]]⟩ : Blk) ∧ H 13 = (⟨1, true, false, 34, 2, [[(iV ((alO ((alO ((alO o [s])) [t])) [s]).i)), (V.sl (List.map cT ((alO ((alO ((alO o [s])) [t])) [s]).tr)))]]⟩ : Blk) ∧ True) ?_ ?_
 ·
  unfold r12_12
  refine R_load_mp (v := (V.agg [(iV ((alO ((alO o [s])) [t]).i)), (V.sl (List.map cT ((alO ((alO o [s])) [t]).tr)))])) t7 h7 (by first | rfl | simp [ldB, ldV, Blk.own, V.one]) ?_
  refine R_load_mp (v := (V.agg [(iV ((alO ((alO o [t])) [s]).i)), (V.sl (List.map cT ((alO ((alO o [t])) [s]).tr)))])) t10 h10 (by first | rfl | simp [ldB, ldV, Blk.own, V.one]) ?_
  refine R_call (evcons (@rfl V (V.agg [(iV ((alO ((alO o [s])) [t]).i)), (V.sl (List.map cT ((alO ((alO o [s])) [t]).tr)))])) (evcons (@rfl V (V.agg [(iV ((alO ((alO o [t])) [s]).i)), (V.sl (List.map cT ((alO ((alO o [t])) [s]).tr)))])) evnil)) (osame_pure ((alO ((alO o [s])) [t])) ((alO ((alO o [t])) [s]))) (fzv_mapcanon _ _ (by simp [-List.map_take, -List.map_drop, -List.map_append, -List.map_reverse])) (by simp [-List.map_take, -List.map_drop, -List.map_append, -List.map_reverse]) (Or.inl (by simp [-List.map_take, -List.map_drop, -List.map_append, -List.map_reverse])) ?_
  refine R_not (p := ((alO ((alO o [s])) [t])) = ((alO ((alO o [t])) [s]))) (@rfl V (V.bool (decide (((alO ((alO o [s])) [t])) = ((alO ((alO o [t])) [s])))))) ?_
  refine R_mv (@rfl V (V.bool (decide (¬(((alO ((alO o [s])) [t])) = ((alO ((alO o [t])) [s]))))))) ?_
  refine Ops_seg 5 (fun T H => T 3 = (V.mp 3 1 0 0) ∧ T 4 = (V.mp 4 1 0 0) ∧ T 5 = (V.mp 5 1 0 0) ∧ T 7 = (V.mp 7 1 0 0) ∧ T 14 = (iV ((alR ((alO ((alO o [s])) [t])).i ((alO ((alO o [s])) [t])).tr [s]).2)) ∧ T 15 = (V.sl (List.map cI ((ans ((alO ((alO o [s])) [t])) s.ni).getD []))) ∧ T 16 = (V.bool ((ans ((alO ((alO o [s])) [t])) s.ni).isSome)) ∧ T 17 = (V.sl (List.map cI ((ans ((alO ((alO o [s])) [t])) t.ni).getD []))) ∧ T 18 = (V.bool ((ans ((alO ((alO o [s])) [t])) t.ni).isSome)) ∧ T 104 = (V.bool (decide ((¬(((alO ((alO o [s])) [t])) = ((alO ((alO o [t])) [s])))) ∨ (¬(((alO ((alO o [s])) [t])) = ((alO ((alO ((alO o [s])) [t])) [s]))))))) ∧ H 3 = (⟨1, true, false, 34, 2, [[(iV (o.i)), (V.sl (List.map cT (o.tr)))]]⟩ : Blk) ∧ H 4 = (⟨1, true, false, 63, 2, [[(V.sl (List.map cI (s.ni))), (V.sl (List.map cI (s.no)))]]⟩ : Blk) ∧ H 5 = (⟨1, true, false, 63, 2, [[(V.sl (List.map cI (t.ni))), (V.sl (List.map cI (t.no)))]]⟩ : Blk) ∧ H 7 = (⟨1, true, false, 34, 2, [[(iV ((alO ((alO o [s])) [t]).i)), (V.sl (List.map cT ((alO ((alO o [s])) [t]).tr)))]]⟩ : Blk) ∧ H 10 = (⟨1, true, false, 34, 2, [[(iV ((alO ((alO o [t])) [s]).i)), (V.sl (List.map cT ((alO ((alO o [t])) [s]).tr)))]]⟩ : Blk) ∧ H 13 = (⟨1, true, false, 34, 2, [[(iV ((alO ((alO ((alO o [s])) [t])) [s]).i)), (V.sl (List.map cT ((alO ((alO ((alO o [s])) [t])) [s]).tr)))]]⟩ : Blk) ∧ True) ?_ ?_
  ·
   by_cases g9 : ¬(((alO ((alO o [s])) [t])) = ((alO ((alO o [t])) [s])))
   ·
    refine G_no (Eq.trans (@rfl V (V.bool (decide (¬(((alO ((alO o [s])) [t])) = ((alO ((alO o [t])) [s]))))))) (bdT g9)) (by decide) ?_
    refine G_no (Eq.trans (@rfl V (V.bool (decide (¬(((alO ((alO o [s])) [t])) = ((alO ((alO o [t])) [s]))))))) (bdT g9)) (by decide) ?_
    refine G_no (Eq.trans (@rfl V (V.bool (decide (¬(((alO ((alO o [s])) [t])) = ((alO ((alO o [t])) [s]))))))) (bdT g9)) (by decide) ?_
    refine G_no (Eq.trans (@rfl V (V.bool (decide (¬(((alO ((alO o [s])) [t])) = ((alO ((alO o [t])) [s]))))))) (bdT g9)) (by decide) ?_
    refine R_pickT (Eq.trans (@rfl V (V.bool (decide (¬(((alO ((alO o [s])) [t])) = ((alO ((alO o [t])) [s]))))))) (bdT g9)) (@rfl V (V.bool true)) ?_
    exact ⟨t3, t4, t5, t7, t14, t15, t16, t17, t18, (Eq.trans (@rfl V (V.bool true)) (dec_orT g9)), h3, h4, h5, h7, h10, h13, trivial⟩
   ·
    refine G_yes (Eq.trans (@rfl V (V.bool (decide (¬(((alO ((alO o [s])) [t])) = ((alO ((alO o [t])) [s]))))))) (bdF g9)) ?_
    refine R_load_mp (v := (V.agg [(iV ((alO ((alO o [s])) [t]).i)), (V.sl (List.map cT ((alO ((alO o [s])) [t]).tr)))])) t7 h7 (by first | rfl | simp [ldB, ldV, Blk.own, V.one]) ?_
    refine G_yes (Eq.trans (@rfl V (V.bool (decide (¬(((alO ((alO o [s])) [t])) = ((alO ((alO o [t])) [s]))))))) (bdF g9)) ?_
    refine R_load_mp (v := (V.agg [(iV ((alO ((alO ((alO o [s])) [t])) [s]).i)), (V.sl (List.map cT ((alO ((alO ((alO o [s])) [t])) [s]).tr)))])) t13 h13 (by first | rfl | simp [ldB, ldV, Blk.own, V.one]) ?_
    refine G_yes (Eq.trans (@rfl V (V.bool (decide (¬(((alO ((alO o [s])) [t])) = ((alO ((alO o [t])) [s]))))))) (bdF g9)) ?_
    refine R_call (evcons (@rfl V (V.agg [(iV ((alO ((alO o [s])) [t]).i)), (V.sl (List.map cT ((alO ((alO o [s])) [t]).tr)))])) (evcons (@rfl V (V.agg [(iV ((alO ((alO ((alO o [s])) [t])) [s]).i)), (V.sl (List.map cT ((alO ((alO ((alO o [s])) [t])) [s]).tr)))])) evnil)) (osame_pure ((alO ((alO o [s])) [t])) ((alO ((alO ((alO o [s])) [t])) [s]))) (fzv_mapcanon _ _ (by simp [-List.map_take, -List.map_drop, -List.map_append, -List.map_reverse])) (by simp [-List.map_take, -List.map_drop, -List.map_append, -List.map_reverse]) (Or.inl (by simp [-List.map_take, -List.map_drop, -List.map_append, -List.map_reverse])) ?_
    refine G_yes (Eq.trans (@rfl V (V.bool (decide (¬(((alO ((alO o [s])) [t])) = ((alO ((alO o [t])) [s]))))))) (bdF g9)) ?_
    refine R_not (p := ((alO ((alO o [s])) [t])) = ((alO ((alO ((alO o [s])) [t])) [s]))) (@rfl V (V.bool (decide (((alO ((alO o [s])) [t])) = ((alO ((alO ((alO o [s])) [t])) [s])))))) ?_
    refine R_pickF (Eq.trans (@rfl V (V.bool (decide (¬(((alO ((alO o [s])) [t])) = ((alO ((alO o [t])) [s]))))))) (bdF g9)) (@rfl V (V.bool (decide (¬(((alO ((alO o [s])) [t])) = ((alO ((alO ((alO o [s])) [t])) [s]))))))) ?_
    exact ⟨t3, t4, t5, t7, t14, t15, t16, t17, t18, (Eq.trans (@rfl V (V.bool (decide (¬(((alO ((alO o [s])) [t])) = ((alO ((alO ((alO o [s])) [t])) [s]))))))) (dec_orF g9)), h3, h4, h5, h7, h10, h13, trivial⟩
  intro T H ⟨t3, t4, t5, t7, t14, t15, t16, t17, t18, t104, h3, h4, h5, h7, h10, h13, _⟩
  refine R_mv t104 ?_
  refine Ops_seg 3 (fun T H => T 3 = (V.mp 3 1 0 0) ∧ T 4 = (V.mp 4 1 0 0) ∧ T 5 = (V.mp 5 1 0 0) ∧ T 7 = (V.mp 7 1 0 0) ∧ T 15 = (V.sl (List.map cI ((ans ((alO ((alO o [s])) [t])) s.ni).getD []))) ∧ T 16 = (V.bool ((ans ((alO ((alO o [s])) [t])) s.ni).isSome)) ∧ T 17 = (V.sl (List.map cI ((ans ((alO ((alO o [s])) [t])) t.ni).getD []))) ∧ T 18 = (V.bool ((ans ((alO ((alO o [s])) [t])) t.ni).isSome)) ∧ T 108 = (V.bool (decide (((¬(((alO ((alO o [s])) [t])) = ((alO ((alO o [t])) [s])))) ∨ (¬(((alO ((alO o [s])) [t])) = ((alO ((alO ((alO o [s])) [t])) [s]))))) ∨ (((alR ((alO ((alO o [s])) [t])).i ((alO ((alO o [s])) [t])).tr [s]).2) ≠ (0 : Int))))) ∧ H 3 = (⟨1, true, false, 34, 2, [[(iV (o.i)), (V.sl (List.map cT (o.tr)))]]⟩ : Blk) ∧ H 4 = (⟨1, true, false, 63, 2, [[(V.sl (List.map cI (s.ni))), (V.sl (List.map cI (s.no)))]]⟩ : Blk) ∧ H 5 = (⟨1, true, false, 63, 2, [[(V.sl (List.map cI (t.ni))), (V.sl (List.map cI (t.no)))]]⟩ : Blk) ∧ H 7 = (⟨1, true, false, 34, 2, [[(iV ((alO ((alO o [s])) [t]).i)), (V.sl (List.map cT ((alO ((alO o [s])) [t]).tr)))]]⟩ : Blk) ∧ H 10 = (⟨1, true, false, 34, 2, [[(iV ((alO ((alO o [t])) [s]).i)), (V.sl (List.map cT ((alO ((alO o [t])) [s]).tr)))]]⟩ : Blk) ∧ H 13 = (⟨1, true, false, 34, 2, [[(iV ((alO ((alO ((alO o [s])) [t])) [s]).i)), (V.sl (List.map cT ((alO ((alO ((alO o [s])) [t])) [s]).tr)))]]⟩ : Blk) ∧ True) ?_ ?_
  ·
   by_cases g10 : (¬(((alO ((alO o [s])) [t])) = ((alO ((alO o [t])) [s])))) ∨ (¬(((alO ((alO o [s])) [t])) = ((alO ((alO ((alO o [s])) [t])) [s]))))
   ·
    refine G_no (Eq.trans (@rfl V (V.bool (decide ((¬(((alO ((alO o [s])) [t])) = ((alO ((alO o [t])) [s])))) ∨ (¬(((alO ((alO o [s])) [t])) = ((alO ((alO ((alO o [s])) [t])) [s])))))))) (bdT g10)) (by decide) ?_
    refine G_no (Eq.trans (@rfl V (V.bool (decide ((¬(((alO ((alO o [s])) [t])) = ((alO ((alO o [t])) [s])))) ∨ (¬(((alO ((alO o [s])) [t])) = ((alO ((alO ((alO o [s])) [t])) [s])))))))) (bdT g10)) (by decide) ?_
    refine R_pickT (Eq.trans (@rfl V (V.bool (decide ((¬(((alO ((alO o [s])) [t])) = ((alO ((alO o [t])) [s])))) ∨ (¬(((alO ((alO o [s])) [t])) = ((alO ((alO ((alO o [s])) [t])) [s])))))))) (bdT g10)) (@rfl V (V.bool true)) ?_
    exact ⟨t3, t4, t5, t7, t15, t16, t17, t18, (Eq.trans (@rfl V (V.bool true)) (dec_orT g10)), h3, h4, h5, h7, h10, h13, trivial⟩
   ·
    refine G_yes (Eq.trans (@rfl V (V.bool (decide ((¬(((alO ((alO o [s])) [t])) = ((alO ((alO o [t])) [s])))) ∨ (¬(((alO ((alO o [s])) [t])) = ((alO ((alO ((alO o [s])) [t])) [s])))))))) (bdF g10)) ?_
    refine R_mv t14 ?_
    refine G_yes (Eq.trans (@rfl V (V.bool (decide ((¬(((alO ((alO o [s])) [t])) = ((alO ((alO o [t])) [s])))) ∨ (¬(((alO ((alO o [s])) [t])) = ((alO ((alO ((alO o [s])) [t])) [s])))))))) (bdF g10)) ?_
    refine R_neq (x := ((alR ((alO ((alO o [s])) [t])).i ((alO ((alO o [s])) [t])).tr [s]).2)) (y := (0 : Int)) (@rfl V (iV ((alR ((alO ((alO o [s])) [t])).i ((alO ((alO o [s])) [t])).tr [s]).2))) (@rfl V (iV (0 : Int))) ?_
    refine R_pickF (Eq.trans (@rfl V (V.bool (decide ((¬(((alO ((alO o [s])) [t])) = ((alO ((alO o [t])) [s])))) ∨ (¬(((alO ((alO o [s])) [t])) = ((alO ((alO ((alO o [s])) [t])) [s])))))))) (bdF g10)) (@rfl V (V.bool (decide (((alR ((alO ((alO o [s])) [t])).i ((alO ((alO o [s])) [t])).tr [s]).2) ≠ (0 : Int))))) ?_
    exact ⟨t3, t4, t5, t7, t15, t16, t17, t18, (Eq.trans (@rfl V (V.bool (decide (((alR ((alO ((alO o [s])) [t])).i ((alO ((alO o [s])) [t])).tr [s]).2) ≠ (0 : Int))))) (dec_orF g10)), h3, h4, h5, h7, h10, h13, trivial⟩
  intro T H ⟨t3, t4, t5, t7, t15, t16, t17, t18, t108, h3, h4, h5, h7, h10, h13, _⟩
  refine R_mv t108 ?_
  refine Ops_seg 3 (fun T H => T 3 = (V.mp 3 1 0 0) ∧ T 4 = (V.mp 4 1 0 0) ∧ T 5 = (V.mp 5 1 0 0) ∧ T 7 = (V.mp 7 1 0 0) ∧ T 15 = (V.sl (List.map cI ((ans ((alO ((alO o [s])) [t])) s.ni).getD []))) ∧ T 17 = (V.sl (List.map cI ((ans ((alO ((alO o [s])) [t])) t.ni).getD []))) ∧ T 18 = (V.bool ((ans ((alO ((alO o [s])) [t])) t.ni).isSome)) ∧ T 112 = (V.bool ((decide (((¬(((alO ((alO o [s])) [t])) = ((alO ((alO o [t])) [s])))) ∨ (¬(((alO ((alO o [s])) [t])) = ((alO ((alO ((alO o [s])) [t])) [s]))))) ∨ (((alR ((alO ((alO o [s])) [t])).i ((alO ((alO o [s])) [t])).tr [s]).2) ≠ (0 : Int))) || ((!(ans ((alO ((alO o [s])) [t])) s.ni).isSome))))) ∧ H 3 = (⟨1, true, false, 34, 2, [[(iV (o.i)), (V.sl (List.map cT (o.tr)))]]⟩ : Blk) ∧ H 4 = (⟨1, true, false, 63, 2, [[(V.sl (List.map cI (s.ni))), (V.sl (List.map cI (s.no)))]]⟩ : Blk) ∧ H 5 = (⟨1, true, false, 63, 2, [[(V.sl (List.map cI (t.ni))), (V.sl (List.map cI (t.no)))]]⟩ : Blk) ∧ H 7 = (⟨1, true, false, 34, 2, [[(iV ((alO ((alO o [s])) [t]).i)), (V.sl (List.map cT ((alO ((alO o [s])) [t]).tr)))]]⟩ : Blk) ∧ H 10 = (⟨1, true, false, 34, 2, [[(iV ((alO ((alO o [t])) [s]).i)), (V.sl (List.map cT ((alO ((alO o [t])) [s]).tr)))]]⟩ : Blk) ∧ H 13 = (⟨1, true, false, 34, 2, [[(iV ((alO ((alO ((alO o [s])) [t])) [s]).i)), (V.sl (List.map cT ((alO ((alO ((alO o [s])) [t])) [s]).tr)))]]⟩ : Blk) ∧ True) ?_ ?_
  ·
   by_cases g11 : ((¬(((alO ((alO o [s])) [t])) = ((alO ((alO o [t])) [s])))) ∨ (¬(((alO ((alO o [s])) [t])) = ((alO ((alO ((alO o [s])) [t])) [s]))))) ∨ (((alR ((alO ((alO o [s])) [t])).i ((alO ((alO o [s])) [t])).tr [s]).2) ≠ (0 : Int))
   ·
    refine G_no (Eq.trans (@rfl V (V.bool (decide (((¬(((alO ((alO o [s])) [t])) = ((alO ((alO o [t])) [s])))) ∨ (¬(((alO ((alO o [s])) [t])) = ((alO ((alO ((alO o [s])) [t])) [s]))))) ∨ (((alR ((alO ((alO o [s])) [t])).i ((alO ((alO o [s])) [t])).tr [s]).2) ≠ (0 : Int)))))) (bdT g11)) (by decide) ?_
    refine G_no (Eq.trans (@rfl V (V.bool (decide (((¬(((alO ((alO o [s])) [t])) = ((alO ((alO o [t])) [s])))) ∨ (¬(((alO ((alO o [s])) [t])) = ((alO ((alO ((alO o [s])) [t])) [s]))))) ∨ (((alR ((alO ((alO o [s])) [t])).i ((alO ((alO o [s])) [t])).tr [s]).2) ≠ (0 : Int)))))) (bdT g11)) (by decide) ?_
    refine R_pickT (Eq.trans (@rfl V (V.bool (decide (((¬(((alO ((alO o [s])) [t])) = ((alO ((alO o [t])) [s])))) ∨ (¬(((alO ((alO o [s])) [t])) = ((alO ((alO ((alO o [s])) [t])) [s]))))) ∨ (((alR ((alO ((alO o [s])) [t])).i ((alO ((alO o [s])) [t])).tr [s]).2) ≠ (0 : Int)))))) (bdT g11)) (@rfl V (V.bool true)) ?_
    exact ⟨t3, t4, t5, t7, t15, t17, t18, (Eq.trans (@rfl V (V.bool true)) (dborT g11)), h3, h4, h5, h7, h10, h13, trivial⟩
   ·
    refine G_yes (Eq.trans (@rfl V (V.bool (decide (((¬(((alO ((alO o [s])) [t])) = ((alO ((alO o [t])) [s])))) ∨ (¬(((alO ((alO o [s])) [t])) = ((alO ((alO ((alO o [s])) [t])) [s]))))) ∨ (((alR ((alO ((alO o [s])) [t])).i ((alO ((alO o [s])) [t])).tr [s]).2) ≠ (0 : Int)))))) (bdF g11)) ?_
    refine R_mv t16 ?_
    refine G_yes (Eq.trans (@rfl V (V.bool (decide (((¬(((alO ((alO o [s])) [t])) = ((alO ((alO o [t])) [s])))) ∨ (¬(((alO ((alO o [s])) [t])) = ((alO ((alO ((alO o [s])) [t])) [s]))))) ∨ (((alR ((alO ((alO o [s])) [t])).i ((alO ((alO o [s])) [t])).tr [s]).2) ≠ (0 : Int)))))) (bdF g11)) ?_
    refine R_notb (@rfl V (V.bool ((ans ((alO ((alO o [s])) [t])) s.ni).isSome))) ?_
    refine R_pickF (Eq.trans (@rfl V (V.bool (decide (((¬(((alO ((alO o [s])) [t])) = ((alO ((alO o [t])) [s])))) ∨ (¬(((alO ((alO o [s])) [t])) = ((alO ((alO ((alO o [s])) [t])) [s]))))) ∨ (((alR ((alO ((alO o [s])) [t])).i ((alO ((alO o [s])) [t])).tr [s]).2) ≠ (0 : Int)))))) (bdF g11)) (@rfl V (V.bool ((!(ans ((alO ((alO o [s])) [t])) s.ni).isSome)))) ?_
    exact ⟨t3, t4, t5, t7, t15, t17, t18, (Eq.trans (@rfl V (V.bool ((!(ans ((alO ((alO o [s])) [t])) s.ni).isSome)))) (dborF g11)), h3, h4, h5, h7, h10, h13, trivial⟩
  intro T H ⟨t3, t4, t5, t7, t15, t17, t18, t112, h3, h4, h5, h7, h10, h13, _⟩
  refine R_mv t112 ?_
  refine Ops_seg 3 (fun T H => T 3 = (V.mp 3 1 0 0) ∧ T 4 = (V.mp 4 1 0 0) ∧ T 5 = (V.mp 5 1 0 0) ∧ T 7 = (V.mp 7 1 0 0) ∧ T 15 = (V.sl (List.map cI ((ans ((alO ((alO o [s])) [t])) s.ni).getD []))) ∧ T 17 = (V.sl (List.map cI ((ans ((alO ((alO o [s])) [t])) t.ni).getD []))) ∧ T 116 = (V.bool ((((decide (((¬(((alO ((alO o [s])) [t])) = ((alO ((alO o [t])) [s])))) ∨ (¬(((alO ((alO o [s])) [t])) = ((alO ((alO ((alO o [s])) [t])) [s]))))) ∨ (((alR ((alO ((alO o [s])) [t])).i ((alO ((alO o [s])) [t])).tr [s]).2) ≠ (0 : Int))) || ((!(ans ((alO ((alO o [s])) [t])) s.ni).isSome)))) || ((!(ans ((alO ((alO o [s])) [t])) t.ni).isSome))))) ∧ H 3 = (⟨1, true, false, 34, 2, [[(iV (o.i)), (V.sl (List.map cT (o.tr)))]]⟩ : Blk) ∧ H 4 = (⟨1, true, false, 63, 2, [[(V.sl (List.map cI (s.ni))), (V.sl (List.map cI (s.no)))]]⟩ : Blk) ∧ H 5 = (⟨1, true, false, 63, 2, [[(V.sl (List.map cI (t.ni))), (V.sl (List.map cI (t.no)))]]⟩ : Blk) ∧ H 7 = (⟨1, true, false, 34, 2, [[(iV ((alO ((alO o [s])) [t]).i)), (V.sl (List.map cT ((alO ((alO o [s])) [t]).tr)))]]⟩ : Blk) ∧ H 10 = (⟨1, true, false, 34, 2, [[(iV ((alO ((alO o [t])) [s]).i)), (V.sl (List.map cT ((alO ((alO o [t])) [s]).tr)))]]⟩ : Blk) ∧ H 13 = (⟨1, true, false, 34, 2, [[(iV ((alO ((alO ((alO o [s])) [t])) [s]).i)), (V.sl (List.map cT ((alO ((alO ((alO o [s])) [t])) [s]).tr)))]]⟩ : Blk) ∧ True) ?_ ?_
  ·
   by_cases g12 : ((decide (((¬(((alO ((alO o [s])) [t])) = ((alO ((alO o [t])) [s])))) ∨ (¬(((alO ((alO o [s])) [t])) = ((alO ((alO ((alO o [s])) [t])) [s]))))) ∨ (((alR ((alO ((alO o [s])) [t])).i ((alO ((alO o [s])) [t])).tr [s]).2) ≠ (0 : Int))) || ((!(ans ((alO ((alO o [s])) [t])) s.ni).isSome)))) = true
   ·
    refine G_no (Eq.trans (@rfl V (V.bool ((decide (((¬(((alO ((alO o [s])) [t])) = ((alO ((alO o [t])) [s])))) ∨ (¬(((alO ((alO o [s])) [t])) = ((alO ((alO ((alO o [s])) [t])) [s]))))) ∨ (((alR ((alO ((alO o [s])) [t])).i ((alO ((alO o [s])) [t])).tr [s]).2) ≠ (0 : Int))) || ((!(ans ((alO ((alO o [s])) [t])) s.ni).isSome)))))) (bbT g12)) (by decide) ?_
    refine G_no (Eq.trans (@rfl V (V.bool ((decide (((¬(((alO ((alO o [s])) [t])) = ((alO ((alO o [t])) [s])))) ∨ (¬(((alO ((alO o [s])) [t])) = ((alO ((alO ((alO o [s])) [t])) [s]))))) ∨ (((alR ((alO ((alO o [s])) [t])).i ((alO ((alO o [s])) [t])).tr [s]).2) ≠ (0 : Int))) || ((!(ans ((alO ((alO o [s])) [t])) s.ni).isSome)))))) (bbT g12)) (by decide) ?_
    refine R_pickT (Eq.trans (@rfl V (V.bool ((decide (((¬(((alO ((alO o [s])) [t])) = ((alO ((alO o [t])) [s])))) ∨ (¬(((alO ((alO o [s])) [t])) = ((alO ((alO ((alO o [s])) [t])) [s]))))) ∨ (((alR ((alO ((alO o [s])) [t])).i ((alO ((alO o [s])) [t])).tr [s]).2) ≠ (0 : Int))) || ((!(ans ((alO ((alO o [s])) [t])) s.ni).isSome)))))) (bbT g12)) (@rfl V (V.bool true)) ?_
    exact ⟨t3, t4, t5, t7, t15, t17, (Eq.trans (@rfl V (V.bool true)) (borT g12)), h3, h4, h5, h7, h10, h13, trivial⟩
   ·
    refine G_yes (Eq.trans (@rfl V (V.bool ((decide (((¬(((alO ((alO o [s])) [t])) = ((alO ((alO o [t])) [s])))) ∨ (¬(((alO ((alO o [s])) [t])) = ((alO ((alO ((alO o [s])) [t])) [s]))))) ∨ (((alR ((alO ((alO o [s])) [t])).i ((alO ((alO o [s])) [t])).tr [s]).2) ≠ (0 : Int))) || ((!(ans ((alO ((alO o [s])) [t])) s.ni).isSome)))))) (bbF g12)) ?_
    refine R_mv t18 ?_
    refine G_yes (Eq.trans (@rfl V (V.bool ((decide (((¬(((alO ((alO o [s])) [t])) = ((alO ((alO o [t])) [s])))) ∨ (¬(((alO ((alO o [s])) [t])) = ((alO ((alO ((alO o [s])) [t])) [s]))))) ∨ (((alR ((alO ((alO o [s])) [t])).i ((alO ((alO o [s])) [t])).tr [s]).2) ≠ (0 : Int))) || ((!(ans ((alO ((alO o [s])) [t])) s.ni).isSome)))))) (bbF g12)) ?_
    refine R_notb (@rfl V (V.bool ((ans ((alO ((alO o [s])) [t])) t.ni).isSome))) ?_
    refine R_pickF (Eq.trans (@rfl V (V.bool ((decide (((¬(((alO ((alO o [s])) [t])) = ((alO ((alO o [t])) [s])))) ∨ (¬(((alO ((alO o [s])) [t])) = ((alO ((alO ((alO o [s])) [t])) [s]))))) ∨ (((alR ((alO ((alO o [s])) [t])).i ((alO ((alO o [s])) [t])).tr [s]).2) ≠ (0 : Int))) || ((!(ans ((alO ((alO o [s])) [t])) s.ni).isSome)))))) (bbF g12)) (@rfl V (V.bool ((!(ans ((alO ((alO o [s])) [t])) t.ni).isSome)))) ?_
    exact ⟨t3, t4, t5, t7, t15, t17, (Eq.trans (@rfl V (V.bool ((!(ans ((alO ((alO o [s])) [t])) t.ni).isSome)))) (borF g12)), h3, h4, h5, h7, h10, h13, trivial⟩
  intro T H ⟨t3, t4, t5, t7, t15, t17, t116, h3, h4, h5, h7, h10, h13, _⟩
  refine R_mv t116 ?_
  refine Ops_seg 6 (fun T H => T 3 = (V.mp 3 1 0 0) ∧ T 5 = (V.mp 5 1 0 0) ∧ T 7 = (V.mp 7 1 0 0) ∧ T 17 = (V.sl (List.map cI ((ans ((alO ((alO o [s])) [t])) t.ni).getD []))) ∧ T 123 = (V.bool ((((((decide (((¬(((alO ((alO o [s])) [t])) = ((alO ((alO o [t])) [s])))) ∨ (¬(((alO ((alO o [s])) [t])) = ((alO ((alO ((alO o [s])) [t])) [s]))))) ∨ (((alR ((alO ((alO o [s])) [t])).i ((alO ((alO o [s])) [t])).tr [s]).2) ≠ (0 : Int))) || ((!(ans ((alO ((alO o [s])) [t])) s.ni).isSome)))) || ((!(ans ((alO ((alO o [s])) [t])) t.ni).isSome)))) || decide (¬(((ans ((alO ((alO o [s])) [t])) s.ni).getD []) = s.no))))) ∧ H 3 = (⟨1, true, false, 34, 2, [[(iV (o.i)), (V.sl (List.map cT (o.tr)))]]⟩ : Blk) ∧ H 4 = (⟨1, true, false, 63, 2, [[(V.sl (List.map cI (s.ni))), (V.sl (List.map cI (s.no)))]]⟩ : Blk) ∧ H 5 = (⟨1, true, false, 63, 2, [[(V.sl (List.map cI (t.ni))), (V.sl (List.map cI (t.no)))]]⟩ : Blk) ∧ H 7 = (⟨1, true, false, 34, 2, [[(iV ((alO ((alO o [s])) [t]).i)), (V.sl (List.map cT ((alO ((alO o [s])) [t]).tr)))]]⟩ : Blk) ∧ H 10 = (⟨1, true, false, 34, 2, [[(iV ((alO ((alO o [t])) [s]).i)), (V.sl (List.map cT ((alO ((alO o [t])) [s]).tr)))]]⟩ : Blk) ∧ H 13 = (⟨1, true, false, 34, 2, [[(iV ((alO ((alO ((alO o [s])) [t])) [s]).i)), (V.sl (List.map cT ((alO ((alO ((alO o [s])) [t])) [s]).tr)))]]⟩ : Blk) ∧ True) ?_ ?_
  ·
   by_cases g13 : ((((decide (((¬(((alO ((alO o [s])) [t])) = ((alO ((alO o [t])) [s])))) ∨ (¬(((alO ((alO o [s])) [t])) = ((alO ((alO ((alO o [s])) [t])) [s]))))) ∨ (((alR ((alO ((alO o [s])) [t])).i ((alO ((alO o [s])) [t])).tr [s]).2) ≠ (0 : Int))) || ((!(ans ((alO ((alO o [s])) [t])) s.ni).isSome)))) || ((!(ans ((alO ((alO o [s])) [t])) t.ni).isSome)))) = true
   ·
    refine G_no (Eq.trans (@rfl V (V.bool ((((decide (((¬(((alO ((alO o [s])) [t])) = ((alO ((alO o [t])) [s])))) ∨ (¬(((alO ((alO o [s])) [t])) = ((alO ((alO ((alO o [s])) [t])) [s]))))) ∨ (((alR ((alO ((alO o [s])) [t])).i ((alO ((alO o [s])) [t])).tr [s]).2) ≠ (0 : Int))) || ((!(ans ((alO ((alO o [s])) [t])) s.ni).isSome)))) || ((!(ans ((alO ((alO o [s])) [t])) t.ni).isSome)))))) (bbT g13)) (by decide) ?_
    refine G_no (Eq.trans (@rfl V (V.bool ((((decide (((¬(((alO ((alO o [s])) [t])) = ((alO ((alO o [t])) [s])))) ∨ (¬(((alO ((alO o [s])) [t])) = ((alO ((alO ((alO o [s])) [t])) [s]))))) ∨ (((alR ((alO ((alO o [s])) [t])).i ((alO ((alO o [s])) [t])).tr [s]).2) ≠ (0 : Int))) || ((!(ans ((alO ((alO o [s])) [t])) s.ni).isSome)))) || ((!(ans ((alO ((alO o [s])) [t])) t.ni).isSome)))))) (bbT g13)) (by decide) ?_
    refine G_no (Eq.trans (@rfl V (V.bool ((((decide (((¬(((alO ((alO o [s])) [t])) = ((alO ((alO o [t])) [s])))) ∨ (¬(((alO ((alO o [s])) [t])) = ((alO ((alO ((alO o [s])) [t])) [s]))))) ∨ (((alR ((alO ((alO o [s])) [t])).i ((alO ((alO o [s])) [t])).tr [s]).2) ≠ (0 : Int))) || ((!(ans ((alO ((alO o [s])) [t])) s.ni).isSome)))) || ((!(ans ((alO ((alO o [s])) [t])) t.ni).isSome)))))) (bbT g13)) (by decide) ?_
    refine G_no (Eq.trans (@rfl V (V.bool ((((decide (((¬(((alO ((alO o [s])) [t])) = ((alO ((alO o [t])) [s])))) ∨ (¬(((alO ((alO o [s])) [t])) = ((alO ((alO ((alO o [s])) [t])) [s]))))) ∨ (((alR ((alO ((alO o [s])) [t])).i ((alO ((alO o [s])) [t])).tr [s]).2) ≠ (0 : Int))) || ((!(ans ((alO ((alO o [s])) [t])) s.ni).isSome)))) || ((!(ans ((alO ((alO o [s])) [t])) t.ni).isSome)))))) (bbT g13)) (by decide) ?_
    refine G_no (Eq.trans (@rfl V (V.bool ((((decide (((¬(((alO ((alO o [s])) [t])) = ((alO ((alO o [t])) [s])))) ∨ (¬(((alO ((alO o [s])) [t])) = ((alO ((alO ((alO o [s])) [t])) [s]))))) ∨ (((alR ((alO ((alO o [s])) [t])).i ((alO ((alO o [s])) [t])).tr [s]).2) ≠ (0 : Int))) || ((!(ans ((alO ((alO o [s])) [t])) s.ni).isSome)))) || ((!(ans ((alO ((alO o [s])) [t])) t.ni).isSome)))))) (bbT g13)) (by decide) ?_
    refine R_pickT (Eq.trans (@rfl V (V.bool ((((decide (((¬(((alO ((alO o [s])) [t])) = ((alO ((alO o [t])) [s])))) ∨ (¬(((alO ((alO o [s])) [t])) = ((alO ((alO ((alO o [s])) [t])) [s]))))) ∨ (((alR ((alO ((alO o [s])) [t])).i ((alO ((alO o [s])) [t])).tr [s]).2) ≠ (0 : Int))) || ((!(ans ((alO ((alO o [s])) [t])) s.ni).isSome)))) || ((!(ans ((alO ((alO o [s])) [t])) t.ni).isSome)))))) (bbT g13)) (@rfl V (V.bool true)) ?_
    exact ⟨t3, t5, t7, t17, (Eq.trans (@rfl V (V.bool true)) (borT g13)), h3, h4, h5, h7, h10, h13, trivial⟩
   ·
    refine G_yes (Eq.trans (@rfl V (V.bool ((((decide (((¬(((alO ((alO o [s])) [t])) = ((alO ((alO o [t])) [s])))) ∨ (¬(((alO ((alO o [s])) [t])) = ((alO ((alO ((alO o [s])) [t])) [s]))))) ∨ (((alR ((alO ((alO o [s])) [t])).i ((alO ((alO o [s])) [t])).tr [s]).2) ≠ (0 : Int))) || ((!(ans ((alO ((alO o [s])) [t])) s.ni).isSome)))) || ((!(ans ((alO ((alO o [s])) [t])) t.ni).isSome)))))) (bbF g13)) ?_
    refine R_mv t15 ?_
    refine G_yes (Eq.trans (@rfl V (V.bool ((((decide (((¬(((alO ((alO o [s])) [t])) = ((alO ((alO o [t])) [s])))) ∨ (¬(((alO ((alO o [s])) [t])) = ((alO ((alO ((alO o [s])) [t])) [s]))))) ∨ (((alR ((alO ((alO o [s])) [t])).i ((alO ((alO o [s])) [t])).tr [s]).2) ≠ (0 : Int))) || ((!(ans ((alO ((alO o [s])) [t])) s.ni).isSome)))) || ((!(ans ((alO ((alO o [s])) [t])) t.ni).isSome)))))) (bbF g13)) ?_
    refine R_fld_mp (o' := 1) t4 h4 (by first | rfl | simp [okB, Blk.own]) rfl ?_
    refine G_yes (Eq.trans (@rfl V (V.bool ((((decide (((¬(((alO ((alO o [s])) [t])) = ((alO ((alO o [t])) [s])))) ∨ (¬(((alO ((alO o [s])) [t])) = ((alO ((alO ((alO o [s])) [t])) [s]))))) ∨ (((alR ((alO ((alO o [s])) [t])).i ((alO ((alO o [s])) [t])).tr [s]).2) ≠ (0 : Int))) || ((!(ans ((alO ((alO o [s])) [t])) s.ni).isSome)))) || ((!(ans ((alO ((alO o [s])) [t])) t.ni).isSome)))))) (bbF g13)) ?_
    refine R_load_mp (v := (V.sl (List.map cI (s.no)))) (@rfl V (V.mp 4 1 0 1)) h4 (by first | rfl | simp [ldB, ldV, Blk.own, V.one]) ?_
    refine G_yes (Eq.trans (@rfl V (V.bool ((((decide (((¬(((alO ((alO o [s])) [t])) = ((alO ((alO o [t])) [s])))) ∨ (¬(((alO ((alO o [s])) [t])) = ((alO ((alO ((alO o [s])) [t])) [s]))))) ∨ (((alR ((alO ((alO o [s])) [t])).i ((alO ((alO o [s])) [t])).tr [s]).2) ≠ (0 : Int))) || ((!(ans ((alO ((alO o [s])) [t])) s.ni).isSome)))) || ((!(ans ((alO ((alO o [s])) [t])) t.ni).isSome)))))) (bbF g13)) ?_
    refine R_call (evcons (@rfl V (V.sl (List.map cI ((ans ((alO ((alO o [s])) [t])) s.ni).getD [])))) (evcons (@rfl V (V.sl (List.map cI (s.no)))) evnil)) (ints_pure ((ans ((alO ((alO o [s])) [t])) s.ni).getD []) s.no) (fzv_mapcanon _ _ (by simp [-List.map_take, -List.map_drop, -List.map_append, -List.map_reverse])) (by simp [-List.map_take, -List.map_drop, -List.map_append, -List.map_reverse]) (Or.inl (by simp [-List.map_take, -List.map_drop, -List.map_append, -List.map_reverse])) ?_
    refine G_yes (Eq.trans (@rfl V (V.bool ((((decide (((¬(((alO ((alO o [s])) [t])) = ((alO ((alO o [t])) [s])))) ∨ (¬(((alO ((alO o [s])) [t])) = ((alO ((alO ((alO o [s])) [t])) [s]))))) ∨ (((alR ((alO ((alO o [s])) [t])).i ((alO ((alO o [s])) [t])).tr [s]).2) ≠ (0 : Int))) || ((!(ans ((alO ((alO o [s])) [t])) s.ni).isSome)))) || ((!(ans ((alO ((alO o [s])) [t])) t.ni).isSome)))))) (bbF g13)) ?_
    refine R_not (p := ((ans ((alO ((alO o [s])) [t])) s.ni).getD []) = s.no) (@rfl V (V.bool (decide (((ans ((alO ((alO o [s])) [t])) s.ni).getD []) = s.no)))) ?_
    refine R_pickF (Eq.trans (@rfl V (V.bool ((((decide (((¬(((alO ((alO o [s])) [t])) = ((alO ((alO o [t])) [s])))) ∨ (¬(((alO ((alO o [s])) [t])) = ((alO ((alO ((alO o [s])) [t])) [s]))))) ∨ (((alR ((alO ((alO o [s])) [t])).i ((alO ((alO o [s])) [t])).tr [s]).2) ≠ (0 : Int))) || ((!(ans ((alO ((alO o [s])) [t])) s.ni).isSome)))) || ((!(ans ((alO ((alO o [s])) [t])) t.ni).isSome)))))) (bbF g13)) (@rfl V (V.bool (decide (¬(((ans ((alO ((alO o [s])) [t])) s.ni).getD []) = s.no))))) ?_
    exact ⟨t3, t5, t7, t17, (Eq.trans (@rfl V (V.bool (decide (¬(((ans ((alO ((alO o [s])) [t])) s.ni).getD []) = s.no))))) (borF g13)), h3, h4, h5, h7, h10, h13, trivial⟩
  intro T H ⟨t3, t5, t7, t17, t123, h3, h4, h5, h7, h10, h13, _⟩
  refine R_mv t123 ?_
  refine Ops_seg 6 (fun T H => T 3 = (V.mp 3 1 0 0) ∧ T 7 = (V.mp 7 1 0 0) ∧ T 130 = (V.bool ((((((((decide (((¬(((alO ((alO o [s])) [t])) = ((alO ((alO o [t])) [s])))) ∨ (¬(((alO ((alO o [s])) [t])) = ((alO ((alO ((alO o [s])) [t])) [s]))))) ∨ (((alR ((alO ((alO o [s])) [t])).i ((alO ((alO o [s])) [t])).tr [s]).2) ≠ (0 : Int))) || ((!(ans ((alO ((alO o [s])) [t])) s.ni).isSome)))) || ((!(ans ((alO ((alO o [s])) [t])) t.ni).isSome)))) || decide (¬(((ans ((alO ((alO o [s])) [t])) s.ni).getD []) = s.no)))) || decide (¬(((ans ((alO ((alO o [s])) [t])) t.ni).getD []) = t.no))))) ∧ H 3 = (⟨1, true, false, 34, 2, [[(iV (o.i)), (V.sl (List.map cT (o.tr)))]]⟩ : Blk) ∧ H 4 = (⟨1, true, false, 63, 2, [[(V.sl (List.map cI (s.ni))), (V.sl (List.map cI (s.no)))]]⟩ : Blk) ∧ H 5 = (⟨1, true, false, 63, 2, [[(V.sl (List.map cI (t.ni))), (V.sl (List.map cI (t.no)))]]⟩ : Blk) ∧ H 7 = (⟨1, true, false, 34, 2, [[(iV ((alO ((alO o [s])) [t]).i)), (V.sl (List.map cT ((alO ((alO o [s])) [t]).tr)))]]⟩ : Blk) ∧ H 10 = (⟨1, true, false, 34, 2, [[(iV ((alO ((alO o [t])) [s]).i)), (V.sl (List.map cT ((alO ((alO o [t])) [s]).tr)))]]⟩ : Blk) ∧ H 13 = (⟨1, true, false, 34, 2, [[(iV ((alO ((alO ((alO o [s])) [t])) [s]).i)), (V.sl (List.map cT ((alO ((alO ((alO o [s])) [t])) [s]).tr)))]]⟩ : Blk) ∧ True) ?_ ?_
  ·
   by_cases g14 : ((((((decide (((¬(((alO ((alO o [s])) [t])) = ((alO ((alO o [t])) [s])))) ∨ (¬(((alO ((alO o [s])) [t])) = ((alO ((alO ((alO o [s])) [t])) [s]))))) ∨ (((alR ((alO ((alO o [s])) [t])).i ((alO ((alO o [s])) [t])).tr [s]).2) ≠ (0 : Int))) || ((!(ans ((alO ((alO o [s])) [t])) s.ni).isSome)))) || ((!(ans ((alO ((alO o [s])) [t])) t.ni).isSome)))) || decide (¬(((ans ((alO ((alO o [s])) [t])) s.ni).getD []) = s.no)))) = true
   ·
    refine G_no (Eq.trans (@rfl V (V.bool ((((((decide (((¬(((alO ((alO o [s])) [t])) = ((alO ((alO o [t])) [s])))) ∨ (¬(((alO ((alO o [s])) [t])) = ((alO ((alO ((alO o [s])) [t])) [s]))))) ∨ (((alR ((alO ((alO o [s])) [t])).i ((alO ((alO o [s])) [t])).tr [s]).2) ≠ (0 : Int))) || ((!(ans ((alO ((alO o [s])) [t])) s.ni).isSome)))) || ((!(ans ((alO ((alO o [s])) [t])) t.ni).isSome)))) || decide (¬(((ans ((alO ((alO o [s])) [t])) s.ni).getD []) = s.no)))))) (bbT g14)) (by decide) ?_
    refine G_no (Eq.trans (@rfl V (V.bool ((((((decide (((¬(((alO ((alO o [s])) [t])) = ((alO ((alO o [t])) [s])))) ∨ (¬(((alO ((alO o [s])) [t])) = ((alO ((alO ((alO o [s])) [t])) [s]))))) ∨ (((alR ((alO ((alO o [s])) [t])).i ((alO ((alO o [s])) [t])).tr [s]).2) ≠ (0 : Int))) || ((!(ans ((alO ((alO o [s])) [t])) s.ni).isSome)))) || ((!(ans ((alO ((alO o [s])) [t])) t.ni).isSome)))) || decide (¬(((ans ((alO ((alO o [s])) [t])) s.ni).getD []) = s.no)))))) (bbT g14)) (by decide) ?_
    refine G_no (Eq.trans (@rfl V (V.bool ((((((decide (((¬(((alO ((alO o [s])) [t])) = ((alO ((alO o [t])) [s])))) ∨ (¬(((alO ((alO o [s])) [t])) = ((alO ((alO ((alO o [s])) [t])) [s]))))) ∨ (((alR ((alO ((alO o [s])) [t])).i ((alO ((alO o [s])) [t])).tr [s]).2) ≠ (0 : Int))) || ((!(ans ((alO ((alO o [s])) [t])) s.ni).isSome)))) || ((!(ans ((alO ((alO o [s])) [t])) t.ni).isSome)))) || decide (¬(((ans ((alO ((alO o [s])) [t])) s.ni).getD []) = s.no)))))) (bbT g14)) (by decide) ?_
    refine G_no (Eq.trans (@rfl V (V.bool ((((((decide (((¬(((alO ((alO o [s])) [t])) = ((alO ((alO o [t])) [s])))) ∨ (¬(((alO ((alO o [s])) [t])) = ((alO ((alO ((alO o [s])) [t])) [s]))))) ∨ (((alR ((alO ((alO o [s])) [t])).i ((alO ((alO o [s])) [t])).tr [s]).2) ≠ (0 : Int))) || ((!(ans ((alO ((alO o [s])) [t])) s.ni).isSome)))) || ((!(ans ((alO ((alO o [s])) [t])) t.ni).isSome)))) || decide (¬(((ans ((alO ((alO o [s])) [t])) s.ni).getD []) = s.no)))))) (bbT g14)) (by decide) ?_
    refine G_no (Eq.trans (@rfl V (V.bool ((((((decide (((¬(((alO ((alO o [s])) [t])) = ((alO ((alO o [t])) [s])))) ∨ (¬(((alO ((alO o [s])) [t])) = ((alO ((alO ((alO o [s])) [t])) [s]))))) ∨ (((alR ((alO ((alO o [s])) [t])).i ((alO ((alO o [s])) [t])).tr [s]).2) ≠ (0 : Int))) || ((!(ans ((alO ((alO o [s])) [t])) s.ni).isSome)))) || ((!(ans ((alO ((alO o [s])) [t])) t.ni).isSome)))) || decide (¬(((ans ((alO ((alO o [s])) [t])) s.ni).getD []) = s.no)))))) (bbT g14)) (by decide) ?_
    refine R_pickT (Eq.trans (@rfl V (V.bool ((((((decide (((¬(((alO ((alO o [s])) [t])) = ((alO ((alO o [t])) [s])))) ∨ (¬(((alO ((alO o [s])) [t])) = ((alO ((alO ((alO o [s])) [t])) [s]))))) ∨ (((alR ((alO ((alO o [s])) [t])).i ((alO ((alO o [s])) [t])).tr [s]).2) ≠ (0 : Int))) || ((!(ans ((alO ((alO o [s])) [t])) s.ni).isSome)))) || ((!(ans ((alO ((alO o [s])) [t])) t.ni).isSome)))) || decide (¬(((ans ((alO ((alO o [s])) [t])) s.ni).getD []) = s.no)))))) (bbT g14)) (@rfl V (V.bool true)) ?_
    exact ⟨t3, t7, (Eq.trans (@rfl V (V.bool true)) (borT g14)), h3, h4, h5, h7, h10, h13, trivial⟩
   ·
    refine G_yes (Eq.trans (@rfl V (V.bool ((((((decide (((¬(((alO ((alO o [s])) [t])) = ((alO ((alO o [t])) [s])))) ∨ (¬(((alO ((alO o [s])) [t])) = ((alO ((alO ((alO o [s])) [t])) [s]))))) ∨ (((alR ((alO ((alO o [s])) [t])).i ((alO ((alO o [s])) [t])).tr [s]).2) ≠ (0 : Int))) || ((!(ans ((alO ((alO o [s])) [t])) s.ni).isSome)))) || ((!(ans ((alO ((alO o [s])) [t])) t.ni).isSome)))) || decide (¬(((ans ((alO ((alO o [s])) [t])) s.ni).getD []) = s.no)))))) (bbF g14)) ?_
    refine R_mv t17 ?_
    refine G_yes (Eq.trans (@rfl V (V.bool ((((((decide (((¬(((alO ((alO o [s])) [t])) = ((alO ((alO o [t])) [s])))) ∨ (¬(((alO ((alO o [s])) [t])) = ((alO ((alO ((alO o [s])) [t])) [s]))))) ∨ (((alR ((alO ((alO o [s])) [t])).i ((alO ((alO o [s])) [t])).tr [s]).2) ≠ (0 : Int))) || ((!(ans ((alO ((alO o [s])) [t])) s.ni).isSome)))) || ((!(ans ((alO ((alO o [s])) [t])) t.ni).isSome)))) || decide (¬(((ans ((alO ((alO o [s])) [t])) s.ni).getD []) = s.no)))))) (bbF g14)) ?_
    refine R_fld_mp (o' := 1) t5 h5 (by first | rfl | simp [okB, Blk.own]) rfl ?_
    refine G_yes (Eq.trans (@rfl V (V.bool ((((((decide (((¬(((alO ((alO o [s])) [t])) = ((alO ((alO o [t])) [s])))) ∨ (¬(((alO ((alO o [s])) [t])) = ((alO ((alO ((alO o [s])) [t])) [s]))))) ∨ (((alR ((alO ((alO o [s])) [t])).i ((alO ((alO o [s])) [t])).tr [s]).2) ≠ (0 : Int))) || ((!(ans ((alO ((alO o [s])) [t])) s.ni).isSome)))) || ((!(ans ((alO ((alO o [s])) [t])) t.ni).isSome)))) || decide (¬(((ans ((alO ((alO o [s])) [t])) s.ni).getD []) = s.no)))))) (bbF g14)) ?_
    refine R_load_mp (v := (V.sl (List.map cI (t.no)))) (@rfl V (V.mp 5 1 0 1)) h5 (by first | rfl | simp [ldB, ldV, Blk.own, V.one]) ?_
    refine G_yes (Eq.trans (@rfl V (V.bool ((((((decide (((¬(((alO ((alO o [s])) [t])) = ((alO ((alO o [t])) [s])))) ∨ (¬(((alO ((alO o [s])) [t])) = ((alO ((alO ((alO o [s])) [t])) [s]))))) ∨ (((alR ((alO ((alO o [s])) [t])).i ((alO ((alO o [s])) [t])).tr [s]).2) ≠ (0 : Int))) || ((!(ans ((alO ((alO o [s])) [t])) s.ni).isSome)))) || ((!(ans ((alO ((alO o [s])) [t])) t.ni).isSome)))) || decide (¬(((ans ((alO ((alO o [s])) [t])) s.ni).getD []) = s.no)))))) (bbF g14)) ?_
    refine R_call (evcons (@rfl V (V.sl (List.map cI ((ans ((alO ((alO o [s])) [t])) t.ni).getD [])))) (evcons (@rfl V (V.sl (List.map cI (t.no)))) evnil)) (ints_pure ((ans ((alO ((alO o [s])) [t])) t.ni).getD []) t.no) (fzv_mapcanon _ _ (by simp [-List.map_take, -List.map_drop, -List.map_append, -List.map_reverse])) (by simp [-List.map_take, -List.map_drop, -List.map_append, -List.map_reverse]) (Or.inl (by simp [-List.map_take, -List.map_drop, -List.map_append, -List.map_reverse])) ?_
    refine G_yes (Eq.trans (@rfl V (V.bool ((((((decide (((¬(((alO ((alO o [s])) [t])) = ((alO ((alO o [t])) [s])))) ∨ (¬(((alO ((alO o [s])) [t])) = ((alO ((alO ((alO o [s])) [t])) [s]))))) ∨ (((alR ((alO ((alO o [s])) [t])).i ((alO ((alO o [s])) [t])).tr [s]).2) ≠ (0 : Int))) || ((!(ans ((alO ((alO o [s])) [t])) s.ni).isSome)))) || ((!(ans ((alO ((alO o [s])) [t])) t.ni).isSome)))) || decide (¬(((ans ((alO ((alO o [s])) [t])) s.ni).getD []) = s.no)))))) (bbF g14)) ?_
    refine R_not (p := ((ans ((alO ((alO o [s])) [t])) t.ni).getD []) = t.no) (@rfl V (V.bool (decide (((ans ((alO ((alO o [s])) [t])) t.ni).getD []) = t.no)))) ?_
    refine R_pickF (Eq.trans (@rfl V (V.bool ((((((decide (((¬(((alO ((alO o [s])) [t])) = ((alO ((alO o [t])) [s])))) ∨ (¬(((alO ((alO o [s])) [t])) = ((alO ((alO ((alO o [s])) [t])) [s]))))) ∨ (((alR ((alO ((alO o [s])) [t])).i ((alO ((alO o [s])) [t])).tr [s]).2) ≠ (0 : Int))) || ((!(ans ((alO ((alO o [s])) [t])) s.ni).isSome)))) || ((!(ans ((alO ((alO o [s])) [t])) t.ni).isSome)))) || decide (¬(((ans ((alO ((alO o [s])) [t])) s.ni).getD []) = s.no)))))) (bbF g14)) (@rfl V (V.bool (decide (¬(((ans ((alO ((alO o [s])) [t])) t.ni).getD []) = t.no))))) ?_
    exact ⟨t3, t7, (Eq.trans (@rfl V (V.bool (decide (¬(((ans ((alO ((alO o [s])) [t])) t.ni).getD []) = t.no))))) (borF g14)), h3, h4, h5, h7, h10, h13, trivial⟩
  intro T H ⟨t3, t7, t130, h3, h4, h5, h7, h10, h13, _⟩
  refine R_mv t130 ?_
  refine Ops_seg 4 (fun T H => T 3 = (V.mp 3 1 0 0) ∧ T 7 = (V.mp 7 1 0 0) ∧ T 135 = (V.bool ((((((((((decide (((¬(((alO ((alO o [s])) [t])) = ((alO ((alO o [t])) [s])))) ∨ (¬(((alO ((alO o [s])) [t])) = ((alO ((alO ((alO o [s])) [t])) [s]))))) ∨ (((alR ((alO ((alO o [s])) [t])).i ((alO ((alO o [s])) [t])).tr [s]).2) ≠ (0 : Int))) || ((!(ans ((alO ((alO o [s])) [t])) s.ni).isSome)))) || ((!(ans ((alO ((alO o [s])) [t])) t.ni).isSome)))) || decide (¬(((ans ((alO ((alO o [s])) [t])) s.ni).getD []) = s.no)))) || decide (¬(((ans ((alO ((alO o [s])) [t])) t.ni).getD []) = t.no)))) || decide ((oval ((alO ((alO o [s])) [t]))) ≠ (0 : Int))))) ∧ H 3 = (⟨1, true, false, 34, 2, [[(iV (o.i)), (V.sl (List.map cT (o.tr)))]]⟩ : Blk) ∧ H 4 = (⟨1, true, false, 63, 2, [[(V.sl (List.map cI (s.ni))), (V.sl (List.map cI (s.no)))]]⟩ : Blk) ∧ H 5 = (⟨1, true, false, 63, 2, [[(V.sl (List.map cI (t.ni))), (V.sl (List.map cI (t.no)))]]⟩ : Blk) ∧ H 7 = (⟨1, true, false, 34, 2, [[(iV ((alO ((alO o [s])) [t]).i)), (V.sl (List.map cT ((alO ((alO o [s])) [t]).tr)))]]⟩ : Blk) ∧ H 10 = (⟨1, true, false, 34, 2, [[(iV ((alO ((alO o [t])) [s]).i)), (V.sl (List.map cT ((alO ((alO o [t])) [s]).tr)))]]⟩ : Blk) ∧ H 13 = (⟨1, true, false, 34, 2, [[(iV ((alO ((alO ((alO o [s])) [t])) [s]).i)), (V.sl (List.map cT ((alO ((alO ((alO o [s])) [t])) [s]).tr)))]]⟩ : Blk) ∧ True) ?_ ?_
  ·
   by_cases g15 : ((((((((decide (((¬(((alO ((alO o [s])) [t])) = ((alO ((alO o [t])) [s])))) ∨ (¬(((alO ((alO o [s])) [t])) = ((alO ((alO ((alO o [s])) [t])) [s]))))) ∨ (((alR ((alO ((alO o [s])) [t])).i ((alO ((alO o [s])) [t])).tr [s]).2) ≠ (0 : Int))) || ((!(ans ((alO ((alO o [s])) [t])) s.ni).isSome)))) || ((!(ans ((alO ((alO o [s])) [t])) t.ni).isSome)))) || decide (¬(((ans ((alO ((alO o [s])) [t])) s.ni).getD []) = s.no)))) || decide (¬(((ans ((alO ((alO o [s])) [t])) t.ni).getD []) = t.no)))) = true
   ·
    refine G_no (Eq.trans (@rfl V (V.bool ((((((((decide (((¬(((alO ((alO o [s])) [t])) = ((alO ((alO o [t])) [s])))) ∨ (¬(((alO ((alO o [s])) [t])) = ((alO ((alO ((alO o [s])) [t])) [s]))))) ∨ (((alR ((alO ((alO o [s])) [t])).i ((alO ((alO o [s])) [t])).tr [s]).2) ≠ (0 : Int))) || ((!(ans ((alO ((alO o [s])) [t])) s.ni).isSome)))) || ((!(ans ((alO ((alO o [s])) [t])) t.ni).isSome)))) || decide (¬(((ans ((alO ((alO o [s])) [t])) s.ni).getD []) = s.no)))) || decide (¬(((ans ((alO ((alO o [s])) [t])) t.ni).getD []) = t.no)))))) (bbT g15)) (by decide) ?_
    refine G_no (Eq.trans (@rfl V (V.bool ((((((((decide (((¬(((alO ((alO o [s])) [t])) = ((alO ((alO o [t])) [s])))) ∨ (¬(((alO ((alO o [s])) [t])) = ((alO ((alO ((alO o [s])) [t])) [s]))))) ∨ (((alR ((alO ((alO o [s])) [t])).i ((alO ((alO o [s])) [t])).tr [s]).2) ≠ (0 : Int))) || ((!(ans ((alO ((alO o [s])) [t])) s.ni).isSome)))) || ((!(ans ((alO ((alO o [s])) [t])) t.ni).isSome)))) || decide (¬(((ans ((alO ((alO o [s])) [t])) s.ni).getD []) = s.no)))) || decide (¬(((ans ((alO ((alO o [s])) [t])) t.ni).getD []) = t.no)))))) (bbT g15)) (by decide) ?_
    refine G_no (Eq.trans (@rfl V (V.bool ((((((((decide (((¬(((alO ((alO o [s])) [t])) = ((alO ((alO o [t])) [s])))) ∨ (¬(((alO ((alO o [s])) [t])) = ((alO ((alO ((alO o [s])) [t])) [s]))))) ∨ (((alR ((alO ((alO o [s])) [t])).i ((alO ((alO o [s])) [t])).tr [s]).2) ≠ (0 : Int))) || ((!(ans ((alO ((alO o [s])) [t])) s.ni).isSome)))) || ((!(ans ((alO ((alO o [s])) [t])) t.ni).isSome)))) || decide (¬(((ans ((alO ((alO o [s])) [t])) s.ni).getD []) = s.no)))) || decide (¬(((ans ((alO ((alO o [s])) [t])) t.ni).getD []) = t.no)))))) (bbT g15)) (by decide) ?_
    refine R_pickT (Eq.trans (@rfl V (V.bool ((((((((decide (((¬(((alO ((alO o [s])) [t])) = ((alO ((alO o [t])) [s])))) ∨ (¬(((alO ((alO o [s])) [t])) = ((alO ((alO ((alO o [s])) [t])) [s]))))) ∨ (((alR ((alO ((alO o [s])) [t])).i ((alO ((alO o [s])) [t])).tr [s]).2) ≠ (0 : Int))) || ((!(ans ((alO ((alO o [s])) [t])) s.ni).isSome)))) || ((!(ans ((alO ((alO o [s])) [t])) t.ni).isSome)))) || decide (¬(((ans ((alO ((alO o [s])) [t])) s.ni).getD []) = s.no)))) || decide (¬(((ans ((alO ((alO o [s])) [t])) t.ni).getD []) = t.no)))))) (bbT g15)) (@rfl V (V.bool true)) ?_
    exact ⟨t3, t7, (Eq.trans (@rfl V (V.bool true)) (borT g15)), h3, h4, h5, h7, h10, h13, trivial⟩
   ·
    refine G_yes (Eq.trans (@rfl V (V.bool ((((((((decide (((¬(((alO ((alO o [s])) [t])) = ((alO ((alO o [t])) [s])))) ∨ (¬(((alO ((alO o [s])) [t])) = ((alO ((alO ((alO o [s])) [t])) [s]))))) ∨ (((alR ((alO ((alO o [s])) [t])).i ((alO ((alO o [s])) [t])).tr [s]).2) ≠ (0 : Int))) || ((!(ans ((alO ((alO o [s])) [t])) s.ni).isSome)))) || ((!(ans ((alO ((alO o [s])) [t])) t.ni).isSome)))) || decide (¬(((ans ((alO ((alO o [s])) [t])) s.ni).getD []) = s.no)))) || decide (¬(((ans ((alO ((alO o [s])) [t])) t.ni).getD []) = t.no)))))) (bbF g15)) ?_
    refine R_load_mp (v := (V.agg [(iV ((alO ((alO o [s])) [t]).i)), (V.sl (List.map cT ((alO ((alO o [s])) [t]).tr)))])) t7 h7 (by first | rfl | simp [ldB, ldV, Blk.own, V.one]) ?_
    refine G_yes (Eq.trans (@rfl V (V.bool ((((((((decide (((¬(((alO ((alO o [s])) [t])) = ((alO ((alO o [t])) [s])))) ∨ (¬(((alO ((alO o [s])) [t])) = ((alO ((alO ((alO o [s])) [t])) [s]))))) ∨ (((alR ((alO ((alO o [s])) [t])).i ((alO ((alO o [s])) [t])).tr [s]).2) ≠ (0 : Int))) || ((!(ans ((alO ((alO o [s])) [t])) s.ni).isSome)))) || ((!(ans ((alO ((alO o [s])) [t])) t.ni).isSome)))) || decide (¬(((ans ((alO ((alO o [s])) [t])) s.ni).getD []) = s.no)))) || decide (¬(((ans ((alO ((alO o [s])) [t])) t.ni).getD []) = t.no)))))) (bbF g15)) ?_
    refine R_call (evcons (@rfl V (V.agg [(iV ((alO ((alO o [s])) [t]).i)), (V.sl (List.map cT ((alO ((alO o [s])) [t]).tr)))])) evnil) (oval_pure ((alO ((alO o [s])) [t]))) (fzv_mapcanon _ _ (by simp [-List.map_take, -List.map_drop, -List.map_append, -List.map_reverse])) (by simp [-List.map_take, -List.map_drop, -List.map_append, -List.map_reverse]) (Or.inl (by simp [-List.map_take, -List.map_drop, -List.map_append, -List.map_reverse])) ?_
    refine G_yes (Eq.trans (@rfl V (V.bool ((((((((decide (((¬(((alO ((alO o [s])) [t])) = ((alO ((alO o [t])) [s])))) ∨ (¬(((alO ((alO o [s])) [t])) = ((alO ((alO ((alO o [s])) [t])) [s]))))) ∨ (((alR ((alO ((alO o [s])) [t])).i ((alO ((alO o [s])) [t])).tr [s]).2) ≠ (0 : Int))) || ((!(ans ((alO ((alO o [s])) [t])) s.ni).isSome)))) || ((!(ans ((alO ((alO o [s])) [t])) t.ni).isSome)))) || decide (¬(((ans ((alO ((alO o [s])) [t])) s.ni).getD []) = s.no)))) || decide (¬(((ans ((alO ((alO o [s])) [t])) t.ni).getD []) = t.no)))))) (bbF g15)) ?_
    refine R_neq (x := (oval ((alO ((alO o [s])) [t])))) (y := (0 : Int)) (@rfl V (iV (oval ((alO ((alO o [s])) [t]))))) (@rfl V (iV (0 : Int))) ?_
    refine R_pickF (Eq.trans (@rfl V (V.bool ((((((((decide (((¬(((alO ((alO o [s])) [t])) = ((alO ((alO o [t])) [s])))) ∨ (¬(((alO ((alO o [s])) [t])) = ((alO ((alO ((alO o [s])) [t])) [s]))))) ∨ (((alR ((alO ((alO o [s])) [t])).i ((alO ((alO o [s])) [t])).tr [s]).2) ≠ (0 : Int))) || ((!(ans ((alO ((alO o [s])) [t])) s.ni).isSome)))) || ((!(ans ((alO ((alO o [s])) [t])) t.ni).isSome)))) || decide (¬(((ans ((alO ((alO o [s])) [t])) s.ni).getD []) = s.no)))) || decide (¬(((ans ((alO ((alO o [s])) [t])) t.ni).getD []) = t.no)))))) (bbF g15)) (@rfl V (V.bool (decide ((oval ((alO ((alO o [s])) [t]))) ≠ (0 : Int))))) ?_
    exact ⟨t3, t7, (Eq.trans (@rfl V (V.bool (decide ((oval ((alO ((alO o [s])) [t]))) ≠ (0 : Int))))) (borF g15)), h3, h4, h5, h7, h10, h13, trivial⟩
  intro T H ⟨t3, t7, t135, h3, h4, h5, h7, h10, h13, _⟩
  exact R_nil ⟨t3, t7, t135, h3, h4, h5, h7, h10, h13, trivial⟩
 intro T H ⟨t3, t7, t135, h3, h4, h5, h7, h10, h13, _⟩
 refine W_seq_ifb t135 (fun c16 => ?_) (fun c16 => ?_)
 · exfalso; rw [← k1] at c16; simp [k2, k3, k4, k5, k7] at c16
 refine W_seq_skip ?_
 refine W_seq_seq ?_
 refine W_seq_regc (fun T H => T 3 = (V.mp 3 1 0 0) ∧ T 7 = (V.mp 7 1 0 0) ∧ T 19 = (iV (0 : Int)) ∧ H 3 = (⟨1, true, false, 34, 2, [[(iV (o.i)), (V.sl (List.map cT (o.tr)))]]⟩ : Blk) ∧ H 4 = (⟨1, true, false, 63, 2, [[(V.sl (List.map cI (s.ni))), (V.sl (List.map cI (s.no)))]]⟩ : Blk) ∧ H 5 = (⟨1, true, false, 63, 2, [[(V.sl (List.map cI (t.ni))), (V.sl (List.map cI (t.no)))]]⟩ : Blk) ∧ H 7 = (⟨1, true, false, 34, 2, [[(iV ((alO ((alO o [s])) [t]).i)), (V.sl (List.map cT ((alO ((alO o [s])) [t]).tr)))]]⟩ : Blk) ∧ H 10 = (⟨1, true, false, 34, 2, [[(iV ((alO ((alO o [t])) [s]).i)), (V.sl (List.map cT ((alO ((alO o [t])) [s]).tr)))]]⟩ : Blk) ∧ H 13 = (⟨1, true, false, 34, 2, [[(iV ((alO ((alO ((alO o [s])) [t])) [s]).i)), (V.sl (List.map cT ((alO ((alO ((alO o [s])) [t])) [s]).tr)))]]⟩ : Blk) ∧ True) ?_ ?_
 ·
  unfold r12_14
  refine R_mv (@rfl V (iV (0 : Int))) ?_
  exact R_nil ⟨t3, t7, rfl, h3, h4, h5, h7, h10, h13, trivial⟩
 intro T H ⟨t3, t7, t19, h3, h4, h5, h7, h10, h13, _⟩
 refine W_seq_blockg fun Q17 n17 x17 y17 z17 => ?_
 refine W_loop (fun mm T H => ∃ (k : Nat), mm = o.tr.length - k ∧ T 3 = (V.mp 3 1 0 0) ∧ T 7 = (V.mp 7 1 0 0) ∧ T 19 = (iV ((k : Nat) : Int)) ∧ H 3 = (⟨1, true, false, 34, 2, [[(iV (o.i)), (V.sl (List.map cT (o.tr)))]]⟩ : Blk) ∧ H 4 = (⟨1, true, false, 63, 2, [[(V.sl (List.map cI (s.ni))), (V.sl (List.map cI (s.no)))]]⟩ : Blk) ∧ H 5 = (⟨1, true, false, 63, 2, [[(V.sl (List.map cI (t.ni))), (V.sl (List.map cI (t.no)))]]⟩ : Blk) ∧ H 7 = (⟨1, true, false, 34, 2, [[(iV ((alO ((alO o [s])) [t]).i)), (V.sl (List.map cT ((alO ((alO o [s])) [t]).tr)))]]⟩ : Blk) ∧ H 10 = (⟨1, true, false, 34, 2, [[(iV ((alO ((alO o [t])) [s]).i)), (V.sl (List.map cT ((alO ((alO o [t])) [s]).tr)))]]⟩ : Blk) ∧ H 13 = (⟨1, true, false, 34, 2, [[(iV ((alO ((alO ((alO o [s])) [t])) [s]).i)), (V.sl (List.map cT ((alO ((alO ((alO o [s])) [t])) [s]).tr)))]]⟩ : Blk) ∧ (k ≤ o.tr.length)) ?_ ?_
 ·
  refine ⟨_, 0, rfl, t3, t7, (Eq.trans t19 (by first | rfl | simp)), h3, h4, h5, h7, h10, h13, ?_⟩
  · omega
 intro mm T H ⟨k, hmm, t3, t7, t19, h3, h4, h5, h7, h10, h13, hk⟩ Q18 p118 p218 p318
 unfold b12_0
 refine W_seq_seq ?_
 refine W_seq_regc (fun T H => T 3 = (V.mp 3 1 0 0) ∧ T 7 = (V.mp 7 1 0 0) ∧ T 19 = (iV ((k : Nat) : Int)) ∧ T 140 = (V.bool (decide (((k : Nat) : Int) < ((o.tr.length : Nat) : Int)))) ∧ H 3 = (⟨1, true, false, 34, 2, [[(iV (o.i)), (V.sl (List.map cT (o.tr)))]]⟩ : Blk) ∧ H 4 = (⟨1, true, false, 63, 2, [[(V.sl (List.map cI (s.ni))), (V.sl (List.map cI (s.no)))]]⟩ : Blk) ∧ H 5 = (⟨1, true, false, 63, 2, [[(V.sl (List.map cI (t.ni))), (V.sl (List.map cI (t.no)))]]⟩ : Blk) ∧ H 7 = (⟨1, true, false, 34, 2, [[(iV ((alO ((alO o [s])) [t]).i)), (V.sl (List.map cT ((alO ((alO o [s])) [t]).tr)))]]⟩ : Blk) ∧ H 10 = (⟨1, true, false, 34, 2, [[(iV ((alO ((alO o [t])) [s]).i)), (V.sl (List.map cT ((alO ((alO o [t])) [s]).tr)))]]⟩ : Blk) ∧ H 13 = (⟨1, true, false, 34, 2, [[(iV ((alO ((alO ((alO o [s])) [t])) [s]).i)), (V.sl (List.map cT ((alO ((alO ((alO o [s])) [t])) [s]).tr)))]]⟩ : Blk) ∧ True) ?_ ?_
 ·
  unfold r12_15
  refine R_mv t19 ?_
  refine R_fld_mp (o' := 1) t3 h3 (by first | rfl | simp [okB, Blk.own]) rfl ?_
  refine R_load_mp (v := (V.sl (List.map cT (o.tr)))) (@rfl V (V.mp 3 1 0 1)) h3 (by first | rfl | simp [ldB, ldV, Blk.own, V.one]) ?_
  refine R_len (@rfl V (V.sl (List.map cT (o.tr)))) ?_
  refine R_lss (x := ((k : Nat) : Int)) (y := ((o.tr.length : Nat) : Int)) (@rfl V (iV ((k : Nat) : Int))) (@rfl V (iV ((o.tr.length : Nat) : Int))) ?_
  exact R_nil ⟨t3, t7, t19, rfl, h3, h4, h5, h7, h10, h13, trivial⟩
 intro T H ⟨t3, t7, t19, t140, h3, h4, h5, h7, h10, h13, _⟩
 refine W_seq_if (p := ((k : Nat) : Int) < ((o.tr.length : Nat) : Int)) t140 (fun c19 => ?_) (fun c19 => ?_)
 ·
  refine W_seq_skip ?_
  refine W_seq_blockg fun Q20 n20 x20 y20 z20 => ?_
  refine W_seq_regc (fun T H => T 3 = (V.mp 3 1 0 0) ∧ T 7 = (V.mp 7 1 0 0) ∧ T 15 = (V.sl (List.map cI ((ans ((alO ((alO o [s])) [t])) ((nth (o.tr) (k)).ni)).getD []))) ∧ T 16 = (V.bool ((ans ((alO ((alO o [s])) [t])) ((nth (o.tr) (k)).ni)).isSome)) ∧ T 19 = (iV ((k : Nat) : Int)) ∧ H 3 = (⟨1, true, false, 34, 2, [[(iV (o.i)), (V.sl (List.map cT (o.tr)))]]⟩ : Blk) ∧ H 4 = (⟨1, true, false, 63, 2, [[(V.sl (List.map cI (s.ni))), (V.sl (List.map cI (s.no)))]]⟩ : Blk) ∧ H 5 = (⟨1, true, false, 63, 2, [[(V.sl (List.map cI (t.ni))), (V.sl (List.map cI (t.no)))]]⟩ : Blk) ∧ H 7 = (⟨1, true, false, 34, 2, [[(iV ((alO ((alO o [s])) [t]).i)), (V.sl (List.map cT ((alO ((alO o [s])) [t]).tr)))]]⟩ : Blk) ∧ H 10 = (⟨1, true, false, 34, 2, [[(iV ((alO ((alO o [t])) [s]).i)), (V.sl (List.map cT ((alO ((alO o [t])) [s]).tr)))]]⟩ : Blk) ∧ H 13 = (⟨1, true, false, 34, 2, [[(iV ((alO ((alO ((alO o [s])) [t])) [s]).i)), (V.sl (List.map cT ((alO ((alO ((alO o [s])) [t])) [s]).tr)))]]⟩ : Blk) ∧ True) ?_ ?_
  ·
   unfold r12_17
   refine R_load_mp (v := (V.agg [(iV ((alO ((alO o [s])) [t]).i)), (V.sl (List.map cT ((alO ((alO o [s])) [t]).tr)))])) t7 h7 (by first | rfl | simp [ldB, ldV, Blk.own, V.one]) ?_
   refine R_fld_mp (o' := 1) t3 h3 (by first | rfl | simp [okB, Blk.own]) rfl ?_
   refine R_load_mp (v := (V.sl (List.map cT (o.tr)))) (@rfl V (V.mp 3 1 0 1)) h3 (by first | rfl | simp [ldB, ldV, Blk.own, V.one]) ?_
   refine R_mv t19 ?_
   refine R_idx (i := k) (@rfl V (V.sl (List.map cT (o.tr)))) (@rfl V (iV ((k : Nat) : Int))) (by omega) rfl ?_
   refine R_fld_pp (cs' := [(V.sl (List.map cI ((nth (o.tr) (k)).ni))), (V.sl (List.map cI ((nth (o.tr) (k)).no)))]) (@rfl V (V.pp [(V.sl (List.map cI ((nth (o.tr) (k)).ni))), (V.sl (List.map cI ((nth (o.tr) (k)).no)))])) rfl ?_
   refine R_load_pp (v := (V.sl (List.map cI ((nth (o.tr) (k)).ni)))) (@rfl V (V.pp [(V.sl (List.map cI ((nth (o.tr) (k)).ni))), (V.sl (List.map cI ((nth (o.tr) (k)).no)))])) (by first | rfl | simp [ldV]) ?_
   refine R_call (evcons (@rfl V (V.agg [(iV ((alO ((alO o [s])) [t]).i)), (V.sl (List.map cT ((alO ((alO o [s])) [t]).tr)))])) (evcons (@rfl V (V.sl (List.map cI ((nth (o.tr) (k)).ni)))) evnil)) (answer_pure ((alO ((alO o [s])) [t])) ((nth (o.tr) (k)).ni) k7) (fzv_mapcanon _ _ (by simp [-List.map_take, -List.map_drop, -List.map_append, -List.map_reverse])) (by simp [-List.map_take, -List.map_drop, -List.map_append, -List.map_reverse]) (Or.inl (by simp [-List.map_take, -List.map_drop, -List.map_append, -List.map_reverse])) ?_
   refine R_mv (@rfl V (V.tup [(V.sl (List.map cI ((ans ((alO ((alO o [s])) [t])) ((nth (o.tr) (k)).ni)).getD []))), (V.bool ((ans ((alO ((alO o [s])) [t])) ((nth (o.tr) (k)).ni)).isSome))])) ?_
   refine R_ext (v := (V.sl (List.map cI ((ans ((alO ((alO o [s])) [t])) ((nth (o.tr) (k)).ni)).getD [])))) (@rfl V (V.tup [(V.sl (List.map cI ((ans ((alO ((alO o [s])) [t])) ((nth (o.tr) (k)).ni)).getD []))), (V.bool ((ans ((alO ((alO o [s])) [t])) ((nth (o.tr) (k)).ni)).isSome))])) rfl ?_
   refine R_ext (v := (V.bool ((ans ((alO ((alO o [s])) [t])) ((nth (o.tr) (k)).ni)).isSome))) (@rfl V (V.tup [(V.sl (List.map cI ((ans ((alO ((alO o [s])) [t])) ((nth (o.tr) (k)).ni)).getD []))), (V.bool ((ans ((alO ((alO o [s])) [t])) ((nth (o.tr) (k)).ni)).isSome))])) rfl ?_
   refine R_mv (@rfl V (V.sl (List.map cI ((ans ((alO ((alO o [s])) [t])) ((nth (o.tr) (k)).ni)).getD [])))) ?_
   refine R_mv (@rfl V (V.bool ((ans ((alO ((alO o [s])) [t])) ((nth (o.tr) (k)).ni)).isSome))) ?_
   exact R_nil ⟨t3, t7, rfl, rfl, t19, h3, h4, h5, h7, h10, h13, trivial⟩
  intro T H ⟨t3, t7, t15, t16, t19, h3, h4, h5, h7, h10, h13, _⟩
  refine W_seq_regc (fun T H => T 3 = (V.mp 3 1 0 0) ∧ T 7 = (V.mp 7 1 0 0) ∧ T 19 = (iV ((k : Nat) : Int)) ∧ T 166 = (V.bool ((((!(ans ((alO ((alO o [s])) [t])) ((nth (o.tr) (k)).ni)).isSome)) || decide (¬(((ans ((alO ((alO o [s])) [t])) ((nth (o.tr) (k)).ni)).getD []) = ((nth (o.tr) (k)).no)))))) ∧ H 3 = (⟨1, true, false, 34, 2, [[(iV (o.i)), (V.sl (List.map cT (o.tr)))]]⟩ : Blk) ∧ H 4 = (⟨1, true, false, 63, 2, [[(V.sl (List.map cI (s.ni))), (V.sl (List.map cI (s.no)))]]⟩ : Blk) ∧ H 5 = (⟨1, true, false, 63, 2, [[(V.sl (List.map cI (t.ni))), (V.sl (List.map cI (t.no)))]]⟩ : Blk) ∧ H 7 = (⟨1, true, false, 34, 2, [[(iV ((alO ((alO o [s])) [t]).i)), (V.sl (List.map cT ((alO ((alO o [s])) [t]).tr)))]]⟩ : Blk) ∧ H 10 = (⟨1, true, false, 34, 2, [[(iV ((alO ((alO o [t])) [s]).i)), (V.sl (List.map cT ((alO ((alO o [t])) [s]).tr)))]]⟩ : Blk) ∧ H 13 = (⟨1, true, false, 34, 2, [[(iV ((alO ((alO ((alO o [s])) [t])) [s]).i)), (V.sl (List.map cT ((alO ((alO ((alO o [s])) [t])) [s]).tr)))]]⟩ : Blk) ∧ True) ?_ ?_
  ·
   unfold r12_18
   refine R_mv t16 ?_
   refine R_notb (@rfl V (V.bool ((ans ((alO ((alO o [s])) [t])) ((nth (o.tr) (k)).ni)).isSome))) ?_
   refine R_mv (@rfl V (V.bool ((!(ans ((alO ((alO o [s])) [t])) ((nth (o.tr) (k)).ni)).isSome)))) ?_
   refine Ops_seg 10 (fun T H => T 3 = (V.mp 3 1 0 0) ∧ T 7 = (V.mp 7 1 0 0) ∧ T 19 = (iV ((k : Nat) : Int)) ∧ T 166 = (V.bool ((((!(ans ((alO ((alO o [s])) [t])) ((nth (o.tr) (k)).ni)).isSome)) || decide (¬(((ans ((alO ((alO o [s])) [t])) ((nth (o.tr) (k)).ni)).getD []) = ((nth (o.tr) (k)).no)))))) ∧ H 3 = (⟨1, true, false, 34, 2, [[(iV (o.i)), (V.sl (List.map cT (o.tr)))]]⟩ : Blk) ∧ H 4 = (⟨1, true, false, 63, 2, [[(V.sl (List.map cI (s.ni))), (V.sl (List.map cI (s.no)))]]⟩ : Blk) ∧ H 5 = (⟨1, true, false, 63, 2, [[(V.sl (List.map cI (t.ni))), (V.sl (List.map cI (t.no)))]]⟩ : Blk) ∧ H 7 = (⟨1, true, false, 34, 2, [[(iV ((alO ((alO o [s])) [t]).i)), (V.sl (List.map cT ((alO ((alO o [s])) [t]).tr)))]]⟩ : Blk) ∧ H 10 = (⟨1, true, false, 34, 2, [[(iV ((alO ((alO o [t])) [s]).i)), (V.sl (List.map cT ((alO ((alO o [t])) [s]).tr)))]]⟩ : Blk) ∧ H 13 = (⟨1, true, false, 34, 2, [[(iV ((alO ((alO ((alO o [s])) [t])) [s]).i)), (V.sl (List.map cT ((alO ((alO ((alO o [s])) [t])) [s]).tr)))]]⟩ : Blk) ∧ True) ?_ ?_
   ·
    by_cases g21 : ((!(ans ((alO ((alO o [s])) [t])) ((nth (o.tr) (k)).ni)).isSome)) = true
    ·
     refine G_no (Eq.trans (@rfl V (V.bool ((!(ans ((alO ((alO o [s])) [t])) ((nth (o.tr) (k)).ni)).isSome)))) (bbT g21)) (by decide) ?_
     refine G_no (Eq.trans (@rfl V (V.bool ((!(ans ((alO ((alO o [s])) [t])) ((nth (o.tr) (k)).ni)).isSome)))) (bbT g21)) (by decide) ?_
     refine G_no (Eq.trans (@rfl V (V.bool ((!(ans ((alO ((alO o [s])) [t])) ((nth (o.tr) (k)).ni)).isSome)))) (bbT g21)) (by decide) ?_
     refine G_no (Eq.trans (@rfl V (V.bool ((!(ans ((alO ((alO o [s])) [t])) ((nth (o.tr) (k)).ni)).isSome)))) (bbT g21)) (by decide) ?_
     refine G_no (Eq.trans (@rfl V (V.bool ((!(ans ((alO ((alO o [s])) [t])) ((nth (o.tr) (k)).ni)).isSome)))) (bbT g21)) (by decide) ?_
     refine G_no (Eq.trans (@rfl V (V.bool ((!(ans ((alO ((alO o [s])) [t])) ((nth (o.tr) (k)).ni)).isSome)))) (bbT g21)) (by decide) ?_
     refine G_no (Eq.trans (@rfl V (V.bool ((!(ans ((alO ((alO o [s])) [t])) ((nth (o.tr) (k)).ni)).isSome)))) (bbT g21)) (by decide) ?_
     refine G_no (Eq.trans (@rfl V (V.bool ((!(ans ((alO ((alO o [s])) [t])) ((nth (o.tr) (k)).ni)).isSome)))) (bbT g21)) (by decide) ?_
     refine G_no (Eq.trans (@rfl V (V.bool ((!(ans ((alO ((alO o [s])) [t])) ((nth (o.tr) (k)).ni)).isSome)))) (bbT g21)) (by decide) ?_
     refine R_pickT (Eq.trans (@rfl V (V.bool ((!(ans ((alO ((alO o [s])) [t])) ((nth (o.tr) (k)).ni)).isSome)))) (bbT g21)) (@rfl V (V.bool true)) ?_
     exact ⟨t3, t7, t19, (Eq.trans (@rfl V (V.bool true)) (borT g21)), h3, h4, h5, h7, h10, h13, trivial⟩
    ·
     refine G_yes (Eq.trans (@rfl V (V.bool ((!(ans ((alO ((alO o [s])) [t])) ((nth (o.tr) (k)).ni)).isSome)))) (bbF g21)) ?_
     refine R_mv t15 ?_
     refine G_yes (Eq.trans (@rfl V (V.bool ((!(ans ((alO ((alO o [s])) [t])) ((nth (o.tr) (k)).ni)).isSome)))) (bbF g21)) ?_
     refine R_fld_mp (o' := 1) t3 h3 (by first | rfl | simp [okB, Blk.own]) rfl ?_
     refine G_yes (Eq.trans (@rfl V (V.bool ((!(ans ((alO ((alO o [s])) [t])) ((nth (o.tr) (k)).ni)).isSome)))) (bbF g21)) ?_
     refine R_load_mp (v := (V.sl (List.map cT (o.tr)))) (@rfl V (V.mp 3 1 0 1)) h3 (by first | rfl | simp [ldB, ldV, Blk.own, V.one]) ?_
     refine G_yes (Eq.trans (@rfl V (V.bool ((!(ans ((alO ((alO o [s])) [t])) ((nth (o.tr) (k)).ni)).isSome)))) (bbF g21)) ?_
     refine R_mv t19 ?_
     refine G_yes (Eq.trans (@rfl V (V.bool ((!(ans ((alO ((alO o [s])) [t])) ((nth (o.tr) (k)).ni)).isSome)))) (bbF g21)) ?_
     refine R_idx (i := k) (@rfl V (V.sl (List.map cT (o.tr)))) (@rfl V (iV ((k : Nat) : Int))) (by omega) rfl ?_
     refine G_yes (Eq.trans (@rfl V (V.bool ((!(ans ((alO ((alO o [s])) [t])) ((nth (o.tr) (k)).ni)).isSome)))) (bbF g21)) ?_
     refine R_fld_pp (cs' := [(V.sl (List.map cI ((nth (o.tr) (k)).no)))]) (@rfl V (V.pp [(V.sl (List.map cI ((nth (o.tr) (k)).ni))), (V.sl (List.map cI ((nth (o.tr) (k)).no)))])) rfl ?_
     refine G_yes (Eq.trans (@rfl V (V.bool ((!(ans ((alO ((alO o [s])) [t])) ((nth (o.tr) (k)).ni)).isSome)))) (bbF g21)) ?_
     refine R_load_pp (v := (V.sl (List.map cI ((nth (o.tr) (k)).no)))) (@rfl V (V.pp [(V.sl (List.map cI ((nth (o.tr) (k)).no)))])) (by first | rfl | simp [ldV]) ?_
     refine G_yes (Eq.trans (@rfl V (V.bool ((!(ans ((alO ((alO o [s])) [t])) ((nth (o.tr) (k)).ni)).isSome)))) (bbF g21)) ?_
     refine R_call (evcons (@rfl V (V.sl (List.map cI ((ans ((alO ((alO o [s])) [t])) ((nth (o.tr) (k)).ni)).getD [])))) (evcons (@rfl V (V.sl (List.map cI ((nth (o.tr) (k)).no)))) evnil)) (ints_pure ((ans ((alO ((alO o [s])) [t])) ((nth (o.tr) (k)).ni)).getD []) ((nth (o.tr) (k)).no)) (fzv_mapcanon _ _ (by simp [-List.map_take, -List.map_drop, -List.map_append, -List.map_reverse])) (by simp [-List.map_take, -List.map_drop, -List.map_append, -List.map_reverse]) (Or.inl (by simp [-List.map_take, -List.map_drop, -List.map_append, -List.map_reverse])) ?_
     refine G_yes (Eq.trans (@rfl V (V.bool ((!(ans ((alO ((alO o [s])) [t])) ((nth (o.tr) (k)).ni)).isSome)))) (bbF g21)) ?_
     refine R_not (p := ((ans ((alO ((alO o [s])) [t])) ((nth (o.tr) (k)).ni)).getD []) = ((nth (o.tr) (k)).no)) (@rfl V (V.bool (decide (((ans ((alO ((alO o [s])) [t])) ((nth (o.tr) (k)).ni)).getD []) = ((nth (o.tr) (k)).no))))) ?_
     refine R_pickF (Eq.trans (@rfl V (V.bool ((!(ans ((alO ((alO o [s])) [t])) ((nth (o.tr) (k)).ni)).isSome)))) (bbF g21)) (@rfl V (V.bool (decide (¬(((ans ((alO ((alO o [s])) [t])) ((nth (o.tr) (k)).ni)).getD []) = ((nth (o.tr) (k)).no)))))) ?_
     exact ⟨t3, t7, t19, (Eq.trans (@rfl V (V.bool (decide (¬(((ans ((alO ((alO o [s])) [t])) ((nth (o.tr) (k)).ni)).getD []) = ((nth (o.tr) (k)).no)))))) (borF g21)), h3, h4, h5, h7, h10, h13, trivial⟩
   intro T H ⟨t3, t7, t19, t166, h3, h4, h5, h7, h10, h13, _⟩
   exact R_nil ⟨t3, t7, t19, t166, h3, h4, h5, h7, h10, h13, trivial⟩
  intro T H ⟨t3, t7, t19, t166, h3, h4, h5, h7, h10, h13, _⟩
  refine W_ifb t166 (fun c22 => ?_) (fun c22 => ?_)
  · exfalso; have k8 := k6 (nth o.tr k) (nth_mem (by omega)); simp [k8] at c22
  refine W_skip ?_
  refine n20 _ _ ?_
  refine .done ?_
  refine W_regc (fun T H => T 3 = (V.mp 3 1 0 0) ∧ T 7 = (V.mp 7 1 0 0) ∧ T 19 = (iV ((k + 1 : Nat) : Int)) ∧ H 3 = (⟨1, true, false, 34, 2, [[(iV (o.i)), (V.sl (List.map cT (o.tr)))]]⟩ : Blk) ∧ H 4 = (⟨1, true, false, 63, 2, [[(V.sl (List.map cI (s.ni))), (V.sl (List.map cI (s.no)))]]⟩ : Blk) ∧ H 5 = (⟨1, true, false, 63, 2, [[(V.sl (List.map cI (t.ni))), (V.sl (List.map cI (t.no)))]]⟩ : Blk) ∧ H 7 = (⟨1, true, false, 34, 2, [[(iV ((alO ((alO o [s])) [t]).i)), (V.sl (List.map cT ((alO ((alO o [s])) [t]).tr)))]]⟩ : Blk) ∧ H 10 = (⟨1, true, false, 34, 2, [[(iV ((alO ((alO o [t])) [s]).i)), (V.sl (List.map cT ((alO ((alO o [t])) [s]).tr)))]]⟩ : Blk) ∧ H 13 = (⟨1, true, false, 34, 2, [[(iV ((alO ((alO ((alO o [s])) [t])) [s]).i)), (V.sl (List.map cT ((alO ((alO ((alO o [s])) [t])) [s]).tr)))]]⟩ : Blk) ∧ True) ?_ ?_
  ·
   unfold r12_16
   refine R_mv t19 ?_
   refine R_addN (m := k) (n := 1) (@rfl V (iV ((k : Nat) : Int))) (@rfl V (iV ((1 : Nat) : Int))) (by omega) ?_
   refine R_mv (@rfl V (iV ((k + 1 : Nat) : Int))) ?_
   exact R_nil ⟨t3, t7, rfl, h3, h4, h5, h7, h10, h13, trivial⟩
  intro T H ⟨t3, t7, t19, h3, h4, h5, h7, h10, h13, _⟩
  refine p118 _ _ _ ?_ ⟨(k + 1), rfl, t3, t7, (Eq.trans t19 (by first | rfl | simp)), h3, h4, h5, h7, h10, h13, ?_⟩
  · omega
  · omega
 refine W_seq_exit ?_
 refine p318 _ _ _ ?_
 refine x17 _ _ ?_
 refine .done ?_
 refine W_seq_regc (fun T H => T 6 = (V.bool true) ∧ H 3 = (⟨1, true, false, 34, 2, [[(iV (o.i)), (V.sl (List.map cT (o.tr)))]]⟩ : Blk) ∧ H 4 = (⟨1, true, false, 63, 2, [[(V.sl (List.map cI (s.ni))), (V.sl (List.map cI (s.no)))]]⟩ : Blk) ∧ H 5 = (⟨1, true, false, 63, 2, [[(V.sl (List.map cI (t.ni))), (V.sl (List.map cI (t.no)))]]⟩ : Blk) ∧ H 7 = (⟨1, true, false, 34, 2, [[(iV ((alO ((alO o [s])) [t]).i)), (V.sl (List.map cT ((alO ((alO o [s])) [t]).tr)))]]⟩ : Blk) ∧ H 10 = (⟨1, true, false, 34, 2, [[(iV ((alO ((alO o [t])) [s]).i)), (V.sl (List.map cT ((alO ((alO o [t])) [s]).tr)))]]⟩ : Blk) ∧ H 13 = (⟨1, true, false, 34, 2, [[(iV ((alO ((alO ((alO o [s])) [t])) [s]).i)), (V.sl (List.map cT ((alO ((alO ((alO o [s])) [t])) [s]).tr)))]]⟩ : Blk) ∧ True) ?_ ?_
 ·
  unfold r12_20
  refine R_call evnil (aw_learnerlaw16_awake_pure) (fzv_mapcanon _ _ (by simp [-List.map_take, -List.map_drop, -List.map_append, -List.map_reverse])) (by simp [-List.map_take, -List.map_drop, -List.map_append, -List.map_reverse]) (Or.inl (by simp [-List.map_take, -List.map_drop, -List.map_append, -List.map_reverse])) ?_
  refine R_mv (@rfl V (V.bool true)) ?_
  exact R_nil ⟨rfl, h3, h4, h5, h7, h10, h13, trivial⟩
 intro T H ⟨t6, h3, h4, h5, h7, h10, h13, _⟩
 refine W_ret ?_
 refine Ret_1 t6 (fz_canon (by simp) rfl)
end Go.Proofs.Ytngkckefanbhgaa

namespace Go.Proofs.Ytngkckefanbhgaa
open Go Go.Proofs Go.Proofs.Ytngkckefanbhgaa Go.ChangeShapes Go.WideShapes Go.ChangeAt Go.RowKit
structure UT (P : Program) : Prop where
  u3 : P.underlying 3 = some (.int .i64)
  u32 : P.underlying 32 = some (.slice 63)
  u35 : P.underlying 35 = some (.slice 3)
  u63 : ∃ f0 f1 : Field, P.underlying 63 = some (.struct #[f0, f1]) ∧ f0.type = 35 ∧ f1.type = 35
  u34 : ∃ f0 f1 : Field, P.underlying 34 = some (.struct #[f0, f1]) ∧ f0.type = 3 ∧ f1.type = 32
theorem sh3 {P : Program} (U : UT P) (n : Nat) (vs : List V) (h : Shp P (n + 1) 3 vs) : ∃ a : Int, vs = cI a := shp_int U.u3 h
theorem sh35 {P : Program} (U : UT P) (n : Nat) (vs : List V) (h : Shp P (n + 2) 35 vs) : ∃ a : List Int, vs = cL a := shp_slice (f := cI) U.u35 (fun vs h => sh3 U n vs h) h
theorem sh63 {P : Program} (U : UT P) (n : Nat) (vs : List V) (h : Shp P (n + 3) 63 vs) : ∃ a : Tr, vs = cT a := by
  obtain ⟨f0, f1, hu, k0, k1⟩ := U.u63
  have h0 := shp_step hu h
  obtain ⟨x0, u0, e0, h1⟩ := shpL_cons (c := cL) (fun vs h => sh35 U (n + 0) vs (by rw [k0] at h; exact h)) h0
  obtain ⟨x1, u1, e1, h2⟩ := shpL_cons (c := cL) (fun vs h => sh35 U (n + 0) vs (by rw [k1] at h; exact h)) h1
  have e2 := shpL_nil h2
  exact ⟨⟨x0, x1⟩, by rw [e0, e1, e2]; rfl⟩
theorem sh32 {P : Program} (U : UT P) (n : Nat) (vs : List V) (h : Shp P (n + 4) 32 vs) : ∃ a : List Tr, vs = (fun l => [V.sl (List.map cT l)]) a := shp_slice (f := cT) U.u32 (fun vs h => sh63 U n vs h) h
theorem sh34 {P : Program} (U : UT P) (n : Nat) (vs : List V) (h : Shp P (n + 5) 34 vs) : ∃ a : Ob, vs = oC a := by
  obtain ⟨f0, f1, hu, k0, k1⟩ := U.u34
  have h0 := shp_step hu h
  obtain ⟨x0, u0, e0, h1⟩ := shpL_cons (c := cI) (fun vs h => sh3 U (n + 3) vs (by rw [k0] at h; exact h)) h0
  obtain ⟨x1, u1, e1, h2⟩ := shpL_cons (c := (fun l => [V.sl (List.map cT l)])) (fun vs h => sh32 U (n + 0) vs (by rw [k1] at h; exact h)) h1
  have e2 := shpL_nil h2
  exact ⟨⟨x0, x1⟩, by rw [e0, e1, e2]; rfl⟩
theorem ut : UT Try.prog := ⟨by kernel_rfl, by kernel_rfl, by kernel_rfl, ⟨_, _, Try.underlying63, rfl, rfl⟩, ⟨_, _, Try.underlying34, rfl, rfl⟩⟩
theorem args12 {P : Program} (U : UT P) {us : List V} (h : ShpA P 6 [34, 63, 63] us) : ∃ (d0 : Ob) (d1 : Tr) (d2 : Tr), us = [V.agg (oC d0), V.agg (cT d1), V.agg (cT d2)] := by
  obtain ⟨a0, b0, e0, h0, h⟩ := shpA_cons h
  obtain ⟨d0, g0⟩ := sh34 U 1 a0 h0
  have q0 : packV P 34 a0 = V.agg (oC d0) := by obtain ⟨_, _, hu, _⟩ := U.u34; rw [g0]; exact pack_struct hu _
  obtain ⟨a1, b1, e1, h1, h⟩ := shpA_cons h
  obtain ⟨d1, g1⟩ := sh63 U 3 a1 h1
  have q1 : packV P 63 a1 = V.agg (cT d1) := by obtain ⟨_, _, hu, _⟩ := U.u63; rw [g1]; exact pack_struct hu _
  obtain ⟨a2, b2, e2, h2, h⟩ := shpA_cons h
  obtain ⟨d2, g2⟩ := sh63 U 3 a2 h2
  have q2 : packV P 63 a2 = V.agg (cT d2) := by obtain ⟨_, _, hu, _⟩ := U.u63; rw [g2]; exact pack_struct hu _
  have e3 := shpA_nil h
  exact ⟨d0, d1, d2, by rw [e0, q0, e1, q1, e2, q2, e3]⟩
theorem own12 : ownKnob Try.prog.godebug = none := by kernel_rfl
set_option maxRecDepth 100000 in
theorem lifted12 (os : Os) (started : os.Started) (H : Type) (enc : TypeId × Value → H) :
    ReturnsInHanded {} Try.checked os 12 .any (Rows.observeOrderSpec.pre6 enc Try.prog Try.f12 Rows.observeOrderRow.domain false) (Rows.observeOrderSpec.post enc Try.prog Try.f12 false true false false) := by
  refine returnsInHanded_of_change (C := Try.checked) own12 started (by kernel_rfl) Try.func12
    (ChangeSpec.witness6 (enc := enc) (C := Try.checked) false ⟨#[], #[.agg #[.int .i64 0, .slice none 0 0], .agg #[.slice none 0 0, .slice none 0 0], .agg #[.slice none 0 0, .slice none 0 0]], []⟩ 8 (by kernel_rfl) (by kernel_rfl) (by kernel_rfl) (by kernel_rfl)) ?_
  intro W base args ds gs before hval0 hW hcnd _
  refine law_post (n := 6) (tb := 4) (by kernel_rfl) (by kernel_rfl) (by kernel_rfl) (fun t ht => ?_) rfl ?_ (fun us hu => ?_) hval0 hW
  · have h : t ∈ [34, 63, 63] := ht
    simp only [List.mem_cons, List.not_mem_nil, or_false] at h
    rcases h with rfl | rfl | rfl
    · exact ⟨by kernel_rfl, by kernel_rfl, of_decide_eq_true (by kernel_rfl)⟩
    · exact ⟨by kernel_rfl, by kernel_rfl, of_decide_eq_true (by kernel_rfl)⟩
    · exact ⟨by kernel_rfl, by kernel_rfl, of_decide_eq_true (by kernel_rfl)⟩
  · obtain ⟨p, q, hA, hV, rfl, hfz, hnd⟩ := hW
    obtain ⟨rfl, rfl⟩ := trodVars_none hV
    change DataW.TrodAll enc Try.prog W 0 (fun _ => true) true [34, 63, 63] args.toList ds p at hA
    obtain ⟨v0, vs0, y0, ds0, pa0, pb0, hv0, rfl, rfl, _, hA⟩ := trodAll_cons hA
    obtain ⟨v1, vs1, y1, ds1, pa1, pb1, hv1, rfl, rfl, _, hA⟩ := trodAll_cons hA
    obtain ⟨v2, vs2, y2, ds2, pa2, pb2, hv2, rfl, rfl, _, hA⟩ := trodAll_cons hA
    obtain ⟨_, rfl, rfl⟩ := trodAll_nil hA
    rfl
  · obtain ⟨d0, d1, d2, rfl⟩ := args12 ut hu
    exact law12_pure d0 d1 d2
theorem proved12 : Rows.ObserveOrderSaid :=
  OpenClaim.holds_of_wide 12 Try.f12 rfl rfl rfl rfl rfl rfl rfl ⟨rfl, rfl, rfl, rfl, rfl⟩ rfl rfl rfl rfl rfl (by kernel_rfl) Try.func12 (by kernel_rfl)
    (of_decide_eq_true (by kernel_rfl)) (by unfold Func.isWrapper; first | (rw [if_pos (by decide +kernel)]; kernel_rfl) | (rw [if_neg (by decide +kernel)]; exact ⟨rfl, rfl⟩))
    (fun os started H enc _ => lifted12 os started H enc)
end Go.Proofs.Ytngkckefanbhgaa

