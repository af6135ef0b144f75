/- Contracts of the functions that the law DC reaches, and the law itself, for every input; no condition. -/
import Derived.KernelRfl
import Derived.Shelf.SlSortCmp.Kit1
import Derived.Shelf.SlSortCmp.NoneTotal
import Derived.Test.YtmnjchcoigbngaaGreatProg
import Derived.Test.YtmnjchcoigbngaaGreatDC2
set_option linter.unusedSimpArgs false
set_option linter.unusedVariables false
namespace Go.Proofs.YtmnjchcoigbngaaGreat
open Go Go.Proofs
theorem compare_pure (a b : List Int) : PureC Tryz.prog 75 [(V.sl (List.map cI (a))), (V.sl (List.map cI (b)))] (iV (slx a b)) := by
 refine pure_of_Wb true 6 Tryz.func75 s75_ok (by kernel_rfl) (by simp [s75]) (by simp) (by simp) fun hB => ?_
 simp only [bnd_map, bnd_int, bnd_bool, bnd_str, bnd_agg, bnd_pp, bnd_nil, bnd_cons, implies_true, and_true, true_and] at hB
 unfold s75
 dsimp only
 refine W_seq_regc (fun T H => T 0 = (V.sl (List.map cI (a))) ∧ T 1 = (V.sl (List.map cI (b))) ∧ True) ?_ ?_
 ·
  unfold r75_0
  refine R_mv (@rfl V (iV (0 : Int))) ?_
  exact R_nil ⟨rfl, rfl, trivial⟩
 intro T H ⟨t0, t1, _⟩
 refine W_seq_regc (fun T H => T 4 = (iV (orI ([(cmpI (((a.length : Nat) : Int)) (((b.length : Nat) : Int))), (lexI a b)]))) ∧ True) ?_ ?_
 ·
  unfold r75_1
  refine R_mv t0 ?_
  refine R_len (@rfl V (V.sl (List.map cI (a)))) ?_
  refine R_mv t1 ?_
  refine R_len (@rfl V (V.sl (List.map cI (b)))) ?_
  refine R_call (evcons (@rfl V (iV ((a.length : Nat) : Int))) (evcons (@rfl V (iV ((b.length : Nat) : Int))) evnil)) (cmpint_pure (((a.length : Nat) : Int)) (((b.length : Nat) : Int))) (fzv_mapcanon _ _ (by simp [-List.map_take, -List.map_drop, -List.map_append, -List.map_reverse])) (by simp [-List.map_take, -List.map_drop, -List.map_append, -List.map_reverse]) (Or.inl (by simp [-List.map_take, -List.map_drop, -List.map_append, -List.map_reverse])) ?_
  refine R_mv t0 ?_
  refine R_mv t1 ?_
  refine R_call (evcons (@rfl V (V.sl (List.map cI (a)))) (evcons (@rfl V (V.sl (List.map cI (b)))) evnil)) (scompare_pure a b) (fzv_mapcanon _ _ (by simp [-List.map_take, -List.map_drop, -List.map_append, -List.map_reverse])) (by simp [-List.map_take, -List.map_drop, -List.map_append, -List.map_reverse]) (Or.inl (by simp [-List.map_take, -List.map_drop, -List.map_append, -List.map_reverse])) ?_
  refine R_bslice (qs := [(0, (iV (cmpI (((a.length : Nat) : Int)) (((b.length : Nat) : Int))))), (1, (iV (lexI a b)))]) (rows := [[(iV (cmpI (((a.length : Nat) : Int)) (((b.length : Nat) : Int))))], [(iV (lexI a b))]]) (mcons (congrArg (fun v => (0, v)) (@rfl V (iV (cmpI (((a.length : Nat) : Int)) (((b.length : Nat) : Int)))))) (mcons (congrArg (fun v => (1, v)) (@rfl V (iV (lexI a b)))) rfl)) rfl ?_
  refine R_call (evcons (@rfl V (V.sl [[(iV (cmpI (((a.length : Nat) : Int)) (((b.length : Nat) : Int))))], [(iV (lexI a b))]])) evnil) (cmpor_pure ([(cmpI (((a.length : Nat) : Int)) (((b.length : Nat) : Int))), (lexI a b)]) (by simp)) (fzv_mapcanon _ _ (by simp [-List.map_take, -List.map_drop, -List.map_append, -List.map_reverse])) (by simp [-List.map_take, -List.map_drop, -List.map_append, -List.map_reverse]) (Or.inl (by simp [-List.map_take, -List.map_drop, -List.map_append, -List.map_reverse])) ?_
  refine R_mv (@rfl V (iV (orI ([(cmpI (((a.length : Nat) : Int)) (((b.length : Nat) : Int))), (lexI a b)])))) ?_
  exact R_nil ⟨rfl, trivial⟩
 intro T H ⟨t4, _⟩
 refine W_ret ?_
 refine Ret_1 t4 (fz_int ?_)
 · simp only [orI, cmpI, slx]; repeat (split <;> first | rfl | omega | skip)
end Go.Proofs.YtmnjchcoigbngaaGreat


namespace Go.Proofs.YtmnjchcoigbngaaGreat
open Go Go.Proofs
theorem clonew_E (l : List (List Int)) (v2 : Nat) (Hi : Heap) (h202 : (Hi 202).ver = v2) (hl : l.length ≤ 1073741824) : CallOK Tryz.prog 102 [(V.sl (List.map cL (l)))] Hi (V.ms 202 (v2 + 3) 0 (l.length)) (upd Hi 202 (⟨v2 + 3, true, true, 38, 1, (List.map cL (l))⟩ : Blk)) := by
 refine CallOK_of_Wf (k0 := 200) Tryz.func102 s102_ok (by kernel_rfl) (by simp [s102]) fun hB => ?_
 simp only [bnd_map, bnd_int, bnd_bool, bnd_str, bnd_agg, bnd_pp, bnd_nil, bnd_cons, implies_true, and_true, true_and] at hB
 unfold s102
 dsimp only
 refine W_seq_regc (fun T H => T 0 = (V.sl (List.map cL (l))) ∧ (∀ j, j ∉ [202] → H j = Hi j) ∧ H 202 = (⟨v2 + 1, true, true, 38, 1, []⟩ : Blk) ∧ True) ?_ ?_
 ·
  unfold r102_0
  refine R_lazy (i := 202) (n := v2) (by rfl) h202 ?_
  exact R_nil ⟨rfl, (upd_out (fun _ _ => rfl) (by decide)), rfl, trivial⟩
 intro T H ⟨t0, hF, h202, _⟩
 refine W_seq_seq ?_
 refine W_seq_reg fun K hK => ?_
 unfold r102_1
 refine R_mv t0 ?_
 refine R_isnil_sl (@rfl V (V.sl (List.map cL (l)))) (fun e1 => ?_) ?_
 ·
  replace e1 := List.map_eq_nil_iff.1 e1
  refine R_nil (hK _ _ ?_); clear hK K
  refine fork_ (R := fun T H => T 0 = (V.sl (List.map cL (l))) ∧ T 4 = (V.bool true) ∧ (∀ j, j ∉ [202] → H j = Hi j) ∧ H 202 = (⟨v2 + 1, true, true, 38, 1, []⟩ : Blk) ∧ True) ⟨t0, rfl, hF, h202, trivial⟩ ?_
  intro T H ⟨t0, t4, hF, h202, _⟩
  refine W_seq_ifb t4 (fun c4 => ?_) (fun c4 => ?_)
  ·
   refine W_seq_seq ?_
   refine W_seq_regc (fun T H => T 2 = (V.ms 202 (v2 + 2) 0 (0)) ∧ (∀ j, j ∉ [202] → H j = Hi j) ∧ H 202 = (⟨v2 + 2, true, true, 38, 1, []⟩ : Blk) ∧ True) ?_ ?_
   ·
    unfold r102_2
    refine R_lazy (i := 202) (n := (v2 + 1)) (by rfl) (congrArg Blk.ver h202) ?_
    exact R_nil ⟨rfl, (upd_out hF (by decide)), rfl, trivial⟩
   intro T H ⟨t2, hF, h202, _⟩
   refine W_seq_ret ?_
   have fh := FinX.fin (FinX.put (B := (⟨v2 + 3, true, true, 38, 1, (List.map cL (l))⟩ : Blk)) (FinX.start hF) h202 (FinB.up (by omega) (by first | rfl | (rw [e1]; rfl) | simp)))
   exact RetF_1 t2 fh (FinV.trans_eq (FinV.ms (n := (v2 + 3)) fh (by simp [h202]) (by simp [h202]) rfl rfl) (by first | rfl | (rw [e1]; rfl) | simp))
  · cases c4
 ·
  refine R_nil (hK _ _ ?_); clear hK K
  refine fork_ (R := fun T H => T 0 = (V.sl (List.map cL (l))) ∧ T 4 = (V.bool false) ∧ (∀ j, j ∉ [202] → H j = Hi j) ∧ H 202 = (⟨v2 + 1, true, true, 38, 1, []⟩ : Blk) ∧ True) ⟨t0, rfl, hF, h202, trivial⟩ ?_
  intro T H ⟨t0, t4, hF, h202, _⟩
  refine W_seq_ifb t4 (fun c7 => ?_) (fun c7 => ?_)
  · cases c7
  refine W_seq_skip ?_
  refine W_seq_gk 197 (fun T H => T 2 = (V.ms 202 (v2 + 3) 0 (0 + (l).length)) ∧ (∀ j, j ∉ [202] → H j = Hi j) ∧ H 202 = (⟨v2 + 3, true, true, 38, 1, (List.map cL ([] ++ l))⟩ : Blk) ∧ True) ?_ ?_
  ·
   unfold r102_3
   refine R_lazy (i := 202) (n := (v2 + 1)) (by rfl) (congrArg Blk.ver h202) ?_
   refine R_mv t0 ?_
   refine R_appendS (l := ([])) (m := l) (f := cL) (@rfl V (V.ms 202 (v2 + 2) 0 (0))) (show _ = (⟨v2 + 2, true, true, 38, 1, (List.map cL ([]))⟩ : Blk) from (@rfl Blk (⟨v2 + 2, true, true, 38, 1, []⟩ : Blk))) (by first | rfl | simp) (@rfl V (V.sl (List.map cL (l)))) (fun _ => rfl) (fun _ => rfl) (by omega) (by omega) ?_
   refine R_mv (@rfl V (V.ms 202 (v2 + 3) 0 (0 + (l).length))) ?_
   exact R_nil ⟨rfl, (upd_out (upd_out hF (by decide)) (by decide)), rfl, trivial⟩
  intro T H ⟨t2, hF, h202, _⟩
  refine .done ?_
  refine W_ret ?_
  have fh := FinX.fin (FinX.put (B := (⟨v2 + 3, true, true, 38, 1, (List.map cL (l))⟩ : Blk)) (FinX.start hF) h202 (FinB.eq (by first | rfl | (rw [e1]; rfl) | simp)))
  exact RetF_1 t2 fh (FinV.trans_eq (FinV.same fh _) (by first | rfl | (rw [e1]; rfl) | simp))
end Go.Proofs.YtmnjchcoigbngaaGreat


namespace Go.Proofs.YtmnjchcoigbngaaGreat
open Go Go.Proofs
theorem ord1_pure (a b : List Int) : PureC Tryz.prog 105 [(V.sl (List.map cI (a))), (V.sl (List.map cI (b))), (V.pp [(V.fn 75 [] [])])] (V.bool (decide (slx a b = 0))) := by
 refine pure_of_Wb true 6 Tryz.func105 s105_ok (by kernel_rfl) (by simp [s105]) (by simp) (by simp) fun hB => ?_
 simp only [bnd_map, bnd_int, bnd_bool, bnd_str, bnd_agg, bnd_pp, bnd_nil, bnd_cons, implies_true, and_true, true_and] at hB
 unfold s105
 dsimp only
 refine W_seq_regc (fun T H => T 0 = (V.sl (List.map cI (a))) ∧ T 1 = (V.sl (List.map cI (b))) ∧ T 2 = (V.pp [(V.fn 75 [] [])]) ∧ True) ?_ ?_
 ·
  unfold r105_0
  refine R_mv (@rfl V (V.bool false)) ?_
  exact R_nil ⟨rfl, rfl, rfl, trivial⟩
 intro T H ⟨t0, t1, t2, _⟩
 refine W_seq_regc (fun T H => T 5 = (V.bool (decide ((slx a b) = (0 : Int)))) ∧ True) ?_ ?_
 ·
  unfold r105_1
  refine R_load_pp (v := (V.fn 75 [] [])) t2 (by first | rfl | simp [ldV]) ?_
  refine R_mv t0 ?_
  refine R_mv t1 ?_
  refine R_callv (@rfl V (V.fn 75 [] [])) (evcons (@rfl V (V.sl (List.map cI (a)))) (evcons (@rfl V (V.sl (List.map cI (b)))) evnil)) (compare_pure a b) (fzv_mapcanon _ _ (by simp [-List.map_take, -List.map_drop, -List.map_append, -List.map_reverse])) (by simp [-List.map_take, -List.map_drop, -List.map_append, -List.map_reverse]) (Or.inl (by simp [-List.map_take, -List.map_drop, -List.map_append, -List.map_reverse])) ?_
  refine R_eql (x := (slx a b)) (y := (0 : Int)) (@rfl V (iV (slx a b))) (@rfl V (iV (0 : Int))) ?_
  refine R_mv (@rfl V (V.bool (decide ((slx a b) = (0 : Int))))) ?_
  exact R_nil ⟨rfl, trivial⟩
 intro T H ⟨t5, _⟩
 refine W_ret ?_
 refine Ret_1 t5 (fz_bool ?_)
 · rfl
end Go.Proofs.YtmnjchcoigbngaaGreat


namespace Go.Proofs.YtmnjchcoigbngaaGreat
open Go Go.Proofs
theorem compw_E (l : List (List Int)) (v2 v3 len : Nat) (Hi : Heap) (h202 : Hi 202 = (⟨v2, true, true, 38, 1, (List.map cL (l))⟩ : Blk)) (h3 : Hi 3 = (⟨v3, true, false, 77, 1, [[(V.fn 75 [] [])]]⟩ : Blk)) (hn : len = l.length) (hl : l.length ≤ 1073741824) : CallOK Tryz.prog 104 [(V.ms 202 v2 0 (len)), (V.fn 105 [] [(V.mp 3 v3 0 0)])] Hi (V.ms 202 v2 0 ((ddK l l.length).length)) (upd Hi 202 (⟨v2, true, true, 38, 1, (List.map cL (ddK l l.length) ++ List.replicate (l.length - (ddK l l.length).length) [V.nilsl])⟩ : Blk)) := by
 refine CallOK_of_Wf (k0 := 400) Tryz.func104 s104_ok (by kernel_rfl) (by simp [s104]) fun hB => ?_
 simp only [bnd_map, bnd_int, bnd_bool, bnd_str, bnd_agg, bnd_pp, bnd_nil, bnd_cons, implies_true, and_true, true_and] at hB
 unfold s104
 dsimp only
 refine W_seq_regc (fun T H => T 0 = (V.ms 202 v2 0 (len)) ∧ T 1 = (V.fn 105 [] [(V.mp 3 v3 0 0)]) ∧ (∀ j, j ∉ [202] → H j = Hi j) ∧ H 3 = (⟨v3, true, false, 77, 1, [[(V.fn 75 [] [])]]⟩ : Blk) ∧ H 202 = (⟨v2, true, true, 38, 1, (List.map cL (l))⟩ : Blk) ∧ True) ?_ ?_
 ·
  unfold r104_0
  refine R_mv (@rfl V V.nilsl) ?_
  exact R_nil ⟨rfl, rfl, (fun _ _ => rfl), h3, h202, trivial⟩
 intro T H ⟨t0, t1, hF, h3, h202, _⟩
 refine W_seq_seq ?_
 refine W_seq_regc (fun T H => T 0 = (V.ms 202 v2 0 (len)) ∧ T 1 = (V.fn 105 [] [(V.mp 3 v3 0 0)]) ∧ T 10 = (V.bool (decide (((len : Nat) : Int) < (2 : Int)))) ∧ (∀ j, j ∉ [202] → H j = Hi j) ∧ H 3 = (⟨v3, true, false, 77, 1, [[(V.fn 75 [] [])]]⟩ : Blk) ∧ H 202 = (⟨v2, true, true, 38, 1, (List.map cL (l))⟩ : Blk) ∧ True) ?_ ?_
 ·
  unfold r104_1
  refine R_mv t0 ?_
  refine R_len_ms (@rfl V (V.ms 202 v2 0 (len))) h202 (by first | rfl | simp) ?_
  refine R_lss (x := ((len : Nat) : Int)) (y := (2 : Int)) (@rfl V (iV ((len : Nat) : Int))) (@rfl V (iV (2 : Int))) ?_
  exact R_nil ⟨t0, t1, rfl, hF, h3, h202, trivial⟩
 intro T H ⟨t0, t1, t10, hF, h3, h202, _⟩
 refine W_seq_if (p := ((len : Nat) : Int) < (2 : Int)) t10 (fun c1 => ?_) (fun c1 => ?_)
 ·
  refine W_seq_seq ?_
  refine W_seq_regc (fun T H => T 4 = (V.ms 202 v2 0 (len)) ∧ (∀ j, j ∉ [202] → H j = Hi j) ∧ H 3 = (⟨v3, true, false, 77, 1, [[(V.fn 75 [] [])]]⟩ : Blk) ∧ H 202 = (⟨v2, true, true, 38, 1, (List.map cL (l))⟩ : Blk) ∧ True) ?_ ?_
  ·
   unfold r104_2
   refine R_mv t0 ?_
   refine R_mv (@rfl V (V.ms 202 v2 0 (len))) ?_
   exact R_nil ⟨rfl, hF, h3, h202, trivial⟩
  intro T H ⟨t4, hF, h3, h202, _⟩
  refine W_seq_ret ?_
  have hall := dd_all (l := l) (fun i i1 i2 => by omega)
  have fh := FinX.fin (FinX.put (B := (⟨v2, true, true, 38, 1, (List.map cL (ddK l l.length) ++ List.replicate (l.length - (ddK l l.length).length) [V.nilsl])⟩ : Blk)) (FinX.start hF) h202 (FinB.eq (by first | rfl | (rw [hd.2]; done) | (rw [hall]; simp; done) | (rw [q5.1, ddL_keep (show k + j < l.length by omega) (.inr d5)]; rfl) | (rw [q5.1, ddL_keep (show k + j < l.length by omega) (.inr d5)]; done) | (show _ = (⟨_, _, _, _, _, List.map cL (ddL l ((k + j) + 1))⟩ : Blk); rw [ddL_skip (by rintro (q | q); omega; exact q d5)]; done) | (rw [dd_take (show l.length ≤ k + j by omega) hj, show k + j = l.length by omega]; done) | (rw [dd_take (show l.length ≤ k + j by omega) hj, show k + j = l.length by omega, hn]; done))))
  exact RetF_1 t4 fh (FinV.trans_eq (FinV.same fh _) (by first | rfl | (rw [hd.1]; done) | (rw [hall, hn]; done) | (rw [hall]; done) | (show _ = iV (((ddK l ((k + j) + 1)).length : Nat) : Int); rw [ddK_keep (.inr d5), List.length_append]; rfl) | (show _ = iV (((ddK l ((k + j) + 1)).length : Nat) : Int); rw [ddK_skip (by rintro (q | q); omega; exact q d5)]; done) | (rw [show k + j = l.length by omega]; done)))
 refine W_seq_skip ?_
 refine W_seq_seq ?_
 refine W_seq_regc (fun T H => T 0 = (V.ms 202 v2 0 (len)) ∧ T 1 = (V.fn 105 [] [(V.mp 3 v3 0 0)]) ∧ T 5 = (iV (1 : Int)) ∧ (∀ j, j ∉ [202] → H j = Hi j) ∧ H 3 = (⟨v3, true, false, 77, 1, [[(V.fn 75 [] [])]]⟩ : Blk) ∧ H 202 = (⟨v2, true, true, 38, 1, (List.map cL (l))⟩ : Blk) ∧ True) ?_ ?_
 ·
  unfold r104_3
  refine R_mv (@rfl V (iV (1 : Int))) ?_
  exact R_nil ⟨t0, t1, rfl, hF, h3, h202, trivial⟩
 intro T H ⟨t0, t1, t5, hF, h3, h202, _⟩
 refine W_seq_blockg fun Q2 n2 x2 y2 z2 => ?_
 refine W_loop (fun mm T H => ∃ (k : Nat), mm = l.length - k ∧ T 0 = (V.ms 202 v2 0 (len)) ∧ T 1 = (V.fn 105 [] [(V.mp 3 v3 0 0)]) ∧ T 5 = (iV ((k : Nat) : Int)) ∧ (∀ j, j ∉ [202] → H j = Hi j) ∧ H 3 = (⟨v3, true, false, 77, 1, [[(V.fn 75 [] [])]]⟩ : Blk) ∧ H 202 = (⟨v2, true, true, 38, 1, (List.map cL (l))⟩ : Blk) ∧ (1 ≤ k) ∧ (k ≤ l.length) ∧ (∀ i, 1 ≤ i → i < k → nth l i ≠ nth l (i - 1))) ?_ ?_
 ·
  refine ⟨_, 1, rfl, t0, t1, (Eq.trans t5 (by first | rfl | (rw [hd.1]; done) | (rw [hall, hn]; done) | (rw [hall]; done) | (show _ = iV (((ddK l ((k + j) + 1)).length : Nat) : Int); rw [ddK_keep (.inr d5), List.length_append]; rfl) | (show _ = iV (((ddK l ((k + j) + 1)).length : Nat) : Int); rw [ddK_skip (by rintro (q | q); omega; exact q d5)]; done) | (rw [show k + j = l.length by omega]; done))), hF, h3, h202, ?_, ?_, ?_⟩
  · omega
  · omega
  · intro i h1 h2; omega
 intro mm T H ⟨k, hmm, t0, t1, t5, hF, h3, h202, h1, hk, hc⟩ Q3 p13 p23 p33
 unfold b104_0
 refine W_seq_seq ?_
 refine W_seq_regc (fun T H => T 0 = (V.ms 202 v2 0 (len)) ∧ T 1 = (V.fn 105 [] [(V.mp 3 v3 0 0)]) ∧ T 5 = (iV ((k : Nat) : Int)) ∧ T 15 = (V.bool (decide (((k : Nat) : Int) < ((len : Nat) : Int)))) ∧ (∀ j, j ∉ [202] → H j = Hi j) ∧ H 3 = (⟨v3, true, false, 77, 1, [[(V.fn 75 [] [])]]⟩ : Blk) ∧ H 202 = (⟨v2, true, true, 38, 1, (List.map cL (l))⟩ : Blk) ∧ True) ?_ ?_
 ·
  unfold r104_4
  refine R_mv t5 ?_
  refine R_mv t0 ?_
  refine R_len_ms (@rfl V (V.ms 202 v2 0 (len))) h202 (by first | rfl | simp) ?_
  refine R_lss (x := ((k : Nat) : Int)) (y := ((len : Nat) : Int)) (@rfl V (iV ((k : Nat) : Int))) (@rfl V (iV ((len : Nat) : Int))) ?_
  exact R_nil ⟨t0, t1, t5, rfl, hF, h3, h202, trivial⟩
 intro T H ⟨t0, t1, t5, t15, hF, h3, h202, _⟩
 refine W_seq_if (p := ((k : Nat) : Int) < ((len : Nat) : Int)) t15 (fun c4 => ?_) (fun c4 => ?_)
 ·
  refine W_seq_skip ?_
  refine W_seq_blockg fun Q5 n5 x5 y5 z5 => ?_
  refine W_seq_regc (fun T H => T 0 = (V.ms 202 v2 0 (len)) ∧ T 1 = (V.fn 105 [] [(V.mp 3 v3 0 0)]) ∧ T 5 = (iV ((k : Nat) : Int)) ∧ T 28 = (V.bool (decide (slx ((nth (l) (k))) ((nth (l) (((((k : Nat) : Int) - (1 : Int))).toNat))) = 0))) ∧ (∀ j, j ∉ [202] → H j = Hi j) ∧ H 3 = (⟨v3, true, false, 77, 1, [[(V.fn 75 [] [])]]⟩ : Blk) ∧ H 202 = (⟨v2, true, true, 38, 1, (List.map cL (l))⟩ : Blk) ∧ True) ?_ ?_
  ·
   unfold r104_6
   refine R_mv t1 ?_
   refine R_mv t0 ?_
   refine R_mv t5 ?_
   refine R_idx_ms0 (i := k) (@rfl V (V.ms 202 v2 0 (len))) (@rfl V (iV ((k : Nat) : Int))) h202 (okB_map (by first | omega | (simp only [List.length_take]; omega))) rfl (by first | omega | (simp only [List.length_take]; omega)) ?_
   refine R_load_mp (v := (V.sl (List.map cI ((nth (l) (k)))))) (@rfl V (V.mp 202 v2 k 0)) h202 (ldB_map (by first | omega | (simp only [List.length_take]; omega)) (by first | rfl | simp [ldV, V.one])) ?_
   refine R_mv t0 ?_
   refine R_mv t5 ?_
   refine R_sub (x := ((k : Nat) : Int)) (y := (1 : Int)) (@rfl V (iV ((k : Nat) : Int))) (@rfl V (iV (1 : Int))) (by first | omega | (simp only [List.length_take]; omega)) (by first | omega | (simp only [List.length_take]; omega)) ?_
   refine R_idxI_ms0 (i := (((k : Nat) : Int) - (1 : Int))) (@rfl V (V.ms 202 v2 0 (len))) (@rfl V (iV (((k : Nat) : Int) - (1 : Int)))) h202 (okB_map (by first | omega | (simp only [List.length_take]; omega))) rfl (by first | omega | (simp only [List.length_take]; omega)) (by first | omega | (simp only [List.length_take]; omega)) ?_
   refine R_load_mp (v := (V.sl (List.map cI ((nth (l) (((((k : Nat) : Int) - (1 : Int))).toNat)))))) (@rfl V (V.mp 202 v2 (((((k : Nat) : Int) - (1 : Int))).toNat) 0)) h202 (ldB_map (by first | omega | (simp only [List.length_take]; omega)) (by first | rfl | simp [ldV, V.one])) ?_
   refine R_callv (@rfl V (V.fn 105 [] [(V.mp 3 v3 0 0)])) (evcons (@rfl V (V.sl (List.map cI ((nth (l) (k)))))) (evcons (@rfl V (V.sl (List.map cI ((nth (l) (((((k : Nat) : Int) - (1 : Int))).toNat)))))) evnil)) (ord1_pure ((nth (l) (k))) ((nth (l) (((((k : Nat) : Int) - (1 : Int))).toNat)))) (mcons (fzv_canon 6 _ (by simp [-List.map_take, -List.map_drop, -List.map_append, -List.map_reverse])) (mcons (fzv_canon 6 _ (by simp [-List.map_take, -List.map_drop, -List.map_append, -List.map_reverse])) (mcons (by simp [fzv, Blk.own, h3, h202]) rfl))) (by simp [-List.map_take, -List.map_drop, -List.map_append, -List.map_reverse]) (Or.inr rfl) ?_
   exact R_nil ⟨t0, t1, t5, rfl, hF, h3, h202, trivial⟩
  intro T H ⟨t0, t1, t5, t28, hF, h3, h202, _⟩
  refine W_if (p := slx ((nth (l) (k))) ((nth (l) (((((k : Nat) : Int) - (1 : Int))).toNat))) = 0) t28 (fun c6 => ?_) (fun c6 => ?_)
  ·
   have d1 : nth l k = nth l (k - 1) := by have q := slx_zero.1 c6; rwa [show (((k : Nat) : Int) - (1 : Int)).toNat = k - 1 by omega] at q
   have hd := dd_start h1 (by omega) hc d1
   refine W_seq_regc (fun T H => T 0 = (V.ms 202 v2 0 (len)) ∧ T 1 = (V.fn 105 [] [(V.mp 3 v3 0 0)]) ∧ T 5 = (iV ((k : Nat) : Int)) ∧ T 6 = (V.ms 202 v2 (0 + k) (len - k)) ∧ (∀ j, j ∉ [202] → H j = Hi j) ∧ H 3 = (⟨v3, true, false, 77, 1, [[(V.fn 75 [] [])]]⟩ : Blk) ∧ H 202 = (⟨v2, true, true, 38, 1, (List.map cL (l))⟩ : Blk) ∧ True) ?_ ?_
   ·
    unfold r104_7
    refine R_mv t0 ?_
    refine R_mv t5 ?_
    refine R_slice_ms_lo (n := k) (@rfl V (V.ms 202 v2 0 (len))) (@rfl V (iV ((k : Nat) : Int))) h202 (okB_map (by first | omega | (simp only [List.length_take]; omega))) rfl (by first | omega | (simp only [List.length_take]; omega)) ?_
    refine R_mv (@rfl V (V.ms 202 v2 (0 + k) (len - k))) ?_
    exact R_nil ⟨t0, t1, t5, rfl, hF, h3, h202, trivial⟩
   intro T H ⟨t0, t1, t5, t6, hF, h3, h202, _⟩
   refine W_seq_seq ?_
   refine W_seq_regc (fun T H => T 0 = (V.ms 202 v2 0 (len)) ∧ T 1 = (V.fn 105 [] [(V.mp 3 v3 0 0)]) ∧ T 5 = (iV ((k : Nat) : Int)) ∧ T 6 = (V.ms 202 v2 (0 + k) (len - k)) ∧ T 7 = (iV (1 : Int)) ∧ (∀ j, j ∉ [202] → H j = Hi j) ∧ H 3 = (⟨v3, true, false, 77, 1, [[(V.fn 75 [] [])]]⟩ : Blk) ∧ H 202 = (⟨v2, true, true, 38, 1, (List.map cL (l))⟩ : Blk) ∧ True) ?_ ?_
   ·
    unfold r104_8
    refine R_mv (@rfl V (iV (1 : Int))) ?_
    exact R_nil ⟨t0, t1, t5, t6, rfl, hF, h3, h202, trivial⟩
   intro T H ⟨t0, t1, t5, t6, t7, hF, h3, h202, _⟩
   refine W_seq_blockg fun Q7 n7 x7 y7 z7 => ?_
   refine W_loop (fun mm T H => ∃ (j : Nat), mm = l.length - (k + j) ∧ T 0 = (V.ms 202 v2 0 (len)) ∧ T 1 = (V.fn 105 [] [(V.mp 3 v3 0 0)]) ∧ T 5 = (iV (((ddK l (k + j)).length : Nat) : Int)) ∧ T 6 = (V.ms 202 v2 (0 + k) (len - k)) ∧ T 7 = (iV ((j : Nat) : Int)) ∧ (∀ j, j ∉ [202] → H j = Hi j) ∧ H 3 = (⟨v3, true, false, 77, 1, [[(V.fn 75 [] [])]]⟩ : Blk) ∧ H 202 = (⟨v2, true, true, 38, 1, (List.map cL (ddL l (k + j)))⟩ : Blk) ∧ (k + j ≤ l.length) ∧ (1 ≤ j) ∧ ((ddK l (k + j)).length < k + j)) ?_ ?_
   ·
    refine ⟨_, 1, rfl, t0, t1, (Eq.trans t5 (by first | rfl | (rw [hd.1]; done) | (rw [hall, hn]; done) | (rw [hall]; done) | (show _ = iV (((ddK l ((k + j) + 1)).length : Nat) : Int); rw [ddK_keep (.inr d5), List.length_append]; rfl) | (show _ = iV (((ddK l ((k + j) + 1)).length : Nat) : Int); rw [ddK_skip (by rintro (q | q); omega; exact q d5)]; done) | (rw [show k + j = l.length by omega]; done))), (Eq.trans t6 (by first | rfl | (rw [hd.1]; done) | (rw [hall, hn]; done) | (rw [hall]; done) | (show _ = iV (((ddK l ((k + j) + 1)).length : Nat) : Int); rw [ddK_keep (.inr d5), List.length_append]; rfl) | (show _ = iV (((ddK l ((k + j) + 1)).length : Nat) : Int); rw [ddK_skip (by rintro (q | q); omega; exact q d5)]; done) | (rw [show k + j = l.length by omega]; done))), (Eq.trans t7 (by first | rfl | (rw [hd.1]; done) | (rw [hall, hn]; done) | (rw [hall]; done) | (show _ = iV (((ddK l ((k + j) + 1)).length : Nat) : Int); rw [ddK_keep (.inr d5), List.length_append]; rfl) | (show _ = iV (((ddK l ((k + j) + 1)).length : Nat) : Int); rw [ddK_skip (by rintro (q | q); omega; exact q d5)]; done) | (rw [show k + j = l.length by omega]; done))), hF, h3, (Eq.trans h202 (by first | rfl | (rw [hd.2]; done) | (rw [hall]; simp; done) | (rw [q5.1, ddL_keep (show k + j < l.length by omega) (.inr d5)]; rfl) | (rw [q5.1, ddL_keep (show k + j < l.length by omega) (.inr d5)]; done) | (show _ = (⟨_, _, _, _, _, List.map cL (ddL l ((k + j) + 1))⟩ : Blk); rw [ddL_skip (by rintro (q | q); omega; exact q d5)]; done) | (rw [dd_take (show l.length ≤ k + j by omega) hj, show k + j = l.length by omega]; done) | (rw [dd_take (show l.length ≤ k + j by omega) hj, show k + j = l.length by omega, hn]; done))), ?_, ?_, ?_⟩
    · omega
    · omega
    · rw [hd.1]; omega
   intro mm T H ⟨j, hmm, t0, t1, t5, t6, t7, hF, h3, h202, hj, hj1, hlt⟩ Q8 p18 p28 p38
   unfold b104_1
   have q1 := ddL_len (L := l) (j := k + j) hj
   have q5 := dd_at hlt hj1
   have q6 := dd_pos (l := l) (j := k + j) (by omega)
   refine W_seq_seq ?_
   refine W_seq_regc (fun T H => T 0 = (V.ms 202 v2 0 (len)) ∧ T 1 = (V.fn 105 [] [(V.mp 3 v3 0 0)]) ∧ T 5 = (iV (((ddK l (k + j)).length : Nat) : Int)) ∧ T 6 = (V.ms 202 v2 (0 + k) (len - k)) ∧ T 7 = (iV ((j : Nat) : Int)) ∧ T 35 = (V.bool (decide (((j : Nat) : Int) < ((len - k : Nat) : Int)))) ∧ (∀ j, j ∉ [202] → H j = Hi j) ∧ H 3 = (⟨v3, true, false, 77, 1, [[(V.fn 75 [] [])]]⟩ : Blk) ∧ H 202 = (⟨v2, true, true, 38, 1, (List.map cL (ddL l (k + j)))⟩ : Blk) ∧ True) ?_ ?_
   ·
    unfold r104_9
    refine R_mv t7 ?_
    refine R_mv t6 ?_
    refine R_len_ms (@rfl V (V.ms 202 v2 (0 + k) (len - k))) h202 (by first | rfl | simp) ?_
    refine R_lss (x := ((j : Nat) : Int)) (y := ((len - k : Nat) : Int)) (@rfl V (iV ((j : Nat) : Int))) (@rfl V (iV ((len - k : Nat) : Int))) ?_
    exact R_nil ⟨t0, t1, t5, t6, t7, rfl, hF, h3, h202, trivial⟩
   intro T H ⟨t0, t1, t5, t6, t7, t35, hF, h3, h202, _⟩
   refine W_seq_if (p := ((j : Nat) : Int) < ((len - k : Nat) : Int)) t35 (fun c9 => ?_) (fun c9 => ?_)
   ·
    refine W_seq_skip ?_
    refine W_seq_blockg fun Q10 n10 x10 y10 z10 => ?_
    refine W_seq_regc (fun T H => T 0 = (V.ms 202 v2 0 (len)) ∧ T 1 = (V.fn 105 [] [(V.mp 3 v3 0 0)]) ∧ T 5 = (iV (((ddK l (k + j)).length : Nat) : Int)) ∧ T 6 = (V.ms 202 v2 (0 + k) (len - k)) ∧ T 7 = (iV ((j : Nat) : Int)) ∧ T 49 = (V.bool (decide (¬(slx ((nth (ddL l (k + j)) ((0 + k) + (j)))) ((nth (ddL l (k + j)) ((0 + k) + ((((j : Nat) : Int) - (1 : Int))).toNat))) = 0)))) ∧ (∀ j, j ∉ [202] → H j = Hi j) ∧ H 3 = (⟨v3, true, false, 77, 1, [[(V.fn 75 [] [])]]⟩ : Blk) ∧ H 202 = (⟨v2, true, true, 38, 1, (List.map cL (ddL l (k + j)))⟩ : Blk) ∧ True) ?_ ?_
    ·
     unfold r104_11
     refine R_mv t1 ?_
     refine R_mv t6 ?_
     refine R_mv t7 ?_
     refine R_idx_ms (i := j) (@rfl V (V.ms 202 v2 (0 + k) (len - k))) (@rfl V (iV ((j : Nat) : Int))) h202 (okB_map (by first | omega | (simp only [List.length_take]; omega))) rfl (by first | omega | (simp only [List.length_take]; omega)) ?_
     refine R_load_mp (v := (V.sl (List.map cI ((nth (ddL l (k + j)) ((0 + k) + (j))))))) (@rfl V (V.mp 202 v2 ((0 + k) + (j)) 0)) h202 (ldB_map (by first | omega | (simp only [List.length_take]; omega)) (by first | rfl | simp [ldV, V.one])) ?_
     refine R_mv t6 ?_
     refine R_mv t7 ?_
     refine R_sub (x := ((j : Nat) : Int)) (y := (1 : Int)) (@rfl V (iV ((j : Nat) : Int))) (@rfl V (iV (1 : Int))) (by first | omega | (simp only [List.length_take]; omega)) (by first | omega | (simp only [List.length_take]; omega)) ?_
     refine R_idxI_ms (i := (((j : Nat) : Int) - (1 : Int))) (@rfl V (V.ms 202 v2 (0 + k) (len - k))) (@rfl V (iV (((j : Nat) : Int) - (1 : Int)))) h202 (okB_map (by first | omega | (simp only [List.length_take]; omega))) rfl (by first | omega | (simp only [List.length_take]; omega)) (by first | omega | (simp only [List.length_take]; omega)) ?_
     refine R_load_mp (v := (V.sl (List.map cI ((nth (ddL l (k + j)) ((0 + k) + ((((j : Nat) : Int) - (1 : Int))).toNat)))))) (@rfl V (V.mp 202 v2 ((0 + k) + ((((j : Nat) : Int) - (1 : Int))).toNat) 0)) h202 (ldB_map (by first | omega | (simp only [List.length_take]; omega)) (by first | rfl | simp [ldV, V.one])) ?_
     refine R_callv (@rfl V (V.fn 105 [] [(V.mp 3 v3 0 0)])) (evcons (@rfl V (V.sl (List.map cI ((nth (ddL l (k + j)) ((0 + k) + (j))))))) (evcons (@rfl V (V.sl (List.map cI ((nth (ddL l (k + j)) ((0 + k) + ((((j : Nat) : Int) - (1 : Int))).toNat)))))) evnil)) (ord1_pure ((nth (ddL l (k + j)) ((0 + k) + (j)))) ((nth (ddL l (k + j)) ((0 + k) + ((((j : Nat) : Int) - (1 : Int))).toNat)))) (mcons (fzv_canon 6 _ (by simp [-List.map_take, -List.map_drop, -List.map_append, -List.map_reverse])) (mcons (fzv_canon 6 _ (by simp [-List.map_take, -List.map_drop, -List.map_append, -List.map_reverse])) (mcons (by simp [fzv, Blk.own, h3, h202]) rfl))) (by simp [-List.map_take, -List.map_drop, -List.map_append, -List.map_reverse]) (Or.inr rfl) ?_
     refine R_not (p := slx ((nth (ddL l (k + j)) ((0 + k) + (j)))) ((nth (ddL l (k + j)) ((0 + k) + ((((j : Nat) : Int) - (1 : Int))).toNat))) = 0) (@rfl V (V.bool (decide (slx ((nth (ddL l (k + j)) ((0 + k) + (j)))) ((nth (ddL l (k + j)) ((0 + k) + ((((j : Nat) : Int) - (1 : Int))).toNat))) = 0)))) ?_
     exact R_nil ⟨t0, t1, t5, t6, t7, rfl, hF, h3, h202, trivial⟩
    intro T H ⟨t0, t1, t5, t6, t7, t49, hF, h3, h202, _⟩
    refine W_if (p := ¬(slx ((nth (ddL l (k + j)) ((0 + k) + (j)))) ((nth (ddL l (k + j)) ((0 + k) + ((((j : Nat) : Int) - (1 : Int))).toNat))) = 0)) t49 (fun c11 => ?_) (fun c11 => ?_)
    ·
     have d5 : nth l (k + j) ≠ nth l (k + j - 1) := fun q => c11 (slx_zero.2 (by rw [q5.1, q5.2]; exact q))
     refine W_seq_regc (fun T H => T 0 = (V.ms 202 v2 0 (len)) ∧ T 1 = (V.fn 105 [] [(V.mp 3 v3 0 0)]) ∧ T 5 = (iV (((ddK l (k + j)).length : Nat) : Int)) ∧ T 6 = (V.ms 202 v2 (0 + k) (len - k)) ∧ T 7 = (iV ((j : Nat) : Int)) ∧ (∀ j, j ∉ [202] → H j = Hi j) ∧ H 3 = (⟨v3, true, false, 77, 1, [[(V.fn 75 [] [])]]⟩ : Blk) ∧ H 202 = (⟨v2, true, true, 38, 1, (List.map cL ((ddL l (k + j)).set ((ddK l (k + j)).length) ((nth (ddL l (k + j)) ((0 + k) + (j))))))⟩ : Blk) ∧ True) ?_ ?_
     ·
      unfold r104_12
      refine R_mv t0 ?_
      refine R_mv t5 ?_
      refine R_mv t6 ?_
      refine R_mv t7 ?_
      refine R_idx_ms (i := j) (@rfl V (V.ms 202 v2 (0 + k) (len - k))) (@rfl V (iV ((j : Nat) : Int))) h202 (okB_map (by first | omega | (simp only [List.length_take]; omega))) rfl (by first | omega | (simp only [List.length_take]; omega)) ?_
      refine R_load_mp (v := (V.sl (List.map cI ((nth (ddL l (k + j)) ((0 + k) + (j))))))) (@rfl V (V.mp 202 v2 ((0 + k) + (j)) 0)) h202 (ldB_map (by first | omega | (simp only [List.length_take]; omega)) (by first | rfl | simp [ldV, V.one])) ?_
      refine R_idx_ms0 (i := ((ddK l (k + j)).length)) (@rfl V (V.ms 202 v2 0 (len))) (@rfl V (iV (((ddK l (k + j)).length : Nat) : Int))) h202 (okB_map (by first | omega | (simp only [List.length_take]; omega))) rfl (by first | omega | (simp only [List.length_take]; omega)) ?_
      refine R_store (vs := [(V.sl (List.map cI ((nth (ddL l (k + j)) ((0 + k) + (j))))))]) (B' := (⟨v2, true, true, 38, 1, (List.map cL ((ddL l (k + j)).set ((ddK l (k + j)).length) ((nth (ddL l (k + j)) ((0 + k) + (j))))))⟩ : Blk)) (@rfl V (V.mp 202 v2 ((ddK l (k + j)).length) 0)) (@rfl V (V.sl (List.map cI ((nth (ddL l (k + j)) ((0 + k) + (j))))))) rfl h202 (stB_map (x := ((nth (ddL l (k + j)) ((0 + k) + (j))))) (i := ((ddK l (k + j)).length)) (by first | omega | (simp only [List.length_take]; omega)) rfl rfl rfl rfl) ?_
      exact R_nil ⟨t0, t1, t5, t6, t7, (upd_out hF (by decide)), h3, rfl, trivial⟩
     intro T H ⟨t0, t1, t5, t6, t7, hF, h3, h202, _⟩
     refine W_regc (fun T H => T 0 = (V.ms 202 v2 0 (len)) ∧ T 1 = (V.fn 105 [] [(V.mp 3 v3 0 0)]) ∧ T 5 = (iV ((((ddK l (k + j)).length) + 1 : Nat) : Int)) ∧ T 6 = (V.ms 202 v2 (0 + k) (len - k)) ∧ T 7 = (iV ((j : Nat) : Int)) ∧ (∀ j, j ∉ [202] → H j = Hi j) ∧ H 3 = (⟨v3, true, false, 77, 1, [[(V.fn 75 [] [])]]⟩ : Blk) ∧ H 202 = (⟨v2, true, true, 38, 1, (List.map cL ((ddL l (k + j)).set ((ddK l (k + j)).length) ((nth (ddL l (k + j)) ((0 + k) + (j))))))⟩ : Blk) ∧ True) ?_ ?_
     ·
      unfold r104_13
      refine R_mv t5 ?_
      refine R_addN (m := ((ddK l (k + j)).length)) (n := 1) (@rfl V (iV (((ddK l (k + j)).length : Nat) : Int))) (@rfl V (iV ((1 : Nat) : Int))) (by first | omega | (simp only [List.length_take]; omega)) ?_
      refine R_mv (@rfl V (iV ((((ddK l (k + j)).length) + 1 : Nat) : Int))) ?_
      exact R_nil ⟨t0, t1, rfl, t6, t7, hF, h3, h202, trivial⟩
     intro T H ⟨t0, t1, t5, t6, t7, hF, h3, h202, _⟩
     refine n10 _ _ ?_
     refine .done ?_
     refine W_regc (fun T H => T 0 = (V.ms 202 v2 0 (len)) ∧ T 1 = (V.fn 105 [] [(V.mp 3 v3 0 0)]) ∧ T 5 = (iV ((((ddK l (k + j)).length) + 1 : Nat) : Int)) ∧ T 6 = (V.ms 202 v2 (0 + k) (len - k)) ∧ T 7 = (iV ((j + 1 : Nat) : Int)) ∧ (∀ j, j ∉ [202] → H j = Hi j) ∧ H 3 = (⟨v3, true, false, 77, 1, [[(V.fn 75 [] [])]]⟩ : Blk) ∧ H 202 = (⟨v2, true, true, 38, 1, (List.map cL ((ddL l (k + j)).set ((ddK l (k + j)).length) ((nth (ddL l (k + j)) ((0 + k) + (j))))))⟩ : Blk) ∧ True) ?_ ?_
     ·
      unfold r104_10
      refine R_mv t7 ?_
      refine R_addN (m := j) (n := 1) (@rfl V (iV ((j : Nat) : Int))) (@rfl V (iV ((1 : Nat) : Int))) (by first | omega | (simp only [List.length_take]; omega)) ?_
      refine R_mv (@rfl V (iV ((j + 1 : Nat) : Int))) ?_
      exact R_nil ⟨t0, t1, t5, t6, rfl, hF, h3, h202, trivial⟩
     intro T H ⟨t0, t1, t5, t6, t7, hF, h3, h202, _⟩
     refine p18 _ _ _ ?_ ⟨(j + 1), rfl, t0, t1, (Eq.trans t5 (by first | rfl | (rw [hd.1]; done) | (rw [hall, hn]; done) | (rw [hall]; done) | (show _ = iV (((ddK l ((k + j) + 1)).length : Nat) : Int); rw [ddK_keep (.inr d5), List.length_append]; rfl) | (show _ = iV (((ddK l ((k + j) + 1)).length : Nat) : Int); rw [ddK_skip (by rintro (q | q); omega; exact q d5)]; done) | (rw [show k + j = l.length by omega]; done))), (Eq.trans t6 (by first | rfl | (rw [hd.1]; done) | (rw [hall, hn]; done) | (rw [hall]; done) | (show _ = iV (((ddK l ((k + j) + 1)).length : Nat) : Int); rw [ddK_keep (.inr d5), List.length_append]; rfl) | (show _ = iV (((ddK l ((k + j) + 1)).length : Nat) : Int); rw [ddK_skip (by rintro (q | q); omega; exact q d5)]; done) | (rw [show k + j = l.length by omega]; done))), (Eq.trans t7 (by first | rfl | (rw [hd.1]; done) | (rw [hall, hn]; done) | (rw [hall]; done) | (show _ = iV (((ddK l ((k + j) + 1)).length : Nat) : Int); rw [ddK_keep (.inr d5), List.length_append]; rfl) | (show _ = iV (((ddK l ((k + j) + 1)).length : Nat) : Int); rw [ddK_skip (by rintro (q | q); omega; exact q d5)]; done) | (rw [show k + j = l.length by omega]; done))), hF, h3, (Eq.trans h202 (by first | rfl | (rw [hd.2]; done) | (rw [hall]; simp; done) | (rw [q5.1, ddL_keep (show k + j < l.length by omega) (.inr d5)]; rfl) | (rw [q5.1, ddL_keep (show k + j < l.length by omega) (.inr d5)]; done) | (show _ = (⟨_, _, _, _, _, List.map cL (ddL l ((k + j) + 1))⟩ : Blk); rw [ddL_skip (by rintro (q | q); omega; exact q d5)]; done) | (rw [dd_take (show l.length ≤ k + j by omega) hj, show k + j = l.length by omega]; done) | (rw [dd_take (show l.length ≤ k + j by omega) hj, show k + j = l.length by omega, hn]; done))), ?_, ?_, ?_⟩
     · omega
     · omega
     · omega
     · first | (show (ddK l ((k + j) + 1)).length < (k + j) + 1; rw [ddK_keep (.inr d5), List.length_append]; simp; omega) | (show (ddK l ((k + j) + 1)).length < (k + j) + 1; rw [ddK_skip (by rintro (q | q); omega; exact q d5)]; omega)
    have d5 : nth l (k + j) = nth l (k + j - 1) := by have q := slx_zero.1 (Decidable.not_not.1 c11); rwa [q5.1, q5.2] at q
    refine W_skip ?_
    refine n10 _ _ ?_
    refine .done ?_
    refine W_regc (fun T H => T 0 = (V.ms 202 v2 0 (len)) ∧ T 1 = (V.fn 105 [] [(V.mp 3 v3 0 0)]) ∧ T 5 = (iV (((ddK l (k + j)).length : Nat) : Int)) ∧ T 6 = (V.ms 202 v2 (0 + k) (len - k)) ∧ T 7 = (iV ((j + 1 : Nat) : Int)) ∧ (∀ j, j ∉ [202] → H j = Hi j) ∧ H 3 = (⟨v3, true, false, 77, 1, [[(V.fn 75 [] [])]]⟩ : Blk) ∧ H 202 = (⟨v2, true, true, 38, 1, (List.map cL (ddL l (k + j)))⟩ : Blk) ∧ True) ?_ ?_
    ·
     unfold r104_10
     refine R_mv t7 ?_
     refine R_addN (m := j) (n := 1) (@rfl V (iV ((j : Nat) : Int))) (@rfl V (iV ((1 : Nat) : Int))) (by first | omega | (simp only [List.length_take]; omega)) ?_
     refine R_mv (@rfl V (iV ((j + 1 : Nat) : Int))) ?_
     exact R_nil ⟨t0, t1, t5, t6, rfl, hF, h3, h202, trivial⟩
    intro T H ⟨t0, t1, t5, t6, t7, hF, h3, h202, _⟩
    refine p18 _ _ _ ?_ ⟨(j + 1), rfl, t0, t1, (Eq.trans t5 (by first | rfl | (rw [hd.1]; done) | (rw [hall, hn]; done) | (rw [hall]; done) | (show _ = iV (((ddK l ((k + j) + 1)).length : Nat) : Int); rw [ddK_keep (.inr d5), List.length_append]; rfl) | (show _ = iV (((ddK l ((k + j) + 1)).length : Nat) : Int); rw [ddK_skip (by rintro (q | q); omega; exact q d5)]; done) | (rw [show k + j = l.length by omega]; done))), (Eq.trans t6 (by first | rfl | (rw [hd.1]; done) | (rw [hall, hn]; done) | (rw [hall]; done) | (show _ = iV (((ddK l ((k + j) + 1)).length : Nat) : Int); rw [ddK_keep (.inr d5), List.length_append]; rfl) | (show _ = iV (((ddK l ((k + j) + 1)).length : Nat) : Int); rw [ddK_skip (by rintro (q | q); omega; exact q d5)]; done) | (rw [show k + j = l.length by omega]; done))), (Eq.trans t7 (by first | rfl | (rw [hd.1]; done) | (rw [hall, hn]; done) | (rw [hall]; done) | (show _ = iV (((ddK l ((k + j) + 1)).length : Nat) : Int); rw [ddK_keep (.inr d5), List.length_append]; rfl) | (show _ = iV (((ddK l ((k + j) + 1)).length : Nat) : Int); rw [ddK_skip (by rintro (q | q); omega; exact q d5)]; done) | (rw [show k + j = l.length by omega]; done))), hF, h3, (Eq.trans h202 (by first | rfl | (rw [hd.2]; done) | (rw [hall]; simp; done) | (rw [q5.1, ddL_keep (show k + j < l.length by omega) (.inr d5)]; rfl) | (rw [q5.1, ddL_keep (show k + j < l.length by omega) (.inr d5)]; done) | (show _ = (⟨_, _, _, _, _, List.map cL (ddL l ((k + j) + 1))⟩ : Blk); rw [ddL_skip (by rintro (q | q); omega; exact q d5)]; done) | (rw [dd_take (show l.length ≤ k + j by omega) hj, show k + j = l.length by omega]; done) | (rw [dd_take (show l.length ≤ k + j by omega) hj, show k + j = l.length by omega, hn]; done))), ?_, ?_, ?_⟩
    · omega
    · omega
    · omega
    · first | (show (ddK l ((k + j) + 1)).length < (k + j) + 1; rw [ddK_keep (.inr d5), List.length_append]; simp; omega) | (show (ddK l ((k + j) + 1)).length < (k + j) + 1; rw [ddK_skip (by rintro (q | q); omega; exact q d5)]; omega)
   refine W_seq_exit ?_
   refine p38 _ _ _ ?_
   refine x7 _ _ ?_
   refine .done ?_
   refine W_seq_regc (fun T H => T 0 = (V.ms 202 v2 0 (len)) ∧ T 5 = (iV (((ddK l (k + j)).length : Nat) : Int)) ∧ (∀ j, j ∉ [202] → H j = Hi j) ∧ H 3 = (⟨v3, true, false, 77, 1, [[(V.fn 75 [] [])]]⟩ : Blk) ∧ H 202 = (⟨v2, true, true, 38, 1, (List.map cL (List.take (((ddK l (k + j)).length)) (ddL l (k + j))) ++ List.replicate (len - ((ddK l (k + j)).length)) [V.nilsl])⟩ : Blk) ∧ True) ?_ ?_
   ·
    unfold r104_14
    refine R_mv t0 ?_
    refine R_mv t5 ?_
    refine R_slice_ms_lo (n := ((ddK l (k + j)).length)) (@rfl V (V.ms 202 v2 0 (len))) (@rfl V (iV (((ddK l (k + j)).length : Nat) : Int))) h202 (okB_map (by first | omega | (simp only [List.length_take]; omega))) rfl (by first | omega | (simp only [List.length_take]; omega)) ?_
    refine R_clr (m := (((ddK l (k + j)).length))) (n := (len - ((ddK l (k + j)).length))) (f := cL) (l := (ddL l (k + j))) (Eq.trans (@rfl V (V.ms 202 v2 (0 + ((ddK l (k + j)).length)) (len - ((ddK l (k + j)).length)))) (congrArg (fun n => V.ms 202 v2 n (len - ((ddK l (k + j)).length))) (Nat.zero_add _))) h202 rfl (by decide) rfl (by first | omega | (simp only [List.length_take]; omega)) (by first | omega | (simp only [List.length_take]; omega)) ?_
    exact R_nil ⟨t0, t5, (upd_out hF (by decide)), h3, rfl, trivial⟩
   intro T H ⟨t0, t5, hF, h3, h202, _⟩
   refine W_seq_regc (fun T H => T 4 = (V.ms 202 v2 0 ((ddK l (k + j)).length)) ∧ (∀ j, j ∉ [202] → H j = Hi j) ∧ H 3 = (⟨v3, true, false, 77, 1, [[(V.fn 75 [] [])]]⟩ : Blk) ∧ H 202 = (⟨v2, true, true, 38, 1, (List.map cL (List.take (((ddK l (k + j)).length)) (ddL l (k + j))) ++ List.replicate (len - ((ddK l (k + j)).length)) [V.nilsl])⟩ : Blk) ∧ True) ?_ ?_
   ·
    unfold r104_15
    refine R_mv t0 ?_
    refine R_mv t5 ?_
    refine R_slice_ms_hi (n := ((ddK l (k + j)).length)) (@rfl V (V.ms 202 v2 0 (len))) (@rfl V (iV (((ddK l (k + j)).length : Nat) : Int))) h202 (okB_zap (by first | omega | (simp only [List.length_take]; omega))) rfl (by first | omega | (simp only [List.length_take]; omega)) ?_
    refine R_mv (@rfl V (V.ms 202 v2 0 ((ddK l (k + j)).length))) ?_
    exact R_nil ⟨rfl, hF, h3, h202, trivial⟩
   intro T H ⟨t4, hF, h3, h202, _⟩
   refine W_ret ?_
   refine y5 _ _ ?_
   refine p23 _ _ ?_
   refine y2 _ _ ?_
   skip
   have fh := FinX.fin (FinX.put (B := (⟨v2, true, true, 38, 1, (List.map cL (ddK l l.length) ++ List.replicate (l.length - (ddK l l.length).length) [V.nilsl])⟩ : Blk)) (FinX.start hF) h202 (FinB.eq (by first | rfl | (rw [hd.2]; done) | (rw [hall]; simp; done) | (rw [q5.1, ddL_keep (show k + j < l.length by omega) (.inr d5)]; rfl) | (rw [q5.1, ddL_keep (show k + j < l.length by omega) (.inr d5)]; done) | (show _ = (⟨_, _, _, _, _, List.map cL (ddL l ((k + j) + 1))⟩ : Blk); rw [ddL_skip (by rintro (q | q); omega; exact q d5)]; done) | (rw [dd_take (show l.length ≤ k + j by omega) hj, show k + j = l.length by omega]; done) | (rw [dd_take (show l.length ≤ k + j by omega) hj, show k + j = l.length by omega, hn]; done))))
   exact RetF_1 t4 fh (FinV.trans_eq (FinV.same fh _) (by first | rfl | (rw [hd.1]; done) | (rw [hall, hn]; done) | (rw [hall]; done) | (show _ = iV (((ddK l ((k + j) + 1)).length : Nat) : Int); rw [ddK_keep (.inr d5), List.length_append]; rfl) | (show _ = iV (((ddK l ((k + j) + 1)).length : Nat) : Int); rw [ddK_skip (by rintro (q | q); omega; exact q d5)]; done) | (rw [show k + j = l.length by omega]; done)))
  have d1 : nth l k ≠ nth l (k - 1) := fun q => c6 (slx_zero.2 (by rw [show (((k : Nat) : Int) - (1 : Int)).toNat = k - 1 by omega]; exact q))
  refine W_skip ?_
  refine n5 _ _ ?_
  refine .done ?_
  refine W_regc (fun T H => T 0 = (V.ms 202 v2 0 (len)) ∧ T 1 = (V.fn 105 [] [(V.mp 3 v3 0 0)]) ∧ T 5 = (iV ((k + 1 : Nat) : Int)) ∧ (∀ j, j ∉ [202] → H j = Hi j) ∧ H 3 = (⟨v3, true, false, 77, 1, [[(V.fn 75 [] [])]]⟩ : Blk) ∧ H 202 = (⟨v2, true, true, 38, 1, (List.map cL (l))⟩ : Blk) ∧ True) ?_ ?_
  ·
   unfold r104_5
   refine R_mv t5 ?_
   refine R_addN (m := k) (n := 1) (@rfl V (iV ((k : Nat) : Int))) (@rfl V (iV ((1 : Nat) : Int))) (by first | omega | (simp only [List.length_take]; omega)) ?_
   refine R_mv (@rfl V (iV ((k + 1 : Nat) : Int))) ?_
   exact R_nil ⟨t0, t1, rfl, hF, h3, h202, trivial⟩
  intro T H ⟨t0, t1, t5, hF, h3, h202, _⟩
  refine p13 _ _ _ ?_ ⟨(k + 1), rfl, t0, t1, (Eq.trans t5 (by first | rfl | (rw [hd.1]; done) | (rw [hall, hn]; done) | (rw [hall]; done) | (show _ = iV (((ddK l ((k + j) + 1)).length : Nat) : Int); rw [ddK_keep (.inr d5), List.length_append]; rfl) | (show _ = iV (((ddK l ((k + j) + 1)).length : Nat) : Int); rw [ddK_skip (by rintro (q | q); omega; exact q d5)]; done) | (rw [show k + j = l.length by omega]; done))), hF, h3, h202, ?_, ?_, ?_⟩
  · omega
  · omega
  · omega
  · intro i i1 i2
    by_cases e : i = k
    · subst e; exact d1
    · exact hc i i1 (by omega)
 refine W_seq_exit ?_
 refine p33 _ _ _ ?_
 refine x2 _ _ ?_
 refine .done ?_
 refine W_seq_regc (fun T H => T 4 = (V.ms 202 v2 0 (len)) ∧ (∀ j, j ∉ [202] → H j = Hi j) ∧ H 3 = (⟨v3, true, false, 77, 1, [[(V.fn 75 [] [])]]⟩ : Blk) ∧ H 202 = (⟨v2, true, true, 38, 1, (List.map cL (l))⟩ : Blk) ∧ True) ?_ ?_
 ·
  unfold r104_16
  refine R_mv t0 ?_
  refine R_mv (@rfl V (V.ms 202 v2 0 (len))) ?_
  exact R_nil ⟨rfl, hF, h3, h202, trivial⟩
 intro T H ⟨t4, hF, h3, h202, _⟩
 refine W_ret ?_
 have hall := dd_all (l := l) (fun i i1 i2 => hc i i1 (by omega))
 have fh := FinX.fin (FinX.put (B := (⟨v2, true, true, 38, 1, (List.map cL (ddK l l.length) ++ List.replicate (l.length - (ddK l l.length).length) [V.nilsl])⟩ : Blk)) (FinX.start hF) h202 (FinB.eq (by first | rfl | (rw [hd.2]; done) | (rw [hall]; simp; done) | (rw [q5.1, ddL_keep (show k + j < l.length by omega) (.inr d5)]; rfl) | (rw [q5.1, ddL_keep (show k + j < l.length by omega) (.inr d5)]; done) | (show _ = (⟨_, _, _, _, _, List.map cL (ddL l ((k + j) + 1))⟩ : Blk); rw [ddL_skip (by rintro (q | q); omega; exact q d5)]; done) | (rw [dd_take (show l.length ≤ k + j by omega) hj, show k + j = l.length by omega]; done) | (rw [dd_take (show l.length ≤ k + j by omega) hj, show k + j = l.length by omega, hn]; done))))
 exact RetF_1 t4 fh (FinV.trans_eq (FinV.same fh _) (by first | rfl | (rw [hd.1]; done) | (rw [hall, hn]; done) | (rw [hall]; done) | (show _ = iV (((ddK l ((k + j) + 1)).length : Nat) : Int); rw [ddK_keep (.inr d5), List.length_append]; rfl) | (show _ = iV (((ddK l ((k + j) + 1)).length : Nat) : Int); rw [ddK_skip (by rintro (q | q); omega; exact q d5)]; done) | (rw [show k + j = l.length by omega]; done)))
end Go.Proofs.YtmnjchcoigbngaaGreat


namespace Go.Proofs.YtmnjchcoigbngaaGreat
open Go Go.Proofs Go.Shelf Go.Sort Go.Lib
def SortSpec1 (P : Program) (f : Nat) : Prop := ∀ {α : Type} [Inhabited α] (enc : α → Value) (_ : OneCell enc) (cf : α → α → Int) (_ : SWO (ltOf cf)) (g : Nat) (cb : Array Value) (blk off cap : Nat) (d : Array α) (w : World)
    (_ : ∀ args w, (callFunc g args).run P w = .ok (.enter g args) w) (_ : CmpLays1 P g cb enc cf blk off d.size w) (_ : Holds enc w blk off d) (_ : blk < w.heap.size) (_ : d.size < 4611686018427387904),
    Calls P f #[.slice (some ⟨blk, off, none⟩) d.size cap, .func (.func g) #[] cb] w fun e w' =>
      e = .returned (.tuple #[]) ∧ ∃ d' n os, PermIn 0 d.size d d' ∧ SortedIn (ltOf cf) 0 d.size d' ∧ w' = sortWorld enc w blk off n d' os
section
variable {P : Program} {α : Type} [Inhabited α] {enc : α → Value} {w : World} {blk off m : Nat} {dk : Array α} {os : Array Obj}
theorem sortWorld1_other {b : Nat} (hb : b < w.heap.size) (hne : b ≠ blk) : (sortWorld enc w blk off m dk os).heap[b]? = w.heap[b]? := by
  unfold sortWorld grow putRow mapBlock Sort.ahead
  simp only
  rw [Array.getElem?_append, if_pos (by simpa using hb), Array.getElem?_modify, if_neg (Ne.symm hne)]
theorem sortWorld1_size : w.heap.size ≤ (sortWorld enc w blk off m dk os).heap.size := by
  unfold sortWorld grow putRow mapBlock Sort.ahead
  simp
theorem sortWorld1_eq {cc : Array Value} {ty : TypeId} (h : w.heap[blk]? = some (.cells cc ty (0, 0))) :
    sortWorld enc w blk off m dk os = grow { w.setRow blk (putCells enc off dk cc) with drawn := w.drawn + m } os := by
  unfold sortWorld putRow mapBlock Sort.ahead World.setRow
  congr 2
  refine Array.ext_getElem? fun b => ?_
  simp only [Array.getElem?_modify]
  by_cases e : blk = b
  · subst e
    simp only [if_true, h, Option.map_some, onCells]
  · simp only [if_neg e]
end
theorem CallOK_sort1 {P : Program} {f g : Nat} (hS : SortSpec1 P f) (hN : SortNone P f) (hcf : callable P f) (hcg : callable P g) {T : Type} [Inhabited T] {f0 : T → V} {l : List T} {cmp : T → T → Int}
    (hO : SWO fun a b => decide (cmp a b < 0)) (hT : ∀ a ∈ l, ∀ b ∈ l, ¬cmp a b < 0 → ¬cmp b a < 0 → a = b)
    (hc : ∀ a ∈ l, ∀ b ∈ l, PureC P g [f0 a, f0 b] (iV (cmp a b))) (hp : ∀ a ∈ l, (f0 a).pure = true) (h1 : ∀ a ∈ l, (f0 a).one = true)
    (hl : l.length < 4611686018427387904) {id ver ty : Nat} {lz : Bool} {H : Heap} (hH : H id = ⟨ver, true, lz, ty, 1, l.map fun a => [f0 a]⟩) :
    CallOK P f [.ms id ver 0 l.length, .fn g [] []] H (.tup []) (upd H id ⟨ver, true, lz, ty, 1, (srt cmp l).map fun a => [f0 a]⟩) := by
  refine ⟨hcf, fun x cs hxH hx hr => ?_⟩
  subst hxH
  obtain ⟨c0, c1, rfl⟩ : ∃ c0 c1, cs = [c0, c1] := by
    have := hr.1
    match cs with
    | [a, b] => exact ⟨a, b, rfl⟩
    | [] => simp at this
    | [_] => simp at this
    | _ :: _ :: _ :: _ => simp at this
  have r0 : R x (.ms id ver 0 l.length) c0 := hr.2 0 _ rfl
  have r1 : R x (.fn g [] []) c1 := hr.2 1 _ rfl
  cases r1 with
  | fn _ _ _ fs cb hfs hcs _ _ =>
  have hfs' : fs = #[] := Array.eq_empty_of_size_eq_zero (by simpa using hfs)
  have hcs' : cb = #[] := Array.eq_empty_of_size_eq_zero (by simpa using hcs)
  subst hfs'; subst hcs'
  cases r0 with
  | ms _ _ _ _ b n cap hv hh =>
  obtain ⟨e1, e2, e3, e4, e5, e6⟩ := hh (by rw [hH]) (by rw [hH])
  subst e1
  by_cases hne : l = []
  · subst hne
    refine (hN b cap (.func (.func g) #[] #[]) x.w).mono fun e w' h => ?_
    obtain ⟨rfl, rfl⟩ := h
    refine ⟨_, x, rfl, rfl, ?_, hx, .tup [] #[] rfl (fun j v hj => by simp at hj), Frame.refl x⟩
    funext j
    by_cases e : j = id
    · subst e; rw [upd_same, hH]; simp [srt]
    · rw [upd_ne _ _ e]
  have hpos : 0 < l.length := List.length_pos_iff.2 hne
  have ho : (x.H id).own = true := by
    rw [hH]
    cases l with
    | nil => exact (hne rfl).elim
    | cons a l => simp [Blk.own]
  obtain ⟨e7, _⟩ := e5 ho
  rw [hH] at e7
  simp only [Nat.zero_mul] at e7
  subst e7
  obtain ⟨cc, b1, b2, b3, b4⟩ := hx.blk id ho
  simp only [hH] at b1 b2 b3 b4
  rw [List.length_map, Nat.mul_one] at b3
  let A : Type := { i : Nat // i < l.length }
  haveI : Inhabited A := ⟨⟨0, hpos⟩⟩
  let enc : A → Value := fun i => cc.getD i.1 undef
  let cf : A → A → Int := fun a b => cmp (nth l a.1) (nth l b.1)
  let d : Array A := Array.ofFn fun i : Fin l.length => (⟨i.1, i.2⟩ : A)
  have hdn : d.size = l.length := by simp [d]
  have hdi : ∀ i (h : i < l.length), d[i]! = ⟨i, h⟩ := fun i h => by
    rw [getElem!_pos d i (by rw [hdn]; exact h)]; simp [d]
  have hrow : ∀ i, i < l.length → (l.map fun a => [f0 a])[i]? = some [f0 (nth l i)] := fun i hi => by rw [List.getElem?_map, nth_eq hi]; rfl
  have hRx : ∀ a : A, R x (f0 (nth l a.1)) (cc.getD a.1 undef) := fun a => by
    have := b4 a.1 _ 0 _ (hrow a.1 a.2) rfl
    rwa [Nat.mul_one, Nat.add_zero] at this
  have hO' : SWO (ltOf cf) := ⟨fun a => hO.irrefl _, fun a b c => hO.trans _ _ _, fun a b c => hO.ntrans _ _ _⟩
  have hcmp : CmpLays1 P g #[] enc cf (x.σ id) 0 d.size x.w := by
    intro m os dk hdk a b
    let W := sortWorld enc x.w (x.σ id) 0 m dk os
    let z : Cx := start { x with w := W } x.Z
    have hz : Inv z := start_ok fun b hb => Nat.lt_of_lt_of_le (hx.zlt b hb) sortWorld1_size
    have hag : ∀ a : A, R z (f0 (nth l a.1)) (enc a) := fun a => by
      refine (hRx a).pure_same (y := z) (hp _ (nth_mem a.2)) (fun b hb => ?_) fun _ h => h
      exact sortWorld1_other (hx.zlt b hb) fun e => hx.zown b id hb ho e.symm
    have hrl : RL z [f0 (nth l a.1), f0 (nth l b.1)] [enc a, enc b] := by
      refine ⟨rfl, fun j v hj => ?_⟩
      match j, hj with
      | 0, hj => simp at hj; subst hj; exact hag a
      | 1, hj => simp at hj; subst hj; exact hag b
    refine ((hc _ (nth_mem a.2) _ (nth_mem b.2) H0).2 z _ rfl hz hrl).mono fun e w' h => ?_
    obtain ⟨c, y, rfl, rfl, _, _, h5, h6⟩ := h
    cases h5
    obtain ⟨q, os', hq⟩ := grown_of_frame h6 fun id => rfl
    exact ⟨rfl, q, os', hq⟩
  have hsz : d.size < 4611686018427387904 := by rw [hdn]; exact hl
  have hH' : Holds enc x.w (x.σ id) 0 d := by
    intro j hj
    rw [hdn] at hj
    have e : enc d[j]! = cc.getD j undef := by rw [hdi _ hj]
    have hjc : j < cc.size := by omega
    refine ⟨?_, ?_⟩
    · rw [e, Nat.zero_add]; exact own_cell b1 hjc
    · simp [World.frozen?, b1]
  have hcall := hS enc (fun a => (hRx a).one (h1 _ (nth_mem a.2))) cf hO' g #[] (x.σ id) 0 cap d x.w (enters_callable hcg) hcmp hH' (hx.lt ho) hsz
  rw [hdn] at hcall
  refine hcall.mono fun e w' h => ?_
  obtain ⟨rfl, d', n', os', hP, hSo, rfl⟩ := h
  obtain ⟨p1, _, p3⟩ := hP
  rw [hdn] at p1
  have x1 : d'.extract 0 l.length = d' := by rw [← p1]; simp
  have x2 : d.extract 0 l.length = d := by rw [← hdn]; simp
  rw [x1, x2] at p3
  have hmap : d.toList.map (fun a : A => nth l a.1) = l := by
    refine nth_ext (by simp [hdn]) fun j hj => ?_
    have hj' : j < l.length := by simpa [hdn] using hj
    rw [nth_map (by simpa using hj), ← nth_set_eq d j (by rw [hdn]; exact hj'), hdi j hj']
  have hl' : d'.toList.map (fun a : A => nth l a.1) = srt cmp l := by
    have hperm : (d'.toList.map (fun a : A => nth l a.1)).Perm l := by
      have := p3.map (fun a : A => nth l a.1)
      rwa [hmap] at this
    refine sorted_uniq (le := fun a b => ¬cmp b a < 0) (fun a ha b hb h1 h2 => hT a (hperm.mem_iff.1 ha) b (hperm.mem_iff.1 hb) h2 h1) (hperm.trans (srt_perm cmp l).symm) ?_ (srt_sorted hO l)
    rw [List.pairwise_map, List.pairwise_iff_getElem]
    intro i j hi hj hij
    have h := hSo i j (Nat.zero_le _) hij (by rw [← p1]; simpa using hj)
    rw [nth_set_eq d' i (by simpa using hi), nth_set_eq d' j (by simpa using hj), ← nth_getElem hi, ← nth_getElem hj] at h
    simpa [ltOf, cf] using h
  let cc' := putCells enc 0 d' cc
  have hcs : cc'.size = cc.size := by simp [cc', putCells]
  have hg : ∀ r, r < l.length → ∀ (hr : r < d'.size), cc'.getD r undef = cc.getD (d'[r]'hr).1 undef := by
    intro r hr hr'
    have e : cc'[r]? = some (enc d'[r]!) := by
      simp only [cc', putCells, Array.getElem?_mapIdx]
      rw [Array.getElem?_eq_getElem (by omega)]
      simp [hr']
    rw [Array.getD_eq_getD_getElem?, e, getElem!_pos d' r hr']
    rfl
  have hrows : ∀ (r : Nat) (row : List V) (j : Nat) (v : V), ((srt cmp l).map fun a => [f0 a])[r]? = some row → row[j]? = some v → R x v (cc'.getD (r * 1 + j) undef) := by
    intro r row j v hr hj
    rw [← hl', List.map_map, List.getElem?_map] at hr
    obtain ⟨a, ha, rfl⟩ := map_some hr
    have har := List.getElem?_eq_some_iff.1 ha
    obtain ⟨hlt, hae⟩ := har
    have hlt' : r < d'.size := by simpa using hlt
    have hj0 : j = 0 := by
      have := (List.getElem?_eq_some_iff.1 hj).1
      simp at this; exact this
    subst hj0
    simp only [Function.comp_apply, List.getElem?_cons_zero, Option.some.injEq] at hj
    subst hj
    rw [Nat.mul_one, Nat.add_zero, hg r (by omega) hlt']
    have hae' : d'[r]'hlt' = a := by simpa using hae
    rw [hae']
    exact hRx a
  have st := step_set hx id ho cc cc' (by rw [hH]; exact b1) hcs (x.H id).ver ((srt cmp l).map fun a => [f0 a]) (Nat.le_refl _) (fun _ => by rw [hH]; simp [srt]) (by
      rw [hH]
      have : (srt cmp l).length = l.length := by simp [srt]
      cases hq : srt cmp l with
      | nil => rw [hq] at this; simp at this; omega
      | cons a q => simp) (fun r hr => by
      rw [hH]
      obtain ⟨a, _, rfl⟩ := List.mem_map.1 hr
      rfl) (by rw [hH]; simpa [srt] using b3) (by simp only [hH]; exact hrows)
  simp only [hH] at st
  obtain ⟨i1, f1⟩ := st
  obtain ⟨i2, f2⟩ := step_draw i1 (x.w.drawn + n') (Nat.le_add_right _ _)
  obtain ⟨i3, f3⟩ := step_grow i2 os'
  refine ⟨.tuple #[], _, rfl, ?_, ?_, i3, .tup [] #[] rfl (fun j v hj => by simp at hj), (f1.trans f2).trans f3⟩
  · rw [sortWorld1_eq b1]
  · rfl
end Go.Proofs.YtmnjchcoigbngaaGreat


namespace Go.Proofs.YtmnjchcoigbngaaGreat
open Go Go.Proofs Go.Shelf Go.Sort
def sortRen103 : Go.Shelf.Ren := ⟨fun | 6 => 103 | 15 => 117 | 14 => 116 | 28 => 128 | 29 => 129 | 20 => 120 | 21 => 121 | 22 => 122 | 23 => 123 | 24 => 124 | 25 => 125 | 26 => 126 | 27 => 127 | 46 => 130 | 47 => 131 | 48 => 132 | 49 => 133 | 50 => 134 | 57 => 135 | n => n, fun | 22 => 31 | 24 => 38 | 25 => 77 | 3 => 3 | 39 => 123 | 0 => 0 | 53 => 137 | 55 => 139 | 4 => 4 | 46 => 131 | 45 => 130 | 50 => 80 | 5 => 5 | 9 => 9 | 66 => 140 | 70 => 144 | 76 => 146 | 77 => 147 | n => n, fun n => n⟩
theorem sortLay103 : SlLaysF.n6 Tryz.prog sortRen103 := {
  mixed := (by kernel_rfl),
  f6 := ⟨Tryz.f103.name, by decide, Tryz.func103.trans (congrArg some (by kernel_rfl))⟩,
  f14 := ⟨Tryz.f116.name, by decide, Tryz.func116.trans (congrArg some (by kernel_rfl))⟩,
  f15 := Tryz.func117.trans (congrArg some (by kernel_rfl)),
  f20 := ⟨Tryz.f120.name, by decide, Tryz.func120.trans (congrArg some (by kernel_rfl))⟩,
  f21 := ⟨Tryz.f121.name, by decide, Tryz.func121.trans (congrArg some (by kernel_rfl))⟩,
  f22 := ⟨Tryz.f122.name, by decide, Tryz.func122.trans (congrArg some (by kernel_rfl))⟩,
  f23 := ⟨Tryz.f123.name, by decide, Tryz.func123.trans (congrArg some (by kernel_rfl))⟩,
  f24 := ⟨Tryz.f124.name, by decide, Tryz.func124.trans (congrArg some (by kernel_rfl))⟩,
  f25 := ⟨Tryz.f125.name, by decide, Tryz.func125.trans (congrArg some (by kernel_rfl))⟩,
  f26 := ⟨Tryz.f126.name, by decide, Tryz.func126.trans (congrArg some (by kernel_rfl))⟩,
  f27 := ⟨Tryz.f127.name, by decide, Tryz.func127.trans (congrArg some (by kernel_rfl))⟩,
  f28 := Tryz.func128.trans (congrArg some (by kernel_rfl)),
  f29 := Tryz.func129.trans (congrArg some (by kernel_rfl)),
  f46 := ⟨Tryz.f130.name, by decide, Tryz.func130.trans (congrArg some (by kernel_rfl))⟩,
  f47 := Tryz.func131.trans (congrArg some (by kernel_rfl)),
  f48 := Tryz.func132.trans (congrArg some (by kernel_rfl)),
  f49 := ⟨Tryz.f133.name, by decide, Tryz.func133.trans (congrArg some (by kernel_rfl))⟩,
  f50 := ⟨Tryz.f134.name, by decide, Tryz.func134.trans (congrArg some (by kernel_rfl))⟩,
  f57 := ⟨Tryz.f135.name, by decide, Tryz.func135.trans (congrArg some (by kernel_rfl))⟩,
  t0 := Tryz.underlying0,
  a0 := Tryz.isAgg0,
  z0 := Tryz.sizeOf0,
  v0 := Tryz.zeroValue0,
  t3 := Tryz.underlying3,
  a3 := Tryz.isAgg3,
  z3 := Tryz.sizeOf3,
  v3 := Tryz.zeroValue3,
  t4 := Tryz.underlying4,
  a4 := Tryz.isAgg4,
  z4 := Tryz.sizeOf4,
  v4 := Tryz.zeroValue4,
  t5 := Tryz.underlying5,
  a5 := Tryz.isAgg5,
  z5 := Tryz.sizeOf5,
  v5 := Tryz.zeroValue5,
  t9 := Tryz.underlying9,
  a9 := Tryz.isAgg9,
  z9 := Tryz.sizeOf9,
  v9 := Tryz.zeroValue9,
  t22 := Tryz.underlying31,
  a22 := Tryz.isAgg31,
  z22 := Tryz.sizeOf31,
  v22 := Tryz.zeroValue31,
  a24 := Tryz.isAgg38,
  z24 := Tryz.sizeOf38,
  t25 := Tryz.underlying77,
  a25 := Tryz.isAgg77,
  z25 := Tryz.sizeOf77,
  v25 := Tryz.zeroValue77,
  t39 := Tryz.underlying123,
  a39 := Tryz.isAgg123,
  z39 := Tryz.sizeOf123,
  v39 := Tryz.zeroValue123,
  t45 := Tryz.underlying130,
  a45 := Tryz.isAgg130,
  z45 := Tryz.sizeOf130,
  v45 := Tryz.zeroValue130,
  t46 := Tryz.underlying131,
  a46 := Tryz.isAgg131,
  z46 := Tryz.sizeOf131,
  v46 := Tryz.zeroValue131,
  t50 := Tryz.underlying80,
  a50 := Tryz.isAgg80,
  z50 := Tryz.sizeOf80,
  v50 := Tryz.zeroValue80,
  t53 := Tryz.underlying137,
  a53 := Tryz.isAgg137,
  z53 := Tryz.sizeOf137,
  v53 := Tryz.zeroValue137,
  t55 := Tryz.underlying139,
  a55 := Tryz.isAgg139,
  z55 := Tryz.sizeOf139,
  v55 := Tryz.zeroValue139,
  t66 := Tryz.underlying140,
  a66 := Tryz.isAgg140,
  z66 := Tryz.sizeOf140,
  v66 := Tryz.zeroValue140,
  t70 := Tryz.underlying144,
  a70 := Tryz.isAgg144,
  z70 := Tryz.sizeOf144,
  v70 := Tryz.zeroValue144,
  t76 := Tryz.underlying146,
  a76 := Tryz.isAgg146,
  z76 := Tryz.sizeOf146,
  v76 := Tryz.zeroValue146,
  t77 := Tryz.underlying147,
  a77 := Tryz.isAgg147,
  z77 := Tryz.sizeOf147,
  v77 := Tryz.zeroValue147 }
theorem sortSpec103 : SortSpec1 Tryz.prog 103 := fun enc h1 cf hO g cb blk off cap d w eg hcmp hH hblk hsz =>
  Any.slices_SortFunc sortLay103 enc h1 cf hO g cb blk off cap d w eg hcmp hH hblk hsz
theorem sortCall103 : callable Tryz.prog 103 := ⟨_, Tryz.func103, by kernel_rfl, by kernel_rfl⟩
theorem sortNone103 : SortNone Tryz.prog 103 := fun p cap fv w => AnyF.slices_SortFunc_none { sortLay103 with } p cap fv w
end Go.Proofs.YtmnjchcoigbngaaGreat


namespace Go.Proofs.YtmnjchcoigbngaaGreat
open Go Go.Proofs
theorem ordered_pure (l : List (List Int)) (hl : l.length ≤ 1073741824) (hw : ∀ w ∈ l, w.length ≤ 1048576) : PureC Tryz.prog 74 [(V.sl (List.map cL (l))), (V.fn 75 [] [])] (V.sl (List.map cL (sdP l))) := by
 refine pure_of_Wb true 6 Tryz.func74 s74_ok (by kernel_rfl) (by simp [s74]) (by simp) (by simp) fun hB => ?_
 simp only [bnd_map, bnd_int, bnd_bool, bnd_str, bnd_agg, bnd_pp, bnd_nil, bnd_cons, implies_true, and_true, true_and] at hB
 unfold s74
 dsimp only
 have q9 : (ddK (srt slx l) (srt slx l).length).length ≤ l.length := sdP_len l
 refine W_seq_regc (fun T H => T 0 = (V.sl (List.map cL (l))) ∧ T 3 = (V.mp 3 1 0 0) ∧ H 3 = (⟨1, true, false, 77, 1, [[(V.fn 75 [] [])]]⟩ : Blk) ∧ H 202 = (⟨0, false, false, 0, 0, []⟩ : Blk) ∧ True) ?_ ?_
 ·
  unfold r74_0
  refine R_box (i := 3) (n := 0) (m := 1) (cs := [(V.fn 75 [] [])]) rfl (congrArg Blk.ver rfl) (@rfl V (V.fn 75 [] [])) rfl rfl ?_
  refine R_mv (@rfl V V.nilsl) ?_
  exact R_nil ⟨rfl, rfl, rfl, rfl, trivial⟩
 intro T H ⟨t0, t3, h3, h202, _⟩
 refine W_seq_regc (fun T H => T 3 = (V.mp 3 1 0 0) ∧ T 5 = (V.ms 202 3 0 (l.length)) ∧ H 3 = (⟨1, true, false, 77, 1, [[(V.fn 75 [] [])]]⟩ : Blk) ∧ H 202 = (⟨3, true, true, 38, 1, (List.map cL (l))⟩ : Blk) ∧ True) ?_ ?_
 ·
  unfold r74_1
  refine R_mv t0 ?_
  refine R_callE (evcons (@rfl V (V.sl (List.map cL (l)))) evnil) (clonew_E l 0 _ (congrArg Blk.ver h202) (by omega)) ?_
  refine R_mv (@rfl V (V.ms 202 3 0 (l.length))) ?_
  exact R_nil ⟨t3, rfl, h3, rfl, trivial⟩
 intro T H ⟨t3, t5, h3, h202, _⟩
 refine W_seq_regc (fun T H => T 3 = (V.mp 3 1 0 0) ∧ T 5 = (V.ms 202 3 0 (l.length)) ∧ H 3 = (⟨1, true, false, 77, 1, [[(V.fn 75 [] [])]]⟩ : Blk) ∧ H 202 = (⟨3, true, true, 38, 1, (List.map cL (srt slx l))⟩ : Blk) ∧ True) ?_ ?_
 ·
  unfold r74_2
  refine R_mv t5 ?_
  refine R_load_mp (v := (V.fn 75 [] [])) t3 h3 (by first | rfl | simp [ldB, ldV, Blk.own, V.one]) ?_
  refine R_callE (evcons (@rfl V (V.ms 202 3 0 (l.length))) (evcons (@rfl V (V.fn 75 [] [])) evnil)) (CallOK_sort1 (f0 := ints) (l := l) (cmp := slx) sortSpec103 sortNone103 sortCall103 ⟨_, Tryz.func75, by kernel_rfl, by kernel_rfl⟩ slx_swo (fun a _ b _ h1 h2 => slx_same h1 h2) (fun a _ b _ => compare_pure a b) (fun a _ => by simp) (fun a _ => rfl) (by omega) h202) ?_
  exact R_nil ⟨t3, t5, h3, rfl, trivial⟩
 intro T H ⟨t3, t5, h3, h202, _⟩
 refine W_seq_regc (fun T H => T 5 = (V.ms 202 3 0 ((ddK (srt slx l) (srt slx l).length).length)) ∧ H 3 = (⟨1, true, false, 77, 1, [[(V.fn 75 [] [])]]⟩ : Blk) ∧ H 202 = (⟨3, true, true, 38, 1, (List.map cL (ddK (srt slx l) (srt slx l).length) ++ List.replicate ((srt slx l).length - (ddK (srt slx l) (srt slx l).length).length) [V.nilsl])⟩ : Blk) ∧ True) ?_ ?_
 ·
  unfold r74_3
  refine R_mv t5 ?_
  refine R_mkf (evcons t3 evnil) ?_
  refine R_callE (evcons (@rfl V (V.ms 202 3 0 (l.length))) (evcons (@rfl V (V.fn 105 [] [(V.mp 3 1 0 0)])) evnil)) (compw_E (srt slx l) 3 1 l.length _ h202 h3 (by simp [srt_len]) (by simp only [srt_len]; omega)) ?_
  refine R_mv (@rfl V (V.ms 202 3 0 ((ddK (srt slx l) (srt slx l).length).length))) ?_
  exact R_nil ⟨rfl, h3, rfl, trivial⟩
 intro T H ⟨t5, h3, h202, _⟩
 refine W_seq_seq ?_
 refine W_seq_regc (fun T H => T 5 = (V.ms 202 3 0 ((ddK (srt slx l) (srt slx l).length).length)) ∧ T 16 = (V.ms 202 3 0 ((ddK (srt slx l) (srt slx l).length).length)) ∧ T 17 = (iV (((ddK (srt slx l) (srt slx l).length).length : Nat) : Int)) ∧ T 18 = (iV (0 : Int)) ∧ H 3 = (⟨1, true, false, 77, 1, [[(V.fn 75 [] [])]]⟩ : Blk) ∧ H 202 = (⟨3, true, true, 38, 1, (List.map cL (ddK (srt slx l) (srt slx l).length) ++ List.replicate ((srt slx l).length - (ddK (srt slx l) (srt slx l).length).length) [V.nilsl])⟩ : Blk) ∧ True) ?_ ?_
 ·
  unfold r74_4
  refine R_mv t5 ?_
  refine R_len_ms (@rfl V (V.ms 202 3 0 ((ddK (srt slx l) (srt slx l).length).length))) h202 (by first | rfl | simp) ?_
  refine R_mv (@rfl V (iV (0 : Int))) ?_
  exact R_nil ⟨t5, rfl, rfl, rfl, h3, h202, trivial⟩
 intro T H ⟨t5, t16, t17, t18, h3, h202, _⟩
 refine W_seq_blockg fun Q1 n1 x1 y1 z1 => ?_
 refine W_loop (fun mm T H => ∃ (k : Nat), mm = ((ddK (srt slx l) (srt slx l).length).length) - k ∧ T 5 = (V.ms 202 3 0 ((ddK (srt slx l) (srt slx l).length).length)) ∧ T 16 = (V.ms 202 3 0 ((ddK (srt slx l) (srt slx l).length).length)) ∧ T 17 = (iV (((ddK (srt slx l) (srt slx l).length).length : Nat) : Int)) ∧ T 18 = (iV ((k : Nat) : Int)) ∧ H 3 = (⟨1, true, false, 77, 1, [[(V.fn 75 [] [])]]⟩ : Blk) ∧ H 202 = (⟨3, true, true, 38, 1, (List.map cL (ddK (srt slx l) (srt slx l).length) ++ List.replicate ((srt slx l).length - (ddK (srt slx l) (srt slx l).length).length) [V.nilsl])⟩ : Blk) ∧ (k ≤ (ddK (srt slx l) (srt slx l).length).length)) ?_ ?_
 ·
  refine ⟨_, 0, rfl, t5, t16, t17, (Eq.trans t18 (by first | rfl | simp)), h3, h202, ?_⟩
  · omega
 intro mm T H ⟨k, hmm, t5, t16, t17, t18, h3, h202, hk⟩ Q2 p12 p22 p32
 unfold b74_0
 refine W_seq_regc (fun T H => T 5 = (V.ms 202 3 0 ((ddK (srt slx l) (srt slx l).length).length)) ∧ T 16 = (V.ms 202 3 0 ((ddK (srt slx l) (srt slx l).length).length)) ∧ T 17 = (iV (((ddK (srt slx l) (srt slx l).length).length : Nat) : Int)) ∧ T 18 = (iV ((k : Nat) : Int)) ∧ T 19 = (V.bool (decide (((k : Nat) : Int) < (((ddK (srt slx l) (srt slx l).length).length : Nat) : Int)))) ∧ H 3 = (⟨1, true, false, 77, 1, [[(V.fn 75 [] [])]]⟩ : Blk) ∧ H 202 = (⟨3, true, true, 38, 1, (List.map cL (ddK (srt slx l) (srt slx l).length) ++ List.replicate ((srt slx l).length - (ddK (srt slx l) (srt slx l).length).length) [V.nilsl])⟩ : Blk) ∧ True) ?_ ?_
 ·
  unfold r74_5
  refine R_lss (x := ((k : Nat) : Int)) (y := (((ddK (srt slx l) (srt slx l).length).length : Nat) : Int)) t18 t17 ?_
  exact R_nil ⟨t5, t16, t17, t18, rfl, h3, h202, trivial⟩
 intro T H ⟨t5, t16, t17, t18, t19, h3, h202, _⟩
 refine W_seq_if (p := ((k : Nat) : Int) < (((ddK (srt slx l) (srt slx l).length).length : Nat) : Int)) t19 (fun c3 => ?_) (fun c3 => ?_)
 ·
  refine W_seq_skip ?_
  refine W_seq_blockg fun Q4 n4 x4 y4 z4 => ?_
  refine W_seq_regc (fun T H => T 5 = (V.ms 202 3 0 ((ddK (srt slx l) (srt slx l).length).length)) ∧ T 6 = (iV ((k : Nat) : Int)) ∧ T 7 = (V.sl (List.map cI ((nth (ddK (srt slx l) (srt slx l).length) (k))))) ∧ T 16 = (V.ms 202 3 0 ((ddK (srt slx l) (srt slx l).length).length)) ∧ T 17 = (iV (((ddK (srt slx l) (srt slx l).length).length : Nat) : Int)) ∧ T 18 = (iV ((k : Nat) : Int)) ∧ H 3 = (⟨1, true, false, 77, 1, [[(V.fn 75 [] [])]]⟩ : Blk) ∧ H 202 = (⟨3, true, true, 38, 1, (List.map cL (ddK (srt slx l) (srt slx l).length) ++ List.replicate ((srt slx l).length - (ddK (srt slx l) (srt slx l).length).length) [V.nilsl])⟩ : Blk) ∧ True) ?_ ?_
  ·
   unfold r74_6
   refine R_mv t18 ?_
   refine R_idx_ms0 (i := k) t16 t18 h202 (okB_zap (by omega)) rfl (by omega) ?_
   refine R_load_mp (v := (V.sl (List.map cI ((nth (ddK (srt slx l) (srt slx l).length) (k)))))) (@rfl V (V.mp 202 3 k 0)) h202 (ldB_zap (by omega) (by first | rfl | simp [ldV, V.one])) ?_
   refine R_mv (@rfl V (iV ((k : Nat) : Int))) ?_
   refine R_mv (@rfl V (V.sl (List.map cI ((nth (ddK (srt slx l) (srt slx l).length) (k)))))) ?_
   exact R_nil ⟨t5, rfl, rfl, t16, t17, t18, h3, h202, trivial⟩
  intro T H ⟨t5, t6, t7, t16, t17, t18, h3, h202, _⟩
  refine W_regc (fun T H => T 5 = (V.ms 202 3 0 ((ddK (srt slx l) (srt slx l).length).length)) ∧ T 16 = (V.ms 202 3 0 ((ddK (srt slx l) (srt slx l).length).length)) ∧ T 17 = (iV (((ddK (srt slx l) (srt slx l).length).length : Nat) : Int)) ∧ T 18 = (iV ((k : Nat) : Int)) ∧ H 3 = (⟨1, true, false, 77, 1, [[(V.fn 75 [] [])]]⟩ : Blk) ∧ H 202 = (⟨3, true, true, 38, 1, (List.map cL ((ddK (srt slx l) (srt slx l).length).set k (((nth (ddK (srt slx l) (srt slx l).length) (k))))) ++ List.replicate ((srt slx l).length - (ddK (srt slx l) (srt slx l).length).length) [V.nilsl])⟩ : Blk) ∧ True) ?_ ?_
  ·
   unfold r74_7
   refine R_mv t5 ?_
   refine R_mv t6 ?_
   refine R_mv t7 ?_
   refine R_call (evcons (@rfl V (V.sl (List.map cI ((nth (ddK (srt slx l) (srt slx l).length) (k)))))) evnil) (clone_pure ((nth (ddK (srt slx l) (srt slx l).length) (k))) (by have q := hw (nth (ddK (srt slx l) (srt slx l).length) k) (mem_sdP.1 (show nth (ddK (srt slx l) (srt slx l).length) k ∈ sdP l from nth_mem (show k < (ddK (srt slx l) (srt slx l).length).length by omega))); omega)) (fzv_mapcanon _ _ (by simp [-List.map_take, -List.map_drop, -List.map_append, -List.map_reverse])) (by simp [-List.map_take, -List.map_drop, -List.map_append, -List.map_reverse]) (Or.inl (by simp [-List.map_take, -List.map_drop, -List.map_append, -List.map_reverse])) ?_
   refine R_idx_ms0 (i := k) (@rfl V (V.ms 202 3 0 ((ddK (srt slx l) (srt slx l).length).length))) (@rfl V (iV ((k : Nat) : Int))) h202 (okB_zap (by omega)) rfl (by omega) ?_
   refine R_store (vs := [(V.sl (List.map cI (((nth (ddK (srt slx l) (srt slx l).length) (k))))))]) (B' := (⟨3, true, true, 38, 1, (List.map cL ((ddK (srt slx l) (srt slx l).length).set k (((nth (ddK (srt slx l) (srt slx l).length) (k))))) ++ List.replicate ((srt slx l).length - (ddK (srt slx l) (srt slx l).length).length) [V.nilsl])⟩ : Blk)) (@rfl V (V.mp 202 3 k 0)) (@rfl V (V.sl (List.map cI (((nth (ddK (srt slx l) (srt slx l).length) (k))))))) rfl h202 (stB_zap (x := (((nth (ddK (srt slx l) (srt slx l).length) (k))))) (i := k) (by omega) rfl rfl rfl rfl) ?_
   exact R_nil ⟨t5, t16, t17, t18, h3, rfl, trivial⟩
  intro T H ⟨t5, t16, t17, t18, h3, h202, _⟩
  refine n4 _ _ ?_
  refine .done ?_
  refine W_regc (fun T H => T 5 = (V.ms 202 3 0 ((ddK (srt slx l) (srt slx l).length).length)) ∧ T 16 = (V.ms 202 3 0 ((ddK (srt slx l) (srt slx l).length).length)) ∧ T 17 = (iV (((ddK (srt slx l) (srt slx l).length).length : Nat) : Int)) ∧ T 18 = (iV ((k + 1 : Nat) : Int)) ∧ H 3 = (⟨1, true, false, 77, 1, [[(V.fn 75 [] [])]]⟩ : Blk) ∧ H 202 = (⟨3, true, true, 38, 1, (List.map cL ((ddK (srt slx l) (srt slx l).length).set k (((nth (ddK (srt slx l) (srt slx l).length) (k))))) ++ List.replicate ((srt slx l).length - (ddK (srt slx l) (srt slx l).length).length) [V.nilsl])⟩ : Blk) ∧ True) ?_ ?_
  ·
   unfold r74_8
   refine R_addN (m := k) (n := 1) t18 (@rfl V (iV ((1 : Nat) : Int))) (by omega) ?_
   refine R_mv (@rfl V (iV ((k + 1 : Nat) : Int))) ?_
   exact R_nil ⟨t5, t16, t17, rfl, h3, h202, trivial⟩
  intro T H ⟨t5, t16, t17, t18, h3, h202, _⟩
  refine p12 _ _ _ ?_ ⟨(k + 1), rfl, t5, t16, t17, (Eq.trans t18 (by first | rfl | simp)), h3, (Eq.trans h202 (by first | rfl | (rw [set_nth (by omega)]; done))), ?_⟩
  · omega
  · omega
 refine W_seq_exit ?_
 refine p32 _ _ _ ?_
 refine x1 _ _ ?_
 refine .done ?_
 refine W_seq_regc (fun T H => T 4 = (V.ms 202 3 0 ((ddK (srt slx l) (srt slx l).length).length)) ∧ H 3 = (⟨1, true, false, 77, 1, [[(V.fn 75 [] [])]]⟩ : Blk) ∧ H 202 = (⟨3, true, true, 38, 1, (List.map cL (ddK (srt slx l) (srt slx l).length) ++ List.replicate ((srt slx l).length - (ddK (srt slx l) (srt slx l).length).length) [V.nilsl])⟩ : Blk) ∧ True) ?_ ?_
 ·
  unfold r74_9
  refine R_mv t5 ?_
  refine R_mv (@rfl V (V.ms 202 3 0 ((ddK (srt slx l) (srt slx l).length).length))) ?_
  exact R_nil ⟨rfl, h3, h202, trivial⟩
 intro T H ⟨t4, h3, h202, _⟩
 refine W_ret ?_
 refine Ret_1 t4 (fz_mstR h202 (by first | rfl | simp) (take_zap (l := (ddK (srt slx l) (srt slx l).length)) (by first | rfl | simp | omega)) (fun _ => by simp) ?_)
 · rfl
end Go.Proofs.YtmnjchcoigbngaaGreat


namespace Go.Proofs.YtmnjchcoigbngaaGreat
open Go Go.Proofs
theorem sorted_pure (l : List (List Int)) (hl : l.length ≤ 1073741824) (hw : ∀ w ∈ l, w.length ≤ 1048576) : PureC Tryz.prog 38 [(V.sl (List.map cL (l)))] (V.sl (List.map cL (sdW l))) := by
 refine pure_of_Wb true 6 Tryz.func38 s38_ok (by kernel_rfl) (by simp [s38]) (by simp) (by simp) fun hB => ?_
 simp only [bnd_map, bnd_int, bnd_bool, bnd_str, bnd_agg, bnd_pp, bnd_nil, bnd_cons, implies_true, and_true, true_and] at hB
 unfold s38
 dsimp only
 refine W_seq_regc (fun T H => T 0 = (V.sl (List.map cL (l))) ∧ True) ?_ ?_
 ·
  unfold r38_0
  refine R_mv (@rfl V V.nilsl) ?_
  exact R_nil ⟨rfl, trivial⟩
 intro T H ⟨t0, _⟩
 refine W_seq_regc (fun T H => T 2 = (V.sl (List.map cL (sdP l))) ∧ True) ?_ ?_
 ·
  unfold r38_1
  refine R_mv t0 ?_
  refine R_call (evcons (@rfl V (V.sl (List.map cL (l)))) (evcons (@rfl V (V.fn 75 [] [])) evnil)) (ordered_pure l hl hw) (fzv_mapcanon _ _ (by simp [-List.map_take, -List.map_drop, -List.map_append, -List.map_reverse])) (by simp [-List.map_take, -List.map_drop, -List.map_append, -List.map_reverse]) (Or.inl (by simp [-List.map_take, -List.map_drop, -List.map_append, -List.map_reverse])) ?_
  refine R_mv (@rfl V (V.sl (List.map cL (sdP l)))) ?_
  exact R_nil ⟨rfl, trivial⟩
 intro T H ⟨t2, _⟩
 refine W_ret ?_
 refine Ret_1 t2 (fz_sl ?_ (fun _ => by simp))
 · exact sdP_eq l
end Go.Proofs.YtmnjchcoigbngaaGreat


namespace Go.Proofs.YtmnjchcoigbngaaGreat
open Go Go.Proofs
theorem dvalid_pure (t : Dt) (hb : Bd t) : PureC Tryz.prog 11 [(V.agg [(V.sl (List.map cN (t.nd)))])] (iV (dvE t)) := by
 refine pure_of_Wb true 6 Tryz.func11 s11_ok (by kernel_rfl) (by simp [s11]) (by simp) (by simp) fun hB => ?_
 simp only [bnd_map, bnd_int, bnd_bool, bnd_str, bnd_agg, bnd_pp, bnd_nil, bnd_cons, implies_true, and_true, true_and] at hB
 unfold s11
 dsimp only
 refine W_seq_regc (fun T H => T 1 = (V.mp 1 1 0 0) ∧ H 1 = (⟨1, true, false, 24, 1, [[(V.sl (List.map cN (t.nd)))]]⟩ : Blk) ∧ H 4 = (⟨0, false, false, 0, 0, []⟩ : Blk) ∧ True) ?_ ?_
 ·
  unfold r11_0
  refine R_box (i := 1) (n := 0) (m := 1) (cs := [(V.sl (List.map cN (t.nd)))]) rfl (congrArg Blk.ver rfl) (@rfl V (V.agg [(V.sl (List.map cN (t.nd)))])) rfl rfl ?_
  refine R_mv (@rfl V (iV (0 : Int))) ?_
  exact R_nil ⟨rfl, rfl, rfl, trivial⟩
 intro T H ⟨t1, h1, h4, _⟩
 refine W_seq_blockg fun Q1 n1 x1 y1 z1 => ?_
 refine W_seq_regc (fun T H => T 1 = (V.mp 1 1 0 0) ∧ T 7 = (V.bool (decide (((t.nd.length : Nat) : Int) = (0 : Int)))) ∧ H 1 = (⟨1, true, false, 24, 1, [[(V.sl (List.map cN (t.nd)))]]⟩ : Blk) ∧ H 4 = (⟨0, false, false, 0, 0, []⟩ : Blk) ∧ True) ?_ ?_
 ·
  unfold r11_1
  refine R_fld_mp (o' := 0) t1 h1 (by first | rfl | simp [okB, Blk.own]) rfl ?_
  refine R_load_mp (v := (V.sl (List.map cN (t.nd)))) (@rfl V (V.mp 1 1 0 0)) h1 (by first | rfl | simp [ldB, ldV, Blk.own, V.one]) ?_
  refine R_len (@rfl V (V.sl (List.map cN (t.nd)))) ?_
  refine R_eql (x := ((t.nd.length : Nat) : Int)) (y := (0 : Int)) (@rfl V (iV ((t.nd.length : Nat) : Int))) (@rfl V (iV (0 : Int))) ?_
  refine R_mv (@rfl V (V.bool (decide (((t.nd.length : Nat) : Int) = (0 : Int))))) ?_
  exact R_nil ⟨t1, rfl, h1, h4, trivial⟩
 intro T H ⟨t1, t7, h1, h4, _⟩
 refine W_if (p := ((t.nd.length : Nat) : Int) = (0 : Int)) t7 (fun c2 => ?_) (fun c2 => ?_)
 ·
  refine W_seq_regc (fun T H => T 2 = (iV (19 : Int)) ∧ H 1 = (⟨1, true, false, 24, 1, [[(V.sl (List.map cN (t.nd)))]]⟩ : Blk) ∧ H 4 = (⟨0, false, false, 0, 0, []⟩ : Blk) ∧ True) ?_ ?_
  ·
   unfold r11_2
   refine R_mv (@rfl V (iV (19 : Int))) ?_
   exact R_nil ⟨rfl, h1, h4, trivial⟩
  intro T H ⟨t2, h1, h4, _⟩
  refine W_ret ?_
  refine y1 _ _ ?_
  refine Ret_1 t2 (fz_int ?_)
  · rw [dvE, if_pos (by omega)]
 refine W_seq_regc (fun T H => T 1 = (V.mp 1 1 0 0) ∧ T 12 = (V.bool (decide ((4096 : Int) < ((t.nd.length : Nat) : Int)))) ∧ H 1 = (⟨1, true, false, 24, 1, [[(V.sl (List.map cN (t.nd)))]]⟩ : Blk) ∧ H 4 = (⟨0, false, false, 0, 0, []⟩ : Blk) ∧ True) ?_ ?_
 ·
  unfold r11_3
  refine R_fld_mp (o' := 0) t1 h1 (by first | rfl | simp [okB, Blk.own]) rfl ?_
  refine R_load_mp (v := (V.sl (List.map cN (t.nd)))) (@rfl V (V.mp 1 1 0 0)) h1 (by first | rfl | simp [ldB, ldV, Blk.own, V.one]) ?_
  refine R_len (@rfl V (V.sl (List.map cN (t.nd)))) ?_
  refine R_gtr (x := ((t.nd.length : Nat) : Int)) (y := (4096 : Int)) (@rfl V (iV ((t.nd.length : Nat) : Int))) (@rfl V (iV (4096 : Int))) ?_
  refine R_mv (@rfl V (V.bool (decide ((4096 : Int) < ((t.nd.length : Nat) : Int))))) ?_
  exact R_nil ⟨t1, rfl, h1, h4, trivial⟩
 intro T H ⟨t1, t12, h1, h4, _⟩
 refine W_if (p := (4096 : Int) < ((t.nd.length : Nat) : Int)) t12 (fun c3 => ?_) (fun c3 => ?_)
 ·
  refine W_seq_regc (fun T H => T 2 = (iV (11 : Int)) ∧ H 1 = (⟨1, true, false, 24, 1, [[(V.sl (List.map cN (t.nd)))]]⟩ : Blk) ∧ H 4 = (⟨0, false, false, 0, 0, []⟩ : Blk) ∧ True) ?_ ?_
  ·
   unfold r11_4
   refine R_mv (@rfl V (iV (11 : Int))) ?_
   exact R_nil ⟨rfl, h1, h4, trivial⟩
  intro T H ⟨t2, h1, h4, _⟩
  refine W_ret ?_
  refine y1 _ _ ?_
  refine Ret_1 t2 (fz_int ?_)
  · rw [dvE, if_neg (by omega), if_pos (by omega)]
 refine W_skip ?_
 refine n1 _ _ ?_
 refine .done ?_
 refine W_seq_seq ?_
 refine W_seq_regc (fun T H => T 1 = (V.mp 1 1 0 0) ∧ T 18 = (V.sl (List.map cN (t.nd))) ∧ T 19 = (iV ((t.nd.length : Nat) : Int)) ∧ T 20 = (iV (0 : Int)) ∧ H 1 = (⟨1, true, false, 24, 1, [[(V.sl (List.map cN (t.nd)))]]⟩ : Blk) ∧ H 4 = (⟨0, false, false, 0, 0, []⟩ : Blk) ∧ True) ?_ ?_
 ·
  unfold r11_5
  refine R_fld_mp (o' := 0) t1 h1 (by first | rfl | simp [okB, Blk.own]) rfl ?_
  refine R_load_mp (v := (V.sl (List.map cN (t.nd)))) (@rfl V (V.mp 1 1 0 0)) h1 (by first | rfl | simp [ldB, ldV, Blk.own, V.one]) ?_
  refine R_len (@rfl V (V.sl (List.map cN (t.nd)))) ?_
  refine R_mv (@rfl V (iV (0 : Int))) ?_
  exact R_nil ⟨t1, rfl, rfl, rfl, h1, h4, trivial⟩
 intro T H ⟨t1, t18, t19, t20, h1, h4, _⟩
 refine W_seq_blockg fun Q4 n4 x4 y4 z4 => ?_
 refine W_loop (fun mm T H => ∃ (k : Nat) (v4 : Nat), mm = t.nd.length - k ∧ T 1 = (V.mp 1 1 0 0) ∧ T 18 = (V.sl (List.map cN (t.nd))) ∧ T 19 = (iV ((t.nd.length : Nat) : Int)) ∧ T 20 = (iV ((k : Nat) : Int)) ∧ H 1 = (⟨1, true, false, 24, 1, [[(V.sl (List.map cN (t.nd)))]]⟩ : Blk) ∧ (H 4).ver = v4 ∧ (k ≤ t.nd.length) ∧ (0 < t.nd.length) ∧ (t.nd.length ≤ 4096) ∧ (∀ j, j < k → ndE (nth t.nd j) t.nd.length = 0) ∧ (fe (fun k => ndE (nth t.nd k) t.nd.length) 0 t.nd.length = fe (fun k => ndE (nth t.nd k) t.nd.length) k (t.nd.length - k))) ?_ ?_
 ·
  refine ⟨_, 0, 0, rfl, t1, t18, t19, (Eq.trans t20 (by first | rfl | simp)), h1, (congrArg Blk.ver h4), ?_, ?_, ?_, ?_, ?_⟩
  · omega
  · omega
  · omega
  · intro j hj; omega
  · rfl
 intro mm T H ⟨k, v4, hmm, t1, t18, t19, t20, h1, h4, hk, g0, g1, hp, hc⟩ Q5 p15 p25 p35
 unfold b11_0
 refine W_seq_regc (fun T H => T 1 = (V.mp 1 1 0 0) ∧ T 18 = (V.sl (List.map cN (t.nd))) ∧ T 19 = (iV ((t.nd.length : Nat) : Int)) ∧ T 20 = (iV ((k : Nat) : Int)) ∧ T 21 = (V.bool (decide (((k : Nat) : Int) < ((t.nd.length : Nat) : Int)))) ∧ H 1 = (⟨1, true, false, 24, 1, [[(V.sl (List.map cN (t.nd)))]]⟩ : Blk) ∧ (H 4).ver = v4 ∧ True) ?_ ?_
 ·
  unfold r11_6
  refine R_lss (x := ((k : Nat) : Int)) (y := ((t.nd.length : Nat) : Int)) t20 t19 ?_
  exact R_nil ⟨t1, t18, t19, t20, rfl, h1, h4, trivial⟩
 intro T H ⟨t1, t18, t19, t20, t21, h1, h4, _⟩
 refine W_seq_if (p := ((k : Nat) : Int) < ((t.nd.length : Nat) : Int)) t21 (fun c6 => ?_) (fun c6 => ?_)
 ·
  have r1 := hb.sf k (by omega)
  have r2 := hb.ou k (by omega)
  have r3 := hb.kd k (by omega)
  refine W_seq_skip ?_
  refine W_seq_blockg fun Q7 n7 x7 y7 z7 => ?_
  refine W_seq_regc (fun T H => T 1 = (V.mp 1 1 0 0) ∧ T 4 = (V.mp 4 (v4 + 1) 0 0) ∧ T 18 = (V.sl (List.map cN (t.nd))) ∧ T 19 = (iV ((t.nd.length : Nat) : Int)) ∧ T 20 = (iV ((k : Nat) : Int)) ∧ H 1 = (⟨1, true, false, 24, 1, [[(V.sl (List.map cN (t.nd)))]]⟩ : Blk) ∧ H 4 = (⟨v4 + 1, true, false, 68, 5, [[(V.bool (((nth (t.nd) (k))).lf)), (V.sl (List.map cI (((nth (t.nd) (k))).ac))), (V.sl (List.map cI (((nth (t.nd) (k))).sf))), (V.sl (List.map cL (((nth (t.nd) (k))).ou))), (V.sl (List.map cI (((nth (t.nd) (k))).kd)))]]⟩ : Blk) ∧ True) ?_ ?_
  ·
   unfold r11_7
   refine R_idx (i := k) t18 t20 (by omega) rfl ?_
   refine R_load_pp (v := (V.agg [(V.bool (((nth (t.nd) (k))).lf)), (V.sl (List.map cI (((nth (t.nd) (k))).ac))), (V.sl (List.map cI (((nth (t.nd) (k))).sf))), (V.sl (List.map cL (((nth (t.nd) (k))).ou))), (V.sl (List.map cI (((nth (t.nd) (k))).kd)))])) (@rfl V (V.pp [(V.bool (((nth (t.nd) (k))).lf)), (V.sl (List.map cI (((nth (t.nd) (k))).ac))), (V.sl (List.map cI (((nth (t.nd) (k))).sf))), (V.sl (List.map cL (((nth (t.nd) (k))).ou))), (V.sl (List.map cI (((nth (t.nd) (k))).kd)))])) (by first | rfl | simp [ldV]) ?_
   refine R_alloc (i := 4) (n := v4) (m := 5) rfl h4 rfl ?_
   refine R_store (vs := [(V.bool (((nth (t.nd) (k))).lf)), (V.sl (List.map cI (((nth (t.nd) (k))).ac))), (V.sl (List.map cI (((nth (t.nd) (k))).sf))), (V.sl (List.map cL (((nth (t.nd) (k))).ou))), (V.sl (List.map cI (((nth (t.nd) (k))).kd)))]) (B' := (⟨v4 + 1, true, false, 68, 5, [[(V.bool (((nth (t.nd) (k))).lf)), (V.sl (List.map cI (((nth (t.nd) (k))).ac))), (V.sl (List.map cI (((nth (t.nd) (k))).sf))), (V.sl (List.map cL (((nth (t.nd) (k))).ou))), (V.sl (List.map cI (((nth (t.nd) (k))).kd)))]]⟩ : Blk)) (@rfl V (V.mp 4 (v4 + 1) 0 0)) (@rfl V (V.agg [(V.bool (((nth (t.nd) (k))).lf)), (V.sl (List.map cI (((nth (t.nd) (k))).ac))), (V.sl (List.map cI (((nth (t.nd) (k))).sf))), (V.sl (List.map cL (((nth (t.nd) (k))).ou))), (V.sl (List.map cI (((nth (t.nd) (k))).kd)))])) rfl (@rfl Blk (⟨v4 + 1, true, false, 68, 5, [[(V.bool false), V.nilsl, V.nilsl, V.nilsl, V.nilsl]]⟩ : Blk)) (by first | rfl | simp [stB, okB, Blk.own, putAt, V.one]) ?_
   exact R_nil ⟨t1, rfl, t18, t19, t20, h1, rfl, trivial⟩
  intro T H ⟨t1, t4, t18, t19, t20, h1, h4, _⟩
  refine W_seq_regc (fun T H => T 1 = (V.mp 1 1 0 0) ∧ T 4 = (V.mp 4 (v4 + 1) 0 0) ∧ T 18 = (V.sl (List.map cN (t.nd))) ∧ T 19 = (iV ((t.nd.length : Nat) : Int)) ∧ T 20 = (iV ((k : Nat) : Int)) ∧ H 1 = (⟨1, true, false, 24, 1, [[(V.sl (List.map cN (t.nd)))]]⟩ : Blk) ∧ H 4 = (⟨v4 + 1, true, false, 68, 5, [[(V.bool (((nth (t.nd) (k))).lf)), (V.sl (List.map cI (((nth (t.nd) (k))).ac))), (V.sl (List.map cI (((nth (t.nd) (k))).sf))), (V.sl (List.map cL (((nth (t.nd) (k))).ou))), (V.sl (List.map cI (((nth (t.nd) (k))).kd)))]]⟩ : Blk) ∧ True) ?_ ?_
  ·
   unfold r11_8
   refine R_mv (@rfl V (iV (0 : Int))) ?_
   exact R_nil ⟨t1, t4, t18, t19, t20, h1, h4, trivial⟩
  intro T H ⟨t1, t4, t18, t19, t20, h1, h4, _⟩
  refine W_seq_seq ?_
  refine W_seq_regc (fun T H => T 1 = (V.mp 1 1 0 0) ∧ T 4 = (V.mp 4 (v4 + 1) 0 0) ∧ T 18 = (V.sl (List.map cN (t.nd))) ∧ T 19 = (iV ((t.nd.length : Nat) : Int)) ∧ T 20 = (iV ((k : Nat) : Int)) ∧ T 25 = (V.bool (((nth (t.nd) (k))).lf)) ∧ H 1 = (⟨1, true, false, 24, 1, [[(V.sl (List.map cN (t.nd)))]]⟩ : Blk) ∧ H 4 = (⟨v4 + 1, true, false, 68, 5, [[(V.bool (((nth (t.nd) (k))).lf)), (V.sl (List.map cI (((nth (t.nd) (k))).ac))), (V.sl (List.map cI (((nth (t.nd) (k))).sf))), (V.sl (List.map cL (((nth (t.nd) (k))).ou))), (V.sl (List.map cI (((nth (t.nd) (k))).kd)))]]⟩ : Blk) ∧ True) ?_ ?_
  ·
   unfold r11_9
   refine R_fld_mp (o' := 0) t4 h4 (by first | rfl | simp [okB, Blk.own]) rfl ?_
   refine R_load_mp (v := (V.bool (((nth (t.nd) (k))).lf))) (@rfl V (V.mp 4 (v4 + 1) 0 0)) h4 (by first | rfl | simp [ldB, ldV, Blk.own, V.one]) ?_
   exact R_nil ⟨t1, t4, t18, t19, t20, rfl, h1, h4, trivial⟩
  intro T H ⟨t1, t4, t18, t19, t20, t25, h1, h4, _⟩
  refine W_seq_ifb t25 (fun c8 => ?_) (fun c8 => ?_)
  ·
   have d0 : (nth t.nd k).lf = true := c8
   have e0 : ndE (nth t.nd k) t.nd.length = lfE (nth t.nd k) := by rw [ndE, if_pos d0]
   refine W_seq_regc (fun T H => T 1 = (V.mp 1 1 0 0) ∧ T 5 = (iV (lfE (((nth (t.nd) (k)))))) ∧ T 18 = (V.sl (List.map cN (t.nd))) ∧ T 19 = (iV ((t.nd.length : Nat) : Int)) ∧ T 20 = (iV ((k : Nat) : Int)) ∧ H 1 = (⟨1, true, false, 24, 1, [[(V.sl (List.map cN (t.nd)))]]⟩ : Blk) ∧ H 4 = (⟨v4 + 1, true, false, 68, 5, [[(V.bool (((nth (t.nd) (k))).lf)), (V.sl (List.map cI (((nth (t.nd) (k))).ac))), (V.sl (List.map cI (((nth (t.nd) (k))).sf))), (V.sl (List.map cL (((nth (t.nd) (k))).ou))), (V.sl (List.map cI (((nth (t.nd) (k))).kd)))]]⟩ : Blk) ∧ True) ?_ ?_
   ·
    unfold r11_10
    refine R_load_mp (v := (V.agg [(V.bool (((nth (t.nd) (k))).lf)), (V.sl (List.map cI (((nth (t.nd) (k))).ac))), (V.sl (List.map cI (((nth (t.nd) (k))).sf))), (V.sl (List.map cL (((nth (t.nd) (k))).ou))), (V.sl (List.map cI (((nth (t.nd) (k))).kd)))])) t4 h4 (by first | rfl | simp [ldB, ldV, Blk.own, V.one]) ?_
    refine R_call (evcons (@rfl V (V.agg [(V.bool (((nth (t.nd) (k))).lf)), (V.sl (List.map cI (((nth (t.nd) (k))).ac))), (V.sl (List.map cI (((nth (t.nd) (k))).sf))), (V.sl (List.map cL (((nth (t.nd) (k))).ou))), (V.sl (List.map cI (((nth (t.nd) (k))).kd)))])) evnil) (leaf_pure (((nth (t.nd) (k)))) (by first | omega | assumption) (by first | omega | assumption) (by first | omega | assumption)) (fzv_mapcanon _ _ (by simp [-List.map_take, -List.map_drop, -List.map_append, -List.map_reverse])) (by simp [-List.map_take, -List.map_drop, -List.map_append, -List.map_reverse]) (Or.inl (by simp [-List.map_take, -List.map_drop, -List.map_append, -List.map_reverse])) ?_
    refine R_mv (@rfl V (iV (lfE (((nth (t.nd) (k))))))) ?_
    exact R_nil ⟨t1, rfl, t18, t19, t20, h1, h4, trivial⟩
   intro T H ⟨t1, t5, t18, t19, t20, h1, h4, _⟩
   refine W_seq_regc (fun T H => T 1 = (V.mp 1 1 0 0) ∧ T 5 = (iV (lfE (((nth (t.nd) (k)))))) ∧ T 18 = (V.sl (List.map cN (t.nd))) ∧ T 19 = (iV ((t.nd.length : Nat) : Int)) ∧ T 20 = (iV ((k : Nat) : Int)) ∧ T 34 = (V.bool (decide ((lfE (((nth (t.nd) (k))))) ≠ (0 : Int)))) ∧ H 1 = (⟨1, true, false, 24, 1, [[(V.sl (List.map cN (t.nd)))]]⟩ : Blk) ∧ H 4 = (⟨v4 + 1, true, false, 68, 5, [[(V.bool (((nth (t.nd) (k))).lf)), (V.sl (List.map cI (((nth (t.nd) (k))).ac))), (V.sl (List.map cI (((nth (t.nd) (k))).sf))), (V.sl (List.map cL (((nth (t.nd) (k))).ou))), (V.sl (List.map cI (((nth (t.nd) (k))).kd)))]]⟩ : Blk) ∧ True) ?_ ?_
   ·
    unfold r11_12
    refine R_mv t5 ?_
    refine R_neq (x := (lfE (((nth (t.nd) (k)))))) (y := (0 : Int)) (@rfl V (iV (lfE (((nth (t.nd) (k))))))) (@rfl V (iV (0 : Int))) ?_
    exact R_nil ⟨t1, t5, t18, t19, t20, rfl, h1, h4, trivial⟩
   intro T H ⟨t1, t5, t18, t19, t20, t34, h1, h4, _⟩
   refine W_if (p := (lfE (((nth (t.nd) (k))))) ≠ (0 : Int)) t34 (fun c9 => ?_) (fun c9 => ?_)
   ·
    have d1 : ndE (nth t.nd k) t.nd.length ≠ 0 := by rw [e0]; exact c9
    refine W_seq_regc (fun T H => T 2 = (iV (lfE (((nth (t.nd) (k)))))) ∧ H 1 = (⟨1, true, false, 24, 1, [[(V.sl (List.map cN (t.nd)))]]⟩ : Blk) ∧ H 4 = (⟨v4 + 1, true, false, 68, 5, [[(V.bool (((nth (t.nd) (k))).lf)), (V.sl (List.map cI (((nth (t.nd) (k))).ac))), (V.sl (List.map cI (((nth (t.nd) (k))).sf))), (V.sl (List.map cL (((nth (t.nd) (k))).ou))), (V.sl (List.map cI (((nth (t.nd) (k))).kd)))]]⟩ : Blk) ∧ True) ?_ ?_
    ·
     unfold r11_13
     refine R_mv t5 ?_
     refine R_mv (@rfl V (iV (lfE (((nth (t.nd) (k))))))) ?_
     exact R_nil ⟨rfl, h1, h4, trivial⟩
    intro T H ⟨t2, h1, h4, _⟩
    refine W_ret ?_
    refine y7 _ _ ?_
    refine p25 _ _ ?_
    refine y4 _ _ ?_
    refine Ret_1 t2 (fz_int ?_)
    · have e : fe (fun k => ndE (nth t.nd k) t.nd.length) 0 t.nd.length = ndE (nth t.nd k) t.nd.length := by rw [hc]; exact fe_hit (e := fun k => ndE (nth t.nd k) t.nd.length) d1 (by omega)
      rw [dvE, if_neg (by omega), if_neg (by omega), if_pos (by rw [e]; exact d1), e, e0]
   have d1 : ndE (nth t.nd k) t.nd.length = 0 := by rw [e0]; omega
   refine W_skip ?_
   refine n7 _ _ ?_
   refine .done ?_
   refine W_regc (fun T H => T 1 = (V.mp 1 1 0 0) ∧ T 18 = (V.sl (List.map cN (t.nd))) ∧ T 19 = (iV ((t.nd.length : Nat) : Int)) ∧ T 20 = (iV ((k + 1 : Nat) : Int)) ∧ H 1 = (⟨1, true, false, 24, 1, [[(V.sl (List.map cN (t.nd)))]]⟩ : Blk) ∧ H 4 = (⟨v4 + 1, true, false, 68, 5, [[(V.bool (((nth (t.nd) (k))).lf)), (V.sl (List.map cI (((nth (t.nd) (k))).ac))), (V.sl (List.map cI (((nth (t.nd) (k))).sf))), (V.sl (List.map cL (((nth (t.nd) (k))).ou))), (V.sl (List.map cI (((nth (t.nd) (k))).kd)))]]⟩ : Blk) ∧ True) ?_ ?_
   ·
    unfold r11_14
    refine R_addN (m := k) (n := 1) t20 (@rfl V (iV ((1 : Nat) : Int))) (by omega) ?_
    refine R_mv (@rfl V (iV ((k + 1 : Nat) : Int))) ?_
    exact R_nil ⟨t1, t18, t19, rfl, h1, h4, trivial⟩
   intro T H ⟨t1, t18, t19, t20, h1, h4, _⟩
   refine p15 _ _ _ ?_ ⟨(k + 1), (v4 + 1), rfl, t1, t18, t19, (Eq.trans t20 (by first | rfl | simp)), h1, (congrArg Blk.ver h4), ?_, ?_, ?_, ?_, ?_⟩
   · omega
   · omega
   · omega
   · omega
   · intro i hi
     by_cases e : i = k
     · subst e; exact d1
     · exact hp i (by omega)
   · rw [hc, fe_skip (e := fun k => ndE (nth t.nd k) t.nd.length) (by exact d1) (by omega)]
  have d0 : (nth t.nd k).lf = false := by simpa using c8
  have e0 : ndE (nth t.nd k) t.nd.length = inE2 (nth t.nd k) t.nd.length := by rw [ndE, if_neg (by simp [d0])]
  refine W_seq_regc (fun T H => T 1 = (V.mp 1 1 0 0) ∧ T 5 = (iV (inE2 (((nth (t.nd) (k)))) t.nd.length)) ∧ T 18 = (V.sl (List.map cN (t.nd))) ∧ T 19 = (iV ((t.nd.length : Nat) : Int)) ∧ T 20 = (iV ((k : Nat) : Int)) ∧ H 1 = (⟨1, true, false, 24, 1, [[(V.sl (List.map cN (t.nd)))]]⟩ : Blk) ∧ H 4 = (⟨v4 + 1, true, false, 68, 5, [[(V.bool (((nth (t.nd) (k))).lf)), (V.sl (List.map cI (((nth (t.nd) (k))).ac))), (V.sl (List.map cI (((nth (t.nd) (k))).sf))), (V.sl (List.map cL (((nth (t.nd) (k))).ou))), (V.sl (List.map cI (((nth (t.nd) (k))).kd)))]]⟩ : Blk) ∧ True) ?_ ?_
  ·
   unfold r11_11
   refine R_load_mp (v := (V.agg [(V.bool (((nth (t.nd) (k))).lf)), (V.sl (List.map cI (((nth (t.nd) (k))).ac))), (V.sl (List.map cI (((nth (t.nd) (k))).sf))), (V.sl (List.map cL (((nth (t.nd) (k))).ou))), (V.sl (List.map cI (((nth (t.nd) (k))).kd)))])) t4 h4 (by first | rfl | simp [ldB, ldV, Blk.own, V.one]) ?_
   refine R_fld_mp (o' := 0) t1 h1 (by first | rfl | simp [okB, Blk.own]) rfl ?_
   refine R_load_mp (v := (V.sl (List.map cN (t.nd)))) (@rfl V (V.mp 1 1 0 0)) h1 (by first | rfl | simp [ldB, ldV, Blk.own, V.one]) ?_
   refine R_len (@rfl V (V.sl (List.map cN (t.nd)))) ?_
   refine R_call (evcons (@rfl V (V.agg [(V.bool (((nth (t.nd) (k))).lf)), (V.sl (List.map cI (((nth (t.nd) (k))).ac))), (V.sl (List.map cI (((nth (t.nd) (k))).sf))), (V.sl (List.map cL (((nth (t.nd) (k))).ou))), (V.sl (List.map cI (((nth (t.nd) (k))).kd)))])) (evcons (@rfl V (iV ((t.nd.length : Nat) : Int))) evnil)) (inner_pure (((nth (t.nd) (k)))) t.nd.length (by first | omega | assumption)) (fzv_mapcanon _ _ (by simp [-List.map_take, -List.map_drop, -List.map_append, -List.map_reverse])) (by simp [-List.map_take, -List.map_drop, -List.map_append, -List.map_reverse]) (Or.inl (by simp [-List.map_take, -List.map_drop, -List.map_append, -List.map_reverse])) ?_
   refine R_mv (@rfl V (iV (inE2 (((nth (t.nd) (k)))) t.nd.length))) ?_
   exact R_nil ⟨t1, rfl, t18, t19, t20, h1, h4, trivial⟩
  intro T H ⟨t1, t5, t18, t19, t20, h1, h4, _⟩
  refine W_seq_regc (fun T H => T 1 = (V.mp 1 1 0 0) ∧ T 5 = (iV (inE2 (((nth (t.nd) (k)))) t.nd.length)) ∧ T 18 = (V.sl (List.map cN (t.nd))) ∧ T 19 = (iV ((t.nd.length : Nat) : Int)) ∧ T 20 = (iV ((k : Nat) : Int)) ∧ T 34 = (V.bool (decide ((inE2 (((nth (t.nd) (k)))) t.nd.length) ≠ (0 : Int)))) ∧ H 1 = (⟨1, true, false, 24, 1, [[(V.sl (List.map cN (t.nd)))]]⟩ : Blk) ∧ H 4 = (⟨v4 + 1, true, false, 68, 5, [[(V.bool (((nth (t.nd) (k))).lf)), (V.sl (List.map cI (((nth (t.nd) (k))).ac))), (V.sl (List.map cI (((nth (t.nd) (k))).sf))), (V.sl (List.map cL (((nth (t.nd) (k))).ou))), (V.sl (List.map cI (((nth (t.nd) (k))).kd)))]]⟩ : Blk) ∧ True) ?_ ?_
  ·
   unfold r11_12
   refine R_mv t5 ?_
   refine R_neq (x := (inE2 (((nth (t.nd) (k)))) t.nd.length)) (y := (0 : Int)) (@rfl V (iV (inE2 (((nth (t.nd) (k)))) t.nd.length))) (@rfl V (iV (0 : Int))) ?_
   exact R_nil ⟨t1, t5, t18, t19, t20, rfl, h1, h4, trivial⟩
  intro T H ⟨t1, t5, t18, t19, t20, t34, h1, h4, _⟩
  refine W_if (p := (inE2 (((nth (t.nd) (k)))) t.nd.length) ≠ (0 : Int)) t34 (fun c10 => ?_) (fun c10 => ?_)
  ·
   have d1 : ndE (nth t.nd k) t.nd.length ≠ 0 := by rw [e0]; exact c10
   refine W_seq_regc (fun T H => T 2 = (iV (inE2 (((nth (t.nd) (k)))) t.nd.length)) ∧ H 1 = (⟨1, true, false, 24, 1, [[(V.sl (List.map cN (t.nd)))]]⟩ : Blk) ∧ H 4 = (⟨v4 + 1, true, false, 68, 5, [[(V.bool (((nth (t.nd) (k))).lf)), (V.sl (List.map cI (((nth (t.nd) (k))).ac))), (V.sl (List.map cI (((nth (t.nd) (k))).sf))), (V.sl (List.map cL (((nth (t.nd) (k))).ou))), (V.sl (List.map cI (((nth (t.nd) (k))).kd)))]]⟩ : Blk) ∧ True) ?_ ?_
   ·
    unfold r11_13
    refine R_mv t5 ?_
    refine R_mv (@rfl V (iV (inE2 (((nth (t.nd) (k)))) t.nd.length))) ?_
    exact R_nil ⟨rfl, h1, h4, trivial⟩
   intro T H ⟨t2, h1, h4, _⟩
   refine W_ret ?_
   refine y7 _ _ ?_
   refine p25 _ _ ?_
   refine y4 _ _ ?_
   refine Ret_1 t2 (fz_int ?_)
   · have e : fe (fun k => ndE (nth t.nd k) t.nd.length) 0 t.nd.length = ndE (nth t.nd k) t.nd.length := by rw [hc]; exact fe_hit (e := fun k => ndE (nth t.nd k) t.nd.length) d1 (by omega)
     rw [dvE, if_neg (by omega), if_neg (by omega), if_pos (by rw [e]; exact d1), e, e0]
  have d1 : ndE (nth t.nd k) t.nd.length = 0 := by rw [e0]; omega
  refine W_skip ?_
  refine n7 _ _ ?_
  refine .done ?_
  refine W_regc (fun T H => T 1 = (V.mp 1 1 0 0) ∧ T 18 = (V.sl (List.map cN (t.nd))) ∧ T 19 = (iV ((t.nd.length : Nat) : Int)) ∧ T 20 = (iV ((k + 1 : Nat) : Int)) ∧ H 1 = (⟨1, true, false, 24, 1, [[(V.sl (List.map cN (t.nd)))]]⟩ : Blk) ∧ H 4 = (⟨v4 + 1, true, false, 68, 5, [[(V.bool (((nth (t.nd) (k))).lf)), (V.sl (List.map cI (((nth (t.nd) (k))).ac))), (V.sl (List.map cI (((nth (t.nd) (k))).sf))), (V.sl (List.map cL (((nth (t.nd) (k))).ou))), (V.sl (List.map cI (((nth (t.nd) (k))).kd)))]]⟩ : Blk) ∧ True) ?_ ?_
  ·
   unfold r11_14
   refine R_addN (m := k) (n := 1) t20 (@rfl V (iV ((1 : Nat) : Int))) (by omega) ?_
   refine R_mv (@rfl V (iV ((k + 1 : Nat) : Int))) ?_
   exact R_nil ⟨t1, t18, t19, rfl, h1, h4, trivial⟩
  intro T H ⟨t1, t18, t19, t20, h1, h4, _⟩
  refine p15 _ _ _ ?_ ⟨(k + 1), (v4 + 1), rfl, t1, t18, t19, (Eq.trans t20 (by first | rfl | simp)), h1, (congrArg Blk.ver h4), ?_, ?_, ?_, ?_, ?_⟩
  · omega
  · omega
  · omega
  · omega
  · intro i hi
    by_cases e : i = k
    · subst e; exact d1
    · exact hp i (by omega)
  · rw [hc, fe_skip (e := fun k => ndE (nth t.nd k) t.nd.length) (by exact d1) (by omega)]
 have hall : ∀ j, j < t.nd.length → ndE (nth t.nd j) t.nd.length = 0 := fun j hj => hp j (by omega)
 have hki : KI t := nds_ki g0 hall
 have hz : fe (fun k => ndE (nth t.nd k) t.nd.length) 0 t.nd.length = 0 := by rw [hc, fe_end (by omega)]
 have haw : ∀ w ∈ acL t.nd, w.length ≤ 1048576 := ac_len hb
 have hal := acL_len t.nd
 refine W_seq_exit ?_
 refine p35 _ _ _ ?_
 refine x4 _ _ ?_
 refine .done ?_
 refine W_seq_seq ?_
 refine W_seq_regc (fun T H => T 1 = (V.mp 1 1 0 0) ∧ T 39 = (V.bool ((!coB t))) ∧ H 1 = (⟨1, true, false, 24, 1, [[(V.sl (List.map cN (t.nd)))]]⟩ : Blk) ∧ (H 4).ver = v4 ∧ True) ?_ ?_
 ·
  unfold r11_15
  refine R_load_mp (v := (V.agg [(V.sl (List.map cN (t.nd)))])) t1 h1 (by first | rfl | simp [ldB, ldV, Blk.own, V.one]) ?_
  refine R_call (evcons (@rfl V (V.agg [(V.sl (List.map cN (t.nd)))])) evnil) (connected_pure t hki hb) (fzv_mapcanon _ _ (by simp [-List.map_take, -List.map_drop, -List.map_append, -List.map_reverse])) (by simp [-List.map_take, -List.map_drop, -List.map_append, -List.map_reverse]) (Or.inl (by simp [-List.map_take, -List.map_drop, -List.map_append, -List.map_reverse])) ?_
  refine R_notb (@rfl V (V.bool (coB t))) ?_
  exact R_nil ⟨t1, rfl, h1, h4, trivial⟩
 intro T H ⟨t1, t39, h1, h4, _⟩
 refine W_seq_ifb t39 (fun c11 => ?_) (fun c11 => ?_)
 ·
  have d3 : whB t = false := by rw [← co_wh hki]; simpa using c11
  refine W_seq_seq ?_
  refine W_seq_regc (fun T H => T 2 = (iV (1 : Int)) ∧ H 1 = (⟨1, true, false, 24, 1, [[(V.sl (List.map cN (t.nd)))]]⟩ : Blk) ∧ (H 4).ver = v4 ∧ True) ?_ ?_
  ·
   unfold r11_16
   refine R_mv (@rfl V (iV (1 : Int))) ?_
   exact R_nil ⟨rfl, h1, h4, trivial⟩
  intro T H ⟨t2, h1, h4, _⟩
  refine W_seq_ret ?_
  refine Ret_1 t2 (fz_int ?_)
  · rw [dvE, if_neg (by omega), if_neg (by omega), if_neg (by rw [hz]; simp), if_pos d3]
 have d3 : whB t = true := by rw [← co_wh hki]; simpa using c11
 refine W_seq_skip ?_
 refine W_seq_seq ?_
 refine W_seq_regc (fun T H => T 6 = (V.sl (List.map cL (acL t.nd))) ∧ H 1 = (⟨1, true, false, 24, 1, [[(V.sl (List.map cN (t.nd)))]]⟩ : Blk) ∧ (H 4).ver = v4 ∧ True) ?_ ?_
 ·
  unfold r11_17
  refine R_load_mp (v := (V.agg [(V.sl (List.map cN (t.nd)))])) t1 h1 (by first | rfl | simp [ldB, ldV, Blk.own, V.one]) ?_
  refine R_call (evcons (@rfl V (V.agg [(V.sl (List.map cN (t.nd)))])) evnil) (access_pure t hb) (fzv_mapcanon _ _ (by simp [-List.map_take, -List.map_drop, -List.map_append, -List.map_reverse])) (by simp [-List.map_take, -List.map_drop, -List.map_append, -List.map_reverse]) (Or.inl (by simp [-List.map_take, -List.map_drop, -List.map_append, -List.map_reverse])) ?_
  refine R_mv (@rfl V (V.sl (List.map cL (acL t.nd)))) ?_
  exact R_nil ⟨rfl, h1, h4, trivial⟩
 intro T H ⟨t6, h1, h4, _⟩
 refine W_seq_seq ?_
 refine W_seq_regc (fun T H => T 47 = (V.bool (decide ((((sdW (acL t.nd)).length : Nat) : Int) ≠ (((acL t.nd).length : Nat) : Int)))) ∧ H 1 = (⟨1, true, false, 24, 1, [[(V.sl (List.map cN (t.nd)))]]⟩ : Blk) ∧ (H 4).ver = v4 ∧ True) ?_ ?_
 ·
  unfold r11_18
  refine R_mv t6 ?_
  refine R_call (evcons (@rfl V (V.sl (List.map cL (acL t.nd)))) evnil) (sorted_pure (acL t.nd) (by first | omega | assumption) haw) (fzv_mapcanon _ _ (by simp [-List.map_take, -List.map_drop, -List.map_append, -List.map_reverse])) (by simp [-List.map_take, -List.map_drop, -List.map_append, -List.map_reverse]) (Or.inl (by simp [-List.map_take, -List.map_drop, -List.map_append, -List.map_reverse])) ?_
  refine R_len (@rfl V (V.sl (List.map cL (sdW (acL t.nd))))) ?_
  refine R_mv t6 ?_
  refine R_len (@rfl V (V.sl (List.map cL (acL t.nd)))) ?_
  refine R_neq (x := (((sdW (acL t.nd)).length : Nat) : Int)) (y := (((acL t.nd).length : Nat) : Int)) (@rfl V (iV (((sdW (acL t.nd)).length : Nat) : Int))) (@rfl V (iV (((acL t.nd).length : Nat) : Int))) ?_
  exact R_nil ⟨rfl, h1, h4, trivial⟩
 intro T H ⟨t47, h1, h4, _⟩
 refine W_seq_if (p := (((sdW (acL t.nd)).length : Nat) : Int) ≠ (((acL t.nd).length : Nat) : Int)) t47 (fun c12 => ?_) (fun c12 => ?_)
 ·
  refine W_seq_seq ?_
  refine W_seq_regc (fun T H => T 2 = (iV (7 : Int)) ∧ H 1 = (⟨1, true, false, 24, 1, [[(V.sl (List.map cN (t.nd)))]]⟩ : Blk) ∧ (H 4).ver = v4 ∧ True) ?_ ?_
  ·
   unfold r11_19
   refine R_mv (@rfl V (iV (7 : Int))) ?_
   exact R_nil ⟨rfl, h1, h4, trivial⟩
  intro T H ⟨t2, h1, h4, _⟩
  refine W_seq_ret ?_
  refine Ret_1 t2 (fz_int ?_)
  · rw [dvE, if_neg (by omega), if_neg (by omega), if_neg (by rw [hz]; simp), if_neg (by simp [d3]), if_pos (by omega)]
 refine W_seq_skip ?_
 refine W_seq_regc (fun T H => T 2 = (iV (0 : Int)) ∧ H 1 = (⟨1, true, false, 24, 1, [[(V.sl (List.map cN (t.nd)))]]⟩ : Blk) ∧ (H 4).ver = v4 ∧ True) ?_ ?_
 ·
  unfold r11_20
  refine R_mv (@rfl V (iV (0 : Int))) ?_
  exact R_nil ⟨rfl, h1, h4, trivial⟩
 intro T H ⟨t2, h1, h4, _⟩
 refine W_ret ?_
 refine Ret_1 t2 (fz_int ?_)
 · rw [dvE, if_neg (by omega), if_neg (by omega), if_neg (by rw [hz]; simp), if_neg (by simp [d3]), if_neg (by omega)]
end Go.Proofs.YtmnjchcoigbngaaGreat


namespace Go.Proofs.YtmnjchcoigbngaaGreat
open Go Go.Proofs
theorem revcI7_E (l : List Int) (v : Nat) (z : Bool) (Hi : Heap) (hq : Hi 7 = (⟨v, true, z, 3, 1, (List.map cI (l))⟩ : Blk)) (hl : l.length ≤ 1073741824) : CallOK Tryz.prog 68 [(V.ms 7 v 0 (l.length))] Hi (V.tup []) (upd Hi 7 (⟨v, true, z, 3, 1, (List.map cI (l.reverse))⟩ : Blk)) := by
 refine CallOK_of_Wf (k0 := 600) Tryz.func68 s68_ok (by kernel_rfl) (by simp [s68]) fun hB => ?_
 simp only [bnd_map, bnd_int, bnd_bool, bnd_str, bnd_agg, bnd_pp, bnd_nil, bnd_cons, implies_true, and_true, true_and] at hB
 unfold s68
 dsimp only
 refine W_seq_regc (fun T H => T 0 = (V.ms 7 v 0 (l.length)) ∧ T 2 = (iV (0 : Int)) ∧ T 3 = (iV (((l.length : Nat) : Int) - (1 : Int))) ∧ (∀ j, j ∉ [7] → H j = Hi j) ∧ H 7 = (⟨v, true, z, 3, 1, (List.map cI (l))⟩ : Blk) ∧ True) ?_ ?_
 ·
  unfold r68_0
  refine R_mv (@rfl V (V.ms 7 v 0 (l.length))) ?_
  refine R_len_ms (@rfl V (V.ms 7 v 0 (l.length))) hq (by first | rfl | simp) ?_
  refine R_sub (x := ((l.length : Nat) : Int)) (y := (1 : Int)) (@rfl V (iV ((l.length : Nat) : Int))) (@rfl V (iV (1 : Int))) (by first | omega | (simp only [List.length_set]; omega)) (by first | omega | (simp only [List.length_set]; omega)) ?_
  refine R_mv (@rfl V (iV (0 : Int))) ?_
  refine R_mv (@rfl V (iV (((l.length : Nat) : Int) - (1 : Int)))) ?_
  exact R_nil ⟨rfl, rfl, rfl, (fun _ _ => rfl), hq, trivial⟩
 intro T H ⟨t0, t2, t3, hF, h7, _⟩
 refine W_block fun Q1 n1 x1 y1 z1 => ?_
 refine W_loop (fun mm T H => ∃ (k : Nat), mm = l.length - k ∧ T 0 = (V.ms 7 v 0 (l.length)) ∧ T 2 = (iV ((k : Nat) : Int)) ∧ T 3 = (iV (((l.length : Nat) : Int) - 1 - k)) ∧ (∀ j, j ∉ [7] → H j = Hi j) ∧ H 7 = (⟨v, true, z, 3, 1, (List.map cI (rvL l k))⟩ : Blk) ∧ (2 * k ≤ l.length + 1)) ?_ ?_
 ·
  refine ⟨_, 0, rfl, t0, (Eq.trans t2 (by first | rfl | (exact congrArg (V.int .i64) (by omega)) | simp)), (Eq.trans t3 (by first | rfl | (exact congrArg (V.int .i64) (by omega)) | simp)), hF, (Eq.trans h7 (by first | rfl | (rw [rv_zero]; done) | (rw [show (((l.length : Nat) : Int) - 1 - (k : Int)).toNat = l.length - 1 - k by omega, rv_step (by omega) (by omega)]; done) | (rw [rv_end (by omega) (by omega)]; done))), ?_⟩
  · omega
 intro mm T H ⟨k, hmm, t0, t2, t3, hF, h7, hk⟩ Q2 p12 p22 p32
 unfold b68_0
 have q1 := rv_len l k
 refine W_seq_seq ?_
 refine W_seq_regc (fun T H => T 0 = (V.ms 7 v 0 (l.length)) ∧ T 2 = (iV ((k : Nat) : Int)) ∧ T 3 = (iV (((l.length : Nat) : Int) - 1 - k)) ∧ T 9 = (V.bool (decide (((k : Nat) : Int) < (((l.length : Nat) : Int) - 1 - k)))) ∧ (∀ j, j ∉ [7] → H j = Hi j) ∧ H 7 = (⟨v, true, z, 3, 1, (List.map cI (rvL l k))⟩ : Blk) ∧ True) ?_ ?_
 ·
  unfold r68_1
  refine R_mv t2 ?_
  refine R_mv t3 ?_
  refine R_lss (x := ((k : Nat) : Int)) (y := (((l.length : Nat) : Int) - 1 - k)) (@rfl V (iV ((k : Nat) : Int))) (@rfl V (iV (((l.length : Nat) : Int) - 1 - k))) ?_
  exact R_nil ⟨t0, t2, t3, rfl, hF, h7, trivial⟩
 intro T H ⟨t0, t2, t3, t9, hF, h7, _⟩
 refine W_seq_if (p := ((k : Nat) : Int) < (((l.length : Nat) : Int) - 1 - k)) t9 (fun c3 => ?_) (fun c3 => ?_)
 ·
  refine W_seq_skip ?_
  refine W_seq_blockg fun Q4 n4 x4 y4 z4 => ?_
  refine W_regc (fun T H => T 0 = (V.ms 7 v 0 (l.length)) ∧ T 2 = (iV ((k : Nat) : Int)) ∧ T 3 = (iV (((l.length : Nat) : Int) - 1 - k)) ∧ (∀ j, j ∉ [7] → H j = Hi j) ∧ H 7 = (⟨v, true, z, 3, 1, (List.map cI (((rvL l k).set k (((nth (rvL l k) (((((l.length : Nat) : Int) - 1 - k)).toNat))))).set (((((l.length : Nat) : Int) - 1 - k)).toNat) (((nth (rvL l k) (k))))))⟩ : Blk) ∧ True) ?_ ?_
  ·
   unfold r68_3
   refine R_mv t0 ?_
   refine R_mv t2 ?_
   refine R_mv t0 ?_
   refine R_mv t3 ?_
   refine R_mv t0 ?_
   refine R_mv t3 ?_
   refine R_idxI_ms0 (i := (((l.length : Nat) : Int) - 1 - k)) (@rfl V (V.ms 7 v 0 (l.length))) (@rfl V (iV (((l.length : Nat) : Int) - 1 - k))) h7 (okB_map (by first | omega | (simp only [List.length_set]; omega))) rfl (by first | omega | (simp only [List.length_set]; omega)) (by first | omega | (simp only [List.length_set]; omega)) ?_
   refine R_load_mp (v := (iV ((nth (rvL l k) (((((l.length : Nat) : Int) - 1 - k)).toNat))))) (@rfl V (V.mp 7 v (((((l.length : Nat) : Int) - 1 - k)).toNat) 0)) h7 (ldB_map (by first | omega | (simp only [List.length_set]; omega)) (by first | rfl | simp [ldV, V.one])) ?_
   refine R_mv t0 ?_
   refine R_mv t2 ?_
   refine R_idx_ms0 (i := k) (@rfl V (V.ms 7 v 0 (l.length))) (@rfl V (iV ((k : Nat) : Int))) h7 (okB_map (by first | omega | (simp only [List.length_set]; omega))) rfl (by first | omega | (simp only [List.length_set]; omega)) ?_
   refine R_load_mp (v := (iV ((nth (rvL l k) (k))))) (@rfl V (V.mp 7 v k 0)) h7 (ldB_map (by first | omega | (simp only [List.length_set]; omega)) (by first | rfl | simp [ldV, V.one])) ?_
   refine R_idx_ms0 (i := k) (@rfl V (V.ms 7 v 0 (l.length))) (@rfl V (iV ((k : Nat) : Int))) h7 (okB_map (by first | omega | (simp only [List.length_set]; omega))) rfl (by first | omega | (simp only [List.length_set]; omega)) ?_
   refine R_store (vs := [(iV ((nth (rvL l k) (((((l.length : Nat) : Int) - 1 - k)).toNat))))]) (B' := (⟨v, true, z, 3, 1, (List.map cI ((rvL l k).set k (((nth (rvL l k) (((((l.length : Nat) : Int) - 1 - k)).toNat))))))⟩ : Blk)) (@rfl V (V.mp 7 v k 0)) (@rfl V (iV ((nth (rvL l k) (((((l.length : Nat) : Int) - 1 - k)).toNat))))) rfl h7 (stB_map (x := (((nth (rvL l k) (((((l.length : Nat) : Int) - 1 - k)).toNat))))) (i := k) (by first | omega | (simp only [List.length_set]; omega)) rfl rfl rfl rfl) ?_
   refine R_idxI_ms0 (i := (((l.length : Nat) : Int) - 1 - k)) (@rfl V (V.ms 7 v 0 (l.length))) (@rfl V (iV (((l.length : Nat) : Int) - 1 - k))) (@rfl Blk (⟨v, true, z, 3, 1, (List.map cI ((rvL l k).set k (((nth (rvL l k) (((((l.length : Nat) : Int) - 1 - k)).toNat))))))⟩ : Blk)) (okB_map (by first | omega | (simp only [List.length_set]; omega))) rfl (by first | omega | (simp only [List.length_set]; omega)) (by first | omega | (simp only [List.length_set]; omega)) ?_
   refine R_store (vs := [(iV ((nth (rvL l k) (k))))]) (B' := (⟨v, true, z, 3, 1, (List.map cI (((rvL l k).set k (((nth (rvL l k) (((((l.length : Nat) : Int) - 1 - k)).toNat))))).set (((((l.length : Nat) : Int) - 1 - k)).toNat) (((nth (rvL l k) (k))))))⟩ : Blk)) (@rfl V (V.mp 7 v (((((l.length : Nat) : Int) - 1 - k)).toNat) 0)) (@rfl V (iV ((nth (rvL l k) (k))))) rfl (@rfl Blk (⟨v, true, z, 3, 1, (List.map cI ((rvL l k).set k (((nth (rvL l k) (((((l.length : Nat) : Int) - 1 - k)).toNat))))))⟩ : Blk)) (stB_map (x := (((nth (rvL l k) (k))))) (i := (((((l.length : Nat) : Int) - 1 - k)).toNat)) (by first | omega | (simp only [List.length_set]; omega)) rfl rfl rfl rfl) ?_
   exact R_nil ⟨t0, t2, t3, (upd_out (upd_out hF (by decide)) (by decide)), rfl, trivial⟩
  intro T H ⟨t0, t2, t3, hF, h7, _⟩
  refine n4 _ _ ?_
  refine .done ?_
  refine W_regc (fun T H => T 0 = (V.ms 7 v 0 (l.length)) ∧ T 2 = (iV ((k + 1 : Nat) : Int)) ∧ T 3 = (iV ((((l.length : Nat) : Int) - 1 - k) - (1 : Int))) ∧ (∀ j, j ∉ [7] → H j = Hi j) ∧ H 7 = (⟨v, true, z, 3, 1, (List.map cI (((rvL l k).set k (((nth (rvL l k) (((((l.length : Nat) : Int) - 1 - k)).toNat))))).set (((((l.length : Nat) : Int) - 1 - k)).toNat) (((nth (rvL l k) (k))))))⟩ : Blk) ∧ True) ?_ ?_
  ·
   unfold r68_2
   refine R_mv t2 ?_
   refine R_addN (m := k) (n := 1) (@rfl V (iV ((k : Nat) : Int))) (@rfl V (iV ((1 : Nat) : Int))) (by first | omega | (simp only [List.length_set]; omega)) ?_
   refine R_mv t3 ?_
   refine R_sub (x := (((l.length : Nat) : Int) - 1 - k)) (y := (1 : Int)) (@rfl V (iV (((l.length : Nat) : Int) - 1 - k))) (@rfl V (iV (1 : Int))) (by first | omega | (simp only [List.length_set]; omega)) (by first | omega | (simp only [List.length_set]; omega)) ?_
   refine R_mv (@rfl V (iV ((k + 1 : Nat) : Int))) ?_
   refine R_mv (@rfl V (iV ((((l.length : Nat) : Int) - 1 - k) - (1 : Int)))) ?_
   exact R_nil ⟨t0, rfl, rfl, hF, h7, trivial⟩
  intro T H ⟨t0, t2, t3, hF, h7, _⟩
  refine p12 _ _ _ ?_ ⟨(k + 1), rfl, t0, (Eq.trans t2 (by first | rfl | (exact congrArg (V.int .i64) (by omega)) | simp)), (Eq.trans t3 (by first | rfl | (exact congrArg (V.int .i64) (by omega)) | simp)), hF, (Eq.trans h7 (by first | rfl | (rw [rv_zero]; done) | (rw [show (((l.length : Nat) : Int) - 1 - (k : Int)).toNat = l.length - 1 - k by omega, rv_step (by omega) (by omega)]; done) | (rw [rv_end (by omega) (by omega)]; done))), ?_⟩
  · omega
  · omega
 refine W_seq_exit ?_
 refine p32 _ _ _ ?_
 refine x1 _ _ ?_
 skip
 have fh := FinX.fin (FinX.put (B := (⟨v, true, z, 3, 1, (List.map cI (l.reverse))⟩ : Blk)) (FinX.start hF) h7 (FinB.eq (by first | rfl | (rw [rv_zero]; done) | (rw [show (((l.length : Nat) : Int) - 1 - (k : Int)).toNat = l.length - 1 - k by omega, rv_step (by omega) (by omega)]; done) | (rw [rv_end (by omega) (by omega)]; done))))
 exact RetF_0 fh
end Go.Proofs.YtmnjchcoigbngaaGreat


namespace Go.Proofs.YtmnjchcoigbngaaGreat
open Go Go.Proofs
theorem idxn_pure (p : Nd → Bool) (w : List Nd) (g : Nat) (caps : List V) (hca : canonL caps = true) (hpu : pureL caps = true) (hq : ∀ k, k < w.length → PureC Tryz.prog g (nV (nth w k) :: caps) (.bool (p (nth w k)))) : PureC Tryz.prog 98 [(V.sl (List.map cN (w))), (V.fn g [] caps)] (iV (fi (fun j => p (nth w j)) 0 w.length)) := by
 refine pure_of_Wb true 6 Tryz.func98 s98_ok (by kernel_rfl) (by simp [s98]) (by simp [hpu]) (by simp) fun hB => ?_
 simp only [bnd_map, bnd_int, bnd_bool, bnd_str, bnd_agg, bnd_pp, bnd_nil, bnd_cons, implies_true, and_true, true_and] at hB
 unfold s98
 dsimp only
 refine W_seq_regc (fun T H => T 0 = (V.sl (List.map cN (w))) ∧ T 1 = (V.fn g [] caps) ∧ True) ?_ ?_
 ·
  unfold r98_0
  refine R_mv (@rfl V (iV (0 : Int))) ?_
  exact R_nil ⟨rfl, rfl, trivial⟩
 intro T H ⟨t0, t1, _⟩
 refine W_seq_seq ?_
 refine W_seq_regc (fun T H => T 0 = (V.sl (List.map cN (w))) ∧ T 1 = (V.fn g [] caps) ∧ T 7 = (iV ((w.length : Nat) : Int)) ∧ T 8 = (iV (0 : Int)) ∧ True) ?_ ?_
 ·
  unfold r98_1
  refine R_mv t0 ?_
  refine R_len (@rfl V (V.sl (List.map cN (w)))) ?_
  refine R_mv (@rfl V (iV (0 : Int))) ?_
  exact R_nil ⟨t0, t1, rfl, rfl, trivial⟩
 intro T H ⟨t0, t1, t7, t8, _⟩
 refine W_seq_blockg fun Q1 n1 x1 y1 z1 => ?_
 refine W_loop (fun mm T H => ∃ (k : Nat), mm = w.length - k ∧ T 0 = (V.sl (List.map cN (w))) ∧ T 1 = (V.fn g [] caps) ∧ T 7 = (iV ((w.length : Nat) : Int)) ∧ T 8 = (iV ((k : Nat) : Int)) ∧ (k ≤ w.length) ∧ (fi (fun j => p (nth w j)) 0 w.length = fi (fun j => p (nth w j)) k (w.length - k))) ?_ ?_
 ·
  refine ⟨_, 0, rfl, t0, t1, t7, (Eq.trans t8 (by first | rfl | simp)), ?_, ?_⟩
  · omega
  · rfl
 intro mm T H ⟨k, hmm, t0, t1, t7, t8, hk, hc⟩ Q2 p12 p22 p32
 unfold b98_0
 refine W_seq_regc (fun T H => T 0 = (V.sl (List.map cN (w))) ∧ T 1 = (V.fn g [] caps) ∧ T 7 = (iV ((w.length : Nat) : Int)) ∧ T 8 = (iV ((k : Nat) : Int)) ∧ T 9 = (V.bool (decide (((k : Nat) : Int) < ((w.length : Nat) : Int)))) ∧ True) ?_ ?_
 ·
  unfold r98_2
  refine R_lss (x := ((k : Nat) : Int)) (y := ((w.length : Nat) : Int)) t8 t7 ?_
  exact R_nil ⟨t0, t1, t7, t8, rfl, trivial⟩
 intro T H ⟨t0, t1, t7, t8, t9, _⟩
 refine W_seq_if (p := ((k : Nat) : Int) < ((w.length : Nat) : Int)) t9 (fun c3 => ?_) (fun c3 => ?_)
 ·
  refine W_seq_skip ?_
  refine W_seq_blockg fun Q4 n4 x4 y4 z4 => ?_
  refine W_seq_regc (fun T H => T 0 = (V.sl (List.map cN (w))) ∧ T 1 = (V.fn g [] caps) ∧ T 5 = (iV ((k : Nat) : Int)) ∧ T 7 = (iV ((w.length : Nat) : Int)) ∧ T 8 = (iV ((k : Nat) : Int)) ∧ True) ?_ ?_
  ·
   unfold r98_3
   refine R_mv t8 ?_
   refine R_mv (@rfl V (iV ((k : Nat) : Int))) ?_
   exact R_nil ⟨t0, t1, rfl, t7, t8, trivial⟩
  intro T H ⟨t0, t1, t5, t7, t8, _⟩
  refine W_seq_regc (fun T H => T 0 = (V.sl (List.map cN (w))) ∧ T 1 = (V.fn g [] caps) ∧ T 5 = (iV ((k : Nat) : Int)) ∧ T 7 = (iV ((w.length : Nat) : Int)) ∧ T 8 = (iV ((k : Nat) : Int)) ∧ T 16 = (V.bool (p (nth w k))) ∧ True) ?_ ?_
  ·
   unfold r98_4
   refine R_mv t1 ?_
   refine R_mv t0 ?_
   refine R_mv t5 ?_
   refine R_idx (i := k) (@rfl V (V.sl (List.map cN (w)))) (@rfl V (iV ((k : Nat) : Int))) (by omega) rfl ?_
   refine R_load_pp (v := (V.agg [(V.bool (((nth (w) (k))).lf)), (V.sl (List.map cI (((nth (w) (k))).ac))), (V.sl (List.map cI (((nth (w) (k))).sf))), (V.sl (List.map cL (((nth (w) (k))).ou))), (V.sl (List.map cI (((nth (w) (k))).kd)))])) (@rfl V (V.pp [(V.bool (((nth (w) (k))).lf)), (V.sl (List.map cI (((nth (w) (k))).ac))), (V.sl (List.map cI (((nth (w) (k))).sf))), (V.sl (List.map cL (((nth (w) (k))).ou))), (V.sl (List.map cI (((nth (w) (k))).kd)))])) (by first | rfl | simp [ldV]) ?_
   refine R_callv (@rfl V (V.fn g [] caps)) (evcons (@rfl V (V.agg [(V.bool (((nth (w) (k))).lf)), (V.sl (List.map cI (((nth (w) (k))).ac))), (V.sl (List.map cI (((nth (w) (k))).sf))), (V.sl (List.map cL (((nth (w) (k))).ou))), (V.sl (List.map cI (((nth (w) (k))).kd)))])) evnil) (hq k (by omega)) (fzv_mapcanon _ _ (by simp [hca])) (by simp [hpu]) (Or.inl (by simp [hpu])) ?_
   exact R_nil ⟨t0, t1, t5, t7, t8, rfl, trivial⟩
  intro T H ⟨t0, t1, t5, t7, t8, t16, _⟩
  refine W_ifb t16 (fun c5 => ?_) (fun c5 => ?_)
  ·
   have d1 := c5
   refine W_seq_regc (fun T H => T 4 = (iV ((k : Nat) : Int)) ∧ True) ?_ ?_
   ·
    unfold r98_5
    refine R_mv t5 ?_
    refine R_mv (@rfl V (iV ((k : Nat) : Int))) ?_
    exact R_nil ⟨rfl, trivial⟩
   intro T H ⟨t4, _⟩
   refine W_ret ?_
   refine y4 _ _ ?_
   refine p22 _ _ ?_
   refine y1 _ _ ?_
   refine Ret_1 t4 (fz_int ?_)
   · rw [hc, fi_hit (by exact d1) (by omega)]
  have d1 := c5
  refine W_skip ?_
  refine n4 _ _ ?_
  refine .done ?_
  refine W_regc (fun T H => T 0 = (V.sl (List.map cN (w))) ∧ T 1 = (V.fn g [] caps) ∧ T 7 = (iV ((w.length : Nat) : Int)) ∧ T 8 = (iV ((k + 1 : Nat) : Int)) ∧ True) ?_ ?_
  ·
   unfold r98_6
   refine R_addN (m := k) (n := 1) t8 (@rfl V (iV ((1 : Nat) : Int))) (by omega) ?_
   refine R_mv (@rfl V (iV ((k + 1 : Nat) : Int))) ?_
   exact R_nil ⟨t0, t1, t7, rfl, trivial⟩
  intro T H ⟨t0, t1, t7, t8, _⟩
  refine p12 _ _ _ ?_ ⟨(k + 1), rfl, t0, t1, t7, (Eq.trans t8 (by first | rfl | simp)), ?_, ?_⟩
  · omega
  · omega
  · rw [hc, fi_skip (by exact d1) (by omega)]
 refine W_seq_exit ?_
 refine p32 _ _ _ ?_
 refine x1 _ _ ?_
 refine .done ?_
 refine W_seq_regc (fun T H => T 4 = (iV (-1 : Int)) ∧ True) ?_ ?_
 ·
  unfold r98_7
  refine R_mv (@rfl V (iV (-1 : Int))) ?_
  exact R_nil ⟨rfl, trivial⟩
 intro T H ⟨t4, _⟩
 refine W_ret ?_
 refine Ret_1 t4 (fz_int ?_)
 · rw [hc, fi_end (by omega)]
end Go.Proofs.YtmnjchcoigbngaaGreat


namespace Go.Proofs.YtmnjchcoigbngaaGreat
open Go Go.Proofs
theorem sindex_pure (l : List Int) (n : Int) : PureC Tryz.prog 115 [(V.sl (List.map cI (l))), (iV (n))] (iV (fi (fun j => decide (n = nth l j)) 0 l.length)) := by
 refine pure_of_Wb true 6 Tryz.func115 s115_ok (by kernel_rfl) (by simp [s115]) (by simp) (by simp) fun hB => ?_
 simp only [bnd_map, bnd_int, bnd_bool, bnd_str, bnd_agg, bnd_pp, bnd_nil, bnd_cons, implies_true, and_true, true_and] at hB
 unfold s115
 dsimp only
 refine W_seq_regc (fun T H => T 0 = (V.sl (List.map cI (l))) ∧ T 1 = (iV (n)) ∧ True) ?_ ?_
 ·
  unfold r115_0
  refine R_mv (@rfl V (iV (0 : Int))) ?_
  exact R_nil ⟨rfl, rfl, trivial⟩
 intro T H ⟨t0, t1, _⟩
 refine W_seq_seq ?_
 refine W_seq_regc (fun T H => T 0 = (V.sl (List.map cI (l))) ∧ T 1 = (iV (n)) ∧ T 7 = (iV ((l.length : Nat) : Int)) ∧ T 8 = (iV (0 : Int)) ∧ True) ?_ ?_
 ·
  unfold r115_1
  refine R_mv t0 ?_
  refine R_len (@rfl V (V.sl (List.map cI (l)))) ?_
  refine R_mv (@rfl V (iV (0 : Int))) ?_
  exact R_nil ⟨t0, t1, rfl, rfl, trivial⟩
 intro T H ⟨t0, t1, t7, t8, _⟩
 refine W_seq_blockg fun Q1 n1 x1 y1 z1 => ?_
 refine W_loop (fun mm T H => ∃ (k : Nat), mm = l.length - k ∧ T 0 = (V.sl (List.map cI (l))) ∧ T 1 = (iV (n)) ∧ T 7 = (iV ((l.length : Nat) : Int)) ∧ T 8 = (iV ((k : Nat) : Int)) ∧ (k ≤ l.length) ∧ (fi (fun j => decide (n = nth l j)) 0 l.length = fi (fun j => decide (n = nth l j)) k (l.length - k))) ?_ ?_
 ·
  refine ⟨_, 0, rfl, t0, t1, t7, (Eq.trans t8 (by first | rfl | simp)), ?_, ?_⟩
  · omega
  · rfl
 intro mm T H ⟨k, hmm, t0, t1, t7, t8, hk, hc⟩ Q2 p12 p22 p32
 unfold b115_0
 refine W_seq_regc (fun T H => T 0 = (V.sl (List.map cI (l))) ∧ T 1 = (iV (n)) ∧ T 7 = (iV ((l.length : Nat) : Int)) ∧ T 8 = (iV ((k : Nat) : Int)) ∧ T 9 = (V.bool (decide (((k : Nat) : Int) < ((l.length : Nat) : Int)))) ∧ True) ?_ ?_
 ·
  unfold r115_2
  refine R_lss (x := ((k : Nat) : Int)) (y := ((l.length : Nat) : Int)) t8 t7 ?_
  exact R_nil ⟨t0, t1, t7, t8, rfl, trivial⟩
 intro T H ⟨t0, t1, t7, t8, t9, _⟩
 refine W_seq_if (p := ((k : Nat) : Int) < ((l.length : Nat) : Int)) t9 (fun c3 => ?_) (fun c3 => ?_)
 ·
  refine W_seq_skip ?_
  refine W_seq_blockg fun Q4 n4 x4 y4 z4 => ?_
  refine W_seq_regc (fun T H => T 0 = (V.sl (List.map cI (l))) ∧ T 1 = (iV (n)) ∧ T 5 = (iV ((k : Nat) : Int)) ∧ T 7 = (iV ((l.length : Nat) : Int)) ∧ T 8 = (iV ((k : Nat) : Int)) ∧ True) ?_ ?_
  ·
   unfold r115_3
   refine R_mv t8 ?_
   refine R_mv (@rfl V (iV ((k : Nat) : Int))) ?_
   exact R_nil ⟨t0, t1, rfl, t7, t8, trivial⟩
  intro T H ⟨t0, t1, t5, t7, t8, _⟩
  refine W_seq_regc (fun T H => T 0 = (V.sl (List.map cI (l))) ∧ T 1 = (iV (n)) ∧ T 5 = (iV ((k : Nat) : Int)) ∧ T 7 = (iV ((l.length : Nat) : Int)) ∧ T 8 = (iV ((k : Nat) : Int)) ∧ T 16 = (V.bool (decide ((n) = ((nth (l) (k)))))) ∧ True) ?_ ?_
  ·
   unfold r115_4
   refine R_mv t1 ?_
   refine R_mv t0 ?_
   refine R_mv t5 ?_
   refine R_idx (i := k) (@rfl V (V.sl (List.map cI (l)))) (@rfl V (iV ((k : Nat) : Int))) (by omega) rfl ?_
   refine R_load_pp (v := (iV ((nth (l) (k))))) (@rfl V (V.pp [(iV ((nth (l) (k))))])) (by first | rfl | simp [ldV]) ?_
   refine R_eql (x := (n)) (y := ((nth (l) (k)))) (@rfl V (iV (n))) (@rfl V (iV ((nth (l) (k))))) ?_
   exact R_nil ⟨t0, t1, t5, t7, t8, rfl, trivial⟩
  intro T H ⟨t0, t1, t5, t7, t8, t16, _⟩
  refine W_if (p := (n) = ((nth (l) (k)))) t16 (fun c5 => ?_) (fun c5 => ?_)
  ·
   have d1 := c5
   refine W_seq_regc (fun T H => T 4 = (iV ((k : Nat) : Int)) ∧ True) ?_ ?_
   ·
    unfold r115_5
    refine R_mv t5 ?_
    refine R_mv (@rfl V (iV ((k : Nat) : Int))) ?_
    exact R_nil ⟨rfl, trivial⟩
   intro T H ⟨t4, _⟩
   refine W_ret ?_
   refine y4 _ _ ?_
   refine p22 _ _ ?_
   refine y1 _ _ ?_
   refine Ret_1 t4 (fz_int ?_)
   · rw [hc, fi_hit (p := fun j => decide (n = nth l j)) (decide_eq_true d1) (by omega)]
  have d1 := c5
  refine W_skip ?_
  refine n4 _ _ ?_
  refine .done ?_
  refine W_regc (fun T H => T 0 = (V.sl (List.map cI (l))) ∧ T 1 = (iV (n)) ∧ T 7 = (iV ((l.length : Nat) : Int)) ∧ T 8 = (iV ((k + 1 : Nat) : Int)) ∧ True) ?_ ?_
  ·
   unfold r115_6
   refine R_addN (m := k) (n := 1) t8 (@rfl V (iV ((1 : Nat) : Int))) (by omega) ?_
   refine R_mv (@rfl V (iV ((k + 1 : Nat) : Int))) ?_
   exact R_nil ⟨t0, t1, t7, rfl, trivial⟩
  intro T H ⟨t0, t1, t7, t8, _⟩
  refine p12 _ _ _ ?_ ⟨(k + 1), rfl, t0, t1, t7, (Eq.trans t8 (by first | rfl | simp)), ?_, ?_⟩
  · omega
  · omega
  · rw [hc, fi_skip (p := fun j => decide (n = nth l j)) (decide_eq_false d1) (by omega)]
 refine W_seq_exit ?_
 refine p32 _ _ _ ?_
 refine x1 _ _ ?_
 refine .done ?_
 refine W_seq_regc (fun T H => T 4 = (iV (-1 : Int)) ∧ True) ?_ ?_
 ·
  unfold r115_7
  refine R_mv (@rfl V (iV (-1 : Int))) ?_
  exact R_nil ⟨rfl, trivial⟩
 intro T H ⟨t4, _⟩
 refine W_ret ?_
 refine Ret_1 t4 (fz_int ?_)
 · rw [hc, fi_end (by omega)]
end Go.Proofs.YtmnjchcoigbngaaGreat


namespace Go.Proofs.YtmnjchcoigbngaaGreat
open Go Go.Proofs
theorem scontains_pure (l : List Int) (n : Int) : PureC Tryz.prog 100 [(V.sl (List.map cI (l))), (iV (n))] (V.bool (decide (n ∈ l))) := by
 refine pure_of_Wb true 6 Tryz.func100 s100_ok (by kernel_rfl) (by simp [s100]) (by simp) (by simp) fun hB => ?_
 simp only [bnd_map, bnd_int, bnd_bool, bnd_str, bnd_agg, bnd_pp, bnd_nil, bnd_cons, implies_true, and_true, true_and] at hB
 unfold s100
 dsimp only
 refine W_seq_regc (fun T H => T 0 = (V.sl (List.map cI (l))) ∧ T 1 = (iV (n)) ∧ True) ?_ ?_
 ·
  unfold r100_0
  refine R_mv (@rfl V (V.bool false)) ?_
  exact R_nil ⟨rfl, rfl, trivial⟩
 intro T H ⟨t0, t1, _⟩
 refine W_seq_regc (fun T H => T 4 = (V.bool (decide ((0 : Int) ≤ (fi (fun j => decide (((n)) = nth l j)) 0 l.length)))) ∧ True) ?_ ?_
 ·
  unfold r100_1
  refine R_mv t0 ?_
  refine R_mv t1 ?_
  refine R_call (evcons (@rfl V (V.sl (List.map cI (l)))) (evcons (@rfl V (iV (n))) evnil)) (sindex_pure l ((n))) (fzv_mapcanon _ _ (by simp [-List.map_take, -List.map_drop, -List.map_append, -List.map_reverse])) (by simp [-List.map_take, -List.map_drop, -List.map_append, -List.map_reverse]) (Or.inl (by simp [-List.map_take, -List.map_drop, -List.map_append, -List.map_reverse])) ?_
  refine R_geq (x := (fi (fun j => decide (((n)) = nth l j)) 0 l.length)) (y := (0 : Int)) (@rfl V (iV (fi (fun j => decide (((n)) = nth l j)) 0 l.length))) (@rfl V (iV (0 : Int))) ?_
  refine R_mv (@rfl V (V.bool (decide ((0 : Int) ≤ (fi (fun j => decide (((n)) = nth l j)) 0 l.length))))) ?_
  exact R_nil ⟨rfl, trivial⟩
 intro T H ⟨t4, _⟩
 refine W_ret ?_
 refine Ret_1 t4 (fz_bool ?_)
 · exact decide_eq_decide.2 fi_memI
end Go.Proofs.YtmnjchcoigbngaaGreat


namespace Go.Proofs.YtmnjchcoigbngaaGreat
open Go Go.Proofs
theorem path1_pure (x : Nd) (n : Int) : PureC Tryz.prog 99 [(V.agg [(V.bool x.lf), (V.sl (List.map cI (x.ac))), (V.sl (List.map cI (x.sf))), (V.sl (List.map cL (x.ou))), (V.sl (List.map cI (x.kd)))]), (V.pp [(iV (n))])] (V.bool (decide (n ∈ x.kd))) := by
 refine pure_of_Wb true 6 Tryz.func99 s99_ok (by kernel_rfl) (by simp [s99]) (by simp) (by simp) fun hB => ?_
 simp only [bnd_map, bnd_int, bnd_bool, bnd_str, bnd_agg, bnd_pp, bnd_nil, bnd_cons, implies_true, and_true, true_and] at hB
 unfold s99
 dsimp only
 refine W_seq_regc (fun T H => T 1 = (V.pp [(iV (n))]) ∧ T 2 = (V.mp 2 1 0 0) ∧ H 2 = (⟨1, true, false, 68, 5, [[(V.bool x.lf), (V.sl (List.map cI (x.ac))), (V.sl (List.map cI (x.sf))), (V.sl (List.map cL (x.ou))), (V.sl (List.map cI (x.kd)))]]⟩ : Blk) ∧ True) ?_ ?_
 ·
  unfold r99_0
  refine R_box (i := 2) (n := 0) (m := 5) (cs := [(V.bool x.lf), (V.sl (List.map cI (x.ac))), (V.sl (List.map cI (x.sf))), (V.sl (List.map cL (x.ou))), (V.sl (List.map cI (x.kd)))]) rfl (congrArg Blk.ver rfl) (@rfl V (V.agg [(V.bool x.lf), (V.sl (List.map cI (x.ac))), (V.sl (List.map cI (x.sf))), (V.sl (List.map cL (x.ou))), (V.sl (List.map cI (x.kd)))])) rfl rfl ?_
  refine R_mv (@rfl V (V.bool false)) ?_
  exact R_nil ⟨rfl, rfl, rfl, trivial⟩
 intro T H ⟨t1, t2, h2, _⟩
 refine W_seq_regc (fun T H => T 3 = (V.bool (decide (((n)) ∈ x.kd))) ∧ H 2 = (⟨1, true, false, 68, 5, [[(V.bool x.lf), (V.sl (List.map cI (x.ac))), (V.sl (List.map cI (x.sf))), (V.sl (List.map cL (x.ou))), (V.sl (List.map cI (x.kd)))]]⟩ : Blk) ∧ True) ?_ ?_
 ·
  unfold r99_1
  refine R_fld_mp (o' := 4) t2 h2 (by first | rfl | simp [okB, Blk.own]) rfl ?_
  refine R_load_mp (v := (V.sl (List.map cI (x.kd)))) (@rfl V (V.mp 2 1 0 4)) h2 (by first | rfl | simp [ldB, ldV, Blk.own, V.one]) ?_
  refine R_load_pp (v := (iV (n))) t1 (by first | rfl | simp [ldV]) ?_
  refine R_call (evcons (@rfl V (V.sl (List.map cI (x.kd)))) (evcons (@rfl V (iV (n))) evnil)) (scontains_pure x.kd ((n))) (fzv_mapcanon _ _ (by simp [-List.map_take, -List.map_drop, -List.map_append, -List.map_reverse])) (by simp [-List.map_take, -List.map_drop, -List.map_append, -List.map_reverse]) (Or.inl (by simp [-List.map_take, -List.map_drop, -List.map_append, -List.map_reverse])) ?_
  refine R_mv (@rfl V (V.bool (decide (((n)) ∈ x.kd)))) ?_
  exact R_nil ⟨rfl, h2, trivial⟩
 intro T H ⟨t3, h2, _⟩
 refine W_ret ?_
 refine Ret_1 t3 (fz_bool ?_)
 · rfl
end Go.Proofs.YtmnjchcoigbngaaGreat


namespace Go.Proofs.YtmnjchcoigbngaaGreat
open Go Go.Proofs
theorem path_pure (t : Dt) (n : Int) (hv : dvE t = 0) (hb : Bd t) (g0 : 0 ≤ n) (g1 : n < t.nd.length) : PureC Tryz.prog 70 [(V.agg [(V.sl (List.map cN (t.nd)))]), (iV (n))] (V.sl (List.map cI (pth t n))) := by
 refine pure_of_Wb true 6 Tryz.func70 s70_ok (by kernel_rfl) (by simp [s70]) (by simp) (by simp) fun hB => ?_
 simp only [bnd_map, bnd_int, bnd_bool, bnd_str, bnd_agg, bnd_pp, bnd_nil, bnd_cons, implies_true, and_true, true_and] at hB
 unfold s70
 dsimp only
 have hbn := hb.n
 refine W_seq_regc (fun T H => T 2 = (V.mp 2 1 0 0) ∧ T 3 = (V.mp 3 1 0 0) ∧ H 2 = (⟨1, true, false, 24, 1, [[(V.sl (List.map cN (t.nd)))]]⟩ : Blk) ∧ H 3 = (⟨1, true, false, 3, 1, [[(iV (n))]]⟩ : Blk) ∧ H 7 = (⟨0, false, false, 0, 0, []⟩ : Blk) ∧ True) ?_ ?_
 ·
  unfold r70_0
  refine R_box (i := 2) (n := 0) (m := 1) (cs := [(V.sl (List.map cN (t.nd)))]) rfl (congrArg Blk.ver rfl) (@rfl V (V.agg [(V.sl (List.map cN (t.nd)))])) rfl rfl ?_
  refine R_box (i := 3) (n := 0) (m := 1) (cs := [(iV (n))]) rfl (congrArg Blk.ver rfl) (@rfl V (iV (n))) rfl rfl ?_
  refine R_mv (@rfl V V.nilsl) ?_
  exact R_nil ⟨rfl, rfl, rfl, rfl, rfl, trivial⟩
 intro T H ⟨t2, t3, h2, h3, h7, _⟩
 refine W_seq_regc (fun T H => T 2 = (V.mp 2 1 0 0) ∧ T 3 = (V.mp 3 1 0 0) ∧ T 5 = (V.ms 7 1 0 (1)) ∧ H 2 = (⟨1, true, false, 24, 1, [[(V.sl (List.map cN (t.nd)))]]⟩ : Blk) ∧ H 3 = (⟨1, true, false, 3, 1, [[(iV (n))]]⟩ : Blk) ∧ H 7 = (⟨1, true, false, 3, 1, [[(iV (n))]]⟩ : Blk) ∧ True) ?_ ?_
 ·
  unfold r70_1
  refine R_load_mp (v := (iV (n))) t3 h3 (by first | rfl | simp [ldB, ldV, Blk.own, V.one]) ?_
  refine R_bslice_own (i := 7) (n := 0) (qs := [(0, (iV (n)))]) (rows := [[(iV (n))]]) rfl (congrArg Blk.ver h7) (mcons (congrArg (fun v => (0, v)) (@rfl V (iV (n)))) rfl) rfl ?_
  refine R_mv (@rfl V (V.ms 7 1 0 (1))) ?_
  exact R_nil ⟨t2, t3, rfl, h2, h3, rfl, trivial⟩
 intro T H ⟨t2, t3, t5, h2, h3, h7, _⟩
 refine W_seq_blockg fun Q1 n1 x1 y1 z1 => ?_
 refine W_loop (fun mm T H => ∃ (a : Int) (f : Nat) (w : Nat) (out : List Int), mm = f ∧ T 2 = (V.mp 2 1 0 0) ∧ T 3 = (V.mp 3 1 0 0) ∧ T 5 = (V.ms 7 w 0 (out.length)) ∧ H 2 = (⟨1, true, false, 24, 1, [[(V.sl (List.map cN (t.nd)))]]⟩ : Blk) ∧ H 3 = (⟨1, true, false, 3, 1, [[(iV (a))]]⟩ : Blk) ∧ H 7 = (⟨w, true, false, 3, 1, (List.map cI (out))⟩ : Blk) ∧ (Up t f a) ∧ (upN t t.nd.length n = out ++ (upN t f a).drop 1) ∧ (out.length + f ≤ t.nd.length + 1)) ?_ ?_
 ·
  refine ⟨_, n, t.nd.length, 1, [n], rfl, t2, t3, (Eq.trans t5 (by first | rfl | simp)), h2, h3, (Eq.trans h7 (by first | rfl | simp)), ?_, ?_, ?_⟩
  · exact Up.of hv g0 g1
  · rw [up_head t t.nd.length n]; rfl
  · simp; omega
 intro mm T H ⟨a, f, w, out, hmm, t2, t3, t5, h2, h3, h7, hu, hc, hl⟩ Q2 p12 p22 p32
 unfold b70_0
 refine W_seq_seq ?_
 refine W_seq_regc (fun T H => T 2 = (V.mp 2 1 0 0) ∧ T 3 = (V.mp 3 1 0 0) ∧ T 5 = (V.ms 7 w 0 (out.length)) ∧ T 9 = (V.bool (decide ((a) ≠ (0 : Int)))) ∧ H 2 = (⟨1, true, false, 24, 1, [[(V.sl (List.map cN (t.nd)))]]⟩ : Blk) ∧ H 3 = (⟨1, true, false, 3, 1, [[(iV (a))]]⟩ : Blk) ∧ H 7 = (⟨w, true, false, 3, 1, (List.map cI (out))⟩ : Blk) ∧ True) ?_ ?_
 ·
  unfold r70_2
  refine R_load_mp (v := (iV (a))) t3 h3 (by first | rfl | simp [ldB, ldV, Blk.own, V.one]) ?_
  refine R_neq (x := (a)) (y := (0 : Int)) (@rfl V (iV (a))) (@rfl V (iV (0 : Int))) ?_
  exact R_nil ⟨t2, t3, t5, rfl, h2, h3, h7, trivial⟩
 intro T H ⟨t2, t3, t5, t9, h2, h3, h7, _⟩
 refine W_seq_if (p := (a) ≠ (0 : Int)) t9 (fun c3 => ?_) (fun c3 => ?_)
 ·
  have d1 : a ≠ 0 := c3
  refine W_seq_skip ?_
  refine W_block fun Q4 n4 x4 y4 z4 => ?_
  refine W_seq_regc (fun T H => T 2 = (V.mp 2 1 0 0) ∧ T 3 = (V.mp 3 1 0 0) ∧ T 5 = (V.ms 7 w 0 (out.length)) ∧ H 2 = (⟨1, true, false, 24, 1, [[(V.sl (List.map cN (t.nd)))]]⟩ : Blk) ∧ H 3 = (⟨1, true, false, 3, 1, [[(iV (fi (fun j => (fun x : Nd => decide (a ∈ x.kd)) (nth t.nd j)) 0 t.nd.length))]]⟩ : Blk) ∧ H 7 = (⟨w, true, false, 3, 1, (List.map cI (out))⟩ : Blk) ∧ True) ?_ ?_
  ·
   unfold r70_3
   refine R_fld_mp (o' := 0) t2 h2 (by first | rfl | simp [okB, Blk.own]) rfl ?_
   refine R_load_mp (v := (V.sl (List.map cN (t.nd)))) (@rfl V (V.mp 2 1 0 0)) h2 (by first | rfl | simp [ldB, ldV, Blk.own, V.one]) ?_
   refine R_mkf (evcons t3 evnil) ?_
   refine R_call (evcons (@rfl V (V.sl (List.map cN (t.nd)))) (evcons (@rfl V (V.fn 99 [] [(V.mp 3 1 0 0)])) evnil)) (idxn_pure (fun x : Nd => decide (a ∈ x.kd)) t.nd 99 ([(V.pp [(iV (a))])]) (by simp) (by simp) (fun j _ => path1_pure (nth t.nd j) a)) (mcons (fzv_canon 6 _ (by simp [-List.map_take, -List.map_drop, -List.map_append, -List.map_reverse])) (mcons (by simp [fzv, Blk.own, h2, h3, h7]) rfl)) (by simp [-List.map_take, -List.map_drop, -List.map_append, -List.map_reverse]) (Or.inr rfl) ?_
   refine R_store (vs := [(iV (fi (fun j => (fun x : Nd => decide (a ∈ x.kd)) (nth t.nd j)) 0 t.nd.length))]) (B' := (⟨1, true, false, 3, 1, [[(iV (fi (fun j => (fun x : Nd => decide (a ∈ x.kd)) (nth t.nd j)) 0 t.nd.length))]]⟩ : Blk)) t3 (@rfl V (iV (fi (fun j => (fun x : Nd => decide (a ∈ x.kd)) (nth t.nd j)) 0 t.nd.length))) rfl h3 (by first | rfl | simp [stB, okB, Blk.own, putAt, V.one]) ?_
   exact R_nil ⟨t2, t3, t5, h2, rfl, h7, trivial⟩
  intro T H ⟨t2, t3, t5, h2, h3, h7, _⟩
  refine W_regc (fun T H => T 2 = (V.mp 2 1 0 0) ∧ T 3 = (V.mp 3 1 0 0) ∧ T 5 = (V.ms 7 (w + 1) 0 (out.length + 1)) ∧ H 2 = (⟨1, true, false, 24, 1, [[(V.sl (List.map cN (t.nd)))]]⟩ : Blk) ∧ H 3 = (⟨1, true, false, 3, 1, [[(iV (fi (fun j => (fun x : Nd => decide (a ∈ x.kd)) (nth t.nd j)) 0 t.nd.length))]]⟩ : Blk) ∧ H 7 = (⟨w + 1, true, false, 3, 1, (List.map cI (out ++ [(fi (fun j => (fun x : Nd => decide (a ∈ x.kd)) (nth t.nd j)) 0 t.nd.length)]))⟩ : Blk) ∧ True) ?_ ?_
  ·
   unfold r70_4
   refine R_mv t5 ?_
   refine R_load_mp (v := (iV (fi (fun j => (fun x : Nd => decide (a ∈ x.kd)) (nth t.nd j)) 0 t.nd.length))) t3 h3 (by first | rfl | simp [ldB, ldV, Blk.own, V.one]) ?_
   refine R_bslice (qs := [(0, (iV (fi (fun j => (fun x : Nd => decide (a ∈ x.kd)) (nth t.nd j)) 0 t.nd.length)))]) (rows := [[(iV (fi (fun j => (fun x : Nd => decide (a ∈ x.kd)) (nth t.nd j)) 0 t.nd.length))]]) (mcons (congrArg (fun v => (0, v)) (@rfl V (iV (fi (fun j => (fun x : Nd => decide (a ∈ x.kd)) (nth t.nd j)) 0 t.nd.length)))) rfl) rfl ?_
   refine R_append1 (l := out) (f := cI) (x := ((fi (fun j => (fun x : Nd => decide (a ∈ x.kd)) (nth t.nd j)) 0 t.nd.length))) (@rfl V (V.ms 7 w 0 (out.length))) h7 (by first | rfl | simp | omega) (@rfl V (V.sl [[(iV (fi (fun j => (fun x : Nd => decide (a ∈ x.kd)) (nth t.nd j)) 0 t.nd.length))]])) rfl rfl (by omega) (by omega) ?_
   refine R_mv (@rfl V (V.ms 7 (w + 1) 0 (out.length + 1))) ?_
   exact R_nil ⟨t2, t3, rfl, h2, h3, rfl, trivial⟩
  intro T H ⟨t2, t3, t5, h2, h3, h7, _⟩
  refine n4 _ _ ?_
  refine p12 _ _ _ ?_ ⟨(par t a), (f - 1), (w + 1), (out ++ [par t a]), rfl, t2, t3, (Eq.trans t5 (by first | rfl | simp)), h2, (Eq.trans h3 (by first | rfl | simp)), (Eq.trans h7 (by first | rfl | simp)), ?_, ?_, ?_⟩
  · have := hu.pos d1; omega
  · exact (hu.par hv d1).1
  · rw [hc, up_go (hu.pos d1) d1]; conv => lhs; rw [List.drop_succ_cons, List.drop_zero, up_head t (f - 1) (par t a)]
    simp
  · have := hu.pos d1; rw [List.length_append]; simp; omega
 have d1 : a = 0 := Decidable.not_not.1 c3
 refine W_seq_exit ?_
 refine p32 _ _ _ ?_
 refine x1 _ _ ?_
 refine .done ?_
 refine W_seq_regc (fun T H => T 5 = (V.ms 7 w 0 (out.length)) ∧ H 2 = (⟨1, true, false, 24, 1, [[(V.sl (List.map cN (t.nd)))]]⟩ : Blk) ∧ H 3 = (⟨1, true, false, 3, 1, [[(iV (a))]]⟩ : Blk) ∧ H 7 = (⟨w, true, false, 3, 1, (List.map cI (out.reverse))⟩ : Blk) ∧ True) ?_ ?_
 ·
  unfold r70_5
  refine R_mv t5 ?_
  refine R_callE (evcons (@rfl V (V.ms 7 w 0 (out.length))) evnil) (revcI7_E out w false _ (show _ = (⟨w, true, false, 3, 1, (List.map cI (out))⟩ : Blk) from h7) (by omega)) ?_
  exact R_nil ⟨t5, h2, h3, rfl, trivial⟩
 intro T H ⟨t5, h2, h3, h7, _⟩
 refine W_seq_regc (fun T H => T 4 = (V.ms 7 w 0 (out.length)) ∧ H 2 = (⟨1, true, false, 24, 1, [[(V.sl (List.map cN (t.nd)))]]⟩ : Blk) ∧ H 3 = (⟨1, true, false, 3, 1, [[(iV (a))]]⟩ : Blk) ∧ H 7 = (⟨w, true, false, 3, 1, (List.map cI (out.reverse))⟩ : Blk) ∧ True) ?_ ?_
 ·
  unfold r70_6
  refine R_mv t5 ?_
  refine R_mv (@rfl V (V.ms 7 w 0 (out.length))) ?_
  exact R_nil ⟨rfl, h2, h3, h7, trivial⟩
 intro T H ⟨t4, h2, h3, h7, _⟩
 refine W_ret ?_
 refine Ret_1 t4 (fz_ms h7 (by first | rfl | simp) (l := out.reverse) rfl (by first | rfl | simp | omega) (fun _ => by simp) ?_)
 · unfold pth; rw [hc, d1, up_zero]; simp
end Go.Proofs.YtmnjchcoigbngaaGreat


namespace Go.Proofs.YtmnjchcoigbngaaGreat
open Go Go.Proofs
theorem common_pure (a b : List Int) : PureC Tryz.prog 71 [(V.sl (List.map cI (a))), (V.sl (List.map cI (b)))] (iV ((cmn a b : Nat) : Int)) := by
 refine pure_of_Wb true 6 Tryz.func71 s71_ok (by kernel_rfl) (by simp [s71]) (by simp) (by simp) fun hB => ?_
 simp only [bnd_map, bnd_int, bnd_bool, bnd_str, bnd_agg, bnd_pp, bnd_nil, bnd_cons, implies_true, and_true, true_and] at hB
 unfold s71
 dsimp only
 refine W_seq_regc (fun T H => T 0 = (V.sl (List.map cI (a))) ∧ T 1 = (V.sl (List.map cI (b))) ∧ True) ?_ ?_
 ·
  unfold r71_0
  refine R_mv (@rfl V (iV (0 : Int))) ?_
  exact R_nil ⟨rfl, rfl, trivial⟩
 intro T H ⟨t0, t1, _⟩
 refine W_seq_seq ?_
 refine W_seq_regc (fun T H => T 0 = (V.sl (List.map cI (a))) ∧ T 1 = (V.sl (List.map cI (b))) ∧ T 10 = (iV ((min a.length b.length : Nat) : Int)) ∧ T 11 = (iV (0 : Int)) ∧ True) ?_ ?_
 ·
  unfold r71_1
  refine R_mv t0 ?_
  refine R_len (@rfl V (V.sl (List.map cI (a)))) ?_
  refine R_mv t1 ?_
  refine R_len (@rfl V (V.sl (List.map cI (b)))) ?_
  refine R_mnN (m := a.length) (n := b.length) (@rfl V (iV ((a.length : Nat) : Int))) (@rfl V (iV ((b.length : Nat) : Int))) ?_
  refine R_mv (@rfl V (iV (0 : Int))) ?_
  exact R_nil ⟨t0, t1, rfl, rfl, trivial⟩
 intro T H ⟨t0, t1, t10, t11, _⟩
 refine W_seq_blockg fun Q1 n1 x1 y1 z1 => ?_
 refine W_loop (fun mm T H => ∃ (k : Nat), mm = (min a.length b.length) - k ∧ T 0 = (V.sl (List.map cI (a))) ∧ T 1 = (V.sl (List.map cI (b))) ∧ T 10 = (iV ((min a.length b.length : Nat) : Int)) ∧ T 11 = (iV ((k : Nat) : Int)) ∧ (k ≤ min a.length b.length) ∧ (k ≤ cmn a b)) ?_ ?_
 ·
  refine ⟨_, 0, rfl, t0, t1, t10, (Eq.trans t11 (by first | rfl | simp)), ?_, ?_⟩
  · omega
  · exact Nat.zero_le _
 intro mm T H ⟨k, hmm, t0, t1, t10, t11, hk, hc⟩ Q2 p12 p22 p32
 unfold b71_0
 refine W_seq_regc (fun T H => T 0 = (V.sl (List.map cI (a))) ∧ T 1 = (V.sl (List.map cI (b))) ∧ T 10 = (iV ((min a.length b.length : Nat) : Int)) ∧ T 11 = (iV ((k : Nat) : Int)) ∧ T 12 = (V.bool (decide (((k : Nat) : Int) < ((min a.length b.length : Nat) : Int)))) ∧ True) ?_ ?_
 ·
  unfold r71_2
  refine R_lss (x := ((k : Nat) : Int)) (y := ((min a.length b.length : Nat) : Int)) t11 t10 ?_
  exact R_nil ⟨t0, t1, t10, t11, rfl, trivial⟩
 intro T H ⟨t0, t1, t10, t11, t12, _⟩
 refine W_seq_if (p := ((k : Nat) : Int) < ((min a.length b.length : Nat) : Int)) t12 (fun c3 => ?_) (fun c3 => ?_)
 ·
  refine W_seq_skip ?_
  refine W_seq_blockg fun Q4 n4 x4 y4 z4 => ?_
  refine W_seq_regc (fun T H => T 0 = (V.sl (List.map cI (a))) ∧ T 1 = (V.sl (List.map cI (b))) ∧ T 5 = (iV ((k : Nat) : Int)) ∧ T 10 = (iV ((min a.length b.length : Nat) : Int)) ∧ T 11 = (iV ((k : Nat) : Int)) ∧ True) ?_ ?_
  ·
   unfold r71_3
   refine R_mv t11 ?_
   refine R_mv (@rfl V (iV ((k : Nat) : Int))) ?_
   exact R_nil ⟨t0, t1, rfl, t10, t11, trivial⟩
  intro T H ⟨t0, t1, t5, t10, t11, _⟩
  refine W_seq_regc (fun T H => T 0 = (V.sl (List.map cI (a))) ∧ T 1 = (V.sl (List.map cI (b))) ∧ T 5 = (iV ((k : Nat) : Int)) ∧ T 10 = (iV ((min a.length b.length : Nat) : Int)) ∧ T 11 = (iV ((k : Nat) : Int)) ∧ T 22 = (V.bool (decide (((nth (a) (k))) ≠ ((nth (b) (k)))))) ∧ True) ?_ ?_
  ·
   unfold r71_4
   refine R_mv t0 ?_
   refine R_mv t5 ?_
   refine R_idx (i := k) (@rfl V (V.sl (List.map cI (a)))) (@rfl V (iV ((k : Nat) : Int))) (by omega) rfl ?_
   refine R_load_pp (v := (iV ((nth (a) (k))))) (@rfl V (V.pp [(iV ((nth (a) (k))))])) (by first | rfl | simp [ldV]) ?_
   refine R_mv t1 ?_
   refine R_mv t5 ?_
   refine R_idx (i := k) (@rfl V (V.sl (List.map cI (b)))) (@rfl V (iV ((k : Nat) : Int))) (by omega) rfl ?_
   refine R_load_pp (v := (iV ((nth (b) (k))))) (@rfl V (V.pp [(iV ((nth (b) (k))))])) (by first | rfl | simp [ldV]) ?_
   refine R_neq (x := ((nth (a) (k)))) (y := ((nth (b) (k)))) (@rfl V (iV ((nth (a) (k))))) (@rfl V (iV ((nth (b) (k))))) ?_
   exact R_nil ⟨t0, t1, t5, t10, t11, rfl, trivial⟩
  intro T H ⟨t0, t1, t5, t10, t11, t22, _⟩
  refine W_if (p := ((nth (a) (k))) ≠ ((nth (b) (k)))) t22 (fun c5 => ?_) (fun c5 => ?_)
  ·
   refine W_seq_regc (fun T H => T 4 = (iV ((k : Nat) : Int)) ∧ True) ?_ ?_
   ·
    unfold r71_5
    refine R_mv t5 ?_
    refine R_mv (@rfl V (iV ((k : Nat) : Int))) ?_
    exact R_nil ⟨rfl, trivial⟩
   intro T H ⟨t4, _⟩
   refine W_ret ?_
   refine y4 _ _ ?_
   refine p22 _ _ ?_
   refine y1 _ _ ?_
   refine Ret_1 t4 (fz_int ?_)
   · rw [cmn_at hc (by omega)]
  refine W_skip ?_
  refine n4 _ _ ?_
  refine .done ?_
  refine W_regc (fun T H => T 0 = (V.sl (List.map cI (a))) ∧ T 1 = (V.sl (List.map cI (b))) ∧ T 10 = (iV ((min a.length b.length : Nat) : Int)) ∧ T 11 = (iV ((k + 1 : Nat) : Int)) ∧ True) ?_ ?_
  ·
   unfold r71_6
   refine R_addN (m := k) (n := 1) t11 (@rfl V (iV ((1 : Nat) : Int))) (by omega) ?_
   refine R_mv (@rfl V (iV ((k + 1 : Nat) : Int))) ?_
   exact R_nil ⟨t0, t1, t10, rfl, trivial⟩
  intro T H ⟨t0, t1, t10, t11, _⟩
  refine p12 _ _ _ ?_ ⟨(k + 1), rfl, t0, t1, t10, (Eq.trans t11 (by first | rfl | simp)), ?_, ?_⟩
  · omega
  · omega
  · exact cmn_next hc (by omega) (by omega) (by omega)
 refine W_seq_exit ?_
 refine p32 _ _ _ ?_
 refine x1 _ _ ?_
 refine .done ?_
 refine W_seq_regc (fun T H => T 4 = (iV ((min a.length b.length : Nat) : Int)) ∧ True) ?_ ?_
 ·
  unfold r71_7
  refine R_mv t0 ?_
  refine R_len (@rfl V (V.sl (List.map cI (a)))) ?_
  refine R_mv t1 ?_
  refine R_len (@rfl V (V.sl (List.map cI (b)))) ?_
  refine R_mnN (m := a.length) (n := b.length) (@rfl V (iV ((a.length : Nat) : Int))) (@rfl V (iV ((b.length : Nat) : Int))) ?_
  refine R_mv (@rfl V (iV ((min a.length b.length : Nat) : Int))) ?_
  exact R_nil ⟨rfl, trivial⟩
 intro T H ⟨t4, _⟩
 refine W_ret ?_
 refine Ret_1 t4 (fz_int ?_)
 · rw [cmn_at hc (by omega)]; omega
end Go.Proofs.YtmnjchcoigbngaaGreat


namespace Go.Proofs.YtmnjchcoigbngaaGreat
open Go Go.Proofs
theorem dcommon_pure (t : Dt) (a b : Int) (hb : Bd t) : PureC Tryz.prog 28 [(V.agg [(V.sl (List.map cN (t.nd)))]), (iV (a)), (iV (b))] (V.tup [(V.sl (List.map cI (cmR t a b))), (iV (cmE t a b))]) := by
 refine pure_of_Wb true 6 Tryz.func28 s28_ok (by kernel_rfl) (by simp [s28]) (by simp) (by simp) fun hB => ?_
 simp only [bnd_map, bnd_int, bnd_bool, bnd_str, bnd_agg, bnd_pp, bnd_nil, bnd_cons, implies_true, and_true, true_and] at hB
 unfold s28
 dsimp only
 refine W_seq_regc (fun T H => T 1 = (iV (a)) ∧ T 2 = (iV (b)) ∧ T 3 = (V.mp 3 1 0 0) ∧ H 3 = (⟨1, true, false, 24, 1, [[(V.sl (List.map cN (t.nd)))]]⟩ : Blk) ∧ True) ?_ ?_
 ·
  unfold r28_0
  refine R_box (i := 3) (n := 0) (m := 1) (cs := [(V.sl (List.map cN (t.nd)))]) rfl (congrArg Blk.ver rfl) (@rfl V (V.agg [(V.sl (List.map cN (t.nd)))])) rfl rfl ?_
  refine R_mv (@rfl V V.nilsl) ?_
  refine R_mv (@rfl V (iV (0 : Int))) ?_
  exact R_nil ⟨rfl, rfl, rfl, rfl, trivial⟩
 intro T H ⟨t1, t2, t3, h3, _⟩
 refine W_seq_seq ?_
 refine W_seq_regc (fun T H => T 1 = (iV (a)) ∧ T 2 = (iV (b)) ∧ T 3 = (V.mp 3 1 0 0) ∧ T 8 = (iV (dvE t)) ∧ H 3 = (⟨1, true, false, 24, 1, [[(V.sl (List.map cN (t.nd)))]]⟩ : Blk) ∧ True) ?_ ?_
 ·
  unfold r28_1
  refine R_load_mp (v := (V.agg [(V.sl (List.map cN (t.nd)))])) t3 h3 (by first | rfl | simp [ldB, ldV, Blk.own, V.one]) ?_
  refine R_call (evcons (@rfl V (V.agg [(V.sl (List.map cN (t.nd)))])) evnil) (dvalid_pure t hb) (fzv_mapcanon _ _ (by simp [-List.map_take, -List.map_drop, -List.map_append, -List.map_reverse])) (by simp [-List.map_take, -List.map_drop, -List.map_append, -List.map_reverse]) (Or.inl (by simp [-List.map_take, -List.map_drop, -List.map_append, -List.map_reverse])) ?_
  refine R_mv (@rfl V (iV (dvE t))) ?_
  exact R_nil ⟨t1, t2, t3, rfl, h3, trivial⟩
 intro T H ⟨t1, t2, t3, t8, h3, _⟩
 refine W_seq_seq ?_
 refine W_seq_regc (fun T H => T 1 = (iV (a)) ∧ T 2 = (iV (b)) ∧ T 3 = (V.mp 3 1 0 0) ∧ T 8 = (iV (dvE t)) ∧ T 17 = (V.bool (decide ((dvE t) ≠ (0 : Int)))) ∧ H 3 = (⟨1, true, false, 24, 1, [[(V.sl (List.map cN (t.nd)))]]⟩ : Blk) ∧ True) ?_ ?_
 ·
  unfold r28_2
  refine R_mv t8 ?_
  refine R_neq (x := (dvE t)) (y := (0 : Int)) (@rfl V (iV (dvE t))) (@rfl V (iV (0 : Int))) ?_
  exact R_nil ⟨t1, t2, t3, t8, rfl, h3, trivial⟩
 intro T H ⟨t1, t2, t3, t8, t17, h3, _⟩
 refine W_seq_if (p := (dvE t) ≠ (0 : Int)) t17 (fun c1 => ?_) (fun c1 => ?_)
 ·
  have d0 : dvE t ≠ 0 := c1
  refine W_seq_seq ?_
  refine W_seq_regc (fun T H => T 6 = V.nilsl ∧ T 7 = (iV (dvE t)) ∧ H 3 = (⟨1, true, false, 24, 1, [[(V.sl (List.map cN (t.nd)))]]⟩ : Blk) ∧ True) ?_ ?_
  ·
   unfold r28_3
   refine R_mv t8 ?_
   refine R_mv (@rfl V V.nilsl) ?_
   refine R_mv (@rfl V (iV (dvE t))) ?_
   exact R_nil ⟨rfl, rfl, h3, trivial⟩
  intro T H ⟨t6, t7, h3, _⟩
  refine W_seq_ret ?_
  refine Ret_2 t6 t7 (fz_nil ?_) (fz_int ?_)
  · unfold cmR; rw [if_neg (by unfold cmE; rw [if_pos d0]; exact d0)]
  · unfold cmE; rw [if_pos d0]
 have hv : dvE t = 0 := by omega
 refine W_seq_skip ?_
 refine W_seq_seq ?_
 refine W_seq_regc (fun T H => T 1 = (iV (a)) ∧ T 2 = (iV (b)) ∧ T 3 = (V.mp 3 1 0 0) ∧ T 21 = (V.agg [(iV (a)), (iV (b))]) ∧ T 22 = (iV (0 : Int)) ∧ H 3 = (⟨1, true, false, 24, 1, [[(V.sl (List.map cN (t.nd)))]]⟩ : Blk) ∧ True) ?_ ?_
 ·
  unfold r28_4
  refine R_mv t1 ?_
  refine R_mv t2 ?_
  refine R_build (qs := [(0, 1, (iV (a))), (1, 1, (iV (b)))]) (cs := [(iV (a)), (iV (b))]) (mcons (congrArg (fun v => (0, 1, v)) (@rfl V (iV (a)))) (mcons (congrArg (fun v => (1, 1, v)) (@rfl V (iV (b)))) rfl)) rfl ?_
  refine R_mv (@rfl V (iV (0 : Int))) ?_
  exact R_nil ⟨t1, t2, t3, rfl, rfl, h3, trivial⟩
 intro T H ⟨t1, t2, t3, t21, t22, h3, _⟩
 refine W_seq_blockg fun Q2 n2 x2 y2 z2 => ?_
 refine W_loop (fun mm T H => ∃ (k : Nat), mm = (((2 : Int)).toNat) - k ∧ T 1 = (iV (a)) ∧ T 2 = (iV (b)) ∧ T 3 = (V.mp 3 1 0 0) ∧ T 21 = (V.agg [(iV (a)), (iV (b))]) ∧ T 22 = (iV ((k : Nat) : Int)) ∧ H 3 = (⟨1, true, false, 24, 1, [[(V.sl (List.map cN (t.nd)))]]⟩ : Blk) ∧ (k ≤ ((2 : Int)).toNat) ∧ (∀ j, j < k → 0 ≤ nth [a, b] j ∧ nth [a, b] j < (t.nd.length : Int))) ?_ ?_
 ·
  refine ⟨_, 0, rfl, t1, t2, t3, t21, (Eq.trans t22 (by first | rfl | simp)), h3, ?_, ?_⟩
  · omega
  · intro j hj; omega
 intro mm T H ⟨k, hmm, t1, t2, t3, t21, t22, h3, hk, hq⟩ Q3 p13 p23 p33
 unfold b28_0
 refine W_seq_regc (fun T H => T 1 = (iV (a)) ∧ T 2 = (iV (b)) ∧ T 3 = (V.mp 3 1 0 0) ∧ T 21 = (V.agg [(iV (a)), (iV (b))]) ∧ T 22 = (iV ((k : Nat) : Int)) ∧ T 23 = (V.bool (decide (((k : Nat) : Int) < (2 : Int)))) ∧ H 3 = (⟨1, true, false, 24, 1, [[(V.sl (List.map cN (t.nd)))]]⟩ : Blk) ∧ True) ?_ ?_
 ·
  unfold r28_5
  refine R_lss (x := ((k : Nat) : Int)) (y := (2 : Int)) t22 (@rfl V (iV (2 : Int))) ?_
  exact R_nil ⟨t1, t2, t3, t21, t22, rfl, h3, trivial⟩
 intro T H ⟨t1, t2, t3, t21, t22, t23, h3, _⟩
 refine W_seq_if (p := ((k : Nat) : Int) < (2 : Int)) t23 (fun c4 => ?_) (fun c4 => ?_)
 ·
  refine W_seq_skip ?_
  refine W_seq_blockg fun Q5 n5 x5 y5 z5 => ?_
  refine W_seq_regc (fun T H => T 1 = (iV (a)) ∧ T 2 = (iV (b)) ∧ T 3 = (V.mp 3 1 0 0) ∧ T 10 = (iV ((nth [(a), (b)] (k)))) ∧ T 21 = (V.agg [(iV (a)), (iV (b))]) ∧ T 22 = (iV ((k : Nat) : Int)) ∧ H 3 = (⟨1, true, false, 24, 1, [[(V.sl (List.map cN (t.nd)))]]⟩ : Blk) ∧ True) ?_ ?_
  ·
   unfold r28_6
   refine R_aidxI (l := [(a), (b)]) (i := k) t21 t22 (by rfl) (by first | omega | (rw [p5]; omega)) ?_
   refine R_mv (@rfl V (iV ((nth [(a), (b)] (k))))) ?_
   exact R_nil ⟨t1, t2, t3, rfl, t21, t22, h3, trivial⟩
  intro T H ⟨t1, t2, t3, t10, t21, t22, h3, _⟩
  refine W_seq_regc (fun T H => T 1 = (iV (a)) ∧ T 2 = (iV (b)) ∧ T 3 = (V.mp 3 1 0 0) ∧ T 21 = (V.agg [(iV (a)), (iV (b))]) ∧ T 22 = (iV ((k : Nat) : Int)) ∧ T 33 = (V.bool (decide ((((nth [(a), (b)] (k))) < (0 : Int)) ∨ (((t.nd.length : Nat) : Int) ≤ ((nth [(a), (b)] (k))))))) ∧ H 3 = (⟨1, true, false, 24, 1, [[(V.sl (List.map cN (t.nd)))]]⟩ : Blk) ∧ True) ?_ ?_
  ·
   unfold r28_7
   refine R_mv t10 ?_
   refine R_lss (x := ((nth [(a), (b)] (k)))) (y := (0 : Int)) (@rfl V (iV ((nth [(a), (b)] (k))))) (@rfl V (iV (0 : Int))) ?_
   refine R_mv (@rfl V (V.bool (decide (((nth [(a), (b)] (k))) < (0 : Int))))) ?_
   refine Ops_seg 6 (fun T H => T 1 = (iV (a)) ∧ T 2 = (iV (b)) ∧ T 3 = (V.mp 3 1 0 0) ∧ T 21 = (V.agg [(iV (a)), (iV (b))]) ∧ T 22 = (iV ((k : Nat) : Int)) ∧ T 33 = (V.bool (decide ((((nth [(a), (b)] (k))) < (0 : Int)) ∨ (((t.nd.length : Nat) : Int) ≤ ((nth [(a), (b)] (k))))))) ∧ H 3 = (⟨1, true, false, 24, 1, [[(V.sl (List.map cN (t.nd)))]]⟩ : Blk) ∧ True) ?_ ?_
   ·
    by_cases g6 : ((nth [(a), (b)] (k))) < (0 : Int)
    ·
     refine G_no (Eq.trans (@rfl V (V.bool (decide (((nth [(a), (b)] (k))) < (0 : Int))))) (bdT g6)) (by decide) ?_
     refine G_no (Eq.trans (@rfl V (V.bool (decide (((nth [(a), (b)] (k))) < (0 : Int))))) (bdT g6)) (by decide) ?_
     refine G_no (Eq.trans (@rfl V (V.bool (decide (((nth [(a), (b)] (k))) < (0 : Int))))) (bdT g6)) (by decide) ?_
     refine G_no (Eq.trans (@rfl V (V.bool (decide (((nth [(a), (b)] (k))) < (0 : Int))))) (bdT g6)) (by decide) ?_
     refine G_no (Eq.trans (@rfl V (V.bool (decide (((nth [(a), (b)] (k))) < (0 : Int))))) (bdT g6)) (by decide) ?_
     refine R_pickT (Eq.trans (@rfl V (V.bool (decide (((nth [(a), (b)] (k))) < (0 : Int))))) (bdT g6)) (@rfl V (V.bool true)) ?_
     exact ⟨t1, t2, t3, t21, t22, (Eq.trans (@rfl V (V.bool true)) (dec_orT g6)), h3, trivial⟩
    ·
     refine G_yes (Eq.trans (@rfl V (V.bool (decide (((nth [(a), (b)] (k))) < (0 : Int))))) (bdF g6)) ?_
     refine R_mv t10 ?_
     refine G_yes (Eq.trans (@rfl V (V.bool (decide (((nth [(a), (b)] (k))) < (0 : Int))))) (bdF g6)) ?_
     refine R_fld_mp (o' := 0) t3 h3 (by first | rfl | simp [okB, Blk.own]) rfl ?_
     refine G_yes (Eq.trans (@rfl V (V.bool (decide (((nth [(a), (b)] (k))) < (0 : Int))))) (bdF g6)) ?_
     refine R_load_mp (v := (V.sl (List.map cN (t.nd)))) (@rfl V (V.mp 3 1 0 0)) h3 (by first | rfl | simp [ldB, ldV, Blk.own, V.one]) ?_
     refine G_yes (Eq.trans (@rfl V (V.bool (decide (((nth [(a), (b)] (k))) < (0 : Int))))) (bdF g6)) ?_
     refine R_len (@rfl V (V.sl (List.map cN (t.nd)))) ?_
     refine G_yes (Eq.trans (@rfl V (V.bool (decide (((nth [(a), (b)] (k))) < (0 : Int))))) (bdF g6)) ?_
     refine R_geq (x := ((nth [(a), (b)] (k)))) (y := ((t.nd.length : Nat) : Int)) (@rfl V (iV ((nth [(a), (b)] (k))))) (@rfl V (iV ((t.nd.length : Nat) : Int))) ?_
     refine R_pickF (Eq.trans (@rfl V (V.bool (decide (((nth [(a), (b)] (k))) < (0 : Int))))) (bdF g6)) (@rfl V (V.bool (decide (((t.nd.length : Nat) : Int) ≤ ((nth [(a), (b)] (k))))))) ?_
     exact ⟨t1, t2, t3, t21, t22, (Eq.trans (@rfl V (V.bool (decide (((t.nd.length : Nat) : Int) ≤ ((nth [(a), (b)] (k))))))) (dec_orF g6)), h3, trivial⟩
   intro T H ⟨t1, t2, t3, t21, t22, t33, h3, _⟩
   exact R_nil ⟨t1, t2, t3, t21, t22, t33, h3, trivial⟩
  intro T H ⟨t1, t2, t3, t21, t22, t33, h3, _⟩
  refine W_if (p := (((nth [(a), (b)] (k))) < (0 : Int)) ∨ (((t.nd.length : Nat) : Int) ≤ ((nth [(a), (b)] (k))))) t33 (fun c7 => ?_) (fun c7 => ?_)
  ·
   have d3 : a < 0 ∨ (t.nd.length : Int) ≤ a ∨ b < 0 ∨ (t.nd.length : Int) ≤ b := by
     rcases (show k = 0 ∨ k = 1 by omega) with e | e
     · subst e; replace c7 : a < 0 ∨ (t.nd.length : Int) ≤ a := c7; omega
     · subst e; replace c7 : b < 0 ∨ (t.nd.length : Int) ≤ b := c7; omega
   refine W_seq_regc (fun T H => T 6 = V.nilsl ∧ T 7 = (iV (2 : Int)) ∧ H 3 = (⟨1, true, false, 24, 1, [[(V.sl (List.map cN (t.nd)))]]⟩ : Blk) ∧ True) ?_ ?_
   ·
    unfold r28_8
    refine R_mv (@rfl V V.nilsl) ?_
    refine R_mv (@rfl V (iV (2 : Int))) ?_
    exact R_nil ⟨rfl, rfl, h3, trivial⟩
   intro T H ⟨t6, t7, h3, _⟩
   refine W_ret ?_
   refine y5 _ _ ?_
   refine p23 _ _ ?_
   refine y2 _ _ ?_
   refine Ret_2 t6 t7 (fz_nil ?_) (fz_int ?_)
   · unfold cmR; rw [if_neg (by unfold cmE; rw [if_neg (by omega), if_pos d3]; decide)]
   · unfold cmE; rw [if_neg (by omega), if_pos d3]
  refine W_skip ?_
  refine n5 _ _ ?_
  refine .done ?_
  refine W_regc (fun T H => T 1 = (iV (a)) ∧ T 2 = (iV (b)) ∧ T 3 = (V.mp 3 1 0 0) ∧ T 21 = (V.agg [(iV (a)), (iV (b))]) ∧ T 22 = (iV ((k + 1 : Nat) : Int)) ∧ H 3 = (⟨1, true, false, 24, 1, [[(V.sl (List.map cN (t.nd)))]]⟩ : Blk) ∧ True) ?_ ?_
  ·
   unfold r28_9
   refine R_addN (m := k) (n := 1) t22 (@rfl V (iV ((1 : Nat) : Int))) (by first | omega | (rw [p5]; omega)) ?_
   refine R_mv (@rfl V (iV ((k + 1 : Nat) : Int))) ?_
   exact R_nil ⟨t1, t2, t3, t21, rfl, h3, trivial⟩
  intro T H ⟨t1, t2, t3, t21, t22, h3, _⟩
  refine p13 _ _ _ ?_ ⟨(k + 1), rfl, t1, t2, t3, t21, (Eq.trans t22 (by first | rfl | simp)), h3, ?_, ?_⟩
  · omega
  · omega
  · intro i hi
    by_cases e : i = k
    · subst e; omega
    · exact hq i (by omega)
 have e1 := hq 0 (by omega)
 have e2 := hq 1 (by omega)
 replace e1 : 0 ≤ a ∧ a < (t.nd.length : Int) := e1
 replace e2 : 0 ≤ b ∧ b < (t.nd.length : Int) := e2
 refine W_seq_exit ?_
 refine p33 _ _ _ ?_
 refine x2 _ _ ?_
 refine .done ?_
 refine W_seq_blockg fun Q8 n8 x8 y8 z8 => ?_
 refine W_seq_regc (fun T H => T 1 = (iV (a)) ∧ T 2 = (iV (b)) ∧ T 3 = (V.mp 3 1 0 0) ∧ T 35 = (V.bool ((((!((nth (t.nd) (a).toNat)).lf)) || ((!((nth (t.nd) (b).toNat)).lf))))) ∧ H 3 = (⟨1, true, false, 24, 1, [[(V.sl (List.map cN (t.nd)))]]⟩ : Blk) ∧ True) ?_ ?_
 ·
  unfold r28_10
  refine R_fld_mp (o' := 0) t3 h3 (by first | rfl | simp [okB, Blk.own]) rfl ?_
  refine R_load_mp (v := (V.sl (List.map cN (t.nd)))) (@rfl V (V.mp 3 1 0 0)) h3 (by first | rfl | simp [ldB, ldV, Blk.own, V.one]) ?_
  refine R_mv t1 ?_
  refine R_idxI (i := (a)) (@rfl V (V.sl (List.map cN (t.nd)))) (@rfl V (iV (a))) (by first | omega | (rw [p5]; omega)) (by first | omega | (rw [p5]; omega)) rfl ?_
  refine R_fld_pp (cs' := [(V.bool (((nth (t.nd) (a).toNat)).lf)), (V.sl (List.map cI (((nth (t.nd) (a).toNat)).ac))), (V.sl (List.map cI (((nth (t.nd) (a).toNat)).sf))), (V.sl (List.map cL (((nth (t.nd) (a).toNat)).ou))), (V.sl (List.map cI (((nth (t.nd) (a).toNat)).kd)))]) (@rfl V (V.pp [(V.bool (((nth (t.nd) (a).toNat)).lf)), (V.sl (List.map cI (((nth (t.nd) (a).toNat)).ac))), (V.sl (List.map cI (((nth (t.nd) (a).toNat)).sf))), (V.sl (List.map cL (((nth (t.nd) (a).toNat)).ou))), (V.sl (List.map cI (((nth (t.nd) (a).toNat)).kd)))])) rfl ?_
  refine R_load_pp (v := (V.bool (((nth (t.nd) (a).toNat)).lf))) (@rfl V (V.pp [(V.bool (((nth (t.nd) (a).toNat)).lf)), (V.sl (List.map cI (((nth (t.nd) (a).toNat)).ac))), (V.sl (List.map cI (((nth (t.nd) (a).toNat)).sf))), (V.sl (List.map cL (((nth (t.nd) (a).toNat)).ou))), (V.sl (List.map cI (((nth (t.nd) (a).toNat)).kd)))])) (by first | rfl | simp [ldV]) ?_
  refine R_notb (@rfl V (V.bool (((nth (t.nd) (a).toNat)).lf))) ?_
  refine R_mv (@rfl V (V.bool ((!((nth (t.nd) (a).toNat)).lf)))) ?_
  refine Ops_seg 8 (fun T H => T 1 = (iV (a)) ∧ T 2 = (iV (b)) ∧ T 3 = (V.mp 3 1 0 0) ∧ T 51 = (V.bool ((((!((nth (t.nd) (a).toNat)).lf)) || ((!((nth (t.nd) (b).toNat)).lf))))) ∧ H 3 = (⟨1, true, false, 24, 1, [[(V.sl (List.map cN (t.nd)))]]⟩ : Blk) ∧ True) ?_ ?_
  ·
   by_cases g9 : ((!((nth (t.nd) (a).toNat)).lf)) = true
   ·
    refine G_no (Eq.trans (@rfl V (V.bool ((!((nth (t.nd) (a).toNat)).lf)))) (bbT g9)) (by decide) ?_
    refine G_no (Eq.trans (@rfl V (V.bool ((!((nth (t.nd) (a).toNat)).lf)))) (bbT g9)) (by decide) ?_
    refine G_no (Eq.trans (@rfl V (V.bool ((!((nth (t.nd) (a).toNat)).lf)))) (bbT g9)) (by decide) ?_
    refine G_no (Eq.trans (@rfl V (V.bool ((!((nth (t.nd) (a).toNat)).lf)))) (bbT g9)) (by decide) ?_
    refine G_no (Eq.trans (@rfl V (V.bool ((!((nth (t.nd) (a).toNat)).lf)))) (bbT g9)) (by decide) ?_
    refine G_no (Eq.trans (@rfl V (V.bool ((!((nth (t.nd) (a).toNat)).lf)))) (bbT g9)) (by decide) ?_
    refine G_no (Eq.trans (@rfl V (V.bool ((!((nth (t.nd) (a).toNat)).lf)))) (bbT g9)) (by decide) ?_
    refine R_pickT (Eq.trans (@rfl V (V.bool ((!((nth (t.nd) (a).toNat)).lf)))) (bbT g9)) (@rfl V (V.bool true)) ?_
    exact ⟨t1, t2, t3, (Eq.trans (@rfl V (V.bool true)) (borT g9)), h3, trivial⟩
   ·
    refine G_yes (Eq.trans (@rfl V (V.bool ((!((nth (t.nd) (a).toNat)).lf)))) (bbF g9)) ?_
    refine R_fld_mp (o' := 0) t3 h3 (by first | rfl | simp [okB, Blk.own]) rfl ?_
    refine G_yes (Eq.trans (@rfl V (V.bool ((!((nth (t.nd) (a).toNat)).lf)))) (bbF g9)) ?_
    refine R_load_mp (v := (V.sl (List.map cN (t.nd)))) (@rfl V (V.mp 3 1 0 0)) h3 (by first | rfl | simp [ldB, ldV, Blk.own, V.one]) ?_
    refine G_yes (Eq.trans (@rfl V (V.bool ((!((nth (t.nd) (a).toNat)).lf)))) (bbF g9)) ?_
    refine R_mv t2 ?_
    refine G_yes (Eq.trans (@rfl V (V.bool ((!((nth (t.nd) (a).toNat)).lf)))) (bbF g9)) ?_
    refine R_idxI (i := (b)) (@rfl V (V.sl (List.map cN (t.nd)))) (@rfl V (iV (b))) (by first | omega | (rw [p5]; omega)) (by first | omega | (rw [p5]; omega)) rfl ?_
    refine G_yes (Eq.trans (@rfl V (V.bool ((!((nth (t.nd) (a).toNat)).lf)))) (bbF g9)) ?_
    refine R_fld_pp (cs' := [(V.bool (((nth (t.nd) (b).toNat)).lf)), (V.sl (List.map cI (((nth (t.nd) (b).toNat)).ac))), (V.sl (List.map cI (((nth (t.nd) (b).toNat)).sf))), (V.sl (List.map cL (((nth (t.nd) (b).toNat)).ou))), (V.sl (List.map cI (((nth (t.nd) (b).toNat)).kd)))]) (@rfl V (V.pp [(V.bool (((nth (t.nd) (b).toNat)).lf)), (V.sl (List.map cI (((nth (t.nd) (b).toNat)).ac))), (V.sl (List.map cI (((nth (t.nd) (b).toNat)).sf))), (V.sl (List.map cL (((nth (t.nd) (b).toNat)).ou))), (V.sl (List.map cI (((nth (t.nd) (b).toNat)).kd)))])) rfl ?_
    refine G_yes (Eq.trans (@rfl V (V.bool ((!((nth (t.nd) (a).toNat)).lf)))) (bbF g9)) ?_
    refine R_load_pp (v := (V.bool (((nth (t.nd) (b).toNat)).lf))) (@rfl V (V.pp [(V.bool (((nth (t.nd) (b).toNat)).lf)), (V.sl (List.map cI (((nth (t.nd) (b).toNat)).ac))), (V.sl (List.map cI (((nth (t.nd) (b).toNat)).sf))), (V.sl (List.map cL (((nth (t.nd) (b).toNat)).ou))), (V.sl (List.map cI (((nth (t.nd) (b).toNat)).kd)))])) (by first | rfl | simp [ldV]) ?_
    refine G_yes (Eq.trans (@rfl V (V.bool ((!((nth (t.nd) (a).toNat)).lf)))) (bbF g9)) ?_
    refine R_notb (@rfl V (V.bool (((nth (t.nd) (b).toNat)).lf))) ?_
    refine R_pickF (Eq.trans (@rfl V (V.bool ((!((nth (t.nd) (a).toNat)).lf)))) (bbF g9)) (@rfl V (V.bool ((!((nth (t.nd) (b).toNat)).lf)))) ?_
    exact ⟨t1, t2, t3, (Eq.trans (@rfl V (V.bool ((!((nth (t.nd) (b).toNat)).lf)))) (borF g9)), h3, trivial⟩
  intro T H ⟨t1, t2, t3, t51, h3, _⟩
  refine R_mv t51 ?_
  exact R_nil ⟨t1, t2, t3, rfl, h3, trivial⟩
 intro T H ⟨t1, t2, t3, t35, h3, _⟩
 refine W_ifb t35 (fun c10 => ?_) (fun c10 => ?_)
 ·
  have d4 : (nth t.nd a.toNat).lf = false ∨ (nth t.nd b.toNat).lf = false := by simpa using c10
  refine W_seq_regc (fun T H => T 6 = V.nilsl ∧ T 7 = (iV (10 : Int)) ∧ H 3 = (⟨1, true, false, 24, 1, [[(V.sl (List.map cN (t.nd)))]]⟩ : Blk) ∧ True) ?_ ?_
  ·
   unfold r28_11
   refine R_mv (@rfl V V.nilsl) ?_
   refine R_mv (@rfl V (iV (10 : Int))) ?_
   exact R_nil ⟨rfl, rfl, h3, trivial⟩
  intro T H ⟨t6, t7, h3, _⟩
  refine W_ret ?_
  refine y8 _ _ ?_
  refine Ret_2 t6 t7 (fz_nil ?_) (fz_int ?_)
  · unfold cmR; rw [if_neg (by unfold cmE; rw [if_neg (by omega), if_neg (by omega), if_pos d4]; decide)]
  · unfold cmE; rw [if_neg (by omega), if_neg (by omega), if_pos d4]
 have d4 : ¬((nth t.nd a.toNat).lf = false ∨ (nth t.nd b.toNat).lf = false) := by simpa using c10
 refine W_seq_regc (fun T H => T 1 = (iV (a)) ∧ T 2 = (iV (b)) ∧ T 3 = (V.mp 3 1 0 0) ∧ T 52 = (V.bool (decide ((a) = (b)))) ∧ H 3 = (⟨1, true, false, 24, 1, [[(V.sl (List.map cN (t.nd)))]]⟩ : Blk) ∧ True) ?_ ?_
 ·
  unfold r28_12
  refine R_mv t1 ?_
  refine R_mv t2 ?_
  refine R_eql (x := (a)) (y := (b)) (@rfl V (iV (a))) (@rfl V (iV (b))) ?_
  refine R_mv (@rfl V (V.bool (decide ((a) = (b))))) ?_
  exact R_nil ⟨t1, t2, t3, rfl, h3, trivial⟩
 intro T H ⟨t1, t2, t3, t52, h3, _⟩
 refine W_if (p := (a) = (b)) t52 (fun c11 => ?_) (fun c11 => ?_)
 ·
  have d5 := c11
  refine W_seq_regc (fun T H => T 6 = V.nilsl ∧ T 7 = (iV (8 : Int)) ∧ H 3 = (⟨1, true, false, 24, 1, [[(V.sl (List.map cN (t.nd)))]]⟩ : Blk) ∧ True) ?_ ?_
  ·
   unfold r28_13
   refine R_mv (@rfl V V.nilsl) ?_
   refine R_mv (@rfl V (iV (8 : Int))) ?_
   exact R_nil ⟨rfl, rfl, h3, trivial⟩
  intro T H ⟨t6, t7, h3, _⟩
  refine W_ret ?_
  refine y8 _ _ ?_
  refine Ret_2 t6 t7 (fz_nil ?_) (fz_int ?_)
  · unfold cmR; rw [if_neg (by unfold cmE; rw [if_neg (by omega), if_neg (by omega), if_neg d4, if_pos d5]; decide)]
  · unfold cmE; rw [if_neg (by omega), if_neg (by omega), if_neg d4, if_pos d5]
 have d5 := c11
 have p6 := pth_len t a
 have p1 := cmn_pos hv e1.1 e1.2 e2.1 e2.2
 have p2 := cmn_spec (pth t a) (pth t b)
 have p3 := pth_rng hv e1.1 e1.2 (show cmn (pth t a) (pth t b) - 1 < (pth t a).length by omega)
 have p4 := hb.sf _ (show (nth (pth t a) (cmn (pth t a) (pth t b) - 1)).toNat < t.nd.length by omega)
 have p5 : (((cmn (pth t a) (pth t b) : Nat) : Int) - (1 : Int)).toNat = cmn (pth t a) (pth t b) - 1 := by omega
 refine W_skip ?_
 refine n8 _ _ ?_
 refine .done ?_
 refine W_seq_regc (fun T H => T 3 = (V.mp 3 1 0 0) ∧ T 11 = (V.sl (List.map cI (pth t ((a))))) ∧ T 12 = (V.sl (List.map cI (pth t ((b))))) ∧ H 3 = (⟨1, true, false, 24, 1, [[(V.sl (List.map cN (t.nd)))]]⟩ : Blk) ∧ True) ?_ ?_
 ·
  unfold r28_14
  refine R_load_mp (v := (V.agg [(V.sl (List.map cN (t.nd)))])) t3 h3 (by first | rfl | simp [ldB, ldV, Blk.own, V.one]) ?_
  refine R_mv t1 ?_
  refine R_call (evcons (@rfl V (V.agg [(V.sl (List.map cN (t.nd)))])) (evcons (@rfl V (iV (a))) evnil)) (path_pure t ((a)) hv hb (by first | omega | assumption) (by first | omega | assumption)) (fzv_mapcanon _ _ (by simp [-List.map_take, -List.map_drop, -List.map_append, -List.map_reverse])) (by simp [-List.map_take, -List.map_drop, -List.map_append, -List.map_reverse]) (Or.inl (by simp [-List.map_take, -List.map_drop, -List.map_append, -List.map_reverse])) ?_
  refine R_load_mp (v := (V.agg [(V.sl (List.map cN (t.nd)))])) t3 h3 (by first | rfl | simp [ldB, ldV, Blk.own, V.one]) ?_
  refine R_mv t2 ?_
  refine R_call (evcons (@rfl V (V.agg [(V.sl (List.map cN (t.nd)))])) (evcons (@rfl V (iV (b))) evnil)) (path_pure t ((b)) hv hb (by first | omega | assumption) (by first | omega | assumption)) (fzv_mapcanon _ _ (by simp [-List.map_take, -List.map_drop, -List.map_append, -List.map_reverse])) (by simp [-List.map_take, -List.map_drop, -List.map_append, -List.map_reverse]) (Or.inl (by simp [-List.map_take, -List.map_drop, -List.map_append, -List.map_reverse])) ?_
  refine R_mv (@rfl V (V.sl (List.map cI (pth t ((a)))))) ?_
  refine R_mv (@rfl V (V.sl (List.map cI (pth t ((b)))))) ?_
  exact R_nil ⟨t3, rfl, rfl, h3, trivial⟩
 intro T H ⟨t3, t11, t12, h3, _⟩
 refine W_seq_regc (fun T H => T 3 = (V.mp 3 1 0 0) ∧ T 11 = (V.sl (List.map cI (pth t ((a))))) ∧ T 13 = (iV ((cmn (pth t ((a))) (pth t ((b))) : Nat) : Int)) ∧ H 3 = (⟨1, true, false, 24, 1, [[(V.sl (List.map cN (t.nd)))]]⟩ : Blk) ∧ True) ?_ ?_
 ·
  unfold r28_15
  refine R_mv t11 ?_
  refine R_mv t12 ?_
  have q12 := cmn_l (pth t ((a))) (pth t ((b)))
  have q13 := cmn_r (pth t ((a))) (pth t ((b)))
  refine R_call (evcons (@rfl V (V.sl (List.map cI (pth t ((a)))))) (evcons (@rfl V (V.sl (List.map cI (pth t ((b)))))) evnil)) (common_pure (pth t ((a))) (pth t ((b)))) (fzv_mapcanon _ _ (by simp [-List.map_take, -List.map_drop, -List.map_append, -List.map_reverse])) (by simp [-List.map_take, -List.map_drop, -List.map_append, -List.map_reverse]) (Or.inl (by simp [-List.map_take, -List.map_drop, -List.map_append, -List.map_reverse])) ?_
  refine R_mv (@rfl V (iV ((cmn (pth t ((a))) (pth t ((b))) : Nat) : Int))) ?_
  exact R_nil ⟨t3, t11, rfl, h3, trivial⟩
 intro T H ⟨t3, t11, t13, h3, _⟩
 have q14 := cmn_l (pth t ((a))) (pth t ((b)))
 have q15 := cmn_r (pth t ((a))) (pth t ((b)))
 refine W_seq_regc (fun T H => T 6 = (V.sl (List.map cI (cat ([((nth (t.nd) ((nth (pth t ((a))) (((cmn (pth t ((a))) (pth t ((b))) : Nat) : Int) - (1 : Int)).toNat)).toNat)).sf])))) ∧ T 7 = (iV (0 : Int)) ∧ H 3 = (⟨1, true, false, 24, 1, [[(V.sl (List.map cN (t.nd)))]]⟩ : Blk) ∧ True) ?_ ?_
 ·
  unfold r28_16
  refine R_fld_mp (o' := 0) t3 h3 (by first | rfl | simp [okB, Blk.own]) rfl ?_
  refine R_load_mp (v := (V.sl (List.map cN (t.nd)))) (@rfl V (V.mp 3 1 0 0)) h3 (by first | rfl | simp [ldB, ldV, Blk.own, V.one]) ?_
  refine R_mv t11 ?_
  refine R_mv t13 ?_
  refine R_sub (x := ((cmn (pth t ((a))) (pth t ((b))) : Nat) : Int)) (y := (1 : Int)) (@rfl V (iV ((cmn (pth t ((a))) (pth t ((b))) : Nat) : Int))) (@rfl V (iV (1 : Int))) (by first | omega | (rw [p5]; omega)) (by first | omega | (rw [p5]; omega)) ?_
  refine R_idxI (i := (((cmn (pth t ((a))) (pth t ((b))) : Nat) : Int) - (1 : Int))) (@rfl V (V.sl (List.map cI (pth t ((a)))))) (@rfl V (iV (((cmn (pth t ((a))) (pth t ((b))) : Nat) : Int) - (1 : Int)))) (by first | omega | (rw [p5]; omega)) (by first | omega | (rw [p5]; omega)) rfl ?_
  refine R_load_pp (v := (iV ((nth (pth t ((a))) (((cmn (pth t ((a))) (pth t ((b))) : Nat) : Int) - (1 : Int)).toNat)))) (@rfl V (V.pp [(iV ((nth (pth t ((a))) (((cmn (pth t ((a))) (pth t ((b))) : Nat) : Int) - (1 : Int)).toNat)))])) (by first | rfl | simp [ldV]) ?_
  refine R_idxI (i := ((nth (pth t ((a))) (((cmn (pth t ((a))) (pth t ((b))) : Nat) : Int) - (1 : Int)).toNat))) (@rfl V (V.sl (List.map cN (t.nd)))) (@rfl V (iV ((nth (pth t ((a))) (((cmn (pth t ((a))) (pth t ((b))) : Nat) : Int) - (1 : Int)).toNat)))) (by first | omega | (rw [p5]; omega)) (by first | omega | (rw [p5]; omega)) rfl ?_
  refine R_fld_pp (cs' := [(V.sl (List.map cI (((nth (t.nd) ((nth (pth t ((a))) (((cmn (pth t ((a))) (pth t ((b))) : Nat) : Int) - (1 : Int)).toNat)).toNat)).sf))), (V.sl (List.map cL (((nth (t.nd) ((nth (pth t ((a))) (((cmn (pth t ((a))) (pth t ((b))) : Nat) : Int) - (1 : Int)).toNat)).toNat)).ou))), (V.sl (List.map cI (((nth (t.nd) ((nth (pth t ((a))) (((cmn (pth t ((a))) (pth t ((b))) : Nat) : Int) - (1 : Int)).toNat)).toNat)).kd)))]) (@rfl V (V.pp [(V.bool (((nth (t.nd) ((nth (pth t ((a))) (((cmn (pth t ((a))) (pth t ((b))) : Nat) : Int) - (1 : Int)).toNat)).toNat)).lf)), (V.sl (List.map cI (((nth (t.nd) ((nth (pth t ((a))) (((cmn (pth t ((a))) (pth t ((b))) : Nat) : Int) - (1 : Int)).toNat)).toNat)).ac))), (V.sl (List.map cI (((nth (t.nd) ((nth (pth t ((a))) (((cmn (pth t ((a))) (pth t ((b))) : Nat) : Int) - (1 : Int)).toNat)).toNat)).sf))), (V.sl (List.map cL (((nth (t.nd) ((nth (pth t ((a))) (((cmn (pth t ((a))) (pth t ((b))) : Nat) : Int) - (1 : Int)).toNat)).toNat)).ou))), (V.sl (List.map cI (((nth (t.nd) ((nth (pth t ((a))) (((cmn (pth t ((a))) (pth t ((b))) : Nat) : Int) - (1 : Int)).toNat)).toNat)).kd)))])) rfl ?_
  refine R_load_pp (v := (V.sl (List.map cI (((nth (t.nd) ((nth (pth t ((a))) (((cmn (pth t ((a))) (pth t ((b))) : Nat) : Int) - (1 : Int)).toNat)).toNat)).sf)))) (@rfl V (V.pp [(V.sl (List.map cI (((nth (t.nd) ((nth (pth t ((a))) (((cmn (pth t ((a))) (pth t ((b))) : Nat) : Int) - (1 : Int)).toNat)).toNat)).sf))), (V.sl (List.map cL (((nth (t.nd) ((nth (pth t ((a))) (((cmn (pth t ((a))) (pth t ((b))) : Nat) : Int) - (1 : Int)).toNat)).toNat)).ou))), (V.sl (List.map cI (((nth (t.nd) ((nth (pth t ((a))) (((cmn (pth t ((a))) (pth t ((b))) : Nat) : Int) - (1 : Int)).toNat)).toNat)).kd)))])) (by first | rfl | simp [ldV]) ?_
  refine R_bslice (qs := [(0, (V.sl (List.map cI (((nth (t.nd) ((nth (pth t ((a))) (((cmn (pth t ((a))) (pth t ((b))) : Nat) : Int) - (1 : Int)).toNat)).toNat)).sf))))]) (rows := [[(V.sl (List.map cI (((nth (t.nd) ((nth (pth t ((a))) (((cmn (pth t ((a))) (pth t ((b))) : Nat) : Int) - (1 : Int)).toNat)).toNat)).sf)))]]) (mcons (congrArg (fun v => (0, v)) (@rfl V (V.sl (List.map cI (((nth (t.nd) ((nth (pth t ((a))) (((cmn (pth t ((a))) (pth t ((b))) : Nat) : Int) - (1 : Int)).toNat)).toNat)).sf))))) rfl) rfl ?_
  refine R_call (evcons (@rfl V (V.sl [[(V.sl (List.map cI (((nth (t.nd) ((nth (pth t ((a))) (((cmn (pth t ((a))) (pth t ((b))) : Nat) : Int) - (1 : Int)).toNat)).toNat)).sf)))]])) evnil) (pjoin_pure ([((nth (t.nd) ((nth (pth t ((a))) (((cmn (pth t ((a))) (pth t ((b))) : Nat) : Int) - (1 : Int)).toNat)).toNat)).sf]) (by rw [p5]; simp only [cat, List.append_nil]; omega)) (fzv_mapcanon _ _ (by simp [-List.map_take, -List.map_drop, -List.map_append, -List.map_reverse])) (by simp [-List.map_take, -List.map_drop, -List.map_append, -List.map_reverse]) (Or.inl (by simp [-List.map_take, -List.map_drop, -List.map_append, -List.map_reverse])) ?_
  refine R_mv (@rfl V (V.sl (List.map cI (cat ([((nth (t.nd) ((nth (pth t ((a))) (((cmn (pth t ((a))) (pth t ((b))) : Nat) : Int) - (1 : Int)).toNat)).toNat)).sf]))))) ?_
  refine R_mv (@rfl V (iV (0 : Int))) ?_
  exact R_nil ⟨rfl, rfl, h3, trivial⟩
 intro T H ⟨t6, t7, h3, _⟩
 refine W_ret ?_
 refine Ret_2 t6 t7 (fz_sl ?_ (fun _ => by simp)) (fz_int ?_)
 · have hE : cmE t a b = 0 := by unfold cmE; rw [if_neg (by omega), if_neg (by omega), if_neg d4, if_neg d5]
   unfold cmR cmS; rw [if_pos hE, p5]; simp [cat]
 · have hE : cmE t a b = 0 := by unfold cmE; rw [if_neg (by omega), if_neg (by omega), if_neg d4, if_neg d5]
   exact hE.symm
end Go.Proofs.YtmnjchcoigbngaaGreat


namespace Go.Proofs.YtmnjchcoigbngaaGreat
open Go Go.Proofs
def r29_0 : List SO := [
  ⟨none, some 3, .box 24 1 (.t 0)⟩,
  ⟨none, some 6, .mv (.c (.nilsl))⟩,
  ⟨none, some 7, .mv (.c (.int .i64 0))⟩]
def r29_1 : List SO := [
  ⟨none, some 12, .load true 1 (.t 3)⟩,
  ⟨none, some 13, .call false 12 [.t 12]⟩,
  ⟨none, some 8, .mv (.t 13)⟩]
def r29_2 : List SO := [
  ⟨none, some 14, .mv (.t 8)⟩,
  ⟨none, some 15, .bin .neq (.t 14) (.c (.int .i64 0))⟩]
def r29_3 : List SO := [
  ⟨none, some 16, .mv (.t 8)⟩,
  ⟨none, some 6, .mv (.c (.nilsl))⟩,
  ⟨none, some 7, .mv (.t 16)⟩]
def r29_4 : List SO := [
  ⟨none, some 17, .mv (.t 1)⟩,
  ⟨none, some 18, .bin .lss (.t 17) (.c (.int .i64 0))⟩,
  ⟨none, some 19, .mv (.t 18)⟩,
  ⟨some (19, false), some 20, .mv (.t 1)⟩,
  ⟨some (19, false), some 21, .fld 0 (.t 3)⟩,
  ⟨some (19, false), some 22, .load false 1 (.t 21)⟩,
  ⟨some (19, false), some 23, .len (.t 22)⟩,
  ⟨some (19, false), some 24, .bin .geq (.t 20) (.t 23)⟩,
  ⟨none, some 25, .pick (.t 19) (.c (.bool true)) (.t 24)⟩,
  ⟨none, some 26, .mv (.t 25)⟩,
  ⟨some (26, false), some 27, .mv (.t 2)⟩,
  ⟨some (26, false), some 28, .bin .lss (.t 27) (.c (.int .i64 0))⟩,
  ⟨none, some 29, .pick (.t 26) (.c (.bool true)) (.t 28)⟩,
  ⟨none, some 30, .mv (.t 29)⟩,
  ⟨some (30, false), some 31, .mv (.t 2)⟩,
  ⟨some (30, false), some 32, .fld 0 (.t 3)⟩,
  ⟨some (30, false), some 33, .load false 1 (.t 32)⟩,
  ⟨some (30, false), some 34, .len (.t 33)⟩,
  ⟨some (30, false), some 35, .bin .geq (.t 31) (.t 34)⟩,
  ⟨none, some 36, .pick (.t 30) (.c (.bool true)) (.t 35)⟩]
def r29_5 : List SO := [
  ⟨none, some 6, .mv (.c (.nilsl))⟩,
  ⟨none, some 7, .mv (.c (.int .i64 2))⟩]
def r29_6 : List SO := [
  ⟨none, some 37, .fld 0 (.t 3)⟩,
  ⟨none, some 38, .load false 1 (.t 37)⟩,
  ⟨none, some 39, .mv (.t 1)⟩,
  ⟨none, some 40, .idx 5 (.t 38) (.t 39)⟩,
  ⟨none, some 41, .fld 0 (.t 40)⟩,
  ⟨none, some 42, .load false 1 (.t 41)⟩,
  ⟨none, some 43, .un .not (.t 42)⟩,
  ⟨none, some 44, .mv (.t 43)⟩,
  ⟨some (44, false), some 45, .fld 0 (.t 3)⟩,
  ⟨some (44, false), some 46, .load false 1 (.t 45)⟩,
  ⟨some (44, false), some 47, .mv (.t 2)⟩,
  ⟨some (44, false), some 48, .idx 5 (.t 46) (.t 47)⟩,
  ⟨some (44, false), some 49, .fld 0 (.t 48)⟩,
  ⟨some (44, false), some 50, .load false 1 (.t 49)⟩,
  ⟨some (44, false), some 51, .un .not (.t 50)⟩,
  ⟨none, some 52, .pick (.t 44) (.c (.bool true)) (.t 51)⟩]
def r29_7 : List SO := [
  ⟨none, some 6, .mv (.c (.nilsl))⟩,
  ⟨none, some 7, .mv (.c (.int .i64 10))⟩]
def r29_8 : List SO := [
  ⟨none, some 53, .mv (.t 1)⟩,
  ⟨none, some 54, .mv (.t 2)⟩,
  ⟨none, some 55, .bin .eql (.t 53) (.t 54)⟩]
def r29_9 : List SO := [
  ⟨none, some 6, .mv (.c (.nilsl))⟩,
  ⟨none, some 7, .mv (.c (.int .i64 8))⟩]
def r29_10 : List SO := [
  ⟨none, some 56, .load true 1 (.t 3)⟩,
  ⟨none, some 57, .mv (.t 1)⟩,
  ⟨none, some 58, .call false 72 [.t 56, .t 57]⟩,
  ⟨none, some 59, .load true 1 (.t 3)⟩,
  ⟨none, some 60, .mv (.t 2)⟩,
  ⟨none, some 61, .call false 72 [.t 59, .t 60]⟩,
  ⟨none, some 9, .mv (.t 58)⟩,
  ⟨none, some 10, .mv (.t 61)⟩]
def r29_11 : List SO := [
  ⟨none, some 62, .mv (.t 9)⟩,
  ⟨none, some 63, .mv (.t 10)⟩,
  ⟨none, some 64, .call false 53 [.t 62, .t 63]⟩,
  ⟨none, some 11, .mv (.t 64)⟩]
def r29_12 : List SO := [
  ⟨none, some 65, .fld 0 (.t 3)⟩,
  ⟨none, some 66, .load false 1 (.t 65)⟩,
  ⟨none, some 67, .mv (.t 9)⟩,
  ⟨none, some 68, .mv (.t 11)⟩,
  ⟨none, some 69, .bin .sub (.t 68) (.c (.int .i64 1))⟩,
  ⟨none, some 70, .idx 1 (.t 67) (.t 69)⟩,
  ⟨none, some 71, .load false 1 (.t 70)⟩,
  ⟨none, some 72, .idx 5 (.t 66) (.t 71)⟩,
  ⟨none, some 73, .fld 2 (.t 72)⟩,
  ⟨none, some 74, .load false 1 (.t 73)⟩,
  ⟨none, some 75, .bslice 38 1 false [.nilsl] 1 [(0, .t 74)]⟩,
  ⟨none, some 76, .call false 31 [.t 75]⟩,
  ⟨none, some 6, .mv (.t 76)⟩,
  ⟨none, some 7, .mv (.c (.int .i64 0))⟩]
def s29 : SF := ⟨77, [.tmp 6, .tmp 7], .seq (.reg r29_0) (.seq (.seq (.reg r29_1) (.seq (.reg r29_2) (.cond (.t 15) (.seq (.reg r29_3) (.ret)) (.skip)))) (.seq (.seq (.reg r29_4) (.cond (.t 36) (.seq (.reg r29_5) (.ret)) (.skip))) (.seq (.seq (.reg r29_6) (.cond (.t 52) (.seq (.reg r29_7) (.ret)) (.skip))) (.seq (.seq (.reg r29_8) (.cond (.t 55) (.seq (.reg r29_9) (.ret)) (.skip))) (.seq (.reg r29_10) (.seq (.reg r29_11) (.seq (.reg r29_12) (.ret))))))))⟩
theorem s29_ok : slimF Tryz.prog ⟨[57, 58, 59, 63, 67, 68, 77, 102, 103, 104, 110, 116, 120], []⟩ Tryz.f29 = some s29 := by kernel_rfl
end Go.Proofs.YtmnjchcoigbngaaGreat


namespace Go.Proofs.YtmnjchcoigbngaaGreat
open Go Go.Proofs
def r12_0 : List SO := [
  ⟨none, some 1, .box 24 1 (.t 0)⟩,
  ⟨none, some 2, .mv (.c (.int .i64 0))⟩]
def r12_1 : List SO := [
  ⟨none, some 6, .fld 0 (.t 1)⟩,
  ⟨none, some 7, .load false 1 (.t 6)⟩,
  ⟨none, some 8, .len (.t 7)⟩,
  ⟨none, some 9, .bin .eql (.t 8) (.c (.int .i64 0))⟩]
def r12_2 : List SO := [
  ⟨none, some 2, .mv (.c (.int .i64 19))⟩]
def r12_3 : List SO := [
  ⟨none, some 10, .fld 0 (.t 1)⟩,
  ⟨none, some 11, .load false 1 (.t 10)⟩,
  ⟨none, some 12, .len (.t 11)⟩,
  ⟨none, some 13, .bin .gtr (.t 12) (.c (.int .i64 4096))⟩]
def r12_4 : List SO := [
  ⟨none, some 2, .mv (.c (.int .i64 11))⟩]
def r12_5 : List SO := [
  ⟨none, some 3, .mv (.c (.int .i64 0))⟩]
def r12_6 : List SO := [
  ⟨none, some 14, .mv (.t 3)⟩,
  ⟨none, some 15, .fld 0 (.t 1)⟩,
  ⟨none, some 16, .load false 1 (.t 15)⟩,
  ⟨none, some 17, .len (.t 16)⟩,
  ⟨none, some 18, .bin .lss (.t 14) (.t 17)⟩]
def r12_8 : List SO := [
  ⟨none, some 21, .load true 1 (.t 1)⟩,
  ⟨none, some 22, .fld 0 (.t 1)⟩,
  ⟨none, some 23, .load false 1 (.t 22)⟩,
  ⟨none, some 24, .mv (.t 3)⟩,
  ⟨none, some 25, .idx 5 (.t 23) (.t 24)⟩,
  ⟨none, some 26, .load true 5 (.t 25)⟩,
  ⟨none, some 27, .call false 39 [.t 21, .t 26]⟩,
  ⟨none, some 4, .mv (.t 27)⟩]
def r12_9 : List SO := [
  ⟨none, some 28, .mv (.t 4)⟩,
  ⟨none, some 29, .bin .neq (.t 28) (.c (.int .i64 0))⟩]
def r12_10 : List SO := [
  ⟨none, some 30, .mv (.t 4)⟩,
  ⟨none, some 2, .mv (.t 30)⟩]
def r12_7 : List SO := [
  ⟨none, some 19, .mv (.t 3)⟩,
  ⟨none, some 20, .bin .add (.t 19) (.c (.int .i64 1))⟩,
  ⟨none, some 3, .mv (.t 20)⟩]
def b12_0 : SC := .seq (.seq (.reg r12_6) (.cond (.t 18) (.skip) (.exit 0))) (.seq (.block 1 (.seq (.reg r12_8) (.seq (.reg r12_9) (.cond (.t 29) (.seq (.reg r12_10) (.ret)) (.skip))))) (.reg r12_7))
def r12_11 : List SO := [
  ⟨none, some 31, .load true 1 (.t 1)⟩,
  ⟨none, some 32, .call false 40 [.t 31]⟩,
  ⟨none, some 33, .un .not (.t 32)⟩]
def r12_12 : List SO := [
  ⟨none, some 2, .mv (.c (.int .i64 1))⟩]
def r12_13 : List SO := [
  ⟨none, some 34, .load true 1 (.t 1)⟩,
  ⟨none, some 35, .call false 41 [.t 34]⟩,
  ⟨none, some 5, .mv (.t 35)⟩]
def r12_14 : List SO := [
  ⟨none, some 36, .mv (.t 5)⟩,
  ⟨none, some 37, .call false 42 [.t 36]⟩,
  ⟨none, some 38, .len (.t 37)⟩,
  ⟨none, some 39, .mv (.t 5)⟩,
  ⟨none, some 40, .len (.t 39)⟩,
  ⟨none, some 41, .bin .neq (.t 38) (.t 40)⟩]
def r12_15 : List SO := [
  ⟨none, some 2, .mv (.c (.int .i64 7))⟩]
def r12_16 : List SO := [
  ⟨none, some 2, .mv (.c (.int .i64 0))⟩]
def s12 : SF := ⟨42, [.tmp 2], .seq (.reg r12_0) (.seq (.seq (.reg r12_1) (.cond (.t 9) (.seq (.reg r12_2) (.ret)) (.skip))) (.seq (.seq (.reg r12_3) (.cond (.t 13) (.seq (.reg r12_4) (.ret)) (.skip))) (.seq (.seq (.reg r12_5) (.block 0 (.loop b12_0))) (.seq (.seq (.reg r12_11) (.cond (.t 33) (.seq (.reg r12_12) (.ret)) (.skip))) (.seq (.reg r12_13) (.seq (.seq (.reg r12_14) (.cond (.t 41) (.seq (.reg r12_15) (.ret)) (.skip))) (.seq (.reg r12_16) (.ret))))))))⟩
theorem s12_ok : slimF Tryz.prog ⟨[57, 58, 59, 63, 67, 68, 77, 102, 103, 104, 110, 116, 120], []⟩ Tryz.f12 = some s12 := by kernel_rfl
end Go.Proofs.YtmnjchcoigbngaaGreat


namespace Go.Proofs.YtmnjchcoigbngaaGreat
open Go Go.Proofs
def r39_0 : List SO := [
  ⟨none, some 2, .box 24 1 (.t 0)⟩,
  ⟨none, some 3, .box 68 5 (.t 1)⟩,
  ⟨none, some 4, .mv (.c (.int .i64 0))⟩]
def r39_1 : List SO := [
  ⟨none, some 9, .fld 0 (.t 3)⟩,
  ⟨none, some 10, .load false 1 (.t 9)⟩]
def r39_2 : List SO := [
  ⟨none, some 11, .fld 2 (.t 3)⟩,
  ⟨none, some 12, .load false 1 (.t 11)⟩,
  ⟨none, some 13, .len (.t 12)⟩,
  ⟨none, some 14, .bin .gtr (.t 13) (.c (.int .i64 0))⟩,
  ⟨none, some 15, .mv (.t 14)⟩,
  ⟨some (15, false), some 16, .fld 3 (.t 3)⟩,
  ⟨some (15, false), some 17, .load false 1 (.t 16)⟩,
  ⟨some (15, false), some 18, .len (.t 17)⟩,
  ⟨some (15, false), some 19, .bin .gtr (.t 18) (.c (.int .i64 0))⟩,
  ⟨none, some 20, .pick (.t 15) (.c (.bool true)) (.t 19)⟩,
  ⟨none, some 21, .mv (.t 20)⟩,
  ⟨some (21, false), some 22, .fld 4 (.t 3)⟩,
  ⟨some (21, false), some 23, .load false 1 (.t 22)⟩,
  ⟨some (21, false), some 24, .len (.t 23)⟩,
  ⟨some (21, false), some 25, .bin .gtr (.t 24) (.c (.int .i64 0))⟩,
  ⟨none, some 26, .pick (.t 21) (.c (.bool true)) (.t 25)⟩]
def r39_3 : List SO := [
  ⟨none, some 4, .mv (.c (.int .i64 1))⟩]
def r39_4 : List SO := [
  ⟨none, some 27, .fld 1 (.t 3)⟩,
  ⟨none, some 28, .load false 1 (.t 27)⟩,
  ⟨none, some 29, .call false 44 [.t 28, .c (.int .i64 64)]⟩,
  ⟨none, some 4, .mv (.t 29)⟩]
def r39_5 : List SO := [
  ⟨none, some 30, .fld 1 (.t 3)⟩,
  ⟨none, some 31, .load false 1 (.t 30)⟩,
  ⟨none, some 32, .len (.t 31)⟩,
  ⟨none, some 33, .bin .gtr (.t 32) (.c (.int .i64 0))⟩]
def r39_6 : List SO := [
  ⟨none, some 4, .mv (.c (.int .i64 1))⟩]
def r39_7 : List SO := [
  ⟨none, some 34, .fld 2 (.t 3)⟩,
  ⟨none, some 35, .load false 1 (.t 34)⟩,
  ⟨none, some 36, .call false 69 [.t 35]⟩,
  ⟨none, some 5, .mv (.t 36)⟩]
def r39_8 : List SO := [
  ⟨none, some 37, .mv (.t 5)⟩,
  ⟨none, some 38, .bin .neq (.t 37) (.c (.int .i64 0))⟩]
def r39_9 : List SO := [
  ⟨none, some 39, .mv (.t 5)⟩,
  ⟨none, some 4, .mv (.t 39)⟩]
def r39_10 : List SO := [
  ⟨none, some 40, .fld 3 (.t 3)⟩,
  ⟨none, some 41, .load false 1 (.t 40)⟩,
  ⟨none, some 42, .len (.t 41)⟩,
  ⟨none, some 43, .fld 4 (.t 3)⟩,
  ⟨none, some 44, .load false 1 (.t 43)⟩,
  ⟨none, some 45, .len (.t 44)⟩,
  ⟨none, some 46, .bin .neq (.t 42) (.t 45)⟩]
def r39_11 : List SO := [
  ⟨none, some 4, .mv (.c (.int .i64 1))⟩]
def r39_12 : List SO := [
  ⟨none, some 6, .mv (.c (.int .i64 0))⟩]
def r39_13 : List SO := [
  ⟨none, some 47, .mv (.t 6)⟩,
  ⟨none, some 48, .fld 4 (.t 3)⟩,
  ⟨none, some 49, .load false 1 (.t 48)⟩,
  ⟨none, some 50, .len (.t 49)⟩,
  ⟨none, some 51, .bin .lss (.t 47) (.t 50)⟩]
def r39_15 : List SO := [
  ⟨none, some 54, .fld 3 (.t 3)⟩,
  ⟨none, some 55, .load false 1 (.t 54)⟩,
  ⟨none, some 56, .mv (.t 6)⟩,
  ⟨none, some 57, .idx 1 (.t 55) (.t 56)⟩,
  ⟨none, some 58, .load false 1 (.t 57)⟩,
  ⟨none, some 59, .fld 2 (.t 3)⟩,
  ⟨none, some 60, .load false 1 (.t 59)⟩,
  ⟨none, some 61, .call false 61 [.t 58, .t 60]⟩,
  ⟨none, some 7, .mv (.t 61)⟩]
def r39_16 : List SO := [
  ⟨none, some 62, .mv (.t 7)⟩,
  ⟨none, some 63, .bin .neq (.t 62) (.c (.int .i64 0))⟩]
def r39_17 : List SO := [
  ⟨none, some 64, .mv (.t 7)⟩,
  ⟨none, some 4, .mv (.t 64)⟩]
def r39_18 : List SO := [
  ⟨none, some 8, .mv (.c (.int .i64 0))⟩]
def r39_19 : List SO := [
  ⟨none, some 65, .mv (.t 8)⟩,
  ⟨none, some 66, .mv (.t 6)⟩,
  ⟨none, some 67, .bin .lss (.t 65) (.t 66)⟩]
def r39_21 : List SO := [
  ⟨none, some 70, .fld 3 (.t 3)⟩,
  ⟨none, some 71, .load false 1 (.t 70)⟩,
  ⟨none, some 72, .mv (.t 8)⟩,
  ⟨none, some 73, .idx 1 (.t 71) (.t 72)⟩,
  ⟨none, some 74, .load false 1 (.t 73)⟩,
  ⟨none, some 75, .fld 3 (.t 3)⟩,
  ⟨none, some 76, .load false 1 (.t 75)⟩,
  ⟨none, some 77, .mv (.t 6)⟩,
  ⟨none, some 78, .idx 1 (.t 76) (.t 77)⟩,
  ⟨none, some 79, .load false 1 (.t 78)⟩,
  ⟨none, some 80, .call false 76 [.t 74, .t 79]⟩,
  ⟨none, some 81, .bin .geq (.t 80) (.c (.int .i64 0))⟩]
def r39_22 : List SO := [
  ⟨none, some 4, .mv (.c (.int .i64 10))⟩]
def r39_20 : List SO := [
  ⟨none, some 68, .mv (.t 8)⟩,
  ⟨none, some 69, .bin .add (.t 68) (.c (.int .i64 1))⟩,
  ⟨none, some 8, .mv (.t 69)⟩]
def b39_1 : SC := .seq (.seq (.reg r39_19) (.cond (.t 67) (.skip) (.exit 2))) (.seq (.block 3 (.seq (.reg r39_21) (.cond (.t 81) (.seq (.reg r39_22) (.ret)) (.skip)))) (.reg r39_20))
def r39_23 : List SO := [
  ⟨none, some 82, .fld 4 (.t 3)⟩,
  ⟨none, some 83, .load false 1 (.t 82)⟩,
  ⟨none, some 84, .mv (.t 6)⟩,
  ⟨none, some 85, .idx 1 (.t 83) (.t 84)⟩,
  ⟨none, some 86, .load false 1 (.t 85)⟩,
  ⟨none, some 87, .bin .lss (.t 86) (.c (.int .i64 0))⟩,
  ⟨none, some 88, .mv (.t 87)⟩,
  ⟨some (88, false), some 89, .fld 4 (.t 3)⟩,
  ⟨some (88, false), some 90, .load false 1 (.t 89)⟩,
  ⟨some (88, false), some 91, .mv (.t 6)⟩,
  ⟨some (88, false), some 92, .idx 1 (.t 90) (.t 91)⟩,
  ⟨some (88, false), some 93, .load false 1 (.t 92)⟩,
  ⟨some (88, false), some 94, .fld 0 (.t 2)⟩,
  ⟨some (88, false), some 95, .load false 1 (.t 94)⟩,
  ⟨some (88, false), some 96, .len (.t 95)⟩,
  ⟨some (88, false), some 97, .bin .geq (.t 93) (.t 96)⟩,
  ⟨none, some 98, .pick (.t 88) (.c (.bool true)) (.t 97)⟩]
def r39_24 : List SO := [
  ⟨none, some 4, .mv (.c (.int .i64 2))⟩]
def r39_14 : List SO := [
  ⟨none, some 52, .mv (.t 6)⟩,
  ⟨none, some 53, .bin .add (.t 52) (.c (.int .i64 1))⟩,
  ⟨none, some 6, .mv (.t 53)⟩]
def b39_0 : SC := .seq (.seq (.reg r39_13) (.cond (.t 51) (.skip) (.exit 0))) (.seq (.block 1 (.seq (.seq (.reg r39_15) (.seq (.reg r39_16) (.cond (.t 63) (.seq (.reg r39_17) (.ret)) (.skip)))) (.seq (.seq (.reg r39_18) (.block 2 (.loop b39_1))) (.seq (.reg r39_23) (.cond (.t 98) (.seq (.reg r39_24) (.ret)) (.skip)))))) (.reg r39_14))
def r39_25 : List SO := [
  ⟨none, some 4, .mv (.c (.int .i64 0))⟩]
def s39 : SF := ⟨99, [.tmp 4], .seq (.reg r39_0) (.seq (.seq (.reg r39_1) (.cond (.t 10) (.seq (.seq (.reg r39_2) (.cond (.t 26) (.seq (.reg r39_3) (.ret)) (.skip))) (.seq (.reg r39_4) (.ret))) (.skip))) (.seq (.seq (.reg r39_5) (.cond (.t 33) (.seq (.reg r39_6) (.ret)) (.skip))) (.seq (.seq (.reg r39_7) (.seq (.reg r39_8) (.cond (.t 38) (.seq (.reg r39_9) (.ret)) (.skip)))) (.seq (.seq (.reg r39_10) (.cond (.t 46) (.seq (.reg r39_11) (.ret)) (.skip))) (.seq (.seq (.reg r39_12) (.block 0 (.loop b39_0))) (.seq (.reg r39_25) (.ret)))))))⟩
theorem s39_ok : slimF Tryz.prog ⟨[57, 58, 59, 63, 67, 68, 77, 102, 103, 104, 110, 116, 120], []⟩ Tryz.f39 = some s39 := by kernel_rfl
end Go.Proofs.YtmnjchcoigbngaaGreat


namespace Go.Proofs.YtmnjchcoigbngaaGreat
open Go Go.Proofs
def r44_0 : List SO := [
  ⟨none, some 4, .mv (.c (.int .i64 0))⟩]
def r44_1 : List SO := [
  ⟨none, some 6, .mv (.t 1)⟩,
  ⟨none, some 7, .call false 78 [.t 6]⟩,
  ⟨none, some 8, .un .not (.t 7)⟩]
def r44_2 : List SO := [
  ⟨none, some 4, .mv (.c (.int .i64 2))⟩]
def r44_3 : List SO := [
  ⟨none, some 9, .mv (.t 0)⟩,
  ⟨none, some 10, .len (.t 9)⟩,
  ⟨none, some 11, .bin .gtr (.t 10) (.c (.int .i64 1024))⟩]
def r44_4 : List SO := [
  ⟨none, some 4, .mv (.c (.int .i64 3))⟩]
def r44_5 : List SO := [
  ⟨none, some 5, .mv (.c (.int .i64 0))⟩]
def r44_6 : List SO := [
  ⟨none, some 12, .mv (.t 5)⟩,
  ⟨none, some 13, .mv (.t 0)⟩,
  ⟨none, some 14, .len (.t 13)⟩,
  ⟨none, some 15, .bin .lss (.t 12) (.t 14)⟩]
def r44_8 : List SO := [
  ⟨none, some 18, .mv (.t 0)⟩,
  ⟨none, some 19, .mv (.t 5)⟩,
  ⟨none, some 20, .idx 1 (.t 18) (.t 19)⟩,
  ⟨none, some 21, .load false 1 (.t 20)⟩,
  ⟨none, some 22, .bin .lss (.t 21) (.c (.int .i64 0))⟩,
  ⟨none, some 23, .mv (.t 22)⟩,
  ⟨some (23, false), some 24, .mv (.t 0)⟩,
  ⟨some (23, false), some 25, .mv (.t 5)⟩,
  ⟨some (23, false), some 26, .idx 1 (.t 24) (.t 25)⟩,
  ⟨some (23, false), some 27, .load false 1 (.t 26)⟩,
  ⟨some (23, false), some 28, .mv (.t 1)⟩,
  ⟨some (23, false), some 29, .bin .geq (.t 27) (.t 28)⟩,
  ⟨none, some 30, .pick (.t 23) (.c (.bool true)) (.t 29)⟩]
def r44_9 : List SO := [
  ⟨none, some 4, .mv (.c (.int .i64 1))⟩]
def r44_7 : List SO := [
  ⟨none, some 16, .mv (.t 5)⟩,
  ⟨none, some 17, .bin .add (.t 16) (.c (.int .i64 1))⟩,
  ⟨none, some 5, .mv (.t 17)⟩]
def b44_0 : SC := .seq (.seq (.reg r44_6) (.cond (.t 15) (.skip) (.exit 0))) (.seq (.block 1 (.seq (.reg r44_8) (.cond (.t 30) (.seq (.reg r44_9) (.ret)) (.skip)))) (.reg r44_7))
def r44_10 : List SO := [
  ⟨none, some 4, .mv (.c (.int .i64 0))⟩]
def s44 : SF := ⟨31, [.tmp 4], .seq (.reg r44_0) (.seq (.seq (.reg r44_1) (.cond (.t 8) (.seq (.reg r44_2) (.ret)) (.skip))) (.seq (.seq (.reg r44_3) (.cond (.t 11) (.seq (.reg r44_4) (.ret)) (.skip))) (.seq (.seq (.reg r44_5) (.block 0 (.loop b44_0))) (.seq (.reg r44_10) (.ret)))))⟩
theorem s44_ok : slimF Tryz.prog ⟨[57, 58, 59, 63, 67, 68, 77, 102, 103, 104, 110, 116, 120], []⟩ Tryz.f44 = some s44 := by kernel_rfl
end Go.Proofs.YtmnjchcoigbngaaGreat


namespace Go.Proofs.YtmnjchcoigbngaaGreat
open Go Go.Proofs
def r78_0 : List SO := [
  ⟨none, some 2, .mv (.c (.bool false))⟩]
def r78_1 : List SO := [
  ⟨none, some 3, .mv (.t 0)⟩,
  ⟨none, some 4, .bin .geq (.t 3) (.c (.int .i64 1))⟩,
  ⟨none, some 5, .mv (.t 4)⟩,
  ⟨some (5, true), some 6, .mv (.t 0)⟩,
  ⟨some (5, true), some 7, .bin .leq (.t 6) (.c (.int .i64 1024))⟩,
  ⟨none, some 8, .pick (.t 5) (.t 7) (.c (.bool false))⟩,
  ⟨none, some 2, .mv (.t 8)⟩]
def s78 : SF := ⟨9, [.tmp 2], .seq (.reg r78_0) (.seq (.reg r78_1) (.ret))⟩
theorem s78_ok : slimF Tryz.prog ⟨[57, 58, 59, 63, 67, 68, 77, 102, 103, 104, 110, 116, 120], []⟩ Tryz.f78 = some s78 := by kernel_rfl
end Go.Proofs.YtmnjchcoigbngaaGreat


namespace Go.Proofs.YtmnjchcoigbngaaGreat
open Go Go.Proofs
theorem size_pure (n : Int) : PureC Tryz.prog 78 [(iV (n))] (V.bool (decide (1 ≤ n ∧ n ≤ 1024))) := by
 refine pure_of_Wb true 6 Tryz.func78 s78_ok (by kernel_rfl) (by simp [s78]) (by simp) (by simp) fun hB => ?_
 simp only [bnd_map, bnd_int, bnd_bool, bnd_str, bnd_agg, bnd_pp, bnd_nil, bnd_cons, implies_true, and_true, true_and] at hB
 unfold s78
 dsimp only
 refine W_seq_regc (fun T H => T 0 = (iV (n)) ∧ True) ?_ ?_
 ·
  unfold r78_0
  refine R_mv (@rfl V (V.bool false)) ?_
  exact R_nil ⟨rfl, trivial⟩
 intro T H ⟨t0, _⟩
 refine W_seq_regc (fun T H => T 2 = (V.bool (decide (((1 : Int) ≤ (n)) ∧ ((n) ≤ (1024 : Int))))) ∧ True) ?_ ?_
 ·
  unfold r78_1
  refine R_mv t0 ?_
  refine R_geq (x := (n)) (y := (1 : Int)) (@rfl V (iV (n))) (@rfl V (iV (1 : Int))) ?_
  refine R_mv (@rfl V (V.bool (decide ((1 : Int) ≤ (n))))) ?_
  refine Ops_seg 3 (fun T H => T 8 = (V.bool (decide (((1 : Int) ≤ (n)) ∧ ((n) ≤ (1024 : Int))))) ∧ True) ?_ ?_
  ·
   by_cases g1 : (1 : Int) ≤ (n)
   ·
    refine G_yes (Eq.trans (@rfl V (V.bool (decide ((1 : Int) ≤ (n))))) (bdT g1)) ?_
    refine R_mv t0 ?_
    refine G_yes (Eq.trans (@rfl V (V.bool (decide ((1 : Int) ≤ (n))))) (bdT g1)) ?_
    refine R_leq (x := (n)) (y := (1024 : Int)) (@rfl V (iV (n))) (@rfl V (iV (1024 : Int))) ?_
    refine R_pickT (Eq.trans (@rfl V (V.bool (decide ((1 : Int) ≤ (n))))) (bdT g1)) (@rfl V (V.bool (decide ((n) ≤ (1024 : Int))))) ?_
    exact ⟨(Eq.trans (@rfl V (V.bool (decide ((n) ≤ (1024 : Int))))) (dec_andT g1)), trivial⟩
   ·
    refine G_no (Eq.trans (@rfl V (V.bool (decide ((1 : Int) ≤ (n))))) (bdF g1)) (by decide) ?_
    refine G_no (Eq.trans (@rfl V (V.bool (decide ((1 : Int) ≤ (n))))) (bdF g1)) (by decide) ?_
    refine R_pickF (Eq.trans (@rfl V (V.bool (decide ((1 : Int) ≤ (n))))) (bdF g1)) (@rfl V (V.bool false)) ?_
    exact ⟨(Eq.trans (@rfl V (V.bool false)) (dec_andF g1)), trivial⟩
  intro T H ⟨t8, _⟩
  refine R_mv t8 ?_
  exact R_nil ⟨rfl, trivial⟩
 intro T H ⟨t2, _⟩
 refine W_ret ?_
 refine Ret_1 t2 (fz_bool ?_)
 · first | rfl | omega | simp_all
end Go.Proofs.YtmnjchcoigbngaaGreat


namespace Go.Proofs.YtmnjchcoigbngaaGreat
open Go Go.Proofs
theorem rcheck_pure (w : List Int) (n : Int) : PureC Tryz.prog 44 [(V.sl (List.map cI (w))), (iV (n))] (iV (wchk w n)) := by
 refine pure_of_Wb true 6 Tryz.func44 s44_ok (by kernel_rfl) (by simp [s44]) (by simp) (by simp) fun hB => ?_
 simp only [bnd_map, bnd_int, bnd_bool, bnd_str, bnd_agg, bnd_pp, bnd_nil, bnd_cons, implies_true, and_true, true_and] at hB
 unfold s44
 dsimp only
 refine W_seq_regc (fun T H => T 0 = (V.sl (List.map cI (w))) ∧ T 1 = (iV (n)) ∧ True) ?_ ?_
 ·
  unfold r44_0
  refine R_mv (@rfl V (iV (0 : Int))) ?_
  exact R_nil ⟨rfl, rfl, trivial⟩
 intro T H ⟨t0, t1, _⟩
 refine W_seq_seq ?_
 refine W_seq_regc (fun T H => T 0 = (V.sl (List.map cI (w))) ∧ T 1 = (iV (n)) ∧ T 8 = (V.bool (decide (¬(1 ≤ ((n)) ∧ ((n)) ≤ 1024)))) ∧ True) ?_ ?_
 ·
  unfold r44_1
  refine R_mv t1 ?_
  refine R_call (evcons (@rfl V (iV (n))) evnil) (size_pure ((n))) (fzv_mapcanon _ _ (by simp [-List.map_take, -List.map_drop, -List.map_append, -List.map_reverse])) (by simp [-List.map_take, -List.map_drop, -List.map_append, -List.map_reverse]) (Or.inl (by simp [-List.map_take, -List.map_drop, -List.map_append, -List.map_reverse])) ?_
  refine R_not (p := 1 ≤ ((n)) ∧ ((n)) ≤ 1024) (@rfl V (V.bool (decide (1 ≤ ((n)) ∧ ((n)) ≤ 1024)))) ?_
  exact R_nil ⟨t0, t1, rfl, trivial⟩
 intro T H ⟨t0, t1, t8, _⟩
 refine W_seq_if (p := ¬(1 ≤ ((n)) ∧ ((n)) ≤ 1024)) t8 (fun c1 => ?_) (fun c1 => ?_)
 ·
  refine W_seq_seq ?_
  refine W_seq_regc (fun T H => T 4 = (iV (2 : Int)) ∧ True) ?_ ?_
  ·
   unfold r44_2
   refine R_mv (@rfl V (iV (2 : Int))) ?_
   exact R_nil ⟨rfl, trivial⟩
  intro T H ⟨t4, _⟩
  refine W_seq_ret ?_
  refine Ret_1 t4 (fz_int ?_)
  · rw [wchk, if_pos (by omega)]
 refine W_seq_skip ?_
 refine W_seq_seq ?_
 refine W_seq_regc (fun T H => T 0 = (V.sl (List.map cI (w))) ∧ T 1 = (iV (n)) ∧ T 11 = (V.bool (decide ((1024 : Int) < ((w.length : Nat) : Int)))) ∧ True) ?_ ?_
 ·
  unfold r44_3
  refine R_mv t0 ?_
  refine R_len (@rfl V (V.sl (List.map cI (w)))) ?_
  refine R_gtr (x := ((w.length : Nat) : Int)) (y := (1024 : Int)) (@rfl V (iV ((w.length : Nat) : Int))) (@rfl V (iV (1024 : Int))) ?_
  exact R_nil ⟨t0, t1, rfl, trivial⟩
 intro T H ⟨t0, t1, t11, _⟩
 refine W_seq_if (p := (1024 : Int) < ((w.length : Nat) : Int)) t11 (fun c2 => ?_) (fun c2 => ?_)
 ·
  refine W_seq_seq ?_
  refine W_seq_regc (fun T H => T 4 = (iV (3 : Int)) ∧ True) ?_ ?_
  ·
   unfold r44_4
   refine R_mv (@rfl V (iV (3 : Int))) ?_
   exact R_nil ⟨rfl, trivial⟩
  intro T H ⟨t4, _⟩
  refine W_seq_ret ?_
  refine Ret_1 t4 (fz_int ?_)
  · rw [wchk, if_neg (by omega), if_pos (by omega)]
 refine W_seq_skip ?_
 refine W_seq_seq ?_
 refine W_seq_regc (fun T H => T 0 = (V.sl (List.map cI (w))) ∧ T 1 = (iV (n)) ∧ T 5 = (iV (0 : Int)) ∧ True) ?_ ?_
 ·
  unfold r44_5
  refine R_mv (@rfl V (iV (0 : Int))) ?_
  exact R_nil ⟨t0, t1, rfl, trivial⟩
 intro T H ⟨t0, t1, t5, _⟩
 refine W_seq_blockg fun Q3 n3 x3 y3 z3 => ?_
 refine W_loop (fun mm T H => ∃ (k : Nat), mm = w.length - k ∧ T 0 = (V.sl (List.map cI (w))) ∧ T 1 = (iV (n)) ∧ T 5 = (iV ((k : Nat) : Int)) ∧ (k ≤ w.length) ∧ (w.length ≤ 1024) ∧ (1 ≤ n ∧ n ≤ 1024) ∧ (wchk w n = fe (wE w n) k (w.length - k))) ?_ ?_
 ·
  refine ⟨_, 0, rfl, t0, t1, (Eq.trans t5 (by first | rfl | simp)), ?_, ?_, ?_, ?_⟩
  · omega
  · omega
  · omega
  · rw [wchk, if_neg (by omega), if_neg (by omega)]; rfl
 intro mm T H ⟨k, hmm, t0, t1, t5, hk, hl, hn, hc⟩ Q4 p14 p24 p34
 unfold b44_0
 refine W_seq_seq ?_
 refine W_seq_regc (fun T H => T 0 = (V.sl (List.map cI (w))) ∧ T 1 = (iV (n)) ∧ T 5 = (iV ((k : Nat) : Int)) ∧ T 15 = (V.bool (decide (((k : Nat) : Int) < ((w.length : Nat) : Int)))) ∧ True) ?_ ?_
 ·
  unfold r44_6
  refine R_mv t5 ?_
  refine R_mv t0 ?_
  refine R_len (@rfl V (V.sl (List.map cI (w)))) ?_
  refine R_lss (x := ((k : Nat) : Int)) (y := ((w.length : Nat) : Int)) (@rfl V (iV ((k : Nat) : Int))) (@rfl V (iV ((w.length : Nat) : Int))) ?_
  exact R_nil ⟨t0, t1, t5, rfl, trivial⟩
 intro T H ⟨t0, t1, t5, t15, _⟩
 refine W_seq_if (p := ((k : Nat) : Int) < ((w.length : Nat) : Int)) t15 (fun c5 => ?_) (fun c5 => ?_)
 ·
  refine W_seq_skip ?_
  refine W_seq_blockg fun Q6 n6 x6 y6 z6 => ?_
  refine W_seq_regc (fun T H => T 0 = (V.sl (List.map cI (w))) ∧ T 1 = (iV (n)) ∧ T 5 = (iV ((k : Nat) : Int)) ∧ T 30 = (V.bool (decide ((((nth (w) (k))) < (0 : Int)) ∨ ((n) ≤ ((nth (w) (k))))))) ∧ True) ?_ ?_
  ·
   unfold r44_8
   refine R_mv t0 ?_
   refine R_mv t5 ?_
   refine R_idx (i := k) (@rfl V (V.sl (List.map cI (w)))) (@rfl V (iV ((k : Nat) : Int))) (by omega) rfl ?_
   refine R_load_pp (v := (iV ((nth (w) (k))))) (@rfl V (V.pp [(iV ((nth (w) (k))))])) (by first | rfl | simp [ldV]) ?_
   refine R_lss (x := ((nth (w) (k)))) (y := (0 : Int)) (@rfl V (iV ((nth (w) (k))))) (@rfl V (iV (0 : Int))) ?_
   refine R_mv (@rfl V (V.bool (decide (((nth (w) (k))) < (0 : Int))))) ?_
   refine Ops_seg 7 (fun T H => T 0 = (V.sl (List.map cI (w))) ∧ T 1 = (iV (n)) ∧ T 5 = (iV ((k : Nat) : Int)) ∧ T 30 = (V.bool (decide ((((nth (w) (k))) < (0 : Int)) ∨ ((n) ≤ ((nth (w) (k))))))) ∧ True) ?_ ?_
   ·
    by_cases g7 : ((nth (w) (k))) < (0 : Int)
    ·
     refine G_no (Eq.trans (@rfl V (V.bool (decide (((nth (w) (k))) < (0 : Int))))) (bdT g7)) (by decide) ?_
     refine G_no (Eq.trans (@rfl V (V.bool (decide (((nth (w) (k))) < (0 : Int))))) (bdT g7)) (by decide) ?_
     refine G_no (Eq.trans (@rfl V (V.bool (decide (((nth (w) (k))) < (0 : Int))))) (bdT g7)) (by decide) ?_
     refine G_no (Eq.trans (@rfl V (V.bool (decide (((nth (w) (k))) < (0 : Int))))) (bdT g7)) (by decide) ?_
     refine G_no (Eq.trans (@rfl V (V.bool (decide (((nth (w) (k))) < (0 : Int))))) (bdT g7)) (by decide) ?_
     refine G_no (Eq.trans (@rfl V (V.bool (decide (((nth (w) (k))) < (0 : Int))))) (bdT g7)) (by decide) ?_
     refine R_pickT (Eq.trans (@rfl V (V.bool (decide (((nth (w) (k))) < (0 : Int))))) (bdT g7)) (@rfl V (V.bool true)) ?_
     exact ⟨t0, t1, t5, (Eq.trans (@rfl V (V.bool true)) (dec_orT g7)), trivial⟩
    ·
     refine G_yes (Eq.trans (@rfl V (V.bool (decide (((nth (w) (k))) < (0 : Int))))) (bdF g7)) ?_
     refine R_mv t0 ?_
     refine G_yes (Eq.trans (@rfl V (V.bool (decide (((nth (w) (k))) < (0 : Int))))) (bdF g7)) ?_
     refine R_mv t5 ?_
     refine G_yes (Eq.trans (@rfl V (V.bool (decide (((nth (w) (k))) < (0 : Int))))) (bdF g7)) ?_
     refine R_idx (i := k) (@rfl V (V.sl (List.map cI (w)))) (@rfl V (iV ((k : Nat) : Int))) (by omega) rfl ?_
     refine G_yes (Eq.trans (@rfl V (V.bool (decide (((nth (w) (k))) < (0 : Int))))) (bdF g7)) ?_
     refine R_load_pp (v := (iV ((nth (w) (k))))) (@rfl V (V.pp [(iV ((nth (w) (k))))])) (by first | rfl | simp [ldV]) ?_
     refine G_yes (Eq.trans (@rfl V (V.bool (decide (((nth (w) (k))) < (0 : Int))))) (bdF g7)) ?_
     refine R_mv t1 ?_
     refine G_yes (Eq.trans (@rfl V (V.bool (decide (((nth (w) (k))) < (0 : Int))))) (bdF g7)) ?_
     refine R_geq (x := ((nth (w) (k)))) (y := (n)) (@rfl V (iV ((nth (w) (k))))) (@rfl V (iV (n))) ?_
     refine R_pickF (Eq.trans (@rfl V (V.bool (decide (((nth (w) (k))) < (0 : Int))))) (bdF g7)) (@rfl V (V.bool (decide ((n) ≤ ((nth (w) (k))))))) ?_
     exact ⟨t0, t1, t5, (Eq.trans (@rfl V (V.bool (decide ((n) ≤ ((nth (w) (k))))))) (dec_orF g7)), trivial⟩
   intro T H ⟨t0, t1, t5, t30, _⟩
   exact R_nil ⟨t0, t1, t5, t30, trivial⟩
  intro T H ⟨t0, t1, t5, t30, _⟩
  refine W_if (p := (((nth (w) (k))) < (0 : Int)) ∨ ((n) ≤ ((nth (w) (k))))) t30 (fun c8 => ?_) (fun c8 => ?_)
  ·
   refine W_seq_regc (fun T H => T 4 = (iV (1 : Int)) ∧ True) ?_ ?_
   ·
    unfold r44_9
    refine R_mv (@rfl V (iV (1 : Int))) ?_
    exact R_nil ⟨rfl, trivial⟩
   intro T H ⟨t4, _⟩
   refine W_ret ?_
   refine y6 _ _ ?_
   refine p24 _ _ ?_
   refine y3 _ _ ?_
   refine Ret_1 t4 (fz_int ?_)
   · rw [hc, fe_hit (by unfold wE; split <;> omega) (by omega)]; unfold wE; split <;> omega
  refine W_skip ?_
  refine n6 _ _ ?_
  refine .done ?_
  refine W_regc (fun T H => T 0 = (V.sl (List.map cI (w))) ∧ T 1 = (iV (n)) ∧ T 5 = (iV ((k + 1 : Nat) : Int)) ∧ True) ?_ ?_
  ·
   unfold r44_7
   refine R_mv t5 ?_
   refine R_addN (m := k) (n := 1) (@rfl V (iV ((k : Nat) : Int))) (@rfl V (iV ((1 : Nat) : Int))) (by omega) ?_
   refine R_mv (@rfl V (iV ((k + 1 : Nat) : Int))) ?_
   exact R_nil ⟨t0, t1, rfl, trivial⟩
  intro T H ⟨t0, t1, t5, _⟩
  refine p14 _ _ _ ?_ ⟨(k + 1), rfl, t0, t1, (Eq.trans t5 (by first | rfl | simp)), ?_, ?_, ?_, ?_⟩
  · omega
  · omega
  · omega
  · omega
  · rw [hc, fe_skip (by unfold wE; split <;> omega) (by omega)]
 refine W_seq_exit ?_
 refine p34 _ _ _ ?_
 refine x3 _ _ ?_
 refine .done ?_
 refine W_seq_regc (fun T H => T 4 = (iV (0 : Int)) ∧ True) ?_ ?_
 ·
  unfold r44_10
  refine R_mv (@rfl V (iV (0 : Int))) ?_
  exact R_nil ⟨rfl, trivial⟩
 intro T H ⟨t4, _⟩
 refine W_ret ?_
 refine Ret_1 t4 (fz_int ?_)
 · rw [hc, fe_end (by omega)]
end Go.Proofs.YtmnjchcoigbngaaGreat


namespace Go.Proofs.YtmnjchcoigbngaaGreat
open Go Go.Proofs
def r61_0 : List SO := [
  ⟨none, some 4, .mv (.c (.int .i64 0))⟩]
def r61_1 : List SO := [
  ⟨none, some 6, .mv (.t 0)⟩,
  ⟨none, some 7, .len (.t 6)⟩,
  ⟨none, some 8, .mv (.t 1)⟩,
  ⟨none, some 9, .len (.t 8)⟩,
  ⟨none, some 10, .bin .neq (.t 7) (.t 9)⟩]
def r61_2 : List SO := [
  ⟨none, some 4, .mv (.c (.int .i64 1))⟩]
def r61_3 : List SO := [
  ⟨none, some 5, .mv (.c (.int .i64 0))⟩]
def r61_4 : List SO := [
  ⟨none, some 11, .mv (.t 5)⟩,
  ⟨none, some 12, .mv (.t 0)⟩,
  ⟨none, some 13, .len (.t 12)⟩,
  ⟨none, some 14, .bin .lss (.t 11) (.t 13)⟩]
def r61_6 : List SO := [
  ⟨none, some 17, .mv (.t 0)⟩,
  ⟨none, some 18, .mv (.t 5)⟩,
  ⟨none, some 19, .idx 1 (.t 17) (.t 18)⟩,
  ⟨none, some 20, .load false 1 (.t 19)⟩,
  ⟨none, some 21, .bin .lss (.t 20) (.c (.int .i64 0))⟩,
  ⟨none, some 22, .mv (.t 21)⟩,
  ⟨some (22, false), some 23, .mv (.t 0)⟩,
  ⟨some (22, false), some 24, .mv (.t 5)⟩,
  ⟨some (22, false), some 25, .idx 1 (.t 23) (.t 24)⟩,
  ⟨some (22, false), some 26, .load false 1 (.t 25)⟩,
  ⟨some (22, false), some 27, .bin .gtr (.t 26) (.c (.int .i64 1048576))⟩,
  ⟨none, some 28, .pick (.t 22) (.c (.bool true)) (.t 27)⟩]
def r61_7 : List SO := [
  ⟨none, some 4, .mv (.c (.int .i64 2))⟩]
def r61_5 : List SO := [
  ⟨none, some 15, .mv (.t 5)⟩,
  ⟨none, some 16, .bin .add (.t 15) (.c (.int .i64 1))⟩,
  ⟨none, some 5, .mv (.t 16)⟩]
def b61_0 : SC := .seq (.seq (.reg r61_4) (.cond (.t 14) (.skip) (.exit 0))) (.seq (.block 1 (.seq (.reg r61_6) (.cond (.t 28) (.seq (.reg r61_7) (.ret)) (.skip)))) (.reg r61_5))
def r61_8 : List SO := [
  ⟨none, some 4, .mv (.c (.int .i64 0))⟩]
def s61 : SF := ⟨29, [.tmp 4], .seq (.reg r61_0) (.seq (.seq (.reg r61_1) (.cond (.t 10) (.seq (.reg r61_2) (.ret)) (.skip))) (.seq (.seq (.reg r61_3) (.block 0 (.loop b61_0))) (.seq (.reg r61_8) (.ret))))⟩
theorem s61_ok : slimF Tryz.prog ⟨[57, 58, 59, 63, 67, 68, 77, 102, 103, 104, 110, 116, 120], []⟩ Tryz.f61 = some s61 := by kernel_rfl
end Go.Proofs.YtmnjchcoigbngaaGreat


namespace Go.Proofs.YtmnjchcoigbngaaGreat
open Go Go.Proofs
theorem outputs_pure (outs suffix : List Int) : PureC Tryz.prog 61 [(V.sl (List.map cI (outs))), (V.sl (List.map cI (suffix)))] (iV (vlE outs suffix)) := by
 refine pure_of_Wb true 6 Tryz.func61 s61_ok (by kernel_rfl) (by simp [s61]) (by simp) (by simp) fun hB => ?_
 simp only [bnd_map, bnd_int, bnd_bool, bnd_str, bnd_agg, bnd_pp, bnd_nil, bnd_cons, implies_true, and_true, true_and] at hB
 unfold s61
 dsimp only
 refine W_seq_regc (fun T H => T 0 = (V.sl (List.map cI (outs))) ∧ T 1 = (V.sl (List.map cI (suffix))) ∧ True) ?_ ?_
 ·
  unfold r61_0
  refine R_mv (@rfl V (iV (0 : Int))) ?_
  exact R_nil ⟨rfl, rfl, trivial⟩
 intro T H ⟨t0, t1, _⟩
 refine W_seq_seq ?_
 refine W_seq_regc (fun T H => T 0 = (V.sl (List.map cI (outs))) ∧ T 10 = (V.bool (decide (((outs.length : Nat) : Int) ≠ ((suffix.length : Nat) : Int)))) ∧ True) ?_ ?_
 ·
  unfold r61_1
  refine R_mv t0 ?_
  refine R_len (@rfl V (V.sl (List.map cI (outs)))) ?_
  refine R_mv t1 ?_
  refine R_len (@rfl V (V.sl (List.map cI (suffix)))) ?_
  refine R_neq (x := ((outs.length : Nat) : Int)) (y := ((suffix.length : Nat) : Int)) (@rfl V (iV ((outs.length : Nat) : Int))) (@rfl V (iV ((suffix.length : Nat) : Int))) ?_
  exact R_nil ⟨t0, rfl, trivial⟩
 intro T H ⟨t0, t10, _⟩
 refine W_seq_if (p := ((outs.length : Nat) : Int) ≠ ((suffix.length : Nat) : Int)) t10 (fun c1 => ?_) (fun c1 => ?_)
 ·
  refine W_seq_seq ?_
  refine W_seq_regc (fun T H => T 4 = (iV (1 : Int)) ∧ True) ?_ ?_
  ·
   unfold r61_2
   refine R_mv (@rfl V (iV (1 : Int))) ?_
   exact R_nil ⟨rfl, trivial⟩
  intro T H ⟨t4, _⟩
  refine W_seq_ret ?_
  refine Ret_1 t4 (fz_int ?_)
  · rw [vlE, if_pos (by omega)]
 refine W_seq_skip ?_
 refine W_seq_seq ?_
 refine W_seq_regc (fun T H => T 0 = (V.sl (List.map cI (outs))) ∧ T 5 = (iV (0 : Int)) ∧ True) ?_ ?_
 ·
  unfold r61_3
  refine R_mv (@rfl V (iV (0 : Int))) ?_
  exact R_nil ⟨t0, rfl, trivial⟩
 intro T H ⟨t0, t5, _⟩
 refine W_seq_blockg fun Q2 n2 x2 y2 z2 => ?_
 refine W_loop (fun mm T H => ∃ (k : Nat), mm = outs.length - k ∧ T 0 = (V.sl (List.map cI (outs))) ∧ T 5 = (iV ((k : Nat) : Int)) ∧ (k ≤ outs.length) ∧ (outs.length = suffix.length) ∧ (fe (ouE outs) 0 outs.length = fe (ouE outs) k (outs.length - k))) ?_ ?_
 ·
  refine ⟨_, 0, rfl, t0, (Eq.trans t5 (by first | rfl | simp)), ?_, ?_, ?_⟩
  · omega
  · omega
  · rfl
 intro mm T H ⟨k, hmm, t0, t5, hk, hl, hc⟩ Q3 p13 p23 p33
 unfold b61_0
 refine W_seq_seq ?_
 refine W_seq_regc (fun T H => T 0 = (V.sl (List.map cI (outs))) ∧ T 5 = (iV ((k : Nat) : Int)) ∧ T 14 = (V.bool (decide (((k : Nat) : Int) < ((outs.length : Nat) : Int)))) ∧ True) ?_ ?_
 ·
  unfold r61_4
  refine R_mv t5 ?_
  refine R_mv t0 ?_
  refine R_len (@rfl V (V.sl (List.map cI (outs)))) ?_
  refine R_lss (x := ((k : Nat) : Int)) (y := ((outs.length : Nat) : Int)) (@rfl V (iV ((k : Nat) : Int))) (@rfl V (iV ((outs.length : Nat) : Int))) ?_
  exact R_nil ⟨t0, t5, rfl, trivial⟩
 intro T H ⟨t0, t5, t14, _⟩
 refine W_seq_if (p := ((k : Nat) : Int) < ((outs.length : Nat) : Int)) t14 (fun c4 => ?_) (fun c4 => ?_)
 ·
  refine W_seq_skip ?_
  refine W_seq_blockg fun Q5 n5 x5 y5 z5 => ?_
  refine W_seq_regc (fun T H => T 0 = (V.sl (List.map cI (outs))) ∧ T 5 = (iV ((k : Nat) : Int)) ∧ T 28 = (V.bool (decide ((((nth (outs) (k))) < (0 : Int)) ∨ ((1048576 : Int) < ((nth (outs) (k))))))) ∧ True) ?_ ?_
  ·
   unfold r61_6
   refine R_mv t0 ?_
   refine R_mv t5 ?_
   refine R_idx (i := k) (@rfl V (V.sl (List.map cI (outs)))) (@rfl V (iV ((k : Nat) : Int))) (by omega) rfl ?_
   refine R_load_pp (v := (iV ((nth (outs) (k))))) (@rfl V (V.pp [(iV ((nth (outs) (k))))])) (by first | rfl | simp [ldV]) ?_
   refine R_lss (x := ((nth (outs) (k)))) (y := (0 : Int)) (@rfl V (iV ((nth (outs) (k))))) (@rfl V (iV (0 : Int))) ?_
   refine R_mv (@rfl V (V.bool (decide (((nth (outs) (k))) < (0 : Int))))) ?_
   refine Ops_seg 6 (fun T H => T 0 = (V.sl (List.map cI (outs))) ∧ T 5 = (iV ((k : Nat) : Int)) ∧ T 28 = (V.bool (decide ((((nth (outs) (k))) < (0 : Int)) ∨ ((1048576 : Int) < ((nth (outs) (k))))))) ∧ True) ?_ ?_
   ·
    by_cases g6 : ((nth (outs) (k))) < (0 : Int)
    ·
     refine G_no (Eq.trans (@rfl V (V.bool (decide (((nth (outs) (k))) < (0 : Int))))) (bdT g6)) (by decide) ?_
     refine G_no (Eq.trans (@rfl V (V.bool (decide (((nth (outs) (k))) < (0 : Int))))) (bdT g6)) (by decide) ?_
     refine G_no (Eq.trans (@rfl V (V.bool (decide (((nth (outs) (k))) < (0 : Int))))) (bdT g6)) (by decide) ?_
     refine G_no (Eq.trans (@rfl V (V.bool (decide (((nth (outs) (k))) < (0 : Int))))) (bdT g6)) (by decide) ?_
     refine G_no (Eq.trans (@rfl V (V.bool (decide (((nth (outs) (k))) < (0 : Int))))) (bdT g6)) (by decide) ?_
     refine R_pickT (Eq.trans (@rfl V (V.bool (decide (((nth (outs) (k))) < (0 : Int))))) (bdT g6)) (@rfl V (V.bool true)) ?_
     exact ⟨t0, t5, (Eq.trans (@rfl V (V.bool true)) (dec_orT g6)), trivial⟩
    ·
     refine G_yes (Eq.trans (@rfl V (V.bool (decide (((nth (outs) (k))) < (0 : Int))))) (bdF g6)) ?_
     refine R_mv t0 ?_
     refine G_yes (Eq.trans (@rfl V (V.bool (decide (((nth (outs) (k))) < (0 : Int))))) (bdF g6)) ?_
     refine R_mv t5 ?_
     refine G_yes (Eq.trans (@rfl V (V.bool (decide (((nth (outs) (k))) < (0 : Int))))) (bdF g6)) ?_
     refine R_idx (i := k) (@rfl V (V.sl (List.map cI (outs)))) (@rfl V (iV ((k : Nat) : Int))) (by omega) rfl ?_
     refine G_yes (Eq.trans (@rfl V (V.bool (decide (((nth (outs) (k))) < (0 : Int))))) (bdF g6)) ?_
     refine R_load_pp (v := (iV ((nth (outs) (k))))) (@rfl V (V.pp [(iV ((nth (outs) (k))))])) (by first | rfl | simp [ldV]) ?_
     refine G_yes (Eq.trans (@rfl V (V.bool (decide (((nth (outs) (k))) < (0 : Int))))) (bdF g6)) ?_
     refine R_gtr (x := ((nth (outs) (k)))) (y := (1048576 : Int)) (@rfl V (iV ((nth (outs) (k))))) (@rfl V (iV (1048576 : Int))) ?_
     refine R_pickF (Eq.trans (@rfl V (V.bool (decide (((nth (outs) (k))) < (0 : Int))))) (bdF g6)) (@rfl V (V.bool (decide ((1048576 : Int) < ((nth (outs) (k))))))) ?_
     exact ⟨t0, t5, (Eq.trans (@rfl V (V.bool (decide ((1048576 : Int) < ((nth (outs) (k))))))) (dec_orF g6)), trivial⟩
   intro T H ⟨t0, t5, t28, _⟩
   exact R_nil ⟨t0, t5, t28, trivial⟩
  intro T H ⟨t0, t5, t28, _⟩
  refine W_if (p := (((nth (outs) (k))) < (0 : Int)) ∨ ((1048576 : Int) < ((nth (outs) (k))))) t28 (fun c7 => ?_) (fun c7 => ?_)
  ·
   refine W_seq_regc (fun T H => T 4 = (iV (2 : Int)) ∧ True) ?_ ?_
   ·
    unfold r61_7
    refine R_mv (@rfl V (iV (2 : Int))) ?_
    exact R_nil ⟨rfl, trivial⟩
   intro T H ⟨t4, _⟩
   refine W_ret ?_
   refine y5 _ _ ?_
   refine p23 _ _ ?_
   refine y2 _ _ ?_
   refine Ret_1 t4 (fz_int ?_)
   · rw [vlE, if_neg (by omega)]; rw [hc, fe_hit (by unfold ouE; split <;> omega) (by omega)]; unfold ouE; split <;> omega
  refine W_skip ?_
  refine n5 _ _ ?_
  refine .done ?_
  refine W_regc (fun T H => T 0 = (V.sl (List.map cI (outs))) ∧ T 5 = (iV ((k + 1 : Nat) : Int)) ∧ True) ?_ ?_
  ·
   unfold r61_5
   refine R_mv t5 ?_
   refine R_addN (m := k) (n := 1) (@rfl V (iV ((k : Nat) : Int))) (@rfl V (iV ((1 : Nat) : Int))) (by omega) ?_
   refine R_mv (@rfl V (iV ((k + 1 : Nat) : Int))) ?_
   exact R_nil ⟨t0, rfl, trivial⟩
  intro T H ⟨t0, t5, _⟩
  refine p13 _ _ _ ?_ ⟨(k + 1), rfl, t0, (Eq.trans t5 (by first | rfl | simp)), ?_, ?_, ?_⟩
  · omega
  · omega
  · omega
  · rw [hc, fe_skip (by unfold ouE; split <;> omega) (by omega)]
 refine W_seq_exit ?_
 refine p33 _ _ _ ?_
 refine x2 _ _ ?_
 refine .done ?_
 refine W_seq_regc (fun T H => T 4 = (iV (0 : Int)) ∧ True) ?_ ?_
 ·
  unfold r61_8
  refine R_mv (@rfl V (iV (0 : Int))) ?_
  exact R_nil ⟨rfl, trivial⟩
 intro T H ⟨t4, _⟩
 refine W_ret ?_
 refine Ret_1 t4 (fz_int ?_)
 · rw [vlE, if_neg (by omega)]; rw [hc, fe_end (by omega)]
end Go.Proofs.YtmnjchcoigbngaaGreat


namespace Go.Proofs.YtmnjchcoigbngaaGreat
open Go Go.Proofs
def r69_0 : List SO := [
  ⟨none, some 2, .mv (.c (.int .i64 0))⟩]
def r69_1 : List SO := [
  ⟨none, some 3, .mv (.t 0)⟩,
  ⟨none, some 4, .len (.t 3)⟩,
  ⟨none, some 5, .bin .eql (.t 4) (.c (.int .i64 0))⟩]
def r69_2 : List SO := [
  ⟨none, some 2, .mv (.c (.int .i64 19))⟩]
def r69_3 : List SO := [
  ⟨none, some 6, .mv (.t 0)⟩,
  ⟨none, some 7, .call false 44 [.t 6, .c (.int .i64 64)]⟩,
  ⟨none, some 2, .mv (.t 7)⟩]
def s69 : SF := ⟨8, [.tmp 2], .seq (.reg r69_0) (.seq (.seq (.reg r69_1) (.cond (.t 5) (.seq (.reg r69_2) (.ret)) (.skip))) (.seq (.reg r69_3) (.ret)))⟩
theorem s69_ok : slimF Tryz.prog ⟨[57, 58, 59, 63, 67, 68, 77, 102, 103, 104, 110, 116, 120], []⟩ Tryz.f69 = some s69 := by kernel_rfl
end Go.Proofs.YtmnjchcoigbngaaGreat


namespace Go.Proofs.YtmnjchcoigbngaaGreat
open Go Go.Proofs
theorem ending_pure (s : List Int) : PureC Tryz.prog 69 [(V.sl (List.map cI (s)))] (iV (if s.length = 0 then 19 else wchk s 64)) := by
 refine pure_of_Wb true 6 Tryz.func69 s69_ok (by kernel_rfl) (by simp [s69]) (by simp) (by simp) fun hB => ?_
 simp only [bnd_map, bnd_int, bnd_bool, bnd_str, bnd_agg, bnd_pp, bnd_nil, bnd_cons, implies_true, and_true, true_and] at hB
 unfold s69
 dsimp only
 refine W_seq_regc (fun T H => T 0 = (V.sl (List.map cI (s))) ∧ True) ?_ ?_
 ·
  unfold r69_0
  refine R_mv (@rfl V (iV (0 : Int))) ?_
  exact R_nil ⟨rfl, trivial⟩
 intro T H ⟨t0, _⟩
 refine W_seq_seq ?_
 refine W_seq_regc (fun T H => T 0 = (V.sl (List.map cI (s))) ∧ T 5 = (V.bool (decide (((s.length : Nat) : Int) = (0 : Int)))) ∧ True) ?_ ?_
 ·
  unfold r69_1
  refine R_mv t0 ?_
  refine R_len (@rfl V (V.sl (List.map cI (s)))) ?_
  refine R_eql (x := ((s.length : Nat) : Int)) (y := (0 : Int)) (@rfl V (iV ((s.length : Nat) : Int))) (@rfl V (iV (0 : Int))) ?_
  exact R_nil ⟨t0, rfl, trivial⟩
 intro T H ⟨t0, t5, _⟩
 refine W_seq_if (p := ((s.length : Nat) : Int) = (0 : Int)) t5 (fun c1 => ?_) (fun c1 => ?_)
 ·
  refine W_seq_seq ?_
  refine W_seq_regc (fun T H => T 2 = (iV (19 : Int)) ∧ True) ?_ ?_
  ·
   unfold r69_2
   refine R_mv (@rfl V (iV (19 : Int))) ?_
   exact R_nil ⟨rfl, trivial⟩
  intro T H ⟨t2, _⟩
  refine W_seq_ret ?_
  refine Ret_1 t2 (fz_int ?_)
  · rw [if_pos (by omega)]
 refine W_seq_skip ?_
 refine W_seq_regc (fun T H => T 2 = (iV (wchk s ((64 : Int)))) ∧ True) ?_ ?_
 ·
  unfold r69_3
  refine R_mv t0 ?_
  refine R_call (evcons (@rfl V (V.sl (List.map cI (s)))) (evcons (@rfl V (iV (64 : Int))) evnil)) (rcheck_pure s ((64 : Int))) (fzv_mapcanon _ _ (by simp [-List.map_take, -List.map_drop, -List.map_append, -List.map_reverse])) (by simp [-List.map_take, -List.map_drop, -List.map_append, -List.map_reverse]) (Or.inl (by simp [-List.map_take, -List.map_drop, -List.map_append, -List.map_reverse])) ?_
  refine R_mv (@rfl V (iV (wchk s ((64 : Int))))) ?_
  exact R_nil ⟨rfl, trivial⟩
 intro T H ⟨t2, _⟩
 refine W_ret ?_
 refine Ret_1 t2 (fz_int ?_)
 · rw [if_neg (by omega)]
end Go.Proofs.YtmnjchcoigbngaaGreat


namespace Go.Proofs.YtmnjchcoigbngaaGreat
open Go Go.Proofs
def r76_0 : List SO := [
  ⟨none, some 4, .mv (.c (.int .i64 0))⟩]
def r76_1 : List SO := [
  ⟨none, some 6, .mv (.t 0)⟩,
  ⟨none, some 7, .mv (.t 1)⟩,
  ⟨none, some 8, .call false 53 [.t 6, .t 7]⟩,
  ⟨none, some 5, .mv (.t 8)⟩]
def r76_2 : List SO := [
  ⟨none, some 10, .mv (.t 5)⟩,
  ⟨none, some 11, .mv (.t 0)⟩,
  ⟨none, some 12, .len (.t 11)⟩,
  ⟨none, some 13, .bin .eql (.t 10) (.t 12)⟩,
  ⟨none, some 14, .mv (.t 13)⟩,
  ⟨some (14, true), some 15, .mv (.t 5)⟩,
  ⟨some (14, true), some 16, .mv (.t 1)⟩,
  ⟨some (14, true), some 17, .len (.t 16)⟩,
  ⟨some (14, true), some 18, .bin .eql (.t 15) (.t 17)⟩,
  ⟨none, some 19, .pick (.t 14) (.t 18) (.c (.bool false))⟩,
  ⟨none, some 9, .mv (.t 19)⟩]
def r76_3 : List SO := [
  ⟨none, some 4, .mv (.c (.int .i64 0))⟩]
def r76_4 : List SO := [
  ⟨none, some 21, .mv (.t 5)⟩,
  ⟨none, some 22, .mv (.t 0)⟩,
  ⟨none, some 23, .len (.t 22)⟩,
  ⟨none, some 24, .bin .eql (.t 21) (.t 23)⟩,
  ⟨none, some 20, .mv (.t 24)⟩]
def r76_5 : List SO := [
  ⟨none, some 25, .mv (.t 5)⟩,
  ⟨none, some 26, .mv (.t 1)⟩,
  ⟨none, some 27, .len (.t 26)⟩,
  ⟨none, some 28, .bin .lss (.t 25) (.t 27)⟩,
  ⟨none, some 29, .mv (.t 28)⟩,
  ⟨some (29, true), some 30, .mv (.t 0)⟩,
  ⟨some (29, true), some 31, .mv (.t 5)⟩,
  ⟨some (29, true), some 32, .idx 1 (.t 30) (.t 31)⟩,
  ⟨some (29, true), some 33, .load false 1 (.t 32)⟩,
  ⟨some (29, true), some 34, .mv (.t 1)⟩,
  ⟨some (29, true), some 35, .mv (.t 5)⟩,
  ⟨some (29, true), some 36, .idx 1 (.t 34) (.t 35)⟩,
  ⟨some (29, true), some 37, .load false 1 (.t 36)⟩,
  ⟨some (29, true), some 38, .bin .lss (.t 33) (.t 37)⟩,
  ⟨none, some 39, .pick (.t 29) (.t 38) (.c (.bool false))⟩,
  ⟨none, some 20, .mv (.t 39)⟩]
def r76_6 : List SO := [
  ⟨none, some 4, .mv (.c (.int .i64 (-1)))⟩]
def r76_7 : List SO := [
  ⟨none, some 4, .mv (.c (.int .i64 1))⟩]
def s76 : SF := ⟨40, [.tmp 4], .seq (.reg r76_0) (.seq (.reg r76_1) (.seq (.block 0 (.seq (.reg r76_2) (.cond (.t 9) (.seq (.reg r76_3) (.ret)) (.seq (.seq (.reg r76_4) (.cond (.t 20) (.skip) (.reg r76_5))) (.cond (.t 20) (.seq (.reg r76_6) (.ret)) (.skip)))))) (.seq (.reg r76_7) (.ret))))⟩
theorem s76_ok : slimF Tryz.prog ⟨[57, 58, 59, 63, 67, 68, 77, 102, 103, 104, 110, 116, 120], []⟩ Tryz.f76 = some s76 := by kernel_rfl
end Go.Proofs.YtmnjchcoigbngaaGreat


namespace Go.Proofs.YtmnjchcoigbngaaGreat
open Go Go.Proofs
theorem rlex_pure (a b : List Int) : PureC Tryz.prog 76 [(V.sl (List.map cI (a))), (V.sl (List.map cI (b)))] (iV (lexI a b)) := by
 refine pure_of_Wb true 6 Tryz.func76 s76_ok (by kernel_rfl) (by simp [s76]) (by simp) (by simp) fun hB => ?_
 simp only [bnd_map, bnd_int, bnd_bool, bnd_str, bnd_agg, bnd_pp, bnd_nil, bnd_cons, implies_true, and_true, true_and] at hB
 unfold s76
 dsimp only
 refine W_seq_regc (fun T H => T 0 = (V.sl (List.map cI (a))) ∧ T 1 = (V.sl (List.map cI (b))) ∧ True) ?_ ?_
 ·
  unfold r76_0
  refine R_mv (@rfl V (iV (0 : Int))) ?_
  exact R_nil ⟨rfl, rfl, trivial⟩
 intro T H ⟨t0, t1, _⟩
 refine W_seq_regc (fun T H => T 0 = (V.sl (List.map cI (a))) ∧ T 1 = (V.sl (List.map cI (b))) ∧ T 5 = (iV ((cmn a b : Nat) : Int)) ∧ True) ?_ ?_
 ·
  unfold r76_1
  refine R_mv t0 ?_
  refine R_mv t1 ?_
  have q1 := cmn_l a b
  have q2 := cmn_r a b
  refine R_call (evcons (@rfl V (V.sl (List.map cI (a)))) (evcons (@rfl V (V.sl (List.map cI (b)))) evnil)) (rcommon_pure a b) (fzv_mapcanon _ _ (by simp [-List.map_take, -List.map_drop, -List.map_append, -List.map_reverse])) (by simp [-List.map_take, -List.map_drop, -List.map_append, -List.map_reverse]) (Or.inl (by simp [-List.map_take, -List.map_drop, -List.map_append, -List.map_reverse])) ?_
  refine R_mv (@rfl V (iV ((cmn a b : Nat) : Int))) ?_
  exact R_nil ⟨t0, t1, rfl, trivial⟩
 intro T H ⟨t0, t1, t5, _⟩
 have q3 := cmn_l a b
 have q4 := cmn_r a b
 refine W_seq_blockg fun Q5 n5 x5 y5 z5 => ?_
 refine W_seq_regc (fun T H => T 0 = (V.sl (List.map cI (a))) ∧ T 1 = (V.sl (List.map cI (b))) ∧ T 5 = (iV ((cmn a b : Nat) : Int)) ∧ T 9 = (V.bool (decide ((((cmn a b : Nat) : Int) = ((a.length : Nat) : Int)) ∧ (((cmn a b : Nat) : Int) = ((b.length : Nat) : Int))))) ∧ True) ?_ ?_
 ·
  unfold r76_2
  refine R_mv t5 ?_
  refine R_mv t0 ?_
  refine R_len (@rfl V (V.sl (List.map cI (a)))) ?_
  refine R_eql (x := ((cmn a b : Nat) : Int)) (y := ((a.length : Nat) : Int)) (@rfl V (iV ((cmn a b : Nat) : Int))) (@rfl V (iV ((a.length : Nat) : Int))) ?_
  refine R_mv (@rfl V (V.bool (decide (((cmn a b : Nat) : Int) = ((a.length : Nat) : Int))))) ?_
  refine Ops_seg 5 (fun T H => T 0 = (V.sl (List.map cI (a))) ∧ T 1 = (V.sl (List.map cI (b))) ∧ T 5 = (iV ((cmn a b : Nat) : Int)) ∧ T 19 = (V.bool (decide ((((cmn a b : Nat) : Int) = ((a.length : Nat) : Int)) ∧ (((cmn a b : Nat) : Int) = ((b.length : Nat) : Int))))) ∧ True) ?_ ?_
  ·
   by_cases g6 : ((cmn a b : Nat) : Int) = ((a.length : Nat) : Int)
   ·
    refine G_yes (Eq.trans (@rfl V (V.bool (decide (((cmn a b : Nat) : Int) = ((a.length : Nat) : Int))))) (bdT g6)) ?_
    refine R_mv t5 ?_
    refine G_yes (Eq.trans (@rfl V (V.bool (decide (((cmn a b : Nat) : Int) = ((a.length : Nat) : Int))))) (bdT g6)) ?_
    refine R_mv t1 ?_
    refine G_yes (Eq.trans (@rfl V (V.bool (decide (((cmn a b : Nat) : Int) = ((a.length : Nat) : Int))))) (bdT g6)) ?_
    refine R_len (@rfl V (V.sl (List.map cI (b)))) ?_
    refine G_yes (Eq.trans (@rfl V (V.bool (decide (((cmn a b : Nat) : Int) = ((a.length : Nat) : Int))))) (bdT g6)) ?_
    refine R_eql (x := ((cmn a b : Nat) : Int)) (y := ((b.length : Nat) : Int)) (@rfl V (iV ((cmn a b : Nat) : Int))) (@rfl V (iV ((b.length : Nat) : Int))) ?_
    refine R_pickT (Eq.trans (@rfl V (V.bool (decide (((cmn a b : Nat) : Int) = ((a.length : Nat) : Int))))) (bdT g6)) (@rfl V (V.bool (decide (((cmn a b : Nat) : Int) = ((b.length : Nat) : Int))))) ?_
    exact ⟨t0, t1, t5, (Eq.trans (@rfl V (V.bool (decide (((cmn a b : Nat) : Int) = ((b.length : Nat) : Int))))) (dec_andT g6)), trivial⟩
   ·
    refine G_no (Eq.trans (@rfl V (V.bool (decide (((cmn a b : Nat) : Int) = ((a.length : Nat) : Int))))) (bdF g6)) (by decide) ?_
    refine G_no (Eq.trans (@rfl V (V.bool (decide (((cmn a b : Nat) : Int) = ((a.length : Nat) : Int))))) (bdF g6)) (by decide) ?_
    refine G_no (Eq.trans (@rfl V (V.bool (decide (((cmn a b : Nat) : Int) = ((a.length : Nat) : Int))))) (bdF g6)) (by decide) ?_
    refine G_no (Eq.trans (@rfl V (V.bool (decide (((cmn a b : Nat) : Int) = ((a.length : Nat) : Int))))) (bdF g6)) (by decide) ?_
    refine R_pickF (Eq.trans (@rfl V (V.bool (decide (((cmn a b : Nat) : Int) = ((a.length : Nat) : Int))))) (bdF g6)) (@rfl V (V.bool false)) ?_
    exact ⟨t0, t1, t5, (Eq.trans (@rfl V (V.bool false)) (dec_andF g6)), trivial⟩
  intro T H ⟨t0, t1, t5, t19, _⟩
  refine R_mv t19 ?_
  exact R_nil ⟨t0, t1, t5, rfl, trivial⟩
 intro T H ⟨t0, t1, t5, t9, _⟩
 refine W_if (p := (((cmn a b : Nat) : Int) = ((a.length : Nat) : Int)) ∧ (((cmn a b : Nat) : Int) = ((b.length : Nat) : Int))) t9 (fun c7 => ?_) (fun c7 => ?_)
 ·
  refine W_seq_regc (fun T H => T 4 = (iV (0 : Int)) ∧ True) ?_ ?_
  ·
   unfold r76_3
   refine R_mv (@rfl V (iV (0 : Int))) ?_
   exact R_nil ⟨rfl, trivial⟩
  intro T H ⟨t4, _⟩
  refine W_ret ?_
  refine y5 _ _ ?_
  refine Ret_1 t4 (fz_int ?_)
  · unfold lexI; rw [if_pos (by omega)]
 refine W_seq_seq ?_
 refine W_seq_regc (fun T H => T 0 = (V.sl (List.map cI (a))) ∧ T 1 = (V.sl (List.map cI (b))) ∧ T 5 = (iV ((cmn a b : Nat) : Int)) ∧ T 20 = (V.bool (decide (((cmn a b : Nat) : Int) = ((a.length : Nat) : Int)))) ∧ True) ?_ ?_
 ·
  unfold r76_4
  refine R_mv t5 ?_
  refine R_mv t0 ?_
  refine R_len (@rfl V (V.sl (List.map cI (a)))) ?_
  refine R_eql (x := ((cmn a b : Nat) : Int)) (y := ((a.length : Nat) : Int)) (@rfl V (iV ((cmn a b : Nat) : Int))) (@rfl V (iV ((a.length : Nat) : Int))) ?_
  refine R_mv (@rfl V (V.bool (decide (((cmn a b : Nat) : Int) = ((a.length : Nat) : Int))))) ?_
  exact R_nil ⟨t0, t1, t5, rfl, trivial⟩
 intro T H ⟨t0, t1, t5, t20, _⟩
 refine W_seq_if (p := ((cmn a b : Nat) : Int) = ((a.length : Nat) : Int)) t20 (fun c8 => ?_) (fun c8 => ?_)
 ·
  refine W_seq_skip ?_
  refine W_if (p := ((cmn a b : Nat) : Int) = ((a.length : Nat) : Int)) t20 (fun c9 => ?_) (fun c9 => ?_)
  ·
   refine W_seq_regc (fun T H => T 4 = (iV (-1 : Int)) ∧ True) ?_ ?_
   ·
    unfold r76_6
    refine R_mv (@rfl V (iV (-1 : Int))) ?_
    exact R_nil ⟨rfl, trivial⟩
   intro T H ⟨t4, _⟩
   refine W_ret ?_
   refine y5 _ _ ?_
   refine Ret_1 t4 (fz_int ?_)
   · unfold lexI; rw [if_neg (by omega), if_pos (by omega)]
  · exact (c9 c8).elim
 refine W_seq_regc (fun T H => T 20 = (V.bool (decide ((((cmn a b : Nat) : Int) < ((b.length : Nat) : Int)) ∧ (((nth (a) (cmn a b))) < ((nth (b) (cmn a b))))))) ∧ True) ?_ ?_
 ·
  unfold r76_5
  refine R_mv t5 ?_
  refine R_mv t1 ?_
  refine R_len (@rfl V (V.sl (List.map cI (b)))) ?_
  refine R_lss (x := ((cmn a b : Nat) : Int)) (y := ((b.length : Nat) : Int)) (@rfl V (iV ((cmn a b : Nat) : Int))) (@rfl V (iV ((b.length : Nat) : Int))) ?_
  refine R_mv (@rfl V (V.bool (decide (((cmn a b : Nat) : Int) < ((b.length : Nat) : Int))))) ?_
  refine Ops_seg 10 (fun T H => T 20 = (V.bool (decide (((cmn a b : Nat) : Int) = ((a.length : Nat) : Int)))) ∧ T 39 = (V.bool (decide ((((cmn a b : Nat) : Int) < ((b.length : Nat) : Int)) ∧ (((nth (a) (cmn a b))) < ((nth (b) (cmn a b))))))) ∧ True) ?_ ?_
  ·
   by_cases g10 : ((cmn a b : Nat) : Int) < ((b.length : Nat) : Int)
   ·
    refine G_yes (Eq.trans (@rfl V (V.bool (decide (((cmn a b : Nat) : Int) < ((b.length : Nat) : Int))))) (bdT g10)) ?_
    refine R_mv t0 ?_
    refine G_yes (Eq.trans (@rfl V (V.bool (decide (((cmn a b : Nat) : Int) < ((b.length : Nat) : Int))))) (bdT g10)) ?_
    refine R_mv t5 ?_
    refine G_yes (Eq.trans (@rfl V (V.bool (decide (((cmn a b : Nat) : Int) < ((b.length : Nat) : Int))))) (bdT g10)) ?_
    refine R_idx (i := (cmn a b)) (@rfl V (V.sl (List.map cI (a)))) (@rfl V (iV ((cmn a b : Nat) : Int))) (by omega) rfl ?_
    refine G_yes (Eq.trans (@rfl V (V.bool (decide (((cmn a b : Nat) : Int) < ((b.length : Nat) : Int))))) (bdT g10)) ?_
    refine R_load_pp (v := (iV ((nth (a) (cmn a b))))) (@rfl V (V.pp [(iV ((nth (a) (cmn a b))))])) (by first | rfl | simp [ldV]) ?_
    refine G_yes (Eq.trans (@rfl V (V.bool (decide (((cmn a b : Nat) : Int) < ((b.length : Nat) : Int))))) (bdT g10)) ?_
    refine R_mv t1 ?_
    refine G_yes (Eq.trans (@rfl V (V.bool (decide (((cmn a b : Nat) : Int) < ((b.length : Nat) : Int))))) (bdT g10)) ?_
    refine R_mv t5 ?_
    refine G_yes (Eq.trans (@rfl V (V.bool (decide (((cmn a b : Nat) : Int) < ((b.length : Nat) : Int))))) (bdT g10)) ?_
    refine R_idx (i := (cmn a b)) (@rfl V (V.sl (List.map cI (b)))) (@rfl V (iV ((cmn a b : Nat) : Int))) (by omega) rfl ?_
    refine G_yes (Eq.trans (@rfl V (V.bool (decide (((cmn a b : Nat) : Int) < ((b.length : Nat) : Int))))) (bdT g10)) ?_
    refine R_load_pp (v := (iV ((nth (b) (cmn a b))))) (@rfl V (V.pp [(iV ((nth (b) (cmn a b))))])) (by first | rfl | simp [ldV]) ?_
    refine G_yes (Eq.trans (@rfl V (V.bool (decide (((cmn a b : Nat) : Int) < ((b.length : Nat) : Int))))) (bdT g10)) ?_
    refine R_lss (x := ((nth (a) (cmn a b)))) (y := ((nth (b) (cmn a b)))) (@rfl V (iV ((nth (a) (cmn a b))))) (@rfl V (iV ((nth (b) (cmn a b))))) ?_
    refine R_pickT (Eq.trans (@rfl V (V.bool (decide (((cmn a b : Nat) : Int) < ((b.length : Nat) : Int))))) (bdT g10)) (@rfl V (V.bool (decide (((nth (a) (cmn a b))) < ((nth (b) (cmn a b))))))) ?_
    exact ⟨t20, (Eq.trans (@rfl V (V.bool (decide (((nth (a) (cmn a b))) < ((nth (b) (cmn a b))))))) (dec_andT g10)), trivial⟩
   ·
    refine G_no (Eq.trans (@rfl V (V.bool (decide (((cmn a b : Nat) : Int) < ((b.length : Nat) : Int))))) (bdF g10)) (by decide) ?_
    refine G_no (Eq.trans (@rfl V (V.bool (decide (((cmn a b : Nat) : Int) < ((b.length : Nat) : Int))))) (bdF g10)) (by decide) ?_
    refine G_no (Eq.trans (@rfl V (V.bool (decide (((cmn a b : Nat) : Int) < ((b.length : Nat) : Int))))) (bdF g10)) (by decide) ?_
    refine G_no (Eq.trans (@rfl V (V.bool (decide (((cmn a b : Nat) : Int) < ((b.length : Nat) : Int))))) (bdF g10)) (by decide) ?_
    refine G_no (Eq.trans (@rfl V (V.bool (decide (((cmn a b : Nat) : Int) < ((b.length : Nat) : Int))))) (bdF g10)) (by decide) ?_
    refine G_no (Eq.trans (@rfl V (V.bool (decide (((cmn a b : Nat) : Int) < ((b.length : Nat) : Int))))) (bdF g10)) (by decide) ?_
    refine G_no (Eq.trans (@rfl V (V.bool (decide (((cmn a b : Nat) : Int) < ((b.length : Nat) : Int))))) (bdF g10)) (by decide) ?_
    refine G_no (Eq.trans (@rfl V (V.bool (decide (((cmn a b : Nat) : Int) < ((b.length : Nat) : Int))))) (bdF g10)) (by decide) ?_
    refine G_no (Eq.trans (@rfl V (V.bool (decide (((cmn a b : Nat) : Int) < ((b.length : Nat) : Int))))) (bdF g10)) (by decide) ?_
    refine R_pickF (Eq.trans (@rfl V (V.bool (decide (((cmn a b : Nat) : Int) < ((b.length : Nat) : Int))))) (bdF g10)) (@rfl V (V.bool false)) ?_
    exact ⟨t20, (Eq.trans (@rfl V (V.bool false)) (dec_andF g10)), trivial⟩
  intro T H ⟨t20, t39, _⟩
  refine R_mv t39 ?_
  exact R_nil ⟨rfl, trivial⟩
 intro T H ⟨t20, _⟩
 refine W_if (p := (((cmn a b : Nat) : Int) < ((b.length : Nat) : Int)) ∧ (((nth (a) (cmn a b))) < ((nth (b) (cmn a b))))) t20 (fun c11 => ?_) (fun c11 => ?_)
 ·
  refine W_seq_regc (fun T H => T 4 = (iV (-1 : Int)) ∧ True) ?_ ?_
  ·
   unfold r76_6
   refine R_mv (@rfl V (iV (-1 : Int))) ?_
   exact R_nil ⟨rfl, trivial⟩
  intro T H ⟨t4, _⟩
  refine W_ret ?_
  refine y5 _ _ ?_
  refine Ret_1 t4 (fz_int ?_)
  · unfold lexI; rw [if_neg (by omega), if_pos (by omega)]
 refine W_skip ?_
 refine n5 _ _ ?_
 refine .done ?_
 refine W_seq_regc (fun T H => T 4 = (iV (1 : Int)) ∧ True) ?_ ?_
 ·
  unfold r76_7
  refine R_mv (@rfl V (iV (1 : Int))) ?_
  exact R_nil ⟨rfl, trivial⟩
 intro T H ⟨t4, _⟩
 refine W_ret ?_
 refine Ret_1 t4 (fz_int ?_)
 · unfold lexI; rw [if_neg (by omega), if_neg (by omega)]
end Go.Proofs.YtmnjchcoigbngaaGreat


namespace Go.Proofs.YtmnjchcoigbngaaGreat
open Go Go.Proofs
theorem rnode_pure (t : Dt) (x : Nd) (ho : x.ou.length ≤ 1048576) (hk0 : x.kd.length ≤ 1048576) : PureC Tryz.prog 39 [(V.agg [(V.sl (List.map cN (t.nd)))]), (V.agg [(V.bool x.lf), (V.sl (List.map cI (x.ac))), (V.sl (List.map cI (x.sf))), (V.sl (List.map cL (x.ou))), (V.sl (List.map cI (x.kd)))])] (iV (ndE x t.nd.length)) := by
 refine pure_of_Wb true 6 Tryz.func39 s39_ok (by kernel_rfl) (by simp [s39]) (by simp) (by simp) fun hB => ?_
 simp only [bnd_map, bnd_int, bnd_bool, bnd_str, bnd_agg, bnd_pp, bnd_nil, bnd_cons, implies_true, and_true, true_and] at hB
 unfold s39
 dsimp only
 refine W_seq_regc (fun T H => T 2 = (V.mp 2 1 0 0) ∧ T 3 = (V.mp 3 1 0 0) ∧ H 2 = (⟨1, true, false, 24, 1, [[(V.sl (List.map cN (t.nd)))]]⟩ : Blk) ∧ H 3 = (⟨1, true, false, 68, 5, [[(V.bool x.lf), (V.sl (List.map cI (x.ac))), (V.sl (List.map cI (x.sf))), (V.sl (List.map cL (x.ou))), (V.sl (List.map cI (x.kd)))]]⟩ : Blk) ∧ True) ?_ ?_
 ·
  unfold r39_0
  refine R_box (i := 2) (n := 0) (m := 1) (cs := [(V.sl (List.map cN (t.nd)))]) rfl (congrArg Blk.ver rfl) (@rfl V (V.agg [(V.sl (List.map cN (t.nd)))])) rfl rfl ?_
  refine R_box (i := 3) (n := 0) (m := 5) (cs := [(V.bool x.lf), (V.sl (List.map cI (x.ac))), (V.sl (List.map cI (x.sf))), (V.sl (List.map cL (x.ou))), (V.sl (List.map cI (x.kd)))]) rfl (congrArg Blk.ver rfl) (@rfl V (V.agg [(V.bool x.lf), (V.sl (List.map cI (x.ac))), (V.sl (List.map cI (x.sf))), (V.sl (List.map cL (x.ou))), (V.sl (List.map cI (x.kd)))])) rfl rfl ?_
  refine R_mv (@rfl V (iV (0 : Int))) ?_
  exact R_nil ⟨rfl, rfl, rfl, rfl, trivial⟩
 intro T H ⟨t2, t3, h2, h3, _⟩
 refine W_seq_seq ?_
 refine W_seq_regc (fun T H => T 2 = (V.mp 2 1 0 0) ∧ T 3 = (V.mp 3 1 0 0) ∧ T 10 = (V.bool x.lf) ∧ H 2 = (⟨1, true, false, 24, 1, [[(V.sl (List.map cN (t.nd)))]]⟩ : Blk) ∧ H 3 = (⟨1, true, false, 68, 5, [[(V.bool x.lf), (V.sl (List.map cI (x.ac))), (V.sl (List.map cI (x.sf))), (V.sl (List.map cL (x.ou))), (V.sl (List.map cI (x.kd)))]]⟩ : Blk) ∧ True) ?_ ?_
 ·
  unfold r39_1
  refine R_fld_mp (o' := 0) t3 h3 (by first | rfl | simp [okB, Blk.own]) rfl ?_
  refine R_load_mp (v := (V.bool x.lf)) (@rfl V (V.mp 3 1 0 0)) h3 (by first | rfl | simp [ldB, ldV, Blk.own, V.one]) ?_
  exact R_nil ⟨t2, t3, rfl, h2, h3, trivial⟩
 intro T H ⟨t2, t3, t10, h2, h3, _⟩
 refine W_seq_ifb t10 (fun c1 => ?_) (fun c1 => ?_)
 ·
  have d0 : x.lf = true := c1
  refine W_seq_seq ?_
  refine W_seq_seq ?_
  refine W_seq_regc (fun T H => T 3 = (V.mp 3 1 0 0) ∧ T 26 = (V.bool (decide ((((0 : Int) < ((x.sf.length : Nat) : Int)) ∨ ((0 : Int) < ((x.ou.length : Nat) : Int))) ∨ ((0 : Int) < ((x.kd.length : Nat) : Int))))) ∧ H 2 = (⟨1, true, false, 24, 1, [[(V.sl (List.map cN (t.nd)))]]⟩ : Blk) ∧ H 3 = (⟨1, true, false, 68, 5, [[(V.bool x.lf), (V.sl (List.map cI (x.ac))), (V.sl (List.map cI (x.sf))), (V.sl (List.map cL (x.ou))), (V.sl (List.map cI (x.kd)))]]⟩ : Blk) ∧ True) ?_ ?_
  ·
   unfold r39_2
   refine R_fld_mp (o' := 2) t3 h3 (by first | rfl | simp [okB, Blk.own]) rfl ?_
   refine R_load_mp (v := (V.sl (List.map cI (x.sf)))) (@rfl V (V.mp 3 1 0 2)) h3 (by first | rfl | simp [ldB, ldV, Blk.own, V.one]) ?_
   refine R_len (@rfl V (V.sl (List.map cI (x.sf)))) ?_
   refine R_gtr (x := ((x.sf.length : Nat) : Int)) (y := (0 : Int)) (@rfl V (iV ((x.sf.length : Nat) : Int))) (@rfl V (iV (0 : Int))) ?_
   refine R_mv (@rfl V (V.bool (decide ((0 : Int) < ((x.sf.length : Nat) : Int))))) ?_
   refine Ops_seg 5 (fun T H => T 3 = (V.mp 3 1 0 0) ∧ T 20 = (V.bool (decide (((0 : Int) < ((x.sf.length : Nat) : Int)) ∨ ((0 : Int) < ((x.ou.length : Nat) : Int))))) ∧ H 2 = (⟨1, true, false, 24, 1, [[(V.sl (List.map cN (t.nd)))]]⟩ : Blk) ∧ H 3 = (⟨1, true, false, 68, 5, [[(V.bool x.lf), (V.sl (List.map cI (x.ac))), (V.sl (List.map cI (x.sf))), (V.sl (List.map cL (x.ou))), (V.sl (List.map cI (x.kd)))]]⟩ : Blk) ∧ True) ?_ ?_
   ·
    by_cases g2 : (0 : Int) < ((x.sf.length : Nat) : Int)
    ·
     refine G_no (Eq.trans (@rfl V (V.bool (decide ((0 : Int) < ((x.sf.length : Nat) : Int))))) (bdT g2)) (by decide) ?_
     refine G_no (Eq.trans (@rfl V (V.bool (decide ((0 : Int) < ((x.sf.length : Nat) : Int))))) (bdT g2)) (by decide) ?_
     refine G_no (Eq.trans (@rfl V (V.bool (decide ((0 : Int) < ((x.sf.length : Nat) : Int))))) (bdT g2)) (by decide) ?_
     refine G_no (Eq.trans (@rfl V (V.bool (decide ((0 : Int) < ((x.sf.length : Nat) : Int))))) (bdT g2)) (by decide) ?_
     refine R_pickT (Eq.trans (@rfl V (V.bool (decide ((0 : Int) < ((x.sf.length : Nat) : Int))))) (bdT g2)) (@rfl V (V.bool true)) ?_
     exact ⟨t3, (Eq.trans (@rfl V (V.bool true)) (dec_orT g2)), h2, h3, trivial⟩
    ·
     refine G_yes (Eq.trans (@rfl V (V.bool (decide ((0 : Int) < ((x.sf.length : Nat) : Int))))) (bdF g2)) ?_
     refine R_fld_mp (o' := 3) t3 h3 (by first | rfl | simp [okB, Blk.own]) rfl ?_
     refine G_yes (Eq.trans (@rfl V (V.bool (decide ((0 : Int) < ((x.sf.length : Nat) : Int))))) (bdF g2)) ?_
     refine R_load_mp (v := (V.sl (List.map cL (x.ou)))) (@rfl V (V.mp 3 1 0 3)) h3 (by first | rfl | simp [ldB, ldV, Blk.own, V.one]) ?_
     refine G_yes (Eq.trans (@rfl V (V.bool (decide ((0 : Int) < ((x.sf.length : Nat) : Int))))) (bdF g2)) ?_
     refine R_len (@rfl V (V.sl (List.map cL (x.ou)))) ?_
     refine G_yes (Eq.trans (@rfl V (V.bool (decide ((0 : Int) < ((x.sf.length : Nat) : Int))))) (bdF g2)) ?_
     refine R_gtr (x := ((x.ou.length : Nat) : Int)) (y := (0 : Int)) (@rfl V (iV ((x.ou.length : Nat) : Int))) (@rfl V (iV (0 : Int))) ?_
     refine R_pickF (Eq.trans (@rfl V (V.bool (decide ((0 : Int) < ((x.sf.length : Nat) : Int))))) (bdF g2)) (@rfl V (V.bool (decide ((0 : Int) < ((x.ou.length : Nat) : Int))))) ?_
     exact ⟨t3, (Eq.trans (@rfl V (V.bool (decide ((0 : Int) < ((x.ou.length : Nat) : Int))))) (dec_orF g2)), h2, h3, trivial⟩
   intro T H ⟨t3, t20, h2, h3, _⟩
   refine R_mv t20 ?_
   refine Ops_seg 5 (fun T H => T 3 = (V.mp 3 1 0 0) ∧ T 26 = (V.bool (decide ((((0 : Int) < ((x.sf.length : Nat) : Int)) ∨ ((0 : Int) < ((x.ou.length : Nat) : Int))) ∨ ((0 : Int) < ((x.kd.length : Nat) : Int))))) ∧ H 2 = (⟨1, true, false, 24, 1, [[(V.sl (List.map cN (t.nd)))]]⟩ : Blk) ∧ H 3 = (⟨1, true, false, 68, 5, [[(V.bool x.lf), (V.sl (List.map cI (x.ac))), (V.sl (List.map cI (x.sf))), (V.sl (List.map cL (x.ou))), (V.sl (List.map cI (x.kd)))]]⟩ : Blk) ∧ True) ?_ ?_
   ·
    by_cases g3 : ((0 : Int) < ((x.sf.length : Nat) : Int)) ∨ ((0 : Int) < ((x.ou.length : Nat) : Int))
    ·
     refine G_no (Eq.trans (@rfl V (V.bool (decide (((0 : Int) < ((x.sf.length : Nat) : Int)) ∨ ((0 : Int) < ((x.ou.length : Nat) : Int)))))) (bdT g3)) (by decide) ?_
     refine G_no (Eq.trans (@rfl V (V.bool (decide (((0 : Int) < ((x.sf.length : Nat) : Int)) ∨ ((0 : Int) < ((x.ou.length : Nat) : Int)))))) (bdT g3)) (by decide) ?_
     refine G_no (Eq.trans (@rfl V (V.bool (decide (((0 : Int) < ((x.sf.length : Nat) : Int)) ∨ ((0 : Int) < ((x.ou.length : Nat) : Int)))))) (bdT g3)) (by decide) ?_
     refine G_no (Eq.trans (@rfl V (V.bool (decide (((0 : Int) < ((x.sf.length : Nat) : Int)) ∨ ((0 : Int) < ((x.ou.length : Nat) : Int)))))) (bdT g3)) (by decide) ?_
     refine R_pickT (Eq.trans (@rfl V (V.bool (decide (((0 : Int) < ((x.sf.length : Nat) : Int)) ∨ ((0 : Int) < ((x.ou.length : Nat) : Int)))))) (bdT g3)) (@rfl V (V.bool true)) ?_
     exact ⟨t3, (Eq.trans (@rfl V (V.bool true)) (dec_orT g3)), h2, h3, trivial⟩
    ·
     refine G_yes (Eq.trans (@rfl V (V.bool (decide (((0 : Int) < ((x.sf.length : Nat) : Int)) ∨ ((0 : Int) < ((x.ou.length : Nat) : Int)))))) (bdF g3)) ?_
     refine R_fld_mp (o' := 4) t3 h3 (by first | rfl | simp [okB, Blk.own]) rfl ?_
     refine G_yes (Eq.trans (@rfl V (V.bool (decide (((0 : Int) < ((x.sf.length : Nat) : Int)) ∨ ((0 : Int) < ((x.ou.length : Nat) : Int)))))) (bdF g3)) ?_
     refine R_load_mp (v := (V.sl (List.map cI (x.kd)))) (@rfl V (V.mp 3 1 0 4)) h3 (by first | rfl | simp [ldB, ldV, Blk.own, V.one]) ?_
     refine G_yes (Eq.trans (@rfl V (V.bool (decide (((0 : Int) < ((x.sf.length : Nat) : Int)) ∨ ((0 : Int) < ((x.ou.length : Nat) : Int)))))) (bdF g3)) ?_
     refine R_len (@rfl V (V.sl (List.map cI (x.kd)))) ?_
     refine G_yes (Eq.trans (@rfl V (V.bool (decide (((0 : Int) < ((x.sf.length : Nat) : Int)) ∨ ((0 : Int) < ((x.ou.length : Nat) : Int)))))) (bdF g3)) ?_
     refine R_gtr (x := ((x.kd.length : Nat) : Int)) (y := (0 : Int)) (@rfl V (iV ((x.kd.length : Nat) : Int))) (@rfl V (iV (0 : Int))) ?_
     refine R_pickF (Eq.trans (@rfl V (V.bool (decide (((0 : Int) < ((x.sf.length : Nat) : Int)) ∨ ((0 : Int) < ((x.ou.length : Nat) : Int)))))) (bdF g3)) (@rfl V (V.bool (decide ((0 : Int) < ((x.kd.length : Nat) : Int))))) ?_
     exact ⟨t3, (Eq.trans (@rfl V (V.bool (decide ((0 : Int) < ((x.kd.length : Nat) : Int))))) (dec_orF g3)), h2, h3, trivial⟩
   intro T H ⟨t3, t26, h2, h3, _⟩
   exact R_nil ⟨t3, t26, h2, h3, trivial⟩
  intro T H ⟨t3, t26, h2, h3, _⟩
  refine W_seq_if (p := (((0 : Int) < ((x.sf.length : Nat) : Int)) ∨ ((0 : Int) < ((x.ou.length : Nat) : Int))) ∨ ((0 : Int) < ((x.kd.length : Nat) : Int))) t26 (fun c4 => ?_) (fun c4 => ?_)
  ·
   refine W_seq_seq ?_
   refine W_seq_regc (fun T H => T 4 = (iV (1 : Int)) ∧ H 2 = (⟨1, true, false, 24, 1, [[(V.sl (List.map cN (t.nd)))]]⟩ : Blk) ∧ H 3 = (⟨1, true, false, 68, 5, [[(V.bool x.lf), (V.sl (List.map cI (x.ac))), (V.sl (List.map cI (x.sf))), (V.sl (List.map cL (x.ou))), (V.sl (List.map cI (x.kd)))]]⟩ : Blk) ∧ True) ?_ ?_
   ·
    unfold r39_3
    refine R_mv (@rfl V (iV (1 : Int))) ?_
    exact R_nil ⟨rfl, h2, h3, trivial⟩
   intro T H ⟨t4, h2, h3, _⟩
   refine W_seq_ret ?_
   refine Ret_1 t4 (fz_int ?_)
   · rw [ndE, if_pos d0, lfE, if_pos (by omega)]
  refine W_seq_skip ?_
  refine W_seq_seq ?_
  refine W_seq_regc (fun T H => T 4 = (iV (wchk x.ac ((64 : Int)))) ∧ H 2 = (⟨1, true, false, 24, 1, [[(V.sl (List.map cN (t.nd)))]]⟩ : Blk) ∧ H 3 = (⟨1, true, false, 68, 5, [[(V.bool x.lf), (V.sl (List.map cI (x.ac))), (V.sl (List.map cI (x.sf))), (V.sl (List.map cL (x.ou))), (V.sl (List.map cI (x.kd)))]]⟩ : Blk) ∧ True) ?_ ?_
  ·
   unfold r39_4
   refine R_fld_mp (o' := 1) t3 h3 (by first | rfl | simp [okB, Blk.own]) rfl ?_
   refine R_load_mp (v := (V.sl (List.map cI (x.ac)))) (@rfl V (V.mp 3 1 0 1)) h3 (by first | rfl | simp [ldB, ldV, Blk.own, V.one]) ?_
   refine R_call (evcons (@rfl V (V.sl (List.map cI (x.ac)))) (evcons (@rfl V (iV (64 : Int))) evnil)) (rcheck_pure x.ac ((64 : Int))) (fzv_mapcanon _ _ (by simp [-List.map_take, -List.map_drop, -List.map_append, -List.map_reverse])) (by simp [-List.map_take, -List.map_drop, -List.map_append, -List.map_reverse]) (Or.inl (by simp [-List.map_take, -List.map_drop, -List.map_append, -List.map_reverse])) ?_
   refine R_mv (@rfl V (iV (wchk x.ac ((64 : Int))))) ?_
   exact R_nil ⟨rfl, h2, h3, trivial⟩
  intro T H ⟨t4, h2, h3, _⟩
  refine W_seq_ret ?_
  refine Ret_1 t4 (fz_int ?_)
  · rw [ndE, if_pos d0, lfE, if_neg (by omega)]
 have d0 : x.lf = false := by simpa using c1
 refine W_seq_skip ?_
 refine W_seq_seq ?_
 refine W_seq_regc (fun T H => T 2 = (V.mp 2 1 0 0) ∧ T 3 = (V.mp 3 1 0 0) ∧ T 33 = (V.bool (decide ((0 : Int) < ((x.ac.length : Nat) : Int)))) ∧ H 2 = (⟨1, true, false, 24, 1, [[(V.sl (List.map cN (t.nd)))]]⟩ : Blk) ∧ H 3 = (⟨1, true, false, 68, 5, [[(V.bool x.lf), (V.sl (List.map cI (x.ac))), (V.sl (List.map cI (x.sf))), (V.sl (List.map cL (x.ou))), (V.sl (List.map cI (x.kd)))]]⟩ : Blk) ∧ True) ?_ ?_
 ·
  unfold r39_5
  refine R_fld_mp (o' := 1) t3 h3 (by first | rfl | simp [okB, Blk.own]) rfl ?_
  refine R_load_mp (v := (V.sl (List.map cI (x.ac)))) (@rfl V (V.mp 3 1 0 1)) h3 (by first | rfl | simp [ldB, ldV, Blk.own, V.one]) ?_
  refine R_len (@rfl V (V.sl (List.map cI (x.ac)))) ?_
  refine R_gtr (x := ((x.ac.length : Nat) : Int)) (y := (0 : Int)) (@rfl V (iV ((x.ac.length : Nat) : Int))) (@rfl V (iV (0 : Int))) ?_
  exact R_nil ⟨t2, t3, rfl, h2, h3, trivial⟩
 intro T H ⟨t2, t3, t33, h2, h3, _⟩
 refine W_seq_if (p := (0 : Int) < ((x.ac.length : Nat) : Int)) t33 (fun c5 => ?_) (fun c5 => ?_)
 ·
  refine W_seq_seq ?_
  refine W_seq_regc (fun T H => T 4 = (iV (1 : Int)) ∧ H 2 = (⟨1, true, false, 24, 1, [[(V.sl (List.map cN (t.nd)))]]⟩ : Blk) ∧ H 3 = (⟨1, true, false, 68, 5, [[(V.bool x.lf), (V.sl (List.map cI (x.ac))), (V.sl (List.map cI (x.sf))), (V.sl (List.map cL (x.ou))), (V.sl (List.map cI (x.kd)))]]⟩ : Blk) ∧ True) ?_ ?_
  ·
   unfold r39_6
   refine R_mv (@rfl V (iV (1 : Int))) ?_
   exact R_nil ⟨rfl, h2, h3, trivial⟩
  intro T H ⟨t4, h2, h3, _⟩
  refine W_seq_ret ?_
  refine Ret_1 t4 (fz_int ?_)
  · rw [ndE, if_neg (by simp [d0]), inE2, if_pos (by omega)]
 refine W_seq_skip ?_
 refine W_seq_seq ?_
 refine W_seq_regc (fun T H => T 2 = (V.mp 2 1 0 0) ∧ T 3 = (V.mp 3 1 0 0) ∧ T 5 = (iV (if x.sf.length = 0 then 19 else wchk x.sf 64)) ∧ H 2 = (⟨1, true, false, 24, 1, [[(V.sl (List.map cN (t.nd)))]]⟩ : Blk) ∧ H 3 = (⟨1, true, false, 68, 5, [[(V.bool x.lf), (V.sl (List.map cI (x.ac))), (V.sl (List.map cI (x.sf))), (V.sl (List.map cL (x.ou))), (V.sl (List.map cI (x.kd)))]]⟩ : Blk) ∧ True) ?_ ?_
 ·
  unfold r39_7
  refine R_fld_mp (o' := 2) t3 h3 (by first | rfl | simp [okB, Blk.own]) rfl ?_
  refine R_load_mp (v := (V.sl (List.map cI (x.sf)))) (@rfl V (V.mp 3 1 0 2)) h3 (by first | rfl | simp [ldB, ldV, Blk.own, V.one]) ?_
  refine R_call (evcons (@rfl V (V.sl (List.map cI (x.sf)))) evnil) (ending_pure x.sf) (fzv_mapcanon _ _ (by simp [-List.map_take, -List.map_drop, -List.map_append, -List.map_reverse])) (by simp [-List.map_take, -List.map_drop, -List.map_append, -List.map_reverse]) (Or.inl (by simp [-List.map_take, -List.map_drop, -List.map_append, -List.map_reverse])) ?_
  refine R_mv (@rfl V (iV (if x.sf.length = 0 then 19 else wchk x.sf 64))) ?_
  exact R_nil ⟨t2, t3, rfl, h2, h3, trivial⟩
 intro T H ⟨t2, t3, t5, h2, h3, _⟩
 refine W_seq_seq ?_
 refine W_seq_regc (fun T H => T 2 = (V.mp 2 1 0 0) ∧ T 3 = (V.mp 3 1 0 0) ∧ T 5 = (iV (if x.sf.length = 0 then 19 else wchk x.sf 64)) ∧ T 38 = (V.bool (decide ((if x.sf.length = 0 then 19 else wchk x.sf 64) ≠ (0 : Int)))) ∧ H 2 = (⟨1, true, false, 24, 1, [[(V.sl (List.map cN (t.nd)))]]⟩ : Blk) ∧ H 3 = (⟨1, true, false, 68, 5, [[(V.bool x.lf), (V.sl (List.map cI (x.ac))), (V.sl (List.map cI (x.sf))), (V.sl (List.map cL (x.ou))), (V.sl (List.map cI (x.kd)))]]⟩ : Blk) ∧ True) ?_ ?_
 ·
  unfold r39_8
  refine R_mv t5 ?_
  refine R_neq (x := (if x.sf.length = 0 then 19 else wchk x.sf 64)) (y := (0 : Int)) (@rfl V (iV (if x.sf.length = 0 then 19 else wchk x.sf 64))) (@rfl V (iV (0 : Int))) ?_
  exact R_nil ⟨t2, t3, t5, rfl, h2, h3, trivial⟩
 intro T H ⟨t2, t3, t5, t38, h2, h3, _⟩
 refine W_seq_if (p := (if x.sf.length = 0 then 19 else wchk x.sf 64) ≠ (0 : Int)) t38 (fun c6 => ?_) (fun c6 => ?_)
 ·
  have d4 : x.sf.length = 0 ∨ wchk x.sf 64 ≠ 0 := by by_cases e : x.sf.length = 0; exact .inl e; (rw [if_neg e] at c6; exact .inr c6)
  refine W_seq_seq ?_
  refine W_seq_regc (fun T H => T 4 = (iV (if x.sf.length = 0 then 19 else wchk x.sf 64)) ∧ H 2 = (⟨1, true, false, 24, 1, [[(V.sl (List.map cN (t.nd)))]]⟩ : Blk) ∧ H 3 = (⟨1, true, false, 68, 5, [[(V.bool x.lf), (V.sl (List.map cI (x.ac))), (V.sl (List.map cI (x.sf))), (V.sl (List.map cL (x.ou))), (V.sl (List.map cI (x.kd)))]]⟩ : Blk) ∧ True) ?_ ?_
  ·
   unfold r39_9
   refine R_mv t5 ?_
   refine R_mv (@rfl V (iV (if x.sf.length = 0 then 19 else wchk x.sf 64))) ?_
   exact R_nil ⟨rfl, h2, h3, trivial⟩
  intro T H ⟨t4, h2, h3, _⟩
  refine W_seq_ret ?_
  refine Ret_1 t4 (fz_int ?_)
  · rcases d4 with e | e
    · rw [if_pos e]; rw [ndE, if_neg (by simp [d0]), inE2, if_neg (by omega), if_pos e]
    · by_cases e2 : x.sf.length = 0
      · rw [if_pos e2]; rw [ndE, if_neg (by simp [d0]), inE2, if_neg (by omega), if_pos e2]
      · rw [if_neg e2]; rw [ndE, if_neg (by simp [d0]), inE2, if_neg (by omega), if_neg e2, if_pos e]
 have d4 : x.sf.length ≠ 0 ∧ wchk x.sf 64 = 0 := by by_cases e : x.sf.length = 0; (rw [if_pos e] at c6; exact (c6 (by decide)).elim); (rw [if_neg e] at c6; exact ⟨e, by omega⟩)
 refine W_seq_skip ?_
 refine W_seq_seq ?_
 refine W_seq_regc (fun T H => T 2 = (V.mp 2 1 0 0) ∧ T 3 = (V.mp 3 1 0 0) ∧ T 46 = (V.bool (decide (((x.ou.length : Nat) : Int) ≠ ((x.kd.length : Nat) : Int)))) ∧ H 2 = (⟨1, true, false, 24, 1, [[(V.sl (List.map cN (t.nd)))]]⟩ : Blk) ∧ H 3 = (⟨1, true, false, 68, 5, [[(V.bool x.lf), (V.sl (List.map cI (x.ac))), (V.sl (List.map cI (x.sf))), (V.sl (List.map cL (x.ou))), (V.sl (List.map cI (x.kd)))]]⟩ : Blk) ∧ True) ?_ ?_
 ·
  unfold r39_10
  refine R_fld_mp (o' := 3) t3 h3 (by first | rfl | simp [okB, Blk.own]) rfl ?_
  refine R_load_mp (v := (V.sl (List.map cL (x.ou)))) (@rfl V (V.mp 3 1 0 3)) h3 (by first | rfl | simp [ldB, ldV, Blk.own, V.one]) ?_
  refine R_len (@rfl V (V.sl (List.map cL (x.ou)))) ?_
  refine R_fld_mp (o' := 4) t3 h3 (by first | rfl | simp [okB, Blk.own]) rfl ?_
  refine R_load_mp (v := (V.sl (List.map cI (x.kd)))) (@rfl V (V.mp 3 1 0 4)) h3 (by first | rfl | simp [ldB, ldV, Blk.own, V.one]) ?_
  refine R_len (@rfl V (V.sl (List.map cI (x.kd)))) ?_
  refine R_neq (x := ((x.ou.length : Nat) : Int)) (y := ((x.kd.length : Nat) : Int)) (@rfl V (iV ((x.ou.length : Nat) : Int))) (@rfl V (iV ((x.kd.length : Nat) : Int))) ?_
  exact R_nil ⟨t2, t3, rfl, h2, h3, trivial⟩
 intro T H ⟨t2, t3, t46, h2, h3, _⟩
 refine W_seq_if (p := ((x.ou.length : Nat) : Int) ≠ ((x.kd.length : Nat) : Int)) t46 (fun c7 => ?_) (fun c7 => ?_)
 ·
  refine W_seq_seq ?_
  refine W_seq_regc (fun T H => T 4 = (iV (1 : Int)) ∧ H 2 = (⟨1, true, false, 24, 1, [[(V.sl (List.map cN (t.nd)))]]⟩ : Blk) ∧ H 3 = (⟨1, true, false, 68, 5, [[(V.bool x.lf), (V.sl (List.map cI (x.ac))), (V.sl (List.map cI (x.sf))), (V.sl (List.map cL (x.ou))), (V.sl (List.map cI (x.kd)))]]⟩ : Blk) ∧ True) ?_ ?_
  ·
   unfold r39_11
   refine R_mv (@rfl V (iV (1 : Int))) ?_
   exact R_nil ⟨rfl, h2, h3, trivial⟩
  intro T H ⟨t4, h2, h3, _⟩
  refine W_seq_ret ?_
  refine Ret_1 t4 (fz_int ?_)
  · rw [ndE, if_neg (by simp [d0]), inE2, if_neg (by omega), if_neg (by omega), if_neg (by omega), if_pos (by omega)]
 refine W_seq_skip ?_
 refine W_seq_seq ?_
 refine W_seq_regc (fun T H => T 2 = (V.mp 2 1 0 0) ∧ T 3 = (V.mp 3 1 0 0) ∧ T 6 = (iV (0 : Int)) ∧ H 2 = (⟨1, true, false, 24, 1, [[(V.sl (List.map cN (t.nd)))]]⟩ : Blk) ∧ H 3 = (⟨1, true, false, 68, 5, [[(V.bool x.lf), (V.sl (List.map cI (x.ac))), (V.sl (List.map cI (x.sf))), (V.sl (List.map cL (x.ou))), (V.sl (List.map cI (x.kd)))]]⟩ : Blk) ∧ True) ?_ ?_
 ·
  unfold r39_12
  refine R_mv (@rfl V (iV (0 : Int))) ?_
  exact R_nil ⟨t2, t3, rfl, h2, h3, trivial⟩
 intro T H ⟨t2, t3, t6, h2, h3, _⟩
 refine W_seq_blockg fun Q8 n8 x8 y8 z8 => ?_
 refine W_loop (fun mm T H => ∃ (k : Nat), mm = x.kd.length - k ∧ T 2 = (V.mp 2 1 0 0) ∧ T 3 = (V.mp 3 1 0 0) ∧ T 6 = (iV ((k : Nat) : Int)) ∧ H 2 = (⟨1, true, false, 24, 1, [[(V.sl (List.map cN (t.nd)))]]⟩ : Blk) ∧ H 3 = (⟨1, true, false, 68, 5, [[(V.bool x.lf), (V.sl (List.map cI (x.ac))), (V.sl (List.map cI (x.sf))), (V.sl (List.map cL (x.ou))), (V.sl (List.map cI (x.kd)))]]⟩ : Blk) ∧ (k ≤ x.kd.length) ∧ (x.ou.length = x.kd.length) ∧ (x.ac.length = 0) ∧ (x.sf.length ≠ 0) ∧ (wchk x.sf 64 = 0) ∧ (∀ j, j < k → chE x t.nd.length j = 0) ∧ (fe (chE x t.nd.length) 0 x.ou.length = fe (chE x t.nd.length) k (x.ou.length - k))) ?_ ?_
 ·
  refine ⟨_, 0, rfl, t2, t3, (Eq.trans t6 (by first | rfl | simp)), h2, h3, ?_, ?_, ?_, ?_, ?_, ?_, ?_⟩
  · omega
  · omega
  · omega
  · omega
  · omega
  · intro j hj; omega
  · rfl
 intro mm T H ⟨k, hmm, t2, t3, t6, h2, h3, hk, hl, ga, gs, gw, hp, hc⟩ Q9 p19 p29 p39
 unfold b39_0
 refine W_seq_seq ?_
 refine W_seq_regc (fun T H => T 2 = (V.mp 2 1 0 0) ∧ T 3 = (V.mp 3 1 0 0) ∧ T 6 = (iV ((k : Nat) : Int)) ∧ T 51 = (V.bool (decide (((k : Nat) : Int) < ((x.kd.length : Nat) : Int)))) ∧ H 2 = (⟨1, true, false, 24, 1, [[(V.sl (List.map cN (t.nd)))]]⟩ : Blk) ∧ H 3 = (⟨1, true, false, 68, 5, [[(V.bool x.lf), (V.sl (List.map cI (x.ac))), (V.sl (List.map cI (x.sf))), (V.sl (List.map cL (x.ou))), (V.sl (List.map cI (x.kd)))]]⟩ : Blk) ∧ True) ?_ ?_
 ·
  unfold r39_13
  refine R_mv t6 ?_
  refine R_fld_mp (o' := 4) t3 h3 (by first | rfl | simp [okB, Blk.own]) rfl ?_
  refine R_load_mp (v := (V.sl (List.map cI (x.kd)))) (@rfl V (V.mp 3 1 0 4)) h3 (by first | rfl | simp [ldB, ldV, Blk.own, V.one]) ?_
  refine R_len (@rfl V (V.sl (List.map cI (x.kd)))) ?_
  refine R_lss (x := ((k : Nat) : Int)) (y := ((x.kd.length : Nat) : Int)) (@rfl V (iV ((k : Nat) : Int))) (@rfl V (iV ((x.kd.length : Nat) : Int))) ?_
  exact R_nil ⟨t2, t3, t6, rfl, h2, h3, trivial⟩
 intro T H ⟨t2, t3, t6, t51, h2, h3, _⟩
 refine W_seq_if (p := ((k : Nat) : Int) < ((x.kd.length : Nat) : Int)) t51 (fun c10 => ?_) (fun c10 => ?_)
 ·
  refine W_seq_skip ?_
  refine W_seq_blockg fun Q11 n11 x11 y11 z11 => ?_
  refine W_seq_seq ?_
  refine W_seq_regc (fun T H => T 2 = (V.mp 2 1 0 0) ∧ T 3 = (V.mp 3 1 0 0) ∧ T 6 = (iV ((k : Nat) : Int)) ∧ T 7 = (iV (vlE ((nth (x.ou) (k))) x.sf)) ∧ H 2 = (⟨1, true, false, 24, 1, [[(V.sl (List.map cN (t.nd)))]]⟩ : Blk) ∧ H 3 = (⟨1, true, false, 68, 5, [[(V.bool x.lf), (V.sl (List.map cI (x.ac))), (V.sl (List.map cI (x.sf))), (V.sl (List.map cL (x.ou))), (V.sl (List.map cI (x.kd)))]]⟩ : Blk) ∧ True) ?_ ?_
  ·
   unfold r39_15
   refine R_fld_mp (o' := 3) t3 h3 (by first | rfl | simp [okB, Blk.own]) rfl ?_
   refine R_load_mp (v := (V.sl (List.map cL (x.ou)))) (@rfl V (V.mp 3 1 0 3)) h3 (by first | rfl | simp [ldB, ldV, Blk.own, V.one]) ?_
   refine R_mv t6 ?_
   refine R_idx (i := k) (@rfl V (V.sl (List.map cL (x.ou)))) (@rfl V (iV ((k : Nat) : Int))) (by omega) rfl ?_
   refine R_load_pp (v := (V.sl (List.map cI ((nth (x.ou) (k)))))) (@rfl V (V.pp [(V.sl (List.map cI ((nth (x.ou) (k)))))])) (by first | rfl | simp [ldV]) ?_
   refine R_fld_mp (o' := 2) t3 h3 (by first | rfl | simp [okB, Blk.own]) rfl ?_
   refine R_load_mp (v := (V.sl (List.map cI (x.sf)))) (@rfl V (V.mp 3 1 0 2)) h3 (by first | rfl | simp [ldB, ldV, Blk.own, V.one]) ?_
   refine R_call (evcons (@rfl V (V.sl (List.map cI ((nth (x.ou) (k)))))) (evcons (@rfl V (V.sl (List.map cI (x.sf)))) evnil)) (outputs_pure ((nth (x.ou) (k))) x.sf) (fzv_mapcanon _ _ (by simp [-List.map_take, -List.map_drop, -List.map_append, -List.map_reverse])) (by simp [-List.map_take, -List.map_drop, -List.map_append, -List.map_reverse]) (Or.inl (by simp [-List.map_take, -List.map_drop, -List.map_append, -List.map_reverse])) ?_
   refine R_mv (@rfl V (iV (vlE ((nth (x.ou) (k))) x.sf))) ?_
   exact R_nil ⟨t2, t3, t6, rfl, h2, h3, trivial⟩
  intro T H ⟨t2, t3, t6, t7, h2, h3, _⟩
  refine W_seq_seq ?_
  refine W_seq_regc (fun T H => T 2 = (V.mp 2 1 0 0) ∧ T 3 = (V.mp 3 1 0 0) ∧ T 6 = (iV ((k : Nat) : Int)) ∧ T 7 = (iV (vlE ((nth (x.ou) (k))) x.sf)) ∧ T 63 = (V.bool (decide ((vlE ((nth (x.ou) (k))) x.sf) ≠ (0 : Int)))) ∧ H 2 = (⟨1, true, false, 24, 1, [[(V.sl (List.map cN (t.nd)))]]⟩ : Blk) ∧ H 3 = (⟨1, true, false, 68, 5, [[(V.bool x.lf), (V.sl (List.map cI (x.ac))), (V.sl (List.map cI (x.sf))), (V.sl (List.map cL (x.ou))), (V.sl (List.map cI (x.kd)))]]⟩ : Blk) ∧ True) ?_ ?_
  ·
   unfold r39_16
   refine R_mv t7 ?_
   refine R_neq (x := (vlE ((nth (x.ou) (k))) x.sf)) (y := (0 : Int)) (@rfl V (iV (vlE ((nth (x.ou) (k))) x.sf))) (@rfl V (iV (0 : Int))) ?_
   exact R_nil ⟨t2, t3, t6, t7, rfl, h2, h3, trivial⟩
  intro T H ⟨t2, t3, t6, t7, t63, h2, h3, _⟩
  refine W_seq_if (p := (vlE ((nth (x.ou) (k))) x.sf) ≠ (0 : Int)) t63 (fun c12 => ?_) (fun c12 => ?_)
  ·
   refine W_seq_seq ?_
   refine W_seq_regc (fun T H => T 4 = (iV (vlE ((nth (x.ou) (k))) x.sf)) ∧ H 2 = (⟨1, true, false, 24, 1, [[(V.sl (List.map cN (t.nd)))]]⟩ : Blk) ∧ H 3 = (⟨1, true, false, 68, 5, [[(V.bool x.lf), (V.sl (List.map cI (x.ac))), (V.sl (List.map cI (x.sf))), (V.sl (List.map cL (x.ou))), (V.sl (List.map cI (x.kd)))]]⟩ : Blk) ∧ True) ?_ ?_
   ·
    unfold r39_17
    refine R_mv t7 ?_
    refine R_mv (@rfl V (iV (vlE ((nth (x.ou) (k))) x.sf))) ?_
    exact R_nil ⟨rfl, h2, h3, trivial⟩
   intro T H ⟨t4, h2, h3, _⟩
   refine W_seq_ret ?_
   refine y11 _ _ ?_
   refine p29 _ _ ?_
   refine y8 _ _ ?_
   refine Ret_1 t4 (fz_int ?_)
   · rw [ndE, if_neg (by simp [d0]), inE2, if_neg (by omega), if_neg (by omega), if_neg (by omega), if_neg (by omega), hc, fe_hit (by rw [chE, if_pos (by omega)]; omega) (by omega), chE, if_pos (by omega)]
  refine W_seq_skip ?_
  refine W_seq_seq ?_
  refine W_seq_regc (fun T H => T 2 = (V.mp 2 1 0 0) ∧ T 3 = (V.mp 3 1 0 0) ∧ T 6 = (iV ((k : Nat) : Int)) ∧ T 8 = (iV (0 : Int)) ∧ H 2 = (⟨1, true, false, 24, 1, [[(V.sl (List.map cN (t.nd)))]]⟩ : Blk) ∧ H 3 = (⟨1, true, false, 68, 5, [[(V.bool x.lf), (V.sl (List.map cI (x.ac))), (V.sl (List.map cI (x.sf))), (V.sl (List.map cL (x.ou))), (V.sl (List.map cI (x.kd)))]]⟩ : Blk) ∧ True) ?_ ?_
  ·
   unfold r39_18
   refine R_mv (@rfl V (iV (0 : Int))) ?_
   exact R_nil ⟨t2, t3, t6, rfl, h2, h3, trivial⟩
  intro T H ⟨t2, t3, t6, t8, h2, h3, _⟩
  refine W_seq_blockg fun Q13 n13 x13 y13 z13 => ?_
  refine W_loop (fun mm T H => ∃ (j : Nat), mm = k - j ∧ T 2 = (V.mp 2 1 0 0) ∧ T 3 = (V.mp 3 1 0 0) ∧ T 6 = (iV ((k : Nat) : Int)) ∧ T 8 = (iV ((j : Nat) : Int)) ∧ H 2 = (⟨1, true, false, 24, 1, [[(V.sl (List.map cN (t.nd)))]]⟩ : Blk) ∧ H 3 = (⟨1, true, false, 68, 5, [[(V.bool x.lf), (V.sl (List.map cI (x.ac))), (V.sl (List.map cI (x.sf))), (V.sl (List.map cL (x.ou))), (V.sl (List.map cI (x.kd)))]]⟩ : Blk) ∧ (j ≤ k) ∧ (∀ i, i < j → lexI (nth x.ou i) (nth x.ou k) < 0)) ?_ ?_
  ·
   refine ⟨_, 0, rfl, t2, t3, t6, (Eq.trans t8 (by first | rfl | simp)), h2, h3, ?_, ?_⟩
   · omega
   · intro i hi; omega
  intro mm T H ⟨j, hmm, t2, t3, t6, t8, h2, h3, hj, hq⟩ Q14 p114 p214 p314
  unfold b39_1
  refine W_seq_seq ?_
  refine W_seq_regc (fun T H => T 2 = (V.mp 2 1 0 0) ∧ T 3 = (V.mp 3 1 0 0) ∧ T 6 = (iV ((k : Nat) : Int)) ∧ T 8 = (iV ((j : Nat) : Int)) ∧ T 67 = (V.bool (decide (((j : Nat) : Int) < ((k : Nat) : Int)))) ∧ H 2 = (⟨1, true, false, 24, 1, [[(V.sl (List.map cN (t.nd)))]]⟩ : Blk) ∧ H 3 = (⟨1, true, false, 68, 5, [[(V.bool x.lf), (V.sl (List.map cI (x.ac))), (V.sl (List.map cI (x.sf))), (V.sl (List.map cL (x.ou))), (V.sl (List.map cI (x.kd)))]]⟩ : Blk) ∧ True) ?_ ?_
  ·
   unfold r39_19
   refine R_mv t8 ?_
   refine R_mv t6 ?_
   refine R_lss (x := ((j : Nat) : Int)) (y := ((k : Nat) : Int)) (@rfl V (iV ((j : Nat) : Int))) (@rfl V (iV ((k : Nat) : Int))) ?_
   exact R_nil ⟨t2, t3, t6, t8, rfl, h2, h3, trivial⟩
  intro T H ⟨t2, t3, t6, t8, t67, h2, h3, _⟩
  refine W_seq_if (p := ((j : Nat) : Int) < ((k : Nat) : Int)) t67 (fun c15 => ?_) (fun c15 => ?_)
  ·
   refine W_seq_skip ?_
   refine W_seq_blockg fun Q16 n16 x16 y16 z16 => ?_
   refine W_seq_regc (fun T H => T 2 = (V.mp 2 1 0 0) ∧ T 3 = (V.mp 3 1 0 0) ∧ T 6 = (iV ((k : Nat) : Int)) ∧ T 8 = (iV ((j : Nat) : Int)) ∧ T 81 = (V.bool (decide ((0 : Int) ≤ (lexI ((nth (x.ou) (j))) ((nth (x.ou) (k))))))) ∧ H 2 = (⟨1, true, false, 24, 1, [[(V.sl (List.map cN (t.nd)))]]⟩ : Blk) ∧ H 3 = (⟨1, true, false, 68, 5, [[(V.bool x.lf), (V.sl (List.map cI (x.ac))), (V.sl (List.map cI (x.sf))), (V.sl (List.map cL (x.ou))), (V.sl (List.map cI (x.kd)))]]⟩ : Blk) ∧ True) ?_ ?_
   ·
    unfold r39_21
    refine R_fld_mp (o' := 3) t3 h3 (by first | rfl | simp [okB, Blk.own]) rfl ?_
    refine R_load_mp (v := (V.sl (List.map cL (x.ou)))) (@rfl V (V.mp 3 1 0 3)) h3 (by first | rfl | simp [ldB, ldV, Blk.own, V.one]) ?_
    refine R_mv t8 ?_
    refine R_idx (i := j) (@rfl V (V.sl (List.map cL (x.ou)))) (@rfl V (iV ((j : Nat) : Int))) (by omega) rfl ?_
    refine R_load_pp (v := (V.sl (List.map cI ((nth (x.ou) (j)))))) (@rfl V (V.pp [(V.sl (List.map cI ((nth (x.ou) (j)))))])) (by first | rfl | simp [ldV]) ?_
    refine R_fld_mp (o' := 3) t3 h3 (by first | rfl | simp [okB, Blk.own]) rfl ?_
    refine R_load_mp (v := (V.sl (List.map cL (x.ou)))) (@rfl V (V.mp 3 1 0 3)) h3 (by first | rfl | simp [ldB, ldV, Blk.own, V.one]) ?_
    refine R_mv t6 ?_
    refine R_idx (i := k) (@rfl V (V.sl (List.map cL (x.ou)))) (@rfl V (iV ((k : Nat) : Int))) (by omega) rfl ?_
    refine R_load_pp (v := (V.sl (List.map cI ((nth (x.ou) (k)))))) (@rfl V (V.pp [(V.sl (List.map cI ((nth (x.ou) (k)))))])) (by first | rfl | simp [ldV]) ?_
    refine R_call (evcons (@rfl V (V.sl (List.map cI ((nth (x.ou) (j)))))) (evcons (@rfl V (V.sl (List.map cI ((nth (x.ou) (k)))))) evnil)) (rlex_pure ((nth (x.ou) (j))) ((nth (x.ou) (k)))) (fzv_mapcanon _ _ (by simp [-List.map_take, -List.map_drop, -List.map_append, -List.map_reverse])) (by simp [-List.map_take, -List.map_drop, -List.map_append, -List.map_reverse]) (Or.inl (by simp [-List.map_take, -List.map_drop, -List.map_append, -List.map_reverse])) ?_
    refine R_geq (x := (lexI ((nth (x.ou) (j))) ((nth (x.ou) (k))))) (y := (0 : Int)) (@rfl V (iV (lexI ((nth (x.ou) (j))) ((nth (x.ou) (k)))))) (@rfl V (iV (0 : Int))) ?_
    exact R_nil ⟨t2, t3, t6, t8, rfl, h2, h3, trivial⟩
   intro T H ⟨t2, t3, t6, t8, t81, h2, h3, _⟩
   refine W_if (p := (0 : Int) ≤ (lexI ((nth (x.ou) (j))) ((nth (x.ou) (k))))) t81 (fun c17 => ?_) (fun c17 => ?_)
   ·
    have d5 := ch_err (x := x) (n := t.nd.length) (k := k) (j := j) (by omega) (by omega) (by omega) hp
    refine W_seq_regc (fun T H => T 4 = (iV (10 : Int)) ∧ H 2 = (⟨1, true, false, 24, 1, [[(V.sl (List.map cN (t.nd)))]]⟩ : Blk) ∧ H 3 = (⟨1, true, false, 68, 5, [[(V.bool x.lf), (V.sl (List.map cI (x.ac))), (V.sl (List.map cI (x.sf))), (V.sl (List.map cL (x.ou))), (V.sl (List.map cI (x.kd)))]]⟩ : Blk) ∧ True) ?_ ?_
    ·
     unfold r39_22
     refine R_mv (@rfl V (iV (10 : Int))) ?_
     exact R_nil ⟨rfl, h2, h3, trivial⟩
    intro T H ⟨t4, h2, h3, _⟩
    refine W_ret ?_
    refine y16 _ _ ?_
    refine p214 _ _ ?_
    refine y13 _ _ ?_
    refine y11 _ _ ?_
    refine p29 _ _ ?_
    refine y8 _ _ ?_
    refine Ret_1 t4 (fz_int ?_)
    · rw [ndE, if_neg (by simp [d0]), inE2, if_neg (by omega), if_neg (by omega), if_neg (by omega), if_neg (by omega), hc, fe_hit (by rw [d5]; decide) (by omega), d5]
   refine W_skip ?_
   refine n16 _ _ ?_
   refine .done ?_
   refine W_regc (fun T H => T 2 = (V.mp 2 1 0 0) ∧ T 3 = (V.mp 3 1 0 0) ∧ T 6 = (iV ((k : Nat) : Int)) ∧ T 8 = (iV ((j + 1 : Nat) : Int)) ∧ H 2 = (⟨1, true, false, 24, 1, [[(V.sl (List.map cN (t.nd)))]]⟩ : Blk) ∧ H 3 = (⟨1, true, false, 68, 5, [[(V.bool x.lf), (V.sl (List.map cI (x.ac))), (V.sl (List.map cI (x.sf))), (V.sl (List.map cL (x.ou))), (V.sl (List.map cI (x.kd)))]]⟩ : Blk) ∧ True) ?_ ?_
   ·
    unfold r39_20
    refine R_mv t8 ?_
    refine R_addN (m := j) (n := 1) (@rfl V (iV ((j : Nat) : Int))) (@rfl V (iV ((1 : Nat) : Int))) (by omega) ?_
    refine R_mv (@rfl V (iV ((j + 1 : Nat) : Int))) ?_
    exact R_nil ⟨t2, t3, t6, rfl, h2, h3, trivial⟩
   intro T H ⟨t2, t3, t6, t8, h2, h3, _⟩
   refine p114 _ _ _ ?_ ⟨(j + 1), rfl, t2, t3, t6, (Eq.trans t8 (by first | rfl | simp)), h2, h3, ?_, ?_⟩
   · omega
   · omega
   · intro i hi
     by_cases e : i = j
     · subst e; omega
     · exact hq i (by omega)
  refine W_seq_exit ?_
  refine p314 _ _ _ ?_
  refine x13 _ _ ?_
  refine .done ?_
  refine W_seq_regc (fun T H => T 2 = (V.mp 2 1 0 0) ∧ T 3 = (V.mp 3 1 0 0) ∧ T 6 = (iV ((k : Nat) : Int)) ∧ T 98 = (V.bool (decide ((((nth (x.kd) (k))) < (0 : Int)) ∨ (((t.nd.length : Nat) : Int) ≤ ((nth (x.kd) (k))))))) ∧ H 2 = (⟨1, true, false, 24, 1, [[(V.sl (List.map cN (t.nd)))]]⟩ : Blk) ∧ H 3 = (⟨1, true, false, 68, 5, [[(V.bool x.lf), (V.sl (List.map cI (x.ac))), (V.sl (List.map cI (x.sf))), (V.sl (List.map cL (x.ou))), (V.sl (List.map cI (x.kd)))]]⟩ : Blk) ∧ True) ?_ ?_
  ·
   unfold r39_23
   refine R_fld_mp (o' := 4) t3 h3 (by first | rfl | simp [okB, Blk.own]) rfl ?_
   refine R_load_mp (v := (V.sl (List.map cI (x.kd)))) (@rfl V (V.mp 3 1 0 4)) h3 (by first | rfl | simp [ldB, ldV, Blk.own, V.one]) ?_
   refine R_mv t6 ?_
   refine R_idx (i := k) (@rfl V (V.sl (List.map cI (x.kd)))) (@rfl V (iV ((k : Nat) : Int))) (by omega) rfl ?_
   refine R_load_pp (v := (iV ((nth (x.kd) (k))))) (@rfl V (V.pp [(iV ((nth (x.kd) (k))))])) (by first | rfl | simp [ldV]) ?_
   refine R_lss (x := ((nth (x.kd) (k)))) (y := (0 : Int)) (@rfl V (iV ((nth (x.kd) (k))))) (@rfl V (iV (0 : Int))) ?_
   refine R_mv (@rfl V (V.bool (decide (((nth (x.kd) (k))) < (0 : Int))))) ?_
   refine Ops_seg 10 (fun T H => T 2 = (V.mp 2 1 0 0) ∧ T 3 = (V.mp 3 1 0 0) ∧ T 6 = (iV ((k : Nat) : Int)) ∧ T 98 = (V.bool (decide ((((nth (x.kd) (k))) < (0 : Int)) ∨ (((t.nd.length : Nat) : Int) ≤ ((nth (x.kd) (k))))))) ∧ H 2 = (⟨1, true, false, 24, 1, [[(V.sl (List.map cN (t.nd)))]]⟩ : Blk) ∧ H 3 = (⟨1, true, false, 68, 5, [[(V.bool x.lf), (V.sl (List.map cI (x.ac))), (V.sl (List.map cI (x.sf))), (V.sl (List.map cL (x.ou))), (V.sl (List.map cI (x.kd)))]]⟩ : Blk) ∧ True) ?_ ?_
   ·
    by_cases g18 : ((nth (x.kd) (k))) < (0 : Int)
    ·
     refine G_no (Eq.trans (@rfl V (V.bool (decide (((nth (x.kd) (k))) < (0 : Int))))) (bdT g18)) (by decide) ?_
     refine G_no (Eq.trans (@rfl V (V.bool (decide (((nth (x.kd) (k))) < (0 : Int))))) (bdT g18)) (by decide) ?_
     refine G_no (Eq.trans (@rfl V (V.bool (decide (((nth (x.kd) (k))) < (0 : Int))))) (bdT g18)) (by decide) ?_
     refine G_no (Eq.trans (@rfl V (V.bool (decide (((nth (x.kd) (k))) < (0 : Int))))) (bdT g18)) (by decide) ?_
     refine G_no (Eq.trans (@rfl V (V.bool (decide (((nth (x.kd) (k))) < (0 : Int))))) (bdT g18)) (by decide) ?_
     refine G_no (Eq.trans (@rfl V (V.bool (decide (((nth (x.kd) (k))) < (0 : Int))))) (bdT g18)) (by decide) ?_
     refine G_no (Eq.trans (@rfl V (V.bool (decide (((nth (x.kd) (k))) < (0 : Int))))) (bdT g18)) (by decide) ?_
     refine G_no (Eq.trans (@rfl V (V.bool (decide (((nth (x.kd) (k))) < (0 : Int))))) (bdT g18)) (by decide) ?_
     refine G_no (Eq.trans (@rfl V (V.bool (decide (((nth (x.kd) (k))) < (0 : Int))))) (bdT g18)) (by decide) ?_
     refine R_pickT (Eq.trans (@rfl V (V.bool (decide (((nth (x.kd) (k))) < (0 : Int))))) (bdT g18)) (@rfl V (V.bool true)) ?_
     exact ⟨t2, t3, t6, (Eq.trans (@rfl V (V.bool true)) (dec_orT g18)), h2, h3, trivial⟩
    ·
     refine G_yes (Eq.trans (@rfl V (V.bool (decide (((nth (x.kd) (k))) < (0 : Int))))) (bdF g18)) ?_
     refine R_fld_mp (o' := 4) t3 h3 (by first | rfl | simp [okB, Blk.own]) rfl ?_
     refine G_yes (Eq.trans (@rfl V (V.bool (decide (((nth (x.kd) (k))) < (0 : Int))))) (bdF g18)) ?_
     refine R_load_mp (v := (V.sl (List.map cI (x.kd)))) (@rfl V (V.mp 3 1 0 4)) h3 (by first | rfl | simp [ldB, ldV, Blk.own, V.one]) ?_
     refine G_yes (Eq.trans (@rfl V (V.bool (decide (((nth (x.kd) (k))) < (0 : Int))))) (bdF g18)) ?_
     refine R_mv t6 ?_
     refine G_yes (Eq.trans (@rfl V (V.bool (decide (((nth (x.kd) (k))) < (0 : Int))))) (bdF g18)) ?_
     refine R_idx (i := k) (@rfl V (V.sl (List.map cI (x.kd)))) (@rfl V (iV ((k : Nat) : Int))) (by omega) rfl ?_
     refine G_yes (Eq.trans (@rfl V (V.bool (decide (((nth (x.kd) (k))) < (0 : Int))))) (bdF g18)) ?_
     refine R_load_pp (v := (iV ((nth (x.kd) (k))))) (@rfl V (V.pp [(iV ((nth (x.kd) (k))))])) (by first | rfl | simp [ldV]) ?_
     refine G_yes (Eq.trans (@rfl V (V.bool (decide (((nth (x.kd) (k))) < (0 : Int))))) (bdF g18)) ?_
     refine R_fld_mp (o' := 0) t2 h2 (by first | rfl | simp [okB, Blk.own]) rfl ?_
     refine G_yes (Eq.trans (@rfl V (V.bool (decide (((nth (x.kd) (k))) < (0 : Int))))) (bdF g18)) ?_
     refine R_load_mp (v := (V.sl (List.map cN (t.nd)))) (@rfl V (V.mp 2 1 0 0)) h2 (by first | rfl | simp [ldB, ldV, Blk.own, V.one]) ?_
     refine G_yes (Eq.trans (@rfl V (V.bool (decide (((nth (x.kd) (k))) < (0 : Int))))) (bdF g18)) ?_
     refine R_len (@rfl V (V.sl (List.map cN (t.nd)))) ?_
     refine G_yes (Eq.trans (@rfl V (V.bool (decide (((nth (x.kd) (k))) < (0 : Int))))) (bdF g18)) ?_
     refine R_geq (x := ((nth (x.kd) (k)))) (y := ((t.nd.length : Nat) : Int)) (@rfl V (iV ((nth (x.kd) (k))))) (@rfl V (iV ((t.nd.length : Nat) : Int))) ?_
     refine R_pickF (Eq.trans (@rfl V (V.bool (decide (((nth (x.kd) (k))) < (0 : Int))))) (bdF g18)) (@rfl V (V.bool (decide (((t.nd.length : Nat) : Int) ≤ ((nth (x.kd) (k))))))) ?_
     exact ⟨t2, t3, t6, (Eq.trans (@rfl V (V.bool (decide (((t.nd.length : Nat) : Int) ≤ ((nth (x.kd) (k))))))) (dec_orF g18)), h2, h3, trivial⟩
   intro T H ⟨t2, t3, t6, t98, h2, h3, _⟩
   exact R_nil ⟨t2, t3, t6, t98, h2, h3, trivial⟩
  intro T H ⟨t2, t3, t6, t98, h2, h3, _⟩
  refine W_if (p := (((nth (x.kd) (k))) < (0 : Int)) ∨ (((t.nd.length : Nat) : Int) ≤ ((nth (x.kd) (k))))) t98 (fun c19 => ?_) (fun c19 => ?_)
  ·
   skip
   refine W_seq_regc (fun T H => T 4 = (iV (2 : Int)) ∧ H 2 = (⟨1, true, false, 24, 1, [[(V.sl (List.map cN (t.nd)))]]⟩ : Blk) ∧ H 3 = (⟨1, true, false, 68, 5, [[(V.bool x.lf), (V.sl (List.map cI (x.ac))), (V.sl (List.map cI (x.sf))), (V.sl (List.map cL (x.ou))), (V.sl (List.map cI (x.kd)))]]⟩ : Blk) ∧ True) ?_ ?_
   ·
    unfold r39_24
    refine R_mv (@rfl V (iV (2 : Int))) ?_
    exact R_nil ⟨rfl, h2, h3, trivial⟩
   intro T H ⟨t4, h2, h3, _⟩
   refine W_ret ?_
   refine y11 _ _ ?_
   refine p29 _ _ ?_
   refine y8 _ _ ?_
   refine Ret_1 t4 (fz_int ?_)
   · have e : chE x t.nd.length k = 2 := by rw [chE, if_neg (by omega), if_neg (by rintro ⟨q1, q2⟩; have := hq (k - 1) (by omega); omega), if_pos (by omega)]
     rw [ndE, if_neg (by simp [d0]), inE2, if_neg (by omega), if_neg (by omega), if_neg (by omega), if_neg (by omega), hc, fe_hit (by rw [e]; decide) (by omega), e]
  have dz : chE x t.nd.length k = 0 := by rw [chE, if_neg (by omega), if_neg (by rintro ⟨q1, q2⟩; have := hq (k - 1) (by omega); omega), if_neg (by omega)]
  refine W_skip ?_
  refine n11 _ _ ?_
  refine .done ?_
  refine W_regc (fun T H => T 2 = (V.mp 2 1 0 0) ∧ T 3 = (V.mp 3 1 0 0) ∧ T 6 = (iV ((k + 1 : Nat) : Int)) ∧ H 2 = (⟨1, true, false, 24, 1, [[(V.sl (List.map cN (t.nd)))]]⟩ : Blk) ∧ H 3 = (⟨1, true, false, 68, 5, [[(V.bool x.lf), (V.sl (List.map cI (x.ac))), (V.sl (List.map cI (x.sf))), (V.sl (List.map cL (x.ou))), (V.sl (List.map cI (x.kd)))]]⟩ : Blk) ∧ True) ?_ ?_
  ·
   unfold r39_14
   refine R_mv t6 ?_
   refine R_addN (m := k) (n := 1) (@rfl V (iV ((k : Nat) : Int))) (@rfl V (iV ((1 : Nat) : Int))) (by omega) ?_
   refine R_mv (@rfl V (iV ((k + 1 : Nat) : Int))) ?_
   exact R_nil ⟨t2, t3, rfl, h2, h3, trivial⟩
  intro T H ⟨t2, t3, t6, h2, h3, _⟩
  refine p19 _ _ _ ?_ ⟨(k + 1), rfl, t2, t3, (Eq.trans t6 (by first | rfl | simp)), h2, h3, ?_, ?_, ?_, ?_, ?_, ?_, ?_⟩
  · omega
  · omega
  · omega
  · omega
  · omega
  · omega
  · intro i hi
    by_cases e : i = k
    · subst e; exact dz
    · exact hp i (by omega)
  · rw [hc, fe_skip dz (by omega)]
 refine W_seq_exit ?_
 refine p39 _ _ _ ?_
 refine x8 _ _ ?_
 refine .done ?_
 refine W_seq_regc (fun T H => T 4 = (iV (0 : Int)) ∧ H 2 = (⟨1, true, false, 24, 1, [[(V.sl (List.map cN (t.nd)))]]⟩ : Blk) ∧ H 3 = (⟨1, true, false, 68, 5, [[(V.bool x.lf), (V.sl (List.map cI (x.ac))), (V.sl (List.map cI (x.sf))), (V.sl (List.map cL (x.ou))), (V.sl (List.map cI (x.kd)))]]⟩ : Blk) ∧ True) ?_ ?_
 ·
  unfold r39_25
  refine R_mv (@rfl V (iV (0 : Int))) ?_
  exact R_nil ⟨rfl, h2, h3, trivial⟩
 intro T H ⟨t4, h2, h3, _⟩
 refine W_ret ?_
 refine Ret_1 t4 (fz_int ?_)
 · rw [ndE, if_neg (by simp [d0]), inE2, if_neg (by omega), if_neg (by omega), if_neg (by omega), if_neg (by omega), hc, fe_end (by omega)]
end Go.Proofs.YtmnjchcoigbngaaGreat


namespace Go.Proofs.YtmnjchcoigbngaaGreat
open Go Go.Proofs
def r40_0 : List SO := [
  ⟨none, some 1, .box 24 1 (.t 0)⟩,
  ⟨none, some 2, .mv (.c (.bool false))⟩]
def r40_1 : List SO := [
  ⟨none, some 8, .fld 0 (.t 1)⟩,
  ⟨none, some 9, .load false 1 (.t 8)⟩,
  ⟨none, some 10, .len (.t 9)⟩,
  ⟨none, some 11, .mks 4 1 1 [.bool false] (.t 10) (.t 10)⟩,
  ⟨none, some 3, .mv (.t 11)⟩]
def r40_2 : List SO := [
  ⟨none, some 12, .mv (.t 3)⟩,
  ⟨none, some 13, .idx 1 (.t 12) (.c (.int .i64 0))⟩,
  ⟨none, none, .store 1 (.t 13) (.c (.bool true))⟩]
def r40_3 : List SO := [
  ⟨none, some 14, .bslice 3 1 true [.int .i64 0] 1 [(0, .c (.int .i64 0))]⟩,
  ⟨none, some 4, .mv (.t 14)⟩]
def r40_4 : List SO := [
  ⟨none, some 5, .mv (.c (.int .i64 0))⟩]
def r40_5 : List SO := [
  ⟨none, some 15, .mv (.t 5)⟩,
  ⟨none, some 16, .mv (.t 4)⟩,
  ⟨none, some 17, .len (.t 16)⟩,
  ⟨none, some 18, .bin .lss (.t 15) (.t 17)⟩]
def r40_7 : List SO := [
  ⟨none, some 21, .fld 0 (.t 1)⟩,
  ⟨none, some 22, .load false 1 (.t 21)⟩,
  ⟨none, some 23, .mv (.t 4)⟩,
  ⟨none, some 24, .mv (.t 5)⟩,
  ⟨none, some 25, .idx 1 (.t 23) (.t 24)⟩,
  ⟨none, some 26, .load false 1 (.t 25)⟩,
  ⟨none, some 27, .idx 5 (.t 22) (.t 26)⟩,
  ⟨none, some 28, .load true 5 (.t 27)⟩,
  ⟨none, some 6, .alloc 68 [.bool false, .nilsl, .nilsl, .nilsl, .nilsl]⟩,
  ⟨none, none, .store 5 (.t 6) (.t 28)⟩]
def r40_8 : List SO := [
  ⟨none, some 7, .mv (.c (.int .i64 0))⟩]
def r40_9 : List SO := [
  ⟨none, some 29, .mv (.t 7)⟩,
  ⟨none, some 30, .fld 4 (.t 6)⟩,
  ⟨none, some 31, .load false 1 (.t 30)⟩,
  ⟨none, some 32, .len (.t 31)⟩,
  ⟨none, some 33, .bin .lss (.t 29) (.t 32)⟩]
def r40_11 : List SO := [
  ⟨none, some 36, .mv (.t 3)⟩,
  ⟨none, some 37, .fld 4 (.t 6)⟩,
  ⟨none, some 38, .load false 1 (.t 37)⟩,
  ⟨none, some 39, .mv (.t 7)⟩,
  ⟨none, some 40, .idx 1 (.t 38) (.t 39)⟩,
  ⟨none, some 41, .load false 1 (.t 40)⟩,
  ⟨none, some 42, .idx 1 (.t 36) (.t 41)⟩,
  ⟨none, some 43, .load false 1 (.t 42)⟩]
def r40_12 : List SO := [
  ⟨none, some 2, .mv (.c (.bool false))⟩]
def r40_13 : List SO := [
  ⟨none, some 44, .mv (.t 3)⟩,
  ⟨none, some 45, .fld 4 (.t 6)⟩,
  ⟨none, some 46, .load false 1 (.t 45)⟩,
  ⟨none, some 47, .mv (.t 7)⟩,
  ⟨none, some 48, .idx 1 (.t 46) (.t 47)⟩,
  ⟨none, some 49, .load false 1 (.t 48)⟩,
  ⟨none, some 50, .idx 1 (.t 44) (.t 49)⟩,
  ⟨none, none, .store 1 (.t 50) (.c (.bool true))⟩]
def r40_14 : List SO := [
  ⟨none, some 51, .mv (.t 4)⟩,
  ⟨none, some 52, .fld 4 (.t 6)⟩,
  ⟨none, some 53, .load false 1 (.t 52)⟩,
  ⟨none, some 54, .mv (.t 7)⟩,
  ⟨none, some 55, .idx 1 (.t 53) (.t 54)⟩,
  ⟨none, some 56, .load false 1 (.t 55)⟩,
  ⟨none, some 57, .bslice 3 1 false [.int .i64 0] 1 [(0, .t 56)]⟩,
  ⟨none, some 58, .append 3 1 8 (.t 51) (.t 57)⟩,
  ⟨none, some 4, .mv (.t 58)⟩]
def r40_10 : List SO := [
  ⟨none, some 34, .mv (.t 7)⟩,
  ⟨none, some 35, .bin .add (.t 34) (.c (.int .i64 1))⟩,
  ⟨none, some 7, .mv (.t 35)⟩]
def b40_1 : SC := .seq (.seq (.reg r40_9) (.cond (.t 33) (.skip) (.exit 2))) (.seq (.block 3 (.seq (.seq (.reg r40_11) (.cond (.t 43) (.seq (.reg r40_12) (.ret)) (.skip))) (.seq (.reg r40_13) (.reg r40_14)))) (.reg r40_10))
def r40_6 : List SO := [
  ⟨none, some 19, .mv (.t 5)⟩,
  ⟨none, some 20, .bin .add (.t 19) (.c (.int .i64 1))⟩,
  ⟨none, some 5, .mv (.t 20)⟩]
def b40_0 : SC := .seq (.seq (.reg r40_5) (.cond (.t 18) (.skip) (.exit 0))) (.seq (.block 1 (.seq (.dreg [6] r40_7) (.seq (.reg r40_8) (.block 2 (.loop b40_1))))) (.reg r40_6))
def r40_15 : List SO := [
  ⟨none, some 59, .mv (.t 4)⟩,
  ⟨none, some 60, .len (.t 59)⟩,
  ⟨none, some 61, .fld 0 (.t 1)⟩,
  ⟨none, some 62, .load false 1 (.t 61)⟩,
  ⟨none, some 63, .len (.t 62)⟩,
  ⟨none, some 64, .bin .eql (.t 60) (.t 63)⟩,
  ⟨none, some 2, .mv (.t 64)⟩]
def s40 : SF := ⟨65, [.tmp 2], .seq (.reg r40_0) (.seq (.reg r40_1) (.seq (.reg r40_2) (.seq (.reg r40_3) (.seq (.seq (.reg r40_4) (.block 0 (.loop b40_0))) (.seq (.reg r40_15) (.ret))))))⟩
theorem s40_ok : slimF Tryz.prog ⟨[57, 58, 59, 63, 67, 68, 77, 102, 103, 104, 110, 116, 120], [14]⟩ Tryz.f40 = some s40 := by kernel_rfl
end Go.Proofs.YtmnjchcoigbngaaGreat


