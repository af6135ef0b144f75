/- Contracts of the functions that the law DP reaches, and the law itself, for every input; no condition. -/
import Derived.KernelRfl
import Derived.Shelf.SlSortCmp.Kit1
import Derived.Shelf.SlSortCmp.NoneTotal
import Derived.Test.YtmnjchcoigbngaaGreatProg
import Derived.Test.YtmnjchcoigbngaaGreatDP2
set_option linter.unusedSimpArgs false
set_option linter.unusedVariables false
namespace Go.Proofs.YtmnjchcoigbngaaGreat
open Go Go.Proofs
theorem idxi_pure (p : Int → Bool) (w : List Int) (g : Nat) (caps : List V) (hca : canonL caps = true) (hpu : pureL caps = true) (hq : ∀ k, k < w.length → PureC Tryz.prog g (iV (nth w k) :: caps) (.bool (p (nth w k)))) : PureC Tryz.prog 109 [(V.sl (List.map cI (w))), (V.fn g [] caps)] (iV (fi (fun j => p (nth w j)) 0 w.length)) := by
 refine pure_of_Wb true 6 Tryz.func109 s109_ok (by kernel_rfl) (by simp [s109]) (by simp [hpu]) (by simp) fun hB => ?_
 simp only [bnd_map, bnd_int, bnd_bool, bnd_str, bnd_agg, bnd_pp, bnd_nil, bnd_cons, implies_true, and_true, true_and] at hB
 unfold s109
 dsimp only
 refine W_seq_regc (fun T H => T 0 = (V.sl (List.map cI (w))) ∧ T 1 = (V.fn g [] caps) ∧ True) ?_ ?_
 ·
  unfold r109_0
  refine R_mv (@rfl V (iV (0 : Int))) ?_
  exact R_nil ⟨rfl, rfl, trivial⟩
 intro T H ⟨t0, t1, _⟩
 refine W_seq_seq ?_
 refine W_seq_regc (fun T H => T 0 = (V.sl (List.map cI (w))) ∧ T 1 = (V.fn g [] caps) ∧ T 7 = (iV ((w.length : Nat) : Int)) ∧ T 8 = (iV (0 : Int)) ∧ True) ?_ ?_
 ·
  unfold r109_1
  refine R_mv t0 ?_
  refine R_len (@rfl V (V.sl (List.map cI (w)))) ?_
  refine R_mv (@rfl V (iV (0 : Int))) ?_
  exact R_nil ⟨t0, t1, rfl, rfl, trivial⟩
 intro T H ⟨t0, t1, t7, t8, _⟩
 refine W_seq_blockg fun Q1 n1 x1 y1 z1 => ?_
 refine W_loop (fun mm T H => ∃ (k : Nat), mm = w.length - k ∧ T 0 = (V.sl (List.map cI (w))) ∧ T 1 = (V.fn g [] caps) ∧ T 7 = (iV ((w.length : Nat) : Int)) ∧ T 8 = (iV ((k : Nat) : Int)) ∧ (k ≤ w.length) ∧ (fi (fun j => p (nth w j)) 0 w.length = fi (fun j => p (nth w j)) k (w.length - k))) ?_ ?_
 ·
  refine ⟨_, 0, rfl, t0, t1, t7, (Eq.trans t8 (by first | rfl | simp)), ?_, ?_⟩
  · omega
  · rfl
 intro mm T H ⟨k, hmm, t0, t1, t7, t8, hk, hc⟩ Q2 p12 p22 p32
 unfold b109_0
 refine W_seq_regc (fun T H => T 0 = (V.sl (List.map cI (w))) ∧ T 1 = (V.fn g [] caps) ∧ T 7 = (iV ((w.length : Nat) : Int)) ∧ T 8 = (iV ((k : Nat) : Int)) ∧ T 9 = (V.bool (decide (((k : Nat) : Int) < ((w.length : Nat) : Int)))) ∧ True) ?_ ?_
 ·
  unfold r109_2
  refine R_lss (x := ((k : Nat) : Int)) (y := ((w.length : Nat) : Int)) t8 t7 ?_
  exact R_nil ⟨t0, t1, t7, t8, rfl, trivial⟩
 intro T H ⟨t0, t1, t7, t8, t9, _⟩
 refine W_seq_if (p := ((k : Nat) : Int) < ((w.length : Nat) : Int)) t9 (fun c3 => ?_) (fun c3 => ?_)
 ·
  refine W_seq_skip ?_
  refine W_seq_blockg fun Q4 n4 x4 y4 z4 => ?_
  refine W_seq_regc (fun T H => T 0 = (V.sl (List.map cI (w))) ∧ T 1 = (V.fn g [] caps) ∧ T 5 = (iV ((k : Nat) : Int)) ∧ T 7 = (iV ((w.length : Nat) : Int)) ∧ T 8 = (iV ((k : Nat) : Int)) ∧ True) ?_ ?_
  ·
   unfold r109_3
   refine R_mv t8 ?_
   refine R_mv (@rfl V (iV ((k : Nat) : Int))) ?_
   exact R_nil ⟨t0, t1, rfl, t7, t8, trivial⟩
  intro T H ⟨t0, t1, t5, t7, t8, _⟩
  refine W_seq_regc (fun T H => T 0 = (V.sl (List.map cI (w))) ∧ T 1 = (V.fn g [] caps) ∧ T 5 = (iV ((k : Nat) : Int)) ∧ T 7 = (iV ((w.length : Nat) : Int)) ∧ T 8 = (iV ((k : Nat) : Int)) ∧ T 16 = (V.bool (p (nth w k))) ∧ True) ?_ ?_
  ·
   unfold r109_4
   refine R_mv t1 ?_
   refine R_mv t0 ?_
   refine R_mv t5 ?_
   refine R_idx (i := k) (@rfl V (V.sl (List.map cI (w)))) (@rfl V (iV ((k : Nat) : Int))) (by omega) rfl ?_
   refine R_load_pp (v := (iV ((nth (w) (k))))) (@rfl V (V.pp [(iV ((nth (w) (k))))])) (by first | rfl | simp [ldV]) ?_
   refine R_callv (@rfl V (V.fn g [] caps)) (evcons (@rfl V (iV ((nth (w) (k))))) evnil) (hq k (by omega)) (fzv_mapcanon _ _ (by simp [hca])) (by simp [hpu]) (Or.inl (by simp [hpu])) ?_
   exact R_nil ⟨t0, t1, t5, t7, t8, rfl, trivial⟩
  intro T H ⟨t0, t1, t5, t7, t8, t16, _⟩
  refine W_ifb t16 (fun c5 => ?_) (fun c5 => ?_)
  ·
   have d1 := c5
   refine W_seq_regc (fun T H => T 4 = (iV ((k : Nat) : Int)) ∧ True) ?_ ?_
   ·
    unfold r109_5
    refine R_mv t5 ?_
    refine R_mv (@rfl V (iV ((k : Nat) : Int))) ?_
    exact R_nil ⟨rfl, trivial⟩
   intro T H ⟨t4, _⟩
   refine W_ret ?_
   refine y4 _ _ ?_
   refine p22 _ _ ?_
   refine y1 _ _ ?_
   refine Ret_1 t4 (fz_int ?_)
   · rw [hc, fi_hit (by exact d1) (by omega)]
  have d1 := c5
  refine W_skip ?_
  refine n4 _ _ ?_
  refine .done ?_
  refine W_regc (fun T H => T 0 = (V.sl (List.map cI (w))) ∧ T 1 = (V.fn g [] caps) ∧ T 7 = (iV ((w.length : Nat) : Int)) ∧ T 8 = (iV ((k + 1 : Nat) : Int)) ∧ True) ?_ ?_
  ·
   unfold r109_6
   refine R_addN (m := k) (n := 1) t8 (@rfl V (iV ((1 : Nat) : Int))) (by omega) ?_
   refine R_mv (@rfl V (iV ((k + 1 : Nat) : Int))) ?_
   exact R_nil ⟨t0, t1, t7, rfl, trivial⟩
  intro T H ⟨t0, t1, t7, t8, _⟩
  refine p12 _ _ _ ?_ ⟨(k + 1), rfl, t0, t1, t7, (Eq.trans t8 (by first | rfl | simp)), ?_, ?_⟩
  · omega
  · omega
  · rw [hc, fi_skip (by exact d1) (by omega)]
 refine W_seq_exit ?_
 refine p32 _ _ _ ?_
 refine x1 _ _ ?_
 refine .done ?_
 refine W_seq_regc (fun T H => T 4 = (iV (-1 : Int)) ∧ True) ?_ ?_
 ·
  unfold r109_7
  refine R_mv (@rfl V (iV (-1 : Int))) ?_
  exact R_nil ⟨rfl, trivial⟩
 intro T H ⟨t4, _⟩
 refine W_ret ?_
 refine Ret_1 t4 (fz_int ?_)
 · rw [hc, fi_end (by omega)]
end Go.Proofs.YtmnjchcoigbngaaGreat


namespace Go.Proofs.YtmnjchcoigbngaaGreat
open Go Go.Proofs
theorem coni_pure (p : Int → Bool) (w : List Int) (g : Nat) (caps : List V) (hca : canonL caps = true) (hpu : pureL caps = true) (hq : ∀ k, k < w.length → PureC Tryz.prog g (iV (nth w k) :: caps) (.bool (p (nth w k)))) : PureC Tryz.prog 81 [(V.sl (List.map cI (w))), (V.fn g [] caps)] (V.bool (decide (0 ≤ fi (fun j => p (nth w j)) 0 w.length))) := by
 refine pure_of_Wb true 6 Tryz.func81 s81_ok (by kernel_rfl) (by simp [s81]) (by simp [hpu]) (by simp) fun hB => ?_
 simp only [bnd_map, bnd_int, bnd_bool, bnd_str, bnd_agg, bnd_pp, bnd_nil, bnd_cons, implies_true, and_true, true_and] at hB
 unfold s81
 dsimp only
 refine W_seq_regc (fun T H => T 0 = (V.sl (List.map cI (w))) ∧ T 1 = (V.fn g [] caps) ∧ True) ?_ ?_
 ·
  unfold r81_0
  refine R_mv (@rfl V (V.bool false)) ?_
  exact R_nil ⟨rfl, rfl, trivial⟩
 intro T H ⟨t0, t1, _⟩
 refine W_seq_regc (fun T H => T 4 = (V.bool (decide ((0 : Int) ≤ (fi (fun j => p (nth w j)) 0 w.length)))) ∧ True) ?_ ?_
 ·
  unfold r81_1
  refine R_mv t0 ?_
  refine R_mv t1 ?_
  refine R_call (evcons (@rfl V (V.sl (List.map cI (w)))) (evcons (@rfl V (V.fn g [] caps)) evnil)) (idxi_pure p w g caps hca hpu hq) (fzv_mapcanon _ _ (by simp [hca, hpu, -List.map_take, -List.map_drop, -List.map_append, -List.map_reverse])) (by simp [hca, hpu, -List.map_take, -List.map_drop, -List.map_append, -List.map_reverse]) (Or.inl (by simp [hca, hpu, -List.map_take, -List.map_drop, -List.map_append, -List.map_reverse])) ?_
  refine R_geq (x := (fi (fun j => p (nth w j)) 0 w.length)) (y := (0 : Int)) (@rfl V (iV (fi (fun j => p (nth w j)) 0 w.length))) (@rfl V (iV (0 : Int))) ?_
  refine R_mv (@rfl V (V.bool (decide ((0 : Int) ≤ (fi (fun j => p (nth w j)) 0 w.length))))) ?_
  exact R_nil ⟨rfl, trivial⟩
 intro T H ⟨t4, _⟩
 refine W_ret ?_
 refine Ret_1 t4 (fz_bool ?_)
 · first | rfl | omega | simp_all
end Go.Proofs.YtmnjchcoigbngaaGreat


namespace Go.Proofs.YtmnjchcoigbngaaGreat
open Go Go.Proofs
theorem check1_pure (a n : Int) : PureC Tryz.prog 82 [(iV (a)), (V.pp [(iV (n))])] (V.bool (decide (a < 0 ∨ n ≤ a))) := by
 refine pure_of_Wb true 6 Tryz.func82 s82_ok (by kernel_rfl) (by simp [s82]) (by simp) (by simp) fun hB => ?_
 simp only [bnd_map, bnd_int, bnd_bool, bnd_str, bnd_agg, bnd_pp, bnd_nil, bnd_cons, implies_true, and_true, true_and] at hB
 unfold s82
 dsimp only
 refine W_seq_regc (fun T H => T 0 = (iV (a)) ∧ T 1 = (V.pp [(iV (n))]) ∧ True) ?_ ?_
 ·
  unfold r82_0
  refine R_mv (@rfl V (V.bool false)) ?_
  exact R_nil ⟨rfl, rfl, trivial⟩
 intro T H ⟨t0, t1, _⟩
 refine W_seq_regc (fun T H => T 3 = (V.bool (decide (((a) < (0 : Int)) ∨ ((n) ≤ (a))))) ∧ True) ?_ ?_
 ·
  unfold r82_1
  refine R_mv t0 ?_
  refine R_lss (x := (a)) (y := (0 : Int)) (@rfl V (iV (a))) (@rfl V (iV (0 : Int))) ?_
  refine R_mv (@rfl V (V.bool (decide ((a) < (0 : Int))))) ?_
  refine Ops_seg 4 (fun T H => T 10 = (V.bool (decide (((a) < (0 : Int)) ∨ ((n) ≤ (a))))) ∧ True) ?_ ?_
  ·
   by_cases g1 : (a) < (0 : Int)
   ·
    refine G_no (Eq.trans (@rfl V (V.bool (decide ((a) < (0 : Int))))) (bdT g1)) (by decide) ?_
    refine G_no (Eq.trans (@rfl V (V.bool (decide ((a) < (0 : Int))))) (bdT g1)) (by decide) ?_
    refine G_no (Eq.trans (@rfl V (V.bool (decide ((a) < (0 : Int))))) (bdT g1)) (by decide) ?_
    refine R_pickT (Eq.trans (@rfl V (V.bool (decide ((a) < (0 : Int))))) (bdT g1)) (@rfl V (V.bool true)) ?_
    exact ⟨(Eq.trans (@rfl V (V.bool true)) (dec_orT g1)), trivial⟩
   ·
    refine G_yes (Eq.trans (@rfl V (V.bool (decide ((a) < (0 : Int))))) (bdF g1)) ?_
    refine R_mv t0 ?_
    refine G_yes (Eq.trans (@rfl V (V.bool (decide ((a) < (0 : Int))))) (bdF g1)) ?_
    refine R_load_pp (v := (iV (n))) t1 (by first | rfl | simp [ldV]) ?_
    refine G_yes (Eq.trans (@rfl V (V.bool (decide ((a) < (0 : Int))))) (bdF g1)) ?_
    refine R_geq (x := (a)) (y := (n)) (@rfl V (iV (a))) (@rfl V (iV (n))) ?_
    refine R_pickF (Eq.trans (@rfl V (V.bool (decide ((a) < (0 : Int))))) (bdF g1)) (@rfl V (V.bool (decide ((n) ≤ (a))))) ?_
    exact ⟨(Eq.trans (@rfl V (V.bool (decide ((n) ≤ (a))))) (dec_orF g1)), trivial⟩
  intro T H ⟨t10, _⟩
  refine R_mv t10 ?_
  exact R_nil ⟨rfl, trivial⟩
 intro T H ⟨t3, _⟩
 refine W_ret ?_
 refine Ret_1 t3 (fz_bool ?_)
 · first | rfl | omega | simp_all
end Go.Proofs.YtmnjchcoigbngaaGreat


namespace Go.Proofs.YtmnjchcoigbngaaGreat
open Go Go.Proofs
theorem check_pure (w : List Int) (n : Int) : PureC Tryz.prog 48 [(V.sl (List.map cI (w))), (iV (n))] (iV (wchk w n)) := by
 refine pure_of_Wb true 6 Tryz.func48 s48_ok (by kernel_rfl) (by simp [s48]) (by simp) (by simp) fun hB => ?_
 simp only [bnd_map, bnd_int, bnd_bool, bnd_str, bnd_agg, bnd_pp, bnd_nil, bnd_cons, implies_true, and_true, true_and] at hB
 unfold s48
 dsimp only
 refine W_seq_regc (fun T H => T 0 = (V.sl (List.map cI (w))) ∧ T 3 = (V.mp 3 1 0 0) ∧ H 3 = (⟨1, true, false, 3, 1, [[(iV (n))]]⟩ : Blk) ∧ True) ?_ ?_
 ·
  unfold r48_0
  refine R_box (i := 3) (n := 0) (m := 1) (cs := [(iV (n))]) rfl (congrArg Blk.ver rfl) (@rfl V (iV (n))) rfl rfl ?_
  refine R_mv (@rfl V (iV (0 : Int))) ?_
  exact R_nil ⟨rfl, rfl, rfl, trivial⟩
 intro T H ⟨t0, t3, h3, _⟩
 refine W_seq_blockg fun Q1 n1 x1 y1 z1 => ?_
 refine W_seq_regc (fun T H => T 0 = (V.sl (List.map cI (w))) ∧ T 3 = (V.mp 3 1 0 0) ∧ T 5 = (V.bool (decide (¬(1 ≤ ((n)) ∧ ((n)) ≤ 1024)))) ∧ H 3 = (⟨1, true, false, 3, 1, [[(iV (n))]]⟩ : Blk) ∧ True) ?_ ?_
 ·
  unfold r48_1
  refine R_load_mp (v := (iV (n))) t3 h3 (by first | rfl | simp [ldB, ldV, Blk.own, V.one]) ?_
  refine R_call (evcons (@rfl V (iV (n))) evnil) (permitted_pure ((n))) (fzv_mapcanon _ _ (by simp [-List.map_take, -List.map_drop, -List.map_append, -List.map_reverse])) (by simp [-List.map_take, -List.map_drop, -List.map_append, -List.map_reverse]) (Or.inl (by simp [-List.map_take, -List.map_drop, -List.map_append, -List.map_reverse])) ?_
  refine R_not (p := 1 ≤ ((n)) ∧ ((n)) ≤ 1024) (@rfl V (V.bool (decide (1 ≤ ((n)) ∧ ((n)) ≤ 1024)))) ?_
  refine R_mv (@rfl V (V.bool (decide (¬(1 ≤ ((n)) ∧ ((n)) ≤ 1024))))) ?_
  exact R_nil ⟨t0, t3, rfl, h3, trivial⟩
 intro T H ⟨t0, t3, t5, h3, _⟩
 refine W_if (p := ¬(1 ≤ ((n)) ∧ ((n)) ≤ 1024)) t5 (fun c2 => ?_) (fun c2 => ?_)
 ·
  refine W_seq_regc (fun T H => T 4 = (iV (2 : Int)) ∧ H 3 = (⟨1, true, false, 3, 1, [[(iV (n))]]⟩ : Blk) ∧ True) ?_ ?_
  ·
   unfold r48_2
   refine R_mv (@rfl V (iV (2 : Int))) ?_
   exact R_nil ⟨rfl, h3, trivial⟩
  intro T H ⟨t4, h3, _⟩
  refine W_ret ?_
  refine y1 _ _ ?_
  refine Ret_1 t4 (fz_int ?_)
  · rw [wchk, if_pos (by omega)]
 refine W_seq_regc (fun T H => T 0 = (V.sl (List.map cI (w))) ∧ T 3 = (V.mp 3 1 0 0) ∧ T 9 = (V.bool (decide ((1024 : Int) < ((w.length : Nat) : Int)))) ∧ H 3 = (⟨1, true, false, 3, 1, [[(iV (n))]]⟩ : Blk) ∧ True) ?_ ?_
 ·
  unfold r48_3
  refine R_mv t0 ?_
  refine R_len (@rfl V (V.sl (List.map cI (w)))) ?_
  refine R_gtr (x := ((w.length : Nat) : Int)) (y := (1024 : Int)) (@rfl V (iV ((w.length : Nat) : Int))) (@rfl V (iV (1024 : Int))) ?_
  refine R_mv (@rfl V (V.bool (decide ((1024 : Int) < ((w.length : Nat) : Int))))) ?_
  exact R_nil ⟨t0, t3, rfl, h3, trivial⟩
 intro T H ⟨t0, t3, t9, h3, _⟩
 refine W_if (p := (1024 : Int) < ((w.length : Nat) : Int)) t9 (fun c3 => ?_) (fun c3 => ?_)
 ·
  refine W_seq_regc (fun T H => T 4 = (iV (3 : Int)) ∧ H 3 = (⟨1, true, false, 3, 1, [[(iV (n))]]⟩ : Blk) ∧ True) ?_ ?_
  ·
   unfold r48_4
   refine R_mv (@rfl V (iV (3 : Int))) ?_
   exact R_nil ⟨rfl, h3, trivial⟩
  intro T H ⟨t4, h3, _⟩
  refine W_ret ?_
  refine y1 _ _ ?_
  refine Ret_1 t4 (fz_int ?_)
  · rw [wchk, if_neg (by omega), if_pos (by omega)]
 refine W_seq_regc (fun T H => T 13 = (V.bool (decide (0 ≤ fi (fun j => (fun a => decide (a < 0 ∨ n ≤ a)) (nth w j)) 0 w.length))) ∧ H 3 = (⟨1, true, false, 3, 1, [[(iV (n))]]⟩ : Blk) ∧ True) ?_ ?_
 ·
  unfold r48_5
  refine R_mv t0 ?_
  refine R_mkf (evcons t3 evnil) ?_
  refine R_call (evcons (@rfl V (V.sl (List.map cI (w)))) (evcons (@rfl V (V.fn 82 [] [(V.mp 3 1 0 0)])) evnil)) (coni_pure (fun a => decide (a < 0 ∨ n ≤ a)) w 82 ([(V.pp [(iV (n))])]) (by simp) (by simp) (fun k _ => check1_pure (nth w k) n)) (mcons (fzv_canon 6 _ (by simp [-List.map_take, -List.map_drop, -List.map_append, -List.map_reverse])) (mcons (by simp [fzv, Blk.own, h3]) rfl)) (by simp [-List.map_take, -List.map_drop, -List.map_append, -List.map_reverse]) (Or.inr rfl) ?_
  refine R_mv (@rfl V (V.bool (decide (0 ≤ fi (fun j => (fun a => decide (a < 0 ∨ n ≤ a)) (nth w j)) 0 w.length)))) ?_
  exact R_nil ⟨rfl, h3, trivial⟩
 intro T H ⟨t13, h3, _⟩
 refine W_if (p := 0 ≤ fi (fun j => (fun a => decide (a < 0 ∨ n ≤ a)) (nth w j)) 0 w.length) t13 (fun c4 => ?_) (fun c4 => ?_)
 ·
  refine W_seq_regc (fun T H => T 4 = (iV (1 : Int)) ∧ H 3 = (⟨1, true, false, 3, 1, [[(iV (n))]]⟩ : Blk) ∧ True) ?_ ?_
  ·
   unfold r48_6
   refine R_mv (@rfl V (iV (1 : Int))) ?_
   exact R_nil ⟨rfl, h3, trivial⟩
  intro T H ⟨t4, h3, _⟩
  refine W_ret ?_
  refine y1 _ _ ?_
  refine Ret_1 t4 (fz_int ?_)
  · have e : (0 ≤ fi (fun j => (fun a => decide (a < 0 ∨ n ≤ a)) (nth w j)) 0 w.length ↔ fe (wE w n) 0 w.length = 1) ∧ (fe (wE w n) 0 w.length = 0 ∨ fe (wE w n) 0 w.length = 1) := in_fe w n w.length 0
    rw [wchk, if_neg (by omega), if_neg (by omega)]; omega
 refine W_skip ?_
 refine n1 _ _ ?_
 refine .done ?_
 refine W_seq_regc (fun T H => T 4 = (iV (0 : Int)) ∧ H 3 = (⟨1, true, false, 3, 1, [[(iV (n))]]⟩ : Blk) ∧ True) ?_ ?_
 ·
  unfold r48_7
  refine R_mv (@rfl V (iV (0 : Int))) ?_
  exact R_nil ⟨rfl, h3, trivial⟩
 intro T H ⟨t4, h3, _⟩
 refine W_ret ?_
 refine Ret_1 t4 (fz_int ?_)
 · have e : (0 ≤ fi (fun j => (fun a => decide (a < 0 ∨ n ≤ a)) (nth w j)) 0 w.length ↔ fe (wE w n) 0 w.length = 1) ∧ (fe (wE w n) 0 w.length = 0 ∨ fe (wE w n) 0 w.length = 1) := in_fe w n w.length 0
   rw [wchk, if_neg (by omega), if_neg (by omega)]; omega
end Go.Proofs.YtmnjchcoigbngaaGreat


namespace Go.Proofs.YtmnjchcoigbngaaGreat
open Go Go.Proofs
theorem leaf_pure (x : Nd) (hs : x.sf.length ≤ 1048576) (ho : x.ou.length ≤ 1048576) (hk : x.kd.length ≤ 1048576) : PureC Tryz.prog 34 [(V.agg [(V.bool x.lf), (V.sl (List.map cI (x.ac))), (V.sl (List.map cI (x.sf))), (V.sl (List.map cL (x.ou))), (V.sl (List.map cI (x.kd)))])] (iV (lfE x)) := by
 refine pure_of_Wb true 6 Tryz.func34 s34_ok (by kernel_rfl) (by simp [s34]) (by simp) (by simp) fun hB => ?_
 simp only [bnd_map, bnd_int, bnd_bool, bnd_str, bnd_agg, bnd_pp, bnd_nil, bnd_cons, implies_true, and_true, true_and] at hB
 unfold s34
 dsimp only
 refine W_seq_regc (fun T H => T 1 = (V.mp 1 1 0 0) ∧ H 1 = (⟨1, true, false, 68, 5, [[(V.bool x.lf), (V.sl (List.map cI (x.ac))), (V.sl (List.map cI (x.sf))), (V.sl (List.map cL (x.ou))), (V.sl (List.map cI (x.kd)))]]⟩ : Blk) ∧ True) ?_ ?_
 ·
  unfold r34_0
  refine R_box (i := 1) (n := 0) (m := 5) (cs := [(V.bool x.lf), (V.sl (List.map cI (x.ac))), (V.sl (List.map cI (x.sf))), (V.sl (List.map cL (x.ou))), (V.sl (List.map cI (x.kd)))]) rfl (congrArg Blk.ver rfl) (@rfl V (V.agg [(V.bool x.lf), (V.sl (List.map cI (x.ac))), (V.sl (List.map cI (x.sf))), (V.sl (List.map cL (x.ou))), (V.sl (List.map cI (x.kd)))])) rfl rfl ?_
  refine R_mv (@rfl V (iV (0 : Int))) ?_
  exact R_nil ⟨rfl, rfl, trivial⟩
 intro T H ⟨t1, h1, _⟩
 refine W_seq_seq ?_
 refine W_seq_regc (fun T H => T 1 = (V.mp 1 1 0 0) ∧ T 14 = (V.bool (decide ((0 : Int) < ((x.sf.length + x.ou.length + x.kd.length : Nat) : Int)))) ∧ H 1 = (⟨1, true, false, 68, 5, [[(V.bool x.lf), (V.sl (List.map cI (x.ac))), (V.sl (List.map cI (x.sf))), (V.sl (List.map cL (x.ou))), (V.sl (List.map cI (x.kd)))]]⟩ : Blk) ∧ True) ?_ ?_
 ·
  unfold r34_1
  refine R_fld_mp (o' := 2) t1 h1 (by first | rfl | simp [okB, Blk.own]) rfl ?_
  refine R_load_mp (v := (V.sl (List.map cI (x.sf)))) (@rfl V (V.mp 1 1 0 2)) h1 (by first | rfl | simp [ldB, ldV, Blk.own, V.one]) ?_
  refine R_len (@rfl V (V.sl (List.map cI (x.sf)))) ?_
  refine R_fld_mp (o' := 3) t1 h1 (by first | rfl | simp [okB, Blk.own]) rfl ?_
  refine R_load_mp (v := (V.sl (List.map cL (x.ou)))) (@rfl V (V.mp 1 1 0 3)) h1 (by first | rfl | simp [ldB, ldV, Blk.own, V.one]) ?_
  refine R_len (@rfl V (V.sl (List.map cL (x.ou)))) ?_
  refine R_addN (m := x.sf.length) (n := x.ou.length) (@rfl V (iV ((x.sf.length : Nat) : Int))) (@rfl V (iV ((x.ou.length : Nat) : Int))) (by omega) ?_
  refine R_fld_mp (o' := 4) t1 h1 (by first | rfl | simp [okB, Blk.own]) rfl ?_
  refine R_load_mp (v := (V.sl (List.map cI (x.kd)))) (@rfl V (V.mp 1 1 0 4)) h1 (by first | rfl | simp [ldB, ldV, Blk.own, V.one]) ?_
  refine R_len (@rfl V (V.sl (List.map cI (x.kd)))) ?_
  refine R_addN (m := (x.sf.length + x.ou.length)) (n := x.kd.length) (@rfl V (iV ((x.sf.length + x.ou.length : Nat) : Int))) (@rfl V (iV ((x.kd.length : Nat) : Int))) (by omega) ?_
  refine R_gtr (x := ((x.sf.length + x.ou.length + x.kd.length : Nat) : Int)) (y := (0 : Int)) (@rfl V (iV ((x.sf.length + x.ou.length + x.kd.length : Nat) : Int))) (@rfl V (iV (0 : Int))) ?_
  exact R_nil ⟨t1, rfl, h1, trivial⟩
 intro T H ⟨t1, t14, h1, _⟩
 refine W_seq_if (p := (0 : Int) < ((x.sf.length + x.ou.length + x.kd.length : Nat) : Int)) t14 (fun c1 => ?_) (fun c1 => ?_)
 ·
  refine W_seq_seq ?_
  refine W_seq_regc (fun T H => T 2 = (iV (1 : Int)) ∧ H 1 = (⟨1, true, false, 68, 5, [[(V.bool x.lf), (V.sl (List.map cI (x.ac))), (V.sl (List.map cI (x.sf))), (V.sl (List.map cL (x.ou))), (V.sl (List.map cI (x.kd)))]]⟩ : Blk) ∧ True) ?_ ?_
  ·
   unfold r34_2
   refine R_mv (@rfl V (iV (1 : Int))) ?_
   exact R_nil ⟨rfl, h1, trivial⟩
  intro T H ⟨t2, h1, _⟩
  refine W_seq_ret ?_
  refine Ret_1 t2 (fz_int ?_)
  · rw [lfE, if_pos (by omega)]
 refine W_seq_skip ?_
 refine W_seq_regc (fun T H => T 2 = (iV (wchk x.ac ((64 : Int)))) ∧ H 1 = (⟨1, true, false, 68, 5, [[(V.bool x.lf), (V.sl (List.map cI (x.ac))), (V.sl (List.map cI (x.sf))), (V.sl (List.map cL (x.ou))), (V.sl (List.map cI (x.kd)))]]⟩ : Blk) ∧ True) ?_ ?_
 ·
  unfold r34_3
  refine R_fld_mp (o' := 1) t1 h1 (by first | rfl | simp [okB, Blk.own]) rfl ?_
  refine R_load_mp (v := (V.sl (List.map cI (x.ac)))) (@rfl V (V.mp 1 1 0 1)) h1 (by first | rfl | simp [ldB, ldV, Blk.own, V.one]) ?_
  refine R_call (evcons (@rfl V (V.sl (List.map cI (x.ac)))) (evcons (@rfl V (iV (64 : Int))) evnil)) (check_pure x.ac ((64 : Int))) (fzv_mapcanon _ _ (by simp [-List.map_take, -List.map_drop, -List.map_append, -List.map_reverse])) (by simp [-List.map_take, -List.map_drop, -List.map_append, -List.map_reverse]) (Or.inl (by simp [-List.map_take, -List.map_drop, -List.map_append, -List.map_reverse])) ?_
  refine R_mv (@rfl V (iV (wchk x.ac ((64 : Int))))) ?_
  exact R_nil ⟨rfl, h1, trivial⟩
 intro T H ⟨t2, h1, _⟩
 refine W_ret ?_
 refine Ret_1 t2 (fz_int ?_)
 · rw [lfE, if_neg (by omega)]
end Go.Proofs.YtmnjchcoigbngaaGreat


namespace Go.Proofs.YtmnjchcoigbngaaGreat
open Go Go.Proofs
theorem values1_pure (o : Int) : PureC Tryz.prog 89 [(iV (o))] (V.bool (decide (o < 0 ∨ 1048576 < o))) := by
 refine pure_of_Wb true 6 Tryz.func89 s89_ok (by kernel_rfl) (by simp [s89]) (by simp) (by simp) fun hB => ?_
 simp only [bnd_map, bnd_int, bnd_bool, bnd_str, bnd_agg, bnd_pp, bnd_nil, bnd_cons, implies_true, and_true, true_and] at hB
 unfold s89
 dsimp only
 refine W_seq_regc (fun T H => T 0 = (iV (o)) ∧ True) ?_ ?_
 ·
  unfold r89_0
  refine R_mv (@rfl V (V.bool false)) ?_
  exact R_nil ⟨rfl, trivial⟩
 intro T H ⟨t0, _⟩
 refine W_seq_regc (fun T H => T 2 = (V.bool (decide (((o) < (0 : Int)) ∨ ((1048576 : Int) < (o))))) ∧ True) ?_ ?_
 ·
  unfold r89_1
  refine R_mv t0 ?_
  refine R_lss (x := (o)) (y := (0 : Int)) (@rfl V (iV (o))) (@rfl V (iV (0 : Int))) ?_
  refine R_mv (@rfl V (V.bool (decide ((o) < (0 : Int))))) ?_
  refine Ops_seg 3 (fun T H => T 8 = (V.bool (decide (((o) < (0 : Int)) ∨ ((1048576 : Int) < (o))))) ∧ True) ?_ ?_
  ·
   by_cases g1 : (o) < (0 : Int)
   ·
    refine G_no (Eq.trans (@rfl V (V.bool (decide ((o) < (0 : Int))))) (bdT g1)) (by decide) ?_
    refine G_no (Eq.trans (@rfl V (V.bool (decide ((o) < (0 : Int))))) (bdT g1)) (by decide) ?_
    refine R_pickT (Eq.trans (@rfl V (V.bool (decide ((o) < (0 : Int))))) (bdT g1)) (@rfl V (V.bool true)) ?_
    exact ⟨(Eq.trans (@rfl V (V.bool true)) (dec_orT g1)), trivial⟩
   ·
    refine G_yes (Eq.trans (@rfl V (V.bool (decide ((o) < (0 : Int))))) (bdF g1)) ?_
    refine R_mv t0 ?_
    refine G_yes (Eq.trans (@rfl V (V.bool (decide ((o) < (0 : Int))))) (bdF g1)) ?_
    refine R_gtr (x := (o)) (y := (1048576 : Int)) (@rfl V (iV (o))) (@rfl V (iV (1048576 : Int))) ?_
    refine R_pickF (Eq.trans (@rfl V (V.bool (decide ((o) < (0 : Int))))) (bdF g1)) (@rfl V (V.bool (decide ((1048576 : Int) < (o))))) ?_
    exact ⟨(Eq.trans (@rfl V (V.bool (decide ((1048576 : Int) < (o))))) (dec_orF g1)), trivial⟩
  intro T H ⟨t8, _⟩
  refine R_mv t8 ?_
  exact R_nil ⟨rfl, trivial⟩
 intro T H ⟨t2, _⟩
 refine W_ret ?_
 refine Ret_1 t2 (fz_bool ?_)
 · first | rfl | exact decide_eq_decide.2 (by omega)
end Go.Proofs.YtmnjchcoigbngaaGreat


namespace Go.Proofs.YtmnjchcoigbngaaGreat
open Go Go.Proofs
theorem values_pure (outs suffix : List Int) : PureC Tryz.prog 55 [(V.sl (List.map cI (outs))), (V.sl (List.map cI (suffix)))] (iV (vlE outs suffix)) := by
 refine pure_of_Wb true 6 Tryz.func55 s55_ok (by kernel_rfl) (by simp [s55]) (by simp) (by simp) fun hB => ?_
 simp only [bnd_map, bnd_int, bnd_bool, bnd_str, bnd_agg, bnd_pp, bnd_nil, bnd_cons, implies_true, and_true, true_and] at hB
 unfold s55
 dsimp only
 refine W_seq_regc (fun T H => T 0 = (V.sl (List.map cI (outs))) ∧ T 1 = (V.sl (List.map cI (suffix))) ∧ True) ?_ ?_
 ·
  unfold r55_0
  refine R_mv (@rfl V (iV (0 : Int))) ?_
  exact R_nil ⟨rfl, rfl, trivial⟩
 intro T H ⟨t0, t1, _⟩
 refine W_seq_seq ?_
 refine W_seq_regc (fun T H => T 0 = (V.sl (List.map cI (outs))) ∧ T 9 = (V.bool (decide (((outs.length : Nat) : Int) ≠ ((suffix.length : Nat) : Int)))) ∧ True) ?_ ?_
 ·
  unfold r55_1
  refine R_mv t0 ?_
  refine R_len (@rfl V (V.sl (List.map cI (outs)))) ?_
  refine R_mv t1 ?_
  refine R_len (@rfl V (V.sl (List.map cI (suffix)))) ?_
  refine R_neq (x := ((outs.length : Nat) : Int)) (y := ((suffix.length : Nat) : Int)) (@rfl V (iV ((outs.length : Nat) : Int))) (@rfl V (iV ((suffix.length : Nat) : Int))) ?_
  exact R_nil ⟨t0, rfl, trivial⟩
 intro T H ⟨t0, t9, _⟩
 refine W_seq_if (p := ((outs.length : Nat) : Int) ≠ ((suffix.length : Nat) : Int)) t9 (fun c1 => ?_) (fun c1 => ?_)
 ·
  refine W_seq_seq ?_
  refine W_seq_regc (fun T H => T 4 = (iV (1 : Int)) ∧ True) ?_ ?_
  ·
   unfold r55_2
   refine R_mv (@rfl V (iV (1 : Int))) ?_
   exact R_nil ⟨rfl, trivial⟩
  intro T H ⟨t4, _⟩
  refine W_seq_ret ?_
  refine Ret_1 t4 (fz_int ?_)
  · rw [vlE, if_pos (by omega)]
 refine W_seq_skip ?_
 refine W_seq_seq ?_
 refine W_seq_regc (fun T H => T 11 = (V.bool (decide (0 ≤ fi (fun j => (fun a => decide (a < 0 ∨ 1048576 < a)) (nth outs j)) 0 outs.length))) ∧ True) ?_ ?_
 ·
  unfold r55_3
  refine R_mv t0 ?_
  refine R_call (evcons (@rfl V (V.sl (List.map cI (outs)))) (evcons (@rfl V (V.fn 89 [] [])) evnil)) (coni_pure (fun a => decide (a < 0 ∨ 1048576 < a)) outs 89 ([]) (by simp) (by simp) (fun k _ => values1_pure (nth outs k))) (fzv_mapcanon _ _ (by simp [-List.map_take, -List.map_drop, -List.map_append, -List.map_reverse])) (by simp [-List.map_take, -List.map_drop, -List.map_append, -List.map_reverse]) (Or.inl (by simp [-List.map_take, -List.map_drop, -List.map_append, -List.map_reverse])) ?_
  exact R_nil ⟨rfl, trivial⟩
 intro T H ⟨t11, _⟩
 refine W_seq_if (p := 0 ≤ fi (fun j => (fun a => decide (a < 0 ∨ 1048576 < a)) (nth outs j)) 0 outs.length) t11 (fun c2 => ?_) (fun c2 => ?_)
 ·
  refine W_seq_seq ?_
  refine W_seq_regc (fun T H => T 4 = (iV (2 : Int)) ∧ True) ?_ ?_
  ·
   unfold r55_4
   refine R_mv (@rfl V (iV (2 : Int))) ?_
   exact R_nil ⟨rfl, trivial⟩
  intro T H ⟨t4, _⟩
  refine W_seq_ret ?_
  refine Ret_1 t4 (fz_int ?_)
  · have e := ou_fe outs
    rw [vlE, if_neg (by omega)]; omega
 refine W_seq_skip ?_
 refine W_seq_regc (fun T H => T 4 = (iV (0 : Int)) ∧ True) ?_ ?_
 ·
  unfold r55_5
  refine R_mv (@rfl V (iV (0 : Int))) ?_
  exact R_nil ⟨rfl, trivial⟩
 intro T H ⟨t4, _⟩
 refine W_ret ?_
 refine Ret_1 t4 (fz_int ?_)
 · have e := ou_fe outs
   rw [vlE, if_neg (by omega)]; omega
end Go.Proofs.YtmnjchcoigbngaaGreat


namespace Go.Proofs.YtmnjchcoigbngaaGreat
open Go Go.Proofs
theorem isnan_pure (n : Int) : PureC Tryz.prog 118 [(iV (n))] (V.bool false) := by
 refine pure_of_Wb true 6 Tryz.func118 s118_ok (by kernel_rfl) (by simp [s118]) (by simp) (by simp) fun hB => ?_
 simp only [bnd_map, bnd_int, bnd_bool, bnd_str, bnd_agg, bnd_pp, bnd_nil, bnd_cons, implies_true, and_true, true_and] at hB
 unfold s118
 dsimp only
 refine W_seq_regc (fun T H => T 0 = (iV (n)) ∧ True) ?_ ?_
 ·
  unfold r118_0
  refine R_mv (@rfl V (V.bool false)) ?_
  exact R_nil ⟨rfl, trivial⟩
 intro T H ⟨t0, _⟩
 refine W_seq_regc (fun T H => T 2 = (V.bool (decide ((n) ≠ (n)))) ∧ True) ?_ ?_
 ·
  unfold r118_1
  refine R_mv t0 ?_
  refine R_mv t0 ?_
  refine R_neq (x := (n)) (y := (n)) (@rfl V (iV (n))) (@rfl V (iV (n))) ?_
  refine R_mv (@rfl V (V.bool (decide ((n) ≠ (n))))) ?_
  exact R_nil ⟨rfl, trivial⟩
 intro T H ⟨t2, _⟩
 refine W_ret ?_
 refine Ret_1 t2 (fz_bool ?_)
 · simp
end Go.Proofs.YtmnjchcoigbngaaGreat


namespace Go.Proofs.YtmnjchcoigbngaaGreat
open Go Go.Proofs
theorem cmpint_pure (x y : Int) : PureC Tryz.prog 107 [(iV (x)), (iV (y))] (iV (cmpI x y)) := by
 refine pure_of_Wb true 6 Tryz.func107 s107_ok (by kernel_rfl) (by simp [s107]) (by simp) (by simp) fun hB => ?_
 simp only [bnd_map, bnd_int, bnd_bool, bnd_str, bnd_agg, bnd_pp, bnd_nil, bnd_cons, implies_true, and_true, true_and] at hB
 unfold s107
 dsimp only
 refine W_seq_regc (fun T H => T 0 = (iV (x)) ∧ T 1 = (iV (y)) ∧ True) ?_ ?_
 ·
  unfold r107_0
  refine R_mv (@rfl V (iV (0 : Int))) ?_
  exact R_nil ⟨rfl, rfl, trivial⟩
 intro T H ⟨t0, t1, _⟩
 refine W_seq_regc (fun T H => T 0 = (iV (x)) ∧ T 1 = (iV (y)) ∧ T 5 = (V.bool false) ∧ True) ?_ ?_
 ·
  unfold r107_1
  refine R_mv t0 ?_
  refine R_call (evcons (@rfl V (iV (x))) evnil) (isnan_pure ((x))) (fzv_mapcanon _ _ (by simp [-List.map_take, -List.map_drop, -List.map_append, -List.map_reverse])) (by simp [-List.map_take, -List.map_drop, -List.map_append, -List.map_reverse]) (Or.inl (by simp [-List.map_take, -List.map_drop, -List.map_append, -List.map_reverse])) ?_
  refine R_mv (@rfl V (V.bool false)) ?_
  exact R_nil ⟨t0, t1, rfl, trivial⟩
 intro T H ⟨t0, t1, t5, _⟩
 refine W_seq_regc (fun T H => T 0 = (iV (x)) ∧ T 1 = (iV (y)) ∧ T 5 = (V.bool false) ∧ T 6 = (V.bool false) ∧ True) ?_ ?_
 ·
  unfold r107_2
  refine R_mv t1 ?_
  refine R_call (evcons (@rfl V (iV (y))) evnil) (isnan_pure ((y))) (fzv_mapcanon _ _ (by simp [-List.map_take, -List.map_drop, -List.map_append, -List.map_reverse])) (by simp [-List.map_take, -List.map_drop, -List.map_append, -List.map_reverse]) (Or.inl (by simp [-List.map_take, -List.map_drop, -List.map_append, -List.map_reverse])) ?_
  refine R_mv (@rfl V (V.bool false)) ?_
  exact R_nil ⟨t0, t1, t5, rfl, trivial⟩
 intro T H ⟨t0, t1, t5, t6, _⟩
 refine W_seq_seq ?_
 refine W_seq_regc (fun T H => T 0 = (iV (x)) ∧ T 1 = (iV (y)) ∧ T 6 = (V.bool false) ∧ T 11 = (V.bool false) ∧ True) ?_ ?_
 ·
  unfold r107_3
  refine R_mv t5 ?_
  exact R_nil ⟨t0, t1, t6, rfl, trivial⟩
 intro T H ⟨t0, t1, t6, t11, _⟩
 refine W_seq_ifb t11 (fun c1 => ?_) (fun c1 => ?_)
 · cases c1
 refine W_seq_skip ?_
 refine W_seq_seq ?_
 refine W_seq_regc (fun T H => T 0 = (iV (x)) ∧ T 1 = (iV (y)) ∧ T 13 = (V.bool false) ∧ True) ?_ ?_
 ·
  unfold r107_7
  refine R_mv t6 ?_
  exact R_nil ⟨t0, t1, rfl, trivial⟩
 intro T H ⟨t0, t1, t13, _⟩
 refine W_seq_ifb t13 (fun c2 => ?_) (fun c2 => ?_)
 · cases c2
 refine W_seq_skip ?_
 refine W_seq_seq ?_
 refine W_seq_regc (fun T H => T 0 = (iV (x)) ∧ T 1 = (iV (y)) ∧ T 16 = (V.bool (decide ((x) < (y)))) ∧ True) ?_ ?_
 ·
  unfold r107_9
  refine R_mv t0 ?_
  refine R_mv t1 ?_
  refine R_lss (x := (x)) (y := (y)) (@rfl V (iV (x))) (@rfl V (iV (y))) ?_
  exact R_nil ⟨t0, t1, rfl, trivial⟩
 intro T H ⟨t0, t1, t16, _⟩
 refine W_seq_if (p := (x) < (y)) t16 (fun c3 => ?_) (fun c3 => ?_)
 ·
  refine W_seq_seq ?_
  refine W_seq_regc (fun T H => T 4 = (iV (-1 : Int)) ∧ True) ?_ ?_
  ·
   unfold r107_10
   refine R_mv (@rfl V (iV (-1 : Int))) ?_
   exact R_nil ⟨rfl, trivial⟩
  intro T H ⟨t4, _⟩
  refine W_seq_ret ?_
  refine Ret_1 t4 (fz_int ?_)
  · unfold cmpI; repeat (split <;> first | rfl | omega | skip)
 refine W_seq_skip ?_
 refine W_seq_seq ?_
 refine W_seq_regc (fun T H => T 19 = (V.bool (decide ((y) < (x)))) ∧ True) ?_ ?_
 ·
  unfold r107_11
  refine R_mv t0 ?_
  refine R_mv t1 ?_
  refine R_gtr (x := (x)) (y := (y)) (@rfl V (iV (x))) (@rfl V (iV (y))) ?_
  exact R_nil ⟨rfl, trivial⟩
 intro T H ⟨t19, _⟩
 refine W_seq_if (p := (y) < (x)) t19 (fun c4 => ?_) (fun c4 => ?_)
 ·
  refine W_seq_seq ?_
  refine W_seq_regc (fun T H => T 4 = (iV (1 : Int)) ∧ True) ?_ ?_
  ·
   unfold r107_12
   refine R_mv (@rfl V (iV (1 : Int))) ?_
   exact R_nil ⟨rfl, trivial⟩
  intro T H ⟨t4, _⟩
  refine W_seq_ret ?_
  refine Ret_1 t4 (fz_int ?_)
  · unfold cmpI; repeat (split <;> first | rfl | omega | skip)
 refine W_seq_skip ?_
 refine W_seq_regc (fun T H => T 4 = (iV (0 : Int)) ∧ True) ?_ ?_
 ·
  unfold r107_13
  refine R_mv (@rfl V (iV (0 : Int))) ?_
  exact R_nil ⟨rfl, trivial⟩
 intro T H ⟨t4, _⟩
 refine W_ret ?_
 refine Ret_1 t4 (fz_int ?_)
 · unfold cmpI; repeat (split <;> first | rfl | omega | skip)
end Go.Proofs.YtmnjchcoigbngaaGreat


namespace Go.Proofs.YtmnjchcoigbngaaGreat
open Go Go.Proofs
theorem scompare_pure (a b : List Int) : PureC Tryz.prog 97 [(V.sl (List.map cI (a))), (V.sl (List.map cI (b)))] (iV (lexI a b)) := by
 refine pure_of_Wb true 6 Tryz.func97 s97_ok (by kernel_rfl) (by simp [s97]) (by simp) (by simp) fun hB => ?_
 simp only [bnd_map, bnd_int, bnd_bool, bnd_str, bnd_agg, bnd_pp, bnd_nil, bnd_cons, implies_true, and_true, true_and] at hB
 unfold s97
 dsimp only
 refine W_seq_regc (fun T H => T 0 = (V.sl (List.map cI (a))) ∧ T 1 = (V.sl (List.map cI (b))) ∧ True) ?_ ?_
 ·
  unfold r97_0
  refine R_mv (@rfl V (iV (0 : Int))) ?_
  exact R_nil ⟨rfl, rfl, trivial⟩
 intro T H ⟨t0, t1, _⟩
 refine W_seq_seq ?_
 refine W_seq_regc (fun T H => T 0 = (V.sl (List.map cI (a))) ∧ T 1 = (V.sl (List.map cI (b))) ∧ T 9 = (V.sl (List.map cI (a))) ∧ T 10 = (iV ((a.length : Nat) : Int)) ∧ T 11 = (iV (0 : Int)) ∧ True) ?_ ?_
 ·
  unfold r97_1
  refine R_mv t0 ?_
  refine R_len (@rfl V (V.sl (List.map cI (a)))) ?_
  refine R_mv (@rfl V (iV (0 : Int))) ?_
  exact R_nil ⟨t0, t1, rfl, rfl, rfl, trivial⟩
 intro T H ⟨t0, t1, t9, t10, t11, _⟩
 refine W_seq_blockg fun Q1 n1 x1 y1 z1 => ?_
 refine W_loop (fun mm T H => ∃ (k : Nat), mm = a.length - k ∧ T 0 = (V.sl (List.map cI (a))) ∧ T 1 = (V.sl (List.map cI (b))) ∧ T 9 = (V.sl (List.map cI (a))) ∧ T 10 = (iV ((a.length : Nat) : Int)) ∧ T 11 = (iV ((k : Nat) : Int)) ∧ (k ≤ a.length) ∧ (k ≤ cmn a b)) ?_ ?_
 ·
  refine ⟨_, 0, rfl, t0, t1, t9, t10, (Eq.trans t11 (by first | rfl | simp)), ?_, ?_⟩
  · omega
  · exact Nat.zero_le _
 intro mm T H ⟨k, hmm, t0, t1, t9, t10, t11, hk, hc⟩ Q2 p12 p22 p32
 unfold b97_0
 refine W_seq_regc (fun T H => T 0 = (V.sl (List.map cI (a))) ∧ T 1 = (V.sl (List.map cI (b))) ∧ T 9 = (V.sl (List.map cI (a))) ∧ T 10 = (iV ((a.length : Nat) : Int)) ∧ T 11 = (iV ((k : Nat) : Int)) ∧ T 12 = (V.bool (decide (((k : Nat) : Int) < ((a.length : Nat) : Int)))) ∧ True) ?_ ?_
 ·
  unfold r97_2
  refine R_lss (x := ((k : Nat) : Int)) (y := ((a.length : Nat) : Int)) t11 t10 ?_
  exact R_nil ⟨t0, t1, t9, t10, t11, rfl, trivial⟩
 intro T H ⟨t0, t1, t9, t10, t11, t12, _⟩
 refine W_seq_if (p := ((k : Nat) : Int) < ((a.length : Nat) : Int)) t12 (fun c3 => ?_) (fun c3 => ?_)
 ·
  refine W_seq_skip ?_
  refine W_seq_blockg fun Q4 n4 x4 y4 z4 => ?_
  refine W_seq_regc (fun T H => T 0 = (V.sl (List.map cI (a))) ∧ T 1 = (V.sl (List.map cI (b))) ∧ T 5 = (iV ((k : Nat) : Int)) ∧ T 6 = (iV ((nth (a) (k)))) ∧ T 9 = (V.sl (List.map cI (a))) ∧ T 10 = (iV ((a.length : Nat) : Int)) ∧ T 11 = (iV ((k : Nat) : Int)) ∧ True) ?_ ?_
  ·
   unfold r97_3
   refine R_mv t11 ?_
   refine R_idx (i := k) t9 t11 (by omega) rfl ?_
   refine R_load_pp (v := (iV ((nth (a) (k))))) (@rfl V (V.pp [(iV ((nth (a) (k))))])) (by first | rfl | simp [ldV]) ?_
   refine R_mv (@rfl V (iV ((k : Nat) : Int))) ?_
   refine R_mv (@rfl V (iV ((nth (a) (k))))) ?_
   exact R_nil ⟨t0, t1, rfl, rfl, t9, t10, t11, trivial⟩
  intro T H ⟨t0, t1, t5, t6, t9, t10, t11, _⟩
  refine W_seq_seq ?_
  refine W_seq_regc (fun T H => T 0 = (V.sl (List.map cI (a))) ∧ T 1 = (V.sl (List.map cI (b))) ∧ T 5 = (iV ((k : Nat) : Int)) ∧ T 6 = (iV ((nth (a) (k)))) ∧ T 9 = (V.sl (List.map cI (a))) ∧ T 10 = (iV ((a.length : Nat) : Int)) ∧ T 11 = (iV ((k : Nat) : Int)) ∧ T 19 = (V.bool (decide (((b.length : Nat) : Int) ≤ ((k : Nat) : Int)))) ∧ True) ?_ ?_
  ·
   unfold r97_4
   refine R_mv t5 ?_
   refine R_mv t1 ?_
   refine R_len (@rfl V (V.sl (List.map cI (b)))) ?_
   refine R_geq (x := ((k : Nat) : Int)) (y := ((b.length : Nat) : Int)) (@rfl V (iV ((k : Nat) : Int))) (@rfl V (iV ((b.length : Nat) : Int))) ?_
   exact R_nil ⟨t0, t1, t5, t6, t9, t10, t11, rfl, trivial⟩
  intro T H ⟨t0, t1, t5, t6, t9, t10, t11, t19, _⟩
  refine W_seq_if (p := ((b.length : Nat) : Int) ≤ ((k : Nat) : Int)) t19 (fun c5 => ?_) (fun c5 => ?_)
  ·
   refine W_seq_seq ?_
   refine W_seq_regc (fun T H => T 4 = (iV (1 : Int)) ∧ True) ?_ ?_
   ·
    unfold r97_5
    refine R_mv (@rfl V (iV (1 : Int))) ?_
    exact R_nil ⟨rfl, trivial⟩
   intro T H ⟨t4, _⟩
   refine W_seq_ret ?_
   refine y4 _ _ ?_
   refine p22 _ _ ?_
   refine y1 _ _ ?_
   refine Ret_1 t4 (fz_int ?_)
   · have g1 := cmn_l a b
     have g2 := cmn_r a b
     have g3 := cmn_at hc (by omega)
     simp only [lexI, cmpI, g3] at *; repeat (split <;> first | rfl | omega | skip)
  refine W_seq_skip ?_
  refine W_seq_regc (fun T H => T 0 = (V.sl (List.map cI (a))) ∧ T 1 = (V.sl (List.map cI (b))) ∧ T 6 = (iV ((nth (a) (k)))) ∧ T 7 = (iV ((nth (b) (k)))) ∧ T 9 = (V.sl (List.map cI (a))) ∧ T 10 = (iV ((a.length : Nat) : Int)) ∧ T 11 = (iV ((k : Nat) : Int)) ∧ True) ?_ ?_
  ·
   unfold r97_6
   refine R_mv t1 ?_
   refine R_mv t5 ?_
   refine R_idx (i := k) (@rfl V (V.sl (List.map cI (b)))) (@rfl V (iV ((k : Nat) : Int))) (by omega) rfl ?_
   refine R_load_pp (v := (iV ((nth (b) (k))))) (@rfl V (V.pp [(iV ((nth (b) (k))))])) (by first | rfl | simp [ldV]) ?_
   refine R_mv (@rfl V (iV ((nth (b) (k))))) ?_
   exact R_nil ⟨t0, t1, t6, rfl, t9, t10, t11, trivial⟩
  intro T H ⟨t0, t1, t6, t7, t9, t10, t11, _⟩
  refine W_seq_regc (fun T H => T 0 = (V.sl (List.map cI (a))) ∧ T 1 = (V.sl (List.map cI (b))) ∧ T 8 = (iV (cmpI (((nth (a) (k)))) (((nth (b) (k)))))) ∧ T 9 = (V.sl (List.map cI (a))) ∧ T 10 = (iV ((a.length : Nat) : Int)) ∧ T 11 = (iV ((k : Nat) : Int)) ∧ True) ?_ ?_
  ·
   unfold r97_7
   refine R_mv t6 ?_
   refine R_mv t7 ?_
   refine R_call (evcons (@rfl V (iV ((nth (a) (k))))) (evcons (@rfl V (iV ((nth (b) (k))))) evnil)) (cmpint_pure (((nth (a) (k)))) (((nth (b) (k))))) (fzv_mapcanon _ _ (by simp [-List.map_take, -List.map_drop, -List.map_append, -List.map_reverse])) (by simp [-List.map_take, -List.map_drop, -List.map_append, -List.map_reverse]) (Or.inl (by simp [-List.map_take, -List.map_drop, -List.map_append, -List.map_reverse])) ?_
   refine R_mv (@rfl V (iV (cmpI (((nth (a) (k)))) (((nth (b) (k))))))) ?_
   exact R_nil ⟨t0, t1, rfl, t9, t10, t11, trivial⟩
  intro T H ⟨t0, t1, t8, t9, t10, t11, _⟩
  refine W_seq_regc (fun T H => T 0 = (V.sl (List.map cI (a))) ∧ T 1 = (V.sl (List.map cI (b))) ∧ T 8 = (iV (cmpI (((nth (a) (k)))) (((nth (b) (k)))))) ∧ T 9 = (V.sl (List.map cI (a))) ∧ T 10 = (iV ((a.length : Nat) : Int)) ∧ T 11 = (iV ((k : Nat) : Int)) ∧ T 28 = (V.bool (decide ((cmpI (((nth (a) (k)))) (((nth (b) (k))))) ≠ (0 : Int)))) ∧ True) ?_ ?_
  ·
   unfold r97_8
   refine R_mv t8 ?_
   refine R_neq (x := (cmpI (((nth (a) (k)))) (((nth (b) (k)))))) (y := (0 : Int)) (@rfl V (iV (cmpI (((nth (a) (k)))) (((nth (b) (k))))))) (@rfl V (iV (0 : Int))) ?_
   exact R_nil ⟨t0, t1, t8, t9, t10, t11, rfl, trivial⟩
  intro T H ⟨t0, t1, t8, t9, t10, t11, t28, _⟩
  refine W_if (p := (cmpI (((nth (a) (k)))) (((nth (b) (k))))) ≠ (0 : Int)) t28 (fun c6 => ?_) (fun c6 => ?_)
  ·
   have c9 : nth a k ≠ nth b k := fun e => c6 (cmpI_zero.2 e)
   refine W_seq_regc (fun T H => T 4 = (iV (cmpI (((nth (a) (k)))) (((nth (b) (k)))))) ∧ True) ?_ ?_
   ·
    unfold r97_9
    refine R_mv t8 ?_
    refine R_mv (@rfl V (iV (cmpI (((nth (a) (k)))) (((nth (b) (k))))))) ?_
    exact R_nil ⟨rfl, trivial⟩
   intro T H ⟨t4, _⟩
   refine W_ret ?_
   refine y4 _ _ ?_
   refine p22 _ _ ?_
   refine y1 _ _ ?_
   refine Ret_1 t4 (fz_int ?_)
   · have g1 := cmn_l a b
     have g2 := cmn_r a b
     have g3 := cmn_at hc (by omega)
     simp only [lexI, cmpI, g3] at *; repeat (split <;> first | rfl | omega | skip)
  refine W_skip ?_
  refine n4 _ _ ?_
  refine .done ?_
  refine W_regc (fun T H => T 0 = (V.sl (List.map cI (a))) ∧ T 1 = (V.sl (List.map cI (b))) ∧ T 9 = (V.sl (List.map cI (a))) ∧ T 10 = (iV ((a.length : Nat) : Int)) ∧ T 11 = (iV ((k + 1 : Nat) : Int)) ∧ True) ?_ ?_
  ·
   unfold r97_10
   refine R_addN (m := k) (n := 1) t11 (@rfl V (iV ((1 : Nat) : Int))) (by omega) ?_
   refine R_mv (@rfl V (iV ((k + 1 : Nat) : Int))) ?_
   exact R_nil ⟨t0, t1, t9, t10, rfl, trivial⟩
  intro T H ⟨t0, t1, t9, t10, t11, _⟩
  refine p12 _ _ _ ?_ ⟨(k + 1), rfl, t0, t1, t9, t10, (Eq.trans t11 (by first | rfl | simp)), ?_, ?_⟩
  · omega
  · omega
  · exact cmn_next hc (by omega) (by omega) (cmpI_zero.1 (by omega))
 refine W_seq_exit ?_
 refine p32 _ _ _ ?_
 refine x1 _ _ ?_
 refine .done ?_
 refine W_seq_seq ?_
 refine W_seq_regc (fun T H => T 35 = (V.bool (decide (((a.length : Nat) : Int) < ((b.length : Nat) : Int)))) ∧ True) ?_ ?_
 ·
  unfold r97_11
  refine R_mv t0 ?_
  refine R_len (@rfl V (V.sl (List.map cI (a)))) ?_
  refine R_mv t1 ?_
  refine R_len (@rfl V (V.sl (List.map cI (b)))) ?_
  refine R_lss (x := ((a.length : Nat) : Int)) (y := ((b.length : Nat) : Int)) (@rfl V (iV ((a.length : Nat) : Int))) (@rfl V (iV ((b.length : Nat) : Int))) ?_
  exact R_nil ⟨rfl, trivial⟩
 intro T H ⟨t35, _⟩
 refine W_seq_if (p := ((a.length : Nat) : Int) < ((b.length : Nat) : Int)) t35 (fun c7 => ?_) (fun c7 => ?_)
 ·
  refine W_seq_seq ?_
  refine W_seq_regc (fun T H => T 4 = (iV (-1 : Int)) ∧ True) ?_ ?_
  ·
   unfold r97_12
   refine R_mv (@rfl V (iV (-1 : Int))) ?_
   exact R_nil ⟨rfl, trivial⟩
  intro T H ⟨t4, _⟩
  refine W_seq_ret ?_
  refine Ret_1 t4 (fz_int ?_)
  · have g1 := cmn_l a b
    have g2 := cmn_r a b
    have g3 := cmn_at hc (by omega)
    simp only [lexI, cmpI, g3] at *; repeat (split <;> first | rfl | omega | skip)
 refine W_seq_skip ?_
 refine W_seq_regc (fun T H => T 4 = (iV (0 : Int)) ∧ True) ?_ ?_
 ·
  unfold r97_13
  refine R_mv (@rfl V (iV (0 : Int))) ?_
  exact R_nil ⟨rfl, trivial⟩
 intro T H ⟨t4, _⟩
 refine W_ret ?_
 refine Ret_1 t4 (fz_int ?_)
 · have g1 := cmn_l a b
   have g2 := cmn_r a b
   have g3 := cmn_at hc (by omega)
   simp only [lexI, cmpI, g3] at *; repeat (split <;> first | rfl | omega | skip)
end Go.Proofs.YtmnjchcoigbngaaGreat


namespace Go.Proofs.YtmnjchcoigbngaaGreat
open Go Go.Proofs
theorem lex_pure (a b : List Int) : PureC Tryz.prog 66 [(V.sl (List.map cI (a))), (V.sl (List.map cI (b)))] (iV (lexI a b)) := by
 refine pure_of_Wb true 6 Tryz.func66 s66_ok (by kernel_rfl) (by simp [s66]) (by simp) (by simp) fun hB => ?_
 simp only [bnd_map, bnd_int, bnd_bool, bnd_str, bnd_agg, bnd_pp, bnd_nil, bnd_cons, implies_true, and_true, true_and] at hB
 unfold s66
 dsimp only
 refine W_seq_regc (fun T H => T 0 = (V.sl (List.map cI (a))) ∧ T 1 = (V.sl (List.map cI (b))) ∧ True) ?_ ?_
 ·
  unfold r66_0
  refine R_mv (@rfl V (iV (0 : Int))) ?_
  exact R_nil ⟨rfl, rfl, trivial⟩
 intro T H ⟨t0, t1, _⟩
 refine W_seq_regc (fun T H => T 4 = (iV (lexI a b)) ∧ True) ?_ ?_
 ·
  unfold r66_1
  refine R_mv t0 ?_
  refine R_mv t1 ?_
  refine R_call (evcons (@rfl V (V.sl (List.map cI (a)))) (evcons (@rfl V (V.sl (List.map cI (b)))) evnil)) (scompare_pure a b) (fzv_mapcanon _ _ (by simp [-List.map_take, -List.map_drop, -List.map_append, -List.map_reverse])) (by simp [-List.map_take, -List.map_drop, -List.map_append, -List.map_reverse]) (Or.inl (by simp [-List.map_take, -List.map_drop, -List.map_append, -List.map_reverse])) ?_
  refine R_mv (@rfl V (iV (lexI a b))) ?_
  exact R_nil ⟨rfl, trivial⟩
 intro T H ⟨t4, _⟩
 refine W_ret ?_
 refine Ret_1 t4 (fz_canon (by simp) rfl)
end Go.Proofs.YtmnjchcoigbngaaGreat


namespace Go.Proofs.YtmnjchcoigbngaaGreat
open Go Go.Proofs
theorem inner_pure (x : Nd) (n : Nat) (ho : x.ou.length ≤ 1048576) : PureC Tryz.prog 35 [(V.agg [(V.bool x.lf), (V.sl (List.map cI (x.ac))), (V.sl (List.map cI (x.sf))), (V.sl (List.map cL (x.ou))), (V.sl (List.map cI (x.kd)))]), (iV ((n : Nat) : Int))] (iV (inE2 x n)) := by
 refine pure_of_Wb true 6 Tryz.func35 s35_ok (by kernel_rfl) (by simp [s35]) (by simp) (by simp) fun hB => ?_
 simp only [bnd_map, bnd_int, bnd_bool, bnd_str, bnd_agg, bnd_pp, bnd_nil, bnd_cons, implies_true, and_true, true_and] at hB
 unfold s35
 dsimp only
 refine W_seq_regc (fun T H => T 1 = (iV ((n : Nat) : Int)) ∧ T 2 = (V.mp 2 1 0 0) ∧ H 2 = (⟨1, true, false, 68, 5, [[(V.bool x.lf), (V.sl (List.map cI (x.ac))), (V.sl (List.map cI (x.sf))), (V.sl (List.map cL (x.ou))), (V.sl (List.map cI (x.kd)))]]⟩ : Blk) ∧ True) ?_ ?_
 ·
  unfold r35_0
  refine R_box (i := 2) (n := 0) (m := 5) (cs := [(V.bool x.lf), (V.sl (List.map cI (x.ac))), (V.sl (List.map cI (x.sf))), (V.sl (List.map cL (x.ou))), (V.sl (List.map cI (x.kd)))]) rfl (congrArg Blk.ver rfl) (@rfl V (V.agg [(V.bool x.lf), (V.sl (List.map cI (x.ac))), (V.sl (List.map cI (x.sf))), (V.sl (List.map cL (x.ou))), (V.sl (List.map cI (x.kd)))])) rfl rfl ?_
  refine R_mv (@rfl V (iV (0 : Int))) ?_
  exact R_nil ⟨rfl, rfl, rfl, trivial⟩
 intro T H ⟨t1, t2, h2, _⟩
 refine W_seq_blockg fun Q1 n1 x1 y1 z1 => ?_
 refine W_seq_regc (fun T H => T 1 = (iV ((n : Nat) : Int)) ∧ T 2 = (V.mp 2 1 0 0) ∧ T 9 = (V.bool (decide ((0 : Int) < ((x.ac.length : Nat) : Int)))) ∧ H 2 = (⟨1, true, false, 68, 5, [[(V.bool x.lf), (V.sl (List.map cI (x.ac))), (V.sl (List.map cI (x.sf))), (V.sl (List.map cL (x.ou))), (V.sl (List.map cI (x.kd)))]]⟩ : Blk) ∧ True) ?_ ?_
 ·
  unfold r35_1
  refine R_fld_mp (o' := 1) t2 h2 (by first | rfl | simp [okB, Blk.own]) rfl ?_
  refine R_load_mp (v := (V.sl (List.map cI (x.ac)))) (@rfl V (V.mp 2 1 0 1)) h2 (by first | rfl | simp [ldB, ldV, Blk.own, V.one]) ?_
  refine R_len (@rfl V (V.sl (List.map cI (x.ac)))) ?_
  refine R_gtr (x := ((x.ac.length : Nat) : Int)) (y := (0 : Int)) (@rfl V (iV ((x.ac.length : Nat) : Int))) (@rfl V (iV (0 : Int))) ?_
  refine R_mv (@rfl V (V.bool (decide ((0 : Int) < ((x.ac.length : Nat) : Int))))) ?_
  exact R_nil ⟨t1, t2, rfl, h2, trivial⟩
 intro T H ⟨t1, t2, t9, h2, _⟩
 refine W_if (p := (0 : Int) < ((x.ac.length : Nat) : Int)) t9 (fun c2 => ?_) (fun c2 => ?_)
 ·
  refine W_seq_regc (fun T H => T 4 = (iV (1 : Int)) ∧ H 2 = (⟨1, true, false, 68, 5, [[(V.bool x.lf), (V.sl (List.map cI (x.ac))), (V.sl (List.map cI (x.sf))), (V.sl (List.map cL (x.ou))), (V.sl (List.map cI (x.kd)))]]⟩ : Blk) ∧ True) ?_ ?_
  ·
   unfold r35_2
   refine R_mv (@rfl V (iV (1 : Int))) ?_
   exact R_nil ⟨rfl, h2, trivial⟩
  intro T H ⟨t4, h2, _⟩
  refine W_ret ?_
  refine y1 _ _ ?_
  refine Ret_1 t4 (fz_int ?_)
  · rw [inE2, if_pos (by omega)]
 refine W_seq_regc (fun T H => T 1 = (iV ((n : Nat) : Int)) ∧ T 2 = (V.mp 2 1 0 0) ∧ T 14 = (V.bool (decide (((x.sf.length : Nat) : Int) = (0 : Int)))) ∧ H 2 = (⟨1, true, false, 68, 5, [[(V.bool x.lf), (V.sl (List.map cI (x.ac))), (V.sl (List.map cI (x.sf))), (V.sl (List.map cL (x.ou))), (V.sl (List.map cI (x.kd)))]]⟩ : Blk) ∧ True) ?_ ?_
 ·
  unfold r35_3
  refine R_fld_mp (o' := 2) t2 h2 (by first | rfl | simp [okB, Blk.own]) rfl ?_
  refine R_load_mp (v := (V.sl (List.map cI (x.sf)))) (@rfl V (V.mp 2 1 0 2)) h2 (by first | rfl | simp [ldB, ldV, Blk.own, V.one]) ?_
  refine R_len (@rfl V (V.sl (List.map cI (x.sf)))) ?_
  refine R_eql (x := ((x.sf.length : Nat) : Int)) (y := (0 : Int)) (@rfl V (iV ((x.sf.length : Nat) : Int))) (@rfl V (iV (0 : Int))) ?_
  refine R_mv (@rfl V (V.bool (decide (((x.sf.length : Nat) : Int) = (0 : Int))))) ?_
  exact R_nil ⟨t1, t2, rfl, h2, trivial⟩
 intro T H ⟨t1, t2, t14, h2, _⟩
 refine W_if (p := ((x.sf.length : Nat) : Int) = (0 : Int)) t14 (fun c3 => ?_) (fun c3 => ?_)
 ·
  refine W_seq_regc (fun T H => T 4 = (iV (19 : Int)) ∧ H 2 = (⟨1, true, false, 68, 5, [[(V.bool x.lf), (V.sl (List.map cI (x.ac))), (V.sl (List.map cI (x.sf))), (V.sl (List.map cL (x.ou))), (V.sl (List.map cI (x.kd)))]]⟩ : Blk) ∧ True) ?_ ?_
  ·
   unfold r35_4
   refine R_mv (@rfl V (iV (19 : Int))) ?_
   exact R_nil ⟨rfl, h2, trivial⟩
  intro T H ⟨t4, h2, _⟩
  refine W_ret ?_
  refine y1 _ _ ?_
  refine Ret_1 t4 (fz_int ?_)
  · rw [inE2, if_neg (by omega), if_pos (by omega)]
 refine W_skip ?_
 refine n1 _ _ ?_
 refine .done ?_
 refine W_seq_seq ?_
 refine W_seq_regc (fun T H => T 1 = (iV ((n : Nat) : Int)) ∧ T 2 = (V.mp 2 1 0 0) ∧ T 5 = (iV (wchk x.sf ((64 : Int)))) ∧ H 2 = (⟨1, true, false, 68, 5, [[(V.bool x.lf), (V.sl (List.map cI (x.ac))), (V.sl (List.map cI (x.sf))), (V.sl (List.map cL (x.ou))), (V.sl (List.map cI (x.kd)))]]⟩ : Blk) ∧ True) ?_ ?_
 ·
  unfold r35_5
  refine R_fld_mp (o' := 2) t2 h2 (by first | rfl | simp [okB, Blk.own]) rfl ?_
  refine R_load_mp (v := (V.sl (List.map cI (x.sf)))) (@rfl V (V.mp 2 1 0 2)) h2 (by first | rfl | simp [ldB, ldV, Blk.own, V.one]) ?_
  refine R_call (evcons (@rfl V (V.sl (List.map cI (x.sf)))) (evcons (@rfl V (iV (64 : Int))) evnil)) (check_pure x.sf ((64 : Int))) (fzv_mapcanon _ _ (by simp [-List.map_take, -List.map_drop, -List.map_append, -List.map_reverse])) (by simp [-List.map_take, -List.map_drop, -List.map_append, -List.map_reverse]) (Or.inl (by simp [-List.map_take, -List.map_drop, -List.map_append, -List.map_reverse])) ?_
  refine R_mv (@rfl V (iV (wchk x.sf ((64 : Int))))) ?_
  exact R_nil ⟨t1, t2, rfl, h2, trivial⟩
 intro T H ⟨t1, t2, t5, h2, _⟩
 refine W_seq_seq ?_
 refine W_seq_regc (fun T H => T 1 = (iV ((n : Nat) : Int)) ∧ T 2 = (V.mp 2 1 0 0) ∧ T 5 = (iV (wchk x.sf ((64 : Int)))) ∧ T 23 = (V.bool (decide ((wchk x.sf ((64 : Int))) ≠ (0 : Int)))) ∧ H 2 = (⟨1, true, false, 68, 5, [[(V.bool x.lf), (V.sl (List.map cI (x.ac))), (V.sl (List.map cI (x.sf))), (V.sl (List.map cL (x.ou))), (V.sl (List.map cI (x.kd)))]]⟩ : Blk) ∧ True) ?_ ?_
 ·
  unfold r35_6
  refine R_mv t5 ?_
  refine R_neq (x := (wchk x.sf ((64 : Int)))) (y := (0 : Int)) (@rfl V (iV (wchk x.sf ((64 : Int))))) (@rfl V (iV (0 : Int))) ?_
  exact R_nil ⟨t1, t2, t5, rfl, h2, trivial⟩
 intro T H ⟨t1, t2, t5, t23, h2, _⟩
 refine W_seq_if (p := (wchk x.sf ((64 : Int))) ≠ (0 : Int)) t23 (fun c4 => ?_) (fun c4 => ?_)
 ·
  refine W_seq_seq ?_
  refine W_seq_regc (fun T H => T 4 = (iV (wchk x.sf ((64 : Int)))) ∧ H 2 = (⟨1, true, false, 68, 5, [[(V.bool x.lf), (V.sl (List.map cI (x.ac))), (V.sl (List.map cI (x.sf))), (V.sl (List.map cL (x.ou))), (V.sl (List.map cI (x.kd)))]]⟩ : Blk) ∧ True) ?_ ?_
  ·
   unfold r35_7
   refine R_mv t5 ?_
   refine R_mv (@rfl V (iV (wchk x.sf ((64 : Int))))) ?_
   exact R_nil ⟨rfl, h2, trivial⟩
  intro T H ⟨t4, h2, _⟩
  refine W_seq_ret ?_
  refine Ret_1 t4 (fz_int ?_)
  · rw [inE2, if_neg (by omega), if_neg (by omega), if_pos (by omega)]
 refine W_seq_skip ?_
 refine W_seq_seq ?_
 refine W_seq_regc (fun T H => T 1 = (iV ((n : Nat) : Int)) ∧ T 2 = (V.mp 2 1 0 0) ∧ T 31 = (V.bool (decide (((x.ou.length : Nat) : Int) ≠ ((x.kd.length : Nat) : Int)))) ∧ H 2 = (⟨1, true, false, 68, 5, [[(V.bool x.lf), (V.sl (List.map cI (x.ac))), (V.sl (List.map cI (x.sf))), (V.sl (List.map cL (x.ou))), (V.sl (List.map cI (x.kd)))]]⟩ : Blk) ∧ True) ?_ ?_
 ·
  unfold r35_8
  refine R_fld_mp (o' := 3) t2 h2 (by first | rfl | simp [okB, Blk.own]) rfl ?_
  refine R_load_mp (v := (V.sl (List.map cL (x.ou)))) (@rfl V (V.mp 2 1 0 3)) h2 (by first | rfl | simp [ldB, ldV, Blk.own, V.one]) ?_
  refine R_len (@rfl V (V.sl (List.map cL (x.ou)))) ?_
  refine R_fld_mp (o' := 4) t2 h2 (by first | rfl | simp [okB, Blk.own]) rfl ?_
  refine R_load_mp (v := (V.sl (List.map cI (x.kd)))) (@rfl V (V.mp 2 1 0 4)) h2 (by first | rfl | simp [ldB, ldV, Blk.own, V.one]) ?_
  refine R_len (@rfl V (V.sl (List.map cI (x.kd)))) ?_
  refine R_neq (x := ((x.ou.length : Nat) : Int)) (y := ((x.kd.length : Nat) : Int)) (@rfl V (iV ((x.ou.length : Nat) : Int))) (@rfl V (iV ((x.kd.length : Nat) : Int))) ?_
  exact R_nil ⟨t1, t2, rfl, h2, trivial⟩
 intro T H ⟨t1, t2, t31, h2, _⟩
 refine W_seq_if (p := ((x.ou.length : Nat) : Int) ≠ ((x.kd.length : Nat) : Int)) t31 (fun c5 => ?_) (fun c5 => ?_)
 ·
  refine W_seq_seq ?_
  refine W_seq_regc (fun T H => T 4 = (iV (1 : Int)) ∧ H 2 = (⟨1, true, false, 68, 5, [[(V.bool x.lf), (V.sl (List.map cI (x.ac))), (V.sl (List.map cI (x.sf))), (V.sl (List.map cL (x.ou))), (V.sl (List.map cI (x.kd)))]]⟩ : Blk) ∧ True) ?_ ?_
  ·
   unfold r35_9
   refine R_mv (@rfl V (iV (1 : Int))) ?_
   exact R_nil ⟨rfl, h2, trivial⟩
  intro T H ⟨t4, h2, _⟩
  refine W_seq_ret ?_
  refine Ret_1 t4 (fz_int ?_)
  · rw [inE2, if_neg (by omega), if_neg (by omega), if_neg (by omega), if_pos (by omega)]
 refine W_seq_skip ?_
 refine W_seq_seq ?_
 refine W_seq_regc (fun T H => T 1 = (iV ((n : Nat) : Int)) ∧ T 2 = (V.mp 2 1 0 0) ∧ T 33 = (V.sl (List.map cL (x.ou))) ∧ T 34 = (iV ((x.ou.length : Nat) : Int)) ∧ T 35 = (iV (0 : Int)) ∧ H 2 = (⟨1, true, false, 68, 5, [[(V.bool x.lf), (V.sl (List.map cI (x.ac))), (V.sl (List.map cI (x.sf))), (V.sl (List.map cL (x.ou))), (V.sl (List.map cI (x.kd)))]]⟩ : Blk) ∧ True) ?_ ?_
 ·
  unfold r35_10
  refine R_fld_mp (o' := 3) t2 h2 (by first | rfl | simp [okB, Blk.own]) rfl ?_
  refine R_load_mp (v := (V.sl (List.map cL (x.ou)))) (@rfl V (V.mp 2 1 0 3)) h2 (by first | rfl | simp [ldB, ldV, Blk.own, V.one]) ?_
  refine R_len (@rfl V (V.sl (List.map cL (x.ou)))) ?_
  refine R_mv (@rfl V (iV (0 : Int))) ?_
  exact R_nil ⟨t1, t2, rfl, rfl, rfl, h2, trivial⟩
 intro T H ⟨t1, t2, t33, t34, t35, h2, _⟩
 refine W_seq_blockg fun Q6 n6 x6 y6 z6 => ?_
 refine W_loop (fun mm T H => ∃ (k : Nat), mm = x.ou.length - k ∧ T 1 = (iV ((n : Nat) : Int)) ∧ T 2 = (V.mp 2 1 0 0) ∧ T 33 = (V.sl (List.map cL (x.ou))) ∧ T 34 = (iV ((x.ou.length : Nat) : Int)) ∧ T 35 = (iV ((k : Nat) : Int)) ∧ H 2 = (⟨1, true, false, 68, 5, [[(V.bool x.lf), (V.sl (List.map cI (x.ac))), (V.sl (List.map cI (x.sf))), (V.sl (List.map cL (x.ou))), (V.sl (List.map cI (x.kd)))]]⟩ : Blk) ∧ (k ≤ x.ou.length) ∧ (x.ou.length = x.kd.length) ∧ (x.ac.length = 0) ∧ (x.sf.length ≠ 0) ∧ (wchk x.sf 64 = 0) ∧ (fe (chE x n) 0 x.ou.length = fe (chE x n) k (x.ou.length - k))) ?_ ?_
 ·
  refine ⟨_, 0, rfl, t1, t2, t33, t34, (Eq.trans t35 (by first | rfl | simp)), h2, ?_, ?_, ?_, ?_, ?_, ?_⟩
  · omega
  · omega
  · omega
  · omega
  · omega
  · rfl
 intro mm T H ⟨k, hmm, t1, t2, t33, t34, t35, h2, hk, hl, ga, gs, gw, hc⟩ Q7 p17 p27 p37
 unfold b35_0
 refine W_seq_regc (fun T H => T 1 = (iV ((n : Nat) : Int)) ∧ T 2 = (V.mp 2 1 0 0) ∧ T 33 = (V.sl (List.map cL (x.ou))) ∧ T 34 = (iV ((x.ou.length : Nat) : Int)) ∧ T 35 = (iV ((k : Nat) : Int)) ∧ T 36 = (V.bool (decide (((k : Nat) : Int) < ((x.ou.length : Nat) : Int)))) ∧ H 2 = (⟨1, true, false, 68, 5, [[(V.bool x.lf), (V.sl (List.map cI (x.ac))), (V.sl (List.map cI (x.sf))), (V.sl (List.map cL (x.ou))), (V.sl (List.map cI (x.kd)))]]⟩ : Blk) ∧ True) ?_ ?_
 ·
  unfold r35_11
  refine R_lss (x := ((k : Nat) : Int)) (y := ((x.ou.length : Nat) : Int)) t35 t34 ?_
  exact R_nil ⟨t1, t2, t33, t34, t35, rfl, h2, trivial⟩
 intro T H ⟨t1, t2, t33, t34, t35, t36, h2, _⟩
 refine W_seq_if (p := ((k : Nat) : Int) < ((x.ou.length : Nat) : Int)) t36 (fun c8 => ?_) (fun c8 => ?_)
 ·
  refine W_seq_skip ?_
  refine W_seq_blockg fun Q9 n9 x9 y9 z9 => ?_
  refine W_seq_regc (fun T H => T 1 = (iV ((n : Nat) : Int)) ∧ T 2 = (V.mp 2 1 0 0) ∧ T 6 = (iV ((k : Nat) : Int)) ∧ T 7 = (V.sl (List.map cI ((nth (x.ou) (k))))) ∧ T 33 = (V.sl (List.map cL (x.ou))) ∧ T 34 = (iV ((x.ou.length : Nat) : Int)) ∧ T 35 = (iV ((k : Nat) : Int)) ∧ H 2 = (⟨1, true, false, 68, 5, [[(V.bool x.lf), (V.sl (List.map cI (x.ac))), (V.sl (List.map cI (x.sf))), (V.sl (List.map cL (x.ou))), (V.sl (List.map cI (x.kd)))]]⟩ : Blk) ∧ True) ?_ ?_
  ·
   unfold r35_12
   refine R_mv t35 ?_
   refine R_idx (i := k) t33 t35 (by omega) rfl ?_
   refine R_load_pp (v := (V.sl (List.map cI ((nth (x.ou) (k)))))) (@rfl V (V.pp [(V.sl (List.map cI ((nth (x.ou) (k)))))])) (by first | rfl | simp [ldV]) ?_
   refine R_mv (@rfl V (iV ((k : Nat) : Int))) ?_
   refine R_mv (@rfl V (V.sl (List.map cI ((nth (x.ou) (k)))))) ?_
   exact R_nil ⟨t1, t2, rfl, rfl, t33, t34, t35, h2, trivial⟩
  intro T H ⟨t1, t2, t6, t7, t33, t34, t35, h2, _⟩
  refine W_seq_seq ?_
  refine W_seq_regc (fun T H => T 1 = (iV ((n : Nat) : Int)) ∧ T 2 = (V.mp 2 1 0 0) ∧ T 6 = (iV ((k : Nat) : Int)) ∧ T 7 = (V.sl (List.map cI ((nth (x.ou) (k))))) ∧ T 8 = (iV (vlE ((nth (x.ou) (k))) x.sf)) ∧ T 33 = (V.sl (List.map cL (x.ou))) ∧ T 34 = (iV ((x.ou.length : Nat) : Int)) ∧ T 35 = (iV ((k : Nat) : Int)) ∧ H 2 = (⟨1, true, false, 68, 5, [[(V.bool x.lf), (V.sl (List.map cI (x.ac))), (V.sl (List.map cI (x.sf))), (V.sl (List.map cL (x.ou))), (V.sl (List.map cI (x.kd)))]]⟩ : Blk) ∧ True) ?_ ?_
  ·
   unfold r35_13
   refine R_mv t7 ?_
   refine R_fld_mp (o' := 2) t2 h2 (by first | rfl | simp [okB, Blk.own]) rfl ?_
   refine R_load_mp (v := (V.sl (List.map cI (x.sf)))) (@rfl V (V.mp 2 1 0 2)) h2 (by first | rfl | simp [ldB, ldV, Blk.own, V.one]) ?_
   refine R_call (evcons (@rfl V (V.sl (List.map cI ((nth (x.ou) (k)))))) (evcons (@rfl V (V.sl (List.map cI (x.sf)))) evnil)) (values_pure ((nth (x.ou) (k))) x.sf) (fzv_mapcanon _ _ (by simp [-List.map_take, -List.map_drop, -List.map_append, -List.map_reverse])) (by simp [-List.map_take, -List.map_drop, -List.map_append, -List.map_reverse]) (Or.inl (by simp [-List.map_take, -List.map_drop, -List.map_append, -List.map_reverse])) ?_
   refine R_mv (@rfl V (iV (vlE ((nth (x.ou) (k))) x.sf))) ?_
   exact R_nil ⟨t1, t2, t6, t7, rfl, t33, t34, t35, h2, trivial⟩
  intro T H ⟨t1, t2, t6, t7, t8, t33, t34, t35, h2, _⟩
  refine W_seq_seq ?_
  refine W_seq_regc (fun T H => T 1 = (iV ((n : Nat) : Int)) ∧ T 2 = (V.mp 2 1 0 0) ∧ T 6 = (iV ((k : Nat) : Int)) ∧ T 7 = (V.sl (List.map cI ((nth (x.ou) (k))))) ∧ T 8 = (iV (vlE ((nth (x.ou) (k))) x.sf)) ∧ T 33 = (V.sl (List.map cL (x.ou))) ∧ T 34 = (iV ((x.ou.length : Nat) : Int)) ∧ T 35 = (iV ((k : Nat) : Int)) ∧ T 45 = (V.bool (decide ((vlE ((nth (x.ou) (k))) x.sf) ≠ (0 : Int)))) ∧ H 2 = (⟨1, true, false, 68, 5, [[(V.bool x.lf), (V.sl (List.map cI (x.ac))), (V.sl (List.map cI (x.sf))), (V.sl (List.map cL (x.ou))), (V.sl (List.map cI (x.kd)))]]⟩ : Blk) ∧ True) ?_ ?_
  ·
   unfold r35_14
   refine R_mv t8 ?_
   refine R_neq (x := (vlE ((nth (x.ou) (k))) x.sf)) (y := (0 : Int)) (@rfl V (iV (vlE ((nth (x.ou) (k))) x.sf))) (@rfl V (iV (0 : Int))) ?_
   exact R_nil ⟨t1, t2, t6, t7, t8, t33, t34, t35, rfl, h2, trivial⟩
  intro T H ⟨t1, t2, t6, t7, t8, t33, t34, t35, t45, h2, _⟩
  refine W_seq_if (p := (vlE ((nth (x.ou) (k))) x.sf) ≠ (0 : Int)) t45 (fun c10 => ?_) (fun c10 => ?_)
  ·
   refine W_seq_seq ?_
   refine W_seq_regc (fun T H => T 4 = (iV (vlE ((nth (x.ou) (k))) x.sf)) ∧ H 2 = (⟨1, true, false, 68, 5, [[(V.bool x.lf), (V.sl (List.map cI (x.ac))), (V.sl (List.map cI (x.sf))), (V.sl (List.map cL (x.ou))), (V.sl (List.map cI (x.kd)))]]⟩ : Blk) ∧ True) ?_ ?_
   ·
    unfold r35_15
    refine R_mv t8 ?_
    refine R_mv (@rfl V (iV (vlE ((nth (x.ou) (k))) x.sf))) ?_
    exact R_nil ⟨rfl, h2, trivial⟩
   intro T H ⟨t4, h2, _⟩
   refine W_seq_ret ?_
   refine y9 _ _ ?_
   refine p27 _ _ ?_
   refine y6 _ _ ?_
   refine Ret_1 t4 (fz_int ?_)
   · rw [inE2, if_neg (by omega), if_neg (by omega), if_neg (by omega), if_neg (by omega), hc, fe_hit (by rw [chE, if_pos (by omega)]; omega) (by omega), chE, if_pos (by omega)]
  refine W_seq_skip ?_
  refine W_seq_seq ?_
  refine W_seq_regc (fun T H => T 1 = (iV ((n : Nat) : Int)) ∧ T 2 = (V.mp 2 1 0 0) ∧ T 6 = (iV ((k : Nat) : Int)) ∧ T 33 = (V.sl (List.map cL (x.ou))) ∧ T 34 = (iV ((x.ou.length : Nat) : Int)) ∧ T 35 = (iV ((k : Nat) : Int)) ∧ T 59 = (V.bool (decide (((0 : Int) < ((k : Nat) : Int)) ∧ ((0 : Int) ≤ (lexI ((nth (x.ou) (((k : Nat) : Int) - (1 : Int)).toNat)) ((nth (x.ou) (k)))))))) ∧ H 2 = (⟨1, true, false, 68, 5, [[(V.bool x.lf), (V.sl (List.map cI (x.ac))), (V.sl (List.map cI (x.sf))), (V.sl (List.map cL (x.ou))), (V.sl (List.map cI (x.kd)))]]⟩ : Blk) ∧ True) ?_ ?_
  ·
   unfold r35_16
   refine R_mv t6 ?_
   refine R_gtr (x := ((k : Nat) : Int)) (y := (0 : Int)) (@rfl V (iV ((k : Nat) : Int))) (@rfl V (iV (0 : Int))) ?_
   refine R_mv (@rfl V (V.bool (decide ((0 : Int) < ((k : Nat) : Int))))) ?_
   refine Ops_seg 10 (fun T H => T 1 = (iV ((n : Nat) : Int)) ∧ T 2 = (V.mp 2 1 0 0) ∧ T 6 = (iV ((k : Nat) : Int)) ∧ T 33 = (V.sl (List.map cL (x.ou))) ∧ T 34 = (iV ((x.ou.length : Nat) : Int)) ∧ T 35 = (iV ((k : Nat) : Int)) ∧ T 59 = (V.bool (decide (((0 : Int) < ((k : Nat) : Int)) ∧ ((0 : Int) ≤ (lexI ((nth (x.ou) (((k : Nat) : Int) - (1 : Int)).toNat)) ((nth (x.ou) (k)))))))) ∧ H 2 = (⟨1, true, false, 68, 5, [[(V.bool x.lf), (V.sl (List.map cI (x.ac))), (V.sl (List.map cI (x.sf))), (V.sl (List.map cL (x.ou))), (V.sl (List.map cI (x.kd)))]]⟩ : Blk) ∧ True) ?_ ?_
   ·
    by_cases g11 : (0 : Int) < ((k : Nat) : Int)
    ·
     refine G_yes (Eq.trans (@rfl V (V.bool (decide ((0 : Int) < ((k : Nat) : Int))))) (bdT g11)) ?_
     refine R_fld_mp (o' := 3) t2 h2 (by first | rfl | simp [okB, Blk.own]) rfl ?_
     refine G_yes (Eq.trans (@rfl V (V.bool (decide ((0 : Int) < ((k : Nat) : Int))))) (bdT g11)) ?_
     refine R_load_mp (v := (V.sl (List.map cL (x.ou)))) (@rfl V (V.mp 2 1 0 3)) h2 (by first | rfl | simp [ldB, ldV, Blk.own, V.one]) ?_
     refine G_yes (Eq.trans (@rfl V (V.bool (decide ((0 : Int) < ((k : Nat) : Int))))) (bdT g11)) ?_
     refine R_mv t6 ?_
     refine G_yes (Eq.trans (@rfl V (V.bool (decide ((0 : Int) < ((k : Nat) : Int))))) (bdT g11)) ?_
     refine R_sub (x := ((k : Nat) : Int)) (y := (1 : Int)) (@rfl V (iV ((k : Nat) : Int))) (@rfl V (iV (1 : Int))) (by omega) (by omega) ?_
     refine G_yes (Eq.trans (@rfl V (V.bool (decide ((0 : Int) < ((k : Nat) : Int))))) (bdT g11)) ?_
     refine R_idxI (i := (((k : Nat) : Int) - (1 : Int))) (@rfl V (V.sl (List.map cL (x.ou)))) (@rfl V (iV (((k : Nat) : Int) - (1 : Int)))) (by omega) (by omega) rfl ?_
     refine G_yes (Eq.trans (@rfl V (V.bool (decide ((0 : Int) < ((k : Nat) : Int))))) (bdT g11)) ?_
     refine R_load_pp (v := (V.sl (List.map cI ((nth (x.ou) (((k : Nat) : Int) - (1 : Int)).toNat))))) (@rfl V (V.pp [(V.sl (List.map cI ((nth (x.ou) (((k : Nat) : Int) - (1 : Int)).toNat))))])) (by first | rfl | simp [ldV]) ?_
     refine G_yes (Eq.trans (@rfl V (V.bool (decide ((0 : Int) < ((k : Nat) : Int))))) (bdT g11)) ?_
     refine R_mv t7 ?_
     refine G_yes (Eq.trans (@rfl V (V.bool (decide ((0 : Int) < ((k : Nat) : Int))))) (bdT g11)) ?_
     refine R_call (evcons (@rfl V (V.sl (List.map cI ((nth (x.ou) (((k : Nat) : Int) - (1 : Int)).toNat))))) (evcons (@rfl V (V.sl (List.map cI ((nth (x.ou) (k)))))) evnil)) (lex_pure ((nth (x.ou) (((k : Nat) : Int) - (1 : Int)).toNat)) ((nth (x.ou) (k)))) (fzv_mapcanon _ _ (by simp [-List.map_take, -List.map_drop, -List.map_append, -List.map_reverse])) (by simp [-List.map_take, -List.map_drop, -List.map_append, -List.map_reverse]) (Or.inl (by simp [-List.map_take, -List.map_drop, -List.map_append, -List.map_reverse])) ?_
     refine G_yes (Eq.trans (@rfl V (V.bool (decide ((0 : Int) < ((k : Nat) : Int))))) (bdT g11)) ?_
     refine R_geq (x := (lexI ((nth (x.ou) (((k : Nat) : Int) - (1 : Int)).toNat)) ((nth (x.ou) (k))))) (y := (0 : Int)) (@rfl V (iV (lexI ((nth (x.ou) (((k : Nat) : Int) - (1 : Int)).toNat)) ((nth (x.ou) (k)))))) (@rfl V (iV (0 : Int))) ?_
     refine R_pickT (Eq.trans (@rfl V (V.bool (decide ((0 : Int) < ((k : Nat) : Int))))) (bdT g11)) (@rfl V (V.bool (decide ((0 : Int) ≤ (lexI ((nth (x.ou) (((k : Nat) : Int) - (1 : Int)).toNat)) ((nth (x.ou) (k)))))))) ?_
     exact ⟨t1, t2, t6, t33, t34, t35, (Eq.trans (@rfl V (V.bool (decide ((0 : Int) ≤ (lexI ((nth (x.ou) (((k : Nat) : Int) - (1 : Int)).toNat)) ((nth (x.ou) (k)))))))) (dec_andT g11)), h2, trivial⟩
    ·
     refine G_no (Eq.trans (@rfl V (V.bool (decide ((0 : Int) < ((k : Nat) : Int))))) (bdF g11)) (by decide) ?_
     refine G_no (Eq.trans (@rfl V (V.bool (decide ((0 : Int) < ((k : Nat) : Int))))) (bdF g11)) (by decide) ?_
     refine G_no (Eq.trans (@rfl V (V.bool (decide ((0 : Int) < ((k : Nat) : Int))))) (bdF g11)) (by decide) ?_
     refine G_no (Eq.trans (@rfl V (V.bool (decide ((0 : Int) < ((k : Nat) : Int))))) (bdF g11)) (by decide) ?_
     refine G_no (Eq.trans (@rfl V (V.bool (decide ((0 : Int) < ((k : Nat) : Int))))) (bdF g11)) (by decide) ?_
     refine G_no (Eq.trans (@rfl V (V.bool (decide ((0 : Int) < ((k : Nat) : Int))))) (bdF g11)) (by decide) ?_
     refine G_no (Eq.trans (@rfl V (V.bool (decide ((0 : Int) < ((k : Nat) : Int))))) (bdF g11)) (by decide) ?_
     refine G_no (Eq.trans (@rfl V (V.bool (decide ((0 : Int) < ((k : Nat) : Int))))) (bdF g11)) (by decide) ?_
     refine G_no (Eq.trans (@rfl V (V.bool (decide ((0 : Int) < ((k : Nat) : Int))))) (bdF g11)) (by decide) ?_
     refine R_pickF (Eq.trans (@rfl V (V.bool (decide ((0 : Int) < ((k : Nat) : Int))))) (bdF g11)) (@rfl V (V.bool false)) ?_
     exact ⟨t1, t2, t6, t33, t34, t35, (Eq.trans (@rfl V (V.bool false)) (dec_andF g11)), h2, trivial⟩
   intro T H ⟨t1, t2, t6, t33, t34, t35, t59, h2, _⟩
   exact R_nil ⟨t1, t2, t6, t33, t34, t35, t59, h2, trivial⟩
  intro T H ⟨t1, t2, t6, t33, t34, t35, t59, h2, _⟩
  refine W_seq_if (p := ((0 : Int) < ((k : Nat) : Int)) ∧ ((0 : Int) ≤ (lexI ((nth (x.ou) (((k : Nat) : Int) - (1 : Int)).toNat)) ((nth (x.ou) (k)))))) t59 (fun c12 => ?_) (fun c12 => ?_)
  ·
   have d2 : 0 < k ∧ 0 ≤ lexI (nth x.ou (k - 1)) (nth x.ou k) := by have q := c12; rw [show (((k : Nat) : Int) - (1 : Int)).toNat = k - 1 by omega] at q; omega
   refine W_seq_seq ?_
   refine W_seq_regc (fun T H => T 4 = (iV (10 : Int)) ∧ H 2 = (⟨1, true, false, 68, 5, [[(V.bool x.lf), (V.sl (List.map cI (x.ac))), (V.sl (List.map cI (x.sf))), (V.sl (List.map cL (x.ou))), (V.sl (List.map cI (x.kd)))]]⟩ : Blk) ∧ True) ?_ ?_
   ·
    unfold r35_17
    refine R_mv (@rfl V (iV (10 : Int))) ?_
    exact R_nil ⟨rfl, h2, trivial⟩
   intro T H ⟨t4, h2, _⟩
   refine W_seq_ret ?_
   refine y9 _ _ ?_
   refine p27 _ _ ?_
   refine y6 _ _ ?_
   refine Ret_1 t4 (fz_int ?_)
   · rw [inE2, if_neg (by omega), if_neg (by omega), if_neg (by omega), if_neg (by omega), hc, fe_hit (by rw [chE, if_neg (by omega), if_pos d2]; omega) (by omega), chE, if_neg (by omega), if_pos d2]
  have d2 : ¬(0 < k ∧ 0 ≤ lexI (nth x.ou (k - 1)) (nth x.ou k)) := by have q := c12; rw [show (((k : Nat) : Int) - (1 : Int)).toNat = k - 1 by omega] at q; omega
  refine W_seq_skip ?_
  refine W_seq_regc (fun T H => T 1 = (iV ((n : Nat) : Int)) ∧ T 2 = (V.mp 2 1 0 0) ∧ T 33 = (V.sl (List.map cL (x.ou))) ∧ T 34 = (iV ((x.ou.length : Nat) : Int)) ∧ T 35 = (iV ((k : Nat) : Int)) ∧ T 74 = (V.bool (decide ((((nth (x.kd) (k))) < (0 : Int)) ∨ (((n : Nat) : Int) ≤ ((nth (x.kd) (k))))))) ∧ H 2 = (⟨1, true, false, 68, 5, [[(V.bool x.lf), (V.sl (List.map cI (x.ac))), (V.sl (List.map cI (x.sf))), (V.sl (List.map cL (x.ou))), (V.sl (List.map cI (x.kd)))]]⟩ : Blk) ∧ True) ?_ ?_
  ·
   unfold r35_18
   refine R_fld_mp (o' := 4) t2 h2 (by first | rfl | simp [okB, Blk.own]) rfl ?_
   refine R_load_mp (v := (V.sl (List.map cI (x.kd)))) (@rfl V (V.mp 2 1 0 4)) h2 (by first | rfl | simp [ldB, ldV, Blk.own, V.one]) ?_
   refine R_mv t6 ?_
   refine R_idx (i := k) (@rfl V (V.sl (List.map cI (x.kd)))) (@rfl V (iV ((k : Nat) : Int))) (by omega) rfl ?_
   refine R_load_pp (v := (iV ((nth (x.kd) (k))))) (@rfl V (V.pp [(iV ((nth (x.kd) (k))))])) (by first | rfl | simp [ldV]) ?_
   refine R_lss (x := ((nth (x.kd) (k)))) (y := (0 : Int)) (@rfl V (iV ((nth (x.kd) (k))))) (@rfl V (iV (0 : Int))) ?_
   refine R_mv (@rfl V (V.bool (decide (((nth (x.kd) (k))) < (0 : Int))))) ?_
   refine Ops_seg 8 (fun T H => T 1 = (iV ((n : Nat) : Int)) ∧ T 2 = (V.mp 2 1 0 0) ∧ T 33 = (V.sl (List.map cL (x.ou))) ∧ T 34 = (iV ((x.ou.length : Nat) : Int)) ∧ T 35 = (iV ((k : Nat) : Int)) ∧ T 74 = (V.bool (decide ((((nth (x.kd) (k))) < (0 : Int)) ∨ (((n : Nat) : Int) ≤ ((nth (x.kd) (k))))))) ∧ H 2 = (⟨1, true, false, 68, 5, [[(V.bool x.lf), (V.sl (List.map cI (x.ac))), (V.sl (List.map cI (x.sf))), (V.sl (List.map cL (x.ou))), (V.sl (List.map cI (x.kd)))]]⟩ : Blk) ∧ True) ?_ ?_
   ·
    by_cases g13 : ((nth (x.kd) (k))) < (0 : Int)
    ·
     refine G_no (Eq.trans (@rfl V (V.bool (decide (((nth (x.kd) (k))) < (0 : Int))))) (bdT g13)) (by decide) ?_
     refine G_no (Eq.trans (@rfl V (V.bool (decide (((nth (x.kd) (k))) < (0 : Int))))) (bdT g13)) (by decide) ?_
     refine G_no (Eq.trans (@rfl V (V.bool (decide (((nth (x.kd) (k))) < (0 : Int))))) (bdT g13)) (by decide) ?_
     refine G_no (Eq.trans (@rfl V (V.bool (decide (((nth (x.kd) (k))) < (0 : Int))))) (bdT g13)) (by decide) ?_
     refine G_no (Eq.trans (@rfl V (V.bool (decide (((nth (x.kd) (k))) < (0 : Int))))) (bdT g13)) (by decide) ?_
     refine G_no (Eq.trans (@rfl V (V.bool (decide (((nth (x.kd) (k))) < (0 : Int))))) (bdT g13)) (by decide) ?_
     refine G_no (Eq.trans (@rfl V (V.bool (decide (((nth (x.kd) (k))) < (0 : Int))))) (bdT g13)) (by decide) ?_
     refine R_pickT (Eq.trans (@rfl V (V.bool (decide (((nth (x.kd) (k))) < (0 : Int))))) (bdT g13)) (@rfl V (V.bool true)) ?_
     exact ⟨t1, t2, t33, t34, t35, (Eq.trans (@rfl V (V.bool true)) (dec_orT g13)), h2, trivial⟩
    ·
     refine G_yes (Eq.trans (@rfl V (V.bool (decide (((nth (x.kd) (k))) < (0 : Int))))) (bdF g13)) ?_
     refine R_fld_mp (o' := 4) t2 h2 (by first | rfl | simp [okB, Blk.own]) rfl ?_
     refine G_yes (Eq.trans (@rfl V (V.bool (decide (((nth (x.kd) (k))) < (0 : Int))))) (bdF g13)) ?_
     refine R_load_mp (v := (V.sl (List.map cI (x.kd)))) (@rfl V (V.mp 2 1 0 4)) h2 (by first | rfl | simp [ldB, ldV, Blk.own, V.one]) ?_
     refine G_yes (Eq.trans (@rfl V (V.bool (decide (((nth (x.kd) (k))) < (0 : Int))))) (bdF g13)) ?_
     refine R_mv t6 ?_
     refine G_yes (Eq.trans (@rfl V (V.bool (decide (((nth (x.kd) (k))) < (0 : Int))))) (bdF g13)) ?_
     refine R_idx (i := k) (@rfl V (V.sl (List.map cI (x.kd)))) (@rfl V (iV ((k : Nat) : Int))) (by omega) rfl ?_
     refine G_yes (Eq.trans (@rfl V (V.bool (decide (((nth (x.kd) (k))) < (0 : Int))))) (bdF g13)) ?_
     refine R_load_pp (v := (iV ((nth (x.kd) (k))))) (@rfl V (V.pp [(iV ((nth (x.kd) (k))))])) (by first | rfl | simp [ldV]) ?_
     refine G_yes (Eq.trans (@rfl V (V.bool (decide (((nth (x.kd) (k))) < (0 : Int))))) (bdF g13)) ?_
     refine R_mv t1 ?_
     refine G_yes (Eq.trans (@rfl V (V.bool (decide (((nth (x.kd) (k))) < (0 : Int))))) (bdF g13)) ?_
     refine R_geq (x := ((nth (x.kd) (k)))) (y := ((n : Nat) : Int)) (@rfl V (iV ((nth (x.kd) (k))))) (@rfl V (iV ((n : Nat) : Int))) ?_
     refine R_pickF (Eq.trans (@rfl V (V.bool (decide (((nth (x.kd) (k))) < (0 : Int))))) (bdF g13)) (@rfl V (V.bool (decide (((n : Nat) : Int) ≤ ((nth (x.kd) (k))))))) ?_
     exact ⟨t1, t2, t33, t34, t35, (Eq.trans (@rfl V (V.bool (decide (((n : Nat) : Int) ≤ ((nth (x.kd) (k))))))) (dec_orF g13)), h2, trivial⟩
   intro T H ⟨t1, t2, t33, t34, t35, t74, h2, _⟩
   exact R_nil ⟨t1, t2, t33, t34, t35, t74, h2, trivial⟩
  intro T H ⟨t1, t2, t33, t34, t35, t74, h2, _⟩
  refine W_if (p := (((nth (x.kd) (k))) < (0 : Int)) ∨ (((n : Nat) : Int) ≤ ((nth (x.kd) (k))))) t74 (fun c14 => ?_) (fun c14 => ?_)
  ·
   refine W_seq_regc (fun T H => T 4 = (iV (2 : Int)) ∧ H 2 = (⟨1, true, false, 68, 5, [[(V.bool x.lf), (V.sl (List.map cI (x.ac))), (V.sl (List.map cI (x.sf))), (V.sl (List.map cL (x.ou))), (V.sl (List.map cI (x.kd)))]]⟩ : Blk) ∧ True) ?_ ?_
   ·
    unfold r35_19
    refine R_mv (@rfl V (iV (2 : Int))) ?_
    exact R_nil ⟨rfl, h2, trivial⟩
   intro T H ⟨t4, h2, _⟩
   refine W_ret ?_
   refine y9 _ _ ?_
   refine p27 _ _ ?_
   refine y6 _ _ ?_
   refine Ret_1 t4 (fz_int ?_)
   · rw [inE2, if_neg (by omega), if_neg (by omega), if_neg (by omega), if_neg (by omega), hc, fe_hit (by rw [chE, if_neg (by omega), if_neg d2, if_pos (by omega)]; omega) (by omega), chE, if_neg (by omega), if_neg d2, if_pos (by omega)]
  refine W_skip ?_
  refine n9 _ _ ?_
  refine .done ?_
  refine W_regc (fun T H => T 1 = (iV ((n : Nat) : Int)) ∧ T 2 = (V.mp 2 1 0 0) ∧ T 33 = (V.sl (List.map cL (x.ou))) ∧ T 34 = (iV ((x.ou.length : Nat) : Int)) ∧ T 35 = (iV ((k + 1 : Nat) : Int)) ∧ H 2 = (⟨1, true, false, 68, 5, [[(V.bool x.lf), (V.sl (List.map cI (x.ac))), (V.sl (List.map cI (x.sf))), (V.sl (List.map cL (x.ou))), (V.sl (List.map cI (x.kd)))]]⟩ : Blk) ∧ True) ?_ ?_
  ·
   unfold r35_20
   refine R_addN (m := k) (n := 1) t35 (@rfl V (iV ((1 : Nat) : Int))) (by omega) ?_
   refine R_mv (@rfl V (iV ((k + 1 : Nat) : Int))) ?_
   exact R_nil ⟨t1, t2, t33, t34, rfl, h2, trivial⟩
  intro T H ⟨t1, t2, t33, t34, t35, h2, _⟩
  refine p17 _ _ _ ?_ ⟨(k + 1), rfl, t1, t2, t33, t34, (Eq.trans t35 (by first | rfl | simp)), h2, ?_, ?_, ?_, ?_, ?_, ?_⟩
  · omega
  · omega
  · omega
  · omega
  · omega
  · omega
  · rw [hc, fe_skip (by rw [chE, if_neg (by omega), if_neg d2, if_neg (by omega)]) (by omega)]
 refine W_seq_exit ?_
 refine p37 _ _ _ ?_
 refine x6 _ _ ?_
 refine .done ?_
 refine W_seq_regc (fun T H => T 4 = (iV (0 : Int)) ∧ H 2 = (⟨1, true, false, 68, 5, [[(V.bool x.lf), (V.sl (List.map cI (x.ac))), (V.sl (List.map cI (x.sf))), (V.sl (List.map cL (x.ou))), (V.sl (List.map cI (x.kd)))]]⟩ : Blk) ∧ True) ?_ ?_
 ·
  unfold r35_21
  refine R_mv (@rfl V (iV (0 : Int))) ?_
  exact R_nil ⟨rfl, h2, trivial⟩
 intro T H ⟨t4, h2, _⟩
 refine W_ret ?_
 refine Ret_1 t4 (fz_int ?_)
 · rw [inE2, if_neg (by omega), if_neg (by omega), if_neg (by omega), if_neg (by omega), hc, fe_end (by omega)]
end Go.Proofs.YtmnjchcoigbngaaGreat


namespace Go.Proofs.YtmnjchcoigbngaaGreat
open Go Go.Proofs
attribute [local irreducible] mksV
theorem connected_pure (t : Dt) (hk : KI t) (hb : Bd t) : PureC Tryz.prog 36 [(V.agg [(V.sl (List.map cN (t.nd)))])] (V.bool (coB t)) := by
 refine pure_of_Wb true 6 Tryz.func36 s36_ok (by kernel_rfl) (by simp [s36]) (by simp) (by simp) fun hB => ?_
 simp only [bnd_map, bnd_int, bnd_bool, bnd_str, bnd_agg, bnd_pp, bnd_nil, bnd_cons, implies_true, and_true, true_and] at hB
 unfold s36
 dsimp only
 have hp := hk.pos
 have hbn := hb.n
 refine W_seq_regc (fun T H => T 1 = (V.mp 1 1 0 0) ∧ H 1 = (⟨1, true, false, 24, 1, [[(V.sl (List.map cN (t.nd)))]]⟩ : Blk) ∧ H 10 = (⟨0, false, false, 0, 0, []⟩ : Blk) ∧ H 11 = (⟨0, false, false, 0, 0, []⟩ : Blk) ∧ True) ?_ ?_
 ·
  unfold r36_0
  refine R_box (i := 1) (n := 0) (m := 1) (cs := [(V.sl (List.map cN (t.nd)))]) rfl (congrArg Blk.ver rfl) (@rfl V (V.agg [(V.sl (List.map cN (t.nd)))])) rfl rfl ?_
  refine R_mv (@rfl V (V.bool false)) ?_
  exact R_nil ⟨rfl, rfl, rfl, rfl, trivial⟩
 intro T H ⟨t1, h1, h10, h11, _⟩
 refine W_seq_regc (fun T H => T 1 = (V.mp 1 1 0 0) ∧ T 3 = (V.ms 10 1 0 (t.nd.length)) ∧ H 1 = (⟨1, true, false, 24, 1, [[(V.sl (List.map cN (t.nd)))]]⟩ : Blk) ∧ H 10 = (⟨1, true, false, 4, 1, (List.map cB (List.replicate t.nd.length false))⟩ : Blk) ∧ H 11 = (⟨0, false, false, 0, 0, []⟩ : Blk) ∧ True) ?_ ?_
 ·
  unfold r36_1
  refine R_fld_mp (o' := 0) t1 h1 (by first | rfl | simp [okB, Blk.own]) rfl ?_
  refine R_load_mp (v := (V.sl (List.map cN (t.nd)))) (@rfl V (V.mp 1 1 0 0)) h1 (by first | rfl | simp [ldB, ldV, Blk.own, V.one]) ?_
  refine R_len (@rfl V (V.sl (List.map cN (t.nd)))) ?_
  refine R_mksm (i := 10) (n := 0) (m := t.nd.length) (q := t.nd.length) (f := cB) (x := false) rfl (congrArg Blk.ver h10) (@rfl V (iV ((t.nd.length : Nat) : Int))) (@rfl V (iV ((t.nd.length : Nat) : Int))) rfl (by first | omega | (simp only [List.length_replicate]; omega)) (by first | omega | (simp only [List.length_replicate]; omega)) (by first | omega | (simp only [List.length_replicate]; omega)) ?_
  refine R_mv (@rfl V (V.ms 10 1 0 (t.nd.length))) ?_
  exact R_nil ⟨t1, rfl, h1, rfl, h11, trivial⟩
 intro T H ⟨t1, t3, h1, h10, h11, _⟩
 refine W_seq_regc (fun T H => T 1 = (V.mp 1 1 0 0) ∧ T 3 = (V.ms 10 1 0 (t.nd.length)) ∧ T 4 = (V.ms 11 1 0 (1)) ∧ H 1 = (⟨1, true, false, 24, 1, [[(V.sl (List.map cN (t.nd)))]]⟩ : Blk) ∧ H 10 = (⟨1, true, false, 4, 1, (List.map cB (List.replicate t.nd.length false))⟩ : Blk) ∧ H 11 = (⟨1, true, false, 3, 1, [[(iV (0 : Int))]]⟩ : Blk) ∧ True) ?_ ?_
 ·
  unfold r36_2
  refine R_bslice_own (i := 11) (n := 0) (qs := [(0, (iV (0 : Int)))]) (rows := [[(iV (0 : Int))]]) rfl (congrArg Blk.ver h11) (mcons (congrArg (fun v => (0, v)) (@rfl V (iV (0 : Int)))) rfl) rfl ?_
  refine R_mv (@rfl V (V.ms 11 1 0 (1))) ?_
  exact R_nil ⟨t1, t3, rfl, h1, h10, rfl, trivial⟩
 intro T H ⟨t1, t3, t4, h1, h10, h11, _⟩
 refine W_seq_seq ?_
 refine W_seq_regc (fun T H => T 1 = (V.mp 1 1 0 0) ∧ T 3 = (V.ms 10 1 0 (t.nd.length)) ∧ T 4 = (V.ms 11 1 0 (1)) ∧ T 5 = (iV (0 : Int)) ∧ H 1 = (⟨1, true, false, 24, 1, [[(V.sl (List.map cN (t.nd)))]]⟩ : Blk) ∧ H 10 = (⟨1, true, false, 4, 1, (List.map cB (List.replicate t.nd.length false))⟩ : Blk) ∧ H 11 = (⟨1, true, false, 3, 1, [[(iV (0 : Int))]]⟩ : Blk) ∧ True) ?_ ?_
 ·
  unfold r36_3
  refine R_mv (@rfl V (iV (0 : Int))) ?_
  exact R_nil ⟨t1, t3, t4, rfl, h1, h10, h11, trivial⟩
 intro T H ⟨t1, t3, t4, t5, h1, h10, h11, _⟩
 refine W_seq_blockg fun Q1 n1 x1 y1 z1 => ?_
 refine W_loop (fun mm T H => ∃ (k : Nat) (w : Nat) (P : RS), mm = t.nd.length + 1 - k ∧ T 1 = (V.mp 1 1 0 0) ∧ T 3 = (V.ms 10 1 0 (t.nd.length)) ∧ T 4 = (V.ms 11 w 0 (P.1.length)) ∧ T 5 = (iV ((k : Nat) : Int)) ∧ H 1 = (⟨1, true, false, 24, 1, [[(V.sl (List.map cN (t.nd)))]]⟩ : Blk) ∧ H 10 = (⟨1, true, false, 4, 1, (List.map cB (P.2))⟩ : Blk) ∧ H 11 = (⟨w, true, false, 3, 1, (List.map cI (P.1))⟩ : Blk) ∧ (k ≤ P.1.length) ∧ (CI t P) ∧ (coN t (t.nd.length + 1) 0 (co0 t) = coN t (t.nd.length + 1 - k) k P)) ?_ ?_
 ·
  refine ⟨_, 0, 1, (co0 t), rfl, t1, t3, (Eq.trans t4 (by first | rfl | (rw [show (cS t P k).1.length = (qS t P.1 k).length from rfl, r3]; done) | simp)), (Eq.trans t5 (by first | rfl | (rw [show (cS t P k).1.length = (qS t P.1 k).length from rfl, r3]; done) | simp)), h1, (Eq.trans h10 (by first | rfl)), (Eq.trans h11 (by first | rfl)), ?_, ?_, ?_⟩
  · exact Nat.zero_le _
  · exact ci0 hk
  · rfl
 intro mm T H ⟨k, w, P, hmm, t1, t3, t4, t5, h1, h10, h11, hk2, hi, hc⟩ Q2 p12 p22 p32
 unfold b36_0
 have hi1 := hi.l1
 have hi2 := hi.l2
 refine W_seq_seq ?_
 refine W_seq_regc (fun T H => T 1 = (V.mp 1 1 0 0) ∧ T 3 = (V.ms 10 1 0 (t.nd.length)) ∧ T 4 = (V.ms 11 w 0 (P.1.length)) ∧ T 5 = (iV ((k : Nat) : Int)) ∧ T 15 = (V.bool (decide (((k : Nat) : Int) < ((P.1.length : Nat) : Int)))) ∧ H 1 = (⟨1, true, false, 24, 1, [[(V.sl (List.map cN (t.nd)))]]⟩ : Blk) ∧ H 10 = (⟨1, true, false, 4, 1, (List.map cB (P.2))⟩ : Blk) ∧ H 11 = (⟨w, true, false, 3, 1, (List.map cI (P.1))⟩ : Blk) ∧ True) ?_ ?_
 ·
  unfold r36_4
  refine R_mv t5 ?_
  refine R_mv t4 ?_
  refine R_len_ms (@rfl V (V.ms 11 w 0 (P.1.length))) h11 (by first | rfl | simp) ?_
  refine R_lss (x := ((k : Nat) : Int)) (y := ((P.1.length : Nat) : Int)) (@rfl V (iV ((k : Nat) : Int))) (@rfl V (iV ((P.1.length : Nat) : Int))) ?_
  exact R_nil ⟨t1, t3, t4, t5, rfl, h1, h10, h11, trivial⟩
 intro T H ⟨t1, t3, t4, t5, t15, h1, h10, h11, _⟩
 refine W_seq_if (p := ((k : Nat) : Int) < ((P.1.length : Nat) : Int)) t15 (fun c3 => ?_) (fun c3 => ?_)
 ·
  have r1 := hi.rg _ (nth_mem (show k < P.1.length by omega))
  have r2 := hb.kd _ (show (nth P.1 k).toNat < t.nd.length by omega)
  have r3 : (qS t P.1 k).length = P.1.length + (nth t.nd (nth P.1 k).toNat).kd.length := by unfold qS; rw [List.length_append]
  refine W_seq_skip ?_
  refine W_seq_blockg fun Q4 n4 x4 y4 z4 => ?_
  refine W_seq_regc (fun T H => T 1 = (V.mp 1 1 0 0) ∧ T 3 = (V.ms 10 1 0 (t.nd.length)) ∧ T 4 = (V.ms 11 w 0 (P.1.length)) ∧ T 5 = (iV ((k : Nat) : Int)) ∧ T 6 = (iV ((nth (P.1) (k)))) ∧ H 1 = (⟨1, true, false, 24, 1, [[(V.sl (List.map cN (t.nd)))]]⟩ : Blk) ∧ H 10 = (⟨1, true, false, 4, 1, (List.map cB (P.2))⟩ : Blk) ∧ H 11 = (⟨w, true, false, 3, 1, (List.map cI (P.1))⟩ : Blk) ∧ True) ?_ ?_
  ·
   unfold r36_6
   refine R_mv t4 ?_
   refine R_mv t5 ?_
   refine R_idx_ms0 (i := k) (@rfl V (V.ms 11 w 0 (P.1.length))) (@rfl V (iV ((k : Nat) : Int))) h11 (okB_map (by first | omega | (simp only [List.length_replicate]; omega))) rfl (by first | omega | (simp only [List.length_replicate]; omega)) ?_
   refine R_load_mp (v := (iV ((nth (P.1) (k))))) (@rfl V (V.mp 11 w k 0)) h11 (ldB_map (by first | omega | (simp only [List.length_replicate]; omega)) (by first | rfl | simp [ldV, V.one])) ?_
   refine R_mv (@rfl V (iV ((nth (P.1) (k))))) ?_
   exact R_nil ⟨t1, t3, t4, t5, rfl, h1, h10, h11, trivial⟩
  intro T H ⟨t1, t3, t4, t5, t6, h1, h10, h11, _⟩
  refine W_seq_seq ?_
  refine W_seq_regc (fun T H => T 1 = (V.mp 1 1 0 0) ∧ T 3 = (V.ms 10 1 0 (t.nd.length)) ∧ T 4 = (V.ms 11 w 0 (P.1.length)) ∧ T 5 = (iV ((k : Nat) : Int)) ∧ T 6 = (iV ((nth (P.1) (k)))) ∧ T 25 = (V.bool ((nth (P.2) ((((nth (P.1) (k)))).toNat)))) ∧ H 1 = (⟨1, true, false, 24, 1, [[(V.sl (List.map cN (t.nd)))]]⟩ : Blk) ∧ H 10 = (⟨1, true, false, 4, 1, (List.map cB (P.2))⟩ : Blk) ∧ H 11 = (⟨w, true, false, 3, 1, (List.map cI (P.1))⟩ : Blk) ∧ True) ?_ ?_
  ·
   unfold r36_7
   refine R_mv t3 ?_
   refine R_mv t6 ?_
   refine R_idxI_ms0 (i := ((nth (P.1) (k)))) (@rfl V (V.ms 10 1 0 (t.nd.length))) (@rfl V (iV ((nth (P.1) (k))))) h10 (okB_map (by first | omega | (simp only [List.length_replicate]; omega))) rfl (by first | omega | (simp only [List.length_replicate]; omega)) (by first | omega | (simp only [List.length_replicate]; omega)) ?_
   refine R_load_mp (v := (V.bool ((nth (P.2) ((((nth (P.1) (k)))).toNat))))) (@rfl V (V.mp 10 1 ((((nth (P.1) (k)))).toNat) 0)) h10 (ldB_map (by first | omega | (simp only [List.length_replicate]; omega)) (by first | rfl | simp [ldV, V.one])) ?_
   exact R_nil ⟨t1, t3, t4, t5, t6, rfl, h1, h10, h11, trivial⟩
  intro T H ⟨t1, t3, t4, t5, t6, t25, h1, h10, h11, _⟩
  refine W_seq_ifb t25 (fun c5 => ?_) (fun c5 => ?_)
  ·
   have d2 : nth P.2 (nth P.1 k).toNat = true := c5
   refine W_seq_seq ?_
   refine W_seq_regc (fun T H => T 2 = (V.bool false) ∧ H 1 = (⟨1, true, false, 24, 1, [[(V.sl (List.map cN (t.nd)))]]⟩ : Blk) ∧ H 10 = (⟨1, true, false, 4, 1, (List.map cB (P.2))⟩ : Blk) ∧ H 11 = (⟨w, true, false, 3, 1, (List.map cI (P.1))⟩ : Blk) ∧ True) ?_ ?_
   ·
    unfold r36_8
    refine R_mv (@rfl V (V.bool false)) ?_
    exact R_nil ⟨rfl, h1, h10, h11, trivial⟩
   intro T H ⟨t2, h1, h10, h11, _⟩
   refine W_seq_ret ?_
   refine y4 _ _ ?_
   refine p22 _ _ ?_
   refine y1 _ _ ?_
   refine Ret_1 t2 (fz_bool ?_)
   · rw [coB_none (by rw [hc]; exact co_yes (by omega) (by omega) d2)]
  have d2 : nth P.2 (nth P.1 k).toNat = false := by simpa using c5
  refine W_seq_skip ?_
  refine W_seq_regc (fun T H => T 1 = (V.mp 1 1 0 0) ∧ T 3 = (V.ms 10 1 0 (t.nd.length)) ∧ T 4 = (V.ms 11 w 0 (P.1.length)) ∧ T 5 = (iV ((k : Nat) : Int)) ∧ T 6 = (iV ((nth (P.1) (k)))) ∧ H 1 = (⟨1, true, false, 24, 1, [[(V.sl (List.map cN (t.nd)))]]⟩ : Blk) ∧ H 10 = (⟨1, true, false, 4, 1, (List.map cB ((P.2).set ((((nth (P.1) (k)))).toNat) true))⟩ : Blk) ∧ H 11 = (⟨w, true, false, 3, 1, (List.map cI (P.1))⟩ : Blk) ∧ True) ?_ ?_
  ·
   unfold r36_9
   refine R_mv t3 ?_
   refine R_mv t6 ?_
   refine R_idxI_ms0 (i := ((nth (P.1) (k)))) (@rfl V (V.ms 10 1 0 (t.nd.length))) (@rfl V (iV ((nth (P.1) (k))))) h10 (okB_map (by first | omega | (simp only [List.length_replicate]; omega))) rfl (by first | omega | (simp only [List.length_replicate]; omega)) (by first | omega | (simp only [List.length_replicate]; omega)) ?_
   refine R_store (vs := [(V.bool true)]) (B' := (⟨1, true, false, 4, 1, (List.map cB ((P.2).set ((((nth (P.1) (k)))).toNat) true))⟩ : Blk)) (@rfl V (V.mp 10 1 ((((nth (P.1) (k)))).toNat) 0)) (@rfl V (V.bool true)) rfl h10 (stB_map (x := true) (i := ((((nth (P.1) (k)))).toNat)) (by first | omega | (simp only [List.length_replicate]; omega)) rfl rfl rfl rfl) ?_
   exact R_nil ⟨t1, t3, t4, t5, t6, h1, rfl, h11, trivial⟩
  intro T H ⟨t1, t3, t4, t5, t6, h1, h10, h11, _⟩
  refine W_seq_regc (fun T H => T 1 = (V.mp 1 1 0 0) ∧ T 3 = (V.ms 10 1 0 (t.nd.length)) ∧ T 4 = (V.ms 11 (w + 1) 0 (P.1.length + (((nth (t.nd) ((nth (P.1) (k))).toNat)).kd).length)) ∧ T 5 = (iV ((k : Nat) : Int)) ∧ H 1 = (⟨1, true, false, 24, 1, [[(V.sl (List.map cN (t.nd)))]]⟩ : Blk) ∧ H 10 = (⟨1, true, false, 4, 1, (List.map cB ((P.2).set ((((nth (P.1) (k)))).toNat) true))⟩ : Blk) ∧ H 11 = (⟨w + 1, true, false, 3, 1, (List.map cI (P.1 ++ (((nth (t.nd) ((nth (P.1) (k))).toNat)).kd)))⟩ : Blk) ∧ True) ?_ ?_
  ·
   unfold r36_10
   refine R_mv t4 ?_
   refine R_fld_mp (o' := 0) t1 h1 (by first | rfl | simp [okB, Blk.own]) rfl ?_
   refine R_load_mp (v := (V.sl (List.map cN (t.nd)))) (@rfl V (V.mp 1 1 0 0)) h1 (by first | rfl | simp [ldB, ldV, Blk.own, V.one]) ?_
   refine R_mv t6 ?_
   refine R_idxI (i := ((nth (P.1) (k)))) (@rfl V (V.sl (List.map cN (t.nd)))) (@rfl V (iV ((nth (P.1) (k))))) (by first | omega | (simp only [List.length_replicate]; omega)) (by first | omega | (simp only [List.length_replicate]; omega)) rfl ?_
   refine R_fld_pp (cs' := [(V.sl (List.map cI (((nth (t.nd) ((nth (P.1) (k))).toNat)).kd)))]) (@rfl V (V.pp [(V.bool (((nth (t.nd) ((nth (P.1) (k))).toNat)).lf)), (V.sl (List.map cI (((nth (t.nd) ((nth (P.1) (k))).toNat)).ac))), (V.sl (List.map cI (((nth (t.nd) ((nth (P.1) (k))).toNat)).sf))), (V.sl (List.map cL (((nth (t.nd) ((nth (P.1) (k))).toNat)).ou))), (V.sl (List.map cI (((nth (t.nd) ((nth (P.1) (k))).toNat)).kd)))])) rfl ?_
   refine R_load_pp (v := (V.sl (List.map cI (((nth (t.nd) ((nth (P.1) (k))).toNat)).kd)))) (@rfl V (V.pp [(V.sl (List.map cI (((nth (t.nd) ((nth (P.1) (k))).toNat)).kd)))])) (by first | rfl | simp [ldV]) ?_
   refine R_appendS (l := P.1) (m := (((nth (t.nd) ((nth (P.1) (k))).toNat)).kd)) (f := cI) (@rfl V (V.ms 11 w 0 (P.1.length))) h11 (by first | rfl | simp | omega) (@rfl V (V.sl (List.map cI (((nth (t.nd) ((nth (P.1) (k))).toNat)).kd)))) (fun _ => rfl) (fun _ => rfl) (by first | omega | (simp only [List.length_replicate]; omega)) (by first | omega | (simp only [List.length_replicate]; omega)) ?_
   refine R_mv (@rfl V (V.ms 11 (w + 1) 0 (P.1.length + (((nth (t.nd) ((nth (P.1) (k))).toNat)).kd).length))) ?_
   exact R_nil ⟨t1, t3, rfl, t5, h1, h10, rfl, trivial⟩
  intro T H ⟨t1, t3, t4, t5, h1, h10, h11, _⟩
  refine W_seq_regc (fun T H => T 1 = (V.mp 1 1 0 0) ∧ T 3 = (V.ms 10 1 0 (t.nd.length)) ∧ T 4 = (V.ms 11 (w + 1) 0 (P.1.length + (((nth (t.nd) ((nth (P.1) (k))).toNat)).kd).length)) ∧ T 5 = (iV ((k : Nat) : Int)) ∧ T 42 = (V.bool (decide (((t.nd.length : Nat) : Int) < ((P.1.length + (((nth (t.nd) ((nth (P.1) (k))).toNat)).kd).length : Nat) : Int)))) ∧ H 1 = (⟨1, true, false, 24, 1, [[(V.sl (List.map cN (t.nd)))]]⟩ : Blk) ∧ H 10 = (⟨1, true, false, 4, 1, (List.map cB ((P.2).set ((((nth (P.1) (k)))).toNat) true))⟩ : Blk) ∧ H 11 = (⟨w + 1, true, false, 3, 1, (List.map cI (P.1 ++ (((nth (t.nd) ((nth (P.1) (k))).toNat)).kd)))⟩ : Blk) ∧ True) ?_ ?_
  ·
   unfold r36_11
   refine R_mv t4 ?_
   refine R_len_ms (@rfl V (V.ms 11 (w + 1) 0 (P.1.length + (((nth (t.nd) ((nth (P.1) (k))).toNat)).kd).length))) h11 (by first | rfl | simp) ?_
   refine R_fld_mp (o' := 0) t1 h1 (by first | rfl | simp [okB, Blk.own]) rfl ?_
   refine R_load_mp (v := (V.sl (List.map cN (t.nd)))) (@rfl V (V.mp 1 1 0 0)) h1 (by first | rfl | simp [ldB, ldV, Blk.own, V.one]) ?_
   refine R_len (@rfl V (V.sl (List.map cN (t.nd)))) ?_
   refine R_gtr (x := ((P.1.length + (((nth (t.nd) ((nth (P.1) (k))).toNat)).kd).length : Nat) : Int)) (y := ((t.nd.length : Nat) : Int)) (@rfl V (iV ((P.1.length + (((nth (t.nd) ((nth (P.1) (k))).toNat)).kd).length : Nat) : Int))) (@rfl V (iV ((t.nd.length : Nat) : Int))) ?_
   exact R_nil ⟨t1, t3, t4, t5, rfl, h1, h10, h11, trivial⟩
  intro T H ⟨t1, t3, t4, t5, t42, h1, h10, h11, _⟩
  refine W_if (p := ((t.nd.length : Nat) : Int) < ((P.1.length + (((nth (t.nd) ((nth (P.1) (k))).toNat)).kd).length : Nat) : Int)) t42 (fun c6 => ?_) (fun c6 => ?_)
  ·
   have d3 := c6
   refine W_seq_regc (fun T H => T 2 = (V.bool false) ∧ H 1 = (⟨1, true, false, 24, 1, [[(V.sl (List.map cN (t.nd)))]]⟩ : Blk) ∧ H 10 = (⟨1, true, false, 4, 1, (List.map cB ((P.2).set ((((nth (P.1) (k)))).toNat) true))⟩ : Blk) ∧ H 11 = (⟨w + 1, true, false, 3, 1, (List.map cI (P.1 ++ (((nth (t.nd) ((nth (P.1) (k))).toNat)).kd)))⟩ : Blk) ∧ True) ?_ ?_
   ·
    unfold r36_12
    refine R_mv (@rfl V (V.bool false)) ?_
    exact R_nil ⟨rfl, h1, h10, h11, trivial⟩
   intro T H ⟨t2, h1, h10, h11, _⟩
   refine W_ret ?_
   refine y4 _ _ ?_
   refine p22 _ _ ?_
   refine y1 _ _ ?_
   refine Ret_1 t2 (fz_bool ?_)
   · rw [coB_none (by rw [hc]; exact co_big (by omega) (by omega) d2 (by omega))]
  have d3 := c6
  refine W_skip ?_
  refine n4 _ _ ?_
  refine .done ?_
  refine W_regc (fun T H => T 1 = (V.mp 1 1 0 0) ∧ T 3 = (V.ms 10 1 0 (t.nd.length)) ∧ T 4 = (V.ms 11 (w + 1) 0 (P.1.length + (((nth (t.nd) ((nth (P.1) (k))).toNat)).kd).length)) ∧ T 5 = (iV ((k + 1 : Nat) : Int)) ∧ H 1 = (⟨1, true, false, 24, 1, [[(V.sl (List.map cN (t.nd)))]]⟩ : Blk) ∧ H 10 = (⟨1, true, false, 4, 1, (List.map cB ((P.2).set ((((nth (P.1) (k)))).toNat) true))⟩ : Blk) ∧ H 11 = (⟨w + 1, true, false, 3, 1, (List.map cI (P.1 ++ (((nth (t.nd) ((nth (P.1) (k))).toNat)).kd)))⟩ : Blk) ∧ True) ?_ ?_
  ·
   unfold r36_5
   refine R_mv t5 ?_
   refine R_addN (m := k) (n := 1) (@rfl V (iV ((k : Nat) : Int))) (@rfl V (iV ((1 : Nat) : Int))) (by first | omega | (simp only [List.length_replicate]; omega)) ?_
   refine R_mv (@rfl V (iV ((k + 1 : Nat) : Int))) ?_
   exact R_nil ⟨t1, t3, t4, rfl, h1, h10, h11, trivial⟩
  intro T H ⟨t1, t3, t4, t5, h1, h10, h11, _⟩
  refine p12 _ _ _ ?_ ⟨(k + 1), (w + 1), (cS t P k), rfl, t1, t3, (Eq.trans t4 (by first | rfl | (rw [show (cS t P k).1.length = (qS t P.1 k).length from rfl, r3]; done) | simp)), (Eq.trans t5 (by first | rfl | (rw [show (cS t P k).1.length = (qS t P.1 k).length from rfl, r3]; done) | simp)), h1, (Eq.trans h10 (by first | rfl)), (Eq.trans h11 (by first | rfl)), ?_, ?_, ?_⟩
  · omega
  · show k + 1 ≤ (P.1 ++ _).length; rw [List.length_append]; omega
  · exact hi.step hk (by omega) (by omega)
  · rw [hc, co_go (by omega) (by omega) d2 (by omega)]
 refine W_seq_exit ?_
 refine p32 _ _ _ ?_
 refine x1 _ _ ?_
 refine .done ?_
 refine W_seq_regc (fun T H => T 2 = (V.bool (decide (((P.1.length : Nat) : Int) = ((t.nd.length : Nat) : Int)))) ∧ H 1 = (⟨1, true, false, 24, 1, [[(V.sl (List.map cN (t.nd)))]]⟩ : Blk) ∧ H 10 = (⟨1, true, false, 4, 1, (List.map cB (P.2))⟩ : Blk) ∧ H 11 = (⟨w, true, false, 3, 1, (List.map cI (P.1))⟩ : Blk) ∧ True) ?_ ?_
 ·
  unfold r36_13
  refine R_mv t4 ?_
  refine R_len_ms (@rfl V (V.ms 11 w 0 (P.1.length))) h11 (by first | rfl | simp) ?_
  refine R_fld_mp (o' := 0) t1 h1 (by first | rfl | simp [okB, Blk.own]) rfl ?_
  refine R_load_mp (v := (V.sl (List.map cN (t.nd)))) (@rfl V (V.mp 1 1 0 0)) h1 (by first | rfl | simp [ldB, ldV, Blk.own, V.one]) ?_
  refine R_len (@rfl V (V.sl (List.map cN (t.nd)))) ?_
  refine R_eql (x := ((P.1.length : Nat) : Int)) (y := ((t.nd.length : Nat) : Int)) (@rfl V (iV ((P.1.length : Nat) : Int))) (@rfl V (iV ((t.nd.length : Nat) : Int))) ?_
  refine R_mv (@rfl V (V.bool (decide (((P.1.length : Nat) : Int) = ((t.nd.length : Nat) : Int))))) ?_
  exact R_nil ⟨rfl, h1, h10, h11, trivial⟩
 intro T H ⟨t2, h1, h10, h11, _⟩
 refine W_ret ?_
 refine Ret_1 t2 (fz_bool ?_)
 · rw [coB_some (by rw [hc]; exact co_end (by omega) (by omega))]; exact decide_eq_decide.2 (by omega)
end Go.Proofs.YtmnjchcoigbngaaGreat


namespace Go.Proofs.YtmnjchcoigbngaaGreat
open Go Go.Proofs
theorem concat_pure (l : List (List Int)) (hs : (cat l).length ≤ 4294967296) : PureC Tryz.prog 83 [(V.sl (List.map cL (l)))] (V.sl (List.map cI (cat l))) := by
 refine pure_of_Wb true 6 Tryz.func83 s83_ok (by kernel_rfl) (by simp [s83]) (by simp) (by simp) fun hB => ?_
 simp only [bnd_map, bnd_int, bnd_bool, bnd_str, bnd_agg, bnd_pp, bnd_nil, bnd_cons, implies_true, and_true, true_and] at hB
 unfold s83
 dsimp only
 refine W_seq_regc (fun T H => T 0 = (V.sl (List.map cL (l))) ∧ H 900 = (⟨0, false, false, 0, 0, []⟩ : Blk) ∧ True) ?_ ?_
 ·
  unfold r83_0
  refine R_mv (@rfl V V.nilsl) ?_
  exact R_nil ⟨rfl, rfl, trivial⟩
 intro T H ⟨t0, h900, _⟩
 refine W_seq_regc (fun T H => T 0 = (V.sl (List.map cL (l))) ∧ T 3 = (iV (0 : Int)) ∧ H 900 = (⟨0, false, false, 0, 0, []⟩ : Blk) ∧ True) ?_ ?_
 ·
  unfold r83_1
  refine R_mv (@rfl V (iV (0 : Int))) ?_
  exact R_nil ⟨t0, rfl, h900, trivial⟩
 intro T H ⟨t0, t3, h900, _⟩
 refine W_seq_seq ?_
 refine W_seq_regc (fun T H => T 0 = (V.sl (List.map cL (l))) ∧ T 3 = (iV (0 : Int)) ∧ T 9 = (V.sl (List.map cL (l))) ∧ T 10 = (iV ((l.length : Nat) : Int)) ∧ T 11 = (iV (0 : Int)) ∧ H 900 = (⟨0, false, false, 0, 0, []⟩ : Blk) ∧ True) ?_ ?_
 ·
  unfold r83_2
  refine R_mv t0 ?_
  refine R_len (@rfl V (V.sl (List.map cL (l)))) ?_
  refine R_mv (@rfl V (iV (0 : Int))) ?_
  exact R_nil ⟨t0, t3, rfl, rfl, rfl, h900, trivial⟩
 intro T H ⟨t0, t3, t9, t10, t11, h900, _⟩
 refine W_seq_blockg fun Q1 n1 x1 y1 z1 => ?_
 refine W_loop (fun mm T H => ∃ (k : Nat), mm = l.length - k ∧ T 0 = (V.sl (List.map cL (l))) ∧ T 3 = (iV (((cat (l.take k)).length : Nat) : Int)) ∧ T 9 = (V.sl (List.map cL (l))) ∧ T 10 = (iV ((l.length : Nat) : Int)) ∧ T 11 = (iV ((k : Nat) : Int)) ∧ H 900 = (⟨0, false, false, 0, 0, []⟩ : Blk) ∧ (k ≤ l.length)) ?_ ?_
 ·
  refine ⟨_, 0, rfl, t0, (Eq.trans t3 (by first | rfl | (rw [cat_take (by omega), List.length_append]; done) | (rw [cat_take (by omega), List.length_append]; rfl) | simp)), t9, t10, (Eq.trans t11 (by first | rfl | (rw [cat_take (by omega), List.length_append]; done) | (rw [cat_take (by omega), List.length_append]; rfl) | simp)), h900, ?_⟩
  · omega
 intro mm T H ⟨k, hmm, t0, t3, t9, t10, t11, h900, hk⟩ Q2 p12 p22 p32
 unfold b83_0
 refine W_seq_regc (fun T H => T 0 = (V.sl (List.map cL (l))) ∧ T 3 = (iV (((cat (l.take k)).length : Nat) : Int)) ∧ T 9 = (V.sl (List.map cL (l))) ∧ T 10 = (iV ((l.length : Nat) : Int)) ∧ T 11 = (iV ((k : Nat) : Int)) ∧ T 12 = (V.bool (decide (((k : Nat) : Int) < ((l.length : Nat) : Int)))) ∧ H 900 = (⟨0, false, false, 0, 0, []⟩ : Blk) ∧ True) ?_ ?_
 ·
  unfold r83_3
  refine R_lss (x := ((k : Nat) : Int)) (y := ((l.length : Nat) : Int)) t11 t10 ?_
  exact R_nil ⟨t0, t3, t9, t10, t11, rfl, h900, trivial⟩
 intro T H ⟨t0, t3, t9, t10, t11, t12, h900, _⟩
 refine W_seq_if (p := ((k : Nat) : Int) < ((l.length : Nat) : Int)) t12 (fun c3 => ?_) (fun c3 => ?_)
 ·
  have hq := cat_take_le (l := l) (k := k) (by omega)
  refine W_seq_skip ?_
  refine W_seq_blockg fun Q4 n4 x4 y4 z4 => ?_
  refine W_seq_regc (fun T H => T 0 = (V.sl (List.map cL (l))) ∧ T 3 = (iV (((cat (l.take k)).length : Nat) : Int)) ∧ T 5 = (V.sl (List.map cI ((nth (l) (k))))) ∧ T 9 = (V.sl (List.map cL (l))) ∧ T 10 = (iV ((l.length : Nat) : Int)) ∧ T 11 = (iV ((k : Nat) : Int)) ∧ H 900 = (⟨0, false, false, 0, 0, []⟩ : Blk) ∧ True) ?_ ?_
  ·
   unfold r83_4
   refine R_idx (i := k) t9 t11 (by omega) rfl ?_
   refine R_load_pp (v := (V.sl (List.map cI ((nth (l) (k)))))) (@rfl V (V.pp [(V.sl (List.map cI ((nth (l) (k)))))])) (by first | rfl | simp [ldV]) ?_
   refine R_mv (@rfl V (V.sl (List.map cI ((nth (l) (k)))))) ?_
   exact R_nil ⟨t0, t3, rfl, t9, t10, t11, h900, trivial⟩
  intro T H ⟨t0, t3, t5, t9, t10, t11, h900, _⟩
  refine W_seq_regc (fun T H => T 0 = (V.sl (List.map cL (l))) ∧ T 3 = (iV ((((cat (l.take k)).length) + ((nth (l) (k))).length : Nat) : Int)) ∧ T 9 = (V.sl (List.map cL (l))) ∧ T 10 = (iV ((l.length : Nat) : Int)) ∧ T 11 = (iV ((k : Nat) : Int)) ∧ H 900 = (⟨0, false, false, 0, 0, []⟩ : Blk) ∧ True) ?_ ?_
  ·
   unfold r83_5
   refine R_mv t3 ?_
   refine R_mv t5 ?_
   refine R_len (@rfl V (V.sl (List.map cI ((nth (l) (k)))))) ?_
   refine R_addN (m := ((cat (l.take k)).length)) (n := (((nth (l) (k))).length)) (@rfl V (iV (((cat (l.take k)).length : Nat) : Int))) (@rfl V (iV ((((nth (l) (k))).length : Nat) : Int))) (by omega) ?_
   refine R_mv (@rfl V (iV ((((cat (l.take k)).length) + ((nth (l) (k))).length : Nat) : Int))) ?_
   exact R_nil ⟨t0, rfl, t9, t10, t11, h900, trivial⟩
  intro T H ⟨t0, t3, t9, t10, t11, h900, _⟩
  refine W_seq_regc (fun T H => T 0 = (V.sl (List.map cL (l))) ∧ T 3 = (iV ((((cat (l.take k)).length) + ((nth (l) (k))).length : Nat) : Int)) ∧ T 9 = (V.sl (List.map cL (l))) ∧ T 10 = (iV ((l.length : Nat) : Int)) ∧ T 11 = (iV ((k : Nat) : Int)) ∧ T 20 = (V.bool (decide (((((cat (l.take k)).length) + ((nth (l) (k))).length : Nat) : Int) < (0 : Int)))) ∧ H 900 = (⟨0, false, false, 0, 0, []⟩ : Blk) ∧ True) ?_ ?_
  ·
   unfold r83_6
   refine R_mv t3 ?_
   refine R_lss (x := ((((cat (l.take k)).length) + ((nth (l) (k))).length : Nat) : Int)) (y := (0 : Int)) (@rfl V (iV ((((cat (l.take k)).length) + ((nth (l) (k))).length : Nat) : Int))) (@rfl V (iV (0 : Int))) ?_
   exact R_nil ⟨t0, t3, t9, t10, t11, rfl, h900, trivial⟩
  intro T H ⟨t0, t3, t9, t10, t11, t20, h900, _⟩
  refine W_if (p := ((((cat (l.take k)).length) + ((nth (l) (k))).length : Nat) : Int) < (0 : Int)) t20 (fun c5 => ?_) (fun c5 => ?_)
  · exfalso; omega
  refine W_skip ?_
  refine n4 _ _ ?_
  refine .done ?_
  refine W_regc (fun T H => T 0 = (V.sl (List.map cL (l))) ∧ T 3 = (iV ((((cat (l.take k)).length) + ((nth (l) (k))).length : Nat) : Int)) ∧ T 9 = (V.sl (List.map cL (l))) ∧ T 10 = (iV ((l.length : Nat) : Int)) ∧ T 11 = (iV ((k + 1 : Nat) : Int)) ∧ H 900 = (⟨0, false, false, 0, 0, []⟩ : Blk) ∧ True) ?_ ?_
  ·
   unfold r83_8
   refine R_addN (m := k) (n := 1) t11 (@rfl V (iV ((1 : Nat) : Int))) (by omega) ?_
   refine R_mv (@rfl V (iV ((k + 1 : Nat) : Int))) ?_
   exact R_nil ⟨t0, t3, t9, t10, rfl, h900, trivial⟩
  intro T H ⟨t0, t3, t9, t10, t11, h900, _⟩
  refine p12 _ _ _ ?_ ⟨(k + 1), rfl, t0, (Eq.trans t3 (by first | rfl | (rw [cat_take (by omega), List.length_append]; done) | (rw [cat_take (by omega), List.length_append]; rfl) | simp)), t9, t10, (Eq.trans t11 (by first | rfl | (rw [cat_take (by omega), List.length_append]; done) | (rw [cat_take (by omega), List.length_append]; rfl) | simp)), h900, ?_⟩
  · omega
  · omega
 have hk2 : (cat (l.take k)).length = (cat l).length := by rw [show k = l.length by omega, List.take_length]
 refine W_seq_exit ?_
 refine p32 _ _ _ ?_
 refine x1 _ _ ?_
 refine .done ?_
 refine W_seq_regc (fun T H => T 0 = (V.sl (List.map cL (l))) ∧ T 6 = (V.ms 900 (0 + 1) 0 (0)) ∧ H 900 = (⟨0 + 1, true, decide ((cat (l.take k)).length = 0), 3, 1, []⟩ : Blk) ∧ True) ?_ ?_
 ·
  unfold r83_9
  refine R_mv t3 ?_
  refine R_callE (evcons (@rfl V V.nilsl) (evcons (@rfl V (iV (((cat (l.take k)).length : Nat) : Int))) evnil)) (CallOK_growv growLay110 growCall110 growInfo110 (by decide) rfl (n := ((cat (l.take k)).length)) (by omega) (by omega) 900 (congrArg Blk.ver h900)) ?_
  refine R_mv (@rfl V (V.ms 900 (0 + 1) 0 (0))) ?_
  exact R_nil ⟨t0, rfl, rfl, trivial⟩
 intro T H ⟨t0, t6, h900, _⟩
 refine W_seq_seq ?_
 refine W_seq_regc (fun T H => T 6 = (V.ms 900 (0 + 1) 0 (0)) ∧ T 25 = (V.sl (List.map cL (l))) ∧ T 26 = (iV ((l.length : Nat) : Int)) ∧ T 27 = (iV (0 : Int)) ∧ H 900 = (⟨0 + 1, true, decide ((cat (l.take k)).length = 0), 3, 1, []⟩ : Blk) ∧ True) ?_ ?_
 ·
  unfold r83_10
  refine R_mv t0 ?_
  refine R_len (@rfl V (V.sl (List.map cL (l)))) ?_
  refine R_mv (@rfl V (iV (0 : Int))) ?_
  exact R_nil ⟨t6, rfl, rfl, rfl, h900, trivial⟩
 intro T H ⟨t6, t25, t26, t27, h900, _⟩
 refine W_seq_blockg fun Q6 n6 x6 y6 z6 => ?_
 refine W_loop (fun mm T H => ∃ (j : Nat) (w : Nat), mm = l.length - j ∧ T 6 = (V.ms 900 w 0 ((cat (l.take j)).length)) ∧ T 25 = (V.sl (List.map cL (l))) ∧ T 26 = (iV ((l.length : Nat) : Int)) ∧ T 27 = (iV ((j : Nat) : Int)) ∧ H 900 = (⟨w, true, decide ((cat (l.take k)).length = 0), 3, 1, (List.map cI (cat (l.take j)))⟩ : Blk) ∧ (j ≤ l.length)) ?_ ?_
 ·
  refine ⟨_, 0, (0 + 1), rfl, (Eq.trans t6 (by first | rfl | (rw [cat_take (by omega), List.length_append]; done) | (rw [cat_take (by omega), List.length_append]; rfl) | simp)), t25, t26, (Eq.trans t27 (by first | rfl | (rw [cat_take (by omega), List.length_append]; done) | (rw [cat_take (by omega), List.length_append]; rfl) | simp)), (Eq.trans h900 (by first | rfl | (rw [cat_take (by omega)]; done) | (rw [cat_take (by omega)]; rfl))), ?_⟩
  · omega
 intro mm T H ⟨j, w, hmm, t6, t25, t26, t27, h900, hj⟩ Q7 p17 p27 p37
 unfold b83_1
 refine W_seq_regc (fun T H => T 6 = (V.ms 900 w 0 ((cat (l.take j)).length)) ∧ T 25 = (V.sl (List.map cL (l))) ∧ T 26 = (iV ((l.length : Nat) : Int)) ∧ T 27 = (iV ((j : Nat) : Int)) ∧ T 28 = (V.bool (decide (((j : Nat) : Int) < ((l.length : Nat) : Int)))) ∧ H 900 = (⟨w, true, decide ((cat (l.take k)).length = 0), 3, 1, (List.map cI (cat (l.take j)))⟩ : Blk) ∧ True) ?_ ?_
 ·
  unfold r83_11
  refine R_lss (x := ((j : Nat) : Int)) (y := ((l.length : Nat) : Int)) t27 t26 ?_
  exact R_nil ⟨t6, t25, t26, t27, rfl, h900, trivial⟩
 intro T H ⟨t6, t25, t26, t27, t28, h900, _⟩
 refine W_seq_if (p := ((j : Nat) : Int) < ((l.length : Nat) : Int)) t28 (fun c8 => ?_) (fun c8 => ?_)
 ·
  have hq := cat_take_le (l := l) (k := j) (by omega)
  refine W_seq_skip ?_
  refine W_seq_blockg fun Q9 n9 x9 y9 z9 => ?_
  refine W_seq_regc (fun T H => T 6 = (V.ms 900 w 0 ((cat (l.take j)).length)) ∧ T 8 = (V.sl (List.map cI ((nth (l) (j))))) ∧ T 25 = (V.sl (List.map cL (l))) ∧ T 26 = (iV ((l.length : Nat) : Int)) ∧ T 27 = (iV ((j : Nat) : Int)) ∧ H 900 = (⟨w, true, decide ((cat (l.take k)).length = 0), 3, 1, (List.map cI (cat (l.take j)))⟩ : Blk) ∧ True) ?_ ?_
  ·
   unfold r83_12
   refine R_idx (i := j) t25 t27 (by omega) rfl ?_
   refine R_load_pp (v := (V.sl (List.map cI ((nth (l) (j)))))) (@rfl V (V.pp [(V.sl (List.map cI ((nth (l) (j)))))])) (by first | rfl | simp [ldV]) ?_
   refine R_mv (@rfl V (V.sl (List.map cI ((nth (l) (j)))))) ?_
   exact R_nil ⟨t6, rfl, t25, t26, t27, h900, trivial⟩
  intro T H ⟨t6, t8, t25, t26, t27, h900, _⟩
  refine W_regc (fun T H => T 6 = (V.ms 900 (w + 1) 0 (((cat (l.take j)).length) + ((nth (l) (j))).length)) ∧ T 25 = (V.sl (List.map cL (l))) ∧ T 26 = (iV ((l.length : Nat) : Int)) ∧ T 27 = (iV ((j : Nat) : Int)) ∧ H 900 = (⟨w + 1, true, decide ((cat (l.take k)).length = 0), 3, 1, (List.map cI (cat (l.take j) ++ ((nth (l) (j)))))⟩ : Blk) ∧ True) ?_ ?_
  ·
   unfold r83_13
   refine R_mv t6 ?_
   refine R_mv t8 ?_
   refine R_appendS (l := (cat (l.take j))) (m := ((nth (l) (j)))) (f := cI) (@rfl V (V.ms 900 w 0 ((cat (l.take j)).length))) h900 (by first | rfl | simp | omega) (@rfl V (V.sl (List.map cI ((nth (l) (j)))))) (fun _ => rfl) (fun _ => rfl) (by omega) (by omega) ?_
   refine R_mv (@rfl V (V.ms 900 (w + 1) 0 (((cat (l.take j)).length) + ((nth (l) (j))).length))) ?_
   exact R_nil ⟨rfl, t25, t26, t27, rfl, trivial⟩
  intro T H ⟨t6, t25, t26, t27, h900, _⟩
  refine n9 _ _ ?_
  refine .done ?_
  refine W_regc (fun T H => T 6 = (V.ms 900 (w + 1) 0 (((cat (l.take j)).length) + ((nth (l) (j))).length)) ∧ T 25 = (V.sl (List.map cL (l))) ∧ T 26 = (iV ((l.length : Nat) : Int)) ∧ T 27 = (iV ((j + 1 : Nat) : Int)) ∧ H 900 = (⟨w + 1, true, decide ((cat (l.take k)).length = 0), 3, 1, (List.map cI (cat (l.take j) ++ ((nth (l) (j)))))⟩ : Blk) ∧ True) ?_ ?_
  ·
   unfold r83_14
   refine R_addN (m := j) (n := 1) t27 (@rfl V (iV ((1 : Nat) : Int))) (by omega) ?_
   refine R_mv (@rfl V (iV ((j + 1 : Nat) : Int))) ?_
   exact R_nil ⟨t6, t25, t26, rfl, h900, trivial⟩
  intro T H ⟨t6, t25, t26, t27, h900, _⟩
  refine p17 _ _ _ ?_ ⟨(j + 1), (w + 1), rfl, (Eq.trans t6 (by first | rfl | (rw [cat_take (by omega), List.length_append]; done) | (rw [cat_take (by omega), List.length_append]; rfl) | simp)), t25, t26, (Eq.trans t27 (by first | rfl | (rw [cat_take (by omega), List.length_append]; done) | (rw [cat_take (by omega), List.length_append]; rfl) | simp)), (Eq.trans h900 (by first | rfl | (rw [cat_take (by omega)]; done) | (rw [cat_take (by omega)]; rfl))), ?_⟩
  · omega
  · omega
 refine W_seq_exit ?_
 refine p37 _ _ _ ?_
 refine x6 _ _ ?_
 refine .done ?_
 refine W_seq_regc (fun T H => T 2 = (V.ms 900 w 0 ((cat (l.take j)).length)) ∧ H 900 = (⟨w, true, decide ((cat (l.take k)).length = 0), 3, 1, (List.map cI (cat (l.take j)))⟩ : Blk) ∧ True) ?_ ?_
 ·
  unfold r83_15
  refine R_mv t6 ?_
  refine R_mv (@rfl V (V.ms 900 w 0 ((cat (l.take j)).length))) ?_
  exact R_nil ⟨rfl, h900, trivial⟩
 intro T H ⟨t2, h900, _⟩
 refine W_ret ?_
 refine Ret_1 t2 (fz_ms h900 (by first | rfl | simp) (l := (cat (l.take j))) rfl (by first | rfl | simp | omega) (fun _ => by simp) ?_)
 · rw [show j = l.length by omega, List.take_length]
end Go.Proofs.YtmnjchcoigbngaaGreat


namespace Go.Proofs.YtmnjchcoigbngaaGreat
open Go Go.Proofs
theorem pjoin_pure (l : List (List Int)) (hs : (cat l).length ≤ 4294967296) : PureC Tryz.prog 49 [(V.sl (List.map cL (l)))] (V.sl (List.map cI (cat l))) := by
 refine pure_of_Wb true 6 Tryz.func49 s49_ok (by kernel_rfl) (by simp [s49]) (by simp) (by simp) fun hB => ?_
 simp only [bnd_map, bnd_int, bnd_bool, bnd_str, bnd_agg, bnd_pp, bnd_nil, bnd_cons, implies_true, and_true, true_and] at hB
 unfold s49
 dsimp only
 refine W_seq_regc (fun T H => T 0 = (V.sl (List.map cL (l))) ∧ True) ?_ ?_
 ·
  unfold r49_0
  refine R_mv (@rfl V V.nilsl) ?_
  exact R_nil ⟨rfl, trivial⟩
 intro T H ⟨t0, _⟩
 refine W_seq_regc (fun T H => T 2 = (V.sl (List.map cI (cat l))) ∧ True) ?_ ?_
 ·
  unfold r49_1
  refine R_mv t0 ?_
  refine R_call (evcons (@rfl V (V.sl (List.map cL (l)))) evnil) (concat_pure l hs) (fzv_mapcanon _ _ (by simp [-List.map_take, -List.map_drop, -List.map_append, -List.map_reverse])) (by simp [-List.map_take, -List.map_drop, -List.map_append, -List.map_reverse]) (Or.inl (by simp [-List.map_take, -List.map_drop, -List.map_append, -List.map_reverse])) ?_
  refine R_mv (@rfl V (V.sl (List.map cI (cat l)))) ?_
  exact R_nil ⟨rfl, trivial⟩
 intro T H ⟨t2, _⟩
 refine W_ret ?_
 refine Ret_1 t2 (fz_canon (by simp) rfl)
end Go.Proofs.YtmnjchcoigbngaaGreat


namespace Go.Proofs.YtmnjchcoigbngaaGreat
open Go Go.Proofs
theorem access_pure (t : Dt) (hb : Bd t) : PureC Tryz.prog 37 [(V.agg [(V.sl (List.map cN (t.nd)))])] (V.sl (List.map cL (acL t.nd))) := by
 refine pure_of_Wb true 6 Tryz.func37 s37_ok (by kernel_rfl) (by simp [s37]) (by simp) (by simp) fun hB => ?_
 simp only [bnd_map, bnd_int, bnd_bool, bnd_str, bnd_agg, bnd_pp, bnd_nil, bnd_cons, implies_true, and_true, true_and] at hB
 unfold s37
 dsimp only
 have hbn := hb.n
 refine W_seq_regc (fun T H => T 1 = (V.mp 1 1 0 0) ∧ H 1 = (⟨1, true, false, 24, 1, [[(V.sl (List.map cN (t.nd)))]]⟩ : Blk) ∧ H 3 = (⟨0, false, false, 0, 0, []⟩ : Blk) ∧ H 5 = (⟨0, false, false, 0, 0, []⟩ : Blk) ∧ True) ?_ ?_
 ·
  unfold r37_0
  refine R_box (i := 1) (n := 0) (m := 1) (cs := [(V.sl (List.map cN (t.nd)))]) rfl (congrArg Blk.ver rfl) (@rfl V (V.agg [(V.sl (List.map cN (t.nd)))])) rfl rfl ?_
  refine R_mv (@rfl V V.nilsl) ?_
  exact R_nil ⟨rfl, rfl, rfl, rfl, trivial⟩
 intro T H ⟨t1, h1, h3, h5, _⟩
 refine W_seq_regc (fun T H => T 1 = (V.mp 1 1 0 0) ∧ T 3 = (V.ms 3 1 0 (0)) ∧ H 1 = (⟨1, true, false, 24, 1, [[(V.sl (List.map cN (t.nd)))]]⟩ : Blk) ∧ H 3 = (⟨1, true, true, 38, 1, []⟩ : Blk) ∧ H 5 = (⟨0, false, false, 0, 0, []⟩ : Blk) ∧ True) ?_ ?_
 ·
  unfold r37_1
  refine R_lazy (i := 3) (n := 0) rfl (congrArg Blk.ver h3) ?_
  exact R_nil ⟨t1, rfl, h1, rfl, h5, trivial⟩
 intro T H ⟨t1, t3, h1, h3, h5, _⟩
 refine W_seq_seq ?_
 refine W_seq_regc (fun T H => T 3 = (V.ms 3 1 0 (0)) ∧ T 7 = (V.sl (List.map cN (t.nd))) ∧ T 8 = (iV ((t.nd.length : Nat) : Int)) ∧ T 9 = (iV (0 : Int)) ∧ H 1 = (⟨1, true, false, 24, 1, [[(V.sl (List.map cN (t.nd)))]]⟩ : Blk) ∧ H 3 = (⟨1, true, true, 38, 1, []⟩ : Blk) ∧ H 5 = (⟨0, false, false, 0, 0, []⟩ : Blk) ∧ True) ?_ ?_
 ·
  unfold r37_2
  refine R_fld_mp (o' := 0) t1 h1 (by first | rfl | simp [okB, Blk.own]) rfl ?_
  refine R_load_mp (v := (V.sl (List.map cN (t.nd)))) (@rfl V (V.mp 1 1 0 0)) h1 (by first | rfl | simp [ldB, ldV, Blk.own, V.one]) ?_
  refine R_len (@rfl V (V.sl (List.map cN (t.nd)))) ?_
  refine R_mv (@rfl V (iV (0 : Int))) ?_
  exact R_nil ⟨t3, rfl, rfl, rfl, h1, h3, h5, trivial⟩
 intro T H ⟨t3, t7, t8, t9, h1, h3, h5, _⟩
 refine W_seq_blockg fun Q1 n1 x1 y1 z1 => ?_
 refine W_loop (fun mm T H => ∃ (k : Nat) (v : Nat) (v5 : Nat), mm = t.nd.length - k ∧ T 3 = (V.ms 3 v 0 ((acL (t.nd.take k)).length)) ∧ T 7 = (V.sl (List.map cN (t.nd))) ∧ T 8 = (iV ((t.nd.length : Nat) : Int)) ∧ T 9 = (iV ((k : Nat) : Int)) ∧ H 1 = (⟨1, true, false, 24, 1, [[(V.sl (List.map cN (t.nd)))]]⟩ : Blk) ∧ H 3 = (⟨v, true, true, 38, 1, (List.map cL (acL (t.nd.take k)))⟩ : Blk) ∧ (H 5).ver = v5 ∧ (k ≤ t.nd.length)) ?_ ?_
 ·
  refine ⟨_, 0, 1, 0, rfl, (Eq.trans t3 (by first | rfl | (rw [acL_take (by omega), if_pos (by assumption), List.length_append]; rfl) | (rw [acL_take (by omega), if_neg (by assumption), List.append_nil]; done) | simp)), t7, t8, (Eq.trans t9 (by first | rfl | (rw [acL_take (by omega), if_pos (by assumption), List.length_append]; rfl) | (rw [acL_take (by omega), if_neg (by assumption), List.append_nil]; done) | simp)), h1, (Eq.trans h3 (by first | rfl | (rw [acL_take (by omega), if_pos (by assumption)]; simp [cat]; done) | (rw [acL_take (by omega), if_neg (by assumption), List.append_nil]; done) | simp)), (congrArg Blk.ver h5), ?_⟩
  · omega
 intro mm T H ⟨k, v, v5, hmm, t3, t7, t8, t9, h1, h3, h5, hk⟩ Q2 p12 p22 p32
 unfold b37_0
 have q1 := acL_len (t.nd.take k)
 have q2 : (t.nd.take k).length ≤ k := by simp; omega
 refine W_seq_regc (fun T H => T 3 = (V.ms 3 v 0 ((acL (t.nd.take k)).length)) ∧ T 7 = (V.sl (List.map cN (t.nd))) ∧ T 8 = (iV ((t.nd.length : Nat) : Int)) ∧ T 9 = (iV ((k : Nat) : Int)) ∧ T 10 = (V.bool (decide (((k : Nat) : Int) < ((t.nd.length : Nat) : Int)))) ∧ H 1 = (⟨1, true, false, 24, 1, [[(V.sl (List.map cN (t.nd)))]]⟩ : Blk) ∧ H 3 = (⟨v, true, true, 38, 1, (List.map cL (acL (t.nd.take k)))⟩ : Blk) ∧ (H 5).ver = v5 ∧ True) ?_ ?_
 ·
  unfold r37_3
  refine R_lss (x := ((k : Nat) : Int)) (y := ((t.nd.length : Nat) : Int)) t9 t8 ?_
  exact R_nil ⟨t3, t7, t8, t9, rfl, h1, h3, h5, trivial⟩
 intro T H ⟨t3, t7, t8, t9, t10, h1, h3, h5, _⟩
 refine W_seq_if (p := ((k : Nat) : Int) < ((t.nd.length : Nat) : Int)) t10 (fun c3 => ?_) (fun c3 => ?_)
 ·
  have r1 := hb.ac k (by omega)
  refine W_seq_skip ?_
  refine W_seq_blockg fun Q4 n4 x4 y4 z4 => ?_
  refine W_seq_regc (fun T H => T 3 = (V.ms 3 v 0 ((acL (t.nd.take k)).length)) ∧ T 5 = (V.mp 5 (v5 + 1) 0 0) ∧ T 7 = (V.sl (List.map cN (t.nd))) ∧ T 8 = (iV ((t.nd.length : Nat) : Int)) ∧ T 9 = (iV ((k : Nat) : Int)) ∧ H 1 = (⟨1, true, false, 24, 1, [[(V.sl (List.map cN (t.nd)))]]⟩ : Blk) ∧ H 3 = (⟨v, true, true, 38, 1, (List.map cL (acL (t.nd.take k)))⟩ : Blk) ∧ H 5 = (⟨v5 + 1, true, false, 68, 5, [[(V.bool (((nth (t.nd) (k))).lf)), (V.sl (List.map cI (((nth (t.nd) (k))).ac))), (V.sl (List.map cI (((nth (t.nd) (k))).sf))), (V.sl (List.map cL (((nth (t.nd) (k))).ou))), (V.sl (List.map cI (((nth (t.nd) (k))).kd)))]]⟩ : Blk) ∧ True) ?_ ?_
  ·
   unfold r37_4
   refine R_idx (i := k) t7 t9 (by omega) rfl ?_
   refine R_load_pp (v := (V.agg [(V.bool (((nth (t.nd) (k))).lf)), (V.sl (List.map cI (((nth (t.nd) (k))).ac))), (V.sl (List.map cI (((nth (t.nd) (k))).sf))), (V.sl (List.map cL (((nth (t.nd) (k))).ou))), (V.sl (List.map cI (((nth (t.nd) (k))).kd)))])) (@rfl V (V.pp [(V.bool (((nth (t.nd) (k))).lf)), (V.sl (List.map cI (((nth (t.nd) (k))).ac))), (V.sl (List.map cI (((nth (t.nd) (k))).sf))), (V.sl (List.map cL (((nth (t.nd) (k))).ou))), (V.sl (List.map cI (((nth (t.nd) (k))).kd)))])) (by first | rfl | simp [ldV]) ?_
   refine R_alloc (i := 5) (n := v5) (m := 5) rfl h5 rfl ?_
   refine R_store (vs := [(V.bool (((nth (t.nd) (k))).lf)), (V.sl (List.map cI (((nth (t.nd) (k))).ac))), (V.sl (List.map cI (((nth (t.nd) (k))).sf))), (V.sl (List.map cL (((nth (t.nd) (k))).ou))), (V.sl (List.map cI (((nth (t.nd) (k))).kd)))]) (B' := (⟨v5 + 1, true, false, 68, 5, [[(V.bool (((nth (t.nd) (k))).lf)), (V.sl (List.map cI (((nth (t.nd) (k))).ac))), (V.sl (List.map cI (((nth (t.nd) (k))).sf))), (V.sl (List.map cL (((nth (t.nd) (k))).ou))), (V.sl (List.map cI (((nth (t.nd) (k))).kd)))]]⟩ : Blk)) (@rfl V (V.mp 5 (v5 + 1) 0 0)) (@rfl V (V.agg [(V.bool (((nth (t.nd) (k))).lf)), (V.sl (List.map cI (((nth (t.nd) (k))).ac))), (V.sl (List.map cI (((nth (t.nd) (k))).sf))), (V.sl (List.map cL (((nth (t.nd) (k))).ou))), (V.sl (List.map cI (((nth (t.nd) (k))).kd)))])) rfl (@rfl Blk (⟨v5 + 1, true, false, 68, 5, [[(V.bool false), V.nilsl, V.nilsl, V.nilsl, V.nilsl]]⟩ : Blk)) (by first | rfl | simp [stB, okB, Blk.own, putAt, V.one]) ?_
   exact R_nil ⟨t3, rfl, t7, t8, t9, h1, h3, rfl, trivial⟩
  intro T H ⟨t3, t5, t7, t8, t9, h1, h3, h5, _⟩
  refine W_seq_regc (fun T H => T 3 = (V.ms 3 v 0 ((acL (t.nd.take k)).length)) ∧ T 5 = (V.mp 5 (v5 + 1) 0 0) ∧ T 7 = (V.sl (List.map cN (t.nd))) ∧ T 8 = (iV ((t.nd.length : Nat) : Int)) ∧ T 9 = (iV ((k : Nat) : Int)) ∧ T 14 = (V.bool (((nth (t.nd) (k))).lf)) ∧ H 1 = (⟨1, true, false, 24, 1, [[(V.sl (List.map cN (t.nd)))]]⟩ : Blk) ∧ H 3 = (⟨v, true, true, 38, 1, (List.map cL (acL (t.nd.take k)))⟩ : Blk) ∧ H 5 = (⟨v5 + 1, true, false, 68, 5, [[(V.bool (((nth (t.nd) (k))).lf)), (V.sl (List.map cI (((nth (t.nd) (k))).ac))), (V.sl (List.map cI (((nth (t.nd) (k))).sf))), (V.sl (List.map cL (((nth (t.nd) (k))).ou))), (V.sl (List.map cI (((nth (t.nd) (k))).kd)))]]⟩ : Blk) ∧ True) ?_ ?_
  ·
   unfold r37_5
   refine R_fld_mp (o' := 0) t5 h5 (by first | rfl | simp [okB, Blk.own]) rfl ?_
   refine R_load_mp (v := (V.bool (((nth (t.nd) (k))).lf))) (@rfl V (V.mp 5 (v5 + 1) 0 0)) h5 (by first | rfl | simp [ldB, ldV, Blk.own, V.one]) ?_
   exact R_nil ⟨t3, t5, t7, t8, t9, rfl, h1, h3, h5, trivial⟩
  intro T H ⟨t3, t5, t7, t8, t9, t14, h1, h3, h5, _⟩
  refine W_ifb t14 (fun c5 => ?_) (fun c5 => ?_)
  ·
   have d1 : (nth t.nd k).lf = true := c5
   refine W_regc (fun T H => T 3 = (V.ms 3 (v + 1) 0 (((acL (t.nd.take k)).length) + 1)) ∧ T 7 = (V.sl (List.map cN (t.nd))) ∧ T 8 = (iV ((t.nd.length : Nat) : Int)) ∧ T 9 = (iV ((k : Nat) : Int)) ∧ H 1 = (⟨1, true, false, 24, 1, [[(V.sl (List.map cN (t.nd)))]]⟩ : Blk) ∧ H 3 = (⟨v + 1, true, true, 38, 1, (List.map cL (acL (t.nd.take k) ++ [cat ([((nth (t.nd) (k))).ac])]))⟩ : Blk) ∧ H 5 = (⟨v5 + 1, true, false, 68, 5, [[(V.bool (((nth (t.nd) (k))).lf)), (V.sl (List.map cI (((nth (t.nd) (k))).ac))), (V.sl (List.map cI (((nth (t.nd) (k))).sf))), (V.sl (List.map cL (((nth (t.nd) (k))).ou))), (V.sl (List.map cI (((nth (t.nd) (k))).kd)))]]⟩ : Blk) ∧ True) ?_ ?_
   ·
    unfold r37_6
    refine R_mv t3 ?_
    refine R_fld_mp (o' := 1) t5 h5 (by first | rfl | simp [okB, Blk.own]) rfl ?_
    refine R_load_mp (v := (V.sl (List.map cI (((nth (t.nd) (k))).ac)))) (@rfl V (V.mp 5 (v5 + 1) 0 1)) h5 (by first | rfl | simp [ldB, ldV, Blk.own, V.one]) ?_
    refine R_bslice (qs := [(0, (V.sl (List.map cI (((nth (t.nd) (k))).ac))))]) (rows := [[(V.sl (List.map cI (((nth (t.nd) (k))).ac)))]]) (mcons (congrArg (fun v => (0, v)) (@rfl V (V.sl (List.map cI (((nth (t.nd) (k))).ac))))) rfl) rfl ?_
    refine R_call (evcons (@rfl V (V.sl [[(V.sl (List.map cI (((nth (t.nd) (k))).ac)))]])) evnil) (pjoin_pure ([((nth (t.nd) (k))).ac]) (by simp [cat]; omega)) (fzv_mapcanon _ _ (by simp [-List.map_take, -List.map_drop, -List.map_append, -List.map_reverse])) (by simp [-List.map_take, -List.map_drop, -List.map_append, -List.map_reverse]) (Or.inl (by simp [-List.map_take, -List.map_drop, -List.map_append, -List.map_reverse])) ?_
    refine R_bslice (qs := [(0, (V.sl (List.map cI (cat ([((nth (t.nd) (k))).ac])))))]) (rows := [[(V.sl (List.map cI (cat ([((nth (t.nd) (k))).ac]))))]]) (mcons (congrArg (fun v => (0, v)) (@rfl V (V.sl (List.map cI (cat ([((nth (t.nd) (k))).ac])))))) rfl) rfl ?_
    refine R_append1 (l := (acL (t.nd.take k))) (f := cL) (x := (cat ([((nth (t.nd) (k))).ac]))) (@rfl V (V.ms 3 v 0 ((acL (t.nd.take k)).length))) h3 (by first | rfl | simp | omega) (@rfl V (V.sl [[(V.sl (List.map cI (cat ([((nth (t.nd) (k))).ac]))))]])) rfl rfl (by omega) (by omega) ?_
    refine R_mv (@rfl V (V.ms 3 (v + 1) 0 (((acL (t.nd.take k)).length) + 1))) ?_
    exact R_nil ⟨rfl, t7, t8, t9, h1, rfl, h5, trivial⟩
   intro T H ⟨t3, t7, t8, t9, h1, h3, h5, _⟩
   refine n4 _ _ ?_
   refine .done ?_
   refine W_regc (fun T H => T 3 = (V.ms 3 (v + 1) 0 (((acL (t.nd.take k)).length) + 1)) ∧ T 7 = (V.sl (List.map cN (t.nd))) ∧ T 8 = (iV ((t.nd.length : Nat) : Int)) ∧ T 9 = (iV ((k + 1 : Nat) : Int)) ∧ H 1 = (⟨1, true, false, 24, 1, [[(V.sl (List.map cN (t.nd)))]]⟩ : Blk) ∧ H 3 = (⟨v + 1, true, true, 38, 1, (List.map cL (acL (t.nd.take k) ++ [cat ([((nth (t.nd) (k))).ac])]))⟩ : Blk) ∧ H 5 = (⟨v5 + 1, true, false, 68, 5, [[(V.bool (((nth (t.nd) (k))).lf)), (V.sl (List.map cI (((nth (t.nd) (k))).ac))), (V.sl (List.map cI (((nth (t.nd) (k))).sf))), (V.sl (List.map cL (((nth (t.nd) (k))).ou))), (V.sl (List.map cI (((nth (t.nd) (k))).kd)))]]⟩ : Blk) ∧ True) ?_ ?_
   ·
    unfold r37_7
    refine R_addN (m := k) (n := 1) t9 (@rfl V (iV ((1 : Nat) : Int))) (by omega) ?_
    refine R_mv (@rfl V (iV ((k + 1 : Nat) : Int))) ?_
    exact R_nil ⟨t3, t7, t8, rfl, h1, h3, h5, trivial⟩
   intro T H ⟨t3, t7, t8, t9, h1, h3, h5, _⟩
   refine p12 _ _ _ ?_ ⟨(k + 1), (v + 1), (v5 + 1), rfl, (Eq.trans t3 (by first | rfl | (rw [acL_take (by omega), if_pos (by assumption), List.length_append]; rfl) | (rw [acL_take (by omega), if_neg (by assumption), List.append_nil]; done) | simp)), t7, t8, (Eq.trans t9 (by first | rfl | (rw [acL_take (by omega), if_pos (by assumption), List.length_append]; rfl) | (rw [acL_take (by omega), if_neg (by assumption), List.append_nil]; done) | simp)), h1, (Eq.trans h3 (by first | rfl | (rw [acL_take (by omega), if_pos (by assumption)]; simp [cat]; done) | (rw [acL_take (by omega), if_neg (by assumption), List.append_nil]; done) | simp)), (congrArg Blk.ver h5), ?_⟩
   · omega
   · omega
  have d1 : ¬(nth t.nd k).lf = true := by simpa using c5
  refine W_skip ?_
  refine n4 _ _ ?_
  refine .done ?_
  refine W_regc (fun T H => T 3 = (V.ms 3 v 0 ((acL (t.nd.take k)).length)) ∧ T 7 = (V.sl (List.map cN (t.nd))) ∧ T 8 = (iV ((t.nd.length : Nat) : Int)) ∧ T 9 = (iV ((k + 1 : Nat) : Int)) ∧ H 1 = (⟨1, true, false, 24, 1, [[(V.sl (List.map cN (t.nd)))]]⟩ : Blk) ∧ H 3 = (⟨v, true, true, 38, 1, (List.map cL (acL (t.nd.take k)))⟩ : Blk) ∧ H 5 = (⟨v5 + 1, true, false, 68, 5, [[(V.bool (((nth (t.nd) (k))).lf)), (V.sl (List.map cI (((nth (t.nd) (k))).ac))), (V.sl (List.map cI (((nth (t.nd) (k))).sf))), (V.sl (List.map cL (((nth (t.nd) (k))).ou))), (V.sl (List.map cI (((nth (t.nd) (k))).kd)))]]⟩ : Blk) ∧ True) ?_ ?_
  ·
   unfold r37_7
   refine R_addN (m := k) (n := 1) t9 (@rfl V (iV ((1 : Nat) : Int))) (by omega) ?_
   refine R_mv (@rfl V (iV ((k + 1 : Nat) : Int))) ?_
   exact R_nil ⟨t3, t7, t8, rfl, h1, h3, h5, trivial⟩
  intro T H ⟨t3, t7, t8, t9, h1, h3, h5, _⟩
  refine p12 _ _ _ ?_ ⟨(k + 1), v, (v5 + 1), rfl, (Eq.trans t3 (by first | rfl | (rw [acL_take (by omega), if_pos (by assumption), List.length_append]; rfl) | (rw [acL_take (by omega), if_neg (by assumption), List.append_nil]; done) | simp)), t7, t8, (Eq.trans t9 (by first | rfl | (rw [acL_take (by omega), if_pos (by assumption), List.length_append]; rfl) | (rw [acL_take (by omega), if_neg (by assumption), List.append_nil]; done) | simp)), h1, (Eq.trans h3 (by first | rfl | (rw [acL_take (by omega), if_pos (by assumption)]; simp [cat]; done) | (rw [acL_take (by omega), if_neg (by assumption), List.append_nil]; done) | simp)), (congrArg Blk.ver h5), ?_⟩
  · omega
  · omega
 refine W_seq_exit ?_
 refine p32 _ _ _ ?_
 refine x1 _ _ ?_
 refine .done ?_
 refine W_seq_regc (fun T H => T 2 = (V.ms 3 v 0 ((acL (t.nd.take k)).length)) ∧ H 1 = (⟨1, true, false, 24, 1, [[(V.sl (List.map cN (t.nd)))]]⟩ : Blk) ∧ H 3 = (⟨v, true, true, 38, 1, (List.map cL (acL (t.nd.take k)))⟩ : Blk) ∧ (H 5).ver = v5 ∧ True) ?_ ?_
 ·
  unfold r37_8
  refine R_mv t3 ?_
  refine R_mv (@rfl V (V.ms 3 v 0 ((acL (t.nd.take k)).length))) ?_
  exact R_nil ⟨rfl, h1, h3, h5, trivial⟩
 intro T H ⟨t2, h1, h3, h5, _⟩
 refine W_ret ?_
 refine Ret_1 t2 (fz_ms h3 (by first | rfl | simp) (l := (acL (t.nd.take k))) rfl (by first | rfl | simp | omega) (fun _ => by simp) ?_)
 · rw [show k = t.nd.length by omega, List.take_length]
end Go.Proofs.YtmnjchcoigbngaaGreat


namespace Go.Proofs.YtmnjchcoigbngaaGreat
open Go Go.Proofs
theorem cmpor_pure (l : List Int) (hl : l.length < 4294967296) : PureC Tryz.prog 106 [(V.sl (List.map cI (l)))] (iV (orI l)) := by
 refine pure_of_Wb true 6 Tryz.func106 s106_ok (by kernel_rfl) (by simp [s106]) (by simp) (by simp) fun hB => ?_
 simp only [bnd_map, bnd_int, bnd_bool, bnd_str, bnd_agg, bnd_pp, bnd_nil, bnd_cons, implies_true, and_true, true_and] at hB
 unfold s106
 dsimp only
 refine W_seq_regc (fun T H => T 0 = (V.sl (List.map cI (l))) ∧ True) ?_ ?_
 ·
  unfold r106_0
  refine R_mv (@rfl V (iV (0 : Int))) ?_
  exact R_nil ⟨rfl, trivial⟩
 intro T H ⟨t0, _⟩
 refine W_seq_regc (fun T H => T 0 = (V.sl (List.map cI (l))) ∧ T 3 = (iV (0 : Int)) ∧ True) ?_ ?_
 ·
  unfold r106_1
  refine R_mv (@rfl V (iV (0 : Int))) ?_
  exact R_nil ⟨t0, rfl, trivial⟩
 intro T H ⟨t0, t3, _⟩
 refine W_seq_seq ?_
 refine W_seq_regc (fun T H => T 3 = (iV (0 : Int)) ∧ T 6 = (V.sl (List.map cI (l))) ∧ T 7 = (iV ((l.length : Nat) : Int)) ∧ T 8 = (iV (0 : Int)) ∧ True) ?_ ?_
 ·
  unfold r106_2
  refine R_mv t0 ?_
  refine R_len (@rfl V (V.sl (List.map cI (l)))) ?_
  refine R_mv (@rfl V (iV (0 : Int))) ?_
  exact R_nil ⟨t3, rfl, rfl, rfl, trivial⟩
 intro T H ⟨t3, t6, t7, t8, _⟩
 refine W_seq_blockg fun Q1 n1 x1 y1 z1 => ?_
 refine W_loop (fun mm T H => ∃ (k : Nat), mm = l.length - k ∧ T 3 = (iV (0 : Int)) ∧ T 6 = (V.sl (List.map cI (l))) ∧ T 7 = (iV ((l.length : Nat) : Int)) ∧ T 8 = (iV ((k : Nat) : Int)) ∧ (k ≤ l.length) ∧ (orI l = orI (l.drop k))) ?_ ?_
 ·
  refine ⟨_, 0, rfl, t3, t6, t7, (Eq.trans t8 (by first | rfl | simp)), ?_, ?_⟩
  · omega
  · rfl
 intro mm T H ⟨k, hmm, t3, t6, t7, t8, hk, hc⟩ Q2 p12 p22 p32
 unfold b106_0
 refine W_seq_regc (fun T H => T 3 = (iV (0 : Int)) ∧ T 6 = (V.sl (List.map cI (l))) ∧ T 7 = (iV ((l.length : Nat) : Int)) ∧ T 8 = (iV ((k : Nat) : Int)) ∧ T 9 = (V.bool (decide (((k : Nat) : Int) < ((l.length : Nat) : Int)))) ∧ True) ?_ ?_
 ·
  unfold r106_3
  refine R_lss (x := ((k : Nat) : Int)) (y := ((l.length : Nat) : Int)) t8 t7 ?_
  exact R_nil ⟨t3, t6, t7, t8, rfl, trivial⟩
 intro T H ⟨t3, t6, t7, t8, t9, _⟩
 refine W_seq_if (p := ((k : Nat) : Int) < ((l.length : Nat) : Int)) t9 (fun c3 => ?_) (fun c3 => ?_)
 ·
  refine W_seq_skip ?_
  refine W_seq_blockg fun Q4 n4 x4 y4 z4 => ?_
  refine W_seq_regc (fun T H => T 3 = (iV (0 : Int)) ∧ T 5 = (iV ((nth (l) (k)))) ∧ T 6 = (V.sl (List.map cI (l))) ∧ T 7 = (iV ((l.length : Nat) : Int)) ∧ T 8 = (iV ((k : Nat) : Int)) ∧ True) ?_ ?_
  ·
   unfold r106_4
   refine R_idx (i := k) t6 t8 (by omega) rfl ?_
   refine R_load_pp (v := (iV ((nth (l) (k))))) (@rfl V (V.pp [(iV ((nth (l) (k))))])) (by first | rfl | simp [ldV]) ?_
   refine R_mv (@rfl V (iV ((nth (l) (k))))) ?_
   exact R_nil ⟨t3, rfl, t6, t7, t8, trivial⟩
  intro T H ⟨t3, t5, t6, t7, t8, _⟩
  refine W_seq_regc (fun T H => T 3 = (iV (0 : Int)) ∧ T 5 = (iV ((nth (l) (k)))) ∧ T 6 = (V.sl (List.map cI (l))) ∧ T 7 = (iV ((l.length : Nat) : Int)) ∧ T 8 = (iV ((k : Nat) : Int)) ∧ T 14 = (V.bool (decide (((nth (l) (k))) ≠ (0 : Int)))) ∧ True) ?_ ?_
  ·
   unfold r106_5
   refine R_mv t5 ?_
   refine R_mv t3 ?_
   refine R_neq (x := ((nth (l) (k)))) (y := (0 : Int)) (@rfl V (iV ((nth (l) (k))))) (@rfl V (iV (0 : Int))) ?_
   exact R_nil ⟨t3, t5, t6, t7, t8, rfl, trivial⟩
  intro T H ⟨t3, t5, t6, t7, t8, t14, _⟩
  refine W_if (p := ((nth (l) (k))) ≠ (0 : Int)) t14 (fun c5 => ?_) (fun c5 => ?_)
  ·
   refine W_seq_regc (fun T H => T 2 = (iV ((nth (l) (k)))) ∧ True) ?_ ?_
   ·
    unfold r106_6
    refine R_mv t5 ?_
    refine R_mv (@rfl V (iV ((nth (l) (k))))) ?_
    exact R_nil ⟨rfl, trivial⟩
   intro T H ⟨t2, _⟩
   refine W_ret ?_
   refine y4 _ _ ?_
   refine p22 _ _ ?_
   refine y1 _ _ ?_
   refine Ret_1 t2 (fz_int ?_)
   · rw [hc, orI_drop (by omega), if_neg (by omega)]
  refine W_skip ?_
  refine n4 _ _ ?_
  refine .done ?_
  refine W_regc (fun T H => T 3 = (iV (0 : Int)) ∧ T 6 = (V.sl (List.map cI (l))) ∧ T 7 = (iV ((l.length : Nat) : Int)) ∧ T 8 = (iV ((k + 1 : Nat) : Int)) ∧ True) ?_ ?_
  ·
   unfold r106_7
   refine R_addN (m := k) (n := 1) t8 (@rfl V (iV ((1 : Nat) : Int))) (by omega) ?_
   refine R_mv (@rfl V (iV ((k + 1 : Nat) : Int))) ?_
   exact R_nil ⟨t3, t6, t7, rfl, trivial⟩
  intro T H ⟨t3, t6, t7, t8, _⟩
  refine p12 _ _ _ ?_ ⟨(k + 1), rfl, t3, t6, t7, (Eq.trans t8 (by first | rfl | simp)), ?_, ?_⟩
  · omega
  · omega
  · rw [hc, orI_drop (by omega), if_pos (by omega)]
 refine W_seq_exit ?_
 refine p32 _ _ _ ?_
 refine x1 _ _ ?_
 refine .done ?_
 refine W_seq_regc (fun T H => T 2 = (iV (0 : Int)) ∧ True) ?_ ?_
 ·
  unfold r106_8
  refine R_mv t3 ?_
  refine R_mv (@rfl V (iV (0 : Int))) ?_
  exact R_nil ⟨rfl, trivial⟩
 intro T H ⟨t2, _⟩
 refine W_ret ?_
 refine Ret_1 t2 (fz_int ?_)
 · rw [hc, List.drop_of_length_le (by omega)]; rfl
end Go.Proofs.YtmnjchcoigbngaaGreat


namespace Go.Proofs.YtmnjchcoigbngaaGreat
open Go Go.Proofs
theorem compare_pure (a b : List Int) : PureC Tryz.prog 75 [(V.sl (List.map cI (a))), (V.sl (List.map cI (b)))] (iV (slx a b)) := by
 refine pure_of_Wb true 6 Tryz.func75 s75_ok (by kernel_rfl) (by simp [s75]) (by simp) (by simp) fun hB => ?_
 simp only [bnd_map, bnd_int, bnd_bool, bnd_str, bnd_agg, bnd_pp, bnd_nil, bnd_cons, implies_true, and_true, true_and] at hB
 unfold s75
 dsimp only
 refine W_seq_regc (fun T H => T 0 = (V.sl (List.map cI (a))) ∧ T 1 = (V.sl (List.map cI (b))) ∧ True) ?_ ?_
 ·
  unfold r75_0
  refine R_mv (@rfl V (iV (0 : Int))) ?_
  exact R_nil ⟨rfl, rfl, trivial⟩
 intro T H ⟨t0, t1, _⟩
 refine W_seq_regc (fun T H => T 4 = (iV (orI ([(cmpI (((a.length : Nat) : Int)) (((b.length : Nat) : Int))), (lexI a b)]))) ∧ True) ?_ ?_
 ·
  unfold r75_1
  refine R_mv t0 ?_
  refine R_len (@rfl V (V.sl (List.map cI (a)))) ?_
  refine R_mv t1 ?_
  refine R_len (@rfl V (V.sl (List.map cI (b)))) ?_
  refine R_call (evcons (@rfl V (iV ((a.length : Nat) : Int))) (evcons (@rfl V (iV ((b.length : Nat) : Int))) evnil)) (cmpint_pure (((a.length : Nat) : Int)) (((b.length : Nat) : Int))) (fzv_mapcanon _ _ (by simp [-List.map_take, -List.map_drop, -List.map_append, -List.map_reverse])) (by simp [-List.map_take, -List.map_drop, -List.map_append, -List.map_reverse]) (Or.inl (by simp [-List.map_take, -List.map_drop, -List.map_append, -List.map_reverse])) ?_
  refine R_mv t0 ?_
  refine R_mv t1 ?_
  refine R_call (evcons (@rfl V (V.sl (List.map cI (a)))) (evcons (@rfl V (V.sl (List.map cI (b)))) evnil)) (scompare_pure a b) (fzv_mapcanon _ _ (by simp [-List.map_take, -List.map_drop, -List.map_append, -List.map_reverse])) (by simp [-List.map_take, -List.map_drop, -List.map_append, -List.map_reverse]) (Or.inl (by simp [-List.map_take, -List.map_drop, -List.map_append, -List.map_reverse])) ?_
  refine R_bslice (qs := [(0, (iV (cmpI (((a.length : Nat) : Int)) (((b.length : Nat) : Int))))), (1, (iV (lexI a b)))]) (rows := [[(iV (cmpI (((a.length : Nat) : Int)) (((b.length : Nat) : Int))))], [(iV (lexI a b))]]) (mcons (congrArg (fun v => (0, v)) (@rfl V (iV (cmpI (((a.length : Nat) : Int)) (((b.length : Nat) : Int)))))) (mcons (congrArg (fun v => (1, v)) (@rfl V (iV (lexI a b)))) rfl)) rfl ?_
  refine R_call (evcons (@rfl V (V.sl [[(iV (cmpI (((a.length : Nat) : Int)) (((b.length : Nat) : Int))))], [(iV (lexI a b))]])) evnil) (cmpor_pure ([(cmpI (((a.length : Nat) : Int)) (((b.length : Nat) : Int))), (lexI a b)]) (by simp)) (fzv_mapcanon _ _ (by simp [-List.map_take, -List.map_drop, -List.map_append, -List.map_reverse])) (by simp [-List.map_take, -List.map_drop, -List.map_append, -List.map_reverse]) (Or.inl (by simp [-List.map_take, -List.map_drop, -List.map_append, -List.map_reverse])) ?_
  refine R_mv (@rfl V (iV (orI ([(cmpI (((a.length : Nat) : Int)) (((b.length : Nat) : Int))), (lexI a b)])))) ?_
  exact R_nil ⟨rfl, trivial⟩
 intro T H ⟨t4, _⟩
 refine W_ret ?_
 refine Ret_1 t4 (fz_int ?_)
 · simp only [orI, cmpI, slx]; repeat (split <;> first | rfl | omega | skip)
end Go.Proofs.YtmnjchcoigbngaaGreat


namespace Go.Proofs.YtmnjchcoigbngaaGreat
open Go Go.Proofs
theorem clonew_E (l : List (List Int)) (v2 : Nat) (Hi : Heap) (h202 : (Hi 202).ver = v2) (hl : l.length ≤ 1073741824) : CallOK Tryz.prog 102 [(V.sl (List.map cL (l)))] Hi (V.ms 202 (v2 + 3) 0 (l.length)) (upd Hi 202 (⟨v2 + 3, true, true, 38, 1, (List.map cL (l))⟩ : Blk)) := by
 refine CallOK_of_Wf (k0 := 200) Tryz.func102 s102_ok (by kernel_rfl) (by simp [s102]) fun hB => ?_
 simp only [bnd_map, bnd_int, bnd_bool, bnd_str, bnd_agg, bnd_pp, bnd_nil, bnd_cons, implies_true, and_true, true_and] at hB
 unfold s102
 dsimp only
 refine W_seq_regc (fun T H => T 0 = (V.sl (List.map cL (l))) ∧ (∀ j, j ∉ [202] → H j = Hi j) ∧ H 202 = (⟨v2 + 1, true, true, 38, 1, []⟩ : Blk) ∧ True) ?_ ?_
 ·
  unfold r102_0
  refine R_lazy (i := 202) (n := v2) (by rfl) h202 ?_
  exact R_nil ⟨rfl, (upd_out (fun _ _ => rfl) (by decide)), rfl, trivial⟩
 intro T H ⟨t0, hF, h202, _⟩
 refine W_seq_seq ?_
 refine W_seq_reg fun K hK => ?_
 unfold r102_1
 refine R_mv t0 ?_
 refine R_isnil_sl (@rfl V (V.sl (List.map cL (l)))) (fun e1 => ?_) ?_
 ·
  replace e1 := List.map_eq_nil_iff.1 e1
  refine R_nil (hK _ _ ?_); clear hK K
  refine fork_ (R := fun T H => T 0 = (V.sl (List.map cL (l))) ∧ T 4 = (V.bool true) ∧ (∀ j, j ∉ [202] → H j = Hi j) ∧ H 202 = (⟨v2 + 1, true, true, 38, 1, []⟩ : Blk) ∧ True) ⟨t0, rfl, hF, h202, trivial⟩ ?_
  intro T H ⟨t0, t4, hF, h202, _⟩
  refine W_seq_ifb t4 (fun c4 => ?_) (fun c4 => ?_)
  ·
   refine W_seq_seq ?_
   refine W_seq_regc (fun T H => T 2 = (V.ms 202 (v2 + 2) 0 (0)) ∧ (∀ j, j ∉ [202] → H j = Hi j) ∧ H 202 = (⟨v2 + 2, true, true, 38, 1, []⟩ : Blk) ∧ True) ?_ ?_
   ·
    unfold r102_2
    refine R_lazy (i := 202) (n := (v2 + 1)) (by rfl) (congrArg Blk.ver h202) ?_
    exact R_nil ⟨rfl, (upd_out hF (by decide)), rfl, trivial⟩
   intro T H ⟨t2, hF, h202, _⟩
   refine W_seq_ret ?_
   have fh := FinX.fin (FinX.put (B := (⟨v2 + 3, true, true, 38, 1, (List.map cL (l))⟩ : Blk)) (FinX.start hF) h202 (FinB.up (by omega) (by first | rfl | (rw [e1]; rfl) | simp)))
   exact RetF_1 t2 fh (FinV.trans_eq (FinV.ms (n := (v2 + 3)) fh (by simp [h202]) (by simp [h202]) rfl rfl) (by first | rfl | (rw [e1]; rfl) | simp))
  · cases c4
 ·
  refine R_nil (hK _ _ ?_); clear hK K
  refine fork_ (R := fun T H => T 0 = (V.sl (List.map cL (l))) ∧ T 4 = (V.bool false) ∧ (∀ j, j ∉ [202] → H j = Hi j) ∧ H 202 = (⟨v2 + 1, true, true, 38, 1, []⟩ : Blk) ∧ True) ⟨t0, rfl, hF, h202, trivial⟩ ?_
  intro T H ⟨t0, t4, hF, h202, _⟩
  refine W_seq_ifb t4 (fun c7 => ?_) (fun c7 => ?_)
  · cases c7
  refine W_seq_skip ?_
  refine W_seq_gk 197 (fun T H => T 2 = (V.ms 202 (v2 + 3) 0 (0 + (l).length)) ∧ (∀ j, j ∉ [202] → H j = Hi j) ∧ H 202 = (⟨v2 + 3, true, true, 38, 1, (List.map cL ([] ++ l))⟩ : Blk) ∧ True) ?_ ?_
  ·
   unfold r102_3
   refine R_lazy (i := 202) (n := (v2 + 1)) (by rfl) (congrArg Blk.ver h202) ?_
   refine R_mv t0 ?_
   refine R_appendS (l := ([])) (m := l) (f := cL) (@rfl V (V.ms 202 (v2 + 2) 0 (0))) (show _ = (⟨v2 + 2, true, true, 38, 1, (List.map cL ([]))⟩ : Blk) from (@rfl Blk (⟨v2 + 2, true, true, 38, 1, []⟩ : Blk))) (by first | rfl | simp) (@rfl V (V.sl (List.map cL (l)))) (fun _ => rfl) (fun _ => rfl) (by omega) (by omega) ?_
   refine R_mv (@rfl V (V.ms 202 (v2 + 3) 0 (0 + (l).length))) ?_
   exact R_nil ⟨rfl, (upd_out (upd_out hF (by decide)) (by decide)), rfl, trivial⟩
  intro T H ⟨t2, hF, h202, _⟩
  refine .done ?_
  refine W_ret ?_
  have fh := FinX.fin (FinX.put (B := (⟨v2 + 3, true, true, 38, 1, (List.map cL (l))⟩ : Blk)) (FinX.start hF) h202 (FinB.eq (by first | rfl | (rw [e1]; rfl) | simp)))
  exact RetF_1 t2 fh (FinV.trans_eq (FinV.same fh _) (by first | rfl | (rw [e1]; rfl) | simp))
end Go.Proofs.YtmnjchcoigbngaaGreat


namespace Go.Proofs.YtmnjchcoigbngaaGreat
open Go Go.Proofs
theorem ord1_pure (a b : List Int) : PureC Tryz.prog 105 [(V.sl (List.map cI (a))), (V.sl (List.map cI (b))), (V.pp [(V.fn 75 [] [])])] (V.bool (decide (slx a b = 0))) := by
 refine pure_of_Wb true 6 Tryz.func105 s105_ok (by kernel_rfl) (by simp [s105]) (by simp) (by simp) fun hB => ?_
 simp only [bnd_map, bnd_int, bnd_bool, bnd_str, bnd_agg, bnd_pp, bnd_nil, bnd_cons, implies_true, and_true, true_and] at hB
 unfold s105
 dsimp only
 refine W_seq_regc (fun T H => T 0 = (V.sl (List.map cI (a))) ∧ T 1 = (V.sl (List.map cI (b))) ∧ T 2 = (V.pp [(V.fn 75 [] [])]) ∧ True) ?_ ?_
 ·
  unfold r105_0
  refine R_mv (@rfl V (V.bool false)) ?_
  exact R_nil ⟨rfl, rfl, rfl, trivial⟩
 intro T H ⟨t0, t1, t2, _⟩
 refine W_seq_regc (fun T H => T 5 = (V.bool (decide ((slx a b) = (0 : Int)))) ∧ True) ?_ ?_
 ·
  unfold r105_1
  refine R_load_pp (v := (V.fn 75 [] [])) t2 (by first | rfl | simp [ldV]) ?_
  refine R_mv t0 ?_
  refine R_mv t1 ?_
  refine R_callv (@rfl V (V.fn 75 [] [])) (evcons (@rfl V (V.sl (List.map cI (a)))) (evcons (@rfl V (V.sl (List.map cI (b)))) evnil)) (compare_pure a b) (fzv_mapcanon _ _ (by simp [-List.map_take, -List.map_drop, -List.map_append, -List.map_reverse])) (by simp [-List.map_take, -List.map_drop, -List.map_append, -List.map_reverse]) (Or.inl (by simp [-List.map_take, -List.map_drop, -List.map_append, -List.map_reverse])) ?_
  refine R_eql (x := (slx a b)) (y := (0 : Int)) (@rfl V (iV (slx a b))) (@rfl V (iV (0 : Int))) ?_
  refine R_mv (@rfl V (V.bool (decide ((slx a b) = (0 : Int))))) ?_
  exact R_nil ⟨rfl, trivial⟩
 intro T H ⟨t5, _⟩
 refine W_ret ?_
 refine Ret_1 t5 (fz_bool ?_)
 · rfl
end Go.Proofs.YtmnjchcoigbngaaGreat


namespace Go.Proofs.YtmnjchcoigbngaaGreat
open Go Go.Proofs
theorem compw_E (l : List (List Int)) (v2 v3 len : Nat) (Hi : Heap) (h202 : Hi 202 = (⟨v2, true, true, 38, 1, (List.map cL (l))⟩ : Blk)) (h3 : Hi 3 = (⟨v3, true, false, 77, 1, [[(V.fn 75 [] [])]]⟩ : Blk)) (hn : len = l.length) (hl : l.length ≤ 1073741824) : CallOK Tryz.prog 104 [(V.ms 202 v2 0 (len)), (V.fn 105 [] [(V.mp 3 v3 0 0)])] Hi (V.ms 202 v2 0 ((ddK l l.length).length)) (upd Hi 202 (⟨v2, true, true, 38, 1, (List.map cL (ddK l l.length) ++ List.replicate (l.length - (ddK l l.length).length) [V.nilsl])⟩ : Blk)) := by
 refine CallOK_of_Wf (k0 := 400) Tryz.func104 s104_ok (by kernel_rfl) (by simp [s104]) fun hB => ?_
 simp only [bnd_map, bnd_int, bnd_bool, bnd_str, bnd_agg, bnd_pp, bnd_nil, bnd_cons, implies_true, and_true, true_and] at hB
 unfold s104
 dsimp only
 refine W_seq_regc (fun T H => T 0 = (V.ms 202 v2 0 (len)) ∧ T 1 = (V.fn 105 [] [(V.mp 3 v3 0 0)]) ∧ (∀ j, j ∉ [202] → H j = Hi j) ∧ H 3 = (⟨v3, true, false, 77, 1, [[(V.fn 75 [] [])]]⟩ : Blk) ∧ H 202 = (⟨v2, true, true, 38, 1, (List.map cL (l))⟩ : Blk) ∧ True) ?_ ?_
 ·
  unfold r104_0
  refine R_mv (@rfl V V.nilsl) ?_
  exact R_nil ⟨rfl, rfl, (fun _ _ => rfl), h3, h202, trivial⟩
 intro T H ⟨t0, t1, hF, h3, h202, _⟩
 refine W_seq_seq ?_
 refine W_seq_regc (fun T H => T 0 = (V.ms 202 v2 0 (len)) ∧ T 1 = (V.fn 105 [] [(V.mp 3 v3 0 0)]) ∧ T 10 = (V.bool (decide (((len : Nat) : Int) < (2 : Int)))) ∧ (∀ j, j ∉ [202] → H j = Hi j) ∧ H 3 = (⟨v3, true, false, 77, 1, [[(V.fn 75 [] [])]]⟩ : Blk) ∧ H 202 = (⟨v2, true, true, 38, 1, (List.map cL (l))⟩ : Blk) ∧ True) ?_ ?_
 ·
  unfold r104_1
  refine R_mv t0 ?_
  refine R_len_ms (@rfl V (V.ms 202 v2 0 (len))) h202 (by first | rfl | simp) ?_
  refine R_lss (x := ((len : Nat) : Int)) (y := (2 : Int)) (@rfl V (iV ((len : Nat) : Int))) (@rfl V (iV (2 : Int))) ?_
  exact R_nil ⟨t0, t1, rfl, hF, h3, h202, trivial⟩
 intro T H ⟨t0, t1, t10, hF, h3, h202, _⟩
 refine W_seq_if (p := ((len : Nat) : Int) < (2 : Int)) t10 (fun c1 => ?_) (fun c1 => ?_)
 ·
  refine W_seq_seq ?_
  refine W_seq_regc (fun T H => T 4 = (V.ms 202 v2 0 (len)) ∧ (∀ j, j ∉ [202] → H j = Hi j) ∧ H 3 = (⟨v3, true, false, 77, 1, [[(V.fn 75 [] [])]]⟩ : Blk) ∧ H 202 = (⟨v2, true, true, 38, 1, (List.map cL (l))⟩ : Blk) ∧ True) ?_ ?_
  ·
   unfold r104_2
   refine R_mv t0 ?_
   refine R_mv (@rfl V (V.ms 202 v2 0 (len))) ?_
   exact R_nil ⟨rfl, hF, h3, h202, trivial⟩
  intro T H ⟨t4, hF, h3, h202, _⟩
  refine W_seq_ret ?_
  have hall := dd_all (l := l) (fun i i1 i2 => by omega)
  have fh := FinX.fin (FinX.put (B := (⟨v2, true, true, 38, 1, (List.map cL (ddK l l.length) ++ List.replicate (l.length - (ddK l l.length).length) [V.nilsl])⟩ : Blk)) (FinX.start hF) h202 (FinB.eq (by first | rfl | (rw [hd.2]; done) | (rw [hall]; simp; done) | (rw [q5.1, ddL_keep (show k + j < l.length by omega) (.inr d5)]; rfl) | (rw [q5.1, ddL_keep (show k + j < l.length by omega) (.inr d5)]; done) | (show _ = (⟨_, _, _, _, _, List.map cL (ddL l ((k + j) + 1))⟩ : Blk); rw [ddL_skip (by rintro (q | q); omega; exact q d5)]; done) | (rw [dd_take (show l.length ≤ k + j by omega) hj, show k + j = l.length by omega]; done) | (rw [dd_take (show l.length ≤ k + j by omega) hj, show k + j = l.length by omega, hn]; done))))
  exact RetF_1 t4 fh (FinV.trans_eq (FinV.same fh _) (by first | rfl | (rw [hd.1]; done) | (rw [hall, hn]; done) | (rw [hall]; done) | (show _ = iV (((ddK l ((k + j) + 1)).length : Nat) : Int); rw [ddK_keep (.inr d5), List.length_append]; rfl) | (show _ = iV (((ddK l ((k + j) + 1)).length : Nat) : Int); rw [ddK_skip (by rintro (q | q); omega; exact q d5)]; done) | (rw [show k + j = l.length by omega]; done)))
 refine W_seq_skip ?_
 refine W_seq_seq ?_
 refine W_seq_regc (fun T H => T 0 = (V.ms 202 v2 0 (len)) ∧ T 1 = (V.fn 105 [] [(V.mp 3 v3 0 0)]) ∧ T 5 = (iV (1 : Int)) ∧ (∀ j, j ∉ [202] → H j = Hi j) ∧ H 3 = (⟨v3, true, false, 77, 1, [[(V.fn 75 [] [])]]⟩ : Blk) ∧ H 202 = (⟨v2, true, true, 38, 1, (List.map cL (l))⟩ : Blk) ∧ True) ?_ ?_
 ·
  unfold r104_3
  refine R_mv (@rfl V (iV (1 : Int))) ?_
  exact R_nil ⟨t0, t1, rfl, hF, h3, h202, trivial⟩
 intro T H ⟨t0, t1, t5, hF, h3, h202, _⟩
 refine W_seq_blockg fun Q2 n2 x2 y2 z2 => ?_
 refine W_loop (fun mm T H => ∃ (k : Nat), mm = l.length - k ∧ T 0 = (V.ms 202 v2 0 (len)) ∧ T 1 = (V.fn 105 [] [(V.mp 3 v3 0 0)]) ∧ T 5 = (iV ((k : Nat) : Int)) ∧ (∀ j, j ∉ [202] → H j = Hi j) ∧ H 3 = (⟨v3, true, false, 77, 1, [[(V.fn 75 [] [])]]⟩ : Blk) ∧ H 202 = (⟨v2, true, true, 38, 1, (List.map cL (l))⟩ : Blk) ∧ (1 ≤ k) ∧ (k ≤ l.length) ∧ (∀ i, 1 ≤ i → i < k → nth l i ≠ nth l (i - 1))) ?_ ?_
 ·
  refine ⟨_, 1, rfl, t0, t1, (Eq.trans t5 (by first | rfl | (rw [hd.1]; done) | (rw [hall, hn]; done) | (rw [hall]; done) | (show _ = iV (((ddK l ((k + j) + 1)).length : Nat) : Int); rw [ddK_keep (.inr d5), List.length_append]; rfl) | (show _ = iV (((ddK l ((k + j) + 1)).length : Nat) : Int); rw [ddK_skip (by rintro (q | q); omega; exact q d5)]; done) | (rw [show k + j = l.length by omega]; done))), hF, h3, h202, ?_, ?_, ?_⟩
  · omega
  · omega
  · intro i h1 h2; omega
 intro mm T H ⟨k, hmm, t0, t1, t5, hF, h3, h202, h1, hk, hc⟩ Q3 p13 p23 p33
 unfold b104_0
 refine W_seq_seq ?_
 refine W_seq_regc (fun T H => T 0 = (V.ms 202 v2 0 (len)) ∧ T 1 = (V.fn 105 [] [(V.mp 3 v3 0 0)]) ∧ T 5 = (iV ((k : Nat) : Int)) ∧ T 15 = (V.bool (decide (((k : Nat) : Int) < ((len : Nat) : Int)))) ∧ (∀ j, j ∉ [202] → H j = Hi j) ∧ H 3 = (⟨v3, true, false, 77, 1, [[(V.fn 75 [] [])]]⟩ : Blk) ∧ H 202 = (⟨v2, true, true, 38, 1, (List.map cL (l))⟩ : Blk) ∧ True) ?_ ?_
 ·
  unfold r104_4
  refine R_mv t5 ?_
  refine R_mv t0 ?_
  refine R_len_ms (@rfl V (V.ms 202 v2 0 (len))) h202 (by first | rfl | simp) ?_
  refine R_lss (x := ((k : Nat) : Int)) (y := ((len : Nat) : Int)) (@rfl V (iV ((k : Nat) : Int))) (@rfl V (iV ((len : Nat) : Int))) ?_
  exact R_nil ⟨t0, t1, t5, rfl, hF, h3, h202, trivial⟩
 intro T H ⟨t0, t1, t5, t15, hF, h3, h202, _⟩
 refine W_seq_if (p := ((k : Nat) : Int) < ((len : Nat) : Int)) t15 (fun c4 => ?_) (fun c4 => ?_)
 ·
  refine W_seq_skip ?_
  refine W_seq_blockg fun Q5 n5 x5 y5 z5 => ?_
  refine W_seq_regc (fun T H => T 0 = (V.ms 202 v2 0 (len)) ∧ T 1 = (V.fn 105 [] [(V.mp 3 v3 0 0)]) ∧ T 5 = (iV ((k : Nat) : Int)) ∧ T 28 = (V.bool (decide (slx ((nth (l) (k))) ((nth (l) (((((k : Nat) : Int) - (1 : Int))).toNat))) = 0))) ∧ (∀ j, j ∉ [202] → H j = Hi j) ∧ H 3 = (⟨v3, true, false, 77, 1, [[(V.fn 75 [] [])]]⟩ : Blk) ∧ H 202 = (⟨v2, true, true, 38, 1, (List.map cL (l))⟩ : Blk) ∧ True) ?_ ?_
  ·
   unfold r104_6
   refine R_mv t1 ?_
   refine R_mv t0 ?_
   refine R_mv t5 ?_
   refine R_idx_ms0 (i := k) (@rfl V (V.ms 202 v2 0 (len))) (@rfl V (iV ((k : Nat) : Int))) h202 (okB_map (by first | omega | (simp only [List.length_take]; omega))) rfl (by first | omega | (simp only [List.length_take]; omega)) ?_
   refine R_load_mp (v := (V.sl (List.map cI ((nth (l) (k)))))) (@rfl V (V.mp 202 v2 k 0)) h202 (ldB_map (by first | omega | (simp only [List.length_take]; omega)) (by first | rfl | simp [ldV, V.one])) ?_
   refine R_mv t0 ?_
   refine R_mv t5 ?_
   refine R_sub (x := ((k : Nat) : Int)) (y := (1 : Int)) (@rfl V (iV ((k : Nat) : Int))) (@rfl V (iV (1 : Int))) (by first | omega | (simp only [List.length_take]; omega)) (by first | omega | (simp only [List.length_take]; omega)) ?_
   refine R_idxI_ms0 (i := (((k : Nat) : Int) - (1 : Int))) (@rfl V (V.ms 202 v2 0 (len))) (@rfl V (iV (((k : Nat) : Int) - (1 : Int)))) h202 (okB_map (by first | omega | (simp only [List.length_take]; omega))) rfl (by first | omega | (simp only [List.length_take]; omega)) (by first | omega | (simp only [List.length_take]; omega)) ?_
   refine R_load_mp (v := (V.sl (List.map cI ((nth (l) (((((k : Nat) : Int) - (1 : Int))).toNat)))))) (@rfl V (V.mp 202 v2 (((((k : Nat) : Int) - (1 : Int))).toNat) 0)) h202 (ldB_map (by first | omega | (simp only [List.length_take]; omega)) (by first | rfl | simp [ldV, V.one])) ?_
   refine R_callv (@rfl V (V.fn 105 [] [(V.mp 3 v3 0 0)])) (evcons (@rfl V (V.sl (List.map cI ((nth (l) (k)))))) (evcons (@rfl V (V.sl (List.map cI ((nth (l) (((((k : Nat) : Int) - (1 : Int))).toNat)))))) evnil)) (ord1_pure ((nth (l) (k))) ((nth (l) (((((k : Nat) : Int) - (1 : Int))).toNat)))) (mcons (fzv_canon 6 _ (by simp [-List.map_take, -List.map_drop, -List.map_append, -List.map_reverse])) (mcons (fzv_canon 6 _ (by simp [-List.map_take, -List.map_drop, -List.map_append, -List.map_reverse])) (mcons (by simp [fzv, Blk.own, h3, h202]) rfl))) (by simp [-List.map_take, -List.map_drop, -List.map_append, -List.map_reverse]) (Or.inr rfl) ?_
   exact R_nil ⟨t0, t1, t5, rfl, hF, h3, h202, trivial⟩
  intro T H ⟨t0, t1, t5, t28, hF, h3, h202, _⟩
  refine W_if (p := slx ((nth (l) (k))) ((nth (l) (((((k : Nat) : Int) - (1 : Int))).toNat))) = 0) t28 (fun c6 => ?_) (fun c6 => ?_)
  ·
   have d1 : nth l k = nth l (k - 1) := by have q := slx_zero.1 c6; rwa [show (((k : Nat) : Int) - (1 : Int)).toNat = k - 1 by omega] at q
   have hd := dd_start h1 (by omega) hc d1
   refine W_seq_regc (fun T H => T 0 = (V.ms 202 v2 0 (len)) ∧ T 1 = (V.fn 105 [] [(V.mp 3 v3 0 0)]) ∧ T 5 = (iV ((k : Nat) : Int)) ∧ T 6 = (V.ms 202 v2 (0 + k) (len - k)) ∧ (∀ j, j ∉ [202] → H j = Hi j) ∧ H 3 = (⟨v3, true, false, 77, 1, [[(V.fn 75 [] [])]]⟩ : Blk) ∧ H 202 = (⟨v2, true, true, 38, 1, (List.map cL (l))⟩ : Blk) ∧ True) ?_ ?_
   ·
    unfold r104_7
    refine R_mv t0 ?_
    refine R_mv t5 ?_
    refine R_slice_ms_lo (n := k) (@rfl V (V.ms 202 v2 0 (len))) (@rfl V (iV ((k : Nat) : Int))) h202 (okB_map (by first | omega | (simp only [List.length_take]; omega))) rfl (by first | omega | (simp only [List.length_take]; omega)) ?_
    refine R_mv (@rfl V (V.ms 202 v2 (0 + k) (len - k))) ?_
    exact R_nil ⟨t0, t1, t5, rfl, hF, h3, h202, trivial⟩
   intro T H ⟨t0, t1, t5, t6, hF, h3, h202, _⟩
   refine W_seq_seq ?_
   refine W_seq_regc (fun T H => T 0 = (V.ms 202 v2 0 (len)) ∧ T 1 = (V.fn 105 [] [(V.mp 3 v3 0 0)]) ∧ T 5 = (iV ((k : Nat) : Int)) ∧ T 6 = (V.ms 202 v2 (0 + k) (len - k)) ∧ T 7 = (iV (1 : Int)) ∧ (∀ j, j ∉ [202] → H j = Hi j) ∧ H 3 = (⟨v3, true, false, 77, 1, [[(V.fn 75 [] [])]]⟩ : Blk) ∧ H 202 = (⟨v2, true, true, 38, 1, (List.map cL (l))⟩ : Blk) ∧ True) ?_ ?_
   ·
    unfold r104_8
    refine R_mv (@rfl V (iV (1 : Int))) ?_
    exact R_nil ⟨t0, t1, t5, t6, rfl, hF, h3, h202, trivial⟩
   intro T H ⟨t0, t1, t5, t6, t7, hF, h3, h202, _⟩
   refine W_seq_blockg fun Q7 n7 x7 y7 z7 => ?_
   refine W_loop (fun mm T H => ∃ (j : Nat), mm = l.length - (k + j) ∧ T 0 = (V.ms 202 v2 0 (len)) ∧ T 1 = (V.fn 105 [] [(V.mp 3 v3 0 0)]) ∧ T 5 = (iV (((ddK l (k + j)).length : Nat) : Int)) ∧ T 6 = (V.ms 202 v2 (0 + k) (len - k)) ∧ T 7 = (iV ((j : Nat) : Int)) ∧ (∀ j, j ∉ [202] → H j = Hi j) ∧ H 3 = (⟨v3, true, false, 77, 1, [[(V.fn 75 [] [])]]⟩ : Blk) ∧ H 202 = (⟨v2, true, true, 38, 1, (List.map cL (ddL l (k + j)))⟩ : Blk) ∧ (k + j ≤ l.length) ∧ (1 ≤ j) ∧ ((ddK l (k + j)).length < k + j)) ?_ ?_
   ·
    refine ⟨_, 1, rfl, t0, t1, (Eq.trans t5 (by first | rfl | (rw [hd.1]; done) | (rw [hall, hn]; done) | (rw [hall]; done) | (show _ = iV (((ddK l ((k + j) + 1)).length : Nat) : Int); rw [ddK_keep (.inr d5), List.length_append]; rfl) | (show _ = iV (((ddK l ((k + j) + 1)).length : Nat) : Int); rw [ddK_skip (by rintro (q | q); omega; exact q d5)]; done) | (rw [show k + j = l.length by omega]; done))), (Eq.trans t6 (by first | rfl | (rw [hd.1]; done) | (rw [hall, hn]; done) | (rw [hall]; done) | (show _ = iV (((ddK l ((k + j) + 1)).length : Nat) : Int); rw [ddK_keep (.inr d5), List.length_append]; rfl) | (show _ = iV (((ddK l ((k + j) + 1)).length : Nat) : Int); rw [ddK_skip (by rintro (q | q); omega; exact q d5)]; done) | (rw [show k + j = l.length by omega]; done))), (Eq.trans t7 (by first | rfl | (rw [hd.1]; done) | (rw [hall, hn]; done) | (rw [hall]; done) | (show _ = iV (((ddK l ((k + j) + 1)).length : Nat) : Int); rw [ddK_keep (.inr d5), List.length_append]; rfl) | (show _ = iV (((ddK l ((k + j) + 1)).length : Nat) : Int); rw [ddK_skip (by rintro (q | q); omega; exact q d5)]; done) | (rw [show k + j = l.length by omega]; done))), hF, h3, (Eq.trans h202 (by first | rfl | (rw [hd.2]; done) | (rw [hall]; simp; done) | (rw [q5.1, ddL_keep (show k + j < l.length by omega) (.inr d5)]; rfl) | (rw [q5.1, ddL_keep (show k + j < l.length by omega) (.inr d5)]; done) | (show _ = (⟨_, _, _, _, _, List.map cL (ddL l ((k + j) + 1))⟩ : Blk); rw [ddL_skip (by rintro (q | q); omega; exact q d5)]; done) | (rw [dd_take (show l.length ≤ k + j by omega) hj, show k + j = l.length by omega]; done) | (rw [dd_take (show l.length ≤ k + j by omega) hj, show k + j = l.length by omega, hn]; done))), ?_, ?_, ?_⟩
    · omega
    · omega
    · rw [hd.1]; omega
   intro mm T H ⟨j, hmm, t0, t1, t5, t6, t7, hF, h3, h202, hj, hj1, hlt⟩ Q8 p18 p28 p38
   unfold b104_1
   have q1 := ddL_len (L := l) (j := k + j) hj
   have q5 := dd_at hlt hj1
   have q6 := dd_pos (l := l) (j := k + j) (by omega)
   refine W_seq_seq ?_
   refine W_seq_regc (fun T H => T 0 = (V.ms 202 v2 0 (len)) ∧ T 1 = (V.fn 105 [] [(V.mp 3 v3 0 0)]) ∧ T 5 = (iV (((ddK l (k + j)).length : Nat) : Int)) ∧ T 6 = (V.ms 202 v2 (0 + k) (len - k)) ∧ T 7 = (iV ((j : Nat) : Int)) ∧ T 35 = (V.bool (decide (((j : Nat) : Int) < ((len - k : Nat) : Int)))) ∧ (∀ j, j ∉ [202] → H j = Hi j) ∧ H 3 = (⟨v3, true, false, 77, 1, [[(V.fn 75 [] [])]]⟩ : Blk) ∧ H 202 = (⟨v2, true, true, 38, 1, (List.map cL (ddL l (k + j)))⟩ : Blk) ∧ True) ?_ ?_
   ·
    unfold r104_9
    refine R_mv t7 ?_
    refine R_mv t6 ?_
    refine R_len_ms (@rfl V (V.ms 202 v2 (0 + k) (len - k))) h202 (by first | rfl | simp) ?_
    refine R_lss (x := ((j : Nat) : Int)) (y := ((len - k : Nat) : Int)) (@rfl V (iV ((j : Nat) : Int))) (@rfl V (iV ((len - k : Nat) : Int))) ?_
    exact R_nil ⟨t0, t1, t5, t6, t7, rfl, hF, h3, h202, trivial⟩
   intro T H ⟨t0, t1, t5, t6, t7, t35, hF, h3, h202, _⟩
   refine W_seq_if (p := ((j : Nat) : Int) < ((len - k : Nat) : Int)) t35 (fun c9 => ?_) (fun c9 => ?_)
   ·
    refine W_seq_skip ?_
    refine W_seq_blockg fun Q10 n10 x10 y10 z10 => ?_
    refine W_seq_regc (fun T H => T 0 = (V.ms 202 v2 0 (len)) ∧ T 1 = (V.fn 105 [] [(V.mp 3 v3 0 0)]) ∧ T 5 = (iV (((ddK l (k + j)).length : Nat) : Int)) ∧ T 6 = (V.ms 202 v2 (0 + k) (len - k)) ∧ T 7 = (iV ((j : Nat) : Int)) ∧ T 49 = (V.bool (decide (¬(slx ((nth (ddL l (k + j)) ((0 + k) + (j)))) ((nth (ddL l (k + j)) ((0 + k) + ((((j : Nat) : Int) - (1 : Int))).toNat))) = 0)))) ∧ (∀ j, j ∉ [202] → H j = Hi j) ∧ H 3 = (⟨v3, true, false, 77, 1, [[(V.fn 75 [] [])]]⟩ : Blk) ∧ H 202 = (⟨v2, true, true, 38, 1, (List.map cL (ddL l (k + j)))⟩ : Blk) ∧ True) ?_ ?_
    ·
     unfold r104_11
     refine R_mv t1 ?_
     refine R_mv t6 ?_
     refine R_mv t7 ?_
     refine R_idx_ms (i := j) (@rfl V (V.ms 202 v2 (0 + k) (len - k))) (@rfl V (iV ((j : Nat) : Int))) h202 (okB_map (by first | omega | (simp only [List.length_take]; omega))) rfl (by first | omega | (simp only [List.length_take]; omega)) ?_
     refine R_load_mp (v := (V.sl (List.map cI ((nth (ddL l (k + j)) ((0 + k) + (j))))))) (@rfl V (V.mp 202 v2 ((0 + k) + (j)) 0)) h202 (ldB_map (by first | omega | (simp only [List.length_take]; omega)) (by first | rfl | simp [ldV, V.one])) ?_
     refine R_mv t6 ?_
     refine R_mv t7 ?_
     refine R_sub (x := ((j : Nat) : Int)) (y := (1 : Int)) (@rfl V (iV ((j : Nat) : Int))) (@rfl V (iV (1 : Int))) (by first | omega | (simp only [List.length_take]; omega)) (by first | omega | (simp only [List.length_take]; omega)) ?_
     refine R_idxI_ms (i := (((j : Nat) : Int) - (1 : Int))) (@rfl V (V.ms 202 v2 (0 + k) (len - k))) (@rfl V (iV (((j : Nat) : Int) - (1 : Int)))) h202 (okB_map (by first | omega | (simp only [List.length_take]; omega))) rfl (by first | omega | (simp only [List.length_take]; omega)) (by first | omega | (simp only [List.length_take]; omega)) ?_
     refine R_load_mp (v := (V.sl (List.map cI ((nth (ddL l (k + j)) ((0 + k) + ((((j : Nat) : Int) - (1 : Int))).toNat)))))) (@rfl V (V.mp 202 v2 ((0 + k) + ((((j : Nat) : Int) - (1 : Int))).toNat) 0)) h202 (ldB_map (by first | omega | (simp only [List.length_take]; omega)) (by first | rfl | simp [ldV, V.one])) ?_
     refine R_callv (@rfl V (V.fn 105 [] [(V.mp 3 v3 0 0)])) (evcons (@rfl V (V.sl (List.map cI ((nth (ddL l (k + j)) ((0 + k) + (j))))))) (evcons (@rfl V (V.sl (List.map cI ((nth (ddL l (k + j)) ((0 + k) + ((((j : Nat) : Int) - (1 : Int))).toNat)))))) evnil)) (ord1_pure ((nth (ddL l (k + j)) ((0 + k) + (j)))) ((nth (ddL l (k + j)) ((0 + k) + ((((j : Nat) : Int) - (1 : Int))).toNat)))) (mcons (fzv_canon 6 _ (by simp [-List.map_take, -List.map_drop, -List.map_append, -List.map_reverse])) (mcons (fzv_canon 6 _ (by simp [-List.map_take, -List.map_drop, -List.map_append, -List.map_reverse])) (mcons (by simp [fzv, Blk.own, h3, h202]) rfl))) (by simp [-List.map_take, -List.map_drop, -List.map_append, -List.map_reverse]) (Or.inr rfl) ?_
     refine R_not (p := slx ((nth (ddL l (k + j)) ((0 + k) + (j)))) ((nth (ddL l (k + j)) ((0 + k) + ((((j : Nat) : Int) - (1 : Int))).toNat))) = 0) (@rfl V (V.bool (decide (slx ((nth (ddL l (k + j)) ((0 + k) + (j)))) ((nth (ddL l (k + j)) ((0 + k) + ((((j : Nat) : Int) - (1 : Int))).toNat))) = 0)))) ?_
     exact R_nil ⟨t0, t1, t5, t6, t7, rfl, hF, h3, h202, trivial⟩
    intro T H ⟨t0, t1, t5, t6, t7, t49, hF, h3, h202, _⟩
    refine W_if (p := ¬(slx ((nth (ddL l (k + j)) ((0 + k) + (j)))) ((nth (ddL l (k + j)) ((0 + k) + ((((j : Nat) : Int) - (1 : Int))).toNat))) = 0)) t49 (fun c11 => ?_) (fun c11 => ?_)
    ·
     have d5 : nth l (k + j) ≠ nth l (k + j - 1) := fun q => c11 (slx_zero.2 (by rw [q5.1, q5.2]; exact q))
     refine W_seq_regc (fun T H => T 0 = (V.ms 202 v2 0 (len)) ∧ T 1 = (V.fn 105 [] [(V.mp 3 v3 0 0)]) ∧ T 5 = (iV (((ddK l (k + j)).length : Nat) : Int)) ∧ T 6 = (V.ms 202 v2 (0 + k) (len - k)) ∧ T 7 = (iV ((j : Nat) : Int)) ∧ (∀ j, j ∉ [202] → H j = Hi j) ∧ H 3 = (⟨v3, true, false, 77, 1, [[(V.fn 75 [] [])]]⟩ : Blk) ∧ H 202 = (⟨v2, true, true, 38, 1, (List.map cL ((ddL l (k + j)).set ((ddK l (k + j)).length) ((nth (ddL l (k + j)) ((0 + k) + (j))))))⟩ : Blk) ∧ True) ?_ ?_
     ·
      unfold r104_12
      refine R_mv t0 ?_
      refine R_mv t5 ?_
      refine R_mv t6 ?_
      refine R_mv t7 ?_
      refine R_idx_ms (i := j) (@rfl V (V.ms 202 v2 (0 + k) (len - k))) (@rfl V (iV ((j : Nat) : Int))) h202 (okB_map (by first | omega | (simp only [List.length_take]; omega))) rfl (by first | omega | (simp only [List.length_take]; omega)) ?_
      refine R_load_mp (v := (V.sl (List.map cI ((nth (ddL l (k + j)) ((0 + k) + (j))))))) (@rfl V (V.mp 202 v2 ((0 + k) + (j)) 0)) h202 (ldB_map (by first | omega | (simp only [List.length_take]; omega)) (by first | rfl | simp [ldV, V.one])) ?_
      refine R_idx_ms0 (i := ((ddK l (k + j)).length)) (@rfl V (V.ms 202 v2 0 (len))) (@rfl V (iV (((ddK l (k + j)).length : Nat) : Int))) h202 (okB_map (by first | omega | (simp only [List.length_take]; omega))) rfl (by first | omega | (simp only [List.length_take]; omega)) ?_
      refine R_store (vs := [(V.sl (List.map cI ((nth (ddL l (k + j)) ((0 + k) + (j))))))]) (B' := (⟨v2, true, true, 38, 1, (List.map cL ((ddL l (k + j)).set ((ddK l (k + j)).length) ((nth (ddL l (k + j)) ((0 + k) + (j))))))⟩ : Blk)) (@rfl V (V.mp 202 v2 ((ddK l (k + j)).length) 0)) (@rfl V (V.sl (List.map cI ((nth (ddL l (k + j)) ((0 + k) + (j))))))) rfl h202 (stB_map (x := ((nth (ddL l (k + j)) ((0 + k) + (j))))) (i := ((ddK l (k + j)).length)) (by first | omega | (simp only [List.length_take]; omega)) rfl rfl rfl rfl) ?_
      exact R_nil ⟨t0, t1, t5, t6, t7, (upd_out hF (by decide)), h3, rfl, trivial⟩
     intro T H ⟨t0, t1, t5, t6, t7, hF, h3, h202, _⟩
     refine W_regc (fun T H => T 0 = (V.ms 202 v2 0 (len)) ∧ T 1 = (V.fn 105 [] [(V.mp 3 v3 0 0)]) ∧ T 5 = (iV ((((ddK l (k + j)).length) + 1 : Nat) : Int)) ∧ T 6 = (V.ms 202 v2 (0 + k) (len - k)) ∧ T 7 = (iV ((j : Nat) : Int)) ∧ (∀ j, j ∉ [202] → H j = Hi j) ∧ H 3 = (⟨v3, true, false, 77, 1, [[(V.fn 75 [] [])]]⟩ : Blk) ∧ H 202 = (⟨v2, true, true, 38, 1, (List.map cL ((ddL l (k + j)).set ((ddK l (k + j)).length) ((nth (ddL l (k + j)) ((0 + k) + (j))))))⟩ : Blk) ∧ True) ?_ ?_
     ·
      unfold r104_13
      refine R_mv t5 ?_
      refine R_addN (m := ((ddK l (k + j)).length)) (n := 1) (@rfl V (iV (((ddK l (k + j)).length : Nat) : Int))) (@rfl V (iV ((1 : Nat) : Int))) (by first | omega | (simp only [List.length_take]; omega)) ?_
      refine R_mv (@rfl V (iV ((((ddK l (k + j)).length) + 1 : Nat) : Int))) ?_
      exact R_nil ⟨t0, t1, rfl, t6, t7, hF, h3, h202, trivial⟩
     intro T H ⟨t0, t1, t5, t6, t7, hF, h3, h202, _⟩
     refine n10 _ _ ?_
     refine .done ?_
     refine W_regc (fun T H => T 0 = (V.ms 202 v2 0 (len)) ∧ T 1 = (V.fn 105 [] [(V.mp 3 v3 0 0)]) ∧ T 5 = (iV ((((ddK l (k + j)).length) + 1 : Nat) : Int)) ∧ T 6 = (V.ms 202 v2 (0 + k) (len - k)) ∧ T 7 = (iV ((j + 1 : Nat) : Int)) ∧ (∀ j, j ∉ [202] → H j = Hi j) ∧ H 3 = (⟨v3, true, false, 77, 1, [[(V.fn 75 [] [])]]⟩ : Blk) ∧ H 202 = (⟨v2, true, true, 38, 1, (List.map cL ((ddL l (k + j)).set ((ddK l (k + j)).length) ((nth (ddL l (k + j)) ((0 + k) + (j))))))⟩ : Blk) ∧ True) ?_ ?_
     ·
      unfold r104_10
      refine R_mv t7 ?_
      refine R_addN (m := j) (n := 1) (@rfl V (iV ((j : Nat) : Int))) (@rfl V (iV ((1 : Nat) : Int))) (by first | omega | (simp only [List.length_take]; omega)) ?_
      refine R_mv (@rfl V (iV ((j + 1 : Nat) : Int))) ?_
      exact R_nil ⟨t0, t1, t5, t6, rfl, hF, h3, h202, trivial⟩
     intro T H ⟨t0, t1, t5, t6, t7, hF, h3, h202, _⟩
     refine p18 _ _ _ ?_ ⟨(j + 1), rfl, t0, t1, (Eq.trans t5 (by first | rfl | (rw [hd.1]; done) | (rw [hall, hn]; done) | (rw [hall]; done) | (show _ = iV (((ddK l ((k + j) + 1)).length : Nat) : Int); rw [ddK_keep (.inr d5), List.length_append]; rfl) | (show _ = iV (((ddK l ((k + j) + 1)).length : Nat) : Int); rw [ddK_skip (by rintro (q | q); omega; exact q d5)]; done) | (rw [show k + j = l.length by omega]; done))), (Eq.trans t6 (by first | rfl | (rw [hd.1]; done) | (rw [hall, hn]; done) | (rw [hall]; done) | (show _ = iV (((ddK l ((k + j) + 1)).length : Nat) : Int); rw [ddK_keep (.inr d5), List.length_append]; rfl) | (show _ = iV (((ddK l ((k + j) + 1)).length : Nat) : Int); rw [ddK_skip (by rintro (q | q); omega; exact q d5)]; done) | (rw [show k + j = l.length by omega]; done))), (Eq.trans t7 (by first | rfl | (rw [hd.1]; done) | (rw [hall, hn]; done) | (rw [hall]; done) | (show _ = iV (((ddK l ((k + j) + 1)).length : Nat) : Int); rw [ddK_keep (.inr d5), List.length_append]; rfl) | (show _ = iV (((ddK l ((k + j) + 1)).length : Nat) : Int); rw [ddK_skip (by rintro (q | q); omega; exact q d5)]; done) | (rw [show k + j = l.length by omega]; done))), hF, h3, (Eq.trans h202 (by first | rfl | (rw [hd.2]; done) | (rw [hall]; simp; done) | (rw [q5.1, ddL_keep (show k + j < l.length by omega) (.inr d5)]; rfl) | (rw [q5.1, ddL_keep (show k + j < l.length by omega) (.inr d5)]; done) | (show _ = (⟨_, _, _, _, _, List.map cL (ddL l ((k + j) + 1))⟩ : Blk); rw [ddL_skip (by rintro (q | q); omega; exact q d5)]; done) | (rw [dd_take (show l.length ≤ k + j by omega) hj, show k + j = l.length by omega]; done) | (rw [dd_take (show l.length ≤ k + j by omega) hj, show k + j = l.length by omega, hn]; done))), ?_, ?_, ?_⟩
     · omega
     · omega
     · omega
     · first | (show (ddK l ((k + j) + 1)).length < (k + j) + 1; rw [ddK_keep (.inr d5), List.length_append]; simp; omega) | (show (ddK l ((k + j) + 1)).length < (k + j) + 1; rw [ddK_skip (by rintro (q | q); omega; exact q d5)]; omega)
    have d5 : nth l (k + j) = nth l (k + j - 1) := by have q := slx_zero.1 (Decidable.not_not.1 c11); rwa [q5.1, q5.2] at q
    refine W_skip ?_
    refine n10 _ _ ?_
    refine .done ?_
    refine W_regc (fun T H => T 0 = (V.ms 202 v2 0 (len)) ∧ T 1 = (V.fn 105 [] [(V.mp 3 v3 0 0)]) ∧ T 5 = (iV (((ddK l (k + j)).length : Nat) : Int)) ∧ T 6 = (V.ms 202 v2 (0 + k) (len - k)) ∧ T 7 = (iV ((j + 1 : Nat) : Int)) ∧ (∀ j, j ∉ [202] → H j = Hi j) ∧ H 3 = (⟨v3, true, false, 77, 1, [[(V.fn 75 [] [])]]⟩ : Blk) ∧ H 202 = (⟨v2, true, true, 38, 1, (List.map cL (ddL l (k + j)))⟩ : Blk) ∧ True) ?_ ?_
    ·
     unfold r104_10
     refine R_mv t7 ?_
     refine R_addN (m := j) (n := 1) (@rfl V (iV ((j : Nat) : Int))) (@rfl V (iV ((1 : Nat) : Int))) (by first | omega | (simp only [List.length_take]; omega)) ?_
     refine R_mv (@rfl V (iV ((j + 1 : Nat) : Int))) ?_
     exact R_nil ⟨t0, t1, t5, t6, rfl, hF, h3, h202, trivial⟩
    intro T H ⟨t0, t1, t5, t6, t7, hF, h3, h202, _⟩
    refine p18 _ _ _ ?_ ⟨(j + 1), rfl, t0, t1, (Eq.trans t5 (by first | rfl | (rw [hd.1]; done) | (rw [hall, hn]; done) | (rw [hall]; done) | (show _ = iV (((ddK l ((k + j) + 1)).length : Nat) : Int); rw [ddK_keep (.inr d5), List.length_append]; rfl) | (show _ = iV (((ddK l ((k + j) + 1)).length : Nat) : Int); rw [ddK_skip (by rintro (q | q); omega; exact q d5)]; done) | (rw [show k + j = l.length by omega]; done))), (Eq.trans t6 (by first | rfl | (rw [hd.1]; done) | (rw [hall, hn]; done) | (rw [hall]; done) | (show _ = iV (((ddK l ((k + j) + 1)).length : Nat) : Int); rw [ddK_keep (.inr d5), List.length_append]; rfl) | (show _ = iV (((ddK l ((k + j) + 1)).length : Nat) : Int); rw [ddK_skip (by rintro (q | q); omega; exact q d5)]; done) | (rw [show k + j = l.length by omega]; done))), (Eq.trans t7 (by first | rfl | (rw [hd.1]; done) | (rw [hall, hn]; done) | (rw [hall]; done) | (show _ = iV (((ddK l ((k + j) + 1)).length : Nat) : Int); rw [ddK_keep (.inr d5), List.length_append]; rfl) | (show _ = iV (((ddK l ((k + j) + 1)).length : Nat) : Int); rw [ddK_skip (by rintro (q | q); omega; exact q d5)]; done) | (rw [show k + j = l.length by omega]; done))), hF, h3, (Eq.trans h202 (by first | rfl | (rw [hd.2]; done) | (rw [hall]; simp; done) | (rw [q5.1, ddL_keep (show k + j < l.length by omega) (.inr d5)]; rfl) | (rw [q5.1, ddL_keep (show k + j < l.length by omega) (.inr d5)]; done) | (show _ = (⟨_, _, _, _, _, List.map cL (ddL l ((k + j) + 1))⟩ : Blk); rw [ddL_skip (by rintro (q | q); omega; exact q d5)]; done) | (rw [dd_take (show l.length ≤ k + j by omega) hj, show k + j = l.length by omega]; done) | (rw [dd_take (show l.length ≤ k + j by omega) hj, show k + j = l.length by omega, hn]; done))), ?_, ?_, ?_⟩
    · omega
    · omega
    · omega
    · first | (show (ddK l ((k + j) + 1)).length < (k + j) + 1; rw [ddK_keep (.inr d5), List.length_append]; simp; omega) | (show (ddK l ((k + j) + 1)).length < (k + j) + 1; rw [ddK_skip (by rintro (q | q); omega; exact q d5)]; omega)
   refine W_seq_exit ?_
   refine p38 _ _ _ ?_
   refine x7 _ _ ?_
   refine .done ?_
   refine W_seq_regc (fun T H => T 0 = (V.ms 202 v2 0 (len)) ∧ T 5 = (iV (((ddK l (k + j)).length : Nat) : Int)) ∧ (∀ j, j ∉ [202] → H j = Hi j) ∧ H 3 = (⟨v3, true, false, 77, 1, [[(V.fn 75 [] [])]]⟩ : Blk) ∧ H 202 = (⟨v2, true, true, 38, 1, (List.map cL (List.take (((ddK l (k + j)).length)) (ddL l (k + j))) ++ List.replicate (len - ((ddK l (k + j)).length)) [V.nilsl])⟩ : Blk) ∧ True) ?_ ?_
   ·
    unfold r104_14
    refine R_mv t0 ?_
    refine R_mv t5 ?_
    refine R_slice_ms_lo (n := ((ddK l (k + j)).length)) (@rfl V (V.ms 202 v2 0 (len))) (@rfl V (iV (((ddK l (k + j)).length : Nat) : Int))) h202 (okB_map (by first | omega | (simp only [List.length_take]; omega))) rfl (by first | omega | (simp only [List.length_take]; omega)) ?_
    refine R_clr (m := (((ddK l (k + j)).length))) (n := (len - ((ddK l (k + j)).length))) (f := cL) (l := (ddL l (k + j))) (Eq.trans (@rfl V (V.ms 202 v2 (0 + ((ddK l (k + j)).length)) (len - ((ddK l (k + j)).length)))) (congrArg (fun n => V.ms 202 v2 n (len - ((ddK l (k + j)).length))) (Nat.zero_add _))) h202 rfl (by decide) rfl (by first | omega | (simp only [List.length_take]; omega)) (by first | omega | (simp only [List.length_take]; omega)) ?_
    exact R_nil ⟨t0, t5, (upd_out hF (by decide)), h3, rfl, trivial⟩
   intro T H ⟨t0, t5, hF, h3, h202, _⟩
   refine W_seq_regc (fun T H => T 4 = (V.ms 202 v2 0 ((ddK l (k + j)).length)) ∧ (∀ j, j ∉ [202] → H j = Hi j) ∧ H 3 = (⟨v3, true, false, 77, 1, [[(V.fn 75 [] [])]]⟩ : Blk) ∧ H 202 = (⟨v2, true, true, 38, 1, (List.map cL (List.take (((ddK l (k + j)).length)) (ddL l (k + j))) ++ List.replicate (len - ((ddK l (k + j)).length)) [V.nilsl])⟩ : Blk) ∧ True) ?_ ?_
   ·
    unfold r104_15
    refine R_mv t0 ?_
    refine R_mv t5 ?_
    refine R_slice_ms_hi (n := ((ddK l (k + j)).length)) (@rfl V (V.ms 202 v2 0 (len))) (@rfl V (iV (((ddK l (k + j)).length : Nat) : Int))) h202 (okB_zap (by first | omega | (simp only [List.length_take]; omega))) rfl (by first | omega | (simp only [List.length_take]; omega)) ?_
    refine R_mv (@rfl V (V.ms 202 v2 0 ((ddK l (k + j)).length))) ?_
    exact R_nil ⟨rfl, hF, h3, h202, trivial⟩
   intro T H ⟨t4, hF, h3, h202, _⟩
   refine W_ret ?_
   refine y5 _ _ ?_
   refine p23 _ _ ?_
   refine y2 _ _ ?_
   skip
   have fh := FinX.fin (FinX.put (B := (⟨v2, true, true, 38, 1, (List.map cL (ddK l l.length) ++ List.replicate (l.length - (ddK l l.length).length) [V.nilsl])⟩ : Blk)) (FinX.start hF) h202 (FinB.eq (by first | rfl | (rw [hd.2]; done) | (rw [hall]; simp; done) | (rw [q5.1, ddL_keep (show k + j < l.length by omega) (.inr d5)]; rfl) | (rw [q5.1, ddL_keep (show k + j < l.length by omega) (.inr d5)]; done) | (show _ = (⟨_, _, _, _, _, List.map cL (ddL l ((k + j) + 1))⟩ : Blk); rw [ddL_skip (by rintro (q | q); omega; exact q d5)]; done) | (rw [dd_take (show l.length ≤ k + j by omega) hj, show k + j = l.length by omega]; done) | (rw [dd_take (show l.length ≤ k + j by omega) hj, show k + j = l.length by omega, hn]; done))))
   exact RetF_1 t4 fh (FinV.trans_eq (FinV.same fh _) (by first | rfl | (rw [hd.1]; done) | (rw [hall, hn]; done) | (rw [hall]; done) | (show _ = iV (((ddK l ((k + j) + 1)).length : Nat) : Int); rw [ddK_keep (.inr d5), List.length_append]; rfl) | (show _ = iV (((ddK l ((k + j) + 1)).length : Nat) : Int); rw [ddK_skip (by rintro (q | q); omega; exact q d5)]; done) | (rw [show k + j = l.length by omega]; done)))
  have d1 : nth l k ≠ nth l (k - 1) := fun q => c6 (slx_zero.2 (by rw [show (((k : Nat) : Int) - (1 : Int)).toNat = k - 1 by omega]; exact q))
  refine W_skip ?_
  refine n5 _ _ ?_
  refine .done ?_
  refine W_regc (fun T H => T 0 = (V.ms 202 v2 0 (len)) ∧ T 1 = (V.fn 105 [] [(V.mp 3 v3 0 0)]) ∧ T 5 = (iV ((k + 1 : Nat) : Int)) ∧ (∀ j, j ∉ [202] → H j = Hi j) ∧ H 3 = (⟨v3, true, false, 77, 1, [[(V.fn 75 [] [])]]⟩ : Blk) ∧ H 202 = (⟨v2, true, true, 38, 1, (List.map cL (l))⟩ : Blk) ∧ True) ?_ ?_
  ·
   unfold r104_5
   refine R_mv t5 ?_
   refine R_addN (m := k) (n := 1) (@rfl V (iV ((k : Nat) : Int))) (@rfl V (iV ((1 : Nat) : Int))) (by first | omega | (simp only [List.length_take]; omega)) ?_
   refine R_mv (@rfl V (iV ((k + 1 : Nat) : Int))) ?_
   exact R_nil ⟨t0, t1, rfl, hF, h3, h202, trivial⟩
  intro T H ⟨t0, t1, t5, hF, h3, h202, _⟩
  refine p13 _ _ _ ?_ ⟨(k + 1), rfl, t0, t1, (Eq.trans t5 (by first | rfl | (rw [hd.1]; done) | (rw [hall, hn]; done) | (rw [hall]; done) | (show _ = iV (((ddK l ((k + j) + 1)).length : Nat) : Int); rw [ddK_keep (.inr d5), List.length_append]; rfl) | (show _ = iV (((ddK l ((k + j) + 1)).length : Nat) : Int); rw [ddK_skip (by rintro (q | q); omega; exact q d5)]; done) | (rw [show k + j = l.length by omega]; done))), hF, h3, h202, ?_, ?_, ?_⟩
  · omega
  · omega
  · omega
  · intro i i1 i2
    by_cases e : i = k
    · subst e; exact d1
    · exact hc i i1 (by omega)
 refine W_seq_exit ?_
 refine p33 _ _ _ ?_
 refine x2 _ _ ?_
 refine .done ?_
 refine W_seq_regc (fun T H => T 4 = (V.ms 202 v2 0 (len)) ∧ (∀ j, j ∉ [202] → H j = Hi j) ∧ H 3 = (⟨v3, true, false, 77, 1, [[(V.fn 75 [] [])]]⟩ : Blk) ∧ H 202 = (⟨v2, true, true, 38, 1, (List.map cL (l))⟩ : Blk) ∧ True) ?_ ?_
 ·
  unfold r104_16
  refine R_mv t0 ?_
  refine R_mv (@rfl V (V.ms 202 v2 0 (len))) ?_
  exact R_nil ⟨rfl, hF, h3, h202, trivial⟩
 intro T H ⟨t4, hF, h3, h202, _⟩
 refine W_ret ?_
 have hall := dd_all (l := l) (fun i i1 i2 => hc i i1 (by omega))
 have fh := FinX.fin (FinX.put (B := (⟨v2, true, true, 38, 1, (List.map cL (ddK l l.length) ++ List.replicate (l.length - (ddK l l.length).length) [V.nilsl])⟩ : Blk)) (FinX.start hF) h202 (FinB.eq (by first | rfl | (rw [hd.2]; done) | (rw [hall]; simp; done) | (rw [q5.1, ddL_keep (show k + j < l.length by omega) (.inr d5)]; rfl) | (rw [q5.1, ddL_keep (show k + j < l.length by omega) (.inr d5)]; done) | (show _ = (⟨_, _, _, _, _, List.map cL (ddL l ((k + j) + 1))⟩ : Blk); rw [ddL_skip (by rintro (q | q); omega; exact q d5)]; done) | (rw [dd_take (show l.length ≤ k + j by omega) hj, show k + j = l.length by omega]; done) | (rw [dd_take (show l.length ≤ k + j by omega) hj, show k + j = l.length by omega, hn]; done))))
 exact RetF_1 t4 fh (FinV.trans_eq (FinV.same fh _) (by first | rfl | (rw [hd.1]; done) | (rw [hall, hn]; done) | (rw [hall]; done) | (show _ = iV (((ddK l ((k + j) + 1)).length : Nat) : Int); rw [ddK_keep (.inr d5), List.length_append]; rfl) | (show _ = iV (((ddK l ((k + j) + 1)).length : Nat) : Int); rw [ddK_skip (by rintro (q | q); omega; exact q d5)]; done) | (rw [show k + j = l.length by omega]; done)))
end Go.Proofs.YtmnjchcoigbngaaGreat


namespace Go.Proofs.YtmnjchcoigbngaaGreat
open Go Go.Proofs Go.Shelf Go.Sort Go.Lib
def SortSpec1 (P : Program) (f : Nat) : Prop := ∀ {α : Type} [Inhabited α] (enc : α → Value) (_ : OneCell enc) (cf : α → α → Int) (_ : SWO (ltOf cf)) (g : Nat) (cb : Array Value) (blk off cap : Nat) (d : Array α) (w : World)
    (_ : ∀ args w, (callFunc g args).run P w = .ok (.enter g args) w) (_ : CmpLays1 P g cb enc cf blk off d.size w) (_ : Holds enc w blk off d) (_ : blk < w.heap.size) (_ : d.size < 4611686018427387904),
    Calls P f #[.slice (some ⟨blk, off, none⟩) d.size cap, .func (.func g) #[] cb] w fun e w' =>
      e = .returned (.tuple #[]) ∧ ∃ d' n os, PermIn 0 d.size d d' ∧ SortedIn (ltOf cf) 0 d.size d' ∧ w' = sortWorld enc w blk off n d' os
section
variable {P : Program} {α : Type} [Inhabited α] {enc : α → Value} {w : World} {blk off m : Nat} {dk : Array α} {os : Array Obj}
theorem sortWorld1_other {b : Nat} (hb : b < w.heap.size) (hne : b ≠ blk) : (sortWorld enc w blk off m dk os).heap[b]? = w.heap[b]? := by
  unfold sortWorld grow putRow mapBlock Sort.ahead
  simp only
  rw [Array.getElem?_append, if_pos (by simpa using hb), Array.getElem?_modify, if_neg (Ne.symm hne)]
theorem sortWorld1_size : w.heap.size ≤ (sortWorld enc w blk off m dk os).heap.size := by
  unfold sortWorld grow putRow mapBlock Sort.ahead
  simp
theorem sortWorld1_eq {cc : Array Value} {ty : TypeId} (h : w.heap[blk]? = some (.cells cc ty (0, 0))) :
    sortWorld enc w blk off m dk os = grow { w.setRow blk (putCells enc off dk cc) with drawn := w.drawn + m } os := by
  unfold sortWorld putRow mapBlock Sort.ahead World.setRow
  congr 2
  refine Array.ext_getElem? fun b => ?_
  simp only [Array.getElem?_modify]
  by_cases e : blk = b
  · subst e
    simp only [if_true, h, Option.map_some, onCells]
  · simp only [if_neg e]
end
theorem CallOK_sort1 {P : Program} {f g : Nat} (hS : SortSpec1 P f) (hN : SortNone P f) (hcf : callable P f) (hcg : callable P g) {T : Type} [Inhabited T] {f0 : T → V} {l : List T} {cmp : T → T → Int}
    (hO : SWO fun a b => decide (cmp a b < 0)) (hT : ∀ a ∈ l, ∀ b ∈ l, ¬cmp a b < 0 → ¬cmp b a < 0 → a = b)
    (hc : ∀ a ∈ l, ∀ b ∈ l, PureC P g [f0 a, f0 b] (iV (cmp a b))) (hp : ∀ a ∈ l, (f0 a).pure = true) (h1 : ∀ a ∈ l, (f0 a).one = true)
    (hl : l.length < 4611686018427387904) {id ver ty : Nat} {lz : Bool} {H : Heap} (hH : H id = ⟨ver, true, lz, ty, 1, l.map fun a => [f0 a]⟩) :
    CallOK P f [.ms id ver 0 l.length, .fn g [] []] H (.tup []) (upd H id ⟨ver, true, lz, ty, 1, (srt cmp l).map fun a => [f0 a]⟩) := by
  refine ⟨hcf, fun x cs hxH hx hr => ?_⟩
  subst hxH
  obtain ⟨c0, c1, rfl⟩ : ∃ c0 c1, cs = [c0, c1] := by
    have := hr.1
    match cs with
    | [a, b] => exact ⟨a, b, rfl⟩
    | [] => simp at this
    | [_] => simp at this
    | _ :: _ :: _ :: _ => simp at this
  have r0 : R x (.ms id ver 0 l.length) c0 := hr.2 0 _ rfl
  have r1 : R x (.fn g [] []) c1 := hr.2 1 _ rfl
  cases r1 with
  | fn _ _ _ fs cb hfs hcs _ _ =>
  have hfs' : fs = #[] := Array.eq_empty_of_size_eq_zero (by simpa using hfs)
  have hcs' : cb = #[] := Array.eq_empty_of_size_eq_zero (by simpa using hcs)
  subst hfs'; subst hcs'
  cases r0 with
  | ms _ _ _ _ b n cap hv hh =>
  obtain ⟨e1, e2, e3, e4, e5, e6⟩ := hh (by rw [hH]) (by rw [hH])
  subst e1
  by_cases hne : l = []
  · subst hne
    refine (hN b cap (.func (.func g) #[] #[]) x.w).mono fun e w' h => ?_
    obtain ⟨rfl, rfl⟩ := h
    refine ⟨_, x, rfl, rfl, ?_, hx, .tup [] #[] rfl (fun j v hj => by simp at hj), Frame.refl x⟩
    funext j
    by_cases e : j = id
    · subst e; rw [upd_same, hH]; simp [srt]
    · rw [upd_ne _ _ e]
  have hpos : 0 < l.length := List.length_pos_iff.2 hne
  have ho : (x.H id).own = true := by
    rw [hH]
    cases l with
    | nil => exact (hne rfl).elim
    | cons a l => simp [Blk.own]
  obtain ⟨e7, _⟩ := e5 ho
  rw [hH] at e7
  simp only [Nat.zero_mul] at e7
  subst e7
  obtain ⟨cc, b1, b2, b3, b4⟩ := hx.blk id ho
  simp only [hH] at b1 b2 b3 b4
  rw [List.length_map, Nat.mul_one] at b3
  let A : Type := { i : Nat // i < l.length }
  haveI : Inhabited A := ⟨⟨0, hpos⟩⟩
  let enc : A → Value := fun i => cc.getD i.1 undef
  let cf : A → A → Int := fun a b => cmp (nth l a.1) (nth l b.1)
  let d : Array A := Array.ofFn fun i : Fin l.length => (⟨i.1, i.2⟩ : A)
  have hdn : d.size = l.length := by simp [d]
  have hdi : ∀ i (h : i < l.length), d[i]! = ⟨i, h⟩ := fun i h => by
    rw [getElem!_pos d i (by rw [hdn]; exact h)]; simp [d]
  have hrow : ∀ i, i < l.length → (l.map fun a => [f0 a])[i]? = some [f0 (nth l i)] := fun i hi => by rw [List.getElem?_map, nth_eq hi]; rfl
  have hRx : ∀ a : A, R x (f0 (nth l a.1)) (cc.getD a.1 undef) := fun a => by
    have := b4 a.1 _ 0 _ (hrow a.1 a.2) rfl
    rwa [Nat.mul_one, Nat.add_zero] at this
  have hO' : SWO (ltOf cf) := ⟨fun a => hO.irrefl _, fun a b c => hO.trans _ _ _, fun a b c => hO.ntrans _ _ _⟩
  have hcmp : CmpLays1 P g #[] enc cf (x.σ id) 0 d.size x.w := by
    intro m os dk hdk a b
    let W := sortWorld enc x.w (x.σ id) 0 m dk os
    let z : Cx := start { x with w := W } x.Z
    have hz : Inv z := start_ok fun b hb => Nat.lt_of_lt_of_le (hx.zlt b hb) sortWorld1_size
    have hag : ∀ a : A, R z (f0 (nth l a.1)) (enc a) := fun a => by
      refine (hRx a).pure_same (y := z) (hp _ (nth_mem a.2)) (fun b hb => ?_) fun _ h => h
      exact sortWorld1_other (hx.zlt b hb) fun e => hx.zown b id hb ho e.symm
    have hrl : RL z [f0 (nth l a.1), f0 (nth l b.1)] [enc a, enc b] := by
      refine ⟨rfl, fun j v hj => ?_⟩
      match j, hj with
      | 0, hj => simp at hj; subst hj; exact hag a
      | 1, hj => simp at hj; subst hj; exact hag b
    refine ((hc _ (nth_mem a.2) _ (nth_mem b.2) H0).2 z _ rfl hz hrl).mono fun e w' h => ?_
    obtain ⟨c, y, rfl, rfl, _, _, h5, h6⟩ := h
    cases h5
    obtain ⟨q, os', hq⟩ := grown_of_frame h6 fun id => rfl
    exact ⟨rfl, q, os', hq⟩
  have hsz : d.size < 4611686018427387904 := by rw [hdn]; exact hl
  have hH' : Holds enc x.w (x.σ id) 0 d := by
    intro j hj
    rw [hdn] at hj
    have e : enc d[j]! = cc.getD j undef := by rw [hdi _ hj]
    have hjc : j < cc.size := by omega
    refine ⟨?_, ?_⟩
    · rw [e, Nat.zero_add]; exact own_cell b1 hjc
    · simp [World.frozen?, b1]
  have hcall := hS enc (fun a => (hRx a).one (h1 _ (nth_mem a.2))) cf hO' g #[] (x.σ id) 0 cap d x.w (enters_callable hcg) hcmp hH' (hx.lt ho) hsz
  rw [hdn] at hcall
  refine hcall.mono fun e w' h => ?_
  obtain ⟨rfl, d', n', os', hP, hSo, rfl⟩ := h
  obtain ⟨p1, _, p3⟩ := hP
  rw [hdn] at p1
  have x1 : d'.extract 0 l.length = d' := by rw [← p1]; simp
  have x2 : d.extract 0 l.length = d := by rw [← hdn]; simp
  rw [x1, x2] at p3
  have hmap : d.toList.map (fun a : A => nth l a.1) = l := by
    refine nth_ext (by simp [hdn]) fun j hj => ?_
    have hj' : j < l.length := by simpa [hdn] using hj
    rw [nth_map (by simpa using hj), ← nth_set_eq d j (by rw [hdn]; exact hj'), hdi j hj']
  have hl' : d'.toList.map (fun a : A => nth l a.1) = srt cmp l := by
    have hperm : (d'.toList.map (fun a : A => nth l a.1)).Perm l := by
      have := p3.map (fun a : A => nth l a.1)
      rwa [hmap] at this
    refine sorted_uniq (le := fun a b => ¬cmp b a < 0) (fun a ha b hb h1 h2 => hT a (hperm.mem_iff.1 ha) b (hperm.mem_iff.1 hb) h2 h1) (hperm.trans (srt_perm cmp l).symm) ?_ (srt_sorted hO l)
    rw [List.pairwise_map, List.pairwise_iff_getElem]
    intro i j hi hj hij
    have h := hSo i j (Nat.zero_le _) hij (by rw [← p1]; simpa using hj)
    rw [nth_set_eq d' i (by simpa using hi), nth_set_eq d' j (by simpa using hj), ← nth_getElem hi, ← nth_getElem hj] at h
    simpa [ltOf, cf] using h
  let cc' := putCells enc 0 d' cc
  have hcs : cc'.size = cc.size := by simp [cc', putCells]
  have hg : ∀ r, r < l.length → ∀ (hr : r < d'.size), cc'.getD r undef = cc.getD (d'[r]'hr).1 undef := by
    intro r hr hr'
    have e : cc'[r]? = some (enc d'[r]!) := by
      simp only [cc', putCells, Array.getElem?_mapIdx]
      rw [Array.getElem?_eq_getElem (by omega)]
      simp [hr']
    rw [Array.getD_eq_getD_getElem?, e, getElem!_pos d' r hr']
    rfl
  have hrows : ∀ (r : Nat) (row : List V) (j : Nat) (v : V), ((srt cmp l).map fun a => [f0 a])[r]? = some row → row[j]? = some v → R x v (cc'.getD (r * 1 + j) undef) := by
    intro r row j v hr hj
    rw [← hl', List.map_map, List.getElem?_map] at hr
    obtain ⟨a, ha, rfl⟩ := map_some hr
    have har := List.getElem?_eq_some_iff.1 ha
    obtain ⟨hlt, hae⟩ := har
    have hlt' : r < d'.size := by simpa using hlt
    have hj0 : j = 0 := by
      have := (List.getElem?_eq_some_iff.1 hj).1
      simp at this; exact this
    subst hj0
    simp only [Function.comp_apply, List.getElem?_cons_zero, Option.some.injEq] at hj
    subst hj
    rw [Nat.mul_one, Nat.add_zero, hg r (by omega) hlt']
    have hae' : d'[r]'hlt' = a := by simpa using hae
    rw [hae']
    exact hRx a
  have st := step_set hx id ho cc cc' (by rw [hH]; exact b1) hcs (x.H id).ver ((srt cmp l).map fun a => [f0 a]) (Nat.le_refl _) (fun _ => by rw [hH]; simp [srt]) (by
      rw [hH]
      have : (srt cmp l).length = l.length := by simp [srt]
      cases hq : srt cmp l with
      | nil => rw [hq] at this; simp at this; omega
      | cons a q => simp) (fun r hr => by
      rw [hH]
      obtain ⟨a, _, rfl⟩ := List.mem_map.1 hr
      rfl) (by rw [hH]; simpa [srt] using b3) (by simp only [hH]; exact hrows)
  simp only [hH] at st
  obtain ⟨i1, f1⟩ := st
  obtain ⟨i2, f2⟩ := step_draw i1 (x.w.drawn + n') (Nat.le_add_right _ _)
  obtain ⟨i3, f3⟩ := step_grow i2 os'
  refine ⟨.tuple #[], _, rfl, ?_, ?_, i3, .tup [] #[] rfl (fun j v hj => by simp at hj), (f1.trans f2).trans f3⟩
  · rw [sortWorld1_eq b1]
  · rfl
end Go.Proofs.YtmnjchcoigbngaaGreat


namespace Go.Proofs.YtmnjchcoigbngaaGreat
open Go Go.Proofs Go.Shelf Go.Sort
def sortRen103 : Go.Shelf.Ren := ⟨fun | 6 => 103 | 15 => 117 | 14 => 116 | 28 => 128 | 29 => 129 | 20 => 120 | 21 => 121 | 22 => 122 | 23 => 123 | 24 => 124 | 25 => 125 | 26 => 126 | 27 => 127 | 46 => 130 | 47 => 131 | 48 => 132 | 49 => 133 | 50 => 134 | 57 => 135 | n => n, fun | 22 => 31 | 24 => 38 | 25 => 77 | 3 => 3 | 39 => 123 | 0 => 0 | 53 => 137 | 55 => 139 | 4 => 4 | 46 => 131 | 45 => 130 | 50 => 80 | 5 => 5 | 9 => 9 | 66 => 140 | 70 => 144 | 76 => 146 | 77 => 147 | n => n, fun n => n⟩
theorem sortLay103 : SlLaysF.n6 Tryz.prog sortRen103 := {
  mixed := (by kernel_rfl),
  f6 := ⟨Tryz.f103.name, by decide, Tryz.func103.trans (congrArg some (by kernel_rfl))⟩,
  f14 := ⟨Tryz.f116.name, by decide, Tryz.func116.trans (congrArg some (by kernel_rfl))⟩,
  f15 := Tryz.func117.trans (congrArg some (by kernel_rfl)),
  f20 := ⟨Tryz.f120.name, by decide, Tryz.func120.trans (congrArg some (by kernel_rfl))⟩,
  f21 := ⟨Tryz.f121.name, by decide, Tryz.func121.trans (congrArg some (by kernel_rfl))⟩,
  f22 := ⟨Tryz.f122.name, by decide, Tryz.func122.trans (congrArg some (by kernel_rfl))⟩,
  f23 := ⟨Tryz.f123.name, by decide, Tryz.func123.trans (congrArg some (by kernel_rfl))⟩,
  f24 := ⟨Tryz.f124.name, by decide, Tryz.func124.trans (congrArg some (by kernel_rfl))⟩,
  f25 := ⟨Tryz.f125.name, by decide, Tryz.func125.trans (congrArg some (by kernel_rfl))⟩,
  f26 := ⟨Tryz.f126.name, by decide, Tryz.func126.trans (congrArg some (by kernel_rfl))⟩,
  f27 := ⟨Tryz.f127.name, by decide, Tryz.func127.trans (congrArg some (by kernel_rfl))⟩,
  f28 := Tryz.func128.trans (congrArg some (by kernel_rfl)),
  f29 := Tryz.func129.trans (congrArg some (by kernel_rfl)),
  f46 := ⟨Tryz.f130.name, by decide, Tryz.func130.trans (congrArg some (by kernel_rfl))⟩,
  f47 := Tryz.func131.trans (congrArg some (by kernel_rfl)),
  f48 := Tryz.func132.trans (congrArg some (by kernel_rfl)),
  f49 := ⟨Tryz.f133.name, by decide, Tryz.func133.trans (congrArg some (by kernel_rfl))⟩,
  f50 := ⟨Tryz.f134.name, by decide, Tryz.func134.trans (congrArg some (by kernel_rfl))⟩,
  f57 := ⟨Tryz.f135.name, by decide, Tryz.func135.trans (congrArg some (by kernel_rfl))⟩,
  t0 := Tryz.underlying0,
  a0 := Tryz.isAgg0,
  z0 := Tryz.sizeOf0,
  v0 := Tryz.zeroValue0,
  t3 := Tryz.underlying3,
  a3 := Tryz.isAgg3,
  z3 := Tryz.sizeOf3,
  v3 := Tryz.zeroValue3,
  t4 := Tryz.underlying4,
  a4 := Tryz.isAgg4,
  z4 := Tryz.sizeOf4,
  v4 := Tryz.zeroValue4,
  t5 := Tryz.underlying5,
  a5 := Tryz.isAgg5,
  z5 := Tryz.sizeOf5,
  v5 := Tryz.zeroValue5,
  t9 := Tryz.underlying9,
  a9 := Tryz.isAgg9,
  z9 := Tryz.sizeOf9,
  v9 := Tryz.zeroValue9,
  t22 := Tryz.underlying31,
  a22 := Tryz.isAgg31,
  z22 := Tryz.sizeOf31,
  v22 := Tryz.zeroValue31,
  a24 := Tryz.isAgg38,
  z24 := Tryz.sizeOf38,
  t25 := Tryz.underlying77,
  a25 := Tryz.isAgg77,
  z25 := Tryz.sizeOf77,
  v25 := Tryz.zeroValue77,
  t39 := Tryz.underlying123,
  a39 := Tryz.isAgg123,
  z39 := Tryz.sizeOf123,
  v39 := Tryz.zeroValue123,
  t45 := Tryz.underlying130,
  a45 := Tryz.isAgg130,
  z45 := Tryz.sizeOf130,
  v45 := Tryz.zeroValue130,
  t46 := Tryz.underlying131,
  a46 := Tryz.isAgg131,
  z46 := Tryz.sizeOf131,
  v46 := Tryz.zeroValue131,
  t50 := Tryz.underlying80,
  a50 := Tryz.isAgg80,
  z50 := Tryz.sizeOf80,
  v50 := Tryz.zeroValue80,
  t53 := Tryz.underlying137,
  a53 := Tryz.isAgg137,
  z53 := Tryz.sizeOf137,
  v53 := Tryz.zeroValue137,
  t55 := Tryz.underlying139,
  a55 := Tryz.isAgg139,
  z55 := Tryz.sizeOf139,
  v55 := Tryz.zeroValue139,
  t66 := Tryz.underlying140,
  a66 := Tryz.isAgg140,
  z66 := Tryz.sizeOf140,
  v66 := Tryz.zeroValue140,
  t70 := Tryz.underlying144,
  a70 := Tryz.isAgg144,
  z70 := Tryz.sizeOf144,
  v70 := Tryz.zeroValue144,
  t76 := Tryz.underlying146,
  a76 := Tryz.isAgg146,
  z76 := Tryz.sizeOf146,
  v76 := Tryz.zeroValue146,
  t77 := Tryz.underlying147,
  a77 := Tryz.isAgg147,
  z77 := Tryz.sizeOf147,
  v77 := Tryz.zeroValue147 }
theorem sortSpec103 : SortSpec1 Tryz.prog 103 := fun enc h1 cf hO g cb blk off cap d w eg hcmp hH hblk hsz =>
  Any.slices_SortFunc sortLay103 enc h1 cf hO g cb blk off cap d w eg hcmp hH hblk hsz
theorem sortCall103 : callable Tryz.prog 103 := ⟨_, Tryz.func103, by kernel_rfl, by kernel_rfl⟩
theorem sortNone103 : SortNone Tryz.prog 103 := fun p cap fv w => AnyF.slices_SortFunc_none { sortLay103 with } p cap fv w
end Go.Proofs.YtmnjchcoigbngaaGreat


namespace Go.Proofs.YtmnjchcoigbngaaGreat
open Go Go.Proofs
theorem ordered_pure (l : List (List Int)) (hl : l.length ≤ 1073741824) (hw : ∀ w ∈ l, w.length ≤ 1048576) : PureC Tryz.prog 74 [(V.sl (List.map cL (l))), (V.fn 75 [] [])] (V.sl (List.map cL (sdP l))) := by
 refine pure_of_Wb true 6 Tryz.func74 s74_ok (by kernel_rfl) (by simp [s74]) (by simp) (by simp) fun hB => ?_
 simp only [bnd_map, bnd_int, bnd_bool, bnd_str, bnd_agg, bnd_pp, bnd_nil, bnd_cons, implies_true, and_true, true_and] at hB
 unfold s74
 dsimp only
 have q9 : (ddK (srt slx l) (srt slx l).length).length ≤ l.length := sdP_len l
 refine W_seq_regc (fun T H => T 0 = (V.sl (List.map cL (l))) ∧ T 3 = (V.mp 3 1 0 0) ∧ H 3 = (⟨1, true, false, 77, 1, [[(V.fn 75 [] [])]]⟩ : Blk) ∧ H 202 = (⟨0, false, false, 0, 0, []⟩ : Blk) ∧ True) ?_ ?_
 ·
  unfold r74_0
  refine R_box (i := 3) (n := 0) (m := 1) (cs := [(V.fn 75 [] [])]) rfl (congrArg Blk.ver rfl) (@rfl V (V.fn 75 [] [])) rfl rfl ?_
  refine R_mv (@rfl V V.nilsl) ?_
  exact R_nil ⟨rfl, rfl, rfl, rfl, trivial⟩
 intro T H ⟨t0, t3, h3, h202, _⟩
 refine W_seq_regc (fun T H => T 3 = (V.mp 3 1 0 0) ∧ T 5 = (V.ms 202 3 0 (l.length)) ∧ H 3 = (⟨1, true, false, 77, 1, [[(V.fn 75 [] [])]]⟩ : Blk) ∧ H 202 = (⟨3, true, true, 38, 1, (List.map cL (l))⟩ : Blk) ∧ True) ?_ ?_
 ·
  unfold r74_1
  refine R_mv t0 ?_
  refine R_callE (evcons (@rfl V (V.sl (List.map cL (l)))) evnil) (clonew_E l 0 _ (congrArg Blk.ver h202) (by omega)) ?_
  refine R_mv (@rfl V (V.ms 202 3 0 (l.length))) ?_
  exact R_nil ⟨t3, rfl, h3, rfl, trivial⟩
 intro T H ⟨t3, t5, h3, h202, _⟩
 refine W_seq_regc (fun T H => T 3 = (V.mp 3 1 0 0) ∧ T 5 = (V.ms 202 3 0 (l.length)) ∧ H 3 = (⟨1, true, false, 77, 1, [[(V.fn 75 [] [])]]⟩ : Blk) ∧ H 202 = (⟨3, true, true, 38, 1, (List.map cL (srt slx l))⟩ : Blk) ∧ True) ?_ ?_
 ·
  unfold r74_2
  refine R_mv t5 ?_
  refine R_load_mp (v := (V.fn 75 [] [])) t3 h3 (by first | rfl | simp [ldB, ldV, Blk.own, V.one]) ?_
  refine R_callE (evcons (@rfl V (V.ms 202 3 0 (l.length))) (evcons (@rfl V (V.fn 75 [] [])) evnil)) (CallOK_sort1 (f0 := ints) (l := l) (cmp := slx) sortSpec103 sortNone103 sortCall103 ⟨_, Tryz.func75, by kernel_rfl, by kernel_rfl⟩ slx_swo (fun a _ b _ h1 h2 => slx_same h1 h2) (fun a _ b _ => compare_pure a b) (fun a _ => by simp) (fun a _ => rfl) (by omega) h202) ?_
  exact R_nil ⟨t3, t5, h3, rfl, trivial⟩
 intro T H ⟨t3, t5, h3, h202, _⟩
 refine W_seq_regc (fun T H => T 5 = (V.ms 202 3 0 ((ddK (srt slx l) (srt slx l).length).length)) ∧ H 3 = (⟨1, true, false, 77, 1, [[(V.fn 75 [] [])]]⟩ : Blk) ∧ H 202 = (⟨3, true, true, 38, 1, (List.map cL (ddK (srt slx l) (srt slx l).length) ++ List.replicate ((srt slx l).length - (ddK (srt slx l) (srt slx l).length).length) [V.nilsl])⟩ : Blk) ∧ True) ?_ ?_
 ·
  unfold r74_3
  refine R_mv t5 ?_
  refine R_mkf (evcons t3 evnil) ?_
  refine R_callE (evcons (@rfl V (V.ms 202 3 0 (l.length))) (evcons (@rfl V (V.fn 105 [] [(V.mp 3 1 0 0)])) evnil)) (compw_E (srt slx l) 3 1 l.length _ h202 h3 (by simp [srt_len]) (by simp only [srt_len]; omega)) ?_
  refine R_mv (@rfl V (V.ms 202 3 0 ((ddK (srt slx l) (srt slx l).length).length))) ?_
  exact R_nil ⟨rfl, h3, rfl, trivial⟩
 intro T H ⟨t5, h3, h202, _⟩
 refine W_seq_seq ?_
 refine W_seq_regc (fun T H => T 5 = (V.ms 202 3 0 ((ddK (srt slx l) (srt slx l).length).length)) ∧ T 16 = (V.ms 202 3 0 ((ddK (srt slx l) (srt slx l).length).length)) ∧ T 17 = (iV (((ddK (srt slx l) (srt slx l).length).length : Nat) : Int)) ∧ T 18 = (iV (0 : Int)) ∧ H 3 = (⟨1, true, false, 77, 1, [[(V.fn 75 [] [])]]⟩ : Blk) ∧ H 202 = (⟨3, true, true, 38, 1, (List.map cL (ddK (srt slx l) (srt slx l).length) ++ List.replicate ((srt slx l).length - (ddK (srt slx l) (srt slx l).length).length) [V.nilsl])⟩ : Blk) ∧ True) ?_ ?_
 ·
  unfold r74_4
  refine R_mv t5 ?_
  refine R_len_ms (@rfl V (V.ms 202 3 0 ((ddK (srt slx l) (srt slx l).length).length))) h202 (by first | rfl | simp) ?_
  refine R_mv (@rfl V (iV (0 : Int))) ?_
  exact R_nil ⟨t5, rfl, rfl, rfl, h3, h202, trivial⟩
 intro T H ⟨t5, t16, t17, t18, h3, h202, _⟩
 refine W_seq_blockg fun Q1 n1 x1 y1 z1 => ?_
 refine W_loop (fun mm T H => ∃ (k : Nat), mm = ((ddK (srt slx l) (srt slx l).length).length) - k ∧ T 5 = (V.ms 202 3 0 ((ddK (srt slx l) (srt slx l).length).length)) ∧ T 16 = (V.ms 202 3 0 ((ddK (srt slx l) (srt slx l).length).length)) ∧ T 17 = (iV (((ddK (srt slx l) (srt slx l).length).length : Nat) : Int)) ∧ T 18 = (iV ((k : Nat) : Int)) ∧ H 3 = (⟨1, true, false, 77, 1, [[(V.fn 75 [] [])]]⟩ : Blk) ∧ H 202 = (⟨3, true, true, 38, 1, (List.map cL (ddK (srt slx l) (srt slx l).length) ++ List.replicate ((srt slx l).length - (ddK (srt slx l) (srt slx l).length).length) [V.nilsl])⟩ : Blk) ∧ (k ≤ (ddK (srt slx l) (srt slx l).length).length)) ?_ ?_
 ·
  refine ⟨_, 0, rfl, t5, t16, t17, (Eq.trans t18 (by first | rfl | simp)), h3, h202, ?_⟩
  · omega
 intro mm T H ⟨k, hmm, t5, t16, t17, t18, h3, h202, hk⟩ Q2 p12 p22 p32
 unfold b74_0
 refine W_seq_regc (fun T H => T 5 = (V.ms 202 3 0 ((ddK (srt slx l) (srt slx l).length).length)) ∧ T 16 = (V.ms 202 3 0 ((ddK (srt slx l) (srt slx l).length).length)) ∧ T 17 = (iV (((ddK (srt slx l) (srt slx l).length).length : Nat) : Int)) ∧ T 18 = (iV ((k : Nat) : Int)) ∧ T 19 = (V.bool (decide (((k : Nat) : Int) < (((ddK (srt slx l) (srt slx l).length).length : Nat) : Int)))) ∧ H 3 = (⟨1, true, false, 77, 1, [[(V.fn 75 [] [])]]⟩ : Blk) ∧ H 202 = (⟨3, true, true, 38, 1, (List.map cL (ddK (srt slx l) (srt slx l).length) ++ List.replicate ((srt slx l).length - (ddK (srt slx l) (srt slx l).length).length) [V.nilsl])⟩ : Blk) ∧ True) ?_ ?_
 ·
  unfold r74_5
  refine R_lss (x := ((k : Nat) : Int)) (y := (((ddK (srt slx l) (srt slx l).length).length : Nat) : Int)) t18 t17 ?_
  exact R_nil ⟨t5, t16, t17, t18, rfl, h3, h202, trivial⟩
 intro T H ⟨t5, t16, t17, t18, t19, h3, h202, _⟩
 refine W_seq_if (p := ((k : Nat) : Int) < (((ddK (srt slx l) (srt slx l).length).length : Nat) : Int)) t19 (fun c3 => ?_) (fun c3 => ?_)
 ·
  refine W_seq_skip ?_
  refine W_seq_blockg fun Q4 n4 x4 y4 z4 => ?_
  refine W_seq_regc (fun T H => T 5 = (V.ms 202 3 0 ((ddK (srt slx l) (srt slx l).length).length)) ∧ T 6 = (iV ((k : Nat) : Int)) ∧ T 7 = (V.sl (List.map cI ((nth (ddK (srt slx l) (srt slx l).length) (k))))) ∧ T 16 = (V.ms 202 3 0 ((ddK (srt slx l) (srt slx l).length).length)) ∧ T 17 = (iV (((ddK (srt slx l) (srt slx l).length).length : Nat) : Int)) ∧ T 18 = (iV ((k : Nat) : Int)) ∧ H 3 = (⟨1, true, false, 77, 1, [[(V.fn 75 [] [])]]⟩ : Blk) ∧ H 202 = (⟨3, true, true, 38, 1, (List.map cL (ddK (srt slx l) (srt slx l).length) ++ List.replicate ((srt slx l).length - (ddK (srt slx l) (srt slx l).length).length) [V.nilsl])⟩ : Blk) ∧ True) ?_ ?_
  ·
   unfold r74_6
   refine R_mv t18 ?_
   refine R_idx_ms0 (i := k) t16 t18 h202 (okB_zap (by omega)) rfl (by omega) ?_
   refine R_load_mp (v := (V.sl (List.map cI ((nth (ddK (srt slx l) (srt slx l).length) (k)))))) (@rfl V (V.mp 202 3 k 0)) h202 (ldB_zap (by omega) (by first | rfl | simp [ldV, V.one])) ?_
   refine R_mv (@rfl V (iV ((k : Nat) : Int))) ?_
   refine R_mv (@rfl V (V.sl (List.map cI ((nth (ddK (srt slx l) (srt slx l).length) (k)))))) ?_
   exact R_nil ⟨t5, rfl, rfl, t16, t17, t18, h3, h202, trivial⟩
  intro T H ⟨t5, t6, t7, t16, t17, t18, h3, h202, _⟩
  refine W_regc (fun T H => T 5 = (V.ms 202 3 0 ((ddK (srt slx l) (srt slx l).length).length)) ∧ T 16 = (V.ms 202 3 0 ((ddK (srt slx l) (srt slx l).length).length)) ∧ T 17 = (iV (((ddK (srt slx l) (srt slx l).length).length : Nat) : Int)) ∧ T 18 = (iV ((k : Nat) : Int)) ∧ H 3 = (⟨1, true, false, 77, 1, [[(V.fn 75 [] [])]]⟩ : Blk) ∧ H 202 = (⟨3, true, true, 38, 1, (List.map cL ((ddK (srt slx l) (srt slx l).length).set k (((nth (ddK (srt slx l) (srt slx l).length) (k))))) ++ List.replicate ((srt slx l).length - (ddK (srt slx l) (srt slx l).length).length) [V.nilsl])⟩ : Blk) ∧ True) ?_ ?_
  ·
   unfold r74_7
   refine R_mv t5 ?_
   refine R_mv t6 ?_
   refine R_mv t7 ?_
   refine R_call (evcons (@rfl V (V.sl (List.map cI ((nth (ddK (srt slx l) (srt slx l).length) (k)))))) evnil) (clone_pure ((nth (ddK (srt slx l) (srt slx l).length) (k))) (by have q := hw (nth (ddK (srt slx l) (srt slx l).length) k) (mem_sdP.1 (show nth (ddK (srt slx l) (srt slx l).length) k ∈ sdP l from nth_mem (show k < (ddK (srt slx l) (srt slx l).length).length by omega))); omega)) (fzv_mapcanon _ _ (by simp [-List.map_take, -List.map_drop, -List.map_append, -List.map_reverse])) (by simp [-List.map_take, -List.map_drop, -List.map_append, -List.map_reverse]) (Or.inl (by simp [-List.map_take, -List.map_drop, -List.map_append, -List.map_reverse])) ?_
   refine R_idx_ms0 (i := k) (@rfl V (V.ms 202 3 0 ((ddK (srt slx l) (srt slx l).length).length))) (@rfl V (iV ((k : Nat) : Int))) h202 (okB_zap (by omega)) rfl (by omega) ?_
   refine R_store (vs := [(V.sl (List.map cI (((nth (ddK (srt slx l) (srt slx l).length) (k))))))]) (B' := (⟨3, true, true, 38, 1, (List.map cL ((ddK (srt slx l) (srt slx l).length).set k (((nth (ddK (srt slx l) (srt slx l).length) (k))))) ++ List.replicate ((srt slx l).length - (ddK (srt slx l) (srt slx l).length).length) [V.nilsl])⟩ : Blk)) (@rfl V (V.mp 202 3 k 0)) (@rfl V (V.sl (List.map cI (((nth (ddK (srt slx l) (srt slx l).length) (k))))))) rfl h202 (stB_zap (x := (((nth (ddK (srt slx l) (srt slx l).length) (k))))) (i := k) (by omega) rfl rfl rfl rfl) ?_
   exact R_nil ⟨t5, t16, t17, t18, h3, rfl, trivial⟩
  intro T H ⟨t5, t16, t17, t18, h3, h202, _⟩
  refine n4 _ _ ?_
  refine .done ?_
  refine W_regc (fun T H => T 5 = (V.ms 202 3 0 ((ddK (srt slx l) (srt slx l).length).length)) ∧ T 16 = (V.ms 202 3 0 ((ddK (srt slx l) (srt slx l).length).length)) ∧ T 17 = (iV (((ddK (srt slx l) (srt slx l).length).length : Nat) : Int)) ∧ T 18 = (iV ((k + 1 : Nat) : Int)) ∧ H 3 = (⟨1, true, false, 77, 1, [[(V.fn 75 [] [])]]⟩ : Blk) ∧ H 202 = (⟨3, true, true, 38, 1, (List.map cL ((ddK (srt slx l) (srt slx l).length).set k (((nth (ddK (srt slx l) (srt slx l).length) (k))))) ++ List.replicate ((srt slx l).length - (ddK (srt slx l) (srt slx l).length).length) [V.nilsl])⟩ : Blk) ∧ True) ?_ ?_
  ·
   unfold r74_8
   refine R_addN (m := k) (n := 1) t18 (@rfl V (iV ((1 : Nat) : Int))) (by omega) ?_
   refine R_mv (@rfl V (iV ((k + 1 : Nat) : Int))) ?_
   exact R_nil ⟨t5, t16, t17, rfl, h3, h202, trivial⟩
  intro T H ⟨t5, t16, t17, t18, h3, h202, _⟩
  refine p12 _ _ _ ?_ ⟨(k + 1), rfl, t5, t16, t17, (Eq.trans t18 (by first | rfl | simp)), h3, (Eq.trans h202 (by first | rfl | (rw [set_nth (by omega)]; done))), ?_⟩
  · omega
  · omega
 refine W_seq_exit ?_
 refine p32 _ _ _ ?_
 refine x1 _ _ ?_
 refine .done ?_
 refine W_seq_regc (fun T H => T 4 = (V.ms 202 3 0 ((ddK (srt slx l) (srt slx l).length).length)) ∧ H 3 = (⟨1, true, false, 77, 1, [[(V.fn 75 [] [])]]⟩ : Blk) ∧ H 202 = (⟨3, true, true, 38, 1, (List.map cL (ddK (srt slx l) (srt slx l).length) ++ List.replicate ((srt slx l).length - (ddK (srt slx l) (srt slx l).length).length) [V.nilsl])⟩ : Blk) ∧ True) ?_ ?_
 ·
  unfold r74_9
  refine R_mv t5 ?_
  refine R_mv (@rfl V (V.ms 202 3 0 ((ddK (srt slx l) (srt slx l).length).length))) ?_
  exact R_nil ⟨rfl, h3, h202, trivial⟩
 intro T H ⟨t4, h3, h202, _⟩
 refine W_ret ?_
 refine Ret_1 t4 (fz_mstR h202 (by first | rfl | simp) (take_zap (l := (ddK (srt slx l) (srt slx l).length)) (by first | rfl | simp | omega)) (fun _ => by simp) ?_)
 · rfl
end Go.Proofs.YtmnjchcoigbngaaGreat


namespace Go.Proofs.YtmnjchcoigbngaaGreat
open Go Go.Proofs
theorem sorted_pure (l : List (List Int)) (hl : l.length ≤ 1073741824) (hw : ∀ w ∈ l, w.length ≤ 1048576) : PureC Tryz.prog 38 [(V.sl (List.map cL (l)))] (V.sl (List.map cL (sdW l))) := by
 refine pure_of_Wb true 6 Tryz.func38 s38_ok (by kernel_rfl) (by simp [s38]) (by simp) (by simp) fun hB => ?_
 simp only [bnd_map, bnd_int, bnd_bool, bnd_str, bnd_agg, bnd_pp, bnd_nil, bnd_cons, implies_true, and_true, true_and] at hB
 unfold s38
 dsimp only
 refine W_seq_regc (fun T H => T 0 = (V.sl (List.map cL (l))) ∧ True) ?_ ?_
 ·
  unfold r38_0
  refine R_mv (@rfl V V.nilsl) ?_
  exact R_nil ⟨rfl, trivial⟩
 intro T H ⟨t0, _⟩
 refine W_seq_regc (fun T H => T 2 = (V.sl (List.map cL (sdP l))) ∧ True) ?_ ?_
 ·
  unfold r38_1
  refine R_mv t0 ?_
  refine R_call (evcons (@rfl V (V.sl (List.map cL (l)))) (evcons (@rfl V (V.fn 75 [] [])) evnil)) (ordered_pure l hl hw) (fzv_mapcanon _ _ (by simp [-List.map_take, -List.map_drop, -List.map_append, -List.map_reverse])) (by simp [-List.map_take, -List.map_drop, -List.map_append, -List.map_reverse]) (Or.inl (by simp [-List.map_take, -List.map_drop, -List.map_append, -List.map_reverse])) ?_
  refine R_mv (@rfl V (V.sl (List.map cL (sdP l)))) ?_
  exact R_nil ⟨rfl, trivial⟩
 intro T H ⟨t2, _⟩
 refine W_ret ?_
 refine Ret_1 t2 (fz_sl ?_ (fun _ => by simp))
 · exact sdP_eq l
end Go.Proofs.YtmnjchcoigbngaaGreat


namespace Go.Proofs.YtmnjchcoigbngaaGreat
open Go Go.Proofs
theorem dvalid_pure (t : Dt) (hb : Bd t) : PureC Tryz.prog 11 [(V.agg [(V.sl (List.map cN (t.nd)))])] (iV (dvE t)) := by
 refine pure_of_Wb true 6 Tryz.func11 s11_ok (by kernel_rfl) (by simp [s11]) (by simp) (by simp) fun hB => ?_
 simp only [bnd_map, bnd_int, bnd_bool, bnd_str, bnd_agg, bnd_pp, bnd_nil, bnd_cons, implies_true, and_true, true_and] at hB
 unfold s11
 dsimp only
 refine W_seq_regc (fun T H => T 1 = (V.mp 1 1 0 0) ∧ H 1 = (⟨1, true, false, 24, 1, [[(V.sl (List.map cN (t.nd)))]]⟩ : Blk) ∧ H 4 = (⟨0, false, false, 0, 0, []⟩ : Blk) ∧ True) ?_ ?_
 ·
  unfold r11_0
  refine R_box (i := 1) (n := 0) (m := 1) (cs := [(V.sl (List.map cN (t.nd)))]) rfl (congrArg Blk.ver rfl) (@rfl V (V.agg [(V.sl (List.map cN (t.nd)))])) rfl rfl ?_
  refine R_mv (@rfl V (iV (0 : Int))) ?_
  exact R_nil ⟨rfl, rfl, rfl, trivial⟩
 intro T H ⟨t1, h1, h4, _⟩
 refine W_seq_blockg fun Q1 n1 x1 y1 z1 => ?_
 refine W_seq_regc (fun T H => T 1 = (V.mp 1 1 0 0) ∧ T 7 = (V.bool (decide (((t.nd.length : Nat) : Int) = (0 : Int)))) ∧ H 1 = (⟨1, true, false, 24, 1, [[(V.sl (List.map cN (t.nd)))]]⟩ : Blk) ∧ H 4 = (⟨0, false, false, 0, 0, []⟩ : Blk) ∧ True) ?_ ?_
 ·
  unfold r11_1
  refine R_fld_mp (o' := 0) t1 h1 (by first | rfl | simp [okB, Blk.own]) rfl ?_
  refine R_load_mp (v := (V.sl (List.map cN (t.nd)))) (@rfl V (V.mp 1 1 0 0)) h1 (by first | rfl | simp [ldB, ldV, Blk.own, V.one]) ?_
  refine R_len (@rfl V (V.sl (List.map cN (t.nd)))) ?_
  refine R_eql (x := ((t.nd.length : Nat) : Int)) (y := (0 : Int)) (@rfl V (iV ((t.nd.length : Nat) : Int))) (@rfl V (iV (0 : Int))) ?_
  refine R_mv (@rfl V (V.bool (decide (((t.nd.length : Nat) : Int) = (0 : Int))))) ?_
  exact R_nil ⟨t1, rfl, h1, h4, trivial⟩
 intro T H ⟨t1, t7, h1, h4, _⟩
 refine W_if (p := ((t.nd.length : Nat) : Int) = (0 : Int)) t7 (fun c2 => ?_) (fun c2 => ?_)
 ·
  refine W_seq_regc (fun T H => T 2 = (iV (19 : Int)) ∧ H 1 = (⟨1, true, false, 24, 1, [[(V.sl (List.map cN (t.nd)))]]⟩ : Blk) ∧ H 4 = (⟨0, false, false, 0, 0, []⟩ : Blk) ∧ True) ?_ ?_
  ·
   unfold r11_2
   refine R_mv (@rfl V (iV (19 : Int))) ?_
   exact R_nil ⟨rfl, h1, h4, trivial⟩
  intro T H ⟨t2, h1, h4, _⟩
  refine W_ret ?_
  refine y1 _ _ ?_
  refine Ret_1 t2 (fz_int ?_)
  · rw [dvE, if_pos (by omega)]
 refine W_seq_regc (fun T H => T 1 = (V.mp 1 1 0 0) ∧ T 12 = (V.bool (decide ((4096 : Int) < ((t.nd.length : Nat) : Int)))) ∧ H 1 = (⟨1, true, false, 24, 1, [[(V.sl (List.map cN (t.nd)))]]⟩ : Blk) ∧ H 4 = (⟨0, false, false, 0, 0, []⟩ : Blk) ∧ True) ?_ ?_
 ·
  unfold r11_3
  refine R_fld_mp (o' := 0) t1 h1 (by first | rfl | simp [okB, Blk.own]) rfl ?_
  refine R_load_mp (v := (V.sl (List.map cN (t.nd)))) (@rfl V (V.mp 1 1 0 0)) h1 (by first | rfl | simp [ldB, ldV, Blk.own, V.one]) ?_
  refine R_len (@rfl V (V.sl (List.map cN (t.nd)))) ?_
  refine R_gtr (x := ((t.nd.length : Nat) : Int)) (y := (4096 : Int)) (@rfl V (iV ((t.nd.length : Nat) : Int))) (@rfl V (iV (4096 : Int))) ?_
  refine R_mv (@rfl V (V.bool (decide ((4096 : Int) < ((t.nd.length : Nat) : Int))))) ?_
  exact R_nil ⟨t1, rfl, h1, h4, trivial⟩
 intro T H ⟨t1, t12, h1, h4, _⟩
 refine W_if (p := (4096 : Int) < ((t.nd.length : Nat) : Int)) t12 (fun c3 => ?_) (fun c3 => ?_)
 ·
  refine W_seq_regc (fun T H => T 2 = (iV (11 : Int)) ∧ H 1 = (⟨1, true, false, 24, 1, [[(V.sl (List.map cN (t.nd)))]]⟩ : Blk) ∧ H 4 = (⟨0, false, false, 0, 0, []⟩ : Blk) ∧ True) ?_ ?_
  ·
   unfold r11_4
   refine R_mv (@rfl V (iV (11 : Int))) ?_
   exact R_nil ⟨rfl, h1, h4, trivial⟩
  intro T H ⟨t2, h1, h4, _⟩
  refine W_ret ?_
  refine y1 _ _ ?_
  refine Ret_1 t2 (fz_int ?_)
  · rw [dvE, if_neg (by omega), if_pos (by omega)]
 refine W_skip ?_
 refine n1 _ _ ?_
 refine .done ?_
 refine W_seq_seq ?_
 refine W_seq_regc (fun T H => T 1 = (V.mp 1 1 0 0) ∧ T 18 = (V.sl (List.map cN (t.nd))) ∧ T 19 = (iV ((t.nd.length : Nat) : Int)) ∧ T 20 = (iV (0 : Int)) ∧ H 1 = (⟨1, true, false, 24, 1, [[(V.sl (List.map cN (t.nd)))]]⟩ : Blk) ∧ H 4 = (⟨0, false, false, 0, 0, []⟩ : Blk) ∧ True) ?_ ?_
 ·
  unfold r11_5
  refine R_fld_mp (o' := 0) t1 h1 (by first | rfl | simp [okB, Blk.own]) rfl ?_
  refine R_load_mp (v := (V.sl (List.map cN (t.nd)))) (@rfl V (V.mp 1 1 0 0)) h1 (by first | rfl | simp [ldB, ldV, Blk.own, V.one]) ?_
  refine R_len (@rfl V (V.sl (List.map cN (t.nd)))) ?_
  refine R_mv (@rfl V (iV (0 : Int))) ?_
  exact R_nil ⟨t1, rfl, rfl, rfl, h1, h4, trivial⟩
 intro T H ⟨t1, t18, t19, t20, h1, h4, _⟩
 refine W_seq_blockg fun Q4 n4 x4 y4 z4 => ?_
 refine W_loop (fun mm T H => ∃ (k : Nat) (v4 : Nat), mm = t.nd.length - k ∧ T 1 = (V.mp 1 1 0 0) ∧ T 18 = (V.sl (List.map cN (t.nd))) ∧ T 19 = (iV ((t.nd.length : Nat) : Int)) ∧ T 20 = (iV ((k : Nat) : Int)) ∧ H 1 = (⟨1, true, false, 24, 1, [[(V.sl (List.map cN (t.nd)))]]⟩ : Blk) ∧ (H 4).ver = v4 ∧ (k ≤ t.nd.length) ∧ (0 < t.nd.length) ∧ (t.nd.length ≤ 4096) ∧ (∀ j, j < k → ndE (nth t.nd j) t.nd.length = 0) ∧ (fe (fun k => ndE (nth t.nd k) t.nd.length) 0 t.nd.length = fe (fun k => ndE (nth t.nd k) t.nd.length) k (t.nd.length - k))) ?_ ?_
 ·
  refine ⟨_, 0, 0, rfl, t1, t18, t19, (Eq.trans t20 (by first | rfl | simp)), h1, (congrArg Blk.ver h4), ?_, ?_, ?_, ?_, ?_⟩
  · omega
  · omega
  · omega
  · intro j hj; omega
  · rfl
 intro mm T H ⟨k, v4, hmm, t1, t18, t19, t20, h1, h4, hk, g0, g1, hp, hc⟩ Q5 p15 p25 p35
 unfold b11_0
 refine W_seq_regc (fun T H => T 1 = (V.mp 1 1 0 0) ∧ T 18 = (V.sl (List.map cN (t.nd))) ∧ T 19 = (iV ((t.nd.length : Nat) : Int)) ∧ T 20 = (iV ((k : Nat) : Int)) ∧ T 21 = (V.bool (decide (((k : Nat) : Int) < ((t.nd.length : Nat) : Int)))) ∧ H 1 = (⟨1, true, false, 24, 1, [[(V.sl (List.map cN (t.nd)))]]⟩ : Blk) ∧ (H 4).ver = v4 ∧ True) ?_ ?_
 ·
  unfold r11_6
  refine R_lss (x := ((k : Nat) : Int)) (y := ((t.nd.length : Nat) : Int)) t20 t19 ?_
  exact R_nil ⟨t1, t18, t19, t20, rfl, h1, h4, trivial⟩
 intro T H ⟨t1, t18, t19, t20, t21, h1, h4, _⟩
 refine W_seq_if (p := ((k : Nat) : Int) < ((t.nd.length : Nat) : Int)) t21 (fun c6 => ?_) (fun c6 => ?_)
 ·
  have r1 := hb.sf k (by omega)
  have r2 := hb.ou k (by omega)
  have r3 := hb.kd k (by omega)
  refine W_seq_skip ?_
  refine W_seq_blockg fun Q7 n7 x7 y7 z7 => ?_
  refine W_seq_regc (fun T H => T 1 = (V.mp 1 1 0 0) ∧ T 4 = (V.mp 4 (v4 + 1) 0 0) ∧ T 18 = (V.sl (List.map cN (t.nd))) ∧ T 19 = (iV ((t.nd.length : Nat) : Int)) ∧ T 20 = (iV ((k : Nat) : Int)) ∧ H 1 = (⟨1, true, false, 24, 1, [[(V.sl (List.map cN (t.nd)))]]⟩ : Blk) ∧ H 4 = (⟨v4 + 1, true, false, 68, 5, [[(V.bool (((nth (t.nd) (k))).lf)), (V.sl (List.map cI (((nth (t.nd) (k))).ac))), (V.sl (List.map cI (((nth (t.nd) (k))).sf))), (V.sl (List.map cL (((nth (t.nd) (k))).ou))), (V.sl (List.map cI (((nth (t.nd) (k))).kd)))]]⟩ : Blk) ∧ True) ?_ ?_
  ·
   unfold r11_7
   refine R_idx (i := k) t18 t20 (by omega) rfl ?_
   refine R_load_pp (v := (V.agg [(V.bool (((nth (t.nd) (k))).lf)), (V.sl (List.map cI (((nth (t.nd) (k))).ac))), (V.sl (List.map cI (((nth (t.nd) (k))).sf))), (V.sl (List.map cL (((nth (t.nd) (k))).ou))), (V.sl (List.map cI (((nth (t.nd) (k))).kd)))])) (@rfl V (V.pp [(V.bool (((nth (t.nd) (k))).lf)), (V.sl (List.map cI (((nth (t.nd) (k))).ac))), (V.sl (List.map cI (((nth (t.nd) (k))).sf))), (V.sl (List.map cL (((nth (t.nd) (k))).ou))), (V.sl (List.map cI (((nth (t.nd) (k))).kd)))])) (by first | rfl | simp [ldV]) ?_
   refine R_alloc (i := 4) (n := v4) (m := 5) rfl h4 rfl ?_
   refine R_store (vs := [(V.bool (((nth (t.nd) (k))).lf)), (V.sl (List.map cI (((nth (t.nd) (k))).ac))), (V.sl (List.map cI (((nth (t.nd) (k))).sf))), (V.sl (List.map cL (((nth (t.nd) (k))).ou))), (V.sl (List.map cI (((nth (t.nd) (k))).kd)))]) (B' := (⟨v4 + 1, true, false, 68, 5, [[(V.bool (((nth (t.nd) (k))).lf)), (V.sl (List.map cI (((nth (t.nd) (k))).ac))), (V.sl (List.map cI (((nth (t.nd) (k))).sf))), (V.sl (List.map cL (((nth (t.nd) (k))).ou))), (V.sl (List.map cI (((nth (t.nd) (k))).kd)))]]⟩ : Blk)) (@rfl V (V.mp 4 (v4 + 1) 0 0)) (@rfl V (V.agg [(V.bool (((nth (t.nd) (k))).lf)), (V.sl (List.map cI (((nth (t.nd) (k))).ac))), (V.sl (List.map cI (((nth (t.nd) (k))).sf))), (V.sl (List.map cL (((nth (t.nd) (k))).ou))), (V.sl (List.map cI (((nth (t.nd) (k))).kd)))])) rfl (@rfl Blk (⟨v4 + 1, true, false, 68, 5, [[(V.bool false), V.nilsl, V.nilsl, V.nilsl, V.nilsl]]⟩ : Blk)) (by first | rfl | simp [stB, okB, Blk.own, putAt, V.one]) ?_
   exact R_nil ⟨t1, rfl, t18, t19, t20, h1, rfl, trivial⟩
  intro T H ⟨t1, t4, t18, t19, t20, h1, h4, _⟩
  refine W_seq_regc (fun T H => T 1 = (V.mp 1 1 0 0) ∧ T 4 = (V.mp 4 (v4 + 1) 0 0) ∧ T 18 = (V.sl (List.map cN (t.nd))) ∧ T 19 = (iV ((t.nd.length : Nat) : Int)) ∧ T 20 = (iV ((k : Nat) : Int)) ∧ H 1 = (⟨1, true, false, 24, 1, [[(V.sl (List.map cN (t.nd)))]]⟩ : Blk) ∧ H 4 = (⟨v4 + 1, true, false, 68, 5, [[(V.bool (((nth (t.nd) (k))).lf)), (V.sl (List.map cI (((nth (t.nd) (k))).ac))), (V.sl (List.map cI (((nth (t.nd) (k))).sf))), (V.sl (List.map cL (((nth (t.nd) (k))).ou))), (V.sl (List.map cI (((nth (t.nd) (k))).kd)))]]⟩ : Blk) ∧ True) ?_ ?_
  ·
   unfold r11_8
   refine R_mv (@rfl V (iV (0 : Int))) ?_
   exact R_nil ⟨t1, t4, t18, t19, t20, h1, h4, trivial⟩
  intro T H ⟨t1, t4, t18, t19, t20, h1, h4, _⟩
  refine W_seq_seq ?_
  refine W_seq_regc (fun T H => T 1 = (V.mp 1 1 0 0) ∧ T 4 = (V.mp 4 (v4 + 1) 0 0) ∧ T 18 = (V.sl (List.map cN (t.nd))) ∧ T 19 = (iV ((t.nd.length : Nat) : Int)) ∧ T 20 = (iV ((k : Nat) : Int)) ∧ T 25 = (V.bool (((nth (t.nd) (k))).lf)) ∧ H 1 = (⟨1, true, false, 24, 1, [[(V.sl (List.map cN (t.nd)))]]⟩ : Blk) ∧ H 4 = (⟨v4 + 1, true, false, 68, 5, [[(V.bool (((nth (t.nd) (k))).lf)), (V.sl (List.map cI (((nth (t.nd) (k))).ac))), (V.sl (List.map cI (((nth (t.nd) (k))).sf))), (V.sl (List.map cL (((nth (t.nd) (k))).ou))), (V.sl (List.map cI (((nth (t.nd) (k))).kd)))]]⟩ : Blk) ∧ True) ?_ ?_
  ·
   unfold r11_9
   refine R_fld_mp (o' := 0) t4 h4 (by first | rfl | simp [okB, Blk.own]) rfl ?_
   refine R_load_mp (v := (V.bool (((nth (t.nd) (k))).lf))) (@rfl V (V.mp 4 (v4 + 1) 0 0)) h4 (by first | rfl | simp [ldB, ldV, Blk.own, V.one]) ?_
   exact R_nil ⟨t1, t4, t18, t19, t20, rfl, h1, h4, trivial⟩
  intro T H ⟨t1, t4, t18, t19, t20, t25, h1, h4, _⟩
  refine W_seq_ifb t25 (fun c8 => ?_) (fun c8 => ?_)
  ·
   have d0 : (nth t.nd k).lf = true := c8
   have e0 : ndE (nth t.nd k) t.nd.length = lfE (nth t.nd k) := by rw [ndE, if_pos d0]
   refine W_seq_regc (fun T H => T 1 = (V.mp 1 1 0 0) ∧ T 5 = (iV (lfE (((nth (t.nd) (k)))))) ∧ T 18 = (V.sl (List.map cN (t.nd))) ∧ T 19 = (iV ((t.nd.length : Nat) : Int)) ∧ T 20 = (iV ((k : Nat) : Int)) ∧ H 1 = (⟨1, true, false, 24, 1, [[(V.sl (List.map cN (t.nd)))]]⟩ : Blk) ∧ H 4 = (⟨v4 + 1, true, false, 68, 5, [[(V.bool (((nth (t.nd) (k))).lf)), (V.sl (List.map cI (((nth (t.nd) (k))).ac))), (V.sl (List.map cI (((nth (t.nd) (k))).sf))), (V.sl (List.map cL (((nth (t.nd) (k))).ou))), (V.sl (List.map cI (((nth (t.nd) (k))).kd)))]]⟩ : Blk) ∧ True) ?_ ?_
   ·
    unfold r11_10
    refine R_load_mp (v := (V.agg [(V.bool (((nth (t.nd) (k))).lf)), (V.sl (List.map cI (((nth (t.nd) (k))).ac))), (V.sl (List.map cI (((nth (t.nd) (k))).sf))), (V.sl (List.map cL (((nth (t.nd) (k))).ou))), (V.sl (List.map cI (((nth (t.nd) (k))).kd)))])) t4 h4 (by first | rfl | simp [ldB, ldV, Blk.own, V.one]) ?_
    refine R_call (evcons (@rfl V (V.agg [(V.bool (((nth (t.nd) (k))).lf)), (V.sl (List.map cI (((nth (t.nd) (k))).ac))), (V.sl (List.map cI (((nth (t.nd) (k))).sf))), (V.sl (List.map cL (((nth (t.nd) (k))).ou))), (V.sl (List.map cI (((nth (t.nd) (k))).kd)))])) evnil) (leaf_pure (((nth (t.nd) (k)))) (by first | omega | assumption) (by first | omega | assumption) (by first | omega | assumption)) (fzv_mapcanon _ _ (by simp [-List.map_take, -List.map_drop, -List.map_append, -List.map_reverse])) (by simp [-List.map_take, -List.map_drop, -List.map_append, -List.map_reverse]) (Or.inl (by simp [-List.map_take, -List.map_drop, -List.map_append, -List.map_reverse])) ?_
    refine R_mv (@rfl V (iV (lfE (((nth (t.nd) (k))))))) ?_
    exact R_nil ⟨t1, rfl, t18, t19, t20, h1, h4, trivial⟩
   intro T H ⟨t1, t5, t18, t19, t20, h1, h4, _⟩
   refine W_seq_regc (fun T H => T 1 = (V.mp 1 1 0 0) ∧ T 5 = (iV (lfE (((nth (t.nd) (k)))))) ∧ T 18 = (V.sl (List.map cN (t.nd))) ∧ T 19 = (iV ((t.nd.length : Nat) : Int)) ∧ T 20 = (iV ((k : Nat) : Int)) ∧ T 34 = (V.bool (decide ((lfE (((nth (t.nd) (k))))) ≠ (0 : Int)))) ∧ H 1 = (⟨1, true, false, 24, 1, [[(V.sl (List.map cN (t.nd)))]]⟩ : Blk) ∧ H 4 = (⟨v4 + 1, true, false, 68, 5, [[(V.bool (((nth (t.nd) (k))).lf)), (V.sl (List.map cI (((nth (t.nd) (k))).ac))), (V.sl (List.map cI (((nth (t.nd) (k))).sf))), (V.sl (List.map cL (((nth (t.nd) (k))).ou))), (V.sl (List.map cI (((nth (t.nd) (k))).kd)))]]⟩ : Blk) ∧ True) ?_ ?_
   ·
    unfold r11_12
    refine R_mv t5 ?_
    refine R_neq (x := (lfE (((nth (t.nd) (k)))))) (y := (0 : Int)) (@rfl V (iV (lfE (((nth (t.nd) (k))))))) (@rfl V (iV (0 : Int))) ?_
    exact R_nil ⟨t1, t5, t18, t19, t20, rfl, h1, h4, trivial⟩
   intro T H ⟨t1, t5, t18, t19, t20, t34, h1, h4, _⟩
   refine W_if (p := (lfE (((nth (t.nd) (k))))) ≠ (0 : Int)) t34 (fun c9 => ?_) (fun c9 => ?_)
   ·
    have d1 : ndE (nth t.nd k) t.nd.length ≠ 0 := by rw [e0]; exact c9
    refine W_seq_regc (fun T H => T 2 = (iV (lfE (((nth (t.nd) (k)))))) ∧ H 1 = (⟨1, true, false, 24, 1, [[(V.sl (List.map cN (t.nd)))]]⟩ : Blk) ∧ H 4 = (⟨v4 + 1, true, false, 68, 5, [[(V.bool (((nth (t.nd) (k))).lf)), (V.sl (List.map cI (((nth (t.nd) (k))).ac))), (V.sl (List.map cI (((nth (t.nd) (k))).sf))), (V.sl (List.map cL (((nth (t.nd) (k))).ou))), (V.sl (List.map cI (((nth (t.nd) (k))).kd)))]]⟩ : Blk) ∧ True) ?_ ?_
    ·
     unfold r11_13
     refine R_mv t5 ?_
     refine R_mv (@rfl V (iV (lfE (((nth (t.nd) (k))))))) ?_
     exact R_nil ⟨rfl, h1, h4, trivial⟩
    intro T H ⟨t2, h1, h4, _⟩
    refine W_ret ?_
    refine y7 _ _ ?_
    refine p25 _ _ ?_
    refine y4 _ _ ?_
    refine Ret_1 t2 (fz_int ?_)
    · have e : fe (fun k => ndE (nth t.nd k) t.nd.length) 0 t.nd.length = ndE (nth t.nd k) t.nd.length := by rw [hc]; exact fe_hit (e := fun k => ndE (nth t.nd k) t.nd.length) d1 (by omega)
      rw [dvE, if_neg (by omega), if_neg (by omega), if_pos (by rw [e]; exact d1), e, e0]
   have d1 : ndE (nth t.nd k) t.nd.length = 0 := by rw [e0]; omega
   refine W_skip ?_
   refine n7 _ _ ?_
   refine .done ?_
   refine W_regc (fun T H => T 1 = (V.mp 1 1 0 0) ∧ T 18 = (V.sl (List.map cN (t.nd))) ∧ T 19 = (iV ((t.nd.length : Nat) : Int)) ∧ T 20 = (iV ((k + 1 : Nat) : Int)) ∧ H 1 = (⟨1, true, false, 24, 1, [[(V.sl (List.map cN (t.nd)))]]⟩ : Blk) ∧ H 4 = (⟨v4 + 1, true, false, 68, 5, [[(V.bool (((nth (t.nd) (k))).lf)), (V.sl (List.map cI (((nth (t.nd) (k))).ac))), (V.sl (List.map cI (((nth (t.nd) (k))).sf))), (V.sl (List.map cL (((nth (t.nd) (k))).ou))), (V.sl (List.map cI (((nth (t.nd) (k))).kd)))]]⟩ : Blk) ∧ True) ?_ ?_
   ·
    unfold r11_14
    refine R_addN (m := k) (n := 1) t20 (@rfl V (iV ((1 : Nat) : Int))) (by omega) ?_
    refine R_mv (@rfl V (iV ((k + 1 : Nat) : Int))) ?_
    exact R_nil ⟨t1, t18, t19, rfl, h1, h4, trivial⟩
   intro T H ⟨t1, t18, t19, t20, h1, h4, _⟩
   refine p15 _ _ _ ?_ ⟨(k + 1), (v4 + 1), rfl, t1, t18, t19, (Eq.trans t20 (by first | rfl | simp)), h1, (congrArg Blk.ver h4), ?_, ?_, ?_, ?_, ?_⟩
   · omega
   · omega
   · omega
   · omega
   · intro i hi
     by_cases e : i = k
     · subst e; exact d1
     · exact hp i (by omega)
   · rw [hc, fe_skip (e := fun k => ndE (nth t.nd k) t.nd.length) (by exact d1) (by omega)]
  have d0 : (nth t.nd k).lf = false := by simpa using c8
  have e0 : ndE (nth t.nd k) t.nd.length = inE2 (nth t.nd k) t.nd.length := by rw [ndE, if_neg (by simp [d0])]
  refine W_seq_regc (fun T H => T 1 = (V.mp 1 1 0 0) ∧ T 5 = (iV (inE2 (((nth (t.nd) (k)))) t.nd.length)) ∧ T 18 = (V.sl (List.map cN (t.nd))) ∧ T 19 = (iV ((t.nd.length : Nat) : Int)) ∧ T 20 = (iV ((k : Nat) : Int)) ∧ H 1 = (⟨1, true, false, 24, 1, [[(V.sl (List.map cN (t.nd)))]]⟩ : Blk) ∧ H 4 = (⟨v4 + 1, true, false, 68, 5, [[(V.bool (((nth (t.nd) (k))).lf)), (V.sl (List.map cI (((nth (t.nd) (k))).ac))), (V.sl (List.map cI (((nth (t.nd) (k))).sf))), (V.sl (List.map cL (((nth (t.nd) (k))).ou))), (V.sl (List.map cI (((nth (t.nd) (k))).kd)))]]⟩ : Blk) ∧ True) ?_ ?_
  ·
   unfold r11_11
   refine R_load_mp (v := (V.agg [(V.bool (((nth (t.nd) (k))).lf)), (V.sl (List.map cI (((nth (t.nd) (k))).ac))), (V.sl (List.map cI (((nth (t.nd) (k))).sf))), (V.sl (List.map cL (((nth (t.nd) (k))).ou))), (V.sl (List.map cI (((nth (t.nd) (k))).kd)))])) t4 h4 (by first | rfl | simp [ldB, ldV, Blk.own, V.one]) ?_
   refine R_fld_mp (o' := 0) t1 h1 (by first | rfl | simp [okB, Blk.own]) rfl ?_
   refine R_load_mp (v := (V.sl (List.map cN (t.nd)))) (@rfl V (V.mp 1 1 0 0)) h1 (by first | rfl | simp [ldB, ldV, Blk.own, V.one]) ?_
   refine R_len (@rfl V (V.sl (List.map cN (t.nd)))) ?_
   refine R_call (evcons (@rfl V (V.agg [(V.bool (((nth (t.nd) (k))).lf)), (V.sl (List.map cI (((nth (t.nd) (k))).ac))), (V.sl (List.map cI (((nth (t.nd) (k))).sf))), (V.sl (List.map cL (((nth (t.nd) (k))).ou))), (V.sl (List.map cI (((nth (t.nd) (k))).kd)))])) (evcons (@rfl V (iV ((t.nd.length : Nat) : Int))) evnil)) (inner_pure (((nth (t.nd) (k)))) t.nd.length (by first | omega | assumption)) (fzv_mapcanon _ _ (by simp [-List.map_take, -List.map_drop, -List.map_append, -List.map_reverse])) (by simp [-List.map_take, -List.map_drop, -List.map_append, -List.map_reverse]) (Or.inl (by simp [-List.map_take, -List.map_drop, -List.map_append, -List.map_reverse])) ?_
   refine R_mv (@rfl V (iV (inE2 (((nth (t.nd) (k)))) t.nd.length))) ?_
   exact R_nil ⟨t1, rfl, t18, t19, t20, h1, h4, trivial⟩
  intro T H ⟨t1, t5, t18, t19, t20, h1, h4, _⟩
  refine W_seq_regc (fun T H => T 1 = (V.mp 1 1 0 0) ∧ T 5 = (iV (inE2 (((nth (t.nd) (k)))) t.nd.length)) ∧ T 18 = (V.sl (List.map cN (t.nd))) ∧ T 19 = (iV ((t.nd.length : Nat) : Int)) ∧ T 20 = (iV ((k : Nat) : Int)) ∧ T 34 = (V.bool (decide ((inE2 (((nth (t.nd) (k)))) t.nd.length) ≠ (0 : Int)))) ∧ H 1 = (⟨1, true, false, 24, 1, [[(V.sl (List.map cN (t.nd)))]]⟩ : Blk) ∧ H 4 = (⟨v4 + 1, true, false, 68, 5, [[(V.bool (((nth (t.nd) (k))).lf)), (V.sl (List.map cI (((nth (t.nd) (k))).ac))), (V.sl (List.map cI (((nth (t.nd) (k))).sf))), (V.sl (List.map cL (((nth (t.nd) (k))).ou))), (V.sl (List.map cI (((nth (t.nd) (k))).kd)))]]⟩ : Blk) ∧ True) ?_ ?_
  ·
   unfold r11_12
   refine R_mv t5 ?_
   refine R_neq (x := (inE2 (((nth (t.nd) (k)))) t.nd.length)) (y := (0 : Int)) (@rfl V (iV (inE2 (((nth (t.nd) (k)))) t.nd.length))) (@rfl V (iV (0 : Int))) ?_
   exact R_nil ⟨t1, t5, t18, t19, t20, rfl, h1, h4, trivial⟩
  intro T H ⟨t1, t5, t18, t19, t20, t34, h1, h4, _⟩
  refine W_if (p := (inE2 (((nth (t.nd) (k)))) t.nd.length) ≠ (0 : Int)) t34 (fun c10 => ?_) (fun c10 => ?_)
  ·
   have d1 : ndE (nth t.nd k) t.nd.length ≠ 0 := by rw [e0]; exact c10
   refine W_seq_regc (fun T H => T 2 = (iV (inE2 (((nth (t.nd) (k)))) t.nd.length)) ∧ H 1 = (⟨1, true, false, 24, 1, [[(V.sl (List.map cN (t.nd)))]]⟩ : Blk) ∧ H 4 = (⟨v4 + 1, true, false, 68, 5, [[(V.bool (((nth (t.nd) (k))).lf)), (V.sl (List.map cI (((nth (t.nd) (k))).ac))), (V.sl (List.map cI (((nth (t.nd) (k))).sf))), (V.sl (List.map cL (((nth (t.nd) (k))).ou))), (V.sl (List.map cI (((nth (t.nd) (k))).kd)))]]⟩ : Blk) ∧ True) ?_ ?_
   ·
    unfold r11_13
    refine R_mv t5 ?_
    refine R_mv (@rfl V (iV (inE2 (((nth (t.nd) (k)))) t.nd.length))) ?_
    exact R_nil ⟨rfl, h1, h4, trivial⟩
   intro T H ⟨t2, h1, h4, _⟩
   refine W_ret ?_
   refine y7 _ _ ?_
   refine p25 _ _ ?_
   refine y4 _ _ ?_
   refine Ret_1 t2 (fz_int ?_)
   · have e : fe (fun k => ndE (nth t.nd k) t.nd.length) 0 t.nd.length = ndE (nth t.nd k) t.nd.length := by rw [hc]; exact fe_hit (e := fun k => ndE (nth t.nd k) t.nd.length) d1 (by omega)
     rw [dvE, if_neg (by omega), if_neg (by omega), if_pos (by rw [e]; exact d1), e, e0]
  have d1 : ndE (nth t.nd k) t.nd.length = 0 := by rw [e0]; omega
  refine W_skip ?_
  refine n7 _ _ ?_
  refine .done ?_
  refine W_regc (fun T H => T 1 = (V.mp 1 1 0 0) ∧ T 18 = (V.sl (List.map cN (t.nd))) ∧ T 19 = (iV ((t.nd.length : Nat) : Int)) ∧ T 20 = (iV ((k + 1 : Nat) : Int)) ∧ H 1 = (⟨1, true, false, 24, 1, [[(V.sl (List.map cN (t.nd)))]]⟩ : Blk) ∧ H 4 = (⟨v4 + 1, true, false, 68, 5, [[(V.bool (((nth (t.nd) (k))).lf)), (V.sl (List.map cI (((nth (t.nd) (k))).ac))), (V.sl (List.map cI (((nth (t.nd) (k))).sf))), (V.sl (List.map cL (((nth (t.nd) (k))).ou))), (V.sl (List.map cI (((nth (t.nd) (k))).kd)))]]⟩ : Blk) ∧ True) ?_ ?_
  ·
   unfold r11_14
   refine R_addN (m := k) (n := 1) t20 (@rfl V (iV ((1 : Nat) : Int))) (by omega) ?_
   refine R_mv (@rfl V (iV ((k + 1 : Nat) : Int))) ?_
   exact R_nil ⟨t1, t18, t19, rfl, h1, h4, trivial⟩
  intro T H ⟨t1, t18, t19, t20, h1, h4, _⟩
  refine p15 _ _ _ ?_ ⟨(k + 1), (v4 + 1), rfl, t1, t18, t19, (Eq.trans t20 (by first | rfl | simp)), h1, (congrArg Blk.ver h4), ?_, ?_, ?_, ?_, ?_⟩
  · omega
  · omega
  · omega
  · omega
  · intro i hi
    by_cases e : i = k
    · subst e; exact d1
    · exact hp i (by omega)
  · rw [hc, fe_skip (e := fun k => ndE (nth t.nd k) t.nd.length) (by exact d1) (by omega)]
 have hall : ∀ j, j < t.nd.length → ndE (nth t.nd j) t.nd.length = 0 := fun j hj => hp j (by omega)
 have hki : KI t := nds_ki g0 hall
 have hz : fe (fun k => ndE (nth t.nd k) t.nd.length) 0 t.nd.length = 0 := by rw [hc, fe_end (by omega)]
 have haw : ∀ w ∈ acL t.nd, w.length ≤ 1048576 := ac_len hb
 have hal := acL_len t.nd
 refine W_seq_exit ?_
 refine p35 _ _ _ ?_
 refine x4 _ _ ?_
 refine .done ?_
 refine W_seq_seq ?_
 refine W_seq_regc (fun T H => T 1 = (V.mp 1 1 0 0) ∧ T 39 = (V.bool ((!coB t))) ∧ H 1 = (⟨1, true, false, 24, 1, [[(V.sl (List.map cN (t.nd)))]]⟩ : Blk) ∧ (H 4).ver = v4 ∧ True) ?_ ?_
 ·
  unfold r11_15
  refine R_load_mp (v := (V.agg [(V.sl (List.map cN (t.nd)))])) t1 h1 (by first | rfl | simp [ldB, ldV, Blk.own, V.one]) ?_
  refine R_call (evcons (@rfl V (V.agg [(V.sl (List.map cN (t.nd)))])) evnil) (connected_pure t hki hb) (fzv_mapcanon _ _ (by simp [-List.map_take, -List.map_drop, -List.map_append, -List.map_reverse])) (by simp [-List.map_take, -List.map_drop, -List.map_append, -List.map_reverse]) (Or.inl (by simp [-List.map_take, -List.map_drop, -List.map_append, -List.map_reverse])) ?_
  refine R_notb (@rfl V (V.bool (coB t))) ?_
  exact R_nil ⟨t1, rfl, h1, h4, trivial⟩
 intro T H ⟨t1, t39, h1, h4, _⟩
 refine W_seq_ifb t39 (fun c11 => ?_) (fun c11 => ?_)
 ·
  have d3 : whB t = false := by rw [← co_wh hki]; simpa using c11
  refine W_seq_seq ?_
  refine W_seq_regc (fun T H => T 2 = (iV (1 : Int)) ∧ H 1 = (⟨1, true, false, 24, 1, [[(V.sl (List.map cN (t.nd)))]]⟩ : Blk) ∧ (H 4).ver = v4 ∧ True) ?_ ?_
  ·
   unfold r11_16
   refine R_mv (@rfl V (iV (1 : Int))) ?_
   exact R_nil ⟨rfl, h1, h4, trivial⟩
  intro T H ⟨t2, h1, h4, _⟩
  refine W_seq_ret ?_
  refine Ret_1 t2 (fz_int ?_)
  · rw [dvE, if_neg (by omega), if_neg (by omega), if_neg (by rw [hz]; simp), if_pos d3]
 have d3 : whB t = true := by rw [← co_wh hki]; simpa using c11
 refine W_seq_skip ?_
 refine W_seq_seq ?_
 refine W_seq_regc (fun T H => T 6 = (V.sl (List.map cL (acL t.nd))) ∧ H 1 = (⟨1, true, false, 24, 1, [[(V.sl (List.map cN (t.nd)))]]⟩ : Blk) ∧ (H 4).ver = v4 ∧ True) ?_ ?_
 ·
  unfold r11_17
  refine R_load_mp (v := (V.agg [(V.sl (List.map cN (t.nd)))])) t1 h1 (by first | rfl | simp [ldB, ldV, Blk.own, V.one]) ?_
  refine R_call (evcons (@rfl V (V.agg [(V.sl (List.map cN (t.nd)))])) evnil) (access_pure t hb) (fzv_mapcanon _ _ (by simp [-List.map_take, -List.map_drop, -List.map_append, -List.map_reverse])) (by simp [-List.map_take, -List.map_drop, -List.map_append, -List.map_reverse]) (Or.inl (by simp [-List.map_take, -List.map_drop, -List.map_append, -List.map_reverse])) ?_
  refine R_mv (@rfl V (V.sl (List.map cL (acL t.nd)))) ?_
  exact R_nil ⟨rfl, h1, h4, trivial⟩
 intro T H ⟨t6, h1, h4, _⟩
 refine W_seq_seq ?_
 refine W_seq_regc (fun T H => T 47 = (V.bool (decide ((((sdW (acL t.nd)).length : Nat) : Int) ≠ (((acL t.nd).length : Nat) : Int)))) ∧ H 1 = (⟨1, true, false, 24, 1, [[(V.sl (List.map cN (t.nd)))]]⟩ : Blk) ∧ (H 4).ver = v4 ∧ True) ?_ ?_
 ·
  unfold r11_18
  refine R_mv t6 ?_
  refine R_call (evcons (@rfl V (V.sl (List.map cL (acL t.nd)))) evnil) (sorted_pure (acL t.nd) (by first | omega | assumption) haw) (fzv_mapcanon _ _ (by simp [-List.map_take, -List.map_drop, -List.map_append, -List.map_reverse])) (by simp [-List.map_take, -List.map_drop, -List.map_append, -List.map_reverse]) (Or.inl (by simp [-List.map_take, -List.map_drop, -List.map_append, -List.map_reverse])) ?_
  refine R_len (@rfl V (V.sl (List.map cL (sdW (acL t.nd))))) ?_
  refine R_mv t6 ?_
  refine R_len (@rfl V (V.sl (List.map cL (acL t.nd)))) ?_
  refine R_neq (x := (((sdW (acL t.nd)).length : Nat) : Int)) (y := (((acL t.nd).length : Nat) : Int)) (@rfl V (iV (((sdW (acL t.nd)).length : Nat) : Int))) (@rfl V (iV (((acL t.nd).length : Nat) : Int))) ?_
  exact R_nil ⟨rfl, h1, h4, trivial⟩
 intro T H ⟨t47, h1, h4, _⟩
 refine W_seq_if (p := (((sdW (acL t.nd)).length : Nat) : Int) ≠ (((acL t.nd).length : Nat) : Int)) t47 (fun c12 => ?_) (fun c12 => ?_)
 ·
  refine W_seq_seq ?_
  refine W_seq_regc (fun T H => T 2 = (iV (7 : Int)) ∧ H 1 = (⟨1, true, false, 24, 1, [[(V.sl (List.map cN (t.nd)))]]⟩ : Blk) ∧ (H 4).ver = v4 ∧ True) ?_ ?_
  ·
   unfold r11_19
   refine R_mv (@rfl V (iV (7 : Int))) ?_
   exact R_nil ⟨rfl, h1, h4, trivial⟩
  intro T H ⟨t2, h1, h4, _⟩
  refine W_seq_ret ?_
  refine Ret_1 t2 (fz_int ?_)
  · rw [dvE, if_neg (by omega), if_neg (by omega), if_neg (by rw [hz]; simp), if_neg (by simp [d3]), if_pos (by omega)]
 refine W_seq_skip ?_
 refine W_seq_regc (fun T H => T 2 = (iV (0 : Int)) ∧ H 1 = (⟨1, true, false, 24, 1, [[(V.sl (List.map cN (t.nd)))]]⟩ : Blk) ∧ (H 4).ver = v4 ∧ True) ?_ ?_
 ·
  unfold r11_20
  refine R_mv (@rfl V (iV (0 : Int))) ?_
  exact R_nil ⟨rfl, h1, h4, trivial⟩
 intro T H ⟨t2, h1, h4, _⟩
 refine W_ret ?_
 refine Ret_1 t2 (fz_int ?_)
 · rw [dvE, if_neg (by omega), if_neg (by omega), if_neg (by rw [hz]; simp), if_neg (by simp [d3]), if_neg (by omega)]
end Go.Proofs.YtmnjchcoigbngaaGreat


namespace Go.Proofs.YtmnjchcoigbngaaGreat
open Go Go.Proofs
theorem idxt_pure (p : Tr → Bool) (w : List Tr) (g : Nat) (caps : List V) (hca : canonL caps = true) (hpu : pureL caps = true) (hq : ∀ k, k < w.length → PureC Tryz.prog g (tV (nth w k) :: caps) (.bool (p (nth w k)))) : PureC Tryz.prog 84 [(V.sl (List.map cT (w))), (V.fn g [] caps)] (iV (fi (fun j => p (nth w j)) 0 w.length)) := by
 refine pure_of_Wb true 6 Tryz.func84 s84_ok (by kernel_rfl) (by simp [s84]) (by simp [hpu]) (by simp) fun hB => ?_
 simp only [bnd_map, bnd_int, bnd_bool, bnd_str, bnd_agg, bnd_pp, bnd_nil, bnd_cons, implies_true, and_true, true_and] at hB
 unfold s84
 dsimp only
 refine W_seq_regc (fun T H => T 0 = (V.sl (List.map cT (w))) ∧ T 1 = (V.fn g [] caps) ∧ True) ?_ ?_
 ·
  unfold r84_0
  refine R_mv (@rfl V (iV (0 : Int))) ?_
  exact R_nil ⟨rfl, rfl, trivial⟩
 intro T H ⟨t0, t1, _⟩
 refine W_seq_seq ?_
 refine W_seq_regc (fun T H => T 0 = (V.sl (List.map cT (w))) ∧ T 1 = (V.fn g [] caps) ∧ T 7 = (iV ((w.length : Nat) : Int)) ∧ T 8 = (iV (0 : Int)) ∧ True) ?_ ?_
 ·
  unfold r84_1
  refine R_mv t0 ?_
  refine R_len (@rfl V (V.sl (List.map cT (w)))) ?_
  refine R_mv (@rfl V (iV (0 : Int))) ?_
  exact R_nil ⟨t0, t1, rfl, rfl, trivial⟩
 intro T H ⟨t0, t1, t7, t8, _⟩
 refine W_seq_blockg fun Q1 n1 x1 y1 z1 => ?_
 refine W_loop (fun mm T H => ∃ (k : Nat), mm = w.length - k ∧ T 0 = (V.sl (List.map cT (w))) ∧ T 1 = (V.fn g [] caps) ∧ T 7 = (iV ((w.length : Nat) : Int)) ∧ T 8 = (iV ((k : Nat) : Int)) ∧ (k ≤ w.length) ∧ (fi (fun j => p (nth w j)) 0 w.length = fi (fun j => p (nth w j)) k (w.length - k))) ?_ ?_
 ·
  refine ⟨_, 0, rfl, t0, t1, t7, (Eq.trans t8 (by first | rfl | simp)), ?_, ?_⟩
  · omega
  · rfl
 intro mm T H ⟨k, hmm, t0, t1, t7, t8, hk, hc⟩ Q2 p12 p22 p32
 unfold b84_0
 refine W_seq_regc (fun T H => T 0 = (V.sl (List.map cT (w))) ∧ T 1 = (V.fn g [] caps) ∧ T 7 = (iV ((w.length : Nat) : Int)) ∧ T 8 = (iV ((k : Nat) : Int)) ∧ T 9 = (V.bool (decide (((k : Nat) : Int) < ((w.length : Nat) : Int)))) ∧ True) ?_ ?_
 ·
  unfold r84_2
  refine R_lss (x := ((k : Nat) : Int)) (y := ((w.length : Nat) : Int)) t8 t7 ?_
  exact R_nil ⟨t0, t1, t7, t8, rfl, trivial⟩
 intro T H ⟨t0, t1, t7, t8, t9, _⟩
 refine W_seq_if (p := ((k : Nat) : Int) < ((w.length : Nat) : Int)) t9 (fun c3 => ?_) (fun c3 => ?_)
 ·
  refine W_seq_skip ?_
  refine W_seq_blockg fun Q4 n4 x4 y4 z4 => ?_
  refine W_seq_regc (fun T H => T 0 = (V.sl (List.map cT (w))) ∧ T 1 = (V.fn g [] caps) ∧ T 5 = (iV ((k : Nat) : Int)) ∧ T 7 = (iV ((w.length : Nat) : Int)) ∧ T 8 = (iV ((k : Nat) : Int)) ∧ True) ?_ ?_
  ·
   unfold r84_3
   refine R_mv t8 ?_
   refine R_mv (@rfl V (iV ((k : Nat) : Int))) ?_
   exact R_nil ⟨t0, t1, rfl, t7, t8, trivial⟩
  intro T H ⟨t0, t1, t5, t7, t8, _⟩
  refine W_seq_regc (fun T H => T 0 = (V.sl (List.map cT (w))) ∧ T 1 = (V.fn g [] caps) ∧ T 5 = (iV ((k : Nat) : Int)) ∧ T 7 = (iV ((w.length : Nat) : Int)) ∧ T 8 = (iV ((k : Nat) : Int)) ∧ T 16 = (V.bool (p (nth w k))) ∧ True) ?_ ?_
  ·
   unfold r84_4
   refine R_mv t1 ?_
   refine R_mv t0 ?_
   refine R_mv t5 ?_
   refine R_idx (i := k) (@rfl V (V.sl (List.map cT (w)))) (@rfl V (iV ((k : Nat) : Int))) (by omega) rfl ?_
   refine R_load_pp (v := (V.agg [(V.sl (List.map cI ((nth (w) (k)).ni))), (V.sl (List.map cI ((nth (w) (k)).no)))])) (@rfl V (V.pp [(V.sl (List.map cI ((nth (w) (k)).ni))), (V.sl (List.map cI ((nth (w) (k)).no)))])) (by first | rfl | simp [ldV]) ?_
   refine R_callv (@rfl V (V.fn g [] caps)) (evcons (@rfl V (V.agg [(V.sl (List.map cI ((nth (w) (k)).ni))), (V.sl (List.map cI ((nth (w) (k)).no)))])) evnil) (hq k (by omega)) (fzv_mapcanon _ _ (by simp [hca])) (by simp [hpu]) (Or.inl (by simp [hpu])) ?_
   exact R_nil ⟨t0, t1, t5, t7, t8, rfl, trivial⟩
  intro T H ⟨t0, t1, t5, t7, t8, t16, _⟩
  refine W_ifb t16 (fun c5 => ?_) (fun c5 => ?_)
  ·
   have d1 := c5
   refine W_seq_regc (fun T H => T 4 = (iV ((k : Nat) : Int)) ∧ True) ?_ ?_
   ·
    unfold r84_5
    refine R_mv t5 ?_
    refine R_mv (@rfl V (iV ((k : Nat) : Int))) ?_
    exact R_nil ⟨rfl, trivial⟩
   intro T H ⟨t4, _⟩
   refine W_ret ?_
   refine y4 _ _ ?_
   refine p22 _ _ ?_
   refine y1 _ _ ?_
   refine Ret_1 t4 (fz_int ?_)
   · rw [hc, fi_hit (by exact d1) (by omega)]
  have d1 := c5
  refine W_skip ?_
  refine n4 _ _ ?_
  refine .done ?_
  refine W_regc (fun T H => T 0 = (V.sl (List.map cT (w))) ∧ T 1 = (V.fn g [] caps) ∧ T 7 = (iV ((w.length : Nat) : Int)) ∧ T 8 = (iV ((k + 1 : Nat) : Int)) ∧ True) ?_ ?_
  ·
   unfold r84_6
   refine R_addN (m := k) (n := 1) t8 (@rfl V (iV ((1 : Nat) : Int))) (by omega) ?_
   refine R_mv (@rfl V (iV ((k + 1 : Nat) : Int))) ?_
   exact R_nil ⟨t0, t1, t7, rfl, trivial⟩
  intro T H ⟨t0, t1, t7, t8, _⟩
  refine p12 _ _ _ ?_ ⟨(k + 1), rfl, t0, t1, t7, (Eq.trans t8 (by first | rfl | simp)), ?_, ?_⟩
  · omega
  · omega
  · rw [hc, fi_skip (by exact d1) (by omega)]
 refine W_seq_exit ?_
 refine p32 _ _ _ ?_
 refine x1 _ _ ?_
 refine .done ?_
 refine W_seq_regc (fun T H => T 4 = (iV (-1 : Int)) ∧ True) ?_ ?_
 ·
  unfold r84_7
  refine R_mv (@rfl V (iV (-1 : Int))) ?_
  exact R_nil ⟨rfl, trivial⟩
 intro T H ⟨t4, _⟩
 refine W_ret ?_
 refine Ret_1 t4 (fz_int ?_)
 · rw [hc, fi_end (by omega)]
end Go.Proofs.YtmnjchcoigbngaaGreat


namespace Go.Proofs.YtmnjchcoigbngaaGreat
open Go Go.Proofs
theorem common_pure (a b : List Int) : PureC Tryz.prog 71 [(V.sl (List.map cI (a))), (V.sl (List.map cI (b)))] (iV ((cmn a b : Nat) : Int)) := by
 refine pure_of_Wb true 6 Tryz.func71 s71_ok (by kernel_rfl) (by simp [s71]) (by simp) (by simp) fun hB => ?_
 simp only [bnd_map, bnd_int, bnd_bool, bnd_str, bnd_agg, bnd_pp, bnd_nil, bnd_cons, implies_true, and_true, true_and] at hB
 unfold s71
 dsimp only
 refine W_seq_regc (fun T H => T 0 = (V.sl (List.map cI (a))) ∧ T 1 = (V.sl (List.map cI (b))) ∧ True) ?_ ?_
 ·
  unfold r71_0
  refine R_mv (@rfl V (iV (0 : Int))) ?_
  exact R_nil ⟨rfl, rfl, trivial⟩
 intro T H ⟨t0, t1, _⟩
 refine W_seq_seq ?_
 refine W_seq_regc (fun T H => T 0 = (V.sl (List.map cI (a))) ∧ T 1 = (V.sl (List.map cI (b))) ∧ T 10 = (iV ((min a.length b.length : Nat) : Int)) ∧ T 11 = (iV (0 : Int)) ∧ True) ?_ ?_
 ·
  unfold r71_1
  refine R_mv t0 ?_
  refine R_len (@rfl V (V.sl (List.map cI (a)))) ?_
  refine R_mv t1 ?_
  refine R_len (@rfl V (V.sl (List.map cI (b)))) ?_
  refine R_mnN (m := a.length) (n := b.length) (@rfl V (iV ((a.length : Nat) : Int))) (@rfl V (iV ((b.length : Nat) : Int))) ?_
  refine R_mv (@rfl V (iV (0 : Int))) ?_
  exact R_nil ⟨t0, t1, rfl, rfl, trivial⟩
 intro T H ⟨t0, t1, t10, t11, _⟩
 refine W_seq_blockg fun Q1 n1 x1 y1 z1 => ?_
 refine W_loop (fun mm T H => ∃ (k : Nat), mm = (min a.length b.length) - k ∧ T 0 = (V.sl (List.map cI (a))) ∧ T 1 = (V.sl (List.map cI (b))) ∧ T 10 = (iV ((min a.length b.length : Nat) : Int)) ∧ T 11 = (iV ((k : Nat) : Int)) ∧ (k ≤ min a.length b.length) ∧ (k ≤ cmn a b)) ?_ ?_
 ·
  refine ⟨_, 0, rfl, t0, t1, t10, (Eq.trans t11 (by first | rfl | simp)), ?_, ?_⟩
  · omega
  · exact Nat.zero_le _
 intro mm T H ⟨k, hmm, t0, t1, t10, t11, hk, hc⟩ Q2 p12 p22 p32
 unfold b71_0
 refine W_seq_regc (fun T H => T 0 = (V.sl (List.map cI (a))) ∧ T 1 = (V.sl (List.map cI (b))) ∧ T 10 = (iV ((min a.length b.length : Nat) : Int)) ∧ T 11 = (iV ((k : Nat) : Int)) ∧ T 12 = (V.bool (decide (((k : Nat) : Int) < ((min a.length b.length : Nat) : Int)))) ∧ True) ?_ ?_
 ·
  unfold r71_2
  refine R_lss (x := ((k : Nat) : Int)) (y := ((min a.length b.length : Nat) : Int)) t11 t10 ?_
  exact R_nil ⟨t0, t1, t10, t11, rfl, trivial⟩
 intro T H ⟨t0, t1, t10, t11, t12, _⟩
 refine W_seq_if (p := ((k : Nat) : Int) < ((min a.length b.length : Nat) : Int)) t12 (fun c3 => ?_) (fun c3 => ?_)
 ·
  refine W_seq_skip ?_
  refine W_seq_blockg fun Q4 n4 x4 y4 z4 => ?_
  refine W_seq_regc (fun T H => T 0 = (V.sl (List.map cI (a))) ∧ T 1 = (V.sl (List.map cI (b))) ∧ T 5 = (iV ((k : Nat) : Int)) ∧ T 10 = (iV ((min a.length b.length : Nat) : Int)) ∧ T 11 = (iV ((k : Nat) : Int)) ∧ True) ?_ ?_
  ·
   unfold r71_3
   refine R_mv t11 ?_
   refine R_mv (@rfl V (iV ((k : Nat) : Int))) ?_
   exact R_nil ⟨t0, t1, rfl, t10, t11, trivial⟩
  intro T H ⟨t0, t1, t5, t10, t11, _⟩
  refine W_seq_regc (fun T H => T 0 = (V.sl (List.map cI (a))) ∧ T 1 = (V.sl (List.map cI (b))) ∧ T 5 = (iV ((k : Nat) : Int)) ∧ T 10 = (iV ((min a.length b.length : Nat) : Int)) ∧ T 11 = (iV ((k : Nat) : Int)) ∧ T 22 = (V.bool (decide (((nth (a) (k))) ≠ ((nth (b) (k)))))) ∧ True) ?_ ?_
  ·
   unfold r71_4
   refine R_mv t0 ?_
   refine R_mv t5 ?_
   refine R_idx (i := k) (@rfl V (V.sl (List.map cI (a)))) (@rfl V (iV ((k : Nat) : Int))) (by omega) rfl ?_
   refine R_load_pp (v := (iV ((nth (a) (k))))) (@rfl V (V.pp [(iV ((nth (a) (k))))])) (by first | rfl | simp [ldV]) ?_
   refine R_mv t1 ?_
   refine R_mv t5 ?_
   refine R_idx (i := k) (@rfl V (V.sl (List.map cI (b)))) (@rfl V (iV ((k : Nat) : Int))) (by omega) rfl ?_
   refine R_load_pp (v := (iV ((nth (b) (k))))) (@rfl V (V.pp [(iV ((nth (b) (k))))])) (by first | rfl | simp [ldV]) ?_
   refine R_neq (x := ((nth (a) (k)))) (y := ((nth (b) (k)))) (@rfl V (iV ((nth (a) (k))))) (@rfl V (iV ((nth (b) (k))))) ?_
   exact R_nil ⟨t0, t1, t5, t10, t11, rfl, trivial⟩
  intro T H ⟨t0, t1, t5, t10, t11, t22, _⟩
  refine W_if (p := ((nth (a) (k))) ≠ ((nth (b) (k)))) t22 (fun c5 => ?_) (fun c5 => ?_)
  ·
   refine W_seq_regc (fun T H => T 4 = (iV ((k : Nat) : Int)) ∧ True) ?_ ?_
   ·
    unfold r71_5
    refine R_mv t5 ?_
    refine R_mv (@rfl V (iV ((k : Nat) : Int))) ?_
    exact R_nil ⟨rfl, trivial⟩
   intro T H ⟨t4, _⟩
   refine W_ret ?_
   refine y4 _ _ ?_
   refine p22 _ _ ?_
   refine y1 _ _ ?_
   refine Ret_1 t4 (fz_int ?_)
   · rw [cmn_at hc (by omega)]
  refine W_skip ?_
  refine n4 _ _ ?_
  refine .done ?_
  refine W_regc (fun T H => T 0 = (V.sl (List.map cI (a))) ∧ T 1 = (V.sl (List.map cI (b))) ∧ T 10 = (iV ((min a.length b.length : Nat) : Int)) ∧ T 11 = (iV ((k + 1 : Nat) : Int)) ∧ True) ?_ ?_
  ·
   unfold r71_6
   refine R_addN (m := k) (n := 1) t11 (@rfl V (iV ((1 : Nat) : Int))) (by omega) ?_
   refine R_mv (@rfl V (iV ((k + 1 : Nat) : Int))) ?_
   exact R_nil ⟨t0, t1, t10, rfl, trivial⟩
  intro T H ⟨t0, t1, t10, t11, _⟩
  refine p12 _ _ _ ?_ ⟨(k + 1), rfl, t0, t1, t10, (Eq.trans t11 (by first | rfl | simp)), ?_, ?_⟩
  · omega
  · omega
  · exact cmn_next hc (by omega) (by omega) (by omega)
 refine W_seq_exit ?_
 refine p32 _ _ _ ?_
 refine x1 _ _ ?_
 refine .done ?_
 refine W_seq_regc (fun T H => T 4 = (iV ((min a.length b.length : Nat) : Int)) ∧ True) ?_ ?_
 ·
  unfold r71_7
  refine R_mv t0 ?_
  refine R_len (@rfl V (V.sl (List.map cI (a)))) ?_
  refine R_mv t1 ?_
  refine R_len (@rfl V (V.sl (List.map cI (b)))) ?_
  refine R_mnN (m := a.length) (n := b.length) (@rfl V (iV ((a.length : Nat) : Int))) (@rfl V (iV ((b.length : Nat) : Int))) ?_
  refine R_mv (@rfl V (iV ((min a.length b.length : Nat) : Int))) ?_
  exact R_nil ⟨rfl, trivial⟩
 intro T H ⟨t4, _⟩
 refine W_ret ?_
 refine Ret_1 t4 (fz_int ?_)
 · rw [cmn_at hc (by omega)]; omega
end Go.Proofs.YtmnjchcoigbngaaGreat


namespace Go.Proofs.YtmnjchcoigbngaaGreat
open Go Go.Proofs
theorem hp_pure (w p : List Int) : PureC Tryz.prog 86 [(V.sl (List.map cI (w))), (V.sl (List.map cI (p)))] (V.bool (hp w p)) := by
 refine pure_of_Wb true 6 Tryz.func86 s86_ok (by kernel_rfl) (by simp [s86]) (by simp) (by simp) fun hB => ?_
 simp only [bnd_map, bnd_int, bnd_bool, bnd_str, bnd_agg, bnd_pp, bnd_nil, bnd_cons, implies_true, and_true, true_and] at hB
 unfold s86
 dsimp only
 refine W_seq_regc (fun T H => T 0 = (V.sl (List.map cI (w))) ∧ T 1 = (V.sl (List.map cI (p))) ∧ True) ?_ ?_
 ·
  unfold r86_0
  refine R_mv (@rfl V (V.bool false)) ?_
  exact R_nil ⟨rfl, rfl, trivial⟩
 intro T H ⟨t0, t1, _⟩
 refine W_seq_regc (fun T H => T 4 = (V.bool (decide (((cmn w p : Nat) : Int) = ((p.length : Nat) : Int)))) ∧ True) ?_ ?_
 ·
  unfold r86_1
  refine R_mv t0 ?_
  refine R_mv t1 ?_
  have q1 := cmn_l w p
  have q2 := cmn_r w p
  refine R_call (evcons (@rfl V (V.sl (List.map cI (w)))) (evcons (@rfl V (V.sl (List.map cI (p)))) evnil)) (common_pure w p) (fzv_mapcanon _ _ (by simp [-List.map_take, -List.map_drop, -List.map_append, -List.map_reverse])) (by simp [-List.map_take, -List.map_drop, -List.map_append, -List.map_reverse]) (Or.inl (by simp [-List.map_take, -List.map_drop, -List.map_append, -List.map_reverse])) ?_
  refine R_mv t1 ?_
  refine R_len (@rfl V (V.sl (List.map cI (p)))) ?_
  refine R_eql (x := ((cmn w p : Nat) : Int)) (y := ((p.length : Nat) : Int)) (@rfl V (iV ((cmn w p : Nat) : Int))) (@rfl V (iV ((p.length : Nat) : Int))) ?_
  refine R_mv (@rfl V (V.bool (decide (((cmn w p : Nat) : Int) = ((p.length : Nat) : Int))))) ?_
  exact R_nil ⟨rfl, trivial⟩
 intro T H ⟨t4, _⟩
 have q3 := cmn_l w p
 have q4 := cmn_r w p
 refine W_ret ?_
 refine Ret_1 t4 (fz_bool ?_)
 · unfold hp; exact decide_eq_decide.2 (by omega)
end Go.Proofs.YtmnjchcoigbngaaGreat


namespace Go.Proofs.YtmnjchcoigbngaaGreat
open Go Go.Proofs
theorem answer1_pure (t : Tr) (w : List Int) : PureC Tryz.prog 85 [(V.agg [(V.sl (List.map cI (t.ni))), (V.sl (List.map cI (t.no)))]), (V.pp [(V.sl (List.map cI (w)))])] (V.bool (hp t.ni w)) := by
 refine pure_of_Wb true 6 Tryz.func85 s85_ok (by kernel_rfl) (by simp [s85]) (by simp) (by simp) fun hB => ?_
 simp only [bnd_map, bnd_int, bnd_bool, bnd_str, bnd_agg, bnd_pp, bnd_nil, bnd_cons, implies_true, and_true, true_and] at hB
 unfold s85
 dsimp only
 refine W_seq_regc (fun T H => T 1 = (V.pp [(V.sl (List.map cI (w)))]) ∧ T 2 = (V.mp 2 1 0 0) ∧ H 2 = (⟨1, true, false, 70, 2, [[(V.sl (List.map cI (t.ni))), (V.sl (List.map cI (t.no)))]]⟩ : Blk) ∧ True) ?_ ?_
 ·
  unfold r85_0
  refine R_box (i := 2) (n := 0) (m := 2) (cs := [(V.sl (List.map cI (t.ni))), (V.sl (List.map cI (t.no)))]) rfl (congrArg Blk.ver rfl) (@rfl V (V.agg [(V.sl (List.map cI (t.ni))), (V.sl (List.map cI (t.no)))])) rfl rfl ?_
  refine R_mv (@rfl V (V.bool false)) ?_
  exact R_nil ⟨rfl, rfl, rfl, trivial⟩
 intro T H ⟨t1, t2, h2, _⟩
 refine W_seq_regc (fun T H => T 3 = (V.bool (hp t.ni w)) ∧ H 2 = (⟨1, true, false, 70, 2, [[(V.sl (List.map cI (t.ni))), (V.sl (List.map cI (t.no)))]]⟩ : Blk) ∧ True) ?_ ?_
 ·
  unfold r85_1
  refine R_fld_mp (o' := 0) t2 h2 (by first | rfl | simp [okB, Blk.own]) rfl ?_
  refine R_load_mp (v := (V.sl (List.map cI (t.ni)))) (@rfl V (V.mp 2 1 0 0)) h2 (by first | rfl | simp [ldB, ldV, Blk.own, V.one]) ?_
  refine R_load_pp (v := (V.sl (List.map cI (w)))) t1 (by first | rfl | simp [ldV]) ?_
  refine R_call (evcons (@rfl V (V.sl (List.map cI (t.ni)))) (evcons (@rfl V (V.sl (List.map cI (w)))) evnil)) (hp_pure t.ni w) (fzv_mapcanon _ _ (by simp [-List.map_take, -List.map_drop, -List.map_append, -List.map_reverse])) (by simp [-List.map_take, -List.map_drop, -List.map_append, -List.map_reverse]) (Or.inl (by simp [-List.map_take, -List.map_drop, -List.map_append, -List.map_reverse])) ?_
  refine R_mv (@rfl V (V.bool (hp t.ni w))) ?_
  exact R_nil ⟨rfl, h2, trivial⟩
 intro T H ⟨t3, h2, _⟩
 refine W_ret ?_
 refine Ret_1 t3 (fz_canon (by simp) rfl)
end Go.Proofs.YtmnjchcoigbngaaGreat


namespace Go.Proofs.YtmnjchcoigbngaaGreat
open Go Go.Proofs
theorem answer_pure (o : Ob) (w : List Int) (ho : oval o = 0) : PureC Tryz.prog 50 [(V.agg [(iV (o.i)), (V.sl (List.map cT (o.tr)))]), (V.sl (List.map cI (w)))] (V.tup [(V.sl (List.map cI ((ans o w).getD []))), (V.bool ((ans o w).isSome))]) := by
 refine pure_of_Wb true 6 Tryz.func50 s50_ok (by kernel_rfl) (by simp [s50]) (by simp) (by simp) fun hB => ?_
 simp only [bnd_map, bnd_int, bnd_bool, bnd_str, bnd_agg, bnd_pp, bnd_nil, bnd_cons, implies_true, and_true, true_and] at hB
 unfold s50
 dsimp only
 have u2 := oval_ok ho
 refine W_seq_regc (fun T H => T 2 = (V.mp 2 1 0 0) ∧ T 3 = (V.mp 3 1 0 0) ∧ H 2 = (⟨1, true, false, 37, 2, [[(iV (o.i)), (V.sl (List.map cT (o.tr)))]]⟩ : Blk) ∧ H 3 = (⟨1, true, false, 38, 1, [[(V.sl (List.map cI (w)))]]⟩ : Blk) ∧ True) ?_ ?_
 ·
  unfold r50_0
  refine R_box (i := 2) (n := 0) (m := 2) (cs := [(iV (o.i)), (V.sl (List.map cT (o.tr)))]) rfl (congrArg Blk.ver rfl) (@rfl V (V.agg [(iV (o.i)), (V.sl (List.map cT (o.tr)))])) rfl rfl ?_
  refine R_box (i := 3) (n := 0) (m := 1) (cs := [(V.sl (List.map cI (w)))]) rfl (congrArg Blk.ver rfl) (@rfl V (V.sl (List.map cI (w)))) rfl rfl ?_
  refine R_mv (@rfl V V.nilsl) ?_
  refine R_mv (@rfl V (V.bool false)) ?_
  exact R_nil ⟨rfl, rfl, rfl, rfl, trivial⟩
 intro T H ⟨t2, t3, h2, h3, _⟩
 refine W_seq_seq ?_
 refine W_seq_regc (fun T H => T 2 = (V.mp 2 1 0 0) ∧ T 3 = (V.mp 3 1 0 0) ∧ T 10 = (V.bool (decide (((w.length : Nat) : Int) = (0 : Int)))) ∧ H 2 = (⟨1, true, false, 37, 2, [[(iV (o.i)), (V.sl (List.map cT (o.tr)))]]⟩ : Blk) ∧ H 3 = (⟨1, true, false, 38, 1, [[(V.sl (List.map cI (w)))]]⟩ : Blk) ∧ True) ?_ ?_
 ·
  unfold r50_1
  refine R_load_mp (v := (V.sl (List.map cI (w)))) t3 h3 (by first | rfl | simp [ldB, ldV, Blk.own, V.one]) ?_
  refine R_len (@rfl V (V.sl (List.map cI (w)))) ?_
  refine R_eql (x := ((w.length : Nat) : Int)) (y := (0 : Int)) (@rfl V (iV ((w.length : Nat) : Int))) (@rfl V (iV (0 : Int))) ?_
  exact R_nil ⟨t2, t3, rfl, h2, h3, trivial⟩
 intro T H ⟨t2, t3, t10, h2, h3, _⟩
 refine W_seq_if (p := ((w.length : Nat) : Int) = (0 : Int)) t10 (fun c1 => ?_) (fun c1 => ?_)
 ·
  refine W_seq_seq ?_
  refine W_seq_regc (fun T H => T 4 = V.nilsl ∧ T 5 = (V.bool true) ∧ H 2 = (⟨1, true, false, 37, 2, [[(iV (o.i)), (V.sl (List.map cT (o.tr)))]]⟩ : Blk) ∧ H 3 = (⟨1, true, false, 38, 1, [[(V.sl (List.map cI (w)))]]⟩ : Blk) ∧ True) ?_ ?_
  ·
   unfold r50_2
   refine R_mv (@rfl V V.nilsl) ?_
   refine R_mv (@rfl V (V.bool true)) ?_
   exact R_nil ⟨rfl, rfl, h2, h3, trivial⟩
  intro T H ⟨t4, t5, h2, h3, _⟩
  refine W_seq_ret ?_
  refine Ret_2 t4 t5 (fz_nil ?_) (fz_bool ?_)
  · rw [List.length_eq_zero_iff.1 (show w.length = 0 by omega)]; rfl
  · rw [List.length_eq_zero_iff.1 (show w.length = 0 by omega)]; rfl
 have hw : w ≠ [] := by intro e; subst e; simp at *
 refine W_seq_skip ?_
 refine W_seq_regc (fun T H => T 2 = (V.mp 2 1 0 0) ∧ T 3 = (V.mp 3 1 0 0) ∧ T 6 = (iV (fi (fun j => (fun t : Tr => hp t.ni w) (nth o.tr j)) 0 o.tr.length)) ∧ H 2 = (⟨1, true, false, 37, 2, [[(iV (o.i)), (V.sl (List.map cT (o.tr)))]]⟩ : Blk) ∧ H 3 = (⟨1, true, false, 38, 1, [[(V.sl (List.map cI (w)))]]⟩ : Blk) ∧ True) ?_ ?_
 ·
  unfold r50_3
  refine R_fld_mp (o' := 1) t2 h2 (by first | rfl | simp [okB, Blk.own]) rfl ?_
  refine R_load_mp (v := (V.sl (List.map cT (o.tr)))) (@rfl V (V.mp 2 1 0 1)) h2 (by first | rfl | simp [ldB, ldV, Blk.own, V.one]) ?_
  refine R_mkf (evcons t3 evnil) ?_
  refine R_call (evcons (@rfl V (V.sl (List.map cT (o.tr)))) (evcons (@rfl V (V.fn 85 [] [(V.mp 3 1 0 0)])) evnil)) (idxt_pure (fun t : Tr => hp t.ni w) o.tr 85 ([(V.pp [(V.sl (List.map cI (w)))])]) (by simp) (by simp) (fun j _ => answer1_pure (nth o.tr j) w)) (mcons (fzv_canon 6 _ (by simp [-List.map_take, -List.map_drop, -List.map_append, -List.map_reverse])) (mcons (by simp [fzv, Blk.own, h2, h3]) rfl)) (by simp [-List.map_take, -List.map_drop, -List.map_append, -List.map_reverse]) (Or.inr rfl) ?_
  refine R_mv (@rfl V (iV (fi (fun j => (fun t : Tr => hp t.ni w) (nth o.tr j)) 0 o.tr.length))) ?_
  exact R_nil ⟨t2, t3, rfl, h2, h3, trivial⟩
 intro T H ⟨t2, t3, t6, h2, h3, _⟩
 refine W_seq_seq ?_
 refine W_seq_regc (fun T H => T 2 = (V.mp 2 1 0 0) ∧ T 3 = (V.mp 3 1 0 0) ∧ T 6 = (iV (fi (fun j => (fun t : Tr => hp t.ni w) (nth o.tr j)) 0 o.tr.length)) ∧ T 16 = (V.bool (decide ((fi (fun j => (fun t : Tr => hp t.ni w) (nth o.tr j)) 0 o.tr.length) < (0 : Int)))) ∧ H 2 = (⟨1, true, false, 37, 2, [[(iV (o.i)), (V.sl (List.map cT (o.tr)))]]⟩ : Blk) ∧ H 3 = (⟨1, true, false, 38, 1, [[(V.sl (List.map cI (w)))]]⟩ : Blk) ∧ True) ?_ ?_
 ·
  unfold r50_4
  refine R_mv t6 ?_
  refine R_lss (x := (fi (fun j => (fun t : Tr => hp t.ni w) (nth o.tr j)) 0 o.tr.length)) (y := (0 : Int)) (@rfl V (iV (fi (fun j => (fun t : Tr => hp t.ni w) (nth o.tr j)) 0 o.tr.length))) (@rfl V (iV (0 : Int))) ?_
  exact R_nil ⟨t2, t3, t6, rfl, h2, h3, trivial⟩
 intro T H ⟨t2, t3, t6, t16, h2, h3, _⟩
 refine W_seq_if (p := (fi (fun j => (fun t : Tr => hp t.ni w) (nth o.tr j)) 0 o.tr.length) < (0 : Int)) t16 (fun c2 => ?_) (fun c2 => ?_)
 ·
  have d1 : ansL o.tr w = none := ansL_miss (l := o.tr) (w := w) c2
  refine W_seq_seq ?_
  refine W_seq_regc (fun T H => T 4 = V.nilsl ∧ T 5 = (V.bool false) ∧ H 2 = (⟨1, true, false, 37, 2, [[(iV (o.i)), (V.sl (List.map cT (o.tr)))]]⟩ : Blk) ∧ H 3 = (⟨1, true, false, 38, 1, [[(V.sl (List.map cI (w)))]]⟩ : Blk) ∧ True) ?_ ?_
  ·
   unfold r50_5
   refine R_mv (@rfl V V.nilsl) ?_
   refine R_mv (@rfl V (V.bool false)) ?_
   exact R_nil ⟨rfl, rfl, h2, h3, trivial⟩
  intro T H ⟨t4, t5, h2, h3, _⟩
  refine W_seq_ret ?_
  refine Ret_2 t4 t5 (fz_nil ?_) (fz_bool ?_)
  · rw [ans, if_neg hw, d1]; rfl
  · rw [ans, if_neg hw, d1]; rfl
 have d1 := ansL_hit (l := o.tr) (w := w) (by omega)
 have d2 := (u2.pr _ d1.1).1.len
 have d3 := (u2.pr _ d1.1).1.lel
 have d4 := hp_len d1.2.1
 refine W_seq_skip ?_
 refine W_seq_regc (fun T H => T 3 = (V.mp 3 1 0 0) ∧ T 7 = (V.sl (List.map cI ((nth (o.tr) (fi (fun j => (fun t : Tr => hp t.ni w) (nth o.tr j)) 0 o.tr.length).toNat).no))) ∧ H 2 = (⟨1, true, false, 37, 2, [[(iV (o.i)), (V.sl (List.map cT (o.tr)))]]⟩ : Blk) ∧ H 3 = (⟨1, true, false, 38, 1, [[(V.sl (List.map cI (w)))]]⟩ : Blk) ∧ True) ?_ ?_
 ·
  unfold r50_6
  refine R_fld_mp (o' := 1) t2 h2 (by first | rfl | simp [okB, Blk.own]) rfl ?_
  refine R_load_mp (v := (V.sl (List.map cT (o.tr)))) (@rfl V (V.mp 2 1 0 1)) h2 (by first | rfl | simp [ldB, ldV, Blk.own, V.one]) ?_
  refine R_mv t6 ?_
  refine R_idxI (i := (fi (fun j => (fun t : Tr => hp t.ni w) (nth o.tr j)) 0 o.tr.length)) (@rfl V (V.sl (List.map cT (o.tr)))) (@rfl V (iV (fi (fun j => (fun t : Tr => hp t.ni w) (nth o.tr j)) 0 o.tr.length))) (by omega) (by omega) rfl ?_
  refine R_fld_pp (cs' := [(V.sl (List.map cI ((nth (o.tr) (fi (fun j => (fun t : Tr => hp t.ni w) (nth o.tr j)) 0 o.tr.length).toNat).no)))]) (@rfl V (V.pp [(V.sl (List.map cI ((nth (o.tr) (fi (fun j => (fun t : Tr => hp t.ni w) (nth o.tr j)) 0 o.tr.length).toNat).ni))), (V.sl (List.map cI ((nth (o.tr) (fi (fun j => (fun t : Tr => hp t.ni w) (nth o.tr j)) 0 o.tr.length).toNat).no)))])) rfl ?_
  refine R_load_pp (v := (V.sl (List.map cI ((nth (o.tr) (fi (fun j => (fun t : Tr => hp t.ni w) (nth o.tr j)) 0 o.tr.length).toNat).no)))) (@rfl V (V.pp [(V.sl (List.map cI ((nth (o.tr) (fi (fun j => (fun t : Tr => hp t.ni w) (nth o.tr j)) 0 o.tr.length).toNat).no)))])) (by first | rfl | simp [ldV]) ?_
  refine R_mv (@rfl V (V.sl (List.map cI ((nth (o.tr) (fi (fun j => (fun t : Tr => hp t.ni w) (nth o.tr j)) 0 o.tr.length).toNat).no)))) ?_
  exact R_nil ⟨t3, rfl, h2, h3, trivial⟩
 intro T H ⟨t3, t7, h2, h3, _⟩
 refine W_seq_regc (fun T H => T 4 = (V.sl (List.map cI ((List.take (min w.length (((nth (o.tr) (fi (fun j => (fun t : Tr => hp t.ni w) (nth o.tr j)) 0 o.tr.length).toNat).no).length)) ((nth (o.tr) (fi (fun j => (fun t : Tr => hp t.ni w) (nth o.tr j)) 0 o.tr.length).toNat).no))))) ∧ T 5 = (V.bool true) ∧ H 2 = (⟨1, true, false, 37, 2, [[(iV (o.i)), (V.sl (List.map cT (o.tr)))]]⟩ : Blk) ∧ H 3 = (⟨1, true, false, 38, 1, [[(V.sl (List.map cI (w)))]]⟩ : Blk) ∧ True) ?_ ?_
 ·
  unfold r50_7
  refine R_mv t7 ?_
  refine R_load_mp (v := (V.sl (List.map cI (w)))) t3 h3 (by first | rfl | simp [ldB, ldV, Blk.own, V.one]) ?_
  refine R_len (@rfl V (V.sl (List.map cI (w)))) ?_
  refine R_mv t7 ?_
  refine R_len (@rfl V (V.sl (List.map cI ((nth (o.tr) (fi (fun j => (fun t : Tr => hp t.ni w) (nth o.tr j)) 0 o.tr.length).toNat).no)))) ?_
  refine R_mnN (m := w.length) (n := (((nth (o.tr) (fi (fun j => (fun t : Tr => hp t.ni w) (nth o.tr j)) 0 o.tr.length).toNat).no).length)) (@rfl V (iV ((w.length : Nat) : Int))) (@rfl V (iV ((((nth (o.tr) (fi (fun j => (fun t : Tr => hp t.ni w) (nth o.tr j)) 0 o.tr.length).toNat).no).length : Nat) : Int))) ?_
  refine R_slice_hi (n := (min w.length (((nth (o.tr) (fi (fun j => (fun t : Tr => hp t.ni w) (nth o.tr j)) 0 o.tr.length).toNat).no).length))) (@rfl V (V.sl (List.map cI ((nth (o.tr) (fi (fun j => (fun t : Tr => hp t.ni w) (nth o.tr j)) 0 o.tr.length).toNat).no)))) (@rfl V (iV ((min w.length (((nth (o.tr) (fi (fun j => (fun t : Tr => hp t.ni w) (nth o.tr j)) 0 o.tr.length).toNat).no).length) : Nat) : Int))) (by omega) (fun _ => rfl) ?_
  refine R_call (evcons (@rfl V (V.sl (List.map cI (List.take (min w.length (((nth (o.tr) (fi (fun j => (fun t : Tr => hp t.ni w) (nth o.tr j)) 0 o.tr.length).toNat).no).length)) ((nth (o.tr) (fi (fun j => (fun t : Tr => hp t.ni w) (nth o.tr j)) 0 o.tr.length).toNat).no))))) evnil) (clone_pure (List.take (min w.length (((nth (o.tr) (fi (fun j => (fun t : Tr => hp t.ni w) (nth o.tr j)) 0 o.tr.length).toNat).no).length)) ((nth (o.tr) (fi (fun j => (fun t : Tr => hp t.ni w) (nth o.tr j)) 0 o.tr.length).toNat).no)) (by simp; omega)) (fzv_mapcanon _ _ (by simp [-List.map_take, -List.map_drop, -List.map_append, -List.map_reverse])) (by simp [-List.map_take, -List.map_drop, -List.map_append, -List.map_reverse]) (Or.inl (by simp [-List.map_take, -List.map_drop, -List.map_append, -List.map_reverse])) ?_
  refine R_mv (@rfl V (V.sl (List.map cI ((List.take (min w.length (((nth (o.tr) (fi (fun j => (fun t : Tr => hp t.ni w) (nth o.tr j)) 0 o.tr.length).toNat).no).length)) ((nth (o.tr) (fi (fun j => (fun t : Tr => hp t.ni w) (nth o.tr j)) 0 o.tr.length).toNat).no)))))) ?_
  refine R_mv (@rfl V (V.bool true)) ?_
  exact R_nil ⟨rfl, rfl, h2, h3, trivial⟩
 intro T H ⟨t4, t5, h2, h3, _⟩
 refine W_ret ?_
 refine Ret_2 t4 t5 (fz_sl ?_ (fun _ => by simp)) (fz_bool ?_)
 · rw [ans, if_neg hw, d1.2.2, Nat.min_eq_left (by omega)]; rfl
 · rw [ans, if_neg hw, d1.2.2]; rfl
end Go.Proofs.YtmnjchcoigbngaaGreat


namespace Go.Proofs.YtmnjchcoigbngaaGreat
open Go Go.Proofs
theorem bsw_pure (l : List (List Int)) (t : List Int) (hs : SrtL l) (hl : l.length ≤ 1048576) : PureC Tryz.prog 88 [(V.sl (List.map cL (l))), (V.sl (List.map cI (t))), (V.fn 66 [] [])] (V.tup [(iV ((lxN l t : Nat) : Int)), (V.bool (decide (lxH l t)))]) := by
 refine pure_of_Wb true 6 Tryz.func88 s88_ok (by kernel_rfl) (by simp [s88]) (by simp) (by simp) fun hB => ?_
 simp only [bnd_map, bnd_int, bnd_bool, bnd_str, bnd_agg, bnd_pp, bnd_nil, bnd_cons, implies_true, and_true, true_and] at hB
 unfold s88
 dsimp only
 have q0 := lx_le (w := t) l
 refine W_seq_regc (fun T H => T 0 = (V.sl (List.map cL (l))) ∧ T 1 = (V.sl (List.map cI (t))) ∧ T 2 = (V.fn 66 [] []) ∧ True) ?_ ?_
 ·
  unfold r88_0
  refine R_mv (@rfl V (iV (0 : Int))) ?_
  refine R_mv (@rfl V (V.bool false)) ?_
  exact R_nil ⟨rfl, rfl, rfl, trivial⟩
 intro T H ⟨t0, t1, t2, _⟩
 refine W_seq_regc (fun T H => T 0 = (V.sl (List.map cL (l))) ∧ T 1 = (V.sl (List.map cI (t))) ∧ T 2 = (V.fn 66 [] []) ∧ T 8 = (iV ((l.length : Nat) : Int)) ∧ True) ?_ ?_
 ·
  unfold r88_1
  refine R_mv t0 ?_
  refine R_len (@rfl V (V.sl (List.map cL (l)))) ?_
  refine R_mv (@rfl V (iV ((l.length : Nat) : Int))) ?_
  exact R_nil ⟨t0, t1, t2, rfl, trivial⟩
 intro T H ⟨t0, t1, t2, t8, _⟩
 refine W_seq_regc (fun T H => T 0 = (V.sl (List.map cL (l))) ∧ T 1 = (V.sl (List.map cI (t))) ∧ T 2 = (V.fn 66 [] []) ∧ T 8 = (iV ((l.length : Nat) : Int)) ∧ T 9 = (iV (0 : Int)) ∧ T 10 = (iV ((l.length : Nat) : Int)) ∧ True) ?_ ?_
 ·
  unfold r88_2
  refine R_mv t8 ?_
  refine R_mv (@rfl V (iV (0 : Int))) ?_
  refine R_mv (@rfl V (iV ((l.length : Nat) : Int))) ?_
  exact R_nil ⟨t0, t1, t2, t8, rfl, rfl, trivial⟩
 intro T H ⟨t0, t1, t2, t8, t9, t10, _⟩
 refine W_seq_blockg fun Q1 n1 x1 y1 z1 => ?_
 refine W_loop (fun mm T H => ∃ (i : Nat) (j : Nat), mm = j - i ∧ T 0 = (V.sl (List.map cL (l))) ∧ T 1 = (V.sl (List.map cI (t))) ∧ T 2 = (V.fn 66 [] []) ∧ T 8 = (iV ((l.length : Nat) : Int)) ∧ T 9 = (iV ((i : Nat) : Int)) ∧ T 10 = (iV ((j : Nat) : Int)) ∧ (i ≤ lxN l t) ∧ (lxN l t ≤ j) ∧ (j ≤ l.length)) ?_ ?_
 ·
  refine ⟨_, 0, l.length, rfl, t0, t1, t2, t8, (Eq.trans t9 (by first | rfl | simp)), t10, ?_, ?_, ?_⟩
  · omega
  · omega
  · omega
 intro mm T H ⟨i, j, hmm, t0, t1, t2, t8, t9, t10, h1, h2, h3⟩ Q2 p12 p22 p32
 unfold b88_0
 refine W_seq_seq ?_
 refine W_seq_regc (fun T H => T 0 = (V.sl (List.map cL (l))) ∧ T 1 = (V.sl (List.map cI (t))) ∧ T 2 = (V.fn 66 [] []) ∧ T 8 = (iV ((l.length : Nat) : Int)) ∧ T 9 = (iV ((i : Nat) : Int)) ∧ T 10 = (iV ((j : Nat) : Int)) ∧ T 17 = (V.bool (decide (((i : Nat) : Int) < ((j : Nat) : Int)))) ∧ True) ?_ ?_
 ·
  unfold r88_3
  refine R_mv t9 ?_
  refine R_mv t10 ?_
  refine R_lss (x := ((i : Nat) : Int)) (y := ((j : Nat) : Int)) (@rfl V (iV ((i : Nat) : Int))) (@rfl V (iV ((j : Nat) : Int))) ?_
  exact R_nil ⟨t0, t1, t2, t8, t9, t10, rfl, trivial⟩
 intro T H ⟨t0, t1, t2, t8, t9, t10, t17, _⟩
 refine W_seq_if (p := ((i : Nat) : Int) < ((j : Nat) : Int)) t17 (fun c3 => ?_) (fun c3 => ?_)
 ·
  refine W_seq_skip ?_
  refine W_block fun Q4 n4 x4 y4 z4 => ?_
  refine W_seq_regc (fun T H => T 0 = (V.sl (List.map cL (l))) ∧ T 1 = (V.sl (List.map cI (t))) ∧ T 2 = (V.fn 66 [] []) ∧ T 8 = (iV ((l.length : Nat) : Int)) ∧ T 9 = (iV ((i : Nat) : Int)) ∧ T 10 = (iV ((j : Nat) : Int)) ∧ T 11 = (iV (((i + j) / 2 : Nat) : Int)) ∧ True) ?_ ?_
  ·
   unfold r88_4
   refine R_mv t9 ?_
   refine R_mv t10 ?_
   refine R_addN (m := i) (n := j) (@rfl V (iV ((i : Nat) : Int))) (@rfl V (iV ((j : Nat) : Int))) (by omega) ?_
   refine R_convU (n := (i + j)) (@rfl V (iV ((i + j : Nat) : Int))) (by omega) ?_
   refine R_shr1 (n := (i + j)) (@rfl V (V.int .u64 (((i + j : Nat) : Int)))) (@rfl V (V.int .u64 (1))) ?_
   refine R_convI (n := ((i + j) / 2)) (@rfl V (V.int .u64 ((((i + j) / 2 : Nat) : Int)))) (by omega) ?_
   refine R_mv (@rfl V (iV (((i + j) / 2 : Nat) : Int))) ?_
   exact R_nil ⟨t0, t1, t2, t8, t9, t10, rfl, trivial⟩
  intro T H ⟨t0, t1, t2, t8, t9, t10, t11, _⟩
  refine W_seq_regc (fun T H => T 0 = (V.sl (List.map cL (l))) ∧ T 1 = (V.sl (List.map cI (t))) ∧ T 2 = (V.fn 66 [] []) ∧ T 8 = (iV ((l.length : Nat) : Int)) ∧ T 9 = (iV ((i : Nat) : Int)) ∧ T 10 = (iV ((j : Nat) : Int)) ∧ T 11 = (iV (((i + j) / 2 : Nat) : Int)) ∧ T 31 = (V.bool (decide ((lexI ((nth (l) ((i + j) / 2))) t) < (0 : Int)))) ∧ True) ?_ ?_
  ·
   unfold r88_5
   refine R_mv t2 ?_
   refine R_mv t0 ?_
   refine R_mv t11 ?_
   refine R_idx (i := ((i + j) / 2)) (@rfl V (V.sl (List.map cL (l)))) (@rfl V (iV (((i + j) / 2 : Nat) : Int))) (by omega) rfl ?_
   refine R_load_pp (v := (V.sl (List.map cI ((nth (l) ((i + j) / 2)))))) (@rfl V (V.pp [(V.sl (List.map cI ((nth (l) ((i + j) / 2)))))])) (by first | rfl | simp [ldV]) ?_
   refine R_mv t1 ?_
   refine R_callv (@rfl V (V.fn 66 [] [])) (evcons (@rfl V (V.sl (List.map cI ((nth (l) ((i + j) / 2)))))) (evcons (@rfl V (V.sl (List.map cI (t)))) evnil)) (lex_pure ((nth (l) ((i + j) / 2))) t) (fzv_mapcanon _ _ (by simp [-List.map_take, -List.map_drop, -List.map_append, -List.map_reverse])) (by simp [-List.map_take, -List.map_drop, -List.map_append, -List.map_reverse]) (Or.inl (by simp [-List.map_take, -List.map_drop, -List.map_append, -List.map_reverse])) ?_
   refine R_lss (x := (lexI ((nth (l) ((i + j) / 2))) t)) (y := (0 : Int)) (@rfl V (iV (lexI ((nth (l) ((i + j) / 2))) t))) (@rfl V (iV (0 : Int))) ?_
   exact R_nil ⟨t0, t1, t2, t8, t9, t10, t11, rfl, trivial⟩
  intro T H ⟨t0, t1, t2, t8, t9, t10, t11, t31, _⟩
  refine W_if (p := (lexI ((nth (l) ((i + j) / 2))) t) < (0 : Int)) t31 (fun c5 => ?_) (fun c5 => ?_)
  ·
   have d1 := (lx_iff hs (by omega)).1 c5
   refine W_regc (fun T H => T 0 = (V.sl (List.map cL (l))) ∧ T 1 = (V.sl (List.map cI (t))) ∧ T 2 = (V.fn 66 [] []) ∧ T 8 = (iV ((l.length : Nat) : Int)) ∧ T 9 = (iV ((((i + j) / 2) + 1 : Nat) : Int)) ∧ T 10 = (iV ((j : Nat) : Int)) ∧ True) ?_ ?_
   ·
    unfold r88_6
    refine R_mv t11 ?_
    refine R_addN (m := ((i + j) / 2)) (n := 1) (@rfl V (iV (((i + j) / 2 : Nat) : Int))) (@rfl V (iV ((1 : Nat) : Int))) (by omega) ?_
    refine R_mv (@rfl V (iV ((((i + j) / 2) + 1 : Nat) : Int))) ?_
    exact R_nil ⟨t0, t1, t2, t8, rfl, t10, trivial⟩
   intro T H ⟨t0, t1, t2, t8, t9, t10, _⟩
   refine n4 _ _ ?_
   refine p12 _ _ _ ?_ ⟨(((i + j) / 2) + 1), j, rfl, t0, t1, t2, t8, (Eq.trans t9 (by first | rfl | simp)), t10, ?_, ?_, ?_⟩
   · omega
   · omega
   · omega
   · omega
  have d1 : ¬((i + j) / 2 < lxN l t) := fun e => c5 ((lx_iff hs (by omega)).2 e)
  refine W_regc (fun T H => T 0 = (V.sl (List.map cL (l))) ∧ T 1 = (V.sl (List.map cI (t))) ∧ T 2 = (V.fn 66 [] []) ∧ T 8 = (iV ((l.length : Nat) : Int)) ∧ T 9 = (iV ((i : Nat) : Int)) ∧ T 10 = (iV (((i + j) / 2 : Nat) : Int)) ∧ True) ?_ ?_
  ·
   unfold r88_7
   refine R_mv t11 ?_
   refine R_mv (@rfl V (iV (((i + j) / 2 : Nat) : Int))) ?_
   exact R_nil ⟨t0, t1, t2, t8, t9, rfl, trivial⟩
  intro T H ⟨t0, t1, t2, t8, t9, t10, _⟩
  refine n4 _ _ ?_
  refine p12 _ _ _ ?_ ⟨i, ((i + j) / 2), rfl, t0, t1, t2, t8, t9, (Eq.trans t10 (by first | rfl | simp)), ?_, ?_, ?_⟩
  · omega
  · omega
  · omega
  · omega
 refine W_seq_exit ?_
 refine p32 _ _ _ ?_
 refine x1 _ _ ?_
 refine .done ?_
 refine W_seq_regc (fun T H => T 6 = (iV ((i : Nat) : Int)) ∧ T 7 = (V.bool (decide ((((i : Nat) : Int) < ((l.length : Nat) : Int)) ∧ ((lexI ((nth (l) (i))) t) = (0 : Int))))) ∧ True) ?_ ?_
 ·
  unfold r88_8
  refine R_mv t9 ?_
  refine R_mv t9 ?_
  refine R_mv t8 ?_
  refine R_lss (x := ((i : Nat) : Int)) (y := ((l.length : Nat) : Int)) (@rfl V (iV ((i : Nat) : Int))) (@rfl V (iV ((l.length : Nat) : Int))) ?_
  refine R_mv (@rfl V (V.bool (decide (((i : Nat) : Int) < ((l.length : Nat) : Int))))) ?_
  refine Ops_seg 9 (fun T H => T 35 = (iV ((i : Nat) : Int)) ∧ T 48 = (V.bool (decide ((((i : Nat) : Int) < ((l.length : Nat) : Int)) ∧ ((lexI ((nth (l) (i))) t) = (0 : Int))))) ∧ True) ?_ ?_
  ·
   by_cases g6 : ((i : Nat) : Int) < ((l.length : Nat) : Int)
   ·
    refine G_yes (Eq.trans (@rfl V (V.bool (decide (((i : Nat) : Int) < ((l.length : Nat) : Int))))) (bdT g6)) ?_
    refine R_mv t2 ?_
    refine G_yes (Eq.trans (@rfl V (V.bool (decide (((i : Nat) : Int) < ((l.length : Nat) : Int))))) (bdT g6)) ?_
    refine R_mv t0 ?_
    refine G_yes (Eq.trans (@rfl V (V.bool (decide (((i : Nat) : Int) < ((l.length : Nat) : Int))))) (bdT g6)) ?_
    refine R_mv t9 ?_
    refine G_yes (Eq.trans (@rfl V (V.bool (decide (((i : Nat) : Int) < ((l.length : Nat) : Int))))) (bdT g6)) ?_
    refine R_idx (i := i) (@rfl V (V.sl (List.map cL (l)))) (@rfl V (iV ((i : Nat) : Int))) (by omega) rfl ?_
    refine G_yes (Eq.trans (@rfl V (V.bool (decide (((i : Nat) : Int) < ((l.length : Nat) : Int))))) (bdT g6)) ?_
    refine R_load_pp (v := (V.sl (List.map cI ((nth (l) (i)))))) (@rfl V (V.pp [(V.sl (List.map cI ((nth (l) (i)))))])) (by first | rfl | simp [ldV]) ?_
    refine G_yes (Eq.trans (@rfl V (V.bool (decide (((i : Nat) : Int) < ((l.length : Nat) : Int))))) (bdT g6)) ?_
    refine R_mv t1 ?_
    refine G_yes (Eq.trans (@rfl V (V.bool (decide (((i : Nat) : Int) < ((l.length : Nat) : Int))))) (bdT g6)) ?_
    refine R_callv (@rfl V (V.fn 66 [] [])) (evcons (@rfl V (V.sl (List.map cI ((nth (l) (i)))))) (evcons (@rfl V (V.sl (List.map cI (t)))) evnil)) (lex_pure ((nth (l) (i))) t) (fzv_mapcanon _ _ (by simp [-List.map_take, -List.map_drop, -List.map_append, -List.map_reverse])) (by simp [-List.map_take, -List.map_drop, -List.map_append, -List.map_reverse]) (Or.inl (by simp [-List.map_take, -List.map_drop, -List.map_append, -List.map_reverse])) ?_
    refine G_yes (Eq.trans (@rfl V (V.bool (decide (((i : Nat) : Int) < ((l.length : Nat) : Int))))) (bdT g6)) ?_
    refine R_eql (x := (lexI ((nth (l) (i))) t)) (y := (0 : Int)) (@rfl V (iV (lexI ((nth (l) (i))) t))) (@rfl V (iV (0 : Int))) ?_
    refine R_pickT (Eq.trans (@rfl V (V.bool (decide (((i : Nat) : Int) < ((l.length : Nat) : Int))))) (bdT g6)) (@rfl V (V.bool (decide ((lexI ((nth (l) (i))) t) = (0 : Int))))) ?_
    exact ⟨rfl, (Eq.trans (@rfl V (V.bool (decide ((lexI ((nth (l) (i))) t) = (0 : Int))))) (dec_andT g6)), trivial⟩
   ·
    refine G_no (Eq.trans (@rfl V (V.bool (decide (((i : Nat) : Int) < ((l.length : Nat) : Int))))) (bdF g6)) (by decide) ?_
    refine G_no (Eq.trans (@rfl V (V.bool (decide (((i : Nat) : Int) < ((l.length : Nat) : Int))))) (bdF g6)) (by decide) ?_
    refine G_no (Eq.trans (@rfl V (V.bool (decide (((i : Nat) : Int) < ((l.length : Nat) : Int))))) (bdF g6)) (by decide) ?_
    refine G_no (Eq.trans (@rfl V (V.bool (decide (((i : Nat) : Int) < ((l.length : Nat) : Int))))) (bdF g6)) (by decide) ?_
    refine G_no (Eq.trans (@rfl V (V.bool (decide (((i : Nat) : Int) < ((l.length : Nat) : Int))))) (bdF g6)) (by decide) ?_
    refine G_no (Eq.trans (@rfl V (V.bool (decide (((i : Nat) : Int) < ((l.length : Nat) : Int))))) (bdF g6)) (by decide) ?_
    refine G_no (Eq.trans (@rfl V (V.bool (decide (((i : Nat) : Int) < ((l.length : Nat) : Int))))) (bdF g6)) (by decide) ?_
    refine G_no (Eq.trans (@rfl V (V.bool (decide (((i : Nat) : Int) < ((l.length : Nat) : Int))))) (bdF g6)) (by decide) ?_
    refine R_pickF (Eq.trans (@rfl V (V.bool (decide (((i : Nat) : Int) < ((l.length : Nat) : Int))))) (bdF g6)) (@rfl V (V.bool false)) ?_
    exact ⟨rfl, (Eq.trans (@rfl V (V.bool false)) (dec_andF g6)), trivial⟩
  intro T H ⟨t35, t48, _⟩
  refine R_mv t35 ?_
  refine R_mv t48 ?_
  exact R_nil ⟨rfl, rfl, trivial⟩
 intro T H ⟨t6, t7, _⟩
 refine W_ret ?_
 refine Ret_2 t6 t7 (fz_int ?_) (fz_bool ?_)
 · have e : i = lxN l t := by omega
   rw [e]
 · have e : i = lxN l t := by omega
   rw [e]; exact decide_eq_decide.2 (by unfold lxH; omega)
end Go.Proofs.YtmnjchcoigbngaaGreat


namespace Go.Proofs.YtmnjchcoigbngaaGreat
open Go Go.Proofs
theorem dchild_pure (x : Nd) (outs : List Int) (hs : SrtL x.ou) (hl : x.ou.length ≤ 1048576) : PureC Tryz.prog 51 [(V.agg [(V.bool x.lf), (V.sl (List.map cI (x.ac))), (V.sl (List.map cI (x.sf))), (V.sl (List.map cL (x.ou))), (V.sl (List.map cI (x.kd)))]), (V.sl (List.map cI (outs)))] (V.tup [(iV ((lxN x.ou outs : Nat) : Int)), (V.bool (decide (lxH x.ou outs)))]) := by
 refine pure_of_Wb true 6 Tryz.func51 s51_ok (by kernel_rfl) (by simp [s51]) (by simp) (by simp) fun hB => ?_
 simp only [bnd_map, bnd_int, bnd_bool, bnd_str, bnd_agg, bnd_pp, bnd_nil, bnd_cons, implies_true, and_true, true_and] at hB
 unfold s51
 dsimp only
 refine W_seq_regc (fun T H => T 1 = (V.sl (List.map cI (outs))) ∧ T 2 = (V.mp 2 1 0 0) ∧ H 2 = (⟨1, true, false, 68, 5, [[(V.bool x.lf), (V.sl (List.map cI (x.ac))), (V.sl (List.map cI (x.sf))), (V.sl (List.map cL (x.ou))), (V.sl (List.map cI (x.kd)))]]⟩ : Blk) ∧ True) ?_ ?_
 ·
  unfold r51_0
  refine R_box (i := 2) (n := 0) (m := 5) (cs := [(V.bool x.lf), (V.sl (List.map cI (x.ac))), (V.sl (List.map cI (x.sf))), (V.sl (List.map cL (x.ou))), (V.sl (List.map cI (x.kd)))]) rfl (congrArg Blk.ver rfl) (@rfl V (V.agg [(V.bool x.lf), (V.sl (List.map cI (x.ac))), (V.sl (List.map cI (x.sf))), (V.sl (List.map cL (x.ou))), (V.sl (List.map cI (x.kd)))])) rfl rfl ?_
  refine R_mv (@rfl V (iV (0 : Int))) ?_
  refine R_mv (@rfl V (V.bool false)) ?_
  exact R_nil ⟨rfl, rfl, rfl, trivial⟩
 intro T H ⟨t1, t2, h2, _⟩
 refine W_seq_regc (fun T H => T 4 = (iV ((lxN x.ou outs : Nat) : Int)) ∧ T 5 = (V.bool (decide (lxH x.ou outs))) ∧ H 2 = (⟨1, true, false, 68, 5, [[(V.bool x.lf), (V.sl (List.map cI (x.ac))), (V.sl (List.map cI (x.sf))), (V.sl (List.map cL (x.ou))), (V.sl (List.map cI (x.kd)))]]⟩ : Blk) ∧ True) ?_ ?_
 ·
  unfold r51_1
  refine R_fld_mp (o' := 3) t2 h2 (by first | rfl | simp [okB, Blk.own]) rfl ?_
  refine R_load_mp (v := (V.sl (List.map cL (x.ou)))) (@rfl V (V.mp 2 1 0 3)) h2 (by first | rfl | simp [ldB, ldV, Blk.own, V.one]) ?_
  refine R_mv t1 ?_
  refine R_call (evcons (@rfl V (V.sl (List.map cL (x.ou)))) (evcons (@rfl V (V.sl (List.map cI (outs)))) (evcons (@rfl V (V.fn 66 [] [])) evnil))) (bsw_pure x.ou outs hs hl) (fzv_mapcanon _ _ (by simp [-List.map_take, -List.map_drop, -List.map_append, -List.map_reverse])) (by simp [-List.map_take, -List.map_drop, -List.map_append, -List.map_reverse]) (Or.inl (by simp [-List.map_take, -List.map_drop, -List.map_append, -List.map_reverse])) ?_
  refine R_ext (v := (iV ((lxN x.ou outs : Nat) : Int))) (@rfl V (V.tup [(iV ((lxN x.ou outs : Nat) : Int)), (V.bool (decide (lxH x.ou outs)))])) rfl ?_
  refine R_ext (v := (V.bool (decide (lxH x.ou outs)))) (@rfl V (V.tup [(iV ((lxN x.ou outs : Nat) : Int)), (V.bool (decide (lxH x.ou outs)))])) rfl ?_
  refine R_mv (@rfl V (iV ((lxN x.ou outs : Nat) : Int))) ?_
  refine R_mv (@rfl V (V.bool (decide (lxH x.ou outs)))) ?_
  exact R_nil ⟨rfl, rfl, h2, trivial⟩
 intro T H ⟨t4, t5, h2, _⟩
 refine W_ret ?_
 refine Ret_2 t4 t5 (fz_canon (by simp) rfl) (fz_canon (by simp) rfl)
end Go.Proofs.YtmnjchcoigbngaaGreat


