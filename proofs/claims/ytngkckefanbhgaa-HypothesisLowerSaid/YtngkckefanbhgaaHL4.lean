/- Contracts of the functions that the law HL reaches, and the law itself, for every input; no condition. -/
import Derived.KernelRfl
import Derived.Test.YtngkckefanbhgaaRows
import Derived.Test.YtngkckefanbhgaaHL3
set_option linter.unusedSimpArgs false
set_option linter.unusedVariables false
namespace Go.Proofs.Ytngkckefanbhgaa
open Go Go.Proofs
theorem join_pure (l : List (List Int)) (hs : (cat l).length ≤ 17592186044416) : PureC Try.prog 35 [(V.sl (List.map cL (l)))] (V.sl (List.map cI (cat l))) := by
 refine pure_of_Wb true 6 Try.func35 s35_ok (by kernel_rfl) (by simp [s35]) (by simp) (by simp) fun hB => ?_
 simp only [bnd_map, bnd_int, bnd_bool, bnd_str, bnd_agg, bnd_pp, bnd_nil, bnd_cons, implies_true, and_true, true_and] at hB
 unfold s35
 dsimp only
 refine W_seq_regc (fun T H => T 0 = (V.sl (List.map cL (l))) ∧ H 3 = (⟨0, false, false, 0, 0, []⟩ : Blk) ∧ True) ?_ ?_
 ·
  unfold r35_0
  refine R_mv (@rfl V V.nilsl) ?_
  exact R_nil ⟨rfl, rfl, trivial⟩
 intro T H ⟨t0, h3, _⟩
 refine W_seq_regc (fun T H => T 0 = (V.sl (List.map cL (l))) ∧ T 3 = (V.ms 3 1 0 (0)) ∧ H 3 = (⟨1, true, true, 3, 1, []⟩ : Blk) ∧ True) ?_ ?_
 ·
  unfold r35_1
  refine R_lazy (i := 3) (n := 0) rfl (congrArg Blk.ver h3) ?_
  exact R_nil ⟨t0, rfl, rfl, trivial⟩
 intro T H ⟨t0, t3, h3, _⟩
 refine W_seq_seq ?_
 refine W_seq_regc (fun T H => T 0 = (V.sl (List.map cL (l))) ∧ T 3 = (V.ms 3 1 0 (0)) ∧ T 4 = (iV (0 : Int)) ∧ H 3 = (⟨1, true, true, 3, 1, []⟩ : Blk) ∧ True) ?_ ?_
 ·
  unfold r35_2
  refine R_mv (@rfl V (iV (0 : Int))) ?_
  exact R_nil ⟨t0, t3, rfl, h3, trivial⟩
 intro T H ⟨t0, t3, t4, h3, _⟩
 refine W_seq_blockg fun Q1 n1 x1 y1 z1 => ?_
 refine W_loop (fun mm T H => ∃ (k : Nat), mm = l.length - k ∧ T 0 = (V.sl (List.map cL (l))) ∧ T 3 = (V.ms 3 (1 + k) 0 ((cat (l.take k)).length)) ∧ T 4 = (iV ((k : Nat) : Int)) ∧ H 3 = (⟨1 + k, true, true, 3, 1, (List.map cI (cat (l.take k)))⟩ : Blk) ∧ (k ≤ l.length)) ?_ ?_
 ·
  refine ⟨_, 0, rfl, t0, (Eq.trans t3 (by first | rfl | (rw [cat_take (by omega), List.length_append]; rfl))), (Eq.trans t4 (by first | rfl | (rw [cat_take (by omega), List.length_append]; rfl))), (Eq.trans h3 (by first | rfl | (rw [cat_take (by omega)]; rfl))), ?_⟩
  · omega
 intro mm T H ⟨k, hmm, t0, t3, t4, h3, hk⟩ Q2 p12 p22 p32
 unfold b35_0
 refine W_seq_seq ?_
 refine W_seq_regc (fun T H => T 0 = (V.sl (List.map cL (l))) ∧ T 3 = (V.ms 3 (1 + k) 0 ((cat (l.take k)).length)) ∧ T 4 = (iV ((k : Nat) : Int)) ∧ T 8 = (V.bool (decide (((k : Nat) : Int) < ((l.length : Nat) : Int)))) ∧ H 3 = (⟨1 + k, true, true, 3, 1, (List.map cI (cat (l.take k)))⟩ : Blk) ∧ True) ?_ ?_
 ·
  unfold r35_3
  refine R_mv t4 ?_
  refine R_mv t0 ?_
  refine R_len (@rfl V (V.sl (List.map cL (l)))) ?_
  refine R_lss (x := ((k : Nat) : Int)) (y := ((l.length : Nat) : Int)) (@rfl V (iV ((k : Nat) : Int))) (@rfl V (iV ((l.length : Nat) : Int))) ?_
  exact R_nil ⟨t0, t3, t4, rfl, h3, trivial⟩
 intro T H ⟨t0, t3, t4, t8, h3, _⟩
 refine W_seq_if (p := ((k : Nat) : Int) < ((l.length : Nat) : Int)) t8 (fun c3 => ?_) (fun c3 => ?_)
 ·
  have hq := cat_take_le (l := l) (k := k) (by omega)
  refine W_seq_skip ?_
  refine W_seq_blockg fun Q4 n4 x4 y4 z4 => ?_
  refine W_regc (fun T H => T 0 = (V.sl (List.map cL (l))) ∧ T 3 = (V.ms 3 (1 + k + 1) 0 (((cat (l.take k)).length) + ((nth (l) (k))).length)) ∧ T 4 = (iV ((k : Nat) : Int)) ∧ H 3 = (⟨1 + k + 1, true, true, 3, 1, (List.map cI (cat (l.take k) ++ ((nth (l) (k)))))⟩ : Blk) ∧ True) ?_ ?_
  ·
   unfold r35_5
   refine R_mv t3 ?_
   refine R_mv t0 ?_
   refine R_mv t4 ?_
   refine R_idx (i := k) (@rfl V (V.sl (List.map cL (l)))) (@rfl V (iV ((k : Nat) : Int))) (by omega) rfl ?_
   refine R_load_pp (v := (V.sl (List.map cI ((nth (l) (k)))))) (@rfl V (V.pp [(V.sl (List.map cI ((nth (l) (k)))))])) (by first | rfl | simp [ldV]) ?_
   refine R_appendS (l := (cat (l.take k))) (m := ((nth (l) (k)))) (f := cI) (@rfl V (V.ms 3 (1 + k) 0 ((cat (l.take k)).length))) h3 (by first | rfl | simp) (@rfl V (V.sl (List.map cI ((nth (l) (k)))))) (fun _ => rfl) (fun _ => rfl) (by omega) (by omega) ?_
   refine R_mv (@rfl V (V.ms 3 (1 + k + 1) 0 (((cat (l.take k)).length) + ((nth (l) (k))).length))) ?_
   exact R_nil ⟨t0, rfl, t4, rfl, trivial⟩
  intro T H ⟨t0, t3, t4, h3, _⟩
  refine n4 _ _ ?_
  refine .done ?_
  refine W_regc (fun T H => T 0 = (V.sl (List.map cL (l))) ∧ T 3 = (V.ms 3 (1 + k + 1) 0 (((cat (l.take k)).length) + ((nth (l) (k))).length)) ∧ T 4 = (iV ((k + 1 : Nat) : Int)) ∧ H 3 = (⟨1 + k + 1, true, true, 3, 1, (List.map cI (cat (l.take k) ++ ((nth (l) (k)))))⟩ : Blk) ∧ True) ?_ ?_
  ·
   unfold r35_4
   refine R_mv t4 ?_
   refine R_addN (m := k) (n := 1) (@rfl V (iV ((k : Nat) : Int))) (@rfl V (iV ((1 : Nat) : Int))) (by omega) ?_
   refine R_mv (@rfl V (iV ((k + 1 : Nat) : Int))) ?_
   exact R_nil ⟨t0, t3, rfl, h3, trivial⟩
  intro T H ⟨t0, t3, t4, h3, _⟩
  refine p12 _ _ _ ?_ ⟨(k + 1), rfl, t0, (Eq.trans t3 (by first | rfl | (rw [cat_take (by omega), List.length_append]; rfl))), (Eq.trans t4 (by first | rfl | (rw [cat_take (by omega), List.length_append]; rfl))), (Eq.trans h3 (by first | rfl | (rw [cat_take (by omega)]; rfl))), ?_⟩
  · omega
  · omega
 refine W_seq_exit ?_
 refine p32 _ _ _ ?_
 refine x1 _ _ ?_
 refine .done ?_
 refine W_seq_regc (fun T H => T 2 = (V.ms 3 (1 + k) 0 ((cat (l.take k)).length)) ∧ H 3 = (⟨1 + k, true, true, 3, 1, (List.map cI (cat (l.take k)))⟩ : Blk) ∧ True) ?_ ?_
 ·
  unfold r35_6
  refine R_mv t3 ?_
  refine R_mv (@rfl V (V.ms 3 (1 + k) 0 ((cat (l.take k)).length))) ?_
  exact R_nil ⟨rfl, h3, trivial⟩
 intro T H ⟨t2, h3, _⟩
 refine W_ret ?_
 refine Ret_1 t2 (fz_ms h3 (by first | rfl | simp) (l := (cat (l.take k))) rfl (by first | rfl | simp) (fun _ => by simp) ?_)
 · (have e : k = l.length := (by omega); subst e; rw [List.take_length])
end Go.Proofs.Ytngkckefanbhgaa

namespace Go.Proofs.Ytngkckefanbhgaa
open Go Go.Proofs
theorem law6_pure (m : M) (ws l : List (List Int)) : PureC Try.prog 6 [(V.agg [(iV (m.i)), (iV (m.s)), (V.sl (List.map cL (m.nx))), (V.sl (List.map cL (m.ot)))]), (V.sl (List.map cL (ws))), (V.sl (List.map cL (l)))] (V.bool true) := by
 refine pure_of_Wb true 6 Try.func6 s6_ok (by kernel_rfl) (by simp [s6]) (by simp) (by simp) fun hB => ?_
 simp only [bnd_map, bnd_int, bnd_bool, bnd_str, bnd_agg, bnd_pp, bnd_nil, bnd_cons, implies_true, and_true, true_and] at hB
 unfold s6
 dsimp only
 refine W_seq_regc (fun T H => T 1 = (V.sl (List.map cL (ws))) ∧ T 2 = (V.sl (List.map cL (l))) ∧ T 3 = (V.mp 3 1 0 0) ∧ H 3 = (⟨1, true, false, 24, 4, [[(iV (m.i)), (iV (m.s)), (V.sl (List.map cL (m.nx))), (V.sl (List.map cL (m.ot)))]]⟩ : Blk) ∧ H 7 = (⟨0, false, false, 0, 0, []⟩ : Blk) ∧ True) ?_ ?_
 ·
  unfold r6_0
  refine R_box (i := 3) (n := 0) (m := 4) (cs := [(iV (m.i)), (iV (m.s)), (V.sl (List.map cL (m.nx))), (V.sl (List.map cL (m.ot)))]) rfl (congrArg Blk.ver rfl) (@rfl V (V.agg [(iV (m.i)), (iV (m.s)), (V.sl (List.map cL (m.nx))), (V.sl (List.map cL (m.ot)))])) rfl rfl ?_
  refine R_mv (@rfl V (V.bool false)) ?_
  exact R_nil ⟨rfl, rfl, rfl, rfl, rfl, trivial⟩
 intro T H ⟨t1, t2, t3, h3, h7, _⟩
 refine W_seq_seq ?_
 refine W_seq_regc (fun T H => T 1 = (V.sl (List.map cL (ws))) ∧ T 2 = (V.sl (List.map cL (l))) ∧ T 3 = (V.mp 3 1 0 0) ∧ T 35 = (V.bool (decide (((((40 < m.nx.length ∨ 40 < m.ot.length ∨ 20 < m.i) ∨ ((60 : Int) < ((ws.length : Nat) : Int))) ∨ (200 < ws.length ∨ fe (longE ws) 0 ws.length ≠ 0)) ∨ ((12 : Int) < ((l.length : Nat) : Int))) ∨ (200 < l.length ∨ fe (longE l) 0 l.length ≠ 0)))) ∧ H 3 = (⟨1, true, false, 24, 4, [[(iV (m.i)), (iV (m.s)), (V.sl (List.map cL (m.nx))), (V.sl (List.map cL (m.ot)))]]⟩ : Blk) ∧ H 7 = (⟨0, false, false, 0, 0, []⟩ : Blk) ∧ True) ?_ ?_
 ·
  unfold r6_1
  refine R_load_mp (v := (V.agg [(iV (m.i)), (iV (m.s)), (V.sl (List.map cL (m.nx))), (V.sl (List.map cL (m.ot)))])) t3 h3 (by first | rfl | simp [ldB, ldV, Blk.own, V.one]) ?_
  refine R_call (evcons (@rfl V (V.agg [(iV (m.i)), (iV (m.s)), (V.sl (List.map cL (m.nx))), (V.sl (List.map cL (m.ot)))])) evnil) (great6_pure m) (fzv_mapcanon _ _ (by simp [-List.map_take, -List.map_drop, -List.map_append, -List.map_reverse])) (by simp [-List.map_take, -List.map_drop, -List.map_append, -List.map_reverse]) (Or.inl (by simp [-List.map_take, -List.map_drop, -List.map_append, -List.map_reverse])) ?_
  refine R_mv (@rfl V (V.bool (decide (40 < m.nx.length ∨ 40 < m.ot.length ∨ 20 < m.i)))) ?_
  refine Ops_seg 4 (fun T H => T 1 = (V.sl (List.map cL (ws))) ∧ T 2 = (V.sl (List.map cL (l))) ∧ T 3 = (V.mp 3 1 0 0) ∧ T 22 = (V.bool (decide ((40 < m.nx.length ∨ 40 < m.ot.length ∨ 20 < m.i) ∨ ((60 : Int) < ((ws.length : Nat) : Int))))) ∧ H 3 = (⟨1, true, false, 24, 4, [[(iV (m.i)), (iV (m.s)), (V.sl (List.map cL (m.nx))), (V.sl (List.map cL (m.ot)))]]⟩ : Blk) ∧ H 7 = (⟨0, false, false, 0, 0, []⟩ : Blk) ∧ True) ?_ ?_
  ·
   by_cases g1 : 40 < m.nx.length ∨ 40 < m.ot.length ∨ 20 < m.i
   ·
    refine G_no (Eq.trans (@rfl V (V.bool (decide (40 < m.nx.length ∨ 40 < m.ot.length ∨ 20 < m.i)))) (bdT g1)) (by decide) ?_
    refine G_no (Eq.trans (@rfl V (V.bool (decide (40 < m.nx.length ∨ 40 < m.ot.length ∨ 20 < m.i)))) (bdT g1)) (by decide) ?_
    refine G_no (Eq.trans (@rfl V (V.bool (decide (40 < m.nx.length ∨ 40 < m.ot.length ∨ 20 < m.i)))) (bdT g1)) (by decide) ?_
    refine R_pickT (Eq.trans (@rfl V (V.bool (decide (40 < m.nx.length ∨ 40 < m.ot.length ∨ 20 < m.i)))) (bdT g1)) (@rfl V (V.bool true)) ?_
    exact ⟨t1, t2, t3, (Eq.trans (@rfl V (V.bool true)) (dec_orT g1)), h3, h7, trivial⟩
   ·
    refine G_yes (Eq.trans (@rfl V (V.bool (decide (40 < m.nx.length ∨ 40 < m.ot.length ∨ 20 < m.i)))) (bdF g1)) ?_
    refine R_mv t1 ?_
    refine G_yes (Eq.trans (@rfl V (V.bool (decide (40 < m.nx.length ∨ 40 < m.ot.length ∨ 20 < m.i)))) (bdF g1)) ?_
    refine R_len (@rfl V (V.sl (List.map cL (ws)))) ?_
    refine G_yes (Eq.trans (@rfl V (V.bool (decide (40 < m.nx.length ∨ 40 < m.ot.length ∨ 20 < m.i)))) (bdF g1)) ?_
    refine R_gtr (x := ((ws.length : Nat) : Int)) (y := (60 : Int)) (@rfl V (iV ((ws.length : Nat) : Int))) (@rfl V (iV (60 : Int))) ?_
    refine R_pickF (Eq.trans (@rfl V (V.bool (decide (40 < m.nx.length ∨ 40 < m.ot.length ∨ 20 < m.i)))) (bdF g1)) (@rfl V (V.bool (decide ((60 : Int) < ((ws.length : Nat) : Int))))) ?_
    exact ⟨t1, t2, t3, (Eq.trans (@rfl V (V.bool (decide ((60 : Int) < ((ws.length : Nat) : Int))))) (dec_orF g1)), h3, h7, trivial⟩
  intro T H ⟨t1, t2, t3, t22, h3, h7, _⟩
  refine R_mv t22 ?_
  refine Ops_seg 3 (fun T H => T 1 = (V.sl (List.map cL (ws))) ∧ T 2 = (V.sl (List.map cL (l))) ∧ T 3 = (V.mp 3 1 0 0) ∧ T 26 = (V.bool (decide (((40 < m.nx.length ∨ 40 < m.ot.length ∨ 20 < m.i) ∨ ((60 : Int) < ((ws.length : Nat) : Int))) ∨ (200 < ws.length ∨ fe (longE ws) 0 ws.length ≠ 0)))) ∧ H 3 = (⟨1, true, false, 24, 4, [[(iV (m.i)), (iV (m.s)), (V.sl (List.map cL (m.nx))), (V.sl (List.map cL (m.ot)))]]⟩ : Blk) ∧ H 7 = (⟨0, false, false, 0, 0, []⟩ : Blk) ∧ True) ?_ ?_
  ·
   by_cases g2 : (40 < m.nx.length ∨ 40 < m.ot.length ∨ 20 < m.i) ∨ ((60 : Int) < ((ws.length : Nat) : Int))
   ·
    refine G_no (Eq.trans (@rfl V (V.bool (decide ((40 < m.nx.length ∨ 40 < m.ot.length ∨ 20 < m.i) ∨ ((60 : Int) < ((ws.length : Nat) : Int)))))) (bdT g2)) (by decide) ?_
    refine G_no (Eq.trans (@rfl V (V.bool (decide ((40 < m.nx.length ∨ 40 < m.ot.length ∨ 20 < m.i) ∨ ((60 : Int) < ((ws.length : Nat) : Int)))))) (bdT g2)) (by decide) ?_
    refine R_pickT (Eq.trans (@rfl V (V.bool (decide ((40 < m.nx.length ∨ 40 < m.ot.length ∨ 20 < m.i) ∨ ((60 : Int) < ((ws.length : Nat) : Int)))))) (bdT g2)) (@rfl V (V.bool true)) ?_
    exact ⟨t1, t2, t3, (Eq.trans (@rfl V (V.bool true)) (dec_orT g2)), h3, h7, trivial⟩
   ·
    refine G_yes (Eq.trans (@rfl V (V.bool (decide ((40 < m.nx.length ∨ 40 < m.ot.length ∨ 20 < m.i) ∨ ((60 : Int) < ((ws.length : Nat) : Int)))))) (bdF g2)) ?_
    refine R_mv t1 ?_
    refine G_yes (Eq.trans (@rfl V (V.bool (decide ((40 < m.nx.length ∨ 40 < m.ot.length ∨ 20 < m.i) ∨ ((60 : Int) < ((ws.length : Nat) : Int)))))) (bdF g2)) ?_
    refine R_call (evcons (@rfl V (V.sl (List.map cL (ws)))) evnil) (long_pure ws) (fzv_mapcanon _ _ (by simp [-List.map_take, -List.map_drop, -List.map_append, -List.map_reverse])) (by simp [-List.map_take, -List.map_drop, -List.map_append, -List.map_reverse]) (Or.inl (by simp [-List.map_take, -List.map_drop, -List.map_append, -List.map_reverse])) ?_
    refine R_pickF (Eq.trans (@rfl V (V.bool (decide ((40 < m.nx.length ∨ 40 < m.ot.length ∨ 20 < m.i) ∨ ((60 : Int) < ((ws.length : Nat) : Int)))))) (bdF g2)) (@rfl V (V.bool (decide (200 < ws.length ∨ fe (longE ws) 0 ws.length ≠ 0)))) ?_
    exact ⟨t1, t2, t3, (Eq.trans (@rfl V (V.bool (decide (200 < ws.length ∨ fe (longE ws) 0 ws.length ≠ 0)))) (dec_orF g2)), h3, h7, trivial⟩
  intro T H ⟨t1, t2, t3, t26, h3, h7, _⟩
  refine R_mv t26 ?_
  refine Ops_seg 4 (fun T H => T 1 = (V.sl (List.map cL (ws))) ∧ T 2 = (V.sl (List.map cL (l))) ∧ T 3 = (V.mp 3 1 0 0) ∧ T 31 = (V.bool (decide ((((40 < m.nx.length ∨ 40 < m.ot.length ∨ 20 < m.i) ∨ ((60 : Int) < ((ws.length : Nat) : Int))) ∨ (200 < ws.length ∨ fe (longE ws) 0 ws.length ≠ 0)) ∨ ((12 : Int) < ((l.length : Nat) : Int))))) ∧ H 3 = (⟨1, true, false, 24, 4, [[(iV (m.i)), (iV (m.s)), (V.sl (List.map cL (m.nx))), (V.sl (List.map cL (m.ot)))]]⟩ : Blk) ∧ H 7 = (⟨0, false, false, 0, 0, []⟩ : Blk) ∧ True) ?_ ?_
  ·
   by_cases g3 : ((40 < m.nx.length ∨ 40 < m.ot.length ∨ 20 < m.i) ∨ ((60 : Int) < ((ws.length : Nat) : Int))) ∨ (200 < ws.length ∨ fe (longE ws) 0 ws.length ≠ 0)
   ·
    refine G_no (Eq.trans (@rfl V (V.bool (decide (((40 < m.nx.length ∨ 40 < m.ot.length ∨ 20 < m.i) ∨ ((60 : Int) < ((ws.length : Nat) : Int))) ∨ (200 < ws.length ∨ fe (longE ws) 0 ws.length ≠ 0))))) (bdT g3)) (by decide) ?_
    refine G_no (Eq.trans (@rfl V (V.bool (decide (((40 < m.nx.length ∨ 40 < m.ot.length ∨ 20 < m.i) ∨ ((60 : Int) < ((ws.length : Nat) : Int))) ∨ (200 < ws.length ∨ fe (longE ws) 0 ws.length ≠ 0))))) (bdT g3)) (by decide) ?_
    refine G_no (Eq.trans (@rfl V (V.bool (decide (((40 < m.nx.length ∨ 40 < m.ot.length ∨ 20 < m.i) ∨ ((60 : Int) < ((ws.length : Nat) : Int))) ∨ (200 < ws.length ∨ fe (longE ws) 0 ws.length ≠ 0))))) (bdT g3)) (by decide) ?_
    refine R_pickT (Eq.trans (@rfl V (V.bool (decide (((40 < m.nx.length ∨ 40 < m.ot.length ∨ 20 < m.i) ∨ ((60 : Int) < ((ws.length : Nat) : Int))) ∨ (200 < ws.length ∨ fe (longE ws) 0 ws.length ≠ 0))))) (bdT g3)) (@rfl V (V.bool true)) ?_
    exact ⟨t1, t2, t3, (Eq.trans (@rfl V (V.bool true)) (dec_orT g3)), h3, h7, trivial⟩
   ·
    refine G_yes (Eq.trans (@rfl V (V.bool (decide (((40 < m.nx.length ∨ 40 < m.ot.length ∨ 20 < m.i) ∨ ((60 : Int) < ((ws.length : Nat) : Int))) ∨ (200 < ws.length ∨ fe (longE ws) 0 ws.length ≠ 0))))) (bdF g3)) ?_
    refine R_mv t2 ?_
    refine G_yes (Eq.trans (@rfl V (V.bool (decide (((40 < m.nx.length ∨ 40 < m.ot.length ∨ 20 < m.i) ∨ ((60 : Int) < ((ws.length : Nat) : Int))) ∨ (200 < ws.length ∨ fe (longE ws) 0 ws.length ≠ 0))))) (bdF g3)) ?_
    refine R_len (@rfl V (V.sl (List.map cL (l)))) ?_
    refine G_yes (Eq.trans (@rfl V (V.bool (decide (((40 < m.nx.length ∨ 40 < m.ot.length ∨ 20 < m.i) ∨ ((60 : Int) < ((ws.length : Nat) : Int))) ∨ (200 < ws.length ∨ fe (longE ws) 0 ws.length ≠ 0))))) (bdF g3)) ?_
    refine R_gtr (x := ((l.length : Nat) : Int)) (y := (12 : Int)) (@rfl V (iV ((l.length : Nat) : Int))) (@rfl V (iV (12 : Int))) ?_
    refine R_pickF (Eq.trans (@rfl V (V.bool (decide (((40 < m.nx.length ∨ 40 < m.ot.length ∨ 20 < m.i) ∨ ((60 : Int) < ((ws.length : Nat) : Int))) ∨ (200 < ws.length ∨ fe (longE ws) 0 ws.length ≠ 0))))) (bdF g3)) (@rfl V (V.bool (decide ((12 : Int) < ((l.length : Nat) : Int))))) ?_
    exact ⟨t1, t2, t3, (Eq.trans (@rfl V (V.bool (decide ((12 : Int) < ((l.length : Nat) : Int))))) (dec_orF g3)), h3, h7, trivial⟩
  intro T H ⟨t1, t2, t3, t31, h3, h7, _⟩
  refine R_mv t31 ?_
  refine Ops_seg 3 (fun T H => T 1 = (V.sl (List.map cL (ws))) ∧ T 2 = (V.sl (List.map cL (l))) ∧ T 3 = (V.mp 3 1 0 0) ∧ T 35 = (V.bool (decide (((((40 < m.nx.length ∨ 40 < m.ot.length ∨ 20 < m.i) ∨ ((60 : Int) < ((ws.length : Nat) : Int))) ∨ (200 < ws.length ∨ fe (longE ws) 0 ws.length ≠ 0)) ∨ ((12 : Int) < ((l.length : Nat) : Int))) ∨ (200 < l.length ∨ fe (longE l) 0 l.length ≠ 0)))) ∧ H 3 = (⟨1, true, false, 24, 4, [[(iV (m.i)), (iV (m.s)), (V.sl (List.map cL (m.nx))), (V.sl (List.map cL (m.ot)))]]⟩ : Blk) ∧ H 7 = (⟨0, false, false, 0, 0, []⟩ : Blk) ∧ True) ?_ ?_
  ·
   by_cases g4 : (((40 < m.nx.length ∨ 40 < m.ot.length ∨ 20 < m.i) ∨ ((60 : Int) < ((ws.length : Nat) : Int))) ∨ (200 < ws.length ∨ fe (longE ws) 0 ws.length ≠ 0)) ∨ ((12 : Int) < ((l.length : Nat) : Int))
   ·
    refine G_no (Eq.trans (@rfl V (V.bool (decide ((((40 < m.nx.length ∨ 40 < m.ot.length ∨ 20 < m.i) ∨ ((60 : Int) < ((ws.length : Nat) : Int))) ∨ (200 < ws.length ∨ fe (longE ws) 0 ws.length ≠ 0)) ∨ ((12 : Int) < ((l.length : Nat) : Int)))))) (bdT g4)) (by decide) ?_
    refine G_no (Eq.trans (@rfl V (V.bool (decide ((((40 < m.nx.length ∨ 40 < m.ot.length ∨ 20 < m.i) ∨ ((60 : Int) < ((ws.length : Nat) : Int))) ∨ (200 < ws.length ∨ fe (longE ws) 0 ws.length ≠ 0)) ∨ ((12 : Int) < ((l.length : Nat) : Int)))))) (bdT g4)) (by decide) ?_
    refine R_pickT (Eq.trans (@rfl V (V.bool (decide ((((40 < m.nx.length ∨ 40 < m.ot.length ∨ 20 < m.i) ∨ ((60 : Int) < ((ws.length : Nat) : Int))) ∨ (200 < ws.length ∨ fe (longE ws) 0 ws.length ≠ 0)) ∨ ((12 : Int) < ((l.length : Nat) : Int)))))) (bdT g4)) (@rfl V (V.bool true)) ?_
    exact ⟨t1, t2, t3, (Eq.trans (@rfl V (V.bool true)) (dec_orT g4)), h3, h7, trivial⟩
   ·
    refine G_yes (Eq.trans (@rfl V (V.bool (decide ((((40 < m.nx.length ∨ 40 < m.ot.length ∨ 20 < m.i) ∨ ((60 : Int) < ((ws.length : Nat) : Int))) ∨ (200 < ws.length ∨ fe (longE ws) 0 ws.length ≠ 0)) ∨ ((12 : Int) < ((l.length : Nat) : Int)))))) (bdF g4)) ?_
    refine R_mv t2 ?_
    refine G_yes (Eq.trans (@rfl V (V.bool (decide ((((40 < m.nx.length ∨ 40 < m.ot.length ∨ 20 < m.i) ∨ ((60 : Int) < ((ws.length : Nat) : Int))) ∨ (200 < ws.length ∨ fe (longE ws) 0 ws.length ≠ 0)) ∨ ((12 : Int) < ((l.length : Nat) : Int)))))) (bdF g4)) ?_
    refine R_call (evcons (@rfl V (V.sl (List.map cL (l)))) evnil) (long_pure l) (fzv_mapcanon _ _ (by simp [-List.map_take, -List.map_drop, -List.map_append, -List.map_reverse])) (by simp [-List.map_take, -List.map_drop, -List.map_append, -List.map_reverse]) (Or.inl (by simp [-List.map_take, -List.map_drop, -List.map_append, -List.map_reverse])) ?_
    refine R_pickF (Eq.trans (@rfl V (V.bool (decide ((((40 < m.nx.length ∨ 40 < m.ot.length ∨ 20 < m.i) ∨ ((60 : Int) < ((ws.length : Nat) : Int))) ∨ (200 < ws.length ∨ fe (longE ws) 0 ws.length ≠ 0)) ∨ ((12 : Int) < ((l.length : Nat) : Int)))))) (bdF g4)) (@rfl V (V.bool (decide (200 < l.length ∨ fe (longE l) 0 l.length ≠ 0)))) ?_
    exact ⟨t1, t2, t3, (Eq.trans (@rfl V (V.bool (decide (200 < l.length ∨ fe (longE l) 0 l.length ≠ 0)))) (dec_orF g4)), h3, h7, trivial⟩
  intro T H ⟨t1, t2, t3, t35, h3, h7, _⟩
  exact R_nil ⟨t1, t2, t3, t35, h3, h7, trivial⟩
 intro T H ⟨t1, t2, t3, t35, h3, h7, _⟩
 refine W_seq_if (p := ((((40 < m.nx.length ∨ 40 < m.ot.length ∨ 20 < m.i) ∨ ((60 : Int) < ((ws.length : Nat) : Int))) ∨ (200 < ws.length ∨ fe (longE ws) 0 ws.length ≠ 0)) ∨ ((12 : Int) < ((l.length : Nat) : Int))) ∨ (200 < l.length ∨ fe (longE l) 0 l.length ≠ 0)) t35 (fun c5 => ?_) (fun c5 => ?_)
 ·
  refine W_seq_seq ?_
  refine W_seq_regc (fun T H => T 6 = (V.bool true) ∧ H 3 = (⟨1, true, false, 24, 4, [[(iV (m.i)), (iV (m.s)), (V.sl (List.map cL (m.nx))), (V.sl (List.map cL (m.ot)))]]⟩ : Blk) ∧ H 7 = (⟨0, false, false, 0, 0, []⟩ : Blk) ∧ True) ?_ ?_
  ·
   unfold r6_2
   refine R_call evnil (aw_learnerlaw22_awake_pure) (fzv_mapcanon _ _ (by simp [-List.map_take, -List.map_drop, -List.map_append, -List.map_reverse])) (by simp [-List.map_take, -List.map_drop, -List.map_append, -List.map_reverse]) (Or.inl (by simp [-List.map_take, -List.map_drop, -List.map_append, -List.map_reverse])) ?_
   refine R_mv (@rfl V (V.bool true)) ?_
   exact R_nil ⟨rfl, h3, h7, trivial⟩
  intro T H ⟨t6, h3, h7, _⟩
  refine W_seq_ret ?_
  refine Ret_1 t6 (fz_canon (by simp) rfl)
 simp only [not_or, Decidable.not_not] at c5
 have hlw := long_ok (l := l) (by omega)
 refine W_seq_skip ?_
 refine W_seq_regc (fun T H => T 2 = (V.sl (List.map cL (l))) ∧ T 3 = (V.mp 3 1 0 0) ∧ T 7 = (V.mp 7 1 0 0) ∧ T 8 = (iV (ofE m ws)) ∧ H 3 = (⟨1, true, false, 24, 4, [[(iV (m.i)), (iV (m.s)), (V.sl (List.map cL (m.nx))), (V.sl (List.map cL (m.ot)))]]⟩ : Blk) ∧ H 7 = (⟨1, true, false, 34, 2, [[(iV ((ofO m ws).i)), (V.sl (List.map cT ((ofO m ws).tr)))]]⟩ : Blk) ∧ True) ?_ ?_
 ·
  unfold r6_3
  refine R_load_mp (v := (V.agg [(iV (m.i)), (iV (m.s)), (V.sl (List.map cL (m.nx))), (V.sl (List.map cL (m.ot)))])) t3 h3 (by first | rfl | simp [ldB, ldV, Blk.own, V.one]) ?_
  refine R_mv t1 ?_
  refine R_call (evcons (@rfl V (V.agg [(iV (m.i)), (iV (m.s)), (V.sl (List.map cL (m.nx))), (V.sl (List.map cL (m.ot)))])) (evcons (@rfl V (V.sl (List.map cL (ws)))) evnil)) (oof_pure m ws) (fzv_mapcanon _ _ (by simp [-List.map_take, -List.map_drop, -List.map_append, -List.map_reverse])) (by simp [-List.map_take, -List.map_drop, -List.map_append, -List.map_reverse]) (Or.inl (by simp [-List.map_take, -List.map_drop, -List.map_append, -List.map_reverse])) ?_
  refine R_mv (@rfl V (V.tup [(V.agg [(iV ((ofO m ws).i)), (V.sl (List.map cT ((ofO m ws).tr)))]), (iV (ofE m ws))])) ?_
  refine R_ext (v := (V.agg [(iV ((ofO m ws).i)), (V.sl (List.map cT ((ofO m ws).tr)))])) (@rfl V (V.tup [(V.agg [(iV ((ofO m ws).i)), (V.sl (List.map cT ((ofO m ws).tr)))]), (iV (ofE m ws))])) rfl ?_
  refine R_ext (v := (iV (ofE m ws))) (@rfl V (V.tup [(V.agg [(iV ((ofO m ws).i)), (V.sl (List.map cT ((ofO m ws).tr)))]), (iV (ofE m ws))])) rfl ?_
  refine R_alloc (i := 7) (n := 0) (m := 2) rfl (congrArg Blk.ver h7) rfl ?_
  refine R_store (vs := [(iV ((ofO m ws).i)), (V.sl (List.map cT ((ofO m ws).tr)))]) (B' := (⟨1, true, false, 34, 2, [[(iV ((ofO m ws).i)), (V.sl (List.map cT ((ofO m ws).tr)))]]⟩ : Blk)) (@rfl V (V.mp 7 1 0 0)) (@rfl V (V.agg [(iV ((ofO m ws).i)), (V.sl (List.map cT ((ofO m ws).tr)))])) rfl (@rfl Blk (⟨1, true, false, 34, 2, [[(iV (0 : Int)), V.nilsl]]⟩ : Blk)) (by first | rfl | simp [stB, okB, Blk.own, putAt, V.one]) ?_
  refine R_mv (@rfl V (iV (ofE m ws))) ?_
  exact R_nil ⟨t2, t3, rfl, rfl, h3, rfl, trivial⟩
 intro T H ⟨t2, t3, t7, t8, h3, h7, _⟩
 refine W_seq_seq ?_
 refine W_seq_regc (fun T H => T 2 = (V.sl (List.map cL (l))) ∧ T 3 = (V.mp 3 1 0 0) ∧ T 7 = (V.mp 7 1 0 0) ∧ T 44 = (V.bool (decide ((ofE m ws) ≠ (0 : Int)))) ∧ H 3 = (⟨1, true, false, 24, 4, [[(iV (m.i)), (iV (m.s)), (V.sl (List.map cL (m.nx))), (V.sl (List.map cL (m.ot)))]]⟩ : Blk) ∧ H 7 = (⟨1, true, false, 34, 2, [[(iV ((ofO m ws).i)), (V.sl (List.map cT ((ofO m ws).tr)))]]⟩ : Blk) ∧ True) ?_ ?_
 ·
  unfold r6_4
  refine R_mv t8 ?_
  refine R_neq (x := (ofE m ws)) (y := (0 : Int)) (@rfl V (iV (ofE m ws))) (@rfl V (iV (0 : Int))) ?_
  exact R_nil ⟨t2, t3, t7, rfl, h3, h7, trivial⟩
 intro T H ⟨t2, t3, t7, t44, h3, h7, _⟩
 refine W_seq_if (p := (ofE m ws) ≠ (0 : Int)) t44 (fun c6 => ?_) (fun c6 => ?_)
 ·
  refine W_seq_seq ?_
  refine W_seq_regc (fun T H => T 6 = (V.bool true) ∧ H 3 = (⟨1, true, false, 24, 4, [[(iV (m.i)), (iV (m.s)), (V.sl (List.map cL (m.nx))), (V.sl (List.map cL (m.ot)))]]⟩ : Blk) ∧ H 7 = (⟨1, true, false, 34, 2, [[(iV ((ofO m ws).i)), (V.sl (List.map cT ((ofO m ws).tr)))]]⟩ : Blk) ∧ True) ?_ ?_
  ·
   unfold r6_5
   refine R_call evnil (aw_learnerlaw22_awake_pure) (fzv_mapcanon _ _ (by simp [-List.map_take, -List.map_drop, -List.map_append, -List.map_reverse])) (by simp [-List.map_take, -List.map_drop, -List.map_append, -List.map_reverse]) (Or.inl (by simp [-List.map_take, -List.map_drop, -List.map_append, -List.map_reverse])) ?_
   refine R_mv (@rfl V (V.bool true)) ?_
   exact R_nil ⟨rfl, h3, h7, trivial⟩
  intro T H ⟨t6, h3, h7, _⟩
  refine W_seq_ret ?_
  refine Ret_1 t6 (fz_canon (by simp) rfl)
 have h0 : ofE m ws = 0 := by omega
 have hok := (of_all h0).2.1
 have ho := oval_of hok
 have hb := low_bound h0 l
 refine W_seq_skip ?_
 refine W_seq_seq ?_
 refine W_seq_regc (fun T H => T 2 = (V.sl (List.map cL (l))) ∧ T 7 = (V.mp 7 1 0 0) ∧ T 52 = (V.bool (decide ((((rch m).length : Nat) : Int) < (((lowL (fdP ((ofO m ws))) l).length : Nat) : Int)))) ∧ H 3 = (⟨1, true, false, 24, 4, [[(iV (m.i)), (iV (m.s)), (V.sl (List.map cL (m.nx))), (V.sl (List.map cL (m.ot)))]]⟩ : Blk) ∧ H 7 = (⟨1, true, false, 34, 2, [[(iV ((ofO m ws).i)), (V.sl (List.map cT ((ofO m ws).tr)))]]⟩ : Blk) ∧ True) ?_ ?_
 ·
  unfold r6_6
  refine R_load_mp (v := (V.agg [(iV ((ofO m ws).i)), (V.sl (List.map cT ((ofO m ws).tr)))])) t7 h7 (by first | rfl | simp [ldB, ldV, Blk.own, V.one]) ?_
  refine R_mv t2 ?_
  refine R_call (evcons (@rfl V (V.agg [(iV ((ofO m ws).i)), (V.sl (List.map cT ((ofO m ws).tr)))])) (evcons (@rfl V (V.sl (List.map cL (l)))) evnil)) (plow_pure ((ofO m ws)) l ho (by omega) (fun j hj => Nat.le_trans (hlw j hj) (by decide))) (fzv_mapcanon _ _ (by simp [-List.map_take, -List.map_drop, -List.map_append, -List.map_reverse])) (by simp [-List.map_take, -List.map_drop, -List.map_append, -List.map_reverse]) (Or.inl (by simp [-List.map_take, -List.map_drop, -List.map_append, -List.map_reverse])) ?_
  refine R_load_mp (v := (V.agg [(iV (m.i)), (iV (m.s)), (V.sl (List.map cL (m.nx))), (V.sl (List.map cL (m.ot)))])) t3 h3 (by first | rfl | simp [ldB, ldV, Blk.own, V.one]) ?_
  refine R_call (evcons (@rfl V (V.agg [(iV (m.i)), (iV (m.s)), (V.sl (List.map cL (m.nx))), (V.sl (List.map cL (m.ot)))])) evnil) (reach_pure m) (fzv_mapcanon _ _ (by simp [-List.map_take, -List.map_drop, -List.map_append, -List.map_reverse])) (by simp [-List.map_take, -List.map_drop, -List.map_append, -List.map_reverse]) (Or.inl (by simp [-List.map_take, -List.map_drop, -List.map_append, -List.map_reverse])) ?_
  refine R_len (@rfl V (V.sl (List.map cI (rch m)))) ?_
  refine R_gtr (x := (((lowL (fdP ((ofO m ws))) l).length : Nat) : Int)) (y := (((rch m).length : Nat) : Int)) (@rfl V (iV (((lowL (fdP ((ofO m ws))) l).length : Nat) : Int))) (@rfl V (iV (((rch m).length : Nat) : Int))) ?_
  exact R_nil ⟨t2, t7, rfl, h3, h7, trivial⟩
 intro T H ⟨t2, t7, t52, h3, h7, _⟩
 refine W_seq_if (p := (((rch m).length : Nat) : Int) < (((lowL (fdP ((ofO m ws))) l).length : Nat) : Int)) t52 (fun c7 => ?_) (fun c7 => ?_)
 · exfalso; omega
 refine W_seq_skip ?_
 refine W_seq_seq ?_
 refine W_seq_regc (fun T H => T 2 = (V.sl (List.map cL (l))) ∧ T 7 = (V.mp 7 1 0 0) ∧ T 9 = (iV (1 : Int)) ∧ H 3 = (⟨1, true, false, 24, 4, [[(iV (m.i)), (iV (m.s)), (V.sl (List.map cL (m.nx))), (V.sl (List.map cL (m.ot)))]]⟩ : Blk) ∧ H 7 = (⟨1, true, false, 34, 2, [[(iV ((ofO m ws).i)), (V.sl (List.map cT ((ofO m ws).tr)))]]⟩ : Blk) ∧ True) ?_ ?_
 ·
  unfold r6_8
  refine R_mv (@rfl V (iV (1 : Int))) ?_
  exact R_nil ⟨t2, t7, rfl, h3, h7, trivial⟩
 intro T H ⟨t2, t7, t9, h3, h7, _⟩
 refine W_seq_blockg fun Q8 n8 x8 y8 z8 => ?_
 refine W_loop (fun mm T H => ∃ (k : Nat), mm = l.length - k ∧ T 2 = (V.sl (List.map cL (l))) ∧ T 7 = (V.mp 7 1 0 0) ∧ T 9 = (iV ((k : Nat) : Int)) ∧ H 3 = (⟨1, true, false, 24, 4, [[(iV (m.i)), (iV (m.s)), (V.sl (List.map cL (m.nx))), (V.sl (List.map cL (m.ot)))]]⟩ : Blk) ∧ H 7 = (⟨1, true, false, 34, 2, [[(iV ((ofO m ws).i)), (V.sl (List.map cT ((ofO m ws).tr)))]]⟩ : Blk) ∧ (1 ≤ k)) ?_ ?_
 ·
  refine ⟨_, 1, rfl, t2, t7, (Eq.trans t9 (by first | rfl | simp)), h3, h7, ?_⟩
  · omega
 intro mm T H ⟨k, hmm, t2, t7, t9, h3, h7, h1⟩ Q9 p19 p29 p39
 unfold b6_0
 refine W_seq_seq ?_
 refine W_seq_regc (fun T H => T 2 = (V.sl (List.map cL (l))) ∧ T 7 = (V.mp 7 1 0 0) ∧ T 9 = (iV ((k : Nat) : Int)) ∧ T 56 = (V.bool (decide (((k : Nat) : Int) < ((l.length : Nat) : Int)))) ∧ H 3 = (⟨1, true, false, 24, 4, [[(iV (m.i)), (iV (m.s)), (V.sl (List.map cL (m.nx))), (V.sl (List.map cL (m.ot)))]]⟩ : Blk) ∧ H 7 = (⟨1, true, false, 34, 2, [[(iV ((ofO m ws).i)), (V.sl (List.map cT ((ofO m ws).tr)))]]⟩ : Blk) ∧ True) ?_ ?_
 ·
  unfold r6_9
  refine R_mv t9 ?_
  refine R_mv t2 ?_
  refine R_len (@rfl V (V.sl (List.map cL (l)))) ?_
  refine R_lss (x := ((k : Nat) : Int)) (y := ((l.length : Nat) : Int)) (@rfl V (iV ((k : Nat) : Int))) (@rfl V (iV ((l.length : Nat) : Int))) ?_
  exact R_nil ⟨t2, t7, t9, rfl, h3, h7, trivial⟩
 intro T H ⟨t2, t7, t9, t56, h3, h7, _⟩
 refine W_seq_if (p := ((k : Nat) : Int) < ((l.length : Nat) : Int)) t56 (fun c10 => ?_) (fun c10 => ?_)
 ·
  have z1 := hlw k (by omega)
  have z2 := hlw (((k : Nat) : Int) - (1 : Int)).toNat (by omega)
  have z3 := fdl_least hok (nth l (((k : Nat) : Int) - (1 : Int)).toNat) (nth l k)
  refine W_seq_skip ?_
  refine W_seq_blockg fun Q11 n11 x11 y11 z11 => ?_
  refine W_seq_regc (fun T H => T 2 = (V.sl (List.map cL (l))) ∧ T 7 = (V.mp 7 1 0 0) ∧ T 9 = (iV ((k : Nat) : Int)) ∧ T 10 = (V.sl (List.map cI (least (fdl (bhd ((ofO m ws)).tr ((nth (l) (((k : Nat) : Int) - (1 : Int)).toNat))) (bhd ((ofO m ws)).tr ((nth (l) (k)))))))) ∧ T 11 = (V.bool (decide (fdl (bhd ((ofO m ws)).tr ((nth (l) (((k : Nat) : Int) - (1 : Int)).toNat))) (bhd ((ofO m ws)).tr ((nth (l) (k)))) ≠ []))) ∧ H 3 = (⟨1, true, false, 24, 4, [[(iV (m.i)), (iV (m.s)), (V.sl (List.map cL (m.nx))), (V.sl (List.map cL (m.ot)))]]⟩ : Blk) ∧ H 7 = (⟨1, true, false, 34, 2, [[(iV ((ofO m ws).i)), (V.sl (List.map cT ((ofO m ws).tr)))]]⟩ : Blk) ∧ True) ?_ ?_
  ·
   unfold r6_11
   refine R_load_mp (v := (V.agg [(iV ((ofO m ws).i)), (V.sl (List.map cT ((ofO m ws).tr)))])) t7 h7 (by first | rfl | simp [ldB, ldV, Blk.own, V.one]) ?_
   refine R_mv t2 ?_
   refine R_mv t9 ?_
   refine R_sub (x := ((k : Nat) : Int)) (y := (1 : Int)) (@rfl V (iV ((k : Nat) : Int))) (@rfl V (iV (1 : Int))) (by omega) (by omega) ?_
   refine R_idxI (i := (((k : Nat) : Int) - (1 : Int))) (@rfl V (V.sl (List.map cL (l)))) (@rfl V (iV (((k : Nat) : Int) - (1 : Int)))) (by omega) (by omega) rfl ?_
   refine R_load_pp (v := (V.sl (List.map cI ((nth (l) (((k : Nat) : Int) - (1 : Int)).toNat))))) (@rfl V (V.pp [(V.sl (List.map cI ((nth (l) (((k : Nat) : Int) - (1 : Int)).toNat))))])) (by first | rfl | simp [ldV]) ?_
   refine R_mv t2 ?_
   refine R_mv t9 ?_
   refine R_idx (i := k) (@rfl V (V.sl (List.map cL (l)))) (@rfl V (iV ((k : Nat) : Int))) (by omega) rfl ?_
   refine R_load_pp (v := (V.sl (List.map cI ((nth (l) (k)))))) (@rfl V (V.pp [(V.sl (List.map cI ((nth (l) (k)))))])) (by first | rfl | simp [ldV]) ?_
   refine R_call (evcons (@rfl V (V.agg [(iV ((ofO m ws).i)), (V.sl (List.map cT ((ofO m ws).tr)))])) (evcons (@rfl V (V.sl (List.map cI ((nth (l) (((k : Nat) : Int) - (1 : Int)).toNat))))) (evcons (@rfl V (V.sl (List.map cI ((nth (l) (k)))))) evnil))) (hapart_pure ((ofO m ws)) ((nth (l) (((k : Nat) : Int) - (1 : Int)).toNat)) ((nth (l) (k))) ho (by omega) (by omega)) (fzv_mapcanon _ _ (by simp [-List.map_take, -List.map_drop, -List.map_append, -List.map_reverse])) (by simp [-List.map_take, -List.map_drop, -List.map_append, -List.map_reverse]) (Or.inl (by simp [-List.map_take, -List.map_drop, -List.map_append, -List.map_reverse])) ?_
   refine R_mv (@rfl V (V.tup [(V.sl (List.map cI (least (fdl (bhd ((ofO m ws)).tr ((nth (l) (((k : Nat) : Int) - (1 : Int)).toNat))) (bhd ((ofO m ws)).tr ((nth (l) (k)))))))), (V.bool (decide (fdl (bhd ((ofO m ws)).tr ((nth (l) (((k : Nat) : Int) - (1 : Int)).toNat))) (bhd ((ofO m ws)).tr ((nth (l) (k)))) ≠ [])))])) ?_
   refine R_ext (v := (V.sl (List.map cI (least (fdl (bhd ((ofO m ws)).tr ((nth (l) (((k : Nat) : Int) - (1 : Int)).toNat))) (bhd ((ofO m ws)).tr ((nth (l) (k))))))))) (@rfl V (V.tup [(V.sl (List.map cI (least (fdl (bhd ((ofO m ws)).tr ((nth (l) (((k : Nat) : Int) - (1 : Int)).toNat))) (bhd ((ofO m ws)).tr ((nth (l) (k)))))))), (V.bool (decide (fdl (bhd ((ofO m ws)).tr ((nth (l) (((k : Nat) : Int) - (1 : Int)).toNat))) (bhd ((ofO m ws)).tr ((nth (l) (k)))) ≠ [])))])) rfl ?_
   refine R_ext (v := (V.bool (decide (fdl (bhd ((ofO m ws)).tr ((nth (l) (((k : Nat) : Int) - (1 : Int)).toNat))) (bhd ((ofO m ws)).tr ((nth (l) (k)))) ≠ [])))) (@rfl V (V.tup [(V.sl (List.map cI (least (fdl (bhd ((ofO m ws)).tr ((nth (l) (((k : Nat) : Int) - (1 : Int)).toNat))) (bhd ((ofO m ws)).tr ((nth (l) (k)))))))), (V.bool (decide (fdl (bhd ((ofO m ws)).tr ((nth (l) (((k : Nat) : Int) - (1 : Int)).toNat))) (bhd ((ofO m ws)).tr ((nth (l) (k)))) ≠ [])))])) rfl ?_
   refine R_mv (@rfl V (V.sl (List.map cI (least (fdl (bhd ((ofO m ws)).tr ((nth (l) (((k : Nat) : Int) - (1 : Int)).toNat))) (bhd ((ofO m ws)).tr ((nth (l) (k))))))))) ?_
   refine R_mv (@rfl V (V.bool (decide (fdl (bhd ((ofO m ws)).tr ((nth (l) (((k : Nat) : Int) - (1 : Int)).toNat))) (bhd ((ofO m ws)).tr ((nth (l) (k)))) ≠ [])))) ?_
   exact R_nil ⟨t2, t7, t9, rfl, rfl, h3, h7, trivial⟩
  intro T H ⟨t2, t7, t9, t10, t11, h3, h7, _⟩
  refine W_seq_seq ?_
  refine W_seq_regc (fun T H => T 2 = (V.sl (List.map cL (l))) ∧ T 7 = (V.mp 7 1 0 0) ∧ T 9 = (iV ((k : Nat) : Int)) ∧ T 10 = (V.sl (List.map cI (least (fdl (bhd ((ofO m ws)).tr ((nth (l) (((k : Nat) : Int) - (1 : Int)).toNat))) (bhd ((ofO m ws)).tr ((nth (l) (k)))))))) ∧ T 74 = (V.bool (decide (¬(fdl (bhd ((ofO m ws)).tr ((nth (l) (((k : Nat) : Int) - (1 : Int)).toNat))) (bhd ((ofO m ws)).tr ((nth (l) (k)))) ≠ [])))) ∧ H 3 = (⟨1, true, false, 24, 4, [[(iV (m.i)), (iV (m.s)), (V.sl (List.map cL (m.nx))), (V.sl (List.map cL (m.ot)))]]⟩ : Blk) ∧ H 7 = (⟨1, true, false, 34, 2, [[(iV ((ofO m ws).i)), (V.sl (List.map cT ((ofO m ws).tr)))]]⟩ : Blk) ∧ True) ?_ ?_
  ·
   unfold r6_12
   refine R_mv t11 ?_
   refine R_not (p := fdl (bhd ((ofO m ws)).tr ((nth (l) (((k : Nat) : Int) - (1 : Int)).toNat))) (bhd ((ofO m ws)).tr ((nth (l) (k)))) ≠ []) (@rfl V (V.bool (decide (fdl (bhd ((ofO m ws)).tr ((nth (l) (((k : Nat) : Int) - (1 : Int)).toNat))) (bhd ((ofO m ws)).tr ((nth (l) (k)))) ≠ [])))) ?_
   exact R_nil ⟨t2, t7, t9, t10, rfl, h3, h7, trivial⟩
  intro T H ⟨t2, t7, t9, t10, t74, h3, h7, _⟩
  refine W_seq_if (p := ¬(fdl (bhd ((ofO m ws)).tr ((nth (l) (((k : Nat) : Int) - (1 : Int)).toNat))) (bhd ((ofO m ws)).tr ((nth (l) (k)))) ≠ [])) t74 (fun c12 => ?_) (fun c12 => ?_)
  ·
   refine W_seq_exit ?_
   refine x11 _ _ ?_
   refine .done ?_
   refine W_regc (fun T H => T 2 = (V.sl (List.map cL (l))) ∧ T 7 = (V.mp 7 1 0 0) ∧ T 9 = (iV ((k + 1 : Nat) : Int)) ∧ H 3 = (⟨1, true, false, 24, 4, [[(iV (m.i)), (iV (m.s)), (V.sl (List.map cL (m.nx))), (V.sl (List.map cL (m.ot)))]]⟩ : Blk) ∧ H 7 = (⟨1, true, false, 34, 2, [[(iV ((ofO m ws).i)), (V.sl (List.map cT ((ofO m ws).tr)))]]⟩ : Blk) ∧ True) ?_ ?_
   ·
    unfold r6_10
    refine R_mv t9 ?_
    refine R_addN (m := k) (n := 1) (@rfl V (iV ((k : Nat) : Int))) (@rfl V (iV ((1 : Nat) : Int))) (by omega) ?_
    refine R_mv (@rfl V (iV ((k + 1 : Nat) : Int))) ?_
    exact R_nil ⟨t2, t7, rfl, h3, h7, trivial⟩
   intro T H ⟨t2, t7, t9, h3, h7, _⟩
   refine p19 _ _ _ ?_ ⟨(k + 1), rfl, t2, t7, (Eq.trans t9 (by first | rfl | simp)), h3, h7, ?_⟩
   · omega
   · omega
  have d5 : fdl (bhd (ofO m ws).tr (nth l (((k : Nat) : Int) - (1 : Int)).toNat)) (bhd (ofO m ws).tr (nth l k)) ≠ [] := by simpa using c12
  obtain ⟨x1, a, b, x2, x3, x4, x5, x6⟩ := apart_ans hok d5
  replace x2 : ans (ofO m ws) (cat [(nth l (((k : Nat) : Int) - (1 : Int)).toNat), (least (fdl (bhd (ofO m ws).tr (nth l (((k : Nat) : Int) - (1 : Int)).toNat)) (bhd (ofO m ws).tr (nth l k))))]) = some a := by simpa [cat] using x2
  replace x3 : ans (ofO m ws) (cat [(nth l k), (least (fdl (bhd (ofO m ws).tr (nth l (((k : Nat) : Int) - (1 : Int)).toNat)) (bhd (ofO m ws).tr (nth l k))))]) = some b := by simpa [cat] using x3
  refine W_seq_skip ?_
  refine W_seq_regc (fun T H => T 2 = (V.sl (List.map cL (l))) ∧ T 7 = (V.mp 7 1 0 0) ∧ T 9 = (iV ((k : Nat) : Int)) ∧ T 10 = (V.sl (List.map cI (least (fdl (bhd ((ofO m ws)).tr ((nth (l) (((k : Nat) : Int) - (1 : Int)).toNat))) (bhd ((ofO m ws)).tr ((nth (l) (k)))))))) ∧ T 12 = (V.sl (List.map cI ((ans ((ofO m ws)) (cat ([(nth (l) (((k : Nat) : Int) - (1 : Int)).toNat), least (fdl (bhd ((ofO m ws)).tr ((nth (l) (((k : Nat) : Int) - (1 : Int)).toNat))) (bhd ((ofO m ws)).tr ((nth (l) (k)))))]))).getD []))) ∧ T 13 = (V.bool ((ans ((ofO m ws)) (cat ([(nth (l) (((k : Nat) : Int) - (1 : Int)).toNat), least (fdl (bhd ((ofO m ws)).tr ((nth (l) (((k : Nat) : Int) - (1 : Int)).toNat))) (bhd ((ofO m ws)).tr ((nth (l) (k)))))]))).isSome)) ∧ H 3 = (⟨1, true, false, 24, 4, [[(iV (m.i)), (iV (m.s)), (V.sl (List.map cL (m.nx))), (V.sl (List.map cL (m.ot)))]]⟩ : Blk) ∧ H 7 = (⟨1, true, false, 34, 2, [[(iV ((ofO m ws).i)), (V.sl (List.map cT ((ofO m ws).tr)))]]⟩ : Blk) ∧ True) ?_ ?_
  ·
   unfold r6_13
   refine R_load_mp (v := (V.agg [(iV ((ofO m ws).i)), (V.sl (List.map cT ((ofO m ws).tr)))])) t7 h7 (by first | rfl | simp [ldB, ldV, Blk.own, V.one]) ?_
   refine R_mv t2 ?_
   refine R_mv t9 ?_
   refine R_sub (x := ((k : Nat) : Int)) (y := (1 : Int)) (@rfl V (iV ((k : Nat) : Int))) (@rfl V (iV (1 : Int))) (by omega) (by omega) ?_
   refine R_idxI (i := (((k : Nat) : Int) - (1 : Int))) (@rfl V (V.sl (List.map cL (l)))) (@rfl V (iV (((k : Nat) : Int) - (1 : Int)))) (by omega) (by omega) rfl ?_
   refine R_load_pp (v := (V.sl (List.map cI ((nth (l) (((k : Nat) : Int) - (1 : Int)).toNat))))) (@rfl V (V.pp [(V.sl (List.map cI ((nth (l) (((k : Nat) : Int) - (1 : Int)).toNat))))])) (by first | rfl | simp [ldV]) ?_
   refine R_mv t10 ?_
   refine R_bslice (qs := [(0, (V.sl (List.map cI ((nth (l) (((k : Nat) : Int) - (1 : Int)).toNat))))), (1, (V.sl (List.map cI (least (fdl (bhd ((ofO m ws)).tr ((nth (l) (((k : Nat) : Int) - (1 : Int)).toNat))) (bhd ((ofO m ws)).tr ((nth (l) (k)))))))))]) (rows := [[(V.sl (List.map cI ((nth (l) (((k : Nat) : Int) - (1 : Int)).toNat))))], [(V.sl (List.map cI (least (fdl (bhd ((ofO m ws)).tr ((nth (l) (((k : Nat) : Int) - (1 : Int)).toNat))) (bhd ((ofO m ws)).tr ((nth (l) (k))))))))]]) (mcons (congrArg (fun v => (0, v)) (@rfl V (V.sl (List.map cI ((nth (l) (((k : Nat) : Int) - (1 : Int)).toNat)))))) (mcons (congrArg (fun v => (1, v)) (@rfl V (V.sl (List.map cI (least (fdl (bhd ((ofO m ws)).tr ((nth (l) (((k : Nat) : Int) - (1 : Int)).toNat))) (bhd ((ofO m ws)).tr ((nth (l) (k)))))))))) rfl)) rfl ?_
   refine R_call (evcons (@rfl V (V.sl [[(V.sl (List.map cI ((nth (l) (((k : Nat) : Int) - (1 : Int)).toNat))))], [(V.sl (List.map cI (least (fdl (bhd ((ofO m ws)).tr ((nth (l) (((k : Nat) : Int) - (1 : Int)).toNat))) (bhd ((ofO m ws)).tr ((nth (l) (k))))))))]])) evnil) (join_pure ([(nth (l) (((k : Nat) : Int) - (1 : Int)).toNat), least (fdl (bhd ((ofO m ws)).tr ((nth (l) (((k : Nat) : Int) - (1 : Int)).toNat))) (bhd ((ofO m ws)).tr ((nth (l) (k)))))]) (by simp only [cat, List.append_nil, List.length_append]; omega)) (fzv_mapcanon _ _ (by simp [-List.map_take, -List.map_drop, -List.map_append, -List.map_reverse])) (by simp [-List.map_take, -List.map_drop, -List.map_append, -List.map_reverse]) (Or.inl (by simp [-List.map_take, -List.map_drop, -List.map_append, -List.map_reverse])) ?_
   refine R_call (evcons (@rfl V (V.agg [(iV ((ofO m ws).i)), (V.sl (List.map cT ((ofO m ws).tr)))])) (evcons (@rfl V (V.sl (List.map cI (cat ([(nth (l) (((k : Nat) : Int) - (1 : Int)).toNat), least (fdl (bhd ((ofO m ws)).tr ((nth (l) (((k : Nat) : Int) - (1 : Int)).toNat))) (bhd ((ofO m ws)).tr ((nth (l) (k)))))]))))) evnil)) (answer_pure ((ofO m ws)) (cat ([(nth (l) (((k : Nat) : Int) - (1 : Int)).toNat), least (fdl (bhd ((ofO m ws)).tr ((nth (l) (((k : Nat) : Int) - (1 : Int)).toNat))) (bhd ((ofO m ws)).tr ((nth (l) (k)))))])) ho) (fzv_mapcanon _ _ (by simp [-List.map_take, -List.map_drop, -List.map_append, -List.map_reverse])) (by simp [-List.map_take, -List.map_drop, -List.map_append, -List.map_reverse]) (Or.inl (by simp [-List.map_take, -List.map_drop, -List.map_append, -List.map_reverse])) ?_
   refine R_mv (@rfl V (V.tup [(V.sl (List.map cI ((ans ((ofO m ws)) (cat ([(nth (l) (((k : Nat) : Int) - (1 : Int)).toNat), least (fdl (bhd ((ofO m ws)).tr ((nth (l) (((k : Nat) : Int) - (1 : Int)).toNat))) (bhd ((ofO m ws)).tr ((nth (l) (k)))))]))).getD []))), (V.bool ((ans ((ofO m ws)) (cat ([(nth (l) (((k : Nat) : Int) - (1 : Int)).toNat), least (fdl (bhd ((ofO m ws)).tr ((nth (l) (((k : Nat) : Int) - (1 : Int)).toNat))) (bhd ((ofO m ws)).tr ((nth (l) (k)))))]))).isSome))])) ?_
   refine R_ext (v := (V.sl (List.map cI ((ans ((ofO m ws)) (cat ([(nth (l) (((k : Nat) : Int) - (1 : Int)).toNat), least (fdl (bhd ((ofO m ws)).tr ((nth (l) (((k : Nat) : Int) - (1 : Int)).toNat))) (bhd ((ofO m ws)).tr ((nth (l) (k)))))]))).getD [])))) (@rfl V (V.tup [(V.sl (List.map cI ((ans ((ofO m ws)) (cat ([(nth (l) (((k : Nat) : Int) - (1 : Int)).toNat), least (fdl (bhd ((ofO m ws)).tr ((nth (l) (((k : Nat) : Int) - (1 : Int)).toNat))) (bhd ((ofO m ws)).tr ((nth (l) (k)))))]))).getD []))), (V.bool ((ans ((ofO m ws)) (cat ([(nth (l) (((k : Nat) : Int) - (1 : Int)).toNat), least (fdl (bhd ((ofO m ws)).tr ((nth (l) (((k : Nat) : Int) - (1 : Int)).toNat))) (bhd ((ofO m ws)).tr ((nth (l) (k)))))]))).isSome))])) rfl ?_
   refine R_ext (v := (V.bool ((ans ((ofO m ws)) (cat ([(nth (l) (((k : Nat) : Int) - (1 : Int)).toNat), least (fdl (bhd ((ofO m ws)).tr ((nth (l) (((k : Nat) : Int) - (1 : Int)).toNat))) (bhd ((ofO m ws)).tr ((nth (l) (k)))))]))).isSome))) (@rfl V (V.tup [(V.sl (List.map cI ((ans ((ofO m ws)) (cat ([(nth (l) (((k : Nat) : Int) - (1 : Int)).toNat), least (fdl (bhd ((ofO m ws)).tr ((nth (l) (((k : Nat) : Int) - (1 : Int)).toNat))) (bhd ((ofO m ws)).tr ((nth (l) (k)))))]))).getD []))), (V.bool ((ans ((ofO m ws)) (cat ([(nth (l) (((k : Nat) : Int) - (1 : Int)).toNat), least (fdl (bhd ((ofO m ws)).tr ((nth (l) (((k : Nat) : Int) - (1 : Int)).toNat))) (bhd ((ofO m ws)).tr ((nth (l) (k)))))]))).isSome))])) rfl ?_
   refine R_mv (@rfl V (V.sl (List.map cI ((ans ((ofO m ws)) (cat ([(nth (l) (((k : Nat) : Int) - (1 : Int)).toNat), least (fdl (bhd ((ofO m ws)).tr ((nth (l) (((k : Nat) : Int) - (1 : Int)).toNat))) (bhd ((ofO m ws)).tr ((nth (l) (k)))))]))).getD [])))) ?_
   refine R_mv (@rfl V (V.bool ((ans ((ofO m ws)) (cat ([(nth (l) (((k : Nat) : Int) - (1 : Int)).toNat), least (fdl (bhd ((ofO m ws)).tr ((nth (l) (((k : Nat) : Int) - (1 : Int)).toNat))) (bhd ((ofO m ws)).tr ((nth (l) (k)))))]))).isSome))) ?_
   exact R_nil ⟨t2, t7, t9, t10, rfl, rfl, h3, h7, trivial⟩
  intro T H ⟨t2, t7, t9, t10, t12, t13, h3, h7, _⟩
  refine W_seq_regc (fun T H => T 2 = (V.sl (List.map cL (l))) ∧ T 7 = (V.mp 7 1 0 0) ∧ T 9 = (iV ((k : Nat) : Int)) ∧ T 10 = (V.sl (List.map cI (least (fdl (bhd ((ofO m ws)).tr ((nth (l) (((k : Nat) : Int) - (1 : Int)).toNat))) (bhd ((ofO m ws)).tr ((nth (l) (k)))))))) ∧ T 12 = (V.sl (List.map cI ((ans ((ofO m ws)) (cat ([(nth (l) (((k : Nat) : Int) - (1 : Int)).toNat), least (fdl (bhd ((ofO m ws)).tr ((nth (l) (((k : Nat) : Int) - (1 : Int)).toNat))) (bhd ((ofO m ws)).tr ((nth (l) (k)))))]))).getD []))) ∧ T 13 = (V.bool ((ans ((ofO m ws)) (cat ([(nth (l) (((k : Nat) : Int) - (1 : Int)).toNat), least (fdl (bhd ((ofO m ws)).tr ((nth (l) (((k : Nat) : Int) - (1 : Int)).toNat))) (bhd ((ofO m ws)).tr ((nth (l) (k)))))]))).isSome)) ∧ T 14 = (V.sl (List.map cI ((ans ((ofO m ws)) (cat ([(nth (l) (k)), least (fdl (bhd ((ofO m ws)).tr ((nth (l) (((k : Nat) : Int) - (1 : Int)).toNat))) (bhd ((ofO m ws)).tr ((nth (l) (k)))))]))).getD []))) ∧ T 15 = (V.bool ((ans ((ofO m ws)) (cat ([(nth (l) (k)), least (fdl (bhd ((ofO m ws)).tr ((nth (l) (((k : Nat) : Int) - (1 : Int)).toNat))) (bhd ((ofO m ws)).tr ((nth (l) (k)))))]))).isSome)) ∧ H 3 = (⟨1, true, false, 24, 4, [[(iV (m.i)), (iV (m.s)), (V.sl (List.map cL (m.nx))), (V.sl (List.map cL (m.ot)))]]⟩ : Blk) ∧ H 7 = (⟨1, true, false, 34, 2, [[(iV ((ofO m ws).i)), (V.sl (List.map cT ((ofO m ws).tr)))]]⟩ : Blk) ∧ True) ?_ ?_
  ·
   unfold r6_14
   refine R_load_mp (v := (V.agg [(iV ((ofO m ws).i)), (V.sl (List.map cT ((ofO m ws).tr)))])) t7 h7 (by first | rfl | simp [ldB, ldV, Blk.own, V.one]) ?_
   refine R_mv t2 ?_
   refine R_mv t9 ?_
   refine R_idx (i := k) (@rfl V (V.sl (List.map cL (l)))) (@rfl V (iV ((k : Nat) : Int))) (by omega) rfl ?_
   refine R_load_pp (v := (V.sl (List.map cI ((nth (l) (k)))))) (@rfl V (V.pp [(V.sl (List.map cI ((nth (l) (k)))))])) (by first | rfl | simp [ldV]) ?_
   refine R_mv t10 ?_
   refine R_bslice (qs := [(0, (V.sl (List.map cI ((nth (l) (k)))))), (1, (V.sl (List.map cI (least (fdl (bhd ((ofO m ws)).tr ((nth (l) (((k : Nat) : Int) - (1 : Int)).toNat))) (bhd ((ofO m ws)).tr ((nth (l) (k)))))))))]) (rows := [[(V.sl (List.map cI ((nth (l) (k)))))], [(V.sl (List.map cI (least (fdl (bhd ((ofO m ws)).tr ((nth (l) (((k : Nat) : Int) - (1 : Int)).toNat))) (bhd ((ofO m ws)).tr ((nth (l) (k))))))))]]) (mcons (congrArg (fun v => (0, v)) (@rfl V (V.sl (List.map cI ((nth (l) (k))))))) (mcons (congrArg (fun v => (1, v)) (@rfl V (V.sl (List.map cI (least (fdl (bhd ((ofO m ws)).tr ((nth (l) (((k : Nat) : Int) - (1 : Int)).toNat))) (bhd ((ofO m ws)).tr ((nth (l) (k)))))))))) rfl)) rfl ?_
   refine R_call (evcons (@rfl V (V.sl [[(V.sl (List.map cI ((nth (l) (k)))))], [(V.sl (List.map cI (least (fdl (bhd ((ofO m ws)).tr ((nth (l) (((k : Nat) : Int) - (1 : Int)).toNat))) (bhd ((ofO m ws)).tr ((nth (l) (k))))))))]])) evnil) (join_pure ([(nth (l) (k)), least (fdl (bhd ((ofO m ws)).tr ((nth (l) (((k : Nat) : Int) - (1 : Int)).toNat))) (bhd ((ofO m ws)).tr ((nth (l) (k)))))]) (by simp only [cat, List.append_nil, List.length_append]; omega)) (fzv_mapcanon _ _ (by simp [-List.map_take, -List.map_drop, -List.map_append, -List.map_reverse])) (by simp [-List.map_take, -List.map_drop, -List.map_append, -List.map_reverse]) (Or.inl (by simp [-List.map_take, -List.map_drop, -List.map_append, -List.map_reverse])) ?_
   refine R_call (evcons (@rfl V (V.agg [(iV ((ofO m ws).i)), (V.sl (List.map cT ((ofO m ws).tr)))])) (evcons (@rfl V (V.sl (List.map cI (cat ([(nth (l) (k)), least (fdl (bhd ((ofO m ws)).tr ((nth (l) (((k : Nat) : Int) - (1 : Int)).toNat))) (bhd ((ofO m ws)).tr ((nth (l) (k)))))]))))) evnil)) (answer_pure ((ofO m ws)) (cat ([(nth (l) (k)), least (fdl (bhd ((ofO m ws)).tr ((nth (l) (((k : Nat) : Int) - (1 : Int)).toNat))) (bhd ((ofO m ws)).tr ((nth (l) (k)))))])) ho) (fzv_mapcanon _ _ (by simp [-List.map_take, -List.map_drop, -List.map_append, -List.map_reverse])) (by simp [-List.map_take, -List.map_drop, -List.map_append, -List.map_reverse]) (Or.inl (by simp [-List.map_take, -List.map_drop, -List.map_append, -List.map_reverse])) ?_
   refine R_mv (@rfl V (V.tup [(V.sl (List.map cI ((ans ((ofO m ws)) (cat ([(nth (l) (k)), least (fdl (bhd ((ofO m ws)).tr ((nth (l) (((k : Nat) : Int) - (1 : Int)).toNat))) (bhd ((ofO m ws)).tr ((nth (l) (k)))))]))).getD []))), (V.bool ((ans ((ofO m ws)) (cat ([(nth (l) (k)), least (fdl (bhd ((ofO m ws)).tr ((nth (l) (((k : Nat) : Int) - (1 : Int)).toNat))) (bhd ((ofO m ws)).tr ((nth (l) (k)))))]))).isSome))])) ?_
   refine R_ext (v := (V.sl (List.map cI ((ans ((ofO m ws)) (cat ([(nth (l) (k)), least (fdl (bhd ((ofO m ws)).tr ((nth (l) (((k : Nat) : Int) - (1 : Int)).toNat))) (bhd ((ofO m ws)).tr ((nth (l) (k)))))]))).getD [])))) (@rfl V (V.tup [(V.sl (List.map cI ((ans ((ofO m ws)) (cat ([(nth (l) (k)), least (fdl (bhd ((ofO m ws)).tr ((nth (l) (((k : Nat) : Int) - (1 : Int)).toNat))) (bhd ((ofO m ws)).tr ((nth (l) (k)))))]))).getD []))), (V.bool ((ans ((ofO m ws)) (cat ([(nth (l) (k)), least (fdl (bhd ((ofO m ws)).tr ((nth (l) (((k : Nat) : Int) - (1 : Int)).toNat))) (bhd ((ofO m ws)).tr ((nth (l) (k)))))]))).isSome))])) rfl ?_
   refine R_ext (v := (V.bool ((ans ((ofO m ws)) (cat ([(nth (l) (k)), least (fdl (bhd ((ofO m ws)).tr ((nth (l) (((k : Nat) : Int) - (1 : Int)).toNat))) (bhd ((ofO m ws)).tr ((nth (l) (k)))))]))).isSome))) (@rfl V (V.tup [(V.sl (List.map cI ((ans ((ofO m ws)) (cat ([(nth (l) (k)), least (fdl (bhd ((ofO m ws)).tr ((nth (l) (((k : Nat) : Int) - (1 : Int)).toNat))) (bhd ((ofO m ws)).tr ((nth (l) (k)))))]))).getD []))), (V.bool ((ans ((ofO m ws)) (cat ([(nth (l) (k)), least (fdl (bhd ((ofO m ws)).tr ((nth (l) (((k : Nat) : Int) - (1 : Int)).toNat))) (bhd ((ofO m ws)).tr ((nth (l) (k)))))]))).isSome))])) rfl ?_
   refine R_mv (@rfl V (V.sl (List.map cI ((ans ((ofO m ws)) (cat ([(nth (l) (k)), least (fdl (bhd ((ofO m ws)).tr ((nth (l) (((k : Nat) : Int) - (1 : Int)).toNat))) (bhd ((ofO m ws)).tr ((nth (l) (k)))))]))).getD [])))) ?_
   refine R_mv (@rfl V (V.bool ((ans ((ofO m ws)) (cat ([(nth (l) (k)), least (fdl (bhd ((ofO m ws)).tr ((nth (l) (((k : Nat) : Int) - (1 : Int)).toNat))) (bhd ((ofO m ws)).tr ((nth (l) (k)))))]))).isSome))) ?_
   exact R_nil ⟨t2, t7, t9, t10, t12, t13, rfl, rfl, h3, h7, trivial⟩
  intro T H ⟨t2, t7, t9, t10, t12, t13, t14, t15, h3, h7, _⟩
  refine W_seq_seq ?_
  refine W_seq_regc (fun T H => T 2 = (V.sl (List.map cL (l))) ∧ T 7 = (V.mp 7 1 0 0) ∧ T 9 = (iV ((k : Nat) : Int)) ∧ T 12 = (V.sl (List.map cI ((ans ((ofO m ws)) (cat ([(nth (l) (((k : Nat) : Int) - (1 : Int)).toNat), least (fdl (bhd ((ofO m ws)).tr ((nth (l) (((k : Nat) : Int) - (1 : Int)).toNat))) (bhd ((ofO m ws)).tr ((nth (l) (k)))))]))).getD []))) ∧ T 14 = (V.sl (List.map cI ((ans ((ofO m ws)) (cat ([(nth (l) (k)), least (fdl (bhd ((ofO m ws)).tr ((nth (l) (((k : Nat) : Int) - (1 : Int)).toNat))) (bhd ((ofO m ws)).tr ((nth (l) (k)))))]))).getD []))) ∧ T 120 = (V.bool ((((((((((!(ans ((ofO m ws)) (cat ([(nth (l) (((k : Nat) : Int) - (1 : Int)).toNat), least (fdl (bhd ((ofO m ws)).tr ((nth (l) (((k : Nat) : Int) - (1 : Int)).toNat))) (bhd ((ofO m ws)).tr ((nth (l) (k)))))]))).isSome)) || ((!(ans ((ofO m ws)) (cat ([(nth (l) (k)), least (fdl (bhd ((ofO m ws)).tr ((nth (l) (((k : Nat) : Int) - (1 : Int)).toNat))) (bhd ((ofO m ws)).tr ((nth (l) (k)))))]))).isSome)))) || decide ((((least (fdl (bhd ((ofO m ws)).tr ((nth (l) (((k : Nat) : Int) - (1 : Int)).toNat))) (bhd ((ofO m ws)).tr ((nth (l) (k)))))).length : Nat) : Int) = (0 : Int)))) || decide (((((ans ((ofO m ws)) (cat ([(nth (l) (((k : Nat) : Int) - (1 : Int)).toNat), least (fdl (bhd ((ofO m ws)).tr ((nth (l) (((k : Nat) : Int) - (1 : Int)).toNat))) (bhd ((ofO m ws)).tr ((nth (l) (k)))))]))).getD []).length : Nat) : Int) = (0 : Int)))) || decide (((((ans ((ofO m ws)) (cat ([(nth (l) (k)), least (fdl (bhd ((ofO m ws)).tr ((nth (l) (((k : Nat) : Int) - (1 : Int)).toNat))) (bhd ((ofO m ws)).tr ((nth (l) (k)))))]))).getD []).length : Nat) : Int) = (0 : Int))))) ∧ H 3 = (⟨1, true, false, 24, 4, [[(iV (m.i)), (iV (m.s)), (V.sl (List.map cL (m.nx))), (V.sl (List.map cL (m.ot)))]]⟩ : Blk) ∧ H 7 = (⟨1, true, false, 34, 2, [[(iV ((ofO m ws).i)), (V.sl (List.map cT ((ofO m ws).tr)))]]⟩ : Blk) ∧ True) ?_ ?_
  ·
   unfold r6_15
   refine R_mv t13 ?_
   refine R_notb (@rfl V (V.bool ((ans ((ofO m ws)) (cat ([(nth (l) (((k : Nat) : Int) - (1 : Int)).toNat), least (fdl (bhd ((ofO m ws)).tr ((nth (l) (((k : Nat) : Int) - (1 : Int)).toNat))) (bhd ((ofO m ws)).tr ((nth (l) (k)))))]))).isSome))) ?_
   refine R_mv (@rfl V (V.bool ((!(ans ((ofO m ws)) (cat ([(nth (l) (((k : Nat) : Int) - (1 : Int)).toNat), least (fdl (bhd ((ofO m ws)).tr ((nth (l) (((k : Nat) : Int) - (1 : Int)).toNat))) (bhd ((ofO m ws)).tr ((nth (l) (k)))))]))).isSome)))) ?_
   refine Ops_seg 3 (fun T H => T 2 = (V.sl (List.map cL (l))) ∧ T 7 = (V.mp 7 1 0 0) ∧ T 9 = (iV ((k : Nat) : Int)) ∧ T 10 = (V.sl (List.map cI (least (fdl (bhd ((ofO m ws)).tr ((nth (l) (((k : Nat) : Int) - (1 : Int)).toNat))) (bhd ((ofO m ws)).tr ((nth (l) (k)))))))) ∧ T 12 = (V.sl (List.map cI ((ans ((ofO m ws)) (cat ([(nth (l) (((k : Nat) : Int) - (1 : Int)).toNat), least (fdl (bhd ((ofO m ws)).tr ((nth (l) (((k : Nat) : Int) - (1 : Int)).toNat))) (bhd ((ofO m ws)).tr ((nth (l) (k)))))]))).getD []))) ∧ T 14 = (V.sl (List.map cI ((ans ((ofO m ws)) (cat ([(nth (l) (k)), least (fdl (bhd ((ofO m ws)).tr ((nth (l) (((k : Nat) : Int) - (1 : Int)).toNat))) (bhd ((ofO m ws)).tr ((nth (l) (k)))))]))).getD []))) ∧ T 105 = (V.bool ((((!(ans ((ofO m ws)) (cat ([(nth (l) (((k : Nat) : Int) - (1 : Int)).toNat), least (fdl (bhd ((ofO m ws)).tr ((nth (l) (((k : Nat) : Int) - (1 : Int)).toNat))) (bhd ((ofO m ws)).tr ((nth (l) (k)))))]))).isSome)) || ((!(ans ((ofO m ws)) (cat ([(nth (l) (k)), least (fdl (bhd ((ofO m ws)).tr ((nth (l) (((k : Nat) : Int) - (1 : Int)).toNat))) (bhd ((ofO m ws)).tr ((nth (l) (k)))))]))).isSome))))) ∧ H 3 = (⟨1, true, false, 24, 4, [[(iV (m.i)), (iV (m.s)), (V.sl (List.map cL (m.nx))), (V.sl (List.map cL (m.ot)))]]⟩ : Blk) ∧ H 7 = (⟨1, true, false, 34, 2, [[(iV ((ofO m ws).i)), (V.sl (List.map cT ((ofO m ws).tr)))]]⟩ : Blk) ∧ True) ?_ ?_
   ·
    by_cases g13 : ((!(ans ((ofO m ws)) (cat ([(nth (l) (((k : Nat) : Int) - (1 : Int)).toNat), least (fdl (bhd ((ofO m ws)).tr ((nth (l) (((k : Nat) : Int) - (1 : Int)).toNat))) (bhd ((ofO m ws)).tr ((nth (l) (k)))))]))).isSome)) = true
    ·
     refine G_no (Eq.trans (@rfl V (V.bool ((!(ans ((ofO m ws)) (cat ([(nth (l) (((k : Nat) : Int) - (1 : Int)).toNat), least (fdl (bhd ((ofO m ws)).tr ((nth (l) (((k : Nat) : Int) - (1 : Int)).toNat))) (bhd ((ofO m ws)).tr ((nth (l) (k)))))]))).isSome)))) (bbT g13)) (by decide) ?_
     refine G_no (Eq.trans (@rfl V (V.bool ((!(ans ((ofO m ws)) (cat ([(nth (l) (((k : Nat) : Int) - (1 : Int)).toNat), least (fdl (bhd ((ofO m ws)).tr ((nth (l) (((k : Nat) : Int) - (1 : Int)).toNat))) (bhd ((ofO m ws)).tr ((nth (l) (k)))))]))).isSome)))) (bbT g13)) (by decide) ?_
     refine R_pickT (Eq.trans (@rfl V (V.bool ((!(ans ((ofO m ws)) (cat ([(nth (l) (((k : Nat) : Int) - (1 : Int)).toNat), least (fdl (bhd ((ofO m ws)).tr ((nth (l) (((k : Nat) : Int) - (1 : Int)).toNat))) (bhd ((ofO m ws)).tr ((nth (l) (k)))))]))).isSome)))) (bbT g13)) (@rfl V (V.bool true)) ?_
     exact ⟨t2, t7, t9, t10, t12, t14, (Eq.trans (@rfl V (V.bool true)) (borT g13)), h3, h7, trivial⟩
    ·
     refine G_yes (Eq.trans (@rfl V (V.bool ((!(ans ((ofO m ws)) (cat ([(nth (l) (((k : Nat) : Int) - (1 : Int)).toNat), least (fdl (bhd ((ofO m ws)).tr ((nth (l) (((k : Nat) : Int) - (1 : Int)).toNat))) (bhd ((ofO m ws)).tr ((nth (l) (k)))))]))).isSome)))) (bbF g13)) ?_
     refine R_mv t15 ?_
     refine G_yes (Eq.trans (@rfl V (V.bool ((!(ans ((ofO m ws)) (cat ([(nth (l) (((k : Nat) : Int) - (1 : Int)).toNat), least (fdl (bhd ((ofO m ws)).tr ((nth (l) (((k : Nat) : Int) - (1 : Int)).toNat))) (bhd ((ofO m ws)).tr ((nth (l) (k)))))]))).isSome)))) (bbF g13)) ?_
     refine R_notb (@rfl V (V.bool ((ans ((ofO m ws)) (cat ([(nth (l) (k)), least (fdl (bhd ((ofO m ws)).tr ((nth (l) (((k : Nat) : Int) - (1 : Int)).toNat))) (bhd ((ofO m ws)).tr ((nth (l) (k)))))]))).isSome))) ?_
     refine R_pickF (Eq.trans (@rfl V (V.bool ((!(ans ((ofO m ws)) (cat ([(nth (l) (((k : Nat) : Int) - (1 : Int)).toNat), least (fdl (bhd ((ofO m ws)).tr ((nth (l) (((k : Nat) : Int) - (1 : Int)).toNat))) (bhd ((ofO m ws)).tr ((nth (l) (k)))))]))).isSome)))) (bbF g13)) (@rfl V (V.bool ((!(ans ((ofO m ws)) (cat ([(nth (l) (k)), least (fdl (bhd ((ofO m ws)).tr ((nth (l) (((k : Nat) : Int) - (1 : Int)).toNat))) (bhd ((ofO m ws)).tr ((nth (l) (k)))))]))).isSome)))) ?_
     exact ⟨t2, t7, t9, t10, t12, t14, (Eq.trans (@rfl V (V.bool ((!(ans ((ofO m ws)) (cat ([(nth (l) (k)), least (fdl (bhd ((ofO m ws)).tr ((nth (l) (((k : Nat) : Int) - (1 : Int)).toNat))) (bhd ((ofO m ws)).tr ((nth (l) (k)))))]))).isSome)))) (borF g13)), h3, h7, trivial⟩
   intro T H ⟨t2, t7, t9, t10, t12, t14, t105, h3, h7, _⟩
   refine R_mv t105 ?_
   refine Ops_seg 4 (fun T H => T 2 = (V.sl (List.map cL (l))) ∧ T 7 = (V.mp 7 1 0 0) ∧ T 9 = (iV ((k : Nat) : Int)) ∧ T 12 = (V.sl (List.map cI ((ans ((ofO m ws)) (cat ([(nth (l) (((k : Nat) : Int) - (1 : Int)).toNat), least (fdl (bhd ((ofO m ws)).tr ((nth (l) (((k : Nat) : Int) - (1 : Int)).toNat))) (bhd ((ofO m ws)).tr ((nth (l) (k)))))]))).getD []))) ∧ T 14 = (V.sl (List.map cI ((ans ((ofO m ws)) (cat ([(nth (l) (k)), least (fdl (bhd ((ofO m ws)).tr ((nth (l) (((k : Nat) : Int) - (1 : Int)).toNat))) (bhd ((ofO m ws)).tr ((nth (l) (k)))))]))).getD []))) ∧ T 110 = (V.bool ((((((!(ans ((ofO m ws)) (cat ([(nth (l) (((k : Nat) : Int) - (1 : Int)).toNat), least (fdl (bhd ((ofO m ws)).tr ((nth (l) (((k : Nat) : Int) - (1 : Int)).toNat))) (bhd ((ofO m ws)).tr ((nth (l) (k)))))]))).isSome)) || ((!(ans ((ofO m ws)) (cat ([(nth (l) (k)), least (fdl (bhd ((ofO m ws)).tr ((nth (l) (((k : Nat) : Int) - (1 : Int)).toNat))) (bhd ((ofO m ws)).tr ((nth (l) (k)))))]))).isSome)))) || decide ((((least (fdl (bhd ((ofO m ws)).tr ((nth (l) (((k : Nat) : Int) - (1 : Int)).toNat))) (bhd ((ofO m ws)).tr ((nth (l) (k)))))).length : Nat) : Int) = (0 : Int))))) ∧ H 3 = (⟨1, true, false, 24, 4, [[(iV (m.i)), (iV (m.s)), (V.sl (List.map cL (m.nx))), (V.sl (List.map cL (m.ot)))]]⟩ : Blk) ∧ H 7 = (⟨1, true, false, 34, 2, [[(iV ((ofO m ws).i)), (V.sl (List.map cT ((ofO m ws).tr)))]]⟩ : Blk) ∧ True) ?_ ?_
   ·
    by_cases g14 : ((((!(ans ((ofO m ws)) (cat ([(nth (l) (((k : Nat) : Int) - (1 : Int)).toNat), least (fdl (bhd ((ofO m ws)).tr ((nth (l) (((k : Nat) : Int) - (1 : Int)).toNat))) (bhd ((ofO m ws)).tr ((nth (l) (k)))))]))).isSome)) || ((!(ans ((ofO m ws)) (cat ([(nth (l) (k)), least (fdl (bhd ((ofO m ws)).tr ((nth (l) (((k : Nat) : Int) - (1 : Int)).toNat))) (bhd ((ofO m ws)).tr ((nth (l) (k)))))]))).isSome)))) = true
    ·
     refine G_no (Eq.trans (@rfl V (V.bool ((((!(ans ((ofO m ws)) (cat ([(nth (l) (((k : Nat) : Int) - (1 : Int)).toNat), least (fdl (bhd ((ofO m ws)).tr ((nth (l) (((k : Nat) : Int) - (1 : Int)).toNat))) (bhd ((ofO m ws)).tr ((nth (l) (k)))))]))).isSome)) || ((!(ans ((ofO m ws)) (cat ([(nth (l) (k)), least (fdl (bhd ((ofO m ws)).tr ((nth (l) (((k : Nat) : Int) - (1 : Int)).toNat))) (bhd ((ofO m ws)).tr ((nth (l) (k)))))]))).isSome)))))) (bbT g14)) (by decide) ?_
     refine G_no (Eq.trans (@rfl V (V.bool ((((!(ans ((ofO m ws)) (cat ([(nth (l) (((k : Nat) : Int) - (1 : Int)).toNat), least (fdl (bhd ((ofO m ws)).tr ((nth (l) (((k : Nat) : Int) - (1 : Int)).toNat))) (bhd ((ofO m ws)).tr ((nth (l) (k)))))]))).isSome)) || ((!(ans ((ofO m ws)) (cat ([(nth (l) (k)), least (fdl (bhd ((ofO m ws)).tr ((nth (l) (((k : Nat) : Int) - (1 : Int)).toNat))) (bhd ((ofO m ws)).tr ((nth (l) (k)))))]))).isSome)))))) (bbT g14)) (by decide) ?_
     refine G_no (Eq.trans (@rfl V (V.bool ((((!(ans ((ofO m ws)) (cat ([(nth (l) (((k : Nat) : Int) - (1 : Int)).toNat), least (fdl (bhd ((ofO m ws)).tr ((nth (l) (((k : Nat) : Int) - (1 : Int)).toNat))) (bhd ((ofO m ws)).tr ((nth (l) (k)))))]))).isSome)) || ((!(ans ((ofO m ws)) (cat ([(nth (l) (k)), least (fdl (bhd ((ofO m ws)).tr ((nth (l) (((k : Nat) : Int) - (1 : Int)).toNat))) (bhd ((ofO m ws)).tr ((nth (l) (k)))))]))).isSome)))))) (bbT g14)) (by decide) ?_
     refine R_pickT (Eq.trans (@rfl V (V.bool ((((!(ans ((ofO m ws)) (cat ([(nth (l) (((k : Nat) : Int) - (1 : Int)).toNat), least (fdl (bhd ((ofO m ws)).tr ((nth (l) (((k : Nat) : Int) - (1 : Int)).toNat))) (bhd ((ofO m ws)).tr ((nth (l) (k)))))]))).isSome)) || ((!(ans ((ofO m ws)) (cat ([(nth (l) (k)), least (fdl (bhd ((ofO m ws)).tr ((nth (l) (((k : Nat) : Int) - (1 : Int)).toNat))) (bhd ((ofO m ws)).tr ((nth (l) (k)))))]))).isSome)))))) (bbT g14)) (@rfl V (V.bool true)) ?_
     exact ⟨t2, t7, t9, t12, t14, (Eq.trans (@rfl V (V.bool true)) (borT g14)), h3, h7, trivial⟩
    ·
     refine G_yes (Eq.trans (@rfl V (V.bool ((((!(ans ((ofO m ws)) (cat ([(nth (l) (((k : Nat) : Int) - (1 : Int)).toNat), least (fdl (bhd ((ofO m ws)).tr ((nth (l) (((k : Nat) : Int) - (1 : Int)).toNat))) (bhd ((ofO m ws)).tr ((nth (l) (k)))))]))).isSome)) || ((!(ans ((ofO m ws)) (cat ([(nth (l) (k)), least (fdl (bhd ((ofO m ws)).tr ((nth (l) (((k : Nat) : Int) - (1 : Int)).toNat))) (bhd ((ofO m ws)).tr ((nth (l) (k)))))]))).isSome)))))) (bbF g14)) ?_
     refine R_mv t10 ?_
     refine G_yes (Eq.trans (@rfl V (V.bool ((((!(ans ((ofO m ws)) (cat ([(nth (l) (((k : Nat) : Int) - (1 : Int)).toNat), least (fdl (bhd ((ofO m ws)).tr ((nth (l) (((k : Nat) : Int) - (1 : Int)).toNat))) (bhd ((ofO m ws)).tr ((nth (l) (k)))))]))).isSome)) || ((!(ans ((ofO m ws)) (cat ([(nth (l) (k)), least (fdl (bhd ((ofO m ws)).tr ((nth (l) (((k : Nat) : Int) - (1 : Int)).toNat))) (bhd ((ofO m ws)).tr ((nth (l) (k)))))]))).isSome)))))) (bbF g14)) ?_
     refine R_len (@rfl V (V.sl (List.map cI (least (fdl (bhd ((ofO m ws)).tr ((nth (l) (((k : Nat) : Int) - (1 : Int)).toNat))) (bhd ((ofO m ws)).tr ((nth (l) (k))))))))) ?_
     refine G_yes (Eq.trans (@rfl V (V.bool ((((!(ans ((ofO m ws)) (cat ([(nth (l) (((k : Nat) : Int) - (1 : Int)).toNat), least (fdl (bhd ((ofO m ws)).tr ((nth (l) (((k : Nat) : Int) - (1 : Int)).toNat))) (bhd ((ofO m ws)).tr ((nth (l) (k)))))]))).isSome)) || ((!(ans ((ofO m ws)) (cat ([(nth (l) (k)), least (fdl (bhd ((ofO m ws)).tr ((nth (l) (((k : Nat) : Int) - (1 : Int)).toNat))) (bhd ((ofO m ws)).tr ((nth (l) (k)))))]))).isSome)))))) (bbF g14)) ?_
     refine R_eql (x := (((least (fdl (bhd ((ofO m ws)).tr ((nth (l) (((k : Nat) : Int) - (1 : Int)).toNat))) (bhd ((ofO m ws)).tr ((nth (l) (k)))))).length : Nat) : Int)) (y := (0 : Int)) (@rfl V (iV (((least (fdl (bhd ((ofO m ws)).tr ((nth (l) (((k : Nat) : Int) - (1 : Int)).toNat))) (bhd ((ofO m ws)).tr ((nth (l) (k)))))).length : Nat) : Int))) (@rfl V (iV (0 : Int))) ?_
     refine R_pickF (Eq.trans (@rfl V (V.bool ((((!(ans ((ofO m ws)) (cat ([(nth (l) (((k : Nat) : Int) - (1 : Int)).toNat), least (fdl (bhd ((ofO m ws)).tr ((nth (l) (((k : Nat) : Int) - (1 : Int)).toNat))) (bhd ((ofO m ws)).tr ((nth (l) (k)))))]))).isSome)) || ((!(ans ((ofO m ws)) (cat ([(nth (l) (k)), least (fdl (bhd ((ofO m ws)).tr ((nth (l) (((k : Nat) : Int) - (1 : Int)).toNat))) (bhd ((ofO m ws)).tr ((nth (l) (k)))))]))).isSome)))))) (bbF g14)) (@rfl V (V.bool (decide ((((least (fdl (bhd ((ofO m ws)).tr ((nth (l) (((k : Nat) : Int) - (1 : Int)).toNat))) (bhd ((ofO m ws)).tr ((nth (l) (k)))))).length : Nat) : Int) = (0 : Int))))) ?_
     exact ⟨t2, t7, t9, t12, t14, (Eq.trans (@rfl V (V.bool (decide ((((least (fdl (bhd ((ofO m ws)).tr ((nth (l) (((k : Nat) : Int) - (1 : Int)).toNat))) (bhd ((ofO m ws)).tr ((nth (l) (k)))))).length : Nat) : Int) = (0 : Int))))) (borF g14)), h3, h7, trivial⟩
   intro T H ⟨t2, t7, t9, t12, t14, t110, h3, h7, _⟩
   refine R_mv t110 ?_
   refine Ops_seg 4 (fun T H => T 2 = (V.sl (List.map cL (l))) ∧ T 7 = (V.mp 7 1 0 0) ∧ T 9 = (iV ((k : Nat) : Int)) ∧ T 12 = (V.sl (List.map cI ((ans ((ofO m ws)) (cat ([(nth (l) (((k : Nat) : Int) - (1 : Int)).toNat), least (fdl (bhd ((ofO m ws)).tr ((nth (l) (((k : Nat) : Int) - (1 : Int)).toNat))) (bhd ((ofO m ws)).tr ((nth (l) (k)))))]))).getD []))) ∧ T 14 = (V.sl (List.map cI ((ans ((ofO m ws)) (cat ([(nth (l) (k)), least (fdl (bhd ((ofO m ws)).tr ((nth (l) (((k : Nat) : Int) - (1 : Int)).toNat))) (bhd ((ofO m ws)).tr ((nth (l) (k)))))]))).getD []))) ∧ T 115 = (V.bool ((((((((!(ans ((ofO m ws)) (cat ([(nth (l) (((k : Nat) : Int) - (1 : Int)).toNat), least (fdl (bhd ((ofO m ws)).tr ((nth (l) (((k : Nat) : Int) - (1 : Int)).toNat))) (bhd ((ofO m ws)).tr ((nth (l) (k)))))]))).isSome)) || ((!(ans ((ofO m ws)) (cat ([(nth (l) (k)), least (fdl (bhd ((ofO m ws)).tr ((nth (l) (((k : Nat) : Int) - (1 : Int)).toNat))) (bhd ((ofO m ws)).tr ((nth (l) (k)))))]))).isSome)))) || decide ((((least (fdl (bhd ((ofO m ws)).tr ((nth (l) (((k : Nat) : Int) - (1 : Int)).toNat))) (bhd ((ofO m ws)).tr ((nth (l) (k)))))).length : Nat) : Int) = (0 : Int)))) || decide (((((ans ((ofO m ws)) (cat ([(nth (l) (((k : Nat) : Int) - (1 : Int)).toNat), least (fdl (bhd ((ofO m ws)).tr ((nth (l) (((k : Nat) : Int) - (1 : Int)).toNat))) (bhd ((ofO m ws)).tr ((nth (l) (k)))))]))).getD []).length : Nat) : Int) = (0 : Int))))) ∧ H 3 = (⟨1, true, false, 24, 4, [[(iV (m.i)), (iV (m.s)), (V.sl (List.map cL (m.nx))), (V.sl (List.map cL (m.ot)))]]⟩ : Blk) ∧ H 7 = (⟨1, true, false, 34, 2, [[(iV ((ofO m ws).i)), (V.sl (List.map cT ((ofO m ws).tr)))]]⟩ : Blk) ∧ True) ?_ ?_
   ·
    by_cases g15 : ((((((!(ans ((ofO m ws)) (cat ([(nth (l) (((k : Nat) : Int) - (1 : Int)).toNat), least (fdl (bhd ((ofO m ws)).tr ((nth (l) (((k : Nat) : Int) - (1 : Int)).toNat))) (bhd ((ofO m ws)).tr ((nth (l) (k)))))]))).isSome)) || ((!(ans ((ofO m ws)) (cat ([(nth (l) (k)), least (fdl (bhd ((ofO m ws)).tr ((nth (l) (((k : Nat) : Int) - (1 : Int)).toNat))) (bhd ((ofO m ws)).tr ((nth (l) (k)))))]))).isSome)))) || decide ((((least (fdl (bhd ((ofO m ws)).tr ((nth (l) (((k : Nat) : Int) - (1 : Int)).toNat))) (bhd ((ofO m ws)).tr ((nth (l) (k)))))).length : Nat) : Int) = (0 : Int)))) = true
    ·
     refine G_no (Eq.trans (@rfl V (V.bool ((((((!(ans ((ofO m ws)) (cat ([(nth (l) (((k : Nat) : Int) - (1 : Int)).toNat), least (fdl (bhd ((ofO m ws)).tr ((nth (l) (((k : Nat) : Int) - (1 : Int)).toNat))) (bhd ((ofO m ws)).tr ((nth (l) (k)))))]))).isSome)) || ((!(ans ((ofO m ws)) (cat ([(nth (l) (k)), least (fdl (bhd ((ofO m ws)).tr ((nth (l) (((k : Nat) : Int) - (1 : Int)).toNat))) (bhd ((ofO m ws)).tr ((nth (l) (k)))))]))).isSome)))) || decide ((((least (fdl (bhd ((ofO m ws)).tr ((nth (l) (((k : Nat) : Int) - (1 : Int)).toNat))) (bhd ((ofO m ws)).tr ((nth (l) (k)))))).length : Nat) : Int) = (0 : Int)))))) (bbT g15)) (by decide) ?_
     refine G_no (Eq.trans (@rfl V (V.bool ((((((!(ans ((ofO m ws)) (cat ([(nth (l) (((k : Nat) : Int) - (1 : Int)).toNat), least (fdl (bhd ((ofO m ws)).tr ((nth (l) (((k : Nat) : Int) - (1 : Int)).toNat))) (bhd ((ofO m ws)).tr ((nth (l) (k)))))]))).isSome)) || ((!(ans ((ofO m ws)) (cat ([(nth (l) (k)), least (fdl (bhd ((ofO m ws)).tr ((nth (l) (((k : Nat) : Int) - (1 : Int)).toNat))) (bhd ((ofO m ws)).tr ((nth (l) (k)))))]))).isSome)))) || decide ((((least (fdl (bhd ((ofO m ws)).tr ((nth (l) (((k : Nat) : Int) - (1 : Int)).toNat))) (bhd ((ofO m ws)).tr ((nth (l) (k)))))).length : Nat) : Int) = (0 : Int)))))) (bbT g15)) (by decide) ?_
     refine G_no (Eq.trans (@rfl V (V.bool ((((((!(ans ((ofO m ws)) (cat ([(nth (l) (((k : Nat) : Int) - (1 : Int)).toNat), least (fdl (bhd ((ofO m ws)).tr ((nth (l) (((k : Nat) : Int) - (1 : Int)).toNat))) (bhd ((ofO m ws)).tr ((nth (l) (k)))))]))).isSome)) || ((!(ans ((ofO m ws)) (cat ([(nth (l) (k)), least (fdl (bhd ((ofO m ws)).tr ((nth (l) (((k : Nat) : Int) - (1 : Int)).toNat))) (bhd ((ofO m ws)).tr ((nth (l) (k)))))]))).isSome)))) || decide ((((least (fdl (bhd ((ofO m ws)).tr ((nth (l) (((k : Nat) : Int) - (1 : Int)).toNat))) (bhd ((ofO m ws)).tr ((nth (l) (k)))))).length : Nat) : Int) = (0 : Int)))))) (bbT g15)) (by decide) ?_
     refine R_pickT (Eq.trans (@rfl V (V.bool ((((((!(ans ((ofO m ws)) (cat ([(nth (l) (((k : Nat) : Int) - (1 : Int)).toNat), least (fdl (bhd ((ofO m ws)).tr ((nth (l) (((k : Nat) : Int) - (1 : Int)).toNat))) (bhd ((ofO m ws)).tr ((nth (l) (k)))))]))).isSome)) || ((!(ans ((ofO m ws)) (cat ([(nth (l) (k)), least (fdl (bhd ((ofO m ws)).tr ((nth (l) (((k : Nat) : Int) - (1 : Int)).toNat))) (bhd ((ofO m ws)).tr ((nth (l) (k)))))]))).isSome)))) || decide ((((least (fdl (bhd ((ofO m ws)).tr ((nth (l) (((k : Nat) : Int) - (1 : Int)).toNat))) (bhd ((ofO m ws)).tr ((nth (l) (k)))))).length : Nat) : Int) = (0 : Int)))))) (bbT g15)) (@rfl V (V.bool true)) ?_
     exact ⟨t2, t7, t9, t12, t14, (Eq.trans (@rfl V (V.bool true)) (borT g15)), h3, h7, trivial⟩
    ·
     refine G_yes (Eq.trans (@rfl V (V.bool ((((((!(ans ((ofO m ws)) (cat ([(nth (l) (((k : Nat) : Int) - (1 : Int)).toNat), least (fdl (bhd ((ofO m ws)).tr ((nth (l) (((k : Nat) : Int) - (1 : Int)).toNat))) (bhd ((ofO m ws)).tr ((nth (l) (k)))))]))).isSome)) || ((!(ans ((ofO m ws)) (cat ([(nth (l) (k)), least (fdl (bhd ((ofO m ws)).tr ((nth (l) (((k : Nat) : Int) - (1 : Int)).toNat))) (bhd ((ofO m ws)).tr ((nth (l) (k)))))]))).isSome)))) || decide ((((least (fdl (bhd ((ofO m ws)).tr ((nth (l) (((k : Nat) : Int) - (1 : Int)).toNat))) (bhd ((ofO m ws)).tr ((nth (l) (k)))))).length : Nat) : Int) = (0 : Int)))))) (bbF g15)) ?_
     refine R_mv t12 ?_
     refine G_yes (Eq.trans (@rfl V (V.bool ((((((!(ans ((ofO m ws)) (cat ([(nth (l) (((k : Nat) : Int) - (1 : Int)).toNat), least (fdl (bhd ((ofO m ws)).tr ((nth (l) (((k : Nat) : Int) - (1 : Int)).toNat))) (bhd ((ofO m ws)).tr ((nth (l) (k)))))]))).isSome)) || ((!(ans ((ofO m ws)) (cat ([(nth (l) (k)), least (fdl (bhd ((ofO m ws)).tr ((nth (l) (((k : Nat) : Int) - (1 : Int)).toNat))) (bhd ((ofO m ws)).tr ((nth (l) (k)))))]))).isSome)))) || decide ((((least (fdl (bhd ((ofO m ws)).tr ((nth (l) (((k : Nat) : Int) - (1 : Int)).toNat))) (bhd ((ofO m ws)).tr ((nth (l) (k)))))).length : Nat) : Int) = (0 : Int)))))) (bbF g15)) ?_
     refine R_len (@rfl V (V.sl (List.map cI ((ans ((ofO m ws)) (cat ([(nth (l) (((k : Nat) : Int) - (1 : Int)).toNat), least (fdl (bhd ((ofO m ws)).tr ((nth (l) (((k : Nat) : Int) - (1 : Int)).toNat))) (bhd ((ofO m ws)).tr ((nth (l) (k)))))]))).getD [])))) ?_
     refine G_yes (Eq.trans (@rfl V (V.bool ((((((!(ans ((ofO m ws)) (cat ([(nth (l) (((k : Nat) : Int) - (1 : Int)).toNat), least (fdl (bhd ((ofO m ws)).tr ((nth (l) (((k : Nat) : Int) - (1 : Int)).toNat))) (bhd ((ofO m ws)).tr ((nth (l) (k)))))]))).isSome)) || ((!(ans ((ofO m ws)) (cat ([(nth (l) (k)), least (fdl (bhd ((ofO m ws)).tr ((nth (l) (((k : Nat) : Int) - (1 : Int)).toNat))) (bhd ((ofO m ws)).tr ((nth (l) (k)))))]))).isSome)))) || decide ((((least (fdl (bhd ((ofO m ws)).tr ((nth (l) (((k : Nat) : Int) - (1 : Int)).toNat))) (bhd ((ofO m ws)).tr ((nth (l) (k)))))).length : Nat) : Int) = (0 : Int)))))) (bbF g15)) ?_
     refine R_eql (x := ((((ans ((ofO m ws)) (cat ([(nth (l) (((k : Nat) : Int) - (1 : Int)).toNat), least (fdl (bhd ((ofO m ws)).tr ((nth (l) (((k : Nat) : Int) - (1 : Int)).toNat))) (bhd ((ofO m ws)).tr ((nth (l) (k)))))]))).getD []).length : Nat) : Int)) (y := (0 : Int)) (@rfl V (iV ((((ans ((ofO m ws)) (cat ([(nth (l) (((k : Nat) : Int) - (1 : Int)).toNat), least (fdl (bhd ((ofO m ws)).tr ((nth (l) (((k : Nat) : Int) - (1 : Int)).toNat))) (bhd ((ofO m ws)).tr ((nth (l) (k)))))]))).getD []).length : Nat) : Int))) (@rfl V (iV (0 : Int))) ?_
     refine R_pickF (Eq.trans (@rfl V (V.bool ((((((!(ans ((ofO m ws)) (cat ([(nth (l) (((k : Nat) : Int) - (1 : Int)).toNat), least (fdl (bhd ((ofO m ws)).tr ((nth (l) (((k : Nat) : Int) - (1 : Int)).toNat))) (bhd ((ofO m ws)).tr ((nth (l) (k)))))]))).isSome)) || ((!(ans ((ofO m ws)) (cat ([(nth (l) (k)), least (fdl (bhd ((ofO m ws)).tr ((nth (l) (((k : Nat) : Int) - (1 : Int)).toNat))) (bhd ((ofO m ws)).tr ((nth (l) (k)))))]))).isSome)))) || decide ((((least (fdl (bhd ((ofO m ws)).tr ((nth (l) (((k : Nat) : Int) - (1 : Int)).toNat))) (bhd ((ofO m ws)).tr ((nth (l) (k)))))).length : Nat) : Int) = (0 : Int)))))) (bbF g15)) (@rfl V (V.bool (decide (((((ans ((ofO m ws)) (cat ([(nth (l) (((k : Nat) : Int) - (1 : Int)).toNat), least (fdl (bhd ((ofO m ws)).tr ((nth (l) (((k : Nat) : Int) - (1 : Int)).toNat))) (bhd ((ofO m ws)).tr ((nth (l) (k)))))]))).getD []).length : Nat) : Int) = (0 : Int))))) ?_
     exact ⟨t2, t7, t9, t12, t14, (Eq.trans (@rfl V (V.bool (decide (((((ans ((ofO m ws)) (cat ([(nth (l) (((k : Nat) : Int) - (1 : Int)).toNat), least (fdl (bhd ((ofO m ws)).tr ((nth (l) (((k : Nat) : Int) - (1 : Int)).toNat))) (bhd ((ofO m ws)).tr ((nth (l) (k)))))]))).getD []).length : Nat) : Int) = (0 : Int))))) (borF g15)), h3, h7, trivial⟩
   intro T H ⟨t2, t7, t9, t12, t14, t115, h3, h7, _⟩
   refine R_mv t115 ?_
   refine Ops_seg 4 (fun T H => T 2 = (V.sl (List.map cL (l))) ∧ T 7 = (V.mp 7 1 0 0) ∧ T 9 = (iV ((k : Nat) : Int)) ∧ T 12 = (V.sl (List.map cI ((ans ((ofO m ws)) (cat ([(nth (l) (((k : Nat) : Int) - (1 : Int)).toNat), least (fdl (bhd ((ofO m ws)).tr ((nth (l) (((k : Nat) : Int) - (1 : Int)).toNat))) (bhd ((ofO m ws)).tr ((nth (l) (k)))))]))).getD []))) ∧ T 14 = (V.sl (List.map cI ((ans ((ofO m ws)) (cat ([(nth (l) (k)), least (fdl (bhd ((ofO m ws)).tr ((nth (l) (((k : Nat) : Int) - (1 : Int)).toNat))) (bhd ((ofO m ws)).tr ((nth (l) (k)))))]))).getD []))) ∧ T 120 = (V.bool ((((((((((!(ans ((ofO m ws)) (cat ([(nth (l) (((k : Nat) : Int) - (1 : Int)).toNat), least (fdl (bhd ((ofO m ws)).tr ((nth (l) (((k : Nat) : Int) - (1 : Int)).toNat))) (bhd ((ofO m ws)).tr ((nth (l) (k)))))]))).isSome)) || ((!(ans ((ofO m ws)) (cat ([(nth (l) (k)), least (fdl (bhd ((ofO m ws)).tr ((nth (l) (((k : Nat) : Int) - (1 : Int)).toNat))) (bhd ((ofO m ws)).tr ((nth (l) (k)))))]))).isSome)))) || decide ((((least (fdl (bhd ((ofO m ws)).tr ((nth (l) (((k : Nat) : Int) - (1 : Int)).toNat))) (bhd ((ofO m ws)).tr ((nth (l) (k)))))).length : Nat) : Int) = (0 : Int)))) || decide (((((ans ((ofO m ws)) (cat ([(nth (l) (((k : Nat) : Int) - (1 : Int)).toNat), least (fdl (bhd ((ofO m ws)).tr ((nth (l) (((k : Nat) : Int) - (1 : Int)).toNat))) (bhd ((ofO m ws)).tr ((nth (l) (k)))))]))).getD []).length : Nat) : Int) = (0 : Int)))) || decide (((((ans ((ofO m ws)) (cat ([(nth (l) (k)), least (fdl (bhd ((ofO m ws)).tr ((nth (l) (((k : Nat) : Int) - (1 : Int)).toNat))) (bhd ((ofO m ws)).tr ((nth (l) (k)))))]))).getD []).length : Nat) : Int) = (0 : Int))))) ∧ H 3 = (⟨1, true, false, 24, 4, [[(iV (m.i)), (iV (m.s)), (V.sl (List.map cL (m.nx))), (V.sl (List.map cL (m.ot)))]]⟩ : Blk) ∧ H 7 = (⟨1, true, false, 34, 2, [[(iV ((ofO m ws).i)), (V.sl (List.map cT ((ofO m ws).tr)))]]⟩ : Blk) ∧ True) ?_ ?_
   ·
    by_cases g16 : ((((((((!(ans ((ofO m ws)) (cat ([(nth (l) (((k : Nat) : Int) - (1 : Int)).toNat), least (fdl (bhd ((ofO m ws)).tr ((nth (l) (((k : Nat) : Int) - (1 : Int)).toNat))) (bhd ((ofO m ws)).tr ((nth (l) (k)))))]))).isSome)) || ((!(ans ((ofO m ws)) (cat ([(nth (l) (k)), least (fdl (bhd ((ofO m ws)).tr ((nth (l) (((k : Nat) : Int) - (1 : Int)).toNat))) (bhd ((ofO m ws)).tr ((nth (l) (k)))))]))).isSome)))) || decide ((((least (fdl (bhd ((ofO m ws)).tr ((nth (l) (((k : Nat) : Int) - (1 : Int)).toNat))) (bhd ((ofO m ws)).tr ((nth (l) (k)))))).length : Nat) : Int) = (0 : Int)))) || decide (((((ans ((ofO m ws)) (cat ([(nth (l) (((k : Nat) : Int) - (1 : Int)).toNat), least (fdl (bhd ((ofO m ws)).tr ((nth (l) (((k : Nat) : Int) - (1 : Int)).toNat))) (bhd ((ofO m ws)).tr ((nth (l) (k)))))]))).getD []).length : Nat) : Int) = (0 : Int)))) = true
    ·
     refine G_no (Eq.trans (@rfl V (V.bool ((((((((!(ans ((ofO m ws)) (cat ([(nth (l) (((k : Nat) : Int) - (1 : Int)).toNat), least (fdl (bhd ((ofO m ws)).tr ((nth (l) (((k : Nat) : Int) - (1 : Int)).toNat))) (bhd ((ofO m ws)).tr ((nth (l) (k)))))]))).isSome)) || ((!(ans ((ofO m ws)) (cat ([(nth (l) (k)), least (fdl (bhd ((ofO m ws)).tr ((nth (l) (((k : Nat) : Int) - (1 : Int)).toNat))) (bhd ((ofO m ws)).tr ((nth (l) (k)))))]))).isSome)))) || decide ((((least (fdl (bhd ((ofO m ws)).tr ((nth (l) (((k : Nat) : Int) - (1 : Int)).toNat))) (bhd ((ofO m ws)).tr ((nth (l) (k)))))).length : Nat) : Int) = (0 : Int)))) || decide (((((ans ((ofO m ws)) (cat ([(nth (l) (((k : Nat) : Int) - (1 : Int)).toNat), least (fdl (bhd ((ofO m ws)).tr ((nth (l) (((k : Nat) : Int) - (1 : Int)).toNat))) (bhd ((ofO m ws)).tr ((nth (l) (k)))))]))).getD []).length : Nat) : Int) = (0 : Int)))))) (bbT g16)) (by decide) ?_
     refine G_no (Eq.trans (@rfl V (V.bool ((((((((!(ans ((ofO m ws)) (cat ([(nth (l) (((k : Nat) : Int) - (1 : Int)).toNat), least (fdl (bhd ((ofO m ws)).tr ((nth (l) (((k : Nat) : Int) - (1 : Int)).toNat))) (bhd ((ofO m ws)).tr ((nth (l) (k)))))]))).isSome)) || ((!(ans ((ofO m ws)) (cat ([(nth (l) (k)), least (fdl (bhd ((ofO m ws)).tr ((nth (l) (((k : Nat) : Int) - (1 : Int)).toNat))) (bhd ((ofO m ws)).tr ((nth (l) (k)))))]))).isSome)))) || decide ((((least (fdl (bhd ((ofO m ws)).tr ((nth (l) (((k : Nat) : Int) - (1 : Int)).toNat))) (bhd ((ofO m ws)).tr ((nth (l) (k)))))).length : Nat) : Int) = (0 : Int)))) || decide (((((ans ((ofO m ws)) (cat ([(nth (l) (((k : Nat) : Int) - (1 : Int)).toNat), least (fdl (bhd ((ofO m ws)).tr ((nth (l) (((k : Nat) : Int) - (1 : Int)).toNat))) (bhd ((ofO m ws)).tr ((nth (l) (k)))))]))).getD []).length : Nat) : Int) = (0 : Int)))))) (bbT g16)) (by decide) ?_
     refine G_no (Eq.trans (@rfl V (V.bool ((((((((!(ans ((ofO m ws)) (cat ([(nth (l) (((k : Nat) : Int) - (1 : Int)).toNat), least (fdl (bhd ((ofO m ws)).tr ((nth (l) (((k : Nat) : Int) - (1 : Int)).toNat))) (bhd ((ofO m ws)).tr ((nth (l) (k)))))]))).isSome)) || ((!(ans ((ofO m ws)) (cat ([(nth (l) (k)), least (fdl (bhd ((ofO m ws)).tr ((nth (l) (((k : Nat) : Int) - (1 : Int)).toNat))) (bhd ((ofO m ws)).tr ((nth (l) (k)))))]))).isSome)))) || decide ((((least (fdl (bhd ((ofO m ws)).tr ((nth (l) (((k : Nat) : Int) - (1 : Int)).toNat))) (bhd ((ofO m ws)).tr ((nth (l) (k)))))).length : Nat) : Int) = (0 : Int)))) || decide (((((ans ((ofO m ws)) (cat ([(nth (l) (((k : Nat) : Int) - (1 : Int)).toNat), least (fdl (bhd ((ofO m ws)).tr ((nth (l) (((k : Nat) : Int) - (1 : Int)).toNat))) (bhd ((ofO m ws)).tr ((nth (l) (k)))))]))).getD []).length : Nat) : Int) = (0 : Int)))))) (bbT g16)) (by decide) ?_
     refine R_pickT (Eq.trans (@rfl V (V.bool ((((((((!(ans ((ofO m ws)) (cat ([(nth (l) (((k : Nat) : Int) - (1 : Int)).toNat), least (fdl (bhd ((ofO m ws)).tr ((nth (l) (((k : Nat) : Int) - (1 : Int)).toNat))) (bhd ((ofO m ws)).tr ((nth (l) (k)))))]))).isSome)) || ((!(ans ((ofO m ws)) (cat ([(nth (l) (k)), least (fdl (bhd ((ofO m ws)).tr ((nth (l) (((k : Nat) : Int) - (1 : Int)).toNat))) (bhd ((ofO m ws)).tr ((nth (l) (k)))))]))).isSome)))) || decide ((((least (fdl (bhd ((ofO m ws)).tr ((nth (l) (((k : Nat) : Int) - (1 : Int)).toNat))) (bhd ((ofO m ws)).tr ((nth (l) (k)))))).length : Nat) : Int) = (0 : Int)))) || decide (((((ans ((ofO m ws)) (cat ([(nth (l) (((k : Nat) : Int) - (1 : Int)).toNat), least (fdl (bhd ((ofO m ws)).tr ((nth (l) (((k : Nat) : Int) - (1 : Int)).toNat))) (bhd ((ofO m ws)).tr ((nth (l) (k)))))]))).getD []).length : Nat) : Int) = (0 : Int)))))) (bbT g16)) (@rfl V (V.bool true)) ?_
     exact ⟨t2, t7, t9, t12, t14, (Eq.trans (@rfl V (V.bool true)) (borT g16)), h3, h7, trivial⟩
    ·
     refine G_yes (Eq.trans (@rfl V (V.bool ((((((((!(ans ((ofO m ws)) (cat ([(nth (l) (((k : Nat) : Int) - (1 : Int)).toNat), least (fdl (bhd ((ofO m ws)).tr ((nth (l) (((k : Nat) : Int) - (1 : Int)).toNat))) (bhd ((ofO m ws)).tr ((nth (l) (k)))))]))).isSome)) || ((!(ans ((ofO m ws)) (cat ([(nth (l) (k)), least (fdl (bhd ((ofO m ws)).tr ((nth (l) (((k : Nat) : Int) - (1 : Int)).toNat))) (bhd ((ofO m ws)).tr ((nth (l) (k)))))]))).isSome)))) || decide ((((least (fdl (bhd ((ofO m ws)).tr ((nth (l) (((k : Nat) : Int) - (1 : Int)).toNat))) (bhd ((ofO m ws)).tr ((nth (l) (k)))))).length : Nat) : Int) = (0 : Int)))) || decide (((((ans ((ofO m ws)) (cat ([(nth (l) (((k : Nat) : Int) - (1 : Int)).toNat), least (fdl (bhd ((ofO m ws)).tr ((nth (l) (((k : Nat) : Int) - (1 : Int)).toNat))) (bhd ((ofO m ws)).tr ((nth (l) (k)))))]))).getD []).length : Nat) : Int) = (0 : Int)))))) (bbF g16)) ?_
     refine R_mv t14 ?_
     refine G_yes (Eq.trans (@rfl V (V.bool ((((((((!(ans ((ofO m ws)) (cat ([(nth (l) (((k : Nat) : Int) - (1 : Int)).toNat), least (fdl (bhd ((ofO m ws)).tr ((nth (l) (((k : Nat) : Int) - (1 : Int)).toNat))) (bhd ((ofO m ws)).tr ((nth (l) (k)))))]))).isSome)) || ((!(ans ((ofO m ws)) (cat ([(nth (l) (k)), least (fdl (bhd ((ofO m ws)).tr ((nth (l) (((k : Nat) : Int) - (1 : Int)).toNat))) (bhd ((ofO m ws)).tr ((nth (l) (k)))))]))).isSome)))) || decide ((((least (fdl (bhd ((ofO m ws)).tr ((nth (l) (((k : Nat) : Int) - (1 : Int)).toNat))) (bhd ((ofO m ws)).tr ((nth (l) (k)))))).length : Nat) : Int) = (0 : Int)))) || decide (((((ans ((ofO m ws)) (cat ([(nth (l) (((k : Nat) : Int) - (1 : Int)).toNat), least (fdl (bhd ((ofO m ws)).tr ((nth (l) (((k : Nat) : Int) - (1 : Int)).toNat))) (bhd ((ofO m ws)).tr ((nth (l) (k)))))]))).getD []).length : Nat) : Int) = (0 : Int)))))) (bbF g16)) ?_
     refine R_len (@rfl V (V.sl (List.map cI ((ans ((ofO m ws)) (cat ([(nth (l) (k)), least (fdl (bhd ((ofO m ws)).tr ((nth (l) (((k : Nat) : Int) - (1 : Int)).toNat))) (bhd ((ofO m ws)).tr ((nth (l) (k)))))]))).getD [])))) ?_
     refine G_yes (Eq.trans (@rfl V (V.bool ((((((((!(ans ((ofO m ws)) (cat ([(nth (l) (((k : Nat) : Int) - (1 : Int)).toNat), least (fdl (bhd ((ofO m ws)).tr ((nth (l) (((k : Nat) : Int) - (1 : Int)).toNat))) (bhd ((ofO m ws)).tr ((nth (l) (k)))))]))).isSome)) || ((!(ans ((ofO m ws)) (cat ([(nth (l) (k)), least (fdl (bhd ((ofO m ws)).tr ((nth (l) (((k : Nat) : Int) - (1 : Int)).toNat))) (bhd ((ofO m ws)).tr ((nth (l) (k)))))]))).isSome)))) || decide ((((least (fdl (bhd ((ofO m ws)).tr ((nth (l) (((k : Nat) : Int) - (1 : Int)).toNat))) (bhd ((ofO m ws)).tr ((nth (l) (k)))))).length : Nat) : Int) = (0 : Int)))) || decide (((((ans ((ofO m ws)) (cat ([(nth (l) (((k : Nat) : Int) - (1 : Int)).toNat), least (fdl (bhd ((ofO m ws)).tr ((nth (l) (((k : Nat) : Int) - (1 : Int)).toNat))) (bhd ((ofO m ws)).tr ((nth (l) (k)))))]))).getD []).length : Nat) : Int) = (0 : Int)))))) (bbF g16)) ?_
     refine R_eql (x := ((((ans ((ofO m ws)) (cat ([(nth (l) (k)), least (fdl (bhd ((ofO m ws)).tr ((nth (l) (((k : Nat) : Int) - (1 : Int)).toNat))) (bhd ((ofO m ws)).tr ((nth (l) (k)))))]))).getD []).length : Nat) : Int)) (y := (0 : Int)) (@rfl V (iV ((((ans ((ofO m ws)) (cat ([(nth (l) (k)), least (fdl (bhd ((ofO m ws)).tr ((nth (l) (((k : Nat) : Int) - (1 : Int)).toNat))) (bhd ((ofO m ws)).tr ((nth (l) (k)))))]))).getD []).length : Nat) : Int))) (@rfl V (iV (0 : Int))) ?_
     refine R_pickF (Eq.trans (@rfl V (V.bool ((((((((!(ans ((ofO m ws)) (cat ([(nth (l) (((k : Nat) : Int) - (1 : Int)).toNat), least (fdl (bhd ((ofO m ws)).tr ((nth (l) (((k : Nat) : Int) - (1 : Int)).toNat))) (bhd ((ofO m ws)).tr ((nth (l) (k)))))]))).isSome)) || ((!(ans ((ofO m ws)) (cat ([(nth (l) (k)), least (fdl (bhd ((ofO m ws)).tr ((nth (l) (((k : Nat) : Int) - (1 : Int)).toNat))) (bhd ((ofO m ws)).tr ((nth (l) (k)))))]))).isSome)))) || decide ((((least (fdl (bhd ((ofO m ws)).tr ((nth (l) (((k : Nat) : Int) - (1 : Int)).toNat))) (bhd ((ofO m ws)).tr ((nth (l) (k)))))).length : Nat) : Int) = (0 : Int)))) || decide (((((ans ((ofO m ws)) (cat ([(nth (l) (((k : Nat) : Int) - (1 : Int)).toNat), least (fdl (bhd ((ofO m ws)).tr ((nth (l) (((k : Nat) : Int) - (1 : Int)).toNat))) (bhd ((ofO m ws)).tr ((nth (l) (k)))))]))).getD []).length : Nat) : Int) = (0 : Int)))))) (bbF g16)) (@rfl V (V.bool (decide (((((ans ((ofO m ws)) (cat ([(nth (l) (k)), least (fdl (bhd ((ofO m ws)).tr ((nth (l) (((k : Nat) : Int) - (1 : Int)).toNat))) (bhd ((ofO m ws)).tr ((nth (l) (k)))))]))).getD []).length : Nat) : Int) = (0 : Int))))) ?_
     exact ⟨t2, t7, t9, t12, t14, (Eq.trans (@rfl V (V.bool (decide (((((ans ((ofO m ws)) (cat ([(nth (l) (k)), least (fdl (bhd ((ofO m ws)).tr ((nth (l) (((k : Nat) : Int) - (1 : Int)).toNat))) (bhd ((ofO m ws)).tr ((nth (l) (k)))))]))).getD []).length : Nat) : Int) = (0 : Int))))) (borF g16)), h3, h7, trivial⟩
   intro T H ⟨t2, t7, t9, t12, t14, t120, h3, h7, _⟩
   exact R_nil ⟨t2, t7, t9, t12, t14, t120, h3, h7, trivial⟩
  intro T H ⟨t2, t7, t9, t12, t14, t120, h3, h7, _⟩
  refine W_seq_ifb t120 (fun c17 => ?_) (fun c17 => ?_)
  · exfalso; have q2 : a ≠ [] := List.length_pos_iff.1 x4; have q3 : b ≠ [] := List.length_pos_iff.1 x5; simp only [x2, x3, Option.isSome_some, Option.getD_some] at c17; generalize (least (fdl (bhd (ofO m ws).tr (nth l (((k : Nat) : Int) - (1 : Int)).toNat)) (bhd (ofO m ws).tr (nth l k)))) = z at c17 x1; simp [x1, q2, q3] at c17
  have y1 : 0 < ((ans (ofO m ws) (cat [(nth l (((k : Nat) : Int) - (1 : Int)).toNat), (least (fdl (bhd (ofO m ws).tr (nth l (((k : Nat) : Int) - (1 : Int)).toNat)) (bhd (ofO m ws).tr (nth l k))))])).getD []).length := by rw [x2]; exact x4
  have y2 : 0 < ((ans (ofO m ws) (cat [(nth l k), (least (fdl (bhd (ofO m ws).tr (nth l (((k : Nat) : Int) - (1 : Int)).toNat)) (bhd (ofO m ws).tr (nth l k))))])).getD []).length := by rw [x3]; exact x5
  have y3 := ans_len hok (w := cat [(nth l (((k : Nat) : Int) - (1 : Int)).toNat), (least (fdl (bhd (ofO m ws).tr (nth l (((k : Nat) : Int) - (1 : Int)).toNat)) (bhd (ofO m ws).tr (nth l k))))]) (by rw [x2]; rfl)
  have y4 := ans_len hok (w := cat [(nth l k), (least (fdl (bhd (ofO m ws).tr (nth l (((k : Nat) : Int) - (1 : Int)).toNat)) (bhd (ofO m ws).tr (nth l k))))]) (by rw [x3]; rfl)
  have y5 : (cat [(nth l (((k : Nat) : Int) - (1 : Int)).toNat), (least (fdl (bhd (ofO m ws).tr (nth l (((k : Nat) : Int) - (1 : Int)).toNat)) (bhd (ofO m ws).tr (nth l k))))]).length = (nth l (((k : Nat) : Int) - (1 : Int)).toNat).length + (least (fdl (bhd (ofO m ws).tr (nth l (((k : Nat) : Int) - (1 : Int)).toNat)) (bhd (ofO m ws).tr (nth l k)))).length := by simp only [cat, List.append_nil, List.length_append]
  have y6 : (cat [(nth l k), (least (fdl (bhd (ofO m ws).tr (nth l (((k : Nat) : Int) - (1 : Int)).toNat)) (bhd (ofO m ws).tr (nth l k))))]).length = (nth l k).length + (least (fdl (bhd (ofO m ws).tr (nth l (((k : Nat) : Int) - (1 : Int)).toNat)) (bhd (ofO m ws).tr (nth l k)))).length := by simp only [cat, List.append_nil, List.length_append]
  refine W_seq_skip ?_
  refine W_seq_regc (fun T H => T 2 = (V.sl (List.map cL (l))) ∧ T 7 = (V.mp 7 1 0 0) ∧ T 9 = (iV ((k : Nat) : Int)) ∧ T 133 = (V.bool (decide (((nth ((ans ((ofO m ws)) (cat ([(nth (l) (((k : Nat) : Int) - (1 : Int)).toNat), least (fdl (bhd ((ofO m ws)).tr ((nth (l) (((k : Nat) : Int) - (1 : Int)).toNat))) (bhd ((ofO m ws)).tr ((nth (l) (k)))))]))).getD []) (((((ans ((ofO m ws)) (cat ([(nth (l) (((k : Nat) : Int) - (1 : Int)).toNat), least (fdl (bhd ((ofO m ws)).tr ((nth (l) (((k : Nat) : Int) - (1 : Int)).toNat))) (bhd ((ofO m ws)).tr ((nth (l) (k)))))]))).getD []).length : Nat) : Int) - (1 : Int)).toNat)) = ((nth ((ans ((ofO m ws)) (cat ([(nth (l) (k)), least (fdl (bhd ((ofO m ws)).tr ((nth (l) (((k : Nat) : Int) - (1 : Int)).toNat))) (bhd ((ofO m ws)).tr ((nth (l) (k)))))]))).getD []) (((((ans ((ofO m ws)) (cat ([(nth (l) (k)), least (fdl (bhd ((ofO m ws)).tr ((nth (l) (((k : Nat) : Int) - (1 : Int)).toNat))) (bhd ((ofO m ws)).tr ((nth (l) (k)))))]))).getD []).length : Nat) : Int) - (1 : Int)).toNat))))) ∧ H 3 = (⟨1, true, false, 24, 4, [[(iV (m.i)), (iV (m.s)), (V.sl (List.map cL (m.nx))), (V.sl (List.map cL (m.ot)))]]⟩ : Blk) ∧ H 7 = (⟨1, true, false, 34, 2, [[(iV ((ofO m ws).i)), (V.sl (List.map cT ((ofO m ws).tr)))]]⟩ : Blk) ∧ True) ?_ ?_
  ·
   unfold r6_17
   refine R_mv t12 ?_
   refine R_mv t12 ?_
   refine R_len (@rfl V (V.sl (List.map cI ((ans ((ofO m ws)) (cat ([(nth (l) (((k : Nat) : Int) - (1 : Int)).toNat), least (fdl (bhd ((ofO m ws)).tr ((nth (l) (((k : Nat) : Int) - (1 : Int)).toNat))) (bhd ((ofO m ws)).tr ((nth (l) (k)))))]))).getD [])))) ?_
   refine R_sub (x := ((((ans ((ofO m ws)) (cat ([(nth (l) (((k : Nat) : Int) - (1 : Int)).toNat), least (fdl (bhd ((ofO m ws)).tr ((nth (l) (((k : Nat) : Int) - (1 : Int)).toNat))) (bhd ((ofO m ws)).tr ((nth (l) (k)))))]))).getD []).length : Nat) : Int)) (y := (1 : Int)) (@rfl V (iV ((((ans ((ofO m ws)) (cat ([(nth (l) (((k : Nat) : Int) - (1 : Int)).toNat), least (fdl (bhd ((ofO m ws)).tr ((nth (l) (((k : Nat) : Int) - (1 : Int)).toNat))) (bhd ((ofO m ws)).tr ((nth (l) (k)))))]))).getD []).length : Nat) : Int))) (@rfl V (iV (1 : Int))) (by omega) (by omega) ?_
   refine R_idxI (i := (((((ans ((ofO m ws)) (cat ([(nth (l) (((k : Nat) : Int) - (1 : Int)).toNat), least (fdl (bhd ((ofO m ws)).tr ((nth (l) (((k : Nat) : Int) - (1 : Int)).toNat))) (bhd ((ofO m ws)).tr ((nth (l) (k)))))]))).getD []).length : Nat) : Int) - (1 : Int))) (@rfl V (V.sl (List.map cI ((ans ((ofO m ws)) (cat ([(nth (l) (((k : Nat) : Int) - (1 : Int)).toNat), least (fdl (bhd ((ofO m ws)).tr ((nth (l) (((k : Nat) : Int) - (1 : Int)).toNat))) (bhd ((ofO m ws)).tr ((nth (l) (k)))))]))).getD [])))) (@rfl V (iV (((((ans ((ofO m ws)) (cat ([(nth (l) (((k : Nat) : Int) - (1 : Int)).toNat), least (fdl (bhd ((ofO m ws)).tr ((nth (l) (((k : Nat) : Int) - (1 : Int)).toNat))) (bhd ((ofO m ws)).tr ((nth (l) (k)))))]))).getD []).length : Nat) : Int) - (1 : Int)))) (by omega) (by omega) rfl ?_
   refine R_load_pp (v := (iV ((nth ((ans ((ofO m ws)) (cat ([(nth (l) (((k : Nat) : Int) - (1 : Int)).toNat), least (fdl (bhd ((ofO m ws)).tr ((nth (l) (((k : Nat) : Int) - (1 : Int)).toNat))) (bhd ((ofO m ws)).tr ((nth (l) (k)))))]))).getD []) (((((ans ((ofO m ws)) (cat ([(nth (l) (((k : Nat) : Int) - (1 : Int)).toNat), least (fdl (bhd ((ofO m ws)).tr ((nth (l) (((k : Nat) : Int) - (1 : Int)).toNat))) (bhd ((ofO m ws)).tr ((nth (l) (k)))))]))).getD []).length : Nat) : Int) - (1 : Int)).toNat)))) (@rfl V (V.pp [(iV ((nth ((ans ((ofO m ws)) (cat ([(nth (l) (((k : Nat) : Int) - (1 : Int)).toNat), least (fdl (bhd ((ofO m ws)).tr ((nth (l) (((k : Nat) : Int) - (1 : Int)).toNat))) (bhd ((ofO m ws)).tr ((nth (l) (k)))))]))).getD []) (((((ans ((ofO m ws)) (cat ([(nth (l) (((k : Nat) : Int) - (1 : Int)).toNat), least (fdl (bhd ((ofO m ws)).tr ((nth (l) (((k : Nat) : Int) - (1 : Int)).toNat))) (bhd ((ofO m ws)).tr ((nth (l) (k)))))]))).getD []).length : Nat) : Int) - (1 : Int)).toNat)))])) (by first | rfl | simp [ldV]) ?_
   refine R_mv t14 ?_
   refine R_mv t14 ?_
   refine R_len (@rfl V (V.sl (List.map cI ((ans ((ofO m ws)) (cat ([(nth (l) (k)), least (fdl (bhd ((ofO m ws)).tr ((nth (l) (((k : Nat) : Int) - (1 : Int)).toNat))) (bhd ((ofO m ws)).tr ((nth (l) (k)))))]))).getD [])))) ?_
   refine R_sub (x := ((((ans ((ofO m ws)) (cat ([(nth (l) (k)), least (fdl (bhd ((ofO m ws)).tr ((nth (l) (((k : Nat) : Int) - (1 : Int)).toNat))) (bhd ((ofO m ws)).tr ((nth (l) (k)))))]))).getD []).length : Nat) : Int)) (y := (1 : Int)) (@rfl V (iV ((((ans ((ofO m ws)) (cat ([(nth (l) (k)), least (fdl (bhd ((ofO m ws)).tr ((nth (l) (((k : Nat) : Int) - (1 : Int)).toNat))) (bhd ((ofO m ws)).tr ((nth (l) (k)))))]))).getD []).length : Nat) : Int))) (@rfl V (iV (1 : Int))) (by omega) (by omega) ?_
   refine R_idxI (i := (((((ans ((ofO m ws)) (cat ([(nth (l) (k)), least (fdl (bhd ((ofO m ws)).tr ((nth (l) (((k : Nat) : Int) - (1 : Int)).toNat))) (bhd ((ofO m ws)).tr ((nth (l) (k)))))]))).getD []).length : Nat) : Int) - (1 : Int))) (@rfl V (V.sl (List.map cI ((ans ((ofO m ws)) (cat ([(nth (l) (k)), least (fdl (bhd ((ofO m ws)).tr ((nth (l) (((k : Nat) : Int) - (1 : Int)).toNat))) (bhd ((ofO m ws)).tr ((nth (l) (k)))))]))).getD [])))) (@rfl V (iV (((((ans ((ofO m ws)) (cat ([(nth (l) (k)), least (fdl (bhd ((ofO m ws)).tr ((nth (l) (((k : Nat) : Int) - (1 : Int)).toNat))) (bhd ((ofO m ws)).tr ((nth (l) (k)))))]))).getD []).length : Nat) : Int) - (1 : Int)))) (by omega) (by omega) rfl ?_
   refine R_load_pp (v := (iV ((nth ((ans ((ofO m ws)) (cat ([(nth (l) (k)), least (fdl (bhd ((ofO m ws)).tr ((nth (l) (((k : Nat) : Int) - (1 : Int)).toNat))) (bhd ((ofO m ws)).tr ((nth (l) (k)))))]))).getD []) (((((ans ((ofO m ws)) (cat ([(nth (l) (k)), least (fdl (bhd ((ofO m ws)).tr ((nth (l) (((k : Nat) : Int) - (1 : Int)).toNat))) (bhd ((ofO m ws)).tr ((nth (l) (k)))))]))).getD []).length : Nat) : Int) - (1 : Int)).toNat)))) (@rfl V (V.pp [(iV ((nth ((ans ((ofO m ws)) (cat ([(nth (l) (k)), least (fdl (bhd ((ofO m ws)).tr ((nth (l) (((k : Nat) : Int) - (1 : Int)).toNat))) (bhd ((ofO m ws)).tr ((nth (l) (k)))))]))).getD []) (((((ans ((ofO m ws)) (cat ([(nth (l) (k)), least (fdl (bhd ((ofO m ws)).tr ((nth (l) (((k : Nat) : Int) - (1 : Int)).toNat))) (bhd ((ofO m ws)).tr ((nth (l) (k)))))]))).getD []).length : Nat) : Int) - (1 : Int)).toNat)))])) (by first | rfl | simp [ldV]) ?_
   refine R_eql (x := ((nth ((ans ((ofO m ws)) (cat ([(nth (l) (((k : Nat) : Int) - (1 : Int)).toNat), least (fdl (bhd ((ofO m ws)).tr ((nth (l) (((k : Nat) : Int) - (1 : Int)).toNat))) (bhd ((ofO m ws)).tr ((nth (l) (k)))))]))).getD []) (((((ans ((ofO m ws)) (cat ([(nth (l) (((k : Nat) : Int) - (1 : Int)).toNat), least (fdl (bhd ((ofO m ws)).tr ((nth (l) (((k : Nat) : Int) - (1 : Int)).toNat))) (bhd ((ofO m ws)).tr ((nth (l) (k)))))]))).getD []).length : Nat) : Int) - (1 : Int)).toNat))) (y := ((nth ((ans ((ofO m ws)) (cat ([(nth (l) (k)), least (fdl (bhd ((ofO m ws)).tr ((nth (l) (((k : Nat) : Int) - (1 : Int)).toNat))) (bhd ((ofO m ws)).tr ((nth (l) (k)))))]))).getD []) (((((ans ((ofO m ws)) (cat ([(nth (l) (k)), least (fdl (bhd ((ofO m ws)).tr ((nth (l) (((k : Nat) : Int) - (1 : Int)).toNat))) (bhd ((ofO m ws)).tr ((nth (l) (k)))))]))).getD []).length : Nat) : Int) - (1 : Int)).toNat))) (@rfl V (iV ((nth ((ans ((ofO m ws)) (cat ([(nth (l) (((k : Nat) : Int) - (1 : Int)).toNat), least (fdl (bhd ((ofO m ws)).tr ((nth (l) (((k : Nat) : Int) - (1 : Int)).toNat))) (bhd ((ofO m ws)).tr ((nth (l) (k)))))]))).getD []) (((((ans ((ofO m ws)) (cat ([(nth (l) (((k : Nat) : Int) - (1 : Int)).toNat), least (fdl (bhd ((ofO m ws)).tr ((nth (l) (((k : Nat) : Int) - (1 : Int)).toNat))) (bhd ((ofO m ws)).tr ((nth (l) (k)))))]))).getD []).length : Nat) : Int) - (1 : Int)).toNat)))) (@rfl V (iV ((nth ((ans ((ofO m ws)) (cat ([(nth (l) (k)), least (fdl (bhd ((ofO m ws)).tr ((nth (l) (((k : Nat) : Int) - (1 : Int)).toNat))) (bhd ((ofO m ws)).tr ((nth (l) (k)))))]))).getD []) (((((ans ((ofO m ws)) (cat ([(nth (l) (k)), least (fdl (bhd ((ofO m ws)).tr ((nth (l) (((k : Nat) : Int) - (1 : Int)).toNat))) (bhd ((ofO m ws)).tr ((nth (l) (k)))))]))).getD []).length : Nat) : Int) - (1 : Int)).toNat)))) ?_
   exact R_nil ⟨t2, t7, t9, rfl, h3, h7, trivial⟩
  intro T H ⟨t2, t7, t9, t133, h3, h7, _⟩
  refine W_if (p := ((nth ((ans ((ofO m ws)) (cat ([(nth (l) (((k : Nat) : Int) - (1 : Int)).toNat), least (fdl (bhd ((ofO m ws)).tr ((nth (l) (((k : Nat) : Int) - (1 : Int)).toNat))) (bhd ((ofO m ws)).tr ((nth (l) (k)))))]))).getD []) (((((ans ((ofO m ws)) (cat ([(nth (l) (((k : Nat) : Int) - (1 : Int)).toNat), least (fdl (bhd ((ofO m ws)).tr ((nth (l) (((k : Nat) : Int) - (1 : Int)).toNat))) (bhd ((ofO m ws)).tr ((nth (l) (k)))))]))).getD []).length : Nat) : Int) - (1 : Int)).toNat)) = ((nth ((ans ((ofO m ws)) (cat ([(nth (l) (k)), least (fdl (bhd ((ofO m ws)).tr ((nth (l) (((k : Nat) : Int) - (1 : Int)).toNat))) (bhd ((ofO m ws)).tr ((nth (l) (k)))))]))).getD []) (((((ans ((ofO m ws)) (cat ([(nth (l) (k)), least (fdl (bhd ((ofO m ws)).tr ((nth (l) (((k : Nat) : Int) - (1 : Int)).toNat))) (bhd ((ofO m ws)).tr ((nth (l) (k)))))]))).getD []).length : Nat) : Int) - (1 : Int)).toNat))) t133 (fun c18 => ?_) (fun c18 => ?_)
  · exfalso; apply x6; simp only [x2, x3, Option.getD_some] at c18; rw [show a.length - 1 = (((a.length : Nat) : Int) - (1 : Int)).toNat by omega, show b.length - 1 = (((b.length : Nat) : Int) - (1 : Int)).toNat by omega]; exact c18
  refine W_skip ?_
  refine n11 _ _ ?_
  refine .done ?_
  refine W_regc (fun T H => T 2 = (V.sl (List.map cL (l))) ∧ T 7 = (V.mp 7 1 0 0) ∧ T 9 = (iV ((k + 1 : Nat) : Int)) ∧ H 3 = (⟨1, true, false, 24, 4, [[(iV (m.i)), (iV (m.s)), (V.sl (List.map cL (m.nx))), (V.sl (List.map cL (m.ot)))]]⟩ : Blk) ∧ H 7 = (⟨1, true, false, 34, 2, [[(iV ((ofO m ws).i)), (V.sl (List.map cT ((ofO m ws).tr)))]]⟩ : Blk) ∧ True) ?_ ?_
  ·
   unfold r6_10
   refine R_mv t9 ?_
   refine R_addN (m := k) (n := 1) (@rfl V (iV ((k : Nat) : Int))) (@rfl V (iV ((1 : Nat) : Int))) (by omega) ?_
   refine R_mv (@rfl V (iV ((k + 1 : Nat) : Int))) ?_
   exact R_nil ⟨t2, t7, rfl, h3, h7, trivial⟩
  intro T H ⟨t2, t7, t9, h3, h7, _⟩
  refine p19 _ _ _ ?_ ⟨(k + 1), rfl, t2, t7, (Eq.trans t9 (by first | rfl | simp)), h3, h7, ?_⟩
  · omega
  · omega
 refine W_seq_exit ?_
 refine p39 _ _ _ ?_
 refine x8 _ _ ?_
 refine .done ?_
 refine W_seq_regc (fun T H => T 6 = (V.bool true) ∧ H 3 = (⟨1, true, false, 24, 4, [[(iV (m.i)), (iV (m.s)), (V.sl (List.map cL (m.nx))), (V.sl (List.map cL (m.ot)))]]⟩ : Blk) ∧ H 7 = (⟨1, true, false, 34, 2, [[(iV ((ofO m ws).i)), (V.sl (List.map cT ((ofO m ws).tr)))]]⟩ : Blk) ∧ True) ?_ ?_
 ·
  unfold r6_19
  refine R_call evnil (aw_learnerlaw22_awake_pure) (fzv_mapcanon _ _ (by simp [-List.map_take, -List.map_drop, -List.map_append, -List.map_reverse])) (by simp [-List.map_take, -List.map_drop, -List.map_append, -List.map_reverse]) (Or.inl (by simp [-List.map_take, -List.map_drop, -List.map_append, -List.map_reverse])) ?_
  refine R_mv (@rfl V (V.bool true)) ?_
  exact R_nil ⟨rfl, h3, h7, trivial⟩
 intro T H ⟨t6, h3, h7, _⟩
 refine W_ret ?_
 refine Ret_1 t6 (fz_canon (by simp) rfl)
end Go.Proofs.Ytngkckefanbhgaa

namespace Go.Proofs.Ytngkckefanbhgaa
open Go Go.Proofs Go.Proofs.Ytngkckefanbhgaa Go.ChangeShapes Go.WideShapes Go.ChangeAt Go.RowKit
structure UT (P : Program) : Prop where
  u3 : P.underlying 3 = some (.int .i64)
  u22 : P.underlying 22 = some (.slice 35)
  u35 : P.underlying 35 = some (.slice 3)
  u24 : ∃ f0 f1 f2 f3 : Field, P.underlying 24 = some (.struct #[f0, f1, f2, f3]) ∧ f0.type = 3 ∧ f1.type = 3 ∧ f2.type = 22 ∧ f3.type = 22
theorem sh3 {P : Program} (U : UT P) (n : Nat) (vs : List V) (h : Shp P (n + 1) 3 vs) : ∃ a : Int, vs = cI a := shp_int U.u3 h
theorem sh35 {P : Program} (U : UT P) (n : Nat) (vs : List V) (h : Shp P (n + 2) 35 vs) : ∃ a : List Int, vs = cL a := shp_slice (f := cI) U.u35 (fun vs h => sh3 U n vs h) h
theorem sh22 {P : Program} (U : UT P) (n : Nat) (vs : List V) (h : Shp P (n + 3) 22 vs) : ∃ a : List (List Int), vs = (fun l => [V.sl (List.map cL l)]) a := shp_slice (f := cL) U.u22 (fun vs h => sh35 U n vs h) h
theorem sh24 {P : Program} (U : UT P) (n : Nat) (vs : List V) (h : Shp P (n + 4) 24 vs) : ∃ a : M, vs = mC a := by
  obtain ⟨f0, f1, f2, f3, hu, k0, k1, k2, k3⟩ := U.u24
  have h0 := shp_step hu h
  obtain ⟨x0, u0, e0, h1⟩ := shpL_cons (c := cI) (fun vs h => sh3 U (n + 2) vs (by rw [k0] at h; exact h)) h0
  obtain ⟨x1, u1, e1, h2⟩ := shpL_cons (c := cI) (fun vs h => sh3 U (n + 2) vs (by rw [k1] at h; exact h)) h1
  obtain ⟨x2, u2, e2, h3⟩ := shpL_cons (c := (fun l => [V.sl (List.map cL l)])) (fun vs h => sh22 U (n + 0) vs (by rw [k2] at h; exact h)) h2
  obtain ⟨x3, u3, e3, h4⟩ := shpL_cons (c := (fun l => [V.sl (List.map cL l)])) (fun vs h => sh22 U (n + 0) vs (by rw [k3] at h; exact h)) h3
  have e4 := shpL_nil h4
  exact ⟨⟨x0, x1, x2, x3⟩, by rw [e0, e1, e2, e3, e4]; rfl⟩
theorem ut : UT Try.prog := ⟨by kernel_rfl, by kernel_rfl, by kernel_rfl, ⟨_, _, _, _, Try.underlying24, rfl, rfl, rfl, rfl⟩⟩
theorem args6 {P : Program} (U : UT P) {us : List V} (h : ShpA P 5 [24, 22, 22] us) : ∃ (d0 : M) (d1 : List (List Int)) (d2 : List (List Int)), us = [V.agg (mC d0), V.sl (List.map cL d1), V.sl (List.map cL d2)] := by
  obtain ⟨a0, b0, e0, h0, h⟩ := shpA_cons h
  obtain ⟨d0, g0⟩ := sh24 U 1 a0 h0
  have q0 : packV P 24 a0 = V.agg (mC d0) := by obtain ⟨_, _, _, _, hu, _⟩ := U.u24; rw [g0]; exact pack_struct hu _
  obtain ⟨a1, b1, e1, h1, h⟩ := shpA_cons h
  obtain ⟨d1, g1⟩ := sh22 U 2 a1 h1
  have q1 : packV P 22 a1 = V.sl (List.map cL d1) := by rw [g1]; exact pack_other (fun fs h => by rw [U.u22] at h; cases h)
  obtain ⟨a2, b2, e2, h2, h⟩ := shpA_cons h
  obtain ⟨d2, g2⟩ := sh22 U 2 a2 h2
  have q2 : packV P 22 a2 = V.sl (List.map cL d2) := by rw [g2]; exact pack_other (fun fs h => by rw [U.u22] at h; cases h)
  have e3 := shpA_nil h
  exact ⟨d0, d1, d2, by rw [e0, q0, e1, q1, e2, q2, e3]⟩
theorem own6 : ownKnob Try.prog.godebug = none := by kernel_rfl
set_option maxRecDepth 100000 in
theorem lifted6 (os : Os) (started : os.Started) (H : Type) (enc : TypeId × Value → H) :
    ReturnsInHanded {} Try.checked os 6 .any (Rows.hypothesisLowerSpec.pre6 enc Try.prog Try.f6 Rows.hypothesisLowerRow.domain false) (Rows.hypothesisLowerSpec.post enc Try.prog Try.f6 false true false false) := by
  refine returnsInHanded_of_change (C := Try.checked) own6 started (by kernel_rfl) Try.func6
    (ChangeSpec.witness6 (enc := enc) (C := Try.checked) false ⟨#[], #[.agg #[.int .i64 0, .int .i64 0, .slice none 0 0, .slice none 0 0], .slice none 0 0, .slice none 0 0], []⟩ 8 (by kernel_rfl) (by kernel_rfl) (by kernel_rfl) (by kernel_rfl)) ?_
  intro W base args ds gs before hval0 hW hcnd _
  refine law_post (n := 5) (tb := 4) (by kernel_rfl) (by kernel_rfl) (by kernel_rfl) (fun t ht => ?_) rfl ?_ (fun us hu => ?_) hval0 hW
  · have h : t ∈ [24, 22, 22] := ht
    simp only [List.mem_cons, List.not_mem_nil, or_false] at h
    rcases h with rfl | rfl | rfl
    · exact ⟨by kernel_rfl, by kernel_rfl, of_decide_eq_true (by kernel_rfl)⟩
    · exact ⟨by kernel_rfl, by kernel_rfl, of_decide_eq_true (by kernel_rfl)⟩
    · exact ⟨by kernel_rfl, by kernel_rfl, of_decide_eq_true (by kernel_rfl)⟩
  · obtain ⟨p, q, hA, hV, rfl, hfz, hnd⟩ := hW
    obtain ⟨rfl, rfl⟩ := trodVars_none hV
    change DataW.TrodAll enc Try.prog W 0 (fun _ => true) true [24, 22, 22] args.toList ds p at hA
    obtain ⟨v0, vs0, y0, ds0, pa0, pb0, hv0, rfl, rfl, _, hA⟩ := trodAll_cons hA
    obtain ⟨v1, vs1, y1, ds1, pa1, pb1, hv1, rfl, rfl, _, hA⟩ := trodAll_cons hA
    obtain ⟨v2, vs2, y2, ds2, pa2, pb2, hv2, rfl, rfl, _, hA⟩ := trodAll_cons hA
    obtain ⟨_, rfl, rfl⟩ := trodAll_nil hA
    rfl
  · obtain ⟨d0, d1, d2, rfl⟩ := args6 ut hu
    exact law6_pure d0 d1 d2
theorem proved6 : Rows.HypothesisLowerSaid :=
  OpenClaim.holds_of_wide 6 Try.f6 rfl rfl rfl rfl rfl rfl rfl ⟨rfl, rfl, rfl, rfl, rfl⟩ rfl rfl rfl rfl rfl (by kernel_rfl) Try.func6 (by kernel_rfl)
    (of_decide_eq_true (by kernel_rfl)) (by unfold Func.isWrapper; first | (rw [if_pos (by decide +kernel)]; kernel_rfl) | (rw [if_neg (by decide +kernel)]; exact ⟨rfl, rfl⟩))
    (fun os started H enc _ => lifted6 os started H enc)
end Go.Proofs.Ytngkckefanbhgaa

