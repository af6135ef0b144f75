/- Contracts of the functions that the law DV reaches, and the law itself, for every input; no condition. -/
import Derived.KernelRfl
import Derived.Test.YtmnjchcoigbngaaGreatProg
import Derived.Test.YtmnjchcoigbngaaGreatRows
import Derived.Test.YtmnjchcoigbngaaGreatDV3
set_option linter.unusedSimpArgs false
set_option linter.unusedVariables false
namespace Go.Proofs.YtmnjchcoigbngaaGreat
open Go Go.Proofs
theorem with_E (l : List (List Int)) (w : List Int) (v3 v44 : Nat) (Hi : Heap) (h3 : Hi 3 = (⟨v3, true, true, 38, 1, (List.map cL (l))⟩ : Blk)) (h544 : (Hi 544).ver = v44) (hs : SrtW l) (hl : l.length ≤ 100000) (hw : w.length ≤ 1048576) : CallOK Tryz.prog 77 [(V.ms 3 v3 0 (l.length)), (V.sl (List.map cI (w)))] Hi (V.ms 3 (v3 + 1) 0 ((wiW l w).length)) (upd (upd Hi 544 (⟨v44 + 2, false, false, 0, 0, []⟩ : Blk)) 3 (⟨v3 + 1, true, true, 38, 1, (List.map cL (wiW l w))⟩ : Blk)) := by
 refine CallOK_of_Wf (k0 := 500) Tryz.func77 s77_ok (by kernel_rfl) (by simp [s77]) fun hB => ?_
 simp only [bnd_map, bnd_int, bnd_bool, bnd_str, bnd_agg, bnd_pp, bnd_nil, bnd_cons, implies_true, and_true, true_and] at hB
 have q0 := pl_le (w := w) l
 unfold s77
 dsimp only
 refine W_seq_regc (fun T H => T 0 = (V.ms 3 v3 0 (l.length)) ∧ T 1 = (V.sl (List.map cI (w))) ∧ (∀ j, j ∉ [544, 3] → H j = Hi j) ∧ H 3 = (⟨v3, true, true, 38, 1, (List.map cL (l))⟩ : Blk) ∧ (H 544).ver = v44 ∧ True) ?_ ?_
 ·
  unfold r77_0
  refine R_mv (@rfl V V.nilsl) ?_
  exact R_nil ⟨rfl, rfl, (fun _ _ => rfl), h3, h544, trivial⟩
 intro T H ⟨t0, t1, hF, h3, h544, _⟩
 refine W_seq_regc (fun T H => T 0 = (V.ms 3 v3 0 (l.length)) ∧ T 1 = (V.sl (List.map cI (w))) ∧ T 5 = (iV ((plN l w : Nat) : Int)) ∧ (∀ j, j ∉ [544, 3] → H j = Hi j) ∧ H 3 = (⟨v3, true, true, 38, 1, (List.map cL (l))⟩ : Blk) ∧ (H 544).ver = v44 ∧ True) ?_ ?_
 ·
  unfold r77_1
  refine R_mv t0 ?_
  refine R_mv t1 ?_
  refine R_call (evcons (@rfl V (V.ms 3 v3 0 (l.length))) (evcons (@rfl V (V.sl (List.map cI (w)))) evnil)) (place_pure l w hs (by omega)) (mcons (fz_mst h3 (by first | rfl | simp) (take_map (l := l) (by first | rfl | simp | omega)) (fun _ => by simp)) (mcons (fzv_canon 6 _ (by simp [-List.map_take, -List.map_drop, -List.map_append, -List.map_reverse])) rfl)) (by simp [-List.map_take, -List.map_drop, -List.map_append, -List.map_reverse]) (Or.inr rfl) ?_
  refine R_mv (@rfl V (iV ((plN l w : Nat) : Int))) ?_
  exact R_nil ⟨t0, t1, rfl, hF, h3, h544, trivial⟩
 intro T H ⟨t0, t1, t5, hF, h3, h544, _⟩
 refine W_seq_seq ?_
 refine W_seq_regc (fun T H => T 0 = (V.ms 3 v3 0 (l.length)) ∧ T 1 = (V.sl (List.map cI (w))) ∧ T 5 = (iV ((plN l w : Nat) : Int)) ∧ T 21 = (V.bool (decide ((((plN l w : Nat) : Int) < ((l.length : Nat) : Int)) ∧ (((nth (l) (plN l w))) = w)))) ∧ (∀ j, j ∉ [544, 3] → H j = Hi j) ∧ H 3 = (⟨v3, true, true, 38, 1, (List.map cL (l))⟩ : Blk) ∧ (H 544).ver = v44 ∧ True) ?_ ?_
 ·
  unfold r77_2
  refine R_mv t5 ?_
  refine R_mv t0 ?_
  refine R_len_ms (@rfl V (V.ms 3 v3 0 (l.length))) h3 (by first | rfl | simp) ?_
  refine R_lss (x := ((plN l w : Nat) : Int)) (y := ((l.length : Nat) : Int)) (@rfl V (iV ((plN l w : Nat) : Int))) (@rfl V (iV ((l.length : Nat) : Int))) ?_
  refine R_mv (@rfl V (V.bool (decide (((plN l w : Nat) : Int) < ((l.length : Nat) : Int))))) ?_
  refine Ops_seg 7 (fun T H => T 0 = (V.ms 3 v3 0 (l.length)) ∧ T 1 = (V.sl (List.map cI (w))) ∧ T 5 = (iV ((plN l w : Nat) : Int)) ∧ T 21 = (V.bool (decide ((((plN l w : Nat) : Int) < ((l.length : Nat) : Int)) ∧ (((nth (l) (plN l w))) = w)))) ∧ (∀ j, j ∉ [544, 3] → H j = Hi j) ∧ H 3 = (⟨v3, true, true, 38, 1, (List.map cL (l))⟩ : Blk) ∧ (H 544).ver = v44 ∧ True) ?_ ?_
  ·
   by_cases g1 : ((plN l w : Nat) : Int) < ((l.length : Nat) : Int)
   ·
    refine G_yes (Eq.trans (@rfl V (V.bool (decide (((plN l w : Nat) : Int) < ((l.length : Nat) : Int))))) (bdT g1)) ?_
    refine R_mv t0 ?_
    refine G_yes (Eq.trans (@rfl V (V.bool (decide (((plN l w : Nat) : Int) < ((l.length : Nat) : Int))))) (bdT g1)) ?_
    refine R_mv t5 ?_
    refine G_yes (Eq.trans (@rfl V (V.bool (decide (((plN l w : Nat) : Int) < ((l.length : Nat) : Int))))) (bdT g1)) ?_
    refine R_idx_ms0 (i := (plN l w)) (@rfl V (V.ms 3 v3 0 (l.length))) (@rfl V (iV ((plN l w : Nat) : Int))) h3 (okB_map (by omega)) rfl (by omega) ?_
    refine G_yes (Eq.trans (@rfl V (V.bool (decide (((plN l w : Nat) : Int) < ((l.length : Nat) : Int))))) (bdT g1)) ?_
    refine R_load_mp (v := (V.sl (List.map cI ((nth (l) (plN l w)))))) (@rfl V (V.mp 3 v3 (plN l w) 0)) h3 (ldB_map (by omega) (by first | rfl | simp [ldV, V.one])) ?_
    refine G_yes (Eq.trans (@rfl V (V.bool (decide (((plN l w : Nat) : Int) < ((l.length : Nat) : Int))))) (bdT g1)) ?_
    refine R_mv t1 ?_
    refine G_yes (Eq.trans (@rfl V (V.bool (decide (((plN l w : Nat) : Int) < ((l.length : Nat) : Int))))) (bdT g1)) ?_
    refine R_call (evcons (@rfl V (V.sl (List.map cI ((nth (l) (plN l w)))))) (evcons (@rfl V (V.sl (List.map cI (w)))) evnil)) (rsame1_pure ((nth (l) (plN l w))) w) (fzv_mapcanon _ _ (by simp [-List.map_take, -List.map_drop, -List.map_append, -List.map_reverse])) (by simp [-List.map_take, -List.map_drop, -List.map_append, -List.map_reverse]) (Or.inl (by simp [-List.map_take, -List.map_drop, -List.map_append, -List.map_reverse])) ?_
    refine R_pickT (Eq.trans (@rfl V (V.bool (decide (((plN l w : Nat) : Int) < ((l.length : Nat) : Int))))) (bdT g1)) (@rfl V (V.bool (decide (((nth (l) (plN l w))) = w)))) ?_
    exact ⟨t0, t1, t5, (Eq.trans (@rfl V (V.bool (decide (((nth (l) (plN l w))) = w)))) (dec_andT g1)), hF, h3, h544, trivial⟩
   ·
    refine G_no (Eq.trans (@rfl V (V.bool (decide (((plN l w : Nat) : Int) < ((l.length : Nat) : Int))))) (bdF g1)) (by decide) ?_
    refine G_no (Eq.trans (@rfl V (V.bool (decide (((plN l w : Nat) : Int) < ((l.length : Nat) : Int))))) (bdF g1)) (by decide) ?_
    refine G_no (Eq.trans (@rfl V (V.bool (decide (((plN l w : Nat) : Int) < ((l.length : Nat) : Int))))) (bdF g1)) (by decide) ?_
    refine G_no (Eq.trans (@rfl V (V.bool (decide (((plN l w : Nat) : Int) < ((l.length : Nat) : Int))))) (bdF g1)) (by decide) ?_
    refine G_no (Eq.trans (@rfl V (V.bool (decide (((plN l w : Nat) : Int) < ((l.length : Nat) : Int))))) (bdF g1)) (by decide) ?_
    refine G_no (Eq.trans (@rfl V (V.bool (decide (((plN l w : Nat) : Int) < ((l.length : Nat) : Int))))) (bdF g1)) (by decide) ?_
    refine R_pickF (Eq.trans (@rfl V (V.bool (decide (((plN l w : Nat) : Int) < ((l.length : Nat) : Int))))) (bdF g1)) (@rfl V (V.bool false)) ?_
    exact ⟨t0, t1, t5, (Eq.trans (@rfl V (V.bool false)) (dec_andF g1)), hF, h3, h544, trivial⟩
  intro T H ⟨t0, t1, t5, t21, hF, h3, h544, _⟩
  exact R_nil ⟨t0, t1, t5, t21, hF, h3, h544, trivial⟩
 intro T H ⟨t0, t1, t5, t21, hF, h3, h544, _⟩
 refine W_seq_if (p := (((plN l w : Nat) : Int) < ((l.length : Nat) : Int)) ∧ (((nth (l) (plN l w))) = w)) t21 (fun c2 => ?_) (fun c2 => ?_)
 ·
  have d1 : wiH l w := by simpa [wiH] using c2
  have hwi := wi_yes d1
  refine W_seq_seq ?_
  refine W_seq_regc (fun T H => T 4 = (V.ms 3 v3 0 (l.length)) ∧ (∀ j, j ∉ [544, 3] → H j = Hi j) ∧ H 3 = (⟨v3, true, true, 38, 1, (List.map cL (l))⟩ : Blk) ∧ (H 544).ver = v44 ∧ True) ?_ ?_
  ·
   unfold r77_3
   refine R_mv t0 ?_
   refine R_mv (@rfl V (V.ms 3 v3 0 (l.length))) ?_
   exact R_nil ⟨rfl, hF, h3, h544, trivial⟩
  intro T H ⟨t4, hF, h3, h544, _⟩
  refine W_seq_ret ?_
  skip
  have fh := FinX.fin (FinX.put (B := (⟨v3 + 1, true, true, 38, 1, (List.map cL (wiW l w))⟩ : Blk)) (FinX.putv (n := v44) (B := (⟨v44 + 2, false, false, 0, 0, []⟩ : Blk)) (FinX.start hF) h544 (by show _ ≤ v44 + 2; omega) rfl) h3 (FinB.up (by omega) (by first | rfl | (rw [hwi]; done) | (rw [mv_top]; done) | (rw [show (((j : Nat) : Int) - (1 : Int)).toNat = j - 1 by omega, mv_step (by omega) hj]; done) | (rw [show j = plN l w by omega, mv_end q0, hwi]; rfl) | simp)))
  exact RetF_1 t4 fh (FinV.trans_eq (FinV.ms (n := (v3 + 1)) fh (by simp [h3]) (by simp [h3]) rfl rfl) (by first | rfl | (rw [hwi]; done) | (congr 1; omega) | (rw [hwi]; simp; omega) | (exact congrArg (V.int .i64) (by omega)) | simp))
 have d1 : ¬wiH l w := fun q => by have q := wi_ok.1 q; simp [q] at c2
 have hwi := wi_no d1
 refine W_seq_skip ?_
 refine W_seq_g (fun T H => T 0 = (V.ms 3 (v3 + 1) 0 (l.length + 1)) ∧ T 1 = (V.sl (List.map cI (w))) ∧ T 5 = (iV ((plN l w : Nat) : Int)) ∧ (∀ j, j ∉ [544, 3] → H j = Hi j) ∧ H 3 = (⟨v3 + 1, true, true, 38, 1, (List.map cL (l) ++ List.replicate (1) [V.nilsl])⟩ : Blk) ∧ (H 544).ver = v44 ∧ True) ?_ ?_
 ·
  unfold r77_4
  refine R_mv t0 ?_
  refine R_bslice (qs := [(0, V.nilsl)]) (rows := [[V.nilsl]]) (mcons (congrArg (fun v => (0, v)) (@rfl V V.nilsl)) rfl) rfl ?_
  refine R_appendZ (l := l) (f := cL) (z := [.nilsl]) (@rfl V (V.ms 3 v3 0 (l.length))) h3 (by first | rfl | simp | omega) (@rfl V (V.sl [[V.nilsl]])) rfl rfl (by omega) (by omega) ?_
  refine R_mv (@rfl V (V.ms 3 (v3 + 1) 0 (l.length + 1))) ?_
  exact R_nil ⟨rfl, t1, t5, (upd_out hF (by decide)), rfl, h544, trivial⟩
 intro T H ⟨t0, t1, t5, hF, h3, h544, _⟩
 refine nil_cell (x := []) (f := cL) (l := l) h3 rfl (.done ?_)
 refine W_seq_seq ?_
 refine W_seq_regc (fun T H => T 0 = (V.ms 3 (v3 + 1) 0 (l.length + 1)) ∧ T 1 = (V.sl (List.map cI (w))) ∧ T 5 = (iV ((plN l w : Nat) : Int)) ∧ T 6 = (iV (((l.length + 1 : Nat) : Int) - (1 : Int))) ∧ (∀ j, j ∉ [544, 3] → H j = Hi j) ∧ H 3 = (⟨v3 + 1, true, true, 38, 1, (List.map cL (l ++ [[]]))⟩ : Blk) ∧ (H 544).ver = v44 ∧ True) ?_ ?_
 ·
  unfold r77_5
  refine R_mv t0 ?_
  refine R_len_ms (@rfl V (V.ms 3 (v3 + 1) 0 (l.length + 1))) (@rfl Blk (⟨v3 + 1, true, true, 38, 1, (List.map cL (l ++ [[]]))⟩ : Blk)) (by first | rfl | simp) ?_
  refine R_sub (x := ((l.length + 1 : Nat) : Int)) (y := (1 : Int)) (@rfl V (iV ((l.length + 1 : Nat) : Int))) (@rfl V (iV (1 : Int))) (by omega) (by omega) ?_
  refine R_mv (@rfl V (iV (((l.length + 1 : Nat) : Int) - (1 : Int)))) ?_
  exact R_nil ⟨t0, t1, t5, rfl, (upd_out hF (by decide)), rfl, ((congrArg Blk.ver (upd_ne _ _ (by decide))).trans h544), trivial⟩
 intro T H ⟨t0, t1, t5, t6, hF, h3, h544, _⟩
 refine W_seq_blockg fun Q3 n3 x3 y3 z3 => ?_
 refine W_loop (fun mm T H => ∃ (j : Nat), mm = j ∧ T 0 = (V.ms 3 (v3 + 1) 0 (l.length + 1)) ∧ T 1 = (V.sl (List.map cI (w))) ∧ T 5 = (iV ((plN l w : Nat) : Int)) ∧ T 6 = (iV ((j : Nat) : Int)) ∧ (∀ j, j ∉ [544, 3] → H j = Hi j) ∧ H 3 = (⟨v3 + 1, true, true, 38, 1, (List.map cL (mvL l j))⟩ : Blk) ∧ (H 544).ver = v44 ∧ (j ≤ l.length) ∧ (plN l w ≤ j)) ?_ ?_
 ·
  refine ⟨_, l.length, rfl, t0, t1, t5, (Eq.trans t6 (by first | rfl | (rw [hwi]; done) | (congr 1; omega) | (rw [hwi]; simp; omega) | (exact congrArg (V.int .i64) (by omega)) | simp)), hF, (Eq.trans h3 (by first | rfl | (rw [hwi]; done) | (rw [mv_top]; done) | (rw [show (((j : Nat) : Int) - (1 : Int)).toNat = j - 1 by omega, mv_step (by omega) hj]; done) | (rw [show j = plN l w by omega, mv_end q0, hwi]; rfl) | simp)), h544, ?_, ?_⟩
  · omega
  · omega
 intro mm T H ⟨j, hmm, t0, t1, t5, t6, hF, h3, h544, hj, hp⟩ Q4 p14 p24 p34
 unfold b77_0
 have q1 := mv_len hj
 refine W_seq_seq ?_
 refine W_seq_regc (fun T H => T 0 = (V.ms 3 (v3 + 1) 0 (l.length + 1)) ∧ T 1 = (V.sl (List.map cI (w))) ∧ T 5 = (iV ((plN l w : Nat) : Int)) ∧ T 6 = (iV ((j : Nat) : Int)) ∧ T 31 = (V.bool (decide (((plN l w : Nat) : Int) < ((j : Nat) : Int)))) ∧ (∀ j, j ∉ [544, 3] → H j = Hi j) ∧ H 3 = (⟨v3 + 1, true, true, 38, 1, (List.map cL (mvL l j))⟩ : Blk) ∧ (H 544).ver = v44 ∧ True) ?_ ?_
 ·
  unfold r77_6
  refine R_mv t6 ?_
  refine R_mv t5 ?_
  refine R_gtr (x := ((j : Nat) : Int)) (y := ((plN l w : Nat) : Int)) (@rfl V (iV ((j : Nat) : Int))) (@rfl V (iV ((plN l w : Nat) : Int))) ?_
  exact R_nil ⟨t0, t1, t5, t6, rfl, hF, h3, h544, trivial⟩
 intro T H ⟨t0, t1, t5, t6, t31, hF, h3, h544, _⟩
 refine W_seq_if (p := ((plN l w : Nat) : Int) < ((j : Nat) : Int)) t31 (fun c5 => ?_) (fun c5 => ?_)
 ·
  refine W_seq_skip ?_
  refine W_seq_blockg fun Q6 n6 x6 y6 z6 => ?_
  refine W_regc (fun T H => T 0 = (V.ms 3 (v3 + 1) 0 (l.length + 1)) ∧ T 1 = (V.sl (List.map cI (w))) ∧ T 5 = (iV ((plN l w : Nat) : Int)) ∧ T 6 = (iV ((j : Nat) : Int)) ∧ (∀ j, j ∉ [544, 3] → H j = Hi j) ∧ H 3 = (⟨v3 + 1, true, true, 38, 1, (List.map cL ((mvL l j).set j ((nth (mvL l j) (((((j : Nat) : Int) - (1 : Int))).toNat)))))⟩ : Blk) ∧ (H 544).ver = v44 ∧ True) ?_ ?_
  ·
   unfold r77_8
   refine R_mv t0 ?_
   refine R_mv t6 ?_
   refine R_mv t0 ?_
   refine R_mv t6 ?_
   refine R_sub (x := ((j : Nat) : Int)) (y := (1 : Int)) (@rfl V (iV ((j : Nat) : Int))) (@rfl V (iV (1 : Int))) (by omega) (by omega) ?_
   refine R_idxI_ms0 (i := (((j : Nat) : Int) - (1 : Int))) (@rfl V (V.ms 3 (v3 + 1) 0 (l.length + 1))) (@rfl V (iV (((j : Nat) : Int) - (1 : Int)))) h3 (okB_map (by omega)) rfl (by omega) (by omega) ?_
   refine R_load_mp (v := (V.sl (List.map cI ((nth (mvL l j) (((((j : Nat) : Int) - (1 : Int))).toNat)))))) (@rfl V (V.mp 3 (v3 + 1) (((((j : Nat) : Int) - (1 : Int))).toNat) 0)) h3 (ldB_map (by omega) (by first | rfl | simp [ldV, V.one])) ?_
   refine R_idx_ms0 (i := j) (@rfl V (V.ms 3 (v3 + 1) 0 (l.length + 1))) (@rfl V (iV ((j : Nat) : Int))) h3 (okB_map (by omega)) rfl (by omega) ?_
   refine R_store (vs := [(V.sl (List.map cI ((nth (mvL l j) (((((j : Nat) : Int) - (1 : Int))).toNat)))))]) (B' := (⟨v3 + 1, true, true, 38, 1, (List.map cL ((mvL l j).set j ((nth (mvL l j) (((((j : Nat) : Int) - (1 : Int))).toNat)))))⟩ : Blk)) (@rfl V (V.mp 3 (v3 + 1) j 0)) (@rfl V (V.sl (List.map cI ((nth (mvL l j) (((((j : Nat) : Int) - (1 : Int))).toNat)))))) rfl h3 (stB_map (x := ((nth (mvL l j) (((((j : Nat) : Int) - (1 : Int))).toNat)))) (i := j) (by omega) rfl rfl rfl rfl) ?_
   exact R_nil ⟨t0, t1, t5, t6, (upd_out hF (by decide)), rfl, h544, trivial⟩
  intro T H ⟨t0, t1, t5, t6, hF, h3, h544, _⟩
  refine n6 _ _ ?_
  refine .done ?_
  refine W_regc (fun T H => T 0 = (V.ms 3 (v3 + 1) 0 (l.length + 1)) ∧ T 1 = (V.sl (List.map cI (w))) ∧ T 5 = (iV ((plN l w : Nat) : Int)) ∧ T 6 = (iV (((j : Nat) : Int) - (1 : Int))) ∧ (∀ j, j ∉ [544, 3] → H j = Hi j) ∧ H 3 = (⟨v3 + 1, true, true, 38, 1, (List.map cL ((mvL l j).set j ((nth (mvL l j) (((((j : Nat) : Int) - (1 : Int))).toNat)))))⟩ : Blk) ∧ (H 544).ver = v44 ∧ True) ?_ ?_
  ·
   unfold r77_7
   refine R_mv t6 ?_
   refine R_sub (x := ((j : Nat) : Int)) (y := (1 : Int)) (@rfl V (iV ((j : Nat) : Int))) (@rfl V (iV (1 : Int))) (by omega) (by omega) ?_
   refine R_mv (@rfl V (iV (((j : Nat) : Int) - (1 : Int)))) ?_
   exact R_nil ⟨t0, t1, t5, rfl, hF, h3, h544, trivial⟩
  intro T H ⟨t0, t1, t5, t6, hF, h3, h544, _⟩
  refine p14 _ _ _ ?_ ⟨(j - 1), rfl, t0, t1, t5, (Eq.trans t6 (by first | rfl | (rw [hwi]; done) | (congr 1; omega) | (rw [hwi]; simp; omega) | (exact congrArg (V.int .i64) (by omega)) | simp)), hF, (Eq.trans h3 (by first | rfl | (rw [hwi]; done) | (rw [mv_top]; done) | (rw [show (((j : Nat) : Int) - (1 : Int)).toNat = j - 1 by omega, mv_step (by omega) hj]; done) | (rw [show j = plN l w by omega, mv_end q0, hwi]; rfl) | simp)), h544, ?_, ?_⟩
  · omega
  · omega
  · omega
 refine W_seq_exit ?_
 refine p34 _ _ _ ?_
 refine x3 _ _ ?_
 refine .done ?_
 refine W_seq_g (fun T H => T 0 = (V.ms 3 (v3 + 1) 0 (l.length + 1)) ∧ (∀ j, j ∉ [544, 3] → H j = Hi j) ∧ H 3 = (⟨v3 + 1, true, true, 38, 1, ((List.map cL (mvL l j)).set (plN l w) [(V.ms 544 (v44 + 2) 0 (0 + (w).length))])⟩ : Blk) ∧ H 544 = (⟨v44 + 2, true, true, 3, 1, (List.map cI ([] ++ w))⟩ : Blk) ∧ True) ?_ ?_
 ·
  unfold r77_9
  refine R_mv t0 ?_
  refine R_mv t5 ?_
  refine R_lazy (i := 544) (n := v44) (by rfl) h544 ?_
  refine R_mv t1 ?_
  refine R_appendS (l := ([])) (m := w) (f := cI) (@rfl V (V.ms 544 (v44 + 1) 0 (0))) (show _ = (⟨v44 + 1, true, true, 3, 1, (List.map cI ([]))⟩ : Blk) from (@rfl Blk (⟨v44 + 1, true, true, 3, 1, []⟩ : Blk))) (by first | rfl | simp | omega) (@rfl V (V.sl (List.map cI (w)))) (fun _ => rfl) (fun _ => rfl) (by omega) (by omega) ?_
  refine R_idx_ms0 (i := (plN l w)) (@rfl V (V.ms 3 (v3 + 1) 0 (l.length + 1))) (@rfl V (iV ((plN l w : Nat) : Int))) h3 (okB_map (by omega)) rfl (by omega) ?_
  refine R_store (vs := [(V.ms 544 (v44 + 2) 0 (0 + (w).length))]) (B' := (⟨v3 + 1, true, true, 38, 1, ((List.map cL (mvL l j)).set (plN l w) [(V.ms 544 (v44 + 2) 0 (0 + (w).length))])⟩ : Blk)) (@rfl V (V.mp 3 (v3 + 1) (plN l w) 0)) (@rfl V (V.ms 544 (v44 + 2) 0 (0 + (w).length))) rfl h3 (stB_setc (i := (plN l w)) (by omega) rfl rfl rfl) ?_
  exact R_nil ⟨t0, (upd_out (upd_out (upd_out hF (by decide)) (by decide)) (by decide)), rfl, rfl, trivial⟩
 intro T H ⟨t0, hF, h3, h544, _⟩
 refine frz_cellg (id := 544) (id2 := 3) (rows := (List.map cL (mvL l j))) (i := (plN l w)) (off := 0) (r := [(V.ms 544 (v44 + 2) 0 (0 + (w).length))]) (m := ([] ++ w)) (g := cI) (by decide) h544 h3 (by first | omega | (simp; omega) | (simp; done)) (by first | rfl | simp | omega) rfl (.done ?_)
 refine fork_ (R := fun T H => T 0 = (V.ms 3 (v3 + 1) 0 (l.length + 1)) ∧ (∀ j, j ∉ [544, 3] → H j = Hi j) ∧ H 3 = (⟨v3 + 1, true, true, 38, 1, (List.map cL ((mvL l j).set (plN l w) ([] ++ w)))⟩ : Blk) ∧ ((H 544).ver = v44 + 2 ∧ (H 544).live = false) ∧ True) ⟨(fzT_q t0 (fzq_other (by decide))), (upd_out (kill_out hF (by decide)) (by decide)), (Eq.trans (upd_same _ _ _) (by first | (rw [List.map_set]; done) | (rw [List.map_set]; rfl))), ⟨(congrArg Blk.ver (upd_ne _ _ (by decide))).trans (kill_self (congrArg Blk.ver h544)).1, (congrArg Blk.live (upd_ne _ _ (by decide))).trans (kill_self (congrArg Blk.ver h544)).2⟩, trivial⟩ ?_
 clear t0 hF h3 h544 T H
 intro T H ⟨t0, hF, h3, h544, _⟩
 refine W_seq_regc (fun T H => T 4 = (V.ms 3 (v3 + 1) 0 (l.length + 1)) ∧ (∀ j, j ∉ [544, 3] → H j = Hi j) ∧ H 3 = (⟨v3 + 1, true, true, 38, 1, (List.map cL ((mvL l j).set (plN l w) ([] ++ w)))⟩ : Blk) ∧ ((H 544).ver = v44 + 2 ∧ (H 544).live = false) ∧ True) ?_ ?_
 ·
  unfold r77_10
  refine R_mv t0 ?_
  refine R_mv (@rfl V (V.ms 3 (v3 + 1) 0 (l.length + 1))) ?_
  exact R_nil ⟨rfl, hF, h3, h544, trivial⟩
 intro T H ⟨t4, hF, h3, h544, _⟩
 refine W_ret ?_
 skip
 have fh := FinX.fin (FinX.put (B := (⟨v3 + 1, true, true, 38, 1, (List.map cL (wiW l w))⟩ : Blk)) (FinX.putv (n := (v44 + 2)) (B := (⟨v44 + 2, false, false, 0, 0, []⟩ : Blk)) (FinX.start hF) (h544).1 (by show _ ≤ v44 + 2; omega) rfl) h3 (FinB.eq (by first | rfl | (rw [hwi]; done) | (rw [mv_top]; done) | (rw [show (((j : Nat) : Int) - (1 : Int)).toNat = j - 1 by omega, mv_step (by omega) hj]; done) | (rw [show j = plN l w by omega, mv_end q0, hwi]; rfl) | simp)))
 exact RetF_1 t4 fh (FinV.trans_eq (FinV.same fh _) (by first | rfl | (rw [hwi]; done) | (congr 1; omega) | (rw [hwi]; simp; omega) | (exact congrArg (V.int .i64) (by omega)) | simp))
end Go.Proofs.YtmnjchcoigbngaaGreat


namespace Go.Proofs.YtmnjchcoigbngaaGreat
open Go Go.Proofs
theorem rsorted_pure (l : List (List Int)) (hl : l.length ≤ 10000) (hw : ∀ w ∈ l, w.length ≤ 1048576) : PureC Tryz.prog 42 [(V.sl (List.map cL (l)))] (V.sl (List.map cL (sdW l))) := by
 refine pure_of_Wb true 6 Tryz.func42 s42_ok (by kernel_rfl) (by simp [s42]) (by simp) (by simp) fun hB => ?_
 simp only [bnd_map, bnd_int, bnd_bool, bnd_str, bnd_agg, bnd_pp, bnd_nil, bnd_cons, implies_true, and_true, true_and] at hB
 unfold s42
 dsimp only
 refine W_seq_regc (fun T H => T 0 = (V.sl (List.map cL (l))) ∧ H 3 = (⟨0, false, false, 0, 0, []⟩ : Blk) ∧ H 544 = (⟨0, false, false, 0, 0, []⟩ : Blk) ∧ True) ?_ ?_
 ·
  unfold r42_0
  refine R_mv (@rfl V V.nilsl) ?_
  exact R_nil ⟨rfl, rfl, rfl, trivial⟩
 intro T H ⟨t0, h3, h544, _⟩
 refine W_seq_regc (fun T H => T 0 = (V.sl (List.map cL (l))) ∧ T 3 = (V.ms 3 1 0 (0)) ∧ H 3 = (⟨1, true, true, 38, 1, []⟩ : Blk) ∧ H 544 = (⟨0, false, false, 0, 0, []⟩ : Blk) ∧ True) ?_ ?_
 ·
  unfold r42_1
  refine R_lazy (i := 3) (n := 0) rfl (congrArg Blk.ver h3) ?_
  exact R_nil ⟨t0, rfl, rfl, h544, trivial⟩
 intro T H ⟨t0, t3, h3, h544, _⟩
 refine W_seq_seq ?_
 refine W_seq_regc (fun T H => T 0 = (V.sl (List.map cL (l))) ∧ T 3 = (V.ms 3 1 0 (0)) ∧ T 4 = (iV (0 : Int)) ∧ H 3 = (⟨1, true, true, 38, 1, []⟩ : Blk) ∧ H 544 = (⟨0, false, false, 0, 0, []⟩ : Blk) ∧ True) ?_ ?_
 ·
  unfold r42_2
  refine R_mv (@rfl V (iV (0 : Int))) ?_
  exact R_nil ⟨t0, t3, rfl, h3, h544, trivial⟩
 intro T H ⟨t0, t3, t4, h3, h544, _⟩
 refine W_seq_blockg fun Q1 n1 x1 y1 z1 => ?_
 refine W_loop (fun mm T H => ∃ (k : Nat) (v : Nat) (v544 : Nat), mm = l.length - k ∧ T 0 = (V.sl (List.map cL (l))) ∧ T 3 = (V.ms 3 v 0 ((sdW (l.take k)).length)) ∧ T 4 = (iV ((k : Nat) : Int)) ∧ H 3 = (⟨v, true, true, 38, 1, (List.map cL (sdW (l.take k)))⟩ : Blk) ∧ (H 544).ver = v544 ∧ (k ≤ l.length)) ?_ ?_
 ·
  refine ⟨_, 0, 1, 0, rfl, t0, (Eq.trans t3 (by first | rfl | (rw [sdW_take (by omega)]; done))), (Eq.trans t4 (by first | rfl | (rw [sdW_take (by omega)]; done))), (Eq.trans h3 (by first | rfl | (rw [sdW_take (by omega)]; done))), (congrArg Blk.ver h544), ?_⟩
  · omega
 intro mm T H ⟨k, v, v544, hmm, t0, t3, t4, h3, h544, hk⟩ Q2 p12 p22 p32
 unfold b42_0
 have q1 := sdW_len (l.take k)
 have q2 : (l.take k).length ≤ k := by simp; omega
 refine W_seq_seq ?_
 refine W_seq_regc (fun T H => T 0 = (V.sl (List.map cL (l))) ∧ T 3 = (V.ms 3 v 0 ((sdW (l.take k)).length)) ∧ T 4 = (iV ((k : Nat) : Int)) ∧ T 8 = (V.bool (decide (((k : Nat) : Int) < ((l.length : Nat) : Int)))) ∧ H 3 = (⟨v, true, true, 38, 1, (List.map cL (sdW (l.take k)))⟩ : Blk) ∧ (H 544).ver = v544 ∧ True) ?_ ?_
 ·
  unfold r42_3
  refine R_mv t4 ?_
  refine R_mv t0 ?_
  refine R_len (@rfl V (V.sl (List.map cL (l)))) ?_
  refine R_lss (x := ((k : Nat) : Int)) (y := ((l.length : Nat) : Int)) (@rfl V (iV ((k : Nat) : Int))) (@rfl V (iV ((l.length : Nat) : Int))) ?_
  exact R_nil ⟨t0, t3, t4, rfl, h3, h544, trivial⟩
 intro T H ⟨t0, t3, t4, t8, h3, h544, _⟩
 refine W_seq_if (p := ((k : Nat) : Int) < ((l.length : Nat) : Int)) t8 (fun c3 => ?_) (fun c3 => ?_)
 ·
  refine W_seq_skip ?_
  refine W_seq_blockg fun Q4 n4 x4 y4 z4 => ?_
  refine W_regc (fun T H => T 0 = (V.sl (List.map cL (l))) ∧ T 3 = (V.ms 3 (v + 1) 0 ((wiW (sdW (l.take k)) ((nth (l) (k)))).length)) ∧ T 4 = (iV ((k : Nat) : Int)) ∧ H 3 = (⟨v + 1, true, true, 38, 1, (List.map cL (wiW (sdW (l.take k)) ((nth (l) (k)))))⟩ : Blk) ∧ H 544 = (⟨v544 + 2, false, false, 0, 0, []⟩ : Blk) ∧ True) ?_ ?_
  ·
   unfold r42_5
   refine R_mv t3 ?_
   refine R_mv t0 ?_
   refine R_mv t4 ?_
   refine R_idx (i := k) (@rfl V (V.sl (List.map cL (l)))) (@rfl V (iV ((k : Nat) : Int))) (by omega) rfl ?_
   refine R_load_pp (v := (V.sl (List.map cI ((nth (l) (k)))))) (@rfl V (V.pp [(V.sl (List.map cI ((nth (l) (k)))))])) (by first | rfl | simp [ldV]) ?_
   refine R_callE (evcons (@rfl V (V.ms 3 v 0 ((sdW (l.take k)).length))) (evcons (@rfl V (V.sl (List.map cI ((nth (l) (k)))))) evnil)) (with_E (sdW (l.take k)) ((nth (l) (k))) v v544 _ h3 h544 (sdW_srt _) (by omega) (hw _ (nth_mem (by omega)))) ?_
   refine R_mv (@rfl V (V.ms 3 (v + 1) 0 ((wiW (sdW (l.take k)) ((nth (l) (k)))).length))) ?_
   exact R_nil ⟨t0, rfl, t4, rfl, rfl, trivial⟩
  intro T H ⟨t0, t3, t4, h3, h544, _⟩
  refine n4 _ _ ?_
  refine .done ?_
  refine W_regc (fun T H => T 0 = (V.sl (List.map cL (l))) ∧ T 3 = (V.ms 3 (v + 1) 0 ((wiW (sdW (l.take k)) ((nth (l) (k)))).length)) ∧ T 4 = (iV ((k + 1 : Nat) : Int)) ∧ H 3 = (⟨v + 1, true, true, 38, 1, (List.map cL (wiW (sdW (l.take k)) ((nth (l) (k)))))⟩ : Blk) ∧ H 544 = (⟨v544 + 2, false, false, 0, 0, []⟩ : Blk) ∧ True) ?_ ?_
  ·
   unfold r42_4
   refine R_mv t4 ?_
   refine R_addN (m := k) (n := 1) (@rfl V (iV ((k : Nat) : Int))) (@rfl V (iV ((1 : Nat) : Int))) (by omega) ?_
   refine R_mv (@rfl V (iV ((k + 1 : Nat) : Int))) ?_
   exact R_nil ⟨t0, t3, rfl, h3, h544, trivial⟩
  intro T H ⟨t0, t3, t4, h3, h544, _⟩
  refine p12 _ _ _ ?_ ⟨(k + 1), (v + 1), (v544 + 2), rfl, t0, (Eq.trans t3 (by first | rfl | (rw [sdW_take (by omega)]; done))), (Eq.trans t4 (by first | rfl | (rw [sdW_take (by omega)]; done))), (Eq.trans h3 (by first | rfl | (rw [sdW_take (by omega)]; done))), (congrArg Blk.ver h544), ?_⟩
  · omega
  · omega
 refine W_seq_exit ?_
 refine p32 _ _ _ ?_
 refine x1 _ _ ?_
 refine .done ?_
 refine W_seq_regc (fun T H => T 2 = (V.ms 3 v 0 ((sdW (l.take k)).length)) ∧ H 3 = (⟨v, true, true, 38, 1, (List.map cL (sdW (l.take k)))⟩ : Blk) ∧ (H 544).ver = v544 ∧ True) ?_ ?_
 ·
  unfold r42_6
  refine R_mv t3 ?_
  refine R_mv (@rfl V (V.ms 3 v 0 ((sdW (l.take k)).length))) ?_
  exact R_nil ⟨rfl, h3, h544, trivial⟩
 intro T H ⟨t2, h3, h544, _⟩
 refine W_ret ?_
 refine Ret_1 t2 (fz_ms h3 (by first | rfl | simp) (l := (sdW (l.take k))) rfl (by first | rfl | simp | omega) (fun _ => by simp) ?_)
 · rw [show k = l.length by omega, List.take_length]
end Go.Proofs.YtmnjchcoigbngaaGreat


namespace Go.Proofs.YtmnjchcoigbngaaGreat
open Go Go.Proofs
theorem rdvalid_pure (t : Dt) (hb : Bd t) : PureC Tryz.prog 12 [(V.agg [(V.sl (List.map cN (t.nd)))])] (iV (dvE t)) := by
 refine pure_of_Wb true 6 Tryz.func12 s12_ok (by kernel_rfl) (by simp [s12]) (by simp) (by simp) fun hB => ?_
 simp only [bnd_map, bnd_int, bnd_bool, bnd_str, bnd_agg, bnd_pp, bnd_nil, bnd_cons, implies_true, and_true, true_and] at hB
 unfold s12
 dsimp only
 refine W_seq_regc (fun T H => T 1 = (V.mp 1 1 0 0) ∧ H 1 = (⟨1, true, false, 24, 1, [[(V.sl (List.map cN (t.nd)))]]⟩ : Blk) ∧ True) ?_ ?_
 ·
  unfold r12_0
  refine R_box (i := 1) (n := 0) (m := 1) (cs := [(V.sl (List.map cN (t.nd)))]) rfl (congrArg Blk.ver rfl) (@rfl V (V.agg [(V.sl (List.map cN (t.nd)))])) rfl rfl ?_
  refine R_mv (@rfl V (iV (0 : Int))) ?_
  exact R_nil ⟨rfl, rfl, trivial⟩
 intro T H ⟨t1, h1, _⟩
 refine W_seq_seq ?_
 refine W_seq_regc (fun T H => T 1 = (V.mp 1 1 0 0) ∧ T 9 = (V.bool (decide (((t.nd.length : Nat) : Int) = (0 : Int)))) ∧ H 1 = (⟨1, true, false, 24, 1, [[(V.sl (List.map cN (t.nd)))]]⟩ : Blk) ∧ True) ?_ ?_
 ·
  unfold r12_1
  refine R_fld_mp (o' := 0) t1 h1 (by first | rfl | simp [okB, Blk.own]) rfl ?_
  refine R_load_mp (v := (V.sl (List.map cN (t.nd)))) (@rfl V (V.mp 1 1 0 0)) h1 (by first | rfl | simp [ldB, ldV, Blk.own, V.one]) ?_
  refine R_len (@rfl V (V.sl (List.map cN (t.nd)))) ?_
  refine R_eql (x := ((t.nd.length : Nat) : Int)) (y := (0 : Int)) (@rfl V (iV ((t.nd.length : Nat) : Int))) (@rfl V (iV (0 : Int))) ?_
  exact R_nil ⟨t1, rfl, h1, trivial⟩
 intro T H ⟨t1, t9, h1, _⟩
 refine W_seq_if (p := ((t.nd.length : Nat) : Int) = (0 : Int)) t9 (fun c1 => ?_) (fun c1 => ?_)
 ·
  refine W_seq_seq ?_
  refine W_seq_regc (fun T H => T 2 = (iV (19 : Int)) ∧ H 1 = (⟨1, true, false, 24, 1, [[(V.sl (List.map cN (t.nd)))]]⟩ : Blk) ∧ True) ?_ ?_
  ·
   unfold r12_2
   refine R_mv (@rfl V (iV (19 : Int))) ?_
   exact R_nil ⟨rfl, h1, trivial⟩
  intro T H ⟨t2, h1, _⟩
  refine W_seq_ret ?_
  refine Ret_1 t2 (fz_int ?_)
  · rw [dvE, if_pos (by omega)]
 refine W_seq_skip ?_
 refine W_seq_seq ?_
 refine W_seq_regc (fun T H => T 1 = (V.mp 1 1 0 0) ∧ T 13 = (V.bool (decide ((4096 : Int) < ((t.nd.length : Nat) : Int)))) ∧ H 1 = (⟨1, true, false, 24, 1, [[(V.sl (List.map cN (t.nd)))]]⟩ : Blk) ∧ True) ?_ ?_
 ·
  unfold r12_3
  refine R_fld_mp (o' := 0) t1 h1 (by first | rfl | simp [okB, Blk.own]) rfl ?_
  refine R_load_mp (v := (V.sl (List.map cN (t.nd)))) (@rfl V (V.mp 1 1 0 0)) h1 (by first | rfl | simp [ldB, ldV, Blk.own, V.one]) ?_
  refine R_len (@rfl V (V.sl (List.map cN (t.nd)))) ?_
  refine R_gtr (x := ((t.nd.length : Nat) : Int)) (y := (4096 : Int)) (@rfl V (iV ((t.nd.length : Nat) : Int))) (@rfl V (iV (4096 : Int))) ?_
  exact R_nil ⟨t1, rfl, h1, trivial⟩
 intro T H ⟨t1, t13, h1, _⟩
 refine W_seq_if (p := (4096 : Int) < ((t.nd.length : Nat) : Int)) t13 (fun c2 => ?_) (fun c2 => ?_)
 ·
  refine W_seq_seq ?_
  refine W_seq_regc (fun T H => T 2 = (iV (11 : Int)) ∧ H 1 = (⟨1, true, false, 24, 1, [[(V.sl (List.map cN (t.nd)))]]⟩ : Blk) ∧ True) ?_ ?_
  ·
   unfold r12_4
   refine R_mv (@rfl V (iV (11 : Int))) ?_
   exact R_nil ⟨rfl, h1, trivial⟩
  intro T H ⟨t2, h1, _⟩
  refine W_seq_ret ?_
  refine Ret_1 t2 (fz_int ?_)
  · rw [dvE, if_neg (by omega), if_pos (by omega)]
 refine W_seq_skip ?_
 refine W_seq_seq ?_
 refine W_seq_regc (fun T H => T 1 = (V.mp 1 1 0 0) ∧ T 3 = (iV (0 : Int)) ∧ H 1 = (⟨1, true, false, 24, 1, [[(V.sl (List.map cN (t.nd)))]]⟩ : Blk) ∧ True) ?_ ?_
 ·
  unfold r12_5
  refine R_mv (@rfl V (iV (0 : Int))) ?_
  exact R_nil ⟨t1, rfl, h1, trivial⟩
 intro T H ⟨t1, t3, h1, _⟩
 refine W_seq_blockg fun Q3 n3 x3 y3 z3 => ?_
 refine W_loop (fun mm T H => ∃ (k : Nat), mm = t.nd.length - k ∧ T 1 = (V.mp 1 1 0 0) ∧ T 3 = (iV ((k : Nat) : Int)) ∧ H 1 = (⟨1, true, false, 24, 1, [[(V.sl (List.map cN (t.nd)))]]⟩ : Blk) ∧ (k ≤ t.nd.length) ∧ (0 < t.nd.length) ∧ (t.nd.length ≤ 4096) ∧ (∀ j, j < k → ndE (nth t.nd j) t.nd.length = 0) ∧ (fe (fun k => ndE (nth t.nd k) t.nd.length) 0 t.nd.length = fe (fun k => ndE (nth t.nd k) t.nd.length) k (t.nd.length - k))) ?_ ?_
 ·
  refine ⟨_, 0, rfl, t1, (Eq.trans t3 (by first | rfl | simp)), h1, ?_, ?_, ?_, ?_, ?_⟩
  · omega
  · omega
  · omega
  · intro j hj; omega
  · rfl
 intro mm T H ⟨k, hmm, t1, t3, h1, hk, g0, g1, hp, hc⟩ Q4 p14 p24 p34
 unfold b12_0
 refine W_seq_seq ?_
 refine W_seq_regc (fun T H => T 1 = (V.mp 1 1 0 0) ∧ T 3 = (iV ((k : Nat) : Int)) ∧ T 18 = (V.bool (decide (((k : Nat) : Int) < ((t.nd.length : Nat) : Int)))) ∧ H 1 = (⟨1, true, false, 24, 1, [[(V.sl (List.map cN (t.nd)))]]⟩ : Blk) ∧ True) ?_ ?_
 ·
  unfold r12_6
  refine R_mv t3 ?_
  refine R_fld_mp (o' := 0) t1 h1 (by first | rfl | simp [okB, Blk.own]) rfl ?_
  refine R_load_mp (v := (V.sl (List.map cN (t.nd)))) (@rfl V (V.mp 1 1 0 0)) h1 (by first | rfl | simp [ldB, ldV, Blk.own, V.one]) ?_
  refine R_len (@rfl V (V.sl (List.map cN (t.nd)))) ?_
  refine R_lss (x := ((k : Nat) : Int)) (y := ((t.nd.length : Nat) : Int)) (@rfl V (iV ((k : Nat) : Int))) (@rfl V (iV ((t.nd.length : Nat) : Int))) ?_
  exact R_nil ⟨t1, t3, rfl, h1, trivial⟩
 intro T H ⟨t1, t3, t18, h1, _⟩
 refine W_seq_if (p := ((k : Nat) : Int) < ((t.nd.length : Nat) : Int)) t18 (fun c5 => ?_) (fun c5 => ?_)
 ·
  have r2 := hb.ou k (by omega)
  have r3 := hb.kd k (by omega)
  refine W_seq_skip ?_
  refine W_seq_blockg fun Q6 n6 x6 y6 z6 => ?_
  refine W_seq_regc (fun T H => T 1 = (V.mp 1 1 0 0) ∧ T 3 = (iV ((k : Nat) : Int)) ∧ T 4 = (iV (ndE (((nth (t.nd) (k)))) t.nd.length)) ∧ H 1 = (⟨1, true, false, 24, 1, [[(V.sl (List.map cN (t.nd)))]]⟩ : Blk) ∧ True) ?_ ?_
  ·
   unfold r12_8
   refine R_load_mp (v := (V.agg [(V.sl (List.map cN (t.nd)))])) t1 h1 (by first | rfl | simp [ldB, ldV, Blk.own, V.one]) ?_
   refine R_fld_mp (o' := 0) t1 h1 (by first | rfl | simp [okB, Blk.own]) rfl ?_
   refine R_load_mp (v := (V.sl (List.map cN (t.nd)))) (@rfl V (V.mp 1 1 0 0)) h1 (by first | rfl | simp [ldB, ldV, Blk.own, V.one]) ?_
   refine R_mv t3 ?_
   refine R_idx (i := k) (@rfl V (V.sl (List.map cN (t.nd)))) (@rfl V (iV ((k : Nat) : Int))) (by omega) rfl ?_
   refine R_load_pp (v := (V.agg [(V.bool (((nth (t.nd) (k))).lf)), (V.sl (List.map cI (((nth (t.nd) (k))).ac))), (V.sl (List.map cI (((nth (t.nd) (k))).sf))), (V.sl (List.map cL (((nth (t.nd) (k))).ou))), (V.sl (List.map cI (((nth (t.nd) (k))).kd)))])) (@rfl V (V.pp [(V.bool (((nth (t.nd) (k))).lf)), (V.sl (List.map cI (((nth (t.nd) (k))).ac))), (V.sl (List.map cI (((nth (t.nd) (k))).sf))), (V.sl (List.map cL (((nth (t.nd) (k))).ou))), (V.sl (List.map cI (((nth (t.nd) (k))).kd)))])) (by first | rfl | simp [ldV]) ?_
   refine R_call (evcons (@rfl V (V.agg [(V.sl (List.map cN (t.nd)))])) (evcons (@rfl V (V.agg [(V.bool (((nth (t.nd) (k))).lf)), (V.sl (List.map cI (((nth (t.nd) (k))).ac))), (V.sl (List.map cI (((nth (t.nd) (k))).sf))), (V.sl (List.map cL (((nth (t.nd) (k))).ou))), (V.sl (List.map cI (((nth (t.nd) (k))).kd)))])) evnil)) (rnode_pure t (((nth (t.nd) (k)))) (by first | omega | assumption) (by first | omega | assumption)) (fzv_mapcanon _ _ (by simp [-List.map_take, -List.map_drop, -List.map_append, -List.map_reverse])) (by simp [-List.map_take, -List.map_drop, -List.map_append, -List.map_reverse]) (Or.inl (by simp [-List.map_take, -List.map_drop, -List.map_append, -List.map_reverse])) ?_
   refine R_mv (@rfl V (iV (ndE (((nth (t.nd) (k)))) t.nd.length))) ?_
   exact R_nil ⟨t1, t3, rfl, h1, trivial⟩
  intro T H ⟨t1, t3, t4, h1, _⟩
  refine W_seq_regc (fun T H => T 1 = (V.mp 1 1 0 0) ∧ T 3 = (iV ((k : Nat) : Int)) ∧ T 4 = (iV (ndE (((nth (t.nd) (k)))) t.nd.length)) ∧ T 29 = (V.bool (decide ((ndE (((nth (t.nd) (k)))) t.nd.length) ≠ (0 : Int)))) ∧ H 1 = (⟨1, true, false, 24, 1, [[(V.sl (List.map cN (t.nd)))]]⟩ : Blk) ∧ True) ?_ ?_
  ·
   unfold r12_9
   refine R_mv t4 ?_
   refine R_neq (x := (ndE (((nth (t.nd) (k)))) t.nd.length)) (y := (0 : Int)) (@rfl V (iV (ndE (((nth (t.nd) (k)))) t.nd.length))) (@rfl V (iV (0 : Int))) ?_
   exact R_nil ⟨t1, t3, t4, rfl, h1, trivial⟩
  intro T H ⟨t1, t3, t4, t29, h1, _⟩
  refine W_if (p := (ndE (((nth (t.nd) (k)))) t.nd.length) ≠ (0 : Int)) t29 (fun c7 => ?_) (fun c7 => ?_)
  ·
   have d1 : ndE (nth t.nd k) t.nd.length ≠ 0 := c7
   refine W_seq_regc (fun T H => T 2 = (iV (ndE (((nth (t.nd) (k)))) t.nd.length)) ∧ H 1 = (⟨1, true, false, 24, 1, [[(V.sl (List.map cN (t.nd)))]]⟩ : Blk) ∧ True) ?_ ?_
   ·
    unfold r12_10
    refine R_mv t4 ?_
    refine R_mv (@rfl V (iV (ndE (((nth (t.nd) (k)))) t.nd.length))) ?_
    exact R_nil ⟨rfl, h1, trivial⟩
   intro T H ⟨t2, h1, _⟩
   refine W_ret ?_
   refine y6 _ _ ?_
   refine p24 _ _ ?_
   refine y3 _ _ ?_
   refine Ret_1 t2 (fz_int ?_)
   · have e : fe (fun k => ndE (nth t.nd k) t.nd.length) 0 t.nd.length = ndE (nth t.nd k) t.nd.length := by rw [hc]; exact fe_hit (e := fun k => ndE (nth t.nd k) t.nd.length) d1 (by omega)
     rw [dvE, if_neg (by omega), if_neg (by omega), if_pos (by rw [e]; exact d1), e]
  have d1 : ndE (nth t.nd k) t.nd.length = 0 := by omega
  refine W_skip ?_
  refine n6 _ _ ?_
  refine .done ?_
  refine W_regc (fun T H => T 1 = (V.mp 1 1 0 0) ∧ T 3 = (iV ((k + 1 : Nat) : Int)) ∧ H 1 = (⟨1, true, false, 24, 1, [[(V.sl (List.map cN (t.nd)))]]⟩ : Blk) ∧ True) ?_ ?_
  ·
   unfold r12_7
   refine R_mv t3 ?_
   refine R_addN (m := k) (n := 1) (@rfl V (iV ((k : Nat) : Int))) (@rfl V (iV ((1 : Nat) : Int))) (by omega) ?_
   refine R_mv (@rfl V (iV ((k + 1 : Nat) : Int))) ?_
   exact R_nil ⟨t1, rfl, h1, trivial⟩
  intro T H ⟨t1, t3, h1, _⟩
  refine p14 _ _ _ ?_ ⟨(k + 1), rfl, t1, (Eq.trans t3 (by first | rfl | simp)), h1, ?_, ?_, ?_, ?_, ?_⟩
  · omega
  · omega
  · omega
  · omega
  · intro i hi
    by_cases e : i = k
    · subst e; exact d1
    · exact hp i (by omega)
  · rw [hc, fe_skip (e := fun k => ndE (nth t.nd k) t.nd.length) (by exact d1) (by omega)]
 have hall : ∀ j, j < t.nd.length → ndE (nth t.nd j) t.nd.length = 0 := fun j hj => hp j (by omega)
 have hki : KI t := nds_ki g0 hall
 have hz : fe (fun k => ndE (nth t.nd k) t.nd.length) 0 t.nd.length = 0 := by rw [hc, fe_end (by omega)]
 have haw : ∀ w ∈ acL t.nd, w.length ≤ 1048576 := ac_len hb
 have hal := acL_len t.nd
 refine W_seq_exit ?_
 refine p34 _ _ _ ?_
 refine x3 _ _ ?_
 refine .done ?_
 refine W_seq_seq ?_
 refine W_seq_regc (fun T H => T 1 = (V.mp 1 1 0 0) ∧ T 33 = (V.bool ((!whB t))) ∧ H 1 = (⟨1, true, false, 24, 1, [[(V.sl (List.map cN (t.nd)))]]⟩ : Blk) ∧ True) ?_ ?_
 ·
  unfold r12_11
  refine R_load_mp (v := (V.agg [(V.sl (List.map cN (t.nd)))])) t1 h1 (by first | rfl | simp [ldB, ldV, Blk.own, V.one]) ?_
  refine R_call (evcons (@rfl V (V.agg [(V.sl (List.map cN (t.nd)))])) evnil) (whole_pure t hki hb) (fzv_mapcanon _ _ (by simp [-List.map_take, -List.map_drop, -List.map_append, -List.map_reverse])) (by simp [-List.map_take, -List.map_drop, -List.map_append, -List.map_reverse]) (Or.inl (by simp [-List.map_take, -List.map_drop, -List.map_append, -List.map_reverse])) ?_
  refine R_notb (@rfl V (V.bool (whB t))) ?_
  exact R_nil ⟨t1, rfl, h1, trivial⟩
 intro T H ⟨t1, t33, h1, _⟩
 refine W_seq_ifb t33 (fun c8 => ?_) (fun c8 => ?_)
 ·
  have d3 : whB t = false := by simpa using c8
  refine W_seq_seq ?_
  refine W_seq_regc (fun T H => T 2 = (iV (1 : Int)) ∧ H 1 = (⟨1, true, false, 24, 1, [[(V.sl (List.map cN (t.nd)))]]⟩ : Blk) ∧ True) ?_ ?_
  ·
   unfold r12_12
   refine R_mv (@rfl V (iV (1 : Int))) ?_
   exact R_nil ⟨rfl, h1, trivial⟩
  intro T H ⟨t2, h1, _⟩
  refine W_seq_ret ?_
  refine Ret_1 t2 (fz_int ?_)
  · rw [dvE, if_neg (by omega), if_neg (by omega), if_neg (by rw [hz]; simp), if_pos d3]
 have d3 : whB t = true := by simpa using c8
 refine W_seq_skip ?_
 refine W_seq_regc (fun T H => T 5 = (V.sl (List.map cL (acL t.nd))) ∧ H 1 = (⟨1, true, false, 24, 1, [[(V.sl (List.map cN (t.nd)))]]⟩ : Blk) ∧ True) ?_ ?_
 ·
  unfold r12_13
  refine R_load_mp (v := (V.agg [(V.sl (List.map cN (t.nd)))])) t1 h1 (by first | rfl | simp [ldB, ldV, Blk.own, V.one]) ?_
  refine R_call (evcons (@rfl V (V.agg [(V.sl (List.map cN (t.nd)))])) evnil) (raccess_pure t hb) (fzv_mapcanon _ _ (by simp [-List.map_take, -List.map_drop, -List.map_append, -List.map_reverse])) (by simp [-List.map_take, -List.map_drop, -List.map_append, -List.map_reverse]) (Or.inl (by simp [-List.map_take, -List.map_drop, -List.map_append, -List.map_reverse])) ?_
  refine R_mv (@rfl V (V.sl (List.map cL (acL t.nd)))) ?_
  exact R_nil ⟨rfl, h1, trivial⟩
 intro T H ⟨t5, h1, _⟩
 refine W_seq_seq ?_
 refine W_seq_regc (fun T H => T 41 = (V.bool (decide ((((sdW (acL t.nd)).length : Nat) : Int) ≠ (((acL t.nd).length : Nat) : Int)))) ∧ H 1 = (⟨1, true, false, 24, 1, [[(V.sl (List.map cN (t.nd)))]]⟩ : Blk) ∧ True) ?_ ?_
 ·
  unfold r12_14
  refine R_mv t5 ?_
  refine R_call (evcons (@rfl V (V.sl (List.map cL (acL t.nd)))) evnil) (rsorted_pure (acL t.nd) (by first | omega | assumption) haw) (fzv_mapcanon _ _ (by simp [-List.map_take, -List.map_drop, -List.map_append, -List.map_reverse])) (by simp [-List.map_take, -List.map_drop, -List.map_append, -List.map_reverse]) (Or.inl (by simp [-List.map_take, -List.map_drop, -List.map_append, -List.map_reverse])) ?_
  refine R_len (@rfl V (V.sl (List.map cL (sdW (acL t.nd))))) ?_
  refine R_mv t5 ?_
  refine R_len (@rfl V (V.sl (List.map cL (acL t.nd)))) ?_
  refine R_neq (x := (((sdW (acL t.nd)).length : Nat) : Int)) (y := (((acL t.nd).length : Nat) : Int)) (@rfl V (iV (((sdW (acL t.nd)).length : Nat) : Int))) (@rfl V (iV (((acL t.nd).length : Nat) : Int))) ?_
  exact R_nil ⟨rfl, h1, trivial⟩
 intro T H ⟨t41, h1, _⟩
 refine W_seq_if (p := (((sdW (acL t.nd)).length : Nat) : Int) ≠ (((acL t.nd).length : Nat) : Int)) t41 (fun c9 => ?_) (fun c9 => ?_)
 ·
  refine W_seq_seq ?_
  refine W_seq_regc (fun T H => T 2 = (iV (7 : Int)) ∧ H 1 = (⟨1, true, false, 24, 1, [[(V.sl (List.map cN (t.nd)))]]⟩ : Blk) ∧ True) ?_ ?_
  ·
   unfold r12_15
   refine R_mv (@rfl V (iV (7 : Int))) ?_
   exact R_nil ⟨rfl, h1, trivial⟩
  intro T H ⟨t2, h1, _⟩
  refine W_seq_ret ?_
  refine Ret_1 t2 (fz_int ?_)
  · rw [dvE, if_neg (by omega), if_neg (by omega), if_neg (by rw [hz]; simp), if_neg (by simp [d3]), if_pos (by omega)]
 refine W_seq_skip ?_
 refine W_seq_regc (fun T H => T 2 = (iV (0 : Int)) ∧ H 1 = (⟨1, true, false, 24, 1, [[(V.sl (List.map cN (t.nd)))]]⟩ : Blk) ∧ True) ?_ ?_
 ·
  unfold r12_16
  refine R_mv (@rfl V (iV (0 : Int))) ?_
  exact R_nil ⟨rfl, h1, trivial⟩
 intro T H ⟨t2, h1, _⟩
 refine W_ret ?_
 refine Ret_1 t2 (fz_int ?_)
 · rw [dvE, if_neg (by omega), if_neg (by omega), if_neg (by rw [hz]; simp), if_neg (by simp [d3]), if_neg (by omega)]
end Go.Proofs.YtmnjchcoigbngaaGreat


namespace Go.Proofs.YtmnjchcoigbngaaGreat
open Go Go.Proofs
theorem swords_pure (a b : List (List Int)) : PureC Tryz.prog 13 [(V.sl (List.map cL (a))), (V.sl (List.map cL (b)))] (V.bool (decide (a = b))) := by
 refine pure_of_Wb true 6 Tryz.func13 s13_ok (by kernel_rfl) (by simp [s13]) (by simp) (by simp) fun hB => ?_
 simp only [bnd_map, bnd_int, bnd_bool, bnd_str, bnd_agg, bnd_pp, bnd_nil, bnd_cons, implies_true, and_true, true_and] at hB
 unfold s13
 dsimp only
 refine W_seq_regc (fun T H => T 0 = (V.sl (List.map cL (a))) ∧ T 1 = (V.sl (List.map cL (b))) ∧ True) ?_ ?_
 ·
  unfold r13_0
  refine R_mv (@rfl V (V.bool false)) ?_
  exact R_nil ⟨rfl, rfl, trivial⟩
 intro T H ⟨t0, t1, _⟩
 refine W_seq_seq ?_
 refine W_seq_regc (fun T H => T 0 = (V.sl (List.map cL (a))) ∧ T 1 = (V.sl (List.map cL (b))) ∧ T 10 = (V.bool (decide (((a.length : Nat) : Int) ≠ ((b.length : Nat) : Int)))) ∧ True) ?_ ?_
 ·
  unfold r13_1
  refine R_mv t0 ?_
  refine R_len (@rfl V (V.sl (List.map cL (a)))) ?_
  refine R_mv t1 ?_
  refine R_len (@rfl V (V.sl (List.map cL (b)))) ?_
  refine R_neq (x := ((a.length : Nat) : Int)) (y := ((b.length : Nat) : Int)) (@rfl V (iV ((a.length : Nat) : Int))) (@rfl V (iV ((b.length : Nat) : Int))) ?_
  exact R_nil ⟨t0, t1, rfl, trivial⟩
 intro T H ⟨t0, t1, t10, _⟩
 refine W_seq_if (p := ((a.length : Nat) : Int) ≠ ((b.length : Nat) : Int)) t10 (fun c1 => ?_) (fun c1 => ?_)
 ·
  refine W_seq_seq ?_
  refine W_seq_regc (fun T H => T 4 = (V.bool false) ∧ True) ?_ ?_
  ·
   unfold r13_2
   refine R_mv (@rfl V (V.bool false)) ?_
   exact R_nil ⟨rfl, trivial⟩
  intro T H ⟨t4, _⟩
  refine W_seq_ret ?_
  refine Ret_1 t4 (fz_bool ?_)
  · exact (decide_eq_false (fun e => by subst e; omega)).symm
 refine W_seq_skip ?_
 refine W_seq_seq ?_
 refine W_seq_regc (fun T H => T 0 = (V.sl (List.map cL (a))) ∧ T 1 = (V.sl (List.map cL (b))) ∧ T 5 = (iV (0 : Int)) ∧ True) ?_ ?_
 ·
  unfold r13_3
  refine R_mv (@rfl V (iV (0 : Int))) ?_
  exact R_nil ⟨t0, t1, rfl, trivial⟩
 intro T H ⟨t0, t1, t5, _⟩
 refine W_seq_blockg fun Q2 n2 x2 y2 z2 => ?_
 refine W_loop (fun mm T H => ∃ (k : Nat), mm = a.length - k ∧ T 0 = (V.sl (List.map cL (a))) ∧ T 1 = (V.sl (List.map cL (b))) ∧ T 5 = (iV ((k : Nat) : Int)) ∧ (k ≤ a.length) ∧ (a.length = b.length) ∧ (∀ j, j < k → nth a j = nth b j)) ?_ ?_
 ·
  refine ⟨_, 0, rfl, t0, t1, (Eq.trans t5 (by first | rfl | simp)), ?_, ?_, ?_⟩
  · omega
  · omega
  · intro j hj; omega
 intro mm T H ⟨k, hmm, t0, t1, t5, hk, hl, hc⟩ Q3 p13 p23 p33
 unfold b13_0
 refine W_seq_seq ?_
 refine W_seq_regc (fun T H => T 0 = (V.sl (List.map cL (a))) ∧ T 1 = (V.sl (List.map cL (b))) ∧ T 5 = (iV ((k : Nat) : Int)) ∧ T 14 = (V.bool (decide (((k : Nat) : Int) < ((a.length : Nat) : Int)))) ∧ True) ?_ ?_
 ·
  unfold r13_4
  refine R_mv t5 ?_
  refine R_mv t0 ?_
  refine R_len (@rfl V (V.sl (List.map cL (a)))) ?_
  refine R_lss (x := ((k : Nat) : Int)) (y := ((a.length : Nat) : Int)) (@rfl V (iV ((k : Nat) : Int))) (@rfl V (iV ((a.length : Nat) : Int))) ?_
  exact R_nil ⟨t0, t1, t5, rfl, trivial⟩
 intro T H ⟨t0, t1, t5, t14, _⟩
 refine W_seq_if (p := ((k : Nat) : Int) < ((a.length : Nat) : Int)) t14 (fun c4 => ?_) (fun c4 => ?_)
 ·
  refine W_seq_skip ?_
  refine W_seq_blockg fun Q5 n5 x5 y5 z5 => ?_
  refine W_seq_regc (fun T H => T 0 = (V.sl (List.map cL (a))) ∧ T 1 = (V.sl (List.map cL (b))) ∧ T 5 = (iV ((k : Nat) : Int)) ∧ T 26 = (V.bool (decide (¬(((nth (a) (k))) = ((nth (b) (k))))))) ∧ True) ?_ ?_
  ·
   unfold r13_6
   refine R_mv t0 ?_
   refine R_mv t5 ?_
   refine R_idx (i := k) (@rfl V (V.sl (List.map cL (a)))) (@rfl V (iV ((k : Nat) : Int))) (by omega) rfl ?_
   refine R_load_pp (v := (V.sl (List.map cI ((nth (a) (k)))))) (@rfl V (V.pp [(V.sl (List.map cI ((nth (a) (k)))))])) (by first | rfl | simp [ldV]) ?_
   refine R_mv t1 ?_
   refine R_mv t5 ?_
   refine R_idx (i := k) (@rfl V (V.sl (List.map cL (b)))) (@rfl V (iV ((k : Nat) : Int))) (by omega) rfl ?_
   refine R_load_pp (v := (V.sl (List.map cI ((nth (b) (k)))))) (@rfl V (V.pp [(V.sl (List.map cI ((nth (b) (k)))))])) (by first | rfl | simp [ldV]) ?_
   refine R_call (evcons (@rfl V (V.sl (List.map cI ((nth (a) (k)))))) (evcons (@rfl V (V.sl (List.map cI ((nth (b) (k)))))) evnil)) (rsame1_pure ((nth (a) (k))) ((nth (b) (k)))) (fzv_mapcanon _ _ (by simp [-List.map_take, -List.map_drop, -List.map_append, -List.map_reverse])) (by simp [-List.map_take, -List.map_drop, -List.map_append, -List.map_reverse]) (Or.inl (by simp [-List.map_take, -List.map_drop, -List.map_append, -List.map_reverse])) ?_
   refine R_not (p := ((nth (a) (k))) = ((nth (b) (k)))) (@rfl V (V.bool (decide (((nth (a) (k))) = ((nth (b) (k))))))) ?_
   exact R_nil ⟨t0, t1, t5, rfl, trivial⟩
  intro T H ⟨t0, t1, t5, t26, _⟩
  refine W_if (p := ¬(((nth (a) (k))) = ((nth (b) (k))))) t26 (fun c6 => ?_) (fun c6 => ?_)
  ·
   have d1 := c6
   refine W_seq_regc (fun T H => T 4 = (V.bool false) ∧ True) ?_ ?_
   ·
    unfold r13_7
    refine R_mv (@rfl V (V.bool false)) ?_
    exact R_nil ⟨rfl, trivial⟩
   intro T H ⟨t4, _⟩
   refine W_ret ?_
   refine y5 _ _ ?_
   refine p23 _ _ ?_
   refine y2 _ _ ?_
   refine Ret_1 t4 (fz_bool ?_)
   · exact (decide_eq_false (fun e => d1 (by subst e; rfl))).symm
  have d1 := Decidable.not_not.1 c6
  refine W_skip ?_
  refine n5 _ _ ?_
  refine .done ?_
  refine W_regc (fun T H => T 0 = (V.sl (List.map cL (a))) ∧ T 1 = (V.sl (List.map cL (b))) ∧ T 5 = (iV ((k + 1 : Nat) : Int)) ∧ True) ?_ ?_
  ·
   unfold r13_5
   refine R_mv t5 ?_
   refine R_addN (m := k) (n := 1) (@rfl V (iV ((k : Nat) : Int))) (@rfl V (iV ((1 : Nat) : Int))) (by omega) ?_
   refine R_mv (@rfl V (iV ((k + 1 : Nat) : Int))) ?_
   exact R_nil ⟨t0, t1, rfl, trivial⟩
  intro T H ⟨t0, t1, t5, _⟩
  refine p13 _ _ _ ?_ ⟨(k + 1), rfl, t0, t1, (Eq.trans t5 (by first | rfl | simp)), ?_, ?_, ?_⟩
  · omega
  · omega
  · omega
  · intro j hj
    by_cases e : j = k
    · subst e; exact d1
    · exact hc j (by omega)
 refine W_seq_exit ?_
 refine p33 _ _ _ ?_
 refine x2 _ _ ?_
 refine .done ?_
 refine W_seq_regc (fun T H => T 4 = (V.bool true) ∧ True) ?_ ?_
 ·
  unfold r13_8
  refine R_mv (@rfl V (V.bool true)) ?_
  exact R_nil ⟨rfl, trivial⟩
 intro T H ⟨t4, _⟩
 refine W_ret ?_
 refine Ret_1 t4 (fz_bool ?_)
 · exact (decide_eq_true (nth_ext hl fun j hj => hc j (by omega))).symm
end Go.Proofs.YtmnjchcoigbngaaGreat


namespace Go.Proofs.YtmnjchcoigbngaaGreat
open Go Go.Proofs
theorem dleaves_pure (t : Dt) (hb : Bd t) : PureC Tryz.prog 14 [(V.agg [(V.sl (List.map cN (t.nd)))])] (V.sl (List.map cL ((if dvE t = 0 then sdW (acL t.nd) else [])))) := by
 refine pure_of_Wb true 6 Tryz.func14 s14_ok (by kernel_rfl) (by simp [s14]) (by simp) (by simp) fun hB => ?_
 simp only [bnd_map, bnd_int, bnd_bool, bnd_str, bnd_agg, bnd_pp, bnd_nil, bnd_cons, implies_true, and_true, true_and] at hB
 unfold s14
 dsimp only
 have hal := acL_len t.nd
 have hbn := hb.n
 refine W_seq_regc (fun T H => T 1 = (V.mp 1 1 0 0) ∧ H 1 = (⟨1, true, false, 24, 1, [[(V.sl (List.map cN (t.nd)))]]⟩ : Blk) ∧ True) ?_ ?_
 ·
  unfold r14_0
  refine R_box (i := 1) (n := 0) (m := 1) (cs := [(V.sl (List.map cN (t.nd)))]) rfl (congrArg Blk.ver rfl) (@rfl V (V.agg [(V.sl (List.map cN (t.nd)))])) rfl rfl ?_
  refine R_mv (@rfl V V.nilsl) ?_
  exact R_nil ⟨rfl, rfl, trivial⟩
 intro T H ⟨t1, h1, _⟩
 refine W_seq_seq ?_
 refine W_seq_regc (fun T H => T 1 = (V.mp 1 1 0 0) ∧ T 5 = (V.bool (decide ((dvE t) ≠ (0 : Int)))) ∧ H 1 = (⟨1, true, false, 24, 1, [[(V.sl (List.map cN (t.nd)))]]⟩ : Blk) ∧ True) ?_ ?_
 ·
  unfold r14_1
  refine R_load_mp (v := (V.agg [(V.sl (List.map cN (t.nd)))])) t1 h1 (by first | rfl | simp [ldB, ldV, Blk.own, V.one]) ?_
  refine R_call (evcons (@rfl V (V.agg [(V.sl (List.map cN (t.nd)))])) evnil) (dvalid_pure t hb) (fzv_mapcanon _ _ (by simp [-List.map_take, -List.map_drop, -List.map_append, -List.map_reverse])) (by simp [-List.map_take, -List.map_drop, -List.map_append, -List.map_reverse]) (Or.inl (by simp [-List.map_take, -List.map_drop, -List.map_append, -List.map_reverse])) ?_
  refine R_neq (x := (dvE t)) (y := (0 : Int)) (@rfl V (iV (dvE t))) (@rfl V (iV (0 : Int))) ?_
  exact R_nil ⟨t1, rfl, h1, trivial⟩
 intro T H ⟨t1, t5, h1, _⟩
 refine W_seq_if (p := (dvE t) ≠ (0 : Int)) t5 (fun c1 => ?_) (fun c1 => ?_)
 ·
  refine W_seq_seq ?_
  refine W_seq_regc (fun T H => T 2 = V.nilsl ∧ H 1 = (⟨1, true, false, 24, 1, [[(V.sl (List.map cN (t.nd)))]]⟩ : Blk) ∧ True) ?_ ?_
  ·
   unfold r14_2
   refine R_mv (@rfl V V.nilsl) ?_
   exact R_nil ⟨rfl, h1, trivial⟩
  intro T H ⟨t2, h1, _⟩
  refine W_seq_ret ?_
  refine Ret_1 t2 (fz_nil ?_)
  · rw [if_neg (by omega)]
 refine W_seq_skip ?_
 refine W_seq_regc (fun T H => T 2 = (V.sl (List.map cL (sdW (acL t.nd)))) ∧ H 1 = (⟨1, true, false, 24, 1, [[(V.sl (List.map cN (t.nd)))]]⟩ : Blk) ∧ True) ?_ ?_
 ·
  unfold r14_3
  refine R_load_mp (v := (V.agg [(V.sl (List.map cN (t.nd)))])) t1 h1 (by first | rfl | simp [ldB, ldV, Blk.own, V.one]) ?_
  refine R_call (evcons (@rfl V (V.agg [(V.sl (List.map cN (t.nd)))])) evnil) (access_pure t hb) (fzv_mapcanon _ _ (by simp [-List.map_take, -List.map_drop, -List.map_append, -List.map_reverse])) (by simp [-List.map_take, -List.map_drop, -List.map_append, -List.map_reverse]) (Or.inl (by simp [-List.map_take, -List.map_drop, -List.map_append, -List.map_reverse])) ?_
  refine R_call (evcons (@rfl V (V.sl (List.map cL (acL t.nd)))) evnil) (sorted_pure (acL t.nd) (by first | omega | assumption) (ac_len hb)) (fzv_mapcanon _ _ (by simp [-List.map_take, -List.map_drop, -List.map_append, -List.map_reverse])) (by simp [-List.map_take, -List.map_drop, -List.map_append, -List.map_reverse]) (Or.inl (by simp [-List.map_take, -List.map_drop, -List.map_append, -List.map_reverse])) ?_
  refine R_mv (@rfl V (V.sl (List.map cL (sdW (acL t.nd))))) ?_
  exact R_nil ⟨rfl, h1, trivial⟩
 intro T H ⟨t2, h1, _⟩
 refine W_ret ?_
 refine Ret_1 t2 (fz_sl ?_ (fun _ => by simp))
 · rw [if_pos (by omega)]
end Go.Proofs.YtmnjchcoigbngaaGreat


namespace Go.Proofs.YtmnjchcoigbngaaGreat
open Go Go.Proofs
def r15_0 : List SO := [
  ⟨none, some 1, .box 24 1 (.t 0)⟩,
  ⟨none, some 2, .mv (.c (.nilsl))⟩]
def r15_1 : List SO := [
  ⟨none, some 3, .load true 1 (.t 1)⟩,
  ⟨none, some 4, .call false 12 [.t 3]⟩,
  ⟨none, some 5, .bin .neq (.t 4) (.c (.int .i64 0))⟩]
def r15_2 : List SO := [
  ⟨none, some 2, .mv (.c (.nilsl))⟩]
def r15_3 : List SO := [
  ⟨none, some 6, .load true 1 (.t 1)⟩,
  ⟨none, some 7, .call false 41 [.t 6]⟩,
  ⟨none, some 8, .call false 42 [.t 7]⟩,
  ⟨none, some 2, .mv (.t 8)⟩]
def s15 : SF := ⟨9, [.tmp 2], .seq (.reg r15_0) (.seq (.seq (.reg r15_1) (.cond (.t 5) (.seq (.reg r15_2) (.ret)) (.skip))) (.seq (.reg r15_3) (.ret)))⟩
theorem s15_ok : slimF Tryz.prog ⟨[57, 58, 59, 63, 67, 68, 77, 102, 103, 104, 110, 116, 120], []⟩ Tryz.f15 = some s15 := by kernel_rfl
end Go.Proofs.YtmnjchcoigbngaaGreat


namespace Go.Proofs.YtmnjchcoigbngaaGreat
open Go Go.Proofs
theorem rleaves_pure (t : Dt) (hb : Bd t) : PureC Tryz.prog 15 [(V.agg [(V.sl (List.map cN (t.nd)))])] (V.sl (List.map cL ((if dvE t = 0 then sdW (acL t.nd) else [])))) := by
 refine pure_of_Wb true 6 Tryz.func15 s15_ok (by kernel_rfl) (by simp [s15]) (by simp) (by simp) fun hB => ?_
 simp only [bnd_map, bnd_int, bnd_bool, bnd_str, bnd_agg, bnd_pp, bnd_nil, bnd_cons, implies_true, and_true, true_and] at hB
 unfold s15
 dsimp only
 have hal := acL_len t.nd
 have hbn := hb.n
 refine W_seq_regc (fun T H => T 1 = (V.mp 1 1 0 0) ∧ H 1 = (⟨1, true, false, 24, 1, [[(V.sl (List.map cN (t.nd)))]]⟩ : Blk) ∧ True) ?_ ?_
 ·
  unfold r15_0
  refine R_box (i := 1) (n := 0) (m := 1) (cs := [(V.sl (List.map cN (t.nd)))]) rfl (congrArg Blk.ver rfl) (@rfl V (V.agg [(V.sl (List.map cN (t.nd)))])) rfl rfl ?_
  refine R_mv (@rfl V V.nilsl) ?_
  exact R_nil ⟨rfl, rfl, trivial⟩
 intro T H ⟨t1, h1, _⟩
 refine W_seq_seq ?_
 refine W_seq_regc (fun T H => T 1 = (V.mp 1 1 0 0) ∧ T 5 = (V.bool (decide ((dvE t) ≠ (0 : Int)))) ∧ H 1 = (⟨1, true, false, 24, 1, [[(V.sl (List.map cN (t.nd)))]]⟩ : Blk) ∧ True) ?_ ?_
 ·
  unfold r15_1
  refine R_load_mp (v := (V.agg [(V.sl (List.map cN (t.nd)))])) t1 h1 (by first | rfl | simp [ldB, ldV, Blk.own, V.one]) ?_
  refine R_call (evcons (@rfl V (V.agg [(V.sl (List.map cN (t.nd)))])) evnil) (rdvalid_pure t hb) (fzv_mapcanon _ _ (by simp [-List.map_take, -List.map_drop, -List.map_append, -List.map_reverse])) (by simp [-List.map_take, -List.map_drop, -List.map_append, -List.map_reverse]) (Or.inl (by simp [-List.map_take, -List.map_drop, -List.map_append, -List.map_reverse])) ?_
  refine R_neq (x := (dvE t)) (y := (0 : Int)) (@rfl V (iV (dvE t))) (@rfl V (iV (0 : Int))) ?_
  exact R_nil ⟨t1, rfl, h1, trivial⟩
 intro T H ⟨t1, t5, h1, _⟩
 refine W_seq_if (p := (dvE t) ≠ (0 : Int)) t5 (fun c1 => ?_) (fun c1 => ?_)
 ·
  refine W_seq_seq ?_
  refine W_seq_regc (fun T H => T 2 = V.nilsl ∧ H 1 = (⟨1, true, false, 24, 1, [[(V.sl (List.map cN (t.nd)))]]⟩ : Blk) ∧ True) ?_ ?_
  ·
   unfold r15_2
   refine R_mv (@rfl V V.nilsl) ?_
   exact R_nil ⟨rfl, h1, trivial⟩
  intro T H ⟨t2, h1, _⟩
  refine W_seq_ret ?_
  refine Ret_1 t2 (fz_nil ?_)
  · rw [if_neg (by omega)]
 refine W_seq_skip ?_
 refine W_seq_regc (fun T H => T 2 = (V.sl (List.map cL (sdW (acL t.nd)))) ∧ H 1 = (⟨1, true, false, 24, 1, [[(V.sl (List.map cN (t.nd)))]]⟩ : Blk) ∧ True) ?_ ?_
 ·
  unfold r15_3
  refine R_load_mp (v := (V.agg [(V.sl (List.map cN (t.nd)))])) t1 h1 (by first | rfl | simp [ldB, ldV, Blk.own, V.one]) ?_
  refine R_call (evcons (@rfl V (V.agg [(V.sl (List.map cN (t.nd)))])) evnil) (raccess_pure t hb) (fzv_mapcanon _ _ (by simp [-List.map_take, -List.map_drop, -List.map_append, -List.map_reverse])) (by simp [-List.map_take, -List.map_drop, -List.map_append, -List.map_reverse]) (Or.inl (by simp [-List.map_take, -List.map_drop, -List.map_append, -List.map_reverse])) ?_
  refine R_call (evcons (@rfl V (V.sl (List.map cL (acL t.nd)))) evnil) (rsorted_pure (acL t.nd) (by first | omega | assumption) (ac_len hb)) (fzv_mapcanon _ _ (by simp [-List.map_take, -List.map_drop, -List.map_append, -List.map_reverse])) (by simp [-List.map_take, -List.map_drop, -List.map_append, -List.map_reverse]) (Or.inl (by simp [-List.map_take, -List.map_drop, -List.map_append, -List.map_reverse])) ?_
  refine R_mv (@rfl V (V.sl (List.map cL (sdW (acL t.nd))))) ?_
  exact R_nil ⟨rfl, h1, trivial⟩
 intro T H ⟨t2, h1, _⟩
 refine W_ret ?_
 refine Ret_1 t2 (fz_sl ?_ (fun _ => by simp))
 · rw [if_pos (by omega)]
end Go.Proofs.YtmnjchcoigbngaaGreat


namespace Go.Proofs.YtmnjchcoigbngaaGreat
open Go Go.Proofs
theorem ints_pure (a b : List Int) : PureC Tryz.prog 33 [(V.sl (List.map cI (a))), (V.sl (List.map cI (b)))] (V.bool (decide (a = b))) := by
 refine pure_of_Wb true 6 Tryz.func33 s33_ok (by kernel_rfl) (by simp [s33]) (by simp) (by simp) fun hB => ?_
 simp only [bnd_map, bnd_int, bnd_bool, bnd_str, bnd_agg, bnd_pp, bnd_nil, bnd_cons, implies_true, and_true, true_and] at hB
 unfold s33
 dsimp only
 refine W_seq_regc (fun T H => T 0 = (V.sl (List.map cI (a))) ∧ T 1 = (V.sl (List.map cI (b))) ∧ True) ?_ ?_
 ·
  unfold r33_0
  refine R_mv (@rfl V (V.bool false)) ?_
  exact R_nil ⟨rfl, rfl, trivial⟩
 intro T H ⟨t0, t1, _⟩
 refine W_seq_seq ?_
 refine W_seq_regc (fun T H => T 0 = (V.sl (List.map cI (a))) ∧ T 1 = (V.sl (List.map cI (b))) ∧ T 10 = (V.bool (decide (((a.length : Nat) : Int) ≠ ((b.length : Nat) : Int)))) ∧ True) ?_ ?_
 ·
  unfold r33_1
  refine R_mv t0 ?_
  refine R_len (@rfl V (V.sl (List.map cI (a)))) ?_
  refine R_mv t1 ?_
  refine R_len (@rfl V (V.sl (List.map cI (b)))) ?_
  refine R_neq (x := ((a.length : Nat) : Int)) (y := ((b.length : Nat) : Int)) (@rfl V (iV ((a.length : Nat) : Int))) (@rfl V (iV ((b.length : Nat) : Int))) ?_
  exact R_nil ⟨t0, t1, rfl, trivial⟩
 intro T H ⟨t0, t1, t10, _⟩
 refine W_seq_if (p := ((a.length : Nat) : Int) ≠ ((b.length : Nat) : Int)) t10 (fun c1 => ?_) (fun c1 => ?_)
 ·
  refine W_seq_seq ?_
  refine W_seq_regc (fun T H => T 4 = (V.bool false) ∧ True) ?_ ?_
  ·
   unfold r33_2
   refine R_mv (@rfl V (V.bool false)) ?_
   exact R_nil ⟨rfl, trivial⟩
  intro T H ⟨t4, _⟩
  refine W_seq_ret ?_
  refine Ret_1 t4 (fz_bool ?_)
  · exact (decide_eq_false (fun e => by subst e; omega)).symm
 refine W_seq_skip ?_
 refine W_seq_seq ?_
 refine W_seq_regc (fun T H => T 0 = (V.sl (List.map cI (a))) ∧ T 1 = (V.sl (List.map cI (b))) ∧ T 5 = (iV (0 : Int)) ∧ True) ?_ ?_
 ·
  unfold r33_3
  refine R_mv (@rfl V (iV (0 : Int))) ?_
  exact R_nil ⟨t0, t1, rfl, trivial⟩
 intro T H ⟨t0, t1, t5, _⟩
 refine W_seq_blockg fun Q2 n2 x2 y2 z2 => ?_
 refine W_loop (fun mm T H => ∃ (k : Nat), mm = a.length - k ∧ T 0 = (V.sl (List.map cI (a))) ∧ T 1 = (V.sl (List.map cI (b))) ∧ T 5 = (iV ((k : Nat) : Int)) ∧ (k ≤ a.length) ∧ (a.length = b.length) ∧ (∀ j, j < k → nth a j = nth b j)) ?_ ?_
 ·
  refine ⟨_, 0, rfl, t0, t1, (Eq.trans t5 (by first | rfl | simp)), ?_, ?_, ?_⟩
  · omega
  · omega
  · intro j hj; omega
 intro mm T H ⟨k, hmm, t0, t1, t5, hk, hl, hc⟩ Q3 p13 p23 p33
 unfold b33_0
 refine W_seq_seq ?_
 refine W_seq_regc (fun T H => T 0 = (V.sl (List.map cI (a))) ∧ T 1 = (V.sl (List.map cI (b))) ∧ T 5 = (iV ((k : Nat) : Int)) ∧ T 14 = (V.bool (decide (((k : Nat) : Int) < ((a.length : Nat) : Int)))) ∧ True) ?_ ?_
 ·
  unfold r33_4
  refine R_mv t5 ?_
  refine R_mv t0 ?_
  refine R_len (@rfl V (V.sl (List.map cI (a)))) ?_
  refine R_lss (x := ((k : Nat) : Int)) (y := ((a.length : Nat) : Int)) (@rfl V (iV ((k : Nat) : Int))) (@rfl V (iV ((a.length : Nat) : Int))) ?_
  exact R_nil ⟨t0, t1, t5, rfl, trivial⟩
 intro T H ⟨t0, t1, t5, t14, _⟩
 refine W_seq_if (p := ((k : Nat) : Int) < ((a.length : Nat) : Int)) t14 (fun c4 => ?_) (fun c4 => ?_)
 ·
  refine W_seq_skip ?_
  refine W_seq_blockg fun Q5 n5 x5 y5 z5 => ?_
  refine W_seq_regc (fun T H => T 0 = (V.sl (List.map cI (a))) ∧ T 1 = (V.sl (List.map cI (b))) ∧ T 5 = (iV ((k : Nat) : Int)) ∧ T 25 = (V.bool (decide (((nth (a) (k))) ≠ ((nth (b) (k)))))) ∧ True) ?_ ?_
  ·
   unfold r33_6
   refine R_mv t0 ?_
   refine R_mv t5 ?_
   refine R_idx (i := k) (@rfl V (V.sl (List.map cI (a)))) (@rfl V (iV ((k : Nat) : Int))) (by omega) rfl ?_
   refine R_load_pp (v := (iV ((nth (a) (k))))) (@rfl V (V.pp [(iV ((nth (a) (k))))])) (by first | rfl | simp [ldV]) ?_
   refine R_mv t1 ?_
   refine R_mv t5 ?_
   refine R_idx (i := k) (@rfl V (V.sl (List.map cI (b)))) (@rfl V (iV ((k : Nat) : Int))) (by omega) rfl ?_
   refine R_load_pp (v := (iV ((nth (b) (k))))) (@rfl V (V.pp [(iV ((nth (b) (k))))])) (by first | rfl | simp [ldV]) ?_
   refine R_neq (x := ((nth (a) (k)))) (y := ((nth (b) (k)))) (@rfl V (iV ((nth (a) (k))))) (@rfl V (iV ((nth (b) (k))))) ?_
   exact R_nil ⟨t0, t1, t5, rfl, trivial⟩
  intro T H ⟨t0, t1, t5, t25, _⟩
  refine W_if (p := ((nth (a) (k))) ≠ ((nth (b) (k)))) t25 (fun c6 => ?_) (fun c6 => ?_)
  ·
   refine W_seq_regc (fun T H => T 4 = (V.bool false) ∧ True) ?_ ?_
   ·
    unfold r33_7
    refine R_mv (@rfl V (V.bool false)) ?_
    exact R_nil ⟨rfl, trivial⟩
   intro T H ⟨t4, _⟩
   refine W_ret ?_
   refine y5 _ _ ?_
   refine p23 _ _ ?_
   refine y2 _ _ ?_
   refine Ret_1 t4 (fz_bool ?_)
   · exact (decide_eq_false (fun e => by subst e; omega)).symm
  refine W_skip ?_
  refine n5 _ _ ?_
  refine .done ?_
  refine W_regc (fun T H => T 0 = (V.sl (List.map cI (a))) ∧ T 1 = (V.sl (List.map cI (b))) ∧ T 5 = (iV ((k + 1 : Nat) : Int)) ∧ True) ?_ ?_
  ·
   unfold r33_5
   refine R_mv t5 ?_
   refine R_addN (m := k) (n := 1) (@rfl V (iV ((k : Nat) : Int))) (@rfl V (iV ((1 : Nat) : Int))) (by omega) ?_
   refine R_mv (@rfl V (iV ((k + 1 : Nat) : Int))) ?_
   exact R_nil ⟨t0, t1, rfl, trivial⟩
  intro T H ⟨t0, t1, t5, _⟩
  refine p13 _ _ _ ?_ ⟨(k + 1), rfl, t0, t1, (Eq.trans t5 (by first | rfl | simp)), ?_, ?_, ?_⟩
  · omega
  · omega
  · omega
  · intro j hj
    by_cases e : j = k
    · subst e; omega
    · exact hc j (by omega)
 refine W_seq_exit ?_
 refine p33 _ _ _ ?_
 refine x2 _ _ ?_
 refine .done ?_
 refine W_seq_regc (fun T H => T 4 = (V.bool true) ∧ True) ?_ ?_
 ·
  unfold r33_8
  refine R_mv (@rfl V (V.bool true)) ?_
  exact R_nil ⟨rfl, trivial⟩
 intro T H ⟨t4, _⟩
 refine W_ret ?_
 refine Ret_1 t4 (fz_bool ?_)
 · exact (decide_eq_true (nth_ext hl fun j hj => hc j (by omega))).symm
end Go.Proofs.YtmnjchcoigbngaaGreat


namespace Go.Proofs.YtmnjchcoigbngaaGreat
open Go Go.Proofs
theorem lists_pure (a b : List (List Int)) : PureC Tryz.prog 43 [(V.sl (List.map cL (a))), (V.sl (List.map cL (b)))] (V.bool (decide (a = b))) := by
 refine pure_of_Wb true 6 Tryz.func43 s43_ok (by kernel_rfl) (by simp [s43]) (by simp) (by simp) fun hB => ?_
 simp only [bnd_map, bnd_int, bnd_bool, bnd_str, bnd_agg, bnd_pp, bnd_nil, bnd_cons, implies_true, and_true, true_and] at hB
 unfold s43
 dsimp only
 refine W_seq_regc (fun T H => T 0 = (V.sl (List.map cL (a))) ∧ T 1 = (V.sl (List.map cL (b))) ∧ True) ?_ ?_
 ·
  unfold r43_0
  refine R_mv (@rfl V (V.bool false)) ?_
  exact R_nil ⟨rfl, rfl, trivial⟩
 intro T H ⟨t0, t1, _⟩
 refine W_seq_seq ?_
 refine W_seq_regc (fun T H => T 0 = (V.sl (List.map cL (a))) ∧ T 1 = (V.sl (List.map cL (b))) ∧ T 10 = (V.bool (decide (((a.length : Nat) : Int) ≠ ((b.length : Nat) : Int)))) ∧ True) ?_ ?_
 ·
  unfold r43_1
  refine R_mv t0 ?_
  refine R_len (@rfl V (V.sl (List.map cL (a)))) ?_
  refine R_mv t1 ?_
  refine R_len (@rfl V (V.sl (List.map cL (b)))) ?_
  refine R_neq (x := ((a.length : Nat) : Int)) (y := ((b.length : Nat) : Int)) (@rfl V (iV ((a.length : Nat) : Int))) (@rfl V (iV ((b.length : Nat) : Int))) ?_
  exact R_nil ⟨t0, t1, rfl, trivial⟩
 intro T H ⟨t0, t1, t10, _⟩
 refine W_seq_if (p := ((a.length : Nat) : Int) ≠ ((b.length : Nat) : Int)) t10 (fun c1 => ?_) (fun c1 => ?_)
 ·
  refine W_seq_seq ?_
  refine W_seq_regc (fun T H => T 4 = (V.bool false) ∧ True) ?_ ?_
  ·
   unfold r43_2
   refine R_mv (@rfl V (V.bool false)) ?_
   exact R_nil ⟨rfl, trivial⟩
  intro T H ⟨t4, _⟩
  refine W_seq_ret ?_
  refine Ret_1 t4 (fz_bool ?_)
  · exact (decide_eq_false (fun e => by subst e; omega)).symm
 refine W_seq_skip ?_
 refine W_seq_seq ?_
 refine W_seq_regc (fun T H => T 0 = (V.sl (List.map cL (a))) ∧ T 1 = (V.sl (List.map cL (b))) ∧ T 5 = (iV (0 : Int)) ∧ True) ?_ ?_
 ·
  unfold r43_3
  refine R_mv (@rfl V (iV (0 : Int))) ?_
  exact R_nil ⟨t0, t1, rfl, trivial⟩
 intro T H ⟨t0, t1, t5, _⟩
 refine W_seq_blockg fun Q2 n2 x2 y2 z2 => ?_
 refine W_loop (fun mm T H => ∃ (k : Nat), mm = a.length - k ∧ T 0 = (V.sl (List.map cL (a))) ∧ T 1 = (V.sl (List.map cL (b))) ∧ T 5 = (iV ((k : Nat) : Int)) ∧ (k ≤ a.length) ∧ (a.length = b.length) ∧ (∀ j, j < k → nth a j = nth b j)) ?_ ?_
 ·
  refine ⟨_, 0, rfl, t0, t1, (Eq.trans t5 (by first | rfl | simp)), ?_, ?_, ?_⟩
  · omega
  · omega
  · intro j hj; omega
 intro mm T H ⟨k, hmm, t0, t1, t5, hk, hl, hc⟩ Q3 p13 p23 p33
 unfold b43_0
 refine W_seq_seq ?_
 refine W_seq_regc (fun T H => T 0 = (V.sl (List.map cL (a))) ∧ T 1 = (V.sl (List.map cL (b))) ∧ T 5 = (iV ((k : Nat) : Int)) ∧ T 14 = (V.bool (decide (((k : Nat) : Int) < ((a.length : Nat) : Int)))) ∧ True) ?_ ?_
 ·
  unfold r43_4
  refine R_mv t5 ?_
  refine R_mv t0 ?_
  refine R_len (@rfl V (V.sl (List.map cL (a)))) ?_
  refine R_lss (x := ((k : Nat) : Int)) (y := ((a.length : Nat) : Int)) (@rfl V (iV ((k : Nat) : Int))) (@rfl V (iV ((a.length : Nat) : Int))) ?_
  exact R_nil ⟨t0, t1, t5, rfl, trivial⟩
 intro T H ⟨t0, t1, t5, t14, _⟩
 refine W_seq_if (p := ((k : Nat) : Int) < ((a.length : Nat) : Int)) t14 (fun c4 => ?_) (fun c4 => ?_)
 ·
  refine W_seq_skip ?_
  refine W_seq_blockg fun Q5 n5 x5 y5 z5 => ?_
  refine W_seq_regc (fun T H => T 0 = (V.sl (List.map cL (a))) ∧ T 1 = (V.sl (List.map cL (b))) ∧ T 5 = (iV ((k : Nat) : Int)) ∧ T 26 = (V.bool (decide (¬(((nth (a) (k))) = ((nth (b) (k))))))) ∧ True) ?_ ?_
  ·
   unfold r43_6
   refine R_mv t0 ?_
   refine R_mv t5 ?_
   refine R_idx (i := k) (@rfl V (V.sl (List.map cL (a)))) (@rfl V (iV ((k : Nat) : Int))) (by omega) rfl ?_
   refine R_load_pp (v := (V.sl (List.map cI ((nth (a) (k)))))) (@rfl V (V.pp [(V.sl (List.map cI ((nth (a) (k)))))])) (by first | rfl | simp [ldV]) ?_
   refine R_mv t1 ?_
   refine R_mv t5 ?_
   refine R_idx (i := k) (@rfl V (V.sl (List.map cL (b)))) (@rfl V (iV ((k : Nat) : Int))) (by omega) rfl ?_
   refine R_load_pp (v := (V.sl (List.map cI ((nth (b) (k)))))) (@rfl V (V.pp [(V.sl (List.map cI ((nth (b) (k)))))])) (by first | rfl | simp [ldV]) ?_
   refine R_call (evcons (@rfl V (V.sl (List.map cI ((nth (a) (k)))))) (evcons (@rfl V (V.sl (List.map cI ((nth (b) (k)))))) evnil)) (ints_pure ((nth (a) (k))) ((nth (b) (k)))) (fzv_mapcanon _ _ (by simp [-List.map_take, -List.map_drop, -List.map_append, -List.map_reverse])) (by simp [-List.map_take, -List.map_drop, -List.map_append, -List.map_reverse]) (Or.inl (by simp [-List.map_take, -List.map_drop, -List.map_append, -List.map_reverse])) ?_
   refine R_not (p := ((nth (a) (k))) = ((nth (b) (k)))) (@rfl V (V.bool (decide (((nth (a) (k))) = ((nth (b) (k))))))) ?_
   exact R_nil ⟨t0, t1, t5, rfl, trivial⟩
  intro T H ⟨t0, t1, t5, t26, _⟩
  refine W_if (p := ¬(((nth (a) (k))) = ((nth (b) (k))))) t26 (fun c6 => ?_) (fun c6 => ?_)
  ·
   have d1 := c6
   refine W_seq_regc (fun T H => T 4 = (V.bool false) ∧ True) ?_ ?_
   ·
    unfold r43_7
    refine R_mv (@rfl V (V.bool false)) ?_
    exact R_nil ⟨rfl, trivial⟩
   intro T H ⟨t4, _⟩
   refine W_ret ?_
   refine y5 _ _ ?_
   refine p23 _ _ ?_
   refine y2 _ _ ?_
   refine Ret_1 t4 (fz_bool ?_)
   · exact (decide_eq_false (fun e => d1 (by subst e; rfl))).symm
  have d1 := Decidable.not_not.1 c6
  refine W_skip ?_
  refine n5 _ _ ?_
  refine .done ?_
  refine W_regc (fun T H => T 0 = (V.sl (List.map cL (a))) ∧ T 1 = (V.sl (List.map cL (b))) ∧ T 5 = (iV ((k + 1 : Nat) : Int)) ∧ True) ?_ ?_
  ·
   unfold r43_5
   refine R_mv t5 ?_
   refine R_addN (m := k) (n := 1) (@rfl V (iV ((k : Nat) : Int))) (@rfl V (iV ((1 : Nat) : Int))) (by omega) ?_
   refine R_mv (@rfl V (iV ((k + 1 : Nat) : Int))) ?_
   exact R_nil ⟨t0, t1, rfl, trivial⟩
  intro T H ⟨t0, t1, t5, _⟩
  refine p13 _ _ _ ?_ ⟨(k + 1), rfl, t0, t1, (Eq.trans t5 (by first | rfl | simp)), ?_, ?_, ?_⟩
  · omega
  · omega
  · omega
  · intro j hj
    by_cases e : j = k
    · subst e; exact d1
    · exact hc j (by omega)
 refine W_seq_exit ?_
 refine p33 _ _ _ ?_
 refine x2 _ _ ?_
 refine .done ?_
 refine W_seq_regc (fun T H => T 4 = (V.bool true) ∧ True) ?_ ?_
 ·
  unfold r43_8
  refine R_mv (@rfl V (V.bool true)) ?_
  exact R_nil ⟨rfl, trivial⟩
 intro T H ⟨t4, _⟩
 refine W_ret ?_
 refine Ret_1 t4 (fz_bool ?_)
 · exact (decide_eq_true (nth_ext hl fun j hj => hc j (by omega))).symm
end Go.Proofs.YtmnjchcoigbngaaGreat


namespace Go.Proofs.YtmnjchcoigbngaaGreat
open Go Go.Proofs
theorem dsame_pure (a b : Dt) : PureC Tryz.prog 16 [(V.agg [(V.sl (List.map cN (a.nd)))]), (V.agg [(V.sl (List.map cN (b.nd)))])] (V.bool (decide (a = b))) := by
 refine pure_of_Wb true 6 Tryz.func16 s16_ok (by kernel_rfl) (by simp [s16]) (by simp) (by simp) fun hB => ?_
 simp only [bnd_map, bnd_int, bnd_bool, bnd_str, bnd_agg, bnd_pp, bnd_nil, bnd_cons, implies_true, and_true, true_and] at hB
 unfold s16
 dsimp only
 refine W_seq_regc (fun T H => T 2 = (V.mp 2 1 0 0) ∧ T 3 = (V.mp 3 1 0 0) ∧ H 2 = (⟨1, true, false, 24, 1, [[(V.sl (List.map cN (a.nd)))]]⟩ : Blk) ∧ H 3 = (⟨1, true, false, 24, 1, [[(V.sl (List.map cN (b.nd)))]]⟩ : Blk) ∧ H 6 = (⟨0, false, false, 0, 0, []⟩ : Blk) ∧ H 7 = (⟨0, false, false, 0, 0, []⟩ : Blk) ∧ True) ?_ ?_
 ·
  unfold r16_0
  refine R_box (i := 2) (n := 0) (m := 1) (cs := [(V.sl (List.map cN (a.nd)))]) rfl (congrArg Blk.ver rfl) (@rfl V (V.agg [(V.sl (List.map cN (a.nd)))])) rfl rfl ?_
  refine R_box (i := 3) (n := 0) (m := 1) (cs := [(V.sl (List.map cN (b.nd)))]) rfl (congrArg Blk.ver rfl) (@rfl V (V.agg [(V.sl (List.map cN (b.nd)))])) rfl rfl ?_
  refine R_mv (@rfl V (V.bool false)) ?_
  exact R_nil ⟨rfl, rfl, rfl, rfl, rfl, rfl, trivial⟩
 intro T H ⟨t2, t3, h2, h3, h6, h7, _⟩
 refine W_seq_seq ?_
 refine W_seq_regc (fun T H => T 2 = (V.mp 2 1 0 0) ∧ T 3 = (V.mp 3 1 0 0) ∧ T 14 = (V.bool (decide (((a.nd.length : Nat) : Int) ≠ ((b.nd.length : Nat) : Int)))) ∧ H 2 = (⟨1, true, false, 24, 1, [[(V.sl (List.map cN (a.nd)))]]⟩ : Blk) ∧ H 3 = (⟨1, true, false, 24, 1, [[(V.sl (List.map cN (b.nd)))]]⟩ : Blk) ∧ H 6 = (⟨0, false, false, 0, 0, []⟩ : Blk) ∧ H 7 = (⟨0, false, false, 0, 0, []⟩ : Blk) ∧ True) ?_ ?_
 ·
  unfold r16_1
  refine R_fld_mp (o' := 0) t2 h2 (by first | rfl | simp [okB, Blk.own]) rfl ?_
  refine R_load_mp (v := (V.sl (List.map cN (a.nd)))) (@rfl V (V.mp 2 1 0 0)) h2 (by first | rfl | simp [ldB, ldV, Blk.own, V.one]) ?_
  refine R_len (@rfl V (V.sl (List.map cN (a.nd)))) ?_
  refine R_fld_mp (o' := 0) t3 h3 (by first | rfl | simp [okB, Blk.own]) rfl ?_
  refine R_load_mp (v := (V.sl (List.map cN (b.nd)))) (@rfl V (V.mp 3 1 0 0)) h3 (by first | rfl | simp [ldB, ldV, Blk.own, V.one]) ?_
  refine R_len (@rfl V (V.sl (List.map cN (b.nd)))) ?_
  refine R_neq (x := ((a.nd.length : Nat) : Int)) (y := ((b.nd.length : Nat) : Int)) (@rfl V (iV ((a.nd.length : Nat) : Int))) (@rfl V (iV ((b.nd.length : Nat) : Int))) ?_
  exact R_nil ⟨t2, t3, rfl, h2, h3, h6, h7, trivial⟩
 intro T H ⟨t2, t3, t14, h2, h3, h6, h7, _⟩
 refine W_seq_if (p := ((a.nd.length : Nat) : Int) ≠ ((b.nd.length : Nat) : Int)) t14 (fun c1 => ?_) (fun c1 => ?_)
 ·
  refine W_seq_seq ?_
  refine W_seq_regc (fun T H => T 4 = (V.bool false) ∧ H 2 = (⟨1, true, false, 24, 1, [[(V.sl (List.map cN (a.nd)))]]⟩ : Blk) ∧ H 3 = (⟨1, true, false, 24, 1, [[(V.sl (List.map cN (b.nd)))]]⟩ : Blk) ∧ H 6 = (⟨0, false, false, 0, 0, []⟩ : Blk) ∧ H 7 = (⟨0, false, false, 0, 0, []⟩ : Blk) ∧ True) ?_ ?_
  ·
   unfold r16_2
   refine R_mv (@rfl V (V.bool false)) ?_
   exact R_nil ⟨rfl, h2, h3, h6, h7, trivial⟩
  intro T H ⟨t4, h2, h3, h6, h7, _⟩
  refine W_seq_ret ?_
  refine Ret_1 t4 (fz_bool ?_)
  · exact (decide_eq_false (fun e => by subst e; omega)).symm
 refine W_seq_skip ?_
 refine W_seq_seq ?_
 refine W_seq_regc (fun T H => T 2 = (V.mp 2 1 0 0) ∧ T 3 = (V.mp 3 1 0 0) ∧ T 5 = (iV (0 : Int)) ∧ H 2 = (⟨1, true, false, 24, 1, [[(V.sl (List.map cN (a.nd)))]]⟩ : Blk) ∧ H 3 = (⟨1, true, false, 24, 1, [[(V.sl (List.map cN (b.nd)))]]⟩ : Blk) ∧ H 6 = (⟨0, false, false, 0, 0, []⟩ : Blk) ∧ H 7 = (⟨0, false, false, 0, 0, []⟩ : Blk) ∧ True) ?_ ?_
 ·
  unfold r16_3
  refine R_mv (@rfl V (iV (0 : Int))) ?_
  exact R_nil ⟨t2, t3, rfl, h2, h3, h6, h7, trivial⟩
 intro T H ⟨t2, t3, t5, h2, h3, h6, h7, _⟩
 refine W_seq_blockg fun Q2 n2 x2 y2 z2 => ?_
 refine W_loop (fun mm T H => ∃ (k : Nat) (v6 : Nat) (v7 : Nat), mm = a.nd.length - k ∧ T 2 = (V.mp 2 1 0 0) ∧ T 3 = (V.mp 3 1 0 0) ∧ T 5 = (iV ((k : Nat) : Int)) ∧ H 2 = (⟨1, true, false, 24, 1, [[(V.sl (List.map cN (a.nd)))]]⟩ : Blk) ∧ H 3 = (⟨1, true, false, 24, 1, [[(V.sl (List.map cN (b.nd)))]]⟩ : Blk) ∧ ((H 6).ver = v6 ∧ (H 6).live = false) ∧ ((H 7).ver = v7 ∧ (H 7).live = false) ∧ (k ≤ a.nd.length) ∧ (a.nd.length = b.nd.length) ∧ (∀ j, j < k → nth a.nd j = nth b.nd j)) ?_ ?_
 ·
  refine ⟨_, 0, 0, 0, rfl, t2, t3, (Eq.trans t5 (by first | rfl | simp)), h2, h3, ⟨(congrArg Blk.ver h6), congrArg Blk.live h6⟩, ⟨(congrArg Blk.ver h7), congrArg Blk.live h7⟩, ?_, ?_, ?_⟩
  · omega
  · omega
  · intro j hj; omega
 intro mm T H ⟨k, v6, v7, hmm, t2, t3, t5, h2, h3, h6, h7, hk, hl, hc⟩ Q3 p13 p23 p33
 unfold b16_0
 refine W_seq_seq ?_
 refine W_seq_regc (fun T H => T 2 = (V.mp 2 1 0 0) ∧ T 3 = (V.mp 3 1 0 0) ∧ T 5 = (iV ((k : Nat) : Int)) ∧ T 19 = (V.bool (decide (((k : Nat) : Int) < ((a.nd.length : Nat) : Int)))) ∧ H 2 = (⟨1, true, false, 24, 1, [[(V.sl (List.map cN (a.nd)))]]⟩ : Blk) ∧ H 3 = (⟨1, true, false, 24, 1, [[(V.sl (List.map cN (b.nd)))]]⟩ : Blk) ∧ ((H 6).ver = v6 ∧ (H 6).live = false) ∧ ((H 7).ver = v7 ∧ (H 7).live = false) ∧ True) ?_ ?_
 ·
  unfold r16_4
  refine R_mv t5 ?_
  refine R_fld_mp (o' := 0) t2 h2 (by first | rfl | simp [okB, Blk.own]) rfl ?_
  refine R_load_mp (v := (V.sl (List.map cN (a.nd)))) (@rfl V (V.mp 2 1 0 0)) h2 (by first | rfl | simp [ldB, ldV, Blk.own, V.one]) ?_
  refine R_len (@rfl V (V.sl (List.map cN (a.nd)))) ?_
  refine R_lss (x := ((k : Nat) : Int)) (y := ((a.nd.length : Nat) : Int)) (@rfl V (iV ((k : Nat) : Int))) (@rfl V (iV ((a.nd.length : Nat) : Int))) ?_
  exact R_nil ⟨t2, t3, t5, rfl, h2, h3, h6, h7, trivial⟩
 intro T H ⟨t2, t3, t5, t19, h2, h3, h6, h7, _⟩
 refine W_seq_if (p := ((k : Nat) : Int) < ((a.nd.length : Nat) : Int)) t19 (fun c4 => ?_) (fun c4 => ?_)
 ·
  refine W_seq_skip ?_
  refine W_seq_blockg fun Q5 n5 x5 y5 z5 => ?_
  refine W_seq_dregc (fun T H => T 2 = (V.mp 2 1 0 0) ∧ T 3 = (V.mp 3 1 0 0) ∧ T 5 = (iV ((k : Nat) : Int)) ∧ T 6 = (V.mp 6 (v6 + 1) 0 0) ∧ T 7 = (V.mp 7 (v7 + 1) 0 0) ∧ H 2 = (⟨1, true, false, 24, 1, [[(V.sl (List.map cN (a.nd)))]]⟩ : Blk) ∧ H 3 = (⟨1, true, false, 24, 1, [[(V.sl (List.map cN (b.nd)))]]⟩ : Blk) ∧ H 6 = (⟨v6 + 1, true, false, 68, 5, [[(V.bool (((nth (a.nd) (k))).lf)), (V.sl (List.map cI (((nth (a.nd) (k))).ac))), (V.sl (List.map cI (((nth (a.nd) (k))).sf))), (V.sl (List.map cL (((nth (a.nd) (k))).ou))), (V.sl (List.map cI (((nth (a.nd) (k))).kd)))]]⟩ : Blk) ∧ H 7 = (⟨v7 + 1, true, false, 68, 5, [[(V.bool (((nth (b.nd) (k))).lf)), (V.sl (List.map cI (((nth (b.nd) (k))).ac))), (V.sl (List.map cI (((nth (b.nd) (k))).sf))), (V.sl (List.map cL (((nth (b.nd) (k))).ou))), (V.sl (List.map cI (((nth (b.nd) (k))).kd)))]]⟩ : Blk) ∧ True) (by intro d hd; simp only [List.mem_cons, List.not_mem_nil, or_false] at hd; rcases hd with rfl | rfl <;> simp [h2, h3, h6, h7]) ?_ ?_
  ·
   unfold r16_6
   refine R_fld_mp (o' := 0) t2 h2 (by first | rfl | simp [okB, Blk.own]) rfl ?_
   refine R_load_mp (v := (V.sl (List.map cN (a.nd)))) (@rfl V (V.mp 2 1 0 0)) h2 (by first | rfl | simp [ldB, ldV, Blk.own, V.one]) ?_
   refine R_mv t5 ?_
   refine R_idx (i := k) (@rfl V (V.sl (List.map cN (a.nd)))) (@rfl V (iV ((k : Nat) : Int))) (by omega) rfl ?_
   refine R_load_pp (v := (V.agg [(V.bool (((nth (a.nd) (k))).lf)), (V.sl (List.map cI (((nth (a.nd) (k))).ac))), (V.sl (List.map cI (((nth (a.nd) (k))).sf))), (V.sl (List.map cL (((nth (a.nd) (k))).ou))), (V.sl (List.map cI (((nth (a.nd) (k))).kd)))])) (@rfl V (V.pp [(V.bool (((nth (a.nd) (k))).lf)), (V.sl (List.map cI (((nth (a.nd) (k))).ac))), (V.sl (List.map cI (((nth (a.nd) (k))).sf))), (V.sl (List.map cL (((nth (a.nd) (k))).ou))), (V.sl (List.map cI (((nth (a.nd) (k))).kd)))])) (by first | rfl | simp [ldV]) ?_
   refine R_fld_mp (o' := 0) t3 h3 (by first | rfl | simp [okB, Blk.own]) rfl ?_
   refine R_load_mp (v := (V.sl (List.map cN (b.nd)))) (@rfl V (V.mp 3 1 0 0)) h3 (by first | rfl | simp [ldB, ldV, Blk.own, V.one]) ?_
   refine R_mv t5 ?_
   refine R_idx (i := k) (@rfl V (V.sl (List.map cN (b.nd)))) (@rfl V (iV ((k : Nat) : Int))) (by omega) rfl ?_
   refine R_load_pp (v := (V.agg [(V.bool (((nth (b.nd) (k))).lf)), (V.sl (List.map cI (((nth (b.nd) (k))).ac))), (V.sl (List.map cI (((nth (b.nd) (k))).sf))), (V.sl (List.map cL (((nth (b.nd) (k))).ou))), (V.sl (List.map cI (((nth (b.nd) (k))).kd)))])) (@rfl V (V.pp [(V.bool (((nth (b.nd) (k))).lf)), (V.sl (List.map cI (((nth (b.nd) (k))).ac))), (V.sl (List.map cI (((nth (b.nd) (k))).sf))), (V.sl (List.map cL (((nth (b.nd) (k))).ou))), (V.sl (List.map cI (((nth (b.nd) (k))).kd)))])) (by first | rfl | simp [ldV]) ?_
   refine R_alloc (i := 6) (n := v6) (m := 5) rfl (h6).1 rfl ?_
   refine R_alloc (i := 7) (n := v7) (m := 5) rfl (h7).1 rfl ?_
   refine R_store (vs := [(V.bool (((nth (a.nd) (k))).lf)), (V.sl (List.map cI (((nth (a.nd) (k))).ac))), (V.sl (List.map cI (((nth (a.nd) (k))).sf))), (V.sl (List.map cL (((nth (a.nd) (k))).ou))), (V.sl (List.map cI (((nth (a.nd) (k))).kd)))]) (B' := (⟨v6 + 1, true, false, 68, 5, [[(V.bool (((nth (a.nd) (k))).lf)), (V.sl (List.map cI (((nth (a.nd) (k))).ac))), (V.sl (List.map cI (((nth (a.nd) (k))).sf))), (V.sl (List.map cL (((nth (a.nd) (k))).ou))), (V.sl (List.map cI (((nth (a.nd) (k))).kd)))]]⟩ : Blk)) (@rfl V (V.mp 6 (v6 + 1) 0 0)) (@rfl V (V.agg [(V.bool (((nth (a.nd) (k))).lf)), (V.sl (List.map cI (((nth (a.nd) (k))).ac))), (V.sl (List.map cI (((nth (a.nd) (k))).sf))), (V.sl (List.map cL (((nth (a.nd) (k))).ou))), (V.sl (List.map cI (((nth (a.nd) (k))).kd)))])) rfl (@rfl Blk (⟨v6 + 1, true, false, 68, 5, [[(V.bool false), V.nilsl, V.nilsl, V.nilsl, V.nilsl]]⟩ : Blk)) (by first | rfl | simp [stB, okB, Blk.own, putAt, V.one]) ?_
   refine R_store (vs := [(V.bool (((nth (b.nd) (k))).lf)), (V.sl (List.map cI (((nth (b.nd) (k))).ac))), (V.sl (List.map cI (((nth (b.nd) (k))).sf))), (V.sl (List.map cL (((nth (b.nd) (k))).ou))), (V.sl (List.map cI (((nth (b.nd) (k))).kd)))]) (B' := (⟨v7 + 1, true, false, 68, 5, [[(V.bool (((nth (b.nd) (k))).lf)), (V.sl (List.map cI (((nth (b.nd) (k))).ac))), (V.sl (List.map cI (((nth (b.nd) (k))).sf))), (V.sl (List.map cL (((nth (b.nd) (k))).ou))), (V.sl (List.map cI (((nth (b.nd) (k))).kd)))]]⟩ : Blk)) (@rfl V (V.mp 7 (v7 + 1) 0 0)) (@rfl V (V.agg [(V.bool (((nth (b.nd) (k))).lf)), (V.sl (List.map cI (((nth (b.nd) (k))).ac))), (V.sl (List.map cI (((nth (b.nd) (k))).sf))), (V.sl (List.map cL (((nth (b.nd) (k))).ou))), (V.sl (List.map cI (((nth (b.nd) (k))).kd)))])) rfl (@rfl Blk (⟨v7 + 1, true, false, 68, 5, [[(V.bool false), V.nilsl, V.nilsl, V.nilsl, V.nilsl]]⟩ : Blk)) (by first | rfl | simp [stB, okB, Blk.own, putAt, V.one]) ?_
   exact R_nil ⟨t2, t3, t5, rfl, rfl, h2, h3, rfl, rfl, trivial⟩
  intro T H ⟨t2, t3, t5, t6, t7, h2, h3, h6, h7, _⟩
  refine W_seq_regc (fun T H => T 2 = (V.mp 2 1 0 0) ∧ T 3 = (V.mp 3 1 0 0) ∧ T 5 = (iV ((k : Nat) : Int)) ∧ T 68 = (V.bool (((((((((((((nth (a.nd) (k))).lf) != (((nth (b.nd) (k))).lf))) || decide (¬((((nth (a.nd) (k))).ac) = (((nth (b.nd) (k))).ac))))) || decide (¬((((nth (a.nd) (k))).sf) = (((nth (b.nd) (k))).sf))))) || decide (¬((((nth (a.nd) (k))).ou) = (((nth (b.nd) (k))).ou))))) || decide (¬((((nth (a.nd) (k))).kd) = (((nth (b.nd) (k))).kd)))))) ∧ H 2 = (⟨1, true, false, 24, 1, [[(V.sl (List.map cN (a.nd)))]]⟩ : Blk) ∧ H 3 = (⟨1, true, false, 24, 1, [[(V.sl (List.map cN (b.nd)))]]⟩ : Blk) ∧ H 6 = (⟨v6 + 1, true, false, 68, 5, [[(V.bool (((nth (a.nd) (k))).lf)), (V.sl (List.map cI (((nth (a.nd) (k))).ac))), (V.sl (List.map cI (((nth (a.nd) (k))).sf))), (V.sl (List.map cL (((nth (a.nd) (k))).ou))), (V.sl (List.map cI (((nth (a.nd) (k))).kd)))]]⟩ : Blk) ∧ H 7 = (⟨v7 + 1, true, false, 68, 5, [[(V.bool (((nth (b.nd) (k))).lf)), (V.sl (List.map cI (((nth (b.nd) (k))).ac))), (V.sl (List.map cI (((nth (b.nd) (k))).sf))), (V.sl (List.map cL (((nth (b.nd) (k))).ou))), (V.sl (List.map cI (((nth (b.nd) (k))).kd)))]]⟩ : Blk) ∧ True) ?_ ?_
  ·
   unfold r16_7
   refine R_fld_mp (o' := 0) t6 h6 (by first | rfl | simp [okB, Blk.own]) rfl ?_
   refine R_load_mp (v := (V.bool (((nth (a.nd) (k))).lf))) (@rfl V (V.mp 6 (v6 + 1) 0 0)) h6 (by first | rfl | simp [ldB, ldV, Blk.own, V.one]) ?_
   refine R_fld_mp (o' := 0) t7 h7 (by first | rfl | simp [okB, Blk.own]) rfl ?_
   refine R_load_mp (v := (V.bool (((nth (b.nd) (k))).lf))) (@rfl V (V.mp 7 (v7 + 1) 0 0)) h7 (by first | rfl | simp [ldB, ldV, Blk.own, V.one]) ?_
   refine R_bneq (x := (((nth (a.nd) (k))).lf)) (y := (((nth (b.nd) (k))).lf)) (@rfl V (V.bool (((nth (a.nd) (k))).lf))) (@rfl V (V.bool (((nth (b.nd) (k))).lf))) ?_
   refine R_mv (@rfl V (V.bool (((((nth (a.nd) (k))).lf) != (((nth (b.nd) (k))).lf))))) ?_
   refine Ops_seg 7 (fun T H => T 2 = (V.mp 2 1 0 0) ∧ T 3 = (V.mp 3 1 0 0) ∧ T 5 = (iV ((k : Nat) : Int)) ∧ T 6 = (V.mp 6 (v6 + 1) 0 0) ∧ T 7 = (V.mp 7 (v7 + 1) 0 0) ∧ T 44 = (V.bool (((((((nth (a.nd) (k))).lf) != (((nth (b.nd) (k))).lf))) || decide (¬((((nth (a.nd) (k))).ac) = (((nth (b.nd) (k))).ac)))))) ∧ H 2 = (⟨1, true, false, 24, 1, [[(V.sl (List.map cN (a.nd)))]]⟩ : Blk) ∧ H 3 = (⟨1, true, false, 24, 1, [[(V.sl (List.map cN (b.nd)))]]⟩ : Blk) ∧ H 6 = (⟨v6 + 1, true, false, 68, 5, [[(V.bool (((nth (a.nd) (k))).lf)), (V.sl (List.map cI (((nth (a.nd) (k))).ac))), (V.sl (List.map cI (((nth (a.nd) (k))).sf))), (V.sl (List.map cL (((nth (a.nd) (k))).ou))), (V.sl (List.map cI (((nth (a.nd) (k))).kd)))]]⟩ : Blk) ∧ H 7 = (⟨v7 + 1, true, false, 68, 5, [[(V.bool (((nth (b.nd) (k))).lf)), (V.sl (List.map cI (((nth (b.nd) (k))).ac))), (V.sl (List.map cI (((nth (b.nd) (k))).sf))), (V.sl (List.map cL (((nth (b.nd) (k))).ou))), (V.sl (List.map cI (((nth (b.nd) (k))).kd)))]]⟩ : Blk) ∧ True) ?_ ?_
   ·
    by_cases g6 : (((((nth (a.nd) (k))).lf) != (((nth (b.nd) (k))).lf))) = true
    ·
     refine G_no (Eq.trans (@rfl V (V.bool (((((nth (a.nd) (k))).lf) != (((nth (b.nd) (k))).lf))))) (bbT g6)) (by decide) ?_
     refine G_no (Eq.trans (@rfl V (V.bool (((((nth (a.nd) (k))).lf) != (((nth (b.nd) (k))).lf))))) (bbT g6)) (by decide) ?_
     refine G_no (Eq.trans (@rfl V (V.bool (((((nth (a.nd) (k))).lf) != (((nth (b.nd) (k))).lf))))) (bbT g6)) (by decide) ?_
     refine G_no (Eq.trans (@rfl V (V.bool (((((nth (a.nd) (k))).lf) != (((nth (b.nd) (k))).lf))))) (bbT g6)) (by decide) ?_
     refine G_no (Eq.trans (@rfl V (V.bool (((((nth (a.nd) (k))).lf) != (((nth (b.nd) (k))).lf))))) (bbT g6)) (by decide) ?_
     refine G_no (Eq.trans (@rfl V (V.bool (((((nth (a.nd) (k))).lf) != (((nth (b.nd) (k))).lf))))) (bbT g6)) (by decide) ?_
     refine R_pickT (Eq.trans (@rfl V (V.bool (((((nth (a.nd) (k))).lf) != (((nth (b.nd) (k))).lf))))) (bbT g6)) (@rfl V (V.bool true)) ?_
     exact ⟨t2, t3, t5, t6, t7, (Eq.trans (@rfl V (V.bool true)) (borT g6)), h2, h3, h6, h7, trivial⟩
    ·
     refine G_yes (Eq.trans (@rfl V (V.bool (((((nth (a.nd) (k))).lf) != (((nth (b.nd) (k))).lf))))) (bbF g6)) ?_
     refine R_fld_mp (o' := 1) t6 h6 (by first | rfl | simp [okB, Blk.own]) rfl ?_
     refine G_yes (Eq.trans (@rfl V (V.bool (((((nth (a.nd) (k))).lf) != (((nth (b.nd) (k))).lf))))) (bbF g6)) ?_
     refine R_load_mp (v := (V.sl (List.map cI (((nth (a.nd) (k))).ac)))) (@rfl V (V.mp 6 (v6 + 1) 0 1)) h6 (by first | rfl | simp [ldB, ldV, Blk.own, V.one]) ?_
     refine G_yes (Eq.trans (@rfl V (V.bool (((((nth (a.nd) (k))).lf) != (((nth (b.nd) (k))).lf))))) (bbF g6)) ?_
     refine R_fld_mp (o' := 1) t7 h7 (by first | rfl | simp [okB, Blk.own]) rfl ?_
     refine G_yes (Eq.trans (@rfl V (V.bool (((((nth (a.nd) (k))).lf) != (((nth (b.nd) (k))).lf))))) (bbF g6)) ?_
     refine R_load_mp (v := (V.sl (List.map cI (((nth (b.nd) (k))).ac)))) (@rfl V (V.mp 7 (v7 + 1) 0 1)) h7 (by first | rfl | simp [ldB, ldV, Blk.own, V.one]) ?_
     refine G_yes (Eq.trans (@rfl V (V.bool (((((nth (a.nd) (k))).lf) != (((nth (b.nd) (k))).lf))))) (bbF g6)) ?_
     refine R_call (evcons (@rfl V (V.sl (List.map cI (((nth (a.nd) (k))).ac)))) (evcons (@rfl V (V.sl (List.map cI (((nth (b.nd) (k))).ac)))) evnil)) (ints_pure (((nth (a.nd) (k))).ac) (((nth (b.nd) (k))).ac)) (fzv_mapcanon _ _ (by simp [-List.map_take, -List.map_drop, -List.map_append, -List.map_reverse])) (by simp [-List.map_take, -List.map_drop, -List.map_append, -List.map_reverse]) (Or.inl (by simp [-List.map_take, -List.map_drop, -List.map_append, -List.map_reverse])) ?_
     refine G_yes (Eq.trans (@rfl V (V.bool (((((nth (a.nd) (k))).lf) != (((nth (b.nd) (k))).lf))))) (bbF g6)) ?_
     refine R_not (p := (((nth (a.nd) (k))).ac) = (((nth (b.nd) (k))).ac)) (@rfl V (V.bool (decide ((((nth (a.nd) (k))).ac) = (((nth (b.nd) (k))).ac))))) ?_
     refine R_pickF (Eq.trans (@rfl V (V.bool (((((nth (a.nd) (k))).lf) != (((nth (b.nd) (k))).lf))))) (bbF g6)) (@rfl V (V.bool (decide (¬((((nth (a.nd) (k))).ac) = (((nth (b.nd) (k))).ac)))))) ?_
     exact ⟨t2, t3, t5, t6, t7, (Eq.trans (@rfl V (V.bool (decide (¬((((nth (a.nd) (k))).ac) = (((nth (b.nd) (k))).ac)))))) (borF g6)), h2, h3, h6, h7, trivial⟩
   intro T H ⟨t2, t3, t5, t6, t7, t44, h2, h3, h6, h7, _⟩
   refine R_mv t44 ?_
   refine Ops_seg 7 (fun T H => T 2 = (V.mp 2 1 0 0) ∧ T 3 = (V.mp 3 1 0 0) ∧ T 5 = (iV ((k : Nat) : Int)) ∧ T 6 = (V.mp 6 (v6 + 1) 0 0) ∧ T 7 = (V.mp 7 (v7 + 1) 0 0) ∧ T 52 = (V.bool (((((((((nth (a.nd) (k))).lf) != (((nth (b.nd) (k))).lf))) || decide (¬((((nth (a.nd) (k))).ac) = (((nth (b.nd) (k))).ac))))) || decide (¬((((nth (a.nd) (k))).sf) = (((nth (b.nd) (k))).sf)))))) ∧ H 2 = (⟨1, true, false, 24, 1, [[(V.sl (List.map cN (a.nd)))]]⟩ : Blk) ∧ H 3 = (⟨1, true, false, 24, 1, [[(V.sl (List.map cN (b.nd)))]]⟩ : Blk) ∧ H 6 = (⟨v6 + 1, true, false, 68, 5, [[(V.bool (((nth (a.nd) (k))).lf)), (V.sl (List.map cI (((nth (a.nd) (k))).ac))), (V.sl (List.map cI (((nth (a.nd) (k))).sf))), (V.sl (List.map cL (((nth (a.nd) (k))).ou))), (V.sl (List.map cI (((nth (a.nd) (k))).kd)))]]⟩ : Blk) ∧ H 7 = (⟨v7 + 1, true, false, 68, 5, [[(V.bool (((nth (b.nd) (k))).lf)), (V.sl (List.map cI (((nth (b.nd) (k))).ac))), (V.sl (List.map cI (((nth (b.nd) (k))).sf))), (V.sl (List.map cL (((nth (b.nd) (k))).ou))), (V.sl (List.map cI (((nth (b.nd) (k))).kd)))]]⟩ : Blk) ∧ True) ?_ ?_
   ·
    by_cases g7 : (((((((nth (a.nd) (k))).lf) != (((nth (b.nd) (k))).lf))) || decide (¬((((nth (a.nd) (k))).ac) = (((nth (b.nd) (k))).ac))))) = true
    ·
     refine G_no (Eq.trans (@rfl V (V.bool (((((((nth (a.nd) (k))).lf) != (((nth (b.nd) (k))).lf))) || decide (¬((((nth (a.nd) (k))).ac) = (((nth (b.nd) (k))).ac))))))) (bbT g7)) (by decide) ?_
     refine G_no (Eq.trans (@rfl V (V.bool (((((((nth (a.nd) (k))).lf) != (((nth (b.nd) (k))).lf))) || decide (¬((((nth (a.nd) (k))).ac) = (((nth (b.nd) (k))).ac))))))) (bbT g7)) (by decide) ?_
     refine G_no (Eq.trans (@rfl V (V.bool (((((((nth (a.nd) (k))).lf) != (((nth (b.nd) (k))).lf))) || decide (¬((((nth (a.nd) (k))).ac) = (((nth (b.nd) (k))).ac))))))) (bbT g7)) (by decide) ?_
     refine G_no (Eq.trans (@rfl V (V.bool (((((((nth (a.nd) (k))).lf) != (((nth (b.nd) (k))).lf))) || decide (¬((((nth (a.nd) (k))).ac) = (((nth (b.nd) (k))).ac))))))) (bbT g7)) (by decide) ?_
     refine G_no (Eq.trans (@rfl V (V.bool (((((((nth (a.nd) (k))).lf) != (((nth (b.nd) (k))).lf))) || decide (¬((((nth (a.nd) (k))).ac) = (((nth (b.nd) (k))).ac))))))) (bbT g7)) (by decide) ?_
     refine G_no (Eq.trans (@rfl V (V.bool (((((((nth (a.nd) (k))).lf) != (((nth (b.nd) (k))).lf))) || decide (¬((((nth (a.nd) (k))).ac) = (((nth (b.nd) (k))).ac))))))) (bbT g7)) (by decide) ?_
     refine R_pickT (Eq.trans (@rfl V (V.bool (((((((nth (a.nd) (k))).lf) != (((nth (b.nd) (k))).lf))) || decide (¬((((nth (a.nd) (k))).ac) = (((nth (b.nd) (k))).ac))))))) (bbT g7)) (@rfl V (V.bool true)) ?_
     exact ⟨t2, t3, t5, t6, t7, (Eq.trans (@rfl V (V.bool true)) (borT g7)), h2, h3, h6, h7, trivial⟩
    ·
     refine G_yes (Eq.trans (@rfl V (V.bool (((((((nth (a.nd) (k))).lf) != (((nth (b.nd) (k))).lf))) || decide (¬((((nth (a.nd) (k))).ac) = (((nth (b.nd) (k))).ac))))))) (bbF g7)) ?_
     refine R_fld_mp (o' := 2) t6 h6 (by first | rfl | simp [okB, Blk.own]) rfl ?_
     refine G_yes (Eq.trans (@rfl V (V.bool (((((((nth (a.nd) (k))).lf) != (((nth (b.nd) (k))).lf))) || decide (¬((((nth (a.nd) (k))).ac) = (((nth (b.nd) (k))).ac))))))) (bbF g7)) ?_
     refine R_load_mp (v := (V.sl (List.map cI (((nth (a.nd) (k))).sf)))) (@rfl V (V.mp 6 (v6 + 1) 0 2)) h6 (by first | rfl | simp [ldB, ldV, Blk.own, V.one]) ?_
     refine G_yes (Eq.trans (@rfl V (V.bool (((((((nth (a.nd) (k))).lf) != (((nth (b.nd) (k))).lf))) || decide (¬((((nth (a.nd) (k))).ac) = (((nth (b.nd) (k))).ac))))))) (bbF g7)) ?_
     refine R_fld_mp (o' := 2) t7 h7 (by first | rfl | simp [okB, Blk.own]) rfl ?_
     refine G_yes (Eq.trans (@rfl V (V.bool (((((((nth (a.nd) (k))).lf) != (((nth (b.nd) (k))).lf))) || decide (¬((((nth (a.nd) (k))).ac) = (((nth (b.nd) (k))).ac))))))) (bbF g7)) ?_
     refine R_load_mp (v := (V.sl (List.map cI (((nth (b.nd) (k))).sf)))) (@rfl V (V.mp 7 (v7 + 1) 0 2)) h7 (by first | rfl | simp [ldB, ldV, Blk.own, V.one]) ?_
     refine G_yes (Eq.trans (@rfl V (V.bool (((((((nth (a.nd) (k))).lf) != (((nth (b.nd) (k))).lf))) || decide (¬((((nth (a.nd) (k))).ac) = (((nth (b.nd) (k))).ac))))))) (bbF g7)) ?_
     refine R_call (evcons (@rfl V (V.sl (List.map cI (((nth (a.nd) (k))).sf)))) (evcons (@rfl V (V.sl (List.map cI (((nth (b.nd) (k))).sf)))) evnil)) (ints_pure (((nth (a.nd) (k))).sf) (((nth (b.nd) (k))).sf)) (fzv_mapcanon _ _ (by simp [-List.map_take, -List.map_drop, -List.map_append, -List.map_reverse])) (by simp [-List.map_take, -List.map_drop, -List.map_append, -List.map_reverse]) (Or.inl (by simp [-List.map_take, -List.map_drop, -List.map_append, -List.map_reverse])) ?_
     refine G_yes (Eq.trans (@rfl V (V.bool (((((((nth (a.nd) (k))).lf) != (((nth (b.nd) (k))).lf))) || decide (¬((((nth (a.nd) (k))).ac) = (((nth (b.nd) (k))).ac))))))) (bbF g7)) ?_
     refine R_not (p := (((nth (a.nd) (k))).sf) = (((nth (b.nd) (k))).sf)) (@rfl V (V.bool (decide ((((nth (a.nd) (k))).sf) = (((nth (b.nd) (k))).sf))))) ?_
     refine R_pickF (Eq.trans (@rfl V (V.bool (((((((nth (a.nd) (k))).lf) != (((nth (b.nd) (k))).lf))) || decide (¬((((nth (a.nd) (k))).ac) = (((nth (b.nd) (k))).ac))))))) (bbF g7)) (@rfl V (V.bool (decide (¬((((nth (a.nd) (k))).sf) = (((nth (b.nd) (k))).sf)))))) ?_
     exact ⟨t2, t3, t5, t6, t7, (Eq.trans (@rfl V (V.bool (decide (¬((((nth (a.nd) (k))).sf) = (((nth (b.nd) (k))).sf)))))) (borF g7)), h2, h3, h6, h7, trivial⟩
   intro T H ⟨t2, t3, t5, t6, t7, t52, h2, h3, h6, h7, _⟩
   refine R_mv t52 ?_
   refine Ops_seg 7 (fun T H => T 2 = (V.mp 2 1 0 0) ∧ T 3 = (V.mp 3 1 0 0) ∧ T 5 = (iV ((k : Nat) : Int)) ∧ T 6 = (V.mp 6 (v6 + 1) 0 0) ∧ T 7 = (V.mp 7 (v7 + 1) 0 0) ∧ T 60 = (V.bool (((((((((((nth (a.nd) (k))).lf) != (((nth (b.nd) (k))).lf))) || decide (¬((((nth (a.nd) (k))).ac) = (((nth (b.nd) (k))).ac))))) || decide (¬((((nth (a.nd) (k))).sf) = (((nth (b.nd) (k))).sf))))) || decide (¬((((nth (a.nd) (k))).ou) = (((nth (b.nd) (k))).ou)))))) ∧ H 2 = (⟨1, true, false, 24, 1, [[(V.sl (List.map cN (a.nd)))]]⟩ : Blk) ∧ H 3 = (⟨1, true, false, 24, 1, [[(V.sl (List.map cN (b.nd)))]]⟩ : Blk) ∧ H 6 = (⟨v6 + 1, true, false, 68, 5, [[(V.bool (((nth (a.nd) (k))).lf)), (V.sl (List.map cI (((nth (a.nd) (k))).ac))), (V.sl (List.map cI (((nth (a.nd) (k))).sf))), (V.sl (List.map cL (((nth (a.nd) (k))).ou))), (V.sl (List.map cI (((nth (a.nd) (k))).kd)))]]⟩ : Blk) ∧ H 7 = (⟨v7 + 1, true, false, 68, 5, [[(V.bool (((nth (b.nd) (k))).lf)), (V.sl (List.map cI (((nth (b.nd) (k))).ac))), (V.sl (List.map cI (((nth (b.nd) (k))).sf))), (V.sl (List.map cL (((nth (b.nd) (k))).ou))), (V.sl (List.map cI (((nth (b.nd) (k))).kd)))]]⟩ : Blk) ∧ True) ?_ ?_
   ·
    by_cases g8 : (((((((((nth (a.nd) (k))).lf) != (((nth (b.nd) (k))).lf))) || decide (¬((((nth (a.nd) (k))).ac) = (((nth (b.nd) (k))).ac))))) || decide (¬((((nth (a.nd) (k))).sf) = (((nth (b.nd) (k))).sf))))) = true
    ·
     refine G_no (Eq.trans (@rfl V (V.bool (((((((((nth (a.nd) (k))).lf) != (((nth (b.nd) (k))).lf))) || decide (¬((((nth (a.nd) (k))).ac) = (((nth (b.nd) (k))).ac))))) || decide (¬((((nth (a.nd) (k))).sf) = (((nth (b.nd) (k))).sf))))))) (bbT g8)) (by decide) ?_
     refine G_no (Eq.trans (@rfl V (V.bool (((((((((nth (a.nd) (k))).lf) != (((nth (b.nd) (k))).lf))) || decide (¬((((nth (a.nd) (k))).ac) = (((nth (b.nd) (k))).ac))))) || decide (¬((((nth (a.nd) (k))).sf) = (((nth (b.nd) (k))).sf))))))) (bbT g8)) (by decide) ?_
     refine G_no (Eq.trans (@rfl V (V.bool (((((((((nth (a.nd) (k))).lf) != (((nth (b.nd) (k))).lf))) || decide (¬((((nth (a.nd) (k))).ac) = (((nth (b.nd) (k))).ac))))) || decide (¬((((nth (a.nd) (k))).sf) = (((nth (b.nd) (k))).sf))))))) (bbT g8)) (by decide) ?_
     refine G_no (Eq.trans (@rfl V (V.bool (((((((((nth (a.nd) (k))).lf) != (((nth (b.nd) (k))).lf))) || decide (¬((((nth (a.nd) (k))).ac) = (((nth (b.nd) (k))).ac))))) || decide (¬((((nth (a.nd) (k))).sf) = (((nth (b.nd) (k))).sf))))))) (bbT g8)) (by decide) ?_
     refine G_no (Eq.trans (@rfl V (V.bool (((((((((nth (a.nd) (k))).lf) != (((nth (b.nd) (k))).lf))) || decide (¬((((nth (a.nd) (k))).ac) = (((nth (b.nd) (k))).ac))))) || decide (¬((((nth (a.nd) (k))).sf) = (((nth (b.nd) (k))).sf))))))) (bbT g8)) (by decide) ?_
     refine G_no (Eq.trans (@rfl V (V.bool (((((((((nth (a.nd) (k))).lf) != (((nth (b.nd) (k))).lf))) || decide (¬((((nth (a.nd) (k))).ac) = (((nth (b.nd) (k))).ac))))) || decide (¬((((nth (a.nd) (k))).sf) = (((nth (b.nd) (k))).sf))))))) (bbT g8)) (by decide) ?_
     refine R_pickT (Eq.trans (@rfl V (V.bool (((((((((nth (a.nd) (k))).lf) != (((nth (b.nd) (k))).lf))) || decide (¬((((nth (a.nd) (k))).ac) = (((nth (b.nd) (k))).ac))))) || decide (¬((((nth (a.nd) (k))).sf) = (((nth (b.nd) (k))).sf))))))) (bbT g8)) (@rfl V (V.bool true)) ?_
     exact ⟨t2, t3, t5, t6, t7, (Eq.trans (@rfl V (V.bool true)) (borT g8)), h2, h3, h6, h7, trivial⟩
    ·
     refine G_yes (Eq.trans (@rfl V (V.bool (((((((((nth (a.nd) (k))).lf) != (((nth (b.nd) (k))).lf))) || decide (¬((((nth (a.nd) (k))).ac) = (((nth (b.nd) (k))).ac))))) || decide (¬((((nth (a.nd) (k))).sf) = (((nth (b.nd) (k))).sf))))))) (bbF g8)) ?_
     refine R_fld_mp (o' := 3) t6 h6 (by first | rfl | simp [okB, Blk.own]) rfl ?_
     refine G_yes (Eq.trans (@rfl V (V.bool (((((((((nth (a.nd) (k))).lf) != (((nth (b.nd) (k))).lf))) || decide (¬((((nth (a.nd) (k))).ac) = (((nth (b.nd) (k))).ac))))) || decide (¬((((nth (a.nd) (k))).sf) = (((nth (b.nd) (k))).sf))))))) (bbF g8)) ?_
     refine R_load_mp (v := (V.sl (List.map cL (((nth (a.nd) (k))).ou)))) (@rfl V (V.mp 6 (v6 + 1) 0 3)) h6 (by first | rfl | simp [ldB, ldV, Blk.own, V.one]) ?_
     refine G_yes (Eq.trans (@rfl V (V.bool (((((((((nth (a.nd) (k))).lf) != (((nth (b.nd) (k))).lf))) || decide (¬((((nth (a.nd) (k))).ac) = (((nth (b.nd) (k))).ac))))) || decide (¬((((nth (a.nd) (k))).sf) = (((nth (b.nd) (k))).sf))))))) (bbF g8)) ?_
     refine R_fld_mp (o' := 3) t7 h7 (by first | rfl | simp [okB, Blk.own]) rfl ?_
     refine G_yes (Eq.trans (@rfl V (V.bool (((((((((nth (a.nd) (k))).lf) != (((nth (b.nd) (k))).lf))) || decide (¬((((nth (a.nd) (k))).ac) = (((nth (b.nd) (k))).ac))))) || decide (¬((((nth (a.nd) (k))).sf) = (((nth (b.nd) (k))).sf))))))) (bbF g8)) ?_
     refine R_load_mp (v := (V.sl (List.map cL (((nth (b.nd) (k))).ou)))) (@rfl V (V.mp 7 (v7 + 1) 0 3)) h7 (by first | rfl | simp [ldB, ldV, Blk.own, V.one]) ?_
     refine G_yes (Eq.trans (@rfl V (V.bool (((((((((nth (a.nd) (k))).lf) != (((nth (b.nd) (k))).lf))) || decide (¬((((nth (a.nd) (k))).ac) = (((nth (b.nd) (k))).ac))))) || decide (¬((((nth (a.nd) (k))).sf) = (((nth (b.nd) (k))).sf))))))) (bbF g8)) ?_
     refine R_call (evcons (@rfl V (V.sl (List.map cL (((nth (a.nd) (k))).ou)))) (evcons (@rfl V (V.sl (List.map cL (((nth (b.nd) (k))).ou)))) evnil)) (lists_pure (((nth (a.nd) (k))).ou) (((nth (b.nd) (k))).ou)) (fzv_mapcanon _ _ (by simp [-List.map_take, -List.map_drop, -List.map_append, -List.map_reverse])) (by simp [-List.map_take, -List.map_drop, -List.map_append, -List.map_reverse]) (Or.inl (by simp [-List.map_take, -List.map_drop, -List.map_append, -List.map_reverse])) ?_
     refine G_yes (Eq.trans (@rfl V (V.bool (((((((((nth (a.nd) (k))).lf) != (((nth (b.nd) (k))).lf))) || decide (¬((((nth (a.nd) (k))).ac) = (((nth (b.nd) (k))).ac))))) || decide (¬((((nth (a.nd) (k))).sf) = (((nth (b.nd) (k))).sf))))))) (bbF g8)) ?_
     refine R_not (p := (((nth (a.nd) (k))).ou) = (((nth (b.nd) (k))).ou)) (@rfl V (V.bool (decide ((((nth (a.nd) (k))).ou) = (((nth (b.nd) (k))).ou))))) ?_
     refine R_pickF (Eq.trans (@rfl V (V.bool (((((((((nth (a.nd) (k))).lf) != (((nth (b.nd) (k))).lf))) || decide (¬((((nth (a.nd) (k))).ac) = (((nth (b.nd) (k))).ac))))) || decide (¬((((nth (a.nd) (k))).sf) = (((nth (b.nd) (k))).sf))))))) (bbF g8)) (@rfl V (V.bool (decide (¬((((nth (a.nd) (k))).ou) = (((nth (b.nd) (k))).ou)))))) ?_
     exact ⟨t2, t3, t5, t6, t7, (Eq.trans (@rfl V (V.bool (decide (¬((((nth (a.nd) (k))).ou) = (((nth (b.nd) (k))).ou)))))) (borF g8)), h2, h3, h6, h7, trivial⟩
   intro T H ⟨t2, t3, t5, t6, t7, t60, h2, h3, h6, h7, _⟩
   refine R_mv t60 ?_
   refine Ops_seg 7 (fun T H => T 2 = (V.mp 2 1 0 0) ∧ T 3 = (V.mp 3 1 0 0) ∧ T 5 = (iV ((k : Nat) : Int)) ∧ T 68 = (V.bool (((((((((((((nth (a.nd) (k))).lf) != (((nth (b.nd) (k))).lf))) || decide (¬((((nth (a.nd) (k))).ac) = (((nth (b.nd) (k))).ac))))) || decide (¬((((nth (a.nd) (k))).sf) = (((nth (b.nd) (k))).sf))))) || decide (¬((((nth (a.nd) (k))).ou) = (((nth (b.nd) (k))).ou))))) || decide (¬((((nth (a.nd) (k))).kd) = (((nth (b.nd) (k))).kd)))))) ∧ H 2 = (⟨1, true, false, 24, 1, [[(V.sl (List.map cN (a.nd)))]]⟩ : Blk) ∧ H 3 = (⟨1, true, false, 24, 1, [[(V.sl (List.map cN (b.nd)))]]⟩ : Blk) ∧ H 6 = (⟨v6 + 1, true, false, 68, 5, [[(V.bool (((nth (a.nd) (k))).lf)), (V.sl (List.map cI (((nth (a.nd) (k))).ac))), (V.sl (List.map cI (((nth (a.nd) (k))).sf))), (V.sl (List.map cL (((nth (a.nd) (k))).ou))), (V.sl (List.map cI (((nth (a.nd) (k))).kd)))]]⟩ : Blk) ∧ H 7 = (⟨v7 + 1, true, false, 68, 5, [[(V.bool (((nth (b.nd) (k))).lf)), (V.sl (List.map cI (((nth (b.nd) (k))).ac))), (V.sl (List.map cI (((nth (b.nd) (k))).sf))), (V.sl (List.map cL (((nth (b.nd) (k))).ou))), (V.sl (List.map cI (((nth (b.nd) (k))).kd)))]]⟩ : Blk) ∧ True) ?_ ?_
   ·
    by_cases g9 : (((((((((((nth (a.nd) (k))).lf) != (((nth (b.nd) (k))).lf))) || decide (¬((((nth (a.nd) (k))).ac) = (((nth (b.nd) (k))).ac))))) || decide (¬((((nth (a.nd) (k))).sf) = (((nth (b.nd) (k))).sf))))) || decide (¬((((nth (a.nd) (k))).ou) = (((nth (b.nd) (k))).ou))))) = true
    ·
     refine G_no (Eq.trans (@rfl V (V.bool (((((((((((nth (a.nd) (k))).lf) != (((nth (b.nd) (k))).lf))) || decide (¬((((nth (a.nd) (k))).ac) = (((nth (b.nd) (k))).ac))))) || decide (¬((((nth (a.nd) (k))).sf) = (((nth (b.nd) (k))).sf))))) || decide (¬((((nth (a.nd) (k))).ou) = (((nth (b.nd) (k))).ou))))))) (bbT g9)) (by decide) ?_
     refine G_no (Eq.trans (@rfl V (V.bool (((((((((((nth (a.nd) (k))).lf) != (((nth (b.nd) (k))).lf))) || decide (¬((((nth (a.nd) (k))).ac) = (((nth (b.nd) (k))).ac))))) || decide (¬((((nth (a.nd) (k))).sf) = (((nth (b.nd) (k))).sf))))) || decide (¬((((nth (a.nd) (k))).ou) = (((nth (b.nd) (k))).ou))))))) (bbT g9)) (by decide) ?_
     refine G_no (Eq.trans (@rfl V (V.bool (((((((((((nth (a.nd) (k))).lf) != (((nth (b.nd) (k))).lf))) || decide (¬((((nth (a.nd) (k))).ac) = (((nth (b.nd) (k))).ac))))) || decide (¬((((nth (a.nd) (k))).sf) = (((nth (b.nd) (k))).sf))))) || decide (¬((((nth (a.nd) (k))).ou) = (((nth (b.nd) (k))).ou))))))) (bbT g9)) (by decide) ?_
     refine G_no (Eq.trans (@rfl V (V.bool (((((((((((nth (a.nd) (k))).lf) != (((nth (b.nd) (k))).lf))) || decide (¬((((nth (a.nd) (k))).ac) = (((nth (b.nd) (k))).ac))))) || decide (¬((((nth (a.nd) (k))).sf) = (((nth (b.nd) (k))).sf))))) || decide (¬((((nth (a.nd) (k))).ou) = (((nth (b.nd) (k))).ou))))))) (bbT g9)) (by decide) ?_
     refine G_no (Eq.trans (@rfl V (V.bool (((((((((((nth (a.nd) (k))).lf) != (((nth (b.nd) (k))).lf))) || decide (¬((((nth (a.nd) (k))).ac) = (((nth (b.nd) (k))).ac))))) || decide (¬((((nth (a.nd) (k))).sf) = (((nth (b.nd) (k))).sf))))) || decide (¬((((nth (a.nd) (k))).ou) = (((nth (b.nd) (k))).ou))))))) (bbT g9)) (by decide) ?_
     refine G_no (Eq.trans (@rfl V (V.bool (((((((((((nth (a.nd) (k))).lf) != (((nth (b.nd) (k))).lf))) || decide (¬((((nth (a.nd) (k))).ac) = (((nth (b.nd) (k))).ac))))) || decide (¬((((nth (a.nd) (k))).sf) = (((nth (b.nd) (k))).sf))))) || decide (¬((((nth (a.nd) (k))).ou) = (((nth (b.nd) (k))).ou))))))) (bbT g9)) (by decide) ?_
     refine R_pickT (Eq.trans (@rfl V (V.bool (((((((((((nth (a.nd) (k))).lf) != (((nth (b.nd) (k))).lf))) || decide (¬((((nth (a.nd) (k))).ac) = (((nth (b.nd) (k))).ac))))) || decide (¬((((nth (a.nd) (k))).sf) = (((nth (b.nd) (k))).sf))))) || decide (¬((((nth (a.nd) (k))).ou) = (((nth (b.nd) (k))).ou))))))) (bbT g9)) (@rfl V (V.bool true)) ?_
     exact ⟨t2, t3, t5, (Eq.trans (@rfl V (V.bool true)) (borT g9)), h2, h3, h6, h7, trivial⟩
    ·
     refine G_yes (Eq.trans (@rfl V (V.bool (((((((((((nth (a.nd) (k))).lf) != (((nth (b.nd) (k))).lf))) || decide (¬((((nth (a.nd) (k))).ac) = (((nth (b.nd) (k))).ac))))) || decide (¬((((nth (a.nd) (k))).sf) = (((nth (b.nd) (k))).sf))))) || decide (¬((((nth (a.nd) (k))).ou) = (((nth (b.nd) (k))).ou))))))) (bbF g9)) ?_
     refine R_fld_mp (o' := 4) t6 h6 (by first | rfl | simp [okB, Blk.own]) rfl ?_
     refine G_yes (Eq.trans (@rfl V (V.bool (((((((((((nth (a.nd) (k))).lf) != (((nth (b.nd) (k))).lf))) || decide (¬((((nth (a.nd) (k))).ac) = (((nth (b.nd) (k))).ac))))) || decide (¬((((nth (a.nd) (k))).sf) = (((nth (b.nd) (k))).sf))))) || decide (¬((((nth (a.nd) (k))).ou) = (((nth (b.nd) (k))).ou))))))) (bbF g9)) ?_
     refine R_load_mp (v := (V.sl (List.map cI (((nth (a.nd) (k))).kd)))) (@rfl V (V.mp 6 (v6 + 1) 0 4)) h6 (by first | rfl | simp [ldB, ldV, Blk.own, V.one]) ?_
     refine G_yes (Eq.trans (@rfl V (V.bool (((((((((((nth (a.nd) (k))).lf) != (((nth (b.nd) (k))).lf))) || decide (¬((((nth (a.nd) (k))).ac) = (((nth (b.nd) (k))).ac))))) || decide (¬((((nth (a.nd) (k))).sf) = (((nth (b.nd) (k))).sf))))) || decide (¬((((nth (a.nd) (k))).ou) = (((nth (b.nd) (k))).ou))))))) (bbF g9)) ?_
     refine R_fld_mp (o' := 4) t7 h7 (by first | rfl | simp [okB, Blk.own]) rfl ?_
     refine G_yes (Eq.trans (@rfl V (V.bool (((((((((((nth (a.nd) (k))).lf) != (((nth (b.nd) (k))).lf))) || decide (¬((((nth (a.nd) (k))).ac) = (((nth (b.nd) (k))).ac))))) || decide (¬((((nth (a.nd) (k))).sf) = (((nth (b.nd) (k))).sf))))) || decide (¬((((nth (a.nd) (k))).ou) = (((nth (b.nd) (k))).ou))))))) (bbF g9)) ?_
     refine R_load_mp (v := (V.sl (List.map cI (((nth (b.nd) (k))).kd)))) (@rfl V (V.mp 7 (v7 + 1) 0 4)) h7 (by first | rfl | simp [ldB, ldV, Blk.own, V.one]) ?_
     refine G_yes (Eq.trans (@rfl V (V.bool (((((((((((nth (a.nd) (k))).lf) != (((nth (b.nd) (k))).lf))) || decide (¬((((nth (a.nd) (k))).ac) = (((nth (b.nd) (k))).ac))))) || decide (¬((((nth (a.nd) (k))).sf) = (((nth (b.nd) (k))).sf))))) || decide (¬((((nth (a.nd) (k))).ou) = (((nth (b.nd) (k))).ou))))))) (bbF g9)) ?_
     refine R_call (evcons (@rfl V (V.sl (List.map cI (((nth (a.nd) (k))).kd)))) (evcons (@rfl V (V.sl (List.map cI (((nth (b.nd) (k))).kd)))) evnil)) (ints_pure (((nth (a.nd) (k))).kd) (((nth (b.nd) (k))).kd)) (fzv_mapcanon _ _ (by simp [-List.map_take, -List.map_drop, -List.map_append, -List.map_reverse])) (by simp [-List.map_take, -List.map_drop, -List.map_append, -List.map_reverse]) (Or.inl (by simp [-List.map_take, -List.map_drop, -List.map_append, -List.map_reverse])) ?_
     refine G_yes (Eq.trans (@rfl V (V.bool (((((((((((nth (a.nd) (k))).lf) != (((nth (b.nd) (k))).lf))) || decide (¬((((nth (a.nd) (k))).ac) = (((nth (b.nd) (k))).ac))))) || decide (¬((((nth (a.nd) (k))).sf) = (((nth (b.nd) (k))).sf))))) || decide (¬((((nth (a.nd) (k))).ou) = (((nth (b.nd) (k))).ou))))))) (bbF g9)) ?_
     refine R_not (p := (((nth (a.nd) (k))).kd) = (((nth (b.nd) (k))).kd)) (@rfl V (V.bool (decide ((((nth (a.nd) (k))).kd) = (((nth (b.nd) (k))).kd))))) ?_
     refine R_pickF (Eq.trans (@rfl V (V.bool (((((((((((nth (a.nd) (k))).lf) != (((nth (b.nd) (k))).lf))) || decide (¬((((nth (a.nd) (k))).ac) = (((nth (b.nd) (k))).ac))))) || decide (¬((((nth (a.nd) (k))).sf) = (((nth (b.nd) (k))).sf))))) || decide (¬((((nth (a.nd) (k))).ou) = (((nth (b.nd) (k))).ou))))))) (bbF g9)) (@rfl V (V.bool (decide (¬((((nth (a.nd) (k))).kd) = (((nth (b.nd) (k))).kd)))))) ?_
     exact ⟨t2, t3, t5, (Eq.trans (@rfl V (V.bool (decide (¬((((nth (a.nd) (k))).kd) = (((nth (b.nd) (k))).kd)))))) (borF g9)), h2, h3, h6, h7, trivial⟩
   intro T H ⟨t2, t3, t5, t68, h2, h3, h6, h7, _⟩
   exact R_nil ⟨t2, t3, t5, t68, h2, h3, h6, h7, trivial⟩
  intro T H ⟨t2, t3, t5, t68, h2, h3, h6, h7, _⟩
  refine W_ifb t68 (fun c10 => ?_) (fun c10 => ?_)
  ·
   have d1 : nth a.nd k ≠ nth b.nd k := fun e => by rw [e] at c10; simp at c10
   refine W_seq_regc (fun T H => T 4 = (V.bool false) ∧ H 2 = (⟨1, true, false, 24, 1, [[(V.sl (List.map cN (a.nd)))]]⟩ : Blk) ∧ H 3 = (⟨1, true, false, 24, 1, [[(V.sl (List.map cN (b.nd)))]]⟩ : Blk) ∧ H 6 = (⟨v6 + 1, true, false, 68, 5, [[(V.bool (((nth (a.nd) (k))).lf)), (V.sl (List.map cI (((nth (a.nd) (k))).ac))), (V.sl (List.map cI (((nth (a.nd) (k))).sf))), (V.sl (List.map cL (((nth (a.nd) (k))).ou))), (V.sl (List.map cI (((nth (a.nd) (k))).kd)))]]⟩ : Blk) ∧ H 7 = (⟨v7 + 1, true, false, 68, 5, [[(V.bool (((nth (b.nd) (k))).lf)), (V.sl (List.map cI (((nth (b.nd) (k))).ac))), (V.sl (List.map cI (((nth (b.nd) (k))).sf))), (V.sl (List.map cL (((nth (b.nd) (k))).ou))), (V.sl (List.map cI (((nth (b.nd) (k))).kd)))]]⟩ : Blk) ∧ True) ?_ ?_
   ·
    unfold r16_8
    refine R_mv (@rfl V (V.bool false)) ?_
    exact R_nil ⟨rfl, h2, h3, h6, h7, trivial⟩
   intro T H ⟨t4, h2, h3, h6, h7, _⟩
   refine W_ret ?_
   refine y5 _ _ ?_
   refine p23 _ _ ?_
   refine y2 _ _ ?_
   refine Ret_1 t4 (fz_bool ?_)
   · exact (decide_eq_false (fun e => d1 (by subst e; rfl))).symm
  have d1 : nth a.nd k = nth b.nd k := Nd.eq_iff.2 (by simpa [and_assoc] using c10)
  refine W_skip ?_
  refine n5 _ _ ?_
  refine .freeze 6 ?_
  refine fork_ (R := fun T H => T 2 = (V.mp 2 1 0 0) ∧ T 3 = (V.mp 3 1 0 0) ∧ T 5 = (iV ((k : Nat) : Int)) ∧ T 68 = (V.bool (((((((((((((nth (a.nd) (k))).lf) != (((nth (b.nd) (k))).lf))) || decide (¬((((nth (a.nd) (k))).ac) = (((nth (b.nd) (k))).ac))))) || decide (¬((((nth (a.nd) (k))).sf) = (((nth (b.nd) (k))).sf))))) || decide (¬((((nth (a.nd) (k))).ou) = (((nth (b.nd) (k))).ou))))) || decide (¬((((nth (a.nd) (k))).kd) = (((nth (b.nd) (k))).kd)))))) ∧ H 2 = (⟨1, true, false, 24, 1, [[(V.sl (List.map cN (a.nd)))]]⟩ : Blk) ∧ H 3 = (⟨1, true, false, 24, 1, [[(V.sl (List.map cN (b.nd)))]]⟩ : Blk) ∧ ((H 6).ver = v6 + 1 ∧ (H 6).live = false) ∧ H 7 = (⟨v7 + 1, true, false, 68, 5, [[(V.bool (((nth (b.nd) (k))).lf)), (V.sl (List.map cI (((nth (b.nd) (k))).ac))), (V.sl (List.map cI (((nth (b.nd) (k))).sf))), (V.sl (List.map cL (((nth (b.nd) (k))).ou))), (V.sl (List.map cI (((nth (b.nd) (k))).kd)))]]⟩ : Blk) ∧ True) ⟨(fzT_q t2 rfl), (fzT_q t3 rfl), (fzT_q t5 rfl), (fzT_q t68 rfl), (kill_ne h2 (by decide)), (kill_ne h3 (by decide)), (kill_self (congrArg Blk.ver h6)), (kill_ne h7 (by decide)), trivial⟩ ?_
  clear t2 t3 t5 t68 h2 h3 h6 h7 T H
  intro T H ⟨t2, t3, t5, t68, h2, h3, h6, h7, _⟩
  refine .freeze 7 (.done ?_)
  refine fork_ (R := fun T H => T 2 = (V.mp 2 1 0 0) ∧ T 3 = (V.mp 3 1 0 0) ∧ T 5 = (iV ((k : Nat) : Int)) ∧ T 68 = (V.bool (((((((((((((nth (a.nd) (k))).lf) != (((nth (b.nd) (k))).lf))) || decide (¬((((nth (a.nd) (k))).ac) = (((nth (b.nd) (k))).ac))))) || decide (¬((((nth (a.nd) (k))).sf) = (((nth (b.nd) (k))).sf))))) || decide (¬((((nth (a.nd) (k))).ou) = (((nth (b.nd) (k))).ou))))) || decide (¬((((nth (a.nd) (k))).kd) = (((nth (b.nd) (k))).kd)))))) ∧ H 2 = (⟨1, true, false, 24, 1, [[(V.sl (List.map cN (a.nd)))]]⟩ : Blk) ∧ H 3 = (⟨1, true, false, 24, 1, [[(V.sl (List.map cN (b.nd)))]]⟩ : Blk) ∧ ((H 6).ver = v6 + 1 ∧ (H 6).live = false) ∧ ((H 7).ver = v7 + 1 ∧ (H 7).live = false) ∧ True) ⟨(fzT_q t2 rfl), (fzT_q t3 rfl), (fzT_q t5 rfl), (fzT_q t68 rfl), (kill_ne h2 (by decide)), (kill_ne h3 (by decide)), (kill_dead h6), (kill_self (congrArg Blk.ver h7)), trivial⟩ ?_
  clear t2 t3 t5 t68 h2 h3 h6 h7 T H
  intro T H ⟨t2, t3, t5, t68, h2, h3, h6, h7, _⟩
  refine W_regc (fun T H => T 2 = (V.mp 2 1 0 0) ∧ T 3 = (V.mp 3 1 0 0) ∧ T 5 = (iV ((k + 1 : Nat) : Int)) ∧ H 2 = (⟨1, true, false, 24, 1, [[(V.sl (List.map cN (a.nd)))]]⟩ : Blk) ∧ H 3 = (⟨1, true, false, 24, 1, [[(V.sl (List.map cN (b.nd)))]]⟩ : Blk) ∧ ((H 6).ver = v6 + 1 ∧ (H 6).live = false) ∧ ((H 7).ver = v7 + 1 ∧ (H 7).live = false) ∧ True) ?_ ?_
  ·
   unfold r16_5
   refine R_mv t5 ?_
   refine R_addN (m := k) (n := 1) (@rfl V (iV ((k : Nat) : Int))) (@rfl V (iV ((1 : Nat) : Int))) (by omega) ?_
   refine R_mv (@rfl V (iV ((k + 1 : Nat) : Int))) ?_
   exact R_nil ⟨t2, t3, rfl, h2, h3, h6, h7, trivial⟩
  intro T H ⟨t2, t3, t5, h2, h3, h6, h7, _⟩
  refine p13 _ _ _ ?_ ⟨(k + 1), (v6 + 1), (v7 + 1), rfl, t2, t3, (Eq.trans t5 (by first | rfl | simp)), h2, h3, h6, h7, ?_, ?_, ?_⟩
  · omega
  · omega
  · omega
  · intro j hj
    by_cases e : j = k
    · subst e; exact d1
    · exact hc j (by omega)
 refine W_seq_exit ?_
 refine p33 _ _ _ ?_
 refine x2 _ _ ?_
 refine .done ?_
 refine W_seq_regc (fun T H => T 4 = (V.bool true) ∧ H 2 = (⟨1, true, false, 24, 1, [[(V.sl (List.map cN (a.nd)))]]⟩ : Blk) ∧ H 3 = (⟨1, true, false, 24, 1, [[(V.sl (List.map cN (b.nd)))]]⟩ : Blk) ∧ ((H 6).ver = v6 ∧ (H 6).live = false) ∧ ((H 7).ver = v7 ∧ (H 7).live = false) ∧ True) ?_ ?_
 ·
  unfold r16_9
  refine R_mv (@rfl V (V.bool true)) ?_
  exact R_nil ⟨rfl, h2, h3, h6, h7, trivial⟩
 intro T H ⟨t4, h2, h3, h6, h7, _⟩
 refine W_ret ?_
 refine Ret_1 t4 (fz_bool ?_)
 · exact (decide_eq_true (Dt.eq_iff.2 (nth_ext hl fun j hj => hc j (by omega)))).symm
end Go.Proofs.YtmnjchcoigbngaaGreat


namespace Go.Proofs.YtmnjchcoigbngaaGreat
open Go Go.Proofs
theorem dnew_pure  : PureC Tryz.prog 17 [] (V.agg [(V.sl (List.map cN ([lfN []])))]) := by
 refine pure_of_Wb true 6 Tryz.func17 s17_ok (by kernel_rfl) (by simp [s17]) (by simp) (by simp) fun hB => ?_
 simp only [bnd_map, bnd_int, bnd_bool, bnd_str, bnd_agg, bnd_pp, bnd_nil, bnd_cons, implies_true, and_true, true_and] at hB
 unfold s17
 dsimp only
 refine W_seq_regc (fun T H => T 0 = (V.mp 0 1 0 0) ∧ H 0 = (⟨1, true, false, 24, 1, [[V.nilsl]]⟩ : Blk) ∧ True) ?_ ?_
 ·
  unfold r17_0
  refine R_alloc (i := 0) (n := 0) (m := 1) rfl (congrArg Blk.ver rfl) rfl ?_
  exact R_nil ⟨rfl, rfl, trivial⟩
 intro T H ⟨t0, h0, _⟩
 refine W_seq_regc (fun T H => T 0 = (V.mp 0 1 0 0) ∧ H 0 = (⟨1, true, false, 24, 1, [[(V.sl [[(V.bool true), V.nilsl, V.nilsl, V.nilsl, V.nilsl]])]]⟩ : Blk) ∧ True) ?_ ?_
 ·
  unfold r17_1
  refine R_build (qs := [(0, 1, (V.bool true))]) (cs := [(V.bool true), V.nilsl, V.nilsl, V.nilsl, V.nilsl]) (mcons (congrArg (fun v => (0, 1, v)) (@rfl V (V.bool true))) rfl) rfl ?_
  refine R_bslice (qs := [(0, (V.agg [(V.bool true), V.nilsl, V.nilsl, V.nilsl, V.nilsl]))]) (rows := [[(V.bool true), V.nilsl, V.nilsl, V.nilsl, V.nilsl]]) (mcons (congrArg (fun v => (0, v)) (@rfl V (V.agg [(V.bool true), V.nilsl, V.nilsl, V.nilsl, V.nilsl]))) rfl) rfl ?_
  refine R_build (qs := [(0, 1, (V.sl [[(V.bool true), V.nilsl, V.nilsl, V.nilsl, V.nilsl]]))]) (cs := [(V.sl [[(V.bool true), V.nilsl, V.nilsl, V.nilsl, V.nilsl]])]) (mcons (congrArg (fun v => (0, 1, v)) (@rfl V (V.sl [[(V.bool true), V.nilsl, V.nilsl, V.nilsl, V.nilsl]]))) rfl) rfl ?_
  refine R_store (vs := [(V.sl [[(V.bool true), V.nilsl, V.nilsl, V.nilsl, V.nilsl]])]) (B' := (⟨1, true, false, 24, 1, [[(V.sl [[(V.bool true), V.nilsl, V.nilsl, V.nilsl, V.nilsl]])]]⟩ : Blk)) t0 (@rfl V (V.agg [(V.sl [[(V.bool true), V.nilsl, V.nilsl, V.nilsl, V.nilsl]])])) rfl h0 (by first | rfl | simp [stB, okB, Blk.own, putAt, V.one]) ?_
  exact R_nil ⟨t0, rfl, trivial⟩
 intro T H ⟨t0, h0, _⟩
 refine W_ret ?_
 refine RetC_1 (resV_c (u := (V.agg [(V.sl [[(V.bool true), V.nilsl, V.nilsl, V.nilsl, V.nilsl]])])) t0 h0 (by first | rfl | simp [ldB, ldV, Blk.own, V.one])) (fz_agg1 ?_)
 · simp [fzv, lfN]
end Go.Proofs.YtmnjchcoigbngaaGreat


namespace Go.Proofs.YtmnjchcoigbngaaGreat
open Go Go.Proofs
def r18_0 : List SO := [
  ⟨none, some 0, .alloc 24 [.nilsl]⟩]
def r18_1 : List SO := [
  ⟨none, some 1, .build [.bool false, .nilsl, .nilsl, .nilsl, .nilsl] [(0, 1, .c (.bool true))]⟩,
  ⟨none, some 2, .bslice 68 5 false [.bool false, .nilsl, .nilsl, .nilsl, .nilsl] 1 [(0, .t 1)]⟩,
  ⟨none, some 3, .build [.nilsl] [(0, 1, .t 2)]⟩,
  ⟨none, none, .store 1 (.t 0) (.t 3)⟩]
def s18 : SF := ⟨4, [.cell 0 true 1], .seq (.reg r18_0) (.seq (.reg r18_1) (.ret))⟩
theorem s18_ok : slimF Tryz.prog ⟨[57, 58, 59, 63, 67, 68, 77, 102, 103, 104, 110, 116, 120], []⟩ Tryz.f18 = some s18 := by kernel_rfl
end Go.Proofs.YtmnjchcoigbngaaGreat


namespace Go.Proofs.YtmnjchcoigbngaaGreat
open Go Go.Proofs
theorem rdnew_pure  : PureC Tryz.prog 18 [] (V.agg [(V.sl (List.map cN ([lfN []])))]) := by
 refine pure_of_Wb true 6 Tryz.func18 s18_ok (by kernel_rfl) (by simp [s18]) (by simp) (by simp) fun hB => ?_
 simp only [bnd_map, bnd_int, bnd_bool, bnd_str, bnd_agg, bnd_pp, bnd_nil, bnd_cons, implies_true, and_true, true_and] at hB
 unfold s18
 dsimp only
 refine W_seq_regc (fun T H => T 0 = (V.mp 0 1 0 0) ∧ H 0 = (⟨1, true, false, 24, 1, [[V.nilsl]]⟩ : Blk) ∧ True) ?_ ?_
 ·
  unfold r18_0
  refine R_alloc (i := 0) (n := 0) (m := 1) rfl (congrArg Blk.ver rfl) rfl ?_
  exact R_nil ⟨rfl, rfl, trivial⟩
 intro T H ⟨t0, h0, _⟩
 refine W_seq_regc (fun T H => T 0 = (V.mp 0 1 0 0) ∧ H 0 = (⟨1, true, false, 24, 1, [[(V.sl [[(V.bool true), V.nilsl, V.nilsl, V.nilsl, V.nilsl]])]]⟩ : Blk) ∧ True) ?_ ?_
 ·
  unfold r18_1
  refine R_build (qs := [(0, 1, (V.bool true))]) (cs := [(V.bool true), V.nilsl, V.nilsl, V.nilsl, V.nilsl]) (mcons (congrArg (fun v => (0, 1, v)) (@rfl V (V.bool true))) rfl) rfl ?_
  refine R_bslice (qs := [(0, (V.agg [(V.bool true), V.nilsl, V.nilsl, V.nilsl, V.nilsl]))]) (rows := [[(V.bool true), V.nilsl, V.nilsl, V.nilsl, V.nilsl]]) (mcons (congrArg (fun v => (0, v)) (@rfl V (V.agg [(V.bool true), V.nilsl, V.nilsl, V.nilsl, V.nilsl]))) rfl) rfl ?_
  refine R_build (qs := [(0, 1, (V.sl [[(V.bool true), V.nilsl, V.nilsl, V.nilsl, V.nilsl]]))]) (cs := [(V.sl [[(V.bool true), V.nilsl, V.nilsl, V.nilsl, V.nilsl]])]) (mcons (congrArg (fun v => (0, 1, v)) (@rfl V (V.sl [[(V.bool true), V.nilsl, V.nilsl, V.nilsl, V.nilsl]]))) rfl) rfl ?_
  refine R_store (vs := [(V.sl [[(V.bool true), V.nilsl, V.nilsl, V.nilsl, V.nilsl]])]) (B' := (⟨1, true, false, 24, 1, [[(V.sl [[(V.bool true), V.nilsl, V.nilsl, V.nilsl, V.nilsl]])]]⟩ : Blk)) t0 (@rfl V (V.agg [(V.sl [[(V.bool true), V.nilsl, V.nilsl, V.nilsl, V.nilsl]])])) rfl h0 (by first | rfl | simp [stB, okB, Blk.own, putAt, V.one]) ?_
  exact R_nil ⟨t0, rfl, trivial⟩
 intro T H ⟨t0, h0, _⟩
 refine W_ret ?_
 refine RetC_1 (resV_c (u := (V.agg [(V.sl [[(V.bool true), V.nilsl, V.nilsl, V.nilsl, V.nilsl]])])) t0 h0 (by first | rfl | simp [ldB, ldV, Blk.own, V.one])) (fz_agg1 ?_)
 · simp [fzv, lfN]
end Go.Proofs.YtmnjchcoigbngaaGreat


namespace Go.Proofs.YtmnjchcoigbngaaGreat
open Go Go.Proofs
theorem law3_pure (t : Dt) : PureC Tryz.prog 3 [(V.agg [(V.sl (List.map cN (t.nd)))])] (V.bool true) := by
 refine pure_of_Wb true 6 Tryz.func3 s3_ok (by kernel_rfl) (by simp [s3]) (by simp) (by simp) fun hB => ?_
 simp only [bnd_map, bnd_int, bnd_bool, bnd_str, bnd_agg, bnd_pp, bnd_nil, bnd_cons, implies_true, and_true, true_and] at hB
 unfold s3
 dsimp only
 refine W_seq_regc (fun T H => T 1 = (V.mp 1 1 0 0) ∧ H 1 = (⟨1, true, false, 24, 1, [[(V.sl (List.map cN (t.nd)))]]⟩ : Blk) ∧ True) ?_ ?_
 ·
  unfold r3_0
  refine R_box (i := 1) (n := 0) (m := 1) (cs := [(V.sl (List.map cN (t.nd)))]) rfl (congrArg Blk.ver rfl) (@rfl V (V.agg [(V.sl (List.map cN (t.nd)))])) rfl rfl ?_
  refine R_mv (@rfl V (V.bool false)) ?_
  exact R_nil ⟨rfl, rfl, trivial⟩
 intro T H ⟨t1, h1, _⟩
 refine W_seq_seq ?_
 refine W_seq_regc (fun T H => T 1 = (V.mp 1 1 0 0) ∧ T 4 = (V.bool (bgT t)) ∧ H 1 = (⟨1, true, false, 24, 1, [[(V.sl (List.map cN (t.nd)))]]⟩ : Blk) ∧ True) ?_ ?_
 ·
  unfold r3_1
  refine R_load_mp (v := (V.agg [(V.sl (List.map cN (t.nd)))])) t1 h1 (by first | rfl | simp [ldB, ldV, Blk.own, V.one]) ?_
  refine R_call (evcons (@rfl V (V.agg [(V.sl (List.map cN (t.nd)))])) evnil) (great_pure t) (fzv_mapcanon _ _ (by simp [-List.map_take, -List.map_drop, -List.map_append, -List.map_reverse])) (by simp [-List.map_take, -List.map_drop, -List.map_append, -List.map_reverse]) (Or.inl (by simp [-List.map_take, -List.map_drop, -List.map_append, -List.map_reverse])) ?_
  exact R_nil ⟨t1, rfl, h1, trivial⟩
 intro T H ⟨t1, t4, h1, _⟩
 refine W_seq_ifb t4 (fun c1 => ?_) (fun c1 => ?_)
 ·
  refine W_seq_seq ?_
  refine W_seq_regc (fun T H => T 2 = (V.bool true) ∧ H 1 = (⟨1, true, false, 24, 1, [[(V.sl (List.map cN (t.nd)))]]⟩ : Blk) ∧ True) ?_ ?_
  ·
   unfold r3_2
   refine R_call evnil (aw_learnerlaw26_awake_pure) (fzv_mapcanon _ _ (by simp [-List.map_take, -List.map_drop, -List.map_append, -List.map_reverse])) (by simp [-List.map_take, -List.map_drop, -List.map_append, -List.map_reverse]) (Or.inl (by simp [-List.map_take, -List.map_drop, -List.map_append, -List.map_reverse])) ?_
   refine R_mv (@rfl V (V.bool true)) ?_
   exact R_nil ⟨rfl, h1, trivial⟩
  intro T H ⟨t2, h1, _⟩
  refine W_seq_ret ?_
  refine Ret_1 t2 (fz_canon (by simp) rfl)
 have hb := bg_bd (t := t) (by simpa using c1)
 refine W_seq_skip ?_
 refine W_seq_regc (fun T H => T 2 = (V.bool (decide ((((dvE t) = (dvE t)) ∧ (((if dvE t = 0 then sdW (acL t.nd) else [])) = ((if dvE t = 0 then sdW (acL t.nd) else [])))) ∧ ((⟨([lfN []])⟩ : Dt) = (⟨([lfN []])⟩ : Dt))))) ∧ H 1 = (⟨1, true, false, 24, 1, [[(V.sl (List.map cN (t.nd)))]]⟩ : Blk) ∧ True) ?_ ?_
 ·
  unfold r3_3
  refine R_load_mp (v := (V.agg [(V.sl (List.map cN (t.nd)))])) t1 h1 (by first | rfl | simp [ldB, ldV, Blk.own, V.one]) ?_
  refine R_call (evcons (@rfl V (V.agg [(V.sl (List.map cN (t.nd)))])) evnil) (dvalid_pure t hb) (fzv_mapcanon _ _ (by simp [-List.map_take, -List.map_drop, -List.map_append, -List.map_reverse])) (by simp [-List.map_take, -List.map_drop, -List.map_append, -List.map_reverse]) (Or.inl (by simp [-List.map_take, -List.map_drop, -List.map_append, -List.map_reverse])) ?_
  refine R_load_mp (v := (V.agg [(V.sl (List.map cN (t.nd)))])) t1 h1 (by first | rfl | simp [ldB, ldV, Blk.own, V.one]) ?_
  refine R_call (evcons (@rfl V (V.agg [(V.sl (List.map cN (t.nd)))])) evnil) (rdvalid_pure t hb) (fzv_mapcanon _ _ (by simp [-List.map_take, -List.map_drop, -List.map_append, -List.map_reverse])) (by simp [-List.map_take, -List.map_drop, -List.map_append, -List.map_reverse]) (Or.inl (by simp [-List.map_take, -List.map_drop, -List.map_append, -List.map_reverse])) ?_
  refine R_eql (x := (dvE t)) (y := (dvE t)) (@rfl V (iV (dvE t))) (@rfl V (iV (dvE t))) ?_
  refine R_mv (@rfl V (V.bool (decide ((dvE t) = (dvE t))))) ?_
  refine Ops_seg 6 (fun T H => T 17 = (V.bool (decide (((dvE t) = (dvE t)) ∧ (((if dvE t = 0 then sdW (acL t.nd) else [])) = ((if dvE t = 0 then sdW (acL t.nd) else [])))))) ∧ H 1 = (⟨1, true, false, 24, 1, [[(V.sl (List.map cN (t.nd)))]]⟩ : Blk) ∧ True) ?_ ?_
  ·
   by_cases g2 : (dvE t) = (dvE t)
   ·
    refine G_yes (Eq.trans (@rfl V (V.bool (decide ((dvE t) = (dvE t))))) (bdT g2)) ?_
    refine R_load_mp (v := (V.agg [(V.sl (List.map cN (t.nd)))])) t1 h1 (by first | rfl | simp [ldB, ldV, Blk.own, V.one]) ?_
    refine G_yes (Eq.trans (@rfl V (V.bool (decide ((dvE t) = (dvE t))))) (bdT g2)) ?_
    refine R_call (evcons (@rfl V (V.agg [(V.sl (List.map cN (t.nd)))])) evnil) (dleaves_pure t hb) (fzv_mapcanon _ _ (by simp [-List.map_take, -List.map_drop, -List.map_append, -List.map_reverse])) (by simp [-List.map_take, -List.map_drop, -List.map_append, -List.map_reverse]) (Or.inl (by simp [-List.map_take, -List.map_drop, -List.map_append, -List.map_reverse])) ?_
    refine G_yes (Eq.trans (@rfl V (V.bool (decide ((dvE t) = (dvE t))))) (bdT g2)) ?_
    refine R_load_mp (v := (V.agg [(V.sl (List.map cN (t.nd)))])) t1 h1 (by first | rfl | simp [ldB, ldV, Blk.own, V.one]) ?_
    refine G_yes (Eq.trans (@rfl V (V.bool (decide ((dvE t) = (dvE t))))) (bdT g2)) ?_
    refine R_call (evcons (@rfl V (V.agg [(V.sl (List.map cN (t.nd)))])) evnil) (rleaves_pure t hb) (fzv_mapcanon _ _ (by simp [-List.map_take, -List.map_drop, -List.map_append, -List.map_reverse])) (by simp [-List.map_take, -List.map_drop, -List.map_append, -List.map_reverse]) (Or.inl (by simp [-List.map_take, -List.map_drop, -List.map_append, -List.map_reverse])) ?_
    refine G_yes (Eq.trans (@rfl V (V.bool (decide ((dvE t) = (dvE t))))) (bdT g2)) ?_
    refine R_call (evcons (@rfl V (V.sl (List.map cL ((if dvE t = 0 then sdW (acL t.nd) else []))))) (evcons (@rfl V (V.sl (List.map cL ((if dvE t = 0 then sdW (acL t.nd) else []))))) evnil)) (swords_pure ((if dvE t = 0 then sdW (acL t.nd) else [])) ((if dvE t = 0 then sdW (acL t.nd) else []))) (fzv_mapcanon _ _ (by simp [-List.map_take, -List.map_drop, -List.map_append, -List.map_reverse])) (by simp [-List.map_take, -List.map_drop, -List.map_append, -List.map_reverse]) (Or.inl (by simp [-List.map_take, -List.map_drop, -List.map_append, -List.map_reverse])) ?_
    refine R_pickT (Eq.trans (@rfl V (V.bool (decide ((dvE t) = (dvE t))))) (bdT g2)) (@rfl V (V.bool (decide (((if dvE t = 0 then sdW (acL t.nd) else [])) = ((if dvE t = 0 then sdW (acL t.nd) else [])))))) ?_
    exact ⟨(Eq.trans (@rfl V (V.bool (decide (((if dvE t = 0 then sdW (acL t.nd) else [])) = ((if dvE t = 0 then sdW (acL t.nd) else [])))))) (dec_andT g2)), h1, trivial⟩
   ·
    refine G_no (Eq.trans (@rfl V (V.bool (decide ((dvE t) = (dvE t))))) (bdF g2)) (by decide) ?_
    refine G_no (Eq.trans (@rfl V (V.bool (decide ((dvE t) = (dvE t))))) (bdF g2)) (by decide) ?_
    refine G_no (Eq.trans (@rfl V (V.bool (decide ((dvE t) = (dvE t))))) (bdF g2)) (by decide) ?_
    refine G_no (Eq.trans (@rfl V (V.bool (decide ((dvE t) = (dvE t))))) (bdF g2)) (by decide) ?_
    refine G_no (Eq.trans (@rfl V (V.bool (decide ((dvE t) = (dvE t))))) (bdF g2)) (by decide) ?_
    refine R_pickF (Eq.trans (@rfl V (V.bool (decide ((dvE t) = (dvE t))))) (bdF g2)) (@rfl V (V.bool false)) ?_
    exact ⟨(Eq.trans (@rfl V (V.bool false)) (dec_andF g2)), h1, trivial⟩
  intro T H ⟨t17, h1, _⟩
  refine R_mv t17 ?_
  refine Ops_seg 4 (fun T H => T 22 = (V.bool (decide ((((dvE t) = (dvE t)) ∧ (((if dvE t = 0 then sdW (acL t.nd) else [])) = ((if dvE t = 0 then sdW (acL t.nd) else [])))) ∧ ((⟨([lfN []])⟩ : Dt) = (⟨([lfN []])⟩ : Dt))))) ∧ H 1 = (⟨1, true, false, 24, 1, [[(V.sl (List.map cN (t.nd)))]]⟩ : Blk) ∧ True) ?_ ?_
  ·
   by_cases g3 : ((dvE t) = (dvE t)) ∧ (((if dvE t = 0 then sdW (acL t.nd) else [])) = ((if dvE t = 0 then sdW (acL t.nd) else [])))
   ·
    refine G_yes (Eq.trans (@rfl V (V.bool (decide (((dvE t) = (dvE t)) ∧ (((if dvE t = 0 then sdW (acL t.nd) else [])) = ((if dvE t = 0 then sdW (acL t.nd) else []))))))) (bdT g3)) ?_
    refine R_call evnil (dnew_pure) (fzv_mapcanon _ _ (by simp [-List.map_take, -List.map_drop, -List.map_append, -List.map_reverse])) (by simp [-List.map_take, -List.map_drop, -List.map_append, -List.map_reverse]) (Or.inl (by simp [-List.map_take, -List.map_drop, -List.map_append, -List.map_reverse])) ?_
    refine G_yes (Eq.trans (@rfl V (V.bool (decide (((dvE t) = (dvE t)) ∧ (((if dvE t = 0 then sdW (acL t.nd) else [])) = ((if dvE t = 0 then sdW (acL t.nd) else []))))))) (bdT g3)) ?_
    refine R_call evnil (rdnew_pure) (fzv_mapcanon _ _ (by simp [-List.map_take, -List.map_drop, -List.map_append, -List.map_reverse])) (by simp [-List.map_take, -List.map_drop, -List.map_append, -List.map_reverse]) (Or.inl (by simp [-List.map_take, -List.map_drop, -List.map_append, -List.map_reverse])) ?_
    refine G_yes (Eq.trans (@rfl V (V.bool (decide (((dvE t) = (dvE t)) ∧ (((if dvE t = 0 then sdW (acL t.nd) else [])) = ((if dvE t = 0 then sdW (acL t.nd) else []))))))) (bdT g3)) ?_
    refine R_call (evcons (@rfl V (V.agg [(V.sl (List.map cN ([lfN []])))])) (evcons (@rfl V (V.agg [(V.sl (List.map cN ([lfN []])))])) evnil)) (dsame_pure (⟨([lfN []])⟩ : Dt) (⟨([lfN []])⟩ : Dt)) (fzv_mapcanon _ _ (by simp [-List.map_take, -List.map_drop, -List.map_append, -List.map_reverse])) (by simp [-List.map_take, -List.map_drop, -List.map_append, -List.map_reverse]) (Or.inl (by simp [-List.map_take, -List.map_drop, -List.map_append, -List.map_reverse])) ?_
    refine R_pickT (Eq.trans (@rfl V (V.bool (decide (((dvE t) = (dvE t)) ∧ (((if dvE t = 0 then sdW (acL t.nd) else [])) = ((if dvE t = 0 then sdW (acL t.nd) else []))))))) (bdT g3)) (@rfl V (V.bool (decide ((⟨([lfN []])⟩ : Dt) = (⟨([lfN []])⟩ : Dt))))) ?_
    exact ⟨(Eq.trans (@rfl V (V.bool (decide ((⟨([lfN []])⟩ : Dt) = (⟨([lfN []])⟩ : Dt))))) (dec_andT g3)), h1, trivial⟩
   ·
    refine G_no (Eq.trans (@rfl V (V.bool (decide (((dvE t) = (dvE t)) ∧ (((if dvE t = 0 then sdW (acL t.nd) else [])) = ((if dvE t = 0 then sdW (acL t.nd) else []))))))) (bdF g3)) (by decide) ?_
    refine G_no (Eq.trans (@rfl V (V.bool (decide (((dvE t) = (dvE t)) ∧ (((if dvE t = 0 then sdW (acL t.nd) else [])) = ((if dvE t = 0 then sdW (acL t.nd) else []))))))) (bdF g3)) (by decide) ?_
    refine G_no (Eq.trans (@rfl V (V.bool (decide (((dvE t) = (dvE t)) ∧ (((if dvE t = 0 then sdW (acL t.nd) else [])) = ((if dvE t = 0 then sdW (acL t.nd) else []))))))) (bdF g3)) (by decide) ?_
    refine R_pickF (Eq.trans (@rfl V (V.bool (decide (((dvE t) = (dvE t)) ∧ (((if dvE t = 0 then sdW (acL t.nd) else [])) = ((if dvE t = 0 then sdW (acL t.nd) else []))))))) (bdF g3)) (@rfl V (V.bool false)) ?_
    exact ⟨(Eq.trans (@rfl V (V.bool false)) (dec_andF g3)), h1, trivial⟩
  intro T H ⟨t22, h1, _⟩
  refine R_mv t22 ?_
  refine Ops_seg 2 (fun T H => T 25 = (V.bool (decide ((((dvE t) = (dvE t)) ∧ (((if dvE t = 0 then sdW (acL t.nd) else [])) = ((if dvE t = 0 then sdW (acL t.nd) else [])))) ∧ ((⟨([lfN []])⟩ : Dt) = (⟨([lfN []])⟩ : Dt))))) ∧ H 1 = (⟨1, true, false, 24, 1, [[(V.sl (List.map cN (t.nd)))]]⟩ : Blk) ∧ True) ?_ ?_
  ·
   by_cases g4 : (((dvE t) = (dvE t)) ∧ (((if dvE t = 0 then sdW (acL t.nd) else [])) = ((if dvE t = 0 then sdW (acL t.nd) else [])))) ∧ ((⟨([lfN []])⟩ : Dt) = (⟨([lfN []])⟩ : Dt))
   ·
    refine G_yes (Eq.trans (@rfl V (V.bool (decide ((((dvE t) = (dvE t)) ∧ (((if dvE t = 0 then sdW (acL t.nd) else [])) = ((if dvE t = 0 then sdW (acL t.nd) else [])))) ∧ ((⟨([lfN []])⟩ : Dt) = (⟨([lfN []])⟩ : Dt)))))) (bdT g4)) ?_
    refine R_call evnil (aw_learnerlaw26_awake_pure) (fzv_mapcanon _ _ (by simp [-List.map_take, -List.map_drop, -List.map_append, -List.map_reverse])) (by simp [-List.map_take, -List.map_drop, -List.map_append, -List.map_reverse]) (Or.inl (by simp [-List.map_take, -List.map_drop, -List.map_append, -List.map_reverse])) ?_
    refine R_pickT (Eq.trans (@rfl V (V.bool (decide ((((dvE t) = (dvE t)) ∧ (((if dvE t = 0 then sdW (acL t.nd) else [])) = ((if dvE t = 0 then sdW (acL t.nd) else [])))) ∧ ((⟨([lfN []])⟩ : Dt) = (⟨([lfN []])⟩ : Dt)))))) (bdT g4)) (@rfl V (V.bool true)) ?_
    exact ⟨(Eq.trans (@rfl V (V.bool true)) (dec_T g4)), h1, trivial⟩
   ·
    refine G_no (Eq.trans (@rfl V (V.bool (decide ((((dvE t) = (dvE t)) ∧ (((if dvE t = 0 then sdW (acL t.nd) else [])) = ((if dvE t = 0 then sdW (acL t.nd) else [])))) ∧ ((⟨([lfN []])⟩ : Dt) = (⟨([lfN []])⟩ : Dt)))))) (bdF g4)) (by decide) ?_
    refine R_pickF (Eq.trans (@rfl V (V.bool (decide ((((dvE t) = (dvE t)) ∧ (((if dvE t = 0 then sdW (acL t.nd) else [])) = ((if dvE t = 0 then sdW (acL t.nd) else [])))) ∧ ((⟨([lfN []])⟩ : Dt) = (⟨([lfN []])⟩ : Dt)))))) (bdF g4)) (@rfl V (V.bool false)) ?_
    exact ⟨(Eq.trans (@rfl V (V.bool false)) (dec_F g4)), h1, trivial⟩
  intro T H ⟨t25, h1, _⟩
  refine R_mv t25 ?_
  exact R_nil ⟨rfl, h1, trivial⟩
 intro T H ⟨t2, h1, _⟩
 refine W_ret ?_
 refine Ret_1 t2 (fz_bool ?_)
 · simp
end Go.Proofs.YtmnjchcoigbngaaGreat


namespace Go.Proofs.YtmnjchcoigbngaaGreat
open Go Go.Proofs Go.Proofs.YtmnjchcoigbngaaGreat Go.ChangeShapes Go.WideShapes Go.ChangeAt Go.RowKit
structure UT (P : Program) : Prop where
  u22 : P.underlying 22 = some (.slice 68)
  u4 : P.underlying 4 = some (.bool)
  u38 : P.underlying 38 = some (.slice 3)
  u3 : P.underlying 3 = some (.int .i64)
  u31 : P.underlying 31 = some (.slice 38)
  u68 : ∃ f0 f1 f2 f3 f4 : Field, P.underlying 68 = some (.struct #[f0, f1, f2, f3, f4]) ∧ f0.type = 4 ∧ f1.type = 38 ∧ f2.type = 38 ∧ f3.type = 31 ∧ f4.type = 38
  u24 : ∃ f0 : Field, P.underlying 24 = some (.struct #[f0]) ∧ f0.type = 22
theorem sh4 {P : Program} (U : UT P) (n : Nat) (vs : List V) (h : Shp P (n + 1) 4 vs) : ∃ a : Bool, vs = (fun b => [V.bool b]) a := shp_bool U.u4 h
theorem sh3 {P : Program} (U : UT P) (n : Nat) (vs : List V) (h : Shp P (n + 1) 3 vs) : ∃ a : Int, vs = cI a := shp_int U.u3 h
theorem sh38 {P : Program} (U : UT P) (n : Nat) (vs : List V) (h : Shp P (n + 2) 38 vs) : ∃ a : List Int, vs = cL a := shp_slice (f := cI) U.u38 (fun vs h => sh3 U n vs h) h
theorem sh31 {P : Program} (U : UT P) (n : Nat) (vs : List V) (h : Shp P (n + 3) 31 vs) : ∃ a : List (List Int), vs = (fun l => [V.sl (List.map cL l)]) a := shp_slice (f := cL) U.u31 (fun vs h => sh38 U n vs h) h
theorem sh68 {P : Program} (U : UT P) (n : Nat) (vs : List V) (h : Shp P (n + 4) 68 vs) : ∃ a : Nd, vs = cN a := by
  obtain ⟨f0, f1, f2, f3, f4, hu, k0, k1, k2, k3, k4⟩ := U.u68
  have h0 := shp_step hu h
  obtain ⟨x0, u0, e0, h1⟩ := shpL_cons (c := (fun b => [V.bool b])) (fun vs h => sh4 U (n + 2) vs (by rw [k0] at h; exact h)) h0
  obtain ⟨x1, u1, e1, h2⟩ := shpL_cons (c := cL) (fun vs h => sh38 U (n + 1) vs (by rw [k1] at h; exact h)) h1
  obtain ⟨x2, u2, e2, h3⟩ := shpL_cons (c := cL) (fun vs h => sh38 U (n + 1) vs (by rw [k2] at h; exact h)) h2
  obtain ⟨x3, u3, e3, h4⟩ := shpL_cons (c := (fun l => [V.sl (List.map cL l)])) (fun vs h => sh31 U (n + 0) vs (by rw [k3] at h; exact h)) h3
  obtain ⟨x4, u4, e4, h5⟩ := shpL_cons (c := cL) (fun vs h => sh38 U (n + 1) vs (by rw [k4] at h; exact h)) h4
  have e5 := shpL_nil h5
  exact ⟨⟨x0, x1, x2, x3, x4⟩, by rw [e0, e1, e2, e3, e4, e5]; rfl⟩
theorem sh22 {P : Program} (U : UT P) (n : Nat) (vs : List V) (h : Shp P (n + 5) 22 vs) : ∃ a : List Nd, vs = (fun l => [V.sl (List.map cN l)]) a := shp_slice (f := cN) U.u22 (fun vs h => sh68 U n vs h) h
theorem sh24 {P : Program} (U : UT P) (n : Nat) (vs : List V) (h : Shp P (n + 6) 24 vs) : ∃ a : Dt, vs = cD a := by
  obtain ⟨f0, hu, k0⟩ := U.u24
  have h0 := shp_step hu h
  obtain ⟨x0, u0, e0, h1⟩ := shpL_cons (c := (fun l => [V.sl (List.map cN l)])) (fun vs h => sh22 U (n + 0) vs (by rw [k0] at h; exact h)) h0
  have e1 := shpL_nil h1
  exact ⟨⟨x0⟩, by rw [e0, e1]; rfl⟩
theorem ut : UT Tryz.prog := ⟨by kernel_rfl, by kernel_rfl, by kernel_rfl, by kernel_rfl, by kernel_rfl, ⟨_, _, _, _, _, Tryz.underlying68, rfl, rfl, rfl, rfl, rfl⟩, ⟨_, Tryz.underlying24, rfl⟩⟩
theorem args3 {P : Program} (U : UT P) {us : List V} (h : ShpA P 7 [24] us) : ∃ (d0 : Dt), us = [V.agg (cD d0)] := by
  obtain ⟨a0, b0, e0, h0, h⟩ := shpA_cons h
  obtain ⟨d0, g0⟩ := sh24 U 1 a0 h0
  have q0 : packV P 24 a0 = V.agg (cD d0) := by obtain ⟨_, hu, _⟩ := U.u24; rw [g0]; exact pack_struct hu _
  have e1 := shpA_nil h
  exact ⟨d0, by rw [e0, q0, e1]⟩
theorem own3 : ownKnob Tryz.prog.godebug = none := by kernel_rfl
set_option maxRecDepth 100000 in
theorem lifted3 (os : Os) (started : os.Started) (H : Type) (enc : TypeId × Value → H) :
    ReturnsInHanded {} Tryz.checked os 3 .any (Rows.dtreeValidSpec.pre6 enc Tryz.prog Tryz.f3 Rows.dtreeValidRow.domain false) (Rows.dtreeValidSpec.post enc Tryz.prog Tryz.f3 false true false false) := by
  refine returnsInHanded_of_change (C := Tryz.checked) own3 started (by kernel_rfl) Tryz.func3
    (ChangeSpec.witness6 (enc := enc) (C := Tryz.checked) false ⟨#[], #[.agg #[.slice none 0 0]], []⟩ 8 (by kernel_rfl) (by kernel_rfl) (by kernel_rfl) (by kernel_rfl)) ?_
  intro W base args ds gs before hval0 hW hcnd _
  refine law_post (n := 7) (tb := 4) (by kernel_rfl) (by kernel_rfl) (by kernel_rfl) (fun t ht => ?_) rfl ?_ (fun us hu => ?_) hval0 hW
  · have h : t ∈ [24] := ht
    simp only [List.mem_cons, List.not_mem_nil, or_false] at h
    rcases h with rfl
    · exact ⟨by kernel_rfl, by kernel_rfl, of_decide_eq_true (by kernel_rfl)⟩
  · obtain ⟨p, q, hA, hV, rfl, hfz, hnd⟩ := hW
    obtain ⟨rfl, rfl⟩ := trodVars_none hV
    change DataW.TrodAll enc Tryz.prog W 0 (fun _ => true) true [24] args.toList ds p at hA
    obtain ⟨v0, vs0, y0, ds0, pa0, pb0, hv0, rfl, rfl, _, hA⟩ := trodAll_cons hA
    obtain ⟨_, rfl, rfl⟩ := trodAll_nil hA
    rfl
  · obtain ⟨d0, rfl⟩ := args3 ut hu
    exact law3_pure d0
theorem proved3 : Rows.DtreeValidSaid :=
  OpenClaim.holds_of_wide 3 Tryz.f3 rfl rfl rfl rfl rfl rfl rfl ⟨rfl, rfl, rfl, rfl, rfl⟩ rfl rfl rfl rfl rfl (by kernel_rfl) Tryz.func3 (by kernel_rfl)
    (of_decide_eq_true (by kernel_rfl)) (by unfold Func.isWrapper; first | (rw [if_pos (by decide +kernel)]; kernel_rfl) | (rw [if_neg (by decide +kernel)]; exact ⟨rfl, rfl⟩))
    (fun os started H enc _ => lifted3 os started H enc)
end Go.Proofs.YtmnjchcoigbngaaGreat


