/- Contracts of the functions that the law DS reaches, and the law itself, for every input; no condition. -/
import Derived.KernelRfl
import Derived.Test.YtmnjchcoigbngaaGreatProg
import Derived.Test.YtmnjchcoigbngaaGreatRows
import Derived.Test.YtmnjchcoigbngaaGreatDS3
set_option linter.unusedSimpArgs false
set_option linter.unusedVariables false
namespace Go.Proofs.YtmnjchcoigbngaaGreat
open Go Go.Proofs
theorem with_E (l : List (List Int)) (w : List Int) (v3 v44 : Nat) (Hi : Heap) (h3 : Hi 3 = (bz v3 38 1 (List.map cL (l)))) (h544 : (Hi 544).ver = v44) (hs : SrtW l) (hl : l.length ≤ 100000) (hw : w.length ≤ 1048576) : CallOK Tryz.prog 77 [(V.ms 3 v3 0 (l.length)), (ints w)] Hi (V.ms 3 (v3 + 1) 0 ((wiW l w).length)) (upd (upd Hi 544 (⟨v44 + 2, false, false, 0, 0, []⟩ : Blk)) 3 (bz (v3 + 1) 38 1 (List.map cL (wiW l w)))) := by
 refine CallOK_of_Wf (k0 := 500) Tryz.func77 s77_ok (by kernel_rfl) (by simp [s77]) fun hB => ?_
 simp only [bnd_map, bnd_int, bnd_bool, bnd_str, bnd_agg, bnd_pp, bnd_nil, bnd_cons, implies_true, and_true, true_and] at hB
 have q0 := pl_le (w := w) l
 unfold s77
 dsimp only
 refine W_seq_regc (fun T H => T 0 = (V.ms 3 v3 0 (l.length)) ∧ T 1 = (ints w) ∧ (∀ j, j ∉ [544, 3] → H j = Hi j) ∧ H 3 = (bz v3 38 1 (List.map cL (l))) ∧ (H 544).ver = v44 ∧ True) ?_ ?_
 ·
  unfold r77_0
  refine R_mv (@rfl V V.nilsl) ?_
  exact R_nil ⟨rfl, rfl, (fun _ _ => rfl), h3, h544, trivial⟩
 intro T H ⟨t0, t1, hF, h3, h544, _⟩
 refine W_seq_regc (fun T H => T 0 = (V.ms 3 v3 0 (l.length)) ∧ T 1 = (ints w) ∧ T 5 = (iV ((plN l w : Nat) : Int)) ∧ (∀ j, j ∉ [544, 3] → H j = Hi j) ∧ H 3 = (bz v3 38 1 (List.map cL (l))) ∧ (H 544).ver = v44 ∧ True) ?_ ?_
 ·
  unfold r77_1
  refine R_mv t0 ?_
  refine R_mv t1 ?_
  refine R_call (evcons (@rfl V (V.ms 3 v3 0 (l.length))) (evcons (@rfl V (ints w)) evnil)) (place_pure l w hs (by omega)) (mcons (fz_mst h3 (by first | rfl | simp) (take_map (l := l) (by first | rfl | simp | omega)) (fun _ => by simp)) (mcons (fzv_canon 6 _ (by simp [-List.map_take, -List.map_drop, -List.map_append, -List.map_reverse])) rfl)) (by simp [-List.map_take, -List.map_drop, -List.map_append, -List.map_reverse]) (Or.inr rfl) ?_
  refine R_mv (@rfl V (iV ((plN l w : Nat) : Int))) ?_
  exact R_nil ⟨t0, t1, rfl, hF, h3, h544, trivial⟩
 intro T H ⟨t0, t1, t5, hF, h3, h544, _⟩
 refine W_seq_seq ?_
 refine W_seq_regc (fun T H => T 0 = (V.ms 3 v3 0 (l.length)) ∧ T 1 = (ints w) ∧ T 5 = (iV ((plN l w : Nat) : Int)) ∧ T 21 = (V.bool (decide ((((plN l w : Nat) : Int) < ((l.length : Nat) : Int)) ∧ (((nth (l) (plN l w))) = w)))) ∧ (∀ j, j ∉ [544, 3] → H j = Hi j) ∧ H 3 = (bz v3 38 1 (List.map cL (l))) ∧ (H 544).ver = v44 ∧ True) ?_ ?_
 ·
  unfold r77_2
  refine R_mv t5 ?_
  refine R_mv t0 ?_
  refine R_len_ms (@rfl V (V.ms 3 v3 0 (l.length))) h3 (by first | rfl | simp) ?_
  refine R_lss (x := ((plN l w : Nat) : Int)) (y := ((l.length : Nat) : Int)) (@rfl V (iV ((plN l w : Nat) : Int))) (@rfl V (iV ((l.length : Nat) : Int))) ?_
  refine R_mv (@rfl V (V.bool (decide (((plN l w : Nat) : Int) < ((l.length : Nat) : Int))))) ?_
  refine Ops_seg 7 (fun T H => T 0 = (V.ms 3 v3 0 (l.length)) ∧ T 1 = (ints w) ∧ T 5 = (iV ((plN l w : Nat) : Int)) ∧ T 21 = (V.bool (decide ((((plN l w : Nat) : Int) < ((l.length : Nat) : Int)) ∧ (((nth (l) (plN l w))) = w)))) ∧ (∀ j, j ∉ [544, 3] → H j = Hi j) ∧ H 3 = (bz v3 38 1 (List.map cL (l))) ∧ (H 544).ver = v44 ∧ True) ?_ ?_
  ·
   by_cases g1 : ((plN l w : Nat) : Int) < ((l.length : Nat) : Int)
   ·
    refine G_yes (Eq.trans (@rfl V (V.bool (decide (((plN l w : Nat) : Int) < ((l.length : Nat) : Int))))) (bdT g1)) ?_
    refine R_mv t0 ?_
    refine G_yes (Eq.trans (@rfl V (V.bool (decide (((plN l w : Nat) : Int) < ((l.length : Nat) : Int))))) (bdT g1)) ?_
    refine R_mv t5 ?_
    refine G_yes (Eq.trans (@rfl V (V.bool (decide (((plN l w : Nat) : Int) < ((l.length : Nat) : Int))))) (bdT g1)) ?_
    refine R_idx_ms0 (i := (plN l w)) (@rfl V (V.ms 3 v3 0 (l.length))) (@rfl V (iV ((plN l w : Nat) : Int))) h3 (okB_map (by omega)) rfl (by omega) ?_
    refine G_yes (Eq.trans (@rfl V (V.bool (decide (((plN l w : Nat) : Int) < ((l.length : Nat) : Int))))) (bdT g1)) ?_
    refine R_load_mp (v := (ints ((nth (l) (plN l w))))) (@rfl V (V.mp 3 v3 (plN l w) 0)) h3 (ldB_map (by omega) (by first | rfl | simp [ldV, V.one])) ?_
    refine G_yes (Eq.trans (@rfl V (V.bool (decide (((plN l w : Nat) : Int) < ((l.length : Nat) : Int))))) (bdT g1)) ?_
    refine R_mv t1 ?_
    refine G_yes (Eq.trans (@rfl V (V.bool (decide (((plN l w : Nat) : Int) < ((l.length : Nat) : Int))))) (bdT g1)) ?_
    refine R_callc (evcons (@rfl V (ints ((nth (l) (plN l w))))) (evcons (@rfl V (ints w)) evnil)) (rsame1_pure ((nth (l) (plN l w))) w) ?_
    refine R_pickT (Eq.trans (@rfl V (V.bool (decide (((plN l w : Nat) : Int) < ((l.length : Nat) : Int))))) (bdT g1)) (@rfl V (V.bool (decide (((nth (l) (plN l w))) = w)))) ?_
    exact ⟨t0, t1, t5, (Eq.trans (@rfl V (V.bool (decide (((nth (l) (plN l w))) = w)))) (dec_andT g1)), hF, h3, h544, trivial⟩
   ·
    refine G_no (Eq.trans (@rfl V (V.bool (decide (((plN l w : Nat) : Int) < ((l.length : Nat) : Int))))) (bdF g1)) (by decide) ?_
    refine G_no (Eq.trans (@rfl V (V.bool (decide (((plN l w : Nat) : Int) < ((l.length : Nat) : Int))))) (bdF g1)) (by decide) ?_
    refine G_no (Eq.trans (@rfl V (V.bool (decide (((plN l w : Nat) : Int) < ((l.length : Nat) : Int))))) (bdF g1)) (by decide) ?_
    refine G_no (Eq.trans (@rfl V (V.bool (decide (((plN l w : Nat) : Int) < ((l.length : Nat) : Int))))) (bdF g1)) (by decide) ?_
    refine G_no (Eq.trans (@rfl V (V.bool (decide (((plN l w : Nat) : Int) < ((l.length : Nat) : Int))))) (bdF g1)) (by decide) ?_
    refine G_no (Eq.trans (@rfl V (V.bool (decide (((plN l w : Nat) : Int) < ((l.length : Nat) : Int))))) (bdF g1)) (by decide) ?_
    refine R_pickF (Eq.trans (@rfl V (V.bool (decide (((plN l w : Nat) : Int) < ((l.length : Nat) : Int))))) (bdF g1)) (@rfl V (V.bool false)) ?_
    exact ⟨t0, t1, t5, (Eq.trans (@rfl V (V.bool false)) (dec_andF g1)), hF, h3, h544, trivial⟩
  intro T H ⟨t0, t1, t5, t21, hF, h3, h544, _⟩
  exact R_nil ⟨t0, t1, t5, t21, hF, h3, h544, trivial⟩
 intro T H ⟨t0, t1, t5, t21, hF, h3, h544, _⟩
 refine W_seq_if (p := (((plN l w : Nat) : Int) < ((l.length : Nat) : Int)) ∧ (((nth (l) (plN l w))) = w)) t21 (fun c2 => ?_) (fun c2 => ?_)
 ·
  have d1 : wiH l w := by simpa [wiH] using c2
  have hwi := wi_yes d1
  refine W_seq_seq ?_
  refine W_seq_regc (fun T H => T 4 = (V.ms 3 v3 0 (l.length)) ∧ (∀ j, j ∉ [544, 3] → H j = Hi j) ∧ H 3 = (bz v3 38 1 (List.map cL (l))) ∧ (H 544).ver = v44 ∧ True) ?_ ?_
  ·
   unfold r77_3
   refine R_mv t0 ?_
   refine R_mv (@rfl V (V.ms 3 v3 0 (l.length))) ?_
   exact R_nil ⟨rfl, hF, h3, h544, trivial⟩
  intro T H ⟨t4, hF, h3, h544, _⟩
  refine W_seq_ret ?_
  skip
  have fh := FinX.fin (FinX.put (B := (bz (v3 + 1) 38 1 (List.map cL (wiW l w)))) (FinX.putv (n := v44) (B := (⟨v44 + 2, false, false, 0, 0, []⟩ : Blk)) (FinX.start hF) h544 (by show _ ≤ v44 + 2; omega) rfl) h3 (FinB.up (by omega) (by first | rfl | (rw [hwi]; done) | (rw [mv_top]; done) | (rw [show (((j : Nat) : Int) - (1 : Int)).toNat = j - 1 by omega, mv_step (by omega) hj]; done) | (rw [show j = plN l w by omega, mv_end q0, hwi]; rfl) | simp)))
  exact RetF_1 t4 fh (FinV.trans_eq (FinV.ms (n := (v3 + 1)) fh (by simp [h3]) (by simp [h3]) rfl rfl) (by first | rfl | (rw [hwi]; done) | (congr 1; omega) | (rw [hwi]; simp; omega) | (exact congrArg (V.int .i64) (by omega)) | simp))
 have d1 : ¬wiH l w := fun q => by have q := wi_ok.1 q; simp [q] at c2
 have hwi := wi_no d1
 refine W_seq_skip ?_
 refine W_seq_g (fun T H => T 0 = (V.ms 3 (v3 + 1) 0 (l.length + 1)) ∧ T 1 = (ints w) ∧ T 5 = (iV ((plN l w : Nat) : Int)) ∧ (∀ j, j ∉ [544, 3] → H j = Hi j) ∧ H 3 = (bz (v3 + 1) 38 1 (List.map cL (l) ++ List.replicate (1) [V.nilsl])) ∧ (H 544).ver = v44 ∧ True) ?_ ?_
 ·
  unfold r77_4
  refine R_mv t0 ?_
  refine R_bslice (qs := [(0, V.nilsl)]) (rows := [[V.nilsl]]) (mcons (congrArg (fun v => (0, v)) (@rfl V V.nilsl)) rfl) rfl ?_
  refine R_appendZ (l := l) (f := cL) (z := [.nilsl]) (@rfl V (V.ms 3 v3 0 (l.length))) h3 (by first | rfl | simp | omega) (@rfl V (V.sl [[V.nilsl]])) rfl rfl (by omega) (by omega) ?_
  refine R_mv (@rfl V (V.ms 3 (v3 + 1) 0 (l.length + 1))) ?_
  exact R_nil ⟨rfl, t1, t5, (upd_out hF (by decide)), rfl, h544, trivial⟩
 intro T H ⟨t0, t1, t5, hF, h3, h544, _⟩
 refine nil_cell (x := []) (f := cL) (l := l) h3 rfl (.done ?_)
 refine W_seq_seq ?_
 refine W_seq_regc (fun T H => T 0 = (V.ms 3 (v3 + 1) 0 (l.length + 1)) ∧ T 1 = (ints w) ∧ T 5 = (iV ((plN l w : Nat) : Int)) ∧ T 6 = (iV (((l.length + 1 : Nat) : Int) - (1 : Int))) ∧ (∀ j, j ∉ [544, 3] → H j = Hi j) ∧ H 3 = (bz (v3 + 1) 38 1 (List.map cL (l ++ [[]]))) ∧ (H 544).ver = v44 ∧ True) ?_ ?_
 ·
  unfold r77_5
  refine R_mv t0 ?_
  refine R_len_ms (@rfl V (V.ms 3 (v3 + 1) 0 (l.length + 1))) (@rfl Blk (bz (v3 + 1) 38 1 (List.map cL (l ++ [[]])))) (by first | rfl | simp) ?_
  refine R_sub (x := ((l.length + 1 : Nat) : Int)) (y := (1 : Int)) (@rfl V (iV ((l.length + 1 : Nat) : Int))) (@rfl V (iV (1 : Int))) (by omega) (by omega) ?_
  refine R_mv (@rfl V (iV (((l.length + 1 : Nat) : Int) - (1 : Int)))) ?_
  exact R_nil ⟨t0, t1, t5, rfl, (upd_out hF (by decide)), rfl, ((congrArg Blk.ver (upd_ne _ _ (by decide))).trans h544), trivial⟩
 intro T H ⟨t0, t1, t5, t6, hF, h3, h544, _⟩
 refine W_seq_blockg fun Q3 n3 x3 y3 z3 => ?_
 refine W_loop (fun mm T H => ∃ (j : Nat), mm = j ∧ T 0 = (V.ms 3 (v3 + 1) 0 (l.length + 1)) ∧ T 1 = (ints w) ∧ T 5 = (iV ((plN l w : Nat) : Int)) ∧ T 6 = (iV ((j : Nat) : Int)) ∧ (∀ j, j ∉ [544, 3] → H j = Hi j) ∧ H 3 = (bz (v3 + 1) 38 1 (List.map cL (mvL l j))) ∧ (H 544).ver = v44 ∧ (j ≤ l.length) ∧ (plN l w ≤ j)) ?_ ?_
 ·
  refine ⟨_, l.length, rfl, t0, t1, t5, (Eq.trans t6 (by first | rfl | (rw [hwi]; done) | (congr 1; omega) | (rw [hwi]; simp; omega) | (exact congrArg (V.int .i64) (by omega)) | simp)), hF, (Eq.trans h3 (by first | rfl | (rw [hwi]; done) | (rw [mv_top]; done) | (rw [show (((j : Nat) : Int) - (1 : Int)).toNat = j - 1 by omega, mv_step (by omega) hj]; done) | (rw [show j = plN l w by omega, mv_end q0, hwi]; rfl) | simp)), h544, ?_, ?_⟩
  · omega
  · omega
 intro mm T H ⟨j, hmm, t0, t1, t5, t6, hF, h3, h544, hj, hp⟩ Q4 p14 p24 p34
 unfold b77_0
 have q1 := mv_len hj
 refine W_seq_seq ?_
 refine W_seq_regc (fun T H => T 0 = (V.ms 3 (v3 + 1) 0 (l.length + 1)) ∧ T 1 = (ints w) ∧ T 5 = (iV ((plN l w : Nat) : Int)) ∧ T 6 = (iV ((j : Nat) : Int)) ∧ T 31 = (V.bool (decide (((plN l w : Nat) : Int) < ((j : Nat) : Int)))) ∧ (∀ j, j ∉ [544, 3] → H j = Hi j) ∧ H 3 = (bz (v3 + 1) 38 1 (List.map cL (mvL l j))) ∧ (H 544).ver = v44 ∧ True) ?_ ?_
 ·
  unfold r77_6
  refine R_mv t6 ?_
  refine R_mv t5 ?_
  refine R_gtr (x := ((j : Nat) : Int)) (y := ((plN l w : Nat) : Int)) (@rfl V (iV ((j : Nat) : Int))) (@rfl V (iV ((plN l w : Nat) : Int))) ?_
  exact R_nil ⟨t0, t1, t5, t6, rfl, hF, h3, h544, trivial⟩
 intro T H ⟨t0, t1, t5, t6, t31, hF, h3, h544, _⟩
 refine W_seq_if (p := ((plN l w : Nat) : Int) < ((j : Nat) : Int)) t31 (fun c5 => ?_) (fun c5 => ?_)
 ·
  refine W_seq_skip ?_
  refine W_seq_blockg fun Q6 n6 x6 y6 z6 => ?_
  refine W_regc (fun T H => T 0 = (V.ms 3 (v3 + 1) 0 (l.length + 1)) ∧ T 1 = (ints w) ∧ T 5 = (iV ((plN l w : Nat) : Int)) ∧ T 6 = (iV ((j : Nat) : Int)) ∧ (∀ j, j ∉ [544, 3] → H j = Hi j) ∧ H 3 = (bz (v3 + 1) 38 1 (List.map cL ((mvL l j).set j ((nth (mvL l j) (((((j : Nat) : Int) - (1 : Int))).toNat)))))) ∧ (H 544).ver = v44 ∧ True) ?_ ?_
  ·
   unfold r77_8
   refine R_mv t0 ?_
   refine R_mv t6 ?_
   refine R_mv t0 ?_
   refine R_mv t6 ?_
   refine R_sub (x := ((j : Nat) : Int)) (y := (1 : Int)) (@rfl V (iV ((j : Nat) : Int))) (@rfl V (iV (1 : Int))) (by omega) (by omega) ?_
   refine R_idxI_ms0 (i := (((j : Nat) : Int) - (1 : Int))) (@rfl V (V.ms 3 (v3 + 1) 0 (l.length + 1))) (@rfl V (iV (((j : Nat) : Int) - (1 : Int)))) h3 (okB_map (by omega)) rfl (by omega) (by omega) ?_
   refine R_load_mp (v := (ints ((nth (mvL l j) (((((j : Nat) : Int) - (1 : Int))).toNat))))) (@rfl V (V.mp 3 (v3 + 1) (((((j : Nat) : Int) - (1 : Int))).toNat) 0)) h3 (ldB_map (by omega) (by first | rfl | simp [ldV, V.one])) ?_
   refine R_idx_ms0 (i := j) (@rfl V (V.ms 3 (v3 + 1) 0 (l.length + 1))) (@rfl V (iV ((j : Nat) : Int))) h3 (okB_map (by omega)) rfl (by omega) ?_
   refine R_store (vs := [(ints ((nth (mvL l j) (((((j : Nat) : Int) - (1 : Int))).toNat))))]) (B' := (bz (v3 + 1) 38 1 (List.map cL ((mvL l j).set j ((nth (mvL l j) (((((j : Nat) : Int) - (1 : Int))).toNat))))))) (@rfl V (V.mp 3 (v3 + 1) j 0)) (@rfl V (ints ((nth (mvL l j) (((((j : Nat) : Int) - (1 : Int))).toNat))))) rfl h3 (stB_map (x := ((nth (mvL l j) (((((j : Nat) : Int) - (1 : Int))).toNat)))) (i := j) (by omega) rfl rfl rfl rfl) ?_
   exact R_nil ⟨t0, t1, t5, t6, (upd_out hF (by decide)), rfl, h544, trivial⟩
  intro T H ⟨t0, t1, t5, t6, hF, h3, h544, _⟩
  refine n6 _ _ ?_
  refine .done ?_
  refine W_regc (fun T H => T 0 = (V.ms 3 (v3 + 1) 0 (l.length + 1)) ∧ T 1 = (ints w) ∧ T 5 = (iV ((plN l w : Nat) : Int)) ∧ T 6 = (iV (((j : Nat) : Int) - (1 : Int))) ∧ (∀ j, j ∉ [544, 3] → H j = Hi j) ∧ H 3 = (bz (v3 + 1) 38 1 (List.map cL ((mvL l j).set j ((nth (mvL l j) (((((j : Nat) : Int) - (1 : Int))).toNat)))))) ∧ (H 544).ver = v44 ∧ True) ?_ ?_
  ·
   unfold r77_7
   refine R_mv t6 ?_
   refine R_sub (x := ((j : Nat) : Int)) (y := (1 : Int)) (@rfl V (iV ((j : Nat) : Int))) (@rfl V (iV (1 : Int))) (by omega) (by omega) ?_
   refine R_mv (@rfl V (iV (((j : Nat) : Int) - (1 : Int)))) ?_
   exact R_nil ⟨t0, t1, t5, rfl, hF, h3, h544, trivial⟩
  intro T H ⟨t0, t1, t5, t6, hF, h3, h544, _⟩
  refine p14 _ _ _ ?_ ⟨(j - 1), rfl, t0, t1, t5, (Eq.trans t6 (by first | rfl | (rw [hwi]; done) | (congr 1; omega) | (rw [hwi]; simp; omega) | (exact congrArg (V.int .i64) (by omega)) | simp)), hF, (Eq.trans h3 (by first | rfl | (rw [hwi]; done) | (rw [mv_top]; done) | (rw [show (((j : Nat) : Int) - (1 : Int)).toNat = j - 1 by omega, mv_step (by omega) hj]; done) | (rw [show j = plN l w by omega, mv_end q0, hwi]; rfl) | simp)), h544, ?_, ?_⟩
  · omega
  · omega
  · omega
 refine W_seq_exit ?_
 refine p34 _ _ _ ?_
 refine x3 _ _ ?_
 refine .done ?_
 refine W_seq_g (fun T H => T 0 = (V.ms 3 (v3 + 1) 0 (l.length + 1)) ∧ (∀ j, j ∉ [544, 3] → H j = Hi j) ∧ H 3 = (bz (v3 + 1) 38 1 ((List.map cL (mvL l j)).set (plN l w) [(V.ms 544 (v44 + 2) 0 (0 + (w).length))])) ∧ H 544 = (bz (v44 + 2) 3 1 (List.map cI ([] ++ w))) ∧ True) ?_ ?_
 ·
  unfold r77_9
  refine R_mv t0 ?_
  refine R_mv t5 ?_
  refine R_lazy (i := 544) (n := v44) (by rfl) h544 ?_
  refine R_mv t1 ?_
  refine R_appendS (l := ([])) (m := w) (f := cI) (@rfl V (V.ms 544 (v44 + 1) 0 (0))) (show _ = (bz (v44 + 1) 3 1 (List.map cI ([]))) from (@rfl Blk (bz (v44 + 1) 3 1 []))) (by first | rfl | simp | omega) (@rfl V (ints w)) (fun _ => rfl) (fun _ => rfl) (by omega) (by omega) ?_
  refine R_idx_ms0 (i := (plN l w)) (@rfl V (V.ms 3 (v3 + 1) 0 (l.length + 1))) (@rfl V (iV ((plN l w : Nat) : Int))) h3 (okB_map (by omega)) rfl (by omega) ?_
  refine R_store (vs := [(V.ms 544 (v44 + 2) 0 (0 + (w).length))]) (B' := (bz (v3 + 1) 38 1 ((List.map cL (mvL l j)).set (plN l w) [(V.ms 544 (v44 + 2) 0 (0 + (w).length))]))) (@rfl V (V.mp 3 (v3 + 1) (plN l w) 0)) (@rfl V (V.ms 544 (v44 + 2) 0 (0 + (w).length))) rfl h3 (stB_setc (i := (plN l w)) (by omega) rfl rfl rfl) ?_
  exact R_nil ⟨t0, (upd_out (upd_out (upd_out hF (by decide)) (by decide)) (by decide)), rfl, rfl, trivial⟩
 intro T H ⟨t0, hF, h3, h544, _⟩
 refine frz_cellg (id := 544) (id2 := 3) (rows := (List.map cL (mvL l j))) (i := (plN l w)) (off := 0) (r := [(V.ms 544 (v44 + 2) 0 (0 + (w).length))]) (m := ([] ++ w)) (g := cI) (by decide) h544 h3 (by first | omega | (simp; omega) | (simp; done)) (by first | rfl | simp | omega) rfl (.done ?_)
 refine fork_ (R := fun T H => T 0 = (V.ms 3 (v3 + 1) 0 (l.length + 1)) ∧ (∀ j, j ∉ [544, 3] → H j = Hi j) ∧ H 3 = (bz (v3 + 1) 38 1 (List.map cL ((mvL l j).set (plN l w) ([] ++ w)))) ∧ ((H 544).ver = v44 + 2 ∧ (H 544).live = false) ∧ True) ⟨(fzT_q t0 (fzq_other (by decide))), (upd_out (kill_out hF (by decide)) (by decide)), (Eq.trans (upd_same _ _ _) (by first | (rw [List.map_set]; done) | (rw [List.map_set]; rfl))), ⟨(congrArg Blk.ver (upd_ne _ _ (by decide))).trans (kill_self (congrArg Blk.ver h544)).1, (congrArg Blk.live (upd_ne _ _ (by decide))).trans (kill_self (congrArg Blk.ver h544)).2⟩, trivial⟩ ?_
 clear t0 hF h3 h544 T H
 intro T H ⟨t0, hF, h3, h544, _⟩
 refine W_seq_regc (fun T H => T 4 = (V.ms 3 (v3 + 1) 0 (l.length + 1)) ∧ (∀ j, j ∉ [544, 3] → H j = Hi j) ∧ H 3 = (bz (v3 + 1) 38 1 (List.map cL ((mvL l j).set (plN l w) ([] ++ w)))) ∧ ((H 544).ver = v44 + 2 ∧ (H 544).live = false) ∧ True) ?_ ?_
 ·
  unfold r77_10
  refine R_mv t0 ?_
  refine R_mv (@rfl V (V.ms 3 (v3 + 1) 0 (l.length + 1))) ?_
  exact R_nil ⟨rfl, hF, h3, h544, trivial⟩
 intro T H ⟨t4, hF, h3, h544, _⟩
 refine W_ret ?_
 skip
 have fh := FinX.fin (FinX.put (B := (bz (v3 + 1) 38 1 (List.map cL (wiW l w)))) (FinX.putv (n := (v44 + 2)) (B := (⟨v44 + 2, false, false, 0, 0, []⟩ : Blk)) (FinX.start hF) (h544).1 (by show _ ≤ v44 + 2; omega) rfl) h3 (FinB.eq (by first | rfl | (rw [hwi]; done) | (rw [mv_top]; done) | (rw [show (((j : Nat) : Int) - (1 : Int)).toNat = j - 1 by omega, mv_step (by omega) hj]; done) | (rw [show j = plN l w by omega, mv_end q0, hwi]; rfl) | simp)))
 exact RetF_1 t4 fh (FinV.trans_eq (FinV.same fh _) (by first | rfl | (rw [hwi]; done) | (congr 1; omega) | (rw [hwi]; simp; omega) | (exact congrArg (V.int .i64) (by omega)) | simp))
end Go.Proofs.YtmnjchcoigbngaaGreat


namespace Go.Proofs.YtmnjchcoigbngaaGreat
open Go Go.Proofs
theorem rsorted_pure (l : List (List Int)) (hl : l.length ≤ 10000) (hw : ∀ w ∈ l, w.length ≤ 1048576) : PureC Tryz.prog 42 [(intss l)] (intss (sdW l)) := by
 refine pure_of_Wb true 6 Tryz.func42 s42_ok (by kernel_rfl) (by simp [s42]) (by simp) (by simp) fun hB => ?_
 simp only [bnd_map, bnd_int, bnd_bool, bnd_str, bnd_agg, bnd_pp, bnd_nil, bnd_cons, implies_true, and_true, true_and] at hB
 unfold s42
 dsimp only
 refine W_seq_regc (fun T H => T 0 = (intss l) ∧ H 3 = (⟨0, false, false, 0, 0, []⟩ : Blk) ∧ H 544 = (⟨0, false, false, 0, 0, []⟩ : Blk) ∧ True) ?_ ?_
 ·
  unfold r42_0
  refine R_mv (@rfl V V.nilsl) ?_
  exact R_nil ⟨rfl, rfl, rfl, trivial⟩
 intro T H ⟨t0, h3, h544, _⟩
 refine W_seq_regc (fun T H => T 0 = (intss l) ∧ T 3 = (V.ms 3 1 0 (0)) ∧ H 3 = (bz 1 38 1 []) ∧ H 544 = (⟨0, false, false, 0, 0, []⟩ : Blk) ∧ True) ?_ ?_
 ·
  unfold r42_1
  refine R_lazy (i := 3) (n := 0) rfl (congrArg Blk.ver h3) ?_
  exact R_nil ⟨t0, rfl, rfl, h544, trivial⟩
 intro T H ⟨t0, t3, h3, h544, _⟩
 refine W_seq_seq ?_
 refine W_seq_regc (fun T H => T 0 = (intss l) ∧ T 3 = (V.ms 3 1 0 (0)) ∧ T 4 = (iV (0 : Int)) ∧ H 3 = (bz 1 38 1 []) ∧ H 544 = (⟨0, false, false, 0, 0, []⟩ : Blk) ∧ True) ?_ ?_
 ·
  unfold r42_2
  refine R_mv (@rfl V (iV (0 : Int))) ?_
  exact R_nil ⟨t0, t3, rfl, h3, h544, trivial⟩
 intro T H ⟨t0, t3, t4, h3, h544, _⟩
 refine W_seq_blockg fun Q1 n1 x1 y1 z1 => ?_
 refine W_loop (fun mm T H => ∃ (k : Nat) (v : Nat) (v544 : Nat), mm = l.length - k ∧ T 0 = (intss l) ∧ T 3 = (V.ms 3 v 0 ((sdW (l.take k)).length)) ∧ T 4 = (iV ((k : Nat) : Int)) ∧ H 3 = (bz v 38 1 (List.map cL (sdW (l.take k)))) ∧ (H 544).ver = v544 ∧ (k ≤ l.length)) ?_ ?_
 ·
  refine ⟨_, 0, 1, 0, rfl, t0, (Eq.trans t3 (by first | rfl | (rw [sdW_take (by omega)]; done))), (Eq.trans t4 (by first | rfl | (rw [sdW_take (by omega)]; done))), (Eq.trans h3 (by first | rfl | (rw [sdW_take (by omega)]; done))), (congrArg Blk.ver h544), ?_⟩
  · omega
 intro mm T H ⟨k, v, v544, hmm, t0, t3, t4, h3, h544, hk⟩ Q2 p12 p22 p32
 unfold b42_0
 have q1 := sdW_len (l.take k)
 have q2 : (l.take k).length ≤ k := by simp; omega
 refine W_seq_seq ?_
 refine W_seq_regc (fun T H => T 0 = (intss l) ∧ T 3 = (V.ms 3 v 0 ((sdW (l.take k)).length)) ∧ T 4 = (iV ((k : Nat) : Int)) ∧ T 8 = (V.bool (decide (((k : Nat) : Int) < ((l.length : Nat) : Int)))) ∧ H 3 = (bz v 38 1 (List.map cL (sdW (l.take k)))) ∧ (H 544).ver = v544 ∧ True) ?_ ?_
 ·
  unfold r42_3
  refine R_mv t4 ?_
  refine R_mv t0 ?_
  refine R_len (@rfl V (intss l)) ?_
  refine R_lss (x := ((k : Nat) : Int)) (y := ((l.length : Nat) : Int)) (@rfl V (iV ((k : Nat) : Int))) (@rfl V (iV ((l.length : Nat) : Int))) ?_
  exact R_nil ⟨t0, t3, t4, rfl, h3, h544, trivial⟩
 intro T H ⟨t0, t3, t4, t8, h3, h544, _⟩
 refine W_seq_if (p := ((k : Nat) : Int) < ((l.length : Nat) : Int)) t8 (fun c3 => ?_) (fun c3 => ?_)
 ·
  refine W_seq_skip ?_
  refine W_seq_blockg fun Q4 n4 x4 y4 z4 => ?_
  refine W_regc (fun T H => T 0 = (intss l) ∧ T 3 = (V.ms 3 (v + 1) 0 ((wiW (sdW (l.take k)) ((nth (l) (k)))).length)) ∧ T 4 = (iV ((k : Nat) : Int)) ∧ H 3 = (bz (v + 1) 38 1 (List.map cL (wiW (sdW (l.take k)) ((nth (l) (k)))))) ∧ H 544 = (⟨v544 + 2, false, false, 0, 0, []⟩ : Blk) ∧ True) ?_ ?_
  ·
   unfold r42_5
   refine R_mv t3 ?_
   refine R_mv t0 ?_
   refine R_mv t4 ?_
   refine R_idx (i := k) (@rfl V (intss l)) (@rfl V (iV ((k : Nat) : Int))) (by omega) rfl ?_
   refine R_load_pp (v := (ints ((nth (l) (k))))) rfl (by first | rfl | simp [ldV]) ?_
   refine R_callE (evcons (@rfl V (V.ms 3 v 0 ((sdW (l.take k)).length))) (evcons (@rfl V (ints ((nth (l) (k))))) evnil)) (with_E (sdW (l.take k)) ((nth (l) (k))) v v544 _ h3 h544 (sdW_srt _) (by omega) (hw _ (nth_mem (by omega)))) ?_
   refine R_mv (@rfl V (V.ms 3 (v + 1) 0 ((wiW (sdW (l.take k)) ((nth (l) (k)))).length))) ?_
   exact R_nil ⟨t0, rfl, t4, rfl, rfl, trivial⟩
  intro T H ⟨t0, t3, t4, h3, h544, _⟩
  refine n4 _ _ ?_
  refine .done ?_
  refine W_regc (fun T H => T 0 = (intss l) ∧ T 3 = (V.ms 3 (v + 1) 0 ((wiW (sdW (l.take k)) ((nth (l) (k)))).length)) ∧ T 4 = (iV ((k + 1 : Nat) : Int)) ∧ H 3 = (bz (v + 1) 38 1 (List.map cL (wiW (sdW (l.take k)) ((nth (l) (k)))))) ∧ H 544 = (⟨v544 + 2, false, false, 0, 0, []⟩ : Blk) ∧ True) ?_ ?_
  ·
   unfold r42_4
   refine R_mv t4 ?_
   refine R_addN (m := k) (n := 1) (@rfl V (iV ((k : Nat) : Int))) (@rfl V (iV ((1 : Nat) : Int))) (by omega) ?_
   refine R_mv (@rfl V (iV ((k + 1 : Nat) : Int))) ?_
   exact R_nil ⟨t0, t3, rfl, h3, h544, trivial⟩
  intro T H ⟨t0, t3, t4, h3, h544, _⟩
  refine p12 _ _ _ ?_ ⟨(k + 1), (v + 1), (v544 + 2), rfl, t0, (Eq.trans t3 (by first | rfl | (rw [sdW_take (by omega)]; done))), (Eq.trans t4 (by first | rfl | (rw [sdW_take (by omega)]; done))), (Eq.trans h3 (by first | rfl | (rw [sdW_take (by omega)]; done))), (congrArg Blk.ver h544), ?_⟩
  · omega
  · omega
 refine W_seq_exit ?_
 refine p32 _ _ _ ?_
 refine x1 _ _ ?_
 refine .done ?_
 refine W_seq_regc (fun T H => T 2 = (V.ms 3 v 0 ((sdW (l.take k)).length)) ∧ H 3 = (bz v 38 1 (List.map cL (sdW (l.take k)))) ∧ (H 544).ver = v544 ∧ True) ?_ ?_
 ·
  unfold r42_6
  refine R_mv t3 ?_
  refine R_mv (@rfl V (V.ms 3 v 0 ((sdW (l.take k)).length))) ?_
  exact R_nil ⟨rfl, h3, h544, trivial⟩
 intro T H ⟨t2, h3, h544, _⟩
 refine W_ret ?_
 refine Ret_1 t2 (fz_ms h3 (by first | rfl | simp) (l := (sdW (l.take k))) rfl (by first | rfl | simp | omega) (fun _ => by simp) ?_)
 · rw [show k = l.length by omega, List.take_length]
end Go.Proofs.YtmnjchcoigbngaaGreat


namespace Go.Proofs.YtmnjchcoigbngaaGreat
open Go Go.Proofs
theorem rdvalid_pure (t : Dt) (hb : Bd t) : PureC Tryz.prog 12 [(V.agg [(V.sl (List.map cN (t.nd)))])] (iV (dvE t)) := by
 refine pure_of_Wb true 6 Tryz.func12 s12_ok (by kernel_rfl) (by simp [s12]) (by simp) (by simp) fun hB => ?_
 simp only [bnd_map, bnd_int, bnd_bool, bnd_str, bnd_agg, bnd_pp, bnd_nil, bnd_cons, implies_true, and_true, true_and] at hB
 unfold s12
 dsimp only
 refine W_seq_regc (fun T H => T 1 = (V.mp 1 1 0 0) ∧ H 1 = (bk 1 24 1 [[(V.sl (List.map cN (t.nd)))]]) ∧ True) ?_ ?_
 ·
  unfold r12_0
  refine R_box (i := 1) (n := 0) (m := 1) (cs := [(V.sl (List.map cN (t.nd)))]) rfl (congrArg Blk.ver rfl) (@rfl V (V.agg [(V.sl (List.map cN (t.nd)))])) rfl rfl ?_
  refine R_mv (@rfl V (iV (0 : Int))) ?_
  exact R_nil ⟨rfl, rfl, trivial⟩
 intro T H ⟨t1, h1, _⟩
 refine W_seq_seq ?_
 refine W_seq_regc (fun T H => T 1 = (V.mp 1 1 0 0) ∧ T 9 = (V.bool (decide (((t.nd.length : Nat) : Int) = (0 : Int)))) ∧ H 1 = (bk 1 24 1 [[(V.sl (List.map cN (t.nd)))]]) ∧ True) ?_ ?_
 ·
  unfold r12_1
  refine R_fld_mp (o' := 0) t1 h1 (by first | rfl | simp [okB, Blk.own]) rfl ?_
  refine R_load_mp (v := (V.sl (List.map cN (t.nd)))) (@rfl V (V.mp 1 1 0 0)) h1 (by first | rfl | simp [ldB, ldV, Blk.own, V.one]) ?_
  refine R_len (@rfl V (V.sl (List.map cN (t.nd)))) ?_
  refine R_eql (x := ((t.nd.length : Nat) : Int)) (y := (0 : Int)) (@rfl V (iV ((t.nd.length : Nat) : Int))) (@rfl V (iV (0 : Int))) ?_
  exact R_nil ⟨t1, rfl, h1, trivial⟩
 intro T H ⟨t1, t9, h1, _⟩
 refine W_seq_if (p := ((t.nd.length : Nat) : Int) = (0 : Int)) t9 (fun c1 => ?_) (fun c1 => ?_)
 ·
  refine W_seq_seq ?_
  refine W_seq_regc (fun T H => T 2 = (iV (19 : Int)) ∧ H 1 = (bk 1 24 1 [[(V.sl (List.map cN (t.nd)))]]) ∧ True) ?_ ?_
  ·
   unfold r12_2
   refine R_mv (@rfl V (iV (19 : Int))) ?_
   exact R_nil ⟨rfl, h1, trivial⟩
  intro T H ⟨t2, h1, _⟩
  refine W_seq_ret ?_
  refine Ret_1 t2 (fz_int ?_)
  · rw [dvE, if_pos (by omega)]
 refine W_seq_skip ?_
 refine W_seq_seq ?_
 refine W_seq_regc (fun T H => T 1 = (V.mp 1 1 0 0) ∧ T 13 = (V.bool (decide ((4096 : Int) < ((t.nd.length : Nat) : Int)))) ∧ H 1 = (bk 1 24 1 [[(V.sl (List.map cN (t.nd)))]]) ∧ True) ?_ ?_
 ·
  unfold r12_3
  refine R_fld_mp (o' := 0) t1 h1 (by first | rfl | simp [okB, Blk.own]) rfl ?_
  refine R_load_mp (v := (V.sl (List.map cN (t.nd)))) (@rfl V (V.mp 1 1 0 0)) h1 (by first | rfl | simp [ldB, ldV, Blk.own, V.one]) ?_
  refine R_len (@rfl V (V.sl (List.map cN (t.nd)))) ?_
  refine R_gtr (x := ((t.nd.length : Nat) : Int)) (y := (4096 : Int)) (@rfl V (iV ((t.nd.length : Nat) : Int))) (@rfl V (iV (4096 : Int))) ?_
  exact R_nil ⟨t1, rfl, h1, trivial⟩
 intro T H ⟨t1, t13, h1, _⟩
 refine W_seq_if (p := (4096 : Int) < ((t.nd.length : Nat) : Int)) t13 (fun c2 => ?_) (fun c2 => ?_)
 ·
  refine W_seq_seq ?_
  refine W_seq_regc (fun T H => T 2 = (iV (11 : Int)) ∧ H 1 = (bk 1 24 1 [[(V.sl (List.map cN (t.nd)))]]) ∧ True) ?_ ?_
  ·
   unfold r12_4
   refine R_mv (@rfl V (iV (11 : Int))) ?_
   exact R_nil ⟨rfl, h1, trivial⟩
  intro T H ⟨t2, h1, _⟩
  refine W_seq_ret ?_
  refine Ret_1 t2 (fz_int ?_)
  · rw [dvE, if_neg (by omega), if_pos (by omega)]
 refine W_seq_skip ?_
 refine W_seq_seq ?_
 refine W_seq_regc (fun T H => T 1 = (V.mp 1 1 0 0) ∧ T 3 = (iV (0 : Int)) ∧ H 1 = (bk 1 24 1 [[(V.sl (List.map cN (t.nd)))]]) ∧ True) ?_ ?_
 ·
  unfold r12_5
  refine R_mv (@rfl V (iV (0 : Int))) ?_
  exact R_nil ⟨t1, rfl, h1, trivial⟩
 intro T H ⟨t1, t3, h1, _⟩
 refine W_seq_blockg fun Q3 n3 x3 y3 z3 => ?_
 refine W_loop (fun mm T H => ∃ (k : Nat), mm = t.nd.length - k ∧ T 1 = (V.mp 1 1 0 0) ∧ T 3 = (iV ((k : Nat) : Int)) ∧ H 1 = (bk 1 24 1 [[(V.sl (List.map cN (t.nd)))]]) ∧ (k ≤ t.nd.length) ∧ (0 < t.nd.length) ∧ (t.nd.length ≤ 4096) ∧ (∀ j, j < k → ndE (nth t.nd j) t.nd.length = 0) ∧ (fe (fun k => ndE (nth t.nd k) t.nd.length) 0 t.nd.length = fe (fun k => ndE (nth t.nd k) t.nd.length) k (t.nd.length - k))) ?_ ?_
 ·
  refine ⟨_, 0, rfl, t1, (Eq.trans t3 (by first | rfl | simp)), h1, ?_, ?_, ?_, ?_, ?_⟩
  · omega
  · omega
  · omega
  · intro j hj; omega
  · rfl
 intro mm T H ⟨k, hmm, t1, t3, h1, hk, g0, g1, hp, hc⟩ Q4 p14 p24 p34
 unfold b12_0
 refine W_seq_seq ?_
 refine W_seq_regc (fun T H => T 1 = (V.mp 1 1 0 0) ∧ T 3 = (iV ((k : Nat) : Int)) ∧ T 18 = (V.bool (decide (((k : Nat) : Int) < ((t.nd.length : Nat) : Int)))) ∧ H 1 = (bk 1 24 1 [[(V.sl (List.map cN (t.nd)))]]) ∧ True) ?_ ?_
 ·
  unfold r12_6
  refine R_mv t3 ?_
  refine R_fld_mp (o' := 0) t1 h1 (by first | rfl | simp [okB, Blk.own]) rfl ?_
  refine R_load_mp (v := (V.sl (List.map cN (t.nd)))) (@rfl V (V.mp 1 1 0 0)) h1 (by first | rfl | simp [ldB, ldV, Blk.own, V.one]) ?_
  refine R_len (@rfl V (V.sl (List.map cN (t.nd)))) ?_
  refine R_lss (x := ((k : Nat) : Int)) (y := ((t.nd.length : Nat) : Int)) (@rfl V (iV ((k : Nat) : Int))) (@rfl V (iV ((t.nd.length : Nat) : Int))) ?_
  exact R_nil ⟨t1, t3, rfl, h1, trivial⟩
 intro T H ⟨t1, t3, t18, h1, _⟩
 refine W_seq_if (p := ((k : Nat) : Int) < ((t.nd.length : Nat) : Int)) t18 (fun c5 => ?_) (fun c5 => ?_)
 ·
  have r2 := hb.ou k (by omega)
  have r3 := hb.kd k (by omega)
  refine W_seq_skip ?_
  refine W_seq_blockg fun Q6 n6 x6 y6 z6 => ?_
  refine W_seq_regc (fun T H => T 1 = (V.mp 1 1 0 0) ∧ T 3 = (iV ((k : Nat) : Int)) ∧ T 4 = (iV (ndE (((nth (t.nd) (k)))) t.nd.length)) ∧ H 1 = (bk 1 24 1 [[(V.sl (List.map cN (t.nd)))]]) ∧ True) ?_ ?_
  ·
   unfold r12_8
   refine R_load_mp (v := (V.agg [(V.sl (List.map cN (t.nd)))])) t1 h1 (by first | rfl | simp [ldB, ldV, Blk.own, V.one]) ?_
   refine R_fld_mp (o' := 0) t1 h1 (by first | rfl | simp [okB, Blk.own]) rfl ?_
   refine R_load_mp (v := (V.sl (List.map cN (t.nd)))) (@rfl V (V.mp 1 1 0 0)) h1 (by first | rfl | simp [ldB, ldV, Blk.own, V.one]) ?_
   refine R_mv t3 ?_
   refine R_idx (i := k) (@rfl V (V.sl (List.map cN (t.nd)))) (@rfl V (iV ((k : Nat) : Int))) (by omega) rfl ?_
   refine R_load_pp (v := (V.agg (cN (((nth (t.nd) (k))))))) rfl (by first | rfl | simp [ldV]) ?_
   refine R_callc (evcons (@rfl V (V.agg [(V.sl (List.map cN (t.nd)))])) (evcons (@rfl V (V.agg (cN (((nth (t.nd) (k))))))) evnil)) (rnode_pure t (((nth (t.nd) (k)))) (by first | omega | assumption) (by first | omega | assumption)) ?_
   refine R_mv (@rfl V (iV (ndE (((nth (t.nd) (k)))) t.nd.length))) ?_
   exact R_nil ⟨t1, t3, rfl, h1, trivial⟩
  intro T H ⟨t1, t3, t4, h1, _⟩
  refine W_seq_regc (fun T H => T 1 = (V.mp 1 1 0 0) ∧ T 3 = (iV ((k : Nat) : Int)) ∧ T 4 = (iV (ndE (((nth (t.nd) (k)))) t.nd.length)) ∧ T 29 = (V.bool (decide ((ndE (((nth (t.nd) (k)))) t.nd.length) ≠ (0 : Int)))) ∧ H 1 = (bk 1 24 1 [[(V.sl (List.map cN (t.nd)))]]) ∧ True) ?_ ?_
  ·
   unfold r12_9
   refine R_mv t4 ?_
   refine R_neq (x := (ndE (((nth (t.nd) (k)))) t.nd.length)) (y := (0 : Int)) (@rfl V (iV (ndE (((nth (t.nd) (k)))) t.nd.length))) (@rfl V (iV (0 : Int))) ?_
   exact R_nil ⟨t1, t3, t4, rfl, h1, trivial⟩
  intro T H ⟨t1, t3, t4, t29, h1, _⟩
  refine W_if (p := (ndE (((nth (t.nd) (k)))) t.nd.length) ≠ (0 : Int)) t29 (fun c7 => ?_) (fun c7 => ?_)
  ·
   have d1 : ndE (nth t.nd k) t.nd.length ≠ 0 := c7
   refine W_seq_regc (fun T H => T 2 = (iV (ndE (((nth (t.nd) (k)))) t.nd.length)) ∧ H 1 = (bk 1 24 1 [[(V.sl (List.map cN (t.nd)))]]) ∧ True) ?_ ?_
   ·
    unfold r12_10
    refine R_mv t4 ?_
    refine R_mv (@rfl V (iV (ndE (((nth (t.nd) (k)))) t.nd.length))) ?_
    exact R_nil ⟨rfl, h1, trivial⟩
   intro T H ⟨t2, h1, _⟩
   refine W_ret ?_
   refine y6 _ _ ?_
   refine p24 _ _ ?_
   refine y3 _ _ ?_
   refine Ret_1 t2 (fz_int ?_)
   · have e : fe (fun k => ndE (nth t.nd k) t.nd.length) 0 t.nd.length = ndE (nth t.nd k) t.nd.length := by rw [hc]; exact fe_hit (e := fun k => ndE (nth t.nd k) t.nd.length) d1 (by omega)
     rw [dvE, if_neg (by omega), if_neg (by omega), if_pos (by rw [e]; exact d1), e]
  have d1 : ndE (nth t.nd k) t.nd.length = 0 := by omega
  refine W_skip ?_
  refine n6 _ _ ?_
  refine .done ?_
  refine W_regc (fun T H => T 1 = (V.mp 1 1 0 0) ∧ T 3 = (iV ((k + 1 : Nat) : Int)) ∧ H 1 = (bk 1 24 1 [[(V.sl (List.map cN (t.nd)))]]) ∧ True) ?_ ?_
  ·
   unfold r12_7
   refine R_mv t3 ?_
   refine R_addN (m := k) (n := 1) (@rfl V (iV ((k : Nat) : Int))) (@rfl V (iV ((1 : Nat) : Int))) (by omega) ?_
   refine R_mv (@rfl V (iV ((k + 1 : Nat) : Int))) ?_
   exact R_nil ⟨t1, rfl, h1, trivial⟩
  intro T H ⟨t1, t3, h1, _⟩
  refine p14 _ _ _ ?_ ⟨(k + 1), rfl, t1, (Eq.trans t3 (by first | rfl | simp)), h1, ?_, ?_, ?_, ?_, ?_⟩
  · omega
  · omega
  · omega
  · omega
  · intro i hi
    by_cases e : i = k
    · subst e; exact d1
    · exact hp i (by omega)
  · rw [hc, fe_skip (e := fun k => ndE (nth t.nd k) t.nd.length) (by exact d1) (by omega)]
 have hall : ∀ j, j < t.nd.length → ndE (nth t.nd j) t.nd.length = 0 := fun j hj => hp j (by omega)
 have hki : KI t := nds_ki g0 hall
 have hz : fe (fun k => ndE (nth t.nd k) t.nd.length) 0 t.nd.length = 0 := by rw [hc, fe_end (by omega)]
 have haw : ∀ w ∈ acL t.nd, w.length ≤ 1048576 := ac_len hb
 have hal := acL_len t.nd
 refine W_seq_exit ?_
 refine p34 _ _ _ ?_
 refine x3 _ _ ?_
 refine .done ?_
 refine W_seq_seq ?_
 refine W_seq_regc (fun T H => T 1 = (V.mp 1 1 0 0) ∧ T 33 = (V.bool ((!whB t))) ∧ H 1 = (bk 1 24 1 [[(V.sl (List.map cN (t.nd)))]]) ∧ True) ?_ ?_
 ·
  unfold r12_11
  refine R_load_mp (v := (V.agg [(V.sl (List.map cN (t.nd)))])) t1 h1 (by first | rfl | simp [ldB, ldV, Blk.own, V.one]) ?_
  refine R_callc (evcons (@rfl V (V.agg [(V.sl (List.map cN (t.nd)))])) evnil) (whole_pure t hki hb) ?_
  refine R_notb (@rfl V (V.bool (whB t))) ?_
  exact R_nil ⟨t1, rfl, h1, trivial⟩
 intro T H ⟨t1, t33, h1, _⟩
 refine W_seq_ifb t33 (fun c8 => ?_) (fun c8 => ?_)
 ·
  have d3 : whB t = false := by simpa using c8
  refine W_seq_seq ?_
  refine W_seq_regc (fun T H => T 2 = (iV (1 : Int)) ∧ H 1 = (bk 1 24 1 [[(V.sl (List.map cN (t.nd)))]]) ∧ True) ?_ ?_
  ·
   unfold r12_12
   refine R_mv (@rfl V (iV (1 : Int))) ?_
   exact R_nil ⟨rfl, h1, trivial⟩
  intro T H ⟨t2, h1, _⟩
  refine W_seq_ret ?_
  refine Ret_1 t2 (fz_int ?_)
  · rw [dvE, if_neg (by omega), if_neg (by omega), if_neg (by rw [hz]; simp), if_pos d3]
 have d3 : whB t = true := by simpa using c8
 refine W_seq_skip ?_
 refine W_seq_regc (fun T H => T 5 = (intss (acL t.nd)) ∧ H 1 = (bk 1 24 1 [[(V.sl (List.map cN (t.nd)))]]) ∧ True) ?_ ?_
 ·
  unfold r12_13
  refine R_load_mp (v := (V.agg [(V.sl (List.map cN (t.nd)))])) t1 h1 (by first | rfl | simp [ldB, ldV, Blk.own, V.one]) ?_
  refine R_callc (evcons (@rfl V (V.agg [(V.sl (List.map cN (t.nd)))])) evnil) (raccess_pure t hb) ?_
  refine R_mv (@rfl V (intss (acL t.nd))) ?_
  exact R_nil ⟨rfl, h1, trivial⟩
 intro T H ⟨t5, h1, _⟩
 refine W_seq_seq ?_
 refine W_seq_regc (fun T H => T 41 = (V.bool (decide ((((sdW (acL t.nd)).length : Nat) : Int) ≠ (((acL t.nd).length : Nat) : Int)))) ∧ H 1 = (bk 1 24 1 [[(V.sl (List.map cN (t.nd)))]]) ∧ True) ?_ ?_
 ·
  unfold r12_14
  refine R_mv t5 ?_
  refine R_callc (evcons (@rfl V (intss (acL t.nd))) evnil) (rsorted_pure (acL t.nd) (by first | omega | assumption) haw) ?_
  refine R_len (@rfl V (intss (sdW (acL t.nd)))) ?_
  refine R_mv t5 ?_
  refine R_len (@rfl V (intss (acL t.nd))) ?_
  refine R_neq (x := (((sdW (acL t.nd)).length : Nat) : Int)) (y := (((acL t.nd).length : Nat) : Int)) (@rfl V (iV (((sdW (acL t.nd)).length : Nat) : Int))) (@rfl V (iV (((acL t.nd).length : Nat) : Int))) ?_
  exact R_nil ⟨rfl, h1, trivial⟩
 intro T H ⟨t41, h1, _⟩
 refine W_seq_if (p := (((sdW (acL t.nd)).length : Nat) : Int) ≠ (((acL t.nd).length : Nat) : Int)) t41 (fun c9 => ?_) (fun c9 => ?_)
 ·
  refine W_seq_seq ?_
  refine W_seq_regc (fun T H => T 2 = (iV (7 : Int)) ∧ H 1 = (bk 1 24 1 [[(V.sl (List.map cN (t.nd)))]]) ∧ True) ?_ ?_
  ·
   unfold r12_15
   refine R_mv (@rfl V (iV (7 : Int))) ?_
   exact R_nil ⟨rfl, h1, trivial⟩
  intro T H ⟨t2, h1, _⟩
  refine W_seq_ret ?_
  refine Ret_1 t2 (fz_int ?_)
  · rw [dvE, if_neg (by omega), if_neg (by omega), if_neg (by rw [hz]; simp), if_neg (by simp [d3]), if_pos (by omega)]
 refine W_seq_skip ?_
 refine W_seq_regc (fun T H => T 2 = (iV (0 : Int)) ∧ H 1 = (bk 1 24 1 [[(V.sl (List.map cN (t.nd)))]]) ∧ True) ?_ ?_
 ·
  unfold r12_16
  refine R_mv (@rfl V (iV (0 : Int))) ?_
  exact R_nil ⟨rfl, h1, trivial⟩
 intro T H ⟨t2, h1, _⟩
 refine W_ret ?_
 refine Ret_1 t2 (fz_int ?_)
 · rw [dvE, if_neg (by omega), if_neg (by omega), if_neg (by rw [hz]; simp), if_neg (by simp [d3]), if_neg (by omega)]
end Go.Proofs.YtmnjchcoigbngaaGreat


namespace Go.Proofs.YtmnjchcoigbngaaGreat
open Go Go.Proofs
def r30_0 : List SO := [
  sO 2 (.box 37 2 (.t 0)),
  sO 4 (.mv (.c (.nilsl))),
  sO 5 (.mv (.c (.bool false)))]
def r30_1 : List SO := [
  sO 7 (.mv (.t 1)),
  sO 8 (.len (.t 7)),
  sO 9 (.bin .eql (.t 8) (.c (.int .i64 0)))]
def r30_2 : List SO := [
  sO 4 (.mv (.c (.nilsl))),
  sO 5 (.mv (.c (.bool true)))]
def r30_3 : List SO := [
  sO 6 (.mv (.c (.int .i64 0)))]
def r30_4 : List SO := [
  sO 10 (.mv (.t 6)),
  sO 11 (.fld 1 (.t 2)),
  sO 12 (.load false 1 (.t 11)),
  sO 13 (.len (.t 12)),
  sO 14 (.bin .lss (.t 10) (.t 13))]
def r30_6 : List SO := [
  sO 17 (.fld 1 (.t 2)),
  sO 18 (.load false 1 (.t 17)),
  sO 19 (.mv (.t 6)),
  sO 20 (.idx 2 (.t 18) (.t 19)),
  sO 21 (.fld 0 (.t 20)),
  sO 22 (.load false 1 (.t 21)),
  sO 23 (.mv (.t 1)),
  sO 24 (.call false 73 [.t 22, .t 23])]
def r30_7 : List SO := [
  sO 25 (.fld 1 (.t 2)),
  sO 26 (.load false 1 (.t 25)),
  sO 27 (.mv (.t 6)),
  sO 28 (.idx 2 (.t 26) (.t 27)),
  sO 29 (.fld 1 (.t 28)),
  sO 30 (.load false 1 (.t 29)),
  sO 31 (.mv (.t 1)),
  sO 32 (.len (.t 31)),
  sO 33 (.slice 1 (.t 30) none (some (.t 32))),
  sO 34 (.bslice 38 1 false [.nilsl] 1 [(0, .t 33)]),
  sO 35 (.call false 31 [.t 34]),
  sO 4 (.mv (.t 35)),
  sO 5 (.mv (.c (.bool true)))]
def r30_5 : List SO := [
  sO 15 (.mv (.t 6)),
  sO 16 (.bin .add (.t 15) (.c (.int .i64 1))),
  sO 6 (.mv (.t 16))]
def b30_0 : SC := .seq (.seq (.reg r30_4) (.cond (.t 14) (.skip) (.exit 0))) (.seq (.block 1 (.seq (.reg r30_6) (.cond (.t 24) (.seq (.reg r30_7) (.ret)) (.skip)))) (.reg r30_5))
def r30_8 : List SO := [
  sO 4 (.mv (.c (.nilsl))),
  sO 5 (.mv (.c (.bool false)))]
def s30 : SF := ⟨36, [.tmp 4, .tmp 5], .seq (.reg r30_0) (.seq (.seq (.reg r30_1) (.cond (.t 9) (.seq (.reg r30_2) (.ret)) (.skip))) (.seq (.seq (.reg r30_3) (.block 0 (.loop b30_0))) (.seq (.reg r30_8) (.ret))))⟩
theorem s30_ok : slimF Tryz.prog ⟨[57, 58, 59, 63, 67, 68, 77, 102, 103, 104, 110, 116, 120], []⟩ Tryz.f30 = some s30 := by kernel_rfl
end Go.Proofs.YtmnjchcoigbngaaGreat


namespace Go.Proofs.YtmnjchcoigbngaaGreat
open Go Go.Proofs
theorem ranswer_pure (o : Ob) (w : List Int) (ho : oval o = 0) : PureC Tryz.prog 30 [(V.agg [(iV (o.i)), (V.sl (List.map cT (o.tr)))]), (ints w)] (V.tup [(ints ((ans o w).getD [])), (V.bool ((ans o w).isSome))]) := by
 refine pure_of_Wb true 6 Tryz.func30 s30_ok (by kernel_rfl) (by simp [s30]) (by simp) (by simp) fun hB => ?_
 simp only [bnd_map, bnd_int, bnd_bool, bnd_str, bnd_agg, bnd_pp, bnd_nil, bnd_cons, implies_true, and_true, true_and] at hB
 unfold s30
 dsimp only
 have u2 := oval_ok ho
 refine W_seq_regc (fun T H => T 1 = (ints w) ∧ T 2 = (V.mp 2 1 0 0) ∧ H 2 = (bk 1 37 2 [[(iV (o.i)), (V.sl (List.map cT (o.tr)))]]) ∧ True) ?_ ?_
 ·
  unfold r30_0
  refine R_box (i := 2) (n := 0) (m := 2) (cs := [(iV (o.i)), (V.sl (List.map cT (o.tr)))]) rfl (congrArg Blk.ver rfl) (@rfl V (V.agg [(iV (o.i)), (V.sl (List.map cT (o.tr)))])) rfl rfl ?_
  refine R_mv (@rfl V V.nilsl) ?_
  refine R_mv (@rfl V (V.bool false)) ?_
  exact R_nil ⟨rfl, rfl, rfl, trivial⟩
 intro T H ⟨t1, t2, h2, _⟩
 refine W_seq_seq ?_
 refine W_seq_regc (fun T H => T 1 = (ints w) ∧ T 2 = (V.mp 2 1 0 0) ∧ T 9 = (V.bool (decide (((w.length : Nat) : Int) = (0 : Int)))) ∧ H 2 = (bk 1 37 2 [[(iV (o.i)), (V.sl (List.map cT (o.tr)))]]) ∧ True) ?_ ?_
 ·
  unfold r30_1
  refine R_mv t1 ?_
  refine R_len (@rfl V (ints w)) ?_
  refine R_eql (x := ((w.length : Nat) : Int)) (y := (0 : Int)) (@rfl V (iV ((w.length : Nat) : Int))) (@rfl V (iV (0 : Int))) ?_
  exact R_nil ⟨t1, t2, rfl, h2, trivial⟩
 intro T H ⟨t1, t2, t9, h2, _⟩
 refine W_seq_if (p := ((w.length : Nat) : Int) = (0 : Int)) t9 (fun c1 => ?_) (fun c1 => ?_)
 ·
  refine W_seq_seq ?_
  refine W_seq_regc (fun T H => T 4 = V.nilsl ∧ T 5 = (V.bool true) ∧ H 2 = (bk 1 37 2 [[(iV (o.i)), (V.sl (List.map cT (o.tr)))]]) ∧ True) ?_ ?_
  ·
   unfold r30_2
   refine R_mv (@rfl V V.nilsl) ?_
   refine R_mv (@rfl V (V.bool true)) ?_
   exact R_nil ⟨rfl, rfl, h2, trivial⟩
  intro T H ⟨t4, t5, h2, _⟩
  refine W_seq_ret ?_
  refine Ret_2 t4 t5 (fz_nil ?_) (fz_bool ?_)
  · rw [List.length_eq_zero_iff.1 (show w.length = 0 by omega)]; rfl
  · rw [List.length_eq_zero_iff.1 (show w.length = 0 by omega)]; rfl
 refine W_seq_skip ?_
 refine W_seq_seq ?_
 refine W_seq_regc (fun T H => T 1 = (ints w) ∧ T 2 = (V.mp 2 1 0 0) ∧ T 6 = (iV (0 : Int)) ∧ H 2 = (bk 1 37 2 [[(iV (o.i)), (V.sl (List.map cT (o.tr)))]]) ∧ True) ?_ ?_
 ·
  unfold r30_3
  refine R_mv (@rfl V (iV (0 : Int))) ?_
  exact R_nil ⟨t1, t2, rfl, h2, trivial⟩
 intro T H ⟨t1, t2, t6, h2, _⟩
 refine W_seq_blockg fun Q2 n2 x2 y2 z2 => ?_
 refine W_loop (fun mm T H => ∃ (k : Nat), mm = o.tr.length - k ∧ T 1 = (ints w) ∧ T 2 = (V.mp 2 1 0 0) ∧ T 6 = (iV ((k : Nat) : Int)) ∧ H 2 = (bk 1 37 2 [[(iV (o.i)), (V.sl (List.map cT (o.tr)))]]) ∧ (k ≤ o.tr.length) ∧ (w ≠ []) ∧ (ansL o.tr w = ansL (o.tr.drop k) w)) ?_ ?_
 ·
  refine ⟨_, 0, rfl, t1, t2, (Eq.trans t6 (by first | rfl | simp)), h2, ?_, ?_, ?_⟩
  · omega
  · intro e; subst e; simp at *
  · rfl
 intro mm T H ⟨k, hmm, t1, t2, t6, h2, hk, hw, hc⟩ Q3 p13 p23 p33
 unfold b30_0
 refine W_seq_seq ?_
 refine W_seq_regc (fun T H => T 1 = (ints w) ∧ T 2 = (V.mp 2 1 0 0) ∧ T 6 = (iV ((k : Nat) : Int)) ∧ T 14 = (V.bool (decide (((k : Nat) : Int) < ((o.tr.length : Nat) : Int)))) ∧ H 2 = (bk 1 37 2 [[(iV (o.i)), (V.sl (List.map cT (o.tr)))]]) ∧ True) ?_ ?_
 ·
  unfold r30_4
  refine R_mv t6 ?_
  refine R_fld_mp (o' := 1) t2 h2 (by first | rfl | simp [okB, Blk.own]) rfl ?_
  refine R_load_mp (v := (V.sl (List.map cT (o.tr)))) (@rfl V (V.mp 2 1 0 1)) h2 (by first | rfl | simp [ldB, ldV, Blk.own, V.one]) ?_
  refine R_len (@rfl V (V.sl (List.map cT (o.tr)))) ?_
  refine R_lss (x := ((k : Nat) : Int)) (y := ((o.tr.length : Nat) : Int)) (@rfl V (iV ((k : Nat) : Int))) (@rfl V (iV ((o.tr.length : Nat) : Int))) ?_
  exact R_nil ⟨t1, t2, t6, rfl, h2, trivial⟩
 intro T H ⟨t1, t2, t6, t14, h2, _⟩
 refine W_seq_if (p := ((k : Nat) : Int) < ((o.tr.length : Nat) : Int)) t14 (fun c4 => ?_) (fun c4 => ?_)
 ·
  refine W_seq_skip ?_
  refine W_seq_blockg fun Q5 n5 x5 y5 z5 => ?_
  refine W_seq_regc (fun T H => T 1 = (ints w) ∧ T 2 = (V.mp 2 1 0 0) ∧ T 6 = (iV ((k : Nat) : Int)) ∧ T 24 = (V.bool (hp ((nth (o.tr) (k)).ni) w)) ∧ H 2 = (bk 1 37 2 [[(iV (o.i)), (V.sl (List.map cT (o.tr)))]]) ∧ True) ?_ ?_
  ·
   unfold r30_6
   refine R_fld_mp (o' := 1) t2 h2 (by first | rfl | simp [okB, Blk.own]) rfl ?_
   refine R_load_mp (v := (V.sl (List.map cT (o.tr)))) (@rfl V (V.mp 2 1 0 1)) h2 (by first | rfl | simp [ldB, ldV, Blk.own, V.one]) ?_
   refine R_mv t6 ?_
   refine R_idx (i := k) (@rfl V (V.sl (List.map cT (o.tr)))) (@rfl V (iV ((k : Nat) : Int))) (by omega) rfl ?_
   refine R_fld_pp (cs' := [(ints ((nth (o.tr) (k)).ni)), (ints ((nth (o.tr) (k)).no))]) rfl rfl ?_
   refine R_load_pp (v := (ints ((nth (o.tr) (k)).ni))) rfl (by first | rfl | simp [ldV]) ?_
   refine R_mv t1 ?_
   refine R_callc (evcons (@rfl V (ints ((nth (o.tr) (k)).ni))) (evcons (@rfl V (ints w)) evnil)) (rhp_pure ((nth (o.tr) (k)).ni) w) ?_
   exact R_nil ⟨t1, t2, t6, rfl, h2, trivial⟩
  intro T H ⟨t1, t2, t6, t24, h2, _⟩
  refine W_ifb t24 (fun c6 => ?_) (fun c6 => ?_)
  ·
   have d1 := c6
   have d2 := hp_len c6
   have d3 := (u2.pr k (by omega)).1.len
   have d4 := (u2.pr k (by omega)).1.lel
   have d5 : ans o w = some ((nth o.tr k).no.take w.length) := by rw [ans, if_neg hw, hc, nth_drop (by omega), ansL, if_pos d1]
   refine W_seq_regc (fun T H => T 4 = (ints (cat ([List.take (w.length) ((nth (o.tr) (k)).no)]))) ∧ T 5 = (V.bool true) ∧ H 2 = (bk 1 37 2 [[(iV (o.i)), (V.sl (List.map cT (o.tr)))]]) ∧ True) ?_ ?_
   ·
    unfold r30_7
    refine R_fld_mp (o' := 1) t2 h2 (by first | rfl | simp [okB, Blk.own]) rfl ?_
    refine R_load_mp (v := (V.sl (List.map cT (o.tr)))) (@rfl V (V.mp 2 1 0 1)) h2 (by first | rfl | simp [ldB, ldV, Blk.own, V.one]) ?_
    refine R_mv t6 ?_
    refine R_idx (i := k) (@rfl V (V.sl (List.map cT (o.tr)))) (@rfl V (iV ((k : Nat) : Int))) (by omega) rfl ?_
    refine R_fld_pp (cs' := [(ints ((nth (o.tr) (k)).no))]) rfl rfl ?_
    refine R_load_pp (v := (ints ((nth (o.tr) (k)).no))) rfl (by first | rfl | simp [ldV]) ?_
    refine R_mv t1 ?_
    refine R_len (@rfl V (ints w)) ?_
    refine R_slice_hi (n := w.length) (@rfl V (ints ((nth (o.tr) (k)).no))) (@rfl V (iV ((w.length : Nat) : Int))) (by omega) (fun _ => rfl) ?_
    refine R_bslice (qs := [(0, (ints (List.take (w.length) ((nth (o.tr) (k)).no))))]) (rows := [[(ints (List.take (w.length) ((nth (o.tr) (k)).no)))]]) (mcons (congrArg (fun v => (0, v)) (@rfl V (ints (List.take (w.length) ((nth (o.tr) (k)).no))))) rfl) rfl ?_
    refine R_callc (evcons (@rfl V (V.sl [[(ints (List.take (w.length) ((nth (o.tr) (k)).no)))]])) evnil) (join_pure ([List.take (w.length) ((nth (o.tr) (k)).no)]) (by simp [cat]; omega)) ?_
    refine R_mv (@rfl V (ints (cat ([List.take (w.length) ((nth (o.tr) (k)).no)])))) ?_
    refine R_mv (@rfl V (V.bool true)) ?_
    exact R_nil ⟨rfl, rfl, h2, trivial⟩
   intro T H ⟨t4, t5, h2, _⟩
   refine W_ret ?_
   refine y5 _ _ ?_
   refine p23 _ _ ?_
   refine y2 _ _ ?_
   refine Ret_2 t4 t5 (fz_sl ?_ (fun _ => by simp)) (fz_bool ?_)
   · rw [d5]; simp [cat]
   · rw [d5]; rfl
  have d1 := c6
  refine W_skip ?_
  refine n5 _ _ ?_
  refine .done ?_
  refine W_regc (fun T H => T 1 = (ints w) ∧ T 2 = (V.mp 2 1 0 0) ∧ T 6 = (iV ((k + 1 : Nat) : Int)) ∧ H 2 = (bk 1 37 2 [[(iV (o.i)), (V.sl (List.map cT (o.tr)))]]) ∧ True) ?_ ?_
  ·
   unfold r30_5
   refine R_mv t6 ?_
   refine R_addN (m := k) (n := 1) (@rfl V (iV ((k : Nat) : Int))) (@rfl V (iV ((1 : Nat) : Int))) (by omega) ?_
   refine R_mv (@rfl V (iV ((k + 1 : Nat) : Int))) ?_
   exact R_nil ⟨t1, t2, rfl, h2, trivial⟩
  intro T H ⟨t1, t2, t6, h2, _⟩
  refine p13 _ _ _ ?_ ⟨(k + 1), rfl, t1, t2, (Eq.trans t6 (by first | rfl | simp)), h2, ?_, ?_, ?_⟩
  · omega
  · omega
  · omega
  · rw [hc, nth_drop (by omega), ansL, if_neg (by simp [d1])]
 refine W_seq_exit ?_
 refine p33 _ _ _ ?_
 refine x2 _ _ ?_
 refine .done ?_
 refine W_seq_regc (fun T H => T 4 = V.nilsl ∧ T 5 = (V.bool false) ∧ H 2 = (bk 1 37 2 [[(iV (o.i)), (V.sl (List.map cT (o.tr)))]]) ∧ True) ?_ ?_
 ·
  unfold r30_8
  refine R_mv (@rfl V V.nilsl) ?_
  refine R_mv (@rfl V (V.bool false)) ?_
  exact R_nil ⟨rfl, rfl, h2, trivial⟩
 intro T H ⟨t4, t5, h2, _⟩
 refine W_ret ?_
 refine Ret_2 t4 t5 (fz_nil ?_) (fz_bool ?_)
 · rw [ans, if_neg hw, hc, List.drop_of_length_le (by omega)]; rfl
 · rw [ans, if_neg hw, hc, List.drop_of_length_le (by omega)]; rfl
end Go.Proofs.YtmnjchcoigbngaaGreat


namespace Go.Proofs.YtmnjchcoigbngaaGreat
open Go Go.Proofs
def r52_0 : List SO := [
  sO 2 (.box 68 5 (.t 0)),
  sO 4 (.mv (.c (.int .i64 0)))]
def r52_1 : List SO := [
  sO 5 (.mv (.c (.int .i64 0)))]
def r52_2 : List SO := [
  sO 6 (.mv (.t 5)),
  sO 7 (.fld 3 (.t 2)),
  sO 8 (.load false 1 (.t 7)),
  sO 9 (.len (.t 8)),
  sO 10 (.bin .lss (.t 6) (.t 9))]
def r52_4 : List SO := [
  sO 13 (.fld 3 (.t 2)),
  sO 14 (.load false 1 (.t 13)),
  sO 15 (.mv (.t 5)),
  sO 16 (.idx 1 (.t 14) (.t 15)),
  sO 17 (.load false 1 (.t 16)),
  sO 18 (.mv (.t 1)),
  sO 19 (.call false 22 [.t 17, .t 18])]
def r52_5 : List SO := [
  sO 20 (.fld 4 (.t 2)),
  sO 21 (.load false 1 (.t 20)),
  sO 22 (.mv (.t 5)),
  sO 23 (.idx 1 (.t 21) (.t 22)),
  sO 24 (.load false 1 (.t 23)),
  sO 4 (.mv (.t 24))]
def r52_3 : List SO := [
  sO 11 (.mv (.t 5)),
  sO 12 (.bin .add (.t 11) (.c (.int .i64 1))),
  sO 5 (.mv (.t 12))]
def b52_0 : SC := .seq (.seq (.reg r52_2) (.cond (.t 10) (.skip) (.exit 0))) (.seq (.block 1 (.seq (.reg r52_4) (.cond (.t 19) (.seq (.reg r52_5) (.ret)) (.skip)))) (.reg r52_3))
def r52_6 : List SO := [
  sO 4 (.mv (.c (.int .i64 (-1))))]
def s52 : SF := ⟨25, [.tmp 4], .seq (.reg r52_0) (.seq (.seq (.reg r52_1) (.block 0 (.loop b52_0))) (.seq (.reg r52_6) (.ret)))⟩
theorem s52_ok : slimF Tryz.prog ⟨[57, 58, 59, 63, 67, 68, 77, 102, 103, 104, 110, 116, 120], []⟩ Tryz.f52 = some s52 := by kernel_rfl
end Go.Proofs.YtmnjchcoigbngaaGreat


namespace Go.Proofs.YtmnjchcoigbngaaGreat
open Go Go.Proofs
theorem rchild_pure (x : Nd) (outs : List Int) (hs : SrtL x.ou) (hl : x.ou.length = x.kd.length) : PureC Tryz.prog 52 [(V.agg (cN x)), (ints outs)] (iV (if lxH x.ou outs then nth x.kd (lxN x.ou outs) else -1)) := by
 refine pure_of_Wb true 6 Tryz.func52 s52_ok (by kernel_rfl) (by simp [s52]) (by simp) (by simp) fun hB => ?_
 simp only [bnd_map, bnd_int, bnd_bool, bnd_str, bnd_agg, bnd_pp, bnd_nil, bnd_cons, implies_true, and_true, true_and] at hB
 unfold s52
 dsimp only
 refine W_seq_regc (fun T H => T 1 = (ints outs) ∧ T 2 = (V.mp 2 1 0 0) ∧ H 2 = (bk 1 68 5 [(cN x)]) ∧ True) ?_ ?_
 ·
  unfold r52_0
  refine R_box (i := 2) (n := 0) (m := 5) (cs := [(V.bool x.lf), (ints x.ac), (ints x.sf), (intss x.ou), (ints x.kd)]) rfl (congrArg Blk.ver rfl) (@rfl V (V.agg (cN x))) rfl rfl ?_
  refine R_mv (@rfl V (iV (0 : Int))) ?_
  exact R_nil ⟨rfl, rfl, rfl, trivial⟩
 intro T H ⟨t1, t2, h2, _⟩
 refine W_seq_seq ?_
 refine W_seq_regc (fun T H => T 1 = (ints outs) ∧ T 2 = (V.mp 2 1 0 0) ∧ T 5 = (iV (0 : Int)) ∧ H 2 = (bk 1 68 5 [(cN x)]) ∧ True) ?_ ?_
 ·
  unfold r52_1
  refine R_mv (@rfl V (iV (0 : Int))) ?_
  exact R_nil ⟨t1, t2, rfl, h2, trivial⟩
 intro T H ⟨t1, t2, t5, h2, _⟩
 refine W_seq_blockg fun Q1 n1 x1 y1 z1 => ?_
 refine W_loop (fun mm T H => ∃ (k : Nat), mm = x.ou.length - k ∧ T 1 = (ints outs) ∧ T 2 = (V.mp 2 1 0 0) ∧ T 5 = (iV ((k : Nat) : Int)) ∧ H 2 = (bk 1 68 5 [(cN x)]) ∧ (k ≤ x.ou.length) ∧ (∀ j, j < k → nth x.ou j ≠ outs)) ?_ ?_
 ·
  refine ⟨_, 0, rfl, t1, t2, (Eq.trans t5 (by first | rfl | simp)), h2, ?_, ?_⟩
  · omega
  · intro j hj; omega
 intro mm T H ⟨k, hmm, t1, t2, t5, h2, hk, hc⟩ Q2 p12 p22 p32
 unfold b52_0
 refine W_seq_seq ?_
 refine W_seq_regc (fun T H => T 1 = (ints outs) ∧ T 2 = (V.mp 2 1 0 0) ∧ T 5 = (iV ((k : Nat) : Int)) ∧ T 10 = (V.bool (decide (((k : Nat) : Int) < ((x.ou.length : Nat) : Int)))) ∧ H 2 = (bk 1 68 5 [(cN x)]) ∧ True) ?_ ?_
 ·
  unfold r52_2
  refine R_mv t5 ?_
  refine R_fld_mp (o' := 3) t2 h2 (by first | rfl | simp [okB, Blk.own]) rfl ?_
  refine R_load_mp (v := (intss x.ou)) (@rfl V (V.mp 2 1 0 3)) h2 (by first | rfl | simp [ldB, ldV, Blk.own, V.one]) ?_
  refine R_len (@rfl V (intss x.ou)) ?_
  refine R_lss (x := ((k : Nat) : Int)) (y := ((x.ou.length : Nat) : Int)) (@rfl V (iV ((k : Nat) : Int))) (@rfl V (iV ((x.ou.length : Nat) : Int))) ?_
  exact R_nil ⟨t1, t2, t5, rfl, h2, trivial⟩
 intro T H ⟨t1, t2, t5, t10, h2, _⟩
 refine W_seq_if (p := ((k : Nat) : Int) < ((x.ou.length : Nat) : Int)) t10 (fun c3 => ?_) (fun c3 => ?_)
 ·
  refine W_seq_skip ?_
  refine W_seq_blockg fun Q4 n4 x4 y4 z4 => ?_
  refine W_seq_regc (fun T H => T 1 = (ints outs) ∧ T 2 = (V.mp 2 1 0 0) ∧ T 5 = (iV ((k : Nat) : Int)) ∧ T 19 = (V.bool (decide (((nth (x.ou) (k))) = outs))) ∧ H 2 = (bk 1 68 5 [(cN x)]) ∧ True) ?_ ?_
  ·
   unfold r52_4
   refine R_fld_mp (o' := 3) t2 h2 (by first | rfl | simp [okB, Blk.own]) rfl ?_
   refine R_load_mp (v := (intss x.ou)) (@rfl V (V.mp 2 1 0 3)) h2 (by first | rfl | simp [ldB, ldV, Blk.own, V.one]) ?_
   refine R_mv t5 ?_
   refine R_idx (i := k) (@rfl V (intss x.ou)) (@rfl V (iV ((k : Nat) : Int))) (by omega) rfl ?_
   refine R_load_pp (v := (ints ((nth (x.ou) (k))))) rfl (by first | rfl | simp [ldV]) ?_
   refine R_mv t1 ?_
   refine R_callc (evcons (@rfl V (ints ((nth (x.ou) (k))))) (evcons (@rfl V (ints outs)) evnil)) (rsame1_pure ((nth (x.ou) (k))) outs) ?_
   exact R_nil ⟨t1, t2, t5, rfl, h2, trivial⟩
  intro T H ⟨t1, t2, t5, t19, h2, _⟩
  refine W_if (p := ((nth (x.ou) (k))) = outs) t19 (fun c5 => ?_) (fun c5 => ?_)
  ·
   have d1 : nth x.ou k = outs := c5
   have d2 := lxH_iff hs (show k < x.ou.length by omega) d1
   refine W_seq_regc (fun T H => T 4 = (iV ((nth (x.kd) (k)))) ∧ H 2 = (bk 1 68 5 [(cN x)]) ∧ True) ?_ ?_
   ·
    unfold r52_5
    refine R_fld_mp (o' := 4) t2 h2 (by first | rfl | simp [okB, Blk.own]) rfl ?_
    refine R_load_mp (v := (ints x.kd)) (@rfl V (V.mp 2 1 0 4)) h2 (by first | rfl | simp [ldB, ldV, Blk.own, V.one]) ?_
    refine R_mv t5 ?_
    refine R_idx (i := k) (@rfl V (ints x.kd)) (@rfl V (iV ((k : Nat) : Int))) (by omega) rfl ?_
    refine R_load_pp (v := (iV ((nth (x.kd) (k))))) rfl (by first | rfl | simp [ldV]) ?_
    refine R_mv (@rfl V (iV ((nth (x.kd) (k))))) ?_
    exact R_nil ⟨rfl, h2, trivial⟩
   intro T H ⟨t4, h2, _⟩
   refine W_ret ?_
   refine y4 _ _ ?_
   refine p22 _ _ ?_
   refine y1 _ _ ?_
   refine Ret_1 t4 (fz_int ?_)
   · rw [if_pos d2.2, d2.1]
  have d1 : nth x.ou k ≠ outs := c5
  refine W_skip ?_
  refine n4 _ _ ?_
  refine .done ?_
  refine W_regc (fun T H => T 1 = (ints outs) ∧ T 2 = (V.mp 2 1 0 0) ∧ T 5 = (iV ((k + 1 : Nat) : Int)) ∧ H 2 = (bk 1 68 5 [(cN x)]) ∧ True) ?_ ?_
  ·
   unfold r52_3
   refine R_mv t5 ?_
   refine R_addN (m := k) (n := 1) (@rfl V (iV ((k : Nat) : Int))) (@rfl V (iV ((1 : Nat) : Int))) (by omega) ?_
   refine R_mv (@rfl V (iV ((k + 1 : Nat) : Int))) ?_
   exact R_nil ⟨t1, t2, rfl, h2, trivial⟩
  intro T H ⟨t1, t2, t5, h2, _⟩
  refine p12 _ _ _ ?_ ⟨(k + 1), rfl, t1, t2, (Eq.trans t5 (by first | rfl | simp)), h2, ?_, ?_⟩
  · omega
  · omega
  · intro j hj
    by_cases e : j = k
    · subst e; exact d1
    · exact hc j (by omega)
 refine W_seq_exit ?_
 refine p32 _ _ _ ?_
 refine x1 _ _ ?_
 refine .done ?_
 refine W_seq_regc (fun T H => T 4 = (iV (-1 : Int)) ∧ H 2 = (bk 1 68 5 [(cN x)]) ∧ True) ?_ ?_
 ·
  unfold r52_6
  refine R_mv (@rfl V (iV (-1 : Int))) ?_
  exact R_nil ⟨rfl, h2, trivial⟩
 intro T H ⟨t4, h2, _⟩
 refine W_ret ?_
 refine Ret_1 t4 (fz_int ?_)
 · rw [if_neg (fun e => hc _ (by have := e.1; omega) (lxH_nth e))]
end Go.Proofs.YtmnjchcoigbngaaGreat


namespace Go.Proofs.YtmnjchcoigbngaaGreat
open Go Go.Proofs
theorem rsift_pure (t : Dt) (o : Ob) (w : List Int) (hb : Bd t) (ho : oval o = 0) (hw : w.length ≤ 1048576) : PureC Tryz.prog 21 [(V.agg [(V.sl (List.map cN (t.nd)))]), (V.agg [(iV (o.i)), (V.sl (List.map cT (o.tr)))]), (ints w)] (V.tup [(iV ((sftR t o w).1)), (ints ((sftR t o w).2.1)), (iV ((sftR t o w).2.2))]) := by
 refine pure_of_Wb true 6 Tryz.func21 s21_ok (by kernel_rfl) (by simp [s21]) (by simp) (by simp) fun hB => ?_
 simp only [bnd_map, bnd_int, bnd_bool, bnd_str, bnd_agg, bnd_pp, bnd_nil, bnd_cons, implies_true, and_true, true_and] at hB
 unfold s21
 dsimp only
 refine W_seq_regc (fun T H => T 2 = (ints w) ∧ T 3 = (V.mp 3 1 0 0) ∧ T 4 = (V.mp 4 1 0 0) ∧ H 3 = (bk 1 24 1 [[(V.sl (List.map cN (t.nd)))]]) ∧ H 4 = (bk 1 37 2 [[(iV (o.i)), (V.sl (List.map cT (o.tr)))]]) ∧ True) ?_ ?_
 ·
  unfold r21_0
  refine R_box (i := 3) (n := 0) (m := 1) (cs := [(V.sl (List.map cN (t.nd)))]) rfl (congrArg Blk.ver rfl) (@rfl V (V.agg [(V.sl (List.map cN (t.nd)))])) rfl rfl ?_
  refine R_box (i := 4) (n := 0) (m := 2) (cs := [(iV (o.i)), (V.sl (List.map cT (o.tr)))]) rfl (congrArg Blk.ver rfl) (@rfl V (V.agg [(iV (o.i)), (V.sl (List.map cT (o.tr)))])) rfl rfl ?_
  refine R_mv (@rfl V (iV (0 : Int))) ?_
  refine R_mv (@rfl V V.nilsl) ?_
  refine R_mv (@rfl V (iV (0 : Int))) ?_
  exact R_nil ⟨rfl, rfl, rfl, rfl, rfl, trivial⟩
 intro T H ⟨t2, t3, t4, h3, h4, _⟩
 refine W_seq_seq ?_
 refine W_seq_regc (fun T H => T 2 = (ints w) ∧ T 3 = (V.mp 3 1 0 0) ∧ T 4 = (V.mp 4 1 0 0) ∧ T 9 = (iV (dvE t)) ∧ H 3 = (bk 1 24 1 [[(V.sl (List.map cN (t.nd)))]]) ∧ H 4 = (bk 1 37 2 [[(iV (o.i)), (V.sl (List.map cT (o.tr)))]]) ∧ True) ?_ ?_
 ·
  unfold r21_1
  refine R_load_mp (v := (V.agg [(V.sl (List.map cN (t.nd)))])) t3 h3 (by first | rfl | simp [ldB, ldV, Blk.own, V.one]) ?_
  refine R_callc (evcons (@rfl V (V.agg [(V.sl (List.map cN (t.nd)))])) evnil) (rdvalid_pure t hb) ?_
  refine R_mv (@rfl V (iV (dvE t))) ?_
  exact R_nil ⟨t2, t3, t4, rfl, h3, h4, trivial⟩
 intro T H ⟨t2, t3, t4, t9, h3, h4, _⟩
 refine W_seq_seq ?_
 refine W_seq_regc (fun T H => T 2 = (ints w) ∧ T 3 = (V.mp 3 1 0 0) ∧ T 4 = (V.mp 4 1 0 0) ∧ T 9 = (iV (dvE t)) ∧ T 20 = (V.bool (decide ((dvE t) ≠ (0 : Int)))) ∧ H 3 = (bk 1 24 1 [[(V.sl (List.map cN (t.nd)))]]) ∧ H 4 = (bk 1 37 2 [[(iV (o.i)), (V.sl (List.map cT (o.tr)))]]) ∧ True) ?_ ?_
 ·
  unfold r21_2
  refine R_mv t9 ?_
  refine R_neq (x := (dvE t)) (y := (0 : Int)) (@rfl V (iV (dvE t))) (@rfl V (iV (0 : Int))) ?_
  exact R_nil ⟨t2, t3, t4, t9, rfl, h3, h4, trivial⟩
 intro T H ⟨t2, t3, t4, t9, t20, h3, h4, _⟩
 refine W_seq_if (p := (dvE t) ≠ (0 : Int)) t20 (fun c1 => ?_) (fun c1 => ?_)
 ·
  refine W_seq_seq ?_
  refine W_seq_regc (fun T H => T 6 = (iV (0 : Int)) ∧ T 7 = V.nilsl ∧ T 8 = (iV (dvE t)) ∧ H 3 = (bk 1 24 1 [[(V.sl (List.map cN (t.nd)))]]) ∧ H 4 = (bk 1 37 2 [[(iV (o.i)), (V.sl (List.map cT (o.tr)))]]) ∧ True) ?_ ?_
  ·
   unfold r21_3
   refine R_mv t9 ?_
   refine R_mv (@rfl V (iV (0 : Int))) ?_
   refine R_mv (@rfl V V.nilsl) ?_
   refine R_mv (@rfl V (iV (dvE t))) ?_
   exact R_nil ⟨rfl, rfl, rfl, h3, h4, trivial⟩
  intro T H ⟨t6, t7, t8, h3, h4, _⟩
  refine W_seq_ret ?_
  refine Ret_3 t6 t7 t8 (fz_int ?_) (fz_nil ?_) (fz_int ?_)
  · unfold sftR; rw [if_pos (by omega)]
  · unfold sftR; rw [if_pos (by omega)]
  · unfold sftR; rw [if_pos (by omega)]
 have hv : dvE t = 0 := by omega
 refine W_seq_skip ?_
 refine W_seq_seq ?_
 refine W_seq_regc (fun T H => T 2 = (ints w) ∧ T 3 = (V.mp 3 1 0 0) ∧ T 4 = (V.mp 4 1 0 0) ∧ T 10 = (iV (wchk w ((o.i)))) ∧ H 3 = (bk 1 24 1 [[(V.sl (List.map cN (t.nd)))]]) ∧ H 4 = (bk 1 37 2 [[(iV (o.i)), (V.sl (List.map cT (o.tr)))]]) ∧ True) ?_ ?_
 ·
  unfold r21_4
  refine R_mv t2 ?_
  refine R_fld_mp (o' := 0) t4 h4 (by first | rfl | simp [okB, Blk.own]) rfl ?_
  refine R_load_mp (v := (iV (o.i))) (@rfl V (V.mp 4 1 0 0)) h4 (by first | rfl | simp [ldB, ldV, Blk.own, V.one]) ?_
  refine R_callc (evcons (@rfl V (ints w)) (evcons (@rfl V (iV (o.i))) evnil)) (rcheck_pure w ((o.i))) ?_
  refine R_mv (@rfl V (iV (wchk w ((o.i))))) ?_
  exact R_nil ⟨t2, t3, t4, rfl, h3, h4, trivial⟩
 intro T H ⟨t2, t3, t4, t10, h3, h4, _⟩
 refine W_seq_seq ?_
 refine W_seq_regc (fun T H => T 2 = (ints w) ∧ T 3 = (V.mp 3 1 0 0) ∧ T 4 = (V.mp 4 1 0 0) ∧ T 10 = (iV (wchk w ((o.i)))) ∧ T 27 = (V.bool (decide ((wchk w ((o.i))) ≠ (0 : Int)))) ∧ H 3 = (bk 1 24 1 [[(V.sl (List.map cN (t.nd)))]]) ∧ H 4 = (bk 1 37 2 [[(iV (o.i)), (V.sl (List.map cT (o.tr)))]]) ∧ True) ?_ ?_
 ·
  unfold r21_5
  refine R_mv t10 ?_
  refine R_neq (x := (wchk w ((o.i)))) (y := (0 : Int)) (@rfl V (iV (wchk w ((o.i))))) (@rfl V (iV (0 : Int))) ?_
  exact R_nil ⟨t2, t3, t4, t10, rfl, h3, h4, trivial⟩
 intro T H ⟨t2, t3, t4, t10, t27, h3, h4, _⟩
 refine W_seq_if (p := (wchk w ((o.i))) ≠ (0 : Int)) t27 (fun c2 => ?_) (fun c2 => ?_)
 ·
  refine W_seq_seq ?_
  refine W_seq_regc (fun T H => T 6 = (iV (0 : Int)) ∧ T 7 = V.nilsl ∧ T 8 = (iV (wchk w ((o.i)))) ∧ H 3 = (bk 1 24 1 [[(V.sl (List.map cN (t.nd)))]]) ∧ H 4 = (bk 1 37 2 [[(iV (o.i)), (V.sl (List.map cT (o.tr)))]]) ∧ True) ?_ ?_
  ·
   unfold r21_6
   refine R_mv t10 ?_
   refine R_mv (@rfl V (iV (0 : Int))) ?_
   refine R_mv (@rfl V V.nilsl) ?_
   refine R_mv (@rfl V (iV (wchk w ((o.i))))) ?_
   exact R_nil ⟨rfl, rfl, rfl, h3, h4, trivial⟩
  intro T H ⟨t6, t7, t8, h3, h4, _⟩
  refine W_seq_ret ?_
  refine Ret_3 t6 t7 t8 (fz_int ?_) (fz_nil ?_) (fz_int ?_)
  · unfold sftR; rw [if_neg (by omega), if_pos (by omega)]
  · unfold sftR; rw [if_neg (by omega), if_pos (by omega)]
  · unfold sftR; rw [if_neg (by omega), if_pos (by omega)]
 refine W_seq_skip ?_
 refine W_seq_regc (fun T H => T 2 = (ints w) ∧ T 3 = (V.mp 3 1 0 0) ∧ T 4 = (V.mp 4 1 0 0) ∧ T 11 = (iV (0 : Int)) ∧ H 3 = (bk 1 24 1 [[(V.sl (List.map cN (t.nd)))]]) ∧ H 4 = (bk 1 37 2 [[(iV (o.i)), (V.sl (List.map cT (o.tr)))]]) ∧ True) ?_ ?_
 ·
  unfold r21_7
  refine R_mv (@rfl V (iV (0 : Int))) ?_
  exact R_nil ⟨t2, t3, t4, rfl, h3, h4, trivial⟩
 intro T H ⟨t2, t3, t4, t11, h3, h4, _⟩
 refine W_seq_blockg fun Q3 n3 x3 y3 z3 => ?_
 refine W_loop (fun mm T H => ∃ (a : Int) (f : Nat), mm = f ∧ T 2 = (ints w) ∧ T 3 = (V.mp 3 1 0 0) ∧ T 4 = (V.mp 4 1 0 0) ∧ T 11 = (iV (a)) ∧ H 3 = (bk 1 24 1 [[(V.sl (List.map cN (t.nd)))]]) ∧ H 4 = (bk 1 37 2 [[(iV (o.i)), (V.sl (List.map cT (o.tr)))]]) ∧ (0 ≤ a) ∧ (Rk t f a.toNat) ∧ (sftN t o w t.nd.length 0 = sftN t o w f a.toNat)) ?_ ?_
 ·
  refine ⟨_, 0, t.nd.length, rfl, t2, t3, t4, t11, h3, h4, ?_, ?_, ?_⟩
  · omega
  · exact rk0 hv
  · rfl
 intro mm T H ⟨a, f, hmm, t2, t3, t4, t11, h3, h4, ha, hr, hc⟩ Q4 p14 p24 p34
 unfold b21_0
 have hlt := hr.lt hv
 have hsf := hb.sf _ hlt
 have hbn := hb.n
 refine W_seq_seq ?_
 refine W_seq_regc (fun T H => T 2 = (ints w) ∧ T 3 = (V.mp 3 1 0 0) ∧ T 4 = (V.mp 4 1 0 0) ∧ T 11 = (iV (a)) ∧ T 35 = (V.bool ((!((nth (t.nd) (a).toNat)).lf))) ∧ H 3 = (bk 1 24 1 [[(V.sl (List.map cN (t.nd)))]]) ∧ H 4 = (bk 1 37 2 [[(iV (o.i)), (V.sl (List.map cT (o.tr)))]]) ∧ True) ?_ ?_
 ·
  unfold r21_8
  refine R_fld_mp (o' := 0) t3 h3 (by first | rfl | simp [okB, Blk.own]) rfl ?_
  refine R_load_mp (v := (V.sl (List.map cN (t.nd)))) (@rfl V (V.mp 3 1 0 0)) h3 (by first | rfl | simp [ldB, ldV, Blk.own, V.one]) ?_
  refine R_mv t11 ?_
  refine R_idxI (i := (a)) (@rfl V (V.sl (List.map cN (t.nd)))) (@rfl V (iV (a))) (by omega) (by omega) rfl ?_
  refine R_fld_pp (cs' := (cN (((nth (t.nd) (a).toNat))))) rfl rfl ?_
  refine R_load_pp (v := (V.bool (((nth (t.nd) (a).toNat)).lf))) rfl (by first | rfl | simp [ldV]) ?_
  refine R_notb (@rfl V (V.bool (((nth (t.nd) (a).toNat)).lf))) ?_
  exact R_nil ⟨t2, t3, t4, t11, rfl, h3, h4, trivial⟩
 intro T H ⟨t2, t3, t4, t11, t35, h3, h4, _⟩
 refine W_seq_ifb t35 (fun c5 => ?_) (fun c5 => ?_)
 ·
  have d1 : (nth t.nd a.toNat).lf = false := by simpa using c5
  have hin := nd_in hv hlt d1
  have hou := hb.ou _ hlt
  refine W_seq_skip ?_
  refine W_block fun Q6 n6 x6 y6 z6 => ?_
  refine W_seq_regc (fun T H => T 2 = (ints w) ∧ T 3 = (V.mp 3 1 0 0) ∧ T 4 = (V.mp 4 1 0 0) ∧ T 11 = (iV (a)) ∧ T 12 = (ints (cat ([w, ((nth (t.nd) (a).toNat)).sf]))) ∧ H 3 = (bk 1 24 1 [[(V.sl (List.map cN (t.nd)))]]) ∧ H 4 = (bk 1 37 2 [[(iV (o.i)), (V.sl (List.map cT (o.tr)))]]) ∧ True) ?_ ?_
  ·
   unfold r21_9
   refine R_mv t2 ?_
   refine R_fld_mp (o' := 0) t3 h3 (by first | rfl | simp [okB, Blk.own]) rfl ?_
   refine R_load_mp (v := (V.sl (List.map cN (t.nd)))) (@rfl V (V.mp 3 1 0 0)) h3 (by first | rfl | simp [ldB, ldV, Blk.own, V.one]) ?_
   refine R_mv t11 ?_
   refine R_idxI (i := (a)) (@rfl V (V.sl (List.map cN (t.nd)))) (@rfl V (iV (a))) (by omega) (by omega) rfl ?_
   refine R_fld_pp (cs' := (List.drop 2 (cN (((nth (t.nd) (a).toNat)))))) rfl rfl ?_
   refine R_load_pp (v := (ints (((nth (t.nd) (a).toNat)).sf))) rfl (by first | rfl | simp [ldV]) ?_
   refine R_bslice (qs := [(0, (ints w)), (1, (ints (((nth (t.nd) (a).toNat)).sf)))]) (rows := [[(ints w)], [(ints (((nth (t.nd) (a).toNat)).sf))]]) (mcons (congrArg (fun v => (0, v)) (@rfl V (ints w))) (mcons (congrArg (fun v => (1, v)) (@rfl V (ints (((nth (t.nd) (a).toNat)).sf)))) rfl)) rfl ?_
   refine R_callc (evcons (@rfl V (V.sl [[(ints w)], [(ints (((nth (t.nd) (a).toNat)).sf))]])) evnil) (join_pure ([w, ((nth (t.nd) (a).toNat)).sf]) (by simp only [cat, List.append_nil, List.length_append]; omega)) ?_
   refine R_mv (@rfl V (ints (cat ([w, ((nth (t.nd) (a).toNat)).sf])))) ?_
   exact R_nil ⟨t2, t3, t4, t11, rfl, h3, h4, trivial⟩
  intro T H ⟨t2, t3, t4, t11, t12, h3, h4, _⟩
  refine W_seq_seq ?_
  refine W_seq_regc (fun T H => T 2 = (ints w) ∧ T 3 = (V.mp 3 1 0 0) ∧ T 4 = (V.mp 4 1 0 0) ∧ T 11 = (iV (a)) ∧ T 12 = (ints (cat ([w, ((nth (t.nd) (a).toNat)).sf]))) ∧ T 13 = (iV (wchk (cat ([w, ((nth (t.nd) (a).toNat)).sf])) ((o.i)))) ∧ H 3 = (bk 1 24 1 [[(V.sl (List.map cN (t.nd)))]]) ∧ H 4 = (bk 1 37 2 [[(iV (o.i)), (V.sl (List.map cT (o.tr)))]]) ∧ True) ?_ ?_
  ·
   unfold r21_10
   refine R_mv t12 ?_
   refine R_fld_mp (o' := 0) t4 h4 (by first | rfl | simp [okB, Blk.own]) rfl ?_
   refine R_load_mp (v := (iV (o.i))) (@rfl V (V.mp 4 1 0 0)) h4 (by first | rfl | simp [ldB, ldV, Blk.own, V.one]) ?_
   refine R_callc (evcons (@rfl V (ints (cat ([w, ((nth (t.nd) (a).toNat)).sf])))) (evcons (@rfl V (iV (o.i))) evnil)) (rcheck_pure (cat ([w, ((nth (t.nd) (a).toNat)).sf])) ((o.i))) ?_
   refine R_mv (@rfl V (iV (wchk (cat ([w, ((nth (t.nd) (a).toNat)).sf])) ((o.i))))) ?_
   exact R_nil ⟨t2, t3, t4, t11, t12, rfl, h3, h4, trivial⟩
  intro T H ⟨t2, t3, t4, t11, t12, t13, h3, h4, _⟩
  refine W_seq_seq ?_
  refine W_seq_regc (fun T H => T 2 = (ints w) ∧ T 3 = (V.mp 3 1 0 0) ∧ T 4 = (V.mp 4 1 0 0) ∧ T 11 = (iV (a)) ∧ T 12 = (ints (cat ([w, ((nth (t.nd) (a).toNat)).sf]))) ∧ T 13 = (iV (wchk (cat ([w, ((nth (t.nd) (a).toNat)).sf])) ((o.i)))) ∧ T 50 = (V.bool (decide ((wchk (cat ([w, ((nth (t.nd) (a).toNat)).sf])) ((o.i))) ≠ (0 : Int)))) ∧ H 3 = (bk 1 24 1 [[(V.sl (List.map cN (t.nd)))]]) ∧ H 4 = (bk 1 37 2 [[(iV (o.i)), (V.sl (List.map cT (o.tr)))]]) ∧ True) ?_ ?_
  ·
   unfold r21_11
   refine R_mv t13 ?_
   refine R_neq (x := (wchk (cat ([w, ((nth (t.nd) (a).toNat)).sf])) ((o.i)))) (y := (0 : Int)) (@rfl V (iV (wchk (cat ([w, ((nth (t.nd) (a).toNat)).sf])) ((o.i))))) (@rfl V (iV (0 : Int))) ?_
   exact R_nil ⟨t2, t3, t4, t11, t12, t13, rfl, h3, h4, trivial⟩
  intro T H ⟨t2, t3, t4, t11, t12, t13, t50, h3, h4, _⟩
  refine W_seq_if (p := (wchk (cat ([w, ((nth (t.nd) (a).toNat)).sf])) ((o.i))) ≠ (0 : Int)) t50 (fun c7 => ?_) (fun c7 => ?_)
  ·
   have d2 : wchk (cat [w, (nth t.nd a.toNat).sf]) o.i ≠ 0 := c7
   refine W_seq_seq ?_
   refine W_seq_regc (fun T H => T 6 = (iV (0 : Int)) ∧ T 7 = V.nilsl ∧ T 8 = (iV (wchk (cat ([w, ((nth (t.nd) (a).toNat)).sf])) ((o.i)))) ∧ H 3 = (bk 1 24 1 [[(V.sl (List.map cN (t.nd)))]]) ∧ H 4 = (bk 1 37 2 [[(iV (o.i)), (V.sl (List.map cT (o.tr)))]]) ∧ True) ?_ ?_
   ·
    unfold r21_12
    refine R_mv t13 ?_
    refine R_mv (@rfl V (iV (0 : Int))) ?_
    refine R_mv (@rfl V V.nilsl) ?_
    refine R_mv (@rfl V (iV (wchk (cat ([w, ((nth (t.nd) (a).toNat)).sf])) ((o.i))))) ?_
    exact R_nil ⟨rfl, rfl, rfl, h3, h4, trivial⟩
   intro T H ⟨t6, t7, t8, h3, h4, _⟩
   refine W_seq_ret ?_
   refine y6 _ _ ?_
   refine p24 _ _ ?_
   refine y3 _ _ ?_
   refine Ret_3 t6 t7 t8 (fz_int ?_) (fz_nil ?_) (fz_int ?_)
   · have e0 : sftR t o w = sftN t o w f a.toNat := by unfold sftR; rw [if_neg (by omega), if_neg (by omega), hc]
     rw [e0, sft_err hr.pos d1 d2]
   · have e0 : sftR t o w = sftN t o w f a.toNat := by unfold sftR; rw [if_neg (by omega), if_neg (by omega), hc]
     rw [e0, sft_err hr.pos d1 d2]
   · have e0 : sftR t o w = sftN t o w f a.toNat := by unfold sftR; rw [if_neg (by omega), if_neg (by omega), hc]
     rw [e0, sft_err hr.pos d1 d2]
  have d2 : ¬wchk (cat [w, (nth t.nd a.toNat).sf]) o.i ≠ 0 := c7
  refine W_seq_skip ?_
  refine W_seq_regc (fun T H => T 2 = (ints w) ∧ T 3 = (V.mp 3 1 0 0) ∧ T 4 = (V.mp 4 1 0 0) ∧ T 11 = (iV (a)) ∧ T 12 = (ints (cat ([w, ((nth (t.nd) (a).toNat)).sf]))) ∧ T 14 = (ints ((ans o (cat ([w, ((nth (t.nd) (a).toNat)).sf]))).getD [])) ∧ T 15 = (V.bool ((ans o (cat ([w, ((nth (t.nd) (a).toNat)).sf]))).isSome)) ∧ H 3 = (bk 1 24 1 [[(V.sl (List.map cN (t.nd)))]]) ∧ H 4 = (bk 1 37 2 [[(iV (o.i)), (V.sl (List.map cT (o.tr)))]]) ∧ True) ?_ ?_
  ·
   unfold r21_13
   refine R_load_mp (v := (V.agg [(iV (o.i)), (V.sl (List.map cT (o.tr)))])) t4 h4 (by first | rfl | simp [ldB, ldV, Blk.own, V.one]) ?_
   refine R_mv t12 ?_
   refine R_callc (evcons (@rfl V (V.agg [(iV (o.i)), (V.sl (List.map cT (o.tr)))])) (evcons (@rfl V (ints (cat ([w, ((nth (t.nd) (a).toNat)).sf])))) evnil)) (ranswer_pure o (cat ([w, ((nth (t.nd) (a).toNat)).sf])) (by first | omega | assumption)) ?_
   refine R_mv (@rfl V (V.tup [(ints ((ans o (cat ([w, ((nth (t.nd) (a).toNat)).sf]))).getD [])), (V.bool ((ans o (cat ([w, ((nth (t.nd) (a).toNat)).sf]))).isSome))])) ?_
   refine R_ext (v := (ints ((ans o (cat ([w, ((nth (t.nd) (a).toNat)).sf]))).getD []))) (@rfl V (V.tup [(ints ((ans o (cat ([w, ((nth (t.nd) (a).toNat)).sf]))).getD [])), (V.bool ((ans o (cat ([w, ((nth (t.nd) (a).toNat)).sf]))).isSome))])) rfl ?_
   refine R_ext (v := (V.bool ((ans o (cat ([w, ((nth (t.nd) (a).toNat)).sf]))).isSome))) (@rfl V (V.tup [(ints ((ans o (cat ([w, ((nth (t.nd) (a).toNat)).sf]))).getD [])), (V.bool ((ans o (cat ([w, ((nth (t.nd) (a).toNat)).sf]))).isSome))])) rfl ?_
   refine R_mv (@rfl V (ints ((ans o (cat ([w, ((nth (t.nd) (a).toNat)).sf]))).getD []))) ?_
   refine R_mv (@rfl V (V.bool ((ans o (cat ([w, ((nth (t.nd) (a).toNat)).sf]))).isSome))) ?_
   exact R_nil ⟨t2, t3, t4, t11, t12, rfl, rfl, h3, h4, trivial⟩
  intro T H ⟨t2, t3, t4, t11, t12, t14, t15, h3, h4, _⟩
  refine W_seq_seq ?_
  refine W_seq_regc (fun T H => T 2 = (ints w) ∧ T 3 = (V.mp 3 1 0 0) ∧ T 4 = (V.mp 4 1 0 0) ∧ T 11 = (iV (a)) ∧ T 12 = (ints (cat ([w, ((nth (t.nd) (a).toNat)).sf]))) ∧ T 14 = (ints ((ans o (cat ([w, ((nth (t.nd) (a).toNat)).sf]))).getD [])) ∧ T 59 = (V.bool ((!(ans o (cat ([w, ((nth (t.nd) (a).toNat)).sf]))).isSome))) ∧ H 3 = (bk 1 24 1 [[(V.sl (List.map cN (t.nd)))]]) ∧ H 4 = (bk 1 37 2 [[(iV (o.i)), (V.sl (List.map cT (o.tr)))]]) ∧ True) ?_ ?_
  ·
   unfold r21_14
   refine R_mv t15 ?_
   refine R_notb (@rfl V (V.bool ((ans o (cat ([w, ((nth (t.nd) (a).toNat)).sf]))).isSome))) ?_
   exact R_nil ⟨t2, t3, t4, t11, t12, t14, rfl, h3, h4, trivial⟩
  intro T H ⟨t2, t3, t4, t11, t12, t14, t59, h3, h4, _⟩
  refine W_seq_ifb t59 (fun c8 => ?_) (fun c8 => ?_)
  ·
   have d3 : (ans o (cat [w, (nth t.nd a.toNat).sf])).isSome = false := by simpa using c8
   refine W_seq_seq ?_
   refine W_seq_regc (fun T H => T 6 = (iV (0 : Int)) ∧ T 7 = (ints (cat ([w, ((nth (t.nd) (a).toNat)).sf]))) ∧ T 8 = (iV (0 : Int)) ∧ H 3 = (bk 1 24 1 [[(V.sl (List.map cN (t.nd)))]]) ∧ H 4 = (bk 1 37 2 [[(iV (o.i)), (V.sl (List.map cT (o.tr)))]]) ∧ True) ?_ ?_
   ·
    unfold r21_15
    refine R_mv t12 ?_
    refine R_mv (@rfl V (iV (0 : Int))) ?_
    refine R_mv (@rfl V (ints (cat ([w, ((nth (t.nd) (a).toNat)).sf])))) ?_
    refine R_mv (@rfl V (iV (0 : Int))) ?_
    exact R_nil ⟨rfl, rfl, rfl, h3, h4, trivial⟩
   intro T H ⟨t6, t7, t8, h3, h4, _⟩
   refine W_seq_ret ?_
   refine y6 _ _ ?_
   refine p24 _ _ ?_
   refine y3 _ _ ?_
   refine Ret_3 t6 t7 t8 (fz_int ?_) (fz_sl ?_ (fun _ => by simp)) (fz_int ?_)
   · have e0 : sftR t o w = sftN t o w f a.toNat := by unfold sftR; rw [if_neg (by omega), if_neg (by omega), hc]
     rw [e0, sft_ask hr.pos d1 d2 d3]
   · have e0 : sftR t o w = sftN t o w f a.toNat := by unfold sftR; rw [if_neg (by omega), if_neg (by omega), hc]
     rw [e0, sft_ask hr.pos d1 d2 d3]
   · have e0 : sftR t o w = sftN t o w f a.toNat := by unfold sftR; rw [if_neg (by omega), if_neg (by omega), hc]
     rw [e0, sft_ask hr.pos d1 d2 d3]
  have d3 : (ans o (cat [w, (nth t.nd a.toNat).sf])).isSome = true := by simpa using c8
  have d4 := ans_len (oval_ok ho) d3
  have d5 : (cat [w, (nth t.nd a.toNat).sf]).length = w.length + (nth t.nd a.toNat).sf.length := by simp [cat]
  refine W_seq_skip ?_
  refine W_seq_regc (fun T H => T 2 = (ints w) ∧ T 3 = (V.mp 3 1 0 0) ∧ T 4 = (V.mp 4 1 0 0) ∧ T 11 = (iV (a)) ∧ T 16 = (iV (if lxH (((nth (t.nd) (a).toNat))).ou (List.drop (w.length) ((ans o (cat ([w, ((nth (t.nd) (a).toNat)).sf]))).getD [])) then nth (((nth (t.nd) (a).toNat))).kd (lxN (((nth (t.nd) (a).toNat))).ou (List.drop (w.length) ((ans o (cat ([w, ((nth (t.nd) (a).toNat)).sf]))).getD []))) else -1)) ∧ H 3 = (bk 1 24 1 [[(V.sl (List.map cN (t.nd)))]]) ∧ H 4 = (bk 1 37 2 [[(iV (o.i)), (V.sl (List.map cT (o.tr)))]]) ∧ True) ?_ ?_
  ·
   unfold r21_16
   refine R_fld_mp (o' := 0) t3 h3 (by first | rfl | simp [okB, Blk.own]) rfl ?_
   refine R_load_mp (v := (V.sl (List.map cN (t.nd)))) (@rfl V (V.mp 3 1 0 0)) h3 (by first | rfl | simp [ldB, ldV, Blk.own, V.one]) ?_
   refine R_mv t11 ?_
   refine R_idxI (i := (a)) (@rfl V (V.sl (List.map cN (t.nd)))) (@rfl V (iV (a))) (by omega) (by omega) rfl ?_
   refine R_load_pp (v := (V.agg (cN (((nth (t.nd) (a).toNat)))))) rfl (by first | rfl | simp [ldV]) ?_
   refine R_mv t14 ?_
   refine R_mv t2 ?_
   refine R_len (@rfl V (ints w)) ?_
   refine R_slice_lo (n := w.length) (@rfl V (ints ((ans o (cat ([w, ((nth (t.nd) (a).toNat)).sf]))).getD []))) (@rfl V (iV ((w.length : Nat) : Int))) (by omega) (fun _ => rfl) ?_
   refine R_callc (evcons (@rfl V (V.agg (cN (((nth (t.nd) (a).toNat)))))) (evcons (@rfl V (ints (List.drop (w.length) ((ans o (cat ([w, ((nth (t.nd) (a).toNat)).sf]))).getD [])))) evnil)) (rchild_pure (((nth (t.nd) (a).toNat))) (List.drop (w.length) ((ans o (cat ([w, ((nth (t.nd) (a).toNat)).sf]))).getD [])) hin.srt hin.len) ?_
   refine R_mv (@rfl V (iV (if lxH (((nth (t.nd) (a).toNat))).ou (List.drop (w.length) ((ans o (cat ([w, ((nth (t.nd) (a).toNat)).sf]))).getD [])) then nth (((nth (t.nd) (a).toNat))).kd (lxN (((nth (t.nd) (a).toNat))).ou (List.drop (w.length) ((ans o (cat ([w, ((nth (t.nd) (a).toNat)).sf]))).getD []))) else -1))) ?_
   exact R_nil ⟨t2, t3, t4, t11, rfl, h3, h4, trivial⟩
  intro T H ⟨t2, t3, t4, t11, t16, h3, h4, _⟩
  refine W_seq_seq ?_
  refine W_seq_regc (fun T H => T 2 = (ints w) ∧ T 3 = (V.mp 3 1 0 0) ∧ T 4 = (V.mp 4 1 0 0) ∧ T 11 = (iV (a)) ∧ T 16 = (iV (if lxH (((nth (t.nd) (a).toNat))).ou (List.drop (w.length) ((ans o (cat ([w, ((nth (t.nd) (a).toNat)).sf]))).getD [])) then nth (((nth (t.nd) (a).toNat))).kd (lxN (((nth (t.nd) (a).toNat))).ou (List.drop (w.length) ((ans o (cat ([w, ((nth (t.nd) (a).toNat)).sf]))).getD []))) else -1)) ∧ T 72 = (V.bool (decide ((if lxH (((nth (t.nd) (a).toNat))).ou (List.drop (w.length) ((ans o (cat ([w, ((nth (t.nd) (a).toNat)).sf]))).getD [])) then nth (((nth (t.nd) (a).toNat))).kd (lxN (((nth (t.nd) (a).toNat))).ou (List.drop (w.length) ((ans o (cat ([w, ((nth (t.nd) (a).toNat)).sf]))).getD []))) else -1) < (0 : Int)))) ∧ H 3 = (bk 1 24 1 [[(V.sl (List.map cN (t.nd)))]]) ∧ H 4 = (bk 1 37 2 [[(iV (o.i)), (V.sl (List.map cT (o.tr)))]]) ∧ True) ?_ ?_
  ·
   unfold r21_17
   refine R_mv t16 ?_
   refine R_lss (x := (if lxH (((nth (t.nd) (a).toNat))).ou (List.drop (w.length) ((ans o (cat ([w, ((nth (t.nd) (a).toNat)).sf]))).getD [])) then nth (((nth (t.nd) (a).toNat))).kd (lxN (((nth (t.nd) (a).toNat))).ou (List.drop (w.length) ((ans o (cat ([w, ((nth (t.nd) (a).toNat)).sf]))).getD []))) else -1)) (y := (0 : Int)) (@rfl V (iV (if lxH (((nth (t.nd) (a).toNat))).ou (List.drop (w.length) ((ans o (cat ([w, ((nth (t.nd) (a).toNat)).sf]))).getD [])) then nth (((nth (t.nd) (a).toNat))).kd (lxN (((nth (t.nd) (a).toNat))).ou (List.drop (w.length) ((ans o (cat ([w, ((nth (t.nd) (a).toNat)).sf]))).getD []))) else -1))) (@rfl V (iV (0 : Int))) ?_
   exact R_nil ⟨t2, t3, t4, t11, t16, rfl, h3, h4, trivial⟩
  intro T H ⟨t2, t3, t4, t11, t16, t72, h3, h4, _⟩
  refine W_seq_if (p := (if lxH (((nth (t.nd) (a).toNat))).ou (List.drop (w.length) ((ans o (cat ([w, ((nth (t.nd) (a).toNat)).sf]))).getD [])) then nth (((nth (t.nd) (a).toNat))).kd (lxN (((nth (t.nd) (a).toNat))).ou (List.drop (w.length) ((ans o (cat ([w, ((nth (t.nd) (a).toNat)).sf]))).getD []))) else -1) < (0 : Int)) t72 (fun c9 => ?_) (fun c9 => ?_)
  ·
   have d6 : ¬lxH (nth t.nd a.toNat).ou (((ans o (cat [w, (nth t.nd a.toNat).sf])).getD []).drop w.length) := fun e => by (have d7 : (nth (nth t.nd a.toNat).kd (lxN (nth t.nd a.toNat).ou (((ans o (cat [w, (nth t.nd a.toNat).sf])).getD []).drop w.length))) ∈ (nth t.nd a.toNat).kd := nth_mem (by have := e.1; have := hin.len; omega)); (have d8 := hin.kr _ d7); rw [if_pos e] at c9; omega
   refine W_seq_seq ?_
   refine W_seq_regc (fun T H => T 6 = (iV (a)) ∧ T 7 = V.nilsl ∧ T 8 = (iV (0 : Int)) ∧ H 3 = (bk 1 24 1 [[(V.sl (List.map cN (t.nd)))]]) ∧ H 4 = (bk 1 37 2 [[(iV (o.i)), (V.sl (List.map cT (o.tr)))]]) ∧ True) ?_ ?_
   ·
    unfold r21_18
    refine R_mv t11 ?_
    refine R_mv (@rfl V (iV (a))) ?_
    refine R_mv (@rfl V V.nilsl) ?_
    refine R_mv (@rfl V (iV (0 : Int))) ?_
    exact R_nil ⟨rfl, rfl, rfl, h3, h4, trivial⟩
   intro T H ⟨t6, t7, t8, h3, h4, _⟩
   refine W_seq_ret ?_
   refine y6 _ _ ?_
   refine p24 _ _ ?_
   refine y3 _ _ ?_
   refine Ret_3 t6 t7 t8 (fz_int ?_) (fz_nil ?_) (fz_int ?_)
   · have e0 : sftR t o w = sftN t o w f a.toNat := by unfold sftR; rw [if_neg (by omega), if_neg (by omega), hc]
     rw [e0, sft_no hr.pos d1 d2 d3 d6]; exact (Int.toNat_of_nonneg ha).symm
   · have e0 : sftR t o w = sftN t o w f a.toNat := by unfold sftR; rw [if_neg (by omega), if_neg (by omega), hc]
     rw [e0, sft_no hr.pos d1 d2 d3 d6]
   · have e0 : sftR t o w = sftN t o w f a.toNat := by unfold sftR; rw [if_neg (by omega), if_neg (by omega), hc]
     rw [e0, sft_no hr.pos d1 d2 d3 d6]
  have d6 : lxH (nth t.nd a.toNat).ou (((ans o (cat [w, (nth t.nd a.toNat).sf])).getD []).drop w.length) := Decidable.not_not.1 fun e => by rw [if_neg e] at c9; omega
  have d7 : (nth (nth t.nd a.toNat).kd (lxN (nth t.nd a.toNat).ou (((ans o (cat [w, (nth t.nd a.toNat).sf])).getD []).drop w.length))) ∈ (nth t.nd a.toNat).kd := nth_mem (by have := d6.1; have := hin.len; omega)
  have d8 := hin.kr _ d7
  refine W_seq_skip ?_
  refine W_regc (fun T H => T 2 = (ints w) ∧ T 3 = (V.mp 3 1 0 0) ∧ T 4 = (V.mp 4 1 0 0) ∧ T 11 = (iV (if lxH (((nth (t.nd) (a).toNat))).ou (List.drop (w.length) ((ans o (cat ([w, ((nth (t.nd) (a).toNat)).sf]))).getD [])) then nth (((nth (t.nd) (a).toNat))).kd (lxN (((nth (t.nd) (a).toNat))).ou (List.drop (w.length) ((ans o (cat ([w, ((nth (t.nd) (a).toNat)).sf]))).getD []))) else -1)) ∧ H 3 = (bk 1 24 1 [[(V.sl (List.map cN (t.nd)))]]) ∧ H 4 = (bk 1 37 2 [[(iV (o.i)), (V.sl (List.map cT (o.tr)))]]) ∧ True) ?_ ?_
  ·
   unfold r21_19
   refine R_mv t16 ?_
   refine R_mv (@rfl V (iV (if lxH (((nth (t.nd) (a).toNat))).ou (List.drop (w.length) ((ans o (cat ([w, ((nth (t.nd) (a).toNat)).sf]))).getD [])) then nth (((nth (t.nd) (a).toNat))).kd (lxN (((nth (t.nd) (a).toNat))).ou (List.drop (w.length) ((ans o (cat ([w, ((nth (t.nd) (a).toNat)).sf]))).getD []))) else -1))) ?_
   exact R_nil ⟨t2, t3, t4, rfl, h3, h4, trivial⟩
  intro T H ⟨t2, t3, t4, t11, h3, h4, _⟩
  refine n6 _ _ ?_
  refine p14 _ _ _ ?_ ⟨(nth (nth t.nd a.toNat).kd (lxN (nth t.nd a.toNat).ou (((ans o (cat [w, (nth t.nd a.toNat).sf])).getD []).drop w.length))), (f - 1), rfl, t2, t3, t4, (Eq.trans t11 (by first | rfl | (rw [if_pos d6]; done))), h3, h4, ?_, ?_, ?_⟩
  · have := hr.pos; omega
  · exact d8.1
  · exact hr.step d7 d8.1
  · rw [hc, sft_go hr.pos d1 d2 d3 d6]
 have d1 : (nth t.nd a.toNat).lf = true := by simpa using c5
 refine W_seq_exit ?_
 refine p34 _ _ _ ?_
 refine x3 _ _ ?_
 refine .done ?_
 refine W_seq_regc (fun T H => T 6 = (iV (a)) ∧ T 7 = V.nilsl ∧ T 8 = (iV (0 : Int)) ∧ H 3 = (bk 1 24 1 [[(V.sl (List.map cN (t.nd)))]]) ∧ H 4 = (bk 1 37 2 [[(iV (o.i)), (V.sl (List.map cT (o.tr)))]]) ∧ True) ?_ ?_
 ·
  unfold r21_20
  refine R_mv t11 ?_
  refine R_mv (@rfl V (iV (a))) ?_
  refine R_mv (@rfl V V.nilsl) ?_
  refine R_mv (@rfl V (iV (0 : Int))) ?_
  exact R_nil ⟨rfl, rfl, rfl, h3, h4, trivial⟩
 intro T H ⟨t6, t7, t8, h3, h4, _⟩
 refine W_ret ?_
 refine Ret_3 t6 t7 t8 (fz_int ?_) (fz_nil ?_) (fz_int ?_)
 · have e0 : sftR t o w = sftN t o w f a.toNat := by unfold sftR; rw [if_neg (by omega), if_neg (by omega), hc]
   rw [e0, sft_leaf hr.pos d1]; exact (Int.toNat_of_nonneg ha).symm
 · have e0 : sftR t o w = sftN t o w f a.toNat := by unfold sftR; rw [if_neg (by omega), if_neg (by omega), hc]
   rw [e0, sft_leaf hr.pos d1]
 · have e0 : sftR t o w = sftN t o w f a.toNat := by unfold sftR; rw [if_neg (by omega), if_neg (by omega), hc]
   rw [e0, sft_leaf hr.pos d1]
end Go.Proofs.YtmnjchcoigbngaaGreat


namespace Go.Proofs.YtmnjchcoigbngaaGreat
open Go Go.Proofs
theorem law4_pure (t : Dt) (o : Ob) (w : List Int) : PureC Tryz.prog 4 [(V.agg [(V.sl (List.map cN (t.nd)))]), (V.agg [(iV (o.i)), (V.sl (List.map cT (o.tr)))]), (ints w)] (V.bool true) := by
 refine pure_of_Wb true 6 Tryz.func4 s4_ok (by kernel_rfl) (by simp [s4]) (by simp) (by simp) fun hB => ?_
 simp only [bnd_map, bnd_int, bnd_bool, bnd_str, bnd_agg, bnd_pp, bnd_nil, bnd_cons, implies_true, and_true, true_and] at hB
 unfold s4
 dsimp only
 refine W_seq_regc (fun T H => T 2 = (ints w) ∧ T 3 = (V.mp 3 1 0 0) ∧ T 4 = (V.mp 4 1 0 0) ∧ H 3 = (bk 1 24 1 [[(V.sl (List.map cN (t.nd)))]]) ∧ H 4 = (bk 1 37 2 [[(iV (o.i)), (V.sl (List.map cT (o.tr)))]]) ∧ True) ?_ ?_
 ·
  unfold r4_0
  refine R_box (i := 3) (n := 0) (m := 1) (cs := [(V.sl (List.map cN (t.nd)))]) rfl (congrArg Blk.ver rfl) (@rfl V (V.agg [(V.sl (List.map cN (t.nd)))])) rfl rfl ?_
  refine R_box (i := 4) (n := 0) (m := 2) (cs := [(iV (o.i)), (V.sl (List.map cT (o.tr)))]) rfl (congrArg Blk.ver rfl) (@rfl V (V.agg [(iV (o.i)), (V.sl (List.map cT (o.tr)))])) rfl rfl ?_
  refine R_mv (@rfl V (V.bool false)) ?_
  exact R_nil ⟨rfl, rfl, rfl, rfl, rfl, trivial⟩
 intro T H ⟨t2, t3, t4, h3, h4, _⟩
 refine W_seq_seq ?_
 refine W_seq_regc (fun T H => T 2 = (ints w) ∧ T 3 = (V.mp 3 1 0 0) ∧ T 4 = (V.mp 4 1 0 0) ∧ T 30 = (V.bool (((((((bgT t) || decide ((300 : Int) < ((o.tr.length : Nat) : Int)))) || decide ((1100 : Int) < ((w.length : Nat) : Int)))) || decide ((oval o) ≠ (0 : Int))))) ∧ H 3 = (bk 1 24 1 [[(V.sl (List.map cN (t.nd)))]]) ∧ H 4 = (bk 1 37 2 [[(iV (o.i)), (V.sl (List.map cT (o.tr)))]]) ∧ True) ?_ ?_
 ·
  unfold r4_1
  refine R_load_mp (v := (V.agg [(V.sl (List.map cN (t.nd)))])) t3 h3 (by first | rfl | simp [ldB, ldV, Blk.own, V.one]) ?_
  refine R_callc (evcons (@rfl V (V.agg [(V.sl (List.map cN (t.nd)))])) evnil) (great_pure t) ?_
  refine R_mv (@rfl V (V.bool (bgT t))) ?_
  refine Ops_seg 5 (fun T H => T 2 = (ints w) ∧ T 3 = (V.mp 3 1 0 0) ∧ T 4 = (V.mp 4 1 0 0) ∧ T 20 = (V.bool (((bgT t) || decide ((300 : Int) < ((o.tr.length : Nat) : Int))))) ∧ H 3 = (bk 1 24 1 [[(V.sl (List.map cN (t.nd)))]]) ∧ H 4 = (bk 1 37 2 [[(iV (o.i)), (V.sl (List.map cT (o.tr)))]]) ∧ True) ?_ ?_
  ·
   by_cases g1 : (bgT t) = true
   ·
    refine G_no (Eq.trans (@rfl V (V.bool (bgT t))) (bbT g1)) (by decide) ?_
    refine G_no (Eq.trans (@rfl V (V.bool (bgT t))) (bbT g1)) (by decide) ?_
    refine G_no (Eq.trans (@rfl V (V.bool (bgT t))) (bbT g1)) (by decide) ?_
    refine G_no (Eq.trans (@rfl V (V.bool (bgT t))) (bbT g1)) (by decide) ?_
    refine R_pickT (Eq.trans (@rfl V (V.bool (bgT t))) (bbT g1)) (@rfl V (V.bool true)) ?_
    exact ⟨t2, t3, t4, (Eq.trans (@rfl V (V.bool true)) (borT g1)), h3, h4, trivial⟩
   ·
    refine G_yes (Eq.trans (@rfl V (V.bool (bgT t))) (bbF g1)) ?_
    refine R_fld_mp (o' := 1) t4 h4 (by first | rfl | simp [okB, Blk.own]) rfl ?_
    refine G_yes (Eq.trans (@rfl V (V.bool (bgT t))) (bbF g1)) ?_
    refine R_load_mp (v := (V.sl (List.map cT (o.tr)))) (@rfl V (V.mp 4 1 0 1)) h4 (by first | rfl | simp [ldB, ldV, Blk.own, V.one]) ?_
    refine G_yes (Eq.trans (@rfl V (V.bool (bgT t))) (bbF g1)) ?_
    refine R_len (@rfl V (V.sl (List.map cT (o.tr)))) ?_
    refine G_yes (Eq.trans (@rfl V (V.bool (bgT t))) (bbF g1)) ?_
    refine R_gtr (x := ((o.tr.length : Nat) : Int)) (y := (300 : Int)) (@rfl V (iV ((o.tr.length : Nat) : Int))) (@rfl V (iV (300 : Int))) ?_
    refine R_pickF (Eq.trans (@rfl V (V.bool (bgT t))) (bbF g1)) (@rfl V (V.bool (decide ((300 : Int) < ((o.tr.length : Nat) : Int))))) ?_
    exact ⟨t2, t3, t4, (Eq.trans (@rfl V (V.bool (decide ((300 : Int) < ((o.tr.length : Nat) : Int))))) (borF g1)), h3, h4, trivial⟩
  intro T H ⟨t2, t3, t4, t20, h3, h4, _⟩
  refine R_mv t20 ?_
  refine Ops_seg 4 (fun T H => T 2 = (ints w) ∧ T 3 = (V.mp 3 1 0 0) ∧ T 4 = (V.mp 4 1 0 0) ∧ T 25 = (V.bool (((((bgT t) || decide ((300 : Int) < ((o.tr.length : Nat) : Int)))) || decide ((1100 : Int) < ((w.length : Nat) : Int))))) ∧ H 3 = (bk 1 24 1 [[(V.sl (List.map cN (t.nd)))]]) ∧ H 4 = (bk 1 37 2 [[(iV (o.i)), (V.sl (List.map cT (o.tr)))]]) ∧ True) ?_ ?_
  ·
   by_cases g2 : (((bgT t) || decide ((300 : Int) < ((o.tr.length : Nat) : Int)))) = true
   ·
    refine G_no (Eq.trans (@rfl V (V.bool (((bgT t) || decide ((300 : Int) < ((o.tr.length : Nat) : Int)))))) (bbT g2)) (by decide) ?_
    refine G_no (Eq.trans (@rfl V (V.bool (((bgT t) || decide ((300 : Int) < ((o.tr.length : Nat) : Int)))))) (bbT g2)) (by decide) ?_
    refine G_no (Eq.trans (@rfl V (V.bool (((bgT t) || decide ((300 : Int) < ((o.tr.length : Nat) : Int)))))) (bbT g2)) (by decide) ?_
    refine R_pickT (Eq.trans (@rfl V (V.bool (((bgT t) || decide ((300 : Int) < ((o.tr.length : Nat) : Int)))))) (bbT g2)) (@rfl V (V.bool true)) ?_
    exact ⟨t2, t3, t4, (Eq.trans (@rfl V (V.bool true)) (borT g2)), h3, h4, trivial⟩
   ·
    refine G_yes (Eq.trans (@rfl V (V.bool (((bgT t) || decide ((300 : Int) < ((o.tr.length : Nat) : Int)))))) (bbF g2)) ?_
    refine R_mv t2 ?_
    refine G_yes (Eq.trans (@rfl V (V.bool (((bgT t) || decide ((300 : Int) < ((o.tr.length : Nat) : Int)))))) (bbF g2)) ?_
    refine R_len (@rfl V (ints w)) ?_
    refine G_yes (Eq.trans (@rfl V (V.bool (((bgT t) || decide ((300 : Int) < ((o.tr.length : Nat) : Int)))))) (bbF g2)) ?_
    refine R_gtr (x := ((w.length : Nat) : Int)) (y := (1100 : Int)) (@rfl V (iV ((w.length : Nat) : Int))) (@rfl V (iV (1100 : Int))) ?_
    refine R_pickF (Eq.trans (@rfl V (V.bool (((bgT t) || decide ((300 : Int) < ((o.tr.length : Nat) : Int)))))) (bbF g2)) (@rfl V (V.bool (decide ((1100 : Int) < ((w.length : Nat) : Int))))) ?_
    exact ⟨t2, t3, t4, (Eq.trans (@rfl V (V.bool (decide ((1100 : Int) < ((w.length : Nat) : Int))))) (borF g2)), h3, h4, trivial⟩
  intro T H ⟨t2, t3, t4, t25, h3, h4, _⟩
  refine R_mv t25 ?_
  refine Ops_seg 4 (fun T H => T 2 = (ints w) ∧ T 3 = (V.mp 3 1 0 0) ∧ T 4 = (V.mp 4 1 0 0) ∧ T 30 = (V.bool (((((((bgT t) || decide ((300 : Int) < ((o.tr.length : Nat) : Int)))) || decide ((1100 : Int) < ((w.length : Nat) : Int)))) || decide ((oval o) ≠ (0 : Int))))) ∧ H 3 = (bk 1 24 1 [[(V.sl (List.map cN (t.nd)))]]) ∧ H 4 = (bk 1 37 2 [[(iV (o.i)), (V.sl (List.map cT (o.tr)))]]) ∧ True) ?_ ?_
  ·
   by_cases g3 : (((((bgT t) || decide ((300 : Int) < ((o.tr.length : Nat) : Int)))) || decide ((1100 : Int) < ((w.length : Nat) : Int)))) = true
   ·
    refine G_no (Eq.trans (@rfl V (V.bool (((((bgT t) || decide ((300 : Int) < ((o.tr.length : Nat) : Int)))) || decide ((1100 : Int) < ((w.length : Nat) : Int)))))) (bbT g3)) (by decide) ?_
    refine G_no (Eq.trans (@rfl V (V.bool (((((bgT t) || decide ((300 : Int) < ((o.tr.length : Nat) : Int)))) || decide ((1100 : Int) < ((w.length : Nat) : Int)))))) (bbT g3)) (by decide) ?_
    refine G_no (Eq.trans (@rfl V (V.bool (((((bgT t) || decide ((300 : Int) < ((o.tr.length : Nat) : Int)))) || decide ((1100 : Int) < ((w.length : Nat) : Int)))))) (bbT g3)) (by decide) ?_
    refine R_pickT (Eq.trans (@rfl V (V.bool (((((bgT t) || decide ((300 : Int) < ((o.tr.length : Nat) : Int)))) || decide ((1100 : Int) < ((w.length : Nat) : Int)))))) (bbT g3)) (@rfl V (V.bool true)) ?_
    exact ⟨t2, t3, t4, (Eq.trans (@rfl V (V.bool true)) (borT g3)), h3, h4, trivial⟩
   ·
    refine G_yes (Eq.trans (@rfl V (V.bool (((((bgT t) || decide ((300 : Int) < ((o.tr.length : Nat) : Int)))) || decide ((1100 : Int) < ((w.length : Nat) : Int)))))) (bbF g3)) ?_
    refine R_load_mp (v := (V.agg [(iV (o.i)), (V.sl (List.map cT (o.tr)))])) t4 h4 (by first | rfl | simp [ldB, ldV, Blk.own, V.one]) ?_
    refine G_yes (Eq.trans (@rfl V (V.bool (((((bgT t) || decide ((300 : Int) < ((o.tr.length : Nat) : Int)))) || decide ((1100 : Int) < ((w.length : Nat) : Int)))))) (bbF g3)) ?_
    refine R_callc (evcons (@rfl V (V.agg [(iV (o.i)), (V.sl (List.map cT (o.tr)))])) evnil) (roval_pure o) ?_
    refine G_yes (Eq.trans (@rfl V (V.bool (((((bgT t) || decide ((300 : Int) < ((o.tr.length : Nat) : Int)))) || decide ((1100 : Int) < ((w.length : Nat) : Int)))))) (bbF g3)) ?_
    refine R_neq (x := (oval o)) (y := (0 : Int)) (@rfl V (iV (oval o))) (@rfl V (iV (0 : Int))) ?_
    refine R_pickF (Eq.trans (@rfl V (V.bool (((((bgT t) || decide ((300 : Int) < ((o.tr.length : Nat) : Int)))) || decide ((1100 : Int) < ((w.length : Nat) : Int)))))) (bbF g3)) (@rfl V (V.bool (decide ((oval o) ≠ (0 : Int))))) ?_
    exact ⟨t2, t3, t4, (Eq.trans (@rfl V (V.bool (decide ((oval o) ≠ (0 : Int))))) (borF g3)), h3, h4, trivial⟩
  intro T H ⟨t2, t3, t4, t30, h3, h4, _⟩
  exact R_nil ⟨t2, t3, t4, t30, h3, h4, trivial⟩
 intro T H ⟨t2, t3, t4, t30, h3, h4, _⟩
 refine W_seq_ifb t30 (fun c4 => ?_) (fun c4 => ?_)
 ·
  refine W_seq_seq ?_
  refine W_seq_regc (fun T H => T 6 = (V.bool true) ∧ H 3 = (bk 1 24 1 [[(V.sl (List.map cN (t.nd)))]]) ∧ H 4 = (bk 1 37 2 [[(iV (o.i)), (V.sl (List.map cT (o.tr)))]]) ∧ True) ?_ ?_
  ·
   unfold r4_2
   refine R_callc evnil (aw_learnerlaw26_awake_pure) ?_
   refine R_mv (@rfl V (V.bool true)) ?_
   exact R_nil ⟨rfl, h3, h4, trivial⟩
  intro T H ⟨t6, h3, h4, _⟩
  refine W_seq_ret ?_
  refine Ret_1 t6 (fz_canon (by simp) rfl)
 have q1 := c4
 simp only [Bool.or_eq_false_iff, decide_eq_false_iff_not, ne_eq, Decidable.not_not] at q1
 obtain ⟨⟨⟨q2, q3⟩, q4⟩, q5⟩ := q1
 have hb := bg_bd (t := t) q2
 have ho : oval o = 0 := q5
 refine W_seq_skip ?_
 refine W_seq_regc (fun T H => T 2 = (ints w) ∧ T 3 = (V.mp 3 1 0 0) ∧ T 4 = (V.mp 4 1 0 0) ∧ T 7 = (iV ((sftR t o w).1)) ∧ T 8 = (ints ((sftR t o w).2.1)) ∧ T 9 = (iV ((sftR t o w).2.2)) ∧ H 3 = (bk 1 24 1 [[(V.sl (List.map cN (t.nd)))]]) ∧ H 4 = (bk 1 37 2 [[(iV (o.i)), (V.sl (List.map cT (o.tr)))]]) ∧ True) ?_ ?_
 ·
  unfold r4_3
  refine R_load_mp (v := (V.agg [(V.sl (List.map cN (t.nd)))])) t3 h3 (by first | rfl | simp [ldB, ldV, Blk.own, V.one]) ?_
  refine R_load_mp (v := (V.agg [(iV (o.i)), (V.sl (List.map cT (o.tr)))])) t4 h4 (by first | rfl | simp [ldB, ldV, Blk.own, V.one]) ?_
  refine R_mv t2 ?_
  refine R_callc (evcons (@rfl V (V.agg [(V.sl (List.map cN (t.nd)))])) (evcons (@rfl V (V.agg [(iV (o.i)), (V.sl (List.map cT (o.tr)))])) (evcons (@rfl V (ints w)) evnil))) (sift_pure t o w hb ho (by first | omega | assumption)) ?_
  refine R_mv (@rfl V (V.tup [(iV ((sftR t o w).1)), (ints ((sftR t o w).2.1)), (iV ((sftR t o w).2.2))])) ?_
  refine R_ext (v := (iV ((sftR t o w).1))) (@rfl V (V.tup [(iV ((sftR t o w).1)), (ints ((sftR t o w).2.1)), (iV ((sftR t o w).2.2))])) rfl ?_
  refine R_ext (v := (ints ((sftR t o w).2.1))) (@rfl V (V.tup [(iV ((sftR t o w).1)), (ints ((sftR t o w).2.1)), (iV ((sftR t o w).2.2))])) rfl ?_
  refine R_ext (v := (iV ((sftR t o w).2.2))) (@rfl V (V.tup [(iV ((sftR t o w).1)), (ints ((sftR t o w).2.1)), (iV ((sftR t o w).2.2))])) rfl ?_
  refine R_mv (@rfl V (iV ((sftR t o w).1))) ?_
  refine R_mv (@rfl V (ints ((sftR t o w).2.1))) ?_
  refine R_mv (@rfl V (iV ((sftR t o w).2.2))) ?_
  exact R_nil ⟨t2, t3, t4, rfl, rfl, rfl, h3, h4, trivial⟩
 intro T H ⟨t2, t3, t4, t7, t8, t9, h3, h4, _⟩
 refine W_seq_regc (fun T H => T 7 = (iV ((sftR t o w).1)) ∧ T 8 = (ints ((sftR t o w).2.1)) ∧ T 9 = (iV ((sftR t o w).2.2)) ∧ T 10 = (iV ((sftR t o w).1)) ∧ T 11 = (ints ((sftR t o w).2.1)) ∧ T 12 = (iV ((sftR t o w).2.2)) ∧ H 3 = (bk 1 24 1 [[(V.sl (List.map cN (t.nd)))]]) ∧ H 4 = (bk 1 37 2 [[(iV (o.i)), (V.sl (List.map cT (o.tr)))]]) ∧ True) ?_ ?_
 ·
  unfold r4_4
  refine R_load_mp (v := (V.agg [(V.sl (List.map cN (t.nd)))])) t3 h3 (by first | rfl | simp [ldB, ldV, Blk.own, V.one]) ?_
  refine R_load_mp (v := (V.agg [(iV (o.i)), (V.sl (List.map cT (o.tr)))])) t4 h4 (by first | rfl | simp [ldB, ldV, Blk.own, V.one]) ?_
  refine R_mv t2 ?_
  refine R_callc (evcons (@rfl V (V.agg [(V.sl (List.map cN (t.nd)))])) (evcons (@rfl V (V.agg [(iV (o.i)), (V.sl (List.map cT (o.tr)))])) (evcons (@rfl V (ints w)) evnil))) (rsift_pure t o w hb ho (by first | omega | assumption)) ?_
  refine R_mv (@rfl V (V.tup [(iV ((sftR t o w).1)), (ints ((sftR t o w).2.1)), (iV ((sftR t o w).2.2))])) ?_
  refine R_ext (v := (iV ((sftR t o w).1))) (@rfl V (V.tup [(iV ((sftR t o w).1)), (ints ((sftR t o w).2.1)), (iV ((sftR t o w).2.2))])) rfl ?_
  refine R_ext (v := (ints ((sftR t o w).2.1))) (@rfl V (V.tup [(iV ((sftR t o w).1)), (ints ((sftR t o w).2.1)), (iV ((sftR t o w).2.2))])) rfl ?_
  refine R_ext (v := (iV ((sftR t o w).2.2))) (@rfl V (V.tup [(iV ((sftR t o w).1)), (ints ((sftR t o w).2.1)), (iV ((sftR t o w).2.2))])) rfl ?_
  refine R_mv (@rfl V (iV ((sftR t o w).1))) ?_
  refine R_mv (@rfl V (ints ((sftR t o w).2.1))) ?_
  refine R_mv (@rfl V (iV ((sftR t o w).2.2))) ?_
  exact R_nil ⟨t7, t8, t9, rfl, rfl, rfl, h3, h4, trivial⟩
 intro T H ⟨t7, t8, t9, t10, t11, t12, h3, h4, _⟩
 refine W_seq_regc (fun T H => T 6 = (V.bool (decide (((((sftR t o w).1) = ((sftR t o w).1)) ∧ (((sftR t o w).2.1) = ((sftR t o w).2.1))) ∧ (((sftR t o w).2.2) = ((sftR t o w).2.2))))) ∧ H 3 = (bk 1 24 1 [[(V.sl (List.map cN (t.nd)))]]) ∧ H 4 = (bk 1 37 2 [[(iV (o.i)), (V.sl (List.map cT (o.tr)))]]) ∧ True) ?_ ?_
 ·
  unfold r4_5
  refine R_mv t7 ?_
  refine R_mv t10 ?_
  refine R_eql (x := ((sftR t o w).1)) (y := ((sftR t o w).1)) (@rfl V (iV ((sftR t o w).1))) (@rfl V (iV ((sftR t o w).1))) ?_
  refine R_mv (@rfl V (V.bool (decide (((sftR t o w).1) = ((sftR t o w).1))))) ?_
  refine Ops_seg 4 (fun T H => T 9 = (iV ((sftR t o w).2.2)) ∧ T 12 = (iV ((sftR t o w).2.2)) ∧ T 55 = (V.bool (decide ((((sftR t o w).1) = ((sftR t o w).1)) ∧ (((sftR t o w).2.1) = ((sftR t o w).2.1))))) ∧ H 3 = (bk 1 24 1 [[(V.sl (List.map cN (t.nd)))]]) ∧ H 4 = (bk 1 37 2 [[(iV (o.i)), (V.sl (List.map cT (o.tr)))]]) ∧ True) ?_ ?_
  ·
   by_cases g5 : ((sftR t o w).1) = ((sftR t o w).1)
   ·
    refine G_yes (Eq.trans (@rfl V (V.bool (decide (((sftR t o w).1) = ((sftR t o w).1))))) (bdT g5)) ?_
    refine R_mv t8 ?_
    refine G_yes (Eq.trans (@rfl V (V.bool (decide (((sftR t o w).1) = ((sftR t o w).1))))) (bdT g5)) ?_
    refine R_mv t11 ?_
    refine G_yes (Eq.trans (@rfl V (V.bool (decide (((sftR t o w).1) = ((sftR t o w).1))))) (bdT g5)) ?_
    refine R_callc (evcons (@rfl V (ints ((sftR t o w).2.1))) (evcons (@rfl V (ints ((sftR t o w).2.1))) evnil)) (rsame1_pure ((sftR t o w).2.1) ((sftR t o w).2.1)) ?_
    refine R_pickT (Eq.trans (@rfl V (V.bool (decide (((sftR t o w).1) = ((sftR t o w).1))))) (bdT g5)) (@rfl V (V.bool (decide (((sftR t o w).2.1) = ((sftR t o w).2.1))))) ?_
    exact ⟨t9, t12, (Eq.trans (@rfl V (V.bool (decide (((sftR t o w).2.1) = ((sftR t o w).2.1))))) (dec_andT g5)), h3, h4, trivial⟩
   ·
    refine G_no (Eq.trans (@rfl V (V.bool (decide (((sftR t o w).1) = ((sftR t o w).1))))) (bdF g5)) (by decide) ?_
    refine G_no (Eq.trans (@rfl V (V.bool (decide (((sftR t o w).1) = ((sftR t o w).1))))) (bdF g5)) (by decide) ?_
    refine G_no (Eq.trans (@rfl V (V.bool (decide (((sftR t o w).1) = ((sftR t o w).1))))) (bdF g5)) (by decide) ?_
    refine R_pickF (Eq.trans (@rfl V (V.bool (decide (((sftR t o w).1) = ((sftR t o w).1))))) (bdF g5)) (@rfl V (V.bool false)) ?_
    exact ⟨t9, t12, (Eq.trans (@rfl V (V.bool false)) (dec_andF g5)), h3, h4, trivial⟩
  intro T H ⟨t9, t12, t55, h3, h4, _⟩
  refine R_mv t55 ?_
  refine Ops_seg 4 (fun T H => T 60 = (V.bool (decide (((((sftR t o w).1) = ((sftR t o w).1)) ∧ (((sftR t o w).2.1) = ((sftR t o w).2.1))) ∧ (((sftR t o w).2.2) = ((sftR t o w).2.2))))) ∧ H 3 = (bk 1 24 1 [[(V.sl (List.map cN (t.nd)))]]) ∧ H 4 = (bk 1 37 2 [[(iV (o.i)), (V.sl (List.map cT (o.tr)))]]) ∧ True) ?_ ?_
  ·
   by_cases g6 : (((sftR t o w).1) = ((sftR t o w).1)) ∧ (((sftR t o w).2.1) = ((sftR t o w).2.1))
   ·
    refine G_yes (Eq.trans (@rfl V (V.bool (decide ((((sftR t o w).1) = ((sftR t o w).1)) ∧ (((sftR t o w).2.1) = ((sftR t o w).2.1)))))) (bdT g6)) ?_
    refine R_mv t9 ?_
    refine G_yes (Eq.trans (@rfl V (V.bool (decide ((((sftR t o w).1) = ((sftR t o w).1)) ∧ (((sftR t o w).2.1) = ((sftR t o w).2.1)))))) (bdT g6)) ?_
    refine R_mv t12 ?_
    refine G_yes (Eq.trans (@rfl V (V.bool (decide ((((sftR t o w).1) = ((sftR t o w).1)) ∧ (((sftR t o w).2.1) = ((sftR t o w).2.1)))))) (bdT g6)) ?_
    refine R_eql (x := ((sftR t o w).2.2)) (y := ((sftR t o w).2.2)) (@rfl V (iV ((sftR t o w).2.2))) (@rfl V (iV ((sftR t o w).2.2))) ?_
    refine R_pickT (Eq.trans (@rfl V (V.bool (decide ((((sftR t o w).1) = ((sftR t o w).1)) ∧ (((sftR t o w).2.1) = ((sftR t o w).2.1)))))) (bdT g6)) (@rfl V (V.bool (decide (((sftR t o w).2.2) = ((sftR t o w).2.2))))) ?_
    exact ⟨(Eq.trans (@rfl V (V.bool (decide (((sftR t o w).2.2) = ((sftR t o w).2.2))))) (dec_andT g6)), h3, h4, trivial⟩
   ·
    refine G_no (Eq.trans (@rfl V (V.bool (decide ((((sftR t o w).1) = ((sftR t o w).1)) ∧ (((sftR t o w).2.1) = ((sftR t o w).2.1)))))) (bdF g6)) (by decide) ?_
    refine G_no (Eq.trans (@rfl V (V.bool (decide ((((sftR t o w).1) = ((sftR t o w).1)) ∧ (((sftR t o w).2.1) = ((sftR t o w).2.1)))))) (bdF g6)) (by decide) ?_
    refine G_no (Eq.trans (@rfl V (V.bool (decide ((((sftR t o w).1) = ((sftR t o w).1)) ∧ (((sftR t o w).2.1) = ((sftR t o w).2.1)))))) (bdF g6)) (by decide) ?_
    refine R_pickF (Eq.trans (@rfl V (V.bool (decide ((((sftR t o w).1) = ((sftR t o w).1)) ∧ (((sftR t o w).2.1) = ((sftR t o w).2.1)))))) (bdF g6)) (@rfl V (V.bool false)) ?_
    exact ⟨(Eq.trans (@rfl V (V.bool false)) (dec_andF g6)), h3, h4, trivial⟩
  intro T H ⟨t60, h3, h4, _⟩
  refine R_mv t60 ?_
  refine Ops_seg 2 (fun T H => T 63 = (V.bool (decide (((((sftR t o w).1) = ((sftR t o w).1)) ∧ (((sftR t o w).2.1) = ((sftR t o w).2.1))) ∧ (((sftR t o w).2.2) = ((sftR t o w).2.2))))) ∧ H 3 = (bk 1 24 1 [[(V.sl (List.map cN (t.nd)))]]) ∧ H 4 = (bk 1 37 2 [[(iV (o.i)), (V.sl (List.map cT (o.tr)))]]) ∧ True) ?_ ?_
  ·
   by_cases g7 : ((((sftR t o w).1) = ((sftR t o w).1)) ∧ (((sftR t o w).2.1) = ((sftR t o w).2.1))) ∧ (((sftR t o w).2.2) = ((sftR t o w).2.2))
   ·
    refine G_yes (Eq.trans (@rfl V (V.bool (decide (((((sftR t o w).1) = ((sftR t o w).1)) ∧ (((sftR t o w).2.1) = ((sftR t o w).2.1))) ∧ (((sftR t o w).2.2) = ((sftR t o w).2.2)))))) (bdT g7)) ?_
    refine R_callc evnil (aw_learnerlaw26_awake_pure) ?_
    refine R_pickT (Eq.trans (@rfl V (V.bool (decide (((((sftR t o w).1) = ((sftR t o w).1)) ∧ (((sftR t o w).2.1) = ((sftR t o w).2.1))) ∧ (((sftR t o w).2.2) = ((sftR t o w).2.2)))))) (bdT g7)) (@rfl V (V.bool true)) ?_
    exact ⟨(Eq.trans (@rfl V (V.bool true)) (dec_T g7)), h3, h4, trivial⟩
   ·
    refine G_no (Eq.trans (@rfl V (V.bool (decide (((((sftR t o w).1) = ((sftR t o w).1)) ∧ (((sftR t o w).2.1) = ((sftR t o w).2.1))) ∧ (((sftR t o w).2.2) = ((sftR t o w).2.2)))))) (bdF g7)) (by decide) ?_
    refine R_pickF (Eq.trans (@rfl V (V.bool (decide (((((sftR t o w).1) = ((sftR t o w).1)) ∧ (((sftR t o w).2.1) = ((sftR t o w).2.1))) ∧ (((sftR t o w).2.2) = ((sftR t o w).2.2)))))) (bdF g7)) (@rfl V (V.bool false)) ?_
    exact ⟨(Eq.trans (@rfl V (V.bool false)) (dec_F g7)), h3, h4, trivial⟩
  intro T H ⟨t63, h3, h4, _⟩
  refine R_mv t63 ?_
  exact R_nil ⟨rfl, h3, h4, trivial⟩
 intro T H ⟨t6, h3, h4, _⟩
 refine W_ret ?_
 refine Ret_1 t6 (fz_bool ?_)
 · simp
end Go.Proofs.YtmnjchcoigbngaaGreat


namespace Go.Proofs.YtmnjchcoigbngaaGreat
open Go Go.Proofs Go.Proofs.YtmnjchcoigbngaaGreat Go.ChangeShapes Go.WideShapes Go.ChangeAt Go.RowKit
structure UT (P : Program) : Prop where
  u22 : P.underlying 22 = some (.slice 68)
  u4 : P.underlying 4 = some (.bool)
  u38 : P.underlying 38 = some (.slice 3)
  u3 : P.underlying 3 = some (.int .i64)
  u31 : P.underlying 31 = some (.slice 38)
  u68 : ∃ f0 f1 f2 f3 f4 : Field, P.underlying 68 = some (.struct #[f0, f1, f2, f3, f4]) ∧ f0.type = 4 ∧ f1.type = 38 ∧ f2.type = 38 ∧ f3.type = 31 ∧ f4.type = 38
  u24 : ∃ f0 : Field, P.underlying 24 = some (.struct #[f0]) ∧ f0.type = 22
  u35 : P.underlying 35 = some (.slice 70)
  u70 : ∃ f0 f1 : Field, P.underlying 70 = some (.struct #[f0, f1]) ∧ f0.type = 38 ∧ f1.type = 38
  u37 : ∃ f0 f1 : Field, P.underlying 37 = some (.struct #[f0, f1]) ∧ f0.type = 3 ∧ f1.type = 35
theorem sh4 {P : Program} (U : UT P) (n : Nat) (vs : List V) (h : Shp P (n + 1) 4 vs) : ∃ a : Bool, vs = (fun b => [V.bool b]) a := shp_bool U.u4 h
theorem sh3 {P : Program} (U : UT P) (n : Nat) (vs : List V) (h : Shp P (n + 1) 3 vs) : ∃ a : Int, vs = cI a := shp_int U.u3 h
theorem sh38 {P : Program} (U : UT P) (n : Nat) (vs : List V) (h : Shp P (n + 2) 38 vs) : ∃ a : List Int, vs = cL a := shp_slice (f := cI) U.u38 (fun vs h => sh3 U n vs h) h
theorem sh31 {P : Program} (U : UT P) (n : Nat) (vs : List V) (h : Shp P (n + 3) 31 vs) : ∃ a : List (List Int), vs = (fun l => [V.sl (List.map cL l)]) a := shp_slice (f := cL) U.u31 (fun vs h => sh38 U n vs h) h
theorem sh68 {P : Program} (U : UT P) (n : Nat) (vs : List V) (h : Shp P (n + 4) 68 vs) : ∃ a : Nd, vs = cN a := by
  obtain ⟨f0, f1, f2, f3, f4, hu, k0, k1, k2, k3, k4⟩ := U.u68
  have h0 := shp_step hu h
  obtain ⟨x0, u0, e0, h1⟩ := shpL_cons (c := (fun b => [V.bool b])) (fun vs h => sh4 U (n + 2) vs (by rw [k0] at h; exact h)) h0
  obtain ⟨x1, u1, e1, h2⟩ := shpL_cons (c := cL) (fun vs h => sh38 U (n + 1) vs (by rw [k1] at h; exact h)) h1
  obtain ⟨x2, u2, e2, h3⟩ := shpL_cons (c := cL) (fun vs h => sh38 U (n + 1) vs (by rw [k2] at h; exact h)) h2
  obtain ⟨x3, u3, e3, h4⟩ := shpL_cons (c := (fun l => [V.sl (List.map cL l)])) (fun vs h => sh31 U (n + 0) vs (by rw [k3] at h; exact h)) h3
  obtain ⟨x4, u4, e4, h5⟩ := shpL_cons (c := cL) (fun vs h => sh38 U (n + 1) vs (by rw [k4] at h; exact h)) h4
  have e5 := shpL_nil h5
  exact ⟨⟨x0, x1, x2, x3, x4⟩, by rw [e0, e1, e2, e3, e4, e5]; rfl⟩
theorem sh22 {P : Program} (U : UT P) (n : Nat) (vs : List V) (h : Shp P (n + 5) 22 vs) : ∃ a : List Nd, vs = (fun l => [V.sl (List.map cN l)]) a := shp_slice (f := cN) U.u22 (fun vs h => sh68 U n vs h) h
theorem sh24 {P : Program} (U : UT P) (n : Nat) (vs : List V) (h : Shp P (n + 6) 24 vs) : ∃ a : Dt, vs = cD a := by
  obtain ⟨f0, hu, k0⟩ := U.u24
  have h0 := shp_step hu h
  obtain ⟨x0, u0, e0, h1⟩ := shpL_cons (c := (fun l => [V.sl (List.map cN l)])) (fun vs h => sh22 U (n + 0) vs (by rw [k0] at h; exact h)) h0
  have e1 := shpL_nil h1
  exact ⟨⟨x0⟩, by rw [e0, e1]; rfl⟩
theorem sh70 {P : Program} (U : UT P) (n : Nat) (vs : List V) (h : Shp P (n + 3) 70 vs) : ∃ a : Tr, vs = cT a := by
  obtain ⟨f0, f1, hu, k0, k1⟩ := U.u70
  have h0 := shp_step hu h
  obtain ⟨x0, u0, e0, h1⟩ := shpL_cons (c := cL) (fun vs h => sh38 U (n + 0) vs (by rw [k0] at h; exact h)) h0
  obtain ⟨x1, u1, e1, h2⟩ := shpL_cons (c := cL) (fun vs h => sh38 U (n + 0) vs (by rw [k1] at h; exact h)) h1
  have e2 := shpL_nil h2
  exact ⟨⟨x0, x1⟩, by rw [e0, e1, e2]; rfl⟩
theorem sh35 {P : Program} (U : UT P) (n : Nat) (vs : List V) (h : Shp P (n + 4) 35 vs) : ∃ a : List Tr, vs = (fun l => [V.sl (List.map cT l)]) a := shp_slice (f := cT) U.u35 (fun vs h => sh70 U n vs h) h
theorem sh37 {P : Program} (U : UT P) (n : Nat) (vs : List V) (h : Shp P (n + 5) 37 vs) : ∃ a : Ob, vs = oC a := by
  obtain ⟨f0, f1, hu, k0, k1⟩ := U.u37
  have h0 := shp_step hu h
  obtain ⟨x0, u0, e0, h1⟩ := shpL_cons (c := cI) (fun vs h => sh3 U (n + 3) vs (by rw [k0] at h; exact h)) h0
  obtain ⟨x1, u1, e1, h2⟩ := shpL_cons (c := (fun l => [V.sl (List.map cT l)])) (fun vs h => sh35 U (n + 0) vs (by rw [k1] at h; exact h)) h1
  have e2 := shpL_nil h2
  exact ⟨⟨x0, x1⟩, by rw [e0, e1, e2]; rfl⟩
theorem ut : UT Tryz.prog := ⟨by kernel_rfl, by kernel_rfl, by kernel_rfl, by kernel_rfl, by kernel_rfl, ⟨_, _, _, _, _, Tryz.underlying68, rfl, rfl, rfl, rfl, rfl⟩, ⟨_, Tryz.underlying24, rfl⟩, by kernel_rfl, ⟨_, _, Tryz.underlying70, rfl, rfl⟩, ⟨_, _, Tryz.underlying37, rfl, rfl⟩⟩
theorem args4 {P : Program} (U : UT P) {us : List V} (h : ShpA P 7 [24, 37, 38] us) : ∃ (d0 : Dt) (d1 : Ob) (d2 : List Int), us = [V.agg (cD d0), V.agg (oC d1), V.sl (List.map cI d2)] := by
  obtain ⟨a0, b0, e0, h0, h⟩ := shpA_cons h
  obtain ⟨d0, g0⟩ := sh24 U 1 a0 h0
  have q0 : packV P 24 a0 = V.agg (cD d0) := by obtain ⟨_, hu, _⟩ := U.u24; rw [g0]; exact pack_struct hu _
  obtain ⟨a1, b1, e1, h1, h⟩ := shpA_cons h
  obtain ⟨d1, g1⟩ := sh37 U 2 a1 h1
  have q1 : packV P 37 a1 = V.agg (oC d1) := by obtain ⟨_, _, hu, _⟩ := U.u37; rw [g1]; exact pack_struct hu _
  obtain ⟨a2, b2, e2, h2, h⟩ := shpA_cons h
  obtain ⟨d2, g2⟩ := sh38 U 5 a2 h2
  have q2 : packV P 38 a2 = V.sl (List.map cI d2) := by rw [g2]; exact pack_other (fun fs h => by rw [U.u38] at h; cases h) (fun m e h => by rw [U.u38] at h; cases h)
  have e3 := shpA_nil h
  exact ⟨d0, d1, d2, by rw [e0, q0, e1, q1, e2, q2, e3]⟩
theorem own4 : ownKnob Tryz.prog.godebug = none := by kernel_rfl
set_option maxRecDepth 100000 in
theorem lifted4 (os : Os) (started : os.Started) (H : Type) (enc : TypeId × Value → H) :
    ReturnsInHanded {} Tryz.checked os 4 .any (Rows.dtreeSiftsSpec.pre6 enc Tryz.prog Tryz.f4 Rows.dtreeSiftsRow.domain false) (Rows.dtreeSiftsSpec.post enc Tryz.prog Tryz.f4 false true false false) := by
  refine returnsInHanded_of_change (C := Tryz.checked) own4 started (by kernel_rfl) Tryz.func4
    (ChangeSpec.witness6 (enc := enc) (C := Tryz.checked) false ⟨#[], #[.agg #[.slice none 0 0], .agg #[.int .i64 0, .slice none 0 0], .slice none 0 0], []⟩ 8 (by kernel_rfl) (by kernel_rfl) (by kernel_rfl) (by kernel_rfl)) ?_
  intro W base args ds gs before hval0 hW hcnd _
  refine law_post (n := 7) (tb := 4) (by kernel_rfl) (by kernel_rfl) (by kernel_rfl) (fun t ht => ?_) rfl ?_ (fun us hu => ?_) hval0 hW
  · have h : t ∈ [24, 37, 38] := ht
    simp only [List.mem_cons, List.not_mem_nil, or_false] at h
    rcases h with rfl | rfl | rfl
    · exact ⟨by kernel_rfl, by kernel_rfl, of_decide_eq_true (by kernel_rfl)⟩
    · exact ⟨by kernel_rfl, by kernel_rfl, of_decide_eq_true (by kernel_rfl)⟩
    · exact ⟨by kernel_rfl, by kernel_rfl, of_decide_eq_true (by kernel_rfl)⟩
  · obtain ⟨p, q, hA, hV, rfl, hfz, hnd⟩ := hW
    obtain ⟨rfl, rfl⟩ := trodVars_none hV
    change DataW.TrodAll enc Tryz.prog W 0 (fun _ => true) true [24, 37, 38] args.toList ds p at hA
    obtain ⟨v0, vs0, y0, ds0, pa0, pb0, hv0, rfl, rfl, _, hA⟩ := trodAll_cons hA
    obtain ⟨v1, vs1, y1, ds1, pa1, pb1, hv1, rfl, rfl, _, hA⟩ := trodAll_cons hA
    obtain ⟨v2, vs2, y2, ds2, pa2, pb2, hv2, rfl, rfl, _, hA⟩ := trodAll_cons hA
    obtain ⟨_, rfl, rfl⟩ := trodAll_nil hA
    rfl
  · obtain ⟨d0, d1, d2, rfl⟩ := args4 ut hu
    exact law4_pure d0 d1 d2
theorem proved4 : Rows.DtreeSiftsSaid :=
  OpenClaim.holds_of_wide 4 Tryz.f4 rfl rfl rfl rfl rfl rfl rfl ⟨rfl, rfl, rfl, rfl, rfl⟩ rfl rfl rfl rfl rfl (by kernel_rfl) Tryz.func4 (by kernel_rfl)
    (of_decide_eq_true (by kernel_rfl)) (by unfold Func.isWrapper; first | (rw [if_pos (by decide +kernel)]; kernel_rfl) | (rw [if_neg (by decide +kernel)]; exact ⟨rfl, rfl⟩))
    (fun os started H enc _ => lifted4 os started H enc)
end Go.Proofs.YtmnjchcoigbngaaGreat


