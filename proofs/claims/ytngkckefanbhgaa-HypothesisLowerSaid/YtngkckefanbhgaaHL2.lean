/- Contracts of the functions that the law HL reaches, and the law itself, for every input; no condition. -/
import Derived.KernelRfl
import Derived.Test.YtngkckefanbhgaaProg
import Derived.Shelf.SlSortCmp.KitK
import Derived.Test.YtngkckefanbhgaaHL1
set_option linter.unusedSimpArgs false
set_option linter.unusedVariables false
namespace Go.Proofs.Ytngkckefanbhgaa
open Go Go.Proofs
theorem plow_pure (o : Ob) (l : List (List Int)) (ho : oval o = 0) (hl : l.length ≤ 1000000) (hw : ∀ k, k < l.length → (nth l k).length ≤ 1048576) : PureC Try.prog 29 [(V.agg [(iV (o.i)), (V.sl (List.map cT (o.tr)))]), (V.sl (List.map cL (l)))] (iV (((lowL (fdP o) l).length : Nat) : Int)) := by
 refine pure_of_Wb true 6 Try.func29 s29_ok (by kernel_rfl) (by simp [s29]) (by simp) (by simp) fun hB => ?_
 simp only [bnd_map, bnd_int, bnd_bool, bnd_str, bnd_agg, bnd_pp, bnd_nil, bnd_cons, implies_true, and_true, true_and] at hB
 unfold s29
 dsimp only
 refine W_seq_regc (fun T H => T 1 = (V.sl (List.map cL (l))) ∧ T 2 = (V.mp 2 1 0 0) ∧ H 2 = (⟨1, true, false, 34, 2, [[(iV (o.i)), (V.sl (List.map cT (o.tr)))]]⟩ : Blk) ∧ H 5 = (⟨0, false, false, 0, 0, []⟩ : Blk) ∧ True) ?_ ?_
 ·
  unfold r29_0
  refine R_box (i := 2) (n := 0) (m := 2) (cs := [(iV (o.i)), (V.sl (List.map cT (o.tr)))]) rfl (congrArg Blk.ver rfl) (@rfl V (V.agg [(iV (o.i)), (V.sl (List.map cT (o.tr)))])) rfl rfl ?_
  refine R_mv (@rfl V (iV (0 : Int))) ?_
  exact R_nil ⟨rfl, rfl, rfl, rfl, trivial⟩
 intro T H ⟨t1, t2, h2, h5, _⟩
 refine W_seq_regc (fun T H => T 1 = (V.sl (List.map cL (l))) ∧ T 2 = (V.mp 2 1 0 0) ∧ T 5 = (V.ms 5 1 0 (0)) ∧ H 2 = (⟨1, true, false, 34, 2, [[(iV (o.i)), (V.sl (List.map cT (o.tr)))]]⟩ : Blk) ∧ H 5 = (⟨1, true, true, 35, 1, []⟩ : Blk) ∧ True) ?_ ?_
 ·
  unfold r29_1
  refine R_lazy (i := 5) (n := 0) rfl (congrArg Blk.ver h5) ?_
  exact R_nil ⟨t1, t2, rfl, h2, rfl, trivial⟩
 intro T H ⟨t1, t2, t5, h2, h5, _⟩
 refine W_seq_seq ?_
 refine W_seq_regc (fun T H => T 2 = (V.mp 2 1 0 0) ∧ T 5 = (V.ms 5 1 0 (0)) ∧ T 13 = (V.sl (List.map cL (l))) ∧ T 14 = (iV ((l.length : Nat) : Int)) ∧ T 15 = (iV (0 : Int)) ∧ H 2 = (⟨1, true, false, 34, 2, [[(iV (o.i)), (V.sl (List.map cT (o.tr)))]]⟩ : Blk) ∧ H 5 = (⟨1, true, true, 35, 1, []⟩ : Blk) ∧ True) ?_ ?_
 ·
  unfold r29_2
  refine R_mv t1 ?_
  refine R_len (@rfl V (V.sl (List.map cL (l)))) ?_
  refine R_mv (@rfl V (iV (0 : Int))) ?_
  exact R_nil ⟨t2, t5, rfl, rfl, rfl, h2, h5, trivial⟩
 intro T H ⟨t2, t5, t13, t14, t15, h2, h5, _⟩
 refine W_seq_blockg fun Q1 n1 x1 y1 z1 => ?_
 refine W_loop (fun mm T H => ∃ (k : Nat), mm = l.length - k ∧ T 2 = (V.mp 2 1 0 0) ∧ T 5 = (V.ms 5 (1 + (lowL (fdP o) (l.take k)).length) 0 ((lowL (fdP o) (l.take k)).length)) ∧ T 13 = (V.sl (List.map cL (l))) ∧ T 14 = (iV ((l.length : Nat) : Int)) ∧ T 15 = (iV ((k : Nat) : Int)) ∧ H 2 = (⟨1, true, false, 34, 2, [[(iV (o.i)), (V.sl (List.map cT (o.tr)))]]⟩ : Blk) ∧ H 5 = (⟨1 + (lowL (fdP o) (l.take k)).length, true, true, 35, 1, (List.map cL (lowL (fdP o) (l.take k)))⟩ : Blk) ∧ (k ≤ l.length)) ?_ ?_
 ·
  refine ⟨_, 0, rfl, t2, (Eq.trans t5 (by first | rfl | (rw [Nat.zero_add]; rfl) | (simp only [alB, d1, Nat.zero_add]; simp; done) | (rw [g1, low1, if_pos d2, List.length_append]; rfl) | (rw [g1, low1, if_pos d2]; done) | (rw [g1, low1, if_neg (by simp [d2])]; done))), t13, t14, (Eq.trans t15 (by first | rfl | (rw [Nat.zero_add]; rfl) | (simp only [alB, d1, Nat.zero_add]; simp; done) | (rw [g1, low1, if_pos d2, List.length_append]; rfl) | (rw [g1, low1, if_pos d2]; done) | (rw [g1, low1, if_neg (by simp [d2])]; done))), h2, (Eq.trans h5 (by first | rfl | (rw [Nat.zero_add]; rfl) | (simp only [alB, d1, Nat.zero_add]; simp; done) | (rw [g1, low1, if_pos d2, List.length_append]; rfl) | (rw [g1, low1, if_pos d2]; done) | (rw [g1, low1, if_neg (by simp [d2])]; done))), ?_⟩
  · omega
 intro mm T H ⟨k, hmm, t2, t5, t13, t14, t15, h2, h5, hk⟩ Q2 p12 p22 p32
 unfold b29_0
 refine W_seq_regc (fun T H => T 2 = (V.mp 2 1 0 0) ∧ T 5 = (V.ms 5 (1 + (lowL (fdP o) (l.take k)).length) 0 ((lowL (fdP o) (l.take k)).length)) ∧ T 13 = (V.sl (List.map cL (l))) ∧ T 14 = (iV ((l.length : Nat) : Int)) ∧ T 15 = (iV ((k : Nat) : Int)) ∧ T 16 = (V.bool (decide (((k : Nat) : Int) < ((l.length : Nat) : Int)))) ∧ H 2 = (⟨1, true, false, 34, 2, [[(iV (o.i)), (V.sl (List.map cT (o.tr)))]]⟩ : Blk) ∧ H 5 = (⟨1 + (lowL (fdP o) (l.take k)).length, true, true, 35, 1, (List.map cL (lowL (fdP o) (l.take k)))⟩ : Blk) ∧ True) ?_ ?_
 ·
  unfold r29_3
  refine R_lss (x := ((k : Nat) : Int)) (y := ((l.length : Nat) : Int)) t15 t14 ?_
  exact R_nil ⟨t2, t5, t13, t14, t15, rfl, h2, h5, trivial⟩
 intro T H ⟨t2, t5, t13, t14, t15, t16, h2, h5, _⟩
 refine W_seq_if (p := ((k : Nat) : Int) < ((l.length : Nat) : Int)) t16 (fun c3 => ?_) (fun c3 => ?_)
 ·
  have g1 := low_take (ap := (fdP o)) (l := l) (k := k) (by omega)
  have g2 := low_len (ap := (fdP o)) (l := l) (k := k) (by omega)
  refine W_seq_skip ?_
  refine W_seq_blockg fun Q4 n4 x4 y4 z4 => ?_
  refine W_seq_regc (fun T H => T 2 = (V.mp 2 1 0 0) ∧ T 5 = (V.ms 5 (1 + (lowL (fdP o) (l.take k)).length) 0 ((lowL (fdP o) (l.take k)).length)) ∧ T 7 = (V.sl (List.map cI ((nth (l) (k))))) ∧ T 13 = (V.sl (List.map cL (l))) ∧ T 14 = (iV ((l.length : Nat) : Int)) ∧ T 15 = (iV ((k : Nat) : Int)) ∧ H 2 = (⟨1, true, false, 34, 2, [[(iV (o.i)), (V.sl (List.map cT (o.tr)))]]⟩ : Blk) ∧ H 5 = (⟨1 + (lowL (fdP o) (l.take k)).length, true, true, 35, 1, (List.map cL (lowL (fdP o) (l.take k)))⟩ : Blk) ∧ True) ?_ ?_
  ·
   unfold r29_4
   refine R_idx (i := k) t13 t15 (by omega) rfl ?_
   refine R_load_pp (v := (V.sl (List.map cI ((nth (l) (k)))))) (@rfl V (V.pp [(V.sl (List.map cI ((nth (l) (k)))))])) (by first | rfl | simp [ldV]) ?_
   refine R_mv (@rfl V (V.sl (List.map cI ((nth (l) (k)))))) ?_
   exact R_nil ⟨t2, t5, rfl, t13, t14, t15, h2, h5, trivial⟩
  intro T H ⟨t2, t5, t7, t13, t14, t15, h2, h5, _⟩
  refine W_seq_regc (fun T H => T 2 = (V.mp 2 1 0 0) ∧ T 5 = (V.ms 5 (1 + (lowL (fdP o) (l.take k)).length) 0 ((lowL (fdP o) (l.take k)).length)) ∧ T 7 = (V.sl (List.map cI ((nth (l) (k))))) ∧ T 8 = (V.bool true) ∧ T 13 = (V.sl (List.map cL (l))) ∧ T 14 = (iV ((l.length : Nat) : Int)) ∧ T 15 = (iV ((k : Nat) : Int)) ∧ H 2 = (⟨1, true, false, 34, 2, [[(iV (o.i)), (V.sl (List.map cT (o.tr)))]]⟩ : Blk) ∧ H 5 = (⟨1 + (lowL (fdP o) (l.take k)).length, true, true, 35, 1, (List.map cL (lowL (fdP o) (l.take k)))⟩ : Blk) ∧ True) ?_ ?_
  ·
   unfold r29_5
   refine R_mv (@rfl V (V.bool true)) ?_
   exact R_nil ⟨t2, t5, t7, rfl, t13, t14, t15, h2, h5, trivial⟩
  intro T H ⟨t2, t5, t7, t8, t13, t14, t15, h2, h5, _⟩
  refine W_seq_seq ?_
  refine W_seq_regc (fun T H => T 2 = (V.mp 2 1 0 0) ∧ T 5 = (V.ms 5 (1 + (lowL (fdP o) (l.take k)).length) 0 ((lowL (fdP o) (l.take k)).length)) ∧ T 7 = (V.sl (List.map cI ((nth (l) (k))))) ∧ T 8 = (V.bool true) ∧ T 13 = (V.sl (List.map cL (l))) ∧ T 14 = (iV ((l.length : Nat) : Int)) ∧ T 15 = (iV ((k : Nat) : Int)) ∧ T 19 = (V.ms 5 (1 + (lowL (fdP o) (l.take k)).length) 0 ((lowL (fdP o) (l.take k)).length)) ∧ T 20 = (iV (((lowL (fdP o) (l.take k)).length : Nat) : Int)) ∧ T 21 = (iV (0 : Int)) ∧ H 2 = (⟨1, true, false, 34, 2, [[(iV (o.i)), (V.sl (List.map cT (o.tr)))]]⟩ : Blk) ∧ H 5 = (⟨1 + (lowL (fdP o) (l.take k)).length, true, true, 35, 1, (List.map cL (lowL (fdP o) (l.take k)))⟩ : Blk) ∧ True) ?_ ?_
  ·
   unfold r29_6
   refine R_mv t5 ?_
   refine R_len_ms (@rfl V (V.ms 5 (1 + (lowL (fdP o) (l.take k)).length) 0 ((lowL (fdP o) (l.take k)).length))) h5 (by first | rfl | simp) ?_
   refine R_mv (@rfl V (iV (0 : Int))) ?_
   exact R_nil ⟨t2, t5, t7, t8, t13, t14, t15, rfl, rfl, rfl, h2, h5, trivial⟩
  intro T H ⟨t2, t5, t7, t8, t13, t14, t15, t19, t20, t21, h2, h5, _⟩
  refine W_seq_blockg fun Q5 n5 x5 y5 z5 => ?_
  refine W_loop (fun mm T H => ∃ (j : Nat), mm = ((lowL (fdP o) (l.take k)).length) - j ∧ T 2 = (V.mp 2 1 0 0) ∧ T 5 = (V.ms 5 (1 + (lowL (fdP o) (l.take k)).length) 0 ((lowL (fdP o) (l.take k)).length)) ∧ T 7 = (V.sl (List.map cI ((nth (l) (k))))) ∧ T 8 = (V.bool (alB (fun j => (fdP o) (nth (lowL (fdP o) (l.take k)) j) (nth l k)) j)) ∧ T 13 = (V.sl (List.map cL (l))) ∧ T 14 = (iV ((l.length : Nat) : Int)) ∧ T 15 = (iV ((k : Nat) : Int)) ∧ T 19 = (V.ms 5 (1 + (lowL (fdP o) (l.take k)).length) 0 ((lowL (fdP o) (l.take k)).length)) ∧ T 20 = (iV (((lowL (fdP o) (l.take k)).length : Nat) : Int)) ∧ T 21 = (iV ((j : Nat) : Int)) ∧ H 2 = (⟨1, true, false, 34, 2, [[(iV (o.i)), (V.sl (List.map cT (o.tr)))]]⟩ : Blk) ∧ H 5 = (⟨1 + (lowL (fdP o) (l.take k)).length, true, true, 35, 1, (List.map cL (lowL (fdP o) (l.take k)))⟩ : Blk) ∧ (j ≤ (lowL (fdP o) (l.take k)).length)) ?_ ?_
  ·
   refine ⟨_, 0, rfl, t2, t5, t7, (Eq.trans t8 (by first | rfl | (rw [Nat.zero_add]; rfl) | (simp only [alB, d1, Nat.zero_add]; simp; done) | (rw [g1, low1, if_pos d2, List.length_append]; rfl) | (rw [g1, low1, if_pos d2]; done) | (rw [g1, low1, if_neg (by simp [d2])]; done))), t13, t14, t15, t19, t20, (Eq.trans t21 (by first | rfl | (rw [Nat.zero_add]; rfl) | (simp only [alB, d1, Nat.zero_add]; simp; done) | (rw [g1, low1, if_pos d2, List.length_append]; rfl) | (rw [g1, low1, if_pos d2]; done) | (rw [g1, low1, if_neg (by simp [d2])]; done))), h2, h5, ?_⟩
   · omega
  intro mm T H ⟨j, hmm, t2, t5, t7, t8, t13, t14, t15, t19, t20, t21, h2, h5, hj⟩ Q6 p16 p26 p36
  unfold b29_1
  refine W_seq_regc (fun T H => T 2 = (V.mp 2 1 0 0) ∧ T 5 = (V.ms 5 (1 + (lowL (fdP o) (l.take k)).length) 0 ((lowL (fdP o) (l.take k)).length)) ∧ T 7 = (V.sl (List.map cI ((nth (l) (k))))) ∧ T 8 = (V.bool (alB (fun j => (fdP o) (nth (lowL (fdP o) (l.take k)) j) (nth l k)) j)) ∧ T 13 = (V.sl (List.map cL (l))) ∧ T 14 = (iV ((l.length : Nat) : Int)) ∧ T 15 = (iV ((k : Nat) : Int)) ∧ T 19 = (V.ms 5 (1 + (lowL (fdP o) (l.take k)).length) 0 ((lowL (fdP o) (l.take k)).length)) ∧ T 20 = (iV (((lowL (fdP o) (l.take k)).length : Nat) : Int)) ∧ T 21 = (iV ((j : Nat) : Int)) ∧ T 22 = (V.bool (decide (((j : Nat) : Int) < (((lowL (fdP o) (l.take k)).length : Nat) : Int)))) ∧ H 2 = (⟨1, true, false, 34, 2, [[(iV (o.i)), (V.sl (List.map cT (o.tr)))]]⟩ : Blk) ∧ H 5 = (⟨1 + (lowL (fdP o) (l.take k)).length, true, true, 35, 1, (List.map cL (lowL (fdP o) (l.take k)))⟩ : Blk) ∧ True) ?_ ?_
  ·
   unfold r29_7
   refine R_lss (x := ((j : Nat) : Int)) (y := (((lowL (fdP o) (l.take k)).length : Nat) : Int)) t21 t20 ?_
   exact R_nil ⟨t2, t5, t7, t8, t13, t14, t15, t19, t20, t21, rfl, h2, h5, trivial⟩
  intro T H ⟨t2, t5, t7, t8, t13, t14, t15, t19, t20, t21, t22, h2, h5, _⟩
  refine W_seq_if (p := ((j : Nat) : Int) < (((lowL (fdP o) (l.take k)).length : Nat) : Int)) t22 (fun c7 => ?_) (fun c7 => ?_)
  ·
   have g3 := low_mem (ap := (fdP o)) (l := l) (k := k) (j := j) (by omega)
   obtain ⟨i0, i1, i2⟩ := g3
   have g4 : (nth (lowL ((fdP o)) (l.take k)) (0 + j)).length ≤ 1048576 := by rw [Nat.zero_add, i2]; exact hw i0 (by omega)
   have g5 := hw k (by omega)
   refine W_seq_skip ?_
   refine W_seq_blockg fun Q8 n8 x8 y8 z8 => ?_
   refine W_seq_regc (fun T H => T 2 = (V.mp 2 1 0 0) ∧ T 5 = (V.ms 5 (1 + (lowL (fdP o) (l.take k)).length) 0 ((lowL (fdP o) (l.take k)).length)) ∧ T 7 = (V.sl (List.map cI ((nth (l) (k))))) ∧ T 8 = (V.bool (alB (fun j => (fdP o) (nth (lowL (fdP o) (l.take k)) j) (nth l k)) j)) ∧ T 10 = (V.sl (List.map cI ((nth (lowL (fdP o) (l.take k)) (0 + (j)))))) ∧ T 13 = (V.sl (List.map cL (l))) ∧ T 14 = (iV ((l.length : Nat) : Int)) ∧ T 15 = (iV ((k : Nat) : Int)) ∧ T 19 = (V.ms 5 (1 + (lowL (fdP o) (l.take k)).length) 0 ((lowL (fdP o) (l.take k)).length)) ∧ T 20 = (iV (((lowL (fdP o) (l.take k)).length : Nat) : Int)) ∧ T 21 = (iV ((j : Nat) : Int)) ∧ H 2 = (⟨1, true, false, 34, 2, [[(iV (o.i)), (V.sl (List.map cT (o.tr)))]]⟩ : Blk) ∧ H 5 = (⟨1 + (lowL (fdP o) (l.take k)).length, true, true, 35, 1, (List.map cL (lowL (fdP o) (l.take k)))⟩ : Blk) ∧ True) ?_ ?_
   ·
    unfold r29_8
    refine R_idx_ms (i := j) t19 t21 h5 (okB_map (by omega)) rfl (by omega) ?_
    refine R_load_mp (v := (V.sl (List.map cI ((nth (lowL (fdP o) (l.take k)) (0 + (j))))))) (@rfl V (V.mp 5 (1 + (lowL (fdP o) (l.take k)).length) (0 + (j)) 0)) h5 (ldB_map (by omega) (by first | rfl | simp [ldV, V.one])) ?_
    refine R_mv (@rfl V (V.sl (List.map cI ((nth (lowL (fdP o) (l.take k)) (0 + (j))))))) ?_
    exact R_nil ⟨t2, t5, t7, t8, rfl, t13, t14, t15, t19, t20, t21, h2, h5, trivial⟩
   intro T H ⟨t2, t5, t7, t8, t10, t13, t14, t15, t19, t20, t21, h2, h5, _⟩
   refine W_seq_regc (fun T H => T 2 = (V.mp 2 1 0 0) ∧ T 5 = (V.ms 5 (1 + (lowL (fdP o) (l.take k)).length) 0 ((lowL (fdP o) (l.take k)).length)) ∧ T 7 = (V.sl (List.map cI ((nth (l) (k))))) ∧ T 8 = (V.bool (alB (fun j => (fdP o) (nth (lowL (fdP o) (l.take k)) j) (nth l k)) j)) ∧ T 12 = (V.bool (decide (fdl (bhd o.tr ((nth (l) (k)))) (bhd o.tr ((nth (lowL (fdP o) (l.take k)) (0 + (j))))) ≠ []))) ∧ T 13 = (V.sl (List.map cL (l))) ∧ T 14 = (iV ((l.length : Nat) : Int)) ∧ T 15 = (iV ((k : Nat) : Int)) ∧ T 19 = (V.ms 5 (1 + (lowL (fdP o) (l.take k)).length) 0 ((lowL (fdP o) (l.take k)).length)) ∧ T 20 = (iV (((lowL (fdP o) (l.take k)).length : Nat) : Int)) ∧ T 21 = (iV ((j : Nat) : Int)) ∧ H 2 = (⟨1, true, false, 34, 2, [[(iV (o.i)), (V.sl (List.map cT (o.tr)))]]⟩ : Blk) ∧ H 5 = (⟨1 + (lowL (fdP o) (l.take k)).length, true, true, 35, 1, (List.map cL (lowL (fdP o) (l.take k)))⟩ : Blk) ∧ True) ?_ ?_
   ·
    unfold r29_9
    refine R_load_mp (v := (V.agg [(iV (o.i)), (V.sl (List.map cT (o.tr)))])) t2 h2 (by first | rfl | simp [ldB, ldV, Blk.own, V.one]) ?_
    refine R_mv t7 ?_
    refine R_mv t10 ?_
    refine R_call (evcons (@rfl V (V.agg [(iV (o.i)), (V.sl (List.map cT (o.tr)))])) (evcons (@rfl V (V.sl (List.map cI ((nth (l) (k)))))) (evcons (@rfl V (V.sl (List.map cI ((nth (lowL (fdP o) (l.take k)) (0 + (j))))))) evnil))) (hapart_pure o ((nth (l) (k))) ((nth (lowL (fdP o) (l.take k)) (0 + (j)))) ho g5 g4) (fzv_mapcanon _ _ (by simp [-List.map_take, -List.map_drop, -List.map_append, -List.map_reverse])) (by simp [-List.map_take, -List.map_drop, -List.map_append, -List.map_reverse]) (Or.inl (by simp [-List.map_take, -List.map_drop, -List.map_append, -List.map_reverse])) ?_
    refine R_mv (@rfl V (V.tup [(V.sl (List.map cI (least (fdl (bhd o.tr ((nth (l) (k)))) (bhd o.tr ((nth (lowL (fdP o) (l.take k)) (0 + (j))))))))), (V.bool (decide (fdl (bhd o.tr ((nth (l) (k)))) (bhd o.tr ((nth (lowL (fdP o) (l.take k)) (0 + (j))))) ≠ [])))])) ?_
    refine R_ext (v := (V.sl (List.map cI (least (fdl (bhd o.tr ((nth (l) (k)))) (bhd o.tr ((nth (lowL (fdP o) (l.take k)) (0 + (j)))))))))) (@rfl V (V.tup [(V.sl (List.map cI (least (fdl (bhd o.tr ((nth (l) (k)))) (bhd o.tr ((nth (lowL (fdP o) (l.take k)) (0 + (j))))))))), (V.bool (decide (fdl (bhd o.tr ((nth (l) (k)))) (bhd o.tr ((nth (lowL (fdP o) (l.take k)) (0 + (j))))) ≠ [])))])) rfl ?_
    refine R_ext (v := (V.bool (decide (fdl (bhd o.tr ((nth (l) (k)))) (bhd o.tr ((nth (lowL (fdP o) (l.take k)) (0 + (j))))) ≠ [])))) (@rfl V (V.tup [(V.sl (List.map cI (least (fdl (bhd o.tr ((nth (l) (k)))) (bhd o.tr ((nth (lowL (fdP o) (l.take k)) (0 + (j))))))))), (V.bool (decide (fdl (bhd o.tr ((nth (l) (k)))) (bhd o.tr ((nth (lowL (fdP o) (l.take k)) (0 + (j))))) ≠ [])))])) rfl ?_
    refine R_mv (@rfl V (V.sl (List.map cI (least (fdl (bhd o.tr ((nth (l) (k)))) (bhd o.tr ((nth (lowL (fdP o) (l.take k)) (0 + (j)))))))))) ?_
    refine R_mv (@rfl V (V.bool (decide (fdl (bhd o.tr ((nth (l) (k)))) (bhd o.tr ((nth (lowL (fdP o) (l.take k)) (0 + (j))))) ≠ [])))) ?_
    exact R_nil ⟨t2, t5, t7, t8, rfl, t13, t14, t15, t19, t20, t21, h2, h5, trivial⟩
   intro T H ⟨t2, t5, t7, t8, t12, t13, t14, t15, t19, t20, t21, h2, h5, _⟩
   refine W_regc (fun T H => T 2 = (V.mp 2 1 0 0) ∧ T 5 = (V.ms 5 (1 + (lowL (fdP o) (l.take k)).length) 0 ((lowL (fdP o) (l.take k)).length)) ∧ T 7 = (V.sl (List.map cI ((nth (l) (k))))) ∧ T 8 = (V.bool (((alB (fun j => (fdP o) (nth (lowL (fdP o) (l.take k)) j) (nth l k)) j) && decide (fdl (bhd o.tr ((nth (l) (k)))) (bhd o.tr ((nth (lowL (fdP o) (l.take k)) (0 + (j))))) ≠ [])))) ∧ T 13 = (V.sl (List.map cL (l))) ∧ T 14 = (iV ((l.length : Nat) : Int)) ∧ T 15 = (iV ((k : Nat) : Int)) ∧ T 19 = (V.ms 5 (1 + (lowL (fdP o) (l.take k)).length) 0 ((lowL (fdP o) (l.take k)).length)) ∧ T 20 = (iV (((lowL (fdP o) (l.take k)).length : Nat) : Int)) ∧ T 21 = (iV ((j : Nat) : Int)) ∧ H 2 = (⟨1, true, false, 34, 2, [[(iV (o.i)), (V.sl (List.map cT (o.tr)))]]⟩ : Blk) ∧ H 5 = (⟨1 + (lowL (fdP o) (l.take k)).length, true, true, 35, 1, (List.map cL (lowL (fdP o) (l.take k)))⟩ : Blk) ∧ True) ?_ ?_
   ·
    unfold r29_10
    refine R_mv t8 ?_
    refine R_mv (@rfl V (V.bool (alB (fun j => (fdP o) (nth (lowL (fdP o) (l.take k)) j) (nth l k)) j))) ?_
    refine Ops_seg 2 (fun T H => T 2 = (V.mp 2 1 0 0) ∧ T 5 = (V.ms 5 (1 + (lowL (fdP o) (l.take k)).length) 0 ((lowL (fdP o) (l.take k)).length)) ∧ T 7 = (V.sl (List.map cI ((nth (l) (k))))) ∧ T 8 = (V.bool (alB (fun j => (fdP o) (nth (lowL (fdP o) (l.take k)) j) (nth l k)) j)) ∧ T 13 = (V.sl (List.map cL (l))) ∧ T 14 = (iV ((l.length : Nat) : Int)) ∧ T 15 = (iV ((k : Nat) : Int)) ∧ T 19 = (V.ms 5 (1 + (lowL (fdP o) (l.take k)).length) 0 ((lowL (fdP o) (l.take k)).length)) ∧ T 20 = (iV (((lowL (fdP o) (l.take k)).length : Nat) : Int)) ∧ T 21 = (iV ((j : Nat) : Int)) ∧ T 35 = (V.bool (((alB (fun j => (fdP o) (nth (lowL (fdP o) (l.take k)) j) (nth l k)) j) && decide (fdl (bhd o.tr ((nth (l) (k)))) (bhd o.tr ((nth (lowL (fdP o) (l.take k)) (0 + (j))))) ≠ [])))) ∧ H 2 = (⟨1, true, false, 34, 2, [[(iV (o.i)), (V.sl (List.map cT (o.tr)))]]⟩ : Blk) ∧ H 5 = (⟨1 + (lowL (fdP o) (l.take k)).length, true, true, 35, 1, (List.map cL (lowL (fdP o) (l.take k)))⟩ : Blk) ∧ True) ?_ ?_
    ·
     by_cases g9 : (alB (fun j => (fdP o) (nth (lowL (fdP o) (l.take k)) j) (nth l k)) j) = true
     ·
      refine G_yes (Eq.trans (@rfl V (V.bool (alB (fun j => (fdP o) (nth (lowL (fdP o) (l.take k)) j) (nth l k)) j))) (bbT g9)) ?_
      refine R_mv t12 ?_
      refine R_pickT (Eq.trans (@rfl V (V.bool (alB (fun j => (fdP o) (nth (lowL (fdP o) (l.take k)) j) (nth l k)) j))) (bbT g9)) (@rfl V (V.bool (decide (fdl (bhd o.tr ((nth (l) (k)))) (bhd o.tr ((nth (lowL (fdP o) (l.take k)) (0 + (j))))) ≠ [])))) ?_
      exact ⟨t2, t5, t7, t8, t13, t14, t15, t19, t20, t21, (Eq.trans (@rfl V (V.bool (decide (fdl (bhd o.tr ((nth (l) (k)))) (bhd o.tr ((nth (lowL (fdP o) (l.take k)) (0 + (j))))) ≠ [])))) (bandT g9)), h2, h5, trivial⟩
     ·
      refine G_no (Eq.trans (@rfl V (V.bool (alB (fun j => (fdP o) (nth (lowL (fdP o) (l.take k)) j) (nth l k)) j))) (bbF g9)) (by decide) ?_
      refine R_pickF (Eq.trans (@rfl V (V.bool (alB (fun j => (fdP o) (nth (lowL (fdP o) (l.take k)) j) (nth l k)) j))) (bbF g9)) (@rfl V (V.bool false)) ?_
      exact ⟨t2, t5, t7, t8, t13, t14, t15, t19, t20, t21, (Eq.trans (@rfl V (V.bool false)) (bandF g9)), h2, h5, trivial⟩
    intro T H ⟨t2, t5, t7, t8, t13, t14, t15, t19, t20, t21, t35, h2, h5, _⟩
    refine R_mv t35 ?_
    exact R_nil ⟨t2, t5, t7, rfl, t13, t14, t15, t19, t20, t21, h2, h5, trivial⟩
   intro T H ⟨t2, t5, t7, t8, t13, t14, t15, t19, t20, t21, h2, h5, _⟩
   refine n8 _ _ ?_
   refine .done ?_
   refine W_regc (fun T H => T 2 = (V.mp 2 1 0 0) ∧ T 5 = (V.ms 5 (1 + (lowL (fdP o) (l.take k)).length) 0 ((lowL (fdP o) (l.take k)).length)) ∧ T 7 = (V.sl (List.map cI ((nth (l) (k))))) ∧ T 8 = (V.bool (((alB (fun j => (fdP o) (nth (lowL (fdP o) (l.take k)) j) (nth l k)) j) && decide (fdl (bhd o.tr ((nth (l) (k)))) (bhd o.tr ((nth (lowL (fdP o) (l.take k)) (0 + (j))))) ≠ [])))) ∧ T 13 = (V.sl (List.map cL (l))) ∧ T 14 = (iV ((l.length : Nat) : Int)) ∧ T 15 = (iV ((k : Nat) : Int)) ∧ T 19 = (V.ms 5 (1 + (lowL (fdP o) (l.take k)).length) 0 ((lowL (fdP o) (l.take k)).length)) ∧ T 20 = (iV (((lowL (fdP o) (l.take k)).length : Nat) : Int)) ∧ T 21 = (iV ((j + 1 : Nat) : Int)) ∧ H 2 = (⟨1, true, false, 34, 2, [[(iV (o.i)), (V.sl (List.map cT (o.tr)))]]⟩ : Blk) ∧ H 5 = (⟨1 + (lowL (fdP o) (l.take k)).length, true, true, 35, 1, (List.map cL (lowL (fdP o) (l.take k)))⟩ : Blk) ∧ True) ?_ ?_
   ·
    unfold r29_11
    refine R_addN (m := j) (n := 1) t21 (@rfl V (iV ((1 : Nat) : Int))) (by omega) ?_
    refine R_mv (@rfl V (iV ((j + 1 : Nat) : Int))) ?_
    exact R_nil ⟨t2, t5, t7, t8, t13, t14, t15, t19, t20, rfl, h2, h5, trivial⟩
   intro T H ⟨t2, t5, t7, t8, t13, t14, t15, t19, t20, t21, h2, h5, _⟩
   refine p16 _ _ _ ?_ ⟨(j + 1), rfl, t2, t5, t7, (Eq.trans t8 (by first | rfl | (rw [Nat.zero_add]; rfl) | (simp only [alB, d1, Nat.zero_add]; simp; done) | (rw [g1, low1, if_pos d2, List.length_append]; rfl) | (rw [g1, low1, if_pos d2]; done) | (rw [g1, low1, if_neg (by simp [d2])]; done))), t13, t14, t15, t19, t20, (Eq.trans t21 (by first | rfl | (rw [Nat.zero_add]; rfl) | (simp only [alB, d1, Nat.zero_add]; simp; done) | (rw [g1, low1, if_pos d2, List.length_append]; rfl) | (rw [g1, low1, if_pos d2]; done) | (rw [g1, low1, if_neg (by simp [d2])]; done))), h2, h5, ?_⟩
   · omega
   · omega
  refine W_seq_exit ?_
  refine p36 _ _ _ ?_
  refine x5 _ _ ?_
  refine .done ?_
  refine W_seq_regc (fun T H => T 2 = (V.mp 2 1 0 0) ∧ T 5 = (V.ms 5 (1 + (lowL (fdP o) (l.take k)).length) 0 ((lowL (fdP o) (l.take k)).length)) ∧ T 7 = (V.sl (List.map cI ((nth (l) (k))))) ∧ T 13 = (V.sl (List.map cL (l))) ∧ T 14 = (iV ((l.length : Nat) : Int)) ∧ T 15 = (iV ((k : Nat) : Int)) ∧ T 37 = (V.bool (alB (fun j => (fdP o) (nth (lowL (fdP o) (l.take k)) j) (nth l k)) j)) ∧ H 2 = (⟨1, true, false, 34, 2, [[(iV (o.i)), (V.sl (List.map cT (o.tr)))]]⟩ : Blk) ∧ H 5 = (⟨1 + (lowL (fdP o) (l.take k)).length, true, true, 35, 1, (List.map cL (lowL (fdP o) (l.take k)))⟩ : Blk) ∧ True) ?_ ?_
  ·
   unfold r29_12
   refine R_mv t8 ?_
   exact R_nil ⟨t2, t5, t7, t13, t14, t15, rfl, h2, h5, trivial⟩
  intro T H ⟨t2, t5, t7, t13, t14, t15, t37, h2, h5, _⟩
  refine W_ifb t37 (fun c10 => ?_) (fun c10 => ?_)
  ·
   have e : j = (lowL (fdP o) (l.take k)).length := by omega
   subst e
   have d2 := c10
   refine W_regc (fun T H => T 2 = (V.mp 2 1 0 0) ∧ T 5 = (V.ms 5 ((1 + (lowL (fdP o) (l.take k)).length) + 1) 0 (((lowL (fdP o) (l.take k)).length) + 1)) ∧ T 13 = (V.sl (List.map cL (l))) ∧ T 14 = (iV ((l.length : Nat) : Int)) ∧ T 15 = (iV ((k : Nat) : Int)) ∧ H 2 = (⟨1, true, false, 34, 2, [[(iV (o.i)), (V.sl (List.map cT (o.tr)))]]⟩ : Blk) ∧ H 5 = (⟨(1 + (lowL (fdP o) (l.take k)).length) + 1, true, true, 35, 1, (List.map cL (lowL (fdP o) (l.take k) ++ [(nth (l) (k))]))⟩ : Blk) ∧ True) ?_ ?_
   ·
    unfold r29_13
    refine R_mv t5 ?_
    refine R_mv t7 ?_
    refine R_bslice (qs := [(0, (V.sl (List.map cI ((nth (l) (k))))))]) (rows := [[(V.sl (List.map cI ((nth (l) (k)))))]]) (mcons (congrArg (fun v => (0, v)) (@rfl V (V.sl (List.map cI ((nth (l) (k))))))) rfl) rfl ?_
    refine R_append1 (l := (lowL (fdP o) (l.take k))) (f := cL) (x := ((nth (l) (k)))) (@rfl V (V.ms 5 (1 + (lowL (fdP o) (l.take k)).length) 0 ((lowL (fdP o) (l.take k)).length))) h5 (by first | rfl | simp | omega) (@rfl V (V.sl [[(V.sl (List.map cI ((nth (l) (k)))))]])) rfl rfl (by omega) (by omega) ?_
    refine R_mv (@rfl V (V.ms 5 ((1 + (lowL (fdP o) (l.take k)).length) + 1) 0 (((lowL (fdP o) (l.take k)).length) + 1))) ?_
    exact R_nil ⟨t2, rfl, t13, t14, t15, h2, rfl, trivial⟩
   intro T H ⟨t2, t5, t13, t14, t15, h2, h5, _⟩
   refine n4 _ _ ?_
   refine .done ?_
   refine W_regc (fun T H => T 2 = (V.mp 2 1 0 0) ∧ T 5 = (V.ms 5 ((1 + (lowL (fdP o) (l.take k)).length) + 1) 0 (((lowL (fdP o) (l.take k)).length) + 1)) ∧ T 13 = (V.sl (List.map cL (l))) ∧ T 14 = (iV ((l.length : Nat) : Int)) ∧ T 15 = (iV ((k + 1 : Nat) : Int)) ∧ H 2 = (⟨1, true, false, 34, 2, [[(iV (o.i)), (V.sl (List.map cT (o.tr)))]]⟩ : Blk) ∧ H 5 = (⟨(1 + (lowL (fdP o) (l.take k)).length) + 1, true, true, 35, 1, (List.map cL (lowL (fdP o) (l.take k) ++ [(nth (l) (k))]))⟩ : Blk) ∧ True) ?_ ?_
   ·
    unfold r29_14
    refine R_addN (m := k) (n := 1) t15 (@rfl V (iV ((1 : Nat) : Int))) (by omega) ?_
    refine R_mv (@rfl V (iV ((k + 1 : Nat) : Int))) ?_
    exact R_nil ⟨t2, t5, t13, t14, rfl, h2, h5, trivial⟩
   intro T H ⟨t2, t5, t13, t14, t15, h2, h5, _⟩
   refine p12 _ _ _ ?_ ⟨(k + 1), rfl, t2, (Eq.trans t5 (by first | rfl | (rw [Nat.zero_add]; rfl) | (simp only [alB, d1, Nat.zero_add]; simp; done) | (rw [g1, low1, if_pos d2, List.length_append]; rfl) | (rw [g1, low1, if_pos d2]; done) | (rw [g1, low1, if_neg (by simp [d2])]; done))), t13, t14, (Eq.trans t15 (by first | rfl | (rw [Nat.zero_add]; rfl) | (simp only [alB, d1, Nat.zero_add]; simp; done) | (rw [g1, low1, if_pos d2, List.length_append]; rfl) | (rw [g1, low1, if_pos d2]; done) | (rw [g1, low1, if_neg (by simp [d2])]; done))), h2, (Eq.trans h5 (by first | rfl | (rw [Nat.zero_add]; rfl) | (simp only [alB, d1, Nat.zero_add]; simp; done) | (rw [g1, low1, if_pos d2, List.length_append]; rfl) | (rw [g1, low1, if_pos d2]; done) | (rw [g1, low1, if_neg (by simp [d2])]; done))), ?_⟩
   · omega
   · omega
  have e : j = (lowL (fdP o) (l.take k)).length := by omega
  subst e
  have d2 := c10
  refine W_skip ?_
  refine n4 _ _ ?_
  refine .done ?_
  refine W_regc (fun T H => T 2 = (V.mp 2 1 0 0) ∧ T 5 = (V.ms 5 (1 + (lowL (fdP o) (l.take k)).length) 0 ((lowL (fdP o) (l.take k)).length)) ∧ T 13 = (V.sl (List.map cL (l))) ∧ T 14 = (iV ((l.length : Nat) : Int)) ∧ T 15 = (iV ((k + 1 : Nat) : Int)) ∧ H 2 = (⟨1, true, false, 34, 2, [[(iV (o.i)), (V.sl (List.map cT (o.tr)))]]⟩ : Blk) ∧ H 5 = (⟨1 + (lowL (fdP o) (l.take k)).length, true, true, 35, 1, (List.map cL (lowL (fdP o) (l.take k)))⟩ : Blk) ∧ True) ?_ ?_
  ·
   unfold r29_14
   refine R_addN (m := k) (n := 1) t15 (@rfl V (iV ((1 : Nat) : Int))) (by omega) ?_
   refine R_mv (@rfl V (iV ((k + 1 : Nat) : Int))) ?_
   exact R_nil ⟨t2, t5, t13, t14, rfl, h2, h5, trivial⟩
  intro T H ⟨t2, t5, t13, t14, t15, h2, h5, _⟩
  refine p12 _ _ _ ?_ ⟨(k + 1), rfl, t2, (Eq.trans t5 (by first | rfl | (rw [Nat.zero_add]; rfl) | (simp only [alB, d1, Nat.zero_add]; simp; done) | (rw [g1, low1, if_pos d2, List.length_append]; rfl) | (rw [g1, low1, if_pos d2]; done) | (rw [g1, low1, if_neg (by simp [d2])]; done))), t13, t14, (Eq.trans t15 (by first | rfl | (rw [Nat.zero_add]; rfl) | (simp only [alB, d1, Nat.zero_add]; simp; done) | (rw [g1, low1, if_pos d2, List.length_append]; rfl) | (rw [g1, low1, if_pos d2]; done) | (rw [g1, low1, if_neg (by simp [d2])]; done))), h2, (Eq.trans h5 (by first | rfl | (rw [Nat.zero_add]; rfl) | (simp only [alB, d1, Nat.zero_add]; simp; done) | (rw [g1, low1, if_pos d2, List.length_append]; rfl) | (rw [g1, low1, if_pos d2]; done) | (rw [g1, low1, if_neg (by simp [d2])]; done))), ?_⟩
  · omega
  · omega
 refine W_seq_exit ?_
 refine p32 _ _ _ ?_
 refine x1 _ _ ?_
 refine .done ?_
 refine W_seq_regc (fun T H => T 4 = (iV (((lowL (fdP o) (l.take k)).length : Nat) : Int)) ∧ H 2 = (⟨1, true, false, 34, 2, [[(iV (o.i)), (V.sl (List.map cT (o.tr)))]]⟩ : Blk) ∧ H 5 = (⟨1 + (lowL (fdP o) (l.take k)).length, true, true, 35, 1, (List.map cL (lowL (fdP o) (l.take k)))⟩ : Blk) ∧ True) ?_ ?_
 ·
  unfold r29_15
  refine R_mv t5 ?_
  refine R_len_ms (@rfl V (V.ms 5 (1 + (lowL (fdP o) (l.take k)).length) 0 ((lowL (fdP o) (l.take k)).length))) h5 (by first | rfl | simp) ?_
  refine R_mv (@rfl V (iV (((lowL (fdP o) (l.take k)).length : Nat) : Int))) ?_
  exact R_nil ⟨rfl, h2, h5, trivial⟩
 intro T H ⟨t4, h2, h5, _⟩
 refine W_ret ?_
 refine Ret_1 t4 (fz_int ?_)
 · (have e : k = l.length := (by omega)); subst e; rw [List.take_length]
end Go.Proofs.Ytngkckefanbhgaa

namespace Go.Proofs.Ytngkckefanbhgaa
open Go Go.Proofs
def r31_0 : List SO := [
  ⟨none, some 1, .box 24 4 (.t 0)⟩,
  ⟨none, some 2, .mv (.c (.bool false))⟩]
def r31_1 : List SO := [
  ⟨none, some 3, .fld 2 (.t 1)⟩,
  ⟨none, some 4, .load false 1 (.t 3)⟩,
  ⟨none, some 5, .len (.t 4)⟩,
  ⟨none, some 6, .bin .gtr (.t 5) (.c (.int .i64 40))⟩,
  ⟨none, some 7, .mv (.t 6)⟩,
  ⟨some (7, false), some 8, .fld 3 (.t 1)⟩,
  ⟨some (7, false), some 9, .load false 1 (.t 8)⟩,
  ⟨some (7, false), some 10, .len (.t 9)⟩,
  ⟨some (7, false), some 11, .bin .gtr (.t 10) (.c (.int .i64 40))⟩,
  ⟨none, some 12, .pick (.t 7) (.c (.bool true)) (.t 11)⟩,
  ⟨none, some 13, .mv (.t 12)⟩,
  ⟨some (13, false), some 14, .fld 0 (.t 1)⟩,
  ⟨some (13, false), some 15, .load false 1 (.t 14)⟩,
  ⟨some (13, false), some 16, .bin .gtr (.t 15) (.c (.int .i64 20))⟩,
  ⟨none, some 17, .pick (.t 13) (.c (.bool true)) (.t 16)⟩,
  ⟨none, some 2, .mv (.t 17)⟩]
def s31 : SF := ⟨18, [.tmp 2], .seq (.reg r31_0) (.seq (.reg r31_1) (.ret))⟩
theorem s31_ok : slimF Try.prog ⟨[94, 102, 103, 108, 109, 116, 119, 121, 125], []⟩ Try.f31 = some s31 := by kernel_rfl
end Go.Proofs.Ytngkckefanbhgaa

namespace Go.Proofs.Ytngkckefanbhgaa
open Go Go.Proofs
theorem great6_pure (m : M) : PureC Try.prog 31 [(V.agg [(iV (m.i)), (iV (m.s)), (V.sl (List.map cL (m.nx))), (V.sl (List.map cL (m.ot)))])] (V.bool (decide (40 < m.nx.length ∨ 40 < m.ot.length ∨ 20 < m.i))) := by
 refine pure_of_Wb true 6 Try.func31 s31_ok (by kernel_rfl) (by simp [s31]) (by simp) (by simp) fun hB => ?_
 simp only [bnd_map, bnd_int, bnd_bool, bnd_str, bnd_agg, bnd_pp, bnd_nil, bnd_cons, implies_true, and_true, true_and] at hB
 unfold s31
 dsimp only
 refine W_seq_regc (fun T H => T 1 = (V.mp 1 1 0 0) ∧ H 1 = (⟨1, true, false, 24, 4, [[(iV (m.i)), (iV (m.s)), (V.sl (List.map cL (m.nx))), (V.sl (List.map cL (m.ot)))]]⟩ : Blk) ∧ True) ?_ ?_
 ·
  unfold r31_0
  refine R_box (i := 1) (n := 0) (m := 4) (cs := [(iV (m.i)), (iV (m.s)), (V.sl (List.map cL (m.nx))), (V.sl (List.map cL (m.ot)))]) rfl (congrArg Blk.ver rfl) (@rfl V (V.agg [(iV (m.i)), (iV (m.s)), (V.sl (List.map cL (m.nx))), (V.sl (List.map cL (m.ot)))])) rfl rfl ?_
  refine R_mv (@rfl V (V.bool false)) ?_
  exact R_nil ⟨rfl, rfl, trivial⟩
 intro T H ⟨t1, h1, _⟩
 refine W_seq_regc (fun T H => T 2 = (V.bool (decide ((((40 : Int) < ((m.nx.length : Nat) : Int)) ∨ ((40 : Int) < ((m.ot.length : Nat) : Int))) ∨ ((20 : Int) < (m.i))))) ∧ H 1 = (⟨1, true, false, 24, 4, [[(iV (m.i)), (iV (m.s)), (V.sl (List.map cL (m.nx))), (V.sl (List.map cL (m.ot)))]]⟩ : Blk) ∧ True) ?_ ?_
 ·
  unfold r31_1
  refine R_fld_mp (o' := 2) t1 h1 (by first | rfl | simp [okB, Blk.own]) rfl ?_
  refine R_load_mp (v := (V.sl (List.map cL (m.nx)))) (@rfl V (V.mp 1 1 0 2)) h1 (by first | rfl | simp [ldB, ldV, Blk.own, V.one]) ?_
  refine R_len (@rfl V (V.sl (List.map cL (m.nx)))) ?_
  refine R_gtr (x := ((m.nx.length : Nat) : Int)) (y := (40 : Int)) (@rfl V (iV ((m.nx.length : Nat) : Int))) (@rfl V (iV (40 : Int))) ?_
  refine R_mv (@rfl V (V.bool (decide ((40 : Int) < ((m.nx.length : Nat) : Int))))) ?_
  refine Ops_seg 5 (fun T H => T 1 = (V.mp 1 1 0 0) ∧ T 12 = (V.bool (decide (((40 : Int) < ((m.nx.length : Nat) : Int)) ∨ ((40 : Int) < ((m.ot.length : Nat) : Int))))) ∧ H 1 = (⟨1, true, false, 24, 4, [[(iV (m.i)), (iV (m.s)), (V.sl (List.map cL (m.nx))), (V.sl (List.map cL (m.ot)))]]⟩ : Blk) ∧ True) ?_ ?_
  ·
   by_cases g1 : (40 : Int) < ((m.nx.length : Nat) : Int)
   ·
    refine G_no (Eq.trans (@rfl V (V.bool (decide ((40 : Int) < ((m.nx.length : Nat) : Int))))) (bdT g1)) (by decide) ?_
    refine G_no (Eq.trans (@rfl V (V.bool (decide ((40 : Int) < ((m.nx.length : Nat) : Int))))) (bdT g1)) (by decide) ?_
    refine G_no (Eq.trans (@rfl V (V.bool (decide ((40 : Int) < ((m.nx.length : Nat) : Int))))) (bdT g1)) (by decide) ?_
    refine G_no (Eq.trans (@rfl V (V.bool (decide ((40 : Int) < ((m.nx.length : Nat) : Int))))) (bdT g1)) (by decide) ?_
    refine R_pickT (Eq.trans (@rfl V (V.bool (decide ((40 : Int) < ((m.nx.length : Nat) : Int))))) (bdT g1)) (@rfl V (V.bool true)) ?_
    exact ⟨t1, (Eq.trans (@rfl V (V.bool true)) (dec_orT g1)), h1, trivial⟩
   ·
    refine G_yes (Eq.trans (@rfl V (V.bool (decide ((40 : Int) < ((m.nx.length : Nat) : Int))))) (bdF g1)) ?_
    refine R_fld_mp (o' := 3) t1 h1 (by first | rfl | simp [okB, Blk.own]) rfl ?_
    refine G_yes (Eq.trans (@rfl V (V.bool (decide ((40 : Int) < ((m.nx.length : Nat) : Int))))) (bdF g1)) ?_
    refine R_load_mp (v := (V.sl (List.map cL (m.ot)))) (@rfl V (V.mp 1 1 0 3)) h1 (by first | rfl | simp [ldB, ldV, Blk.own, V.one]) ?_
    refine G_yes (Eq.trans (@rfl V (V.bool (decide ((40 : Int) < ((m.nx.length : Nat) : Int))))) (bdF g1)) ?_
    refine R_len (@rfl V (V.sl (List.map cL (m.ot)))) ?_
    refine G_yes (Eq.trans (@rfl V (V.bool (decide ((40 : Int) < ((m.nx.length : Nat) : Int))))) (bdF g1)) ?_
    refine R_gtr (x := ((m.ot.length : Nat) : Int)) (y := (40 : Int)) (@rfl V (iV ((m.ot.length : Nat) : Int))) (@rfl V (iV (40 : Int))) ?_
    refine R_pickF (Eq.trans (@rfl V (V.bool (decide ((40 : Int) < ((m.nx.length : Nat) : Int))))) (bdF g1)) (@rfl V (V.bool (decide ((40 : Int) < ((m.ot.length : Nat) : Int))))) ?_
    exact ⟨t1, (Eq.trans (@rfl V (V.bool (decide ((40 : Int) < ((m.ot.length : Nat) : Int))))) (dec_orF g1)), h1, trivial⟩
  intro T H ⟨t1, t12, h1, _⟩
  refine R_mv t12 ?_
  refine Ops_seg 4 (fun T H => T 17 = (V.bool (decide ((((40 : Int) < ((m.nx.length : Nat) : Int)) ∨ ((40 : Int) < ((m.ot.length : Nat) : Int))) ∨ ((20 : Int) < (m.i))))) ∧ H 1 = (⟨1, true, false, 24, 4, [[(iV (m.i)), (iV (m.s)), (V.sl (List.map cL (m.nx))), (V.sl (List.map cL (m.ot)))]]⟩ : Blk) ∧ True) ?_ ?_
  ·
   by_cases g2 : ((40 : Int) < ((m.nx.length : Nat) : Int)) ∨ ((40 : Int) < ((m.ot.length : Nat) : Int))
   ·
    refine G_no (Eq.trans (@rfl V (V.bool (decide (((40 : Int) < ((m.nx.length : Nat) : Int)) ∨ ((40 : Int) < ((m.ot.length : Nat) : Int)))))) (bdT g2)) (by decide) ?_
    refine G_no (Eq.trans (@rfl V (V.bool (decide (((40 : Int) < ((m.nx.length : Nat) : Int)) ∨ ((40 : Int) < ((m.ot.length : Nat) : Int)))))) (bdT g2)) (by decide) ?_
    refine G_no (Eq.trans (@rfl V (V.bool (decide (((40 : Int) < ((m.nx.length : Nat) : Int)) ∨ ((40 : Int) < ((m.ot.length : Nat) : Int)))))) (bdT g2)) (by decide) ?_
    refine R_pickT (Eq.trans (@rfl V (V.bool (decide (((40 : Int) < ((m.nx.length : Nat) : Int)) ∨ ((40 : Int) < ((m.ot.length : Nat) : Int)))))) (bdT g2)) (@rfl V (V.bool true)) ?_
    exact ⟨(Eq.trans (@rfl V (V.bool true)) (dec_orT g2)), h1, trivial⟩
   ·
    refine G_yes (Eq.trans (@rfl V (V.bool (decide (((40 : Int) < ((m.nx.length : Nat) : Int)) ∨ ((40 : Int) < ((m.ot.length : Nat) : Int)))))) (bdF g2)) ?_
    refine R_fld_mp (o' := 0) t1 h1 (by first | rfl | simp [okB, Blk.own]) rfl ?_
    refine G_yes (Eq.trans (@rfl V (V.bool (decide (((40 : Int) < ((m.nx.length : Nat) : Int)) ∨ ((40 : Int) < ((m.ot.length : Nat) : Int)))))) (bdF g2)) ?_
    refine R_load_mp (v := (iV (m.i))) (@rfl V (V.mp 1 1 0 0)) h1 (by first | rfl | simp [ldB, ldV, Blk.own, V.one]) ?_
    refine G_yes (Eq.trans (@rfl V (V.bool (decide (((40 : Int) < ((m.nx.length : Nat) : Int)) ∨ ((40 : Int) < ((m.ot.length : Nat) : Int)))))) (bdF g2)) ?_
    refine R_gtr (x := (m.i)) (y := (20 : Int)) (@rfl V (iV (m.i))) (@rfl V (iV (20 : Int))) ?_
    refine R_pickF (Eq.trans (@rfl V (V.bool (decide (((40 : Int) < ((m.nx.length : Nat) : Int)) ∨ ((40 : Int) < ((m.ot.length : Nat) : Int)))))) (bdF g2)) (@rfl V (V.bool (decide ((20 : Int) < (m.i))))) ?_
    exact ⟨(Eq.trans (@rfl V (V.bool (decide ((20 : Int) < (m.i))))) (dec_orF g2)), h1, trivial⟩
  intro T H ⟨t17, h1, _⟩
  refine R_mv t17 ?_
  exact R_nil ⟨rfl, h1, trivial⟩
 intro T H ⟨t2, h1, _⟩
 refine W_ret ?_
 refine Ret_1 t2 (fz_bool ?_)
 · exact decide_eq_decide.2 (by omega)
end Go.Proofs.Ytngkckefanbhgaa

namespace Go.Proofs.Ytngkckefanbhgaa
open Go Go.Proofs
def r32_0 : List SO := [
  ⟨none, some 2, .box 24 4 (.t 0)⟩,
  ⟨none, some 4, .alloc 34 [.int .i64 0, .nilsl]⟩,
  ⟨none, some 5, .mv (.c (.int .i64 0))⟩]
def r32_1 : List SO := [
  ⟨none, some 10, .load true 4 (.t 2)⟩,
  ⟨none, some 11, .mv (.t 1)⟩,
  ⟨none, some 12, .call false 72 [.t 10, .t 11]⟩,
  ⟨none, some 9, .mv (.t 12)⟩,
  ⟨none, some 13, .ext (.t 9) 0⟩,
  ⟨none, some 14, .ext (.t 9) 1⟩,
  ⟨none, some 6, .mv (.t 13)⟩,
  ⟨none, some 7, .mv (.t 14)⟩]
def r32_2 : List SO := [
  ⟨none, some 15, .mv (.t 7)⟩,
  ⟨none, some 16, .bin .neq (.t 15) (.c (.int .i64 0))⟩]
def r32_3 : List SO := [
  ⟨none, some 17, .build [.int .i64 0, .nilsl] []⟩,
  ⟨none, some 18, .mv (.t 7)⟩,
  ⟨none, none, .store 2 (.t 4) (.t 17)⟩,
  ⟨none, some 5, .mv (.t 18)⟩]
def r32_4 : List SO := [
  ⟨none, some 20, .fld 0 (.t 2)⟩,
  ⟨none, some 21, .load false 1 (.t 20)⟩,
  ⟨none, some 22, .build [.int .i64 0, .nilsl] [(0, 1, .t 21)]⟩,
  ⟨none, some 23, .mv (.t 6)⟩,
  ⟨none, some 24, .call false 73 [.t 22, .t 23]⟩,
  ⟨none, some 19, .mv (.t 24)⟩,
  ⟨none, some 25, .ext (.t 19) 0⟩,
  ⟨none, some 26, .ext (.t 19) 1⟩,
  ⟨none, some 8, .alloc 34 [.int .i64 0, .nilsl]⟩,
  ⟨none, none, .store 2 (.t 8) (.t 25)⟩,
  ⟨none, some 7, .mv (.t 26)⟩]
def r32_5 : List SO := [
  ⟨none, some 27, .mv (.t 7)⟩,
  ⟨none, some 28, .bin .neq (.t 27) (.c (.int .i64 0))⟩]
def r32_6 : List SO := [
  ⟨none, some 29, .build [.int .i64 0, .nilsl] []⟩,
  ⟨none, some 30, .mv (.t 7)⟩,
  ⟨none, none, .store 2 (.t 4) (.t 29)⟩,
  ⟨none, some 5, .mv (.t 30)⟩]
def r32_7 : List SO := [
  ⟨none, some 31, .load true 2 (.t 8)⟩,
  ⟨none, none, .store 2 (.t 4) (.t 31)⟩,
  ⟨none, some 5, .mv (.c (.int .i64 0))⟩]
def s32 : SF := ⟨32, [.cell 4 true 2, .tmp 5], .seq (.reg r32_0) (.seq (.reg r32_1) (.seq (.seq (.reg r32_2) (.cond (.t 16) (.seq (.reg r32_3) (.ret)) (.skip))) (.seq (.reg r32_4) (.seq (.seq (.reg r32_5) (.cond (.t 28) (.seq (.reg r32_6) (.ret)) (.skip))) (.seq (.reg r32_7) (.ret))))))⟩
theorem s32_ok : slimF Try.prog ⟨[94, 102, 103, 108, 109, 116, 119, 121, 125], []⟩ Try.f32 = some s32 := by kernel_rfl
end Go.Proofs.Ytngkckefanbhgaa

namespace Go.Proofs.Ytngkckefanbhgaa
open Go Go.Proofs
def r72_0 : List SO := [
  ⟨none, some 2, .box 24 4 (.t 0)⟩,
  ⟨none, some 4, .mv (.c (.nilsl))⟩,
  ⟨none, some 5, .mv (.c (.int .i64 0))⟩]
def r72_1 : List SO := [
  ⟨none, some 12, .load true 4 (.t 2)⟩,
  ⟨none, some 13, .call false 55 [.t 12]⟩,
  ⟨none, some 6, .mv (.t 13)⟩]
def r72_2 : List SO := [
  ⟨none, some 14, .mv (.t 6)⟩,
  ⟨none, some 15, .bin .neq (.t 14) (.c (.int .i64 0))⟩]
def r72_3 : List SO := [
  ⟨none, some 16, .mv (.t 6)⟩,
  ⟨none, some 4, .mv (.c (.nilsl))⟩,
  ⟨none, some 5, .mv (.t 16)⟩]
def r72_4 : List SO := [
  ⟨none, some 17, .mv (.t 1)⟩,
  ⟨none, some 18, .len (.t 17)⟩,
  ⟨none, some 19, .bin .gtr (.t 18) (.c (.int .i64 10000))⟩]
def r72_5 : List SO := [
  ⟨none, some 4, .mv (.c (.nilsl))⟩,
  ⟨none, some 5, .mv (.c (.int .i64 11))⟩]
def r72_6 : List SO := [
  ⟨none, some 7, .lazy 63 2⟩]
def r72_7 : List SO := [
  ⟨none, some 20, .mv (.t 1)⟩,
  ⟨none, some 21, .len (.t 20)⟩,
  ⟨none, some 22, .mv (.c (.int .i64 0))⟩]
def r72_8 : List SO := [
  ⟨none, some 23, .bin .lss (.t 22) (.t 21)⟩]
def r72_9 : List SO := [
  ⟨none, some 24, .idx 1 (.t 20) (.t 22)⟩,
  ⟨none, some 25, .load false 1 (.t 24)⟩,
  ⟨none, some 9, .mv (.t 25)⟩]
def r72_10 : List SO := [
  ⟨none, some 26, .mv (.t 9)⟩,
  ⟨none, some 27, .fld 0 (.t 2)⟩,
  ⟨none, some 28, .load false 1 (.t 27)⟩,
  ⟨none, some 29, .call false 77 [.t 26, .t 28]⟩,
  ⟨none, some 10, .mv (.t 29)⟩]
def r72_11 : List SO := [
  ⟨none, some 30, .mv (.t 10)⟩,
  ⟨none, some 31, .bin .neq (.t 30) (.c (.int .i64 0))⟩]
def r72_12 : List SO := [
  ⟨none, some 32, .mv (.t 10)⟩,
  ⟨none, some 4, .mv (.c (.nilsl))⟩,
  ⟨none, some 5, .mv (.t 32)⟩]
def r72_13 : List SO := [
  ⟨none, some 33, .load true 4 (.t 2)⟩,
  ⟨none, some 34, .build [.int .i64 0, .int .i64 0, .nilsl, .nilsl] [(0, 4, .t 33)]⟩,
  ⟨none, some 35, .fld 1 (.t 2)⟩,
  ⟨none, some 36, .load false 1 (.t 35)⟩,
  ⟨none, some 37, .build [.int .i64 0, .int .i64 0, .nilsl, .nilsl, .int .i64 0] [(0, 4, .t 34), (4, 1, .t 36)]⟩,
  ⟨none, some 38, .box 122 5 (.t 37)⟩,
  ⟨none, some 11, .mv (.t 38)⟩]
def r72_14 : List SO := [
  ⟨none, some 39, .mv (.t 7)⟩,
  ⟨none, some 40, .mv (.t 9)⟩,
  ⟨none, some 41, .call false 63 [.t 40]⟩,
  ⟨none, some 42, .mv (.t 11)⟩,
  ⟨none, some 43, .mv (.t 9)⟩,
  ⟨none, some 44, .call true 94 [.t 42, .t 43]⟩,
  ⟨none, some 45, .build [.nilsl, .nilsl] [(0, 1, .t 41), (1, 1, .t 44)]⟩,
  ⟨none, some 46, .bslice 63 2 false [.nilsl, .nilsl] 1 [(0, .t 45)]⟩,
  ⟨none, some 47, .append 63 2 48 (.t 39) (.t 46)⟩,
  ⟨none, some 7, .mv (.t 47)⟩]
def r72_15 : List SO := [
  ⟨none, some 48, .bin .add (.t 22) (.c (.int .i64 1))⟩,
  ⟨none, some 22, .mv (.t 48)⟩]
def b72_0 : SC := .seq (.reg r72_8) (.seq (.cond (.t 23) (.skip) (.exit 0)) (.seq (.block 1 (.seq (.reg r72_9) (.seq (.seq (.reg r72_10) (.seq (.reg r72_11) (.cond (.t 31) (.seq (.reg r72_12) (.ret)) (.skip)))) (.seq (.reg r72_13) (.reg r72_14))))) (.reg r72_15)))
def r72_16 : List SO := [
  ⟨none, some 49, .mv (.t 7)⟩,
  ⟨none, some 4, .mv (.t 49)⟩,
  ⟨none, some 5, .mv (.c (.int .i64 0))⟩]
def s72 : SF := ⟨50, [.tmp 4, .tmp 5], .seq (.reg r72_0) (.seq (.seq (.reg r72_1) (.seq (.reg r72_2) (.cond (.t 15) (.seq (.reg r72_3) (.ret)) (.skip)))) (.seq (.seq (.reg r72_4) (.cond (.t 19) (.seq (.reg r72_5) (.ret)) (.skip))) (.seq (.reg r72_6) (.seq (.seq (.reg r72_7) (.block 0 (.loop b72_0))) (.seq (.reg r72_16) (.ret))))))⟩
theorem s72_ok : slimF Try.prog ⟨[94, 102, 103, 108, 109, 116, 119, 121, 125], [7]⟩ Try.f72 = some s72 := by kernel_rfl
end Go.Proofs.Ytngkckefanbhgaa

namespace Go.Proofs.Ytngkckefanbhgaa
open Go Go.Proofs
theorem mvalid_pure (m : M) : PureC Try.prog 55 [(V.agg [(iV (m.i)), (iV (m.s)), (V.sl (List.map cL (m.nx))), (V.sl (List.map cL (m.ot)))])] (iV (mval m)) := by
 refine pure_of_Wb true 6 Try.func55 s55_ok (by kernel_rfl) (by simp [s55]) (by simp) (by simp) fun hB => ?_
 simp only [bnd_map, bnd_int, bnd_bool, bnd_str, bnd_agg, bnd_pp, bnd_nil, bnd_cons, implies_true, and_true, true_and] at hB
 unfold s55
 dsimp only
 refine W_seq_regc (fun T H => T 1 = (V.mp 1 1 0 0) ∧ H 1 = (⟨1, true, false, 24, 4, [[(iV (m.i)), (iV (m.s)), (V.sl (List.map cL (m.nx))), (V.sl (List.map cL (m.ot)))]]⟩ : Blk) ∧ True) ?_ ?_
 ·
  unfold r55_0
  refine R_box (i := 1) (n := 0) (m := 4) (cs := [(iV (m.i)), (iV (m.s)), (V.sl (List.map cL (m.nx))), (V.sl (List.map cL (m.ot)))]) rfl (congrArg Blk.ver rfl) (@rfl V (V.agg [(iV (m.i)), (iV (m.s)), (V.sl (List.map cL (m.nx))), (V.sl (List.map cL (m.ot)))])) rfl rfl ?_
  refine R_mv (@rfl V (iV (0 : Int))) ?_
  exact R_nil ⟨rfl, rfl, trivial⟩
 intro T H ⟨t1, h1, _⟩
 refine W_seq_regc (fun T H => T 1 = (V.mp 1 1 0 0) ∧ T 3 = (iV ((m.nx.length : Nat) : Int)) ∧ H 1 = (⟨1, true, false, 24, 4, [[(iV (m.i)), (iV (m.s)), (V.sl (List.map cL (m.nx))), (V.sl (List.map cL (m.ot)))]]⟩ : Blk) ∧ True) ?_ ?_
 ·
  unfold r55_1
  refine R_fld_mp (o' := 2) t1 h1 (by first | rfl | simp [okB, Blk.own]) rfl ?_
  refine R_load_mp (v := (V.sl (List.map cL (m.nx)))) (@rfl V (V.mp 1 1 0 2)) h1 (by first | rfl | simp [ldB, ldV, Blk.own, V.one]) ?_
  refine R_len (@rfl V (V.sl (List.map cL (m.nx)))) ?_
  refine R_mv (@rfl V (iV ((m.nx.length : Nat) : Int))) ?_
  exact R_nil ⟨t1, rfl, h1, trivial⟩
 intro T H ⟨t1, t3, h1, _⟩
 refine W_seq_blockg fun Q1 n1 x1 y1 z1 => ?_
 refine W_seq_regc (fun T H => T 1 = (V.mp 1 1 0 0) ∧ T 3 = (iV ((m.nx.length : Nat) : Int)) ∧ T 11 = (V.bool (decide (((m.i) < (1 : Int)) ∨ ((64 : Int) < (m.i))))) ∧ H 1 = (⟨1, true, false, 24, 4, [[(iV (m.i)), (iV (m.s)), (V.sl (List.map cL (m.nx))), (V.sl (List.map cL (m.ot)))]]⟩ : Blk) ∧ True) ?_ ?_
 ·
  unfold r55_2
  refine R_fld_mp (o' := 0) t1 h1 (by first | rfl | simp [okB, Blk.own]) rfl ?_
  refine R_load_mp (v := (iV (m.i))) (@rfl V (V.mp 1 1 0 0)) h1 (by first | rfl | simp [ldB, ldV, Blk.own, V.one]) ?_
  refine R_lss (x := (m.i)) (y := (1 : Int)) (@rfl V (iV (m.i))) (@rfl V (iV (1 : Int))) ?_
  refine R_mv (@rfl V (V.bool (decide ((m.i) < (1 : Int))))) ?_
  refine Ops_seg 4 (fun T H => T 1 = (V.mp 1 1 0 0) ∧ T 3 = (iV ((m.nx.length : Nat) : Int)) ∧ T 19 = (V.bool (decide (((m.i) < (1 : Int)) ∨ ((64 : Int) < (m.i))))) ∧ H 1 = (⟨1, true, false, 24, 4, [[(iV (m.i)), (iV (m.s)), (V.sl (List.map cL (m.nx))), (V.sl (List.map cL (m.ot)))]]⟩ : Blk) ∧ True) ?_ ?_
  ·
   by_cases g2 : (m.i) < (1 : Int)
   ·
    refine G_no (Eq.trans (@rfl V (V.bool (decide ((m.i) < (1 : Int))))) (bdT g2)) (by decide) ?_
    refine G_no (Eq.trans (@rfl V (V.bool (decide ((m.i) < (1 : Int))))) (bdT g2)) (by decide) ?_
    refine G_no (Eq.trans (@rfl V (V.bool (decide ((m.i) < (1 : Int))))) (bdT g2)) (by decide) ?_
    refine R_pickT (Eq.trans (@rfl V (V.bool (decide ((m.i) < (1 : Int))))) (bdT g2)) (@rfl V (V.bool true)) ?_
    exact ⟨t1, t3, (Eq.trans (@rfl V (V.bool true)) (dec_orT g2)), h1, trivial⟩
   ·
    refine G_yes (Eq.trans (@rfl V (V.bool (decide ((m.i) < (1 : Int))))) (bdF g2)) ?_
    refine R_fld_mp (o' := 0) t1 h1 (by first | rfl | simp [okB, Blk.own]) rfl ?_
    refine G_yes (Eq.trans (@rfl V (V.bool (decide ((m.i) < (1 : Int))))) (bdF g2)) ?_
    refine R_load_mp (v := (iV (m.i))) (@rfl V (V.mp 1 1 0 0)) h1 (by first | rfl | simp [ldB, ldV, Blk.own, V.one]) ?_
    refine G_yes (Eq.trans (@rfl V (V.bool (decide ((m.i) < (1 : Int))))) (bdF g2)) ?_
    refine R_gtr (x := (m.i)) (y := (64 : Int)) (@rfl V (iV (m.i))) (@rfl V (iV (64 : Int))) ?_
    refine R_pickF (Eq.trans (@rfl V (V.bool (decide ((m.i) < (1 : Int))))) (bdF g2)) (@rfl V (V.bool (decide ((64 : Int) < (m.i))))) ?_
    exact ⟨t1, t3, (Eq.trans (@rfl V (V.bool (decide ((64 : Int) < (m.i))))) (dec_orF g2)), h1, trivial⟩
  intro T H ⟨t1, t3, t19, h1, _⟩
  refine R_mv t19 ?_
  exact R_nil ⟨t1, t3, rfl, h1, trivial⟩
 intro T H ⟨t1, t3, t11, h1, _⟩
 refine W_if (p := ((m.i) < (1 : Int)) ∨ ((64 : Int) < (m.i))) t11 (fun c3 => ?_) (fun c3 => ?_)
 ·
  refine W_seq_regc (fun T H => T 2 = (iV (2 : Int)) ∧ H 1 = (⟨1, true, false, 24, 4, [[(iV (m.i)), (iV (m.s)), (V.sl (List.map cL (m.nx))), (V.sl (List.map cL (m.ot)))]]⟩ : Blk) ∧ True) ?_ ?_
  ·
   unfold r55_3
   refine R_mv (@rfl V (iV (2 : Int))) ?_
   exact R_nil ⟨rfl, h1, trivial⟩
  intro T H ⟨t2, h1, _⟩
  refine W_ret ?_
  refine y1 _ _ ?_
  refine Ret_1 t2 (fz_int ?_)
  · rw [mval, if_pos (by omega)]
 refine W_seq_regc (fun T H => T 1 = (V.mp 1 1 0 0) ∧ T 3 = (iV ((m.nx.length : Nat) : Int)) ∧ T 20 = (V.bool (decide (((m.nx.length : Nat) : Int) = (0 : Int)))) ∧ H 1 = (⟨1, true, false, 24, 4, [[(iV (m.i)), (iV (m.s)), (V.sl (List.map cL (m.nx))), (V.sl (List.map cL (m.ot)))]]⟩ : Blk) ∧ True) ?_ ?_
 ·
  unfold r55_4
  refine R_mv t3 ?_
  refine R_eql (x := ((m.nx.length : Nat) : Int)) (y := (0 : Int)) (@rfl V (iV ((m.nx.length : Nat) : Int))) (@rfl V (iV (0 : Int))) ?_
  refine R_mv (@rfl V (V.bool (decide (((m.nx.length : Nat) : Int) = (0 : Int))))) ?_
  exact R_nil ⟨t1, t3, rfl, h1, trivial⟩
 intro T H ⟨t1, t3, t20, h1, _⟩
 refine W_if (p := ((m.nx.length : Nat) : Int) = (0 : Int)) t20 (fun c4 => ?_) (fun c4 => ?_)
 ·
  refine W_seq_regc (fun T H => T 2 = (iV (19 : Int)) ∧ H 1 = (⟨1, true, false, 24, 4, [[(iV (m.i)), (iV (m.s)), (V.sl (List.map cL (m.nx))), (V.sl (List.map cL (m.ot)))]]⟩ : Blk) ∧ True) ?_ ?_
  ·
   unfold r55_5
   refine R_mv (@rfl V (iV (19 : Int))) ?_
   exact R_nil ⟨rfl, h1, trivial⟩
  intro T H ⟨t2, h1, _⟩
  refine W_ret ?_
  refine y1 _ _ ?_
  refine Ret_1 t2 (fz_int ?_)
  · rw [mval, if_neg (by omega), if_pos (by omega)]
 refine W_seq_regc (fun T H => T 1 = (V.mp 1 1 0 0) ∧ T 3 = (iV ((m.nx.length : Nat) : Int)) ∧ T 23 = (V.bool (decide ((128 : Int) < ((m.nx.length : Nat) : Int)))) ∧ H 1 = (⟨1, true, false, 24, 4, [[(iV (m.i)), (iV (m.s)), (V.sl (List.map cL (m.nx))), (V.sl (List.map cL (m.ot)))]]⟩ : Blk) ∧ True) ?_ ?_
 ·
  unfold r55_6
  refine R_mv t3 ?_
  refine R_gtr (x := ((m.nx.length : Nat) : Int)) (y := (128 : Int)) (@rfl V (iV ((m.nx.length : Nat) : Int))) (@rfl V (iV (128 : Int))) ?_
  refine R_mv (@rfl V (V.bool (decide ((128 : Int) < ((m.nx.length : Nat) : Int))))) ?_
  exact R_nil ⟨t1, t3, rfl, h1, trivial⟩
 intro T H ⟨t1, t3, t23, h1, _⟩
 refine W_if (p := (128 : Int) < ((m.nx.length : Nat) : Int)) t23 (fun c5 => ?_) (fun c5 => ?_)
 ·
  refine W_seq_regc (fun T H => T 2 = (iV (11 : Int)) ∧ H 1 = (⟨1, true, false, 24, 4, [[(iV (m.i)), (iV (m.s)), (V.sl (List.map cL (m.nx))), (V.sl (List.map cL (m.ot)))]]⟩ : Blk) ∧ True) ?_ ?_
  ·
   unfold r55_7
   refine R_mv (@rfl V (iV (11 : Int))) ?_
   exact R_nil ⟨rfl, h1, trivial⟩
  intro T H ⟨t2, h1, _⟩
  refine W_ret ?_
  refine y1 _ _ ?_
  refine Ret_1 t2 (fz_int ?_)
  · rw [mval, if_neg (by omega), if_neg (by omega), if_pos (by omega)]
 refine W_seq_regc (fun T H => T 1 = (V.mp 1 1 0 0) ∧ T 3 = (iV ((m.nx.length : Nat) : Int)) ∧ T 26 = (V.bool (decide (((m.s) < (0 : Int)) ∨ (((m.nx.length : Nat) : Int) ≤ (m.s))))) ∧ H 1 = (⟨1, true, false, 24, 4, [[(iV (m.i)), (iV (m.s)), (V.sl (List.map cL (m.nx))), (V.sl (List.map cL (m.ot)))]]⟩ : Blk) ∧ True) ?_ ?_
 ·
  unfold r55_8
  refine R_fld_mp (o' := 1) t1 h1 (by first | rfl | simp [okB, Blk.own]) rfl ?_
  refine R_load_mp (v := (iV (m.s))) (@rfl V (V.mp 1 1 0 1)) h1 (by first | rfl | simp [ldB, ldV, Blk.own, V.one]) ?_
  refine R_lss (x := (m.s)) (y := (0 : Int)) (@rfl V (iV (m.s))) (@rfl V (iV (0 : Int))) ?_
  refine R_mv (@rfl V (V.bool (decide ((m.s) < (0 : Int))))) ?_
  refine Ops_seg 5 (fun T H => T 1 = (V.mp 1 1 0 0) ∧ T 3 = (iV ((m.nx.length : Nat) : Int)) ∧ T 35 = (V.bool (decide (((m.s) < (0 : Int)) ∨ (((m.nx.length : Nat) : Int) ≤ (m.s))))) ∧ H 1 = (⟨1, true, false, 24, 4, [[(iV (m.i)), (iV (m.s)), (V.sl (List.map cL (m.nx))), (V.sl (List.map cL (m.ot)))]]⟩ : Blk) ∧ True) ?_ ?_
  ·
   by_cases g6 : (m.s) < (0 : Int)
   ·
    refine G_no (Eq.trans (@rfl V (V.bool (decide ((m.s) < (0 : Int))))) (bdT g6)) (by decide) ?_
    refine G_no (Eq.trans (@rfl V (V.bool (decide ((m.s) < (0 : Int))))) (bdT g6)) (by decide) ?_
    refine G_no (Eq.trans (@rfl V (V.bool (decide ((m.s) < (0 : Int))))) (bdT g6)) (by decide) ?_
    refine G_no (Eq.trans (@rfl V (V.bool (decide ((m.s) < (0 : Int))))) (bdT g6)) (by decide) ?_
    refine R_pickT (Eq.trans (@rfl V (V.bool (decide ((m.s) < (0 : Int))))) (bdT g6)) (@rfl V (V.bool true)) ?_
    exact ⟨t1, t3, (Eq.trans (@rfl V (V.bool true)) (dec_orT g6)), h1, trivial⟩
   ·
    refine G_yes (Eq.trans (@rfl V (V.bool (decide ((m.s) < (0 : Int))))) (bdF g6)) ?_
    refine R_fld_mp (o' := 1) t1 h1 (by first | rfl | simp [okB, Blk.own]) rfl ?_
    refine G_yes (Eq.trans (@rfl V (V.bool (decide ((m.s) < (0 : Int))))) (bdF g6)) ?_
    refine R_load_mp (v := (iV (m.s))) (@rfl V (V.mp 1 1 0 1)) h1 (by first | rfl | simp [ldB, ldV, Blk.own, V.one]) ?_
    refine G_yes (Eq.trans (@rfl V (V.bool (decide ((m.s) < (0 : Int))))) (bdF g6)) ?_
    refine R_mv t3 ?_
    refine G_yes (Eq.trans (@rfl V (V.bool (decide ((m.s) < (0 : Int))))) (bdF g6)) ?_
    refine R_geq (x := (m.s)) (y := ((m.nx.length : Nat) : Int)) (@rfl V (iV (m.s))) (@rfl V (iV ((m.nx.length : Nat) : Int))) ?_
    refine R_pickF (Eq.trans (@rfl V (V.bool (decide ((m.s) < (0 : Int))))) (bdF g6)) (@rfl V (V.bool (decide (((m.nx.length : Nat) : Int) ≤ (m.s))))) ?_
    exact ⟨t1, t3, (Eq.trans (@rfl V (V.bool (decide (((m.nx.length : Nat) : Int) ≤ (m.s))))) (dec_orF g6)), h1, trivial⟩
  intro T H ⟨t1, t3, t35, h1, _⟩
  refine R_mv t35 ?_
  exact R_nil ⟨t1, t3, rfl, h1, trivial⟩
 intro T H ⟨t1, t3, t26, h1, _⟩
 refine W_if (p := ((m.s) < (0 : Int)) ∨ (((m.nx.length : Nat) : Int) ≤ (m.s))) t26 (fun c7 => ?_) (fun c7 => ?_)
 ·
  refine W_seq_regc (fun T H => T 2 = (iV (2 : Int)) ∧ H 1 = (⟨1, true, false, 24, 4, [[(iV (m.i)), (iV (m.s)), (V.sl (List.map cL (m.nx))), (V.sl (List.map cL (m.ot)))]]⟩ : Blk) ∧ True) ?_ ?_
  ·
   unfold r55_9
   refine R_mv (@rfl V (iV (2 : Int))) ?_
   exact R_nil ⟨rfl, h1, trivial⟩
  intro T H ⟨t2, h1, _⟩
  refine W_ret ?_
  refine y1 _ _ ?_
  refine Ret_1 t2 (fz_int ?_)
  · rw [mval, if_neg (by omega), if_neg (by omega), if_neg (by omega), if_pos (by omega)]
 refine W_seq_regc (fun T H => T 1 = (V.mp 1 1 0 0) ∧ T 3 = (iV ((m.nx.length : Nat) : Int)) ∧ T 36 = (V.bool (decide (((m.ot.length : Nat) : Int) ≠ ((m.nx.length : Nat) : Int)))) ∧ H 1 = (⟨1, true, false, 24, 4, [[(iV (m.i)), (iV (m.s)), (V.sl (List.map cL (m.nx))), (V.sl (List.map cL (m.ot)))]]⟩ : Blk) ∧ True) ?_ ?_
 ·
  unfold r55_10
  refine R_fld_mp (o' := 3) t1 h1 (by first | rfl | simp [okB, Blk.own]) rfl ?_
  refine R_load_mp (v := (V.sl (List.map cL (m.ot)))) (@rfl V (V.mp 1 1 0 3)) h1 (by first | rfl | simp [ldB, ldV, Blk.own, V.one]) ?_
  refine R_len (@rfl V (V.sl (List.map cL (m.ot)))) ?_
  refine R_mv t3 ?_
  refine R_neq (x := ((m.ot.length : Nat) : Int)) (y := ((m.nx.length : Nat) : Int)) (@rfl V (iV ((m.ot.length : Nat) : Int))) (@rfl V (iV ((m.nx.length : Nat) : Int))) ?_
  refine R_mv (@rfl V (V.bool (decide (((m.ot.length : Nat) : Int) ≠ ((m.nx.length : Nat) : Int))))) ?_
  exact R_nil ⟨t1, t3, rfl, h1, trivial⟩
 intro T H ⟨t1, t3, t36, h1, _⟩
 refine W_if (p := ((m.ot.length : Nat) : Int) ≠ ((m.nx.length : Nat) : Int)) t36 (fun c8 => ?_) (fun c8 => ?_)
 ·
  refine W_seq_regc (fun T H => T 2 = (iV (1 : Int)) ∧ H 1 = (⟨1, true, false, 24, 4, [[(iV (m.i)), (iV (m.s)), (V.sl (List.map cL (m.nx))), (V.sl (List.map cL (m.ot)))]]⟩ : Blk) ∧ True) ?_ ?_
  ·
   unfold r55_11
   refine R_mv (@rfl V (iV (1 : Int))) ?_
   exact R_nil ⟨rfl, h1, trivial⟩
  intro T H ⟨t2, h1, _⟩
  refine W_ret ?_
  refine y1 _ _ ?_
  refine Ret_1 t2 (fz_int ?_)
  · rw [mval, if_neg (by omega), if_neg (by omega), if_neg (by omega), if_neg (by omega), if_pos (by omega)]
 refine W_skip ?_
 refine n1 _ _ ?_
 refine .done ?_
 refine W_seq_seq ?_
 refine W_seq_regc (fun T H => T 1 = (V.mp 1 1 0 0) ∧ T 3 = (iV ((m.nx.length : Nat) : Int)) ∧ T 42 = (iV ((m.nx.length : Nat) : Int)) ∧ T 43 = (iV (0 : Int)) ∧ H 1 = (⟨1, true, false, 24, 4, [[(iV (m.i)), (iV (m.s)), (V.sl (List.map cL (m.nx))), (V.sl (List.map cL (m.ot)))]]⟩ : Blk) ∧ True) ?_ ?_
 ·
  unfold r55_12
  refine R_mv t3 ?_
  refine R_mv (@rfl V (iV (0 : Int))) ?_
  exact R_nil ⟨t1, t3, rfl, rfl, h1, trivial⟩
 intro T H ⟨t1, t3, t42, t43, h1, _⟩
 refine W_seq_blockg fun Q9 n9 x9 y9 z9 => ?_
 refine W_loop (fun mm T H => ∃ (k : Nat), mm = m.nx.length - k ∧ T 1 = (V.mp 1 1 0 0) ∧ T 3 = (iV ((m.nx.length : Nat) : Int)) ∧ T 42 = (iV ((m.nx.length : Nat) : Int)) ∧ T 43 = (iV ((k : Nat) : Int)) ∧ H 1 = (⟨1, true, false, 24, 4, [[(iV (m.i)), (iV (m.s)), (V.sl (List.map cL (m.nx))), (V.sl (List.map cL (m.ot)))]]⟩ : Blk) ∧ (k ≤ m.nx.length) ∧ (1 ≤ m.i ∧ m.i ≤ 64 ∧ 0 < m.nx.length ∧ m.nx.length ≤ 128 ∧ m.ot.length = m.nx.length) ∧ (mval m = fe (rowE m) k (m.nx.length - k))) ?_ ?_
 ·
  refine ⟨_, 0, rfl, t1, t3, t42, (Eq.trans t43 (by first | rfl | simp)), h1, ?_, ?_, ?_⟩
  · omega
  · omega
  · rw [mval, if_neg (by omega), if_neg (by omega), if_neg (by omega), if_neg (by omega), if_neg (by omega)]; rfl
 intro mm T H ⟨k, hmm, t1, t3, t42, t43, h1, hk, hv, hc⟩ Q10 p110 p210 p310
 unfold b55_0
 refine W_seq_regc (fun T H => T 1 = (V.mp 1 1 0 0) ∧ T 3 = (iV ((m.nx.length : Nat) : Int)) ∧ T 42 = (iV ((m.nx.length : Nat) : Int)) ∧ T 43 = (iV ((k : Nat) : Int)) ∧ T 44 = (V.bool (decide (((k : Nat) : Int) < ((m.nx.length : Nat) : Int)))) ∧ H 1 = (⟨1, true, false, 24, 4, [[(iV (m.i)), (iV (m.s)), (V.sl (List.map cL (m.nx))), (V.sl (List.map cL (m.ot)))]]⟩ : Blk) ∧ True) ?_ ?_
 ·
  unfold r55_13
  refine R_lss (x := ((k : Nat) : Int)) (y := ((m.nx.length : Nat) : Int)) t43 t42 ?_
  exact R_nil ⟨t1, t3, t42, t43, rfl, h1, trivial⟩
 intro T H ⟨t1, t3, t42, t43, t44, h1, _⟩
 refine W_seq_if (p := ((k : Nat) : Int) < ((m.nx.length : Nat) : Int)) t44 (fun c11 => ?_) (fun c11 => ?_)
 ·
  refine W_seq_skip ?_
  refine W_seq_blockg fun Q12 n12 x12 y12 z12 => ?_
  refine W_seq_regc (fun T H => T 1 = (V.mp 1 1 0 0) ∧ T 3 = (iV ((m.nx.length : Nat) : Int)) ∧ T 4 = (iV ((k : Nat) : Int)) ∧ T 42 = (iV ((m.nx.length : Nat) : Int)) ∧ T 43 = (iV ((k : Nat) : Int)) ∧ H 1 = (⟨1, true, false, 24, 4, [[(iV (m.i)), (iV (m.s)), (V.sl (List.map cL (m.nx))), (V.sl (List.map cL (m.ot)))]]⟩ : Blk) ∧ True) ?_ ?_
  ·
   unfold r55_14
   refine R_mv t43 ?_
   refine R_mv (@rfl V (iV ((k : Nat) : Int))) ?_
   exact R_nil ⟨t1, t3, rfl, t42, t43, h1, trivial⟩
  intro T H ⟨t1, t3, t4, t42, t43, h1, _⟩
  refine W_seq_seq ?_
  refine W_seq_regc (fun T H => T 1 = (V.mp 1 1 0 0) ∧ T 3 = (iV ((m.nx.length : Nat) : Int)) ∧ T 4 = (iV ((k : Nat) : Int)) ∧ T 42 = (iV ((m.nx.length : Nat) : Int)) ∧ T 43 = (iV ((k : Nat) : Int)) ∧ T 65 = (V.bool (decide ((((((nth (m.nx) (k))).length : Nat) : Int) ≠ (m.i)) ∨ (((((nth (m.ot) (k))).length : Nat) : Int) ≠ (m.i))))) ∧ H 1 = (⟨1, true, false, 24, 4, [[(iV (m.i)), (iV (m.s)), (V.sl (List.map cL (m.nx))), (V.sl (List.map cL (m.ot)))]]⟩ : Blk) ∧ True) ?_ ?_
  ·
   unfold r55_15
   refine R_fld_mp (o' := 2) t1 h1 (by first | rfl | simp [okB, Blk.own]) rfl ?_
   refine R_load_mp (v := (V.sl (List.map cL (m.nx)))) (@rfl V (V.mp 1 1 0 2)) h1 (by first | rfl | simp [ldB, ldV, Blk.own, V.one]) ?_
   refine R_mv t4 ?_
   refine R_idx (i := k) (@rfl V (V.sl (List.map cL (m.nx)))) (@rfl V (iV ((k : Nat) : Int))) (by omega) rfl ?_
   refine R_load_pp (v := (V.sl (List.map cI ((nth (m.nx) (k)))))) (@rfl V (V.pp [(V.sl (List.map cI ((nth (m.nx) (k)))))])) (by first | rfl | simp [ldV]) ?_
   refine R_len (@rfl V (V.sl (List.map cI ((nth (m.nx) (k)))))) ?_
   refine R_fld_mp (o' := 0) t1 h1 (by first | rfl | simp [okB, Blk.own]) rfl ?_
   refine R_load_mp (v := (iV (m.i))) (@rfl V (V.mp 1 1 0 0)) h1 (by first | rfl | simp [ldB, ldV, Blk.own, V.one]) ?_
   refine R_neq (x := ((((nth (m.nx) (k))).length : Nat) : Int)) (y := (m.i)) (@rfl V (iV ((((nth (m.nx) (k))).length : Nat) : Int))) (@rfl V (iV (m.i))) ?_
   refine R_mv (@rfl V (V.bool (decide (((((nth (m.nx) (k))).length : Nat) : Int) ≠ (m.i))))) ?_
   refine Ops_seg 10 (fun T H => T 1 = (V.mp 1 1 0 0) ∧ T 3 = (iV ((m.nx.length : Nat) : Int)) ∧ T 4 = (iV ((k : Nat) : Int)) ∧ T 42 = (iV ((m.nx.length : Nat) : Int)) ∧ T 43 = (iV ((k : Nat) : Int)) ∧ T 65 = (V.bool (decide ((((((nth (m.nx) (k))).length : Nat) : Int) ≠ (m.i)) ∨ (((((nth (m.ot) (k))).length : Nat) : Int) ≠ (m.i))))) ∧ H 1 = (⟨1, true, false, 24, 4, [[(iV (m.i)), (iV (m.s)), (V.sl (List.map cL (m.nx))), (V.sl (List.map cL (m.ot)))]]⟩ : Blk) ∧ True) ?_ ?_
   ·
    by_cases g13 : ((((nth (m.nx) (k))).length : Nat) : Int) ≠ (m.i)
    ·
     refine G_no (Eq.trans (@rfl V (V.bool (decide (((((nth (m.nx) (k))).length : Nat) : Int) ≠ (m.i))))) (bdT g13)) (by decide) ?_
     refine G_no (Eq.trans (@rfl V (V.bool (decide (((((nth (m.nx) (k))).length : Nat) : Int) ≠ (m.i))))) (bdT g13)) (by decide) ?_
     refine G_no (Eq.trans (@rfl V (V.bool (decide (((((nth (m.nx) (k))).length : Nat) : Int) ≠ (m.i))))) (bdT g13)) (by decide) ?_
     refine G_no (Eq.trans (@rfl V (V.bool (decide (((((nth (m.nx) (k))).length : Nat) : Int) ≠ (m.i))))) (bdT g13)) (by decide) ?_
     refine G_no (Eq.trans (@rfl V (V.bool (decide (((((nth (m.nx) (k))).length : Nat) : Int) ≠ (m.i))))) (bdT g13)) (by decide) ?_
     refine G_no (Eq.trans (@rfl V (V.bool (decide (((((nth (m.nx) (k))).length : Nat) : Int) ≠ (m.i))))) (bdT g13)) (by decide) ?_
     refine G_no (Eq.trans (@rfl V (V.bool (decide (((((nth (m.nx) (k))).length : Nat) : Int) ≠ (m.i))))) (bdT g13)) (by decide) ?_
     refine G_no (Eq.trans (@rfl V (V.bool (decide (((((nth (m.nx) (k))).length : Nat) : Int) ≠ (m.i))))) (bdT g13)) (by decide) ?_
     refine G_no (Eq.trans (@rfl V (V.bool (decide (((((nth (m.nx) (k))).length : Nat) : Int) ≠ (m.i))))) (bdT g13)) (by decide) ?_
     refine R_pickT (Eq.trans (@rfl V (V.bool (decide (((((nth (m.nx) (k))).length : Nat) : Int) ≠ (m.i))))) (bdT g13)) (@rfl V (V.bool true)) ?_
     exact ⟨t1, t3, t4, t42, t43, (Eq.trans (@rfl V (V.bool true)) (dec_orT g13)), h1, trivial⟩
    ·
     refine G_yes (Eq.trans (@rfl V (V.bool (decide (((((nth (m.nx) (k))).length : Nat) : Int) ≠ (m.i))))) (bdF g13)) ?_
     refine R_fld_mp (o' := 3) t1 h1 (by first | rfl | simp [okB, Blk.own]) rfl ?_
     refine G_yes (Eq.trans (@rfl V (V.bool (decide (((((nth (m.nx) (k))).length : Nat) : Int) ≠ (m.i))))) (bdF g13)) ?_
     refine R_load_mp (v := (V.sl (List.map cL (m.ot)))) (@rfl V (V.mp 1 1 0 3)) h1 (by first | rfl | simp [ldB, ldV, Blk.own, V.one]) ?_
     refine G_yes (Eq.trans (@rfl V (V.bool (decide (((((nth (m.nx) (k))).length : Nat) : Int) ≠ (m.i))))) (bdF g13)) ?_
     refine R_mv t4 ?_
     refine G_yes (Eq.trans (@rfl V (V.bool (decide (((((nth (m.nx) (k))).length : Nat) : Int) ≠ (m.i))))) (bdF g13)) ?_
     refine R_idx (i := k) (@rfl V (V.sl (List.map cL (m.ot)))) (@rfl V (iV ((k : Nat) : Int))) (by omega) rfl ?_
     refine G_yes (Eq.trans (@rfl V (V.bool (decide (((((nth (m.nx) (k))).length : Nat) : Int) ≠ (m.i))))) (bdF g13)) ?_
     refine R_load_pp (v := (V.sl (List.map cI ((nth (m.ot) (k)))))) (@rfl V (V.pp [(V.sl (List.map cI ((nth (m.ot) (k)))))])) (by first | rfl | simp [ldV]) ?_
     refine G_yes (Eq.trans (@rfl V (V.bool (decide (((((nth (m.nx) (k))).length : Nat) : Int) ≠ (m.i))))) (bdF g13)) ?_
     refine R_len (@rfl V (V.sl (List.map cI ((nth (m.ot) (k)))))) ?_
     refine G_yes (Eq.trans (@rfl V (V.bool (decide (((((nth (m.nx) (k))).length : Nat) : Int) ≠ (m.i))))) (bdF g13)) ?_
     refine R_fld_mp (o' := 0) t1 h1 (by first | rfl | simp [okB, Blk.own]) rfl ?_
     refine G_yes (Eq.trans (@rfl V (V.bool (decide (((((nth (m.nx) (k))).length : Nat) : Int) ≠ (m.i))))) (bdF g13)) ?_
     refine R_load_mp (v := (iV (m.i))) (@rfl V (V.mp 1 1 0 0)) h1 (by first | rfl | simp [ldB, ldV, Blk.own, V.one]) ?_
     refine G_yes (Eq.trans (@rfl V (V.bool (decide (((((nth (m.nx) (k))).length : Nat) : Int) ≠ (m.i))))) (bdF g13)) ?_
     refine R_neq (x := ((((nth (m.ot) (k))).length : Nat) : Int)) (y := (m.i)) (@rfl V (iV ((((nth (m.ot) (k))).length : Nat) : Int))) (@rfl V (iV (m.i))) ?_
     refine R_pickF (Eq.trans (@rfl V (V.bool (decide (((((nth (m.nx) (k))).length : Nat) : Int) ≠ (m.i))))) (bdF g13)) (@rfl V (V.bool (decide (((((nth (m.ot) (k))).length : Nat) : Int) ≠ (m.i))))) ?_
     exact ⟨t1, t3, t4, t42, t43, (Eq.trans (@rfl V (V.bool (decide (((((nth (m.ot) (k))).length : Nat) : Int) ≠ (m.i))))) (dec_orF g13)), h1, trivial⟩
   intro T H ⟨t1, t3, t4, t42, t43, t65, h1, _⟩
   exact R_nil ⟨t1, t3, t4, t42, t43, t65, h1, trivial⟩
  intro T H ⟨t1, t3, t4, t42, t43, t65, h1, _⟩
  refine W_seq_if (p := (((((nth (m.nx) (k))).length : Nat) : Int) ≠ (m.i)) ∨ (((((nth (m.ot) (k))).length : Nat) : Int) ≠ (m.i))) t65 (fun c14 => ?_) (fun c14 => ?_)
  ·
   refine W_seq_seq ?_
   refine W_seq_regc (fun T H => T 2 = (iV (1 : Int)) ∧ H 1 = (⟨1, true, false, 24, 4, [[(iV (m.i)), (iV (m.s)), (V.sl (List.map cL (m.nx))), (V.sl (List.map cL (m.ot)))]]⟩ : Blk) ∧ True) ?_ ?_
   ·
    unfold r55_16
    refine R_mv (@rfl V (iV (1 : Int))) ?_
    exact R_nil ⟨rfl, h1, trivial⟩
   intro T H ⟨t2, h1, _⟩
   refine W_seq_ret ?_
   refine y12 _ _ ?_
   refine p210 _ _ ?_
   refine y9 _ _ ?_
   refine Ret_1 t2 (fz_int ?_)
   · rw [hc, fe_hit (by rw [rowE, if_pos (by omega)]; decide) (by omega), rowE, if_pos (by omega)]
  refine W_seq_skip ?_
  refine W_seq_regc (fun T H => T 1 = (V.mp 1 1 0 0) ∧ T 3 = (iV ((m.nx.length : Nat) : Int)) ∧ T 4 = (iV ((k : Nat) : Int)) ∧ T 42 = (iV ((m.nx.length : Nat) : Int)) ∧ T 43 = (iV ((k : Nat) : Int)) ∧ T 67 = (iV (m.i)) ∧ T 68 = (iV (0 : Int)) ∧ H 1 = (⟨1, true, false, 24, 4, [[(iV (m.i)), (iV (m.s)), (V.sl (List.map cL (m.nx))), (V.sl (List.map cL (m.ot)))]]⟩ : Blk) ∧ True) ?_ ?_
  ·
   unfold r55_17
   refine R_fld_mp (o' := 0) t1 h1 (by first | rfl | simp [okB, Blk.own]) rfl ?_
   refine R_load_mp (v := (iV (m.i))) (@rfl V (V.mp 1 1 0 0)) h1 (by first | rfl | simp [ldB, ldV, Blk.own, V.one]) ?_
   refine R_mv (@rfl V (iV (0 : Int))) ?_
   exact R_nil ⟨t1, t3, t4, t42, t43, rfl, rfl, h1, trivial⟩
  intro T H ⟨t1, t3, t4, t42, t43, t67, t68, h1, _⟩
  refine W_block fun Q15 n15 x15 y15 z15 => ?_
  refine W_loop (fun mm T H => ∃ (j : Nat), mm = ((m.i).toNat) - j ∧ T 1 = (V.mp 1 1 0 0) ∧ T 3 = (iV ((m.nx.length : Nat) : Int)) ∧ T 4 = (iV ((k : Nat) : Int)) ∧ T 42 = (iV ((m.nx.length : Nat) : Int)) ∧ T 43 = (iV ((k : Nat) : Int)) ∧ T 67 = (iV (m.i)) ∧ T 68 = (iV ((j : Nat) : Int)) ∧ H 1 = (⟨1, true, false, 24, 4, [[(iV (m.i)), (iV (m.s)), (V.sl (List.map cL (m.nx))), (V.sl (List.map cL (m.ot)))]]⟩ : Blk) ∧ (j ≤ (m.i).toNat) ∧ (((nth m.nx k).length : Int) = m.i ∧ ((nth m.ot k).length : Int) = m.i) ∧ (rowE m k = fe (celE m k) j (m.i.toNat - j))) ?_ ?_
  ·
   refine ⟨_, 0, rfl, t1, t3, t4, t42, t43, t67, (Eq.trans t68 (by first | rfl | simp)), h1, ?_, ?_, ?_⟩
   · omega
   · omega
   · rw [rowE, if_neg (by omega)]; rfl
  intro mm T H ⟨j, hmm, t1, t3, t4, t42, t43, t67, t68, h1, hj, hl, hr⟩ Q16 p116 p216 p316
  unfold b55_1
  refine W_seq_regc (fun T H => T 1 = (V.mp 1 1 0 0) ∧ T 3 = (iV ((m.nx.length : Nat) : Int)) ∧ T 4 = (iV ((k : Nat) : Int)) ∧ T 42 = (iV ((m.nx.length : Nat) : Int)) ∧ T 43 = (iV ((k : Nat) : Int)) ∧ T 67 = (iV (m.i)) ∧ T 68 = (iV ((j : Nat) : Int)) ∧ T 69 = (V.bool (decide (((j : Nat) : Int) < (m.i)))) ∧ H 1 = (⟨1, true, false, 24, 4, [[(iV (m.i)), (iV (m.s)), (V.sl (List.map cL (m.nx))), (V.sl (List.map cL (m.ot)))]]⟩ : Blk) ∧ True) ?_ ?_
  ·
   unfold r55_18
   refine R_lss (x := ((j : Nat) : Int)) (y := (m.i)) t68 t67 ?_
   exact R_nil ⟨t1, t3, t4, t42, t43, t67, t68, rfl, h1, trivial⟩
  intro T H ⟨t1, t3, t4, t42, t43, t67, t68, t69, h1, _⟩
  refine W_seq_if (p := ((j : Nat) : Int) < (m.i)) t69 (fun c17 => ?_) (fun c17 => ?_)
  ·
   refine W_seq_skip ?_
   refine W_seq_blockg fun Q18 n18 x18 y18 z18 => ?_
   refine W_seq_regc (fun T H => T 1 = (V.mp 1 1 0 0) ∧ T 3 = (iV ((m.nx.length : Nat) : Int)) ∧ T 4 = (iV ((k : Nat) : Int)) ∧ T 5 = (iV ((j : Nat) : Int)) ∧ T 42 = (iV ((m.nx.length : Nat) : Int)) ∧ T 43 = (iV ((k : Nat) : Int)) ∧ T 67 = (iV (m.i)) ∧ T 68 = (iV ((j : Nat) : Int)) ∧ H 1 = (⟨1, true, false, 24, 4, [[(iV (m.i)), (iV (m.s)), (V.sl (List.map cL (m.nx))), (V.sl (List.map cL (m.ot)))]]⟩ : Blk) ∧ True) ?_ ?_
   ·
    unfold r55_19
    refine R_mv t68 ?_
    refine R_mv (@rfl V (iV ((j : Nat) : Int))) ?_
    exact R_nil ⟨t1, t3, t4, rfl, t42, t43, t67, t68, h1, trivial⟩
   intro T H ⟨t1, t3, t4, t5, t42, t43, t67, t68, h1, _⟩
   refine W_seq_regc (fun T H => T 1 = (V.mp 1 1 0 0) ∧ T 3 = (iV ((m.nx.length : Nat) : Int)) ∧ T 4 = (iV ((k : Nat) : Int)) ∧ T 6 = (iV ((nth ((nth (m.nx) (k))) (j)))) ∧ T 7 = (iV ((nth ((nth (m.ot) (k))) (j)))) ∧ T 42 = (iV ((m.nx.length : Nat) : Int)) ∧ T 43 = (iV ((k : Nat) : Int)) ∧ T 67 = (iV (m.i)) ∧ T 68 = (iV ((j : Nat) : Int)) ∧ H 1 = (⟨1, true, false, 24, 4, [[(iV (m.i)), (iV (m.s)), (V.sl (List.map cL (m.nx))), (V.sl (List.map cL (m.ot)))]]⟩ : Blk) ∧ True) ?_ ?_
   ·
    unfold r55_20
    refine R_fld_mp (o' := 2) t1 h1 (by first | rfl | simp [okB, Blk.own]) rfl ?_
    refine R_load_mp (v := (V.sl (List.map cL (m.nx)))) (@rfl V (V.mp 1 1 0 2)) h1 (by first | rfl | simp [ldB, ldV, Blk.own, V.one]) ?_
    refine R_mv t4 ?_
    refine R_idx (i := k) (@rfl V (V.sl (List.map cL (m.nx)))) (@rfl V (iV ((k : Nat) : Int))) (by omega) rfl ?_
    refine R_load_pp (v := (V.sl (List.map cI ((nth (m.nx) (k)))))) (@rfl V (V.pp [(V.sl (List.map cI ((nth (m.nx) (k)))))])) (by first | rfl | simp [ldV]) ?_
    refine R_mv t5 ?_
    refine R_idx (i := j) (@rfl V (V.sl (List.map cI ((nth (m.nx) (k)))))) (@rfl V (iV ((j : Nat) : Int))) (by omega) rfl ?_
    refine R_load_pp (v := (iV ((nth ((nth (m.nx) (k))) (j))))) (@rfl V (V.pp [(iV ((nth ((nth (m.nx) (k))) (j))))])) (by first | rfl | simp [ldV]) ?_
    refine R_fld_mp (o' := 3) t1 h1 (by first | rfl | simp [okB, Blk.own]) rfl ?_
    refine R_load_mp (v := (V.sl (List.map cL (m.ot)))) (@rfl V (V.mp 1 1 0 3)) h1 (by first | rfl | simp [ldB, ldV, Blk.own, V.one]) ?_
    refine R_mv t4 ?_
    refine R_idx (i := k) (@rfl V (V.sl (List.map cL (m.ot)))) (@rfl V (iV ((k : Nat) : Int))) (by omega) rfl ?_
    refine R_load_pp (v := (V.sl (List.map cI ((nth (m.ot) (k)))))) (@rfl V (V.pp [(V.sl (List.map cI ((nth (m.ot) (k)))))])) (by first | rfl | simp [ldV]) ?_
    refine R_mv t5 ?_
    refine R_idx (i := j) (@rfl V (V.sl (List.map cI ((nth (m.ot) (k)))))) (@rfl V (iV ((j : Nat) : Int))) (by omega) rfl ?_
    refine R_load_pp (v := (iV ((nth ((nth (m.ot) (k))) (j))))) (@rfl V (V.pp [(iV ((nth ((nth (m.ot) (k))) (j))))])) (by first | rfl | simp [ldV]) ?_
    refine R_mv (@rfl V (iV ((nth ((nth (m.nx) (k))) (j))))) ?_
    refine R_mv (@rfl V (iV ((nth ((nth (m.ot) (k))) (j))))) ?_
    exact R_nil ⟨t1, t3, t4, rfl, rfl, t42, t43, t67, t68, h1, trivial⟩
   intro T H ⟨t1, t3, t4, t6, t7, t42, t43, t67, t68, h1, _⟩
   refine W_seq_regc (fun T H => T 1 = (V.mp 1 1 0 0) ∧ T 3 = (iV ((m.nx.length : Nat) : Int)) ∧ T 4 = (iV ((k : Nat) : Int)) ∧ T 42 = (iV ((m.nx.length : Nat) : Int)) ∧ T 43 = (iV ((k : Nat) : Int)) ∧ T 67 = (iV (m.i)) ∧ T 68 = (iV ((j : Nat) : Int)) ∧ T 101 = (V.bool (decide ((((((nth ((nth (m.nx) (k))) (j))) < (0 : Int)) ∨ (((m.nx.length : Nat) : Int) ≤ ((nth ((nth (m.nx) (k))) (j))))) ∨ (((nth ((nth (m.ot) (k))) (j))) < (0 : Int))) ∨ ((1048576 : Int) < ((nth ((nth (m.ot) (k))) (j))))))) ∧ H 1 = (⟨1, true, false, 24, 4, [[(iV (m.i)), (iV (m.s)), (V.sl (List.map cL (m.nx))), (V.sl (List.map cL (m.ot)))]]⟩ : Blk) ∧ True) ?_ ?_
   ·
    unfold r55_21
    refine R_mv t6 ?_
    refine R_lss (x := ((nth ((nth (m.nx) (k))) (j)))) (y := (0 : Int)) (@rfl V (iV ((nth ((nth (m.nx) (k))) (j))))) (@rfl V (iV (0 : Int))) ?_
    refine R_mv (@rfl V (V.bool (decide (((nth ((nth (m.nx) (k))) (j))) < (0 : Int))))) ?_
    refine Ops_seg 4 (fun T H => T 1 = (V.mp 1 1 0 0) ∧ T 3 = (iV ((m.nx.length : Nat) : Int)) ∧ T 4 = (iV ((k : Nat) : Int)) ∧ T 7 = (iV ((nth ((nth (m.ot) (k))) (j)))) ∧ T 42 = (iV ((m.nx.length : Nat) : Int)) ∧ T 43 = (iV ((k : Nat) : Int)) ∧ T 67 = (iV (m.i)) ∧ T 68 = (iV ((j : Nat) : Int)) ∧ T 93 = (V.bool (decide ((((nth ((nth (m.nx) (k))) (j))) < (0 : Int)) ∨ (((m.nx.length : Nat) : Int) ≤ ((nth ((nth (m.nx) (k))) (j))))))) ∧ H 1 = (⟨1, true, false, 24, 4, [[(iV (m.i)), (iV (m.s)), (V.sl (List.map cL (m.nx))), (V.sl (List.map cL (m.ot)))]]⟩ : Blk) ∧ True) ?_ ?_
    ·
     by_cases g19 : ((nth ((nth (m.nx) (k))) (j))) < (0 : Int)
     ·
      refine G_no (Eq.trans (@rfl V (V.bool (decide (((nth ((nth (m.nx) (k))) (j))) < (0 : Int))))) (bdT g19)) (by decide) ?_
      refine G_no (Eq.trans (@rfl V (V.bool (decide (((nth ((nth (m.nx) (k))) (j))) < (0 : Int))))) (bdT g19)) (by decide) ?_
      refine G_no (Eq.trans (@rfl V (V.bool (decide (((nth ((nth (m.nx) (k))) (j))) < (0 : Int))))) (bdT g19)) (by decide) ?_
      refine R_pickT (Eq.trans (@rfl V (V.bool (decide (((nth ((nth (m.nx) (k))) (j))) < (0 : Int))))) (bdT g19)) (@rfl V (V.bool true)) ?_
      exact ⟨t1, t3, t4, t7, t42, t43, t67, t68, (Eq.trans (@rfl V (V.bool true)) (dec_orT g19)), h1, trivial⟩
     ·
      refine G_yes (Eq.trans (@rfl V (V.bool (decide (((nth ((nth (m.nx) (k))) (j))) < (0 : Int))))) (bdF g19)) ?_
      refine R_mv t6 ?_
      refine G_yes (Eq.trans (@rfl V (V.bool (decide (((nth ((nth (m.nx) (k))) (j))) < (0 : Int))))) (bdF g19)) ?_
      refine R_mv t3 ?_
      refine G_yes (Eq.trans (@rfl V (V.bool (decide (((nth ((nth (m.nx) (k))) (j))) < (0 : Int))))) (bdF g19)) ?_
      refine R_geq (x := ((nth ((nth (m.nx) (k))) (j)))) (y := ((m.nx.length : Nat) : Int)) (@rfl V (iV ((nth ((nth (m.nx) (k))) (j))))) (@rfl V (iV ((m.nx.length : Nat) : Int))) ?_
      refine R_pickF (Eq.trans (@rfl V (V.bool (decide (((nth ((nth (m.nx) (k))) (j))) < (0 : Int))))) (bdF g19)) (@rfl V (V.bool (decide (((m.nx.length : Nat) : Int) ≤ ((nth ((nth (m.nx) (k))) (j))))))) ?_
      exact ⟨t1, t3, t4, t7, t42, t43, t67, t68, (Eq.trans (@rfl V (V.bool (decide (((m.nx.length : Nat) : Int) ≤ ((nth ((nth (m.nx) (k))) (j))))))) (dec_orF g19)), h1, trivial⟩
    intro T H ⟨t1, t3, t4, t7, t42, t43, t67, t68, t93, h1, _⟩
    refine R_mv t93 ?_
    refine Ops_seg 3 (fun T H => T 1 = (V.mp 1 1 0 0) ∧ T 3 = (iV ((m.nx.length : Nat) : Int)) ∧ T 4 = (iV ((k : Nat) : Int)) ∧ T 7 = (iV ((nth ((nth (m.ot) (k))) (j)))) ∧ T 42 = (iV ((m.nx.length : Nat) : Int)) ∧ T 43 = (iV ((k : Nat) : Int)) ∧ T 67 = (iV (m.i)) ∧ T 68 = (iV ((j : Nat) : Int)) ∧ T 97 = (V.bool (decide (((((nth ((nth (m.nx) (k))) (j))) < (0 : Int)) ∨ (((m.nx.length : Nat) : Int) ≤ ((nth ((nth (m.nx) (k))) (j))))) ∨ (((nth ((nth (m.ot) (k))) (j))) < (0 : Int))))) ∧ H 1 = (⟨1, true, false, 24, 4, [[(iV (m.i)), (iV (m.s)), (V.sl (List.map cL (m.nx))), (V.sl (List.map cL (m.ot)))]]⟩ : Blk) ∧ True) ?_ ?_
    ·
     by_cases g20 : (((nth ((nth (m.nx) (k))) (j))) < (0 : Int)) ∨ (((m.nx.length : Nat) : Int) ≤ ((nth ((nth (m.nx) (k))) (j))))
     ·
      refine G_no (Eq.trans (@rfl V (V.bool (decide ((((nth ((nth (m.nx) (k))) (j))) < (0 : Int)) ∨ (((m.nx.length : Nat) : Int) ≤ ((nth ((nth (m.nx) (k))) (j)))))))) (bdT g20)) (by decide) ?_
      refine G_no (Eq.trans (@rfl V (V.bool (decide ((((nth ((nth (m.nx) (k))) (j))) < (0 : Int)) ∨ (((m.nx.length : Nat) : Int) ≤ ((nth ((nth (m.nx) (k))) (j)))))))) (bdT g20)) (by decide) ?_
      refine R_pickT (Eq.trans (@rfl V (V.bool (decide ((((nth ((nth (m.nx) (k))) (j))) < (0 : Int)) ∨ (((m.nx.length : Nat) : Int) ≤ ((nth ((nth (m.nx) (k))) (j)))))))) (bdT g20)) (@rfl V (V.bool true)) ?_
      exact ⟨t1, t3, t4, t7, t42, t43, t67, t68, (Eq.trans (@rfl V (V.bool true)) (dec_orT g20)), h1, trivial⟩
     ·
      refine G_yes (Eq.trans (@rfl V (V.bool (decide ((((nth ((nth (m.nx) (k))) (j))) < (0 : Int)) ∨ (((m.nx.length : Nat) : Int) ≤ ((nth ((nth (m.nx) (k))) (j)))))))) (bdF g20)) ?_
      refine R_mv t7 ?_
      refine G_yes (Eq.trans (@rfl V (V.bool (decide ((((nth ((nth (m.nx) (k))) (j))) < (0 : Int)) ∨ (((m.nx.length : Nat) : Int) ≤ ((nth ((nth (m.nx) (k))) (j)))))))) (bdF g20)) ?_
      refine R_lss (x := ((nth ((nth (m.ot) (k))) (j)))) (y := (0 : Int)) (@rfl V (iV ((nth ((nth (m.ot) (k))) (j))))) (@rfl V (iV (0 : Int))) ?_
      refine R_pickF (Eq.trans (@rfl V (V.bool (decide ((((nth ((nth (m.nx) (k))) (j))) < (0 : Int)) ∨ (((m.nx.length : Nat) : Int) ≤ ((nth ((nth (m.nx) (k))) (j)))))))) (bdF g20)) (@rfl V (V.bool (decide (((nth ((nth (m.ot) (k))) (j))) < (0 : Int))))) ?_
      exact ⟨t1, t3, t4, t7, t42, t43, t67, t68, (Eq.trans (@rfl V (V.bool (decide (((nth ((nth (m.ot) (k))) (j))) < (0 : Int))))) (dec_orF g20)), h1, trivial⟩
    intro T H ⟨t1, t3, t4, t7, t42, t43, t67, t68, t97, h1, _⟩
    refine R_mv t97 ?_
    refine Ops_seg 3 (fun T H => T 1 = (V.mp 1 1 0 0) ∧ T 3 = (iV ((m.nx.length : Nat) : Int)) ∧ T 4 = (iV ((k : Nat) : Int)) ∧ T 42 = (iV ((m.nx.length : Nat) : Int)) ∧ T 43 = (iV ((k : Nat) : Int)) ∧ T 67 = (iV (m.i)) ∧ T 68 = (iV ((j : Nat) : Int)) ∧ T 101 = (V.bool (decide ((((((nth ((nth (m.nx) (k))) (j))) < (0 : Int)) ∨ (((m.nx.length : Nat) : Int) ≤ ((nth ((nth (m.nx) (k))) (j))))) ∨ (((nth ((nth (m.ot) (k))) (j))) < (0 : Int))) ∨ ((1048576 : Int) < ((nth ((nth (m.ot) (k))) (j))))))) ∧ H 1 = (⟨1, true, false, 24, 4, [[(iV (m.i)), (iV (m.s)), (V.sl (List.map cL (m.nx))), (V.sl (List.map cL (m.ot)))]]⟩ : Blk) ∧ True) ?_ ?_
    ·
     by_cases g21 : ((((nth ((nth (m.nx) (k))) (j))) < (0 : Int)) ∨ (((m.nx.length : Nat) : Int) ≤ ((nth ((nth (m.nx) (k))) (j))))) ∨ (((nth ((nth (m.ot) (k))) (j))) < (0 : Int))
     ·
      refine G_no (Eq.trans (@rfl V (V.bool (decide (((((nth ((nth (m.nx) (k))) (j))) < (0 : Int)) ∨ (((m.nx.length : Nat) : Int) ≤ ((nth ((nth (m.nx) (k))) (j))))) ∨ (((nth ((nth (m.ot) (k))) (j))) < (0 : Int)))))) (bdT g21)) (by decide) ?_
      refine G_no (Eq.trans (@rfl V (V.bool (decide (((((nth ((nth (m.nx) (k))) (j))) < (0 : Int)) ∨ (((m.nx.length : Nat) : Int) ≤ ((nth ((nth (m.nx) (k))) (j))))) ∨ (((nth ((nth (m.ot) (k))) (j))) < (0 : Int)))))) (bdT g21)) (by decide) ?_
      refine R_pickT (Eq.trans (@rfl V (V.bool (decide (((((nth ((nth (m.nx) (k))) (j))) < (0 : Int)) ∨ (((m.nx.length : Nat) : Int) ≤ ((nth ((nth (m.nx) (k))) (j))))) ∨ (((nth ((nth (m.ot) (k))) (j))) < (0 : Int)))))) (bdT g21)) (@rfl V (V.bool true)) ?_
      exact ⟨t1, t3, t4, t42, t43, t67, t68, (Eq.trans (@rfl V (V.bool true)) (dec_orT g21)), h1, trivial⟩
     ·
      refine G_yes (Eq.trans (@rfl V (V.bool (decide (((((nth ((nth (m.nx) (k))) (j))) < (0 : Int)) ∨ (((m.nx.length : Nat) : Int) ≤ ((nth ((nth (m.nx) (k))) (j))))) ∨ (((nth ((nth (m.ot) (k))) (j))) < (0 : Int)))))) (bdF g21)) ?_
      refine R_mv t7 ?_
      refine G_yes (Eq.trans (@rfl V (V.bool (decide (((((nth ((nth (m.nx) (k))) (j))) < (0 : Int)) ∨ (((m.nx.length : Nat) : Int) ≤ ((nth ((nth (m.nx) (k))) (j))))) ∨ (((nth ((nth (m.ot) (k))) (j))) < (0 : Int)))))) (bdF g21)) ?_
      refine R_gtr (x := ((nth ((nth (m.ot) (k))) (j)))) (y := (1048576 : Int)) (@rfl V (iV ((nth ((nth (m.ot) (k))) (j))))) (@rfl V (iV (1048576 : Int))) ?_
      refine R_pickF (Eq.trans (@rfl V (V.bool (decide (((((nth ((nth (m.nx) (k))) (j))) < (0 : Int)) ∨ (((m.nx.length : Nat) : Int) ≤ ((nth ((nth (m.nx) (k))) (j))))) ∨ (((nth ((nth (m.ot) (k))) (j))) < (0 : Int)))))) (bdF g21)) (@rfl V (V.bool (decide ((1048576 : Int) < ((nth ((nth (m.ot) (k))) (j))))))) ?_
      exact ⟨t1, t3, t4, t42, t43, t67, t68, (Eq.trans (@rfl V (V.bool (decide ((1048576 : Int) < ((nth ((nth (m.ot) (k))) (j))))))) (dec_orF g21)), h1, trivial⟩
    intro T H ⟨t1, t3, t4, t42, t43, t67, t68, t101, h1, _⟩
    exact R_nil ⟨t1, t3, t4, t42, t43, t67, t68, t101, h1, trivial⟩
   intro T H ⟨t1, t3, t4, t42, t43, t67, t68, t101, h1, _⟩
   refine W_if (p := (((((nth ((nth (m.nx) (k))) (j))) < (0 : Int)) ∨ (((m.nx.length : Nat) : Int) ≤ ((nth ((nth (m.nx) (k))) (j))))) ∨ (((nth ((nth (m.ot) (k))) (j))) < (0 : Int))) ∨ ((1048576 : Int) < ((nth ((nth (m.ot) (k))) (j))))) t101 (fun c22 => ?_) (fun c22 => ?_)
   ·
    refine W_seq_regc (fun T H => T 2 = (iV (2 : Int)) ∧ H 1 = (⟨1, true, false, 24, 4, [[(iV (m.i)), (iV (m.s)), (V.sl (List.map cL (m.nx))), (V.sl (List.map cL (m.ot)))]]⟩ : Blk) ∧ True) ?_ ?_
    ·
     unfold r55_22
     refine R_mv (@rfl V (iV (2 : Int))) ?_
     exact R_nil ⟨rfl, h1, trivial⟩
    intro T H ⟨t2, h1, _⟩
    refine W_ret ?_
    refine y18 _ _ ?_
    refine p216 _ _ ?_
    refine y15 _ _ ?_
    refine y12 _ _ ?_
    refine p210 _ _ ?_
    refine y9 _ _ ?_
    refine Ret_1 t2 (fz_int ?_)
    · have e : rowE m k = 2 := by
        rw [hr, fe_hit (by unfold celE; split <;> omega) (by omega)]; unfold celE; split <;> omega
      rw [hc, fe_hit (by omega) (by omega), e]
   refine W_skip ?_
   refine n18 _ _ ?_
   refine .done ?_
   refine W_regc (fun T H => T 1 = (V.mp 1 1 0 0) ∧ T 3 = (iV ((m.nx.length : Nat) : Int)) ∧ T 4 = (iV ((k : Nat) : Int)) ∧ T 42 = (iV ((m.nx.length : Nat) : Int)) ∧ T 43 = (iV ((k : Nat) : Int)) ∧ T 67 = (iV (m.i)) ∧ T 68 = (iV ((j + 1 : Nat) : Int)) ∧ H 1 = (⟨1, true, false, 24, 4, [[(iV (m.i)), (iV (m.s)), (V.sl (List.map cL (m.nx))), (V.sl (List.map cL (m.ot)))]]⟩ : Blk) ∧ True) ?_ ?_
   ·
    unfold r55_23
    refine R_addN (m := j) (n := 1) t68 (@rfl V (iV ((1 : Nat) : Int))) (by omega) ?_
    refine R_mv (@rfl V (iV ((j + 1 : Nat) : Int))) ?_
    exact R_nil ⟨t1, t3, t4, t42, t43, t67, rfl, h1, trivial⟩
   intro T H ⟨t1, t3, t4, t42, t43, t67, t68, h1, _⟩
   refine p116 _ _ _ ?_ ⟨(j + 1), rfl, t1, t3, t4, t42, t43, t67, (Eq.trans t68 (by first | rfl | simp)), h1, ?_, ?_, ?_⟩
   · omega
   · omega
   · omega
   · rw [hr, fe_skip (by unfold celE; split <;> omega) (by omega)]
  refine W_seq_exit ?_
  refine p316 _ _ _ ?_
  refine x15 _ _ ?_
  refine n12 _ _ ?_
  refine .done ?_
  refine W_regc (fun T H => T 1 = (V.mp 1 1 0 0) ∧ T 3 = (iV ((m.nx.length : Nat) : Int)) ∧ T 42 = (iV ((m.nx.length : Nat) : Int)) ∧ T 43 = (iV ((k + 1 : Nat) : Int)) ∧ H 1 = (⟨1, true, false, 24, 4, [[(iV (m.i)), (iV (m.s)), (V.sl (List.map cL (m.nx))), (V.sl (List.map cL (m.ot)))]]⟩ : Blk) ∧ True) ?_ ?_
  ·
   unfold r55_24
   refine R_addN (m := k) (n := 1) t43 (@rfl V (iV ((1 : Nat) : Int))) (by omega) ?_
   refine R_mv (@rfl V (iV ((k + 1 : Nat) : Int))) ?_
   exact R_nil ⟨t1, t3, t42, rfl, h1, trivial⟩
  intro T H ⟨t1, t3, t42, t43, h1, _⟩
  refine p110 _ _ _ ?_ ⟨(k + 1), rfl, t1, t3, t42, (Eq.trans t43 (by first | rfl | simp)), h1, ?_, ?_, ?_⟩
  · omega
  · omega
  · omega
  · rw [hc, fe_skip (by rw [hr, fe_end (by omega)]) (by omega)]
 refine W_seq_exit ?_
 refine p310 _ _ _ ?_
 refine x9 _ _ ?_
 refine .done ?_
 refine W_seq_regc (fun T H => T 2 = (iV (0 : Int)) ∧ H 1 = (⟨1, true, false, 24, 4, [[(iV (m.i)), (iV (m.s)), (V.sl (List.map cL (m.nx))), (V.sl (List.map cL (m.ot)))]]⟩ : Blk) ∧ True) ?_ ?_
 ·
  unfold r55_25
  refine R_mv (@rfl V (iV (0 : Int))) ?_
  exact R_nil ⟨rfl, h1, trivial⟩
 intro T H ⟨t2, h1, _⟩
 refine W_ret ?_
 refine Ret_1 t2 (fz_int ?_)
 · rw [hc, fe_end (by omega)]
end Go.Proofs.Ytngkckefanbhgaa

namespace Go.Proofs.Ytngkckefanbhgaa
open Go Go.Proofs
theorem permitted_pure (n : Int) : PureC Try.prog 104 [(iV (n))] (V.bool (decide (1 ≤ n ∧ n ≤ 1024))) := by
 refine pure_of_Wb true 6 Try.func104 s104_ok (by kernel_rfl) (by simp [s104]) (by simp) (by simp) fun hB => ?_
 simp only [bnd_map, bnd_int, bnd_bool, bnd_str, bnd_agg, bnd_pp, bnd_nil, bnd_cons, implies_true, and_true, true_and] at hB
 unfold s104
 dsimp only
 refine W_seq_regc (fun T H => T 0 = (iV (n)) ∧ True) ?_ ?_
 ·
  unfold r104_0
  refine R_mv (@rfl V (V.bool false)) ?_
  exact R_nil ⟨rfl, trivial⟩
 intro T H ⟨t0, _⟩
 refine W_seq_regc (fun T H => T 2 = (V.bool (decide (((1 : Int) ≤ (n)) ∧ ((n) ≤ (1024 : Int))))) ∧ True) ?_ ?_
 ·
  unfold r104_1
  refine R_mv t0 ?_
  refine R_geq (x := (n)) (y := (1 : Int)) (@rfl V (iV (n))) (@rfl V (iV (1 : Int))) ?_
  refine R_mv (@rfl V (V.bool (decide ((1 : Int) ≤ (n))))) ?_
  refine Ops_seg 3 (fun T H => T 8 = (V.bool (decide (((1 : Int) ≤ (n)) ∧ ((n) ≤ (1024 : Int))))) ∧ True) ?_ ?_
  ·
   by_cases g1 : (1 : Int) ≤ (n)
   ·
    refine G_yes (Eq.trans (@rfl V (V.bool (decide ((1 : Int) ≤ (n))))) (bdT g1)) ?_
    refine R_mv t0 ?_
    refine G_yes (Eq.trans (@rfl V (V.bool (decide ((1 : Int) ≤ (n))))) (bdT g1)) ?_
    refine R_leq (x := (n)) (y := (1024 : Int)) (@rfl V (iV (n))) (@rfl V (iV (1024 : Int))) ?_
    refine R_pickT (Eq.trans (@rfl V (V.bool (decide ((1 : Int) ≤ (n))))) (bdT g1)) (@rfl V (V.bool (decide ((n) ≤ (1024 : Int))))) ?_
    exact ⟨(Eq.trans (@rfl V (V.bool (decide ((n) ≤ (1024 : Int))))) (dec_andT g1)), trivial⟩
   ·
    refine G_no (Eq.trans (@rfl V (V.bool (decide ((1 : Int) ≤ (n))))) (bdF g1)) (by decide) ?_
    refine G_no (Eq.trans (@rfl V (V.bool (decide ((1 : Int) ≤ (n))))) (bdF g1)) (by decide) ?_
    refine R_pickF (Eq.trans (@rfl V (V.bool (decide ((1 : Int) ≤ (n))))) (bdF g1)) (@rfl V (V.bool false)) ?_
    exact ⟨(Eq.trans (@rfl V (V.bool false)) (dec_andF g1)), trivial⟩
  intro T H ⟨t8, _⟩
  refine R_mv t8 ?_
  exact R_nil ⟨rfl, trivial⟩
 intro T H ⟨t2, _⟩
 refine W_ret ?_
 refine Ret_1 t2 (fz_bool ?_)
 · first | rfl | omega | simp_all
end Go.Proofs.Ytngkckefanbhgaa

namespace Go.Proofs.Ytngkckefanbhgaa
open Go Go.Proofs
theorem idxi_pure (p : Int → Bool) (w : List Int) (g : Nat) (caps : List V) (hca : canonL caps = true) (hpu : pureL caps = true) (hq : ∀ k, k < w.length → PureC Try.prog g (iV (nth w k) :: caps) (.bool (p (nth w k)))) : PureC Try.prog 120 [(V.sl (List.map cI (w))), (V.fn g [] caps)] (iV (fi (fun j => p (nth w j)) 0 w.length)) := by
 refine pure_of_Wb true 6 Try.func120 s120_ok (by kernel_rfl) (by simp [s120]) (by simp [hpu]) (by simp) fun hB => ?_
 simp only [bnd_map, bnd_int, bnd_bool, bnd_str, bnd_agg, bnd_pp, bnd_nil, bnd_cons, implies_true, and_true, true_and] at hB
 unfold s120
 dsimp only
 refine W_seq_regc (fun T H => T 0 = (V.sl (List.map cI (w))) ∧ T 1 = (V.fn g [] caps) ∧ True) ?_ ?_
 ·
  unfold r120_0
  refine R_mv (@rfl V (iV (0 : Int))) ?_
  exact R_nil ⟨rfl, rfl, trivial⟩
 intro T H ⟨t0, t1, _⟩
 refine W_seq_seq ?_
 refine W_seq_regc (fun T H => T 0 = (V.sl (List.map cI (w))) ∧ T 1 = (V.fn g [] caps) ∧ T 7 = (iV ((w.length : Nat) : Int)) ∧ T 8 = (iV (0 : Int)) ∧ True) ?_ ?_
 ·
  unfold r120_1
  refine R_mv t0 ?_
  refine R_len (@rfl V (V.sl (List.map cI (w)))) ?_
  refine R_mv (@rfl V (iV (0 : Int))) ?_
  exact R_nil ⟨t0, t1, rfl, rfl, trivial⟩
 intro T H ⟨t0, t1, t7, t8, _⟩
 refine W_seq_blockg fun Q1 n1 x1 y1 z1 => ?_
 refine W_loop (fun mm T H => ∃ (k : Nat), mm = w.length - k ∧ T 0 = (V.sl (List.map cI (w))) ∧ T 1 = (V.fn g [] caps) ∧ T 7 = (iV ((w.length : Nat) : Int)) ∧ T 8 = (iV ((k : Nat) : Int)) ∧ (k ≤ w.length) ∧ (fi (fun j => p (nth w j)) 0 w.length = fi (fun j => p (nth w j)) k (w.length - k))) ?_ ?_
 ·
  refine ⟨_, 0, rfl, t0, t1, t7, (Eq.trans t8 (by first | rfl | simp)), ?_, ?_⟩
  · omega
  · rfl
 intro mm T H ⟨k, hmm, t0, t1, t7, t8, hk, hc⟩ Q2 p12 p22 p32
 unfold b120_0
 refine W_seq_regc (fun T H => T 0 = (V.sl (List.map cI (w))) ∧ T 1 = (V.fn g [] caps) ∧ T 7 = (iV ((w.length : Nat) : Int)) ∧ T 8 = (iV ((k : Nat) : Int)) ∧ T 9 = (V.bool (decide (((k : Nat) : Int) < ((w.length : Nat) : Int)))) ∧ True) ?_ ?_
 ·
  unfold r120_2
  refine R_lss (x := ((k : Nat) : Int)) (y := ((w.length : Nat) : Int)) t8 t7 ?_
  exact R_nil ⟨t0, t1, t7, t8, rfl, trivial⟩
 intro T H ⟨t0, t1, t7, t8, t9, _⟩
 refine W_seq_if (p := ((k : Nat) : Int) < ((w.length : Nat) : Int)) t9 (fun c3 => ?_) (fun c3 => ?_)
 ·
  refine W_seq_skip ?_
  refine W_seq_blockg fun Q4 n4 x4 y4 z4 => ?_
  refine W_seq_regc (fun T H => T 0 = (V.sl (List.map cI (w))) ∧ T 1 = (V.fn g [] caps) ∧ T 5 = (iV ((k : Nat) : Int)) ∧ T 7 = (iV ((w.length : Nat) : Int)) ∧ T 8 = (iV ((k : Nat) : Int)) ∧ True) ?_ ?_
  ·
   unfold r120_3
   refine R_mv t8 ?_
   refine R_mv (@rfl V (iV ((k : Nat) : Int))) ?_
   exact R_nil ⟨t0, t1, rfl, t7, t8, trivial⟩
  intro T H ⟨t0, t1, t5, t7, t8, _⟩
  refine W_seq_regc (fun T H => T 0 = (V.sl (List.map cI (w))) ∧ T 1 = (V.fn g [] caps) ∧ T 5 = (iV ((k : Nat) : Int)) ∧ T 7 = (iV ((w.length : Nat) : Int)) ∧ T 8 = (iV ((k : Nat) : Int)) ∧ T 16 = (V.bool (p (nth w k))) ∧ True) ?_ ?_
  ·
   unfold r120_4
   refine R_mv t1 ?_
   refine R_mv t0 ?_
   refine R_mv t5 ?_
   refine R_idx (i := k) (@rfl V (V.sl (List.map cI (w)))) (@rfl V (iV ((k : Nat) : Int))) (by omega) rfl ?_
   refine R_load_pp (v := (iV ((nth (w) (k))))) (@rfl V (V.pp [(iV ((nth (w) (k))))])) (by first | rfl | simp [ldV]) ?_
   refine R_callv (@rfl V (V.fn g [] caps)) (evcons (@rfl V (iV ((nth (w) (k))))) evnil) (hq k (by omega)) (fzv_mapcanon _ _ (by simp [hca])) (by simp [hpu]) (Or.inl (by simp [hpu])) ?_
   exact R_nil ⟨t0, t1, t5, t7, t8, rfl, trivial⟩
  intro T H ⟨t0, t1, t5, t7, t8, t16, _⟩
  refine W_ifb t16 (fun c5 => ?_) (fun c5 => ?_)
  ·
   have d1 := c5
   refine W_seq_regc (fun T H => T 4 = (iV ((k : Nat) : Int)) ∧ True) ?_ ?_
   ·
    unfold r120_5
    refine R_mv t5 ?_
    refine R_mv (@rfl V (iV ((k : Nat) : Int))) ?_
    exact R_nil ⟨rfl, trivial⟩
   intro T H ⟨t4, _⟩
   refine W_ret ?_
   refine y4 _ _ ?_
   refine p22 _ _ ?_
   refine y1 _ _ ?_
   refine Ret_1 t4 (fz_int ?_)
   · rw [hc, fi_hit (by exact d1) (by omega)]
  have d1 := c5
  refine W_skip ?_
  refine n4 _ _ ?_
  refine .done ?_
  refine W_regc (fun T H => T 0 = (V.sl (List.map cI (w))) ∧ T 1 = (V.fn g [] caps) ∧ T 7 = (iV ((w.length : Nat) : Int)) ∧ T 8 = (iV ((k + 1 : Nat) : Int)) ∧ True) ?_ ?_
  ·
   unfold r120_6
   refine R_addN (m := k) (n := 1) t8 (@rfl V (iV ((1 : Nat) : Int))) (by omega) ?_
   refine R_mv (@rfl V (iV ((k + 1 : Nat) : Int))) ?_
   exact R_nil ⟨t0, t1, t7, rfl, trivial⟩
  intro T H ⟨t0, t1, t7, t8, _⟩
  refine p12 _ _ _ ?_ ⟨(k + 1), rfl, t0, t1, t7, (Eq.trans t8 (by first | rfl | simp)), ?_, ?_⟩
  · omega
  · omega
  · rw [hc, fi_skip (by exact d1) (by omega)]
 refine W_seq_exit ?_
 refine p32 _ _ _ ?_
 refine x1 _ _ ?_
 refine .done ?_
 refine W_seq_regc (fun T H => T 4 = (iV (-1 : Int)) ∧ True) ?_ ?_
 ·
  unfold r120_7
  refine R_mv (@rfl V (iV (-1 : Int))) ?_
  exact R_nil ⟨rfl, trivial⟩
 intro T H ⟨t4, _⟩
 refine W_ret ?_
 refine Ret_1 t4 (fz_int ?_)
 · rw [hc, fi_end (by omega)]
end Go.Proofs.Ytngkckefanbhgaa

namespace Go.Proofs.Ytngkckefanbhgaa
open Go Go.Proofs
theorem coni_pure (p : Int → Bool) (w : List Int) (g : Nat) (caps : List V) (hca : canonL caps = true) (hpu : pureL caps = true) (hq : ∀ k, k < w.length → PureC Try.prog g (iV (nth w k) :: caps) (.bool (p (nth w k)))) : PureC Try.prog 105 [(V.sl (List.map cI (w))), (V.fn g [] caps)] (V.bool (decide (0 ≤ fi (fun j => p (nth w j)) 0 w.length))) := by
 refine pure_of_Wb true 6 Try.func105 s105_ok (by kernel_rfl) (by simp [s105]) (by simp [hpu]) (by simp) fun hB => ?_
 simp only [bnd_map, bnd_int, bnd_bool, bnd_str, bnd_agg, bnd_pp, bnd_nil, bnd_cons, implies_true, and_true, true_and] at hB
 unfold s105
 dsimp only
 refine W_seq_regc (fun T H => T 0 = (V.sl (List.map cI (w))) ∧ T 1 = (V.fn g [] caps) ∧ True) ?_ ?_
 ·
  unfold r105_0
  refine R_mv (@rfl V (V.bool false)) ?_
  exact R_nil ⟨rfl, rfl, trivial⟩
 intro T H ⟨t0, t1, _⟩
 refine W_seq_regc (fun T H => T 4 = (V.bool (decide ((0 : Int) ≤ (fi (fun j => p (nth w j)) 0 w.length)))) ∧ True) ?_ ?_
 ·
  unfold r105_1
  refine R_mv t0 ?_
  refine R_mv t1 ?_
  refine R_call (evcons (@rfl V (V.sl (List.map cI (w)))) (evcons (@rfl V (V.fn g [] caps)) evnil)) (idxi_pure p w g caps hca hpu hq) (fzv_mapcanon _ _ (by simp [hca, hpu, -List.map_take, -List.map_drop, -List.map_append, -List.map_reverse])) (by simp [hca, hpu, -List.map_take, -List.map_drop, -List.map_append, -List.map_reverse]) (Or.inl (by simp [hca, hpu, -List.map_take, -List.map_drop, -List.map_append, -List.map_reverse])) ?_
  refine R_geq (x := (fi (fun j => p (nth w j)) 0 w.length)) (y := (0 : Int)) (@rfl V (iV (fi (fun j => p (nth w j)) 0 w.length))) (@rfl V (iV (0 : Int))) ?_
  refine R_mv (@rfl V (V.bool (decide ((0 : Int) ≤ (fi (fun j => p (nth w j)) 0 w.length))))) ?_
  exact R_nil ⟨rfl, trivial⟩
 intro T H ⟨t4, _⟩
 refine W_ret ?_
 refine Ret_1 t4 (fz_bool ?_)
 · first | rfl | omega | simp_all
end Go.Proofs.Ytngkckefanbhgaa

namespace Go.Proofs.Ytngkckefanbhgaa
open Go Go.Proofs
theorem check1_pure (a n : Int) : PureC Try.prog 106 [(iV (a)), (V.pp [(iV (n))])] (V.bool (decide (a < 0 ∨ n ≤ a))) := by
 refine pure_of_Wb true 6 Try.func106 s106_ok (by kernel_rfl) (by simp [s106]) (by simp) (by simp) fun hB => ?_
 simp only [bnd_map, bnd_int, bnd_bool, bnd_str, bnd_agg, bnd_pp, bnd_nil, bnd_cons, implies_true, and_true, true_and] at hB
 unfold s106
 dsimp only
 refine W_seq_regc (fun T H => T 0 = (iV (a)) ∧ T 1 = (V.pp [(iV (n))]) ∧ True) ?_ ?_
 ·
  unfold r106_0
  refine R_mv (@rfl V (V.bool false)) ?_
  exact R_nil ⟨rfl, rfl, trivial⟩
 intro T H ⟨t0, t1, _⟩
 refine W_seq_regc (fun T H => T 3 = (V.bool (decide (((a) < (0 : Int)) ∨ ((n) ≤ (a))))) ∧ True) ?_ ?_
 ·
  unfold r106_1
  refine R_mv t0 ?_
  refine R_lss (x := (a)) (y := (0 : Int)) (@rfl V (iV (a))) (@rfl V (iV (0 : Int))) ?_
  refine R_mv (@rfl V (V.bool (decide ((a) < (0 : Int))))) ?_
  refine Ops_seg 4 (fun T H => T 10 = (V.bool (decide (((a) < (0 : Int)) ∨ ((n) ≤ (a))))) ∧ True) ?_ ?_
  ·
   by_cases g1 : (a) < (0 : Int)
   ·
    refine G_no (Eq.trans (@rfl V (V.bool (decide ((a) < (0 : Int))))) (bdT g1)) (by decide) ?_
    refine G_no (Eq.trans (@rfl V (V.bool (decide ((a) < (0 : Int))))) (bdT g1)) (by decide) ?_
    refine G_no (Eq.trans (@rfl V (V.bool (decide ((a) < (0 : Int))))) (bdT g1)) (by decide) ?_
    refine R_pickT (Eq.trans (@rfl V (V.bool (decide ((a) < (0 : Int))))) (bdT g1)) (@rfl V (V.bool true)) ?_
    exact ⟨(Eq.trans (@rfl V (V.bool true)) (dec_orT g1)), trivial⟩
   ·
    refine G_yes (Eq.trans (@rfl V (V.bool (decide ((a) < (0 : Int))))) (bdF g1)) ?_
    refine R_mv t0 ?_
    refine G_yes (Eq.trans (@rfl V (V.bool (decide ((a) < (0 : Int))))) (bdF g1)) ?_
    refine R_load_pp (v := (iV (n))) t1 (by first | rfl | simp [ldV]) ?_
    refine G_yes (Eq.trans (@rfl V (V.bool (decide ((a) < (0 : Int))))) (bdF g1)) ?_
    refine R_geq (x := (a)) (y := (n)) (@rfl V (iV (a))) (@rfl V (iV (n))) ?_
    refine R_pickF (Eq.trans (@rfl V (V.bool (decide ((a) < (0 : Int))))) (bdF g1)) (@rfl V (V.bool (decide ((n) ≤ (a))))) ?_
    exact ⟨(Eq.trans (@rfl V (V.bool (decide ((n) ≤ (a))))) (dec_orF g1)), trivial⟩
  intro T H ⟨t10, _⟩
  refine R_mv t10 ?_
  exact R_nil ⟨rfl, trivial⟩
 intro T H ⟨t3, _⟩
 refine W_ret ?_
 refine Ret_1 t3 (fz_bool ?_)
 · first | rfl | omega | simp_all
end Go.Proofs.Ytngkckefanbhgaa

namespace Go.Proofs.Ytngkckefanbhgaa
open Go Go.Proofs
theorem check_pure (w : List Int) (n : Int) : PureC Try.prog 77 [(V.sl (List.map cI (w))), (iV (n))] (iV (wchk w n)) := by
 refine pure_of_Wb true 6 Try.func77 s77_ok (by kernel_rfl) (by simp [s77]) (by simp) (by simp) fun hB => ?_
 simp only [bnd_map, bnd_int, bnd_bool, bnd_str, bnd_agg, bnd_pp, bnd_nil, bnd_cons, implies_true, and_true, true_and] at hB
 unfold s77
 dsimp only
 refine W_seq_regc (fun T H => T 0 = (V.sl (List.map cI (w))) ∧ T 3 = (V.mp 3 1 0 0) ∧ H 3 = (⟨1, true, false, 3, 1, [[(iV (n))]]⟩ : Blk) ∧ True) ?_ ?_
 ·
  unfold r77_0
  refine R_box (i := 3) (n := 0) (m := 1) (cs := [(iV (n))]) rfl (congrArg Blk.ver rfl) (@rfl V (iV (n))) rfl rfl ?_
  refine R_mv (@rfl V (iV (0 : Int))) ?_
  exact R_nil ⟨rfl, rfl, rfl, trivial⟩
 intro T H ⟨t0, t3, h3, _⟩
 refine W_seq_blockg fun Q1 n1 x1 y1 z1 => ?_
 refine W_seq_regc (fun T H => T 0 = (V.sl (List.map cI (w))) ∧ T 3 = (V.mp 3 1 0 0) ∧ T 5 = (V.bool (decide (¬(1 ≤ ((n)) ∧ ((n)) ≤ 1024)))) ∧ H 3 = (⟨1, true, false, 3, 1, [[(iV (n))]]⟩ : Blk) ∧ True) ?_ ?_
 ·
  unfold r77_1
  refine R_load_mp (v := (iV (n))) t3 h3 (by first | rfl | simp [ldB, ldV, Blk.own, V.one]) ?_
  refine R_call (evcons (@rfl V (iV (n))) evnil) (permitted_pure ((n))) (fzv_mapcanon _ _ (by simp [-List.map_take, -List.map_drop, -List.map_append, -List.map_reverse])) (by simp [-List.map_take, -List.map_drop, -List.map_append, -List.map_reverse]) (Or.inl (by simp [-List.map_take, -List.map_drop, -List.map_append, -List.map_reverse])) ?_
  refine R_not (p := 1 ≤ ((n)) ∧ ((n)) ≤ 1024) (@rfl V (V.bool (decide (1 ≤ ((n)) ∧ ((n)) ≤ 1024)))) ?_
  refine R_mv (@rfl V (V.bool (decide (¬(1 ≤ ((n)) ∧ ((n)) ≤ 1024))))) ?_
  exact R_nil ⟨t0, t3, rfl, h3, trivial⟩
 intro T H ⟨t0, t3, t5, h3, _⟩
 refine W_if (p := ¬(1 ≤ ((n)) ∧ ((n)) ≤ 1024)) t5 (fun c2 => ?_) (fun c2 => ?_)
 ·
  refine W_seq_regc (fun T H => T 4 = (iV (2 : Int)) ∧ H 3 = (⟨1, true, false, 3, 1, [[(iV (n))]]⟩ : Blk) ∧ True) ?_ ?_
  ·
   unfold r77_2
   refine R_mv (@rfl V (iV (2 : Int))) ?_
   exact R_nil ⟨rfl, h3, trivial⟩
  intro T H ⟨t4, h3, _⟩
  refine W_ret ?_
  refine y1 _ _ ?_
  refine Ret_1 t4 (fz_int ?_)
  · rw [wchk, if_pos (by omega)]
 refine W_seq_regc (fun T H => T 0 = (V.sl (List.map cI (w))) ∧ T 3 = (V.mp 3 1 0 0) ∧ T 9 = (V.bool (decide ((1024 : Int) < ((w.length : Nat) : Int)))) ∧ H 3 = (⟨1, true, false, 3, 1, [[(iV (n))]]⟩ : Blk) ∧ True) ?_ ?_
 ·
  unfold r77_3
  refine R_mv t0 ?_
  refine R_len (@rfl V (V.sl (List.map cI (w)))) ?_
  refine R_gtr (x := ((w.length : Nat) : Int)) (y := (1024 : Int)) (@rfl V (iV ((w.length : Nat) : Int))) (@rfl V (iV (1024 : Int))) ?_
  refine R_mv (@rfl V (V.bool (decide ((1024 : Int) < ((w.length : Nat) : Int))))) ?_
  exact R_nil ⟨t0, t3, rfl, h3, trivial⟩
 intro T H ⟨t0, t3, t9, h3, _⟩
 refine W_if (p := (1024 : Int) < ((w.length : Nat) : Int)) t9 (fun c3 => ?_) (fun c3 => ?_)
 ·
  refine W_seq_regc (fun T H => T 4 = (iV (3 : Int)) ∧ H 3 = (⟨1, true, false, 3, 1, [[(iV (n))]]⟩ : Blk) ∧ True) ?_ ?_
  ·
   unfold r77_4
   refine R_mv (@rfl V (iV (3 : Int))) ?_
   exact R_nil ⟨rfl, h3, trivial⟩
  intro T H ⟨t4, h3, _⟩
  refine W_ret ?_
  refine y1 _ _ ?_
  refine Ret_1 t4 (fz_int ?_)
  · rw [wchk, if_neg (by omega), if_pos (by omega)]
 refine W_seq_regc (fun T H => T 13 = (V.bool (decide (0 ≤ fi (fun j => (fun a => decide (a < 0 ∨ n ≤ a)) (nth w j)) 0 w.length))) ∧ H 3 = (⟨1, true, false, 3, 1, [[(iV (n))]]⟩ : Blk) ∧ True) ?_ ?_
 ·
  unfold r77_5
  refine R_mv t0 ?_
  refine R_mkf (evcons t3 evnil) ?_
  refine R_call (evcons (@rfl V (V.sl (List.map cI (w)))) (evcons (@rfl V (V.fn 106 [] [(V.mp 3 1 0 0)])) evnil)) (coni_pure (fun a => decide (a < 0 ∨ n ≤ a)) w 106 ([(V.pp [(iV (n))])]) (by simp) (by simp) (fun k _ => check1_pure (nth w k) n)) (mcons (fzv_canon 6 _ (by simp [-List.map_take, -List.map_drop, -List.map_append, -List.map_reverse])) (mcons (by simp [fzv, Blk.own, h3]) rfl)) (by simp [-List.map_take, -List.map_drop, -List.map_append, -List.map_reverse]) (Or.inr rfl) ?_
  refine R_mv (@rfl V (V.bool (decide (0 ≤ fi (fun j => (fun a => decide (a < 0 ∨ n ≤ a)) (nth w j)) 0 w.length)))) ?_
  exact R_nil ⟨rfl, h3, trivial⟩
 intro T H ⟨t13, h3, _⟩
 refine W_if (p := 0 ≤ fi (fun j => (fun a => decide (a < 0 ∨ n ≤ a)) (nth w j)) 0 w.length) t13 (fun c4 => ?_) (fun c4 => ?_)
 ·
  refine W_seq_regc (fun T H => T 4 = (iV (1 : Int)) ∧ H 3 = (⟨1, true, false, 3, 1, [[(iV (n))]]⟩ : Blk) ∧ True) ?_ ?_
  ·
   unfold r77_6
   refine R_mv (@rfl V (iV (1 : Int))) ?_
   exact R_nil ⟨rfl, h3, trivial⟩
  intro T H ⟨t4, h3, _⟩
  refine W_ret ?_
  refine y1 _ _ ?_
  refine Ret_1 t4 (fz_int ?_)
  · have e : (0 ≤ fi (fun j => (fun a => decide (a < 0 ∨ n ≤ a)) (nth w j)) 0 w.length ↔ fe (wE w n) 0 w.length = 1) ∧ (fe (wE w n) 0 w.length = 0 ∨ fe (wE w n) 0 w.length = 1) := in_fe w n w.length 0
    rw [wchk, if_neg (by omega), if_neg (by omega)]; omega
 refine W_skip ?_
 refine n1 _ _ ?_
 refine .done ?_
 refine W_seq_regc (fun T H => T 4 = (iV (0 : Int)) ∧ H 3 = (⟨1, true, false, 3, 1, [[(iV (n))]]⟩ : Blk) ∧ True) ?_ ?_
 ·
  unfold r77_7
  refine R_mv (@rfl V (iV (0 : Int))) ?_
  exact R_nil ⟨rfl, h3, trivial⟩
 intro T H ⟨t4, h3, _⟩
 refine W_ret ?_
 refine Ret_1 t4 (fz_int ?_)
 · have e : (0 ≤ fi (fun j => (fun a => decide (a < 0 ∨ n ≤ a)) (nth w j)) 0 w.length ↔ fe (wE w n) 0 w.length = 1) ∧ (fe (wE w n) 0 w.length = 0 ∨ fe (wE w n) 0 w.length = 1) := in_fe w n w.length 0
   rw [wchk, if_neg (by omega), if_neg (by omega)]; omega
end Go.Proofs.Ytngkckefanbhgaa

namespace Go.Proofs.Ytngkckefanbhgaa
open Go Go.Proofs
theorem move_pure (m : M) (s a : Int) (hs : 0 ≤ s ∧ s < m.nx.length ∧ m.ot.length = m.nx.length) (ha : 0 ≤ a ∧ a < (nth m.nx s.toNat).length ∧ a < (nth m.ot s.toNat).length) : PureC Try.prog 113 [(V.agg [(iV (m.i)), (iV (m.s)), (V.sl (List.map cL (m.nx))), (V.sl (List.map cL (m.ot)))]), (iV (s)), (iV (a))] (V.tup [(iV (cell m.nx s a)), (iV (cell m.ot s a))]) := by
 refine pure_of_Wb true 6 Try.func113 s113_ok (by kernel_rfl) (by simp [s113]) (by simp) (by simp) fun hB => ?_
 simp only [bnd_map, bnd_int, bnd_bool, bnd_str, bnd_agg, bnd_pp, bnd_nil, bnd_cons, implies_true, and_true, true_and] at hB
 unfold s113
 dsimp only
 refine W_seq_regc (fun T H => T 1 = (iV (s)) ∧ T 2 = (iV (a)) ∧ T 3 = (V.mp 3 1 0 0) ∧ H 3 = (⟨1, true, false, 120, 4, [[(iV (m.i)), (iV (m.s)), (V.sl (List.map cL (m.nx))), (V.sl (List.map cL (m.ot)))]]⟩ : Blk) ∧ True) ?_ ?_
 ·
  unfold r113_0
  refine R_box (i := 3) (n := 0) (m := 4) (cs := [(iV (m.i)), (iV (m.s)), (V.sl (List.map cL (m.nx))), (V.sl (List.map cL (m.ot)))]) rfl (congrArg Blk.ver rfl) (@rfl V (V.agg [(iV (m.i)), (iV (m.s)), (V.sl (List.map cL (m.nx))), (V.sl (List.map cL (m.ot)))])) rfl rfl ?_
  refine R_mv (@rfl V (iV (0 : Int))) ?_
  refine R_mv (@rfl V (iV (0 : Int))) ?_
  exact R_nil ⟨rfl, rfl, rfl, rfl, trivial⟩
 intro T H ⟨t1, t2, t3, h3, _⟩
 refine W_seq_regc (fun T H => T 6 = (iV ((nth ((nth (m.nx) (s).toNat)) (a).toNat))) ∧ T 7 = (iV ((nth ((nth (m.ot) (s).toNat)) (a).toNat))) ∧ H 3 = (⟨1, true, false, 120, 4, [[(iV (m.i)), (iV (m.s)), (V.sl (List.map cL (m.nx))), (V.sl (List.map cL (m.ot)))]]⟩ : Blk) ∧ True) ?_ ?_
 ·
  unfold r113_1
  refine R_fld_mp (o' := 0) t3 h3 (by first | rfl | simp [okB, Blk.own]) rfl ?_
  refine R_fld_mp (o' := 2) (@rfl V (V.mp 3 1 0 0)) h3 (by first | rfl | simp [okB, Blk.own]) rfl ?_
  refine R_load_mp (v := (V.sl (List.map cL (m.nx)))) (@rfl V (V.mp 3 1 0 2)) h3 (by first | rfl | simp [ldB, ldV, Blk.own, V.one]) ?_
  refine R_mv t1 ?_
  refine R_idxI (i := (s)) (@rfl V (V.sl (List.map cL (m.nx)))) (@rfl V (iV (s))) (by omega) (by omega) rfl ?_
  refine R_load_pp (v := (V.sl (List.map cI ((nth (m.nx) (s).toNat))))) (@rfl V (V.pp [(V.sl (List.map cI ((nth (m.nx) (s).toNat))))])) (by first | rfl | simp [ldV]) ?_
  refine R_mv t2 ?_
  refine R_idxI (i := (a)) (@rfl V (V.sl (List.map cI ((nth (m.nx) (s).toNat))))) (@rfl V (iV (a))) (by omega) (by omega) rfl ?_
  refine R_load_pp (v := (iV ((nth ((nth (m.nx) (s).toNat)) (a).toNat)))) (@rfl V (V.pp [(iV ((nth ((nth (m.nx) (s).toNat)) (a).toNat)))])) (by first | rfl | simp [ldV]) ?_
  refine R_fld_mp (o' := 0) t3 h3 (by first | rfl | simp [okB, Blk.own]) rfl ?_
  refine R_fld_mp (o' := 3) (@rfl V (V.mp 3 1 0 0)) h3 (by first | rfl | simp [okB, Blk.own]) rfl ?_
  refine R_load_mp (v := (V.sl (List.map cL (m.ot)))) (@rfl V (V.mp 3 1 0 3)) h3 (by first | rfl | simp [ldB, ldV, Blk.own, V.one]) ?_
  refine R_mv t1 ?_
  refine R_idxI (i := (s)) (@rfl V (V.sl (List.map cL (m.ot)))) (@rfl V (iV (s))) (by omega) (by omega) rfl ?_
  refine R_load_pp (v := (V.sl (List.map cI ((nth (m.ot) (s).toNat))))) (@rfl V (V.pp [(V.sl (List.map cI ((nth (m.ot) (s).toNat))))])) (by first | rfl | simp [ldV]) ?_
  refine R_mv t2 ?_
  refine R_idxI (i := (a)) (@rfl V (V.sl (List.map cI ((nth (m.ot) (s).toNat))))) (@rfl V (iV (a))) (by omega) (by omega) rfl ?_
  refine R_load_pp (v := (iV ((nth ((nth (m.ot) (s).toNat)) (a).toNat)))) (@rfl V (V.pp [(iV ((nth ((nth (m.ot) (s).toNat)) (a).toNat)))])) (by first | rfl | simp [ldV]) ?_
  refine R_mv (@rfl V (iV ((nth ((nth (m.nx) (s).toNat)) (a).toNat)))) ?_
  refine R_mv (@rfl V (iV ((nth ((nth (m.ot) (s).toNat)) (a).toNat)))) ?_
  exact R_nil ⟨rfl, rfl, h3, trivial⟩
 intro T H ⟨t6, t7, h3, _⟩
 refine W_ret ?_
 refine Ret_2 t6 t7 (fz_int ?_) (fz_int ?_)
 · rfl
 · rfl
end Go.Proofs.Ytngkckefanbhgaa

namespace Go.Proofs.Ytngkckefanbhgaa
open Go Go.Proofs
theorem run_E (m : M) (s : Int) (w : List Int) (v1 v5 : Nat) (Hi : Heap) (hb : Hi 30 = (⟨v1, true, false, 122, 5, [[(iV (m.i)), (iV (m.s)), (V.sl (List.map cL (m.nx))), (V.sl (List.map cL (m.ot))), (iV (s))]]⟩ : Blk)) (h105 : (Hi 105).ver = v5) (hm : mval m = 0) (hs : 0 ≤ s ∧ s < m.nx.length) (hl : w.length ≤ 1024) (hw : ∀ k, k < w.length → 0 ≤ nth w k ∧ nth w k < m.i) : CallOK Try.prog 94 [(V.mp 30 v1 0 0), (V.sl (List.map cI (w)))] Hi (V.sl (List.map cI (outs m s w))) (upd (upd Hi 105 (⟨v5 + 1 + w.length, false, false, 0, 0, []⟩ : Blk)) 30 (⟨v1, true, false, 122, 5, [[(iV (m.i)), (iV (m.s)), (V.sl (List.map cL (m.nx))), (V.sl (List.map cL (m.ot))), (iV (goal m s w))]]⟩ : Blk)) := by
 refine CallOK_of_Wf (k0 := 100) Try.func94 s94_ok (by kernel_rfl) (by simp [s94]) fun hB => ?_
 simp only [bnd_map, bnd_int, bnd_bool, bnd_str, bnd_agg, bnd_pp, bnd_nil, bnd_cons, implies_true, and_true, true_and] at hB
 unfold s94
 dsimp only
 refine W_seq_regc (fun T H => T 0 = (V.mp 30 v1 0 0) ∧ T 1 = (V.sl (List.map cI (w))) ∧ (∀ j, j ∉ [105, 30] → H j = Hi j) ∧ H 30 = (⟨v1, true, false, 122, 5, [[(iV (m.i)), (iV (m.s)), (V.sl (List.map cL (m.nx))), (V.sl (List.map cL (m.ot))), (iV (s))]]⟩ : Blk) ∧ (H 105).ver = v5 ∧ True) ?_ ?_
 ·
  unfold r94_0
  refine R_mv (@rfl V V.nilsl) ?_
  exact R_nil ⟨rfl, rfl, (fun _ _ => rfl), hb, h105, trivial⟩
 intro T H ⟨t0, t1, hF, h30, h105, _⟩
 refine W_seq_regc (fun T H => T 0 = (V.mp 30 v1 0 0) ∧ T 1 = (V.sl (List.map cI (w))) ∧ T 5 = (V.ms 105 (v5 + 1) 0 (0)) ∧ (∀ j, j ∉ [105, 30] → H j = Hi j) ∧ H 30 = (⟨v1, true, false, 122, 5, [[(iV (m.i)), (iV (m.s)), (V.sl (List.map cL (m.nx))), (V.sl (List.map cL (m.ot))), (iV (s))]]⟩ : Blk) ∧ H 105 = (⟨v5 + 1, true, true, 3, 1, []⟩ : Blk) ∧ True) ?_ ?_
 ·
  unfold r94_1
  refine R_lazy (i := 105) (n := v5) rfl h105 ?_
  exact R_nil ⟨t0, t1, rfl, (upd_out hF (by decide)), h30, rfl, trivial⟩
 intro T H ⟨t0, t1, t5, hF, h30, h105, _⟩
 refine W_seq_seq ?_
 refine W_seq_regc (fun T H => T 0 = (V.mp 30 v1 0 0) ∧ T 5 = (V.ms 105 (v5 + 1) 0 (0)) ∧ T 10 = (V.sl (List.map cI (w))) ∧ T 11 = (iV ((w.length : Nat) : Int)) ∧ T 12 = (iV (0 : Int)) ∧ (∀ j, j ∉ [105, 30] → H j = Hi j) ∧ H 30 = (⟨v1, true, false, 122, 5, [[(iV (m.i)), (iV (m.s)), (V.sl (List.map cL (m.nx))), (V.sl (List.map cL (m.ot))), (iV (s))]]⟩ : Blk) ∧ H 105 = (⟨v5 + 1, true, true, 3, 1, []⟩ : Blk) ∧ True) ?_ ?_
 ·
  unfold r94_2
  refine R_mv t1 ?_
  refine R_len (@rfl V (V.sl (List.map cI (w)))) ?_
  refine R_mv (@rfl V (iV (0 : Int))) ?_
  exact R_nil ⟨t0, t5, rfl, rfl, rfl, hF, h30, h105, trivial⟩
 intro T H ⟨t0, t5, t10, t11, t12, hF, h30, h105, _⟩
 refine W_seq_blockg fun Q1 n1 x1 y1 z1 => ?_
 refine W_loop (fun mm T H => ∃ (k : Nat), mm = w.length - k ∧ T 0 = (V.mp 30 v1 0 0) ∧ T 5 = (V.ms 105 (v5 + 1 + k) 0 (k)) ∧ T 10 = (V.sl (List.map cI (w))) ∧ T 11 = (iV ((w.length : Nat) : Int)) ∧ T 12 = (iV ((k : Nat) : Int)) ∧ (∀ j, j ∉ [105, 30] → H j = Hi j) ∧ H 30 = (⟨v1, true, false, 122, 5, [[(iV (m.i)), (iV (m.s)), (V.sl (List.map cL (m.nx))), (V.sl (List.map cL (m.ot))), (iV (goal m s (w.take k)))]]⟩ : Blk) ∧ H 105 = (⟨v5 + 1 + k, true, true, 3, 1, (List.map cI (outs m s (w.take k)))⟩ : Blk) ∧ (k ≤ w.length)) ?_ ?_
 ·
  refine ⟨_, 0, rfl, t0, (Eq.trans t5 (by first | rfl | (have e : k = w.length := (by omega); subst e; rw [List.take_length]; done))), t10, t11, (Eq.trans t12 (by first | rfl | (have e : k = w.length := (by omega); subst e; rw [List.take_length]; done))), hF, (Eq.trans h30 (by first | rfl | (rw [outs_step m s (by omega)]; rfl) | (rw [goal_step m s (by omega)]) | (have e : k = w.length := (by omega); subst e; rw [List.take_length]; done))), (Eq.trans h105 (by first | rfl | (rw [outs_step m s (by omega)]; rfl) | (rw [goal_step m s (by omega)]) | (have e : k = w.length := (by omega); subst e; rw [List.take_length]; done))), ?_⟩
  · omega
 intro mm T H ⟨k, hmm, t0, t5, t10, t11, t12, hF, h30, h105, hk⟩ Q2 p12 p22 p32
 unfold b94_0
 refine W_seq_regc (fun T H => T 0 = (V.mp 30 v1 0 0) ∧ T 5 = (V.ms 105 (v5 + 1 + k) 0 (k)) ∧ T 10 = (V.sl (List.map cI (w))) ∧ T 11 = (iV ((w.length : Nat) : Int)) ∧ T 12 = (iV ((k : Nat) : Int)) ∧ T 13 = (V.bool (decide (((k : Nat) : Int) < ((w.length : Nat) : Int)))) ∧ (∀ j, j ∉ [105, 30] → H j = Hi j) ∧ H 30 = (⟨v1, true, false, 122, 5, [[(iV (m.i)), (iV (m.s)), (V.sl (List.map cL (m.nx))), (V.sl (List.map cL (m.ot))), (iV (goal m s (w.take k)))]]⟩ : Blk) ∧ H 105 = (⟨v5 + 1 + k, true, true, 3, 1, (List.map cI (outs m s (w.take k)))⟩ : Blk) ∧ True) ?_ ?_
 ·
  unfold r94_3
  refine R_lss (x := ((k : Nat) : Int)) (y := ((w.length : Nat) : Int)) t12 t11 ?_
  exact R_nil ⟨t0, t5, t10, t11, t12, rfl, hF, h30, h105, trivial⟩
 intro T H ⟨t0, t5, t10, t11, t12, t13, hF, h30, h105, _⟩
 refine W_seq_if (p := ((k : Nat) : Int) < ((w.length : Nat) : Int)) t13 (fun c3 => ?_) (fun c3 => ?_)
 ·
  have h1 := run_at hm hs hw (k := k) (by omega)
  refine W_seq_skip ?_
  refine W_seq_blockg fun Q4 n4 x4 y4 z4 => ?_
  refine W_seq_regc (fun T H => T 0 = (V.mp 30 v1 0 0) ∧ T 5 = (V.ms 105 (v5 + 1 + k) 0 (k)) ∧ T 7 = (iV ((nth (w) (k)))) ∧ T 10 = (V.sl (List.map cI (w))) ∧ T 11 = (iV ((w.length : Nat) : Int)) ∧ T 12 = (iV ((k : Nat) : Int)) ∧ (∀ j, j ∉ [105, 30] → H j = Hi j) ∧ H 30 = (⟨v1, true, false, 122, 5, [[(iV (m.i)), (iV (m.s)), (V.sl (List.map cL (m.nx))), (V.sl (List.map cL (m.ot))), (iV (goal m s (w.take k)))]]⟩ : Blk) ∧ H 105 = (⟨v5 + 1 + k, true, true, 3, 1, (List.map cI (outs m s (w.take k)))⟩ : Blk) ∧ True) ?_ ?_
  ·
   unfold r94_4
   refine R_idx (i := k) t10 t12 (by omega) rfl ?_
   refine R_load_pp (v := (iV ((nth (w) (k))))) (@rfl V (V.pp [(iV ((nth (w) (k))))])) (by first | rfl | simp [ldV]) ?_
   refine R_mv (@rfl V (iV ((nth (w) (k))))) ?_
   exact R_nil ⟨t0, t5, rfl, t10, t11, t12, hF, h30, h105, trivial⟩
  intro T H ⟨t0, t5, t7, t10, t11, t12, hF, h30, h105, _⟩
  refine W_seq_regc (fun T H => T 0 = (V.mp 30 v1 0 0) ∧ T 5 = (V.ms 105 (v5 + 1 + k) 0 (k)) ∧ T 8 = (iV (cell m.nx ((goal m s (w.take k))) (((nth (w) (k)))))) ∧ T 9 = (iV (cell m.ot ((goal m s (w.take k))) (((nth (w) (k)))))) ∧ T 10 = (V.sl (List.map cI (w))) ∧ T 11 = (iV ((w.length : Nat) : Int)) ∧ T 12 = (iV ((k : Nat) : Int)) ∧ (∀ j, j ∉ [105, 30] → H j = Hi j) ∧ H 30 = (⟨v1, true, false, 122, 5, [[(iV (m.i)), (iV (m.s)), (V.sl (List.map cL (m.nx))), (V.sl (List.map cL (m.ot))), (iV (goal m s (w.take k)))]]⟩ : Blk) ∧ H 105 = (⟨v5 + 1 + k, true, true, 3, 1, (List.map cI (outs m s (w.take k)))⟩ : Blk) ∧ True) ?_ ?_
  ·
   unfold r94_5
   refine R_mv t0 ?_
   refine R_nilck_mp (@rfl V (V.mp 30 v1 0 0)) h30 (by first | rfl | simp [okB, Blk.own]) ?_
   refine R_fld_mp (o' := 0) (@rfl V (V.mp 30 v1 0 0)) h30 (by first | rfl | simp [okB, Blk.own]) rfl ?_
   refine R_load_mp (v := (V.agg [(iV (m.i)), (iV (m.s)), (V.sl (List.map cL (m.nx))), (V.sl (List.map cL (m.ot)))])) (@rfl V (V.mp 30 v1 0 0)) h30 (by first | rfl | simp [ldB, ldV, Blk.own, V.one]) ?_
   refine R_mv t0 ?_
   refine R_nilck_mp (@rfl V (V.mp 30 v1 0 0)) h30 (by first | rfl | simp [okB, Blk.own]) ?_
   refine R_fld_mp (o' := 4) (@rfl V (V.mp 30 v1 0 0)) h30 (by first | rfl | simp [okB, Blk.own]) rfl ?_
   refine R_load_mp (v := (iV (goal m s (w.take k)))) (@rfl V (V.mp 30 v1 0 4)) h30 (by first | rfl | simp [ldB, ldV, Blk.own, V.one]) ?_
   refine R_mv t7 ?_
   refine R_call (evcons (@rfl V (V.agg [(iV (m.i)), (iV (m.s)), (V.sl (List.map cL (m.nx))), (V.sl (List.map cL (m.ot)))])) (evcons (@rfl V (iV (goal m s (w.take k)))) (evcons (@rfl V (iV ((nth (w) (k))))) evnil))) (move_pure m ((goal m s (w.take k))) (((nth (w) (k)))) h1.1 h1.2) (fzv_mapcanon _ _ (by simp [-List.map_take, -List.map_drop, -List.map_append, -List.map_reverse])) (by simp [-List.map_take, -List.map_drop, -List.map_append, -List.map_reverse]) (Or.inl (by simp [-List.map_take, -List.map_drop, -List.map_append, -List.map_reverse])) ?_
   refine R_mv (@rfl V (V.tup [(iV (cell m.nx ((goal m s (w.take k))) (((nth (w) (k)))))), (iV (cell m.ot ((goal m s (w.take k))) (((nth (w) (k))))))])) ?_
   refine R_ext (v := (iV (cell m.nx ((goal m s (w.take k))) (((nth (w) (k))))))) (@rfl V (V.tup [(iV (cell m.nx ((goal m s (w.take k))) (((nth (w) (k)))))), (iV (cell m.ot ((goal m s (w.take k))) (((nth (w) (k))))))])) rfl ?_
   refine R_ext (v := (iV (cell m.ot ((goal m s (w.take k))) (((nth (w) (k))))))) (@rfl V (V.tup [(iV (cell m.nx ((goal m s (w.take k))) (((nth (w) (k)))))), (iV (cell m.ot ((goal m s (w.take k))) (((nth (w) (k))))))])) rfl ?_
   refine R_mv (@rfl V (iV (cell m.nx ((goal m s (w.take k))) (((nth (w) (k))))))) ?_
   refine R_mv (@rfl V (iV (cell m.ot ((goal m s (w.take k))) (((nth (w) (k))))))) ?_
   exact R_nil ⟨t0, t5, rfl, rfl, t10, t11, t12, hF, h30, h105, trivial⟩
  intro T H ⟨t0, t5, t8, t9, t10, t11, t12, hF, h30, h105, _⟩
  refine W_seq_regc (fun T H => T 0 = (V.mp 30 v1 0 0) ∧ T 5 = (V.ms 105 (v5 + 1 + k) 0 (k)) ∧ T 9 = (iV (cell m.ot ((goal m s (w.take k))) (((nth (w) (k)))))) ∧ T 10 = (V.sl (List.map cI (w))) ∧ T 11 = (iV ((w.length : Nat) : Int)) ∧ T 12 = (iV ((k : Nat) : Int)) ∧ (∀ j, j ∉ [105, 30] → H j = Hi j) ∧ H 30 = (⟨v1, true, false, 122, 5, [[(iV (m.i)), (iV (m.s)), (V.sl (List.map cL (m.nx))), (V.sl (List.map cL (m.ot))), (iV (cell m.nx ((goal m s (w.take k))) (((nth (w) (k))))))]]⟩ : Blk) ∧ H 105 = (⟨v5 + 1 + k, true, true, 3, 1, (List.map cI (outs m s (w.take k)))⟩ : Blk) ∧ True) ?_ ?_
  ·
   unfold r94_6
   refine R_mv t0 ?_
   refine R_mv t8 ?_
   refine R_nilck_mp (@rfl V (V.mp 30 v1 0 0)) h30 (by first | rfl | simp [okB, Blk.own]) ?_
   refine R_fld_mp (o' := 4) (@rfl V (V.mp 30 v1 0 0)) h30 (by first | rfl | simp [okB, Blk.own]) rfl ?_
   refine R_store (vs := [(iV (cell m.nx ((goal m s (w.take k))) (((nth (w) (k))))))]) (B' := (⟨v1, true, false, 122, 5, [[(iV (m.i)), (iV (m.s)), (V.sl (List.map cL (m.nx))), (V.sl (List.map cL (m.ot))), (iV (cell m.nx ((goal m s (w.take k))) (((nth (w) (k))))))]]⟩ : Blk)) (@rfl V (V.mp 30 v1 0 4)) (@rfl V (iV (cell m.nx ((goal m s (w.take k))) (((nth (w) (k))))))) rfl h30 (by first | rfl | simp [stB, okB, Blk.own, putAt, V.one]) ?_
   exact R_nil ⟨t0, t5, t9, t10, t11, t12, (upd_out hF (by decide)), rfl, h105, trivial⟩
  intro T H ⟨t0, t5, t9, t10, t11, t12, hF, h30, h105, _⟩
  refine W_regc (fun T H => T 0 = (V.mp 30 v1 0 0) ∧ T 5 = (V.ms 105 (v5 + 1 + k + 1) 0 (k + 1)) ∧ T 10 = (V.sl (List.map cI (w))) ∧ T 11 = (iV ((w.length : Nat) : Int)) ∧ T 12 = (iV ((k : Nat) : Int)) ∧ (∀ j, j ∉ [105, 30] → H j = Hi j) ∧ H 30 = (⟨v1, true, false, 122, 5, [[(iV (m.i)), (iV (m.s)), (V.sl (List.map cL (m.nx))), (V.sl (List.map cL (m.ot))), (iV (cell m.nx ((goal m s (w.take k))) (((nth (w) (k))))))]]⟩ : Blk) ∧ H 105 = (⟨v5 + 1 + k + 1, true, true, 3, 1, (List.map cI (outs m s (w.take k) ++ [(cell m.ot ((goal m s (w.take k))) (((nth (w) (k)))))]))⟩ : Blk) ∧ True) ?_ ?_
  ·
   unfold r94_7
   refine R_mv t5 ?_
   refine R_mv t9 ?_
   refine R_bslice (qs := [(0, (iV (cell m.ot ((goal m s (w.take k))) (((nth (w) (k)))))))]) (rows := [[(iV (cell m.ot ((goal m s (w.take k))) (((nth (w) (k))))))]]) (mcons (congrArg (fun v => (0, v)) (@rfl V (iV (cell m.ot ((goal m s (w.take k))) (((nth (w) (k)))))))) rfl) rfl ?_
   refine R_append1 (l := (outs m s (w.take k))) (f := cI) (x := ((cell m.ot ((goal m s (w.take k))) (((nth (w) (k))))))) (@rfl V (V.ms 105 (v5 + 1 + k) 0 (k))) h105 (by first | rfl | (simp only [outs_len, List.length_take]; omega)) (@rfl V (V.sl [[(iV (cell m.ot ((goal m s (w.take k))) (((nth (w) (k))))))]])) rfl rfl (by omega) (by omega) ?_
   refine R_mv (@rfl V (V.ms 105 (v5 + 1 + k + 1) 0 (k + 1))) ?_
   exact R_nil ⟨t0, rfl, t10, t11, t12, (upd_out hF (by decide)), h30, rfl, trivial⟩
  intro T H ⟨t0, t5, t10, t11, t12, hF, h30, h105, _⟩
  refine n4 _ _ ?_
  refine .done ?_
  refine W_regc (fun T H => T 0 = (V.mp 30 v1 0 0) ∧ T 5 = (V.ms 105 (v5 + 1 + k + 1) 0 (k + 1)) ∧ T 10 = (V.sl (List.map cI (w))) ∧ T 11 = (iV ((w.length : Nat) : Int)) ∧ T 12 = (iV ((k + 1 : Nat) : Int)) ∧ (∀ j, j ∉ [105, 30] → H j = Hi j) ∧ H 30 = (⟨v1, true, false, 122, 5, [[(iV (m.i)), (iV (m.s)), (V.sl (List.map cL (m.nx))), (V.sl (List.map cL (m.ot))), (iV (cell m.nx ((goal m s (w.take k))) (((nth (w) (k))))))]]⟩ : Blk) ∧ H 105 = (⟨v5 + 1 + k + 1, true, true, 3, 1, (List.map cI (outs m s (w.take k) ++ [(cell m.ot ((goal m s (w.take k))) (((nth (w) (k)))))]))⟩ : Blk) ∧ True) ?_ ?_
  ·
   unfold r94_8
   refine R_addN (m := k) (n := 1) t12 (@rfl V (iV ((1 : Nat) : Int))) (by omega) ?_
   refine R_mv (@rfl V (iV ((k + 1 : Nat) : Int))) ?_
   exact R_nil ⟨t0, t5, t10, t11, rfl, hF, h30, h105, trivial⟩
  intro T H ⟨t0, t5, t10, t11, t12, hF, h30, h105, _⟩
  refine p12 _ _ _ ?_ ⟨(k + 1), rfl, t0, (Eq.trans t5 (by first | rfl | (have e : k = w.length := (by omega); subst e; rw [List.take_length]; done))), t10, t11, (Eq.trans t12 (by first | rfl | (have e : k = w.length := (by omega); subst e; rw [List.take_length]; done))), hF, (Eq.trans h30 (by first | rfl | (rw [outs_step m s (by omega)]; rfl) | (rw [goal_step m s (by omega)]) | (have e : k = w.length := (by omega); subst e; rw [List.take_length]; done))), (Eq.trans h105 (by first | rfl | (rw [outs_step m s (by omega)]; rfl) | (rw [goal_step m s (by omega)]) | (have e : k = w.length := (by omega); subst e; rw [List.take_length]; done))), ?_⟩
  · omega
  · omega
 refine W_seq_exit ?_
 refine p32 _ _ _ ?_
 refine x1 _ _ ?_
 refine .done ?_
 refine W_seq_regc (fun T H => T 4 = (V.ms 105 (v5 + 1 + k) 0 (k)) ∧ (∀ j, j ∉ [105, 30] → H j = Hi j) ∧ H 30 = (⟨v1, true, false, 122, 5, [[(iV (m.i)), (iV (m.s)), (V.sl (List.map cL (m.nx))), (V.sl (List.map cL (m.ot))), (iV (goal m s (w.take k)))]]⟩ : Blk) ∧ H 105 = (⟨v5 + 1 + k, true, true, 3, 1, (List.map cI (outs m s (w.take k)))⟩ : Blk) ∧ True) ?_ ?_
 ·
  unfold r94_9
  refine R_mv t5 ?_
  refine R_mv (@rfl V (V.ms 105 (v5 + 1 + k) 0 (k))) ?_
  exact R_nil ⟨rfl, hF, h30, h105, trivial⟩
 intro T H ⟨t4, hF, h30, h105, _⟩
 refine W_ret ?_
 have fh := FinX.fin (FinX.put (B := (⟨v1, true, false, 122, 5, [[(iV (m.i)), (iV (m.s)), (V.sl (List.map cL (m.nx))), (V.sl (List.map cL (m.ot))), (iV (goal m s w))]]⟩ : Blk)) (FinX.putv (n := (v5 + 1 + k)) (B := (⟨v5 + 1 + w.length, false, false, 0, 0, []⟩ : Blk)) (FinX.start hF) (congrArg Blk.ver h105) (by show _ ≤ v5 + 1 + w.length; omega) rfl) h30 (FinB.eq (by first | rfl | (rw [outs_step m s (by omega)]; rfl) | (rw [goal_step m s (by omega)]) | (have e : k = w.length := (by omega); subst e; rw [List.take_length]; done))))
 exact RetF_1 t4 fh (FinV.trans_eq (FinV.frz (rows := (List.map cI (outs m s (w.take k)))) fh (by simp [h105]) (by simp [h105]) rfl (by rw [h105]; exact take_map (l := (outs m s (w.take k))) (by first | rfl | (simp only [outs_len, List.length_take]; omega)))) (by first | rfl | (have e : k = w.length := (by omega); subst e; rw [List.take_length]; done)))
theorem run38_E (m : M) (s : Int) (w : List Int) (v1 v5 : Nat) (Hi : Heap) (hb : Hi 38 = (⟨v1, true, false, 122, 5, [[(iV (m.i)), (iV (m.s)), (V.sl (List.map cL (m.nx))), (V.sl (List.map cL (m.ot))), (iV (s))]]⟩ : Blk)) (h105 : (Hi 105).ver = v5) (hm : mval m = 0) (hs : 0 ≤ s ∧ s < m.nx.length) (hl : w.length ≤ 1024) (hw : ∀ k, k < w.length → 0 ≤ nth w k ∧ nth w k < m.i) : CallOK Try.prog 94 [(V.mp 38 v1 0 0), (V.sl (List.map cI (w)))] Hi (V.sl (List.map cI (outs m s w))) (upd (upd Hi 105 (⟨v5 + 1 + w.length, false, false, 0, 0, []⟩ : Blk)) 38 (⟨v1, true, false, 122, 5, [[(iV (m.i)), (iV (m.s)), (V.sl (List.map cL (m.nx))), (V.sl (List.map cL (m.ot))), (iV (goal m s w))]]⟩ : Blk)) := by
 refine CallOK_of_Wf (k0 := 100) Try.func94 s94_ok (by kernel_rfl) (by simp [s94]) fun hB => ?_
 simp only [bnd_map, bnd_int, bnd_bool, bnd_str, bnd_agg, bnd_pp, bnd_nil, bnd_cons, implies_true, and_true, true_and] at hB
 unfold s94
 dsimp only
 refine W_seq_regc (fun T H => T 0 = (V.mp 38 v1 0 0) ∧ T 1 = (V.sl (List.map cI (w))) ∧ (∀ j, j ∉ [105, 38] → H j = Hi j) ∧ H 38 = (⟨v1, true, false, 122, 5, [[(iV (m.i)), (iV (m.s)), (V.sl (List.map cL (m.nx))), (V.sl (List.map cL (m.ot))), (iV (s))]]⟩ : Blk) ∧ (H 105).ver = v5 ∧ True) ?_ ?_
 ·
  unfold r94_0
  refine R_mv (@rfl V V.nilsl) ?_
  exact R_nil ⟨rfl, rfl, (fun _ _ => rfl), hb, h105, trivial⟩
 intro T H ⟨t0, t1, hF, h38, h105, _⟩
 refine W_seq_regc (fun T H => T 0 = (V.mp 38 v1 0 0) ∧ T 1 = (V.sl (List.map cI (w))) ∧ T 5 = (V.ms 105 (v5 + 1) 0 (0)) ∧ (∀ j, j ∉ [105, 38] → H j = Hi j) ∧ H 38 = (⟨v1, true, false, 122, 5, [[(iV (m.i)), (iV (m.s)), (V.sl (List.map cL (m.nx))), (V.sl (List.map cL (m.ot))), (iV (s))]]⟩ : Blk) ∧ H 105 = (⟨v5 + 1, true, true, 3, 1, []⟩ : Blk) ∧ True) ?_ ?_
 ·
  unfold r94_1
  refine R_lazy (i := 105) (n := v5) rfl h105 ?_
  exact R_nil ⟨t0, t1, rfl, (upd_out hF (by decide)), h38, rfl, trivial⟩
 intro T H ⟨t0, t1, t5, hF, h38, h105, _⟩
 refine W_seq_seq ?_
 refine W_seq_regc (fun T H => T 0 = (V.mp 38 v1 0 0) ∧ T 5 = (V.ms 105 (v5 + 1) 0 (0)) ∧ T 10 = (V.sl (List.map cI (w))) ∧ T 11 = (iV ((w.length : Nat) : Int)) ∧ T 12 = (iV (0 : Int)) ∧ (∀ j, j ∉ [105, 38] → H j = Hi j) ∧ H 38 = (⟨v1, true, false, 122, 5, [[(iV (m.i)), (iV (m.s)), (V.sl (List.map cL (m.nx))), (V.sl (List.map cL (m.ot))), (iV (s))]]⟩ : Blk) ∧ H 105 = (⟨v5 + 1, true, true, 3, 1, []⟩ : Blk) ∧ True) ?_ ?_
 ·
  unfold r94_2
  refine R_mv t1 ?_
  refine R_len (@rfl V (V.sl (List.map cI (w)))) ?_
  refine R_mv (@rfl V (iV (0 : Int))) ?_
  exact R_nil ⟨t0, t5, rfl, rfl, rfl, hF, h38, h105, trivial⟩
 intro T H ⟨t0, t5, t10, t11, t12, hF, h38, h105, _⟩
 refine W_seq_blockg fun Q1 n1 x1 y1 z1 => ?_
 refine W_loop (fun mm T H => ∃ (k : Nat), mm = w.length - k ∧ T 0 = (V.mp 38 v1 0 0) ∧ T 5 = (V.ms 105 (v5 + 1 + k) 0 (k)) ∧ T 10 = (V.sl (List.map cI (w))) ∧ T 11 = (iV ((w.length : Nat) : Int)) ∧ T 12 = (iV ((k : Nat) : Int)) ∧ (∀ j, j ∉ [105, 38] → H j = Hi j) ∧ H 38 = (⟨v1, true, false, 122, 5, [[(iV (m.i)), (iV (m.s)), (V.sl (List.map cL (m.nx))), (V.sl (List.map cL (m.ot))), (iV (goal m s (w.take k)))]]⟩ : Blk) ∧ H 105 = (⟨v5 + 1 + k, true, true, 3, 1, (List.map cI (outs m s (w.take k)))⟩ : Blk) ∧ (k ≤ w.length)) ?_ ?_
 ·
  refine ⟨_, 0, rfl, t0, (Eq.trans t5 (by first | rfl | (have e : k = w.length := (by omega); subst e; rw [List.take_length]; done))), t10, t11, (Eq.trans t12 (by first | rfl | (have e : k = w.length := (by omega); subst e; rw [List.take_length]; done))), hF, (Eq.trans h38 (by first | rfl | (rw [outs_step m s (by omega)]; rfl) | (rw [goal_step m s (by omega)]) | (have e : k = w.length := (by omega); subst e; rw [List.take_length]; done))), (Eq.trans h105 (by first | rfl | (rw [outs_step m s (by omega)]; rfl) | (rw [goal_step m s (by omega)]) | (have e : k = w.length := (by omega); subst e; rw [List.take_length]; done))), ?_⟩
  · omega
 intro mm T H ⟨k, hmm, t0, t5, t10, t11, t12, hF, h38, h105, hk⟩ Q2 p12 p22 p32
 unfold b94_0
 refine W_seq_regc (fun T H => T 0 = (V.mp 38 v1 0 0) ∧ T 5 = (V.ms 105 (v5 + 1 + k) 0 (k)) ∧ T 10 = (V.sl (List.map cI (w))) ∧ T 11 = (iV ((w.length : Nat) : Int)) ∧ T 12 = (iV ((k : Nat) : Int)) ∧ T 13 = (V.bool (decide (((k : Nat) : Int) < ((w.length : Nat) : Int)))) ∧ (∀ j, j ∉ [105, 38] → H j = Hi j) ∧ H 38 = (⟨v1, true, false, 122, 5, [[(iV (m.i)), (iV (m.s)), (V.sl (List.map cL (m.nx))), (V.sl (List.map cL (m.ot))), (iV (goal m s (w.take k)))]]⟩ : Blk) ∧ H 105 = (⟨v5 + 1 + k, true, true, 3, 1, (List.map cI (outs m s (w.take k)))⟩ : Blk) ∧ True) ?_ ?_
 ·
  unfold r94_3
  refine R_lss (x := ((k : Nat) : Int)) (y := ((w.length : Nat) : Int)) t12 t11 ?_
  exact R_nil ⟨t0, t5, t10, t11, t12, rfl, hF, h38, h105, trivial⟩
 intro T H ⟨t0, t5, t10, t11, t12, t13, hF, h38, h105, _⟩
 refine W_seq_if (p := ((k : Nat) : Int) < ((w.length : Nat) : Int)) t13 (fun c3 => ?_) (fun c3 => ?_)
 ·
  have h1 := run_at hm hs hw (k := k) (by omega)
  refine W_seq_skip ?_
  refine W_seq_blockg fun Q4 n4 x4 y4 z4 => ?_
  refine W_seq_regc (fun T H => T 0 = (V.mp 38 v1 0 0) ∧ T 5 = (V.ms 105 (v5 + 1 + k) 0 (k)) ∧ T 7 = (iV ((nth (w) (k)))) ∧ T 10 = (V.sl (List.map cI (w))) ∧ T 11 = (iV ((w.length : Nat) : Int)) ∧ T 12 = (iV ((k : Nat) : Int)) ∧ (∀ j, j ∉ [105, 38] → H j = Hi j) ∧ H 38 = (⟨v1, true, false, 122, 5, [[(iV (m.i)), (iV (m.s)), (V.sl (List.map cL (m.nx))), (V.sl (List.map cL (m.ot))), (iV (goal m s (w.take k)))]]⟩ : Blk) ∧ H 105 = (⟨v5 + 1 + k, true, true, 3, 1, (List.map cI (outs m s (w.take k)))⟩ : Blk) ∧ True) ?_ ?_
  ·
   unfold r94_4
   refine R_idx (i := k) t10 t12 (by omega) rfl ?_
   refine R_load_pp (v := (iV ((nth (w) (k))))) (@rfl V (V.pp [(iV ((nth (w) (k))))])) (by first | rfl | simp [ldV]) ?_
   refine R_mv (@rfl V (iV ((nth (w) (k))))) ?_
   exact R_nil ⟨t0, t5, rfl, t10, t11, t12, hF, h38, h105, trivial⟩
  intro T H ⟨t0, t5, t7, t10, t11, t12, hF, h38, h105, _⟩
  refine W_seq_regc (fun T H => T 0 = (V.mp 38 v1 0 0) ∧ T 5 = (V.ms 105 (v5 + 1 + k) 0 (k)) ∧ T 8 = (iV (cell m.nx ((goal m s (w.take k))) (((nth (w) (k)))))) ∧ T 9 = (iV (cell m.ot ((goal m s (w.take k))) (((nth (w) (k)))))) ∧ T 10 = (V.sl (List.map cI (w))) ∧ T 11 = (iV ((w.length : Nat) : Int)) ∧ T 12 = (iV ((k : Nat) : Int)) ∧ (∀ j, j ∉ [105, 38] → H j = Hi j) ∧ H 38 = (⟨v1, true, false, 122, 5, [[(iV (m.i)), (iV (m.s)), (V.sl (List.map cL (m.nx))), (V.sl (List.map cL (m.ot))), (iV (goal m s (w.take k)))]]⟩ : Blk) ∧ H 105 = (⟨v5 + 1 + k, true, true, 3, 1, (List.map cI (outs m s (w.take k)))⟩ : Blk) ∧ True) ?_ ?_
  ·
   unfold r94_5
   refine R_mv t0 ?_
   refine R_nilck_mp (@rfl V (V.mp 38 v1 0 0)) h38 (by first | rfl | simp [okB, Blk.own]) ?_
   refine R_fld_mp (o' := 0) (@rfl V (V.mp 38 v1 0 0)) h38 (by first | rfl | simp [okB, Blk.own]) rfl ?_
   refine R_load_mp (v := (V.agg [(iV (m.i)), (iV (m.s)), (V.sl (List.map cL (m.nx))), (V.sl (List.map cL (m.ot)))])) (@rfl V (V.mp 38 v1 0 0)) h38 (by first | rfl | simp [ldB, ldV, Blk.own, V.one]) ?_
   refine R_mv t0 ?_
   refine R_nilck_mp (@rfl V (V.mp 38 v1 0 0)) h38 (by first | rfl | simp [okB, Blk.own]) ?_
   refine R_fld_mp (o' := 4) (@rfl V (V.mp 38 v1 0 0)) h38 (by first | rfl | simp [okB, Blk.own]) rfl ?_
   refine R_load_mp (v := (iV (goal m s (w.take k)))) (@rfl V (V.mp 38 v1 0 4)) h38 (by first | rfl | simp [ldB, ldV, Blk.own, V.one]) ?_
   refine R_mv t7 ?_
   refine R_call (evcons (@rfl V (V.agg [(iV (m.i)), (iV (m.s)), (V.sl (List.map cL (m.nx))), (V.sl (List.map cL (m.ot)))])) (evcons (@rfl V (iV (goal m s (w.take k)))) (evcons (@rfl V (iV ((nth (w) (k))))) evnil))) (move_pure m ((goal m s (w.take k))) (((nth (w) (k)))) h1.1 h1.2) (fzv_mapcanon _ _ (by simp [-List.map_take, -List.map_drop, -List.map_append, -List.map_reverse])) (by simp [-List.map_take, -List.map_drop, -List.map_append, -List.map_reverse]) (Or.inl (by simp [-List.map_take, -List.map_drop, -List.map_append, -List.map_reverse])) ?_
   refine R_mv (@rfl V (V.tup [(iV (cell m.nx ((goal m s (w.take k))) (((nth (w) (k)))))), (iV (cell m.ot ((goal m s (w.take k))) (((nth (w) (k))))))])) ?_
   refine R_ext (v := (iV (cell m.nx ((goal m s (w.take k))) (((nth (w) (k))))))) (@rfl V (V.tup [(iV (cell m.nx ((goal m s (w.take k))) (((nth (w) (k)))))), (iV (cell m.ot ((goal m s (w.take k))) (((nth (w) (k))))))])) rfl ?_
   refine R_ext (v := (iV (cell m.ot ((goal m s (w.take k))) (((nth (w) (k))))))) (@rfl V (V.tup [(iV (cell m.nx ((goal m s (w.take k))) (((nth (w) (k)))))), (iV (cell m.ot ((goal m s (w.take k))) (((nth (w) (k))))))])) rfl ?_
   refine R_mv (@rfl V (iV (cell m.nx ((goal m s (w.take k))) (((nth (w) (k))))))) ?_
   refine R_mv (@rfl V (iV (cell m.ot ((goal m s (w.take k))) (((nth (w) (k))))))) ?_
   exact R_nil ⟨t0, t5, rfl, rfl, t10, t11, t12, hF, h38, h105, trivial⟩
  intro T H ⟨t0, t5, t8, t9, t10, t11, t12, hF, h38, h105, _⟩
  refine W_seq_regc (fun T H => T 0 = (V.mp 38 v1 0 0) ∧ T 5 = (V.ms 105 (v5 + 1 + k) 0 (k)) ∧ T 9 = (iV (cell m.ot ((goal m s (w.take k))) (((nth (w) (k)))))) ∧ T 10 = (V.sl (List.map cI (w))) ∧ T 11 = (iV ((w.length : Nat) : Int)) ∧ T 12 = (iV ((k : Nat) : Int)) ∧ (∀ j, j ∉ [105, 38] → H j = Hi j) ∧ H 38 = (⟨v1, true, false, 122, 5, [[(iV (m.i)), (iV (m.s)), (V.sl (List.map cL (m.nx))), (V.sl (List.map cL (m.ot))), (iV (cell m.nx ((goal m s (w.take k))) (((nth (w) (k))))))]]⟩ : Blk) ∧ H 105 = (⟨v5 + 1 + k, true, true, 3, 1, (List.map cI (outs m s (w.take k)))⟩ : Blk) ∧ True) ?_ ?_
  ·
   unfold r94_6
   refine R_mv t0 ?_
   refine R_mv t8 ?_
   refine R_nilck_mp (@rfl V (V.mp 38 v1 0 0)) h38 (by first | rfl | simp [okB, Blk.own]) ?_
   refine R_fld_mp (o' := 4) (@rfl V (V.mp 38 v1 0 0)) h38 (by first | rfl | simp [okB, Blk.own]) rfl ?_
   refine R_store (vs := [(iV (cell m.nx ((goal m s (w.take k))) (((nth (w) (k))))))]) (B' := (⟨v1, true, false, 122, 5, [[(iV (m.i)), (iV (m.s)), (V.sl (List.map cL (m.nx))), (V.sl (List.map cL (m.ot))), (iV (cell m.nx ((goal m s (w.take k))) (((nth (w) (k))))))]]⟩ : Blk)) (@rfl V (V.mp 38 v1 0 4)) (@rfl V (iV (cell m.nx ((goal m s (w.take k))) (((nth (w) (k))))))) rfl h38 (by first | rfl | simp [stB, okB, Blk.own, putAt, V.one]) ?_
   exact R_nil ⟨t0, t5, t9, t10, t11, t12, (upd_out hF (by decide)), rfl, h105, trivial⟩
  intro T H ⟨t0, t5, t9, t10, t11, t12, hF, h38, h105, _⟩
  refine W_regc (fun T H => T 0 = (V.mp 38 v1 0 0) ∧ T 5 = (V.ms 105 (v5 + 1 + k + 1) 0 (k + 1)) ∧ T 10 = (V.sl (List.map cI (w))) ∧ T 11 = (iV ((w.length : Nat) : Int)) ∧ T 12 = (iV ((k : Nat) : Int)) ∧ (∀ j, j ∉ [105, 38] → H j = Hi j) ∧ H 38 = (⟨v1, true, false, 122, 5, [[(iV (m.i)), (iV (m.s)), (V.sl (List.map cL (m.nx))), (V.sl (List.map cL (m.ot))), (iV (cell m.nx ((goal m s (w.take k))) (((nth (w) (k))))))]]⟩ : Blk) ∧ H 105 = (⟨v5 + 1 + k + 1, true, true, 3, 1, (List.map cI (outs m s (w.take k) ++ [(cell m.ot ((goal m s (w.take k))) (((nth (w) (k)))))]))⟩ : Blk) ∧ True) ?_ ?_
  ·
   unfold r94_7
   refine R_mv t5 ?_
   refine R_mv t9 ?_
   refine R_bslice (qs := [(0, (iV (cell m.ot ((goal m s (w.take k))) (((nth (w) (k)))))))]) (rows := [[(iV (cell m.ot ((goal m s (w.take k))) (((nth (w) (k))))))]]) (mcons (congrArg (fun v => (0, v)) (@rfl V (iV (cell m.ot ((goal m s (w.take k))) (((nth (w) (k)))))))) rfl) rfl ?_
   refine R_append1 (l := (outs m s (w.take k))) (f := cI) (x := ((cell m.ot ((goal m s (w.take k))) (((nth (w) (k))))))) (@rfl V (V.ms 105 (v5 + 1 + k) 0 (k))) h105 (by first | rfl | (simp only [outs_len, List.length_take]; omega)) (@rfl V (V.sl [[(iV (cell m.ot ((goal m s (w.take k))) (((nth (w) (k))))))]])) rfl rfl (by omega) (by omega) ?_
   refine R_mv (@rfl V (V.ms 105 (v5 + 1 + k + 1) 0 (k + 1))) ?_
   exact R_nil ⟨t0, rfl, t10, t11, t12, (upd_out hF (by decide)), h38, rfl, trivial⟩
  intro T H ⟨t0, t5, t10, t11, t12, hF, h38, h105, _⟩
  refine n4 _ _ ?_
  refine .done ?_
  refine W_regc (fun T H => T 0 = (V.mp 38 v1 0 0) ∧ T 5 = (V.ms 105 (v5 + 1 + k + 1) 0 (k + 1)) ∧ T 10 = (V.sl (List.map cI (w))) ∧ T 11 = (iV ((w.length : Nat) : Int)) ∧ T 12 = (iV ((k + 1 : Nat) : Int)) ∧ (∀ j, j ∉ [105, 38] → H j = Hi j) ∧ H 38 = (⟨v1, true, false, 122, 5, [[(iV (m.i)), (iV (m.s)), (V.sl (List.map cL (m.nx))), (V.sl (List.map cL (m.ot))), (iV (cell m.nx ((goal m s (w.take k))) (((nth (w) (k))))))]]⟩ : Blk) ∧ H 105 = (⟨v5 + 1 + k + 1, true, true, 3, 1, (List.map cI (outs m s (w.take k) ++ [(cell m.ot ((goal m s (w.take k))) (((nth (w) (k)))))]))⟩ : Blk) ∧ True) ?_ ?_
  ·
   unfold r94_8
   refine R_addN (m := k) (n := 1) t12 (@rfl V (iV ((1 : Nat) : Int))) (by omega) ?_
   refine R_mv (@rfl V (iV ((k + 1 : Nat) : Int))) ?_
   exact R_nil ⟨t0, t5, t10, t11, rfl, hF, h38, h105, trivial⟩
  intro T H ⟨t0, t5, t10, t11, t12, hF, h38, h105, _⟩
  refine p12 _ _ _ ?_ ⟨(k + 1), rfl, t0, (Eq.trans t5 (by first | rfl | (have e : k = w.length := (by omega); subst e; rw [List.take_length]; done))), t10, t11, (Eq.trans t12 (by first | rfl | (have e : k = w.length := (by omega); subst e; rw [List.take_length]; done))), hF, (Eq.trans h38 (by first | rfl | (rw [outs_step m s (by omega)]; rfl) | (rw [goal_step m s (by omega)]) | (have e : k = w.length := (by omega); subst e; rw [List.take_length]; done))), (Eq.trans h105 (by first | rfl | (rw [outs_step m s (by omega)]; rfl) | (rw [goal_step m s (by omega)]) | (have e : k = w.length := (by omega); subst e; rw [List.take_length]; done))), ?_⟩
  · omega
  · omega
 refine W_seq_exit ?_
 refine p32 _ _ _ ?_
 refine x1 _ _ ?_
 refine .done ?_
 refine W_seq_regc (fun T H => T 4 = (V.ms 105 (v5 + 1 + k) 0 (k)) ∧ (∀ j, j ∉ [105, 38] → H j = Hi j) ∧ H 38 = (⟨v1, true, false, 122, 5, [[(iV (m.i)), (iV (m.s)), (V.sl (List.map cL (m.nx))), (V.sl (List.map cL (m.ot))), (iV (goal m s (w.take k)))]]⟩ : Blk) ∧ H 105 = (⟨v5 + 1 + k, true, true, 3, 1, (List.map cI (outs m s (w.take k)))⟩ : Blk) ∧ True) ?_ ?_
 ·
  unfold r94_9
  refine R_mv t5 ?_
  refine R_mv (@rfl V (V.ms 105 (v5 + 1 + k) 0 (k))) ?_
  exact R_nil ⟨rfl, hF, h38, h105, trivial⟩
 intro T H ⟨t4, hF, h38, h105, _⟩
 refine W_ret ?_
 have fh := FinX.fin (FinX.put (B := (⟨v1, true, false, 122, 5, [[(iV (m.i)), (iV (m.s)), (V.sl (List.map cL (m.nx))), (V.sl (List.map cL (m.ot))), (iV (goal m s w))]]⟩ : Blk)) (FinX.putv (n := (v5 + 1 + k)) (B := (⟨v5 + 1 + w.length, false, false, 0, 0, []⟩ : Blk)) (FinX.start hF) (congrArg Blk.ver h105) (by show _ ≤ v5 + 1 + w.length; omega) rfl) h38 (FinB.eq (by first | rfl | (rw [outs_step m s (by omega)]; rfl) | (rw [goal_step m s (by omega)]) | (have e : k = w.length := (by omega); subst e; rw [List.take_length]; done))))
 exact RetF_1 t4 fh (FinV.trans_eq (FinV.frz (rows := (List.map cI (outs m s (w.take k)))) fh (by simp [h105]) (by simp [h105]) rfl (by rw [h105]; exact take_map (l := (outs m s (w.take k))) (by first | rfl | (simp only [outs_len, List.length_take]; omega)))) (by first | rfl | (have e : k = w.length := (by omega); subst e; rw [List.take_length]; done)))
end Go.Proofs.Ytngkckefanbhgaa

namespace Go.Proofs.Ytngkckefanbhgaa
open Go Go.Sort Go.Proofs Go.Shelf
theorem R.pure_same {x y : Cx} {v : V} {c : Value} (h : R x v c) (hp : v.pure = true) (hw : ∀ b, x.Z b → y.w.heap[b]? = x.w.heap[b]?) (hz : ∀ b, x.Z b → y.Z b) : R y v c := by
  have keep : ∀ a : Addr, x.Z a.block → ∀ n, y.w.cell? (a.add n) = x.w.cell? (a.add n) := fun a ha n => by
    refine cell_of_heap ?_
    rw [addr_add_block]; exact hw _ ha
  induction h with
  | int k n => exact .int k n
  | bool b => exact .bool b
  | str s => exact .str s
  | nilsl => exact .nilsl
  | slnil => exact .slnil
  | sl rows a cap sz cs hc hm hzz hsz hcell _ ih =>
    simp only [V.pure] at hp
    refine .sl rows a cap sz cs hc hm (fun hne => hz _ (hzz hne)) hsz (fun r row j v hr hj => by rw [keep a (hzz (by intro e; subst e; simp at hr))]; exact hcell r row j v hr hj) fun r row j v hr hj => ih r row j v hr hj ?_
    exact pureL_iff.1 (pureLL_iff.1 hp row (List.mem_of_getElem? hr)) v (List.mem_of_getElem? hj)
  | ms => simp [V.pure] at hp
  | pp cells a cs hzz hcell _ ih =>
    simp only [V.pure] at hp
    exact .pp cells a cs (fun hne => hz _ (hzz hne)) (fun j v hj => by rw [keep a (hzz (by intro e; subst e; simp at hj))]; exact hcell j v hj) fun j v hj => ih j v hj (pureL_iff.1 hp v (List.mem_of_getElem? hj))
  | nilp => exact .nilp
  | mp => simp [V.pure] at hp
  | agg cells cs hs _ ih =>
    simp only [V.pure] at hp
    exact .agg cells cs hs fun j v hj => ih j v hj (pureL_iff.1 hp v (List.mem_of_getElem? hj))
  | tup vs cs hs _ ih =>
    simp only [V.pure] at hp
    exact .tup vs cs hs fun j v hj => ih j v hj (pureL_iff.1 hp v (List.mem_of_getElem? hj))
  | fn f first caps fs cs hfs hcs _ _ ih1 ih2 =>
    simp only [V.pure, Bool.and_eq_true] at hp
    exact .fn f first caps fs cs hfs hcs (fun j v hj => ih1 j v hj (pureL_iff.1 hp.1 v (List.mem_of_getElem? hj))) fun j v hj => ih2 j v hj (pureL_iff.1 hp.2 v (List.mem_of_getElem? hj))
  | raw c hh => exact .raw c hh
theorem step_grow {x : Cx} (hx : Inv x) (os : Array Obj) : let y : Cx := { x with w := Go.Sort.grow x.w os }; Inv y ∧ Frame x y := by
  intro y
  have hp : ∀ b, b < x.w.heap.size → y.w.heap[b]? = x.w.heap[b]? := fun b hb => by
    show (x.w.heap ++ os)[b]? = _
    rw [Array.getElem?_append, if_pos hb]
  have hs : x.w.heap.size ≤ y.w.heap.size := by show _ ≤ (x.w.heap ++ os).size; simp
  have hf : Frame x y := by
    refine ⟨rfl, rfl, rfl, hs, fun b hb _ => hp b hb, fun _ h => h, fun b h => .inl h, fun id => ⟨Nat.le_refl _, fun h _ => ⟨h, rfl, rfl, rfl, fun h => ⟨rfl, ?_⟩⟩⟩, fun _ h => .inl ⟨h, rfl⟩, Nat.le_refl _⟩
    unfold rowSize; rw [hp _ (hx.lt h)]
  refine ⟨⟨fun b h => Nat.lt_of_lt_of_le (hx.zlt b h) hs, hx.zown, fun id hl => ?_, hx.inj⟩, hf⟩
  obtain ⟨cc, h1, h2, h3, h4⟩ := hx.blk id hl
  exact ⟨cc, by rw [hp _ (hx.lt hl)]; exact h1, h2, h3, fun r row j v hr hj => (h4 r row j v hr hj).frame hx hf⟩
theorem sorted_uniq {α : Type} {le : α → α → Prop} : ∀ {l m : List α}, (∀ a ∈ l, ∀ b ∈ l, le a b → le b a → a = b) → l.Perm m → l.Pairwise le → m.Pairwise le → l = m
  | [], m, _, hp, _, _ => (List.perm_nil.1 hp.symm).symm
  | a :: l, [], _, hp, _, _ => (List.cons_ne_nil _ _ (List.perm_nil.1 hp)).elim
  | a :: l, b :: m, anti, hp, h1, h2 => by
    have hb : b ∈ a :: l := hp.mem_iff.2 (List.mem_cons_self ..)
    have ha : a ∈ b :: m := hp.mem_iff.1 (List.mem_cons_self ..)
    have e : a = b := by
      rcases List.mem_cons.1 hb with e | hb'
      · exact e.symm
      · rcases List.mem_cons.1 ha with e | ha'
        · exact e
        · exact anti a (List.mem_cons_self ..) b hb ((List.pairwise_cons.1 h1).1 b hb') ((List.pairwise_cons.1 h2).1 a ha')
    subst e
    rw [sorted_uniq (fun x hx y hy => anti x (List.mem_cons_of_mem _ hx) y (List.mem_cons_of_mem _ hy)) (List.Perm.cons_inv hp) (List.pairwise_cons.1 h1).2 (List.pairwise_cons.1 h2).2]
def srt {α : Type} (cmp : α → α → Int) (l : List α) : List α := l.mergeSort fun a b => decide (¬cmp b a < 0)
theorem srt_perm {α : Type} (cmp : α → α → Int) (l : List α) : (srt cmp l).Perm l := List.mergeSort_perm l _
theorem srt_sorted {α : Type} {cmp : α → α → Int} (hO : SWO fun a b => decide (cmp a b < 0)) (l : List α) : (srt cmp l).Pairwise fun a b => ¬cmp b a < 0 := by
  have := List.pairwise_mergeSort (le := fun a b => decide (¬cmp b a < 0)) (fun a b c h1 h2 => by
    have h := hO.ntrans c b a (by simpa using h2) (by simpa using h1)
    simpa using h) (fun a b => by
    cases h : decide (cmp b a < 0) with
    | false => simp at h; simp [h]
    | true =>
      cases h' : decide (cmp a b < 0) with
      | false => simp at h'; simp [h']
      | true =>
        have := hO.trans a b a h' h
        rw [hO.irrefl a] at this; cases this) l
  exact this.imp fun h => by simpa using h
def SortSpec (P : Program) (f k : Nat) : Prop := ∀ {α : Type} [Inhabited α] (enc : α → List Value) (_ : ∀ x, (enc x).length = k) (_ : ∀ x, ∀ v ∈ enc x, v.oneCell' = true) (cf : α → α → Int) (_ : SWO (ltOf cf)) (g : Nat) (cb : Array Value) (blk off cap : Nat) (d : Array α) (w : World)
    (_ : ∀ args w, (callFunc g args).run P w = .ok (.enter g args) w) (_ : CmpLays P g cb enc k cf blk off d.size w) (_ : HoldsK enc k w blk off d) (_ : blk < w.heap.size) (_ : d.size < 4611686018427387904),
    Calls P f #[.slice (some ⟨blk, off, none⟩) d.size cap, .func (.func g) #[] cb] w fun e w' =>
      e = .returned (.tuple #[]) ∧ ∃ d' n os, PermIn 0 d.size d d' ∧ SortedIn (ltOf cf) 0 d.size d' ∧ w' = sortWorldK enc k w blk off n d' os
def SortNone (P : Program) (f : Nat) : Prop := ∀ (p : Option Addr) (cap : Nat) (fv : Value) (w : World), Calls P f #[.slice p 0 cap, fv] w fun e w' => e = .returned (.tuple #[]) ∧ w' = w
theorem enters_callable {P : Program} {g : Nat} (h : callable P g) : ∀ args w, (callFunc g args).run P w = .ok (.enter g args) w := by
  obtain ⟨fn, h1, h2, h3⟩ := h
  obtain ⟨c, hc⟩ := Option.isSome_iff_exists.1 h2
  exact enters_of h1 h3 hc
theorem grown_of_frame {z y : Cx} (hf : Frame z y) (hno : ∀ id, (z.H id).own = false) : ∃ q os, y.w = grow (z.w.drewN q) os := by
  refine ⟨y.w.drawn - z.w.drawn, y.w.heap.extract z.w.heap.size y.w.heap.size, ?_⟩
  have e1 := hf.os; have e2 := hf.tape; have e3 := hf.output; have e4 := hf.drawn; have e5 := hf.size
  have e6 : y.w.heap = z.w.heap ++ y.w.heap.extract z.w.heap.size y.w.heap.size := by
    refine Array.ext_getElem? fun b => ?_
    rw [Array.getElem?_append]
    split
    · rename_i hb
      exact hf.keep b hb fun id h => by rw [hno id] at h; cases h
    · rename_i hb
      rw [Array.getElem?_extract]
      by_cases h : b < y.w.heap.size
      · rw [if_pos (by omega)]; congr 1; omega
      · rw [if_neg (by omega), Array.getElem?_eq_none (by omega)]
  have e7 : y.w.drawn = z.w.drawn + (y.w.drawn - z.w.drawn) := by omega
  unfold grow World.drewN
  cases hy : y.w with
  | mk heap tape drawn os output =>
    rw [hy] at e1 e2 e3 e6 e7
    simp only at e1 e2 e3 e6 e7 ⊢
    rw [← e6, ← e7, e1, e2, e3]
section
variable {P : Program} {α : Type} [Inhabited α] {enc : α → List Value} {k : Nat} {w : World} {blk off m : Nat} {dk : Array α} {os : Array Obj}
theorem sortWorld_other {b : Nat} (hb : b < w.heap.size) (hne : b ≠ blk) : (sortWorldK enc k w blk off m dk os).heap[b]? = w.heap[b]? := by
  unfold sortWorldK grow putRowK putRow mapBlock Sort.ahead
  simp only
  rw [Array.getElem?_append, if_pos (by simpa using hb), Array.getElem?_modify, if_neg (Ne.symm hne)]
theorem sortWorld_size : w.heap.size ≤ (sortWorldK enc k w blk off m dk os).heap.size := by
  unfold sortWorldK grow putRowK putRow mapBlock Sort.ahead
  simp
theorem sortWorld_eq {cc : Array Value} {ty : TypeId} (h : w.heap[blk]? = some (.cells cc ty (0, 0))) :
    sortWorldK enc k w blk off m dk os = grow { w.setRow blk (putCells id off (flatK enc k dk) cc) with drawn := w.drawn + m } os := by
  unfold sortWorldK putRowK putRow mapBlock Sort.ahead World.setRow
  congr 2
  refine Array.ext_getElem? fun b => ?_
  simp only [Array.getElem?_modify]
  by_cases e : blk = b
  · subst e
    simp only [if_true, h, Option.map_some, onCells]
  · simp only [if_neg e]
end
theorem nth_set_eq {α : Type} [Inhabited α] (d : Array α) (i : Nat) (h : i < d.size) : d[i]! = nth d.toList i := by
  rw [getElem!_pos d i h, ← nth_getElem (by simpa using h)]; rfl
section
variable {P : Program}
theorem CallOK_sort {f g k : Nat} (hS : SortSpec P f k) (hN : SortNone P f) (hcf : callable P f) (hcg : callable P g) {T : Type} [Inhabited T] {f0 : T → List V} {l : List T} {cmp : T → T → Int}
    (hO : SWO fun a b => decide (cmp a b < 0)) (hT : ∀ a ∈ l, ∀ b ∈ l, ¬cmp a b < 0 → ¬cmp b a < 0 → a = b)
    (hc : ∀ a ∈ l, ∀ b ∈ l, PureC P g [.agg (f0 a), .agg (f0 b)] (iV (cmp a b))) (hp : ∀ a ∈ l, pureL (f0 a) = true) (h1 : ∀ a ∈ l, (f0 a).all V.one = true) (hk : ∀ a, (f0 a).length = k)
    (hl : l.length < 4611686018427387904) {id ver ty : Nat} {lz : Bool} {H : Heap} (hH : H id = ⟨ver, true, lz, ty, k, l.map f0⟩) :
    CallOK P f [.ms id ver 0 l.length, .fn g [] []] H (.tup []) (upd H id ⟨ver, true, lz, ty, k, (srt cmp l).map f0⟩) := by
  refine ⟨hcf, fun x cs hxH hx hr => ?_⟩
  subst hxH
  obtain ⟨c0, c1, rfl⟩ : ∃ c0 c1, cs = [c0, c1] := by
    have := hr.1
    match cs with
    | [a, b] => exact ⟨a, b, rfl⟩
    | [] => simp at this
    | [_] => simp at this
    | _ :: _ :: _ :: _ => simp at this
  have r0 : R x (.ms id ver 0 l.length) c0 := hr.2 0 _ rfl
  have r1 : R x (.fn g [] []) c1 := hr.2 1 _ rfl
  cases r1 with
  | fn _ _ _ fs cb hfs hcs _ _ =>
  have hfs' : fs = #[] := Array.eq_empty_of_size_eq_zero (by simpa using hfs)
  have hcs' : cb = #[] := Array.eq_empty_of_size_eq_zero (by simpa using hcs)
  subst hfs'; subst hcs'
  cases r0 with
  | ms _ _ _ _ b n cap hv hh =>
  obtain ⟨e1, e2, e3, e4, e5, e6⟩ := hh (by rw [hH]) (by rw [hH])
  subst e1
  by_cases hne : l = []
  · subst hne
    refine (hN b cap (.func (.func g) #[] #[]) x.w).mono fun e w' h => ?_
    obtain ⟨rfl, rfl⟩ := h
    refine ⟨_, x, rfl, rfl, ?_, hx, .tup [] #[] rfl (fun j v hj => by simp at hj), Frame.refl x⟩
    funext j
    by_cases e : j = id
    · subst e; rw [upd_same, hH]; simp [srt]
    · rw [upd_ne _ _ e]
  have hpos : 0 < l.length := List.length_pos_iff.2 hne
  have ho : (x.H id).own = true := by
    rw [hH]
    cases l with
    | nil => exact (hne rfl).elim
    | cons a l => simp [Blk.own]
  obtain ⟨e7, _⟩ := e5 ho
  rw [hH] at e7
  simp only [Nat.zero_mul] at e7
  subst e7
  obtain ⟨cc, b1, b2, b3, b4⟩ := hx.blk id ho
  simp only [hH] at b1 b2 b3 b4
  rw [List.length_map] at b3
  let A : Type := { i : Nat // i < l.length }
  haveI : Inhabited A := ⟨⟨0, hpos⟩⟩
  let enc : A → List Value := fun i => (List.range k).map fun j => cc.getD (i.1 * k + j) undef
  let cf : A → A → Int := fun a b => cmp (nth l a.1) (nth l b.1)
  let d : Array A := Array.ofFn fun i : Fin l.length => (⟨i.1, i.2⟩ : A)
  have hdn : d.size = l.length := by simp [d]
  have hdi : ∀ i (h : i < l.length), d[i]! = ⟨i, h⟩ := fun i h => by
    rw [getElem!_pos d i (by rw [hdn]; exact h)]; simp [d]
  have hek : ∀ a, (enc a).length = k := fun a => by simp [enc]
  have hej : ∀ (a : A) (j : Nat), j < k → (enc a)[j]? = some (cc.getD (a.1 * k + j) undef) := fun a j hj => by simp [enc, hj]
  have hrow : ∀ i, i < l.length → (l.map f0)[i]? = some (f0 (nth l i)) := fun i hi => by rw [List.getElem?_map, nth_eq hi]; rfl
  have hRx : ∀ (a : A) (j : Nat) (v : V), (f0 (nth l a.1))[j]? = some v → R x v (cc.getD (a.1 * k + j) undef) := fun a j v hj => b4 a.1 _ j v (hrow a.1 a.2) hj
  have hcell : ∀ (a : A) (j : Nat), j < k → a.1 * k + j < cc.size := fun a j hj => by
    have : (a.1 + 1) * k ≤ l.length * k := Nat.mul_le_mul_right k a.2
    rw [Nat.add_mul, Nat.one_mul] at this
    omega
  have hO' : SWO (ltOf cf) := ⟨fun a => hO.irrefl _, fun a b c => hO.trans _ _ _, fun a b c => hO.ntrans _ _ _⟩
  have hcmp : CmpLays P g #[] enc k cf (x.σ id) 0 d.size x.w := by
    intro m os dk hdk a b
    let W := sortWorldK enc k x.w (x.σ id) 0 m dk os
    let z : Cx := start { x with w := W } x.Z
    have hz : Inv z := start_ok fun b hb => Nat.lt_of_lt_of_le (hx.zlt b hb) sortWorld_size
    have hag : ∀ a : A, R z (.agg (f0 (nth l a.1))) (.agg (enc a).toArray) := fun a => by
      refine .agg _ _ (by simp [hek, hk]) fun j v hj => ?_
      have hjk : j < k := by rw [← hk (nth l a.1)]; exact (List.getElem?_eq_some_iff.1 hj).1
      have h := hRx a j v hj
      have hg : (enc a).toArray.getD j undef = cc.getD (a.1 * k + j) undef := by
        rw [Array.getD_eq_getD_getElem?, List.getElem?_toArray, hej a j hjk]; rfl
      rw [hg]
      refine h.pure_same (y := z) (pureL_iff.1 (hp _ (nth_mem a.2)) v (List.mem_of_getElem? hj)) (fun b hb => ?_) fun _ h => h
      exact sortWorld_other (hx.zlt b hb) fun e => hx.zown b id hb ho e.symm
    have hrl : RL z [.agg (f0 (nth l a.1)), .agg (f0 (nth l b.1))] [.agg (enc a).toArray, .agg (enc b).toArray] := by
      refine ⟨rfl, fun j v hj => ?_⟩
      match j, hj with
      | 0, hj => simp at hj; subst hj; exact hag a
      | 1, hj => simp at hj; subst hj; exact hag b
    refine ((hc _ (nth_mem a.2) _ (nth_mem b.2) H0).2 z _ rfl hz hrl).mono fun e w' h => ?_
    obtain ⟨c, y, rfl, rfl, _, _, h5, h6⟩ := h
    cases h5
    obtain ⟨q, os', hq⟩ := grown_of_frame h6 fun id => rfl
    exact ⟨rfl, q, os', hq⟩
  have hsz : d.size < 4611686018427387904 := by rw [hdn]; exact hl
  have hH' : HoldsK enc k x.w (x.σ id) 0 d := by
    intro j hj
    rw [size_flatK, hdn] at hj
    have hk0 : 0 < k := Nat.pos_of_ne_zero fun e => by subst e; simp at hj
    have hdv : j / k < l.length := (Nat.div_lt_iff_lt_mul hk0).2 hj
    have hmd : j % k < k := Nat.mod_lt _ hk0
    have e : (flatK enc k d)[j]! = cc.getD j undef := by
      rw [get_flatK _ _ _ _ (by rw [hdn]; exact hj), hdi _ hdv]
      have h := hej ⟨j / k, hdv⟩ (j % k) hmd
      rw [List.getElem!_eq_getElem?_getD, h]
      simp only [Option.getD_some]
      rw [Nat.div_add_mod' j k]
    have hjc : j < cc.size := by omega
    refine ⟨?_, ?_⟩
    · rw [e, Nat.zero_add]; exact own_cell b1 hjc
    · simp [World.frozen?, b1]
  have hcall := hS enc hek (fun a v hv => by
      obtain ⟨j, hj⟩ := List.getElem?_of_mem hv
      have hjk : j < k := by rw [← hek a]; exact (List.getElem?_eq_some_iff.1 hj).1
      rw [hej a j hjk] at hj
      cases hj
      have hu : ∃ u, (f0 (nth l a.1))[j]? = some u := ⟨_, List.getElem?_eq_getElem (by rw [hk]; exact hjk)⟩
      obtain ⟨u, hu⟩ := hu
      exact (hRx a j u hu).one (List.all_eq_true.1 (h1 _ (nth_mem a.2)) u (List.mem_of_getElem? hu))) cf hO' g #[] (x.σ id) 0 cap d x.w (enters_callable hcg) hcmp hH' (hx.lt ho) hsz
  rw [hdn] at hcall
  refine hcall.mono fun e w' h => ?_
  obtain ⟨rfl, d', n', os', hP, hSo, rfl⟩ := h
  obtain ⟨p1, _, p3⟩ := hP
  rw [hdn] at p1
  have x1 : d'.extract 0 l.length = d' := by rw [← p1]; simp
  have x2 : d.extract 0 l.length = d := by rw [← hdn]; simp
  rw [x1, x2] at p3
  have hmap : d.toList.map (fun a : A => nth l a.1) = l := by
    refine nth_ext (by simp [hdn]) fun j hj => ?_
    have hj' : j < l.length := by simpa [hdn] using hj
    rw [nth_map (by simpa using hj), ← nth_set_eq d j (by rw [hdn]; exact hj'), hdi j hj']
  have hl' : d'.toList.map (fun a : A => nth l a.1) = srt cmp l := by
    have hperm : (d'.toList.map (fun a : A => nth l a.1)).Perm l := by
      have := p3.map (fun a : A => nth l a.1)
      rwa [hmap] at this
    refine sorted_uniq (le := fun a b => ¬cmp b a < 0) (fun a ha b hb h1 h2 => hT a (hperm.mem_iff.1 ha) b (hperm.mem_iff.1 hb) h2 h1) (hperm.trans (srt_perm cmp l).symm) ?_ (srt_sorted hO l)
    rw [List.pairwise_map, List.pairwise_iff_getElem]
    intro i j hi hj hij
    have h := hSo i j (Nat.zero_le _) hij (by rw [← p1]; simpa using hj)
    rw [nth_set_eq d' i (by simpa using hi), nth_set_eq d' j (by simpa using hj), ← nth_getElem hi, ← nth_getElem hj] at h
    simpa [ltOf, cf] using h
  let cc' := putCells _root_.id 0 (flatK enc k d') cc
  have hcs : cc'.size = cc.size := by simp [cc', putCells]
  have hg : ∀ r j, r < l.length → j < k → ∀ (hr : r < d'.size), cc'.getD (r * k + j) undef = cc.getD ((d'[r]'hr).1 * k + j) undef := by
    intro r j hr hj hr'
    have hb : r * k + j < l.length * k := by
      have : (r + 1) * k ≤ l.length * k := Nat.mul_le_mul_right k hr
      rw [Nat.add_mul, Nat.one_mul] at this; omega
    have hsz' : (flatK enc k d').size = l.length * k := by rw [size_flatK, p1]
    have e : cc'[r * k + j]? = some ((flatK enc k d')[r * k + j]!) := by
      simp only [cc', putCells, Array.getElem?_mapIdx]
      rw [Array.getElem?_eq_getElem (by omega)]
      simp [hsz', hb]
    rw [Array.getD_eq_getD_getElem?, e, get_flatK _ _ _ _ (by rw [p1]; exact hb)]
    have q1 : (r * k + j) / k = r := by rw [Nat.mul_comm, Nat.mul_add_div (by omega), Nat.div_eq_of_lt hj]; rfl
    have q2 : (r * k + j) % k = j := by rw [Nat.mul_comm, Nat.mul_add_mod]; exact Nat.mod_eq_of_lt hj
    rw [q1, q2, getElem!_pos d' r hr', List.getElem!_eq_getElem?_getD, hej _ j hj]
    rfl
  have hrows : ∀ (r : Nat) (row : List V) (j : Nat) (v : V), ((srt cmp l).map f0)[r]? = some row → row[j]? = some v → R x v (cc'.getD (r * k + j) undef) := by
    intro r row j v hr hj
    rw [← hl', List.map_map, List.getElem?_map] at hr
    obtain ⟨a, ha, rfl⟩ := map_some hr
    have har := List.getElem?_eq_some_iff.1 ha
    obtain ⟨hlt, hae⟩ := har
    have hlt' : r < d'.size := by simpa using hlt
    have hjk : j < k := by rw [← hk (nth l a.1)]; exact (List.getElem?_eq_some_iff.1 hj).1
    rw [hg r j (by omega) hjk hlt']
    have hae' : d'[r]'hlt' = a := by simpa using hae
    rw [hae']
    exact hRx a j v hj
  have st := step_set hx id ho cc cc' (by rw [hH]; exact b1) hcs (x.H id).ver ((srt cmp l).map f0) (Nat.le_refl _) (fun _ => by rw [hH]; simp [srt]) (by
      rw [hH]
      have : (srt cmp l).length = l.length := by simp [srt]
      cases hq : srt cmp l with
      | nil => rw [hq] at this; simp at this; omega
      | cons a q => simp) (fun r hr => by
      rw [hH]
      obtain ⟨a, _, rfl⟩ := List.mem_map.1 hr
      exact hk a) (by rw [hH]; simpa [srt] using b3) (by simp only [hH]; exact hrows)
  simp only [hH] at st
  obtain ⟨i1, f1⟩ := st
  obtain ⟨i2, f2⟩ := step_draw i1 (x.w.drawn + n') (Nat.le_add_right _ _)
  obtain ⟨i3, f3⟩ := step_grow i2 os'
  refine ⟨.tuple #[], _, rfl, ?_, ?_, i3, .tup [] #[] rfl (fun j v hj => by simp at hj), (f1.trans f2).trans f3⟩
  · rw [sortWorld_eq b1]
  · rfl
theorem CallOK_sort_nil {f g : Nat} (hN : SortNone P f) (hcf : callable P f) (H : Heap) : CallOK P f [.sl [], .fn g [] []] H (.tup []) H := by
  refine ⟨hcf, fun x cs hxH hx hr => ?_⟩
  obtain ⟨c0, c1, rfl⟩ : ∃ c0 c1, cs = [c0, c1] := by
    have := hr.1
    match cs with
    | [a, b] => exact ⟨a, b, rfl⟩
    | [] => simp at this
    | [_] => simp at this
    | _ :: _ :: _ :: _ => simp at this
  have r0 : R x (.sl []) c0 := hr.2 0 _ rfl
  obtain ⟨p, cap, rfl⟩ : ∃ p cap, c0 = .slice p 0 cap := by
    generalize hv : V.sl [] = v at r0
    cases r0 <;> cases hv
    · exact ⟨_, _, rfl⟩
    · exact ⟨_, _, rfl⟩
  refine (hN p cap c1 x.w).mono fun e w' h => ?_
  obtain ⟨rfl, rfl⟩ := h
  exact ⟨_, x, rfl, rfl, hxH, hx, .tup [] #[] rfl (fun j v hj => by simp at hj), Frame.refl x⟩
end
end Go.Proofs.Ytngkckefanbhgaa

namespace Go.Proofs.Ytngkckefanbhgaa
open Go Go.Sort
theorem lexI_le {a b : List Int} : ¬lexI a b < 0 ↔ lexI b a ≤ 0 := by
  constructor
  · intro h
    by_cases e : lexI a b = 0
    · rw [lexI_zero.2 (lexI_zero.1 e).symm]; omega
    · have := lexI_pos (a := a) (b := b) (by omega); omega
  · intro h g
    have := lexI_neg g; omega
theorem lexI_tr {a b c : List Int} (h1 : lexI a b ≤ 0) (h2 : lexI b c ≤ 0) : lexI a c ≤ 0 := by
  by_cases e1 : lexI a b = 0
  · rw [lexI_zero.1 e1]; exact h2
  · by_cases e2 : lexI b c = 0
    · rw [← lexI_zero.1 e2]; exact h1
    · have := lexI_trans (a := a) (b := b) (c := c) (by omega) (by omega); omega
def lexT (a b : Tr) : Int := lexI a.ni b.ni
theorem lexT_swo : SWO fun a b : Tr => decide (lexT a b < 0) where
  irrefl a := decide_eq_false (by rw [lexT, lexI_zero.2 rfl]; omega)
  trans a b c h1 h2 := decide_eq_true (lexI_trans (of_decide_eq_true h1) (of_decide_eq_true h2))
  ntrans a b c h1 h2 := decide_eq_false (lexI_le.2 (lexI_tr (lexI_le.1 (of_decide_eq_false h2)) (lexI_le.1 (of_decide_eq_false h1))))
theorem lexT_anti {a b : Tr} (h1 : ¬lexT a b < 0) (h2 : ¬lexT b a < 0) : a.ni = b.ni := by
  have q1 : ¬lexI a.ni b.ni < 0 := h1
  have q2 : lexI a.ni b.ni ≤ 0 := lexI_le.1 h2
  exact lexI_zero.1 (by omega)
theorem srt_len {α : Type} (cmp : α → α → Int) (l : List α) : (srt cmp l).length = l.length := by simp [srt]
def nbB (L : List Tr) (k : Nat) : Bool := hp (nth L k).ni (nth L (k - 1)).ni || decide (0 ≤ df (nth L (k - 1)) (nth L k))
def nbE (L : List Tr) (k : Nat) : Int := if nbB L k = true then 1 else 0
def fitB (l : List Tr) : Bool := decide (fe (nbE (srt lexT l)) 1 ((srt lexT l).length - 1) = 0)
theorem OK.lt_of {o : Ob} (h : ∀ k, k + 1 < o.tr.length → slx (nth o.tr k).ni (nth o.tr (k + 1)).ni < 0) : ∀ {i k : Nat}, i < k → k < o.tr.length → slx (nth o.tr i).ni (nth o.tr k).ni < 0 := by
  intro i k hik hk
  induction k with
  | zero => omega
  | succ k ih =>
    by_cases e : i = k
    · subst e; exact h i hk
    · exact slx_trans (ih (by omega) (by omega)) (h k hk)
theorem lex_between {a b c : List Int} (h1 : lexI a b ≤ 0) (h2 : lexI b c ≤ 0) : cmn a c ≤ cmn a b ∧ cmn a c ≤ cmn b c := by
  have s1 := cmn_spec a b
  have s2 := cmn_spec b c
  have s3 := cmn_spec a c
  have m := cmn_min (a := a) (b := c) (c := b)
  have m2 := cmn_min (a := b) (b := a) (c := c)
  have e1 := cmn_comm c b
  have e2 := cmn_comm b a
  have key : cmn a c ≤ cmn a b := by
    by_cases g : cmn a c ≤ cmn a b
    · exact g
    · exfalso
      have hlt : cmn a b < cmn a c := by omega
      have hbc : cmn b c = cmn a b := by
        rw [cmn_comm b c]
        refine cmn_at ?_ ?_
        · have := cmn_min (a := c) (b := a) (c := b); rw [cmn_comm c a] at this; omega
        · by_cases q : b.length ≤ cmn a b
          · exact .inr (.inl q)
          · refine .inr (.inr ?_)
            rw [← s3.2.2.1 _ hlt]
            exact s1.2.2.2 (by omega) (by omega)
      unfold lexI at h1 h2
      rw [hbc] at h2
      have hca := s3.2.2.1 _ hlt
      by_cases q : cmn a b = b.length
      · rw [if_neg (by omega), if_neg (by omega)] at h1; omega
      · have hne := s1.2.2.2 (by omega) (by omega)
        rw [if_neg (by omega)] at h1
        rw [if_neg (by omega)] at h2
        split at h1
        · rename_i g1
          split at h2
          · rename_i g2
            rw [hca] at g1; omega
          · omega
        · omega
  have m3 := cmn_min (a := b) (b := a) (c := c)
  exact ⟨key, by omega⟩
theorem sorted_at {L : List Tr} (h : L.Pairwise fun a b => ¬lexT b a < 0) {i j : Nat} (hij : i < j) (hj : j < L.length) : lexI (nth L i).ni (nth L j).ni ≤ 0 := by
  have := List.pairwise_iff_getElem.1 h i j (by omega) hj hij
  rw [nth_getElem (k := i) (by omega), nth_getElem (k := j) hj] at this
  exact lexI_le.1 this
theorem fit_all {L : List Tr} (hs : L.Pairwise fun a b => ¬lexT b a < 0) (hn : fe (nbE L) 1 (L.length - 1) = 0) {i j : Nat} (hij : i < j) (hj : j < L.length) :
    hp (nth L j).ni (nth L i).ni = false ∧ df (nth L i) (nth L j) < 0 := by
  have nb : ∀ k, 1 ≤ k → k < L.length → hp (nth L k).ni (nth L (k - 1)).ni = false ∧ df (nth L (k - 1)) (nth L k) < 0 := by
    intro k h1 h2
    have := fe_zero_iff.1 hn k h1 (by omega)
    unfold nbE at this
    split at this
    · cases this
    · rename_i g
      simp only [nbB, Bool.or_eq_true, not_or, decide_eq_true_eq] at g
      exact ⟨by simpa using g.1, by omega⟩
  have mono : ∀ a b, a ≤ b → b < L.length → lexI (nth L a).ni (nth L b).ni ≤ 0 := by
    intro a b h1 h2
    by_cases e : a = b
    · subst e; rw [lexI_zero.2 rfl]; omega
    · exact sorted_at hs (by omega) h2
  have share : ∀ a b, i ≤ a → a ≤ b → b ≤ j → cmn (nth L i).ni (nth L j).ni ≤ cmn (nth L a).ni (nth L b).ni := by
    intro a b h1 h2 h3
    have q1 := (lex_between (mono i a h1 (by omega)) (mono a j (by omega) hj)).2
    have q2 := (lex_between (mono a b h2 (by omega)) (mono b j h3 hj)).1
    omega
  constructor
  · by_cases e : hp (nth L j).ni (nth L i).ni = true
    · exfalso
      have h1 : cmn (nth L i).ni (nth L j).ni = (nth L i).ni.length := by rw [cmn_comm]; simpa [hp] using e
      have h2 := share i (i + 1) (Nat.le_refl _) (by omega) (by omega)
      have h3 := cmn_l (nth L i).ni (nth L (i + 1)).ni
      have h4 := (nb (i + 1) (by omega) (by omega)).1
      simp only [Nat.add_sub_cancel] at h4
      rw [hp, cmn_comm] at h4
      simp at h4
      omega
    · simpa using e
  · by_cases e : df (nth L i) (nth L j) < 0
    · exact e
    · exfalso
      obtain ⟨p, hp1, hp2⟩ := df_iff.1 (show 0 ≤ df (nth L i) (nth L j) by omega)
      have same : ∀ d, i + d ≤ j → nth (nth L i).no p = nth (nth L (i + d)).no p := by
        intro d
        induction d with
        | zero => intro _; rfl
        | succ d ih =>
          intro hd
          rw [ih (by omega)]
          have h4 := (nb (i + (d + 1)) (by omega) (by omega)).2
          rw [show i + (d + 1) - 1 = i + d by omega] at h4
          have h2 := share (i + d) (i + (d + 1)) (by omega) (by omega) (by omega)
          by_cases q : nth (nth L (i + d)).no p = nth (nth L (i + (d + 1))).no p
          · exact q
          · have := df_iff.2 ⟨p, by omega, q⟩
            omega
      exact hp2 (by have := same (j - i) (by omega); rwa [show i + (j - i) = j by omega] at this)
theorem fit_ap {o : Ob} (hlt : ∀ k, k + 1 < o.tr.length → slx (nth o.tr k).ni (nth o.tr (k + 1)).ni < 0) (h : fitB o.tr = true) : fe (apE o) 0 o.tr.length = 0 := by
  have h := of_decide_eq_true h
  refine fe_zero_iff.2 fun i _ hi => ?_
  have hs := srt_sorted lexT_swo o.tr
  have hpm := srt_perm lexT o.tr
  -- any two different traces stand at two places of the sorted list
  have place : ∀ a b : Nat, a < b → b < o.tr.length → ∃ p q, p < (srt lexT o.tr).length ∧ q < (srt lexT o.tr).length ∧ p ≠ q ∧ nth (srt lexT o.tr) p = nth o.tr a ∧ nth (srt lexT o.tr) q = nth o.tr b := by
    intro a b hab hb
    obtain ⟨p, hp, ep⟩ := mem_nth (hpm.mem_iff.2 (nth_mem (l := o.tr) (j := a) (by omega)))
    obtain ⟨q, hq, eq⟩ := mem_nth (hpm.mem_iff.2 (nth_mem (l := o.tr) (j := b) hb))
    refine ⟨p, q, hp, hq, fun e => ?_, ep, eq⟩
    subst e
    rw [ep] at eq
    have := OK.lt_of hlt hab hb
    rw [eq, slx_zero.2 rfl] at this; omega
  have none : ∀ b, i < b → b < o.tr.length → preB o i b = false ∧ claB o i b = false := by
    intro b hib hb
    obtain ⟨p, q, hp, hq, hpq, ep, eq⟩ := place i b hib hb
    by_cases hlt' : p < q
    · obtain ⟨g1, g2⟩ := fit_all hs h hlt' hq
      rw [ep, eq] at g1 g2
      exact ⟨g1, by simp only [claB, decide_eq_false_iff_not]; omega⟩
    · obtain ⟨g1, g2⟩ := fit_all hs h (show q < p by omega) hp
      rw [ep, eq] at g1 g2
      refine ⟨?_, by simp only [claB, decide_eq_false_iff_not]; rw [df_comm]; omega⟩
      by_cases e : preB o i b = true
      · -- the later one begins with the earlier one: then it stands behind it in dictionary order, too
        have h5 : Go.Proofs.Ytngkckefanbhgaa.hp (nth o.tr b).ni (nth o.tr i).ni = true := e
        have h6 : cmn (nth o.tr i).ni (nth o.tr b).ni = (nth o.tr i).ni.length := by rw [cmn_comm]; simpa [Go.Proofs.Ytngkckefanbhgaa.hp] using h5
        have h7 := sorted_at hs (show q < p by omega) hp
        rw [ep, eq] at h7
        have h8 := OK.lt_of hlt hib hb
        unfold lexI at h7
        have h9 := cmn_comm (nth o.tr b).ni (nth o.tr i).ni
        have h10 := cmn_r (nth o.tr i).ni (nth o.tr b).ni
        by_cases h11 : (nth o.tr i).ni.length = (nth o.tr b).ni.length
        · have := eq_of_cmn h6 (by omega)
          rw [this, slx_zero.2 rfl] at h8; omega
        · rw [if_neg (by omega), if_neg (by omega)] at h7; omega
      · simpa using e
  unfold apE
  rw [if_neg, if_neg]
  · rw [exB_iff]
    rintro ⟨j, h1, h2⟩
    have := (none (i + 1 + j) (by omega) (by omega)).2
    rw [this] at h2; cases h2
  · rw [exB_iff]
    rintro ⟨j, h1, h2⟩
    have := (none (i + 1 + j) (by omega) (by omega)).1
    rw [this] at h2; cases h2
theorem out_fe (t : Tr) : ∀ (n k : Nat), (0 ≤ fi (fun j => decide (nth t.no j < 0 ∨ 1048576 < nth t.no j)) k n ↔ fe (outE t) k n = 2) ∧ (fe (outE t) k n = 0 ∨ fe (outE t) k n = 2)
  | 0, k => by simp [fi, fe]
  | n + 1, k => by
    simp only [fi, fe, outE]
    by_cases h : nth t.no k < 0 ∨ 1048576 < nth t.no k
    · simp [h]
    · simp only [h, decide_false, if_false, if_true]
      simpa using out_fe t n (k + 1)
theorem tr_inj {o : Ob} (h : ∀ k, k + 1 < o.tr.length → slx (nth o.tr k).ni (nth o.tr (k + 1)).ni < 0) : ∀ a ∈ o.tr, ∀ b ∈ o.tr, a.ni = b.ni → a = b := by
  intro a ha b hb e
  obtain ⟨i, hi, rfl⟩ := mem_nth ha
  obtain ⟨j, hj, rfl⟩ := mem_nth hb
  by_cases g : i = j
  · subst g; rfl
  · exfalso
    by_cases g' : i < j
    · have := OK.lt_of h g' hj; rw [e, slx_zero.2 rfl] at this; omega
    · have := OK.lt_of h (show j < i by omega) hi; rw [e, slx_zero.2 rfl] at this; omega
theorem fi_exB {α : Type} [Inhabited α] {p : α → Bool} {l : List α} {m : Nat} : 0 ≤ fi (fun j => p (nth (l.drop m) j)) 0 (l.drop m).length ↔ exB (fun i => p (nth l i)) m (l.length - m) = true := by
  rw [fi_iff, exB_iff]
  simp only [List.length_drop, nth_dropn]
  constructor
  · rintro ⟨j, _, h2, h3⟩; exact ⟨j, by omega, h3⟩
  · rintro ⟨j, h2, h3⟩; exact ⟨j, by omega, by omega, h3⟩
theorem df_prog {a b : Tr} (ha : a.no.length = a.ni.length) (hb : b.no.length = b.ni.length) :
    (if cmn (a.no.take (cmn a.ni b.ni)) (b.no.take (cmn a.ni b.ni)) < cmn a.ni b.ni then ((cmn (a.no.take (cmn a.ni b.ni)) (b.no.take (cmn a.ni b.ni)) : Nat) : Int) else -1) = df a b := by
  have h1 := cmn_l a.ni b.ni
  have h2 := cmn_r a.ni b.ni
  generalize hn : cmn a.ni b.ni = n at *
  have s := cmn_spec (a.no.take n) (b.no.take n)
  have la : (a.no.take n).length = n := by simp; omega
  have lb : (b.no.take n).length = n := by simp; omega
  generalize hc : cmn (a.no.take n) (b.no.take n) = c at *
  unfold df
  rw [hn]
  by_cases g : c < n
  · rw [if_pos g]
    have hd : dfE a b c = true := by
      have := s.2.2.2 (by omega) (by omega)
      rw [nth_take g, nth_take g] at this
      simpa [dfE] using this
    have hz : ∀ j, j < c → dfE a b j = false := fun j hj => by
      have := s.2.2.1 j hj
      rw [nth_take (by omega), nth_take (by omega)] at this
      simpa [dfE] using this
    have h0 : 0 ≤ fi (dfE a b) 0 n := fi_iff.2 ⟨c, by omega, by omega, hd⟩
    obtain ⟨_, q2, q3, q4⟩ := fi_val h0
    by_cases e : (fi (dfE a b) 0 n).toNat = c
    · omega
    · by_cases e' : (fi (dfE a b) 0 n).toNat < c
      · rw [hz _ e'] at q3; cases q3
      · have := q4 c (by omega) (by omega); rw [hd] at this; cases this
  · rw [if_neg g]
    by_cases h0 : 0 ≤ fi (dfE a b) 0 n
    · exfalso
      obtain ⟨_, q2, q3, q4⟩ := fi_val h0
      have := s.2.2.1 (fi (dfE a b) 0 n).toNat (by omega)
      rw [nth_take (by omega), nth_take (by omega)] at this
      simp [dfE, this] at q3
    · have : ∀ {p : Nat → Bool} {m k : Nat}, ¬0 ≤ fi p k m → fi p k m = -1 := by
        intro p m
        induction m with
        | zero => intro k _; rfl
        | succ m ih =>
          intro k hk
          simp only [fi] at hk ⊢
          split at hk
          · omega
          · rename_i hh; rw [if_neg hh]; exact ih hk
      rw [this h0]
theorem ansL_miss {w : List Int} : ∀ {l : List Tr}, fi (fun j => (fun t : Tr => hp t.ni w) (nth l j)) 0 l.length < 0 → ansL l w = none := by
  intro l h
  cases hq : ansL l w with
  | none => rfl
  | some x =>
    exfalso
    obtain ⟨t, ht, h2, _⟩ := ansL_some hq
    obtain ⟨j, hj, rfl⟩ := mem_nth ht
    have := (fi_iff (p := fun j => (fun t : Tr => hp t.ni w) (nth l j)) (n := l.length) (k := 0)).2 ⟨j, by omega, by omega, h2⟩
    omega
theorem ansL_first {w : List Int} : ∀ {l : List Tr} {k : Nat}, k < l.length → hp (nth l k).ni w = true → (∀ j, j < k → hp (nth l j).ni w = false) → ansL l w = some ((nth l k).no.take w.length)
  | [], k, h, _, _ => by simp at h
  | t :: l, 0, _, h2, _ => by simp only [ansL]; rw [if_pos (show hp t.ni w = true from h2)]; rfl
  | t :: l, k + 1, h1, h2, h3 => by
    simp only [ansL]
    rw [if_neg (by have := h3 0 (by omega); simpa [nth_zero] using this)]
    exact ansL_first (by simpa using h1) h2 fun j hj => h3 (j + 1) (by omega)
theorem ansL_hit {w : List Int} {l : List Tr} (h : 0 ≤ fi (fun j => (fun t : Tr => hp t.ni w) (nth l j)) 0 l.length) :
    (fi (fun j => (fun t : Tr => hp t.ni w) (nth l j)) 0 l.length).toNat < l.length ∧ hp (nth l (fi (fun j => (fun t : Tr => hp t.ni w) (nth l j)) 0 l.length).toNat).ni w = true ∧
    ansL l w = some ((nth l (fi (fun j => (fun t : Tr => hp t.ni w) (nth l j)) 0 l.length).toNat).no.take w.length) := by
  obtain ⟨h1, h2, h3, h4⟩ := fi_val h
  exact ⟨by omega, h3, ansL_first (by omega) h3 fun j hj => h4 j (Nat.zero_le _) hj⟩
theorem outs_take (m : M) : ∀ (w : List Int) (s : Int) (k : Nat), outs m s (w.take k) = (outs m s w).take k
  | [], s, k => by simp [outs]
  | a :: w, s, 0 => by simp [outs]
  | a :: w, s, k + 1 => by simp [outs, outs_take m w]
theorem run_proper {h : Hy} {o : Ob} (hv : hval h = 0) (ho : oval o = 0) (hi : h.m.i = o.i) {t : Tr} (ht : t ∈ o.tr) (k : Nat) : frE h.m h.m.s (t.ni.take k) = 0 ∧ frOut h.m h.m.s (t.ni.take k) = (outs h.m h.m.s t.ni).take k := by
  have h1 := (hval_ok hv).1
  have h2 := mval_ok h1
  have h3 := ((oval_ok ho).mem ht).1
  have hl3 := h3.lel
  have hz : wchk (t.ni.take k) h.m.i = 0 := by
    refine wchk_zero (by omega) (by simp; omega) ?_
    intro j hj
    have hj2 : j < k ∧ j < t.ni.length := by
      rw [List.length_take] at hj
      omega
    rw [nth_take hj2.1, hi]
    exact h3.sym j hj2.2
  refine ⟨by rw [frE_val h1]; exact hz, ?_⟩
  rw [(frE_ok h1 hz).2.1, outs_take]
theorem agree_ok {h : Hy} {o : Ob} (hv : hval h = 0) (ho : oval o = 0) (hi : h.m.i = o.i) (hf : rfs h o.tr = []) {k : Nat} (hk : k < o.tr.length) : frE h.m h.m.s (nth o.tr k).ni = 0 ∧ frOut h.m h.m.s (nth o.tr k).ni = (nth o.tr k).no := by
  have ht := nth_mem hk
  obtain ⟨h1, h2⟩ := run_proper hv ho hi ht (nth o.tr k).ni.length
  rw [List.take_length] at h1 h2
  refine ⟨h1, ?_⟩
  have hl := ((oval_ok ho).mem ht).1.len
  have ho' := outs_len h.m (nth o.tr k).ni h.m.s
  rw [h2, ← ho', List.take_length]
  have hn : rf1 h (nth o.tr k) = [] := by
    cases hq : rf1 h (nth o.tr k) with
    | nil => rfl
    | cons x l =>
      have : x ∈ rfs h o.tr := by simp only [rfs, List.mem_flatMap]; exact ⟨_, ht, by rw [hq]; exact List.mem_cons_self ..⟩
      rw [hf] at this; cases this
  unfold rf1 at hn
  split at hn
  · cases hn
  · rename_i g
    have := cmn_l (outs h.m h.m.s (nth o.tr k).ni) (nth o.tr k).no
    exact eq_of_cmn (by omega) (by omega)
theorem counter_ok {h : Hy} {o : Ob} (hv : hval h = 0) (ho : oval o = 0) (hi : h.m.i = o.i) (hne : rfs h o.tr ≠ []) :
    ∃ n : Nat, n < 1024 ∧ (least (rfs h o.tr)).length = n + 1 ∧ (ans o (least (rfs h o.tr))).isSome = true ∧ frE h.m h.m.s (least (rfs h o.tr)) = 0 ∧ ((ans o (least (rfs h o.tr))).getD []).length = n + 1 ∧ (frOut h.m h.m.s (least (rfs h o.tr))).length = n + 1 ∧
      ((ans o (least (rfs h o.tr))).getD []).take n = (frOut h.m h.m.s (least (rfs h o.tr))).take n ∧ nth ((ans o (least (rfs h o.tr))).getD []) n ≠ nth (frOut h.m h.m.s (least (rfs h o.tr))) n := by
  have ok := oval_ok ho
  obtain ⟨t, ht, e, hc⟩ := rfs_mem (least_mem hne)
  generalize least (rfs h o.tr) = w at *
  have hl := (ok.mem ht).1.len
  have hol := outs_len h.m t.ni h.m.s
  have sp := cmn_spec (outs h.m h.m.s t.ni) t.no
  generalize hcn : cmn (outs h.m h.m.s t.ni) t.no = n at *
  have hwl : w.length = n + 1 := by rw [e]; simp; omega
  obtain ⟨r1, r2⟩ := run_proper hv ho hi ht (n + 1)
  rw [← e] at r1 r2
  have hpw : hp t.ni w = true := by rw [e]; exact hp_take (by omega)
  have hne' : w ≠ [] := by intro e'; rw [e'] at hwl; simp at hwl
  have hans : ∃ x, ans o w = some x := by
    cases hq : ans o w with
    | some x => exact ⟨x, rfl⟩
    | none =>
      exfalso
      unfold ans at hq
      rw [if_neg hne'] at hq
      have := ansL_none hq t ht
      rw [hpw] at this; cases this
  obtain ⟨x, hx⟩ := hans
  have hx' := hx
  unfold ans at hx'
  rw [if_neg hne'] at hx'
  obtain ⟨s, hs, h2, hxe⟩ := ansL_some hx'
  have hsame : ∀ j, j < n + 1 → nth x j = nth t.no j := fun j hj => by
    rw [hxe, nth_take (by omega)]
    refine ok.same hs ht ?_
    have := cmn_of_pre h2 hpw
    omega
  have hxl : x.length = n + 1 := by
    have := ans_len ok (w := w) (by rw [hx]; rfl)
    rw [hx] at this; simpa [hwl] using this
  have hyl : (frOut h.m h.m.s w).length = n + 1 := by rw [r2]; simp; omega
  have hlel := (ok.mem ht).1.lel
  refine ⟨n, by omega, hwl, by rw [hx]; rfl, r1, by rw [hx]; exact hxl, hyl, ?_, ?_⟩
  · rw [hx]
    refine nth_ext (by simp; omega) fun j hj => ?_
    have hj' : j < n := by simp [hxl] at hj; omega
    simp only [Option.getD_some]
    rw [nth_take hj', nth_take hj', hsame j (by omega), r2, nth_take (by omega)]
    exact (sp.2.2.1 j hj').symm
  · rw [hx]
    simp only [Option.getD_some]
    rw [hsame n (by omega), r2, nth_take (by omega)]
    exact fun e' => sp.2.2.2 (by omega) (by omega) e'.symm
end Go.Proofs.Ytngkckefanbhgaa

namespace Go.Proofs.Ytngkckefanbhgaa
open Go
def knw (l : List Tr) (w : List Int) : Nat → Nat
  | 0 => 0
  | n + 1 => max (knw l w n) (cmn (nth l n).ni w)
theorem knw_zero {l : List Tr} {w : List Int} : knw l w 0 = 0 := rfl
theorem knw_succ {l : List Tr} {w : List Int} {n : Nat} : knw l w (n + 1) = max (knw l w n) (cmn (nth l n).ni w) := rfl
end Go.Proofs.Ytngkckefanbhgaa

namespace Go.Proofs.Ytngkckefanbhgaa
open Go
theorem fi_bnd {p : Nat → Bool} : ∀ n k, -1 ≤ fi p k n ∧ (0 ≤ fi p k n → fi p k n < ((k + n : Nat) : Int))
  | 0, k => ⟨Int.le_refl _, fun h => by simp [fi] at h⟩
  | n + 1, k => by
    simp only [fi]
    split
    · exact ⟨by omega, fun _ => by omega⟩
    · have h := fi_bnd (p := p) n (k + 1)
      exact ⟨h.1, fun h0 => by have := h.2 h0; omega⟩
theorem df_bnd (a b : Tr) : -1 ≤ df a b ∧ df a b ≤ cmn a.ni b.ni ∧ (0 ≤ df a b → df a b < cmn a.ni b.ni) := by
  have h := fi_bnd (p := dfE a b) (cmn a.ni b.ni) 0
  unfold df
  refine ⟨h.1, ?_, fun h0 => by have := h.2 h0; omega⟩
  by_cases h0 : 0 ≤ fi (dfE a b) 0 (cmn a.ni b.ni)
  · have := h.2 h0; omega
  · omega
def clA (l : List Tr) (t : Tr) : Nat → Nat × Int
  | 0 => (t.ni.length, 0)
  | n + 1 => if 0 ≤ df (nth l n) t ∧ df (nth l n) t < ((clA l t n).1 : Nat) then ((df (nth l n) t).toNat, nth (nth l n).no (df (nth l n) t).toNat) else clA l t n
theorem clA_zero {l : List Tr} {t : Tr} : clA l t 0 = (t.ni.length, 0) := rfl
theorem clA_hit {l : List Tr} {t : Tr} {n : Nat} (h : 0 ≤ df (nth l n) t ∧ df (nth l n) t < ((clA l t n).1 : Nat)) : clA l t (n + 1) = ((df (nth l n) t).toNat, nth (nth l n).no (df (nth l n) t).toNat) := if_pos h
theorem clA_skip {l : List Tr} {t : Tr} {n : Nat} (h : ¬(0 ≤ df (nth l n) t ∧ df (nth l n) t < ((clA l t n).1 : Nat))) : clA l t (n + 1) = clA l t n := if_neg h
theorem clA_le {l : List Tr} {t : Tr} : ∀ n, (clA l t n).1 ≤ t.ni.length
  | 0 => Nat.le_refl _
  | n + 1 => by
    by_cases h : 0 ≤ df (nth l n) t ∧ df (nth l n) t < ((clA l t n).1 : Nat)
    · rw [clA_hit h]; have := clA_le (l := l) (t := t) n; simp only; omega
    · rw [clA_skip h]; exact clA_le n
def clB (o : Ob) (t : Tr) : Prop := prE t o.i = 0 ∧ (clA o.tr t o.tr.length).1 ≠ t.ni.length
instance (o : Ob) (t : Tr) : Decidable (clB o t) := by unfold clB; infer_instance
def clW (o : Ob) (t : Tr) : List Int := if clB o t then t.ni.take ((clA o.tr t o.tr.length).1 + 1) else []
def clF (o : Ob) (t : Tr) : Int := if clB o t then (clA o.tr t o.tr.length).2 else 0
def clS (o : Ob) (t : Tr) : Int := if clB o t then nth t.no (clA o.tr t o.tr.length).1 else 0
end Go.Proofs.Ytngkckefanbhgaa

namespace Go.Proofs.Ytngkckefanbhgaa
def lbP (t u : Tr) : Bool := decide (slx u.ni t.ni < 0)
def lbN (l : List Tr) (t : Tr) : Nat := (l.takeWhile (lbP t)).length
def Srt (l : List Tr) : Prop := l.Pairwise fun a b => slx a.ni b.ni < 0
theorem lb_cons {t a : Tr} {l : List Tr} : lbN (a :: l) t = if lbP t a = true then lbN l t + 1 else 0 := by
  unfold lbN; rw [List.takeWhile_cons]; split <;> rfl
theorem lb_le {t : Tr} : ∀ l : List Tr, lbN l t ≤ l.length
  | [] => Nat.le_refl _
  | a :: l => by rw [lb_cons]; have := lb_le (t := t) l; split <;> simp <;> omega
theorem lb_iff {t : Tr} : ∀ {l : List Tr} (_ : Srt l) {k : Nat}, k < l.length → (slx (nth l k).ni t.ni < 0 ↔ k < lbN l t)
  | [], _, k, hk => by simp at hk
  | a :: l, h, k, hk => by
    rw [lb_cons]
    obtain ⟨h1, h2⟩ := List.pairwise_cons.1 h
    by_cases e : lbP t a = true
    · rw [if_pos e]
      cases k with
      | zero => rw [nth_zero]; simp only [lbP, decide_eq_true_eq] at e; exact ⟨fun _ => by omega, fun _ => e⟩
      | succ k => rw [nth_succ, lb_iff h2 (by simpa using hk)]; omega
    · rw [if_neg e]
      simp only [lbP, decide_eq_true_eq] at e
      refine ⟨fun h3 => ?_, fun h3 => by omega⟩
      cases k with
      | zero => exact (e h3).elim
      | succ k =>
        rw [nth_succ] at h3
        exact (e (slx_trans (h1 _ (nth_mem (by simpa using hk))) h3)).elim
theorem lb_split {t : Tr} : ∀ {l : List Tr} (_ : Srt l), l.take (lbN l t) = l.filter (lbP t) ∧ l.drop (lbN l t) = l.filter fun u => !lbP t u
  | [], _ => ⟨rfl, rfl⟩
  | a :: l, h => by
    obtain ⟨h1, h2⟩ := List.pairwise_cons.1 h
    rw [lb_cons]
    by_cases e : lbP t a = true
    · obtain ⟨g1, g2⟩ := lb_split (t := t) h2
      rw [if_pos e]; simp [e, g1, g2]
    · rw [if_neg e]
      have hn : ∀ u ∈ l, lbP t u = false := fun u hu => by
        simp only [lbP, decide_eq_true_eq, decide_eq_false_iff_not] at e ⊢
        exact fun h3 => e (slx_trans (h1 u hu) h3)
      have e' : lbP t a = false := by simpa using e
      refine ⟨?_, ?_⟩
      · rw [List.take_zero, List.filter_cons, if_neg e, List.filter_eq_nil_iff.2 fun u hu => by simp [hn u hu]]
      · rw [List.drop_zero, List.filter_cons, if_pos (by simp [e']), List.filter_eq_self.2 fun u hu => by simp [hn u hu]]
def kp (t u : Tr) : Bool := !hp t.ni u.ni
def dlF (t : Tr) (l : List Tr) (k : Nat) : List Tr := (l.take k).filter (kp t)
def dlL (t : Tr) (l : List Tr) (k : Nat) : List Tr := dlF t l k ++ l.drop (dlF t l k).length
theorem dlF_le (t : Tr) (l : List Tr) (k : Nat) : (dlF t l k).length ≤ k ∧ (dlF t l k).length ≤ l.length := by
  have h := List.length_filter_le (kp t) (l.take k)
  rw [List.length_take] at h
  unfold dlF; omega
theorem dlL_len (t : Tr) (l : List Tr) (k : Nat) : (dlL t l k).length = l.length := by
  have := dlF_le t l k
  unfold dlL; rw [List.length_append, List.length_drop]; omega
theorem dlL_nth {t : Tr} {l : List Tr} {k : Nat} : nth (dlL t l k) k = nth l k := by
  have := (dlF_le t l k).1
  unfold dlL
  have e : nth (dlF t l k ++ l.drop (dlF t l k).length) ((dlF t l k).length + (k - (dlF t l k).length)) = nth (l.drop (dlF t l k).length) (k - (dlF t l k).length) := nth_app_r
  rw [nth_dropn] at e
  rw [show (dlF t l k).length + (k - (dlF t l k).length) = k by omega] at e
  exact e
theorem dlF_keep {t : Tr} {l : List Tr} {k : Nat} (hk : k < l.length) (h : kp t (nth l k) = true) : dlF t l (k + 1) = dlF t l k ++ [nth l k] := by
  unfold dlF; rw [take_succ_nth hk, List.filter_append]; simp [h]
theorem dlF_skip {t : Tr} {l : List Tr} {k : Nat} (hk : k < l.length) (h : ¬kp t (nth l k) = true) : dlF t l (k + 1) = dlF t l k := by
  unfold dlF; rw [take_succ_nth hk, List.filter_append]; simp [h]
theorem dlL_skip {t : Tr} {l : List Tr} {k : Nat} (hk : k < l.length) (h : ¬kp t (nth l k) = true) : dlL t l (k + 1) = dlL t l k := by
  unfold dlL; rw [dlF_skip hk h]
theorem set_append_drop {α : Type} {a l : List α} {x : α} (h : a.length < l.length) : (a ++ l.drop a.length).set a.length x = a ++ [x] ++ l.drop (a.length + 1) := by
  rw [List.drop_eq_getElem_cons h]
  rw [List.set_append_right _ _ (Nat.le_refl _), Nat.sub_self, List.set_cons_zero]; simp
theorem dlL_keep {t : Tr} {l : List Tr} {k : Nat} (hk : k < l.length) (h : kp t (nth l k) = true) : (dlL t l k).set (dlF t l k).length (nth l k) = dlL t l (k + 1) := by
  have := (dlF_le t l k).1
  unfold dlL
  rw [dlF_keep hk h, set_append_drop (by omega)]
  simp
theorem dl_none {t : Tr} {l : List Tr} (h : fi (fun j => (fun u : Tr => hp t.ni u.ni) (nth l j)) 0 l.length < 0) : l.filter (kp t) = l := by
  replace h : fi (fun j => hp t.ni (nth l j).ni) 0 l.length < 0 := h
  refine List.filter_eq_self.2 fun u hu => ?_
  obtain ⟨j, hj, rfl⟩ := mem_nth hu
  unfold kp
  cases e : hp t.ni (nth l j).ni with
  | false => rfl
  | true =>
    have := fi_iff (p := fun j => hp t.ni (nth l j).ni) (n := l.length) (k := 0) |>.2 ⟨j, Nat.zero_le _, by omega, e⟩
    omega
theorem dl_start {t : Tr} {l : List Tr} (h : 0 ≤ fi (fun j => (fun u : Tr => hp t.ni u.ni) (nth l j)) 0 l.length) :
    ∃ i : Nat, fi (fun j => (fun u : Tr => hp t.ni u.ni) (nth l j)) 0 l.length = i ∧ i < l.length ∧ (dlF t l (i + 1)).length = i ∧ dlL t l (i + 1) = l := by
  show ∃ i : Nat, fi (fun j => hp t.ni (nth l j).ni) 0 l.length = i ∧ i < l.length ∧ (dlF t l (i + 1)).length = i ∧ dlL t l (i + 1) = l
  replace h : 0 ≤ fi (fun j => hp t.ni (nth l j).ni) 0 l.length := h
  obtain ⟨_, h2, h3, h4⟩ := fi_val h
  refine ⟨(fi (fun j => hp t.ni (nth l j).ni) 0 l.length).toNat, by omega, by omega, ?_⟩
  generalize (fi (fun j => hp t.ni (nth l j).ni) 0 l.length).toNat = i at h2 h3 h4
  have e1 : dlF t l i = l.take i := List.filter_eq_self.2 fun u hu => by
    obtain ⟨j, hj, rfl⟩ := mem_nth hu
    rw [List.length_take] at hj
    rw [nth_take (by omega)]
    unfold kp; rw [h4 j (Nat.zero_le _) (by omega)]; rfl
  have e2 : dlF t l (i + 1) = l.take i := by rw [dlF_skip (by omega) (by unfold kp; rw [show hp t.ni (nth l i).ni = true from h3]; decide), e1]
  have e3 : (l.take i).length = i := by rw [List.length_take]; omega
  refine ⟨by rw [e2, e3], ?_⟩
  unfold dlL; rw [e2, e3, List.take_append_drop]
def inP (l : List Tr) (t : Tr) (j : Nat) : Bool := hp (nth l j).ni t.ni
def ndP (l : List Tr) (t : Tr) (j : Nat) : Bool := decide (0 ≤ df (nth l j) t)
def ins (l : List Tr) (t : Tr) : List Tr := l.filter (lbP t) ++ t :: l.filter fun u => !lbP t u
def inL (l : List Tr) (t : Tr) : Prop := exB (inP l t) 0 l.length = true ∨ t.ni.length = 0
instance (l : List Tr) (t : Tr) : Decidable (inL l t) := inferInstanceAs (Decidable (_ ∨ _))
def addL (l : List Tr) (t : Tr) : List Tr := if inL l t then l else ins (l.filter (kp t)) t
def addE (l : List Tr) (t : Tr) : Int := if 0 ≤ fi (ndP l t) 0 l.length then 13 else if inL l t then 0 else if (l.filter (kp t)).length = 10000 then 11 else 0
theorem ins_len (l : List Tr) (t : Tr) : (ins l t).length = l.length + 1 := by
  unfold ins
  rw [List.length_append, List.length_cons]
  have : ∀ m : List Tr, (m.filter (lbP t)).length + (m.filter fun u => !lbP t u).length = m.length := fun m => by
    induction m with
    | nil => rfl
    | cons a m ih => cases e : lbP t a <;> simp [e] <;> omega
  have := this l
  omega
theorem OK.srt {o : Ob} (h : OK o) : Srt o.tr := by
  rw [Srt, List.pairwise_iff_getElem]
  intro i j hi hj hij
  rw [nth_getElem hi, nth_getElem hj]
  exact OK.lt_of h.ord hij hj
theorem filter_srt {l : List Tr} (h : Srt l) (p : Tr → Bool) : Srt (l.filter p) := h.filter p
theorem ins_at {l : List Tr} {t : Tr} (h : Srt l) : l.take (lbN l t) ++ t :: l.drop (lbN l t) = ins l t := by
  obtain ⟨h1, h2⟩ := lb_split (t := t) h
  rw [h1, h2, ins]
def okR (a b : Tr) : Prop := slx a.ni b.ni < 0 ∧ hp b.ni a.ni = false ∧ df a b < 0
theorem OK.pair {o : Ob} (h : OK o) : o.tr.Pairwise okR := by
  rw [List.pairwise_iff_getElem]
  intro i j hi hj hij
  rw [nth_getElem hi, nth_getElem hj]
  exact ⟨OK.lt_of h.ord hij hj, h.pre i j hij hj, h.cla i j hij hj⟩
theorem OK.of {i : Int} {l : List Tr} (hi : 1 ≤ i ∧ i ≤ 64) (hl : l.length ≤ 10000) (hm : ∀ t ∈ l, Proper t i ∧ 0 < t.ni.length) (h : l.Pairwise okR) : OK ⟨i, l⟩ := by
  rw [List.pairwise_iff_getElem] at h
  have h' : ∀ a b, a < b → b < l.length → okR (nth l a) (nth l b) := fun a b hab hb => by
    have := h a b (by omega) hb hab
    rwa [nth_getElem, nth_getElem] at this
  exact ⟨hi, hl, fun k hk => hm _ (nth_mem hk), fun k hk => (h' k (k + 1) (by omega) hk).1, fun a b hab hb => (h' a b hab hb).2.1, fun a b hab hb => (h' a b hab hb).2.2⟩
theorem not_inL {l : List Tr} {t : Tr} (h : ¬inL l t) {u : Tr} (hu : u ∈ l) : hp u.ni t.ni = false := by
  obtain ⟨j, hj, rfl⟩ := mem_nth hu
  cases e : hp (nth l j).ni t.ni with
  | false => rfl
  | true => exact (h (.inl (exB_iff.2 ⟨j, hj, by rw [Nat.zero_add]; exact e⟩))).elim
theorem hp_self (w : List Int) : hp w w = true := by unfold hp; rw [cmn_self]; simp
theorem lt_of_not {l : List Tr} {t : Tr} (h : ¬inL l t) {u : Tr} (hu : u ∈ l) : slx t.ni u.ni < 0 ↔ lbP t u = false := by
  have h1 := not_inL h hu
  simp only [lbP, decide_eq_false_iff_not]
  refine ⟨fun h2 h3 => ?_, fun h2 => ?_⟩
  · have := slx_neg h2; omega
  · by_cases e : slx u.ni t.ni = 0
    · rw [slx_zero.1 e, hp_self] at h1; cases h1
    · exact slx_pos (by omega)
theorem not_ndet {l : List Tr} {t : Tr} (h : ¬0 ≤ fi (ndP l t) 0 l.length) {u : Tr} (hu : u ∈ l) : df u t < 0 := by
  obtain ⟨j, hj, rfl⟩ := mem_nth hu
  by_cases e : 0 ≤ df (nth l j) t
  · exact (h (fi_iff.2 ⟨j, Nat.zero_le _, by omega, by simp [ndP, e]⟩)).elim
  · omega
theorem add_ok {i : Int} {l : List Tr} {t : Tr} (ho : OK ⟨i, l⟩) (ht : prE t i = 0) (he : addE l t = 0) : OK ⟨i, addL l t⟩ := by
  unfold addE at he
  split at he; · cases he
  rename_i hn
  split at he
  · rename_i h1; unfold addL; rw [if_pos h1]; exact ho
  rename_i h1
  split at he; · cases he
  rename_i h2
  unfold addL; rw [if_neg h1]
  have hlen := ho.len
  have hfl := List.length_filter_le (kp t) l
  refine OK.of ho.hi (by rw [ins_len]; simp only at hlen; omega) (fun u hu => ?_) ?_
  · simp only [ins, List.mem_append, List.mem_cons, List.mem_filter] at hu
    rcases hu with h | rfl | h
    · exact ho.mem h.1.1
    · exact ⟨prE_ok ht, by have : ¬u.ni.length = 0 := fun e => h1 (.inr e); omega⟩
    · exact ho.mem h.1.1
  · have hp := (ho.pair.filter (kp t))
    simp only [ins]
    rw [List.pairwise_append]
    refine ⟨hp.filter _, List.pairwise_cons.2 ⟨fun y hy => ?_, hp.filter _⟩, fun x hx y hy => ?_⟩
    · simp only [List.mem_filter] at hy
      obtain ⟨⟨g1, g2⟩, g3⟩ := hy
      exact ⟨(lt_of_not h1 g1).2 (by simpa using g3), not_inL h1 g1, by rw [df_comm]; exact not_ndet hn g1⟩
    · simp only [List.mem_filter, List.mem_cons] at hx hy
      obtain ⟨⟨g1, g2⟩, g3⟩ := hx
      rcases hy with rfl | ⟨⟨k1, k2⟩, k3⟩
      · exact ⟨by simpa [lbP] using g3, by simpa [kp] using g2, not_ndet hn g1⟩
      · have hxy : slx x.ni y.ni < 0 := by
          obtain ⟨q1, q2⟩ : slx x.ni t.ni < 0 ∧ slx t.ni y.ni < 0 := ⟨by simpa [lbP] using g3, (lt_of_not h1 k1).2 (by simpa using k3)⟩
          exact slx_trans q1 q2
        obtain ⟨a, ha, rfl⟩ := mem_nth g1
        obtain ⟨b, hb, rfl⟩ := mem_nth k1
        have hab : a < b := by
          rcases Nat.lt_trichotomy a b with h | h | h
          · exact h
          · subst h; rw [slx_zero.2 rfl] at hxy; omega
          · have := OK.lt_of ho.ord h ha; have := slx_neg hxy; simp only at *; omega
        exact ⟨hxy, ho.pre a b hab hb, ho.cla a b hab hb⟩
def doA (l : List Tr) (t : Tr) : Nat → Bool
  | 0 => decide (t.ni.length = 0)
  | k + 1 => doA l t k || hp (nth l k).ni t.ni
def kpR (t u : Tr) : Bool := !hp t.ni u.ni || decide (t.ni.length = u.ni.length)
def raS (l : List Tr) (t : Tr) : Nat → List Tr × Bool
  | 0 => ([], doA l t l.length)
  | k + 1 =>
    let a := if (!(raS l t k).2 && decide (slx t.ni (nth l k).ni < 0)) = true then ((raS l t k).1 ++ [t], true) else raS l t k
    if kpR t (nth l k) = true then (a.1 ++ [nth l k], a.2) else a
def raL (l : List Tr) (t : Tr) : List Tr := if (raS l t l.length).2 = true then (raS l t l.length).1 else (raS l t l.length).1 ++ [t]
section
variable {l : List Tr} {t : Tr} {k : Nat}
theorem raS_tt (h1 : (!(raS l t k).2 && decide (slx t.ni (nth l k).ni < 0)) = true) (h2 : kpR t (nth l k) = true) : raS l t (k + 1) = ((raS l t k).1 ++ [t] ++ [nth l k], true) := by
  simp only [raS]; rw [if_pos h1, if_pos h2]
theorem raS_tf (h1 : (!(raS l t k).2 && decide (slx t.ni (nth l k).ni < 0)) = true) (h2 : kpR t (nth l k) = false) : raS l t (k + 1) = ((raS l t k).1 ++ [t], true) := by
  simp only [raS]; rw [if_pos h1, if_neg (by simp [h2])]
theorem raS_ft (h1 : (!(raS l t k).2 && decide (slx t.ni (nth l k).ni < 0)) = false) (h2 : kpR t (nth l k) = true) : raS l t (k + 1) = ((raS l t k).1 ++ [nth l k], (raS l t k).2) := by
  have e : ¬(!(raS l t k).2 && decide (slx t.ni (nth l k).ni < 0)) = true := by rw [h1]; decide
  simp only [raS]; rw [if_neg e, if_pos h2]
theorem raS_ff (h1 : (!(raS l t k).2 && decide (slx t.ni (nth l k).ni < 0)) = false) (h2 : kpR t (nth l k) = false) : raS l t (k + 1) = raS l t k := by
  have e : ¬(!(raS l t k).2 && decide (slx t.ni (nth l k).ni < 0)) = true := by rw [h1]; decide
  have e2 : ¬kpR t (nth l k) = true := by rw [h2]; decide
  simp only [raS]; rw [if_neg e2, if_neg e]
end
theorem doA_iff (l : List Tr) (t : Tr) : ∀ k, doA l t k = true ↔ t.ni.length = 0 ∨ exB (inP l t) 0 k = true
  | 0 => by simp [doA, exB]
  | k + 1 => by
    simp only [doA, Bool.or_eq_true, doA_iff l t k, exB_iff, Nat.zero_add, inP]
    constructor
    · rintro ((h | ⟨j, h1, h2⟩) | h)
      · exact .inl h
      · exact .inr ⟨j, by omega, h2⟩
      · exact .inr ⟨k, by omega, h⟩
    · rintro (h | ⟨j, h1, h2⟩)
      · exact .inl (.inl h)
      · by_cases e : j = k
        · subst e; exact .inr h2
        · exact .inl (.inr ⟨j, by omega, h2⟩)
theorem doA_in (l : List Tr) (t : Tr) : doA l t l.length = true ↔ inL l t := by rw [doA_iff]; exact Or.comm
theorem hp_trans {a b c : List Int} (h1 : hp a b = true) (h2 : hp b c = true) : hp a c = true := by
  obtain ⟨x, rfl⟩ := hp_iff.1 h1
  obtain ⟨y, rfl⟩ := hp_iff.1 h2
  exact hp_iff.2 ⟨y ++ x, by simp⟩
theorem hp_eq {a b : List Int} (h1 : hp a b = true) (h2 : a.length ≤ b.length) : a = b := by
  obtain ⟨x, rfl⟩ := hp_iff.1 h1
  have : x = [] := by cases x with
    | nil => rfl
    | cons c x => simp at h2; omega
  simp [this]
theorem kp_in {o : Ob} (ho : OK o) {t : Tr} (h : inL o.tr t) {k : Nat} (hk : k < o.tr.length) : kpR t (nth o.tr k) = true := by
  unfold kpR
  cases e : hp t.ni (nth o.tr k).ni with
  | false => rfl
  | true =>
    simp only [Bool.not_true, Bool.false_or, decide_eq_true_eq]
    rcases h with h | h
    · obtain ⟨j, hj, h1⟩ := exB_iff.1 h
      rw [Nat.zero_add] at h1
      have h2 : hp (nth o.tr j).ni (nth o.tr k).ni = true := hp_trans h1 e
      have h3 := hp_len h1
      have h4 := hp_len e
      rcases Nat.lt_trichotomy j k with q | q | q
      · have h5 := OK.lt_of ho.ord q hk
        have h6 := hp_len h2
        unfold slx at h5
        split at h5
        · omega
        · split at h5
          · omega
          · have : (nth o.tr j).ni = (nth o.tr k).ni := hp_eq h2 (by omega)
            rw [this, lexI_zero.2 rfl] at h5; omega
      · subst q; omega
      · rw [ho.pre k j q hj] at h2; cases h2
    · have := hp_len e
      have := (ho.pr k hk).2
      omega
theorem raS_in {o : Ob} (ho : OK o) {t : Tr} (h : inL o.tr t) : ∀ {k : Nat}, k ≤ o.tr.length → raS o.tr t k = (o.tr.take k, true)
  | 0, _ => by simp [raS, (doA_in o.tr t).2 h]
  | k + 1, hk => by
    simp only [raS, raS_in ho h (show k ≤ o.tr.length by omega), kp_in ho h (show k < o.tr.length by omega)]
    simp [take_succ_nth (show k < o.tr.length by omega)]
theorem kp_out {l : List Tr} {t : Tr} (h : ¬inL l t) {u : Tr} (hu : u ∈ l) : kpR t u = kp t u := by
  unfold kpR kp
  cases e : hp t.ni u.ni with
  | false => rfl
  | true =>
    simp only [Bool.not_true, Bool.false_or, decide_eq_false_iff_not]
    intro q
    have := hp_eq e (by omega)
    have h1 := not_inL h hu
    rw [this, hp_self] at h1; cases h1
theorem raS_out {o : Ob} (ho : OK o) {t : Tr} (h : ¬inL o.tr t) : ∀ {k : Nat}, k ≤ o.tr.length →
    ((raS o.tr t k).2 = false ∧ (raS o.tr t k).1 = (o.tr.take k).filter (kp t) ∧ ∀ u ∈ o.tr.take k, lbP t u = true) ∨
    ((raS o.tr t k).2 = true ∧ (raS o.tr t k).1 = ins ((o.tr.take k).filter (kp t)) t ∧ ∃ j, j < k ∧ lbP t (nth o.tr j) = false)
  | 0, _ => by
    refine .inl ⟨?_, by simp [raS], by simp⟩
    simp only [raS]
    cases e : doA o.tr t o.tr.length with
    | false => rfl
    | true => exact (h ((doA_in o.tr t).1 e)).elim
  | k + 1, hk => by
    have hk' : k < o.tr.length := by omega
    have hm : nth o.tr k ∈ o.tr := nth_mem hk'
    have ek := kp_out h hm
    have et : (o.tr.take (k + 1)).filter (kp t) = (o.tr.take k).filter (kp t) ++ if kp t (nth o.tr k) = true then [nth o.tr k] else [] := by
      rw [take_succ_nth hk', List.filter_append]; cases e : kp t (nth o.tr k) <;> simp [e]
    have hlt := lt_of_not h hm
    have insF : ∀ (F : List Tr), (∀ u ∈ F, lbP t u = true) → ins F t = F ++ [t] := fun F hF => by
      unfold ins; rw [List.filter_eq_self.2 hF, List.filter_eq_nil_iff.2 fun u hu => by simp [hF u hu]]
    have insA : ∀ (F : List Tr) (x : Tr), lbP t x = false → ins (F ++ [x]) t = ins F t ++ [x] := fun F x hx => by
      unfold ins; simp [List.filter_append, hx]
    rcases raS_out ho h (show k ≤ o.tr.length by omega) with ⟨g1, g2, g3⟩ | ⟨g1, g2, j, g3, g4⟩
    · by_cases c : slx t.ni (nth o.tr k).ni < 0
      · have c2 := hlt.1 c
        right
        have hF : ∀ u ∈ (o.tr.take k).filter (kp t), lbP t u = true := fun u hu => g3 u (List.mem_filter.1 hu).1
        refine ⟨?_, ?_, k, by omega, c2⟩
        · simp only [raS, g1, c, ek]; cases e : kp t (nth o.tr k) <;> simp
        · rw [et]
          simp only [raS, g1, c, ek]
          cases e : kp t (nth o.tr k)
          · simp [g2, insF _ hF]
          · simp [insA _ _ c2, g2, insF _ hF]
      · have c2 : lbP t (nth o.tr k) = true := by
          cases e : lbP t (nth o.tr k) with
          | true => rfl
          | false => exact (c (hlt.2 e)).elim
        left
        refine ⟨?_, ?_, fun u hu => ?_⟩
        · simp only [raS, g1, c, ek]; cases e : kp t (nth o.tr k) <;> simp [g1]
        · rw [et]
          simp only [raS, g1, c, ek]
          cases e : kp t (nth o.tr k) <;> simp [g2]
        · rw [take_succ_nth hk', List.mem_append, List.mem_singleton] at hu
          rcases hu with hu | rfl
          · exact g3 u hu
          · exact c2
    · have c2 : lbP t (nth o.tr k) = false := by
        have h5 := OK.lt_of ho.ord g3 hk'
        simp only [lbP, decide_eq_false_iff_not] at g4 ⊢
        exact fun q => g4 (slx_trans h5 q)
      right
      refine ⟨?_, ?_, j, by omega, g4⟩
      · simp only [raS, g1, ek]; cases e : kp t (nth o.tr k) <;> simp [g1]
      · rw [et]
        simp only [raS, g1, ek]
        cases e : kp t (nth o.tr k)
        · simp [g2]
        · simp [insA _ _ c2, g2]
theorem raL_eq {o : Ob} (ho : OK o) (t : Tr) : raL o.tr t = addL o.tr t := by
  unfold raL addL
  by_cases h : inL o.tr t
  · rw [if_pos h, raS_in ho h (Nat.le_refl _)]; simp
  · rw [if_neg h]
    rcases raS_out ho h (Nat.le_refl o.tr.length) with ⟨g1, g2, g3⟩ | ⟨g1, g2, _⟩
    · rw [g1, g2, List.take_length] at *
      simp only [Bool.false_eq_true, if_false]
      unfold ins
      have hF : ∀ u ∈ o.tr.filter (kp t), lbP t u = true := fun u hu => g3 u (List.mem_filter.1 hu).1
      generalize o.tr.filter (kp t) = F at hF ⊢
      rw [List.filter_eq_self.2 hF, List.filter_eq_nil_iff.2 fun u hu => by simp [hF u hu]]
    · rw [g1, g2, List.take_length]; simp
theorem raS_len {l : List Tr} {t : Tr} : ∀ k, (raS l t k).1.length ≤ 2 * k
  | 0 => by simp [raS]
  | k + 1 => by
    have := raS_len (l := l) (t := t) k
    simp only [raS]
    split <;> split <;> simp <;> omega
end Go.Proofs.Ytngkckefanbhgaa

namespace Go.Proofs.Ytngkckefanbhgaa
theorem Tr.eq_iff {a b : Tr} : a = b ↔ a.ni = b.ni ∧ a.no = b.no := by cases a; cases b; simp
theorem Ob.eq_iff {a b : Ob} : a = b ↔ a.i = b.i ∧ a.tr = b.tr := by cases a; cases b; simp
instance : DecidableEq Tr := fun _ _ => decidable_of_iff _ Tr.eq_iff.symm
instance : DecidableEq Ob := fun _ _ => decidable_of_iff _ Ob.eq_iff.symm
end Go.Proofs.Ytngkckefanbhgaa

namespace Go.Proofs.Ytngkckefanbhgaa
def alR (i : Int) : List Tr → List Tr → List Tr × Int
  | acc, [] => (acc, 0)
  | acc, t :: l => if prE t i ≠ 0 then ([], prE t i) else if addE acc t ≠ 0 then ([], addE acc t) else alR i (addL acc t) l
def alO (o : Ob) (l : List Tr) : Ob := if (alR o.i o.tr l).2 ≠ 0 then o else ⟨o.i, (alR o.i o.tr l).1⟩
theorem alR_go {i : Int} {acc l : List Tr} {k : Nat} (hk : k < l.length) (h1 : prE (nth l k) i = 0) (h2 : addE acc (nth l k) = 0) : alR i acc (l.drop k) = alR i (addL acc (nth l k)) (l.drop (k + 1)) := by
  rw [nth_drop hk, alR, if_neg (by omega), if_neg (by omega)]
theorem alR_pr {i : Int} {acc l : List Tr} {k : Nat} (hk : k < l.length) (h1 : prE (nth l k) i ≠ 0) : alR i acc (l.drop k) = ([], prE (nth l k) i) := by
  rw [nth_drop hk, alR, if_pos h1]
theorem alR_er {i : Int} {acc l : List Tr} {k : Nat} (hk : k < l.length) (h1 : prE (nth l k) i = 0) (h2 : addE acc (nth l k) ≠ 0) : alR i acc (l.drop k) = ([], addE acc (nth l k)) := by
  rw [nth_drop hk, alR, if_neg (by omega), if_pos h2]
theorem alR_end {i : Int} {acc l : List Tr} {k : Nat} (hk : l.length ≤ k) : alR i acc (l.drop k) = (acc, 0) := by
  rw [List.drop_of_length_le hk, alR]
theorem alR_ok {i : Int} : ∀ {l acc : List Tr}, OK ⟨i, acc⟩ → (alR i acc l).2 = 0 → OK ⟨i, (alR i acc l).1⟩
  | [], acc, h, _ => h
  | t :: l, acc, h, he => by
    rw [alR] at he ⊢
    split at he
    · contradiction
    rename_i h1
    split at he
    · contradiction
    rename_i h2
    rw [if_neg h1, if_neg h2]
    exact alR_ok (add_ok h (by omega) (by omega)) he
theorem alO_ok {o : Ob} {l : List Tr} (h : OK o) : OK (alO o l) := by
  unfold alO
  split
  · exact h
  · rename_i h1; exact alR_ok h (by omega)
theorem alO_i (o : Ob) (l : List Tr) : (alO o l).i = o.i := by unfold alO; split <;> rfl
end Go.Proofs.Ytngkckefanbhgaa

namespace Go.Proofs.Ytngkckefanbhgaa
def mgO (a b : Ob) : Ob := if a.i ≠ b.i then a else alO a b.tr
def mgE (a b : Ob) : Int := if a.i ≠ b.i then 15 else (alR a.i a.tr b.tr).2
theorem alR_one (i : Int) (acc : List Tr) (t : Tr) : alR i acc [t] = if prE t i ≠ 0 then ([], prE t i) else if addE acc t ≠ 0 then ([], addE acc t) else (addL acc t, 0) := by
  simp only [alR]
theorem alR_one_go {P : Ob} {l : List Tr} {k : Nat} (hk : k < l.length) (h : ¬(alR P.i P.tr [nth l k]).2 ≠ 0) : alR P.i P.tr (l.drop k) = alR (alO P [nth l k]).i (alO P [nth l k]).tr (l.drop (k + 1)) := by
  have h1 : alO P [nth l k] = ⟨P.i, (alR P.i P.tr [nth l k]).1⟩ := by unfold alO; rw [if_neg h]
  rw [h1, nth_drop hk, alR]
  rw [alR_one] at h ⊢
  split at h
  · rename_i h2; exact (h h2).elim
  · rename_i h2
    rw [if_neg h2, if_neg h2]
    split at h
    · rename_i h3; exact (h h3).elim
    · rename_i h3; rw [if_neg h3, if_neg h3]
theorem alR_one_er {P : Ob} {l : List Tr} {k : Nat} (hk : k < l.length) (h : (alR P.i P.tr [nth l k]).2 ≠ 0) : alR P.i P.tr (l.drop k) = ([], (alR P.i P.tr [nth l k]).2) := by
  rw [nth_drop hk, alR]
  rw [alR_one] at h ⊢
  split at h
  · rename_i h2; rw [if_pos h2, if_pos h2]
  · rename_i h2
    rw [if_neg h2, if_neg h2]
    split at h
    · rename_i h3; rw [if_pos h3, if_pos h3]
    · exact (h rfl).elim
theorem alR_oneE {o : Ob} (ho : OK o) (t : Tr) : (alR o.i o.tr [t]).2 = if prE t o.i ≠ 0 then prE t o.i else if 0 ≤ fi (ndP o.tr t) 0 o.tr.length then 13 else if 10000 < (raL o.tr t).length then 11 else 0 := by
  rw [alR_one]
  split
  · rfl
  rename_i h1
  rw [raL_eq ho]
  unfold addE addL
  have h9 := ho.len
  have h8 := List.length_filter_le (kp t) o.tr
  by_cases h2 : 0 ≤ fi (ndP o.tr t) 0 o.tr.length
  · simp [h2]
  · simp only [if_neg h2]
    by_cases h3 : inL o.tr t
    · simp only [if_pos h3]
      rw [if_neg (by omega), if_neg (by omega)]
    · simp only [if_neg h3, ins_len]
      by_cases h4 : (o.tr.filter (kp t)).length = 10000
      · rw [if_pos h4, if_pos (by omega), if_pos (by omega)]
      · rw [if_neg h4, if_neg (by omega), if_neg (by omega)]
theorem alO_one {o : Ob} (ho : OK o) (t : Tr) : (alO o [t]).tr = if (alR o.i o.tr [t]).2 ≠ 0 then o.tr else raL o.tr t := by
  unfold alO
  split
  · rfl
  rename_i h1
  rw [raL_eq ho]
  rw [alR_one] at h1 ⊢
  split at h1
  · rename_i h2; exact (h1 h2).elim
  rename_i h2
  rw [if_neg h2]
  split at h1
  · rename_i h3; exact (h1 h3).elim
  rename_i h3
  rw [if_neg h3]
def mnyE (ws : List (List Int)) (k : Nat) : Int := if 100 < (nth ws k).length then 1 else 0
def trW (m : M) (w : List Int) : Tr := ⟨w, outs m m.s w⟩
def wcE (m : M) (ws : List (List Int)) (k : Nat) : Int := wchk (nth ws k) m.i
def trsE (m : M) (ws : List (List Int)) : Int := if mval m ≠ 0 then mval m else if 10000 < ws.length then 11 else fe (wcE m ws) 0 ws.length
def trsL (m : M) (ws : List (List Int)) : List Tr := if trsE m ws ≠ 0 then [] else ws.map (trW m)
def ofE (m : M) (ws : List (List Int)) : Int := if trsE m ws ≠ 0 then trsE m ws else (alR m.i [] (trsL m ws)).2
def ofO (m : M) (ws : List (List Int)) : Ob := if ofE m ws ≠ 0 then ⟨0, []⟩ else alO ⟨m.i, []⟩ (trsL m ws)
theorem trs_ok {m : M} {ws : List (List Int)} (h : ¬trsE m ws ≠ 0) : mval m = 0 ∧ OK ⟨m.i, []⟩ := by
  have h1 : mval m = 0 := by
    unfold trsE at h
    split at h
    · rename_i g; exact (h g).elim
    · omega
  exact ⟨h1, ⟨⟨(mval_ok h1).1, (mval_ok h1).2.1⟩, by simp, fun k hk => by simp at hk, fun k hk => by simp at hk, fun i k _ hk => by simp at hk, fun i k _ hk => by simp at hk⟩⟩
end Go.Proofs.Ytngkckefanbhgaa

namespace Go.Proofs.Ytngkckefanbhgaa
open Go Go.Proofs
theorem mtraces_pure (m : M) (ws : List (List Int)) : PureC Try.prog 72 [(V.agg [(iV (m.i)), (iV (m.s)), (V.sl (List.map cL (m.nx))), (V.sl (List.map cL (m.ot)))]), (V.sl (List.map cL (ws)))] (V.tup [(V.sl (List.map cT (trsL m ws))), (iV (trsE m ws))]) := by
 refine pure_of_Wb true 6 Try.func72 s72_ok (by kernel_rfl) (by simp [s72]) (by simp) (by simp) fun hB => ?_
 simp only [bnd_map, bnd_int, bnd_bool, bnd_str, bnd_agg, bnd_pp, bnd_nil, bnd_cons, implies_true, and_true, true_and] at hB
 unfold s72
 dsimp only
 refine W_seq_regc (fun T H => T 1 = (V.sl (List.map cL (ws))) ∧ T 2 = (V.mp 2 1 0 0) ∧ H 2 = (⟨1, true, false, 24, 4, [[(iV (m.i)), (iV (m.s)), (V.sl (List.map cL (m.nx))), (V.sl (List.map cL (m.ot)))]]⟩ : Blk) ∧ H 7 = (⟨0, false, false, 0, 0, []⟩ : Blk) ∧ H 38 = (⟨0, false, false, 0, 0, []⟩ : Blk) ∧ H 105 = (⟨0, false, false, 0, 0, []⟩ : Blk) ∧ True) ?_ ?_
 ·
  unfold r72_0
  refine R_box (i := 2) (n := 0) (m := 4) (cs := [(iV (m.i)), (iV (m.s)), (V.sl (List.map cL (m.nx))), (V.sl (List.map cL (m.ot)))]) rfl (congrArg Blk.ver rfl) (@rfl V (V.agg [(iV (m.i)), (iV (m.s)), (V.sl (List.map cL (m.nx))), (V.sl (List.map cL (m.ot)))])) rfl rfl ?_
  refine R_mv (@rfl V V.nilsl) ?_
  refine R_mv (@rfl V (iV (0 : Int))) ?_
  exact R_nil ⟨rfl, rfl, rfl, rfl, rfl, rfl, trivial⟩
 intro T H ⟨t1, t2, h2, h7, h38, h105, _⟩
 refine W_seq_seq ?_
 refine W_seq_regc (fun T H => T 1 = (V.sl (List.map cL (ws))) ∧ T 2 = (V.mp 2 1 0 0) ∧ T 6 = (iV (mval m)) ∧ H 2 = (⟨1, true, false, 24, 4, [[(iV (m.i)), (iV (m.s)), (V.sl (List.map cL (m.nx))), (V.sl (List.map cL (m.ot)))]]⟩ : Blk) ∧ H 7 = (⟨0, false, false, 0, 0, []⟩ : Blk) ∧ H 38 = (⟨0, false, false, 0, 0, []⟩ : Blk) ∧ H 105 = (⟨0, false, false, 0, 0, []⟩ : Blk) ∧ True) ?_ ?_
 ·
  unfold r72_1
  refine R_load_mp (v := (V.agg [(iV (m.i)), (iV (m.s)), (V.sl (List.map cL (m.nx))), (V.sl (List.map cL (m.ot)))])) t2 h2 (by first | rfl | simp [ldB, ldV, Blk.own, V.one]) ?_
  refine R_call (evcons (@rfl V (V.agg [(iV (m.i)), (iV (m.s)), (V.sl (List.map cL (m.nx))), (V.sl (List.map cL (m.ot)))])) evnil) (mvalid_pure m) (fzv_mapcanon _ _ (by simp [-List.map_take, -List.map_drop, -List.map_append, -List.map_reverse])) (by simp [-List.map_take, -List.map_drop, -List.map_append, -List.map_reverse]) (Or.inl (by simp [-List.map_take, -List.map_drop, -List.map_append, -List.map_reverse])) ?_
  refine R_mv (@rfl V (iV (mval m))) ?_
  exact R_nil ⟨t1, t2, rfl, h2, h7, h38, h105, trivial⟩
 intro T H ⟨t1, t2, t6, h2, h7, h38, h105, _⟩
 refine W_seq_seq ?_
 refine W_seq_regc (fun T H => T 1 = (V.sl (List.map cL (ws))) ∧ T 2 = (V.mp 2 1 0 0) ∧ T 6 = (iV (mval m)) ∧ T 15 = (V.bool (decide ((mval m) ≠ (0 : Int)))) ∧ H 2 = (⟨1, true, false, 24, 4, [[(iV (m.i)), (iV (m.s)), (V.sl (List.map cL (m.nx))), (V.sl (List.map cL (m.ot)))]]⟩ : Blk) ∧ H 7 = (⟨0, false, false, 0, 0, []⟩ : Blk) ∧ H 38 = (⟨0, false, false, 0, 0, []⟩ : Blk) ∧ H 105 = (⟨0, false, false, 0, 0, []⟩ : Blk) ∧ True) ?_ ?_
 ·
  unfold r72_2
  refine R_mv t6 ?_
  refine R_neq (x := (mval m)) (y := (0 : Int)) (@rfl V (iV (mval m))) (@rfl V (iV (0 : Int))) ?_
  exact R_nil ⟨t1, t2, t6, rfl, h2, h7, h38, h105, trivial⟩
 intro T H ⟨t1, t2, t6, t15, h2, h7, h38, h105, _⟩
 refine W_seq_if (p := (mval m) ≠ (0 : Int)) t15 (fun c1 => ?_) (fun c1 => ?_)
 ·
  refine W_seq_seq ?_
  refine W_seq_regc (fun T H => T 4 = V.nilsl ∧ T 5 = (iV (mval m)) ∧ H 2 = (⟨1, true, false, 24, 4, [[(iV (m.i)), (iV (m.s)), (V.sl (List.map cL (m.nx))), (V.sl (List.map cL (m.ot)))]]⟩ : Blk) ∧ H 7 = (⟨0, false, false, 0, 0, []⟩ : Blk) ∧ H 38 = (⟨0, false, false, 0, 0, []⟩ : Blk) ∧ H 105 = (⟨0, false, false, 0, 0, []⟩ : Blk) ∧ True) ?_ ?_
  ·
   unfold r72_3
   refine R_mv t6 ?_
   refine R_mv (@rfl V V.nilsl) ?_
   refine R_mv (@rfl V (iV (mval m))) ?_
   exact R_nil ⟨rfl, rfl, h2, h7, h38, h105, trivial⟩
  intro T H ⟨t4, t5, h2, h7, h38, h105, _⟩
  refine W_seq_ret ?_
  refine Ret_2 t4 t5 (fz_nil ?_) (fz_int ?_)
  · have e : trsE m ws = mval m := by unfold trsE; rw [if_pos (by omega)]
    rw [trsL, if_pos (by omega)]
  · have e : trsE m ws = mval m := by unfold trsE; rw [if_pos (by omega)]
    exact e.symm
 have hs := (mval_ok (m := m) (by omega)).2.2.2.2.1
 have hs2 := (mval_ok (m := m) (by omega)).2.2.2.2.2.1
 refine W_seq_skip ?_
 refine W_seq_seq ?_
 refine W_seq_regc (fun T H => T 1 = (V.sl (List.map cL (ws))) ∧ T 2 = (V.mp 2 1 0 0) ∧ T 19 = (V.bool (decide ((10000 : Int) < ((ws.length : Nat) : Int)))) ∧ H 2 = (⟨1, true, false, 24, 4, [[(iV (m.i)), (iV (m.s)), (V.sl (List.map cL (m.nx))), (V.sl (List.map cL (m.ot)))]]⟩ : Blk) ∧ H 7 = (⟨0, false, false, 0, 0, []⟩ : Blk) ∧ H 38 = (⟨0, false, false, 0, 0, []⟩ : Blk) ∧ H 105 = (⟨0, false, false, 0, 0, []⟩ : Blk) ∧ True) ?_ ?_
 ·
  unfold r72_4
  refine R_mv t1 ?_
  refine R_len (@rfl V (V.sl (List.map cL (ws)))) ?_
  refine R_gtr (x := ((ws.length : Nat) : Int)) (y := (10000 : Int)) (@rfl V (iV ((ws.length : Nat) : Int))) (@rfl V (iV (10000 : Int))) ?_
  exact R_nil ⟨t1, t2, rfl, h2, h7, h38, h105, trivial⟩
 intro T H ⟨t1, t2, t19, h2, h7, h38, h105, _⟩
 refine W_seq_if (p := (10000 : Int) < ((ws.length : Nat) : Int)) t19 (fun c2 => ?_) (fun c2 => ?_)
 ·
  refine W_seq_seq ?_
  refine W_seq_regc (fun T H => T 4 = V.nilsl ∧ T 5 = (iV (11 : Int)) ∧ H 2 = (⟨1, true, false, 24, 4, [[(iV (m.i)), (iV (m.s)), (V.sl (List.map cL (m.nx))), (V.sl (List.map cL (m.ot)))]]⟩ : Blk) ∧ H 7 = (⟨0, false, false, 0, 0, []⟩ : Blk) ∧ H 38 = (⟨0, false, false, 0, 0, []⟩ : Blk) ∧ H 105 = (⟨0, false, false, 0, 0, []⟩ : Blk) ∧ True) ?_ ?_
  ·
   unfold r72_5
   refine R_mv (@rfl V V.nilsl) ?_
   refine R_mv (@rfl V (iV (11 : Int))) ?_
   exact R_nil ⟨rfl, rfl, h2, h7, h38, h105, trivial⟩
  intro T H ⟨t4, t5, h2, h7, h38, h105, _⟩
  refine W_seq_ret ?_
  refine Ret_2 t4 t5 (fz_nil ?_) (fz_int ?_)
  · have e : trsE m ws = 11 := by unfold trsE; rw [if_neg (by omega), if_pos (by omega)]
    rw [trsL, if_pos (by omega)]
  · have e : trsE m ws = 11 := by unfold trsE; rw [if_neg (by omega), if_pos (by omega)]
    exact e.symm
 refine W_seq_skip ?_
 refine W_seq_regc (fun T H => T 1 = (V.sl (List.map cL (ws))) ∧ T 2 = (V.mp 2 1 0 0) ∧ T 7 = (V.ms 7 1 0 (0)) ∧ H 2 = (⟨1, true, false, 24, 4, [[(iV (m.i)), (iV (m.s)), (V.sl (List.map cL (m.nx))), (V.sl (List.map cL (m.ot)))]]⟩ : Blk) ∧ H 7 = (⟨1, true, true, 63, 2, []⟩ : Blk) ∧ H 38 = (⟨0, false, false, 0, 0, []⟩ : Blk) ∧ H 105 = (⟨0, false, false, 0, 0, []⟩ : Blk) ∧ True) ?_ ?_
 ·
  unfold r72_6
  refine R_lazy (i := 7) (n := 0) rfl (congrArg Blk.ver h7) ?_
  exact R_nil ⟨t1, t2, rfl, h2, rfl, h38, h105, trivial⟩
 intro T H ⟨t1, t2, t7, h2, h7, h38, h105, _⟩
 refine W_seq_seq ?_
 refine W_seq_regc (fun T H => T 2 = (V.mp 2 1 0 0) ∧ T 7 = (V.ms 7 1 0 (0)) ∧ T 20 = (V.sl (List.map cL (ws))) ∧ T 21 = (iV ((ws.length : Nat) : Int)) ∧ T 22 = (iV (0 : Int)) ∧ H 2 = (⟨1, true, false, 24, 4, [[(iV (m.i)), (iV (m.s)), (V.sl (List.map cL (m.nx))), (V.sl (List.map cL (m.ot)))]]⟩ : Blk) ∧ H 7 = (⟨1, true, true, 63, 2, []⟩ : Blk) ∧ H 38 = (⟨0, false, false, 0, 0, []⟩ : Blk) ∧ H 105 = (⟨0, false, false, 0, 0, []⟩ : Blk) ∧ True) ?_ ?_
 ·
  unfold r72_7
  refine R_mv t1 ?_
  refine R_len (@rfl V (V.sl (List.map cL (ws)))) ?_
  refine R_mv (@rfl V (iV (0 : Int))) ?_
  exact R_nil ⟨t2, t7, rfl, rfl, rfl, h2, h7, h38, h105, trivial⟩
 intro T H ⟨t2, t7, t20, t21, t22, h2, h7, h38, h105, _⟩
 refine W_seq_blockg fun Q3 n3 x3 y3 z3 => ?_
 refine W_loop (fun mm T H => ∃ (k : Nat) (v38 : Nat) (v105 : Nat), mm = ws.length - k ∧ T 2 = (V.mp 2 1 0 0) ∧ T 7 = (V.ms 7 (1 + k) 0 (k)) ∧ T 20 = (V.sl (List.map cL (ws))) ∧ T 21 = (iV ((ws.length : Nat) : Int)) ∧ T 22 = (iV ((k : Nat) : Int)) ∧ H 2 = (⟨1, true, false, 24, 4, [[(iV (m.i)), (iV (m.s)), (V.sl (List.map cL (m.nx))), (V.sl (List.map cL (m.ot)))]]⟩ : Blk) ∧ H 7 = (⟨1 + k, true, true, 63, 2, (List.map cT ((ws.take k).map (trW m)))⟩ : Blk) ∧ (H 38).ver = v38 ∧ (H 105).ver = v105 ∧ (k ≤ ws.length) ∧ (ws.length ≤ 10000) ∧ (mval m = 0) ∧ (fe (wcE m ws) 0 ws.length = fe (wcE m ws) k (ws.length - k))) ?_ ?_
 ·
  refine ⟨_, 0, 0, 0, rfl, t2, (Eq.trans t7 (by first | rfl | simp)), t20, t21, (Eq.trans t22 (by first | rfl | simp)), h2, (Eq.trans h7 (by first | rfl | (rw [take_succ_nth (by omega), List.map_append, List.map_append]; simp [trW, cat, Nat.add_assoc]; done))), (congrArg Blk.ver h38), (congrArg Blk.ver h105), ?_, ?_, ?_, ?_⟩
  · omega
  · omega
  · omega
  · rfl
 intro mm T H ⟨k, v38, v105, hmm, t2, t7, t20, t21, t22, h2, h7, h38, h105, hk, hb, hm, hc⟩ Q4 p14 p24 p34
 unfold b72_0
 refine W_seq_regc (fun T H => T 2 = (V.mp 2 1 0 0) ∧ T 7 = (V.ms 7 (1 + k) 0 (k)) ∧ T 20 = (V.sl (List.map cL (ws))) ∧ T 21 = (iV ((ws.length : Nat) : Int)) ∧ T 22 = (iV ((k : Nat) : Int)) ∧ T 23 = (V.bool (decide (((k : Nat) : Int) < ((ws.length : Nat) : Int)))) ∧ H 2 = (⟨1, true, false, 24, 4, [[(iV (m.i)), (iV (m.s)), (V.sl (List.map cL (m.nx))), (V.sl (List.map cL (m.ot)))]]⟩ : Blk) ∧ H 7 = (⟨1 + k, true, true, 63, 2, (List.map cT ((ws.take k).map (trW m)))⟩ : Blk) ∧ (H 38).ver = v38 ∧ (H 105).ver = v105 ∧ True) ?_ ?_
 ·
  unfold r72_8
  refine R_lss (x := ((k : Nat) : Int)) (y := ((ws.length : Nat) : Int)) t22 t21 ?_
  exact R_nil ⟨t2, t7, t20, t21, t22, rfl, h2, h7, h38, h105, trivial⟩
 intro T H ⟨t2, t7, t20, t21, t22, t23, h2, h7, h38, h105, _⟩
 refine W_seq_if (p := ((k : Nat) : Int) < ((ws.length : Nat) : Int)) t23 (fun c5 => ?_) (fun c5 => ?_)
 ·
  refine W_seq_skip ?_
  refine W_seq_blockg fun Q6 n6 x6 y6 z6 => ?_
  refine W_seq_regc (fun T H => T 2 = (V.mp 2 1 0 0) ∧ T 7 = (V.ms 7 (1 + k) 0 (k)) ∧ T 9 = (V.sl (List.map cI ((nth (ws) (k))))) ∧ T 20 = (V.sl (List.map cL (ws))) ∧ T 21 = (iV ((ws.length : Nat) : Int)) ∧ T 22 = (iV ((k : Nat) : Int)) ∧ H 2 = (⟨1, true, false, 24, 4, [[(iV (m.i)), (iV (m.s)), (V.sl (List.map cL (m.nx))), (V.sl (List.map cL (m.ot)))]]⟩ : Blk) ∧ H 7 = (⟨1 + k, true, true, 63, 2, (List.map cT ((ws.take k).map (trW m)))⟩ : Blk) ∧ (H 38).ver = v38 ∧ (H 105).ver = v105 ∧ True) ?_ ?_
  ·
   unfold r72_9
   refine R_idx (i := k) t20 t22 (by omega) rfl ?_
   refine R_load_pp (v := (V.sl (List.map cI ((nth (ws) (k)))))) (@rfl V (V.pp [(V.sl (List.map cI ((nth (ws) (k)))))])) (by first | rfl | simp [ldV]) ?_
   refine R_mv (@rfl V (V.sl (List.map cI ((nth (ws) (k)))))) ?_
   exact R_nil ⟨t2, t7, rfl, t20, t21, t22, h2, h7, h38, h105, trivial⟩
  intro T H ⟨t2, t7, t9, t20, t21, t22, h2, h7, h38, h105, _⟩
  refine W_seq_seq ?_
  refine W_seq_regc (fun T H => T 2 = (V.mp 2 1 0 0) ∧ T 7 = (V.ms 7 (1 + k) 0 (k)) ∧ T 9 = (V.sl (List.map cI ((nth (ws) (k))))) ∧ T 10 = (iV (wchk ((nth (ws) (k))) ((m.i)))) ∧ T 20 = (V.sl (List.map cL (ws))) ∧ T 21 = (iV ((ws.length : Nat) : Int)) ∧ T 22 = (iV ((k : Nat) : Int)) ∧ H 2 = (⟨1, true, false, 24, 4, [[(iV (m.i)), (iV (m.s)), (V.sl (List.map cL (m.nx))), (V.sl (List.map cL (m.ot)))]]⟩ : Blk) ∧ H 7 = (⟨1 + k, true, true, 63, 2, (List.map cT ((ws.take k).map (trW m)))⟩ : Blk) ∧ (H 38).ver = v38 ∧ (H 105).ver = v105 ∧ True) ?_ ?_
  ·
   unfold r72_10
   refine R_mv t9 ?_
   refine R_fld_mp (o' := 0) t2 h2 (by first | rfl | simp [okB, Blk.own]) rfl ?_
   refine R_load_mp (v := (iV (m.i))) (@rfl V (V.mp 2 1 0 0)) h2 (by first | rfl | simp [ldB, ldV, Blk.own, V.one]) ?_
   refine R_call (evcons (@rfl V (V.sl (List.map cI ((nth (ws) (k)))))) (evcons (@rfl V (iV (m.i))) evnil)) (check_pure ((nth (ws) (k))) ((m.i))) (fzv_mapcanon _ _ (by simp [-List.map_take, -List.map_drop, -List.map_append, -List.map_reverse])) (by simp [-List.map_take, -List.map_drop, -List.map_append, -List.map_reverse]) (Or.inl (by simp [-List.map_take, -List.map_drop, -List.map_append, -List.map_reverse])) ?_
   refine R_mv (@rfl V (iV (wchk ((nth (ws) (k))) ((m.i))))) ?_
   exact R_nil ⟨t2, t7, t9, rfl, t20, t21, t22, h2, h7, h38, h105, trivial⟩
  intro T H ⟨t2, t7, t9, t10, t20, t21, t22, h2, h7, h38, h105, _⟩
  refine W_seq_seq ?_
  refine W_seq_regc (fun T H => T 2 = (V.mp 2 1 0 0) ∧ T 7 = (V.ms 7 (1 + k) 0 (k)) ∧ T 9 = (V.sl (List.map cI ((nth (ws) (k))))) ∧ T 10 = (iV (wchk ((nth (ws) (k))) ((m.i)))) ∧ T 20 = (V.sl (List.map cL (ws))) ∧ T 21 = (iV ((ws.length : Nat) : Int)) ∧ T 22 = (iV ((k : Nat) : Int)) ∧ T 31 = (V.bool (decide ((wchk ((nth (ws) (k))) ((m.i))) ≠ (0 : Int)))) ∧ H 2 = (⟨1, true, false, 24, 4, [[(iV (m.i)), (iV (m.s)), (V.sl (List.map cL (m.nx))), (V.sl (List.map cL (m.ot)))]]⟩ : Blk) ∧ H 7 = (⟨1 + k, true, true, 63, 2, (List.map cT ((ws.take k).map (trW m)))⟩ : Blk) ∧ (H 38).ver = v38 ∧ (H 105).ver = v105 ∧ True) ?_ ?_
  ·
   unfold r72_11
   refine R_mv t10 ?_
   refine R_neq (x := (wchk ((nth (ws) (k))) ((m.i)))) (y := (0 : Int)) (@rfl V (iV (wchk ((nth (ws) (k))) ((m.i))))) (@rfl V (iV (0 : Int))) ?_
   exact R_nil ⟨t2, t7, t9, t10, t20, t21, t22, rfl, h2, h7, h38, h105, trivial⟩
  intro T H ⟨t2, t7, t9, t10, t20, t21, t22, t31, h2, h7, h38, h105, _⟩
  refine W_seq_if (p := (wchk ((nth (ws) (k))) ((m.i))) ≠ (0 : Int)) t31 (fun c7 => ?_) (fun c7 => ?_)
  ·
   have d1 := c7
   refine W_seq_seq ?_
   refine W_seq_regc (fun T H => T 4 = V.nilsl ∧ T 5 = (iV (wchk ((nth (ws) (k))) ((m.i)))) ∧ H 2 = (⟨1, true, false, 24, 4, [[(iV (m.i)), (iV (m.s)), (V.sl (List.map cL (m.nx))), (V.sl (List.map cL (m.ot)))]]⟩ : Blk) ∧ H 7 = (⟨1 + k, true, true, 63, 2, (List.map cT ((ws.take k).map (trW m)))⟩ : Blk) ∧ (H 38).ver = v38 ∧ (H 105).ver = v105 ∧ True) ?_ ?_
   ·
    unfold r72_12
    refine R_mv t10 ?_
    refine R_mv (@rfl V V.nilsl) ?_
    refine R_mv (@rfl V (iV (wchk ((nth (ws) (k))) ((m.i))))) ?_
    exact R_nil ⟨rfl, rfl, h2, h7, h38, h105, trivial⟩
   intro T H ⟨t4, t5, h2, h7, h38, h105, _⟩
   refine W_seq_ret ?_
   refine y6 _ _ ?_
   refine p24 _ _ ?_
   refine y3 _ _ ?_
   refine Ret_2 t4 t5 (fz_nil ?_) (fz_int ?_)
   · have e : trsE m ws = wchk (nth ws k) m.i := by unfold trsE; rw [if_neg (by omega), if_neg (by omega), hc]; exact fe_hit (e := wcE m ws) d1 (by omega)
     rw [trsL, if_pos (by rw [e]; exact d1)]
   · have e : trsE m ws = wchk (nth ws k) m.i := by unfold trsE; rw [if_neg (by omega), if_neg (by omega), hc]; exact fe_hit (e := wcE m ws) d1 (by omega)
     exact e.symm
  have d1 := c7
  have hw := wchk_ok (w := nth ws k) (n := m.i) (by omega)
  refine W_seq_skip ?_
  refine W_seq_regc (fun T H => T 2 = (V.mp 2 1 0 0) ∧ T 7 = (V.ms 7 (1 + k) 0 (k)) ∧ T 9 = (V.sl (List.map cI ((nth (ws) (k))))) ∧ T 11 = (V.mp 38 (v38 + 1) 0 0) ∧ T 20 = (V.sl (List.map cL (ws))) ∧ T 21 = (iV ((ws.length : Nat) : Int)) ∧ T 22 = (iV ((k : Nat) : Int)) ∧ H 2 = (⟨1, true, false, 24, 4, [[(iV (m.i)), (iV (m.s)), (V.sl (List.map cL (m.nx))), (V.sl (List.map cL (m.ot)))]]⟩ : Blk) ∧ H 7 = (⟨1 + k, true, true, 63, 2, (List.map cT ((ws.take k).map (trW m)))⟩ : Blk) ∧ H 38 = (⟨v38 + 1, true, false, 122, 5, [[(iV (m.i)), (iV (m.s)), (V.sl (List.map cL (m.nx))), (V.sl (List.map cL (m.ot))), (iV (m.s))]]⟩ : Blk) ∧ (H 105).ver = v105 ∧ True) ?_ ?_
  ·
   unfold r72_13
   refine R_load_mp (v := (V.agg [(iV (m.i)), (iV (m.s)), (V.sl (List.map cL (m.nx))), (V.sl (List.map cL (m.ot)))])) t2 h2 (by first | rfl | simp [ldB, ldV, Blk.own, V.one]) ?_
   refine R_build (qs := [(0, 4, (V.agg [(iV (m.i)), (iV (m.s)), (V.sl (List.map cL (m.nx))), (V.sl (List.map cL (m.ot)))]))]) (cs := [(iV (m.i)), (iV (m.s)), (V.sl (List.map cL (m.nx))), (V.sl (List.map cL (m.ot)))]) (mcons (congrArg (fun v => (0, 4, v)) (@rfl V (V.agg [(iV (m.i)), (iV (m.s)), (V.sl (List.map cL (m.nx))), (V.sl (List.map cL (m.ot)))]))) rfl) rfl ?_
   refine R_fld_mp (o' := 1) t2 h2 (by first | rfl | simp [okB, Blk.own]) rfl ?_
   refine R_load_mp (v := (iV (m.s))) (@rfl V (V.mp 2 1 0 1)) h2 (by first | rfl | simp [ldB, ldV, Blk.own, V.one]) ?_
   refine R_build (qs := [(0, 4, (V.agg [(iV (m.i)), (iV (m.s)), (V.sl (List.map cL (m.nx))), (V.sl (List.map cL (m.ot)))])), (4, 1, (iV (m.s)))]) (cs := [(iV (m.i)), (iV (m.s)), (V.sl (List.map cL (m.nx))), (V.sl (List.map cL (m.ot))), (iV (m.s))]) (mcons (congrArg (fun v => (0, 4, v)) (@rfl V (V.agg [(iV (m.i)), (iV (m.s)), (V.sl (List.map cL (m.nx))), (V.sl (List.map cL (m.ot)))]))) (mcons (congrArg (fun v => (4, 1, v)) (@rfl V (iV (m.s)))) rfl)) rfl ?_
   refine R_box (i := 38) (n := v38) (m := 5) (cs := [(iV (m.i)), (iV (m.s)), (V.sl (List.map cL (m.nx))), (V.sl (List.map cL (m.ot))), (iV (m.s))]) rfl h38 (@rfl V (V.agg [(iV (m.i)), (iV (m.s)), (V.sl (List.map cL (m.nx))), (V.sl (List.map cL (m.ot))), (iV (m.s))])) rfl rfl ?_
   refine R_mv (@rfl V (V.mp 38 (v38 + 1) 0 0)) ?_
   exact R_nil ⟨t2, t7, t9, rfl, t20, t21, t22, h2, h7, rfl, h105, trivial⟩
  intro T H ⟨t2, t7, t9, t11, t20, t21, t22, h2, h7, h38, h105, _⟩
  refine W_regc (fun T H => T 2 = (V.mp 2 1 0 0) ∧ T 7 = (V.ms 7 (1 + k + 1) 0 (k + 1)) ∧ T 20 = (V.sl (List.map cL (ws))) ∧ T 21 = (iV ((ws.length : Nat) : Int)) ∧ T 22 = (iV ((k : Nat) : Int)) ∧ H 2 = (⟨1, true, false, 24, 4, [[(iV (m.i)), (iV (m.s)), (V.sl (List.map cL (m.nx))), (V.sl (List.map cL (m.ot)))]]⟩ : Blk) ∧ H 7 = (⟨1 + k + 1, true, true, 63, 2, (List.map cT ((ws.take k).map (trW m) ++ [(⟨nth (ws) (k), outs m m.s ((nth (ws) (k)))⟩ : Tr)]))⟩ : Blk) ∧ H 38 = (⟨v38 + 1, true, false, 122, 5, [[(iV (m.i)), (iV (m.s)), (V.sl (List.map cL (m.nx))), (V.sl (List.map cL (m.ot))), (iV (goal m m.s ((nth (ws) (k)))))]]⟩ : Blk) ∧ H 105 = (⟨v105 + 1 + ((nth (ws) (k))).length, false, false, 0, 0, []⟩ : Blk) ∧ True) ?_ ?_
  ·
   unfold r72_14
   refine R_mv t7 ?_
   refine R_mv t9 ?_
   refine R_call (evcons (@rfl V (V.sl (List.map cI ((nth (ws) (k)))))) evnil) (clone_pure ((nth (ws) (k))) (by omega)) (fzv_mapcanon _ _ (by simp [-List.map_take, -List.map_drop, -List.map_append, -List.map_reverse])) (by simp [-List.map_take, -List.map_drop, -List.map_append, -List.map_reverse]) (Or.inl (by simp [-List.map_take, -List.map_drop, -List.map_append, -List.map_reverse])) ?_
   refine R_mv t11 ?_
   refine R_mv t9 ?_
   refine R_callE (evcons (@rfl V (V.mp 38 (v38 + 1) 0 0)) (evcons (@rfl V (V.sl (List.map cI ((nth (ws) (k)))))) evnil)) (run38_E m m.s ((nth (ws) (k))) (v38 + 1) v105 _ h38 h105 hm ⟨hs, hs2⟩ hw.1 hw.2) ?_
   refine R_build (qs := [(0, 1, (V.sl (List.map cI (((nth (ws) (k))))))), (1, 1, (V.sl (List.map cI (outs m m.s ((nth (ws) (k)))))))]) (cs := [(V.sl (List.map cI (((nth (ws) (k)))))), (V.sl (List.map cI (outs m m.s ((nth (ws) (k))))))]) (mcons (congrArg (fun v => (0, 1, v)) (@rfl V (V.sl (List.map cI (((nth (ws) (k)))))))) (mcons (congrArg (fun v => (1, 1, v)) (@rfl V (V.sl (List.map cI (outs m m.s ((nth (ws) (k)))))))) rfl)) rfl ?_
   refine R_bslice (qs := [(0, (V.agg [(V.sl (List.map cI (((nth (ws) (k)))))), (V.sl (List.map cI (outs m m.s ((nth (ws) (k))))))]))]) (rows := [[(V.sl (List.map cI (((nth (ws) (k)))))), (V.sl (List.map cI (outs m m.s ((nth (ws) (k))))))]]) (mcons (congrArg (fun v => (0, v)) (@rfl V (V.agg [(V.sl (List.map cI (((nth (ws) (k)))))), (V.sl (List.map cI (outs m m.s ((nth (ws) (k))))))]))) rfl) rfl ?_
   refine R_append1 (l := ((ws.take k).map (trW m))) (f := cT) (x := ((⟨nth (ws) (k), outs m m.s ((nth (ws) (k)))⟩ : Tr))) (@rfl V (V.ms 7 (1 + k) 0 (k))) h7 (by first | rfl | (simp only [List.length_map, List.length_take]; omega) | simp) (@rfl V (V.sl [[(V.sl (List.map cI (((nth (ws) (k)))))), (V.sl (List.map cI (outs m m.s ((nth (ws) (k))))))]])) rfl rfl (by omega) (by omega) ?_
   refine R_mv (@rfl V (V.ms 7 (1 + k + 1) 0 (k + 1))) ?_
   exact R_nil ⟨t2, rfl, t20, t21, t22, h2, rfl, rfl, rfl, trivial⟩
  intro T H ⟨t2, t7, t20, t21, t22, h2, h7, h38, h105, _⟩
  refine n6 _ _ ?_
  refine .done ?_
  refine W_regc (fun T H => T 2 = (V.mp 2 1 0 0) ∧ T 7 = (V.ms 7 (1 + k + 1) 0 (k + 1)) ∧ T 20 = (V.sl (List.map cL (ws))) ∧ T 21 = (iV ((ws.length : Nat) : Int)) ∧ T 22 = (iV ((k + 1 : Nat) : Int)) ∧ H 2 = (⟨1, true, false, 24, 4, [[(iV (m.i)), (iV (m.s)), (V.sl (List.map cL (m.nx))), (V.sl (List.map cL (m.ot)))]]⟩ : Blk) ∧ H 7 = (⟨1 + k + 1, true, true, 63, 2, (List.map cT ((ws.take k).map (trW m) ++ [(⟨nth (ws) (k), outs m m.s ((nth (ws) (k)))⟩ : Tr)]))⟩ : Blk) ∧ H 38 = (⟨v38 + 1, true, false, 122, 5, [[(iV (m.i)), (iV (m.s)), (V.sl (List.map cL (m.nx))), (V.sl (List.map cL (m.ot))), (iV (goal m m.s ((nth (ws) (k)))))]]⟩ : Blk) ∧ H 105 = (⟨v105 + 1 + ((nth (ws) (k))).length, false, false, 0, 0, []⟩ : Blk) ∧ True) ?_ ?_
  ·
   unfold r72_15
   refine R_addN (m := k) (n := 1) t22 (@rfl V (iV ((1 : Nat) : Int))) (by omega) ?_
   refine R_mv (@rfl V (iV ((k + 1 : Nat) : Int))) ?_
   exact R_nil ⟨t2, t7, t20, t21, rfl, h2, h7, h38, h105, trivial⟩
  intro T H ⟨t2, t7, t20, t21, t22, h2, h7, h38, h105, _⟩
  refine p14 _ _ _ ?_ ⟨(k + 1), (v38 + 1), (v105 + 1 + ((nth (ws) (k))).length), rfl, t2, (Eq.trans t7 (by first | rfl | simp)), t20, t21, (Eq.trans t22 (by first | rfl | simp)), h2, (Eq.trans h7 (by first | rfl | (rw [take_succ_nth (by omega), List.map_append, List.map_append]; simp [trW, cat, Nat.add_assoc]; done))), (congrArg Blk.ver h38), (congrArg Blk.ver h105), ?_, ?_, ?_, ?_⟩
  · omega
  · omega
  · omega
  · omega
  · rw [hc, fe_skip (show wcE m ws k = 0 from Decidable.not_not.1 d1) (by omega)]
 refine W_seq_exit ?_
 refine p34 _ _ _ ?_
 refine x3 _ _ ?_
 refine .done ?_
 refine W_seq_regc (fun T H => T 4 = (V.ms 7 (1 + k) 0 (k)) ∧ T 5 = (iV (0 : Int)) ∧ H 2 = (⟨1, true, false, 24, 4, [[(iV (m.i)), (iV (m.s)), (V.sl (List.map cL (m.nx))), (V.sl (List.map cL (m.ot)))]]⟩ : Blk) ∧ H 7 = (⟨1 + k, true, true, 63, 2, (List.map cT ((ws.take k).map (trW m)))⟩ : Blk) ∧ (H 38).ver = v38 ∧ (H 105).ver = v105 ∧ True) ?_ ?_
 ·
  unfold r72_16
  refine R_mv t7 ?_
  refine R_mv (@rfl V (V.ms 7 (1 + k) 0 (k))) ?_
  refine R_mv (@rfl V (iV (0 : Int))) ?_
  exact R_nil ⟨rfl, rfl, h2, h7, h38, h105, trivial⟩
 intro T H ⟨t4, t5, h2, h7, h38, h105, _⟩
 refine W_ret ?_
 refine Ret_2 t4 t5 (fz_ms h7 (by first | rfl | simp) (l := ((ws.take k).map (trW m))) rfl (by first | rfl | (simp only [List.length_map, List.length_take]; omega) | simp) (fun _ => by simp) ?_) (fz_int ?_)
 · have e : trsE m ws = 0 := by unfold trsE; rw [if_neg (by omega), if_neg (by omega), hc, fe_end (by omega)]
   rw [trsL, if_neg (by omega), show k = ws.length by omega, List.take_length]
 · have e : trsE m ws = 0 := by unfold trsE; rw [if_neg (by omega), if_neg (by omega), hc, fe_end (by omega)]
   exact e.symm
end Go.Proofs.Ytngkckefanbhgaa

namespace Go.Proofs.Ytngkckefanbhgaa
open Go Go.Proofs
def r73_0 : List SO := [
  ⟨none, some 2, .box 34 2 (.t 0)⟩,
  ⟨none, some 4, .alloc 34 [.int .i64 0, .nilsl]⟩,
  ⟨none, some 5, .mv (.c (.int .i64 0))⟩]
def r73_1 : List SO := [
  ⟨none, some 12, .fld 1 (.t 2)⟩,
  ⟨none, some 13, .load false 1 (.t 12)⟩,
  ⟨none, some 14, .call true 102 [.t 13]⟩,
  ⟨none, some 6, .mv (.t 14)⟩]
def r73_2 : List SO := [
  ⟨none, some 15, .mv (.t 1)⟩,
  ⟨none, some 16, .len (.t 15)⟩,
  ⟨none, some 17, .mv (.c (.int .i64 0))⟩]
def r73_3 : List SO := [
  ⟨none, some 18, .bin .lss (.t 17) (.t 16)⟩]
def r73_4 : List SO := [
  ⟨none, some 19, .idx 2 (.t 15) (.t 17)⟩,
  ⟨none, some 20, .load true 2 (.t 19)⟩,
  ⟨none, some 8, .alloc 63 [.nilsl, .nilsl]⟩,
  ⟨none, none, .store 2 (.t 8) (.t 20)⟩]
def r73_5 : List SO := [
  ⟨none, some 21, .load true 2 (.t 8)⟩,
  ⟨none, some 22, .fld 0 (.t 2)⟩,
  ⟨none, some 23, .load false 1 (.t 22)⟩,
  ⟨none, some 24, .call false 78 [.t 21, .t 23]⟩,
  ⟨none, some 9, .mv (.t 24)⟩]
def r73_6 : List SO := [
  ⟨none, some 25, .mv (.t 9)⟩,
  ⟨none, some 26, .bin .neq (.t 25) (.c (.int .i64 0))⟩]
def r73_7 : List SO := [
  ⟨none, some 27, .load true 2 (.t 2)⟩,
  ⟨none, some 28, .mv (.t 9)⟩,
  ⟨none, none, .store 2 (.t 4) (.t 27)⟩,
  ⟨none, some 5, .mv (.t 28)⟩]
def r73_8 : List SO := [
  ⟨none, some 30, .mv (.t 6)⟩,
  ⟨none, some 31, .load true 2 (.t 8)⟩,
  ⟨none, some 32, .call true 103 [.t 30, .t 31]⟩,
  ⟨none, some 29, .mv (.t 32)⟩,
  ⟨none, some 33, .ext (.t 29) 0⟩,
  ⟨none, some 34, .ext (.t 29) 1⟩,
  ⟨none, some 10, .mv (.t 33)⟩,
  ⟨none, some 11, .mv (.t 34)⟩]
def r73_9 : List SO := [
  ⟨none, some 35, .mv (.t 11)⟩,
  ⟨none, some 36, .bin .neq (.t 35) (.c (.int .i64 0))⟩]
def r73_10 : List SO := [
  ⟨none, some 37, .load true 2 (.t 2)⟩,
  ⟨none, some 38, .mv (.t 11)⟩,
  ⟨none, none, .store 2 (.t 4) (.t 37)⟩,
  ⟨none, some 5, .mv (.t 38)⟩]
def r73_11 : List SO := [
  ⟨none, some 39, .mv (.t 10)⟩,
  ⟨none, some 6, .mv (.t 39)⟩]
def r73_12 : List SO := [
  ⟨none, some 40, .bin .add (.t 17) (.c (.int .i64 1))⟩,
  ⟨none, some 17, .mv (.t 40)⟩]
def b73_0 : SC := .seq (.reg r73_3) (.seq (.cond (.t 18) (.skip) (.exit 0)) (.seq (.block 1 (.seq (.reg r73_4) (.seq (.seq (.reg r73_5) (.seq (.reg r73_6) (.cond (.t 26) (.seq (.reg r73_7) (.ret)) (.skip)))) (.seq (.reg r73_8) (.seq (.seq (.reg r73_9) (.cond (.t 36) (.seq (.reg r73_10) (.ret)) (.skip))) (.reg r73_11)))))) (.reg r73_12)))
def r73_13 : List SO := [
  ⟨none, some 41, .fld 0 (.t 2)⟩,
  ⟨none, some 42, .load false 1 (.t 41)⟩,
  ⟨none, some 43, .mv (.t 6)⟩,
  ⟨none, some 44, .build [.int .i64 0, .nilsl] [(0, 1, .t 42), (1, 1, .t 43)]⟩,
  ⟨none, none, .store 2 (.t 4) (.t 44)⟩,
  ⟨none, some 5, .mv (.c (.int .i64 0))⟩]
def s73 : SF := ⟨45, [.cell 4 true 2, .tmp 5], .seq (.reg r73_0) (.seq (.reg r73_1) (.seq (.seq (.reg r73_2) (.block 0 (.loop b73_0))) (.seq (.reg r73_13) (.ret))))⟩
theorem s73_ok : slimF Try.prog ⟨[94, 102, 103, 108, 109, 116, 119, 121, 125], []⟩ Try.f73 = some s73 := by kernel_rfl
end Go.Proofs.Ytngkckefanbhgaa

namespace Go.Proofs.Ytngkckefanbhgaa
open Go Go.Proofs
def r78_0 : List SO := [
  ⟨none, some 2, .box 63 2 (.t 0)⟩,
  ⟨none, some 4, .mv (.c (.int .i64 0))⟩]
def r78_1 : List SO := [
  ⟨none, some 6, .fld 0 (.t 2)⟩,
  ⟨none, some 7, .load false 1 (.t 6)⟩,
  ⟨none, some 8, .mv (.t 1)⟩,
  ⟨none, some 9, .call false 77 [.t 7, .t 8]⟩,
  ⟨none, some 5, .mv (.t 9)⟩]
def r78_2 : List SO := [
  ⟨none, some 10, .mv (.t 5)⟩,
  ⟨none, some 11, .bin .neq (.t 10) (.c (.int .i64 0))⟩]
def r78_3 : List SO := [
  ⟨none, some 12, .mv (.t 5)⟩,
  ⟨none, some 4, .mv (.t 12)⟩]
def r78_4 : List SO := [
  ⟨none, some 14, .fld 1 (.t 2)⟩,
  ⟨none, some 15, .load false 1 (.t 14)⟩,
  ⟨none, some 16, .len (.t 15)⟩,
  ⟨none, some 17, .fld 0 (.t 2)⟩,
  ⟨none, some 18, .load false 1 (.t 17)⟩,
  ⟨none, some 19, .len (.t 18)⟩,
  ⟨none, some 20, .bin .neq (.t 16) (.t 19)⟩,
  ⟨none, some 13, .mv (.t 20)⟩]
def r78_5 : List SO := [
  ⟨none, some 4, .mv (.c (.int .i64 1))⟩]
def r78_6 : List SO := [
  ⟨none, some 22, .fld 1 (.t 2)⟩,
  ⟨none, some 23, .load false 1 (.t 22)⟩,
  ⟨none, some 24, .call false 105 [.t 23, .c (.fn 107 [] [])]⟩,
  ⟨none, some 21, .mv (.t 24)⟩]
def r78_7 : List SO := [
  ⟨none, some 4, .mv (.c (.int .i64 2))⟩]
def r78_8 : List SO := [
  ⟨none, some 4, .mv (.c (.int .i64 0))⟩]
def s78 : SF := ⟨25, [.tmp 4], .seq (.reg r78_0) (.seq (.seq (.reg r78_1) (.seq (.reg r78_2) (.cond (.t 11) (.seq (.reg r78_3) (.ret)) (.skip)))) (.seq (.block 0 (.seq (.reg r78_4) (.cond (.t 13) (.seq (.reg r78_5) (.ret)) (.seq (.reg r78_6) (.cond (.t 21) (.seq (.reg r78_7) (.ret)) (.skip)))))) (.seq (.reg r78_8) (.ret))))⟩
theorem s78_ok : slimF Try.prog ⟨[94, 102, 103, 108, 109, 116, 119, 121, 125], []⟩ Try.f78 = some s78 := by kernel_rfl
end Go.Proofs.Ytngkckefanbhgaa

namespace Go.Proofs.Ytngkckefanbhgaa
open Go Go.Proofs
def r107_0 : List SO := [
  ⟨none, some 2, .mv (.c (.bool false))⟩]
def r107_1 : List SO := [
  ⟨none, some 3, .mv (.t 0)⟩,
  ⟨none, some 4, .bin .lss (.t 3) (.c (.int .i64 0))⟩,
  ⟨none, some 5, .mv (.t 4)⟩,
  ⟨some (5, false), some 6, .mv (.t 0)⟩,
  ⟨some (5, false), some 7, .bin .gtr (.t 6) (.c (.int .i64 1048576))⟩,
  ⟨none, some 8, .pick (.t 5) (.c (.bool true)) (.t 7)⟩,
  ⟨none, some 2, .mv (.t 8)⟩]
def s107 : SF := ⟨9, [.tmp 2], .seq (.reg r107_0) (.seq (.reg r107_1) (.ret))⟩
theorem s107_ok : slimF Try.prog ⟨[94, 102, 103, 108, 109, 116, 119, 121, 125], []⟩ Try.f107 = some s107 := by kernel_rfl
end Go.Proofs.Ytngkckefanbhgaa

namespace Go.Proofs.Ytngkckefanbhgaa
open Go Go.Proofs
theorem proper1_pure (a : Int) : PureC Try.prog 107 [(iV (a))] (V.bool (decide (a < 0 ∨ 1048576 < a))) := by
 refine pure_of_Wb true 6 Try.func107 s107_ok (by kernel_rfl) (by simp [s107]) (by simp) (by simp) fun hB => ?_
 simp only [bnd_map, bnd_int, bnd_bool, bnd_str, bnd_agg, bnd_pp, bnd_nil, bnd_cons, implies_true, and_true, true_and] at hB
 unfold s107
 dsimp only
 refine W_seq_regc (fun T H => T 0 = (iV (a)) ∧ True) ?_ ?_
 ·
  unfold r107_0
  refine R_mv (@rfl V (V.bool false)) ?_
  exact R_nil ⟨rfl, trivial⟩
 intro T H ⟨t0, _⟩
 refine W_seq_regc (fun T H => T 2 = (V.bool (decide (((a) < (0 : Int)) ∨ ((1048576 : Int) < (a))))) ∧ True) ?_ ?_
 ·
  unfold r107_1
  refine R_mv t0 ?_
  refine R_lss (x := (a)) (y := (0 : Int)) (@rfl V (iV (a))) (@rfl V (iV (0 : Int))) ?_
  refine R_mv (@rfl V (V.bool (decide ((a) < (0 : Int))))) ?_
  refine Ops_seg 3 (fun T H => T 8 = (V.bool (decide (((a) < (0 : Int)) ∨ ((1048576 : Int) < (a))))) ∧ True) ?_ ?_
  ·
   by_cases g1 : (a) < (0 : Int)
   ·
    refine G_no (Eq.trans (@rfl V (V.bool (decide ((a) < (0 : Int))))) (bdT g1)) (by decide) ?_
    refine G_no (Eq.trans (@rfl V (V.bool (decide ((a) < (0 : Int))))) (bdT g1)) (by decide) ?_
    refine R_pickT (Eq.trans (@rfl V (V.bool (decide ((a) < (0 : Int))))) (bdT g1)) (@rfl V (V.bool true)) ?_
    exact ⟨(Eq.trans (@rfl V (V.bool true)) (dec_orT g1)), trivial⟩
   ·
    refine G_yes (Eq.trans (@rfl V (V.bool (decide ((a) < (0 : Int))))) (bdF g1)) ?_
    refine R_mv t0 ?_
    refine G_yes (Eq.trans (@rfl V (V.bool (decide ((a) < (0 : Int))))) (bdF g1)) ?_
    refine R_gtr (x := (a)) (y := (1048576 : Int)) (@rfl V (iV (a))) (@rfl V (iV (1048576 : Int))) ?_
    refine R_pickF (Eq.trans (@rfl V (V.bool (decide ((a) < (0 : Int))))) (bdF g1)) (@rfl V (V.bool (decide ((1048576 : Int) < (a))))) ?_
    exact ⟨(Eq.trans (@rfl V (V.bool (decide ((1048576 : Int) < (a))))) (dec_orF g1)), trivial⟩
  intro T H ⟨t8, _⟩
  refine R_mv t8 ?_
  exact R_nil ⟨rfl, trivial⟩
 intro T H ⟨t2, _⟩
 refine W_ret ?_
 refine Ret_1 t2 (fz_bool ?_)
 · first | rfl | omega | simp_all
end Go.Proofs.Ytngkckefanbhgaa

namespace Go.Proofs.Ytngkckefanbhgaa
open Go Go.Proofs
theorem proper_pure (t : Tr) (n : Int) : PureC Try.prog 78 [(V.agg [(V.sl (List.map cI (t.ni))), (V.sl (List.map cI (t.no)))]), (iV (n))] (iV (prE t n)) := by
 refine pure_of_Wb true 6 Try.func78 s78_ok (by kernel_rfl) (by simp [s78]) (by simp) (by simp) fun hB => ?_
 simp only [bnd_map, bnd_int, bnd_bool, bnd_str, bnd_agg, bnd_pp, bnd_nil, bnd_cons, implies_true, and_true, true_and] at hB
 unfold s78
 dsimp only
 refine W_seq_regc (fun T H => T 1 = (iV (n)) ∧ T 2 = (V.mp 2 1 0 0) ∧ H 2 = (⟨1, true, false, 63, 2, [[(V.sl (List.map cI (t.ni))), (V.sl (List.map cI (t.no)))]]⟩ : Blk) ∧ True) ?_ ?_
 ·
  unfold r78_0
  refine R_box (i := 2) (n := 0) (m := 2) (cs := [(V.sl (List.map cI (t.ni))), (V.sl (List.map cI (t.no)))]) rfl (congrArg Blk.ver rfl) (@rfl V (V.agg [(V.sl (List.map cI (t.ni))), (V.sl (List.map cI (t.no)))])) rfl rfl ?_
  refine R_mv (@rfl V (iV (0 : Int))) ?_
  exact R_nil ⟨rfl, rfl, rfl, trivial⟩
 intro T H ⟨t1, t2, h2, _⟩
 refine W_seq_seq ?_
 refine W_seq_regc (fun T H => T 2 = (V.mp 2 1 0 0) ∧ T 5 = (iV (wchk t.ni ((n)))) ∧ H 2 = (⟨1, true, false, 63, 2, [[(V.sl (List.map cI (t.ni))), (V.sl (List.map cI (t.no)))]]⟩ : Blk) ∧ True) ?_ ?_
 ·
  unfold r78_1
  refine R_fld_mp (o' := 0) t2 h2 (by first | rfl | simp [okB, Blk.own]) rfl ?_
  refine R_load_mp (v := (V.sl (List.map cI (t.ni)))) (@rfl V (V.mp 2 1 0 0)) h2 (by first | rfl | simp [ldB, ldV, Blk.own, V.one]) ?_
  refine R_mv t1 ?_
  refine R_call (evcons (@rfl V (V.sl (List.map cI (t.ni)))) (evcons (@rfl V (iV (n))) evnil)) (check_pure t.ni ((n))) (fzv_mapcanon _ _ (by simp [-List.map_take, -List.map_drop, -List.map_append, -List.map_reverse])) (by simp [-List.map_take, -List.map_drop, -List.map_append, -List.map_reverse]) (Or.inl (by simp [-List.map_take, -List.map_drop, -List.map_append, -List.map_reverse])) ?_
  refine R_mv (@rfl V (iV (wchk t.ni ((n))))) ?_
  exact R_nil ⟨t2, rfl, h2, trivial⟩
 intro T H ⟨t2, t5, h2, _⟩
 refine W_seq_seq ?_
 refine W_seq_regc (fun T H => T 2 = (V.mp 2 1 0 0) ∧ T 5 = (iV (wchk t.ni ((n)))) ∧ T 11 = (V.bool (decide ((wchk t.ni ((n))) ≠ (0 : Int)))) ∧ H 2 = (⟨1, true, false, 63, 2, [[(V.sl (List.map cI (t.ni))), (V.sl (List.map cI (t.no)))]]⟩ : Blk) ∧ True) ?_ ?_
 ·
  unfold r78_2
  refine R_mv t5 ?_
  refine R_neq (x := (wchk t.ni ((n)))) (y := (0 : Int)) (@rfl V (iV (wchk t.ni ((n))))) (@rfl V (iV (0 : Int))) ?_
  exact R_nil ⟨t2, t5, rfl, h2, trivial⟩
 intro T H ⟨t2, t5, t11, h2, _⟩
 refine W_seq_if (p := (wchk t.ni ((n))) ≠ (0 : Int)) t11 (fun c1 => ?_) (fun c1 => ?_)
 ·
  refine W_seq_seq ?_
  refine W_seq_regc (fun T H => T 4 = (iV (wchk t.ni ((n)))) ∧ H 2 = (⟨1, true, false, 63, 2, [[(V.sl (List.map cI (t.ni))), (V.sl (List.map cI (t.no)))]]⟩ : Blk) ∧ True) ?_ ?_
  ·
   unfold r78_3
   refine R_mv t5 ?_
   refine R_mv (@rfl V (iV (wchk t.ni ((n))))) ?_
   exact R_nil ⟨rfl, h2, trivial⟩
  intro T H ⟨t4, h2, _⟩
  refine W_seq_ret ?_
  refine Ret_1 t4 (fz_int ?_)
  · rw [prE, if_pos (by omega)]
 refine W_seq_skip ?_
 refine W_seq_blockg fun Q2 n2 x2 y2 z2 => ?_
 refine W_seq_regc (fun T H => T 2 = (V.mp 2 1 0 0) ∧ T 13 = (V.bool (decide (((t.no.length : Nat) : Int) ≠ ((t.ni.length : Nat) : Int)))) ∧ H 2 = (⟨1, true, false, 63, 2, [[(V.sl (List.map cI (t.ni))), (V.sl (List.map cI (t.no)))]]⟩ : Blk) ∧ True) ?_ ?_
 ·
  unfold r78_4
  refine R_fld_mp (o' := 1) t2 h2 (by first | rfl | simp [okB, Blk.own]) rfl ?_
  refine R_load_mp (v := (V.sl (List.map cI (t.no)))) (@rfl V (V.mp 2 1 0 1)) h2 (by first | rfl | simp [ldB, ldV, Blk.own, V.one]) ?_
  refine R_len (@rfl V (V.sl (List.map cI (t.no)))) ?_
  refine R_fld_mp (o' := 0) t2 h2 (by first | rfl | simp [okB, Blk.own]) rfl ?_
  refine R_load_mp (v := (V.sl (List.map cI (t.ni)))) (@rfl V (V.mp 2 1 0 0)) h2 (by first | rfl | simp [ldB, ldV, Blk.own, V.one]) ?_
  refine R_len (@rfl V (V.sl (List.map cI (t.ni)))) ?_
  refine R_neq (x := ((t.no.length : Nat) : Int)) (y := ((t.ni.length : Nat) : Int)) (@rfl V (iV ((t.no.length : Nat) : Int))) (@rfl V (iV ((t.ni.length : Nat) : Int))) ?_
  refine R_mv (@rfl V (V.bool (decide (((t.no.length : Nat) : Int) ≠ ((t.ni.length : Nat) : Int))))) ?_
  exact R_nil ⟨t2, rfl, h2, trivial⟩
 intro T H ⟨t2, t13, h2, _⟩
 refine W_if (p := ((t.no.length : Nat) : Int) ≠ ((t.ni.length : Nat) : Int)) t13 (fun c3 => ?_) (fun c3 => ?_)
 ·
  refine W_seq_regc (fun T H => T 4 = (iV (1 : Int)) ∧ H 2 = (⟨1, true, false, 63, 2, [[(V.sl (List.map cI (t.ni))), (V.sl (List.map cI (t.no)))]]⟩ : Blk) ∧ True) ?_ ?_
  ·
   unfold r78_5
   refine R_mv (@rfl V (iV (1 : Int))) ?_
   exact R_nil ⟨rfl, h2, trivial⟩
  intro T H ⟨t4, h2, _⟩
  refine W_ret ?_
  refine y2 _ _ ?_
  refine Ret_1 t4 (fz_int ?_)
  · rw [prE, if_neg (by omega), if_pos (by omega)]
 refine W_seq_regc (fun T H => T 21 = (V.bool (decide (0 ≤ fi (fun j => (fun a => decide (a < 0 ∨ 1048576 < a)) (nth t.no j)) 0 t.no.length))) ∧ H 2 = (⟨1, true, false, 63, 2, [[(V.sl (List.map cI (t.ni))), (V.sl (List.map cI (t.no)))]]⟩ : Blk) ∧ True) ?_ ?_
 ·
  unfold r78_6
  refine R_fld_mp (o' := 1) t2 h2 (by first | rfl | simp [okB, Blk.own]) rfl ?_
  refine R_load_mp (v := (V.sl (List.map cI (t.no)))) (@rfl V (V.mp 2 1 0 1)) h2 (by first | rfl | simp [ldB, ldV, Blk.own, V.one]) ?_
  refine R_call (evcons (@rfl V (V.sl (List.map cI (t.no)))) (evcons (@rfl V (V.fn 107 [] [])) evnil)) (coni_pure (fun a => decide (a < 0 ∨ 1048576 < a)) t.no 107 ([]) (by simp) (by simp) (fun k _ => proper1_pure (nth t.no k))) (fzv_mapcanon _ _ (by simp [-List.map_take, -List.map_drop, -List.map_append, -List.map_reverse])) (by simp [-List.map_take, -List.map_drop, -List.map_append, -List.map_reverse]) (Or.inl (by simp [-List.map_take, -List.map_drop, -List.map_append, -List.map_reverse])) ?_
  refine R_mv (@rfl V (V.bool (decide (0 ≤ fi (fun j => (fun a => decide (a < 0 ∨ 1048576 < a)) (nth t.no j)) 0 t.no.length)))) ?_
  exact R_nil ⟨rfl, h2, trivial⟩
 intro T H ⟨t21, h2, _⟩
 refine W_if (p := 0 ≤ fi (fun j => (fun a => decide (a < 0 ∨ 1048576 < a)) (nth t.no j)) 0 t.no.length) t21 (fun c4 => ?_) (fun c4 => ?_)
 ·
  refine W_seq_regc (fun T H => T 4 = (iV (2 : Int)) ∧ H 2 = (⟨1, true, false, 63, 2, [[(V.sl (List.map cI (t.ni))), (V.sl (List.map cI (t.no)))]]⟩ : Blk) ∧ True) ?_ ?_
  ·
   unfold r78_7
   refine R_mv (@rfl V (iV (2 : Int))) ?_
   exact R_nil ⟨rfl, h2, trivial⟩
  intro T H ⟨t4, h2, _⟩
  refine W_ret ?_
  refine y2 _ _ ?_
  refine Ret_1 t4 (fz_int ?_)
  · have e : (0 ≤ fi (fun j => (fun a => decide (a < 0 ∨ 1048576 < a)) (nth t.no j)) 0 t.no.length ↔ fe (outE t) 0 t.no.length = 2) ∧ (fe (outE t) 0 t.no.length = 0 ∨ fe (outE t) 0 t.no.length = 2) := out_fe t t.no.length 0
    rw [prE, if_neg (by omega), if_neg (by omega)]; omega
 refine W_skip ?_
 refine n2 _ _ ?_
 refine .done ?_
 refine W_seq_regc (fun T H => T 4 = (iV (0 : Int)) ∧ H 2 = (⟨1, true, false, 63, 2, [[(V.sl (List.map cI (t.ni))), (V.sl (List.map cI (t.no)))]]⟩ : Blk) ∧ True) ?_ ?_
 ·
  unfold r78_8
  refine R_mv (@rfl V (iV (0 : Int))) ?_
  exact R_nil ⟨rfl, h2, trivial⟩
 intro T H ⟨t4, h2, _⟩
 refine W_ret ?_
 refine Ret_1 t4 (fz_int ?_)
 · have e : (0 ≤ fi (fun j => (fun a => decide (a < 0 ∨ 1048576 < a)) (nth t.no j)) 0 t.no.length ↔ fe (outE t) 0 t.no.length = 2) ∧ (fe (outE t) 0 t.no.length = 0 ∨ fe (outE t) 0 t.no.length = 2) := out_fe t t.no.length 0
   rw [prE, if_neg (by omega), if_neg (by omega)]; omega
end Go.Proofs.Ytngkckefanbhgaa

namespace Go.Proofs.Ytngkckefanbhgaa
open Go Go.Proofs
def r102_0 : List SO := [
  ⟨none, some 2, .mv (.c (.nilsl))⟩]
def r102_1 : List SO := [
  ⟨none, some 6, .mv (.t 0)⟩,
  ⟨none, some 7, .len (.t 6)⟩,
  ⟨none, some 8, .bin .add (.t 7) (.c (.int .i64 1))⟩,
  ⟨none, some 9, .mks 63 2 48 [.nilsl, .nilsl] (.c (.int .i64 0)) (.t 8)⟩,
  ⟨none, some 3, .mv (.t 9)⟩]
def r102_2 : List SO := [
  ⟨none, some 10, .mv (.t 0)⟩,
  ⟨none, some 11, .len (.t 10)⟩,
  ⟨none, some 12, .mv (.c (.int .i64 0))⟩]
def r102_3 : List SO := [
  ⟨none, some 13, .bin .lss (.t 12) (.t 11)⟩]
def r102_4 : List SO := [
  ⟨none, some 14, .idx 2 (.t 10) (.t 12)⟩,
  ⟨none, some 15, .load true 2 (.t 14)⟩,
  ⟨none, some 5, .alloc 63 [.nilsl, .nilsl]⟩,
  ⟨none, none, .store 2 (.t 5) (.t 15)⟩]
def r102_5 : List SO := [
  ⟨none, some 16, .mv (.t 3)⟩,
  ⟨none, some 17, .load true 2 (.t 5)⟩,
  ⟨none, some 18, .call false 115 [.t 17]⟩,
  ⟨none, some 19, .bslice 63 2 false [.nilsl, .nilsl] 1 [(0, .t 18)]⟩,
  ⟨none, some 20, .append 63 2 48 (.t 16) (.t 19)⟩,
  ⟨none, some 3, .mv (.t 20)⟩]
def r102_6 : List SO := [
  ⟨none, some 21, .bin .add (.t 12) (.c (.int .i64 1))⟩,
  ⟨none, some 12, .mv (.t 21)⟩]
def b102_0 : SC := .seq (.reg r102_3) (.seq (.cond (.t 13) (.skip) (.exit 0)) (.seq (.block 1 (.seq (.reg r102_4) (.reg r102_5))) (.reg r102_6)))
def r102_7 : List SO := [
  ⟨none, some 22, .mv (.t 3)⟩,
  ⟨none, some 2, .mv (.t 22)⟩]
def s102 : SF := ⟨23, [.tmp 2], .seq (.reg r102_0) (.seq (.reg r102_1) (.seq (.seq (.reg r102_2) (.block 0 (.loop b102_0))) (.seq (.reg r102_7) (.ret))))⟩
theorem s102_ok : slimF Try.prog ⟨[94, 102, 103, 108, 109, 116, 119, 121, 125], []⟩ Try.f102 = some s102 := by kernel_rfl
end Go.Proofs.Ytngkckefanbhgaa

namespace Go.Proofs.Ytngkckefanbhgaa
open Go Go.Proofs
def r115_0 : List SO := [
  ⟨none, some 1, .box 63 2 (.t 0)⟩,
  ⟨none, some 2, .alloc 63 [.nilsl, .nilsl]⟩]
def r115_1 : List SO := [
  ⟨none, some 3, .fld 0 (.t 1)⟩,
  ⟨none, some 4, .load false 1 (.t 3)⟩,
  ⟨none, some 5, .call false 63 [.t 4]⟩,
  ⟨none, some 6, .fld 1 (.t 1)⟩,
  ⟨none, some 7, .load false 1 (.t 6)⟩,
  ⟨none, some 8, .call false 63 [.t 7]⟩,
  ⟨none, some 9, .build [.nilsl, .nilsl] [(0, 1, .t 5), (1, 1, .t 8)]⟩,
  ⟨none, none, .store 2 (.t 2) (.t 9)⟩]
def s115 : SF := ⟨10, [.cell 2 true 2], .seq (.reg r115_0) (.seq (.reg r115_1) (.ret))⟩
theorem s115_ok : slimF Try.prog ⟨[94, 102, 103, 108, 109, 116, 119, 121, 125], []⟩ Try.f115 = some s115 := by kernel_rfl
end Go.Proofs.Ytngkckefanbhgaa

namespace Go.Proofs.Ytngkckefanbhgaa
open Go Go.Proofs
theorem copied_pure (t : Tr) (h1 : t.ni.length ≤ 1048576) (h2 : t.no.length ≤ 1048576) : PureC Try.prog 115 [(V.agg [(V.sl (List.map cI (t.ni))), (V.sl (List.map cI (t.no)))])] (V.agg [(V.sl (List.map cI (t.ni))), (V.sl (List.map cI (t.no)))]) := by
 refine pure_of_Wb true 6 Try.func115 s115_ok (by kernel_rfl) (by simp [s115]) (by simp) (by simp) fun hB => ?_
 simp only [bnd_map, bnd_int, bnd_bool, bnd_str, bnd_agg, bnd_pp, bnd_nil, bnd_cons, implies_true, and_true, true_and] at hB
 unfold s115
 dsimp only
 refine W_seq_regc (fun T H => T 1 = (V.mp 1 1 0 0) ∧ T 2 = (V.mp 2 1 0 0) ∧ H 1 = (⟨1, true, false, 63, 2, [[(V.sl (List.map cI (t.ni))), (V.sl (List.map cI (t.no)))]]⟩ : Blk) ∧ H 2 = (⟨1, true, false, 63, 2, [[V.nilsl, V.nilsl]]⟩ : Blk) ∧ True) ?_ ?_
 ·
  unfold r115_0
  refine R_box (i := 1) (n := 0) (m := 2) (cs := [(V.sl (List.map cI (t.ni))), (V.sl (List.map cI (t.no)))]) rfl (congrArg Blk.ver rfl) (@rfl V (V.agg [(V.sl (List.map cI (t.ni))), (V.sl (List.map cI (t.no)))])) rfl rfl ?_
  refine R_alloc (i := 2) (n := 0) (m := 2) rfl (congrArg Blk.ver rfl) rfl ?_
  exact R_nil ⟨rfl, rfl, rfl, rfl, trivial⟩
 intro T H ⟨t1, t2, h1, h2, _⟩
 refine W_seq_regc (fun T H => T 2 = (V.mp 2 1 0 0) ∧ H 1 = (⟨1, true, false, 63, 2, [[(V.sl (List.map cI (t.ni))), (V.sl (List.map cI (t.no)))]]⟩ : Blk) ∧ H 2 = (⟨1, true, false, 63, 2, [[(V.sl (List.map cI (t.ni))), (V.sl (List.map cI (t.no)))]]⟩ : Blk) ∧ True) ?_ ?_
 ·
  unfold r115_1
  refine R_fld_mp (o' := 0) t1 h1 (by first | rfl | simp [okB, Blk.own]) rfl ?_
  refine R_load_mp (v := (V.sl (List.map cI (t.ni)))) (@rfl V (V.mp 1 1 0 0)) h1 (by first | rfl | simp [ldB, ldV, Blk.own, V.one]) ?_
  refine R_call (evcons (@rfl V (V.sl (List.map cI (t.ni)))) evnil) (clone_pure t.ni (by omega)) (fzv_mapcanon _ _ (by simp [-List.map_take, -List.map_drop, -List.map_append, -List.map_reverse])) (by simp [-List.map_take, -List.map_drop, -List.map_append, -List.map_reverse]) (Or.inl (by simp [-List.map_take, -List.map_drop, -List.map_append, -List.map_reverse])) ?_
  refine R_fld_mp (o' := 1) t1 h1 (by first | rfl | simp [okB, Blk.own]) rfl ?_
  refine R_load_mp (v := (V.sl (List.map cI (t.no)))) (@rfl V (V.mp 1 1 0 1)) h1 (by first | rfl | simp [ldB, ldV, Blk.own, V.one]) ?_
  refine R_call (evcons (@rfl V (V.sl (List.map cI (t.no)))) evnil) (clone_pure t.no (by omega)) (fzv_mapcanon _ _ (by simp [-List.map_take, -List.map_drop, -List.map_append, -List.map_reverse])) (by simp [-List.map_take, -List.map_drop, -List.map_append, -List.map_reverse]) (Or.inl (by simp [-List.map_take, -List.map_drop, -List.map_append, -List.map_reverse])) ?_
  refine R_build (qs := [(0, 1, (V.sl (List.map cI (t.ni)))), (1, 1, (V.sl (List.map cI (t.no))))]) (cs := [(V.sl (List.map cI (t.ni))), (V.sl (List.map cI (t.no)))]) (mcons (congrArg (fun v => (0, 1, v)) (@rfl V (V.sl (List.map cI (t.ni))))) (mcons (congrArg (fun v => (1, 1, v)) (@rfl V (V.sl (List.map cI (t.no))))) rfl)) rfl ?_
  refine R_store (vs := [(V.sl (List.map cI (t.ni))), (V.sl (List.map cI (t.no)))]) (B' := (⟨1, true, false, 63, 2, [[(V.sl (List.map cI (t.ni))), (V.sl (List.map cI (t.no)))]]⟩ : Blk)) t2 (@rfl V (V.agg [(V.sl (List.map cI (t.ni))), (V.sl (List.map cI (t.no)))])) rfl h2 (by first | rfl | simp [stB, okB, Blk.own, putAt, V.one]) ?_
  exact R_nil ⟨t2, h1, rfl, trivial⟩
 intro T H ⟨t2, h1, h2, _⟩
 refine W_ret ?_
 refine RetC_1 (resV_c (u := (V.agg [(V.sl (List.map cI (t.ni))), (V.sl (List.map cI (t.no)))])) t2 h2 (by first | rfl | simp [ldB, ldV, Blk.own, V.one])) (fz_canon (by simp) rfl)
end Go.Proofs.Ytngkckefanbhgaa

namespace Go.Proofs.Ytngkckefanbhgaa
open Go Go.Proofs
attribute [local irreducible] mksV
theorem owned_E (l : List Tr) (v5 v9 : Nat) (hb : ∀ k, k < l.length → (nth l k).ni.length ≤ 1048576 ∧ (nth l k).no.length ≤ 1048576) (Hi : Heap) (h205 : (Hi 205).ver = v5) (h209 : (Hi 209).ver = v9) (hl : l.length ≤ 1000000) : CallOK Try.prog 102 [(V.sl (List.map cT (l)))] Hi (V.ms 209 (v9 + 1 + l.length) 0 (l.length)) (upd (upd Hi 205 (⟨v5 + l.length, false, false, 0, 0, []⟩ : Blk)) 209 (⟨v9 + 1 + l.length, true, false, 63, 2, (List.map cT (l))⟩ : Blk)) := by
 refine CallOK_of_Wf (k0 := 200) Try.func102 s102_ok (by kernel_rfl) (by simp [s102]) fun hB => ?_
 simp only [bnd_map, bnd_int, bnd_bool, bnd_str, bnd_agg, bnd_pp, bnd_nil, bnd_cons, implies_true, and_true, true_and] at hB
 unfold s102
 dsimp only
 refine W_seq_regc (fun T H => T 0 = (V.sl (List.map cT (l))) ∧ (∀ j, j ∉ [205, 209] → H j = Hi j) ∧ (H 205).ver = v5 ∧ (H 209).ver = v9 ∧ True) ?_ ?_
 ·
  unfold r102_0
  refine R_mv (@rfl V V.nilsl) ?_
  exact R_nil ⟨rfl, (fun _ _ => rfl), h205, h209, trivial⟩
 intro T H ⟨t0, hF, h205, h209, _⟩
 refine W_seq_regc (fun T H => T 0 = (V.sl (List.map cT (l))) ∧ T 3 = (V.ms 209 (v9 + 1) 0 (0)) ∧ (∀ j, j ∉ [205, 209] → H j = Hi j) ∧ (H 205).ver = v5 ∧ H 209 = (⟨v9 + 1, true, false, 63, 2, (List.replicate (0) [V.nilsl, V.nilsl])⟩ : Blk) ∧ True) ?_ ?_
 ·
  unfold r102_1
  refine R_mv t0 ?_
  refine R_len (@rfl V (V.sl (List.map cT (l)))) ?_
  refine R_addN (m := l.length) (n := 1) (@rfl V (iV ((l.length : Nat) : Int))) (@rfl V (iV ((1 : Nat) : Int))) (by omega) ?_
  refine (R_mks (i := 209) (n := v9) (m := 0) (q := (l.length + 1)) (by rfl) h209 (@rfl V (iV (0 : Int))) (@rfl V (iV ((l.length + 1 : Nat) : Int))) (by omega) (by omega) (by omega) ?_)
  refine R_mv (@rfl V (V.ms 209 (v9 + 1) 0 (0))) ?_
  exact R_nil ⟨t0, rfl, (upd_out hF (by decide)), h205, rfl, trivial⟩
 intro T H ⟨t0, t3, hF, h205, h209, _⟩
 refine W_seq_seq ?_
 refine W_seq_regc (fun T H => T 3 = (V.ms 209 (v9 + 1) 0 (0)) ∧ T 10 = (V.sl (List.map cT (l))) ∧ T 11 = (iV ((l.length : Nat) : Int)) ∧ T 12 = (iV (0 : Int)) ∧ (∀ j, j ∉ [205, 209] → H j = Hi j) ∧ (H 205).ver = v5 ∧ H 209 = (⟨v9 + 1, true, false, 63, 2, (List.replicate (0) [V.nilsl, V.nilsl])⟩ : Blk) ∧ True) ?_ ?_
 ·
  unfold r102_2
  refine R_mv t0 ?_
  refine R_len (@rfl V (V.sl (List.map cT (l)))) ?_
  refine R_mv (@rfl V (iV (0 : Int))) ?_
  exact R_nil ⟨t3, rfl, rfl, rfl, hF, h205, h209, trivial⟩
 intro T H ⟨t3, t10, t11, t12, hF, h205, h209, _⟩
 refine W_seq_blockg fun Q1 n1 x1 y1 z1 => ?_
 refine W_loop (fun mm T H => ∃ (k : Nat), mm = l.length - k ∧ T 3 = (V.ms 209 (v9 + 1 + k) 0 (k)) ∧ T 10 = (V.sl (List.map cT (l))) ∧ T 11 = (iV ((l.length : Nat) : Int)) ∧ T 12 = (iV ((k : Nat) : Int)) ∧ (∀ j, j ∉ [205, 209] → H j = Hi j) ∧ (H 205).ver = v5 + k ∧ H 209 = (⟨v9 + 1 + k, true, false, 63, 2, (List.map cT ((l.take k)))⟩ : Blk) ∧ (k ≤ l.length)) ?_ ?_
 ·
  refine ⟨_, 0, rfl, (Eq.trans t3 (by first | rfl | (have e : k = l.length := (by omega); subst e; rfl))), t10, t11, (Eq.trans t12 (by first | rfl | (have e : k = l.length := (by omega); subst e; rfl))), hF, h205, (Eq.trans h209 (by first | rfl | (rw [take_succ_nth (by omega)]; rfl) | (have e : k = l.length := (by omega); subst e; rw [List.take_length]; done))), ?_⟩
  · omega
 intro mm T H ⟨k, hmm, t3, t10, t11, t12, hF, h205, h209, hk⟩ Q2 p12 p22 p32
 unfold b102_0
 refine W_seq_regc (fun T H => T 3 = (V.ms 209 (v9 + 1 + k) 0 (k)) ∧ T 10 = (V.sl (List.map cT (l))) ∧ T 11 = (iV ((l.length : Nat) : Int)) ∧ T 12 = (iV ((k : Nat) : Int)) ∧ T 13 = (V.bool (decide (((k : Nat) : Int) < ((l.length : Nat) : Int)))) ∧ (∀ j, j ∉ [205, 209] → H j = Hi j) ∧ (H 205).ver = v5 + k ∧ H 209 = (⟨v9 + 1 + k, true, false, 63, 2, (List.map cT ((l.take k)))⟩ : Blk) ∧ True) ?_ ?_
 ·
  unfold r102_3
  refine R_lss (x := ((k : Nat) : Int)) (y := ((l.length : Nat) : Int)) t12 t11 ?_
  exact R_nil ⟨t3, t10, t11, t12, rfl, hF, h205, h209, trivial⟩
 intro T H ⟨t3, t10, t11, t12, t13, hF, h205, h209, _⟩
 refine W_seq_if (p := ((k : Nat) : Int) < ((l.length : Nat) : Int)) t13 (fun c3 => ?_) (fun c3 => ?_)
 ·
  refine W_seq_skip ?_
  refine W_seq_blockg fun Q4 n4 x4 y4 z4 => ?_
  refine W_seq_regc (fun T H => T 3 = (V.ms 209 (v9 + 1 + k) 0 (k)) ∧ T 5 = (V.mp 205 (v5 + k + 1) 0 0) ∧ T 10 = (V.sl (List.map cT (l))) ∧ T 11 = (iV ((l.length : Nat) : Int)) ∧ T 12 = (iV ((k : Nat) : Int)) ∧ (∀ j, j ∉ [205, 209] → H j = Hi j) ∧ H 205 = (⟨v5 + k + 1, true, false, 63, 2, [[(V.sl (List.map cI ((nth (l) (k)).ni))), (V.sl (List.map cI ((nth (l) (k)).no)))]]⟩ : Blk) ∧ H 209 = (⟨v9 + 1 + k, true, false, 63, 2, (List.map cT ((l.take k)))⟩ : Blk) ∧ True) ?_ ?_
  ·
   unfold r102_4
   refine R_idx (i := k) t10 t12 (by omega) rfl ?_
   refine R_load_pp (v := (V.agg [(V.sl (List.map cI ((nth (l) (k)).ni))), (V.sl (List.map cI ((nth (l) (k)).no)))])) (@rfl V (V.pp [(V.sl (List.map cI ((nth (l) (k)).ni))), (V.sl (List.map cI ((nth (l) (k)).no)))])) (by first | rfl | simp [ldV]) ?_
   refine R_alloc (i := 205) (n := (v5 + k)) (m := 2) (by rfl) h205 rfl ?_
   refine R_store (vs := [(V.sl (List.map cI ((nth (l) (k)).ni))), (V.sl (List.map cI ((nth (l) (k)).no)))]) (B' := (⟨v5 + k + 1, true, false, 63, 2, [[(V.sl (List.map cI ((nth (l) (k)).ni))), (V.sl (List.map cI ((nth (l) (k)).no)))]]⟩ : Blk)) (@rfl V (V.mp 205 (v5 + k + 1) 0 0)) (@rfl V (V.agg [(V.sl (List.map cI ((nth (l) (k)).ni))), (V.sl (List.map cI ((nth (l) (k)).no)))])) rfl (@rfl Blk (⟨v5 + k + 1, true, false, 63, 2, [[V.nilsl, V.nilsl]]⟩ : Blk)) (by first | rfl | simp [stB, okB, Blk.own, putAt, V.one]) ?_
   exact R_nil ⟨t3, rfl, t10, t11, t12, (upd_out (upd_out hF (by decide)) (by decide)), rfl, h209, trivial⟩
  intro T H ⟨t3, t5, t10, t11, t12, hF, h205, h209, _⟩
  refine W_regc (fun T H => T 3 = (V.ms 209 (v9 + 1 + k + 1) 0 (k + 1)) ∧ T 10 = (V.sl (List.map cT (l))) ∧ T 11 = (iV ((l.length : Nat) : Int)) ∧ T 12 = (iV ((k : Nat) : Int)) ∧ (∀ j, j ∉ [205, 209] → H j = Hi j) ∧ H 205 = (⟨v5 + k + 1, true, false, 63, 2, [[(V.sl (List.map cI ((nth (l) (k)).ni))), (V.sl (List.map cI ((nth (l) (k)).no)))]]⟩ : Blk) ∧ H 209 = (⟨v9 + 1 + k + 1, true, false, 63, 2, (List.map cT ((l.take k) ++ [((nth (l) (k)))]))⟩ : Blk) ∧ True) ?_ ?_
  ·
   unfold r102_5
   refine R_mv t3 ?_
   refine R_load_mp (v := (V.agg [(V.sl (List.map cI ((nth (l) (k)).ni))), (V.sl (List.map cI ((nth (l) (k)).no)))])) t5 h205 (by first | rfl | simp [ldB, ldV, Blk.own, V.one]) ?_
   refine R_call (evcons (@rfl V (V.agg [(V.sl (List.map cI ((nth (l) (k)).ni))), (V.sl (List.map cI ((nth (l) (k)).no)))])) evnil) (copied_pure ((nth (l) (k))) (hb k (by omega)).1 (hb k (by omega)).2) (fzv_mapcanon _ _ (by simp [-List.map_take, -List.map_drop, -List.map_append, -List.map_reverse])) (by simp [-List.map_take, -List.map_drop, -List.map_append, -List.map_reverse]) (Or.inl (by simp [-List.map_take, -List.map_drop, -List.map_append, -List.map_reverse])) ?_
   refine R_bslice (qs := [(0, (V.agg [(V.sl (List.map cI (((nth (l) (k))).ni))), (V.sl (List.map cI (((nth (l) (k))).no)))]))]) (rows := [[(V.sl (List.map cI (((nth (l) (k))).ni))), (V.sl (List.map cI (((nth (l) (k))).no)))]]) (mcons (congrArg (fun v => (0, v)) (@rfl V (V.agg [(V.sl (List.map cI (((nth (l) (k))).ni))), (V.sl (List.map cI (((nth (l) (k))).no)))]))) rfl) rfl ?_
   refine R_append1 (l := ((l.take k))) (f := cT) (x := (((nth (l) (k))))) (@rfl V (V.ms 209 (v9 + 1 + k) 0 (k))) h209 (by first | rfl | (rw [List.length_take]; omega) | simp) (@rfl V (V.sl [[(V.sl (List.map cI (((nth (l) (k))).ni))), (V.sl (List.map cI (((nth (l) (k))).no)))]])) rfl rfl (by omega) (by omega) ?_
   refine R_mv (@rfl V (V.ms 209 (v9 + 1 + k + 1) 0 (k + 1))) ?_
   exact R_nil ⟨rfl, t10, t11, t12, (upd_out hF (by decide)), h205, rfl, trivial⟩
  intro T H ⟨t3, t10, t11, t12, hF, h205, h209, _⟩
  refine n4 _ _ ?_
  refine .done ?_
  refine W_regc (fun T H => T 3 = (V.ms 209 (v9 + 1 + k + 1) 0 (k + 1)) ∧ T 10 = (V.sl (List.map cT (l))) ∧ T 11 = (iV ((l.length : Nat) : Int)) ∧ T 12 = (iV ((k + 1 : Nat) : Int)) ∧ (∀ j, j ∉ [205, 209] → H j = Hi j) ∧ H 205 = (⟨v5 + k + 1, true, false, 63, 2, [[(V.sl (List.map cI ((nth (l) (k)).ni))), (V.sl (List.map cI ((nth (l) (k)).no)))]]⟩ : Blk) ∧ H 209 = (⟨v9 + 1 + k + 1, true, false, 63, 2, (List.map cT ((l.take k) ++ [((nth (l) (k)))]))⟩ : Blk) ∧ True) ?_ ?_
  ·
   unfold r102_6
   refine R_addN (m := k) (n := 1) t12 (@rfl V (iV ((1 : Nat) : Int))) (by omega) ?_
   refine R_mv (@rfl V (iV ((k + 1 : Nat) : Int))) ?_
   exact R_nil ⟨t3, t10, t11, rfl, hF, h205, h209, trivial⟩
  intro T H ⟨t3, t10, t11, t12, hF, h205, h209, _⟩
  refine p12 _ _ _ ?_ ⟨(k + 1), rfl, (Eq.trans t3 (by first | rfl | (have e : k = l.length := (by omega); subst e; rfl))), t10, t11, (Eq.trans t12 (by first | rfl | (have e : k = l.length := (by omega); subst e; rfl))), hF, (congrArg Blk.ver h205), (Eq.trans h209 (by first | rfl | (rw [take_succ_nth (by omega)]; rfl) | (have e : k = l.length := (by omega); subst e; rw [List.take_length]; done))), ?_⟩
  · omega
  · omega
 refine W_seq_exit ?_
 refine p32 _ _ _ ?_
 refine x1 _ _ ?_
 refine .done ?_
 refine W_seq_regc (fun T H => T 2 = (V.ms 209 (v9 + 1 + k) 0 (k)) ∧ (∀ j, j ∉ [205, 209] → H j = Hi j) ∧ (H 205).ver = v5 + k ∧ H 209 = (⟨v9 + 1 + k, true, false, 63, 2, (List.map cT ((l.take k)))⟩ : Blk) ∧ True) ?_ ?_
 ·
  unfold r102_7
  refine R_mv t3 ?_
  refine R_mv (@rfl V (V.ms 209 (v9 + 1 + k) 0 (k))) ?_
  exact R_nil ⟨rfl, hF, h205, h209, trivial⟩
 intro T H ⟨t2, hF, h205, h209, _⟩
 refine W_ret ?_
 have fh := FinX.fin (FinX.put (B := (⟨v9 + 1 + l.length, true, false, 63, 2, (List.map cT (l))⟩ : Blk)) (FinX.putv (n := (v5 + k)) (B := (⟨v5 + l.length, false, false, 0, 0, []⟩ : Blk)) (FinX.start hF) h205 (by show _ ≤ v5 + l.length; omega) rfl) h209 (FinB.up (by omega) (by first | rfl | (rw [take_succ_nth (by omega)]; rfl) | (have e : k = l.length := (by omega); subst e; rw [List.take_length]; done))))
 exact RetF_1 t2 fh (FinV.trans_eq (FinV.ms (n := (v9 + 1 + l.length)) fh (by simp [h209]) (by simp [h209]) rfl rfl) (by first | rfl | (have e : k = l.length := (by omega); subst e; rfl)))
end Go.Proofs.Ytngkckefanbhgaa

namespace Go.Proofs.Ytngkckefanbhgaa
open Go Go.Proofs
def r103_0 : List SO := [
  ⟨none, some 3, .box 63 2 (.t 1)⟩,
  ⟨none, some 4, .mv (.c (.nilsl))⟩,
  ⟨none, some 5, .mv (.c (.int .i64 0))⟩]
def r103_1 : List SO := [
  ⟨none, some 6, .mv (.c (.bool false))⟩]
def r103_2 : List SO := [
  ⟨none, some 11, .mv (.t 0)⟩,
  ⟨none, some 12, .len (.t 11)⟩,
  ⟨none, some 13, .mv (.c (.int .i64 0))⟩]
def r103_3 : List SO := [
  ⟨none, some 14, .bin .lss (.t 13) (.t 12)⟩]
def r103_4 : List SO := [
  ⟨none, some 15, .idx 2 (.t 11) (.t 13)⟩,
  ⟨none, some 16, .load true 2 (.t 15)⟩,
  ⟨none, some 8, .alloc 63 [.nilsl, .nilsl]⟩,
  ⟨none, none, .store 2 (.t 8) (.t 16)⟩]
def r103_5 : List SO := [
  ⟨none, some 17, .load true 2 (.t 8)⟩,
  ⟨none, some 18, .load true 2 (.t 3)⟩,
  ⟨none, some 19, .call false 84 [.t 17, .t 18]⟩,
  ⟨none, some 20, .bin .geq (.t 19) (.c (.int .i64 0))⟩]
def r103_6 : List SO := [
  ⟨none, some 4, .mv (.c (.nilsl))⟩,
  ⟨none, some 5, .mv (.c (.int .i64 13))⟩]
def r103_7 : List SO := [
  ⟨none, some 21, .mv (.t 6)⟩,
  ⟨none, some 22, .mv (.t 21)⟩,
  ⟨some (22, false), some 23, .fld 0 (.t 8)⟩,
  ⟨some (22, false), some 24, .load false 1 (.t 23)⟩,
  ⟨some (22, false), some 25, .fld 0 (.t 3)⟩,
  ⟨some (22, false), some 26, .load false 1 (.t 25)⟩,
  ⟨some (22, false), some 27, .call false 76 [.t 24, .t 26]⟩,
  ⟨none, some 28, .pick (.t 22) (.c (.bool true)) (.t 27)⟩,
  ⟨none, some 6, .mv (.t 28)⟩]
def r103_8 : List SO := [
  ⟨none, some 29, .bin .add (.t 13) (.c (.int .i64 1))⟩,
  ⟨none, some 13, .mv (.t 29)⟩]
def b103_0 : SC := .seq (.reg r103_3) (.seq (.cond (.t 14) (.skip) (.exit 0)) (.seq (.block 1 (.seq (.reg r103_4) (.seq (.seq (.reg r103_5) (.cond (.t 20) (.seq (.reg r103_6) (.ret)) (.skip))) (.reg r103_7)))) (.reg r103_8)))
def r103_9 : List SO := [
  ⟨none, some 30, .mv (.t 6)⟩,
  ⟨none, some 31, .mv (.t 30)⟩,
  ⟨some (31, false), some 32, .fld 0 (.t 3)⟩,
  ⟨some (31, false), some 33, .load false 1 (.t 32)⟩,
  ⟨some (31, false), some 34, .len (.t 33)⟩,
  ⟨some (31, false), some 35, .bin .eql (.t 34) (.c (.int .i64 0))⟩,
  ⟨none, some 36, .pick (.t 31) (.c (.bool true)) (.t 35)⟩]
def r103_10 : List SO := [
  ⟨none, some 37, .mv (.t 0)⟩,
  ⟨none, some 4, .mv (.t 37)⟩,
  ⟨none, some 5, .mv (.c (.int .i64 0))⟩]
def r103_11 : List SO := [
  ⟨none, some 38, .mv (.t 0)⟩,
  ⟨none, some 39, .mkf 117 [.t 3]⟩,
  ⟨none, some 40, .call true 116 [.t 38, .t 39]⟩,
  ⟨none, some 0, .mv (.t 40)⟩]
def r103_12 : List SO := [
  ⟨none, some 41, .mv (.t 0)⟩,
  ⟨none, some 42, .len (.t 41)⟩,
  ⟨none, some 43, .bin .eql (.t 42) (.c (.int .i64 10000))⟩]
def r103_13 : List SO := [
  ⟨none, some 4, .mv (.c (.nilsl))⟩,
  ⟨none, some 5, .mv (.c (.int .i64 11))⟩]
def r103_14 : List SO := [
  ⟨none, some 45, .mv (.t 0)⟩,
  ⟨none, some 46, .load true 2 (.t 3)⟩,
  ⟨none, some 47, .call false 118 [.t 45, .t 46, .c (.fn 79 [] [])]⟩,
  ⟨none, some 44, .mv (.t 47)⟩,
  ⟨none, some 48, .ext (.t 44) 0⟩,
  ⟨none, some 49, .ext (.t 44) 1⟩,
  ⟨none, some 9, .mv (.t 48)⟩,
  ⟨none, some 10, .mv (.t 49)⟩]
def r103_15 : List SO := [
  ⟨none, some 50, .mv (.t 0)⟩,
  ⟨none, some 51, .mv (.t 9)⟩,
  ⟨none, some 52, .load true 2 (.t 3)⟩,
  ⟨none, some 53, .call false 115 [.t 52]⟩,
  ⟨none, some 54, .bslice 63 2 true [.nilsl, .nilsl] 1 [(0, .t 53)]⟩,
  ⟨none, some 55, .call true 119 [.t 50, .t 51, .t 54]⟩,
  ⟨none, some 4, .mv (.t 55)⟩,
  ⟨none, some 5, .mv (.c (.int .i64 0))⟩]
def s103 : SF := ⟨56, [.tmp 4, .tmp 5], .seq (.reg r103_0) (.seq (.reg r103_1) (.seq (.seq (.reg r103_2) (.block 0 (.loop b103_0))) (.seq (.seq (.reg r103_9) (.cond (.t 36) (.seq (.reg r103_10) (.ret)) (.skip))) (.seq (.reg r103_11) (.seq (.seq (.reg r103_12) (.cond (.t 43) (.seq (.reg r103_13) (.ret)) (.skip))) (.seq (.reg r103_14) (.seq (.reg r103_15) (.ret))))))))⟩
theorem s103_ok : slimF Try.prog ⟨[94, 102, 103, 108, 109, 116, 119, 121, 125], [54]⟩ Try.f103 = some s103 := by kernel_rfl
end Go.Proofs.Ytngkckefanbhgaa

namespace Go.Proofs.Ytngkckefanbhgaa
open Go Go.Proofs
def r79_0 : List SO := [
  ⟨none, some 2, .box 63 2 (.t 0)⟩,
  ⟨none, some 3, .box 63 2 (.t 1)⟩,
  ⟨none, some 4, .mv (.c (.int .i64 0))⟩]
def r79_1 : List SO := [
  ⟨none, some 5, .fld 0 (.t 2)⟩,
  ⟨none, some 6, .load false 1 (.t 5)⟩,
  ⟨none, some 7, .fld 0 (.t 3)⟩,
  ⟨none, some 8, .load false 1 (.t 7)⟩,
  ⟨none, some 9, .call false 66 [.t 6, .t 8]⟩,
  ⟨none, some 4, .mv (.t 9)⟩]
def s79 : SF := ⟨10, [.tmp 4], .seq (.reg r79_0) (.seq (.reg r79_1) (.ret))⟩
theorem s79_ok : slimF Try.prog ⟨[94, 102, 103, 108, 109, 116, 119, 121, 125], []⟩ Try.f79 = some s79 := by kernel_rfl
end Go.Proofs.Ytngkckefanbhgaa

namespace Go.Proofs.Ytngkckefanbhgaa
open Go Go.Proofs
theorem order_pure (a b : Tr) : PureC Try.prog 79 [(V.agg [(V.sl (List.map cI (a.ni))), (V.sl (List.map cI (a.no)))]), (V.agg [(V.sl (List.map cI (b.ni))), (V.sl (List.map cI (b.no)))])] (iV (slx a.ni b.ni)) := by
 refine pure_of_Wb true 6 Try.func79 s79_ok (by kernel_rfl) (by simp [s79]) (by simp) (by simp) fun hB => ?_
 simp only [bnd_map, bnd_int, bnd_bool, bnd_str, bnd_agg, bnd_pp, bnd_nil, bnd_cons, implies_true, and_true, true_and] at hB
 unfold s79
 dsimp only
 refine W_seq_regc (fun T H => T 2 = (V.mp 2 1 0 0) ∧ T 3 = (V.mp 3 1 0 0) ∧ H 2 = (⟨1, true, false, 63, 2, [[(V.sl (List.map cI (a.ni))), (V.sl (List.map cI (a.no)))]]⟩ : Blk) ∧ H 3 = (⟨1, true, false, 63, 2, [[(V.sl (List.map cI (b.ni))), (V.sl (List.map cI (b.no)))]]⟩ : Blk) ∧ True) ?_ ?_
 ·
  unfold r79_0
  refine R_box (i := 2) (n := 0) (m := 2) (cs := [(V.sl (List.map cI (a.ni))), (V.sl (List.map cI (a.no)))]) rfl (congrArg Blk.ver rfl) (@rfl V (V.agg [(V.sl (List.map cI (a.ni))), (V.sl (List.map cI (a.no)))])) rfl rfl ?_
  refine R_box (i := 3) (n := 0) (m := 2) (cs := [(V.sl (List.map cI (b.ni))), (V.sl (List.map cI (b.no)))]) rfl (congrArg Blk.ver rfl) (@rfl V (V.agg [(V.sl (List.map cI (b.ni))), (V.sl (List.map cI (b.no)))])) rfl rfl ?_
  refine R_mv (@rfl V (iV (0 : Int))) ?_
  exact R_nil ⟨rfl, rfl, rfl, rfl, trivial⟩
 intro T H ⟨t2, t3, h2, h3, _⟩
 refine W_seq_regc (fun T H => T 4 = (iV (slx a.ni b.ni)) ∧ H 2 = (⟨1, true, false, 63, 2, [[(V.sl (List.map cI (a.ni))), (V.sl (List.map cI (a.no)))]]⟩ : Blk) ∧ H 3 = (⟨1, true, false, 63, 2, [[(V.sl (List.map cI (b.ni))), (V.sl (List.map cI (b.no)))]]⟩ : Blk) ∧ True) ?_ ?_
 ·
  unfold r79_1
  refine R_fld_mp (o' := 0) t2 h2 (by first | rfl | simp [okB, Blk.own]) rfl ?_
  refine R_load_mp (v := (V.sl (List.map cI (a.ni)))) (@rfl V (V.mp 2 1 0 0)) h2 (by first | rfl | simp [ldB, ldV, Blk.own, V.one]) ?_
  refine R_fld_mp (o' := 0) t3 h3 (by first | rfl | simp [okB, Blk.own]) rfl ?_
  refine R_load_mp (v := (V.sl (List.map cI (b.ni)))) (@rfl V (V.mp 3 1 0 0)) h3 (by first | rfl | simp [ldB, ldV, Blk.own, V.one]) ?_
  refine R_call (evcons (@rfl V (V.sl (List.map cI (a.ni)))) (evcons (@rfl V (V.sl (List.map cI (b.ni)))) evnil)) (compare_pure a.ni b.ni) (fzv_mapcanon _ _ (by simp [-List.map_take, -List.map_drop, -List.map_append, -List.map_reverse])) (by simp [-List.map_take, -List.map_drop, -List.map_append, -List.map_reverse]) (Or.inl (by simp [-List.map_take, -List.map_drop, -List.map_append, -List.map_reverse])) ?_
  refine R_mv (@rfl V (iV (slx a.ni b.ni))) ?_
  exact R_nil ⟨rfl, h2, h3, trivial⟩
 intro T H ⟨t4, h2, h3, _⟩
 refine W_ret ?_
 refine Ret_1 t4 (fz_canon (by simp) rfl)
end Go.Proofs.Ytngkckefanbhgaa

namespace Go.Proofs.Ytngkckefanbhgaa
open Go Go.Proofs
def r84_0 : List SO := [
  ⟨none, some 2, .box 63 2 (.t 0)⟩,
  ⟨none, some 3, .box 63 2 (.t 1)⟩,
  ⟨none, some 4, .mv (.c (.int .i64 0))⟩]
def r84_1 : List SO := [
  ⟨none, some 7, .fld 0 (.t 2)⟩,
  ⟨none, some 8, .load false 1 (.t 7)⟩,
  ⟨none, some 9, .fld 0 (.t 3)⟩,
  ⟨none, some 10, .load false 1 (.t 9)⟩,
  ⟨none, some 11, .call false 69 [.t 8, .t 10]⟩,
  ⟨none, some 12, .fld 1 (.t 2)⟩,
  ⟨none, some 13, .load false 1 (.t 12)⟩,
  ⟨none, some 14, .len (.t 13)⟩,
  ⟨none, some 15, .fld 1 (.t 3)⟩,
  ⟨none, some 16, .load false 1 (.t 15)⟩,
  ⟨none, some 17, .len (.t 16)⟩,
  ⟨none, some 18, .mn3 (.t 11) (.t 14) (.t 17)⟩,
  ⟨none, some 5, .mv (.t 18)⟩]
def r84_2 : List SO := [
  ⟨none, some 19, .fld 1 (.t 2)⟩,
  ⟨none, some 20, .load false 1 (.t 19)⟩,
  ⟨none, some 21, .mv (.t 5)⟩,
  ⟨none, some 22, .slice 1 (.t 20) none (some (.t 21))⟩,
  ⟨none, some 23, .fld 1 (.t 3)⟩,
  ⟨none, some 24, .load false 1 (.t 23)⟩,
  ⟨none, some 25, .mv (.t 5)⟩,
  ⟨none, some 26, .slice 1 (.t 24) none (some (.t 25))⟩,
  ⟨none, some 27, .call false 69 [.t 22, .t 26]⟩,
  ⟨none, some 6, .mv (.t 27)⟩]
def r84_3 : List SO := [
  ⟨none, some 28, .mv (.t 6)⟩,
  ⟨none, some 29, .mv (.t 5)⟩,
  ⟨none, some 30, .bin .lss (.t 28) (.t 29)⟩]
def r84_4 : List SO := [
  ⟨none, some 31, .mv (.t 6)⟩,
  ⟨none, some 4, .mv (.t 31)⟩]
def r84_5 : List SO := [
  ⟨none, some 4, .mv (.c (.int .i64 (-1)))⟩]
def s84 : SF := ⟨32, [.tmp 4], .seq (.reg r84_0) (.seq (.reg r84_1) (.seq (.seq (.reg r84_2) (.seq (.reg r84_3) (.cond (.t 30) (.seq (.reg r84_4) (.ret)) (.skip)))) (.seq (.reg r84_5) (.ret))))⟩
theorem s84_ok : slimF Try.prog ⟨[94, 102, 103, 108, 109, 116, 119, 121, 125], []⟩ Try.f84 = some s84 := by kernel_rfl
end Go.Proofs.Ytngkckefanbhgaa

namespace Go.Proofs.Ytngkckefanbhgaa
open Go Go.Proofs
theorem odiffer_pure (a b : Tr) (ha : a.no.length = a.ni.length) (hb : b.no.length = b.ni.length) : PureC Try.prog 84 [(V.agg [(V.sl (List.map cI (a.ni))), (V.sl (List.map cI (a.no)))]), (V.agg [(V.sl (List.map cI (b.ni))), (V.sl (List.map cI (b.no)))])] (iV (df a b)) := by
 refine pure_of_Wb true 6 Try.func84 s84_ok (by kernel_rfl) (by simp [s84]) (by simp) (by simp) fun hB => ?_
 simp only [bnd_map, bnd_int, bnd_bool, bnd_str, bnd_agg, bnd_pp, bnd_nil, bnd_cons, implies_true, and_true, true_and] at hB
 unfold s84
 dsimp only
 refine W_seq_regc (fun T H => T 2 = (V.mp 2 1 0 0) ∧ T 3 = (V.mp 3 1 0 0) ∧ H 2 = (⟨1, true, false, 63, 2, [[(V.sl (List.map cI (a.ni))), (V.sl (List.map cI (a.no)))]]⟩ : Blk) ∧ H 3 = (⟨1, true, false, 63, 2, [[(V.sl (List.map cI (b.ni))), (V.sl (List.map cI (b.no)))]]⟩ : Blk) ∧ True) ?_ ?_
 ·
  unfold r84_0
  refine R_box (i := 2) (n := 0) (m := 2) (cs := [(V.sl (List.map cI (a.ni))), (V.sl (List.map cI (a.no)))]) rfl (congrArg Blk.ver rfl) (@rfl V (V.agg [(V.sl (List.map cI (a.ni))), (V.sl (List.map cI (a.no)))])) rfl rfl ?_
  refine R_box (i := 3) (n := 0) (m := 2) (cs := [(V.sl (List.map cI (b.ni))), (V.sl (List.map cI (b.no)))]) rfl (congrArg Blk.ver rfl) (@rfl V (V.agg [(V.sl (List.map cI (b.ni))), (V.sl (List.map cI (b.no)))])) rfl rfl ?_
  refine R_mv (@rfl V (iV (0 : Int))) ?_
  exact R_nil ⟨rfl, rfl, rfl, rfl, trivial⟩
 intro T H ⟨t2, t3, h2, h3, _⟩
 refine W_seq_regc (fun T H => T 2 = (V.mp 2 1 0 0) ∧ T 3 = (V.mp 3 1 0 0) ∧ T 5 = (iV ((min (min (cmn a.ni b.ni) a.no.length) b.no.length : Nat) : Int)) ∧ H 2 = (⟨1, true, false, 63, 2, [[(V.sl (List.map cI (a.ni))), (V.sl (List.map cI (a.no)))]]⟩ : Blk) ∧ H 3 = (⟨1, true, false, 63, 2, [[(V.sl (List.map cI (b.ni))), (V.sl (List.map cI (b.no)))]]⟩ : Blk) ∧ True) ?_ ?_
 ·
  unfold r84_1
  refine R_fld_mp (o' := 0) t2 h2 (by first | rfl | simp [okB, Blk.own]) rfl ?_
  refine R_load_mp (v := (V.sl (List.map cI (a.ni)))) (@rfl V (V.mp 2 1 0 0)) h2 (by first | rfl | simp [ldB, ldV, Blk.own, V.one]) ?_
  refine R_fld_mp (o' := 0) t3 h3 (by first | rfl | simp [okB, Blk.own]) rfl ?_
  refine R_load_mp (v := (V.sl (List.map cI (b.ni)))) (@rfl V (V.mp 3 1 0 0)) h3 (by first | rfl | simp [ldB, ldV, Blk.own, V.one]) ?_
  have q1 := cmn_l a.ni b.ni
  have q2 := cmn_r a.ni b.ni
  refine R_call (evcons (@rfl V (V.sl (List.map cI (a.ni)))) (evcons (@rfl V (V.sl (List.map cI (b.ni)))) evnil)) (common_pure a.ni b.ni) (fzv_mapcanon _ _ (by simp [-List.map_take, -List.map_drop, -List.map_append, -List.map_reverse])) (by simp [-List.map_take, -List.map_drop, -List.map_append, -List.map_reverse]) (Or.inl (by simp [-List.map_take, -List.map_drop, -List.map_append, -List.map_reverse])) ?_
  refine R_fld_mp (o' := 1) t2 h2 (by first | rfl | simp [okB, Blk.own]) rfl ?_
  refine R_load_mp (v := (V.sl (List.map cI (a.no)))) (@rfl V (V.mp 2 1 0 1)) h2 (by first | rfl | simp [ldB, ldV, Blk.own, V.one]) ?_
  refine R_len (@rfl V (V.sl (List.map cI (a.no)))) ?_
  refine R_fld_mp (o' := 1) t3 h3 (by first | rfl | simp [okB, Blk.own]) rfl ?_
  refine R_load_mp (v := (V.sl (List.map cI (b.no)))) (@rfl V (V.mp 3 1 0 1)) h3 (by first | rfl | simp [ldB, ldV, Blk.own, V.one]) ?_
  refine R_len (@rfl V (V.sl (List.map cI (b.no)))) ?_
  refine R_mn3N (m := (cmn a.ni b.ni)) (n := a.no.length) (q := b.no.length) (@rfl V (iV ((cmn a.ni b.ni : Nat) : Int))) (@rfl V (iV ((a.no.length : Nat) : Int))) (@rfl V (iV ((b.no.length : Nat) : Int))) ?_
  refine R_mv (@rfl V (iV ((min (min (cmn a.ni b.ni) a.no.length) b.no.length : Nat) : Int))) ?_
  exact R_nil ⟨t2, t3, rfl, h2, h3, trivial⟩
 intro T H ⟨t2, t3, t5, h2, h3, _⟩
 have q3 := cmn_l a.ni b.ni
 have q4 := cmn_r a.ni b.ni
 refine W_seq_seq ?_
 refine W_seq_regc (fun T H => T 5 = (iV ((min (min (cmn a.ni b.ni) a.no.length) b.no.length : Nat) : Int)) ∧ T 6 = (iV ((cmn (List.take (min (min (cmn a.ni b.ni) a.no.length) b.no.length) (a.no)) (List.take (min (min (cmn a.ni b.ni) a.no.length) b.no.length) (b.no)) : Nat) : Int)) ∧ H 2 = (⟨1, true, false, 63, 2, [[(V.sl (List.map cI (a.ni))), (V.sl (List.map cI (a.no)))]]⟩ : Blk) ∧ H 3 = (⟨1, true, false, 63, 2, [[(V.sl (List.map cI (b.ni))), (V.sl (List.map cI (b.no)))]]⟩ : Blk) ∧ True) ?_ ?_
 ·
  unfold r84_2
  refine R_fld_mp (o' := 1) t2 h2 (by first | rfl | simp [okB, Blk.own]) rfl ?_
  refine R_load_mp (v := (V.sl (List.map cI (a.no)))) (@rfl V (V.mp 2 1 0 1)) h2 (by first | rfl | simp [ldB, ldV, Blk.own, V.one]) ?_
  refine R_mv t5 ?_
  refine R_slice_hi (n := (min (min (cmn a.ni b.ni) a.no.length) b.no.length)) (@rfl V (V.sl (List.map cI (a.no)))) (@rfl V (iV ((min (min (cmn a.ni b.ni) a.no.length) b.no.length : Nat) : Int))) (by omega) (fun _ => rfl) ?_
  refine R_fld_mp (o' := 1) t3 h3 (by first | rfl | simp [okB, Blk.own]) rfl ?_
  refine R_load_mp (v := (V.sl (List.map cI (b.no)))) (@rfl V (V.mp 3 1 0 1)) h3 (by first | rfl | simp [ldB, ldV, Blk.own, V.one]) ?_
  refine R_mv t5 ?_
  refine R_slice_hi (n := (min (min (cmn a.ni b.ni) a.no.length) b.no.length)) (@rfl V (V.sl (List.map cI (b.no)))) (@rfl V (iV ((min (min (cmn a.ni b.ni) a.no.length) b.no.length : Nat) : Int))) (by omega) (fun _ => rfl) ?_
  have q5 := cmn_l (List.take (min (min (cmn a.ni b.ni) a.no.length) b.no.length) (a.no)) (List.take (min (min (cmn a.ni b.ni) a.no.length) b.no.length) (b.no))
  have q6 := cmn_r (List.take (min (min (cmn a.ni b.ni) a.no.length) b.no.length) (a.no)) (List.take (min (min (cmn a.ni b.ni) a.no.length) b.no.length) (b.no))
  refine R_call (evcons (@rfl V (V.sl (List.map cI (List.take (min (min (cmn a.ni b.ni) a.no.length) b.no.length) (a.no))))) (evcons (@rfl V (V.sl (List.map cI (List.take (min (min (cmn a.ni b.ni) a.no.length) b.no.length) (b.no))))) evnil)) (common_pure (List.take (min (min (cmn a.ni b.ni) a.no.length) b.no.length) (a.no)) (List.take (min (min (cmn a.ni b.ni) a.no.length) b.no.length) (b.no))) (fzv_mapcanon _ _ (by simp [-List.map_take, -List.map_drop, -List.map_append, -List.map_reverse])) (by simp [-List.map_take, -List.map_drop, -List.map_append, -List.map_reverse]) (Or.inl (by simp [-List.map_take, -List.map_drop, -List.map_append, -List.map_reverse])) ?_
  refine R_mv (@rfl V (iV ((cmn (List.take (min (min (cmn a.ni b.ni) a.no.length) b.no.length) (a.no)) (List.take (min (min (cmn a.ni b.ni) a.no.length) b.no.length) (b.no)) : Nat) : Int))) ?_
  exact R_nil ⟨t5, rfl, h2, h3, trivial⟩
 intro T H ⟨t5, t6, h2, h3, _⟩
 have q7 := cmn_l (List.take (min (min (cmn a.ni b.ni) a.no.length) b.no.length) (a.no)) (List.take (min (min (cmn a.ni b.ni) a.no.length) b.no.length) (b.no))
 have q8 := cmn_r (List.take (min (min (cmn a.ni b.ni) a.no.length) b.no.length) (a.no)) (List.take (min (min (cmn a.ni b.ni) a.no.length) b.no.length) (b.no))
 refine W_seq_seq ?_
 refine W_seq_regc (fun T H => T 6 = (iV ((cmn (List.take (min (min (cmn a.ni b.ni) a.no.length) b.no.length) (a.no)) (List.take (min (min (cmn a.ni b.ni) a.no.length) b.no.length) (b.no)) : Nat) : Int)) ∧ T 30 = (V.bool (decide (((cmn (List.take (min (min (cmn a.ni b.ni) a.no.length) b.no.length) (a.no)) (List.take (min (min (cmn a.ni b.ni) a.no.length) b.no.length) (b.no)) : Nat) : Int) < ((min (min (cmn a.ni b.ni) a.no.length) b.no.length : Nat) : Int)))) ∧ H 2 = (⟨1, true, false, 63, 2, [[(V.sl (List.map cI (a.ni))), (V.sl (List.map cI (a.no)))]]⟩ : Blk) ∧ H 3 = (⟨1, true, false, 63, 2, [[(V.sl (List.map cI (b.ni))), (V.sl (List.map cI (b.no)))]]⟩ : Blk) ∧ True) ?_ ?_
 ·
  unfold r84_3
  refine R_mv t6 ?_
  refine R_mv t5 ?_
  refine R_lss (x := ((cmn (List.take (min (min (cmn a.ni b.ni) a.no.length) b.no.length) (a.no)) (List.take (min (min (cmn a.ni b.ni) a.no.length) b.no.length) (b.no)) : Nat) : Int)) (y := ((min (min (cmn a.ni b.ni) a.no.length) b.no.length : Nat) : Int)) (@rfl V (iV ((cmn (List.take (min (min (cmn a.ni b.ni) a.no.length) b.no.length) (a.no)) (List.take (min (min (cmn a.ni b.ni) a.no.length) b.no.length) (b.no)) : Nat) : Int))) (@rfl V (iV ((min (min (cmn a.ni b.ni) a.no.length) b.no.length : Nat) : Int))) ?_
  exact R_nil ⟨t6, rfl, h2, h3, trivial⟩
 intro T H ⟨t6, t30, h2, h3, _⟩
 refine W_seq_if (p := ((cmn (List.take (min (min (cmn a.ni b.ni) a.no.length) b.no.length) (a.no)) (List.take (min (min (cmn a.ni b.ni) a.no.length) b.no.length) (b.no)) : Nat) : Int) < ((min (min (cmn a.ni b.ni) a.no.length) b.no.length : Nat) : Int)) t30 (fun c9 => ?_) (fun c9 => ?_)
 ·
  have d1 := c9
  refine W_seq_seq ?_
  refine W_seq_regc (fun T H => T 4 = (iV ((cmn (List.take (min (min (cmn a.ni b.ni) a.no.length) b.no.length) (a.no)) (List.take (min (min (cmn a.ni b.ni) a.no.length) b.no.length) (b.no)) : Nat) : Int)) ∧ H 2 = (⟨1, true, false, 63, 2, [[(V.sl (List.map cI (a.ni))), (V.sl (List.map cI (a.no)))]]⟩ : Blk) ∧ H 3 = (⟨1, true, false, 63, 2, [[(V.sl (List.map cI (b.ni))), (V.sl (List.map cI (b.no)))]]⟩ : Blk) ∧ True) ?_ ?_
  ·
   unfold r84_4
   refine R_mv t6 ?_
   refine R_mv (@rfl V (iV ((cmn (List.take (min (min (cmn a.ni b.ni) a.no.length) b.no.length) (a.no)) (List.take (min (min (cmn a.ni b.ni) a.no.length) b.no.length) (b.no)) : Nat) : Int))) ?_
   exact R_nil ⟨rfl, h2, h3, trivial⟩
  intro T H ⟨t4, h2, h3, _⟩
  refine W_seq_ret ?_
  refine Ret_1 t4 (fz_int ?_)
  · have e : min (min (cmn a.ni b.ni) a.no.length) b.no.length = cmn a.ni b.ni := by omega
    rw [e] at d1 ⊢
    rw [← df_prog ha hb, if_pos (by omega)]
 have d1 := c9
 refine W_seq_skip ?_
 refine W_seq_regc (fun T H => T 4 = (iV (-1 : Int)) ∧ H 2 = (⟨1, true, false, 63, 2, [[(V.sl (List.map cI (a.ni))), (V.sl (List.map cI (a.no)))]]⟩ : Blk) ∧ H 3 = (⟨1, true, false, 63, 2, [[(V.sl (List.map cI (b.ni))), (V.sl (List.map cI (b.no)))]]⟩ : Blk) ∧ True) ?_ ?_
 ·
  unfold r84_5
  refine R_mv (@rfl V (iV (-1 : Int))) ?_
  exact R_nil ⟨rfl, h2, h3, trivial⟩
 intro T H ⟨t4, h2, h3, _⟩
 refine W_ret ?_
 refine Ret_1 t4 (fz_int ?_)
 · have e : min (min (cmn a.ni b.ni) a.no.length) b.no.length = cmn a.ni b.ni := by omega
   rw [e] at d1
   rw [← df_prog ha hb, if_neg (by omega)]
end Go.Proofs.Ytngkckefanbhgaa

namespace Go.Proofs.Ytngkckefanbhgaa
open Go Go.Proofs
def r116_0 : List SO := [
  ⟨none, some 4, .mv (.c (.nilsl))⟩]
def r116_1 : List SO := [
  ⟨none, some 8, .mv (.t 0)⟩,
  ⟨none, some 9, .mv (.t 1)⟩,
  ⟨none, some 10, .call false 74 [.t 8, .t 9]⟩,
  ⟨none, some 5, .mv (.t 10)⟩]
def r116_2 : List SO := [
  ⟨none, some 11, .mv (.t 5)⟩,
  ⟨none, some 12, .bin .eql (.t 11) (.c (.int .i64 (-1)))⟩]
def r116_3 : List SO := [
  ⟨none, some 13, .mv (.t 0)⟩,
  ⟨none, some 4, .mv (.t 13)⟩]
def r116_4 : List SO := [
  ⟨none, some 14, .mv (.t 5)⟩,
  ⟨none, some 15, .bin .add (.t 14) (.c (.int .i64 1))⟩,
  ⟨none, some 6, .mv (.t 15)⟩]
def r116_5 : List SO := [
  ⟨none, some 16, .mv (.t 6)⟩,
  ⟨none, some 17, .mv (.t 0)⟩,
  ⟨none, some 18, .len (.t 17)⟩,
  ⟨none, some 19, .bin .lss (.t 16) (.t 18)⟩]
def r116_7 : List SO := [
  ⟨none, some 22, .mv (.t 0)⟩,
  ⟨none, some 23, .mv (.t 6)⟩,
  ⟨none, some 24, .idx 2 (.t 22) (.t 23)⟩,
  ⟨none, some 25, .load true 2 (.t 24)⟩,
  ⟨none, some 7, .alloc 63 [.nilsl, .nilsl]⟩,
  ⟨none, none, .store 2 (.t 7) (.t 25)⟩]
def r116_8 : List SO := [
  ⟨none, some 26, .mv (.t 1)⟩,
  ⟨none, some 27, .load true 2 (.t 7)⟩,
  ⟨none, some 28, .callv false (.t 26) [.t 27]⟩,
  ⟨none, some 29, .un .not (.t 28)⟩]
def r116_9 : List SO := [
  ⟨none, some 30, .mv (.t 0)⟩,
  ⟨none, some 31, .mv (.t 5)⟩,
  ⟨none, some 32, .load true 2 (.t 7)⟩,
  ⟨none, some 33, .idx 2 (.t 30) (.t 31)⟩,
  ⟨none, none, .store 2 (.t 33) (.t 32)⟩]
def r116_10 : List SO := [
  ⟨none, some 34, .mv (.t 5)⟩,
  ⟨none, some 35, .bin .add (.t 34) (.c (.int .i64 1))⟩,
  ⟨none, some 5, .mv (.t 35)⟩]
def r116_6 : List SO := [
  ⟨none, some 20, .mv (.t 6)⟩,
  ⟨none, some 21, .bin .add (.t 20) (.c (.int .i64 1))⟩,
  ⟨none, some 6, .mv (.t 21)⟩]
def b116_0 : SC := .seq (.seq (.reg r116_5) (.cond (.t 19) (.skip) (.exit 0))) (.seq (.block 1 (.seq (.reg r116_7) (.seq (.reg r116_8) (.cond (.t 29) (.seq (.reg r116_9) (.reg r116_10)) (.skip))))) (.reg r116_6))
def r116_11 : List SO := [
  ⟨none, some 36, .mv (.t 0)⟩,
  ⟨none, some 37, .mv (.t 5)⟩,
  ⟨none, some 38, .slice 2 (.t 36) (some (.t 37)) none⟩,
  ⟨none, none, .clr [.nilsl, .nilsl] (.t 38)⟩]
def r116_12 : List SO := [
  ⟨none, some 39, .mv (.t 0)⟩,
  ⟨none, some 40, .mv (.t 5)⟩,
  ⟨none, some 41, .slice 2 (.t 39) none (some (.t 40))⟩,
  ⟨none, some 4, .mv (.t 41)⟩]
def s116 : SF := ⟨42, [.tmp 4], .seq (.reg r116_0) (.seq (.reg r116_1) (.seq (.seq (.reg r116_2) (.cond (.t 12) (.seq (.reg r116_3) (.ret)) (.skip))) (.seq (.seq (.reg r116_4) (.block 0 (.loop b116_0))) (.seq (.reg r116_11) (.seq (.reg r116_12) (.ret))))))⟩
theorem s116_ok : slimF Try.prog ⟨[94, 102, 103, 108, 109, 116, 119, 121, 125], []⟩ Try.f116 = some s116 := by kernel_rfl
end Go.Proofs.Ytngkckefanbhgaa

namespace Go.Proofs.Ytngkckefanbhgaa
open Go Go.Proofs
def r74_0 : List SO := [
  ⟨none, some 4, .mv (.c (.int .i64 0))⟩]
def r74_1 : List SO := [
  ⟨none, some 6, .mv (.t 0)⟩,
  ⟨none, some 7, .len (.t 6)⟩,
  ⟨none, some 8, .mv (.c (.int .i64 0))⟩]
def r74_2 : List SO := [
  ⟨none, some 9, .bin .lss (.t 8) (.t 7)⟩]
def r74_3 : List SO := [
  ⟨none, some 10, .mv (.t 8)⟩,
  ⟨none, some 5, .mv (.t 10)⟩]
def r74_4 : List SO := [
  ⟨none, some 11, .mv (.t 1)⟩,
  ⟨none, some 12, .mv (.t 0)⟩,
  ⟨none, some 13, .mv (.t 5)⟩,
  ⟨none, some 14, .idx 2 (.t 12) (.t 13)⟩,
  ⟨none, some 15, .load true 2 (.t 14)⟩,
  ⟨none, some 16, .callv false (.t 11) [.t 15]⟩]
def r74_5 : List SO := [
  ⟨none, some 17, .mv (.t 5)⟩,
  ⟨none, some 4, .mv (.t 17)⟩]
def r74_6 : List SO := [
  ⟨none, some 18, .bin .add (.t 8) (.c (.int .i64 1))⟩,
  ⟨none, some 8, .mv (.t 18)⟩]
def b74_0 : SC := .seq (.reg r74_2) (.seq (.cond (.t 9) (.skip) (.exit 0)) (.seq (.block 1 (.seq (.reg r74_3) (.seq (.reg r74_4) (.cond (.t 16) (.seq (.reg r74_5) (.ret)) (.skip))))) (.reg r74_6)))
def r74_7 : List SO := [
  ⟨none, some 4, .mv (.c (.int .i64 (-1)))⟩]
def s74 : SF := ⟨19, [.tmp 4], .seq (.reg r74_0) (.seq (.seq (.reg r74_1) (.block 0 (.loop b74_0))) (.seq (.reg r74_7) (.ret)))⟩
theorem s74_ok : slimF Try.prog ⟨[94, 102, 103, 108, 109, 116, 119, 121, 125], []⟩ Try.f74 = some s74 := by kernel_rfl
end Go.Proofs.Ytngkckefanbhgaa

