/- Contracts of the functions that the law HA reaches, and the law itself, for every input; no condition. -/
import Derived.KernelRfl
import Derived.Test.YtngkckefanbhgaaRows
import Derived.Test.YtngkckefanbhgaaHA2
set_option linter.unusedSimpArgs false
set_option linter.unusedVariables false
namespace Go.Proofs.Ytngkckefanbhgaa
open Go Go.Proofs

theorem rlow_pure (o : Ob) (l : List (List Int)) (ho : oval o = 0) (hl : l.length ≤ 1000000) (hw : ∀ k, k < l.length → (nth l k).length ≤ 1048576) : PureC Try.prog 30 [(V.agg [(iV (o.i)), (V.sl (List.map cT (o.tr)))]), (V.sl (List.map cL (l)))] (iV (((lowL (apB o) l).length : Nat) : Int)) := by
 refine pure_of_Wb true 6 Try.func30 s30_ok (by kernel_rfl) (by simp [s30]) (by simp) (by simp) fun hB => ?_
 simp only [bnd_map, bnd_int, bnd_bool, bnd_str, bnd_agg, bnd_pp, bnd_nil, bnd_cons, implies_true, and_true, true_and] at hB
 unfold s30
 dsimp only
 refine W_seq_regc (fun T H => T 1 = (V.sl (List.map cL (l))) ∧ T 2 = (V.mp 2 1 0 0) ∧ H 2 = (⟨1, true, false, 34, 2, [[(iV (o.i)), (V.sl (List.map cT (o.tr)))]]⟩ : Blk) ∧ H 5 = (⟨0, false, false, 0, 0, []⟩ : Blk) ∧ True) ?_ ?_
 ·
  unfold r30_0
  refine R_box (i := 2) (n := 0) (m := 2) (cs := [(iV (o.i)), (V.sl (List.map cT (o.tr)))]) rfl (congrArg Blk.ver rfl) (@rfl V (V.agg [(iV (o.i)), (V.sl (List.map cT (o.tr)))])) rfl rfl ?_
  refine R_mv (@rfl V (iV (0 : Int))) ?_
  exact R_nil ⟨rfl, rfl, rfl, rfl, trivial⟩
 intro T H ⟨t1, t2, h2, h5, _⟩
 refine W_seq_regc (fun T H => T 1 = (V.sl (List.map cL (l))) ∧ T 2 = (V.mp 2 1 0 0) ∧ T 5 = (V.ms 5 1 0 (0)) ∧ H 2 = (⟨1, true, false, 34, 2, [[(iV (o.i)), (V.sl (List.map cT (o.tr)))]]⟩ : Blk) ∧ H 5 = (⟨1, true, true, 35, 1, []⟩ : Blk) ∧ True) ?_ ?_
 ·
  unfold r30_1
  refine R_lazy (i := 5) (n := 0) rfl (congrArg Blk.ver h5) ?_
  exact R_nil ⟨t1, t2, rfl, h2, rfl, trivial⟩
 intro T H ⟨t1, t2, t5, h2, h5, _⟩
 refine W_seq_seq ?_
 refine W_seq_regc (fun T H => T 1 = (V.sl (List.map cL (l))) ∧ T 2 = (V.mp 2 1 0 0) ∧ T 5 = (V.ms 5 1 0 (0)) ∧ T 6 = (iV (0 : Int)) ∧ H 2 = (⟨1, true, false, 34, 2, [[(iV (o.i)), (V.sl (List.map cT (o.tr)))]]⟩ : Blk) ∧ H 5 = (⟨1, true, true, 35, 1, []⟩ : Blk) ∧ True) ?_ ?_
 ·
  unfold r30_2
  refine R_mv (@rfl V (iV (0 : Int))) ?_
  exact R_nil ⟨t1, t2, t5, rfl, h2, h5, trivial⟩
 intro T H ⟨t1, t2, t5, t6, h2, h5, _⟩
 refine W_seq_blockg fun Q1 n1 x1 y1 z1 => ?_
 refine W_loop (fun mm T H => ∃ (k : Nat), mm = l.length - k ∧ T 1 = (V.sl (List.map cL (l))) ∧ T 2 = (V.mp 2 1 0 0) ∧ T 5 = (V.ms 5 (1 + (lowL (apB o) (l.take k)).length) 0 ((lowL (apB o) (l.take k)).length)) ∧ T 6 = (iV ((k : Nat) : Int)) ∧ H 2 = (⟨1, true, false, 34, 2, [[(iV (o.i)), (V.sl (List.map cT (o.tr)))]]⟩ : Blk) ∧ H 5 = (⟨1 + (lowL (apB o) (l.take k)).length, true, true, 35, 1, (List.map cL (lowL (apB o) (l.take k)))⟩ : Blk) ∧ (k ≤ l.length)) ?_ ?_
 ·
  refine ⟨_, 0, rfl, t1, t2, (Eq.trans t5 (by first | rfl | (rw [Nat.zero_add]; rfl) | (simp only [alB, d1, Nat.zero_add]; simp; done) | (rw [g1, low1, if_pos d2, List.length_append]; rfl) | (rw [g1, low1, if_pos d2]; done) | (rw [g1, low1, if_neg (by simp [d2])]; done))), (Eq.trans t6 (by first | rfl | (rw [Nat.zero_add]; rfl) | (simp only [alB, d1, Nat.zero_add]; simp; done) | (rw [g1, low1, if_pos d2, List.length_append]; rfl) | (rw [g1, low1, if_pos d2]; done) | (rw [g1, low1, if_neg (by simp [d2])]; done))), h2, (Eq.trans h5 (by first | rfl | (rw [Nat.zero_add]; rfl) | (simp only [alB, d1, Nat.zero_add]; simp; done) | (rw [g1, low1, if_pos d2, List.length_append]; rfl) | (rw [g1, low1, if_pos d2]; done) | (rw [g1, low1, if_neg (by simp [d2])]; done))), ?_⟩
  · omega
 intro mm T H ⟨k, hmm, t1, t2, t5, t6, h2, h5, hk⟩ Q2 p12 p22 p32
 unfold b30_0
 refine W_seq_seq ?_
 refine W_seq_regc (fun T H => T 1 = (V.sl (List.map cL (l))) ∧ T 2 = (V.mp 2 1 0 0) ∧ T 5 = (V.ms 5 (1 + (lowL (apB o) (l.take k)).length) 0 ((lowL (apB o) (l.take k)).length)) ∧ T 6 = (iV ((k : Nat) : Int)) ∧ T 14 = (V.bool (decide (((k : Nat) : Int) < ((l.length : Nat) : Int)))) ∧ H 2 = (⟨1, true, false, 34, 2, [[(iV (o.i)), (V.sl (List.map cT (o.tr)))]]⟩ : Blk) ∧ H 5 = (⟨1 + (lowL (apB o) (l.take k)).length, true, true, 35, 1, (List.map cL (lowL (apB o) (l.take k)))⟩ : Blk) ∧ True) ?_ ?_
 ·
  unfold r30_3
  refine R_mv t6 ?_
  refine R_mv t1 ?_
  refine R_len (@rfl V (V.sl (List.map cL (l)))) ?_
  refine R_lss (x := ((k : Nat) : Int)) (y := ((l.length : Nat) : Int)) (@rfl V (iV ((k : Nat) : Int))) (@rfl V (iV ((l.length : Nat) : Int))) ?_
  exact R_nil ⟨t1, t2, t5, t6, rfl, h2, h5, trivial⟩
 intro T H ⟨t1, t2, t5, t6, t14, h2, h5, _⟩
 refine W_seq_if (p := ((k : Nat) : Int) < ((l.length : Nat) : Int)) t14 (fun c3 => ?_) (fun c3 => ?_)
 ·
  have g1 := low_take (ap := (apB o)) (l := l) (k := k) (by omega)
  have g2 := low_len (ap := (apB o)) (l := l) (k := k) (by omega)
  refine W_seq_skip ?_
  refine W_seq_blockg fun Q4 n4 x4 y4 z4 => ?_
  refine W_seq_regc (fun T H => T 1 = (V.sl (List.map cL (l))) ∧ T 2 = (V.mp 2 1 0 0) ∧ T 5 = (V.ms 5 (1 + (lowL (apB o) (l.take k)).length) 0 ((lowL (apB o) (l.take k)).length)) ∧ T 6 = (iV ((k : Nat) : Int)) ∧ T 7 = (V.bool true) ∧ H 2 = (⟨1, true, false, 34, 2, [[(iV (o.i)), (V.sl (List.map cT (o.tr)))]]⟩ : Blk) ∧ H 5 = (⟨1 + (lowL (apB o) (l.take k)).length, true, true, 35, 1, (List.map cL (lowL (apB o) (l.take k)))⟩ : Blk) ∧ True) ?_ ?_
  ·
   unfold r30_5
   refine R_mv (@rfl V (V.bool true)) ?_
   exact R_nil ⟨t1, t2, t5, t6, rfl, h2, h5, trivial⟩
  intro T H ⟨t1, t2, t5, t6, t7, h2, h5, _⟩
  refine W_seq_seq ?_
  refine W_seq_regc (fun T H => T 1 = (V.sl (List.map cL (l))) ∧ T 2 = (V.mp 2 1 0 0) ∧ T 5 = (V.ms 5 (1 + (lowL (apB o) (l.take k)).length) 0 ((lowL (apB o) (l.take k)).length)) ∧ T 6 = (iV ((k : Nat) : Int)) ∧ T 7 = (V.bool true) ∧ T 8 = (iV (0 : Int)) ∧ H 2 = (⟨1, true, false, 34, 2, [[(iV (o.i)), (V.sl (List.map cT (o.tr)))]]⟩ : Blk) ∧ H 5 = (⟨1 + (lowL (apB o) (l.take k)).length, true, true, 35, 1, (List.map cL (lowL (apB o) (l.take k)))⟩ : Blk) ∧ True) ?_ ?_
  ·
   unfold r30_6
   refine R_mv (@rfl V (iV (0 : Int))) ?_
   exact R_nil ⟨t1, t2, t5, t6, t7, rfl, h2, h5, trivial⟩
  intro T H ⟨t1, t2, t5, t6, t7, t8, h2, h5, _⟩
  refine W_seq_blockg fun Q5 n5 x5 y5 z5 => ?_
  refine W_loop (fun mm T H => ∃ (j : Nat), mm = ((lowL (apB o) (l.take k)).length) - j ∧ T 1 = (V.sl (List.map cL (l))) ∧ T 2 = (V.mp 2 1 0 0) ∧ T 5 = (V.ms 5 (1 + (lowL (apB o) (l.take k)).length) 0 ((lowL (apB o) (l.take k)).length)) ∧ T 6 = (iV ((k : Nat) : Int)) ∧ T 7 = (V.bool (alB (fun j => (apB o) (nth (lowL (apB o) (l.take k)) j) (nth l k)) j)) ∧ T 8 = (iV ((j : Nat) : Int)) ∧ H 2 = (⟨1, true, false, 34, 2, [[(iV (o.i)), (V.sl (List.map cT (o.tr)))]]⟩ : Blk) ∧ H 5 = (⟨1 + (lowL (apB o) (l.take k)).length, true, true, 35, 1, (List.map cL (lowL (apB o) (l.take k)))⟩ : Blk) ∧ (j ≤ (lowL (apB o) (l.take k)).length)) ?_ ?_
  ·
   refine ⟨_, 0, rfl, t1, t2, t5, t6, (Eq.trans t7 (by first | rfl | (rw [Nat.zero_add]; rfl) | (simp only [alB, d1, Nat.zero_add]; simp; done) | (rw [g1, low1, if_pos d2, List.length_append]; rfl) | (rw [g1, low1, if_pos d2]; done) | (rw [g1, low1, if_neg (by simp [d2])]; done))), (Eq.trans t8 (by first | rfl | (rw [Nat.zero_add]; rfl) | (simp only [alB, d1, Nat.zero_add]; simp; done) | (rw [g1, low1, if_pos d2, List.length_append]; rfl) | (rw [g1, low1, if_pos d2]; done) | (rw [g1, low1, if_neg (by simp [d2])]; done))), h2, h5, ?_⟩
   · omega
  intro mm T H ⟨j, hmm, t1, t2, t5, t6, t7, t8, h2, h5, hj⟩ Q6 p16 p26 p36
  unfold b30_1
  refine W_seq_seq ?_
  refine W_seq_regc (fun T H => T 1 = (V.sl (List.map cL (l))) ∧ T 2 = (V.mp 2 1 0 0) ∧ T 5 = (V.ms 5 (1 + (lowL (apB o) (l.take k)).length) 0 ((lowL (apB o) (l.take k)).length)) ∧ T 6 = (iV ((k : Nat) : Int)) ∧ T 7 = (V.bool (alB (fun j => (apB o) (nth (lowL (apB o) (l.take k)) j) (nth l k)) j)) ∧ T 8 = (iV ((j : Nat) : Int)) ∧ T 20 = (V.bool (decide (((j : Nat) : Int) < (((lowL (apB o) (l.take k)).length : Nat) : Int)))) ∧ H 2 = (⟨1, true, false, 34, 2, [[(iV (o.i)), (V.sl (List.map cT (o.tr)))]]⟩ : Blk) ∧ H 5 = (⟨1 + (lowL (apB o) (l.take k)).length, true, true, 35, 1, (List.map cL (lowL (apB o) (l.take k)))⟩ : Blk) ∧ True) ?_ ?_
  ·
   unfold r30_7
   refine R_mv t8 ?_
   refine R_mv t5 ?_
   refine R_len_ms (@rfl V (V.ms 5 (1 + (lowL (apB o) (l.take k)).length) 0 ((lowL (apB o) (l.take k)).length))) h5 (by first | rfl | simp) ?_
   refine R_lss (x := ((j : Nat) : Int)) (y := (((lowL (apB o) (l.take k)).length : Nat) : Int)) (@rfl V (iV ((j : Nat) : Int))) (@rfl V (iV (((lowL (apB o) (l.take k)).length : Nat) : Int))) ?_
   exact R_nil ⟨t1, t2, t5, t6, t7, t8, rfl, h2, h5, trivial⟩
  intro T H ⟨t1, t2, t5, t6, t7, t8, t20, h2, h5, _⟩
  refine W_seq_if (p := ((j : Nat) : Int) < (((lowL (apB o) (l.take k)).length : Nat) : Int)) t20 (fun c7 => ?_) (fun c7 => ?_)
  ·
   have g3 := low_mem (ap := (apB o)) (l := l) (k := k) (j := j) (by omega)
   obtain ⟨i0, i1, i2⟩ := g3
   have g4 : (nth (lowL ((apB o)) (l.take k)) (0 + j)).length ≤ 1048576 := by rw [Nat.zero_add, i2]; exact hw i0 (by omega)
   have g5 := hw k (by omega)
   refine W_seq_skip ?_
   refine W_seq_blockg fun Q8 n8 x8 y8 z8 => ?_
   refine W_seq_regc (fun T H => T 1 = (V.sl (List.map cL (l))) ∧ T 2 = (V.mp 2 1 0 0) ∧ T 5 = (V.ms 5 (1 + (lowL (apB o) (l.take k)).length) 0 ((lowL (apB o) (l.take k)).length)) ∧ T 6 = (iV ((k : Nat) : Int)) ∧ T 7 = (V.bool (alB (fun j => (apB o) (nth (lowL (apB o) (l.take k)) j) (nth l k)) j)) ∧ T 8 = (iV ((j : Nat) : Int)) ∧ T 10 = (V.bool (apB o ((nth (lowL (apB o) (l.take k)) (0 + (j)))) ((nth (l) (k))))) ∧ H 2 = (⟨1, true, false, 34, 2, [[(iV (o.i)), (V.sl (List.map cT (o.tr)))]]⟩ : Blk) ∧ H 5 = (⟨1 + (lowL (apB o) (l.take k)).length, true, true, 35, 1, (List.map cL (lowL (apB o) (l.take k)))⟩ : Blk) ∧ True) ?_ ?_
   ·
    unfold r30_9
    refine R_load_mp (v := (V.agg [(iV (o.i)), (V.sl (List.map cT (o.tr)))])) t2 h2 (by first | rfl | simp [ldB, ldV, Blk.own, V.one]) ?_
    refine R_mv t5 ?_
    refine R_mv t8 ?_
    refine R_idx_ms (i := j) (@rfl V (V.ms 5 (1 + (lowL (apB o) (l.take k)).length) 0 ((lowL (apB o) (l.take k)).length))) (@rfl V (iV ((j : Nat) : Int))) h5 (okB_map (by omega)) rfl (by omega) ?_
    refine R_load_mp (v := (V.sl (List.map cI ((nth (lowL (apB o) (l.take k)) (0 + (j))))))) (@rfl V (V.mp 5 (1 + (lowL (apB o) (l.take k)).length) (0 + (j)) 0)) h5 (ldB_map (by omega) (by first | rfl | simp [ldV, V.one])) ?_
    refine R_mv t1 ?_
    refine R_mv t6 ?_
    refine R_idx (i := k) (@rfl V (V.sl (List.map cL (l)))) (@rfl V (iV ((k : Nat) : Int))) (by omega) rfl ?_
    refine R_load_pp (v := (V.sl (List.map cI ((nth (l) (k)))))) (@rfl V (V.pp [(V.sl (List.map cI ((nth (l) (k)))))])) (by first | rfl | simp [ldV]) ?_
    refine R_call (evcons (@rfl V (V.agg [(iV (o.i)), (V.sl (List.map cT (o.tr)))])) (evcons (@rfl V (V.sl (List.map cI ((nth (lowL (apB o) (l.take k)) (0 + (j))))))) (evcons (@rfl V (V.sl (List.map cI ((nth (l) (k)))))) evnil))) (rapartw_pure o ((nth (lowL (apB o) (l.take k)) (0 + (j)))) ((nth (l) (k))) ho g4 g5) (fzv_mapcanon _ _ (by simp [-List.map_take, -List.map_drop, -List.map_append, -List.map_reverse])) (by simp [-List.map_take, -List.map_drop, -List.map_append, -List.map_reverse]) (Or.inl (by simp [-List.map_take, -List.map_drop, -List.map_append, -List.map_reverse])) ?_
    refine R_mv (@rfl V (V.tup [(V.sl (List.map cI (least (apx o ((nth (lowL (apB o) (l.take k)) (0 + (j)))) ((nth (l) (k))) o.tr)))), (V.bool (apB o ((nth (lowL (apB o) (l.take k)) (0 + (j)))) ((nth (l) (k)))))])) ?_
    refine R_ext (v := (V.sl (List.map cI (least (apx o ((nth (lowL (apB o) (l.take k)) (0 + (j)))) ((nth (l) (k))) o.tr))))) (@rfl V (V.tup [(V.sl (List.map cI (least (apx o ((nth (lowL (apB o) (l.take k)) (0 + (j)))) ((nth (l) (k))) o.tr)))), (V.bool (apB o ((nth (lowL (apB o) (l.take k)) (0 + (j)))) ((nth (l) (k)))))])) rfl ?_
    refine R_ext (v := (V.bool (apB o ((nth (lowL (apB o) (l.take k)) (0 + (j)))) ((nth (l) (k)))))) (@rfl V (V.tup [(V.sl (List.map cI (least (apx o ((nth (lowL (apB o) (l.take k)) (0 + (j)))) ((nth (l) (k))) o.tr)))), (V.bool (apB o ((nth (lowL (apB o) (l.take k)) (0 + (j)))) ((nth (l) (k)))))])) rfl ?_
    refine R_mv (@rfl V (V.sl (List.map cI (least (apx o ((nth (lowL (apB o) (l.take k)) (0 + (j)))) ((nth (l) (k))) o.tr))))) ?_
    refine R_mv (@rfl V (V.bool (apB o ((nth (lowL (apB o) (l.take k)) (0 + (j)))) ((nth (l) (k)))))) ?_
    exact R_nil ⟨t1, t2, t5, t6, t7, t8, rfl, h2, h5, trivial⟩
   intro T H ⟨t1, t2, t5, t6, t7, t8, t10, h2, h5, _⟩
   refine W_seq_regc (fun T H => T 1 = (V.sl (List.map cL (l))) ∧ T 2 = (V.mp 2 1 0 0) ∧ T 5 = (V.ms 5 (1 + (lowL (apB o) (l.take k)).length) 0 ((lowL (apB o) (l.take k)).length)) ∧ T 6 = (iV ((k : Nat) : Int)) ∧ T 7 = (V.bool (alB (fun j => (apB o) (nth (lowL (apB o) (l.take k)) j) (nth l k)) j)) ∧ T 8 = (iV ((j : Nat) : Int)) ∧ T 37 = (V.bool ((!apB o ((nth (lowL (apB o) (l.take k)) (0 + (j)))) ((nth (l) (k)))))) ∧ H 2 = (⟨1, true, false, 34, 2, [[(iV (o.i)), (V.sl (List.map cT (o.tr)))]]⟩ : Blk) ∧ H 5 = (⟨1 + (lowL (apB o) (l.take k)).length, true, true, 35, 1, (List.map cL (lowL (apB o) (l.take k)))⟩ : Blk) ∧ True) ?_ ?_
   ·
    unfold r30_10
    refine R_mv t10 ?_
    refine R_notb (@rfl V (V.bool (apB o ((nth (lowL (apB o) (l.take k)) (0 + (j)))) ((nth (l) (k)))))) ?_
    exact R_nil ⟨t1, t2, t5, t6, t7, t8, rfl, h2, h5, trivial⟩
   intro T H ⟨t1, t2, t5, t6, t7, t8, t37, h2, h5, _⟩
   refine W_ifb t37 (fun c9 => ?_) (fun c9 => ?_)
   ·
    have d1 : apB o (nth (lowL (apB o) (l.take k)) j) (nth l k) = false := by simpa using c9
    refine W_regc (fun T H => T 1 = (V.sl (List.map cL (l))) ∧ T 2 = (V.mp 2 1 0 0) ∧ T 5 = (V.ms 5 (1 + (lowL (apB o) (l.take k)).length) 0 ((lowL (apB o) (l.take k)).length)) ∧ T 6 = (iV ((k : Nat) : Int)) ∧ T 7 = (V.bool false) ∧ T 8 = (iV ((j : Nat) : Int)) ∧ H 2 = (⟨1, true, false, 34, 2, [[(iV (o.i)), (V.sl (List.map cT (o.tr)))]]⟩ : Blk) ∧ H 5 = (⟨1 + (lowL (apB o) (l.take k)).length, true, true, 35, 1, (List.map cL (lowL (apB o) (l.take k)))⟩ : Blk) ∧ True) ?_ ?_
    ·
     unfold r30_11
     refine R_mv (@rfl V (V.bool false)) ?_
     exact R_nil ⟨t1, t2, t5, t6, rfl, t8, h2, h5, trivial⟩
    intro T H ⟨t1, t2, t5, t6, t7, t8, h2, h5, _⟩
    refine n8 _ _ ?_
    refine .done ?_
    refine W_regc (fun T H => T 1 = (V.sl (List.map cL (l))) ∧ T 2 = (V.mp 2 1 0 0) ∧ T 5 = (V.ms 5 (1 + (lowL (apB o) (l.take k)).length) 0 ((lowL (apB o) (l.take k)).length)) ∧ T 6 = (iV ((k : Nat) : Int)) ∧ T 7 = (V.bool false) ∧ T 8 = (iV ((j + 1 : Nat) : Int)) ∧ H 2 = (⟨1, true, false, 34, 2, [[(iV (o.i)), (V.sl (List.map cT (o.tr)))]]⟩ : Blk) ∧ H 5 = (⟨1 + (lowL (apB o) (l.take k)).length, true, true, 35, 1, (List.map cL (lowL (apB o) (l.take k)))⟩ : Blk) ∧ True) ?_ ?_
    ·
     unfold r30_8
     refine R_mv t8 ?_
     refine R_addN (m := j) (n := 1) (@rfl V (iV ((j : Nat) : Int))) (@rfl V (iV ((1 : Nat) : Int))) (by omega) ?_
     refine R_mv (@rfl V (iV ((j + 1 : Nat) : Int))) ?_
     exact R_nil ⟨t1, t2, t5, t6, t7, rfl, h2, h5, trivial⟩
    intro T H ⟨t1, t2, t5, t6, t7, t8, h2, h5, _⟩
    refine p16 _ _ _ ?_ ⟨(j + 1), rfl, t1, t2, t5, t6, (Eq.trans t7 (by first | rfl | (rw [Nat.zero_add]; rfl) | (simp only [alB, d1, Nat.zero_add]; simp; done) | (rw [g1, low1, if_pos d2, List.length_append]; rfl) | (rw [g1, low1, if_pos d2]; done) | (rw [g1, low1, if_neg (by simp [d2])]; done))), (Eq.trans t8 (by first | rfl | (rw [Nat.zero_add]; rfl) | (simp only [alB, d1, Nat.zero_add]; simp; done) | (rw [g1, low1, if_pos d2, List.length_append]; rfl) | (rw [g1, low1, if_pos d2]; done) | (rw [g1, low1, if_neg (by simp [d2])]; done))), h2, h5, ?_⟩
    · omega
    · omega
   have d1 : apB o (nth (lowL (apB o) (l.take k)) j) (nth l k) = true := by simpa using c9
   refine W_skip ?_
   refine n8 _ _ ?_
   refine .done ?_
   refine W_regc (fun T H => T 1 = (V.sl (List.map cL (l))) ∧ T 2 = (V.mp 2 1 0 0) ∧ T 5 = (V.ms 5 (1 + (lowL (apB o) (l.take k)).length) 0 ((lowL (apB o) (l.take k)).length)) ∧ T 6 = (iV ((k : Nat) : Int)) ∧ T 7 = (V.bool (alB (fun j => (apB o) (nth (lowL (apB o) (l.take k)) j) (nth l k)) j)) ∧ T 8 = (iV ((j + 1 : Nat) : Int)) ∧ H 2 = (⟨1, true, false, 34, 2, [[(iV (o.i)), (V.sl (List.map cT (o.tr)))]]⟩ : Blk) ∧ H 5 = (⟨1 + (lowL (apB o) (l.take k)).length, true, true, 35, 1, (List.map cL (lowL (apB o) (l.take k)))⟩ : Blk) ∧ True) ?_ ?_
   ·
    unfold r30_8
    refine R_mv t8 ?_
    refine R_addN (m := j) (n := 1) (@rfl V (iV ((j : Nat) : Int))) (@rfl V (iV ((1 : Nat) : Int))) (by omega) ?_
    refine R_mv (@rfl V (iV ((j + 1 : Nat) : Int))) ?_
    exact R_nil ⟨t1, t2, t5, t6, t7, rfl, h2, h5, trivial⟩
   intro T H ⟨t1, t2, t5, t6, t7, t8, h2, h5, _⟩
   refine p16 _ _ _ ?_ ⟨(j + 1), rfl, t1, t2, t5, t6, (Eq.trans t7 (by first | rfl | (rw [Nat.zero_add]; rfl) | (simp only [alB, d1, Nat.zero_add]; simp; done) | (rw [g1, low1, if_pos d2, List.length_append]; rfl) | (rw [g1, low1, if_pos d2]; done) | (rw [g1, low1, if_neg (by simp [d2])]; done))), (Eq.trans t8 (by first | rfl | (rw [Nat.zero_add]; rfl) | (simp only [alB, d1, Nat.zero_add]; simp; done) | (rw [g1, low1, if_pos d2, List.length_append]; rfl) | (rw [g1, low1, if_pos d2]; done) | (rw [g1, low1, if_neg (by simp [d2])]; done))), h2, h5, ?_⟩
   · omega
   · omega
  refine W_seq_exit ?_
  refine p36 _ _ _ ?_
  refine x5 _ _ ?_
  refine .done ?_
  refine W_seq_regc (fun T H => T 1 = (V.sl (List.map cL (l))) ∧ T 2 = (V.mp 2 1 0 0) ∧ T 5 = (V.ms 5 (1 + (lowL (apB o) (l.take k)).length) 0 ((lowL (apB o) (l.take k)).length)) ∧ T 6 = (iV ((k : Nat) : Int)) ∧ T 38 = (V.bool (alB (fun j => (apB o) (nth (lowL (apB o) (l.take k)) j) (nth l k)) j)) ∧ H 2 = (⟨1, true, false, 34, 2, [[(iV (o.i)), (V.sl (List.map cT (o.tr)))]]⟩ : Blk) ∧ H 5 = (⟨1 + (lowL (apB o) (l.take k)).length, true, true, 35, 1, (List.map cL (lowL (apB o) (l.take k)))⟩ : Blk) ∧ True) ?_ ?_
  ·
   unfold r30_12
   refine R_mv t7 ?_
   exact R_nil ⟨t1, t2, t5, t6, rfl, h2, h5, trivial⟩
  intro T H ⟨t1, t2, t5, t6, t38, h2, h5, _⟩
  refine W_ifb t38 (fun c10 => ?_) (fun c10 => ?_)
  ·
   have e : j = (lowL (apB o) (l.take k)).length := by omega
   subst e
   have d2 := c10
   refine W_regc (fun T H => T 1 = (V.sl (List.map cL (l))) ∧ T 2 = (V.mp 2 1 0 0) ∧ T 5 = (V.ms 5 ((1 + (lowL (apB o) (l.take k)).length) + 1) 0 (((lowL (apB o) (l.take k)).length) + 1)) ∧ T 6 = (iV ((k : Nat) : Int)) ∧ H 2 = (⟨1, true, false, 34, 2, [[(iV (o.i)), (V.sl (List.map cT (o.tr)))]]⟩ : Blk) ∧ H 5 = (⟨(1 + (lowL (apB o) (l.take k)).length) + 1, true, true, 35, 1, (List.map cL (lowL (apB o) (l.take k) ++ [(nth (l) (k))]))⟩ : Blk) ∧ True) ?_ ?_
   ·
    unfold r30_13
    refine R_mv t5 ?_
    refine R_mv t1 ?_
    refine R_mv t6 ?_
    refine R_idx (i := k) (@rfl V (V.sl (List.map cL (l)))) (@rfl V (iV ((k : Nat) : Int))) (by omega) rfl ?_
    refine R_load_pp (v := (V.sl (List.map cI ((nth (l) (k)))))) (@rfl V (V.pp [(V.sl (List.map cI ((nth (l) (k)))))])) (by first | rfl | simp [ldV]) ?_
    refine R_bslice (qs := [(0, (V.sl (List.map cI ((nth (l) (k))))))]) (rows := [[(V.sl (List.map cI ((nth (l) (k)))))]]) (mcons (congrArg (fun v => (0, v)) (@rfl V (V.sl (List.map cI ((nth (l) (k))))))) rfl) rfl ?_
    refine R_append1 (l := (lowL (apB o) (l.take k))) (f := cL) (x := ((nth (l) (k)))) (@rfl V (V.ms 5 (1 + (lowL (apB o) (l.take k)).length) 0 ((lowL (apB o) (l.take k)).length))) h5 (by first | rfl | simp | omega) (@rfl V (V.sl [[(V.sl (List.map cI ((nth (l) (k)))))]])) rfl rfl (by omega) (by omega) ?_
    refine R_mv (@rfl V (V.ms 5 ((1 + (lowL (apB o) (l.take k)).length) + 1) 0 (((lowL (apB o) (l.take k)).length) + 1))) ?_
    exact R_nil ⟨t1, t2, rfl, t6, h2, rfl, trivial⟩
   intro T H ⟨t1, t2, t5, t6, h2, h5, _⟩
   refine n4 _ _ ?_
   refine .done ?_
   refine W_regc (fun T H => T 1 = (V.sl (List.map cL (l))) ∧ T 2 = (V.mp 2 1 0 0) ∧ T 5 = (V.ms 5 ((1 + (lowL (apB o) (l.take k)).length) + 1) 0 (((lowL (apB o) (l.take k)).length) + 1)) ∧ T 6 = (iV ((k + 1 : Nat) : Int)) ∧ H 2 = (⟨1, true, false, 34, 2, [[(iV (o.i)), (V.sl (List.map cT (o.tr)))]]⟩ : Blk) ∧ H 5 = (⟨(1 + (lowL (apB o) (l.take k)).length) + 1, true, true, 35, 1, (List.map cL (lowL (apB o) (l.take k) ++ [(nth (l) (k))]))⟩ : Blk) ∧ True) ?_ ?_
   ·
    unfold r30_4
    refine R_mv t6 ?_
    refine R_addN (m := k) (n := 1) (@rfl V (iV ((k : Nat) : Int))) (@rfl V (iV ((1 : Nat) : Int))) (by omega) ?_
    refine R_mv (@rfl V (iV ((k + 1 : Nat) : Int))) ?_
    exact R_nil ⟨t1, t2, t5, rfl, h2, h5, trivial⟩
   intro T H ⟨t1, t2, t5, t6, h2, h5, _⟩
   refine p12 _ _ _ ?_ ⟨(k + 1), rfl, t1, t2, (Eq.trans t5 (by first | rfl | (rw [Nat.zero_add]; rfl) | (simp only [alB, d1, Nat.zero_add]; simp; done) | (rw [g1, low1, if_pos d2, List.length_append]; rfl) | (rw [g1, low1, if_pos d2]; done) | (rw [g1, low1, if_neg (by simp [d2])]; done))), (Eq.trans t6 (by first | rfl | (rw [Nat.zero_add]; rfl) | (simp only [alB, d1, Nat.zero_add]; simp; done) | (rw [g1, low1, if_pos d2, List.length_append]; rfl) | (rw [g1, low1, if_pos d2]; done) | (rw [g1, low1, if_neg (by simp [d2])]; done))), h2, (Eq.trans h5 (by first | rfl | (rw [Nat.zero_add]; rfl) | (simp only [alB, d1, Nat.zero_add]; simp; done) | (rw [g1, low1, if_pos d2, List.length_append]; rfl) | (rw [g1, low1, if_pos d2]; done) | (rw [g1, low1, if_neg (by simp [d2])]; done))), ?_⟩
   · omega
   · omega
  have e : j = (lowL (apB o) (l.take k)).length := by omega
  subst e
  have d2 := c10
  refine W_skip ?_
  refine n4 _ _ ?_
  refine .done ?_
  refine W_regc (fun T H => T 1 = (V.sl (List.map cL (l))) ∧ T 2 = (V.mp 2 1 0 0) ∧ T 5 = (V.ms 5 (1 + (lowL (apB o) (l.take k)).length) 0 ((lowL (apB o) (l.take k)).length)) ∧ T 6 = (iV ((k + 1 : Nat) : Int)) ∧ H 2 = (⟨1, true, false, 34, 2, [[(iV (o.i)), (V.sl (List.map cT (o.tr)))]]⟩ : Blk) ∧ H 5 = (⟨1 + (lowL (apB o) (l.take k)).length, true, true, 35, 1, (List.map cL (lowL (apB o) (l.take k)))⟩ : Blk) ∧ True) ?_ ?_
  ·
   unfold r30_4
   refine R_mv t6 ?_
   refine R_addN (m := k) (n := 1) (@rfl V (iV ((k : Nat) : Int))) (@rfl V (iV ((1 : Nat) : Int))) (by omega) ?_
   refine R_mv (@rfl V (iV ((k + 1 : Nat) : Int))) ?_
   exact R_nil ⟨t1, t2, t5, rfl, h2, h5, trivial⟩
  intro T H ⟨t1, t2, t5, t6, h2, h5, _⟩
  refine p12 _ _ _ ?_ ⟨(k + 1), rfl, t1, t2, (Eq.trans t5 (by first | rfl | (rw [Nat.zero_add]; rfl) | (simp only [alB, d1, Nat.zero_add]; simp; done) | (rw [g1, low1, if_pos d2, List.length_append]; rfl) | (rw [g1, low1, if_pos d2]; done) | (rw [g1, low1, if_neg (by simp [d2])]; done))), (Eq.trans t6 (by first | rfl | (rw [Nat.zero_add]; rfl) | (simp only [alB, d1, Nat.zero_add]; simp; done) | (rw [g1, low1, if_pos d2, List.length_append]; rfl) | (rw [g1, low1, if_pos d2]; done) | (rw [g1, low1, if_neg (by simp [d2])]; done))), h2, (Eq.trans h5 (by first | rfl | (rw [Nat.zero_add]; rfl) | (simp only [alB, d1, Nat.zero_add]; simp; done) | (rw [g1, low1, if_pos d2, List.length_append]; rfl) | (rw [g1, low1, if_pos d2]; done) | (rw [g1, low1, if_neg (by simp [d2])]; done))), ?_⟩
  · omega
  · omega
 refine W_seq_exit ?_
 refine p32 _ _ _ ?_
 refine x1 _ _ ?_
 refine .done ?_
 refine W_seq_regc (fun T H => T 4 = (iV (((lowL (apB o) (l.take k)).length : Nat) : Int)) ∧ H 2 = (⟨1, true, false, 34, 2, [[(iV (o.i)), (V.sl (List.map cT (o.tr)))]]⟩ : Blk) ∧ H 5 = (⟨1 + (lowL (apB o) (l.take k)).length, true, true, 35, 1, (List.map cL (lowL (apB o) (l.take k)))⟩ : Blk) ∧ True) ?_ ?_
 ·
  unfold r30_14
  refine R_mv t5 ?_
  refine R_len_ms (@rfl V (V.ms 5 (1 + (lowL (apB o) (l.take k)).length) 0 ((lowL (apB o) (l.take k)).length))) h5 (by first | rfl | simp) ?_
  refine R_mv (@rfl V (iV (((lowL (apB o) (l.take k)).length : Nat) : Int))) ?_
  exact R_nil ⟨rfl, h2, h5, trivial⟩
 intro T H ⟨t4, h2, h5, _⟩
 refine W_ret ?_
 refine Ret_1 t4 (fz_int ?_)
 · (have e : k = l.length := (by omega)); subst e; rw [List.take_length]

end Go.Proofs.Ytngkckefanbhgaa

namespace Go.Proofs.Ytngkckefanbhgaa
open Go Go.Proofs

theorem law5_pure (o : Ob) (words : List (List Int)) : PureC Try.prog 5 [(V.agg [(iV (o.i)), (V.sl (List.map cT (o.tr)))]), (V.sl (List.map cL (words)))] (V.bool true) := by
 refine pure_of_Wb true 6 Try.func5 s5_ok (by kernel_rfl) (by simp [s5]) (by simp) (by simp) fun hB => ?_
 simp only [bnd_map, bnd_int, bnd_bool, bnd_str, bnd_agg, bnd_pp, bnd_nil, bnd_cons, implies_true, and_true, true_and] at hB
 unfold s5
 dsimp only
 refine W_seq_regc (fun T H => T 1 = (V.sl (List.map cL (words))) ∧ T 2 = (V.mp 2 1 0 0) ∧ H 2 = (⟨1, true, false, 34, 2, [[(iV (o.i)), (V.sl (List.map cT (o.tr)))]]⟩ : Blk) ∧ True) ?_ ?_
 ·
  unfold r5_0
  refine R_box (i := 2) (n := 0) (m := 2) (cs := [(iV (o.i)), (V.sl (List.map cT (o.tr)))]) rfl (congrArg Blk.ver rfl) (@rfl V (V.agg [(iV (o.i)), (V.sl (List.map cT (o.tr)))])) rfl rfl ?_
  refine R_mv (@rfl V (V.bool false)) ?_
  exact R_nil ⟨rfl, rfl, rfl, trivial⟩
 intro T H ⟨t1, t2, h2, _⟩
 refine W_seq_seq ?_
 refine W_seq_regc (fun T H => T 1 = (V.sl (List.map cL (words))) ∧ T 2 = (V.mp 2 1 0 0) ∧ T 25 = (V.bool (decide ((((ogr o) ∨ ((12 : Int) < ((words.length : Nat) : Int))) ∨ (200 < words.length ∨ fe (longE words) 0 words.length ≠ 0)) ∨ ((oval o) ≠ (0 : Int))))) ∧ H 2 = (⟨1, true, false, 34, 2, [[(iV (o.i)), (V.sl (List.map cT (o.tr)))]]⟩ : Blk) ∧ True) ?_ ?_
 ·
  unfold r5_1
  refine R_load_mp (v := (V.agg [(iV (o.i)), (V.sl (List.map cT (o.tr)))])) t2 h2 (by first | rfl | simp [ldB, ldV, Blk.own, V.one]) ?_
  refine R_call (evcons (@rfl V (V.agg [(iV (o.i)), (V.sl (List.map cT (o.tr)))])) evnil) (great16_pure o) (fzv_mapcanon _ _ (by simp [-List.map_take, -List.map_drop, -List.map_append, -List.map_reverse])) (by simp [-List.map_take, -List.map_drop, -List.map_append, -List.map_reverse]) (Or.inl (by simp [-List.map_take, -List.map_drop, -List.map_append, -List.map_reverse])) ?_
  refine R_mv (@rfl V (V.bool (decide (ogr o)))) ?_
  refine Ops_seg 4 (fun T H => T 1 = (V.sl (List.map cL (words))) ∧ T 2 = (V.mp 2 1 0 0) ∧ T 16 = (V.bool (decide ((ogr o) ∨ ((12 : Int) < ((words.length : Nat) : Int))))) ∧ H 2 = (⟨1, true, false, 34, 2, [[(iV (o.i)), (V.sl (List.map cT (o.tr)))]]⟩ : Blk) ∧ True) ?_ ?_
  ·
   by_cases g1 : ogr o
   ·
    refine G_no (Eq.trans (@rfl V (V.bool (decide (ogr o)))) (bdT g1)) (by decide) ?_
    refine G_no (Eq.trans (@rfl V (V.bool (decide (ogr o)))) (bdT g1)) (by decide) ?_
    refine G_no (Eq.trans (@rfl V (V.bool (decide (ogr o)))) (bdT g1)) (by decide) ?_
    refine R_pickT (Eq.trans (@rfl V (V.bool (decide (ogr o)))) (bdT g1)) (@rfl V (V.bool true)) ?_
    exact ⟨t1, t2, (Eq.trans (@rfl V (V.bool true)) (dec_orT g1)), h2, trivial⟩
   ·
    refine G_yes (Eq.trans (@rfl V (V.bool (decide (ogr o)))) (bdF g1)) ?_
    refine R_mv t1 ?_
    refine G_yes (Eq.trans (@rfl V (V.bool (decide (ogr o)))) (bdF g1)) ?_
    refine R_len (@rfl V (V.sl (List.map cL (words)))) ?_
    refine G_yes (Eq.trans (@rfl V (V.bool (decide (ogr o)))) (bdF g1)) ?_
    refine R_gtr (x := ((words.length : Nat) : Int)) (y := (12 : Int)) (@rfl V (iV ((words.length : Nat) : Int))) (@rfl V (iV (12 : Int))) ?_
    refine R_pickF (Eq.trans (@rfl V (V.bool (decide (ogr o)))) (bdF g1)) (@rfl V (V.bool (decide ((12 : Int) < ((words.length : Nat) : Int))))) ?_
    exact ⟨t1, t2, (Eq.trans (@rfl V (V.bool (decide ((12 : Int) < ((words.length : Nat) : Int))))) (dec_orF g1)), h2, trivial⟩
  intro T H ⟨t1, t2, t16, h2, _⟩
  refine R_mv t16 ?_
  refine Ops_seg 3 (fun T H => T 1 = (V.sl (List.map cL (words))) ∧ T 2 = (V.mp 2 1 0 0) ∧ T 20 = (V.bool (decide (((ogr o) ∨ ((12 : Int) < ((words.length : Nat) : Int))) ∨ (200 < words.length ∨ fe (longE words) 0 words.length ≠ 0)))) ∧ H 2 = (⟨1, true, false, 34, 2, [[(iV (o.i)), (V.sl (List.map cT (o.tr)))]]⟩ : Blk) ∧ True) ?_ ?_
  ·
   by_cases g2 : (ogr o) ∨ ((12 : Int) < ((words.length : Nat) : Int))
   ·
    refine G_no (Eq.trans (@rfl V (V.bool (decide ((ogr o) ∨ ((12 : Int) < ((words.length : Nat) : Int)))))) (bdT g2)) (by decide) ?_
    refine G_no (Eq.trans (@rfl V (V.bool (decide ((ogr o) ∨ ((12 : Int) < ((words.length : Nat) : Int)))))) (bdT g2)) (by decide) ?_
    refine R_pickT (Eq.trans (@rfl V (V.bool (decide ((ogr o) ∨ ((12 : Int) < ((words.length : Nat) : Int)))))) (bdT g2)) (@rfl V (V.bool true)) ?_
    exact ⟨t1, t2, (Eq.trans (@rfl V (V.bool true)) (dec_orT g2)), h2, trivial⟩
   ·
    refine G_yes (Eq.trans (@rfl V (V.bool (decide ((ogr o) ∨ ((12 : Int) < ((words.length : Nat) : Int)))))) (bdF g2)) ?_
    refine R_mv t1 ?_
    refine G_yes (Eq.trans (@rfl V (V.bool (decide ((ogr o) ∨ ((12 : Int) < ((words.length : Nat) : Int)))))) (bdF g2)) ?_
    refine R_call (evcons (@rfl V (V.sl (List.map cL (words)))) evnil) (long_pure words) (fzv_mapcanon _ _ (by simp [-List.map_take, -List.map_drop, -List.map_append, -List.map_reverse])) (by simp [-List.map_take, -List.map_drop, -List.map_append, -List.map_reverse]) (Or.inl (by simp [-List.map_take, -List.map_drop, -List.map_append, -List.map_reverse])) ?_
    refine R_pickF (Eq.trans (@rfl V (V.bool (decide ((ogr o) ∨ ((12 : Int) < ((words.length : Nat) : Int)))))) (bdF g2)) (@rfl V (V.bool (decide (200 < words.length ∨ fe (longE words) 0 words.length ≠ 0)))) ?_
    exact ⟨t1, t2, (Eq.trans (@rfl V (V.bool (decide (200 < words.length ∨ fe (longE words) 0 words.length ≠ 0)))) (dec_orF g2)), h2, trivial⟩
  intro T H ⟨t1, t2, t20, h2, _⟩
  refine R_mv t20 ?_
  refine Ops_seg 4 (fun T H => T 1 = (V.sl (List.map cL (words))) ∧ T 2 = (V.mp 2 1 0 0) ∧ T 25 = (V.bool (decide ((((ogr o) ∨ ((12 : Int) < ((words.length : Nat) : Int))) ∨ (200 < words.length ∨ fe (longE words) 0 words.length ≠ 0)) ∨ ((oval o) ≠ (0 : Int))))) ∧ H 2 = (⟨1, true, false, 34, 2, [[(iV (o.i)), (V.sl (List.map cT (o.tr)))]]⟩ : Blk) ∧ True) ?_ ?_
  ·
   by_cases g3 : ((ogr o) ∨ ((12 : Int) < ((words.length : Nat) : Int))) ∨ (200 < words.length ∨ fe (longE words) 0 words.length ≠ 0)
   ·
    refine G_no (Eq.trans (@rfl V (V.bool (decide (((ogr o) ∨ ((12 : Int) < ((words.length : Nat) : Int))) ∨ (200 < words.length ∨ fe (longE words) 0 words.length ≠ 0))))) (bdT g3)) (by decide) ?_
    refine G_no (Eq.trans (@rfl V (V.bool (decide (((ogr o) ∨ ((12 : Int) < ((words.length : Nat) : Int))) ∨ (200 < words.length ∨ fe (longE words) 0 words.length ≠ 0))))) (bdT g3)) (by decide) ?_
    refine G_no (Eq.trans (@rfl V (V.bool (decide (((ogr o) ∨ ((12 : Int) < ((words.length : Nat) : Int))) ∨ (200 < words.length ∨ fe (longE words) 0 words.length ≠ 0))))) (bdT g3)) (by decide) ?_
    refine R_pickT (Eq.trans (@rfl V (V.bool (decide (((ogr o) ∨ ((12 : Int) < ((words.length : Nat) : Int))) ∨ (200 < words.length ∨ fe (longE words) 0 words.length ≠ 0))))) (bdT g3)) (@rfl V (V.bool true)) ?_
    exact ⟨t1, t2, (Eq.trans (@rfl V (V.bool true)) (dec_orT g3)), h2, trivial⟩
   ·
    refine G_yes (Eq.trans (@rfl V (V.bool (decide (((ogr o) ∨ ((12 : Int) < ((words.length : Nat) : Int))) ∨ (200 < words.length ∨ fe (longE words) 0 words.length ≠ 0))))) (bdF g3)) ?_
    refine R_load_mp (v := (V.agg [(iV (o.i)), (V.sl (List.map cT (o.tr)))])) t2 h2 (by first | rfl | simp [ldB, ldV, Blk.own, V.one]) ?_
    refine G_yes (Eq.trans (@rfl V (V.bool (decide (((ogr o) ∨ ((12 : Int) < ((words.length : Nat) : Int))) ∨ (200 < words.length ∨ fe (longE words) 0 words.length ≠ 0))))) (bdF g3)) ?_
    refine R_call (evcons (@rfl V (V.agg [(iV (o.i)), (V.sl (List.map cT (o.tr)))])) evnil) (roval_pure o) (fzv_mapcanon _ _ (by simp [-List.map_take, -List.map_drop, -List.map_append, -List.map_reverse])) (by simp [-List.map_take, -List.map_drop, -List.map_append, -List.map_reverse]) (Or.inl (by simp [-List.map_take, -List.map_drop, -List.map_append, -List.map_reverse])) ?_
    refine G_yes (Eq.trans (@rfl V (V.bool (decide (((ogr o) ∨ ((12 : Int) < ((words.length : Nat) : Int))) ∨ (200 < words.length ∨ fe (longE words) 0 words.length ≠ 0))))) (bdF g3)) ?_
    refine R_neq (x := (oval o)) (y := (0 : Int)) (@rfl V (iV (oval o))) (@rfl V (iV (0 : Int))) ?_
    refine R_pickF (Eq.trans (@rfl V (V.bool (decide (((ogr o) ∨ ((12 : Int) < ((words.length : Nat) : Int))) ∨ (200 < words.length ∨ fe (longE words) 0 words.length ≠ 0))))) (bdF g3)) (@rfl V (V.bool (decide ((oval o) ≠ (0 : Int))))) ?_
    exact ⟨t1, t2, (Eq.trans (@rfl V (V.bool (decide ((oval o) ≠ (0 : Int))))) (dec_orF g3)), h2, trivial⟩
  intro T H ⟨t1, t2, t25, h2, _⟩
  exact R_nil ⟨t1, t2, t25, h2, trivial⟩
 intro T H ⟨t1, t2, t25, h2, _⟩
 refine W_seq_if (p := (((ogr o) ∨ ((12 : Int) < ((words.length : Nat) : Int))) ∨ (200 < words.length ∨ fe (longE words) 0 words.length ≠ 0)) ∨ ((oval o) ≠ (0 : Int))) t25 (fun c4 => ?_) (fun c4 => ?_)
 ·
  refine W_seq_seq ?_
  refine W_seq_regc (fun T H => T 4 = (V.bool true) ∧ H 2 = (⟨1, true, false, 34, 2, [[(iV (o.i)), (V.sl (List.map cT (o.tr)))]]⟩ : Blk) ∧ True) ?_ ?_
  ·
   unfold r5_2
   refine R_call evnil (aw_learnerlaw22_awake_pure) (fzv_mapcanon _ _ (by simp [-List.map_take, -List.map_drop, -List.map_append, -List.map_reverse])) (by simp [-List.map_take, -List.map_drop, -List.map_append, -List.map_reverse]) (Or.inl (by simp [-List.map_take, -List.map_drop, -List.map_append, -List.map_reverse])) ?_
   refine R_mv (@rfl V (V.bool true)) ?_
   exact R_nil ⟨rfl, h2, trivial⟩
  intro T H ⟨t4, h2, _⟩
  refine W_seq_ret ?_
  refine Ret_1 t4 (fz_canon (by simp) rfl)
 simp only [not_or, Decidable.not_not] at c4
 have ho : oval o = 0 := by omega
 have hl : words.length ≤ 12 := by omega
 have hw := long_ok (l := words) (by omega)
 refine W_seq_skip ?_
 refine W_seq_seq ?_
 refine W_seq_regc (fun T H => T 1 = (V.sl (List.map cL (words))) ∧ T 2 = (V.mp 2 1 0 0) ∧ T 5 = (iV (1 : Int)) ∧ H 2 = (⟨1, true, false, 34, 2, [[(iV (o.i)), (V.sl (List.map cT (o.tr)))]]⟩ : Blk) ∧ True) ?_ ?_
 ·
  unfold r5_3
  refine R_mv (@rfl V (iV (1 : Int))) ?_
  exact R_nil ⟨t1, t2, rfl, h2, trivial⟩
 intro T H ⟨t1, t2, t5, h2, _⟩
 refine W_seq_blockg fun Q5 n5 x5 y5 z5 => ?_
 refine W_loop (fun mm T H => ∃ (k : Nat), mm = words.length - k ∧ T 1 = (V.sl (List.map cL (words))) ∧ T 2 = (V.mp 2 1 0 0) ∧ T 5 = (iV ((k : Nat) : Int)) ∧ H 2 = (⟨1, true, false, 34, 2, [[(iV (o.i)), (V.sl (List.map cT (o.tr)))]]⟩ : Blk) ∧ (1 ≤ k)) ?_ ?_
 ·
  refine ⟨_, 1, rfl, t1, t2, (Eq.trans t5 (by first | rfl | simp)), h2, ?_⟩
  · omega
 intro mm T H ⟨k, hmm, t1, t2, t5, h2, h1⟩ Q6 p16 p26 p36
 unfold b5_0
 refine W_seq_seq ?_
 refine W_seq_regc (fun T H => T 1 = (V.sl (List.map cL (words))) ∧ T 2 = (V.mp 2 1 0 0) ∧ T 5 = (iV ((k : Nat) : Int)) ∧ T 30 = (V.bool (decide (((k : Nat) : Int) < ((words.length : Nat) : Int)))) ∧ H 2 = (⟨1, true, false, 34, 2, [[(iV (o.i)), (V.sl (List.map cT (o.tr)))]]⟩ : Blk) ∧ True) ?_ ?_
 ·
  unfold r5_4
  refine R_mv t5 ?_
  refine R_mv t1 ?_
  refine R_len (@rfl V (V.sl (List.map cL (words)))) ?_
  refine R_lss (x := ((k : Nat) : Int)) (y := ((words.length : Nat) : Int)) (@rfl V (iV ((k : Nat) : Int))) (@rfl V (iV ((words.length : Nat) : Int))) ?_
  exact R_nil ⟨t1, t2, t5, rfl, h2, trivial⟩
 intro T H ⟨t1, t2, t5, t30, h2, _⟩
 refine W_seq_if (p := ((k : Nat) : Int) < ((words.length : Nat) : Int)) t30 (fun c7 => ?_) (fun c7 => ?_)
 ·
  refine W_seq_skip ?_
  refine W_seq_blockg fun Q8 n8 x8 y8 z8 => ?_
  refine W_seq_regc (fun T H => T 1 = (V.sl (List.map cL (words))) ∧ T 2 = (V.mp 2 1 0 0) ∧ T 5 = (iV ((k : Nat) : Int)) ∧ T 6 = (V.sl (List.map cI (least (fdl (bhd o.tr ((nth (words) (((k : Nat) : Int) - (1 : Int)).toNat))) (bhd o.tr ((nth (words) (k)))))))) ∧ T 7 = (V.bool (decide (fdl (bhd o.tr ((nth (words) (((k : Nat) : Int) - (1 : Int)).toNat))) (bhd o.tr ((nth (words) (k)))) ≠ []))) ∧ H 2 = (⟨1, true, false, 34, 2, [[(iV (o.i)), (V.sl (List.map cT (o.tr)))]]⟩ : Blk) ∧ True) ?_ ?_
  ·
   unfold r5_6
   refine R_load_mp (v := (V.agg [(iV (o.i)), (V.sl (List.map cT (o.tr)))])) t2 h2 (by first | rfl | simp [ldB, ldV, Blk.own, V.one]) ?_
   refine R_mv t1 ?_
   refine R_mv t5 ?_
   refine R_sub (x := ((k : Nat) : Int)) (y := (1 : Int)) (@rfl V (iV ((k : Nat) : Int))) (@rfl V (iV (1 : Int))) (by omega) (by omega) ?_
   refine R_idxI (i := (((k : Nat) : Int) - (1 : Int))) (@rfl V (V.sl (List.map cL (words)))) (@rfl V (iV (((k : Nat) : Int) - (1 : Int)))) (by omega) (by omega) rfl ?_
   refine R_load_pp (v := (V.sl (List.map cI ((nth (words) (((k : Nat) : Int) - (1 : Int)).toNat))))) (@rfl V (V.pp [(V.sl (List.map cI ((nth (words) (((k : Nat) : Int) - (1 : Int)).toNat))))])) (by first | rfl | simp [ldV]) ?_
   refine R_mv t1 ?_
   refine R_mv t5 ?_
   refine R_idx (i := k) (@rfl V (V.sl (List.map cL (words)))) (@rfl V (iV ((k : Nat) : Int))) (by omega) rfl ?_
   refine R_load_pp (v := (V.sl (List.map cI ((nth (words) (k)))))) (@rfl V (V.pp [(V.sl (List.map cI ((nth (words) (k)))))])) (by first | rfl | simp [ldV]) ?_
   refine R_call (evcons (@rfl V (V.agg [(iV (o.i)), (V.sl (List.map cT (o.tr)))])) (evcons (@rfl V (V.sl (List.map cI ((nth (words) (((k : Nat) : Int) - (1 : Int)).toNat))))) (evcons (@rfl V (V.sl (List.map cI ((nth (words) (k)))))) evnil))) (hapart_pure o ((nth (words) (((k : Nat) : Int) - (1 : Int)).toNat)) ((nth (words) (k))) ho (Nat.le_trans (hw _ (by omega)) (by decide)) (Nat.le_trans (hw _ (by omega)) (by decide))) (fzv_mapcanon _ _ (by simp [-List.map_take, -List.map_drop, -List.map_append, -List.map_reverse])) (by simp [-List.map_take, -List.map_drop, -List.map_append, -List.map_reverse]) (Or.inl (by simp [-List.map_take, -List.map_drop, -List.map_append, -List.map_reverse])) ?_
   refine R_mv (@rfl V (V.tup [(V.sl (List.map cI (least (fdl (bhd o.tr ((nth (words) (((k : Nat) : Int) - (1 : Int)).toNat))) (bhd o.tr ((nth (words) (k)))))))), (V.bool (decide (fdl (bhd o.tr ((nth (words) (((k : Nat) : Int) - (1 : Int)).toNat))) (bhd o.tr ((nth (words) (k)))) ≠ [])))])) ?_
   refine R_ext (v := (V.sl (List.map cI (least (fdl (bhd o.tr ((nth (words) (((k : Nat) : Int) - (1 : Int)).toNat))) (bhd o.tr ((nth (words) (k))))))))) (@rfl V (V.tup [(V.sl (List.map cI (least (fdl (bhd o.tr ((nth (words) (((k : Nat) : Int) - (1 : Int)).toNat))) (bhd o.tr ((nth (words) (k)))))))), (V.bool (decide (fdl (bhd o.tr ((nth (words) (((k : Nat) : Int) - (1 : Int)).toNat))) (bhd o.tr ((nth (words) (k)))) ≠ [])))])) rfl ?_
   refine R_ext (v := (V.bool (decide (fdl (bhd o.tr ((nth (words) (((k : Nat) : Int) - (1 : Int)).toNat))) (bhd o.tr ((nth (words) (k)))) ≠ [])))) (@rfl V (V.tup [(V.sl (List.map cI (least (fdl (bhd o.tr ((nth (words) (((k : Nat) : Int) - (1 : Int)).toNat))) (bhd o.tr ((nth (words) (k)))))))), (V.bool (decide (fdl (bhd o.tr ((nth (words) (((k : Nat) : Int) - (1 : Int)).toNat))) (bhd o.tr ((nth (words) (k)))) ≠ [])))])) rfl ?_
   refine R_mv (@rfl V (V.sl (List.map cI (least (fdl (bhd o.tr ((nth (words) (((k : Nat) : Int) - (1 : Int)).toNat))) (bhd o.tr ((nth (words) (k))))))))) ?_
   refine R_mv (@rfl V (V.bool (decide (fdl (bhd o.tr ((nth (words) (((k : Nat) : Int) - (1 : Int)).toNat))) (bhd o.tr ((nth (words) (k)))) ≠ [])))) ?_
   exact R_nil ⟨t1, t2, t5, rfl, rfl, h2, trivial⟩
  intro T H ⟨t1, t2, t5, t6, t7, h2, _⟩
  refine W_seq_regc (fun T H => T 1 = (V.sl (List.map cL (words))) ∧ T 2 = (V.mp 2 1 0 0) ∧ T 5 = (iV ((k : Nat) : Int)) ∧ T 6 = (V.sl (List.map cI (least (fdl (bhd o.tr ((nth (words) (((k : Nat) : Int) - (1 : Int)).toNat))) (bhd o.tr ((nth (words) (k)))))))) ∧ T 7 = (V.bool (decide (fdl (bhd o.tr ((nth (words) (((k : Nat) : Int) - (1 : Int)).toNat))) (bhd o.tr ((nth (words) (k)))) ≠ []))) ∧ T 8 = (V.sl (List.map cI (least (apx o ((nth (words) (((k : Nat) : Int) - (1 : Int)).toNat)) ((nth (words) (k))) o.tr)))) ∧ T 9 = (V.bool (apB o ((nth (words) (((k : Nat) : Int) - (1 : Int)).toNat)) ((nth (words) (k))))) ∧ H 2 = (⟨1, true, false, 34, 2, [[(iV (o.i)), (V.sl (List.map cT (o.tr)))]]⟩ : Blk) ∧ True) ?_ ?_
  ·
   unfold r5_7
   refine R_load_mp (v := (V.agg [(iV (o.i)), (V.sl (List.map cT (o.tr)))])) t2 h2 (by first | rfl | simp [ldB, ldV, Blk.own, V.one]) ?_
   refine R_mv t1 ?_
   refine R_mv t5 ?_
   refine R_sub (x := ((k : Nat) : Int)) (y := (1 : Int)) (@rfl V (iV ((k : Nat) : Int))) (@rfl V (iV (1 : Int))) (by omega) (by omega) ?_
   refine R_idxI (i := (((k : Nat) : Int) - (1 : Int))) (@rfl V (V.sl (List.map cL (words)))) (@rfl V (iV (((k : Nat) : Int) - (1 : Int)))) (by omega) (by omega) rfl ?_
   refine R_load_pp (v := (V.sl (List.map cI ((nth (words) (((k : Nat) : Int) - (1 : Int)).toNat))))) (@rfl V (V.pp [(V.sl (List.map cI ((nth (words) (((k : Nat) : Int) - (1 : Int)).toNat))))])) (by first | rfl | simp [ldV]) ?_
   refine R_mv t1 ?_
   refine R_mv t5 ?_
   refine R_idx (i := k) (@rfl V (V.sl (List.map cL (words)))) (@rfl V (iV ((k : Nat) : Int))) (by omega) rfl ?_
   refine R_load_pp (v := (V.sl (List.map cI ((nth (words) (k)))))) (@rfl V (V.pp [(V.sl (List.map cI ((nth (words) (k)))))])) (by first | rfl | simp [ldV]) ?_
   refine R_call (evcons (@rfl V (V.agg [(iV (o.i)), (V.sl (List.map cT (o.tr)))])) (evcons (@rfl V (V.sl (List.map cI ((nth (words) (((k : Nat) : Int) - (1 : Int)).toNat))))) (evcons (@rfl V (V.sl (List.map cI ((nth (words) (k)))))) evnil))) (rapartw_pure o ((nth (words) (((k : Nat) : Int) - (1 : Int)).toNat)) ((nth (words) (k))) ho (Nat.le_trans (hw _ (by omega)) (by decide)) (Nat.le_trans (hw _ (by omega)) (by decide))) (fzv_mapcanon _ _ (by simp [-List.map_take, -List.map_drop, -List.map_append, -List.map_reverse])) (by simp [-List.map_take, -List.map_drop, -List.map_append, -List.map_reverse]) (Or.inl (by simp [-List.map_take, -List.map_drop, -List.map_append, -List.map_reverse])) ?_
   refine R_mv (@rfl V (V.tup [(V.sl (List.map cI (least (apx o ((nth (words) (((k : Nat) : Int) - (1 : Int)).toNat)) ((nth (words) (k))) o.tr)))), (V.bool (apB o ((nth (words) (((k : Nat) : Int) - (1 : Int)).toNat)) ((nth (words) (k)))))])) ?_
   refine R_ext (v := (V.sl (List.map cI (least (apx o ((nth (words) (((k : Nat) : Int) - (1 : Int)).toNat)) ((nth (words) (k))) o.tr))))) (@rfl V (V.tup [(V.sl (List.map cI (least (apx o ((nth (words) (((k : Nat) : Int) - (1 : Int)).toNat)) ((nth (words) (k))) o.tr)))), (V.bool (apB o ((nth (words) (((k : Nat) : Int) - (1 : Int)).toNat)) ((nth (words) (k)))))])) rfl ?_
   refine R_ext (v := (V.bool (apB o ((nth (words) (((k : Nat) : Int) - (1 : Int)).toNat)) ((nth (words) (k)))))) (@rfl V (V.tup [(V.sl (List.map cI (least (apx o ((nth (words) (((k : Nat) : Int) - (1 : Int)).toNat)) ((nth (words) (k))) o.tr)))), (V.bool (apB o ((nth (words) (((k : Nat) : Int) - (1 : Int)).toNat)) ((nth (words) (k)))))])) rfl ?_
   refine R_mv (@rfl V (V.sl (List.map cI (least (apx o ((nth (words) (((k : Nat) : Int) - (1 : Int)).toNat)) ((nth (words) (k))) o.tr))))) ?_
   refine R_mv (@rfl V (V.bool (apB o ((nth (words) (((k : Nat) : Int) - (1 : Int)).toNat)) ((nth (words) (k)))))) ?_
   exact R_nil ⟨t1, t2, t5, t6, t7, rfl, rfl, h2, trivial⟩
  intro T H ⟨t1, t2, t5, t6, t7, t8, t9, h2, _⟩
  refine W_seq_regc (fun T H => T 1 = (V.sl (List.map cL (words))) ∧ T 2 = (V.mp 2 1 0 0) ∧ T 5 = (iV ((k : Nat) : Int)) ∧ T 69 = (V.bool ((decide (¬((least (fdl (bhd o.tr ((nth (words) (((k : Nat) : Int) - (1 : Int)).toNat))) (bhd o.tr ((nth (words) (k)))))) = (least (apx o ((nth (words) (((k : Nat) : Int) - (1 : Int)).toNat)) ((nth (words) (k))) o.tr)))) || ((decide (fdl (bhd o.tr ((nth (words) (((k : Nat) : Int) - (1 : Int)).toNat))) (bhd o.tr ((nth (words) (k)))) ≠ []) != (apB o ((nth (words) (((k : Nat) : Int) - (1 : Int)).toNat)) ((nth (words) (k))))))))) ∧ H 2 = (⟨1, true, false, 34, 2, [[(iV (o.i)), (V.sl (List.map cT (o.tr)))]]⟩ : Blk) ∧ True) ?_ ?_
  ·
   unfold r5_8
   refine R_mv t6 ?_
   refine R_mv t8 ?_
   refine R_call (evcons (@rfl V (V.sl (List.map cI (least (fdl (bhd o.tr ((nth (words) (((k : Nat) : Int) - (1 : Int)).toNat))) (bhd o.tr ((nth (words) (k))))))))) (evcons (@rfl V (V.sl (List.map cI (least (apx o ((nth (words) (((k : Nat) : Int) - (1 : Int)).toNat)) ((nth (words) (k))) o.tr))))) evnil)) (ints_pure (least (fdl (bhd o.tr ((nth (words) (((k : Nat) : Int) - (1 : Int)).toNat))) (bhd o.tr ((nth (words) (k)))))) (least (apx o ((nth (words) (((k : Nat) : Int) - (1 : Int)).toNat)) ((nth (words) (k))) o.tr))) (fzv_mapcanon _ _ (by simp [-List.map_take, -List.map_drop, -List.map_append, -List.map_reverse])) (by simp [-List.map_take, -List.map_drop, -List.map_append, -List.map_reverse]) (Or.inl (by simp [-List.map_take, -List.map_drop, -List.map_append, -List.map_reverse])) ?_
   refine R_not (p := (least (fdl (bhd o.tr ((nth (words) (((k : Nat) : Int) - (1 : Int)).toNat))) (bhd o.tr ((nth (words) (k)))))) = (least (apx o ((nth (words) (((k : Nat) : Int) - (1 : Int)).toNat)) ((nth (words) (k))) o.tr))) (@rfl V (V.bool (decide ((least (fdl (bhd o.tr ((nth (words) (((k : Nat) : Int) - (1 : Int)).toNat))) (bhd o.tr ((nth (words) (k)))))) = (least (apx o ((nth (words) (((k : Nat) : Int) - (1 : Int)).toNat)) ((nth (words) (k))) o.tr)))))) ?_
   refine R_mv (@rfl V (V.bool (decide (¬((least (fdl (bhd o.tr ((nth (words) (((k : Nat) : Int) - (1 : Int)).toNat))) (bhd o.tr ((nth (words) (k)))))) = (least (apx o ((nth (words) (((k : Nat) : Int) - (1 : Int)).toNat)) ((nth (words) (k))) o.tr))))))) ?_
   refine Ops_seg 4 (fun T H => T 1 = (V.sl (List.map cL (words))) ∧ T 2 = (V.mp 2 1 0 0) ∧ T 5 = (iV ((k : Nat) : Int)) ∧ T 69 = (V.bool ((decide (¬((least (fdl (bhd o.tr ((nth (words) (((k : Nat) : Int) - (1 : Int)).toNat))) (bhd o.tr ((nth (words) (k)))))) = (least (apx o ((nth (words) (((k : Nat) : Int) - (1 : Int)).toNat)) ((nth (words) (k))) o.tr)))) || ((decide (fdl (bhd o.tr ((nth (words) (((k : Nat) : Int) - (1 : Int)).toNat))) (bhd o.tr ((nth (words) (k)))) ≠ []) != (apB o ((nth (words) (((k : Nat) : Int) - (1 : Int)).toNat)) ((nth (words) (k))))))))) ∧ H 2 = (⟨1, true, false, 34, 2, [[(iV (o.i)), (V.sl (List.map cT (o.tr)))]]⟩ : Blk) ∧ True) ?_ ?_
   ·
    by_cases g9 : ¬((least (fdl (bhd o.tr ((nth (words) (((k : Nat) : Int) - (1 : Int)).toNat))) (bhd o.tr ((nth (words) (k)))))) = (least (apx o ((nth (words) (((k : Nat) : Int) - (1 : Int)).toNat)) ((nth (words) (k))) o.tr)))
    ·
     refine G_no (Eq.trans (@rfl V (V.bool (decide (¬((least (fdl (bhd o.tr ((nth (words) (((k : Nat) : Int) - (1 : Int)).toNat))) (bhd o.tr ((nth (words) (k)))))) = (least (apx o ((nth (words) (((k : Nat) : Int) - (1 : Int)).toNat)) ((nth (words) (k))) o.tr))))))) (bdT g9)) (by decide) ?_
     refine G_no (Eq.trans (@rfl V (V.bool (decide (¬((least (fdl (bhd o.tr ((nth (words) (((k : Nat) : Int) - (1 : Int)).toNat))) (bhd o.tr ((nth (words) (k)))))) = (least (apx o ((nth (words) (((k : Nat) : Int) - (1 : Int)).toNat)) ((nth (words) (k))) o.tr))))))) (bdT g9)) (by decide) ?_
     refine G_no (Eq.trans (@rfl V (V.bool (decide (¬((least (fdl (bhd o.tr ((nth (words) (((k : Nat) : Int) - (1 : Int)).toNat))) (bhd o.tr ((nth (words) (k)))))) = (least (apx o ((nth (words) (((k : Nat) : Int) - (1 : Int)).toNat)) ((nth (words) (k))) o.tr))))))) (bdT g9)) (by decide) ?_
     refine R_pickT (Eq.trans (@rfl V (V.bool (decide (¬((least (fdl (bhd o.tr ((nth (words) (((k : Nat) : Int) - (1 : Int)).toNat))) (bhd o.tr ((nth (words) (k)))))) = (least (apx o ((nth (words) (((k : Nat) : Int) - (1 : Int)).toNat)) ((nth (words) (k))) o.tr))))))) (bdT g9)) (@rfl V (V.bool true)) ?_
     exact ⟨t1, t2, t5, (Eq.trans (@rfl V (V.bool true)) (dborT g9)), h2, trivial⟩
    ·
     refine G_yes (Eq.trans (@rfl V (V.bool (decide (¬((least (fdl (bhd o.tr ((nth (words) (((k : Nat) : Int) - (1 : Int)).toNat))) (bhd o.tr ((nth (words) (k)))))) = (least (apx o ((nth (words) (((k : Nat) : Int) - (1 : Int)).toNat)) ((nth (words) (k))) o.tr))))))) (bdF g9)) ?_
     refine R_mv t7 ?_
     refine G_yes (Eq.trans (@rfl V (V.bool (decide (¬((least (fdl (bhd o.tr ((nth (words) (((k : Nat) : Int) - (1 : Int)).toNat))) (bhd o.tr ((nth (words) (k)))))) = (least (apx o ((nth (words) (((k : Nat) : Int) - (1 : Int)).toNat)) ((nth (words) (k))) o.tr))))))) (bdF g9)) ?_
     refine R_mv t9 ?_
     refine G_yes (Eq.trans (@rfl V (V.bool (decide (¬((least (fdl (bhd o.tr ((nth (words) (((k : Nat) : Int) - (1 : Int)).toNat))) (bhd o.tr ((nth (words) (k)))))) = (least (apx o ((nth (words) (((k : Nat) : Int) - (1 : Int)).toNat)) ((nth (words) (k))) o.tr))))))) (bdF g9)) ?_
     refine R_bneq (x := decide (fdl (bhd o.tr ((nth (words) (((k : Nat) : Int) - (1 : Int)).toNat))) (bhd o.tr ((nth (words) (k)))) ≠ [])) (y := (apB o ((nth (words) (((k : Nat) : Int) - (1 : Int)).toNat)) ((nth (words) (k))))) (@rfl V (V.bool (decide (fdl (bhd o.tr ((nth (words) (((k : Nat) : Int) - (1 : Int)).toNat))) (bhd o.tr ((nth (words) (k)))) ≠ [])))) (@rfl V (V.bool (apB o ((nth (words) (((k : Nat) : Int) - (1 : Int)).toNat)) ((nth (words) (k)))))) ?_
     refine R_pickF (Eq.trans (@rfl V (V.bool (decide (¬((least (fdl (bhd o.tr ((nth (words) (((k : Nat) : Int) - (1 : Int)).toNat))) (bhd o.tr ((nth (words) (k)))))) = (least (apx o ((nth (words) (((k : Nat) : Int) - (1 : Int)).toNat)) ((nth (words) (k))) o.tr))))))) (bdF g9)) (@rfl V (V.bool ((decide (fdl (bhd o.tr ((nth (words) (((k : Nat) : Int) - (1 : Int)).toNat))) (bhd o.tr ((nth (words) (k)))) ≠ []) != (apB o ((nth (words) (((k : Nat) : Int) - (1 : Int)).toNat)) ((nth (words) (k)))))))) ?_
     exact ⟨t1, t2, t5, (Eq.trans (@rfl V (V.bool ((decide (fdl (bhd o.tr ((nth (words) (((k : Nat) : Int) - (1 : Int)).toNat))) (bhd o.tr ((nth (words) (k)))) ≠ []) != (apB o ((nth (words) (((k : Nat) : Int) - (1 : Int)).toNat)) ((nth (words) (k)))))))) (dborF g9)), h2, trivial⟩
   intro T H ⟨t1, t2, t5, t69, h2, _⟩
   exact R_nil ⟨t1, t2, t5, t69, h2, trivial⟩
  intro T H ⟨t1, t2, t5, t69, h2, _⟩
  refine W_ifb t69 (fun c10 => ?_) (fun c10 => ?_)
  · exfalso; have E := apart_eq (oval_ok ho) (nth words (((k : Nat) : Int) - (1 : Int)).toNat) (nth words k); rw [E.1] at c10; simp only [apB, decide_eq_decide.2 E.2] at c10; simp at c10
  refine W_skip ?_
  refine n8 _ _ ?_
  refine .done ?_
  refine W_regc (fun T H => T 1 = (V.sl (List.map cL (words))) ∧ T 2 = (V.mp 2 1 0 0) ∧ T 5 = (iV ((k + 1 : Nat) : Int)) ∧ H 2 = (⟨1, true, false, 34, 2, [[(iV (o.i)), (V.sl (List.map cT (o.tr)))]]⟩ : Blk) ∧ True) ?_ ?_
  ·
   unfold r5_5
   refine R_mv t5 ?_
   refine R_addN (m := k) (n := 1) (@rfl V (iV ((k : Nat) : Int))) (@rfl V (iV ((1 : Nat) : Int))) (by omega) ?_
   refine R_mv (@rfl V (iV ((k + 1 : Nat) : Int))) ?_
   exact R_nil ⟨t1, t2, rfl, h2, trivial⟩
  intro T H ⟨t1, t2, t5, h2, _⟩
  refine p16 _ _ _ ?_ ⟨(k + 1), rfl, t1, t2, (Eq.trans t5 (by first | rfl | simp)), h2, ?_⟩
  · omega
  · omega
 refine W_seq_exit ?_
 refine p36 _ _ _ ?_
 refine x5 _ _ ?_
 refine .done ?_
 refine W_seq_regc (fun T H => T 4 = (V.bool (decide ((((lowL (fdP o) words).length : Nat) : Int) = (((lowL (apB o) words).length : Nat) : Int)))) ∧ H 2 = (⟨1, true, false, 34, 2, [[(iV (o.i)), (V.sl (List.map cT (o.tr)))]]⟩ : Blk) ∧ True) ?_ ?_
 ·
  unfold r5_10
  refine R_load_mp (v := (V.agg [(iV (o.i)), (V.sl (List.map cT (o.tr)))])) t2 h2 (by first | rfl | simp [ldB, ldV, Blk.own, V.one]) ?_
  refine R_mv t1 ?_
  refine R_call (evcons (@rfl V (V.agg [(iV (o.i)), (V.sl (List.map cT (o.tr)))])) (evcons (@rfl V (V.sl (List.map cL (words)))) evnil)) (plow_pure o words ho (by omega) (fun j hj => Nat.le_trans (hw j hj) (by decide))) (fzv_mapcanon _ _ (by simp [-List.map_take, -List.map_drop, -List.map_append, -List.map_reverse])) (by simp [-List.map_take, -List.map_drop, -List.map_append, -List.map_reverse]) (Or.inl (by simp [-List.map_take, -List.map_drop, -List.map_append, -List.map_reverse])) ?_
  refine R_load_mp (v := (V.agg [(iV (o.i)), (V.sl (List.map cT (o.tr)))])) t2 h2 (by first | rfl | simp [ldB, ldV, Blk.own, V.one]) ?_
  refine R_mv t1 ?_
  refine R_call (evcons (@rfl V (V.agg [(iV (o.i)), (V.sl (List.map cT (o.tr)))])) (evcons (@rfl V (V.sl (List.map cL (words)))) evnil)) (rlow_pure o words ho (by omega) (fun j hj => Nat.le_trans (hw j hj) (by decide))) (fzv_mapcanon _ _ (by simp [-List.map_take, -List.map_drop, -List.map_append, -List.map_reverse])) (by simp [-List.map_take, -List.map_drop, -List.map_append, -List.map_reverse]) (Or.inl (by simp [-List.map_take, -List.map_drop, -List.map_append, -List.map_reverse])) ?_
  refine R_eql (x := (((lowL (fdP o) words).length : Nat) : Int)) (y := (((lowL (apB o) words).length : Nat) : Int)) (@rfl V (iV (((lowL (fdP o) words).length : Nat) : Int))) (@rfl V (iV (((lowL (apB o) words).length : Nat) : Int))) ?_
  refine R_mv (@rfl V (V.bool (decide ((((lowL (fdP o) words).length : Nat) : Int) = (((lowL (apB o) words).length : Nat) : Int))))) ?_
  refine Ops_seg 2 (fun T H => T 79 = (V.bool (decide ((((lowL (fdP o) words).length : Nat) : Int) = (((lowL (apB o) words).length : Nat) : Int)))) ∧ H 2 = (⟨1, true, false, 34, 2, [[(iV (o.i)), (V.sl (List.map cT (o.tr)))]]⟩ : Blk) ∧ True) ?_ ?_
  ·
   by_cases g11 : (((lowL (fdP o) words).length : Nat) : Int) = (((lowL (apB o) words).length : Nat) : Int)
   ·
    refine G_yes (Eq.trans (@rfl V (V.bool (decide ((((lowL (fdP o) words).length : Nat) : Int) = (((lowL (apB o) words).length : Nat) : Int))))) (bdT g11)) ?_
    refine R_call evnil (aw_learnerlaw22_awake_pure) (fzv_mapcanon _ _ (by simp [-List.map_take, -List.map_drop, -List.map_append, -List.map_reverse])) (by simp [-List.map_take, -List.map_drop, -List.map_append, -List.map_reverse]) (Or.inl (by simp [-List.map_take, -List.map_drop, -List.map_append, -List.map_reverse])) ?_
    refine R_pickT (Eq.trans (@rfl V (V.bool (decide ((((lowL (fdP o) words).length : Nat) : Int) = (((lowL (apB o) words).length : Nat) : Int))))) (bdT g11)) (@rfl V (V.bool true)) ?_
    exact ⟨(Eq.trans (@rfl V (V.bool true)) (dec_T g11)), h2, trivial⟩
   ·
    refine G_no (Eq.trans (@rfl V (V.bool (decide ((((lowL (fdP o) words).length : Nat) : Int) = (((lowL (apB o) words).length : Nat) : Int))))) (bdF g11)) (by decide) ?_
    refine R_pickF (Eq.trans (@rfl V (V.bool (decide ((((lowL (fdP o) words).length : Nat) : Int) = (((lowL (apB o) words).length : Nat) : Int))))) (bdF g11)) (@rfl V (V.bool false)) ?_
    exact ⟨(Eq.trans (@rfl V (V.bool false)) (dec_F g11)), h2, trivial⟩
  intro T H ⟨t79, h2, _⟩
  refine R_mv t79 ?_
  exact R_nil ⟨rfl, h2, trivial⟩
 intro T H ⟨t4, h2, _⟩
 refine W_ret ?_
 refine Ret_1 t4 (fz_bool ?_)
 · simp [low_congr (fdP_eq (oval_ok ho))]

end Go.Proofs.Ytngkckefanbhgaa

namespace Go.Proofs.Ytngkckefanbhgaa
open Go Go.Proofs Go.Proofs.Ytngkckefanbhgaa Go.ChangeShapes Go.WideShapes Go.ChangeAt Go.RowKit

structure UT (P : Program) : Prop where
  u3 : P.underlying 3 = some (.int .i64)
  u32 : P.underlying 32 = some (.slice 63)
  u35 : P.underlying 35 = some (.slice 3)
  u63 : ∃ f0 f1 : Field, P.underlying 63 = some (.struct #[f0, f1]) ∧ f0.type = 35 ∧ f1.type = 35
  u34 : ∃ f0 f1 : Field, P.underlying 34 = some (.struct #[f0, f1]) ∧ f0.type = 3 ∧ f1.type = 32
  u22 : P.underlying 22 = some (.slice 35)
theorem sh3 {P : Program} (U : UT P) (n : Nat) (vs : List V) (h : Shp P (n + 1) 3 vs) : ∃ a : Int, vs = cI a := shp_int U.u3 h

theorem sh35 {P : Program} (U : UT P) (n : Nat) (vs : List V) (h : Shp P (n + 2) 35 vs) : ∃ a : List Int, vs = cL a := shp_slice (f := cI) U.u35 (fun vs h => sh3 U n vs h) h

theorem sh63 {P : Program} (U : UT P) (n : Nat) (vs : List V) (h : Shp P (n + 3) 63 vs) : ∃ a : Tr, vs = cT a := by
  obtain ⟨f0, f1, hu, k0, k1⟩ := U.u63
  have h0 := shp_step hu h
  obtain ⟨x0, u0, e0, h1⟩ := shpL_cons (c := cL) (fun vs h => sh35 U (n + 0) vs (by rw [k0] at h; exact h)) h0
  obtain ⟨x1, u1, e1, h2⟩ := shpL_cons (c := cL) (fun vs h => sh35 U (n + 0) vs (by rw [k1] at h; exact h)) h1
  have e2 := shpL_nil h2
  exact ⟨⟨x0, x1⟩, by rw [e0, e1, e2]; rfl⟩

theorem sh32 {P : Program} (U : UT P) (n : Nat) (vs : List V) (h : Shp P (n + 4) 32 vs) : ∃ a : List Tr, vs = (fun l => [V.sl (List.map cT l)]) a := shp_slice (f := cT) U.u32 (fun vs h => sh63 U n vs h) h

theorem sh34 {P : Program} (U : UT P) (n : Nat) (vs : List V) (h : Shp P (n + 5) 34 vs) : ∃ a : Ob, vs = oC a := by
  obtain ⟨f0, f1, hu, k0, k1⟩ := U.u34
  have h0 := shp_step hu h
  obtain ⟨x0, u0, e0, h1⟩ := shpL_cons (c := cI) (fun vs h => sh3 U (n + 3) vs (by rw [k0] at h; exact h)) h0
  obtain ⟨x1, u1, e1, h2⟩ := shpL_cons (c := (fun l => [V.sl (List.map cT l)])) (fun vs h => sh32 U (n + 0) vs (by rw [k1] at h; exact h)) h1
  have e2 := shpL_nil h2
  exact ⟨⟨x0, x1⟩, by rw [e0, e1, e2]; rfl⟩

theorem sh22 {P : Program} (U : UT P) (n : Nat) (vs : List V) (h : Shp P (n + 3) 22 vs) : ∃ a : List (List Int), vs = (fun l => [V.sl (List.map cL l)]) a := shp_slice (f := cL) U.u22 (fun vs h => sh35 U n vs h) h

theorem ut : UT Try.prog := ⟨by kernel_rfl, by kernel_rfl, by kernel_rfl, ⟨_, _, Try.underlying63, rfl, rfl⟩, ⟨_, _, Try.underlying34, rfl, rfl⟩, by kernel_rfl⟩
theorem args5 {P : Program} (U : UT P) {us : List V} (h : ShpA P 6 [34, 22] us) : ∃ (d0 : Ob) (d1 : List (List Int)), us = [V.agg (oC d0), V.sl (List.map cL d1)] := by
  obtain ⟨a0, b0, e0, h0, h⟩ := shpA_cons h
  obtain ⟨d0, g0⟩ := sh34 U 1 a0 h0
  have q0 : packV P 34 a0 = V.agg (oC d0) := by obtain ⟨_, _, hu, _⟩ := U.u34; rw [g0]; exact pack_struct hu _
  obtain ⟨a1, b1, e1, h1, h⟩ := shpA_cons h
  obtain ⟨d1, g1⟩ := sh22 U 3 a1 h1
  have q1 : packV P 22 a1 = V.sl (List.map cL d1) := by rw [g1]; exact pack_other (fun fs h => by rw [U.u22] at h; cases h)
  have e2 := shpA_nil h
  exact ⟨d0, d1, by rw [e0, q0, e1, q1, e2]⟩
theorem own5 : ownKnob Try.prog.godebug = none := by kernel_rfl

set_option maxRecDepth 100000 in
theorem lifted5 (os : Os) (started : os.Started) (H : Type) (enc : TypeId × Value → H) :
    ReturnsInHanded {} Try.checked os 5 .any (Rows.hypothesisApartSpec.pre6 enc Try.prog Try.f5 Rows.hypothesisApartRow.domain false) (Rows.hypothesisApartSpec.post enc Try.prog Try.f5 false true false false) := by
  refine returnsInHanded_of_change (C := Try.checked) own5 started (by kernel_rfl) Try.func5
    (ChangeSpec.witness6 (enc := enc) (C := Try.checked) false ⟨#[], #[.agg #[.int .i64 0, .slice none 0 0], .slice none 0 0], []⟩ 8 (by kernel_rfl) (by kernel_rfl) (by kernel_rfl) (by kernel_rfl)) ?_
  intro W base args ds gs before hval0 hW hcnd _
  refine law_post (n := 6) (tb := 4) (by kernel_rfl) (by kernel_rfl) (by kernel_rfl) (fun t ht => ?_) rfl ?_ (fun us hu => ?_) hval0 hW
  · have h : t ∈ [34, 22] := ht
    simp only [List.mem_cons, List.not_mem_nil, or_false] at h
    rcases h with rfl | rfl
    · exact ⟨by kernel_rfl, by kernel_rfl, of_decide_eq_true (by kernel_rfl)⟩
    · exact ⟨by kernel_rfl, by kernel_rfl, of_decide_eq_true (by kernel_rfl)⟩
  · obtain ⟨p, q, hA, hV, rfl, hfz, hnd⟩ := hW
    obtain ⟨rfl, rfl⟩ := trodVars_none hV
    change DataW.TrodAll enc Try.prog W 0 (fun _ => true) true [34, 22] args.toList ds p at hA
    obtain ⟨v0, vs0, y0, ds0, pa0, pb0, hv0, rfl, rfl, _, hA⟩ := trodAll_cons hA
    obtain ⟨v1, vs1, y1, ds1, pa1, pb1, hv1, rfl, rfl, _, hA⟩ := trodAll_cons hA
    obtain ⟨_, rfl, rfl⟩ := trodAll_nil hA
    rfl
  · obtain ⟨d0, d1, rfl⟩ := args5 ut hu
    exact law5_pure d0 d1

theorem proved5 : Rows.HypothesisApartSaid :=
  OpenClaim.holds_of_wide 5 Try.f5 rfl rfl rfl rfl rfl rfl rfl ⟨rfl, rfl, rfl, rfl, rfl⟩ rfl rfl rfl rfl rfl (by kernel_rfl) Try.func5 (by kernel_rfl)
    (of_decide_eq_true (by kernel_rfl)) (by unfold Func.isWrapper; first | (rw [if_pos (by decide +kernel)]; kernel_rfl) | (rw [if_neg (by decide +kernel)]; exact ⟨rfl, rfl⟩))
    (fun os started H enc _ => lifted5 os started H enc)
end Go.Proofs.Ytngkckefanbhgaa

