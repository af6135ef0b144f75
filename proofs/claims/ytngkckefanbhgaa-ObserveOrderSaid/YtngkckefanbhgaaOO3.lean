/- Contracts of the functions that the law OO reaches, and the law itself, for every input; no condition. -/
import Derived.KernelRfl
import Derived.Test.YtngkckefanbhgaaProg
import Derived.Test.YtngkckefanbhgaaOO2
set_option linter.unusedSimpArgs false
set_option linter.unusedVariables false
namespace Go.Proofs.Ytngkckefanbhgaa
open Go Go.Proofs
theorem del_E (l : List Tr) (t : Tr) (v9 v3 v7 : Nat) (Hi : Heap) (h209 : Hi 209 = (⟨v9, true, false, 63, 2, (List.map cT (l))⟩ : Blk)) (h303 : Hi 303 = (⟨v3, true, false, 63, 2, [[(V.sl (List.map cI (t.ni))), (V.sl (List.map cI (t.no)))]]⟩ : Blk)) (h407 : (Hi 407).ver = v7) (hl : l.length ≤ 1000000) : CallOK Try.prog 116 [(V.ms 209 v9 0 (l.length)), (V.fn 117 [] [(V.mp 303 v3 0 0)])] Hi (V.ms 209 v9 0 (((l.filter (kp t)).length))) (upd (upd Hi 407 (⟨v7 + l.length, false, false, 0, 0, []⟩ : Blk)) 209 (⟨v9, true, false, 63, 2, (List.map cT (l.filter (kp t)) ++ List.replicate (l.length - (l.filter (kp t)).length) [V.nilsl, V.nilsl])⟩ : Blk)) := by
 refine CallOK_of_Wf (k0 := 400) Try.func116 s116_ok (by kernel_rfl) (by simp [s116]) fun hB => ?_
 simp only [bnd_map, bnd_int, bnd_bool, bnd_str, bnd_agg, bnd_pp, bnd_nil, bnd_cons, implies_true, and_true, true_and] at hB
 unfold s116
 dsimp only
 refine W_seq_regc (fun T H => T 0 = (V.ms 209 v9 0 (l.length)) ∧ T 1 = (V.fn 117 [] [(V.mp 303 v3 0 0)]) ∧ (∀ j, j ∉ [407, 209] → H j = Hi j) ∧ H 209 = (⟨v9, true, false, 63, 2, (List.map cT (l))⟩ : Blk) ∧ H 303 = (⟨v3, true, false, 63, 2, [[(V.sl (List.map cI (t.ni))), (V.sl (List.map cI (t.no)))]]⟩ : Blk) ∧ (H 407).ver = v7 ∧ True) ?_ ?_
 ·
  unfold r116_0
  refine R_mv (@rfl V V.nilsl) ?_
  exact R_nil ⟨rfl, rfl, (fun _ _ => rfl), h209, h303, h407, trivial⟩
 intro T H ⟨t0, t1, hF, h209, h303, h407, _⟩
 refine W_seq_regc (fun T H => T 0 = (V.ms 209 v9 0 (l.length)) ∧ T 1 = (V.fn 117 [] [(V.mp 303 v3 0 0)]) ∧ T 5 = (iV (fi (fun j => (fun u : Tr => hp t.ni u.ni) (nth l j)) 0 l.length)) ∧ (∀ j, j ∉ [407, 209] → H j = Hi j) ∧ H 209 = (⟨v9, true, false, 63, 2, (List.map cT (l))⟩ : Blk) ∧ H 303 = (⟨v3, true, false, 63, 2, [[(V.sl (List.map cI (t.ni))), (V.sl (List.map cI (t.no)))]]⟩ : Blk) ∧ (H 407).ver = v7 ∧ True) ?_ ?_
 ·
  unfold r116_1
  refine R_mv t0 ?_
  refine R_mv t1 ?_
  refine R_call (evcons (@rfl V (V.ms 209 v9 0 (l.length))) (evcons (@rfl V (V.fn 117 [] [(V.mp 303 v3 0 0)])) evnil)) (idxt_pure (fun u : Tr => hp t.ni u.ni) l 117 ([(V.pp [(V.sl (List.map cI (t.ni))), (V.sl (List.map cI (t.no)))])]) (by simp) (by simp) (fun j _ => add1_pure (nth l j) t)) (mcons (fz_mst h209 (by first | rfl | simp) (take_map (l := l) (by first | rfl | simp | omega)) (fun _ => by simp)) (mcons (by simp [fzv, Blk.own, h209, h303]) rfl)) (by simp [-List.map_take, -List.map_drop, -List.map_append, -List.map_reverse]) (Or.inr rfl) ?_
  refine R_mv (@rfl V (iV (fi (fun j => (fun u : Tr => hp t.ni u.ni) (nth l j)) 0 l.length))) ?_
  exact R_nil ⟨t0, t1, rfl, hF, h209, h303, h407, trivial⟩
 intro T H ⟨t0, t1, t5, hF, h209, h303, h407, _⟩
 refine W_seq_seq ?_
 refine W_seq_regc (fun T H => T 0 = (V.ms 209 v9 0 (l.length)) ∧ T 1 = (V.fn 117 [] [(V.mp 303 v3 0 0)]) ∧ T 5 = (iV (fi (fun j => (fun u : Tr => hp t.ni u.ni) (nth l j)) 0 l.length)) ∧ T 12 = (V.bool (decide ((fi (fun j => (fun u : Tr => hp t.ni u.ni) (nth l j)) 0 l.length) = (-1 : Int)))) ∧ (∀ j, j ∉ [407, 209] → H j = Hi j) ∧ H 209 = (⟨v9, true, false, 63, 2, (List.map cT (l))⟩ : Blk) ∧ H 303 = (⟨v3, true, false, 63, 2, [[(V.sl (List.map cI (t.ni))), (V.sl (List.map cI (t.no)))]]⟩ : Blk) ∧ (H 407).ver = v7 ∧ True) ?_ ?_
 ·
  unfold r116_2
  refine R_mv t5 ?_
  refine R_eql (x := (fi (fun j => (fun u : Tr => hp t.ni u.ni) (nth l j)) 0 l.length)) (y := (-1 : Int)) (@rfl V (iV (fi (fun j => (fun u : Tr => hp t.ni u.ni) (nth l j)) 0 l.length))) (@rfl V (iV (-1 : Int))) ?_
  exact R_nil ⟨t0, t1, t5, rfl, hF, h209, h303, h407, trivial⟩
 intro T H ⟨t0, t1, t5, t12, hF, h209, h303, h407, _⟩
 refine W_seq_if (p := (fi (fun j => (fun u : Tr => hp t.ni u.ni) (nth l j)) 0 l.length) = (-1 : Int)) t12 (fun c1 => ?_) (fun c1 => ?_)
 ·
  have d0 : fi (fun j => (fun u : Tr => hp t.ni u.ni) (nth l j)) 0 l.length < 0 := by omega
  refine W_seq_seq ?_
  refine W_seq_regc (fun T H => T 4 = (V.ms 209 v9 0 (l.length)) ∧ (∀ j, j ∉ [407, 209] → H j = Hi j) ∧ H 209 = (⟨v9, true, false, 63, 2, (List.map cT (l))⟩ : Blk) ∧ H 303 = (⟨v3, true, false, 63, 2, [[(V.sl (List.map cI (t.ni))), (V.sl (List.map cI (t.no)))]]⟩ : Blk) ∧ (H 407).ver = v7 ∧ True) ?_ ?_
  ·
   unfold r116_3
   refine R_mv t0 ?_
   refine R_mv (@rfl V (V.ms 209 v9 0 (l.length))) ?_
   exact R_nil ⟨rfl, hF, h209, h303, h407, trivial⟩
  intro T H ⟨t4, hF, h209, h303, h407, _⟩
  refine W_seq_ret ?_
  have fh := FinX.fin (FinX.put (B := (⟨v9, true, false, 63, 2, (List.map cT (l.filter (kp t)) ++ List.replicate (l.length - (l.filter (kp t)).length) [V.nilsl, V.nilsl])⟩ : Blk)) (FinX.putv (n := v7) (B := (⟨v7 + l.length, false, false, 0, 0, []⟩ : Blk)) (FinX.start hF) h407 (by show _ ≤ v7 + l.length; omega) rfl) h209 (FinB.eq (by first | rfl | (rw [d4]; done) | (rw [Nat.zero_add, dlL_nth, dlL_keep (by omega) d5]; done) | (rw [dlL_skip (by omega) d5]; done) | (rw [dl_none d0]; simp; done) | (have e : k = l.length := (by omega); subst e; unfold dlL dlF; rw [List.take_length, List.take_left]; done))))
  exact RetF_1 t4 fh (FinV.trans_eq (FinV.same fh _) (by first | rfl | (rw [d3]; exact congrArg (V.int .i64) (by first | rfl | omega)) | (exact congrArg (V.int .i64) (by omega)) | (rw [dlF_keep (by omega) d5, List.length_append]; rfl) | (rw [dlF_skip (by omega) d5]; done) | (rw [dl_none d0]; done) | (have e : k = l.length := (by omega); subst e; unfold dlF; rw [List.take_length]; done)))
 obtain ⟨i0, d1, d2, d3, d4⟩ := dl_start (t := t) (l := l) (by have := fi_bnd (p := fun j => (fun u : Tr => hp t.ni u.ni) (nth l j)) l.length 0; omega)
 refine W_seq_skip ?_
 refine W_seq_seq ?_
 refine W_seq_regc (fun T H => T 0 = (V.ms 209 v9 0 (l.length)) ∧ T 1 = (V.fn 117 [] [(V.mp 303 v3 0 0)]) ∧ T 5 = (iV (fi (fun j => (fun u : Tr => hp t.ni u.ni) (nth l j)) 0 l.length)) ∧ T 6 = (iV ((fi (fun j => (fun u : Tr => hp t.ni u.ni) (nth l j)) 0 l.length) + (1 : Int))) ∧ (∀ j, j ∉ [407, 209] → H j = Hi j) ∧ H 209 = (⟨v9, true, false, 63, 2, (List.map cT (l))⟩ : Blk) ∧ H 303 = (⟨v3, true, false, 63, 2, [[(V.sl (List.map cI (t.ni))), (V.sl (List.map cI (t.no)))]]⟩ : Blk) ∧ (H 407).ver = v7 ∧ True) ?_ ?_
 ·
  unfold r116_4
  refine R_mv t5 ?_
  refine R_add (x := (fi (fun j => (fun u : Tr => hp t.ni u.ni) (nth l j)) 0 l.length)) (y := (1 : Int)) (@rfl V (iV (fi (fun j => (fun u : Tr => hp t.ni u.ni) (nth l j)) 0 l.length))) (@rfl V (iV (1 : Int))) (by omega) (by omega) ?_
  refine R_mv (@rfl V (iV ((fi (fun j => (fun u : Tr => hp t.ni u.ni) (nth l j)) 0 l.length) + (1 : Int)))) ?_
  exact R_nil ⟨t0, t1, t5, rfl, hF, h209, h303, h407, trivial⟩
 intro T H ⟨t0, t1, t5, t6, hF, h209, h303, h407, _⟩
 refine W_seq_blockg fun Q2 n2 x2 y2 z2 => ?_
 refine W_loop (fun mm T H => ∃ (k : Nat) (v407 : Nat), mm = l.length - k ∧ T 0 = (V.ms 209 v9 0 (l.length)) ∧ T 1 = (V.fn 117 [] [(V.mp 303 v3 0 0)]) ∧ T 5 = (iV (((dlF t l k).length : Nat) : Int)) ∧ T 6 = (iV ((k : Nat) : Int)) ∧ (∀ j, j ∉ [407, 209] → H j = Hi j) ∧ H 209 = (⟨v9, true, false, 63, 2, (List.map cT (dlL t l k))⟩ : Blk) ∧ H 303 = (⟨v3, true, false, 63, 2, [[(V.sl (List.map cI (t.ni))), (V.sl (List.map cI (t.no)))]]⟩ : Blk) ∧ (H 407).ver = v407 ∧ (k ≤ l.length) ∧ ((dlF t l k).length < k) ∧ (v407 ≤ v7 + k)) ?_ ?_
 ·
  refine ⟨_, i0 + 1, v7, rfl, t0, t1, (Eq.trans t5 (by first | rfl | (rw [d3]; exact congrArg (V.int .i64) (by first | rfl | omega)) | (exact congrArg (V.int .i64) (by omega)) | (rw [dlF_keep (by omega) d5, List.length_append]; rfl) | (rw [dlF_skip (by omega) d5]; done) | (rw [dl_none d0]; done) | (have e : k = l.length := (by omega); subst e; unfold dlF; rw [List.take_length]; done))), (Eq.trans t6 (by first | rfl | (rw [d3]; exact congrArg (V.int .i64) (by first | rfl | omega)) | (exact congrArg (V.int .i64) (by omega)) | (rw [dlF_keep (by omega) d5, List.length_append]; rfl) | (rw [dlF_skip (by omega) d5]; done) | (rw [dl_none d0]; done) | (have e : k = l.length := (by omega); subst e; unfold dlF; rw [List.take_length]; done))), hF, (Eq.trans h209 (by first | rfl | (rw [d4]; done) | (rw [Nat.zero_add, dlL_nth, dlL_keep (by omega) d5]; done) | (rw [dlL_skip (by omega) d5]; done) | (rw [dl_none d0]; simp; done) | (have e : k = l.length := (by omega); subst e; unfold dlL dlF; rw [List.take_length, List.take_left]; done))), h303, h407, ?_, ?_, ?_⟩
  · omega
  · omega
  · omega
 intro mm T H ⟨k, v407, hmm, t0, t1, t5, t6, hF, h209, h303, h407, hk, hlt, hv⟩ Q3 p13 p23 p33
 unfold b116_0
 have q1 := dlL_len t l k
 refine W_seq_seq ?_
 refine W_seq_regc (fun T H => T 0 = (V.ms 209 v9 0 (l.length)) ∧ T 1 = (V.fn 117 [] [(V.mp 303 v3 0 0)]) ∧ T 5 = (iV (((dlF t l k).length : Nat) : Int)) ∧ T 6 = (iV ((k : Nat) : Int)) ∧ T 19 = (V.bool (decide (((k : Nat) : Int) < ((l.length : Nat) : Int)))) ∧ (∀ j, j ∉ [407, 209] → H j = Hi j) ∧ H 209 = (⟨v9, true, false, 63, 2, (List.map cT (dlL t l k))⟩ : Blk) ∧ H 303 = (⟨v3, true, false, 63, 2, [[(V.sl (List.map cI (t.ni))), (V.sl (List.map cI (t.no)))]]⟩ : Blk) ∧ (H 407).ver = v407 ∧ True) ?_ ?_
 ·
  unfold r116_5
  refine R_mv t6 ?_
  refine R_mv t0 ?_
  refine R_len_ms (@rfl V (V.ms 209 v9 0 (l.length))) h209 (by first | rfl | simp) ?_
  refine R_lss (x := ((k : Nat) : Int)) (y := ((l.length : Nat) : Int)) (@rfl V (iV ((k : Nat) : Int))) (@rfl V (iV ((l.length : Nat) : Int))) ?_
  exact R_nil ⟨t0, t1, t5, t6, rfl, hF, h209, h303, h407, trivial⟩
 intro T H ⟨t0, t1, t5, t6, t19, hF, h209, h303, h407, _⟩
 refine W_seq_if (p := ((k : Nat) : Int) < ((l.length : Nat) : Int)) t19 (fun c4 => ?_) (fun c4 => ?_)
 ·
  refine W_seq_skip ?_
  refine W_seq_blockg fun Q5 n5 x5 y5 z5 => ?_
  refine W_seq_regc (fun T H => T 0 = (V.ms 209 v9 0 (l.length)) ∧ T 1 = (V.fn 117 [] [(V.mp 303 v3 0 0)]) ∧ T 5 = (iV (((dlF t l k).length : Nat) : Int)) ∧ T 6 = (iV ((k : Nat) : Int)) ∧ T 7 = (V.mp 407 (v407 + 1) 0 0) ∧ (∀ j, j ∉ [407, 209] → H j = Hi j) ∧ H 209 = (⟨v9, true, false, 63, 2, (List.map cT (dlL t l k))⟩ : Blk) ∧ H 303 = (⟨v3, true, false, 63, 2, [[(V.sl (List.map cI (t.ni))), (V.sl (List.map cI (t.no)))]]⟩ : Blk) ∧ H 407 = (⟨v407 + 1, true, false, 63, 2, [[(V.sl (List.map cI ((nth (dlL t l k) (0 + (k))).ni))), (V.sl (List.map cI ((nth (dlL t l k) (0 + (k))).no)))]]⟩ : Blk) ∧ True) ?_ ?_
  ·
   unfold r116_7
   refine R_mv t0 ?_
   refine R_mv t6 ?_
   refine R_idx_ms (i := k) (@rfl V (V.ms 209 v9 0 (l.length))) (@rfl V (iV ((k : Nat) : Int))) h209 (okB_map (by omega)) rfl (by omega) ?_
   refine R_load_mp (v := (V.agg [(V.sl (List.map cI ((nth (dlL t l k) (0 + (k))).ni))), (V.sl (List.map cI ((nth (dlL t l k) (0 + (k))).no)))])) (@rfl V (V.mp 209 v9 (0 + (k)) 0)) h209 (ldB_map (by omega) (by first | rfl | simp [ldV, V.one])) ?_
   refine R_alloc (i := 407) (n := v407) (m := 2) (by rfl) h407 rfl ?_
   refine R_store (vs := [(V.sl (List.map cI ((nth (dlL t l k) (0 + (k))).ni))), (V.sl (List.map cI ((nth (dlL t l k) (0 + (k))).no)))]) (B' := (⟨v407 + 1, true, false, 63, 2, [[(V.sl (List.map cI ((nth (dlL t l k) (0 + (k))).ni))), (V.sl (List.map cI ((nth (dlL t l k) (0 + (k))).no)))]]⟩ : Blk)) (@rfl V (V.mp 407 (v407 + 1) 0 0)) (@rfl V (V.agg [(V.sl (List.map cI ((nth (dlL t l k) (0 + (k))).ni))), (V.sl (List.map cI ((nth (dlL t l k) (0 + (k))).no)))])) rfl (@rfl Blk (⟨v407 + 1, true, false, 63, 2, [[V.nilsl, V.nilsl]]⟩ : Blk)) (by first | rfl | simp [stB, okB, Blk.own, putAt, V.one]) ?_
   exact R_nil ⟨t0, t1, t5, t6, rfl, (upd_out (upd_out hF (by decide)) (by decide)), h209, h303, rfl, trivial⟩
  intro T H ⟨t0, t1, t5, t6, t7, hF, h209, h303, h407, _⟩
  refine W_seq_regc (fun T H => T 0 = (V.ms 209 v9 0 (l.length)) ∧ T 1 = (V.fn 117 [] [(V.mp 303 v3 0 0)]) ∧ T 5 = (iV (((dlF t l k).length : Nat) : Int)) ∧ T 6 = (iV ((k : Nat) : Int)) ∧ T 7 = (V.mp 407 (v407 + 1) 0 0) ∧ T 29 = (V.bool ((!hp t.ni ((nth (dlL t l k) (0 + (k)))).ni))) ∧ (∀ j, j ∉ [407, 209] → H j = Hi j) ∧ H 209 = (⟨v9, true, false, 63, 2, (List.map cT (dlL t l k))⟩ : Blk) ∧ H 303 = (⟨v3, true, false, 63, 2, [[(V.sl (List.map cI (t.ni))), (V.sl (List.map cI (t.no)))]]⟩ : Blk) ∧ H 407 = (⟨v407 + 1, true, false, 63, 2, [[(V.sl (List.map cI ((nth (dlL t l k) (0 + (k))).ni))), (V.sl (List.map cI ((nth (dlL t l k) (0 + (k))).no)))]]⟩ : Blk) ∧ True) ?_ ?_
  ·
   unfold r116_8
   refine R_mv t1 ?_
   refine R_load_mp (v := (V.agg [(V.sl (List.map cI ((nth (dlL t l k) (0 + (k))).ni))), (V.sl (List.map cI ((nth (dlL t l k) (0 + (k))).no)))])) t7 h407 (by first | rfl | simp [ldB, ldV, Blk.own, V.one]) ?_
   refine R_callv (@rfl V (V.fn 117 [] [(V.mp 303 v3 0 0)])) (evcons (@rfl V (V.agg [(V.sl (List.map cI ((nth (dlL t l k) (0 + (k))).ni))), (V.sl (List.map cI ((nth (dlL t l k) (0 + (k))).no)))])) evnil) (add1_pure ((nth (dlL t l k) (0 + (k)))) t) (mcons (fzv_canon 6 _ (by simp [-List.map_take, -List.map_drop, -List.map_append, -List.map_reverse])) (mcons (by simp [fzv, Blk.own, h209, h303, h407]) rfl)) (by simp [-List.map_take, -List.map_drop, -List.map_append, -List.map_reverse]) (Or.inr rfl) ?_
   refine R_notb (@rfl V (V.bool (hp t.ni ((nth (dlL t l k) (0 + (k)))).ni))) ?_
   exact R_nil ⟨t0, t1, t5, t6, t7, rfl, hF, h209, h303, h407, trivial⟩
  intro T H ⟨t0, t1, t5, t6, t7, t29, hF, h209, h303, h407, _⟩
  refine W_ifb t29 (fun c6 => ?_) (fun c6 => ?_)
  ·
   have d5 : kp t (nth l k) = true := by unfold kp; rw [Nat.zero_add, dlL_nth] at c6; simpa using c6
   refine W_seq_regc (fun T H => T 0 = (V.ms 209 v9 0 (l.length)) ∧ T 1 = (V.fn 117 [] [(V.mp 303 v3 0 0)]) ∧ T 5 = (iV (((dlF t l k).length : Nat) : Int)) ∧ T 6 = (iV ((k : Nat) : Int)) ∧ (∀ j, j ∉ [407, 209] → H j = Hi j) ∧ H 209 = (⟨v9, true, false, 63, 2, (List.map cT ((dlL t l k).set (((dlF t l k).length)) ((nth (dlL t l k) (0 + (k))))))⟩ : Blk) ∧ H 303 = (⟨v3, true, false, 63, 2, [[(V.sl (List.map cI (t.ni))), (V.sl (List.map cI (t.no)))]]⟩ : Blk) ∧ H 407 = (⟨v407 + 1, true, false, 63, 2, [[(V.sl (List.map cI ((nth (dlL t l k) (0 + (k))).ni))), (V.sl (List.map cI ((nth (dlL t l k) (0 + (k))).no)))]]⟩ : Blk) ∧ True) ?_ ?_
   ·
    unfold r116_9
    refine R_mv t0 ?_
    refine R_mv t5 ?_
    refine R_load_mp (v := (V.agg [(V.sl (List.map cI ((nth (dlL t l k) (0 + (k))).ni))), (V.sl (List.map cI ((nth (dlL t l k) (0 + (k))).no)))])) t7 h407 (by first | rfl | simp [ldB, ldV, Blk.own, V.one]) ?_
    refine R_idx_ms (i := ((dlF t l k).length)) (@rfl V (V.ms 209 v9 0 (l.length))) (@rfl V (iV (((dlF t l k).length : Nat) : Int))) h209 (okB_map (by omega)) rfl (by omega) ?_
    refine R_store (vs := [(V.sl (List.map cI ((nth (dlL t l k) (0 + (k))).ni))), (V.sl (List.map cI ((nth (dlL t l k) (0 + (k))).no)))]) (B' := (⟨v9, true, false, 63, 2, (List.map cT ((dlL t l k).set (((dlF t l k).length)) ((nth (dlL t l k) (0 + (k))))))⟩ : Blk)) (Eq.trans (@rfl V (V.mp 209 v9 (0 + ((dlF t l k).length)) 0)) (congrArg (fun n => V.mp 209 v9 n 0) (Nat.zero_add _))) (@rfl V (V.agg [(V.sl (List.map cI ((nth (dlL t l k) (0 + (k))).ni))), (V.sl (List.map cI ((nth (dlL t l k) (0 + (k))).no)))])) rfl h209 (stB_map (x := (nth (dlL t l k) (0 + (k)))) (i := ((dlF t l k).length)) (by omega) rfl rfl rfl rfl) ?_
    exact R_nil ⟨t0, t1, t5, t6, (upd_out hF (by decide)), rfl, h303, h407, trivial⟩
   intro T H ⟨t0, t1, t5, t6, hF, h209, h303, h407, _⟩
   refine W_regc (fun T H => T 0 = (V.ms 209 v9 0 (l.length)) ∧ T 1 = (V.fn 117 [] [(V.mp 303 v3 0 0)]) ∧ T 5 = (iV ((((dlF t l k).length) + 1 : Nat) : Int)) ∧ T 6 = (iV ((k : Nat) : Int)) ∧ (∀ j, j ∉ [407, 209] → H j = Hi j) ∧ H 209 = (⟨v9, true, false, 63, 2, (List.map cT ((dlL t l k).set (((dlF t l k).length)) ((nth (dlL t l k) (0 + (k))))))⟩ : Blk) ∧ H 303 = (⟨v3, true, false, 63, 2, [[(V.sl (List.map cI (t.ni))), (V.sl (List.map cI (t.no)))]]⟩ : Blk) ∧ H 407 = (⟨v407 + 1, true, false, 63, 2, [[(V.sl (List.map cI ((nth (dlL t l k) (0 + (k))).ni))), (V.sl (List.map cI ((nth (dlL t l k) (0 + (k))).no)))]]⟩ : Blk) ∧ True) ?_ ?_
   ·
    unfold r116_10
    refine R_mv t5 ?_
    refine R_addN (m := ((dlF t l k).length)) (n := 1) (@rfl V (iV (((dlF t l k).length : Nat) : Int))) (@rfl V (iV ((1 : Nat) : Int))) (by omega) ?_
    refine R_mv (@rfl V (iV ((((dlF t l k).length) + 1 : Nat) : Int))) ?_
    exact R_nil ⟨t0, t1, rfl, t6, hF, h209, h303, h407, trivial⟩
   intro T H ⟨t0, t1, t5, t6, hF, h209, h303, h407, _⟩
   refine n5 _ _ ?_
   refine .done ?_
   refine W_regc (fun T H => T 0 = (V.ms 209 v9 0 (l.length)) ∧ T 1 = (V.fn 117 [] [(V.mp 303 v3 0 0)]) ∧ T 5 = (iV ((((dlF t l k).length) + 1 : Nat) : Int)) ∧ T 6 = (iV ((k + 1 : Nat) : Int)) ∧ (∀ j, j ∉ [407, 209] → H j = Hi j) ∧ H 209 = (⟨v9, true, false, 63, 2, (List.map cT ((dlL t l k).set (((dlF t l k).length)) ((nth (dlL t l k) (0 + (k))))))⟩ : Blk) ∧ H 303 = (⟨v3, true, false, 63, 2, [[(V.sl (List.map cI (t.ni))), (V.sl (List.map cI (t.no)))]]⟩ : Blk) ∧ H 407 = (⟨v407 + 1, true, false, 63, 2, [[(V.sl (List.map cI ((nth (dlL t l k) (0 + (k))).ni))), (V.sl (List.map cI ((nth (dlL t l k) (0 + (k))).no)))]]⟩ : Blk) ∧ True) ?_ ?_
   ·
    unfold r116_6
    refine R_mv t6 ?_
    refine R_addN (m := k) (n := 1) (@rfl V (iV ((k : Nat) : Int))) (@rfl V (iV ((1 : Nat) : Int))) (by omega) ?_
    refine R_mv (@rfl V (iV ((k + 1 : Nat) : Int))) ?_
    exact R_nil ⟨t0, t1, t5, rfl, hF, h209, h303, h407, trivial⟩
   intro T H ⟨t0, t1, t5, t6, hF, h209, h303, h407, _⟩
   refine p13 _ _ _ ?_ ⟨k + 1, (v407 + 1), rfl, t0, t1, (Eq.trans t5 (by first | rfl | (rw [d3]; exact congrArg (V.int .i64) (by first | rfl | omega)) | (exact congrArg (V.int .i64) (by omega)) | (rw [dlF_keep (by omega) d5, List.length_append]; rfl) | (rw [dlF_skip (by omega) d5]; done) | (rw [dl_none d0]; done) | (have e : k = l.length := (by omega); subst e; unfold dlF; rw [List.take_length]; done))), (Eq.trans t6 (by first | rfl | (rw [d3]; exact congrArg (V.int .i64) (by first | rfl | omega)) | (exact congrArg (V.int .i64) (by omega)) | (rw [dlF_keep (by omega) d5, List.length_append]; rfl) | (rw [dlF_skip (by omega) d5]; done) | (rw [dl_none d0]; done) | (have e : k = l.length := (by omega); subst e; unfold dlF; rw [List.take_length]; done))), hF, (Eq.trans h209 (by first | rfl | (rw [d4]; done) | (rw [Nat.zero_add, dlL_nth, dlL_keep (by omega) d5]; done) | (rw [dlL_skip (by omega) d5]; done) | (rw [dl_none d0]; simp; done) | (have e : k = l.length := (by omega); subst e; unfold dlL dlF; rw [List.take_length, List.take_left]; done))), h303, (congrArg Blk.ver h407), ?_, ?_, ?_⟩
   · omega
   · omega
   · first | (rw [dlF_keep (by omega) d5, List.length_append]; simp; omega) | (rw [dlF_skip (by omega) d5]; omega)
   · omega
  have d5 : ¬kp t (nth l k) = true := by unfold kp; rw [Nat.zero_add, dlL_nth] at c6; simpa using c6
  refine W_skip ?_
  refine n5 _ _ ?_
  refine .done ?_
  refine W_regc (fun T H => T 0 = (V.ms 209 v9 0 (l.length)) ∧ T 1 = (V.fn 117 [] [(V.mp 303 v3 0 0)]) ∧ T 5 = (iV (((dlF t l k).length : Nat) : Int)) ∧ T 6 = (iV ((k + 1 : Nat) : Int)) ∧ (∀ j, j ∉ [407, 209] → H j = Hi j) ∧ H 209 = (⟨v9, true, false, 63, 2, (List.map cT (dlL t l k))⟩ : Blk) ∧ H 303 = (⟨v3, true, false, 63, 2, [[(V.sl (List.map cI (t.ni))), (V.sl (List.map cI (t.no)))]]⟩ : Blk) ∧ H 407 = (⟨v407 + 1, true, false, 63, 2, [[(V.sl (List.map cI ((nth (dlL t l k) (0 + (k))).ni))), (V.sl (List.map cI ((nth (dlL t l k) (0 + (k))).no)))]]⟩ : Blk) ∧ True) ?_ ?_
  ·
   unfold r116_6
   refine R_mv t6 ?_
   refine R_addN (m := k) (n := 1) (@rfl V (iV ((k : Nat) : Int))) (@rfl V (iV ((1 : Nat) : Int))) (by omega) ?_
   refine R_mv (@rfl V (iV ((k + 1 : Nat) : Int))) ?_
   exact R_nil ⟨t0, t1, t5, rfl, hF, h209, h303, h407, trivial⟩
  intro T H ⟨t0, t1, t5, t6, hF, h209, h303, h407, _⟩
  refine p13 _ _ _ ?_ ⟨k + 1, (v407 + 1), rfl, t0, t1, (Eq.trans t5 (by first | rfl | (rw [d3]; exact congrArg (V.int .i64) (by first | rfl | omega)) | (exact congrArg (V.int .i64) (by omega)) | (rw [dlF_keep (by omega) d5, List.length_append]; rfl) | (rw [dlF_skip (by omega) d5]; done) | (rw [dl_none d0]; done) | (have e : k = l.length := (by omega); subst e; unfold dlF; rw [List.take_length]; done))), (Eq.trans t6 (by first | rfl | (rw [d3]; exact congrArg (V.int .i64) (by first | rfl | omega)) | (exact congrArg (V.int .i64) (by omega)) | (rw [dlF_keep (by omega) d5, List.length_append]; rfl) | (rw [dlF_skip (by omega) d5]; done) | (rw [dl_none d0]; done) | (have e : k = l.length := (by omega); subst e; unfold dlF; rw [List.take_length]; done))), hF, (Eq.trans h209 (by first | rfl | (rw [d4]; done) | (rw [Nat.zero_add, dlL_nth, dlL_keep (by omega) d5]; done) | (rw [dlL_skip (by omega) d5]; done) | (rw [dl_none d0]; simp; done) | (have e : k = l.length := (by omega); subst e; unfold dlL dlF; rw [List.take_length, List.take_left]; done))), h303, (congrArg Blk.ver h407), ?_, ?_, ?_⟩
  · omega
  · omega
  · first | (rw [dlF_keep (by omega) d5, List.length_append]; simp; omega) | (rw [dlF_skip (by omega) d5]; omega)
  · omega
 refine W_seq_exit ?_
 refine p33 _ _ _ ?_
 refine x2 _ _ ?_
 refine .done ?_
 refine W_seq_regc (fun T H => T 0 = (V.ms 209 v9 0 (l.length)) ∧ T 5 = (iV (((dlF t l k).length : Nat) : Int)) ∧ (∀ j, j ∉ [407, 209] → H j = Hi j) ∧ H 209 = (⟨v9, true, false, 63, 2, (List.map cT (List.take (((dlF t l k).length)) (dlL t l k)) ++ List.replicate (l.length - ((dlF t l k).length)) [V.nilsl, V.nilsl])⟩ : Blk) ∧ H 303 = (⟨v3, true, false, 63, 2, [[(V.sl (List.map cI (t.ni))), (V.sl (List.map cI (t.no)))]]⟩ : Blk) ∧ (H 407).ver = v407 ∧ True) ?_ ?_
 ·
  unfold r116_11
  refine R_mv t0 ?_
  refine R_mv t5 ?_
  refine R_slice_ms_lo (n := ((dlF t l k).length)) (@rfl V (V.ms 209 v9 0 (l.length))) (@rfl V (iV (((dlF t l k).length : Nat) : Int))) h209 (okB_map (by omega)) rfl (by omega) ?_
  refine R_clr (m := (((dlF t l k).length))) (n := (l.length - ((dlF t l k).length))) (f := cT) (l := (dlL t l k)) (Eq.trans (@rfl V (V.ms 209 v9 (0 + ((dlF t l k).length)) (l.length - ((dlF t l k).length)))) (congrArg (fun n => V.ms 209 v9 n (l.length - ((dlF t l k).length))) (Nat.zero_add _))) h209 rfl (by decide) rfl (by omega) (by omega) ?_
  exact R_nil ⟨t0, t5, (upd_out hF (by decide)), rfl, h303, h407, trivial⟩
 intro T H ⟨t0, t5, hF, h209, h303, h407, _⟩
 refine W_seq_regc (fun T H => T 4 = (V.ms 209 v9 0 ((dlF t l k).length)) ∧ (∀ j, j ∉ [407, 209] → H j = Hi j) ∧ H 209 = (⟨v9, true, false, 63, 2, (List.map cT (List.take (((dlF t l k).length)) (dlL t l k)) ++ List.replicate (l.length - ((dlF t l k).length)) [V.nilsl, V.nilsl])⟩ : Blk) ∧ H 303 = (⟨v3, true, false, 63, 2, [[(V.sl (List.map cI (t.ni))), (V.sl (List.map cI (t.no)))]]⟩ : Blk) ∧ (H 407).ver = v407 ∧ True) ?_ ?_
 ·
  unfold r116_12
  refine R_mv t0 ?_
  refine R_mv t5 ?_
  refine R_slice_ms_hi (n := ((dlF t l k).length)) (@rfl V (V.ms 209 v9 0 (l.length))) (@rfl V (iV (((dlF t l k).length : Nat) : Int))) h209 (by first | rfl | simp [okB, Blk.own]) rfl (by omega) ?_
  refine R_mv (@rfl V (V.ms 209 v9 0 ((dlF t l k).length))) ?_
  exact R_nil ⟨rfl, hF, h209, h303, h407, trivial⟩
 intro T H ⟨t4, hF, h209, h303, h407, _⟩
 refine W_ret ?_
 have fh := FinX.fin (FinX.put (B := (⟨v9, true, false, 63, 2, (List.map cT (l.filter (kp t)) ++ List.replicate (l.length - (l.filter (kp t)).length) [V.nilsl, V.nilsl])⟩ : Blk)) (FinX.putv (n := v407) (B := (⟨v7 + l.length, false, false, 0, 0, []⟩ : Blk)) (FinX.start hF) h407 (by show _ ≤ v7 + l.length; omega) rfl) h209 (FinB.eq (by first | rfl | (rw [d4]; done) | (rw [Nat.zero_add, dlL_nth, dlL_keep (by omega) d5]; done) | (rw [dlL_skip (by omega) d5]; done) | (rw [dl_none d0]; simp; done) | (have e : k = l.length := (by omega); subst e; unfold dlL dlF; rw [List.take_length, List.take_left]; done))))
 exact RetF_1 t4 fh (FinV.trans_eq (FinV.same fh _) (by first | rfl | (rw [d3]; exact congrArg (V.int .i64) (by first | rfl | omega)) | (exact congrArg (V.int .i64) (by omega)) | (rw [dlF_keep (by omega) d5, List.length_append]; rfl) | (rw [dlF_skip (by omega) d5]; done) | (rw [dl_none d0]; done) | (have e : k = l.length := (by omega); subst e; unfold dlF; rw [List.take_length]; done)))
end Go.Proofs.Ytngkckefanbhgaa

namespace Go.Proofs.Ytngkckefanbhgaa
open Go Go.Proofs
theorem bs_pure (l : List Tr) (t : Tr) (hs : Srt l) (hl : l.length ≤ 1000000) : PureC Try.prog 118 [(V.sl (List.map cT (l))), (V.agg [(V.sl (List.map cI (t.ni))), (V.sl (List.map cI (t.no)))]), (V.fn 79 [] [])] (V.tup [(iV ((lbN l t : Nat) : Int)), (V.bool (decide (lbN l t < l.length ∧ slx (nth l (lbN l t)).ni t.ni = 0)))]) := by
 refine pure_of_Wb true 6 Try.func118 s118_ok (by kernel_rfl) (by simp [s118]) (by simp) (by simp) fun hB => ?_
 simp only [bnd_map, bnd_int, bnd_bool, bnd_str, bnd_agg, bnd_pp, bnd_nil, bnd_cons, implies_true, and_true, true_and] at hB
 unfold s118
 dsimp only
 have q0 := lb_le (t := t) l
 refine W_seq_regc (fun T H => T 0 = (V.sl (List.map cT (l))) ∧ T 2 = (V.fn 79 [] []) ∧ T 4 = (V.mp 4 1 0 0) ∧ H 4 = (⟨1, true, false, 63, 2, [[(V.sl (List.map cI (t.ni))), (V.sl (List.map cI (t.no)))]]⟩ : Blk) ∧ True) ?_ ?_
 ·
  unfold r118_0
  refine R_box (i := 4) (n := 0) (m := 2) (cs := [(V.sl (List.map cI (t.ni))), (V.sl (List.map cI (t.no)))]) rfl (congrArg Blk.ver rfl) (@rfl V (V.agg [(V.sl (List.map cI (t.ni))), (V.sl (List.map cI (t.no)))])) rfl rfl ?_
  refine R_mv (@rfl V (iV (0 : Int))) ?_
  refine R_mv (@rfl V (V.bool false)) ?_
  exact R_nil ⟨rfl, rfl, rfl, rfl, trivial⟩
 intro T H ⟨t0, t2, t4, h4, _⟩
 refine W_seq_regc (fun T H => T 0 = (V.sl (List.map cT (l))) ∧ T 2 = (V.fn 79 [] []) ∧ T 4 = (V.mp 4 1 0 0) ∧ T 8 = (iV ((l.length : Nat) : Int)) ∧ H 4 = (⟨1, true, false, 63, 2, [[(V.sl (List.map cI (t.ni))), (V.sl (List.map cI (t.no)))]]⟩ : Blk) ∧ True) ?_ ?_
 ·
  unfold r118_1
  refine R_mv t0 ?_
  refine R_len (@rfl V (V.sl (List.map cT (l)))) ?_
  refine R_mv (@rfl V (iV ((l.length : Nat) : Int))) ?_
  exact R_nil ⟨t0, t2, t4, rfl, h4, trivial⟩
 intro T H ⟨t0, t2, t4, t8, h4, _⟩
 refine W_seq_regc (fun T H => T 0 = (V.sl (List.map cT (l))) ∧ T 2 = (V.fn 79 [] []) ∧ T 4 = (V.mp 4 1 0 0) ∧ T 8 = (iV ((l.length : Nat) : Int)) ∧ T 9 = (iV (0 : Int)) ∧ T 10 = (iV ((l.length : Nat) : Int)) ∧ H 4 = (⟨1, true, false, 63, 2, [[(V.sl (List.map cI (t.ni))), (V.sl (List.map cI (t.no)))]]⟩ : Blk) ∧ True) ?_ ?_
 ·
  unfold r118_2
  refine R_mv t8 ?_
  refine R_mv (@rfl V (iV (0 : Int))) ?_
  refine R_mv (@rfl V (iV ((l.length : Nat) : Int))) ?_
  exact R_nil ⟨t0, t2, t4, t8, rfl, rfl, h4, trivial⟩
 intro T H ⟨t0, t2, t4, t8, t9, t10, h4, _⟩
 refine W_seq_blockg fun Q1 n1 x1 y1 z1 => ?_
 refine W_loop (fun mm T H => ∃ (i : Nat) (j : Nat), mm = j - i ∧ T 0 = (V.sl (List.map cT (l))) ∧ T 2 = (V.fn 79 [] []) ∧ T 4 = (V.mp 4 1 0 0) ∧ T 8 = (iV ((l.length : Nat) : Int)) ∧ T 9 = (iV ((i : Nat) : Int)) ∧ T 10 = (iV ((j : Nat) : Int)) ∧ H 4 = (⟨1, true, false, 63, 2, [[(V.sl (List.map cI (t.ni))), (V.sl (List.map cI (t.no)))]]⟩ : Blk) ∧ (i ≤ lbN l t) ∧ (lbN l t ≤ j) ∧ (j ≤ l.length)) ?_ ?_
 ·
  refine ⟨_, 0, l.length, rfl, t0, t2, t4, t8, (Eq.trans t9 (by first | rfl | simp)), t10, h4, ?_, ?_, ?_⟩
  · omega
  · omega
  · omega
 intro mm T H ⟨i, j, hmm, t0, t2, t4, t8, t9, t10, h4, h1, h2, h3⟩ Q2 p12 p22 p32
 unfold b118_0
 refine W_seq_seq ?_
 refine W_seq_regc (fun T H => T 0 = (V.sl (List.map cT (l))) ∧ T 2 = (V.fn 79 [] []) ∧ T 4 = (V.mp 4 1 0 0) ∧ T 8 = (iV ((l.length : Nat) : Int)) ∧ T 9 = (iV ((i : Nat) : Int)) ∧ T 10 = (iV ((j : Nat) : Int)) ∧ T 17 = (V.bool (decide (((i : Nat) : Int) < ((j : Nat) : Int)))) ∧ H 4 = (⟨1, true, false, 63, 2, [[(V.sl (List.map cI (t.ni))), (V.sl (List.map cI (t.no)))]]⟩ : Blk) ∧ True) ?_ ?_
 ·
  unfold r118_3
  refine R_mv t9 ?_
  refine R_mv t10 ?_
  refine R_lss (x := ((i : Nat) : Int)) (y := ((j : Nat) : Int)) (@rfl V (iV ((i : Nat) : Int))) (@rfl V (iV ((j : Nat) : Int))) ?_
  exact R_nil ⟨t0, t2, t4, t8, t9, t10, rfl, h4, trivial⟩
 intro T H ⟨t0, t2, t4, t8, t9, t10, t17, h4, _⟩
 refine W_seq_if (p := ((i : Nat) : Int) < ((j : Nat) : Int)) t17 (fun c3 => ?_) (fun c3 => ?_)
 ·
  refine W_seq_skip ?_
  refine W_block fun Q4 n4 x4 y4 z4 => ?_
  refine W_seq_regc (fun T H => T 0 = (V.sl (List.map cT (l))) ∧ T 2 = (V.fn 79 [] []) ∧ T 4 = (V.mp 4 1 0 0) ∧ T 8 = (iV ((l.length : Nat) : Int)) ∧ T 9 = (iV ((i : Nat) : Int)) ∧ T 10 = (iV ((j : Nat) : Int)) ∧ T 11 = (iV (((i + j) / 2 : Nat) : Int)) ∧ H 4 = (⟨1, true, false, 63, 2, [[(V.sl (List.map cI (t.ni))), (V.sl (List.map cI (t.no)))]]⟩ : Blk) ∧ True) ?_ ?_
  ·
   unfold r118_4
   refine R_mv t9 ?_
   refine R_mv t10 ?_
   refine R_addN (m := i) (n := j) (@rfl V (iV ((i : Nat) : Int))) (@rfl V (iV ((j : Nat) : Int))) (by omega) ?_
   refine R_convU (n := (i + j)) (@rfl V (iV ((i + j : Nat) : Int))) (by omega) ?_
   refine R_shr1 (n := (i + j)) (@rfl V (V.int .u64 (((i + j : Nat) : Int)))) (@rfl V (V.int .u64 (1))) ?_
   refine R_convI (n := ((i + j) / 2)) (@rfl V (V.int .u64 ((((i + j) / 2 : Nat) : Int)))) (by omega) ?_
   refine R_mv (@rfl V (iV (((i + j) / 2 : Nat) : Int))) ?_
   exact R_nil ⟨t0, t2, t4, t8, t9, t10, rfl, h4, trivial⟩
  intro T H ⟨t0, t2, t4, t8, t9, t10, t11, h4, _⟩
  refine W_seq_regc (fun T H => T 0 = (V.sl (List.map cT (l))) ∧ T 2 = (V.fn 79 [] []) ∧ T 4 = (V.mp 4 1 0 0) ∧ T 8 = (iV ((l.length : Nat) : Int)) ∧ T 9 = (iV ((i : Nat) : Int)) ∧ T 10 = (iV ((j : Nat) : Int)) ∧ T 11 = (iV (((i + j) / 2 : Nat) : Int)) ∧ T 31 = (V.bool (decide ((slx ((nth (l) ((i + j) / 2))).ni t.ni) < (0 : Int)))) ∧ H 4 = (⟨1, true, false, 63, 2, [[(V.sl (List.map cI (t.ni))), (V.sl (List.map cI (t.no)))]]⟩ : Blk) ∧ True) ?_ ?_
  ·
   unfold r118_5
   refine R_mv t2 ?_
   refine R_mv t0 ?_
   refine R_mv t11 ?_
   refine R_idx (i := ((i + j) / 2)) (@rfl V (V.sl (List.map cT (l)))) (@rfl V (iV (((i + j) / 2 : Nat) : Int))) (by omega) rfl ?_
   refine R_load_pp (v := (V.agg [(V.sl (List.map cI ((nth (l) ((i + j) / 2)).ni))), (V.sl (List.map cI ((nth (l) ((i + j) / 2)).no)))])) (@rfl V (V.pp [(V.sl (List.map cI ((nth (l) ((i + j) / 2)).ni))), (V.sl (List.map cI ((nth (l) ((i + j) / 2)).no)))])) (by first | rfl | simp [ldV]) ?_
   refine R_load_mp (v := (V.agg [(V.sl (List.map cI (t.ni))), (V.sl (List.map cI (t.no)))])) t4 h4 (by first | rfl | simp [ldB, ldV, Blk.own, V.one]) ?_
   refine R_callv (@rfl V (V.fn 79 [] [])) (evcons (@rfl V (V.agg [(V.sl (List.map cI ((nth (l) ((i + j) / 2)).ni))), (V.sl (List.map cI ((nth (l) ((i + j) / 2)).no)))])) (evcons (@rfl V (V.agg [(V.sl (List.map cI (t.ni))), (V.sl (List.map cI (t.no)))])) evnil)) (order_pure ((nth (l) ((i + j) / 2))) t) (fzv_mapcanon _ _ (by simp [-List.map_take, -List.map_drop, -List.map_append, -List.map_reverse])) (by simp [-List.map_take, -List.map_drop, -List.map_append, -List.map_reverse]) (Or.inl (by simp [-List.map_take, -List.map_drop, -List.map_append, -List.map_reverse])) ?_
   refine R_lss (x := (slx ((nth (l) ((i + j) / 2))).ni t.ni)) (y := (0 : Int)) (@rfl V (iV (slx ((nth (l) ((i + j) / 2))).ni t.ni))) (@rfl V (iV (0 : Int))) ?_
   exact R_nil ⟨t0, t2, t4, t8, t9, t10, t11, rfl, h4, trivial⟩
  intro T H ⟨t0, t2, t4, t8, t9, t10, t11, t31, h4, _⟩
  refine W_if (p := (slx ((nth (l) ((i + j) / 2))).ni t.ni) < (0 : Int)) t31 (fun c5 => ?_) (fun c5 => ?_)
  ·
   have d1 := (lb_iff hs (by omega)).1 c5
   refine W_regc (fun T H => T 0 = (V.sl (List.map cT (l))) ∧ T 2 = (V.fn 79 [] []) ∧ T 4 = (V.mp 4 1 0 0) ∧ T 8 = (iV ((l.length : Nat) : Int)) ∧ T 9 = (iV ((((i + j) / 2) + 1 : Nat) : Int)) ∧ T 10 = (iV ((j : Nat) : Int)) ∧ H 4 = (⟨1, true, false, 63, 2, [[(V.sl (List.map cI (t.ni))), (V.sl (List.map cI (t.no)))]]⟩ : Blk) ∧ True) ?_ ?_
   ·
    unfold r118_6
    refine R_mv t11 ?_
    refine R_addN (m := ((i + j) / 2)) (n := 1) (@rfl V (iV (((i + j) / 2 : Nat) : Int))) (@rfl V (iV ((1 : Nat) : Int))) (by omega) ?_
    refine R_mv (@rfl V (iV ((((i + j) / 2) + 1 : Nat) : Int))) ?_
    exact R_nil ⟨t0, t2, t4, t8, rfl, t10, h4, trivial⟩
   intro T H ⟨t0, t2, t4, t8, t9, t10, h4, _⟩
   refine n4 _ _ ?_
   refine p12 _ _ _ ?_ ⟨(((i + j) / 2) + 1), j, rfl, t0, t2, t4, t8, (Eq.trans t9 (by first | rfl | simp)), t10, h4, ?_, ?_, ?_⟩
   · omega
   · omega
   · omega
   · omega
  have d1 : ¬((i + j) / 2 < lbN l t) := fun e => c5 ((lb_iff hs (by omega)).2 e)
  refine W_regc (fun T H => T 0 = (V.sl (List.map cT (l))) ∧ T 2 = (V.fn 79 [] []) ∧ T 4 = (V.mp 4 1 0 0) ∧ T 8 = (iV ((l.length : Nat) : Int)) ∧ T 9 = (iV ((i : Nat) : Int)) ∧ T 10 = (iV (((i + j) / 2 : Nat) : Int)) ∧ H 4 = (⟨1, true, false, 63, 2, [[(V.sl (List.map cI (t.ni))), (V.sl (List.map cI (t.no)))]]⟩ : Blk) ∧ True) ?_ ?_
  ·
   unfold r118_7
   refine R_mv t11 ?_
   refine R_mv (@rfl V (iV (((i + j) / 2 : Nat) : Int))) ?_
   exact R_nil ⟨t0, t2, t4, t8, t9, rfl, h4, trivial⟩
  intro T H ⟨t0, t2, t4, t8, t9, t10, h4, _⟩
  refine n4 _ _ ?_
  refine p12 _ _ _ ?_ ⟨i, ((i + j) / 2), rfl, t0, t2, t4, t8, t9, (Eq.trans t10 (by first | rfl | simp)), h4, ?_, ?_, ?_⟩
  · omega
  · omega
  · omega
  · omega
 refine W_seq_exit ?_
 refine p32 _ _ _ ?_
 refine x1 _ _ ?_
 refine .done ?_
 refine W_seq_regc (fun T H => T 6 = (iV ((i : Nat) : Int)) ∧ T 7 = (V.bool (decide ((((i : Nat) : Int) < ((l.length : Nat) : Int)) ∧ ((slx ((nth (l) (i))).ni t.ni) = (0 : Int))))) ∧ H 4 = (⟨1, true, false, 63, 2, [[(V.sl (List.map cI (t.ni))), (V.sl (List.map cI (t.no)))]]⟩ : Blk) ∧ True) ?_ ?_
 ·
  unfold r118_8
  refine R_mv t9 ?_
  refine R_mv t9 ?_
  refine R_mv t8 ?_
  refine R_lss (x := ((i : Nat) : Int)) (y := ((l.length : Nat) : Int)) (@rfl V (iV ((i : Nat) : Int))) (@rfl V (iV ((l.length : Nat) : Int))) ?_
  refine R_mv (@rfl V (V.bool (decide (((i : Nat) : Int) < ((l.length : Nat) : Int))))) ?_
  refine Ops_seg 9 (fun T H => T 35 = (iV ((i : Nat) : Int)) ∧ T 48 = (V.bool (decide ((((i : Nat) : Int) < ((l.length : Nat) : Int)) ∧ ((slx ((nth (l) (i))).ni t.ni) = (0 : Int))))) ∧ H 4 = (⟨1, true, false, 63, 2, [[(V.sl (List.map cI (t.ni))), (V.sl (List.map cI (t.no)))]]⟩ : Blk) ∧ True) ?_ ?_
  ·
   by_cases g6 : ((i : Nat) : Int) < ((l.length : Nat) : Int)
   ·
    refine G_yes (Eq.trans (@rfl V (V.bool (decide (((i : Nat) : Int) < ((l.length : Nat) : Int))))) (bdT g6)) ?_
    refine R_mv t2 ?_
    refine G_yes (Eq.trans (@rfl V (V.bool (decide (((i : Nat) : Int) < ((l.length : Nat) : Int))))) (bdT g6)) ?_
    refine R_mv t0 ?_
    refine G_yes (Eq.trans (@rfl V (V.bool (decide (((i : Nat) : Int) < ((l.length : Nat) : Int))))) (bdT g6)) ?_
    refine R_mv t9 ?_
    refine G_yes (Eq.trans (@rfl V (V.bool (decide (((i : Nat) : Int) < ((l.length : Nat) : Int))))) (bdT g6)) ?_
    refine R_idx (i := i) (@rfl V (V.sl (List.map cT (l)))) (@rfl V (iV ((i : Nat) : Int))) (by omega) rfl ?_
    refine G_yes (Eq.trans (@rfl V (V.bool (decide (((i : Nat) : Int) < ((l.length : Nat) : Int))))) (bdT g6)) ?_
    refine R_load_pp (v := (V.agg [(V.sl (List.map cI ((nth (l) (i)).ni))), (V.sl (List.map cI ((nth (l) (i)).no)))])) (@rfl V (V.pp [(V.sl (List.map cI ((nth (l) (i)).ni))), (V.sl (List.map cI ((nth (l) (i)).no)))])) (by first | rfl | simp [ldV]) ?_
    refine G_yes (Eq.trans (@rfl V (V.bool (decide (((i : Nat) : Int) < ((l.length : Nat) : Int))))) (bdT g6)) ?_
    refine R_load_mp (v := (V.agg [(V.sl (List.map cI (t.ni))), (V.sl (List.map cI (t.no)))])) t4 h4 (by first | rfl | simp [ldB, ldV, Blk.own, V.one]) ?_
    refine G_yes (Eq.trans (@rfl V (V.bool (decide (((i : Nat) : Int) < ((l.length : Nat) : Int))))) (bdT g6)) ?_
    refine R_callv (@rfl V (V.fn 79 [] [])) (evcons (@rfl V (V.agg [(V.sl (List.map cI ((nth (l) (i)).ni))), (V.sl (List.map cI ((nth (l) (i)).no)))])) (evcons (@rfl V (V.agg [(V.sl (List.map cI (t.ni))), (V.sl (List.map cI (t.no)))])) evnil)) (order_pure ((nth (l) (i))) t) (fzv_mapcanon _ _ (by simp [-List.map_take, -List.map_drop, -List.map_append, -List.map_reverse])) (by simp [-List.map_take, -List.map_drop, -List.map_append, -List.map_reverse]) (Or.inl (by simp [-List.map_take, -List.map_drop, -List.map_append, -List.map_reverse])) ?_
    refine G_yes (Eq.trans (@rfl V (V.bool (decide (((i : Nat) : Int) < ((l.length : Nat) : Int))))) (bdT g6)) ?_
    refine R_eql (x := (slx ((nth (l) (i))).ni t.ni)) (y := (0 : Int)) (@rfl V (iV (slx ((nth (l) (i))).ni t.ni))) (@rfl V (iV (0 : Int))) ?_
    refine R_pickT (Eq.trans (@rfl V (V.bool (decide (((i : Nat) : Int) < ((l.length : Nat) : Int))))) (bdT g6)) (@rfl V (V.bool (decide ((slx ((nth (l) (i))).ni t.ni) = (0 : Int))))) ?_
    exact ⟨rfl, (Eq.trans (@rfl V (V.bool (decide ((slx ((nth (l) (i))).ni t.ni) = (0 : Int))))) (dec_andT g6)), h4, trivial⟩
   ·
    refine G_no (Eq.trans (@rfl V (V.bool (decide (((i : Nat) : Int) < ((l.length : Nat) : Int))))) (bdF g6)) (by decide) ?_
    refine G_no (Eq.trans (@rfl V (V.bool (decide (((i : Nat) : Int) < ((l.length : Nat) : Int))))) (bdF g6)) (by decide) ?_
    refine G_no (Eq.trans (@rfl V (V.bool (decide (((i : Nat) : Int) < ((l.length : Nat) : Int))))) (bdF g6)) (by decide) ?_
    refine G_no (Eq.trans (@rfl V (V.bool (decide (((i : Nat) : Int) < ((l.length : Nat) : Int))))) (bdF g6)) (by decide) ?_
    refine G_no (Eq.trans (@rfl V (V.bool (decide (((i : Nat) : Int) < ((l.length : Nat) : Int))))) (bdF g6)) (by decide) ?_
    refine G_no (Eq.trans (@rfl V (V.bool (decide (((i : Nat) : Int) < ((l.length : Nat) : Int))))) (bdF g6)) (by decide) ?_
    refine G_no (Eq.trans (@rfl V (V.bool (decide (((i : Nat) : Int) < ((l.length : Nat) : Int))))) (bdF g6)) (by decide) ?_
    refine G_no (Eq.trans (@rfl V (V.bool (decide (((i : Nat) : Int) < ((l.length : Nat) : Int))))) (bdF g6)) (by decide) ?_
    refine R_pickF (Eq.trans (@rfl V (V.bool (decide (((i : Nat) : Int) < ((l.length : Nat) : Int))))) (bdF g6)) (@rfl V (V.bool false)) ?_
    exact ⟨rfl, (Eq.trans (@rfl V (V.bool false)) (dec_andF g6)), h4, trivial⟩
  intro T H ⟨t35, t48, h4, _⟩
  refine R_mv t35 ?_
  refine R_mv t48 ?_
  exact R_nil ⟨rfl, rfl, h4, trivial⟩
 intro T H ⟨t6, t7, h4, _⟩
 refine W_ret ?_
 refine Ret_2 t6 t7 (fz_int ?_) (fz_bool ?_)
 · have e : i = lbN l t := by omega
   rw [e]
 · have e : i = lbN l t := by omega
   rw [e]; exact decide_eq_decide.2 (by omega)
end Go.Proofs.Ytngkckefanbhgaa

namespace Go.Proofs.Ytngkckefanbhgaa
open Go Go.Proofs
theorem insert_tr {F : List Tr} {t : Tr} {v9 v54 ty2 : Nat} {H : Heap} (r : List (List V)) (h209 : H 209 = ⟨v9, true, false, 63, 2, List.map cT F ++ r⟩) (h354 : H 354 = ⟨v54, true, false, ty2, 2, [cT t]⟩) (hl : F.length ≤ 100000) (hs : Srt F) :
    CallOK Try.prog 119 [.ms 209 v9 0 F.length, iV ((lbN F t : Nat) : Int), .ms 354 v54 0 1] H (.ms 209 (v9 + 2) 0 (F.length + 1)) (upd H 209 ⟨v9 + 2, true, false, 63, 2, List.map cT (ins F t)⟩) := by
  have hf : ∀ l : List Tr, fitRows 2 (List.map cT l) = true := fun l => by
    simp only [fitRows, List.all_eq_true]
    intro r hr
    obtain ⟨x, _, rfl⟩ := List.mem_map.1 hr
    rfl
  have e : (List.map cT F ++ r).take F.length = List.map cT F := take_zap rfl
  have := CallOK_insert (zz := [.nilsl, .nilsl]) (row := cT t) (i := lbN F t) (n := F.length) insLay119 insCall119 (by kernel_rfl) rfl h209 h354 (by decide) (by simp) (lb_le F) (by rw [e]; exact hf F) (hf [t]) (by omega) (by omega)
  rw [e] at this
  rw [← ins_at hs, List.map_append, List.map_cons, List.map_take, List.map_drop]
  exact this
theorem add_ok_E (l : List Tr) (t : Tr) (i : Int) (v9 v3 v8 v54 v7 : Nat) (ho : OK ⟨i, l⟩) (hpt : prE t i = 0) (he : addE l t = 0) (Hi : Heap) (h209 : Hi 209 = (⟨v9, true, false, 63, 2, (List.map cT (l))⟩ : Blk)) (h303 : (Hi 303).ver = v3) (h308 : (Hi 308).ver = v8) (h354 : (Hi 354).ver = v54) (h407 : (Hi 407).ver = v7) : CallOK Try.prog 103 [(V.ms 209 v9 0 (l.length)), (V.agg [(V.sl (List.map cI (t.ni))), (V.sl (List.map cI (t.no)))])] Hi (V.tup [(V.ms 209 (v9 + 2) 0 ((addL l t).length)), (iV (addE l t))]) (upd (upd (upd (upd (upd Hi 303 (⟨v3 + 1, false, false, 0, 0, []⟩ : Blk)) 308 (⟨v8 + l.length, false, false, 0, 0, []⟩ : Blk)) 354 (⟨v54 + 1, false, false, 0, 0, []⟩ : Blk)) 407 (⟨v7 + l.length, false, false, 0, 0, []⟩ : Blk)) 209 (⟨v9 + 2, true, false, 63, 2, (List.map cT (addL l t))⟩ : Blk)) := by
 refine CallOK_of_Wf (k0 := 300) Try.func103 s103_ok (by kernel_rfl) (by simp [s103]) fun hB => ?_
 simp only [bnd_map, bnd_int, bnd_bool, bnd_str, bnd_agg, bnd_pp, bnd_nil, bnd_cons, implies_true, and_true, true_and] at hB
 have hl : l.length ≤ 10000 := ho.len
 have hp1 := prE_ok hpt
 have hp2 := hp1.len
 have hp3 := hp1.lel
 have hpl : ∀ k, k < l.length → (nth l k).no.length = (nth l k).ni.length := fun k hk => ((ho.pr k hk).1.len)
 have hfl := List.length_filter_le (kp t) l
 have hsr : Srt (l.filter (kp t)) := filter_srt ho.srt _
 unfold s103
 dsimp only
 refine W_seq_regc (fun T H => T 0 = (V.ms 209 v9 0 (l.length)) ∧ T 3 = (V.mp 303 (v3 + 1) 0 0) ∧ (∀ j, j ∉ [303, 308, 354, 407, 209] → H j = Hi j) ∧ H 209 = (⟨v9, true, false, 63, 2, (List.map cT (l))⟩ : Blk) ∧ H 303 = (⟨v3 + 1, true, false, 63, 2, [[(V.sl (List.map cI (t.ni))), (V.sl (List.map cI (t.no)))]]⟩ : Blk) ∧ (H 308).ver = v8 ∧ (H 354).ver = v54 ∧ (H 407).ver = v7 ∧ True) ?_ ?_
 ·
  unfold r103_0
  refine R_box (i := 303) (n := v3) (m := 2) (cs := [(V.sl (List.map cI (t.ni))), (V.sl (List.map cI (t.no)))]) (by rfl) h303 (@rfl V (V.agg [(V.sl (List.map cI (t.ni))), (V.sl (List.map cI (t.no)))])) rfl rfl ?_
  refine R_mv (@rfl V V.nilsl) ?_
  refine R_mv (@rfl V (iV (0 : Int))) ?_
  exact R_nil ⟨rfl, rfl, (upd_out (fun _ _ => rfl) (by decide)), h209, rfl, h308, h354, h407, trivial⟩
 intro T H ⟨t0, t3, hF, h209, h303, h308, h354, h407, _⟩
 refine W_seq_regc (fun T H => T 0 = (V.ms 209 v9 0 (l.length)) ∧ T 3 = (V.mp 303 (v3 + 1) 0 0) ∧ T 6 = (V.bool false) ∧ (∀ j, j ∉ [303, 308, 354, 407, 209] → H j = Hi j) ∧ H 209 = (⟨v9, true, false, 63, 2, (List.map cT (l))⟩ : Blk) ∧ H 303 = (⟨v3 + 1, true, false, 63, 2, [[(V.sl (List.map cI (t.ni))), (V.sl (List.map cI (t.no)))]]⟩ : Blk) ∧ (H 308).ver = v8 ∧ (H 354).ver = v54 ∧ (H 407).ver = v7 ∧ True) ?_ ?_
 ·
  unfold r103_1
  refine R_mv (@rfl V (V.bool false)) ?_
  exact R_nil ⟨t0, t3, rfl, hF, h209, h303, h308, h354, h407, trivial⟩
 intro T H ⟨t0, t3, t6, hF, h209, h303, h308, h354, h407, _⟩
 refine W_seq_seq ?_
 refine W_seq_regc (fun T H => T 0 = (V.ms 209 v9 0 (l.length)) ∧ T 3 = (V.mp 303 (v3 + 1) 0 0) ∧ T 6 = (V.bool false) ∧ T 11 = (V.ms 209 v9 0 (l.length)) ∧ T 12 = (iV ((l.length : Nat) : Int)) ∧ T 13 = (iV (0 : Int)) ∧ (∀ j, j ∉ [303, 308, 354, 407, 209] → H j = Hi j) ∧ H 209 = (⟨v9, true, false, 63, 2, (List.map cT (l))⟩ : Blk) ∧ H 303 = (⟨v3 + 1, true, false, 63, 2, [[(V.sl (List.map cI (t.ni))), (V.sl (List.map cI (t.no)))]]⟩ : Blk) ∧ (H 308).ver = v8 ∧ (H 354).ver = v54 ∧ (H 407).ver = v7 ∧ True) ?_ ?_
 ·
  unfold r103_2
  refine R_mv t0 ?_
  refine R_len_ms (@rfl V (V.ms 209 v9 0 (l.length))) h209 (by first | rfl | simp) ?_
  refine R_mv (@rfl V (iV (0 : Int))) ?_
  exact R_nil ⟨t0, t3, t6, rfl, rfl, rfl, hF, h209, h303, h308, h354, h407, trivial⟩
 intro T H ⟨t0, t3, t6, t11, t12, t13, hF, h209, h303, h308, h354, h407, _⟩
 refine W_seq_blockg fun Q1 n1 x1 y1 z1 => ?_
 refine W_loop (fun mm T H => ∃ (k : Nat) (v308 : Nat), mm = l.length - k ∧ T 0 = (V.ms 209 v9 0 (l.length)) ∧ T 3 = (V.mp 303 (v3 + 1) 0 0) ∧ T 6 = (V.bool (exB (inP l t) 0 k)) ∧ T 11 = (V.ms 209 v9 0 (l.length)) ∧ T 12 = (iV ((l.length : Nat) : Int)) ∧ T 13 = (iV ((k : Nat) : Int)) ∧ (∀ j, j ∉ [303, 308, 354, 407, 209] → H j = Hi j) ∧ H 209 = (⟨v9, true, false, 63, 2, (List.map cT (l))⟩ : Blk) ∧ H 303 = (⟨v3 + 1, true, false, 63, 2, [[(V.sl (List.map cI (t.ni))), (V.sl (List.map cI (t.no)))]]⟩ : Blk) ∧ (H 308).ver = v308 ∧ (H 354).ver = v54 ∧ (H 407).ver = v7 ∧ (k ≤ l.length) ∧ (v308 ≤ v8 + k) ∧ (fi (ndP l t) 0 l.length = fi (ndP l t) k (l.length - k))) ?_ ?_
 ·
  refine ⟨_, 0, v8, rfl, t0, t3, (Eq.trans t6 (by first | rfl | (simp only [exB, inP, Nat.zero_add]; done) | (rw [he]; done) | (rw [addL, if_pos d2]; done) | (rw [addL, if_neg d2, ins_len]; done) | (rw [addE, if_pos (by rw [hc, fi_hit d1 (by omega)]; omega)]; done) | (rw [addE, if_neg d4, if_neg d2, if_pos (by omega)]; done))), t11, t12, (Eq.trans t13 (by first | rfl | (simp only [exB, inP, Nat.zero_add]; done) | (rw [he]; done) | (rw [addL, if_pos d2]; done) | (rw [addL, if_neg d2, ins_len]; done) | (rw [addE, if_pos (by rw [hc, fi_hit d1 (by omega)]; omega)]; done) | (rw [addE, if_neg d4, if_neg d2, if_pos (by omega)]; done))), hF, h209, h303, h308, h354, h407, ?_, ?_, ?_⟩
  · omega
  · omega
  · rfl
 intro mm T H ⟨k, v308, hmm, t0, t3, t6, t11, t12, t13, hF, h209, h303, h308, h354, h407, hk, hv8, hc⟩ Q2 p12 p22 p32
 unfold b103_0
 refine W_seq_regc (fun T H => T 0 = (V.ms 209 v9 0 (l.length)) ∧ T 3 = (V.mp 303 (v3 + 1) 0 0) ∧ T 6 = (V.bool (exB (inP l t) 0 k)) ∧ T 11 = (V.ms 209 v9 0 (l.length)) ∧ T 12 = (iV ((l.length : Nat) : Int)) ∧ T 13 = (iV ((k : Nat) : Int)) ∧ T 14 = (V.bool (decide (((k : Nat) : Int) < ((l.length : Nat) : Int)))) ∧ (∀ j, j ∉ [303, 308, 354, 407, 209] → H j = Hi j) ∧ H 209 = (⟨v9, true, false, 63, 2, (List.map cT (l))⟩ : Blk) ∧ H 303 = (⟨v3 + 1, true, false, 63, 2, [[(V.sl (List.map cI (t.ni))), (V.sl (List.map cI (t.no)))]]⟩ : Blk) ∧ (H 308).ver = v308 ∧ (H 354).ver = v54 ∧ (H 407).ver = v7 ∧ True) ?_ ?_
 ·
  unfold r103_3
  refine R_lss (x := ((k : Nat) : Int)) (y := ((l.length : Nat) : Int)) t13 t12 ?_
  exact R_nil ⟨t0, t3, t6, t11, t12, t13, rfl, hF, h209, h303, h308, h354, h407, trivial⟩
 intro T H ⟨t0, t3, t6, t11, t12, t13, t14, hF, h209, h303, h308, h354, h407, _⟩
 refine W_seq_if (p := ((k : Nat) : Int) < ((l.length : Nat) : Int)) t14 (fun c3 => ?_) (fun c3 => ?_)
 ·
  refine W_seq_skip ?_
  refine W_seq_blockg fun Q4 n4 x4 y4 z4 => ?_
  refine W_seq_regc (fun T H => T 0 = (V.ms 209 v9 0 (l.length)) ∧ T 3 = (V.mp 303 (v3 + 1) 0 0) ∧ T 6 = (V.bool (exB (inP l t) 0 k)) ∧ T 8 = (V.mp 308 (v308 + 1) 0 0) ∧ T 11 = (V.ms 209 v9 0 (l.length)) ∧ T 12 = (iV ((l.length : Nat) : Int)) ∧ T 13 = (iV ((k : Nat) : Int)) ∧ (∀ j, j ∉ [303, 308, 354, 407, 209] → H j = Hi j) ∧ H 209 = (⟨v9, true, false, 63, 2, (List.map cT (l))⟩ : Blk) ∧ H 303 = (⟨v3 + 1, true, false, 63, 2, [[(V.sl (List.map cI (t.ni))), (V.sl (List.map cI (t.no)))]]⟩ : Blk) ∧ H 308 = (⟨v308 + 1, true, false, 63, 2, [[(V.sl (List.map cI ((nth (l) (k)).ni))), (V.sl (List.map cI ((nth (l) (k)).no)))]]⟩ : Blk) ∧ (H 354).ver = v54 ∧ (H 407).ver = v7 ∧ True) ?_ ?_
  ·
   unfold r103_4
   refine R_idx_ms0 (i := k) t11 t13 h209 (okB_map (by omega)) rfl (by omega) ?_
   refine R_load_mp (v := (V.agg [(V.sl (List.map cI ((nth (l) (k)).ni))), (V.sl (List.map cI ((nth (l) (k)).no)))])) (@rfl V (V.mp 209 v9 k 0)) h209 (ldB_map (by omega) (by first | rfl | simp [ldV, V.one])) ?_
   refine R_alloc (i := 308) (n := v308) (m := 2) (by rfl) h308 rfl ?_
   refine R_store (vs := [(V.sl (List.map cI ((nth (l) (k)).ni))), (V.sl (List.map cI ((nth (l) (k)).no)))]) (B' := (⟨v308 + 1, true, false, 63, 2, [[(V.sl (List.map cI ((nth (l) (k)).ni))), (V.sl (List.map cI ((nth (l) (k)).no)))]]⟩ : Blk)) (@rfl V (V.mp 308 (v308 + 1) 0 0)) (@rfl V (V.agg [(V.sl (List.map cI ((nth (l) (k)).ni))), (V.sl (List.map cI ((nth (l) (k)).no)))])) rfl (@rfl Blk (⟨v308 + 1, true, false, 63, 2, [[V.nilsl, V.nilsl]]⟩ : Blk)) (by first | rfl | simp [stB, okB, Blk.own, putAt, V.one]) ?_
   exact R_nil ⟨t0, t3, t6, rfl, t11, t12, t13, (upd_out (upd_out hF (by decide)) (by decide)), h209, h303, rfl, h354, h407, trivial⟩
  intro T H ⟨t0, t3, t6, t8, t11, t12, t13, hF, h209, h303, h308, h354, h407, _⟩
  refine W_seq_seq ?_
  refine W_seq_regc (fun T H => T 0 = (V.ms 209 v9 0 (l.length)) ∧ T 3 = (V.mp 303 (v3 + 1) 0 0) ∧ T 6 = (V.bool (exB (inP l t) 0 k)) ∧ T 8 = (V.mp 308 (v308 + 1) 0 0) ∧ T 11 = (V.ms 209 v9 0 (l.length)) ∧ T 12 = (iV ((l.length : Nat) : Int)) ∧ T 13 = (iV ((k : Nat) : Int)) ∧ T 20 = (V.bool (decide ((0 : Int) ≤ (df ((nth (l) (k))) t)))) ∧ (∀ j, j ∉ [303, 308, 354, 407, 209] → H j = Hi j) ∧ H 209 = (⟨v9, true, false, 63, 2, (List.map cT (l))⟩ : Blk) ∧ H 303 = (⟨v3 + 1, true, false, 63, 2, [[(V.sl (List.map cI (t.ni))), (V.sl (List.map cI (t.no)))]]⟩ : Blk) ∧ H 308 = (⟨v308 + 1, true, false, 63, 2, [[(V.sl (List.map cI ((nth (l) (k)).ni))), (V.sl (List.map cI ((nth (l) (k)).no)))]]⟩ : Blk) ∧ (H 354).ver = v54 ∧ (H 407).ver = v7 ∧ True) ?_ ?_
  ·
   unfold r103_5
   refine R_load_mp (v := (V.agg [(V.sl (List.map cI ((nth (l) (k)).ni))), (V.sl (List.map cI ((nth (l) (k)).no)))])) t8 h308 (by first | rfl | simp [ldB, ldV, Blk.own, V.one]) ?_
   refine R_load_mp (v := (V.agg [(V.sl (List.map cI (t.ni))), (V.sl (List.map cI (t.no)))])) t3 h303 (by first | rfl | simp [ldB, ldV, Blk.own, V.one]) ?_
   refine R_call (evcons (@rfl V (V.agg [(V.sl (List.map cI ((nth (l) (k)).ni))), (V.sl (List.map cI ((nth (l) (k)).no)))])) (evcons (@rfl V (V.agg [(V.sl (List.map cI (t.ni))), (V.sl (List.map cI (t.no)))])) evnil)) (odiffer_pure ((nth (l) (k))) t (hpl k (by omega)) hp1.len) (fzv_mapcanon _ _ (by simp [-List.map_take, -List.map_drop, -List.map_append, -List.map_reverse])) (by simp [-List.map_take, -List.map_drop, -List.map_append, -List.map_reverse]) (Or.inl (by simp [-List.map_take, -List.map_drop, -List.map_append, -List.map_reverse])) ?_
   refine R_geq (x := (df ((nth (l) (k))) t)) (y := (0 : Int)) (@rfl V (iV (df ((nth (l) (k))) t))) (@rfl V (iV (0 : Int))) ?_
   exact R_nil ⟨t0, t3, t6, t8, t11, t12, t13, rfl, hF, h209, h303, h308, h354, h407, trivial⟩
  intro T H ⟨t0, t3, t6, t8, t11, t12, t13, t20, hF, h209, h303, h308, h354, h407, _⟩
  refine W_seq_if (p := (0 : Int) ≤ (df ((nth (l) (k))) t)) t20 (fun c5 => ?_) (fun c5 => ?_)
  ·
   have d1 : ndP l t k = true := decide_eq_true c5
   refine W_seq_seq ?_
   refine W_seq_regc (fun T H => T 4 = V.nilsl ∧ T 5 = (iV (13 : Int)) ∧ (∀ j, j ∉ [303, 308, 354, 407, 209] → H j = Hi j) ∧ H 209 = (⟨v9, true, false, 63, 2, (List.map cT (l))⟩ : Blk) ∧ H 303 = (⟨v3 + 1, true, false, 63, 2, [[(V.sl (List.map cI (t.ni))), (V.sl (List.map cI (t.no)))]]⟩ : Blk) ∧ H 308 = (⟨v308 + 1, true, false, 63, 2, [[(V.sl (List.map cI ((nth (l) (k)).ni))), (V.sl (List.map cI ((nth (l) (k)).no)))]]⟩ : Blk) ∧ (H 354).ver = v54 ∧ (H 407).ver = v7 ∧ True) ?_ ?_
   ·
    unfold r103_6
    refine R_mv (@rfl V V.nilsl) ?_
    refine R_mv (@rfl V (iV (13 : Int))) ?_
    exact R_nil ⟨rfl, rfl, hF, h209, h303, h308, h354, h407, trivial⟩
   intro T H ⟨t4, t5, hF, h209, h303, h308, h354, h407, _⟩
   refine W_seq_ret ?_
   refine y4 _ _ ?_
   refine p22 _ _ ?_
   refine y1 _ _ ?_
   exfalso; unfold addE at he; rw [if_pos (by rw [hc, fi_hit d1 (by omega)]; omega)] at he; cases he
  have d1 : ndP l t k = false := decide_eq_false c5
  refine W_seq_skip ?_
  refine W_regc (fun T H => T 0 = (V.ms 209 v9 0 (l.length)) ∧ T 3 = (V.mp 303 (v3 + 1) 0 0) ∧ T 6 = (V.bool (((exB (inP l t) 0 k) || (hp ((nth (l) (k)).ni) t.ni)))) ∧ T 11 = (V.ms 209 v9 0 (l.length)) ∧ T 12 = (iV ((l.length : Nat) : Int)) ∧ T 13 = (iV ((k : Nat) : Int)) ∧ (∀ j, j ∉ [303, 308, 354, 407, 209] → H j = Hi j) ∧ H 209 = (⟨v9, true, false, 63, 2, (List.map cT (l))⟩ : Blk) ∧ H 303 = (⟨v3 + 1, true, false, 63, 2, [[(V.sl (List.map cI (t.ni))), (V.sl (List.map cI (t.no)))]]⟩ : Blk) ∧ H 308 = (⟨v308 + 1, true, false, 63, 2, [[(V.sl (List.map cI ((nth (l) (k)).ni))), (V.sl (List.map cI ((nth (l) (k)).no)))]]⟩ : Blk) ∧ (H 354).ver = v54 ∧ (H 407).ver = v7 ∧ True) ?_ ?_
  ·
   unfold r103_7
   refine R_mv t6 ?_
   refine R_mv (@rfl V (V.bool (exB (inP l t) 0 k))) ?_
   refine Ops_seg 6 (fun T H => T 0 = (V.ms 209 v9 0 (l.length)) ∧ T 3 = (V.mp 303 (v3 + 1) 0 0) ∧ T 6 = (V.bool (exB (inP l t) 0 k)) ∧ T 11 = (V.ms 209 v9 0 (l.length)) ∧ T 12 = (iV ((l.length : Nat) : Int)) ∧ T 13 = (iV ((k : Nat) : Int)) ∧ T 28 = (V.bool (((exB (inP l t) 0 k) || (hp ((nth (l) (k)).ni) t.ni)))) ∧ (∀ j, j ∉ [303, 308, 354, 407, 209] → H j = Hi j) ∧ H 209 = (⟨v9, true, false, 63, 2, (List.map cT (l))⟩ : Blk) ∧ H 303 = (⟨v3 + 1, true, false, 63, 2, [[(V.sl (List.map cI (t.ni))), (V.sl (List.map cI (t.no)))]]⟩ : Blk) ∧ H 308 = (⟨v308 + 1, true, false, 63, 2, [[(V.sl (List.map cI ((nth (l) (k)).ni))), (V.sl (List.map cI ((nth (l) (k)).no)))]]⟩ : Blk) ∧ (H 354).ver = v54 ∧ (H 407).ver = v7 ∧ True) ?_ ?_
   ·
    by_cases g6 : (exB (inP l t) 0 k) = true
    ·
     refine G_no (Eq.trans (@rfl V (V.bool (exB (inP l t) 0 k))) (bbT g6)) (by decide) ?_
     refine G_no (Eq.trans (@rfl V (V.bool (exB (inP l t) 0 k))) (bbT g6)) (by decide) ?_
     refine G_no (Eq.trans (@rfl V (V.bool (exB (inP l t) 0 k))) (bbT g6)) (by decide) ?_
     refine G_no (Eq.trans (@rfl V (V.bool (exB (inP l t) 0 k))) (bbT g6)) (by decide) ?_
     refine G_no (Eq.trans (@rfl V (V.bool (exB (inP l t) 0 k))) (bbT g6)) (by decide) ?_
     refine R_pickT (Eq.trans (@rfl V (V.bool (exB (inP l t) 0 k))) (bbT g6)) (@rfl V (V.bool true)) ?_
     exact ⟨t0, t3, t6, t11, t12, t13, (Eq.trans (@rfl V (V.bool true)) (borT g6)), hF, h209, h303, h308, h354, h407, trivial⟩
    ·
     refine G_yes (Eq.trans (@rfl V (V.bool (exB (inP l t) 0 k))) (bbF g6)) ?_
     refine R_fld_mp (o' := 0) t8 h308 (by first | rfl | simp [okB, Blk.own]) rfl ?_
     refine G_yes (Eq.trans (@rfl V (V.bool (exB (inP l t) 0 k))) (bbF g6)) ?_
     refine R_load_mp (v := (V.sl (List.map cI ((nth (l) (k)).ni)))) (@rfl V (V.mp 308 (v308 + 1) 0 0)) h308 (by first | rfl | simp [ldB, ldV, Blk.own, V.one]) ?_
     refine G_yes (Eq.trans (@rfl V (V.bool (exB (inP l t) 0 k))) (bbF g6)) ?_
     refine R_fld_mp (o' := 0) t3 h303 (by first | rfl | simp [okB, Blk.own]) rfl ?_
     refine G_yes (Eq.trans (@rfl V (V.bool (exB (inP l t) 0 k))) (bbF g6)) ?_
     refine R_load_mp (v := (V.sl (List.map cI (t.ni)))) (@rfl V (V.mp 303 (v3 + 1) 0 0)) h303 (by first | rfl | simp [ldB, ldV, Blk.own, V.one]) ?_
     refine G_yes (Eq.trans (@rfl V (V.bool (exB (inP l t) 0 k))) (bbF g6)) ?_
     refine R_call (evcons (@rfl V (V.sl (List.map cI ((nth (l) (k)).ni)))) (evcons (@rfl V (V.sl (List.map cI (t.ni)))) evnil)) (hp_pure ((nth (l) (k)).ni) t.ni) (fzv_mapcanon _ _ (by simp [-List.map_take, -List.map_drop, -List.map_append, -List.map_reverse])) (by simp [-List.map_take, -List.map_drop, -List.map_append, -List.map_reverse]) (Or.inl (by simp [-List.map_take, -List.map_drop, -List.map_append, -List.map_reverse])) ?_
     refine R_pickF (Eq.trans (@rfl V (V.bool (exB (inP l t) 0 k))) (bbF g6)) (@rfl V (V.bool (hp ((nth (l) (k)).ni) t.ni))) ?_
     exact ⟨t0, t3, t6, t11, t12, t13, (Eq.trans (@rfl V (V.bool (hp ((nth (l) (k)).ni) t.ni))) (borF g6)), hF, h209, h303, h308, h354, h407, trivial⟩
   intro T H ⟨t0, t3, t6, t11, t12, t13, t28, hF, h209, h303, h308, h354, h407, _⟩
   refine R_mv t28 ?_
   exact R_nil ⟨t0, t3, rfl, t11, t12, t13, hF, h209, h303, h308, h354, h407, trivial⟩
  intro T H ⟨t0, t3, t6, t11, t12, t13, hF, h209, h303, h308, h354, h407, _⟩
  refine n4 _ _ ?_
  refine .done ?_
  refine W_regc (fun T H => T 0 = (V.ms 209 v9 0 (l.length)) ∧ T 3 = (V.mp 303 (v3 + 1) 0 0) ∧ T 6 = (V.bool (((exB (inP l t) 0 k) || (hp ((nth (l) (k)).ni) t.ni)))) ∧ T 11 = (V.ms 209 v9 0 (l.length)) ∧ T 12 = (iV ((l.length : Nat) : Int)) ∧ T 13 = (iV ((k + 1 : Nat) : Int)) ∧ (∀ j, j ∉ [303, 308, 354, 407, 209] → H j = Hi j) ∧ H 209 = (⟨v9, true, false, 63, 2, (List.map cT (l))⟩ : Blk) ∧ H 303 = (⟨v3 + 1, true, false, 63, 2, [[(V.sl (List.map cI (t.ni))), (V.sl (List.map cI (t.no)))]]⟩ : Blk) ∧ H 308 = (⟨v308 + 1, true, false, 63, 2, [[(V.sl (List.map cI ((nth (l) (k)).ni))), (V.sl (List.map cI ((nth (l) (k)).no)))]]⟩ : Blk) ∧ (H 354).ver = v54 ∧ (H 407).ver = v7 ∧ True) ?_ ?_
  ·
   unfold r103_8
   refine R_addN (m := k) (n := 1) t13 (@rfl V (iV ((1 : Nat) : Int))) (by omega) ?_
   refine R_mv (@rfl V (iV ((k + 1 : Nat) : Int))) ?_
   exact R_nil ⟨t0, t3, t6, t11, t12, rfl, hF, h209, h303, h308, h354, h407, trivial⟩
  intro T H ⟨t0, t3, t6, t11, t12, t13, hF, h209, h303, h308, h354, h407, _⟩
  refine p12 _ _ _ ?_ ⟨(k + 1), (v308 + 1), rfl, t0, t3, (Eq.trans t6 (by first | rfl | (simp only [exB, inP, Nat.zero_add]; done) | (rw [he]; done) | (rw [addL, if_pos d2]; done) | (rw [addL, if_neg d2, ins_len]; done) | (rw [addE, if_pos (by rw [hc, fi_hit d1 (by omega)]; omega)]; done) | (rw [addE, if_neg d4, if_neg d2, if_pos (by omega)]; done))), t11, t12, (Eq.trans t13 (by first | rfl | (simp only [exB, inP, Nat.zero_add]; done) | (rw [he]; done) | (rw [addL, if_pos d2]; done) | (rw [addL, if_neg d2, ins_len]; done) | (rw [addE, if_pos (by rw [hc, fi_hit d1 (by omega)]; omega)]; done) | (rw [addE, if_neg d4, if_neg d2, if_pos (by omega)]; done))), hF, h209, h303, (congrArg Blk.ver h308), h354, h407, ?_, ?_, ?_⟩
  · omega
  · omega
  · omega
  · rw [hc, fi_skip d1 (by omega)]
 refine W_seq_exit ?_
 refine p32 _ _ _ ?_
 refine x1 _ _ ?_
 refine .done ?_
 refine W_seq_seq ?_
 refine W_seq_regc (fun T H => T 0 = (V.ms 209 v9 0 (l.length)) ∧ T 3 = (V.mp 303 (v3 + 1) 0 0) ∧ T 36 = (V.bool (((exB (inP l t) 0 k) || decide (((t.ni.length : Nat) : Int) = (0 : Int))))) ∧ (∀ j, j ∉ [303, 308, 354, 407, 209] → H j = Hi j) ∧ H 209 = (⟨v9, true, false, 63, 2, (List.map cT (l))⟩ : Blk) ∧ H 303 = (⟨v3 + 1, true, false, 63, 2, [[(V.sl (List.map cI (t.ni))), (V.sl (List.map cI (t.no)))]]⟩ : Blk) ∧ (H 308).ver = v308 ∧ (H 354).ver = v54 ∧ (H 407).ver = v7 ∧ True) ?_ ?_
 ·
  unfold r103_9
  refine R_mv t6 ?_
  refine R_mv (@rfl V (V.bool (exB (inP l t) 0 k))) ?_
  refine Ops_seg 5 (fun T H => T 0 = (V.ms 209 v9 0 (l.length)) ∧ T 3 = (V.mp 303 (v3 + 1) 0 0) ∧ T 36 = (V.bool (((exB (inP l t) 0 k) || decide (((t.ni.length : Nat) : Int) = (0 : Int))))) ∧ (∀ j, j ∉ [303, 308, 354, 407, 209] → H j = Hi j) ∧ H 209 = (⟨v9, true, false, 63, 2, (List.map cT (l))⟩ : Blk) ∧ H 303 = (⟨v3 + 1, true, false, 63, 2, [[(V.sl (List.map cI (t.ni))), (V.sl (List.map cI (t.no)))]]⟩ : Blk) ∧ (H 308).ver = v308 ∧ (H 354).ver = v54 ∧ (H 407).ver = v7 ∧ True) ?_ ?_
  ·
   by_cases g7 : (exB (inP l t) 0 k) = true
   ·
    refine G_no (Eq.trans (@rfl V (V.bool (exB (inP l t) 0 k))) (bbT g7)) (by decide) ?_
    refine G_no (Eq.trans (@rfl V (V.bool (exB (inP l t) 0 k))) (bbT g7)) (by decide) ?_
    refine G_no (Eq.trans (@rfl V (V.bool (exB (inP l t) 0 k))) (bbT g7)) (by decide) ?_
    refine G_no (Eq.trans (@rfl V (V.bool (exB (inP l t) 0 k))) (bbT g7)) (by decide) ?_
    refine R_pickT (Eq.trans (@rfl V (V.bool (exB (inP l t) 0 k))) (bbT g7)) (@rfl V (V.bool true)) ?_
    exact ⟨t0, t3, (Eq.trans (@rfl V (V.bool true)) (borT g7)), hF, h209, h303, h308, h354, h407, trivial⟩
   ·
    refine G_yes (Eq.trans (@rfl V (V.bool (exB (inP l t) 0 k))) (bbF g7)) ?_
    refine R_fld_mp (o' := 0) t3 h303 (by first | rfl | simp [okB, Blk.own]) rfl ?_
    refine G_yes (Eq.trans (@rfl V (V.bool (exB (inP l t) 0 k))) (bbF g7)) ?_
    refine R_load_mp (v := (V.sl (List.map cI (t.ni)))) (@rfl V (V.mp 303 (v3 + 1) 0 0)) h303 (by first | rfl | simp [ldB, ldV, Blk.own, V.one]) ?_
    refine G_yes (Eq.trans (@rfl V (V.bool (exB (inP l t) 0 k))) (bbF g7)) ?_
    refine R_len (@rfl V (V.sl (List.map cI (t.ni)))) ?_
    refine G_yes (Eq.trans (@rfl V (V.bool (exB (inP l t) 0 k))) (bbF g7)) ?_
    refine R_eql (x := ((t.ni.length : Nat) : Int)) (y := (0 : Int)) (@rfl V (iV ((t.ni.length : Nat) : Int))) (@rfl V (iV (0 : Int))) ?_
    refine R_pickF (Eq.trans (@rfl V (V.bool (exB (inP l t) 0 k))) (bbF g7)) (@rfl V (V.bool (decide (((t.ni.length : Nat) : Int) = (0 : Int))))) ?_
    exact ⟨t0, t3, (Eq.trans (@rfl V (V.bool (decide (((t.ni.length : Nat) : Int) = (0 : Int))))) (borF g7)), hF, h209, h303, h308, h354, h407, trivial⟩
  intro T H ⟨t0, t3, t36, hF, h209, h303, h308, h354, h407, _⟩
  exact R_nil ⟨t0, t3, t36, hF, h209, h303, h308, h354, h407, trivial⟩
 intro T H ⟨t0, t3, t36, hF, h209, h303, h308, h354, h407, _⟩
 refine W_seq_ifb t36 (fun c8 => ?_) (fun c8 => ?_)
 ·
  have d2 : inL l t := by have q := c8; rw [show k = l.length by omega] at q; simpa [inL] using q
  refine W_seq_seq ?_
  refine W_seq_regc (fun T H => T 4 = (V.ms 209 v9 0 (l.length)) ∧ T 5 = (iV (0 : Int)) ∧ (∀ j, j ∉ [303, 308, 354, 407, 209] → H j = Hi j) ∧ H 209 = (⟨v9, true, false, 63, 2, (List.map cT (l))⟩ : Blk) ∧ H 303 = (⟨v3 + 1, true, false, 63, 2, [[(V.sl (List.map cI (t.ni))), (V.sl (List.map cI (t.no)))]]⟩ : Blk) ∧ (H 308).ver = v308 ∧ (H 354).ver = v54 ∧ (H 407).ver = v7 ∧ True) ?_ ?_
  ·
   unfold r103_10
   refine R_mv t0 ?_
   refine R_mv (@rfl V (V.ms 209 v9 0 (l.length))) ?_
   refine R_mv (@rfl V (iV (0 : Int))) ?_
   exact R_nil ⟨rfl, rfl, hF, h209, h303, h308, h354, h407, trivial⟩
  intro T H ⟨t4, t5, hF, h209, h303, h308, h354, h407, _⟩
  refine W_seq_ret ?_
  skip
  have fh := FinX.fin (FinX.put (B := (⟨v9 + 2, true, false, 63, 2, (List.map cT (addL l t))⟩ : Blk)) (FinX.putv (n := v7) (B := (⟨v7 + l.length, false, false, 0, 0, []⟩ : Blk)) (FinX.putv (n := v54) (B := (⟨v54 + 1, false, false, 0, 0, []⟩ : Blk)) (FinX.putv (n := v308) (B := (⟨v8 + l.length, false, false, 0, 0, []⟩ : Blk)) (FinX.putv (n := (v3 + 1)) (B := (⟨v3 + 1, false, false, 0, 0, []⟩ : Blk)) (FinX.start hF) (congrArg Blk.ver h303) (by show _ ≤ v3 + 1; omega) rfl) h308 (by show _ ≤ v8 + l.length; omega) rfl) h354 (by show _ ≤ v54 + 1; omega) rfl) h407 (by show _ ≤ v7 + l.length; omega) rfl) h209 (FinB.up (by omega) (by first | rfl | (rw [addL, if_pos d2]; done) | (rw [addL, if_neg d2]; done))))
  exact RetF_2 t4 t5 fh (FinV.trans_eq (FinV.ms (n := (v9 + 2)) fh (by simp [h209]) (by simp [h209]) rfl rfl) (by first | rfl | (simp only [exB, inP, Nat.zero_add]; done) | (rw [he]; done) | (rw [addL, if_pos d2]; done) | (rw [addL, if_neg d2, ins_len]; done) | (rw [addE, if_pos (by rw [hc, fi_hit d1 (by omega)]; omega)]; done) | (rw [addE, if_neg d4, if_neg d2, if_pos (by omega)]; done))) (FinV.trans_eq (FinV.same fh _) (by first | rfl | (simp only [exB, inP, Nat.zero_add]; done) | (rw [he]; done) | (rw [addL, if_pos d2]; done) | (rw [addL, if_neg d2, ins_len]; done) | (rw [addE, if_pos (by rw [hc, fi_hit d1 (by omega)]; omega)]; done) | (rw [addE, if_neg d4, if_neg d2, if_pos (by omega)]; done)))
 have d2 : ¬inL l t := by have q := c8; rw [show k = l.length by omega] at q; simpa [inL] using q
 refine W_seq_skip ?_
 refine W_seq_regc (fun T H => T 0 = (V.ms 209 v9 0 (((l.filter (kp t)).length))) ∧ T 3 = (V.mp 303 (v3 + 1) 0 0) ∧ (∀ j, j ∉ [303, 308, 354, 407, 209] → H j = Hi j) ∧ H 209 = (⟨v9, true, false, 63, 2, (List.map cT (l.filter (kp t)) ++ List.replicate (l.length - (l.filter (kp t)).length) [V.nilsl, V.nilsl])⟩ : Blk) ∧ H 303 = (⟨v3 + 1, true, false, 63, 2, [[(V.sl (List.map cI (t.ni))), (V.sl (List.map cI (t.no)))]]⟩ : Blk) ∧ (H 308).ver = v308 ∧ (H 354).ver = v54 ∧ H 407 = (⟨v7 + l.length, false, false, 0, 0, []⟩ : Blk) ∧ True) ?_ ?_
 ·
  unfold r103_11
  refine R_mv t0 ?_
  refine R_mkf (evcons t3 evnil) ?_
  refine R_callE (evcons (@rfl V (V.ms 209 v9 0 (l.length))) (evcons (@rfl V (V.fn 117 [] [(V.mp 303 (v3 + 1) 0 0)])) evnil)) (del_E l t v9 (v3 + 1) v7 _ h209 h303 h407 (by omega)) ?_
  refine R_mv (@rfl V (V.ms 209 v9 0 (((l.filter (kp t)).length)))) ?_
  exact R_nil ⟨rfl, t3, (upd_out (upd_out hF (by decide)) (by decide)), rfl, h303, h308, h354, rfl, trivial⟩
 intro T H ⟨t0, t3, hF, h209, h303, h308, h354, h407, _⟩
 refine W_seq_seq ?_
 refine W_seq_regc (fun T H => T 0 = (V.ms 209 v9 0 (((l.filter (kp t)).length))) ∧ T 3 = (V.mp 303 (v3 + 1) 0 0) ∧ T 43 = (V.bool (decide (((((l.filter (kp t)).length) : Nat) : Int) = (10000 : Int)))) ∧ (∀ j, j ∉ [303, 308, 354, 407, 209] → H j = Hi j) ∧ H 209 = (⟨v9, true, false, 63, 2, (List.map cT (l.filter (kp t)) ++ List.replicate (l.length - (l.filter (kp t)).length) [V.nilsl, V.nilsl])⟩ : Blk) ∧ H 303 = (⟨v3 + 1, true, false, 63, 2, [[(V.sl (List.map cI (t.ni))), (V.sl (List.map cI (t.no)))]]⟩ : Blk) ∧ (H 308).ver = v308 ∧ (H 354).ver = v54 ∧ H 407 = (⟨v7 + l.length, false, false, 0, 0, []⟩ : Blk) ∧ True) ?_ ?_
 ·
  unfold r103_12
  refine R_mv t0 ?_
  refine R_len_ms (@rfl V (V.ms 209 v9 0 (((l.filter (kp t)).length)))) h209 (by first | rfl | simp) ?_
  refine R_eql (x := ((((l.filter (kp t)).length) : Nat) : Int)) (y := (10000 : Int)) (@rfl V (iV ((((l.filter (kp t)).length) : Nat) : Int))) (@rfl V (iV (10000 : Int))) ?_
  exact R_nil ⟨t0, t3, rfl, hF, h209, h303, h308, h354, h407, trivial⟩
 intro T H ⟨t0, t3, t43, hF, h209, h303, h308, h354, h407, _⟩
 refine W_seq_if (p := ((((l.filter (kp t)).length) : Nat) : Int) = (10000 : Int)) t43 (fun c9 => ?_) (fun c9 => ?_)
 ·
  have d3 := c9
  refine W_seq_seq ?_
  refine W_seq_regc (fun T H => T 4 = V.nilsl ∧ T 5 = (iV (11 : Int)) ∧ (∀ j, j ∉ [303, 308, 354, 407, 209] → H j = Hi j) ∧ H 209 = (⟨v9, true, false, 63, 2, (List.map cT (l.filter (kp t)) ++ List.replicate (l.length - (l.filter (kp t)).length) [V.nilsl, V.nilsl])⟩ : Blk) ∧ H 303 = (⟨v3 + 1, true, false, 63, 2, [[(V.sl (List.map cI (t.ni))), (V.sl (List.map cI (t.no)))]]⟩ : Blk) ∧ (H 308).ver = v308 ∧ (H 354).ver = v54 ∧ H 407 = (⟨v7 + l.length, false, false, 0, 0, []⟩ : Blk) ∧ True) ?_ ?_
  ·
   unfold r103_13
   refine R_mv (@rfl V V.nilsl) ?_
   refine R_mv (@rfl V (iV (11 : Int))) ?_
   exact R_nil ⟨rfl, rfl, hF, h209, h303, h308, h354, h407, trivial⟩
  intro T H ⟨t4, t5, hF, h209, h303, h308, h354, h407, _⟩
  refine W_seq_ret ?_
  exfalso
  have d4 : ¬0 ≤ fi (ndP l t) 0 l.length := by rw [hc, fi_end (by omega)]; omega
  unfold addE at he
  rw [if_neg d4, if_neg d2, if_pos (by omega)] at he; cases he
 have d3 := c9
 refine W_seq_skip ?_
 refine W_seq_regc (fun T H => T 0 = (V.ms 209 v9 0 (((l.filter (kp t)).length))) ∧ T 3 = (V.mp 303 (v3 + 1) 0 0) ∧ T 9 = (iV ((lbN (l.filter (kp t)) t : Nat) : Int)) ∧ (∀ j, j ∉ [303, 308, 354, 407, 209] → H j = Hi j) ∧ H 209 = (⟨v9, true, false, 63, 2, (List.map cT (l.filter (kp t)) ++ List.replicate (l.length - (l.filter (kp t)).length) [V.nilsl, V.nilsl])⟩ : Blk) ∧ H 303 = (⟨v3 + 1, true, false, 63, 2, [[(V.sl (List.map cI (t.ni))), (V.sl (List.map cI (t.no)))]]⟩ : Blk) ∧ (H 308).ver = v308 ∧ (H 354).ver = v54 ∧ H 407 = (⟨v7 + l.length, false, false, 0, 0, []⟩ : Blk) ∧ True) ?_ ?_
 ·
  unfold r103_14
  refine R_mv t0 ?_
  refine R_load_mp (v := (V.agg [(V.sl (List.map cI (t.ni))), (V.sl (List.map cI (t.no)))])) t3 h303 (by first | rfl | simp [ldB, ldV, Blk.own, V.one]) ?_
  refine R_call (evcons (@rfl V (V.ms 209 v9 0 (((l.filter (kp t)).length)))) (evcons (@rfl V (V.agg [(V.sl (List.map cI (t.ni))), (V.sl (List.map cI (t.no)))])) (evcons (@rfl V (V.fn 79 [] [])) evnil))) (bs_pure (l.filter (kp t)) t hsr (by first | omega | assumption)) (mcons (fz_mst h209 (by first | rfl | simp) (take_zap (l := (l.filter (kp t))) (by first | rfl | simp | omega)) (fun _ => by simp)) (mcons (fzv_canon 6 _ (by simp [-List.map_take, -List.map_drop, -List.map_append, -List.map_reverse])) (mcons (fzv_canon 6 _ (by simp [-List.map_take, -List.map_drop, -List.map_append, -List.map_reverse])) rfl))) (by simp [-List.map_take, -List.map_drop, -List.map_append, -List.map_reverse]) (Or.inr rfl) ?_
  refine R_mv (@rfl V (V.tup [(iV ((lbN (l.filter (kp t)) t : Nat) : Int)), (V.bool (decide (lbN (l.filter (kp t)) t < (l.filter (kp t)).length ∧ slx (nth (l.filter (kp t)) (lbN (l.filter (kp t)) t)).ni t.ni = 0)))])) ?_
  refine R_ext (v := (iV ((lbN (l.filter (kp t)) t : Nat) : Int))) (@rfl V (V.tup [(iV ((lbN (l.filter (kp t)) t : Nat) : Int)), (V.bool (decide (lbN (l.filter (kp t)) t < (l.filter (kp t)).length ∧ slx (nth (l.filter (kp t)) (lbN (l.filter (kp t)) t)).ni t.ni = 0)))])) rfl ?_
  refine R_ext (v := (V.bool (decide (lbN (l.filter (kp t)) t < (l.filter (kp t)).length ∧ slx (nth (l.filter (kp t)) (lbN (l.filter (kp t)) t)).ni t.ni = 0)))) (@rfl V (V.tup [(iV ((lbN (l.filter (kp t)) t : Nat) : Int)), (V.bool (decide (lbN (l.filter (kp t)) t < (l.filter (kp t)).length ∧ slx (nth (l.filter (kp t)) (lbN (l.filter (kp t)) t)).ni t.ni = 0)))])) rfl ?_
  refine R_mv (@rfl V (iV ((lbN (l.filter (kp t)) t : Nat) : Int))) ?_
  refine R_mv (@rfl V (V.bool (decide (lbN (l.filter (kp t)) t < (l.filter (kp t)).length ∧ slx (nth (l.filter (kp t)) (lbN (l.filter (kp t)) t)).ni t.ni = 0)))) ?_
  exact R_nil ⟨t0, t3, rfl, hF, h209, h303, h308, h354, h407, trivial⟩
 intro T H ⟨t0, t3, t9, hF, h209, h303, h308, h354, h407, _⟩
 refine W_seq_regc (fun T H => T 4 = (V.ms 209 (v9 + 2) 0 ((l.filter (kp t)).length + 1)) ∧ T 5 = (iV (0 : Int)) ∧ (∀ j, j ∉ [303, 308, 354, 407, 209] → H j = Hi j) ∧ H 209 = (⟨v9 + 2, true, false, 63, 2, (List.map cT (ins (l.filter (kp t)) t))⟩ : Blk) ∧ H 303 = (⟨v3 + 1, true, false, 63, 2, [[(V.sl (List.map cI (t.ni))), (V.sl (List.map cI (t.no)))]]⟩ : Blk) ∧ (H 308).ver = v308 ∧ H 354 = (⟨v54 + 1, true, false, 63, 2, [[(V.sl (List.map cI (t.ni))), (V.sl (List.map cI (t.no)))]]⟩ : Blk) ∧ H 407 = (⟨v7 + l.length, false, false, 0, 0, []⟩ : Blk) ∧ True) ?_ ?_
 ·
  unfold r103_15
  refine R_mv t0 ?_
  refine R_mv t9 ?_
  refine R_load_mp (v := (V.agg [(V.sl (List.map cI (t.ni))), (V.sl (List.map cI (t.no)))])) t3 h303 (by first | rfl | simp [ldB, ldV, Blk.own, V.one]) ?_
  refine R_call (evcons (@rfl V (V.agg [(V.sl (List.map cI (t.ni))), (V.sl (List.map cI (t.no)))])) evnil) (copied_pure t (by first | omega | assumption) (by first | omega | assumption)) (fzv_mapcanon _ _ (by simp [-List.map_take, -List.map_drop, -List.map_append, -List.map_reverse])) (by simp [-List.map_take, -List.map_drop, -List.map_append, -List.map_reverse]) (Or.inl (by simp [-List.map_take, -List.map_drop, -List.map_append, -List.map_reverse])) ?_
  refine R_bslice_own (i := 354) (n := v54) (qs := [(0, (V.agg [(V.sl (List.map cI (t.ni))), (V.sl (List.map cI (t.no)))]))]) (rows := [[(V.sl (List.map cI (t.ni))), (V.sl (List.map cI (t.no)))]]) (by rfl) h354 (mcons (congrArg (fun v => (0, v)) (@rfl V (V.agg [(V.sl (List.map cI (t.ni))), (V.sl (List.map cI (t.no)))]))) rfl) rfl ?_
  refine R_callE (evcons (@rfl V (V.ms 209 v9 0 (((l.filter (kp t)).length)))) (evcons (@rfl V (iV ((lbN (l.filter (kp t)) t : Nat) : Int))) (evcons (@rfl V (V.ms 354 (v54 + 1) 0 (1))) evnil))) (insert_tr (F := (l.filter (kp t))) (t := t) _ h209 rfl (by omega) hsr) ?_
  refine R_mv (@rfl V (V.ms 209 (v9 + 2) 0 ((l.filter (kp t)).length + 1))) ?_
  refine R_mv (@rfl V (iV (0 : Int))) ?_
  exact R_nil ⟨rfl, rfl, (upd_out (upd_out hF (by decide)) (by decide)), rfl, h303, h308, rfl, h407, trivial⟩
 intro T H ⟨t4, t5, hF, h209, h303, h308, h354, h407, _⟩
 refine W_ret ?_
 skip
 have fh := FinX.fin (FinX.put (B := (⟨v9 + 2, true, false, 63, 2, (List.map cT (addL l t))⟩ : Blk)) (FinX.put (FinX.putv (n := (v54 + 1)) (B := (⟨v54 + 1, false, false, 0, 0, []⟩ : Blk)) (FinX.putv (n := v308) (B := (⟨v8 + l.length, false, false, 0, 0, []⟩ : Blk)) (FinX.putv (n := (v3 + 1)) (B := (⟨v3 + 1, false, false, 0, 0, []⟩ : Blk)) (FinX.start hF) (congrArg Blk.ver h303) (by show _ ≤ v3 + 1; omega) rfl) h308 (by show _ ≤ v8 + l.length; omega) rfl) (congrArg Blk.ver h354) (by show _ ≤ v54 + 1; omega) rfl) h407 (FinB.eq rfl)) h209 (FinB.eq (by first | rfl | (rw [addL, if_pos d2]; done) | (rw [addL, if_neg d2]; done))))
 exact RetF_2 t4 t5 fh (FinV.trans_eq (FinV.same fh _) (by first | rfl | (simp only [exB, inP, Nat.zero_add]; done) | (rw [he]; done) | (rw [addL, if_pos d2]; done) | (rw [addL, if_neg d2, ins_len]; done) | (rw [addE, if_pos (by rw [hc, fi_hit d1 (by omega)]; omega)]; done) | (rw [addE, if_neg d4, if_neg d2, if_pos (by omega)]; done))) (FinV.trans_eq (FinV.same fh _) (by first | rfl | (simp only [exB, inP, Nat.zero_add]; done) | (rw [he]; done) | (rw [addL, if_pos d2]; done) | (rw [addL, if_neg d2, ins_len]; done) | (rw [addE, if_pos (by rw [hc, fi_hit d1 (by omega)]; omega)]; done) | (rw [addE, if_neg d4, if_neg d2, if_pos (by omega)]; done)))
theorem add_err_E (l : List Tr) (t : Tr) (i : Int) (v9 v3 v8 v54 v7 : Nat) (ho : OK ⟨i, l⟩) (hpt : prE t i = 0) (he : addE l t ≠ 0) (Hi : Heap) (h209 : Hi 209 = (⟨v9, true, false, 63, 2, (List.map cT (l))⟩ : Blk)) (h303 : (Hi 303).ver = v3) (h308 : (Hi 308).ver = v8) (h354 : (Hi 354).ver = v54) (h407 : (Hi 407).ver = v7) : CallOK Try.prog 103 [(V.ms 209 v9 0 (l.length)), (V.agg [(V.sl (List.map cI (t.ni))), (V.sl (List.map cI (t.no)))])] Hi (V.tup [(V.sl []), (iV (addE l t))]) (upd (upd (upd (upd (upd Hi 303 (⟨v3 + 1, false, false, 0, 0, []⟩ : Blk)) 308 (⟨v8 + l.length, false, false, 0, 0, []⟩ : Blk)) 354 (⟨v54 + 1, false, false, 0, 0, []⟩ : Blk)) 407 (⟨v7 + l.length, false, false, 0, 0, []⟩ : Blk)) 209 (⟨v9 + 2, false, false, 0, 0, []⟩ : Blk)) := by
 refine CallOK_of_Wf (k0 := 300) Try.func103 s103_ok (by kernel_rfl) (by simp [s103]) fun hB => ?_
 simp only [bnd_map, bnd_int, bnd_bool, bnd_str, bnd_agg, bnd_pp, bnd_nil, bnd_cons, implies_true, and_true, true_and] at hB
 have hl : l.length ≤ 10000 := ho.len
 have hp1 := prE_ok hpt
 have hp2 := hp1.len
 have hp3 := hp1.lel
 have hpl : ∀ k, k < l.length → (nth l k).no.length = (nth l k).ni.length := fun k hk => ((ho.pr k hk).1.len)
 have hfl := List.length_filter_le (kp t) l
 have hsr : Srt (l.filter (kp t)) := filter_srt ho.srt _
 unfold s103
 dsimp only
 refine W_seq_regc (fun T H => T 0 = (V.ms 209 v9 0 (l.length)) ∧ T 3 = (V.mp 303 (v3 + 1) 0 0) ∧ (∀ j, j ∉ [303, 308, 354, 407, 209] → H j = Hi j) ∧ H 209 = (⟨v9, true, false, 63, 2, (List.map cT (l))⟩ : Blk) ∧ H 303 = (⟨v3 + 1, true, false, 63, 2, [[(V.sl (List.map cI (t.ni))), (V.sl (List.map cI (t.no)))]]⟩ : Blk) ∧ (H 308).ver = v8 ∧ (H 354).ver = v54 ∧ (H 407).ver = v7 ∧ True) ?_ ?_
 ·
  unfold r103_0
  refine R_box (i := 303) (n := v3) (m := 2) (cs := [(V.sl (List.map cI (t.ni))), (V.sl (List.map cI (t.no)))]) (by rfl) h303 (@rfl V (V.agg [(V.sl (List.map cI (t.ni))), (V.sl (List.map cI (t.no)))])) rfl rfl ?_
  refine R_mv (@rfl V V.nilsl) ?_
  refine R_mv (@rfl V (iV (0 : Int))) ?_
  exact R_nil ⟨rfl, rfl, (upd_out (fun _ _ => rfl) (by decide)), h209, rfl, h308, h354, h407, trivial⟩
 intro T H ⟨t0, t3, hF, h209, h303, h308, h354, h407, _⟩
 refine W_seq_regc (fun T H => T 0 = (V.ms 209 v9 0 (l.length)) ∧ T 3 = (V.mp 303 (v3 + 1) 0 0) ∧ T 6 = (V.bool false) ∧ (∀ j, j ∉ [303, 308, 354, 407, 209] → H j = Hi j) ∧ H 209 = (⟨v9, true, false, 63, 2, (List.map cT (l))⟩ : Blk) ∧ H 303 = (⟨v3 + 1, true, false, 63, 2, [[(V.sl (List.map cI (t.ni))), (V.sl (List.map cI (t.no)))]]⟩ : Blk) ∧ (H 308).ver = v8 ∧ (H 354).ver = v54 ∧ (H 407).ver = v7 ∧ True) ?_ ?_
 ·
  unfold r103_1
  refine R_mv (@rfl V (V.bool false)) ?_
  exact R_nil ⟨t0, t3, rfl, hF, h209, h303, h308, h354, h407, trivial⟩
 intro T H ⟨t0, t3, t6, hF, h209, h303, h308, h354, h407, _⟩
 refine W_seq_seq ?_
 refine W_seq_regc (fun T H => T 0 = (V.ms 209 v9 0 (l.length)) ∧ T 3 = (V.mp 303 (v3 + 1) 0 0) ∧ T 6 = (V.bool false) ∧ T 11 = (V.ms 209 v9 0 (l.length)) ∧ T 12 = (iV ((l.length : Nat) : Int)) ∧ T 13 = (iV (0 : Int)) ∧ (∀ j, j ∉ [303, 308, 354, 407, 209] → H j = Hi j) ∧ H 209 = (⟨v9, true, false, 63, 2, (List.map cT (l))⟩ : Blk) ∧ H 303 = (⟨v3 + 1, true, false, 63, 2, [[(V.sl (List.map cI (t.ni))), (V.sl (List.map cI (t.no)))]]⟩ : Blk) ∧ (H 308).ver = v8 ∧ (H 354).ver = v54 ∧ (H 407).ver = v7 ∧ True) ?_ ?_
 ·
  unfold r103_2
  refine R_mv t0 ?_
  refine R_len_ms (@rfl V (V.ms 209 v9 0 (l.length))) h209 (by first | rfl | simp) ?_
  refine R_mv (@rfl V (iV (0 : Int))) ?_
  exact R_nil ⟨t0, t3, t6, rfl, rfl, rfl, hF, h209, h303, h308, h354, h407, trivial⟩
 intro T H ⟨t0, t3, t6, t11, t12, t13, hF, h209, h303, h308, h354, h407, _⟩
 refine W_seq_blockg fun Q1 n1 x1 y1 z1 => ?_
 refine W_loop (fun mm T H => ∃ (k : Nat) (v308 : Nat), mm = l.length - k ∧ T 0 = (V.ms 209 v9 0 (l.length)) ∧ T 3 = (V.mp 303 (v3 + 1) 0 0) ∧ T 6 = (V.bool (exB (inP l t) 0 k)) ∧ T 11 = (V.ms 209 v9 0 (l.length)) ∧ T 12 = (iV ((l.length : Nat) : Int)) ∧ T 13 = (iV ((k : Nat) : Int)) ∧ (∀ j, j ∉ [303, 308, 354, 407, 209] → H j = Hi j) ∧ H 209 = (⟨v9, true, false, 63, 2, (List.map cT (l))⟩ : Blk) ∧ H 303 = (⟨v3 + 1, true, false, 63, 2, [[(V.sl (List.map cI (t.ni))), (V.sl (List.map cI (t.no)))]]⟩ : Blk) ∧ (H 308).ver = v308 ∧ (H 354).ver = v54 ∧ (H 407).ver = v7 ∧ (k ≤ l.length) ∧ (v308 ≤ v8 + k) ∧ (fi (ndP l t) 0 l.length = fi (ndP l t) k (l.length - k))) ?_ ?_
 ·
  refine ⟨_, 0, v8, rfl, t0, t3, (Eq.trans t6 (by first | rfl | (simp only [exB, inP, Nat.zero_add]; done) | (rw [he]; done) | (rw [addL, if_pos d2]; done) | (rw [addL, if_neg d2, ins_len]; done) | (rw [addE, if_pos (by rw [hc, fi_hit d1 (by omega)]; omega)]; done) | (rw [addE, if_neg d4, if_neg d2, if_pos (by omega)]; done))), t11, t12, (Eq.trans t13 (by first | rfl | (simp only [exB, inP, Nat.zero_add]; done) | (rw [he]; done) | (rw [addL, if_pos d2]; done) | (rw [addL, if_neg d2, ins_len]; done) | (rw [addE, if_pos (by rw [hc, fi_hit d1 (by omega)]; omega)]; done) | (rw [addE, if_neg d4, if_neg d2, if_pos (by omega)]; done))), hF, h209, h303, h308, h354, h407, ?_, ?_, ?_⟩
  · omega
  · omega
  · rfl
 intro mm T H ⟨k, v308, hmm, t0, t3, t6, t11, t12, t13, hF, h209, h303, h308, h354, h407, hk, hv8, hc⟩ Q2 p12 p22 p32
 unfold b103_0
 refine W_seq_regc (fun T H => T 0 = (V.ms 209 v9 0 (l.length)) ∧ T 3 = (V.mp 303 (v3 + 1) 0 0) ∧ T 6 = (V.bool (exB (inP l t) 0 k)) ∧ T 11 = (V.ms 209 v9 0 (l.length)) ∧ T 12 = (iV ((l.length : Nat) : Int)) ∧ T 13 = (iV ((k : Nat) : Int)) ∧ T 14 = (V.bool (decide (((k : Nat) : Int) < ((l.length : Nat) : Int)))) ∧ (∀ j, j ∉ [303, 308, 354, 407, 209] → H j = Hi j) ∧ H 209 = (⟨v9, true, false, 63, 2, (List.map cT (l))⟩ : Blk) ∧ H 303 = (⟨v3 + 1, true, false, 63, 2, [[(V.sl (List.map cI (t.ni))), (V.sl (List.map cI (t.no)))]]⟩ : Blk) ∧ (H 308).ver = v308 ∧ (H 354).ver = v54 ∧ (H 407).ver = v7 ∧ True) ?_ ?_
 ·
  unfold r103_3
  refine R_lss (x := ((k : Nat) : Int)) (y := ((l.length : Nat) : Int)) t13 t12 ?_
  exact R_nil ⟨t0, t3, t6, t11, t12, t13, rfl, hF, h209, h303, h308, h354, h407, trivial⟩
 intro T H ⟨t0, t3, t6, t11, t12, t13, t14, hF, h209, h303, h308, h354, h407, _⟩
 refine W_seq_if (p := ((k : Nat) : Int) < ((l.length : Nat) : Int)) t14 (fun c3 => ?_) (fun c3 => ?_)
 ·
  refine W_seq_skip ?_
  refine W_seq_blockg fun Q4 n4 x4 y4 z4 => ?_
  refine W_seq_regc (fun T H => T 0 = (V.ms 209 v9 0 (l.length)) ∧ T 3 = (V.mp 303 (v3 + 1) 0 0) ∧ T 6 = (V.bool (exB (inP l t) 0 k)) ∧ T 8 = (V.mp 308 (v308 + 1) 0 0) ∧ T 11 = (V.ms 209 v9 0 (l.length)) ∧ T 12 = (iV ((l.length : Nat) : Int)) ∧ T 13 = (iV ((k : Nat) : Int)) ∧ (∀ j, j ∉ [303, 308, 354, 407, 209] → H j = Hi j) ∧ H 209 = (⟨v9, true, false, 63, 2, (List.map cT (l))⟩ : Blk) ∧ H 303 = (⟨v3 + 1, true, false, 63, 2, [[(V.sl (List.map cI (t.ni))), (V.sl (List.map cI (t.no)))]]⟩ : Blk) ∧ H 308 = (⟨v308 + 1, true, false, 63, 2, [[(V.sl (List.map cI ((nth (l) (k)).ni))), (V.sl (List.map cI ((nth (l) (k)).no)))]]⟩ : Blk) ∧ (H 354).ver = v54 ∧ (H 407).ver = v7 ∧ True) ?_ ?_
  ·
   unfold r103_4
   refine R_idx_ms0 (i := k) t11 t13 h209 (okB_map (by omega)) rfl (by omega) ?_
   refine R_load_mp (v := (V.agg [(V.sl (List.map cI ((nth (l) (k)).ni))), (V.sl (List.map cI ((nth (l) (k)).no)))])) (@rfl V (V.mp 209 v9 k 0)) h209 (ldB_map (by omega) (by first | rfl | simp [ldV, V.one])) ?_
   refine R_alloc (i := 308) (n := v308) (m := 2) (by rfl) h308 rfl ?_
   refine R_store (vs := [(V.sl (List.map cI ((nth (l) (k)).ni))), (V.sl (List.map cI ((nth (l) (k)).no)))]) (B' := (⟨v308 + 1, true, false, 63, 2, [[(V.sl (List.map cI ((nth (l) (k)).ni))), (V.sl (List.map cI ((nth (l) (k)).no)))]]⟩ : Blk)) (@rfl V (V.mp 308 (v308 + 1) 0 0)) (@rfl V (V.agg [(V.sl (List.map cI ((nth (l) (k)).ni))), (V.sl (List.map cI ((nth (l) (k)).no)))])) rfl (@rfl Blk (⟨v308 + 1, true, false, 63, 2, [[V.nilsl, V.nilsl]]⟩ : Blk)) (by first | rfl | simp [stB, okB, Blk.own, putAt, V.one]) ?_
   exact R_nil ⟨t0, t3, t6, rfl, t11, t12, t13, (upd_out (upd_out hF (by decide)) (by decide)), h209, h303, rfl, h354, h407, trivial⟩
  intro T H ⟨t0, t3, t6, t8, t11, t12, t13, hF, h209, h303, h308, h354, h407, _⟩
  refine W_seq_seq ?_
  refine W_seq_regc (fun T H => T 0 = (V.ms 209 v9 0 (l.length)) ∧ T 3 = (V.mp 303 (v3 + 1) 0 0) ∧ T 6 = (V.bool (exB (inP l t) 0 k)) ∧ T 8 = (V.mp 308 (v308 + 1) 0 0) ∧ T 11 = (V.ms 209 v9 0 (l.length)) ∧ T 12 = (iV ((l.length : Nat) : Int)) ∧ T 13 = (iV ((k : Nat) : Int)) ∧ T 20 = (V.bool (decide ((0 : Int) ≤ (df ((nth (l) (k))) t)))) ∧ (∀ j, j ∉ [303, 308, 354, 407, 209] → H j = Hi j) ∧ H 209 = (⟨v9, true, false, 63, 2, (List.map cT (l))⟩ : Blk) ∧ H 303 = (⟨v3 + 1, true, false, 63, 2, [[(V.sl (List.map cI (t.ni))), (V.sl (List.map cI (t.no)))]]⟩ : Blk) ∧ H 308 = (⟨v308 + 1, true, false, 63, 2, [[(V.sl (List.map cI ((nth (l) (k)).ni))), (V.sl (List.map cI ((nth (l) (k)).no)))]]⟩ : Blk) ∧ (H 354).ver = v54 ∧ (H 407).ver = v7 ∧ True) ?_ ?_
  ·
   unfold r103_5
   refine R_load_mp (v := (V.agg [(V.sl (List.map cI ((nth (l) (k)).ni))), (V.sl (List.map cI ((nth (l) (k)).no)))])) t8 h308 (by first | rfl | simp [ldB, ldV, Blk.own, V.one]) ?_
   refine R_load_mp (v := (V.agg [(V.sl (List.map cI (t.ni))), (V.sl (List.map cI (t.no)))])) t3 h303 (by first | rfl | simp [ldB, ldV, Blk.own, V.one]) ?_
   refine R_call (evcons (@rfl V (V.agg [(V.sl (List.map cI ((nth (l) (k)).ni))), (V.sl (List.map cI ((nth (l) (k)).no)))])) (evcons (@rfl V (V.agg [(V.sl (List.map cI (t.ni))), (V.sl (List.map cI (t.no)))])) evnil)) (odiffer_pure ((nth (l) (k))) t (hpl k (by omega)) hp1.len) (fzv_mapcanon _ _ (by simp [-List.map_take, -List.map_drop, -List.map_append, -List.map_reverse])) (by simp [-List.map_take, -List.map_drop, -List.map_append, -List.map_reverse]) (Or.inl (by simp [-List.map_take, -List.map_drop, -List.map_append, -List.map_reverse])) ?_
   refine R_geq (x := (df ((nth (l) (k))) t)) (y := (0 : Int)) (@rfl V (iV (df ((nth (l) (k))) t))) (@rfl V (iV (0 : Int))) ?_
   exact R_nil ⟨t0, t3, t6, t8, t11, t12, t13, rfl, hF, h209, h303, h308, h354, h407, trivial⟩
  intro T H ⟨t0, t3, t6, t8, t11, t12, t13, t20, hF, h209, h303, h308, h354, h407, _⟩
  refine W_seq_if (p := (0 : Int) ≤ (df ((nth (l) (k))) t)) t20 (fun c5 => ?_) (fun c5 => ?_)
  ·
   have d1 : ndP l t k = true := decide_eq_true c5
   refine W_seq_seq ?_
   refine W_seq_regc (fun T H => T 4 = V.nilsl ∧ T 5 = (iV (13 : Int)) ∧ (∀ j, j ∉ [303, 308, 354, 407, 209] → H j = Hi j) ∧ H 209 = (⟨v9, true, false, 63, 2, (List.map cT (l))⟩ : Blk) ∧ H 303 = (⟨v3 + 1, true, false, 63, 2, [[(V.sl (List.map cI (t.ni))), (V.sl (List.map cI (t.no)))]]⟩ : Blk) ∧ H 308 = (⟨v308 + 1, true, false, 63, 2, [[(V.sl (List.map cI ((nth (l) (k)).ni))), (V.sl (List.map cI ((nth (l) (k)).no)))]]⟩ : Blk) ∧ (H 354).ver = v54 ∧ (H 407).ver = v7 ∧ True) ?_ ?_
   ·
    unfold r103_6
    refine R_mv (@rfl V V.nilsl) ?_
    refine R_mv (@rfl V (iV (13 : Int))) ?_
    exact R_nil ⟨rfl, rfl, hF, h209, h303, h308, h354, h407, trivial⟩
   intro T H ⟨t4, t5, hF, h209, h303, h308, h354, h407, _⟩
   refine W_seq_ret ?_
   refine y4 _ _ ?_
   refine p22 _ _ ?_
   refine y1 _ _ ?_
   skip
   have fh := FinX.fin (FinX.putv (n := v9) (B := (⟨v9 + 2, false, false, 0, 0, []⟩ : Blk)) (FinX.putv (n := v7) (B := (⟨v7 + l.length, false, false, 0, 0, []⟩ : Blk)) (FinX.putv (n := v54) (B := (⟨v54 + 1, false, false, 0, 0, []⟩ : Blk)) (FinX.putv (n := (v308 + 1)) (B := (⟨v8 + l.length, false, false, 0, 0, []⟩ : Blk)) (FinX.putv (n := (v3 + 1)) (B := (⟨v3 + 1, false, false, 0, 0, []⟩ : Blk)) (FinX.start hF) (congrArg Blk.ver h303) (by show _ ≤ v3 + 1; omega) rfl) (congrArg Blk.ver h308) (by show _ ≤ v8 + l.length; omega) rfl) h354 (by show _ ≤ v54 + 1; omega) rfl) h407 (by show _ ≤ v7 + l.length; omega) rfl) (congrArg Blk.ver h209) (by show _ ≤ v9 + 2; omega) rfl)
   exact RetF_2 t4 t5 fh .nil (FinV.trans_eq (FinV.same fh _) (by first | rfl | (simp only [exB, inP, Nat.zero_add]; done) | (rw [he]; done) | (rw [addL, if_pos d2]; done) | (rw [addL, if_neg d2, ins_len]; done) | (rw [addE, if_pos (by rw [hc, fi_hit d1 (by omega)]; omega)]; done) | (rw [addE, if_neg d4, if_neg d2, if_pos (by omega)]; done)))
  have d1 : ndP l t k = false := decide_eq_false c5
  refine W_seq_skip ?_
  refine W_regc (fun T H => T 0 = (V.ms 209 v9 0 (l.length)) ∧ T 3 = (V.mp 303 (v3 + 1) 0 0) ∧ T 6 = (V.bool (((exB (inP l t) 0 k) || (hp ((nth (l) (k)).ni) t.ni)))) ∧ T 11 = (V.ms 209 v9 0 (l.length)) ∧ T 12 = (iV ((l.length : Nat) : Int)) ∧ T 13 = (iV ((k : Nat) : Int)) ∧ (∀ j, j ∉ [303, 308, 354, 407, 209] → H j = Hi j) ∧ H 209 = (⟨v9, true, false, 63, 2, (List.map cT (l))⟩ : Blk) ∧ H 303 = (⟨v3 + 1, true, false, 63, 2, [[(V.sl (List.map cI (t.ni))), (V.sl (List.map cI (t.no)))]]⟩ : Blk) ∧ H 308 = (⟨v308 + 1, true, false, 63, 2, [[(V.sl (List.map cI ((nth (l) (k)).ni))), (V.sl (List.map cI ((nth (l) (k)).no)))]]⟩ : Blk) ∧ (H 354).ver = v54 ∧ (H 407).ver = v7 ∧ True) ?_ ?_
  ·
   unfold r103_7
   refine R_mv t6 ?_
   refine R_mv (@rfl V (V.bool (exB (inP l t) 0 k))) ?_
   refine Ops_seg 6 (fun T H => T 0 = (V.ms 209 v9 0 (l.length)) ∧ T 3 = (V.mp 303 (v3 + 1) 0 0) ∧ T 6 = (V.bool (exB (inP l t) 0 k)) ∧ T 11 = (V.ms 209 v9 0 (l.length)) ∧ T 12 = (iV ((l.length : Nat) : Int)) ∧ T 13 = (iV ((k : Nat) : Int)) ∧ T 28 = (V.bool (((exB (inP l t) 0 k) || (hp ((nth (l) (k)).ni) t.ni)))) ∧ (∀ j, j ∉ [303, 308, 354, 407, 209] → H j = Hi j) ∧ H 209 = (⟨v9, true, false, 63, 2, (List.map cT (l))⟩ : Blk) ∧ H 303 = (⟨v3 + 1, true, false, 63, 2, [[(V.sl (List.map cI (t.ni))), (V.sl (List.map cI (t.no)))]]⟩ : Blk) ∧ H 308 = (⟨v308 + 1, true, false, 63, 2, [[(V.sl (List.map cI ((nth (l) (k)).ni))), (V.sl (List.map cI ((nth (l) (k)).no)))]]⟩ : Blk) ∧ (H 354).ver = v54 ∧ (H 407).ver = v7 ∧ True) ?_ ?_
   ·
    by_cases g6 : (exB (inP l t) 0 k) = true
    ·
     refine G_no (Eq.trans (@rfl V (V.bool (exB (inP l t) 0 k))) (bbT g6)) (by decide) ?_
     refine G_no (Eq.trans (@rfl V (V.bool (exB (inP l t) 0 k))) (bbT g6)) (by decide) ?_
     refine G_no (Eq.trans (@rfl V (V.bool (exB (inP l t) 0 k))) (bbT g6)) (by decide) ?_
     refine G_no (Eq.trans (@rfl V (V.bool (exB (inP l t) 0 k))) (bbT g6)) (by decide) ?_
     refine G_no (Eq.trans (@rfl V (V.bool (exB (inP l t) 0 k))) (bbT g6)) (by decide) ?_
     refine R_pickT (Eq.trans (@rfl V (V.bool (exB (inP l t) 0 k))) (bbT g6)) (@rfl V (V.bool true)) ?_
     exact ⟨t0, t3, t6, t11, t12, t13, (Eq.trans (@rfl V (V.bool true)) (borT g6)), hF, h209, h303, h308, h354, h407, trivial⟩
    ·
     refine G_yes (Eq.trans (@rfl V (V.bool (exB (inP l t) 0 k))) (bbF g6)) ?_
     refine R_fld_mp (o' := 0) t8 h308 (by first | rfl | simp [okB, Blk.own]) rfl ?_
     refine G_yes (Eq.trans (@rfl V (V.bool (exB (inP l t) 0 k))) (bbF g6)) ?_
     refine R_load_mp (v := (V.sl (List.map cI ((nth (l) (k)).ni)))) (@rfl V (V.mp 308 (v308 + 1) 0 0)) h308 (by first | rfl | simp [ldB, ldV, Blk.own, V.one]) ?_
     refine G_yes (Eq.trans (@rfl V (V.bool (exB (inP l t) 0 k))) (bbF g6)) ?_
     refine R_fld_mp (o' := 0) t3 h303 (by first | rfl | simp [okB, Blk.own]) rfl ?_
     refine G_yes (Eq.trans (@rfl V (V.bool (exB (inP l t) 0 k))) (bbF g6)) ?_
     refine R_load_mp (v := (V.sl (List.map cI (t.ni)))) (@rfl V (V.mp 303 (v3 + 1) 0 0)) h303 (by first | rfl | simp [ldB, ldV, Blk.own, V.one]) ?_
     refine G_yes (Eq.trans (@rfl V (V.bool (exB (inP l t) 0 k))) (bbF g6)) ?_
     refine R_call (evcons (@rfl V (V.sl (List.map cI ((nth (l) (k)).ni)))) (evcons (@rfl V (V.sl (List.map cI (t.ni)))) evnil)) (hp_pure ((nth (l) (k)).ni) t.ni) (fzv_mapcanon _ _ (by simp [-List.map_take, -List.map_drop, -List.map_append, -List.map_reverse])) (by simp [-List.map_take, -List.map_drop, -List.map_append, -List.map_reverse]) (Or.inl (by simp [-List.map_take, -List.map_drop, -List.map_append, -List.map_reverse])) ?_
     refine R_pickF (Eq.trans (@rfl V (V.bool (exB (inP l t) 0 k))) (bbF g6)) (@rfl V (V.bool (hp ((nth (l) (k)).ni) t.ni))) ?_
     exact ⟨t0, t3, t6, t11, t12, t13, (Eq.trans (@rfl V (V.bool (hp ((nth (l) (k)).ni) t.ni))) (borF g6)), hF, h209, h303, h308, h354, h407, trivial⟩
   intro T H ⟨t0, t3, t6, t11, t12, t13, t28, hF, h209, h303, h308, h354, h407, _⟩
   refine R_mv t28 ?_
   exact R_nil ⟨t0, t3, rfl, t11, t12, t13, hF, h209, h303, h308, h354, h407, trivial⟩
  intro T H ⟨t0, t3, t6, t11, t12, t13, hF, h209, h303, h308, h354, h407, _⟩
  refine n4 _ _ ?_
  refine .done ?_
  refine W_regc (fun T H => T 0 = (V.ms 209 v9 0 (l.length)) ∧ T 3 = (V.mp 303 (v3 + 1) 0 0) ∧ T 6 = (V.bool (((exB (inP l t) 0 k) || (hp ((nth (l) (k)).ni) t.ni)))) ∧ T 11 = (V.ms 209 v9 0 (l.length)) ∧ T 12 = (iV ((l.length : Nat) : Int)) ∧ T 13 = (iV ((k + 1 : Nat) : Int)) ∧ (∀ j, j ∉ [303, 308, 354, 407, 209] → H j = Hi j) ∧ H 209 = (⟨v9, true, false, 63, 2, (List.map cT (l))⟩ : Blk) ∧ H 303 = (⟨v3 + 1, true, false, 63, 2, [[(V.sl (List.map cI (t.ni))), (V.sl (List.map cI (t.no)))]]⟩ : Blk) ∧ H 308 = (⟨v308 + 1, true, false, 63, 2, [[(V.sl (List.map cI ((nth (l) (k)).ni))), (V.sl (List.map cI ((nth (l) (k)).no)))]]⟩ : Blk) ∧ (H 354).ver = v54 ∧ (H 407).ver = v7 ∧ True) ?_ ?_
  ·
   unfold r103_8
   refine R_addN (m := k) (n := 1) t13 (@rfl V (iV ((1 : Nat) : Int))) (by omega) ?_
   refine R_mv (@rfl V (iV ((k + 1 : Nat) : Int))) ?_
   exact R_nil ⟨t0, t3, t6, t11, t12, rfl, hF, h209, h303, h308, h354, h407, trivial⟩
  intro T H ⟨t0, t3, t6, t11, t12, t13, hF, h209, h303, h308, h354, h407, _⟩
  refine p12 _ _ _ ?_ ⟨(k + 1), (v308 + 1), rfl, t0, t3, (Eq.trans t6 (by first | rfl | (simp only [exB, inP, Nat.zero_add]; done) | (rw [he]; done) | (rw [addL, if_pos d2]; done) | (rw [addL, if_neg d2, ins_len]; done) | (rw [addE, if_pos (by rw [hc, fi_hit d1 (by omega)]; omega)]; done) | (rw [addE, if_neg d4, if_neg d2, if_pos (by omega)]; done))), t11, t12, (Eq.trans t13 (by first | rfl | (simp only [exB, inP, Nat.zero_add]; done) | (rw [he]; done) | (rw [addL, if_pos d2]; done) | (rw [addL, if_neg d2, ins_len]; done) | (rw [addE, if_pos (by rw [hc, fi_hit d1 (by omega)]; omega)]; done) | (rw [addE, if_neg d4, if_neg d2, if_pos (by omega)]; done))), hF, h209, h303, (congrArg Blk.ver h308), h354, h407, ?_, ?_, ?_⟩
  · omega
  · omega
  · omega
  · rw [hc, fi_skip d1 (by omega)]
 refine W_seq_exit ?_
 refine p32 _ _ _ ?_
 refine x1 _ _ ?_
 refine .done ?_
 refine W_seq_seq ?_
 refine W_seq_regc (fun T H => T 0 = (V.ms 209 v9 0 (l.length)) ∧ T 3 = (V.mp 303 (v3 + 1) 0 0) ∧ T 36 = (V.bool (((exB (inP l t) 0 k) || decide (((t.ni.length : Nat) : Int) = (0 : Int))))) ∧ (∀ j, j ∉ [303, 308, 354, 407, 209] → H j = Hi j) ∧ H 209 = (⟨v9, true, false, 63, 2, (List.map cT (l))⟩ : Blk) ∧ H 303 = (⟨v3 + 1, true, false, 63, 2, [[(V.sl (List.map cI (t.ni))), (V.sl (List.map cI (t.no)))]]⟩ : Blk) ∧ (H 308).ver = v308 ∧ (H 354).ver = v54 ∧ (H 407).ver = v7 ∧ True) ?_ ?_
 ·
  unfold r103_9
  refine R_mv t6 ?_
  refine R_mv (@rfl V (V.bool (exB (inP l t) 0 k))) ?_
  refine Ops_seg 5 (fun T H => T 0 = (V.ms 209 v9 0 (l.length)) ∧ T 3 = (V.mp 303 (v3 + 1) 0 0) ∧ T 36 = (V.bool (((exB (inP l t) 0 k) || decide (((t.ni.length : Nat) : Int) = (0 : Int))))) ∧ (∀ j, j ∉ [303, 308, 354, 407, 209] → H j = Hi j) ∧ H 209 = (⟨v9, true, false, 63, 2, (List.map cT (l))⟩ : Blk) ∧ H 303 = (⟨v3 + 1, true, false, 63, 2, [[(V.sl (List.map cI (t.ni))), (V.sl (List.map cI (t.no)))]]⟩ : Blk) ∧ (H 308).ver = v308 ∧ (H 354).ver = v54 ∧ (H 407).ver = v7 ∧ True) ?_ ?_
  ·
   by_cases g7 : (exB (inP l t) 0 k) = true
   ·
    refine G_no (Eq.trans (@rfl V (V.bool (exB (inP l t) 0 k))) (bbT g7)) (by decide) ?_
    refine G_no (Eq.trans (@rfl V (V.bool (exB (inP l t) 0 k))) (bbT g7)) (by decide) ?_
    refine G_no (Eq.trans (@rfl V (V.bool (exB (inP l t) 0 k))) (bbT g7)) (by decide) ?_
    refine G_no (Eq.trans (@rfl V (V.bool (exB (inP l t) 0 k))) (bbT g7)) (by decide) ?_
    refine R_pickT (Eq.trans (@rfl V (V.bool (exB (inP l t) 0 k))) (bbT g7)) (@rfl V (V.bool true)) ?_
    exact ⟨t0, t3, (Eq.trans (@rfl V (V.bool true)) (borT g7)), hF, h209, h303, h308, h354, h407, trivial⟩
   ·
    refine G_yes (Eq.trans (@rfl V (V.bool (exB (inP l t) 0 k))) (bbF g7)) ?_
    refine R_fld_mp (o' := 0) t3 h303 (by first | rfl | simp [okB, Blk.own]) rfl ?_
    refine G_yes (Eq.trans (@rfl V (V.bool (exB (inP l t) 0 k))) (bbF g7)) ?_
    refine R_load_mp (v := (V.sl (List.map cI (t.ni)))) (@rfl V (V.mp 303 (v3 + 1) 0 0)) h303 (by first | rfl | simp [ldB, ldV, Blk.own, V.one]) ?_
    refine G_yes (Eq.trans (@rfl V (V.bool (exB (inP l t) 0 k))) (bbF g7)) ?_
    refine R_len (@rfl V (V.sl (List.map cI (t.ni)))) ?_
    refine G_yes (Eq.trans (@rfl V (V.bool (exB (inP l t) 0 k))) (bbF g7)) ?_
    refine R_eql (x := ((t.ni.length : Nat) : Int)) (y := (0 : Int)) (@rfl V (iV ((t.ni.length : Nat) : Int))) (@rfl V (iV (0 : Int))) ?_
    refine R_pickF (Eq.trans (@rfl V (V.bool (exB (inP l t) 0 k))) (bbF g7)) (@rfl V (V.bool (decide (((t.ni.length : Nat) : Int) = (0 : Int))))) ?_
    exact ⟨t0, t3, (Eq.trans (@rfl V (V.bool (decide (((t.ni.length : Nat) : Int) = (0 : Int))))) (borF g7)), hF, h209, h303, h308, h354, h407, trivial⟩
  intro T H ⟨t0, t3, t36, hF, h209, h303, h308, h354, h407, _⟩
  exact R_nil ⟨t0, t3, t36, hF, h209, h303, h308, h354, h407, trivial⟩
 intro T H ⟨t0, t3, t36, hF, h209, h303, h308, h354, h407, _⟩
 refine W_seq_ifb t36 (fun c8 => ?_) (fun c8 => ?_)
 ·
  have d2 : inL l t := by have q := c8; rw [show k = l.length by omega] at q; simpa [inL] using q
  refine W_seq_seq ?_
  refine W_seq_regc (fun T H => T 4 = (V.ms 209 v9 0 (l.length)) ∧ T 5 = (iV (0 : Int)) ∧ (∀ j, j ∉ [303, 308, 354, 407, 209] → H j = Hi j) ∧ H 209 = (⟨v9, true, false, 63, 2, (List.map cT (l))⟩ : Blk) ∧ H 303 = (⟨v3 + 1, true, false, 63, 2, [[(V.sl (List.map cI (t.ni))), (V.sl (List.map cI (t.no)))]]⟩ : Blk) ∧ (H 308).ver = v308 ∧ (H 354).ver = v54 ∧ (H 407).ver = v7 ∧ True) ?_ ?_
  ·
   unfold r103_10
   refine R_mv t0 ?_
   refine R_mv (@rfl V (V.ms 209 v9 0 (l.length))) ?_
   refine R_mv (@rfl V (iV (0 : Int))) ?_
   exact R_nil ⟨rfl, rfl, hF, h209, h303, h308, h354, h407, trivial⟩
  intro T H ⟨t4, t5, hF, h209, h303, h308, h354, h407, _⟩
  refine W_seq_ret ?_
  exfalso
  have d4 : ¬0 ≤ fi (ndP l t) 0 l.length := by rw [hc, fi_end (by omega)]; omega
  apply he; rw [addE, if_neg d4, if_pos d2]
 have d2 : ¬inL l t := by have q := c8; rw [show k = l.length by omega] at q; simpa [inL] using q
 refine W_seq_skip ?_
 refine W_seq_regc (fun T H => T 0 = (V.ms 209 v9 0 (((l.filter (kp t)).length))) ∧ T 3 = (V.mp 303 (v3 + 1) 0 0) ∧ (∀ j, j ∉ [303, 308, 354, 407, 209] → H j = Hi j) ∧ H 209 = (⟨v9, true, false, 63, 2, (List.map cT (l.filter (kp t)) ++ List.replicate (l.length - (l.filter (kp t)).length) [V.nilsl, V.nilsl])⟩ : Blk) ∧ H 303 = (⟨v3 + 1, true, false, 63, 2, [[(V.sl (List.map cI (t.ni))), (V.sl (List.map cI (t.no)))]]⟩ : Blk) ∧ (H 308).ver = v308 ∧ (H 354).ver = v54 ∧ H 407 = (⟨v7 + l.length, false, false, 0, 0, []⟩ : Blk) ∧ True) ?_ ?_
 ·
  unfold r103_11
  refine R_mv t0 ?_
  refine R_mkf (evcons t3 evnil) ?_
  refine R_callE (evcons (@rfl V (V.ms 209 v9 0 (l.length))) (evcons (@rfl V (V.fn 117 [] [(V.mp 303 (v3 + 1) 0 0)])) evnil)) (del_E l t v9 (v3 + 1) v7 _ h209 h303 h407 (by omega)) ?_
  refine R_mv (@rfl V (V.ms 209 v9 0 (((l.filter (kp t)).length)))) ?_
  exact R_nil ⟨rfl, t3, (upd_out (upd_out hF (by decide)) (by decide)), rfl, h303, h308, h354, rfl, trivial⟩
 intro T H ⟨t0, t3, hF, h209, h303, h308, h354, h407, _⟩
 refine W_seq_seq ?_
 refine W_seq_regc (fun T H => T 0 = (V.ms 209 v9 0 (((l.filter (kp t)).length))) ∧ T 3 = (V.mp 303 (v3 + 1) 0 0) ∧ T 43 = (V.bool (decide (((((l.filter (kp t)).length) : Nat) : Int) = (10000 : Int)))) ∧ (∀ j, j ∉ [303, 308, 354, 407, 209] → H j = Hi j) ∧ H 209 = (⟨v9, true, false, 63, 2, (List.map cT (l.filter (kp t)) ++ List.replicate (l.length - (l.filter (kp t)).length) [V.nilsl, V.nilsl])⟩ : Blk) ∧ H 303 = (⟨v3 + 1, true, false, 63, 2, [[(V.sl (List.map cI (t.ni))), (V.sl (List.map cI (t.no)))]]⟩ : Blk) ∧ (H 308).ver = v308 ∧ (H 354).ver = v54 ∧ H 407 = (⟨v7 + l.length, false, false, 0, 0, []⟩ : Blk) ∧ True) ?_ ?_
 ·
  unfold r103_12
  refine R_mv t0 ?_
  refine R_len_ms (@rfl V (V.ms 209 v9 0 (((l.filter (kp t)).length)))) h209 (by first | rfl | simp) ?_
  refine R_eql (x := ((((l.filter (kp t)).length) : Nat) : Int)) (y := (10000 : Int)) (@rfl V (iV ((((l.filter (kp t)).length) : Nat) : Int))) (@rfl V (iV (10000 : Int))) ?_
  exact R_nil ⟨t0, t3, rfl, hF, h209, h303, h308, h354, h407, trivial⟩
 intro T H ⟨t0, t3, t43, hF, h209, h303, h308, h354, h407, _⟩
 refine W_seq_if (p := ((((l.filter (kp t)).length) : Nat) : Int) = (10000 : Int)) t43 (fun c9 => ?_) (fun c9 => ?_)
 ·
  have d3 := c9
  refine W_seq_seq ?_
  refine W_seq_regc (fun T H => T 4 = V.nilsl ∧ T 5 = (iV (11 : Int)) ∧ (∀ j, j ∉ [303, 308, 354, 407, 209] → H j = Hi j) ∧ H 209 = (⟨v9, true, false, 63, 2, (List.map cT (l.filter (kp t)) ++ List.replicate (l.length - (l.filter (kp t)).length) [V.nilsl, V.nilsl])⟩ : Blk) ∧ H 303 = (⟨v3 + 1, true, false, 63, 2, [[(V.sl (List.map cI (t.ni))), (V.sl (List.map cI (t.no)))]]⟩ : Blk) ∧ (H 308).ver = v308 ∧ (H 354).ver = v54 ∧ H 407 = (⟨v7 + l.length, false, false, 0, 0, []⟩ : Blk) ∧ True) ?_ ?_
  ·
   unfold r103_13
   refine R_mv (@rfl V V.nilsl) ?_
   refine R_mv (@rfl V (iV (11 : Int))) ?_
   exact R_nil ⟨rfl, rfl, hF, h209, h303, h308, h354, h407, trivial⟩
  intro T H ⟨t4, t5, hF, h209, h303, h308, h354, h407, _⟩
  refine W_seq_ret ?_
  have d4 : ¬0 ≤ fi (ndP l t) 0 l.length := by rw [hc, fi_end (by omega)]; omega
  
  have fh := FinX.fin (FinX.putv (n := v9) (B := (⟨v9 + 2, false, false, 0, 0, []⟩ : Blk)) (FinX.put (FinX.putv (n := v54) (B := (⟨v54 + 1, false, false, 0, 0, []⟩ : Blk)) (FinX.putv (n := v308) (B := (⟨v8 + l.length, false, false, 0, 0, []⟩ : Blk)) (FinX.putv (n := (v3 + 1)) (B := (⟨v3 + 1, false, false, 0, 0, []⟩ : Blk)) (FinX.start hF) (congrArg Blk.ver h303) (by show _ ≤ v3 + 1; omega) rfl) h308 (by show _ ≤ v8 + l.length; omega) rfl) h354 (by show _ ≤ v54 + 1; omega) rfl) h407 (FinB.eq rfl)) (congrArg Blk.ver h209) (by show _ ≤ v9 + 2; omega) rfl)
  exact RetF_2 t4 t5 fh .nil (FinV.trans_eq (FinV.same fh _) (by first | rfl | (simp only [exB, inP, Nat.zero_add]; done) | (rw [he]; done) | (rw [addL, if_pos d2]; done) | (rw [addL, if_neg d2, ins_len]; done) | (rw [addE, if_pos (by rw [hc, fi_hit d1 (by omega)]; omega)]; done) | (rw [addE, if_neg d4, if_neg d2, if_pos (by omega)]; done)))
 have d3 := c9
 refine W_seq_skip ?_
 refine W_seq_regc (fun T H => T 0 = (V.ms 209 v9 0 (((l.filter (kp t)).length))) ∧ T 3 = (V.mp 303 (v3 + 1) 0 0) ∧ T 9 = (iV ((lbN (l.filter (kp t)) t : Nat) : Int)) ∧ (∀ j, j ∉ [303, 308, 354, 407, 209] → H j = Hi j) ∧ H 209 = (⟨v9, true, false, 63, 2, (List.map cT (l.filter (kp t)) ++ List.replicate (l.length - (l.filter (kp t)).length) [V.nilsl, V.nilsl])⟩ : Blk) ∧ H 303 = (⟨v3 + 1, true, false, 63, 2, [[(V.sl (List.map cI (t.ni))), (V.sl (List.map cI (t.no)))]]⟩ : Blk) ∧ (H 308).ver = v308 ∧ (H 354).ver = v54 ∧ H 407 = (⟨v7 + l.length, false, false, 0, 0, []⟩ : Blk) ∧ True) ?_ ?_
 ·
  unfold r103_14
  refine R_mv t0 ?_
  refine R_load_mp (v := (V.agg [(V.sl (List.map cI (t.ni))), (V.sl (List.map cI (t.no)))])) t3 h303 (by first | rfl | simp [ldB, ldV, Blk.own, V.one]) ?_
  refine R_call (evcons (@rfl V (V.ms 209 v9 0 (((l.filter (kp t)).length)))) (evcons (@rfl V (V.agg [(V.sl (List.map cI (t.ni))), (V.sl (List.map cI (t.no)))])) (evcons (@rfl V (V.fn 79 [] [])) evnil))) (bs_pure (l.filter (kp t)) t hsr (by first | omega | assumption)) (mcons (fz_mst h209 (by first | rfl | simp) (take_zap (l := (l.filter (kp t))) (by first | rfl | simp | omega)) (fun _ => by simp)) (mcons (fzv_canon 6 _ (by simp [-List.map_take, -List.map_drop, -List.map_append, -List.map_reverse])) (mcons (fzv_canon 6 _ (by simp [-List.map_take, -List.map_drop, -List.map_append, -List.map_reverse])) rfl))) (by simp [-List.map_take, -List.map_drop, -List.map_append, -List.map_reverse]) (Or.inr rfl) ?_
  refine R_mv (@rfl V (V.tup [(iV ((lbN (l.filter (kp t)) t : Nat) : Int)), (V.bool (decide (lbN (l.filter (kp t)) t < (l.filter (kp t)).length ∧ slx (nth (l.filter (kp t)) (lbN (l.filter (kp t)) t)).ni t.ni = 0)))])) ?_
  refine R_ext (v := (iV ((lbN (l.filter (kp t)) t : Nat) : Int))) (@rfl V (V.tup [(iV ((lbN (l.filter (kp t)) t : Nat) : Int)), (V.bool (decide (lbN (l.filter (kp t)) t < (l.filter (kp t)).length ∧ slx (nth (l.filter (kp t)) (lbN (l.filter (kp t)) t)).ni t.ni = 0)))])) rfl ?_
  refine R_ext (v := (V.bool (decide (lbN (l.filter (kp t)) t < (l.filter (kp t)).length ∧ slx (nth (l.filter (kp t)) (lbN (l.filter (kp t)) t)).ni t.ni = 0)))) (@rfl V (V.tup [(iV ((lbN (l.filter (kp t)) t : Nat) : Int)), (V.bool (decide (lbN (l.filter (kp t)) t < (l.filter (kp t)).length ∧ slx (nth (l.filter (kp t)) (lbN (l.filter (kp t)) t)).ni t.ni = 0)))])) rfl ?_
  refine R_mv (@rfl V (iV ((lbN (l.filter (kp t)) t : Nat) : Int))) ?_
  refine R_mv (@rfl V (V.bool (decide (lbN (l.filter (kp t)) t < (l.filter (kp t)).length ∧ slx (nth (l.filter (kp t)) (lbN (l.filter (kp t)) t)).ni t.ni = 0)))) ?_
  exact R_nil ⟨t0, t3, rfl, hF, h209, h303, h308, h354, h407, trivial⟩
 intro T H ⟨t0, t3, t9, hF, h209, h303, h308, h354, h407, _⟩
 refine W_seq_regc (fun T H => T 4 = (V.ms 209 (v9 + 2) 0 ((l.filter (kp t)).length + 1)) ∧ T 5 = (iV (0 : Int)) ∧ (∀ j, j ∉ [303, 308, 354, 407, 209] → H j = Hi j) ∧ H 209 = (⟨v9 + 2, true, false, 63, 2, (List.map cT (ins (l.filter (kp t)) t))⟩ : Blk) ∧ H 303 = (⟨v3 + 1, true, false, 63, 2, [[(V.sl (List.map cI (t.ni))), (V.sl (List.map cI (t.no)))]]⟩ : Blk) ∧ (H 308).ver = v308 ∧ H 354 = (⟨v54 + 1, true, false, 63, 2, [[(V.sl (List.map cI (t.ni))), (V.sl (List.map cI (t.no)))]]⟩ : Blk) ∧ H 407 = (⟨v7 + l.length, false, false, 0, 0, []⟩ : Blk) ∧ True) ?_ ?_
 ·
  unfold r103_15
  refine R_mv t0 ?_
  refine R_mv t9 ?_
  refine R_load_mp (v := (V.agg [(V.sl (List.map cI (t.ni))), (V.sl (List.map cI (t.no)))])) t3 h303 (by first | rfl | simp [ldB, ldV, Blk.own, V.one]) ?_
  refine R_call (evcons (@rfl V (V.agg [(V.sl (List.map cI (t.ni))), (V.sl (List.map cI (t.no)))])) evnil) (copied_pure t (by first | omega | assumption) (by first | omega | assumption)) (fzv_mapcanon _ _ (by simp [-List.map_take, -List.map_drop, -List.map_append, -List.map_reverse])) (by simp [-List.map_take, -List.map_drop, -List.map_append, -List.map_reverse]) (Or.inl (by simp [-List.map_take, -List.map_drop, -List.map_append, -List.map_reverse])) ?_
  refine R_bslice_own (i := 354) (n := v54) (qs := [(0, (V.agg [(V.sl (List.map cI (t.ni))), (V.sl (List.map cI (t.no)))]))]) (rows := [[(V.sl (List.map cI (t.ni))), (V.sl (List.map cI (t.no)))]]) (by rfl) h354 (mcons (congrArg (fun v => (0, v)) (@rfl V (V.agg [(V.sl (List.map cI (t.ni))), (V.sl (List.map cI (t.no)))]))) rfl) rfl ?_
  refine R_callE (evcons (@rfl V (V.ms 209 v9 0 (((l.filter (kp t)).length)))) (evcons (@rfl V (iV ((lbN (l.filter (kp t)) t : Nat) : Int))) (evcons (@rfl V (V.ms 354 (v54 + 1) 0 (1))) evnil))) (insert_tr (F := (l.filter (kp t))) (t := t) _ h209 rfl (by omega) hsr) ?_
  refine R_mv (@rfl V (V.ms 209 (v9 + 2) 0 ((l.filter (kp t)).length + 1))) ?_
  refine R_mv (@rfl V (iV (0 : Int))) ?_
  exact R_nil ⟨rfl, rfl, (upd_out (upd_out hF (by decide)) (by decide)), rfl, h303, h308, rfl, h407, trivial⟩
 intro T H ⟨t4, t5, hF, h209, h303, h308, h354, h407, _⟩
 refine W_ret ?_
 exfalso
 have d4 : ¬0 ≤ fi (ndP l t) 0 l.length := by rw [hc, fi_end (by omega)]; omega
 apply he; rw [addE, if_neg d4, if_neg d2, if_neg (by omega)]
end Go.Proofs.Ytngkckefanbhgaa

namespace Go.Proofs.Ytngkckefanbhgaa
theorem Tr.eq_iff {a b : Tr} : a = b ↔ a.ni = b.ni ∧ a.no = b.no := by cases a; cases b; simp
theorem Ob.eq_iff {a b : Ob} : a = b ↔ a.i = b.i ∧ a.tr = b.tr := by cases a; cases b; simp
instance : DecidableEq Tr := fun _ _ => decidable_of_iff _ Tr.eq_iff.symm
instance : DecidableEq Ob := fun _ _ => decidable_of_iff _ Ob.eq_iff.symm
end Go.Proofs.Ytngkckefanbhgaa

namespace Go.Proofs.Ytngkckefanbhgaa
def alR (i : Int) : List Tr → List Tr → List Tr × Int
  | acc, [] => (acc, 0)
  | acc, t :: l => if prE t i ≠ 0 then ([], prE t i) else if addE acc t ≠ 0 then ([], addE acc t) else alR i (addL acc t) l
def alO (o : Ob) (l : List Tr) : Ob := if (alR o.i o.tr l).2 ≠ 0 then o else ⟨o.i, (alR o.i o.tr l).1⟩
theorem alR_go {i : Int} {acc l : List Tr} {k : Nat} (hk : k < l.length) (h1 : prE (nth l k) i = 0) (h2 : addE acc (nth l k) = 0) : alR i acc (l.drop k) = alR i (addL acc (nth l k)) (l.drop (k + 1)) := by
  rw [nth_drop hk, alR, if_neg (by omega), if_neg (by omega)]
theorem alR_pr {i : Int} {acc l : List Tr} {k : Nat} (hk : k < l.length) (h1 : prE (nth l k) i ≠ 0) : alR i acc (l.drop k) = ([], prE (nth l k) i) := by
  rw [nth_drop hk, alR, if_pos h1]
theorem alR_er {i : Int} {acc l : List Tr} {k : Nat} (hk : k < l.length) (h1 : prE (nth l k) i = 0) (h2 : addE acc (nth l k) ≠ 0) : alR i acc (l.drop k) = ([], addE acc (nth l k)) := by
  rw [nth_drop hk, alR, if_neg (by omega), if_pos h2]
theorem alR_end {i : Int} {acc l : List Tr} {k : Nat} (hk : l.length ≤ k) : alR i acc (l.drop k) = (acc, 0) := by
  rw [List.drop_of_length_le hk, alR]
theorem alR_ok {i : Int} : ∀ {l acc : List Tr}, OK ⟨i, acc⟩ → (alR i acc l).2 = 0 → OK ⟨i, (alR i acc l).1⟩
  | [], acc, h, _ => h
  | t :: l, acc, h, he => by
    rw [alR] at he ⊢
    split at he
    · contradiction
    rename_i h1
    split at he
    · contradiction
    rename_i h2
    rw [if_neg h1, if_neg h2]
    exact alR_ok (add_ok h (by omega) (by omega)) he
theorem alO_ok {o : Ob} {l : List Tr} (h : OK o) : OK (alO o l) := by
  unfold alO
  split
  · exact h
  · rename_i h1; exact alR_ok h (by omega)
theorem alO_i (o : Ob) (l : List Tr) : (alO o l).i = o.i := by unfold alO; split <;> rfl
end Go.Proofs.Ytngkckefanbhgaa

namespace Go.Proofs.Ytngkckefanbhgaa
open Go Go.Proofs
theorem all_pure (o : Ob) (l : List Tr) (ho : OK o) : PureC Try.prog 73 [(V.agg [(iV (o.i)), (V.sl (List.map cT (o.tr)))]), (V.sl (List.map cT (l)))] (V.tup [(V.agg [(iV ((alO o l).i)), (V.sl (List.map cT ((alO o l).tr)))]), (iV ((alR o.i o.tr l).2))]) := by
 refine pure_of_Wb true 6 Try.func73 s73_ok (by kernel_rfl) (by simp [s73]) (by simp) (by simp) fun hB => ?_
 simp only [bnd_map, bnd_int, bnd_bool, bnd_str, bnd_agg, bnd_pp, bnd_nil, bnd_cons, implies_true, and_true, true_and] at hB
 unfold s73
 dsimp only
 have hbd : ∀ k, k < o.tr.length → (nth o.tr k).ni.length ≤ 1048576 ∧ (nth o.tr k).no.length ≤ 1048576 := fun k hk => by have := (ho.pr k hk).1.len; have := (ho.pr k hk).1.lel; omega
 have hol := ho.len
 refine W_seq_regc (fun T H => T 1 = (V.sl (List.map cT (l))) ∧ T 2 = (V.mp 2 1 0 0) ∧ T 4 = (V.mp 4 1 0 0) ∧ H 2 = (⟨1, true, false, 34, 2, [[(iV (o.i)), (V.sl (List.map cT (o.tr)))]]⟩ : Blk) ∧ H 4 = (⟨1, true, false, 34, 2, [[(iV (0 : Int)), V.nilsl]]⟩ : Blk) ∧ H 8 = (⟨0, false, false, 0, 0, []⟩ : Blk) ∧ H 205 = (⟨0, false, false, 0, 0, []⟩ : Blk) ∧ H 209 = (⟨0, false, false, 0, 0, []⟩ : Blk) ∧ H 303 = (⟨0, false, false, 0, 0, []⟩ : Blk) ∧ H 308 = (⟨0, false, false, 0, 0, []⟩ : Blk) ∧ H 354 = (⟨0, false, false, 0, 0, []⟩ : Blk) ∧ H 407 = (⟨0, false, false, 0, 0, []⟩ : Blk) ∧ True) ?_ ?_
 ·
  unfold r73_0
  refine R_box (i := 2) (n := 0) (m := 2) (cs := [(iV (o.i)), (V.sl (List.map cT (o.tr)))]) rfl (congrArg Blk.ver rfl) (@rfl V (V.agg [(iV (o.i)), (V.sl (List.map cT (o.tr)))])) rfl rfl ?_
  refine R_alloc (i := 4) (n := 0) (m := 2) rfl (congrArg Blk.ver rfl) rfl ?_
  refine R_mv (@rfl V (iV (0 : Int))) ?_
  exact R_nil ⟨rfl, rfl, rfl, rfl, rfl, rfl, rfl, rfl, rfl, rfl, rfl, rfl, trivial⟩
 intro T H ⟨t1, t2, t4, h2, h4, h8, h205, h209, h303, h308, h354, h407, _⟩
 refine W_seq_regc (fun T H => T 1 = (V.sl (List.map cT (l))) ∧ T 2 = (V.mp 2 1 0 0) ∧ T 4 = (V.mp 4 1 0 0) ∧ T 6 = (V.ms 209 (0 + 1 + o.tr.length) 0 (o.tr.length)) ∧ H 2 = (⟨1, true, false, 34, 2, [[(iV (o.i)), (V.sl (List.map cT (o.tr)))]]⟩ : Blk) ∧ H 4 = (⟨1, true, false, 34, 2, [[(iV (0 : Int)), V.nilsl]]⟩ : Blk) ∧ H 8 = (⟨0, false, false, 0, 0, []⟩ : Blk) ∧ H 205 = (⟨0 + o.tr.length, false, false, 0, 0, []⟩ : Blk) ∧ H 209 = (⟨0 + 1 + o.tr.length, true, false, 63, 2, (List.map cT (o.tr))⟩ : Blk) ∧ H 303 = (⟨0, false, false, 0, 0, []⟩ : Blk) ∧ H 308 = (⟨0, false, false, 0, 0, []⟩ : Blk) ∧ H 354 = (⟨0, false, false, 0, 0, []⟩ : Blk) ∧ H 407 = (⟨0, false, false, 0, 0, []⟩ : Blk) ∧ True) ?_ ?_
 ·
  unfold r73_1
  refine R_fld_mp (o' := 1) t2 h2 (by first | rfl | simp [okB, Blk.own]) rfl ?_
  refine R_load_mp (v := (V.sl (List.map cT (o.tr)))) (@rfl V (V.mp 2 1 0 1)) h2 (by first | rfl | simp [ldB, ldV, Blk.own, V.one]) ?_
  refine R_callE (evcons (@rfl V (V.sl (List.map cT (o.tr)))) evnil) (owned_E o.tr 0 0 hbd _ (congrArg Blk.ver h205) (congrArg Blk.ver h209) (by omega)) ?_
  refine R_mv (@rfl V (V.ms 209 (0 + 1 + o.tr.length) 0 (o.tr.length))) ?_
  exact R_nil ⟨t1, t2, t4, rfl, h2, h4, h8, rfl, rfl, h303, h308, h354, h407, trivial⟩
 intro T H ⟨t1, t2, t4, t6, h2, h4, h8, h205, h209, h303, h308, h354, h407, _⟩
 refine W_seq_seq ?_
 refine W_seq_regc (fun T H => T 2 = (V.mp 2 1 0 0) ∧ T 4 = (V.mp 4 1 0 0) ∧ T 6 = (V.ms 209 (0 + 1 + o.tr.length) 0 (o.tr.length)) ∧ T 15 = (V.sl (List.map cT (l))) ∧ T 16 = (iV ((l.length : Nat) : Int)) ∧ T 17 = (iV (0 : Int)) ∧ H 2 = (⟨1, true, false, 34, 2, [[(iV (o.i)), (V.sl (List.map cT (o.tr)))]]⟩ : Blk) ∧ H 4 = (⟨1, true, false, 34, 2, [[(iV (0 : Int)), V.nilsl]]⟩ : Blk) ∧ H 8 = (⟨0, false, false, 0, 0, []⟩ : Blk) ∧ H 205 = (⟨0 + o.tr.length, false, false, 0, 0, []⟩ : Blk) ∧ H 209 = (⟨0 + 1 + o.tr.length, true, false, 63, 2, (List.map cT (o.tr))⟩ : Blk) ∧ H 303 = (⟨0, false, false, 0, 0, []⟩ : Blk) ∧ H 308 = (⟨0, false, false, 0, 0, []⟩ : Blk) ∧ H 354 = (⟨0, false, false, 0, 0, []⟩ : Blk) ∧ H 407 = (⟨0, false, false, 0, 0, []⟩ : Blk) ∧ True) ?_ ?_
 ·
  unfold r73_2
  refine R_mv t1 ?_
  refine R_len (@rfl V (V.sl (List.map cT (l)))) ?_
  refine R_mv (@rfl V (iV (0 : Int))) ?_
  exact R_nil ⟨t2, t4, t6, rfl, rfl, rfl, h2, h4, h8, h205, h209, h303, h308, h354, h407, trivial⟩
 intro T H ⟨t2, t4, t6, t15, t16, t17, h2, h4, h8, h205, h209, h303, h308, h354, h407, _⟩
 refine W_seq_blockg fun Q1 n1 x1 y1 z1 => ?_
 refine W_loop (fun mm T H => ∃ (k : Nat) (w : Nat) (acc : List Tr) (v8 : Nat) (v303 : Nat) (v308 : Nat) (v354 : Nat) (v407 : Nat), mm = l.length - k ∧ T 2 = (V.mp 2 1 0 0) ∧ T 4 = (V.mp 4 1 0 0) ∧ T 6 = (V.ms 209 w 0 (acc.length)) ∧ T 15 = (V.sl (List.map cT (l))) ∧ T 16 = (iV ((l.length : Nat) : Int)) ∧ T 17 = (iV ((k : Nat) : Int)) ∧ H 2 = (⟨1, true, false, 34, 2, [[(iV (o.i)), (V.sl (List.map cT (o.tr)))]]⟩ : Blk) ∧ H 4 = (⟨1, true, false, 34, 2, [[(iV (0 : Int)), V.nilsl]]⟩ : Blk) ∧ (H 8).ver = v8 ∧ H 205 = (⟨0 + o.tr.length, false, false, 0, 0, []⟩ : Blk) ∧ H 209 = (⟨w, true, false, 63, 2, (List.map cT (acc))⟩ : Blk) ∧ (H 303).ver = v303 ∧ (H 308).ver = v308 ∧ (H 354).ver = v354 ∧ (H 407).ver = v407 ∧ (k ≤ l.length) ∧ (alR o.i o.tr l = alR o.i acc (l.drop k)) ∧ (OK ⟨o.i, acc⟩)) ?_ ?_
 ·
  refine ⟨_, 0, (0 + 1 + o.tr.length), o.tr, 0, 0, 0, 0, 0, rfl, t2, t4, (Eq.trans t6 (by first | rfl | simp)), t15, t16, (Eq.trans t17 (by first | rfl | simp)), h2, h4, (congrArg Blk.ver h8), h205, (Eq.trans h209 (by first | rfl | simp)), (congrArg Blk.ver h303), (congrArg Blk.ver h308), (congrArg Blk.ver h354), (congrArg Blk.ver h407), ?_, ?_, ?_⟩
  · omega
  · rfl
  · exact ho
 intro mm T H ⟨k, w, acc, v8, v303, v308, v354, v407, hmm, t2, t4, t6, t15, t16, t17, h2, h4, h8, h205, h209, h303, h308, h354, h407, hk, hc, hok⟩ Q2 p12 p22 p32
 unfold b73_0
 refine W_seq_regc (fun T H => T 2 = (V.mp 2 1 0 0) ∧ T 4 = (V.mp 4 1 0 0) ∧ T 6 = (V.ms 209 w 0 (acc.length)) ∧ T 15 = (V.sl (List.map cT (l))) ∧ T 16 = (iV ((l.length : Nat) : Int)) ∧ T 17 = (iV ((k : Nat) : Int)) ∧ T 18 = (V.bool (decide (((k : Nat) : Int) < ((l.length : Nat) : Int)))) ∧ H 2 = (⟨1, true, false, 34, 2, [[(iV (o.i)), (V.sl (List.map cT (o.tr)))]]⟩ : Blk) ∧ H 4 = (⟨1, true, false, 34, 2, [[(iV (0 : Int)), V.nilsl]]⟩ : Blk) ∧ (H 8).ver = v8 ∧ H 205 = (⟨0 + o.tr.length, false, false, 0, 0, []⟩ : Blk) ∧ H 209 = (⟨w, true, false, 63, 2, (List.map cT (acc))⟩ : Blk) ∧ (H 303).ver = v303 ∧ (H 308).ver = v308 ∧ (H 354).ver = v354 ∧ (H 407).ver = v407 ∧ True) ?_ ?_
 ·
  unfold r73_3
  refine R_lss (x := ((k : Nat) : Int)) (y := ((l.length : Nat) : Int)) t17 t16 ?_
  exact R_nil ⟨t2, t4, t6, t15, t16, t17, rfl, h2, h4, h8, h205, h209, h303, h308, h354, h407, trivial⟩
 intro T H ⟨t2, t4, t6, t15, t16, t17, t18, h2, h4, h8, h205, h209, h303, h308, h354, h407, _⟩
 refine W_seq_if (p := ((k : Nat) : Int) < ((l.length : Nat) : Int)) t18 (fun c3 => ?_) (fun c3 => ?_)
 ·
  refine W_seq_skip ?_
  refine W_seq_blockg fun Q4 n4 x4 y4 z4 => ?_
  refine W_seq_regc (fun T H => T 2 = (V.mp 2 1 0 0) ∧ T 4 = (V.mp 4 1 0 0) ∧ T 6 = (V.ms 209 w 0 (acc.length)) ∧ T 8 = (V.mp 8 (v8 + 1) 0 0) ∧ T 15 = (V.sl (List.map cT (l))) ∧ T 16 = (iV ((l.length : Nat) : Int)) ∧ T 17 = (iV ((k : Nat) : Int)) ∧ H 2 = (⟨1, true, false, 34, 2, [[(iV (o.i)), (V.sl (List.map cT (o.tr)))]]⟩ : Blk) ∧ H 4 = (⟨1, true, false, 34, 2, [[(iV (0 : Int)), V.nilsl]]⟩ : Blk) ∧ H 8 = (⟨v8 + 1, true, false, 63, 2, [[(V.sl (List.map cI ((nth (l) (k)).ni))), (V.sl (List.map cI ((nth (l) (k)).no)))]]⟩ : Blk) ∧ H 205 = (⟨0 + o.tr.length, false, false, 0, 0, []⟩ : Blk) ∧ H 209 = (⟨w, true, false, 63, 2, (List.map cT (acc))⟩ : Blk) ∧ (H 303).ver = v303 ∧ (H 308).ver = v308 ∧ (H 354).ver = v354 ∧ (H 407).ver = v407 ∧ True) ?_ ?_
  ·
   unfold r73_4
   refine R_idx (i := k) t15 t17 (by omega) rfl ?_
   refine R_load_pp (v := (V.agg [(V.sl (List.map cI ((nth (l) (k)).ni))), (V.sl (List.map cI ((nth (l) (k)).no)))])) (@rfl V (V.pp [(V.sl (List.map cI ((nth (l) (k)).ni))), (V.sl (List.map cI ((nth (l) (k)).no)))])) (by first | rfl | simp [ldV]) ?_
   refine R_alloc (i := 8) (n := v8) (m := 2) rfl h8 rfl ?_
   refine R_store (vs := [(V.sl (List.map cI ((nth (l) (k)).ni))), (V.sl (List.map cI ((nth (l) (k)).no)))]) (B' := (⟨v8 + 1, true, false, 63, 2, [[(V.sl (List.map cI ((nth (l) (k)).ni))), (V.sl (List.map cI ((nth (l) (k)).no)))]]⟩ : Blk)) (@rfl V (V.mp 8 (v8 + 1) 0 0)) (@rfl V (V.agg [(V.sl (List.map cI ((nth (l) (k)).ni))), (V.sl (List.map cI ((nth (l) (k)).no)))])) rfl (@rfl Blk (⟨v8 + 1, true, false, 63, 2, [[V.nilsl, V.nilsl]]⟩ : Blk)) (by first | rfl | simp [stB, okB, Blk.own, putAt, V.one]) ?_
   exact R_nil ⟨t2, t4, t6, rfl, t15, t16, t17, h2, h4, rfl, h205, h209, h303, h308, h354, h407, trivial⟩
  intro T H ⟨t2, t4, t6, t8, t15, t16, t17, h2, h4, h8, h205, h209, h303, h308, h354, h407, _⟩
  refine W_seq_seq ?_
  refine W_seq_regc (fun T H => T 2 = (V.mp 2 1 0 0) ∧ T 4 = (V.mp 4 1 0 0) ∧ T 6 = (V.ms 209 w 0 (acc.length)) ∧ T 8 = (V.mp 8 (v8 + 1) 0 0) ∧ T 9 = (iV (prE ((nth (l) (k))) ((o.i)))) ∧ T 15 = (V.sl (List.map cT (l))) ∧ T 16 = (iV ((l.length : Nat) : Int)) ∧ T 17 = (iV ((k : Nat) : Int)) ∧ H 2 = (⟨1, true, false, 34, 2, [[(iV (o.i)), (V.sl (List.map cT (o.tr)))]]⟩ : Blk) ∧ H 4 = (⟨1, true, false, 34, 2, [[(iV (0 : Int)), V.nilsl]]⟩ : Blk) ∧ H 8 = (⟨v8 + 1, true, false, 63, 2, [[(V.sl (List.map cI ((nth (l) (k)).ni))), (V.sl (List.map cI ((nth (l) (k)).no)))]]⟩ : Blk) ∧ H 205 = (⟨0 + o.tr.length, false, false, 0, 0, []⟩ : Blk) ∧ H 209 = (⟨w, true, false, 63, 2, (List.map cT (acc))⟩ : Blk) ∧ (H 303).ver = v303 ∧ (H 308).ver = v308 ∧ (H 354).ver = v354 ∧ (H 407).ver = v407 ∧ True) ?_ ?_
  ·
   unfold r73_5
   refine R_load_mp (v := (V.agg [(V.sl (List.map cI ((nth (l) (k)).ni))), (V.sl (List.map cI ((nth (l) (k)).no)))])) t8 h8 (by first | rfl | simp [ldB, ldV, Blk.own, V.one]) ?_
   refine R_fld_mp (o' := 0) t2 h2 (by first | rfl | simp [okB, Blk.own]) rfl ?_
   refine R_load_mp (v := (iV (o.i))) (@rfl V (V.mp 2 1 0 0)) h2 (by first | rfl | simp [ldB, ldV, Blk.own, V.one]) ?_
   refine R_call (evcons (@rfl V (V.agg [(V.sl (List.map cI ((nth (l) (k)).ni))), (V.sl (List.map cI ((nth (l) (k)).no)))])) (evcons (@rfl V (iV (o.i))) evnil)) (proper_pure ((nth (l) (k))) ((o.i))) (fzv_mapcanon _ _ (by simp [-List.map_take, -List.map_drop, -List.map_append, -List.map_reverse])) (by simp [-List.map_take, -List.map_drop, -List.map_append, -List.map_reverse]) (Or.inl (by simp [-List.map_take, -List.map_drop, -List.map_append, -List.map_reverse])) ?_
   refine R_mv (@rfl V (iV (prE ((nth (l) (k))) ((o.i))))) ?_
   exact R_nil ⟨t2, t4, t6, t8, rfl, t15, t16, t17, h2, h4, h8, h205, h209, h303, h308, h354, h407, trivial⟩
  intro T H ⟨t2, t4, t6, t8, t9, t15, t16, t17, h2, h4, h8, h205, h209, h303, h308, h354, h407, _⟩
  refine W_seq_seq ?_
  refine W_seq_regc (fun T H => T 2 = (V.mp 2 1 0 0) ∧ T 4 = (V.mp 4 1 0 0) ∧ T 6 = (V.ms 209 w 0 (acc.length)) ∧ T 8 = (V.mp 8 (v8 + 1) 0 0) ∧ T 9 = (iV (prE ((nth (l) (k))) ((o.i)))) ∧ T 15 = (V.sl (List.map cT (l))) ∧ T 16 = (iV ((l.length : Nat) : Int)) ∧ T 17 = (iV ((k : Nat) : Int)) ∧ T 26 = (V.bool (decide ((prE ((nth (l) (k))) ((o.i))) ≠ (0 : Int)))) ∧ H 2 = (⟨1, true, false, 34, 2, [[(iV (o.i)), (V.sl (List.map cT (o.tr)))]]⟩ : Blk) ∧ H 4 = (⟨1, true, false, 34, 2, [[(iV (0 : Int)), V.nilsl]]⟩ : Blk) ∧ H 8 = (⟨v8 + 1, true, false, 63, 2, [[(V.sl (List.map cI ((nth (l) (k)).ni))), (V.sl (List.map cI ((nth (l) (k)).no)))]]⟩ : Blk) ∧ H 205 = (⟨0 + o.tr.length, false, false, 0, 0, []⟩ : Blk) ∧ H 209 = (⟨w, true, false, 63, 2, (List.map cT (acc))⟩ : Blk) ∧ (H 303).ver = v303 ∧ (H 308).ver = v308 ∧ (H 354).ver = v354 ∧ (H 407).ver = v407 ∧ True) ?_ ?_
  ·
   unfold r73_6
   refine R_mv t9 ?_
   refine R_neq (x := (prE ((nth (l) (k))) ((o.i)))) (y := (0 : Int)) (@rfl V (iV (prE ((nth (l) (k))) ((o.i))))) (@rfl V (iV (0 : Int))) ?_
   exact R_nil ⟨t2, t4, t6, t8, t9, t15, t16, t17, rfl, h2, h4, h8, h205, h209, h303, h308, h354, h407, trivial⟩
  intro T H ⟨t2, t4, t6, t8, t9, t15, t16, t17, t26, h2, h4, h8, h205, h209, h303, h308, h354, h407, _⟩
  refine W_seq_if (p := (prE ((nth (l) (k))) ((o.i))) ≠ (0 : Int)) t26 (fun c5 => ?_) (fun c5 => ?_)
  ·
   have d1 := c5
   refine W_seq_seq ?_
   refine W_seq_regc (fun T H => T 4 = (V.mp 4 1 0 0) ∧ T 5 = (iV (prE ((nth (l) (k))) ((o.i)))) ∧ H 2 = (⟨1, true, false, 34, 2, [[(iV (o.i)), (V.sl (List.map cT (o.tr)))]]⟩ : Blk) ∧ H 4 = (⟨1, true, false, 34, 2, [[(iV (o.i)), (V.sl (List.map cT (o.tr)))]]⟩ : Blk) ∧ H 8 = (⟨v8 + 1, true, false, 63, 2, [[(V.sl (List.map cI ((nth (l) (k)).ni))), (V.sl (List.map cI ((nth (l) (k)).no)))]]⟩ : Blk) ∧ H 205 = (⟨0 + o.tr.length, false, false, 0, 0, []⟩ : Blk) ∧ H 209 = (⟨w, true, false, 63, 2, (List.map cT (acc))⟩ : Blk) ∧ (H 303).ver = v303 ∧ (H 308).ver = v308 ∧ (H 354).ver = v354 ∧ (H 407).ver = v407 ∧ True) ?_ ?_
   ·
    unfold r73_7
    refine R_load_mp (v := (V.agg [(iV (o.i)), (V.sl (List.map cT (o.tr)))])) t2 h2 (by first | rfl | simp [ldB, ldV, Blk.own, V.one]) ?_
    refine R_mv t9 ?_
    refine R_store (vs := [(iV (o.i)), (V.sl (List.map cT (o.tr)))]) (B' := (⟨1, true, false, 34, 2, [[(iV (o.i)), (V.sl (List.map cT (o.tr)))]]⟩ : Blk)) t4 (@rfl V (V.agg [(iV (o.i)), (V.sl (List.map cT (o.tr)))])) rfl h4 (by first | rfl | simp [stB, okB, Blk.own, putAt, V.one]) ?_
    refine R_mv (@rfl V (iV (prE ((nth (l) (k))) ((o.i))))) ?_
    exact R_nil ⟨t4, rfl, h2, rfl, h8, h205, h209, h303, h308, h354, h407, trivial⟩
   intro T H ⟨t4, t5, h2, h4, h8, h205, h209, h303, h308, h354, h407, _⟩
   refine W_seq_ret ?_
   refine y4 _ _ ?_
   refine p22 _ _ ?_
   refine y1 _ _ ?_
   refine RetC_2 (resV_c (u := (V.agg [(iV (o.i)), (V.sl (List.map cT (o.tr)))])) t4 h4 (by first | rfl | simp [ldB, ldV, Blk.own, V.one])) (resV_t t5) (fz_agg2 (fz_int ?_) (fz_sl ?_ (fun _ => by simp))) (fz_int ?_)
   · rw [alO_i]
   · unfold alO; rw [if_pos (by rw [hc, alR_pr (by omega) d1]; exact d1)]
   · rw [hc, alR_pr (by omega) d1]
  have d1 : prE (nth l k) o.i = 0 := by omega
  refine W_seq_skip ?_
  refine W_seq_reg fun K hK => ?_
  unfold r73_8
  refine R_mv t6 ?_
  refine R_load_mp (v := (V.agg [(V.sl (List.map cI ((nth (l) (k)).ni))), (V.sl (List.map cI ((nth (l) (k)).no)))])) t8 h8 (by first | rfl | simp [ldB, ldV, Blk.own, V.one]) ?_
  by_cases heF : addE acc ((nth (l) (k))) = 0
  ·
   refine R_callE (evcons (@rfl V (V.ms 209 w 0 (acc.length))) (evcons (@rfl V (V.agg [(V.sl (List.map cI ((nth (l) (k)).ni))), (V.sl (List.map cI ((nth (l) (k)).no)))])) evnil)) (add_ok_E acc ((nth (l) (k))) _ w v303 v308 v354 v407 hok d1 heF _ h209 h303 h308 h354 h407) ?_
   refine R_mv (@rfl V (V.tup [(V.ms 209 (w + 2) 0 ((addL acc ((nth (l) (k)))).length)), (iV (addE acc ((nth (l) (k)))))])) ?_
   refine R_ext (v := (V.ms 209 (w + 2) 0 ((addL acc ((nth (l) (k)))).length))) (@rfl V (V.tup [(V.ms 209 (w + 2) 0 ((addL acc ((nth (l) (k)))).length)), (iV (addE acc ((nth (l) (k)))))])) rfl ?_
   refine R_ext (v := (iV (addE acc ((nth (l) (k)))))) (@rfl V (V.tup [(V.ms 209 (w + 2) 0 ((addL acc ((nth (l) (k)))).length)), (iV (addE acc ((nth (l) (k)))))])) rfl ?_
   refine R_mv (@rfl V (V.ms 209 (w + 2) 0 ((addL acc ((nth (l) (k)))).length))) ?_
   refine R_mv (@rfl V (iV (addE acc ((nth (l) (k)))))) ?_
   refine R_nil (hK _ _ ?_); clear hK K
   refine fork_ (R := fun T H => T 2 = (V.mp 2 1 0 0) ∧ T 4 = (V.mp 4 1 0 0) ∧ T 10 = (V.ms 209 (w + 2) 0 ((addL acc ((nth (l) (k)))).length)) ∧ T 11 = (iV (addE acc ((nth (l) (k))))) ∧ T 15 = (V.sl (List.map cT (l))) ∧ T 16 = (iV ((l.length : Nat) : Int)) ∧ T 17 = (iV ((k : Nat) : Int)) ∧ H 2 = (⟨1, true, false, 34, 2, [[(iV (o.i)), (V.sl (List.map cT (o.tr)))]]⟩ : Blk) ∧ H 4 = (⟨1, true, false, 34, 2, [[(iV (0 : Int)), V.nilsl]]⟩ : Blk) ∧ H 8 = (⟨v8 + 1, true, false, 63, 2, [[(V.sl (List.map cI ((nth (l) (k)).ni))), (V.sl (List.map cI ((nth (l) (k)).no)))]]⟩ : Blk) ∧ H 205 = (⟨0 + o.tr.length, false, false, 0, 0, []⟩ : Blk) ∧ H 209 = (⟨w + 2, true, false, 63, 2, (List.map cT (addL acc ((nth (l) (k)))))⟩ : Blk) ∧ H 303 = (⟨v303 + 1, false, false, 0, 0, []⟩ : Blk) ∧ H 308 = (⟨v308 + acc.length, false, false, 0, 0, []⟩ : Blk) ∧ H 354 = (⟨v354 + 1, false, false, 0, 0, []⟩ : Blk) ∧ H 407 = (⟨v407 + acc.length, false, false, 0, 0, []⟩ : Blk) ∧ True) ⟨t2, t4, rfl, rfl, t15, t16, t17, h2, h4, h8, h205, rfl, rfl, rfl, rfl, rfl, trivial⟩ ?_
   intro T H ⟨t2, t4, t10, t11, t15, t16, t17, h2, h4, h8, h205, h209, h303, h308, h354, h407, _⟩
   refine W_seq_seq ?_
   refine W_seq_regc (fun T H => T 2 = (V.mp 2 1 0 0) ∧ T 4 = (V.mp 4 1 0 0) ∧ T 10 = (V.ms 209 (w + 2) 0 ((addL acc ((nth (l) (k)))).length)) ∧ T 11 = (iV (addE acc ((nth (l) (k))))) ∧ T 15 = (V.sl (List.map cT (l))) ∧ T 16 = (iV ((l.length : Nat) : Int)) ∧ T 17 = (iV ((k : Nat) : Int)) ∧ T 36 = (V.bool (decide ((addE acc ((nth (l) (k)))) ≠ (0 : Int)))) ∧ H 2 = (⟨1, true, false, 34, 2, [[(iV (o.i)), (V.sl (List.map cT (o.tr)))]]⟩ : Blk) ∧ H 4 = (⟨1, true, false, 34, 2, [[(iV (0 : Int)), V.nilsl]]⟩ : Blk) ∧ H 8 = (⟨v8 + 1, true, false, 63, 2, [[(V.sl (List.map cI ((nth (l) (k)).ni))), (V.sl (List.map cI ((nth (l) (k)).no)))]]⟩ : Blk) ∧ H 205 = (⟨0 + o.tr.length, false, false, 0, 0, []⟩ : Blk) ∧ H 209 = (⟨w + 2, true, false, 63, 2, (List.map cT (addL acc ((nth (l) (k)))))⟩ : Blk) ∧ H 303 = (⟨v303 + 1, false, false, 0, 0, []⟩ : Blk) ∧ H 308 = (⟨v308 + acc.length, false, false, 0, 0, []⟩ : Blk) ∧ H 354 = (⟨v354 + 1, false, false, 0, 0, []⟩ : Blk) ∧ H 407 = (⟨v407 + acc.length, false, false, 0, 0, []⟩ : Blk) ∧ True) ?_ ?_
   ·
    unfold r73_9
    refine R_mv t11 ?_
    refine R_neq (x := (addE acc ((nth (l) (k))))) (y := (0 : Int)) (@rfl V (iV (addE acc ((nth (l) (k)))))) (@rfl V (iV (0 : Int))) ?_
    exact R_nil ⟨t2, t4, t10, t11, t15, t16, t17, rfl, h2, h4, h8, h205, h209, h303, h308, h354, h407, trivial⟩
   intro T H ⟨t2, t4, t10, t11, t15, t16, t17, t36, h2, h4, h8, h205, h209, h303, h308, h354, h407, _⟩
   refine W_seq_if (p := (addE acc ((nth (l) (k)))) ≠ (0 : Int)) t36 (fun c8 => ?_) (fun c8 => ?_)
   · exact ((fun (e : (addE acc ((nth (l) (k)))) ≠ (0 : Int)) => e heF) c8).elim
   refine W_seq_skip ?_
   refine W_regc (fun T H => T 2 = (V.mp 2 1 0 0) ∧ T 4 = (V.mp 4 1 0 0) ∧ T 6 = (V.ms 209 (w + 2) 0 ((addL acc ((nth (l) (k)))).length)) ∧ T 15 = (V.sl (List.map cT (l))) ∧ T 16 = (iV ((l.length : Nat) : Int)) ∧ T 17 = (iV ((k : Nat) : Int)) ∧ H 2 = (⟨1, true, false, 34, 2, [[(iV (o.i)), (V.sl (List.map cT (o.tr)))]]⟩ : Blk) ∧ H 4 = (⟨1, true, false, 34, 2, [[(iV (0 : Int)), V.nilsl]]⟩ : Blk) ∧ H 8 = (⟨v8 + 1, true, false, 63, 2, [[(V.sl (List.map cI ((nth (l) (k)).ni))), (V.sl (List.map cI ((nth (l) (k)).no)))]]⟩ : Blk) ∧ H 205 = (⟨0 + o.tr.length, false, false, 0, 0, []⟩ : Blk) ∧ H 209 = (⟨w + 2, true, false, 63, 2, (List.map cT (addL acc ((nth (l) (k)))))⟩ : Blk) ∧ H 303 = (⟨v303 + 1, false, false, 0, 0, []⟩ : Blk) ∧ H 308 = (⟨v308 + acc.length, false, false, 0, 0, []⟩ : Blk) ∧ H 354 = (⟨v354 + 1, false, false, 0, 0, []⟩ : Blk) ∧ H 407 = (⟨v407 + acc.length, false, false, 0, 0, []⟩ : Blk) ∧ True) ?_ ?_
   ·
    unfold r73_11
    refine R_mv t10 ?_
    refine R_mv (@rfl V (V.ms 209 (w + 2) 0 ((addL acc ((nth (l) (k)))).length))) ?_
    exact R_nil ⟨t2, t4, rfl, t15, t16, t17, h2, h4, h8, h205, h209, h303, h308, h354, h407, trivial⟩
   intro T H ⟨t2, t4, t6, t15, t16, t17, h2, h4, h8, h205, h209, h303, h308, h354, h407, _⟩
   refine n4 _ _ ?_
   refine .done ?_
   refine W_regc (fun T H => T 2 = (V.mp 2 1 0 0) ∧ T 4 = (V.mp 4 1 0 0) ∧ T 6 = (V.ms 209 (w + 2) 0 ((addL acc ((nth (l) (k)))).length)) ∧ T 15 = (V.sl (List.map cT (l))) ∧ T 16 = (iV ((l.length : Nat) : Int)) ∧ T 17 = (iV ((k + 1 : Nat) : Int)) ∧ H 2 = (⟨1, true, false, 34, 2, [[(iV (o.i)), (V.sl (List.map cT (o.tr)))]]⟩ : Blk) ∧ H 4 = (⟨1, true, false, 34, 2, [[(iV (0 : Int)), V.nilsl]]⟩ : Blk) ∧ H 8 = (⟨v8 + 1, true, false, 63, 2, [[(V.sl (List.map cI ((nth (l) (k)).ni))), (V.sl (List.map cI ((nth (l) (k)).no)))]]⟩ : Blk) ∧ H 205 = (⟨0 + o.tr.length, false, false, 0, 0, []⟩ : Blk) ∧ H 209 = (⟨w + 2, true, false, 63, 2, (List.map cT (addL acc ((nth (l) (k)))))⟩ : Blk) ∧ H 303 = (⟨v303 + 1, false, false, 0, 0, []⟩ : Blk) ∧ H 308 = (⟨v308 + acc.length, false, false, 0, 0, []⟩ : Blk) ∧ H 354 = (⟨v354 + 1, false, false, 0, 0, []⟩ : Blk) ∧ H 407 = (⟨v407 + acc.length, false, false, 0, 0, []⟩ : Blk) ∧ True) ?_ ?_
   ·
    unfold r73_12
    refine R_addN (m := k) (n := 1) t17 (@rfl V (iV ((1 : Nat) : Int))) (by omega) ?_
    refine R_mv (@rfl V (iV ((k + 1 : Nat) : Int))) ?_
    exact R_nil ⟨t2, t4, t6, t15, t16, rfl, h2, h4, h8, h205, h209, h303, h308, h354, h407, trivial⟩
   intro T H ⟨t2, t4, t6, t15, t16, t17, h2, h4, h8, h205, h209, h303, h308, h354, h407, _⟩
   refine p12 _ _ _ ?_ ⟨(k + 1), (w + 2), (addL acc ((nth (l) (k)))), (v8 + 1), (v303 + 1), (v308 + acc.length), (v354 + 1), (v407 + acc.length), rfl, t2, t4, (Eq.trans t6 (by first | rfl | simp)), t15, t16, (Eq.trans t17 (by first | rfl | simp)), h2, h4, (congrArg Blk.ver h8), h205, (Eq.trans h209 (by first | rfl | simp)), (congrArg Blk.ver h303), (congrArg Blk.ver h308), (congrArg Blk.ver h354), (congrArg Blk.ver h407), ?_, ?_, ?_⟩
   · omega
   · omega
   · rw [hc, alR_go (by omega) d1 heF]
   · exact add_ok hok d1 heF
  ·
   refine R_callE (evcons (@rfl V (V.ms 209 w 0 (acc.length))) (evcons (@rfl V (V.agg [(V.sl (List.map cI ((nth (l) (k)).ni))), (V.sl (List.map cI ((nth (l) (k)).no)))])) evnil)) (add_err_E acc ((nth (l) (k))) _ w v303 v308 v354 v407 hok d1 heF _ h209 h303 h308 h354 h407) ?_
   refine R_mv (@rfl V (V.tup [(V.sl []), (iV (addE acc ((nth (l) (k)))))])) ?_
   refine R_ext (v := (V.sl [])) (@rfl V (V.tup [(V.sl []), (iV (addE acc ((nth (l) (k)))))])) rfl ?_
   refine R_ext (v := (iV (addE acc ((nth (l) (k)))))) (@rfl V (V.tup [(V.sl []), (iV (addE acc ((nth (l) (k)))))])) rfl ?_
   refine R_mv (@rfl V (V.sl [])) ?_
   refine R_mv (@rfl V (iV (addE acc ((nth (l) (k)))))) ?_
   refine R_nil (hK _ _ ?_); clear hK K
   refine fork_ (R := fun T H => T 2 = (V.mp 2 1 0 0) ∧ T 4 = (V.mp 4 1 0 0) ∧ T 10 = (V.sl []) ∧ T 11 = (iV (addE acc ((nth (l) (k))))) ∧ T 15 = (V.sl (List.map cT (l))) ∧ T 16 = (iV ((l.length : Nat) : Int)) ∧ T 17 = (iV ((k : Nat) : Int)) ∧ H 2 = (⟨1, true, false, 34, 2, [[(iV (o.i)), (V.sl (List.map cT (o.tr)))]]⟩ : Blk) ∧ H 4 = (⟨1, true, false, 34, 2, [[(iV (0 : Int)), V.nilsl]]⟩ : Blk) ∧ H 8 = (⟨v8 + 1, true, false, 63, 2, [[(V.sl (List.map cI ((nth (l) (k)).ni))), (V.sl (List.map cI ((nth (l) (k)).no)))]]⟩ : Blk) ∧ H 205 = (⟨0 + o.tr.length, false, false, 0, 0, []⟩ : Blk) ∧ H 209 = (⟨w + 2, false, false, 0, 0, []⟩ : Blk) ∧ H 303 = (⟨v303 + 1, false, false, 0, 0, []⟩ : Blk) ∧ H 308 = (⟨v308 + acc.length, false, false, 0, 0, []⟩ : Blk) ∧ H 354 = (⟨v354 + 1, false, false, 0, 0, []⟩ : Blk) ∧ H 407 = (⟨v407 + acc.length, false, false, 0, 0, []⟩ : Blk) ∧ True) ⟨t2, t4, rfl, rfl, t15, t16, t17, h2, h4, h8, h205, rfl, rfl, rfl, rfl, rfl, trivial⟩ ?_
   intro T H ⟨t2, t4, t10, t11, t15, t16, t17, h2, h4, h8, h205, h209, h303, h308, h354, h407, _⟩
   refine W_seq_seq ?_
   refine W_seq_regc (fun T H => T 2 = (V.mp 2 1 0 0) ∧ T 4 = (V.mp 4 1 0 0) ∧ T 10 = (V.sl []) ∧ T 11 = (iV (addE acc ((nth (l) (k))))) ∧ T 15 = (V.sl (List.map cT (l))) ∧ T 16 = (iV ((l.length : Nat) : Int)) ∧ T 17 = (iV ((k : Nat) : Int)) ∧ T 36 = (V.bool (decide ((addE acc ((nth (l) (k)))) ≠ (0 : Int)))) ∧ H 2 = (⟨1, true, false, 34, 2, [[(iV (o.i)), (V.sl (List.map cT (o.tr)))]]⟩ : Blk) ∧ H 4 = (⟨1, true, false, 34, 2, [[(iV (0 : Int)), V.nilsl]]⟩ : Blk) ∧ H 8 = (⟨v8 + 1, true, false, 63, 2, [[(V.sl (List.map cI ((nth (l) (k)).ni))), (V.sl (List.map cI ((nth (l) (k)).no)))]]⟩ : Blk) ∧ H 205 = (⟨0 + o.tr.length, false, false, 0, 0, []⟩ : Blk) ∧ H 209 = (⟨w + 2, false, false, 0, 0, []⟩ : Blk) ∧ H 303 = (⟨v303 + 1, false, false, 0, 0, []⟩ : Blk) ∧ H 308 = (⟨v308 + acc.length, false, false, 0, 0, []⟩ : Blk) ∧ H 354 = (⟨v354 + 1, false, false, 0, 0, []⟩ : Blk) ∧ H 407 = (⟨v407 + acc.length, false, false, 0, 0, []⟩ : Blk) ∧ True) ?_ ?_
   ·
    unfold r73_9
    refine R_mv t11 ?_
    refine R_neq (x := (addE acc ((nth (l) (k))))) (y := (0 : Int)) (@rfl V (iV (addE acc ((nth (l) (k)))))) (@rfl V (iV (0 : Int))) ?_
    exact R_nil ⟨t2, t4, t10, t11, t15, t16, t17, rfl, h2, h4, h8, h205, h209, h303, h308, h354, h407, trivial⟩
   intro T H ⟨t2, t4, t10, t11, t15, t16, t17, t36, h2, h4, h8, h205, h209, h303, h308, h354, h407, _⟩
   refine W_seq_if (p := (addE acc ((nth (l) (k)))) ≠ (0 : Int)) t36 (fun c11 => ?_) (fun c11 => ?_)
   ·
    refine W_seq_seq ?_
    refine W_seq_regc (fun T H => T 4 = (V.mp 4 1 0 0) ∧ T 5 = (iV (addE acc ((nth (l) (k))))) ∧ H 2 = (⟨1, true, false, 34, 2, [[(iV (o.i)), (V.sl (List.map cT (o.tr)))]]⟩ : Blk) ∧ H 4 = (⟨1, true, false, 34, 2, [[(iV (o.i)), (V.sl (List.map cT (o.tr)))]]⟩ : Blk) ∧ H 8 = (⟨v8 + 1, true, false, 63, 2, [[(V.sl (List.map cI ((nth (l) (k)).ni))), (V.sl (List.map cI ((nth (l) (k)).no)))]]⟩ : Blk) ∧ H 205 = (⟨0 + o.tr.length, false, false, 0, 0, []⟩ : Blk) ∧ H 209 = (⟨w + 2, false, false, 0, 0, []⟩ : Blk) ∧ H 303 = (⟨v303 + 1, false, false, 0, 0, []⟩ : Blk) ∧ H 308 = (⟨v308 + acc.length, false, false, 0, 0, []⟩ : Blk) ∧ H 354 = (⟨v354 + 1, false, false, 0, 0, []⟩ : Blk) ∧ H 407 = (⟨v407 + acc.length, false, false, 0, 0, []⟩ : Blk) ∧ True) ?_ ?_
    ·
     unfold r73_10
     refine R_load_mp (v := (V.agg [(iV (o.i)), (V.sl (List.map cT (o.tr)))])) t2 h2 (by first | rfl | simp [ldB, ldV, Blk.own, V.one]) ?_
     refine R_mv t11 ?_
     refine R_store (vs := [(iV (o.i)), (V.sl (List.map cT (o.tr)))]) (B' := (⟨1, true, false, 34, 2, [[(iV (o.i)), (V.sl (List.map cT (o.tr)))]]⟩ : Blk)) t4 (@rfl V (V.agg [(iV (o.i)), (V.sl (List.map cT (o.tr)))])) rfl h4 (by first | rfl | simp [stB, okB, Blk.own, putAt, V.one]) ?_
     refine R_mv (@rfl V (iV (addE acc ((nth (l) (k)))))) ?_
     exact R_nil ⟨t4, rfl, h2, rfl, h8, h205, h209, h303, h308, h354, h407, trivial⟩
    intro T H ⟨t4, t5, h2, h4, h8, h205, h209, h303, h308, h354, h407, _⟩
    refine W_seq_ret ?_
    refine y4 _ _ ?_
    refine p22 _ _ ?_
    refine y1 _ _ ?_
    refine RetC_2 (resV_c (u := (V.agg [(iV (o.i)), (V.sl (List.map cT (o.tr)))])) t4 h4 (by first | rfl | simp [ldB, ldV, Blk.own, V.one])) (resV_t t5) (fz_agg2 (fz_int ?_) (fz_sl ?_ (fun _ => by simp))) (fz_int ?_)
    · rw [alO_i]
    · unfold alO; rw [if_pos (by rw [hc, alR_er (by omega) d1 heF]; exact heF)]
    · rw [hc, alR_er (by omega) d1 heF]
   · exact (c11 heF).elim
 refine W_seq_exit ?_
 refine p32 _ _ _ ?_
 refine x1 _ _ ?_
 refine .done ?_
 refine W_seq_regc (fun T H => T 4 = (V.mp 4 1 0 0) ∧ T 5 = (iV (0 : Int)) ∧ H 2 = (⟨1, true, false, 34, 2, [[(iV (o.i)), (V.sl (List.map cT (o.tr)))]]⟩ : Blk) ∧ H 4 = (⟨1, true, false, 34, 2, [[(iV (o.i)), (V.ms 209 w 0 (acc.length))]]⟩ : Blk) ∧ (H 8).ver = v8 ∧ H 205 = (⟨0 + o.tr.length, false, false, 0, 0, []⟩ : Blk) ∧ H 209 = (⟨w, true, false, 63, 2, (List.map cT (acc))⟩ : Blk) ∧ (H 303).ver = v303 ∧ (H 308).ver = v308 ∧ (H 354).ver = v354 ∧ (H 407).ver = v407 ∧ True) ?_ ?_
 ·
  unfold r73_13
  refine R_fld_mp (o' := 0) t2 h2 (by first | rfl | simp [okB, Blk.own]) rfl ?_
  refine R_load_mp (v := (iV (o.i))) (@rfl V (V.mp 2 1 0 0)) h2 (by first | rfl | simp [ldB, ldV, Blk.own, V.one]) ?_
  refine R_mv t6 ?_
  refine R_build (qs := [(0, 1, (iV (o.i))), (1, 1, (V.ms 209 w 0 (acc.length)))]) (cs := [(iV (o.i)), (V.ms 209 w 0 (acc.length))]) (mcons (congrArg (fun v => (0, 1, v)) (@rfl V (iV (o.i)))) (mcons (congrArg (fun v => (1, 1, v)) (@rfl V (V.ms 209 w 0 (acc.length)))) rfl)) rfl ?_
  refine R_store (vs := [(iV (o.i)), (V.ms 209 w 0 (acc.length))]) (B' := (⟨1, true, false, 34, 2, [[(iV (o.i)), (V.ms 209 w 0 (acc.length))]]⟩ : Blk)) t4 (@rfl V (V.agg [(iV (o.i)), (V.ms 209 w 0 (acc.length))])) rfl h4 (by first | rfl | simp [stB, okB, Blk.own, putAt, V.one]) ?_
  refine R_mv (@rfl V (iV (0 : Int))) ?_
  exact R_nil ⟨t4, rfl, h2, rfl, h8, h205, h209, h303, h308, h354, h407, trivial⟩
 intro T H ⟨t4, t5, h2, h4, h8, h205, h209, h303, h308, h354, h407, _⟩
 refine W_ret ?_
 refine RetC_2 (resV_c (u := (V.agg [(iV (o.i)), (V.ms 209 w 0 (acc.length))])) t4 h4 (by first | rfl | simp [ldB, ldV, Blk.own, V.one])) (resV_t t5) (fz_agg2 (fz_int ?_) (fz_ms h209 (by first | rfl | simp) (l := acc) rfl (by first | rfl | simp | omega) (fun _ => by simp) ?_)) (fz_int ?_)
 · rw [alO_i]
 · unfold alO; rw [if_neg (by rw [hc, alR_end (by omega)]; simp), hc, alR_end (by omega)]
 · rw [hc, alR_end (by omega)]
end Go.Proofs.Ytngkckefanbhgaa

namespace Go.Proofs.Ytngkckefanbhgaa
open Go Go.Proofs
theorem oadd_pure (o : Ob) (t : Tr) (ho : OK o) : PureC Try.prog 45 [(V.agg [(iV (o.i)), (V.sl (List.map cT (o.tr)))]), (V.agg [(V.sl (List.map cI (t.ni))), (V.sl (List.map cI (t.no)))])] (V.tup [(V.agg [(iV ((alO o [t]).i)), (V.sl (List.map cT ((alO o [t]).tr)))]), (iV ((alR o.i o.tr [t]).2))]) := by
 refine pure_of_Wb true 6 Try.func45 s45_ok (by kernel_rfl) (by simp [s45]) (by simp) (by simp) fun hB => ?_
 simp only [bnd_map, bnd_int, bnd_bool, bnd_str, bnd_agg, bnd_pp, bnd_nil, bnd_cons, implies_true, and_true, true_and] at hB
 unfold s45
 dsimp only
 refine W_seq_regc (fun T H => T 2 = (V.mp 2 1 0 0) ∧ T 3 = (V.mp 3 1 0 0) ∧ T 4 = (V.mp 4 1 0 0) ∧ H 2 = (⟨1, true, false, 34, 2, [[(iV (o.i)), (V.sl (List.map cT (o.tr)))]]⟩ : Blk) ∧ H 3 = (⟨1, true, false, 63, 2, [[(V.sl (List.map cI (t.ni))), (V.sl (List.map cI (t.no)))]]⟩ : Blk) ∧ H 4 = (⟨1, true, false, 34, 2, [[(iV (0 : Int)), V.nilsl]]⟩ : Blk) ∧ True) ?_ ?_
 ·
  unfold r45_0
  refine R_box (i := 2) (n := 0) (m := 2) (cs := [(iV (o.i)), (V.sl (List.map cT (o.tr)))]) rfl (congrArg Blk.ver rfl) (@rfl V (V.agg [(iV (o.i)), (V.sl (List.map cT (o.tr)))])) rfl rfl ?_
  refine R_box (i := 3) (n := 0) (m := 2) (cs := [(V.sl (List.map cI (t.ni))), (V.sl (List.map cI (t.no)))]) rfl (congrArg Blk.ver rfl) (@rfl V (V.agg [(V.sl (List.map cI (t.ni))), (V.sl (List.map cI (t.no)))])) rfl rfl ?_
  refine R_alloc (i := 4) (n := 0) (m := 2) rfl (congrArg Blk.ver rfl) rfl ?_
  refine R_mv (@rfl V (iV (0 : Int))) ?_
  exact R_nil ⟨rfl, rfl, rfl, rfl, rfl, rfl, trivial⟩
 intro T H ⟨t2, t3, t4, h2, h3, h4, _⟩
 refine W_seq_regc (fun T H => T 4 = (V.mp 4 1 0 0) ∧ T 5 = (iV ((alR o.i o.tr ([t])).2)) ∧ H 2 = (⟨1, true, false, 34, 2, [[(iV (o.i)), (V.sl (List.map cT (o.tr)))]]⟩ : Blk) ∧ H 3 = (⟨1, true, false, 63, 2, [[(V.sl (List.map cI (t.ni))), (V.sl (List.map cI (t.no)))]]⟩ : Blk) ∧ H 4 = (⟨1, true, false, 34, 2, [[(iV ((alO o ([t])).i)), (V.sl (List.map cT ((alO o ([t])).tr)))]]⟩ : Blk) ∧ True) ?_ ?_
 ·
  unfold r45_1
  refine R_load_mp (v := (V.agg [(iV (o.i)), (V.sl (List.map cT (o.tr)))])) t2 h2 (by first | rfl | simp [ldB, ldV, Blk.own, V.one]) ?_
  refine R_load_mp (v := (V.agg [(V.sl (List.map cI (t.ni))), (V.sl (List.map cI (t.no)))])) t3 h3 (by first | rfl | simp [ldB, ldV, Blk.own, V.one]) ?_
  refine R_bslice (qs := [(0, (V.agg [(V.sl (List.map cI (t.ni))), (V.sl (List.map cI (t.no)))]))]) (rows := [[(V.sl (List.map cI (t.ni))), (V.sl (List.map cI (t.no)))]]) (mcons (congrArg (fun v => (0, v)) (@rfl V (V.agg [(V.sl (List.map cI (t.ni))), (V.sl (List.map cI (t.no)))]))) rfl) rfl ?_
  refine R_call (evcons (@rfl V (V.agg [(iV (o.i)), (V.sl (List.map cT (o.tr)))])) (evcons (@rfl V (V.sl [[(V.sl (List.map cI (t.ni))), (V.sl (List.map cI (t.no)))]])) evnil)) (all_pure o ([t]) (by first | omega | assumption)) (fzv_mapcanon _ _ (by simp [-List.map_take, -List.map_drop, -List.map_append, -List.map_reverse])) (by simp [-List.map_take, -List.map_drop, -List.map_append, -List.map_reverse]) (Or.inl (by simp [-List.map_take, -List.map_drop, -List.map_append, -List.map_reverse])) ?_
  refine R_ext (v := (V.agg [(iV ((alO o ([t])).i)), (V.sl (List.map cT ((alO o ([t])).tr)))])) (@rfl V (V.tup [(V.agg [(iV ((alO o ([t])).i)), (V.sl (List.map cT ((alO o ([t])).tr)))]), (iV ((alR o.i o.tr ([t])).2))])) rfl ?_
  refine R_ext (v := (iV ((alR o.i o.tr ([t])).2))) (@rfl V (V.tup [(V.agg [(iV ((alO o ([t])).i)), (V.sl (List.map cT ((alO o ([t])).tr)))]), (iV ((alR o.i o.tr ([t])).2))])) rfl ?_
  refine R_store (vs := [(iV ((alO o ([t])).i)), (V.sl (List.map cT ((alO o ([t])).tr)))]) (B' := (⟨1, true, false, 34, 2, [[(iV ((alO o ([t])).i)), (V.sl (List.map cT ((alO o ([t])).tr)))]]⟩ : Blk)) t4 (@rfl V (V.agg [(iV ((alO o ([t])).i)), (V.sl (List.map cT ((alO o ([t])).tr)))])) rfl h4 (by first | rfl | simp [stB, okB, Blk.own, putAt, V.one]) ?_
  refine R_mv (@rfl V (iV ((alR o.i o.tr ([t])).2))) ?_
  exact R_nil ⟨t4, rfl, h2, h3, rfl, trivial⟩
 intro T H ⟨t4, t5, h2, h3, h4, _⟩
 refine W_ret ?_
 refine RetC_2 (resV_c (u := (V.agg [(iV ((alO o ([t])).i)), (V.sl (List.map cT ((alO o ([t])).tr)))])) t4 h4 (by first | rfl | simp [ldB, ldV, Blk.own, V.one])) (resV_t t5) (fz_agg2 (fz_int ?_) (fz_sl ?_ (fun _ => by simp))) (fz_int ?_)
 · first | rfl | omega | simp_all
 · first | rfl | omega | simp_all
 · first | rfl | omega | simp_all
end Go.Proofs.Ytngkckefanbhgaa

namespace Go.Proofs.Ytngkckefanbhgaa
open Go Go.Proofs
def r52_0 : List SO := [
  ⟨none, some 2, .box 34 2 (.t 0)⟩,
  ⟨none, some 3, .box 34 2 (.t 1)⟩,
  ⟨none, some 4, .mv (.c (.bool false))⟩]
def r52_1 : List SO := [
  ⟨none, some 5, .fld 0 (.t 2)⟩,
  ⟨none, some 6, .load false 1 (.t 5)⟩,
  ⟨none, some 7, .fld 0 (.t 3)⟩,
  ⟨none, some 8, .load false 1 (.t 7)⟩,
  ⟨none, some 9, .bin .eql (.t 6) (.t 8)⟩,
  ⟨none, some 10, .mv (.t 9)⟩,
  ⟨some (10, true), some 11, .fld 1 (.t 2)⟩,
  ⟨some (10, true), some 12, .load false 1 (.t 11)⟩,
  ⟨some (10, true), some 13, .fld 1 (.t 3)⟩,
  ⟨some (10, true), some 14, .load false 1 (.t 13)⟩,
  ⟨some (10, true), some 15, .call false 89 [.t 12, .t 14, .c (.fn 90 [] [])]⟩,
  ⟨none, some 16, .pick (.t 10) (.t 15) (.c (.bool false))⟩,
  ⟨none, some 4, .mv (.t 16)⟩]
def s52 : SF := ⟨17, [.tmp 4], .seq (.reg r52_0) (.seq (.reg r52_1) (.ret))⟩
theorem s52_ok : slimF Try.prog ⟨[94, 102, 103, 108, 109, 116, 119, 121, 125], []⟩ Try.f52 = some s52 := by kernel_rfl
end Go.Proofs.Ytngkckefanbhgaa

namespace Go.Proofs.Ytngkckefanbhgaa
open Go Go.Proofs
def r89_0 : List SO := [
  ⟨none, some 6, .mv (.c (.bool false))⟩]
def r89_1 : List SO := [
  ⟨none, some 10, .mv (.t 0)⟩,
  ⟨none, some 11, .len (.t 10)⟩,
  ⟨none, some 12, .mv (.t 1)⟩,
  ⟨none, some 13, .len (.t 12)⟩,
  ⟨none, some 14, .bin .neq (.t 11) (.t 13)⟩]
def r89_2 : List SO := [
  ⟨none, some 6, .mv (.c (.bool false))⟩]
def r89_3 : List SO := [
  ⟨none, some 15, .mv (.t 0)⟩,
  ⟨none, some 16, .len (.t 15)⟩,
  ⟨none, some 17, .mv (.c (.int .i64 0))⟩]
def r89_4 : List SO := [
  ⟨none, some 18, .bin .lss (.t 17) (.t 16)⟩]
def r89_5 : List SO := [
  ⟨none, some 19, .mv (.t 17)⟩,
  ⟨none, some 20, .idx 2 (.t 15) (.t 17)⟩,
  ⟨none, some 21, .load true 2 (.t 20)⟩,
  ⟨none, some 8, .alloc 63 [.nilsl, .nilsl]⟩,
  ⟨none, some 7, .mv (.t 19)⟩,
  ⟨none, none, .store 2 (.t 8) (.t 21)⟩]
def r89_6 : List SO := [
  ⟨none, some 22, .mv (.t 1)⟩,
  ⟨none, some 23, .mv (.t 7)⟩,
  ⟨none, some 24, .idx 2 (.t 22) (.t 23)⟩,
  ⟨none, some 25, .load true 2 (.t 24)⟩,
  ⟨none, some 9, .alloc 63 [.nilsl, .nilsl]⟩,
  ⟨none, none, .store 2 (.t 9) (.t 25)⟩]
def r89_7 : List SO := [
  ⟨none, some 26, .mv (.t 2)⟩,
  ⟨none, some 27, .load true 2 (.t 8)⟩,
  ⟨none, some 28, .load true 2 (.t 9)⟩,
  ⟨none, some 29, .callv false (.t 26) [.t 27, .t 28]⟩,
  ⟨none, some 30, .un .not (.t 29)⟩]
def r89_8 : List SO := [
  ⟨none, some 6, .mv (.c (.bool false))⟩]
def r89_9 : List SO := [
  ⟨none, some 31, .bin .add (.t 17) (.c (.int .i64 1))⟩,
  ⟨none, some 17, .mv (.t 31)⟩]
def b89_0 : SC := .seq (.reg r89_4) (.seq (.cond (.t 18) (.skip) (.exit 0)) (.seq (.block 1 (.seq (.reg r89_5) (.seq (.reg r89_6) (.seq (.reg r89_7) (.cond (.t 30) (.seq (.reg r89_8) (.ret)) (.skip)))))) (.reg r89_9)))
def r89_10 : List SO := [
  ⟨none, some 6, .mv (.c (.bool true))⟩]
def s89 : SF := ⟨32, [.tmp 6], .seq (.reg r89_0) (.seq (.seq (.reg r89_1) (.cond (.t 14) (.seq (.reg r89_2) (.ret)) (.skip))) (.seq (.seq (.reg r89_3) (.block 0 (.loop b89_0))) (.seq (.reg r89_10) (.ret))))⟩
theorem s89_ok : slimF Try.prog ⟨[94, 102, 103, 108, 109, 116, 119, 121, 125], []⟩ Try.f89 = some s89 := by kernel_rfl
end Go.Proofs.Ytngkckefanbhgaa

namespace Go.Proofs.Ytngkckefanbhgaa
open Go Go.Proofs
def r90_0 : List SO := [
  ⟨none, some 2, .box 63 2 (.t 0)⟩,
  ⟨none, some 3, .box 63 2 (.t 1)⟩,
  ⟨none, some 4, .mv (.c (.bool false))⟩]
def r90_1 : List SO := [
  ⟨none, some 5, .fld 0 (.t 2)⟩,
  ⟨none, some 6, .load false 1 (.t 5)⟩,
  ⟨none, some 7, .fld 0 (.t 3)⟩,
  ⟨none, some 8, .load false 1 (.t 7)⟩,
  ⟨none, some 9, .call false 91 [.t 6, .t 8]⟩,
  ⟨none, some 10, .mv (.t 9)⟩,
  ⟨some (10, true), some 11, .fld 1 (.t 2)⟩,
  ⟨some (10, true), some 12, .load false 1 (.t 11)⟩,
  ⟨some (10, true), some 13, .fld 1 (.t 3)⟩,
  ⟨some (10, true), some 14, .load false 1 (.t 13)⟩,
  ⟨some (10, true), some 15, .call false 91 [.t 12, .t 14]⟩,
  ⟨none, some 16, .pick (.t 10) (.t 15) (.c (.bool false))⟩,
  ⟨none, some 4, .mv (.t 16)⟩]
def s90 : SF := ⟨17, [.tmp 4], .seq (.reg r90_0) (.seq (.reg r90_1) (.ret))⟩
theorem s90_ok : slimF Try.prog ⟨[94, 102, 103, 108, 109, 116, 119, 121, 125], []⟩ Try.f90 = some s90 := by kernel_rfl
end Go.Proofs.Ytngkckefanbhgaa

namespace Go.Proofs.Ytngkckefanbhgaa
open Go Go.Proofs
def r91_0 : List SO := [
  ⟨none, some 4, .mv (.c (.bool false))⟩]
def r91_1 : List SO := [
  ⟨none, some 6, .mv (.t 0)⟩,
  ⟨none, some 7, .len (.t 6)⟩,
  ⟨none, some 8, .mv (.t 1)⟩,
  ⟨none, some 9, .len (.t 8)⟩,
  ⟨none, some 10, .bin .neq (.t 7) (.t 9)⟩]
def r91_2 : List SO := [
  ⟨none, some 4, .mv (.c (.bool false))⟩]
def r91_3 : List SO := [
  ⟨none, some 11, .mv (.t 0)⟩,
  ⟨none, some 12, .len (.t 11)⟩,
  ⟨none, some 13, .mv (.c (.int .i64 0))⟩]
def r91_4 : List SO := [
  ⟨none, some 14, .bin .lss (.t 13) (.t 12)⟩]
def r91_5 : List SO := [
  ⟨none, some 15, .mv (.t 13)⟩,
  ⟨none, some 5, .mv (.t 15)⟩]
def r91_6 : List SO := [
  ⟨none, some 16, .mv (.t 0)⟩,
  ⟨none, some 17, .mv (.t 5)⟩,
  ⟨none, some 18, .idx 1 (.t 16) (.t 17)⟩,
  ⟨none, some 19, .load false 1 (.t 18)⟩,
  ⟨none, some 20, .mv (.t 1)⟩,
  ⟨none, some 21, .mv (.t 5)⟩,
  ⟨none, some 22, .idx 1 (.t 20) (.t 21)⟩,
  ⟨none, some 23, .load false 1 (.t 22)⟩,
  ⟨none, some 24, .bin .neq (.t 19) (.t 23)⟩]
def r91_7 : List SO := [
  ⟨none, some 4, .mv (.c (.bool false))⟩]
def r91_8 : List SO := [
  ⟨none, some 25, .bin .add (.t 13) (.c (.int .i64 1))⟩,
  ⟨none, some 13, .mv (.t 25)⟩]
def b91_0 : SC := .seq (.reg r91_4) (.seq (.cond (.t 14) (.skip) (.exit 0)) (.seq (.block 1 (.seq (.reg r91_5) (.seq (.reg r91_6) (.cond (.t 24) (.seq (.reg r91_7) (.ret)) (.skip))))) (.reg r91_8)))
def r91_9 : List SO := [
  ⟨none, some 4, .mv (.c (.bool true))⟩]
def s91 : SF := ⟨26, [.tmp 4], .seq (.reg r91_0) (.seq (.seq (.reg r91_1) (.cond (.t 10) (.seq (.reg r91_2) (.ret)) (.skip))) (.seq (.seq (.reg r91_3) (.block 0 (.loop b91_0))) (.seq (.reg r91_9) (.ret))))⟩
theorem s91_ok : slimF Try.prog ⟨[94, 102, 103, 108, 109, 116, 119, 121, 125], []⟩ Try.f91 = some s91 := by kernel_rfl
end Go.Proofs.Ytngkckefanbhgaa

namespace Go.Proofs.Ytngkckefanbhgaa
open Go Go.Proofs
theorem sequal_pure (a b : List Int) : PureC Try.prog 91 [(V.sl (List.map cI (a))), (V.sl (List.map cI (b)))] (V.bool (decide (a = b))) := by
 refine pure_of_Wb true 6 Try.func91 s91_ok (by kernel_rfl) (by simp [s91]) (by simp) (by simp) fun hB => ?_
 simp only [bnd_map, bnd_int, bnd_bool, bnd_str, bnd_agg, bnd_pp, bnd_nil, bnd_cons, implies_true, and_true, true_and] at hB
 unfold s91
 dsimp only
 refine W_seq_regc (fun T H => T 0 = (V.sl (List.map cI (a))) ∧ T 1 = (V.sl (List.map cI (b))) ∧ True) ?_ ?_
 ·
  unfold r91_0
  refine R_mv (@rfl V (V.bool false)) ?_
  exact R_nil ⟨rfl, rfl, trivial⟩
 intro T H ⟨t0, t1, _⟩
 refine W_seq_seq ?_
 refine W_seq_regc (fun T H => T 0 = (V.sl (List.map cI (a))) ∧ T 1 = (V.sl (List.map cI (b))) ∧ T 10 = (V.bool (decide (((a.length : Nat) : Int) ≠ ((b.length : Nat) : Int)))) ∧ True) ?_ ?_
 ·
  unfold r91_1
  refine R_mv t0 ?_
  refine R_len (@rfl V (V.sl (List.map cI (a)))) ?_
  refine R_mv t1 ?_
  refine R_len (@rfl V (V.sl (List.map cI (b)))) ?_
  refine R_neq (x := ((a.length : Nat) : Int)) (y := ((b.length : Nat) : Int)) (@rfl V (iV ((a.length : Nat) : Int))) (@rfl V (iV ((b.length : Nat) : Int))) ?_
  exact R_nil ⟨t0, t1, rfl, trivial⟩
 intro T H ⟨t0, t1, t10, _⟩
 refine W_seq_if (p := ((a.length : Nat) : Int) ≠ ((b.length : Nat) : Int)) t10 (fun c1 => ?_) (fun c1 => ?_)
 ·
  refine W_seq_seq ?_
  refine W_seq_regc (fun T H => T 4 = (V.bool false) ∧ True) ?_ ?_
  ·
   unfold r91_2
   refine R_mv (@rfl V (V.bool false)) ?_
   exact R_nil ⟨rfl, trivial⟩
  intro T H ⟨t4, _⟩
  refine W_seq_ret ?_
  refine Ret_1 t4 (fz_bool ?_)
  · exact (decide_eq_false (fun e => by subst e; omega)).symm
 refine W_seq_skip ?_
 refine W_seq_seq ?_
 refine W_seq_regc (fun T H => T 0 = (V.sl (List.map cI (a))) ∧ T 1 = (V.sl (List.map cI (b))) ∧ T 12 = (iV ((a.length : Nat) : Int)) ∧ T 13 = (iV (0 : Int)) ∧ True) ?_ ?_
 ·
  unfold r91_3
  refine R_mv t0 ?_
  refine R_len (@rfl V (V.sl (List.map cI (a)))) ?_
  refine R_mv (@rfl V (iV (0 : Int))) ?_
  exact R_nil ⟨t0, t1, rfl, rfl, trivial⟩
 intro T H ⟨t0, t1, t12, t13, _⟩
 refine W_seq_blockg fun Q2 n2 x2 y2 z2 => ?_
 refine W_loop (fun mm T H => ∃ (k : Nat), mm = a.length - k ∧ T 0 = (V.sl (List.map cI (a))) ∧ T 1 = (V.sl (List.map cI (b))) ∧ T 12 = (iV ((a.length : Nat) : Int)) ∧ T 13 = (iV ((k : Nat) : Int)) ∧ (k ≤ a.length) ∧ (a.length = b.length) ∧ (∀ j, j < k → nth a j = nth b j)) ?_ ?_
 ·
  refine ⟨_, 0, rfl, t0, t1, t12, (Eq.trans t13 (by first | rfl | simp)), ?_, ?_, ?_⟩
  · omega
  · omega
  · intro j hj; omega
 intro mm T H ⟨k, hmm, t0, t1, t12, t13, hk, hl, hc⟩ Q3 p13 p23 p33
 unfold b91_0
 refine W_seq_regc (fun T H => T 0 = (V.sl (List.map cI (a))) ∧ T 1 = (V.sl (List.map cI (b))) ∧ T 12 = (iV ((a.length : Nat) : Int)) ∧ T 13 = (iV ((k : Nat) : Int)) ∧ T 14 = (V.bool (decide (((k : Nat) : Int) < ((a.length : Nat) : Int)))) ∧ True) ?_ ?_
 ·
  unfold r91_4
  refine R_lss (x := ((k : Nat) : Int)) (y := ((a.length : Nat) : Int)) t13 t12 ?_
  exact R_nil ⟨t0, t1, t12, t13, rfl, trivial⟩
 intro T H ⟨t0, t1, t12, t13, t14, _⟩
 refine W_seq_if (p := ((k : Nat) : Int) < ((a.length : Nat) : Int)) t14 (fun c4 => ?_) (fun c4 => ?_)
 ·
  refine W_seq_skip ?_
  refine W_seq_blockg fun Q5 n5 x5 y5 z5 => ?_
  refine W_seq_regc (fun T H => T 0 = (V.sl (List.map cI (a))) ∧ T 1 = (V.sl (List.map cI (b))) ∧ T 5 = (iV ((k : Nat) : Int)) ∧ T 12 = (iV ((a.length : Nat) : Int)) ∧ T 13 = (iV ((k : Nat) : Int)) ∧ True) ?_ ?_
  ·
   unfold r91_5
   refine R_mv t13 ?_
   refine R_mv (@rfl V (iV ((k : Nat) : Int))) ?_
   exact R_nil ⟨t0, t1, rfl, t12, t13, trivial⟩
  intro T H ⟨t0, t1, t5, t12, t13, _⟩
  refine W_seq_regc (fun T H => T 0 = (V.sl (List.map cI (a))) ∧ T 1 = (V.sl (List.map cI (b))) ∧ T 12 = (iV ((a.length : Nat) : Int)) ∧ T 13 = (iV ((k : Nat) : Int)) ∧ T 24 = (V.bool (decide (((nth (a) (k))) ≠ ((nth (b) (k)))))) ∧ True) ?_ ?_
  ·
   unfold r91_6
   refine R_mv t0 ?_
   refine R_mv t5 ?_
   refine R_idx (i := k) (@rfl V (V.sl (List.map cI (a)))) (@rfl V (iV ((k : Nat) : Int))) (by omega) rfl ?_
   refine R_load_pp (v := (iV ((nth (a) (k))))) (@rfl V (V.pp [(iV ((nth (a) (k))))])) (by first | rfl | simp [ldV]) ?_
   refine R_mv t1 ?_
   refine R_mv t5 ?_
   refine R_idx (i := k) (@rfl V (V.sl (List.map cI (b)))) (@rfl V (iV ((k : Nat) : Int))) (by omega) rfl ?_
   refine R_load_pp (v := (iV ((nth (b) (k))))) (@rfl V (V.pp [(iV ((nth (b) (k))))])) (by first | rfl | simp [ldV]) ?_
   refine R_neq (x := ((nth (a) (k)))) (y := ((nth (b) (k)))) (@rfl V (iV ((nth (a) (k))))) (@rfl V (iV ((nth (b) (k))))) ?_
   exact R_nil ⟨t0, t1, t12, t13, rfl, trivial⟩
  intro T H ⟨t0, t1, t12, t13, t24, _⟩
  refine W_if (p := ((nth (a) (k))) ≠ ((nth (b) (k)))) t24 (fun c6 => ?_) (fun c6 => ?_)
  ·
   refine W_seq_regc (fun T H => T 4 = (V.bool false) ∧ True) ?_ ?_
   ·
    unfold r91_7
    refine R_mv (@rfl V (V.bool false)) ?_
    exact R_nil ⟨rfl, trivial⟩
   intro T H ⟨t4, _⟩
   refine W_ret ?_
   refine y5 _ _ ?_
   refine p23 _ _ ?_
   refine y2 _ _ ?_
   refine Ret_1 t4 (fz_bool ?_)
   · exact (decide_eq_false (fun e => by subst e; omega)).symm
  refine W_skip ?_
  refine n5 _ _ ?_
  refine .done ?_
  refine W_regc (fun T H => T 0 = (V.sl (List.map cI (a))) ∧ T 1 = (V.sl (List.map cI (b))) ∧ T 12 = (iV ((a.length : Nat) : Int)) ∧ T 13 = (iV ((k + 1 : Nat) : Int)) ∧ True) ?_ ?_
  ·
   unfold r91_8
   refine R_addN (m := k) (n := 1) t13 (@rfl V (iV ((1 : Nat) : Int))) (by omega) ?_
   refine R_mv (@rfl V (iV ((k + 1 : Nat) : Int))) ?_
   exact R_nil ⟨t0, t1, t12, rfl, trivial⟩
  intro T H ⟨t0, t1, t12, t13, _⟩
  refine p13 _ _ _ ?_ ⟨(k + 1), rfl, t0, t1, t12, (Eq.trans t13 (by first | rfl | simp)), ?_, ?_, ?_⟩
  · omega
  · omega
  · omega
  · intro j hj
    by_cases e : j = k
    · subst e; omega
    · exact hc j (by omega)
 refine W_seq_exit ?_
 refine p33 _ _ _ ?_
 refine x2 _ _ ?_
 refine .done ?_
 refine W_seq_regc (fun T H => T 4 = (V.bool true) ∧ True) ?_ ?_
 ·
  unfold r91_9
  refine R_mv (@rfl V (V.bool true)) ?_
  exact R_nil ⟨rfl, trivial⟩
 intro T H ⟨t4, _⟩
 refine W_ret ?_
 refine Ret_1 t4 (fz_bool ?_)
 · exact (decide_eq_true (nth_ext hl fun j hj => hc j (by omega))).symm
end Go.Proofs.Ytngkckefanbhgaa

namespace Go.Proofs.Ytngkckefanbhgaa
open Go Go.Proofs
theorem same1_pure (a b : Tr) : PureC Try.prog 90 [(V.agg [(V.sl (List.map cI (a.ni))), (V.sl (List.map cI (a.no)))]), (V.agg [(V.sl (List.map cI (b.ni))), (V.sl (List.map cI (b.no)))])] (V.bool (decide (a = b))) := by
 refine pure_of_Wb true 6 Try.func90 s90_ok (by kernel_rfl) (by simp [s90]) (by simp) (by simp) fun hB => ?_
 simp only [bnd_map, bnd_int, bnd_bool, bnd_str, bnd_agg, bnd_pp, bnd_nil, bnd_cons, implies_true, and_true, true_and] at hB
 unfold s90
 dsimp only
 refine W_seq_regc (fun T H => T 2 = (V.mp 2 1 0 0) ∧ T 3 = (V.mp 3 1 0 0) ∧ H 2 = (⟨1, true, false, 63, 2, [[(V.sl (List.map cI (a.ni))), (V.sl (List.map cI (a.no)))]]⟩ : Blk) ∧ H 3 = (⟨1, true, false, 63, 2, [[(V.sl (List.map cI (b.ni))), (V.sl (List.map cI (b.no)))]]⟩ : Blk) ∧ True) ?_ ?_
 ·
  unfold r90_0
  refine R_box (i := 2) (n := 0) (m := 2) (cs := [(V.sl (List.map cI (a.ni))), (V.sl (List.map cI (a.no)))]) rfl (congrArg Blk.ver rfl) (@rfl V (V.agg [(V.sl (List.map cI (a.ni))), (V.sl (List.map cI (a.no)))])) rfl rfl ?_
  refine R_box (i := 3) (n := 0) (m := 2) (cs := [(V.sl (List.map cI (b.ni))), (V.sl (List.map cI (b.no)))]) rfl (congrArg Blk.ver rfl) (@rfl V (V.agg [(V.sl (List.map cI (b.ni))), (V.sl (List.map cI (b.no)))])) rfl rfl ?_
  refine R_mv (@rfl V (V.bool false)) ?_
  exact R_nil ⟨rfl, rfl, rfl, rfl, trivial⟩
 intro T H ⟨t2, t3, h2, h3, _⟩
 refine W_seq_regc (fun T H => T 4 = (V.bool (decide ((a.ni = b.ni) ∧ (a.no = b.no)))) ∧ H 2 = (⟨1, true, false, 63, 2, [[(V.sl (List.map cI (a.ni))), (V.sl (List.map cI (a.no)))]]⟩ : Blk) ∧ H 3 = (⟨1, true, false, 63, 2, [[(V.sl (List.map cI (b.ni))), (V.sl (List.map cI (b.no)))]]⟩ : Blk) ∧ True) ?_ ?_
 ·
  unfold r90_1
  refine R_fld_mp (o' := 0) t2 h2 (by first | rfl | simp [okB, Blk.own]) rfl ?_
  refine R_load_mp (v := (V.sl (List.map cI (a.ni)))) (@rfl V (V.mp 2 1 0 0)) h2 (by first | rfl | simp [ldB, ldV, Blk.own, V.one]) ?_
  refine R_fld_mp (o' := 0) t3 h3 (by first | rfl | simp [okB, Blk.own]) rfl ?_
  refine R_load_mp (v := (V.sl (List.map cI (b.ni)))) (@rfl V (V.mp 3 1 0 0)) h3 (by first | rfl | simp [ldB, ldV, Blk.own, V.one]) ?_
  refine R_call (evcons (@rfl V (V.sl (List.map cI (a.ni)))) (evcons (@rfl V (V.sl (List.map cI (b.ni)))) evnil)) (sequal_pure a.ni b.ni) (fzv_mapcanon _ _ (by simp [-List.map_take, -List.map_drop, -List.map_append, -List.map_reverse])) (by simp [-List.map_take, -List.map_drop, -List.map_append, -List.map_reverse]) (Or.inl (by simp [-List.map_take, -List.map_drop, -List.map_append, -List.map_reverse])) ?_
  refine R_mv (@rfl V (V.bool (decide (a.ni = b.ni)))) ?_
  refine Ops_seg 6 (fun T H => T 16 = (V.bool (decide ((a.ni = b.ni) ∧ (a.no = b.no)))) ∧ H 2 = (⟨1, true, false, 63, 2, [[(V.sl (List.map cI (a.ni))), (V.sl (List.map cI (a.no)))]]⟩ : Blk) ∧ H 3 = (⟨1, true, false, 63, 2, [[(V.sl (List.map cI (b.ni))), (V.sl (List.map cI (b.no)))]]⟩ : Blk) ∧ True) ?_ ?_
  ·
   by_cases g1 : a.ni = b.ni
   ·
    refine G_yes (Eq.trans (@rfl V (V.bool (decide (a.ni = b.ni)))) (bdT g1)) ?_
    refine R_fld_mp (o' := 1) t2 h2 (by first | rfl | simp [okB, Blk.own]) rfl ?_
    refine G_yes (Eq.trans (@rfl V (V.bool (decide (a.ni = b.ni)))) (bdT g1)) ?_
    refine R_load_mp (v := (V.sl (List.map cI (a.no)))) (@rfl V (V.mp 2 1 0 1)) h2 (by first | rfl | simp [ldB, ldV, Blk.own, V.one]) ?_
    refine G_yes (Eq.trans (@rfl V (V.bool (decide (a.ni = b.ni)))) (bdT g1)) ?_
    refine R_fld_mp (o' := 1) t3 h3 (by first | rfl | simp [okB, Blk.own]) rfl ?_
    refine G_yes (Eq.trans (@rfl V (V.bool (decide (a.ni = b.ni)))) (bdT g1)) ?_
    refine R_load_mp (v := (V.sl (List.map cI (b.no)))) (@rfl V (V.mp 3 1 0 1)) h3 (by first | rfl | simp [ldB, ldV, Blk.own, V.one]) ?_
    refine G_yes (Eq.trans (@rfl V (V.bool (decide (a.ni = b.ni)))) (bdT g1)) ?_
    refine R_call (evcons (@rfl V (V.sl (List.map cI (a.no)))) (evcons (@rfl V (V.sl (List.map cI (b.no)))) evnil)) (sequal_pure a.no b.no) (fzv_mapcanon _ _ (by simp [-List.map_take, -List.map_drop, -List.map_append, -List.map_reverse])) (by simp [-List.map_take, -List.map_drop, -List.map_append, -List.map_reverse]) (Or.inl (by simp [-List.map_take, -List.map_drop, -List.map_append, -List.map_reverse])) ?_
    refine R_pickT (Eq.trans (@rfl V (V.bool (decide (a.ni = b.ni)))) (bdT g1)) (@rfl V (V.bool (decide (a.no = b.no)))) ?_
    exact ⟨(Eq.trans (@rfl V (V.bool (decide (a.no = b.no)))) (dec_andT g1)), h2, h3, trivial⟩
   ·
    refine G_no (Eq.trans (@rfl V (V.bool (decide (a.ni = b.ni)))) (bdF g1)) (by decide) ?_
    refine G_no (Eq.trans (@rfl V (V.bool (decide (a.ni = b.ni)))) (bdF g1)) (by decide) ?_
    refine G_no (Eq.trans (@rfl V (V.bool (decide (a.ni = b.ni)))) (bdF g1)) (by decide) ?_
    refine G_no (Eq.trans (@rfl V (V.bool (decide (a.ni = b.ni)))) (bdF g1)) (by decide) ?_
    refine G_no (Eq.trans (@rfl V (V.bool (decide (a.ni = b.ni)))) (bdF g1)) (by decide) ?_
    refine R_pickF (Eq.trans (@rfl V (V.bool (decide (a.ni = b.ni)))) (bdF g1)) (@rfl V (V.bool false)) ?_
    exact ⟨(Eq.trans (@rfl V (V.bool false)) (dec_andF g1)), h2, h3, trivial⟩
  intro T H ⟨t16, h2, h3, _⟩
  refine R_mv t16 ?_
  exact R_nil ⟨rfl, h2, h3, trivial⟩
 intro T H ⟨t4, h2, h3, _⟩
 refine W_ret ?_
 refine Ret_1 t4 (fz_bool ?_)
 · exact decide_eq_decide.2 Tr.eq_iff.symm
end Go.Proofs.Ytngkckefanbhgaa

namespace Go.Proofs.Ytngkckefanbhgaa
open Go Go.Proofs
theorem eqf_pure (a b : List Tr) : PureC Try.prog 89 [(V.sl (List.map cT (a))), (V.sl (List.map cT (b))), (V.fn 90 [] [])] (V.bool (decide (a = b))) := by
 refine pure_of_Wb true 6 Try.func89 s89_ok (by kernel_rfl) (by simp [s89]) (by simp) (by simp) fun hB => ?_
 simp only [bnd_map, bnd_int, bnd_bool, bnd_str, bnd_agg, bnd_pp, bnd_nil, bnd_cons, implies_true, and_true, true_and] at hB
 unfold s89
 dsimp only
 refine W_seq_regc (fun T H => T 0 = (V.sl (List.map cT (a))) ∧ T 1 = (V.sl (List.map cT (b))) ∧ T 2 = (V.fn 90 [] []) ∧ H 8 = (⟨0, false, false, 0, 0, []⟩ : Blk) ∧ H 9 = (⟨0, false, false, 0, 0, []⟩ : Blk) ∧ True) ?_ ?_
 ·
  unfold r89_0
  refine R_mv (@rfl V (V.bool false)) ?_
  exact R_nil ⟨rfl, rfl, rfl, rfl, rfl, trivial⟩
 intro T H ⟨t0, t1, t2, h8, h9, _⟩
 refine W_seq_seq ?_
 refine W_seq_regc (fun T H => T 0 = (V.sl (List.map cT (a))) ∧ T 1 = (V.sl (List.map cT (b))) ∧ T 2 = (V.fn 90 [] []) ∧ T 14 = (V.bool (decide (((a.length : Nat) : Int) ≠ ((b.length : Nat) : Int)))) ∧ H 8 = (⟨0, false, false, 0, 0, []⟩ : Blk) ∧ H 9 = (⟨0, false, false, 0, 0, []⟩ : Blk) ∧ True) ?_ ?_
 ·
  unfold r89_1
  refine R_mv t0 ?_
  refine R_len (@rfl V (V.sl (List.map cT (a)))) ?_
  refine R_mv t1 ?_
  refine R_len (@rfl V (V.sl (List.map cT (b)))) ?_
  refine R_neq (x := ((a.length : Nat) : Int)) (y := ((b.length : Nat) : Int)) (@rfl V (iV ((a.length : Nat) : Int))) (@rfl V (iV ((b.length : Nat) : Int))) ?_
  exact R_nil ⟨t0, t1, t2, rfl, h8, h9, trivial⟩
 intro T H ⟨t0, t1, t2, t14, h8, h9, _⟩
 refine W_seq_if (p := ((a.length : Nat) : Int) ≠ ((b.length : Nat) : Int)) t14 (fun c1 => ?_) (fun c1 => ?_)
 ·
  refine W_seq_seq ?_
  refine W_seq_regc (fun T H => T 6 = (V.bool false) ∧ H 8 = (⟨0, false, false, 0, 0, []⟩ : Blk) ∧ H 9 = (⟨0, false, false, 0, 0, []⟩ : Blk) ∧ True) ?_ ?_
  ·
   unfold r89_2
   refine R_mv (@rfl V (V.bool false)) ?_
   exact R_nil ⟨rfl, h8, h9, trivial⟩
  intro T H ⟨t6, h8, h9, _⟩
  refine W_seq_ret ?_
  refine Ret_1 t6 (fz_bool ?_)
  · exact (decide_eq_false (fun e => by subst e; omega)).symm
 refine W_seq_skip ?_
 refine W_seq_seq ?_
 refine W_seq_regc (fun T H => T 1 = (V.sl (List.map cT (b))) ∧ T 2 = (V.fn 90 [] []) ∧ T 15 = (V.sl (List.map cT (a))) ∧ T 16 = (iV ((a.length : Nat) : Int)) ∧ T 17 = (iV (0 : Int)) ∧ H 8 = (⟨0, false, false, 0, 0, []⟩ : Blk) ∧ H 9 = (⟨0, false, false, 0, 0, []⟩ : Blk) ∧ True) ?_ ?_
 ·
  unfold r89_3
  refine R_mv t0 ?_
  refine R_len (@rfl V (V.sl (List.map cT (a)))) ?_
  refine R_mv (@rfl V (iV (0 : Int))) ?_
  exact R_nil ⟨t1, t2, rfl, rfl, rfl, h8, h9, trivial⟩
 intro T H ⟨t1, t2, t15, t16, t17, h8, h9, _⟩
 refine W_seq_blockg fun Q2 n2 x2 y2 z2 => ?_
 refine W_loop (fun mm T H => ∃ (k : Nat) (v8 : Nat) (v9 : Nat), mm = a.length - k ∧ T 1 = (V.sl (List.map cT (b))) ∧ T 2 = (V.fn 90 [] []) ∧ T 15 = (V.sl (List.map cT (a))) ∧ T 16 = (iV ((a.length : Nat) : Int)) ∧ T 17 = (iV ((k : Nat) : Int)) ∧ (H 8).ver = v8 ∧ (H 9).ver = v9 ∧ (k ≤ a.length) ∧ (a.length = b.length) ∧ (∀ j, j < k → nth a j = nth b j)) ?_ ?_
 ·
  refine ⟨_, 0, 0, 0, rfl, t1, t2, t15, t16, (Eq.trans t17 (by first | rfl | simp)), (congrArg Blk.ver h8), (congrArg Blk.ver h9), ?_, ?_, ?_⟩
  · omega
  · omega
  · intro j hj; omega
 intro mm T H ⟨k, v8, v9, hmm, t1, t2, t15, t16, t17, h8, h9, hk, hl, hc⟩ Q3 p13 p23 p33
 unfold b89_0
 refine W_seq_regc (fun T H => T 1 = (V.sl (List.map cT (b))) ∧ T 2 = (V.fn 90 [] []) ∧ T 15 = (V.sl (List.map cT (a))) ∧ T 16 = (iV ((a.length : Nat) : Int)) ∧ T 17 = (iV ((k : Nat) : Int)) ∧ T 18 = (V.bool (decide (((k : Nat) : Int) < ((a.length : Nat) : Int)))) ∧ (H 8).ver = v8 ∧ (H 9).ver = v9 ∧ True) ?_ ?_
 ·
  unfold r89_4
  refine R_lss (x := ((k : Nat) : Int)) (y := ((a.length : Nat) : Int)) t17 t16 ?_
  exact R_nil ⟨t1, t2, t15, t16, t17, rfl, h8, h9, trivial⟩
 intro T H ⟨t1, t2, t15, t16, t17, t18, h8, h9, _⟩
 refine W_seq_if (p := ((k : Nat) : Int) < ((a.length : Nat) : Int)) t18 (fun c4 => ?_) (fun c4 => ?_)
 ·
  refine W_seq_skip ?_
  refine W_seq_blockg fun Q5 n5 x5 y5 z5 => ?_
  refine W_seq_regc (fun T H => T 1 = (V.sl (List.map cT (b))) ∧ T 2 = (V.fn 90 [] []) ∧ T 7 = (iV ((k : Nat) : Int)) ∧ T 8 = (V.mp 8 (v8 + 1) 0 0) ∧ T 15 = (V.sl (List.map cT (a))) ∧ T 16 = (iV ((a.length : Nat) : Int)) ∧ T 17 = (iV ((k : Nat) : Int)) ∧ H 8 = (⟨v8 + 1, true, false, 63, 2, [[(V.sl (List.map cI ((nth (a) (k)).ni))), (V.sl (List.map cI ((nth (a) (k)).no)))]]⟩ : Blk) ∧ (H 9).ver = v9 ∧ True) ?_ ?_
  ·
   unfold r89_5
   refine R_mv t17 ?_
   refine R_idx (i := k) t15 t17 (by omega) rfl ?_
   refine R_load_pp (v := (V.agg [(V.sl (List.map cI ((nth (a) (k)).ni))), (V.sl (List.map cI ((nth (a) (k)).no)))])) (@rfl V (V.pp [(V.sl (List.map cI ((nth (a) (k)).ni))), (V.sl (List.map cI ((nth (a) (k)).no)))])) (by first | rfl | simp [ldV]) ?_
   refine R_alloc (i := 8) (n := v8) (m := 2) rfl h8 rfl ?_
   refine R_mv (@rfl V (iV ((k : Nat) : Int))) ?_
   refine R_store (vs := [(V.sl (List.map cI ((nth (a) (k)).ni))), (V.sl (List.map cI ((nth (a) (k)).no)))]) (B' := (⟨v8 + 1, true, false, 63, 2, [[(V.sl (List.map cI ((nth (a) (k)).ni))), (V.sl (List.map cI ((nth (a) (k)).no)))]]⟩ : Blk)) (@rfl V (V.mp 8 (v8 + 1) 0 0)) (@rfl V (V.agg [(V.sl (List.map cI ((nth (a) (k)).ni))), (V.sl (List.map cI ((nth (a) (k)).no)))])) rfl (@rfl Blk (⟨v8 + 1, true, false, 63, 2, [[V.nilsl, V.nilsl]]⟩ : Blk)) (by first | rfl | simp [stB, okB, Blk.own, putAt, V.one]) ?_
   exact R_nil ⟨t1, t2, rfl, rfl, t15, t16, t17, rfl, h9, trivial⟩
  intro T H ⟨t1, t2, t7, t8, t15, t16, t17, h8, h9, _⟩
  refine W_seq_regc (fun T H => T 1 = (V.sl (List.map cT (b))) ∧ T 2 = (V.fn 90 [] []) ∧ T 8 = (V.mp 8 (v8 + 1) 0 0) ∧ T 9 = (V.mp 9 (v9 + 1) 0 0) ∧ T 15 = (V.sl (List.map cT (a))) ∧ T 16 = (iV ((a.length : Nat) : Int)) ∧ T 17 = (iV ((k : Nat) : Int)) ∧ H 8 = (⟨v8 + 1, true, false, 63, 2, [[(V.sl (List.map cI ((nth (a) (k)).ni))), (V.sl (List.map cI ((nth (a) (k)).no)))]]⟩ : Blk) ∧ H 9 = (⟨v9 + 1, true, false, 63, 2, [[(V.sl (List.map cI ((nth (b) (k)).ni))), (V.sl (List.map cI ((nth (b) (k)).no)))]]⟩ : Blk) ∧ True) ?_ ?_
  ·
   unfold r89_6
   refine R_mv t1 ?_
   refine R_mv t7 ?_
   refine R_idx (i := k) (@rfl V (V.sl (List.map cT (b)))) (@rfl V (iV ((k : Nat) : Int))) (by omega) rfl ?_
   refine R_load_pp (v := (V.agg [(V.sl (List.map cI ((nth (b) (k)).ni))), (V.sl (List.map cI ((nth (b) (k)).no)))])) (@rfl V (V.pp [(V.sl (List.map cI ((nth (b) (k)).ni))), (V.sl (List.map cI ((nth (b) (k)).no)))])) (by first | rfl | simp [ldV]) ?_
   refine R_alloc (i := 9) (n := v9) (m := 2) rfl h9 rfl ?_
   refine R_store (vs := [(V.sl (List.map cI ((nth (b) (k)).ni))), (V.sl (List.map cI ((nth (b) (k)).no)))]) (B' := (⟨v9 + 1, true, false, 63, 2, [[(V.sl (List.map cI ((nth (b) (k)).ni))), (V.sl (List.map cI ((nth (b) (k)).no)))]]⟩ : Blk)) (@rfl V (V.mp 9 (v9 + 1) 0 0)) (@rfl V (V.agg [(V.sl (List.map cI ((nth (b) (k)).ni))), (V.sl (List.map cI ((nth (b) (k)).no)))])) rfl (@rfl Blk (⟨v9 + 1, true, false, 63, 2, [[V.nilsl, V.nilsl]]⟩ : Blk)) (by first | rfl | simp [stB, okB, Blk.own, putAt, V.one]) ?_
   exact R_nil ⟨t1, t2, t8, rfl, t15, t16, t17, h8, rfl, trivial⟩
  intro T H ⟨t1, t2, t8, t9, t15, t16, t17, h8, h9, _⟩
  refine W_seq_regc (fun T H => T 1 = (V.sl (List.map cT (b))) ∧ T 2 = (V.fn 90 [] []) ∧ T 15 = (V.sl (List.map cT (a))) ∧ T 16 = (iV ((a.length : Nat) : Int)) ∧ T 17 = (iV ((k : Nat) : Int)) ∧ T 30 = (V.bool (decide (¬(((nth (a) (k))) = ((nth (b) (k))))))) ∧ H 8 = (⟨v8 + 1, true, false, 63, 2, [[(V.sl (List.map cI ((nth (a) (k)).ni))), (V.sl (List.map cI ((nth (a) (k)).no)))]]⟩ : Blk) ∧ H 9 = (⟨v9 + 1, true, false, 63, 2, [[(V.sl (List.map cI ((nth (b) (k)).ni))), (V.sl (List.map cI ((nth (b) (k)).no)))]]⟩ : Blk) ∧ True) ?_ ?_
  ·
   unfold r89_7
   refine R_mv t2 ?_
   refine R_load_mp (v := (V.agg [(V.sl (List.map cI ((nth (a) (k)).ni))), (V.sl (List.map cI ((nth (a) (k)).no)))])) t8 h8 (by first | rfl | simp [ldB, ldV, Blk.own, V.one]) ?_
   refine R_load_mp (v := (V.agg [(V.sl (List.map cI ((nth (b) (k)).ni))), (V.sl (List.map cI ((nth (b) (k)).no)))])) t9 h9 (by first | rfl | simp [ldB, ldV, Blk.own, V.one]) ?_
   refine R_callv (@rfl V (V.fn 90 [] [])) (evcons (@rfl V (V.agg [(V.sl (List.map cI ((nth (a) (k)).ni))), (V.sl (List.map cI ((nth (a) (k)).no)))])) (evcons (@rfl V (V.agg [(V.sl (List.map cI ((nth (b) (k)).ni))), (V.sl (List.map cI ((nth (b) (k)).no)))])) evnil)) (same1_pure ((nth (a) (k))) ((nth (b) (k)))) (fzv_mapcanon _ _ (by simp [-List.map_take, -List.map_drop, -List.map_append, -List.map_reverse])) (by simp [-List.map_take, -List.map_drop, -List.map_append, -List.map_reverse]) (Or.inl (by simp [-List.map_take, -List.map_drop, -List.map_append, -List.map_reverse])) ?_
   refine R_not (p := ((nth (a) (k))) = ((nth (b) (k)))) (@rfl V (V.bool (decide (((nth (a) (k))) = ((nth (b) (k))))))) ?_
   exact R_nil ⟨t1, t2, t15, t16, t17, rfl, h8, h9, trivial⟩
  intro T H ⟨t1, t2, t15, t16, t17, t30, h8, h9, _⟩
  refine W_if (p := ¬(((nth (a) (k))) = ((nth (b) (k))))) t30 (fun c6 => ?_) (fun c6 => ?_)
  ·
   have d1 := c6
   refine W_seq_regc (fun T H => T 6 = (V.bool false) ∧ H 8 = (⟨v8 + 1, true, false, 63, 2, [[(V.sl (List.map cI ((nth (a) (k)).ni))), (V.sl (List.map cI ((nth (a) (k)).no)))]]⟩ : Blk) ∧ H 9 = (⟨v9 + 1, true, false, 63, 2, [[(V.sl (List.map cI ((nth (b) (k)).ni))), (V.sl (List.map cI ((nth (b) (k)).no)))]]⟩ : Blk) ∧ True) ?_ ?_
   ·
    unfold r89_8
    refine R_mv (@rfl V (V.bool false)) ?_
    exact R_nil ⟨rfl, h8, h9, trivial⟩
   intro T H ⟨t6, h8, h9, _⟩
   refine W_ret ?_
   refine y5 _ _ ?_
   refine p23 _ _ ?_
   refine y2 _ _ ?_
   refine Ret_1 t6 (fz_bool ?_)
   · exact (decide_eq_false (fun e => d1 (by subst e; rfl))).symm
  have d1 := Decidable.not_not.1 c6
  refine W_skip ?_
  refine n5 _ _ ?_
  refine .done ?_
  refine W_regc (fun T H => T 1 = (V.sl (List.map cT (b))) ∧ T 2 = (V.fn 90 [] []) ∧ T 15 = (V.sl (List.map cT (a))) ∧ T 16 = (iV ((a.length : Nat) : Int)) ∧ T 17 = (iV ((k + 1 : Nat) : Int)) ∧ H 8 = (⟨v8 + 1, true, false, 63, 2, [[(V.sl (List.map cI ((nth (a) (k)).ni))), (V.sl (List.map cI ((nth (a) (k)).no)))]]⟩ : Blk) ∧ H 9 = (⟨v9 + 1, true, false, 63, 2, [[(V.sl (List.map cI ((nth (b) (k)).ni))), (V.sl (List.map cI ((nth (b) (k)).no)))]]⟩ : Blk) ∧ True) ?_ ?_
  ·
   unfold r89_9
   refine R_addN (m := k) (n := 1) t17 (@rfl V (iV ((1 : Nat) : Int))) (by omega) ?_
   refine R_mv (@rfl V (iV ((k + 1 : Nat) : Int))) ?_
   exact R_nil ⟨t1, t2, t15, t16, rfl, h8, h9, trivial⟩
  intro T H ⟨t1, t2, t15, t16, t17, h8, h9, _⟩
  refine p13 _ _ _ ?_ ⟨(k + 1), (v8 + 1), (v9 + 1), rfl, t1, t2, t15, t16, (Eq.trans t17 (by first | rfl | simp)), (congrArg Blk.ver h8), (congrArg Blk.ver h9), ?_, ?_, ?_⟩
  · omega
  · omega
  · omega
  · intro j hj
    by_cases e : j = k
    · subst e; exact d1
    · exact hc j (by omega)
 refine W_seq_exit ?_
 refine p33 _ _ _ ?_
 refine x2 _ _ ?_
 refine .done ?_
 refine W_seq_regc (fun T H => T 6 = (V.bool true) ∧ (H 8).ver = v8 ∧ (H 9).ver = v9 ∧ True) ?_ ?_
 ·
  unfold r89_10
  refine R_mv (@rfl V (V.bool true)) ?_
  exact R_nil ⟨rfl, h8, h9, trivial⟩
 intro T H ⟨t6, h8, h9, _⟩
 refine W_ret ?_
 refine Ret_1 t6 (fz_bool ?_)
 · exact (decide_eq_true (nth_ext hl fun j hj => hc j (by omega))).symm
end Go.Proofs.Ytngkckefanbhgaa

namespace Go.Proofs.Ytngkckefanbhgaa
open Go Go.Proofs
theorem osame_pure (a b : Ob) : PureC Try.prog 52 [(V.agg [(iV (a.i)), (V.sl (List.map cT (a.tr)))]), (V.agg [(iV (b.i)), (V.sl (List.map cT (b.tr)))])] (V.bool (decide (a = b))) := by
 refine pure_of_Wb true 6 Try.func52 s52_ok (by kernel_rfl) (by simp [s52]) (by simp) (by simp) fun hB => ?_
 simp only [bnd_map, bnd_int, bnd_bool, bnd_str, bnd_agg, bnd_pp, bnd_nil, bnd_cons, implies_true, and_true, true_and] at hB
 unfold s52
 dsimp only
 refine W_seq_regc (fun T H => T 2 = (V.mp 2 1 0 0) ∧ T 3 = (V.mp 3 1 0 0) ∧ H 2 = (⟨1, true, false, 34, 2, [[(iV (a.i)), (V.sl (List.map cT (a.tr)))]]⟩ : Blk) ∧ H 3 = (⟨1, true, false, 34, 2, [[(iV (b.i)), (V.sl (List.map cT (b.tr)))]]⟩ : Blk) ∧ True) ?_ ?_
 ·
  unfold r52_0
  refine R_box (i := 2) (n := 0) (m := 2) (cs := [(iV (a.i)), (V.sl (List.map cT (a.tr)))]) rfl (congrArg Blk.ver rfl) (@rfl V (V.agg [(iV (a.i)), (V.sl (List.map cT (a.tr)))])) rfl rfl ?_
  refine R_box (i := 3) (n := 0) (m := 2) (cs := [(iV (b.i)), (V.sl (List.map cT (b.tr)))]) rfl (congrArg Blk.ver rfl) (@rfl V (V.agg [(iV (b.i)), (V.sl (List.map cT (b.tr)))])) rfl rfl ?_
  refine R_mv (@rfl V (V.bool false)) ?_
  exact R_nil ⟨rfl, rfl, rfl, rfl, trivial⟩
 intro T H ⟨t2, t3, h2, h3, _⟩
 refine W_seq_regc (fun T H => T 4 = (V.bool (decide (((a.i) = (b.i)) ∧ (a.tr = b.tr)))) ∧ H 2 = (⟨1, true, false, 34, 2, [[(iV (a.i)), (V.sl (List.map cT (a.tr)))]]⟩ : Blk) ∧ H 3 = (⟨1, true, false, 34, 2, [[(iV (b.i)), (V.sl (List.map cT (b.tr)))]]⟩ : Blk) ∧ True) ?_ ?_
 ·
  unfold r52_1
  refine R_fld_mp (o' := 0) t2 h2 (by first | rfl | simp [okB, Blk.own]) rfl ?_
  refine R_load_mp (v := (iV (a.i))) (@rfl V (V.mp 2 1 0 0)) h2 (by first | rfl | simp [ldB, ldV, Blk.own, V.one]) ?_
  refine R_fld_mp (o' := 0) t3 h3 (by first | rfl | simp [okB, Blk.own]) rfl ?_
  refine R_load_mp (v := (iV (b.i))) (@rfl V (V.mp 3 1 0 0)) h3 (by first | rfl | simp [ldB, ldV, Blk.own, V.one]) ?_
  refine R_eql (x := (a.i)) (y := (b.i)) (@rfl V (iV (a.i))) (@rfl V (iV (b.i))) ?_
  refine R_mv (@rfl V (V.bool (decide ((a.i) = (b.i))))) ?_
  refine Ops_seg 6 (fun T H => T 16 = (V.bool (decide (((a.i) = (b.i)) ∧ (a.tr = b.tr)))) ∧ H 2 = (⟨1, true, false, 34, 2, [[(iV (a.i)), (V.sl (List.map cT (a.tr)))]]⟩ : Blk) ∧ H 3 = (⟨1, true, false, 34, 2, [[(iV (b.i)), (V.sl (List.map cT (b.tr)))]]⟩ : Blk) ∧ True) ?_ ?_
  ·
   by_cases g1 : (a.i) = (b.i)
   ·
    refine G_yes (Eq.trans (@rfl V (V.bool (decide ((a.i) = (b.i))))) (bdT g1)) ?_
    refine R_fld_mp (o' := 1) t2 h2 (by first | rfl | simp [okB, Blk.own]) rfl ?_
    refine G_yes (Eq.trans (@rfl V (V.bool (decide ((a.i) = (b.i))))) (bdT g1)) ?_
    refine R_load_mp (v := (V.sl (List.map cT (a.tr)))) (@rfl V (V.mp 2 1 0 1)) h2 (by first | rfl | simp [ldB, ldV, Blk.own, V.one]) ?_
    refine G_yes (Eq.trans (@rfl V (V.bool (decide ((a.i) = (b.i))))) (bdT g1)) ?_
    refine R_fld_mp (o' := 1) t3 h3 (by first | rfl | simp [okB, Blk.own]) rfl ?_
    refine G_yes (Eq.trans (@rfl V (V.bool (decide ((a.i) = (b.i))))) (bdT g1)) ?_
    refine R_load_mp (v := (V.sl (List.map cT (b.tr)))) (@rfl V (V.mp 3 1 0 1)) h3 (by first | rfl | simp [ldB, ldV, Blk.own, V.one]) ?_
    refine G_yes (Eq.trans (@rfl V (V.bool (decide ((a.i) = (b.i))))) (bdT g1)) ?_
    refine R_call (evcons (@rfl V (V.sl (List.map cT (a.tr)))) (evcons (@rfl V (V.sl (List.map cT (b.tr)))) (evcons (@rfl V (V.fn 90 [] [])) evnil))) (eqf_pure a.tr b.tr) (fzv_mapcanon _ _ (by simp [-List.map_take, -List.map_drop, -List.map_append, -List.map_reverse])) (by simp [-List.map_take, -List.map_drop, -List.map_append, -List.map_reverse]) (Or.inl (by simp [-List.map_take, -List.map_drop, -List.map_append, -List.map_reverse])) ?_
    refine R_pickT (Eq.trans (@rfl V (V.bool (decide ((a.i) = (b.i))))) (bdT g1)) (@rfl V (V.bool (decide (a.tr = b.tr)))) ?_
    exact ⟨(Eq.trans (@rfl V (V.bool (decide (a.tr = b.tr)))) (dec_andT g1)), h2, h3, trivial⟩
   ·
    refine G_no (Eq.trans (@rfl V (V.bool (decide ((a.i) = (b.i))))) (bdF g1)) (by decide) ?_
    refine G_no (Eq.trans (@rfl V (V.bool (decide ((a.i) = (b.i))))) (bdF g1)) (by decide) ?_
    refine G_no (Eq.trans (@rfl V (V.bool (decide ((a.i) = (b.i))))) (bdF g1)) (by decide) ?_
    refine G_no (Eq.trans (@rfl V (V.bool (decide ((a.i) = (b.i))))) (bdF g1)) (by decide) ?_
    refine G_no (Eq.trans (@rfl V (V.bool (decide ((a.i) = (b.i))))) (bdF g1)) (by decide) ?_
    refine R_pickF (Eq.trans (@rfl V (V.bool (decide ((a.i) = (b.i))))) (bdF g1)) (@rfl V (V.bool false)) ?_
    exact ⟨(Eq.trans (@rfl V (V.bool false)) (dec_andF g1)), h2, h3, trivial⟩
  intro T H ⟨t16, h2, h3, _⟩
  refine R_mv t16 ?_
  exact R_nil ⟨rfl, h2, h3, trivial⟩
 intro T H ⟨t4, h2, h3, _⟩
 refine W_ret ?_
 refine Ret_1 t4 (fz_bool ?_)
 · exact decide_eq_decide.2 Ob.eq_iff.symm
end Go.Proofs.Ytngkckefanbhgaa

namespace Go.Proofs.Ytngkckefanbhgaa
def mgO (a b : Ob) : Ob := if a.i ≠ b.i then a else alO a b.tr
def mgE (a b : Ob) : Int := if a.i ≠ b.i then 15 else (alR a.i a.tr b.tr).2
theorem alR_one (i : Int) (acc : List Tr) (t : Tr) : alR i acc [t] = if prE t i ≠ 0 then ([], prE t i) else if addE acc t ≠ 0 then ([], addE acc t) else (addL acc t, 0) := by
  simp only [alR]
theorem alR_one_go {P : Ob} {l : List Tr} {k : Nat} (hk : k < l.length) (h : ¬(alR P.i P.tr [nth l k]).2 ≠ 0) : alR P.i P.tr (l.drop k) = alR (alO P [nth l k]).i (alO P [nth l k]).tr (l.drop (k + 1)) := by
  have h1 : alO P [nth l k] = ⟨P.i, (alR P.i P.tr [nth l k]).1⟩ := by unfold alO; rw [if_neg h]
  rw [h1, nth_drop hk, alR]
  rw [alR_one] at h ⊢
  split at h
  · rename_i h2; exact (h h2).elim
  · rename_i h2
    rw [if_neg h2, if_neg h2]
    split at h
    · rename_i h3; exact (h h3).elim
    · rename_i h3; rw [if_neg h3, if_neg h3]
theorem alR_one_er {P : Ob} {l : List Tr} {k : Nat} (hk : k < l.length) (h : (alR P.i P.tr [nth l k]).2 ≠ 0) : alR P.i P.tr (l.drop k) = ([], (alR P.i P.tr [nth l k]).2) := by
  rw [nth_drop hk, alR]
  rw [alR_one] at h ⊢
  split at h
  · rename_i h2; rw [if_pos h2, if_pos h2]
  · rename_i h2
    rw [if_neg h2, if_neg h2]
    split at h
    · rename_i h3; rw [if_pos h3, if_pos h3]
    · exact (h rfl).elim
theorem alR_oneE {o : Ob} (ho : OK o) (t : Tr) : (alR o.i o.tr [t]).2 = if prE t o.i ≠ 0 then prE t o.i else if 0 ≤ fi (ndP o.tr t) 0 o.tr.length then 13 else if 10000 < (raL o.tr t).length then 11 else 0 := by
  rw [alR_one]
  split
  · rfl
  rename_i h1
  rw [raL_eq ho]
  unfold addE addL
  have h9 := ho.len
  have h8 := List.length_filter_le (kp t) o.tr
  by_cases h2 : 0 ≤ fi (ndP o.tr t) 0 o.tr.length
  · simp [h2]
  · simp only [if_neg h2]
    by_cases h3 : inL o.tr t
    · simp only [if_pos h3]
      rw [if_neg (by omega), if_neg (by omega)]
    · simp only [if_neg h3, ins_len]
      by_cases h4 : (o.tr.filter (kp t)).length = 10000
      · rw [if_pos h4, if_pos (by omega), if_pos (by omega)]
      · rw [if_neg h4, if_neg (by omega), if_neg (by omega)]
theorem alO_one {o : Ob} (ho : OK o) (t : Tr) : (alO o [t]).tr = if (alR o.i o.tr [t]).2 ≠ 0 then o.tr else raL o.tr t := by
  unfold alO
  split
  · rfl
  rename_i h1
  rw [raL_eq ho]
  rw [alR_one] at h1 ⊢
  split at h1
  · rename_i h2; exact (h1 h2).elim
  rename_i h2
  rw [if_neg h2]
  split at h1
  · rename_i h3; exact (h1 h3).elim
  rename_i h3
  rw [if_neg h3]
def mnyE (ws : List (List Int)) (k : Nat) : Int := if 100 < (nth ws k).length then 1 else 0
def trW (m : M) (w : List Int) : Tr := ⟨w, outs m m.s w⟩
def wcE (m : M) (ws : List (List Int)) (k : Nat) : Int := wchk (nth ws k) m.i
def trsE (m : M) (ws : List (List Int)) : Int := if mval m ≠ 0 then mval m else if 10000 < ws.length then 11 else fe (wcE m ws) 0 ws.length
def trsL (m : M) (ws : List (List Int)) : List Tr := if trsE m ws ≠ 0 then [] else ws.map (trW m)
def ofE (m : M) (ws : List (List Int)) : Int := if trsE m ws ≠ 0 then trsE m ws else (alR m.i [] (trsL m ws)).2
def ofO (m : M) (ws : List (List Int)) : Ob := if ofE m ws ≠ 0 then ⟨0, []⟩ else alO ⟨m.i, []⟩ (trsL m ws)
theorem trs_ok {m : M} {ws : List (List Int)} (h : ¬trsE m ws ≠ 0) : mval m = 0 ∧ OK ⟨m.i, []⟩ := by
  have h1 : mval m = 0 := by
    unfold trsE at h
    split at h
    · rename_i g; exact (h g).elim
    · omega
  exact ⟨h1, ⟨⟨(mval_ok h1).1, (mval_ok h1).2.1⟩, by simp, fun k hk => by simp at hk, fun k hk => by simp at hk, fun i k _ hk => by simp at hk, fun i k _ hk => by simp at hk⟩⟩
end Go.Proofs.Ytngkckefanbhgaa

namespace Go.Proofs.Ytngkckefanbhgaa
theorem oval_of {o : Ob} (h : OK o) : oval o = 0 := by
  have hi := h.hi
  have hl := h.len
  have h1 : fe (trE o) 0 o.tr.length = 0 := fe_zero_iff.2 fun j _ hj => by
    have hj' : j < o.tr.length := by omega
    obtain ⟨p1, p2⟩ := h.pr j hj'
    have hw : wchk (nth o.tr j).ni o.i = 0 := wchk_zero ⟨hi.1, by omega⟩ p1.lel p1.sym
    have hp : prE (nth o.tr j) o.i = 0 := by
      rw [prE, if_neg (by omega), if_neg (by have := p1.len; omega)]
      exact fe_zero_iff.2 fun k _ hk => by
        have := p1.out k (by omega)
        rw [outE, if_neg (by omega)]
    rw [trE, if_neg (by omega), if_neg (by omega), if_neg (by omega), if_neg]
    intro q
    have := h.ord (j - 1) (by omega)
    rw [show j - 1 + 1 = j by omega] at this
    omega
  rw [oval, if_neg (by omega), if_neg (by omega), if_neg (by omega)]
  refine fe_zero_iff.2 fun j _ hj => ?_
  have hj' : j < o.tr.length := by omega
  rw [apE, if_neg, if_neg]
  · intro q
    obtain ⟨k, hk, e⟩ := exB_iff.1 q
    have := h.cla j (j + 1 + k) (by omega) (by omega)
    simp only [claB, decide_eq_true_eq] at e
    omega
  · intro q
    obtain ⟨k, hk, e⟩ := exB_iff.1 q
    have := h.pre j (j + 1 + k) (by omega) (by omega)
    simp only [preB] at e
    rw [this] at e; cases e
theorem srt_ext : ∀ {l m : List Tr}, Srt l → Srt m → (∀ u, u ∈ l ↔ u ∈ m) → l = m
  | [], [], _, _, _ => rfl
  | [], b :: m, _, _, h => by have := (h b).2 (by simp); simp at this
  | a :: l, [], _, _, h => by have := (h a).1 (by simp); simp at this
  | a :: l, b :: m, hl, hm, h => by
    obtain ⟨l1, l2⟩ := List.pairwise_cons.1 hl
    obtain ⟨m1, m2⟩ := List.pairwise_cons.1 hm
    have irr : ∀ x : Tr, ¬slx x.ni x.ni < 0 := fun x q => by rw [slx_zero.2 rfl] at q; omega
    have e : a = b := by
      rcases List.mem_cons.1 ((h a).1 (by simp)) with e | e
      · exact e
      · rcases List.mem_cons.1 ((h b).2 (by simp)) with g | g
        · exact g.symm
        · exact (irr a (slx_trans (l1 b g) (m1 a e))).elim
    subst e
    rw [srt_ext l2 m2 fun u => ?_]
    constructor
    · intro hu
      rcases List.mem_cons.1 ((h u).1 (List.mem_cons_of_mem _ hu)) with e | e
      · subst e; exact (irr _ (l1 _ hu)).elim
      · exact e
    · intro hu
      rcases List.mem_cons.1 ((h u).2 (List.mem_cons_of_mem _ hu)) with e | e
      · subst e; exact (irr _ (m1 _ hu)).elim
      · exact e
theorem OK.anti {o : Ob} (h : OK o) {u v : Tr} (hu : u ∈ o.tr) (hv : v ∈ o.tr) (e : hp v.ni u.ni = true) : v = u := by
  obtain ⟨a, ha, rfl⟩ := mem_nth hu
  obtain ⟨b, hb, rfl⟩ := mem_nth hv
  rcases Nat.lt_trichotomy a b with q | q | q
  · rw [h.pre a b q hb] at e; cases e
  · rw [q]
  · have h1 := OK.lt_of h.ord q ha
    have h2 := hp_len e
    unfold slx at h1
    split at h1
    · omega
    · split at h1
      · omega
      · rw [hp_eq e (by omega), lexI_zero.2 rfl] at h1; omega
theorem df_neg {a b : Tr} : df a b < 0 ↔ ∀ j, j < cmn a.ni b.ni → nth a.no j = nth b.no j := by
  constructor
  · intro h j hj
    by_cases e : nth a.no j = nth b.no j
    · exact e
    · have := df_iff.2 ⟨j, hj, e⟩; omega
  · intro h
    by_cases e : df a b < 0
    · exact e
    · obtain ⟨j, hj, q⟩ := df_iff.1 (show 0 ≤ df a b by omega)
      exact (q (h j hj)).elim
theorem df_self (a : Tr) : df a a < 0 := df_neg.2 fun _ _ => rfl
theorem tr_same {a b : Tr} (h1 : a.no.length = a.ni.length) (h2 : b.no.length = b.ni.length) (e : a.ni = b.ni) (h : df a b < 0) : a = b := by
  rw [Tr.eq_iff]
  refine ⟨e, nth_ext (by rw [h1, h2, e]) fun j hj => df_neg.1 h j ?_⟩
  rw [e, cmn_self]; rw [h1, e] at hj; exact hj
theorem addE_ok {l : List Tr} {t : Tr} (h : addE l t = 0) : ∀ u ∈ l, df u t < 0 := fun u hu => by
  unfold addE at h
  split at h
  · cases h
  · rename_i g; exact not_ndet g hu
theorem OK.cl {o : Ob} (h : OK o) {u v : Tr} (hu : u ∈ o.tr) (hv : v ∈ o.tr) : df u v < 0 := df_neg.2 fun _ hj => h.same hu hv hj
def Mx (p : Tr → Prop) (u : Tr) : Prop := p u ∧ 0 < u.ni.length ∧ ∀ v, p v → hp v.ni u.ni = true → v.ni = u.ni
theorem hp_antisym {a b : List Int} (h1 : hp a b = true) (h2 : hp b a = true) : a = b := hp_eq h1 (hp_len h2)
theorem inL_cov {l : List Tr} {s : Tr} (h : inL l s) (hs : 0 < s.ni.length) : ∃ w ∈ l, hp w.ni s.ni = true := by
  rcases h with h | h
  · obtain ⟨j, hj, e⟩ := exB_iff.1 h
    rw [Nat.zero_add] at e
    exact ⟨nth l j, nth_mem hj, e⟩
  · omega
theorem mem_ins {l : List Tr} {t u : Tr} : u ∈ ins l t ↔ u ∈ l ∨ u = t := by
  simp only [ins, List.mem_append, List.mem_cons, List.mem_filter]
  constructor
  · rintro (h | h | h)
    · exact .inl h.1
    · exact .inr h
    · exact .inl h.1
  · rintro (h | h)
    · cases e : lbP t u
      · exact .inr (.inr ⟨h, by simp⟩)
      · exact .inl ⟨h, rfl⟩
    · exact .inr (.inl h)
theorem mem_add {i : Int} {l : List Tr} {s : Tr} (ho : OK ⟨i, l⟩) (hs : prE s i = 0) (he : addE l s = 0) (u : Tr) : u ∈ addL l s ↔ Mx (fun v => v ∈ l ∨ v = s) u := by
  have ps := prE_ok hs
  have hcl := addE_ok he
  unfold addL
  by_cases h : inL l s
  · rw [if_pos h]
    constructor
    · intro hu
      have hu0 := (ho.mem hu).2
      refine ⟨.inl hu, hu0, fun v hv e => ?_⟩
      rcases hv with hv | rfl
      · rw [ho.anti hu hv e]
      · have h1 := hp_len e
        obtain ⟨w, hw, hws⟩ := inL_cov h (by omega)
        have := ho.anti hu hw (hp_trans hws e)
        subst this
        exact hp_antisym e hws
    · rintro ⟨h1 | rfl, h2, h3⟩
      · exact h1
      · obtain ⟨w, hw, hws⟩ := inL_cov h h2
        have e := h3 w (.inl hw) hws
        rwa [← tr_same (ho.mem hw).1.len ps.len e (hcl w hw)]
  · rw [if_neg h]
    rw [mem_ins, List.mem_filter]
    constructor
    · rintro (⟨h1, h2⟩ | rfl)
      · refine ⟨.inl h1, (ho.mem h1).2, fun v hv e => ?_⟩
        rcases hv with hv | rfl
        · rw [ho.anti h1 hv e]
        · simp [kp, e] at h2
      · refine ⟨.inr rfl, by have : ¬u.ni.length = 0 := fun q => h (.inr q); omega, fun v hv e => ?_⟩
        rcases hv with hv | rfl
        · rw [not_inL h hv] at e; cases e
        · rfl
    · rintro ⟨h1 | rfl, h2, h3⟩
      · by_cases hh : u = s
        · exact .inr hh
        refine .inl ⟨h1, ?_⟩
        unfold kp
        cases e : hp s.ni u.ni with
        | false => rfl
        | true =>
          have := h3 s (.inr rfl) e
          have q := not_inL h h1
          rw [← this, hp_self] at q; cases q
      · exact .inr rfl
theorem add_cov {i : Int} {l : List Tr} {s : Tr} (ho : OK ⟨i, l⟩) {v : Tr} (hv : v ∈ l ∨ v = s) (h0 : 0 < v.ni.length) : ∃ w ∈ addL l s, hp w.ni v.ni = true := by
  unfold addL
  by_cases h : inL l s
  · rw [if_pos h]
    rcases hv with hv | rfl
    · exact ⟨v, hv, hp_self _⟩
    · exact inL_cov h h0
  · rw [if_neg h]
    rcases hv with hv | rfl
    · cases e : hp s.ni v.ni with
      | true => exact ⟨s, mem_ins.2 (.inr rfl), e⟩
      | false => exact ⟨v, mem_ins.2 (.inl (List.mem_filter.2 ⟨hv, by simp [kp, e]⟩)), hp_self _⟩
    · exact ⟨v, mem_ins.2 (.inr rfl), hp_self _⟩
theorem mem_add2 {i : Int} {l : List Tr} {s t : Tr} (ho : OK ⟨i, l⟩) (hs : prE s i = 0) (he : addE l s = 0) (ht : prE t i = 0) (hf : addE (addL l s) t = 0) (u : Tr) :
    u ∈ addL (addL l s) t ↔ Mx (fun v => v ∈ l ∨ v = s ∨ v = t) u := by
  have o1 := add_ok ho hs he
  rw [mem_add o1 ht hf]
  constructor
  · rintro ⟨h1, h2, h3⟩
    refine ⟨?_, h2, fun v hv e => ?_⟩
    · rcases h1 with h1 | h1
      · rcases ((mem_add ho hs he u).1 h1).1 with q | q
        · exact .inl q
        · exact .inr (.inl q)
      · exact .inr (.inr h1)
    · have hv0 : 0 < v.ni.length := by have := hp_len e; omega
      have key : (v ∈ l ∨ v = s) → v.ni = u.ni := fun hv => by
        obtain ⟨w, hw, hwv⟩ := add_cov ho hv hv0
        have q := h3 w (.inl hw) (hp_trans hwv e)
        rw [← q] at e
        rw [← q]; exact hp_antisym e hwv
      rcases hv with hv | hv | rfl
      · exact key (.inl hv)
      · exact key (.inr hv)
      · exact h3 v (.inr rfl) e
  · rintro ⟨h1, h2, h3⟩
    refine ⟨?_, h2, fun v hv e => ?_⟩
    · rcases h1 with h1 | h1 | h1
      · exact .inl ((mem_add ho hs he u).2 ⟨.inl h1, h2, fun v hv e => h3 v (by rcases hv with hv | hv; exact .inl hv; exact .inr (.inl hv)) e⟩)
      · exact .inl ((mem_add ho hs he u).2 ⟨.inr h1, h2, fun v hv e => h3 v (by rcases hv with hv | hv; exact .inl hv; exact .inr (.inl hv)) e⟩)
      · exact .inr h1
    · rcases hv with hv | rfl
      · rcases ((mem_add ho hs he v).1 hv).1 with q | q
        · exact h3 v (.inl q) e
        · exact h3 v (.inr (.inl q)) e
      · exact h3 v (.inr (.inr rfl)) e
theorem add_comm2 {i : Int} {l : List Tr} {s t : Tr} (ho : OK ⟨i, l⟩) (hs : prE s i = 0) (ht : prE t i = 0) (he : addE l s = 0) (hf : addE (addL l s) t = 0) (hg : addE l t = 0) (hh : addE (addL l t) s = 0) :
    addL (addL l s) t = addL (addL l t) s := by
  refine srt_ext (add_ok (add_ok ho hs he) ht hf).srt (add_ok (add_ok ho ht hg) hs hh).srt fun u => ?_
  rw [mem_add2 ho hs he ht hf, mem_add2 ho ht hg hs hh]
  unfold Mx
  have : ∀ v, (v ∈ l ∨ v = s ∨ v = t) ↔ (v ∈ l ∨ v = t ∨ v = s) := fun v => by
    constructor <;> rintro (h | h | h)
    · exact .inl h
    · exact .inr (.inr h)
    · exact .inr (.inl h)
    · exact .inl h
    · exact .inr (.inr h)
    · exact .inr (.inl h)
  simp only [this]
theorem ans_cov {o : Ob} {s : Tr} (hc : 0 < s.ni.length → ∃ w ∈ o.tr, hp w.ni s.ni = true) (hd : ∀ u ∈ o.tr, df u s < 0) (hl : ∀ u ∈ o.tr, u.no.length = u.ni.length) (hs : s.no.length = s.ni.length) : ans o s.ni = some s.no := by
  unfold ans
  split
  · rename_i h; rw [h] at hs; rw [List.length_eq_zero_iff.1 hs]
  · rename_i h
    have h0 : 0 < s.ni.length := List.length_pos_iff.2 h
    obtain ⟨w, hw, e⟩ := hc h0
    cases ha : ansL o.tr s.ni with
    | none => rw [ansL_none ha w hw] at e; cases e
    | some x =>
      obtain ⟨u, hu, h1, rfl⟩ := ansL_some ha
      have hul := hl u hu
      have hle := hp_len h1
      congr 1
      refine nth_ext (by rw [List.length_take]; omega) fun j hj => ?_
      rw [List.length_take] at hj
      rw [nth_take (by omega)]
      have : cmn u.ni s.ni = s.ni.length := by simpa [hp] using h1
      exact df_neg.1 (hd u hu) j (by omega)
theorem addL_in {l : List Tr} {t : Tr} (h : inL l t) : addL l t = l := if_pos h
theorem order_all {o : Ob} {s t : Tr} (ho : OK o) (e1 : (alR o.i o.tr [s]).2 = 0) (e2 : (alR (alO o [s]).i (alO o [s]).tr [t]).2 = 0) (e3 : (alR o.i o.tr [t]).2 = 0) (e4 : (alR (alO o [t]).i (alO o [t]).tr [s]).2 = 0) :
    alO (alO o [s]) [t] = alO (alO o [t]) [s] ∧ alO (alO (alO o [s]) [t]) [s] = alO (alO o [s]) [t] ∧ (alR (alO (alO o [s]) [t]).i (alO (alO o [s]) [t]).tr [s]).2 = 0 ∧
    ans (alO (alO o [s]) [t]) s.ni = some s.no ∧ ans (alO (alO o [s]) [t]) t.ni = some t.no ∧ ∀ u ∈ o.tr, ans (alO (alO o [s]) [t]) u.ni = some u.no := by
  have one : ∀ {q : Ob} {x : Tr}, (alR q.i q.tr [x]).2 = 0 → prE x q.i = 0 ∧ addE q.tr x = 0 ∧ alO q [x] = ⟨q.i, addL q.tr x⟩ := by
    intro q x h
    have h' := h
    rw [alR_one] at h
    split at h
    · rename_i g; simp only at h; exact (g h).elim
    rename_i g1
    split at h
    · rename_i g; simp only at h; exact (g h).elim
    rename_i g2
    refine ⟨by omega, by omega, ?_⟩
    unfold alO
    rw [if_neg (by omega), alR_one, if_neg g1, if_neg g2]
  obtain ⟨hs, he, a1⟩ := one e1
  rw [a1] at e2 ⊢
  obtain ⟨ht, hf, a2⟩ := one e2
  obtain ⟨_, hg, b1⟩ := one e3
  rw [b1] at e4
  obtain ⟨_, hh, b2⟩ := one e4
  rw [b1, a2, b2]
  have ho' : OK ⟨o.i, o.tr⟩ := ho
  have o1 := add_ok ho' hs he
  have o2 := add_ok o1 ht hf
  have q1 := add_ok ho' ht hg
  have hcomm := add_comm2 ho' hs ht he hf hg hh
  -- no trace of the result contradicts one that was given
  have mem : ∀ u ∈ addL (addL o.tr s) t, u ∈ o.tr ∨ u = s ∨ u = t := fun u hu => ((mem_add2 ho' hs he ht hf u).1 hu).1
  have cs : ∀ u ∈ addL (addL o.tr s) t, df u s < 0 := fun u hu => by
    rw [hcomm] at hu
    rcases ((mem_add q1 hs hh u).1 hu).1 with g | rfl
    · exact addE_ok hh u g
    · exact df_self _
  have ct : ∀ u ∈ addL (addL o.tr s) t, df u t < 0 := fun u hu => by
    rcases ((mem_add o1 ht hf u).1 hu).1 with g | rfl
    · exact addE_ok hf u g
    · exact df_self _
  have co : ∀ v ∈ o.tr, ∀ u ∈ addL (addL o.tr s) t, df u v < 0 := fun v hv u hu => by
    rcases mem u hu with g | rfl | rfl
    · exact ho.cl g hv
    · rw [df_comm]; exact addE_ok he v hv
    · rw [df_comm]; exact addE_ok hg v hv
  have cov : ∀ v, v ∈ o.tr ∨ v = s ∨ v = t → 0 < v.ni.length → ∃ w ∈ addL (addL o.tr s) t, hp w.ni v.ni = true := fun v hv h0 => by
    have two : (v ∈ o.tr ∨ v = s) → ∃ w ∈ addL (addL o.tr s) t, hp w.ni v.ni = true := fun hv => by
      obtain ⟨w, hw, e⟩ := add_cov ho' hv h0
      obtain ⟨x, hx, e'⟩ := add_cov o1 (s := t) (.inl hw) (by have := hp_len e; omega)
      exact ⟨x, hx, hp_trans e' e⟩
    rcases hv with hv | hv | rfl
    · exact two (.inl hv)
    · exact two (.inr hv)
    · exact add_cov o1 (.inr rfl) h0
  have hin : inL (addL (addL o.tr s) t) s := by
    by_cases h0 : s.ni.length = 0
    · exact .inr h0
    · obtain ⟨w, hw, e⟩ := cov s (.inr (.inl rfl)) (by omega)
      obtain ⟨j, hj, rfl⟩ := mem_nth hw
      exact .inl (exB_iff.2 ⟨j, hj, by rw [Nat.zero_add]; exact e⟩)
  have hadd0 : addE (addL (addL o.tr s) t) s = 0 := by
    unfold addE
    rw [if_neg, if_pos hin]
    intro q
    obtain ⟨j, _, hj, e⟩ := fi_iff.1 q
    have := cs _ (nth_mem (show j < _ by omega))
    simp only [ndP, decide_eq_true_eq] at e
    omega
  have haddL : addL (addL (addL o.tr s) t) s = addL (addL o.tr s) t := addL_in hin
  have hr : alR o.i (addL (addL o.tr s) t) [s] = (addL (addL o.tr s) t, 0) := by
    rw [alR_one, if_neg (by omega), if_neg (by omega), haddL]
  have lens : ∀ u ∈ addL (addL o.tr s) t, u.no.length = u.ni.length := fun u hu => (o2.mem hu).1.len
  refine ⟨by rw [hcomm], ?_, by simp only; rw [hr], ?_, ?_, fun u hu => ?_⟩
  · unfold alO; simp only; rw [hr]; rfl
  · exact ans_cov (cov s (.inr (.inl rfl))) cs lens (prE_ok hs).len
  · exact ans_cov (cov t (.inr (.inr rfl))) ct lens (prE_ok ht).len
  · exact ans_cov (cov u (.inl hu)) (co u hu) lens (ho.mem hu).1.len
theorem alR_mem {i : Int} : ∀ {l acc : List Tr}, OK ⟨i, acc⟩ → (alR i acc l).2 = 0 → (∀ u ∈ (alR i acc l).1, u ∈ acc ∨ u ∈ l) ∧ (∀ v, v ∈ acc ∨ v ∈ l → 0 < v.ni.length → ∃ w ∈ (alR i acc l).1, hp w.ni v.ni = true)
  | [], acc, _, _ => ⟨fun u hu => .inl hu, fun v hv _ => by rcases hv with hv | hv; exact ⟨v, hv, hp_self _⟩; cases hv⟩
  | t :: l, acc, h, he => by
    rw [alR] at he ⊢
    split at he
    · contradiction
    rename_i h1
    split at he
    · contradiction
    rename_i h2
    rw [if_neg h1, if_neg h2]
    have o1 := add_ok h (show prE t i = 0 by omega) (by omega)
    obtain ⟨g1, g2⟩ := alR_mem o1 he
    refine ⟨fun u hu => ?_, fun v hv h0 => ?_⟩
    · rcases g1 u hu with q | q
      · rcases ((mem_add h (by omega) (by omega) u).1 q).1 with z | z
        · exact .inl z
        · exact .inr (by simp [z])
      · exact .inr (List.mem_cons_of_mem _ q)
    · have two : (v ∈ acc ∨ v = t) → ∃ w ∈ (alR i (addL acc t) l).1, hp w.ni v.ni = true := fun hv => by
        obtain ⟨w, hw, e⟩ := add_cov h hv h0
        obtain ⟨x, hx, e'⟩ := g2 w (.inl hw) (by have := hp_len e; omega)
        exact ⟨x, hx, hp_trans e' e⟩
      rcases hv with hv | hv
      · exact two (.inl hv)
      · rcases List.mem_cons.1 hv with hv | hv
        · exact two (.inr hv)
        · exact g2 v (.inr hv) h0
theorem of_all {m : M} {ws : List (List Int)} (h : ofE m ws = 0) : mval m = 0 ∧ OK (ofO m ws) ∧ (∀ u ∈ (ofO m ws).tr, u.no = outs m m.s u.ni ∧ wchk u.ni m.i = 0) ∧ (∀ w ∈ ws, wchk w m.i = 0 ∧ (0 < w.length → ∃ u ∈ (ofO m ws).tr, hp u.ni w = true)) := by
  have h' := h
  unfold ofE at h
  split at h
  · rename_i g; exact (g h).elim
  rename_i g
  obtain ⟨hm, h0⟩ := trs_ok g
  have eo : ofO m ws = ⟨m.i, (alR m.i [] (trsL m ws)).1⟩ := by
    unfold ofO alO; rw [if_neg (by omega), if_neg (by simp only; omega)]
  have hok := alR_ok h0 h
  obtain ⟨k1, k2⟩ := alR_mem h0 h
  have eL : trsL m ws = ws.map (trW m) := by rw [trsL, if_neg g]
  have hwc : ∀ w ∈ ws, wchk w m.i = 0 := fun w hw => by
    unfold trsE at g
    rw [if_neg (by omega)] at g
    split at g
    · exact (g (by decide)).elim
    obtain ⟨j, hj, rfl⟩ := mem_nth hw
    exact fe_zero_iff.1 (show fe (wcE m ws) 0 ws.length = 0 by omega) j (Nat.zero_le _) (by omega)
  rw [eo]
  refine ⟨hm, hok, fun u hu => ?_, fun w hw => ⟨hwc w hw, fun hl => ?_⟩⟩
  · rcases k1 u hu with q | q
    · cases q
    · rw [eL] at q
      obtain ⟨w, hw, rfl⟩ := List.mem_map.1 q
      exact ⟨rfl, hwc w hw⟩
  · exact k2 (trW m w) (.inr (by rw [eL]; exact List.mem_map_of_mem hw)) hl
theorem wchk_pre {w p : List Int} {n : Int} (h : wchk w n = 0) (e : hp w p = true) : wchk p n = 0 := by
  have h1 := wchk_ok h
  obtain ⟨x, rfl⟩ := hp_iff.1 e
  have hn : ¬(n < 1 ∨ 1024 < n) := fun q => by rw [wchk, if_pos q] at h; cases h
  refine wchk_zero (by omega) (by have := h1.1; simp at this; omega) fun k hk => ?_
  have := h1.2 k (by simp; omega)
  rwa [nth_app_l hk] at this
theorem exact_ans {m : M} {ws : List (List Int)} (h : ofE m ws = 0) {w x : List Int} (hx : ans (ofO m ws) w = some x) : frE m m.s w = 0 ∧ frOut m m.s w = x := by
  obtain ⟨hm, hok, h1, _⟩ := of_all h
  have key : wchk w m.i = 0 ∧ outs m m.s w = x := by
    unfold ans at hx
    split at hx
    · rename_i e; subst e; cases hx
      have := mval_ok hm
      exact ⟨wchk_zero ⟨this.1, by omega⟩ (by simp) (fun k hk => by simp at hk), rfl⟩
    · obtain ⟨u, hu, e, rfl⟩ := ansL_some hx
      obtain ⟨g1, g2⟩ := h1 u hu
      refine ⟨wchk_pre g2 e, ?_⟩
      rw [g1, ← outs_take]
      obtain ⟨y, hy⟩ := hp_iff.1 e
      rw [hy, List.take_left]
  have := frE_ok hm key.1
  have e2 := frE_val (w := w) hm
  exact ⟨by omega, by rw [this.2.1, key.2]⟩
theorem exact_cov {m : M} {ws : List (List Int)} (h : ofE m ws = 0) {w : List Int} (hw : w ∈ ws) : ∃ x, ans (ofO m ws) w = some x := by
  obtain ⟨_, _, _, h2⟩ := of_all h
  unfold ans
  split
  · exact ⟨_, rfl⟩
  · rename_i e
    obtain ⟨u, hu, g⟩ := (h2 w hw).2 (List.length_pos_iff.2 e)
    cases ha : ansL (ofO m ws).tr w with
    | none => rw [ansL_none ha u hu] at g; cases g
    | some x => exact ⟨x, rfl⟩
end Go.Proofs.Ytngkckefanbhgaa

