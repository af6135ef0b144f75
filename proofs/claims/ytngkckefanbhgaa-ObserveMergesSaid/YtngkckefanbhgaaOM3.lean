/- Contracts of the functions that the law OM reaches, and the law itself, for every input; no condition. -/
import Derived.KernelRfl
import Derived.Test.YtngkckefanbhgaaProg
import Derived.Test.YtngkckefanbhgaaOM2
set_option linter.unusedSimpArgs false
set_option linter.unusedVariables false
namespace Go.Proofs.Ytngkckefanbhgaa
open Go Go.Proofs

theorem del_E (l : List Tr) (t : Tr) (v9 v3 v7 : Nat) (Hi : Heap) (h209 : Hi 209 = (⟨v9, true, false, 63, 2, (List.map cT (l))⟩ : Blk)) (h303 : Hi 303 = (⟨v3, true, false, 63, 2, [[(V.sl (List.map cI (t.ni))), (V.sl (List.map cI (t.no)))]]⟩ : Blk)) (h407 : (Hi 407).ver = v7) (hl : l.length ≤ 1000000) : CallOK Try.prog 116 [(V.ms 209 v9 0 (l.length)), (V.fn 117 [] [(V.mp 303 v3 0 0)])] Hi (V.ms 209 v9 0 (((l.filter (kp t)).length))) (upd (upd Hi 407 (⟨v7 + l.length, false, false, 0, 0, []⟩ : Blk)) 209 (⟨v9, true, false, 63, 2, (List.map cT (l.filter (kp t)) ++ List.replicate (l.length - (l.filter (kp t)).length) [V.nilsl, V.nilsl])⟩ : Blk)) := by
 refine CallOK_of_Wf (k0 := 400) Try.func116 s116_ok (by kernel_rfl) (by simp [s116]) fun hB => ?_
 simp only [bnd_map, bnd_int, bnd_bool, bnd_str, bnd_agg, bnd_pp, bnd_nil, bnd_cons, implies_true, and_true, true_and] at hB
 unfold s116
 dsimp only
 refine W_seq_regc (fun T H => T 0 = (V.ms 209 v9 0 (l.length)) ∧ T 1 = (V.fn 117 [] [(V.mp 303 v3 0 0)]) ∧ (∀ j, j ∉ [407, 209] → H j = Hi j) ∧ H 209 = (⟨v9, true, false, 63, 2, (List.map cT (l))⟩ : Blk) ∧ H 303 = (⟨v3, true, false, 63, 2, [[(V.sl (List.map cI (t.ni))), (V.sl (List.map cI (t.no)))]]⟩ : Blk) ∧ (H 407).ver = v7 ∧ True) ?_ ?_
 ·
  unfold r116_0
  refine R_mv (@rfl V V.nilsl) ?_
  exact R_nil ⟨rfl, rfl, (fun _ _ => rfl), h209, h303, h407, trivial⟩
 intro T H ⟨t0, t1, hF, h209, h303, h407, _⟩
 refine W_seq_regc (fun T H => T 0 = (V.ms 209 v9 0 (l.length)) ∧ T 1 = (V.fn 117 [] [(V.mp 303 v3 0 0)]) ∧ T 5 = (iV (fi (fun j => (fun u : Tr => hp t.ni u.ni) (nth l j)) 0 l.length)) ∧ (∀ j, j ∉ [407, 209] → H j = Hi j) ∧ H 209 = (⟨v9, true, false, 63, 2, (List.map cT (l))⟩ : Blk) ∧ H 303 = (⟨v3, true, false, 63, 2, [[(V.sl (List.map cI (t.ni))), (V.sl (List.map cI (t.no)))]]⟩ : Blk) ∧ (H 407).ver = v7 ∧ True) ?_ ?_
 ·
  unfold r116_1
  refine R_mv t0 ?_
  refine R_mv t1 ?_
  refine R_call (evcons (@rfl V (V.ms 209 v9 0 (l.length))) (evcons (@rfl V (V.fn 117 [] [(V.mp 303 v3 0 0)])) evnil)) (idxt_pure (fun u : Tr => hp t.ni u.ni) l 117 ([(V.pp [(V.sl (List.map cI (t.ni))), (V.sl (List.map cI (t.no)))])]) (by simp) (by simp) (fun j _ => add1_pure (nth l j) t)) (mcons (fz_mst h209 (by first | rfl | simp) (take_map (l := l) (by first | rfl | simp | omega)) (fun _ => by simp)) (mcons (by simp [fzv, Blk.own, h209, h303]) rfl)) (by simp [-List.map_take, -List.map_drop, -List.map_append, -List.map_reverse]) (Or.inr rfl) ?_
  refine R_mv (@rfl V (iV (fi (fun j => (fun u : Tr => hp t.ni u.ni) (nth l j)) 0 l.length))) ?_
  exact R_nil ⟨t0, t1, rfl, hF, h209, h303, h407, trivial⟩
 intro T H ⟨t0, t1, t5, hF, h209, h303, h407, _⟩
 refine W_seq_seq ?_
 refine W_seq_regc (fun T H => T 0 = (V.ms 209 v9 0 (l.length)) ∧ T 1 = (V.fn 117 [] [(V.mp 303 v3 0 0)]) ∧ T 5 = (iV (fi (fun j => (fun u : Tr => hp t.ni u.ni) (nth l j)) 0 l.length)) ∧ T 12 = (V.bool (decide ((fi (fun j => (fun u : Tr => hp t.ni u.ni) (nth l j)) 0 l.length) = (-1 : Int)))) ∧ (∀ j, j ∉ [407, 209] → H j = Hi j) ∧ H 209 = (⟨v9, true, false, 63, 2, (List.map cT (l))⟩ : Blk) ∧ H 303 = (⟨v3, true, false, 63, 2, [[(V.sl (List.map cI (t.ni))), (V.sl (List.map cI (t.no)))]]⟩ : Blk) ∧ (H 407).ver = v7 ∧ True) ?_ ?_
 ·
  unfold r116_2
  refine R_mv t5 ?_
  refine R_eql (x := (fi (fun j => (fun u : Tr => hp t.ni u.ni) (nth l j)) 0 l.length)) (y := (-1 : Int)) (@rfl V (iV (fi (fun j => (fun u : Tr => hp t.ni u.ni) (nth l j)) 0 l.length))) (@rfl V (iV (-1 : Int))) ?_
  exact R_nil ⟨t0, t1, t5, rfl, hF, h209, h303, h407, trivial⟩
 intro T H ⟨t0, t1, t5, t12, hF, h209, h303, h407, _⟩
 refine W_seq_if (p := (fi (fun j => (fun u : Tr => hp t.ni u.ni) (nth l j)) 0 l.length) = (-1 : Int)) t12 (fun c1 => ?_) (fun c1 => ?_)
 ·
  have d0 : fi (fun j => (fun u : Tr => hp t.ni u.ni) (nth l j)) 0 l.length < 0 := by omega
  refine W_seq_seq ?_
  refine W_seq_regc (fun T H => T 4 = (V.ms 209 v9 0 (l.length)) ∧ (∀ j, j ∉ [407, 209] → H j = Hi j) ∧ H 209 = (⟨v9, true, false, 63, 2, (List.map cT (l))⟩ : Blk) ∧ H 303 = (⟨v3, true, false, 63, 2, [[(V.sl (List.map cI (t.ni))), (V.sl (List.map cI (t.no)))]]⟩ : Blk) ∧ (H 407).ver = v7 ∧ True) ?_ ?_
  ·
   unfold r116_3
   refine R_mv t0 ?_
   refine R_mv (@rfl V (V.ms 209 v9 0 (l.length))) ?_
   exact R_nil ⟨rfl, hF, h209, h303, h407, trivial⟩
  intro T H ⟨t4, hF, h209, h303, h407, _⟩
  refine W_seq_ret ?_
  have fh := FinX.fin (FinX.put (B := (⟨v9, true, false, 63, 2, (List.map cT (l.filter (kp t)) ++ List.replicate (l.length - (l.filter (kp t)).length) [V.nilsl, V.nilsl])⟩ : Blk)) (FinX.putv (n := v7) (B := (⟨v7 + l.length, false, false, 0, 0, []⟩ : Blk)) (FinX.start hF) h407 (by show _ ≤ v7 + l.length; omega) rfl) h209 (FinB.eq (by first | rfl | (rw [d4]; done) | (rw [Nat.zero_add, dlL_nth, dlL_keep (by omega) d5]; done) | (rw [dlL_skip (by omega) d5]; done) | (rw [dl_none d0]; simp; done) | (have e : k = l.length := (by omega); subst e; unfold dlL dlF; rw [List.take_length, List.take_left]; done))))
  exact RetF_1 t4 fh (FinV.trans_eq (FinV.same fh _) (by first | rfl | (rw [d3]; exact congrArg (V.int .i64) (by first | rfl | omega)) | (exact congrArg (V.int .i64) (by omega)) | (rw [dlF_keep (by omega) d5, List.length_append]; rfl) | (rw [dlF_skip (by omega) d5]; done) | (rw [dl_none d0]; done) | (have e : k = l.length := (by omega); subst e; unfold dlF; rw [List.take_length]; done)))
 obtain ⟨i0, d1, d2, d3, d4⟩ := dl_start (t := t) (l := l) (by have := fi_bnd (p := fun j => (fun u : Tr => hp t.ni u.ni) (nth l j)) l.length 0; omega)
 refine W_seq_skip ?_
 refine W_seq_seq ?_
 refine W_seq_regc (fun T H => T 0 = (V.ms 209 v9 0 (l.length)) ∧ T 1 = (V.fn 117 [] [(V.mp 303 v3 0 0)]) ∧ T 5 = (iV (fi (fun j => (fun u : Tr => hp t.ni u.ni) (nth l j)) 0 l.length)) ∧ T 6 = (iV ((fi (fun j => (fun u : Tr => hp t.ni u.ni) (nth l j)) 0 l.length) + (1 : Int))) ∧ (∀ j, j ∉ [407, 209] → H j = Hi j) ∧ H 209 = (⟨v9, true, false, 63, 2, (List.map cT (l))⟩ : Blk) ∧ H 303 = (⟨v3, true, false, 63, 2, [[(V.sl (List.map cI (t.ni))), (V.sl (List.map cI (t.no)))]]⟩ : Blk) ∧ (H 407).ver = v7 ∧ True) ?_ ?_
 ·
  unfold r116_4
  refine R_mv t5 ?_
  refine R_add (x := (fi (fun j => (fun u : Tr => hp t.ni u.ni) (nth l j)) 0 l.length)) (y := (1 : Int)) (@rfl V (iV (fi (fun j => (fun u : Tr => hp t.ni u.ni) (nth l j)) 0 l.length))) (@rfl V (iV (1 : Int))) (by omega) (by omega) ?_
  refine R_mv (@rfl V (iV ((fi (fun j => (fun u : Tr => hp t.ni u.ni) (nth l j)) 0 l.length) + (1 : Int)))) ?_
  exact R_nil ⟨t0, t1, t5, rfl, hF, h209, h303, h407, trivial⟩
 intro T H ⟨t0, t1, t5, t6, hF, h209, h303, h407, _⟩
 refine W_seq_blockg fun Q2 n2 x2 y2 z2 => ?_
 refine W_loop (fun mm T H => ∃ (k : Nat) (v407 : Nat), mm = l.length - k ∧ T 0 = (V.ms 209 v9 0 (l.length)) ∧ T 1 = (V.fn 117 [] [(V.mp 303 v3 0 0)]) ∧ T 5 = (iV (((dlF t l k).length : Nat) : Int)) ∧ T 6 = (iV ((k : Nat) : Int)) ∧ (∀ j, j ∉ [407, 209] → H j = Hi j) ∧ H 209 = (⟨v9, true, false, 63, 2, (List.map cT (dlL t l k))⟩ : Blk) ∧ H 303 = (⟨v3, true, false, 63, 2, [[(V.sl (List.map cI (t.ni))), (V.sl (List.map cI (t.no)))]]⟩ : Blk) ∧ (H 407).ver = v407 ∧ (k ≤ l.length) ∧ ((dlF t l k).length < k) ∧ (v407 ≤ v7 + k)) ?_ ?_
 ·
  refine ⟨_, i0 + 1, v7, rfl, t0, t1, (Eq.trans t5 (by first | rfl | (rw [d3]; exact congrArg (V.int .i64) (by first | rfl | omega)) | (exact congrArg (V.int .i64) (by omega)) | (rw [dlF_keep (by omega) d5, List.length_append]; rfl) | (rw [dlF_skip (by omega) d5]; done) | (rw [dl_none d0]; done) | (have e : k = l.length := (by omega); subst e; unfold dlF; rw [List.take_length]; done))), (Eq.trans t6 (by first | rfl | (rw [d3]; exact congrArg (V.int .i64) (by first | rfl | omega)) | (exact congrArg (V.int .i64) (by omega)) | (rw [dlF_keep (by omega) d5, List.length_append]; rfl) | (rw [dlF_skip (by omega) d5]; done) | (rw [dl_none d0]; done) | (have e : k = l.length := (by omega); subst e; unfold dlF; rw [List.take_length]; done))), hF, (Eq.trans h209 (by first | rfl | (rw [d4]; done) | (rw [Nat.zero_add, dlL_nth, dlL_keep (by omega) d5]; done) | (rw [dlL_skip (by omega) d5]; done) | (rw [dl_none d0]; simp; done) | (have e : k = l.length := (by omega); subst e; unfold dlL dlF; rw [List.take_length, List.take_left]; done))), h303, h407, ?_, ?_, ?_⟩
  · omega
  · omega
  · omega
 intro mm T H ⟨k, v407, hmm, t0, t1, t5, t6, hF, h209, h303, h407, hk, hlt, hv⟩ Q3 p13 p23 p33
 unfold b116_0
 have q1 := dlL_len t l k
 refine W_seq_seq ?_
 refine W_seq_regc (fun T H => T 0 = (V.ms 209 v9 0 (l.length)) ∧ T 1 = (V.fn 117 [] [(V.mp 303 v3 0 0)]) ∧ T 5 = (iV (((dlF t l k).length : Nat) : Int)) ∧ T 6 = (iV ((k : Nat) : Int)) ∧ T 19 = (V.bool (decide (((k : Nat) : Int) < ((l.length : Nat) : Int)))) ∧ (∀ j, j ∉ [407, 209] → H j = Hi j) ∧ H 209 = (⟨v9, true, false, 63, 2, (List.map cT (dlL t l k))⟩ : Blk) ∧ H 303 = (⟨v3, true, false, 63, 2, [[(V.sl (List.map cI (t.ni))), (V.sl (List.map cI (t.no)))]]⟩ : Blk) ∧ (H 407).ver = v407 ∧ True) ?_ ?_
 ·
  unfold r116_5
  refine R_mv t6 ?_
  refine R_mv t0 ?_
  refine R_len_ms (@rfl V (V.ms 209 v9 0 (l.length))) h209 (by first | rfl | simp) ?_
  refine R_lss (x := ((k : Nat) : Int)) (y := ((l.length : Nat) : Int)) (@rfl V (iV ((k : Nat) : Int))) (@rfl V (iV ((l.length : Nat) : Int))) ?_
  exact R_nil ⟨t0, t1, t5, t6, rfl, hF, h209, h303, h407, trivial⟩
 intro T H ⟨t0, t1, t5, t6, t19, hF, h209, h303, h407, _⟩
 refine W_seq_if (p := ((k : Nat) : Int) < ((l.length : Nat) : Int)) t19 (fun c4 => ?_) (fun c4 => ?_)
 ·
  refine W_seq_skip ?_
  refine W_seq_blockg fun Q5 n5 x5 y5 z5 => ?_
  refine W_seq_regc (fun T H => T 0 = (V.ms 209 v9 0 (l.length)) ∧ T 1 = (V.fn 117 [] [(V.mp 303 v3 0 0)]) ∧ T 5 = (iV (((dlF t l k).length : Nat) : Int)) ∧ T 6 = (iV ((k : Nat) : Int)) ∧ T 7 = (V.mp 407 (v407 + 1) 0 0) ∧ (∀ j, j ∉ [407, 209] → H j = Hi j) ∧ H 209 = (⟨v9, true, false, 63, 2, (List.map cT (dlL t l k))⟩ : Blk) ∧ H 303 = (⟨v3, true, false, 63, 2, [[(V.sl (List.map cI (t.ni))), (V.sl (List.map cI (t.no)))]]⟩ : Blk) ∧ H 407 = (⟨v407 + 1, true, false, 63, 2, [[(V.sl (List.map cI ((nth (dlL t l k) (0 + (k))).ni))), (V.sl (List.map cI ((nth (dlL t l k) (0 + (k))).no)))]]⟩ : Blk) ∧ True) ?_ ?_
  ·
   unfold r116_7
   refine R_mv t0 ?_
   refine R_mv t6 ?_
   refine R_idx_ms (i := k) (@rfl V (V.ms 209 v9 0 (l.length))) (@rfl V (iV ((k : Nat) : Int))) h209 (okB_map (by omega)) rfl (by omega) ?_
   refine R_load_mp (v := (V.agg [(V.sl (List.map cI ((nth (dlL t l k) (0 + (k))).ni))), (V.sl (List.map cI ((nth (dlL t l k) (0 + (k))).no)))])) (@rfl V (V.mp 209 v9 (0 + (k)) 0)) h209 (ldB_map (by omega) (by first | rfl | simp [ldV, V.one])) ?_
   refine R_alloc (i := 407) (n := v407) (m := 2) (by rfl) h407 rfl ?_
   refine R_store (vs := [(V.sl (List.map cI ((nth (dlL t l k) (0 + (k))).ni))), (V.sl (List.map cI ((nth (dlL t l k) (0 + (k))).no)))]) (B' := (⟨v407 + 1, true, false, 63, 2, [[(V.sl (List.map cI ((nth (dlL t l k) (0 + (k))).ni))), (V.sl (List.map cI ((nth (dlL t l k) (0 + (k))).no)))]]⟩ : Blk)) (@rfl V (V.mp 407 (v407 + 1) 0 0)) (@rfl V (V.agg [(V.sl (List.map cI ((nth (dlL t l k) (0 + (k))).ni))), (V.sl (List.map cI ((nth (dlL t l k) (0 + (k))).no)))])) rfl (@rfl Blk (⟨v407 + 1, true, false, 63, 2, [[V.nilsl, V.nilsl]]⟩ : Blk)) (by first | rfl | simp [stB, okB, Blk.own, putAt, V.one]) ?_
   exact R_nil ⟨t0, t1, t5, t6, rfl, (upd_out (upd_out hF (by decide)) (by decide)), h209, h303, rfl, trivial⟩
  intro T H ⟨t0, t1, t5, t6, t7, hF, h209, h303, h407, _⟩
  refine W_seq_regc (fun T H => T 0 = (V.ms 209 v9 0 (l.length)) ∧ T 1 = (V.fn 117 [] [(V.mp 303 v3 0 0)]) ∧ T 5 = (iV (((dlF t l k).length : Nat) : Int)) ∧ T 6 = (iV ((k : Nat) : Int)) ∧ T 7 = (V.mp 407 (v407 + 1) 0 0) ∧ T 29 = (V.bool ((!hp t.ni ((nth (dlL t l k) (0 + (k)))).ni))) ∧ (∀ j, j ∉ [407, 209] → H j = Hi j) ∧ H 209 = (⟨v9, true, false, 63, 2, (List.map cT (dlL t l k))⟩ : Blk) ∧ H 303 = (⟨v3, true, false, 63, 2, [[(V.sl (List.map cI (t.ni))), (V.sl (List.map cI (t.no)))]]⟩ : Blk) ∧ H 407 = (⟨v407 + 1, true, false, 63, 2, [[(V.sl (List.map cI ((nth (dlL t l k) (0 + (k))).ni))), (V.sl (List.map cI ((nth (dlL t l k) (0 + (k))).no)))]]⟩ : Blk) ∧ True) ?_ ?_
  ·
   unfold r116_8
   refine R_mv t1 ?_
   refine R_load_mp (v := (V.agg [(V.sl (List.map cI ((nth (dlL t l k) (0 + (k))).ni))), (V.sl (List.map cI ((nth (dlL t l k) (0 + (k))).no)))])) t7 h407 (by first | rfl | simp [ldB, ldV, Blk.own, V.one]) ?_
   refine R_callv (@rfl V (V.fn 117 [] [(V.mp 303 v3 0 0)])) (evcons (@rfl V (V.agg [(V.sl (List.map cI ((nth (dlL t l k) (0 + (k))).ni))), (V.sl (List.map cI ((nth (dlL t l k) (0 + (k))).no)))])) evnil) (add1_pure ((nth (dlL t l k) (0 + (k)))) t) (mcons (fzv_canon 6 _ (by simp [-List.map_take, -List.map_drop, -List.map_append, -List.map_reverse])) (mcons (by simp [fzv, Blk.own, h209, h303, h407]) rfl)) (by simp [-List.map_take, -List.map_drop, -List.map_append, -List.map_reverse]) (Or.inr rfl) ?_
   refine R_notb (@rfl V (V.bool (hp t.ni ((nth (dlL t l k) (0 + (k)))).ni))) ?_
   exact R_nil ⟨t0, t1, t5, t6, t7, rfl, hF, h209, h303, h407, trivial⟩
  intro T H ⟨t0, t1, t5, t6, t7, t29, hF, h209, h303, h407, _⟩
  refine W_ifb t29 (fun c6 => ?_) (fun c6 => ?_)
  ·
   have d5 : kp t (nth l k) = true := by unfold kp; rw [Nat.zero_add, dlL_nth] at c6; simpa using c6
   refine W_seq_regc (fun T H => T 0 = (V.ms 209 v9 0 (l.length)) ∧ T 1 = (V.fn 117 [] [(V.mp 303 v3 0 0)]) ∧ T 5 = (iV (((dlF t l k).length : Nat) : Int)) ∧ T 6 = (iV ((k : Nat) : Int)) ∧ (∀ j, j ∉ [407, 209] → H j = Hi j) ∧ H 209 = (⟨v9, true, false, 63, 2, (List.map cT ((dlL t l k).set (((dlF t l k).length)) ((nth (dlL t l k) (0 + (k))))))⟩ : Blk) ∧ H 303 = (⟨v3, true, false, 63, 2, [[(V.sl (List.map cI (t.ni))), (V.sl (List.map cI (t.no)))]]⟩ : Blk) ∧ H 407 = (⟨v407 + 1, true, false, 63, 2, [[(V.sl (List.map cI ((nth (dlL t l k) (0 + (k))).ni))), (V.sl (List.map cI ((nth (dlL t l k) (0 + (k))).no)))]]⟩ : Blk) ∧ True) ?_ ?_
   ·
    unfold r116_9
    refine R_mv t0 ?_
    refine R_mv t5 ?_
    refine R_load_mp (v := (V.agg [(V.sl (List.map cI ((nth (dlL t l k) (0 + (k))).ni))), (V.sl (List.map cI ((nth (dlL t l k) (0 + (k))).no)))])) t7 h407 (by first | rfl | simp [ldB, ldV, Blk.own, V.one]) ?_
    refine R_idx_ms (i := ((dlF t l k).length)) (@rfl V (V.ms 209 v9 0 (l.length))) (@rfl V (iV (((dlF t l k).length : Nat) : Int))) h209 (okB_map (by omega)) rfl (by omega) ?_
    refine R_store (vs := [(V.sl (List.map cI ((nth (dlL t l k) (0 + (k))).ni))), (V.sl (List.map cI ((nth (dlL t l k) (0 + (k))).no)))]) (B' := (⟨v9, true, false, 63, 2, (List.map cT ((dlL t l k).set (((dlF t l k).length)) ((nth (dlL t l k) (0 + (k))))))⟩ : Blk)) (Eq.trans (@rfl V (V.mp 209 v9 (0 + ((dlF t l k).length)) 0)) (congrArg (fun n => V.mp 209 v9 n 0) (Nat.zero_add _))) (@rfl V (V.agg [(V.sl (List.map cI ((nth (dlL t l k) (0 + (k))).ni))), (V.sl (List.map cI ((nth (dlL t l k) (0 + (k))).no)))])) rfl h209 (stB_map (x := (nth (dlL t l k) (0 + (k)))) (i := ((dlF t l k).length)) (by omega) rfl rfl rfl rfl) ?_
    exact R_nil ⟨t0, t1, t5, t6, (upd_out hF (by decide)), rfl, h303, h407, trivial⟩
   intro T H ⟨t0, t1, t5, t6, hF, h209, h303, h407, _⟩
   refine W_regc (fun T H => T 0 = (V.ms 209 v9 0 (l.length)) ∧ T 1 = (V.fn 117 [] [(V.mp 303 v3 0 0)]) ∧ T 5 = (iV ((((dlF t l k).length) + 1 : Nat) : Int)) ∧ T 6 = (iV ((k : Nat) : Int)) ∧ (∀ j, j ∉ [407, 209] → H j = Hi j) ∧ H 209 = (⟨v9, true, false, 63, 2, (List.map cT ((dlL t l k).set (((dlF t l k).length)) ((nth (dlL t l k) (0 + (k))))))⟩ : Blk) ∧ H 303 = (⟨v3, true, false, 63, 2, [[(V.sl (List.map cI (t.ni))), (V.sl (List.map cI (t.no)))]]⟩ : Blk) ∧ H 407 = (⟨v407 + 1, true, false, 63, 2, [[(V.sl (List.map cI ((nth (dlL t l k) (0 + (k))).ni))), (V.sl (List.map cI ((nth (dlL t l k) (0 + (k))).no)))]]⟩ : Blk) ∧ True) ?_ ?_
   ·
    unfold r116_10
    refine R_mv t5 ?_
    refine R_addN (m := ((dlF t l k).length)) (n := 1) (@rfl V (iV (((dlF t l k).length : Nat) : Int))) (@rfl V (iV ((1 : Nat) : Int))) (by omega) ?_
    refine R_mv (@rfl V (iV ((((dlF t l k).length) + 1 : Nat) : Int))) ?_
    exact R_nil ⟨t0, t1, rfl, t6, hF, h209, h303, h407, trivial⟩
   intro T H ⟨t0, t1, t5, t6, hF, h209, h303, h407, _⟩
   refine n5 _ _ ?_
   refine .done ?_
   refine W_regc (fun T H => T 0 = (V.ms 209 v9 0 (l.length)) ∧ T 1 = (V.fn 117 [] [(V.mp 303 v3 0 0)]) ∧ T 5 = (iV ((((dlF t l k).length) + 1 : Nat) : Int)) ∧ T 6 = (iV ((k + 1 : Nat) : Int)) ∧ (∀ j, j ∉ [407, 209] → H j = Hi j) ∧ H 209 = (⟨v9, true, false, 63, 2, (List.map cT ((dlL t l k).set (((dlF t l k).length)) ((nth (dlL t l k) (0 + (k))))))⟩ : Blk) ∧ H 303 = (⟨v3, true, false, 63, 2, [[(V.sl (List.map cI (t.ni))), (V.sl (List.map cI (t.no)))]]⟩ : Blk) ∧ H 407 = (⟨v407 + 1, true, false, 63, 2, [[(V.sl (List.map cI ((nth (dlL t l k) (0 + (k))).ni))), (V.sl (List.map cI ((nth (dlL t l k) (0 + (k))).no)))]]⟩ : Blk) ∧ True) ?_ ?_
   ·
    unfold r116_6
    refine R_mv t6 ?_
    refine R_addN (m := k) (n := 1) (@rfl V (iV ((k : Nat) : Int))) (@rfl V (iV ((1 : Nat) : Int))) (by omega) ?_
    refine R_mv (@rfl V (iV ((k + 1 : Nat) : Int))) ?_
    exact R_nil ⟨t0, t1, t5, rfl, hF, h209, h303, h407, trivial⟩
   intro T H ⟨t0, t1, t5, t6, hF, h209, h303, h407, _⟩
   refine p13 _ _ _ ?_ ⟨k + 1, (v407 + 1), rfl, t0, t1, (Eq.trans t5 (by first | rfl | (rw [d3]; exact congrArg (V.int .i64) (by first | rfl | omega)) | (exact congrArg (V.int .i64) (by omega)) | (rw [dlF_keep (by omega) d5, List.length_append]; rfl) | (rw [dlF_skip (by omega) d5]; done) | (rw [dl_none d0]; done) | (have e : k = l.length := (by omega); subst e; unfold dlF; rw [List.take_length]; done))), (Eq.trans t6 (by first | rfl | (rw [d3]; exact congrArg (V.int .i64) (by first | rfl | omega)) | (exact congrArg (V.int .i64) (by omega)) | (rw [dlF_keep (by omega) d5, List.length_append]; rfl) | (rw [dlF_skip (by omega) d5]; done) | (rw [dl_none d0]; done) | (have e : k = l.length := (by omega); subst e; unfold dlF; rw [List.take_length]; done))), hF, (Eq.trans h209 (by first | rfl | (rw [d4]; done) | (rw [Nat.zero_add, dlL_nth, dlL_keep (by omega) d5]; done) | (rw [dlL_skip (by omega) d5]; done) | (rw [dl_none d0]; simp; done) | (have e : k = l.length := (by omega); subst e; unfold dlL dlF; rw [List.take_length, List.take_left]; done))), h303, (congrArg Blk.ver h407), ?_, ?_, ?_⟩
   · omega
   · omega
   · first | (rw [dlF_keep (by omega) d5, List.length_append]; simp; omega) | (rw [dlF_skip (by omega) d5]; omega)
   · omega
  have d5 : ¬kp t (nth l k) = true := by unfold kp; rw [Nat.zero_add, dlL_nth] at c6; simpa using c6
  refine W_skip ?_
  refine n5 _ _ ?_
  refine .done ?_
  refine W_regc (fun T H => T 0 = (V.ms 209 v9 0 (l.length)) ∧ T 1 = (V.fn 117 [] [(V.mp 303 v3 0 0)]) ∧ T 5 = (iV (((dlF t l k).length : Nat) : Int)) ∧ T 6 = (iV ((k + 1 : Nat) : Int)) ∧ (∀ j, j ∉ [407, 209] → H j = Hi j) ∧ H 209 = (⟨v9, true, false, 63, 2, (List.map cT (dlL t l k))⟩ : Blk) ∧ H 303 = (⟨v3, true, false, 63, 2, [[(V.sl (List.map cI (t.ni))), (V.sl (List.map cI (t.no)))]]⟩ : Blk) ∧ H 407 = (⟨v407 + 1, true, false, 63, 2, [[(V.sl (List.map cI ((nth (dlL t l k) (0 + (k))).ni))), (V.sl (List.map cI ((nth (dlL t l k) (0 + (k))).no)))]]⟩ : Blk) ∧ True) ?_ ?_
  ·
   unfold r116_6
   refine R_mv t6 ?_
   refine R_addN (m := k) (n := 1) (@rfl V (iV ((k : Nat) : Int))) (@rfl V (iV ((1 : Nat) : Int))) (by omega) ?_
   refine R_mv (@rfl V (iV ((k + 1 : Nat) : Int))) ?_
   exact R_nil ⟨t0, t1, t5, rfl, hF, h209, h303, h407, trivial⟩
  intro T H ⟨t0, t1, t5, t6, hF, h209, h303, h407, _⟩
  refine p13 _ _ _ ?_ ⟨k + 1, (v407 + 1), rfl, t0, t1, (Eq.trans t5 (by first | rfl | (rw [d3]; exact congrArg (V.int .i64) (by first | rfl | omega)) | (exact congrArg (V.int .i64) (by omega)) | (rw [dlF_keep (by omega) d5, List.length_append]; rfl) | (rw [dlF_skip (by omega) d5]; done) | (rw [dl_none d0]; done) | (have e : k = l.length := (by omega); subst e; unfold dlF; rw [List.take_length]; done))), (Eq.trans t6 (by first | rfl | (rw [d3]; exact congrArg (V.int .i64) (by first | rfl | omega)) | (exact congrArg (V.int .i64) (by omega)) | (rw [dlF_keep (by omega) d5, List.length_append]; rfl) | (rw [dlF_skip (by omega) d5]; done) | (rw [dl_none d0]; done) | (have e : k = l.length := (by omega); subst e; unfold dlF; rw [List.take_length]; done))), hF, (Eq.trans h209 (by first | rfl | (rw [d4]; done) | (rw [Nat.zero_add, dlL_nth, dlL_keep (by omega) d5]; done) | (rw [dlL_skip (by omega) d5]; done) | (rw [dl_none d0]; simp; done) | (have e : k = l.length := (by omega); subst e; unfold dlL dlF; rw [List.take_length, List.take_left]; done))), h303, (congrArg Blk.ver h407), ?_, ?_, ?_⟩
  · omega
  · omega
  · first | (rw [dlF_keep (by omega) d5, List.length_append]; simp; omega) | (rw [dlF_skip (by omega) d5]; omega)
  · omega
 refine W_seq_exit ?_
 refine p33 _ _ _ ?_
 refine x2 _ _ ?_
 refine .done ?_
 refine W_seq_regc (fun T H => T 0 = (V.ms 209 v9 0 (l.length)) ∧ T 5 = (iV (((dlF t l k).length : Nat) : Int)) ∧ (∀ j, j ∉ [407, 209] → H j = Hi j) ∧ H 209 = (⟨v9, true, false, 63, 2, (List.map cT (List.take (((dlF t l k).length)) (dlL t l k)) ++ List.replicate (l.length - ((dlF t l k).length)) [V.nilsl, V.nilsl])⟩ : Blk) ∧ H 303 = (⟨v3, true, false, 63, 2, [[(V.sl (List.map cI (t.ni))), (V.sl (List.map cI (t.no)))]]⟩ : Blk) ∧ (H 407).ver = v407 ∧ True) ?_ ?_
 ·
  unfold r116_11
  refine R_mv t0 ?_
  refine R_mv t5 ?_
  refine R_slice_ms_lo (n := ((dlF t l k).length)) (@rfl V (V.ms 209 v9 0 (l.length))) (@rfl V (iV (((dlF t l k).length : Nat) : Int))) h209 (okB_map (by omega)) rfl (by omega) ?_
  refine R_clr (m := (((dlF t l k).length))) (n := (l.length - ((dlF t l k).length))) (f := cT) (l := (dlL t l k)) (Eq.trans (@rfl V (V.ms 209 v9 (0 + ((dlF t l k).length)) (l.length - ((dlF t l k).length)))) (congrArg (fun n => V.ms 209 v9 n (l.length - ((dlF t l k).length))) (Nat.zero_add _))) h209 rfl (by decide) rfl (by omega) (by omega) ?_
  exact R_nil ⟨t0, t5, (upd_out hF (by decide)), rfl, h303, h407, trivial⟩
 intro T H ⟨t0, t5, hF, h209, h303, h407, _⟩
 refine W_seq_regc (fun T H => T 4 = (V.ms 209 v9 0 ((dlF t l k).length)) ∧ (∀ j, j ∉ [407, 209] → H j = Hi j) ∧ H 209 = (⟨v9, true, false, 63, 2, (List.map cT (List.take (((dlF t l k).length)) (dlL t l k)) ++ List.replicate (l.length - ((dlF t l k).length)) [V.nilsl, V.nilsl])⟩ : Blk) ∧ H 303 = (⟨v3, true, false, 63, 2, [[(V.sl (List.map cI (t.ni))), (V.sl (List.map cI (t.no)))]]⟩ : Blk) ∧ (H 407).ver = v407 ∧ True) ?_ ?_
 ·
  unfold r116_12
  refine R_mv t0 ?_
  refine R_mv t5 ?_
  refine R_slice_ms_hi (n := ((dlF t l k).length)) (@rfl V (V.ms 209 v9 0 (l.length))) (@rfl V (iV (((dlF t l k).length : Nat) : Int))) h209 (by first | rfl | simp [okB, Blk.own]) rfl (by omega) ?_
  refine R_mv (@rfl V (V.ms 209 v9 0 ((dlF t l k).length))) ?_
  exact R_nil ⟨rfl, hF, h209, h303, h407, trivial⟩
 intro T H ⟨t4, hF, h209, h303, h407, _⟩
 refine W_ret ?_
 have fh := FinX.fin (FinX.put (B := (⟨v9, true, false, 63, 2, (List.map cT (l.filter (kp t)) ++ List.replicate (l.length - (l.filter (kp t)).length) [V.nilsl, V.nilsl])⟩ : Blk)) (FinX.putv (n := v407) (B := (⟨v7 + l.length, false, false, 0, 0, []⟩ : Blk)) (FinX.start hF) h407 (by show _ ≤ v7 + l.length; omega) rfl) h209 (FinB.eq (by first | rfl | (rw [d4]; done) | (rw [Nat.zero_add, dlL_nth, dlL_keep (by omega) d5]; done) | (rw [dlL_skip (by omega) d5]; done) | (rw [dl_none d0]; simp; done) | (have e : k = l.length := (by omega); subst e; unfold dlL dlF; rw [List.take_length, List.take_left]; done))))
 exact RetF_1 t4 fh (FinV.trans_eq (FinV.same fh _) (by first | rfl | (rw [d3]; exact congrArg (V.int .i64) (by first | rfl | omega)) | (exact congrArg (V.int .i64) (by omega)) | (rw [dlF_keep (by omega) d5, List.length_append]; rfl) | (rw [dlF_skip (by omega) d5]; done) | (rw [dl_none d0]; done) | (have e : k = l.length := (by omega); subst e; unfold dlF; rw [List.take_length]; done)))

end Go.Proofs.Ytngkckefanbhgaa

namespace Go.Proofs.Ytngkckefanbhgaa
open Go Go.Proofs

theorem bs_pure (l : List Tr) (t : Tr) (hs : Srt l) (hl : l.length ≤ 1000000) : PureC Try.prog 118 [(V.sl (List.map cT (l))), (V.agg [(V.sl (List.map cI (t.ni))), (V.sl (List.map cI (t.no)))]), (V.fn 79 [] [])] (V.tup [(iV ((lbN l t : Nat) : Int)), (V.bool (decide (lbN l t < l.length ∧ slx (nth l (lbN l t)).ni t.ni = 0)))]) := by
 refine pure_of_Wb true 6 Try.func118 s118_ok (by kernel_rfl) (by simp [s118]) (by simp) (by simp) fun hB => ?_
 simp only [bnd_map, bnd_int, bnd_bool, bnd_str, bnd_agg, bnd_pp, bnd_nil, bnd_cons, implies_true, and_true, true_and] at hB
 unfold s118
 dsimp only
 have q0 := lb_le (t := t) l
 refine W_seq_regc (fun T H => T 0 = (V.sl (List.map cT (l))) ∧ T 2 = (V.fn 79 [] []) ∧ T 4 = (V.mp 4 1 0 0) ∧ H 4 = (⟨1, true, false, 63, 2, [[(V.sl (List.map cI (t.ni))), (V.sl (List.map cI (t.no)))]]⟩ : Blk) ∧ True) ?_ ?_
 ·
  unfold r118_0
  refine R_box (i := 4) (n := 0) (m := 2) (cs := [(V.sl (List.map cI (t.ni))), (V.sl (List.map cI (t.no)))]) rfl (congrArg Blk.ver rfl) (@rfl V (V.agg [(V.sl (List.map cI (t.ni))), (V.sl (List.map cI (t.no)))])) rfl rfl ?_
  refine R_mv (@rfl V (iV (0 : Int))) ?_
  refine R_mv (@rfl V (V.bool false)) ?_
  exact R_nil ⟨rfl, rfl, rfl, rfl, trivial⟩
 intro T H ⟨t0, t2, t4, h4, _⟩
 refine W_seq_regc (fun T H => T 0 = (V.sl (List.map cT (l))) ∧ T 2 = (V.fn 79 [] []) ∧ T 4 = (V.mp 4 1 0 0) ∧ T 8 = (iV ((l.length : Nat) : Int)) ∧ H 4 = (⟨1, true, false, 63, 2, [[(V.sl (List.map cI (t.ni))), (V.sl (List.map cI (t.no)))]]⟩ : Blk) ∧ True) ?_ ?_
 ·
  unfold r118_1
  refine R_mv t0 ?_
  refine R_len (@rfl V (V.sl (List.map cT (l)))) ?_
  refine R_mv (@rfl V (iV ((l.length : Nat) : Int))) ?_
  exact R_nil ⟨t0, t2, t4, rfl, h4, trivial⟩
 intro T H ⟨t0, t2, t4, t8, h4, _⟩
 refine W_seq_regc (fun T H => T 0 = (V.sl (List.map cT (l))) ∧ T 2 = (V.fn 79 [] []) ∧ T 4 = (V.mp 4 1 0 0) ∧ T 8 = (iV ((l.length : Nat) : Int)) ∧ T 9 = (iV (0 : Int)) ∧ T 10 = (iV ((l.length : Nat) : Int)) ∧ H 4 = (⟨1, true, false, 63, 2, [[(V.sl (List.map cI (t.ni))), (V.sl (List.map cI (t.no)))]]⟩ : Blk) ∧ True) ?_ ?_
 ·
  unfold r118_2
  refine R_mv t8 ?_
  refine R_mv (@rfl V (iV (0 : Int))) ?_
  refine R_mv (@rfl V (iV ((l.length : Nat) : Int))) ?_
  exact R_nil ⟨t0, t2, t4, t8, rfl, rfl, h4, trivial⟩
 intro T H ⟨t0, t2, t4, t8, t9, t10, h4, _⟩
 refine W_seq_blockg fun Q1 n1 x1 y1 z1 => ?_
 refine W_loop (fun mm T H => ∃ (i : Nat) (j : Nat), mm = j - i ∧ T 0 = (V.sl (List.map cT (l))) ∧ T 2 = (V.fn 79 [] []) ∧ T 4 = (V.mp 4 1 0 0) ∧ T 8 = (iV ((l.length : Nat) : Int)) ∧ T 9 = (iV ((i : Nat) : Int)) ∧ T 10 = (iV ((j : Nat) : Int)) ∧ H 4 = (⟨1, true, false, 63, 2, [[(V.sl (List.map cI (t.ni))), (V.sl (List.map cI (t.no)))]]⟩ : Blk) ∧ (i ≤ lbN l t) ∧ (lbN l t ≤ j) ∧ (j ≤ l.length)) ?_ ?_
 ·
  refine ⟨_, 0, l.length, rfl, t0, t2, t4, t8, (Eq.trans t9 (by first | rfl | simp)), t10, h4, ?_, ?_, ?_⟩
  · omega
  · omega
  · omega
 intro mm T H ⟨i, j, hmm, t0, t2, t4, t8, t9, t10, h4, h1, h2, h3⟩ Q2 p12 p22 p32
 unfold b118_0
 refine W_seq_seq ?_
 refine W_seq_regc (fun T H => T 0 = (V.sl (List.map cT (l))) ∧ T 2 = (V.fn 79 [] []) ∧ T 4 = (V.mp 4 1 0 0) ∧ T 8 = (iV ((l.length : Nat) : Int)) ∧ T 9 = (iV ((i : Nat) : Int)) ∧ T 10 = (iV ((j : Nat) : Int)) ∧ T 17 = (V.bool (decide (((i : Nat) : Int) < ((j : Nat) : Int)))) ∧ H 4 = (⟨1, true, false, 63, 2, [[(V.sl (List.map cI (t.ni))), (V.sl (List.map cI (t.no)))]]⟩ : Blk) ∧ True) ?_ ?_
 ·
  unfold r118_3
  refine R_mv t9 ?_
  refine R_mv t10 ?_
  refine R_lss (x := ((i : Nat) : Int)) (y := ((j : Nat) : Int)) (@rfl V (iV ((i : Nat) : Int))) (@rfl V (iV ((j : Nat) : Int))) ?_
  exact R_nil ⟨t0, t2, t4, t8, t9, t10, rfl, h4, trivial⟩
 intro T H ⟨t0, t2, t4, t8, t9, t10, t17, h4, _⟩
 refine W_seq_if (p := ((i : Nat) : Int) < ((j : Nat) : Int)) t17 (fun c3 => ?_) (fun c3 => ?_)
 ·
  refine W_seq_skip ?_
  refine W_block fun Q4 n4 x4 y4 z4 => ?_
  refine W_seq_regc (fun T H => T 0 = (V.sl (List.map cT (l))) ∧ T 2 = (V.fn 79 [] []) ∧ T 4 = (V.mp 4 1 0 0) ∧ T 8 = (iV ((l.length : Nat) : Int)) ∧ T 9 = (iV ((i : Nat) : Int)) ∧ T 10 = (iV ((j : Nat) : Int)) ∧ T 11 = (iV (((i + j) / 2 : Nat) : Int)) ∧ H 4 = (⟨1, true, false, 63, 2, [[(V.sl (List.map cI (t.ni))), (V.sl (List.map cI (t.no)))]]⟩ : Blk) ∧ True) ?_ ?_
  ·
   unfold r118_4
   refine R_mv t9 ?_
   refine R_mv t10 ?_
   refine R_addN (m := i) (n := j) (@rfl V (iV ((i : Nat) : Int))) (@rfl V (iV ((j : Nat) : Int))) (by omega) ?_
   refine R_convU (n := (i + j)) (@rfl V (iV ((i + j : Nat) : Int))) (by omega) ?_
   refine R_shr1 (n := (i + j)) (@rfl V (V.int .u64 (((i + j : Nat) : Int)))) (@rfl V (V.int .u64 (1))) ?_
   refine R_convI (n := ((i + j) / 2)) (@rfl V (V.int .u64 ((((i + j) / 2 : Nat) : Int)))) (by omega) ?_
   refine R_mv (@rfl V (iV (((i + j) / 2 : Nat) : Int))) ?_
   exact R_nil ⟨t0, t2, t4, t8, t9, t10, rfl, h4, trivial⟩
  intro T H ⟨t0, t2, t4, t8, t9, t10, t11, h4, _⟩
  refine W_seq_regc (fun T H => T 0 = (V.sl (List.map cT (l))) ∧ T 2 = (V.fn 79 [] []) ∧ T 4 = (V.mp 4 1 0 0) ∧ T 8 = (iV ((l.length : Nat) : Int)) ∧ T 9 = (iV ((i : Nat) : Int)) ∧ T 10 = (iV ((j : Nat) : Int)) ∧ T 11 = (iV (((i + j) / 2 : Nat) : Int)) ∧ T 31 = (V.bool (decide ((slx ((nth (l) ((i + j) / 2))).ni t.ni) < (0 : Int)))) ∧ H 4 = (⟨1, true, false, 63, 2, [[(V.sl (List.map cI (t.ni))), (V.sl (List.map cI (t.no)))]]⟩ : Blk) ∧ True) ?_ ?_
  ·
   unfold r118_5
   refine R_mv t2 ?_
   refine R_mv t0 ?_
   refine R_mv t11 ?_
   refine R_idx (i := ((i + j) / 2)) (@rfl V (V.sl (List.map cT (l)))) (@rfl V (iV (((i + j) / 2 : Nat) : Int))) (by omega) rfl ?_
   refine R_load_pp (v := (V.agg [(V.sl (List.map cI ((nth (l) ((i + j) / 2)).ni))), (V.sl (List.map cI ((nth (l) ((i + j) / 2)).no)))])) (@rfl V (V.pp [(V.sl (List.map cI ((nth (l) ((i + j) / 2)).ni))), (V.sl (List.map cI ((nth (l) ((i + j) / 2)).no)))])) (by first | rfl | simp [ldV]) ?_
   refine R_load_mp (v := (V.agg [(V.sl (List.map cI (t.ni))), (V.sl (List.map cI (t.no)))])) t4 h4 (by first | rfl | simp [ldB, ldV, Blk.own, V.one]) ?_
   refine R_callv (@rfl V (V.fn 79 [] [])) (evcons (@rfl V (V.agg [(V.sl (List.map cI ((nth (l) ((i + j) / 2)).ni))), (V.sl (List.map cI ((nth (l) ((i + j) / 2)).no)))])) (evcons (@rfl V (V.agg [(V.sl (List.map cI (t.ni))), (V.sl (List.map cI (t.no)))])) evnil)) (order_pure ((nth (l) ((i + j) / 2))) t) (fzv_mapcanon _ _ (by simp [-List.map_take, -List.map_drop, -List.map_append, -List.map_reverse])) (by simp [-List.map_take, -List.map_drop, -List.map_append, -List.map_reverse]) (Or.inl (by simp [-List.map_take, -List.map_drop, -List.map_append, -List.map_reverse])) ?_
   refine R_lss (x := (slx ((nth (l) ((i + j) / 2))).ni t.ni)) (y := (0 : Int)) (@rfl V (iV (slx ((nth (l) ((i + j) / 2))).ni t.ni))) (@rfl V (iV (0 : Int))) ?_
   exact R_nil ⟨t0, t2, t4, t8, t9, t10, t11, rfl, h4, trivial⟩
  intro T H ⟨t0, t2, t4, t8, t9, t10, t11, t31, h4, _⟩
  refine W_if (p := (slx ((nth (l) ((i + j) / 2))).ni t.ni) < (0 : Int)) t31 (fun c5 => ?_) (fun c5 => ?_)
  ·
   have d1 := (lb_iff hs (by omega)).1 c5
   refine W_regc (fun T H => T 0 = (V.sl (List.map cT (l))) ∧ T 2 = (V.fn 79 [] []) ∧ T 4 = (V.mp 4 1 0 0) ∧ T 8 = (iV ((l.length : Nat) : Int)) ∧ T 9 = (iV ((((i + j) / 2) + 1 : Nat) : Int)) ∧ T 10 = (iV ((j : Nat) : Int)) ∧ H 4 = (⟨1, true, false, 63, 2, [[(V.sl (List.map cI (t.ni))), (V.sl (List.map cI (t.no)))]]⟩ : Blk) ∧ True) ?_ ?_
   ·
    unfold r118_6
    refine R_mv t11 ?_
    refine R_addN (m := ((i + j) / 2)) (n := 1) (@rfl V (iV (((i + j) / 2 : Nat) : Int))) (@rfl V (iV ((1 : Nat) : Int))) (by omega) ?_
    refine R_mv (@rfl V (iV ((((i + j) / 2) + 1 : Nat) : Int))) ?_
    exact R_nil ⟨t0, t2, t4, t8, rfl, t10, h4, trivial⟩
   intro T H ⟨t0, t2, t4, t8, t9, t10, h4, _⟩
   refine n4 _ _ ?_
   refine p12 _ _ _ ?_ ⟨(((i + j) / 2) + 1), j, rfl, t0, t2, t4, t8, (Eq.trans t9 (by first | rfl | simp)), t10, h4, ?_, ?_, ?_⟩
   · omega
   · omega
   · omega
   · omega
  have d1 : ¬((i + j) / 2 < lbN l t) := fun e => c5 ((lb_iff hs (by omega)).2 e)
  refine W_regc (fun T H => T 0 = (V.sl (List.map cT (l))) ∧ T 2 = (V.fn 79 [] []) ∧ T 4 = (V.mp 4 1 0 0) ∧ T 8 = (iV ((l.length : Nat) : Int)) ∧ T 9 = (iV ((i : Nat) : Int)) ∧ T 10 = (iV (((i + j) / 2 : Nat) : Int)) ∧ H 4 = (⟨1, true, false, 63, 2, [[(V.sl (List.map cI (t.ni))), (V.sl (List.map cI (t.no)))]]⟩ : Blk) ∧ True) ?_ ?_
  ·
   unfold r118_7
   refine R_mv t11 ?_
   refine R_mv (@rfl V (iV (((i + j) / 2 : Nat) : Int))) ?_
   exact R_nil ⟨t0, t2, t4, t8, t9, rfl, h4, trivial⟩
  intro T H ⟨t0, t2, t4, t8, t9, t10, h4, _⟩
  refine n4 _ _ ?_
  refine p12 _ _ _ ?_ ⟨i, ((i + j) / 2), rfl, t0, t2, t4, t8, t9, (Eq.trans t10 (by first | rfl | simp)), h4, ?_, ?_, ?_⟩
  · omega
  · omega
  · omega
  · omega
 refine W_seq_exit ?_
 refine p32 _ _ _ ?_
 refine x1 _ _ ?_
 refine .done ?_
 refine W_seq_regc (fun T H => T 6 = (iV ((i : Nat) : Int)) ∧ T 7 = (V.bool (decide ((((i : Nat) : Int) < ((l.length : Nat) : Int)) ∧ ((slx ((nth (l) (i))).ni t.ni) = (0 : Int))))) ∧ H 4 = (⟨1, true, false, 63, 2, [[(V.sl (List.map cI (t.ni))), (V.sl (List.map cI (t.no)))]]⟩ : Blk) ∧ True) ?_ ?_
 ·
  unfold r118_8
  refine R_mv t9 ?_
  refine R_mv t9 ?_
  refine R_mv t8 ?_
  refine R_lss (x := ((i : Nat) : Int)) (y := ((l.length : Nat) : Int)) (@rfl V (iV ((i : Nat) : Int))) (@rfl V (iV ((l.length : Nat) : Int))) ?_
  refine R_mv (@rfl V (V.bool (decide (((i : Nat) : Int) < ((l.length : Nat) : Int))))) ?_
  refine Ops_seg 9 (fun T H => T 35 = (iV ((i : Nat) : Int)) ∧ T 48 = (V.bool (decide ((((i : Nat) : Int) < ((l.length : Nat) : Int)) ∧ ((slx ((nth (l) (i))).ni t.ni) = (0 : Int))))) ∧ H 4 = (⟨1, true, false, 63, 2, [[(V.sl (List.map cI (t.ni))), (V.sl (List.map cI (t.no)))]]⟩ : Blk) ∧ True) ?_ ?_
  ·
   by_cases g6 : ((i : Nat) : Int) < ((l.length : Nat) : Int)
   ·
    refine G_yes (Eq.trans (@rfl V (V.bool (decide (((i : Nat) : Int) < ((l.length : Nat) : Int))))) (bdT g6)) ?_
    refine R_mv t2 ?_
    refine G_yes (Eq.trans (@rfl V (V.bool (decide (((i : Nat) : Int) < ((l.length : Nat) : Int))))) (bdT g6)) ?_
    refine R_mv t0 ?_
    refine G_yes (Eq.trans (@rfl V (V.bool (decide (((i : Nat) : Int) < ((l.length : Nat) : Int))))) (bdT g6)) ?_
    refine R_mv t9 ?_
    refine G_yes (Eq.trans (@rfl V (V.bool (decide (((i : Nat) : Int) < ((l.length : Nat) : Int))))) (bdT g6)) ?_
    refine R_idx (i := i) (@rfl V (V.sl (List.map cT (l)))) (@rfl V (iV ((i : Nat) : Int))) (by omega) rfl ?_
    refine G_yes (Eq.trans (@rfl V (V.bool (decide (((i : Nat) : Int) < ((l.length : Nat) : Int))))) (bdT g6)) ?_
    refine R_load_pp (v := (V.agg [(V.sl (List.map cI ((nth (l) (i)).ni))), (V.sl (List.map cI ((nth (l) (i)).no)))])) (@rfl V (V.pp [(V.sl (List.map cI ((nth (l) (i)).ni))), (V.sl (List.map cI ((nth (l) (i)).no)))])) (by first | rfl | simp [ldV]) ?_
    refine G_yes (Eq.trans (@rfl V (V.bool (decide (((i : Nat) : Int) < ((l.length : Nat) : Int))))) (bdT g6)) ?_
    refine R_load_mp (v := (V.agg [(V.sl (List.map cI (t.ni))), (V.sl (List.map cI (t.no)))])) t4 h4 (by first | rfl | simp [ldB, ldV, Blk.own, V.one]) ?_
    refine G_yes (Eq.trans (@rfl V (V.bool (decide (((i : Nat) : Int) < ((l.length : Nat) : Int))))) (bdT g6)) ?_
    refine R_callv (@rfl V (V.fn 79 [] [])) (evcons (@rfl V (V.agg [(V.sl (List.map cI ((nth (l) (i)).ni))), (V.sl (List.map cI ((nth (l) (i)).no)))])) (evcons (@rfl V (V.agg [(V.sl (List.map cI (t.ni))), (V.sl (List.map cI (t.no)))])) evnil)) (order_pure ((nth (l) (i))) t) (fzv_mapcanon _ _ (by simp [-List.map_take, -List.map_drop, -List.map_append, -List.map_reverse])) (by simp [-List.map_take, -List.map_drop, -List.map_append, -List.map_reverse]) (Or.inl (by simp [-List.map_take, -List.map_drop, -List.map_append, -List.map_reverse])) ?_
    refine G_yes (Eq.trans (@rfl V (V.bool (decide (((i : Nat) : Int) < ((l.length : Nat) : Int))))) (bdT g6)) ?_
    refine R_eql (x := (slx ((nth (l) (i))).ni t.ni)) (y := (0 : Int)) (@rfl V (iV (slx ((nth (l) (i))).ni t.ni))) (@rfl V (iV (0 : Int))) ?_
    refine R_pickT (Eq.trans (@rfl V (V.bool (decide (((i : Nat) : Int) < ((l.length : Nat) : Int))))) (bdT g6)) (@rfl V (V.bool (decide ((slx ((nth (l) (i))).ni t.ni) = (0 : Int))))) ?_
    exact ⟨rfl, (Eq.trans (@rfl V (V.bool (decide ((slx ((nth (l) (i))).ni t.ni) = (0 : Int))))) (dec_andT g6)), h4, trivial⟩
   ·
    refine G_no (Eq.trans (@rfl V (V.bool (decide (((i : Nat) : Int) < ((l.length : Nat) : Int))))) (bdF g6)) (by decide) ?_
    refine G_no (Eq.trans (@rfl V (V.bool (decide (((i : Nat) : Int) < ((l.length : Nat) : Int))))) (bdF g6)) (by decide) ?_
    refine G_no (Eq.trans (@rfl V (V.bool (decide (((i : Nat) : Int) < ((l.length : Nat) : Int))))) (bdF g6)) (by decide) ?_
    refine G_no (Eq.trans (@rfl V (V.bool (decide (((i : Nat) : Int) < ((l.length : Nat) : Int))))) (bdF g6)) (by decide) ?_
    refine G_no (Eq.trans (@rfl V (V.bool (decide (((i : Nat) : Int) < ((l.length : Nat) : Int))))) (bdF g6)) (by decide) ?_
    refine G_no (Eq.trans (@rfl V (V.bool (decide (((i : Nat) : Int) < ((l.length : Nat) : Int))))) (bdF g6)) (by decide) ?_
    refine G_no (Eq.trans (@rfl V (V.bool (decide (((i : Nat) : Int) < ((l.length : Nat) : Int))))) (bdF g6)) (by decide) ?_
    refine G_no (Eq.trans (@rfl V (V.bool (decide (((i : Nat) : Int) < ((l.length : Nat) : Int))))) (bdF g6)) (by decide) ?_
    refine R_pickF (Eq.trans (@rfl V (V.bool (decide (((i : Nat) : Int) < ((l.length : Nat) : Int))))) (bdF g6)) (@rfl V (V.bool false)) ?_
    exact ⟨rfl, (Eq.trans (@rfl V (V.bool false)) (dec_andF g6)), h4, trivial⟩
  intro T H ⟨t35, t48, h4, _⟩
  refine R_mv t35 ?_
  refine R_mv t48 ?_
  exact R_nil ⟨rfl, rfl, h4, trivial⟩
 intro T H ⟨t6, t7, h4, _⟩
 refine W_ret ?_
 refine Ret_2 t6 t7 (fz_int ?_) (fz_bool ?_)
 · have e : i = lbN l t := by omega
   rw [e]
 · have e : i = lbN l t := by omega
   rw [e]; exact decide_eq_decide.2 (by omega)

end Go.Proofs.Ytngkckefanbhgaa

namespace Go.Proofs.Ytngkckefanbhgaa
open Go Go.Proofs


theorem insert_tr {F : List Tr} {t : Tr} {v9 v54 ty2 : Nat} {H : Heap} (r : List (List V)) (h209 : H 209 = ⟨v9, true, false, 63, 2, List.map cT F ++ r⟩) (h354 : H 354 = ⟨v54, true, false, ty2, 2, [cT t]⟩) (hl : F.length ≤ 100000) (hs : Srt F) :
    CallOK Try.prog 119 [.ms 209 v9 0 F.length, iV ((lbN F t : Nat) : Int), .ms 354 v54 0 1] H (.ms 209 (v9 + 2) 0 (F.length + 1)) (upd H 209 ⟨v9 + 2, true, false, 63, 2, List.map cT (ins F t)⟩) := by
  have hf : ∀ l : List Tr, fitRows 2 (List.map cT l) = true := fun l => by
    simp only [fitRows, List.all_eq_true]
    intro r hr
    obtain ⟨x, _, rfl⟩ := List.mem_map.1 hr
    rfl
  have e : (List.map cT F ++ r).take F.length = List.map cT F := take_zap rfl
  have := CallOK_insert (zz := [.nilsl, .nilsl]) (row := cT t) (i := lbN F t) (n := F.length) insLay119 insCall119 (by kernel_rfl) rfl h209 h354 (by decide) (by simp) (lb_le F) (by rw [e]; exact hf F) (hf [t]) (by omega) (by omega)
  rw [e] at this
  rw [← ins_at hs, List.map_append, List.map_cons, List.map_take, List.map_drop]
  exact this
theorem add_ok_E (l : List Tr) (t : Tr) (i : Int) (v9 v3 v8 v54 v7 : Nat) (ho : OK ⟨i, l⟩) (hpt : prE t i = 0) (he : addE l t = 0) (Hi : Heap) (h209 : Hi 209 = (⟨v9, true, false, 63, 2, (List.map cT (l))⟩ : Blk)) (h303 : (Hi 303).ver = v3) (h308 : (Hi 308).ver = v8) (h354 : (Hi 354).ver = v54) (h407 : (Hi 407).ver = v7) : CallOK Try.prog 103 [(V.ms 209 v9 0 (l.length)), (V.agg [(V.sl (List.map cI (t.ni))), (V.sl (List.map cI (t.no)))])] Hi (V.tup [(V.ms 209 (v9 + 2) 0 ((addL l t).length)), (iV (addE l t))]) (upd (upd (upd (upd (upd Hi 303 (⟨v3 + 1, false, false, 0, 0, []⟩ : Blk)) 308 (⟨v8 + l.length, false, false, 0, 0, []⟩ : Blk)) 354 (⟨v54 + 1, false, false, 0, 0, []⟩ : Blk)) 407 (⟨v7 + l.length, false, false, 0, 0, []⟩ : Blk)) 209 (⟨v9 + 2, true, false, 63, 2, (List.map cT (addL l t))⟩ : Blk)) := by
 refine CallOK_of_Wf (k0 := 300) Try.func103 s103_ok (by kernel_rfl) (by simp [s103]) fun hB => ?_
 simp only [bnd_map, bnd_int, bnd_bool, bnd_str, bnd_agg, bnd_pp, bnd_nil, bnd_cons, implies_true, and_true, true_and] at hB
 have hl : l.length ≤ 10000 := ho.len
 have hp1 := prE_ok hpt
 have hp2 := hp1.len
 have hp3 := hp1.lel
 have hpl : ∀ k, k < l.length → (nth l k).no.length = (nth l k).ni.length := fun k hk => ((ho.pr k hk).1.len)
 have hfl := List.length_filter_le (kp t) l
 have hsr : Srt (l.filter (kp t)) := filter_srt ho.srt _
 unfold s103
 dsimp only
 refine W_seq_regc (fun T H => T 0 = (V.ms 209 v9 0 (l.length)) ∧ T 3 = (V.mp 303 (v3 + 1) 0 0) ∧ (∀ j, j ∉ [303, 308, 354, 407, 209] → H j = Hi j) ∧ H 209 = (⟨v9, true, false, 63, 2, (List.map cT (l))⟩ : Blk) ∧ H 303 = (⟨v3 + 1, true, false, 63, 2, [[(V.sl (List.map cI (t.ni))), (V.sl (List.map cI (t.no)))]]⟩ : Blk) ∧ (H 308).ver = v8 ∧ (H 354).ver = v54 ∧ (H 407).ver = v7 ∧ True) ?_ ?_
 ·
  unfold r103_0
  refine R_box (i := 303) (n := v3) (m := 2) (cs := [(V.sl (List.map cI (t.ni))), (V.sl (List.map cI (t.no)))]) (by rfl) h303 (@rfl V (V.agg [(V.sl (List.map cI (t.ni))), (V.sl (List.map cI (t.no)))])) rfl rfl ?_
  refine R_mv (@rfl V V.nilsl) ?_
  refine R_mv (@rfl V (iV (0 : Int))) ?_
  exact R_nil ⟨rfl, rfl, (upd_out (fun _ _ => rfl) (by decide)), h209, rfl, h308, h354, h407, trivial⟩
 intro T H ⟨t0, t3, hF, h209, h303, h308, h354, h407, _⟩
 refine W_seq_regc (fun T H => T 0 = (V.ms 209 v9 0 (l.length)) ∧ T 3 = (V.mp 303 (v3 + 1) 0 0) ∧ T 6 = (V.bool false) ∧ (∀ j, j ∉ [303, 308, 354, 407, 209] → H j = Hi j) ∧ H 209 = (⟨v9, true, false, 63, 2, (List.map cT (l))⟩ : Blk) ∧ H 303 = (⟨v3 + 1, true, false, 63, 2, [[(V.sl (List.map cI (t.ni))), (V.sl (List.map cI (t.no)))]]⟩ : Blk) ∧ (H 308).ver = v8 ∧ (H 354).ver = v54 ∧ (H 407).ver = v7 ∧ True) ?_ ?_
 ·
  unfold r103_1
  refine R_mv (@rfl V (V.bool false)) ?_
  exact R_nil ⟨t0, t3, rfl, hF, h209, h303, h308, h354, h407, trivial⟩
 intro T H ⟨t0, t3, t6, hF, h209, h303, h308, h354, h407, _⟩
 refine W_seq_seq ?_
 refine W_seq_regc (fun T H => T 0 = (V.ms 209 v9 0 (l.length)) ∧ T 3 = (V.mp 303 (v3 + 1) 0 0) ∧ T 6 = (V.bool false) ∧ T 11 = (V.ms 209 v9 0 (l.length)) ∧ T 12 = (iV ((l.length : Nat) : Int)) ∧ T 13 = (iV (0 : Int)) ∧ (∀ j, j ∉ [303, 308, 354, 407, 209] → H j = Hi j) ∧ H 209 = (⟨v9, true, false, 63, 2, (List.map cT (l))⟩ : Blk) ∧ H 303 = (⟨v3 + 1, true, false, 63, 2, [[(V.sl (List.map cI (t.ni))), (V.sl (List.map cI (t.no)))]]⟩ : Blk) ∧ (H 308).ver = v8 ∧ (H 354).ver = v54 ∧ (H 407).ver = v7 ∧ True) ?_ ?_
 ·
  unfold r103_2
  refine R_mv t0 ?_
  refine R_len_ms (@rfl V (V.ms 209 v9 0 (l.length))) h209 (by first | rfl | simp) ?_
  refine R_mv (@rfl V (iV (0 : Int))) ?_
  exact R_nil ⟨t0, t3, t6, rfl, rfl, rfl, hF, h209, h303, h308, h354, h407, trivial⟩
 intro T H ⟨t0, t3, t6, t11, t12, t13, hF, h209, h303, h308, h354, h407, _⟩
 refine W_seq_blockg fun Q1 n1 x1 y1 z1 => ?_
 refine W_loop (fun mm T H => ∃ (k : Nat) (v308 : Nat), mm = l.length - k ∧ T 0 = (V.ms 209 v9 0 (l.length)) ∧ T 3 = (V.mp 303 (v3 + 1) 0 0) ∧ T 6 = (V.bool (exB (inP l t) 0 k)) ∧ T 11 = (V.ms 209 v9 0 (l.length)) ∧ T 12 = (iV ((l.length : Nat) : Int)) ∧ T 13 = (iV ((k : Nat) : Int)) ∧ (∀ j, j ∉ [303, 308, 354, 407, 209] → H j = Hi j) ∧ H 209 = (⟨v9, true, false, 63, 2, (List.map cT (l))⟩ : Blk) ∧ H 303 = (⟨v3 + 1, true, false, 63, 2, [[(V.sl (List.map cI (t.ni))), (V.sl (List.map cI (t.no)))]]⟩ : Blk) ∧ (H 308).ver = v308 ∧ (H 354).ver = v54 ∧ (H 407).ver = v7 ∧ (k ≤ l.length) ∧ (v308 ≤ v8 + k) ∧ (fi (ndP l t) 0 l.length = fi (ndP l t) k (l.length - k))) ?_ ?_
 ·
  refine ⟨_, 0, v8, rfl, t0, t3, (Eq.trans t6 (by first | rfl | (simp only [exB, inP, Nat.zero_add]; done) | (rw [he]; done) | (rw [addL, if_pos d2]; done) | (rw [addL, if_neg d2, ins_len]; done) | (rw [addE, if_pos (by rw [hc, fi_hit d1 (by omega)]; omega)]; done) | (rw [addE, if_neg d4, if_neg d2, if_pos (by omega)]; done))), t11, t12, (Eq.trans t13 (by first | rfl | (simp only [exB, inP, Nat.zero_add]; done) | (rw [he]; done) | (rw [addL, if_pos d2]; done) | (rw [addL, if_neg d2, ins_len]; done) | (rw [addE, if_pos (by rw [hc, fi_hit d1 (by omega)]; omega)]; done) | (rw [addE, if_neg d4, if_neg d2, if_pos (by omega)]; done))), hF, h209, h303, h308, h354, h407, ?_, ?_, ?_⟩
  · omega
  · omega
  · rfl
 intro mm T H ⟨k, v308, hmm, t0, t3, t6, t11, t12, t13, hF, h209, h303, h308, h354, h407, hk, hv8, hc⟩ Q2 p12 p22 p32
 unfold b103_0
 refine W_seq_regc (fun T H => T 0 = (V.ms 209 v9 0 (l.length)) ∧ T 3 = (V.mp 303 (v3 + 1) 0 0) ∧ T 6 = (V.bool (exB (inP l t) 0 k)) ∧ T 11 = (V.ms 209 v9 0 (l.length)) ∧ T 12 = (iV ((l.length : Nat) : Int)) ∧ T 13 = (iV ((k : Nat) : Int)) ∧ T 14 = (V.bool (decide (((k : Nat) : Int) < ((l.length : Nat) : Int)))) ∧ (∀ j, j ∉ [303, 308, 354, 407, 209] → H j = Hi j) ∧ H 209 = (⟨v9, true, false, 63, 2, (List.map cT (l))⟩ : Blk) ∧ H 303 = (⟨v3 + 1, true, false, 63, 2, [[(V.sl (List.map cI (t.ni))), (V.sl (List.map cI (t.no)))]]⟩ : Blk) ∧ (H 308).ver = v308 ∧ (H 354).ver = v54 ∧ (H 407).ver = v7 ∧ True) ?_ ?_
 ·
  unfold r103_3
  refine R_lss (x := ((k : Nat) : Int)) (y := ((l.length : Nat) : Int)) t13 t12 ?_
  exact R_nil ⟨t0, t3, t6, t11, t12, t13, rfl, hF, h209, h303, h308, h354, h407, trivial⟩
 intro T H ⟨t0, t3, t6, t11, t12, t13, t14, hF, h209, h303, h308, h354, h407, _⟩
 refine W_seq_if (p := ((k : Nat) : Int) < ((l.length : Nat) : Int)) t14 (fun c3 => ?_) (fun c3 => ?_)
 ·
  refine W_seq_skip ?_
  refine W_seq_blockg fun Q4 n4 x4 y4 z4 => ?_
  refine W_seq_regc (fun T H => T 0 = (V.ms 209 v9 0 (l.length)) ∧ T 3 = (V.mp 303 (v3 + 1) 0 0) ∧ T 6 = (V.bool (exB (inP l t) 0 k)) ∧ T 8 = (V.mp 308 (v308 + 1) 0 0) ∧ T 11 = (V.ms 209 v9 0 (l.length)) ∧ T 12 = (iV ((l.length : Nat) : Int)) ∧ T 13 = (iV ((k : Nat) : Int)) ∧ (∀ j, j ∉ [303, 308, 354, 407, 209] → H j = Hi j) ∧ H 209 = (⟨v9, true, false, 63, 2, (List.map cT (l))⟩ : Blk) ∧ H 303 = (⟨v3 + 1, true, false, 63, 2, [[(V.sl (List.map cI (t.ni))), (V.sl (List.map cI (t.no)))]]⟩ : Blk) ∧ H 308 = (⟨v308 + 1, true, false, 63, 2, [[(V.sl (List.map cI ((nth (l) (k)).ni))), (V.sl (List.map cI ((nth (l) (k)).no)))]]⟩ : Blk) ∧ (H 354).ver = v54 ∧ (H 407).ver = v7 ∧ True) ?_ ?_
  ·
   unfold r103_4
   refine R_idx_ms0 (i := k) t11 t13 h209 (okB_map (by omega)) rfl (by omega) ?_
   refine R_load_mp (v := (V.agg [(V.sl (List.map cI ((nth (l) (k)).ni))), (V.sl (List.map cI ((nth (l) (k)).no)))])) (@rfl V (V.mp 209 v9 k 0)) h209 (ldB_map (by omega) (by first | rfl | simp [ldV, V.one])) ?_
   refine R_alloc (i := 308) (n := v308) (m := 2) (by rfl) h308 rfl ?_
   refine R_store (vs := [(V.sl (List.map cI ((nth (l) (k)).ni))), (V.sl (List.map cI ((nth (l) (k)).no)))]) (B' := (⟨v308 + 1, true, false, 63, 2, [[(V.sl (List.map cI ((nth (l) (k)).ni))), (V.sl (List.map cI ((nth (l) (k)).no)))]]⟩ : Blk)) (@rfl V (V.mp 308 (v308 + 1) 0 0)) (@rfl V (V.agg [(V.sl (List.map cI ((nth (l) (k)).ni))), (V.sl (List.map cI ((nth (l) (k)).no)))])) rfl (@rfl Blk (⟨v308 + 1, true, false, 63, 2, [[V.nilsl, V.nilsl]]⟩ : Blk)) (by first | rfl | simp [stB, okB, Blk.own, putAt, V.one]) ?_
   exact R_nil ⟨t0, t3, t6, rfl, t11, t12, t13, (upd_out (upd_out hF (by decide)) (by decide)), h209, h303, rfl, h354, h407, trivial⟩
  intro T H ⟨t0, t3, t6, t8, t11, t12, t13, hF, h209, h303, h308, h354, h407, _⟩
  refine W_seq_seq ?_
  refine W_seq_regc (fun T H => T 0 = (V.ms 209 v9 0 (l.length)) ∧ T 3 = (V.mp 303 (v3 + 1) 0 0) ∧ T 6 = (V.bool (exB (inP l t) 0 k)) ∧ T 8 = (V.mp 308 (v308 + 1) 0 0) ∧ T 11 = (V.ms 209 v9 0 (l.length)) ∧ T 12 = (iV ((l.length : Nat) : Int)) ∧ T 13 = (iV ((k : Nat) : Int)) ∧ T 20 = (V.bool (decide ((0 : Int) ≤ (df ((nth (l) (k))) t)))) ∧ (∀ j, j ∉ [303, 308, 354, 407, 209] → H j = Hi j) ∧ H 209 = (⟨v9, true, false, 63, 2, (List.map cT (l))⟩ : Blk) ∧ H 303 = (⟨v3 + 1, true, false, 63, 2, [[(V.sl (List.map cI (t.ni))), (V.sl (List.map cI (t.no)))]]⟩ : Blk) ∧ H 308 = (⟨v308 + 1, true, false, 63, 2, [[(V.sl (List.map cI ((nth (l) (k)).ni))), (V.sl (List.map cI ((nth (l) (k)).no)))]]⟩ : Blk) ∧ (H 354).ver = v54 ∧ (H 407).ver = v7 ∧ True) ?_ ?_
  ·
   unfold r103_5
   refine R_load_mp (v := (V.agg [(V.sl (List.map cI ((nth (l) (k)).ni))), (V.sl (List.map cI ((nth (l) (k)).no)))])) t8 h308 (by first | rfl | simp [ldB, ldV, Blk.own, V.one]) ?_
   refine R_load_mp (v := (V.agg [(V.sl (List.map cI (t.ni))), (V.sl (List.map cI (t.no)))])) t3 h303 (by first | rfl | simp [ldB, ldV, Blk.own, V.one]) ?_
   refine R_call (evcons (@rfl V (V.agg [(V.sl (List.map cI ((nth (l) (k)).ni))), (V.sl (List.map cI ((nth (l) (k)).no)))])) (evcons (@rfl V (V.agg [(V.sl (List.map cI (t.ni))), (V.sl (List.map cI (t.no)))])) evnil)) (odiffer_pure ((nth (l) (k))) t (hpl k (by omega)) hp1.len) (fzv_mapcanon _ _ (by simp [-List.map_take, -List.map_drop, -List.map_append, -List.map_reverse])) (by simp [-List.map_take, -List.map_drop, -List.map_append, -List.map_reverse]) (Or.inl (by simp [-List.map_take, -List.map_drop, -List.map_append, -List.map_reverse])) ?_
   refine R_geq (x := (df ((nth (l) (k))) t)) (y := (0 : Int)) (@rfl V (iV (df ((nth (l) (k))) t))) (@rfl V (iV (0 : Int))) ?_
   exact R_nil ⟨t0, t3, t6, t8, t11, t12, t13, rfl, hF, h209, h303, h308, h354, h407, trivial⟩
  intro T H ⟨t0, t3, t6, t8, t11, t12, t13, t20, hF, h209, h303, h308, h354, h407, _⟩
  refine W_seq_if (p := (0 : Int) ≤ (df ((nth (l) (k))) t)) t20 (fun c5 => ?_) (fun c5 => ?_)
  ·
   have d1 : ndP l t k = true := decide_eq_true c5
   refine W_seq_seq ?_
   refine W_seq_regc (fun T H => T 4 = V.nilsl ∧ T 5 = (iV (13 : Int)) ∧ (∀ j, j ∉ [303, 308, 354, 407, 209] → H j = Hi j) ∧ H 209 = (⟨v9, true, false, 63, 2, (List.map cT (l))⟩ : Blk) ∧ H 303 = (⟨v3 + 1, true, false, 63, 2, [[(V.sl (List.map cI (t.ni))), (V.sl (List.map cI (t.no)))]]⟩ : Blk) ∧ H 308 = (⟨v308 + 1, true, false, 63, 2, [[(V.sl (List.map cI ((nth (l) (k)).ni))), (V.sl (List.map cI ((nth (l) (k)).no)))]]⟩ : Blk) ∧ (H 354).ver = v54 ∧ (H 407).ver = v7 ∧ True) ?_ ?_
   ·
    unfold r103_6
    refine R_mv (@rfl V V.nilsl) ?_
    refine R_mv (@rfl V (iV (13 : Int))) ?_
    exact R_nil ⟨rfl, rfl, hF, h209, h303, h308, h354, h407, trivial⟩
   intro T H ⟨t4, t5, hF, h209, h303, h308, h354, h407, _⟩
   refine W_seq_ret ?_
   refine y4 _ _ ?_
   refine p22 _ _ ?_
   refine y1 _ _ ?_
   exfalso; unfold addE at he; rw [if_pos (by rw [hc, fi_hit d1 (by omega)]; omega)] at he; cases he
  have d1 : ndP l t k = false := decide_eq_false c5
  refine W_seq_skip ?_
  refine W_regc (fun T H => T 0 = (V.ms 209 v9 0 (l.length)) ∧ T 3 = (V.mp 303 (v3 + 1) 0 0) ∧ T 6 = (V.bool (((exB (inP l t) 0 k) || (hp ((nth (l) (k)).ni) t.ni)))) ∧ T 11 = (V.ms 209 v9 0 (l.length)) ∧ T 12 = (iV ((l.length : Nat) : Int)) ∧ T 13 = (iV ((k : Nat) : Int)) ∧ (∀ j, j ∉ [303, 308, 354, 407, 209] → H j = Hi j) ∧ H 209 = (⟨v9, true, false, 63, 2, (List.map cT (l))⟩ : Blk) ∧ H 303 = (⟨v3 + 1, true, false, 63, 2, [[(V.sl (List.map cI (t.ni))), (V.sl (List.map cI (t.no)))]]⟩ : Blk) ∧ H 308 = (⟨v308 + 1, true, false, 63, 2, [[(V.sl (List.map cI ((nth (l) (k)).ni))), (V.sl (List.map cI ((nth (l) (k)).no)))]]⟩ : Blk) ∧ (H 354).ver = v54 ∧ (H 407).ver = v7 ∧ True) ?_ ?_
  ·
   unfold r103_7
   refine R_mv t6 ?_
   refine R_mv (@rfl V (V.bool (exB (inP l t) 0 k))) ?_
   refine Ops_seg 6 (fun T H => T 0 = (V.ms 209 v9 0 (l.length)) ∧ T 3 = (V.mp 303 (v3 + 1) 0 0) ∧ T 6 = (V.bool (exB (inP l t) 0 k)) ∧ T 11 = (V.ms 209 v9 0 (l.length)) ∧ T 12 = (iV ((l.length : Nat) : Int)) ∧ T 13 = (iV ((k : Nat) : Int)) ∧ T 28 = (V.bool (((exB (inP l t) 0 k) || (hp ((nth (l) (k)).ni) t.ni)))) ∧ (∀ j, j ∉ [303, 308, 354, 407, 209] → H j = Hi j) ∧ H 209 = (⟨v9, true, false, 63, 2, (List.map cT (l))⟩ : Blk) ∧ H 303 = (⟨v3 + 1, true, false, 63, 2, [[(V.sl (List.map cI (t.ni))), (V.sl (List.map cI (t.no)))]]⟩ : Blk) ∧ H 308 = (⟨v308 + 1, true, false, 63, 2, [[(V.sl (List.map cI ((nth (l) (k)).ni))), (V.sl (List.map cI ((nth (l) (k)).no)))]]⟩ : Blk) ∧ (H 354).ver = v54 ∧ (H 407).ver = v7 ∧ True) ?_ ?_
   ·
    by_cases g6 : (exB (inP l t) 0 k) = true
    ·
     refine G_no (Eq.trans (@rfl V (V.bool (exB (inP l t) 0 k))) (bbT g6)) (by decide) ?_
     refine G_no (Eq.trans (@rfl V (V.bool (exB (inP l t) 0 k))) (bbT g6)) (by decide) ?_
     refine G_no (Eq.trans (@rfl V (V.bool (exB (inP l t) 0 k))) (bbT g6)) (by decide) ?_
     refine G_no (Eq.trans (@rfl V (V.bool (exB (inP l t) 0 k))) (bbT g6)) (by decide) ?_
     refine G_no (Eq.trans (@rfl V (V.bool (exB (inP l t) 0 k))) (bbT g6)) (by decide) ?_
     refine R_pickT (Eq.trans (@rfl V (V.bool (exB (inP l t) 0 k))) (bbT g6)) (@rfl V (V.bool true)) ?_
     exact ⟨t0, t3, t6, t11, t12, t13, (Eq.trans (@rfl V (V.bool true)) (borT g6)), hF, h209, h303, h308, h354, h407, trivial⟩
    ·
     refine G_yes (Eq.trans (@rfl V (V.bool (exB (inP l t) 0 k))) (bbF g6)) ?_
     refine R_fld_mp (o' := 0) t8 h308 (by first | rfl | simp [okB, Blk.own]) rfl ?_
     refine G_yes (Eq.trans (@rfl V (V.bool (exB (inP l t) 0 k))) (bbF g6)) ?_
     refine R_load_mp (v := (V.sl (List.map cI ((nth (l) (k)).ni)))) (@rfl V (V.mp 308 (v308 + 1) 0 0)) h308 (by first | rfl | simp [ldB, ldV, Blk.own, V.one]) ?_
     refine G_yes (Eq.trans (@rfl V (V.bool (exB (inP l t) 0 k))) (bbF g6)) ?_
     refine R_fld_mp (o' := 0) t3 h303 (by first | rfl | simp [okB, Blk.own]) rfl ?_
     refine G_yes (Eq.trans (@rfl V (V.bool (exB (inP l t) 0 k))) (bbF g6)) ?_
     refine R_load_mp (v := (V.sl (List.map cI (t.ni)))) (@rfl V (V.mp 303 (v3 + 1) 0 0)) h303 (by first | rfl | simp [ldB, ldV, Blk.own, V.one]) ?_
     refine G_yes (Eq.trans (@rfl V (V.bool (exB (inP l t) 0 k))) (bbF g6)) ?_
     refine R_call (evcons (@rfl V (V.sl (List.map cI ((nth (l) (k)).ni)))) (evcons (@rfl V (V.sl (List.map cI (t.ni)))) evnil)) (hp_pure ((nth (l) (k)).ni) t.ni) (fzv_mapcanon _ _ (by simp [-List.map_take, -List.map_drop, -List.map_append, -List.map_reverse])) (by simp [-List.map_take, -List.map_drop, -List.map_append, -List.map_reverse]) (Or.inl (by simp [-List.map_take, -List.map_drop, -List.map_append, -List.map_reverse])) ?_
     refine R_pickF (Eq.trans (@rfl V (V.bool (exB (inP l t) 0 k))) (bbF g6)) (@rfl V (V.bool (hp ((nth (l) (k)).ni) t.ni))) ?_
     exact ⟨t0, t3, t6, t11, t12, t13, (Eq.trans (@rfl V (V.bool (hp ((nth (l) (k)).ni) t.ni))) (borF g6)), hF, h209, h303, h308, h354, h407, trivial⟩
   intro T H ⟨t0, t3, t6, t11, t12, t13, t28, hF, h209, h303, h308, h354, h407, _⟩
   refine R_mv t28 ?_
   exact R_nil ⟨t0, t3, rfl, t11, t12, t13, hF, h209, h303, h308, h354, h407, trivial⟩
  intro T H ⟨t0, t3, t6, t11, t12, t13, hF, h209, h303, h308, h354, h407, _⟩
  refine n4 _ _ ?_
  refine .done ?_
  refine W_regc (fun T H => T 0 = (V.ms 209 v9 0 (l.length)) ∧ T 3 = (V.mp 303 (v3 + 1) 0 0) ∧ T 6 = (V.bool (((exB (inP l t) 0 k) || (hp ((nth (l) (k)).ni) t.ni)))) ∧ T 11 = (V.ms 209 v9 0 (l.length)) ∧ T 12 = (iV ((l.length : Nat) : Int)) ∧ T 13 = (iV ((k + 1 : Nat) : Int)) ∧ (∀ j, j ∉ [303, 308, 354, 407, 209] → H j = Hi j) ∧ H 209 = (⟨v9, true, false, 63, 2, (List.map cT (l))⟩ : Blk) ∧ H 303 = (⟨v3 + 1, true, false, 63, 2, [[(V.sl (List.map cI (t.ni))), (V.sl (List.map cI (t.no)))]]⟩ : Blk) ∧ H 308 = (⟨v308 + 1, true, false, 63, 2, [[(V.sl (List.map cI ((nth (l) (k)).ni))), (V.sl (List.map cI ((nth (l) (k)).no)))]]⟩ : Blk) ∧ (H 354).ver = v54 ∧ (H 407).ver = v7 ∧ True) ?_ ?_
  ·
   unfold r103_8
   refine R_addN (m := k) (n := 1) t13 (@rfl V (iV ((1 : Nat) : Int))) (by omega) ?_
   refine R_mv (@rfl V (iV ((k + 1 : Nat) : Int))) ?_
   exact R_nil ⟨t0, t3, t6, t11, t12, rfl, hF, h209, h303, h308, h354, h407, trivial⟩
  intro T H ⟨t0, t3, t6, t11, t12, t13, hF, h209, h303, h308, h354, h407, _⟩
  refine p12 _ _ _ ?_ ⟨(k + 1), (v308 + 1), rfl, t0, t3, (Eq.trans t6 (by first | rfl | (simp only [exB, inP, Nat.zero_add]; done) | (rw [he]; done) | (rw [addL, if_pos d2]; done) | (rw [addL, if_neg d2, ins_len]; done) | (rw [addE, if_pos (by rw [hc, fi_hit d1 (by omega)]; omega)]; done) | (rw [addE, if_neg d4, if_neg d2, if_pos (by omega)]; done))), t11, t12, (Eq.trans t13 (by first | rfl | (simp only [exB, inP, Nat.zero_add]; done) | (rw [he]; done) | (rw [addL, if_pos d2]; done) | (rw [addL, if_neg d2, ins_len]; done) | (rw [addE, if_pos (by rw [hc, fi_hit d1 (by omega)]; omega)]; done) | (rw [addE, if_neg d4, if_neg d2, if_pos (by omega)]; done))), hF, h209, h303, (congrArg Blk.ver h308), h354, h407, ?_, ?_, ?_⟩
  · omega
  · omega
  · omega
  · rw [hc, fi_skip d1 (by omega)]
 refine W_seq_exit ?_
 refine p32 _ _ _ ?_
 refine x1 _ _ ?_
 refine .done ?_
 refine W_seq_seq ?_
 refine W_seq_regc (fun T H => T 0 = (V.ms 209 v9 0 (l.length)) ∧ T 3 = (V.mp 303 (v3 + 1) 0 0) ∧ T 36 = (V.bool (((exB (inP l t) 0 k) || decide (((t.ni.length : Nat) : Int) = (0 : Int))))) ∧ (∀ j, j ∉ [303, 308, 354, 407, 209] → H j = Hi j) ∧ H 209 = (⟨v9, true, false, 63, 2, (List.map cT (l))⟩ : Blk) ∧ H 303 = (⟨v3 + 1, true, false, 63, 2, [[(V.sl (List.map cI (t.ni))), (V.sl (List.map cI (t.no)))]]⟩ : Blk) ∧ (H 308).ver = v308 ∧ (H 354).ver = v54 ∧ (H 407).ver = v7 ∧ True) ?_ ?_
 ·
  unfold r103_9
  refine R_mv t6 ?_
  refine R_mv (@rfl V (V.bool (exB (inP l t) 0 k))) ?_
  refine Ops_seg 5 (fun T H => T 0 = (V.ms 209 v9 0 (l.length)) ∧ T 3 = (V.mp 303 (v3 + 1) 0 0) ∧ T 36 = (V.bool (((exB (inP l t) 0 k) || decide (((t.ni.length : Nat) : Int) = (0 : Int))))) ∧ (∀ j, j ∉ [303, 308, 354, 407, 209] → H j = Hi j) ∧ H 209 = (⟨v9, true, false, 63, 2, (List.map cT (l))⟩ : Blk) ∧ H 303 = (⟨v3 + 1, true, false, 63, 2, [[(V.sl (List.map cI (t.ni))), (V.sl (List.map cI (t.no)))]]⟩ : Blk) ∧ (H 308).ver = v308 ∧ (H 354).ver = v54 ∧ (H 407).ver = v7 ∧ True) ?_ ?_
  ·
   by_cases g7 : (exB (inP l t) 0 k) = true
   ·
    refine G_no (Eq.trans (@rfl V (V.bool (exB (inP l t) 0 k))) (bbT g7)) (by decide) ?_
    refine G_no (Eq.trans (@rfl V (V.bool (exB (inP l t) 0 k))) (bbT g7)) (by decide) ?_
    refine G_no (Eq.trans (@rfl V (V.bool (exB (inP l t) 0 k))) (bbT g7)) (by decide) ?_
    refine G_no (Eq.trans (@rfl V (V.bool (exB (inP l t) 0 k))) (bbT g7)) (by decide) ?_
    refine R_pickT (Eq.trans (@rfl V (V.bool (exB (inP l t) 0 k))) (bbT g7)) (@rfl V (V.bool true)) ?_
    exact ⟨t0, t3, (Eq.trans (@rfl V (V.bool true)) (borT g7)), hF, h209, h303, h308, h354, h407, trivial⟩
   ·
    refine G_yes (Eq.trans (@rfl V (V.bool (exB (inP l t) 0 k))) (bbF g7)) ?_
    refine R_fld_mp (o' := 0) t3 h303 (by first | rfl | simp [okB, Blk.own]) rfl ?_
    refine G_yes (Eq.trans (@rfl V (V.bool (exB (inP l t) 0 k))) (bbF g7)) ?_
    refine R_load_mp (v := (V.sl (List.map cI (t.ni)))) (@rfl V (V.mp 303 (v3 + 1) 0 0)) h303 (by first | rfl | simp [ldB, ldV, Blk.own, V.one]) ?_
    refine G_yes (Eq.trans (@rfl V (V.bool (exB (inP l t) 0 k))) (bbF g7)) ?_
    refine R_len (@rfl V (V.sl (List.map cI (t.ni)))) ?_
    refine G_yes (Eq.trans (@rfl V (V.bool (exB (inP l t) 0 k))) (bbF g7)) ?_
    refine R_eql (x := ((t.ni.length : Nat) : Int)) (y := (0 : Int)) (@rfl V (iV ((t.ni.length : Nat) : Int))) (@rfl V (iV (0 : Int))) ?_
    refine R_pickF (Eq.trans (@rfl V (V.bool (exB (inP l t) 0 k))) (bbF g7)) (@rfl V (V.bool (decide (((t.ni.length : Nat) : Int) = (0 : Int))))) ?_
    exact ⟨t0, t3, (Eq.trans (@rfl V (V.bool (decide (((t.ni.length : Nat) : Int) = (0 : Int))))) (borF g7)), hF, h209, h303, h308, h354, h407, trivial⟩
  intro T H ⟨t0, t3, t36, hF, h209, h303, h308, h354, h407, _⟩
  exact R_nil ⟨t0, t3, t36, hF, h209, h303, h308, h354, h407, trivial⟩
 intro T H ⟨t0, t3, t36, hF, h209, h303, h308, h354, h407, _⟩
 refine W_seq_ifb t36 (fun c8 => ?_) (fun c8 => ?_)
 ·
  have d2 : inL l t := by have q := c8; rw [show k = l.length by omega] at q; simpa [inL] using q
  refine W_seq_seq ?_
  refine W_seq_regc (fun T H => T 4 = (V.ms 209 v9 0 (l.length)) ∧ T 5 = (iV (0 : Int)) ∧ (∀ j, j ∉ [303, 308, 354, 407, 209] → H j = Hi j) ∧ H 209 = (⟨v9, true, false, 63, 2, (List.map cT (l))⟩ : Blk) ∧ H 303 = (⟨v3 + 1, true, false, 63, 2, [[(V.sl (List.map cI (t.ni))), (V.sl (List.map cI (t.no)))]]⟩ : Blk) ∧ (H 308).ver = v308 ∧ (H 354).ver = v54 ∧ (H 407).ver = v7 ∧ True) ?_ ?_
  ·
   unfold r103_10
   refine R_mv t0 ?_
   refine R_mv (@rfl V (V.ms 209 v9 0 (l.length))) ?_
   refine R_mv (@rfl V (iV (0 : Int))) ?_
   exact R_nil ⟨rfl, rfl, hF, h209, h303, h308, h354, h407, trivial⟩
  intro T H ⟨t4, t5, hF, h209, h303, h308, h354, h407, _⟩
  refine W_seq_ret ?_
  skip
  have fh := FinX.fin (FinX.put (B := (⟨v9 + 2, true, false, 63, 2, (List.map cT (addL l t))⟩ : Blk)) (FinX.putv (n := v7) (B := (⟨v7 + l.length, false, false, 0, 0, []⟩ : Blk)) (FinX.putv (n := v54) (B := (⟨v54 + 1, false, false, 0, 0, []⟩ : Blk)) (FinX.putv (n := v308) (B := (⟨v8 + l.length, false, false, 0, 0, []⟩ : Blk)) (FinX.putv (n := (v3 + 1)) (B := (⟨v3 + 1, false, false, 0, 0, []⟩ : Blk)) (FinX.start hF) (congrArg Blk.ver h303) (by show _ ≤ v3 + 1; omega) rfl) h308 (by show _ ≤ v8 + l.length; omega) rfl) h354 (by show _ ≤ v54 + 1; omega) rfl) h407 (by show _ ≤ v7 + l.length; omega) rfl) h209 (FinB.up (by omega) (by first | rfl | (rw [addL, if_pos d2]; done) | (rw [addL, if_neg d2]; done))))
  exact RetF_2 t4 t5 fh (FinV.trans_eq (FinV.ms (n := (v9 + 2)) fh (by simp [h209]) (by simp [h209]) rfl rfl) (by first | rfl | (simp only [exB, inP, Nat.zero_add]; done) | (rw [he]; done) | (rw [addL, if_pos d2]; done) | (rw [addL, if_neg d2, ins_len]; done) | (rw [addE, if_pos (by rw [hc, fi_hit d1 (by omega)]; omega)]; done) | (rw [addE, if_neg d4, if_neg d2, if_pos (by omega)]; done))) (FinV.trans_eq (FinV.same fh _) (by first | rfl | (simp only [exB, inP, Nat.zero_add]; done) | (rw [he]; done) | (rw [addL, if_pos d2]; done) | (rw [addL, if_neg d2, ins_len]; done) | (rw [addE, if_pos (by rw [hc, fi_hit d1 (by omega)]; omega)]; done) | (rw [addE, if_neg d4, if_neg d2, if_pos (by omega)]; done)))
 have d2 : ¬inL l t := by have q := c8; rw [show k = l.length by omega] at q; simpa [inL] using q
 refine W_seq_skip ?_
 refine W_seq_regc (fun T H => T 0 = (V.ms 209 v9 0 (((l.filter (kp t)).length))) ∧ T 3 = (V.mp 303 (v3 + 1) 0 0) ∧ (∀ j, j ∉ [303, 308, 354, 407, 209] → H j = Hi j) ∧ H 209 = (⟨v9, true, false, 63, 2, (List.map cT (l.filter (kp t)) ++ List.replicate (l.length - (l.filter (kp t)).length) [V.nilsl, V.nilsl])⟩ : Blk) ∧ H 303 = (⟨v3 + 1, true, false, 63, 2, [[(V.sl (List.map cI (t.ni))), (V.sl (List.map cI (t.no)))]]⟩ : Blk) ∧ (H 308).ver = v308 ∧ (H 354).ver = v54 ∧ H 407 = (⟨v7 + l.length, false, false, 0, 0, []⟩ : Blk) ∧ True) ?_ ?_
 ·
  unfold r103_11
  refine R_mv t0 ?_
  refine R_mkf (evcons t3 evnil) ?_
  refine R_callE (evcons (@rfl V (V.ms 209 v9 0 (l.length))) (evcons (@rfl V (V.fn 117 [] [(V.mp 303 (v3 + 1) 0 0)])) evnil)) (del_E l t v9 (v3 + 1) v7 _ h209 h303 h407 (by omega)) ?_
  refine R_mv (@rfl V (V.ms 209 v9 0 (((l.filter (kp t)).length)))) ?_
  exact R_nil ⟨rfl, t3, (upd_out (upd_out hF (by decide)) (by decide)), rfl, h303, h308, h354, rfl, trivial⟩
 intro T H ⟨t0, t3, hF, h209, h303, h308, h354, h407, _⟩
 refine W_seq_seq ?_
 refine W_seq_regc (fun T H => T 0 = (V.ms 209 v9 0 (((l.filter (kp t)).length))) ∧ T 3 = (V.mp 303 (v3 + 1) 0 0) ∧ T 43 = (V.bool (decide (((((l.filter (kp t)).length) : Nat) : Int) = (10000 : Int)))) ∧ (∀ j, j ∉ [303, 308, 354, 407, 209] → H j = Hi j) ∧ H 209 = (⟨v9, true, false, 63, 2, (List.map cT (l.filter (kp t)) ++ List.replicate (l.length - (l.filter (kp t)).length) [V.nilsl, V.nilsl])⟩ : Blk) ∧ H 303 = (⟨v3 + 1, true, false, 63, 2, [[(V.sl (List.map cI (t.ni))), (V.sl (List.map cI (t.no)))]]⟩ : Blk) ∧ (H 308).ver = v308 ∧ (H 354).ver = v54 ∧ H 407 = (⟨v7 + l.length, false, false, 0, 0, []⟩ : Blk) ∧ True) ?_ ?_
 ·
  unfold r103_12
  refine R_mv t0 ?_
  refine R_len_ms (@rfl V (V.ms 209 v9 0 (((l.filter (kp t)).length)))) h209 (by first | rfl | simp) ?_
  refine R_eql (x := ((((l.filter (kp t)).length) : Nat) : Int)) (y := (10000 : Int)) (@rfl V (iV ((((l.filter (kp t)).length) : Nat) : Int))) (@rfl V (iV (10000 : Int))) ?_
  exact R_nil ⟨t0, t3, rfl, hF, h209, h303, h308, h354, h407, trivial⟩
 intro T H ⟨t0, t3, t43, hF, h209, h303, h308, h354, h407, _⟩
 refine W_seq_if (p := ((((l.filter (kp t)).length) : Nat) : Int) = (10000 : Int)) t43 (fun c9 => ?_) (fun c9 => ?_)
 ·
  have d3 := c9
  refine W_seq_seq ?_
  refine W_seq_regc (fun T H => T 4 = V.nilsl ∧ T 5 = (iV (11 : Int)) ∧ (∀ j, j ∉ [303, 308, 354, 407, 209] → H j = Hi j) ∧ H 209 = (⟨v9, true, false, 63, 2, (List.map cT (l.filter (kp t)) ++ List.replicate (l.length - (l.filter (kp t)).length) [V.nilsl, V.nilsl])⟩ : Blk) ∧ H 303 = (⟨v3 + 1, true, false, 63, 2, [[(V.sl (List.map cI (t.ni))), (V.sl (List.map cI (t.no)))]]⟩ : Blk) ∧ (H 308).ver = v308 ∧ (H 354).ver = v54 ∧ H 407 = (⟨v7 + l.length, false, false, 0, 0, []⟩ : Blk) ∧ True) ?_ ?_
  ·
   unfold r103_13
   refine R_mv (@rfl V V.nilsl) ?_
   refine R_mv (@rfl V (iV (11 : Int))) ?_
   exact R_nil ⟨rfl, rfl, hF, h209, h303, h308, h354, h407, trivial⟩
  intro T H ⟨t4, t5, hF, h209, h303, h308, h354, h407, _⟩
  refine W_seq_ret ?_
  exfalso
  have d4 : ¬0 ≤ fi (ndP l t) 0 l.length := by rw [hc, fi_end (by omega)]; omega
  unfold addE at he
  rw [if_neg d4, if_neg d2, if_pos (by omega)] at he; cases he
 have d3 := c9
 refine W_seq_skip ?_
 refine W_seq_regc (fun T H => T 0 = (V.ms 209 v9 0 (((l.filter (kp t)).length))) ∧ T 3 = (V.mp 303 (v3 + 1) 0 0) ∧ T 9 = (iV ((lbN (l.filter (kp t)) t : Nat) : Int)) ∧ (∀ j, j ∉ [303, 308, 354, 407, 209] → H j = Hi j) ∧ H 209 = (⟨v9, true, false, 63, 2, (List.map cT (l.filter (kp t)) ++ List.replicate (l.length - (l.filter (kp t)).length) [V.nilsl, V.nilsl])⟩ : Blk) ∧ H 303 = (⟨v3 + 1, true, false, 63, 2, [[(V.sl (List.map cI (t.ni))), (V.sl (List.map cI (t.no)))]]⟩ : Blk) ∧ (H 308).ver = v308 ∧ (H 354).ver = v54 ∧ H 407 = (⟨v7 + l.length, false, false, 0, 0, []⟩ : Blk) ∧ True) ?_ ?_
 ·
  unfold r103_14
  refine R_mv t0 ?_
  refine R_load_mp (v := (V.agg [(V.sl (List.map cI (t.ni))), (V.sl (List.map cI (t.no)))])) t3 h303 (by first | rfl | simp [ldB, ldV, Blk.own, V.one]) ?_
  refine R_call (evcons (@rfl V (V.ms 209 v9 0 (((l.filter (kp t)).length)))) (evcons (@rfl V (V.agg [(V.sl (List.map cI (t.ni))), (V.sl (List.map cI (t.no)))])) (evcons (@rfl V (V.fn 79 [] [])) evnil))) (bs_pure (l.filter (kp t)) t hsr (by first | omega | assumption)) (mcons (fz_mst h209 (by first | rfl | simp) (take_zap (l := (l.filter (kp t))) (by first | rfl | simp | omega)) (fun _ => by simp)) (mcons (fzv_canon 6 _ (by simp [-List.map_take, -List.map_drop, -List.map_append, -List.map_reverse])) (mcons (fzv_canon 6 _ (by simp [-List.map_take, -List.map_drop, -List.map_append, -List.map_reverse])) rfl))) (by simp [-List.map_take, -List.map_drop, -List.map_append, -List.map_reverse]) (Or.inr rfl) ?_
  refine R_mv (@rfl V (V.tup [(iV ((lbN (l.filter (kp t)) t : Nat) : Int)), (V.bool (decide (lbN (l.filter (kp t)) t < (l.filter (kp t)).length ∧ slx (nth (l.filter (kp t)) (lbN (l.filter (kp t)) t)).ni t.ni = 0)))])) ?_
  refine R_ext (v := (iV ((lbN (l.filter (kp t)) t : Nat) : Int))) (@rfl V (V.tup [(iV ((lbN (l.filter (kp t)) t : Nat) : Int)), (V.bool (decide (lbN (l.filter (kp t)) t < (l.filter (kp t)).length ∧ slx (nth (l.filter (kp t)) (lbN (l.filter (kp t)) t)).ni t.ni = 0)))])) rfl ?_
  refine R_ext (v := (V.bool (decide (lbN (l.filter (kp t)) t < (l.filter (kp t)).length ∧ slx (nth (l.filter (kp t)) (lbN (l.filter (kp t)) t)).ni t.ni = 0)))) (@rfl V (V.tup [(iV ((lbN (l.filter (kp t)) t : Nat) : Int)), (V.bool (decide (lbN (l.filter (kp t)) t < (l.filter (kp t)).length ∧ slx (nth (l.filter (kp t)) (lbN (l.filter (kp t)) t)).ni t.ni = 0)))])) rfl ?_
  refine R_mv (@rfl V (iV ((lbN (l.filter (kp t)) t : Nat) : Int))) ?_
  refine R_mv (@rfl V (V.bool (decide (lbN (l.filter (kp t)) t < (l.filter (kp t)).length ∧ slx (nth (l.filter (kp t)) (lbN (l.filter (kp t)) t)).ni t.ni = 0)))) ?_
  exact R_nil ⟨t0, t3, rfl, hF, h209, h303, h308, h354, h407, trivial⟩
 intro T H ⟨t0, t3, t9, hF, h209, h303, h308, h354, h407, _⟩
 refine W_seq_regc (fun T H => T 4 = (V.ms 209 (v9 + 2) 0 ((l.filter (kp t)).length + 1)) ∧ T 5 = (iV (0 : Int)) ∧ (∀ j, j ∉ [303, 308, 354, 407, 209] → H j = Hi j) ∧ H 209 = (⟨v9 + 2, true, false, 63, 2, (List.map cT (ins (l.filter (kp t)) t))⟩ : Blk) ∧ H 303 = (⟨v3 + 1, true, false, 63, 2, [[(V.sl (List.map cI (t.ni))), (V.sl (List.map cI (t.no)))]]⟩ : Blk) ∧ (H 308).ver = v308 ∧ H 354 = (⟨v54 + 1, true, false, 63, 2, [[(V.sl (List.map cI (t.ni))), (V.sl (List.map cI (t.no)))]]⟩ : Blk) ∧ H 407 = (⟨v7 + l.length, false, false, 0, 0, []⟩ : Blk) ∧ True) ?_ ?_
 ·
  unfold r103_15
  refine R_mv t0 ?_
  refine R_mv t9 ?_
  refine R_load_mp (v := (V.agg [(V.sl (List.map cI (t.ni))), (V.sl (List.map cI (t.no)))])) t3 h303 (by first | rfl | simp [ldB, ldV, Blk.own, V.one]) ?_
  refine R_call (evcons (@rfl V (V.agg [(V.sl (List.map cI (t.ni))), (V.sl (List.map cI (t.no)))])) evnil) (copied_pure t (by first | omega | assumption) (by first | omega | assumption)) (fzv_mapcanon _ _ (by simp [-List.map_take, -List.map_drop, -List.map_append, -List.map_reverse])) (by simp [-List.map_take, -List.map_drop, -List.map_append, -List.map_reverse]) (Or.inl (by simp [-List.map_take, -List.map_drop, -List.map_append, -List.map_reverse])) ?_
  refine R_bslice_own (i := 354) (n := v54) (qs := [(0, (V.agg [(V.sl (List.map cI (t.ni))), (V.sl (List.map cI (t.no)))]))]) (rows := [[(V.sl (List.map cI (t.ni))), (V.sl (List.map cI (t.no)))]]) (by rfl) h354 (mcons (congrArg (fun v => (0, v)) (@rfl V (V.agg [(V.sl (List.map cI (t.ni))), (V.sl (List.map cI (t.no)))]))) rfl) rfl ?_
  refine R_callE (evcons (@rfl V (V.ms 209 v9 0 (((l.filter (kp t)).length)))) (evcons (@rfl V (iV ((lbN (l.filter (kp t)) t : Nat) : Int))) (evcons (@rfl V (V.ms 354 (v54 + 1) 0 (1))) evnil))) (insert_tr (F := (l.filter (kp t))) (t := t) _ h209 rfl (by omega) hsr) ?_
  refine R_mv (@rfl V (V.ms 209 (v9 + 2) 0 ((l.filter (kp t)).length + 1))) ?_
  refine R_mv (@rfl V (iV (0 : Int))) ?_
  exact R_nil ⟨rfl, rfl, (upd_out (upd_out hF (by decide)) (by decide)), rfl, h303, h308, rfl, h407, trivial⟩
 intro T H ⟨t4, t5, hF, h209, h303, h308, h354, h407, _⟩
 refine W_ret ?_
 skip
 have fh := FinX.fin (FinX.put (B := (⟨v9 + 2, true, false, 63, 2, (List.map cT (addL l t))⟩ : Blk)) (FinX.put (FinX.putv (n := (v54 + 1)) (B := (⟨v54 + 1, false, false, 0, 0, []⟩ : Blk)) (FinX.putv (n := v308) (B := (⟨v8 + l.length, false, false, 0, 0, []⟩ : Blk)) (FinX.putv (n := (v3 + 1)) (B := (⟨v3 + 1, false, false, 0, 0, []⟩ : Blk)) (FinX.start hF) (congrArg Blk.ver h303) (by show _ ≤ v3 + 1; omega) rfl) h308 (by show _ ≤ v8 + l.length; omega) rfl) (congrArg Blk.ver h354) (by show _ ≤ v54 + 1; omega) rfl) h407 (FinB.eq rfl)) h209 (FinB.eq (by first | rfl | (rw [addL, if_pos d2]; done) | (rw [addL, if_neg d2]; done))))
 exact RetF_2 t4 t5 fh (FinV.trans_eq (FinV.same fh _) (by first | rfl | (simp only [exB, inP, Nat.zero_add]; done) | (rw [he]; done) | (rw [addL, if_pos d2]; done) | (rw [addL, if_neg d2, ins_len]; done) | (rw [addE, if_pos (by rw [hc, fi_hit d1 (by omega)]; omega)]; done) | (rw [addE, if_neg d4, if_neg d2, if_pos (by omega)]; done))) (FinV.trans_eq (FinV.same fh _) (by first | rfl | (simp only [exB, inP, Nat.zero_add]; done) | (rw [he]; done) | (rw [addL, if_pos d2]; done) | (rw [addL, if_neg d2, ins_len]; done) | (rw [addE, if_pos (by rw [hc, fi_hit d1 (by omega)]; omega)]; done) | (rw [addE, if_neg d4, if_neg d2, if_pos (by omega)]; done)))
theorem add_err_E (l : List Tr) (t : Tr) (i : Int) (v9 v3 v8 v54 v7 : Nat) (ho : OK ⟨i, l⟩) (hpt : prE t i = 0) (he : addE l t ≠ 0) (Hi : Heap) (h209 : Hi 209 = (⟨v9, true, false, 63, 2, (List.map cT (l))⟩ : Blk)) (h303 : (Hi 303).ver = v3) (h308 : (Hi 308).ver = v8) (h354 : (Hi 354).ver = v54) (h407 : (Hi 407).ver = v7) : CallOK Try.prog 103 [(V.ms 209 v9 0 (l.length)), (V.agg [(V.sl (List.map cI (t.ni))), (V.sl (List.map cI (t.no)))])] Hi (V.tup [(V.sl []), (iV (addE l t))]) (upd (upd (upd (upd (upd Hi 303 (⟨v3 + 1, false, false, 0, 0, []⟩ : Blk)) 308 (⟨v8 + l.length, false, false, 0, 0, []⟩ : Blk)) 354 (⟨v54 + 1, false, false, 0, 0, []⟩ : Blk)) 407 (⟨v7 + l.length, false, false, 0, 0, []⟩ : Blk)) 209 (⟨v9 + 2, false, false, 0, 0, []⟩ : Blk)) := by
 refine CallOK_of_Wf (k0 := 300) Try.func103 s103_ok (by kernel_rfl) (by simp [s103]) fun hB => ?_
 simp only [bnd_map, bnd_int, bnd_bool, bnd_str, bnd_agg, bnd_pp, bnd_nil, bnd_cons, implies_true, and_true, true_and] at hB
 have hl : l.length ≤ 10000 := ho.len
 have hp1 := prE_ok hpt
 have hp2 := hp1.len
 have hp3 := hp1.lel
 have hpl : ∀ k, k < l.length → (nth l k).no.length = (nth l k).ni.length := fun k hk => ((ho.pr k hk).1.len)
 have hfl := List.length_filter_le (kp t) l
 have hsr : Srt (l.filter (kp t)) := filter_srt ho.srt _
 unfold s103
 dsimp only
 refine W_seq_regc (fun T H => T 0 = (V.ms 209 v9 0 (l.length)) ∧ T 3 = (V.mp 303 (v3 + 1) 0 0) ∧ (∀ j, j ∉ [303, 308, 354, 407, 209] → H j = Hi j) ∧ H 209 = (⟨v9, true, false, 63, 2, (List.map cT (l))⟩ : Blk) ∧ H 303 = (⟨v3 + 1, true, false, 63, 2, [[(V.sl (List.map cI (t.ni))), (V.sl (List.map cI (t.no)))]]⟩ : Blk) ∧ (H 308).ver = v8 ∧ (H 354).ver = v54 ∧ (H 407).ver = v7 ∧ True) ?_ ?_
 ·
  unfold r103_0
  refine R_box (i := 303) (n := v3) (m := 2) (cs := [(V.sl (List.map cI (t.ni))), (V.sl (List.map cI (t.no)))]) (by rfl) h303 (@rfl V (V.agg [(V.sl (List.map cI (t.ni))), (V.sl (List.map cI (t.no)))])) rfl rfl ?_
  refine R_mv (@rfl V V.nilsl) ?_
  refine R_mv (@rfl V (iV (0 : Int))) ?_
  exact R_nil ⟨rfl, rfl, (upd_out (fun _ _ => rfl) (by decide)), h209, rfl, h308, h354, h407, trivial⟩
 intro T H ⟨t0, t3, hF, h209, h303, h308, h354, h407, _⟩
 refine W_seq_regc (fun T H => T 0 = (V.ms 209 v9 0 (l.length)) ∧ T 3 = (V.mp 303 (v3 + 1) 0 0) ∧ T 6 = (V.bool false) ∧ (∀ j, j ∉ [303, 308, 354, 407, 209] → H j = Hi j) ∧ H 209 = (⟨v9, true, false, 63, 2, (List.map cT (l))⟩ : Blk) ∧ H 303 = (⟨v3 + 1, true, false, 63, 2, [[(V.sl (List.map cI (t.ni))), (V.sl (List.map cI (t.no)))]]⟩ : Blk) ∧ (H 308).ver = v8 ∧ (H 354).ver = v54 ∧ (H 407).ver = v7 ∧ True) ?_ ?_
 ·
  unfold r103_1
  refine R_mv (@rfl V (V.bool false)) ?_
  exact R_nil ⟨t0, t3, rfl, hF, h209, h303, h308, h354, h407, trivial⟩
 intro T H ⟨t0, t3, t6, hF, h209, h303, h308, h354, h407, _⟩
 refine W_seq_seq ?_
 refine W_seq_regc (fun T H => T 0 = (V.ms 209 v9 0 (l.length)) ∧ T 3 = (V.mp 303 (v3 + 1) 0 0) ∧ T 6 = (V.bool false) ∧ T 11 = (V.ms 209 v9 0 (l.length)) ∧ T 12 = (iV ((l.length : Nat) : Int)) ∧ T 13 = (iV (0 : Int)) ∧ (∀ j, j ∉ [303, 308, 354, 407, 209] → H j = Hi j) ∧ H 209 = (⟨v9, true, false, 63, 2, (List.map cT (l))⟩ : Blk) ∧ H 303 = (⟨v3 + 1, true, false, 63, 2, [[(V.sl (List.map cI (t.ni))), (V.sl (List.map cI (t.no)))]]⟩ : Blk) ∧ (H 308).ver = v8 ∧ (H 354).ver = v54 ∧ (H 407).ver = v7 ∧ True) ?_ ?_
 ·
  unfold r103_2
  refine R_mv t0 ?_
  refine R_len_ms (@rfl V (V.ms 209 v9 0 (l.length))) h209 (by first | rfl | simp) ?_
  refine R_mv (@rfl V (iV (0 : Int))) ?_
  exact R_nil ⟨t0, t3, t6, rfl, rfl, rfl, hF, h209, h303, h308, h354, h407, trivial⟩
 intro T H ⟨t0, t3, t6, t11, t12, t13, hF, h209, h303, h308, h354, h407, _⟩
 refine W_seq_blockg fun Q1 n1 x1 y1 z1 => ?_
 refine W_loop (fun mm T H => ∃ (k : Nat) (v308 : Nat), mm = l.length - k ∧ T 0 = (V.ms 209 v9 0 (l.length)) ∧ T 3 = (V.mp 303 (v3 + 1) 0 0) ∧ T 6 = (V.bool (exB (inP l t) 0 k)) ∧ T 11 = (V.ms 209 v9 0 (l.length)) ∧ T 12 = (iV ((l.length : Nat) : Int)) ∧ T 13 = (iV ((k : Nat) : Int)) ∧ (∀ j, j ∉ [303, 308, 354, 407, 209] → H j = Hi j) ∧ H 209 = (⟨v9, true, false, 63, 2, (List.map cT (l))⟩ : Blk) ∧ H 303 = (⟨v3 + 1, true, false, 63, 2, [[(V.sl (List.map cI (t.ni))), (V.sl (List.map cI (t.no)))]]⟩ : Blk) ∧ (H 308).ver = v308 ∧ (H 354).ver = v54 ∧ (H 407).ver = v7 ∧ (k ≤ l.length) ∧ (v308 ≤ v8 + k) ∧ (fi (ndP l t) 0 l.length = fi (ndP l t) k (l.length - k))) ?_ ?_
 ·
  refine ⟨_, 0, v8, rfl, t0, t3, (Eq.trans t6 (by first | rfl | (simp only [exB, inP, Nat.zero_add]; done) | (rw [he]; done) | (rw [addL, if_pos d2]; done) | (rw [addL, if_neg d2, ins_len]; done) | (rw [addE, if_pos (by rw [hc, fi_hit d1 (by omega)]; omega)]; done) | (rw [addE, if_neg d4, if_neg d2, if_pos (by omega)]; done))), t11, t12, (Eq.trans t13 (by first | rfl | (simp only [exB, inP, Nat.zero_add]; done) | (rw [he]; done) | (rw [addL, if_pos d2]; done) | (rw [addL, if_neg d2, ins_len]; done) | (rw [addE, if_pos (by rw [hc, fi_hit d1 (by omega)]; omega)]; done) | (rw [addE, if_neg d4, if_neg d2, if_pos (by omega)]; done))), hF, h209, h303, h308, h354, h407, ?_, ?_, ?_⟩
  · omega
  · omega
  · rfl
 intro mm T H ⟨k, v308, hmm, t0, t3, t6, t11, t12, t13, hF, h209, h303, h308, h354, h407, hk, hv8, hc⟩ Q2 p12 p22 p32
 unfold b103_0
 refine W_seq_regc (fun T H => T 0 = (V.ms 209 v9 0 (l.length)) ∧ T 3 = (V.mp 303 (v3 + 1) 0 0) ∧ T 6 = (V.bool (exB (inP l t) 0 k)) ∧ T 11 = (V.ms 209 v9 0 (l.length)) ∧ T 12 = (iV ((l.length : Nat) : Int)) ∧ T 13 = (iV ((k : Nat) : Int)) ∧ T 14 = (V.bool (decide (((k : Nat) : Int) < ((l.length : Nat) : Int)))) ∧ (∀ j, j ∉ [303, 308, 354, 407, 209] → H j = Hi j) ∧ H 209 = (⟨v9, true, false, 63, 2, (List.map cT (l))⟩ : Blk) ∧ H 303 = (⟨v3 + 1, true, false, 63, 2, [[(V.sl (List.map cI (t.ni))), (V.sl (List.map cI (t.no)))]]⟩ : Blk) ∧ (H 308).ver = v308 ∧ (H 354).ver = v54 ∧ (H 407).ver = v7 ∧ True) ?_ ?_
 ·
  unfold r103_3
  refine R_lss (x := ((k : Nat) : Int)) (y := ((l.length : Nat) : Int)) t13 t12 ?_
  exact R_nil ⟨t0, t3, t6, t11, t12, t13, rfl, hF, h209, h303, h308, h354, h407, trivial⟩
 intro T H ⟨t0, t3, t6, t11, t12, t13, t14, hF, h209, h303, h308, h354, h407, _⟩
 refine W_seq_if (p := ((k : Nat) : Int) < ((l.length : Nat) : Int)) t14 (fun c3 => ?_) (fun c3 => ?_)
 ·
  refine W_seq_skip ?_
  refine W_seq_blockg fun Q4 n4 x4 y4 z4 => ?_
  refine W_seq_regc (fun T H => T 0 = (V.ms 209 v9 0 (l.length)) ∧ T 3 = (V.mp 303 (v3 + 1) 0 0) ∧ T 6 = (V.bool (exB (inP l t) 0 k)) ∧ T 8 = (V.mp 308 (v308 + 1) 0 0) ∧ T 11 = (V.ms 209 v9 0 (l.length)) ∧ T 12 = (iV ((l.length : Nat) : Int)) ∧ T 13 = (iV ((k : Nat) : Int)) ∧ (∀ j, j ∉ [303, 308, 354, 407, 209] → H j = Hi j) ∧ H 209 = (⟨v9, true, false, 63, 2, (List.map cT (l))⟩ : Blk) ∧ H 303 = (⟨v3 + 1, true, false, 63, 2, [[(V.sl (List.map cI (t.ni))), (V.sl (List.map cI (t.no)))]]⟩ : Blk) ∧ H 308 = (⟨v308 + 1, true, false, 63, 2, [[(V.sl (List.map cI ((nth (l) (k)).ni))), (V.sl (List.map cI ((nth (l) (k)).no)))]]⟩ : Blk) ∧ (H 354).ver = v54 ∧ (H 407).ver = v7 ∧ True) ?_ ?_
  ·
   unfold r103_4
   refine R_idx_ms0 (i := k) t11 t13 h209 (okB_map (by omega)) rfl (by omega) ?_
   refine R_load_mp (v := (V.agg [(V.sl (List.map cI ((nth (l) (k)).ni))), (V.sl (List.map cI ((nth (l) (k)).no)))])) (@rfl V (V.mp 209 v9 k 0)) h209 (ldB_map (by omega) (by first | rfl | simp [ldV, V.one])) ?_
   refine R_alloc (i := 308) (n := v308) (m := 2) (by rfl) h308 rfl ?_
   refine R_store (vs := [(V.sl (List.map cI ((nth (l) (k)).ni))), (V.sl (List.map cI ((nth (l) (k)).no)))]) (B' := (⟨v308 + 1, true, false, 63, 2, [[(V.sl (List.map cI ((nth (l) (k)).ni))), (V.sl (List.map cI ((nth (l) (k)).no)))]]⟩ : Blk)) (@rfl V (V.mp 308 (v308 + 1) 0 0)) (@rfl V (V.agg [(V.sl (List.map cI ((nth (l) (k)).ni))), (V.sl (List.map cI ((nth (l) (k)).no)))])) rfl (@rfl Blk (⟨v308 + 1, true, false, 63, 2, [[V.nilsl, V.nilsl]]⟩ : Blk)) (by first | rfl | simp [stB, okB, Blk.own, putAt, V.one]) ?_
   exact R_nil ⟨t0, t3, t6, rfl, t11, t12, t13, (upd_out (upd_out hF (by decide)) (by decide)), h209, h303, rfl, h354, h407, trivial⟩
  intro T H ⟨t0, t3, t6, t8, t11, t12, t13, hF, h209, h303, h308, h354, h407, _⟩
  refine W_seq_seq ?_
  refine W_seq_regc (fun T H => T 0 = (V.ms 209 v9 0 (l.length)) ∧ T 3 = (V.mp 303 (v3 + 1) 0 0) ∧ T 6 = (V.bool (exB (inP l t) 0 k)) ∧ T 8 = (V.mp 308 (v308 + 1) 0 0) ∧ T 11 = (V.ms 209 v9 0 (l.length)) ∧ T 12 = (iV ((l.length : Nat) : Int)) ∧ T 13 = (iV ((k : Nat) : Int)) ∧ T 20 = (V.bool (decide ((0 : Int) ≤ (df ((nth (l) (k))) t)))) ∧ (∀ j, j ∉ [303, 308, 354, 407, 209] → H j = Hi j) ∧ H 209 = (⟨v9, true, false, 63, 2, (List.map cT (l))⟩ : Blk) ∧ H 303 = (⟨v3 + 1, true, false, 63, 2, [[(V.sl (List.map cI (t.ni))), (V.sl (List.map cI (t.no)))]]⟩ : Blk) ∧ H 308 = (⟨v308 + 1, true, false, 63, 2, [[(V.sl (List.map cI ((nth (l) (k)).ni))), (V.sl (List.map cI ((nth (l) (k)).no)))]]⟩ : Blk) ∧ (H 354).ver = v54 ∧ (H 407).ver = v7 ∧ True) ?_ ?_
  ·
   unfold r103_5
   refine R_load_mp (v := (V.agg [(V.sl (List.map cI ((nth (l) (k)).ni))), (V.sl (List.map cI ((nth (l) (k)).no)))])) t8 h308 (by first | rfl | simp [ldB, ldV, Blk.own, V.one]) ?_
   refine R_load_mp (v := (V.agg [(V.sl (List.map cI (t.ni))), (V.sl (List.map cI (t.no)))])) t3 h303 (by first | rfl | simp [ldB, ldV, Blk.own, V.one]) ?_
   refine R_call (evcons (@rfl V (V.agg [(V.sl (List.map cI ((nth (l) (k)).ni))), (V.sl (List.map cI ((nth (l) (k)).no)))])) (evcons (@rfl V (V.agg [(V.sl (List.map cI (t.ni))), (V.sl (List.map cI (t.no)))])) evnil)) (odiffer_pure ((nth (l) (k))) t (hpl k (by omega)) hp1.len) (fzv_mapcanon _ _ (by simp [-List.map_take, -List.map_drop, -List.map_append, -List.map_reverse])) (by simp [-List.map_take, -List.map_drop, -List.map_append, -List.map_reverse]) (Or.inl (by simp [-List.map_take, -List.map_drop, -List.map_append, -List.map_reverse])) ?_
   refine R_geq (x := (df ((nth (l) (k))) t)) (y := (0 : Int)) (@rfl V (iV (df ((nth (l) (k))) t))) (@rfl V (iV (0 : Int))) ?_
   exact R_nil ⟨t0, t3, t6, t8, t11, t12, t13, rfl, hF, h209, h303, h308, h354, h407, trivial⟩
  intro T H ⟨t0, t3, t6, t8, t11, t12, t13, t20, hF, h209, h303, h308, h354, h407, _⟩
  refine W_seq_if (p := (0 : Int) ≤ (df ((nth (l) (k))) t)) t20 (fun c5 => ?_) (fun c5 => ?_)
  ·
   have d1 : ndP l t k = true := decide_eq_true c5
   refine W_seq_seq ?_
   refine W_seq_regc (fun T H => T 4 = V.nilsl ∧ T 5 = (iV (13 : Int)) ∧ (∀ j, j ∉ [303, 308, 354, 407, 209] → H j = Hi j) ∧ H 209 = (⟨v9, true, false, 63, 2, (List.map cT (l))⟩ : Blk) ∧ H 303 = (⟨v3 + 1, true, false, 63, 2, [[(V.sl (List.map cI (t.ni))), (V.sl (List.map cI (t.no)))]]⟩ : Blk) ∧ H 308 = (⟨v308 + 1, true, false, 63, 2, [[(V.sl (List.map cI ((nth (l) (k)).ni))), (V.sl (List.map cI ((nth (l) (k)).no)))]]⟩ : Blk) ∧ (H 354).ver = v54 ∧ (H 407).ver = v7 ∧ True) ?_ ?_
   ·
    unfold r103_6
    refine R_mv (@rfl V V.nilsl) ?_
    refine R_mv (@rfl V (iV (13 : Int))) ?_
    exact R_nil ⟨rfl, rfl, hF, h209, h303, h308, h354, h407, trivial⟩
   intro T H ⟨t4, t5, hF, h209, h303, h308, h354, h407, _⟩
   refine W_seq_ret ?_
   refine y4 _ _ ?_
   refine p22 _ _ ?_
   refine y1 _ _ ?_
   skip
   have fh := FinX.fin (FinX.putv (n := v9) (B := (⟨v9 + 2, false, false, 0, 0, []⟩ : Blk)) (FinX.putv (n := v7) (B := (⟨v7 + l.length, false, false, 0, 0, []⟩ : Blk)) (FinX.putv (n := v54) (B := (⟨v54 + 1, false, false, 0, 0, []⟩ : Blk)) (FinX.putv (n := (v308 + 1)) (B := (⟨v8 + l.length, false, false, 0, 0, []⟩ : Blk)) (FinX.putv (n := (v3 + 1)) (B := (⟨v3 + 1, false, false, 0, 0, []⟩ : Blk)) (FinX.start hF) (congrArg Blk.ver h303) (by show _ ≤ v3 + 1; omega) rfl) (congrArg Blk.ver h308) (by show _ ≤ v8 + l.length; omega) rfl) h354 (by show _ ≤ v54 + 1; omega) rfl) h407 (by show _ ≤ v7 + l.length; omega) rfl) (congrArg Blk.ver h209) (by show _ ≤ v9 + 2; omega) rfl)
   exact RetF_2 t4 t5 fh .nil (FinV.trans_eq (FinV.same fh _) (by first | rfl | (simp only [exB, inP, Nat.zero_add]; done) | (rw [he]; done) | (rw [addL, if_pos d2]; done) | (rw [addL, if_neg d2, ins_len]; done) | (rw [addE, if_pos (by rw [hc, fi_hit d1 (by omega)]; omega)]; done) | (rw [addE, if_neg d4, if_neg d2, if_pos (by omega)]; done)))
  have d1 : ndP l t k = false := decide_eq_false c5
  refine W_seq_skip ?_
  refine W_regc (fun T H => T 0 = (V.ms 209 v9 0 (l.length)) ∧ T 3 = (V.mp 303 (v3 + 1) 0 0) ∧ T 6 = (V.bool (((exB (inP l t) 0 k) || (hp ((nth (l) (k)).ni) t.ni)))) ∧ T 11 = (V.ms 209 v9 0 (l.length)) ∧ T 12 = (iV ((l.length : Nat) : Int)) ∧ T 13 = (iV ((k : Nat) : Int)) ∧ (∀ j, j ∉ [303, 308, 354, 407, 209] → H j = Hi j) ∧ H 209 = (⟨v9, true, false, 63, 2, (List.map cT (l))⟩ : Blk) ∧ H 303 = (⟨v3 + 1, true, false, 63, 2, [[(V.sl (List.map cI (t.ni))), (V.sl (List.map cI (t.no)))]]⟩ : Blk) ∧ H 308 = (⟨v308 + 1, true, false, 63, 2, [[(V.sl (List.map cI ((nth (l) (k)).ni))), (V.sl (List.map cI ((nth (l) (k)).no)))]]⟩ : Blk) ∧ (H 354).ver = v54 ∧ (H 407).ver = v7 ∧ True) ?_ ?_
  ·
   unfold r103_7
   refine R_mv t6 ?_
   refine R_mv (@rfl V (V.bool (exB (inP l t) 0 k))) ?_
   refine Ops_seg 6 (fun T H => T 0 = (V.ms 209 v9 0 (l.length)) ∧ T 3 = (V.mp 303 (v3 + 1) 0 0) ∧ T 6 = (V.bool (exB (inP l t) 0 k)) ∧ T 11 = (V.ms 209 v9 0 (l.length)) ∧ T 12 = (iV ((l.length : Nat) : Int)) ∧ T 13 = (iV ((k : Nat) : Int)) ∧ T 28 = (V.bool (((exB (inP l t) 0 k) || (hp ((nth (l) (k)).ni) t.ni)))) ∧ (∀ j, j ∉ [303, 308, 354, 407, 209] → H j = Hi j) ∧ H 209 = (⟨v9, true, false, 63, 2, (List.map cT (l))⟩ : Blk) ∧ H 303 = (⟨v3 + 1, true, false, 63, 2, [[(V.sl (List.map cI (t.ni))), (V.sl (List.map cI (t.no)))]]⟩ : Blk) ∧ H 308 = (⟨v308 + 1, true, false, 63, 2, [[(V.sl (List.map cI ((nth (l) (k)).ni))), (V.sl (List.map cI ((nth (l) (k)).no)))]]⟩ : Blk) ∧ (H 354).ver = v54 ∧ (H 407).ver = v7 ∧ True) ?_ ?_
   ·
    by_cases g6 : (exB (inP l t) 0 k) = true
    ·
     refine G_no (Eq.trans (@rfl V (V.bool (exB (inP l t) 0 k))) (bbT g6)) (by decide) ?_
     refine G_no (Eq.trans (@rfl V (V.bool (exB (inP l t) 0 k))) (bbT g6)) (by decide) ?_
     refine G_no (Eq.trans (@rfl V (V.bool (exB (inP l t) 0 k))) (bbT g6)) (by decide) ?_
     refine G_no (Eq.trans (@rfl V (V.bool (exB (inP l t) 0 k))) (bbT g6)) (by decide) ?_
     refine G_no (Eq.trans (@rfl V (V.bool (exB (inP l t) 0 k))) (bbT g6)) (by decide) ?_
     refine R_pickT (Eq.trans (@rfl V (V.bool (exB (inP l t) 0 k))) (bbT g6)) (@rfl V (V.bool true)) ?_
     exact ⟨t0, t3, t6, t11, t12, t13, (Eq.trans (@rfl V (V.bool true)) (borT g6)), hF, h209, h303, h308, h354, h407, trivial⟩
    ·
     refine G_yes (Eq.trans (@rfl V (V.bool (exB (inP l t) 0 k))) (bbF g6)) ?_
     refine R_fld_mp (o' := 0) t8 h308 (by first | rfl | simp [okB, Blk.own]) rfl ?_
     refine G_yes (Eq.trans (@rfl V (V.bool (exB (inP l t) 0 k))) (bbF g6)) ?_
     refine R_load_mp (v := (V.sl (List.map cI ((nth (l) (k)).ni)))) (@rfl V (V.mp 308 (v308 + 1) 0 0)) h308 (by first | rfl | simp [ldB, ldV, Blk.own, V.one]) ?_
     refine G_yes (Eq.trans (@rfl V (V.bool (exB (inP l t) 0 k))) (bbF g6)) ?_
     refine R_fld_mp (o' := 0) t3 h303 (by first | rfl | simp [okB, Blk.own]) rfl ?_
     refine G_yes (Eq.trans (@rfl V (V.bool (exB (inP l t) 0 k))) (bbF g6)) ?_
     refine R_load_mp (v := (V.sl (List.map cI (t.ni)))) (@rfl V (V.mp 303 (v3 + 1) 0 0)) h303 (by first | rfl | simp [ldB, ldV, Blk.own, V.one]) ?_
     refine G_yes (Eq.trans (@rfl V (V.bool (exB (inP l t) 0 k))) (bbF g6)) ?_
     refine R_call (evcons (@rfl V (V.sl (List.map cI ((nth (l) (k)).ni)))) (evcons (@rfl V (V.sl (List.map cI (t.ni)))) evnil)) (hp_pure ((nth (l) (k)).ni) t.ni) (fzv_mapcanon _ _ (by simp [-List.map_take, -List.map_drop, -List.map_append, -List.map_reverse])) (by simp [-List.map_take, -List.map_drop, -List.map_append, -List.map_reverse]) (Or.inl (by simp [-List.map_take, -List.map_drop, -List.map_append, -List.map_reverse])) ?_
     refine R_pickF (Eq.trans (@rfl V (V.bool (exB (inP l t) 0 k))) (bbF g6)) (@rfl V (V.bool (hp ((nth (l) (k)).ni) t.ni))) ?_
     exact ⟨t0, t3, t6, t11, t12, t13, (Eq.trans (@rfl V (V.bool (hp ((nth (l) (k)).ni) t.ni))) (borF g6)), hF, h209, h303, h308, h354, h407, trivial⟩
   intro T H ⟨t0, t3, t6, t11, t12, t13, t28, hF, h209, h303, h308, h354, h407, _⟩
   refine R_mv t28 ?_
   exact R_nil ⟨t0, t3, rfl, t11, t12, t13, hF, h209, h303, h308, h354, h407, trivial⟩
  intro T H ⟨t0, t3, t6, t11, t12, t13, hF, h209, h303, h308, h354, h407, _⟩
  refine n4 _ _ ?_
  refine .done ?_
  refine W_regc (fun T H => T 0 = (V.ms 209 v9 0 (l.length)) ∧ T 3 = (V.mp 303 (v3 + 1) 0 0) ∧ T 6 = (V.bool (((exB (inP l t) 0 k) || (hp ((nth (l) (k)).ni) t.ni)))) ∧ T 11 = (V.ms 209 v9 0 (l.length)) ∧ T 12 = (iV ((l.length : Nat) : Int)) ∧ T 13 = (iV ((k + 1 : Nat) : Int)) ∧ (∀ j, j ∉ [303, 308, 354, 407, 209] → H j = Hi j) ∧ H 209 = (⟨v9, true, false, 63, 2, (List.map cT (l))⟩ : Blk) ∧ H 303 = (⟨v3 + 1, true, false, 63, 2, [[(V.sl (List.map cI (t.ni))), (V.sl (List.map cI (t.no)))]]⟩ : Blk) ∧ H 308 = (⟨v308 + 1, true, false, 63, 2, [[(V.sl (List.map cI ((nth (l) (k)).ni))), (V.sl (List.map cI ((nth (l) (k)).no)))]]⟩ : Blk) ∧ (H 354).ver = v54 ∧ (H 407).ver = v7 ∧ True) ?_ ?_
  ·
   unfold r103_8
   refine R_addN (m := k) (n := 1) t13 (@rfl V (iV ((1 : Nat) : Int))) (by omega) ?_
   refine R_mv (@rfl V (iV ((k + 1 : Nat) : Int))) ?_
   exact R_nil ⟨t0, t3, t6, t11, t12, rfl, hF, h209, h303, h308, h354, h407, trivial⟩
  intro T H ⟨t0, t3, t6, t11, t12, t13, hF, h209, h303, h308, h354, h407, _⟩
  refine p12 _ _ _ ?_ ⟨(k + 1), (v308 + 1), rfl, t0, t3, (Eq.trans t6 (by first | rfl | (simp only [exB, inP, Nat.zero_add]; done) | (rw [he]; done) | (rw [addL, if_pos d2]; done) | (rw [addL, if_neg d2, ins_len]; done) | (rw [addE, if_pos (by rw [hc, fi_hit d1 (by omega)]; omega)]; done) | (rw [addE, if_neg d4, if_neg d2, if_pos (by omega)]; done))), t11, t12, (Eq.trans t13 (by first | rfl | (simp only [exB, inP, Nat.zero_add]; done) | (rw [he]; done) | (rw [addL, if_pos d2]; done) | (rw [addL, if_neg d2, ins_len]; done) | (rw [addE, if_pos (by rw [hc, fi_hit d1 (by omega)]; omega)]; done) | (rw [addE, if_neg d4, if_neg d2, if_pos (by omega)]; done))), hF, h209, h303, (congrArg Blk.ver h308), h354, h407, ?_, ?_, ?_⟩
  · omega
  · omega
  · omega
  · rw [hc, fi_skip d1 (by omega)]
 refine W_seq_exit ?_
 refine p32 _ _ _ ?_
 refine x1 _ _ ?_
 refine .done ?_
 refine W_seq_seq ?_
 refine W_seq_regc (fun T H => T 0 = (V.ms 209 v9 0 (l.length)) ∧ T 3 = (V.mp 303 (v3 + 1) 0 0) ∧ T 36 = (V.bool (((exB (inP l t) 0 k) || decide (((t.ni.length : Nat) : Int) = (0 : Int))))) ∧ (∀ j, j ∉ [303, 308, 354, 407, 209] → H j = Hi j) ∧ H 209 = (⟨v9, true, false, 63, 2, (List.map cT (l))⟩ : Blk) ∧ H 303 = (⟨v3 + 1, true, false, 63, 2, [[(V.sl (List.map cI (t.ni))), (V.sl (List.map cI (t.no)))]]⟩ : Blk) ∧ (H 308).ver = v308 ∧ (H 354).ver = v54 ∧ (H 407).ver = v7 ∧ True) ?_ ?_
 ·
  unfold r103_9
  refine R_mv t6 ?_
  refine R_mv (@rfl V (V.bool (exB (inP l t) 0 k))) ?_
  refine Ops_seg 5 (fun T H => T 0 = (V.ms 209 v9 0 (l.length)) ∧ T 3 = (V.mp 303 (v3 + 1) 0 0) ∧ T 36 = (V.bool (((exB (inP l t) 0 k) || decide (((t.ni.length : Nat) : Int) = (0 : Int))))) ∧ (∀ j, j ∉ [303, 308, 354, 407, 209] → H j = Hi j) ∧ H 209 = (⟨v9, true, false, 63, 2, (List.map cT (l))⟩ : Blk) ∧ H 303 = (⟨v3 + 1, true, false, 63, 2, [[(V.sl (List.map cI (t.ni))), (V.sl (List.map cI (t.no)))]]⟩ : Blk) ∧ (H 308).ver = v308 ∧ (H 354).ver = v54 ∧ (H 407).ver = v7 ∧ True) ?_ ?_
  ·
   by_cases g7 : (exB (inP l t) 0 k) = true
   ·
    refine G_no (Eq.trans (@rfl V (V.bool (exB (inP l t) 0 k))) (bbT g7)) (by decide) ?_
    refine G_no (Eq.trans (@rfl V (V.bool (exB (inP l t) 0 k))) (bbT g7)) (by decide) ?_
    refine G_no (Eq.trans (@rfl V (V.bool (exB (inP l t) 0 k))) (bbT g7)) (by decide) ?_
    refine G_no (Eq.trans (@rfl V (V.bool (exB (inP l t) 0 k))) (bbT g7)) (by decide) ?_
    refine R_pickT (Eq.trans (@rfl V (V.bool (exB (inP l t) 0 k))) (bbT g7)) (@rfl V (V.bool true)) ?_
    exact ⟨t0, t3, (Eq.trans (@rfl V (V.bool true)) (borT g7)), hF, h209, h303, h308, h354, h407, trivial⟩
   ·
    refine G_yes (Eq.trans (@rfl V (V.bool (exB (inP l t) 0 k))) (bbF g7)) ?_
    refine R_fld_mp (o' := 0) t3 h303 (by first | rfl | simp [okB, Blk.own]) rfl ?_
    refine G_yes (Eq.trans (@rfl V (V.bool (exB (inP l t) 0 k))) (bbF g7)) ?_
    refine R_load_mp (v := (V.sl (List.map cI (t.ni)))) (@rfl V (V.mp 303 (v3 + 1) 0 0)) h303 (by first | rfl | simp [ldB, ldV, Blk.own, V.one]) ?_
    refine G_yes (Eq.trans (@rfl V (V.bool (exB (inP l t) 0 k))) (bbF g7)) ?_
    refine R_len (@rfl V (V.sl (List.map cI (t.ni)))) ?_
    refine G_yes (Eq.trans (@rfl V (V.bool (exB (inP l t) 0 k))) (bbF g7)) ?_
    refine R_eql (x := ((t.ni.length : Nat) : Int)) (y := (0 : Int)) (@rfl V (iV ((t.ni.length : Nat) : Int))) (@rfl V (iV (0 : Int))) ?_
    refine R_pickF (Eq.trans (@rfl V (V.bool (exB (inP l t) 0 k))) (bbF g7)) (@rfl V (V.bool (decide (((t.ni.length : Nat) : Int) = (0 : Int))))) ?_
    exact ⟨t0, t3, (Eq.trans (@rfl V (V.bool (decide (((t.ni.length : Nat) : Int) = (0 : Int))))) (borF g7)), hF, h209, h303, h308, h354, h407, trivial⟩
  intro T H ⟨t0, t3, t36, hF, h209, h303, h308, h354, h407, _⟩
  exact R_nil ⟨t0, t3, t36, hF, h209, h303, h308, h354, h407, trivial⟩
 intro T H ⟨t0, t3, t36, hF, h209, h303, h308, h354, h407, _⟩
 refine W_seq_ifb t36 (fun c8 => ?_) (fun c8 => ?_)
 ·
  have d2 : inL l t := by have q := c8; rw [show k = l.length by omega] at q; simpa [inL] using q
  refine W_seq_seq ?_
  refine W_seq_regc (fun T H => T 4 = (V.ms 209 v9 0 (l.length)) ∧ T 5 = (iV (0 : Int)) ∧ (∀ j, j ∉ [303, 308, 354, 407, 209] → H j = Hi j) ∧ H 209 = (⟨v9, true, false, 63, 2, (List.map cT (l))⟩ : Blk) ∧ H 303 = (⟨v3 + 1, true, false, 63, 2, [[(V.sl (List.map cI (t.ni))), (V.sl (List.map cI (t.no)))]]⟩ : Blk) ∧ (H 308).ver = v308 ∧ (H 354).ver = v54 ∧ (H 407).ver = v7 ∧ True) ?_ ?_
  ·
   unfold r103_10
   refine R_mv t0 ?_
   refine R_mv (@rfl V (V.ms 209 v9 0 (l.length))) ?_
   refine R_mv (@rfl V (iV (0 : Int))) ?_
   exact R_nil ⟨rfl, rfl, hF, h209, h303, h308, h354, h407, trivial⟩
  intro T H ⟨t4, t5, hF, h209, h303, h308, h354, h407, _⟩
  refine W_seq_ret ?_
  exfalso
  have d4 : ¬0 ≤ fi (ndP l t) 0 l.length := by rw [hc, fi_end (by omega)]; omega
  apply he; rw [addE, if_neg d4, if_pos d2]
 have d2 : ¬inL l t := by have q := c8; rw [show k = l.length by omega] at q; simpa [inL] using q
 refine W_seq_skip ?_
 refine W_seq_regc (fun T H => T 0 = (V.ms 209 v9 0 (((l.filter (kp t)).length))) ∧ T 3 = (V.mp 303 (v3 + 1) 0 0) ∧ (∀ j, j ∉ [303, 308, 354, 407, 209] → H j = Hi j) ∧ H 209 = (⟨v9, true, false, 63, 2, (List.map cT (l.filter (kp t)) ++ List.replicate (l.length - (l.filter (kp t)).length) [V.nilsl, V.nilsl])⟩ : Blk) ∧ H 303 = (⟨v3 + 1, true, false, 63, 2, [[(V.sl (List.map cI (t.ni))), (V.sl (List.map cI (t.no)))]]⟩ : Blk) ∧ (H 308).ver = v308 ∧ (H 354).ver = v54 ∧ H 407 = (⟨v7 + l.length, false, false, 0, 0, []⟩ : Blk) ∧ True) ?_ ?_
 ·
  unfold r103_11
  refine R_mv t0 ?_
  refine R_mkf (evcons t3 evnil) ?_
  refine R_callE (evcons (@rfl V (V.ms 209 v9 0 (l.length))) (evcons (@rfl V (V.fn 117 [] [(V.mp 303 (v3 + 1) 0 0)])) evnil)) (del_E l t v9 (v3 + 1) v7 _ h209 h303 h407 (by omega)) ?_
  refine R_mv (@rfl V (V.ms 209 v9 0 (((l.filter (kp t)).length)))) ?_
  exact R_nil ⟨rfl, t3, (upd_out (upd_out hF (by decide)) (by decide)), rfl, h303, h308, h354, rfl, trivial⟩
 intro T H ⟨t0, t3, hF, h209, h303, h308, h354, h407, _⟩
 refine W_seq_seq ?_
 refine W_seq_regc (fun T H => T 0 = (V.ms 209 v9 0 (((l.filter (kp t)).length))) ∧ T 3 = (V.mp 303 (v3 + 1) 0 0) ∧ T 43 = (V.bool (decide (((((l.filter (kp t)).length) : Nat) : Int) = (10000 : Int)))) ∧ (∀ j, j ∉ [303, 308, 354, 407, 209] → H j = Hi j) ∧ H 209 = (⟨v9, true, false, 63, 2, (List.map cT (l.filter (kp t)) ++ List.replicate (l.length - (l.filter (kp t)).length) [V.nilsl, V.nilsl])⟩ : Blk) ∧ H 303 = (⟨v3 + 1, true, false, 63, 2, [[(V.sl (List.map cI (t.ni))), (V.sl (List.map cI (t.no)))]]⟩ : Blk) ∧ (H 308).ver = v308 ∧ (H 354).ver = v54 ∧ H 407 = (⟨v7 + l.length, false, false, 0, 0, []⟩ : Blk) ∧ True) ?_ ?_
 ·
  unfold r103_12
  refine R_mv t0 ?_
  refine R_len_ms (@rfl V (V.ms 209 v9 0 (((l.filter (kp t)).length)))) h209 (by first | rfl | simp) ?_
  refine R_eql (x := ((((l.filter (kp t)).length) : Nat) : Int)) (y := (10000 : Int)) (@rfl V (iV ((((l.filter (kp t)).length) : Nat) : Int))) (@rfl V (iV (10000 : Int))) ?_
  exact R_nil ⟨t0, t3, rfl, hF, h209, h303, h308, h354, h407, trivial⟩
 intro T H ⟨t0, t3, t43, hF, h209, h303, h308, h354, h407, _⟩
 refine W_seq_if (p := ((((l.filter (kp t)).length) : Nat) : Int) = (10000 : Int)) t43 (fun c9 => ?_) (fun c9 => ?_)
 ·
  have d3 := c9
  refine W_seq_seq ?_
  refine W_seq_regc (fun T H => T 4 = V.nilsl ∧ T 5 = (iV (11 : Int)) ∧ (∀ j, j ∉ [303, 308, 354, 407, 209] → H j = Hi j) ∧ H 209 = (⟨v9, true, false, 63, 2, (List.map cT (l.filter (kp t)) ++ List.replicate (l.length - (l.filter (kp t)).length) [V.nilsl, V.nilsl])⟩ : Blk) ∧ H 303 = (⟨v3 + 1, true, false, 63, 2, [[(V.sl (List.map cI (t.ni))), (V.sl (List.map cI (t.no)))]]⟩ : Blk) ∧ (H 308).ver = v308 ∧ (H 354).ver = v54 ∧ H 407 = (⟨v7 + l.length, false, false, 0, 0, []⟩ : Blk) ∧ True) ?_ ?_
  ·
   unfold r103_13
   refine R_mv (@rfl V V.nilsl) ?_
   refine R_mv (@rfl V (iV (11 : Int))) ?_
   exact R_nil ⟨rfl, rfl, hF, h209, h303, h308, h354, h407, trivial⟩
  intro T H ⟨t4, t5, hF, h209, h303, h308, h354, h407, _⟩
  refine W_seq_ret ?_
  have d4 : ¬0 ≤ fi (ndP l t) 0 l.length := by rw [hc, fi_end (by omega)]; omega
  
  have fh := FinX.fin (FinX.putv (n := v9) (B := (⟨v9 + 2, false, false, 0, 0, []⟩ : Blk)) (FinX.put (FinX.putv (n := v54) (B := (⟨v54 + 1, false, false, 0, 0, []⟩ : Blk)) (FinX.putv (n := v308) (B := (⟨v8 + l.length, false, false, 0, 0, []⟩ : Blk)) (FinX.putv (n := (v3 + 1)) (B := (⟨v3 + 1, false, false, 0, 0, []⟩ : Blk)) (FinX.start hF) (congrArg Blk.ver h303) (by show _ ≤ v3 + 1; omega) rfl) h308 (by show _ ≤ v8 + l.length; omega) rfl) h354 (by show _ ≤ v54 + 1; omega) rfl) h407 (FinB.eq rfl)) (congrArg Blk.ver h209) (by show _ ≤ v9 + 2; omega) rfl)
  exact RetF_2 t4 t5 fh .nil (FinV.trans_eq (FinV.same fh _) (by first | rfl | (simp only [exB, inP, Nat.zero_add]; done) | (rw [he]; done) | (rw [addL, if_pos d2]; done) | (rw [addL, if_neg d2, ins_len]; done) | (rw [addE, if_pos (by rw [hc, fi_hit d1 (by omega)]; omega)]; done) | (rw [addE, if_neg d4, if_neg d2, if_pos (by omega)]; done)))
 have d3 := c9
 refine W_seq_skip ?_
 refine W_seq_regc (fun T H => T 0 = (V.ms 209 v9 0 (((l.filter (kp t)).length))) ∧ T 3 = (V.mp 303 (v3 + 1) 0 0) ∧ T 9 = (iV ((lbN (l.filter (kp t)) t : Nat) : Int)) ∧ (∀ j, j ∉ [303, 308, 354, 407, 209] → H j = Hi j) ∧ H 209 = (⟨v9, true, false, 63, 2, (List.map cT (l.filter (kp t)) ++ List.replicate (l.length - (l.filter (kp t)).length) [V.nilsl, V.nilsl])⟩ : Blk) ∧ H 303 = (⟨v3 + 1, true, false, 63, 2, [[(V.sl (List.map cI (t.ni))), (V.sl (List.map cI (t.no)))]]⟩ : Blk) ∧ (H 308).ver = v308 ∧ (H 354).ver = v54 ∧ H 407 = (⟨v7 + l.length, false, false, 0, 0, []⟩ : Blk) ∧ True) ?_ ?_
 ·
  unfold r103_14
  refine R_mv t0 ?_
  refine R_load_mp (v := (V.agg [(V.sl (List.map cI (t.ni))), (V.sl (List.map cI (t.no)))])) t3 h303 (by first | rfl | simp [ldB, ldV, Blk.own, V.one]) ?_
  refine R_call (evcons (@rfl V (V.ms 209 v9 0 (((l.filter (kp t)).length)))) (evcons (@rfl V (V.agg [(V.sl (List.map cI (t.ni))), (V.sl (List.map cI (t.no)))])) (evcons (@rfl V (V.fn 79 [] [])) evnil))) (bs_pure (l.filter (kp t)) t hsr (by first | omega | assumption)) (mcons (fz_mst h209 (by first | rfl | simp) (take_zap (l := (l.filter (kp t))) (by first | rfl | simp | omega)) (fun _ => by simp)) (mcons (fzv_canon 6 _ (by simp [-List.map_take, -List.map_drop, -List.map_append, -List.map_reverse])) (mcons (fzv_canon 6 _ (by simp [-List.map_take, -List.map_drop, -List.map_append, -List.map_reverse])) rfl))) (by simp [-List.map_take, -List.map_drop, -List.map_append, -List.map_reverse]) (Or.inr rfl) ?_
  refine R_mv (@rfl V (V.tup [(iV ((lbN (l.filter (kp t)) t : Nat) : Int)), (V.bool (decide (lbN (l.filter (kp t)) t < (l.filter (kp t)).length ∧ slx (nth (l.filter (kp t)) (lbN (l.filter (kp t)) t)).ni t.ni = 0)))])) ?_
  refine R_ext (v := (iV ((lbN (l.filter (kp t)) t : Nat) : Int))) (@rfl V (V.tup [(iV ((lbN (l.filter (kp t)) t : Nat) : Int)), (V.bool (decide (lbN (l.filter (kp t)) t < (l.filter (kp t)).length ∧ slx (nth (l.filter (kp t)) (lbN (l.filter (kp t)) t)).ni t.ni = 0)))])) rfl ?_
  refine R_ext (v := (V.bool (decide (lbN (l.filter (kp t)) t < (l.filter (kp t)).length ∧ slx (nth (l.filter (kp t)) (lbN (l.filter (kp t)) t)).ni t.ni = 0)))) (@rfl V (V.tup [(iV ((lbN (l.filter (kp t)) t : Nat) : Int)), (V.bool (decide (lbN (l.filter (kp t)) t < (l.filter (kp t)).length ∧ slx (nth (l.filter (kp t)) (lbN (l.filter (kp t)) t)).ni t.ni = 0)))])) rfl ?_
  refine R_mv (@rfl V (iV ((lbN (l.filter (kp t)) t : Nat) : Int))) ?_
  refine R_mv (@rfl V (V.bool (decide (lbN (l.filter (kp t)) t < (l.filter (kp t)).length ∧ slx (nth (l.filter (kp t)) (lbN (l.filter (kp t)) t)).ni t.ni = 0)))) ?_
  exact R_nil ⟨t0, t3, rfl, hF, h209, h303, h308, h354, h407, trivial⟩
 intro T H ⟨t0, t3, t9, hF, h209, h303, h308, h354, h407, _⟩
 refine W_seq_regc (fun T H => T 4 = (V.ms 209 (v9 + 2) 0 ((l.filter (kp t)).length + 1)) ∧ T 5 = (iV (0 : Int)) ∧ (∀ j, j ∉ [303, 308, 354, 407, 209] → H j = Hi j) ∧ H 209 = (⟨v9 + 2, true, false, 63, 2, (List.map cT (ins (l.filter (kp t)) t))⟩ : Blk) ∧ H 303 = (⟨v3 + 1, true, false, 63, 2, [[(V.sl (List.map cI (t.ni))), (V.sl (List.map cI (t.no)))]]⟩ : Blk) ∧ (H 308).ver = v308 ∧ H 354 = (⟨v54 + 1, true, false, 63, 2, [[(V.sl (List.map cI (t.ni))), (V.sl (List.map cI (t.no)))]]⟩ : Blk) ∧ H 407 = (⟨v7 + l.length, false, false, 0, 0, []⟩ : Blk) ∧ True) ?_ ?_
 ·
  unfold r103_15
  refine R_mv t0 ?_
  refine R_mv t9 ?_
  refine R_load_mp (v := (V.agg [(V.sl (List.map cI (t.ni))), (V.sl (List.map cI (t.no)))])) t3 h303 (by first | rfl | simp [ldB, ldV, Blk.own, V.one]) ?_
  refine R_call (evcons (@rfl V (V.agg [(V.sl (List.map cI (t.ni))), (V.sl (List.map cI (t.no)))])) evnil) (copied_pure t (by first | omega | assumption) (by first | omega | assumption)) (fzv_mapcanon _ _ (by simp [-List.map_take, -List.map_drop, -List.map_append, -List.map_reverse])) (by simp [-List.map_take, -List.map_drop, -List.map_append, -List.map_reverse]) (Or.inl (by simp [-List.map_take, -List.map_drop, -List.map_append, -List.map_reverse])) ?_
  refine R_bslice_own (i := 354) (n := v54) (qs := [(0, (V.agg [(V.sl (List.map cI (t.ni))), (V.sl (List.map cI (t.no)))]))]) (rows := [[(V.sl (List.map cI (t.ni))), (V.sl (List.map cI (t.no)))]]) (by rfl) h354 (mcons (congrArg (fun v => (0, v)) (@rfl V (V.agg [(V.sl (List.map cI (t.ni))), (V.sl (List.map cI (t.no)))]))) rfl) rfl ?_
  refine R_callE (evcons (@rfl V (V.ms 209 v9 0 (((l.filter (kp t)).length)))) (evcons (@rfl V (iV ((lbN (l.filter (kp t)) t : Nat) : Int))) (evcons (@rfl V (V.ms 354 (v54 + 1) 0 (1))) evnil))) (insert_tr (F := (l.filter (kp t))) (t := t) _ h209 rfl (by omega) hsr) ?_
  refine R_mv (@rfl V (V.ms 209 (v9 + 2) 0 ((l.filter (kp t)).length + 1))) ?_
  refine R_mv (@rfl V (iV (0 : Int))) ?_
  exact R_nil ⟨rfl, rfl, (upd_out (upd_out hF (by decide)) (by decide)), rfl, h303, h308, rfl, h407, trivial⟩
 intro T H ⟨t4, t5, hF, h209, h303, h308, h354, h407, _⟩
 refine W_ret ?_
 exfalso
 have d4 : ¬0 ≤ fi (ndP l t) 0 l.length := by rw [hc, fi_end (by omega)]; omega
 apply he; rw [addE, if_neg d4, if_neg d2, if_neg (by omega)]

end Go.Proofs.Ytngkckefanbhgaa

/-
  Traces added one after the other.
-/
namespace Go.Proofs.Ytngkckefanbhgaa
def alR (i : Int) : List Tr → List Tr → List Tr × Int
  | acc, [] => (acc, 0)
  | acc, t :: l => if prE t i ≠ 0 then ([], prE t i) else if addE acc t ≠ 0 then ([], addE acc t) else alR i (addL acc t) l
def alO (o : Ob) (l : List Tr) : Ob := if (alR o.i o.tr l).2 ≠ 0 then o else ⟨o.i, (alR o.i o.tr l).1⟩
theorem alR_go {i : Int} {acc l : List Tr} {k : Nat} (hk : k < l.length) (h1 : prE (nth l k) i = 0) (h2 : addE acc (nth l k) = 0) : alR i acc (l.drop k) = alR i (addL acc (nth l k)) (l.drop (k + 1)) := by
  rw [nth_drop hk, alR, if_neg (by omega), if_neg (by omega)]
theorem alR_pr {i : Int} {acc l : List Tr} {k : Nat} (hk : k < l.length) (h1 : prE (nth l k) i ≠ 0) : alR i acc (l.drop k) = ([], prE (nth l k) i) := by
  rw [nth_drop hk, alR, if_pos h1]
theorem alR_er {i : Int} {acc l : List Tr} {k : Nat} (hk : k < l.length) (h1 : prE (nth l k) i = 0) (h2 : addE acc (nth l k) ≠ 0) : alR i acc (l.drop k) = ([], addE acc (nth l k)) := by
  rw [nth_drop hk, alR, if_neg (by omega), if_pos h2]
theorem alR_end {i : Int} {acc l : List Tr} {k : Nat} (hk : l.length ≤ k) : alR i acc (l.drop k) = (acc, 0) := by
  rw [List.drop_of_length_le hk, alR]
theorem alR_ok {i : Int} : ∀ {l acc : List Tr}, OK ⟨i, acc⟩ → (alR i acc l).2 = 0 → OK ⟨i, (alR i acc l).1⟩
  | [], acc, h, _ => h
  | t :: l, acc, h, he => by
    rw [alR] at he ⊢
    split at he
    · contradiction
    rename_i h1
    split at he
    · contradiction
    rename_i h2
    rw [if_neg h1, if_neg h2]
    exact alR_ok (add_ok h (by omega) (by omega)) he
theorem alO_ok {o : Ob} {l : List Tr} (h : OK o) : OK (alO o l) := by
  unfold alO
  split
  · exact h
  · rename_i h1; exact alR_ok h (by omega)
theorem alO_i (o : Ob) (l : List Tr) : (alO o l).i = o.i := by unfold alO; split <;> rfl
end Go.Proofs.Ytngkckefanbhgaa

namespace Go.Proofs.Ytngkckefanbhgaa
open Go Go.Proofs

theorem all_pure (o : Ob) (l : List Tr) (ho : OK o) : PureC Try.prog 73 [(V.agg [(iV (o.i)), (V.sl (List.map cT (o.tr)))]), (V.sl (List.map cT (l)))] (V.tup [(V.agg [(iV ((alO o l).i)), (V.sl (List.map cT ((alO o l).tr)))]), (iV ((alR o.i o.tr l).2))]) := by
 refine pure_of_Wb true 6 Try.func73 s73_ok (by kernel_rfl) (by simp [s73]) (by simp) (by simp) fun hB => ?_
 simp only [bnd_map, bnd_int, bnd_bool, bnd_str, bnd_agg, bnd_pp, bnd_nil, bnd_cons, implies_true, and_true, true_and] at hB
 unfold s73
 dsimp only
 have hbd : ∀ k, k < o.tr.length → (nth o.tr k).ni.length ≤ 1048576 ∧ (nth o.tr k).no.length ≤ 1048576 := fun k hk => by have := (ho.pr k hk).1.len; have := (ho.pr k hk).1.lel; omega
 have hol := ho.len
 refine W_seq_regc (fun T H => T 1 = (V.sl (List.map cT (l))) ∧ T 2 = (V.mp 2 1 0 0) ∧ T 4 = (V.mp 4 1 0 0) ∧ H 2 = (⟨1, true, false, 34, 2, [[(iV (o.i)), (V.sl (List.map cT (o.tr)))]]⟩ : Blk) ∧ H 4 = (⟨1, true, false, 34, 2, [[(iV (0 : Int)), V.nilsl]]⟩ : Blk) ∧ H 8 = (⟨0, false, false, 0, 0, []⟩ : Blk) ∧ H 205 = (⟨0, false, false, 0, 0, []⟩ : Blk) ∧ H 209 = (⟨0, false, false, 0, 0, []⟩ : Blk) ∧ H 303 = (⟨0, false, false, 0, 0, []⟩ : Blk) ∧ H 308 = (⟨0, false, false, 0, 0, []⟩ : Blk) ∧ H 354 = (⟨0, false, false, 0, 0, []⟩ : Blk) ∧ H 407 = (⟨0, false, false, 0, 0, []⟩ : Blk) ∧ True) ?_ ?_
 ·
  unfold r73_0
  refine R_box (i := 2) (n := 0) (m := 2) (cs := [(iV (o.i)), (V.sl (List.map cT (o.tr)))]) rfl (congrArg Blk.ver rfl) (@rfl V (V.agg [(iV (o.i)), (V.sl (List.map cT (o.tr)))])) rfl rfl ?_
  refine R_alloc (i := 4) (n := 0) (m := 2) rfl (congrArg Blk.ver rfl) rfl ?_
  refine R_mv (@rfl V (iV (0 : Int))) ?_
  exact R_nil ⟨rfl, rfl, rfl, rfl, rfl, rfl, rfl, rfl, rfl, rfl, rfl, rfl, trivial⟩
 intro T H ⟨t1, t2, t4, h2, h4, h8, h205, h209, h303, h308, h354, h407, _⟩
 refine W_seq_regc (fun T H => T 1 = (V.sl (List.map cT (l))) ∧ T 2 = (V.mp 2 1 0 0) ∧ T 4 = (V.mp 4 1 0 0) ∧ T 6 = (V.ms 209 (0 + 1 + o.tr.length) 0 (o.tr.length)) ∧ H 2 = (⟨1, true, false, 34, 2, [[(iV (o.i)), (V.sl (List.map cT (o.tr)))]]⟩ : Blk) ∧ H 4 = (⟨1, true, false, 34, 2, [[(iV (0 : Int)), V.nilsl]]⟩ : Blk) ∧ H 8 = (⟨0, false, false, 0, 0, []⟩ : Blk) ∧ H 205 = (⟨0 + o.tr.length, false, false, 0, 0, []⟩ : Blk) ∧ H 209 = (⟨0 + 1 + o.tr.length, true, false, 63, 2, (List.map cT (o.tr))⟩ : Blk) ∧ H 303 = (⟨0, false, false, 0, 0, []⟩ : Blk) ∧ H 308 = (⟨0, false, false, 0, 0, []⟩ : Blk) ∧ H 354 = (⟨0, false, false, 0, 0, []⟩ : Blk) ∧ H 407 = (⟨0, false, false, 0, 0, []⟩ : Blk) ∧ True) ?_ ?_
 ·
  unfold r73_1
  refine R_fld_mp (o' := 1) t2 h2 (by first | rfl | simp [okB, Blk.own]) rfl ?_
  refine R_load_mp (v := (V.sl (List.map cT (o.tr)))) (@rfl V (V.mp 2 1 0 1)) h2 (by first | rfl | simp [ldB, ldV, Blk.own, V.one]) ?_
  refine R_callE (evcons (@rfl V (V.sl (List.map cT (o.tr)))) evnil) (owned_E o.tr 0 0 hbd _ (congrArg Blk.ver h205) (congrArg Blk.ver h209) (by omega)) ?_
  refine R_mv (@rfl V (V.ms 209 (0 + 1 + o.tr.length) 0 (o.tr.length))) ?_
  exact R_nil ⟨t1, t2, t4, rfl, h2, h4, h8, rfl, rfl, h303, h308, h354, h407, trivial⟩
 intro T H ⟨t1, t2, t4, t6, h2, h4, h8, h205, h209, h303, h308, h354, h407, _⟩
 refine W_seq_seq ?_
 refine W_seq_regc (fun T H => T 2 = (V.mp 2 1 0 0) ∧ T 4 = (V.mp 4 1 0 0) ∧ T 6 = (V.ms 209 (0 + 1 + o.tr.length) 0 (o.tr.length)) ∧ T 15 = (V.sl (List.map cT (l))) ∧ T 16 = (iV ((l.length : Nat) : Int)) ∧ T 17 = (iV (0 : Int)) ∧ H 2 = (⟨1, true, false, 34, 2, [[(iV (o.i)), (V.sl (List.map cT (o.tr)))]]⟩ : Blk) ∧ H 4 = (⟨1, true, false, 34, 2, [[(iV (0 : Int)), V.nilsl]]⟩ : Blk) ∧ H 8 = (⟨0, false, false, 0, 0, []⟩ : Blk) ∧ H 205 = (⟨0 + o.tr.length, false, false, 0, 0, []⟩ : Blk) ∧ H 209 = (⟨0 + 1 + o.tr.length, true, false, 63, 2, (List.map cT (o.tr))⟩ : Blk) ∧ H 303 = (⟨0, false, false, 0, 0, []⟩ : Blk) ∧ H 308 = (⟨0, false, false, 0, 0, []⟩ : Blk) ∧ H 354 = (⟨0, false, false, 0, 0, []⟩ : Blk) ∧ H 407 = (⟨0, false, false, 0, 0, []⟩ : Blk) ∧ True) ?_ ?_
 ·
  unfold r73_2
  refine R_mv t1 ?_
  refine R_len (@rfl V (V.sl (List.map cT (l)))) ?_
  refine R_mv (@rfl V (iV (0 : Int))) ?_
  exact R_nil ⟨t2, t4, t6, rfl, rfl, rfl, h2, h4, h8, h205, h209, h303, h308, h354, h407, trivial⟩
 intro T H ⟨t2, t4, t6, t15, t16, t17, h2, h4, h8, h205, h209, h303, h308, h354, h407, _⟩
 refine W_seq_blockg fun Q1 n1 x1 y1 z1 => ?_
 refine W_loop (fun mm T H => ∃ (k : Nat) (w : Nat) (acc : List Tr) (v8 : Nat) (v303 : Nat) (v308 : Nat) (v354 : Nat) (v407 : Nat), mm = l.length - k ∧ T 2 = (V.mp 2 1 0 0) ∧ T 4 = (V.mp 4 1 0 0) ∧ T 6 = (V.ms 209 w 0 (acc.length)) ∧ T 15 = (V.sl (List.map cT (l))) ∧ T 16 = (iV ((l.length : Nat) : Int)) ∧ T 17 = (iV ((k : Nat) : Int)) ∧ H 2 = (⟨1, true, false, 34, 2, [[(iV (o.i)), (V.sl (List.map cT (o.tr)))]]⟩ : Blk) ∧ H 4 = (⟨1, true, false, 34, 2, [[(iV (0 : Int)), V.nilsl]]⟩ : Blk) ∧ (H 8).ver = v8 ∧ H 205 = (⟨0 + o.tr.length, false, false, 0, 0, []⟩ : Blk) ∧ H 209 = (⟨w, true, false, 63, 2, (List.map cT (acc))⟩ : Blk) ∧ (H 303).ver = v303 ∧ (H 308).ver = v308 ∧ (H 354).ver = v354 ∧ (H 407).ver = v407 ∧ (k ≤ l.length) ∧ (alR o.i o.tr l = alR o.i acc (l.drop k)) ∧ (OK ⟨o.i, acc⟩)) ?_ ?_
 ·
  refine ⟨_, 0, (0 + 1 + o.tr.length), o.tr, 0, 0, 0, 0, 0, rfl, t2, t4, (Eq.trans t6 (by first | rfl | simp)), t15, t16, (Eq.trans t17 (by first | rfl | simp)), h2, h4, (congrArg Blk.ver h8), h205, (Eq.trans h209 (by first | rfl | simp)), (congrArg Blk.ver h303), (congrArg Blk.ver h308), (congrArg Blk.ver h354), (congrArg Blk.ver h407), ?_, ?_, ?_⟩
  · omega
  · rfl
  · exact ho
 intro mm T H ⟨k, w, acc, v8, v303, v308, v354, v407, hmm, t2, t4, t6, t15, t16, t17, h2, h4, h8, h205, h209, h303, h308, h354, h407, hk, hc, hok⟩ Q2 p12 p22 p32
 unfold b73_0
 refine W_seq_regc (fun T H => T 2 = (V.mp 2 1 0 0) ∧ T 4 = (V.mp 4 1 0 0) ∧ T 6 = (V.ms 209 w 0 (acc.length)) ∧ T 15 = (V.sl (List.map cT (l))) ∧ T 16 = (iV ((l.length : Nat) : Int)) ∧ T 17 = (iV ((k : Nat) : Int)) ∧ T 18 = (V.bool (decide (((k : Nat) : Int) < ((l.length : Nat) : Int)))) ∧ H 2 = (⟨1, true, false, 34, 2, [[(iV (o.i)), (V.sl (List.map cT (o.tr)))]]⟩ : Blk) ∧ H 4 = (⟨1, true, false, 34, 2, [[(iV (0 : Int)), V.nilsl]]⟩ : Blk) ∧ (H 8).ver = v8 ∧ H 205 = (⟨0 + o.tr.length, false, false, 0, 0, []⟩ : Blk) ∧ H 209 = (⟨w, true, false, 63, 2, (List.map cT (acc))⟩ : Blk) ∧ (H 303).ver = v303 ∧ (H 308).ver = v308 ∧ (H 354).ver = v354 ∧ (H 407).ver = v407 ∧ True) ?_ ?_
 ·
  unfold r73_3
  refine R_lss (x := ((k : Nat) : Int)) (y := ((l.length : Nat) : Int)) t17 t16 ?_
  exact R_nil ⟨t2, t4, t6, t15, t16, t17, rfl, h2, h4, h8, h205, h209, h303, h308, h354, h407, trivial⟩
 intro T H ⟨t2, t4, t6, t15, t16, t17, t18, h2, h4, h8, h205, h209, h303, h308, h354, h407, _⟩
 refine W_seq_if (p := ((k : Nat) : Int) < ((l.length : Nat) : Int)) t18 (fun c3 => ?_) (fun c3 => ?_)
 ·
  refine W_seq_skip ?_
  refine W_seq_blockg fun Q4 n4 x4 y4 z4 => ?_
  refine W_seq_regc (fun T H => T 2 = (V.mp 2 1 0 0) ∧ T 4 = (V.mp 4 1 0 0) ∧ T 6 = (V.ms 209 w 0 (acc.length)) ∧ T 8 = (V.mp 8 (v8 + 1) 0 0) ∧ T 15 = (V.sl (List.map cT (l))) ∧ T 16 = (iV ((l.length : Nat) : Int)) ∧ T 17 = (iV ((k : Nat) : Int)) ∧ H 2 = (⟨1, true, false, 34, 2, [[(iV (o.i)), (V.sl (List.map cT (o.tr)))]]⟩ : Blk) ∧ H 4 = (⟨1, true, false, 34, 2, [[(iV (0 : Int)), V.nilsl]]⟩ : Blk) ∧ H 8 = (⟨v8 + 1, true, false, 63, 2, [[(V.sl (List.map cI ((nth (l) (k)).ni))), (V.sl (List.map cI ((nth (l) (k)).no)))]]⟩ : Blk) ∧ H 205 = (⟨0 + o.tr.length, false, false, 0, 0, []⟩ : Blk) ∧ H 209 = (⟨w, true, false, 63, 2, (List.map cT (acc))⟩ : Blk) ∧ (H 303).ver = v303 ∧ (H 308).ver = v308 ∧ (H 354).ver = v354 ∧ (H 407).ver = v407 ∧ True) ?_ ?_
  ·
   unfold r73_4
   refine R_idx (i := k) t15 t17 (by omega) rfl ?_
   refine R_load_pp (v := (V.agg [(V.sl (List.map cI ((nth (l) (k)).ni))), (V.sl (List.map cI ((nth (l) (k)).no)))])) (@rfl V (V.pp [(V.sl (List.map cI ((nth (l) (k)).ni))), (V.sl (List.map cI ((nth (l) (k)).no)))])) (by first | rfl | simp [ldV]) ?_
   refine R_alloc (i := 8) (n := v8) (m := 2) rfl h8 rfl ?_
   refine R_store (vs := [(V.sl (List.map cI ((nth (l) (k)).ni))), (V.sl (List.map cI ((nth (l) (k)).no)))]) (B' := (⟨v8 + 1, true, false, 63, 2, [[(V.sl (List.map cI ((nth (l) (k)).ni))), (V.sl (List.map cI ((nth (l) (k)).no)))]]⟩ : Blk)) (@rfl V (V.mp 8 (v8 + 1) 0 0)) (@rfl V (V.agg [(V.sl (List.map cI ((nth (l) (k)).ni))), (V.sl (List.map cI ((nth (l) (k)).no)))])) rfl (@rfl Blk (⟨v8 + 1, true, false, 63, 2, [[V.nilsl, V.nilsl]]⟩ : Blk)) (by first | rfl | simp [stB, okB, Blk.own, putAt, V.one]) ?_
   exact R_nil ⟨t2, t4, t6, rfl, t15, t16, t17, h2, h4, rfl, h205, h209, h303, h308, h354, h407, trivial⟩
  intro T H ⟨t2, t4, t6, t8, t15, t16, t17, h2, h4, h8, h205, h209, h303, h308, h354, h407, _⟩
  refine W_seq_seq ?_
  refine W_seq_regc (fun T H => T 2 = (V.mp 2 1 0 0) ∧ T 4 = (V.mp 4 1 0 0) ∧ T 6 = (V.ms 209 w 0 (acc.length)) ∧ T 8 = (V.mp 8 (v8 + 1) 0 0) ∧ T 9 = (iV (prE ((nth (l) (k))) ((o.i)))) ∧ T 15 = (V.sl (List.map cT (l))) ∧ T 16 = (iV ((l.length : Nat) : Int)) ∧ T 17 = (iV ((k : Nat) : Int)) ∧ H 2 = (⟨1, true, false, 34, 2, [[(iV (o.i)), (V.sl (List.map cT (o.tr)))]]⟩ : Blk) ∧ H 4 = (⟨1, true, false, 34, 2, [[(iV (0 : Int)), V.nilsl]]⟩ : Blk) ∧ H 8 = (⟨v8 + 1, true, false, 63, 2, [[(V.sl (List.map cI ((nth (l) (k)).ni))), (V.sl (List.map cI ((nth (l) (k)).no)))]]⟩ : Blk) ∧ H 205 = (⟨0 + o.tr.length, false, false, 0, 0, []⟩ : Blk) ∧ H 209 = (⟨w, true, false, 63, 2, (List.map cT (acc))⟩ : Blk) ∧ (H 303).ver = v303 ∧ (H 308).ver = v308 ∧ (H 354).ver = v354 ∧ (H 407).ver = v407 ∧ True) ?_ ?_
  ·
   unfold r73_5
   refine R_load_mp (v := (V.agg [(V.sl (List.map cI ((nth (l) (k)).ni))), (V.sl (List.map cI ((nth (l) (k)).no)))])) t8 h8 (by first | rfl | simp [ldB, ldV, Blk.own, V.one]) ?_
   refine R_fld_mp (o' := 0) t2 h2 (by first | rfl | simp [okB, Blk.own]) rfl ?_
   refine R_load_mp (v := (iV (o.i))) (@rfl V (V.mp 2 1 0 0)) h2 (by first | rfl | simp [ldB, ldV, Blk.own, V.one]) ?_
   refine R_call (evcons (@rfl V (V.agg [(V.sl (List.map cI ((nth (l) (k)).ni))), (V.sl (List.map cI ((nth (l) (k)).no)))])) (evcons (@rfl V (iV (o.i))) evnil)) (proper_pure ((nth (l) (k))) ((o.i))) (fzv_mapcanon _ _ (by simp [-List.map_take, -List.map_drop, -List.map_append, -List.map_reverse])) (by simp [-List.map_take, -List.map_drop, -List.map_append, -List.map_reverse]) (Or.inl (by simp [-List.map_take, -List.map_drop, -List.map_append, -List.map_reverse])) ?_
   refine R_mv (@rfl V (iV (prE ((nth (l) (k))) ((o.i))))) ?_
   exact R_nil ⟨t2, t4, t6, t8, rfl, t15, t16, t17, h2, h4, h8, h205, h209, h303, h308, h354, h407, trivial⟩
  intro T H ⟨t2, t4, t6, t8, t9, t15, t16, t17, h2, h4, h8, h205, h209, h303, h308, h354, h407, _⟩
  refine W_seq_seq ?_
  refine W_seq_regc (fun T H => T 2 = (V.mp 2 1 0 0) ∧ T 4 = (V.mp 4 1 0 0) ∧ T 6 = (V.ms 209 w 0 (acc.length)) ∧ T 8 = (V.mp 8 (v8 + 1) 0 0) ∧ T 9 = (iV (prE ((nth (l) (k))) ((o.i)))) ∧ T 15 = (V.sl (List.map cT (l))) ∧ T 16 = (iV ((l.length : Nat) : Int)) ∧ T 17 = (iV ((k : Nat) : Int)) ∧ T 26 = (V.bool (decide ((prE ((nth (l) (k))) ((o.i))) ≠ (0 : Int)))) ∧ H 2 = (⟨1, true, false, 34, 2, [[(iV (o.i)), (V.sl (List.map cT (o.tr)))]]⟩ : Blk) ∧ H 4 = (⟨1, true, false, 34, 2, [[(iV (0 : Int)), V.nilsl]]⟩ : Blk) ∧ H 8 = (⟨v8 + 1, true, false, 63, 2, [[(V.sl (List.map cI ((nth (l) (k)).ni))), (V.sl (List.map cI ((nth (l) (k)).no)))]]⟩ : Blk) ∧ H 205 = (⟨0 + o.tr.length, false, false, 0, 0, []⟩ : Blk) ∧ H 209 = (⟨w, true, false, 63, 2, (List.map cT (acc))⟩ : Blk) ∧ (H 303).ver = v303 ∧ (H 308).ver = v308 ∧ (H 354).ver = v354 ∧ (H 407).ver = v407 ∧ True) ?_ ?_
  ·
   unfold r73_6
   refine R_mv t9 ?_
   refine R_neq (x := (prE ((nth (l) (k))) ((o.i)))) (y := (0 : Int)) (@rfl V (iV (prE ((nth (l) (k))) ((o.i))))) (@rfl V (iV (0 : Int))) ?_
   exact R_nil ⟨t2, t4, t6, t8, t9, t15, t16, t17, rfl, h2, h4, h8, h205, h209, h303, h308, h354, h407, trivial⟩
  intro T H ⟨t2, t4, t6, t8, t9, t15, t16, t17, t26, h2, h4, h8, h205, h209, h303, h308, h354, h407, _⟩
  refine W_seq_if (p := (prE ((nth (l) (k))) ((o.i))) ≠ (0 : Int)) t26 (fun c5 => ?_) (fun c5 => ?_)
  ·
   have d1 := c5
   refine W_seq_seq ?_
   refine W_seq_regc (fun T H => T 4 = (V.mp 4 1 0 0) ∧ T 5 = (iV (prE ((nth (l) (k))) ((o.i)))) ∧ H 2 = (⟨1, true, false, 34, 2, [[(iV (o.i)), (V.sl (List.map cT (o.tr)))]]⟩ : Blk) ∧ H 4 = (⟨1, true, false, 34, 2, [[(iV (o.i)), (V.sl (List.map cT (o.tr)))]]⟩ : Blk) ∧ H 8 = (⟨v8 + 1, true, false, 63, 2, [[(V.sl (List.map cI ((nth (l) (k)).ni))), (V.sl (List.map cI ((nth (l) (k)).no)))]]⟩ : Blk) ∧ H 205 = (⟨0 + o.tr.length, false, false, 0, 0, []⟩ : Blk) ∧ H 209 = (⟨w, true, false, 63, 2, (List.map cT (acc))⟩ : Blk) ∧ (H 303).ver = v303 ∧ (H 308).ver = v308 ∧ (H 354).ver = v354 ∧ (H 407).ver = v407 ∧ True) ?_ ?_
   ·
    unfold r73_7
    refine R_load_mp (v := (V.agg [(iV (o.i)), (V.sl (List.map cT (o.tr)))])) t2 h2 (by first | rfl | simp [ldB, ldV, Blk.own, V.one]) ?_
    refine R_mv t9 ?_
    refine R_store (vs := [(iV (o.i)), (V.sl (List.map cT (o.tr)))]) (B' := (⟨1, true, false, 34, 2, [[(iV (o.i)), (V.sl (List.map cT (o.tr)))]]⟩ : Blk)) t4 (@rfl V (V.agg [(iV (o.i)), (V.sl (List.map cT (o.tr)))])) rfl h4 (by first | rfl | simp [stB, okB, Blk.own, putAt, V.one]) ?_
    refine R_mv (@rfl V (iV (prE ((nth (l) (k))) ((o.i))))) ?_
    exact R_nil ⟨t4, rfl, h2, rfl, h8, h205, h209, h303, h308, h354, h407, trivial⟩
   intro T H ⟨t4, t5, h2, h4, h8, h205, h209, h303, h308, h354, h407, _⟩
   refine W_seq_ret ?_
   refine y4 _ _ ?_
   refine p22 _ _ ?_
   refine y1 _ _ ?_
   refine RetC_2 (resV_c (u := (V.agg [(iV (o.i)), (V.sl (List.map cT (o.tr)))])) t4 h4 (by first | rfl | simp [ldB, ldV, Blk.own, V.one])) (resV_t t5) (fz_agg2 (fz_int ?_) (fz_sl ?_ (fun _ => by simp))) (fz_int ?_)
   · rw [alO_i]
   · unfold alO; rw [if_pos (by rw [hc, alR_pr (by omega) d1]; exact d1)]
   · rw [hc, alR_pr (by omega) d1]
  have d1 : prE (nth l k) o.i = 0 := by omega
  refine W_seq_skip ?_
  refine W_seq_reg fun K hK => ?_
  unfold r73_8
  refine R_mv t6 ?_
  refine R_load_mp (v := (V.agg [(V.sl (List.map cI ((nth (l) (k)).ni))), (V.sl (List.map cI ((nth (l) (k)).no)))])) t8 h8 (by first | rfl | simp [ldB, ldV, Blk.own, V.one]) ?_
  by_cases heF : addE acc ((nth (l) (k))) = 0
  ·
   refine R_callE (evcons (@rfl V (V.ms 209 w 0 (acc.length))) (evcons (@rfl V (V.agg [(V.sl (List.map cI ((nth (l) (k)).ni))), (V.sl (List.map cI ((nth (l) (k)).no)))])) evnil)) (add_ok_E acc ((nth (l) (k))) _ w v303 v308 v354 v407 hok d1 heF _ h209 h303 h308 h354 h407) ?_
   refine R_mv (@rfl V (V.tup [(V.ms 209 (w + 2) 0 ((addL acc ((nth (l) (k)))).length)), (iV (addE acc ((nth (l) (k)))))])) ?_
   refine R_ext (v := (V.ms 209 (w + 2) 0 ((addL acc ((nth (l) (k)))).length))) (@rfl V (V.tup [(V.ms 209 (w + 2) 0 ((addL acc ((nth (l) (k)))).length)), (iV (addE acc ((nth (l) (k)))))])) rfl ?_
   refine R_ext (v := (iV (addE acc ((nth (l) (k)))))) (@rfl V (V.tup [(V.ms 209 (w + 2) 0 ((addL acc ((nth (l) (k)))).length)), (iV (addE acc ((nth (l) (k)))))])) rfl ?_
   refine R_mv (@rfl V (V.ms 209 (w + 2) 0 ((addL acc ((nth (l) (k)))).length))) ?_
   refine R_mv (@rfl V (iV (addE acc ((nth (l) (k)))))) ?_
   refine R_nil (hK _ _ ?_); clear hK K
   refine fork_ (R := fun T H => T 2 = (V.mp 2 1 0 0) ∧ T 4 = (V.mp 4 1 0 0) ∧ T 10 = (V.ms 209 (w + 2) 0 ((addL acc ((nth (l) (k)))).length)) ∧ T 11 = (iV (addE acc ((nth (l) (k))))) ∧ T 15 = (V.sl (List.map cT (l))) ∧ T 16 = (iV ((l.length : Nat) : Int)) ∧ T 17 = (iV ((k : Nat) : Int)) ∧ H 2 = (⟨1, true, false, 34, 2, [[(iV (o.i)), (V.sl (List.map cT (o.tr)))]]⟩ : Blk) ∧ H 4 = (⟨1, true, false, 34, 2, [[(iV (0 : Int)), V.nilsl]]⟩ : Blk) ∧ H 8 = (⟨v8 + 1, true, false, 63, 2, [[(V.sl (List.map cI ((nth (l) (k)).ni))), (V.sl (List.map cI ((nth (l) (k)).no)))]]⟩ : Blk) ∧ H 205 = (⟨0 + o.tr.length, false, false, 0, 0, []⟩ : Blk) ∧ H 209 = (⟨w + 2, true, false, 63, 2, (List.map cT (addL acc ((nth (l) (k)))))⟩ : Blk) ∧ H 303 = (⟨v303 + 1, false, false, 0, 0, []⟩ : Blk) ∧ H 308 = (⟨v308 + acc.length, false, false, 0, 0, []⟩ : Blk) ∧ H 354 = (⟨v354 + 1, false, false, 0, 0, []⟩ : Blk) ∧ H 407 = (⟨v407 + acc.length, false, false, 0, 0, []⟩ : Blk) ∧ True) ⟨t2, t4, rfl, rfl, t15, t16, t17, h2, h4, h8, h205, rfl, rfl, rfl, rfl, rfl, trivial⟩ ?_
   intro T H ⟨t2, t4, t10, t11, t15, t16, t17, h2, h4, h8, h205, h209, h303, h308, h354, h407, _⟩
   refine W_seq_seq ?_
   refine W_seq_regc (fun T H => T 2 = (V.mp 2 1 0 0) ∧ T 4 = (V.mp 4 1 0 0) ∧ T 10 = (V.ms 209 (w + 2) 0 ((addL acc ((nth (l) (k)))).length)) ∧ T 11 = (iV (addE acc ((nth (l) (k))))) ∧ T 15 = (V.sl (List.map cT (l))) ∧ T 16 = (iV ((l.length : Nat) : Int)) ∧ T 17 = (iV ((k : Nat) : Int)) ∧ T 36 = (V.bool (decide ((addE acc ((nth (l) (k)))) ≠ (0 : Int)))) ∧ H 2 = (⟨1, true, false, 34, 2, [[(iV (o.i)), (V.sl (List.map cT (o.tr)))]]⟩ : Blk) ∧ H 4 = (⟨1, true, false, 34, 2, [[(iV (0 : Int)), V.nilsl]]⟩ : Blk) ∧ H 8 = (⟨v8 + 1, true, false, 63, 2, [[(V.sl (List.map cI ((nth (l) (k)).ni))), (V.sl (List.map cI ((nth (l) (k)).no)))]]⟩ : Blk) ∧ H 205 = (⟨0 + o.tr.length, false, false, 0, 0, []⟩ : Blk) ∧ H 209 = (⟨w + 2, true, false, 63, 2, (List.map cT (addL acc ((nth (l) (k)))))⟩ : Blk) ∧ H 303 = (⟨v303 + 1, false, false, 0, 0, []⟩ : Blk) ∧ H 308 = (⟨v308 + acc.length, false, false, 0, 0, []⟩ : Blk) ∧ H 354 = (⟨v354 + 1, false, false, 0, 0, []⟩ : Blk) ∧ H 407 = (⟨v407 + acc.length, false, false, 0, 0, []⟩ : Blk) ∧ True) ?_ ?_
   ·
    unfold r73_9
    refine R_mv t11 ?_
    refine R_neq (x := (addE acc ((nth (l) (k))))) (y := (0 : Int)) (@rfl V (iV (addE acc ((nth (l) (k)))))) (@rfl V (iV (0 : Int))) ?_
    exact R_nil ⟨t2, t4, t10, t11, t15, t16, t17, rfl, h2, h4, h8, h205, h209, h303, h308, h354, h407, trivial⟩
   intro T H ⟨t2, t4, t10, t11, t15, t16, t17, t36, h2, h4, h8, h205, h209, h303, h308, h354, h407, _⟩
   refine W_seq_if (p := (addE acc ((nth (l) (k)))) ≠ (0 : Int)) t36 (fun c8 => ?_) (fun c8 => ?_)
   · exact ((fun (e : (addE acc ((nth (l) (k)))) ≠ (0 : Int)) => e heF) c8).elim
   refine W_seq_skip ?_
   refine W_regc (fun T H => T 2 = (V.mp 2 1 0 0) ∧ T 4 = (V.mp 4 1 0 0) ∧ T 6 = (V.ms 209 (w + 2) 0 ((addL acc ((nth (l) (k)))).length)) ∧ T 15 = (V.sl (List.map cT (l))) ∧ T 16 = (iV ((l.length : Nat) : Int)) ∧ T 17 = (iV ((k : Nat) : Int)) ∧ H 2 = (⟨1, true, false, 34, 2, [[(iV (o.i)), (V.sl (List.map cT (o.tr)))]]⟩ : Blk) ∧ H 4 = (⟨1, true, false, 34, 2, [[(iV (0 : Int)), V.nilsl]]⟩ : Blk) ∧ H 8 = (⟨v8 + 1, true, false, 63, 2, [[(V.sl (List.map cI ((nth (l) (k)).ni))), (V.sl (List.map cI ((nth (l) (k)).no)))]]⟩ : Blk) ∧ H 205 = (⟨0 + o.tr.length, false, false, 0, 0, []⟩ : Blk) ∧ H 209 = (⟨w + 2, true, false, 63, 2, (List.map cT (addL acc ((nth (l) (k)))))⟩ : Blk) ∧ H 303 = (⟨v303 + 1, false, false, 0, 0, []⟩ : Blk) ∧ H 308 = (⟨v308 + acc.length, false, false, 0, 0, []⟩ : Blk) ∧ H 354 = (⟨v354 + 1, false, false, 0, 0, []⟩ : Blk) ∧ H 407 = (⟨v407 + acc.length, false, false, 0, 0, []⟩ : Blk) ∧ True) ?_ ?_
   ·
    unfold r73_11
    refine R_mv t10 ?_
    refine R_mv (@rfl V (V.ms 209 (w + 2) 0 ((addL acc ((nth (l) (k)))).length))) ?_
    exact R_nil ⟨t2, t4, rfl, t15, t16, t17, h2, h4, h8, h205, h209, h303, h308, h354, h407, trivial⟩
   intro T H ⟨t2, t4, t6, t15, t16, t17, h2, h4, h8, h205, h209, h303, h308, h354, h407, _⟩
   refine n4 _ _ ?_
   refine .done ?_
   refine W_regc (fun T H => T 2 = (V.mp 2 1 0 0) ∧ T 4 = (V.mp 4 1 0 0) ∧ T 6 = (V.ms 209 (w + 2) 0 ((addL acc ((nth (l) (k)))).length)) ∧ T 15 = (V.sl (List.map cT (l))) ∧ T 16 = (iV ((l.length : Nat) : Int)) ∧ T 17 = (iV ((k + 1 : Nat) : Int)) ∧ H 2 = (⟨1, true, false, 34, 2, [[(iV (o.i)), (V.sl (List.map cT (o.tr)))]]⟩ : Blk) ∧ H 4 = (⟨1, true, false, 34, 2, [[(iV (0 : Int)), V.nilsl]]⟩ : Blk) ∧ H 8 = (⟨v8 + 1, true, false, 63, 2, [[(V.sl (List.map cI ((nth (l) (k)).ni))), (V.sl (List.map cI ((nth (l) (k)).no)))]]⟩ : Blk) ∧ H 205 = (⟨0 + o.tr.length, false, false, 0, 0, []⟩ : Blk) ∧ H 209 = (⟨w + 2, true, false, 63, 2, (List.map cT (addL acc ((nth (l) (k)))))⟩ : Blk) ∧ H 303 = (⟨v303 + 1, false, false, 0, 0, []⟩ : Blk) ∧ H 308 = (⟨v308 + acc.length, false, false, 0, 0, []⟩ : Blk) ∧ H 354 = (⟨v354 + 1, false, false, 0, 0, []⟩ : Blk) ∧ H 407 = (⟨v407 + acc.length, false, false, 0, 0, []⟩ : Blk) ∧ True) ?_ ?_
   ·
    unfold r73_12
    refine R_addN (m := k) (n := 1) t17 (@rfl V (iV ((1 : Nat) : Int))) (by omega) ?_
    refine R_mv (@rfl V (iV ((k + 1 : Nat) : Int))) ?_
    exact R_nil ⟨t2, t4, t6, t15, t16, rfl, h2, h4, h8, h205, h209, h303, h308, h354, h407, trivial⟩
   intro T H ⟨t2, t4, t6, t15, t16, t17, h2, h4, h8, h205, h209, h303, h308, h354, h407, _⟩
   refine p12 _ _ _ ?_ ⟨(k + 1), (w + 2), (addL acc ((nth (l) (k)))), (v8 + 1), (v303 + 1), (v308 + acc.length), (v354 + 1), (v407 + acc.length), rfl, t2, t4, (Eq.trans t6 (by first | rfl | simp)), t15, t16, (Eq.trans t17 (by first | rfl | simp)), h2, h4, (congrArg Blk.ver h8), h205, (Eq.trans h209 (by first | rfl | simp)), (congrArg Blk.ver h303), (congrArg Blk.ver h308), (congrArg Blk.ver h354), (congrArg Blk.ver h407), ?_, ?_, ?_⟩
   · omega
   · omega
   · rw [hc, alR_go (by omega) d1 heF]
   · exact add_ok hok d1 heF
  ·
   refine R_callE (evcons (@rfl V (V.ms 209 w 0 (acc.length))) (evcons (@rfl V (V.agg [(V.sl (List.map cI ((nth (l) (k)).ni))), (V.sl (List.map cI ((nth (l) (k)).no)))])) evnil)) (add_err_E acc ((nth (l) (k))) _ w v303 v308 v354 v407 hok d1 heF _ h209 h303 h308 h354 h407) ?_
   refine R_mv (@rfl V (V.tup [(V.sl []), (iV (addE acc ((nth (l) (k)))))])) ?_
   refine R_ext (v := (V.sl [])) (@rfl V (V.tup [(V.sl []), (iV (addE acc ((nth (l) (k)))))])) rfl ?_
   refine R_ext (v := (iV (addE acc ((nth (l) (k)))))) (@rfl V (V.tup [(V.sl []), (iV (addE acc ((nth (l) (k)))))])) rfl ?_
   refine R_mv (@rfl V (V.sl [])) ?_
   refine R_mv (@rfl V (iV (addE acc ((nth (l) (k)))))) ?_
   refine R_nil (hK _ _ ?_); clear hK K
   refine fork_ (R := fun T H => T 2 = (V.mp 2 1 0 0) ∧ T 4 = (V.mp 4 1 0 0) ∧ T 10 = (V.sl []) ∧ T 11 = (iV (addE acc ((nth (l) (k))))) ∧ T 15 = (V.sl (List.map cT (l))) ∧ T 16 = (iV ((l.length : Nat) : Int)) ∧ T 17 = (iV ((k : Nat) : Int)) ∧ H 2 = (⟨1, true, false, 34, 2, [[(iV (o.i)), (V.sl (List.map cT (o.tr)))]]⟩ : Blk) ∧ H 4 = (⟨1, true, false, 34, 2, [[(iV (0 : Int)), V.nilsl]]⟩ : Blk) ∧ H 8 = (⟨v8 + 1, true, false, 63, 2, [[(V.sl (List.map cI ((nth (l) (k)).ni))), (V.sl (List.map cI ((nth (l) (k)).no)))]]⟩ : Blk) ∧ H 205 = (⟨0 + o.tr.length, false, false, 0, 0, []⟩ : Blk) ∧ H 209 = (⟨w + 2, false, false, 0, 0, []⟩ : Blk) ∧ H 303 = (⟨v303 + 1, false, false, 0, 0, []⟩ : Blk) ∧ H 308 = (⟨v308 + acc.length, false, false, 0, 0, []⟩ : Blk) ∧ H 354 = (⟨v354 + 1, false, false, 0, 0, []⟩ : Blk) ∧ H 407 = (⟨v407 + acc.length, false, false, 0, 0, []⟩ : Blk) ∧ True) ⟨t2, t4, rfl, rfl, t15, t16, t17, h2, h4, h8, h205, rfl, rfl, rfl, rfl, rfl, trivial⟩ ?_
   intro T H ⟨t2, t4, t10, t11, t15, t16, t17, h2, h4, h8, h205, h209, h303, h308, h354, h407, _⟩
   refine W_seq_seq ?_
   refine W_seq_regc (fun T H => T 2 = (V.mp 2 1 0 0) ∧ T 4 = (V.mp 4 1 0 0) ∧ T 10 = (V.sl []) ∧ T 11 = (iV (addE acc ((nth (l) (k))))) ∧ T 15 = (V.sl (List.map cT (l))) ∧ T 16 = (iV ((l.length : Nat) : Int)) ∧ T 17 = (iV ((k : Nat) : Int)) ∧ T 36 = (V.bool (decide ((addE acc ((nth (l) (k)))) ≠ (0 : Int)))) ∧ H 2 = (⟨1, true, false, 34, 2, [[(iV (o.i)), (V.sl (List.map cT (o.tr)))]]⟩ : Blk) ∧ H 4 = (⟨1, true, false, 34, 2, [[(iV (0 : Int)), V.nilsl]]⟩ : Blk) ∧ H 8 = (⟨v8 + 1, true, false, 63, 2, [[(V.sl (List.map cI ((nth (l) (k)).ni))), (V.sl (List.map cI ((nth (l) (k)).no)))]]⟩ : Blk) ∧ H 205 = (⟨0 + o.tr.length, false, false, 0, 0, []⟩ : Blk) ∧ H 209 = (⟨w + 2, false, false, 0, 0, []⟩ : Blk) ∧ H 303 = (⟨v303 + 1, false, false, 0, 0, []⟩ : Blk) ∧ H 308 = (⟨v308 + acc.length, false, false, 0, 0, []⟩ : Blk) ∧ H 354 = (⟨v354 + 1, false, false, 0, 0, []⟩ : Blk) ∧ H 407 = (⟨v407 + acc.length, false, false, 0, 0, []⟩ : Blk) ∧ True) ?_ ?_
   ·
    unfold r73_9
    refine R_mv t11 ?_
    refine R_neq (x := (addE acc ((nth (l) (k))))) (y := (0 : Int)) (@rfl V (iV (addE acc ((nth (l) (k)))))) (@rfl V (iV (0 : Int))) ?_
    exact R_nil ⟨t2, t4, t10, t11, t15, t16, t17, rfl, h2, h4, h8, h205, h209, h303, h308, h354, h407, trivial⟩
   intro T H ⟨t2, t4, t10, t11, t15, t16, t17, t36, h2, h4, h8, h205, h209, h303, h308, h354, h407, _⟩
   refine W_seq_if (p := (addE acc ((nth (l) (k)))) ≠ (0 : Int)) t36 (fun c11 => ?_) (fun c11 => ?_)
   ·
    refine W_seq_seq ?_
    refine W_seq_regc (fun T H => T 4 = (V.mp 4 1 0 0) ∧ T 5 = (iV (addE acc ((nth (l) (k))))) ∧ H 2 = (⟨1, true, false, 34, 2, [[(iV (o.i)), (V.sl (List.map cT (o.tr)))]]⟩ : Blk) ∧ H 4 = (⟨1, true, false, 34, 2, [[(iV (o.i)), (V.sl (List.map cT (o.tr)))]]⟩ : Blk) ∧ H 8 = (⟨v8 + 1, true, false, 63, 2, [[(V.sl (List.map cI ((nth (l) (k)).ni))), (V.sl (List.map cI ((nth (l) (k)).no)))]]⟩ : Blk) ∧ H 205 = (⟨0 + o.tr.length, false, false, 0, 0, []⟩ : Blk) ∧ H 209 = (⟨w + 2, false, false, 0, 0, []⟩ : Blk) ∧ H 303 = (⟨v303 + 1, false, false, 0, 0, []⟩ : Blk) ∧ H 308 = (⟨v308 + acc.length, false, false, 0, 0, []⟩ : Blk) ∧ H 354 = (⟨v354 + 1, false, false, 0, 0, []⟩ : Blk) ∧ H 407 = (⟨v407 + acc.length, false, false, 0, 0, []⟩ : Blk) ∧ True) ?_ ?_
    ·
     unfold r73_10
     refine R_load_mp (v := (V.agg [(iV (o.i)), (V.sl (List.map cT (o.tr)))])) t2 h2 (by first | rfl | simp [ldB, ldV, Blk.own, V.one]) ?_
     refine R_mv t11 ?_
     refine R_store (vs := [(iV (o.i)), (V.sl (List.map cT (o.tr)))]) (B' := (⟨1, true, false, 34, 2, [[(iV (o.i)), (V.sl (List.map cT (o.tr)))]]⟩ : Blk)) t4 (@rfl V (V.agg [(iV (o.i)), (V.sl (List.map cT (o.tr)))])) rfl h4 (by first | rfl | simp [stB, okB, Blk.own, putAt, V.one]) ?_
     refine R_mv (@rfl V (iV (addE acc ((nth (l) (k)))))) ?_
     exact R_nil ⟨t4, rfl, h2, rfl, h8, h205, h209, h303, h308, h354, h407, trivial⟩
    intro T H ⟨t4, t5, h2, h4, h8, h205, h209, h303, h308, h354, h407, _⟩
    refine W_seq_ret ?_
    refine y4 _ _ ?_
    refine p22 _ _ ?_
    refine y1 _ _ ?_
    refine RetC_2 (resV_c (u := (V.agg [(iV (o.i)), (V.sl (List.map cT (o.tr)))])) t4 h4 (by first | rfl | simp [ldB, ldV, Blk.own, V.one])) (resV_t t5) (fz_agg2 (fz_int ?_) (fz_sl ?_ (fun _ => by simp))) (fz_int ?_)
    · rw [alO_i]
    · unfold alO; rw [if_pos (by rw [hc, alR_er (by omega) d1 heF]; exact heF)]
    · rw [hc, alR_er (by omega) d1 heF]
   · exact (c11 heF).elim
 refine W_seq_exit ?_
 refine p32 _ _ _ ?_
 refine x1 _ _ ?_
 refine .done ?_
 refine W_seq_regc (fun T H => T 4 = (V.mp 4 1 0 0) ∧ T 5 = (iV (0 : Int)) ∧ H 2 = (⟨1, true, false, 34, 2, [[(iV (o.i)), (V.sl (List.map cT (o.tr)))]]⟩ : Blk) ∧ H 4 = (⟨1, true, false, 34, 2, [[(iV (o.i)), (V.ms 209 w 0 (acc.length))]]⟩ : Blk) ∧ (H 8).ver = v8 ∧ H 205 = (⟨0 + o.tr.length, false, false, 0, 0, []⟩ : Blk) ∧ H 209 = (⟨w, true, false, 63, 2, (List.map cT (acc))⟩ : Blk) ∧ (H 303).ver = v303 ∧ (H 308).ver = v308 ∧ (H 354).ver = v354 ∧ (H 407).ver = v407 ∧ True) ?_ ?_
 ·
  unfold r73_13
  refine R_fld_mp (o' := 0) t2 h2 (by first | rfl | simp [okB, Blk.own]) rfl ?_
  refine R_load_mp (v := (iV (o.i))) (@rfl V (V.mp 2 1 0 0)) h2 (by first | rfl | simp [ldB, ldV, Blk.own, V.one]) ?_
  refine R_mv t6 ?_
  refine R_build (qs := [(0, 1, (iV (o.i))), (1, 1, (V.ms 209 w 0 (acc.length)))]) (cs := [(iV (o.i)), (V.ms 209 w 0 (acc.length))]) (mcons (congrArg (fun v => (0, 1, v)) (@rfl V (iV (o.i)))) (mcons (congrArg (fun v => (1, 1, v)) (@rfl V (V.ms 209 w 0 (acc.length)))) rfl)) rfl ?_
  refine R_store (vs := [(iV (o.i)), (V.ms 209 w 0 (acc.length))]) (B' := (⟨1, true, false, 34, 2, [[(iV (o.i)), (V.ms 209 w 0 (acc.length))]]⟩ : Blk)) t4 (@rfl V (V.agg [(iV (o.i)), (V.ms 209 w 0 (acc.length))])) rfl h4 (by first | rfl | simp [stB, okB, Blk.own, putAt, V.one]) ?_
  refine R_mv (@rfl V (iV (0 : Int))) ?_
  exact R_nil ⟨t4, rfl, h2, rfl, h8, h205, h209, h303, h308, h354, h407, trivial⟩
 intro T H ⟨t4, t5, h2, h4, h8, h205, h209, h303, h308, h354, h407, _⟩
 refine W_ret ?_
 refine RetC_2 (resV_c (u := (V.agg [(iV (o.i)), (V.ms 209 w 0 (acc.length))])) t4 h4 (by first | rfl | simp [ldB, ldV, Blk.own, V.one])) (resV_t t5) (fz_agg2 (fz_int ?_) (fz_ms h209 (by first | rfl | simp) (l := acc) rfl (by first | rfl | simp | omega) (fun _ => by simp) ?_)) (fz_int ?_)
 · rw [alO_i]
 · unfold alO; rw [if_neg (by rw [hc, alR_end (by omega)]; simp), hc, alR_end (by omega)]
 · rw [hc, alR_end (by omega)]

end Go.Proofs.Ytngkckefanbhgaa

/-
  Observations joined, the document's steps, and the observations of a machine.
-/
namespace Go.Proofs.Ytngkckefanbhgaa
def mgO (a b : Ob) : Ob := if a.i ≠ b.i then a else alO a b.tr
def mgE (a b : Ob) : Int := if a.i ≠ b.i then 15 else (alR a.i a.tr b.tr).2
theorem alR_one (i : Int) (acc : List Tr) (t : Tr) : alR i acc [t] = if prE t i ≠ 0 then ([], prE t i) else if addE acc t ≠ 0 then ([], addE acc t) else (addL acc t, 0) := by
  simp only [alR]
theorem alR_one_go {P : Ob} {l : List Tr} {k : Nat} (hk : k < l.length) (h : ¬(alR P.i P.tr [nth l k]).2 ≠ 0) : alR P.i P.tr (l.drop k) = alR (alO P [nth l k]).i (alO P [nth l k]).tr (l.drop (k + 1)) := by
  have h1 : alO P [nth l k] = ⟨P.i, (alR P.i P.tr [nth l k]).1⟩ := by unfold alO; rw [if_neg h]
  rw [h1, nth_drop hk, alR]
  rw [alR_one] at h ⊢
  split at h
  · rename_i h2; exact (h h2).elim
  · rename_i h2
    rw [if_neg h2, if_neg h2]
    split at h
    · rename_i h3; exact (h h3).elim
    · rename_i h3; rw [if_neg h3, if_neg h3]
theorem alR_one_er {P : Ob} {l : List Tr} {k : Nat} (hk : k < l.length) (h : (alR P.i P.tr [nth l k]).2 ≠ 0) : alR P.i P.tr (l.drop k) = ([], (alR P.i P.tr [nth l k]).2) := by
  rw [nth_drop hk, alR]
  rw [alR_one] at h ⊢
  split at h
  · rename_i h2; rw [if_pos h2, if_pos h2]
  · rename_i h2
    rw [if_neg h2, if_neg h2]
    split at h
    · rename_i h3; rw [if_pos h3, if_pos h3]
    · exact (h rfl).elim
theorem alR_oneE {o : Ob} (ho : OK o) (t : Tr) : (alR o.i o.tr [t]).2 = if prE t o.i ≠ 0 then prE t o.i else if 0 ≤ fi (ndP o.tr t) 0 o.tr.length then 13 else if 10000 < (raL o.tr t).length then 11 else 0 := by
  rw [alR_one]
  split
  · rfl
  rename_i h1
  rw [raL_eq ho]
  unfold addE addL
  have h9 := ho.len
  have h8 := List.length_filter_le (kp t) o.tr
  by_cases h2 : 0 ≤ fi (ndP o.tr t) 0 o.tr.length
  · simp [h2]
  · simp only [if_neg h2]
    by_cases h3 : inL o.tr t
    · simp only [if_pos h3]
      rw [if_neg (by omega), if_neg (by omega)]
    · simp only [if_neg h3, ins_len]
      by_cases h4 : (o.tr.filter (kp t)).length = 10000
      · rw [if_pos h4, if_pos (by omega), if_pos (by omega)]
      · rw [if_neg h4, if_neg (by omega), if_neg (by omega)]
theorem alO_one {o : Ob} (ho : OK o) (t : Tr) : (alO o [t]).tr = if (alR o.i o.tr [t]).2 ≠ 0 then o.tr else raL o.tr t := by
  unfold alO
  split
  · rfl
  rename_i h1
  rw [raL_eq ho]
  rw [alR_one] at h1 ⊢
  split at h1
  · rename_i h2; exact (h1 h2).elim
  rename_i h2
  rw [if_neg h2]
  split at h1
  · rename_i h3; exact (h1 h3).elim
  rename_i h3
  rw [if_neg h3]

def mnyE (ws : List (List Int)) (k : Nat) : Int := if 100 < (nth ws k).length then 1 else 0
def trW (m : M) (w : List Int) : Tr := ⟨w, outs m m.s w⟩
def wcE (m : M) (ws : List (List Int)) (k : Nat) : Int := wchk (nth ws k) m.i
def trsE (m : M) (ws : List (List Int)) : Int := if mval m ≠ 0 then mval m else if 10000 < ws.length then 11 else fe (wcE m ws) 0 ws.length
def trsL (m : M) (ws : List (List Int)) : List Tr := if trsE m ws ≠ 0 then [] else ws.map (trW m)
def ofE (m : M) (ws : List (List Int)) : Int := if trsE m ws ≠ 0 then trsE m ws else (alR m.i [] (trsL m ws)).2
def ofO (m : M) (ws : List (List Int)) : Ob := if ofE m ws ≠ 0 then ⟨0, []⟩ else alO ⟨m.i, []⟩ (trsL m ws)
theorem trs_ok {m : M} {ws : List (List Int)} (h : ¬trsE m ws ≠ 0) : mval m = 0 ∧ OK ⟨m.i, []⟩ := by
  have h1 : mval m = 0 := by
    unfold trsE at h
    split at h
    · rename_i g; exact (h g).elim
    · omega
  exact ⟨h1, ⟨⟨(mval_ok h1).1, (mval_ok h1).2.1⟩, by simp, fun k hk => by simp at hk, fun k hk => by simp at hk, fun i k _ hk => by simp at hk, fun i k _ hk => by simp at hk⟩⟩
end Go.Proofs.Ytngkckefanbhgaa

namespace Go.Proofs.Ytngkckefanbhgaa
open Go Go.Proofs

theorem omerge_pure (a b : Ob) (ha : OK a) : PureC Try.prog 48 [(V.agg [(iV (a.i)), (V.sl (List.map cT (a.tr)))]), (V.agg [(iV (b.i)), (V.sl (List.map cT (b.tr)))])] (V.tup [(V.agg [(iV ((mgO a b).i)), (V.sl (List.map cT ((mgO a b).tr)))]), (iV (mgE a b))]) := by
 refine pure_of_Wb true 6 Try.func48 s48_ok (by kernel_rfl) (by simp [s48]) (by simp) (by simp) fun hB => ?_
 simp only [bnd_map, bnd_int, bnd_bool, bnd_str, bnd_agg, bnd_pp, bnd_nil, bnd_cons, implies_true, and_true, true_and] at hB
 unfold s48
 dsimp only
 refine W_seq_regc (fun T H => T 2 = (V.mp 2 1 0 0) ∧ T 3 = (V.mp 3 1 0 0) ∧ T 4 = (V.mp 4 1 0 0) ∧ H 2 = (⟨1, true, false, 34, 2, [[(iV (a.i)), (V.sl (List.map cT (a.tr)))]]⟩ : Blk) ∧ H 3 = (⟨1, true, false, 34, 2, [[(iV (b.i)), (V.sl (List.map cT (b.tr)))]]⟩ : Blk) ∧ H 4 = (⟨1, true, false, 34, 2, [[(iV (0 : Int)), V.nilsl]]⟩ : Blk) ∧ True) ?_ ?_
 ·
  unfold r48_0
  refine R_box (i := 2) (n := 0) (m := 2) (cs := [(iV (a.i)), (V.sl (List.map cT (a.tr)))]) rfl (congrArg Blk.ver rfl) (@rfl V (V.agg [(iV (a.i)), (V.sl (List.map cT (a.tr)))])) rfl rfl ?_
  refine R_box (i := 3) (n := 0) (m := 2) (cs := [(iV (b.i)), (V.sl (List.map cT (b.tr)))]) rfl (congrArg Blk.ver rfl) (@rfl V (V.agg [(iV (b.i)), (V.sl (List.map cT (b.tr)))])) rfl rfl ?_
  refine R_alloc (i := 4) (n := 0) (m := 2) rfl (congrArg Blk.ver rfl) rfl ?_
  refine R_mv (@rfl V (iV (0 : Int))) ?_
  exact R_nil ⟨rfl, rfl, rfl, rfl, rfl, rfl, trivial⟩
 intro T H ⟨t2, t3, t4, h2, h3, h4, _⟩
 refine W_seq_seq ?_
 refine W_seq_regc (fun T H => T 2 = (V.mp 2 1 0 0) ∧ T 3 = (V.mp 3 1 0 0) ∧ T 4 = (V.mp 4 1 0 0) ∧ T 10 = (V.bool (decide ((a.i) ≠ (b.i)))) ∧ H 2 = (⟨1, true, false, 34, 2, [[(iV (a.i)), (V.sl (List.map cT (a.tr)))]]⟩ : Blk) ∧ H 3 = (⟨1, true, false, 34, 2, [[(iV (b.i)), (V.sl (List.map cT (b.tr)))]]⟩ : Blk) ∧ H 4 = (⟨1, true, false, 34, 2, [[(iV (0 : Int)), V.nilsl]]⟩ : Blk) ∧ True) ?_ ?_
 ·
  unfold r48_1
  refine R_fld_mp (o' := 0) t2 h2 (by first | rfl | simp [okB, Blk.own]) rfl ?_
  refine R_load_mp (v := (iV (a.i))) (@rfl V (V.mp 2 1 0 0)) h2 (by first | rfl | simp [ldB, ldV, Blk.own, V.one]) ?_
  refine R_fld_mp (o' := 0) t3 h3 (by first | rfl | simp [okB, Blk.own]) rfl ?_
  refine R_load_mp (v := (iV (b.i))) (@rfl V (V.mp 3 1 0 0)) h3 (by first | rfl | simp [ldB, ldV, Blk.own, V.one]) ?_
  refine R_neq (x := (a.i)) (y := (b.i)) (@rfl V (iV (a.i))) (@rfl V (iV (b.i))) ?_
  exact R_nil ⟨t2, t3, t4, rfl, h2, h3, h4, trivial⟩
 intro T H ⟨t2, t3, t4, t10, h2, h3, h4, _⟩
 refine W_seq_if (p := (a.i) ≠ (b.i)) t10 (fun c1 => ?_) (fun c1 => ?_)
 ·
  have d1 := c1
  refine W_seq_seq ?_
  refine W_seq_regc (fun T H => T 4 = (V.mp 4 1 0 0) ∧ T 5 = (iV (15 : Int)) ∧ H 2 = (⟨1, true, false, 34, 2, [[(iV (a.i)), (V.sl (List.map cT (a.tr)))]]⟩ : Blk) ∧ H 3 = (⟨1, true, false, 34, 2, [[(iV (b.i)), (V.sl (List.map cT (b.tr)))]]⟩ : Blk) ∧ H 4 = (⟨1, true, false, 34, 2, [[(iV (a.i)), (V.sl (List.map cT (a.tr)))]]⟩ : Blk) ∧ True) ?_ ?_
  ·
   unfold r48_2
   refine R_load_mp (v := (V.agg [(iV (a.i)), (V.sl (List.map cT (a.tr)))])) t2 h2 (by first | rfl | simp [ldB, ldV, Blk.own, V.one]) ?_
   refine R_store (vs := [(iV (a.i)), (V.sl (List.map cT (a.tr)))]) (B' := (⟨1, true, false, 34, 2, [[(iV (a.i)), (V.sl (List.map cT (a.tr)))]]⟩ : Blk)) t4 (@rfl V (V.agg [(iV (a.i)), (V.sl (List.map cT (a.tr)))])) rfl h4 (by first | rfl | simp [stB, okB, Blk.own, putAt, V.one]) ?_
   refine R_mv (@rfl V (iV (15 : Int))) ?_
   exact R_nil ⟨t4, rfl, h2, h3, rfl, trivial⟩
  intro T H ⟨t4, t5, h2, h3, h4, _⟩
  refine W_seq_ret ?_
  refine RetC_2 (resV_c (u := (V.agg [(iV (a.i)), (V.sl (List.map cT (a.tr)))])) t4 h4 (by first | rfl | simp [ldB, ldV, Blk.own, V.one])) (resV_t t5) (fz_agg2 (fz_int ?_) (fz_sl ?_ (fun _ => by simp))) (fz_int ?_)
  · rw [mgO, if_pos d1]
  · rw [mgO, if_pos d1]
  · rw [mgE, if_pos d1]
 have d1 := c1
 refine W_seq_skip ?_
 refine W_seq_regc (fun T H => T 4 = (V.mp 4 1 0 0) ∧ T 5 = (iV ((alR a.i a.tr b.tr).2)) ∧ H 2 = (⟨1, true, false, 34, 2, [[(iV (a.i)), (V.sl (List.map cT (a.tr)))]]⟩ : Blk) ∧ H 3 = (⟨1, true, false, 34, 2, [[(iV (b.i)), (V.sl (List.map cT (b.tr)))]]⟩ : Blk) ∧ H 4 = (⟨1, true, false, 34, 2, [[(iV ((alO a b.tr).i)), (V.sl (List.map cT ((alO a b.tr).tr)))]]⟩ : Blk) ∧ True) ?_ ?_
 ·
  unfold r48_3
  refine R_load_mp (v := (V.agg [(iV (a.i)), (V.sl (List.map cT (a.tr)))])) t2 h2 (by first | rfl | simp [ldB, ldV, Blk.own, V.one]) ?_
  refine R_fld_mp (o' := 1) t3 h3 (by first | rfl | simp [okB, Blk.own]) rfl ?_
  refine R_load_mp (v := (V.sl (List.map cT (b.tr)))) (@rfl V (V.mp 3 1 0 1)) h3 (by first | rfl | simp [ldB, ldV, Blk.own, V.one]) ?_
  refine R_call (evcons (@rfl V (V.agg [(iV (a.i)), (V.sl (List.map cT (a.tr)))])) (evcons (@rfl V (V.sl (List.map cT (b.tr)))) evnil)) (all_pure a b.tr (by first | omega | assumption)) (fzv_mapcanon _ _ (by simp [-List.map_take, -List.map_drop, -List.map_append, -List.map_reverse])) (by simp [-List.map_take, -List.map_drop, -List.map_append, -List.map_reverse]) (Or.inl (by simp [-List.map_take, -List.map_drop, -List.map_append, -List.map_reverse])) ?_
  refine R_ext (v := (V.agg [(iV ((alO a b.tr).i)), (V.sl (List.map cT ((alO a b.tr).tr)))])) (@rfl V (V.tup [(V.agg [(iV ((alO a b.tr).i)), (V.sl (List.map cT ((alO a b.tr).tr)))]), (iV ((alR a.i a.tr b.tr).2))])) rfl ?_
  refine R_ext (v := (iV ((alR a.i a.tr b.tr).2))) (@rfl V (V.tup [(V.agg [(iV ((alO a b.tr).i)), (V.sl (List.map cT ((alO a b.tr).tr)))]), (iV ((alR a.i a.tr b.tr).2))])) rfl ?_
  refine R_store (vs := [(iV ((alO a b.tr).i)), (V.sl (List.map cT ((alO a b.tr).tr)))]) (B' := (⟨1, true, false, 34, 2, [[(iV ((alO a b.tr).i)), (V.sl (List.map cT ((alO a b.tr).tr)))]]⟩ : Blk)) t4 (@rfl V (V.agg [(iV ((alO a b.tr).i)), (V.sl (List.map cT ((alO a b.tr).tr)))])) rfl h4 (by first | rfl | simp [stB, okB, Blk.own, putAt, V.one]) ?_
  refine R_mv (@rfl V (iV ((alR a.i a.tr b.tr).2))) ?_
  exact R_nil ⟨t4, rfl, h2, h3, rfl, trivial⟩
 intro T H ⟨t4, t5, h2, h3, h4, _⟩
 refine W_ret ?_
 refine RetC_2 (resV_c (u := (V.agg [(iV ((alO a b.tr).i)), (V.sl (List.map cT ((alO a b.tr).tr)))])) t4 h4 (by first | rfl | simp [ldB, ldV, Blk.own, V.one])) (resV_t t5) (fz_agg2 (fz_int ?_) (fz_sl ?_ (fun _ => by simp))) (fz_int ?_)
 · rw [mgO, if_neg d1]
 · rw [mgO, if_neg d1]
 · rw [mgE, if_neg d1]

end Go.Proofs.Ytngkckefanbhgaa

namespace Go.Proofs.Ytngkckefanbhgaa
open Go Go.Proofs

def r49_0 : List SO := [
  ⟨none, some 2, .box 34 2 (.t 0)⟩,
  ⟨none, some 3, .box 34 2 (.t 1)⟩,
  ⟨none, some 4, .alloc 34 [.int .i64 0, .nilsl]⟩,
  ⟨none, some 5, .mv (.c (.int .i64 0))⟩]
def r49_1 : List SO := [
  ⟨none, some 6, .fld 0 (.t 2)⟩,
  ⟨none, some 7, .load false 1 (.t 6)⟩,
  ⟨none, some 8, .fld 0 (.t 3)⟩,
  ⟨none, some 9, .load false 1 (.t 8)⟩,
  ⟨none, some 10, .bin .neq (.t 7) (.t 9)⟩]
def r49_2 : List SO := [
  ⟨none, some 11, .load true 2 (.t 2)⟩,
  ⟨none, none, .store 2 (.t 4) (.t 11)⟩,
  ⟨none, some 5, .mv (.c (.int .i64 15))⟩]
def r49_3 : List SO := [
  ⟨none, some 12, .load true 2 (.t 2)⟩,
  ⟨none, some 13, .fld 1 (.t 3)⟩,
  ⟨none, some 14, .load false 1 (.t 13)⟩,
  ⟨none, some 15, .call false 88 [.t 12, .t 14]⟩,
  ⟨none, some 16, .ext (.t 15) 0⟩,
  ⟨none, some 17, .ext (.t 15) 1⟩,
  ⟨none, none, .store 2 (.t 4) (.t 16)⟩,
  ⟨none, some 5, .mv (.t 17)⟩]
def s49 : SF := ⟨18, [.cell 4 true 2, .tmp 5], .seq (.reg r49_0) (.seq (.seq (.reg r49_1) (.cond (.t 10) (.seq (.reg r49_2) (.ret)) (.skip))) (.seq (.reg r49_3) (.ret)))⟩
theorem s49_ok : slimF Try.prog ⟨[94, 102, 103, 108, 109, 116, 119, 121, 125], []⟩ Try.f49 = some s49 := by kernel_rfl

end Go.Proofs.Ytngkckefanbhgaa

namespace Go.Proofs.Ytngkckefanbhgaa
open Go Go.Proofs

def r88_0 : List SO := [
  ⟨none, some 2, .box 34 2 (.t 0)⟩,
  ⟨none, some 4, .alloc 34 [.int .i64 0, .nilsl]⟩,
  ⟨none, some 5, .mv (.c (.int .i64 0))⟩]
def r88_1 : List SO := [
  ⟨none, some 10, .load true 2 (.t 2)⟩,
  ⟨none, some 6, .alloc 34 [.int .i64 0, .nilsl]⟩,
  ⟨none, none, .store 2 (.t 6) (.t 10)⟩]
def r88_2 : List SO := [
  ⟨none, some 7, .mv (.c (.int .i64 0))⟩]
def r88_3 : List SO := [
  ⟨none, some 11, .mv (.t 7)⟩,
  ⟨none, some 12, .mv (.t 1)⟩,
  ⟨none, some 13, .len (.t 12)⟩,
  ⟨none, some 14, .bin .lss (.t 11) (.t 13)⟩]
def r88_5 : List SO := [
  ⟨none, some 18, .load true 2 (.t 6)⟩,
  ⟨none, some 19, .mv (.t 1)⟩,
  ⟨none, some 20, .mv (.t 7)⟩,
  ⟨none, some 21, .idx 2 (.t 19) (.t 20)⟩,
  ⟨none, some 22, .load true 2 (.t 21)⟩,
  ⟨none, some 23, .call false 46 [.t 18, .t 22]⟩,
  ⟨none, some 17, .mv (.t 23)⟩,
  ⟨none, some 24, .ext (.t 17) 0⟩,
  ⟨none, some 25, .ext (.t 17) 1⟩,
  ⟨none, some 8, .alloc 34 [.int .i64 0, .nilsl]⟩,
  ⟨none, none, .store 2 (.t 8) (.t 24)⟩,
  ⟨none, some 9, .mv (.t 25)⟩]
def r88_6 : List SO := [
  ⟨none, some 26, .mv (.t 9)⟩,
  ⟨none, some 27, .bin .neq (.t 26) (.c (.int .i64 0))⟩]
def r88_7 : List SO := [
  ⟨none, some 28, .load true 2 (.t 2)⟩,
  ⟨none, some 29, .mv (.t 9)⟩,
  ⟨none, none, .store 2 (.t 4) (.t 28)⟩,
  ⟨none, some 5, .mv (.t 29)⟩]
def r88_8 : List SO := [
  ⟨none, some 30, .load true 2 (.t 8)⟩,
  ⟨none, none, .store 2 (.t 6) (.t 30)⟩]
def r88_4 : List SO := [
  ⟨none, some 15, .mv (.t 7)⟩,
  ⟨none, some 16, .bin .add (.t 15) (.c (.int .i64 1))⟩,
  ⟨none, some 7, .mv (.t 16)⟩]
def b88_0 : SC := .seq (.seq (.reg r88_3) (.cond (.t 14) (.skip) (.exit 0))) (.seq (.block 1 (.seq (.dreg [8] r88_5) (.seq (.seq (.reg r88_6) (.cond (.t 27) (.seq (.reg r88_7) (.ret)) (.skip))) (.reg r88_8)))) (.reg r88_4))
def r88_9 : List SO := [
  ⟨none, some 31, .load true 2 (.t 6)⟩,
  ⟨none, none, .store 2 (.t 4) (.t 31)⟩,
  ⟨none, some 5, .mv (.c (.int .i64 0))⟩]
def s88 : SF := ⟨32, [.cell 4 true 2, .tmp 5], .seq (.reg r88_0) (.seq (.reg r88_1) (.seq (.seq (.reg r88_2) (.block 0 (.loop b88_0))) (.seq (.reg r88_9) (.ret))))⟩
theorem s88_ok : slimF Try.prog ⟨[94, 102, 103, 108, 109, 116, 119, 121, 125], []⟩ Try.f88 = some s88 := by kernel_rfl

end Go.Proofs.Ytngkckefanbhgaa

namespace Go.Proofs.Ytngkckefanbhgaa
open Go Go.Proofs

def r46_0 : List SO := [
  ⟨none, some 2, .box 34 2 (.t 0)⟩,
  ⟨none, some 3, .box 63 2 (.t 1)⟩,
  ⟨none, some 4, .alloc 34 [.int .i64 0, .nilsl]⟩,
  ⟨none, some 5, .mv (.c (.int .i64 0))⟩]
def r46_1 : List SO := [
  ⟨none, some 9, .load true 2 (.t 3)⟩,
  ⟨none, some 10, .fld 0 (.t 2)⟩,
  ⟨none, some 11, .load false 1 (.t 10)⟩,
  ⟨none, some 12, .call false 60 [.t 9, .t 11]⟩,
  ⟨none, some 6, .mv (.t 12)⟩]
def r46_2 : List SO := [
  ⟨none, some 13, .mv (.t 6)⟩,
  ⟨none, some 14, .bin .neq (.t 13) (.c (.int .i64 0))⟩]
def r46_3 : List SO := [
  ⟨none, some 15, .load true 2 (.t 2)⟩,
  ⟨none, some 16, .mv (.t 6)⟩,
  ⟨none, none, .store 2 (.t 4) (.t 15)⟩,
  ⟨none, some 5, .mv (.t 16)⟩]
def r46_4 : List SO := [
  ⟨none, some 7, .mv (.c (.int .i64 0))⟩]
def r46_5 : List SO := [
  ⟨none, some 17, .mv (.t 7)⟩,
  ⟨none, some 18, .fld 1 (.t 2)⟩,
  ⟨none, some 19, .load false 1 (.t 18)⟩,
  ⟨none, some 20, .len (.t 19)⟩,
  ⟨none, some 21, .bin .lss (.t 17) (.t 20)⟩]
def r46_7 : List SO := [
  ⟨none, some 24, .fld 1 (.t 2)⟩,
  ⟨none, some 25, .load false 1 (.t 24)⟩,
  ⟨none, some 26, .mv (.t 7)⟩,
  ⟨none, some 27, .idx 2 (.t 25) (.t 26)⟩,
  ⟨none, some 28, .load true 2 (.t 27)⟩,
  ⟨none, some 29, .load true 2 (.t 3)⟩,
  ⟨none, some 30, .call false 85 [.t 28, .t 29]⟩,
  ⟨none, some 31, .bin .geq (.t 30) (.c (.int .i64 0))⟩]
def r46_8 : List SO := [
  ⟨none, some 32, .load true 2 (.t 2)⟩,
  ⟨none, none, .store 2 (.t 4) (.t 32)⟩,
  ⟨none, some 5, .mv (.c (.int .i64 13))⟩]
def r46_6 : List SO := [
  ⟨none, some 22, .mv (.t 7)⟩,
  ⟨none, some 23, .bin .add (.t 22) (.c (.int .i64 1))⟩,
  ⟨none, some 7, .mv (.t 23)⟩]
def b46_0 : SC := .seq (.seq (.reg r46_5) (.cond (.t 21) (.skip) (.exit 0))) (.seq (.block 1 (.seq (.reg r46_7) (.cond (.t 31) (.seq (.reg r46_8) (.ret)) (.skip)))) (.reg r46_6))
def r46_9 : List SO := [
  ⟨none, some 33, .load true 2 (.t 2)⟩,
  ⟨none, some 34, .load true 2 (.t 3)⟩,
  ⟨none, some 35, .call false 86 [.t 33, .t 34]⟩,
  ⟨none, some 8, .alloc 34 [.int .i64 0, .nilsl]⟩,
  ⟨none, none, .store 2 (.t 8) (.t 35)⟩]
def r46_10 : List SO := [
  ⟨none, some 36, .fld 1 (.t 8)⟩,
  ⟨none, some 37, .load false 1 (.t 36)⟩,
  ⟨none, some 38, .len (.t 37)⟩,
  ⟨none, some 39, .bin .gtr (.t 38) (.c (.int .i64 10000))⟩]
def r46_11 : List SO := [
  ⟨none, some 40, .load true 2 (.t 2)⟩,
  ⟨none, none, .store 2 (.t 4) (.t 40)⟩,
  ⟨none, some 5, .mv (.c (.int .i64 11))⟩]
def r46_12 : List SO := [
  ⟨none, some 41, .load true 2 (.t 8)⟩,
  ⟨none, none, .store 2 (.t 4) (.t 41)⟩,
  ⟨none, some 5, .mv (.c (.int .i64 0))⟩]
def s46 : SF := ⟨42, [.cell 4 true 2, .tmp 5], .seq (.reg r46_0) (.seq (.seq (.reg r46_1) (.seq (.reg r46_2) (.cond (.t 14) (.seq (.reg r46_3) (.ret)) (.skip)))) (.seq (.seq (.reg r46_4) (.block 0 (.loop b46_0))) (.seq (.reg r46_9) (.seq (.seq (.reg r46_10) (.cond (.t 39) (.seq (.reg r46_11) (.ret)) (.skip))) (.seq (.reg r46_12) (.ret))))))⟩
theorem s46_ok : slimF Try.prog ⟨[94, 102, 103, 108, 109, 116, 119, 121, 125], []⟩ Try.f46 = some s46 := by kernel_rfl

end Go.Proofs.Ytngkckefanbhgaa

namespace Go.Proofs.Ytngkckefanbhgaa
open Go Go.Proofs

def r60_0 : List SO := [
  ⟨none, some 2, .box 63 2 (.t 0)⟩,
  ⟨none, some 4, .mv (.c (.int .i64 0))⟩]
def r60_1 : List SO := [
  ⟨none, some 7, .fld 0 (.t 2)⟩,
  ⟨none, some 8, .load false 1 (.t 7)⟩,
  ⟨none, some 9, .mv (.t 1)⟩,
  ⟨none, some 10, .call false 58 [.t 8, .t 9]⟩,
  ⟨none, some 5, .mv (.t 10)⟩]
def r60_2 : List SO := [
  ⟨none, some 11, .mv (.t 5)⟩,
  ⟨none, some 12, .bin .neq (.t 11) (.c (.int .i64 0))⟩]
def r60_3 : List SO := [
  ⟨none, some 13, .mv (.t 5)⟩,
  ⟨none, some 4, .mv (.t 13)⟩]
def r60_4 : List SO := [
  ⟨none, some 14, .fld 1 (.t 2)⟩,
  ⟨none, some 15, .load false 1 (.t 14)⟩,
  ⟨none, some 16, .len (.t 15)⟩,
  ⟨none, some 17, .fld 0 (.t 2)⟩,
  ⟨none, some 18, .load false 1 (.t 17)⟩,
  ⟨none, some 19, .len (.t 18)⟩,
  ⟨none, some 20, .bin .neq (.t 16) (.t 19)⟩]
def r60_5 : List SO := [
  ⟨none, some 4, .mv (.c (.int .i64 1))⟩]
def r60_6 : List SO := [
  ⟨none, some 6, .mv (.c (.int .i64 0))⟩]
def r60_7 : List SO := [
  ⟨none, some 21, .mv (.t 6)⟩,
  ⟨none, some 22, .fld 1 (.t 2)⟩,
  ⟨none, some 23, .load false 1 (.t 22)⟩,
  ⟨none, some 24, .len (.t 23)⟩,
  ⟨none, some 25, .bin .lss (.t 21) (.t 24)⟩]
def r60_9 : List SO := [
  ⟨none, some 28, .fld 1 (.t 2)⟩,
  ⟨none, some 29, .load false 1 (.t 28)⟩,
  ⟨none, some 30, .mv (.t 6)⟩,
  ⟨none, some 31, .idx 1 (.t 29) (.t 30)⟩,
  ⟨none, some 32, .load false 1 (.t 31)⟩,
  ⟨none, some 33, .bin .lss (.t 32) (.c (.int .i64 0))⟩,
  ⟨none, some 34, .mv (.t 33)⟩,
  ⟨some (34, false), some 35, .fld 1 (.t 2)⟩,
  ⟨some (34, false), some 36, .load false 1 (.t 35)⟩,
  ⟨some (34, false), some 37, .mv (.t 6)⟩,
  ⟨some (34, false), some 38, .idx 1 (.t 36) (.t 37)⟩,
  ⟨some (34, false), some 39, .load false 1 (.t 38)⟩,
  ⟨some (34, false), some 40, .bin .gtr (.t 39) (.c (.int .i64 1048576))⟩,
  ⟨none, some 41, .pick (.t 34) (.c (.bool true)) (.t 40)⟩]
def r60_10 : List SO := [
  ⟨none, some 4, .mv (.c (.int .i64 2))⟩]
def r60_8 : List SO := [
  ⟨none, some 26, .mv (.t 6)⟩,
  ⟨none, some 27, .bin .add (.t 26) (.c (.int .i64 1))⟩,
  ⟨none, some 6, .mv (.t 27)⟩]
def b60_0 : SC := .seq (.seq (.reg r60_7) (.cond (.t 25) (.skip) (.exit 0))) (.seq (.block 1 (.seq (.reg r60_9) (.cond (.t 41) (.seq (.reg r60_10) (.ret)) (.skip)))) (.reg r60_8))
def r60_11 : List SO := [
  ⟨none, some 4, .mv (.c (.int .i64 0))⟩]
def s60 : SF := ⟨42, [.tmp 4], .seq (.reg r60_0) (.seq (.seq (.reg r60_1) (.seq (.reg r60_2) (.cond (.t 12) (.seq (.reg r60_3) (.ret)) (.skip)))) (.seq (.seq (.reg r60_4) (.cond (.t 20) (.seq (.reg r60_5) (.ret)) (.skip))) (.seq (.seq (.reg r60_6) (.block 0 (.loop b60_0))) (.seq (.reg r60_11) (.ret)))))⟩
theorem s60_ok : slimF Try.prog ⟨[94, 102, 103, 108, 109, 116, 119, 121, 125], []⟩ Try.f60 = some s60 := by kernel_rfl

end Go.Proofs.Ytngkckefanbhgaa

namespace Go.Proofs.Ytngkckefanbhgaa
open Go Go.Proofs

def r58_0 : List SO := [
  ⟨none, some 4, .mv (.c (.int .i64 0))⟩]
def r58_1 : List SO := [
  ⟨none, some 6, .mv (.t 1)⟩,
  ⟨none, some 7, .call false 96 [.t 6]⟩,
  ⟨none, some 8, .un .not (.t 7)⟩]
def r58_2 : List SO := [
  ⟨none, some 4, .mv (.c (.int .i64 2))⟩]
def r58_3 : List SO := [
  ⟨none, some 9, .mv (.t 0)⟩,
  ⟨none, some 10, .len (.t 9)⟩,
  ⟨none, some 11, .bin .gtr (.t 10) (.c (.int .i64 1024))⟩]
def r58_4 : List SO := [
  ⟨none, some 4, .mv (.c (.int .i64 3))⟩]
def r58_5 : List SO := [
  ⟨none, some 5, .mv (.c (.int .i64 0))⟩]
def r58_6 : List SO := [
  ⟨none, some 12, .mv (.t 5)⟩,
  ⟨none, some 13, .mv (.t 0)⟩,
  ⟨none, some 14, .len (.t 13)⟩,
  ⟨none, some 15, .bin .lss (.t 12) (.t 14)⟩]
def r58_8 : List SO := [
  ⟨none, some 18, .mv (.t 0)⟩,
  ⟨none, some 19, .mv (.t 5)⟩,
  ⟨none, some 20, .idx 1 (.t 18) (.t 19)⟩,
  ⟨none, some 21, .load false 1 (.t 20)⟩,
  ⟨none, some 22, .bin .lss (.t 21) (.c (.int .i64 0))⟩,
  ⟨none, some 23, .mv (.t 22)⟩,
  ⟨some (23, false), some 24, .mv (.t 0)⟩,
  ⟨some (23, false), some 25, .mv (.t 5)⟩,
  ⟨some (23, false), some 26, .idx 1 (.t 24) (.t 25)⟩,
  ⟨some (23, false), some 27, .load false 1 (.t 26)⟩,
  ⟨some (23, false), some 28, .mv (.t 1)⟩,
  ⟨some (23, false), some 29, .bin .geq (.t 27) (.t 28)⟩,
  ⟨none, some 30, .pick (.t 23) (.c (.bool true)) (.t 29)⟩]
def r58_9 : List SO := [
  ⟨none, some 4, .mv (.c (.int .i64 1))⟩]
def r58_7 : List SO := [
  ⟨none, some 16, .mv (.t 5)⟩,
  ⟨none, some 17, .bin .add (.t 16) (.c (.int .i64 1))⟩,
  ⟨none, some 5, .mv (.t 17)⟩]
def b58_0 : SC := .seq (.seq (.reg r58_6) (.cond (.t 15) (.skip) (.exit 0))) (.seq (.block 1 (.seq (.reg r58_8) (.cond (.t 30) (.seq (.reg r58_9) (.ret)) (.skip)))) (.reg r58_7))
def r58_10 : List SO := [
  ⟨none, some 4, .mv (.c (.int .i64 0))⟩]
def s58 : SF := ⟨31, [.tmp 4], .seq (.reg r58_0) (.seq (.seq (.reg r58_1) (.cond (.t 8) (.seq (.reg r58_2) (.ret)) (.skip))) (.seq (.seq (.reg r58_3) (.cond (.t 11) (.seq (.reg r58_4) (.ret)) (.skip))) (.seq (.seq (.reg r58_5) (.block 0 (.loop b58_0))) (.seq (.reg r58_10) (.ret)))))⟩
theorem s58_ok : slimF Try.prog ⟨[94, 102, 103, 108, 109, 116, 119, 121, 125], []⟩ Try.f58 = some s58 := by kernel_rfl

end Go.Proofs.Ytngkckefanbhgaa

namespace Go.Proofs.Ytngkckefanbhgaa
open Go Go.Proofs

def r96_0 : List SO := [
  ⟨none, some 2, .mv (.c (.bool false))⟩]
def r96_1 : List SO := [
  ⟨none, some 3, .mv (.t 0)⟩,
  ⟨none, some 4, .bin .geq (.t 3) (.c (.int .i64 1))⟩,
  ⟨none, some 5, .mv (.t 4)⟩,
  ⟨some (5, true), some 6, .mv (.t 0)⟩,
  ⟨some (5, true), some 7, .bin .leq (.t 6) (.c (.int .i64 1024))⟩,
  ⟨none, some 8, .pick (.t 5) (.t 7) (.c (.bool false))⟩,
  ⟨none, some 2, .mv (.t 8)⟩]
def s96 : SF := ⟨9, [.tmp 2], .seq (.reg r96_0) (.seq (.reg r96_1) (.ret))⟩
theorem s96_ok : slimF Try.prog ⟨[94, 102, 103, 108, 109, 116, 119, 121, 125], []⟩ Try.f96 = some s96 := by kernel_rfl

end Go.Proofs.Ytngkckefanbhgaa

namespace Go.Proofs.Ytngkckefanbhgaa
open Go Go.Proofs

theorem size_pure (n : Int) : PureC Try.prog 96 [(iV (n))] (V.bool (decide (1 ≤ n ∧ n ≤ 1024))) := by
 refine pure_of_Wb true 6 Try.func96 s96_ok (by kernel_rfl) (by simp [s96]) (by simp) (by simp) fun hB => ?_
 simp only [bnd_map, bnd_int, bnd_bool, bnd_str, bnd_agg, bnd_pp, bnd_nil, bnd_cons, implies_true, and_true, true_and] at hB
 unfold s96
 dsimp only
 refine W_seq_regc (fun T H => T 0 = (iV (n)) ∧ True) ?_ ?_
 ·
  unfold r96_0
  refine R_mv (@rfl V (V.bool false)) ?_
  exact R_nil ⟨rfl, trivial⟩
 intro T H ⟨t0, _⟩
 refine W_seq_regc (fun T H => T 2 = (V.bool (decide (((1 : Int) ≤ (n)) ∧ ((n) ≤ (1024 : Int))))) ∧ True) ?_ ?_
 ·
  unfold r96_1
  refine R_mv t0 ?_
  refine R_geq (x := (n)) (y := (1 : Int)) (@rfl V (iV (n))) (@rfl V (iV (1 : Int))) ?_
  refine R_mv (@rfl V (V.bool (decide ((1 : Int) ≤ (n))))) ?_
  refine Ops_seg 3 (fun T H => T 8 = (V.bool (decide (((1 : Int) ≤ (n)) ∧ ((n) ≤ (1024 : Int))))) ∧ True) ?_ ?_
  ·
   by_cases g1 : (1 : Int) ≤ (n)
   ·
    refine G_yes (Eq.trans (@rfl V (V.bool (decide ((1 : Int) ≤ (n))))) (bdT g1)) ?_
    refine R_mv t0 ?_
    refine G_yes (Eq.trans (@rfl V (V.bool (decide ((1 : Int) ≤ (n))))) (bdT g1)) ?_
    refine R_leq (x := (n)) (y := (1024 : Int)) (@rfl V (iV (n))) (@rfl V (iV (1024 : Int))) ?_
    refine R_pickT (Eq.trans (@rfl V (V.bool (decide ((1 : Int) ≤ (n))))) (bdT g1)) (@rfl V (V.bool (decide ((n) ≤ (1024 : Int))))) ?_
    exact ⟨(Eq.trans (@rfl V (V.bool (decide ((n) ≤ (1024 : Int))))) (dec_andT g1)), trivial⟩
   ·
    refine G_no (Eq.trans (@rfl V (V.bool (decide ((1 : Int) ≤ (n))))) (bdF g1)) (by decide) ?_
    refine G_no (Eq.trans (@rfl V (V.bool (decide ((1 : Int) ≤ (n))))) (bdF g1)) (by decide) ?_
    refine R_pickF (Eq.trans (@rfl V (V.bool (decide ((1 : Int) ≤ (n))))) (bdF g1)) (@rfl V (V.bool false)) ?_
    exact ⟨(Eq.trans (@rfl V (V.bool false)) (dec_andF g1)), trivial⟩
  intro T H ⟨t8, _⟩
  refine R_mv t8 ?_
  exact R_nil ⟨rfl, trivial⟩
 intro T H ⟨t2, _⟩
 refine W_ret ?_
 refine Ret_1 t2 (fz_bool ?_)
 · first | rfl | omega | simp_all

end Go.Proofs.Ytngkckefanbhgaa

namespace Go.Proofs.Ytngkckefanbhgaa
open Go Go.Proofs

theorem rcheck_pure (w : List Int) (n : Int) : PureC Try.prog 58 [(V.sl (List.map cI (w))), (iV (n))] (iV (wchk w n)) := by
 refine pure_of_Wb true 6 Try.func58 s58_ok (by kernel_rfl) (by simp [s58]) (by simp) (by simp) fun hB => ?_
 simp only [bnd_map, bnd_int, bnd_bool, bnd_str, bnd_agg, bnd_pp, bnd_nil, bnd_cons, implies_true, and_true, true_and] at hB
 unfold s58
 dsimp only
 refine W_seq_regc (fun T H => T 0 = (V.sl (List.map cI (w))) ∧ T 1 = (iV (n)) ∧ True) ?_ ?_
 ·
  unfold r58_0
  refine R_mv (@rfl V (iV (0 : Int))) ?_
  exact R_nil ⟨rfl, rfl, trivial⟩
 intro T H ⟨t0, t1, _⟩
 refine W_seq_seq ?_
 refine W_seq_regc (fun T H => T 0 = (V.sl (List.map cI (w))) ∧ T 1 = (iV (n)) ∧ T 8 = (V.bool (decide (¬(1 ≤ ((n)) ∧ ((n)) ≤ 1024)))) ∧ True) ?_ ?_
 ·
  unfold r58_1
  refine R_mv t1 ?_
  refine R_call (evcons (@rfl V (iV (n))) evnil) (size_pure ((n))) (fzv_mapcanon _ _ (by simp [-List.map_take, -List.map_drop, -List.map_append, -List.map_reverse])) (by simp [-List.map_take, -List.map_drop, -List.map_append, -List.map_reverse]) (Or.inl (by simp [-List.map_take, -List.map_drop, -List.map_append, -List.map_reverse])) ?_
  refine R_not (p := 1 ≤ ((n)) ∧ ((n)) ≤ 1024) (@rfl V (V.bool (decide (1 ≤ ((n)) ∧ ((n)) ≤ 1024)))) ?_
  exact R_nil ⟨t0, t1, rfl, trivial⟩
 intro T H ⟨t0, t1, t8, _⟩
 refine W_seq_if (p := ¬(1 ≤ ((n)) ∧ ((n)) ≤ 1024)) t8 (fun c1 => ?_) (fun c1 => ?_)
 ·
  refine W_seq_seq ?_
  refine W_seq_regc (fun T H => T 4 = (iV (2 : Int)) ∧ True) ?_ ?_
  ·
   unfold r58_2
   refine R_mv (@rfl V (iV (2 : Int))) ?_
   exact R_nil ⟨rfl, trivial⟩
  intro T H ⟨t4, _⟩
  refine W_seq_ret ?_
  refine Ret_1 t4 (fz_int ?_)
  · rw [wchk, if_pos (by omega)]
 refine W_seq_skip ?_
 refine W_seq_seq ?_
 refine W_seq_regc (fun T H => T 0 = (V.sl (List.map cI (w))) ∧ T 1 = (iV (n)) ∧ T 11 = (V.bool (decide ((1024 : Int) < ((w.length : Nat) : Int)))) ∧ True) ?_ ?_
 ·
  unfold r58_3
  refine R_mv t0 ?_
  refine R_len (@rfl V (V.sl (List.map cI (w)))) ?_
  refine R_gtr (x := ((w.length : Nat) : Int)) (y := (1024 : Int)) (@rfl V (iV ((w.length : Nat) : Int))) (@rfl V (iV (1024 : Int))) ?_
  exact R_nil ⟨t0, t1, rfl, trivial⟩
 intro T H ⟨t0, t1, t11, _⟩
 refine W_seq_if (p := (1024 : Int) < ((w.length : Nat) : Int)) t11 (fun c2 => ?_) (fun c2 => ?_)
 ·
  refine W_seq_seq ?_
  refine W_seq_regc (fun T H => T 4 = (iV (3 : Int)) ∧ True) ?_ ?_
  ·
   unfold r58_4
   refine R_mv (@rfl V (iV (3 : Int))) ?_
   exact R_nil ⟨rfl, trivial⟩
  intro T H ⟨t4, _⟩
  refine W_seq_ret ?_
  refine Ret_1 t4 (fz_int ?_)
  · rw [wchk, if_neg (by omega), if_pos (by omega)]
 refine W_seq_skip ?_
 refine W_seq_seq ?_
 refine W_seq_regc (fun T H => T 0 = (V.sl (List.map cI (w))) ∧ T 1 = (iV (n)) ∧ T 5 = (iV (0 : Int)) ∧ True) ?_ ?_
 ·
  unfold r58_5
  refine R_mv (@rfl V (iV (0 : Int))) ?_
  exact R_nil ⟨t0, t1, rfl, trivial⟩
 intro T H ⟨t0, t1, t5, _⟩
 refine W_seq_blockg fun Q3 n3 x3 y3 z3 => ?_
 refine W_loop (fun mm T H => ∃ (k : Nat), mm = w.length - k ∧ T 0 = (V.sl (List.map cI (w))) ∧ T 1 = (iV (n)) ∧ T 5 = (iV ((k : Nat) : Int)) ∧ (k ≤ w.length) ∧ (w.length ≤ 1024) ∧ (1 ≤ n ∧ n ≤ 1024) ∧ (wchk w n = fe (wE w n) k (w.length - k))) ?_ ?_
 ·
  refine ⟨_, 0, rfl, t0, t1, (Eq.trans t5 (by first | rfl | simp)), ?_, ?_, ?_, ?_⟩
  · omega
  · omega
  · omega
  · rw [wchk, if_neg (by omega), if_neg (by omega)]; rfl
 intro mm T H ⟨k, hmm, t0, t1, t5, hk, hl, hn, hc⟩ Q4 p14 p24 p34
 unfold b58_0
 refine W_seq_seq ?_
 refine W_seq_regc (fun T H => T 0 = (V.sl (List.map cI (w))) ∧ T 1 = (iV (n)) ∧ T 5 = (iV ((k : Nat) : Int)) ∧ T 15 = (V.bool (decide (((k : Nat) : Int) < ((w.length : Nat) : Int)))) ∧ True) ?_ ?_
 ·
  unfold r58_6
  refine R_mv t5 ?_
  refine R_mv t0 ?_
  refine R_len (@rfl V (V.sl (List.map cI (w)))) ?_
  refine R_lss (x := ((k : Nat) : Int)) (y := ((w.length : Nat) : Int)) (@rfl V (iV ((k : Nat) : Int))) (@rfl V (iV ((w.length : Nat) : Int))) ?_
  exact R_nil ⟨t0, t1, t5, rfl, trivial⟩
 intro T H ⟨t0, t1, t5, t15, _⟩
 refine W_seq_if (p := ((k : Nat) : Int) < ((w.length : Nat) : Int)) t15 (fun c5 => ?_) (fun c5 => ?_)
 ·
  refine W_seq_skip ?_
  refine W_seq_blockg fun Q6 n6 x6 y6 z6 => ?_
  refine W_seq_regc (fun T H => T 0 = (V.sl (List.map cI (w))) ∧ T 1 = (iV (n)) ∧ T 5 = (iV ((k : Nat) : Int)) ∧ T 30 = (V.bool (decide ((((nth (w) (k))) < (0 : Int)) ∨ ((n) ≤ ((nth (w) (k))))))) ∧ True) ?_ ?_
  ·
   unfold r58_8
   refine R_mv t0 ?_
   refine R_mv t5 ?_
   refine R_idx (i := k) (@rfl V (V.sl (List.map cI (w)))) (@rfl V (iV ((k : Nat) : Int))) (by omega) rfl ?_
   refine R_load_pp (v := (iV ((nth (w) (k))))) (@rfl V (V.pp [(iV ((nth (w) (k))))])) (by first | rfl | simp [ldV]) ?_
   refine R_lss (x := ((nth (w) (k)))) (y := (0 : Int)) (@rfl V (iV ((nth (w) (k))))) (@rfl V (iV (0 : Int))) ?_
   refine R_mv (@rfl V (V.bool (decide (((nth (w) (k))) < (0 : Int))))) ?_
   refine Ops_seg 7 (fun T H => T 0 = (V.sl (List.map cI (w))) ∧ T 1 = (iV (n)) ∧ T 5 = (iV ((k : Nat) : Int)) ∧ T 30 = (V.bool (decide ((((nth (w) (k))) < (0 : Int)) ∨ ((n) ≤ ((nth (w) (k))))))) ∧ True) ?_ ?_
   ·
    by_cases g7 : ((nth (w) (k))) < (0 : Int)
    ·
     refine G_no (Eq.trans (@rfl V (V.bool (decide (((nth (w) (k))) < (0 : Int))))) (bdT g7)) (by decide) ?_
     refine G_no (Eq.trans (@rfl V (V.bool (decide (((nth (w) (k))) < (0 : Int))))) (bdT g7)) (by decide) ?_
     refine G_no (Eq.trans (@rfl V (V.bool (decide (((nth (w) (k))) < (0 : Int))))) (bdT g7)) (by decide) ?_
     refine G_no (Eq.trans (@rfl V (V.bool (decide (((nth (w) (k))) < (0 : Int))))) (bdT g7)) (by decide) ?_
     refine G_no (Eq.trans (@rfl V (V.bool (decide (((nth (w) (k))) < (0 : Int))))) (bdT g7)) (by decide) ?_
     refine G_no (Eq.trans (@rfl V (V.bool (decide (((nth (w) (k))) < (0 : Int))))) (bdT g7)) (by decide) ?_
     refine R_pickT (Eq.trans (@rfl V (V.bool (decide (((nth (w) (k))) < (0 : Int))))) (bdT g7)) (@rfl V (V.bool true)) ?_
     exact ⟨t0, t1, t5, (Eq.trans (@rfl V (V.bool true)) (dec_orT g7)), trivial⟩
    ·
     refine G_yes (Eq.trans (@rfl V (V.bool (decide (((nth (w) (k))) < (0 : Int))))) (bdF g7)) ?_
     refine R_mv t0 ?_
     refine G_yes (Eq.trans (@rfl V (V.bool (decide (((nth (w) (k))) < (0 : Int))))) (bdF g7)) ?_
     refine R_mv t5 ?_
     refine G_yes (Eq.trans (@rfl V (V.bool (decide (((nth (w) (k))) < (0 : Int))))) (bdF g7)) ?_
     refine R_idx (i := k) (@rfl V (V.sl (List.map cI (w)))) (@rfl V (iV ((k : Nat) : Int))) (by omega) rfl ?_
     refine G_yes (Eq.trans (@rfl V (V.bool (decide (((nth (w) (k))) < (0 : Int))))) (bdF g7)) ?_
     refine R_load_pp (v := (iV ((nth (w) (k))))) (@rfl V (V.pp [(iV ((nth (w) (k))))])) (by first | rfl | simp [ldV]) ?_
     refine G_yes (Eq.trans (@rfl V (V.bool (decide (((nth (w) (k))) < (0 : Int))))) (bdF g7)) ?_
     refine R_mv t1 ?_
     refine G_yes (Eq.trans (@rfl V (V.bool (decide (((nth (w) (k))) < (0 : Int))))) (bdF g7)) ?_
     refine R_geq (x := ((nth (w) (k)))) (y := (n)) (@rfl V (iV ((nth (w) (k))))) (@rfl V (iV (n))) ?_
     refine R_pickF (Eq.trans (@rfl V (V.bool (decide (((nth (w) (k))) < (0 : Int))))) (bdF g7)) (@rfl V (V.bool (decide ((n) ≤ ((nth (w) (k))))))) ?_
     exact ⟨t0, t1, t5, (Eq.trans (@rfl V (V.bool (decide ((n) ≤ ((nth (w) (k))))))) (dec_orF g7)), trivial⟩
   intro T H ⟨t0, t1, t5, t30, _⟩
   exact R_nil ⟨t0, t1, t5, t30, trivial⟩
  intro T H ⟨t0, t1, t5, t30, _⟩
  refine W_if (p := (((nth (w) (k))) < (0 : Int)) ∨ ((n) ≤ ((nth (w) (k))))) t30 (fun c8 => ?_) (fun c8 => ?_)
  ·
   refine W_seq_regc (fun T H => T 4 = (iV (1 : Int)) ∧ True) ?_ ?_
   ·
    unfold r58_9
    refine R_mv (@rfl V (iV (1 : Int))) ?_
    exact R_nil ⟨rfl, trivial⟩
   intro T H ⟨t4, _⟩
   refine W_ret ?_
   refine y6 _ _ ?_
   refine p24 _ _ ?_
   refine y3 _ _ ?_
   refine Ret_1 t4 (fz_int ?_)
   · rw [hc, fe_hit (by unfold wE; split <;> omega) (by omega)]; unfold wE; split <;> omega
  refine W_skip ?_
  refine n6 _ _ ?_
  refine .done ?_
  refine W_regc (fun T H => T 0 = (V.sl (List.map cI (w))) ∧ T 1 = (iV (n)) ∧ T 5 = (iV ((k + 1 : Nat) : Int)) ∧ True) ?_ ?_
  ·
   unfold r58_7
   refine R_mv t5 ?_
   refine R_addN (m := k) (n := 1) (@rfl V (iV ((k : Nat) : Int))) (@rfl V (iV ((1 : Nat) : Int))) (by omega) ?_
   refine R_mv (@rfl V (iV ((k + 1 : Nat) : Int))) ?_
   exact R_nil ⟨t0, t1, rfl, trivial⟩
  intro T H ⟨t0, t1, t5, _⟩
  refine p14 _ _ _ ?_ ⟨(k + 1), rfl, t0, t1, (Eq.trans t5 (by first | rfl | simp)), ?_, ?_, ?_, ?_⟩
  · omega
  · omega
  · omega
  · omega
  · rw [hc, fe_skip (by unfold wE; split <;> omega) (by omega)]
 refine W_seq_exit ?_
 refine p34 _ _ _ ?_
 refine x3 _ _ ?_
 refine .done ?_
 refine W_seq_regc (fun T H => T 4 = (iV (0 : Int)) ∧ True) ?_ ?_
 ·
  unfold r58_10
  refine R_mv (@rfl V (iV (0 : Int))) ?_
  exact R_nil ⟨rfl, trivial⟩
 intro T H ⟨t4, _⟩
 refine W_ret ?_
 refine Ret_1 t4 (fz_int ?_)
 · rw [hc, fe_end (by omega)]

end Go.Proofs.Ytngkckefanbhgaa

namespace Go.Proofs.Ytngkckefanbhgaa
open Go Go.Proofs

theorem rproper_pure (t : Tr) (n : Int) : PureC Try.prog 60 [(V.agg [(V.sl (List.map cI (t.ni))), (V.sl (List.map cI (t.no)))]), (iV (n))] (iV (prE t n)) := by
 refine pure_of_Wb true 6 Try.func60 s60_ok (by kernel_rfl) (by simp [s60]) (by simp) (by simp) fun hB => ?_
 simp only [bnd_map, bnd_int, bnd_bool, bnd_str, bnd_agg, bnd_pp, bnd_nil, bnd_cons, implies_true, and_true, true_and] at hB
 unfold s60
 dsimp only
 refine W_seq_regc (fun T H => T 1 = (iV (n)) ∧ T 2 = (V.mp 2 1 0 0) ∧ H 2 = (⟨1, true, false, 63, 2, [[(V.sl (List.map cI (t.ni))), (V.sl (List.map cI (t.no)))]]⟩ : Blk) ∧ True) ?_ ?_
 ·
  unfold r60_0
  refine R_box (i := 2) (n := 0) (m := 2) (cs := [(V.sl (List.map cI (t.ni))), (V.sl (List.map cI (t.no)))]) rfl (congrArg Blk.ver rfl) (@rfl V (V.agg [(V.sl (List.map cI (t.ni))), (V.sl (List.map cI (t.no)))])) rfl rfl ?_
  refine R_mv (@rfl V (iV (0 : Int))) ?_
  exact R_nil ⟨rfl, rfl, rfl, trivial⟩
 intro T H ⟨t1, t2, h2, _⟩
 refine W_seq_seq ?_
 refine W_seq_regc (fun T H => T 2 = (V.mp 2 1 0 0) ∧ T 5 = (iV (wchk t.ni ((n)))) ∧ H 2 = (⟨1, true, false, 63, 2, [[(V.sl (List.map cI (t.ni))), (V.sl (List.map cI (t.no)))]]⟩ : Blk) ∧ True) ?_ ?_
 ·
  unfold r60_1
  refine R_fld_mp (o' := 0) t2 h2 (by first | rfl | simp [okB, Blk.own]) rfl ?_
  refine R_load_mp (v := (V.sl (List.map cI (t.ni)))) (@rfl V (V.mp 2 1 0 0)) h2 (by first | rfl | simp [ldB, ldV, Blk.own, V.one]) ?_
  refine R_mv t1 ?_
  refine R_call (evcons (@rfl V (V.sl (List.map cI (t.ni)))) (evcons (@rfl V (iV (n))) evnil)) (rcheck_pure t.ni ((n))) (fzv_mapcanon _ _ (by simp [-List.map_take, -List.map_drop, -List.map_append, -List.map_reverse])) (by simp [-List.map_take, -List.map_drop, -List.map_append, -List.map_reverse]) (Or.inl (by simp [-List.map_take, -List.map_drop, -List.map_append, -List.map_reverse])) ?_
  refine R_mv (@rfl V (iV (wchk t.ni ((n))))) ?_
  exact R_nil ⟨t2, rfl, h2, trivial⟩
 intro T H ⟨t2, t5, h2, _⟩
 refine W_seq_seq ?_
 refine W_seq_regc (fun T H => T 2 = (V.mp 2 1 0 0) ∧ T 5 = (iV (wchk t.ni ((n)))) ∧ T 12 = (V.bool (decide ((wchk t.ni ((n))) ≠ (0 : Int)))) ∧ H 2 = (⟨1, true, false, 63, 2, [[(V.sl (List.map cI (t.ni))), (V.sl (List.map cI (t.no)))]]⟩ : Blk) ∧ True) ?_ ?_
 ·
  unfold r60_2
  refine R_mv t5 ?_
  refine R_neq (x := (wchk t.ni ((n)))) (y := (0 : Int)) (@rfl V (iV (wchk t.ni ((n))))) (@rfl V (iV (0 : Int))) ?_
  exact R_nil ⟨t2, t5, rfl, h2, trivial⟩
 intro T H ⟨t2, t5, t12, h2, _⟩
 refine W_seq_if (p := (wchk t.ni ((n))) ≠ (0 : Int)) t12 (fun c1 => ?_) (fun c1 => ?_)
 ·
  refine W_seq_seq ?_
  refine W_seq_regc (fun T H => T 4 = (iV (wchk t.ni ((n)))) ∧ H 2 = (⟨1, true, false, 63, 2, [[(V.sl (List.map cI (t.ni))), (V.sl (List.map cI (t.no)))]]⟩ : Blk) ∧ True) ?_ ?_
  ·
   unfold r60_3
   refine R_mv t5 ?_
   refine R_mv (@rfl V (iV (wchk t.ni ((n))))) ?_
   exact R_nil ⟨rfl, h2, trivial⟩
  intro T H ⟨t4, h2, _⟩
  refine W_seq_ret ?_
  refine Ret_1 t4 (fz_int ?_)
  · rw [prE, if_pos (by omega)]
 refine W_seq_skip ?_
 refine W_seq_seq ?_
 refine W_seq_regc (fun T H => T 2 = (V.mp 2 1 0 0) ∧ T 20 = (V.bool (decide (((t.no.length : Nat) : Int) ≠ ((t.ni.length : Nat) : Int)))) ∧ H 2 = (⟨1, true, false, 63, 2, [[(V.sl (List.map cI (t.ni))), (V.sl (List.map cI (t.no)))]]⟩ : Blk) ∧ True) ?_ ?_
 ·
  unfold r60_4
  refine R_fld_mp (o' := 1) t2 h2 (by first | rfl | simp [okB, Blk.own]) rfl ?_
  refine R_load_mp (v := (V.sl (List.map cI (t.no)))) (@rfl V (V.mp 2 1 0 1)) h2 (by first | rfl | simp [ldB, ldV, Blk.own, V.one]) ?_
  refine R_len (@rfl V (V.sl (List.map cI (t.no)))) ?_
  refine R_fld_mp (o' := 0) t2 h2 (by first | rfl | simp [okB, Blk.own]) rfl ?_
  refine R_load_mp (v := (V.sl (List.map cI (t.ni)))) (@rfl V (V.mp 2 1 0 0)) h2 (by first | rfl | simp [ldB, ldV, Blk.own, V.one]) ?_
  refine R_len (@rfl V (V.sl (List.map cI (t.ni)))) ?_
  refine R_neq (x := ((t.no.length : Nat) : Int)) (y := ((t.ni.length : Nat) : Int)) (@rfl V (iV ((t.no.length : Nat) : Int))) (@rfl V (iV ((t.ni.length : Nat) : Int))) ?_
  exact R_nil ⟨t2, rfl, h2, trivial⟩
 intro T H ⟨t2, t20, h2, _⟩
 refine W_seq_if (p := ((t.no.length : Nat) : Int) ≠ ((t.ni.length : Nat) : Int)) t20 (fun c2 => ?_) (fun c2 => ?_)
 ·
  refine W_seq_seq ?_
  refine W_seq_regc (fun T H => T 4 = (iV (1 : Int)) ∧ H 2 = (⟨1, true, false, 63, 2, [[(V.sl (List.map cI (t.ni))), (V.sl (List.map cI (t.no)))]]⟩ : Blk) ∧ True) ?_ ?_
  ·
   unfold r60_5
   refine R_mv (@rfl V (iV (1 : Int))) ?_
   exact R_nil ⟨rfl, h2, trivial⟩
  intro T H ⟨t4, h2, _⟩
  refine W_seq_ret ?_
  refine Ret_1 t4 (fz_int ?_)
  · rw [prE, if_neg (by omega), if_pos (by omega)]
 refine W_seq_skip ?_
 refine W_seq_seq ?_
 refine W_seq_regc (fun T H => T 2 = (V.mp 2 1 0 0) ∧ T 6 = (iV (0 : Int)) ∧ H 2 = (⟨1, true, false, 63, 2, [[(V.sl (List.map cI (t.ni))), (V.sl (List.map cI (t.no)))]]⟩ : Blk) ∧ True) ?_ ?_
 ·
  unfold r60_6
  refine R_mv (@rfl V (iV (0 : Int))) ?_
  exact R_nil ⟨t2, rfl, h2, trivial⟩
 intro T H ⟨t2, t6, h2, _⟩
 refine W_seq_blockg fun Q3 n3 x3 y3 z3 => ?_
 refine W_loop (fun mm T H => ∃ (k : Nat), mm = t.no.length - k ∧ T 2 = (V.mp 2 1 0 0) ∧ T 6 = (iV ((k : Nat) : Int)) ∧ H 2 = (⟨1, true, false, 63, 2, [[(V.sl (List.map cI (t.ni))), (V.sl (List.map cI (t.no)))]]⟩ : Blk) ∧ (k ≤ t.no.length) ∧ (prE t n = fe (outE t) k (t.no.length - k))) ?_ ?_
 ·
  refine ⟨_, 0, rfl, t2, (Eq.trans t6 (by first | rfl | simp)), h2, ?_, ?_⟩
  · omega
  · rw [prE, if_neg (by omega), if_neg (by omega)]; rfl
 intro mm T H ⟨k, hmm, t2, t6, h2, hk, hc⟩ Q4 p14 p24 p34
 unfold b60_0
 refine W_seq_seq ?_
 refine W_seq_regc (fun T H => T 2 = (V.mp 2 1 0 0) ∧ T 6 = (iV ((k : Nat) : Int)) ∧ T 25 = (V.bool (decide (((k : Nat) : Int) < ((t.no.length : Nat) : Int)))) ∧ H 2 = (⟨1, true, false, 63, 2, [[(V.sl (List.map cI (t.ni))), (V.sl (List.map cI (t.no)))]]⟩ : Blk) ∧ True) ?_ ?_
 ·
  unfold r60_7
  refine R_mv t6 ?_
  refine R_fld_mp (o' := 1) t2 h2 (by first | rfl | simp [okB, Blk.own]) rfl ?_
  refine R_load_mp (v := (V.sl (List.map cI (t.no)))) (@rfl V (V.mp 2 1 0 1)) h2 (by first | rfl | simp [ldB, ldV, Blk.own, V.one]) ?_
  refine R_len (@rfl V (V.sl (List.map cI (t.no)))) ?_
  refine R_lss (x := ((k : Nat) : Int)) (y := ((t.no.length : Nat) : Int)) (@rfl V (iV ((k : Nat) : Int))) (@rfl V (iV ((t.no.length : Nat) : Int))) ?_
  exact R_nil ⟨t2, t6, rfl, h2, trivial⟩
 intro T H ⟨t2, t6, t25, h2, _⟩
 refine W_seq_if (p := ((k : Nat) : Int) < ((t.no.length : Nat) : Int)) t25 (fun c5 => ?_) (fun c5 => ?_)
 ·
  refine W_seq_skip ?_
  refine W_seq_blockg fun Q6 n6 x6 y6 z6 => ?_
  refine W_seq_regc (fun T H => T 2 = (V.mp 2 1 0 0) ∧ T 6 = (iV ((k : Nat) : Int)) ∧ T 41 = (V.bool (decide ((((nth (t.no) (k))) < (0 : Int)) ∨ ((1048576 : Int) < ((nth (t.no) (k))))))) ∧ H 2 = (⟨1, true, false, 63, 2, [[(V.sl (List.map cI (t.ni))), (V.sl (List.map cI (t.no)))]]⟩ : Blk) ∧ True) ?_ ?_
  ·
   unfold r60_9
   refine R_fld_mp (o' := 1) t2 h2 (by first | rfl | simp [okB, Blk.own]) rfl ?_
   refine R_load_mp (v := (V.sl (List.map cI (t.no)))) (@rfl V (V.mp 2 1 0 1)) h2 (by first | rfl | simp [ldB, ldV, Blk.own, V.one]) ?_
   refine R_mv t6 ?_
   refine R_idx (i := k) (@rfl V (V.sl (List.map cI (t.no)))) (@rfl V (iV ((k : Nat) : Int))) (by omega) rfl ?_
   refine R_load_pp (v := (iV ((nth (t.no) (k))))) (@rfl V (V.pp [(iV ((nth (t.no) (k))))])) (by first | rfl | simp [ldV]) ?_
   refine R_lss (x := ((nth (t.no) (k)))) (y := (0 : Int)) (@rfl V (iV ((nth (t.no) (k))))) (@rfl V (iV (0 : Int))) ?_
   refine R_mv (@rfl V (V.bool (decide (((nth (t.no) (k))) < (0 : Int))))) ?_
   refine Ops_seg 7 (fun T H => T 2 = (V.mp 2 1 0 0) ∧ T 6 = (iV ((k : Nat) : Int)) ∧ T 41 = (V.bool (decide ((((nth (t.no) (k))) < (0 : Int)) ∨ ((1048576 : Int) < ((nth (t.no) (k))))))) ∧ H 2 = (⟨1, true, false, 63, 2, [[(V.sl (List.map cI (t.ni))), (V.sl (List.map cI (t.no)))]]⟩ : Blk) ∧ True) ?_ ?_
   ·
    by_cases g7 : ((nth (t.no) (k))) < (0 : Int)
    ·
     refine G_no (Eq.trans (@rfl V (V.bool (decide (((nth (t.no) (k))) < (0 : Int))))) (bdT g7)) (by decide) ?_
     refine G_no (Eq.trans (@rfl V (V.bool (decide (((nth (t.no) (k))) < (0 : Int))))) (bdT g7)) (by decide) ?_
     refine G_no (Eq.trans (@rfl V (V.bool (decide (((nth (t.no) (k))) < (0 : Int))))) (bdT g7)) (by decide) ?_
     refine G_no (Eq.trans (@rfl V (V.bool (decide (((nth (t.no) (k))) < (0 : Int))))) (bdT g7)) (by decide) ?_
     refine G_no (Eq.trans (@rfl V (V.bool (decide (((nth (t.no) (k))) < (0 : Int))))) (bdT g7)) (by decide) ?_
     refine G_no (Eq.trans (@rfl V (V.bool (decide (((nth (t.no) (k))) < (0 : Int))))) (bdT g7)) (by decide) ?_
     refine R_pickT (Eq.trans (@rfl V (V.bool (decide (((nth (t.no) (k))) < (0 : Int))))) (bdT g7)) (@rfl V (V.bool true)) ?_
     exact ⟨t2, t6, (Eq.trans (@rfl V (V.bool true)) (dec_orT g7)), h2, trivial⟩
    ·
     refine G_yes (Eq.trans (@rfl V (V.bool (decide (((nth (t.no) (k))) < (0 : Int))))) (bdF g7)) ?_
     refine R_fld_mp (o' := 1) t2 h2 (by first | rfl | simp [okB, Blk.own]) rfl ?_
     refine G_yes (Eq.trans (@rfl V (V.bool (decide (((nth (t.no) (k))) < (0 : Int))))) (bdF g7)) ?_
     refine R_load_mp (v := (V.sl (List.map cI (t.no)))) (@rfl V (V.mp 2 1 0 1)) h2 (by first | rfl | simp [ldB, ldV, Blk.own, V.one]) ?_
     refine G_yes (Eq.trans (@rfl V (V.bool (decide (((nth (t.no) (k))) < (0 : Int))))) (bdF g7)) ?_
     refine R_mv t6 ?_
     refine G_yes (Eq.trans (@rfl V (V.bool (decide (((nth (t.no) (k))) < (0 : Int))))) (bdF g7)) ?_
     refine R_idx (i := k) (@rfl V (V.sl (List.map cI (t.no)))) (@rfl V (iV ((k : Nat) : Int))) (by omega) rfl ?_
     refine G_yes (Eq.trans (@rfl V (V.bool (decide (((nth (t.no) (k))) < (0 : Int))))) (bdF g7)) ?_
     refine R_load_pp (v := (iV ((nth (t.no) (k))))) (@rfl V (V.pp [(iV ((nth (t.no) (k))))])) (by first | rfl | simp [ldV]) ?_
     refine G_yes (Eq.trans (@rfl V (V.bool (decide (((nth (t.no) (k))) < (0 : Int))))) (bdF g7)) ?_
     refine R_gtr (x := ((nth (t.no) (k)))) (y := (1048576 : Int)) (@rfl V (iV ((nth (t.no) (k))))) (@rfl V (iV (1048576 : Int))) ?_
     refine R_pickF (Eq.trans (@rfl V (V.bool (decide (((nth (t.no) (k))) < (0 : Int))))) (bdF g7)) (@rfl V (V.bool (decide ((1048576 : Int) < ((nth (t.no) (k))))))) ?_
     exact ⟨t2, t6, (Eq.trans (@rfl V (V.bool (decide ((1048576 : Int) < ((nth (t.no) (k))))))) (dec_orF g7)), h2, trivial⟩
   intro T H ⟨t2, t6, t41, h2, _⟩
   exact R_nil ⟨t2, t6, t41, h2, trivial⟩
  intro T H ⟨t2, t6, t41, h2, _⟩
  refine W_if (p := (((nth (t.no) (k))) < (0 : Int)) ∨ ((1048576 : Int) < ((nth (t.no) (k))))) t41 (fun c8 => ?_) (fun c8 => ?_)
  ·
   refine W_seq_regc (fun T H => T 4 = (iV (2 : Int)) ∧ H 2 = (⟨1, true, false, 63, 2, [[(V.sl (List.map cI (t.ni))), (V.sl (List.map cI (t.no)))]]⟩ : Blk) ∧ True) ?_ ?_
   ·
    unfold r60_10
    refine R_mv (@rfl V (iV (2 : Int))) ?_
    exact R_nil ⟨rfl, h2, trivial⟩
   intro T H ⟨t4, h2, _⟩
   refine W_ret ?_
   refine y6 _ _ ?_
   refine p24 _ _ ?_
   refine y3 _ _ ?_
   refine Ret_1 t4 (fz_int ?_)
   · rw [hc, fe_hit (by unfold outE; split <;> omega) (by omega)]; unfold outE; split <;> omega
  refine W_skip ?_
  refine n6 _ _ ?_
  refine .done ?_
  refine W_regc (fun T H => T 2 = (V.mp 2 1 0 0) ∧ T 6 = (iV ((k + 1 : Nat) : Int)) ∧ H 2 = (⟨1, true, false, 63, 2, [[(V.sl (List.map cI (t.ni))), (V.sl (List.map cI (t.no)))]]⟩ : Blk) ∧ True) ?_ ?_
  ·
   unfold r60_8
   refine R_mv t6 ?_
   refine R_addN (m := k) (n := 1) (@rfl V (iV ((k : Nat) : Int))) (@rfl V (iV ((1 : Nat) : Int))) (by omega) ?_
   refine R_mv (@rfl V (iV ((k + 1 : Nat) : Int))) ?_
   exact R_nil ⟨t2, rfl, h2, trivial⟩
  intro T H ⟨t2, t6, h2, _⟩
  refine p14 _ _ _ ?_ ⟨(k + 1), rfl, t2, (Eq.trans t6 (by first | rfl | simp)), h2, ?_, ?_⟩
  · omega
  · omega
  · rw [hc, fe_skip (by unfold outE; split <;> omega) (by omega)]
 refine W_seq_exit ?_
 refine p34 _ _ _ ?_
 refine x3 _ _ ?_
 refine .done ?_
 refine W_seq_regc (fun T H => T 4 = (iV (0 : Int)) ∧ H 2 = (⟨1, true, false, 63, 2, [[(V.sl (List.map cI (t.ni))), (V.sl (List.map cI (t.no)))]]⟩ : Blk) ∧ True) ?_ ?_
 ·
  unfold r60_11
  refine R_mv (@rfl V (iV (0 : Int))) ?_
  exact R_nil ⟨rfl, h2, trivial⟩
 intro T H ⟨t4, h2, _⟩
 refine W_ret ?_
 refine Ret_1 t4 (fz_int ?_)
 · rw [hc, fe_end (by omega)]

end Go.Proofs.Ytngkckefanbhgaa

namespace Go.Proofs.Ytngkckefanbhgaa
open Go Go.Proofs

def r85_0 : List SO := [
  ⟨none, some 2, .box 63 2 (.t 0)⟩,
  ⟨none, some 3, .box 63 2 (.t 1)⟩,
  ⟨none, some 4, .mv (.c (.int .i64 0))⟩]
def r85_1 : List SO := [
  ⟨none, some 7, .fld 0 (.t 2)⟩,
  ⟨none, some 8, .load false 1 (.t 7)⟩,
  ⟨none, some 9, .fld 0 (.t 3)⟩,
  ⟨none, some 10, .load false 1 (.t 9)⟩,
  ⟨none, some 11, .call false 67 [.t 8, .t 10]⟩,
  ⟨none, some 5, .mv (.t 11)⟩]
def r85_2 : List SO := [
  ⟨none, some 6, .mv (.c (.int .i64 0))⟩]
def r85_3 : List SO := [
  ⟨none, some 12, .mv (.t 6)⟩,
  ⟨none, some 13, .mv (.t 5)⟩,
  ⟨none, some 14, .bin .lss (.t 12) (.t 13)⟩]
def r85_5 : List SO := [
  ⟨none, some 17, .fld 1 (.t 2)⟩,
  ⟨none, some 18, .load false 1 (.t 17)⟩,
  ⟨none, some 19, .mv (.t 6)⟩,
  ⟨none, some 20, .idx 1 (.t 18) (.t 19)⟩,
  ⟨none, some 21, .load false 1 (.t 20)⟩,
  ⟨none, some 22, .fld 1 (.t 3)⟩,
  ⟨none, some 23, .load false 1 (.t 22)⟩,
  ⟨none, some 24, .mv (.t 6)⟩,
  ⟨none, some 25, .idx 1 (.t 23) (.t 24)⟩,
  ⟨none, some 26, .load false 1 (.t 25)⟩,
  ⟨none, some 27, .bin .neq (.t 21) (.t 26)⟩]
def r85_6 : List SO := [
  ⟨none, some 28, .mv (.t 6)⟩,
  ⟨none, some 4, .mv (.t 28)⟩]
def r85_4 : List SO := [
  ⟨none, some 15, .mv (.t 6)⟩,
  ⟨none, some 16, .bin .add (.t 15) (.c (.int .i64 1))⟩,
  ⟨none, some 6, .mv (.t 16)⟩]
def b85_0 : SC := .seq (.seq (.reg r85_3) (.cond (.t 14) (.skip) (.exit 0))) (.seq (.block 1 (.seq (.reg r85_5) (.cond (.t 27) (.seq (.reg r85_6) (.ret)) (.skip)))) (.reg r85_4))
def r85_7 : List SO := [
  ⟨none, some 4, .mv (.c (.int .i64 (-1)))⟩]
def s85 : SF := ⟨29, [.tmp 4], .seq (.reg r85_0) (.seq (.reg r85_1) (.seq (.seq (.reg r85_2) (.block 0 (.loop b85_0))) (.seq (.reg r85_7) (.ret))))⟩
theorem s85_ok : slimF Try.prog ⟨[94, 102, 103, 108, 109, 116, 119, 121, 125], []⟩ Try.f85 = some s85 := by kernel_rfl

end Go.Proofs.Ytngkckefanbhgaa

namespace Go.Proofs.Ytngkckefanbhgaa
open Go Go.Proofs

def r67_0 : List SO := [
  ⟨none, some 4, .mv (.c (.int .i64 0))⟩]
def r67_1 : List SO := [
  ⟨none, some 5, .mv (.c (.int .i64 0))⟩]
def r67_2 : List SO := [
  ⟨none, some 6, .mv (.t 5)⟩,
  ⟨none, some 7, .mv (.t 0)⟩,
  ⟨none, some 8, .len (.t 7)⟩,
  ⟨none, some 9, .bin .lss (.t 6) (.t 8)⟩,
  ⟨none, some 10, .mv (.t 9)⟩,
  ⟨some (10, true), some 11, .mv (.t 5)⟩,
  ⟨some (10, true), some 12, .mv (.t 1)⟩,
  ⟨some (10, true), some 13, .len (.t 12)⟩,
  ⟨some (10, true), some 14, .bin .lss (.t 11) (.t 13)⟩,
  ⟨none, some 15, .pick (.t 10) (.t 14) (.c (.bool false))⟩,
  ⟨none, some 16, .mv (.t 15)⟩,
  ⟨some (16, true), some 17, .mv (.t 0)⟩,
  ⟨some (16, true), some 18, .mv (.t 5)⟩,
  ⟨some (16, true), some 19, .idx 1 (.t 17) (.t 18)⟩,
  ⟨some (16, true), some 20, .load false 1 (.t 19)⟩,
  ⟨some (16, true), some 21, .mv (.t 1)⟩,
  ⟨some (16, true), some 22, .mv (.t 5)⟩,
  ⟨some (16, true), some 23, .idx 1 (.t 21) (.t 22)⟩,
  ⟨some (16, true), some 24, .load false 1 (.t 23)⟩,
  ⟨some (16, true), some 25, .bin .eql (.t 20) (.t 24)⟩,
  ⟨none, some 26, .pick (.t 16) (.t 25) (.c (.bool false))⟩]
def r67_3 : List SO := [
  ⟨none, some 27, .mv (.t 5)⟩,
  ⟨none, some 28, .bin .add (.t 27) (.c (.int .i64 1))⟩,
  ⟨none, some 5, .mv (.t 28)⟩]
def b67_0 : SC := .seq (.seq (.reg r67_2) (.cond (.t 26) (.skip) (.exit 0))) (.block 1 (.reg r67_3))
def r67_4 : List SO := [
  ⟨none, some 29, .mv (.t 5)⟩,
  ⟨none, some 4, .mv (.t 29)⟩]
def s67 : SF := ⟨30, [.tmp 4], .seq (.reg r67_0) (.seq (.reg r67_1) (.seq (.block 0 (.loop b67_0)) (.seq (.reg r67_4) (.ret))))⟩
theorem s67_ok : slimF Try.prog ⟨[94, 102, 103, 108, 109, 116, 119, 121, 125], []⟩ Try.f67 = some s67 := by kernel_rfl

end Go.Proofs.Ytngkckefanbhgaa

namespace Go.Proofs.Ytngkckefanbhgaa
open Go Go.Proofs

theorem rcommon_pure (a b : List Int) : PureC Try.prog 67 [(V.sl (List.map cI (a))), (V.sl (List.map cI (b)))] (iV ((cmn a b : Nat) : Int)) := by
 refine pure_of_Wb true 6 Try.func67 s67_ok (by kernel_rfl) (by simp [s67]) (by simp) (by simp) fun hB => ?_
 simp only [bnd_map, bnd_int, bnd_bool, bnd_str, bnd_agg, bnd_pp, bnd_nil, bnd_cons, implies_true, and_true, true_and] at hB
 unfold s67
 dsimp only
 refine W_seq_regc (fun T H => T 0 = (V.sl (List.map cI (a))) ∧ T 1 = (V.sl (List.map cI (b))) ∧ True) ?_ ?_
 ·
  unfold r67_0
  refine R_mv (@rfl V (iV (0 : Int))) ?_
  exact R_nil ⟨rfl, rfl, trivial⟩
 intro T H ⟨t0, t1, _⟩
 refine W_seq_regc (fun T H => T 0 = (V.sl (List.map cI (a))) ∧ T 1 = (V.sl (List.map cI (b))) ∧ T 5 = (iV (0 : Int)) ∧ True) ?_ ?_
 ·
  unfold r67_1
  refine R_mv (@rfl V (iV (0 : Int))) ?_
  exact R_nil ⟨t0, t1, rfl, trivial⟩
 intro T H ⟨t0, t1, t5, _⟩
 refine W_seq_blockg fun Q1 n1 x1 y1 z1 => ?_
 refine W_loop (fun mm T H => ∃ (k : Nat), mm = a.length - k ∧ T 0 = (V.sl (List.map cI (a))) ∧ T 1 = (V.sl (List.map cI (b))) ∧ T 5 = (iV ((k : Nat) : Int)) ∧ (k ≤ a.length) ∧ (k ≤ cmn a b)) ?_ ?_
 ·
  refine ⟨_, 0, rfl, t0, t1, (Eq.trans t5 (by first | rfl | simp)), ?_, ?_⟩
  · omega
  · exact Nat.zero_le _
 intro mm T H ⟨k, hmm, t0, t1, t5, hk, hc⟩ Q2 p12 p22 p32
 unfold b67_0
 refine W_seq_seq ?_
 refine W_seq_regc (fun T H => T 0 = (V.sl (List.map cI (a))) ∧ T 1 = (V.sl (List.map cI (b))) ∧ T 5 = (iV ((k : Nat) : Int)) ∧ T 26 = (V.bool (decide (((((k : Nat) : Int) < ((a.length : Nat) : Int)) ∧ (((k : Nat) : Int) < ((b.length : Nat) : Int))) ∧ (((nth (a) (k))) = ((nth (b) (k))))))) ∧ True) ?_ ?_
 ·
  unfold r67_2
  refine R_mv t5 ?_
  refine R_mv t0 ?_
  refine R_len (@rfl V (V.sl (List.map cI (a)))) ?_
  refine R_lss (x := ((k : Nat) : Int)) (y := ((a.length : Nat) : Int)) (@rfl V (iV ((k : Nat) : Int))) (@rfl V (iV ((a.length : Nat) : Int))) ?_
  refine R_mv (@rfl V (V.bool (decide (((k : Nat) : Int) < ((a.length : Nat) : Int))))) ?_
  refine Ops_seg 5 (fun T H => T 0 = (V.sl (List.map cI (a))) ∧ T 1 = (V.sl (List.map cI (b))) ∧ T 5 = (iV ((k : Nat) : Int)) ∧ T 15 = (V.bool (decide ((((k : Nat) : Int) < ((a.length : Nat) : Int)) ∧ (((k : Nat) : Int) < ((b.length : Nat) : Int))))) ∧ True) ?_ ?_
  ·
   by_cases g3 : ((k : Nat) : Int) < ((a.length : Nat) : Int)
   ·
    refine G_yes (Eq.trans (@rfl V (V.bool (decide (((k : Nat) : Int) < ((a.length : Nat) : Int))))) (bdT g3)) ?_
    refine R_mv t5 ?_
    refine G_yes (Eq.trans (@rfl V (V.bool (decide (((k : Nat) : Int) < ((a.length : Nat) : Int))))) (bdT g3)) ?_
    refine R_mv t1 ?_
    refine G_yes (Eq.trans (@rfl V (V.bool (decide (((k : Nat) : Int) < ((a.length : Nat) : Int))))) (bdT g3)) ?_
    refine R_len (@rfl V (V.sl (List.map cI (b)))) ?_
    refine G_yes (Eq.trans (@rfl V (V.bool (decide (((k : Nat) : Int) < ((a.length : Nat) : Int))))) (bdT g3)) ?_
    refine R_lss (x := ((k : Nat) : Int)) (y := ((b.length : Nat) : Int)) (@rfl V (iV ((k : Nat) : Int))) (@rfl V (iV ((b.length : Nat) : Int))) ?_
    refine R_pickT (Eq.trans (@rfl V (V.bool (decide (((k : Nat) : Int) < ((a.length : Nat) : Int))))) (bdT g3)) (@rfl V (V.bool (decide (((k : Nat) : Int) < ((b.length : Nat) : Int))))) ?_
    exact ⟨t0, t1, t5, (Eq.trans (@rfl V (V.bool (decide (((k : Nat) : Int) < ((b.length : Nat) : Int))))) (dec_andT g3)), trivial⟩
   ·
    refine G_no (Eq.trans (@rfl V (V.bool (decide (((k : Nat) : Int) < ((a.length : Nat) : Int))))) (bdF g3)) (by decide) ?_
    refine G_no (Eq.trans (@rfl V (V.bool (decide (((k : Nat) : Int) < ((a.length : Nat) : Int))))) (bdF g3)) (by decide) ?_
    refine G_no (Eq.trans (@rfl V (V.bool (decide (((k : Nat) : Int) < ((a.length : Nat) : Int))))) (bdF g3)) (by decide) ?_
    refine G_no (Eq.trans (@rfl V (V.bool (decide (((k : Nat) : Int) < ((a.length : Nat) : Int))))) (bdF g3)) (by decide) ?_
    refine R_pickF (Eq.trans (@rfl V (V.bool (decide (((k : Nat) : Int) < ((a.length : Nat) : Int))))) (bdF g3)) (@rfl V (V.bool false)) ?_
    exact ⟨t0, t1, t5, (Eq.trans (@rfl V (V.bool false)) (dec_andF g3)), trivial⟩
  intro T H ⟨t0, t1, t5, t15, _⟩
  refine R_mv t15 ?_
  refine Ops_seg 10 (fun T H => T 0 = (V.sl (List.map cI (a))) ∧ T 1 = (V.sl (List.map cI (b))) ∧ T 5 = (iV ((k : Nat) : Int)) ∧ T 26 = (V.bool (decide (((((k : Nat) : Int) < ((a.length : Nat) : Int)) ∧ (((k : Nat) : Int) < ((b.length : Nat) : Int))) ∧ (((nth (a) (k))) = ((nth (b) (k))))))) ∧ True) ?_ ?_
  ·
   by_cases g4 : (((k : Nat) : Int) < ((a.length : Nat) : Int)) ∧ (((k : Nat) : Int) < ((b.length : Nat) : Int))
   ·
    refine G_yes (Eq.trans (@rfl V (V.bool (decide ((((k : Nat) : Int) < ((a.length : Nat) : Int)) ∧ (((k : Nat) : Int) < ((b.length : Nat) : Int)))))) (bdT g4)) ?_
    refine R_mv t0 ?_
    refine G_yes (Eq.trans (@rfl V (V.bool (decide ((((k : Nat) : Int) < ((a.length : Nat) : Int)) ∧ (((k : Nat) : Int) < ((b.length : Nat) : Int)))))) (bdT g4)) ?_
    refine R_mv t5 ?_
    refine G_yes (Eq.trans (@rfl V (V.bool (decide ((((k : Nat) : Int) < ((a.length : Nat) : Int)) ∧ (((k : Nat) : Int) < ((b.length : Nat) : Int)))))) (bdT g4)) ?_
    refine R_idx (i := k) (@rfl V (V.sl (List.map cI (a)))) (@rfl V (iV ((k : Nat) : Int))) (by omega) rfl ?_
    refine G_yes (Eq.trans (@rfl V (V.bool (decide ((((k : Nat) : Int) < ((a.length : Nat) : Int)) ∧ (((k : Nat) : Int) < ((b.length : Nat) : Int)))))) (bdT g4)) ?_
    refine R_load_pp (v := (iV ((nth (a) (k))))) (@rfl V (V.pp [(iV ((nth (a) (k))))])) (by first | rfl | simp [ldV]) ?_
    refine G_yes (Eq.trans (@rfl V (V.bool (decide ((((k : Nat) : Int) < ((a.length : Nat) : Int)) ∧ (((k : Nat) : Int) < ((b.length : Nat) : Int)))))) (bdT g4)) ?_
    refine R_mv t1 ?_
    refine G_yes (Eq.trans (@rfl V (V.bool (decide ((((k : Nat) : Int) < ((a.length : Nat) : Int)) ∧ (((k : Nat) : Int) < ((b.length : Nat) : Int)))))) (bdT g4)) ?_
    refine R_mv t5 ?_
    refine G_yes (Eq.trans (@rfl V (V.bool (decide ((((k : Nat) : Int) < ((a.length : Nat) : Int)) ∧ (((k : Nat) : Int) < ((b.length : Nat) : Int)))))) (bdT g4)) ?_
    refine R_idx (i := k) (@rfl V (V.sl (List.map cI (b)))) (@rfl V (iV ((k : Nat) : Int))) (by omega) rfl ?_
    refine G_yes (Eq.trans (@rfl V (V.bool (decide ((((k : Nat) : Int) < ((a.length : Nat) : Int)) ∧ (((k : Nat) : Int) < ((b.length : Nat) : Int)))))) (bdT g4)) ?_
    refine R_load_pp (v := (iV ((nth (b) (k))))) (@rfl V (V.pp [(iV ((nth (b) (k))))])) (by first | rfl | simp [ldV]) ?_
    refine G_yes (Eq.trans (@rfl V (V.bool (decide ((((k : Nat) : Int) < ((a.length : Nat) : Int)) ∧ (((k : Nat) : Int) < ((b.length : Nat) : Int)))))) (bdT g4)) ?_
    refine R_eql (x := ((nth (a) (k)))) (y := ((nth (b) (k)))) (@rfl V (iV ((nth (a) (k))))) (@rfl V (iV ((nth (b) (k))))) ?_
    refine R_pickT (Eq.trans (@rfl V (V.bool (decide ((((k : Nat) : Int) < ((a.length : Nat) : Int)) ∧ (((k : Nat) : Int) < ((b.length : Nat) : Int)))))) (bdT g4)) (@rfl V (V.bool (decide (((nth (a) (k))) = ((nth (b) (k))))))) ?_
    exact ⟨t0, t1, t5, (Eq.trans (@rfl V (V.bool (decide (((nth (a) (k))) = ((nth (b) (k))))))) (dec_andT g4)), trivial⟩
   ·
    refine G_no (Eq.trans (@rfl V (V.bool (decide ((((k : Nat) : Int) < ((a.length : Nat) : Int)) ∧ (((k : Nat) : Int) < ((b.length : Nat) : Int)))))) (bdF g4)) (by decide) ?_
    refine G_no (Eq.trans (@rfl V (V.bool (decide ((((k : Nat) : Int) < ((a.length : Nat) : Int)) ∧ (((k : Nat) : Int) < ((b.length : Nat) : Int)))))) (bdF g4)) (by decide) ?_
    refine G_no (Eq.trans (@rfl V (V.bool (decide ((((k : Nat) : Int) < ((a.length : Nat) : Int)) ∧ (((k : Nat) : Int) < ((b.length : Nat) : Int)))))) (bdF g4)) (by decide) ?_
    refine G_no (Eq.trans (@rfl V (V.bool (decide ((((k : Nat) : Int) < ((a.length : Nat) : Int)) ∧ (((k : Nat) : Int) < ((b.length : Nat) : Int)))))) (bdF g4)) (by decide) ?_
    refine G_no (Eq.trans (@rfl V (V.bool (decide ((((k : Nat) : Int) < ((a.length : Nat) : Int)) ∧ (((k : Nat) : Int) < ((b.length : Nat) : Int)))))) (bdF g4)) (by decide) ?_
    refine G_no (Eq.trans (@rfl V (V.bool (decide ((((k : Nat) : Int) < ((a.length : Nat) : Int)) ∧ (((k : Nat) : Int) < ((b.length : Nat) : Int)))))) (bdF g4)) (by decide) ?_
    refine G_no (Eq.trans (@rfl V (V.bool (decide ((((k : Nat) : Int) < ((a.length : Nat) : Int)) ∧ (((k : Nat) : Int) < ((b.length : Nat) : Int)))))) (bdF g4)) (by decide) ?_
    refine G_no (Eq.trans (@rfl V (V.bool (decide ((((k : Nat) : Int) < ((a.length : Nat) : Int)) ∧ (((k : Nat) : Int) < ((b.length : Nat) : Int)))))) (bdF g4)) (by decide) ?_
    refine G_no (Eq.trans (@rfl V (V.bool (decide ((((k : Nat) : Int) < ((a.length : Nat) : Int)) ∧ (((k : Nat) : Int) < ((b.length : Nat) : Int)))))) (bdF g4)) (by decide) ?_
    refine R_pickF (Eq.trans (@rfl V (V.bool (decide ((((k : Nat) : Int) < ((a.length : Nat) : Int)) ∧ (((k : Nat) : Int) < ((b.length : Nat) : Int)))))) (bdF g4)) (@rfl V (V.bool false)) ?_
    exact ⟨t0, t1, t5, (Eq.trans (@rfl V (V.bool false)) (dec_andF g4)), trivial⟩
  intro T H ⟨t0, t1, t5, t26, _⟩
  exact R_nil ⟨t0, t1, t5, t26, trivial⟩
 intro T H ⟨t0, t1, t5, t26, _⟩
 refine W_seq_if (p := ((((k : Nat) : Int) < ((a.length : Nat) : Int)) ∧ (((k : Nat) : Int) < ((b.length : Nat) : Int))) ∧ (((nth (a) (k))) = ((nth (b) (k))))) t26 (fun c5 => ?_) (fun c5 => ?_)
 ·
  refine W_seq_skip ?_
  refine W_block fun Q6 n6 x6 y6 z6 => ?_
  refine W_regc (fun T H => T 0 = (V.sl (List.map cI (a))) ∧ T 1 = (V.sl (List.map cI (b))) ∧ T 5 = (iV ((k + 1 : Nat) : Int)) ∧ True) ?_ ?_
  ·
   unfold r67_3
   refine R_mv t5 ?_
   refine R_addN (m := k) (n := 1) (@rfl V (iV ((k : Nat) : Int))) (@rfl V (iV ((1 : Nat) : Int))) (by omega) ?_
   refine R_mv (@rfl V (iV ((k + 1 : Nat) : Int))) ?_
   exact R_nil ⟨t0, t1, rfl, trivial⟩
  intro T H ⟨t0, t1, t5, _⟩
  refine n6 _ _ ?_
  refine p12 _ _ _ ?_ ⟨(k + 1), rfl, t0, t1, (Eq.trans t5 (by first | rfl | simp)), ?_, ?_⟩
  · omega
  · omega
  · exact cmn_next hc (by omega) (by omega) (by omega)
 refine W_seq_exit ?_
 refine p32 _ _ _ ?_
 refine x1 _ _ ?_
 refine .done ?_
 refine W_seq_regc (fun T H => T 4 = (iV ((k : Nat) : Int)) ∧ True) ?_ ?_
 ·
  unfold r67_4
  refine R_mv t5 ?_
  refine R_mv (@rfl V (iV ((k : Nat) : Int))) ?_
  exact R_nil ⟨rfl, trivial⟩
 intro T H ⟨t4, _⟩
 refine W_ret ?_
 refine Ret_1 t4 (fz_int ?_)
 · rw [cmn_at hc (by omega)]

end Go.Proofs.Ytngkckefanbhgaa

namespace Go.Proofs.Ytngkckefanbhgaa
open Go Go.Proofs

theorem rdiffer_pure (a b : Tr) (ha : a.no.length = a.ni.length) (hb : b.no.length = b.ni.length) : PureC Try.prog 85 [(V.agg [(V.sl (List.map cI (a.ni))), (V.sl (List.map cI (a.no)))]), (V.agg [(V.sl (List.map cI (b.ni))), (V.sl (List.map cI (b.no)))])] (iV (df a b)) := by
 refine pure_of_Wb true 6 Try.func85 s85_ok (by kernel_rfl) (by simp [s85]) (by simp) (by simp) fun hB => ?_
 simp only [bnd_map, bnd_int, bnd_bool, bnd_str, bnd_agg, bnd_pp, bnd_nil, bnd_cons, implies_true, and_true, true_and] at hB
 unfold s85
 dsimp only
 refine W_seq_regc (fun T H => T 2 = (V.mp 2 1 0 0) ∧ T 3 = (V.mp 3 1 0 0) ∧ H 2 = (⟨1, true, false, 63, 2, [[(V.sl (List.map cI (a.ni))), (V.sl (List.map cI (a.no)))]]⟩ : Blk) ∧ H 3 = (⟨1, true, false, 63, 2, [[(V.sl (List.map cI (b.ni))), (V.sl (List.map cI (b.no)))]]⟩ : Blk) ∧ True) ?_ ?_
 ·
  unfold r85_0
  refine R_box (i := 2) (n := 0) (m := 2) (cs := [(V.sl (List.map cI (a.ni))), (V.sl (List.map cI (a.no)))]) rfl (congrArg Blk.ver rfl) (@rfl V (V.agg [(V.sl (List.map cI (a.ni))), (V.sl (List.map cI (a.no)))])) rfl rfl ?_
  refine R_box (i := 3) (n := 0) (m := 2) (cs := [(V.sl (List.map cI (b.ni))), (V.sl (List.map cI (b.no)))]) rfl (congrArg Blk.ver rfl) (@rfl V (V.agg [(V.sl (List.map cI (b.ni))), (V.sl (List.map cI (b.no)))])) rfl rfl ?_
  refine R_mv (@rfl V (iV (0 : Int))) ?_
  exact R_nil ⟨rfl, rfl, rfl, rfl, trivial⟩
 intro T H ⟨t2, t3, h2, h3, _⟩
 refine W_seq_regc (fun T H => T 2 = (V.mp 2 1 0 0) ∧ T 3 = (V.mp 3 1 0 0) ∧ T 5 = (iV ((cmn a.ni b.ni : Nat) : Int)) ∧ H 2 = (⟨1, true, false, 63, 2, [[(V.sl (List.map cI (a.ni))), (V.sl (List.map cI (a.no)))]]⟩ : Blk) ∧ H 3 = (⟨1, true, false, 63, 2, [[(V.sl (List.map cI (b.ni))), (V.sl (List.map cI (b.no)))]]⟩ : Blk) ∧ True) ?_ ?_
 ·
  unfold r85_1
  refine R_fld_mp (o' := 0) t2 h2 (by first | rfl | simp [okB, Blk.own]) rfl ?_
  refine R_load_mp (v := (V.sl (List.map cI (a.ni)))) (@rfl V (V.mp 2 1 0 0)) h2 (by first | rfl | simp [ldB, ldV, Blk.own, V.one]) ?_
  refine R_fld_mp (o' := 0) t3 h3 (by first | rfl | simp [okB, Blk.own]) rfl ?_
  refine R_load_mp (v := (V.sl (List.map cI (b.ni)))) (@rfl V (V.mp 3 1 0 0)) h3 (by first | rfl | simp [ldB, ldV, Blk.own, V.one]) ?_
  have q1 := cmn_l a.ni b.ni
  have q2 := cmn_r a.ni b.ni
  refine R_call (evcons (@rfl V (V.sl (List.map cI (a.ni)))) (evcons (@rfl V (V.sl (List.map cI (b.ni)))) evnil)) (rcommon_pure a.ni b.ni) (fzv_mapcanon _ _ (by simp [-List.map_take, -List.map_drop, -List.map_append, -List.map_reverse])) (by simp [-List.map_take, -List.map_drop, -List.map_append, -List.map_reverse]) (Or.inl (by simp [-List.map_take, -List.map_drop, -List.map_append, -List.map_reverse])) ?_
  refine R_mv (@rfl V (iV ((cmn a.ni b.ni : Nat) : Int))) ?_
  exact R_nil ⟨t2, t3, rfl, h2, h3, trivial⟩
 intro T H ⟨t2, t3, t5, h2, h3, _⟩
 have q3 := cmn_l a.ni b.ni
 have q4 := cmn_r a.ni b.ni
 refine W_seq_seq ?_
 refine W_seq_regc (fun T H => T 2 = (V.mp 2 1 0 0) ∧ T 3 = (V.mp 3 1 0 0) ∧ T 5 = (iV ((cmn a.ni b.ni : Nat) : Int)) ∧ T 6 = (iV (0 : Int)) ∧ H 2 = (⟨1, true, false, 63, 2, [[(V.sl (List.map cI (a.ni))), (V.sl (List.map cI (a.no)))]]⟩ : Blk) ∧ H 3 = (⟨1, true, false, 63, 2, [[(V.sl (List.map cI (b.ni))), (V.sl (List.map cI (b.no)))]]⟩ : Blk) ∧ True) ?_ ?_
 ·
  unfold r85_2
  refine R_mv (@rfl V (iV (0 : Int))) ?_
  exact R_nil ⟨t2, t3, t5, rfl, h2, h3, trivial⟩
 intro T H ⟨t2, t3, t5, t6, h2, h3, _⟩
 refine W_seq_blockg fun Q5 n5 x5 y5 z5 => ?_
 refine W_loop (fun mm T H => ∃ (k : Nat), mm = (cmn a.ni b.ni) - k ∧ T 2 = (V.mp 2 1 0 0) ∧ T 3 = (V.mp 3 1 0 0) ∧ T 5 = (iV ((cmn a.ni b.ni : Nat) : Int)) ∧ T 6 = (iV ((k : Nat) : Int)) ∧ H 2 = (⟨1, true, false, 63, 2, [[(V.sl (List.map cI (a.ni))), (V.sl (List.map cI (a.no)))]]⟩ : Blk) ∧ H 3 = (⟨1, true, false, 63, 2, [[(V.sl (List.map cI (b.ni))), (V.sl (List.map cI (b.no)))]]⟩ : Blk) ∧ (k ≤ cmn a.ni b.ni) ∧ (df a b = fi (dfE a b) k (cmn a.ni b.ni - k))) ?_ ?_
 ·
  refine ⟨_, 0, rfl, t2, t3, t5, (Eq.trans t6 (by first | rfl | simp)), h2, h3, ?_, ?_⟩
  · omega
  · rfl
 intro mm T H ⟨k, hmm, t2, t3, t5, t6, h2, h3, hk, hc⟩ Q6 p16 p26 p36
 unfold b85_0
 refine W_seq_seq ?_
 refine W_seq_regc (fun T H => T 2 = (V.mp 2 1 0 0) ∧ T 3 = (V.mp 3 1 0 0) ∧ T 5 = (iV ((cmn a.ni b.ni : Nat) : Int)) ∧ T 6 = (iV ((k : Nat) : Int)) ∧ T 14 = (V.bool (decide (((k : Nat) : Int) < ((cmn a.ni b.ni : Nat) : Int)))) ∧ H 2 = (⟨1, true, false, 63, 2, [[(V.sl (List.map cI (a.ni))), (V.sl (List.map cI (a.no)))]]⟩ : Blk) ∧ H 3 = (⟨1, true, false, 63, 2, [[(V.sl (List.map cI (b.ni))), (V.sl (List.map cI (b.no)))]]⟩ : Blk) ∧ True) ?_ ?_
 ·
  unfold r85_3
  refine R_mv t6 ?_
  refine R_mv t5 ?_
  refine R_lss (x := ((k : Nat) : Int)) (y := ((cmn a.ni b.ni : Nat) : Int)) (@rfl V (iV ((k : Nat) : Int))) (@rfl V (iV ((cmn a.ni b.ni : Nat) : Int))) ?_
  exact R_nil ⟨t2, t3, t5, t6, rfl, h2, h3, trivial⟩
 intro T H ⟨t2, t3, t5, t6, t14, h2, h3, _⟩
 refine W_seq_if (p := ((k : Nat) : Int) < ((cmn a.ni b.ni : Nat) : Int)) t14 (fun c7 => ?_) (fun c7 => ?_)
 ·
  refine W_seq_skip ?_
  refine W_seq_blockg fun Q8 n8 x8 y8 z8 => ?_
  refine W_seq_regc (fun T H => T 2 = (V.mp 2 1 0 0) ∧ T 3 = (V.mp 3 1 0 0) ∧ T 5 = (iV ((cmn a.ni b.ni : Nat) : Int)) ∧ T 6 = (iV ((k : Nat) : Int)) ∧ T 27 = (V.bool (decide (((nth (a.no) (k))) ≠ ((nth (b.no) (k)))))) ∧ H 2 = (⟨1, true, false, 63, 2, [[(V.sl (List.map cI (a.ni))), (V.sl (List.map cI (a.no)))]]⟩ : Blk) ∧ H 3 = (⟨1, true, false, 63, 2, [[(V.sl (List.map cI (b.ni))), (V.sl (List.map cI (b.no)))]]⟩ : Blk) ∧ True) ?_ ?_
  ·
   unfold r85_5
   refine R_fld_mp (o' := 1) t2 h2 (by first | rfl | simp [okB, Blk.own]) rfl ?_
   refine R_load_mp (v := (V.sl (List.map cI (a.no)))) (@rfl V (V.mp 2 1 0 1)) h2 (by first | rfl | simp [ldB, ldV, Blk.own, V.one]) ?_
   refine R_mv t6 ?_
   refine R_idx (i := k) (@rfl V (V.sl (List.map cI (a.no)))) (@rfl V (iV ((k : Nat) : Int))) (by omega) rfl ?_
   refine R_load_pp (v := (iV ((nth (a.no) (k))))) (@rfl V (V.pp [(iV ((nth (a.no) (k))))])) (by first | rfl | simp [ldV]) ?_
   refine R_fld_mp (o' := 1) t3 h3 (by first | rfl | simp [okB, Blk.own]) rfl ?_
   refine R_load_mp (v := (V.sl (List.map cI (b.no)))) (@rfl V (V.mp 3 1 0 1)) h3 (by first | rfl | simp [ldB, ldV, Blk.own, V.one]) ?_
   refine R_mv t6 ?_
   refine R_idx (i := k) (@rfl V (V.sl (List.map cI (b.no)))) (@rfl V (iV ((k : Nat) : Int))) (by omega) rfl ?_
   refine R_load_pp (v := (iV ((nth (b.no) (k))))) (@rfl V (V.pp [(iV ((nth (b.no) (k))))])) (by first | rfl | simp [ldV]) ?_
   refine R_neq (x := ((nth (a.no) (k)))) (y := ((nth (b.no) (k)))) (@rfl V (iV ((nth (a.no) (k))))) (@rfl V (iV ((nth (b.no) (k))))) ?_
   exact R_nil ⟨t2, t3, t5, t6, rfl, h2, h3, trivial⟩
  intro T H ⟨t2, t3, t5, t6, t27, h2, h3, _⟩
  refine W_if (p := ((nth (a.no) (k))) ≠ ((nth (b.no) (k)))) t27 (fun c9 => ?_) (fun c9 => ?_)
  ·
   refine W_seq_regc (fun T H => T 4 = (iV ((k : Nat) : Int)) ∧ H 2 = (⟨1, true, false, 63, 2, [[(V.sl (List.map cI (a.ni))), (V.sl (List.map cI (a.no)))]]⟩ : Blk) ∧ H 3 = (⟨1, true, false, 63, 2, [[(V.sl (List.map cI (b.ni))), (V.sl (List.map cI (b.no)))]]⟩ : Blk) ∧ True) ?_ ?_
   ·
    unfold r85_6
    refine R_mv t6 ?_
    refine R_mv (@rfl V (iV ((k : Nat) : Int))) ?_
    exact R_nil ⟨rfl, h2, h3, trivial⟩
   intro T H ⟨t4, h2, h3, _⟩
   refine W_ret ?_
   refine y8 _ _ ?_
   refine p26 _ _ ?_
   refine y5 _ _ ?_
   refine Ret_1 t4 (fz_int ?_)
   · rw [hc, fi_hit (by simp only [dfE, decide_eq_true_eq]; omega) (by omega)]
  refine W_skip ?_
  refine n8 _ _ ?_
  refine .done ?_
  refine W_regc (fun T H => T 2 = (V.mp 2 1 0 0) ∧ T 3 = (V.mp 3 1 0 0) ∧ T 5 = (iV ((cmn a.ni b.ni : Nat) : Int)) ∧ T 6 = (iV ((k + 1 : Nat) : Int)) ∧ H 2 = (⟨1, true, false, 63, 2, [[(V.sl (List.map cI (a.ni))), (V.sl (List.map cI (a.no)))]]⟩ : Blk) ∧ H 3 = (⟨1, true, false, 63, 2, [[(V.sl (List.map cI (b.ni))), (V.sl (List.map cI (b.no)))]]⟩ : Blk) ∧ True) ?_ ?_
  ·
   unfold r85_4
   refine R_mv t6 ?_
   refine R_addN (m := k) (n := 1) (@rfl V (iV ((k : Nat) : Int))) (@rfl V (iV ((1 : Nat) : Int))) (by omega) ?_
   refine R_mv (@rfl V (iV ((k + 1 : Nat) : Int))) ?_
   exact R_nil ⟨t2, t3, t5, rfl, h2, h3, trivial⟩
  intro T H ⟨t2, t3, t5, t6, h2, h3, _⟩
  refine p16 _ _ _ ?_ ⟨(k + 1), rfl, t2, t3, t5, (Eq.trans t6 (by first | rfl | simp)), h2, h3, ?_, ?_⟩
  · omega
  · omega
  · rw [hc, fi_skip (by simp only [dfE, decide_eq_false_iff_not]; omega) (by omega)]
 refine W_seq_exit ?_
 refine p36 _ _ _ ?_
 refine x5 _ _ ?_
 refine .done ?_
 refine W_seq_regc (fun T H => T 4 = (iV (-1 : Int)) ∧ H 2 = (⟨1, true, false, 63, 2, [[(V.sl (List.map cI (a.ni))), (V.sl (List.map cI (a.no)))]]⟩ : Blk) ∧ H 3 = (⟨1, true, false, 63, 2, [[(V.sl (List.map cI (b.ni))), (V.sl (List.map cI (b.no)))]]⟩ : Blk) ∧ True) ?_ ?_
 ·
  unfold r85_7
  refine R_mv (@rfl V (iV (-1 : Int))) ?_
  exact R_nil ⟨rfl, h2, h3, trivial⟩
 intro T H ⟨t4, h2, h3, _⟩
 refine W_ret ?_
 refine Ret_1 t4 (fz_int ?_)
 · rw [hc, fi_end (by omega)]

end Go.Proofs.Ytngkckefanbhgaa

namespace Go.Proofs.Ytngkckefanbhgaa
open Go Go.Proofs

def r86_0 : List SO := [
  ⟨none, some 2, .box 34 2 (.t 0)⟩,
  ⟨none, some 3, .box 63 2 (.t 1)⟩,
  ⟨none, some 4, .alloc 34 [.int .i64 0, .nilsl]⟩]
def r86_1 : List SO := [
  ⟨none, some 10, .fld 0 (.t 2)⟩,
  ⟨none, some 11, .load false 1 (.t 10)⟩,
  ⟨none, some 12, .build [.int .i64 0, .nilsl] [(0, 1, .t 11)]⟩,
  ⟨none, some 5, .alloc 34 [.int .i64 0, .nilsl]⟩,
  ⟨none, none, .store 2 (.t 5) (.t 12)⟩]
def r86_2 : List SO := [
  ⟨none, some 13, .fld 0 (.t 3)⟩,
  ⟨none, some 14, .load false 1 (.t 13)⟩,
  ⟨none, some 15, .len (.t 14)⟩,
  ⟨none, some 16, .bin .eql (.t 15) (.c (.int .i64 0))⟩,
  ⟨none, some 6, .mv (.t 16)⟩]
def r86_3 : List SO := [
  ⟨none, some 7, .mv (.c (.int .i64 0))⟩]
def r86_4 : List SO := [
  ⟨none, some 17, .mv (.t 7)⟩,
  ⟨none, some 18, .fld 1 (.t 2)⟩,
  ⟨none, some 19, .load false 1 (.t 18)⟩,
  ⟨none, some 20, .len (.t 19)⟩,
  ⟨none, some 21, .bin .lss (.t 17) (.t 20)⟩]
def r86_6 : List SO := [
  ⟨none, some 24, .mv (.t 6)⟩,
  ⟨none, some 25, .mv (.t 24)⟩,
  ⟨some (25, false), some 26, .fld 1 (.t 2)⟩,
  ⟨some (25, false), some 27, .load false 1 (.t 26)⟩,
  ⟨some (25, false), some 28, .mv (.t 7)⟩,
  ⟨some (25, false), some 29, .idx 2 (.t 27) (.t 28)⟩,
  ⟨some (25, false), some 30, .fld 0 (.t 29)⟩,
  ⟨some (25, false), some 31, .load false 1 (.t 30)⟩,
  ⟨some (25, false), some 32, .fld 0 (.t 3)⟩,
  ⟨some (25, false), some 33, .load false 1 (.t 32)⟩,
  ⟨some (25, false), some 34, .call false 70 [.t 31, .t 33]⟩,
  ⟨none, some 35, .pick (.t 25) (.c (.bool true)) (.t 34)⟩,
  ⟨none, some 6, .mv (.t 35)⟩]
def r86_5 : List SO := [
  ⟨none, some 22, .mv (.t 7)⟩,
  ⟨none, some 23, .bin .add (.t 22) (.c (.int .i64 1))⟩,
  ⟨none, some 7, .mv (.t 23)⟩]
def b86_0 : SC := .seq (.seq (.reg r86_4) (.cond (.t 21) (.skip) (.exit 0))) (.seq (.block 1 (.reg r86_6)) (.reg r86_5))
def r86_7 : List SO := [
  ⟨none, some 8, .mv (.c (.int .i64 0))⟩]
def r86_8 : List SO := [
  ⟨none, some 36, .mv (.t 8)⟩,
  ⟨none, some 37, .fld 1 (.t 2)⟩,
  ⟨none, some 38, .load false 1 (.t 37)⟩,
  ⟨none, some 39, .len (.t 38)⟩,
  ⟨none, some 40, .bin .lss (.t 36) (.t 39)⟩]
def r86_10 : List SO := [
  ⟨none, some 43, .fld 1 (.t 2)⟩,
  ⟨none, some 44, .load false 1 (.t 43)⟩,
  ⟨none, some 45, .mv (.t 8)⟩,
  ⟨none, some 46, .idx 2 (.t 44) (.t 45)⟩,
  ⟨none, some 47, .load true 2 (.t 46)⟩,
  ⟨none, some 9, .alloc 63 [.nilsl, .nilsl]⟩,
  ⟨none, none, .store 2 (.t 9) (.t 47)⟩]
def r86_11 : List SO := [
  ⟨none, some 48, .mv (.t 6)⟩,
  ⟨none, some 49, .un .not (.t 48)⟩,
  ⟨none, some 50, .mv (.t 49)⟩,
  ⟨some (50, true), some 51, .fld 0 (.t 3)⟩,
  ⟨some (50, true), some 52, .load false 1 (.t 51)⟩,
  ⟨some (50, true), some 53, .fld 0 (.t 9)⟩,
  ⟨some (50, true), some 54, .load false 1 (.t 53)⟩,
  ⟨some (50, true), some 55, .call false 61 [.t 52, .t 54]⟩,
  ⟨some (50, true), some 56, .bin .lss (.t 55) (.c (.int .i64 0))⟩,
  ⟨none, some 57, .pick (.t 50) (.t 56) (.c (.bool false))⟩]
def r86_12 : List SO := [
  ⟨none, some 58, .fld 1 (.t 5)⟩,
  ⟨none, some 59, .load false 1 (.t 58)⟩,
  ⟨none, some 60, .load true 2 (.t 3)⟩,
  ⟨none, some 61, .call false 112 [.t 60]⟩,
  ⟨none, some 62, .bslice 63 2 false [.nilsl, .nilsl] 1 [(0, .t 61)]⟩,
  ⟨none, some 63, .append 63 2 48 (.t 59) (.t 62)⟩,
  ⟨none, some 64, .fld 1 (.t 5)⟩,
  ⟨none, none, .store 1 (.t 64) (.t 63)⟩]
def r86_13 : List SO := [
  ⟨none, some 6, .mv (.c (.bool true))⟩]
def r86_14 : List SO := [
  ⟨none, some 65, .fld 0 (.t 3)⟩,
  ⟨none, some 66, .load false 1 (.t 65)⟩,
  ⟨none, some 67, .fld 0 (.t 9)⟩,
  ⟨none, some 68, .load false 1 (.t 67)⟩,
  ⟨none, some 69, .call false 70 [.t 66, .t 68]⟩,
  ⟨none, some 70, .un .not (.t 69)⟩,
  ⟨none, some 71, .mv (.t 70)⟩,
  ⟨some (71, false), some 72, .fld 0 (.t 3)⟩,
  ⟨some (71, false), some 73, .load false 1 (.t 72)⟩,
  ⟨some (71, false), some 74, .len (.t 73)⟩,
  ⟨some (71, false), some 75, .fld 0 (.t 9)⟩,
  ⟨some (71, false), some 76, .load false 1 (.t 75)⟩,
  ⟨some (71, false), some 77, .len (.t 76)⟩,
  ⟨some (71, false), some 78, .bin .eql (.t 74) (.t 77)⟩,
  ⟨none, some 79, .pick (.t 71) (.c (.bool true)) (.t 78)⟩]
def r86_15 : List SO := [
  ⟨none, some 80, .fld 1 (.t 5)⟩,
  ⟨none, some 81, .load false 1 (.t 80)⟩,
  ⟨none, some 82, .load true 2 (.t 9)⟩,
  ⟨none, some 83, .call false 112 [.t 82]⟩,
  ⟨none, some 84, .bslice 63 2 false [.nilsl, .nilsl] 1 [(0, .t 83)]⟩,
  ⟨none, some 85, .append 63 2 48 (.t 81) (.t 84)⟩,
  ⟨none, some 86, .fld 1 (.t 5)⟩,
  ⟨none, none, .store 1 (.t 86) (.t 85)⟩]
def r86_9 : List SO := [
  ⟨none, some 41, .mv (.t 8)⟩,
  ⟨none, some 42, .bin .add (.t 41) (.c (.int .i64 1))⟩,
  ⟨none, some 8, .mv (.t 42)⟩]
def b86_1 : SC := .seq (.seq (.reg r86_8) (.cond (.t 40) (.skip) (.exit 2))) (.seq (.block 3 (.seq (.reg r86_10) (.seq (.seq (.reg r86_11) (.cond (.t 57) (.seq (.reg r86_12) (.reg r86_13)) (.skip))) (.seq (.reg r86_14) (.cond (.t 79) (.reg r86_15) (.skip)))))) (.reg r86_9))
def r86_16 : List SO := [
  ⟨none, some 87, .mv (.t 6)⟩,
  ⟨none, some 88, .un .not (.t 87)⟩]
def r86_17 : List SO := [
  ⟨none, some 89, .fld 1 (.t 5)⟩,
  ⟨none, some 90, .load false 1 (.t 89)⟩,
  ⟨none, some 91, .load true 2 (.t 3)⟩,
  ⟨none, some 92, .call false 112 [.t 91]⟩,
  ⟨none, some 93, .bslice 63 2 false [.nilsl, .nilsl] 1 [(0, .t 92)]⟩,
  ⟨none, some 94, .append 63 2 48 (.t 90) (.t 93)⟩,
  ⟨none, some 95, .fld 1 (.t 5)⟩,
  ⟨none, none, .store 1 (.t 95) (.t 94)⟩]
def r86_18 : List SO := [
  ⟨none, some 96, .load true 2 (.t 5)⟩,
  ⟨none, none, .store 2 (.t 4) (.t 96)⟩]
def s86 : SF := ⟨97, [.cell 4 true 2], .seq (.reg r86_0) (.seq (.reg r86_1) (.seq (.reg r86_2) (.seq (.seq (.reg r86_3) (.block 0 (.loop b86_0))) (.seq (.seq (.reg r86_7) (.block 2 (.loop b86_1))) (.seq (.seq (.reg r86_16) (.cond (.t 88) (.reg r86_17) (.skip))) (.seq (.reg r86_18) (.ret)))))))⟩
theorem s86_ok : slimF Try.prog ⟨[94, 102, 103, 108, 109, 116, 119, 121, 125], []⟩ Try.f86 = some s86 := by kernel_rfl

end Go.Proofs.Ytngkckefanbhgaa

namespace Go.Proofs.Ytngkckefanbhgaa
open Go Go.Proofs

def r61_0 : List SO := [
  ⟨none, some 4, .mv (.c (.int .i64 0))⟩]
def r61_1 : List SO := [
  ⟨none, some 5, .mv (.t 0)⟩,
  ⟨none, some 6, .len (.t 5)⟩,
  ⟨none, some 7, .mv (.t 1)⟩,
  ⟨none, some 8, .len (.t 7)⟩,
  ⟨none, some 9, .bin .lss (.t 6) (.t 8)⟩]
def r61_2 : List SO := [
  ⟨none, some 4, .mv (.c (.int .i64 (-1)))⟩]
def r61_3 : List SO := [
  ⟨none, some 10, .mv (.t 0)⟩,
  ⟨none, some 11, .len (.t 10)⟩,
  ⟨none, some 12, .mv (.t 1)⟩,
  ⟨none, some 13, .len (.t 12)⟩,
  ⟨none, some 14, .bin .gtr (.t 11) (.t 13)⟩]
def r61_4 : List SO := [
  ⟨none, some 4, .mv (.c (.int .i64 1))⟩]
def r61_5 : List SO := [
  ⟨none, some 15, .mv (.t 0)⟩,
  ⟨none, some 16, .mv (.t 1)⟩,
  ⟨none, some 17, .call false 97 [.t 15, .t 16]⟩,
  ⟨none, some 4, .mv (.t 17)⟩]
def s61 : SF := ⟨18, [.tmp 4], .seq (.reg r61_0) (.seq (.seq (.reg r61_1) (.cond (.t 9) (.seq (.reg r61_2) (.ret)) (.skip))) (.seq (.seq (.reg r61_3) (.cond (.t 14) (.seq (.reg r61_4) (.ret)) (.skip))) (.seq (.reg r61_5) (.ret))))⟩
theorem s61_ok : slimF Try.prog ⟨[94, 102, 103, 108, 109, 116, 119, 121, 125], []⟩ Try.f61 = some s61 := by kernel_rfl

end Go.Proofs.Ytngkckefanbhgaa

namespace Go.Proofs.Ytngkckefanbhgaa
open Go Go.Proofs

def r97_0 : List SO := [
  ⟨none, some 4, .mv (.c (.int .i64 0))⟩]
def r97_1 : List SO := [
  ⟨none, some 6, .mv (.t 0)⟩,
  ⟨none, some 7, .mv (.t 1)⟩,
  ⟨none, some 8, .call false 67 [.t 6, .t 7]⟩,
  ⟨none, some 5, .mv (.t 8)⟩]
def r97_2 : List SO := [
  ⟨none, some 10, .mv (.t 5)⟩,
  ⟨none, some 11, .mv (.t 0)⟩,
  ⟨none, some 12, .len (.t 11)⟩,
  ⟨none, some 13, .bin .eql (.t 10) (.t 12)⟩,
  ⟨none, some 14, .mv (.t 13)⟩,
  ⟨some (14, true), some 15, .mv (.t 5)⟩,
  ⟨some (14, true), some 16, .mv (.t 1)⟩,
  ⟨some (14, true), some 17, .len (.t 16)⟩,
  ⟨some (14, true), some 18, .bin .eql (.t 15) (.t 17)⟩,
  ⟨none, some 19, .pick (.t 14) (.t 18) (.c (.bool false))⟩,
  ⟨none, some 9, .mv (.t 19)⟩]
def r97_3 : List SO := [
  ⟨none, some 4, .mv (.c (.int .i64 0))⟩]
def r97_4 : List SO := [
  ⟨none, some 21, .mv (.t 5)⟩,
  ⟨none, some 22, .mv (.t 0)⟩,
  ⟨none, some 23, .len (.t 22)⟩,
  ⟨none, some 24, .bin .eql (.t 21) (.t 23)⟩,
  ⟨none, some 20, .mv (.t 24)⟩]
def r97_5 : List SO := [
  ⟨none, some 25, .mv (.t 5)⟩,
  ⟨none, some 26, .mv (.t 1)⟩,
  ⟨none, some 27, .len (.t 26)⟩,
  ⟨none, some 28, .bin .lss (.t 25) (.t 27)⟩,
  ⟨none, some 29, .mv (.t 28)⟩,
  ⟨some (29, true), some 30, .mv (.t 0)⟩,
  ⟨some (29, true), some 31, .mv (.t 5)⟩,
  ⟨some (29, true), some 32, .idx 1 (.t 30) (.t 31)⟩,
  ⟨some (29, true), some 33, .load false 1 (.t 32)⟩,
  ⟨some (29, true), some 34, .mv (.t 1)⟩,
  ⟨some (29, true), some 35, .mv (.t 5)⟩,
  ⟨some (29, true), some 36, .idx 1 (.t 34) (.t 35)⟩,
  ⟨some (29, true), some 37, .load false 1 (.t 36)⟩,
  ⟨some (29, true), some 38, .bin .lss (.t 33) (.t 37)⟩,
  ⟨none, some 39, .pick (.t 29) (.t 38) (.c (.bool false))⟩,
  ⟨none, some 20, .mv (.t 39)⟩]
def r97_6 : List SO := [
  ⟨none, some 4, .mv (.c (.int .i64 (-1)))⟩]
def r97_7 : List SO := [
  ⟨none, some 4, .mv (.c (.int .i64 1))⟩]
def s97 : SF := ⟨40, [.tmp 4], .seq (.reg r97_0) (.seq (.reg r97_1) (.seq (.block 0 (.seq (.reg r97_2) (.cond (.t 9) (.seq (.reg r97_3) (.ret)) (.seq (.seq (.reg r97_4) (.cond (.t 20) (.skip) (.reg r97_5))) (.cond (.t 20) (.seq (.reg r97_6) (.ret)) (.skip)))))) (.seq (.reg r97_7) (.ret))))⟩
theorem s97_ok : slimF Try.prog ⟨[94, 102, 103, 108, 109, 116, 119, 121, 125], []⟩ Try.f97 = some s97 := by kernel_rfl

end Go.Proofs.Ytngkckefanbhgaa

namespace Go.Proofs.Ytngkckefanbhgaa
open Go Go.Proofs

theorem rlex_pure (a b : List Int) : PureC Try.prog 97 [(V.sl (List.map cI (a))), (V.sl (List.map cI (b)))] (iV (lexI a b)) := by
 refine pure_of_Wb true 6 Try.func97 s97_ok (by kernel_rfl) (by simp [s97]) (by simp) (by simp) fun hB => ?_
 simp only [bnd_map, bnd_int, bnd_bool, bnd_str, bnd_agg, bnd_pp, bnd_nil, bnd_cons, implies_true, and_true, true_and] at hB
 unfold s97
 dsimp only
 refine W_seq_regc (fun T H => T 0 = (V.sl (List.map cI (a))) ∧ T 1 = (V.sl (List.map cI (b))) ∧ True) ?_ ?_
 ·
  unfold r97_0
  refine R_mv (@rfl V (iV (0 : Int))) ?_
  exact R_nil ⟨rfl, rfl, trivial⟩
 intro T H ⟨t0, t1, _⟩
 refine W_seq_regc (fun T H => T 0 = (V.sl (List.map cI (a))) ∧ T 1 = (V.sl (List.map cI (b))) ∧ T 5 = (iV ((cmn a b : Nat) : Int)) ∧ True) ?_ ?_
 ·
  unfold r97_1
  refine R_mv t0 ?_
  refine R_mv t1 ?_
  have q1 := cmn_l a b
  have q2 := cmn_r a b
  refine R_call (evcons (@rfl V (V.sl (List.map cI (a)))) (evcons (@rfl V (V.sl (List.map cI (b)))) evnil)) (rcommon_pure a b) (fzv_mapcanon _ _ (by simp [-List.map_take, -List.map_drop, -List.map_append, -List.map_reverse])) (by simp [-List.map_take, -List.map_drop, -List.map_append, -List.map_reverse]) (Or.inl (by simp [-List.map_take, -List.map_drop, -List.map_append, -List.map_reverse])) ?_
  refine R_mv (@rfl V (iV ((cmn a b : Nat) : Int))) ?_
  exact R_nil ⟨t0, t1, rfl, trivial⟩
 intro T H ⟨t0, t1, t5, _⟩
 have q3 := cmn_l a b
 have q4 := cmn_r a b
 refine W_seq_blockg fun Q5 n5 x5 y5 z5 => ?_
 refine W_seq_regc (fun T H => T 0 = (V.sl (List.map cI (a))) ∧ T 1 = (V.sl (List.map cI (b))) ∧ T 5 = (iV ((cmn a b : Nat) : Int)) ∧ T 9 = (V.bool (decide ((((cmn a b : Nat) : Int) = ((a.length : Nat) : Int)) ∧ (((cmn a b : Nat) : Int) = ((b.length : Nat) : Int))))) ∧ True) ?_ ?_
 ·
  unfold r97_2
  refine R_mv t5 ?_
  refine R_mv t0 ?_
  refine R_len (@rfl V (V.sl (List.map cI (a)))) ?_
  refine R_eql (x := ((cmn a b : Nat) : Int)) (y := ((a.length : Nat) : Int)) (@rfl V (iV ((cmn a b : Nat) : Int))) (@rfl V (iV ((a.length : Nat) : Int))) ?_
  refine R_mv (@rfl V (V.bool (decide (((cmn a b : Nat) : Int) = ((a.length : Nat) : Int))))) ?_
  refine Ops_seg 5 (fun T H => T 0 = (V.sl (List.map cI (a))) ∧ T 1 = (V.sl (List.map cI (b))) ∧ T 5 = (iV ((cmn a b : Nat) : Int)) ∧ T 19 = (V.bool (decide ((((cmn a b : Nat) : Int) = ((a.length : Nat) : Int)) ∧ (((cmn a b : Nat) : Int) = ((b.length : Nat) : Int))))) ∧ True) ?_ ?_
  ·
   by_cases g6 : ((cmn a b : Nat) : Int) = ((a.length : Nat) : Int)
   ·
    refine G_yes (Eq.trans (@rfl V (V.bool (decide (((cmn a b : Nat) : Int) = ((a.length : Nat) : Int))))) (bdT g6)) ?_
    refine R_mv t5 ?_
    refine G_yes (Eq.trans (@rfl V (V.bool (decide (((cmn a b : Nat) : Int) = ((a.length : Nat) : Int))))) (bdT g6)) ?_
    refine R_mv t1 ?_
    refine G_yes (Eq.trans (@rfl V (V.bool (decide (((cmn a b : Nat) : Int) = ((a.length : Nat) : Int))))) (bdT g6)) ?_
    refine R_len (@rfl V (V.sl (List.map cI (b)))) ?_
    refine G_yes (Eq.trans (@rfl V (V.bool (decide (((cmn a b : Nat) : Int) = ((a.length : Nat) : Int))))) (bdT g6)) ?_
    refine R_eql (x := ((cmn a b : Nat) : Int)) (y := ((b.length : Nat) : Int)) (@rfl V (iV ((cmn a b : Nat) : Int))) (@rfl V (iV ((b.length : Nat) : Int))) ?_
    refine R_pickT (Eq.trans (@rfl V (V.bool (decide (((cmn a b : Nat) : Int) = ((a.length : Nat) : Int))))) (bdT g6)) (@rfl V (V.bool (decide (((cmn a b : Nat) : Int) = ((b.length : Nat) : Int))))) ?_
    exact ⟨t0, t1, t5, (Eq.trans (@rfl V (V.bool (decide (((cmn a b : Nat) : Int) = ((b.length : Nat) : Int))))) (dec_andT g6)), trivial⟩
   ·
    refine G_no (Eq.trans (@rfl V (V.bool (decide (((cmn a b : Nat) : Int) = ((a.length : Nat) : Int))))) (bdF g6)) (by decide) ?_
    refine G_no (Eq.trans (@rfl V (V.bool (decide (((cmn a b : Nat) : Int) = ((a.length : Nat) : Int))))) (bdF g6)) (by decide) ?_
    refine G_no (Eq.trans (@rfl V (V.bool (decide (((cmn a b : Nat) : Int) = ((a.length : Nat) : Int))))) (bdF g6)) (by decide) ?_
    refine G_no (Eq.trans (@rfl V (V.bool (decide (((cmn a b : Nat) : Int) = ((a.length : Nat) : Int))))) (bdF g6)) (by decide) ?_
    refine R_pickF (Eq.trans (@rfl V (V.bool (decide (((cmn a b : Nat) : Int) = ((a.length : Nat) : Int))))) (bdF g6)) (@rfl V (V.bool false)) ?_
    exact ⟨t0, t1, t5, (Eq.trans (@rfl V (V.bool false)) (dec_andF g6)), trivial⟩
  intro T H ⟨t0, t1, t5, t19, _⟩
  refine R_mv t19 ?_
  exact R_nil ⟨t0, t1, t5, rfl, trivial⟩
 intro T H ⟨t0, t1, t5, t9, _⟩
 refine W_if (p := (((cmn a b : Nat) : Int) = ((a.length : Nat) : Int)) ∧ (((cmn a b : Nat) : Int) = ((b.length : Nat) : Int))) t9 (fun c7 => ?_) (fun c7 => ?_)
 ·
  refine W_seq_regc (fun T H => T 4 = (iV (0 : Int)) ∧ True) ?_ ?_
  ·
   unfold r97_3
   refine R_mv (@rfl V (iV (0 : Int))) ?_
   exact R_nil ⟨rfl, trivial⟩
  intro T H ⟨t4, _⟩
  refine W_ret ?_
  refine y5 _ _ ?_
  refine Ret_1 t4 (fz_int ?_)
  · unfold lexI; rw [if_pos (by omega)]
 refine W_seq_seq ?_
 refine W_seq_regc (fun T H => T 0 = (V.sl (List.map cI (a))) ∧ T 1 = (V.sl (List.map cI (b))) ∧ T 5 = (iV ((cmn a b : Nat) : Int)) ∧ T 20 = (V.bool (decide (((cmn a b : Nat) : Int) = ((a.length : Nat) : Int)))) ∧ True) ?_ ?_
 ·
  unfold r97_4
  refine R_mv t5 ?_
  refine R_mv t0 ?_
  refine R_len (@rfl V (V.sl (List.map cI (a)))) ?_
  refine R_eql (x := ((cmn a b : Nat) : Int)) (y := ((a.length : Nat) : Int)) (@rfl V (iV ((cmn a b : Nat) : Int))) (@rfl V (iV ((a.length : Nat) : Int))) ?_
  refine R_mv (@rfl V (V.bool (decide (((cmn a b : Nat) : Int) = ((a.length : Nat) : Int))))) ?_
  exact R_nil ⟨t0, t1, t5, rfl, trivial⟩
 intro T H ⟨t0, t1, t5, t20, _⟩
 refine W_seq_if (p := ((cmn a b : Nat) : Int) = ((a.length : Nat) : Int)) t20 (fun c8 => ?_) (fun c8 => ?_)
 ·
  refine W_seq_skip ?_
  refine W_if (p := ((cmn a b : Nat) : Int) = ((a.length : Nat) : Int)) t20 (fun c9 => ?_) (fun c9 => ?_)
  ·
   refine W_seq_regc (fun T H => T 4 = (iV (-1 : Int)) ∧ True) ?_ ?_
   ·
    unfold r97_6
    refine R_mv (@rfl V (iV (-1 : Int))) ?_
    exact R_nil ⟨rfl, trivial⟩
   intro T H ⟨t4, _⟩
   refine W_ret ?_
   refine y5 _ _ ?_
   refine Ret_1 t4 (fz_int ?_)
   · unfold lexI; rw [if_neg (by omega), if_pos (by omega)]
  · exact (c9 c8).elim
 refine W_seq_regc (fun T H => T 20 = (V.bool (decide ((((cmn a b : Nat) : Int) < ((b.length : Nat) : Int)) ∧ (((nth (a) (cmn a b))) < ((nth (b) (cmn a b))))))) ∧ True) ?_ ?_
 ·
  unfold r97_5
  refine R_mv t5 ?_
  refine R_mv t1 ?_
  refine R_len (@rfl V (V.sl (List.map cI (b)))) ?_
  refine R_lss (x := ((cmn a b : Nat) : Int)) (y := ((b.length : Nat) : Int)) (@rfl V (iV ((cmn a b : Nat) : Int))) (@rfl V (iV ((b.length : Nat) : Int))) ?_
  refine R_mv (@rfl V (V.bool (decide (((cmn a b : Nat) : Int) < ((b.length : Nat) : Int))))) ?_
  refine Ops_seg 10 (fun T H => T 20 = (V.bool (decide (((cmn a b : Nat) : Int) = ((a.length : Nat) : Int)))) ∧ T 39 = (V.bool (decide ((((cmn a b : Nat) : Int) < ((b.length : Nat) : Int)) ∧ (((nth (a) (cmn a b))) < ((nth (b) (cmn a b))))))) ∧ True) ?_ ?_
  ·
   by_cases g10 : ((cmn a b : Nat) : Int) < ((b.length : Nat) : Int)
   ·
    refine G_yes (Eq.trans (@rfl V (V.bool (decide (((cmn a b : Nat) : Int) < ((b.length : Nat) : Int))))) (bdT g10)) ?_
    refine R_mv t0 ?_
    refine G_yes (Eq.trans (@rfl V (V.bool (decide (((cmn a b : Nat) : Int) < ((b.length : Nat) : Int))))) (bdT g10)) ?_
    refine R_mv t5 ?_
    refine G_yes (Eq.trans (@rfl V (V.bool (decide (((cmn a b : Nat) : Int) < ((b.length : Nat) : Int))))) (bdT g10)) ?_
    refine R_idx (i := (cmn a b)) (@rfl V (V.sl (List.map cI (a)))) (@rfl V (iV ((cmn a b : Nat) : Int))) (by omega) rfl ?_
    refine G_yes (Eq.trans (@rfl V (V.bool (decide (((cmn a b : Nat) : Int) < ((b.length : Nat) : Int))))) (bdT g10)) ?_
    refine R_load_pp (v := (iV ((nth (a) (cmn a b))))) (@rfl V (V.pp [(iV ((nth (a) (cmn a b))))])) (by first | rfl | simp [ldV]) ?_
    refine G_yes (Eq.trans (@rfl V (V.bool (decide (((cmn a b : Nat) : Int) < ((b.length : Nat) : Int))))) (bdT g10)) ?_
    refine R_mv t1 ?_
    refine G_yes (Eq.trans (@rfl V (V.bool (decide (((cmn a b : Nat) : Int) < ((b.length : Nat) : Int))))) (bdT g10)) ?_
    refine R_mv t5 ?_
    refine G_yes (Eq.trans (@rfl V (V.bool (decide (((cmn a b : Nat) : Int) < ((b.length : Nat) : Int))))) (bdT g10)) ?_
    refine R_idx (i := (cmn a b)) (@rfl V (V.sl (List.map cI (b)))) (@rfl V (iV ((cmn a b : Nat) : Int))) (by omega) rfl ?_
    refine G_yes (Eq.trans (@rfl V (V.bool (decide (((cmn a b : Nat) : Int) < ((b.length : Nat) : Int))))) (bdT g10)) ?_
    refine R_load_pp (v := (iV ((nth (b) (cmn a b))))) (@rfl V (V.pp [(iV ((nth (b) (cmn a b))))])) (by first | rfl | simp [ldV]) ?_
    refine G_yes (Eq.trans (@rfl V (V.bool (decide (((cmn a b : Nat) : Int) < ((b.length : Nat) : Int))))) (bdT g10)) ?_
    refine R_lss (x := ((nth (a) (cmn a b)))) (y := ((nth (b) (cmn a b)))) (@rfl V (iV ((nth (a) (cmn a b))))) (@rfl V (iV ((nth (b) (cmn a b))))) ?_
    refine R_pickT (Eq.trans (@rfl V (V.bool (decide (((cmn a b : Nat) : Int) < ((b.length : Nat) : Int))))) (bdT g10)) (@rfl V (V.bool (decide (((nth (a) (cmn a b))) < ((nth (b) (cmn a b))))))) ?_
    exact ⟨t20, (Eq.trans (@rfl V (V.bool (decide (((nth (a) (cmn a b))) < ((nth (b) (cmn a b))))))) (dec_andT g10)), trivial⟩
   ·
    refine G_no (Eq.trans (@rfl V (V.bool (decide (((cmn a b : Nat) : Int) < ((b.length : Nat) : Int))))) (bdF g10)) (by decide) ?_
    refine G_no (Eq.trans (@rfl V (V.bool (decide (((cmn a b : Nat) : Int) < ((b.length : Nat) : Int))))) (bdF g10)) (by decide) ?_
    refine G_no (Eq.trans (@rfl V (V.bool (decide (((cmn a b : Nat) : Int) < ((b.length : Nat) : Int))))) (bdF g10)) (by decide) ?_
    refine G_no (Eq.trans (@rfl V (V.bool (decide (((cmn a b : Nat) : Int) < ((b.length : Nat) : Int))))) (bdF g10)) (by decide) ?_
    refine G_no (Eq.trans (@rfl V (V.bool (decide (((cmn a b : Nat) : Int) < ((b.length : Nat) : Int))))) (bdF g10)) (by decide) ?_
    refine G_no (Eq.trans (@rfl V (V.bool (decide (((cmn a b : Nat) : Int) < ((b.length : Nat) : Int))))) (bdF g10)) (by decide) ?_
    refine G_no (Eq.trans (@rfl V (V.bool (decide (((cmn a b : Nat) : Int) < ((b.length : Nat) : Int))))) (bdF g10)) (by decide) ?_
    refine G_no (Eq.trans (@rfl V (V.bool (decide (((cmn a b : Nat) : Int) < ((b.length : Nat) : Int))))) (bdF g10)) (by decide) ?_
    refine G_no (Eq.trans (@rfl V (V.bool (decide (((cmn a b : Nat) : Int) < ((b.length : Nat) : Int))))) (bdF g10)) (by decide) ?_
    refine R_pickF (Eq.trans (@rfl V (V.bool (decide (((cmn a b : Nat) : Int) < ((b.length : Nat) : Int))))) (bdF g10)) (@rfl V (V.bool false)) ?_
    exact ⟨t20, (Eq.trans (@rfl V (V.bool false)) (dec_andF g10)), trivial⟩
  intro T H ⟨t20, t39, _⟩
  refine R_mv t39 ?_
  exact R_nil ⟨rfl, trivial⟩
 intro T H ⟨t20, _⟩
 refine W_if (p := (((cmn a b : Nat) : Int) < ((b.length : Nat) : Int)) ∧ (((nth (a) (cmn a b))) < ((nth (b) (cmn a b))))) t20 (fun c11 => ?_) (fun c11 => ?_)
 ·
  refine W_seq_regc (fun T H => T 4 = (iV (-1 : Int)) ∧ True) ?_ ?_
  ·
   unfold r97_6
   refine R_mv (@rfl V (iV (-1 : Int))) ?_
   exact R_nil ⟨rfl, trivial⟩
  intro T H ⟨t4, _⟩
  refine W_ret ?_
  refine y5 _ _ ?_
  refine Ret_1 t4 (fz_int ?_)
  · unfold lexI; rw [if_neg (by omega), if_pos (by omega)]
 refine W_skip ?_
 refine n5 _ _ ?_
 refine .done ?_
 refine W_seq_regc (fun T H => T 4 = (iV (1 : Int)) ∧ True) ?_ ?_
 ·
  unfold r97_7
  refine R_mv (@rfl V (iV (1 : Int))) ?_
  exact R_nil ⟨rfl, trivial⟩
 intro T H ⟨t4, _⟩
 refine W_ret ?_
 refine Ret_1 t4 (fz_int ?_)
 · unfold lexI; rw [if_neg (by omega), if_neg (by omega)]

end Go.Proofs.Ytngkckefanbhgaa

namespace Go.Proofs.Ytngkckefanbhgaa
open Go Go.Proofs

theorem rcompare_pure (a b : List Int) : PureC Try.prog 61 [(V.sl (List.map cI (a))), (V.sl (List.map cI (b)))] (iV (slx a b)) := by
 refine pure_of_Wb true 6 Try.func61 s61_ok (by kernel_rfl) (by simp [s61]) (by simp) (by simp) fun hB => ?_
 simp only [bnd_map, bnd_int, bnd_bool, bnd_str, bnd_agg, bnd_pp, bnd_nil, bnd_cons, implies_true, and_true, true_and] at hB
 unfold s61
 dsimp only
 refine W_seq_regc (fun T H => T 0 = (V.sl (List.map cI (a))) ∧ T 1 = (V.sl (List.map cI (b))) ∧ True) ?_ ?_
 ·
  unfold r61_0
  refine R_mv (@rfl V (iV (0 : Int))) ?_
  exact R_nil ⟨rfl, rfl, trivial⟩
 intro T H ⟨t0, t1, _⟩
 refine W_seq_seq ?_
 refine W_seq_regc (fun T H => T 0 = (V.sl (List.map cI (a))) ∧ T 1 = (V.sl (List.map cI (b))) ∧ T 9 = (V.bool (decide (((a.length : Nat) : Int) < ((b.length : Nat) : Int)))) ∧ True) ?_ ?_
 ·
  unfold r61_1
  refine R_mv t0 ?_
  refine R_len (@rfl V (V.sl (List.map cI (a)))) ?_
  refine R_mv t1 ?_
  refine R_len (@rfl V (V.sl (List.map cI (b)))) ?_
  refine R_lss (x := ((a.length : Nat) : Int)) (y := ((b.length : Nat) : Int)) (@rfl V (iV ((a.length : Nat) : Int))) (@rfl V (iV ((b.length : Nat) : Int))) ?_
  exact R_nil ⟨t0, t1, rfl, trivial⟩
 intro T H ⟨t0, t1, t9, _⟩
 refine W_seq_if (p := ((a.length : Nat) : Int) < ((b.length : Nat) : Int)) t9 (fun c1 => ?_) (fun c1 => ?_)
 ·
  refine W_seq_seq ?_
  refine W_seq_regc (fun T H => T 4 = (iV (-1 : Int)) ∧ True) ?_ ?_
  ·
   unfold r61_2
   refine R_mv (@rfl V (iV (-1 : Int))) ?_
   exact R_nil ⟨rfl, trivial⟩
  intro T H ⟨t4, _⟩
  refine W_seq_ret ?_
  refine Ret_1 t4 (fz_int ?_)
  · rw [slx, if_pos (by omega)]
 refine W_seq_skip ?_
 refine W_seq_seq ?_
 refine W_seq_regc (fun T H => T 0 = (V.sl (List.map cI (a))) ∧ T 1 = (V.sl (List.map cI (b))) ∧ T 14 = (V.bool (decide (((b.length : Nat) : Int) < ((a.length : Nat) : Int)))) ∧ True) ?_ ?_
 ·
  unfold r61_3
  refine R_mv t0 ?_
  refine R_len (@rfl V (V.sl (List.map cI (a)))) ?_
  refine R_mv t1 ?_
  refine R_len (@rfl V (V.sl (List.map cI (b)))) ?_
  refine R_gtr (x := ((a.length : Nat) : Int)) (y := ((b.length : Nat) : Int)) (@rfl V (iV ((a.length : Nat) : Int))) (@rfl V (iV ((b.length : Nat) : Int))) ?_
  exact R_nil ⟨t0, t1, rfl, trivial⟩
 intro T H ⟨t0, t1, t14, _⟩
 refine W_seq_if (p := ((b.length : Nat) : Int) < ((a.length : Nat) : Int)) t14 (fun c2 => ?_) (fun c2 => ?_)
 ·
  refine W_seq_seq ?_
  refine W_seq_regc (fun T H => T 4 = (iV (1 : Int)) ∧ True) ?_ ?_
  ·
   unfold r61_4
   refine R_mv (@rfl V (iV (1 : Int))) ?_
   exact R_nil ⟨rfl, trivial⟩
  intro T H ⟨t4, _⟩
  refine W_seq_ret ?_
  refine Ret_1 t4 (fz_int ?_)
  · rw [slx, if_neg (by omega), if_pos (by omega)]
 refine W_seq_skip ?_
 refine W_seq_regc (fun T H => T 4 = (iV (lexI a b)) ∧ True) ?_ ?_
 ·
  unfold r61_5
  refine R_mv t0 ?_
  refine R_mv t1 ?_
  refine R_call (evcons (@rfl V (V.sl (List.map cI (a)))) (evcons (@rfl V (V.sl (List.map cI (b)))) evnil)) (rlex_pure a b) (fzv_mapcanon _ _ (by simp [-List.map_take, -List.map_drop, -List.map_append, -List.map_reverse])) (by simp [-List.map_take, -List.map_drop, -List.map_append, -List.map_reverse]) (Or.inl (by simp [-List.map_take, -List.map_drop, -List.map_append, -List.map_reverse])) ?_
  refine R_mv (@rfl V (iV (lexI a b))) ?_
  exact R_nil ⟨rfl, trivial⟩
 intro T H ⟨t4, _⟩
 refine W_ret ?_
 refine Ret_1 t4 (fz_int ?_)
 · rw [slx, if_neg (by omega), if_neg (by omega)]

end Go.Proofs.Ytngkckefanbhgaa

namespace Go.Proofs.Ytngkckefanbhgaa
open Go Go.Proofs

def r70_0 : List SO := [
  ⟨none, some 4, .mv (.c (.bool false))⟩]
def r70_1 : List SO := [
  ⟨none, some 5, .mv (.t 0)⟩,
  ⟨none, some 6, .mv (.t 1)⟩,
  ⟨none, some 7, .call false 67 [.t 5, .t 6]⟩,
  ⟨none, some 8, .mv (.t 1)⟩,
  ⟨none, some 9, .len (.t 8)⟩,
  ⟨none, some 10, .bin .eql (.t 7) (.t 9)⟩,
  ⟨none, some 4, .mv (.t 10)⟩]
def s70 : SF := ⟨11, [.tmp 4], .seq (.reg r70_0) (.seq (.reg r70_1) (.ret))⟩
theorem s70_ok : slimF Try.prog ⟨[94, 102, 103, 108, 109, 116, 119, 121, 125], []⟩ Try.f70 = some s70 := by kernel_rfl

end Go.Proofs.Ytngkckefanbhgaa

namespace Go.Proofs.Ytngkckefanbhgaa
open Go Go.Proofs

theorem rhp_pure (w p : List Int) : PureC Try.prog 70 [(V.sl (List.map cI (w))), (V.sl (List.map cI (p)))] (V.bool (hp w p)) := by
 refine pure_of_Wb true 6 Try.func70 s70_ok (by kernel_rfl) (by simp [s70]) (by simp) (by simp) fun hB => ?_
 simp only [bnd_map, bnd_int, bnd_bool, bnd_str, bnd_agg, bnd_pp, bnd_nil, bnd_cons, implies_true, and_true, true_and] at hB
 unfold s70
 dsimp only
 refine W_seq_regc (fun T H => T 0 = (V.sl (List.map cI (w))) ∧ T 1 = (V.sl (List.map cI (p))) ∧ True) ?_ ?_
 ·
  unfold r70_0
  refine R_mv (@rfl V (V.bool false)) ?_
  exact R_nil ⟨rfl, rfl, trivial⟩
 intro T H ⟨t0, t1, _⟩
 refine W_seq_regc (fun T H => T 4 = (V.bool (decide (((cmn w p : Nat) : Int) = ((p.length : Nat) : Int)))) ∧ True) ?_ ?_
 ·
  unfold r70_1
  refine R_mv t0 ?_
  refine R_mv t1 ?_
  have q1 := cmn_l w p
  have q2 := cmn_r w p
  refine R_call (evcons (@rfl V (V.sl (List.map cI (w)))) (evcons (@rfl V (V.sl (List.map cI (p)))) evnil)) (rcommon_pure w p) (fzv_mapcanon _ _ (by simp [-List.map_take, -List.map_drop, -List.map_append, -List.map_reverse])) (by simp [-List.map_take, -List.map_drop, -List.map_append, -List.map_reverse]) (Or.inl (by simp [-List.map_take, -List.map_drop, -List.map_append, -List.map_reverse])) ?_
  refine R_mv t1 ?_
  refine R_len (@rfl V (V.sl (List.map cI (p)))) ?_
  refine R_eql (x := ((cmn w p : Nat) : Int)) (y := ((p.length : Nat) : Int)) (@rfl V (iV ((cmn w p : Nat) : Int))) (@rfl V (iV ((p.length : Nat) : Int))) ?_
  refine R_mv (@rfl V (V.bool (decide (((cmn w p : Nat) : Int) = ((p.length : Nat) : Int))))) ?_
  exact R_nil ⟨rfl, trivial⟩
 intro T H ⟨t4, _⟩
 have q3 := cmn_l w p
 have q4 := cmn_r w p
 refine W_ret ?_
 refine Ret_1 t4 (fz_bool ?_)
 · unfold hp; exact decide_eq_decide.2 (by omega)

end Go.Proofs.Ytngkckefanbhgaa

namespace Go.Proofs.Ytngkckefanbhgaa
open Go Go.Proofs

def r112_0 : List SO := [
  ⟨none, some 1, .box 63 2 (.t 0)⟩,
  ⟨none, some 2, .alloc 63 [.nilsl, .nilsl]⟩]
def r112_1 : List SO := [
  ⟨none, some 3, .fld 0 (.t 1)⟩,
  ⟨none, some 4, .load false 1 (.t 3)⟩,
  ⟨none, some 5, .bslice 35 1 false [.nilsl] 1 [(0, .t 4)]⟩,
  ⟨none, some 6, .call false 35 [.t 5]⟩,
  ⟨none, some 7, .fld 1 (.t 1)⟩,
  ⟨none, some 8, .load false 1 (.t 7)⟩,
  ⟨none, some 9, .bslice 35 1 false [.nilsl] 1 [(0, .t 8)]⟩,
  ⟨none, some 10, .call false 35 [.t 9]⟩,
  ⟨none, some 11, .build [.nilsl, .nilsl] [(0, 1, .t 6), (1, 1, .t 10)]⟩,
  ⟨none, none, .store 2 (.t 2) (.t 11)⟩]
def s112 : SF := ⟨12, [.cell 2 true 2], .seq (.reg r112_0) (.seq (.reg r112_1) (.ret))⟩
theorem s112_ok : slimF Try.prog ⟨[94, 102, 103, 108, 109, 116, 119, 121, 125], []⟩ Try.f112 = some s112 := by kernel_rfl

end Go.Proofs.Ytngkckefanbhgaa

namespace Go.Proofs.Ytngkckefanbhgaa
open Go Go.Proofs

def r35_0 : List SO := [
  ⟨none, some 2, .mv (.c (.nilsl))⟩]
def r35_1 : List SO := [
  ⟨none, some 3, .lazy 3 1⟩]
def r35_2 : List SO := [
  ⟨none, some 4, .mv (.c (.int .i64 0))⟩]
def r35_3 : List SO := [
  ⟨none, some 5, .mv (.t 4)⟩,
  ⟨none, some 6, .mv (.t 0)⟩,
  ⟨none, some 7, .len (.t 6)⟩,
  ⟨none, some 8, .bin .lss (.t 5) (.t 7)⟩]
def r35_5 : List SO := [
  ⟨none, some 11, .mv (.t 3)⟩,
  ⟨none, some 12, .mv (.t 0)⟩,
  ⟨none, some 13, .mv (.t 4)⟩,
  ⟨none, some 14, .idx 1 (.t 12) (.t 13)⟩,
  ⟨none, some 15, .load false 1 (.t 14)⟩,
  ⟨none, some 16, .append 3 1 8 (.t 11) (.t 15)⟩,
  ⟨none, some 3, .mv (.t 16)⟩]
def r35_4 : List SO := [
  ⟨none, some 9, .mv (.t 4)⟩,
  ⟨none, some 10, .bin .add (.t 9) (.c (.int .i64 1))⟩,
  ⟨none, some 4, .mv (.t 10)⟩]
def b35_0 : SC := .seq (.seq (.reg r35_3) (.cond (.t 8) (.skip) (.exit 0))) (.seq (.block 1 (.reg r35_5)) (.reg r35_4))
def r35_6 : List SO := [
  ⟨none, some 17, .mv (.t 3)⟩,
  ⟨none, some 2, .mv (.t 17)⟩]
def s35 : SF := ⟨18, [.tmp 2], .seq (.reg r35_0) (.seq (.reg r35_1) (.seq (.seq (.reg r35_2) (.block 0 (.loop b35_0))) (.seq (.reg r35_6) (.ret))))⟩
theorem s35_ok : slimF Try.prog ⟨[94, 102, 103, 108, 109, 116, 119, 121, 125], [3]⟩ Try.f35 = some s35 := by kernel_rfl

end Go.Proofs.Ytngkckefanbhgaa

namespace Go.Proofs.Ytngkckefanbhgaa
open Go Go.Proofs

theorem join_pure (l : List (List Int)) (hs : (cat l).length ≤ 17592186044416) : PureC Try.prog 35 [(V.sl (List.map cL (l)))] (V.sl (List.map cI (cat l))) := by
 refine pure_of_Wb true 6 Try.func35 s35_ok (by kernel_rfl) (by simp [s35]) (by simp) (by simp) fun hB => ?_
 simp only [bnd_map, bnd_int, bnd_bool, bnd_str, bnd_agg, bnd_pp, bnd_nil, bnd_cons, implies_true, and_true, true_and] at hB
 unfold s35
 dsimp only
 refine W_seq_regc (fun T H => T 0 = (V.sl (List.map cL (l))) ∧ H 3 = (⟨0, false, false, 0, 0, []⟩ : Blk) ∧ True) ?_ ?_
 ·
  unfold r35_0
  refine R_mv (@rfl V V.nilsl) ?_
  exact R_nil ⟨rfl, rfl, trivial⟩
 intro T H ⟨t0, h3, _⟩
 refine W_seq_regc (fun T H => T 0 = (V.sl (List.map cL (l))) ∧ T 3 = (V.ms 3 1 0 (0)) ∧ H 3 = (⟨1, true, true, 3, 1, []⟩ : Blk) ∧ True) ?_ ?_
 ·
  unfold r35_1
  refine R_lazy (i := 3) (n := 0) rfl (congrArg Blk.ver h3) ?_
  exact R_nil ⟨t0, rfl, rfl, trivial⟩
 intro T H ⟨t0, t3, h3, _⟩
 refine W_seq_seq ?_
 refine W_seq_regc (fun T H => T 0 = (V.sl (List.map cL (l))) ∧ T 3 = (V.ms 3 1 0 (0)) ∧ T 4 = (iV (0 : Int)) ∧ H 3 = (⟨1, true, true, 3, 1, []⟩ : Blk) ∧ True) ?_ ?_
 ·
  unfold r35_2
  refine R_mv (@rfl V (iV (0 : Int))) ?_
  exact R_nil ⟨t0, t3, rfl, h3, trivial⟩
 intro T H ⟨t0, t3, t4, h3, _⟩
 refine W_seq_blockg fun Q1 n1 x1 y1 z1 => ?_
 refine W_loop (fun mm T H => ∃ (k : Nat), mm = l.length - k ∧ T 0 = (V.sl (List.map cL (l))) ∧ T 3 = (V.ms 3 (1 + k) 0 ((cat (l.take k)).length)) ∧ T 4 = (iV ((k : Nat) : Int)) ∧ H 3 = (⟨1 + k, true, true, 3, 1, (List.map cI (cat (l.take k)))⟩ : Blk) ∧ (k ≤ l.length)) ?_ ?_
 ·
  refine ⟨_, 0, rfl, t0, (Eq.trans t3 (by first | rfl | (rw [cat_take (by omega), List.length_append]; rfl))), (Eq.trans t4 (by first | rfl | (rw [cat_take (by omega), List.length_append]; rfl))), (Eq.trans h3 (by first | rfl | (rw [cat_take (by omega)]; rfl))), ?_⟩
  · omega
 intro mm T H ⟨k, hmm, t0, t3, t4, h3, hk⟩ Q2 p12 p22 p32
 unfold b35_0
 refine W_seq_seq ?_
 refine W_seq_regc (fun T H => T 0 = (V.sl (List.map cL (l))) ∧ T 3 = (V.ms 3 (1 + k) 0 ((cat (l.take k)).length)) ∧ T 4 = (iV ((k : Nat) : Int)) ∧ T 8 = (V.bool (decide (((k : Nat) : Int) < ((l.length : Nat) : Int)))) ∧ H 3 = (⟨1 + k, true, true, 3, 1, (List.map cI (cat (l.take k)))⟩ : Blk) ∧ True) ?_ ?_
 ·
  unfold r35_3
  refine R_mv t4 ?_
  refine R_mv t0 ?_
  refine R_len (@rfl V (V.sl (List.map cL (l)))) ?_
  refine R_lss (x := ((k : Nat) : Int)) (y := ((l.length : Nat) : Int)) (@rfl V (iV ((k : Nat) : Int))) (@rfl V (iV ((l.length : Nat) : Int))) ?_
  exact R_nil ⟨t0, t3, t4, rfl, h3, trivial⟩
 intro T H ⟨t0, t3, t4, t8, h3, _⟩
 refine W_seq_if (p := ((k : Nat) : Int) < ((l.length : Nat) : Int)) t8 (fun c3 => ?_) (fun c3 => ?_)
 ·
  have hq := cat_take_le (l := l) (k := k) (by omega)
  refine W_seq_skip ?_
  refine W_seq_blockg fun Q4 n4 x4 y4 z4 => ?_
  refine W_regc (fun T H => T 0 = (V.sl (List.map cL (l))) ∧ T 3 = (V.ms 3 (1 + k + 1) 0 (((cat (l.take k)).length) + ((nth (l) (k))).length)) ∧ T 4 = (iV ((k : Nat) : Int)) ∧ H 3 = (⟨1 + k + 1, true, true, 3, 1, (List.map cI (cat (l.take k) ++ ((nth (l) (k)))))⟩ : Blk) ∧ True) ?_ ?_
  ·
   unfold r35_5
   refine R_mv t3 ?_
   refine R_mv t0 ?_
   refine R_mv t4 ?_
   refine R_idx (i := k) (@rfl V (V.sl (List.map cL (l)))) (@rfl V (iV ((k : Nat) : Int))) (by omega) rfl ?_
   refine R_load_pp (v := (V.sl (List.map cI ((nth (l) (k)))))) (@rfl V (V.pp [(V.sl (List.map cI ((nth (l) (k)))))])) (by first | rfl | simp [ldV]) ?_
   refine R_appendS (l := (cat (l.take k))) (m := ((nth (l) (k)))) (f := cI) (@rfl V (V.ms 3 (1 + k) 0 ((cat (l.take k)).length))) h3 (by first | rfl | simp) (@rfl V (V.sl (List.map cI ((nth (l) (k)))))) (fun _ => rfl) (fun _ => rfl) (by omega) (by omega) ?_
   refine R_mv (@rfl V (V.ms 3 (1 + k + 1) 0 (((cat (l.take k)).length) + ((nth (l) (k))).length))) ?_
   exact R_nil ⟨t0, rfl, t4, rfl, trivial⟩
  intro T H ⟨t0, t3, t4, h3, _⟩
  refine n4 _ _ ?_
  refine .done ?_
  refine W_regc (fun T H => T 0 = (V.sl (List.map cL (l))) ∧ T 3 = (V.ms 3 (1 + k + 1) 0 (((cat (l.take k)).length) + ((nth (l) (k))).length)) ∧ T 4 = (iV ((k + 1 : Nat) : Int)) ∧ H 3 = (⟨1 + k + 1, true, true, 3, 1, (List.map cI (cat (l.take k) ++ ((nth (l) (k)))))⟩ : Blk) ∧ True) ?_ ?_
  ·
   unfold r35_4
   refine R_mv t4 ?_
   refine R_addN (m := k) (n := 1) (@rfl V (iV ((k : Nat) : Int))) (@rfl V (iV ((1 : Nat) : Int))) (by omega) ?_
   refine R_mv (@rfl V (iV ((k + 1 : Nat) : Int))) ?_
   exact R_nil ⟨t0, t3, rfl, h3, trivial⟩
  intro T H ⟨t0, t3, t4, h3, _⟩
  refine p12 _ _ _ ?_ ⟨(k + 1), rfl, t0, (Eq.trans t3 (by first | rfl | (rw [cat_take (by omega), List.length_append]; rfl))), (Eq.trans t4 (by first | rfl | (rw [cat_take (by omega), List.length_append]; rfl))), (Eq.trans h3 (by first | rfl | (rw [cat_take (by omega)]; rfl))), ?_⟩
  · omega
  · omega
 refine W_seq_exit ?_
 refine p32 _ _ _ ?_
 refine x1 _ _ ?_
 refine .done ?_
 refine W_seq_regc (fun T H => T 2 = (V.ms 3 (1 + k) 0 ((cat (l.take k)).length)) ∧ H 3 = (⟨1 + k, true, true, 3, 1, (List.map cI (cat (l.take k)))⟩ : Blk) ∧ True) ?_ ?_
 ·
  unfold r35_6
  refine R_mv t3 ?_
  refine R_mv (@rfl V (V.ms 3 (1 + k) 0 ((cat (l.take k)).length))) ?_
  exact R_nil ⟨rfl, h3, trivial⟩
 intro T H ⟨t2, h3, _⟩
 refine W_ret ?_
 refine Ret_1 t2 (fz_ms h3 (by first | rfl | simp) (l := (cat (l.take k))) rfl (by first | rfl | simp) (fun _ => by simp) ?_)
 · (have e : k = l.length := (by omega); subst e; rw [List.take_length])

end Go.Proofs.Ytngkckefanbhgaa

namespace Go.Proofs.Ytngkckefanbhgaa
open Go Go.Proofs

theorem rcopied_pure (t : Tr) (hn1 : t.ni.length ≤ 1048576) (hn2 : t.no.length ≤ 1048576) : PureC Try.prog 112 [(V.agg [(V.sl (List.map cI (t.ni))), (V.sl (List.map cI (t.no)))])] (V.agg [(V.sl (List.map cI (t.ni))), (V.sl (List.map cI (t.no)))]) := by
 refine pure_of_Wb true 6 Try.func112 s112_ok (by kernel_rfl) (by simp [s112]) (by simp) (by simp) fun hB => ?_
 simp only [bnd_map, bnd_int, bnd_bool, bnd_str, bnd_agg, bnd_pp, bnd_nil, bnd_cons, implies_true, and_true, true_and] at hB
 unfold s112
 dsimp only
 refine W_seq_regc (fun T H => T 1 = (V.mp 1 1 0 0) ∧ T 2 = (V.mp 2 1 0 0) ∧ H 1 = (⟨1, true, false, 63, 2, [[(V.sl (List.map cI (t.ni))), (V.sl (List.map cI (t.no)))]]⟩ : Blk) ∧ H 2 = (⟨1, true, false, 63, 2, [[V.nilsl, V.nilsl]]⟩ : Blk) ∧ True) ?_ ?_
 ·
  unfold r112_0
  refine R_box (i := 1) (n := 0) (m := 2) (cs := [(V.sl (List.map cI (t.ni))), (V.sl (List.map cI (t.no)))]) rfl (congrArg Blk.ver rfl) (@rfl V (V.agg [(V.sl (List.map cI (t.ni))), (V.sl (List.map cI (t.no)))])) rfl rfl ?_
  refine R_alloc (i := 2) (n := 0) (m := 2) rfl (congrArg Blk.ver rfl) rfl ?_
  exact R_nil ⟨rfl, rfl, rfl, rfl, trivial⟩
 intro T H ⟨t1, t2, h1, h2, _⟩
 refine W_seq_regc (fun T H => T 2 = (V.mp 2 1 0 0) ∧ H 1 = (⟨1, true, false, 63, 2, [[(V.sl (List.map cI (t.ni))), (V.sl (List.map cI (t.no)))]]⟩ : Blk) ∧ H 2 = (⟨1, true, false, 63, 2, [[(V.sl (List.map cI (cat ([t.ni])))), (V.sl (List.map cI (cat ([t.no]))))]]⟩ : Blk) ∧ True) ?_ ?_
 ·
  unfold r112_1
  refine R_fld_mp (o' := 0) t1 h1 (by first | rfl | simp [okB, Blk.own]) rfl ?_
  refine R_load_mp (v := (V.sl (List.map cI (t.ni)))) (@rfl V (V.mp 1 1 0 0)) h1 (by first | rfl | simp [ldB, ldV, Blk.own, V.one]) ?_
  refine R_bslice (qs := [(0, (V.sl (List.map cI (t.ni))))]) (rows := [[(V.sl (List.map cI (t.ni)))]]) (mcons (congrArg (fun v => (0, v)) (@rfl V (V.sl (List.map cI (t.ni))))) rfl) rfl ?_
  refine R_call (evcons (@rfl V (V.sl [[(V.sl (List.map cI (t.ni)))]])) evnil) (join_pure ([t.ni]) (by simp [cat]; omega)) (fzv_mapcanon _ _ (by simp [-List.map_take, -List.map_drop, -List.map_append, -List.map_reverse])) (by simp [-List.map_take, -List.map_drop, -List.map_append, -List.map_reverse]) (Or.inl (by simp [-List.map_take, -List.map_drop, -List.map_append, -List.map_reverse])) ?_
  refine R_fld_mp (o' := 1) t1 h1 (by first | rfl | simp [okB, Blk.own]) rfl ?_
  refine R_load_mp (v := (V.sl (List.map cI (t.no)))) (@rfl V (V.mp 1 1 0 1)) h1 (by first | rfl | simp [ldB, ldV, Blk.own, V.one]) ?_
  refine R_bslice (qs := [(0, (V.sl (List.map cI (t.no))))]) (rows := [[(V.sl (List.map cI (t.no)))]]) (mcons (congrArg (fun v => (0, v)) (@rfl V (V.sl (List.map cI (t.no))))) rfl) rfl ?_
  refine R_call (evcons (@rfl V (V.sl [[(V.sl (List.map cI (t.no)))]])) evnil) (join_pure ([t.no]) (by simp [cat]; omega)) (fzv_mapcanon _ _ (by simp [-List.map_take, -List.map_drop, -List.map_append, -List.map_reverse])) (by simp [-List.map_take, -List.map_drop, -List.map_append, -List.map_reverse]) (Or.inl (by simp [-List.map_take, -List.map_drop, -List.map_append, -List.map_reverse])) ?_
  refine R_build (qs := [(0, 1, (V.sl (List.map cI (cat ([t.ni]))))), (1, 1, (V.sl (List.map cI (cat ([t.no])))))]) (cs := [(V.sl (List.map cI (cat ([t.ni])))), (V.sl (List.map cI (cat ([t.no]))))]) (mcons (congrArg (fun v => (0, 1, v)) (@rfl V (V.sl (List.map cI (cat ([t.ni])))))) (mcons (congrArg (fun v => (1, 1, v)) (@rfl V (V.sl (List.map cI (cat ([t.no])))))) rfl)) rfl ?_
  refine R_store (vs := [(V.sl (List.map cI (cat ([t.ni])))), (V.sl (List.map cI (cat ([t.no]))))]) (B' := (⟨1, true, false, 63, 2, [[(V.sl (List.map cI (cat ([t.ni])))), (V.sl (List.map cI (cat ([t.no]))))]]⟩ : Blk)) t2 (@rfl V (V.agg [(V.sl (List.map cI (cat ([t.ni])))), (V.sl (List.map cI (cat ([t.no]))))])) rfl h2 (by first | rfl | simp [stB, okB, Blk.own, putAt, V.one]) ?_
  exact R_nil ⟨t2, h1, rfl, trivial⟩
 intro T H ⟨t2, h1, h2, _⟩
 refine W_ret ?_
 refine RetC_1 (resV_c (u := (V.agg [(V.sl (List.map cI (cat ([t.ni])))), (V.sl (List.map cI (cat ([t.no]))))])) t2 h2 (by first | rfl | simp [ldB, ldV, Blk.own, V.one])) (fz_agg2 (fz_sl ?_ (fun _ => by simp)) (fz_sl ?_ (fun _ => by simp)))
 · simp [cat]
 · simp [cat]

end Go.Proofs.Ytngkckefanbhgaa

