/- Contracts of the functions that the law HL reaches, and the law itself, for every input; no condition. -/
import Derived.KernelRfl
import Derived.Test.YtngkckefanbhgaaProg
import Derived.Shelf.Spec.SlicesInsertGrow
import Derived.Test.YtngkckefanbhgaaHL2
set_option linter.unusedSimpArgs false
set_option linter.unusedVariables false
namespace Go.Proofs.Ytngkckefanbhgaa
open Go Go.Proofs
theorem idxt_pure (p : Tr → Bool) (w : List Tr) (g : Nat) (caps : List V) (hca : canonL caps = true) (hpu : pureL caps = true) (hq : ∀ k, k < w.length → PureC Try.prog g (tV (nth w k) :: caps) (.bool (p (nth w k)))) : PureC Try.prog 74 [(V.sl (List.map cT (w))), (V.fn g [] caps)] (iV (fi (fun j => p (nth w j)) 0 w.length)) := by
 refine pure_of_Wb true 6 Try.func74 s74_ok (by kernel_rfl) (by simp [s74]) (by simp [hpu]) (by simp) fun hB => ?_
 simp only [bnd_map, bnd_int, bnd_bool, bnd_str, bnd_agg, bnd_pp, bnd_nil, bnd_cons, implies_true, and_true, true_and] at hB
 unfold s74
 dsimp only
 refine W_seq_regc (fun T H => T 0 = (V.sl (List.map cT (w))) ∧ T 1 = (V.fn g [] caps) ∧ True) ?_ ?_
 ·
  unfold r74_0
  refine R_mv (@rfl V (iV (0 : Int))) ?_
  exact R_nil ⟨rfl, rfl, trivial⟩
 intro T H ⟨t0, t1, _⟩
 refine W_seq_seq ?_
 refine W_seq_regc (fun T H => T 0 = (V.sl (List.map cT (w))) ∧ T 1 = (V.fn g [] caps) ∧ T 7 = (iV ((w.length : Nat) : Int)) ∧ T 8 = (iV (0 : Int)) ∧ True) ?_ ?_
 ·
  unfold r74_1
  refine R_mv t0 ?_
  refine R_len (@rfl V (V.sl (List.map cT (w)))) ?_
  refine R_mv (@rfl V (iV (0 : Int))) ?_
  exact R_nil ⟨t0, t1, rfl, rfl, trivial⟩
 intro T H ⟨t0, t1, t7, t8, _⟩
 refine W_seq_blockg fun Q1 n1 x1 y1 z1 => ?_
 refine W_loop (fun mm T H => ∃ (k : Nat), mm = w.length - k ∧ T 0 = (V.sl (List.map cT (w))) ∧ T 1 = (V.fn g [] caps) ∧ T 7 = (iV ((w.length : Nat) : Int)) ∧ T 8 = (iV ((k : Nat) : Int)) ∧ (k ≤ w.length) ∧ (fi (fun j => p (nth w j)) 0 w.length = fi (fun j => p (nth w j)) k (w.length - k))) ?_ ?_
 ·
  refine ⟨_, 0, rfl, t0, t1, t7, (Eq.trans t8 (by first | rfl | simp)), ?_, ?_⟩
  · omega
  · rfl
 intro mm T H ⟨k, hmm, t0, t1, t7, t8, hk, hc⟩ Q2 p12 p22 p32
 unfold b74_0
 refine W_seq_regc (fun T H => T 0 = (V.sl (List.map cT (w))) ∧ T 1 = (V.fn g [] caps) ∧ T 7 = (iV ((w.length : Nat) : Int)) ∧ T 8 = (iV ((k : Nat) : Int)) ∧ T 9 = (V.bool (decide (((k : Nat) : Int) < ((w.length : Nat) : Int)))) ∧ True) ?_ ?_
 ·
  unfold r74_2
  refine R_lss (x := ((k : Nat) : Int)) (y := ((w.length : Nat) : Int)) t8 t7 ?_
  exact R_nil ⟨t0, t1, t7, t8, rfl, trivial⟩
 intro T H ⟨t0, t1, t7, t8, t9, _⟩
 refine W_seq_if (p := ((k : Nat) : Int) < ((w.length : Nat) : Int)) t9 (fun c3 => ?_) (fun c3 => ?_)
 ·
  refine W_seq_skip ?_
  refine W_seq_blockg fun Q4 n4 x4 y4 z4 => ?_
  refine W_seq_regc (fun T H => T 0 = (V.sl (List.map cT (w))) ∧ T 1 = (V.fn g [] caps) ∧ T 5 = (iV ((k : Nat) : Int)) ∧ T 7 = (iV ((w.length : Nat) : Int)) ∧ T 8 = (iV ((k : Nat) : Int)) ∧ True) ?_ ?_
  ·
   unfold r74_3
   refine R_mv t8 ?_
   refine R_mv (@rfl V (iV ((k : Nat) : Int))) ?_
   exact R_nil ⟨t0, t1, rfl, t7, t8, trivial⟩
  intro T H ⟨t0, t1, t5, t7, t8, _⟩
  refine W_seq_regc (fun T H => T 0 = (V.sl (List.map cT (w))) ∧ T 1 = (V.fn g [] caps) ∧ T 5 = (iV ((k : Nat) : Int)) ∧ T 7 = (iV ((w.length : Nat) : Int)) ∧ T 8 = (iV ((k : Nat) : Int)) ∧ T 16 = (V.bool (p (nth w k))) ∧ True) ?_ ?_
  ·
   unfold r74_4
   refine R_mv t1 ?_
   refine R_mv t0 ?_
   refine R_mv t5 ?_
   refine R_idx (i := k) (@rfl V (V.sl (List.map cT (w)))) (@rfl V (iV ((k : Nat) : Int))) (by omega) rfl ?_
   refine R_load_pp (v := (V.agg [(V.sl (List.map cI ((nth (w) (k)).ni))), (V.sl (List.map cI ((nth (w) (k)).no)))])) (@rfl V (V.pp [(V.sl (List.map cI ((nth (w) (k)).ni))), (V.sl (List.map cI ((nth (w) (k)).no)))])) (by first | rfl | simp [ldV]) ?_
   refine R_callv (@rfl V (V.fn g [] caps)) (evcons (@rfl V (V.agg [(V.sl (List.map cI ((nth (w) (k)).ni))), (V.sl (List.map cI ((nth (w) (k)).no)))])) evnil) (hq k (by omega)) (fzv_mapcanon _ _ (by simp [hca])) (by simp [hpu]) (Or.inl (by simp [hpu])) ?_
   exact R_nil ⟨t0, t1, t5, t7, t8, rfl, trivial⟩
  intro T H ⟨t0, t1, t5, t7, t8, t16, _⟩
  refine W_ifb t16 (fun c5 => ?_) (fun c5 => ?_)
  ·
   have d1 := c5
   refine W_seq_regc (fun T H => T 4 = (iV ((k : Nat) : Int)) ∧ True) ?_ ?_
   ·
    unfold r74_5
    refine R_mv t5 ?_
    refine R_mv (@rfl V (iV ((k : Nat) : Int))) ?_
    exact R_nil ⟨rfl, trivial⟩
   intro T H ⟨t4, _⟩
   refine W_ret ?_
   refine y4 _ _ ?_
   refine p22 _ _ ?_
   refine y1 _ _ ?_
   refine Ret_1 t4 (fz_int ?_)
   · rw [hc, fi_hit (by exact d1) (by omega)]
  have d1 := c5
  refine W_skip ?_
  refine n4 _ _ ?_
  refine .done ?_
  refine W_regc (fun T H => T 0 = (V.sl (List.map cT (w))) ∧ T 1 = (V.fn g [] caps) ∧ T 7 = (iV ((w.length : Nat) : Int)) ∧ T 8 = (iV ((k + 1 : Nat) : Int)) ∧ True) ?_ ?_
  ·
   unfold r74_6
   refine R_addN (m := k) (n := 1) t8 (@rfl V (iV ((1 : Nat) : Int))) (by omega) ?_
   refine R_mv (@rfl V (iV ((k + 1 : Nat) : Int))) ?_
   exact R_nil ⟨t0, t1, t7, rfl, trivial⟩
  intro T H ⟨t0, t1, t7, t8, _⟩
  refine p12 _ _ _ ?_ ⟨(k + 1), rfl, t0, t1, t7, (Eq.trans t8 (by first | rfl | simp)), ?_, ?_⟩
  · omega
  · omega
  · rw [hc, fi_skip (by exact d1) (by omega)]
 refine W_seq_exit ?_
 refine p32 _ _ _ ?_
 refine x1 _ _ ?_
 refine .done ?_
 refine W_seq_regc (fun T H => T 4 = (iV (-1 : Int)) ∧ True) ?_ ?_
 ·
  unfold r74_7
  refine R_mv (@rfl V (iV (-1 : Int))) ?_
  exact R_nil ⟨rfl, trivial⟩
 intro T H ⟨t4, _⟩
 refine W_ret ?_
 refine Ret_1 t4 (fz_int ?_)
 · rw [hc, fi_end (by omega)]
end Go.Proofs.Ytngkckefanbhgaa

namespace Go.Proofs.Ytngkckefanbhgaa
open Go Go.Proofs
def r117_0 : List SO := [
  ⟨none, some 2, .box 63 2 (.t 0)⟩,
  ⟨none, some 3, .mv (.c (.bool false))⟩]
def r117_1 : List SO := [
  ⟨none, some 4, .fld 0 (.t 1)⟩,
  ⟨none, some 5, .load false 1 (.t 4)⟩,
  ⟨none, some 6, .fld 0 (.t 2)⟩,
  ⟨none, some 7, .load false 1 (.t 6)⟩,
  ⟨none, some 8, .call false 76 [.t 5, .t 7]⟩,
  ⟨none, some 3, .mv (.t 8)⟩]
def s117 : SF := ⟨9, [.tmp 3], .seq (.reg r117_0) (.seq (.reg r117_1) (.ret))⟩
theorem s117_ok : slimF Try.prog ⟨[94, 102, 103, 108, 109, 116, 119, 121, 125], []⟩ Try.f117 = some s117 := by kernel_rfl
end Go.Proofs.Ytngkckefanbhgaa

namespace Go.Proofs.Ytngkckefanbhgaa
open Go Go.Proofs
theorem add1_pure (u t : Tr) : PureC Try.prog 117 [(V.agg [(V.sl (List.map cI (u.ni))), (V.sl (List.map cI (u.no)))]), (V.pp [(V.sl (List.map cI (t.ni))), (V.sl (List.map cI (t.no)))])] (V.bool (hp t.ni u.ni)) := by
 refine pure_of_Wb true 6 Try.func117 s117_ok (by kernel_rfl) (by simp [s117]) (by simp) (by simp) fun hB => ?_
 simp only [bnd_map, bnd_int, bnd_bool, bnd_str, bnd_agg, bnd_pp, bnd_nil, bnd_cons, implies_true, and_true, true_and] at hB
 unfold s117
 dsimp only
 refine W_seq_regc (fun T H => T 1 = (V.pp [(V.sl (List.map cI (t.ni))), (V.sl (List.map cI (t.no)))]) ∧ T 2 = (V.mp 2 1 0 0) ∧ H 2 = (⟨1, true, false, 63, 2, [[(V.sl (List.map cI (u.ni))), (V.sl (List.map cI (u.no)))]]⟩ : Blk) ∧ True) ?_ ?_
 ·
  unfold r117_0
  refine R_box (i := 2) (n := 0) (m := 2) (cs := [(V.sl (List.map cI (u.ni))), (V.sl (List.map cI (u.no)))]) rfl (congrArg Blk.ver rfl) (@rfl V (V.agg [(V.sl (List.map cI (u.ni))), (V.sl (List.map cI (u.no)))])) rfl rfl ?_
  refine R_mv (@rfl V (V.bool false)) ?_
  exact R_nil ⟨rfl, rfl, rfl, trivial⟩
 intro T H ⟨t1, t2, h2, _⟩
 refine W_seq_regc (fun T H => T 3 = (V.bool (hp t.ni u.ni)) ∧ H 2 = (⟨1, true, false, 63, 2, [[(V.sl (List.map cI (u.ni))), (V.sl (List.map cI (u.no)))]]⟩ : Blk) ∧ True) ?_ ?_
 ·
  unfold r117_1
  refine R_fld_pp (cs' := [(V.sl (List.map cI (t.ni))), (V.sl (List.map cI (t.no)))]) t1 rfl ?_
  refine R_load_pp (v := (V.sl (List.map cI (t.ni)))) (@rfl V (V.pp [(V.sl (List.map cI (t.ni))), (V.sl (List.map cI (t.no)))])) (by first | rfl | simp [ldV]) ?_
  refine R_fld_mp (o' := 0) t2 h2 (by first | rfl | simp [okB, Blk.own]) rfl ?_
  refine R_load_mp (v := (V.sl (List.map cI (u.ni)))) (@rfl V (V.mp 2 1 0 0)) h2 (by first | rfl | simp [ldB, ldV, Blk.own, V.one]) ?_
  refine R_call (evcons (@rfl V (V.sl (List.map cI (t.ni)))) (evcons (@rfl V (V.sl (List.map cI (u.ni)))) evnil)) (hp_pure t.ni u.ni) (fzv_mapcanon _ _ (by simp [-List.map_take, -List.map_drop, -List.map_append, -List.map_reverse])) (by simp [-List.map_take, -List.map_drop, -List.map_append, -List.map_reverse]) (Or.inl (by simp [-List.map_take, -List.map_drop, -List.map_append, -List.map_reverse])) ?_
  refine R_mv (@rfl V (V.bool (hp t.ni u.ni))) ?_
  exact R_nil ⟨rfl, h2, trivial⟩
 intro T H ⟨t3, h2, _⟩
 refine W_ret ?_
 refine Ret_1 t3 (fz_canon (by simp) rfl)
end Go.Proofs.Ytngkckefanbhgaa

namespace Go.Proofs.Ytngkckefanbhgaa
open Go Go.Proofs
theorem del_E (l : List Tr) (t : Tr) (v9 v3 v7 : Nat) (Hi : Heap) (h209 : Hi 209 = (⟨v9, true, false, 63, 2, (List.map cT (l))⟩ : Blk)) (h303 : Hi 303 = (⟨v3, true, false, 63, 2, [[(V.sl (List.map cI (t.ni))), (V.sl (List.map cI (t.no)))]]⟩ : Blk)) (h407 : (Hi 407).ver = v7) (hl : l.length ≤ 1000000) : CallOK Try.prog 116 [(V.ms 209 v9 0 (l.length)), (V.fn 117 [] [(V.mp 303 v3 0 0)])] Hi (V.ms 209 v9 0 (((l.filter (kp t)).length))) (upd (upd Hi 407 (⟨v7 + l.length, false, false, 0, 0, []⟩ : Blk)) 209 (⟨v9, true, false, 63, 2, (List.map cT (l.filter (kp t)) ++ List.replicate (l.length - (l.filter (kp t)).length) [V.nilsl, V.nilsl])⟩ : Blk)) := by
 refine CallOK_of_Wf (k0 := 400) Try.func116 s116_ok (by kernel_rfl) (by simp [s116]) fun hB => ?_
 simp only [bnd_map, bnd_int, bnd_bool, bnd_str, bnd_agg, bnd_pp, bnd_nil, bnd_cons, implies_true, and_true, true_and] at hB
 unfold s116
 dsimp only
 refine W_seq_regc (fun T H => T 0 = (V.ms 209 v9 0 (l.length)) ∧ T 1 = (V.fn 117 [] [(V.mp 303 v3 0 0)]) ∧ (∀ j, j ∉ [407, 209] → H j = Hi j) ∧ H 209 = (⟨v9, true, false, 63, 2, (List.map cT (l))⟩ : Blk) ∧ H 303 = (⟨v3, true, false, 63, 2, [[(V.sl (List.map cI (t.ni))), (V.sl (List.map cI (t.no)))]]⟩ : Blk) ∧ (H 407).ver = v7 ∧ True) ?_ ?_
 ·
  unfold r116_0
  refine R_mv (@rfl V V.nilsl) ?_
  exact R_nil ⟨rfl, rfl, (fun _ _ => rfl), h209, h303, h407, trivial⟩
 intro T H ⟨t0, t1, hF, h209, h303, h407, _⟩
 refine W_seq_regc (fun T H => T 0 = (V.ms 209 v9 0 (l.length)) ∧ T 1 = (V.fn 117 [] [(V.mp 303 v3 0 0)]) ∧ T 5 = (iV (fi (fun j => (fun u : Tr => hp t.ni u.ni) (nth l j)) 0 l.length)) ∧ (∀ j, j ∉ [407, 209] → H j = Hi j) ∧ H 209 = (⟨v9, true, false, 63, 2, (List.map cT (l))⟩ : Blk) ∧ H 303 = (⟨v3, true, false, 63, 2, [[(V.sl (List.map cI (t.ni))), (V.sl (List.map cI (t.no)))]]⟩ : Blk) ∧ (H 407).ver = v7 ∧ True) ?_ ?_
 ·
  unfold r116_1
  refine R_mv t0 ?_
  refine R_mv t1 ?_
  refine R_call (evcons (@rfl V (V.ms 209 v9 0 (l.length))) (evcons (@rfl V (V.fn 117 [] [(V.mp 303 v3 0 0)])) evnil)) (idxt_pure (fun u : Tr => hp t.ni u.ni) l 117 ([(V.pp [(V.sl (List.map cI (t.ni))), (V.sl (List.map cI (t.no)))])]) (by simp) (by simp) (fun j _ => add1_pure (nth l j) t)) (mcons (fz_mst h209 (by first | rfl | simp) (take_map (l := l) (by first | rfl | simp | omega)) (fun _ => by simp)) (mcons (by simp [fzv, Blk.own, h209, h303]) rfl)) (by simp [-List.map_take, -List.map_drop, -List.map_append, -List.map_reverse]) (Or.inr rfl) ?_
  refine R_mv (@rfl V (iV (fi (fun j => (fun u : Tr => hp t.ni u.ni) (nth l j)) 0 l.length))) ?_
  exact R_nil ⟨t0, t1, rfl, hF, h209, h303, h407, trivial⟩
 intro T H ⟨t0, t1, t5, hF, h209, h303, h407, _⟩
 refine W_seq_seq ?_
 refine W_seq_regc (fun T H => T 0 = (V.ms 209 v9 0 (l.length)) ∧ T 1 = (V.fn 117 [] [(V.mp 303 v3 0 0)]) ∧ T 5 = (iV (fi (fun j => (fun u : Tr => hp t.ni u.ni) (nth l j)) 0 l.length)) ∧ T 12 = (V.bool (decide ((fi (fun j => (fun u : Tr => hp t.ni u.ni) (nth l j)) 0 l.length) = (-1 : Int)))) ∧ (∀ j, j ∉ [407, 209] → H j = Hi j) ∧ H 209 = (⟨v9, true, false, 63, 2, (List.map cT (l))⟩ : Blk) ∧ H 303 = (⟨v3, true, false, 63, 2, [[(V.sl (List.map cI (t.ni))), (V.sl (List.map cI (t.no)))]]⟩ : Blk) ∧ (H 407).ver = v7 ∧ True) ?_ ?_
 ·
  unfold r116_2
  refine R_mv t5 ?_
  refine R_eql (x := (fi (fun j => (fun u : Tr => hp t.ni u.ni) (nth l j)) 0 l.length)) (y := (-1 : Int)) (@rfl V (iV (fi (fun j => (fun u : Tr => hp t.ni u.ni) (nth l j)) 0 l.length))) (@rfl V (iV (-1 : Int))) ?_
  exact R_nil ⟨t0, t1, t5, rfl, hF, h209, h303, h407, trivial⟩
 intro T H ⟨t0, t1, t5, t12, hF, h209, h303, h407, _⟩
 refine W_seq_if (p := (fi (fun j => (fun u : Tr => hp t.ni u.ni) (nth l j)) 0 l.length) = (-1 : Int)) t12 (fun c1 => ?_) (fun c1 => ?_)
 ·
  have d0 : fi (fun j => (fun u : Tr => hp t.ni u.ni) (nth l j)) 0 l.length < 0 := by omega
  refine W_seq_seq ?_
  refine W_seq_regc (fun T H => T 4 = (V.ms 209 v9 0 (l.length)) ∧ (∀ j, j ∉ [407, 209] → H j = Hi j) ∧ H 209 = (⟨v9, true, false, 63, 2, (List.map cT (l))⟩ : Blk) ∧ H 303 = (⟨v3, true, false, 63, 2, [[(V.sl (List.map cI (t.ni))), (V.sl (List.map cI (t.no)))]]⟩ : Blk) ∧ (H 407).ver = v7 ∧ True) ?_ ?_
  ·
   unfold r116_3
   refine R_mv t0 ?_
   refine R_mv (@rfl V (V.ms 209 v9 0 (l.length))) ?_
   exact R_nil ⟨rfl, hF, h209, h303, h407, trivial⟩
  intro T H ⟨t4, hF, h209, h303, h407, _⟩
  refine W_seq_ret ?_
  have fh := FinX.fin (FinX.put (B := (⟨v9, true, false, 63, 2, (List.map cT (l.filter (kp t)) ++ List.replicate (l.length - (l.filter (kp t)).length) [V.nilsl, V.nilsl])⟩ : Blk)) (FinX.putv (n := v7) (B := (⟨v7 + l.length, false, false, 0, 0, []⟩ : Blk)) (FinX.start hF) h407 (by show _ ≤ v7 + l.length; omega) rfl) h209 (FinB.eq (by first | rfl | (rw [d4]; done) | (rw [Nat.zero_add, dlL_nth, dlL_keep (by omega) d5]; done) | (rw [dlL_skip (by omega) d5]; done) | (rw [dl_none d0]; simp; done) | (have e : k = l.length := (by omega); subst e; unfold dlL dlF; rw [List.take_length, List.take_left]; done))))
  exact RetF_1 t4 fh (FinV.trans_eq (FinV.same fh _) (by first | rfl | (rw [d3]; exact congrArg (V.int .i64) (by first | rfl | omega)) | (exact congrArg (V.int .i64) (by omega)) | (rw [dlF_keep (by omega) d5, List.length_append]; rfl) | (rw [dlF_skip (by omega) d5]; done) | (rw [dl_none d0]; done) | (have e : k = l.length := (by omega); subst e; unfold dlF; rw [List.take_length]; done)))
 obtain ⟨i0, d1, d2, d3, d4⟩ := dl_start (t := t) (l := l) (by have := fi_bnd (p := fun j => (fun u : Tr => hp t.ni u.ni) (nth l j)) l.length 0; omega)
 refine W_seq_skip ?_
 refine W_seq_seq ?_
 refine W_seq_regc (fun T H => T 0 = (V.ms 209 v9 0 (l.length)) ∧ T 1 = (V.fn 117 [] [(V.mp 303 v3 0 0)]) ∧ T 5 = (iV (fi (fun j => (fun u : Tr => hp t.ni u.ni) (nth l j)) 0 l.length)) ∧ T 6 = (iV ((fi (fun j => (fun u : Tr => hp t.ni u.ni) (nth l j)) 0 l.length) + (1 : Int))) ∧ (∀ j, j ∉ [407, 209] → H j = Hi j) ∧ H 209 = (⟨v9, true, false, 63, 2, (List.map cT (l))⟩ : Blk) ∧ H 303 = (⟨v3, true, false, 63, 2, [[(V.sl (List.map cI (t.ni))), (V.sl (List.map cI (t.no)))]]⟩ : Blk) ∧ (H 407).ver = v7 ∧ True) ?_ ?_
 ·
  unfold r116_4
  refine R_mv t5 ?_
  refine R_add (x := (fi (fun j => (fun u : Tr => hp t.ni u.ni) (nth l j)) 0 l.length)) (y := (1 : Int)) (@rfl V (iV (fi (fun j => (fun u : Tr => hp t.ni u.ni) (nth l j)) 0 l.length))) (@rfl V (iV (1 : Int))) (by omega) (by omega) ?_
  refine R_mv (@rfl V (iV ((fi (fun j => (fun u : Tr => hp t.ni u.ni) (nth l j)) 0 l.length) + (1 : Int)))) ?_
  exact R_nil ⟨t0, t1, t5, rfl, hF, h209, h303, h407, trivial⟩
 intro T H ⟨t0, t1, t5, t6, hF, h209, h303, h407, _⟩
 refine W_seq_blockg fun Q2 n2 x2 y2 z2 => ?_
 refine W_loop (fun mm T H => ∃ (k : Nat) (v407 : Nat), mm = l.length - k ∧ T 0 = (V.ms 209 v9 0 (l.length)) ∧ T 1 = (V.fn 117 [] [(V.mp 303 v3 0 0)]) ∧ T 5 = (iV (((dlF t l k).length : Nat) : Int)) ∧ T 6 = (iV ((k : Nat) : Int)) ∧ (∀ j, j ∉ [407, 209] → H j = Hi j) ∧ H 209 = (⟨v9, true, false, 63, 2, (List.map cT (dlL t l k))⟩ : Blk) ∧ H 303 = (⟨v3, true, false, 63, 2, [[(V.sl (List.map cI (t.ni))), (V.sl (List.map cI (t.no)))]]⟩ : Blk) ∧ (H 407).ver = v407 ∧ (k ≤ l.length) ∧ ((dlF t l k).length < k) ∧ (v407 ≤ v7 + k)) ?_ ?_
 ·
  refine ⟨_, i0 + 1, v7, rfl, t0, t1, (Eq.trans t5 (by first | rfl | (rw [d3]; exact congrArg (V.int .i64) (by first | rfl | omega)) | (exact congrArg (V.int .i64) (by omega)) | (rw [dlF_keep (by omega) d5, List.length_append]; rfl) | (rw [dlF_skip (by omega) d5]; done) | (rw [dl_none d0]; done) | (have e : k = l.length := (by omega); subst e; unfold dlF; rw [List.take_length]; done))), (Eq.trans t6 (by first | rfl | (rw [d3]; exact congrArg (V.int .i64) (by first | rfl | omega)) | (exact congrArg (V.int .i64) (by omega)) | (rw [dlF_keep (by omega) d5, List.length_append]; rfl) | (rw [dlF_skip (by omega) d5]; done) | (rw [dl_none d0]; done) | (have e : k = l.length := (by omega); subst e; unfold dlF; rw [List.take_length]; done))), hF, (Eq.trans h209 (by first | rfl | (rw [d4]; done) | (rw [Nat.zero_add, dlL_nth, dlL_keep (by omega) d5]; done) | (rw [dlL_skip (by omega) d5]; done) | (rw [dl_none d0]; simp; done) | (have e : k = l.length := (by omega); subst e; unfold dlL dlF; rw [List.take_length, List.take_left]; done))), h303, h407, ?_, ?_, ?_⟩
  · omega
  · omega
  · omega
 intro mm T H ⟨k, v407, hmm, t0, t1, t5, t6, hF, h209, h303, h407, hk, hlt, hv⟩ Q3 p13 p23 p33
 unfold b116_0
 have q1 := dlL_len t l k
 refine W_seq_seq ?_
 refine W_seq_regc (fun T H => T 0 = (V.ms 209 v9 0 (l.length)) ∧ T 1 = (V.fn 117 [] [(V.mp 303 v3 0 0)]) ∧ T 5 = (iV (((dlF t l k).length : Nat) : Int)) ∧ T 6 = (iV ((k : Nat) : Int)) ∧ T 19 = (V.bool (decide (((k : Nat) : Int) < ((l.length : Nat) : Int)))) ∧ (∀ j, j ∉ [407, 209] → H j = Hi j) ∧ H 209 = (⟨v9, true, false, 63, 2, (List.map cT (dlL t l k))⟩ : Blk) ∧ H 303 = (⟨v3, true, false, 63, 2, [[(V.sl (List.map cI (t.ni))), (V.sl (List.map cI (t.no)))]]⟩ : Blk) ∧ (H 407).ver = v407 ∧ True) ?_ ?_
 ·
  unfold r116_5
  refine R_mv t6 ?_
  refine R_mv t0 ?_
  refine R_len_ms (@rfl V (V.ms 209 v9 0 (l.length))) h209 (by first | rfl | simp) ?_
  refine R_lss (x := ((k : Nat) : Int)) (y := ((l.length : Nat) : Int)) (@rfl V (iV ((k : Nat) : Int))) (@rfl V (iV ((l.length : Nat) : Int))) ?_
  exact R_nil ⟨t0, t1, t5, t6, rfl, hF, h209, h303, h407, trivial⟩
 intro T H ⟨t0, t1, t5, t6, t19, hF, h209, h303, h407, _⟩
 refine W_seq_if (p := ((k : Nat) : Int) < ((l.length : Nat) : Int)) t19 (fun c4 => ?_) (fun c4 => ?_)
 ·
  refine W_seq_skip ?_
  refine W_seq_blockg fun Q5 n5 x5 y5 z5 => ?_
  refine W_seq_regc (fun T H => T 0 = (V.ms 209 v9 0 (l.length)) ∧ T 1 = (V.fn 117 [] [(V.mp 303 v3 0 0)]) ∧ T 5 = (iV (((dlF t l k).length : Nat) : Int)) ∧ T 6 = (iV ((k : Nat) : Int)) ∧ T 7 = (V.mp 407 (v407 + 1) 0 0) ∧ (∀ j, j ∉ [407, 209] → H j = Hi j) ∧ H 209 = (⟨v9, true, false, 63, 2, (List.map cT (dlL t l k))⟩ : Blk) ∧ H 303 = (⟨v3, true, false, 63, 2, [[(V.sl (List.map cI (t.ni))), (V.sl (List.map cI (t.no)))]]⟩ : Blk) ∧ H 407 = (⟨v407 + 1, true, false, 63, 2, [[(V.sl (List.map cI ((nth (dlL t l k) (0 + (k))).ni))), (V.sl (List.map cI ((nth (dlL t l k) (0 + (k))).no)))]]⟩ : Blk) ∧ True) ?_ ?_
  ·
   unfold r116_7
   refine R_mv t0 ?_
   refine R_mv t6 ?_
   refine R_idx_ms (i := k) (@rfl V (V.ms 209 v9 0 (l.length))) (@rfl V (iV ((k : Nat) : Int))) h209 (okB_map (by omega)) rfl (by omega) ?_
   refine R_load_mp (v := (V.agg [(V.sl (List.map cI ((nth (dlL t l k) (0 + (k))).ni))), (V.sl (List.map cI ((nth (dlL t l k) (0 + (k))).no)))])) (@rfl V (V.mp 209 v9 (0 + (k)) 0)) h209 (ldB_map (by omega) (by first | rfl | simp [ldV, V.one])) ?_
   refine R_alloc (i := 407) (n := v407) (m := 2) (by rfl) h407 rfl ?_
   refine R_store (vs := [(V.sl (List.map cI ((nth (dlL t l k) (0 + (k))).ni))), (V.sl (List.map cI ((nth (dlL t l k) (0 + (k))).no)))]) (B' := (⟨v407 + 1, true, false, 63, 2, [[(V.sl (List.map cI ((nth (dlL t l k) (0 + (k))).ni))), (V.sl (List.map cI ((nth (dlL t l k) (0 + (k))).no)))]]⟩ : Blk)) (@rfl V (V.mp 407 (v407 + 1) 0 0)) (@rfl V (V.agg [(V.sl (List.map cI ((nth (dlL t l k) (0 + (k))).ni))), (V.sl (List.map cI ((nth (dlL t l k) (0 + (k))).no)))])) rfl (@rfl Blk (⟨v407 + 1, true, false, 63, 2, [[V.nilsl, V.nilsl]]⟩ : Blk)) (by first | rfl | simp [stB, okB, Blk.own, putAt, V.one]) ?_
   exact R_nil ⟨t0, t1, t5, t6, rfl, (upd_out (upd_out hF (by decide)) (by decide)), h209, h303, rfl, trivial⟩
  intro T H ⟨t0, t1, t5, t6, t7, hF, h209, h303, h407, _⟩
  refine W_seq_regc (fun T H => T 0 = (V.ms 209 v9 0 (l.length)) ∧ T 1 = (V.fn 117 [] [(V.mp 303 v3 0 0)]) ∧ T 5 = (iV (((dlF t l k).length : Nat) : Int)) ∧ T 6 = (iV ((k : Nat) : Int)) ∧ T 7 = (V.mp 407 (v407 + 1) 0 0) ∧ T 29 = (V.bool ((!hp t.ni ((nth (dlL t l k) (0 + (k)))).ni))) ∧ (∀ j, j ∉ [407, 209] → H j = Hi j) ∧ H 209 = (⟨v9, true, false, 63, 2, (List.map cT (dlL t l k))⟩ : Blk) ∧ H 303 = (⟨v3, true, false, 63, 2, [[(V.sl (List.map cI (t.ni))), (V.sl (List.map cI (t.no)))]]⟩ : Blk) ∧ H 407 = (⟨v407 + 1, true, false, 63, 2, [[(V.sl (List.map cI ((nth (dlL t l k) (0 + (k))).ni))), (V.sl (List.map cI ((nth (dlL t l k) (0 + (k))).no)))]]⟩ : Blk) ∧ True) ?_ ?_
  ·
   unfold r116_8
   refine R_mv t1 ?_
   refine R_load_mp (v := (V.agg [(V.sl (List.map cI ((nth (dlL t l k) (0 + (k))).ni))), (V.sl (List.map cI ((nth (dlL t l k) (0 + (k))).no)))])) t7 h407 (by first | rfl | simp [ldB, ldV, Blk.own, V.one]) ?_
   refine R_callv (@rfl V (V.fn 117 [] [(V.mp 303 v3 0 0)])) (evcons (@rfl V (V.agg [(V.sl (List.map cI ((nth (dlL t l k) (0 + (k))).ni))), (V.sl (List.map cI ((nth (dlL t l k) (0 + (k))).no)))])) evnil) (add1_pure ((nth (dlL t l k) (0 + (k)))) t) (mcons (fzv_canon 6 _ (by simp [-List.map_take, -List.map_drop, -List.map_append, -List.map_reverse])) (mcons (by simp [fzv, Blk.own, h209, h303, h407]) rfl)) (by simp [-List.map_take, -List.map_drop, -List.map_append, -List.map_reverse]) (Or.inr rfl) ?_
   refine R_notb (@rfl V (V.bool (hp t.ni ((nth (dlL t l k) (0 + (k)))).ni))) ?_
   exact R_nil ⟨t0, t1, t5, t6, t7, rfl, hF, h209, h303, h407, trivial⟩
  intro T H ⟨t0, t1, t5, t6, t7, t29, hF, h209, h303, h407, _⟩
  refine W_ifb t29 (fun c6 => ?_) (fun c6 => ?_)
  ·
   have d5 : kp t (nth l k) = true := by unfold kp; rw [Nat.zero_add, dlL_nth] at c6; simpa using c6
   refine W_seq_regc (fun T H => T 0 = (V.ms 209 v9 0 (l.length)) ∧ T 1 = (V.fn 117 [] [(V.mp 303 v3 0 0)]) ∧ T 5 = (iV (((dlF t l k).length : Nat) : Int)) ∧ T 6 = (iV ((k : Nat) : Int)) ∧ (∀ j, j ∉ [407, 209] → H j = Hi j) ∧ H 209 = (⟨v9, true, false, 63, 2, (List.map cT ((dlL t l k).set (((dlF t l k).length)) ((nth (dlL t l k) (0 + (k))))))⟩ : Blk) ∧ H 303 = (⟨v3, true, false, 63, 2, [[(V.sl (List.map cI (t.ni))), (V.sl (List.map cI (t.no)))]]⟩ : Blk) ∧ H 407 = (⟨v407 + 1, true, false, 63, 2, [[(V.sl (List.map cI ((nth (dlL t l k) (0 + (k))).ni))), (V.sl (List.map cI ((nth (dlL t l k) (0 + (k))).no)))]]⟩ : Blk) ∧ True) ?_ ?_
   ·
    unfold r116_9
    refine R_mv t0 ?_
    refine R_mv t5 ?_
    refine R_load_mp (v := (V.agg [(V.sl (List.map cI ((nth (dlL t l k) (0 + (k))).ni))), (V.sl (List.map cI ((nth (dlL t l k) (0 + (k))).no)))])) t7 h407 (by first | rfl | simp [ldB, ldV, Blk.own, V.one]) ?_
    refine R_idx_ms (i := ((dlF t l k).length)) (@rfl V (V.ms 209 v9 0 (l.length))) (@rfl V (iV (((dlF t l k).length : Nat) : Int))) h209 (okB_map (by omega)) rfl (by omega) ?_
    refine R_store (vs := [(V.sl (List.map cI ((nth (dlL t l k) (0 + (k))).ni))), (V.sl (List.map cI ((nth (dlL t l k) (0 + (k))).no)))]) (B' := (⟨v9, true, false, 63, 2, (List.map cT ((dlL t l k).set (((dlF t l k).length)) ((nth (dlL t l k) (0 + (k))))))⟩ : Blk)) (Eq.trans (@rfl V (V.mp 209 v9 (0 + ((dlF t l k).length)) 0)) (congrArg (fun n => V.mp 209 v9 n 0) (Nat.zero_add _))) (@rfl V (V.agg [(V.sl (List.map cI ((nth (dlL t l k) (0 + (k))).ni))), (V.sl (List.map cI ((nth (dlL t l k) (0 + (k))).no)))])) rfl h209 (stB_map (x := (nth (dlL t l k) (0 + (k)))) (i := ((dlF t l k).length)) (by omega) rfl rfl rfl rfl) ?_
    exact R_nil ⟨t0, t1, t5, t6, (upd_out hF (by decide)), rfl, h303, h407, trivial⟩
   intro T H ⟨t0, t1, t5, t6, hF, h209, h303, h407, _⟩
   refine W_regc (fun T H => T 0 = (V.ms 209 v9 0 (l.length)) ∧ T 1 = (V.fn 117 [] [(V.mp 303 v3 0 0)]) ∧ T 5 = (iV ((((dlF t l k).length) + 1 : Nat) : Int)) ∧ T 6 = (iV ((k : Nat) : Int)) ∧ (∀ j, j ∉ [407, 209] → H j = Hi j) ∧ H 209 = (⟨v9, true, false, 63, 2, (List.map cT ((dlL t l k).set (((dlF t l k).length)) ((nth (dlL t l k) (0 + (k))))))⟩ : Blk) ∧ H 303 = (⟨v3, true, false, 63, 2, [[(V.sl (List.map cI (t.ni))), (V.sl (List.map cI (t.no)))]]⟩ : Blk) ∧ H 407 = (⟨v407 + 1, true, false, 63, 2, [[(V.sl (List.map cI ((nth (dlL t l k) (0 + (k))).ni))), (V.sl (List.map cI ((nth (dlL t l k) (0 + (k))).no)))]]⟩ : Blk) ∧ True) ?_ ?_
   ·
    unfold r116_10
    refine R_mv t5 ?_
    refine R_addN (m := ((dlF t l k).length)) (n := 1) (@rfl V (iV (((dlF t l k).length : Nat) : Int))) (@rfl V (iV ((1 : Nat) : Int))) (by omega) ?_
    refine R_mv (@rfl V (iV ((((dlF t l k).length) + 1 : Nat) : Int))) ?_
    exact R_nil ⟨t0, t1, rfl, t6, hF, h209, h303, h407, trivial⟩
   intro T H ⟨t0, t1, t5, t6, hF, h209, h303, h407, _⟩
   refine n5 _ _ ?_
   refine .done ?_
   refine W_regc (fun T H => T 0 = (V.ms 209 v9 0 (l.length)) ∧ T 1 = (V.fn 117 [] [(V.mp 303 v3 0 0)]) ∧ T 5 = (iV ((((dlF t l k).length) + 1 : Nat) : Int)) ∧ T 6 = (iV ((k + 1 : Nat) : Int)) ∧ (∀ j, j ∉ [407, 209] → H j = Hi j) ∧ H 209 = (⟨v9, true, false, 63, 2, (List.map cT ((dlL t l k).set (((dlF t l k).length)) ((nth (dlL t l k) (0 + (k))))))⟩ : Blk) ∧ H 303 = (⟨v3, true, false, 63, 2, [[(V.sl (List.map cI (t.ni))), (V.sl (List.map cI (t.no)))]]⟩ : Blk) ∧ H 407 = (⟨v407 + 1, true, false, 63, 2, [[(V.sl (List.map cI ((nth (dlL t l k) (0 + (k))).ni))), (V.sl (List.map cI ((nth (dlL t l k) (0 + (k))).no)))]]⟩ : Blk) ∧ True) ?_ ?_
   ·
    unfold r116_6
    refine R_mv t6 ?_
    refine R_addN (m := k) (n := 1) (@rfl V (iV ((k : Nat) : Int))) (@rfl V (iV ((1 : Nat) : Int))) (by omega) ?_
    refine R_mv (@rfl V (iV ((k + 1 : Nat) : Int))) ?_
    exact R_nil ⟨t0, t1, t5, rfl, hF, h209, h303, h407, trivial⟩
   intro T H ⟨t0, t1, t5, t6, hF, h209, h303, h407, _⟩
   refine p13 _ _ _ ?_ ⟨k + 1, (v407 + 1), rfl, t0, t1, (Eq.trans t5 (by first | rfl | (rw [d3]; exact congrArg (V.int .i64) (by first | rfl | omega)) | (exact congrArg (V.int .i64) (by omega)) | (rw [dlF_keep (by omega) d5, List.length_append]; rfl) | (rw [dlF_skip (by omega) d5]; done) | (rw [dl_none d0]; done) | (have e : k = l.length := (by omega); subst e; unfold dlF; rw [List.take_length]; done))), (Eq.trans t6 (by first | rfl | (rw [d3]; exact congrArg (V.int .i64) (by first | rfl | omega)) | (exact congrArg (V.int .i64) (by omega)) | (rw [dlF_keep (by omega) d5, List.length_append]; rfl) | (rw [dlF_skip (by omega) d5]; done) | (rw [dl_none d0]; done) | (have e : k = l.length := (by omega); subst e; unfold dlF; rw [List.take_length]; done))), hF, (Eq.trans h209 (by first | rfl | (rw [d4]; done) | (rw [Nat.zero_add, dlL_nth, dlL_keep (by omega) d5]; done) | (rw [dlL_skip (by omega) d5]; done) | (rw [dl_none d0]; simp; done) | (have e : k = l.length := (by omega); subst e; unfold dlL dlF; rw [List.take_length, List.take_left]; done))), h303, (congrArg Blk.ver h407), ?_, ?_, ?_⟩
   · omega
   · omega
   · first | (rw [dlF_keep (by omega) d5, List.length_append]; simp; omega) | (rw [dlF_skip (by omega) d5]; omega)
   · omega
  have d5 : ¬kp t (nth l k) = true := by unfold kp; rw [Nat.zero_add, dlL_nth] at c6; simpa using c6
  refine W_skip ?_
  refine n5 _ _ ?_
  refine .done ?_
  refine W_regc (fun T H => T 0 = (V.ms 209 v9 0 (l.length)) ∧ T 1 = (V.fn 117 [] [(V.mp 303 v3 0 0)]) ∧ T 5 = (iV (((dlF t l k).length : Nat) : Int)) ∧ T 6 = (iV ((k + 1 : Nat) : Int)) ∧ (∀ j, j ∉ [407, 209] → H j = Hi j) ∧ H 209 = (⟨v9, true, false, 63, 2, (List.map cT (dlL t l k))⟩ : Blk) ∧ H 303 = (⟨v3, true, false, 63, 2, [[(V.sl (List.map cI (t.ni))), (V.sl (List.map cI (t.no)))]]⟩ : Blk) ∧ H 407 = (⟨v407 + 1, true, false, 63, 2, [[(V.sl (List.map cI ((nth (dlL t l k) (0 + (k))).ni))), (V.sl (List.map cI ((nth (dlL t l k) (0 + (k))).no)))]]⟩ : Blk) ∧ True) ?_ ?_
  ·
   unfold r116_6
   refine R_mv t6 ?_
   refine R_addN (m := k) (n := 1) (@rfl V (iV ((k : Nat) : Int))) (@rfl V (iV ((1 : Nat) : Int))) (by omega) ?_
   refine R_mv (@rfl V (iV ((k + 1 : Nat) : Int))) ?_
   exact R_nil ⟨t0, t1, t5, rfl, hF, h209, h303, h407, trivial⟩
  intro T H ⟨t0, t1, t5, t6, hF, h209, h303, h407, _⟩
  refine p13 _ _ _ ?_ ⟨k + 1, (v407 + 1), rfl, t0, t1, (Eq.trans t5 (by first | rfl | (rw [d3]; exact congrArg (V.int .i64) (by first | rfl | omega)) | (exact congrArg (V.int .i64) (by omega)) | (rw [dlF_keep (by omega) d5, List.length_append]; rfl) | (rw [dlF_skip (by omega) d5]; done) | (rw [dl_none d0]; done) | (have e : k = l.length := (by omega); subst e; unfold dlF; rw [List.take_length]; done))), (Eq.trans t6 (by first | rfl | (rw [d3]; exact congrArg (V.int .i64) (by first | rfl | omega)) | (exact congrArg (V.int .i64) (by omega)) | (rw [dlF_keep (by omega) d5, List.length_append]; rfl) | (rw [dlF_skip (by omega) d5]; done) | (rw [dl_none d0]; done) | (have e : k = l.length := (by omega); subst e; unfold dlF; rw [List.take_length]; done))), hF, (Eq.trans h209 (by first | rfl | (rw [d4]; done) | (rw [Nat.zero_add, dlL_nth, dlL_keep (by omega) d5]; done) | (rw [dlL_skip (by omega) d5]; done) | (rw [dl_none d0]; simp; done) | (have e : k = l.length := (by omega); subst e; unfold dlL dlF; rw [List.take_length, List.take_left]; done))), h303, (congrArg Blk.ver h407), ?_, ?_, ?_⟩
  · omega
  · omega
  · first | (rw [dlF_keep (by omega) d5, List.length_append]; simp; omega) | (rw [dlF_skip (by omega) d5]; omega)
  · omega
 refine W_seq_exit ?_
 refine p33 _ _ _ ?_
 refine x2 _ _ ?_
 refine .done ?_
 refine W_seq_regc (fun T H => T 0 = (V.ms 209 v9 0 (l.length)) ∧ T 5 = (iV (((dlF t l k).length : Nat) : Int)) ∧ (∀ j, j ∉ [407, 209] → H j = Hi j) ∧ H 209 = (⟨v9, true, false, 63, 2, (List.map cT (List.take (((dlF t l k).length)) (dlL t l k)) ++ List.replicate (l.length - ((dlF t l k).length)) [V.nilsl, V.nilsl])⟩ : Blk) ∧ H 303 = (⟨v3, true, false, 63, 2, [[(V.sl (List.map cI (t.ni))), (V.sl (List.map cI (t.no)))]]⟩ : Blk) ∧ (H 407).ver = v407 ∧ True) ?_ ?_
 ·
  unfold r116_11
  refine R_mv t0 ?_
  refine R_mv t5 ?_
  refine R_slice_ms_lo (n := ((dlF t l k).length)) (@rfl V (V.ms 209 v9 0 (l.length))) (@rfl V (iV (((dlF t l k).length : Nat) : Int))) h209 (okB_map (by omega)) rfl (by omega) ?_
  refine R_clr (m := (((dlF t l k).length))) (n := (l.length - ((dlF t l k).length))) (f := cT) (l := (dlL t l k)) (Eq.trans (@rfl V (V.ms 209 v9 (0 + ((dlF t l k).length)) (l.length - ((dlF t l k).length)))) (congrArg (fun n => V.ms 209 v9 n (l.length - ((dlF t l k).length))) (Nat.zero_add _))) h209 rfl (by decide) rfl (by omega) (by omega) ?_
  exact R_nil ⟨t0, t5, (upd_out hF (by decide)), rfl, h303, h407, trivial⟩
 intro T H ⟨t0, t5, hF, h209, h303, h407, _⟩
 refine W_seq_regc (fun T H => T 4 = (V.ms 209 v9 0 ((dlF t l k).length)) ∧ (∀ j, j ∉ [407, 209] → H j = Hi j) ∧ H 209 = (⟨v9, true, false, 63, 2, (List.map cT (List.take (((dlF t l k).length)) (dlL t l k)) ++ List.replicate (l.length - ((dlF t l k).length)) [V.nilsl, V.nilsl])⟩ : Blk) ∧ H 303 = (⟨v3, true, false, 63, 2, [[(V.sl (List.map cI (t.ni))), (V.sl (List.map cI (t.no)))]]⟩ : Blk) ∧ (H 407).ver = v407 ∧ True) ?_ ?_
 ·
  unfold r116_12
  refine R_mv t0 ?_
  refine R_mv t5 ?_
  refine R_slice_ms_hi (n := ((dlF t l k).length)) (@rfl V (V.ms 209 v9 0 (l.length))) (@rfl V (iV (((dlF t l k).length : Nat) : Int))) h209 (by first | rfl | simp [okB, Blk.own]) rfl (by omega) ?_
  refine R_mv (@rfl V (V.ms 209 v9 0 ((dlF t l k).length))) ?_
  exact R_nil ⟨rfl, hF, h209, h303, h407, trivial⟩
 intro T H ⟨t4, hF, h209, h303, h407, _⟩
 refine W_ret ?_
 have fh := FinX.fin (FinX.put (B := (⟨v9, true, false, 63, 2, (List.map cT (l.filter (kp t)) ++ List.replicate (l.length - (l.filter (kp t)).length) [V.nilsl, V.nilsl])⟩ : Blk)) (FinX.putv (n := v407) (B := (⟨v7 + l.length, false, false, 0, 0, []⟩ : Blk)) (FinX.start hF) h407 (by show _ ≤ v7 + l.length; omega) rfl) h209 (FinB.eq (by first | rfl | (rw [d4]; done) | (rw [Nat.zero_add, dlL_nth, dlL_keep (by omega) d5]; done) | (rw [dlL_skip (by omega) d5]; done) | (rw [dl_none d0]; simp; done) | (have e : k = l.length := (by omega); subst e; unfold dlL dlF; rw [List.take_length, List.take_left]; done))))
 exact RetF_1 t4 fh (FinV.trans_eq (FinV.same fh _) (by first | rfl | (rw [d3]; exact congrArg (V.int .i64) (by first | rfl | omega)) | (exact congrArg (V.int .i64) (by omega)) | (rw [dlF_keep (by omega) d5, List.length_append]; rfl) | (rw [dlF_skip (by omega) d5]; done) | (rw [dl_none d0]; done) | (have e : k = l.length := (by omega); subst e; unfold dlF; rw [List.take_length]; done)))
end Go.Proofs.Ytngkckefanbhgaa

namespace Go.Proofs.Ytngkckefanbhgaa
open Go Go.Proofs
def r118_0 : List SO := [
  ⟨none, some 4, .box 63 2 (.t 1)⟩,
  ⟨none, some 6, .mv (.c (.int .i64 0))⟩,
  ⟨none, some 7, .mv (.c (.bool false))⟩]
def r118_1 : List SO := [
  ⟨none, some 12, .mv (.t 0)⟩,
  ⟨none, some 13, .len (.t 12)⟩,
  ⟨none, some 8, .mv (.t 13)⟩]
def r118_2 : List SO := [
  ⟨none, some 14, .mv (.t 8)⟩,
  ⟨none, some 9, .mv (.c (.int .i64 0))⟩,
  ⟨none, some 10, .mv (.t 14)⟩]
def r118_3 : List SO := [
  ⟨none, some 15, .mv (.t 9)⟩,
  ⟨none, some 16, .mv (.t 10)⟩,
  ⟨none, some 17, .bin .lss (.t 15) (.t 16)⟩]
def r118_4 : List SO := [
  ⟨none, some 18, .mv (.t 9)⟩,
  ⟨none, some 19, .mv (.t 10)⟩,
  ⟨none, some 20, .bin .add (.t 18) (.t 19)⟩,
  ⟨none, some 21, .conv .u64 (.t 20)⟩,
  ⟨none, some 22, .bin .shr (.t 21) (.c (.int .u64 1))⟩,
  ⟨none, some 23, .conv .i64 (.t 22)⟩,
  ⟨none, some 11, .mv (.t 23)⟩]
def r118_5 : List SO := [
  ⟨none, some 24, .mv (.t 2)⟩,
  ⟨none, some 25, .mv (.t 0)⟩,
  ⟨none, some 26, .mv (.t 11)⟩,
  ⟨none, some 27, .idx 2 (.t 25) (.t 26)⟩,
  ⟨none, some 28, .load true 2 (.t 27)⟩,
  ⟨none, some 29, .load true 2 (.t 4)⟩,
  ⟨none, some 30, .callv false (.t 24) [.t 28, .t 29]⟩,
  ⟨none, some 31, .bin .lss (.t 30) (.c (.int .i64 0))⟩]
def r118_6 : List SO := [
  ⟨none, some 32, .mv (.t 11)⟩,
  ⟨none, some 33, .bin .add (.t 32) (.c (.int .i64 1))⟩,
  ⟨none, some 9, .mv (.t 33)⟩]
def r118_7 : List SO := [
  ⟨none, some 34, .mv (.t 11)⟩,
  ⟨none, some 10, .mv (.t 34)⟩]
def b118_0 : SC := .seq (.seq (.reg r118_3) (.cond (.t 17) (.skip) (.exit 0))) (.block 1 (.seq (.reg r118_4) (.seq (.reg r118_5) (.cond (.t 31) (.reg r118_6) (.reg r118_7)))))
def r118_8 : List SO := [
  ⟨none, some 35, .mv (.t 9)⟩,
  ⟨none, some 36, .mv (.t 9)⟩,
  ⟨none, some 37, .mv (.t 8)⟩,
  ⟨none, some 38, .bin .lss (.t 36) (.t 37)⟩,
  ⟨none, some 39, .mv (.t 38)⟩,
  ⟨some (39, true), some 40, .mv (.t 2)⟩,
  ⟨some (39, true), some 41, .mv (.t 0)⟩,
  ⟨some (39, true), some 42, .mv (.t 9)⟩,
  ⟨some (39, true), some 43, .idx 2 (.t 41) (.t 42)⟩,
  ⟨some (39, true), some 44, .load true 2 (.t 43)⟩,
  ⟨some (39, true), some 45, .load true 2 (.t 4)⟩,
  ⟨some (39, true), some 46, .callv false (.t 40) [.t 44, .t 45]⟩,
  ⟨some (39, true), some 47, .bin .eql (.t 46) (.c (.int .i64 0))⟩,
  ⟨none, some 48, .pick (.t 39) (.t 47) (.c (.bool false))⟩,
  ⟨none, some 6, .mv (.t 35)⟩,
  ⟨none, some 7, .mv (.t 48)⟩]
def s118 : SF := ⟨49, [.tmp 6, .tmp 7], .seq (.reg r118_0) (.seq (.reg r118_1) (.seq (.reg r118_2) (.seq (.block 0 (.loop b118_0)) (.seq (.reg r118_8) (.ret)))))⟩
theorem s118_ok : slimF Try.prog ⟨[94, 102, 103, 108, 109, 116, 119, 121, 125], []⟩ Try.f118 = some s118 := by kernel_rfl
end Go.Proofs.Ytngkckefanbhgaa

namespace Go.Proofs.Ytngkckefanbhgaa
open Go Go.Proofs
theorem bs_pure (l : List Tr) (t : Tr) (hs : Srt l) (hl : l.length ≤ 1000000) : PureC Try.prog 118 [(V.sl (List.map cT (l))), (V.agg [(V.sl (List.map cI (t.ni))), (V.sl (List.map cI (t.no)))]), (V.fn 79 [] [])] (V.tup [(iV ((lbN l t : Nat) : Int)), (V.bool (decide (lbN l t < l.length ∧ slx (nth l (lbN l t)).ni t.ni = 0)))]) := by
 refine pure_of_Wb true 6 Try.func118 s118_ok (by kernel_rfl) (by simp [s118]) (by simp) (by simp) fun hB => ?_
 simp only [bnd_map, bnd_int, bnd_bool, bnd_str, bnd_agg, bnd_pp, bnd_nil, bnd_cons, implies_true, and_true, true_and] at hB
 unfold s118
 dsimp only
 have q0 := lb_le (t := t) l
 refine W_seq_regc (fun T H => T 0 = (V.sl (List.map cT (l))) ∧ T 2 = (V.fn 79 [] []) ∧ T 4 = (V.mp 4 1 0 0) ∧ H 4 = (⟨1, true, false, 63, 2, [[(V.sl (List.map cI (t.ni))), (V.sl (List.map cI (t.no)))]]⟩ : Blk) ∧ True) ?_ ?_
 ·
  unfold r118_0
  refine R_box (i := 4) (n := 0) (m := 2) (cs := [(V.sl (List.map cI (t.ni))), (V.sl (List.map cI (t.no)))]) rfl (congrArg Blk.ver rfl) (@rfl V (V.agg [(V.sl (List.map cI (t.ni))), (V.sl (List.map cI (t.no)))])) rfl rfl ?_
  refine R_mv (@rfl V (iV (0 : Int))) ?_
  refine R_mv (@rfl V (V.bool false)) ?_
  exact R_nil ⟨rfl, rfl, rfl, rfl, trivial⟩
 intro T H ⟨t0, t2, t4, h4, _⟩
 refine W_seq_regc (fun T H => T 0 = (V.sl (List.map cT (l))) ∧ T 2 = (V.fn 79 [] []) ∧ T 4 = (V.mp 4 1 0 0) ∧ T 8 = (iV ((l.length : Nat) : Int)) ∧ H 4 = (⟨1, true, false, 63, 2, [[(V.sl (List.map cI (t.ni))), (V.sl (List.map cI (t.no)))]]⟩ : Blk) ∧ True) ?_ ?_
 ·
  unfold r118_1
  refine R_mv t0 ?_
  refine R_len (@rfl V (V.sl (List.map cT (l)))) ?_
  refine R_mv (@rfl V (iV ((l.length : Nat) : Int))) ?_
  exact R_nil ⟨t0, t2, t4, rfl, h4, trivial⟩
 intro T H ⟨t0, t2, t4, t8, h4, _⟩
 refine W_seq_regc (fun T H => T 0 = (V.sl (List.map cT (l))) ∧ T 2 = (V.fn 79 [] []) ∧ T 4 = (V.mp 4 1 0 0) ∧ T 8 = (iV ((l.length : Nat) : Int)) ∧ T 9 = (iV (0 : Int)) ∧ T 10 = (iV ((l.length : Nat) : Int)) ∧ H 4 = (⟨1, true, false, 63, 2, [[(V.sl (List.map cI (t.ni))), (V.sl (List.map cI (t.no)))]]⟩ : Blk) ∧ True) ?_ ?_
 ·
  unfold r118_2
  refine R_mv t8 ?_
  refine R_mv (@rfl V (iV (0 : Int))) ?_
  refine R_mv (@rfl V (iV ((l.length : Nat) : Int))) ?_
  exact R_nil ⟨t0, t2, t4, t8, rfl, rfl, h4, trivial⟩
 intro T H ⟨t0, t2, t4, t8, t9, t10, h4, _⟩
 refine W_seq_blockg fun Q1 n1 x1 y1 z1 => ?_
 refine W_loop (fun mm T H => ∃ (i : Nat) (j : Nat), mm = j - i ∧ T 0 = (V.sl (List.map cT (l))) ∧ T 2 = (V.fn 79 [] []) ∧ T 4 = (V.mp 4 1 0 0) ∧ T 8 = (iV ((l.length : Nat) : Int)) ∧ T 9 = (iV ((i : Nat) : Int)) ∧ T 10 = (iV ((j : Nat) : Int)) ∧ H 4 = (⟨1, true, false, 63, 2, [[(V.sl (List.map cI (t.ni))), (V.sl (List.map cI (t.no)))]]⟩ : Blk) ∧ (i ≤ lbN l t) ∧ (lbN l t ≤ j) ∧ (j ≤ l.length)) ?_ ?_
 ·
  refine ⟨_, 0, l.length, rfl, t0, t2, t4, t8, (Eq.trans t9 (by first | rfl | simp)), t10, h4, ?_, ?_, ?_⟩
  · omega
  · omega
  · omega
 intro mm T H ⟨i, j, hmm, t0, t2, t4, t8, t9, t10, h4, h1, h2, h3⟩ Q2 p12 p22 p32
 unfold b118_0
 refine W_seq_seq ?_
 refine W_seq_regc (fun T H => T 0 = (V.sl (List.map cT (l))) ∧ T 2 = (V.fn 79 [] []) ∧ T 4 = (V.mp 4 1 0 0) ∧ T 8 = (iV ((l.length : Nat) : Int)) ∧ T 9 = (iV ((i : Nat) : Int)) ∧ T 10 = (iV ((j : Nat) : Int)) ∧ T 17 = (V.bool (decide (((i : Nat) : Int) < ((j : Nat) : Int)))) ∧ H 4 = (⟨1, true, false, 63, 2, [[(V.sl (List.map cI (t.ni))), (V.sl (List.map cI (t.no)))]]⟩ : Blk) ∧ True) ?_ ?_
 ·
  unfold r118_3
  refine R_mv t9 ?_
  refine R_mv t10 ?_
  refine R_lss (x := ((i : Nat) : Int)) (y := ((j : Nat) : Int)) (@rfl V (iV ((i : Nat) : Int))) (@rfl V (iV ((j : Nat) : Int))) ?_
  exact R_nil ⟨t0, t2, t4, t8, t9, t10, rfl, h4, trivial⟩
 intro T H ⟨t0, t2, t4, t8, t9, t10, t17, h4, _⟩
 refine W_seq_if (p := ((i : Nat) : Int) < ((j : Nat) : Int)) t17 (fun c3 => ?_) (fun c3 => ?_)
 ·
  refine W_seq_skip ?_
  refine W_block fun Q4 n4 x4 y4 z4 => ?_
  refine W_seq_regc (fun T H => T 0 = (V.sl (List.map cT (l))) ∧ T 2 = (V.fn 79 [] []) ∧ T 4 = (V.mp 4 1 0 0) ∧ T 8 = (iV ((l.length : Nat) : Int)) ∧ T 9 = (iV ((i : Nat) : Int)) ∧ T 10 = (iV ((j : Nat) : Int)) ∧ T 11 = (iV (((i + j) / 2 : Nat) : Int)) ∧ H 4 = (⟨1, true, false, 63, 2, [[(V.sl (List.map cI (t.ni))), (V.sl (List.map cI (t.no)))]]⟩ : Blk) ∧ True) ?_ ?_
  ·
   unfold r118_4
   refine R_mv t9 ?_
   refine R_mv t10 ?_
   refine R_addN (m := i) (n := j) (@rfl V (iV ((i : Nat) : Int))) (@rfl V (iV ((j : Nat) : Int))) (by omega) ?_
   refine R_convU (n := (i + j)) (@rfl V (iV ((i + j : Nat) : Int))) (by omega) ?_
   refine R_shr1 (n := (i + j)) (@rfl V (V.int .u64 (((i + j : Nat) : Int)))) (@rfl V (V.int .u64 (1))) ?_
   refine R_convI (n := ((i + j) / 2)) (@rfl V (V.int .u64 ((((i + j) / 2 : Nat) : Int)))) (by omega) ?_
   refine R_mv (@rfl V (iV (((i + j) / 2 : Nat) : Int))) ?_
   exact R_nil ⟨t0, t2, t4, t8, t9, t10, rfl, h4, trivial⟩
  intro T H ⟨t0, t2, t4, t8, t9, t10, t11, h4, _⟩
  refine W_seq_regc (fun T H => T 0 = (V.sl (List.map cT (l))) ∧ T 2 = (V.fn 79 [] []) ∧ T 4 = (V.mp 4 1 0 0) ∧ T 8 = (iV ((l.length : Nat) : Int)) ∧ T 9 = (iV ((i : Nat) : Int)) ∧ T 10 = (iV ((j : Nat) : Int)) ∧ T 11 = (iV (((i + j) / 2 : Nat) : Int)) ∧ T 31 = (V.bool (decide ((slx ((nth (l) ((i + j) / 2))).ni t.ni) < (0 : Int)))) ∧ H 4 = (⟨1, true, false, 63, 2, [[(V.sl (List.map cI (t.ni))), (V.sl (List.map cI (t.no)))]]⟩ : Blk) ∧ True) ?_ ?_
  ·
   unfold r118_5
   refine R_mv t2 ?_
   refine R_mv t0 ?_
   refine R_mv t11 ?_
   refine R_idx (i := ((i + j) / 2)) (@rfl V (V.sl (List.map cT (l)))) (@rfl V (iV (((i + j) / 2 : Nat) : Int))) (by omega) rfl ?_
   refine R_load_pp (v := (V.agg [(V.sl (List.map cI ((nth (l) ((i + j) / 2)).ni))), (V.sl (List.map cI ((nth (l) ((i + j) / 2)).no)))])) (@rfl V (V.pp [(V.sl (List.map cI ((nth (l) ((i + j) / 2)).ni))), (V.sl (List.map cI ((nth (l) ((i + j) / 2)).no)))])) (by first | rfl | simp [ldV]) ?_
   refine R_load_mp (v := (V.agg [(V.sl (List.map cI (t.ni))), (V.sl (List.map cI (t.no)))])) t4 h4 (by first | rfl | simp [ldB, ldV, Blk.own, V.one]) ?_
   refine R_callv (@rfl V (V.fn 79 [] [])) (evcons (@rfl V (V.agg [(V.sl (List.map cI ((nth (l) ((i + j) / 2)).ni))), (V.sl (List.map cI ((nth (l) ((i + j) / 2)).no)))])) (evcons (@rfl V (V.agg [(V.sl (List.map cI (t.ni))), (V.sl (List.map cI (t.no)))])) evnil)) (order_pure ((nth (l) ((i + j) / 2))) t) (fzv_mapcanon _ _ (by simp [-List.map_take, -List.map_drop, -List.map_append, -List.map_reverse])) (by simp [-List.map_take, -List.map_drop, -List.map_append, -List.map_reverse]) (Or.inl (by simp [-List.map_take, -List.map_drop, -List.map_append, -List.map_reverse])) ?_
   refine R_lss (x := (slx ((nth (l) ((i + j) / 2))).ni t.ni)) (y := (0 : Int)) (@rfl V (iV (slx ((nth (l) ((i + j) / 2))).ni t.ni))) (@rfl V (iV (0 : Int))) ?_
   exact R_nil ⟨t0, t2, t4, t8, t9, t10, t11, rfl, h4, trivial⟩
  intro T H ⟨t0, t2, t4, t8, t9, t10, t11, t31, h4, _⟩
  refine W_if (p := (slx ((nth (l) ((i + j) / 2))).ni t.ni) < (0 : Int)) t31 (fun c5 => ?_) (fun c5 => ?_)
  ·
   have d1 := (lb_iff hs (by omega)).1 c5
   refine W_regc (fun T H => T 0 = (V.sl (List.map cT (l))) ∧ T 2 = (V.fn 79 [] []) ∧ T 4 = (V.mp 4 1 0 0) ∧ T 8 = (iV ((l.length : Nat) : Int)) ∧ T 9 = (iV ((((i + j) / 2) + 1 : Nat) : Int)) ∧ T 10 = (iV ((j : Nat) : Int)) ∧ H 4 = (⟨1, true, false, 63, 2, [[(V.sl (List.map cI (t.ni))), (V.sl (List.map cI (t.no)))]]⟩ : Blk) ∧ True) ?_ ?_
   ·
    unfold r118_6
    refine R_mv t11 ?_
    refine R_addN (m := ((i + j) / 2)) (n := 1) (@rfl V (iV (((i + j) / 2 : Nat) : Int))) (@rfl V (iV ((1 : Nat) : Int))) (by omega) ?_
    refine R_mv (@rfl V (iV ((((i + j) / 2) + 1 : Nat) : Int))) ?_
    exact R_nil ⟨t0, t2, t4, t8, rfl, t10, h4, trivial⟩
   intro T H ⟨t0, t2, t4, t8, t9, t10, h4, _⟩
   refine n4 _ _ ?_
   refine p12 _ _ _ ?_ ⟨(((i + j) / 2) + 1), j, rfl, t0, t2, t4, t8, (Eq.trans t9 (by first | rfl | simp)), t10, h4, ?_, ?_, ?_⟩
   · omega
   · omega
   · omega
   · omega
  have d1 : ¬((i + j) / 2 < lbN l t) := fun e => c5 ((lb_iff hs (by omega)).2 e)
  refine W_regc (fun T H => T 0 = (V.sl (List.map cT (l))) ∧ T 2 = (V.fn 79 [] []) ∧ T 4 = (V.mp 4 1 0 0) ∧ T 8 = (iV ((l.length : Nat) : Int)) ∧ T 9 = (iV ((i : Nat) : Int)) ∧ T 10 = (iV (((i + j) / 2 : Nat) : Int)) ∧ H 4 = (⟨1, true, false, 63, 2, [[(V.sl (List.map cI (t.ni))), (V.sl (List.map cI (t.no)))]]⟩ : Blk) ∧ True) ?_ ?_
  ·
   unfold r118_7
   refine R_mv t11 ?_
   refine R_mv (@rfl V (iV (((i + j) / 2 : Nat) : Int))) ?_
   exact R_nil ⟨t0, t2, t4, t8, t9, rfl, h4, trivial⟩
  intro T H ⟨t0, t2, t4, t8, t9, t10, h4, _⟩
  refine n4 _ _ ?_
  refine p12 _ _ _ ?_ ⟨i, ((i + j) / 2), rfl, t0, t2, t4, t8, t9, (Eq.trans t10 (by first | rfl | simp)), h4, ?_, ?_, ?_⟩
  · omega
  · omega
  · omega
  · omega
 refine W_seq_exit ?_
 refine p32 _ _ _ ?_
 refine x1 _ _ ?_
 refine .done ?_
 refine W_seq_regc (fun T H => T 6 = (iV ((i : Nat) : Int)) ∧ T 7 = (V.bool (decide ((((i : Nat) : Int) < ((l.length : Nat) : Int)) ∧ ((slx ((nth (l) (i))).ni t.ni) = (0 : Int))))) ∧ H 4 = (⟨1, true, false, 63, 2, [[(V.sl (List.map cI (t.ni))), (V.sl (List.map cI (t.no)))]]⟩ : Blk) ∧ True) ?_ ?_
 ·
  unfold r118_8
  refine R_mv t9 ?_
  refine R_mv t9 ?_
  refine R_mv t8 ?_
  refine R_lss (x := ((i : Nat) : Int)) (y := ((l.length : Nat) : Int)) (@rfl V (iV ((i : Nat) : Int))) (@rfl V (iV ((l.length : Nat) : Int))) ?_
  refine R_mv (@rfl V (V.bool (decide (((i : Nat) : Int) < ((l.length : Nat) : Int))))) ?_
  refine Ops_seg 9 (fun T H => T 35 = (iV ((i : Nat) : Int)) ∧ T 48 = (V.bool (decide ((((i : Nat) : Int) < ((l.length : Nat) : Int)) ∧ ((slx ((nth (l) (i))).ni t.ni) = (0 : Int))))) ∧ H 4 = (⟨1, true, false, 63, 2, [[(V.sl (List.map cI (t.ni))), (V.sl (List.map cI (t.no)))]]⟩ : Blk) ∧ True) ?_ ?_
  ·
   by_cases g6 : ((i : Nat) : Int) < ((l.length : Nat) : Int)
   ·
    refine G_yes (Eq.trans (@rfl V (V.bool (decide (((i : Nat) : Int) < ((l.length : Nat) : Int))))) (bdT g6)) ?_
    refine R_mv t2 ?_
    refine G_yes (Eq.trans (@rfl V (V.bool (decide (((i : Nat) : Int) < ((l.length : Nat) : Int))))) (bdT g6)) ?_
    refine R_mv t0 ?_
    refine G_yes (Eq.trans (@rfl V (V.bool (decide (((i : Nat) : Int) < ((l.length : Nat) : Int))))) (bdT g6)) ?_
    refine R_mv t9 ?_
    refine G_yes (Eq.trans (@rfl V (V.bool (decide (((i : Nat) : Int) < ((l.length : Nat) : Int))))) (bdT g6)) ?_
    refine R_idx (i := i) (@rfl V (V.sl (List.map cT (l)))) (@rfl V (iV ((i : Nat) : Int))) (by omega) rfl ?_
    refine G_yes (Eq.trans (@rfl V (V.bool (decide (((i : Nat) : Int) < ((l.length : Nat) : Int))))) (bdT g6)) ?_
    refine R_load_pp (v := (V.agg [(V.sl (List.map cI ((nth (l) (i)).ni))), (V.sl (List.map cI ((nth (l) (i)).no)))])) (@rfl V (V.pp [(V.sl (List.map cI ((nth (l) (i)).ni))), (V.sl (List.map cI ((nth (l) (i)).no)))])) (by first | rfl | simp [ldV]) ?_
    refine G_yes (Eq.trans (@rfl V (V.bool (decide (((i : Nat) : Int) < ((l.length : Nat) : Int))))) (bdT g6)) ?_
    refine R_load_mp (v := (V.agg [(V.sl (List.map cI (t.ni))), (V.sl (List.map cI (t.no)))])) t4 h4 (by first | rfl | simp [ldB, ldV, Blk.own, V.one]) ?_
    refine G_yes (Eq.trans (@rfl V (V.bool (decide (((i : Nat) : Int) < ((l.length : Nat) : Int))))) (bdT g6)) ?_
    refine R_callv (@rfl V (V.fn 79 [] [])) (evcons (@rfl V (V.agg [(V.sl (List.map cI ((nth (l) (i)).ni))), (V.sl (List.map cI ((nth (l) (i)).no)))])) (evcons (@rfl V (V.agg [(V.sl (List.map cI (t.ni))), (V.sl (List.map cI (t.no)))])) evnil)) (order_pure ((nth (l) (i))) t) (fzv_mapcanon _ _ (by simp [-List.map_take, -List.map_drop, -List.map_append, -List.map_reverse])) (by simp [-List.map_take, -List.map_drop, -List.map_append, -List.map_reverse]) (Or.inl (by simp [-List.map_take, -List.map_drop, -List.map_append, -List.map_reverse])) ?_
    refine G_yes (Eq.trans (@rfl V (V.bool (decide (((i : Nat) : Int) < ((l.length : Nat) : Int))))) (bdT g6)) ?_
    refine R_eql (x := (slx ((nth (l) (i))).ni t.ni)) (y := (0 : Int)) (@rfl V (iV (slx ((nth (l) (i))).ni t.ni))) (@rfl V (iV (0 : Int))) ?_
    refine R_pickT (Eq.trans (@rfl V (V.bool (decide (((i : Nat) : Int) < ((l.length : Nat) : Int))))) (bdT g6)) (@rfl V (V.bool (decide ((slx ((nth (l) (i))).ni t.ni) = (0 : Int))))) ?_
    exact ⟨rfl, (Eq.trans (@rfl V (V.bool (decide ((slx ((nth (l) (i))).ni t.ni) = (0 : Int))))) (dec_andT g6)), h4, trivial⟩
   ·
    refine G_no (Eq.trans (@rfl V (V.bool (decide (((i : Nat) : Int) < ((l.length : Nat) : Int))))) (bdF g6)) (by decide) ?_
    refine G_no (Eq.trans (@rfl V (V.bool (decide (((i : Nat) : Int) < ((l.length : Nat) : Int))))) (bdF g6)) (by decide) ?_
    refine G_no (Eq.trans (@rfl V (V.bool (decide (((i : Nat) : Int) < ((l.length : Nat) : Int))))) (bdF g6)) (by decide) ?_
    refine G_no (Eq.trans (@rfl V (V.bool (decide (((i : Nat) : Int) < ((l.length : Nat) : Int))))) (bdF g6)) (by decide) ?_
    refine G_no (Eq.trans (@rfl V (V.bool (decide (((i : Nat) : Int) < ((l.length : Nat) : Int))))) (bdF g6)) (by decide) ?_
    refine G_no (Eq.trans (@rfl V (V.bool (decide (((i : Nat) : Int) < ((l.length : Nat) : Int))))) (bdF g6)) (by decide) ?_
    refine G_no (Eq.trans (@rfl V (V.bool (decide (((i : Nat) : Int) < ((l.length : Nat) : Int))))) (bdF g6)) (by decide) ?_
    refine G_no (Eq.trans (@rfl V (V.bool (decide (((i : Nat) : Int) < ((l.length : Nat) : Int))))) (bdF g6)) (by decide) ?_
    refine R_pickF (Eq.trans (@rfl V (V.bool (decide (((i : Nat) : Int) < ((l.length : Nat) : Int))))) (bdF g6)) (@rfl V (V.bool false)) ?_
    exact ⟨rfl, (Eq.trans (@rfl V (V.bool false)) (dec_andF g6)), h4, trivial⟩
  intro T H ⟨t35, t48, h4, _⟩
  refine R_mv t35 ?_
  refine R_mv t48 ?_
  exact R_nil ⟨rfl, rfl, h4, trivial⟩
 intro T H ⟨t6, t7, h4, _⟩
 refine W_ret ?_
 refine Ret_2 t6 t7 (fz_int ?_) (fz_bool ?_)
 · have e : i = lbN l t := by omega
   rw [e]
 · have e : i = lbN l t := by omega
   rw [e]; exact decide_eq_decide.2 (by omega)
end Go.Proofs.Ytngkckefanbhgaa

namespace Go.Proofs.Ytngkckefanbhgaa
open Go Go.Proofs Go.Shelf Go.RowKit Go.Lib
structure InsLay (P : Program) (ρ : Ren) (n1 : String) (k bytes : Nat) (z : Value) : Prop where
  mixed : P.follows .mixedOrders = true
  f22 : P.funcs[ρ.f 22]? = some { Body2.n22 ρ with name := n1 }
  ov : ∀ args w, (callFunc (ρ.f 29) args).run P w = ((Extern.SlicesOverlaps.overlaps #[(ρ.t 24), (ρ.t 24)] #[(ρ.t 4)] args).run P w).andThen fun v w' => .ok (.value v) w'
  t0 : P.underlying (ρ.t 0) = some (TypeDesc.tuple #[])
  a0 : ∀ w, (isAgg (ρ.t 0)).run P w = .ok false w
  z0 : ∀ w, (Go.sizeOf (ρ.t 0)).run P w = .ok 1 w
  v0 : ∀ w, (zeroValue (ρ.t 0)).run P w = .ok (Value.tuple #[]) w
  t3 : P.underlying (ρ.t 3) = some (TypeDesc.int IntKind.i64)
  a3 : ∀ w, (isAgg (ρ.t 3)).run P w = .ok false w
  z3 : ∀ w, (Go.sizeOf (ρ.t 3)).run P w = .ok 1 w
  v3 : ∀ w, (zeroValue (ρ.t 3)).run P w = .ok (Value.int IntKind.i64 0) w
  t4 : P.underlying (ρ.t 4) = some (TypeDesc.bool)
  a4 : ∀ w, (isAgg (ρ.t 4)).run P w = .ok false w
  z4 : ∀ w, (Go.sizeOf (ρ.t 4)).run P w = .ok 1 w
  v4 : ∀ w, (zeroValue (ρ.t 4)).run P w = .ok (Value.bool false) w
  z9 : ∀ w, (Go.sizeOf (ρ.t 9)).run P w = .ok k w
  t24 : P.underlying (ρ.t 24) = some (TypeDesc.slice (ρ.t 9))
  a24 : ∀ w, (isAgg (ρ.t 24)).run P w = .ok false w
  z24 : ∀ w, (Go.sizeOf (ρ.t 24)).run P w = .ok 1 w
  v24 : ∀ w, (zeroValue (ρ.t 24)).run P w = .ok (Value.slice none 0 0) w
  i9 : (P.info? (ρ.t 9)).map (fun i => (i.zero, i.size, i.bytes)) = some (some z, k, bytes)
  hk : 0 < k
  hz : z.cells.size = k
variable {P : Program} {ρ : Ren} {n1 : String} {k bytes : Nat} {z : Value}
theorem run_copy_rowk (w : World) (dT sT ty elem : TypeId) (g o dLen dCap : Nat) (a : Addr) (sLen sCap : Nat) (cur : Array Value) (t : TypeId) (cs : List Value) (k : Nat)
    (hu : P.underlying dT = some (.slice elem)) (hs : (P.info? elem).map (·.size) = some k)
    (hg : w.heap[g]? = some (.cells cur t (0, 0))) (hn : cs.length = Nat.min sLen dLen * k)
    (hsrc : ∀ j v, cs[j]? = some v → w.cell? (a.add j) = some v) (hfit : o + cs.length ≤ cur.size) (h1 : ∀ v ∈ cs, v.oneCell' = true) :
    (Builtin.copy_ #[dT, sT] ty #[.slice (some ⟨g, o, none⟩) dLen dCap, .slice (some a) sLen sCap]).run P w =
      .ok (goInt (Nat.min sLen dLen)) (w.setRow g (cur.toList.take o ++ cs ++ cur.toList.drop (o + cs.length)).toArray) := by
  have hl := run_loadCells_list (P := P) w a cs hsrc
  have hst := run_storeCells_at P g o t cs 0 cur w hg (by simpa using hfit) h1
  cases hq : P.info? elem with
  | none => simp [hq] at hs
  | some i =>
    have hi : i.size = k := by simpa [hq] using hs
    simp [Builtin.copy_, run_underlying hu, Builtin.lenOf, Builtin.firstCells, sizeOf, typeInfo, hq, hi, ← hn, hl, hst]
def put (cc : Array Value) (o : Nat) (cs : List Value) : Array Value := (cc.toList.take o ++ cs ++ cc.toList.drop (o + cs.length)).toArray
set_option maxHeartbeats 4000000 in
set_option maxRecDepth 100000 in
theorem ins_shift (L : InsLay P ρ n1 k bytes z) (b n c i vb vc : Nat) (cc cv : Array Value) (tb tv : TypeId) (w : World) (hi : i < n) (hroom : n + 1 ≤ c) (hc63 : c ≤ 9223372036854775807) (hvb : vb ≠ b)
    (hb : w.heap[b]? = some (.cells cc tb (0, 0))) (hv : w.heap[vb]? = some (.cells cv tv (0, 0))) (hcc : c * k = cc.size) (hcv : k ≤ cv.size) (vs : List Value) (hvs : vs = cv.toList.take k)
    (h1c : ∀ v ∈ cc.toList.take (n * k), v.oneCell' = true) (h1v : ∀ v ∈ vs, v.oneCell' = true) :
    Calls P (ρ.f 22) #[.slice (some ⟨b, 0, none⟩) n c, .int .i64 i, .slice (some ⟨vb, 0, none⟩) 1 vc] w fun e w' =>
      e = .returned (.slice (some ⟨b, 0, none⟩) (n + 1) c) ∧ w' = w.drew.setRow b (put (put cc ((i + 1) * k) ((cc.toList.take (n * k)).drop (i * k))) (i * k) vs) := by
  have hk := L.hk
  have hvl : vs.length = k := by rw [hvs, List.length_take, Array.length_toList]; omega
  have t0 := L.t0; have a0 := L.a0; have z0 := L.z0; have v0 := L.v0; have t3 := L.t3; have a3 := L.a3; have z3 := L.z3; have v3 := L.v3; have t4 := L.t4; have a4 := L.a4; have z4 := L.z4; have v4 := L.v4; have z9 := L.z9; have t24 := L.t24; have a24 := L.a24; have z24 := L.z24; have v24 := L.v24
  have u0 := run_underlying L.t0; have u3 := run_underlying L.t3; have u4 := run_underlying L.t4; have u24 := run_underlying L.t24
  have hz2 : ¬ ((i : Int) = (n : Int)) := by omega
  have hsz : (P.info? (ρ.t 9)).map (·.size) = some k := by
    obtain ⟨i0, hi0, h0, h1, h2⟩ := info_parts L.i9
    rw [hi0]; simp [h1]
  have hov : ∀ lb cb, (callFunc (ρ.f 29) #[.slice (some ⟨vb, 0, none⟩) 1 vc, .slice (some ⟨b, (i + 1) * k, none⟩) lb cb]).run P w = .ok (.value (.bool false)) w := fun lb cb => by
    rw [L.ov,
      Lib.run_overlaps_apart w (ρ.t 24) (ρ.t 4) (ρ.t 9) L.t24 k L.z9 ⟨vb, 0, none⟩ ⟨b, (i + 1) * k, none⟩ 1 vc lb cb hvb tv tb cv.size cc.size (by simp [World.shape?, hv]) (by simp [World.shape?, hb]) (by rw [← hcc]; have : 0 < c * k := Nat.mul_pos (by omega) hk; omega) (by simp [World.frozen?, hv]) (by simp [World.frozen?, hv])]
    rfl
  have mixed := L.mixed
  have hw1 : IntKind.i64.wrap ((i : Int) + 1) = (i : Int) + 1 := by rw [IntKind.wrap_i64]; omega
  have hb1 : (0 : Int) ≤ (i : Int) + 1 := by omega
  have hin : i ≤ n := by omega
  have htn : ((i : Int) + 1).toNat = i + 1 := by omega
  have hb2 : ¬ (c = i + 1) := by omega
  have hb3 : (i : Int) ≤ (n : Int) + 1 := by omega
  have hb4 : ¬ (c = i) := by omega
  have hnk : n * k ≤ cc.size := by rw [← hcc]; exact Nat.mul_le_mul_right k (by omega)
  have hn1k : (n + 1) * k ≤ cc.size := by rw [← hcc]; exact Nat.mul_le_mul_right k (by omega)
  have hik : i * k ≤ n * k := Nat.mul_le_mul_right k hin
  obtain ⟨ds, hds⟩ : ∃ ds, ds = (cc.toList.take (n * k)).drop (i * k) := ⟨_, rfl⟩
  have hdl : ds.length = (n - i) * k := by rw [hds, List.length_drop, List.length_take, Array.length_toList, Nat.min_eq_left hnk, Nat.sub_mul]
  rw [← hds]
  have e1 : Nat.min (n + 1 - i) (n - i) = n - i := by simp only [Nat.min_def]; split <;> omega
  have e2 : (i + 1) * k + (n - i) * k = (n + 1) * k := by rw [← Nat.add_mul]; congr 1; omega
  have hcp1 : ∀ ty dc sc, (Builtin.copy_ #[(ρ.t 24), (ρ.t 24)] ty #[.slice (some ⟨b, (i + 1) * k, none⟩) (n - i) dc, .slice (some ⟨b, i * k, none⟩) (n + 1 - i) sc]).run P w.drew = .ok (goInt (n - i : Nat)) (w.drew.setRow b (put cc ((i + 1) * k) ds)) := fun ty dc sc => by
    have h := run_copy_rowk (P := P) w.drew (ρ.t 24) (ρ.t 24) ty (ρ.t 9) b ((i + 1) * k) (n - i) dc ⟨b, i * k, none⟩ (n + 1 - i) sc cc tb ds k L.t24 hsz hb (by rw [hdl, e1])
      (fun j v hj => by
        rw [Addr.add_lit]
        have hj' := hj
        rw [hds, List.getElem?_drop, List.getElem?_take] at hj
        split at hj
        · rw [Array.getElem?_toList] at hj
          simp [World.cell?, show w.drew.heap[b]? = _ from hb, hj]
        · cases hj) (by rw [hdl, e2]; exact hn1k) (fun v hv => h1c v (List.mem_of_mem_drop (hds ▸ hv)))
    rw [e1] at h
    exact h
  have hps : (put cc ((i + 1) * k) ds).size = cc.size := by
    simp only [put, List.size_toArray, List.length_append, List.length_take, List.length_drop, Array.length_toList, hdl, e2]
    omega
  obtain ⟨W1, hW1⟩ : ∃ W1, W1 = w.drew.setRow b (put cc ((i + 1) * k) ds) := ⟨_, rfl⟩
  have hB1 : W1.heap[b]? = some (.cells (put cc ((i + 1) * k) ds) tb (0, 0)) := by rw [hW1]; exact setRow_heap w.drew b cc _ tb _ hb
  have hV1 : W1.heap[vb]? = some (.cells cv tv (0, 0)) := by rw [hW1, setRow_other w.drew b vb _ hvb]; exact hv
  have hcp2 : ∀ ty dc, (Builtin.copy_ #[(ρ.t 24), (ρ.t 24)] ty #[.slice (some ⟨b, i * k, none⟩) (n + 1 - i) dc, .slice (some ⟨vb, 0, none⟩) 1 vc]).run P W1 = .ok (goInt (1 : Nat)) (W1.setRow b (put (put cc ((i + 1) * k) ds) (i * k) vs)) := fun ty dc => by
    have e3 : Nat.min 1 (n + 1 - i) = 1 := by simp only [Nat.min_def]; split <;> omega
    have h := run_copy_rowk (P := P) W1 (ρ.t 24) (ρ.t 24) ty (ρ.t 9) b (i * k) (n + 1 - i) dc ⟨vb, 0, none⟩ 1 vc _ tb vs k L.t24 hsz hB1 (by rw [e3, hvl, Nat.one_mul])
      (fun j v hj => by
        rw [Addr.add_lit]
        rw [hvs, List.getElem?_take] at hj
        split at hj
        · rw [Array.getElem?_toList] at hj
          simp [World.cell?, hV1, hj]
        · cases hj) (by rw [hps, hvl]; have : (i + 1) * k ≤ (n + 1) * k := Nat.mul_le_mul_right k (by omega); rw [Nat.add_mul, Nat.one_mul] at this; omega) h1v
    rw [e3] at h
    exact h
  have hfin : W1.setRow b (put (put cc ((i + 1) * k) ds) (i * k) vs) = w.drew.setRow b (put (put cc ((i + 1) * k) ds) (i * k) vs) := by rw [hW1, setRow_setRow]
  rw [← hW1] at hcp1
  clear hW1 hds e1 e2 hvs
  go_enter L.f22, Body2.n22_ntmps ρ
  go_wp2_with (simp only [hov])
  go_region_law_o (refine step_copy_runI rfl _ _ (ρ.t 24) (ρ.t 24) rfl _ _ (by simp [Act.eval, Act.put]) (by simp [Act.eval, Act.put]) (hcp1 _ _ _) ?_)
  go_wp2_with (at_builtin; refine wpList_copy_runI _ rfl _ _ (ρ.t 24) (ρ.t 24) rfl _ _ rfl rfl (hcp2 _ _) ?_)
  go_ret
  first | exact ⟨rfl, rfl⟩ | exact ⟨rfl, hfin⟩
theorem alloc_setRow (w : World) (a b : Array Value) (e : TypeId) : (w.alloc (.cells a e)).setRow w.heap.size b = w.alloc (.cells b e) := by
  have h : (w.alloc (.cells a e)).heap[w.heap.size]? = some (.cells a e (0, 0)) := heap_push_eq _ _
  unfold World.setRow World.alloc
  congr 1
  refine Array.ext_getElem? fun j => ?_
  rw [Array.getElem?_modify]
  split
  · rename_i hj
    subst hj
    simp [Obj.cells]
  · rename_i hj
    simp only [Array.getElem?_push]
    rw [if_neg (fun x => hj x.symm), if_neg (fun x => hj x.symm)]
set_option maxHeartbeats 4000000 in
set_option maxRecDepth 100000 in
theorem ins_grow (L : InsLay P ρ n1 k bytes z) (b n c i vb vc : Nat) (cc cv : Array Value) (tb tv : TypeId) (w : World) (hi : i < n) (hnc : n ≤ c) (hroom : c < n + 1) (hc63 : c < 9223372036854775807) (hbig : (n + 1) * bytes ≤ 140737488355328)
    (hb : w.heap[b]? = some (.cells cc tb (0, 0))) (hv : w.heap[vb]? = some (.cells cv tv (0, 0))) (hcc : c * k = cc.size) (hcv : k ≤ cv.size) (vs : List Value) (hvs : vs = cv.toList.take k)
    (h1c : ∀ v ∈ cc.toList.take (n * k), v.oneCell' = true) (h1v : ∀ v ∈ vs, v.oneCell' = true) :
    Calls P (ρ.f 22) #[.slice (some ⟨b, 0, none⟩) n c, .int .i64 i, .slice (some ⟨vb, 0, none⟩) 1 vc] w fun e w' =>
      ∃ G R, R.size = G * k ∧ n + 1 ≤ G ∧ G ≤ maxLen ∧ e = .returned (.slice (some ⟨w.heap.size, 0, none⟩) (n + 1) G) ∧ w' = w.drew.drew.alloc (.cells (put (put R (i * k) vs) ((i + 1) * k) ((cc.toList.take (n * k)).drop (i * k))) (ρ.t 9)) ∧ R.toList.take (i * k) = cc.toList.take (i * k) := by
  have hk := L.hk; have hzl := L.hz
  have hvl : vs.length = k := by rw [hvs, List.length_take, Array.length_toList]; omega
  have t0 := L.t0; have a0 := L.a0; have z0 := L.z0; have v0 := L.v0; have t3 := L.t3; have a3 := L.a3; have z3 := L.z3; have v3 := L.v3; have t4 := L.t4; have a4 := L.a4; have z4 := L.z4; have v4 := L.v4; have z9 := L.z9; have t24 := L.t24; have a24 := L.a24; have z24 := L.z24; have v24 := L.v24
  have u0 := run_underlying L.t0; have u3 := run_underlying L.t3; have u4 := run_underlying L.t4; have u24 := run_underlying L.t24
  have mixed := L.mixed
  obtain ⟨i0, hi0, hz0, hzs, hzb⟩ := info_parts L.i9
  have hz2 : ¬ ((i : Int) = (n : Int)) := by omega
  have hz3 : (c : Int) < (n : Int) + 1 := by omega
  have hsz : (P.info? (ρ.t 9)).map (·.size) = some k := by rw [hi0]; simp [hzs]
  have hbw : b < w.heap.size := (Array.getElem?_eq_some_iff.1 hb).1
  have hvw : vb < w.heap.size := (Array.getElem?_eq_some_iff.1 hv).1
  have hkk : (n : Int) + 1 - (i : Int) = ((n + 1 - i : Nat) : Int) := by omega
  have hik : i + (n + 1 - i) = n + 1 := by omega
  have hnk : n * k ≤ cc.size := by rw [← hcc]; exact Nat.mul_le_mul_right k (by omega)
  have hikn : i * k ≤ n * k := Nat.mul_le_mul_right k (by omega)
  have hold : (Builtin.firstCells i0.size i (.slice (some ⟨b, 0, none⟩) i c)).run P w.drew = .ok (cc.toList.take (i * k)).toArray w.drew := by
    rw [hzs]
    exact run_firstCells_some w.drew k i ⟨b, 0, none⟩ i c (cc.toList.take (i * k)) (by rw [List.length_take, Array.length_toList]; omega) (fun j v hj => by
      rw [Addr.add_lit]
      rw [List.getElem?_take] at hj
      split at hj
      · rw [Array.getElem?_toList] at hj
        simp [World.cell?, show w.drew.heap[b]? = _ from hb, hj]
      · cases hj)
  have hrz : ∀ ty, (Builtin.append_ #[(ρ.t 24), (ρ.t 3)] ty #[.slice (some ⟨b, 0, none⟩) i c, .int .i64 ((n : Int) + 1 - (i : Int))]).run P w =
      .ok (.slice (some ⟨w.heap.size, 0, none⟩) (n + 1) (grownCap w (n + 1) c (ρ.t 9))) (w.drew.alloc (.cells ((cc.toList.take (i * k)).toArray ++ Builtin.zeroCells z.cells (n + 1 - i) ++ Builtin.zeroCells z.cells (grownCap w (n + 1) c (ρ.t 9) - (n + 1))) (ρ.t 9))) := fun ty => by
    have h := Lib.run_append_grow_zeros w (ρ.t 24) (ρ.t 3) ty (ρ.t 9) i0 _ .i64 .i64 L.t24 L.t3 hi0 hz0 (some ⟨b, 0, none⟩) i c _ hold (n + 1 - i) (by omega) (by omega) (by omega) (by omega) (by rw [hzb]; have : (n + 1 - i) * bytes ≤ (n + 1) * bytes := Nat.mul_le_mul_right _ (by omega); omega) (by rw [hzb, hik]; exact growslice_fits hroom hbig)
    rw [hik] at h
    rw [hkk]
    exact h
  have hGn : n + 1 ≤ grownCap w (n + 1) c (ρ.t 9) := grownCap_ge w _ _ _
  have hGm : grownCap w (n + 1) c (ρ.t 9) ≤ maxLen := grownCap_le_maxLen w (n + 1) c (ρ.t 9) (by unfold maxLen; omega)
  obtain ⟨G, hG⟩ : ∃ G, G = grownCap w (n + 1) c (ρ.t 9) := ⟨_, rfl⟩
  rw [← hG] at hGn hGm
  obtain ⟨ROW, hROW⟩ : ∃ ROW : Array Value, ROW = (cc.toList.take (i * k)).toArray ++ Builtin.zeroCells z.cells (n + 1 - i) ++ Builtin.zeroCells z.cells (G - (n + 1)) := ⟨_, rfl⟩
  rw [← hG] at hrz
  rw [← hROW] at hrz
  have hRl : ROW.size = G * k := by
    rw [hROW]
    simp only [Array.size_append, List.size_toArray, List.length_take, Array.length_toList, size_zeroCells, hzl, Nat.min_eq_left (show i * k ≤ cc.size by omega), ← Nat.add_mul]
    congr 1; omega
  have hRt : ROW.toList.take (i * k) = cc.toList.take (i * k) := by
    rw [hROW]
    simp only [Array.toList_append, List.append_assoc]
    rw [List.take_append_of_le_length (by simp; omega), List.take_take, Nat.min_self]
  have hG63 : G ≤ 9223372036854775807 := by unfold maxLen at hGm; omega
  have hGi : ¬ (G = i) := by omega
  have hGim : ¬ (G = i + 1) := by omega
  have hci : ¬ (c = i) := by omega
  have hn1G : (n + 1) * k ≤ G * k := Nat.mul_le_mul_right k hGn
  obtain ⟨ds, hds⟩ : ∃ ds, ds = (cc.toList.take (n * k)).drop (i * k) := ⟨_, rfl⟩
  have hdl : ds.length = (n - i) * k := by rw [hds, List.length_drop, List.length_take, Array.length_toList, Nat.min_eq_left hnk, Nat.sub_mul]
  rw [← hds]
  have e1 : Nat.min (n - i) (n - i) = n - i := Nat.min_self _
  have e2 : (i + 1) * k + (n - i) * k = (n + 1) * k := by rw [← Nat.add_mul]; congr 1; omega
  have e4 : i * k + k ≤ (n + 1) * k := by have : (i + 1) * k ≤ (n + 1) * k := Nat.mul_le_mul_right k (by omega); rw [Nat.add_mul, Nat.one_mul] at this; exact this
  obtain ⟨W1, hW1⟩ : ∃ W1, W1 = w.drew.alloc (.cells ROW (ρ.t 9)) := ⟨_, rfl⟩
  have hcpA : ∀ (W : World), W.heap = W1.heap → ∀ ty dc, (Builtin.copy_ #[(ρ.t 24), (ρ.t 24)] ty #[.slice (some ⟨w.heap.size, i * k, none⟩) (n + 1 - i) dc, .slice (some ⟨vb, 0, none⟩) 1 vc]).run P W = .ok (goInt (1 : Nat)) (W.setRow w.heap.size (put ROW (i * k) vs)) := fun W hW ty dc => by
    have e3 : Nat.min 1 (n + 1 - i) = 1 := by simp only [Nat.min_def]; split <;> omega
    have hN : W.heap[w.heap.size]? = some (.cells ROW (ρ.t 9) (0, 0)) := by rw [hW, hW1]; exact heap_push_eq w.drew _
    have hV : W.heap[vb]? = some (.cells cv tv (0, 0)) := by rw [hW, hW1, heap_push_lt w.drew _ hvw]; exact hv
    have h := run_copy_rowk (P := P) W (ρ.t 24) (ρ.t 24) ty (ρ.t 9) w.heap.size (i * k) (n + 1 - i) dc ⟨vb, 0, none⟩ 1 vc ROW (ρ.t 9) vs k L.t24 hsz hN (by rw [e3, hvl, Nat.one_mul])
      (fun j v hj => by
        rw [Addr.add_lit]
        rw [hvs, List.getElem?_take] at hj
        split at hj
        · rw [Array.getElem?_toList] at hj
          simp [World.cell?, hV, hj]
        · cases hj) (by rw [hRl, hvl]; omega) h1v
    rw [e3] at h
    exact h
  have hps : (put ROW (i * k) vs).size = ROW.size := by
    simp only [put, List.size_toArray, List.length_append, List.length_take, List.length_drop, Array.length_toList, hvl]
    omega
  have hcpB : ∀ (W : World), W.heap = (W1.setRow w.heap.size (put ROW (i * k) vs)).heap → ∀ ty dc sc, (Builtin.copy_ #[(ρ.t 24), (ρ.t 24)] ty #[.slice (some ⟨w.heap.size, (i + 1) * k, none⟩) (n - i) dc, .slice (some ⟨b, i * k, none⟩) (n - i) sc]).run P W = .ok (goInt (n - i : Nat)) (W.setRow w.heap.size (put (put ROW (i * k) vs) ((i + 1) * k) ds)) := fun W hW ty dc sc => by
    have hN : W.heap[w.heap.size]? = some (.cells (put ROW (i * k) vs) (ρ.t 9) (0, 0)) := by
      rw [hW, hW1]; exact setRow_heap _ _ ROW _ (ρ.t 9) _ (heap_push_eq w.drew _)
    have hB : W.heap[b]? = some (.cells cc tb (0, 0)) := by
      rw [hW, hW1, setRow_other _ _ b _ (by omega), heap_push_lt w.drew _ hbw]; exact hb
    have h := run_copy_rowk (P := P) W (ρ.t 24) (ρ.t 24) ty (ρ.t 9) w.heap.size ((i + 1) * k) (n - i) dc ⟨b, i * k, none⟩ (n - i) sc _ (ρ.t 9) ds k L.t24 hsz hN (by rw [hdl, e1])
      (fun j v hj => by
        rw [Addr.add_lit]
        rw [hds, List.getElem?_drop, List.getElem?_take] at hj
        split at hj
        · rw [Array.getElem?_toList] at hj
          simp [World.cell?, hB, hj]
        · cases hj) (by rw [hdl, e2, hps, hRl]; exact hn1G) (fun v hv => h1c v (List.mem_of_mem_drop (hds ▸ hv)))
    rw [e1] at h
    exact h
  subst hW1
  have hw1 : IntKind.i64.wrap ((i : Int) + 1) = (i : Int) + 1 := by rw [IntKind.wrap_i64]; omega
  have hb1 : (0 : Int) ≤ (i : Int) + 1 := by omega
  have hin : i ≤ n := by omega
  have htn : ((i : Int) + 1).toNat = i + 1 := by omega
  have hb3 : (i : Int) ≤ (n : Int) := by omega
  have hE1 : ((w.alloc (.cells ROW (ρ.t 9))).drew).heap = (w.drew.alloc (.cells ROW (ρ.t 9))).heap := rfl
  have hF1 : (((w.alloc (.cells ROW (ρ.t 9))).drew.setRow w.heap.size (put ROW (i * k) vs)).drew).heap = ((w.drew.alloc (.cells ROW (ρ.t 9))).setRow w.heap.size (put ROW (i * k) vs)).heap := rfl
  have hcall : Calls P (ρ.f 22) #[.slice (some ⟨b, 0, none⟩) n c, .int .i64 i, .slice (some ⟨vb, 0, none⟩) 1 vc] w fun e w' => e = .returned (.slice (some ⟨w.heap.size, 0, none⟩) (n + 1) G) ∧ w' = (((w.alloc (.cells ROW (ρ.t 9))).drew.setRow w.heap.size (put ROW (i * k) vs)).drew).setRow w.heap.size (put (put ROW (i * k) vs) ((i + 1) * k) ds) := by
    clear hkk hik hold hROW hG hRl hds e1 e2 e4 hRt hvs
    go_enter L.f22, Body2.n22_ntmps ρ
    go_wp2_with (first
      | (at_builtin; refine Lib.wpList_append_run _ rfl _ _ _ _ rfl _ _ rfl rfl _ _ (hrz _) ?_)
      | (at_builtin; refine wpList_copy_runI _ rfl _ _ (ρ.t 24) (ρ.t 24) rfl _ _ rfl rfl (hcpA _ hE1 _ _) ?_)
      | (at_builtin; refine wpList_copy_runI _ rfl _ _ (ρ.t 24) (ρ.t 24) rfl _ _ rfl rfl (hcpB _ hF1 _ _ _) ?_))
    go_region_law_o (refine step_copy_runI rfl _ _ (ρ.t 24) (ρ.t 24) rfl (.slice (some ⟨w.heap.size, (i + 1) * k, none⟩) (n - i) (G - (i + 1))) (.slice (some ⟨b, i * k, none⟩) (n - i) (c - i)) (by simp [Act.eval, Act.put]) (by simp [Act.eval, Act.put]) (hcpB _ hF1 (ρ.t 3) (G - (i + 1)) (c - i)) ?_)
    go_wp2
    go_ret
    exact ⟨rfl, rfl⟩
  refine hcall.mono fun e w' h => ?_
  obtain ⟨rfl, rfl⟩ := h
  refine ⟨G, ROW, hRl, hGn, hGm, rfl, ?_, hRt⟩
  have q := alloc_setRow w ROW (put ROW (i * k) vs) (ρ.t 9)
  have q2 := alloc_setRow w (put ROW (i * k) vs) (put (put ROW (i * k) vs) ((i + 1) * k) ds) (ρ.t 9)
  have q3 : (((w.alloc (.cells ROW (ρ.t 9))).drew.setRow w.heap.size (put ROW (i * k) vs)).drew).setRow w.heap.size (put (put ROW (i * k) vs) ((i + 1) * k) ds) = ((((w.alloc (.cells ROW (ρ.t 9))).setRow w.heap.size (put ROW (i * k) vs))).setRow w.heap.size (put (put ROW (i * k) vs) ((i + 1) * k) ds)).drew.drew := rfl
  rw [q3, q, q2]
  rfl
set_option maxHeartbeats 4000000 in
set_option maxRecDepth 100000 in
theorem ins_end (L : InsLay P ρ n1 k bytes z) (b n c vb vc : Nat) (w w' : World) (v : Value) (hnc : n ≤ c)
    (hr : ∀ ty, (Builtin.append_ #[(ρ.t 24), (ρ.t 24)] ty #[.slice (some ⟨b, 0, none⟩) n c, .slice (some ⟨vb, 0, none⟩) 1 vc]).run P w = .ok v w') :
    Calls P (ρ.f 22) #[.slice (some ⟨b, 0, none⟩) n c, .int .i64 n, .slice (some ⟨vb, 0, none⟩) 1 vc] w fun e u => e = .returned v ∧ u = w' := by
  have hk := L.hk
  have t0 := L.t0; have a0 := L.a0; have z0 := L.z0; have v0 := L.v0; have t3 := L.t3; have a3 := L.a3; have z3 := L.z3; have v3 := L.v3; have t4 := L.t4; have a4 := L.a4; have z4 := L.z4; have v4 := L.v4; have z9 := L.z9; have t24 := L.t24; have a24 := L.a24; have z24 := L.z24; have v24 := L.v24
  have u0 := run_underlying L.t0; have u3 := run_underlying L.t3; have u4 := run_underlying L.t4; have u24 := run_underlying L.t24
  have mixed := L.mixed
  go_enter L.f22, Body2.n22_ntmps ρ
  go_wp2_with (at_builtin; refine Lib.wpList_append_run _ rfl _ _ _ _ rfl _ _ rfl rfl _ _ (hr _) ?_)
  all_goals (go_ret; exact ⟨rfl, rfl⟩)
end Go.Proofs.Ytngkckefanbhgaa

namespace Go.Proofs.Ytngkckefanbhgaa
open Go Go.Proofs Go.Shelf Go.Lib
theorem put_get {cc : Array Value} {o : Nat} {cs : List Value} (h : o + cs.length ≤ cc.size) (q : Nat) : (put cc o cs)[q]? = if o ≤ q ∧ q < o + cs.length then cs[q - o]? else cc[q]? := by
  unfold put
  rw [seg_get h]
theorem put_size {cc : Array Value} {o : Nat} {cs : List Value} (h : o + cs.length ≤ cc.size) : (put cc o cs).size = cc.size := by
  simp only [put, List.size_toArray, List.length_append, List.length_take, List.length_drop, Array.length_toList]
  omega
theorem ins_rows {x : Cx} {rows : List (List V)} {row : List V} {k i : Nat} {cc cv F : Array Value} (hsz : ∀ r ∈ rows, r.length = k) (hsz1 : row.length = k) (hi : i ≤ rows.length)
    (hr : ∀ (r : Nat) (row : List V) (j : Nat) (v : V), rows[r]? = some row → row[j]? = some v → R x v (cc.getD (r * k + j) undef))
    (hv : ∀ (j : Nat) (v : V), row[j]? = some v → R x v (cv.getD j undef))
    (ha : ∀ q, q < i * k → F[q]? = cc[q]?) (hb : ∀ q, q < k → F[i * k + q]? = cv[q]?) (hc : ∀ q, q < (rows.length - i) * k → F[(i + 1) * k + q]? = cc[i * k + q]?) :
    ∀ (r : Nat) (row' : List V) (j : Nat) (v : V), (rows.take i ++ row :: rows.drop i)[r]? = some row' → row'[j]? = some v → R x v (F.getD (r * k + j) undef) := by
  intro r row' j v h1 h2
  have hlt : (rows.take i).length = i := by rw [List.length_take]; omega
  rw [List.getElem?_append] at h1
  split at h1
  · rename_i hlt'
    rw [hlt] at hlt'
    rw [List.getElem?_take, if_pos hlt'] at h1
    have hjk : j < k := by rw [← hsz _ (List.mem_of_getElem? h1)]; exact (List.getElem?_eq_some_iff.1 h2).1
    have : r * k + j < i * k := by
      have : (r + 1) * k ≤ i * k := Nat.mul_le_mul_right k hlt'
      rw [Nat.add_mul, Nat.one_mul] at this; omega
    rw [Array.getD_eq_getD_getElem?, ha _ this, ← Array.getD_eq_getD_getElem?]
    exact hr r row' j v h1 h2
  · rename_i hge
    rw [hlt] at h1 hge
    by_cases he : r = i
    · subst he
      rw [Nat.sub_self] at h1
      simp only [List.getElem?_cons_zero, Option.some.injEq] at h1
      subst h1
      have hjk : j < k := by rw [← hsz1]; exact (List.getElem?_eq_some_iff.1 h2).1
      rw [Array.getD_eq_getD_getElem?, hb _ hjk, ← Array.getD_eq_getD_getElem?]
      exact hv j v h2
    · obtain ⟨q, hq⟩ : ∃ q, r - i = q + 1 := ⟨r - i - 1, by omega⟩
      rw [hq, List.getElem?_cons_succ, List.getElem?_drop] at h1
      have hjk : j < k := by rw [← hsz _ (List.mem_of_getElem? h1)]; exact (List.getElem?_eq_some_iff.1 h2).1
      have hql := (List.getElem?_eq_some_iff.1 h1).1
      have hlt2 : q * k + j < (rows.length - i) * k := by
        have : (q + 1) * k ≤ (rows.length - i) * k := Nat.mul_le_mul_right k (by omega)
        rw [Nat.add_mul, Nat.one_mul] at this; omega
      have e1 : r * k + j = (i + 1) * k + (q * k + j) := by rw [← Nat.add_assoc, ← Nat.add_mul]; congr 2; omega
      have e2 : i * k + (q * k + j) = (i + q) * k + j := by rw [Nat.add_mul]; omega
      rw [e1, Array.getD_eq_getD_getElem?, hc _ hlt2, ← Array.getD_eq_getD_getElem?, e2]
      exact hr _ row' j v h1 h2
section
variable {P : Program} {ρ : Ren} {n1 : String} {k bytes : Nat} {z : Value}
theorem ins_full (L : InsLay P ρ n1 k bytes z) {zz : List V} (hzz : zeroOf P (ρ.t 9) = some zz) (hzl : zz.length = k) {x : Cx} (hx : Inv x) {id id2 ver ver2 ty2 i : Nat} {rows : List (List V)} {row : List V} {c0 c2 : Value}
    (hH : x.H id = ⟨ver, true, false, ρ.t 9, k, rows⟩) (hH2 : x.H id2 = ⟨ver2, true, false, ty2, k, [row]⟩) (hne : id ≠ id2) (hi : i ≤ rows.length)
    (hf : fitRows k rows = true) (hf1 : fitRows k [row] = true) (hb : (rows.length + 1) * bytes ≤ 140737488355328) (hm : rows.length + 1 ≤ 9223372036854775807)
    (r0 : R x (.ms id ver 0 rows.length) c0) (r2 : R x (.ms id2 ver2 0 1) c2) :
    Calls P (ρ.f 22) #[c0, .int .i64 i, c2] x.w fun e w' => ∃ c y, e = .returned c ∧ y.w = w' ∧ y.H = upd x.H id ⟨ver + 1, true, false, ρ.t 9, k, rows.take i ++ row :: rows.drop i⟩ ∧ Inv y ∧ R y (.ms id (ver + 1) 0 (rows.length + 1)) c ∧ Frame x y := by
  have hk := L.hk
  have ho : (x.H id).own = true := by rw [hH]; rfl
  have ho2 : (x.H id2).own = true := by rw [hH2]; rfl
  obtain ⟨hsz, hone⟩ := fitRows_spec hf
  obtain ⟨hsz1, hone1⟩ := fitRows_spec hf1
  have r0' := r0; have r2' := r2
  cases r0 with
  | ms _ _ _ _ b n cap hv hh =>
  cases r2 with
  | ms _ _ _ _ b2 m2 cap2 hv2 hh2 =>
  obtain ⟨e1, e2, e3, e4, e5, e6⟩ := hh (by rw [hH]) (by rw [hH])
  obtain ⟨d1, d2, d3, d4, d5, d6⟩ := hh2 (by rw [hH2]) (by rw [hH2])
  obtain ⟨e7, e8⟩ := e5 ho
  obtain ⟨d7, d8⟩ := d5 ho2
  obtain ⟨cc, b1, bb2, bb3, bb4⟩ := hx.blk id ho
  obtain ⟨cv, v1, vv2, vv3, vv4⟩ := hx.blk id2 ho2
  have hrs : rowSize x.w (x.σ id) = cc.size := by unfold rowSize; rw [b1]
  have hrs2 : rowSize x.w (x.σ id2) = cv.size := by unfold rowSize; rw [v1]
  rw [hrs, hH] at e8
  rw [hrs2, hH2] at d8
  rw [hH] at e7 b1 bb3 bb4
  rw [hH2] at d7 v1 vv3 vv4
  simp only [Nat.zero_mul, Nat.zero_add] at e7 d7 e8 d8
  simp only at b1 bb3 bb4 v1 vv3 vv4
  subst e1; subst d1; subst e7; subst d7
  have hvb : x.σ id2 ≠ x.σ id := fun e => hne (hx.inj id id2 ho ho2 e.symm)
  have hcv : k ≤ cv.size := by simpa using vv3
  have hsz1' : row.length = k := hsz1 row (by simp)
  have hrow : ∀ (j : Nat) (v : V), row[j]? = some v → R x v (cv.getD j undef) := fun j v hj => by
    have := vv4 0 row j v rfl hj
    simpa using this
  have h1c : ∀ v ∈ cc.toList.take (rows.length * k), v.oneCell' = true := fun v hv => by
    obtain ⟨q, hq⟩ := List.getElem?_of_mem hv
    rw [List.getElem?_take] at hq
    split at hq
    · rename_i hlt
      obtain ⟨rw', u, h5, h6, h7⟩ := CRR_cell hsz hlt
      have h8 := bb4 _ _ _ _ h5 h6
      rw [h7, Array.getD_eq_getD_getElem?, ← Array.getElem?_toList, hq] at h8
      exact h8.one (hone _ (List.mem_of_getElem? h5) _ (List.mem_of_getElem? h6))
    · cases hq
  obtain ⟨vs, hvs⟩ : ∃ vs, vs = cv.toList.take k := ⟨_, rfl⟩
  have hvl : vs.length = k := by rw [hvs, List.length_take, Array.length_toList]; omega
  have hvg : ∀ q, q < k → vs[q]? = cv[q]? := fun q hq => by rw [hvs, List.getElem?_take, if_pos hq, Array.getElem?_toList]
  have h1v : ∀ v ∈ vs, v.oneCell' = true := fun v hv => by
    obtain ⟨q, hq⟩ := List.getElem?_of_mem hv
    have hlt : q < k := by rw [← hvl]; exact (List.getElem?_eq_some_iff.1 hq).1
    have hu : ∃ u, row[q]? = some u := ⟨_, List.getElem?_eq_getElem (by rw [hsz1']; exact hlt)⟩
    obtain ⟨u, hu⟩ := hu
    have h8 := hrow q u hu
    rw [Array.getD_eq_getD_getElem?, ← hvg q hlt, hq] at h8
    exact h8.one (hone1 row (by simp) u (List.mem_of_getElem? hu))
  obtain ⟨n, hn⟩ : ∃ n, n = rows.length := ⟨_, rfl⟩
  have hnew : ∀ r ∈ rows.take i ++ row :: rows.drop i, r.length = k := fun r hr => by
    rcases List.mem_append.1 hr with hr | hr
    · exact hsz r (List.mem_of_mem_take hr)
    · rcases List.mem_cons.1 hr with hr | hr
      · rw [hr]; exact hsz1'
      · exact hsz r (List.mem_of_mem_drop hr)
  have hnewl : (rows.take i ++ row :: rows.drop i).length = rows.length + 1 := by simp; omega
  by_cases hend : i = rows.length
  · obtain ⟨i0, hi0, hz0, hzs, hzb⟩ := info_parts L.i9
    obtain ⟨y, c, hr, y1, y2, y3, y4⟩ := append_run (P := P) (esz := k) (bytes := bytes) (new := [row]) hx L.t24 hi0 hzz hzs hzb hzl (by omega) (i := id) (ver := ver) (len := rows.length) (u := .ms id2 ver2 0 1) (by rw [hH]) (by rw [hH]) (by rw [hH]) (by rw [hH]) (by rw [hH])
      (by simp [rowsOf, hH2]) hf1 hb hm r0' r2' 0
    rw [hend]
    refine (ins_end L (x.σ id) rows.length cap (x.σ id2) cap2 x.w y.w c e2 fun ty => hr).mono fun e w' h => ?_
    obtain ⟨rfl, rfl⟩ := h
    refine ⟨c, y, rfl, rfl, ?_, y2, y4, y3⟩
    rw [y1, hH]
    simp
  have hlt : i < rows.length := by omega
  have hnk : rows.length * k ≤ cc.size := by rw [← e8]; exact Nat.mul_le_mul_right k e2
  have hik : i * k ≤ rows.length * k := Nat.mul_le_mul_right k hi
  obtain ⟨ds, hds⟩ : ∃ ds, ds = (cc.toList.take (rows.length * k)).drop (i * k) := ⟨_, rfl⟩
  have hdl : ds.length = (rows.length - i) * k := by rw [hds, List.length_drop, List.length_take, Array.length_toList (xs := cc), Nat.min_eq_left hnk, Nat.sub_mul]
  have hdg : ∀ q, q < (rows.length - i) * k → ds[q]? = cc[i * k + q]? := fun q hq => by
    rw [hds, List.getElem?_drop, List.getElem?_take, if_pos (by rw [Nat.sub_mul] at hq; omega), Array.getElem?_toList]
  have e9 : (i + 1) * k + (rows.length - i) * k = (rows.length + 1) * k := by rw [← Nat.add_mul]; congr 1; omega
  have e10 : (i + 1) * k = i * k + k := by rw [Nat.add_mul, Nat.one_mul]
  by_cases hroom : rows.length + 1 ≤ cap
  · have hn1k : (rows.length + 1) * k ≤ cc.size := by rw [← e8]; exact Nat.mul_le_mul_right k hroom
    refine (ins_shift L (x.σ id) rows.length cap i (x.σ id2) cap2 cc cv _ _ x.w hlt hroom (by unfold maxLen at e3; omega) hvb b1 v1 e8 hcv vs hvs h1c h1v).mono fun e w' h => ?_
    obtain ⟨rfl, rfl⟩ := h
    rw [← hds]
    have hs1 : (put cc ((i + 1) * k) ds).size = cc.size := put_size (by rw [hdl, e9]; exact hn1k)
    have hfit2 : i * k + vs.length ≤ (put cc ((i + 1) * k) ds).size := by rw [hs1, hvl]; omega
    obtain ⟨dI, dF⟩ := step_draw hx (x.w.drawn + 1) (Nat.le_succ _)
    obtain ⟨hI, hF⟩ := step_set dI id ho cc (put (put cc ((i + 1) * k) ds) (i * k) vs) (by rw [hH]; exact b1) (by rw [put_size hfit2, hs1]) (ver + 1) (rows.take i ++ row :: rows.drop i) (by simp only [hH]; omega) (by simp only [hH]; omega) (by simp only [hH]; rfl)
      (by simp only [hH]; exact hnew) (by simp only [hH]; rw [hnewl]; exact hn1k) (by
        simp only [hH]
        refine ins_rows hsz hsz1' hi (fun r row j v h5 h6 => (bb4 r row j v h5 h6).frame hx dF) (fun j v h5 => (hrow j v h5).frame hx dF) (fun q hq => ?_) (fun q hq => ?_) (fun q hq => ?_)
        · rw [put_get hfit2, if_neg (by omega), put_get (by rw [hdl, e9]; exact hn1k), if_neg (by omega)]
        · rw [put_get hfit2, if_pos (by omega), Nat.add_sub_cancel_left]; exact hvg q hq
        · rw [put_get hfit2, if_neg (by omega), put_get (by rw [hdl, e9]; exact hn1k), if_pos (by rw [hdl]; omega), Nat.add_sub_cancel_left]; exact hdg q hq)
    refine ⟨_, _, rfl, ?_, ?_, hI, ?_, dF.trans hF⟩
    · rfl
    · simp only [hH]
    · refine .ms _ _ _ _ _ _ _ (by simp [upd_same]) fun _ _ => ?_
      simp only [upd_same, hH]
      refine ⟨trivial, hroom, e3, by rw [hnewl]; omega, fun _ => ⟨by simp, ?_⟩, fun h => by simp [Blk.own] at h⟩
      have : rowSize (({ x.w with drawn := x.w.drawn + 1 } : World).setRow (x.σ id) (put (put cc ((i + 1) * k) ds) (i * k) vs)) (x.σ id) = cc.size := by
        have q := setRow_heap ({ x.w with drawn := x.w.drawn + 1 } : World) (x.σ id) cc (put (put cc ((i + 1) * k) ds) (i * k) vs) _ _ b1
        unfold rowSize
        rw [q]
        show (put (put cc ((i + 1) * k) ds) (i * k) vs).size = cc.size
        rw [put_size hfit2, hs1]
      rw [this, Nat.zero_add]; exact e8
  · refine (ins_grow L (x.σ id) rows.length cap i (x.σ id2) cap2 cc cv _ _ x.w hlt e2 (by omega) (by omega) hb b1 v1 e8 hcv vs hvs h1c h1v).mono fun e w' h => ?_
    obtain ⟨G, Rw, g1, g2, g3, rfl, rfl, g4⟩ := h
    rw [← hds]
    have hGk : (rows.length + 1) * k ≤ Rw.size := by rw [g1]; exact Nat.mul_le_mul_right k g2
    have hfit1 : i * k + vs.length ≤ Rw.size := by rw [hvl]; omega
    have hs1 : (put Rw (i * k) vs).size = Rw.size := put_size hfit1
    have hfit2 : (i + 1) * k + ds.length ≤ (put Rw (i * k) vs).size := by rw [hs1, hdl, e9]; exact hGk
    obtain ⟨dI, dF⟩ := step_draw hx (x.w.drawn + 2) (by omega)
    obtain ⟨hI, hF⟩ := step_own dI id (put (put Rw (i * k) vs) ((i + 1) * k) ds) false (ρ.t 9) k (rows.take i ++ row :: rows.drop i) hnew (by rw [hnewl, put_size hfit2, hs1]; exact hGk) (by
        refine ins_rows hsz hsz1' hi (fun r row j v h5 h6 => (bb4 r row j v h5 h6).frame hx dF) (fun j v h5 => (hrow j v h5).frame hx dF) (fun q hq => ?_) (fun q hq => ?_) (fun q hq => ?_)
        · rw [put_get hfit2, if_neg (by omega), put_get hfit1, if_neg (by omega)]
          have := congrArg (fun l => l[q]?) g4
          simp only [List.getElem?_take, if_pos hq, Array.getElem?_toList] at this
          exact this
        · rw [put_get hfit2, if_neg (by omega), put_get hfit1, if_pos (by omega), Nat.add_sub_cancel_left]; exact hvg q hq
        · rw [put_get hfit2, if_pos (by rw [hdl]; omega), Nat.add_sub_cancel_left]; exact hdg q hq)
    refine ⟨_, _, rfl, ?_, ?_, hI, ?_, dF.trans hF⟩
    · rfl
    · simp only [hH]
    · refine .ms _ _ _ _ _ _ _ (by simp [upd_same, hH]) fun _ _ => ?_
      simp only [upd_same, hH]
      refine ⟨trivial, g2, g3, by rw [hnewl]; omega, fun _ => ⟨by simp, ?_⟩, fun h => by simp [Blk.own] at h⟩
      rw [rowSize_new, put_size hfit2, hs1, g1, Nat.zero_add]
theorem CallOK_insert (L : InsLay P ρ n1 k bytes z) (hcf : callable P (ρ.f 22)) {zz : List V} (hzz : zeroOf P (ρ.t 9) = some zz) (hzl : zz.length = k) {id id2 ver ver2 ty2 i n : Nat} {rows : List (List V)} {row : List V} {H : Heap}
    (hH : H id = ⟨ver, true, false, ρ.t 9, k, rows⟩) (hH2 : H id2 = ⟨ver2, true, false, ty2, k, [row]⟩) (hne : id ≠ id2) (hn : n ≤ rows.length) (hi : i ≤ n)
    (hf : fitRows k (rows.take n) = true) (hf1 : fitRows k [row] = true) (hb : (n + 1) * bytes ≤ 140737488355328) (hm : n + 1 ≤ 9223372036854775807) :
    CallOK P (ρ.f 22) [.ms id ver 0 n, iV i, .ms id2 ver2 0 1] H (.ms id (ver + 2) 0 (n + 1)) (upd H id ⟨ver + 2, true, false, ρ.t 9, k, (rows.take n).take i ++ row :: (rows.take n).drop i⟩) := by
  refine ⟨hcf, fun x cs hxH hx hr => ?_⟩
  subst hxH
  obtain ⟨c0, c1, c2, rfl⟩ : ∃ c0 c1 c2, cs = [c0, c1, c2] := by
    have := hr.1
    match cs with
    | [a, b, c] => exact ⟨a, b, c, rfl⟩
    | [] => simp at this
    | [_] => simp at this
    | [_, _] => simp at this
    | _ :: _ :: _ :: _ :: _ => simp at this
  have r0 : R x (.ms id ver 0 n) c0 := hr.2 0 _ rfl
  have r1 : R x (iV i) c1 := hr.2 1 _ rfl
  have r2 : R x (.ms id2 ver2 0 1) c2 := hr.2 2 _ rfl
  have hc1 : c1 = .int .i64 i := by
    unfold iV at r1
    cases r1; rfl
  subst hc1
  have ho : (x.H id).own = true := by rw [hH]; rfl
  obtain ⟨cc, b1, bb2, bb3, bb4⟩ := hx.blk id ho
  have hlen : (rows.take n).length = n := by rw [List.length_take]; omega
  obtain ⟨hI, hF⟩ := step_set hx id ho cc cc b1 rfl (ver + 1) (rows.take n) (by rw [hH]; exact Nat.le_succ _) (by rw [hH]; simp) (by rw [hH]; rfl) (fun r h => bb2 r (by rw [hH]; exact List.mem_of_mem_take h))
    (by rw [hlen]; refine Nat.le_trans (Nat.mul_le_mul_right _ ?_) bb3; rw [hH]; exact hn) (fun r row j v h1 h2 => by
      rw [List.getElem?_take] at h1
      split at h1
      · exact bb4 r row j v (by rw [hH]; exact h1) h2
      · cases h1)
  have hw : x.w.setRow (x.σ id) cc = x.w := setRow_self x.w _ cc _ _ b1
  rw [hw] at hI hF
  have q0 : R { x with H := upd x.H id ⟨ver + 1, true, (x.H id).lz, (x.H id).ty, (x.H id).sz, rows.take n⟩ } (.ms id (ver + 1) 0 (rows.take n).length) c0 := by
    cases r0 with
    | ms _ _ _ _ b m cap hv hh =>
    obtain ⟨e1, e2, e3, e4, e5, e6⟩ := hh (by rw [hH]) (by rw [hH])
    obtain ⟨e7, e8⟩ := e5 ho
    refine .ms _ _ _ _ _ _ _ (by simp [upd_same]) fun _ _ => ?_
    simp only [upd_same, hlen]
    exact ⟨e1, e2, e3, by omega, fun _ => ⟨e7, e8⟩, fun h => by rw [hH] at h; simp [Blk.own] at h⟩
  have h := ins_full L hzz hzl hI (id := id) (id2 := id2) (ver := ver + 1) (ver2 := ver2) (ty2 := ty2) (i := i) (rows := rows.take n) (row := row) (by simp [upd_same, hH]) (by simp only [upd_ne _ _ (Ne.symm hne)]; exact hH2) hne (by rw [hlen]; exact hi) hf hf1 (by rw [hlen]; exact hb) (by rw [hlen]; exact hm) q0 (r2.frame hx hF)
  refine h.mono fun e w' h => ?_
  obtain ⟨c, y, rfl, h1, h2, h3, h4, h5⟩ := h
  refine ⟨c, y, rfl, h1, ?_, h3, ?_, hF.trans h5⟩
  · rw [h2]
    funext j
    by_cases e : j = id
    · subst e; simp only [upd_same]
    · simp only [upd_ne _ _ e]
  · rw [hlen] at h4; exact h4
end
end Go.Proofs.Ytngkckefanbhgaa

namespace Go.Proofs.Ytngkckefanbhgaa
open Go Go.Proofs Go.Shelf Go.Lib
def insP (f ty k bytes : Nat) : Prim := fun g args H =>
  if g = f then match args with
    | [.ms id ver 0 n, .int .i64 i, .ms id2 ver2 0 1] => match H id2 with
      | ⟨v2, true, false, _, k2, [row]⟩ => match H id with
        | ⟨v1, true, false, ty1, k1, rows⟩ =>
          if v1 = ver ∧ v2 = ver2 ∧ k1 = k ∧ k2 = k ∧ ty1 = ty ∧ id ≠ id2 ∧ n ≤ rows.length ∧ i.toNat ≤ n ∧ 0 ≤ i ∧ (n + 1) * bytes ≤ 140737488355328 ∧ n + 1 ≤ 9223372036854775807 then
            if fitRows k (rows.take n) && fitRows k [row] then
              some (.ms id (ver + 2) 0 (n + 1), upd H id ⟨ver + 2, true, false, ty, k, (rows.take n).take i.toNat ++ row :: (rows.take n).drop i.toNat⟩)
            else none
          else none
        | _ => none
      | _ => none
    | _ => none
  else none
theorem insP_ok {P : Program} {ρ : Ren} {n1 : String} {k bytes : Nat} {z : Value} (L : InsLay P ρ n1 k bytes z) (hcf : callable P (ρ.f 22)) {zz : List V} (hzz : zeroOf P (ρ.t 9) = some zz) (hzl : zz.length = k) : PrimOK P (insP (ρ.f 22) (ρ.t 9) k bytes) := by
  intro g args H v H' h
  unfold insP at h
  split at h
  · rename_i hg
    subst hg
    split at h
    · rename_i id ver n i id2 ver2
      split at h
      · rename_i v2 ty2 k2 row h2
        split at h
        · rename_i v1 ty1 k1 rows h1
          split at h
          · rename_i hc
            obtain ⟨rfl, rfl, rfl, rfl, rfl, c1, c2, c3, c4, c5, c6⟩ := hc
            split at h
            · rename_i hf
              simp only [Bool.and_eq_true] at hf
              cases h
              have := CallOK_insert L hcf hzz hzl (i := i.toNat) h1 h2 c1 c2 c3 hf.1 hf.2 c5 c6
              unfold iV at this
              rw [Int.toNat_of_nonneg c4] at this
              exact this
            · cases h
          · cases h
        · cases h
      · cases h
    · cases h
  · cases h
end Go.Proofs.Ytngkckefanbhgaa

namespace Go.Proofs.Ytngkckefanbhgaa
open Go Go.Proofs Go.Shelf
def insRen119 : Go.Shelf.Ren := ⟨fun | 22 => 119 | 29 => 123 | 30 => 124 | n => n, fun | 24 => 32 | 9 => 63 | n => n, fun n => n⟩
theorem insLay119 : InsLay Try.prog insRen119 Try.f119.name 2 48 (.agg #[.slice none 0 0, .slice none 0 0]) := {
  mixed := by kernel_rfl
  f22 := Try.func119.trans (congrArg some (by kernel_rfl))
  ov := fun args w => run_callFunc_extern Try.func123 (by kernel_rfl) (by kernel_rfl) (by kernel_rfl) (by kernel_rfl) args w
  t0 := Try.underlying0, a0 := Try.isAgg0, z0 := Try.sizeOf0, v0 := Try.zeroValue0
  t3 := Try.underlying3, a3 := Try.isAgg3, z3 := Try.sizeOf3, v3 := Try.zeroValue3
  t4 := Try.underlying4, a4 := Try.isAgg4, z4 := Try.sizeOf4, v4 := Try.zeroValue4
  z9 := Try.sizeOf63
  t24 := Try.underlying32, a24 := Try.isAgg32, z24 := Try.sizeOf32, v24 := Try.zeroValue32
  i9 := by kernel_rfl
  hk := by decide
  hz := by kernel_rfl }
theorem insCall119 : callable Try.prog 119 := ⟨_, Try.func119, by kernel_rfl, by kernel_rfl⟩
def insPrim119 : Prim := insP 119 63 2 48
theorem insPrim119_ok : PrimOK Try.prog insPrim119 := insP_ok insLay119 insCall119 (zz := [.nilsl, .nilsl]) (by kernel_rfl) rfl
end Go.Proofs.Ytngkckefanbhgaa

namespace Go.Proofs.Ytngkckefanbhgaa
open Go Go.Proofs
theorem insert_tr {F : List Tr} {t : Tr} {v9 v54 ty2 : Nat} {H : Heap} (r : List (List V)) (h209 : H 209 = ⟨v9, true, false, 63, 2, List.map cT F ++ r⟩) (h354 : H 354 = ⟨v54, true, false, ty2, 2, [cT t]⟩) (hl : F.length ≤ 100000) (hs : Srt F) :
    CallOK Try.prog 119 [.ms 209 v9 0 F.length, iV ((lbN F t : Nat) : Int), .ms 354 v54 0 1] H (.ms 209 (v9 + 2) 0 (F.length + 1)) (upd H 209 ⟨v9 + 2, true, false, 63, 2, List.map cT (ins F t)⟩) := by
  have hf : ∀ l : List Tr, fitRows 2 (List.map cT l) = true := fun l => by
    simp only [fitRows, List.all_eq_true]
    intro r hr
    obtain ⟨x, _, rfl⟩ := List.mem_map.1 hr
    rfl
  have e : (List.map cT F ++ r).take F.length = List.map cT F := take_zap rfl
  have := CallOK_insert (zz := [.nilsl, .nilsl]) (row := cT t) (i := lbN F t) (n := F.length) insLay119 insCall119 (by kernel_rfl) rfl h209 h354 (by decide) (by simp) (lb_le F) (by rw [e]; exact hf F) (hf [t]) (by omega) (by omega)
  rw [e] at this
  rw [← ins_at hs, List.map_append, List.map_cons, List.map_take, List.map_drop]
  exact this
theorem add_ok_E (l : List Tr) (t : Tr) (i : Int) (v9 v3 v8 v54 v7 : Nat) (ho : OK ⟨i, l⟩) (hpt : prE t i = 0) (he : addE l t = 0) (Hi : Heap) (h209 : Hi 209 = (⟨v9, true, false, 63, 2, (List.map cT (l))⟩ : Blk)) (h303 : (Hi 303).ver = v3) (h308 : (Hi 308).ver = v8) (h354 : (Hi 354).ver = v54) (h407 : (Hi 407).ver = v7) : CallOK Try.prog 103 [(V.ms 209 v9 0 (l.length)), (V.agg [(V.sl (List.map cI (t.ni))), (V.sl (List.map cI (t.no)))])] Hi (V.tup [(V.ms 209 (v9 + 2) 0 ((addL l t).length)), (iV (addE l t))]) (upd (upd (upd (upd (upd Hi 303 (⟨v3 + 1, false, false, 0, 0, []⟩ : Blk)) 308 (⟨v8 + l.length, false, false, 0, 0, []⟩ : Blk)) 354 (⟨v54 + 1, false, false, 0, 0, []⟩ : Blk)) 407 (⟨v7 + l.length, false, false, 0, 0, []⟩ : Blk)) 209 (⟨v9 + 2, true, false, 63, 2, (List.map cT (addL l t))⟩ : Blk)) := by
 refine CallOK_of_Wf (k0 := 300) Try.func103 s103_ok (by kernel_rfl) (by simp [s103]) fun hB => ?_
 simp only [bnd_map, bnd_int, bnd_bool, bnd_str, bnd_agg, bnd_pp, bnd_nil, bnd_cons, implies_true, and_true, true_and] at hB
 have hl : l.length ≤ 10000 := ho.len
 have hp1 := prE_ok hpt
 have hp2 := hp1.len
 have hp3 := hp1.lel
 have hpl : ∀ k, k < l.length → (nth l k).no.length = (nth l k).ni.length := fun k hk => ((ho.pr k hk).1.len)
 have hfl := List.length_filter_le (kp t) l
 have hsr : Srt (l.filter (kp t)) := filter_srt ho.srt _
 unfold s103
 dsimp only
 refine W_seq_regc (fun T H => T 0 = (V.ms 209 v9 0 (l.length)) ∧ T 3 = (V.mp 303 (v3 + 1) 0 0) ∧ (∀ j, j ∉ [303, 308, 354, 407, 209] → H j = Hi j) ∧ H 209 = (⟨v9, true, false, 63, 2, (List.map cT (l))⟩ : Blk) ∧ H 303 = (⟨v3 + 1, true, false, 63, 2, [[(V.sl (List.map cI (t.ni))), (V.sl (List.map cI (t.no)))]]⟩ : Blk) ∧ (H 308).ver = v8 ∧ (H 354).ver = v54 ∧ (H 407).ver = v7 ∧ True) ?_ ?_
 ·
  unfold r103_0
  refine R_box (i := 303) (n := v3) (m := 2) (cs := [(V.sl (List.map cI (t.ni))), (V.sl (List.map cI (t.no)))]) (by rfl) h303 (@rfl V (V.agg [(V.sl (List.map cI (t.ni))), (V.sl (List.map cI (t.no)))])) rfl rfl ?_
  refine R_mv (@rfl V V.nilsl) ?_
  refine R_mv (@rfl V (iV (0 : Int))) ?_
  exact R_nil ⟨rfl, rfl, (upd_out (fun _ _ => rfl) (by decide)), h209, rfl, h308, h354, h407, trivial⟩
 intro T H ⟨t0, t3, hF, h209, h303, h308, h354, h407, _⟩
 refine W_seq_regc (fun T H => T 0 = (V.ms 209 v9 0 (l.length)) ∧ T 3 = (V.mp 303 (v3 + 1) 0 0) ∧ T 6 = (V.bool false) ∧ (∀ j, j ∉ [303, 308, 354, 407, 209] → H j = Hi j) ∧ H 209 = (⟨v9, true, false, 63, 2, (List.map cT (l))⟩ : Blk) ∧ H 303 = (⟨v3 + 1, true, false, 63, 2, [[(V.sl (List.map cI (t.ni))), (V.sl (List.map cI (t.no)))]]⟩ : Blk) ∧ (H 308).ver = v8 ∧ (H 354).ver = v54 ∧ (H 407).ver = v7 ∧ True) ?_ ?_
 ·
  unfold r103_1
  refine R_mv (@rfl V (V.bool false)) ?_
  exact R_nil ⟨t0, t3, rfl, hF, h209, h303, h308, h354, h407, trivial⟩
 intro T H ⟨t0, t3, t6, hF, h209, h303, h308, h354, h407, _⟩
 refine W_seq_seq ?_
 refine W_seq_regc (fun T H => T 0 = (V.ms 209 v9 0 (l.length)) ∧ T 3 = (V.mp 303 (v3 + 1) 0 0) ∧ T 6 = (V.bool false) ∧ T 11 = (V.ms 209 v9 0 (l.length)) ∧ T 12 = (iV ((l.length : Nat) : Int)) ∧ T 13 = (iV (0 : Int)) ∧ (∀ j, j ∉ [303, 308, 354, 407, 209] → H j = Hi j) ∧ H 209 = (⟨v9, true, false, 63, 2, (List.map cT (l))⟩ : Blk) ∧ H 303 = (⟨v3 + 1, true, false, 63, 2, [[(V.sl (List.map cI (t.ni))), (V.sl (List.map cI (t.no)))]]⟩ : Blk) ∧ (H 308).ver = v8 ∧ (H 354).ver = v54 ∧ (H 407).ver = v7 ∧ True) ?_ ?_
 ·
  unfold r103_2
  refine R_mv t0 ?_
  refine R_len_ms (@rfl V (V.ms 209 v9 0 (l.length))) h209 (by first | rfl | simp) ?_
  refine R_mv (@rfl V (iV (0 : Int))) ?_
  exact R_nil ⟨t0, t3, t6, rfl, rfl, rfl, hF, h209, h303, h308, h354, h407, trivial⟩
 intro T H ⟨t0, t3, t6, t11, t12, t13, hF, h209, h303, h308, h354, h407, _⟩
 refine W_seq_blockg fun Q1 n1 x1 y1 z1 => ?_
 refine W_loop (fun mm T H => ∃ (k : Nat) (v308 : Nat), mm = l.length - k ∧ T 0 = (V.ms 209 v9 0 (l.length)) ∧ T 3 = (V.mp 303 (v3 + 1) 0 0) ∧ T 6 = (V.bool (exB (inP l t) 0 k)) ∧ T 11 = (V.ms 209 v9 0 (l.length)) ∧ T 12 = (iV ((l.length : Nat) : Int)) ∧ T 13 = (iV ((k : Nat) : Int)) ∧ (∀ j, j ∉ [303, 308, 354, 407, 209] → H j = Hi j) ∧ H 209 = (⟨v9, true, false, 63, 2, (List.map cT (l))⟩ : Blk) ∧ H 303 = (⟨v3 + 1, true, false, 63, 2, [[(V.sl (List.map cI (t.ni))), (V.sl (List.map cI (t.no)))]]⟩ : Blk) ∧ (H 308).ver = v308 ∧ (H 354).ver = v54 ∧ (H 407).ver = v7 ∧ (k ≤ l.length) ∧ (v308 ≤ v8 + k) ∧ (fi (ndP l t) 0 l.length = fi (ndP l t) k (l.length - k))) ?_ ?_
 ·
  refine ⟨_, 0, v8, rfl, t0, t3, (Eq.trans t6 (by first | rfl | (simp only [exB, inP, Nat.zero_add]; done) | (rw [he]; done) | (rw [addL, if_pos d2]; done) | (rw [addL, if_neg d2, ins_len]; done) | (rw [addE, if_pos (by rw [hc, fi_hit d1 (by omega)]; omega)]; done) | (rw [addE, if_neg d4, if_neg d2, if_pos (by omega)]; done))), t11, t12, (Eq.trans t13 (by first | rfl | (simp only [exB, inP, Nat.zero_add]; done) | (rw [he]; done) | (rw [addL, if_pos d2]; done) | (rw [addL, if_neg d2, ins_len]; done) | (rw [addE, if_pos (by rw [hc, fi_hit d1 (by omega)]; omega)]; done) | (rw [addE, if_neg d4, if_neg d2, if_pos (by omega)]; done))), hF, h209, h303, h308, h354, h407, ?_, ?_, ?_⟩
  · omega
  · omega
  · rfl
 intro mm T H ⟨k, v308, hmm, t0, t3, t6, t11, t12, t13, hF, h209, h303, h308, h354, h407, hk, hv8, hc⟩ Q2 p12 p22 p32
 unfold b103_0
 refine W_seq_regc (fun T H => T 0 = (V.ms 209 v9 0 (l.length)) ∧ T 3 = (V.mp 303 (v3 + 1) 0 0) ∧ T 6 = (V.bool (exB (inP l t) 0 k)) ∧ T 11 = (V.ms 209 v9 0 (l.length)) ∧ T 12 = (iV ((l.length : Nat) : Int)) ∧ T 13 = (iV ((k : Nat) : Int)) ∧ T 14 = (V.bool (decide (((k : Nat) : Int) < ((l.length : Nat) : Int)))) ∧ (∀ j, j ∉ [303, 308, 354, 407, 209] → H j = Hi j) ∧ H 209 = (⟨v9, true, false, 63, 2, (List.map cT (l))⟩ : Blk) ∧ H 303 = (⟨v3 + 1, true, false, 63, 2, [[(V.sl (List.map cI (t.ni))), (V.sl (List.map cI (t.no)))]]⟩ : Blk) ∧ (H 308).ver = v308 ∧ (H 354).ver = v54 ∧ (H 407).ver = v7 ∧ True) ?_ ?_
 ·
  unfold r103_3
  refine R_lss (x := ((k : Nat) : Int)) (y := ((l.length : Nat) : Int)) t13 t12 ?_
  exact R_nil ⟨t0, t3, t6, t11, t12, t13, rfl, hF, h209, h303, h308, h354, h407, trivial⟩
 intro T H ⟨t0, t3, t6, t11, t12, t13, t14, hF, h209, h303, h308, h354, h407, _⟩
 refine W_seq_if (p := ((k : Nat) : Int) < ((l.length : Nat) : Int)) t14 (fun c3 => ?_) (fun c3 => ?_)
 ·
  refine W_seq_skip ?_
  refine W_seq_blockg fun Q4 n4 x4 y4 z4 => ?_
  refine W_seq_regc (fun T H => T 0 = (V.ms 209 v9 0 (l.length)) ∧ T 3 = (V.mp 303 (v3 + 1) 0 0) ∧ T 6 = (V.bool (exB (inP l t) 0 k)) ∧ T 8 = (V.mp 308 (v308 + 1) 0 0) ∧ T 11 = (V.ms 209 v9 0 (l.length)) ∧ T 12 = (iV ((l.length : Nat) : Int)) ∧ T 13 = (iV ((k : Nat) : Int)) ∧ (∀ j, j ∉ [303, 308, 354, 407, 209] → H j = Hi j) ∧ H 209 = (⟨v9, true, false, 63, 2, (List.map cT (l))⟩ : Blk) ∧ H 303 = (⟨v3 + 1, true, false, 63, 2, [[(V.sl (List.map cI (t.ni))), (V.sl (List.map cI (t.no)))]]⟩ : Blk) ∧ H 308 = (⟨v308 + 1, true, false, 63, 2, [[(V.sl (List.map cI ((nth (l) (k)).ni))), (V.sl (List.map cI ((nth (l) (k)).no)))]]⟩ : Blk) ∧ (H 354).ver = v54 ∧ (H 407).ver = v7 ∧ True) ?_ ?_
  ·
   unfold r103_4
   refine R_idx_ms0 (i := k) t11 t13 h209 (okB_map (by omega)) rfl (by omega) ?_
   refine R_load_mp (v := (V.agg [(V.sl (List.map cI ((nth (l) (k)).ni))), (V.sl (List.map cI ((nth (l) (k)).no)))])) (@rfl V (V.mp 209 v9 k 0)) h209 (ldB_map (by omega) (by first | rfl | simp [ldV, V.one])) ?_
   refine R_alloc (i := 308) (n := v308) (m := 2) (by rfl) h308 rfl ?_
   refine R_store (vs := [(V.sl (List.map cI ((nth (l) (k)).ni))), (V.sl (List.map cI ((nth (l) (k)).no)))]) (B' := (⟨v308 + 1, true, false, 63, 2, [[(V.sl (List.map cI ((nth (l) (k)).ni))), (V.sl (List.map cI ((nth (l) (k)).no)))]]⟩ : Blk)) (@rfl V (V.mp 308 (v308 + 1) 0 0)) (@rfl V (V.agg [(V.sl (List.map cI ((nth (l) (k)).ni))), (V.sl (List.map cI ((nth (l) (k)).no)))])) rfl (@rfl Blk (⟨v308 + 1, true, false, 63, 2, [[V.nilsl, V.nilsl]]⟩ : Blk)) (by first | rfl | simp [stB, okB, Blk.own, putAt, V.one]) ?_
   exact R_nil ⟨t0, t3, t6, rfl, t11, t12, t13, (upd_out (upd_out hF (by decide)) (by decide)), h209, h303, rfl, h354, h407, trivial⟩
  intro T H ⟨t0, t3, t6, t8, t11, t12, t13, hF, h209, h303, h308, h354, h407, _⟩
  refine W_seq_seq ?_
  refine W_seq_regc (fun T H => T 0 = (V.ms 209 v9 0 (l.length)) ∧ T 3 = (V.mp 303 (v3 + 1) 0 0) ∧ T 6 = (V.bool (exB (inP l t) 0 k)) ∧ T 8 = (V.mp 308 (v308 + 1) 0 0) ∧ T 11 = (V.ms 209 v9 0 (l.length)) ∧ T 12 = (iV ((l.length : Nat) : Int)) ∧ T 13 = (iV ((k : Nat) : Int)) ∧ T 20 = (V.bool (decide ((0 : Int) ≤ (df ((nth (l) (k))) t)))) ∧ (∀ j, j ∉ [303, 308, 354, 407, 209] → H j = Hi j) ∧ H 209 = (⟨v9, true, false, 63, 2, (List.map cT (l))⟩ : Blk) ∧ H 303 = (⟨v3 + 1, true, false, 63, 2, [[(V.sl (List.map cI (t.ni))), (V.sl (List.map cI (t.no)))]]⟩ : Blk) ∧ H 308 = (⟨v308 + 1, true, false, 63, 2, [[(V.sl (List.map cI ((nth (l) (k)).ni))), (V.sl (List.map cI ((nth (l) (k)).no)))]]⟩ : Blk) ∧ (H 354).ver = v54 ∧ (H 407).ver = v7 ∧ True) ?_ ?_
  ·
   unfold r103_5
   refine R_load_mp (v := (V.agg [(V.sl (List.map cI ((nth (l) (k)).ni))), (V.sl (List.map cI ((nth (l) (k)).no)))])) t8 h308 (by first | rfl | simp [ldB, ldV, Blk.own, V.one]) ?_
   refine R_load_mp (v := (V.agg [(V.sl (List.map cI (t.ni))), (V.sl (List.map cI (t.no)))])) t3 h303 (by first | rfl | simp [ldB, ldV, Blk.own, V.one]) ?_
   refine R_call (evcons (@rfl V (V.agg [(V.sl (List.map cI ((nth (l) (k)).ni))), (V.sl (List.map cI ((nth (l) (k)).no)))])) (evcons (@rfl V (V.agg [(V.sl (List.map cI (t.ni))), (V.sl (List.map cI (t.no)))])) evnil)) (odiffer_pure ((nth (l) (k))) t (hpl k (by omega)) hp1.len) (fzv_mapcanon _ _ (by simp [-List.map_take, -List.map_drop, -List.map_append, -List.map_reverse])) (by simp [-List.map_take, -List.map_drop, -List.map_append, -List.map_reverse]) (Or.inl (by simp [-List.map_take, -List.map_drop, -List.map_append, -List.map_reverse])) ?_
   refine R_geq (x := (df ((nth (l) (k))) t)) (y := (0 : Int)) (@rfl V (iV (df ((nth (l) (k))) t))) (@rfl V (iV (0 : Int))) ?_
   exact R_nil ⟨t0, t3, t6, t8, t11, t12, t13, rfl, hF, h209, h303, h308, h354, h407, trivial⟩
  intro T H ⟨t0, t3, t6, t8, t11, t12, t13, t20, hF, h209, h303, h308, h354, h407, _⟩
  refine W_seq_if (p := (0 : Int) ≤ (df ((nth (l) (k))) t)) t20 (fun c5 => ?_) (fun c5 => ?_)
  ·
   have d1 : ndP l t k = true := decide_eq_true c5
   refine W_seq_seq ?_
   refine W_seq_regc (fun T H => T 4 = V.nilsl ∧ T 5 = (iV (13 : Int)) ∧ (∀ j, j ∉ [303, 308, 354, 407, 209] → H j = Hi j) ∧ H 209 = (⟨v9, true, false, 63, 2, (List.map cT (l))⟩ : Blk) ∧ H 303 = (⟨v3 + 1, true, false, 63, 2, [[(V.sl (List.map cI (t.ni))), (V.sl (List.map cI (t.no)))]]⟩ : Blk) ∧ H 308 = (⟨v308 + 1, true, false, 63, 2, [[(V.sl (List.map cI ((nth (l) (k)).ni))), (V.sl (List.map cI ((nth (l) (k)).no)))]]⟩ : Blk) ∧ (H 354).ver = v54 ∧ (H 407).ver = v7 ∧ True) ?_ ?_
   ·
    unfold r103_6
    refine R_mv (@rfl V V.nilsl) ?_
    refine R_mv (@rfl V (iV (13 : Int))) ?_
    exact R_nil ⟨rfl, rfl, hF, h209, h303, h308, h354, h407, trivial⟩
   intro T H ⟨t4, t5, hF, h209, h303, h308, h354, h407, _⟩
   refine W_seq_ret ?_
   refine y4 _ _ ?_
   refine p22 _ _ ?_
   refine y1 _ _ ?_
   exfalso; unfold addE at he; rw [if_pos (by rw [hc, fi_hit d1 (by omega)]; omega)] at he; cases he
  have d1 : ndP l t k = false := decide_eq_false c5
  refine W_seq_skip ?_
  refine W_regc (fun T H => T 0 = (V.ms 209 v9 0 (l.length)) ∧ T 3 = (V.mp 303 (v3 + 1) 0 0) ∧ T 6 = (V.bool (((exB (inP l t) 0 k) || (hp ((nth (l) (k)).ni) t.ni)))) ∧ T 11 = (V.ms 209 v9 0 (l.length)) ∧ T 12 = (iV ((l.length : Nat) : Int)) ∧ T 13 = (iV ((k : Nat) : Int)) ∧ (∀ j, j ∉ [303, 308, 354, 407, 209] → H j = Hi j) ∧ H 209 = (⟨v9, true, false, 63, 2, (List.map cT (l))⟩ : Blk) ∧ H 303 = (⟨v3 + 1, true, false, 63, 2, [[(V.sl (List.map cI (t.ni))), (V.sl (List.map cI (t.no)))]]⟩ : Blk) ∧ H 308 = (⟨v308 + 1, true, false, 63, 2, [[(V.sl (List.map cI ((nth (l) (k)).ni))), (V.sl (List.map cI ((nth (l) (k)).no)))]]⟩ : Blk) ∧ (H 354).ver = v54 ∧ (H 407).ver = v7 ∧ True) ?_ ?_
  ·
   unfold r103_7
   refine R_mv t6 ?_
   refine R_mv (@rfl V (V.bool (exB (inP l t) 0 k))) ?_
   refine Ops_seg 6 (fun T H => T 0 = (V.ms 209 v9 0 (l.length)) ∧ T 3 = (V.mp 303 (v3 + 1) 0 0) ∧ T 6 = (V.bool (exB (inP l t) 0 k)) ∧ T 11 = (V.ms 209 v9 0 (l.length)) ∧ T 12 = (iV ((l.length : Nat) : Int)) ∧ T 13 = (iV ((k : Nat) : Int)) ∧ T 28 = (V.bool (((exB (inP l t) 0 k) || (hp ((nth (l) (k)).ni) t.ni)))) ∧ (∀ j, j ∉ [303, 308, 354, 407, 209] → H j = Hi j) ∧ H 209 = (⟨v9, true, false, 63, 2, (List.map cT (l))⟩ : Blk) ∧ H 303 = (⟨v3 + 1, true, false, 63, 2, [[(V.sl (List.map cI (t.ni))), (V.sl (List.map cI (t.no)))]]⟩ : Blk) ∧ H 308 = (⟨v308 + 1, true, false, 63, 2, [[(V.sl (List.map cI ((nth (l) (k)).ni))), (V.sl (List.map cI ((nth (l) (k)).no)))]]⟩ : Blk) ∧ (H 354).ver = v54 ∧ (H 407).ver = v7 ∧ True) ?_ ?_
   ·
    by_cases g6 : (exB (inP l t) 0 k) = true
    ·
     refine G_no (Eq.trans (@rfl V (V.bool (exB (inP l t) 0 k))) (bbT g6)) (by decide) ?_
     refine G_no (Eq.trans (@rfl V (V.bool (exB (inP l t) 0 k))) (bbT g6)) (by decide) ?_
     refine G_no (Eq.trans (@rfl V (V.bool (exB (inP l t) 0 k))) (bbT g6)) (by decide) ?_
     refine G_no (Eq.trans (@rfl V (V.bool (exB (inP l t) 0 k))) (bbT g6)) (by decide) ?_
     refine G_no (Eq.trans (@rfl V (V.bool (exB (inP l t) 0 k))) (bbT g6)) (by decide) ?_
     refine R_pickT (Eq.trans (@rfl V (V.bool (exB (inP l t) 0 k))) (bbT g6)) (@rfl V (V.bool true)) ?_
     exact ⟨t0, t3, t6, t11, t12, t13, (Eq.trans (@rfl V (V.bool true)) (borT g6)), hF, h209, h303, h308, h354, h407, trivial⟩
    ·
     refine G_yes (Eq.trans (@rfl V (V.bool (exB (inP l t) 0 k))) (bbF g6)) ?_
     refine R_fld_mp (o' := 0) t8 h308 (by first | rfl | simp [okB, Blk.own]) rfl ?_
     refine G_yes (Eq.trans (@rfl V (V.bool (exB (inP l t) 0 k))) (bbF g6)) ?_
     refine R_load_mp (v := (V.sl (List.map cI ((nth (l) (k)).ni)))) (@rfl V (V.mp 308 (v308 + 1) 0 0)) h308 (by first | rfl | simp [ldB, ldV, Blk.own, V.one]) ?_
     refine G_yes (Eq.trans (@rfl V (V.bool (exB (inP l t) 0 k))) (bbF g6)) ?_
     refine R_fld_mp (o' := 0) t3 h303 (by first | rfl | simp [okB, Blk.own]) rfl ?_
     refine G_yes (Eq.trans (@rfl V (V.bool (exB (inP l t) 0 k))) (bbF g6)) ?_
     refine R_load_mp (v := (V.sl (List.map cI (t.ni)))) (@rfl V (V.mp 303 (v3 + 1) 0 0)) h303 (by first | rfl | simp [ldB, ldV, Blk.own, V.one]) ?_
     refine G_yes (Eq.trans (@rfl V (V.bool (exB (inP l t) 0 k))) (bbF g6)) ?_
     refine R_call (evcons (@rfl V (V.sl (List.map cI ((nth (l) (k)).ni)))) (evcons (@rfl V (V.sl (List.map cI (t.ni)))) evnil)) (hp_pure ((nth (l) (k)).ni) t.ni) (fzv_mapcanon _ _ (by simp [-List.map_take, -List.map_drop, -List.map_append, -List.map_reverse])) (by simp [-List.map_take, -List.map_drop, -List.map_append, -List.map_reverse]) (Or.inl (by simp [-List.map_take, -List.map_drop, -List.map_append, -List.map_reverse])) ?_
     refine R_pickF (Eq.trans (@rfl V (V.bool (exB (inP l t) 0 k))) (bbF g6)) (@rfl V (V.bool (hp ((nth (l) (k)).ni) t.ni))) ?_
     exact ⟨t0, t3, t6, t11, t12, t13, (Eq.trans (@rfl V (V.bool (hp ((nth (l) (k)).ni) t.ni))) (borF g6)), hF, h209, h303, h308, h354, h407, trivial⟩
   intro T H ⟨t0, t3, t6, t11, t12, t13, t28, hF, h209, h303, h308, h354, h407, _⟩
   refine R_mv t28 ?_
   exact R_nil ⟨t0, t3, rfl, t11, t12, t13, hF, h209, h303, h308, h354, h407, trivial⟩
  intro T H ⟨t0, t3, t6, t11, t12, t13, hF, h209, h303, h308, h354, h407, _⟩
  refine n4 _ _ ?_
  refine .done ?_
  refine W_regc (fun T H => T 0 = (V.ms 209 v9 0 (l.length)) ∧ T 3 = (V.mp 303 (v3 + 1) 0 0) ∧ T 6 = (V.bool (((exB (inP l t) 0 k) || (hp ((nth (l) (k)).ni) t.ni)))) ∧ T 11 = (V.ms 209 v9 0 (l.length)) ∧ T 12 = (iV ((l.length : Nat) : Int)) ∧ T 13 = (iV ((k + 1 : Nat) : Int)) ∧ (∀ j, j ∉ [303, 308, 354, 407, 209] → H j = Hi j) ∧ H 209 = (⟨v9, true, false, 63, 2, (List.map cT (l))⟩ : Blk) ∧ H 303 = (⟨v3 + 1, true, false, 63, 2, [[(V.sl (List.map cI (t.ni))), (V.sl (List.map cI (t.no)))]]⟩ : Blk) ∧ H 308 = (⟨v308 + 1, true, false, 63, 2, [[(V.sl (List.map cI ((nth (l) (k)).ni))), (V.sl (List.map cI ((nth (l) (k)).no)))]]⟩ : Blk) ∧ (H 354).ver = v54 ∧ (H 407).ver = v7 ∧ True) ?_ ?_
  ·
   unfold r103_8
   refine R_addN (m := k) (n := 1) t13 (@rfl V (iV ((1 : Nat) : Int))) (by omega) ?_
   refine R_mv (@rfl V (iV ((k + 1 : Nat) : Int))) ?_
   exact R_nil ⟨t0, t3, t6, t11, t12, rfl, hF, h209, h303, h308, h354, h407, trivial⟩
  intro T H ⟨t0, t3, t6, t11, t12, t13, hF, h209, h303, h308, h354, h407, _⟩
  refine p12 _ _ _ ?_ ⟨(k + 1), (v308 + 1), rfl, t0, t3, (Eq.trans t6 (by first | rfl | (simp only [exB, inP, Nat.zero_add]; done) | (rw [he]; done) | (rw [addL, if_pos d2]; done) | (rw [addL, if_neg d2, ins_len]; done) | (rw [addE, if_pos (by rw [hc, fi_hit d1 (by omega)]; omega)]; done) | (rw [addE, if_neg d4, if_neg d2, if_pos (by omega)]; done))), t11, t12, (Eq.trans t13 (by first | rfl | (simp only [exB, inP, Nat.zero_add]; done) | (rw [he]; done) | (rw [addL, if_pos d2]; done) | (rw [addL, if_neg d2, ins_len]; done) | (rw [addE, if_pos (by rw [hc, fi_hit d1 (by omega)]; omega)]; done) | (rw [addE, if_neg d4, if_neg d2, if_pos (by omega)]; done))), hF, h209, h303, (congrArg Blk.ver h308), h354, h407, ?_, ?_, ?_⟩
  · omega
  · omega
  · omega
  · rw [hc, fi_skip d1 (by omega)]
 refine W_seq_exit ?_
 refine p32 _ _ _ ?_
 refine x1 _ _ ?_
 refine .done ?_
 refine W_seq_seq ?_
 refine W_seq_regc (fun T H => T 0 = (V.ms 209 v9 0 (l.length)) ∧ T 3 = (V.mp 303 (v3 + 1) 0 0) ∧ T 36 = (V.bool (((exB (inP l t) 0 k) || decide (((t.ni.length : Nat) : Int) = (0 : Int))))) ∧ (∀ j, j ∉ [303, 308, 354, 407, 209] → H j = Hi j) ∧ H 209 = (⟨v9, true, false, 63, 2, (List.map cT (l))⟩ : Blk) ∧ H 303 = (⟨v3 + 1, true, false, 63, 2, [[(V.sl (List.map cI (t.ni))), (V.sl (List.map cI (t.no)))]]⟩ : Blk) ∧ (H 308).ver = v308 ∧ (H 354).ver = v54 ∧ (H 407).ver = v7 ∧ True) ?_ ?_
 ·
  unfold r103_9
  refine R_mv t6 ?_
  refine R_mv (@rfl V (V.bool (exB (inP l t) 0 k))) ?_
  refine Ops_seg 5 (fun T H => T 0 = (V.ms 209 v9 0 (l.length)) ∧ T 3 = (V.mp 303 (v3 + 1) 0 0) ∧ T 36 = (V.bool (((exB (inP l t) 0 k) || decide (((t.ni.length : Nat) : Int) = (0 : Int))))) ∧ (∀ j, j ∉ [303, 308, 354, 407, 209] → H j = Hi j) ∧ H 209 = (⟨v9, true, false, 63, 2, (List.map cT (l))⟩ : Blk) ∧ H 303 = (⟨v3 + 1, true, false, 63, 2, [[(V.sl (List.map cI (t.ni))), (V.sl (List.map cI (t.no)))]]⟩ : Blk) ∧ (H 308).ver = v308 ∧ (H 354).ver = v54 ∧ (H 407).ver = v7 ∧ True) ?_ ?_
  ·
   by_cases g7 : (exB (inP l t) 0 k) = true
   ·
    refine G_no (Eq.trans (@rfl V (V.bool (exB (inP l t) 0 k))) (bbT g7)) (by decide) ?_
    refine G_no (Eq.trans (@rfl V (V.bool (exB (inP l t) 0 k))) (bbT g7)) (by decide) ?_
    refine G_no (Eq.trans (@rfl V (V.bool (exB (inP l t) 0 k))) (bbT g7)) (by decide) ?_
    refine G_no (Eq.trans (@rfl V (V.bool (exB (inP l t) 0 k))) (bbT g7)) (by decide) ?_
    refine R_pickT (Eq.trans (@rfl V (V.bool (exB (inP l t) 0 k))) (bbT g7)) (@rfl V (V.bool true)) ?_
    exact ⟨t0, t3, (Eq.trans (@rfl V (V.bool true)) (borT g7)), hF, h209, h303, h308, h354, h407, trivial⟩
   ·
    refine G_yes (Eq.trans (@rfl V (V.bool (exB (inP l t) 0 k))) (bbF g7)) ?_
    refine R_fld_mp (o' := 0) t3 h303 (by first | rfl | simp [okB, Blk.own]) rfl ?_
    refine G_yes (Eq.trans (@rfl V (V.bool (exB (inP l t) 0 k))) (bbF g7)) ?_
    refine R_load_mp (v := (V.sl (List.map cI (t.ni)))) (@rfl V (V.mp 303 (v3 + 1) 0 0)) h303 (by first | rfl | simp [ldB, ldV, Blk.own, V.one]) ?_
    refine G_yes (Eq.trans (@rfl V (V.bool (exB (inP l t) 0 k))) (bbF g7)) ?_
    refine R_len (@rfl V (V.sl (List.map cI (t.ni)))) ?_
    refine G_yes (Eq.trans (@rfl V (V.bool (exB (inP l t) 0 k))) (bbF g7)) ?_
    refine R_eql (x := ((t.ni.length : Nat) : Int)) (y := (0 : Int)) (@rfl V (iV ((t.ni.length : Nat) : Int))) (@rfl V (iV (0 : Int))) ?_
    refine R_pickF (Eq.trans (@rfl V (V.bool (exB (inP l t) 0 k))) (bbF g7)) (@rfl V (V.bool (decide (((t.ni.length : Nat) : Int) = (0 : Int))))) ?_
    exact ⟨t0, t3, (Eq.trans (@rfl V (V.bool (decide (((t.ni.length : Nat) : Int) = (0 : Int))))) (borF g7)), hF, h209, h303, h308, h354, h407, trivial⟩
  intro T H ⟨t0, t3, t36, hF, h209, h303, h308, h354, h407, _⟩
  exact R_nil ⟨t0, t3, t36, hF, h209, h303, h308, h354, h407, trivial⟩
 intro T H ⟨t0, t3, t36, hF, h209, h303, h308, h354, h407, _⟩
 refine W_seq_ifb t36 (fun c8 => ?_) (fun c8 => ?_)
 ·
  have d2 : inL l t := by have q := c8; rw [show k = l.length by omega] at q; simpa [inL] using q
  refine W_seq_seq ?_
  refine W_seq_regc (fun T H => T 4 = (V.ms 209 v9 0 (l.length)) ∧ T 5 = (iV (0 : Int)) ∧ (∀ j, j ∉ [303, 308, 354, 407, 209] → H j = Hi j) ∧ H 209 = (⟨v9, true, false, 63, 2, (List.map cT (l))⟩ : Blk) ∧ H 303 = (⟨v3 + 1, true, false, 63, 2, [[(V.sl (List.map cI (t.ni))), (V.sl (List.map cI (t.no)))]]⟩ : Blk) ∧ (H 308).ver = v308 ∧ (H 354).ver = v54 ∧ (H 407).ver = v7 ∧ True) ?_ ?_
  ·
   unfold r103_10
   refine R_mv t0 ?_
   refine R_mv (@rfl V (V.ms 209 v9 0 (l.length))) ?_
   refine R_mv (@rfl V (iV (0 : Int))) ?_
   exact R_nil ⟨rfl, rfl, hF, h209, h303, h308, h354, h407, trivial⟩
  intro T H ⟨t4, t5, hF, h209, h303, h308, h354, h407, _⟩
  refine W_seq_ret ?_
  skip
  have fh := FinX.fin (FinX.put (B := (⟨v9 + 2, true, false, 63, 2, (List.map cT (addL l t))⟩ : Blk)) (FinX.putv (n := v7) (B := (⟨v7 + l.length, false, false, 0, 0, []⟩ : Blk)) (FinX.putv (n := v54) (B := (⟨v54 + 1, false, false, 0, 0, []⟩ : Blk)) (FinX.putv (n := v308) (B := (⟨v8 + l.length, false, false, 0, 0, []⟩ : Blk)) (FinX.putv (n := (v3 + 1)) (B := (⟨v3 + 1, false, false, 0, 0, []⟩ : Blk)) (FinX.start hF) (congrArg Blk.ver h303) (by show _ ≤ v3 + 1; omega) rfl) h308 (by show _ ≤ v8 + l.length; omega) rfl) h354 (by show _ ≤ v54 + 1; omega) rfl) h407 (by show _ ≤ v7 + l.length; omega) rfl) h209 (FinB.up (by omega) (by first | rfl | (rw [addL, if_pos d2]; done) | (rw [addL, if_neg d2]; done))))
  exact RetF_2 t4 t5 fh (FinV.trans_eq (FinV.ms (n := (v9 + 2)) fh (by simp [h209]) (by simp [h209]) rfl rfl) (by first | rfl | (simp only [exB, inP, Nat.zero_add]; done) | (rw [he]; done) | (rw [addL, if_pos d2]; done) | (rw [addL, if_neg d2, ins_len]; done) | (rw [addE, if_pos (by rw [hc, fi_hit d1 (by omega)]; omega)]; done) | (rw [addE, if_neg d4, if_neg d2, if_pos (by omega)]; done))) (FinV.trans_eq (FinV.same fh _) (by first | rfl | (simp only [exB, inP, Nat.zero_add]; done) | (rw [he]; done) | (rw [addL, if_pos d2]; done) | (rw [addL, if_neg d2, ins_len]; done) | (rw [addE, if_pos (by rw [hc, fi_hit d1 (by omega)]; omega)]; done) | (rw [addE, if_neg d4, if_neg d2, if_pos (by omega)]; done)))
 have d2 : ¬inL l t := by have q := c8; rw [show k = l.length by omega] at q; simpa [inL] using q
 refine W_seq_skip ?_
 refine W_seq_regc (fun T H => T 0 = (V.ms 209 v9 0 (((l.filter (kp t)).length))) ∧ T 3 = (V.mp 303 (v3 + 1) 0 0) ∧ (∀ j, j ∉ [303, 308, 354, 407, 209] → H j = Hi j) ∧ H 209 = (⟨v9, true, false, 63, 2, (List.map cT (l.filter (kp t)) ++ List.replicate (l.length - (l.filter (kp t)).length) [V.nilsl, V.nilsl])⟩ : Blk) ∧ H 303 = (⟨v3 + 1, true, false, 63, 2, [[(V.sl (List.map cI (t.ni))), (V.sl (List.map cI (t.no)))]]⟩ : Blk) ∧ (H 308).ver = v308 ∧ (H 354).ver = v54 ∧ H 407 = (⟨v7 + l.length, false, false, 0, 0, []⟩ : Blk) ∧ True) ?_ ?_
 ·
  unfold r103_11
  refine R_mv t0 ?_
  refine R_mkf (evcons t3 evnil) ?_
  refine R_callE (evcons (@rfl V (V.ms 209 v9 0 (l.length))) (evcons (@rfl V (V.fn 117 [] [(V.mp 303 (v3 + 1) 0 0)])) evnil)) (del_E l t v9 (v3 + 1) v7 _ h209 h303 h407 (by omega)) ?_
  refine R_mv (@rfl V (V.ms 209 v9 0 (((l.filter (kp t)).length)))) ?_
  exact R_nil ⟨rfl, t3, (upd_out (upd_out hF (by decide)) (by decide)), rfl, h303, h308, h354, rfl, trivial⟩
 intro T H ⟨t0, t3, hF, h209, h303, h308, h354, h407, _⟩
 refine W_seq_seq ?_
 refine W_seq_regc (fun T H => T 0 = (V.ms 209 v9 0 (((l.filter (kp t)).length))) ∧ T 3 = (V.mp 303 (v3 + 1) 0 0) ∧ T 43 = (V.bool (decide (((((l.filter (kp t)).length) : Nat) : Int) = (10000 : Int)))) ∧ (∀ j, j ∉ [303, 308, 354, 407, 209] → H j = Hi j) ∧ H 209 = (⟨v9, true, false, 63, 2, (List.map cT (l.filter (kp t)) ++ List.replicate (l.length - (l.filter (kp t)).length) [V.nilsl, V.nilsl])⟩ : Blk) ∧ H 303 = (⟨v3 + 1, true, false, 63, 2, [[(V.sl (List.map cI (t.ni))), (V.sl (List.map cI (t.no)))]]⟩ : Blk) ∧ (H 308).ver = v308 ∧ (H 354).ver = v54 ∧ H 407 = (⟨v7 + l.length, false, false, 0, 0, []⟩ : Blk) ∧ True) ?_ ?_
 ·
  unfold r103_12
  refine R_mv t0 ?_
  refine R_len_ms (@rfl V (V.ms 209 v9 0 (((l.filter (kp t)).length)))) h209 (by first | rfl | simp) ?_
  refine R_eql (x := ((((l.filter (kp t)).length) : Nat) : Int)) (y := (10000 : Int)) (@rfl V (iV ((((l.filter (kp t)).length) : Nat) : Int))) (@rfl V (iV (10000 : Int))) ?_
  exact R_nil ⟨t0, t3, rfl, hF, h209, h303, h308, h354, h407, trivial⟩
 intro T H ⟨t0, t3, t43, hF, h209, h303, h308, h354, h407, _⟩
 refine W_seq_if (p := ((((l.filter (kp t)).length) : Nat) : Int) = (10000 : Int)) t43 (fun c9 => ?_) (fun c9 => ?_)
 ·
  have d3 := c9
  refine W_seq_seq ?_
  refine W_seq_regc (fun T H => T 4 = V.nilsl ∧ T 5 = (iV (11 : Int)) ∧ (∀ j, j ∉ [303, 308, 354, 407, 209] → H j = Hi j) ∧ H 209 = (⟨v9, true, false, 63, 2, (List.map cT (l.filter (kp t)) ++ List.replicate (l.length - (l.filter (kp t)).length) [V.nilsl, V.nilsl])⟩ : Blk) ∧ H 303 = (⟨v3 + 1, true, false, 63, 2, [[(V.sl (List.map cI (t.ni))), (V.sl (List.map cI (t.no)))]]⟩ : Blk) ∧ (H 308).ver = v308 ∧ (H 354).ver = v54 ∧ H 407 = (⟨v7 + l.length, false, false, 0, 0, []⟩ : Blk) ∧ True) ?_ ?_
  ·
   unfold r103_13
   refine R_mv (@rfl V V.nilsl) ?_
   refine R_mv (@rfl V (iV (11 : Int))) ?_
   exact R_nil ⟨rfl, rfl, hF, h209, h303, h308, h354, h407, trivial⟩
  intro T H ⟨t4, t5, hF, h209, h303, h308, h354, h407, _⟩
  refine W_seq_ret ?_
  exfalso
  have d4 : ¬0 ≤ fi (ndP l t) 0 l.length := by rw [hc, fi_end (by omega)]; omega
  unfold addE at he
  rw [if_neg d4, if_neg d2, if_pos (by omega)] at he; cases he
 have d3 := c9
 refine W_seq_skip ?_
 refine W_seq_regc (fun T H => T 0 = (V.ms 209 v9 0 (((l.filter (kp t)).length))) ∧ T 3 = (V.mp 303 (v3 + 1) 0 0) ∧ T 9 = (iV ((lbN (l.filter (kp t)) t : Nat) : Int)) ∧ (∀ j, j ∉ [303, 308, 354, 407, 209] → H j = Hi j) ∧ H 209 = (⟨v9, true, false, 63, 2, (List.map cT (l.filter (kp t)) ++ List.replicate (l.length - (l.filter (kp t)).length) [V.nilsl, V.nilsl])⟩ : Blk) ∧ H 303 = (⟨v3 + 1, true, false, 63, 2, [[(V.sl (List.map cI (t.ni))), (V.sl (List.map cI (t.no)))]]⟩ : Blk) ∧ (H 308).ver = v308 ∧ (H 354).ver = v54 ∧ H 407 = (⟨v7 + l.length, false, false, 0, 0, []⟩ : Blk) ∧ True) ?_ ?_
 ·
  unfold r103_14
  refine R_mv t0 ?_
  refine R_load_mp (v := (V.agg [(V.sl (List.map cI (t.ni))), (V.sl (List.map cI (t.no)))])) t3 h303 (by first | rfl | simp [ldB, ldV, Blk.own, V.one]) ?_
  refine R_call (evcons (@rfl V (V.ms 209 v9 0 (((l.filter (kp t)).length)))) (evcons (@rfl V (V.agg [(V.sl (List.map cI (t.ni))), (V.sl (List.map cI (t.no)))])) (evcons (@rfl V (V.fn 79 [] [])) evnil))) (bs_pure (l.filter (kp t)) t hsr (by first | omega | assumption)) (mcons (fz_mst h209 (by first | rfl | simp) (take_zap (l := (l.filter (kp t))) (by first | rfl | simp | omega)) (fun _ => by simp)) (mcons (fzv_canon 6 _ (by simp [-List.map_take, -List.map_drop, -List.map_append, -List.map_reverse])) (mcons (fzv_canon 6 _ (by simp [-List.map_take, -List.map_drop, -List.map_append, -List.map_reverse])) rfl))) (by simp [-List.map_take, -List.map_drop, -List.map_append, -List.map_reverse]) (Or.inr rfl) ?_
  refine R_mv (@rfl V (V.tup [(iV ((lbN (l.filter (kp t)) t : Nat) : Int)), (V.bool (decide (lbN (l.filter (kp t)) t < (l.filter (kp t)).length ∧ slx (nth (l.filter (kp t)) (lbN (l.filter (kp t)) t)).ni t.ni = 0)))])) ?_
  refine R_ext (v := (iV ((lbN (l.filter (kp t)) t : Nat) : Int))) (@rfl V (V.tup [(iV ((lbN (l.filter (kp t)) t : Nat) : Int)), (V.bool (decide (lbN (l.filter (kp t)) t < (l.filter (kp t)).length ∧ slx (nth (l.filter (kp t)) (lbN (l.filter (kp t)) t)).ni t.ni = 0)))])) rfl ?_
  refine R_ext (v := (V.bool (decide (lbN (l.filter (kp t)) t < (l.filter (kp t)).length ∧ slx (nth (l.filter (kp t)) (lbN (l.filter (kp t)) t)).ni t.ni = 0)))) (@rfl V (V.tup [(iV ((lbN (l.filter (kp t)) t : Nat) : Int)), (V.bool (decide (lbN (l.filter (kp t)) t < (l.filter (kp t)).length ∧ slx (nth (l.filter (kp t)) (lbN (l.filter (kp t)) t)).ni t.ni = 0)))])) rfl ?_
  refine R_mv (@rfl V (iV ((lbN (l.filter (kp t)) t : Nat) : Int))) ?_
  refine R_mv (@rfl V (V.bool (decide (lbN (l.filter (kp t)) t < (l.filter (kp t)).length ∧ slx (nth (l.filter (kp t)) (lbN (l.filter (kp t)) t)).ni t.ni = 0)))) ?_
  exact R_nil ⟨t0, t3, rfl, hF, h209, h303, h308, h354, h407, trivial⟩
 intro T H ⟨t0, t3, t9, hF, h209, h303, h308, h354, h407, _⟩
 refine W_seq_regc (fun T H => T 4 = (V.ms 209 (v9 + 2) 0 ((l.filter (kp t)).length + 1)) ∧ T 5 = (iV (0 : Int)) ∧ (∀ j, j ∉ [303, 308, 354, 407, 209] → H j = Hi j) ∧ H 209 = (⟨v9 + 2, true, false, 63, 2, (List.map cT (ins (l.filter (kp t)) t))⟩ : Blk) ∧ H 303 = (⟨v3 + 1, true, false, 63, 2, [[(V.sl (List.map cI (t.ni))), (V.sl (List.map cI (t.no)))]]⟩ : Blk) ∧ (H 308).ver = v308 ∧ H 354 = (⟨v54 + 1, true, false, 63, 2, [[(V.sl (List.map cI (t.ni))), (V.sl (List.map cI (t.no)))]]⟩ : Blk) ∧ H 407 = (⟨v7 + l.length, false, false, 0, 0, []⟩ : Blk) ∧ True) ?_ ?_
 ·
  unfold r103_15
  refine R_mv t0 ?_
  refine R_mv t9 ?_
  refine R_load_mp (v := (V.agg [(V.sl (List.map cI (t.ni))), (V.sl (List.map cI (t.no)))])) t3 h303 (by first | rfl | simp [ldB, ldV, Blk.own, V.one]) ?_
  refine R_call (evcons (@rfl V (V.agg [(V.sl (List.map cI (t.ni))), (V.sl (List.map cI (t.no)))])) evnil) (copied_pure t (by first | omega | assumption) (by first | omega | assumption)) (fzv_mapcanon _ _ (by simp [-List.map_take, -List.map_drop, -List.map_append, -List.map_reverse])) (by simp [-List.map_take, -List.map_drop, -List.map_append, -List.map_reverse]) (Or.inl (by simp [-List.map_take, -List.map_drop, -List.map_append, -List.map_reverse])) ?_
  refine R_bslice_own (i := 354) (n := v54) (qs := [(0, (V.agg [(V.sl (List.map cI (t.ni))), (V.sl (List.map cI (t.no)))]))]) (rows := [[(V.sl (List.map cI (t.ni))), (V.sl (List.map cI (t.no)))]]) (by rfl) h354 (mcons (congrArg (fun v => (0, v)) (@rfl V (V.agg [(V.sl (List.map cI (t.ni))), (V.sl (List.map cI (t.no)))]))) rfl) rfl ?_
  refine R_callE (evcons (@rfl V (V.ms 209 v9 0 (((l.filter (kp t)).length)))) (evcons (@rfl V (iV ((lbN (l.filter (kp t)) t : Nat) : Int))) (evcons (@rfl V (V.ms 354 (v54 + 1) 0 (1))) evnil))) (insert_tr (F := (l.filter (kp t))) (t := t) _ h209 rfl (by omega) hsr) ?_
  refine R_mv (@rfl V (V.ms 209 (v9 + 2) 0 ((l.filter (kp t)).length + 1))) ?_
  refine R_mv (@rfl V (iV (0 : Int))) ?_
  exact R_nil ⟨rfl, rfl, (upd_out (upd_out hF (by decide)) (by decide)), rfl, h303, h308, rfl, h407, trivial⟩
 intro T H ⟨t4, t5, hF, h209, h303, h308, h354, h407, _⟩
 refine W_ret ?_
 skip
 have fh := FinX.fin (FinX.put (B := (⟨v9 + 2, true, false, 63, 2, (List.map cT (addL l t))⟩ : Blk)) (FinX.put (FinX.putv (n := (v54 + 1)) (B := (⟨v54 + 1, false, false, 0, 0, []⟩ : Blk)) (FinX.putv (n := v308) (B := (⟨v8 + l.length, false, false, 0, 0, []⟩ : Blk)) (FinX.putv (n := (v3 + 1)) (B := (⟨v3 + 1, false, false, 0, 0, []⟩ : Blk)) (FinX.start hF) (congrArg Blk.ver h303) (by show _ ≤ v3 + 1; omega) rfl) h308 (by show _ ≤ v8 + l.length; omega) rfl) (congrArg Blk.ver h354) (by show _ ≤ v54 + 1; omega) rfl) h407 (FinB.eq rfl)) h209 (FinB.eq (by first | rfl | (rw [addL, if_pos d2]; done) | (rw [addL, if_neg d2]; done))))
 exact RetF_2 t4 t5 fh (FinV.trans_eq (FinV.same fh _) (by first | rfl | (simp only [exB, inP, Nat.zero_add]; done) | (rw [he]; done) | (rw [addL, if_pos d2]; done) | (rw [addL, if_neg d2, ins_len]; done) | (rw [addE, if_pos (by rw [hc, fi_hit d1 (by omega)]; omega)]; done) | (rw [addE, if_neg d4, if_neg d2, if_pos (by omega)]; done))) (FinV.trans_eq (FinV.same fh _) (by first | rfl | (simp only [exB, inP, Nat.zero_add]; done) | (rw [he]; done) | (rw [addL, if_pos d2]; done) | (rw [addL, if_neg d2, ins_len]; done) | (rw [addE, if_pos (by rw [hc, fi_hit d1 (by omega)]; omega)]; done) | (rw [addE, if_neg d4, if_neg d2, if_pos (by omega)]; done)))
theorem add_err_E (l : List Tr) (t : Tr) (i : Int) (v9 v3 v8 v54 v7 : Nat) (ho : OK ⟨i, l⟩) (hpt : prE t i = 0) (he : addE l t ≠ 0) (Hi : Heap) (h209 : Hi 209 = (⟨v9, true, false, 63, 2, (List.map cT (l))⟩ : Blk)) (h303 : (Hi 303).ver = v3) (h308 : (Hi 308).ver = v8) (h354 : (Hi 354).ver = v54) (h407 : (Hi 407).ver = v7) : CallOK Try.prog 103 [(V.ms 209 v9 0 (l.length)), (V.agg [(V.sl (List.map cI (t.ni))), (V.sl (List.map cI (t.no)))])] Hi (V.tup [(V.sl []), (iV (addE l t))]) (upd (upd (upd (upd (upd Hi 303 (⟨v3 + 1, false, false, 0, 0, []⟩ : Blk)) 308 (⟨v8 + l.length, false, false, 0, 0, []⟩ : Blk)) 354 (⟨v54 + 1, false, false, 0, 0, []⟩ : Blk)) 407 (⟨v7 + l.length, false, false, 0, 0, []⟩ : Blk)) 209 (⟨v9 + 2, false, false, 0, 0, []⟩ : Blk)) := by
 refine CallOK_of_Wf (k0 := 300) Try.func103 s103_ok (by kernel_rfl) (by simp [s103]) fun hB => ?_
 simp only [bnd_map, bnd_int, bnd_bool, bnd_str, bnd_agg, bnd_pp, bnd_nil, bnd_cons, implies_true, and_true, true_and] at hB
 have hl : l.length ≤ 10000 := ho.len
 have hp1 := prE_ok hpt
 have hp2 := hp1.len
 have hp3 := hp1.lel
 have hpl : ∀ k, k < l.length → (nth l k).no.length = (nth l k).ni.length := fun k hk => ((ho.pr k hk).1.len)
 have hfl := List.length_filter_le (kp t) l
 have hsr : Srt (l.filter (kp t)) := filter_srt ho.srt _
 unfold s103
 dsimp only
 refine W_seq_regc (fun T H => T 0 = (V.ms 209 v9 0 (l.length)) ∧ T 3 = (V.mp 303 (v3 + 1) 0 0) ∧ (∀ j, j ∉ [303, 308, 354, 407, 209] → H j = Hi j) ∧ H 209 = (⟨v9, true, false, 63, 2, (List.map cT (l))⟩ : Blk) ∧ H 303 = (⟨v3 + 1, true, false, 63, 2, [[(V.sl (List.map cI (t.ni))), (V.sl (List.map cI (t.no)))]]⟩ : Blk) ∧ (H 308).ver = v8 ∧ (H 354).ver = v54 ∧ (H 407).ver = v7 ∧ True) ?_ ?_
 ·
  unfold r103_0
  refine R_box (i := 303) (n := v3) (m := 2) (cs := [(V.sl (List.map cI (t.ni))), (V.sl (List.map cI (t.no)))]) (by rfl) h303 (@rfl V (V.agg [(V.sl (List.map cI (t.ni))), (V.sl (List.map cI (t.no)))])) rfl rfl ?_
  refine R_mv (@rfl V V.nilsl) ?_
  refine R_mv (@rfl V (iV (0 : Int))) ?_
  exact R_nil ⟨rfl, rfl, (upd_out (fun _ _ => rfl) (by decide)), h209, rfl, h308, h354, h407, trivial⟩
 intro T H ⟨t0, t3, hF, h209, h303, h308, h354, h407, _⟩
 refine W_seq_regc (fun T H => T 0 = (V.ms 209 v9 0 (l.length)) ∧ T 3 = (V.mp 303 (v3 + 1) 0 0) ∧ T 6 = (V.bool false) ∧ (∀ j, j ∉ [303, 308, 354, 407, 209] → H j = Hi j) ∧ H 209 = (⟨v9, true, false, 63, 2, (List.map cT (l))⟩ : Blk) ∧ H 303 = (⟨v3 + 1, true, false, 63, 2, [[(V.sl (List.map cI (t.ni))), (V.sl (List.map cI (t.no)))]]⟩ : Blk) ∧ (H 308).ver = v8 ∧ (H 354).ver = v54 ∧ (H 407).ver = v7 ∧ True) ?_ ?_
 ·
  unfold r103_1
  refine R_mv (@rfl V (V.bool false)) ?_
  exact R_nil ⟨t0, t3, rfl, hF, h209, h303, h308, h354, h407, trivial⟩
 intro T H ⟨t0, t3, t6, hF, h209, h303, h308, h354, h407, _⟩
 refine W_seq_seq ?_
 refine W_seq_regc (fun T H => T 0 = (V.ms 209 v9 0 (l.length)) ∧ T 3 = (V.mp 303 (v3 + 1) 0 0) ∧ T 6 = (V.bool false) ∧ T 11 = (V.ms 209 v9 0 (l.length)) ∧ T 12 = (iV ((l.length : Nat) : Int)) ∧ T 13 = (iV (0 : Int)) ∧ (∀ j, j ∉ [303, 308, 354, 407, 209] → H j = Hi j) ∧ H 209 = (⟨v9, true, false, 63, 2, (List.map cT (l))⟩ : Blk) ∧ H 303 = (⟨v3 + 1, true, false, 63, 2, [[(V.sl (List.map cI (t.ni))), (V.sl (List.map cI (t.no)))]]⟩ : Blk) ∧ (H 308).ver = v8 ∧ (H 354).ver = v54 ∧ (H 407).ver = v7 ∧ True) ?_ ?_
 ·
  unfold r103_2
  refine R_mv t0 ?_
  refine R_len_ms (@rfl V (V.ms 209 v9 0 (l.length))) h209 (by first | rfl | simp) ?_
  refine R_mv (@rfl V (iV (0 : Int))) ?_
  exact R_nil ⟨t0, t3, t6, rfl, rfl, rfl, hF, h209, h303, h308, h354, h407, trivial⟩
 intro T H ⟨t0, t3, t6, t11, t12, t13, hF, h209, h303, h308, h354, h407, _⟩
 refine W_seq_blockg fun Q1 n1 x1 y1 z1 => ?_
 refine W_loop (fun mm T H => ∃ (k : Nat) (v308 : Nat), mm = l.length - k ∧ T 0 = (V.ms 209 v9 0 (l.length)) ∧ T 3 = (V.mp 303 (v3 + 1) 0 0) ∧ T 6 = (V.bool (exB (inP l t) 0 k)) ∧ T 11 = (V.ms 209 v9 0 (l.length)) ∧ T 12 = (iV ((l.length : Nat) : Int)) ∧ T 13 = (iV ((k : Nat) : Int)) ∧ (∀ j, j ∉ [303, 308, 354, 407, 209] → H j = Hi j) ∧ H 209 = (⟨v9, true, false, 63, 2, (List.map cT (l))⟩ : Blk) ∧ H 303 = (⟨v3 + 1, true, false, 63, 2, [[(V.sl (List.map cI (t.ni))), (V.sl (List.map cI (t.no)))]]⟩ : Blk) ∧ (H 308).ver = v308 ∧ (H 354).ver = v54 ∧ (H 407).ver = v7 ∧ (k ≤ l.length) ∧ (v308 ≤ v8 + k) ∧ (fi (ndP l t) 0 l.length = fi (ndP l t) k (l.length - k))) ?_ ?_
 ·
  refine ⟨_, 0, v8, rfl, t0, t3, (Eq.trans t6 (by first | rfl | (simp only [exB, inP, Nat.zero_add]; done) | (rw [he]; done) | (rw [addL, if_pos d2]; done) | (rw [addL, if_neg d2, ins_len]; done) | (rw [addE, if_pos (by rw [hc, fi_hit d1 (by omega)]; omega)]; done) | (rw [addE, if_neg d4, if_neg d2, if_pos (by omega)]; done))), t11, t12, (Eq.trans t13 (by first | rfl | (simp only [exB, inP, Nat.zero_add]; done) | (rw [he]; done) | (rw [addL, if_pos d2]; done) | (rw [addL, if_neg d2, ins_len]; done) | (rw [addE, if_pos (by rw [hc, fi_hit d1 (by omega)]; omega)]; done) | (rw [addE, if_neg d4, if_neg d2, if_pos (by omega)]; done))), hF, h209, h303, h308, h354, h407, ?_, ?_, ?_⟩
  · omega
  · omega
  · rfl
 intro mm T H ⟨k, v308, hmm, t0, t3, t6, t11, t12, t13, hF, h209, h303, h308, h354, h407, hk, hv8, hc⟩ Q2 p12 p22 p32
 unfold b103_0
 refine W_seq_regc (fun T H => T 0 = (V.ms 209 v9 0 (l.length)) ∧ T 3 = (V.mp 303 (v3 + 1) 0 0) ∧ T 6 = (V.bool (exB (inP l t) 0 k)) ∧ T 11 = (V.ms 209 v9 0 (l.length)) ∧ T 12 = (iV ((l.length : Nat) : Int)) ∧ T 13 = (iV ((k : Nat) : Int)) ∧ T 14 = (V.bool (decide (((k : Nat) : Int) < ((l.length : Nat) : Int)))) ∧ (∀ j, j ∉ [303, 308, 354, 407, 209] → H j = Hi j) ∧ H 209 = (⟨v9, true, false, 63, 2, (List.map cT (l))⟩ : Blk) ∧ H 303 = (⟨v3 + 1, true, false, 63, 2, [[(V.sl (List.map cI (t.ni))), (V.sl (List.map cI (t.no)))]]⟩ : Blk) ∧ (H 308).ver = v308 ∧ (H 354).ver = v54 ∧ (H 407).ver = v7 ∧ True) ?_ ?_
 ·
  unfold r103_3
  refine R_lss (x := ((k : Nat) : Int)) (y := ((l.length : Nat) : Int)) t13 t12 ?_
  exact R_nil ⟨t0, t3, t6, t11, t12, t13, rfl, hF, h209, h303, h308, h354, h407, trivial⟩
 intro T H ⟨t0, t3, t6, t11, t12, t13, t14, hF, h209, h303, h308, h354, h407, _⟩
 refine W_seq_if (p := ((k : Nat) : Int) < ((l.length : Nat) : Int)) t14 (fun c3 => ?_) (fun c3 => ?_)
 ·
  refine W_seq_skip ?_
  refine W_seq_blockg fun Q4 n4 x4 y4 z4 => ?_
  refine W_seq_regc (fun T H => T 0 = (V.ms 209 v9 0 (l.length)) ∧ T 3 = (V.mp 303 (v3 + 1) 0 0) ∧ T 6 = (V.bool (exB (inP l t) 0 k)) ∧ T 8 = (V.mp 308 (v308 + 1) 0 0) ∧ T 11 = (V.ms 209 v9 0 (l.length)) ∧ T 12 = (iV ((l.length : Nat) : Int)) ∧ T 13 = (iV ((k : Nat) : Int)) ∧ (∀ j, j ∉ [303, 308, 354, 407, 209] → H j = Hi j) ∧ H 209 = (⟨v9, true, false, 63, 2, (List.map cT (l))⟩ : Blk) ∧ H 303 = (⟨v3 + 1, true, false, 63, 2, [[(V.sl (List.map cI (t.ni))), (V.sl (List.map cI (t.no)))]]⟩ : Blk) ∧ H 308 = (⟨v308 + 1, true, false, 63, 2, [[(V.sl (List.map cI ((nth (l) (k)).ni))), (V.sl (List.map cI ((nth (l) (k)).no)))]]⟩ : Blk) ∧ (H 354).ver = v54 ∧ (H 407).ver = v7 ∧ True) ?_ ?_
  ·
   unfold r103_4
   refine R_idx_ms0 (i := k) t11 t13 h209 (okB_map (by omega)) rfl (by omega) ?_
   refine R_load_mp (v := (V.agg [(V.sl (List.map cI ((nth (l) (k)).ni))), (V.sl (List.map cI ((nth (l) (k)).no)))])) (@rfl V (V.mp 209 v9 k 0)) h209 (ldB_map (by omega) (by first | rfl | simp [ldV, V.one])) ?_
   refine R_alloc (i := 308) (n := v308) (m := 2) (by rfl) h308 rfl ?_
   refine R_store (vs := [(V.sl (List.map cI ((nth (l) (k)).ni))), (V.sl (List.map cI ((nth (l) (k)).no)))]) (B' := (⟨v308 + 1, true, false, 63, 2, [[(V.sl (List.map cI ((nth (l) (k)).ni))), (V.sl (List.map cI ((nth (l) (k)).no)))]]⟩ : Blk)) (@rfl V (V.mp 308 (v308 + 1) 0 0)) (@rfl V (V.agg [(V.sl (List.map cI ((nth (l) (k)).ni))), (V.sl (List.map cI ((nth (l) (k)).no)))])) rfl (@rfl Blk (⟨v308 + 1, true, false, 63, 2, [[V.nilsl, V.nilsl]]⟩ : Blk)) (by first | rfl | simp [stB, okB, Blk.own, putAt, V.one]) ?_
   exact R_nil ⟨t0, t3, t6, rfl, t11, t12, t13, (upd_out (upd_out hF (by decide)) (by decide)), h209, h303, rfl, h354, h407, trivial⟩
  intro T H ⟨t0, t3, t6, t8, t11, t12, t13, hF, h209, h303, h308, h354, h407, _⟩
  refine W_seq_seq ?_
  refine W_seq_regc (fun T H => T 0 = (V.ms 209 v9 0 (l.length)) ∧ T 3 = (V.mp 303 (v3 + 1) 0 0) ∧ T 6 = (V.bool (exB (inP l t) 0 k)) ∧ T 8 = (V.mp 308 (v308 + 1) 0 0) ∧ T 11 = (V.ms 209 v9 0 (l.length)) ∧ T 12 = (iV ((l.length : Nat) : Int)) ∧ T 13 = (iV ((k : Nat) : Int)) ∧ T 20 = (V.bool (decide ((0 : Int) ≤ (df ((nth (l) (k))) t)))) ∧ (∀ j, j ∉ [303, 308, 354, 407, 209] → H j = Hi j) ∧ H 209 = (⟨v9, true, false, 63, 2, (List.map cT (l))⟩ : Blk) ∧ H 303 = (⟨v3 + 1, true, false, 63, 2, [[(V.sl (List.map cI (t.ni))), (V.sl (List.map cI (t.no)))]]⟩ : Blk) ∧ H 308 = (⟨v308 + 1, true, false, 63, 2, [[(V.sl (List.map cI ((nth (l) (k)).ni))), (V.sl (List.map cI ((nth (l) (k)).no)))]]⟩ : Blk) ∧ (H 354).ver = v54 ∧ (H 407).ver = v7 ∧ True) ?_ ?_
  ·
   unfold r103_5
   refine R_load_mp (v := (V.agg [(V.sl (List.map cI ((nth (l) (k)).ni))), (V.sl (List.map cI ((nth (l) (k)).no)))])) t8 h308 (by first | rfl | simp [ldB, ldV, Blk.own, V.one]) ?_
   refine R_load_mp (v := (V.agg [(V.sl (List.map cI (t.ni))), (V.sl (List.map cI (t.no)))])) t3 h303 (by first | rfl | simp [ldB, ldV, Blk.own, V.one]) ?_
   refine R_call (evcons (@rfl V (V.agg [(V.sl (List.map cI ((nth (l) (k)).ni))), (V.sl (List.map cI ((nth (l) (k)).no)))])) (evcons (@rfl V (V.agg [(V.sl (List.map cI (t.ni))), (V.sl (List.map cI (t.no)))])) evnil)) (odiffer_pure ((nth (l) (k))) t (hpl k (by omega)) hp1.len) (fzv_mapcanon _ _ (by simp [-List.map_take, -List.map_drop, -List.map_append, -List.map_reverse])) (by simp [-List.map_take, -List.map_drop, -List.map_append, -List.map_reverse]) (Or.inl (by simp [-List.map_take, -List.map_drop, -List.map_append, -List.map_reverse])) ?_
   refine R_geq (x := (df ((nth (l) (k))) t)) (y := (0 : Int)) (@rfl V (iV (df ((nth (l) (k))) t))) (@rfl V (iV (0 : Int))) ?_
   exact R_nil ⟨t0, t3, t6, t8, t11, t12, t13, rfl, hF, h209, h303, h308, h354, h407, trivial⟩
  intro T H ⟨t0, t3, t6, t8, t11, t12, t13, t20, hF, h209, h303, h308, h354, h407, _⟩
  refine W_seq_if (p := (0 : Int) ≤ (df ((nth (l) (k))) t)) t20 (fun c5 => ?_) (fun c5 => ?_)
  ·
   have d1 : ndP l t k = true := decide_eq_true c5
   refine W_seq_seq ?_
   refine W_seq_regc (fun T H => T 4 = V.nilsl ∧ T 5 = (iV (13 : Int)) ∧ (∀ j, j ∉ [303, 308, 354, 407, 209] → H j = Hi j) ∧ H 209 = (⟨v9, true, false, 63, 2, (List.map cT (l))⟩ : Blk) ∧ H 303 = (⟨v3 + 1, true, false, 63, 2, [[(V.sl (List.map cI (t.ni))), (V.sl (List.map cI (t.no)))]]⟩ : Blk) ∧ H 308 = (⟨v308 + 1, true, false, 63, 2, [[(V.sl (List.map cI ((nth (l) (k)).ni))), (V.sl (List.map cI ((nth (l) (k)).no)))]]⟩ : Blk) ∧ (H 354).ver = v54 ∧ (H 407).ver = v7 ∧ True) ?_ ?_
   ·
    unfold r103_6
    refine R_mv (@rfl V V.nilsl) ?_
    refine R_mv (@rfl V (iV (13 : Int))) ?_
    exact R_nil ⟨rfl, rfl, hF, h209, h303, h308, h354, h407, trivial⟩
   intro T H ⟨t4, t5, hF, h209, h303, h308, h354, h407, _⟩
   refine W_seq_ret ?_
   refine y4 _ _ ?_
   refine p22 _ _ ?_
   refine y1 _ _ ?_
   skip
   have fh := FinX.fin (FinX.putv (n := v9) (B := (⟨v9 + 2, false, false, 0, 0, []⟩ : Blk)) (FinX.putv (n := v7) (B := (⟨v7 + l.length, false, false, 0, 0, []⟩ : Blk)) (FinX.putv (n := v54) (B := (⟨v54 + 1, false, false, 0, 0, []⟩ : Blk)) (FinX.putv (n := (v308 + 1)) (B := (⟨v8 + l.length, false, false, 0, 0, []⟩ : Blk)) (FinX.putv (n := (v3 + 1)) (B := (⟨v3 + 1, false, false, 0, 0, []⟩ : Blk)) (FinX.start hF) (congrArg Blk.ver h303) (by show _ ≤ v3 + 1; omega) rfl) (congrArg Blk.ver h308) (by show _ ≤ v8 + l.length; omega) rfl) h354 (by show _ ≤ v54 + 1; omega) rfl) h407 (by show _ ≤ v7 + l.length; omega) rfl) (congrArg Blk.ver h209) (by show _ ≤ v9 + 2; omega) rfl)
   exact RetF_2 t4 t5 fh .nil (FinV.trans_eq (FinV.same fh _) (by first | rfl | (simp only [exB, inP, Nat.zero_add]; done) | (rw [he]; done) | (rw [addL, if_pos d2]; done) | (rw [addL, if_neg d2, ins_len]; done) | (rw [addE, if_pos (by rw [hc, fi_hit d1 (by omega)]; omega)]; done) | (rw [addE, if_neg d4, if_neg d2, if_pos (by omega)]; done)))
  have d1 : ndP l t k = false := decide_eq_false c5
  refine W_seq_skip ?_
  refine W_regc (fun T H => T 0 = (V.ms 209 v9 0 (l.length)) ∧ T 3 = (V.mp 303 (v3 + 1) 0 0) ∧ T 6 = (V.bool (((exB (inP l t) 0 k) || (hp ((nth (l) (k)).ni) t.ni)))) ∧ T 11 = (V.ms 209 v9 0 (l.length)) ∧ T 12 = (iV ((l.length : Nat) : Int)) ∧ T 13 = (iV ((k : Nat) : Int)) ∧ (∀ j, j ∉ [303, 308, 354, 407, 209] → H j = Hi j) ∧ H 209 = (⟨v9, true, false, 63, 2, (List.map cT (l))⟩ : Blk) ∧ H 303 = (⟨v3 + 1, true, false, 63, 2, [[(V.sl (List.map cI (t.ni))), (V.sl (List.map cI (t.no)))]]⟩ : Blk) ∧ H 308 = (⟨v308 + 1, true, false, 63, 2, [[(V.sl (List.map cI ((nth (l) (k)).ni))), (V.sl (List.map cI ((nth (l) (k)).no)))]]⟩ : Blk) ∧ (H 354).ver = v54 ∧ (H 407).ver = v7 ∧ True) ?_ ?_
  ·
   unfold r103_7
   refine R_mv t6 ?_
   refine R_mv (@rfl V (V.bool (exB (inP l t) 0 k))) ?_
   refine Ops_seg 6 (fun T H => T 0 = (V.ms 209 v9 0 (l.length)) ∧ T 3 = (V.mp 303 (v3 + 1) 0 0) ∧ T 6 = (V.bool (exB (inP l t) 0 k)) ∧ T 11 = (V.ms 209 v9 0 (l.length)) ∧ T 12 = (iV ((l.length : Nat) : Int)) ∧ T 13 = (iV ((k : Nat) : Int)) ∧ T 28 = (V.bool (((exB (inP l t) 0 k) || (hp ((nth (l) (k)).ni) t.ni)))) ∧ (∀ j, j ∉ [303, 308, 354, 407, 209] → H j = Hi j) ∧ H 209 = (⟨v9, true, false, 63, 2, (List.map cT (l))⟩ : Blk) ∧ H 303 = (⟨v3 + 1, true, false, 63, 2, [[(V.sl (List.map cI (t.ni))), (V.sl (List.map cI (t.no)))]]⟩ : Blk) ∧ H 308 = (⟨v308 + 1, true, false, 63, 2, [[(V.sl (List.map cI ((nth (l) (k)).ni))), (V.sl (List.map cI ((nth (l) (k)).no)))]]⟩ : Blk) ∧ (H 354).ver = v54 ∧ (H 407).ver = v7 ∧ True) ?_ ?_
   ·
    by_cases g6 : (exB (inP l t) 0 k) = true
    ·
     refine G_no (Eq.trans (@rfl V (V.bool (exB (inP l t) 0 k))) (bbT g6)) (by decide) ?_
     refine G_no (Eq.trans (@rfl V (V.bool (exB (inP l t) 0 k))) (bbT g6)) (by decide) ?_
     refine G_no (Eq.trans (@rfl V (V.bool (exB (inP l t) 0 k))) (bbT g6)) (by decide) ?_
     refine G_no (Eq.trans (@rfl V (V.bool (exB (inP l t) 0 k))) (bbT g6)) (by decide) ?_
     refine G_no (Eq.trans (@rfl V (V.bool (exB (inP l t) 0 k))) (bbT g6)) (by decide) ?_
     refine R_pickT (Eq.trans (@rfl V (V.bool (exB (inP l t) 0 k))) (bbT g6)) (@rfl V (V.bool true)) ?_
     exact ⟨t0, t3, t6, t11, t12, t13, (Eq.trans (@rfl V (V.bool true)) (borT g6)), hF, h209, h303, h308, h354, h407, trivial⟩
    ·
     refine G_yes (Eq.trans (@rfl V (V.bool (exB (inP l t) 0 k))) (bbF g6)) ?_
     refine R_fld_mp (o' := 0) t8 h308 (by first | rfl | simp [okB, Blk.own]) rfl ?_
     refine G_yes (Eq.trans (@rfl V (V.bool (exB (inP l t) 0 k))) (bbF g6)) ?_
     refine R_load_mp (v := (V.sl (List.map cI ((nth (l) (k)).ni)))) (@rfl V (V.mp 308 (v308 + 1) 0 0)) h308 (by first | rfl | simp [ldB, ldV, Blk.own, V.one]) ?_
     refine G_yes (Eq.trans (@rfl V (V.bool (exB (inP l t) 0 k))) (bbF g6)) ?_
     refine R_fld_mp (o' := 0) t3 h303 (by first | rfl | simp [okB, Blk.own]) rfl ?_
     refine G_yes (Eq.trans (@rfl V (V.bool (exB (inP l t) 0 k))) (bbF g6)) ?_
     refine R_load_mp (v := (V.sl (List.map cI (t.ni)))) (@rfl V (V.mp 303 (v3 + 1) 0 0)) h303 (by first | rfl | simp [ldB, ldV, Blk.own, V.one]) ?_
     refine G_yes (Eq.trans (@rfl V (V.bool (exB (inP l t) 0 k))) (bbF g6)) ?_
     refine R_call (evcons (@rfl V (V.sl (List.map cI ((nth (l) (k)).ni)))) (evcons (@rfl V (V.sl (List.map cI (t.ni)))) evnil)) (hp_pure ((nth (l) (k)).ni) t.ni) (fzv_mapcanon _ _ (by simp [-List.map_take, -List.map_drop, -List.map_append, -List.map_reverse])) (by simp [-List.map_take, -List.map_drop, -List.map_append, -List.map_reverse]) (Or.inl (by simp [-List.map_take, -List.map_drop, -List.map_append, -List.map_reverse])) ?_
     refine R_pickF (Eq.trans (@rfl V (V.bool (exB (inP l t) 0 k))) (bbF g6)) (@rfl V (V.bool (hp ((nth (l) (k)).ni) t.ni))) ?_
     exact ⟨t0, t3, t6, t11, t12, t13, (Eq.trans (@rfl V (V.bool (hp ((nth (l) (k)).ni) t.ni))) (borF g6)), hF, h209, h303, h308, h354, h407, trivial⟩
   intro T H ⟨t0, t3, t6, t11, t12, t13, t28, hF, h209, h303, h308, h354, h407, _⟩
   refine R_mv t28 ?_
   exact R_nil ⟨t0, t3, rfl, t11, t12, t13, hF, h209, h303, h308, h354, h407, trivial⟩
  intro T H ⟨t0, t3, t6, t11, t12, t13, hF, h209, h303, h308, h354, h407, _⟩
  refine n4 _ _ ?_
  refine .done ?_
  refine W_regc (fun T H => T 0 = (V.ms 209 v9 0 (l.length)) ∧ T 3 = (V.mp 303 (v3 + 1) 0 0) ∧ T 6 = (V.bool (((exB (inP l t) 0 k) || (hp ((nth (l) (k)).ni) t.ni)))) ∧ T 11 = (V.ms 209 v9 0 (l.length)) ∧ T 12 = (iV ((l.length : Nat) : Int)) ∧ T 13 = (iV ((k + 1 : Nat) : Int)) ∧ (∀ j, j ∉ [303, 308, 354, 407, 209] → H j = Hi j) ∧ H 209 = (⟨v9, true, false, 63, 2, (List.map cT (l))⟩ : Blk) ∧ H 303 = (⟨v3 + 1, true, false, 63, 2, [[(V.sl (List.map cI (t.ni))), (V.sl (List.map cI (t.no)))]]⟩ : Blk) ∧ H 308 = (⟨v308 + 1, true, false, 63, 2, [[(V.sl (List.map cI ((nth (l) (k)).ni))), (V.sl (List.map cI ((nth (l) (k)).no)))]]⟩ : Blk) ∧ (H 354).ver = v54 ∧ (H 407).ver = v7 ∧ True) ?_ ?_
  ·
   unfold r103_8
   refine R_addN (m := k) (n := 1) t13 (@rfl V (iV ((1 : Nat) : Int))) (by omega) ?_
   refine R_mv (@rfl V (iV ((k + 1 : Nat) : Int))) ?_
   exact R_nil ⟨t0, t3, t6, t11, t12, rfl, hF, h209, h303, h308, h354, h407, trivial⟩
  intro T H ⟨t0, t3, t6, t11, t12, t13, hF, h209, h303, h308, h354, h407, _⟩
  refine p12 _ _ _ ?_ ⟨(k + 1), (v308 + 1), rfl, t0, t3, (Eq.trans t6 (by first | rfl | (simp only [exB, inP, Nat.zero_add]; done) | (rw [he]; done) | (rw [addL, if_pos d2]; done) | (rw [addL, if_neg d2, ins_len]; done) | (rw [addE, if_pos (by rw [hc, fi_hit d1 (by omega)]; omega)]; done) | (rw [addE, if_neg d4, if_neg d2, if_pos (by omega)]; done))), t11, t12, (Eq.trans t13 (by first | rfl | (simp only [exB, inP, Nat.zero_add]; done) | (rw [he]; done) | (rw [addL, if_pos d2]; done) | (rw [addL, if_neg d2, ins_len]; done) | (rw [addE, if_pos (by rw [hc, fi_hit d1 (by omega)]; omega)]; done) | (rw [addE, if_neg d4, if_neg d2, if_pos (by omega)]; done))), hF, h209, h303, (congrArg Blk.ver h308), h354, h407, ?_, ?_, ?_⟩
  · omega
  · omega
  · omega
  · rw [hc, fi_skip d1 (by omega)]
 refine W_seq_exit ?_
 refine p32 _ _ _ ?_
 refine x1 _ _ ?_
 refine .done ?_
 refine W_seq_seq ?_
 refine W_seq_regc (fun T H => T 0 = (V.ms 209 v9 0 (l.length)) ∧ T 3 = (V.mp 303 (v3 + 1) 0 0) ∧ T 36 = (V.bool (((exB (inP l t) 0 k) || decide (((t.ni.length : Nat) : Int) = (0 : Int))))) ∧ (∀ j, j ∉ [303, 308, 354, 407, 209] → H j = Hi j) ∧ H 209 = (⟨v9, true, false, 63, 2, (List.map cT (l))⟩ : Blk) ∧ H 303 = (⟨v3 + 1, true, false, 63, 2, [[(V.sl (List.map cI (t.ni))), (V.sl (List.map cI (t.no)))]]⟩ : Blk) ∧ (H 308).ver = v308 ∧ (H 354).ver = v54 ∧ (H 407).ver = v7 ∧ True) ?_ ?_
 ·
  unfold r103_9
  refine R_mv t6 ?_
  refine R_mv (@rfl V (V.bool (exB (inP l t) 0 k))) ?_
  refine Ops_seg 5 (fun T H => T 0 = (V.ms 209 v9 0 (l.length)) ∧ T 3 = (V.mp 303 (v3 + 1) 0 0) ∧ T 36 = (V.bool (((exB (inP l t) 0 k) || decide (((t.ni.length : Nat) : Int) = (0 : Int))))) ∧ (∀ j, j ∉ [303, 308, 354, 407, 209] → H j = Hi j) ∧ H 209 = (⟨v9, true, false, 63, 2, (List.map cT (l))⟩ : Blk) ∧ H 303 = (⟨v3 + 1, true, false, 63, 2, [[(V.sl (List.map cI (t.ni))), (V.sl (List.map cI (t.no)))]]⟩ : Blk) ∧ (H 308).ver = v308 ∧ (H 354).ver = v54 ∧ (H 407).ver = v7 ∧ True) ?_ ?_
  ·
   by_cases g7 : (exB (inP l t) 0 k) = true
   ·
    refine G_no (Eq.trans (@rfl V (V.bool (exB (inP l t) 0 k))) (bbT g7)) (by decide) ?_
    refine G_no (Eq.trans (@rfl V (V.bool (exB (inP l t) 0 k))) (bbT g7)) (by decide) ?_
    refine G_no (Eq.trans (@rfl V (V.bool (exB (inP l t) 0 k))) (bbT g7)) (by decide) ?_
    refine G_no (Eq.trans (@rfl V (V.bool (exB (inP l t) 0 k))) (bbT g7)) (by decide) ?_
    refine R_pickT (Eq.trans (@rfl V (V.bool (exB (inP l t) 0 k))) (bbT g7)) (@rfl V (V.bool true)) ?_
    exact ⟨t0, t3, (Eq.trans (@rfl V (V.bool true)) (borT g7)), hF, h209, h303, h308, h354, h407, trivial⟩
   ·
    refine G_yes (Eq.trans (@rfl V (V.bool (exB (inP l t) 0 k))) (bbF g7)) ?_
    refine R_fld_mp (o' := 0) t3 h303 (by first | rfl | simp [okB, Blk.own]) rfl ?_
    refine G_yes (Eq.trans (@rfl V (V.bool (exB (inP l t) 0 k))) (bbF g7)) ?_
    refine R_load_mp (v := (V.sl (List.map cI (t.ni)))) (@rfl V (V.mp 303 (v3 + 1) 0 0)) h303 (by first | rfl | simp [ldB, ldV, Blk.own, V.one]) ?_
    refine G_yes (Eq.trans (@rfl V (V.bool (exB (inP l t) 0 k))) (bbF g7)) ?_
    refine R_len (@rfl V (V.sl (List.map cI (t.ni)))) ?_
    refine G_yes (Eq.trans (@rfl V (V.bool (exB (inP l t) 0 k))) (bbF g7)) ?_
    refine R_eql (x := ((t.ni.length : Nat) : Int)) (y := (0 : Int)) (@rfl V (iV ((t.ni.length : Nat) : Int))) (@rfl V (iV (0 : Int))) ?_
    refine R_pickF (Eq.trans (@rfl V (V.bool (exB (inP l t) 0 k))) (bbF g7)) (@rfl V (V.bool (decide (((t.ni.length : Nat) : Int) = (0 : Int))))) ?_
    exact ⟨t0, t3, (Eq.trans (@rfl V (V.bool (decide (((t.ni.length : Nat) : Int) = (0 : Int))))) (borF g7)), hF, h209, h303, h308, h354, h407, trivial⟩
  intro T H ⟨t0, t3, t36, hF, h209, h303, h308, h354, h407, _⟩
  exact R_nil ⟨t0, t3, t36, hF, h209, h303, h308, h354, h407, trivial⟩
 intro T H ⟨t0, t3, t36, hF, h209, h303, h308, h354, h407, _⟩
 refine W_seq_ifb t36 (fun c8 => ?_) (fun c8 => ?_)
 ·
  have d2 : inL l t := by have q := c8; rw [show k = l.length by omega] at q; simpa [inL] using q
  refine W_seq_seq ?_
  refine W_seq_regc (fun T H => T 4 = (V.ms 209 v9 0 (l.length)) ∧ T 5 = (iV (0 : Int)) ∧ (∀ j, j ∉ [303, 308, 354, 407, 209] → H j = Hi j) ∧ H 209 = (⟨v9, true, false, 63, 2, (List.map cT (l))⟩ : Blk) ∧ H 303 = (⟨v3 + 1, true, false, 63, 2, [[(V.sl (List.map cI (t.ni))), (V.sl (List.map cI (t.no)))]]⟩ : Blk) ∧ (H 308).ver = v308 ∧ (H 354).ver = v54 ∧ (H 407).ver = v7 ∧ True) ?_ ?_
  ·
   unfold r103_10
   refine R_mv t0 ?_
   refine R_mv (@rfl V (V.ms 209 v9 0 (l.length))) ?_
   refine R_mv (@rfl V (iV (0 : Int))) ?_
   exact R_nil ⟨rfl, rfl, hF, h209, h303, h308, h354, h407, trivial⟩
  intro T H ⟨t4, t5, hF, h209, h303, h308, h354, h407, _⟩
  refine W_seq_ret ?_
  exfalso
  have d4 : ¬0 ≤ fi (ndP l t) 0 l.length := by rw [hc, fi_end (by omega)]; omega
  apply he; rw [addE, if_neg d4, if_pos d2]
 have d2 : ¬inL l t := by have q := c8; rw [show k = l.length by omega] at q; simpa [inL] using q
 refine W_seq_skip ?_
 refine W_seq_regc (fun T H => T 0 = (V.ms 209 v9 0 (((l.filter (kp t)).length))) ∧ T 3 = (V.mp 303 (v3 + 1) 0 0) ∧ (∀ j, j ∉ [303, 308, 354, 407, 209] → H j = Hi j) ∧ H 209 = (⟨v9, true, false, 63, 2, (List.map cT (l.filter (kp t)) ++ List.replicate (l.length - (l.filter (kp t)).length) [V.nilsl, V.nilsl])⟩ : Blk) ∧ H 303 = (⟨v3 + 1, true, false, 63, 2, [[(V.sl (List.map cI (t.ni))), (V.sl (List.map cI (t.no)))]]⟩ : Blk) ∧ (H 308).ver = v308 ∧ (H 354).ver = v54 ∧ H 407 = (⟨v7 + l.length, false, false, 0, 0, []⟩ : Blk) ∧ True) ?_ ?_
 ·
  unfold r103_11
  refine R_mv t0 ?_
  refine R_mkf (evcons t3 evnil) ?_
  refine R_callE (evcons (@rfl V (V.ms 209 v9 0 (l.length))) (evcons (@rfl V (V.fn 117 [] [(V.mp 303 (v3 + 1) 0 0)])) evnil)) (del_E l t v9 (v3 + 1) v7 _ h209 h303 h407 (by omega)) ?_
  refine R_mv (@rfl V (V.ms 209 v9 0 (((l.filter (kp t)).length)))) ?_
  exact R_nil ⟨rfl, t3, (upd_out (upd_out hF (by decide)) (by decide)), rfl, h303, h308, h354, rfl, trivial⟩
 intro T H ⟨t0, t3, hF, h209, h303, h308, h354, h407, _⟩
 refine W_seq_seq ?_
 refine W_seq_regc (fun T H => T 0 = (V.ms 209 v9 0 (((l.filter (kp t)).length))) ∧ T 3 = (V.mp 303 (v3 + 1) 0 0) ∧ T 43 = (V.bool (decide (((((l.filter (kp t)).length) : Nat) : Int) = (10000 : Int)))) ∧ (∀ j, j ∉ [303, 308, 354, 407, 209] → H j = Hi j) ∧ H 209 = (⟨v9, true, false, 63, 2, (List.map cT (l.filter (kp t)) ++ List.replicate (l.length - (l.filter (kp t)).length) [V.nilsl, V.nilsl])⟩ : Blk) ∧ H 303 = (⟨v3 + 1, true, false, 63, 2, [[(V.sl (List.map cI (t.ni))), (V.sl (List.map cI (t.no)))]]⟩ : Blk) ∧ (H 308).ver = v308 ∧ (H 354).ver = v54 ∧ H 407 = (⟨v7 + l.length, false, false, 0, 0, []⟩ : Blk) ∧ True) ?_ ?_
 ·
  unfold r103_12
  refine R_mv t0 ?_
  refine R_len_ms (@rfl V (V.ms 209 v9 0 (((l.filter (kp t)).length)))) h209 (by first | rfl | simp) ?_
  refine R_eql (x := ((((l.filter (kp t)).length) : Nat) : Int)) (y := (10000 : Int)) (@rfl V (iV ((((l.filter (kp t)).length) : Nat) : Int))) (@rfl V (iV (10000 : Int))) ?_
  exact R_nil ⟨t0, t3, rfl, hF, h209, h303, h308, h354, h407, trivial⟩
 intro T H ⟨t0, t3, t43, hF, h209, h303, h308, h354, h407, _⟩
 refine W_seq_if (p := ((((l.filter (kp t)).length) : Nat) : Int) = (10000 : Int)) t43 (fun c9 => ?_) (fun c9 => ?_)
 ·
  have d3 := c9
  refine W_seq_seq ?_
  refine W_seq_regc (fun T H => T 4 = V.nilsl ∧ T 5 = (iV (11 : Int)) ∧ (∀ j, j ∉ [303, 308, 354, 407, 209] → H j = Hi j) ∧ H 209 = (⟨v9, true, false, 63, 2, (List.map cT (l.filter (kp t)) ++ List.replicate (l.length - (l.filter (kp t)).length) [V.nilsl, V.nilsl])⟩ : Blk) ∧ H 303 = (⟨v3 + 1, true, false, 63, 2, [[(V.sl (List.map cI (t.ni))), (V.sl (List.map cI (t.no)))]]⟩ : Blk) ∧ (H 308).ver = v308 ∧ (H 354).ver = v54 ∧ H 407 = (⟨v7 + l.length, false, false, 0, 0, []⟩ : Blk) ∧ True) ?_ ?_
  ·
   unfold r103_13
   refine R_mv (@rfl V V.nilsl) ?_
   refine R_mv (@rfl V (iV (11 : Int))) ?_
   exact R_nil ⟨rfl, rfl, hF, h209, h303, h308, h354, h407, trivial⟩
  intro T H ⟨t4, t5, hF, h209, h303, h308, h354, h407, _⟩
  refine W_seq_ret ?_
  have d4 : ¬0 ≤ fi (ndP l t) 0 l.length := by rw [hc, fi_end (by omega)]; omega
  
  have fh := FinX.fin (FinX.putv (n := v9) (B := (⟨v9 + 2, false, false, 0, 0, []⟩ : Blk)) (FinX.put (FinX.putv (n := v54) (B := (⟨v54 + 1, false, false, 0, 0, []⟩ : Blk)) (FinX.putv (n := v308) (B := (⟨v8 + l.length, false, false, 0, 0, []⟩ : Blk)) (FinX.putv (n := (v3 + 1)) (B := (⟨v3 + 1, false, false, 0, 0, []⟩ : Blk)) (FinX.start hF) (congrArg Blk.ver h303) (by show _ ≤ v3 + 1; omega) rfl) h308 (by show _ ≤ v8 + l.length; omega) rfl) h354 (by show _ ≤ v54 + 1; omega) rfl) h407 (FinB.eq rfl)) (congrArg Blk.ver h209) (by show _ ≤ v9 + 2; omega) rfl)
  exact RetF_2 t4 t5 fh .nil (FinV.trans_eq (FinV.same fh _) (by first | rfl | (simp only [exB, inP, Nat.zero_add]; done) | (rw [he]; done) | (rw [addL, if_pos d2]; done) | (rw [addL, if_neg d2, ins_len]; done) | (rw [addE, if_pos (by rw [hc, fi_hit d1 (by omega)]; omega)]; done) | (rw [addE, if_neg d4, if_neg d2, if_pos (by omega)]; done)))
 have d3 := c9
 refine W_seq_skip ?_
 refine W_seq_regc (fun T H => T 0 = (V.ms 209 v9 0 (((l.filter (kp t)).length))) ∧ T 3 = (V.mp 303 (v3 + 1) 0 0) ∧ T 9 = (iV ((lbN (l.filter (kp t)) t : Nat) : Int)) ∧ (∀ j, j ∉ [303, 308, 354, 407, 209] → H j = Hi j) ∧ H 209 = (⟨v9, true, false, 63, 2, (List.map cT (l.filter (kp t)) ++ List.replicate (l.length - (l.filter (kp t)).length) [V.nilsl, V.nilsl])⟩ : Blk) ∧ H 303 = (⟨v3 + 1, true, false, 63, 2, [[(V.sl (List.map cI (t.ni))), (V.sl (List.map cI (t.no)))]]⟩ : Blk) ∧ (H 308).ver = v308 ∧ (H 354).ver = v54 ∧ H 407 = (⟨v7 + l.length, false, false, 0, 0, []⟩ : Blk) ∧ True) ?_ ?_
 ·
  unfold r103_14
  refine R_mv t0 ?_
  refine R_load_mp (v := (V.agg [(V.sl (List.map cI (t.ni))), (V.sl (List.map cI (t.no)))])) t3 h303 (by first | rfl | simp [ldB, ldV, Blk.own, V.one]) ?_
  refine R_call (evcons (@rfl V (V.ms 209 v9 0 (((l.filter (kp t)).length)))) (evcons (@rfl V (V.agg [(V.sl (List.map cI (t.ni))), (V.sl (List.map cI (t.no)))])) (evcons (@rfl V (V.fn 79 [] [])) evnil))) (bs_pure (l.filter (kp t)) t hsr (by first | omega | assumption)) (mcons (fz_mst h209 (by first | rfl | simp) (take_zap (l := (l.filter (kp t))) (by first | rfl | simp | omega)) (fun _ => by simp)) (mcons (fzv_canon 6 _ (by simp [-List.map_take, -List.map_drop, -List.map_append, -List.map_reverse])) (mcons (fzv_canon 6 _ (by simp [-List.map_take, -List.map_drop, -List.map_append, -List.map_reverse])) rfl))) (by simp [-List.map_take, -List.map_drop, -List.map_append, -List.map_reverse]) (Or.inr rfl) ?_
  refine R_mv (@rfl V (V.tup [(iV ((lbN (l.filter (kp t)) t : Nat) : Int)), (V.bool (decide (lbN (l.filter (kp t)) t < (l.filter (kp t)).length ∧ slx (nth (l.filter (kp t)) (lbN (l.filter (kp t)) t)).ni t.ni = 0)))])) ?_
  refine R_ext (v := (iV ((lbN (l.filter (kp t)) t : Nat) : Int))) (@rfl V (V.tup [(iV ((lbN (l.filter (kp t)) t : Nat) : Int)), (V.bool (decide (lbN (l.filter (kp t)) t < (l.filter (kp t)).length ∧ slx (nth (l.filter (kp t)) (lbN (l.filter (kp t)) t)).ni t.ni = 0)))])) rfl ?_
  refine R_ext (v := (V.bool (decide (lbN (l.filter (kp t)) t < (l.filter (kp t)).length ∧ slx (nth (l.filter (kp t)) (lbN (l.filter (kp t)) t)).ni t.ni = 0)))) (@rfl V (V.tup [(iV ((lbN (l.filter (kp t)) t : Nat) : Int)), (V.bool (decide (lbN (l.filter (kp t)) t < (l.filter (kp t)).length ∧ slx (nth (l.filter (kp t)) (lbN (l.filter (kp t)) t)).ni t.ni = 0)))])) rfl ?_
  refine R_mv (@rfl V (iV ((lbN (l.filter (kp t)) t : Nat) : Int))) ?_
  refine R_mv (@rfl V (V.bool (decide (lbN (l.filter (kp t)) t < (l.filter (kp t)).length ∧ slx (nth (l.filter (kp t)) (lbN (l.filter (kp t)) t)).ni t.ni = 0)))) ?_
  exact R_nil ⟨t0, t3, rfl, hF, h209, h303, h308, h354, h407, trivial⟩
 intro T H ⟨t0, t3, t9, hF, h209, h303, h308, h354, h407, _⟩
 refine W_seq_regc (fun T H => T 4 = (V.ms 209 (v9 + 2) 0 ((l.filter (kp t)).length + 1)) ∧ T 5 = (iV (0 : Int)) ∧ (∀ j, j ∉ [303, 308, 354, 407, 209] → H j = Hi j) ∧ H 209 = (⟨v9 + 2, true, false, 63, 2, (List.map cT (ins (l.filter (kp t)) t))⟩ : Blk) ∧ H 303 = (⟨v3 + 1, true, false, 63, 2, [[(V.sl (List.map cI (t.ni))), (V.sl (List.map cI (t.no)))]]⟩ : Blk) ∧ (H 308).ver = v308 ∧ H 354 = (⟨v54 + 1, true, false, 63, 2, [[(V.sl (List.map cI (t.ni))), (V.sl (List.map cI (t.no)))]]⟩ : Blk) ∧ H 407 = (⟨v7 + l.length, false, false, 0, 0, []⟩ : Blk) ∧ True) ?_ ?_
 ·
  unfold r103_15
  refine R_mv t0 ?_
  refine R_mv t9 ?_
  refine R_load_mp (v := (V.agg [(V.sl (List.map cI (t.ni))), (V.sl (List.map cI (t.no)))])) t3 h303 (by first | rfl | simp [ldB, ldV, Blk.own, V.one]) ?_
  refine R_call (evcons (@rfl V (V.agg [(V.sl (List.map cI (t.ni))), (V.sl (List.map cI (t.no)))])) evnil) (copied_pure t (by first | omega | assumption) (by first | omega | assumption)) (fzv_mapcanon _ _ (by simp [-List.map_take, -List.map_drop, -List.map_append, -List.map_reverse])) (by simp [-List.map_take, -List.map_drop, -List.map_append, -List.map_reverse]) (Or.inl (by simp [-List.map_take, -List.map_drop, -List.map_append, -List.map_reverse])) ?_
  refine R_bslice_own (i := 354) (n := v54) (qs := [(0, (V.agg [(V.sl (List.map cI (t.ni))), (V.sl (List.map cI (t.no)))]))]) (rows := [[(V.sl (List.map cI (t.ni))), (V.sl (List.map cI (t.no)))]]) (by rfl) h354 (mcons (congrArg (fun v => (0, v)) (@rfl V (V.agg [(V.sl (List.map cI (t.ni))), (V.sl (List.map cI (t.no)))]))) rfl) rfl ?_
  refine R_callE (evcons (@rfl V (V.ms 209 v9 0 (((l.filter (kp t)).length)))) (evcons (@rfl V (iV ((lbN (l.filter (kp t)) t : Nat) : Int))) (evcons (@rfl V (V.ms 354 (v54 + 1) 0 (1))) evnil))) (insert_tr (F := (l.filter (kp t))) (t := t) _ h209 rfl (by omega) hsr) ?_
  refine R_mv (@rfl V (V.ms 209 (v9 + 2) 0 ((l.filter (kp t)).length + 1))) ?_
  refine R_mv (@rfl V (iV (0 : Int))) ?_
  exact R_nil ⟨rfl, rfl, (upd_out (upd_out hF (by decide)) (by decide)), rfl, h303, h308, rfl, h407, trivial⟩
 intro T H ⟨t4, t5, hF, h209, h303, h308, h354, h407, _⟩
 refine W_ret ?_
 exfalso
 have d4 : ¬0 ≤ fi (ndP l t) 0 l.length := by rw [hc, fi_end (by omega)]; omega
 apply he; rw [addE, if_neg d4, if_neg d2, if_neg (by omega)]
end Go.Proofs.Ytngkckefanbhgaa

namespace Go.Proofs.Ytngkckefanbhgaa
open Go Go.Proofs
theorem all_pure (o : Ob) (l : List Tr) (ho : OK o) : PureC Try.prog 73 [(V.agg [(iV (o.i)), (V.sl (List.map cT (o.tr)))]), (V.sl (List.map cT (l)))] (V.tup [(V.agg [(iV ((alO o l).i)), (V.sl (List.map cT ((alO o l).tr)))]), (iV ((alR o.i o.tr l).2))]) := by
 refine pure_of_Wb true 6 Try.func73 s73_ok (by kernel_rfl) (by simp [s73]) (by simp) (by simp) fun hB => ?_
 simp only [bnd_map, bnd_int, bnd_bool, bnd_str, bnd_agg, bnd_pp, bnd_nil, bnd_cons, implies_true, and_true, true_and] at hB
 unfold s73
 dsimp only
 have hbd : ∀ k, k < o.tr.length → (nth o.tr k).ni.length ≤ 1048576 ∧ (nth o.tr k).no.length ≤ 1048576 := fun k hk => by have := (ho.pr k hk).1.len; have := (ho.pr k hk).1.lel; omega
 have hol := ho.len
 refine W_seq_regc (fun T H => T 1 = (V.sl (List.map cT (l))) ∧ T 2 = (V.mp 2 1 0 0) ∧ T 4 = (V.mp 4 1 0 0) ∧ H 2 = (⟨1, true, false, 34, 2, [[(iV (o.i)), (V.sl (List.map cT (o.tr)))]]⟩ : Blk) ∧ H 4 = (⟨1, true, false, 34, 2, [[(iV (0 : Int)), V.nilsl]]⟩ : Blk) ∧ H 8 = (⟨0, false, false, 0, 0, []⟩ : Blk) ∧ H 205 = (⟨0, false, false, 0, 0, []⟩ : Blk) ∧ H 209 = (⟨0, false, false, 0, 0, []⟩ : Blk) ∧ H 303 = (⟨0, false, false, 0, 0, []⟩ : Blk) ∧ H 308 = (⟨0, false, false, 0, 0, []⟩ : Blk) ∧ H 354 = (⟨0, false, false, 0, 0, []⟩ : Blk) ∧ H 407 = (⟨0, false, false, 0, 0, []⟩ : Blk) ∧ True) ?_ ?_
 ·
  unfold r73_0
  refine R_box (i := 2) (n := 0) (m := 2) (cs := [(iV (o.i)), (V.sl (List.map cT (o.tr)))]) rfl (congrArg Blk.ver rfl) (@rfl V (V.agg [(iV (o.i)), (V.sl (List.map cT (o.tr)))])) rfl rfl ?_
  refine R_alloc (i := 4) (n := 0) (m := 2) rfl (congrArg Blk.ver rfl) rfl ?_
  refine R_mv (@rfl V (iV (0 : Int))) ?_
  exact R_nil ⟨rfl, rfl, rfl, rfl, rfl, rfl, rfl, rfl, rfl, rfl, rfl, rfl, trivial⟩
 intro T H ⟨t1, t2, t4, h2, h4, h8, h205, h209, h303, h308, h354, h407, _⟩
 refine W_seq_regc (fun T H => T 1 = (V.sl (List.map cT (l))) ∧ T 2 = (V.mp 2 1 0 0) ∧ T 4 = (V.mp 4 1 0 0) ∧ T 6 = (V.ms 209 (0 + 1 + o.tr.length) 0 (o.tr.length)) ∧ H 2 = (⟨1, true, false, 34, 2, [[(iV (o.i)), (V.sl (List.map cT (o.tr)))]]⟩ : Blk) ∧ H 4 = (⟨1, true, false, 34, 2, [[(iV (0 : Int)), V.nilsl]]⟩ : Blk) ∧ H 8 = (⟨0, false, false, 0, 0, []⟩ : Blk) ∧ H 205 = (⟨0 + o.tr.length, false, false, 0, 0, []⟩ : Blk) ∧ H 209 = (⟨0 + 1 + o.tr.length, true, false, 63, 2, (List.map cT (o.tr))⟩ : Blk) ∧ H 303 = (⟨0, false, false, 0, 0, []⟩ : Blk) ∧ H 308 = (⟨0, false, false, 0, 0, []⟩ : Blk) ∧ H 354 = (⟨0, false, false, 0, 0, []⟩ : Blk) ∧ H 407 = (⟨0, false, false, 0, 0, []⟩ : Blk) ∧ True) ?_ ?_
 ·
  unfold r73_1
  refine R_fld_mp (o' := 1) t2 h2 (by first | rfl | simp [okB, Blk.own]) rfl ?_
  refine R_load_mp (v := (V.sl (List.map cT (o.tr)))) (@rfl V (V.mp 2 1 0 1)) h2 (by first | rfl | simp [ldB, ldV, Blk.own, V.one]) ?_
  refine R_callE (evcons (@rfl V (V.sl (List.map cT (o.tr)))) evnil) (owned_E o.tr 0 0 hbd _ (congrArg Blk.ver h205) (congrArg Blk.ver h209) (by omega)) ?_
  refine R_mv (@rfl V (V.ms 209 (0 + 1 + o.tr.length) 0 (o.tr.length))) ?_
  exact R_nil ⟨t1, t2, t4, rfl, h2, h4, h8, rfl, rfl, h303, h308, h354, h407, trivial⟩
 intro T H ⟨t1, t2, t4, t6, h2, h4, h8, h205, h209, h303, h308, h354, h407, _⟩
 refine W_seq_seq ?_
 refine W_seq_regc (fun T H => T 2 = (V.mp 2 1 0 0) ∧ T 4 = (V.mp 4 1 0 0) ∧ T 6 = (V.ms 209 (0 + 1 + o.tr.length) 0 (o.tr.length)) ∧ T 15 = (V.sl (List.map cT (l))) ∧ T 16 = (iV ((l.length : Nat) : Int)) ∧ T 17 = (iV (0 : Int)) ∧ H 2 = (⟨1, true, false, 34, 2, [[(iV (o.i)), (V.sl (List.map cT (o.tr)))]]⟩ : Blk) ∧ H 4 = (⟨1, true, false, 34, 2, [[(iV (0 : Int)), V.nilsl]]⟩ : Blk) ∧ H 8 = (⟨0, false, false, 0, 0, []⟩ : Blk) ∧ H 205 = (⟨0 + o.tr.length, false, false, 0, 0, []⟩ : Blk) ∧ H 209 = (⟨0 + 1 + o.tr.length, true, false, 63, 2, (List.map cT (o.tr))⟩ : Blk) ∧ H 303 = (⟨0, false, false, 0, 0, []⟩ : Blk) ∧ H 308 = (⟨0, false, false, 0, 0, []⟩ : Blk) ∧ H 354 = (⟨0, false, false, 0, 0, []⟩ : Blk) ∧ H 407 = (⟨0, false, false, 0, 0, []⟩ : Blk) ∧ True) ?_ ?_
 ·
  unfold r73_2
  refine R_mv t1 ?_
  refine R_len (@rfl V (V.sl (List.map cT (l)))) ?_
  refine R_mv (@rfl V (iV (0 : Int))) ?_
  exact R_nil ⟨t2, t4, t6, rfl, rfl, rfl, h2, h4, h8, h205, h209, h303, h308, h354, h407, trivial⟩
 intro T H ⟨t2, t4, t6, t15, t16, t17, h2, h4, h8, h205, h209, h303, h308, h354, h407, _⟩
 refine W_seq_blockg fun Q1 n1 x1 y1 z1 => ?_
 refine W_loop (fun mm T H => ∃ (k : Nat) (w : Nat) (acc : List Tr) (v8 : Nat) (v303 : Nat) (v308 : Nat) (v354 : Nat) (v407 : Nat), mm = l.length - k ∧ T 2 = (V.mp 2 1 0 0) ∧ T 4 = (V.mp 4 1 0 0) ∧ T 6 = (V.ms 209 w 0 (acc.length)) ∧ T 15 = (V.sl (List.map cT (l))) ∧ T 16 = (iV ((l.length : Nat) : Int)) ∧ T 17 = (iV ((k : Nat) : Int)) ∧ H 2 = (⟨1, true, false, 34, 2, [[(iV (o.i)), (V.sl (List.map cT (o.tr)))]]⟩ : Blk) ∧ H 4 = (⟨1, true, false, 34, 2, [[(iV (0 : Int)), V.nilsl]]⟩ : Blk) ∧ (H 8).ver = v8 ∧ H 205 = (⟨0 + o.tr.length, false, false, 0, 0, []⟩ : Blk) ∧ H 209 = (⟨w, true, false, 63, 2, (List.map cT (acc))⟩ : Blk) ∧ (H 303).ver = v303 ∧ (H 308).ver = v308 ∧ (H 354).ver = v354 ∧ (H 407).ver = v407 ∧ (k ≤ l.length) ∧ (alR o.i o.tr l = alR o.i acc (l.drop k)) ∧ (OK ⟨o.i, acc⟩)) ?_ ?_
 ·
  refine ⟨_, 0, (0 + 1 + o.tr.length), o.tr, 0, 0, 0, 0, 0, rfl, t2, t4, (Eq.trans t6 (by first | rfl | simp)), t15, t16, (Eq.trans t17 (by first | rfl | simp)), h2, h4, (congrArg Blk.ver h8), h205, (Eq.trans h209 (by first | rfl | simp)), (congrArg Blk.ver h303), (congrArg Blk.ver h308), (congrArg Blk.ver h354), (congrArg Blk.ver h407), ?_, ?_, ?_⟩
  · omega
  · rfl
  · exact ho
 intro mm T H ⟨k, w, acc, v8, v303, v308, v354, v407, hmm, t2, t4, t6, t15, t16, t17, h2, h4, h8, h205, h209, h303, h308, h354, h407, hk, hc, hok⟩ Q2 p12 p22 p32
 unfold b73_0
 refine W_seq_regc (fun T H => T 2 = (V.mp 2 1 0 0) ∧ T 4 = (V.mp 4 1 0 0) ∧ T 6 = (V.ms 209 w 0 (acc.length)) ∧ T 15 = (V.sl (List.map cT (l))) ∧ T 16 = (iV ((l.length : Nat) : Int)) ∧ T 17 = (iV ((k : Nat) : Int)) ∧ T 18 = (V.bool (decide (((k : Nat) : Int) < ((l.length : Nat) : Int)))) ∧ H 2 = (⟨1, true, false, 34, 2, [[(iV (o.i)), (V.sl (List.map cT (o.tr)))]]⟩ : Blk) ∧ H 4 = (⟨1, true, false, 34, 2, [[(iV (0 : Int)), V.nilsl]]⟩ : Blk) ∧ (H 8).ver = v8 ∧ H 205 = (⟨0 + o.tr.length, false, false, 0, 0, []⟩ : Blk) ∧ H 209 = (⟨w, true, false, 63, 2, (List.map cT (acc))⟩ : Blk) ∧ (H 303).ver = v303 ∧ (H 308).ver = v308 ∧ (H 354).ver = v354 ∧ (H 407).ver = v407 ∧ True) ?_ ?_
 ·
  unfold r73_3
  refine R_lss (x := ((k : Nat) : Int)) (y := ((l.length : Nat) : Int)) t17 t16 ?_
  exact R_nil ⟨t2, t4, t6, t15, t16, t17, rfl, h2, h4, h8, h205, h209, h303, h308, h354, h407, trivial⟩
 intro T H ⟨t2, t4, t6, t15, t16, t17, t18, h2, h4, h8, h205, h209, h303, h308, h354, h407, _⟩
 refine W_seq_if (p := ((k : Nat) : Int) < ((l.length : Nat) : Int)) t18 (fun c3 => ?_) (fun c3 => ?_)
 ·
  refine W_seq_skip ?_
  refine W_seq_blockg fun Q4 n4 x4 y4 z4 => ?_
  refine W_seq_regc (fun T H => T 2 = (V.mp 2 1 0 0) ∧ T 4 = (V.mp 4 1 0 0) ∧ T 6 = (V.ms 209 w 0 (acc.length)) ∧ T 8 = (V.mp 8 (v8 + 1) 0 0) ∧ T 15 = (V.sl (List.map cT (l))) ∧ T 16 = (iV ((l.length : Nat) : Int)) ∧ T 17 = (iV ((k : Nat) : Int)) ∧ H 2 = (⟨1, true, false, 34, 2, [[(iV (o.i)), (V.sl (List.map cT (o.tr)))]]⟩ : Blk) ∧ H 4 = (⟨1, true, false, 34, 2, [[(iV (0 : Int)), V.nilsl]]⟩ : Blk) ∧ H 8 = (⟨v8 + 1, true, false, 63, 2, [[(V.sl (List.map cI ((nth (l) (k)).ni))), (V.sl (List.map cI ((nth (l) (k)).no)))]]⟩ : Blk) ∧ H 205 = (⟨0 + o.tr.length, false, false, 0, 0, []⟩ : Blk) ∧ H 209 = (⟨w, true, false, 63, 2, (List.map cT (acc))⟩ : Blk) ∧ (H 303).ver = v303 ∧ (H 308).ver = v308 ∧ (H 354).ver = v354 ∧ (H 407).ver = v407 ∧ True) ?_ ?_
  ·
   unfold r73_4
   refine R_idx (i := k) t15 t17 (by omega) rfl ?_
   refine R_load_pp (v := (V.agg [(V.sl (List.map cI ((nth (l) (k)).ni))), (V.sl (List.map cI ((nth (l) (k)).no)))])) (@rfl V (V.pp [(V.sl (List.map cI ((nth (l) (k)).ni))), (V.sl (List.map cI ((nth (l) (k)).no)))])) (by first | rfl | simp [ldV]) ?_
   refine R_alloc (i := 8) (n := v8) (m := 2) rfl h8 rfl ?_
   refine R_store (vs := [(V.sl (List.map cI ((nth (l) (k)).ni))), (V.sl (List.map cI ((nth (l) (k)).no)))]) (B' := (⟨v8 + 1, true, false, 63, 2, [[(V.sl (List.map cI ((nth (l) (k)).ni))), (V.sl (List.map cI ((nth (l) (k)).no)))]]⟩ : Blk)) (@rfl V (V.mp 8 (v8 + 1) 0 0)) (@rfl V (V.agg [(V.sl (List.map cI ((nth (l) (k)).ni))), (V.sl (List.map cI ((nth (l) (k)).no)))])) rfl (@rfl Blk (⟨v8 + 1, true, false, 63, 2, [[V.nilsl, V.nilsl]]⟩ : Blk)) (by first | rfl | simp [stB, okB, Blk.own, putAt, V.one]) ?_
   exact R_nil ⟨t2, t4, t6, rfl, t15, t16, t17, h2, h4, rfl, h205, h209, h303, h308, h354, h407, trivial⟩
  intro T H ⟨t2, t4, t6, t8, t15, t16, t17, h2, h4, h8, h205, h209, h303, h308, h354, h407, _⟩
  refine W_seq_seq ?_
  refine W_seq_regc (fun T H => T 2 = (V.mp 2 1 0 0) ∧ T 4 = (V.mp 4 1 0 0) ∧ T 6 = (V.ms 209 w 0 (acc.length)) ∧ T 8 = (V.mp 8 (v8 + 1) 0 0) ∧ T 9 = (iV (prE ((nth (l) (k))) ((o.i)))) ∧ T 15 = (V.sl (List.map cT (l))) ∧ T 16 = (iV ((l.length : Nat) : Int)) ∧ T 17 = (iV ((k : Nat) : Int)) ∧ H 2 = (⟨1, true, false, 34, 2, [[(iV (o.i)), (V.sl (List.map cT (o.tr)))]]⟩ : Blk) ∧ H 4 = (⟨1, true, false, 34, 2, [[(iV (0 : Int)), V.nilsl]]⟩ : Blk) ∧ H 8 = (⟨v8 + 1, true, false, 63, 2, [[(V.sl (List.map cI ((nth (l) (k)).ni))), (V.sl (List.map cI ((nth (l) (k)).no)))]]⟩ : Blk) ∧ H 205 = (⟨0 + o.tr.length, false, false, 0, 0, []⟩ : Blk) ∧ H 209 = (⟨w, true, false, 63, 2, (List.map cT (acc))⟩ : Blk) ∧ (H 303).ver = v303 ∧ (H 308).ver = v308 ∧ (H 354).ver = v354 ∧ (H 407).ver = v407 ∧ True) ?_ ?_
  ·
   unfold r73_5
   refine R_load_mp (v := (V.agg [(V.sl (List.map cI ((nth (l) (k)).ni))), (V.sl (List.map cI ((nth (l) (k)).no)))])) t8 h8 (by first | rfl | simp [ldB, ldV, Blk.own, V.one]) ?_
   refine R_fld_mp (o' := 0) t2 h2 (by first | rfl | simp [okB, Blk.own]) rfl ?_
   refine R_load_mp (v := (iV (o.i))) (@rfl V (V.mp 2 1 0 0)) h2 (by first | rfl | simp [ldB, ldV, Blk.own, V.one]) ?_
   refine R_call (evcons (@rfl V (V.agg [(V.sl (List.map cI ((nth (l) (k)).ni))), (V.sl (List.map cI ((nth (l) (k)).no)))])) (evcons (@rfl V (iV (o.i))) evnil)) (proper_pure ((nth (l) (k))) ((o.i))) (fzv_mapcanon _ _ (by simp [-List.map_take, -List.map_drop, -List.map_append, -List.map_reverse])) (by simp [-List.map_take, -List.map_drop, -List.map_append, -List.map_reverse]) (Or.inl (by simp [-List.map_take, -List.map_drop, -List.map_append, -List.map_reverse])) ?_
   refine R_mv (@rfl V (iV (prE ((nth (l) (k))) ((o.i))))) ?_
   exact R_nil ⟨t2, t4, t6, t8, rfl, t15, t16, t17, h2, h4, h8, h205, h209, h303, h308, h354, h407, trivial⟩
  intro T H ⟨t2, t4, t6, t8, t9, t15, t16, t17, h2, h4, h8, h205, h209, h303, h308, h354, h407, _⟩
  refine W_seq_seq ?_
  refine W_seq_regc (fun T H => T 2 = (V.mp 2 1 0 0) ∧ T 4 = (V.mp 4 1 0 0) ∧ T 6 = (V.ms 209 w 0 (acc.length)) ∧ T 8 = (V.mp 8 (v8 + 1) 0 0) ∧ T 9 = (iV (prE ((nth (l) (k))) ((o.i)))) ∧ T 15 = (V.sl (List.map cT (l))) ∧ T 16 = (iV ((l.length : Nat) : Int)) ∧ T 17 = (iV ((k : Nat) : Int)) ∧ T 26 = (V.bool (decide ((prE ((nth (l) (k))) ((o.i))) ≠ (0 : Int)))) ∧ H 2 = (⟨1, true, false, 34, 2, [[(iV (o.i)), (V.sl (List.map cT (o.tr)))]]⟩ : Blk) ∧ H 4 = (⟨1, true, false, 34, 2, [[(iV (0 : Int)), V.nilsl]]⟩ : Blk) ∧ H 8 = (⟨v8 + 1, true, false, 63, 2, [[(V.sl (List.map cI ((nth (l) (k)).ni))), (V.sl (List.map cI ((nth (l) (k)).no)))]]⟩ : Blk) ∧ H 205 = (⟨0 + o.tr.length, false, false, 0, 0, []⟩ : Blk) ∧ H 209 = (⟨w, true, false, 63, 2, (List.map cT (acc))⟩ : Blk) ∧ (H 303).ver = v303 ∧ (H 308).ver = v308 ∧ (H 354).ver = v354 ∧ (H 407).ver = v407 ∧ True) ?_ ?_
  ·
   unfold r73_6
   refine R_mv t9 ?_
   refine R_neq (x := (prE ((nth (l) (k))) ((o.i)))) (y := (0 : Int)) (@rfl V (iV (prE ((nth (l) (k))) ((o.i))))) (@rfl V (iV (0 : Int))) ?_
   exact R_nil ⟨t2, t4, t6, t8, t9, t15, t16, t17, rfl, h2, h4, h8, h205, h209, h303, h308, h354, h407, trivial⟩
  intro T H ⟨t2, t4, t6, t8, t9, t15, t16, t17, t26, h2, h4, h8, h205, h209, h303, h308, h354, h407, _⟩
  refine W_seq_if (p := (prE ((nth (l) (k))) ((o.i))) ≠ (0 : Int)) t26 (fun c5 => ?_) (fun c5 => ?_)
  ·
   have d1 := c5
   refine W_seq_seq ?_
   refine W_seq_regc (fun T H => T 4 = (V.mp 4 1 0 0) ∧ T 5 = (iV (prE ((nth (l) (k))) ((o.i)))) ∧ H 2 = (⟨1, true, false, 34, 2, [[(iV (o.i)), (V.sl (List.map cT (o.tr)))]]⟩ : Blk) ∧ H 4 = (⟨1, true, false, 34, 2, [[(iV (o.i)), (V.sl (List.map cT (o.tr)))]]⟩ : Blk) ∧ H 8 = (⟨v8 + 1, true, false, 63, 2, [[(V.sl (List.map cI ((nth (l) (k)).ni))), (V.sl (List.map cI ((nth (l) (k)).no)))]]⟩ : Blk) ∧ H 205 = (⟨0 + o.tr.length, false, false, 0, 0, []⟩ : Blk) ∧ H 209 = (⟨w, true, false, 63, 2, (List.map cT (acc))⟩ : Blk) ∧ (H 303).ver = v303 ∧ (H 308).ver = v308 ∧ (H 354).ver = v354 ∧ (H 407).ver = v407 ∧ True) ?_ ?_
   ·
    unfold r73_7
    refine R_load_mp (v := (V.agg [(iV (o.i)), (V.sl (List.map cT (o.tr)))])) t2 h2 (by first | rfl | simp [ldB, ldV, Blk.own, V.one]) ?_
    refine R_mv t9 ?_
    refine R_store (vs := [(iV (o.i)), (V.sl (List.map cT (o.tr)))]) (B' := (⟨1, true, false, 34, 2, [[(iV (o.i)), (V.sl (List.map cT (o.tr)))]]⟩ : Blk)) t4 (@rfl V (V.agg [(iV (o.i)), (V.sl (List.map cT (o.tr)))])) rfl h4 (by first | rfl | simp [stB, okB, Blk.own, putAt, V.one]) ?_
    refine R_mv (@rfl V (iV (prE ((nth (l) (k))) ((o.i))))) ?_
    exact R_nil ⟨t4, rfl, h2, rfl, h8, h205, h209, h303, h308, h354, h407, trivial⟩
   intro T H ⟨t4, t5, h2, h4, h8, h205, h209, h303, h308, h354, h407, _⟩
   refine W_seq_ret ?_
   refine y4 _ _ ?_
   refine p22 _ _ ?_
   refine y1 _ _ ?_
   refine RetC_2 (resV_c (u := (V.agg [(iV (o.i)), (V.sl (List.map cT (o.tr)))])) t4 h4 (by first | rfl | simp [ldB, ldV, Blk.own, V.one])) (resV_t t5) (fz_agg2 (fz_int ?_) (fz_sl ?_ (fun _ => by simp))) (fz_int ?_)
   · rw [alO_i]
   · unfold alO; rw [if_pos (by rw [hc, alR_pr (by omega) d1]; exact d1)]
   · rw [hc, alR_pr (by omega) d1]
  have d1 : prE (nth l k) o.i = 0 := by omega
  refine W_seq_skip ?_
  refine W_seq_reg fun K hK => ?_
  unfold r73_8
  refine R_mv t6 ?_
  refine R_load_mp (v := (V.agg [(V.sl (List.map cI ((nth (l) (k)).ni))), (V.sl (List.map cI ((nth (l) (k)).no)))])) t8 h8 (by first | rfl | simp [ldB, ldV, Blk.own, V.one]) ?_
  by_cases heF : addE acc ((nth (l) (k))) = 0
  ·
   refine R_callE (evcons (@rfl V (V.ms 209 w 0 (acc.length))) (evcons (@rfl V (V.agg [(V.sl (List.map cI ((nth (l) (k)).ni))), (V.sl (List.map cI ((nth (l) (k)).no)))])) evnil)) (add_ok_E acc ((nth (l) (k))) _ w v303 v308 v354 v407 hok d1 heF _ h209 h303 h308 h354 h407) ?_
   refine R_mv (@rfl V (V.tup [(V.ms 209 (w + 2) 0 ((addL acc ((nth (l) (k)))).length)), (iV (addE acc ((nth (l) (k)))))])) ?_
   refine R_ext (v := (V.ms 209 (w + 2) 0 ((addL acc ((nth (l) (k)))).length))) (@rfl V (V.tup [(V.ms 209 (w + 2) 0 ((addL acc ((nth (l) (k)))).length)), (iV (addE acc ((nth (l) (k)))))])) rfl ?_
   refine R_ext (v := (iV (addE acc ((nth (l) (k)))))) (@rfl V (V.tup [(V.ms 209 (w + 2) 0 ((addL acc ((nth (l) (k)))).length)), (iV (addE acc ((nth (l) (k)))))])) rfl ?_
   refine R_mv (@rfl V (V.ms 209 (w + 2) 0 ((addL acc ((nth (l) (k)))).length))) ?_
   refine R_mv (@rfl V (iV (addE acc ((nth (l) (k)))))) ?_
   refine R_nil (hK _ _ ?_); clear hK K
   refine fork_ (R := fun T H => T 2 = (V.mp 2 1 0 0) ∧ T 4 = (V.mp 4 1 0 0) ∧ T 10 = (V.ms 209 (w + 2) 0 ((addL acc ((nth (l) (k)))).length)) ∧ T 11 = (iV (addE acc ((nth (l) (k))))) ∧ T 15 = (V.sl (List.map cT (l))) ∧ T 16 = (iV ((l.length : Nat) : Int)) ∧ T 17 = (iV ((k : Nat) : Int)) ∧ H 2 = (⟨1, true, false, 34, 2, [[(iV (o.i)), (V.sl (List.map cT (o.tr)))]]⟩ : Blk) ∧ H 4 = (⟨1, true, false, 34, 2, [[(iV (0 : Int)), V.nilsl]]⟩ : Blk) ∧ H 8 = (⟨v8 + 1, true, false, 63, 2, [[(V.sl (List.map cI ((nth (l) (k)).ni))), (V.sl (List.map cI ((nth (l) (k)).no)))]]⟩ : Blk) ∧ H 205 = (⟨0 + o.tr.length, false, false, 0, 0, []⟩ : Blk) ∧ H 209 = (⟨w + 2, true, false, 63, 2, (List.map cT (addL acc ((nth (l) (k)))))⟩ : Blk) ∧ H 303 = (⟨v303 + 1, false, false, 0, 0, []⟩ : Blk) ∧ H 308 = (⟨v308 + acc.length, false, false, 0, 0, []⟩ : Blk) ∧ H 354 = (⟨v354 + 1, false, false, 0, 0, []⟩ : Blk) ∧ H 407 = (⟨v407 + acc.length, false, false, 0, 0, []⟩ : Blk) ∧ True) ⟨t2, t4, rfl, rfl, t15, t16, t17, h2, h4, h8, h205, rfl, rfl, rfl, rfl, rfl, trivial⟩ ?_
   intro T H ⟨t2, t4, t10, t11, t15, t16, t17, h2, h4, h8, h205, h209, h303, h308, h354, h407, _⟩
   refine W_seq_seq ?_
   refine W_seq_regc (fun T H => T 2 = (V.mp 2 1 0 0) ∧ T 4 = (V.mp 4 1 0 0) ∧ T 10 = (V.ms 209 (w + 2) 0 ((addL acc ((nth (l) (k)))).length)) ∧ T 11 = (iV (addE acc ((nth (l) (k))))) ∧ T 15 = (V.sl (List.map cT (l))) ∧ T 16 = (iV ((l.length : Nat) : Int)) ∧ T 17 = (iV ((k : Nat) : Int)) ∧ T 36 = (V.bool (decide ((addE acc ((nth (l) (k)))) ≠ (0 : Int)))) ∧ H 2 = (⟨1, true, false, 34, 2, [[(iV (o.i)), (V.sl (List.map cT (o.tr)))]]⟩ : Blk) ∧ H 4 = (⟨1, true, false, 34, 2, [[(iV (0 : Int)), V.nilsl]]⟩ : Blk) ∧ H 8 = (⟨v8 + 1, true, false, 63, 2, [[(V.sl (List.map cI ((nth (l) (k)).ni))), (V.sl (List.map cI ((nth (l) (k)).no)))]]⟩ : Blk) ∧ H 205 = (⟨0 + o.tr.length, false, false, 0, 0, []⟩ : Blk) ∧ H 209 = (⟨w + 2, true, false, 63, 2, (List.map cT (addL acc ((nth (l) (k)))))⟩ : Blk) ∧ H 303 = (⟨v303 + 1, false, false, 0, 0, []⟩ : Blk) ∧ H 308 = (⟨v308 + acc.length, false, false, 0, 0, []⟩ : Blk) ∧ H 354 = (⟨v354 + 1, false, false, 0, 0, []⟩ : Blk) ∧ H 407 = (⟨v407 + acc.length, false, false, 0, 0, []⟩ : Blk) ∧ True) ?_ ?_
   ·
    unfold r73_9
    refine R_mv t11 ?_
    refine R_neq (x := (addE acc ((nth (l) (k))))) (y := (0 : Int)) (@rfl V (iV (addE acc ((nth (l) (k)))))) (@rfl V (iV (0 : Int))) ?_
    exact R_nil ⟨t2, t4, t10, t11, t15, t16, t17, rfl, h2, h4, h8, h205, h209, h303, h308, h354, h407, trivial⟩
   intro T H ⟨t2, t4, t10, t11, t15, t16, t17, t36, h2, h4, h8, h205, h209, h303, h308, h354, h407, _⟩
   refine W_seq_if (p := (addE acc ((nth (l) (k)))) ≠ (0 : Int)) t36 (fun c8 => ?_) (fun c8 => ?_)
   · exact ((fun (e : (addE acc ((nth (l) (k)))) ≠ (0 : Int)) => e heF) c8).elim
   refine W_seq_skip ?_
   refine W_regc (fun T H => T 2 = (V.mp 2 1 0 0) ∧ T 4 = (V.mp 4 1 0 0) ∧ T 6 = (V.ms 209 (w + 2) 0 ((addL acc ((nth (l) (k)))).length)) ∧ T 15 = (V.sl (List.map cT (l))) ∧ T 16 = (iV ((l.length : Nat) : Int)) ∧ T 17 = (iV ((k : Nat) : Int)) ∧ H 2 = (⟨1, true, false, 34, 2, [[(iV (o.i)), (V.sl (List.map cT (o.tr)))]]⟩ : Blk) ∧ H 4 = (⟨1, true, false, 34, 2, [[(iV (0 : Int)), V.nilsl]]⟩ : Blk) ∧ H 8 = (⟨v8 + 1, true, false, 63, 2, [[(V.sl (List.map cI ((nth (l) (k)).ni))), (V.sl (List.map cI ((nth (l) (k)).no)))]]⟩ : Blk) ∧ H 205 = (⟨0 + o.tr.length, false, false, 0, 0, []⟩ : Blk) ∧ H 209 = (⟨w + 2, true, false, 63, 2, (List.map cT (addL acc ((nth (l) (k)))))⟩ : Blk) ∧ H 303 = (⟨v303 + 1, false, false, 0, 0, []⟩ : Blk) ∧ H 308 = (⟨v308 + acc.length, false, false, 0, 0, []⟩ : Blk) ∧ H 354 = (⟨v354 + 1, false, false, 0, 0, []⟩ : Blk) ∧ H 407 = (⟨v407 + acc.length, false, false, 0, 0, []⟩ : Blk) ∧ True) ?_ ?_
   ·
    unfold r73_11
    refine R_mv t10 ?_
    refine R_mv (@rfl V (V.ms 209 (w + 2) 0 ((addL acc ((nth (l) (k)))).length))) ?_
    exact R_nil ⟨t2, t4, rfl, t15, t16, t17, h2, h4, h8, h205, h209, h303, h308, h354, h407, trivial⟩
   intro T H ⟨t2, t4, t6, t15, t16, t17, h2, h4, h8, h205, h209, h303, h308, h354, h407, _⟩
   refine n4 _ _ ?_
   refine .done ?_
   refine W_regc (fun T H => T 2 = (V.mp 2 1 0 0) ∧ T 4 = (V.mp 4 1 0 0) ∧ T 6 = (V.ms 209 (w + 2) 0 ((addL acc ((nth (l) (k)))).length)) ∧ T 15 = (V.sl (List.map cT (l))) ∧ T 16 = (iV ((l.length : Nat) : Int)) ∧ T 17 = (iV ((k + 1 : Nat) : Int)) ∧ H 2 = (⟨1, true, false, 34, 2, [[(iV (o.i)), (V.sl (List.map cT (o.tr)))]]⟩ : Blk) ∧ H 4 = (⟨1, true, false, 34, 2, [[(iV (0 : Int)), V.nilsl]]⟩ : Blk) ∧ H 8 = (⟨v8 + 1, true, false, 63, 2, [[(V.sl (List.map cI ((nth (l) (k)).ni))), (V.sl (List.map cI ((nth (l) (k)).no)))]]⟩ : Blk) ∧ H 205 = (⟨0 + o.tr.length, false, false, 0, 0, []⟩ : Blk) ∧ H 209 = (⟨w + 2, true, false, 63, 2, (List.map cT (addL acc ((nth (l) (k)))))⟩ : Blk) ∧ H 303 = (⟨v303 + 1, false, false, 0, 0, []⟩ : Blk) ∧ H 308 = (⟨v308 + acc.length, false, false, 0, 0, []⟩ : Blk) ∧ H 354 = (⟨v354 + 1, false, false, 0, 0, []⟩ : Blk) ∧ H 407 = (⟨v407 + acc.length, false, false, 0, 0, []⟩ : Blk) ∧ True) ?_ ?_
   ·
    unfold r73_12
    refine R_addN (m := k) (n := 1) t17 (@rfl V (iV ((1 : Nat) : Int))) (by omega) ?_
    refine R_mv (@rfl V (iV ((k + 1 : Nat) : Int))) ?_
    exact R_nil ⟨t2, t4, t6, t15, t16, rfl, h2, h4, h8, h205, h209, h303, h308, h354, h407, trivial⟩
   intro T H ⟨t2, t4, t6, t15, t16, t17, h2, h4, h8, h205, h209, h303, h308, h354, h407, _⟩
   refine p12 _ _ _ ?_ ⟨(k + 1), (w + 2), (addL acc ((nth (l) (k)))), (v8 + 1), (v303 + 1), (v308 + acc.length), (v354 + 1), (v407 + acc.length), rfl, t2, t4, (Eq.trans t6 (by first | rfl | simp)), t15, t16, (Eq.trans t17 (by first | rfl | simp)), h2, h4, (congrArg Blk.ver h8), h205, (Eq.trans h209 (by first | rfl | simp)), (congrArg Blk.ver h303), (congrArg Blk.ver h308), (congrArg Blk.ver h354), (congrArg Blk.ver h407), ?_, ?_, ?_⟩
   · omega
   · omega
   · rw [hc, alR_go (by omega) d1 heF]
   · exact add_ok hok d1 heF
  ·
   refine R_callE (evcons (@rfl V (V.ms 209 w 0 (acc.length))) (evcons (@rfl V (V.agg [(V.sl (List.map cI ((nth (l) (k)).ni))), (V.sl (List.map cI ((nth (l) (k)).no)))])) evnil)) (add_err_E acc ((nth (l) (k))) _ w v303 v308 v354 v407 hok d1 heF _ h209 h303 h308 h354 h407) ?_
   refine R_mv (@rfl V (V.tup [(V.sl []), (iV (addE acc ((nth (l) (k)))))])) ?_
   refine R_ext (v := (V.sl [])) (@rfl V (V.tup [(V.sl []), (iV (addE acc ((nth (l) (k)))))])) rfl ?_
   refine R_ext (v := (iV (addE acc ((nth (l) (k)))))) (@rfl V (V.tup [(V.sl []), (iV (addE acc ((nth (l) (k)))))])) rfl ?_
   refine R_mv (@rfl V (V.sl [])) ?_
   refine R_mv (@rfl V (iV (addE acc ((nth (l) (k)))))) ?_
   refine R_nil (hK _ _ ?_); clear hK K
   refine fork_ (R := fun T H => T 2 = (V.mp 2 1 0 0) ∧ T 4 = (V.mp 4 1 0 0) ∧ T 10 = (V.sl []) ∧ T 11 = (iV (addE acc ((nth (l) (k))))) ∧ T 15 = (V.sl (List.map cT (l))) ∧ T 16 = (iV ((l.length : Nat) : Int)) ∧ T 17 = (iV ((k : Nat) : Int)) ∧ H 2 = (⟨1, true, false, 34, 2, [[(iV (o.i)), (V.sl (List.map cT (o.tr)))]]⟩ : Blk) ∧ H 4 = (⟨1, true, false, 34, 2, [[(iV (0 : Int)), V.nilsl]]⟩ : Blk) ∧ H 8 = (⟨v8 + 1, true, false, 63, 2, [[(V.sl (List.map cI ((nth (l) (k)).ni))), (V.sl (List.map cI ((nth (l) (k)).no)))]]⟩ : Blk) ∧ H 205 = (⟨0 + o.tr.length, false, false, 0, 0, []⟩ : Blk) ∧ H 209 = (⟨w + 2, false, false, 0, 0, []⟩ : Blk) ∧ H 303 = (⟨v303 + 1, false, false, 0, 0, []⟩ : Blk) ∧ H 308 = (⟨v308 + acc.length, false, false, 0, 0, []⟩ : Blk) ∧ H 354 = (⟨v354 + 1, false, false, 0, 0, []⟩ : Blk) ∧ H 407 = (⟨v407 + acc.length, false, false, 0, 0, []⟩ : Blk) ∧ True) ⟨t2, t4, rfl, rfl, t15, t16, t17, h2, h4, h8, h205, rfl, rfl, rfl, rfl, rfl, trivial⟩ ?_
   intro T H ⟨t2, t4, t10, t11, t15, t16, t17, h2, h4, h8, h205, h209, h303, h308, h354, h407, _⟩
   refine W_seq_seq ?_
   refine W_seq_regc (fun T H => T 2 = (V.mp 2 1 0 0) ∧ T 4 = (V.mp 4 1 0 0) ∧ T 10 = (V.sl []) ∧ T 11 = (iV (addE acc ((nth (l) (k))))) ∧ T 15 = (V.sl (List.map cT (l))) ∧ T 16 = (iV ((l.length : Nat) : Int)) ∧ T 17 = (iV ((k : Nat) : Int)) ∧ T 36 = (V.bool (decide ((addE acc ((nth (l) (k)))) ≠ (0 : Int)))) ∧ H 2 = (⟨1, true, false, 34, 2, [[(iV (o.i)), (V.sl (List.map cT (o.tr)))]]⟩ : Blk) ∧ H 4 = (⟨1, true, false, 34, 2, [[(iV (0 : Int)), V.nilsl]]⟩ : Blk) ∧ H 8 = (⟨v8 + 1, true, false, 63, 2, [[(V.sl (List.map cI ((nth (l) (k)).ni))), (V.sl (List.map cI ((nth (l) (k)).no)))]]⟩ : Blk) ∧ H 205 = (⟨0 + o.tr.length, false, false, 0, 0, []⟩ : Blk) ∧ H 209 = (⟨w + 2, false, false, 0, 0, []⟩ : Blk) ∧ H 303 = (⟨v303 + 1, false, false, 0, 0, []⟩ : Blk) ∧ H 308 = (⟨v308 + acc.length, false, false, 0, 0, []⟩ : Blk) ∧ H 354 = (⟨v354 + 1, false, false, 0, 0, []⟩ : Blk) ∧ H 407 = (⟨v407 + acc.length, false, false, 0, 0, []⟩ : Blk) ∧ True) ?_ ?_
   ·
    unfold r73_9
    refine R_mv t11 ?_
    refine R_neq (x := (addE acc ((nth (l) (k))))) (y := (0 : Int)) (@rfl V (iV (addE acc ((nth (l) (k)))))) (@rfl V (iV (0 : Int))) ?_
    exact R_nil ⟨t2, t4, t10, t11, t15, t16, t17, rfl, h2, h4, h8, h205, h209, h303, h308, h354, h407, trivial⟩
   intro T H ⟨t2, t4, t10, t11, t15, t16, t17, t36, h2, h4, h8, h205, h209, h303, h308, h354, h407, _⟩
   refine W_seq_if (p := (addE acc ((nth (l) (k)))) ≠ (0 : Int)) t36 (fun c11 => ?_) (fun c11 => ?_)
   ·
    refine W_seq_seq ?_
    refine W_seq_regc (fun T H => T 4 = (V.mp 4 1 0 0) ∧ T 5 = (iV (addE acc ((nth (l) (k))))) ∧ H 2 = (⟨1, true, false, 34, 2, [[(iV (o.i)), (V.sl (List.map cT (o.tr)))]]⟩ : Blk) ∧ H 4 = (⟨1, true, false, 34, 2, [[(iV (o.i)), (V.sl (List.map cT (o.tr)))]]⟩ : Blk) ∧ H 8 = (⟨v8 + 1, true, false, 63, 2, [[(V.sl (List.map cI ((nth (l) (k)).ni))), (V.sl (List.map cI ((nth (l) (k)).no)))]]⟩ : Blk) ∧ H 205 = (⟨0 + o.tr.length, false, false, 0, 0, []⟩ : Blk) ∧ H 209 = (⟨w + 2, false, false, 0, 0, []⟩ : Blk) ∧ H 303 = (⟨v303 + 1, false, false, 0, 0, []⟩ : Blk) ∧ H 308 = (⟨v308 + acc.length, false, false, 0, 0, []⟩ : Blk) ∧ H 354 = (⟨v354 + 1, false, false, 0, 0, []⟩ : Blk) ∧ H 407 = (⟨v407 + acc.length, false, false, 0, 0, []⟩ : Blk) ∧ True) ?_ ?_
    ·
     unfold r73_10
     refine R_load_mp (v := (V.agg [(iV (o.i)), (V.sl (List.map cT (o.tr)))])) t2 h2 (by first | rfl | simp [ldB, ldV, Blk.own, V.one]) ?_
     refine R_mv t11 ?_
     refine R_store (vs := [(iV (o.i)), (V.sl (List.map cT (o.tr)))]) (B' := (⟨1, true, false, 34, 2, [[(iV (o.i)), (V.sl (List.map cT (o.tr)))]]⟩ : Blk)) t4 (@rfl V (V.agg [(iV (o.i)), (V.sl (List.map cT (o.tr)))])) rfl h4 (by first | rfl | simp [stB, okB, Blk.own, putAt, V.one]) ?_
     refine R_mv (@rfl V (iV (addE acc ((nth (l) (k)))))) ?_
     exact R_nil ⟨t4, rfl, h2, rfl, h8, h205, h209, h303, h308, h354, h407, trivial⟩
    intro T H ⟨t4, t5, h2, h4, h8, h205, h209, h303, h308, h354, h407, _⟩
    refine W_seq_ret ?_
    refine y4 _ _ ?_
    refine p22 _ _ ?_
    refine y1 _ _ ?_
    refine RetC_2 (resV_c (u := (V.agg [(iV (o.i)), (V.sl (List.map cT (o.tr)))])) t4 h4 (by first | rfl | simp [ldB, ldV, Blk.own, V.one])) (resV_t t5) (fz_agg2 (fz_int ?_) (fz_sl ?_ (fun _ => by simp))) (fz_int ?_)
    · rw [alO_i]
    · unfold alO; rw [if_pos (by rw [hc, alR_er (by omega) d1 heF]; exact heF)]
    · rw [hc, alR_er (by omega) d1 heF]
   · exact (c11 heF).elim
 refine W_seq_exit ?_
 refine p32 _ _ _ ?_
 refine x1 _ _ ?_
 refine .done ?_
 refine W_seq_regc (fun T H => T 4 = (V.mp 4 1 0 0) ∧ T 5 = (iV (0 : Int)) ∧ H 2 = (⟨1, true, false, 34, 2, [[(iV (o.i)), (V.sl (List.map cT (o.tr)))]]⟩ : Blk) ∧ H 4 = (⟨1, true, false, 34, 2, [[(iV (o.i)), (V.ms 209 w 0 (acc.length))]]⟩ : Blk) ∧ (H 8).ver = v8 ∧ H 205 = (⟨0 + o.tr.length, false, false, 0, 0, []⟩ : Blk) ∧ H 209 = (⟨w, true, false, 63, 2, (List.map cT (acc))⟩ : Blk) ∧ (H 303).ver = v303 ∧ (H 308).ver = v308 ∧ (H 354).ver = v354 ∧ (H 407).ver = v407 ∧ True) ?_ ?_
 ·
  unfold r73_13
  refine R_fld_mp (o' := 0) t2 h2 (by first | rfl | simp [okB, Blk.own]) rfl ?_
  refine R_load_mp (v := (iV (o.i))) (@rfl V (V.mp 2 1 0 0)) h2 (by first | rfl | simp [ldB, ldV, Blk.own, V.one]) ?_
  refine R_mv t6 ?_
  refine R_build (qs := [(0, 1, (iV (o.i))), (1, 1, (V.ms 209 w 0 (acc.length)))]) (cs := [(iV (o.i)), (V.ms 209 w 0 (acc.length))]) (mcons (congrArg (fun v => (0, 1, v)) (@rfl V (iV (o.i)))) (mcons (congrArg (fun v => (1, 1, v)) (@rfl V (V.ms 209 w 0 (acc.length)))) rfl)) rfl ?_
  refine R_store (vs := [(iV (o.i)), (V.ms 209 w 0 (acc.length))]) (B' := (⟨1, true, false, 34, 2, [[(iV (o.i)), (V.ms 209 w 0 (acc.length))]]⟩ : Blk)) t4 (@rfl V (V.agg [(iV (o.i)), (V.ms 209 w 0 (acc.length))])) rfl h4 (by first | rfl | simp [stB, okB, Blk.own, putAt, V.one]) ?_
  refine R_mv (@rfl V (iV (0 : Int))) ?_
  exact R_nil ⟨t4, rfl, h2, rfl, h8, h205, h209, h303, h308, h354, h407, trivial⟩
 intro T H ⟨t4, t5, h2, h4, h8, h205, h209, h303, h308, h354, h407, _⟩
 refine W_ret ?_
 refine RetC_2 (resV_c (u := (V.agg [(iV (o.i)), (V.ms 209 w 0 (acc.length))])) t4 h4 (by first | rfl | simp [ldB, ldV, Blk.own, V.one])) (resV_t t5) (fz_agg2 (fz_int ?_) (fz_ms h209 (by first | rfl | simp) (l := acc) rfl (by first | rfl | simp | omega) (fun _ => by simp) ?_)) (fz_int ?_)
 · rw [alO_i]
 · unfold alO; rw [if_neg (by rw [hc, alR_end (by omega)]; simp), hc, alR_end (by omega)]
 · rw [hc, alR_end (by omega)]
end Go.Proofs.Ytngkckefanbhgaa

namespace Go.Proofs.Ytngkckefanbhgaa
open Go Go.Proofs
theorem oof_pure (m : M) (ws : List (List Int)) : PureC Try.prog 32 [(V.agg [(iV (m.i)), (iV (m.s)), (V.sl (List.map cL (m.nx))), (V.sl (List.map cL (m.ot)))]), (V.sl (List.map cL (ws)))] (V.tup [(V.agg [(iV ((ofO m ws).i)), (V.sl (List.map cT ((ofO m ws).tr)))]), (iV (ofE m ws))]) := by
 refine pure_of_Wb true 6 Try.func32 s32_ok (by kernel_rfl) (by simp [s32]) (by simp) (by simp) fun hB => ?_
 simp only [bnd_map, bnd_int, bnd_bool, bnd_str, bnd_agg, bnd_pp, bnd_nil, bnd_cons, implies_true, and_true, true_and] at hB
 unfold s32
 dsimp only
 refine W_seq_regc (fun T H => T 1 = (V.sl (List.map cL (ws))) ∧ T 2 = (V.mp 2 1 0 0) ∧ T 4 = (V.mp 4 1 0 0) ∧ H 2 = (⟨1, true, false, 24, 4, [[(iV (m.i)), (iV (m.s)), (V.sl (List.map cL (m.nx))), (V.sl (List.map cL (m.ot)))]]⟩ : Blk) ∧ H 4 = (⟨1, true, false, 34, 2, [[(iV (0 : Int)), V.nilsl]]⟩ : Blk) ∧ H 8 = (⟨0, false, false, 0, 0, []⟩ : Blk) ∧ True) ?_ ?_
 ·
  unfold r32_0
  refine R_box (i := 2) (n := 0) (m := 4) (cs := [(iV (m.i)), (iV (m.s)), (V.sl (List.map cL (m.nx))), (V.sl (List.map cL (m.ot)))]) rfl (congrArg Blk.ver rfl) (@rfl V (V.agg [(iV (m.i)), (iV (m.s)), (V.sl (List.map cL (m.nx))), (V.sl (List.map cL (m.ot)))])) rfl rfl ?_
  refine R_alloc (i := 4) (n := 0) (m := 2) rfl (congrArg Blk.ver rfl) rfl ?_
  refine R_mv (@rfl V (iV (0 : Int))) ?_
  exact R_nil ⟨rfl, rfl, rfl, rfl, rfl, rfl, trivial⟩
 intro T H ⟨t1, t2, t4, h2, h4, h8, _⟩
 refine W_seq_regc (fun T H => T 2 = (V.mp 2 1 0 0) ∧ T 4 = (V.mp 4 1 0 0) ∧ T 6 = (V.sl (List.map cT (trsL m ws))) ∧ T 7 = (iV (trsE m ws)) ∧ H 2 = (⟨1, true, false, 24, 4, [[(iV (m.i)), (iV (m.s)), (V.sl (List.map cL (m.nx))), (V.sl (List.map cL (m.ot)))]]⟩ : Blk) ∧ H 4 = (⟨1, true, false, 34, 2, [[(iV (0 : Int)), V.nilsl]]⟩ : Blk) ∧ H 8 = (⟨0, false, false, 0, 0, []⟩ : Blk) ∧ True) ?_ ?_
 ·
  unfold r32_1
  refine R_load_mp (v := (V.agg [(iV (m.i)), (iV (m.s)), (V.sl (List.map cL (m.nx))), (V.sl (List.map cL (m.ot)))])) t2 h2 (by first | rfl | simp [ldB, ldV, Blk.own, V.one]) ?_
  refine R_mv t1 ?_
  refine R_call (evcons (@rfl V (V.agg [(iV (m.i)), (iV (m.s)), (V.sl (List.map cL (m.nx))), (V.sl (List.map cL (m.ot)))])) (evcons (@rfl V (V.sl (List.map cL (ws)))) evnil)) (mtraces_pure m ws) (fzv_mapcanon _ _ (by simp [-List.map_take, -List.map_drop, -List.map_append, -List.map_reverse])) (by simp [-List.map_take, -List.map_drop, -List.map_append, -List.map_reverse]) (Or.inl (by simp [-List.map_take, -List.map_drop, -List.map_append, -List.map_reverse])) ?_
  refine R_mv (@rfl V (V.tup [(V.sl (List.map cT (trsL m ws))), (iV (trsE m ws))])) ?_
  refine R_ext (v := (V.sl (List.map cT (trsL m ws)))) (@rfl V (V.tup [(V.sl (List.map cT (trsL m ws))), (iV (trsE m ws))])) rfl ?_
  refine R_ext (v := (iV (trsE m ws))) (@rfl V (V.tup [(V.sl (List.map cT (trsL m ws))), (iV (trsE m ws))])) rfl ?_
  refine R_mv (@rfl V (V.sl (List.map cT (trsL m ws)))) ?_
  refine R_mv (@rfl V (iV (trsE m ws))) ?_
  exact R_nil ⟨t2, t4, rfl, rfl, h2, h4, h8, trivial⟩
 intro T H ⟨t2, t4, t6, t7, h2, h4, h8, _⟩
 refine W_seq_seq ?_
 refine W_seq_regc (fun T H => T 2 = (V.mp 2 1 0 0) ∧ T 4 = (V.mp 4 1 0 0) ∧ T 6 = (V.sl (List.map cT (trsL m ws))) ∧ T 7 = (iV (trsE m ws)) ∧ T 16 = (V.bool (decide ((trsE m ws) ≠ (0 : Int)))) ∧ H 2 = (⟨1, true, false, 24, 4, [[(iV (m.i)), (iV (m.s)), (V.sl (List.map cL (m.nx))), (V.sl (List.map cL (m.ot)))]]⟩ : Blk) ∧ H 4 = (⟨1, true, false, 34, 2, [[(iV (0 : Int)), V.nilsl]]⟩ : Blk) ∧ H 8 = (⟨0, false, false, 0, 0, []⟩ : Blk) ∧ True) ?_ ?_
 ·
  unfold r32_2
  refine R_mv t7 ?_
  refine R_neq (x := (trsE m ws)) (y := (0 : Int)) (@rfl V (iV (trsE m ws))) (@rfl V (iV (0 : Int))) ?_
  exact R_nil ⟨t2, t4, t6, t7, rfl, h2, h4, h8, trivial⟩
 intro T H ⟨t2, t4, t6, t7, t16, h2, h4, h8, _⟩
 refine W_seq_if (p := (trsE m ws) ≠ (0 : Int)) t16 (fun c1 => ?_) (fun c1 => ?_)
 ·
  have d1 := c1
  refine W_seq_seq ?_
  refine W_seq_regc (fun T H => T 4 = (V.mp 4 1 0 0) ∧ T 5 = (iV (trsE m ws)) ∧ H 2 = (⟨1, true, false, 24, 4, [[(iV (m.i)), (iV (m.s)), (V.sl (List.map cL (m.nx))), (V.sl (List.map cL (m.ot)))]]⟩ : Blk) ∧ H 4 = (⟨1, true, false, 34, 2, [[(iV (0 : Int)), V.nilsl]]⟩ : Blk) ∧ H 8 = (⟨0, false, false, 0, 0, []⟩ : Blk) ∧ True) ?_ ?_
  ·
   unfold r32_3
   refine R_build (qs := []) (cs := [(iV (0 : Int)), V.nilsl]) rfl rfl ?_
   refine R_mv t7 ?_
   refine R_store (vs := [(iV (0 : Int)), V.nilsl]) (B' := (⟨1, true, false, 34, 2, [[(iV (0 : Int)), V.nilsl]]⟩ : Blk)) t4 (@rfl V (V.agg [(iV (0 : Int)), V.nilsl])) rfl h4 (by first | rfl | simp [stB, okB, Blk.own, putAt, V.one]) ?_
   refine R_mv (@rfl V (iV (trsE m ws))) ?_
   exact R_nil ⟨t4, rfl, h2, rfl, h8, trivial⟩
  intro T H ⟨t4, t5, h2, h4, h8, _⟩
  refine W_seq_ret ?_
  refine RetC_2 (resV_c (u := (V.agg [(iV (0 : Int)), V.nilsl])) t4 h4 (by first | rfl | simp [ldB, ldV, Blk.own, V.one])) (resV_t t5) (fz_agg2 (fz_int ?_) (fz_nil ?_)) (fz_int ?_)
  · rw [ofO, if_pos (by unfold ofE; rw [if_pos d1]; exact d1)]
  · rw [ofO, if_pos (by unfold ofE; rw [if_pos d1]; exact d1)]
  · rw [ofE, if_pos d1]
 have d1 := c1
 have hk := trs_ok d1
 refine W_seq_skip ?_
 refine W_seq_regc (fun T H => T 4 = (V.mp 4 1 0 0) ∧ T 7 = (iV ((alR (⟨((m.i)), ([])⟩ : Ob).i (⟨((m.i)), ([])⟩ : Ob).tr (trsL m ws)).2)) ∧ T 8 = (V.mp 8 1 0 0) ∧ H 2 = (⟨1, true, false, 24, 4, [[(iV (m.i)), (iV (m.s)), (V.sl (List.map cL (m.nx))), (V.sl (List.map cL (m.ot)))]]⟩ : Blk) ∧ H 4 = (⟨1, true, false, 34, 2, [[(iV (0 : Int)), V.nilsl]]⟩ : Blk) ∧ H 8 = (⟨1, true, false, 34, 2, [[(iV ((alO (⟨((m.i)), ([])⟩ : Ob) (trsL m ws)).i)), (V.sl (List.map cT ((alO (⟨((m.i)), ([])⟩ : Ob) (trsL m ws)).tr)))]]⟩ : Blk) ∧ True) ?_ ?_
 ·
  unfold r32_4
  refine R_fld_mp (o' := 0) t2 h2 (by first | rfl | simp [okB, Blk.own]) rfl ?_
  refine R_load_mp (v := (iV (m.i))) (@rfl V (V.mp 2 1 0 0)) h2 (by first | rfl | simp [ldB, ldV, Blk.own, V.one]) ?_
  refine R_build (qs := [(0, 1, (iV (m.i)))]) (cs := [(iV (m.i)), V.nilsl]) (mcons (congrArg (fun v => (0, 1, v)) (@rfl V (iV (m.i)))) rfl) rfl ?_
  refine R_mv t6 ?_
  refine R_call (evcons (@rfl V (V.agg [(iV (m.i)), V.nilsl])) (evcons (@rfl V (V.sl (List.map cT (trsL m ws)))) evnil)) (all_pure (⟨((m.i)), ([])⟩ : Ob) (trsL m ws) hk.2) (mcons (by simp [fzv, Blk.own, h2, h4, h8]) (mcons (fzv_canon 6 _ (by simp [-List.map_take, -List.map_drop, -List.map_append, -List.map_reverse])) rfl)) (by simp [-List.map_take, -List.map_drop, -List.map_append, -List.map_reverse]) (Or.inl (by simp [-List.map_take, -List.map_drop, -List.map_append, -List.map_reverse])) ?_
  refine R_mv (@rfl V (V.tup [(V.agg [(iV ((alO (⟨((m.i)), ([])⟩ : Ob) (trsL m ws)).i)), (V.sl (List.map cT ((alO (⟨((m.i)), ([])⟩ : Ob) (trsL m ws)).tr)))]), (iV ((alR (⟨((m.i)), ([])⟩ : Ob).i (⟨((m.i)), ([])⟩ : Ob).tr (trsL m ws)).2))])) ?_
  refine R_ext (v := (V.agg [(iV ((alO (⟨((m.i)), ([])⟩ : Ob) (trsL m ws)).i)), (V.sl (List.map cT ((alO (⟨((m.i)), ([])⟩ : Ob) (trsL m ws)).tr)))])) (@rfl V (V.tup [(V.agg [(iV ((alO (⟨((m.i)), ([])⟩ : Ob) (trsL m ws)).i)), (V.sl (List.map cT ((alO (⟨((m.i)), ([])⟩ : Ob) (trsL m ws)).tr)))]), (iV ((alR (⟨((m.i)), ([])⟩ : Ob).i (⟨((m.i)), ([])⟩ : Ob).tr (trsL m ws)).2))])) rfl ?_
  refine R_ext (v := (iV ((alR (⟨((m.i)), ([])⟩ : Ob).i (⟨((m.i)), ([])⟩ : Ob).tr (trsL m ws)).2))) (@rfl V (V.tup [(V.agg [(iV ((alO (⟨((m.i)), ([])⟩ : Ob) (trsL m ws)).i)), (V.sl (List.map cT ((alO (⟨((m.i)), ([])⟩ : Ob) (trsL m ws)).tr)))]), (iV ((alR (⟨((m.i)), ([])⟩ : Ob).i (⟨((m.i)), ([])⟩ : Ob).tr (trsL m ws)).2))])) rfl ?_
  refine R_alloc (i := 8) (n := 0) (m := 2) rfl (congrArg Blk.ver h8) rfl ?_
  refine R_store (vs := [(iV ((alO (⟨((m.i)), ([])⟩ : Ob) (trsL m ws)).i)), (V.sl (List.map cT ((alO (⟨((m.i)), ([])⟩ : Ob) (trsL m ws)).tr)))]) (B' := (⟨1, true, false, 34, 2, [[(iV ((alO (⟨((m.i)), ([])⟩ : Ob) (trsL m ws)).i)), (V.sl (List.map cT ((alO (⟨((m.i)), ([])⟩ : Ob) (trsL m ws)).tr)))]]⟩ : Blk)) (@rfl V (V.mp 8 1 0 0)) (@rfl V (V.agg [(iV ((alO (⟨((m.i)), ([])⟩ : Ob) (trsL m ws)).i)), (V.sl (List.map cT ((alO (⟨((m.i)), ([])⟩ : Ob) (trsL m ws)).tr)))])) rfl (@rfl Blk (⟨1, true, false, 34, 2, [[(iV (0 : Int)), V.nilsl]]⟩ : Blk)) (by first | rfl | simp [stB, okB, Blk.own, putAt, V.one]) ?_
  refine R_mv (@rfl V (iV ((alR (⟨((m.i)), ([])⟩ : Ob).i (⟨((m.i)), ([])⟩ : Ob).tr (trsL m ws)).2))) ?_
  exact R_nil ⟨t4, rfl, rfl, h2, h4, rfl, trivial⟩
 intro T H ⟨t4, t7, t8, h2, h4, h8, _⟩
 refine W_seq_seq ?_
 refine W_seq_regc (fun T H => T 4 = (V.mp 4 1 0 0) ∧ T 7 = (iV ((alR (⟨((m.i)), ([])⟩ : Ob).i (⟨((m.i)), ([])⟩ : Ob).tr (trsL m ws)).2)) ∧ T 8 = (V.mp 8 1 0 0) ∧ T 28 = (V.bool (decide (((alR (⟨((m.i)), ([])⟩ : Ob).i (⟨((m.i)), ([])⟩ : Ob).tr (trsL m ws)).2) ≠ (0 : Int)))) ∧ H 2 = (⟨1, true, false, 24, 4, [[(iV (m.i)), (iV (m.s)), (V.sl (List.map cL (m.nx))), (V.sl (List.map cL (m.ot)))]]⟩ : Blk) ∧ H 4 = (⟨1, true, false, 34, 2, [[(iV (0 : Int)), V.nilsl]]⟩ : Blk) ∧ H 8 = (⟨1, true, false, 34, 2, [[(iV ((alO (⟨((m.i)), ([])⟩ : Ob) (trsL m ws)).i)), (V.sl (List.map cT ((alO (⟨((m.i)), ([])⟩ : Ob) (trsL m ws)).tr)))]]⟩ : Blk) ∧ True) ?_ ?_
 ·
  unfold r32_5
  refine R_mv t7 ?_
  refine R_neq (x := ((alR (⟨((m.i)), ([])⟩ : Ob).i (⟨((m.i)), ([])⟩ : Ob).tr (trsL m ws)).2)) (y := (0 : Int)) (@rfl V (iV ((alR (⟨((m.i)), ([])⟩ : Ob).i (⟨((m.i)), ([])⟩ : Ob).tr (trsL m ws)).2))) (@rfl V (iV (0 : Int))) ?_
  exact R_nil ⟨t4, t7, t8, rfl, h2, h4, h8, trivial⟩
 intro T H ⟨t4, t7, t8, t28, h2, h4, h8, _⟩
 refine W_seq_if (p := ((alR (⟨((m.i)), ([])⟩ : Ob).i (⟨((m.i)), ([])⟩ : Ob).tr (trsL m ws)).2) ≠ (0 : Int)) t28 (fun c2 => ?_) (fun c2 => ?_)
 ·
  have d2 := c2
  refine W_seq_seq ?_
  refine W_seq_regc (fun T H => T 4 = (V.mp 4 1 0 0) ∧ T 5 = (iV ((alR (⟨((m.i)), ([])⟩ : Ob).i (⟨((m.i)), ([])⟩ : Ob).tr (trsL m ws)).2)) ∧ H 2 = (⟨1, true, false, 24, 4, [[(iV (m.i)), (iV (m.s)), (V.sl (List.map cL (m.nx))), (V.sl (List.map cL (m.ot)))]]⟩ : Blk) ∧ H 4 = (⟨1, true, false, 34, 2, [[(iV (0 : Int)), V.nilsl]]⟩ : Blk) ∧ H 8 = (⟨1, true, false, 34, 2, [[(iV ((alO (⟨((m.i)), ([])⟩ : Ob) (trsL m ws)).i)), (V.sl (List.map cT ((alO (⟨((m.i)), ([])⟩ : Ob) (trsL m ws)).tr)))]]⟩ : Blk) ∧ True) ?_ ?_
  ·
   unfold r32_6
   refine R_build (qs := []) (cs := [(iV (0 : Int)), V.nilsl]) rfl rfl ?_
   refine R_mv t7 ?_
   refine R_store (vs := [(iV (0 : Int)), V.nilsl]) (B' := (⟨1, true, false, 34, 2, [[(iV (0 : Int)), V.nilsl]]⟩ : Blk)) t4 (@rfl V (V.agg [(iV (0 : Int)), V.nilsl])) rfl h4 (by first | rfl | simp [stB, okB, Blk.own, putAt, V.one]) ?_
   refine R_mv (@rfl V (iV ((alR (⟨((m.i)), ([])⟩ : Ob).i (⟨((m.i)), ([])⟩ : Ob).tr (trsL m ws)).2))) ?_
   exact R_nil ⟨t4, rfl, h2, rfl, h8, trivial⟩
  intro T H ⟨t4, t5, h2, h4, h8, _⟩
  refine W_seq_ret ?_
  refine RetC_2 (resV_c (u := (V.agg [(iV (0 : Int)), V.nilsl])) t4 h4 (by first | rfl | simp [ldB, ldV, Blk.own, V.one])) (resV_t t5) (fz_agg2 (fz_int ?_) (fz_nil ?_)) (fz_int ?_)
  · rw [ofO, if_pos (by unfold ofE; rw [if_neg d1]; exact d2)]
  · rw [ofO, if_pos (by unfold ofE; rw [if_neg d1]; exact d2)]
  · rw [ofE, if_neg d1]
 have d2 := c2
 refine W_seq_skip ?_
 refine W_seq_regc (fun T H => T 4 = (V.mp 4 1 0 0) ∧ T 5 = (iV (0 : Int)) ∧ H 2 = (⟨1, true, false, 24, 4, [[(iV (m.i)), (iV (m.s)), (V.sl (List.map cL (m.nx))), (V.sl (List.map cL (m.ot)))]]⟩ : Blk) ∧ H 4 = (⟨1, true, false, 34, 2, [[(iV ((alO (⟨((m.i)), ([])⟩ : Ob) (trsL m ws)).i)), (V.sl (List.map cT ((alO (⟨((m.i)), ([])⟩ : Ob) (trsL m ws)).tr)))]]⟩ : Blk) ∧ H 8 = (⟨1, true, false, 34, 2, [[(iV ((alO (⟨((m.i)), ([])⟩ : Ob) (trsL m ws)).i)), (V.sl (List.map cT ((alO (⟨((m.i)), ([])⟩ : Ob) (trsL m ws)).tr)))]]⟩ : Blk) ∧ True) ?_ ?_
 ·
  unfold r32_7
  refine R_load_mp (v := (V.agg [(iV ((alO (⟨((m.i)), ([])⟩ : Ob) (trsL m ws)).i)), (V.sl (List.map cT ((alO (⟨((m.i)), ([])⟩ : Ob) (trsL m ws)).tr)))])) t8 h8 (by first | rfl | simp [ldB, ldV, Blk.own, V.one]) ?_
  refine R_store (vs := [(iV ((alO (⟨((m.i)), ([])⟩ : Ob) (trsL m ws)).i)), (V.sl (List.map cT ((alO (⟨((m.i)), ([])⟩ : Ob) (trsL m ws)).tr)))]) (B' := (⟨1, true, false, 34, 2, [[(iV ((alO (⟨((m.i)), ([])⟩ : Ob) (trsL m ws)).i)), (V.sl (List.map cT ((alO (⟨((m.i)), ([])⟩ : Ob) (trsL m ws)).tr)))]]⟩ : Blk)) t4 (@rfl V (V.agg [(iV ((alO (⟨((m.i)), ([])⟩ : Ob) (trsL m ws)).i)), (V.sl (List.map cT ((alO (⟨((m.i)), ([])⟩ : Ob) (trsL m ws)).tr)))])) rfl h4 (by first | rfl | simp [stB, okB, Blk.own, putAt, V.one]) ?_
  refine R_mv (@rfl V (iV (0 : Int))) ?_
  exact R_nil ⟨t4, rfl, h2, rfl, h8, trivial⟩
 intro T H ⟨t4, t5, h2, h4, h8, _⟩
 refine W_ret ?_
 refine RetC_2 (resV_c (u := (V.agg [(iV ((alO (⟨((m.i)), ([])⟩ : Ob) (trsL m ws)).i)), (V.sl (List.map cT ((alO (⟨((m.i)), ([])⟩ : Ob) (trsL m ws)).tr)))])) t4 h4 (by first | rfl | simp [ldB, ldV, Blk.own, V.one])) (resV_t t5) (fz_agg2 (fz_int ?_) (fz_sl ?_ (fun _ => by simp))) (fz_int ?_)
 · rw [ofO, if_neg (by unfold ofE; rw [if_neg d1]; exact d2)]
 · rw [ofO, if_neg (by unfold ofE; rw [if_neg d1]; exact d2)]
 · rw [ofE, if_neg d1]; exact (Decidable.not_not.1 d2).symm
end Go.Proofs.Ytngkckefanbhgaa

namespace Go.Proofs.Ytngkckefanbhgaa
open Go Go.Proofs
def r33_0 : List SO := [
  ⟨none, some 1, .box 24 4 (.t 0)⟩,
  ⟨none, some 2, .mv (.c (.nilsl))⟩]
def r33_1 : List SO := [
  ⟨none, some 8, .load true 4 (.t 1)⟩,
  ⟨none, some 9, .call false 55 [.t 8]⟩,
  ⟨none, some 10, .bin .neq (.t 9) (.c (.int .i64 0))⟩]
def r33_2 : List SO := [
  ⟨none, some 2, .mv (.c (.nilsl))⟩]
def r33_3 : List SO := [
  ⟨none, some 11, .fld 2 (.t 1)⟩,
  ⟨none, some 12, .load false 1 (.t 11)⟩,
  ⟨none, some 13, .len (.t 12)⟩,
  ⟨none, some 14, .mks 4 1 1 [.bool false] (.t 13) (.t 13)⟩,
  ⟨none, some 3, .mv (.t 14)⟩]
def r33_4 : List SO := [
  ⟨none, some 15, .mv (.t 3)⟩,
  ⟨none, some 16, .fld 1 (.t 1)⟩,
  ⟨none, some 17, .load false 1 (.t 16)⟩,
  ⟨none, some 18, .idx 1 (.t 15) (.t 17)⟩,
  ⟨none, none, .store 1 (.t 18) (.c (.bool true))⟩]
def r33_5 : List SO := [
  ⟨none, some 19, .fld 1 (.t 1)⟩,
  ⟨none, some 20, .load false 1 (.t 19)⟩,
  ⟨none, some 21, .bslice 3 1 true [.int .i64 0] 1 [(0, .t 20)]⟩,
  ⟨none, some 4, .mv (.t 21)⟩]
def r33_6 : List SO := [
  ⟨none, some 5, .mv (.c (.int .i64 0))⟩]
def r33_7 : List SO := [
  ⟨none, some 22, .mv (.t 5)⟩,
  ⟨none, some 23, .mv (.t 4)⟩,
  ⟨none, some 24, .len (.t 23)⟩,
  ⟨none, some 25, .bin .lss (.t 22) (.t 24)⟩]
def r33_9 : List SO := [
  ⟨none, some 28, .fld 2 (.t 1)⟩,
  ⟨none, some 29, .load false 1 (.t 28)⟩,
  ⟨none, some 30, .mv (.t 4)⟩,
  ⟨none, some 31, .mv (.t 5)⟩,
  ⟨none, some 32, .idx 1 (.t 30) (.t 31)⟩,
  ⟨none, some 33, .load false 1 (.t 32)⟩,
  ⟨none, some 34, .idx 1 (.t 29) (.t 33)⟩,
  ⟨none, some 35, .load false 1 (.t 34)⟩,
  ⟨none, some 36, .len (.t 35)⟩,
  ⟨none, some 37, .mv (.c (.int .i64 0))⟩]
def r33_10 : List SO := [
  ⟨none, some 38, .bin .lss (.t 37) (.t 36)⟩]
def r33_11 : List SO := [
  ⟨none, some 39, .idx 1 (.t 35) (.t 37)⟩,
  ⟨none, some 40, .load false 1 (.t 39)⟩,
  ⟨none, some 7, .mv (.t 40)⟩]
def r33_12 : List SO := [
  ⟨none, some 41, .mv (.t 3)⟩,
  ⟨none, some 42, .mv (.t 7)⟩,
  ⟨none, some 43, .idx 1 (.t 41) (.t 42)⟩,
  ⟨none, some 44, .load false 1 (.t 43)⟩,
  ⟨none, some 45, .un .not (.t 44)⟩]
def r33_13 : List SO := [
  ⟨none, some 46, .mv (.t 3)⟩,
  ⟨none, some 47, .mv (.t 7)⟩,
  ⟨none, some 48, .idx 1 (.t 46) (.t 47)⟩,
  ⟨none, none, .store 1 (.t 48) (.c (.bool true))⟩]
def r33_14 : List SO := [
  ⟨none, some 49, .mv (.t 4)⟩,
  ⟨none, some 50, .mv (.t 7)⟩,
  ⟨none, some 51, .bslice 3 1 false [.int .i64 0] 1 [(0, .t 50)]⟩,
  ⟨none, some 52, .append 3 1 8 (.t 49) (.t 51)⟩,
  ⟨none, some 4, .mv (.t 52)⟩]
def r33_15 : List SO := [
  ⟨none, some 53, .bin .add (.t 37) (.c (.int .i64 1))⟩,
  ⟨none, some 37, .mv (.t 53)⟩]
def b33_1 : SC := .seq (.reg r33_10) (.seq (.cond (.t 38) (.skip) (.exit 2)) (.seq (.block 3 (.seq (.reg r33_11) (.seq (.reg r33_12) (.cond (.t 45) (.seq (.reg r33_13) (.reg r33_14)) (.skip))))) (.reg r33_15)))
def r33_8 : List SO := [
  ⟨none, some 26, .mv (.t 5)⟩,
  ⟨none, some 27, .bin .add (.t 26) (.c (.int .i64 1))⟩,
  ⟨none, some 5, .mv (.t 27)⟩]
def b33_0 : SC := .seq (.seq (.reg r33_7) (.cond (.t 25) (.skip) (.exit 0))) (.seq (.block 1 (.seq (.reg r33_9) (.block 2 (.loop b33_1)))) (.reg r33_8))
def r33_16 : List SO := [
  ⟨none, some 54, .mv (.t 4)⟩,
  ⟨none, some 2, .mv (.t 54)⟩]
def s33 : SF := ⟨55, [.tmp 2], .seq (.reg r33_0) (.seq (.seq (.reg r33_1) (.cond (.t 10) (.seq (.reg r33_2) (.ret)) (.skip))) (.seq (.reg r33_3) (.seq (.reg r33_4) (.seq (.reg r33_5) (.seq (.seq (.reg r33_6) (.block 0 (.loop b33_0))) (.seq (.reg r33_16) (.ret)))))))⟩
theorem s33_ok : slimF Try.prog ⟨[94, 102, 103, 108, 109, 116, 119, 121, 125], [21]⟩ Try.f33 = some s33 := by kernel_rfl
end Go.Proofs.Ytngkckefanbhgaa

namespace Go.Proofs.Ytngkckefanbhgaa
theorem oval_of {o : Ob} (h : OK o) : oval o = 0 := by
  have hi := h.hi
  have hl := h.len
  have h1 : fe (trE o) 0 o.tr.length = 0 := fe_zero_iff.2 fun j _ hj => by
    have hj' : j < o.tr.length := by omega
    obtain ⟨p1, p2⟩ := h.pr j hj'
    have hw : wchk (nth o.tr j).ni o.i = 0 := wchk_zero ⟨hi.1, by omega⟩ p1.lel p1.sym
    have hp : prE (nth o.tr j) o.i = 0 := by
      rw [prE, if_neg (by omega), if_neg (by have := p1.len; omega)]
      exact fe_zero_iff.2 fun k _ hk => by
        have := p1.out k (by omega)
        rw [outE, if_neg (by omega)]
    rw [trE, if_neg (by omega), if_neg (by omega), if_neg (by omega), if_neg]
    intro q
    have := h.ord (j - 1) (by omega)
    rw [show j - 1 + 1 = j by omega] at this
    omega
  rw [oval, if_neg (by omega), if_neg (by omega), if_neg (by omega)]
  refine fe_zero_iff.2 fun j _ hj => ?_
  have hj' : j < o.tr.length := by omega
  rw [apE, if_neg, if_neg]
  · intro q
    obtain ⟨k, hk, e⟩ := exB_iff.1 q
    have := h.cla j (j + 1 + k) (by omega) (by omega)
    simp only [claB, decide_eq_true_eq] at e
    omega
  · intro q
    obtain ⟨k, hk, e⟩ := exB_iff.1 q
    have := h.pre j (j + 1 + k) (by omega) (by omega)
    simp only [preB] at e
    rw [this] at e; cases e
theorem srt_ext : ∀ {l m : List Tr}, Srt l → Srt m → (∀ u, u ∈ l ↔ u ∈ m) → l = m
  | [], [], _, _, _ => rfl
  | [], b :: m, _, _, h => by have := (h b).2 (by simp); simp at this
  | a :: l, [], _, _, h => by have := (h a).1 (by simp); simp at this
  | a :: l, b :: m, hl, hm, h => by
    obtain ⟨l1, l2⟩ := List.pairwise_cons.1 hl
    obtain ⟨m1, m2⟩ := List.pairwise_cons.1 hm
    have irr : ∀ x : Tr, ¬slx x.ni x.ni < 0 := fun x q => by rw [slx_zero.2 rfl] at q; omega
    have e : a = b := by
      rcases List.mem_cons.1 ((h a).1 (by simp)) with e | e
      · exact e
      · rcases List.mem_cons.1 ((h b).2 (by simp)) with g | g
        · exact g.symm
        · exact (irr a (slx_trans (l1 b g) (m1 a e))).elim
    subst e
    rw [srt_ext l2 m2 fun u => ?_]
    constructor
    · intro hu
      rcases List.mem_cons.1 ((h u).1 (List.mem_cons_of_mem _ hu)) with e | e
      · subst e; exact (irr _ (l1 _ hu)).elim
      · exact e
    · intro hu
      rcases List.mem_cons.1 ((h u).2 (List.mem_cons_of_mem _ hu)) with e | e
      · subst e; exact (irr _ (m1 _ hu)).elim
      · exact e
theorem OK.anti {o : Ob} (h : OK o) {u v : Tr} (hu : u ∈ o.tr) (hv : v ∈ o.tr) (e : hp v.ni u.ni = true) : v = u := by
  obtain ⟨a, ha, rfl⟩ := mem_nth hu
  obtain ⟨b, hb, rfl⟩ := mem_nth hv
  rcases Nat.lt_trichotomy a b with q | q | q
  · rw [h.pre a b q hb] at e; cases e
  · rw [q]
  · have h1 := OK.lt_of h.ord q ha
    have h2 := hp_len e
    unfold slx at h1
    split at h1
    · omega
    · split at h1
      · omega
      · rw [hp_eq e (by omega), lexI_zero.2 rfl] at h1; omega
theorem df_neg {a b : Tr} : df a b < 0 ↔ ∀ j, j < cmn a.ni b.ni → nth a.no j = nth b.no j := by
  constructor
  · intro h j hj
    by_cases e : nth a.no j = nth b.no j
    · exact e
    · have := df_iff.2 ⟨j, hj, e⟩; omega
  · intro h
    by_cases e : df a b < 0
    · exact e
    · obtain ⟨j, hj, q⟩ := df_iff.1 (show 0 ≤ df a b by omega)
      exact (q (h j hj)).elim
theorem df_self (a : Tr) : df a a < 0 := df_neg.2 fun _ _ => rfl
theorem tr_same {a b : Tr} (h1 : a.no.length = a.ni.length) (h2 : b.no.length = b.ni.length) (e : a.ni = b.ni) (h : df a b < 0) : a = b := by
  rw [Tr.eq_iff]
  refine ⟨e, nth_ext (by rw [h1, h2, e]) fun j hj => df_neg.1 h j ?_⟩
  rw [e, cmn_self]; rw [h1, e] at hj; exact hj
theorem addE_ok {l : List Tr} {t : Tr} (h : addE l t = 0) : ∀ u ∈ l, df u t < 0 := fun u hu => by
  unfold addE at h
  split at h
  · cases h
  · rename_i g; exact not_ndet g hu
theorem OK.cl {o : Ob} (h : OK o) {u v : Tr} (hu : u ∈ o.tr) (hv : v ∈ o.tr) : df u v < 0 := df_neg.2 fun _ hj => h.same hu hv hj
def Mx (p : Tr → Prop) (u : Tr) : Prop := p u ∧ 0 < u.ni.length ∧ ∀ v, p v → hp v.ni u.ni = true → v.ni = u.ni
theorem hp_antisym {a b : List Int} (h1 : hp a b = true) (h2 : hp b a = true) : a = b := hp_eq h1 (hp_len h2)
theorem inL_cov {l : List Tr} {s : Tr} (h : inL l s) (hs : 0 < s.ni.length) : ∃ w ∈ l, hp w.ni s.ni = true := by
  rcases h with h | h
  · obtain ⟨j, hj, e⟩ := exB_iff.1 h
    rw [Nat.zero_add] at e
    exact ⟨nth l j, nth_mem hj, e⟩
  · omega
theorem mem_ins {l : List Tr} {t u : Tr} : u ∈ ins l t ↔ u ∈ l ∨ u = t := by
  simp only [ins, List.mem_append, List.mem_cons, List.mem_filter]
  constructor
  · rintro (h | h | h)
    · exact .inl h.1
    · exact .inr h
    · exact .inl h.1
  · rintro (h | h)
    · cases e : lbP t u
      · exact .inr (.inr ⟨h, by simp⟩)
      · exact .inl ⟨h, rfl⟩
    · exact .inr (.inl h)
theorem mem_add {i : Int} {l : List Tr} {s : Tr} (ho : OK ⟨i, l⟩) (hs : prE s i = 0) (he : addE l s = 0) (u : Tr) : u ∈ addL l s ↔ Mx (fun v => v ∈ l ∨ v = s) u := by
  have ps := prE_ok hs
  have hcl := addE_ok he
  unfold addL
  by_cases h : inL l s
  · rw [if_pos h]
    constructor
    · intro hu
      have hu0 := (ho.mem hu).2
      refine ⟨.inl hu, hu0, fun v hv e => ?_⟩
      rcases hv with hv | rfl
      · rw [ho.anti hu hv e]
      · have h1 := hp_len e
        obtain ⟨w, hw, hws⟩ := inL_cov h (by omega)
        have := ho.anti hu hw (hp_trans hws e)
        subst this
        exact hp_antisym e hws
    · rintro ⟨h1 | rfl, h2, h3⟩
      · exact h1
      · obtain ⟨w, hw, hws⟩ := inL_cov h h2
        have e := h3 w (.inl hw) hws
        rwa [← tr_same (ho.mem hw).1.len ps.len e (hcl w hw)]
  · rw [if_neg h]
    rw [mem_ins, List.mem_filter]
    constructor
    · rintro (⟨h1, h2⟩ | rfl)
      · refine ⟨.inl h1, (ho.mem h1).2, fun v hv e => ?_⟩
        rcases hv with hv | rfl
        · rw [ho.anti h1 hv e]
        · simp [kp, e] at h2
      · refine ⟨.inr rfl, by have : ¬u.ni.length = 0 := fun q => h (.inr q); omega, fun v hv e => ?_⟩
        rcases hv with hv | rfl
        · rw [not_inL h hv] at e; cases e
        · rfl
    · rintro ⟨h1 | rfl, h2, h3⟩
      · by_cases hh : u = s
        · exact .inr hh
        refine .inl ⟨h1, ?_⟩
        unfold kp
        cases e : hp s.ni u.ni with
        | false => rfl
        | true =>
          have := h3 s (.inr rfl) e
          have q := not_inL h h1
          rw [← this, hp_self] at q; cases q
      · exact .inr rfl
theorem add_cov {i : Int} {l : List Tr} {s : Tr} (ho : OK ⟨i, l⟩) {v : Tr} (hv : v ∈ l ∨ v = s) (h0 : 0 < v.ni.length) : ∃ w ∈ addL l s, hp w.ni v.ni = true := by
  unfold addL
  by_cases h : inL l s
  · rw [if_pos h]
    rcases hv with hv | rfl
    · exact ⟨v, hv, hp_self _⟩
    · exact inL_cov h h0
  · rw [if_neg h]
    rcases hv with hv | rfl
    · cases e : hp s.ni v.ni with
      | true => exact ⟨s, mem_ins.2 (.inr rfl), e⟩
      | false => exact ⟨v, mem_ins.2 (.inl (List.mem_filter.2 ⟨hv, by simp [kp, e]⟩)), hp_self _⟩
    · exact ⟨v, mem_ins.2 (.inr rfl), hp_self _⟩
theorem mem_add2 {i : Int} {l : List Tr} {s t : Tr} (ho : OK ⟨i, l⟩) (hs : prE s i = 0) (he : addE l s = 0) (ht : prE t i = 0) (hf : addE (addL l s) t = 0) (u : Tr) :
    u ∈ addL (addL l s) t ↔ Mx (fun v => v ∈ l ∨ v = s ∨ v = t) u := by
  have o1 := add_ok ho hs he
  rw [mem_add o1 ht hf]
  constructor
  · rintro ⟨h1, h2, h3⟩
    refine ⟨?_, h2, fun v hv e => ?_⟩
    · rcases h1 with h1 | h1
      · rcases ((mem_add ho hs he u).1 h1).1 with q | q
        · exact .inl q
        · exact .inr (.inl q)
      · exact .inr (.inr h1)
    · have hv0 : 0 < v.ni.length := by have := hp_len e; omega
      have key : (v ∈ l ∨ v = s) → v.ni = u.ni := fun hv => by
        obtain ⟨w, hw, hwv⟩ := add_cov ho hv hv0
        have q := h3 w (.inl hw) (hp_trans hwv e)
        rw [← q] at e
        rw [← q]; exact hp_antisym e hwv
      rcases hv with hv | hv | rfl
      · exact key (.inl hv)
      · exact key (.inr hv)
      · exact h3 v (.inr rfl) e
  · rintro ⟨h1, h2, h3⟩
    refine ⟨?_, h2, fun v hv e => ?_⟩
    · rcases h1 with h1 | h1 | h1
      · exact .inl ((mem_add ho hs he u).2 ⟨.inl h1, h2, fun v hv e => h3 v (by rcases hv with hv | hv; exact .inl hv; exact .inr (.inl hv)) e⟩)
      · exact .inl ((mem_add ho hs he u).2 ⟨.inr h1, h2, fun v hv e => h3 v (by rcases hv with hv | hv; exact .inl hv; exact .inr (.inl hv)) e⟩)
      · exact .inr h1
    · rcases hv with hv | rfl
      · rcases ((mem_add ho hs he v).1 hv).1 with q | q
        · exact h3 v (.inl q) e
        · exact h3 v (.inr (.inl q)) e
      · exact h3 v (.inr (.inr rfl)) e
theorem add_comm2 {i : Int} {l : List Tr} {s t : Tr} (ho : OK ⟨i, l⟩) (hs : prE s i = 0) (ht : prE t i = 0) (he : addE l s = 0) (hf : addE (addL l s) t = 0) (hg : addE l t = 0) (hh : addE (addL l t) s = 0) :
    addL (addL l s) t = addL (addL l t) s := by
  refine srt_ext (add_ok (add_ok ho hs he) ht hf).srt (add_ok (add_ok ho ht hg) hs hh).srt fun u => ?_
  rw [mem_add2 ho hs he ht hf, mem_add2 ho ht hg hs hh]
  unfold Mx
  have : ∀ v, (v ∈ l ∨ v = s ∨ v = t) ↔ (v ∈ l ∨ v = t ∨ v = s) := fun v => by
    constructor <;> rintro (h | h | h)
    · exact .inl h
    · exact .inr (.inr h)
    · exact .inr (.inl h)
    · exact .inl h
    · exact .inr (.inr h)
    · exact .inr (.inl h)
  simp only [this]
theorem ans_cov {o : Ob} {s : Tr} (hc : 0 < s.ni.length → ∃ w ∈ o.tr, hp w.ni s.ni = true) (hd : ∀ u ∈ o.tr, df u s < 0) (hl : ∀ u ∈ o.tr, u.no.length = u.ni.length) (hs : s.no.length = s.ni.length) : ans o s.ni = some s.no := by
  unfold ans
  split
  · rename_i h; rw [h] at hs; rw [List.length_eq_zero_iff.1 hs]
  · rename_i h
    have h0 : 0 < s.ni.length := List.length_pos_iff.2 h
    obtain ⟨w, hw, e⟩ := hc h0
    cases ha : ansL o.tr s.ni with
    | none => rw [ansL_none ha w hw] at e; cases e
    | some x =>
      obtain ⟨u, hu, h1, rfl⟩ := ansL_some ha
      have hul := hl u hu
      have hle := hp_len h1
      congr 1
      refine nth_ext (by rw [List.length_take]; omega) fun j hj => ?_
      rw [List.length_take] at hj
      rw [nth_take (by omega)]
      have : cmn u.ni s.ni = s.ni.length := by simpa [hp] using h1
      exact df_neg.1 (hd u hu) j (by omega)
theorem addL_in {l : List Tr} {t : Tr} (h : inL l t) : addL l t = l := if_pos h
theorem order_all {o : Ob} {s t : Tr} (ho : OK o) (e1 : (alR o.i o.tr [s]).2 = 0) (e2 : (alR (alO o [s]).i (alO o [s]).tr [t]).2 = 0) (e3 : (alR o.i o.tr [t]).2 = 0) (e4 : (alR (alO o [t]).i (alO o [t]).tr [s]).2 = 0) :
    alO (alO o [s]) [t] = alO (alO o [t]) [s] ∧ alO (alO (alO o [s]) [t]) [s] = alO (alO o [s]) [t] ∧ (alR (alO (alO o [s]) [t]).i (alO (alO o [s]) [t]).tr [s]).2 = 0 ∧
    ans (alO (alO o [s]) [t]) s.ni = some s.no ∧ ans (alO (alO o [s]) [t]) t.ni = some t.no ∧ ∀ u ∈ o.tr, ans (alO (alO o [s]) [t]) u.ni = some u.no := by
  have one : ∀ {q : Ob} {x : Tr}, (alR q.i q.tr [x]).2 = 0 → prE x q.i = 0 ∧ addE q.tr x = 0 ∧ alO q [x] = ⟨q.i, addL q.tr x⟩ := by
    intro q x h
    have h' := h
    rw [alR_one] at h
    split at h
    · rename_i g; simp only at h; exact (g h).elim
    rename_i g1
    split at h
    · rename_i g; simp only at h; exact (g h).elim
    rename_i g2
    refine ⟨by omega, by omega, ?_⟩
    unfold alO
    rw [if_neg (by omega), alR_one, if_neg g1, if_neg g2]
  obtain ⟨hs, he, a1⟩ := one e1
  rw [a1] at e2 ⊢
  obtain ⟨ht, hf, a2⟩ := one e2
  obtain ⟨_, hg, b1⟩ := one e3
  rw [b1] at e4
  obtain ⟨_, hh, b2⟩ := one e4
  rw [b1, a2, b2]
  have ho' : OK ⟨o.i, o.tr⟩ := ho
  have o1 := add_ok ho' hs he
  have o2 := add_ok o1 ht hf
  have q1 := add_ok ho' ht hg
  have hcomm := add_comm2 ho' hs ht he hf hg hh
  -- no trace of the result contradicts one that was given
  have mem : ∀ u ∈ addL (addL o.tr s) t, u ∈ o.tr ∨ u = s ∨ u = t := fun u hu => ((mem_add2 ho' hs he ht hf u).1 hu).1
  have cs : ∀ u ∈ addL (addL o.tr s) t, df u s < 0 := fun u hu => by
    rw [hcomm] at hu
    rcases ((mem_add q1 hs hh u).1 hu).1 with g | rfl
    · exact addE_ok hh u g
    · exact df_self _
  have ct : ∀ u ∈ addL (addL o.tr s) t, df u t < 0 := fun u hu => by
    rcases ((mem_add o1 ht hf u).1 hu).1 with g | rfl
    · exact addE_ok hf u g
    · exact df_self _
  have co : ∀ v ∈ o.tr, ∀ u ∈ addL (addL o.tr s) t, df u v < 0 := fun v hv u hu => by
    rcases mem u hu with g | rfl | rfl
    · exact ho.cl g hv
    · rw [df_comm]; exact addE_ok he v hv
    · rw [df_comm]; exact addE_ok hg v hv
  have cov : ∀ v, v ∈ o.tr ∨ v = s ∨ v = t → 0 < v.ni.length → ∃ w ∈ addL (addL o.tr s) t, hp w.ni v.ni = true := fun v hv h0 => by
    have two : (v ∈ o.tr ∨ v = s) → ∃ w ∈ addL (addL o.tr s) t, hp w.ni v.ni = true := fun hv => by
      obtain ⟨w, hw, e⟩ := add_cov ho' hv h0
      obtain ⟨x, hx, e'⟩ := add_cov o1 (s := t) (.inl hw) (by have := hp_len e; omega)
      exact ⟨x, hx, hp_trans e' e⟩
    rcases hv with hv | hv | rfl
    · exact two (.inl hv)
    · exact two (.inr hv)
    · exact add_cov o1 (.inr rfl) h0
  have hin : inL (addL (addL o.tr s) t) s := by
    by_cases h0 : s.ni.length = 0
    · exact .inr h0
    · obtain ⟨w, hw, e⟩ := cov s (.inr (.inl rfl)) (by omega)
      obtain ⟨j, hj, rfl⟩ := mem_nth hw
      exact .inl (exB_iff.2 ⟨j, hj, by rw [Nat.zero_add]; exact e⟩)
  have hadd0 : addE (addL (addL o.tr s) t) s = 0 := by
    unfold addE
    rw [if_neg, if_pos hin]
    intro q
    obtain ⟨j, _, hj, e⟩ := fi_iff.1 q
    have := cs _ (nth_mem (show j < _ by omega))
    simp only [ndP, decide_eq_true_eq] at e
    omega
  have haddL : addL (addL (addL o.tr s) t) s = addL (addL o.tr s) t := addL_in hin
  have hr : alR o.i (addL (addL o.tr s) t) [s] = (addL (addL o.tr s) t, 0) := by
    rw [alR_one, if_neg (by omega), if_neg (by omega), haddL]
  have lens : ∀ u ∈ addL (addL o.tr s) t, u.no.length = u.ni.length := fun u hu => (o2.mem hu).1.len
  refine ⟨by rw [hcomm], ?_, by simp only; rw [hr], ?_, ?_, fun u hu => ?_⟩
  · unfold alO; simp only; rw [hr]; rfl
  · exact ans_cov (cov s (.inr (.inl rfl))) cs lens (prE_ok hs).len
  · exact ans_cov (cov t (.inr (.inr rfl))) ct lens (prE_ok ht).len
  · exact ans_cov (cov u (.inl hu)) (co u hu) lens (ho.mem hu).1.len
theorem alR_mem {i : Int} : ∀ {l acc : List Tr}, OK ⟨i, acc⟩ → (alR i acc l).2 = 0 → (∀ u ∈ (alR i acc l).1, u ∈ acc ∨ u ∈ l) ∧ (∀ v, v ∈ acc ∨ v ∈ l → 0 < v.ni.length → ∃ w ∈ (alR i acc l).1, hp w.ni v.ni = true)
  | [], acc, _, _ => ⟨fun u hu => .inl hu, fun v hv _ => by rcases hv with hv | hv; exact ⟨v, hv, hp_self _⟩; cases hv⟩
  | t :: l, acc, h, he => by
    rw [alR] at he ⊢
    split at he
    · contradiction
    rename_i h1
    split at he
    · contradiction
    rename_i h2
    rw [if_neg h1, if_neg h2]
    have o1 := add_ok h (show prE t i = 0 by omega) (by omega)
    obtain ⟨g1, g2⟩ := alR_mem o1 he
    refine ⟨fun u hu => ?_, fun v hv h0 => ?_⟩
    · rcases g1 u hu with q | q
      · rcases ((mem_add h (by omega) (by omega) u).1 q).1 with z | z
        · exact .inl z
        · exact .inr (by simp [z])
      · exact .inr (List.mem_cons_of_mem _ q)
    · have two : (v ∈ acc ∨ v = t) → ∃ w ∈ (alR i (addL acc t) l).1, hp w.ni v.ni = true := fun hv => by
        obtain ⟨w, hw, e⟩ := add_cov h hv h0
        obtain ⟨x, hx, e'⟩ := g2 w (.inl hw) (by have := hp_len e; omega)
        exact ⟨x, hx, hp_trans e' e⟩
      rcases hv with hv | hv
      · exact two (.inl hv)
      · rcases List.mem_cons.1 hv with hv | hv
        · exact two (.inr hv)
        · exact g2 v (.inr hv) h0
theorem of_all {m : M} {ws : List (List Int)} (h : ofE m ws = 0) : mval m = 0 ∧ OK (ofO m ws) ∧ (∀ u ∈ (ofO m ws).tr, u.no = outs m m.s u.ni ∧ wchk u.ni m.i = 0) ∧ (∀ w ∈ ws, wchk w m.i = 0 ∧ (0 < w.length → ∃ u ∈ (ofO m ws).tr, hp u.ni w = true)) := by
  have h' := h
  unfold ofE at h
  split at h
  · rename_i g; exact (g h).elim
  rename_i g
  obtain ⟨hm, h0⟩ := trs_ok g
  have eo : ofO m ws = ⟨m.i, (alR m.i [] (trsL m ws)).1⟩ := by
    unfold ofO alO; rw [if_neg (by omega), if_neg (by simp only; omega)]
  have hok := alR_ok h0 h
  obtain ⟨k1, k2⟩ := alR_mem h0 h
  have eL : trsL m ws = ws.map (trW m) := by rw [trsL, if_neg g]
  have hwc : ∀ w ∈ ws, wchk w m.i = 0 := fun w hw => by
    unfold trsE at g
    rw [if_neg (by omega)] at g
    split at g
    · exact (g (by decide)).elim
    obtain ⟨j, hj, rfl⟩ := mem_nth hw
    exact fe_zero_iff.1 (show fe (wcE m ws) 0 ws.length = 0 by omega) j (Nat.zero_le _) (by omega)
  rw [eo]
  refine ⟨hm, hok, fun u hu => ?_, fun w hw => ⟨hwc w hw, fun hl => ?_⟩⟩
  · rcases k1 u hu with q | q
    · cases q
    · rw [eL] at q
      obtain ⟨w, hw, rfl⟩ := List.mem_map.1 q
      exact ⟨rfl, hwc w hw⟩
  · exact k2 (trW m w) (.inr (by rw [eL]; exact List.mem_map_of_mem hw)) hl
theorem wchk_pre {w p : List Int} {n : Int} (h : wchk w n = 0) (e : hp w p = true) : wchk p n = 0 := by
  have h1 := wchk_ok h
  obtain ⟨x, rfl⟩ := hp_iff.1 e
  have hn : ¬(n < 1 ∨ 1024 < n) := fun q => by rw [wchk, if_pos q] at h; cases h
  refine wchk_zero (by omega) (by have := h1.1; simp at this; omega) fun k hk => ?_
  have := h1.2 k (by simp; omega)
  rwa [nth_app_l hk] at this
theorem exact_ans {m : M} {ws : List (List Int)} (h : ofE m ws = 0) {w x : List Int} (hx : ans (ofO m ws) w = some x) : frE m m.s w = 0 ∧ frOut m m.s w = x := by
  obtain ⟨hm, hok, h1, _⟩ := of_all h
  have key : wchk w m.i = 0 ∧ outs m m.s w = x := by
    unfold ans at hx
    split at hx
    · rename_i e; subst e; cases hx
      have := mval_ok hm
      exact ⟨wchk_zero ⟨this.1, by omega⟩ (by simp) (fun k hk => by simp at hk), rfl⟩
    · obtain ⟨u, hu, e, rfl⟩ := ansL_some hx
      obtain ⟨g1, g2⟩ := h1 u hu
      refine ⟨wchk_pre g2 e, ?_⟩
      rw [g1, ← outs_take]
      obtain ⟨y, hy⟩ := hp_iff.1 e
      rw [hy, List.take_left]
  have := frE_ok hm key.1
  have e2 := frE_val (w := w) hm
  exact ⟨by omega, by rw [this.2.1, key.2]⟩
theorem exact_cov {m : M} {ws : List (List Int)} (h : ofE m ws = 0) {w : List Int} (hw : w ∈ ws) : ∃ x, ans (ofO m ws) w = some x := by
  obtain ⟨_, _, _, h2⟩ := of_all h
  unfold ans
  split
  · exact ⟨_, rfl⟩
  · rename_i e
    obtain ⟨u, hu, g⟩ := (h2 w hw).2 (List.length_pos_iff.2 e)
    cases ha : ansL (ofO m ws).tr w with
    | none => rw [ansL_none ha u hu] at g; cases g
    | some x => exact ⟨x, rfl⟩
end Go.Proofs.Ytngkckefanbhgaa

namespace Go.Proofs.Ytngkckefanbhgaa
theorem nd_le : ∀ {l m : List Int}, l.Nodup → (∀ a ∈ l, a ∈ m) → l.length ≤ m.length
  | [], _, _, _ => Nat.zero_le _
  | a :: l, m, hn, hs => by
    obtain ⟨h1, h2⟩ := List.nodup_cons.1 hn
    have ha : a ∈ m := hs a (by simp)
    have := nd_le (m := m.erase a) h2 fun b hb => (List.mem_erase_of_ne (fun e => h1 (by rw [← e]; exact hb))).2 (hs b (List.mem_cons_of_mem _ hb))
    rw [List.length_erase_of_mem ha] at this
    have := List.length_pos_of_mem ha
    simp only [List.length_cons]; omega
def cB (b : Bool) : List V := [.bool b]
abbrev RS := List Int × List Bool
def stpR (P : RS) (a : Int) : RS := if nth P.2 a.toNat = true then P else (P.1 ++ [a], P.2.set a.toNat true)
def rowR (m : M) (P : RS) (k : Nat) : RS := (nth m.nx (nth P.1 k).toNat).foldl stpR P
def bfsR (m : M) : Nat → Nat → RS → RS
  | 0, _, P => P
  | n + 1, k, P => if k < P.1.length then bfsR m n (k + 1) (rowR m P k) else P
def iniR (m : M) : RS := ([m.s], (List.replicate m.nx.length false).set m.s.toNat true)
def rch (m : M) : List Int := if mval m ≠ 0 then [] else (bfsR m m.nx.length 0 (iniR m)).1
theorem stp_yes {P : RS} {a : Int} (h : nth P.2 a.toNat = true) : stpR P a = P := if_pos h
theorem stp_no {P : RS} {a : Int} (h : nth P.2 a.toNat = false) : stpR P a = (P.1 ++ [a], P.2.set a.toNat true) := if_neg (by rw [h]; decide)
theorem fold_step {P : RS} {w : List Int} {j : Nat} (h : j < w.length) : (w.take (j + 1)).foldl stpR P = stpR ((w.take j).foldl stpR P) (nth w j) := by
  rw [take_succ_nth h, List.foldl_append]; rfl
structure RI (n : Nat) (P : RS) : Prop where
  blen : P.2.length = n
  rng : ∀ a ∈ P.1, 0 ≤ a ∧ a < n
  mem : ∀ a : Int, 0 ≤ a → a < n → (nth P.2 a.toNat = true ↔ a ∈ P.1)
  nd : P.1.Nodup
theorem nth_set {α : Type} [Inhabited α] {l : List α} {i j : Nat} {x : α} (hi : i < l.length) : nth (l.set i x) j = if i = j then x else nth l j := by
  unfold nth
  by_cases e : i = j
  · subst e; simp [hi]
  · rw [if_neg e]
    simp [List.getElem?_set, e]
theorem RI.step {n : Nat} {P : RS} (h : RI n P) {a : Int} (h0 : 0 ≤ a) (h1 : a < n) : RI n (stpR P a) := by
  unfold stpR
  split
  · exact h
  · rename_i g
    have hna : a ∉ P.1 := fun q => g ((h.mem a h0 h1).2 q)
    have hlt : a.toNat < P.2.length := by rw [h.blen]; omega
    refine ⟨by simp [h.blen], fun b hb => ?_, fun b b0 b1 => ?_, ?_⟩
    · rcases List.mem_append.1 hb with hb | hb
      · exact h.rng b hb
      · rw [List.mem_singleton.1 hb]; exact ⟨h0, h1⟩
    · rw [nth_set hlt, List.mem_append, List.mem_singleton]
      by_cases e : a.toNat = b.toNat
      · rw [if_pos e]; exact ⟨fun _ => .inr (by omega), fun _ => rfl⟩
      · rw [if_neg e, h.mem b b0 b1]
        exact ⟨.inl, fun q => q.resolve_right fun q => e (by rw [q])⟩
    · rw [List.nodup_append]
      refine ⟨h.nd, by simp, fun x hx y hy => ?_⟩
      rw [List.mem_singleton.1 hy]; intro e; exact hna (e ▸ hx)
theorem RI.fold {n : Nat} : ∀ {w : List Int} {P : RS}, RI n P → (∀ a ∈ w, 0 ≤ a ∧ a < n) → RI n (w.foldl stpR P)
  | [], _, h, _ => h
  | a :: w, P, h, hw => by
    rw [List.foldl_cons]
    exact RI.fold (h.step (hw a (by simp)).1 (hw a (by simp)).2) fun b hb => hw b (List.mem_cons_of_mem _ hb)
theorem RI.len {n : Nat} {P : RS} (h : RI n P) : P.1.length ≤ n := by
  have := nd_le (m := (List.range n).map Int.ofNat) h.nd fun a ha => by
    obtain ⟨h0, h1⟩ := h.rng a ha
    exact List.mem_map.2 ⟨a.toNat, List.mem_range.2 (by omega), by simp; omega⟩
  simpa using this
theorem fold_grow : ∀ (w : List Int) (P : RS), ∃ x, (w.foldl stpR P).1 = P.1 ++ x
  | [], P => ⟨[], by simp⟩
  | a :: w, P => by
    obtain ⟨x, hx⟩ := fold_grow w (stpR P a)
    have : ∃ y, (stpR P a).1 = P.1 ++ y := by
      unfold stpR; split
      · exact ⟨[], by simp⟩
      · exact ⟨[a], rfl⟩
    obtain ⟨y, hy⟩ := this
    exact ⟨y ++ x, by rw [List.foldl_cons, hx, hy, List.append_assoc]⟩
theorem fold_has {n : Nat} : ∀ {w : List Int} {P : RS}, RI n P → (∀ a ∈ w, 0 ≤ a ∧ a < n) → ∀ a ∈ w, a ∈ (w.foldl stpR P).1
  | b :: w, P, h, hw, a, ha => by
    have hs := h.step (hw b (by simp)).1 (hw b (by simp)).2
    rcases List.mem_cons.1 ha with rfl | ha
    · obtain ⟨x, hx⟩ := fold_grow w (stpR P a)
      rw [List.foldl_cons, hx]
      refine List.mem_append_left _ ?_
      unfold stpR
      split
      · rename_i g; exact (h.mem a (hw a (by simp)).1 (hw a (by simp)).2).1 g
      · simp
    · exact fold_has hs (fun c hc => hw c (List.mem_cons_of_mem _ hc)) a ha
theorem ini_RI {m : M} (h : mval m = 0) : RI m.nx.length (iniR m) := by
  have hm := mval_ok h
  refine ⟨by simp [iniR], fun a ha => ?_, fun a h0 h1 => ?_, by simp [iniR]⟩
  · simp only [iniR, List.mem_singleton] at ha; subst ha; omega
  · simp only [iniR, List.mem_singleton]
    rw [nth_set (by simp; omega)]
    by_cases e : m.s.toNat = a.toNat
    · rw [if_pos e]; exact ⟨fun _ => by omega, fun _ => rfl⟩
    · rw [if_neg e]
      refine ⟨fun q => ?_, fun q => (e (by rw [q])).elim⟩
      rw [← nth_getElem (by simp; omega)] at q
      simp at q
theorem row_in {m : M} (h : mval m = 0) {s : Int} (h0 : 0 ≤ s) (h1 : s < m.nx.length) : ∀ a ∈ nth m.nx s.toNat, 0 ≤ a ∧ a < m.nx.length := fun a ha => by
  obtain ⟨j, hj, rfl⟩ := mem_nth ha
  obtain ⟨g1, _, g3⟩ := (mval_ok h).2.2.2.2.2.2.2 s.toNat (by omega)
  have := g3 j (by omega)
  exact ⟨this.1, this.2.1⟩
theorem RI.row {m : M} (h : mval m = 0) {P : RS} (hP : RI m.nx.length P) {k : Nat} (hk : k < P.1.length) : RI m.nx.length (rowR m P k) := by
  obtain ⟨h0, h1⟩ := hP.rng _ (nth_mem hk)
  exact RI.fold hP (row_in h h0 h1)
def Clo (m : M) (P : RS) (k : Nat) : Prop := ∀ j, j < k → ∀ a ∈ nth m.nx (nth P.1 j).toNat, a ∈ P.1
theorem bfs_spec {m : M} (h : mval m = 0) : ∀ (n k : Nat) (P : RS), RI m.nx.length P → k ≤ P.1.length → m.nx.length ≤ k + n → Clo m P k → (m.s ∈ P.1) →
    RI m.nx.length (bfsR m n k P) ∧ Clo m (bfsR m n k P) (bfsR m n k P).1.length ∧ m.s ∈ (bfsR m n k P).1
  | 0, k, P, hP, hk, hn, hc, hs => by
    have := hP.len
    rw [bfsR]
    exact ⟨hP, by rw [show P.1.length = k by omega]; exact hc, hs⟩
  | n + 1, k, P, hP, hk, hn, hc, hs => by
    rw [bfsR]
    split
    · rename_i hlt
      obtain ⟨x, hx⟩ := fold_grow (nth m.nx (nth P.1 k).toNat) P
      have hg : (rowR m P k).1 = P.1 ++ x := hx
      obtain ⟨h0, h1⟩ := hP.rng _ (nth_mem hlt)
      refine bfs_spec h n (k + 1) _ (hP.row h hlt) (by rw [hg]; simp; omega) (by omega) (fun j hj a ha => ?_) (by rw [hg]; exact List.mem_append_left _ hs)
      have e : nth (rowR m P k).1 j = nth P.1 j := by rw [hg, nth_app_l (by omega)]
      rw [e] at ha
      by_cases ej : j = k
      · subst ej; exact fold_has hP (row_in h h0 h1) a ha
      · rw [hg]; exact List.mem_append_left _ (hc j (by omega) a ha)
    · rename_i hlt
      exact ⟨hP, by rw [show P.1.length = k by omega]; exact hc, hs⟩
theorem bfs_end {m : M} {n k : Nat} {P : RS} (h : P.1.length ≤ k) : bfsR m n k P = P := by
  cases n with
  | zero => rfl
  | succ n => rw [bfsR, if_neg (by omega)]
theorem bfs_go {m : M} {n k : Nat} {P : RS} (h : k < P.1.length) (hn : k < n) : bfsR m (n - k) k P = bfsR m (n - (k + 1)) (k + 1) (rowR m P k) := by
  rw [show n - k = (n - (k + 1)) + 1 by omega, bfsR, if_pos h]
theorem rch_goal {m : M} (h : mval m = 0) {w : List Int} (hw : ∀ k, k < w.length → 0 ≤ nth w k ∧ nth w k < m.i) : goal m m.s w ∈ rch m := by
  obtain ⟨h1, h2, h3⟩ := bfs_spec h m.nx.length 0 (iniR m) (ini_RI h) (Nat.zero_le _) (by omega) (fun j hj => by omega) (by simp [iniR])
  have e : rch m = (bfsR m m.nx.length 0 (iniR m)).1 := if_neg (by omega)
  rw [e]
  have key : ∀ (w : List Int) (s : Int), s ∈ (bfsR m m.nx.length 0 (iniR m)).1 → (∀ k, k < w.length → 0 ≤ nth w k ∧ nth w k < m.i) → goal m s w ∈ (bfsR m m.nx.length 0 (iniR m)).1 := by
    intro w
    induction w with
    | nil => intro s hs _; exact hs
    | cons a w ih =>
      intro s hs hw
      refine ih (cell m.nx s a) ?_ fun k hk => by simpa [nth] using hw (k + 1) (by simp; omega)
      obtain ⟨j, hj, rfl⟩ := mem_nth hs
      obtain ⟨g0, g1⟩ := h1.rng _ hs
      have ha : 0 ≤ a ∧ a < m.i := by simpa [nth] using hw 0 (by simp)
      have hr := ((mval_ok h).2.2.2.2.2.2.2 (nth (bfsR m m.nx.length 0 (iniR m)).1 j).toNat (by omega)).1
      exact h2 j hj _ (nth_mem (by omega))
  exact key w m.s h3 hw
theorem ap_goal {m : M} {ws : List (List Int)} (h : ofE m ws = 0) {u v x : List Int} (ha : Ap (ofO m ws) u v x) : goal m m.s u ≠ goal m m.s v ∧ goal m m.s u ∈ rch m ∧ goal m m.s v ∈ rch m := by
  obtain ⟨hm, hok, h1, _⟩ := of_all h
  obtain ⟨hx, s, hs, t, ht, e1, e2, hne⟩ := ha
  have hxl : 0 < x.length := List.length_pos_iff.2 hx
  obtain ⟨y, hy⟩ := hp_iff.1 e1
  obtain ⟨z, hz⟩ := hp_iff.1 e2
  obtain ⟨s1, s2⟩ := h1 s hs
  obtain ⟨t1, t2⟩ := h1 t ht
  have out : ∀ (u r : List Int), nth (outs m m.s (u ++ x ++ r)) (u.length + x.length - 1) = nth (outs m (goal m m.s u) x) (x.length - 1) := fun u r => by
    have e : u.length + x.length - 1 = (outs m m.s u).length + (x.length - 1) := by rw [outs_len]; omega
    rw [List.append_assoc, outs_append, e, nth_app_r, outs_append, nth_app_l (by rw [outs_len]; omega)]
  have inr : ∀ {q : Tr} {p : List Int}, wchk q.ni m.i = 0 → hp q.ni p = true → goal m m.s p ∈ rch m := fun hq hp => rch_goal hm (wchk_ok (wchk_pre hq hp)).2
  have hpu : hp s.ni u = true := hp_iff.2 ⟨x ++ y, by rw [hy, List.append_assoc]⟩
  have hpv : hp t.ni v = true := hp_iff.2 ⟨x ++ z, by rw [hz, List.append_assoc]⟩
  refine ⟨fun e => hne ?_, inr s2 hpu, inr t2 hpv⟩
  rw [s1, t1, hy, hz, out, out, e]
theorem low_pair {ap : List Int → List Int → Bool} : ∀ (l : List (List Int)), (lowL ap l).Pairwise fun u v => ap u v = true := by
  have key : ∀ (l kept : List (List Int)), (kept.Pairwise fun u v => ap u v = true) → ((l.foldl (low1 ap) kept).Pairwise fun u v => ap u v = true) := by
    intro l
    induction l with
    | nil => intro kept h; exact h
    | cons w l ih =>
      intro kept h
      refine ih _ ?_
      unfold low1
      split
      · rename_i g
        rw [List.pairwise_append]
        refine ⟨h, by simp, fun u hu v hv => ?_⟩
        rw [List.mem_singleton.1 hv]
        obtain ⟨j, hj, rfl⟩ := mem_nth hu
        have all : ∀ {p : Nat → Bool} {n : Nat}, alB p n = true → ∀ j, j < n → p j = true := by
          intro p n
          induction n with
          | zero => intro _ j hj; omega
          | succ n ih =>
            intro h j hj
            simp only [alB, Bool.and_eq_true] at h
            by_cases e : j = n
            · subst e; exact h.2
            · exact ih h.1 j (by omega)
        exact all g j hj
      · exact h
  exact fun l => key l [] List.Pairwise.nil
theorem low_bound {m : M} {ws : List (List Int)} (h : ofE m ws = 0) (l : List (List Int)) : (lowL (fdP (ofO m ws)) l).length ≤ (rch m).length := by
  obtain ⟨hm, hok, _, _⟩ := of_all h
  have hp := low_pair (ap := fdP (ofO m ws)) l
  have apart : ∀ {u v : List Int}, fdP (ofO m ws) u v = true → ∃ x, Ap (ofO m ws) v u x := fun hh => by
    simp only [fdP, decide_eq_true_eq] at hh
    exact ⟨_, (fd_covers hok _ _).sound _ (least_mem hh)⟩
  generalize lowL (fdP (ofO m ws)) l = K at hp
  match K, hp with
  | [], _ => simp
  | [w], _ =>
    have hs : m.s ∈ rch m := rch_goal hm (w := []) (fun k hk => by simp at hk)
    have := List.length_pos_of_mem hs
    simp only [List.length_cons, List.length_nil]; omega
  | u :: v :: K, hp =>
    have hnd : ((u :: v :: K).map (goal m m.s)).Nodup := by
      rw [List.Nodup, List.pairwise_map]
      refine hp.imp fun hh => ?_
      obtain ⟨x, hx⟩ := apart hh
      exact fun e => (ap_goal h hx).1 e.symm
    have hsub : ∀ a ∈ (u :: v :: K).map (goal m m.s), a ∈ rch m := fun a ha => by
      obtain ⟨w, hw, rfl⟩ := List.mem_map.1 ha
      obtain ⟨p1, p2⟩ := List.pairwise_cons.1 hp
      rcases List.mem_cons.1 hw with rfl | hw
      · obtain ⟨x, hx⟩ := apart (p1 v (by simp))
        exact (ap_goal h hx).2.2
      · obtain ⟨x, hx⟩ := apart (p1 w hw)
        exact (ap_goal h hx).2.1
    have := nd_le hnd hsub
    simpa using this
theorem apart_ans {o : Ob} (ok : OK o) {u v : List Int} (h : fdl (bhd o.tr u) (bhd o.tr v) ≠ []) : least (fdl (bhd o.tr u) (bhd o.tr v)) ≠ [] ∧ ∃ a b, ans o (u ++ least (fdl (bhd o.tr u) (bhd o.tr v))) = some a ∧ ans o (v ++ least (fdl (bhd o.tr u) (bhd o.tr v))) = some b ∧ 0 < a.length ∧ 0 < b.length ∧
    nth a (a.length - 1) ≠ nth b (b.length - 1) := by
  have hap := (fd_covers ok u v).sound _ (least_mem h)
  generalize least (fdl (bhd o.tr u) (bhd o.tr v)) = x at hap
  obtain ⟨hx, s, hs, t, ht, e1, e2, hne⟩ := hap
  have hxl : 0 < x.length := List.length_pos_iff.2 hx
  have one : ∀ {w : List Int} {q : Tr}, q ∈ o.tr → hp q.ni (w ++ x) = true → ∃ a, ans o (w ++ x) = some a ∧ a.length = w.length + x.length ∧ nth a (w.length + x.length - 1) = nth q.no (w.length + x.length - 1) := by
    intro w q hq e
    have hne : w ++ x ≠ [] := fun q => hx (List.append_eq_nil_iff.1 q).2
    unfold ans
    rw [if_neg hne]
    cases ha : ansL o.tr (w ++ x) with
    | none => rw [ansL_none ha q hq] at e; cases e
    | some a =>
      obtain ⟨p, hp', g1, rfl⟩ := ansL_some ha
      have hl := hp_len g1
      have hpl := (ok.mem hp').1.len
      simp only [List.length_append] at hl
      refine ⟨_, rfl, by rw [List.length_take, List.length_append]; omega, ?_⟩
      rw [nth_take (by rw [List.length_append]; omega)]
      have := cmn_of_pre g1 e
      rw [List.length_append] at this
      exact ok.same hp' hq (by omega)
  obtain ⟨a, a1, a2, a3⟩ := one hs e1
  obtain ⟨b, b1, b2, b3⟩ := one ht e2
  exact ⟨hx, a, b, a1, b1, by omega, by omega, by rw [a2, b2, a3, b3]; exact hne⟩
end Go.Proofs.Ytngkckefanbhgaa

namespace Go.Proofs.Ytngkckefanbhgaa
open Go Go.Proofs
attribute [local irreducible] mksV
theorem reach_pure (m : M) : PureC Try.prog 33 [(V.agg [(iV (m.i)), (iV (m.s)), (V.sl (List.map cL (m.nx))), (V.sl (List.map cL (m.ot)))])] (V.sl (List.map cI (rch m))) := by
 refine pure_of_Wb true 6 Try.func33 s33_ok (by kernel_rfl) (by simp [s33]) (by simp) (by simp) fun hB => ?_
 simp only [bnd_map, bnd_int, bnd_bool, bnd_str, bnd_agg, bnd_pp, bnd_nil, bnd_cons, implies_true, and_true, true_and] at hB
 unfold s33
 dsimp only
 refine W_seq_regc (fun T H => T 1 = (V.mp 1 1 0 0) ∧ H 1 = (⟨1, true, false, 24, 4, [[(iV (m.i)), (iV (m.s)), (V.sl (List.map cL (m.nx))), (V.sl (List.map cL (m.ot)))]]⟩ : Blk) ∧ H 14 = (⟨0, false, false, 0, 0, []⟩ : Blk) ∧ H 21 = (⟨0, false, false, 0, 0, []⟩ : Blk) ∧ True) ?_ ?_
 ·
  unfold r33_0
  refine R_box (i := 1) (n := 0) (m := 4) (cs := [(iV (m.i)), (iV (m.s)), (V.sl (List.map cL (m.nx))), (V.sl (List.map cL (m.ot)))]) rfl (congrArg Blk.ver rfl) (@rfl V (V.agg [(iV (m.i)), (iV (m.s)), (V.sl (List.map cL (m.nx))), (V.sl (List.map cL (m.ot)))])) rfl rfl ?_
  refine R_mv (@rfl V V.nilsl) ?_
  exact R_nil ⟨rfl, rfl, rfl, rfl, trivial⟩
 intro T H ⟨t1, h1, h14, h21, _⟩
 refine W_seq_seq ?_
 refine W_seq_regc (fun T H => T 1 = (V.mp 1 1 0 0) ∧ T 10 = (V.bool (decide ((mval m) ≠ (0 : Int)))) ∧ H 1 = (⟨1, true, false, 24, 4, [[(iV (m.i)), (iV (m.s)), (V.sl (List.map cL (m.nx))), (V.sl (List.map cL (m.ot)))]]⟩ : Blk) ∧ H 14 = (⟨0, false, false, 0, 0, []⟩ : Blk) ∧ H 21 = (⟨0, false, false, 0, 0, []⟩ : Blk) ∧ True) ?_ ?_
 ·
  unfold r33_1
  refine R_load_mp (v := (V.agg [(iV (m.i)), (iV (m.s)), (V.sl (List.map cL (m.nx))), (V.sl (List.map cL (m.ot)))])) t1 h1 (by first | rfl | simp [ldB, ldV, Blk.own, V.one]) ?_
  refine R_call (evcons (@rfl V (V.agg [(iV (m.i)), (iV (m.s)), (V.sl (List.map cL (m.nx))), (V.sl (List.map cL (m.ot)))])) evnil) (mvalid_pure m) (fzv_mapcanon _ _ (by simp [-List.map_take, -List.map_drop, -List.map_append, -List.map_reverse])) (by simp [-List.map_take, -List.map_drop, -List.map_append, -List.map_reverse]) (Or.inl (by simp [-List.map_take, -List.map_drop, -List.map_append, -List.map_reverse])) ?_
  refine R_neq (x := (mval m)) (y := (0 : Int)) (@rfl V (iV (mval m))) (@rfl V (iV (0 : Int))) ?_
  exact R_nil ⟨t1, rfl, h1, h14, h21, trivial⟩
 intro T H ⟨t1, t10, h1, h14, h21, _⟩
 refine W_seq_if (p := (mval m) ≠ (0 : Int)) t10 (fun c1 => ?_) (fun c1 => ?_)
 ·
  have d0 := c1
  refine W_seq_seq ?_
  refine W_seq_regc (fun T H => T 2 = V.nilsl ∧ H 1 = (⟨1, true, false, 24, 4, [[(iV (m.i)), (iV (m.s)), (V.sl (List.map cL (m.nx))), (V.sl (List.map cL (m.ot)))]]⟩ : Blk) ∧ H 14 = (⟨0, false, false, 0, 0, []⟩ : Blk) ∧ H 21 = (⟨0, false, false, 0, 0, []⟩ : Blk) ∧ True) ?_ ?_
  ·
   unfold r33_2
   refine R_mv (@rfl V V.nilsl) ?_
   exact R_nil ⟨rfl, h1, h14, h21, trivial⟩
  intro T H ⟨t2, h1, h14, h21, _⟩
  refine W_seq_ret ?_
  refine Ret_1 t2 (fz_nil ?_)
  · rw [rch, if_pos d0]
 have hm : mval m = 0 := by omega
 obtain ⟨v1, v2, v3, v4, v5, v6, v7, _⟩ := mval_ok hm
 refine W_seq_skip ?_
 refine W_seq_regc (fun T H => T 1 = (V.mp 1 1 0 0) ∧ T 3 = (V.ms 14 1 0 (m.nx.length)) ∧ H 1 = (⟨1, true, false, 24, 4, [[(iV (m.i)), (iV (m.s)), (V.sl (List.map cL (m.nx))), (V.sl (List.map cL (m.ot)))]]⟩ : Blk) ∧ H 14 = (⟨1, true, false, 4, 1, (List.map cB (List.replicate m.nx.length false))⟩ : Blk) ∧ H 21 = (⟨0, false, false, 0, 0, []⟩ : Blk) ∧ True) ?_ ?_
 ·
  unfold r33_3
  refine R_fld_mp (o' := 2) t1 h1 (by first | rfl | simp [okB, Blk.own]) rfl ?_
  refine R_load_mp (v := (V.sl (List.map cL (m.nx)))) (@rfl V (V.mp 1 1 0 2)) h1 (by first | rfl | simp [ldB, ldV, Blk.own, V.one]) ?_
  refine R_len (@rfl V (V.sl (List.map cL (m.nx)))) ?_
  refine R_mksm (i := 14) (n := 0) (m := m.nx.length) (q := m.nx.length) (f := cB) (x := false) rfl (congrArg Blk.ver h14) (@rfl V (iV ((m.nx.length : Nat) : Int))) (@rfl V (iV ((m.nx.length : Nat) : Int))) rfl (by first | omega | (simp only [List.length_replicate]; omega)) (by first | omega | (simp only [List.length_replicate]; omega)) (by first | omega | (simp only [List.length_replicate]; omega)) ?_
  refine R_mv (@rfl V (V.ms 14 1 0 (m.nx.length))) ?_
  exact R_nil ⟨t1, rfl, h1, rfl, h21, trivial⟩
 intro T H ⟨t1, t3, h1, h14, h21, _⟩
 refine W_seq_regc (fun T H => T 1 = (V.mp 1 1 0 0) ∧ T 3 = (V.ms 14 1 0 (m.nx.length)) ∧ H 1 = (⟨1, true, false, 24, 4, [[(iV (m.i)), (iV (m.s)), (V.sl (List.map cL (m.nx))), (V.sl (List.map cL (m.ot)))]]⟩ : Blk) ∧ H 14 = (⟨1, true, false, 4, 1, (List.map cB ((List.replicate m.nx.length false).set (((m.s)).toNat) true))⟩ : Blk) ∧ H 21 = (⟨0, false, false, 0, 0, []⟩ : Blk) ∧ True) ?_ ?_
 ·
  unfold r33_4
  refine R_mv t3 ?_
  refine R_fld_mp (o' := 1) t1 h1 (by first | rfl | simp [okB, Blk.own]) rfl ?_
  refine R_load_mp (v := (iV (m.s))) (@rfl V (V.mp 1 1 0 1)) h1 (by first | rfl | simp [ldB, ldV, Blk.own, V.one]) ?_
  refine R_idxI_ms0 (i := (m.s)) (@rfl V (V.ms 14 1 0 (m.nx.length))) (@rfl V (iV (m.s))) h14 (okB_map (by first | omega | (simp only [List.length_replicate]; omega))) rfl (by first | omega | (simp only [List.length_replicate]; omega)) (by first | omega | (simp only [List.length_replicate]; omega)) ?_
  refine R_store (vs := [(V.bool true)]) (B' := (⟨1, true, false, 4, 1, (List.map cB ((List.replicate m.nx.length false).set (((m.s)).toNat) true))⟩ : Blk)) (@rfl V (V.mp 14 1 (((m.s)).toNat) 0)) (@rfl V (V.bool true)) rfl h14 (stB_map (x := true) (i := ((m.s)).toNat) (by first | omega | (simp only [List.length_replicate]; omega)) rfl rfl rfl rfl) ?_
  exact R_nil ⟨t1, t3, h1, rfl, h21, trivial⟩
 intro T H ⟨t1, t3, h1, h14, h21, _⟩
 refine W_seq_regc (fun T H => T 1 = (V.mp 1 1 0 0) ∧ T 3 = (V.ms 14 1 0 (m.nx.length)) ∧ T 4 = (V.ms 21 1 0 (1)) ∧ H 1 = (⟨1, true, false, 24, 4, [[(iV (m.i)), (iV (m.s)), (V.sl (List.map cL (m.nx))), (V.sl (List.map cL (m.ot)))]]⟩ : Blk) ∧ H 14 = (⟨1, true, false, 4, 1, (List.map cB ((List.replicate m.nx.length false).set (((m.s)).toNat) true))⟩ : Blk) ∧ H 21 = (⟨1, true, false, 3, 1, [[(iV (m.s))]]⟩ : Blk) ∧ True) ?_ ?_
 ·
  unfold r33_5
  refine R_fld_mp (o' := 1) t1 h1 (by first | rfl | simp [okB, Blk.own]) rfl ?_
  refine R_load_mp (v := (iV (m.s))) (@rfl V (V.mp 1 1 0 1)) h1 (by first | rfl | simp [ldB, ldV, Blk.own, V.one]) ?_
  refine R_bslice_own (i := 21) (n := 0) (qs := [(0, (iV (m.s)))]) (rows := [[(iV (m.s))]]) rfl (congrArg Blk.ver h21) (mcons (congrArg (fun v => (0, v)) (@rfl V (iV (m.s)))) rfl) rfl ?_
  refine R_mv (@rfl V (V.ms 21 1 0 (1))) ?_
  exact R_nil ⟨t1, t3, rfl, h1, h14, rfl, trivial⟩
 intro T H ⟨t1, t3, t4, h1, h14, h21, _⟩
 refine W_seq_seq ?_
 refine W_seq_regc (fun T H => T 1 = (V.mp 1 1 0 0) ∧ T 3 = (V.ms 14 1 0 (m.nx.length)) ∧ T 4 = (V.ms 21 1 0 (1)) ∧ T 5 = (iV (0 : Int)) ∧ H 1 = (⟨1, true, false, 24, 4, [[(iV (m.i)), (iV (m.s)), (V.sl (List.map cL (m.nx))), (V.sl (List.map cL (m.ot)))]]⟩ : Blk) ∧ H 14 = (⟨1, true, false, 4, 1, (List.map cB ((List.replicate m.nx.length false).set (((m.s)).toNat) true))⟩ : Blk) ∧ H 21 = (⟨1, true, false, 3, 1, [[(iV (m.s))]]⟩ : Blk) ∧ True) ?_ ?_
 ·
  unfold r33_6
  refine R_mv (@rfl V (iV (0 : Int))) ?_
  exact R_nil ⟨t1, t3, t4, rfl, h1, h14, h21, trivial⟩
 intro T H ⟨t1, t3, t4, t5, h1, h14, h21, _⟩
 refine W_seq_blockg fun Q2 n2 x2 y2 z2 => ?_
 refine W_loop (fun mm T H => ∃ (k : Nat) (w : Nat) (P : RS), mm = m.nx.length - k ∧ T 1 = (V.mp 1 1 0 0) ∧ T 3 = (V.ms 14 1 0 (m.nx.length)) ∧ T 4 = (V.ms 21 w 0 (P.1.length)) ∧ T 5 = (iV ((k : Nat) : Int)) ∧ H 1 = (⟨1, true, false, 24, 4, [[(iV (m.i)), (iV (m.s)), (V.sl (List.map cL (m.nx))), (V.sl (List.map cL (m.ot)))]]⟩ : Blk) ∧ H 14 = (⟨1, true, false, 4, 1, (List.map cB (P.2))⟩ : Blk) ∧ H 21 = (⟨w, true, false, 3, 1, (List.map cI (P.1))⟩ : Blk) ∧ (k ≤ P.1.length) ∧ (RI m.nx.length P) ∧ (bfsR m m.nx.length 0 (iniR m) = bfsR m (m.nx.length - k) k P)) ?_ ?_
 ·
  refine ⟨_, 0, 1, (iniR m), rfl, t1, t3, (Eq.trans t4 (by first | rfl | (rw [stp_no d2, List.length_append]; rfl) | (rw [stp_yes d2]; done) | (rw [← e9]; done))), (Eq.trans t5 (by first | rfl | (rw [stp_no d2, List.length_append]; rfl) | (rw [stp_yes d2]; done) | (rw [← e9]; done))), h1, (Eq.trans h14 (by first | rfl | (rw [stp_no d2]; done) | (rw [stp_yes d2]; done) | (rw [← e9]; done))), (Eq.trans h21 (by first | rfl | (rw [stp_no d2]; done) | (rw [stp_yes d2]; done) | (rw [← e9]; done))), ?_, ?_, ?_⟩
  · exact Nat.zero_le _
  · exact ini_RI hm
  · rfl
 intro mm T H ⟨k, w, P, hmm, t1, t3, t4, t5, h1, h14, h21, hk, hr, hc⟩ Q3 p13 p23 p33
 unfold b33_0
 refine W_seq_seq ?_
 refine W_seq_regc (fun T H => T 1 = (V.mp 1 1 0 0) ∧ T 3 = (V.ms 14 1 0 (m.nx.length)) ∧ T 4 = (V.ms 21 w 0 (P.1.length)) ∧ T 5 = (iV ((k : Nat) : Int)) ∧ T 25 = (V.bool (decide (((k : Nat) : Int) < ((P.1.length : Nat) : Int)))) ∧ H 1 = (⟨1, true, false, 24, 4, [[(iV (m.i)), (iV (m.s)), (V.sl (List.map cL (m.nx))), (V.sl (List.map cL (m.ot)))]]⟩ : Blk) ∧ H 14 = (⟨1, true, false, 4, 1, (List.map cB (P.2))⟩ : Blk) ∧ H 21 = (⟨w, true, false, 3, 1, (List.map cI (P.1))⟩ : Blk) ∧ True) ?_ ?_
 ·
  unfold r33_7
  refine R_mv t5 ?_
  refine R_mv t4 ?_
  refine R_len_ms (@rfl V (V.ms 21 w 0 (P.1.length))) h21 (by first | rfl | simp) ?_
  refine R_lss (x := ((k : Nat) : Int)) (y := ((P.1.length : Nat) : Int)) (@rfl V (iV ((k : Nat) : Int))) (@rfl V (iV ((P.1.length : Nat) : Int))) ?_
  exact R_nil ⟨t1, t3, t4, t5, rfl, h1, h14, h21, trivial⟩
 intro T H ⟨t1, t3, t4, t5, t25, h1, h14, h21, _⟩
 refine W_seq_if (p := ((k : Nat) : Int) < ((P.1.length : Nat) : Int)) t25 (fun c4 => ?_) (fun c4 => ?_)
 ·
  have r1 := hr.rng _ (nth_mem (show k < P.1.length by omega))
  have r0 := hr.len
  have r5 := hr.blen
  have r6 := ((mval_ok hm).2.2.2.2.2.2.2 (nth P.1 k).toNat (by omega)).1
  refine W_seq_skip ?_
  refine W_seq_blockg fun Q5 n5 x5 y5 z5 => ?_
  refine W_seq_regc (fun T H => T 1 = (V.mp 1 1 0 0) ∧ T 3 = (V.ms 14 1 0 (m.nx.length)) ∧ T 4 = (V.ms 21 w 0 (P.1.length)) ∧ T 5 = (iV ((k : Nat) : Int)) ∧ T 35 = (V.sl (List.map cI ((nth (m.nx) ((nth (P.1) (k))).toNat)))) ∧ T 36 = (iV ((((nth (m.nx) ((nth (P.1) (k))).toNat)).length : Nat) : Int)) ∧ T 37 = (iV (0 : Int)) ∧ H 1 = (⟨1, true, false, 24, 4, [[(iV (m.i)), (iV (m.s)), (V.sl (List.map cL (m.nx))), (V.sl (List.map cL (m.ot)))]]⟩ : Blk) ∧ H 14 = (⟨1, true, false, 4, 1, (List.map cB (P.2))⟩ : Blk) ∧ H 21 = (⟨w, true, false, 3, 1, (List.map cI (P.1))⟩ : Blk) ∧ True) ?_ ?_
  ·
   unfold r33_9
   refine R_fld_mp (o' := 2) t1 h1 (by first | rfl | simp [okB, Blk.own]) rfl ?_
   refine R_load_mp (v := (V.sl (List.map cL (m.nx)))) (@rfl V (V.mp 1 1 0 2)) h1 (by first | rfl | simp [ldB, ldV, Blk.own, V.one]) ?_
   refine R_mv t4 ?_
   refine R_mv t5 ?_
   refine R_idx_ms0 (i := k) (@rfl V (V.ms 21 w 0 (P.1.length))) (@rfl V (iV ((k : Nat) : Int))) h21 (okB_map (by first | omega | (simp only [List.length_replicate]; omega))) rfl (by first | omega | (simp only [List.length_replicate]; omega)) ?_
   refine R_load_mp (v := (iV ((nth (P.1) (k))))) (@rfl V (V.mp 21 w k 0)) h21 (ldB_map (by first | omega | (simp only [List.length_replicate]; omega)) (by first | rfl | simp [ldV, V.one])) ?_
   refine R_idxI (i := ((nth (P.1) (k)))) (@rfl V (V.sl (List.map cL (m.nx)))) (@rfl V (iV ((nth (P.1) (k))))) (by first | omega | (simp only [List.length_replicate]; omega)) (by first | omega | (simp only [List.length_replicate]; omega)) rfl ?_
   refine R_load_pp (v := (V.sl (List.map cI ((nth (m.nx) ((nth (P.1) (k))).toNat))))) (@rfl V (V.pp [(V.sl (List.map cI ((nth (m.nx) ((nth (P.1) (k))).toNat))))])) (by first | rfl | simp [ldV]) ?_
   refine R_len (@rfl V (V.sl (List.map cI ((nth (m.nx) ((nth (P.1) (k))).toNat))))) ?_
   refine R_mv (@rfl V (iV (0 : Int))) ?_
   exact R_nil ⟨t1, t3, t4, t5, rfl, rfl, rfl, h1, h14, h21, trivial⟩
  intro T H ⟨t1, t3, t4, t5, t35, t36, t37, h1, h14, h21, _⟩
  refine W_block fun Q6 n6 x6 y6 z6 => ?_
  refine W_loop (fun mm T H => ∃ (j : Nat) (w2 : Nat) (Q : RS), mm = (nth m.nx (nth P.1 k).toNat).length - j ∧ T 1 = (V.mp 1 1 0 0) ∧ T 3 = (V.ms 14 1 0 (m.nx.length)) ∧ T 4 = (V.ms 21 w2 0 (Q.1.length)) ∧ T 5 = (iV ((k : Nat) : Int)) ∧ T 35 = (V.sl (List.map cI ((nth (m.nx) ((nth (P.1) (k))).toNat)))) ∧ T 36 = (iV ((((nth (m.nx) ((nth (P.1) (k))).toNat)).length : Nat) : Int)) ∧ T 37 = (iV ((j : Nat) : Int)) ∧ H 1 = (⟨1, true, false, 24, 4, [[(iV (m.i)), (iV (m.s)), (V.sl (List.map cL (m.nx))), (V.sl (List.map cL (m.ot)))]]⟩ : Blk) ∧ H 14 = (⟨1, true, false, 4, 1, (List.map cB (Q.2))⟩ : Blk) ∧ H 21 = (⟨w2, true, false, 3, 1, (List.map cI (Q.1))⟩ : Blk) ∧ (j ≤ (nth m.nx (nth P.1 k).toNat).length) ∧ (Q = ((nth m.nx (nth P.1 k).toNat).take j).foldl stpR P) ∧ (RI m.nx.length Q)) ?_ ?_
  ·
   refine ⟨_, 0, w, P, rfl, t1, t3, t4, t5, t35, t36, (Eq.trans t37 (by first | rfl | (rw [stp_no d2, List.length_append]; rfl) | (rw [stp_yes d2]; done) | (rw [← e9]; done))), h1, h14, h21, ?_, ?_, ?_⟩
   · omega
   · rfl
   · exact hr
  intro mm T H ⟨j, w2, Q, hmm, t1, t3, t4, t5, t35, t36, t37, h1, h14, h21, hj, hq, hrq⟩ Q7 p17 p27 p37
  unfold b33_1
  refine W_seq_regc (fun T H => T 1 = (V.mp 1 1 0 0) ∧ T 3 = (V.ms 14 1 0 (m.nx.length)) ∧ T 4 = (V.ms 21 w2 0 (Q.1.length)) ∧ T 5 = (iV ((k : Nat) : Int)) ∧ T 35 = (V.sl (List.map cI ((nth (m.nx) ((nth (P.1) (k))).toNat)))) ∧ T 36 = (iV ((((nth (m.nx) ((nth (P.1) (k))).toNat)).length : Nat) : Int)) ∧ T 37 = (iV ((j : Nat) : Int)) ∧ T 38 = (V.bool (decide (((j : Nat) : Int) < ((((nth (m.nx) ((nth (P.1) (k))).toNat)).length : Nat) : Int)))) ∧ H 1 = (⟨1, true, false, 24, 4, [[(iV (m.i)), (iV (m.s)), (V.sl (List.map cL (m.nx))), (V.sl (List.map cL (m.ot)))]]⟩ : Blk) ∧ H 14 = (⟨1, true, false, 4, 1, (List.map cB (Q.2))⟩ : Blk) ∧ H 21 = (⟨w2, true, false, 3, 1, (List.map cI (Q.1))⟩ : Blk) ∧ True) ?_ ?_
  ·
   unfold r33_10
   refine R_lss (x := ((j : Nat) : Int)) (y := ((((nth (m.nx) ((nth (P.1) (k))).toNat)).length : Nat) : Int)) t37 t36 ?_
   exact R_nil ⟨t1, t3, t4, t5, t35, t36, t37, rfl, h1, h14, h21, trivial⟩
  intro T H ⟨t1, t3, t4, t5, t35, t36, t37, t38, h1, h14, h21, _⟩
  refine W_seq_if (p := ((j : Nat) : Int) < ((((nth (m.nx) ((nth (P.1) (k))).toNat)).length : Nat) : Int)) t38 (fun c8 => ?_) (fun c8 => ?_)
  ·
   have r2 := row_in hm r1.1 r1.2 _ (nth_mem (show j < (nth m.nx (nth P.1 k).toNat).length by omega))
   have r3 := hrq.blen
   have r4 := hrq.len
   refine W_seq_skip ?_
   refine W_seq_blockg fun Q9 n9 x9 y9 z9 => ?_
   refine W_seq_regc (fun T H => T 1 = (V.mp 1 1 0 0) ∧ T 3 = (V.ms 14 1 0 (m.nx.length)) ∧ T 4 = (V.ms 21 w2 0 (Q.1.length)) ∧ T 5 = (iV ((k : Nat) : Int)) ∧ T 7 = (iV ((nth ((nth (m.nx) ((nth (P.1) (k))).toNat)) (j)))) ∧ T 35 = (V.sl (List.map cI ((nth (m.nx) ((nth (P.1) (k))).toNat)))) ∧ T 36 = (iV ((((nth (m.nx) ((nth (P.1) (k))).toNat)).length : Nat) : Int)) ∧ T 37 = (iV ((j : Nat) : Int)) ∧ H 1 = (⟨1, true, false, 24, 4, [[(iV (m.i)), (iV (m.s)), (V.sl (List.map cL (m.nx))), (V.sl (List.map cL (m.ot)))]]⟩ : Blk) ∧ H 14 = (⟨1, true, false, 4, 1, (List.map cB (Q.2))⟩ : Blk) ∧ H 21 = (⟨w2, true, false, 3, 1, (List.map cI (Q.1))⟩ : Blk) ∧ True) ?_ ?_
   ·
    unfold r33_11
    refine R_idx (i := j) t35 t37 (by first | omega | (simp only [List.length_replicate]; omega)) rfl ?_
    refine R_load_pp (v := (iV ((nth ((nth (m.nx) ((nth (P.1) (k))).toNat)) (j))))) (@rfl V (V.pp [(iV ((nth ((nth (m.nx) ((nth (P.1) (k))).toNat)) (j))))])) (by first | rfl | simp [ldV]) ?_
    refine R_mv (@rfl V (iV ((nth ((nth (m.nx) ((nth (P.1) (k))).toNat)) (j))))) ?_
    exact R_nil ⟨t1, t3, t4, t5, rfl, t35, t36, t37, h1, h14, h21, trivial⟩
   intro T H ⟨t1, t3, t4, t5, t7, t35, t36, t37, h1, h14, h21, _⟩
   refine W_seq_regc (fun T H => T 1 = (V.mp 1 1 0 0) ∧ T 3 = (V.ms 14 1 0 (m.nx.length)) ∧ T 4 = (V.ms 21 w2 0 (Q.1.length)) ∧ T 5 = (iV ((k : Nat) : Int)) ∧ T 7 = (iV ((nth ((nth (m.nx) ((nth (P.1) (k))).toNat)) (j)))) ∧ T 35 = (V.sl (List.map cI ((nth (m.nx) ((nth (P.1) (k))).toNat)))) ∧ T 36 = (iV ((((nth (m.nx) ((nth (P.1) (k))).toNat)).length : Nat) : Int)) ∧ T 37 = (iV ((j : Nat) : Int)) ∧ T 45 = (V.bool ((!(nth (Q.2) ((((nth ((nth (m.nx) ((nth (P.1) (k))).toNat)) (j)))).toNat))))) ∧ H 1 = (⟨1, true, false, 24, 4, [[(iV (m.i)), (iV (m.s)), (V.sl (List.map cL (m.nx))), (V.sl (List.map cL (m.ot)))]]⟩ : Blk) ∧ H 14 = (⟨1, true, false, 4, 1, (List.map cB (Q.2))⟩ : Blk) ∧ H 21 = (⟨w2, true, false, 3, 1, (List.map cI (Q.1))⟩ : Blk) ∧ True) ?_ ?_
   ·
    unfold r33_12
    refine R_mv t3 ?_
    refine R_mv t7 ?_
    refine R_idxI_ms0 (i := ((nth ((nth (m.nx) ((nth (P.1) (k))).toNat)) (j)))) (@rfl V (V.ms 14 1 0 (m.nx.length))) (@rfl V (iV ((nth ((nth (m.nx) ((nth (P.1) (k))).toNat)) (j))))) h14 (okB_map (by first | omega | (simp only [List.length_replicate]; omega))) rfl (by first | omega | (simp only [List.length_replicate]; omega)) (by first | omega | (simp only [List.length_replicate]; omega)) ?_
    refine R_load_mp (v := (V.bool ((nth (Q.2) ((((nth ((nth (m.nx) ((nth (P.1) (k))).toNat)) (j)))).toNat))))) (@rfl V (V.mp 14 1 ((((nth ((nth (m.nx) ((nth (P.1) (k))).toNat)) (j)))).toNat) 0)) h14 (ldB_map (by first | omega | (simp only [List.length_replicate]; omega)) (by first | rfl | simp [ldV, V.one])) ?_
    refine R_notb (@rfl V (V.bool ((nth (Q.2) ((((nth ((nth (m.nx) ((nth (P.1) (k))).toNat)) (j)))).toNat))))) ?_
    exact R_nil ⟨t1, t3, t4, t5, t7, t35, t36, t37, rfl, h1, h14, h21, trivial⟩
   intro T H ⟨t1, t3, t4, t5, t7, t35, t36, t37, t45, h1, h14, h21, _⟩
   refine W_ifb t45 (fun c10 => ?_) (fun c10 => ?_)
   ·
    have d2 : nth Q.2 (nth (nth m.nx (nth P.1 k).toNat) j).toNat = false := by simpa using c10
    refine W_seq_regc (fun T H => T 1 = (V.mp 1 1 0 0) ∧ T 3 = (V.ms 14 1 0 (m.nx.length)) ∧ T 4 = (V.ms 21 w2 0 (Q.1.length)) ∧ T 5 = (iV ((k : Nat) : Int)) ∧ T 7 = (iV ((nth ((nth (m.nx) ((nth (P.1) (k))).toNat)) (j)))) ∧ T 35 = (V.sl (List.map cI ((nth (m.nx) ((nth (P.1) (k))).toNat)))) ∧ T 36 = (iV ((((nth (m.nx) ((nth (P.1) (k))).toNat)).length : Nat) : Int)) ∧ T 37 = (iV ((j : Nat) : Int)) ∧ H 1 = (⟨1, true, false, 24, 4, [[(iV (m.i)), (iV (m.s)), (V.sl (List.map cL (m.nx))), (V.sl (List.map cL (m.ot)))]]⟩ : Blk) ∧ H 14 = (⟨1, true, false, 4, 1, (List.map cB ((Q.2).set ((((nth ((nth (m.nx) ((nth (P.1) (k))).toNat)) (j)))).toNat) true))⟩ : Blk) ∧ H 21 = (⟨w2, true, false, 3, 1, (List.map cI (Q.1))⟩ : Blk) ∧ True) ?_ ?_
    ·
     unfold r33_13
     refine R_mv t3 ?_
     refine R_mv t7 ?_
     refine R_idxI_ms0 (i := ((nth ((nth (m.nx) ((nth (P.1) (k))).toNat)) (j)))) (@rfl V (V.ms 14 1 0 (m.nx.length))) (@rfl V (iV ((nth ((nth (m.nx) ((nth (P.1) (k))).toNat)) (j))))) h14 (okB_map (by first | omega | (simp only [List.length_replicate]; omega))) rfl (by first | omega | (simp only [List.length_replicate]; omega)) (by first | omega | (simp only [List.length_replicate]; omega)) ?_
     refine R_store (vs := [(V.bool true)]) (B' := (⟨1, true, false, 4, 1, (List.map cB ((Q.2).set ((((nth ((nth (m.nx) ((nth (P.1) (k))).toNat)) (j)))).toNat) true))⟩ : Blk)) (@rfl V (V.mp 14 1 ((((nth ((nth (m.nx) ((nth (P.1) (k))).toNat)) (j)))).toNat) 0)) (@rfl V (V.bool true)) rfl h14 (stB_map (x := true) (i := (((nth ((nth (m.nx) ((nth (P.1) (k))).toNat)) (j)))).toNat) (by first | omega | (simp only [List.length_replicate]; omega)) rfl rfl rfl rfl) ?_
     exact R_nil ⟨t1, t3, t4, t5, t7, t35, t36, t37, h1, rfl, h21, trivial⟩
    intro T H ⟨t1, t3, t4, t5, t7, t35, t36, t37, h1, h14, h21, _⟩
    refine W_regc (fun T H => T 1 = (V.mp 1 1 0 0) ∧ T 3 = (V.ms 14 1 0 (m.nx.length)) ∧ T 4 = (V.ms 21 (w2 + 1) 0 (Q.1.length + 1)) ∧ T 5 = (iV ((k : Nat) : Int)) ∧ T 35 = (V.sl (List.map cI ((nth (m.nx) ((nth (P.1) (k))).toNat)))) ∧ T 36 = (iV ((((nth (m.nx) ((nth (P.1) (k))).toNat)).length : Nat) : Int)) ∧ T 37 = (iV ((j : Nat) : Int)) ∧ H 1 = (⟨1, true, false, 24, 4, [[(iV (m.i)), (iV (m.s)), (V.sl (List.map cL (m.nx))), (V.sl (List.map cL (m.ot)))]]⟩ : Blk) ∧ H 14 = (⟨1, true, false, 4, 1, (List.map cB ((Q.2).set ((((nth ((nth (m.nx) ((nth (P.1) (k))).toNat)) (j)))).toNat) true))⟩ : Blk) ∧ H 21 = (⟨w2 + 1, true, false, 3, 1, (List.map cI (Q.1 ++ [((nth ((nth (m.nx) ((nth (P.1) (k))).toNat)) (j)))]))⟩ : Blk) ∧ True) ?_ ?_
    ·
     unfold r33_14
     refine R_mv t4 ?_
     refine R_mv t7 ?_
     refine R_bslice (qs := [(0, (iV ((nth ((nth (m.nx) ((nth (P.1) (k))).toNat)) (j)))))]) (rows := [[(iV ((nth ((nth (m.nx) ((nth (P.1) (k))).toNat)) (j))))]]) (mcons (congrArg (fun v => (0, v)) (@rfl V (iV ((nth ((nth (m.nx) ((nth (P.1) (k))).toNat)) (j)))))) rfl) rfl ?_
     refine R_append1 (l := Q.1) (f := cI) (x := (((nth ((nth (m.nx) ((nth (P.1) (k))).toNat)) (j))))) (@rfl V (V.ms 21 w2 0 (Q.1.length))) h21 (by first | rfl | simp | omega) (@rfl V (V.sl [[(iV ((nth ((nth (m.nx) ((nth (P.1) (k))).toNat)) (j))))]])) rfl rfl (by first | omega | (simp only [List.length_replicate]; omega)) (by first | omega | (simp only [List.length_replicate]; omega)) ?_
     refine R_mv (@rfl V (V.ms 21 (w2 + 1) 0 (Q.1.length + 1))) ?_
     exact R_nil ⟨t1, t3, rfl, t5, t35, t36, t37, h1, h14, rfl, trivial⟩
    intro T H ⟨t1, t3, t4, t5, t35, t36, t37, h1, h14, h21, _⟩
    refine n9 _ _ ?_
    refine .done ?_
    refine W_regc (fun T H => T 1 = (V.mp 1 1 0 0) ∧ T 3 = (V.ms 14 1 0 (m.nx.length)) ∧ T 4 = (V.ms 21 (w2 + 1) 0 (Q.1.length + 1)) ∧ T 5 = (iV ((k : Nat) : Int)) ∧ T 35 = (V.sl (List.map cI ((nth (m.nx) ((nth (P.1) (k))).toNat)))) ∧ T 36 = (iV ((((nth (m.nx) ((nth (P.1) (k))).toNat)).length : Nat) : Int)) ∧ T 37 = (iV ((j + 1 : Nat) : Int)) ∧ H 1 = (⟨1, true, false, 24, 4, [[(iV (m.i)), (iV (m.s)), (V.sl (List.map cL (m.nx))), (V.sl (List.map cL (m.ot)))]]⟩ : Blk) ∧ H 14 = (⟨1, true, false, 4, 1, (List.map cB ((Q.2).set ((((nth ((nth (m.nx) ((nth (P.1) (k))).toNat)) (j)))).toNat) true))⟩ : Blk) ∧ H 21 = (⟨w2 + 1, true, false, 3, 1, (List.map cI (Q.1 ++ [((nth ((nth (m.nx) ((nth (P.1) (k))).toNat)) (j)))]))⟩ : Blk) ∧ True) ?_ ?_
    ·
     unfold r33_15
     refine R_addN (m := j) (n := 1) t37 (@rfl V (iV ((1 : Nat) : Int))) (by first | omega | (simp only [List.length_replicate]; omega)) ?_
     refine R_mv (@rfl V (iV ((j + 1 : Nat) : Int))) ?_
     exact R_nil ⟨t1, t3, t4, t5, t35, t36, rfl, h1, h14, h21, trivial⟩
    intro T H ⟨t1, t3, t4, t5, t35, t36, t37, h1, h14, h21, _⟩
    refine p17 _ _ _ ?_ ⟨(j + 1), (w2 + 1), (stpR Q (nth (nth m.nx (nth P.1 k).toNat) j)), rfl, t1, t3, (Eq.trans t4 (by first | rfl | (rw [stp_no d2, List.length_append]; rfl) | (rw [stp_yes d2]; done) | (rw [← e9]; done))), t5, t35, t36, (Eq.trans t37 (by first | rfl | (rw [stp_no d2, List.length_append]; rfl) | (rw [stp_yes d2]; done) | (rw [← e9]; done))), h1, (Eq.trans h14 (by first | rfl | (rw [stp_no d2]; done) | (rw [stp_yes d2]; done) | (rw [← e9]; done))), (Eq.trans h21 (by first | rfl | (rw [stp_no d2]; done) | (rw [stp_yes d2]; done) | (rw [← e9]; done))), ?_, ?_, ?_⟩
    · omega
    · omega
    · rw [fold_step (by omega), ← hq]
    · exact hrq.step r2.1 r2.2
   have d2 : nth Q.2 (nth (nth m.nx (nth P.1 k).toNat) j).toNat = true := by simpa using c10
   refine W_skip ?_
   refine n9 _ _ ?_
   refine .done ?_
   refine W_regc (fun T H => T 1 = (V.mp 1 1 0 0) ∧ T 3 = (V.ms 14 1 0 (m.nx.length)) ∧ T 4 = (V.ms 21 w2 0 (Q.1.length)) ∧ T 5 = (iV ((k : Nat) : Int)) ∧ T 35 = (V.sl (List.map cI ((nth (m.nx) ((nth (P.1) (k))).toNat)))) ∧ T 36 = (iV ((((nth (m.nx) ((nth (P.1) (k))).toNat)).length : Nat) : Int)) ∧ T 37 = (iV ((j + 1 : Nat) : Int)) ∧ H 1 = (⟨1, true, false, 24, 4, [[(iV (m.i)), (iV (m.s)), (V.sl (List.map cL (m.nx))), (V.sl (List.map cL (m.ot)))]]⟩ : Blk) ∧ H 14 = (⟨1, true, false, 4, 1, (List.map cB (Q.2))⟩ : Blk) ∧ H 21 = (⟨w2, true, false, 3, 1, (List.map cI (Q.1))⟩ : Blk) ∧ True) ?_ ?_
   ·
    unfold r33_15
    refine R_addN (m := j) (n := 1) t37 (@rfl V (iV ((1 : Nat) : Int))) (by first | omega | (simp only [List.length_replicate]; omega)) ?_
    refine R_mv (@rfl V (iV ((j + 1 : Nat) : Int))) ?_
    exact R_nil ⟨t1, t3, t4, t5, t35, t36, rfl, h1, h14, h21, trivial⟩
   intro T H ⟨t1, t3, t4, t5, t35, t36, t37, h1, h14, h21, _⟩
   refine p17 _ _ _ ?_ ⟨(j + 1), w2, (stpR Q (nth (nth m.nx (nth P.1 k).toNat) j)), rfl, t1, t3, (Eq.trans t4 (by first | rfl | (rw [stp_no d2, List.length_append]; rfl) | (rw [stp_yes d2]; done) | (rw [← e9]; done))), t5, t35, t36, (Eq.trans t37 (by first | rfl | (rw [stp_no d2, List.length_append]; rfl) | (rw [stp_yes d2]; done) | (rw [← e9]; done))), h1, (Eq.trans h14 (by first | rfl | (rw [stp_no d2]; done) | (rw [stp_yes d2]; done) | (rw [← e9]; done))), (Eq.trans h21 (by first | rfl | (rw [stp_no d2]; done) | (rw [stp_yes d2]; done) | (rw [← e9]; done))), ?_, ?_, ?_⟩
   · omega
   · omega
   · rw [fold_step (by omega), ← hq]
   · exact hrq.step r2.1 r2.2
  have e9 : Q = rowR m P k := by rw [hq]; unfold rowR; rw [List.take_of_length_le (by omega)]
  refine W_seq_exit ?_
  refine p37 _ _ _ ?_
  refine x6 _ _ ?_
  refine n5 _ _ ?_
  refine .done ?_
  refine W_regc (fun T H => T 1 = (V.mp 1 1 0 0) ∧ T 3 = (V.ms 14 1 0 (m.nx.length)) ∧ T 4 = (V.ms 21 w2 0 (Q.1.length)) ∧ T 5 = (iV ((k + 1 : Nat) : Int)) ∧ H 1 = (⟨1, true, false, 24, 4, [[(iV (m.i)), (iV (m.s)), (V.sl (List.map cL (m.nx))), (V.sl (List.map cL (m.ot)))]]⟩ : Blk) ∧ H 14 = (⟨1, true, false, 4, 1, (List.map cB (Q.2))⟩ : Blk) ∧ H 21 = (⟨w2, true, false, 3, 1, (List.map cI (Q.1))⟩ : Blk) ∧ True) ?_ ?_
  ·
   unfold r33_8
   refine R_mv t5 ?_
   refine R_addN (m := k) (n := 1) (@rfl V (iV ((k : Nat) : Int))) (@rfl V (iV ((1 : Nat) : Int))) (by first | omega | (simp only [List.length_replicate]; omega)) ?_
   refine R_mv (@rfl V (iV ((k + 1 : Nat) : Int))) ?_
   exact R_nil ⟨t1, t3, t4, rfl, h1, h14, h21, trivial⟩
  intro T H ⟨t1, t3, t4, t5, h1, h14, h21, _⟩
  refine p13 _ _ _ ?_ ⟨(k + 1), w2, (rowR m P k), rfl, t1, t3, (Eq.trans t4 (by first | rfl | (rw [stp_no d2, List.length_append]; rfl) | (rw [stp_yes d2]; done) | (rw [← e9]; done))), (Eq.trans t5 (by first | rfl | (rw [stp_no d2, List.length_append]; rfl) | (rw [stp_yes d2]; done) | (rw [← e9]; done))), h1, (Eq.trans h14 (by first | rfl | (rw [stp_no d2]; done) | (rw [stp_yes d2]; done) | (rw [← e9]; done))), (Eq.trans h21 (by first | rfl | (rw [stp_no d2]; done) | (rw [stp_yes d2]; done) | (rw [← e9]; done))), ?_, ?_, ?_⟩
  · omega
  · obtain ⟨x, hx⟩ := fold_grow (nth m.nx (nth P.1 k).toNat) P
    have hg : (rowR m P k).1 = P.1 ++ x := hx
    rw [hg, List.length_append]; omega
  · exact hr.row hm (by omega)
  · rw [hc, bfs_go (by omega) (by omega)]
 refine W_seq_exit ?_
 refine p33 _ _ _ ?_
 refine x2 _ _ ?_
 refine .done ?_
 refine W_seq_regc (fun T H => T 2 = (V.ms 21 w 0 (P.1.length)) ∧ H 1 = (⟨1, true, false, 24, 4, [[(iV (m.i)), (iV (m.s)), (V.sl (List.map cL (m.nx))), (V.sl (List.map cL (m.ot)))]]⟩ : Blk) ∧ H 14 = (⟨1, true, false, 4, 1, (List.map cB (P.2))⟩ : Blk) ∧ H 21 = (⟨w, true, false, 3, 1, (List.map cI (P.1))⟩ : Blk) ∧ True) ?_ ?_
 ·
  unfold r33_16
  refine R_mv t4 ?_
  refine R_mv (@rfl V (V.ms 21 w 0 (P.1.length))) ?_
  exact R_nil ⟨rfl, h1, h14, h21, trivial⟩
 intro T H ⟨t2, h1, h14, h21, _⟩
 refine W_ret ?_
 refine Ret_1 t2 (fz_ms h21 (by first | rfl | simp) (l := P.1) rfl (by first | rfl | simp | omega) (fun _ => by simp) ?_)
 · rw [rch, if_neg (by omega), hc, bfs_end (by omega)]
end Go.Proofs.Ytngkckefanbhgaa

namespace Go.Proofs.Ytngkckefanbhgaa
open Go Go.Proofs
def r34_0 : List SO := [
  ⟨none, some 2, .box 34 2 (.t 0)⟩,
  ⟨none, some 3, .box 35 1 (.t 1)⟩,
  ⟨none, some 4, .mv (.c (.nilsl))⟩,
  ⟨none, some 5, .mv (.c (.bool false))⟩]
def r34_1 : List SO := [
  ⟨none, some 8, .load false 1 (.t 3)⟩,
  ⟨none, some 9, .len (.t 8)⟩,
  ⟨none, some 10, .bin .eql (.t 9) (.c (.int .i64 0))⟩]
def r34_2 : List SO := [
  ⟨none, some 4, .mv (.c (.nilsl))⟩,
  ⟨none, some 5, .mv (.c (.bool true))⟩]
def r34_3 : List SO := [
  ⟨none, some 11, .fld 1 (.t 2)⟩,
  ⟨none, some 12, .load false 1 (.t 11)⟩,
  ⟨none, some 13, .mkf 75 [.t 3]⟩,
  ⟨none, some 14, .call false 74 [.t 12, .t 13]⟩,
  ⟨none, some 6, .mv (.t 14)⟩]
def r34_4 : List SO := [
  ⟨none, some 15, .mv (.t 6)⟩,
  ⟨none, some 16, .bin .lss (.t 15) (.c (.int .i64 0))⟩]
def r34_5 : List SO := [
  ⟨none, some 4, .mv (.c (.nilsl))⟩,
  ⟨none, some 5, .mv (.c (.bool false))⟩]
def r34_6 : List SO := [
  ⟨none, some 17, .fld 1 (.t 2)⟩,
  ⟨none, some 18, .load false 1 (.t 17)⟩,
  ⟨none, some 19, .mv (.t 6)⟩,
  ⟨none, some 20, .idx 2 (.t 18) (.t 19)⟩,
  ⟨none, some 21, .fld 1 (.t 20)⟩,
  ⟨none, some 22, .load false 1 (.t 21)⟩,
  ⟨none, some 7, .mv (.t 22)⟩]
def r34_7 : List SO := [
  ⟨none, some 23, .mv (.t 7)⟩,
  ⟨none, some 24, .load false 1 (.t 3)⟩,
  ⟨none, some 25, .len (.t 24)⟩,
  ⟨none, some 26, .mv (.t 7)⟩,
  ⟨none, some 27, .len (.t 26)⟩,
  ⟨none, some 28, .mn (.t 25) (.t 27)⟩,
  ⟨none, some 29, .slice 1 (.t 23) none (some (.t 28))⟩,
  ⟨none, some 30, .call false 63 [.t 29]⟩,
  ⟨none, some 4, .mv (.t 30)⟩,
  ⟨none, some 5, .mv (.c (.bool true))⟩]
def s34 : SF := ⟨31, [.tmp 4, .tmp 5], .seq (.reg r34_0) (.seq (.seq (.reg r34_1) (.cond (.t 10) (.seq (.reg r34_2) (.ret)) (.skip))) (.seq (.reg r34_3) (.seq (.seq (.reg r34_4) (.cond (.t 16) (.seq (.reg r34_5) (.ret)) (.skip))) (.seq (.reg r34_6) (.seq (.reg r34_7) (.ret))))))⟩
theorem s34_ok : slimF Try.prog ⟨[94, 102, 103, 108, 109, 116, 119, 121, 125], []⟩ Try.f34 = some s34 := by kernel_rfl
end Go.Proofs.Ytngkckefanbhgaa

namespace Go.Proofs.Ytngkckefanbhgaa
open Go Go.Proofs
def r75_0 : List SO := [
  ⟨none, some 2, .box 63 2 (.t 0)⟩,
  ⟨none, some 3, .mv (.c (.bool false))⟩]
def r75_1 : List SO := [
  ⟨none, some 4, .fld 0 (.t 2)⟩,
  ⟨none, some 5, .load false 1 (.t 4)⟩,
  ⟨none, some 6, .load false 1 (.t 1)⟩,
  ⟨none, some 7, .call false 76 [.t 5, .t 6]⟩,
  ⟨none, some 3, .mv (.t 7)⟩]
def s75 : SF := ⟨8, [.tmp 3], .seq (.reg r75_0) (.seq (.reg r75_1) (.ret))⟩
theorem s75_ok : slimF Try.prog ⟨[94, 102, 103, 108, 109, 116, 119, 121, 125], []⟩ Try.f75 = some s75 := by kernel_rfl
end Go.Proofs.Ytngkckefanbhgaa

namespace Go.Proofs.Ytngkckefanbhgaa
open Go Go.Proofs
theorem answer1_pure (t : Tr) (w : List Int) : PureC Try.prog 75 [(V.agg [(V.sl (List.map cI (t.ni))), (V.sl (List.map cI (t.no)))]), (V.pp [(V.sl (List.map cI (w)))])] (V.bool (hp t.ni w)) := by
 refine pure_of_Wb true 6 Try.func75 s75_ok (by kernel_rfl) (by simp [s75]) (by simp) (by simp) fun hB => ?_
 simp only [bnd_map, bnd_int, bnd_bool, bnd_str, bnd_agg, bnd_pp, bnd_nil, bnd_cons, implies_true, and_true, true_and] at hB
 unfold s75
 dsimp only
 refine W_seq_regc (fun T H => T 1 = (V.pp [(V.sl (List.map cI (w)))]) ∧ T 2 = (V.mp 2 1 0 0) ∧ H 2 = (⟨1, true, false, 63, 2, [[(V.sl (List.map cI (t.ni))), (V.sl (List.map cI (t.no)))]]⟩ : Blk) ∧ True) ?_ ?_
 ·
  unfold r75_0
  refine R_box (i := 2) (n := 0) (m := 2) (cs := [(V.sl (List.map cI (t.ni))), (V.sl (List.map cI (t.no)))]) rfl (congrArg Blk.ver rfl) (@rfl V (V.agg [(V.sl (List.map cI (t.ni))), (V.sl (List.map cI (t.no)))])) rfl rfl ?_
  refine R_mv (@rfl V (V.bool false)) ?_
  exact R_nil ⟨rfl, rfl, rfl, trivial⟩
 intro T H ⟨t1, t2, h2, _⟩
 refine W_seq_regc (fun T H => T 3 = (V.bool (hp t.ni w)) ∧ H 2 = (⟨1, true, false, 63, 2, [[(V.sl (List.map cI (t.ni))), (V.sl (List.map cI (t.no)))]]⟩ : Blk) ∧ True) ?_ ?_
 ·
  unfold r75_1
  refine R_fld_mp (o' := 0) t2 h2 (by first | rfl | simp [okB, Blk.own]) rfl ?_
  refine R_load_mp (v := (V.sl (List.map cI (t.ni)))) (@rfl V (V.mp 2 1 0 0)) h2 (by first | rfl | simp [ldB, ldV, Blk.own, V.one]) ?_
  refine R_load_pp (v := (V.sl (List.map cI (w)))) t1 (by first | rfl | simp [ldV]) ?_
  refine R_call (evcons (@rfl V (V.sl (List.map cI (t.ni)))) (evcons (@rfl V (V.sl (List.map cI (w)))) evnil)) (hp_pure t.ni w) (fzv_mapcanon _ _ (by simp [-List.map_take, -List.map_drop, -List.map_append, -List.map_reverse])) (by simp [-List.map_take, -List.map_drop, -List.map_append, -List.map_reverse]) (Or.inl (by simp [-List.map_take, -List.map_drop, -List.map_append, -List.map_reverse])) ?_
  refine R_mv (@rfl V (V.bool (hp t.ni w))) ?_
  exact R_nil ⟨rfl, h2, trivial⟩
 intro T H ⟨t3, h2, _⟩
 refine W_ret ?_
 refine Ret_1 t3 (fz_canon (by simp) rfl)
end Go.Proofs.Ytngkckefanbhgaa

namespace Go.Proofs.Ytngkckefanbhgaa
open Go Go.Proofs
theorem answer_pure (o : Ob) (w : List Int) (ho : oval o = 0) : PureC Try.prog 34 [(V.agg [(iV (o.i)), (V.sl (List.map cT (o.tr)))]), (V.sl (List.map cI (w)))] (V.tup [(V.sl (List.map cI ((ans o w).getD []))), (V.bool ((ans o w).isSome))]) := by
 refine pure_of_Wb true 6 Try.func34 s34_ok (by kernel_rfl) (by simp [s34]) (by simp) (by simp) fun hB => ?_
 simp only [bnd_map, bnd_int, bnd_bool, bnd_str, bnd_agg, bnd_pp, bnd_nil, bnd_cons, implies_true, and_true, true_and] at hB
 unfold s34
 dsimp only
 have u2 := oval_ok ho
 refine W_seq_regc (fun T H => T 2 = (V.mp 2 1 0 0) ∧ T 3 = (V.mp 3 1 0 0) ∧ H 2 = (⟨1, true, false, 34, 2, [[(iV (o.i)), (V.sl (List.map cT (o.tr)))]]⟩ : Blk) ∧ H 3 = (⟨1, true, false, 35, 1, [[(V.sl (List.map cI (w)))]]⟩ : Blk) ∧ True) ?_ ?_
 ·
  unfold r34_0
  refine R_box (i := 2) (n := 0) (m := 2) (cs := [(iV (o.i)), (V.sl (List.map cT (o.tr)))]) rfl (congrArg Blk.ver rfl) (@rfl V (V.agg [(iV (o.i)), (V.sl (List.map cT (o.tr)))])) rfl rfl ?_
  refine R_box (i := 3) (n := 0) (m := 1) (cs := [(V.sl (List.map cI (w)))]) rfl (congrArg Blk.ver rfl) (@rfl V (V.sl (List.map cI (w)))) rfl rfl ?_
  refine R_mv (@rfl V V.nilsl) ?_
  refine R_mv (@rfl V (V.bool false)) ?_
  exact R_nil ⟨rfl, rfl, rfl, rfl, trivial⟩
 intro T H ⟨t2, t3, h2, h3, _⟩
 refine W_seq_seq ?_
 refine W_seq_regc (fun T H => T 2 = (V.mp 2 1 0 0) ∧ T 3 = (V.mp 3 1 0 0) ∧ T 10 = (V.bool (decide (((w.length : Nat) : Int) = (0 : Int)))) ∧ H 2 = (⟨1, true, false, 34, 2, [[(iV (o.i)), (V.sl (List.map cT (o.tr)))]]⟩ : Blk) ∧ H 3 = (⟨1, true, false, 35, 1, [[(V.sl (List.map cI (w)))]]⟩ : Blk) ∧ True) ?_ ?_
 ·
  unfold r34_1
  refine R_load_mp (v := (V.sl (List.map cI (w)))) t3 h3 (by first | rfl | simp [ldB, ldV, Blk.own, V.one]) ?_
  refine R_len (@rfl V (V.sl (List.map cI (w)))) ?_
  refine R_eql (x := ((w.length : Nat) : Int)) (y := (0 : Int)) (@rfl V (iV ((w.length : Nat) : Int))) (@rfl V (iV (0 : Int))) ?_
  exact R_nil ⟨t2, t3, rfl, h2, h3, trivial⟩
 intro T H ⟨t2, t3, t10, h2, h3, _⟩
 refine W_seq_if (p := ((w.length : Nat) : Int) = (0 : Int)) t10 (fun c1 => ?_) (fun c1 => ?_)
 ·
  refine W_seq_seq ?_
  refine W_seq_regc (fun T H => T 4 = V.nilsl ∧ T 5 = (V.bool true) ∧ H 2 = (⟨1, true, false, 34, 2, [[(iV (o.i)), (V.sl (List.map cT (o.tr)))]]⟩ : Blk) ∧ H 3 = (⟨1, true, false, 35, 1, [[(V.sl (List.map cI (w)))]]⟩ : Blk) ∧ True) ?_ ?_
  ·
   unfold r34_2
   refine R_mv (@rfl V V.nilsl) ?_
   refine R_mv (@rfl V (V.bool true)) ?_
   exact R_nil ⟨rfl, rfl, h2, h3, trivial⟩
  intro T H ⟨t4, t5, h2, h3, _⟩
  refine W_seq_ret ?_
  refine Ret_2 t4 t5 (fz_nil ?_) (fz_bool ?_)
  · rw [List.length_eq_zero_iff.1 (show w.length = 0 by omega)]; rfl
  · rw [List.length_eq_zero_iff.1 (show w.length = 0 by omega)]; rfl
 have hw : w ≠ [] := by intro e; subst e; simp at *
 refine W_seq_skip ?_
 refine W_seq_regc (fun T H => T 2 = (V.mp 2 1 0 0) ∧ T 3 = (V.mp 3 1 0 0) ∧ T 6 = (iV (fi (fun j => (fun t : Tr => hp t.ni w) (nth o.tr j)) 0 o.tr.length)) ∧ H 2 = (⟨1, true, false, 34, 2, [[(iV (o.i)), (V.sl (List.map cT (o.tr)))]]⟩ : Blk) ∧ H 3 = (⟨1, true, false, 35, 1, [[(V.sl (List.map cI (w)))]]⟩ : Blk) ∧ True) ?_ ?_
 ·
  unfold r34_3
  refine R_fld_mp (o' := 1) t2 h2 (by first | rfl | simp [okB, Blk.own]) rfl ?_
  refine R_load_mp (v := (V.sl (List.map cT (o.tr)))) (@rfl V (V.mp 2 1 0 1)) h2 (by first | rfl | simp [ldB, ldV, Blk.own, V.one]) ?_
  refine R_mkf (evcons t3 evnil) ?_
  refine R_call (evcons (@rfl V (V.sl (List.map cT (o.tr)))) (evcons (@rfl V (V.fn 75 [] [(V.mp 3 1 0 0)])) evnil)) (idxt_pure (fun t : Tr => hp t.ni w) o.tr 75 ([(V.pp [(V.sl (List.map cI (w)))])]) (by simp) (by simp) (fun j _ => answer1_pure (nth o.tr j) w)) (mcons (fzv_canon 6 _ (by simp [-List.map_take, -List.map_drop, -List.map_append, -List.map_reverse])) (mcons (by simp [fzv, Blk.own, h2, h3]) rfl)) (by simp [-List.map_take, -List.map_drop, -List.map_append, -List.map_reverse]) (Or.inr rfl) ?_
  refine R_mv (@rfl V (iV (fi (fun j => (fun t : Tr => hp t.ni w) (nth o.tr j)) 0 o.tr.length))) ?_
  exact R_nil ⟨t2, t3, rfl, h2, h3, trivial⟩
 intro T H ⟨t2, t3, t6, h2, h3, _⟩
 refine W_seq_seq ?_
 refine W_seq_regc (fun T H => T 2 = (V.mp 2 1 0 0) ∧ T 3 = (V.mp 3 1 0 0) ∧ T 6 = (iV (fi (fun j => (fun t : Tr => hp t.ni w) (nth o.tr j)) 0 o.tr.length)) ∧ T 16 = (V.bool (decide ((fi (fun j => (fun t : Tr => hp t.ni w) (nth o.tr j)) 0 o.tr.length) < (0 : Int)))) ∧ H 2 = (⟨1, true, false, 34, 2, [[(iV (o.i)), (V.sl (List.map cT (o.tr)))]]⟩ : Blk) ∧ H 3 = (⟨1, true, false, 35, 1, [[(V.sl (List.map cI (w)))]]⟩ : Blk) ∧ True) ?_ ?_
 ·
  unfold r34_4
  refine R_mv t6 ?_
  refine R_lss (x := (fi (fun j => (fun t : Tr => hp t.ni w) (nth o.tr j)) 0 o.tr.length)) (y := (0 : Int)) (@rfl V (iV (fi (fun j => (fun t : Tr => hp t.ni w) (nth o.tr j)) 0 o.tr.length))) (@rfl V (iV (0 : Int))) ?_
  exact R_nil ⟨t2, t3, t6, rfl, h2, h3, trivial⟩
 intro T H ⟨t2, t3, t6, t16, h2, h3, _⟩
 refine W_seq_if (p := (fi (fun j => (fun t : Tr => hp t.ni w) (nth o.tr j)) 0 o.tr.length) < (0 : Int)) t16 (fun c2 => ?_) (fun c2 => ?_)
 ·
  have d1 : ansL o.tr w = none := ansL_miss (l := o.tr) (w := w) c2
  refine W_seq_seq ?_
  refine W_seq_regc (fun T H => T 4 = V.nilsl ∧ T 5 = (V.bool false) ∧ H 2 = (⟨1, true, false, 34, 2, [[(iV (o.i)), (V.sl (List.map cT (o.tr)))]]⟩ : Blk) ∧ H 3 = (⟨1, true, false, 35, 1, [[(V.sl (List.map cI (w)))]]⟩ : Blk) ∧ True) ?_ ?_
  ·
   unfold r34_5
   refine R_mv (@rfl V V.nilsl) ?_
   refine R_mv (@rfl V (V.bool false)) ?_
   exact R_nil ⟨rfl, rfl, h2, h3, trivial⟩
  intro T H ⟨t4, t5, h2, h3, _⟩
  refine W_seq_ret ?_
  refine Ret_2 t4 t5 (fz_nil ?_) (fz_bool ?_)
  · rw [ans, if_neg hw, d1]; rfl
  · rw [ans, if_neg hw, d1]; rfl
 have d1 := ansL_hit (l := o.tr) (w := w) (by omega)
 have d2 := (u2.pr _ d1.1).1.len
 have d3 := (u2.pr _ d1.1).1.lel
 have d4 := hp_len d1.2.1
 refine W_seq_skip ?_
 refine W_seq_regc (fun T H => T 3 = (V.mp 3 1 0 0) ∧ T 7 = (V.sl (List.map cI ((nth (o.tr) (fi (fun j => (fun t : Tr => hp t.ni w) (nth o.tr j)) 0 o.tr.length).toNat).no))) ∧ H 2 = (⟨1, true, false, 34, 2, [[(iV (o.i)), (V.sl (List.map cT (o.tr)))]]⟩ : Blk) ∧ H 3 = (⟨1, true, false, 35, 1, [[(V.sl (List.map cI (w)))]]⟩ : Blk) ∧ True) ?_ ?_
 ·
  unfold r34_6
  refine R_fld_mp (o' := 1) t2 h2 (by first | rfl | simp [okB, Blk.own]) rfl ?_
  refine R_load_mp (v := (V.sl (List.map cT (o.tr)))) (@rfl V (V.mp 2 1 0 1)) h2 (by first | rfl | simp [ldB, ldV, Blk.own, V.one]) ?_
  refine R_mv t6 ?_
  refine R_idxI (i := (fi (fun j => (fun t : Tr => hp t.ni w) (nth o.tr j)) 0 o.tr.length)) (@rfl V (V.sl (List.map cT (o.tr)))) (@rfl V (iV (fi (fun j => (fun t : Tr => hp t.ni w) (nth o.tr j)) 0 o.tr.length))) (by omega) (by omega) rfl ?_
  refine R_fld_pp (cs' := [(V.sl (List.map cI ((nth (o.tr) (fi (fun j => (fun t : Tr => hp t.ni w) (nth o.tr j)) 0 o.tr.length).toNat).no)))]) (@rfl V (V.pp [(V.sl (List.map cI ((nth (o.tr) (fi (fun j => (fun t : Tr => hp t.ni w) (nth o.tr j)) 0 o.tr.length).toNat).ni))), (V.sl (List.map cI ((nth (o.tr) (fi (fun j => (fun t : Tr => hp t.ni w) (nth o.tr j)) 0 o.tr.length).toNat).no)))])) rfl ?_
  refine R_load_pp (v := (V.sl (List.map cI ((nth (o.tr) (fi (fun j => (fun t : Tr => hp t.ni w) (nth o.tr j)) 0 o.tr.length).toNat).no)))) (@rfl V (V.pp [(V.sl (List.map cI ((nth (o.tr) (fi (fun j => (fun t : Tr => hp t.ni w) (nth o.tr j)) 0 o.tr.length).toNat).no)))])) (by first | rfl | simp [ldV]) ?_
  refine R_mv (@rfl V (V.sl (List.map cI ((nth (o.tr) (fi (fun j => (fun t : Tr => hp t.ni w) (nth o.tr j)) 0 o.tr.length).toNat).no)))) ?_
  exact R_nil ⟨t3, rfl, h2, h3, trivial⟩
 intro T H ⟨t3, t7, h2, h3, _⟩
 refine W_seq_regc (fun T H => T 4 = (V.sl (List.map cI ((List.take (min w.length (((nth (o.tr) (fi (fun j => (fun t : Tr => hp t.ni w) (nth o.tr j)) 0 o.tr.length).toNat).no).length)) ((nth (o.tr) (fi (fun j => (fun t : Tr => hp t.ni w) (nth o.tr j)) 0 o.tr.length).toNat).no))))) ∧ T 5 = (V.bool true) ∧ H 2 = (⟨1, true, false, 34, 2, [[(iV (o.i)), (V.sl (List.map cT (o.tr)))]]⟩ : Blk) ∧ H 3 = (⟨1, true, false, 35, 1, [[(V.sl (List.map cI (w)))]]⟩ : Blk) ∧ True) ?_ ?_
 ·
  unfold r34_7
  refine R_mv t7 ?_
  refine R_load_mp (v := (V.sl (List.map cI (w)))) t3 h3 (by first | rfl | simp [ldB, ldV, Blk.own, V.one]) ?_
  refine R_len (@rfl V (V.sl (List.map cI (w)))) ?_
  refine R_mv t7 ?_
  refine R_len (@rfl V (V.sl (List.map cI ((nth (o.tr) (fi (fun j => (fun t : Tr => hp t.ni w) (nth o.tr j)) 0 o.tr.length).toNat).no)))) ?_
  refine R_mnN (m := w.length) (n := (((nth (o.tr) (fi (fun j => (fun t : Tr => hp t.ni w) (nth o.tr j)) 0 o.tr.length).toNat).no).length)) (@rfl V (iV ((w.length : Nat) : Int))) (@rfl V (iV ((((nth (o.tr) (fi (fun j => (fun t : Tr => hp t.ni w) (nth o.tr j)) 0 o.tr.length).toNat).no).length : Nat) : Int))) ?_
  refine R_slice_hi (n := (min w.length (((nth (o.tr) (fi (fun j => (fun t : Tr => hp t.ni w) (nth o.tr j)) 0 o.tr.length).toNat).no).length))) (@rfl V (V.sl (List.map cI ((nth (o.tr) (fi (fun j => (fun t : Tr => hp t.ni w) (nth o.tr j)) 0 o.tr.length).toNat).no)))) (@rfl V (iV ((min w.length (((nth (o.tr) (fi (fun j => (fun t : Tr => hp t.ni w) (nth o.tr j)) 0 o.tr.length).toNat).no).length) : Nat) : Int))) (by omega) (fun _ => rfl) ?_
  refine R_call (evcons (@rfl V (V.sl (List.map cI (List.take (min w.length (((nth (o.tr) (fi (fun j => (fun t : Tr => hp t.ni w) (nth o.tr j)) 0 o.tr.length).toNat).no).length)) ((nth (o.tr) (fi (fun j => (fun t : Tr => hp t.ni w) (nth o.tr j)) 0 o.tr.length).toNat).no))))) evnil) (clone_pure (List.take (min w.length (((nth (o.tr) (fi (fun j => (fun t : Tr => hp t.ni w) (nth o.tr j)) 0 o.tr.length).toNat).no).length)) ((nth (o.tr) (fi (fun j => (fun t : Tr => hp t.ni w) (nth o.tr j)) 0 o.tr.length).toNat).no)) (by simp; omega)) (fzv_mapcanon _ _ (by simp [-List.map_take, -List.map_drop, -List.map_append, -List.map_reverse])) (by simp [-List.map_take, -List.map_drop, -List.map_append, -List.map_reverse]) (Or.inl (by simp [-List.map_take, -List.map_drop, -List.map_append, -List.map_reverse])) ?_
  refine R_mv (@rfl V (V.sl (List.map cI ((List.take (min w.length (((nth (o.tr) (fi (fun j => (fun t : Tr => hp t.ni w) (nth o.tr j)) 0 o.tr.length).toNat).no).length)) ((nth (o.tr) (fi (fun j => (fun t : Tr => hp t.ni w) (nth o.tr j)) 0 o.tr.length).toNat).no)))))) ?_
  refine R_mv (@rfl V (V.bool true)) ?_
  exact R_nil ⟨rfl, rfl, h2, h3, trivial⟩
 intro T H ⟨t4, t5, h2, h3, _⟩
 refine W_ret ?_
 refine Ret_2 t4 t5 (fz_sl ?_ (fun _ => by simp)) (fz_bool ?_)
 · rw [ans, if_neg hw, d1.2.2, Nat.min_eq_left (by omega)]; rfl
 · rw [ans, if_neg hw, d1.2.2]; rfl
end Go.Proofs.Ytngkckefanbhgaa

namespace Go.Proofs.Ytngkckefanbhgaa
open Go Go.Proofs
def r35_0 : List SO := [
  ⟨none, some 2, .mv (.c (.nilsl))⟩]
def r35_1 : List SO := [
  ⟨none, some 3, .lazy 3 1⟩]
def r35_2 : List SO := [
  ⟨none, some 4, .mv (.c (.int .i64 0))⟩]
def r35_3 : List SO := [
  ⟨none, some 5, .mv (.t 4)⟩,
  ⟨none, some 6, .mv (.t 0)⟩,
  ⟨none, some 7, .len (.t 6)⟩,
  ⟨none, some 8, .bin .lss (.t 5) (.t 7)⟩]
def r35_5 : List SO := [
  ⟨none, some 11, .mv (.t 3)⟩,
  ⟨none, some 12, .mv (.t 0)⟩,
  ⟨none, some 13, .mv (.t 4)⟩,
  ⟨none, some 14, .idx 1 (.t 12) (.t 13)⟩,
  ⟨none, some 15, .load false 1 (.t 14)⟩,
  ⟨none, some 16, .append 3 1 8 (.t 11) (.t 15)⟩,
  ⟨none, some 3, .mv (.t 16)⟩]
def r35_4 : List SO := [
  ⟨none, some 9, .mv (.t 4)⟩,
  ⟨none, some 10, .bin .add (.t 9) (.c (.int .i64 1))⟩,
  ⟨none, some 4, .mv (.t 10)⟩]
def b35_0 : SC := .seq (.seq (.reg r35_3) (.cond (.t 8) (.skip) (.exit 0))) (.seq (.block 1 (.reg r35_5)) (.reg r35_4))
def r35_6 : List SO := [
  ⟨none, some 17, .mv (.t 3)⟩,
  ⟨none, some 2, .mv (.t 17)⟩]
def s35 : SF := ⟨18, [.tmp 2], .seq (.reg r35_0) (.seq (.reg r35_1) (.seq (.seq (.reg r35_2) (.block 0 (.loop b35_0))) (.seq (.reg r35_6) (.ret))))⟩
theorem s35_ok : slimF Try.prog ⟨[94, 102, 103, 108, 109, 116, 119, 121, 125], [3]⟩ Try.f35 = some s35 := by kernel_rfl
end Go.Proofs.Ytngkckefanbhgaa

