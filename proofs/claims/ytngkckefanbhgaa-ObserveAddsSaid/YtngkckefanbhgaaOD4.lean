/- Contracts of the functions that the law OD reaches, and the law itself, for every input; no condition. -/
import Derived.KernelRfl
import Derived.Test.YtngkckefanbhgaaProg
import Derived.Test.YtngkckefanbhgaaRows
import Derived.Test.YtngkckefanbhgaaOD3
set_option linter.unusedSimpArgs false
set_option linter.unusedVariables false
/-
  Observations joined, the document's steps, and the observations of a machine.
-/
namespace Go.Proofs.Ytngkckefanbhgaa
def mgO (a b : Ob) : Ob := if a.i ≠ b.i then a else alO a b.tr
def mgE (a b : Ob) : Int := if a.i ≠ b.i then 15 else (alR a.i a.tr b.tr).2
theorem alR_one (i : Int) (acc : List Tr) (t : Tr) : alR i acc [t] = if prE t i ≠ 0 then ([], prE t i) else if addE acc t ≠ 0 then ([], addE acc t) else (addL acc t, 0) := by
  simp only [alR]
theorem alR_one_go {P : Ob} {l : List Tr} {k : Nat} (hk : k < l.length) (h : ¬(alR P.i P.tr [nth l k]).2 ≠ 0) : alR P.i P.tr (l.drop k) = alR (alO P [nth l k]).i (alO P [nth l k]).tr (l.drop (k + 1)) := by
  have h1 : alO P [nth l k] = ⟨P.i, (alR P.i P.tr [nth l k]).1⟩ := by unfold alO; rw [if_neg h]
  rw [h1, nth_drop hk, alR]
  rw [alR_one] at h ⊢
  split at h
  · rename_i h2; exact (h h2).elim
  · rename_i h2
    rw [if_neg h2, if_neg h2]
    split at h
    · rename_i h3; exact (h h3).elim
    · rename_i h3; rw [if_neg h3, if_neg h3]
theorem alR_one_er {P : Ob} {l : List Tr} {k : Nat} (hk : k < l.length) (h : (alR P.i P.tr [nth l k]).2 ≠ 0) : alR P.i P.tr (l.drop k) = ([], (alR P.i P.tr [nth l k]).2) := by
  rw [nth_drop hk, alR]
  rw [alR_one] at h ⊢
  split at h
  · rename_i h2; rw [if_pos h2, if_pos h2]
  · rename_i h2
    rw [if_neg h2, if_neg h2]
    split at h
    · rename_i h3; rw [if_pos h3, if_pos h3]
    · exact (h rfl).elim
theorem alR_oneE {o : Ob} (ho : OK o) (t : Tr) : (alR o.i o.tr [t]).2 = if prE t o.i ≠ 0 then prE t o.i else if 0 ≤ fi (ndP o.tr t) 0 o.tr.length then 13 else if 10000 < (raL o.tr t).length then 11 else 0 := by
  rw [alR_one]
  split
  · rfl
  rename_i h1
  rw [raL_eq ho]
  unfold addE addL
  have h9 := ho.len
  have h8 := List.length_filter_le (kp t) o.tr
  by_cases h2 : 0 ≤ fi (ndP o.tr t) 0 o.tr.length
  · simp [h2]
  · simp only [if_neg h2]
    by_cases h3 : inL o.tr t
    · simp only [if_pos h3]
      rw [if_neg (by omega), if_neg (by omega)]
    · simp only [if_neg h3, ins_len]
      by_cases h4 : (o.tr.filter (kp t)).length = 10000
      · rw [if_pos h4, if_pos (by omega), if_pos (by omega)]
      · rw [if_neg h4, if_neg (by omega), if_neg (by omega)]
theorem alO_one {o : Ob} (ho : OK o) (t : Tr) : (alO o [t]).tr = if (alR o.i o.tr [t]).2 ≠ 0 then o.tr else raL o.tr t := by
  unfold alO
  split
  · rfl
  rename_i h1
  rw [raL_eq ho]
  rw [alR_one] at h1 ⊢
  split at h1
  · rename_i h2; exact (h1 h2).elim
  rename_i h2
  rw [if_neg h2]
  split at h1
  · rename_i h3; exact (h1 h3).elim
  rename_i h3
  rw [if_neg h3]

def mnyE (ws : List (List Int)) (k : Nat) : Int := if 100 < (nth ws k).length then 1 else 0
def trW (m : M) (w : List Int) : Tr := ⟨w, outs m m.s w⟩
def wcE (m : M) (ws : List (List Int)) (k : Nat) : Int := wchk (nth ws k) m.i
def trsE (m : M) (ws : List (List Int)) : Int := if mval m ≠ 0 then mval m else if 10000 < ws.length then 11 else fe (wcE m ws) 0 ws.length
def trsL (m : M) (ws : List (List Int)) : List Tr := if trsE m ws ≠ 0 then [] else ws.map (trW m)
def ofE (m : M) (ws : List (List Int)) : Int := if trsE m ws ≠ 0 then trsE m ws else (alR m.i [] (trsL m ws)).2
def ofO (m : M) (ws : List (List Int)) : Ob := if ofE m ws ≠ 0 then ⟨0, []⟩ else alO ⟨m.i, []⟩ (trsL m ws)
theorem trs_ok {m : M} {ws : List (List Int)} (h : ¬trsE m ws ≠ 0) : mval m = 0 ∧ OK ⟨m.i, []⟩ := by
  have h1 : mval m = 0 := by
    unfold trsE at h
    split at h
    · rename_i g; exact (h g).elim
    · omega
  exact ⟨h1, ⟨⟨(mval_ok h1).1, (mval_ok h1).2.1⟩, by simp, fun k hk => by simp at hk, fun k hk => by simp at hk, fun i k _ hk => by simp at hk, fun i k _ hk => by simp at hk⟩⟩
end Go.Proofs.Ytngkckefanbhgaa

namespace Go.Proofs.Ytngkckefanbhgaa
open Go Go.Proofs

theorem rAdd_pure (o : Ob) (t : Tr) (ho : OK o) : PureC Try.prog 46 [(V.agg [(iV (o.i)), (V.sl (List.map cT (o.tr)))]), (V.agg [(V.sl (List.map cI (t.ni))), (V.sl (List.map cI (t.no)))])] (V.tup [(V.agg [(iV ((alO o [t]).i)), (V.sl (List.map cT ((alO o [t]).tr)))]), (iV ((alR o.i o.tr [t]).2))]) := by
 refine pure_of_Wb true 6 Try.func46 s46_ok (by kernel_rfl) (by simp [s46]) (by simp) (by simp) fun hB => ?_
 simp only [bnd_map, bnd_int, bnd_bool, bnd_str, bnd_agg, bnd_pp, bnd_nil, bnd_cons, implies_true, and_true, true_and] at hB
 unfold s46
 dsimp only
 have hbd : ∀ k, k < o.tr.length → (nth o.tr k).ni.length ≤ 1048576 ∧ (nth o.tr k).no.length ≤ 1048576 := fun k hk => by have := (ho.pr k hk).1.len; have := (ho.pr k hk).1.lel; omega
 have hol := ho.len
 have e1 := alR_oneE ho t
 have e2 := alO_one ho t
 refine W_seq_regc (fun T H => T 2 = (V.mp 2 1 0 0) ∧ T 3 = (V.mp 3 1 0 0) ∧ T 4 = (V.mp 4 1 0 0) ∧ H 2 = (⟨1, true, false, 34, 2, [[(iV (o.i)), (V.sl (List.map cT (o.tr)))]]⟩ : Blk) ∧ H 3 = (⟨1, true, false, 63, 2, [[(V.sl (List.map cI (t.ni))), (V.sl (List.map cI (t.no)))]]⟩ : Blk) ∧ H 4 = (⟨1, true, false, 34, 2, [[(iV (0 : Int)), V.nilsl]]⟩ : Blk) ∧ H 8 = (⟨0, false, false, 0, 0, []⟩ : Blk) ∧ True) ?_ ?_
 ·
  unfold r46_0
  refine R_box (i := 2) (n := 0) (m := 2) (cs := [(iV (o.i)), (V.sl (List.map cT (o.tr)))]) rfl (congrArg Blk.ver rfl) (@rfl V (V.agg [(iV (o.i)), (V.sl (List.map cT (o.tr)))])) rfl rfl ?_
  refine R_box (i := 3) (n := 0) (m := 2) (cs := [(V.sl (List.map cI (t.ni))), (V.sl (List.map cI (t.no)))]) rfl (congrArg Blk.ver rfl) (@rfl V (V.agg [(V.sl (List.map cI (t.ni))), (V.sl (List.map cI (t.no)))])) rfl rfl ?_
  refine R_alloc (i := 4) (n := 0) (m := 2) rfl (congrArg Blk.ver rfl) rfl ?_
  refine R_mv (@rfl V (iV (0 : Int))) ?_
  exact R_nil ⟨rfl, rfl, rfl, rfl, rfl, rfl, rfl, trivial⟩
 intro T H ⟨t2, t3, t4, h2, h3, h4, h8, _⟩
 refine W_seq_seq ?_
 refine W_seq_regc (fun T H => T 2 = (V.mp 2 1 0 0) ∧ T 3 = (V.mp 3 1 0 0) ∧ T 4 = (V.mp 4 1 0 0) ∧ T 6 = (iV (prE t ((o.i)))) ∧ H 2 = (⟨1, true, false, 34, 2, [[(iV (o.i)), (V.sl (List.map cT (o.tr)))]]⟩ : Blk) ∧ H 3 = (⟨1, true, false, 63, 2, [[(V.sl (List.map cI (t.ni))), (V.sl (List.map cI (t.no)))]]⟩ : Blk) ∧ H 4 = (⟨1, true, false, 34, 2, [[(iV (0 : Int)), V.nilsl]]⟩ : Blk) ∧ H 8 = (⟨0, false, false, 0, 0, []⟩ : Blk) ∧ True) ?_ ?_
 ·
  unfold r46_1
  refine R_load_mp (v := (V.agg [(V.sl (List.map cI (t.ni))), (V.sl (List.map cI (t.no)))])) t3 h3 (by first | rfl | simp [ldB, ldV, Blk.own, V.one]) ?_
  refine R_fld_mp (o' := 0) t2 h2 (by first | rfl | simp [okB, Blk.own]) rfl ?_
  refine R_load_mp (v := (iV (o.i))) (@rfl V (V.mp 2 1 0 0)) h2 (by first | rfl | simp [ldB, ldV, Blk.own, V.one]) ?_
  refine R_call (evcons (@rfl V (V.agg [(V.sl (List.map cI (t.ni))), (V.sl (List.map cI (t.no)))])) (evcons (@rfl V (iV (o.i))) evnil)) (rproper_pure t ((o.i))) (fzv_mapcanon _ _ (by simp [-List.map_take, -List.map_drop, -List.map_append, -List.map_reverse])) (by simp [-List.map_take, -List.map_drop, -List.map_append, -List.map_reverse]) (Or.inl (by simp [-List.map_take, -List.map_drop, -List.map_append, -List.map_reverse])) ?_
  refine R_mv (@rfl V (iV (prE t ((o.i))))) ?_
  exact R_nil ⟨t2, t3, t4, rfl, h2, h3, h4, h8, trivial⟩
 intro T H ⟨t2, t3, t4, t6, h2, h3, h4, h8, _⟩
 refine W_seq_seq ?_
 refine W_seq_regc (fun T H => T 2 = (V.mp 2 1 0 0) ∧ T 3 = (V.mp 3 1 0 0) ∧ T 4 = (V.mp 4 1 0 0) ∧ T 6 = (iV (prE t ((o.i)))) ∧ T 14 = (V.bool (decide ((prE t ((o.i))) ≠ (0 : Int)))) ∧ H 2 = (⟨1, true, false, 34, 2, [[(iV (o.i)), (V.sl (List.map cT (o.tr)))]]⟩ : Blk) ∧ H 3 = (⟨1, true, false, 63, 2, [[(V.sl (List.map cI (t.ni))), (V.sl (List.map cI (t.no)))]]⟩ : Blk) ∧ H 4 = (⟨1, true, false, 34, 2, [[(iV (0 : Int)), V.nilsl]]⟩ : Blk) ∧ H 8 = (⟨0, false, false, 0, 0, []⟩ : Blk) ∧ True) ?_ ?_
 ·
  unfold r46_2
  refine R_mv t6 ?_
  refine R_neq (x := (prE t ((o.i)))) (y := (0 : Int)) (@rfl V (iV (prE t ((o.i))))) (@rfl V (iV (0 : Int))) ?_
  exact R_nil ⟨t2, t3, t4, t6, rfl, h2, h3, h4, h8, trivial⟩
 intro T H ⟨t2, t3, t4, t6, t14, h2, h3, h4, h8, _⟩
 refine W_seq_if (p := (prE t ((o.i))) ≠ (0 : Int)) t14 (fun c1 => ?_) (fun c1 => ?_)
 ·
  have d1 := c1
  refine W_seq_seq ?_
  refine W_seq_regc (fun T H => T 4 = (V.mp 4 1 0 0) ∧ T 5 = (iV (prE t ((o.i)))) ∧ H 2 = (⟨1, true, false, 34, 2, [[(iV (o.i)), (V.sl (List.map cT (o.tr)))]]⟩ : Blk) ∧ H 3 = (⟨1, true, false, 63, 2, [[(V.sl (List.map cI (t.ni))), (V.sl (List.map cI (t.no)))]]⟩ : Blk) ∧ H 4 = (⟨1, true, false, 34, 2, [[(iV (o.i)), (V.sl (List.map cT (o.tr)))]]⟩ : Blk) ∧ H 8 = (⟨0, false, false, 0, 0, []⟩ : Blk) ∧ True) ?_ ?_
  ·
   unfold r46_3
   refine R_load_mp (v := (V.agg [(iV (o.i)), (V.sl (List.map cT (o.tr)))])) t2 h2 (by first | rfl | simp [ldB, ldV, Blk.own, V.one]) ?_
   refine R_mv t6 ?_
   refine R_store (vs := [(iV (o.i)), (V.sl (List.map cT (o.tr)))]) (B' := (⟨1, true, false, 34, 2, [[(iV (o.i)), (V.sl (List.map cT (o.tr)))]]⟩ : Blk)) t4 (@rfl V (V.agg [(iV (o.i)), (V.sl (List.map cT (o.tr)))])) rfl h4 (by first | rfl | simp [stB, okB, Blk.own, putAt, V.one]) ?_
   refine R_mv (@rfl V (iV (prE t ((o.i))))) ?_
   exact R_nil ⟨t4, rfl, h2, h3, rfl, h8, trivial⟩
  intro T H ⟨t4, t5, h2, h3, h4, h8, _⟩
  refine W_seq_ret ?_
  refine RetC_2 (resV_c (u := (V.agg [(iV (o.i)), (V.sl (List.map cT (o.tr)))])) t4 h4 (by first | rfl | simp [ldB, ldV, Blk.own, V.one])) (resV_t t5) (fz_agg2 (fz_int ?_) (fz_sl ?_ (fun _ => by simp))) (fz_int ?_)
  · rw [alO_i]
  · rw [e2, if_pos (by rw [e1, if_pos d1]; first | exact d1 | decide)]
  · rw [e1, if_pos d1]
 have d1 := c1
 have hp1 := prE_ok (t := t) (n := o.i) (by omega)
 have hp2 := hp1.len
 have hp3 := hp1.lel
 refine W_seq_skip ?_
 refine W_seq_seq ?_
 refine W_seq_regc (fun T H => T 2 = (V.mp 2 1 0 0) ∧ T 3 = (V.mp 3 1 0 0) ∧ T 4 = (V.mp 4 1 0 0) ∧ T 7 = (iV (0 : Int)) ∧ H 2 = (⟨1, true, false, 34, 2, [[(iV (o.i)), (V.sl (List.map cT (o.tr)))]]⟩ : Blk) ∧ H 3 = (⟨1, true, false, 63, 2, [[(V.sl (List.map cI (t.ni))), (V.sl (List.map cI (t.no)))]]⟩ : Blk) ∧ H 4 = (⟨1, true, false, 34, 2, [[(iV (0 : Int)), V.nilsl]]⟩ : Blk) ∧ H 8 = (⟨0, false, false, 0, 0, []⟩ : Blk) ∧ True) ?_ ?_
 ·
  unfold r46_4
  refine R_mv (@rfl V (iV (0 : Int))) ?_
  exact R_nil ⟨t2, t3, t4, rfl, h2, h3, h4, h8, trivial⟩
 intro T H ⟨t2, t3, t4, t7, h2, h3, h4, h8, _⟩
 refine W_seq_blockg fun Q2 n2 x2 y2 z2 => ?_
 refine W_loop (fun mm T H => ∃ (k : Nat), mm = o.tr.length - k ∧ T 2 = (V.mp 2 1 0 0) ∧ T 3 = (V.mp 3 1 0 0) ∧ T 4 = (V.mp 4 1 0 0) ∧ T 7 = (iV ((k : Nat) : Int)) ∧ H 2 = (⟨1, true, false, 34, 2, [[(iV (o.i)), (V.sl (List.map cT (o.tr)))]]⟩ : Blk) ∧ H 3 = (⟨1, true, false, 63, 2, [[(V.sl (List.map cI (t.ni))), (V.sl (List.map cI (t.no)))]]⟩ : Blk) ∧ H 4 = (⟨1, true, false, 34, 2, [[(iV (0 : Int)), V.nilsl]]⟩ : Blk) ∧ H 8 = (⟨0, false, false, 0, 0, []⟩ : Blk) ∧ (k ≤ o.tr.length) ∧ (fi (ndP o.tr t) 0 o.tr.length = fi (ndP o.tr t) k (o.tr.length - k))) ?_ ?_
 ·
  refine ⟨_, 0, rfl, t2, t3, t4, (Eq.trans t7 (by first | rfl | simp)), h2, h3, h4, h8, ?_, ?_⟩
  · omega
  · rfl
 intro mm T H ⟨k, hmm, t2, t3, t4, t7, h2, h3, h4, h8, hk, hc⟩ Q3 p13 p23 p33
 unfold b46_0
 refine W_seq_seq ?_
 refine W_seq_regc (fun T H => T 2 = (V.mp 2 1 0 0) ∧ T 3 = (V.mp 3 1 0 0) ∧ T 4 = (V.mp 4 1 0 0) ∧ T 7 = (iV ((k : Nat) : Int)) ∧ T 21 = (V.bool (decide (((k : Nat) : Int) < ((o.tr.length : Nat) : Int)))) ∧ H 2 = (⟨1, true, false, 34, 2, [[(iV (o.i)), (V.sl (List.map cT (o.tr)))]]⟩ : Blk) ∧ H 3 = (⟨1, true, false, 63, 2, [[(V.sl (List.map cI (t.ni))), (V.sl (List.map cI (t.no)))]]⟩ : Blk) ∧ H 4 = (⟨1, true, false, 34, 2, [[(iV (0 : Int)), V.nilsl]]⟩ : Blk) ∧ H 8 = (⟨0, false, false, 0, 0, []⟩ : Blk) ∧ True) ?_ ?_
 ·
  unfold r46_5
  refine R_mv t7 ?_
  refine R_fld_mp (o' := 1) t2 h2 (by first | rfl | simp [okB, Blk.own]) rfl ?_
  refine R_load_mp (v := (V.sl (List.map cT (o.tr)))) (@rfl V (V.mp 2 1 0 1)) h2 (by first | rfl | simp [ldB, ldV, Blk.own, V.one]) ?_
  refine R_len (@rfl V (V.sl (List.map cT (o.tr)))) ?_
  refine R_lss (x := ((k : Nat) : Int)) (y := ((o.tr.length : Nat) : Int)) (@rfl V (iV ((k : Nat) : Int))) (@rfl V (iV ((o.tr.length : Nat) : Int))) ?_
  exact R_nil ⟨t2, t3, t4, t7, rfl, h2, h3, h4, h8, trivial⟩
 intro T H ⟨t2, t3, t4, t7, t21, h2, h3, h4, h8, _⟩
 refine W_seq_if (p := ((k : Nat) : Int) < ((o.tr.length : Nat) : Int)) t21 (fun c4 => ?_) (fun c4 => ?_)
 ·
  refine W_seq_skip ?_
  refine W_seq_blockg fun Q5 n5 x5 y5 z5 => ?_
  refine W_seq_regc (fun T H => T 2 = (V.mp 2 1 0 0) ∧ T 3 = (V.mp 3 1 0 0) ∧ T 4 = (V.mp 4 1 0 0) ∧ T 7 = (iV ((k : Nat) : Int)) ∧ T 31 = (V.bool (decide ((0 : Int) ≤ (df ((nth (o.tr) (k))) t)))) ∧ H 2 = (⟨1, true, false, 34, 2, [[(iV (o.i)), (V.sl (List.map cT (o.tr)))]]⟩ : Blk) ∧ H 3 = (⟨1, true, false, 63, 2, [[(V.sl (List.map cI (t.ni))), (V.sl (List.map cI (t.no)))]]⟩ : Blk) ∧ H 4 = (⟨1, true, false, 34, 2, [[(iV (0 : Int)), V.nilsl]]⟩ : Blk) ∧ H 8 = (⟨0, false, false, 0, 0, []⟩ : Blk) ∧ True) ?_ ?_
  ·
   unfold r46_7
   refine R_fld_mp (o' := 1) t2 h2 (by first | rfl | simp [okB, Blk.own]) rfl ?_
   refine R_load_mp (v := (V.sl (List.map cT (o.tr)))) (@rfl V (V.mp 2 1 0 1)) h2 (by first | rfl | simp [ldB, ldV, Blk.own, V.one]) ?_
   refine R_mv t7 ?_
   refine R_idx (i := k) (@rfl V (V.sl (List.map cT (o.tr)))) (@rfl V (iV ((k : Nat) : Int))) (by omega) rfl ?_
   refine R_load_pp (v := (V.agg [(V.sl (List.map cI ((nth (o.tr) (k)).ni))), (V.sl (List.map cI ((nth (o.tr) (k)).no)))])) (@rfl V (V.pp [(V.sl (List.map cI ((nth (o.tr) (k)).ni))), (V.sl (List.map cI ((nth (o.tr) (k)).no)))])) (by first | rfl | simp [ldV]) ?_
   refine R_load_mp (v := (V.agg [(V.sl (List.map cI (t.ni))), (V.sl (List.map cI (t.no)))])) t3 h3 (by first | rfl | simp [ldB, ldV, Blk.own, V.one]) ?_
   refine R_call (evcons (@rfl V (V.agg [(V.sl (List.map cI ((nth (o.tr) (k)).ni))), (V.sl (List.map cI ((nth (o.tr) (k)).no)))])) (evcons (@rfl V (V.agg [(V.sl (List.map cI (t.ni))), (V.sl (List.map cI (t.no)))])) evnil)) (rdiffer_pure ((nth (o.tr) (k))) t ((ho.pr k (by omega)).1.len) hp1.len) (fzv_mapcanon _ _ (by simp [-List.map_take, -List.map_drop, -List.map_append, -List.map_reverse])) (by simp [-List.map_take, -List.map_drop, -List.map_append, -List.map_reverse]) (Or.inl (by simp [-List.map_take, -List.map_drop, -List.map_append, -List.map_reverse])) ?_
   refine R_geq (x := (df ((nth (o.tr) (k))) t)) (y := (0 : Int)) (@rfl V (iV (df ((nth (o.tr) (k))) t))) (@rfl V (iV (0 : Int))) ?_
   exact R_nil ⟨t2, t3, t4, t7, rfl, h2, h3, h4, h8, trivial⟩
  intro T H ⟨t2, t3, t4, t7, t31, h2, h3, h4, h8, _⟩
  refine W_if (p := (0 : Int) ≤ (df ((nth (o.tr) (k))) t)) t31 (fun c6 => ?_) (fun c6 => ?_)
  ·
   have d2 : ndP o.tr t k = true := decide_eq_true c6
   refine W_seq_regc (fun T H => T 4 = (V.mp 4 1 0 0) ∧ T 5 = (iV (13 : Int)) ∧ H 2 = (⟨1, true, false, 34, 2, [[(iV (o.i)), (V.sl (List.map cT (o.tr)))]]⟩ : Blk) ∧ H 3 = (⟨1, true, false, 63, 2, [[(V.sl (List.map cI (t.ni))), (V.sl (List.map cI (t.no)))]]⟩ : Blk) ∧ H 4 = (⟨1, true, false, 34, 2, [[(iV (o.i)), (V.sl (List.map cT (o.tr)))]]⟩ : Blk) ∧ H 8 = (⟨0, false, false, 0, 0, []⟩ : Blk) ∧ True) ?_ ?_
   ·
    unfold r46_8
    refine R_load_mp (v := (V.agg [(iV (o.i)), (V.sl (List.map cT (o.tr)))])) t2 h2 (by first | rfl | simp [ldB, ldV, Blk.own, V.one]) ?_
    refine R_store (vs := [(iV (o.i)), (V.sl (List.map cT (o.tr)))]) (B' := (⟨1, true, false, 34, 2, [[(iV (o.i)), (V.sl (List.map cT (o.tr)))]]⟩ : Blk)) t4 (@rfl V (V.agg [(iV (o.i)), (V.sl (List.map cT (o.tr)))])) rfl h4 (by first | rfl | simp [stB, okB, Blk.own, putAt, V.one]) ?_
    refine R_mv (@rfl V (iV (13 : Int))) ?_
    exact R_nil ⟨t4, rfl, h2, h3, rfl, h8, trivial⟩
   intro T H ⟨t4, t5, h2, h3, h4, h8, _⟩
   refine W_ret ?_
   refine y5 _ _ ?_
   refine p23 _ _ ?_
   refine y2 _ _ ?_
   refine RetC_2 (resV_c (u := (V.agg [(iV (o.i)), (V.sl (List.map cT (o.tr)))])) t4 h4 (by first | rfl | simp [ldB, ldV, Blk.own, V.one])) (resV_t t5) (fz_agg2 (fz_int ?_) (fz_sl ?_ (fun _ => by simp))) (fz_int ?_)
   · rw [alO_i]
   · rw [e2, if_pos (by rw [e1, if_neg d1, if_pos (by rw [hc, fi_hit d2 (by omega)]; omega)]; first | exact d1 | decide)]
   · rw [e1, if_neg d1, if_pos (by rw [hc, fi_hit d2 (by omega)]; omega)]
  have d2 : ndP o.tr t k = false := decide_eq_false c6
  refine W_skip ?_
  refine n5 _ _ ?_
  refine .done ?_
  refine W_regc (fun T H => T 2 = (V.mp 2 1 0 0) ∧ T 3 = (V.mp 3 1 0 0) ∧ T 4 = (V.mp 4 1 0 0) ∧ T 7 = (iV ((k + 1 : Nat) : Int)) ∧ H 2 = (⟨1, true, false, 34, 2, [[(iV (o.i)), (V.sl (List.map cT (o.tr)))]]⟩ : Blk) ∧ H 3 = (⟨1, true, false, 63, 2, [[(V.sl (List.map cI (t.ni))), (V.sl (List.map cI (t.no)))]]⟩ : Blk) ∧ H 4 = (⟨1, true, false, 34, 2, [[(iV (0 : Int)), V.nilsl]]⟩ : Blk) ∧ H 8 = (⟨0, false, false, 0, 0, []⟩ : Blk) ∧ True) ?_ ?_
  ·
   unfold r46_6
   refine R_mv t7 ?_
   refine R_addN (m := k) (n := 1) (@rfl V (iV ((k : Nat) : Int))) (@rfl V (iV ((1 : Nat) : Int))) (by omega) ?_
   refine R_mv (@rfl V (iV ((k + 1 : Nat) : Int))) ?_
   exact R_nil ⟨t2, t3, t4, rfl, h2, h3, h4, h8, trivial⟩
  intro T H ⟨t2, t3, t4, t7, h2, h3, h4, h8, _⟩
  refine p13 _ _ _ ?_ ⟨(k + 1), rfl, t2, t3, t4, (Eq.trans t7 (by first | rfl | simp)), h2, h3, h4, h8, ?_, ?_⟩
  · omega
  · omega
  · rw [hc, fi_skip d2 (by omega)]
 refine W_seq_exit ?_
 refine p33 _ _ _ ?_
 refine x2 _ _ ?_
 refine .done ?_
 refine W_seq_regc (fun T H => T 2 = (V.mp 2 1 0 0) ∧ T 4 = (V.mp 4 1 0 0) ∧ T 8 = (V.mp 8 1 0 0) ∧ H 2 = (⟨1, true, false, 34, 2, [[(iV (o.i)), (V.sl (List.map cT (o.tr)))]]⟩ : Blk) ∧ H 3 = (⟨1, true, false, 63, 2, [[(V.sl (List.map cI (t.ni))), (V.sl (List.map cI (t.no)))]]⟩ : Blk) ∧ H 4 = (⟨1, true, false, 34, 2, [[(iV (0 : Int)), V.nilsl]]⟩ : Blk) ∧ H 8 = (⟨1, true, false, 34, 2, [[(iV (o.i)), (V.sl (List.map cT (raL o.tr t)))]]⟩ : Blk) ∧ True) ?_ ?_
 ·
  unfold r46_9
  refine R_load_mp (v := (V.agg [(iV (o.i)), (V.sl (List.map cT (o.tr)))])) t2 h2 (by first | rfl | simp [ldB, ldV, Blk.own, V.one]) ?_
  refine R_load_mp (v := (V.agg [(V.sl (List.map cI (t.ni))), (V.sl (List.map cI (t.no)))])) t3 h3 (by first | rfl | simp [ldB, ldV, Blk.own, V.one]) ?_
  refine R_call (evcons (@rfl V (V.agg [(iV (o.i)), (V.sl (List.map cT (o.tr)))])) (evcons (@rfl V (V.agg [(V.sl (List.map cI (t.ni))), (V.sl (List.map cI (t.no)))])) evnil)) (radd_pure o t (by omega) (by omega) hbd (by omega)) (fzv_mapcanon _ _ (by simp [-List.map_take, -List.map_drop, -List.map_append, -List.map_reverse])) (by simp [-List.map_take, -List.map_drop, -List.map_append, -List.map_reverse]) (Or.inl (by simp [-List.map_take, -List.map_drop, -List.map_append, -List.map_reverse])) ?_
  refine R_alloc (i := 8) (n := 0) (m := 2) rfl (congrArg Blk.ver h8) rfl ?_
  refine R_store (vs := [(iV (o.i)), (V.sl (List.map cT (raL o.tr t)))]) (B' := (⟨1, true, false, 34, 2, [[(iV (o.i)), (V.sl (List.map cT (raL o.tr t)))]]⟩ : Blk)) (@rfl V (V.mp 8 1 0 0)) (@rfl V (V.agg [(iV (o.i)), (V.sl (List.map cT (raL o.tr t)))])) rfl (@rfl Blk (⟨1, true, false, 34, 2, [[(iV (0 : Int)), V.nilsl]]⟩ : Blk)) (by first | rfl | simp [stB, okB, Blk.own, putAt, V.one]) ?_
  exact R_nil ⟨t2, t4, rfl, h2, h3, h4, rfl, trivial⟩
 intro T H ⟨t2, t4, t8, h2, h3, h4, h8, _⟩
 refine W_seq_seq ?_
 refine W_seq_regc (fun T H => T 2 = (V.mp 2 1 0 0) ∧ T 4 = (V.mp 4 1 0 0) ∧ T 8 = (V.mp 8 1 0 0) ∧ T 39 = (V.bool (decide ((10000 : Int) < (((raL o.tr t).length : Nat) : Int)))) ∧ H 2 = (⟨1, true, false, 34, 2, [[(iV (o.i)), (V.sl (List.map cT (o.tr)))]]⟩ : Blk) ∧ H 3 = (⟨1, true, false, 63, 2, [[(V.sl (List.map cI (t.ni))), (V.sl (List.map cI (t.no)))]]⟩ : Blk) ∧ H 4 = (⟨1, true, false, 34, 2, [[(iV (0 : Int)), V.nilsl]]⟩ : Blk) ∧ H 8 = (⟨1, true, false, 34, 2, [[(iV (o.i)), (V.sl (List.map cT (raL o.tr t)))]]⟩ : Blk) ∧ True) ?_ ?_
 ·
  unfold r46_10
  refine R_fld_mp (o' := 1) t8 h8 (by first | rfl | simp [okB, Blk.own]) rfl ?_
  refine R_load_mp (v := (V.sl (List.map cT (raL o.tr t)))) (@rfl V (V.mp 8 1 0 1)) h8 (by first | rfl | simp [ldB, ldV, Blk.own, V.one]) ?_
  refine R_len (@rfl V (V.sl (List.map cT (raL o.tr t)))) ?_
  refine R_gtr (x := (((raL o.tr t).length : Nat) : Int)) (y := (10000 : Int)) (@rfl V (iV (((raL o.tr t).length : Nat) : Int))) (@rfl V (iV (10000 : Int))) ?_
  exact R_nil ⟨t2, t4, t8, rfl, h2, h3, h4, h8, trivial⟩
 intro T H ⟨t2, t4, t8, t39, h2, h3, h4, h8, _⟩
 refine W_seq_if (p := (10000 : Int) < (((raL o.tr t).length : Nat) : Int)) t39 (fun c7 => ?_) (fun c7 => ?_)
 ·
  have d3 := c7
  refine W_seq_seq ?_
  refine W_seq_regc (fun T H => T 4 = (V.mp 4 1 0 0) ∧ T 5 = (iV (11 : Int)) ∧ H 2 = (⟨1, true, false, 34, 2, [[(iV (o.i)), (V.sl (List.map cT (o.tr)))]]⟩ : Blk) ∧ H 3 = (⟨1, true, false, 63, 2, [[(V.sl (List.map cI (t.ni))), (V.sl (List.map cI (t.no)))]]⟩ : Blk) ∧ H 4 = (⟨1, true, false, 34, 2, [[(iV (o.i)), (V.sl (List.map cT (o.tr)))]]⟩ : Blk) ∧ H 8 = (⟨1, true, false, 34, 2, [[(iV (o.i)), (V.sl (List.map cT (raL o.tr t)))]]⟩ : Blk) ∧ True) ?_ ?_
  ·
   unfold r46_11
   refine R_load_mp (v := (V.agg [(iV (o.i)), (V.sl (List.map cT (o.tr)))])) t2 h2 (by first | rfl | simp [ldB, ldV, Blk.own, V.one]) ?_
   refine R_store (vs := [(iV (o.i)), (V.sl (List.map cT (o.tr)))]) (B' := (⟨1, true, false, 34, 2, [[(iV (o.i)), (V.sl (List.map cT (o.tr)))]]⟩ : Blk)) t4 (@rfl V (V.agg [(iV (o.i)), (V.sl (List.map cT (o.tr)))])) rfl h4 (by first | rfl | simp [stB, okB, Blk.own, putAt, V.one]) ?_
   refine R_mv (@rfl V (iV (11 : Int))) ?_
   exact R_nil ⟨t4, rfl, h2, h3, rfl, h8, trivial⟩
  intro T H ⟨t4, t5, h2, h3, h4, h8, _⟩
  refine W_seq_ret ?_
  refine RetC_2 (resV_c (u := (V.agg [(iV (o.i)), (V.sl (List.map cT (o.tr)))])) t4 h4 (by first | rfl | simp [ldB, ldV, Blk.own, V.one])) (resV_t t5) (fz_agg2 (fz_int ?_) (fz_sl ?_ (fun _ => by simp))) (fz_int ?_)
  · rw [alO_i]
  · rw [e2, if_pos (by rw [e1, if_neg d1, if_neg (by rw [hc, fi_end (by omega)]; omega), if_pos (by omega)]; first | exact d1 | decide)]
  · rw [e1, if_neg d1, if_neg (by rw [hc, fi_end (by omega)]; omega), if_pos (by omega)]
 have d3 := c7
 refine W_seq_skip ?_
 refine W_seq_regc (fun T H => T 4 = (V.mp 4 1 0 0) ∧ T 5 = (iV (0 : Int)) ∧ H 2 = (⟨1, true, false, 34, 2, [[(iV (o.i)), (V.sl (List.map cT (o.tr)))]]⟩ : Blk) ∧ H 3 = (⟨1, true, false, 63, 2, [[(V.sl (List.map cI (t.ni))), (V.sl (List.map cI (t.no)))]]⟩ : Blk) ∧ H 4 = (⟨1, true, false, 34, 2, [[(iV (o.i)), (V.sl (List.map cT (raL o.tr t)))]]⟩ : Blk) ∧ H 8 = (⟨1, true, false, 34, 2, [[(iV (o.i)), (V.sl (List.map cT (raL o.tr t)))]]⟩ : Blk) ∧ True) ?_ ?_
 ·
  unfold r46_12
  refine R_load_mp (v := (V.agg [(iV (o.i)), (V.sl (List.map cT (raL o.tr t)))])) t8 h8 (by first | rfl | simp [ldB, ldV, Blk.own, V.one]) ?_
  refine R_store (vs := [(iV (o.i)), (V.sl (List.map cT (raL o.tr t)))]) (B' := (⟨1, true, false, 34, 2, [[(iV (o.i)), (V.sl (List.map cT (raL o.tr t)))]]⟩ : Blk)) t4 (@rfl V (V.agg [(iV (o.i)), (V.sl (List.map cT (raL o.tr t)))])) rfl h4 (by first | rfl | simp [stB, okB, Blk.own, putAt, V.one]) ?_
  refine R_mv (@rfl V (iV (0 : Int))) ?_
  exact R_nil ⟨t4, rfl, h2, h3, rfl, h8, trivial⟩
 intro T H ⟨t4, t5, h2, h3, h4, h8, _⟩
 refine W_ret ?_
 refine RetC_2 (resV_c (u := (V.agg [(iV (o.i)), (V.sl (List.map cT (raL o.tr t)))])) t4 h4 (by first | rfl | simp [ldB, ldV, Blk.own, V.one])) (resV_t t5) (fz_agg2 (fz_int ?_) (fz_sl ?_ (fun _ => by simp))) (fz_int ?_)
 · rw [alO_i]
 · rw [e2, if_neg (by rw [e1, if_neg d1, if_neg (by rw [hc, fi_end (by omega)]; omega), if_neg (by omega)]; decide)]
 · rw [e1, if_neg d1, if_neg (by rw [hc, fi_end (by omega)]; omega), if_neg (by omega)]

end Go.Proofs.Ytngkckefanbhgaa

namespace Go.Proofs.Ytngkckefanbhgaa
open Go Go.Proofs

def r47_0 : List SO := [
  ⟨none, some 2, .box 34 2 (.t 0)⟩,
  ⟨none, some 3, .box 34 2 (.t 1)⟩,
  ⟨none, some 4, .mv (.c (.bool false))⟩]
def r47_1 : List SO := [
  ⟨none, some 5, .fld 0 (.t 2)⟩,
  ⟨none, some 6, .load false 1 (.t 5)⟩,
  ⟨none, some 7, .fld 0 (.t 3)⟩,
  ⟨none, some 8, .load false 1 (.t 7)⟩,
  ⟨none, some 9, .bin .eql (.t 6) (.t 8)⟩,
  ⟨none, some 10, .mv (.t 9)⟩,
  ⟨some (10, true), some 11, .fld 1 (.t 2)⟩,
  ⟨some (10, true), some 12, .load false 1 (.t 11)⟩,
  ⟨some (10, true), some 13, .fld 1 (.t 3)⟩,
  ⟨some (10, true), some 14, .load false 1 (.t 13)⟩,
  ⟨some (10, true), some 15, .call false 87 [.t 12, .t 14]⟩,
  ⟨none, some 16, .pick (.t 10) (.t 15) (.c (.bool false))⟩,
  ⟨none, some 4, .mv (.t 16)⟩]
def s47 : SF := ⟨17, [.tmp 4], .seq (.reg r47_0) (.seq (.reg r47_1) (.ret))⟩
theorem s47_ok : slimF Try.prog ⟨[94, 102, 103, 108, 109, 116, 119, 121, 125], []⟩ Try.f47 = some s47 := by kernel_rfl

end Go.Proofs.Ytngkckefanbhgaa

namespace Go.Proofs.Ytngkckefanbhgaa
open Go Go.Proofs

def r87_0 : List SO := [
  ⟨none, some 4, .mv (.c (.bool false))⟩]
def r87_1 : List SO := [
  ⟨none, some 6, .mv (.t 0)⟩,
  ⟨none, some 7, .len (.t 6)⟩,
  ⟨none, some 8, .mv (.t 1)⟩,
  ⟨none, some 9, .len (.t 8)⟩,
  ⟨none, some 10, .bin .neq (.t 7) (.t 9)⟩]
def r87_2 : List SO := [
  ⟨none, some 4, .mv (.c (.bool false))⟩]
def r87_3 : List SO := [
  ⟨none, some 5, .mv (.c (.int .i64 0))⟩]
def r87_4 : List SO := [
  ⟨none, some 11, .mv (.t 5)⟩,
  ⟨none, some 12, .mv (.t 0)⟩,
  ⟨none, some 13, .len (.t 12)⟩,
  ⟨none, some 14, .bin .lss (.t 11) (.t 13)⟩]
def r87_6 : List SO := [
  ⟨none, some 17, .mv (.t 0)⟩,
  ⟨none, some 18, .mv (.t 5)⟩,
  ⟨none, some 19, .idx 2 (.t 17) (.t 18)⟩,
  ⟨none, some 20, .fld 0 (.t 19)⟩,
  ⟨none, some 21, .load false 1 (.t 20)⟩,
  ⟨none, some 22, .mv (.t 1)⟩,
  ⟨none, some 23, .mv (.t 5)⟩,
  ⟨none, some 24, .idx 2 (.t 22) (.t 23)⟩,
  ⟨none, some 25, .fld 0 (.t 24)⟩,
  ⟨none, some 26, .load false 1 (.t 25)⟩,
  ⟨none, some 27, .call false 25 [.t 21, .t 26]⟩,
  ⟨none, some 28, .un .not (.t 27)⟩,
  ⟨none, some 29, .mv (.t 28)⟩,
  ⟨some (29, false), some 30, .mv (.t 0)⟩,
  ⟨some (29, false), some 31, .mv (.t 5)⟩,
  ⟨some (29, false), some 32, .idx 2 (.t 30) (.t 31)⟩,
  ⟨some (29, false), some 33, .fld 1 (.t 32)⟩,
  ⟨some (29, false), some 34, .load false 1 (.t 33)⟩,
  ⟨some (29, false), some 35, .mv (.t 1)⟩,
  ⟨some (29, false), some 36, .mv (.t 5)⟩,
  ⟨some (29, false), some 37, .idx 2 (.t 35) (.t 36)⟩,
  ⟨some (29, false), some 38, .fld 1 (.t 37)⟩,
  ⟨some (29, false), some 39, .load false 1 (.t 38)⟩,
  ⟨some (29, false), some 40, .call false 25 [.t 34, .t 39]⟩,
  ⟨some (29, false), some 41, .un .not (.t 40)⟩,
  ⟨none, some 42, .pick (.t 29) (.c (.bool true)) (.t 41)⟩]
def r87_7 : List SO := [
  ⟨none, some 4, .mv (.c (.bool false))⟩]
def r87_5 : List SO := [
  ⟨none, some 15, .mv (.t 5)⟩,
  ⟨none, some 16, .bin .add (.t 15) (.c (.int .i64 1))⟩,
  ⟨none, some 5, .mv (.t 16)⟩]
def b87_0 : SC := .seq (.seq (.reg r87_4) (.cond (.t 14) (.skip) (.exit 0))) (.seq (.block 1 (.seq (.reg r87_6) (.cond (.t 42) (.seq (.reg r87_7) (.ret)) (.skip)))) (.reg r87_5))
def r87_8 : List SO := [
  ⟨none, some 4, .mv (.c (.bool true))⟩]
def s87 : SF := ⟨43, [.tmp 4], .seq (.reg r87_0) (.seq (.seq (.reg r87_1) (.cond (.t 10) (.seq (.reg r87_2) (.ret)) (.skip))) (.seq (.seq (.reg r87_3) (.block 0 (.loop b87_0))) (.seq (.reg r87_8) (.ret))))⟩
theorem s87_ok : slimF Try.prog ⟨[94, 102, 103, 108, 109, 116, 119, 121, 125], []⟩ Try.f87 = some s87 := by kernel_rfl

end Go.Proofs.Ytngkckefanbhgaa

namespace Go.Proofs.Ytngkckefanbhgaa
open Go Go.Proofs

theorem ints_pure (a b : List Int) : PureC Try.prog 25 [(V.sl (List.map cI (a))), (V.sl (List.map cI (b)))] (V.bool (decide (a = b))) := by
 refine pure_of_Wb true 6 Try.func25 s25_ok (by kernel_rfl) (by simp [s25]) (by simp) (by simp) fun hB => ?_
 simp only [bnd_map, bnd_int, bnd_bool, bnd_str, bnd_agg, bnd_pp, bnd_nil, bnd_cons, implies_true, and_true, true_and] at hB
 unfold s25
 dsimp only
 refine W_seq_regc (fun T H => T 0 = (V.sl (List.map cI (a))) ∧ T 1 = (V.sl (List.map cI (b))) ∧ True) ?_ ?_
 ·
  unfold r25_0
  refine R_mv (@rfl V (V.bool false)) ?_
  exact R_nil ⟨rfl, rfl, trivial⟩
 intro T H ⟨t0, t1, _⟩
 refine W_seq_seq ?_
 refine W_seq_regc (fun T H => T 0 = (V.sl (List.map cI (a))) ∧ T 1 = (V.sl (List.map cI (b))) ∧ T 10 = (V.bool (decide (((a.length : Nat) : Int) ≠ ((b.length : Nat) : Int)))) ∧ True) ?_ ?_
 ·
  unfold r25_1
  refine R_mv t0 ?_
  refine R_len (@rfl V (V.sl (List.map cI (a)))) ?_
  refine R_mv t1 ?_
  refine R_len (@rfl V (V.sl (List.map cI (b)))) ?_
  refine R_neq (x := ((a.length : Nat) : Int)) (y := ((b.length : Nat) : Int)) (@rfl V (iV ((a.length : Nat) : Int))) (@rfl V (iV ((b.length : Nat) : Int))) ?_
  exact R_nil ⟨t0, t1, rfl, trivial⟩
 intro T H ⟨t0, t1, t10, _⟩
 refine W_seq_if (p := ((a.length : Nat) : Int) ≠ ((b.length : Nat) : Int)) t10 (fun c1 => ?_) (fun c1 => ?_)
 ·
  refine W_seq_seq ?_
  refine W_seq_regc (fun T H => T 4 = (V.bool false) ∧ True) ?_ ?_
  ·
   unfold r25_2
   refine R_mv (@rfl V (V.bool false)) ?_
   exact R_nil ⟨rfl, trivial⟩
  intro T H ⟨t4, _⟩
  refine W_seq_ret ?_
  refine Ret_1 t4 (fz_bool ?_)
  · exact (decide_eq_false (fun e => by subst e; omega)).symm
 refine W_seq_skip ?_
 refine W_seq_seq ?_
 refine W_seq_regc (fun T H => T 0 = (V.sl (List.map cI (a))) ∧ T 1 = (V.sl (List.map cI (b))) ∧ T 5 = (iV (0 : Int)) ∧ True) ?_ ?_
 ·
  unfold r25_3
  refine R_mv (@rfl V (iV (0 : Int))) ?_
  exact R_nil ⟨t0, t1, rfl, trivial⟩
 intro T H ⟨t0, t1, t5, _⟩
 refine W_seq_blockg fun Q2 n2 x2 y2 z2 => ?_
 refine W_loop (fun mm T H => ∃ (k : Nat), mm = a.length - k ∧ T 0 = (V.sl (List.map cI (a))) ∧ T 1 = (V.sl (List.map cI (b))) ∧ T 5 = (iV ((k : Nat) : Int)) ∧ (k ≤ a.length) ∧ (a.length = b.length) ∧ (∀ j, j < k → nth a j = nth b j)) ?_ ?_
 ·
  refine ⟨_, 0, rfl, t0, t1, (Eq.trans t5 (by first | rfl | simp)), ?_, ?_, ?_⟩
  · omega
  · omega
  · intro j hj; omega
 intro mm T H ⟨k, hmm, t0, t1, t5, hk, hl, hc⟩ Q3 p13 p23 p33
 unfold b25_0
 refine W_seq_seq ?_
 refine W_seq_regc (fun T H => T 0 = (V.sl (List.map cI (a))) ∧ T 1 = (V.sl (List.map cI (b))) ∧ T 5 = (iV ((k : Nat) : Int)) ∧ T 14 = (V.bool (decide (((k : Nat) : Int) < ((a.length : Nat) : Int)))) ∧ True) ?_ ?_
 ·
  unfold r25_4
  refine R_mv t5 ?_
  refine R_mv t0 ?_
  refine R_len (@rfl V (V.sl (List.map cI (a)))) ?_
  refine R_lss (x := ((k : Nat) : Int)) (y := ((a.length : Nat) : Int)) (@rfl V (iV ((k : Nat) : Int))) (@rfl V (iV ((a.length : Nat) : Int))) ?_
  exact R_nil ⟨t0, t1, t5, rfl, trivial⟩
 intro T H ⟨t0, t1, t5, t14, _⟩
 refine W_seq_if (p := ((k : Nat) : Int) < ((a.length : Nat) : Int)) t14 (fun c4 => ?_) (fun c4 => ?_)
 ·
  refine W_seq_skip ?_
  refine W_seq_blockg fun Q5 n5 x5 y5 z5 => ?_
  refine W_seq_regc (fun T H => T 0 = (V.sl (List.map cI (a))) ∧ T 1 = (V.sl (List.map cI (b))) ∧ T 5 = (iV ((k : Nat) : Int)) ∧ T 25 = (V.bool (decide (((nth (a) (k))) ≠ ((nth (b) (k)))))) ∧ True) ?_ ?_
  ·
   unfold r25_6
   refine R_mv t0 ?_
   refine R_mv t5 ?_
   refine R_idx (i := k) (@rfl V (V.sl (List.map cI (a)))) (@rfl V (iV ((k : Nat) : Int))) (by omega) rfl ?_
   refine R_load_pp (v := (iV ((nth (a) (k))))) (@rfl V (V.pp [(iV ((nth (a) (k))))])) (by first | rfl | simp [ldV]) ?_
   refine R_mv t1 ?_
   refine R_mv t5 ?_
   refine R_idx (i := k) (@rfl V (V.sl (List.map cI (b)))) (@rfl V (iV ((k : Nat) : Int))) (by omega) rfl ?_
   refine R_load_pp (v := (iV ((nth (b) (k))))) (@rfl V (V.pp [(iV ((nth (b) (k))))])) (by first | rfl | simp [ldV]) ?_
   refine R_neq (x := ((nth (a) (k)))) (y := ((nth (b) (k)))) (@rfl V (iV ((nth (a) (k))))) (@rfl V (iV ((nth (b) (k))))) ?_
   exact R_nil ⟨t0, t1, t5, rfl, trivial⟩
  intro T H ⟨t0, t1, t5, t25, _⟩
  refine W_if (p := ((nth (a) (k))) ≠ ((nth (b) (k)))) t25 (fun c6 => ?_) (fun c6 => ?_)
  ·
   refine W_seq_regc (fun T H => T 4 = (V.bool false) ∧ True) ?_ ?_
   ·
    unfold r25_7
    refine R_mv (@rfl V (V.bool false)) ?_
    exact R_nil ⟨rfl, trivial⟩
   intro T H ⟨t4, _⟩
   refine W_ret ?_
   refine y5 _ _ ?_
   refine p23 _ _ ?_
   refine y2 _ _ ?_
   refine Ret_1 t4 (fz_bool ?_)
   · exact (decide_eq_false (fun e => by subst e; omega)).symm
  refine W_skip ?_
  refine n5 _ _ ?_
  refine .done ?_
  refine W_regc (fun T H => T 0 = (V.sl (List.map cI (a))) ∧ T 1 = (V.sl (List.map cI (b))) ∧ T 5 = (iV ((k + 1 : Nat) : Int)) ∧ True) ?_ ?_
  ·
   unfold r25_5
   refine R_mv t5 ?_
   refine R_addN (m := k) (n := 1) (@rfl V (iV ((k : Nat) : Int))) (@rfl V (iV ((1 : Nat) : Int))) (by omega) ?_
   refine R_mv (@rfl V (iV ((k + 1 : Nat) : Int))) ?_
   exact R_nil ⟨t0, t1, rfl, trivial⟩
  intro T H ⟨t0, t1, t5, _⟩
  refine p13 _ _ _ ?_ ⟨(k + 1), rfl, t0, t1, (Eq.trans t5 (by first | rfl | simp)), ?_, ?_, ?_⟩
  · omega
  · omega
  · omega
  · intro j hj
    by_cases e : j = k
    · subst e; omega
    · exact hc j (by omega)
 refine W_seq_exit ?_
 refine p33 _ _ _ ?_
 refine x2 _ _ ?_
 refine .done ?_
 refine W_seq_regc (fun T H => T 4 = (V.bool true) ∧ True) ?_ ?_
 ·
  unfold r25_8
  refine R_mv (@rfl V (V.bool true)) ?_
  exact R_nil ⟨rfl, trivial⟩
 intro T H ⟨t4, _⟩
 refine W_ret ?_
 refine Ret_1 t4 (fz_bool ?_)
 · exact (decide_eq_true (nth_ext hl fun j hj => hc j (by omega))).symm

end Go.Proofs.Ytngkckefanbhgaa

namespace Go.Proofs.Ytngkckefanbhgaa
open Go Go.Proofs

theorem rst_pure (a b : List Tr) : PureC Try.prog 87 [(V.sl (List.map cT (a))), (V.sl (List.map cT (b)))] (V.bool (decide (a = b))) := by
 refine pure_of_Wb true 6 Try.func87 s87_ok (by kernel_rfl) (by simp [s87]) (by simp) (by simp) fun hB => ?_
 simp only [bnd_map, bnd_int, bnd_bool, bnd_str, bnd_agg, bnd_pp, bnd_nil, bnd_cons, implies_true, and_true, true_and] at hB
 unfold s87
 dsimp only
 refine W_seq_regc (fun T H => T 0 = (V.sl (List.map cT (a))) ∧ T 1 = (V.sl (List.map cT (b))) ∧ True) ?_ ?_
 ·
  unfold r87_0
  refine R_mv (@rfl V (V.bool false)) ?_
  exact R_nil ⟨rfl, rfl, trivial⟩
 intro T H ⟨t0, t1, _⟩
 refine W_seq_seq ?_
 refine W_seq_regc (fun T H => T 0 = (V.sl (List.map cT (a))) ∧ T 1 = (V.sl (List.map cT (b))) ∧ T 10 = (V.bool (decide (((a.length : Nat) : Int) ≠ ((b.length : Nat) : Int)))) ∧ True) ?_ ?_
 ·
  unfold r87_1
  refine R_mv t0 ?_
  refine R_len (@rfl V (V.sl (List.map cT (a)))) ?_
  refine R_mv t1 ?_
  refine R_len (@rfl V (V.sl (List.map cT (b)))) ?_
  refine R_neq (x := ((a.length : Nat) : Int)) (y := ((b.length : Nat) : Int)) (@rfl V (iV ((a.length : Nat) : Int))) (@rfl V (iV ((b.length : Nat) : Int))) ?_
  exact R_nil ⟨t0, t1, rfl, trivial⟩
 intro T H ⟨t0, t1, t10, _⟩
 refine W_seq_if (p := ((a.length : Nat) : Int) ≠ ((b.length : Nat) : Int)) t10 (fun c1 => ?_) (fun c1 => ?_)
 ·
  refine W_seq_seq ?_
  refine W_seq_regc (fun T H => T 4 = (V.bool false) ∧ True) ?_ ?_
  ·
   unfold r87_2
   refine R_mv (@rfl V (V.bool false)) ?_
   exact R_nil ⟨rfl, trivial⟩
  intro T H ⟨t4, _⟩
  refine W_seq_ret ?_
  refine Ret_1 t4 (fz_bool ?_)
  · exact (decide_eq_false (fun e => by subst e; omega)).symm
 refine W_seq_skip ?_
 refine W_seq_seq ?_
 refine W_seq_regc (fun T H => T 0 = (V.sl (List.map cT (a))) ∧ T 1 = (V.sl (List.map cT (b))) ∧ T 5 = (iV (0 : Int)) ∧ True) ?_ ?_
 ·
  unfold r87_3
  refine R_mv (@rfl V (iV (0 : Int))) ?_
  exact R_nil ⟨t0, t1, rfl, trivial⟩
 intro T H ⟨t0, t1, t5, _⟩
 refine W_seq_blockg fun Q2 n2 x2 y2 z2 => ?_
 refine W_loop (fun mm T H => ∃ (k : Nat), mm = a.length - k ∧ T 0 = (V.sl (List.map cT (a))) ∧ T 1 = (V.sl (List.map cT (b))) ∧ T 5 = (iV ((k : Nat) : Int)) ∧ (k ≤ a.length) ∧ (a.length = b.length) ∧ (∀ j, j < k → nth a j = nth b j)) ?_ ?_
 ·
  refine ⟨_, 0, rfl, t0, t1, (Eq.trans t5 (by first | rfl | simp)), ?_, ?_, ?_⟩
  · omega
  · omega
  · intro j hj; omega
 intro mm T H ⟨k, hmm, t0, t1, t5, hk, hl, hc⟩ Q3 p13 p23 p33
 unfold b87_0
 refine W_seq_seq ?_
 refine W_seq_regc (fun T H => T 0 = (V.sl (List.map cT (a))) ∧ T 1 = (V.sl (List.map cT (b))) ∧ T 5 = (iV ((k : Nat) : Int)) ∧ T 14 = (V.bool (decide (((k : Nat) : Int) < ((a.length : Nat) : Int)))) ∧ True) ?_ ?_
 ·
  unfold r87_4
  refine R_mv t5 ?_
  refine R_mv t0 ?_
  refine R_len (@rfl V (V.sl (List.map cT (a)))) ?_
  refine R_lss (x := ((k : Nat) : Int)) (y := ((a.length : Nat) : Int)) (@rfl V (iV ((k : Nat) : Int))) (@rfl V (iV ((a.length : Nat) : Int))) ?_
  exact R_nil ⟨t0, t1, t5, rfl, trivial⟩
 intro T H ⟨t0, t1, t5, t14, _⟩
 refine W_seq_if (p := ((k : Nat) : Int) < ((a.length : Nat) : Int)) t14 (fun c4 => ?_) (fun c4 => ?_)
 ·
  refine W_seq_skip ?_
  refine W_seq_blockg fun Q5 n5 x5 y5 z5 => ?_
  refine W_seq_regc (fun T H => T 0 = (V.sl (List.map cT (a))) ∧ T 1 = (V.sl (List.map cT (b))) ∧ T 5 = (iV ((k : Nat) : Int)) ∧ T 42 = (V.bool (decide ((¬(((nth (a) (k)).ni) = ((nth (b) (k)).ni))) ∨ (¬(((nth (a) (k)).no) = ((nth (b) (k)).no)))))) ∧ True) ?_ ?_
  ·
   unfold r87_6
   refine R_mv t0 ?_
   refine R_mv t5 ?_
   refine R_idx (i := k) (@rfl V (V.sl (List.map cT (a)))) (@rfl V (iV ((k : Nat) : Int))) (by omega) rfl ?_
   refine R_fld_pp (cs' := [(V.sl (List.map cI ((nth (a) (k)).ni))), (V.sl (List.map cI ((nth (a) (k)).no)))]) (@rfl V (V.pp [(V.sl (List.map cI ((nth (a) (k)).ni))), (V.sl (List.map cI ((nth (a) (k)).no)))])) rfl ?_
   refine R_load_pp (v := (V.sl (List.map cI ((nth (a) (k)).ni)))) (@rfl V (V.pp [(V.sl (List.map cI ((nth (a) (k)).ni))), (V.sl (List.map cI ((nth (a) (k)).no)))])) (by first | rfl | simp [ldV]) ?_
   refine R_mv t1 ?_
   refine R_mv t5 ?_
   refine R_idx (i := k) (@rfl V (V.sl (List.map cT (b)))) (@rfl V (iV ((k : Nat) : Int))) (by omega) rfl ?_
   refine R_fld_pp (cs' := [(V.sl (List.map cI ((nth (b) (k)).ni))), (V.sl (List.map cI ((nth (b) (k)).no)))]) (@rfl V (V.pp [(V.sl (List.map cI ((nth (b) (k)).ni))), (V.sl (List.map cI ((nth (b) (k)).no)))])) rfl ?_
   refine R_load_pp (v := (V.sl (List.map cI ((nth (b) (k)).ni)))) (@rfl V (V.pp [(V.sl (List.map cI ((nth (b) (k)).ni))), (V.sl (List.map cI ((nth (b) (k)).no)))])) (by first | rfl | simp [ldV]) ?_
   refine R_call (evcons (@rfl V (V.sl (List.map cI ((nth (a) (k)).ni)))) (evcons (@rfl V (V.sl (List.map cI ((nth (b) (k)).ni)))) evnil)) (ints_pure ((nth (a) (k)).ni) ((nth (b) (k)).ni)) (fzv_mapcanon _ _ (by simp [-List.map_take, -List.map_drop, -List.map_append, -List.map_reverse])) (by simp [-List.map_take, -List.map_drop, -List.map_append, -List.map_reverse]) (Or.inl (by simp [-List.map_take, -List.map_drop, -List.map_append, -List.map_reverse])) ?_
   refine R_not (p := ((nth (a) (k)).ni) = ((nth (b) (k)).ni)) (@rfl V (V.bool (decide (((nth (a) (k)).ni) = ((nth (b) (k)).ni))))) ?_
   refine R_mv (@rfl V (V.bool (decide (¬(((nth (a) (k)).ni) = ((nth (b) (k)).ni)))))) ?_
   refine Ops_seg 13 (fun T H => T 0 = (V.sl (List.map cT (a))) ∧ T 1 = (V.sl (List.map cT (b))) ∧ T 5 = (iV ((k : Nat) : Int)) ∧ T 42 = (V.bool (decide ((¬(((nth (a) (k)).ni) = ((nth (b) (k)).ni))) ∨ (¬(((nth (a) (k)).no) = ((nth (b) (k)).no)))))) ∧ True) ?_ ?_
   ·
    by_cases g6 : ¬(((nth (a) (k)).ni) = ((nth (b) (k)).ni))
    ·
     refine G_no (Eq.trans (@rfl V (V.bool (decide (¬(((nth (a) (k)).ni) = ((nth (b) (k)).ni)))))) (bdT g6)) (by decide) ?_
     refine G_no (Eq.trans (@rfl V (V.bool (decide (¬(((nth (a) (k)).ni) = ((nth (b) (k)).ni)))))) (bdT g6)) (by decide) ?_
     refine G_no (Eq.trans (@rfl V (V.bool (decide (¬(((nth (a) (k)).ni) = ((nth (b) (k)).ni)))))) (bdT g6)) (by decide) ?_
     refine G_no (Eq.trans (@rfl V (V.bool (decide (¬(((nth (a) (k)).ni) = ((nth (b) (k)).ni)))))) (bdT g6)) (by decide) ?_
     refine G_no (Eq.trans (@rfl V (V.bool (decide (¬(((nth (a) (k)).ni) = ((nth (b) (k)).ni)))))) (bdT g6)) (by decide) ?_
     refine G_no (Eq.trans (@rfl V (V.bool (decide (¬(((nth (a) (k)).ni) = ((nth (b) (k)).ni)))))) (bdT g6)) (by decide) ?_
     refine G_no (Eq.trans (@rfl V (V.bool (decide (¬(((nth (a) (k)).ni) = ((nth (b) (k)).ni)))))) (bdT g6)) (by decide) ?_
     refine G_no (Eq.trans (@rfl V (V.bool (decide (¬(((nth (a) (k)).ni) = ((nth (b) (k)).ni)))))) (bdT g6)) (by decide) ?_
     refine G_no (Eq.trans (@rfl V (V.bool (decide (¬(((nth (a) (k)).ni) = ((nth (b) (k)).ni)))))) (bdT g6)) (by decide) ?_
     refine G_no (Eq.trans (@rfl V (V.bool (decide (¬(((nth (a) (k)).ni) = ((nth (b) (k)).ni)))))) (bdT g6)) (by decide) ?_
     refine G_no (Eq.trans (@rfl V (V.bool (decide (¬(((nth (a) (k)).ni) = ((nth (b) (k)).ni)))))) (bdT g6)) (by decide) ?_
     refine G_no (Eq.trans (@rfl V (V.bool (decide (¬(((nth (a) (k)).ni) = ((nth (b) (k)).ni)))))) (bdT g6)) (by decide) ?_
     refine R_pickT (Eq.trans (@rfl V (V.bool (decide (¬(((nth (a) (k)).ni) = ((nth (b) (k)).ni)))))) (bdT g6)) (@rfl V (V.bool true)) ?_
     exact ⟨t0, t1, t5, (Eq.trans (@rfl V (V.bool true)) (dec_orT g6)), trivial⟩
    ·
     refine G_yes (Eq.trans (@rfl V (V.bool (decide (¬(((nth (a) (k)).ni) = ((nth (b) (k)).ni)))))) (bdF g6)) ?_
     refine R_mv t0 ?_
     refine G_yes (Eq.trans (@rfl V (V.bool (decide (¬(((nth (a) (k)).ni) = ((nth (b) (k)).ni)))))) (bdF g6)) ?_
     refine R_mv t5 ?_
     refine G_yes (Eq.trans (@rfl V (V.bool (decide (¬(((nth (a) (k)).ni) = ((nth (b) (k)).ni)))))) (bdF g6)) ?_
     refine R_idx (i := k) (@rfl V (V.sl (List.map cT (a)))) (@rfl V (iV ((k : Nat) : Int))) (by omega) rfl ?_
     refine G_yes (Eq.trans (@rfl V (V.bool (decide (¬(((nth (a) (k)).ni) = ((nth (b) (k)).ni)))))) (bdF g6)) ?_
     refine R_fld_pp (cs' := [(V.sl (List.map cI ((nth (a) (k)).no)))]) (@rfl V (V.pp [(V.sl (List.map cI ((nth (a) (k)).ni))), (V.sl (List.map cI ((nth (a) (k)).no)))])) rfl ?_
     refine G_yes (Eq.trans (@rfl V (V.bool (decide (¬(((nth (a) (k)).ni) = ((nth (b) (k)).ni)))))) (bdF g6)) ?_
     refine R_load_pp (v := (V.sl (List.map cI ((nth (a) (k)).no)))) (@rfl V (V.pp [(V.sl (List.map cI ((nth (a) (k)).no)))])) (by first | rfl | simp [ldV]) ?_
     refine G_yes (Eq.trans (@rfl V (V.bool (decide (¬(((nth (a) (k)).ni) = ((nth (b) (k)).ni)))))) (bdF g6)) ?_
     refine R_mv t1 ?_
     refine G_yes (Eq.trans (@rfl V (V.bool (decide (¬(((nth (a) (k)).ni) = ((nth (b) (k)).ni)))))) (bdF g6)) ?_
     refine R_mv t5 ?_
     refine G_yes (Eq.trans (@rfl V (V.bool (decide (¬(((nth (a) (k)).ni) = ((nth (b) (k)).ni)))))) (bdF g6)) ?_
     refine R_idx (i := k) (@rfl V (V.sl (List.map cT (b)))) (@rfl V (iV ((k : Nat) : Int))) (by omega) rfl ?_
     refine G_yes (Eq.trans (@rfl V (V.bool (decide (¬(((nth (a) (k)).ni) = ((nth (b) (k)).ni)))))) (bdF g6)) ?_
     refine R_fld_pp (cs' := [(V.sl (List.map cI ((nth (b) (k)).no)))]) (@rfl V (V.pp [(V.sl (List.map cI ((nth (b) (k)).ni))), (V.sl (List.map cI ((nth (b) (k)).no)))])) rfl ?_
     refine G_yes (Eq.trans (@rfl V (V.bool (decide (¬(((nth (a) (k)).ni) = ((nth (b) (k)).ni)))))) (bdF g6)) ?_
     refine R_load_pp (v := (V.sl (List.map cI ((nth (b) (k)).no)))) (@rfl V (V.pp [(V.sl (List.map cI ((nth (b) (k)).no)))])) (by first | rfl | simp [ldV]) ?_
     refine G_yes (Eq.trans (@rfl V (V.bool (decide (¬(((nth (a) (k)).ni) = ((nth (b) (k)).ni)))))) (bdF g6)) ?_
     refine R_call (evcons (@rfl V (V.sl (List.map cI ((nth (a) (k)).no)))) (evcons (@rfl V (V.sl (List.map cI ((nth (b) (k)).no)))) evnil)) (ints_pure ((nth (a) (k)).no) ((nth (b) (k)).no)) (fzv_mapcanon _ _ (by simp [-List.map_take, -List.map_drop, -List.map_append, -List.map_reverse])) (by simp [-List.map_take, -List.map_drop, -List.map_append, -List.map_reverse]) (Or.inl (by simp [-List.map_take, -List.map_drop, -List.map_append, -List.map_reverse])) ?_
     refine G_yes (Eq.trans (@rfl V (V.bool (decide (¬(((nth (a) (k)).ni) = ((nth (b) (k)).ni)))))) (bdF g6)) ?_
     refine R_not (p := ((nth (a) (k)).no) = ((nth (b) (k)).no)) (@rfl V (V.bool (decide (((nth (a) (k)).no) = ((nth (b) (k)).no))))) ?_
     refine R_pickF (Eq.trans (@rfl V (V.bool (decide (¬(((nth (a) (k)).ni) = ((nth (b) (k)).ni)))))) (bdF g6)) (@rfl V (V.bool (decide (¬(((nth (a) (k)).no) = ((nth (b) (k)).no)))))) ?_
     exact ⟨t0, t1, t5, (Eq.trans (@rfl V (V.bool (decide (¬(((nth (a) (k)).no) = ((nth (b) (k)).no)))))) (dec_orF g6)), trivial⟩
   intro T H ⟨t0, t1, t5, t42, _⟩
   exact R_nil ⟨t0, t1, t5, t42, trivial⟩
  intro T H ⟨t0, t1, t5, t42, _⟩
  refine W_if (p := (¬(((nth (a) (k)).ni) = ((nth (b) (k)).ni))) ∨ (¬(((nth (a) (k)).no) = ((nth (b) (k)).no)))) t42 (fun c7 => ?_) (fun c7 => ?_)
  ·
   have d1 : nth a k ≠ nth b k := fun e => by rw [e] at c7; simp at c7
   refine W_seq_regc (fun T H => T 4 = (V.bool false) ∧ True) ?_ ?_
   ·
    unfold r87_7
    refine R_mv (@rfl V (V.bool false)) ?_
    exact R_nil ⟨rfl, trivial⟩
   intro T H ⟨t4, _⟩
   refine W_ret ?_
   refine y5 _ _ ?_
   refine p23 _ _ ?_
   refine y2 _ _ ?_
   refine Ret_1 t4 (fz_bool ?_)
   · exact (decide_eq_false (fun e => d1 (by subst e; rfl))).symm
  have d1 : nth a k = nth b k := Tr.eq_iff.2 (by simpa using c7)
  refine W_skip ?_
  refine n5 _ _ ?_
  refine .done ?_
  refine W_regc (fun T H => T 0 = (V.sl (List.map cT (a))) ∧ T 1 = (V.sl (List.map cT (b))) ∧ T 5 = (iV ((k + 1 : Nat) : Int)) ∧ True) ?_ ?_
  ·
   unfold r87_5
   refine R_mv t5 ?_
   refine R_addN (m := k) (n := 1) (@rfl V (iV ((k : Nat) : Int))) (@rfl V (iV ((1 : Nat) : Int))) (by omega) ?_
   refine R_mv (@rfl V (iV ((k + 1 : Nat) : Int))) ?_
   exact R_nil ⟨t0, t1, rfl, trivial⟩
  intro T H ⟨t0, t1, t5, _⟩
  refine p13 _ _ _ ?_ ⟨(k + 1), rfl, t0, t1, (Eq.trans t5 (by first | rfl | simp)), ?_, ?_, ?_⟩
  · omega
  · omega
  · omega
  · intro j hj
    by_cases e : j = k
    · subst e; exact d1
    · exact hc j (by omega)
 refine W_seq_exit ?_
 refine p33 _ _ _ ?_
 refine x2 _ _ ?_
 refine .done ?_
 refine W_seq_regc (fun T H => T 4 = (V.bool true) ∧ True) ?_ ?_
 ·
  unfold r87_8
  refine R_mv (@rfl V (V.bool true)) ?_
  exact R_nil ⟨rfl, trivial⟩
 intro T H ⟨t4, _⟩
 refine W_ret ?_
 refine Ret_1 t4 (fz_bool ?_)
 · exact (decide_eq_true (nth_ext hl fun j hj => hc j (by omega))).symm

end Go.Proofs.Ytngkckefanbhgaa

namespace Go.Proofs.Ytngkckefanbhgaa
open Go Go.Proofs

theorem rsame_pure (a b : Ob) : PureC Try.prog 47 [(V.agg [(iV (a.i)), (V.sl (List.map cT (a.tr)))]), (V.agg [(iV (b.i)), (V.sl (List.map cT (b.tr)))])] (V.bool (decide (a = b))) := by
 refine pure_of_Wb true 6 Try.func47 s47_ok (by kernel_rfl) (by simp [s47]) (by simp) (by simp) fun hB => ?_
 simp only [bnd_map, bnd_int, bnd_bool, bnd_str, bnd_agg, bnd_pp, bnd_nil, bnd_cons, implies_true, and_true, true_and] at hB
 unfold s47
 dsimp only
 refine W_seq_regc (fun T H => T 2 = (V.mp 2 1 0 0) ∧ T 3 = (V.mp 3 1 0 0) ∧ H 2 = (⟨1, true, false, 34, 2, [[(iV (a.i)), (V.sl (List.map cT (a.tr)))]]⟩ : Blk) ∧ H 3 = (⟨1, true, false, 34, 2, [[(iV (b.i)), (V.sl (List.map cT (b.tr)))]]⟩ : Blk) ∧ True) ?_ ?_
 ·
  unfold r47_0
  refine R_box (i := 2) (n := 0) (m := 2) (cs := [(iV (a.i)), (V.sl (List.map cT (a.tr)))]) rfl (congrArg Blk.ver rfl) (@rfl V (V.agg [(iV (a.i)), (V.sl (List.map cT (a.tr)))])) rfl rfl ?_
  refine R_box (i := 3) (n := 0) (m := 2) (cs := [(iV (b.i)), (V.sl (List.map cT (b.tr)))]) rfl (congrArg Blk.ver rfl) (@rfl V (V.agg [(iV (b.i)), (V.sl (List.map cT (b.tr)))])) rfl rfl ?_
  refine R_mv (@rfl V (V.bool false)) ?_
  exact R_nil ⟨rfl, rfl, rfl, rfl, trivial⟩
 intro T H ⟨t2, t3, h2, h3, _⟩
 refine W_seq_regc (fun T H => T 4 = (V.bool (decide (((a.i) = (b.i)) ∧ (a.tr = b.tr)))) ∧ H 2 = (⟨1, true, false, 34, 2, [[(iV (a.i)), (V.sl (List.map cT (a.tr)))]]⟩ : Blk) ∧ H 3 = (⟨1, true, false, 34, 2, [[(iV (b.i)), (V.sl (List.map cT (b.tr)))]]⟩ : Blk) ∧ True) ?_ ?_
 ·
  unfold r47_1
  refine R_fld_mp (o' := 0) t2 h2 (by first | rfl | simp [okB, Blk.own]) rfl ?_
  refine R_load_mp (v := (iV (a.i))) (@rfl V (V.mp 2 1 0 0)) h2 (by first | rfl | simp [ldB, ldV, Blk.own, V.one]) ?_
  refine R_fld_mp (o' := 0) t3 h3 (by first | rfl | simp [okB, Blk.own]) rfl ?_
  refine R_load_mp (v := (iV (b.i))) (@rfl V (V.mp 3 1 0 0)) h3 (by first | rfl | simp [ldB, ldV, Blk.own, V.one]) ?_
  refine R_eql (x := (a.i)) (y := (b.i)) (@rfl V (iV (a.i))) (@rfl V (iV (b.i))) ?_
  refine R_mv (@rfl V (V.bool (decide ((a.i) = (b.i))))) ?_
  refine Ops_seg 6 (fun T H => T 16 = (V.bool (decide (((a.i) = (b.i)) ∧ (a.tr = b.tr)))) ∧ H 2 = (⟨1, true, false, 34, 2, [[(iV (a.i)), (V.sl (List.map cT (a.tr)))]]⟩ : Blk) ∧ H 3 = (⟨1, true, false, 34, 2, [[(iV (b.i)), (V.sl (List.map cT (b.tr)))]]⟩ : Blk) ∧ True) ?_ ?_
  ·
   by_cases g1 : (a.i) = (b.i)
   ·
    refine G_yes (Eq.trans (@rfl V (V.bool (decide ((a.i) = (b.i))))) (bdT g1)) ?_
    refine R_fld_mp (o' := 1) t2 h2 (by first | rfl | simp [okB, Blk.own]) rfl ?_
    refine G_yes (Eq.trans (@rfl V (V.bool (decide ((a.i) = (b.i))))) (bdT g1)) ?_
    refine R_load_mp (v := (V.sl (List.map cT (a.tr)))) (@rfl V (V.mp 2 1 0 1)) h2 (by first | rfl | simp [ldB, ldV, Blk.own, V.one]) ?_
    refine G_yes (Eq.trans (@rfl V (V.bool (decide ((a.i) = (b.i))))) (bdT g1)) ?_
    refine R_fld_mp (o' := 1) t3 h3 (by first | rfl | simp [okB, Blk.own]) rfl ?_
    refine G_yes (Eq.trans (@rfl V (V.bool (decide ((a.i) = (b.i))))) (bdT g1)) ?_
    refine R_load_mp (v := (V.sl (List.map cT (b.tr)))) (@rfl V (V.mp 3 1 0 1)) h3 (by first | rfl | simp [ldB, ldV, Blk.own, V.one]) ?_
    refine G_yes (Eq.trans (@rfl V (V.bool (decide ((a.i) = (b.i))))) (bdT g1)) ?_
    refine R_call (evcons (@rfl V (V.sl (List.map cT (a.tr)))) (evcons (@rfl V (V.sl (List.map cT (b.tr)))) evnil)) (rst_pure a.tr b.tr) (fzv_mapcanon _ _ (by simp [-List.map_take, -List.map_drop, -List.map_append, -List.map_reverse])) (by simp [-List.map_take, -List.map_drop, -List.map_append, -List.map_reverse]) (Or.inl (by simp [-List.map_take, -List.map_drop, -List.map_append, -List.map_reverse])) ?_
    refine R_pickT (Eq.trans (@rfl V (V.bool (decide ((a.i) = (b.i))))) (bdT g1)) (@rfl V (V.bool (decide (a.tr = b.tr)))) ?_
    exact ⟨(Eq.trans (@rfl V (V.bool (decide (a.tr = b.tr)))) (dec_andT g1)), h2, h3, trivial⟩
   ·
    refine G_no (Eq.trans (@rfl V (V.bool (decide ((a.i) = (b.i))))) (bdF g1)) (by decide) ?_
    refine G_no (Eq.trans (@rfl V (V.bool (decide ((a.i) = (b.i))))) (bdF g1)) (by decide) ?_
    refine G_no (Eq.trans (@rfl V (V.bool (decide ((a.i) = (b.i))))) (bdF g1)) (by decide) ?_
    refine G_no (Eq.trans (@rfl V (V.bool (decide ((a.i) = (b.i))))) (bdF g1)) (by decide) ?_
    refine G_no (Eq.trans (@rfl V (V.bool (decide ((a.i) = (b.i))))) (bdF g1)) (by decide) ?_
    refine R_pickF (Eq.trans (@rfl V (V.bool (decide ((a.i) = (b.i))))) (bdF g1)) (@rfl V (V.bool false)) ?_
    exact ⟨(Eq.trans (@rfl V (V.bool false)) (dec_andF g1)), h2, h3, trivial⟩
  intro T H ⟨t16, h2, h3, _⟩
  refine R_mv t16 ?_
  exact R_nil ⟨rfl, h2, h3, trivial⟩
 intro T H ⟨t4, h2, h3, _⟩
 refine W_ret ?_
 refine Ret_1 t4 (fz_bool ?_)
 · exact decide_eq_decide.2 Ob.eq_iff.symm

end Go.Proofs.Ytngkckefanbhgaa

namespace Go.Proofs.Ytngkckefanbhgaa
open Go Go.Proofs

theorem law9_pure (o : Ob) (t : Tr) : PureC Try.prog 9 [(V.agg [(iV (o.i)), (V.sl (List.map cT (o.tr)))]), (V.agg [(V.sl (List.map cI (t.ni))), (V.sl (List.map cI (t.no)))])] (V.bool true) := by
 refine pure_of_Wb true 6 Try.func9 s9_ok (by kernel_rfl) (by simp [s9]) (by simp) (by simp) fun hB => ?_
 simp only [bnd_map, bnd_int, bnd_bool, bnd_str, bnd_agg, bnd_pp, bnd_nil, bnd_cons, implies_true, and_true, true_and] at hB
 unfold s9
 dsimp only
 refine W_seq_regc (fun T H => T 2 = (V.mp 2 1 0 0) ∧ T 3 = (V.mp 3 1 0 0) ∧ H 2 = (⟨1, true, false, 34, 2, [[(iV (o.i)), (V.sl (List.map cT (o.tr)))]]⟩ : Blk) ∧ H 3 = (⟨1, true, false, 63, 2, [[(V.sl (List.map cI (t.ni))), (V.sl (List.map cI (t.no)))]]⟩ : Blk) ∧ H 5 = (⟨0, false, false, 0, 0, []⟩ : Blk) ∧ H 7 = (⟨0, false, false, 0, 0, []⟩ : Blk) ∧ True) ?_ ?_
 ·
  unfold r9_0
  refine R_box (i := 2) (n := 0) (m := 2) (cs := [(iV (o.i)), (V.sl (List.map cT (o.tr)))]) rfl (congrArg Blk.ver rfl) (@rfl V (V.agg [(iV (o.i)), (V.sl (List.map cT (o.tr)))])) rfl rfl ?_
  refine R_box (i := 3) (n := 0) (m := 2) (cs := [(V.sl (List.map cI (t.ni))), (V.sl (List.map cI (t.no)))]) rfl (congrArg Blk.ver rfl) (@rfl V (V.agg [(V.sl (List.map cI (t.ni))), (V.sl (List.map cI (t.no)))])) rfl rfl ?_
  refine R_mv (@rfl V (V.bool false)) ?_
  exact R_nil ⟨rfl, rfl, rfl, rfl, rfl, rfl, trivial⟩
 intro T H ⟨t2, t3, h2, h3, h5, h7, _⟩
 refine W_seq_seq ?_
 refine W_seq_regc (fun T H => T 2 = (V.mp 2 1 0 0) ∧ T 3 = (V.mp 3 1 0 0) ∧ T 19 = (V.bool (decide (((ogr o) ∨ ((1100 : Int) < (t.ni.length : Nat) ∨ (1100 : Int) < (t.no.length : Nat))) ∨ ((oval o) ≠ (0 : Int))))) ∧ H 2 = (⟨1, true, false, 34, 2, [[(iV (o.i)), (V.sl (List.map cT (o.tr)))]]⟩ : Blk) ∧ H 3 = (⟨1, true, false, 63, 2, [[(V.sl (List.map cI (t.ni))), (V.sl (List.map cI (t.no)))]]⟩ : Blk) ∧ H 5 = (⟨0, false, false, 0, 0, []⟩ : Blk) ∧ H 7 = (⟨0, false, false, 0, 0, []⟩ : Blk) ∧ True) ?_ ?_
 ·
  unfold r9_1
  refine R_load_mp (v := (V.agg [(iV (o.i)), (V.sl (List.map cT (o.tr)))])) t2 h2 (by first | rfl | simp [ldB, ldV, Blk.own, V.one]) ?_
  refine R_call (evcons (@rfl V (V.agg [(iV (o.i)), (V.sl (List.map cT (o.tr)))])) evnil) (great16_pure o) (fzv_mapcanon _ _ (by simp [-List.map_take, -List.map_drop, -List.map_append, -List.map_reverse])) (by simp [-List.map_take, -List.map_drop, -List.map_append, -List.map_reverse]) (Or.inl (by simp [-List.map_take, -List.map_drop, -List.map_append, -List.map_reverse])) ?_
  refine R_mv (@rfl V (V.bool (decide (ogr o)))) ?_
  refine Ops_seg 3 (fun T H => T 2 = (V.mp 2 1 0 0) ∧ T 3 = (V.mp 3 1 0 0) ∧ T 14 = (V.bool (decide ((ogr o) ∨ ((1100 : Int) < (t.ni.length : Nat) ∨ (1100 : Int) < (t.no.length : Nat))))) ∧ H 2 = (⟨1, true, false, 34, 2, [[(iV (o.i)), (V.sl (List.map cT (o.tr)))]]⟩ : Blk) ∧ H 3 = (⟨1, true, false, 63, 2, [[(V.sl (List.map cI (t.ni))), (V.sl (List.map cI (t.no)))]]⟩ : Blk) ∧ H 5 = (⟨0, false, false, 0, 0, []⟩ : Blk) ∧ H 7 = (⟨0, false, false, 0, 0, []⟩ : Blk) ∧ True) ?_ ?_
  ·
   by_cases g1 : ogr o
   ·
    refine G_no (Eq.trans (@rfl V (V.bool (decide (ogr o)))) (bdT g1)) (by decide) ?_
    refine G_no (Eq.trans (@rfl V (V.bool (decide (ogr o)))) (bdT g1)) (by decide) ?_
    refine R_pickT (Eq.trans (@rfl V (V.bool (decide (ogr o)))) (bdT g1)) (@rfl V (V.bool true)) ?_
    exact ⟨t2, t3, (Eq.trans (@rfl V (V.bool true)) (dec_orT g1)), h2, h3, h5, h7, trivial⟩
   ·
    refine G_yes (Eq.trans (@rfl V (V.bool (decide (ogr o)))) (bdF g1)) ?_
    refine R_load_mp (v := (V.agg [(V.sl (List.map cI (t.ni))), (V.sl (List.map cI (t.no)))])) t3 h3 (by first | rfl | simp [ldB, ldV, Blk.own, V.one]) ?_
    refine G_yes (Eq.trans (@rfl V (V.bool (decide (ogr o)))) (bdF g1)) ?_
    refine R_call (evcons (@rfl V (V.agg [(V.sl (List.map cI (t.ni))), (V.sl (List.map cI (t.no)))])) evnil) (long16_pure t) (fzv_mapcanon _ _ (by simp [-List.map_take, -List.map_drop, -List.map_append, -List.map_reverse])) (by simp [-List.map_take, -List.map_drop, -List.map_append, -List.map_reverse]) (Or.inl (by simp [-List.map_take, -List.map_drop, -List.map_append, -List.map_reverse])) ?_
    refine R_pickF (Eq.trans (@rfl V (V.bool (decide (ogr o)))) (bdF g1)) (@rfl V (V.bool (decide ((1100 : Int) < (t.ni.length : Nat) ∨ (1100 : Int) < (t.no.length : Nat))))) ?_
    exact ⟨t2, t3, (Eq.trans (@rfl V (V.bool (decide ((1100 : Int) < (t.ni.length : Nat) ∨ (1100 : Int) < (t.no.length : Nat))))) (dec_orF g1)), h2, h3, h5, h7, trivial⟩
  intro T H ⟨t2, t3, t14, h2, h3, h5, h7, _⟩
  refine R_mv t14 ?_
  refine Ops_seg 4 (fun T H => T 2 = (V.mp 2 1 0 0) ∧ T 3 = (V.mp 3 1 0 0) ∧ T 19 = (V.bool (decide (((ogr o) ∨ ((1100 : Int) < (t.ni.length : Nat) ∨ (1100 : Int) < (t.no.length : Nat))) ∨ ((oval o) ≠ (0 : Int))))) ∧ H 2 = (⟨1, true, false, 34, 2, [[(iV (o.i)), (V.sl (List.map cT (o.tr)))]]⟩ : Blk) ∧ H 3 = (⟨1, true, false, 63, 2, [[(V.sl (List.map cI (t.ni))), (V.sl (List.map cI (t.no)))]]⟩ : Blk) ∧ H 5 = (⟨0, false, false, 0, 0, []⟩ : Blk) ∧ H 7 = (⟨0, false, false, 0, 0, []⟩ : Blk) ∧ True) ?_ ?_
  ·
   by_cases g2 : (ogr o) ∨ ((1100 : Int) < (t.ni.length : Nat) ∨ (1100 : Int) < (t.no.length : Nat))
   ·
    refine G_no (Eq.trans (@rfl V (V.bool (decide ((ogr o) ∨ ((1100 : Int) < (t.ni.length : Nat) ∨ (1100 : Int) < (t.no.length : Nat)))))) (bdT g2)) (by decide) ?_
    refine G_no (Eq.trans (@rfl V (V.bool (decide ((ogr o) ∨ ((1100 : Int) < (t.ni.length : Nat) ∨ (1100 : Int) < (t.no.length : Nat)))))) (bdT g2)) (by decide) ?_
    refine G_no (Eq.trans (@rfl V (V.bool (decide ((ogr o) ∨ ((1100 : Int) < (t.ni.length : Nat) ∨ (1100 : Int) < (t.no.length : Nat)))))) (bdT g2)) (by decide) ?_
    refine R_pickT (Eq.trans (@rfl V (V.bool (decide ((ogr o) ∨ ((1100 : Int) < (t.ni.length : Nat) ∨ (1100 : Int) < (t.no.length : Nat)))))) (bdT g2)) (@rfl V (V.bool true)) ?_
    exact ⟨t2, t3, (Eq.trans (@rfl V (V.bool true)) (dec_orT g2)), h2, h3, h5, h7, trivial⟩
   ·
    refine G_yes (Eq.trans (@rfl V (V.bool (decide ((ogr o) ∨ ((1100 : Int) < (t.ni.length : Nat) ∨ (1100 : Int) < (t.no.length : Nat)))))) (bdF g2)) ?_
    refine R_load_mp (v := (V.agg [(iV (o.i)), (V.sl (List.map cT (o.tr)))])) t2 h2 (by first | rfl | simp [ldB, ldV, Blk.own, V.one]) ?_
    refine G_yes (Eq.trans (@rfl V (V.bool (decide ((ogr o) ∨ ((1100 : Int) < (t.ni.length : Nat) ∨ (1100 : Int) < (t.no.length : Nat)))))) (bdF g2)) ?_
    refine R_call (evcons (@rfl V (V.agg [(iV (o.i)), (V.sl (List.map cT (o.tr)))])) evnil) (oval_pure o) (fzv_mapcanon _ _ (by simp [-List.map_take, -List.map_drop, -List.map_append, -List.map_reverse])) (by simp [-List.map_take, -List.map_drop, -List.map_append, -List.map_reverse]) (Or.inl (by simp [-List.map_take, -List.map_drop, -List.map_append, -List.map_reverse])) ?_
    refine G_yes (Eq.trans (@rfl V (V.bool (decide ((ogr o) ∨ ((1100 : Int) < (t.ni.length : Nat) ∨ (1100 : Int) < (t.no.length : Nat)))))) (bdF g2)) ?_
    refine R_neq (x := (oval o)) (y := (0 : Int)) (@rfl V (iV (oval o))) (@rfl V (iV (0 : Int))) ?_
    refine R_pickF (Eq.trans (@rfl V (V.bool (decide ((ogr o) ∨ ((1100 : Int) < (t.ni.length : Nat) ∨ (1100 : Int) < (t.no.length : Nat)))))) (bdF g2)) (@rfl V (V.bool (decide ((oval o) ≠ (0 : Int))))) ?_
    exact ⟨t2, t3, (Eq.trans (@rfl V (V.bool (decide ((oval o) ≠ (0 : Int))))) (dec_orF g2)), h2, h3, h5, h7, trivial⟩
  intro T H ⟨t2, t3, t19, h2, h3, h5, h7, _⟩
  exact R_nil ⟨t2, t3, t19, h2, h3, h5, h7, trivial⟩
 intro T H ⟨t2, t3, t19, h2, h3, h5, h7, _⟩
 refine W_seq_if (p := ((ogr o) ∨ ((1100 : Int) < (t.ni.length : Nat) ∨ (1100 : Int) < (t.no.length : Nat))) ∨ ((oval o) ≠ (0 : Int))) t19 (fun c3 => ?_) (fun c3 => ?_)
 ·
  refine W_seq_seq ?_
  refine W_seq_regc (fun T H => T 4 = (V.bool true) ∧ H 2 = (⟨1, true, false, 34, 2, [[(iV (o.i)), (V.sl (List.map cT (o.tr)))]]⟩ : Blk) ∧ H 3 = (⟨1, true, false, 63, 2, [[(V.sl (List.map cI (t.ni))), (V.sl (List.map cI (t.no)))]]⟩ : Blk) ∧ H 5 = (⟨0, false, false, 0, 0, []⟩ : Blk) ∧ H 7 = (⟨0, false, false, 0, 0, []⟩ : Blk) ∧ True) ?_ ?_
  ·
   unfold r9_2
   refine R_call evnil (aw_learnerlaw16_awake_pure) (fzv_mapcanon _ _ (by simp [-List.map_take, -List.map_drop, -List.map_append, -List.map_reverse])) (by simp [-List.map_take, -List.map_drop, -List.map_append, -List.map_reverse]) (Or.inl (by simp [-List.map_take, -List.map_drop, -List.map_append, -List.map_reverse])) ?_
   refine R_mv (@rfl V (V.bool true)) ?_
   exact R_nil ⟨rfl, h2, h3, h5, h7, trivial⟩
  intro T H ⟨t4, h2, h3, h5, h7, _⟩
  refine W_seq_ret ?_
  refine Ret_1 t4 (fz_canon (by simp) rfl)
 simp only [not_or, Decidable.not_not] at c3
 have ho := oval_ok (o := o) (by omega)
 refine W_seq_skip ?_
 refine W_seq_regc (fun T H => T 2 = (V.mp 2 1 0 0) ∧ T 3 = (V.mp 3 1 0 0) ∧ T 5 = (V.mp 5 1 0 0) ∧ T 6 = (iV ((alR o.i o.tr [t]).2)) ∧ H 2 = (⟨1, true, false, 34, 2, [[(iV (o.i)), (V.sl (List.map cT (o.tr)))]]⟩ : Blk) ∧ H 3 = (⟨1, true, false, 63, 2, [[(V.sl (List.map cI (t.ni))), (V.sl (List.map cI (t.no)))]]⟩ : Blk) ∧ H 5 = (⟨1, true, false, 34, 2, [[(iV ((alO o [t]).i)), (V.sl (List.map cT ((alO o [t]).tr)))]]⟩ : Blk) ∧ H 7 = (⟨0, false, false, 0, 0, []⟩ : Blk) ∧ True) ?_ ?_
 ·
  unfold r9_3
  refine R_load_mp (v := (V.agg [(iV (o.i)), (V.sl (List.map cT (o.tr)))])) t2 h2 (by first | rfl | simp [ldB, ldV, Blk.own, V.one]) ?_
  refine R_load_mp (v := (V.agg [(V.sl (List.map cI (t.ni))), (V.sl (List.map cI (t.no)))])) t3 h3 (by first | rfl | simp [ldB, ldV, Blk.own, V.one]) ?_
  refine R_call (evcons (@rfl V (V.agg [(iV (o.i)), (V.sl (List.map cT (o.tr)))])) (evcons (@rfl V (V.agg [(V.sl (List.map cI (t.ni))), (V.sl (List.map cI (t.no)))])) evnil)) (oadd_pure o t ho) (fzv_mapcanon _ _ (by simp [-List.map_take, -List.map_drop, -List.map_append, -List.map_reverse])) (by simp [-List.map_take, -List.map_drop, -List.map_append, -List.map_reverse]) (Or.inl (by simp [-List.map_take, -List.map_drop, -List.map_append, -List.map_reverse])) ?_
  refine R_mv (@rfl V (V.tup [(V.agg [(iV ((alO o [t]).i)), (V.sl (List.map cT ((alO o [t]).tr)))]), (iV ((alR o.i o.tr [t]).2))])) ?_
  refine R_ext (v := (V.agg [(iV ((alO o [t]).i)), (V.sl (List.map cT ((alO o [t]).tr)))])) (@rfl V (V.tup [(V.agg [(iV ((alO o [t]).i)), (V.sl (List.map cT ((alO o [t]).tr)))]), (iV ((alR o.i o.tr [t]).2))])) rfl ?_
  refine R_ext (v := (iV ((alR o.i o.tr [t]).2))) (@rfl V (V.tup [(V.agg [(iV ((alO o [t]).i)), (V.sl (List.map cT ((alO o [t]).tr)))]), (iV ((alR o.i o.tr [t]).2))])) rfl ?_
  refine R_alloc (i := 5) (n := 0) (m := 2) rfl (congrArg Blk.ver h5) rfl ?_
  refine R_store (vs := [(iV ((alO o [t]).i)), (V.sl (List.map cT ((alO o [t]).tr)))]) (B' := (⟨1, true, false, 34, 2, [[(iV ((alO o [t]).i)), (V.sl (List.map cT ((alO o [t]).tr)))]]⟩ : Blk)) (@rfl V (V.mp 5 1 0 0)) (@rfl V (V.agg [(iV ((alO o [t]).i)), (V.sl (List.map cT ((alO o [t]).tr)))])) rfl (@rfl Blk (⟨1, true, false, 34, 2, [[(iV (0 : Int)), V.nilsl]]⟩ : Blk)) (by first | rfl | simp [stB, okB, Blk.own, putAt, V.one]) ?_
  refine R_mv (@rfl V (iV ((alR o.i o.tr [t]).2))) ?_
  exact R_nil ⟨t2, t3, rfl, rfl, h2, h3, rfl, h7, trivial⟩
 intro T H ⟨t2, t3, t5, t6, h2, h3, h5, h7, _⟩
 refine W_seq_regc (fun T H => T 5 = (V.mp 5 1 0 0) ∧ T 6 = (iV ((alR o.i o.tr [t]).2)) ∧ T 7 = (V.mp 7 1 0 0) ∧ T 8 = (iV ((alR o.i o.tr [t]).2)) ∧ H 2 = (⟨1, true, false, 34, 2, [[(iV (o.i)), (V.sl (List.map cT (o.tr)))]]⟩ : Blk) ∧ H 3 = (⟨1, true, false, 63, 2, [[(V.sl (List.map cI (t.ni))), (V.sl (List.map cI (t.no)))]]⟩ : Blk) ∧ H 5 = (⟨1, true, false, 34, 2, [[(iV ((alO o [t]).i)), (V.sl (List.map cT ((alO o [t]).tr)))]]⟩ : Blk) ∧ H 7 = (⟨1, true, false, 34, 2, [[(iV ((alO o [t]).i)), (V.sl (List.map cT ((alO o [t]).tr)))]]⟩ : Blk) ∧ True) ?_ ?_
 ·
  unfold r9_4
  refine R_load_mp (v := (V.agg [(iV (o.i)), (V.sl (List.map cT (o.tr)))])) t2 h2 (by first | rfl | simp [ldB, ldV, Blk.own, V.one]) ?_
  refine R_load_mp (v := (V.agg [(V.sl (List.map cI (t.ni))), (V.sl (List.map cI (t.no)))])) t3 h3 (by first | rfl | simp [ldB, ldV, Blk.own, V.one]) ?_
  refine R_call (evcons (@rfl V (V.agg [(iV (o.i)), (V.sl (List.map cT (o.tr)))])) (evcons (@rfl V (V.agg [(V.sl (List.map cI (t.ni))), (V.sl (List.map cI (t.no)))])) evnil)) (rAdd_pure o t ho) (fzv_mapcanon _ _ (by simp [-List.map_take, -List.map_drop, -List.map_append, -List.map_reverse])) (by simp [-List.map_take, -List.map_drop, -List.map_append, -List.map_reverse]) (Or.inl (by simp [-List.map_take, -List.map_drop, -List.map_append, -List.map_reverse])) ?_
  refine R_mv (@rfl V (V.tup [(V.agg [(iV ((alO o [t]).i)), (V.sl (List.map cT ((alO o [t]).tr)))]), (iV ((alR o.i o.tr [t]).2))])) ?_
  refine R_ext (v := (V.agg [(iV ((alO o [t]).i)), (V.sl (List.map cT ((alO o [t]).tr)))])) (@rfl V (V.tup [(V.agg [(iV ((alO o [t]).i)), (V.sl (List.map cT ((alO o [t]).tr)))]), (iV ((alR o.i o.tr [t]).2))])) rfl ?_
  refine R_ext (v := (iV ((alR o.i o.tr [t]).2))) (@rfl V (V.tup [(V.agg [(iV ((alO o [t]).i)), (V.sl (List.map cT ((alO o [t]).tr)))]), (iV ((alR o.i o.tr [t]).2))])) rfl ?_
  refine R_alloc (i := 7) (n := 0) (m := 2) rfl (congrArg Blk.ver h7) rfl ?_
  refine R_store (vs := [(iV ((alO o [t]).i)), (V.sl (List.map cT ((alO o [t]).tr)))]) (B' := (⟨1, true, false, 34, 2, [[(iV ((alO o [t]).i)), (V.sl (List.map cT ((alO o [t]).tr)))]]⟩ : Blk)) (@rfl V (V.mp 7 1 0 0)) (@rfl V (V.agg [(iV ((alO o [t]).i)), (V.sl (List.map cT ((alO o [t]).tr)))])) rfl (@rfl Blk (⟨1, true, false, 34, 2, [[(iV (0 : Int)), V.nilsl]]⟩ : Blk)) (by first | rfl | simp [stB, okB, Blk.own, putAt, V.one]) ?_
  refine R_mv (@rfl V (iV ((alR o.i o.tr [t]).2))) ?_
  exact R_nil ⟨t5, t6, rfl, rfl, h2, h3, h5, rfl, trivial⟩
 intro T H ⟨t5, t6, t7, t8, h2, h3, h5, h7, _⟩
 refine W_seq_regc (fun T H => T 4 = (V.bool (decide ((((alO o [t])) = ((alO o [t]))) ∧ (((alR o.i o.tr [t]).2) = ((alR o.i o.tr [t]).2))))) ∧ H 2 = (⟨1, true, false, 34, 2, [[(iV (o.i)), (V.sl (List.map cT (o.tr)))]]⟩ : Blk) ∧ H 3 = (⟨1, true, false, 63, 2, [[(V.sl (List.map cI (t.ni))), (V.sl (List.map cI (t.no)))]]⟩ : Blk) ∧ H 5 = (⟨1, true, false, 34, 2, [[(iV ((alO o [t]).i)), (V.sl (List.map cT ((alO o [t]).tr)))]]⟩ : Blk) ∧ H 7 = (⟨1, true, false, 34, 2, [[(iV ((alO o [t]).i)), (V.sl (List.map cT ((alO o [t]).tr)))]]⟩ : Blk) ∧ True) ?_ ?_
 ·
  unfold r9_5
  refine R_load_mp (v := (V.agg [(iV ((alO o [t]).i)), (V.sl (List.map cT ((alO o [t]).tr)))])) t5 h5 (by first | rfl | simp [ldB, ldV, Blk.own, V.one]) ?_
  refine R_load_mp (v := (V.agg [(iV ((alO o [t]).i)), (V.sl (List.map cT ((alO o [t]).tr)))])) t7 h7 (by first | rfl | simp [ldB, ldV, Blk.own, V.one]) ?_
  refine R_call (evcons (@rfl V (V.agg [(iV ((alO o [t]).i)), (V.sl (List.map cT ((alO o [t]).tr)))])) (evcons (@rfl V (V.agg [(iV ((alO o [t]).i)), (V.sl (List.map cT ((alO o [t]).tr)))])) evnil)) (rsame_pure ((alO o [t])) ((alO o [t]))) (fzv_mapcanon _ _ (by simp [-List.map_take, -List.map_drop, -List.map_append, -List.map_reverse])) (by simp [-List.map_take, -List.map_drop, -List.map_append, -List.map_reverse]) (Or.inl (by simp [-List.map_take, -List.map_drop, -List.map_append, -List.map_reverse])) ?_
  refine R_mv (@rfl V (V.bool (decide (((alO o [t])) = ((alO o [t])))))) ?_
  refine Ops_seg 4 (fun T H => T 40 = (V.bool (decide ((((alO o [t])) = ((alO o [t]))) ∧ (((alR o.i o.tr [t]).2) = ((alR o.i o.tr [t]).2))))) ∧ H 2 = (⟨1, true, false, 34, 2, [[(iV (o.i)), (V.sl (List.map cT (o.tr)))]]⟩ : Blk) ∧ H 3 = (⟨1, true, false, 63, 2, [[(V.sl (List.map cI (t.ni))), (V.sl (List.map cI (t.no)))]]⟩ : Blk) ∧ H 5 = (⟨1, true, false, 34, 2, [[(iV ((alO o [t]).i)), (V.sl (List.map cT ((alO o [t]).tr)))]]⟩ : Blk) ∧ H 7 = (⟨1, true, false, 34, 2, [[(iV ((alO o [t]).i)), (V.sl (List.map cT ((alO o [t]).tr)))]]⟩ : Blk) ∧ True) ?_ ?_
  ·
   by_cases g4 : ((alO o [t])) = ((alO o [t]))
   ·
    refine G_yes (Eq.trans (@rfl V (V.bool (decide (((alO o [t])) = ((alO o [t])))))) (bdT g4)) ?_
    refine R_mv t6 ?_
    refine G_yes (Eq.trans (@rfl V (V.bool (decide (((alO o [t])) = ((alO o [t])))))) (bdT g4)) ?_
    refine R_mv t8 ?_
    refine G_yes (Eq.trans (@rfl V (V.bool (decide (((alO o [t])) = ((alO o [t])))))) (bdT g4)) ?_
    refine R_eql (x := ((alR o.i o.tr [t]).2)) (y := ((alR o.i o.tr [t]).2)) (@rfl V (iV ((alR o.i o.tr [t]).2))) (@rfl V (iV ((alR o.i o.tr [t]).2))) ?_
    refine R_pickT (Eq.trans (@rfl V (V.bool (decide (((alO o [t])) = ((alO o [t])))))) (bdT g4)) (@rfl V (V.bool (decide (((alR o.i o.tr [t]).2) = ((alR o.i o.tr [t]).2))))) ?_
    exact ⟨(Eq.trans (@rfl V (V.bool (decide (((alR o.i o.tr [t]).2) = ((alR o.i o.tr [t]).2))))) (dec_andT g4)), h2, h3, h5, h7, trivial⟩
   ·
    refine G_no (Eq.trans (@rfl V (V.bool (decide (((alO o [t])) = ((alO o [t])))))) (bdF g4)) (by decide) ?_
    refine G_no (Eq.trans (@rfl V (V.bool (decide (((alO o [t])) = ((alO o [t])))))) (bdF g4)) (by decide) ?_
    refine G_no (Eq.trans (@rfl V (V.bool (decide (((alO o [t])) = ((alO o [t])))))) (bdF g4)) (by decide) ?_
    refine R_pickF (Eq.trans (@rfl V (V.bool (decide (((alO o [t])) = ((alO o [t])))))) (bdF g4)) (@rfl V (V.bool false)) ?_
    exact ⟨(Eq.trans (@rfl V (V.bool false)) (dec_andF g4)), h2, h3, h5, h7, trivial⟩
  intro T H ⟨t40, h2, h3, h5, h7, _⟩
  refine R_mv t40 ?_
  refine Ops_seg 2 (fun T H => T 43 = (V.bool (decide ((((alO o [t])) = ((alO o [t]))) ∧ (((alR o.i o.tr [t]).2) = ((alR o.i o.tr [t]).2))))) ∧ H 2 = (⟨1, true, false, 34, 2, [[(iV (o.i)), (V.sl (List.map cT (o.tr)))]]⟩ : Blk) ∧ H 3 = (⟨1, true, false, 63, 2, [[(V.sl (List.map cI (t.ni))), (V.sl (List.map cI (t.no)))]]⟩ : Blk) ∧ H 5 = (⟨1, true, false, 34, 2, [[(iV ((alO o [t]).i)), (V.sl (List.map cT ((alO o [t]).tr)))]]⟩ : Blk) ∧ H 7 = (⟨1, true, false, 34, 2, [[(iV ((alO o [t]).i)), (V.sl (List.map cT ((alO o [t]).tr)))]]⟩ : Blk) ∧ True) ?_ ?_
  ·
   by_cases g5 : (((alO o [t])) = ((alO o [t]))) ∧ (((alR o.i o.tr [t]).2) = ((alR o.i o.tr [t]).2))
   ·
    refine G_yes (Eq.trans (@rfl V (V.bool (decide ((((alO o [t])) = ((alO o [t]))) ∧ (((alR o.i o.tr [t]).2) = ((alR o.i o.tr [t]).2)))))) (bdT g5)) ?_
    refine R_call evnil (aw_learnerlaw16_awake_pure) (fzv_mapcanon _ _ (by simp [-List.map_take, -List.map_drop, -List.map_append, -List.map_reverse])) (by simp [-List.map_take, -List.map_drop, -List.map_append, -List.map_reverse]) (Or.inl (by simp [-List.map_take, -List.map_drop, -List.map_append, -List.map_reverse])) ?_
    refine R_pickT (Eq.trans (@rfl V (V.bool (decide ((((alO o [t])) = ((alO o [t]))) ∧ (((alR o.i o.tr [t]).2) = ((alR o.i o.tr [t]).2)))))) (bdT g5)) (@rfl V (V.bool true)) ?_
    exact ⟨(Eq.trans (@rfl V (V.bool true)) (dec_T g5)), h2, h3, h5, h7, trivial⟩
   ·
    refine G_no (Eq.trans (@rfl V (V.bool (decide ((((alO o [t])) = ((alO o [t]))) ∧ (((alR o.i o.tr [t]).2) = ((alR o.i o.tr [t]).2)))))) (bdF g5)) (by decide) ?_
    refine R_pickF (Eq.trans (@rfl V (V.bool (decide ((((alO o [t])) = ((alO o [t]))) ∧ (((alR o.i o.tr [t]).2) = ((alR o.i o.tr [t]).2)))))) (bdF g5)) (@rfl V (V.bool false)) ?_
    exact ⟨(Eq.trans (@rfl V (V.bool false)) (dec_F g5)), h2, h3, h5, h7, trivial⟩
  intro T H ⟨t43, h2, h3, h5, h7, _⟩
  refine R_mv t43 ?_
  exact R_nil ⟨rfl, h2, h3, h5, h7, trivial⟩
 intro T H ⟨t4, h2, h3, h5, h7, _⟩
 refine W_ret ?_
 refine Ret_1 t4 (fz_bool ?_)
 · simp

end Go.Proofs.Ytngkckefanbhgaa

namespace Go.Proofs.Ytngkckefanbhgaa
open Go Go.Proofs Go.Proofs.Ytngkckefanbhgaa Go.ChangeShapes Go.WideShapes Go.ChangeAt Go.RowKit

structure UT (P : Program) : Prop where
  u3 : P.underlying 3 = some (.int .i64)
  u32 : P.underlying 32 = some (.slice 63)
  u35 : P.underlying 35 = some (.slice 3)
  u63 : ∃ f0 f1 : Field, P.underlying 63 = some (.struct #[f0, f1]) ∧ f0.type = 35 ∧ f1.type = 35
  u34 : ∃ f0 f1 : Field, P.underlying 34 = some (.struct #[f0, f1]) ∧ f0.type = 3 ∧ f1.type = 32
theorem sh3 {P : Program} (U : UT P) (n : Nat) (vs : List V) (h : Shp P (n + 1) 3 vs) : ∃ a : Int, vs = cI a := shp_int U.u3 h

theorem sh35 {P : Program} (U : UT P) (n : Nat) (vs : List V) (h : Shp P (n + 2) 35 vs) : ∃ a : List Int, vs = cL a := shp_slice (f := cI) U.u35 (fun vs h => sh3 U n vs h) h

theorem sh63 {P : Program} (U : UT P) (n : Nat) (vs : List V) (h : Shp P (n + 3) 63 vs) : ∃ a : Tr, vs = cT a := by
  obtain ⟨f0, f1, hu, k0, k1⟩ := U.u63
  have h0 := shp_step hu h
  obtain ⟨x0, u0, e0, h1⟩ := shpL_cons (c := cL) (fun vs h => sh35 U (n + 0) vs (by rw [k0] at h; exact h)) h0
  obtain ⟨x1, u1, e1, h2⟩ := shpL_cons (c := cL) (fun vs h => sh35 U (n + 0) vs (by rw [k1] at h; exact h)) h1
  have e2 := shpL_nil h2
  exact ⟨⟨x0, x1⟩, by rw [e0, e1, e2]; rfl⟩

theorem sh32 {P : Program} (U : UT P) (n : Nat) (vs : List V) (h : Shp P (n + 4) 32 vs) : ∃ a : List Tr, vs = (fun l => [V.sl (List.map cT l)]) a := shp_slice (f := cT) U.u32 (fun vs h => sh63 U n vs h) h

theorem sh34 {P : Program} (U : UT P) (n : Nat) (vs : List V) (h : Shp P (n + 5) 34 vs) : ∃ a : Ob, vs = oC a := by
  obtain ⟨f0, f1, hu, k0, k1⟩ := U.u34
  have h0 := shp_step hu h
  obtain ⟨x0, u0, e0, h1⟩ := shpL_cons (c := cI) (fun vs h => sh3 U (n + 3) vs (by rw [k0] at h; exact h)) h0
  obtain ⟨x1, u1, e1, h2⟩ := shpL_cons (c := (fun l => [V.sl (List.map cT l)])) (fun vs h => sh32 U (n + 0) vs (by rw [k1] at h; exact h)) h1
  have e2 := shpL_nil h2
  exact ⟨⟨x0, x1⟩, by rw [e0, e1, e2]; rfl⟩

theorem ut : UT Try.prog := ⟨by kernel_rfl, by kernel_rfl, by kernel_rfl, ⟨_, _, Try.underlying63, rfl, rfl⟩, ⟨_, _, Try.underlying34, rfl, rfl⟩⟩
theorem args9 {P : Program} (U : UT P) {us : List V} (h : ShpA P 6 [34, 63] us) : ∃ (d0 : Ob) (d1 : Tr), us = [V.agg (oC d0), V.agg (cT d1)] := by
  obtain ⟨a0, b0, e0, h0, h⟩ := shpA_cons h
  obtain ⟨d0, g0⟩ := sh34 U 1 a0 h0
  have q0 : packV P 34 a0 = V.agg (oC d0) := by obtain ⟨_, _, hu, _⟩ := U.u34; rw [g0]; exact pack_struct hu _
  obtain ⟨a1, b1, e1, h1, h⟩ := shpA_cons h
  obtain ⟨d1, g1⟩ := sh63 U 3 a1 h1
  have q1 : packV P 63 a1 = V.agg (cT d1) := by obtain ⟨_, _, hu, _⟩ := U.u63; rw [g1]; exact pack_struct hu _
  have e2 := shpA_nil h
  exact ⟨d0, d1, by rw [e0, q0, e1, q1, e2]⟩
theorem own9 : ownKnob Try.prog.godebug = none := by kernel_rfl

set_option maxRecDepth 100000 in
theorem lifted9 (os : Os) (started : os.Started) (H : Type) (enc : TypeId × Value → H) :
    ReturnsInHanded {} Try.checked os 9 .any (Rows.observeAddsSpec.pre6 enc Try.prog Try.f9 Rows.observeAddsRow.domain false) (Rows.observeAddsSpec.post enc Try.prog Try.f9 false true false false) := by
  refine returnsInHanded_of_change (C := Try.checked) own9 started (by kernel_rfl) Try.func9
    (ChangeSpec.witness6 (enc := enc) (C := Try.checked) false ⟨#[], #[.agg #[.int .i64 0, .slice none 0 0], .agg #[.slice none 0 0, .slice none 0 0]], []⟩ 8 (by kernel_rfl) (by kernel_rfl) (by kernel_rfl) (by kernel_rfl)) ?_
  intro W base args ds gs before hval0 hW hcnd _
  refine law_post (n := 6) (tb := 4) (by kernel_rfl) (by kernel_rfl) (by kernel_rfl) (fun t ht => ?_) rfl ?_ (fun us hu => ?_) hval0 hW
  · have h : t ∈ [34, 63] := ht
    simp only [List.mem_cons, List.not_mem_nil, or_false] at h
    rcases h with rfl | rfl
    · exact ⟨by kernel_rfl, by kernel_rfl, of_decide_eq_true (by kernel_rfl)⟩
    · exact ⟨by kernel_rfl, by kernel_rfl, of_decide_eq_true (by kernel_rfl)⟩
  · obtain ⟨p, q, hA, hV, rfl, hfz, hnd⟩ := hW
    obtain ⟨rfl, rfl⟩ := trodVars_none hV
    change DataW.TrodAll enc Try.prog W 0 (fun _ => true) true [34, 63] args.toList ds p at hA
    obtain ⟨v0, vs0, y0, ds0, pa0, pb0, hv0, rfl, rfl, _, hA⟩ := trodAll_cons hA
    obtain ⟨v1, vs1, y1, ds1, pa1, pb1, hv1, rfl, rfl, _, hA⟩ := trodAll_cons hA
    obtain ⟨_, rfl, rfl⟩ := trodAll_nil hA
    rfl
  · obtain ⟨d0, d1, rfl⟩ := args9 ut hu
    exact law9_pure d0 d1

theorem proved9 : Rows.ObserveAddsSaid :=
  OpenClaim.holds_of_wide 9 Try.f9 rfl rfl rfl rfl rfl rfl rfl ⟨rfl, rfl, rfl, rfl, rfl⟩ rfl rfl rfl rfl rfl (by kernel_rfl) Try.func9 (by kernel_rfl)
    (of_decide_eq_true (by kernel_rfl)) (by unfold Func.isWrapper; first | (rw [if_pos (by decide +kernel)]; kernel_rfl) | (rw [if_neg (by decide +kernel)]; exact ⟨rfl, rfl⟩))
    (fun os started H enc _ => lifted9 os started H enc)
end Go.Proofs.Ytngkckefanbhgaa

