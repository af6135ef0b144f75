/- Contracts of the functions that the law OM reaches, and the law itself, for every input; no condition. -/
import Derived.KernelRfl
import Derived.Test.YtngkckefanbhgaaRows
import Derived.Test.YtngkckefanbhgaaOM3
set_option linter.unusedSimpArgs false
set_option linter.unusedVariables false
namespace Go.Proofs.Ytngkckefanbhgaa
open Go Go.Proofs

theorem radd_pure (o : Ob) (t : Tr) (hn1 : t.ni.length ≤ 1048576) (hn2 : t.no.length ≤ 1048576) (hbd : ∀ k, k < o.tr.length → (nth o.tr k).ni.length ≤ 1048576 ∧ (nth o.tr k).no.length ≤ 1048576) (hl : o.tr.length ≤ 1000000) : PureC Try.prog 86 [(V.agg [(iV (o.i)), (V.sl (List.map cT (o.tr)))]), (V.agg [(V.sl (List.map cI (t.ni))), (V.sl (List.map cI (t.no)))])] (V.agg [(iV (o.i)), (V.sl (List.map cT (raL o.tr t)))]) := by
 refine pure_of_Wb true 6 Try.func86 s86_ok (by kernel_rfl) (by simp [s86]) (by simp) (by simp) fun hB => ?_
 simp only [bnd_map, bnd_int, bnd_bool, bnd_str, bnd_agg, bnd_pp, bnd_nil, bnd_cons, implies_true, and_true, true_and] at hB
 unfold s86
 dsimp only
 refine W_seq_regc (fun T H => T 2 = (V.mp 2 1 0 0) ∧ T 3 = (V.mp 3 1 0 0) ∧ T 4 = (V.mp 4 1 0 0) ∧ H 2 = (⟨1, true, false, 34, 2, [[(iV (o.i)), (V.sl (List.map cT (o.tr)))]]⟩ : Blk) ∧ H 3 = (⟨1, true, false, 63, 2, [[(V.sl (List.map cI (t.ni))), (V.sl (List.map cI (t.no)))]]⟩ : Blk) ∧ H 4 = (⟨1, true, false, 34, 2, [[(iV (0 : Int)), V.nilsl]]⟩ : Blk) ∧ H 5 = (⟨0, false, false, 0, 0, []⟩ : Blk) ∧ H 9 = (⟨0, false, false, 0, 0, []⟩ : Blk) ∧ H 63 = (⟨0, false, false, 0, 0, []⟩ : Blk) ∧ True) ?_ ?_
 ·
  unfold r86_0
  refine R_box (i := 2) (n := 0) (m := 2) (cs := [(iV (o.i)), (V.sl (List.map cT (o.tr)))]) rfl (congrArg Blk.ver rfl) (@rfl V (V.agg [(iV (o.i)), (V.sl (List.map cT (o.tr)))])) rfl rfl ?_
  refine R_box (i := 3) (n := 0) (m := 2) (cs := [(V.sl (List.map cI (t.ni))), (V.sl (List.map cI (t.no)))]) rfl (congrArg Blk.ver rfl) (@rfl V (V.agg [(V.sl (List.map cI (t.ni))), (V.sl (List.map cI (t.no)))])) rfl rfl ?_
  refine R_alloc (i := 4) (n := 0) (m := 2) rfl (congrArg Blk.ver rfl) rfl ?_
  exact R_nil ⟨rfl, rfl, rfl, rfl, rfl, rfl, rfl, rfl, rfl, trivial⟩
 intro T H ⟨t2, t3, t4, h2, h3, h4, h5, h9, h63, _⟩
 refine W_seq_regc (fun T H => T 2 = (V.mp 2 1 0 0) ∧ T 3 = (V.mp 3 1 0 0) ∧ T 4 = (V.mp 4 1 0 0) ∧ T 5 = (V.mp 5 1 0 0) ∧ H 2 = (⟨1, true, false, 34, 2, [[(iV (o.i)), (V.sl (List.map cT (o.tr)))]]⟩ : Blk) ∧ H 3 = (⟨1, true, false, 63, 2, [[(V.sl (List.map cI (t.ni))), (V.sl (List.map cI (t.no)))]]⟩ : Blk) ∧ H 4 = (⟨1, true, false, 34, 2, [[(iV (0 : Int)), V.nilsl]]⟩ : Blk) ∧ H 5 = (⟨1, true, false, 34, 2, [[(iV (o.i)), V.nilsl]]⟩ : Blk) ∧ H 9 = (⟨0, false, false, 0, 0, []⟩ : Blk) ∧ H 63 = (⟨0, false, false, 0, 0, []⟩ : Blk) ∧ True) ?_ ?_
 ·
  unfold r86_1
  refine R_fld_mp (o' := 0) t2 h2 (by first | rfl | simp [okB, Blk.own]) rfl ?_
  refine R_load_mp (v := (iV (o.i))) (@rfl V (V.mp 2 1 0 0)) h2 (by first | rfl | simp [ldB, ldV, Blk.own, V.one]) ?_
  refine R_build (qs := [(0, 1, (iV (o.i)))]) (cs := [(iV (o.i)), V.nilsl]) (mcons (congrArg (fun v => (0, 1, v)) (@rfl V (iV (o.i)))) rfl) rfl ?_
  refine R_alloc (i := 5) (n := 0) (m := 2) rfl (congrArg Blk.ver h5) rfl ?_
  refine R_store (vs := [(iV (o.i)), V.nilsl]) (B' := (⟨1, true, false, 34, 2, [[(iV (o.i)), V.nilsl]]⟩ : Blk)) (@rfl V (V.mp 5 1 0 0)) (@rfl V (V.agg [(iV (o.i)), V.nilsl])) rfl (@rfl Blk (⟨1, true, false, 34, 2, [[(iV (0 : Int)), V.nilsl]]⟩ : Blk)) (by first | rfl | simp [stB, okB, Blk.own, putAt, V.one]) ?_
  exact R_nil ⟨t2, t3, t4, rfl, h2, h3, h4, rfl, h9, h63, trivial⟩
 intro T H ⟨t2, t3, t4, t5, h2, h3, h4, h5, h9, h63, _⟩
 refine W_seq_regc (fun T H => T 2 = (V.mp 2 1 0 0) ∧ T 3 = (V.mp 3 1 0 0) ∧ T 4 = (V.mp 4 1 0 0) ∧ T 5 = (V.mp 5 1 0 0) ∧ T 6 = (V.bool (decide (((t.ni.length : Nat) : Int) = (0 : Int)))) ∧ H 2 = (⟨1, true, false, 34, 2, [[(iV (o.i)), (V.sl (List.map cT (o.tr)))]]⟩ : Blk) ∧ H 3 = (⟨1, true, false, 63, 2, [[(V.sl (List.map cI (t.ni))), (V.sl (List.map cI (t.no)))]]⟩ : Blk) ∧ H 4 = (⟨1, true, false, 34, 2, [[(iV (0 : Int)), V.nilsl]]⟩ : Blk) ∧ H 5 = (⟨1, true, false, 34, 2, [[(iV (o.i)), V.nilsl]]⟩ : Blk) ∧ H 9 = (⟨0, false, false, 0, 0, []⟩ : Blk) ∧ H 63 = (⟨0, false, false, 0, 0, []⟩ : Blk) ∧ True) ?_ ?_
 ·
  unfold r86_2
  refine R_fld_mp (o' := 0) t3 h3 (by first | rfl | simp [okB, Blk.own]) rfl ?_
  refine R_load_mp (v := (V.sl (List.map cI (t.ni)))) (@rfl V (V.mp 3 1 0 0)) h3 (by first | rfl | simp [ldB, ldV, Blk.own, V.one]) ?_
  refine R_len (@rfl V (V.sl (List.map cI (t.ni)))) ?_
  refine R_eql (x := ((t.ni.length : Nat) : Int)) (y := (0 : Int)) (@rfl V (iV ((t.ni.length : Nat) : Int))) (@rfl V (iV (0 : Int))) ?_
  refine R_mv (@rfl V (V.bool (decide (((t.ni.length : Nat) : Int) = (0 : Int))))) ?_
  exact R_nil ⟨t2, t3, t4, t5, rfl, h2, h3, h4, h5, h9, h63, trivial⟩
 intro T H ⟨t2, t3, t4, t5, t6, h2, h3, h4, h5, h9, h63, _⟩
 refine W_seq_seq ?_
 refine W_seq_regc (fun T H => T 2 = (V.mp 2 1 0 0) ∧ T 3 = (V.mp 3 1 0 0) ∧ T 4 = (V.mp 4 1 0 0) ∧ T 5 = (V.mp 5 1 0 0) ∧ T 6 = (V.bool (decide (((t.ni.length : Nat) : Int) = (0 : Int)))) ∧ T 7 = (iV (0 : Int)) ∧ H 2 = (⟨1, true, false, 34, 2, [[(iV (o.i)), (V.sl (List.map cT (o.tr)))]]⟩ : Blk) ∧ H 3 = (⟨1, true, false, 63, 2, [[(V.sl (List.map cI (t.ni))), (V.sl (List.map cI (t.no)))]]⟩ : Blk) ∧ H 4 = (⟨1, true, false, 34, 2, [[(iV (0 : Int)), V.nilsl]]⟩ : Blk) ∧ H 5 = (⟨1, true, false, 34, 2, [[(iV (o.i)), V.nilsl]]⟩ : Blk) ∧ H 9 = (⟨0, false, false, 0, 0, []⟩ : Blk) ∧ H 63 = (⟨0, false, false, 0, 0, []⟩ : Blk) ∧ True) ?_ ?_
 ·
  unfold r86_3
  refine R_mv (@rfl V (iV (0 : Int))) ?_
  exact R_nil ⟨t2, t3, t4, t5, t6, rfl, h2, h3, h4, h5, h9, h63, trivial⟩
 intro T H ⟨t2, t3, t4, t5, t6, t7, h2, h3, h4, h5, h9, h63, _⟩
 refine W_seq_blockg fun Q1 n1 x1 y1 z1 => ?_
 refine W_loop (fun mm T H => ∃ (k : Nat), mm = o.tr.length - k ∧ T 2 = (V.mp 2 1 0 0) ∧ T 3 = (V.mp 3 1 0 0) ∧ T 4 = (V.mp 4 1 0 0) ∧ T 5 = (V.mp 5 1 0 0) ∧ T 6 = (V.bool (doA o.tr t k)) ∧ T 7 = (iV ((k : Nat) : Int)) ∧ H 2 = (⟨1, true, false, 34, 2, [[(iV (o.i)), (V.sl (List.map cT (o.tr)))]]⟩ : Blk) ∧ H 3 = (⟨1, true, false, 63, 2, [[(V.sl (List.map cI (t.ni))), (V.sl (List.map cI (t.no)))]]⟩ : Blk) ∧ H 4 = (⟨1, true, false, 34, 2, [[(iV (0 : Int)), V.nilsl]]⟩ : Blk) ∧ H 5 = (⟨1, true, false, 34, 2, [[(iV (o.i)), V.nilsl]]⟩ : Blk) ∧ H 9 = (⟨0, false, false, 0, 0, []⟩ : Blk) ∧ H 63 = (⟨0, false, false, 0, 0, []⟩ : Blk) ∧ (k ≤ o.tr.length)) ?_ ?_
 ·
  refine ⟨_, 0, rfl, t2, t3, t4, t5, (Eq.trans t6 (by first | rfl | (rw [raS_tt d1 d2]; done) | (rw [raS_tf d1 d2]; done) | (rw [raS_ft d1 d2]; done) | (rw [raS_ff d1 d2]; done) | (simp [doA]; done) | (have e : k = o.tr.length := (by omega); subst e; rfl))), (Eq.trans t7 (by first | rfl | (rw [raS_tt d1 d2]; done) | (rw [raS_tf d1 d2]; done) | (rw [raS_ft d1 d2]; done) | (rw [raS_ff d1 d2]; done) | (simp [doA]; done) | (have e : k = o.tr.length := (by omega); subst e; rfl))), h2, h3, h4, h5, h9, h63, ?_⟩
  · omega
 intro mm T H ⟨k, hmm, t2, t3, t4, t5, t6, t7, h2, h3, h4, h5, h9, h63, hk⟩ Q2 p12 p22 p32
 unfold b86_0
 refine W_seq_seq ?_
 refine W_seq_regc (fun T H => T 2 = (V.mp 2 1 0 0) ∧ T 3 = (V.mp 3 1 0 0) ∧ T 4 = (V.mp 4 1 0 0) ∧ T 5 = (V.mp 5 1 0 0) ∧ T 6 = (V.bool (doA o.tr t k)) ∧ T 7 = (iV ((k : Nat) : Int)) ∧ T 21 = (V.bool (decide (((k : Nat) : Int) < ((o.tr.length : Nat) : Int)))) ∧ H 2 = (⟨1, true, false, 34, 2, [[(iV (o.i)), (V.sl (List.map cT (o.tr)))]]⟩ : Blk) ∧ H 3 = (⟨1, true, false, 63, 2, [[(V.sl (List.map cI (t.ni))), (V.sl (List.map cI (t.no)))]]⟩ : Blk) ∧ H 4 = (⟨1, true, false, 34, 2, [[(iV (0 : Int)), V.nilsl]]⟩ : Blk) ∧ H 5 = (⟨1, true, false, 34, 2, [[(iV (o.i)), V.nilsl]]⟩ : Blk) ∧ H 9 = (⟨0, false, false, 0, 0, []⟩ : Blk) ∧ H 63 = (⟨0, false, false, 0, 0, []⟩ : Blk) ∧ True) ?_ ?_
 ·
  unfold r86_4
  refine R_mv t7 ?_
  refine R_fld_mp (o' := 1) t2 h2 (by first | rfl | simp [okB, Blk.own]) rfl ?_
  refine R_load_mp (v := (V.sl (List.map cT (o.tr)))) (@rfl V (V.mp 2 1 0 1)) h2 (by first | rfl | simp [ldB, ldV, Blk.own, V.one]) ?_
  refine R_len (@rfl V (V.sl (List.map cT (o.tr)))) ?_
  refine R_lss (x := ((k : Nat) : Int)) (y := ((o.tr.length : Nat) : Int)) (@rfl V (iV ((k : Nat) : Int))) (@rfl V (iV ((o.tr.length : Nat) : Int))) ?_
  exact R_nil ⟨t2, t3, t4, t5, t6, t7, rfl, h2, h3, h4, h5, h9, h63, trivial⟩
 intro T H ⟨t2, t3, t4, t5, t6, t7, t21, h2, h3, h4, h5, h9, h63, _⟩
 refine W_seq_if (p := ((k : Nat) : Int) < ((o.tr.length : Nat) : Int)) t21 (fun c3 => ?_) (fun c3 => ?_)
 ·
  refine W_seq_skip ?_
  refine W_seq_blockg fun Q4 n4 x4 y4 z4 => ?_
  refine W_regc (fun T H => T 2 = (V.mp 2 1 0 0) ∧ T 3 = (V.mp 3 1 0 0) ∧ T 4 = (V.mp 4 1 0 0) ∧ T 5 = (V.mp 5 1 0 0) ∧ T 6 = (V.bool (((doA o.tr t k) || (hp ((nth (o.tr) (k)).ni) t.ni)))) ∧ T 7 = (iV ((k : Nat) : Int)) ∧ H 2 = (⟨1, true, false, 34, 2, [[(iV (o.i)), (V.sl (List.map cT (o.tr)))]]⟩ : Blk) ∧ H 3 = (⟨1, true, false, 63, 2, [[(V.sl (List.map cI (t.ni))), (V.sl (List.map cI (t.no)))]]⟩ : Blk) ∧ H 4 = (⟨1, true, false, 34, 2, [[(iV (0 : Int)), V.nilsl]]⟩ : Blk) ∧ H 5 = (⟨1, true, false, 34, 2, [[(iV (o.i)), V.nilsl]]⟩ : Blk) ∧ H 9 = (⟨0, false, false, 0, 0, []⟩ : Blk) ∧ H 63 = (⟨0, false, false, 0, 0, []⟩ : Blk) ∧ True) ?_ ?_
  ·
   unfold r86_6
   refine R_mv t6 ?_
   refine R_mv (@rfl V (V.bool (doA o.tr t k))) ?_
   refine Ops_seg 10 (fun T H => T 2 = (V.mp 2 1 0 0) ∧ T 3 = (V.mp 3 1 0 0) ∧ T 4 = (V.mp 4 1 0 0) ∧ T 5 = (V.mp 5 1 0 0) ∧ T 6 = (V.bool (doA o.tr t k)) ∧ T 7 = (iV ((k : Nat) : Int)) ∧ T 35 = (V.bool (((doA o.tr t k) || (hp ((nth (o.tr) (k)).ni) t.ni)))) ∧ H 2 = (⟨1, true, false, 34, 2, [[(iV (o.i)), (V.sl (List.map cT (o.tr)))]]⟩ : Blk) ∧ H 3 = (⟨1, true, false, 63, 2, [[(V.sl (List.map cI (t.ni))), (V.sl (List.map cI (t.no)))]]⟩ : Blk) ∧ H 4 = (⟨1, true, false, 34, 2, [[(iV (0 : Int)), V.nilsl]]⟩ : Blk) ∧ H 5 = (⟨1, true, false, 34, 2, [[(iV (o.i)), V.nilsl]]⟩ : Blk) ∧ H 9 = (⟨0, false, false, 0, 0, []⟩ : Blk) ∧ H 63 = (⟨0, false, false, 0, 0, []⟩ : Blk) ∧ True) ?_ ?_
   ·
    by_cases g5 : (doA o.tr t k) = true
    ·
     refine G_no (Eq.trans (@rfl V (V.bool (doA o.tr t k))) (bbT g5)) (by decide) ?_
     refine G_no (Eq.trans (@rfl V (V.bool (doA o.tr t k))) (bbT g5)) (by decide) ?_
     refine G_no (Eq.trans (@rfl V (V.bool (doA o.tr t k))) (bbT g5)) (by decide) ?_
     refine G_no (Eq.trans (@rfl V (V.bool (doA o.tr t k))) (bbT g5)) (by decide) ?_
     refine G_no (Eq.trans (@rfl V (V.bool (doA o.tr t k))) (bbT g5)) (by decide) ?_
     refine G_no (Eq.trans (@rfl V (V.bool (doA o.tr t k))) (bbT g5)) (by decide) ?_
     refine G_no (Eq.trans (@rfl V (V.bool (doA o.tr t k))) (bbT g5)) (by decide) ?_
     refine G_no (Eq.trans (@rfl V (V.bool (doA o.tr t k))) (bbT g5)) (by decide) ?_
     refine G_no (Eq.trans (@rfl V (V.bool (doA o.tr t k))) (bbT g5)) (by decide) ?_
     refine R_pickT (Eq.trans (@rfl V (V.bool (doA o.tr t k))) (bbT g5)) (@rfl V (V.bool true)) ?_
     exact ⟨t2, t3, t4, t5, t6, t7, (Eq.trans (@rfl V (V.bool true)) (borT g5)), h2, h3, h4, h5, h9, h63, trivial⟩
    ·
     refine G_yes (Eq.trans (@rfl V (V.bool (doA o.tr t k))) (bbF g5)) ?_
     refine R_fld_mp (o' := 1) t2 h2 (by first | rfl | simp [okB, Blk.own]) rfl ?_
     refine G_yes (Eq.trans (@rfl V (V.bool (doA o.tr t k))) (bbF g5)) ?_
     refine R_load_mp (v := (V.sl (List.map cT (o.tr)))) (@rfl V (V.mp 2 1 0 1)) h2 (by first | rfl | simp [ldB, ldV, Blk.own, V.one]) ?_
     refine G_yes (Eq.trans (@rfl V (V.bool (doA o.tr t k))) (bbF g5)) ?_
     refine R_mv t7 ?_
     refine G_yes (Eq.trans (@rfl V (V.bool (doA o.tr t k))) (bbF g5)) ?_
     refine R_idx (i := k) (@rfl V (V.sl (List.map cT (o.tr)))) (@rfl V (iV ((k : Nat) : Int))) (by omega) rfl ?_
     refine G_yes (Eq.trans (@rfl V (V.bool (doA o.tr t k))) (bbF g5)) ?_
     refine R_fld_pp (cs' := [(V.sl (List.map cI ((nth (o.tr) (k)).ni))), (V.sl (List.map cI ((nth (o.tr) (k)).no)))]) (@rfl V (V.pp [(V.sl (List.map cI ((nth (o.tr) (k)).ni))), (V.sl (List.map cI ((nth (o.tr) (k)).no)))])) rfl ?_
     refine G_yes (Eq.trans (@rfl V (V.bool (doA o.tr t k))) (bbF g5)) ?_
     refine R_load_pp (v := (V.sl (List.map cI ((nth (o.tr) (k)).ni)))) (@rfl V (V.pp [(V.sl (List.map cI ((nth (o.tr) (k)).ni))), (V.sl (List.map cI ((nth (o.tr) (k)).no)))])) (by first | rfl | simp [ldV]) ?_
     refine G_yes (Eq.trans (@rfl V (V.bool (doA o.tr t k))) (bbF g5)) ?_
     refine R_fld_mp (o' := 0) t3 h3 (by first | rfl | simp [okB, Blk.own]) rfl ?_
     refine G_yes (Eq.trans (@rfl V (V.bool (doA o.tr t k))) (bbF g5)) ?_
     refine R_load_mp (v := (V.sl (List.map cI (t.ni)))) (@rfl V (V.mp 3 1 0 0)) h3 (by first | rfl | simp [ldB, ldV, Blk.own, V.one]) ?_
     refine G_yes (Eq.trans (@rfl V (V.bool (doA o.tr t k))) (bbF g5)) ?_
     refine R_call (evcons (@rfl V (V.sl (List.map cI ((nth (o.tr) (k)).ni)))) (evcons (@rfl V (V.sl (List.map cI (t.ni)))) evnil)) (rhp_pure ((nth (o.tr) (k)).ni) t.ni) (fzv_mapcanon _ _ (by simp [-List.map_take, -List.map_drop, -List.map_append, -List.map_reverse])) (by simp [-List.map_take, -List.map_drop, -List.map_append, -List.map_reverse]) (Or.inl (by simp [-List.map_take, -List.map_drop, -List.map_append, -List.map_reverse])) ?_
     refine R_pickF (Eq.trans (@rfl V (V.bool (doA o.tr t k))) (bbF g5)) (@rfl V (V.bool (hp ((nth (o.tr) (k)).ni) t.ni))) ?_
     exact ⟨t2, t3, t4, t5, t6, t7, (Eq.trans (@rfl V (V.bool (hp ((nth (o.tr) (k)).ni) t.ni))) (borF g5)), h2, h3, h4, h5, h9, h63, trivial⟩
   intro T H ⟨t2, t3, t4, t5, t6, t7, t35, h2, h3, h4, h5, h9, h63, _⟩
   refine R_mv t35 ?_
   exact R_nil ⟨t2, t3, t4, t5, rfl, t7, h2, h3, h4, h5, h9, h63, trivial⟩
  intro T H ⟨t2, t3, t4, t5, t6, t7, h2, h3, h4, h5, h9, h63, _⟩
  refine n4 _ _ ?_
  refine .done ?_
  refine W_regc (fun T H => T 2 = (V.mp 2 1 0 0) ∧ T 3 = (V.mp 3 1 0 0) ∧ T 4 = (V.mp 4 1 0 0) ∧ T 5 = (V.mp 5 1 0 0) ∧ T 6 = (V.bool (((doA o.tr t k) || (hp ((nth (o.tr) (k)).ni) t.ni)))) ∧ T 7 = (iV ((k + 1 : Nat) : Int)) ∧ H 2 = (⟨1, true, false, 34, 2, [[(iV (o.i)), (V.sl (List.map cT (o.tr)))]]⟩ : Blk) ∧ H 3 = (⟨1, true, false, 63, 2, [[(V.sl (List.map cI (t.ni))), (V.sl (List.map cI (t.no)))]]⟩ : Blk) ∧ H 4 = (⟨1, true, false, 34, 2, [[(iV (0 : Int)), V.nilsl]]⟩ : Blk) ∧ H 5 = (⟨1, true, false, 34, 2, [[(iV (o.i)), V.nilsl]]⟩ : Blk) ∧ H 9 = (⟨0, false, false, 0, 0, []⟩ : Blk) ∧ H 63 = (⟨0, false, false, 0, 0, []⟩ : Blk) ∧ True) ?_ ?_
  ·
   unfold r86_5
   refine R_mv t7 ?_
   refine R_addN (m := k) (n := 1) (@rfl V (iV ((k : Nat) : Int))) (@rfl V (iV ((1 : Nat) : Int))) (by omega) ?_
   refine R_mv (@rfl V (iV ((k + 1 : Nat) : Int))) ?_
   exact R_nil ⟨t2, t3, t4, t5, t6, rfl, h2, h3, h4, h5, h9, h63, trivial⟩
  intro T H ⟨t2, t3, t4, t5, t6, t7, h2, h3, h4, h5, h9, h63, _⟩
  refine p12 _ _ _ ?_ ⟨(k + 1), rfl, t2, t3, t4, t5, (Eq.trans t6 (by first | rfl | (rw [raS_tt d1 d2]; done) | (rw [raS_tf d1 d2]; done) | (rw [raS_ft d1 d2]; done) | (rw [raS_ff d1 d2]; done) | (simp [doA]; done) | (have e : k = o.tr.length := (by omega); subst e; rfl))), (Eq.trans t7 (by first | rfl | (rw [raS_tt d1 d2]; done) | (rw [raS_tf d1 d2]; done) | (rw [raS_ft d1 d2]; done) | (rw [raS_ff d1 d2]; done) | (simp [doA]; done) | (have e : k = o.tr.length := (by omega); subst e; rfl))), h2, h3, h4, h5, h9, h63, ?_⟩
  · omega
  · omega
 refine W_seq_exit ?_
 refine p32 _ _ _ ?_
 refine x1 _ _ ?_
 refine .done ?_
 refine W_seq_seq ?_
 refine W_seq_g (fun T H => T 2 = (V.mp 2 1 0 0) ∧ T 3 = (V.mp 3 1 0 0) ∧ T 4 = (V.mp 4 1 0 0) ∧ T 5 = (V.mp 5 1 0 0) ∧ T 6 = (V.bool (doA o.tr t k)) ∧ T 8 = (iV (0 : Int)) ∧ H 2 = (⟨1, true, false, 34, 2, [[(iV (o.i)), (V.sl (List.map cT (o.tr)))]]⟩ : Blk) ∧ H 3 = (⟨1, true, false, 63, 2, [[(V.sl (List.map cI (t.ni))), (V.sl (List.map cI (t.no)))]]⟩ : Blk) ∧ H 4 = (⟨1, true, false, 34, 2, [[(iV (0 : Int)), V.nilsl]]⟩ : Blk) ∧ H 5 = (⟨1, true, false, 34, 2, [[(iV (o.i)), V.nilsl]]⟩ : Blk) ∧ H 9 = (⟨0, false, false, 0, 0, []⟩ : Blk) ∧ H 63 = (⟨0, false, false, 0, 0, []⟩ : Blk) ∧ True) ?_ ?_
 ·
  unfold r86_7
  refine R_mv (@rfl V (iV (0 : Int))) ?_
  exact R_nil ⟨t2, t3, t4, t5, t6, rfl, h2, h3, h4, h5, h9, h63, trivial⟩
 intro T H ⟨t2, t3, t4, t5, t6, t8, h2, h3, h4, h5, h9, h63, _⟩
 refine .lazyCell 63 63 2 5 0 1 [(iV (o.i)), V.nilsl] (by decide) (by rw [h5]; rfl) (by rw [h5]; rfl) rfl (.done ?_)
 refine fork_ (R := fun T H => T 2 = (V.mp 2 1 0 0) ∧ T 3 = (V.mp 3 1 0 0) ∧ T 4 = (V.mp 4 1 0 0) ∧ T 5 = (V.mp 5 1 0 0) ∧ T 6 = (V.bool (doA o.tr t k)) ∧ T 8 = (iV (0 : Int)) ∧ H 2 = (⟨1, true, false, 34, 2, [[(iV (o.i)), (V.sl (List.map cT (o.tr)))]]⟩ : Blk) ∧ H 3 = (⟨1, true, false, 63, 2, [[(V.sl (List.map cI (t.ni))), (V.sl (List.map cI (t.no)))]]⟩ : Blk) ∧ H 4 = (⟨1, true, false, 34, 2, [[(iV (0 : Int)), V.nilsl]]⟩ : Blk) ∧ H 5 = (⟨1, true, false, 34, 2, [[(iV (o.i)), (V.ms 63 1 0 (0))]]⟩ : Blk) ∧ H 9 = (⟨0, false, false, 0, 0, []⟩ : Blk) ∧ H 63 = (⟨1, true, true, 63, 2, []⟩ : Blk) ∧ True) ⟨t2, t3, t4, t5, t6, t8, ((upd_ne _ _ (by decide)).trans ((upd_ne _ _ (by decide)).trans h2)), ((upd_ne _ _ (by decide)).trans ((upd_ne _ _ (by decide)).trans h3)), ((upd_ne _ _ (by decide)).trans ((upd_ne _ _ (by decide)).trans h4)), (by rw [upd_same, h5, (congrArg Blk.ver h63)]; rfl), ((upd_ne _ _ (by decide)).trans ((upd_ne _ _ (by decide)).trans h9)), (by rw [upd_ne _ _ (by decide), upd_same, (congrArg Blk.ver h63)]), trivial⟩ ?_
 clear t2 t3 t4 t5 t6 t8 h2 h3 h4 h5 h9 h63 T H
 intro T H ⟨t2, t3, t4, t5, t6, t8, h2, h3, h4, h5, h9, h63, _⟩
 refine W_seq_blockg fun Q6 n6 x6 y6 z6 => ?_
 refine W_loop (fun mm T H => ∃ (k : Nat) (w : Nat) (v9 : Nat), mm = o.tr.length - k ∧ T 2 = (V.mp 2 1 0 0) ∧ T 3 = (V.mp 3 1 0 0) ∧ T 4 = (V.mp 4 1 0 0) ∧ T 5 = (V.mp 5 1 0 0) ∧ T 6 = (V.bool ((raS o.tr t k).2)) ∧ T 8 = (iV ((k : Nat) : Int)) ∧ H 2 = (⟨1, true, false, 34, 2, [[(iV (o.i)), (V.sl (List.map cT (o.tr)))]]⟩ : Blk) ∧ H 3 = (⟨1, true, false, 63, 2, [[(V.sl (List.map cI (t.ni))), (V.sl (List.map cI (t.no)))]]⟩ : Blk) ∧ H 4 = (⟨1, true, false, 34, 2, [[(iV (0 : Int)), V.nilsl]]⟩ : Blk) ∧ H 5 = (⟨1, true, false, 34, 2, [[(iV (o.i)), (V.ms 63 w 0 ((raS o.tr t k).1.length))]]⟩ : Blk) ∧ (H 9).ver = v9 ∧ H 63 = (⟨w, true, true, 63, 2, (List.map cT ((raS o.tr t k).1))⟩ : Blk) ∧ (k ≤ o.tr.length)) ?_ ?_
 ·
  refine ⟨_, 0, 1, 0, rfl, t2, t3, t4, t5, (Eq.trans t6 (by first | rfl | (rw [raS_tt d1 d2]; done) | (rw [raS_tf d1 d2]; done) | (rw [raS_ft d1 d2]; done) | (rw [raS_ff d1 d2]; done) | (simp [doA]; done) | (have e : k = o.tr.length := (by omega); subst e; rfl))), (Eq.trans t8 (by first | rfl | (rw [raS_tt d1 d2]; done) | (rw [raS_tf d1 d2]; done) | (rw [raS_ft d1 d2]; done) | (rw [raS_ff d1 d2]; done) | (simp [doA]; done) | (have e : k = o.tr.length := (by omega); subst e; rfl))), h2, h3, h4, (Eq.trans h5 (by first | rfl | (rw [raS_tt d1 d2]; done) | (rw [raS_tt d1 d2]; simp; done) | (rw [raS_tf d1 d2]; done) | (rw [raS_tf d1 d2]; simp; done) | (rw [raS_ft d1 d2]; done) | (rw [raS_ft d1 d2]; simp; done) | (rw [raS_ff d1 d2]; done))), (congrArg Blk.ver h9), (Eq.trans h63 (by first | rfl | (rw [raS_tt d1 d2]; done) | (rw [raS_tt d1 d2]; simp; done) | (rw [raS_tf d1 d2]; done) | (rw [raS_tf d1 d2]; simp; done) | (rw [raS_ft d1 d2]; done) | (rw [raS_ft d1 d2]; simp; done) | (rw [raS_ff d1 d2]; done))), ?_⟩
  · omega
 intro mm T H ⟨k, w, v9, hmm, t2, t3, t4, t5, t6, t8, h2, h3, h4, h5, h9, h63, hk⟩ Q7 p17 p27 p37
 unfold b86_1
 have q1 := raS_len (l := o.tr) (t := t) k
 refine W_seq_seq ?_
 refine W_seq_regc (fun T H => T 2 = (V.mp 2 1 0 0) ∧ T 3 = (V.mp 3 1 0 0) ∧ T 4 = (V.mp 4 1 0 0) ∧ T 5 = (V.mp 5 1 0 0) ∧ T 6 = (V.bool ((raS o.tr t k).2)) ∧ T 8 = (iV ((k : Nat) : Int)) ∧ T 40 = (V.bool (decide (((k : Nat) : Int) < ((o.tr.length : Nat) : Int)))) ∧ H 2 = (⟨1, true, false, 34, 2, [[(iV (o.i)), (V.sl (List.map cT (o.tr)))]]⟩ : Blk) ∧ H 3 = (⟨1, true, false, 63, 2, [[(V.sl (List.map cI (t.ni))), (V.sl (List.map cI (t.no)))]]⟩ : Blk) ∧ H 4 = (⟨1, true, false, 34, 2, [[(iV (0 : Int)), V.nilsl]]⟩ : Blk) ∧ H 5 = (⟨1, true, false, 34, 2, [[(iV (o.i)), (V.ms 63 w 0 ((raS o.tr t k).1.length))]]⟩ : Blk) ∧ (H 9).ver = v9 ∧ H 63 = (⟨w, true, true, 63, 2, (List.map cT ((raS o.tr t k).1))⟩ : Blk) ∧ True) ?_ ?_
 ·
  unfold r86_8
  refine R_mv t8 ?_
  refine R_fld_mp (o' := 1) t2 h2 (by first | rfl | simp [okB, Blk.own]) rfl ?_
  refine R_load_mp (v := (V.sl (List.map cT (o.tr)))) (@rfl V (V.mp 2 1 0 1)) h2 (by first | rfl | simp [ldB, ldV, Blk.own, V.one]) ?_
  refine R_len (@rfl V (V.sl (List.map cT (o.tr)))) ?_
  refine R_lss (x := ((k : Nat) : Int)) (y := ((o.tr.length : Nat) : Int)) (@rfl V (iV ((k : Nat) : Int))) (@rfl V (iV ((o.tr.length : Nat) : Int))) ?_
  exact R_nil ⟨t2, t3, t4, t5, t6, t8, rfl, h2, h3, h4, h5, h9, h63, trivial⟩
 intro T H ⟨t2, t3, t4, t5, t6, t8, t40, h2, h3, h4, h5, h9, h63, _⟩
 refine W_seq_if (p := ((k : Nat) : Int) < ((o.tr.length : Nat) : Int)) t40 (fun c8 => ?_) (fun c8 => ?_)
 ·
  refine W_seq_skip ?_
  refine W_seq_blockg fun Q9 n9 x9 y9 z9 => ?_
  refine W_seq_regc (fun T H => T 2 = (V.mp 2 1 0 0) ∧ T 3 = (V.mp 3 1 0 0) ∧ T 4 = (V.mp 4 1 0 0) ∧ T 5 = (V.mp 5 1 0 0) ∧ T 6 = (V.bool ((raS o.tr t k).2)) ∧ T 8 = (iV ((k : Nat) : Int)) ∧ T 9 = (V.mp 9 (v9 + 1) 0 0) ∧ H 2 = (⟨1, true, false, 34, 2, [[(iV (o.i)), (V.sl (List.map cT (o.tr)))]]⟩ : Blk) ∧ H 3 = (⟨1, true, false, 63, 2, [[(V.sl (List.map cI (t.ni))), (V.sl (List.map cI (t.no)))]]⟩ : Blk) ∧ H 4 = (⟨1, true, false, 34, 2, [[(iV (0 : Int)), V.nilsl]]⟩ : Blk) ∧ H 5 = (⟨1, true, false, 34, 2, [[(iV (o.i)), (V.ms 63 w 0 ((raS o.tr t k).1.length))]]⟩ : Blk) ∧ H 9 = (⟨v9 + 1, true, false, 63, 2, [[(V.sl (List.map cI ((nth (o.tr) (k)).ni))), (V.sl (List.map cI ((nth (o.tr) (k)).no)))]]⟩ : Blk) ∧ H 63 = (⟨w, true, true, 63, 2, (List.map cT ((raS o.tr t k).1))⟩ : Blk) ∧ True) ?_ ?_
  ·
   unfold r86_10
   refine R_fld_mp (o' := 1) t2 h2 (by first | rfl | simp [okB, Blk.own]) rfl ?_
   refine R_load_mp (v := (V.sl (List.map cT (o.tr)))) (@rfl V (V.mp 2 1 0 1)) h2 (by first | rfl | simp [ldB, ldV, Blk.own, V.one]) ?_
   refine R_mv t8 ?_
   refine R_idx (i := k) (@rfl V (V.sl (List.map cT (o.tr)))) (@rfl V (iV ((k : Nat) : Int))) (by omega) rfl ?_
   refine R_load_pp (v := (V.agg [(V.sl (List.map cI ((nth (o.tr) (k)).ni))), (V.sl (List.map cI ((nth (o.tr) (k)).no)))])) (@rfl V (V.pp [(V.sl (List.map cI ((nth (o.tr) (k)).ni))), (V.sl (List.map cI ((nth (o.tr) (k)).no)))])) (by first | rfl | simp [ldV]) ?_
   refine R_alloc (i := 9) (n := v9) (m := 2) rfl h9 rfl ?_
   refine R_store (vs := [(V.sl (List.map cI ((nth (o.tr) (k)).ni))), (V.sl (List.map cI ((nth (o.tr) (k)).no)))]) (B' := (⟨v9 + 1, true, false, 63, 2, [[(V.sl (List.map cI ((nth (o.tr) (k)).ni))), (V.sl (List.map cI ((nth (o.tr) (k)).no)))]]⟩ : Blk)) (@rfl V (V.mp 9 (v9 + 1) 0 0)) (@rfl V (V.agg [(V.sl (List.map cI ((nth (o.tr) (k)).ni))), (V.sl (List.map cI ((nth (o.tr) (k)).no)))])) rfl (@rfl Blk (⟨v9 + 1, true, false, 63, 2, [[V.nilsl, V.nilsl]]⟩ : Blk)) (by first | rfl | simp [stB, okB, Blk.own, putAt, V.one]) ?_
   exact R_nil ⟨t2, t3, t4, t5, t6, t8, rfl, h2, h3, h4, h5, rfl, h63, trivial⟩
  intro T H ⟨t2, t3, t4, t5, t6, t8, t9, h2, h3, h4, h5, h9, h63, _⟩
  refine W_seq_seq ?_
  refine W_seq_regc (fun T H => T 2 = (V.mp 2 1 0 0) ∧ T 3 = (V.mp 3 1 0 0) ∧ T 4 = (V.mp 4 1 0 0) ∧ T 5 = (V.mp 5 1 0 0) ∧ T 6 = (V.bool ((raS o.tr t k).2)) ∧ T 8 = (iV ((k : Nat) : Int)) ∧ T 9 = (V.mp 9 (v9 + 1) 0 0) ∧ T 57 = (V.bool ((((!(raS o.tr t k).2)) && decide ((slx t.ni ((nth (o.tr) (k)).ni)) < (0 : Int))))) ∧ H 2 = (⟨1, true, false, 34, 2, [[(iV (o.i)), (V.sl (List.map cT (o.tr)))]]⟩ : Blk) ∧ H 3 = (⟨1, true, false, 63, 2, [[(V.sl (List.map cI (t.ni))), (V.sl (List.map cI (t.no)))]]⟩ : Blk) ∧ H 4 = (⟨1, true, false, 34, 2, [[(iV (0 : Int)), V.nilsl]]⟩ : Blk) ∧ H 5 = (⟨1, true, false, 34, 2, [[(iV (o.i)), (V.ms 63 w 0 ((raS o.tr t k).1.length))]]⟩ : Blk) ∧ H 9 = (⟨v9 + 1, true, false, 63, 2, [[(V.sl (List.map cI ((nth (o.tr) (k)).ni))), (V.sl (List.map cI ((nth (o.tr) (k)).no)))]]⟩ : Blk) ∧ H 63 = (⟨w, true, true, 63, 2, (List.map cT ((raS o.tr t k).1))⟩ : Blk) ∧ True) ?_ ?_
  ·
   unfold r86_11
   refine R_mv t6 ?_
   refine R_notb (@rfl V (V.bool ((raS o.tr t k).2))) ?_
   refine R_mv (@rfl V (V.bool ((!(raS o.tr t k).2)))) ?_
   refine Ops_seg 7 (fun T H => T 2 = (V.mp 2 1 0 0) ∧ T 3 = (V.mp 3 1 0 0) ∧ T 4 = (V.mp 4 1 0 0) ∧ T 5 = (V.mp 5 1 0 0) ∧ T 6 = (V.bool ((raS o.tr t k).2)) ∧ T 8 = (iV ((k : Nat) : Int)) ∧ T 9 = (V.mp 9 (v9 + 1) 0 0) ∧ T 57 = (V.bool ((((!(raS o.tr t k).2)) && decide ((slx t.ni ((nth (o.tr) (k)).ni)) < (0 : Int))))) ∧ H 2 = (⟨1, true, false, 34, 2, [[(iV (o.i)), (V.sl (List.map cT (o.tr)))]]⟩ : Blk) ∧ H 3 = (⟨1, true, false, 63, 2, [[(V.sl (List.map cI (t.ni))), (V.sl (List.map cI (t.no)))]]⟩ : Blk) ∧ H 4 = (⟨1, true, false, 34, 2, [[(iV (0 : Int)), V.nilsl]]⟩ : Blk) ∧ H 5 = (⟨1, true, false, 34, 2, [[(iV (o.i)), (V.ms 63 w 0 ((raS o.tr t k).1.length))]]⟩ : Blk) ∧ H 9 = (⟨v9 + 1, true, false, 63, 2, [[(V.sl (List.map cI ((nth (o.tr) (k)).ni))), (V.sl (List.map cI ((nth (o.tr) (k)).no)))]]⟩ : Blk) ∧ H 63 = (⟨w, true, true, 63, 2, (List.map cT ((raS o.tr t k).1))⟩ : Blk) ∧ True) ?_ ?_
   ·
    by_cases g10 : ((!(raS o.tr t k).2)) = true
    ·
     refine G_yes (Eq.trans (@rfl V (V.bool ((!(raS o.tr t k).2)))) (bbT g10)) ?_
     refine R_fld_mp (o' := 0) t3 h3 (by first | rfl | simp [okB, Blk.own]) rfl ?_
     refine G_yes (Eq.trans (@rfl V (V.bool ((!(raS o.tr t k).2)))) (bbT g10)) ?_
     refine R_load_mp (v := (V.sl (List.map cI (t.ni)))) (@rfl V (V.mp 3 1 0 0)) h3 (by first | rfl | simp [ldB, ldV, Blk.own, V.one]) ?_
     refine G_yes (Eq.trans (@rfl V (V.bool ((!(raS o.tr t k).2)))) (bbT g10)) ?_
     refine R_fld_mp (o' := 0) t9 h9 (by first | rfl | simp [okB, Blk.own]) rfl ?_
     refine G_yes (Eq.trans (@rfl V (V.bool ((!(raS o.tr t k).2)))) (bbT g10)) ?_
     refine R_load_mp (v := (V.sl (List.map cI ((nth (o.tr) (k)).ni)))) (@rfl V (V.mp 9 (v9 + 1) 0 0)) h9 (by first | rfl | simp [ldB, ldV, Blk.own, V.one]) ?_
     refine G_yes (Eq.trans (@rfl V (V.bool ((!(raS o.tr t k).2)))) (bbT g10)) ?_
     refine R_call (evcons (@rfl V (V.sl (List.map cI (t.ni)))) (evcons (@rfl V (V.sl (List.map cI ((nth (o.tr) (k)).ni)))) evnil)) (rcompare_pure t.ni ((nth (o.tr) (k)).ni)) (fzv_mapcanon _ _ (by simp [-List.map_take, -List.map_drop, -List.map_append, -List.map_reverse])) (by simp [-List.map_take, -List.map_drop, -List.map_append, -List.map_reverse]) (Or.inl (by simp [-List.map_take, -List.map_drop, -List.map_append, -List.map_reverse])) ?_
     refine G_yes (Eq.trans (@rfl V (V.bool ((!(raS o.tr t k).2)))) (bbT g10)) ?_
     refine R_lss (x := (slx t.ni ((nth (o.tr) (k)).ni))) (y := (0 : Int)) (@rfl V (iV (slx t.ni ((nth (o.tr) (k)).ni)))) (@rfl V (iV (0 : Int))) ?_
     refine R_pickT (Eq.trans (@rfl V (V.bool ((!(raS o.tr t k).2)))) (bbT g10)) (@rfl V (V.bool (decide ((slx t.ni ((nth (o.tr) (k)).ni)) < (0 : Int))))) ?_
     exact ⟨t2, t3, t4, t5, t6, t8, t9, (Eq.trans (@rfl V (V.bool (decide ((slx t.ni ((nth (o.tr) (k)).ni)) < (0 : Int))))) (bandT g10)), h2, h3, h4, h5, h9, h63, trivial⟩
    ·
     refine G_no (Eq.trans (@rfl V (V.bool ((!(raS o.tr t k).2)))) (bbF g10)) (by decide) ?_
     refine G_no (Eq.trans (@rfl V (V.bool ((!(raS o.tr t k).2)))) (bbF g10)) (by decide) ?_
     refine G_no (Eq.trans (@rfl V (V.bool ((!(raS o.tr t k).2)))) (bbF g10)) (by decide) ?_
     refine G_no (Eq.trans (@rfl V (V.bool ((!(raS o.tr t k).2)))) (bbF g10)) (by decide) ?_
     refine G_no (Eq.trans (@rfl V (V.bool ((!(raS o.tr t k).2)))) (bbF g10)) (by decide) ?_
     refine G_no (Eq.trans (@rfl V (V.bool ((!(raS o.tr t k).2)))) (bbF g10)) (by decide) ?_
     refine R_pickF (Eq.trans (@rfl V (V.bool ((!(raS o.tr t k).2)))) (bbF g10)) (@rfl V (V.bool false)) ?_
     exact ⟨t2, t3, t4, t5, t6, t8, t9, (Eq.trans (@rfl V (V.bool false)) (bandF g10)), h2, h3, h4, h5, h9, h63, trivial⟩
   intro T H ⟨t2, t3, t4, t5, t6, t8, t9, t57, h2, h3, h4, h5, h9, h63, _⟩
   exact R_nil ⟨t2, t3, t4, t5, t6, t8, t9, t57, h2, h3, h4, h5, h9, h63, trivial⟩
  intro T H ⟨t2, t3, t4, t5, t6, t8, t9, t57, h2, h3, h4, h5, h9, h63, _⟩
  refine W_seq_ifb t57 (fun c11 => ?_) (fun c11 => ?_)
  ·
   have d1 := c11
   refine W_seq_seq ?_
   refine W_seq_regc (fun T H => T 2 = (V.mp 2 1 0 0) ∧ T 3 = (V.mp 3 1 0 0) ∧ T 4 = (V.mp 4 1 0 0) ∧ T 5 = (V.mp 5 1 0 0) ∧ T 8 = (iV ((k : Nat) : Int)) ∧ T 9 = (V.mp 9 (v9 + 1) 0 0) ∧ H 2 = (⟨1, true, false, 34, 2, [[(iV (o.i)), (V.sl (List.map cT (o.tr)))]]⟩ : Blk) ∧ H 3 = (⟨1, true, false, 63, 2, [[(V.sl (List.map cI (t.ni))), (V.sl (List.map cI (t.no)))]]⟩ : Blk) ∧ H 4 = (⟨1, true, false, 34, 2, [[(iV (0 : Int)), V.nilsl]]⟩ : Blk) ∧ H 5 = (⟨1, true, false, 34, 2, [[(iV (o.i)), (V.ms 63 (w + 1) 0 (((raS o.tr t k).1.length) + 1))]]⟩ : Blk) ∧ H 9 = (⟨v9 + 1, true, false, 63, 2, [[(V.sl (List.map cI ((nth (o.tr) (k)).ni))), (V.sl (List.map cI ((nth (o.tr) (k)).no)))]]⟩ : Blk) ∧ H 63 = (⟨w + 1, true, true, 63, 2, (List.map cT ((raS o.tr t k).1 ++ [t]))⟩ : Blk) ∧ True) ?_ ?_
   ·
    unfold r86_12
    refine R_fld_mp (o' := 1) t5 h5 (by first | rfl | simp [okB, Blk.own]) rfl ?_
    refine R_load_mp (v := (V.ms 63 w 0 ((raS o.tr t k).1.length))) (@rfl V (V.mp 5 1 0 1)) h5 (by first | rfl | simp [ldB, ldV, Blk.own, V.one]) ?_
    refine R_load_mp (v := (V.agg [(V.sl (List.map cI (t.ni))), (V.sl (List.map cI (t.no)))])) t3 h3 (by first | rfl | simp [ldB, ldV, Blk.own, V.one]) ?_
    refine R_call (evcons (@rfl V (V.agg [(V.sl (List.map cI (t.ni))), (V.sl (List.map cI (t.no)))])) evnil) (rcopied_pure t hn1 hn2) (fzv_mapcanon _ _ (by simp [-List.map_take, -List.map_drop, -List.map_append, -List.map_reverse])) (by simp [-List.map_take, -List.map_drop, -List.map_append, -List.map_reverse]) (Or.inl (by simp [-List.map_take, -List.map_drop, -List.map_append, -List.map_reverse])) ?_
    refine R_bslice (qs := [(0, (V.agg [(V.sl (List.map cI (t.ni))), (V.sl (List.map cI (t.no)))]))]) (rows := [[(V.sl (List.map cI (t.ni))), (V.sl (List.map cI (t.no)))]]) (mcons (congrArg (fun v => (0, v)) (@rfl V (V.agg [(V.sl (List.map cI (t.ni))), (V.sl (List.map cI (t.no)))]))) rfl) rfl ?_
    refine R_append1 (l := ((raS o.tr t k).1)) (f := cT) (x := t) (@rfl V (V.ms 63 w 0 ((raS o.tr t k).1.length))) h63 (by first | rfl | simp | omega) (@rfl V (V.sl [[(V.sl (List.map cI (t.ni))), (V.sl (List.map cI (t.no)))]])) rfl rfl (by omega) (by omega) ?_
    refine R_fld_mp (o' := 1) t5 h5 (by first | rfl | simp [okB, Blk.own]) rfl ?_
    refine R_store (vs := [(V.ms 63 (w + 1) 0 (((raS o.tr t k).1.length) + 1))]) (B' := (⟨1, true, false, 34, 2, [[(iV (o.i)), (V.ms 63 (w + 1) 0 (((raS o.tr t k).1.length) + 1))]]⟩ : Blk)) (@rfl V (V.mp 5 1 0 1)) (@rfl V (V.ms 63 (w + 1) 0 (((raS o.tr t k).1.length) + 1))) rfl h5 (by first | rfl | simp [stB, okB, Blk.own, putAt, V.one]) ?_
    exact R_nil ⟨t2, t3, t4, t5, t8, t9, h2, h3, h4, rfl, h9, rfl, trivial⟩
   intro T H ⟨t2, t3, t4, t5, t8, t9, h2, h3, h4, h5, h9, h63, _⟩
   refine W_seq_regc (fun T H => T 2 = (V.mp 2 1 0 0) ∧ T 3 = (V.mp 3 1 0 0) ∧ T 4 = (V.mp 4 1 0 0) ∧ T 5 = (V.mp 5 1 0 0) ∧ T 6 = (V.bool true) ∧ T 8 = (iV ((k : Nat) : Int)) ∧ T 9 = (V.mp 9 (v9 + 1) 0 0) ∧ H 2 = (⟨1, true, false, 34, 2, [[(iV (o.i)), (V.sl (List.map cT (o.tr)))]]⟩ : Blk) ∧ H 3 = (⟨1, true, false, 63, 2, [[(V.sl (List.map cI (t.ni))), (V.sl (List.map cI (t.no)))]]⟩ : Blk) ∧ H 4 = (⟨1, true, false, 34, 2, [[(iV (0 : Int)), V.nilsl]]⟩ : Blk) ∧ H 5 = (⟨1, true, false, 34, 2, [[(iV (o.i)), (V.ms 63 (w + 1) 0 (((raS o.tr t k).1.length) + 1))]]⟩ : Blk) ∧ H 9 = (⟨v9 + 1, true, false, 63, 2, [[(V.sl (List.map cI ((nth (o.tr) (k)).ni))), (V.sl (List.map cI ((nth (o.tr) (k)).no)))]]⟩ : Blk) ∧ H 63 = (⟨w + 1, true, true, 63, 2, (List.map cT ((raS o.tr t k).1 ++ [t]))⟩ : Blk) ∧ True) ?_ ?_
   ·
    unfold r86_13
    refine R_mv (@rfl V (V.bool true)) ?_
    exact R_nil ⟨t2, t3, t4, t5, rfl, t8, t9, h2, h3, h4, h5, h9, h63, trivial⟩
   intro T H ⟨t2, t3, t4, t5, t6, t8, t9, h2, h3, h4, h5, h9, h63, _⟩
   refine W_seq_regc (fun T H => T 2 = (V.mp 2 1 0 0) ∧ T 3 = (V.mp 3 1 0 0) ∧ T 4 = (V.mp 4 1 0 0) ∧ T 5 = (V.mp 5 1 0 0) ∧ T 6 = (V.bool true) ∧ T 8 = (iV ((k : Nat) : Int)) ∧ T 9 = (V.mp 9 (v9 + 1) 0 0) ∧ T 79 = (V.bool ((((!hp t.ni ((nth (o.tr) (k)).ni))) || decide (((t.ni.length : Nat) : Int) = ((((nth (o.tr) (k)).ni).length : Nat) : Int))))) ∧ H 2 = (⟨1, true, false, 34, 2, [[(iV (o.i)), (V.sl (List.map cT (o.tr)))]]⟩ : Blk) ∧ H 3 = (⟨1, true, false, 63, 2, [[(V.sl (List.map cI (t.ni))), (V.sl (List.map cI (t.no)))]]⟩ : Blk) ∧ H 4 = (⟨1, true, false, 34, 2, [[(iV (0 : Int)), V.nilsl]]⟩ : Blk) ∧ H 5 = (⟨1, true, false, 34, 2, [[(iV (o.i)), (V.ms 63 (w + 1) 0 (((raS o.tr t k).1.length) + 1))]]⟩ : Blk) ∧ H 9 = (⟨v9 + 1, true, false, 63, 2, [[(V.sl (List.map cI ((nth (o.tr) (k)).ni))), (V.sl (List.map cI ((nth (o.tr) (k)).no)))]]⟩ : Blk) ∧ H 63 = (⟨w + 1, true, true, 63, 2, (List.map cT ((raS o.tr t k).1 ++ [t]))⟩ : Blk) ∧ True) ?_ ?_
   ·
    unfold r86_14
    refine R_fld_mp (o' := 0) t3 h3 (by first | rfl | simp [okB, Blk.own]) rfl ?_
    refine R_load_mp (v := (V.sl (List.map cI (t.ni)))) (@rfl V (V.mp 3 1 0 0)) h3 (by first | rfl | simp [ldB, ldV, Blk.own, V.one]) ?_
    refine R_fld_mp (o' := 0) t9 h9 (by first | rfl | simp [okB, Blk.own]) rfl ?_
    refine R_load_mp (v := (V.sl (List.map cI ((nth (o.tr) (k)).ni)))) (@rfl V (V.mp 9 (v9 + 1) 0 0)) h9 (by first | rfl | simp [ldB, ldV, Blk.own, V.one]) ?_
    refine R_call (evcons (@rfl V (V.sl (List.map cI (t.ni)))) (evcons (@rfl V (V.sl (List.map cI ((nth (o.tr) (k)).ni)))) evnil)) (rhp_pure t.ni ((nth (o.tr) (k)).ni)) (fzv_mapcanon _ _ (by simp [-List.map_take, -List.map_drop, -List.map_append, -List.map_reverse])) (by simp [-List.map_take, -List.map_drop, -List.map_append, -List.map_reverse]) (Or.inl (by simp [-List.map_take, -List.map_drop, -List.map_append, -List.map_reverse])) ?_
    refine R_notb (@rfl V (V.bool (hp t.ni ((nth (o.tr) (k)).ni)))) ?_
    refine R_mv (@rfl V (V.bool ((!hp t.ni ((nth (o.tr) (k)).ni))))) ?_
    refine Ops_seg 8 (fun T H => T 2 = (V.mp 2 1 0 0) ∧ T 3 = (V.mp 3 1 0 0) ∧ T 4 = (V.mp 4 1 0 0) ∧ T 5 = (V.mp 5 1 0 0) ∧ T 6 = (V.bool true) ∧ T 8 = (iV ((k : Nat) : Int)) ∧ T 9 = (V.mp 9 (v9 + 1) 0 0) ∧ T 79 = (V.bool ((((!hp t.ni ((nth (o.tr) (k)).ni))) || decide (((t.ni.length : Nat) : Int) = ((((nth (o.tr) (k)).ni).length : Nat) : Int))))) ∧ H 2 = (⟨1, true, false, 34, 2, [[(iV (o.i)), (V.sl (List.map cT (o.tr)))]]⟩ : Blk) ∧ H 3 = (⟨1, true, false, 63, 2, [[(V.sl (List.map cI (t.ni))), (V.sl (List.map cI (t.no)))]]⟩ : Blk) ∧ H 4 = (⟨1, true, false, 34, 2, [[(iV (0 : Int)), V.nilsl]]⟩ : Blk) ∧ H 5 = (⟨1, true, false, 34, 2, [[(iV (o.i)), (V.ms 63 (w + 1) 0 (((raS o.tr t k).1.length) + 1))]]⟩ : Blk) ∧ H 9 = (⟨v9 + 1, true, false, 63, 2, [[(V.sl (List.map cI ((nth (o.tr) (k)).ni))), (V.sl (List.map cI ((nth (o.tr) (k)).no)))]]⟩ : Blk) ∧ H 63 = (⟨w + 1, true, true, 63, 2, (List.map cT ((raS o.tr t k).1 ++ [t]))⟩ : Blk) ∧ True) ?_ ?_
    ·
     by_cases g12 : ((!hp t.ni ((nth (o.tr) (k)).ni))) = true
     ·
      refine G_no (Eq.trans (@rfl V (V.bool ((!hp t.ni ((nth (o.tr) (k)).ni))))) (bbT g12)) (by decide) ?_
      refine G_no (Eq.trans (@rfl V (V.bool ((!hp t.ni ((nth (o.tr) (k)).ni))))) (bbT g12)) (by decide) ?_
      refine G_no (Eq.trans (@rfl V (V.bool ((!hp t.ni ((nth (o.tr) (k)).ni))))) (bbT g12)) (by decide) ?_
      refine G_no (Eq.trans (@rfl V (V.bool ((!hp t.ni ((nth (o.tr) (k)).ni))))) (bbT g12)) (by decide) ?_
      refine G_no (Eq.trans (@rfl V (V.bool ((!hp t.ni ((nth (o.tr) (k)).ni))))) (bbT g12)) (by decide) ?_
      refine G_no (Eq.trans (@rfl V (V.bool ((!hp t.ni ((nth (o.tr) (k)).ni))))) (bbT g12)) (by decide) ?_
      refine G_no (Eq.trans (@rfl V (V.bool ((!hp t.ni ((nth (o.tr) (k)).ni))))) (bbT g12)) (by decide) ?_
      refine R_pickT (Eq.trans (@rfl V (V.bool ((!hp t.ni ((nth (o.tr) (k)).ni))))) (bbT g12)) (@rfl V (V.bool true)) ?_
      exact ⟨t2, t3, t4, t5, t6, t8, t9, (Eq.trans (@rfl V (V.bool true)) (borT g12)), h2, h3, h4, h5, h9, h63, trivial⟩
     ·
      refine G_yes (Eq.trans (@rfl V (V.bool ((!hp t.ni ((nth (o.tr) (k)).ni))))) (bbF g12)) ?_
      refine R_fld_mp (o' := 0) t3 h3 (by first | rfl | simp [okB, Blk.own]) rfl ?_
      refine G_yes (Eq.trans (@rfl V (V.bool ((!hp t.ni ((nth (o.tr) (k)).ni))))) (bbF g12)) ?_
      refine R_load_mp (v := (V.sl (List.map cI (t.ni)))) (@rfl V (V.mp 3 1 0 0)) h3 (by first | rfl | simp [ldB, ldV, Blk.own, V.one]) ?_
      refine G_yes (Eq.trans (@rfl V (V.bool ((!hp t.ni ((nth (o.tr) (k)).ni))))) (bbF g12)) ?_
      refine R_len (@rfl V (V.sl (List.map cI (t.ni)))) ?_
      refine G_yes (Eq.trans (@rfl V (V.bool ((!hp t.ni ((nth (o.tr) (k)).ni))))) (bbF g12)) ?_
      refine R_fld_mp (o' := 0) t9 h9 (by first | rfl | simp [okB, Blk.own]) rfl ?_
      refine G_yes (Eq.trans (@rfl V (V.bool ((!hp t.ni ((nth (o.tr) (k)).ni))))) (bbF g12)) ?_
      refine R_load_mp (v := (V.sl (List.map cI ((nth (o.tr) (k)).ni)))) (@rfl V (V.mp 9 (v9 + 1) 0 0)) h9 (by first | rfl | simp [ldB, ldV, Blk.own, V.one]) ?_
      refine G_yes (Eq.trans (@rfl V (V.bool ((!hp t.ni ((nth (o.tr) (k)).ni))))) (bbF g12)) ?_
      refine R_len (@rfl V (V.sl (List.map cI ((nth (o.tr) (k)).ni)))) ?_
      refine G_yes (Eq.trans (@rfl V (V.bool ((!hp t.ni ((nth (o.tr) (k)).ni))))) (bbF g12)) ?_
      refine R_eql (x := ((t.ni.length : Nat) : Int)) (y := ((((nth (o.tr) (k)).ni).length : Nat) : Int)) (@rfl V (iV ((t.ni.length : Nat) : Int))) (@rfl V (iV ((((nth (o.tr) (k)).ni).length : Nat) : Int))) ?_
      refine R_pickF (Eq.trans (@rfl V (V.bool ((!hp t.ni ((nth (o.tr) (k)).ni))))) (bbF g12)) (@rfl V (V.bool (decide (((t.ni.length : Nat) : Int) = ((((nth (o.tr) (k)).ni).length : Nat) : Int))))) ?_
      exact ⟨t2, t3, t4, t5, t6, t8, t9, (Eq.trans (@rfl V (V.bool (decide (((t.ni.length : Nat) : Int) = ((((nth (o.tr) (k)).ni).length : Nat) : Int))))) (borF g12)), h2, h3, h4, h5, h9, h63, trivial⟩
    intro T H ⟨t2, t3, t4, t5, t6, t8, t9, t79, h2, h3, h4, h5, h9, h63, _⟩
    exact R_nil ⟨t2, t3, t4, t5, t6, t8, t9, t79, h2, h3, h4, h5, h9, h63, trivial⟩
   intro T H ⟨t2, t3, t4, t5, t6, t8, t9, t79, h2, h3, h4, h5, h9, h63, _⟩
   refine W_ifb t79 (fun c13 => ?_) (fun c13 => ?_)
   ·
    have d2 : kpR t (nth o.tr k) = true := by simpa [kpR, Int.natCast_inj] using c13
    refine W_regc (fun T H => T 2 = (V.mp 2 1 0 0) ∧ T 3 = (V.mp 3 1 0 0) ∧ T 4 = (V.mp 4 1 0 0) ∧ T 5 = (V.mp 5 1 0 0) ∧ T 6 = (V.bool true) ∧ T 8 = (iV ((k : Nat) : Int)) ∧ H 2 = (⟨1, true, false, 34, 2, [[(iV (o.i)), (V.sl (List.map cT (o.tr)))]]⟩ : Blk) ∧ H 3 = (⟨1, true, false, 63, 2, [[(V.sl (List.map cI (t.ni))), (V.sl (List.map cI (t.no)))]]⟩ : Blk) ∧ H 4 = (⟨1, true, false, 34, 2, [[(iV (0 : Int)), V.nilsl]]⟩ : Blk) ∧ H 5 = (⟨1, true, false, 34, 2, [[(iV (o.i)), (V.ms 63 (w + 2) 0 (((raS o.tr t k).1.length) + 2))]]⟩ : Blk) ∧ H 9 = (⟨v9 + 1, true, false, 63, 2, [[(V.sl (List.map cI ((nth (o.tr) (k)).ni))), (V.sl (List.map cI ((nth (o.tr) (k)).no)))]]⟩ : Blk) ∧ H 63 = (⟨w + 2, true, true, 63, 2, (List.map cT ((raS o.tr t k).1 ++ [t] ++ [((nth (o.tr) (k)))]))⟩ : Blk) ∧ True) ?_ ?_
    ·
     unfold r86_15
     refine R_fld_mp (o' := 1) t5 h5 (by first | rfl | simp [okB, Blk.own]) rfl ?_
     refine R_load_mp (v := (V.ms 63 (w + 1) 0 (((raS o.tr t k).1.length) + 1))) (@rfl V (V.mp 5 1 0 1)) h5 (by first | rfl | simp [ldB, ldV, Blk.own, V.one]) ?_
     refine R_load_mp (v := (V.agg [(V.sl (List.map cI ((nth (o.tr) (k)).ni))), (V.sl (List.map cI ((nth (o.tr) (k)).no)))])) t9 h9 (by first | rfl | simp [ldB, ldV, Blk.own, V.one]) ?_
     refine R_call (evcons (@rfl V (V.agg [(V.sl (List.map cI ((nth (o.tr) (k)).ni))), (V.sl (List.map cI ((nth (o.tr) (k)).no)))])) evnil) (rcopied_pure ((nth (o.tr) (k))) (hbd k (by omega)).1 (hbd k (by omega)).2) (fzv_mapcanon _ _ (by simp [-List.map_take, -List.map_drop, -List.map_append, -List.map_reverse])) (by simp [-List.map_take, -List.map_drop, -List.map_append, -List.map_reverse]) (Or.inl (by simp [-List.map_take, -List.map_drop, -List.map_append, -List.map_reverse])) ?_
     refine R_bslice (qs := [(0, (V.agg [(V.sl (List.map cI (((nth (o.tr) (k))).ni))), (V.sl (List.map cI (((nth (o.tr) (k))).no)))]))]) (rows := [[(V.sl (List.map cI (((nth (o.tr) (k))).ni))), (V.sl (List.map cI (((nth (o.tr) (k))).no)))]]) (mcons (congrArg (fun v => (0, v)) (@rfl V (V.agg [(V.sl (List.map cI (((nth (o.tr) (k))).ni))), (V.sl (List.map cI (((nth (o.tr) (k))).no)))]))) rfl) rfl ?_
     refine R_append1 (l := ((raS o.tr t k).1 ++ [t])) (f := cT) (x := (((nth (o.tr) (k))))) (@rfl V (V.ms 63 (w + 1) 0 (((raS o.tr t k).1.length) + 1))) h63 (by first | rfl | simp | omega) (@rfl V (V.sl [[(V.sl (List.map cI (((nth (o.tr) (k))).ni))), (V.sl (List.map cI (((nth (o.tr) (k))).no)))]])) rfl rfl (by omega) (by omega) ?_
     refine R_fld_mp (o' := 1) t5 h5 (by first | rfl | simp [okB, Blk.own]) rfl ?_
     refine R_store (vs := [(V.ms 63 (w + 2) 0 (((raS o.tr t k).1.length) + 2))]) (B' := (⟨1, true, false, 34, 2, [[(iV (o.i)), (V.ms 63 (w + 2) 0 (((raS o.tr t k).1.length) + 2))]]⟩ : Blk)) (@rfl V (V.mp 5 1 0 1)) (@rfl V (V.ms 63 (w + 2) 0 (((raS o.tr t k).1.length) + 2))) rfl h5 (by first | rfl | simp [stB, okB, Blk.own, putAt, V.one]) ?_
     exact R_nil ⟨t2, t3, t4, t5, t6, t8, h2, h3, h4, rfl, h9, rfl, trivial⟩
    intro T H ⟨t2, t3, t4, t5, t6, t8, h2, h3, h4, h5, h9, h63, _⟩
    refine n9 _ _ ?_
    refine .done ?_
    refine W_regc (fun T H => T 2 = (V.mp 2 1 0 0) ∧ T 3 = (V.mp 3 1 0 0) ∧ T 4 = (V.mp 4 1 0 0) ∧ T 5 = (V.mp 5 1 0 0) ∧ T 6 = (V.bool true) ∧ T 8 = (iV ((k + 1 : Nat) : Int)) ∧ H 2 = (⟨1, true, false, 34, 2, [[(iV (o.i)), (V.sl (List.map cT (o.tr)))]]⟩ : Blk) ∧ H 3 = (⟨1, true, false, 63, 2, [[(V.sl (List.map cI (t.ni))), (V.sl (List.map cI (t.no)))]]⟩ : Blk) ∧ H 4 = (⟨1, true, false, 34, 2, [[(iV (0 : Int)), V.nilsl]]⟩ : Blk) ∧ H 5 = (⟨1, true, false, 34, 2, [[(iV (o.i)), (V.ms 63 (w + 2) 0 (((raS o.tr t k).1.length) + 2))]]⟩ : Blk) ∧ H 9 = (⟨v9 + 1, true, false, 63, 2, [[(V.sl (List.map cI ((nth (o.tr) (k)).ni))), (V.sl (List.map cI ((nth (o.tr) (k)).no)))]]⟩ : Blk) ∧ H 63 = (⟨w + 2, true, true, 63, 2, (List.map cT ((raS o.tr t k).1 ++ [t] ++ [((nth (o.tr) (k)))]))⟩ : Blk) ∧ True) ?_ ?_
    ·
     unfold r86_9
     refine R_mv t8 ?_
     refine R_addN (m := k) (n := 1) (@rfl V (iV ((k : Nat) : Int))) (@rfl V (iV ((1 : Nat) : Int))) (by omega) ?_
     refine R_mv (@rfl V (iV ((k + 1 : Nat) : Int))) ?_
     exact R_nil ⟨t2, t3, t4, t5, t6, rfl, h2, h3, h4, h5, h9, h63, trivial⟩
    intro T H ⟨t2, t3, t4, t5, t6, t8, h2, h3, h4, h5, h9, h63, _⟩
    refine p17 _ _ _ ?_ ⟨(k + 1), (w + 2), (v9 + 1), rfl, t2, t3, t4, t5, (Eq.trans t6 (by first | rfl | (rw [raS_tt d1 d2]; done) | (rw [raS_tf d1 d2]; done) | (rw [raS_ft d1 d2]; done) | (rw [raS_ff d1 d2]; done) | (simp [doA]; done) | (have e : k = o.tr.length := (by omega); subst e; rfl))), (Eq.trans t8 (by first | rfl | (rw [raS_tt d1 d2]; done) | (rw [raS_tf d1 d2]; done) | (rw [raS_ft d1 d2]; done) | (rw [raS_ff d1 d2]; done) | (simp [doA]; done) | (have e : k = o.tr.length := (by omega); subst e; rfl))), h2, h3, h4, (Eq.trans h5 (by first | rfl | (rw [raS_tt d1 d2]; done) | (rw [raS_tt d1 d2]; simp; done) | (rw [raS_tf d1 d2]; done) | (rw [raS_tf d1 d2]; simp; done) | (rw [raS_ft d1 d2]; done) | (rw [raS_ft d1 d2]; simp; done) | (rw [raS_ff d1 d2]; done))), (congrArg Blk.ver h9), (Eq.trans h63 (by first | rfl | (rw [raS_tt d1 d2]; done) | (rw [raS_tt d1 d2]; simp; done) | (rw [raS_tf d1 d2]; done) | (rw [raS_tf d1 d2]; simp; done) | (rw [raS_ft d1 d2]; done) | (rw [raS_ft d1 d2]; simp; done) | (rw [raS_ff d1 d2]; done))), ?_⟩
    · omega
    · omega
   have d2 : kpR t (nth o.tr k) = false := by simpa [kpR, Int.natCast_inj] using c13
   refine W_skip ?_
   refine n9 _ _ ?_
   refine .done ?_
   refine W_regc (fun T H => T 2 = (V.mp 2 1 0 0) ∧ T 3 = (V.mp 3 1 0 0) ∧ T 4 = (V.mp 4 1 0 0) ∧ T 5 = (V.mp 5 1 0 0) ∧ T 6 = (V.bool true) ∧ T 8 = (iV ((k + 1 : Nat) : Int)) ∧ H 2 = (⟨1, true, false, 34, 2, [[(iV (o.i)), (V.sl (List.map cT (o.tr)))]]⟩ : Blk) ∧ H 3 = (⟨1, true, false, 63, 2, [[(V.sl (List.map cI (t.ni))), (V.sl (List.map cI (t.no)))]]⟩ : Blk) ∧ H 4 = (⟨1, true, false, 34, 2, [[(iV (0 : Int)), V.nilsl]]⟩ : Blk) ∧ H 5 = (⟨1, true, false, 34, 2, [[(iV (o.i)), (V.ms 63 (w + 1) 0 (((raS o.tr t k).1.length) + 1))]]⟩ : Blk) ∧ H 9 = (⟨v9 + 1, true, false, 63, 2, [[(V.sl (List.map cI ((nth (o.tr) (k)).ni))), (V.sl (List.map cI ((nth (o.tr) (k)).no)))]]⟩ : Blk) ∧ H 63 = (⟨w + 1, true, true, 63, 2, (List.map cT ((raS o.tr t k).1 ++ [t]))⟩ : Blk) ∧ True) ?_ ?_
   ·
    unfold r86_9
    refine R_mv t8 ?_
    refine R_addN (m := k) (n := 1) (@rfl V (iV ((k : Nat) : Int))) (@rfl V (iV ((1 : Nat) : Int))) (by omega) ?_
    refine R_mv (@rfl V (iV ((k + 1 : Nat) : Int))) ?_
    exact R_nil ⟨t2, t3, t4, t5, t6, rfl, h2, h3, h4, h5, h9, h63, trivial⟩
   intro T H ⟨t2, t3, t4, t5, t6, t8, h2, h3, h4, h5, h9, h63, _⟩
   refine p17 _ _ _ ?_ ⟨(k + 1), (w + 1), (v9 + 1), rfl, t2, t3, t4, t5, (Eq.trans t6 (by first | rfl | (rw [raS_tt d1 d2]; done) | (rw [raS_tf d1 d2]; done) | (rw [raS_ft d1 d2]; done) | (rw [raS_ff d1 d2]; done) | (simp [doA]; done) | (have e : k = o.tr.length := (by omega); subst e; rfl))), (Eq.trans t8 (by first | rfl | (rw [raS_tt d1 d2]; done) | (rw [raS_tf d1 d2]; done) | (rw [raS_ft d1 d2]; done) | (rw [raS_ff d1 d2]; done) | (simp [doA]; done) | (have e : k = o.tr.length := (by omega); subst e; rfl))), h2, h3, h4, (Eq.trans h5 (by first | rfl | (rw [raS_tt d1 d2]; done) | (rw [raS_tt d1 d2]; simp; done) | (rw [raS_tf d1 d2]; done) | (rw [raS_tf d1 d2]; simp; done) | (rw [raS_ft d1 d2]; done) | (rw [raS_ft d1 d2]; simp; done) | (rw [raS_ff d1 d2]; done))), (congrArg Blk.ver h9), (Eq.trans h63 (by first | rfl | (rw [raS_tt d1 d2]; done) | (rw [raS_tt d1 d2]; simp; done) | (rw [raS_tf d1 d2]; done) | (rw [raS_tf d1 d2]; simp; done) | (rw [raS_ft d1 d2]; done) | (rw [raS_ft d1 d2]; simp; done) | (rw [raS_ff d1 d2]; done))), ?_⟩
   · omega
   · omega
  have d1 := c11
  refine W_seq_skip ?_
  refine W_seq_regc (fun T H => T 2 = (V.mp 2 1 0 0) ∧ T 3 = (V.mp 3 1 0 0) ∧ T 4 = (V.mp 4 1 0 0) ∧ T 5 = (V.mp 5 1 0 0) ∧ T 6 = (V.bool ((raS o.tr t k).2)) ∧ T 8 = (iV ((k : Nat) : Int)) ∧ T 9 = (V.mp 9 (v9 + 1) 0 0) ∧ T 79 = (V.bool ((((!hp t.ni ((nth (o.tr) (k)).ni))) || decide (((t.ni.length : Nat) : Int) = ((((nth (o.tr) (k)).ni).length : Nat) : Int))))) ∧ H 2 = (⟨1, true, false, 34, 2, [[(iV (o.i)), (V.sl (List.map cT (o.tr)))]]⟩ : Blk) ∧ H 3 = (⟨1, true, false, 63, 2, [[(V.sl (List.map cI (t.ni))), (V.sl (List.map cI (t.no)))]]⟩ : Blk) ∧ H 4 = (⟨1, true, false, 34, 2, [[(iV (0 : Int)), V.nilsl]]⟩ : Blk) ∧ H 5 = (⟨1, true, false, 34, 2, [[(iV (o.i)), (V.ms 63 w 0 ((raS o.tr t k).1.length))]]⟩ : Blk) ∧ H 9 = (⟨v9 + 1, true, false, 63, 2, [[(V.sl (List.map cI ((nth (o.tr) (k)).ni))), (V.sl (List.map cI ((nth (o.tr) (k)).no)))]]⟩ : Blk) ∧ H 63 = (⟨w, true, true, 63, 2, (List.map cT ((raS o.tr t k).1))⟩ : Blk) ∧ True) ?_ ?_
  ·
   unfold r86_14
   refine R_fld_mp (o' := 0) t3 h3 (by first | rfl | simp [okB, Blk.own]) rfl ?_
   refine R_load_mp (v := (V.sl (List.map cI (t.ni)))) (@rfl V (V.mp 3 1 0 0)) h3 (by first | rfl | simp [ldB, ldV, Blk.own, V.one]) ?_
   refine R_fld_mp (o' := 0) t9 h9 (by first | rfl | simp [okB, Blk.own]) rfl ?_
   refine R_load_mp (v := (V.sl (List.map cI ((nth (o.tr) (k)).ni)))) (@rfl V (V.mp 9 (v9 + 1) 0 0)) h9 (by first | rfl | simp [ldB, ldV, Blk.own, V.one]) ?_
   refine R_call (evcons (@rfl V (V.sl (List.map cI (t.ni)))) (evcons (@rfl V (V.sl (List.map cI ((nth (o.tr) (k)).ni)))) evnil)) (rhp_pure t.ni ((nth (o.tr) (k)).ni)) (fzv_mapcanon _ _ (by simp [-List.map_take, -List.map_drop, -List.map_append, -List.map_reverse])) (by simp [-List.map_take, -List.map_drop, -List.map_append, -List.map_reverse]) (Or.inl (by simp [-List.map_take, -List.map_drop, -List.map_append, -List.map_reverse])) ?_
   refine R_notb (@rfl V (V.bool (hp t.ni ((nth (o.tr) (k)).ni)))) ?_
   refine R_mv (@rfl V (V.bool ((!hp t.ni ((nth (o.tr) (k)).ni))))) ?_
   refine Ops_seg 8 (fun T H => T 2 = (V.mp 2 1 0 0) ∧ T 3 = (V.mp 3 1 0 0) ∧ T 4 = (V.mp 4 1 0 0) ∧ T 5 = (V.mp 5 1 0 0) ∧ T 6 = (V.bool ((raS o.tr t k).2)) ∧ T 8 = (iV ((k : Nat) : Int)) ∧ T 9 = (V.mp 9 (v9 + 1) 0 0) ∧ T 79 = (V.bool ((((!hp t.ni ((nth (o.tr) (k)).ni))) || decide (((t.ni.length : Nat) : Int) = ((((nth (o.tr) (k)).ni).length : Nat) : Int))))) ∧ H 2 = (⟨1, true, false, 34, 2, [[(iV (o.i)), (V.sl (List.map cT (o.tr)))]]⟩ : Blk) ∧ H 3 = (⟨1, true, false, 63, 2, [[(V.sl (List.map cI (t.ni))), (V.sl (List.map cI (t.no)))]]⟩ : Blk) ∧ H 4 = (⟨1, true, false, 34, 2, [[(iV (0 : Int)), V.nilsl]]⟩ : Blk) ∧ H 5 = (⟨1, true, false, 34, 2, [[(iV (o.i)), (V.ms 63 w 0 ((raS o.tr t k).1.length))]]⟩ : Blk) ∧ H 9 = (⟨v9 + 1, true, false, 63, 2, [[(V.sl (List.map cI ((nth (o.tr) (k)).ni))), (V.sl (List.map cI ((nth (o.tr) (k)).no)))]]⟩ : Blk) ∧ H 63 = (⟨w, true, true, 63, 2, (List.map cT ((raS o.tr t k).1))⟩ : Blk) ∧ True) ?_ ?_
   ·
    by_cases g14 : ((!hp t.ni ((nth (o.tr) (k)).ni))) = true
    ·
     refine G_no (Eq.trans (@rfl V (V.bool ((!hp t.ni ((nth (o.tr) (k)).ni))))) (bbT g14)) (by decide) ?_
     refine G_no (Eq.trans (@rfl V (V.bool ((!hp t.ni ((nth (o.tr) (k)).ni))))) (bbT g14)) (by decide) ?_
     refine G_no (Eq.trans (@rfl V (V.bool ((!hp t.ni ((nth (o.tr) (k)).ni))))) (bbT g14)) (by decide) ?_
     refine G_no (Eq.trans (@rfl V (V.bool ((!hp t.ni ((nth (o.tr) (k)).ni))))) (bbT g14)) (by decide) ?_
     refine G_no (Eq.trans (@rfl V (V.bool ((!hp t.ni ((nth (o.tr) (k)).ni))))) (bbT g14)) (by decide) ?_
     refine G_no (Eq.trans (@rfl V (V.bool ((!hp t.ni ((nth (o.tr) (k)).ni))))) (bbT g14)) (by decide) ?_
     refine G_no (Eq.trans (@rfl V (V.bool ((!hp t.ni ((nth (o.tr) (k)).ni))))) (bbT g14)) (by decide) ?_
     refine R_pickT (Eq.trans (@rfl V (V.bool ((!hp t.ni ((nth (o.tr) (k)).ni))))) (bbT g14)) (@rfl V (V.bool true)) ?_
     exact ⟨t2, t3, t4, t5, t6, t8, t9, (Eq.trans (@rfl V (V.bool true)) (borT g14)), h2, h3, h4, h5, h9, h63, trivial⟩
    ·
     refine G_yes (Eq.trans (@rfl V (V.bool ((!hp t.ni ((nth (o.tr) (k)).ni))))) (bbF g14)) ?_
     refine R_fld_mp (o' := 0) t3 h3 (by first | rfl | simp [okB, Blk.own]) rfl ?_
     refine G_yes (Eq.trans (@rfl V (V.bool ((!hp t.ni ((nth (o.tr) (k)).ni))))) (bbF g14)) ?_
     refine R_load_mp (v := (V.sl (List.map cI (t.ni)))) (@rfl V (V.mp 3 1 0 0)) h3 (by first | rfl | simp [ldB, ldV, Blk.own, V.one]) ?_
     refine G_yes (Eq.trans (@rfl V (V.bool ((!hp t.ni ((nth (o.tr) (k)).ni))))) (bbF g14)) ?_
     refine R_len (@rfl V (V.sl (List.map cI (t.ni)))) ?_
     refine G_yes (Eq.trans (@rfl V (V.bool ((!hp t.ni ((nth (o.tr) (k)).ni))))) (bbF g14)) ?_
     refine R_fld_mp (o' := 0) t9 h9 (by first | rfl | simp [okB, Blk.own]) rfl ?_
     refine G_yes (Eq.trans (@rfl V (V.bool ((!hp t.ni ((nth (o.tr) (k)).ni))))) (bbF g14)) ?_
     refine R_load_mp (v := (V.sl (List.map cI ((nth (o.tr) (k)).ni)))) (@rfl V (V.mp 9 (v9 + 1) 0 0)) h9 (by first | rfl | simp [ldB, ldV, Blk.own, V.one]) ?_
     refine G_yes (Eq.trans (@rfl V (V.bool ((!hp t.ni ((nth (o.tr) (k)).ni))))) (bbF g14)) ?_
     refine R_len (@rfl V (V.sl (List.map cI ((nth (o.tr) (k)).ni)))) ?_
     refine G_yes (Eq.trans (@rfl V (V.bool ((!hp t.ni ((nth (o.tr) (k)).ni))))) (bbF g14)) ?_
     refine R_eql (x := ((t.ni.length : Nat) : Int)) (y := ((((nth (o.tr) (k)).ni).length : Nat) : Int)) (@rfl V (iV ((t.ni.length : Nat) : Int))) (@rfl V (iV ((((nth (o.tr) (k)).ni).length : Nat) : Int))) ?_
     refine R_pickF (Eq.trans (@rfl V (V.bool ((!hp t.ni ((nth (o.tr) (k)).ni))))) (bbF g14)) (@rfl V (V.bool (decide (((t.ni.length : Nat) : Int) = ((((nth (o.tr) (k)).ni).length : Nat) : Int))))) ?_
     exact ⟨t2, t3, t4, t5, t6, t8, t9, (Eq.trans (@rfl V (V.bool (decide (((t.ni.length : Nat) : Int) = ((((nth (o.tr) (k)).ni).length : Nat) : Int))))) (borF g14)), h2, h3, h4, h5, h9, h63, trivial⟩
   intro T H ⟨t2, t3, t4, t5, t6, t8, t9, t79, h2, h3, h4, h5, h9, h63, _⟩
   exact R_nil ⟨t2, t3, t4, t5, t6, t8, t9, t79, h2, h3, h4, h5, h9, h63, trivial⟩
  intro T H ⟨t2, t3, t4, t5, t6, t8, t9, t79, h2, h3, h4, h5, h9, h63, _⟩
  refine W_ifb t79 (fun c15 => ?_) (fun c15 => ?_)
  ·
   have d2 : kpR t (nth o.tr k) = true := by simpa [kpR, Int.natCast_inj] using c15
   refine W_regc (fun T H => T 2 = (V.mp 2 1 0 0) ∧ T 3 = (V.mp 3 1 0 0) ∧ T 4 = (V.mp 4 1 0 0) ∧ T 5 = (V.mp 5 1 0 0) ∧ T 6 = (V.bool ((raS o.tr t k).2)) ∧ T 8 = (iV ((k : Nat) : Int)) ∧ H 2 = (⟨1, true, false, 34, 2, [[(iV (o.i)), (V.sl (List.map cT (o.tr)))]]⟩ : Blk) ∧ H 3 = (⟨1, true, false, 63, 2, [[(V.sl (List.map cI (t.ni))), (V.sl (List.map cI (t.no)))]]⟩ : Blk) ∧ H 4 = (⟨1, true, false, 34, 2, [[(iV (0 : Int)), V.nilsl]]⟩ : Blk) ∧ H 5 = (⟨1, true, false, 34, 2, [[(iV (o.i)), (V.ms 63 (w + 1) 0 (((raS o.tr t k).1.length) + 1))]]⟩ : Blk) ∧ H 9 = (⟨v9 + 1, true, false, 63, 2, [[(V.sl (List.map cI ((nth (o.tr) (k)).ni))), (V.sl (List.map cI ((nth (o.tr) (k)).no)))]]⟩ : Blk) ∧ H 63 = (⟨w + 1, true, true, 63, 2, (List.map cT ((raS o.tr t k).1 ++ [((nth (o.tr) (k)))]))⟩ : Blk) ∧ True) ?_ ?_
   ·
    unfold r86_15
    refine R_fld_mp (o' := 1) t5 h5 (by first | rfl | simp [okB, Blk.own]) rfl ?_
    refine R_load_mp (v := (V.ms 63 w 0 ((raS o.tr t k).1.length))) (@rfl V (V.mp 5 1 0 1)) h5 (by first | rfl | simp [ldB, ldV, Blk.own, V.one]) ?_
    refine R_load_mp (v := (V.agg [(V.sl (List.map cI ((nth (o.tr) (k)).ni))), (V.sl (List.map cI ((nth (o.tr) (k)).no)))])) t9 h9 (by first | rfl | simp [ldB, ldV, Blk.own, V.one]) ?_
    refine R_call (evcons (@rfl V (V.agg [(V.sl (List.map cI ((nth (o.tr) (k)).ni))), (V.sl (List.map cI ((nth (o.tr) (k)).no)))])) evnil) (rcopied_pure ((nth (o.tr) (k))) (hbd k (by omega)).1 (hbd k (by omega)).2) (fzv_mapcanon _ _ (by simp [-List.map_take, -List.map_drop, -List.map_append, -List.map_reverse])) (by simp [-List.map_take, -List.map_drop, -List.map_append, -List.map_reverse]) (Or.inl (by simp [-List.map_take, -List.map_drop, -List.map_append, -List.map_reverse])) ?_
    refine R_bslice (qs := [(0, (V.agg [(V.sl (List.map cI (((nth (o.tr) (k))).ni))), (V.sl (List.map cI (((nth (o.tr) (k))).no)))]))]) (rows := [[(V.sl (List.map cI (((nth (o.tr) (k))).ni))), (V.sl (List.map cI (((nth (o.tr) (k))).no)))]]) (mcons (congrArg (fun v => (0, v)) (@rfl V (V.agg [(V.sl (List.map cI (((nth (o.tr) (k))).ni))), (V.sl (List.map cI (((nth (o.tr) (k))).no)))]))) rfl) rfl ?_
    refine R_append1 (l := ((raS o.tr t k).1)) (f := cT) (x := (((nth (o.tr) (k))))) (@rfl V (V.ms 63 w 0 ((raS o.tr t k).1.length))) h63 (by first | rfl | simp | omega) (@rfl V (V.sl [[(V.sl (List.map cI (((nth (o.tr) (k))).ni))), (V.sl (List.map cI (((nth (o.tr) (k))).no)))]])) rfl rfl (by omega) (by omega) ?_
    refine R_fld_mp (o' := 1) t5 h5 (by first | rfl | simp [okB, Blk.own]) rfl ?_
    refine R_store (vs := [(V.ms 63 (w + 1) 0 (((raS o.tr t k).1.length) + 1))]) (B' := (⟨1, true, false, 34, 2, [[(iV (o.i)), (V.ms 63 (w + 1) 0 (((raS o.tr t k).1.length) + 1))]]⟩ : Blk)) (@rfl V (V.mp 5 1 0 1)) (@rfl V (V.ms 63 (w + 1) 0 (((raS o.tr t k).1.length) + 1))) rfl h5 (by first | rfl | simp [stB, okB, Blk.own, putAt, V.one]) ?_
    exact R_nil ⟨t2, t3, t4, t5, t6, t8, h2, h3, h4, rfl, h9, rfl, trivial⟩
   intro T H ⟨t2, t3, t4, t5, t6, t8, h2, h3, h4, h5, h9, h63, _⟩
   refine n9 _ _ ?_
   refine .done ?_
   refine W_regc (fun T H => T 2 = (V.mp 2 1 0 0) ∧ T 3 = (V.mp 3 1 0 0) ∧ T 4 = (V.mp 4 1 0 0) ∧ T 5 = (V.mp 5 1 0 0) ∧ T 6 = (V.bool ((raS o.tr t k).2)) ∧ T 8 = (iV ((k + 1 : Nat) : Int)) ∧ H 2 = (⟨1, true, false, 34, 2, [[(iV (o.i)), (V.sl (List.map cT (o.tr)))]]⟩ : Blk) ∧ H 3 = (⟨1, true, false, 63, 2, [[(V.sl (List.map cI (t.ni))), (V.sl (List.map cI (t.no)))]]⟩ : Blk) ∧ H 4 = (⟨1, true, false, 34, 2, [[(iV (0 : Int)), V.nilsl]]⟩ : Blk) ∧ H 5 = (⟨1, true, false, 34, 2, [[(iV (o.i)), (V.ms 63 (w + 1) 0 (((raS o.tr t k).1.length) + 1))]]⟩ : Blk) ∧ H 9 = (⟨v9 + 1, true, false, 63, 2, [[(V.sl (List.map cI ((nth (o.tr) (k)).ni))), (V.sl (List.map cI ((nth (o.tr) (k)).no)))]]⟩ : Blk) ∧ H 63 = (⟨w + 1, true, true, 63, 2, (List.map cT ((raS o.tr t k).1 ++ [((nth (o.tr) (k)))]))⟩ : Blk) ∧ True) ?_ ?_
   ·
    unfold r86_9
    refine R_mv t8 ?_
    refine R_addN (m := k) (n := 1) (@rfl V (iV ((k : Nat) : Int))) (@rfl V (iV ((1 : Nat) : Int))) (by omega) ?_
    refine R_mv (@rfl V (iV ((k + 1 : Nat) : Int))) ?_
    exact R_nil ⟨t2, t3, t4, t5, t6, rfl, h2, h3, h4, h5, h9, h63, trivial⟩
   intro T H ⟨t2, t3, t4, t5, t6, t8, h2, h3, h4, h5, h9, h63, _⟩
   refine p17 _ _ _ ?_ ⟨(k + 1), (w + 1), (v9 + 1), rfl, t2, t3, t4, t5, (Eq.trans t6 (by first | rfl | (rw [raS_tt d1 d2]; done) | (rw [raS_tf d1 d2]; done) | (rw [raS_ft d1 d2]; done) | (rw [raS_ff d1 d2]; done) | (simp [doA]; done) | (have e : k = o.tr.length := (by omega); subst e; rfl))), (Eq.trans t8 (by first | rfl | (rw [raS_tt d1 d2]; done) | (rw [raS_tf d1 d2]; done) | (rw [raS_ft d1 d2]; done) | (rw [raS_ff d1 d2]; done) | (simp [doA]; done) | (have e : k = o.tr.length := (by omega); subst e; rfl))), h2, h3, h4, (Eq.trans h5 (by first | rfl | (rw [raS_tt d1 d2]; done) | (rw [raS_tt d1 d2]; simp; done) | (rw [raS_tf d1 d2]; done) | (rw [raS_tf d1 d2]; simp; done) | (rw [raS_ft d1 d2]; done) | (rw [raS_ft d1 d2]; simp; done) | (rw [raS_ff d1 d2]; done))), (congrArg Blk.ver h9), (Eq.trans h63 (by first | rfl | (rw [raS_tt d1 d2]; done) | (rw [raS_tt d1 d2]; simp; done) | (rw [raS_tf d1 d2]; done) | (rw [raS_tf d1 d2]; simp; done) | (rw [raS_ft d1 d2]; done) | (rw [raS_ft d1 d2]; simp; done) | (rw [raS_ff d1 d2]; done))), ?_⟩
   · omega
   · omega
  have d2 : kpR t (nth o.tr k) = false := by simpa [kpR, Int.natCast_inj] using c15
  refine W_skip ?_
  refine n9 _ _ ?_
  refine .done ?_
  refine W_regc (fun T H => T 2 = (V.mp 2 1 0 0) ∧ T 3 = (V.mp 3 1 0 0) ∧ T 4 = (V.mp 4 1 0 0) ∧ T 5 = (V.mp 5 1 0 0) ∧ T 6 = (V.bool ((raS o.tr t k).2)) ∧ T 8 = (iV ((k + 1 : Nat) : Int)) ∧ H 2 = (⟨1, true, false, 34, 2, [[(iV (o.i)), (V.sl (List.map cT (o.tr)))]]⟩ : Blk) ∧ H 3 = (⟨1, true, false, 63, 2, [[(V.sl (List.map cI (t.ni))), (V.sl (List.map cI (t.no)))]]⟩ : Blk) ∧ H 4 = (⟨1, true, false, 34, 2, [[(iV (0 : Int)), V.nilsl]]⟩ : Blk) ∧ H 5 = (⟨1, true, false, 34, 2, [[(iV (o.i)), (V.ms 63 w 0 ((raS o.tr t k).1.length))]]⟩ : Blk) ∧ H 9 = (⟨v9 + 1, true, false, 63, 2, [[(V.sl (List.map cI ((nth (o.tr) (k)).ni))), (V.sl (List.map cI ((nth (o.tr) (k)).no)))]]⟩ : Blk) ∧ H 63 = (⟨w, true, true, 63, 2, (List.map cT ((raS o.tr t k).1))⟩ : Blk) ∧ True) ?_ ?_
  ·
   unfold r86_9
   refine R_mv t8 ?_
   refine R_addN (m := k) (n := 1) (@rfl V (iV ((k : Nat) : Int))) (@rfl V (iV ((1 : Nat) : Int))) (by omega) ?_
   refine R_mv (@rfl V (iV ((k + 1 : Nat) : Int))) ?_
   exact R_nil ⟨t2, t3, t4, t5, t6, rfl, h2, h3, h4, h5, h9, h63, trivial⟩
  intro T H ⟨t2, t3, t4, t5, t6, t8, h2, h3, h4, h5, h9, h63, _⟩
  refine p17 _ _ _ ?_ ⟨(k + 1), w, (v9 + 1), rfl, t2, t3, t4, t5, (Eq.trans t6 (by first | rfl | (rw [raS_tt d1 d2]; done) | (rw [raS_tf d1 d2]; done) | (rw [raS_ft d1 d2]; done) | (rw [raS_ff d1 d2]; done) | (simp [doA]; done) | (have e : k = o.tr.length := (by omega); subst e; rfl))), (Eq.trans t8 (by first | rfl | (rw [raS_tt d1 d2]; done) | (rw [raS_tf d1 d2]; done) | (rw [raS_ft d1 d2]; done) | (rw [raS_ff d1 d2]; done) | (simp [doA]; done) | (have e : k = o.tr.length := (by omega); subst e; rfl))), h2, h3, h4, (Eq.trans h5 (by first | rfl | (rw [raS_tt d1 d2]; done) | (rw [raS_tt d1 d2]; simp; done) | (rw [raS_tf d1 d2]; done) | (rw [raS_tf d1 d2]; simp; done) | (rw [raS_ft d1 d2]; done) | (rw [raS_ft d1 d2]; simp; done) | (rw [raS_ff d1 d2]; done))), (congrArg Blk.ver h9), (Eq.trans h63 (by first | rfl | (rw [raS_tt d1 d2]; done) | (rw [raS_tt d1 d2]; simp; done) | (rw [raS_tf d1 d2]; done) | (rw [raS_tf d1 d2]; simp; done) | (rw [raS_ft d1 d2]; done) | (rw [raS_ft d1 d2]; simp; done) | (rw [raS_ff d1 d2]; done))), ?_⟩
  · omega
  · omega
 refine W_seq_exit ?_
 refine p37 _ _ _ ?_
 refine x6 _ _ ?_
 refine .done ?_
 refine W_seq_seq ?_
 refine W_seq_regc (fun T H => T 3 = (V.mp 3 1 0 0) ∧ T 4 = (V.mp 4 1 0 0) ∧ T 5 = (V.mp 5 1 0 0) ∧ T 88 = (V.bool ((!(raS o.tr t k).2))) ∧ H 2 = (⟨1, true, false, 34, 2, [[(iV (o.i)), (V.sl (List.map cT (o.tr)))]]⟩ : Blk) ∧ H 3 = (⟨1, true, false, 63, 2, [[(V.sl (List.map cI (t.ni))), (V.sl (List.map cI (t.no)))]]⟩ : Blk) ∧ H 4 = (⟨1, true, false, 34, 2, [[(iV (0 : Int)), V.nilsl]]⟩ : Blk) ∧ H 5 = (⟨1, true, false, 34, 2, [[(iV (o.i)), (V.ms 63 w 0 ((raS o.tr t k).1.length))]]⟩ : Blk) ∧ (H 9).ver = v9 ∧ H 63 = (⟨w, true, true, 63, 2, (List.map cT ((raS o.tr t k).1))⟩ : Blk) ∧ True) ?_ ?_
 ·
  unfold r86_16
  refine R_mv t6 ?_
  refine R_notb (@rfl V (V.bool ((raS o.tr t k).2))) ?_
  exact R_nil ⟨t3, t4, t5, rfl, h2, h3, h4, h5, h9, h63, trivial⟩
 intro T H ⟨t3, t4, t5, t88, h2, h3, h4, h5, h9, h63, _⟩
 refine W_seq_ifb t88 (fun c16 => ?_) (fun c16 => ?_)
 ·
  have d3 := c16
  refine W_seq_regc (fun T H => T 4 = (V.mp 4 1 0 0) ∧ T 5 = (V.mp 5 1 0 0) ∧ H 2 = (⟨1, true, false, 34, 2, [[(iV (o.i)), (V.sl (List.map cT (o.tr)))]]⟩ : Blk) ∧ H 3 = (⟨1, true, false, 63, 2, [[(V.sl (List.map cI (t.ni))), (V.sl (List.map cI (t.no)))]]⟩ : Blk) ∧ H 4 = (⟨1, true, false, 34, 2, [[(iV (0 : Int)), V.nilsl]]⟩ : Blk) ∧ H 5 = (⟨1, true, false, 34, 2, [[(iV (o.i)), (V.ms 63 (w + 1) 0 (((raS o.tr t k).1.length) + 1))]]⟩ : Blk) ∧ (H 9).ver = v9 ∧ H 63 = (⟨w + 1, true, true, 63, 2, (List.map cT ((raS o.tr t k).1 ++ [t]))⟩ : Blk) ∧ True) ?_ ?_
  ·
   unfold r86_17
   refine R_fld_mp (o' := 1) t5 h5 (by first | rfl | simp [okB, Blk.own]) rfl ?_
   refine R_load_mp (v := (V.ms 63 w 0 ((raS o.tr t k).1.length))) (@rfl V (V.mp 5 1 0 1)) h5 (by first | rfl | simp [ldB, ldV, Blk.own, V.one]) ?_
   refine R_load_mp (v := (V.agg [(V.sl (List.map cI (t.ni))), (V.sl (List.map cI (t.no)))])) t3 h3 (by first | rfl | simp [ldB, ldV, Blk.own, V.one]) ?_
   refine R_call (evcons (@rfl V (V.agg [(V.sl (List.map cI (t.ni))), (V.sl (List.map cI (t.no)))])) evnil) (rcopied_pure t hn1 hn2) (fzv_mapcanon _ _ (by simp [-List.map_take, -List.map_drop, -List.map_append, -List.map_reverse])) (by simp [-List.map_take, -List.map_drop, -List.map_append, -List.map_reverse]) (Or.inl (by simp [-List.map_take, -List.map_drop, -List.map_append, -List.map_reverse])) ?_
   refine R_bslice (qs := [(0, (V.agg [(V.sl (List.map cI (t.ni))), (V.sl (List.map cI (t.no)))]))]) (rows := [[(V.sl (List.map cI (t.ni))), (V.sl (List.map cI (t.no)))]]) (mcons (congrArg (fun v => (0, v)) (@rfl V (V.agg [(V.sl (List.map cI (t.ni))), (V.sl (List.map cI (t.no)))]))) rfl) rfl ?_
   refine R_append1 (l := ((raS o.tr t k).1)) (f := cT) (x := t) (@rfl V (V.ms 63 w 0 ((raS o.tr t k).1.length))) h63 (by first | rfl | simp | omega) (@rfl V (V.sl [[(V.sl (List.map cI (t.ni))), (V.sl (List.map cI (t.no)))]])) rfl rfl (by omega) (by omega) ?_
   refine R_fld_mp (o' := 1) t5 h5 (by first | rfl | simp [okB, Blk.own]) rfl ?_
   refine R_store (vs := [(V.ms 63 (w + 1) 0 (((raS o.tr t k).1.length) + 1))]) (B' := (⟨1, true, false, 34, 2, [[(iV (o.i)), (V.ms 63 (w + 1) 0 (((raS o.tr t k).1.length) + 1))]]⟩ : Blk)) (@rfl V (V.mp 5 1 0 1)) (@rfl V (V.ms 63 (w + 1) 0 (((raS o.tr t k).1.length) + 1))) rfl h5 (by first | rfl | simp [stB, okB, Blk.own, putAt, V.one]) ?_
   exact R_nil ⟨t4, t5, h2, h3, h4, rfl, h9, rfl, trivial⟩
  intro T H ⟨t4, t5, h2, h3, h4, h5, h9, h63, _⟩
  refine W_seq_regc (fun T H => T 4 = (V.mp 4 1 0 0) ∧ H 2 = (⟨1, true, false, 34, 2, [[(iV (o.i)), (V.sl (List.map cT (o.tr)))]]⟩ : Blk) ∧ H 3 = (⟨1, true, false, 63, 2, [[(V.sl (List.map cI (t.ni))), (V.sl (List.map cI (t.no)))]]⟩ : Blk) ∧ H 4 = (⟨1, true, false, 34, 2, [[(iV (o.i)), (V.ms 63 (w + 1) 0 (((raS o.tr t k).1.length) + 1))]]⟩ : Blk) ∧ H 5 = (⟨1, true, false, 34, 2, [[(iV (o.i)), (V.ms 63 (w + 1) 0 (((raS o.tr t k).1.length) + 1))]]⟩ : Blk) ∧ (H 9).ver = v9 ∧ H 63 = (⟨w + 1, true, true, 63, 2, (List.map cT ((raS o.tr t k).1 ++ [t]))⟩ : Blk) ∧ True) ?_ ?_
  ·
   unfold r86_18
   refine R_load_mp (v := (V.agg [(iV (o.i)), (V.ms 63 (w + 1) 0 (((raS o.tr t k).1.length) + 1))])) t5 h5 (by first | rfl | simp [ldB, ldV, Blk.own, V.one]) ?_
   refine R_store (vs := [(iV (o.i)), (V.ms 63 (w + 1) 0 (((raS o.tr t k).1.length) + 1))]) (B' := (⟨1, true, false, 34, 2, [[(iV (o.i)), (V.ms 63 (w + 1) 0 (((raS o.tr t k).1.length) + 1))]]⟩ : Blk)) t4 (@rfl V (V.agg [(iV (o.i)), (V.ms 63 (w + 1) 0 (((raS o.tr t k).1.length) + 1))])) rfl h4 (by first | rfl | simp [stB, okB, Blk.own, putAt, V.one]) ?_
   exact R_nil ⟨t4, h2, h3, rfl, h5, h9, h63, trivial⟩
  intro T H ⟨t4, h2, h3, h4, h5, h9, h63, _⟩
  refine W_ret ?_
  refine RetC_1 (resV_c (u := (V.agg [(iV (o.i)), (V.ms 63 (w + 1) 0 (((raS o.tr t k).1.length) + 1))])) t4 h4 (by first | rfl | simp [ldB, ldV, Blk.own, V.one])) (fz_agg2 (fz_canon (by simp) rfl) (fz_ms h63 (by first | rfl | simp) (l := ((raS o.tr t k).1 ++ [t])) rfl (by first | rfl | simp | omega) (fun _ => by simp) ?_))
  · unfold raL; have e : k = o.tr.length := by omega
    rw [← e, if_neg (by simpa using d3)]
 have d3 := c16
 refine W_seq_skip ?_
 refine W_seq_regc (fun T H => T 4 = (V.mp 4 1 0 0) ∧ H 2 = (⟨1, true, false, 34, 2, [[(iV (o.i)), (V.sl (List.map cT (o.tr)))]]⟩ : Blk) ∧ H 3 = (⟨1, true, false, 63, 2, [[(V.sl (List.map cI (t.ni))), (V.sl (List.map cI (t.no)))]]⟩ : Blk) ∧ H 4 = (⟨1, true, false, 34, 2, [[(iV (o.i)), (V.ms 63 w 0 ((raS o.tr t k).1.length))]]⟩ : Blk) ∧ H 5 = (⟨1, true, false, 34, 2, [[(iV (o.i)), (V.ms 63 w 0 ((raS o.tr t k).1.length))]]⟩ : Blk) ∧ (H 9).ver = v9 ∧ H 63 = (⟨w, true, true, 63, 2, (List.map cT ((raS o.tr t k).1))⟩ : Blk) ∧ True) ?_ ?_
 ·
  unfold r86_18
  refine R_load_mp (v := (V.agg [(iV (o.i)), (V.ms 63 w 0 ((raS o.tr t k).1.length))])) t5 h5 (by first | rfl | simp [ldB, ldV, Blk.own, V.one]) ?_
  refine R_store (vs := [(iV (o.i)), (V.ms 63 w 0 ((raS o.tr t k).1.length))]) (B' := (⟨1, true, false, 34, 2, [[(iV (o.i)), (V.ms 63 w 0 ((raS o.tr t k).1.length))]]⟩ : Blk)) t4 (@rfl V (V.agg [(iV (o.i)), (V.ms 63 w 0 ((raS o.tr t k).1.length))])) rfl h4 (by first | rfl | simp [stB, okB, Blk.own, putAt, V.one]) ?_
  exact R_nil ⟨t4, h2, h3, rfl, h5, h9, h63, trivial⟩
 intro T H ⟨t4, h2, h3, h4, h5, h9, h63, _⟩
 refine W_ret ?_
 refine RetC_1 (resV_c (u := (V.agg [(iV (o.i)), (V.ms 63 w 0 ((raS o.tr t k).1.length))])) t4 h4 (by first | rfl | simp [ldB, ldV, Blk.own, V.one])) (fz_agg2 (fz_canon (by simp) rfl) (fz_ms h63 (by first | rfl | simp) (l := ((raS o.tr t k).1)) rfl (by first | rfl | simp | omega) (fun _ => by simp) ?_))
 · unfold raL; have e : k = o.tr.length := by omega
   rw [← e, if_pos (by simpa using d3)]

end Go.Proofs.Ytngkckefanbhgaa

namespace Go.Proofs.Ytngkckefanbhgaa
open Go Go.Proofs

theorem rAdd_pure (o : Ob) (t : Tr) (ho : OK o) : PureC Try.prog 46 [(V.agg [(iV (o.i)), (V.sl (List.map cT (o.tr)))]), (V.agg [(V.sl (List.map cI (t.ni))), (V.sl (List.map cI (t.no)))])] (V.tup [(V.agg [(iV ((alO o [t]).i)), (V.sl (List.map cT ((alO o [t]).tr)))]), (iV ((alR o.i o.tr [t]).2))]) := by
 refine pure_of_Wb true 6 Try.func46 s46_ok (by kernel_rfl) (by simp [s46]) (by simp) (by simp) fun hB => ?_
 simp only [bnd_map, bnd_int, bnd_bool, bnd_str, bnd_agg, bnd_pp, bnd_nil, bnd_cons, implies_true, and_true, true_and] at hB
 unfold s46
 dsimp only
 have hbd : ∀ k, k < o.tr.length → (nth o.tr k).ni.length ≤ 1048576 ∧ (nth o.tr k).no.length ≤ 1048576 := fun k hk => by have := (ho.pr k hk).1.len; have := (ho.pr k hk).1.lel; omega
 have hol := ho.len
 have e1 := alR_oneE ho t
 have e2 := alO_one ho t
 refine W_seq_regc (fun T H => T 2 = (V.mp 2 1 0 0) ∧ T 3 = (V.mp 3 1 0 0) ∧ T 4 = (V.mp 4 1 0 0) ∧ H 2 = (⟨1, true, false, 34, 2, [[(iV (o.i)), (V.sl (List.map cT (o.tr)))]]⟩ : Blk) ∧ H 3 = (⟨1, true, false, 63, 2, [[(V.sl (List.map cI (t.ni))), (V.sl (List.map cI (t.no)))]]⟩ : Blk) ∧ H 4 = (⟨1, true, false, 34, 2, [[(iV (0 : Int)), V.nilsl]]⟩ : Blk) ∧ H 8 = (⟨0, false, false, 0, 0, []⟩ : Blk) ∧ True) ?_ ?_
 ·
  unfold r46_0
  refine R_box (i := 2) (n := 0) (m := 2) (cs := [(iV (o.i)), (V.sl (List.map cT (o.tr)))]) rfl (congrArg Blk.ver rfl) (@rfl V (V.agg [(iV (o.i)), (V.sl (List.map cT (o.tr)))])) rfl rfl ?_
  refine R_box (i := 3) (n := 0) (m := 2) (cs := [(V.sl (List.map cI (t.ni))), (V.sl (List.map cI (t.no)))]) rfl (congrArg Blk.ver rfl) (@rfl V (V.agg [(V.sl (List.map cI (t.ni))), (V.sl (List.map cI (t.no)))])) rfl rfl ?_
  refine R_alloc (i := 4) (n := 0) (m := 2) rfl (congrArg Blk.ver rfl) rfl ?_
  refine R_mv (@rfl V (iV (0 : Int))) ?_
  exact R_nil ⟨rfl, rfl, rfl, rfl, rfl, rfl, rfl, trivial⟩
 intro T H ⟨t2, t3, t4, h2, h3, h4, h8, _⟩
 refine W_seq_seq ?_
 refine W_seq_regc (fun T H => T 2 = (V.mp 2 1 0 0) ∧ T 3 = (V.mp 3 1 0 0) ∧ T 4 = (V.mp 4 1 0 0) ∧ T 6 = (iV (prE t ((o.i)))) ∧ H 2 = (⟨1, true, false, 34, 2, [[(iV (o.i)), (V.sl (List.map cT (o.tr)))]]⟩ : Blk) ∧ H 3 = (⟨1, true, false, 63, 2, [[(V.sl (List.map cI (t.ni))), (V.sl (List.map cI (t.no)))]]⟩ : Blk) ∧ H 4 = (⟨1, true, false, 34, 2, [[(iV (0 : Int)), V.nilsl]]⟩ : Blk) ∧ H 8 = (⟨0, false, false, 0, 0, []⟩ : Blk) ∧ True) ?_ ?_
 ·
  unfold r46_1
  refine R_load_mp (v := (V.agg [(V.sl (List.map cI (t.ni))), (V.sl (List.map cI (t.no)))])) t3 h3 (by first | rfl | simp [ldB, ldV, Blk.own, V.one]) ?_
  refine R_fld_mp (o' := 0) t2 h2 (by first | rfl | simp [okB, Blk.own]) rfl ?_
  refine R_load_mp (v := (iV (o.i))) (@rfl V (V.mp 2 1 0 0)) h2 (by first | rfl | simp [ldB, ldV, Blk.own, V.one]) ?_
  refine R_call (evcons (@rfl V (V.agg [(V.sl (List.map cI (t.ni))), (V.sl (List.map cI (t.no)))])) (evcons (@rfl V (iV (o.i))) evnil)) (rproper_pure t ((o.i))) (fzv_mapcanon _ _ (by simp [-List.map_take, -List.map_drop, -List.map_append, -List.map_reverse])) (by simp [-List.map_take, -List.map_drop, -List.map_append, -List.map_reverse]) (Or.inl (by simp [-List.map_take, -List.map_drop, -List.map_append, -List.map_reverse])) ?_
  refine R_mv (@rfl V (iV (prE t ((o.i))))) ?_
  exact R_nil ⟨t2, t3, t4, rfl, h2, h3, h4, h8, trivial⟩
 intro T H ⟨t2, t3, t4, t6, h2, h3, h4, h8, _⟩
 refine W_seq_seq ?_
 refine W_seq_regc (fun T H => T 2 = (V.mp 2 1 0 0) ∧ T 3 = (V.mp 3 1 0 0) ∧ T 4 = (V.mp 4 1 0 0) ∧ T 6 = (iV (prE t ((o.i)))) ∧ T 14 = (V.bool (decide ((prE t ((o.i))) ≠ (0 : Int)))) ∧ H 2 = (⟨1, true, false, 34, 2, [[(iV (o.i)), (V.sl (List.map cT (o.tr)))]]⟩ : Blk) ∧ H 3 = (⟨1, true, false, 63, 2, [[(V.sl (List.map cI (t.ni))), (V.sl (List.map cI (t.no)))]]⟩ : Blk) ∧ H 4 = (⟨1, true, false, 34, 2, [[(iV (0 : Int)), V.nilsl]]⟩ : Blk) ∧ H 8 = (⟨0, false, false, 0, 0, []⟩ : Blk) ∧ True) ?_ ?_
 ·
  unfold r46_2
  refine R_mv t6 ?_
  refine R_neq (x := (prE t ((o.i)))) (y := (0 : Int)) (@rfl V (iV (prE t ((o.i))))) (@rfl V (iV (0 : Int))) ?_
  exact R_nil ⟨t2, t3, t4, t6, rfl, h2, h3, h4, h8, trivial⟩
 intro T H ⟨t2, t3, t4, t6, t14, h2, h3, h4, h8, _⟩
 refine W_seq_if (p := (prE t ((o.i))) ≠ (0 : Int)) t14 (fun c1 => ?_) (fun c1 => ?_)
 ·
  have d1 := c1
  refine W_seq_seq ?_
  refine W_seq_regc (fun T H => T 4 = (V.mp 4 1 0 0) ∧ T 5 = (iV (prE t ((o.i)))) ∧ H 2 = (⟨1, true, false, 34, 2, [[(iV (o.i)), (V.sl (List.map cT (o.tr)))]]⟩ : Blk) ∧ H 3 = (⟨1, true, false, 63, 2, [[(V.sl (List.map cI (t.ni))), (V.sl (List.map cI (t.no)))]]⟩ : Blk) ∧ H 4 = (⟨1, true, false, 34, 2, [[(iV (o.i)), (V.sl (List.map cT (o.tr)))]]⟩ : Blk) ∧ H 8 = (⟨0, false, false, 0, 0, []⟩ : Blk) ∧ True) ?_ ?_
  ·
   unfold r46_3
   refine R_load_mp (v := (V.agg [(iV (o.i)), (V.sl (List.map cT (o.tr)))])) t2 h2 (by first | rfl | simp [ldB, ldV, Blk.own, V.one]) ?_
   refine R_mv t6 ?_
   refine R_store (vs := [(iV (o.i)), (V.sl (List.map cT (o.tr)))]) (B' := (⟨1, true, false, 34, 2, [[(iV (o.i)), (V.sl (List.map cT (o.tr)))]]⟩ : Blk)) t4 (@rfl V (V.agg [(iV (o.i)), (V.sl (List.map cT (o.tr)))])) rfl h4 (by first | rfl | simp [stB, okB, Blk.own, putAt, V.one]) ?_
   refine R_mv (@rfl V (iV (prE t ((o.i))))) ?_
   exact R_nil ⟨t4, rfl, h2, h3, rfl, h8, trivial⟩
  intro T H ⟨t4, t5, h2, h3, h4, h8, _⟩
  refine W_seq_ret ?_
  refine RetC_2 (resV_c (u := (V.agg [(iV (o.i)), (V.sl (List.map cT (o.tr)))])) t4 h4 (by first | rfl | simp [ldB, ldV, Blk.own, V.one])) (resV_t t5) (fz_agg2 (fz_int ?_) (fz_sl ?_ (fun _ => by simp))) (fz_int ?_)
  · rw [alO_i]
  · rw [e2, if_pos (by rw [e1, if_pos d1]; first | exact d1 | decide)]
  · rw [e1, if_pos d1]
 have d1 := c1
 have hp1 := prE_ok (t := t) (n := o.i) (by omega)
 have hp2 := hp1.len
 have hp3 := hp1.lel
 refine W_seq_skip ?_
 refine W_seq_seq ?_
 refine W_seq_regc (fun T H => T 2 = (V.mp 2 1 0 0) ∧ T 3 = (V.mp 3 1 0 0) ∧ T 4 = (V.mp 4 1 0 0) ∧ T 7 = (iV (0 : Int)) ∧ H 2 = (⟨1, true, false, 34, 2, [[(iV (o.i)), (V.sl (List.map cT (o.tr)))]]⟩ : Blk) ∧ H 3 = (⟨1, true, false, 63, 2, [[(V.sl (List.map cI (t.ni))), (V.sl (List.map cI (t.no)))]]⟩ : Blk) ∧ H 4 = (⟨1, true, false, 34, 2, [[(iV (0 : Int)), V.nilsl]]⟩ : Blk) ∧ H 8 = (⟨0, false, false, 0, 0, []⟩ : Blk) ∧ True) ?_ ?_
 ·
  unfold r46_4
  refine R_mv (@rfl V (iV (0 : Int))) ?_
  exact R_nil ⟨t2, t3, t4, rfl, h2, h3, h4, h8, trivial⟩
 intro T H ⟨t2, t3, t4, t7, h2, h3, h4, h8, _⟩
 refine W_seq_blockg fun Q2 n2 x2 y2 z2 => ?_
 refine W_loop (fun mm T H => ∃ (k : Nat), mm = o.tr.length - k ∧ T 2 = (V.mp 2 1 0 0) ∧ T 3 = (V.mp 3 1 0 0) ∧ T 4 = (V.mp 4 1 0 0) ∧ T 7 = (iV ((k : Nat) : Int)) ∧ H 2 = (⟨1, true, false, 34, 2, [[(iV (o.i)), (V.sl (List.map cT (o.tr)))]]⟩ : Blk) ∧ H 3 = (⟨1, true, false, 63, 2, [[(V.sl (List.map cI (t.ni))), (V.sl (List.map cI (t.no)))]]⟩ : Blk) ∧ H 4 = (⟨1, true, false, 34, 2, [[(iV (0 : Int)), V.nilsl]]⟩ : Blk) ∧ H 8 = (⟨0, false, false, 0, 0, []⟩ : Blk) ∧ (k ≤ o.tr.length) ∧ (fi (ndP o.tr t) 0 o.tr.length = fi (ndP o.tr t) k (o.tr.length - k))) ?_ ?_
 ·
  refine ⟨_, 0, rfl, t2, t3, t4, (Eq.trans t7 (by first | rfl | simp)), h2, h3, h4, h8, ?_, ?_⟩
  · omega
  · rfl
 intro mm T H ⟨k, hmm, t2, t3, t4, t7, h2, h3, h4, h8, hk, hc⟩ Q3 p13 p23 p33
 unfold b46_0
 refine W_seq_seq ?_
 refine W_seq_regc (fun T H => T 2 = (V.mp 2 1 0 0) ∧ T 3 = (V.mp 3 1 0 0) ∧ T 4 = (V.mp 4 1 0 0) ∧ T 7 = (iV ((k : Nat) : Int)) ∧ T 21 = (V.bool (decide (((k : Nat) : Int) < ((o.tr.length : Nat) : Int)))) ∧ H 2 = (⟨1, true, false, 34, 2, [[(iV (o.i)), (V.sl (List.map cT (o.tr)))]]⟩ : Blk) ∧ H 3 = (⟨1, true, false, 63, 2, [[(V.sl (List.map cI (t.ni))), (V.sl (List.map cI (t.no)))]]⟩ : Blk) ∧ H 4 = (⟨1, true, false, 34, 2, [[(iV (0 : Int)), V.nilsl]]⟩ : Blk) ∧ H 8 = (⟨0, false, false, 0, 0, []⟩ : Blk) ∧ True) ?_ ?_
 ·
  unfold r46_5
  refine R_mv t7 ?_
  refine R_fld_mp (o' := 1) t2 h2 (by first | rfl | simp [okB, Blk.own]) rfl ?_
  refine R_load_mp (v := (V.sl (List.map cT (o.tr)))) (@rfl V (V.mp 2 1 0 1)) h2 (by first | rfl | simp [ldB, ldV, Blk.own, V.one]) ?_
  refine R_len (@rfl V (V.sl (List.map cT (o.tr)))) ?_
  refine R_lss (x := ((k : Nat) : Int)) (y := ((o.tr.length : Nat) : Int)) (@rfl V (iV ((k : Nat) : Int))) (@rfl V (iV ((o.tr.length : Nat) : Int))) ?_
  exact R_nil ⟨t2, t3, t4, t7, rfl, h2, h3, h4, h8, trivial⟩
 intro T H ⟨t2, t3, t4, t7, t21, h2, h3, h4, h8, _⟩
 refine W_seq_if (p := ((k : Nat) : Int) < ((o.tr.length : Nat) : Int)) t21 (fun c4 => ?_) (fun c4 => ?_)
 ·
  refine W_seq_skip ?_
  refine W_seq_blockg fun Q5 n5 x5 y5 z5 => ?_
  refine W_seq_regc (fun T H => T 2 = (V.mp 2 1 0 0) ∧ T 3 = (V.mp 3 1 0 0) ∧ T 4 = (V.mp 4 1 0 0) ∧ T 7 = (iV ((k : Nat) : Int)) ∧ T 31 = (V.bool (decide ((0 : Int) ≤ (df ((nth (o.tr) (k))) t)))) ∧ H 2 = (⟨1, true, false, 34, 2, [[(iV (o.i)), (V.sl (List.map cT (o.tr)))]]⟩ : Blk) ∧ H 3 = (⟨1, true, false, 63, 2, [[(V.sl (List.map cI (t.ni))), (V.sl (List.map cI (t.no)))]]⟩ : Blk) ∧ H 4 = (⟨1, true, false, 34, 2, [[(iV (0 : Int)), V.nilsl]]⟩ : Blk) ∧ H 8 = (⟨0, false, false, 0, 0, []⟩ : Blk) ∧ True) ?_ ?_
  ·
   unfold r46_7
   refine R_fld_mp (o' := 1) t2 h2 (by first | rfl | simp [okB, Blk.own]) rfl ?_
   refine R_load_mp (v := (V.sl (List.map cT (o.tr)))) (@rfl V (V.mp 2 1 0 1)) h2 (by first | rfl | simp [ldB, ldV, Blk.own, V.one]) ?_
   refine R_mv t7 ?_
   refine R_idx (i := k) (@rfl V (V.sl (List.map cT (o.tr)))) (@rfl V (iV ((k : Nat) : Int))) (by omega) rfl ?_
   refine R_load_pp (v := (V.agg [(V.sl (List.map cI ((nth (o.tr) (k)).ni))), (V.sl (List.map cI ((nth (o.tr) (k)).no)))])) (@rfl V (V.pp [(V.sl (List.map cI ((nth (o.tr) (k)).ni))), (V.sl (List.map cI ((nth (o.tr) (k)).no)))])) (by first | rfl | simp [ldV]) ?_
   refine R_load_mp (v := (V.agg [(V.sl (List.map cI (t.ni))), (V.sl (List.map cI (t.no)))])) t3 h3 (by first | rfl | simp [ldB, ldV, Blk.own, V.one]) ?_
   refine R_call (evcons (@rfl V (V.agg [(V.sl (List.map cI ((nth (o.tr) (k)).ni))), (V.sl (List.map cI ((nth (o.tr) (k)).no)))])) (evcons (@rfl V (V.agg [(V.sl (List.map cI (t.ni))), (V.sl (List.map cI (t.no)))])) evnil)) (rdiffer_pure ((nth (o.tr) (k))) t ((ho.pr k (by omega)).1.len) hp1.len) (fzv_mapcanon _ _ (by simp [-List.map_take, -List.map_drop, -List.map_append, -List.map_reverse])) (by simp [-List.map_take, -List.map_drop, -List.map_append, -List.map_reverse]) (Or.inl (by simp [-List.map_take, -List.map_drop, -List.map_append, -List.map_reverse])) ?_
   refine R_geq (x := (df ((nth (o.tr) (k))) t)) (y := (0 : Int)) (@rfl V (iV (df ((nth (o.tr) (k))) t))) (@rfl V (iV (0 : Int))) ?_
   exact R_nil ⟨t2, t3, t4, t7, rfl, h2, h3, h4, h8, trivial⟩
  intro T H ⟨t2, t3, t4, t7, t31, h2, h3, h4, h8, _⟩
  refine W_if (p := (0 : Int) ≤ (df ((nth (o.tr) (k))) t)) t31 (fun c6 => ?_) (fun c6 => ?_)
  ·
   have d2 : ndP o.tr t k = true := decide_eq_true c6
   refine W_seq_regc (fun T H => T 4 = (V.mp 4 1 0 0) ∧ T 5 = (iV (13 : Int)) ∧ H 2 = (⟨1, true, false, 34, 2, [[(iV (o.i)), (V.sl (List.map cT (o.tr)))]]⟩ : Blk) ∧ H 3 = (⟨1, true, false, 63, 2, [[(V.sl (List.map cI (t.ni))), (V.sl (List.map cI (t.no)))]]⟩ : Blk) ∧ H 4 = (⟨1, true, false, 34, 2, [[(iV (o.i)), (V.sl (List.map cT (o.tr)))]]⟩ : Blk) ∧ H 8 = (⟨0, false, false, 0, 0, []⟩ : Blk) ∧ True) ?_ ?_
   ·
    unfold r46_8
    refine R_load_mp (v := (V.agg [(iV (o.i)), (V.sl (List.map cT (o.tr)))])) t2 h2 (by first | rfl | simp [ldB, ldV, Blk.own, V.one]) ?_
    refine R_store (vs := [(iV (o.i)), (V.sl (List.map cT (o.tr)))]) (B' := (⟨1, true, false, 34, 2, [[(iV (o.i)), (V.sl (List.map cT (o.tr)))]]⟩ : Blk)) t4 (@rfl V (V.agg [(iV (o.i)), (V.sl (List.map cT (o.tr)))])) rfl h4 (by first | rfl | simp [stB, okB, Blk.own, putAt, V.one]) ?_
    refine R_mv (@rfl V (iV (13 : Int))) ?_
    exact R_nil ⟨t4, rfl, h2, h3, rfl, h8, trivial⟩
   intro T H ⟨t4, t5, h2, h3, h4, h8, _⟩
   refine W_ret ?_
   refine y5 _ _ ?_
   refine p23 _ _ ?_
   refine y2 _ _ ?_
   refine RetC_2 (resV_c (u := (V.agg [(iV (o.i)), (V.sl (List.map cT (o.tr)))])) t4 h4 (by first | rfl | simp [ldB, ldV, Blk.own, V.one])) (resV_t t5) (fz_agg2 (fz_int ?_) (fz_sl ?_ (fun _ => by simp))) (fz_int ?_)
   · rw [alO_i]
   · rw [e2, if_pos (by rw [e1, if_neg d1, if_pos (by rw [hc, fi_hit d2 (by omega)]; omega)]; first | exact d1 | decide)]
   · rw [e1, if_neg d1, if_pos (by rw [hc, fi_hit d2 (by omega)]; omega)]
  have d2 : ndP o.tr t k = false := decide_eq_false c6
  refine W_skip ?_
  refine n5 _ _ ?_
  refine .done ?_
  refine W_regc (fun T H => T 2 = (V.mp 2 1 0 0) ∧ T 3 = (V.mp 3 1 0 0) ∧ T 4 = (V.mp 4 1 0 0) ∧ T 7 = (iV ((k + 1 : Nat) : Int)) ∧ H 2 = (⟨1, true, false, 34, 2, [[(iV (o.i)), (V.sl (List.map cT (o.tr)))]]⟩ : Blk) ∧ H 3 = (⟨1, true, false, 63, 2, [[(V.sl (List.map cI (t.ni))), (V.sl (List.map cI (t.no)))]]⟩ : Blk) ∧ H 4 = (⟨1, true, false, 34, 2, [[(iV (0 : Int)), V.nilsl]]⟩ : Blk) ∧ H 8 = (⟨0, false, false, 0, 0, []⟩ : Blk) ∧ True) ?_ ?_
  ·
   unfold r46_6
   refine R_mv t7 ?_
   refine R_addN (m := k) (n := 1) (@rfl V (iV ((k : Nat) : Int))) (@rfl V (iV ((1 : Nat) : Int))) (by omega) ?_
   refine R_mv (@rfl V (iV ((k + 1 : Nat) : Int))) ?_
   exact R_nil ⟨t2, t3, t4, rfl, h2, h3, h4, h8, trivial⟩
  intro T H ⟨t2, t3, t4, t7, h2, h3, h4, h8, _⟩
  refine p13 _ _ _ ?_ ⟨(k + 1), rfl, t2, t3, t4, (Eq.trans t7 (by first | rfl | simp)), h2, h3, h4, h8, ?_, ?_⟩
  · omega
  · omega
  · rw [hc, fi_skip d2 (by omega)]
 refine W_seq_exit ?_
 refine p33 _ _ _ ?_
 refine x2 _ _ ?_
 refine .done ?_
 refine W_seq_regc (fun T H => T 2 = (V.mp 2 1 0 0) ∧ T 4 = (V.mp 4 1 0 0) ∧ T 8 = (V.mp 8 1 0 0) ∧ H 2 = (⟨1, true, false, 34, 2, [[(iV (o.i)), (V.sl (List.map cT (o.tr)))]]⟩ : Blk) ∧ H 3 = (⟨1, true, false, 63, 2, [[(V.sl (List.map cI (t.ni))), (V.sl (List.map cI (t.no)))]]⟩ : Blk) ∧ H 4 = (⟨1, true, false, 34, 2, [[(iV (0 : Int)), V.nilsl]]⟩ : Blk) ∧ H 8 = (⟨1, true, false, 34, 2, [[(iV (o.i)), (V.sl (List.map cT (raL o.tr t)))]]⟩ : Blk) ∧ True) ?_ ?_
 ·
  unfold r46_9
  refine R_load_mp (v := (V.agg [(iV (o.i)), (V.sl (List.map cT (o.tr)))])) t2 h2 (by first | rfl | simp [ldB, ldV, Blk.own, V.one]) ?_
  refine R_load_mp (v := (V.agg [(V.sl (List.map cI (t.ni))), (V.sl (List.map cI (t.no)))])) t3 h3 (by first | rfl | simp [ldB, ldV, Blk.own, V.one]) ?_
  refine R_call (evcons (@rfl V (V.agg [(iV (o.i)), (V.sl (List.map cT (o.tr)))])) (evcons (@rfl V (V.agg [(V.sl (List.map cI (t.ni))), (V.sl (List.map cI (t.no)))])) evnil)) (radd_pure o t (by omega) (by omega) hbd (by omega)) (fzv_mapcanon _ _ (by simp [-List.map_take, -List.map_drop, -List.map_append, -List.map_reverse])) (by simp [-List.map_take, -List.map_drop, -List.map_append, -List.map_reverse]) (Or.inl (by simp [-List.map_take, -List.map_drop, -List.map_append, -List.map_reverse])) ?_
  refine R_alloc (i := 8) (n := 0) (m := 2) rfl (congrArg Blk.ver h8) rfl ?_
  refine R_store (vs := [(iV (o.i)), (V.sl (List.map cT (raL o.tr t)))]) (B' := (⟨1, true, false, 34, 2, [[(iV (o.i)), (V.sl (List.map cT (raL o.tr t)))]]⟩ : Blk)) (@rfl V (V.mp 8 1 0 0)) (@rfl V (V.agg [(iV (o.i)), (V.sl (List.map cT (raL o.tr t)))])) rfl (@rfl Blk (⟨1, true, false, 34, 2, [[(iV (0 : Int)), V.nilsl]]⟩ : Blk)) (by first | rfl | simp [stB, okB, Blk.own, putAt, V.one]) ?_
  exact R_nil ⟨t2, t4, rfl, h2, h3, h4, rfl, trivial⟩
 intro T H ⟨t2, t4, t8, h2, h3, h4, h8, _⟩
 refine W_seq_seq ?_
 refine W_seq_regc (fun T H => T 2 = (V.mp 2 1 0 0) ∧ T 4 = (V.mp 4 1 0 0) ∧ T 8 = (V.mp 8 1 0 0) ∧ T 39 = (V.bool (decide ((10000 : Int) < (((raL o.tr t).length : Nat) : Int)))) ∧ H 2 = (⟨1, true, false, 34, 2, [[(iV (o.i)), (V.sl (List.map cT (o.tr)))]]⟩ : Blk) ∧ H 3 = (⟨1, true, false, 63, 2, [[(V.sl (List.map cI (t.ni))), (V.sl (List.map cI (t.no)))]]⟩ : Blk) ∧ H 4 = (⟨1, true, false, 34, 2, [[(iV (0 : Int)), V.nilsl]]⟩ : Blk) ∧ H 8 = (⟨1, true, false, 34, 2, [[(iV (o.i)), (V.sl (List.map cT (raL o.tr t)))]]⟩ : Blk) ∧ True) ?_ ?_
 ·
  unfold r46_10
  refine R_fld_mp (o' := 1) t8 h8 (by first | rfl | simp [okB, Blk.own]) rfl ?_
  refine R_load_mp (v := (V.sl (List.map cT (raL o.tr t)))) (@rfl V (V.mp 8 1 0 1)) h8 (by first | rfl | simp [ldB, ldV, Blk.own, V.one]) ?_
  refine R_len (@rfl V (V.sl (List.map cT (raL o.tr t)))) ?_
  refine R_gtr (x := (((raL o.tr t).length : Nat) : Int)) (y := (10000 : Int)) (@rfl V (iV (((raL o.tr t).length : Nat) : Int))) (@rfl V (iV (10000 : Int))) ?_
  exact R_nil ⟨t2, t4, t8, rfl, h2, h3, h4, h8, trivial⟩
 intro T H ⟨t2, t4, t8, t39, h2, h3, h4, h8, _⟩
 refine W_seq_if (p := (10000 : Int) < (((raL o.tr t).length : Nat) : Int)) t39 (fun c7 => ?_) (fun c7 => ?_)
 ·
  have d3 := c7
  refine W_seq_seq ?_
  refine W_seq_regc (fun T H => T 4 = (V.mp 4 1 0 0) ∧ T 5 = (iV (11 : Int)) ∧ H 2 = (⟨1, true, false, 34, 2, [[(iV (o.i)), (V.sl (List.map cT (o.tr)))]]⟩ : Blk) ∧ H 3 = (⟨1, true, false, 63, 2, [[(V.sl (List.map cI (t.ni))), (V.sl (List.map cI (t.no)))]]⟩ : Blk) ∧ H 4 = (⟨1, true, false, 34, 2, [[(iV (o.i)), (V.sl (List.map cT (o.tr)))]]⟩ : Blk) ∧ H 8 = (⟨1, true, false, 34, 2, [[(iV (o.i)), (V.sl (List.map cT (raL o.tr t)))]]⟩ : Blk) ∧ True) ?_ ?_
  ·
   unfold r46_11
   refine R_load_mp (v := (V.agg [(iV (o.i)), (V.sl (List.map cT (o.tr)))])) t2 h2 (by first | rfl | simp [ldB, ldV, Blk.own, V.one]) ?_
   refine R_store (vs := [(iV (o.i)), (V.sl (List.map cT (o.tr)))]) (B' := (⟨1, true, false, 34, 2, [[(iV (o.i)), (V.sl (List.map cT (o.tr)))]]⟩ : Blk)) t4 (@rfl V (V.agg [(iV (o.i)), (V.sl (List.map cT (o.tr)))])) rfl h4 (by first | rfl | simp [stB, okB, Blk.own, putAt, V.one]) ?_
   refine R_mv (@rfl V (iV (11 : Int))) ?_
   exact R_nil ⟨t4, rfl, h2, h3, rfl, h8, trivial⟩
  intro T H ⟨t4, t5, h2, h3, h4, h8, _⟩
  refine W_seq_ret ?_
  refine RetC_2 (resV_c (u := (V.agg [(iV (o.i)), (V.sl (List.map cT (o.tr)))])) t4 h4 (by first | rfl | simp [ldB, ldV, Blk.own, V.one])) (resV_t t5) (fz_agg2 (fz_int ?_) (fz_sl ?_ (fun _ => by simp))) (fz_int ?_)
  · rw [alO_i]
  · rw [e2, if_pos (by rw [e1, if_neg d1, if_neg (by rw [hc, fi_end (by omega)]; omega), if_pos (by omega)]; first | exact d1 | decide)]
  · rw [e1, if_neg d1, if_neg (by rw [hc, fi_end (by omega)]; omega), if_pos (by omega)]
 have d3 := c7
 refine W_seq_skip ?_
 refine W_seq_regc (fun T H => T 4 = (V.mp 4 1 0 0) ∧ T 5 = (iV (0 : Int)) ∧ H 2 = (⟨1, true, false, 34, 2, [[(iV (o.i)), (V.sl (List.map cT (o.tr)))]]⟩ : Blk) ∧ H 3 = (⟨1, true, false, 63, 2, [[(V.sl (List.map cI (t.ni))), (V.sl (List.map cI (t.no)))]]⟩ : Blk) ∧ H 4 = (⟨1, true, false, 34, 2, [[(iV (o.i)), (V.sl (List.map cT (raL o.tr t)))]]⟩ : Blk) ∧ H 8 = (⟨1, true, false, 34, 2, [[(iV (o.i)), (V.sl (List.map cT (raL o.tr t)))]]⟩ : Blk) ∧ True) ?_ ?_
 ·
  unfold r46_12
  refine R_load_mp (v := (V.agg [(iV (o.i)), (V.sl (List.map cT (raL o.tr t)))])) t8 h8 (by first | rfl | simp [ldB, ldV, Blk.own, V.one]) ?_
  refine R_store (vs := [(iV (o.i)), (V.sl (List.map cT (raL o.tr t)))]) (B' := (⟨1, true, false, 34, 2, [[(iV (o.i)), (V.sl (List.map cT (raL o.tr t)))]]⟩ : Blk)) t4 (@rfl V (V.agg [(iV (o.i)), (V.sl (List.map cT (raL o.tr t)))])) rfl h4 (by first | rfl | simp [stB, okB, Blk.own, putAt, V.one]) ?_
  refine R_mv (@rfl V (iV (0 : Int))) ?_
  exact R_nil ⟨t4, rfl, h2, h3, rfl, h8, trivial⟩
 intro T H ⟨t4, t5, h2, h3, h4, h8, _⟩
 refine W_ret ?_
 refine RetC_2 (resV_c (u := (V.agg [(iV (o.i)), (V.sl (List.map cT (raL o.tr t)))])) t4 h4 (by first | rfl | simp [ldB, ldV, Blk.own, V.one])) (resV_t t5) (fz_agg2 (fz_int ?_) (fz_sl ?_ (fun _ => by simp))) (fz_int ?_)
 · rw [alO_i]
 · rw [e2, if_neg (by rw [e1, if_neg d1, if_neg (by rw [hc, fi_end (by omega)]; omega), if_neg (by omega)]; decide)]
 · rw [e1, if_neg d1, if_neg (by rw [hc, fi_end (by omega)]; omega), if_neg (by omega)]

end Go.Proofs.Ytngkckefanbhgaa

namespace Go.Proofs.Ytngkckefanbhgaa
open Go Go.Proofs

theorem rall_pure (o : Ob) (l : List Tr) (ho : OK o) : PureC Try.prog 88 [(V.agg [(iV (o.i)), (V.sl (List.map cT (o.tr)))]), (V.sl (List.map cT (l)))] (V.tup [(V.agg [(iV ((alO o l).i)), (V.sl (List.map cT ((alO o l).tr)))]), (iV ((alR o.i o.tr l).2))]) := by
 refine pure_of_Wb true 6 Try.func88 s88_ok (by kernel_rfl) (by simp [s88]) (by simp) (by simp) fun hB => ?_
 simp only [bnd_map, bnd_int, bnd_bool, bnd_str, bnd_agg, bnd_pp, bnd_nil, bnd_cons, implies_true, and_true, true_and] at hB
 unfold s88
 dsimp only
 refine W_seq_regc (fun T H => T 1 = (V.sl (List.map cT (l))) ∧ T 2 = (V.mp 2 1 0 0) ∧ T 4 = (V.mp 4 1 0 0) ∧ H 2 = (⟨1, true, false, 34, 2, [[(iV (o.i)), (V.sl (List.map cT (o.tr)))]]⟩ : Blk) ∧ H 4 = (⟨1, true, false, 34, 2, [[(iV (0 : Int)), V.nilsl]]⟩ : Blk) ∧ H 6 = (⟨0, false, false, 0, 0, []⟩ : Blk) ∧ H 8 = (⟨0, false, false, 0, 0, []⟩ : Blk) ∧ True) ?_ ?_
 ·
  unfold r88_0
  refine R_box (i := 2) (n := 0) (m := 2) (cs := [(iV (o.i)), (V.sl (List.map cT (o.tr)))]) rfl (congrArg Blk.ver rfl) (@rfl V (V.agg [(iV (o.i)), (V.sl (List.map cT (o.tr)))])) rfl rfl ?_
  refine R_alloc (i := 4) (n := 0) (m := 2) rfl (congrArg Blk.ver rfl) rfl ?_
  refine R_mv (@rfl V (iV (0 : Int))) ?_
  exact R_nil ⟨rfl, rfl, rfl, rfl, rfl, rfl, rfl, trivial⟩
 intro T H ⟨t1, t2, t4, h2, h4, h6, h8, _⟩
 refine W_seq_regc (fun T H => T 1 = (V.sl (List.map cT (l))) ∧ T 2 = (V.mp 2 1 0 0) ∧ T 4 = (V.mp 4 1 0 0) ∧ T 6 = (V.mp 6 1 0 0) ∧ H 2 = (⟨1, true, false, 34, 2, [[(iV (o.i)), (V.sl (List.map cT (o.tr)))]]⟩ : Blk) ∧ H 4 = (⟨1, true, false, 34, 2, [[(iV (0 : Int)), V.nilsl]]⟩ : Blk) ∧ H 6 = (⟨1, true, false, 34, 2, [[(iV (o.i)), (V.sl (List.map cT (o.tr)))]]⟩ : Blk) ∧ H 8 = (⟨0, false, false, 0, 0, []⟩ : Blk) ∧ True) ?_ ?_
 ·
  unfold r88_1
  refine R_load_mp (v := (V.agg [(iV (o.i)), (V.sl (List.map cT (o.tr)))])) t2 h2 (by first | rfl | simp [ldB, ldV, Blk.own, V.one]) ?_
  refine R_alloc (i := 6) (n := 0) (m := 2) rfl (congrArg Blk.ver h6) rfl ?_
  refine R_store (vs := [(iV (o.i)), (V.sl (List.map cT (o.tr)))]) (B' := (⟨1, true, false, 34, 2, [[(iV (o.i)), (V.sl (List.map cT (o.tr)))]]⟩ : Blk)) (@rfl V (V.mp 6 1 0 0)) (@rfl V (V.agg [(iV (o.i)), (V.sl (List.map cT (o.tr)))])) rfl (@rfl Blk (⟨1, true, false, 34, 2, [[(iV (0 : Int)), V.nilsl]]⟩ : Blk)) (by first | rfl | simp [stB, okB, Blk.own, putAt, V.one]) ?_
  exact R_nil ⟨t1, t2, t4, rfl, h2, h4, rfl, h8, trivial⟩
 intro T H ⟨t1, t2, t4, t6, h2, h4, h6, h8, _⟩
 refine W_seq_seq ?_
 refine W_seq_regc (fun T H => T 1 = (V.sl (List.map cT (l))) ∧ T 2 = (V.mp 2 1 0 0) ∧ T 4 = (V.mp 4 1 0 0) ∧ T 6 = (V.mp 6 1 0 0) ∧ T 7 = (iV (0 : Int)) ∧ H 2 = (⟨1, true, false, 34, 2, [[(iV (o.i)), (V.sl (List.map cT (o.tr)))]]⟩ : Blk) ∧ H 4 = (⟨1, true, false, 34, 2, [[(iV (0 : Int)), V.nilsl]]⟩ : Blk) ∧ H 6 = (⟨1, true, false, 34, 2, [[(iV (o.i)), (V.sl (List.map cT (o.tr)))]]⟩ : Blk) ∧ H 8 = (⟨0, false, false, 0, 0, []⟩ : Blk) ∧ True) ?_ ?_
 ·
  unfold r88_2
  refine R_mv (@rfl V (iV (0 : Int))) ?_
  exact R_nil ⟨t1, t2, t4, t6, rfl, h2, h4, h6, h8, trivial⟩
 intro T H ⟨t1, t2, t4, t6, t7, h2, h4, h6, h8, _⟩
 refine W_seq_blockg fun Q1 n1 x1 y1 z1 => ?_
 refine W_loop (fun mm T H => ∃ (k : Nat) (q : Ob) (v8 : Nat), mm = l.length - k ∧ T 1 = (V.sl (List.map cT (l))) ∧ T 2 = (V.mp 2 1 0 0) ∧ T 4 = (V.mp 4 1 0 0) ∧ T 6 = (V.mp 6 1 0 0) ∧ T 7 = (iV ((k : Nat) : Int)) ∧ H 2 = (⟨1, true, false, 34, 2, [[(iV (o.i)), (V.sl (List.map cT (o.tr)))]]⟩ : Blk) ∧ H 4 = (⟨1, true, false, 34, 2, [[(iV (0 : Int)), V.nilsl]]⟩ : Blk) ∧ H 6 = (⟨1, true, false, 34, 2, [[(iV (q.i)), (V.sl (List.map cT (q.tr)))]]⟩ : Blk) ∧ ((H 8).ver = v8 ∧ (H 8).live = false) ∧ (k ≤ l.length) ∧ (q.i = o.i) ∧ (OK q) ∧ (alR o.i o.tr l = alR q.i q.tr (l.drop k))) ?_ ?_
 ·
  refine ⟨_, 0, o, 0, rfl, t1, t2, t4, t6, (Eq.trans t7 (by first | rfl | simp)), h2, h4, h6, ⟨(congrArg Blk.ver h8), congrArg Blk.live h8⟩, ?_, ?_, ?_, ?_⟩
  · omega
  · rfl
  · exact ho
  · rfl
 intro mm T H ⟨k, q, v8, hmm, t1, t2, t4, t6, t7, h2, h4, h6, h8, hk, hi, hok, hc⟩ Q2 p12 p22 p32
 unfold b88_0
 refine W_seq_seq ?_
 refine W_seq_regc (fun T H => T 1 = (V.sl (List.map cT (l))) ∧ T 2 = (V.mp 2 1 0 0) ∧ T 4 = (V.mp 4 1 0 0) ∧ T 6 = (V.mp 6 1 0 0) ∧ T 7 = (iV ((k : Nat) : Int)) ∧ T 14 = (V.bool (decide (((k : Nat) : Int) < ((l.length : Nat) : Int)))) ∧ H 2 = (⟨1, true, false, 34, 2, [[(iV (o.i)), (V.sl (List.map cT (o.tr)))]]⟩ : Blk) ∧ H 4 = (⟨1, true, false, 34, 2, [[(iV (0 : Int)), V.nilsl]]⟩ : Blk) ∧ H 6 = (⟨1, true, false, 34, 2, [[(iV (q.i)), (V.sl (List.map cT (q.tr)))]]⟩ : Blk) ∧ ((H 8).ver = v8 ∧ (H 8).live = false) ∧ True) ?_ ?_
 ·
  unfold r88_3
  refine R_mv t7 ?_
  refine R_mv t1 ?_
  refine R_len (@rfl V (V.sl (List.map cT (l)))) ?_
  refine R_lss (x := ((k : Nat) : Int)) (y := ((l.length : Nat) : Int)) (@rfl V (iV ((k : Nat) : Int))) (@rfl V (iV ((l.length : Nat) : Int))) ?_
  exact R_nil ⟨t1, t2, t4, t6, t7, rfl, h2, h4, h6, h8, trivial⟩
 intro T H ⟨t1, t2, t4, t6, t7, t14, h2, h4, h6, h8, _⟩
 refine W_seq_if (p := ((k : Nat) : Int) < ((l.length : Nat) : Int)) t14 (fun c3 => ?_) (fun c3 => ?_)
 ·
  refine W_seq_skip ?_
  refine W_seq_blockg fun Q4 n4 x4 y4 z4 => ?_
  refine W_seq_dregc (fun T H => T 1 = (V.sl (List.map cT (l))) ∧ T 2 = (V.mp 2 1 0 0) ∧ T 4 = (V.mp 4 1 0 0) ∧ T 6 = (V.mp 6 1 0 0) ∧ T 7 = (iV ((k : Nat) : Int)) ∧ T 8 = (V.mp 8 (v8 + 1) 0 0) ∧ T 9 = (iV ((alR q.i q.tr [((nth (l) (k)))]).2)) ∧ H 2 = (⟨1, true, false, 34, 2, [[(iV (o.i)), (V.sl (List.map cT (o.tr)))]]⟩ : Blk) ∧ H 4 = (⟨1, true, false, 34, 2, [[(iV (0 : Int)), V.nilsl]]⟩ : Blk) ∧ H 6 = (⟨1, true, false, 34, 2, [[(iV (q.i)), (V.sl (List.map cT (q.tr)))]]⟩ : Blk) ∧ H 8 = (⟨v8 + 1, true, false, 34, 2, [[(iV ((alO q [((nth (l) (k)))]).i)), (V.sl (List.map cT ((alO q [((nth (l) (k)))]).tr)))]]⟩ : Blk) ∧ True) (by intro d hd; simp only [List.mem_cons, List.not_mem_nil, or_false] at hd; rcases hd with rfl <;> simp [h2, h4, h6, h8]) ?_ ?_
  ·
   unfold r88_5
   refine R_load_mp (v := (V.agg [(iV (q.i)), (V.sl (List.map cT (q.tr)))])) t6 h6 (by first | rfl | simp [ldB, ldV, Blk.own, V.one]) ?_
   refine R_mv t1 ?_
   refine R_mv t7 ?_
   refine R_idx (i := k) (@rfl V (V.sl (List.map cT (l)))) (@rfl V (iV ((k : Nat) : Int))) (by omega) rfl ?_
   refine R_load_pp (v := (V.agg [(V.sl (List.map cI ((nth (l) (k)).ni))), (V.sl (List.map cI ((nth (l) (k)).no)))])) (@rfl V (V.pp [(V.sl (List.map cI ((nth (l) (k)).ni))), (V.sl (List.map cI ((nth (l) (k)).no)))])) (by first | rfl | simp [ldV]) ?_
   refine R_call (evcons (@rfl V (V.agg [(iV (q.i)), (V.sl (List.map cT (q.tr)))])) (evcons (@rfl V (V.agg [(V.sl (List.map cI ((nth (l) (k)).ni))), (V.sl (List.map cI ((nth (l) (k)).no)))])) evnil)) (rAdd_pure q ((nth (l) (k))) hok) (fzv_mapcanon _ _ (by simp [-List.map_take, -List.map_drop, -List.map_append, -List.map_reverse])) (by simp [-List.map_take, -List.map_drop, -List.map_append, -List.map_reverse]) (Or.inl (by simp [-List.map_take, -List.map_drop, -List.map_append, -List.map_reverse])) ?_
   refine R_mv (@rfl V (V.tup [(V.agg [(iV ((alO q [((nth (l) (k)))]).i)), (V.sl (List.map cT ((alO q [((nth (l) (k)))]).tr)))]), (iV ((alR q.i q.tr [((nth (l) (k)))]).2))])) ?_
   refine R_ext (v := (V.agg [(iV ((alO q [((nth (l) (k)))]).i)), (V.sl (List.map cT ((alO q [((nth (l) (k)))]).tr)))])) (@rfl V (V.tup [(V.agg [(iV ((alO q [((nth (l) (k)))]).i)), (V.sl (List.map cT ((alO q [((nth (l) (k)))]).tr)))]), (iV ((alR q.i q.tr [((nth (l) (k)))]).2))])) rfl ?_
   refine R_ext (v := (iV ((alR q.i q.tr [((nth (l) (k)))]).2))) (@rfl V (V.tup [(V.agg [(iV ((alO q [((nth (l) (k)))]).i)), (V.sl (List.map cT ((alO q [((nth (l) (k)))]).tr)))]), (iV ((alR q.i q.tr [((nth (l) (k)))]).2))])) rfl ?_
   refine R_alloc (i := 8) (n := v8) (m := 2) rfl (h8).1 rfl ?_
   refine R_store (vs := [(iV ((alO q [((nth (l) (k)))]).i)), (V.sl (List.map cT ((alO q [((nth (l) (k)))]).tr)))]) (B' := (⟨v8 + 1, true, false, 34, 2, [[(iV ((alO q [((nth (l) (k)))]).i)), (V.sl (List.map cT ((alO q [((nth (l) (k)))]).tr)))]]⟩ : Blk)) (@rfl V (V.mp 8 (v8 + 1) 0 0)) (@rfl V (V.agg [(iV ((alO q [((nth (l) (k)))]).i)), (V.sl (List.map cT ((alO q [((nth (l) (k)))]).tr)))])) rfl (@rfl Blk (⟨v8 + 1, true, false, 34, 2, [[(iV (0 : Int)), V.nilsl]]⟩ : Blk)) (by first | rfl | simp [stB, okB, Blk.own, putAt, V.one]) ?_
   refine R_mv (@rfl V (iV ((alR q.i q.tr [((nth (l) (k)))]).2))) ?_
   exact R_nil ⟨t1, t2, t4, t6, t7, rfl, rfl, h2, h4, h6, rfl, trivial⟩
  intro T H ⟨t1, t2, t4, t6, t7, t8, t9, h2, h4, h6, h8, _⟩
  refine W_seq_seq ?_
  refine W_seq_regc (fun T H => T 1 = (V.sl (List.map cT (l))) ∧ T 2 = (V.mp 2 1 0 0) ∧ T 4 = (V.mp 4 1 0 0) ∧ T 6 = (V.mp 6 1 0 0) ∧ T 7 = (iV ((k : Nat) : Int)) ∧ T 8 = (V.mp 8 (v8 + 1) 0 0) ∧ T 9 = (iV ((alR q.i q.tr [((nth (l) (k)))]).2)) ∧ T 27 = (V.bool (decide (((alR q.i q.tr [((nth (l) (k)))]).2) ≠ (0 : Int)))) ∧ H 2 = (⟨1, true, false, 34, 2, [[(iV (o.i)), (V.sl (List.map cT (o.tr)))]]⟩ : Blk) ∧ H 4 = (⟨1, true, false, 34, 2, [[(iV (0 : Int)), V.nilsl]]⟩ : Blk) ∧ H 6 = (⟨1, true, false, 34, 2, [[(iV (q.i)), (V.sl (List.map cT (q.tr)))]]⟩ : Blk) ∧ H 8 = (⟨v8 + 1, true, false, 34, 2, [[(iV ((alO q [((nth (l) (k)))]).i)), (V.sl (List.map cT ((alO q [((nth (l) (k)))]).tr)))]]⟩ : Blk) ∧ True) ?_ ?_
  ·
   unfold r88_6
   refine R_mv t9 ?_
   refine R_neq (x := ((alR q.i q.tr [((nth (l) (k)))]).2)) (y := (0 : Int)) (@rfl V (iV ((alR q.i q.tr [((nth (l) (k)))]).2))) (@rfl V (iV (0 : Int))) ?_
   exact R_nil ⟨t1, t2, t4, t6, t7, t8, t9, rfl, h2, h4, h6, h8, trivial⟩
  intro T H ⟨t1, t2, t4, t6, t7, t8, t9, t27, h2, h4, h6, h8, _⟩
  refine W_seq_if (p := ((alR q.i q.tr [((nth (l) (k)))]).2) ≠ (0 : Int)) t27 (fun c5 => ?_) (fun c5 => ?_)
  ·
   have d1 := c5
   refine W_seq_seq ?_
   refine W_seq_regc (fun T H => T 4 = (V.mp 4 1 0 0) ∧ T 5 = (iV ((alR q.i q.tr [((nth (l) (k)))]).2)) ∧ H 2 = (⟨1, true, false, 34, 2, [[(iV (o.i)), (V.sl (List.map cT (o.tr)))]]⟩ : Blk) ∧ H 4 = (⟨1, true, false, 34, 2, [[(iV (o.i)), (V.sl (List.map cT (o.tr)))]]⟩ : Blk) ∧ H 6 = (⟨1, true, false, 34, 2, [[(iV (q.i)), (V.sl (List.map cT (q.tr)))]]⟩ : Blk) ∧ H 8 = (⟨v8 + 1, true, false, 34, 2, [[(iV ((alO q [((nth (l) (k)))]).i)), (V.sl (List.map cT ((alO q [((nth (l) (k)))]).tr)))]]⟩ : Blk) ∧ True) ?_ ?_
   ·
    unfold r88_7
    refine R_load_mp (v := (V.agg [(iV (o.i)), (V.sl (List.map cT (o.tr)))])) t2 h2 (by first | rfl | simp [ldB, ldV, Blk.own, V.one]) ?_
    refine R_mv t9 ?_
    refine R_store (vs := [(iV (o.i)), (V.sl (List.map cT (o.tr)))]) (B' := (⟨1, true, false, 34, 2, [[(iV (o.i)), (V.sl (List.map cT (o.tr)))]]⟩ : Blk)) t4 (@rfl V (V.agg [(iV (o.i)), (V.sl (List.map cT (o.tr)))])) rfl h4 (by first | rfl | simp [stB, okB, Blk.own, putAt, V.one]) ?_
    refine R_mv (@rfl V (iV ((alR q.i q.tr [((nth (l) (k)))]).2))) ?_
    exact R_nil ⟨t4, rfl, h2, rfl, h6, h8, trivial⟩
   intro T H ⟨t4, t5, h2, h4, h6, h8, _⟩
   refine W_seq_ret ?_
   refine y4 _ _ ?_
   refine p22 _ _ ?_
   refine y1 _ _ ?_
   refine RetC_2 (resV_c (u := (V.agg [(iV (o.i)), (V.sl (List.map cT (o.tr)))])) t4 h4 (by first | rfl | simp [ldB, ldV, Blk.own, V.one])) (resV_t t5) (fz_agg2 (fz_int ?_) (fz_sl ?_ (fun _ => by simp))) (fz_int ?_)
   · rw [alO_i]
   · unfold alO; rw [if_pos (by rw [hc, alR_one_er (by omega) d1]; exact d1)]
   · rw [hc, alR_one_er (by omega) d1]
  have d1 := c5
  refine W_seq_skip ?_
  refine W_regc (fun T H => T 1 = (V.sl (List.map cT (l))) ∧ T 2 = (V.mp 2 1 0 0) ∧ T 4 = (V.mp 4 1 0 0) ∧ T 6 = (V.mp 6 1 0 0) ∧ T 7 = (iV ((k : Nat) : Int)) ∧ H 2 = (⟨1, true, false, 34, 2, [[(iV (o.i)), (V.sl (List.map cT (o.tr)))]]⟩ : Blk) ∧ H 4 = (⟨1, true, false, 34, 2, [[(iV (0 : Int)), V.nilsl]]⟩ : Blk) ∧ H 6 = (⟨1, true, false, 34, 2, [[(iV ((alO q [((nth (l) (k)))]).i)), (V.sl (List.map cT ((alO q [((nth (l) (k)))]).tr)))]]⟩ : Blk) ∧ H 8 = (⟨v8 + 1, true, false, 34, 2, [[(iV ((alO q [((nth (l) (k)))]).i)), (V.sl (List.map cT ((alO q [((nth (l) (k)))]).tr)))]]⟩ : Blk) ∧ True) ?_ ?_
  ·
   unfold r88_8
   refine R_load_mp (v := (V.agg [(iV ((alO q [((nth (l) (k)))]).i)), (V.sl (List.map cT ((alO q [((nth (l) (k)))]).tr)))])) t8 h8 (by first | rfl | simp [ldB, ldV, Blk.own, V.one]) ?_
   refine R_store (vs := [(iV ((alO q [((nth (l) (k)))]).i)), (V.sl (List.map cT ((alO q [((nth (l) (k)))]).tr)))]) (B' := (⟨1, true, false, 34, 2, [[(iV ((alO q [((nth (l) (k)))]).i)), (V.sl (List.map cT ((alO q [((nth (l) (k)))]).tr)))]]⟩ : Blk)) t6 (@rfl V (V.agg [(iV ((alO q [((nth (l) (k)))]).i)), (V.sl (List.map cT ((alO q [((nth (l) (k)))]).tr)))])) rfl h6 (by first | rfl | simp [stB, okB, Blk.own, putAt, V.one]) ?_
   exact R_nil ⟨t1, t2, t4, t6, t7, h2, h4, rfl, h8, trivial⟩
  intro T H ⟨t1, t2, t4, t6, t7, h2, h4, h6, h8, _⟩
  refine n4 _ _ ?_
  refine .freeze 8 (.done ?_)
  refine fork_ (R := fun T H => T 1 = (V.sl (List.map cT (l))) ∧ T 2 = (V.mp 2 1 0 0) ∧ T 4 = (V.mp 4 1 0 0) ∧ T 6 = (V.mp 6 1 0 0) ∧ T 7 = (iV ((k : Nat) : Int)) ∧ H 2 = (⟨1, true, false, 34, 2, [[(iV (o.i)), (V.sl (List.map cT (o.tr)))]]⟩ : Blk) ∧ H 4 = (⟨1, true, false, 34, 2, [[(iV (0 : Int)), V.nilsl]]⟩ : Blk) ∧ H 6 = (⟨1, true, false, 34, 2, [[(iV ((alO q [((nth (l) (k)))]).i)), (V.sl (List.map cT ((alO q [((nth (l) (k)))]).tr)))]]⟩ : Blk) ∧ ((H 8).ver = v8 + 1 ∧ (H 8).live = false) ∧ True) ⟨(fzT_q t1 rfl), (fzT_q t2 rfl), (fzT_q t4 rfl), (fzT_q t6 rfl), (fzT_q t7 rfl), (kill_ne h2 (by decide)), (kill_ne h4 (by decide)), (kill_ne h6 (by decide)), (kill_self (congrArg Blk.ver h8)), trivial⟩ ?_
  clear t1 t2 t4 t6 t7 h2 h4 h6 h8 T H
  intro T H ⟨t1, t2, t4, t6, t7, h2, h4, h6, h8, _⟩
  refine W_regc (fun T H => T 1 = (V.sl (List.map cT (l))) ∧ T 2 = (V.mp 2 1 0 0) ∧ T 4 = (V.mp 4 1 0 0) ∧ T 6 = (V.mp 6 1 0 0) ∧ T 7 = (iV ((k + 1 : Nat) : Int)) ∧ H 2 = (⟨1, true, false, 34, 2, [[(iV (o.i)), (V.sl (List.map cT (o.tr)))]]⟩ : Blk) ∧ H 4 = (⟨1, true, false, 34, 2, [[(iV (0 : Int)), V.nilsl]]⟩ : Blk) ∧ H 6 = (⟨1, true, false, 34, 2, [[(iV ((alO q [((nth (l) (k)))]).i)), (V.sl (List.map cT ((alO q [((nth (l) (k)))]).tr)))]]⟩ : Blk) ∧ ((H 8).ver = v8 + 1 ∧ (H 8).live = false) ∧ True) ?_ ?_
  ·
   unfold r88_4
   refine R_mv t7 ?_
   refine R_addN (m := k) (n := 1) (@rfl V (iV ((k : Nat) : Int))) (@rfl V (iV ((1 : Nat) : Int))) (by omega) ?_
   refine R_mv (@rfl V (iV ((k + 1 : Nat) : Int))) ?_
   exact R_nil ⟨t1, t2, t4, t6, rfl, h2, h4, h6, h8, trivial⟩
  intro T H ⟨t1, t2, t4, t6, t7, h2, h4, h6, h8, _⟩
  refine p12 _ _ _ ?_ ⟨(k + 1), (alO q [nth l k]), (v8 + 1), rfl, t1, t2, t4, t6, (Eq.trans t7 (by first | rfl | simp)), h2, h4, (Eq.trans h6 (by first | rfl | simp)), h8, ?_, ?_, ?_, ?_⟩
  · omega
  · omega
  · rw [alO_i]; exact hi
  · exact alO_ok hok
  · rw [hc, alR_one_go (by omega) d1]
 refine W_seq_exit ?_
 refine p32 _ _ _ ?_
 refine x1 _ _ ?_
 refine .done ?_
 refine W_seq_regc (fun T H => T 4 = (V.mp 4 1 0 0) ∧ T 5 = (iV (0 : Int)) ∧ H 2 = (⟨1, true, false, 34, 2, [[(iV (o.i)), (V.sl (List.map cT (o.tr)))]]⟩ : Blk) ∧ H 4 = (⟨1, true, false, 34, 2, [[(iV (q.i)), (V.sl (List.map cT (q.tr)))]]⟩ : Blk) ∧ H 6 = (⟨1, true, false, 34, 2, [[(iV (q.i)), (V.sl (List.map cT (q.tr)))]]⟩ : Blk) ∧ ((H 8).ver = v8 ∧ (H 8).live = false) ∧ True) ?_ ?_
 ·
  unfold r88_9
  refine R_load_mp (v := (V.agg [(iV (q.i)), (V.sl (List.map cT (q.tr)))])) t6 h6 (by first | rfl | simp [ldB, ldV, Blk.own, V.one]) ?_
  refine R_store (vs := [(iV (q.i)), (V.sl (List.map cT (q.tr)))]) (B' := (⟨1, true, false, 34, 2, [[(iV (q.i)), (V.sl (List.map cT (q.tr)))]]⟩ : Blk)) t4 (@rfl V (V.agg [(iV (q.i)), (V.sl (List.map cT (q.tr)))])) rfl h4 (by first | rfl | simp [stB, okB, Blk.own, putAt, V.one]) ?_
  refine R_mv (@rfl V (iV (0 : Int))) ?_
  exact R_nil ⟨t4, rfl, h2, rfl, h6, h8, trivial⟩
 intro T H ⟨t4, t5, h2, h4, h6, h8, _⟩
 refine W_ret ?_
 refine RetC_2 (resV_c (u := (V.agg [(iV (q.i)), (V.sl (List.map cT (q.tr)))])) t4 h4 (by first | rfl | simp [ldB, ldV, Blk.own, V.one])) (resV_t t5) (fz_agg2 (fz_int ?_) (fz_sl ?_ (fun _ => by simp))) (fz_int ?_)
 · rw [alO_i]; exact hi
 · unfold alO; rw [if_neg (by rw [hc, alR_end (by omega)]; simp), hc, alR_end (by omega)]
 · rw [hc, alR_end (by omega)]

end Go.Proofs.Ytngkckefanbhgaa

namespace Go.Proofs.Ytngkckefanbhgaa
open Go Go.Proofs

theorem rmerge_pure (a b : Ob) (ha : OK a) : PureC Try.prog 49 [(V.agg [(iV (a.i)), (V.sl (List.map cT (a.tr)))]), (V.agg [(iV (b.i)), (V.sl (List.map cT (b.tr)))])] (V.tup [(V.agg [(iV ((mgO a b).i)), (V.sl (List.map cT ((mgO a b).tr)))]), (iV (mgE a b))]) := by
 refine pure_of_Wb true 6 Try.func49 s49_ok (by kernel_rfl) (by simp [s49]) (by simp) (by simp) fun hB => ?_
 simp only [bnd_map, bnd_int, bnd_bool, bnd_str, bnd_agg, bnd_pp, bnd_nil, bnd_cons, implies_true, and_true, true_and] at hB
 unfold s49
 dsimp only
 refine W_seq_regc (fun T H => T 2 = (V.mp 2 1 0 0) ∧ T 3 = (V.mp 3 1 0 0) ∧ T 4 = (V.mp 4 1 0 0) ∧ H 2 = (⟨1, true, false, 34, 2, [[(iV (a.i)), (V.sl (List.map cT (a.tr)))]]⟩ : Blk) ∧ H 3 = (⟨1, true, false, 34, 2, [[(iV (b.i)), (V.sl (List.map cT (b.tr)))]]⟩ : Blk) ∧ H 4 = (⟨1, true, false, 34, 2, [[(iV (0 : Int)), V.nilsl]]⟩ : Blk) ∧ True) ?_ ?_
 ·
  unfold r49_0
  refine R_box (i := 2) (n := 0) (m := 2) (cs := [(iV (a.i)), (V.sl (List.map cT (a.tr)))]) rfl (congrArg Blk.ver rfl) (@rfl V (V.agg [(iV (a.i)), (V.sl (List.map cT (a.tr)))])) rfl rfl ?_
  refine R_box (i := 3) (n := 0) (m := 2) (cs := [(iV (b.i)), (V.sl (List.map cT (b.tr)))]) rfl (congrArg Blk.ver rfl) (@rfl V (V.agg [(iV (b.i)), (V.sl (List.map cT (b.tr)))])) rfl rfl ?_
  refine R_alloc (i := 4) (n := 0) (m := 2) rfl (congrArg Blk.ver rfl) rfl ?_
  refine R_mv (@rfl V (iV (0 : Int))) ?_
  exact R_nil ⟨rfl, rfl, rfl, rfl, rfl, rfl, trivial⟩
 intro T H ⟨t2, t3, t4, h2, h3, h4, _⟩
 refine W_seq_seq ?_
 refine W_seq_regc (fun T H => T 2 = (V.mp 2 1 0 0) ∧ T 3 = (V.mp 3 1 0 0) ∧ T 4 = (V.mp 4 1 0 0) ∧ T 10 = (V.bool (decide ((a.i) ≠ (b.i)))) ∧ H 2 = (⟨1, true, false, 34, 2, [[(iV (a.i)), (V.sl (List.map cT (a.tr)))]]⟩ : Blk) ∧ H 3 = (⟨1, true, false, 34, 2, [[(iV (b.i)), (V.sl (List.map cT (b.tr)))]]⟩ : Blk) ∧ H 4 = (⟨1, true, false, 34, 2, [[(iV (0 : Int)), V.nilsl]]⟩ : Blk) ∧ True) ?_ ?_
 ·
  unfold r49_1
  refine R_fld_mp (o' := 0) t2 h2 (by first | rfl | simp [okB, Blk.own]) rfl ?_
  refine R_load_mp (v := (iV (a.i))) (@rfl V (V.mp 2 1 0 0)) h2 (by first | rfl | simp [ldB, ldV, Blk.own, V.one]) ?_
  refine R_fld_mp (o' := 0) t3 h3 (by first | rfl | simp [okB, Blk.own]) rfl ?_
  refine R_load_mp (v := (iV (b.i))) (@rfl V (V.mp 3 1 0 0)) h3 (by first | rfl | simp [ldB, ldV, Blk.own, V.one]) ?_
  refine R_neq (x := (a.i)) (y := (b.i)) (@rfl V (iV (a.i))) (@rfl V (iV (b.i))) ?_
  exact R_nil ⟨t2, t3, t4, rfl, h2, h3, h4, trivial⟩
 intro T H ⟨t2, t3, t4, t10, h2, h3, h4, _⟩
 refine W_seq_if (p := (a.i) ≠ (b.i)) t10 (fun c1 => ?_) (fun c1 => ?_)
 ·
  have d1 := c1
  refine W_seq_seq ?_
  refine W_seq_regc (fun T H => T 4 = (V.mp 4 1 0 0) ∧ T 5 = (iV (15 : Int)) ∧ H 2 = (⟨1, true, false, 34, 2, [[(iV (a.i)), (V.sl (List.map cT (a.tr)))]]⟩ : Blk) ∧ H 3 = (⟨1, true, false, 34, 2, [[(iV (b.i)), (V.sl (List.map cT (b.tr)))]]⟩ : Blk) ∧ H 4 = (⟨1, true, false, 34, 2, [[(iV (a.i)), (V.sl (List.map cT (a.tr)))]]⟩ : Blk) ∧ True) ?_ ?_
  ·
   unfold r49_2
   refine R_load_mp (v := (V.agg [(iV (a.i)), (V.sl (List.map cT (a.tr)))])) t2 h2 (by first | rfl | simp [ldB, ldV, Blk.own, V.one]) ?_
   refine R_store (vs := [(iV (a.i)), (V.sl (List.map cT (a.tr)))]) (B' := (⟨1, true, false, 34, 2, [[(iV (a.i)), (V.sl (List.map cT (a.tr)))]]⟩ : Blk)) t4 (@rfl V (V.agg [(iV (a.i)), (V.sl (List.map cT (a.tr)))])) rfl h4 (by first | rfl | simp [stB, okB, Blk.own, putAt, V.one]) ?_
   refine R_mv (@rfl V (iV (15 : Int))) ?_
   exact R_nil ⟨t4, rfl, h2, h3, rfl, trivial⟩
  intro T H ⟨t4, t5, h2, h3, h4, _⟩
  refine W_seq_ret ?_
  refine RetC_2 (resV_c (u := (V.agg [(iV (a.i)), (V.sl (List.map cT (a.tr)))])) t4 h4 (by first | rfl | simp [ldB, ldV, Blk.own, V.one])) (resV_t t5) (fz_agg2 (fz_int ?_) (fz_sl ?_ (fun _ => by simp))) (fz_int ?_)
  · rw [mgO, if_pos d1]
  · rw [mgO, if_pos d1]
  · rw [mgE, if_pos d1]
 have d1 := c1
 refine W_seq_skip ?_
 refine W_seq_regc (fun T H => T 4 = (V.mp 4 1 0 0) ∧ T 5 = (iV ((alR a.i a.tr b.tr).2)) ∧ H 2 = (⟨1, true, false, 34, 2, [[(iV (a.i)), (V.sl (List.map cT (a.tr)))]]⟩ : Blk) ∧ H 3 = (⟨1, true, false, 34, 2, [[(iV (b.i)), (V.sl (List.map cT (b.tr)))]]⟩ : Blk) ∧ H 4 = (⟨1, true, false, 34, 2, [[(iV ((alO a b.tr).i)), (V.sl (List.map cT ((alO a b.tr).tr)))]]⟩ : Blk) ∧ True) ?_ ?_
 ·
  unfold r49_3
  refine R_load_mp (v := (V.agg [(iV (a.i)), (V.sl (List.map cT (a.tr)))])) t2 h2 (by first | rfl | simp [ldB, ldV, Blk.own, V.one]) ?_
  refine R_fld_mp (o' := 1) t3 h3 (by first | rfl | simp [okB, Blk.own]) rfl ?_
  refine R_load_mp (v := (V.sl (List.map cT (b.tr)))) (@rfl V (V.mp 3 1 0 1)) h3 (by first | rfl | simp [ldB, ldV, Blk.own, V.one]) ?_
  refine R_call (evcons (@rfl V (V.agg [(iV (a.i)), (V.sl (List.map cT (a.tr)))])) (evcons (@rfl V (V.sl (List.map cT (b.tr)))) evnil)) (rall_pure a b.tr ha) (fzv_mapcanon _ _ (by simp [-List.map_take, -List.map_drop, -List.map_append, -List.map_reverse])) (by simp [-List.map_take, -List.map_drop, -List.map_append, -List.map_reverse]) (Or.inl (by simp [-List.map_take, -List.map_drop, -List.map_append, -List.map_reverse])) ?_
  refine R_ext (v := (V.agg [(iV ((alO a b.tr).i)), (V.sl (List.map cT ((alO a b.tr).tr)))])) (@rfl V (V.tup [(V.agg [(iV ((alO a b.tr).i)), (V.sl (List.map cT ((alO a b.tr).tr)))]), (iV ((alR a.i a.tr b.tr).2))])) rfl ?_
  refine R_ext (v := (iV ((alR a.i a.tr b.tr).2))) (@rfl V (V.tup [(V.agg [(iV ((alO a b.tr).i)), (V.sl (List.map cT ((alO a b.tr).tr)))]), (iV ((alR a.i a.tr b.tr).2))])) rfl ?_
  refine R_store (vs := [(iV ((alO a b.tr).i)), (V.sl (List.map cT ((alO a b.tr).tr)))]) (B' := (⟨1, true, false, 34, 2, [[(iV ((alO a b.tr).i)), (V.sl (List.map cT ((alO a b.tr).tr)))]]⟩ : Blk)) t4 (@rfl V (V.agg [(iV ((alO a b.tr).i)), (V.sl (List.map cT ((alO a b.tr).tr)))])) rfl h4 (by first | rfl | simp [stB, okB, Blk.own, putAt, V.one]) ?_
  refine R_mv (@rfl V (iV ((alR a.i a.tr b.tr).2))) ?_
  exact R_nil ⟨t4, rfl, h2, h3, rfl, trivial⟩
 intro T H ⟨t4, t5, h2, h3, h4, _⟩
 refine W_ret ?_
 refine RetC_2 (resV_c (u := (V.agg [(iV ((alO a b.tr).i)), (V.sl (List.map cT ((alO a b.tr).tr)))])) t4 h4 (by first | rfl | simp [ldB, ldV, Blk.own, V.one])) (resV_t t5) (fz_agg2 (fz_int ?_) (fz_sl ?_ (fun _ => by simp))) (fz_int ?_)
 · rw [mgO, if_neg d1]
 · rw [mgO, if_neg d1]
 · rw [mgE, if_neg d1]

end Go.Proofs.Ytngkckefanbhgaa

namespace Go.Proofs.Ytngkckefanbhgaa
open Go Go.Proofs

theorem law10_pure (a b : Ob) : PureC Try.prog 10 [(V.agg [(iV (a.i)), (V.sl (List.map cT (a.tr)))]), (V.agg [(iV (b.i)), (V.sl (List.map cT (b.tr)))])] (V.bool true) := by
 refine pure_of_Wb true 6 Try.func10 s10_ok (by kernel_rfl) (by simp [s10]) (by simp) (by simp) fun hB => ?_
 simp only [bnd_map, bnd_int, bnd_bool, bnd_str, bnd_agg, bnd_pp, bnd_nil, bnd_cons, implies_true, and_true, true_and] at hB
 unfold s10
 dsimp only
 refine W_seq_regc (fun T H => T 2 = (V.mp 2 1 0 0) ∧ T 3 = (V.mp 3 1 0 0) ∧ H 2 = (⟨1, true, false, 34, 2, [[(iV (a.i)), (V.sl (List.map cT (a.tr)))]]⟩ : Blk) ∧ H 3 = (⟨1, true, false, 34, 2, [[(iV (b.i)), (V.sl (List.map cT (b.tr)))]]⟩ : Blk) ∧ H 5 = (⟨0, false, false, 0, 0, []⟩ : Blk) ∧ H 7 = (⟨0, false, false, 0, 0, []⟩ : Blk) ∧ True) ?_ ?_
 ·
  unfold r10_0
  refine R_box (i := 2) (n := 0) (m := 2) (cs := [(iV (a.i)), (V.sl (List.map cT (a.tr)))]) rfl (congrArg Blk.ver rfl) (@rfl V (V.agg [(iV (a.i)), (V.sl (List.map cT (a.tr)))])) rfl rfl ?_
  refine R_box (i := 3) (n := 0) (m := 2) (cs := [(iV (b.i)), (V.sl (List.map cT (b.tr)))]) rfl (congrArg Blk.ver rfl) (@rfl V (V.agg [(iV (b.i)), (V.sl (List.map cT (b.tr)))])) rfl rfl ?_
  refine R_mv (@rfl V (V.bool false)) ?_
  exact R_nil ⟨rfl, rfl, rfl, rfl, rfl, rfl, trivial⟩
 intro T H ⟨t2, t3, h2, h3, h5, h7, _⟩
 refine W_seq_seq ?_
 refine W_seq_regc (fun T H => T 2 = (V.mp 2 1 0 0) ∧ T 3 = (V.mp 3 1 0 0) ∧ T 24 = (V.bool (decide ((((ogr a) ∨ (ogr b)) ∨ ((oval a) ≠ (0 : Int))) ∨ ((oval b) ≠ (0 : Int))))) ∧ H 2 = (⟨1, true, false, 34, 2, [[(iV (a.i)), (V.sl (List.map cT (a.tr)))]]⟩ : Blk) ∧ H 3 = (⟨1, true, false, 34, 2, [[(iV (b.i)), (V.sl (List.map cT (b.tr)))]]⟩ : Blk) ∧ H 5 = (⟨0, false, false, 0, 0, []⟩ : Blk) ∧ H 7 = (⟨0, false, false, 0, 0, []⟩ : Blk) ∧ True) ?_ ?_
 ·
  unfold r10_1
  refine R_load_mp (v := (V.agg [(iV (a.i)), (V.sl (List.map cT (a.tr)))])) t2 h2 (by first | rfl | simp [ldB, ldV, Blk.own, V.one]) ?_
  refine R_call (evcons (@rfl V (V.agg [(iV (a.i)), (V.sl (List.map cT (a.tr)))])) evnil) (great16_pure a) (fzv_mapcanon _ _ (by simp [-List.map_take, -List.map_drop, -List.map_append, -List.map_reverse])) (by simp [-List.map_take, -List.map_drop, -List.map_append, -List.map_reverse]) (Or.inl (by simp [-List.map_take, -List.map_drop, -List.map_append, -List.map_reverse])) ?_
  refine R_mv (@rfl V (V.bool (decide (ogr a)))) ?_
  refine Ops_seg 3 (fun T H => T 2 = (V.mp 2 1 0 0) ∧ T 3 = (V.mp 3 1 0 0) ∧ T 14 = (V.bool (decide ((ogr a) ∨ (ogr b)))) ∧ H 2 = (⟨1, true, false, 34, 2, [[(iV (a.i)), (V.sl (List.map cT (a.tr)))]]⟩ : Blk) ∧ H 3 = (⟨1, true, false, 34, 2, [[(iV (b.i)), (V.sl (List.map cT (b.tr)))]]⟩ : Blk) ∧ H 5 = (⟨0, false, false, 0, 0, []⟩ : Blk) ∧ H 7 = (⟨0, false, false, 0, 0, []⟩ : Blk) ∧ True) ?_ ?_
  ·
   by_cases g1 : ogr a
   ·
    refine G_no (Eq.trans (@rfl V (V.bool (decide (ogr a)))) (bdT g1)) (by decide) ?_
    refine G_no (Eq.trans (@rfl V (V.bool (decide (ogr a)))) (bdT g1)) (by decide) ?_
    refine R_pickT (Eq.trans (@rfl V (V.bool (decide (ogr a)))) (bdT g1)) (@rfl V (V.bool true)) ?_
    exact ⟨t2, t3, (Eq.trans (@rfl V (V.bool true)) (dec_orT g1)), h2, h3, h5, h7, trivial⟩
   ·
    refine G_yes (Eq.trans (@rfl V (V.bool (decide (ogr a)))) (bdF g1)) ?_
    refine R_load_mp (v := (V.agg [(iV (b.i)), (V.sl (List.map cT (b.tr)))])) t3 h3 (by first | rfl | simp [ldB, ldV, Blk.own, V.one]) ?_
    refine G_yes (Eq.trans (@rfl V (V.bool (decide (ogr a)))) (bdF g1)) ?_
    refine R_call (evcons (@rfl V (V.agg [(iV (b.i)), (V.sl (List.map cT (b.tr)))])) evnil) (great16_pure b) (fzv_mapcanon _ _ (by simp [-List.map_take, -List.map_drop, -List.map_append, -List.map_reverse])) (by simp [-List.map_take, -List.map_drop, -List.map_append, -List.map_reverse]) (Or.inl (by simp [-List.map_take, -List.map_drop, -List.map_append, -List.map_reverse])) ?_
    refine R_pickF (Eq.trans (@rfl V (V.bool (decide (ogr a)))) (bdF g1)) (@rfl V (V.bool (decide (ogr b)))) ?_
    exact ⟨t2, t3, (Eq.trans (@rfl V (V.bool (decide (ogr b)))) (dec_orF g1)), h2, h3, h5, h7, trivial⟩
  intro T H ⟨t2, t3, t14, h2, h3, h5, h7, _⟩
  refine R_mv t14 ?_
  refine Ops_seg 4 (fun T H => T 2 = (V.mp 2 1 0 0) ∧ T 3 = (V.mp 3 1 0 0) ∧ T 19 = (V.bool (decide (((ogr a) ∨ (ogr b)) ∨ ((oval a) ≠ (0 : Int))))) ∧ H 2 = (⟨1, true, false, 34, 2, [[(iV (a.i)), (V.sl (List.map cT (a.tr)))]]⟩ : Blk) ∧ H 3 = (⟨1, true, false, 34, 2, [[(iV (b.i)), (V.sl (List.map cT (b.tr)))]]⟩ : Blk) ∧ H 5 = (⟨0, false, false, 0, 0, []⟩ : Blk) ∧ H 7 = (⟨0, false, false, 0, 0, []⟩ : Blk) ∧ True) ?_ ?_
  ·
   by_cases g2 : (ogr a) ∨ (ogr b)
   ·
    refine G_no (Eq.trans (@rfl V (V.bool (decide ((ogr a) ∨ (ogr b))))) (bdT g2)) (by decide) ?_
    refine G_no (Eq.trans (@rfl V (V.bool (decide ((ogr a) ∨ (ogr b))))) (bdT g2)) (by decide) ?_
    refine G_no (Eq.trans (@rfl V (V.bool (decide ((ogr a) ∨ (ogr b))))) (bdT g2)) (by decide) ?_
    refine R_pickT (Eq.trans (@rfl V (V.bool (decide ((ogr a) ∨ (ogr b))))) (bdT g2)) (@rfl V (V.bool true)) ?_
    exact ⟨t2, t3, (Eq.trans (@rfl V (V.bool true)) (dec_orT g2)), h2, h3, h5, h7, trivial⟩
   ·
    refine G_yes (Eq.trans (@rfl V (V.bool (decide ((ogr a) ∨ (ogr b))))) (bdF g2)) ?_
    refine R_load_mp (v := (V.agg [(iV (a.i)), (V.sl (List.map cT (a.tr)))])) t2 h2 (by first | rfl | simp [ldB, ldV, Blk.own, V.one]) ?_
    refine G_yes (Eq.trans (@rfl V (V.bool (decide ((ogr a) ∨ (ogr b))))) (bdF g2)) ?_
    refine R_call (evcons (@rfl V (V.agg [(iV (a.i)), (V.sl (List.map cT (a.tr)))])) evnil) (oval_pure a) (fzv_mapcanon _ _ (by simp [-List.map_take, -List.map_drop, -List.map_append, -List.map_reverse])) (by simp [-List.map_take, -List.map_drop, -List.map_append, -List.map_reverse]) (Or.inl (by simp [-List.map_take, -List.map_drop, -List.map_append, -List.map_reverse])) ?_
    refine G_yes (Eq.trans (@rfl V (V.bool (decide ((ogr a) ∨ (ogr b))))) (bdF g2)) ?_
    refine R_neq (x := (oval a)) (y := (0 : Int)) (@rfl V (iV (oval a))) (@rfl V (iV (0 : Int))) ?_
    refine R_pickF (Eq.trans (@rfl V (V.bool (decide ((ogr a) ∨ (ogr b))))) (bdF g2)) (@rfl V (V.bool (decide ((oval a) ≠ (0 : Int))))) ?_
    exact ⟨t2, t3, (Eq.trans (@rfl V (V.bool (decide ((oval a) ≠ (0 : Int))))) (dec_orF g2)), h2, h3, h5, h7, trivial⟩
  intro T H ⟨t2, t3, t19, h2, h3, h5, h7, _⟩
  refine R_mv t19 ?_
  refine Ops_seg 4 (fun T H => T 2 = (V.mp 2 1 0 0) ∧ T 3 = (V.mp 3 1 0 0) ∧ T 24 = (V.bool (decide ((((ogr a) ∨ (ogr b)) ∨ ((oval a) ≠ (0 : Int))) ∨ ((oval b) ≠ (0 : Int))))) ∧ H 2 = (⟨1, true, false, 34, 2, [[(iV (a.i)), (V.sl (List.map cT (a.tr)))]]⟩ : Blk) ∧ H 3 = (⟨1, true, false, 34, 2, [[(iV (b.i)), (V.sl (List.map cT (b.tr)))]]⟩ : Blk) ∧ H 5 = (⟨0, false, false, 0, 0, []⟩ : Blk) ∧ H 7 = (⟨0, false, false, 0, 0, []⟩ : Blk) ∧ True) ?_ ?_
  ·
   by_cases g3 : ((ogr a) ∨ (ogr b)) ∨ ((oval a) ≠ (0 : Int))
   ·
    refine G_no (Eq.trans (@rfl V (V.bool (decide (((ogr a) ∨ (ogr b)) ∨ ((oval a) ≠ (0 : Int)))))) (bdT g3)) (by decide) ?_
    refine G_no (Eq.trans (@rfl V (V.bool (decide (((ogr a) ∨ (ogr b)) ∨ ((oval a) ≠ (0 : Int)))))) (bdT g3)) (by decide) ?_
    refine G_no (Eq.trans (@rfl V (V.bool (decide (((ogr a) ∨ (ogr b)) ∨ ((oval a) ≠ (0 : Int)))))) (bdT g3)) (by decide) ?_
    refine R_pickT (Eq.trans (@rfl V (V.bool (decide (((ogr a) ∨ (ogr b)) ∨ ((oval a) ≠ (0 : Int)))))) (bdT g3)) (@rfl V (V.bool true)) ?_
    exact ⟨t2, t3, (Eq.trans (@rfl V (V.bool true)) (dec_orT g3)), h2, h3, h5, h7, trivial⟩
   ·
    refine G_yes (Eq.trans (@rfl V (V.bool (decide (((ogr a) ∨ (ogr b)) ∨ ((oval a) ≠ (0 : Int)))))) (bdF g3)) ?_
    refine R_load_mp (v := (V.agg [(iV (b.i)), (V.sl (List.map cT (b.tr)))])) t3 h3 (by first | rfl | simp [ldB, ldV, Blk.own, V.one]) ?_
    refine G_yes (Eq.trans (@rfl V (V.bool (decide (((ogr a) ∨ (ogr b)) ∨ ((oval a) ≠ (0 : Int)))))) (bdF g3)) ?_
    refine R_call (evcons (@rfl V (V.agg [(iV (b.i)), (V.sl (List.map cT (b.tr)))])) evnil) (oval_pure b) (fzv_mapcanon _ _ (by simp [-List.map_take, -List.map_drop, -List.map_append, -List.map_reverse])) (by simp [-List.map_take, -List.map_drop, -List.map_append, -List.map_reverse]) (Or.inl (by simp [-List.map_take, -List.map_drop, -List.map_append, -List.map_reverse])) ?_
    refine G_yes (Eq.trans (@rfl V (V.bool (decide (((ogr a) ∨ (ogr b)) ∨ ((oval a) ≠ (0 : Int)))))) (bdF g3)) ?_
    refine R_neq (x := (oval b)) (y := (0 : Int)) (@rfl V (iV (oval b))) (@rfl V (iV (0 : Int))) ?_
    refine R_pickF (Eq.trans (@rfl V (V.bool (decide (((ogr a) ∨ (ogr b)) ∨ ((oval a) ≠ (0 : Int)))))) (bdF g3)) (@rfl V (V.bool (decide ((oval b) ≠ (0 : Int))))) ?_
    exact ⟨t2, t3, (Eq.trans (@rfl V (V.bool (decide ((oval b) ≠ (0 : Int))))) (dec_orF g3)), h2, h3, h5, h7, trivial⟩
  intro T H ⟨t2, t3, t24, h2, h3, h5, h7, _⟩
  exact R_nil ⟨t2, t3, t24, h2, h3, h5, h7, trivial⟩
 intro T H ⟨t2, t3, t24, h2, h3, h5, h7, _⟩
 refine W_seq_if (p := (((ogr a) ∨ (ogr b)) ∨ ((oval a) ≠ (0 : Int))) ∨ ((oval b) ≠ (0 : Int))) t24 (fun c4 => ?_) (fun c4 => ?_)
 ·
  refine W_seq_seq ?_
  refine W_seq_regc (fun T H => T 4 = (V.bool true) ∧ H 2 = (⟨1, true, false, 34, 2, [[(iV (a.i)), (V.sl (List.map cT (a.tr)))]]⟩ : Blk) ∧ H 3 = (⟨1, true, false, 34, 2, [[(iV (b.i)), (V.sl (List.map cT (b.tr)))]]⟩ : Blk) ∧ H 5 = (⟨0, false, false, 0, 0, []⟩ : Blk) ∧ H 7 = (⟨0, false, false, 0, 0, []⟩ : Blk) ∧ True) ?_ ?_
  ·
   unfold r10_2
   refine R_call evnil (aw_learnerlaw16_awake_pure) (fzv_mapcanon _ _ (by simp [-List.map_take, -List.map_drop, -List.map_append, -List.map_reverse])) (by simp [-List.map_take, -List.map_drop, -List.map_append, -List.map_reverse]) (Or.inl (by simp [-List.map_take, -List.map_drop, -List.map_append, -List.map_reverse])) ?_
   refine R_mv (@rfl V (V.bool true)) ?_
   exact R_nil ⟨rfl, h2, h3, h5, h7, trivial⟩
  intro T H ⟨t4, h2, h3, h5, h7, _⟩
  refine W_seq_ret ?_
  refine Ret_1 t4 (fz_canon (by simp) rfl)
 simp only [not_or, Decidable.not_not] at c4
 have ha := oval_ok (o := a) (by omega)
 refine W_seq_skip ?_
 refine W_seq_regc (fun T H => T 2 = (V.mp 2 1 0 0) ∧ T 3 = (V.mp 3 1 0 0) ∧ T 5 = (V.mp 5 1 0 0) ∧ T 6 = (iV (mgE a b)) ∧ H 2 = (⟨1, true, false, 34, 2, [[(iV (a.i)), (V.sl (List.map cT (a.tr)))]]⟩ : Blk) ∧ H 3 = (⟨1, true, false, 34, 2, [[(iV (b.i)), (V.sl (List.map cT (b.tr)))]]⟩ : Blk) ∧ H 5 = (⟨1, true, false, 34, 2, [[(iV ((mgO a b).i)), (V.sl (List.map cT ((mgO a b).tr)))]]⟩ : Blk) ∧ H 7 = (⟨0, false, false, 0, 0, []⟩ : Blk) ∧ True) ?_ ?_
 ·
  unfold r10_3
  refine R_load_mp (v := (V.agg [(iV (a.i)), (V.sl (List.map cT (a.tr)))])) t2 h2 (by first | rfl | simp [ldB, ldV, Blk.own, V.one]) ?_
  refine R_load_mp (v := (V.agg [(iV (b.i)), (V.sl (List.map cT (b.tr)))])) t3 h3 (by first | rfl | simp [ldB, ldV, Blk.own, V.one]) ?_
  refine R_call (evcons (@rfl V (V.agg [(iV (a.i)), (V.sl (List.map cT (a.tr)))])) (evcons (@rfl V (V.agg [(iV (b.i)), (V.sl (List.map cT (b.tr)))])) evnil)) (omerge_pure a b ha) (fzv_mapcanon _ _ (by simp [-List.map_take, -List.map_drop, -List.map_append, -List.map_reverse])) (by simp [-List.map_take, -List.map_drop, -List.map_append, -List.map_reverse]) (Or.inl (by simp [-List.map_take, -List.map_drop, -List.map_append, -List.map_reverse])) ?_
  refine R_mv (@rfl V (V.tup [(V.agg [(iV ((mgO a b).i)), (V.sl (List.map cT ((mgO a b).tr)))]), (iV (mgE a b))])) ?_
  refine R_ext (v := (V.agg [(iV ((mgO a b).i)), (V.sl (List.map cT ((mgO a b).tr)))])) (@rfl V (V.tup [(V.agg [(iV ((mgO a b).i)), (V.sl (List.map cT ((mgO a b).tr)))]), (iV (mgE a b))])) rfl ?_
  refine R_ext (v := (iV (mgE a b))) (@rfl V (V.tup [(V.agg [(iV ((mgO a b).i)), (V.sl (List.map cT ((mgO a b).tr)))]), (iV (mgE a b))])) rfl ?_
  refine R_alloc (i := 5) (n := 0) (m := 2) rfl (congrArg Blk.ver h5) rfl ?_
  refine R_store (vs := [(iV ((mgO a b).i)), (V.sl (List.map cT ((mgO a b).tr)))]) (B' := (⟨1, true, false, 34, 2, [[(iV ((mgO a b).i)), (V.sl (List.map cT ((mgO a b).tr)))]]⟩ : Blk)) (@rfl V (V.mp 5 1 0 0)) (@rfl V (V.agg [(iV ((mgO a b).i)), (V.sl (List.map cT ((mgO a b).tr)))])) rfl (@rfl Blk (⟨1, true, false, 34, 2, [[(iV (0 : Int)), V.nilsl]]⟩ : Blk)) (by first | rfl | simp [stB, okB, Blk.own, putAt, V.one]) ?_
  refine R_mv (@rfl V (iV (mgE a b))) ?_
  exact R_nil ⟨t2, t3, rfl, rfl, h2, h3, rfl, h7, trivial⟩
 intro T H ⟨t2, t3, t5, t6, h2, h3, h5, h7, _⟩
 refine W_seq_regc (fun T H => T 5 = (V.mp 5 1 0 0) ∧ T 6 = (iV (mgE a b)) ∧ T 7 = (V.mp 7 1 0 0) ∧ T 8 = (iV (mgE a b)) ∧ H 2 = (⟨1, true, false, 34, 2, [[(iV (a.i)), (V.sl (List.map cT (a.tr)))]]⟩ : Blk) ∧ H 3 = (⟨1, true, false, 34, 2, [[(iV (b.i)), (V.sl (List.map cT (b.tr)))]]⟩ : Blk) ∧ H 5 = (⟨1, true, false, 34, 2, [[(iV ((mgO a b).i)), (V.sl (List.map cT ((mgO a b).tr)))]]⟩ : Blk) ∧ H 7 = (⟨1, true, false, 34, 2, [[(iV ((mgO a b).i)), (V.sl (List.map cT ((mgO a b).tr)))]]⟩ : Blk) ∧ True) ?_ ?_
 ·
  unfold r10_4
  refine R_load_mp (v := (V.agg [(iV (a.i)), (V.sl (List.map cT (a.tr)))])) t2 h2 (by first | rfl | simp [ldB, ldV, Blk.own, V.one]) ?_
  refine R_load_mp (v := (V.agg [(iV (b.i)), (V.sl (List.map cT (b.tr)))])) t3 h3 (by first | rfl | simp [ldB, ldV, Blk.own, V.one]) ?_
  refine R_call (evcons (@rfl V (V.agg [(iV (a.i)), (V.sl (List.map cT (a.tr)))])) (evcons (@rfl V (V.agg [(iV (b.i)), (V.sl (List.map cT (b.tr)))])) evnil)) (rmerge_pure a b ha) (fzv_mapcanon _ _ (by simp [-List.map_take, -List.map_drop, -List.map_append, -List.map_reverse])) (by simp [-List.map_take, -List.map_drop, -List.map_append, -List.map_reverse]) (Or.inl (by simp [-List.map_take, -List.map_drop, -List.map_append, -List.map_reverse])) ?_
  refine R_mv (@rfl V (V.tup [(V.agg [(iV ((mgO a b).i)), (V.sl (List.map cT ((mgO a b).tr)))]), (iV (mgE a b))])) ?_
  refine R_ext (v := (V.agg [(iV ((mgO a b).i)), (V.sl (List.map cT ((mgO a b).tr)))])) (@rfl V (V.tup [(V.agg [(iV ((mgO a b).i)), (V.sl (List.map cT ((mgO a b).tr)))]), (iV (mgE a b))])) rfl ?_
  refine R_ext (v := (iV (mgE a b))) (@rfl V (V.tup [(V.agg [(iV ((mgO a b).i)), (V.sl (List.map cT ((mgO a b).tr)))]), (iV (mgE a b))])) rfl ?_
  refine R_alloc (i := 7) (n := 0) (m := 2) rfl (congrArg Blk.ver h7) rfl ?_
  refine R_store (vs := [(iV ((mgO a b).i)), (V.sl (List.map cT ((mgO a b).tr)))]) (B' := (⟨1, true, false, 34, 2, [[(iV ((mgO a b).i)), (V.sl (List.map cT ((mgO a b).tr)))]]⟩ : Blk)) (@rfl V (V.mp 7 1 0 0)) (@rfl V (V.agg [(iV ((mgO a b).i)), (V.sl (List.map cT ((mgO a b).tr)))])) rfl (@rfl Blk (⟨1, true, false, 34, 2, [[(iV (0 : Int)), V.nilsl]]⟩ : Blk)) (by first | rfl | simp [stB, okB, Blk.own, putAt, V.one]) ?_
  refine R_mv (@rfl V (iV (mgE a b))) ?_
  exact R_nil ⟨t5, t6, rfl, rfl, h2, h3, h5, rfl, trivial⟩
 intro T H ⟨t5, t6, t7, t8, h2, h3, h5, h7, _⟩
 refine W_seq_regc (fun T H => T 4 = (V.bool (decide ((((mgO a b)) = ((mgO a b))) ∧ ((mgE a b) = (mgE a b))))) ∧ H 2 = (⟨1, true, false, 34, 2, [[(iV (a.i)), (V.sl (List.map cT (a.tr)))]]⟩ : Blk) ∧ H 3 = (⟨1, true, false, 34, 2, [[(iV (b.i)), (V.sl (List.map cT (b.tr)))]]⟩ : Blk) ∧ H 5 = (⟨1, true, false, 34, 2, [[(iV ((mgO a b).i)), (V.sl (List.map cT ((mgO a b).tr)))]]⟩ : Blk) ∧ H 7 = (⟨1, true, false, 34, 2, [[(iV ((mgO a b).i)), (V.sl (List.map cT ((mgO a b).tr)))]]⟩ : Blk) ∧ True) ?_ ?_
 ·
  unfold r10_5
  refine R_load_mp (v := (V.agg [(iV ((mgO a b).i)), (V.sl (List.map cT ((mgO a b).tr)))])) t5 h5 (by first | rfl | simp [ldB, ldV, Blk.own, V.one]) ?_
  refine R_load_mp (v := (V.agg [(iV ((mgO a b).i)), (V.sl (List.map cT ((mgO a b).tr)))])) t7 h7 (by first | rfl | simp [ldB, ldV, Blk.own, V.one]) ?_
  refine R_call (evcons (@rfl V (V.agg [(iV ((mgO a b).i)), (V.sl (List.map cT ((mgO a b).tr)))])) (evcons (@rfl V (V.agg [(iV ((mgO a b).i)), (V.sl (List.map cT ((mgO a b).tr)))])) evnil)) (rsame_pure ((mgO a b)) ((mgO a b))) (fzv_mapcanon _ _ (by simp [-List.map_take, -List.map_drop, -List.map_append, -List.map_reverse])) (by simp [-List.map_take, -List.map_drop, -List.map_append, -List.map_reverse]) (Or.inl (by simp [-List.map_take, -List.map_drop, -List.map_append, -List.map_reverse])) ?_
  refine R_mv (@rfl V (V.bool (decide (((mgO a b)) = ((mgO a b)))))) ?_
  refine Ops_seg 4 (fun T H => T 45 = (V.bool (decide ((((mgO a b)) = ((mgO a b))) ∧ ((mgE a b) = (mgE a b))))) ∧ H 2 = (⟨1, true, false, 34, 2, [[(iV (a.i)), (V.sl (List.map cT (a.tr)))]]⟩ : Blk) ∧ H 3 = (⟨1, true, false, 34, 2, [[(iV (b.i)), (V.sl (List.map cT (b.tr)))]]⟩ : Blk) ∧ H 5 = (⟨1, true, false, 34, 2, [[(iV ((mgO a b).i)), (V.sl (List.map cT ((mgO a b).tr)))]]⟩ : Blk) ∧ H 7 = (⟨1, true, false, 34, 2, [[(iV ((mgO a b).i)), (V.sl (List.map cT ((mgO a b).tr)))]]⟩ : Blk) ∧ True) ?_ ?_
  ·
   by_cases g5 : ((mgO a b)) = ((mgO a b))
   ·
    refine G_yes (Eq.trans (@rfl V (V.bool (decide (((mgO a b)) = ((mgO a b)))))) (bdT g5)) ?_
    refine R_mv t6 ?_
    refine G_yes (Eq.trans (@rfl V (V.bool (decide (((mgO a b)) = ((mgO a b)))))) (bdT g5)) ?_
    refine R_mv t8 ?_
    refine G_yes (Eq.trans (@rfl V (V.bool (decide (((mgO a b)) = ((mgO a b)))))) (bdT g5)) ?_
    refine R_eql (x := (mgE a b)) (y := (mgE a b)) (@rfl V (iV (mgE a b))) (@rfl V (iV (mgE a b))) ?_
    refine R_pickT (Eq.trans (@rfl V (V.bool (decide (((mgO a b)) = ((mgO a b)))))) (bdT g5)) (@rfl V (V.bool (decide ((mgE a b) = (mgE a b))))) ?_
    exact ⟨(Eq.trans (@rfl V (V.bool (decide ((mgE a b) = (mgE a b))))) (dec_andT g5)), h2, h3, h5, h7, trivial⟩
   ·
    refine G_no (Eq.trans (@rfl V (V.bool (decide (((mgO a b)) = ((mgO a b)))))) (bdF g5)) (by decide) ?_
    refine G_no (Eq.trans (@rfl V (V.bool (decide (((mgO a b)) = ((mgO a b)))))) (bdF g5)) (by decide) ?_
    refine G_no (Eq.trans (@rfl V (V.bool (decide (((mgO a b)) = ((mgO a b)))))) (bdF g5)) (by decide) ?_
    refine R_pickF (Eq.trans (@rfl V (V.bool (decide (((mgO a b)) = ((mgO a b)))))) (bdF g5)) (@rfl V (V.bool false)) ?_
    exact ⟨(Eq.trans (@rfl V (V.bool false)) (dec_andF g5)), h2, h3, h5, h7, trivial⟩
  intro T H ⟨t45, h2, h3, h5, h7, _⟩
  refine R_mv t45 ?_
  refine Ops_seg 2 (fun T H => T 48 = (V.bool (decide ((((mgO a b)) = ((mgO a b))) ∧ ((mgE a b) = (mgE a b))))) ∧ H 2 = (⟨1, true, false, 34, 2, [[(iV (a.i)), (V.sl (List.map cT (a.tr)))]]⟩ : Blk) ∧ H 3 = (⟨1, true, false, 34, 2, [[(iV (b.i)), (V.sl (List.map cT (b.tr)))]]⟩ : Blk) ∧ H 5 = (⟨1, true, false, 34, 2, [[(iV ((mgO a b).i)), (V.sl (List.map cT ((mgO a b).tr)))]]⟩ : Blk) ∧ H 7 = (⟨1, true, false, 34, 2, [[(iV ((mgO a b).i)), (V.sl (List.map cT ((mgO a b).tr)))]]⟩ : Blk) ∧ True) ?_ ?_
  ·
   by_cases g6 : (((mgO a b)) = ((mgO a b))) ∧ ((mgE a b) = (mgE a b))
   ·
    refine G_yes (Eq.trans (@rfl V (V.bool (decide ((((mgO a b)) = ((mgO a b))) ∧ ((mgE a b) = (mgE a b)))))) (bdT g6)) ?_
    refine R_call evnil (aw_learnerlaw16_awake_pure) (fzv_mapcanon _ _ (by simp [-List.map_take, -List.map_drop, -List.map_append, -List.map_reverse])) (by simp [-List.map_take, -List.map_drop, -List.map_append, -List.map_reverse]) (Or.inl (by simp [-List.map_take, -List.map_drop, -List.map_append, -List.map_reverse])) ?_
    refine R_pickT (Eq.trans (@rfl V (V.bool (decide ((((mgO a b)) = ((mgO a b))) ∧ ((mgE a b) = (mgE a b)))))) (bdT g6)) (@rfl V (V.bool true)) ?_
    exact ⟨(Eq.trans (@rfl V (V.bool true)) (dec_T g6)), h2, h3, h5, h7, trivial⟩
   ·
    refine G_no (Eq.trans (@rfl V (V.bool (decide ((((mgO a b)) = ((mgO a b))) ∧ ((mgE a b) = (mgE a b)))))) (bdF g6)) (by decide) ?_
    refine R_pickF (Eq.trans (@rfl V (V.bool (decide ((((mgO a b)) = ((mgO a b))) ∧ ((mgE a b) = (mgE a b)))))) (bdF g6)) (@rfl V (V.bool false)) ?_
    exact ⟨(Eq.trans (@rfl V (V.bool false)) (dec_F g6)), h2, h3, h5, h7, trivial⟩
  intro T H ⟨t48, h2, h3, h5, h7, _⟩
  refine R_mv t48 ?_
  exact R_nil ⟨rfl, h2, h3, h5, h7, trivial⟩
 intro T H ⟨t4, h2, h3, h5, h7, _⟩
 refine W_ret ?_
 refine Ret_1 t4 (fz_bool ?_)
 · simp

end Go.Proofs.Ytngkckefanbhgaa

namespace Go.Proofs.Ytngkckefanbhgaa
open Go Go.Proofs Go.Proofs.Ytngkckefanbhgaa Go.ChangeShapes Go.WideShapes Go.ChangeAt Go.RowKit

structure UT (P : Program) : Prop where
  u3 : P.underlying 3 = some (.int .i64)
  u32 : P.underlying 32 = some (.slice 63)
  u35 : P.underlying 35 = some (.slice 3)
  u63 : ∃ f0 f1 : Field, P.underlying 63 = some (.struct #[f0, f1]) ∧ f0.type = 35 ∧ f1.type = 35
  u34 : ∃ f0 f1 : Field, P.underlying 34 = some (.struct #[f0, f1]) ∧ f0.type = 3 ∧ f1.type = 32
theorem sh3 {P : Program} (U : UT P) (n : Nat) (vs : List V) (h : Shp P (n + 1) 3 vs) : ∃ a : Int, vs = cI a := shp_int U.u3 h

theorem sh35 {P : Program} (U : UT P) (n : Nat) (vs : List V) (h : Shp P (n + 2) 35 vs) : ∃ a : List Int, vs = cL a := shp_slice (f := cI) U.u35 (fun vs h => sh3 U n vs h) h

theorem sh63 {P : Program} (U : UT P) (n : Nat) (vs : List V) (h : Shp P (n + 3) 63 vs) : ∃ a : Tr, vs = cT a := by
  obtain ⟨f0, f1, hu, k0, k1⟩ := U.u63
  have h0 := shp_step hu h
  obtain ⟨x0, u0, e0, h1⟩ := shpL_cons (c := cL) (fun vs h => sh35 U (n + 0) vs (by rw [k0] at h; exact h)) h0
  obtain ⟨x1, u1, e1, h2⟩ := shpL_cons (c := cL) (fun vs h => sh35 U (n + 0) vs (by rw [k1] at h; exact h)) h1
  have e2 := shpL_nil h2
  exact ⟨⟨x0, x1⟩, by rw [e0, e1, e2]; rfl⟩

theorem sh32 {P : Program} (U : UT P) (n : Nat) (vs : List V) (h : Shp P (n + 4) 32 vs) : ∃ a : List Tr, vs = (fun l => [V.sl (List.map cT l)]) a := shp_slice (f := cT) U.u32 (fun vs h => sh63 U n vs h) h

theorem sh34 {P : Program} (U : UT P) (n : Nat) (vs : List V) (h : Shp P (n + 5) 34 vs) : ∃ a : Ob, vs = oC a := by
  obtain ⟨f0, f1, hu, k0, k1⟩ := U.u34
  have h0 := shp_step hu h
  obtain ⟨x0, u0, e0, h1⟩ := shpL_cons (c := cI) (fun vs h => sh3 U (n + 3) vs (by rw [k0] at h; exact h)) h0
  obtain ⟨x1, u1, e1, h2⟩ := shpL_cons (c := (fun l => [V.sl (List.map cT l)])) (fun vs h => sh32 U (n + 0) vs (by rw [k1] at h; exact h)) h1
  have e2 := shpL_nil h2
  exact ⟨⟨x0, x1⟩, by rw [e0, e1, e2]; rfl⟩

theorem ut : UT Try.prog := ⟨by kernel_rfl, by kernel_rfl, by kernel_rfl, ⟨_, _, Try.underlying63, rfl, rfl⟩, ⟨_, _, Try.underlying34, rfl, rfl⟩⟩
theorem args10 {P : Program} (U : UT P) {us : List V} (h : ShpA P 6 [34, 34] us) : ∃ (d0 : Ob) (d1 : Ob), us = [V.agg (oC d0), V.agg (oC d1)] := by
  obtain ⟨a0, b0, e0, h0, h⟩ := shpA_cons h
  obtain ⟨d0, g0⟩ := sh34 U 1 a0 h0
  have q0 : packV P 34 a0 = V.agg (oC d0) := by obtain ⟨_, _, hu, _⟩ := U.u34; rw [g0]; exact pack_struct hu _
  obtain ⟨a1, b1, e1, h1, h⟩ := shpA_cons h
  obtain ⟨d1, g1⟩ := sh34 U 1 a1 h1
  have q1 : packV P 34 a1 = V.agg (oC d1) := by obtain ⟨_, _, hu, _⟩ := U.u34; rw [g1]; exact pack_struct hu _
  have e2 := shpA_nil h
  exact ⟨d0, d1, by rw [e0, q0, e1, q1, e2]⟩
theorem own10 : ownKnob Try.prog.godebug = none := by kernel_rfl

set_option maxRecDepth 100000 in
theorem lifted10 (os : Os) (started : os.Started) (H : Type) (enc : TypeId × Value → H) :
    ReturnsInHanded {} Try.checked os 10 .any (Rows.observeMergesSpec.pre6 enc Try.prog Try.f10 Rows.observeMergesRow.domain false) (Rows.observeMergesSpec.post enc Try.prog Try.f10 false true false false) := by
  refine returnsInHanded_of_change (C := Try.checked) own10 started (by kernel_rfl) Try.func10
    (ChangeSpec.witness6 (enc := enc) (C := Try.checked) false ⟨#[], #[.agg #[.int .i64 0, .slice none 0 0], .agg #[.int .i64 0, .slice none 0 0]], []⟩ 8 (by kernel_rfl) (by kernel_rfl) (by kernel_rfl) (by kernel_rfl)) ?_
  intro W base args ds gs before hval0 hW hcnd _
  refine law_post (n := 6) (tb := 4) (by kernel_rfl) (by kernel_rfl) (by kernel_rfl) (fun t ht => ?_) rfl ?_ (fun us hu => ?_) hval0 hW
  · have h : t ∈ [34, 34] := ht
    simp only [List.mem_cons, List.not_mem_nil, or_false] at h
    rcases h with rfl | rfl
    · exact ⟨by kernel_rfl, by kernel_rfl, of_decide_eq_true (by kernel_rfl)⟩
    · exact ⟨by kernel_rfl, by kernel_rfl, of_decide_eq_true (by kernel_rfl)⟩
  · obtain ⟨p, q, hA, hV, rfl, hfz, hnd⟩ := hW
    obtain ⟨rfl, rfl⟩ := trodVars_none hV
    change DataW.TrodAll enc Try.prog W 0 (fun _ => true) true [34, 34] args.toList ds p at hA
    obtain ⟨v0, vs0, y0, ds0, pa0, pb0, hv0, rfl, rfl, _, hA⟩ := trodAll_cons hA
    obtain ⟨v1, vs1, y1, ds1, pa1, pb1, hv1, rfl, rfl, _, hA⟩ := trodAll_cons hA
    obtain ⟨_, rfl, rfl⟩ := trodAll_nil hA
    rfl
  · obtain ⟨d0, d1, rfl⟩ := args10 ut hu
    exact law10_pure d0 d1

theorem proved10 : Rows.ObserveMergesSaid :=
  OpenClaim.holds_of_wide 10 Try.f10 rfl rfl rfl rfl rfl rfl rfl ⟨rfl, rfl, rfl, rfl, rfl⟩ rfl rfl rfl rfl rfl (by kernel_rfl) Try.func10 (by kernel_rfl)
    (of_decide_eq_true (by kernel_rfl)) (by unfold Func.isWrapper; first | (rw [if_pos (by decide +kernel)]; kernel_rfl) | (rw [if_neg (by decide +kernel)]; exact ⟨rfl, rfl⟩))
    (fun os started H enc _ => lifted10 os started H enc)
end Go.Proofs.Ytngkckefanbhgaa

