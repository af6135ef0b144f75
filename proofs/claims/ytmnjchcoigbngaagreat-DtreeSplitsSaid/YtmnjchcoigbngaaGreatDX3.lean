/- Contracts of the functions that the law DX reaches, and the law itself, for every input; no condition. -/
import Derived.KernelRfl
import Derived.Test.YtmnjchcoigbngaaGreatProg
import Derived.Test.YtmnjchcoigbngaaGreatRows
import Derived.Test.YtmnjchcoigbngaaGreatDX2
set_option linter.unusedSimpArgs false
set_option linter.unusedVariables false
namespace Go.Proofs.YtmnjchcoigbngaaGreat
open Go Go.Proofs
def s69 : SF := ⟨8, [.tmp 2], .seq (.reg [sO 2 (.mv (.c (.int .i64 0)))]) (.seq (.seq (.reg [sO 3 (.mv (.t 0)), sO 4 (.len (.t 3)), sO 5 (.bin .eql (.t 4) (.c (.int .i64 0)))]) (.cond (.t 5) (.seq (.reg [sO 2 (.mv (.c (.int .i64 19)))]) (.ret)) (.skip))) (.seq (.reg [sO 6 (.mv (.t 0)), sO 7 (.call false 44 [.t 6, .c (.int .i64 64)]), sO 2 (.mv (.t 7))]) (.ret)))⟩
theorem s69_ok : slimF Tryz.prog ⟨[57, 58, 59, 63, 67, 68, 77, 102, 103, 104, 110, 116, 120], []⟩ Tryz.f69 = some s69 := by kernel_rfl
theorem ending_pure (s : List Int) : PureC Tryz.prog 69 [(ints s)] (iV (if s.length = 0 then 19 else wchk s 64)) := by
 refine pW Tryz.func69 s69_ok fun hB => ?_
 unfold s69
 dsimp only
 refine W_r (R_mv (@rfl V (iV (0 : Int))) (R_e (W_seq_seq (W_r (R_mv (@rfl V (ints s)) (R_len rfl (R_eql rfl rfl ?_)))))))
 refine R_e ?_
 refine W_seq_if rfl (fun c1 => ?_) fun c1 => ?_
 ·
  refine W_seq_seq (W_r (R_mv (@rfl V (iV (19 : Int))) (R_e (W_seq_ret ?_))))
  refine Ret_1 (@rfl V (iV (19 : Int))) (fz_int ?_)
  · rw [if_pos (by omega)]
 refine W_seq_skip (W_r (R_mv (@rfl V (ints s)) (R_callc (evcons rfl (evcons rfl evnil)) (rcheck_pure s ((64 : Int))) (R_mv (@rfl V (iV (wchk s ((64 : Int))))) (R_e (W_ret ?_))))))
 refine Ret_1 (@rfl V (iV (wchk s ((64 : Int))))) (fz_int ?_)
 · rw [if_neg (by omega)]
def r76_2 : List SO := [
 sO 10 (.mv (.t 5)),
 sO 11 (.mv (.t 0)),
 sO 12 (.len (.t 11)),
 sO 13 (.bin .eql (.t 10) (.t 12)),
 sO 14 (.mv (.t 13)),
 ⟨some (14, true), some 15, .mv (.t 5)⟩,
 ⟨some (14, true), some 16, .mv (.t 1)⟩,
 ⟨some (14, true), some 17, .len (.t 16)⟩,
 ⟨some (14, true), some 18, .bin .eql (.t 15) (.t 17)⟩,
 sO 19 (.pick (.t 14) (.t 18) (.c (.bool false))),
 sO 9 (.mv (.t 19))]
def r76_5 : List SO := [
 sO 25 (.mv (.t 5)),
 sO 26 (.mv (.t 1)),
 sO 27 (.len (.t 26)),
 sO 28 (.bin .lss (.t 25) (.t 27)),
 sO 29 (.mv (.t 28)),
 ⟨some (29, true), some 30, .mv (.t 0)⟩,
 ⟨some (29, true), some 31, .mv (.t 5)⟩,
 ⟨some (29, true), some 32, .idx 1 (.t 30) (.t 31)⟩,
 ⟨some (29, true), some 33, .load false 1 (.t 32)⟩,
 ⟨some (29, true), some 34, .mv (.t 1)⟩,
 ⟨some (29, true), some 35, .mv (.t 5)⟩,
 ⟨some (29, true), some 36, .idx 1 (.t 34) (.t 35)⟩,
 ⟨some (29, true), some 37, .load false 1 (.t 36)⟩,
 ⟨some (29, true), some 38, .bin .lss (.t 33) (.t 37)⟩,
 sO 39 (.pick (.t 29) (.t 38) (.c (.bool false))),
 sO 20 (.mv (.t 39))]
def s76 : SF := ⟨40, [.tmp 4], .seq (.reg [sO 4 (.mv (.c (.int .i64 0)))]) (.seq (.reg [sO 6 (.mv (.t 0)), sO 7 (.mv (.t 1)), sO 8 (.call false 53 [.t 6, .t 7]), sO 5 (.mv (.t 8))]) (.seq (.block 0 (.seq (.reg r76_2) (.cond (.t 9) (.seq (.reg [sO 4 (.mv (.c (.int .i64 0)))]) (.ret)) (.seq (.seq (.reg [sO 21 (.mv (.t 5)), sO 22 (.mv (.t 0)), sO 23 (.len (.t 22)), sO 24 (.bin .eql (.t 21) (.t 23)), sO 20 (.mv (.t 24))]) (.cond (.t 20) (.skip) (.reg r76_5))) (.cond (.t 20) (.seq (.reg [sO 4 (.mv (.c (.int .i64 (-1))))]) (.ret)) (.skip)))))) (.seq (.reg [sO 4 (.mv (.c (.int .i64 1)))]) (.ret))))⟩
theorem s76_ok : slimF Tryz.prog ⟨[57, 58, 59, 63, 67, 68, 77, 102, 103, 104, 110, 116, 120], []⟩ Tryz.f76 = some s76 := by kernel_rfl
theorem rcommon_pure (a b : List Int) : PureC Tryz.prog 53 [(ints a), (ints b)] (iV ((cmn a b : Nat) : Int)) := by
 refine pW Tryz.func53 s53_ok fun hB => ?_
 unfold s53
 dsimp only
 refine W_r (R_mv (@rfl V (iV (0 : Int))) (R_e (W_r (R_mv (@rfl V (iV (0 : Int))) (R_e (W_seq_blockg fun Q1 n1 x1 y1 z1 => ?_))))))
 refine W_loop (fun mm T H => ∃ (k : Nat), mm = a.length - k ∧ T 0 = (ints a) ∧ T 1 = (ints b) ∧ T 5 = (iV ((k : Nat) : Int)) ∧ (k ≤ a.length) ∧ (k ≤ cmn a b)) ?_ ?_
 ·
  refine ⟨_, 0, rfl, rfl, rfl, (Eq.trans (@rfl V (iV (0 : Int))) rfl), ?_, ?_⟩
  · omega
  · exact Nat.zero_le _
 intro mm T H ⟨k, hmm, t0, t1, t5, hk, hc⟩ Q2 p12 p22 p32
 unfold b53_0
 refine W_seq_seq (W_r (R_mv t5 (R_mv t0 (R_len rfl (R_lss rfl rfl (R_mv (@rfl V (V.bool (decide (((k : Nat) : Int) < ((a.length : Nat) : Int))))) ?_))))))
 refine Ops_seg 5 (fun T H => T 0 = (ints a) ∧ T 1 = (ints b) ∧ T 5 = (iV ((k : Nat) : Int)) ∧ T 15 = (V.bool (decide ((((k : Nat) : Int) < ((a.length : Nat) : Int)) ∧ (((k : Nat) : Int) < ((b.length : Nat) : Int))))) ∧ True) ?_ ?_
 ·
  by_cases g3 : ((k : Nat) : Int) < ((a.length : Nat) : Int)
  ·
   refine G_yes (edT g3 rfl) (R_mv t5 (G_yes (edT g3 rfl) (R_mv t1 (G_yes (edT g3 rfl) (R_len rfl (G_yes (edT g3 rfl) (R_lss rfl rfl ?_)))))))
   refine R_pickT (edT g3 rfl) rfl ?_
   exact ⟨t0, t1, t5, (dec_andT g3), trivial⟩
  ·
   refine G_n (edF g3 rfl) (G_n (edF g3 rfl) (G_n (edF g3 rfl) (G_n (edF g3 rfl) (R_pickF (edF g3 rfl) rfl ?_))))
   exact ⟨t0, t1, t5, (dec_andF g3), trivial⟩
 intro T H ⟨t0, t1, t5, t15, _⟩
 refine R_mv t15 ?_
 refine Ops_seg 10 (fun T H => T 0 = (ints a) ∧ T 1 = (ints b) ∧ T 5 = (iV ((k : Nat) : Int)) ∧ T 26 = (V.bool (decide (((((k : Nat) : Int) < ((a.length : Nat) : Int)) ∧ (((k : Nat) : Int) < ((b.length : Nat) : Int))) ∧ (((nth (a) (k))) = ((nth (b) (k))))))) ∧ True) ?_ ?_
 ·
  by_cases g4 : (((k : Nat) : Int) < ((a.length : Nat) : Int)) ∧ (((k : Nat) : Int) < ((b.length : Nat) : Int))
  ·
   refine G_yes (edT g4 rfl) (R_mv t0 (G_yes (edT g4 rfl) (R_mv t5 (G_yes (edT g4 rfl) (R_idx (i := k) (@rfl V (ints a)) (@rfl V (iV ((k : Nat) : Int))) (by omega) rfl (G_yes (edT g4 rfl) (R_load_pp (v := (iV ((nth (a) (k))))) rfl (by first | rfl | simp [ldV]) ?_)))))))
   refine G_yes (edT g4 rfl) (R_mv t1 (G_yes (edT g4 rfl) (R_mv t5 (G_yes (edT g4 rfl) (R_idx (i := k) (@rfl V (ints b)) (@rfl V (iV ((k : Nat) : Int))) (by omega) rfl (G_yes (edT g4 rfl) (R_load_pp (v := (iV ((nth (b) (k))))) rfl (by first | rfl | simp [ldV]) ?_)))))))
   refine G_yes (edT g4 rfl) (R_eql rfl rfl (R_pickT (edT g4 rfl) rfl ?_))
   exact ⟨t0, t1, t5, (dec_andT g4), trivial⟩
  ·
   refine G_n (edF g4 rfl) (G_n (edF g4 rfl) (G_n (edF g4 rfl) (G_n (edF g4 rfl) (G_n (edF g4 rfl) (G_n (edF g4 rfl) (G_n (edF g4 rfl) (G_n (edF g4 rfl) ?_)))))))
   refine G_n (edF g4 rfl) (R_pickF (edF g4 rfl) rfl ?_)
   exact ⟨t0, t1, t5, (dec_andF g4), trivial⟩
 intro T H ⟨t0, t1, t5, t26, _⟩
 refine R_e ?_
 refine W_seq_if t26 (fun c5 => ?_) fun c5 => ?_
 ·
  refine W_seq_skip (W_block fun Q6 n6 x6 y6 z6 => (W_t (R_mv t5 (R_addN rfl (@rfl V (iV ((1 : Nat) : Int))) (by omega) (R_mv (@rfl V (iV ((k + 1 : Nat) : Int))) (R_e (n6 _ _ ?_)))))))
  refine p12 _ _ _ ?_ ⟨(k + 1), rfl, t0, t1, (Eq.trans (@rfl V (iV ((k + 1 : Nat) : Int))) (by first | rfl | simp)), ?_, ?_⟩
  · omega
  · omega
  · exact cmn_next hc (by omega) (by omega) (by omega)
 refine W_seq_exit (p32 _ _ _ (x1 _ _ (.done (W_r (R_mv t5 (R_mv (@rfl V (iV ((k : Nat) : Int))) (R_e ?_)))))))
 refine W_ret ?_
 refine Ret_1 (@rfl V (iV ((k : Nat) : Int))) (fz_int ?_)
 · rw [cmn_at hc (by omega)]
theorem rlex_pure (a b : List Int) : PureC Tryz.prog 76 [(ints a), (ints b)] (iV (lexI a b)) := by
 refine pW Tryz.func76 s76_ok fun hB => ?_
 unfold s76
 dsimp only
 refine W_r (R_mv (@rfl V (iV (0 : Int))) (R_e (W_r (R_mv (@rfl V (ints a)) (R_mv (@rfl V (ints b)) ?_)))))
 have q1 := cmn_l a b
 have q2 := cmn_r a b
 refine R_callc (evcons rfl (evcons rfl evnil)) (rcommon_pure a b) (R_mv (@rfl V (iV ((cmn a b : Nat) : Int))) (R_e ?_))
 have q3 := cmn_l a b
 have q4 := cmn_r a b
 refine W_seq_blockg fun Q5 n5 x5 y5 z5 => (W_r (R_mv (@rfl V (iV ((cmn a b : Nat) : Int))) (R_mv (@rfl V (ints a)) (R_len rfl (R_eql rfl rfl (R_mv (@rfl V (V.bool (decide (((cmn a b : Nat) : Int) = ((a.length : Nat) : Int))))) ?_))))))
 refine Ops_seg 5 (fun T H => T 0 = (ints a) ∧ T 1 = (ints b) ∧ T 5 = (iV ((cmn a b : Nat) : Int)) ∧ T 19 = (V.bool (decide ((((cmn a b : Nat) : Int) = ((a.length : Nat) : Int)) ∧ (((cmn a b : Nat) : Int) = ((b.length : Nat) : Int))))) ∧ True) ?_ ?_
 ·
  by_cases g6 : ((cmn a b : Nat) : Int) = ((a.length : Nat) : Int)
  ·
   refine G_yes (edT g6 rfl) (R_mv (@rfl V (iV ((cmn a b : Nat) : Int))) (G_yes (edT g6 rfl) (R_mv (@rfl V (ints b)) (G_yes (edT g6 rfl) (R_len rfl (G_yes (edT g6 rfl) (R_eql rfl rfl ?_)))))))
   refine R_pickT (edT g6 rfl) rfl ?_
   exact ⟨rfl, rfl, rfl, (dec_andT g6), trivial⟩
  ·
   refine G_n (edF g6 rfl) (G_n (edF g6 rfl) (G_n (edF g6 rfl) (G_n (edF g6 rfl) (R_pickF (edF g6 rfl) rfl ?_))))
   exact ⟨rfl, rfl, rfl, (dec_andF g6), trivial⟩
 intro T H ⟨t0, t1, t5, t19, _⟩
 refine R_mv t19 (R_e ?_)
 refine W_if rfl (fun c7 => ?_) fun c7 => ?_
 ·
  refine W_r (R_mv (@rfl V (iV (0 : Int))) (R_e (W_ret (y5 _ _ ?_))))
  refine Ret_1 (@rfl V (iV (0 : Int))) (fz_int ?_)
  · unfold lexI; rw [if_pos (by omega)]
 refine W_seq_seq (W_r (R_mv t5 (R_mv t0 (R_len rfl (R_eql rfl rfl (R_mv (@rfl V (V.bool (decide (((cmn a b : Nat) : Int) = ((a.length : Nat) : Int))))) (R_e ?_)))))))
 refine W_seq_if rfl (fun c8 => ?_) fun c8 => ?_
 ·
  refine W_seq_skip ?_
  refine W_if rfl (fun c9 => ?_) fun c9 => ?_
  ·
   refine W_r (R_mv (@rfl V (iV (-1 : Int))) (R_e (W_ret (y5 _ _ ?_))))
   refine Ret_1 (@rfl V (iV (-1 : Int))) (fz_int ?_)
   · unfold lexI; rw [if_neg (by omega), if_pos (by omega)]
  · exact (c9 c8).elim
 refine W_r (R_mv t5 (R_mv t1 (R_len rfl (R_lss rfl rfl (R_mv (@rfl V (V.bool (decide (((cmn a b : Nat) : Int) < ((b.length : Nat) : Int))))) ?_)))))
 refine Ops_seg 10 (fun T H => T 20 = (V.bool (decide (((cmn a b : Nat) : Int) = ((a.length : Nat) : Int)))) ∧ T 39 = (V.bool (decide ((((cmn a b : Nat) : Int) < ((b.length : Nat) : Int)) ∧ (((nth (a) (cmn a b))) < ((nth (b) (cmn a b))))))) ∧ True) ?_ ?_
 ·
  by_cases g10 : ((cmn a b : Nat) : Int) < ((b.length : Nat) : Int)
  ·
   refine G_yes (edT g10 rfl) (R_mv t0 (G_yes (edT g10 rfl) (R_mv t5 (G_yes (edT g10 rfl) (R_idx (i := (cmn a b)) (@rfl V (ints a)) (@rfl V (iV ((cmn a b : Nat) : Int))) (by omega) rfl (G_yes (edT g10 rfl) (R_load_pp (v := (iV ((nth (a) (cmn a b))))) rfl (by first | rfl | simp [ldV]) ?_)))))))
   refine G_yes (edT g10 rfl) (R_mv t1 (G_yes (edT g10 rfl) (R_mv t5 (G_yes (edT g10 rfl) (R_idx (i := (cmn a b)) (@rfl V (ints b)) (@rfl V (iV ((cmn a b : Nat) : Int))) (by omega) rfl (G_yes (edT g10 rfl) (R_load_pp (v := (iV ((nth (b) (cmn a b))))) rfl (by first | rfl | simp [ldV]) ?_)))))))
   refine G_yes (edT g10 rfl) (R_lss rfl rfl (R_pickT (edT g10 rfl) rfl ?_))
   exact ⟨rfl, (dec_andT g10), trivial⟩
  ·
   refine G_n (edF g10 rfl) (G_n (edF g10 rfl) (G_n (edF g10 rfl) (G_n (edF g10 rfl) (G_n (edF g10 rfl) (G_n (edF g10 rfl) (G_n (edF g10 rfl) (G_n (edF g10 rfl) ?_)))))))
   refine G_n (edF g10 rfl) (R_pickF (edF g10 rfl) rfl ?_)
   exact ⟨rfl, (dec_andF g10), trivial⟩
 intro T H ⟨t20, t39, _⟩
 refine R_mv t39 (R_e ?_)
 refine W_if rfl (fun c11 => ?_) fun c11 => ?_
 ·
  refine W_r (R_mv (@rfl V (iV (-1 : Int))) (R_e (W_ret (y5 _ _ ?_))))
  refine Ret_1 (@rfl V (iV (-1 : Int))) (fz_int ?_)
  · unfold lexI; rw [if_neg (by omega), if_pos (by omega)]
 refine W_skip (n5 _ _ (.done (W_r (R_mv (@rfl V (iV (1 : Int))) (R_e (W_ret ?_))))))
 refine Ret_1 (@rfl V (iV (1 : Int))) (fz_int ?_)
 · unfold lexI; rw [if_neg (by omega), if_neg (by omega)]
theorem rnode_pure (t : Dt) (x : Nd) (ho : x.ou.length ≤ 1048576) (hk0 : x.kd.length ≤ 1048576) : PureC Tryz.prog 39 [(V.agg [(V.sl (List.map cN (t.nd)))]), (V.agg (cN x))] (iV (ndE x t.nd.length)) := by
 refine pW Tryz.func39 s39_ok fun hB => ?_
 unfold s39
 dsimp only
 refine W_r (R_box (i := 2) (n := 0) (m := 1) (cs := [(V.sl (List.map cN (t.nd)))]) rfl (congrArg Blk.ver rfl) rfl rfl rfl (R_box (i := 3) (n := 0) (m := 5) (cs := [(V.bool x.lf), (ints x.ac), (ints x.sf), (intss x.ou), (ints x.kd)]) rfl (congrArg Blk.ver rfl) rfl rfl rfl (R_mv (@rfl V (iV (0 : Int))) (R_e (W_seq_seq (W_r (R_fld_mp (o' := 0) rfl rfl oB rfl ?_)))))))
 refine R_load_mp (v := (V.bool x.lf)) rfl rfl (lB oB rfl rfl) (R_e ?_)
 refine W_seq_ifb rfl (fun c1 => ?_) (fun c1 => ?_)
 ·
  have d0 : x.lf = true := c1
  refine W_seq_seq (W_seq_seq (W_r (R_fld_mp (o' := 2) rfl rfl oB rfl (R_load_mp (v := (ints x.sf)) rfl rfl (lB oB rfl rfl) (R_len rfl (R_gtr rfl rfl (R_mv (@rfl V (V.bool (decide ((0 : Int) < ((x.sf.length : Nat) : Int))))) ?_)))))))
  refine Ops_seg 5 (fun T H => T 3 = (V.mp 3 1 0 0) ∧ T 20 = (V.bool (decide (((0 : Int) < ((x.sf.length : Nat) : Int)) ∨ ((0 : Int) < ((x.ou.length : Nat) : Int))))) ∧ H 2 = (bk 1 24 1 [[(V.sl (List.map cN (t.nd)))]]) ∧ H 3 = (bk 1 68 5 [(cN x)]) ∧ True) ?_ ?_
  ·
   by_cases g2 : (0 : Int) < ((x.sf.length : Nat) : Int)
   ·
    refine G_n (edT g2 rfl) (G_n (edT g2 rfl) (G_n (edT g2 rfl) (G_n (edT g2 rfl) (R_pickT (edT g2 rfl) rfl ?_))))
    exact ⟨rfl, (dec_orT g2), rfl, rfl, trivial⟩
   ·
    refine G_yes (edF g2 rfl) (R_fld_mp (o' := 3) rfl rfl oB rfl (G_yes (edF g2 rfl) (R_load_mp (v := (intss x.ou)) rfl rfl (lB oB rfl rfl) (G_yes (edF g2 rfl) (R_len rfl (G_yes (edF g2 rfl) (R_gtr rfl rfl ?_)))))))
    refine R_pickF (edF g2 rfl) rfl ?_
    exact ⟨rfl, (dec_orF g2), rfl, rfl, trivial⟩
  intro T H ⟨t3, t20, h2, h3, _⟩
  refine R_mv t20 ?_
  refine Ops_seg 5 (fun T H => T 3 = (V.mp 3 1 0 0) ∧ T 26 = (V.bool (decide ((((0 : Int) < ((x.sf.length : Nat) : Int)) ∨ ((0 : Int) < ((x.ou.length : Nat) : Int))) ∨ ((0 : Int) < ((x.kd.length : Nat) : Int))))) ∧ H 2 = (bk 1 24 1 [[(V.sl (List.map cN (t.nd)))]]) ∧ H 3 = (bk 1 68 5 [(cN x)]) ∧ True) ?_ ?_
  ·
   by_cases g3 : ((0 : Int) < ((x.sf.length : Nat) : Int)) ∨ ((0 : Int) < ((x.ou.length : Nat) : Int))
   ·
    refine G_n (edT g3 rfl) (G_n (edT g3 rfl) (G_n (edT g3 rfl) (G_n (edT g3 rfl) (R_pickT (edT g3 rfl) rfl ?_))))
    exact ⟨t3, (dec_orT g3), h2, h3, trivial⟩
   ·
    refine G_yes (edF g3 rfl) (R_fld_mp (o' := 4) t3 h3 oB rfl (G_yes (edF g3 rfl) (R_load_mp (v := (ints x.kd)) rfl h3 (lB oB rfl rfl) (G_yes (edF g3 rfl) (R_len rfl (G_yes (edF g3 rfl) (R_gtr rfl rfl ?_)))))))
    refine R_pickF (edF g3 rfl) rfl ?_
    exact ⟨t3, (dec_orF g3), h2, h3, trivial⟩
  intro T H ⟨t3, t26, h2, h3, _⟩
  refine R_e ?_
  refine W_seq_if t26 (fun c4 => ?_) fun c4 => ?_
  ·
   refine W_seq_seq (W_r (R_mv (@rfl V (iV (1 : Int))) (R_e (W_seq_ret ?_))))
   refine Ret_1 (@rfl V (iV (1 : Int))) (fz_int ?_)
   · rw [ndE, if_pos d0, lfE, if_pos (by omega)]
  refine W_seq_skip (W_seq_seq (W_r (R_fld_mp (o' := 1) t3 h3 oB rfl (R_load_mp (v := (ints x.ac)) rfl h3 (lB oB rfl rfl) (R_callc (evcons rfl (evcons rfl evnil)) (rcheck_pure x.ac ((64 : Int))) (R_mv (@rfl V (iV (wchk x.ac ((64 : Int))))) (R_e ?_)))))))
  refine W_seq_ret ?_
  refine Ret_1 (@rfl V (iV (wchk x.ac ((64 : Int))))) (fz_int ?_)
  · rw [ndE, if_pos d0, lfE, if_neg (by omega)]
 have d0 : x.lf = false := by simpa using c1
 refine W_seq_skip (W_seq_seq (W_r (R_fld_mp (o' := 1) rfl rfl oB rfl (R_load_mp (v := (ints x.ac)) rfl rfl (lB oB rfl rfl) (R_len rfl (R_gtr rfl rfl (R_e ?_)))))))
 refine W_seq_if rfl (fun c5 => ?_) fun c5 => ?_
 ·
  refine W_seq_seq (W_r (R_mv (@rfl V (iV (1 : Int))) (R_e (W_seq_ret ?_))))
  refine Ret_1 (@rfl V (iV (1 : Int))) (fz_int ?_)
  · rw [ndE, if_neg (by simp [d0]), inE2, if_pos (by omega)]
 refine W_seq_skip (W_seq_seq (W_r (R_fld_mp (o' := 2) rfl rfl oB rfl (R_load_mp (v := (ints x.sf)) rfl rfl (lB oB rfl rfl) (R_callc (evcons rfl evnil) (ending_pure x.sf) (R_mv (@rfl V (iV (if x.sf.length = 0 then 19 else wchk x.sf 64))) (R_e ?_)))))))
 refine W_seq_seq (W_r (R_mv (@rfl V (iV (if x.sf.length = 0 then 19 else wchk x.sf 64))) (R_neq rfl rfl (R_e ?_))))
 refine W_seq_if rfl (fun c6 => ?_) fun c6 => ?_
 ·
  have d4 : x.sf.length = 0 ∨ wchk x.sf 64 ≠ 0 := by by_cases e : x.sf.length = 0; exact .inl e; (rw [if_neg e] at c6; exact .inr c6)
  refine W_seq_seq (W_r (R_mv (@rfl V (iV (if x.sf.length = 0 then 19 else wchk x.sf 64))) (R_mv (@rfl V (iV (if x.sf.length = 0 then 19 else wchk x.sf 64))) (R_e (W_seq_ret ?_)))))
  refine Ret_1 (@rfl V (iV (if x.sf.length = 0 then 19 else wchk x.sf 64))) (fz_int ?_)
  · rcases d4 with e | e
    · rw [if_pos e]; rw [ndE, if_neg (by simp [d0]), inE2, if_neg (by omega), if_pos e]
    · by_cases e2 : x.sf.length = 0
      · rw [if_pos e2]; rw [ndE, if_neg (by simp [d0]), inE2, if_neg (by omega), if_pos e2]
      · rw [if_neg e2]; rw [ndE, if_neg (by simp [d0]), inE2, if_neg (by omega), if_neg e2, if_pos e]
 have d4 : x.sf.length ≠ 0 ∧ wchk x.sf 64 = 0 := by by_cases e : x.sf.length = 0; (rw [if_pos e] at c6; exact (c6 (by decide)).elim); (rw [if_neg e] at c6; exact ⟨e, by omega⟩)
 refine W_seq_skip (W_seq_seq (W_r (R_fld_mp (o' := 3) rfl rfl oB rfl (R_load_mp (v := (intss x.ou)) rfl rfl (lB oB rfl rfl) (R_len rfl (R_fld_mp (o' := 4) rfl rfl oB rfl (R_load_mp (v := (ints x.kd)) rfl rfl (lB oB rfl rfl) ?_)))))))
 refine R_len rfl (R_neq rfl rfl (R_e ?_))
 refine W_seq_if rfl (fun c7 => ?_) fun c7 => ?_
 ·
  refine W_seq_seq (W_r (R_mv (@rfl V (iV (1 : Int))) (R_e (W_seq_ret ?_))))
  refine Ret_1 (@rfl V (iV (1 : Int))) (fz_int ?_)
  · rw [ndE, if_neg (by simp [d0]), inE2, if_neg (by omega), if_neg (by omega), if_neg (by omega), if_pos (by omega)]
 refine W_seq_skip (W_seq_seq (W_r (R_mv (@rfl V (iV (0 : Int))) (R_e (W_seq_blockg fun Q8 n8 x8 y8 z8 => ?_)))))
 refine W_loop (fun mm T H => ∃ (k : Nat), mm = x.kd.length - k ∧ T 2 = (V.mp 2 1 0 0) ∧ T 3 = (V.mp 3 1 0 0) ∧ T 6 = (iV ((k : Nat) : Int)) ∧ H 2 = (bk 1 24 1 [[(V.sl (List.map cN (t.nd)))]]) ∧ H 3 = (bk 1 68 5 [(cN x)]) ∧ (k ≤ x.kd.length) ∧ (x.ou.length = x.kd.length) ∧ (x.ac.length = 0) ∧ (x.sf.length ≠ 0) ∧ (wchk x.sf 64 = 0) ∧ (∀ j, j < k → chE x t.nd.length j = 0) ∧ (fe (chE x t.nd.length) 0 x.ou.length = fe (chE x t.nd.length) k (x.ou.length - k))) ?_ ?_
 ·
  refine ⟨_, 0, rfl, rfl, rfl, (Eq.trans (@rfl V (iV (0 : Int))) rfl), rfl, rfl, ?_, ?_, ?_, ?_, ?_, ?_, ?_⟩
  · omega
  · omega
  · omega
  · omega
  · omega
  · intro j hj; omega
  · rfl
 intro mm T H ⟨k, hmm, t2, t3, t6, h2, h3, hk, hl, ga, gs, gw, hp, hc⟩ Q9 p19 p29 p39
 unfold b39_0
 refine W_seq_seq (W_r (R_mv t6 (R_fld_mp (o' := 4) t3 h3 oB rfl (R_load_mp (v := (ints x.kd)) rfl h3 (lB oB rfl rfl) (R_len rfl (R_lss rfl rfl (R_e ?_)))))))
 refine W_seq_if rfl (fun c10 => ?_) fun c10 => ?_
 ·
  refine W_seq_skip (W_seq_blockg fun Q11 n11 x11 y11 z11 => (W_seq_seq (W_r (R_fld_mp (o' := 3) t3 h3 oB rfl (R_load_mp (v := (intss x.ou)) rfl h3 (lB oB rfl rfl) (R_mv t6 (R_idx (i := k) (@rfl V (intss x.ou)) (@rfl V (iV ((k : Nat) : Int))) (by omega) rfl ?_)))))))
  refine R_load_pp (v := (ints ((nth (x.ou) (k))))) rfl (by first | rfl | simp [ldV]) (R_fld_mp (o' := 2) t3 h3 oB rfl (R_load_mp (v := (ints x.sf)) rfl h3 (lB oB rfl rfl) (R_callc (evcons rfl (evcons rfl evnil)) (outputs_pure ((nth (x.ou) (k))) x.sf) (R_mv (@rfl V (iV (vlE ((nth (x.ou) (k))) x.sf))) (R_e (W_seq_seq (W_r ?_)))))))
  refine R_mv (@rfl V (iV (vlE ((nth (x.ou) (k))) x.sf))) (R_neq rfl rfl (R_e ?_))
  refine W_seq_if rfl (fun c12 => ?_) fun c12 => ?_
  ·
   refine W_seq_seq (W_r (R_mv (@rfl V (iV (vlE ((nth (x.ou) (k))) x.sf))) (R_mv (@rfl V (iV (vlE ((nth (x.ou) (k))) x.sf))) (R_e (W_seq_ret (y11 _ _ (p29 _ _ ?_)))))))
   refine y8 _ _ ?_
   refine Ret_1 (@rfl V (iV (vlE ((nth (x.ou) (k))) x.sf))) (fz_int ?_)
   · rw [ndE, if_neg (by simp [d0]), inE2, if_neg (by omega), if_neg (by omega), if_neg (by omega), if_neg (by omega), hc, fe_hit (by rw [chE, if_pos (by omega)]; omega) (by omega), chE, if_pos (by omega)]
  refine W_seq_skip (W_seq_seq (W_r (R_mv (@rfl V (iV (0 : Int))) (R_e (W_seq_blockg fun Q13 n13 x13 y13 z13 => ?_)))))
  refine W_loop (fun mm T H => ∃ (j : Nat), mm = k - j ∧ T 2 = (V.mp 2 1 0 0) ∧ T 3 = (V.mp 3 1 0 0) ∧ T 6 = (iV ((k : Nat) : Int)) ∧ T 8 = (iV ((j : Nat) : Int)) ∧ H 2 = (bk 1 24 1 [[(V.sl (List.map cN (t.nd)))]]) ∧ H 3 = (bk 1 68 5 [(cN x)]) ∧ (j ≤ k) ∧ (∀ i, i < j → lexI (nth x.ou i) (nth x.ou k) < 0)) ?_ ?_
  ·
   refine ⟨_, 0, rfl, t2, t3, t6, (Eq.trans (@rfl V (iV (0 : Int))) rfl), h2, h3, ?_, ?_⟩
   · omega
   · intro i hi; omega
  intro mm T H ⟨j, hmm, t2, t3, t6, t8, h2, h3, hj, hq⟩ Q14 p114 p214 p314
  unfold b39_1
  refine W_seq_seq (W_r (R_mv t8 (R_mv t6 (R_lss rfl rfl (R_e ?_)))))
  refine W_seq_if rfl (fun c15 => ?_) fun c15 => ?_
  ·
   refine W_seq_skip (W_seq_blockg fun Q16 n16 x16 y16 z16 => (W_r (R_fld_mp (o' := 3) t3 h3 oB rfl (R_load_mp (v := (intss x.ou)) rfl h3 (lB oB rfl rfl) (R_mv t8 (R_idx (i := j) (@rfl V (intss x.ou)) (@rfl V (iV ((j : Nat) : Int))) (by omega) rfl (R_load_pp (v := (ints ((nth (x.ou) (j))))) rfl (by first | rfl | simp [ldV]) ?_)))))))
   refine R_fld_mp (o' := 3) t3 h3 oB rfl (R_load_mp (v := (intss x.ou)) rfl h3 (lB oB rfl rfl) (R_mv t6 (R_idx (i := k) (@rfl V (intss x.ou)) (@rfl V (iV ((k : Nat) : Int))) (by omega) rfl (R_load_pp (v := (ints ((nth (x.ou) (k))))) rfl (by first | rfl | simp [ldV]) (R_callc (evcons rfl (evcons rfl evnil)) (rlex_pure ((nth (x.ou) (j))) ((nth (x.ou) (k)))) (R_geq rfl rfl (R_e ?_)))))))
   refine W_if rfl (fun c17 => ?_) fun c17 => ?_
   ·
    have d5 := ch_err (x := x) (n := t.nd.length) (k := k) (j := j) (by omega) (by omega) (by omega) hp
    refine W_r (R_mv (@rfl V (iV (10 : Int))) (R_e (W_ret (y16 _ _ (p214 _ _ (y13 _ _ (y11 _ _ ?_)))))))
    refine p29 _ _ (y8 _ _ ?_)
    refine Ret_1 (@rfl V (iV (10 : Int))) (fz_int ?_)
    · rw [ndE, if_neg (by simp [d0]), inE2, if_neg (by omega), if_neg (by omega), if_neg (by omega), if_neg (by omega), hc, fe_hit (by rw [d5]; decide) (by omega), d5]
   refine W_skip (n16 _ _ (.done (W_t (R_mv t8 (R_addN rfl (@rfl V (iV ((1 : Nat) : Int))) (by omega) (R_mv (@rfl V (iV ((j + 1 : Nat) : Int))) (R_e ?_)))))))
   refine p114 _ _ _ ?_ ⟨(j + 1), rfl, t2, t3, t6, (Eq.trans (@rfl V (iV ((j + 1 : Nat) : Int))) (by first | rfl | simp)), h2, h3, ?_, ?_⟩
   · omega
   · omega
   · intro i hi
     by_cases e : i = j
     · subst e; omega
     · exact hq i (by omega)
  refine W_seq_exit (p314 _ _ _ (x13 _ _ (.done (W_r (R_fld_mp (o' := 4) t3 h3 oB rfl (R_load_mp (v := (ints x.kd)) rfl h3 (lB oB rfl rfl) (R_mv t6 ?_)))))))
  refine R_idx (i := k) (@rfl V (ints x.kd)) (@rfl V (iV ((k : Nat) : Int))) (by omega) rfl (R_load_pp (v := (iV ((nth (x.kd) (k))))) rfl (by first | rfl | simp [ldV]) (R_lss rfl rfl (R_mv (@rfl V (V.bool (decide (((nth (x.kd) (k))) < (0 : Int))))) ?_)))
  refine Ops_seg 10 (fun T H => T 2 = (V.mp 2 1 0 0) ∧ T 3 = (V.mp 3 1 0 0) ∧ T 6 = (iV ((k : Nat) : Int)) ∧ T 98 = (V.bool (decide ((((nth (x.kd) (k))) < (0 : Int)) ∨ (((t.nd.length : Nat) : Int) ≤ ((nth (x.kd) (k))))))) ∧ H 2 = (bk 1 24 1 [[(V.sl (List.map cN (t.nd)))]]) ∧ H 3 = (bk 1 68 5 [(cN x)]) ∧ True) ?_ ?_
  ·
   by_cases g18 : ((nth (x.kd) (k))) < (0 : Int)
   ·
    refine G_n (edT g18 rfl) (G_n (edT g18 rfl) (G_n (edT g18 rfl) (G_n (edT g18 rfl) (G_n (edT g18 rfl) (G_n (edT g18 rfl) (G_n (edT g18 rfl) (G_n (edT g18 rfl) ?_)))))))
    refine G_n (edT g18 rfl) (R_pickT (edT g18 rfl) rfl ?_)
    exact ⟨t2, t3, t6, (dec_orT g18), h2, h3, trivial⟩
   ·
    refine G_yes (edF g18 rfl) (R_fld_mp (o' := 4) t3 h3 oB rfl (G_yes (edF g18 rfl) (R_load_mp (v := (ints x.kd)) rfl h3 (lB oB rfl rfl) (G_yes (edF g18 rfl) (R_mv t6 (G_yes (edF g18 rfl) (R_idx (i := k) (@rfl V (ints x.kd)) (@rfl V (iV ((k : Nat) : Int))) (by omega) rfl ?_)))))))
    refine G_yes (edF g18 rfl) (R_load_pp (v := (iV ((nth (x.kd) (k))))) rfl (by first | rfl | simp [ldV]) (G_yes (edF g18 rfl) (R_fld_mp (o' := 0) t2 h2 oB rfl (G_yes (edF g18 rfl) (R_load_mp (v := (V.sl (List.map cN (t.nd)))) rfl h2 (lB oB rfl rfl) (G_yes (edF g18 rfl) (R_len rfl ?_)))))))
    refine G_yes (edF g18 rfl) (R_geq rfl rfl (R_pickF (edF g18 rfl) rfl ?_))
    exact ⟨t2, t3, t6, (dec_orF g18), h2, h3, trivial⟩
  intro T H ⟨t2, t3, t6, t98, h2, h3, _⟩
  refine R_e ?_
  refine W_if t98 (fun c19 => ?_) fun c19 => ?_
  ·
   skip
   refine W_r (R_mv (@rfl V (iV (2 : Int))) (R_e (W_ret (y11 _ _ (p29 _ _ (y8 _ _ ?_))))))
   refine Ret_1 (@rfl V (iV (2 : Int))) (fz_int ?_)
   · have e : chE x t.nd.length k = 2 := by rw [chE, if_neg (by omega), if_neg (by rintro ⟨q1, q2⟩; have := hq (k - 1) (by omega); omega), if_pos (by omega)]
     rw [ndE, if_neg (by simp [d0]), inE2, if_neg (by omega), if_neg (by omega), if_neg (by omega), if_neg (by omega), hc, fe_hit (by rw [e]; decide) (by omega), e]
  have dz : chE x t.nd.length k = 0 := by rw [chE, if_neg (by omega), if_neg (by rintro ⟨q1, q2⟩; have := hq (k - 1) (by omega); omega), if_neg (by omega)]
  refine W_skip (n11 _ _ (.done (W_t (R_mv t6 (R_addN rfl (@rfl V (iV ((1 : Nat) : Int))) (by omega) (R_mv (@rfl V (iV ((k + 1 : Nat) : Int))) (R_e ?_)))))))
  refine p19 _ _ _ ?_ ⟨(k + 1), rfl, t2, t3, (Eq.trans (@rfl V (iV ((k + 1 : Nat) : Int))) (by first | rfl | simp)), h2, h3, ?_, ?_, ?_, ?_, ?_, ?_, ?_⟩
  · omega
  · omega
  · omega
  · omega
  · omega
  · omega
  · intro i hi
    by_cases e : i = k
    · subst e; exact dz
    · exact hp i (by omega)
  · rw [hc, fe_skip dz (by omega)]
 refine W_seq_exit (p39 _ _ _ (x8 _ _ (.done (W_r (R_mv (@rfl V (iV (0 : Int))) (R_e (W_ret ?_)))))))
 refine Ret_1 (@rfl V (iV (0 : Int))) (fz_int ?_)
 · rw [ndE, if_neg (by simp [d0]), inE2, if_neg (by omega), if_neg (by omega), if_neg (by omega), if_neg (by omega), hc, fe_end (by omega)]
def r40_7 : List SO := [
 sO 21 (.fld 0 (.t 1)),
 sO 22 (.load false 1 (.t 21)),
 sO 23 (.mv (.t 4)),
 sO 24 (.mv (.t 5)),
 sO 25 (.idx 1 (.t 23) (.t 24)),
 sO 26 (.load false 1 (.t 25)),
 sO 27 (.idx 5 (.t 22) (.t 26)),
 sO 28 (.load true 5 (.t 27)),
 sO 6 (.alloc 68 [.bool false, .nilsl, .nilsl, .nilsl, .nilsl]),
 sN (.store 5 (.t 6) (.t 28))]
def r40_11 : List SO := [
 sO 36 (.mv (.t 3)),
 sO 37 (.fld 4 (.t 6)),
 sO 38 (.load false 1 (.t 37)),
 sO 39 (.mv (.t 7)),
 sO 40 (.idx 1 (.t 38) (.t 39)),
 sO 41 (.load false 1 (.t 40)),
 sO 42 (.idx 1 (.t 36) (.t 41)),
 sO 43 (.load false 1 (.t 42))]
def r40_13 : List SO := [
 sO 44 (.mv (.t 3)),
 sO 45 (.fld 4 (.t 6)),
 sO 46 (.load false 1 (.t 45)),
 sO 47 (.mv (.t 7)),
 sO 48 (.idx 1 (.t 46) (.t 47)),
 sO 49 (.load false 1 (.t 48)),
 sO 50 (.idx 1 (.t 44) (.t 49)),
 sN (.store 1 (.t 50) (.c (.bool true)))]
def r40_14 : List SO := [
 sO 51 (.mv (.t 4)),
 sO 52 (.fld 4 (.t 6)),
 sO 53 (.load false 1 (.t 52)),
 sO 54 (.mv (.t 7)),
 sO 55 (.idx 1 (.t 53) (.t 54)),
 sO 56 (.load false 1 (.t 55)),
 sO 57 (.bslice 3 1 false [.int .i64 0] 1 [(0, .t 56)]),
 sO 58 (.append 3 1 8 (.t 51) (.t 57)),
 sO 4 (.mv (.t 58))]
def b40_1 : SC := .seq (.seq (.reg [sO 29 (.mv (.t 7)), sO 30 (.fld 4 (.t 6)), sO 31 (.load false 1 (.t 30)), sO 32 (.len (.t 31)), sO 33 (.bin .lss (.t 29) (.t 32))]) (.cond (.t 33) (.skip) (.exit 2))) (.seq (.block 3 (.seq (.seq (.reg r40_11) (.cond (.t 43) (.seq (.reg [sO 2 (.mv (.c (.bool false)))]) (.ret)) (.skip))) (.seq (.reg r40_13) (.reg r40_14)))) (.reg [sO 34 (.mv (.t 7)), sO 35 (.bin .add (.t 34) (.c (.int .i64 1))), sO 7 (.mv (.t 35))]))
def b40_0 : SC := .seq (.seq (.reg [sO 15 (.mv (.t 5)), sO 16 (.mv (.t 4)), sO 17 (.len (.t 16)), sO 18 (.bin .lss (.t 15) (.t 17))]) (.cond (.t 18) (.skip) (.exit 0))) (.seq (.block 1 (.seq (.dreg [6] r40_7) (.seq (.reg [sO 7 (.mv (.c (.int .i64 0)))]) (.block 2 (.loop b40_1))))) (.reg [sO 19 (.mv (.t 5)), sO 20 (.bin .add (.t 19) (.c (.int .i64 1))), sO 5 (.mv (.t 20))]))
def r40_15 : List SO := [
 sO 59 (.mv (.t 4)),
 sO 60 (.len (.t 59)),
 sO 61 (.fld 0 (.t 1)),
 sO 62 (.load false 1 (.t 61)),
 sO 63 (.len (.t 62)),
 sO 64 (.bin .eql (.t 60) (.t 63)),
 sO 2 (.mv (.t 64))]
def s40 : SF := ⟨65, [.tmp 2], .seq (.reg [sO 1 (.box 24 1 (.t 0)), sO 2 (.mv (.c (.bool false)))]) (.seq (.reg [sO 8 (.fld 0 (.t 1)), sO 9 (.load false 1 (.t 8)), sO 10 (.len (.t 9)), sO 11 (.mks 4 1 1 [.bool false] (.t 10) (.t 10)), sO 3 (.mv (.t 11))]) (.seq (.reg [sO 12 (.mv (.t 3)), sO 13 (.idx 1 (.t 12) (.c (.int .i64 0))), sN (.store 1 (.t 13) (.c (.bool true)))]) (.seq (.reg [sO 14 (.bslice 3 1 true [.int .i64 0] 1 [(0, .c (.int .i64 0))]), sO 4 (.mv (.t 14))]) (.seq (.seq (.reg [sO 5 (.mv (.c (.int .i64 0)))]) (.block 0 (.loop b40_0))) (.seq (.reg r40_15) (.ret))))))⟩
theorem s40_ok : slimF Tryz.prog ⟨[57, 58, 59, 63, 67, 68, 77, 102, 103, 104, 110, 116, 120], [14]⟩ Tryz.f40 = some s40 := by kernel_rfl
end Go.Proofs.YtmnjchcoigbngaaGreat
namespace Go.Proofs.YtmnjchcoigbngaaGreat
open Go Go.Proofs
attribute [local irreducible] mksV
theorem whole_pure (t : Dt) (hk : KI t) (hb : Bd t) : PureC Tryz.prog 40 [(V.agg [(V.sl (List.map cN (t.nd)))])] (V.bool (whB t)) := by
 refine pW Tryz.func40 s40_ok fun hB => ?_
 unfold s40
 dsimp only
 have hp := hk.pos
 have hbn := hb.n
 refine W_r (R_box (i := 1) (n := 0) (m := 1) (cs := [(V.sl (List.map cN (t.nd)))]) rfl (congrArg Blk.ver rfl) rfl rfl rfl (R_mv (@rfl V (V.bool false)) (R_e (W_r (R_fld_mp (o' := 0) rfl rfl oB rfl (R_load_mp (v := (V.sl (List.map cN (t.nd)))) rfl rfl (lB oB rfl rfl) (R_len rfl ?_)))))))
 refine R_mksm (i := 11) (n := 0) (m := t.nd.length) (q := t.nd.length) (f := cB) (x := false) rfl (congrArg Blk.ver rfl) (@rfl V (iV ((t.nd.length : Nat) : Int))) (@rfl V (iV ((t.nd.length : Nat) : Int))) rfl (by first | omega | (simp only [List.length_replicate]; omega) | (simp only [List.length_set, List.length_replicate]; omega)) (by first | omega | (simp only [List.length_replicate]; omega) | (simp only [List.length_set, List.length_replicate]; omega)) (by first | omega | (simp only [List.length_replicate]; omega) | (simp only [List.length_set, List.length_replicate]; omega)) (R_mv (@rfl V (V.ms 11 1 0 (t.nd.length))) (R_e (W_r (R_mv (@rfl V (V.ms 11 1 0 (t.nd.length))) (R_idxI_ms0 (i := (0 : Int)) (@rfl V (V.ms 11 1 0 (t.nd.length))) (@rfl V (iV (0 : Int))) (@rfl Blk (bk 1 4 1 (List.map cB (List.replicate t.nd.length false)))) oB rfl (by first | omega | (simp only [List.length_replicate]; omega) | (simp only [List.length_set, List.length_replicate]; omega)) (by first | omega | (simp only [List.length_replicate]; omega) | (simp only [List.length_set, List.length_replicate]; omega)) (R_store (vs := [(V.bool true)]) (B' := (bk 1 4 1 (List.map cB ((List.replicate t.nd.length false).set (((0 : Int)).toNat) true)))) rfl rfl rfl (@rfl Blk (bk 1 4 1 (List.map cB (List.replicate t.nd.length false)))) (stB_map (x := true) (i := (((0 : Int)).toNat)) (by first | omega | (simp only [List.length_replicate]; omega) | (simp only [List.length_set, List.length_replicate]; omega)) rfl rfl rfl rfl) (R_e ?_)))))))
 refine W_r (R_bslice_own (i := 14) (n := 0) (qs := [(0, (iV (0 : Int)))]) (rows := [[(iV (0 : Int))]]) rfl (congrArg Blk.ver rfl) (mcons (congrArg (fun v => (0, v)) rfl) rfl) rfl (R_mv (@rfl V (V.ms 14 1 0 (1))) (R_e (W_seq_seq (W_r (R_mv (@rfl V (iV (0 : Int))) (R_e ?_)))))))
 refine W_seq_blockg fun Q1 n1 x1 y1 z1 => ?_
 refine W_loop (fun mm T H => ∃ (k : Nat) (w : Nat) (P : RS) (v6 : Nat), mm = t.nd.length - k ∧ T 1 = (V.mp 1 1 0 0) ∧ T 3 = (V.ms 11 1 0 (t.nd.length)) ∧ T 4 = (V.ms 14 w 0 (P.1.length)) ∧ T 5 = (iV ((k : Nat) : Int)) ∧ H 1 = (bk 1 24 1 [[(V.sl (List.map cN (t.nd)))]]) ∧ ((H 6).ver = v6 ∧ (H 6).live = false) ∧ H 11 = (bk 1 4 1 (List.map cB (P.2))) ∧ H 14 = (bk w 3 1 (List.map cI (P.1))) ∧ (k ≤ P.1.length) ∧ (WI t P) ∧ (whN t t.nd.length 0 (wh0 t) = whN t (t.nd.length - k) k P)) ?_ ?_
 ·
  refine ⟨_, 0, 1, (wh0 t), 0, rfl, rfl, rfl, (Eq.trans (@rfl V (V.ms 14 1 0 (1))) (by first | rfl | (rw [show (wS Q (nth (nth t.nd (nth P.1 k).toNat).kd j)).1.length = Q.1.length + 1 by simp [wS]]; done) | simp)), (Eq.trans (@rfl V (iV (0 : Int))) rfl), rfl, ⟨(congrArg Blk.ver rfl), congrArg Blk.live (@rfl Blk (⟨0, false, false, 0, 0, []⟩ : Blk))⟩, (Eq.trans (@rfl Blk (bk 1 4 1 (List.map cB ((List.replicate t.nd.length false).set (((0 : Int)).toNat) true)))) (by first | rfl)), (Eq.trans (@rfl Blk (bk 1 3 1 [[(iV (0 : Int))]])) (by first | rfl)), ?_, ?_, ?_⟩
  · exact Nat.zero_le _
  · exact wi0 hk
  · rfl
 intro mm T H ⟨k, w, P, v6, hmm, t1, t3, t4, t5, h1, h6, h11, h14, hk2, hi, hc⟩ Q2 p12 p22 p32
 unfold b40_0
 have hi1 := hi.len
 refine W_seq_seq (W_r (R_mv t5 (R_mv t4 (R_len_ms rfl h14 (by first | rfl | simp) (R_lss rfl rfl (R_e ?_))))))
 refine W_seq_if rfl (fun c3 => ?_) fun c3 => ?_
 ·
  have r1 := hi.rg _ (nth_mem (show k < P.1.length by omega))
  have r3 := hb.kd _ (show (nth P.1 k).toNat < t.nd.length by omega)
  refine W_seq_skip (W_seq_blockg fun Q4 n4 x4 y4 z4 => (W_d (by exact (lateC (h6).2 lateN)) (R_fld_mp (o' := 0) t1 h1 oB rfl (R_load_mp (v := (V.sl (List.map cN (t.nd)))) rfl h1 (lB oB rfl rfl) (R_mv t4 (R_mv t5 (R_idx_ms0 (i := k) (@rfl V (V.ms 14 w 0 (P.1.length))) (@rfl V (iV ((k : Nat) : Int))) h14 oB rfl (by first | omega | (simp only [List.length_replicate]; omega) | (simp only [List.length_set, List.length_replicate]; omega)) ?_)))))))
  refine R_load_mp (v := (iV ((nth (P.1) (k))))) rfl h14 (ldB_map (by first | omega | (simp only [List.length_replicate]; omega) | (simp only [List.length_set, List.length_replicate]; omega)) (by first | rfl | simp [ldV, V.one])) (R_idxI (i := ((nth (P.1) (k)))) (@rfl V (V.sl (List.map cN (t.nd)))) (@rfl V (iV ((nth (P.1) (k))))) (by first | omega | (simp only [List.length_replicate]; omega) | (simp only [List.length_set, List.length_replicate]; omega)) (by first | omega | (simp only [List.length_replicate]; omega) | (simp only [List.length_set, List.length_replicate]; omega)) rfl (R_load_pp (v := (V.agg (cN (((nth (t.nd) ((nth (P.1) (k))).toNat)))))) rfl (by first | rfl | simp [ldV]) (R_alloc (i := 6) (n := v6) (m := 5) rfl (h6).1 rfl (R_store (vs := [(V.bool (((nth (t.nd) ((nth (P.1) (k))).toNat)).lf)), (ints (((nth (t.nd) ((nth (P.1) (k))).toNat)).ac)), (ints (((nth (t.nd) ((nth (P.1) (k))).toNat)).sf)), (intss (((nth (t.nd) ((nth (P.1) (k))).toNat)).ou)), (ints (((nth (t.nd) ((nth (P.1) (k))).toNat)).kd))]) (B' := (bk (v6 + 1) 68 5 [(cN (((nth (t.nd) ((nth (P.1) (k))).toNat))))])) rfl rfl rfl rfl (sB oB rfl rfl rfl rfl rfl) (R_e (W_r (R_mv (@rfl V (iV (0 : Int))) ?_)))))))
  refine R_e (W_block fun Q5 n5 x5 y5 z5 => ?_)
  refine W_loop (fun mm T H => ∃ (j : Nat) (w2 : Nat) (Q : RS), mm = (nth t.nd (nth P.1 k).toNat).kd.length - j ∧ T 1 = (V.mp 1 1 0 0) ∧ T 3 = (V.ms 11 1 0 (t.nd.length)) ∧ T 4 = (V.ms 14 w2 0 (Q.1.length)) ∧ T 5 = (iV ((k : Nat) : Int)) ∧ T 6 = (V.mp 6 (v6 + 1) 0 0) ∧ T 7 = (iV ((j : Nat) : Int)) ∧ H 1 = (bk 1 24 1 [[(V.sl (List.map cN (t.nd)))]]) ∧ H 6 = (bk (v6 + 1) 68 5 [(cN (((nth (t.nd) ((nth (P.1) (k))).toNat))))]) ∧ H 11 = (bk 1 4 1 (List.map cB (Q.2))) ∧ H 14 = (bk w2 3 1 (List.map cI (Q.1))) ∧ (j ≤ (nth t.nd (nth P.1 k).toNat).kd.length) ∧ (k < Q.1.length) ∧ (WI t Q) ∧ (whN t t.nd.length 0 (wh0 t) = (whI Q ((nth t.nd (nth P.1 k).toNat).kd.drop j)).bind (whN t (t.nd.length - (k + 1)) (k + 1)))) ?_ ?_
  ·
   refine ⟨_, 0, w, P, rfl, t1, t3, t4, t5, rfl, (Eq.trans (@rfl V (iV (0 : Int))) rfl), h1, rfl, h11, h14, ?_, ?_, ?_, ?_⟩
   · omega
   · omega
   · exact hi
   · rw [hc, wh_go (by omega) (by omega)]; rfl
  intro mm T H ⟨j, w2, Q, hmm, t1, t3, t4, t5, t6, t7, h1, h6, h11, h14, hj, hk3, hiq, hc2⟩ Q6 p16 p26 p36
  unfold b40_1
  have hi2 := hiq.len
  refine W_seq_seq (W_r (R_mv t7 (R_fld_mp (o' := 4) t6 h6 oB rfl (R_load_mp (v := (ints (((nth (t.nd) ((nth (P.1) (k))).toNat)).kd))) rfl h6 (lB oB rfl rfl) (R_len rfl (R_lss rfl rfl (R_e ?_)))))))
  refine W_seq_if rfl (fun c7 => ?_) fun c7 => ?_
  ·
   have r2 := hk.rng _ (show (nth P.1 k).toNat < t.nd.length by omega) _ (nth_mem (show j < (nth t.nd (nth P.1 k).toNat).kd.length by omega))
   refine W_seq_skip (W_seq_blockg fun Q8 n8 x8 y8 z8 => (W_seq_seq (W_r (R_mv t3 (R_fld_mp (o' := 4) t6 h6 oB rfl (R_load_mp (v := (ints (((nth (t.nd) ((nth (P.1) (k))).toNat)).kd))) rfl h6 (lB oB rfl rfl) (R_mv t7 ?_)))))))
   refine R_idx (i := j) (@rfl V (ints (((nth (t.nd) ((nth (P.1) (k))).toNat)).kd))) (@rfl V (iV ((j : Nat) : Int))) (by first | omega | (simp only [List.length_replicate]; omega) | (simp only [List.length_set, List.length_replicate]; omega)) rfl (R_load_pp (v := (iV ((nth (((nth (t.nd) ((nth (P.1) (k))).toNat)).kd) (j))))) rfl (by first | rfl | simp [ldV]) (R_idxI_ms0 (i := ((nth (((nth (t.nd) ((nth (P.1) (k))).toNat)).kd) (j)))) (@rfl V (V.ms 11 1 0 (t.nd.length))) (@rfl V (iV ((nth (((nth (t.nd) ((nth (P.1) (k))).toNat)).kd) (j))))) h11 oB rfl (by first | omega | (simp only [List.length_replicate]; omega) | (simp only [List.length_set, List.length_replicate]; omega)) (by first | omega | (simp only [List.length_replicate]; omega) | (simp only [List.length_set, List.length_replicate]; omega)) (R_load_mp (v := (V.bool ((nth (Q.2) ((((nth (((nth (t.nd) ((nth (P.1) (k))).toNat)).kd) (j)))).toNat))))) rfl h11 (ldB_map (by first | omega | (simp only [List.length_replicate]; omega) | (simp only [List.length_set, List.length_replicate]; omega)) (by first | rfl | simp [ldV, V.one])) (R_e ?_))))
   refine W_seq_ifb rfl (fun c9 => ?_) (fun c9 => ?_)
   ·
    have d2 : nth Q.2 (nth (nth t.nd (nth P.1 k).toNat).kd j).toNat = true := c9
    refine W_seq_seq (W_r (R_mv (@rfl V (V.bool false)) (R_e (W_seq_ret (y8 _ _ (p26 _ _ (y5 _ _ ?_)))))))
    refine y4 _ _ (p22 _ _ (y1 _ _ ?_))
    refine Ret_1 (@rfl V (V.bool false)) (fz_bool ?_)
    · rw [whB_none (by rw [hc2, whI_yes (by omega) d2]; rfl)]
   have d2 : nth Q.2 (nth (nth t.nd (nth P.1 k).toNat).kd j).toNat = false := by simpa using c9
   refine W_seq_skip (W_r (R_mv t3 (R_fld_mp (o' := 4) t6 h6 oB rfl (R_load_mp (v := (ints (((nth (t.nd) ((nth (P.1) (k))).toNat)).kd))) rfl h6 (lB oB rfl rfl) (R_mv t7 (R_idx (i := j) (@rfl V (ints (((nth (t.nd) ((nth (P.1) (k))).toNat)).kd))) (@rfl V (iV ((j : Nat) : Int))) (by first | omega | (simp only [List.length_replicate]; omega) | (simp only [List.length_set, List.length_replicate]; omega)) rfl (R_load_pp (v := (iV ((nth (((nth (t.nd) ((nth (P.1) (k))).toNat)).kd) (j))))) rfl (by first | rfl | simp [ldV]) ?_)))))))
   refine R_idxI_ms0 (i := ((nth (((nth (t.nd) ((nth (P.1) (k))).toNat)).kd) (j)))) (@rfl V (V.ms 11 1 0 (t.nd.length))) (@rfl V (iV ((nth (((nth (t.nd) ((nth (P.1) (k))).toNat)).kd) (j))))) h11 oB rfl (by first | omega | (simp only [List.length_replicate]; omega) | (simp only [List.length_set, List.length_replicate]; omega)) (by first | omega | (simp only [List.length_replicate]; omega) | (simp only [List.length_set, List.length_replicate]; omega)) (R_store (vs := [(V.bool true)]) (B' := (bk 1 4 1 (List.map cB ((Q.2).set ((((nth (((nth (t.nd) ((nth (P.1) (k))).toNat)).kd) (j)))).toNat) true)))) rfl rfl rfl h11 (stB_map (x := true) (i := ((((nth (((nth (t.nd) ((nth (P.1) (k))).toNat)).kd) (j)))).toNat)) (by first | omega | (simp only [List.length_replicate]; omega) | (simp only [List.length_set, List.length_replicate]; omega)) rfl rfl rfl rfl) (R_e (W_t (R_mv t4 (R_fld_mp (o' := 4) t6 h6 oB rfl (R_load_mp (v := (ints (((nth (t.nd) ((nth (P.1) (k))).toNat)).kd))) rfl h6 (lB oB rfl rfl) (R_mv t7 ?_)))))))
   refine R_idx (i := j) (@rfl V (ints (((nth (t.nd) ((nth (P.1) (k))).toNat)).kd))) (@rfl V (iV ((j : Nat) : Int))) (by first | omega | (simp only [List.length_replicate]; omega) | (simp only [List.length_set, List.length_replicate]; omega)) rfl (R_load_pp (v := (iV ((nth (((nth (t.nd) ((nth (P.1) (k))).toNat)).kd) (j))))) rfl (by first | rfl | simp [ldV]) (R_bslice (qs := [(0, (iV ((nth (((nth (t.nd) ((nth (P.1) (k))).toNat)).kd) (j)))))]) (rows := [[(iV ((nth (((nth (t.nd) ((nth (P.1) (k))).toNat)).kd) (j))))]]) (mcons (congrArg (fun v => (0, v)) rfl) rfl) rfl (R_append1 (l := Q.1) (f := cI) (x := (((nth (((nth (t.nd) ((nth (P.1) (k))).toNat)).kd) (j))))) (@rfl V (V.ms 14 w2 0 (Q.1.length))) h14 (by first | rfl | simp | omega) (@rfl V (V.sl [[(iV ((nth (((nth (t.nd) ((nth (P.1) (k))).toNat)).kd) (j))))]])) rfl rfl (by first | omega | (simp only [List.length_replicate]; omega) | (simp only [List.length_set, List.length_replicate]; omega)) (by first | omega | (simp only [List.length_replicate]; omega) | (simp only [List.length_set, List.length_replicate]; omega)) (R_mv (@rfl V (V.ms 14 (w2 + 1) 0 (Q.1.length + 1))) (R_e (n8 _ _ (.done ?_)))))))
   refine W_t (R_mv t7 (R_addN rfl (@rfl V (iV ((1 : Nat) : Int))) (by first | omega | (simp only [List.length_replicate]; omega) | (simp only [List.length_set, List.length_replicate]; omega)) (R_mv (@rfl V (iV ((j + 1 : Nat) : Int))) (R_e ?_))))
   refine p16 _ _ _ ?_ ⟨(j + 1), (w2 + 1), (wS Q (nth (nth t.nd (nth P.1 k).toNat).kd j)), rfl, t1, t3, (Eq.trans (@rfl V (V.ms 14 (w2 + 1) 0 (Q.1.length + 1))) (by first | rfl | (rw [show (wS Q (nth (nth t.nd (nth P.1 k).toNat).kd j)).1.length = Q.1.length + 1 by simp [wS]]; done) | simp)), t5, t6, (Eq.trans (@rfl V (iV ((j + 1 : Nat) : Int))) (by first | rfl | (rw [show (wS Q (nth (nth t.nd (nth P.1 k).toNat).kd j)).1.length = Q.1.length + 1 by simp [wS]]; done) | simp)), h1, h6, (Eq.trans (@rfl Blk (bk 1 4 1 (List.map cB ((Q.2).set ((((nth (((nth (t.nd) ((nth (P.1) (k))).toNat)).kd) (j)))).toNat) true)))) (by first | rfl)), (Eq.trans (@rfl Blk (bk (w2 + 1) 3 1 (List.map cI (Q.1 ++ [((nth (((nth (t.nd) ((nth (P.1) (k))).toNat)).kd) (j)))])))) (by first | rfl)), ?_, ?_, ?_, ?_⟩
   · omega
   · omega
   · show k < (Q.1 ++ _).length; rw [List.length_append]; omega
   · exact hiq.step r2.1 r2.2 d2
   · rw [hc2, whI_no (by omega) d2]
  refine W_seq_exit (p36 _ _ _ (x5 _ _ (n4 _ _ (fork_ (R := fun T H => T 1 = (V.mp 1 1 0 0) ∧ T 3 = (V.ms 11 1 0 (t.nd.length)) ∧ T 4 = (V.ms 14 w2 0 (Q.1.length)) ∧ T 5 = (iV ((k : Nat) : Int)) ∧ T 6 = (V.mp 6 (v6 + 1) 0 0) ∧ T 7 = (iV ((j : Nat) : Int)) ∧ T 33 = (V.bool (decide (((j : Nat) : Int) < (((((nth (t.nd) ((nth (P.1) (k))).toNat)).kd).length : Nat) : Int)))) ∧ H 1 = (bk 1 24 1 [[(V.sl (List.map cN (t.nd)))]]) ∧ H 6 = (bk (v6 + 1) 68 5 [(cN (((nth (t.nd) ((nth (P.1) (k))).toNat))))]) ∧ H 11 = (bk 1 4 1 (List.map cB (Q.2))) ∧ H 14 = (bk w2 3 1 (List.map cI (Q.1))) ∧ True) ⟨t1, t3, t4, t5, t6, t7, (@rfl V (V.bool (decide (((j : Nat) : Int) < (((((nth (t.nd) ((nth (P.1) (k))).toNat)).kd).length : Nat) : Int))))), h1, h6, h11, h14, trivial⟩ ?_))))
  intro T H ⟨t1, t3, t4, t5, t6, t7, t33, h1, h6, h11, h14, _⟩
  refine .freeze 6 (.done ?_)
  refine fork_ (R := fun T H => T 1 = (V.mp 1 1 0 0) ∧ T 3 = (V.ms 11 1 0 (t.nd.length)) ∧ T 4 = (V.ms 14 w2 0 (Q.1.length)) ∧ T 5 = (iV ((k : Nat) : Int)) ∧ T 6 = (V.mp 6 (v6 + 1) 0 0) ∧ T 7 = (iV ((j : Nat) : Int)) ∧ T 33 = (V.bool (decide (((j : Nat) : Int) < (((((nth (t.nd) ((nth (P.1) (k))).toNat)).kd).length : Nat) : Int)))) ∧ H 1 = (bk 1 24 1 [[(V.sl (List.map cN (t.nd)))]]) ∧ ((H 6).ver = v6 + 1 ∧ (H 6).live = false) ∧ H 11 = (bk 1 4 1 (List.map cB (Q.2))) ∧ H 14 = (bk w2 3 1 (List.map cI (Q.1))) ∧ True) ⟨(fzT_q t1 rfl), (fzT_q t3 (fzq_other (by decide))), (fzT_q t4 (fzq_other (by decide))), (fzT_q t5 rfl), (fzT_q t6 rfl), (fzT_q t7 rfl), (fzT_q t33 rfl), (kill_ne h1 (by decide)), (kill_self (congrArg Blk.ver h6)), (kill_ne h11 (by decide)), (kill_ne h14 (by decide)), trivial⟩ ?_
  intro T H ⟨t1, t3, t4, t5, t6, t7, t33, h1, h6, h11, h14, _⟩
  refine W_t (R_mv t5 (R_addN rfl (@rfl V (iV ((1 : Nat) : Int))) (by first | omega | (simp only [List.length_replicate]; omega) | (simp only [List.length_set, List.length_replicate]; omega)) (R_mv (@rfl V (iV ((k + 1 : Nat) : Int))) (R_e ?_))))
  refine p12 _ _ _ ?_ ⟨(k + 1), w2, Q, (v6 + 1), rfl, t1, t3, t4, (Eq.trans (@rfl V (iV ((k + 1 : Nat) : Int))) (by first | rfl | (rw [show (wS Q (nth (nth t.nd (nth P.1 k).toNat).kd j)).1.length = Q.1.length + 1 by simp [wS]]; done) | simp)), h1, h6, h11, h14, ?_, ?_, ?_⟩
  · omega
  · omega
  · exact hiq
  · rw [hc2, whI_end (by omega)]; rfl
 refine W_seq_exit (p32 _ _ _ (x1 _ _ (.done (W_r (R_mv t4 (R_len_ms rfl h14 (by first | rfl | simp) (R_fld_mp (o' := 0) t1 h1 oB rfl ?_)))))))
 refine R_load_mp (v := (V.sl (List.map cN (t.nd)))) rfl h1 (lB oB rfl rfl) (R_len rfl (R_eql rfl rfl (R_mv (@rfl V (V.bool (decide (((P.1.length : Nat) : Int) = ((t.nd.length : Nat) : Int))))) (R_e (W_ret ?_)))))
 refine Ret_1 (@rfl V (V.bool (decide (((P.1.length : Nat) : Int) = ((t.nd.length : Nat) : Int))))) (fz_bool ?_)
 · rw [whB_some (by rw [hc]; exact wh_end (by omega))]; exact decide_eq_decide.2 (by omega)
end Go.Proofs.YtmnjchcoigbngaaGreat
namespace Go.Proofs.YtmnjchcoigbngaaGreat
open Go Go.Proofs
def r41_6 : List SO := [
 sO 18 (.mv (.t 3)),
 sO 19 (.fld 0 (.t 1)),
 sO 20 (.load false 1 (.t 19)),
 sO 21 (.mv (.t 4)),
 sO 22 (.idx 5 (.t 20) (.t 21)),
 sO 23 (.fld 1 (.t 22)),
 sO 24 (.load false 1 (.t 23)),
 sO 25 (.bslice 38 1 false [.nilsl] 1 [(0, .t 24)]),
 sO 26 (.call false 31 [.t 25]),
 sO 27 (.bslice 38 1 false [.nilsl] 1 [(0, .t 26)]),
 sO 28 (.append 38 1 24 (.t 18) (.t 27)),
 sO 3 (.mv (.t 28))]
def b41_0 : SC := .seq (.seq (.reg [sO 5 (.mv (.t 4)), sO 6 (.fld 0 (.t 1)), sO 7 (.load false 1 (.t 6)), sO 8 (.len (.t 7)), sO 9 (.bin .lss (.t 5) (.t 8))]) (.cond (.t 9) (.skip) (.exit 0))) (.seq (.block 1 (.seq (.reg [sO 12 (.fld 0 (.t 1)), sO 13 (.load false 1 (.t 12)), sO 14 (.mv (.t 4)), sO 15 (.idx 5 (.t 13) (.t 14)), sO 16 (.fld 0 (.t 15)), sO 17 (.load false 1 (.t 16))]) (.cond (.t 17) (.reg r41_6) (.skip)))) (.reg [sO 10 (.mv (.t 4)), sO 11 (.bin .add (.t 10) (.c (.int .i64 1))), sO 4 (.mv (.t 11))]))
def s41 : SF := ⟨30, [.tmp 2], .seq (.reg [sO 1 (.box 24 1 (.t 0)), sO 2 (.mv (.c (.nilsl)))]) (.seq (.reg [sO 3 (.lazy 38 1)]) (.seq (.seq (.reg [sO 4 (.mv (.c (.int .i64 0)))]) (.block 0 (.loop b41_0))) (.seq (.reg [sO 29 (.mv (.t 3)), sO 2 (.mv (.t 29))]) (.ret))))⟩
theorem s41_ok : slimF Tryz.prog ⟨[57, 58, 59, 63, 67, 68, 77, 102, 103, 104, 110, 116, 120], [3]⟩ Tryz.f41 = some s41 := by kernel_rfl
def r31_5 : List SO := [
 sO 11 (.mv (.t 3)),
 sO 12 (.mv (.t 0)),
 sO 13 (.mv (.t 4)),
 sO 14 (.idx 1 (.t 12) (.t 13)),
 sO 15 (.load false 1 (.t 14)),
 sO 16 (.append 3 1 8 (.t 11) (.t 15)),
 sO 3 (.mv (.t 16))]
def b31_0 : SC := .seq (.seq (.reg [sO 5 (.mv (.t 4)), sO 6 (.mv (.t 0)), sO 7 (.len (.t 6)), sO 8 (.bin .lss (.t 5) (.t 7))]) (.cond (.t 8) (.skip) (.exit 0))) (.seq (.block 1 (.reg r31_5)) (.reg [sO 9 (.mv (.t 4)), sO 10 (.bin .add (.t 9) (.c (.int .i64 1))), sO 4 (.mv (.t 10))]))
def s31 : SF := ⟨18, [.tmp 2], .seq (.reg [sO 2 (.mv (.c (.nilsl)))]) (.seq (.reg [sO 3 (.lazy 3 1)]) (.seq (.seq (.reg [sO 4 (.mv (.c (.int .i64 0)))]) (.block 0 (.loop b31_0))) (.seq (.reg [sO 17 (.mv (.t 3)), sO 2 (.mv (.t 17))]) (.ret))))⟩
theorem s31_ok : slimF Tryz.prog ⟨[57, 58, 59, 63, 67, 68, 77, 102, 103, 104, 110, 116, 120], [3]⟩ Tryz.f31 = some s31 := by kernel_rfl
theorem join_pure (l : List (List Int)) (hs : (cat l).length ≤ 17592186044416) : PureC Tryz.prog 31 [(intss l)] (ints (cat l)) := by
 refine pW Tryz.func31 s31_ok fun hB => ?_
 unfold s31
 dsimp only
 refine W_r (R_mv (@rfl V V.nilsl) (R_e (W_r (R_lazy (i := 3) (n := 0) rfl (congrArg Blk.ver rfl) (R_e (W_seq_seq (W_r ?_)))))))
 refine R_mv (@rfl V (iV (0 : Int))) (R_e (W_seq_blockg fun Q1 n1 x1 y1 z1 => ?_))
 refine W_loop (fun mm T H => ∃ (k : Nat), mm = l.length - k ∧ T 0 = (intss l) ∧ T 3 = (V.ms 3 (1 + k) 0 ((cat (l.take k)).length)) ∧ T 4 = (iV ((k : Nat) : Int)) ∧ H 3 = (bz (1 + k) 3 1 (List.map cI (cat (l.take k)))) ∧ (k ≤ l.length)) ?_ ?_
 ·
  refine ⟨_, 0, rfl, rfl, (Eq.trans (@rfl V (V.ms 3 1 0 (0))) (by first | rfl | (rw [cat_take (by omega), List.length_append]; rfl))), (Eq.trans (@rfl V (iV (0 : Int))) rfl), (Eq.trans (@rfl Blk (bz 1 3 1 [])) (by first | rfl | (rw [cat_take (by omega)]; rfl))), ?_⟩
  · omega
 intro mm T H ⟨k, hmm, t0, t3, t4, h3, hk⟩ Q2 p12 p22 p32
 unfold b31_0
 refine W_seq_seq (W_r (R_mv t4 (R_mv t0 (R_len rfl (R_lss rfl rfl (R_e ?_))))))
 refine W_seq_if rfl (fun c3 => ?_) fun c3 => ?_
 ·
  have hq := cat_take_le (l := l) (k := k) (by omega)
  refine W_seq_skip (W_seq_blockg fun Q4 n4 x4 y4 z4 => (W_t (R_mv t3 (R_mv t0 (R_mv t4 (R_idx (i := k) (@rfl V (intss l)) (@rfl V (iV ((k : Nat) : Int))) (by omega) rfl (R_load_pp (v := (ints ((nth (l) (k))))) rfl (by first | rfl | simp [ldV]) ?_)))))))
  refine R_appendS (l := (cat (l.take k))) (m := ((nth (l) (k)))) (f := cI) (@rfl V (V.ms 3 (1 + k) 0 ((cat (l.take k)).length))) h3 (by first | rfl | simp) (@rfl V (ints ((nth (l) (k))))) (fun _ => rfl) (fun _ => rfl) (by omega) (by omega) (R_mv (@rfl V (V.ms 3 (1 + k + 1) 0 (((cat (l.take k)).length) + ((nth (l) (k))).length))) (R_e (n4 _ _ (.done (W_t (R_mv t4 (R_addN rfl (@rfl V (iV ((1 : Nat) : Int))) (by omega) ?_)))))))
  refine R_mv (@rfl V (iV ((k + 1 : Nat) : Int))) (R_e ?_)
  refine p12 _ _ _ ?_ ⟨(k + 1), rfl, t0, (Eq.trans (@rfl V (V.ms 3 (1 + k + 1) 0 (((cat (l.take k)).length) + ((nth (l) (k))).length))) (by first | rfl | (rw [cat_take (by omega), List.length_append]; rfl))), (Eq.trans (@rfl V (iV ((k + 1 : Nat) : Int))) (by first | rfl | (rw [cat_take (by omega), List.length_append]; rfl))), (Eq.trans (@rfl Blk (bz (1 + k + 1) 3 1 (List.map cI (cat (l.take k) ++ ((nth (l) (k))))))) (by first | rfl | (rw [cat_take (by omega)]; rfl))), ?_⟩
  · omega
  · omega
 refine W_seq_exit (p32 _ _ _ (x1 _ _ (.done (W_r (R_mv t3 (R_mv (@rfl V (V.ms 3 (1 + k) 0 ((cat (l.take k)).length))) (R_e ?_)))))))
 refine W_ret ?_
 refine Ret_1 (@rfl V (V.ms 3 (1 + k) 0 ((cat (l.take k)).length))) (fz_ms h3 (by first | rfl | simp) (l := (cat (l.take k))) rfl (by first | rfl | simp) (fun _ => by simp) ?_)
 · (have e : k = l.length := (by omega); subst e; rw [List.take_length])
theorem raccess_pure (t : Dt) (hb : Bd t) : PureC Tryz.prog 41 [(V.agg [(V.sl (List.map cN (t.nd)))])] (intss (acL t.nd)) := by
 refine pW Tryz.func41 s41_ok fun hB => ?_
 unfold s41
 dsimp only
 have hbn := hb.n
 refine W_r (R_box (i := 1) (n := 0) (m := 1) (cs := [(V.sl (List.map cN (t.nd)))]) rfl (congrArg Blk.ver rfl) rfl rfl rfl (R_mv (@rfl V V.nilsl) (R_e (W_r (R_lazy (i := 3) (n := 0) rfl (congrArg Blk.ver rfl) (R_e (W_seq_seq ?_)))))))
 refine W_r (R_mv (@rfl V (iV (0 : Int))) (R_e (W_seq_blockg fun Q1 n1 x1 y1 z1 => ?_)))
 refine W_loop (fun mm T H => ∃ (k : Nat) (v : Nat), mm = t.nd.length - k ∧ T 1 = (V.mp 1 1 0 0) ∧ T 3 = (V.ms 3 v 0 ((acL (t.nd.take k)).length)) ∧ T 4 = (iV ((k : Nat) : Int)) ∧ H 1 = (bk 1 24 1 [[(V.sl (List.map cN (t.nd)))]]) ∧ H 3 = (bz v 38 1 (List.map cL (acL (t.nd.take k)))) ∧ (k ≤ t.nd.length)) ?_ ?_
 ·
  refine ⟨_, 0, 1, rfl, rfl, (Eq.trans (@rfl V (V.ms 3 1 0 (0))) (by first | rfl | (rw [acL_take (by omega), if_pos (by assumption), List.length_append]; rfl) | (rw [acL_take (by omega), if_neg (by assumption), List.append_nil]; done) | simp)), (Eq.trans (@rfl V (iV (0 : Int))) rfl), rfl, (Eq.trans (@rfl Blk (bz 1 38 1 [])) (by first | rfl | (rw [acL_take (by omega), if_pos (by assumption)]; simp [cat]; done) | (rw [acL_take (by omega), if_neg (by assumption), List.append_nil]; done) | simp)), ?_⟩
  · omega
 intro mm T H ⟨k, v, hmm, t1, t3, t4, h1, h3, hk⟩ Q2 p12 p22 p32
 unfold b41_0
 have q1 := acL_len (t.nd.take k)
 have q2 : (t.nd.take k).length ≤ k := by simp; omega
 refine W_seq_seq (W_r (R_mv t4 (R_fld_mp (o' := 0) t1 h1 oB rfl (R_load_mp (v := (V.sl (List.map cN (t.nd)))) rfl h1 (lB oB rfl rfl) (R_len rfl (R_lss rfl rfl (R_e ?_)))))))
 refine W_seq_if rfl (fun c3 => ?_) fun c3 => ?_
 ·
  have r1 := hb.ac k (by omega)
  refine W_seq_skip (W_seq_blockg fun Q4 n4 x4 y4 z4 => (W_r (R_fld_mp (o' := 0) t1 h1 oB rfl (R_load_mp (v := (V.sl (List.map cN (t.nd)))) rfl h1 (lB oB rfl rfl) (R_mv t4 (R_idx (i := k) (@rfl V (V.sl (List.map cN (t.nd)))) (@rfl V (iV ((k : Nat) : Int))) (by omega) rfl (R_fld_pp (cs' := (cN (((nth (t.nd) (k)))))) rfl rfl ?_)))))))
  refine R_load_pp (v := (V.bool (((nth (t.nd) (k))).lf))) rfl (by first | rfl | simp [ldV]) (R_e ?_)
  refine W_ifb rfl (fun c5 => ?_) (fun c5 => ?_)
  ·
   have d1 : (nth t.nd k).lf = true := c5
   refine W_t (R_mv t3 (R_fld_mp (o' := 0) t1 h1 oB rfl (R_load_mp (v := (V.sl (List.map cN (t.nd)))) rfl h1 (lB oB rfl rfl) (R_mv t4 (R_idx (i := k) (@rfl V (V.sl (List.map cN (t.nd)))) (@rfl V (iV ((k : Nat) : Int))) (by omega) rfl (R_fld_pp (cs' := (List.drop 1 (cN (((nth (t.nd) (k))))))) rfl rfl (R_load_pp (v := (ints (((nth (t.nd) (k))).ac))) rfl (by first | rfl | simp [ldV]) ?_)))))))
   refine R_bslice (qs := [(0, (ints (((nth (t.nd) (k))).ac)))]) (rows := [[(ints (((nth (t.nd) (k))).ac))]]) (mcons (congrArg (fun v => (0, v)) rfl) rfl) rfl (R_callc (evcons rfl evnil) (join_pure ([((nth (t.nd) (k))).ac]) (by simp [cat]; omega)) (R_bslice (qs := [(0, (ints (cat ([((nth (t.nd) (k))).ac]))))]) (rows := [[(ints (cat ([((nth (t.nd) (k))).ac])))]]) (mcons (congrArg (fun v => (0, v)) rfl) rfl) rfl (R_append1 (l := (acL (t.nd.take k))) (f := cL) (x := (cat ([((nth (t.nd) (k))).ac]))) (@rfl V (V.ms 3 v 0 ((acL (t.nd.take k)).length))) h3 (by first | rfl | simp | omega) (@rfl V (V.sl [[(ints (cat ([((nth (t.nd) (k))).ac])))]])) rfl rfl (by omega) (by omega) (R_mv (@rfl V (V.ms 3 (v + 1) 0 (((acL (t.nd.take k)).length) + 1))) (R_e (n4 _ _ (.done ?_)))))))
   refine W_t (R_mv t4 (R_addN rfl (@rfl V (iV ((1 : Nat) : Int))) (by omega) (R_mv (@rfl V (iV ((k + 1 : Nat) : Int))) (R_e ?_))))
   refine p12 _ _ _ ?_ ⟨(k + 1), (v + 1), rfl, t1, (Eq.trans (@rfl V (V.ms 3 (v + 1) 0 (((acL (t.nd.take k)).length) + 1))) (by first | rfl | (rw [acL_take (by omega), if_pos (by assumption), List.length_append]; rfl) | (rw [acL_take (by omega), if_neg (by assumption), List.append_nil]; done) | simp)), (Eq.trans (@rfl V (iV ((k + 1 : Nat) : Int))) (by first | rfl | (rw [acL_take (by omega), if_pos (by assumption), List.length_append]; rfl) | (rw [acL_take (by omega), if_neg (by assumption), List.append_nil]; done) | simp)), h1, (Eq.trans (@rfl Blk (bz (v + 1) 38 1 (List.map cL (acL (t.nd.take k) ++ [cat ([((nth (t.nd) (k))).ac])])))) (by first | rfl | (rw [acL_take (by omega), if_pos (by assumption)]; simp [cat]; done) | (rw [acL_take (by omega), if_neg (by assumption), List.append_nil]; done) | simp)), ?_⟩
   · omega
   · omega
  have d1 : ¬(nth t.nd k).lf = true := by simpa using c5
  refine W_skip (n4 _ _ (.done (W_t (R_mv t4 (R_addN rfl (@rfl V (iV ((1 : Nat) : Int))) (by omega) (R_mv (@rfl V (iV ((k + 1 : Nat) : Int))) (R_e ?_)))))))
  refine p12 _ _ _ ?_ ⟨(k + 1), v, rfl, t1, (Eq.trans t3 (by first | rfl | (rw [acL_take (by omega), if_pos (by assumption), List.length_append]; rfl) | (rw [acL_take (by omega), if_neg (by assumption), List.append_nil]; done) | simp)), (Eq.trans (@rfl V (iV ((k + 1 : Nat) : Int))) (by first | rfl | (rw [acL_take (by omega), if_pos (by assumption), List.length_append]; rfl) | (rw [acL_take (by omega), if_neg (by assumption), List.append_nil]; done) | simp)), h1, (Eq.trans h3 (by first | rfl | (rw [acL_take (by omega), if_pos (by assumption)]; simp [cat]; done) | (rw [acL_take (by omega), if_neg (by assumption), List.append_nil]; done) | simp)), ?_⟩
  · omega
  · omega
 refine W_seq_exit (p32 _ _ _ (x1 _ _ (.done (W_r (R_mv t3 (R_mv (@rfl V (V.ms 3 v 0 ((acL (t.nd.take k)).length))) (R_e ?_)))))))
 refine W_ret ?_
 refine Ret_1 (@rfl V (V.ms 3 v 0 ((acL (t.nd.take k)).length))) (fz_ms h3 (by first | rfl | simp) (l := (acL (t.nd.take k))) rfl (by first | rfl | simp | omega) (fun _ => by simp) ?_)
 · rw [show k = t.nd.length by omega, List.take_length]
def r42_5 : List SO := [
 sO 11 (.mv (.t 3)),
 sO 12 (.mv (.t 0)),
 sO 13 (.mv (.t 4)),
 sO 14 (.idx 1 (.t 12) (.t 13)),
 sO 15 (.load false 1 (.t 14)),
 sO 16 (.call true 77 [.t 11, .t 15]),
 sO 3 (.mv (.t 16))]
def b42_0 : SC := .seq (.seq (.reg [sO 5 (.mv (.t 4)), sO 6 (.mv (.t 0)), sO 7 (.len (.t 6)), sO 8 (.bin .lss (.t 5) (.t 7))]) (.cond (.t 8) (.skip) (.exit 0))) (.seq (.block 1 (.reg r42_5)) (.reg [sO 9 (.mv (.t 4)), sO 10 (.bin .add (.t 9) (.c (.int .i64 1))), sO 4 (.mv (.t 10))]))
def s42 : SF := ⟨18, [.tmp 2], .seq (.reg [sO 2 (.mv (.c (.nilsl)))]) (.seq (.reg [sO 3 (.lazy 38 1)]) (.seq (.seq (.reg [sO 4 (.mv (.c (.int .i64 0)))]) (.block 0 (.loop b42_0))) (.seq (.reg [sO 17 (.mv (.t 3)), sO 2 (.mv (.t 17))]) (.ret))))⟩
theorem s42_ok : slimF Tryz.prog ⟨[57, 58, 59, 63, 67, 68, 77, 102, 103, 104, 110, 116, 120], [3]⟩ Tryz.f42 = some s42 := by kernel_rfl
def r77_2 : List SO := [
 sO 10 (.mv (.t 5)),
 sO 11 (.mv (.t 0)),
 sO 12 (.len (.t 11)),
 sO 13 (.bin .lss (.t 10) (.t 12)),
 sO 14 (.mv (.t 13)),
 ⟨some (14, true), some 15, .mv (.t 0)⟩,
 ⟨some (14, true), some 16, .mv (.t 5)⟩,
 ⟨some (14, true), some 17, .idx 1 (.t 15) (.t 16)⟩,
 ⟨some (14, true), some 18, .load false 1 (.t 17)⟩,
 ⟨some (14, true), some 19, .mv (.t 1)⟩,
 ⟨some (14, true), some 20, .call false 22 [.t 18, .t 19]⟩,
 sO 21 (.pick (.t 14) (.t 20) (.c (.bool false)))]
def r77_8 : List SO := [
 sO 34 (.mv (.t 0)),
 sO 35 (.mv (.t 6)),
 sO 36 (.mv (.t 0)),
 sO 37 (.mv (.t 6)),
 sO 38 (.bin .sub (.t 37) (.c (.int .i64 1))),
 sO 39 (.idx 1 (.t 36) (.t 38)),
 sO 40 (.load false 1 (.t 39)),
 sO 41 (.idx 1 (.t 34) (.t 35)),
 sN (.store 1 (.t 41) (.t 40))]
def b77_0 : SC := .seq (.seq (.reg [sO 29 (.mv (.t 6)), sO 30 (.mv (.t 5)), sO 31 (.bin .gtr (.t 29) (.t 30))]) (.cond (.t 31) (.skip) (.exit 0))) (.seq (.block 1 (.reg r77_8)) (.reg [sO 32 (.mv (.t 6)), sO 33 (.bin .sub (.t 32) (.c (.int .i64 1))), sO 6 (.mv (.t 33))]))
def r77_9 : List SO := [
 sO 42 (.mv (.t 0)),
 sO 43 (.mv (.t 5)),
 sO 44 (.lazy 3 1),
 sO 45 (.mv (.t 1)),
 sO 46 (.append 3 1 8 (.t 44) (.t 45)),
 sO 47 (.idx 1 (.t 42) (.t 43)),
 sN (.store 1 (.t 47) (.t 46))]
def s77 : SF := ⟨49, [.tmp 4], .seq (.reg [sO 4 (.mv (.c (.nilsl)))]) (.seq (.reg [sO 7 (.mv (.t 0)), sO 8 (.mv (.t 1)), sO 9 (.call false 108 [.t 7, .t 8]), sO 5 (.mv (.t 9))]) (.seq (.seq (.reg r77_2) (.cond (.t 21) (.seq (.reg [sO 22 (.mv (.t 0)), sO 4 (.mv (.t 22))]) (.ret)) (.skip))) (.seq (.reg [sO 23 (.mv (.t 0)), sO 24 (.bslice 38 1 false [.nilsl] 1 [(0, .c (.nilsl))]), sO 25 (.append 38 1 24 (.t 23) (.t 24)), sO 0 (.mv (.t 25))]) (.seq (.seq (.reg [sO 26 (.mv (.t 0)), sO 27 (.len (.t 26)), sO 28 (.bin .sub (.t 27) (.c (.int .i64 1))), sO 6 (.mv (.t 28))]) (.block 0 (.loop b77_0))) (.seq (.reg r77_9) (.seq (.reg [sO 48 (.mv (.t 0)), sO 4 (.mv (.t 48))]) (.ret)))))))⟩
theorem s77_ok : slimF Tryz.prog ⟨[57, 58, 59, 63, 67, 68, 77, 102, 103, 104, 110, 116, 120], [44]⟩ Tryz.f77 = some s77 := by kernel_rfl
theorem rsame1_pure (a b : List Int) : PureC Tryz.prog 22 [(ints a), (ints b)] (V.bool (decide (a = b))) := by
 refine pW Tryz.func22 s22_ok fun hB => ?_
 unfold s22
 dsimp only
 refine W_r (R_mv (@rfl V (V.bool false)) (R_e (W_r (R_mv (@rfl V (ints a)) (R_len rfl (R_mv (@rfl V (ints b)) (R_len rfl ?_)))))))
 refine R_eql rfl rfl (R_mv (@rfl V (V.bool (decide (((a.length : Nat) : Int) = ((b.length : Nat) : Int))))) ?_)
 refine Ops_seg 7 (fun T H => T 17 = (V.bool (decide ((((a.length : Nat) : Int) = ((b.length : Nat) : Int)) ∧ (((cmn a b : Nat) : Int) = ((a.length : Nat) : Int))))) ∧ True) ?_ ?_
 ·
  by_cases g1 : ((a.length : Nat) : Int) = ((b.length : Nat) : Int)
  ·
   refine G_yes (edT g1 rfl) (R_mv (@rfl V (ints a)) (G_yes (edT g1 rfl) (R_mv (@rfl V (ints b)) (G_yes (edT g1 rfl) ?_))))
   have q2 := cmn_l a b
   have q3 := cmn_r a b
   refine R_callc (evcons rfl (evcons rfl evnil)) (rcommon_pure a b) (G_yes (edT g1 rfl) (R_mv (@rfl V (ints a)) (G_yes (edT g1 rfl) (R_len rfl (G_yes (edT g1 rfl) (R_eql rfl rfl (R_pickT (edT g1 rfl) rfl ?_)))))))
   exact ⟨(dec_andT g1), trivial⟩
  ·
   refine G_n (edF g1 rfl) (G_n (edF g1 rfl) (G_n (edF g1 rfl) (G_n (edF g1 rfl) (G_n (edF g1 rfl) (G_n (edF g1 rfl) (R_pickF (edF g1 rfl) rfl ?_))))))
   exact ⟨(dec_andF g1), trivial⟩
 intro T H ⟨t17, _⟩
 refine R_mv t17 (R_e (W_ret ?_))
 refine Ret_1 (@rfl V (V.bool (decide ((((a.length : Nat) : Int) = ((b.length : Nat) : Int)) ∧ (((cmn a b : Nat) : Int) = ((a.length : Nat) : Int)))))) (fz_bool ?_)
 · exact same_dec a b
def r108_4 : List SO := [
 sO 17 (.mv (.t 0)),
 sO 18 (.mv (.t 7)),
 sO 19 (.idx 1 (.t 17) (.t 18)),
 sO 20 (.load false 1 (.t 19)),
 sO 21 (.mv (.t 1)),
 sO 22 (.call false 46 [.t 20, .t 21]),
 sO 23 (.bin .lss (.t 22) (.c (.int .i64 0)))]
def b108_0 : SC := .seq (.seq (.reg [sO 10 (.mv (.t 5)), sO 11 (.mv (.t 6)), sO 12 (.bin .lss (.t 10) (.t 11))]) (.cond (.t 12) (.skip) (.exit 0))) (.block 1 (.seq (.reg [sO 13 (.mv (.t 5)), sO 14 (.mv (.t 6)), sO 15 (.bin .add (.t 13) (.t 14)), sO 16 (.bin .quo (.t 15) (.c (.int .i64 2))), sO 7 (.mv (.t 16))]) (.seq (.reg r108_4) (.cond (.t 23) (.reg [sO 24 (.mv (.t 7)), sO 25 (.bin .add (.t 24) (.c (.int .i64 1))), sO 5 (.mv (.t 25))]) (.reg [sO 26 (.mv (.t 7)), sO 6 (.mv (.t 26))])))))
def s108 : SF := ⟨28, [.tmp 4], .seq (.reg [sO 4 (.mv (.c (.int .i64 0)))]) (.seq (.reg [sO 8 (.mv (.t 0)), sO 9 (.len (.t 8)), sO 5 (.mv (.c (.int .i64 0))), sO 6 (.mv (.t 9))]) (.seq (.block 0 (.loop b108_0)) (.seq (.reg [sO 27 (.mv (.t 5)), sO 4 (.mv (.t 27))]) (.ret))))⟩
theorem s108_ok : slimF Tryz.prog ⟨[57, 58, 59, 63, 67, 68, 77, 102, 103, 104, 110, 116, 120], []⟩ Tryz.f108 = some s108 := by kernel_rfl
def s46 : SF := ⟨18, [.tmp 4], .seq (.reg [sO 4 (.mv (.c (.int .i64 0)))]) (.seq (.seq (.reg [sO 5 (.mv (.t 0)), sO 6 (.len (.t 5)), sO 7 (.mv (.t 1)), sO 8 (.len (.t 7)), sO 9 (.bin .lss (.t 6) (.t 8))]) (.cond (.t 9) (.seq (.reg [sO 4 (.mv (.c (.int .i64 (-1))))]) (.ret)) (.skip))) (.seq (.seq (.reg [sO 10 (.mv (.t 0)), sO 11 (.len (.t 10)), sO 12 (.mv (.t 1)), sO 13 (.len (.t 12)), sO 14 (.bin .gtr (.t 11) (.t 13))]) (.cond (.t 14) (.seq (.reg [sO 4 (.mv (.c (.int .i64 1)))]) (.ret)) (.skip))) (.seq (.reg [sO 15 (.mv (.t 0)), sO 16 (.mv (.t 1)), sO 17 (.call false 76 [.t 15, .t 16]), sO 4 (.mv (.t 17))]) (.ret))))⟩
theorem s46_ok : slimF Tryz.prog ⟨[57, 58, 59, 63, 67, 68, 77, 102, 103, 104, 110, 116, 120], []⟩ Tryz.f46 = some s46 := by kernel_rfl
theorem rcompare_pure (a b : List Int) : PureC Tryz.prog 46 [(ints a), (ints b)] (iV (slx a b)) := by
 refine pW Tryz.func46 s46_ok fun hB => ?_
 unfold s46
 dsimp only
 refine W_r (R_mv (@rfl V (iV (0 : Int))) (R_e (W_seq_seq (W_r (R_mv (@rfl V (ints a)) (R_len rfl (R_mv (@rfl V (ints b)) ?_)))))))
 refine R_len rfl (R_lss rfl rfl (R_e ?_))
 refine W_seq_if rfl (fun c1 => ?_) fun c1 => ?_
 ·
  refine W_seq_seq (W_r (R_mv (@rfl V (iV (-1 : Int))) (R_e (W_seq_ret ?_))))
  refine Ret_1 (@rfl V (iV (-1 : Int))) (fz_int ?_)
  · rw [slx, if_pos (by omega)]
 refine W_seq_skip (W_seq_seq (W_r (R_mv (@rfl V (ints a)) (R_len rfl (R_mv (@rfl V (ints b)) (R_len rfl (R_gtr rfl rfl ?_)))))))
 refine R_e ?_
 refine W_seq_if rfl (fun c2 => ?_) fun c2 => ?_
 ·
  refine W_seq_seq (W_r (R_mv (@rfl V (iV (1 : Int))) (R_e (W_seq_ret ?_))))
  refine Ret_1 (@rfl V (iV (1 : Int))) (fz_int ?_)
  · rw [slx, if_neg (by omega), if_pos (by omega)]
 refine W_seq_skip (W_r (R_mv (@rfl V (ints a)) (R_mv (@rfl V (ints b)) (R_callc (evcons rfl (evcons rfl evnil)) (rlex_pure a b) (R_mv (@rfl V (iV (lexI a b))) (R_e (W_ret ?_)))))))
 refine Ret_1 (@rfl V (iV (lexI a b))) (fz_int ?_)
 · rw [slx, if_neg (by omega), if_neg (by omega)]
theorem place_pure (l : List (List Int)) (w : List Int) (hs : SrtW l) (hl : l.length ≤ 1073741824) : PureC Tryz.prog 108 [(intss l), (ints w)] (iV ((plN l w : Nat) : Int)) := by
 refine pW Tryz.func108 s108_ok fun hB => ?_
 unfold s108
 dsimp only
 have q0 := pl_le (w := w) l
 refine W_r (R_mv (@rfl V (iV (0 : Int))) (R_e (W_r (R_mv (@rfl V (intss l)) (R_len rfl (R_mv (@rfl V (iV (0 : Int))) (R_mv (@rfl V (iV ((l.length : Nat) : Int))) ?_)))))))
 refine R_e (W_seq_blockg fun Q1 n1 x1 y1 z1 => ?_)
 refine W_loop (fun mm T H => ∃ (i : Nat) (j : Nat), mm = j - i ∧ T 0 = (intss l) ∧ T 1 = (ints w) ∧ T 5 = (iV ((i : Nat) : Int)) ∧ T 6 = (iV ((j : Nat) : Int)) ∧ (i ≤ plN l w) ∧ (plN l w ≤ j) ∧ (j ≤ l.length)) ?_ ?_
 ·
  refine ⟨_, 0, l.length, rfl, rfl, rfl, (Eq.trans (@rfl V (iV (0 : Int))) rfl), rfl, ?_, ?_, ?_⟩
  · omega
  · omega
  · omega
 intro mm T H ⟨i, j, hmm, t0, t1, t5, t6, h1, h2, h3⟩ Q2 p12 p22 p32
 unfold b108_0
 refine W_seq_seq (W_r (R_mv t5 (R_mv t6 (R_lss rfl rfl (R_e ?_)))))
 refine W_seq_if rfl (fun c3 => ?_) fun c3 => ?_
 ·
  refine W_seq_skip (W_block fun Q4 n4 x4 y4 z4 => (W_r (R_mv t5 (R_mv t6 (R_addN rfl rfl (by omega) (R_quo2 (n := (i + j)) rfl rfl (by omega) (R_mv (@rfl V (iV (((i + j) / 2 : Nat) : Int))) ?_)))))))
  refine R_e (W_r (R_mv t0 (R_mv (@rfl V (iV (((i + j) / 2 : Nat) : Int))) (R_idx (i := ((i + j) / 2)) (@rfl V (intss l)) (@rfl V (iV (((i + j) / 2 : Nat) : Int))) (by omega) rfl (R_load_pp (v := (ints ((nth (l) ((i + j) / 2))))) rfl (by first | rfl | simp [ldV]) (R_mv t1 (R_callc (evcons rfl (evcons rfl evnil)) (rcompare_pure ((nth (l) ((i + j) / 2))) w) ?_)))))))
  refine R_lss rfl rfl (R_e ?_)
  refine W_if rfl (fun c5 => ?_) fun c5 => ?_
  ·
   have d1 := (pl_iff hs (by omega)).1 c5
   refine W_t (R_mv (@rfl V (iV (((i + j) / 2 : Nat) : Int))) (R_addN rfl (@rfl V (iV ((1 : Nat) : Int))) (by omega) (R_mv (@rfl V (iV ((((i + j) / 2) + 1 : Nat) : Int))) (R_e (n4 _ _ ?_)))))
   refine p12 _ _ _ ?_ ⟨(((i + j) / 2) + 1), j, rfl, t0, t1, (Eq.trans (@rfl V (iV ((((i + j) / 2) + 1 : Nat) : Int))) (by first | rfl | simp)), t6, ?_, ?_, ?_⟩
   · omega
   · omega
   · omega
   · omega
  have d1 : ¬((i + j) / 2 < plN l w) := fun e => c5 ((pl_iff hs (by omega)).2 e)
  refine W_t (R_mv (@rfl V (iV (((i + j) / 2 : Nat) : Int))) (R_mv (@rfl V (iV (((i + j) / 2 : Nat) : Int))) (R_e (n4 _ _ ?_))))
  refine p12 _ _ _ ?_ ⟨i, ((i + j) / 2), rfl, t0, t1, t5, (Eq.trans (@rfl V (iV (((i + j) / 2 : Nat) : Int))) (by first | rfl | simp)), ?_, ?_, ?_⟩
  · omega
  · omega
  · omega
  · omega
 refine W_seq_exit (p32 _ _ _ (x1 _ _ (.done (W_r (R_mv t5 (R_mv (@rfl V (iV ((i : Nat) : Int))) (R_e ?_)))))))
 refine W_ret ?_
 refine Ret_1 (@rfl V (iV ((i : Nat) : Int))) (fz_int ?_)
 · have e : i = plN l w := by omega
   rw [e]
theorem with_E (l : List (List Int)) (w : List Int) (v3 v44 : Nat) (Hi : Heap) (h3 : Hi 3 = (bz v3 38 1 (List.map cL (l)))) (h544 : (Hi 544).ver = v44) (hs : SrtW l) (hl : l.length ≤ 100000) (hw : w.length ≤ 1048576) : CallOK Tryz.prog 77 [(V.ms 3 v3 0 (l.length)), (ints w)] Hi (V.ms 3 (v3 + 1) 0 ((wiW l w).length)) (upd (upd Hi 544 (⟨v44 + 2, false, false, 0, 0, []⟩ : Blk)) 3 (bz (v3 + 1) 38 1 (List.map cL (wiW l w)))) := by
 refine eW (k0 := 500) Tryz.func77 s77_ok fun hB => ?_
 have q0 := pl_le (w := w) l
 unfold s77
 dsimp only
 refine W_r (R_mv (@rfl V V.nilsl) (R_e (W_r (R_mv (@rfl V (V.ms 3 v3 0 (l.length))) (R_mv (@rfl V (ints w)) (R_call (evcons (@rfl V (V.ms 3 v3 0 (l.length))) (evcons (@rfl V (ints w)) evnil)) (place_pure l w hs (by omega)) (mcons (fz_mst h3 (by first | rfl | simp) (take_map (l := l) (by first | rfl | simp | omega)) (fun _ => by simp)) (mcons (fzv_canon 6 _ (by simp [-List.map_take, -List.map_drop, -List.map_append, -List.map_reverse])) rfl)) (by simp [-List.map_take, -List.map_drop, -List.map_append, -List.map_reverse]) (Or.inr rfl) (R_mv (@rfl V (iV ((plN l w : Nat) : Int))) ?_)))))))
 refine R_e (W_seq_seq (W_r (R_mv (@rfl V (iV ((plN l w : Nat) : Int))) (R_mv (@rfl V (V.ms 3 v3 0 (l.length))) (R_len_ms rfl h3 (by first | rfl | simp) (R_lss rfl rfl (R_mv (@rfl V (V.bool (decide (((plN l w : Nat) : Int) < ((l.length : Nat) : Int))))) ?_)))))))
 refine Ops_seg 7 (fun T H => T 0 = (V.ms 3 v3 0 (l.length)) ∧ T 1 = (ints w) ∧ T 5 = (iV ((plN l w : Nat) : Int)) ∧ T 21 = (V.bool (decide ((((plN l w : Nat) : Int) < ((l.length : Nat) : Int)) ∧ (((nth (l) (plN l w))) = w)))) ∧ (∀ j, j ∉ [544, 3] → H j = Hi j) ∧ H 3 = (bz v3 38 1 (List.map cL (l))) ∧ (H 544).ver = v44 ∧ True) ?_ ?_
 ·
  by_cases g1 : ((plN l w : Nat) : Int) < ((l.length : Nat) : Int)
  ·
   refine G_yes (edT g1 rfl) (R_mv (@rfl V (V.ms 3 v3 0 (l.length))) (G_yes (edT g1 rfl) (R_mv (@rfl V (iV ((plN l w : Nat) : Int))) (G_yes (edT g1 rfl) (R_idx_ms0 (i := (plN l w)) (@rfl V (V.ms 3 v3 0 (l.length))) (@rfl V (iV ((plN l w : Nat) : Int))) h3 (okB_map (by omega)) rfl (by omega) (G_yes (edT g1 rfl) (R_load_mp (v := (ints ((nth (l) (plN l w))))) rfl h3 (ldB_map (by omega) (by first | rfl | simp [ldV, V.one])) ?_)))))))
   refine G_yes (edT g1 rfl) (R_mv (@rfl V (ints w)) (G_yes (edT g1 rfl) (R_callc (evcons rfl (evcons rfl evnil)) (rsame1_pure ((nth (l) (plN l w))) w) (R_pickT (edT g1 rfl) rfl ?_))))
   exact ⟨rfl, rfl, rfl, (dec_andT g1), (fun _ _ => rfl), h3, h544, trivial⟩
  ·
   refine G_n (edF g1 rfl) (G_n (edF g1 rfl) (G_n (edF g1 rfl) (G_n (edF g1 rfl) (G_n (edF g1 rfl) (G_n (edF g1 rfl) (R_pickF (edF g1 rfl) rfl ?_))))))
   exact ⟨rfl, rfl, rfl, (dec_andF g1), (fun _ _ => rfl), h3, h544, trivial⟩
 intro T H ⟨t0, t1, t5, t21, hF, h3, h544, _⟩
 refine R_e ?_
 refine W_seq_if t21 (fun c2 => ?_) fun c2 => ?_
 ·
  have d1 : wiH l w := by simpa [wiH] using c2
  have hwi := wi_yes d1
  refine W_seq_seq (W_r (R_mv t0 (R_mv (@rfl V (V.ms 3 v3 0 (l.length))) (R_e (W_seq_ret (fork_ (R := fun T H => T 4 = (V.ms 3 v3 0 (l.length)) ∧ (∀ j, j ∉ [544, 3] → H j = Hi j) ∧ H 3 = (bz v3 38 1 (List.map cL (l))) ∧ (H 544).ver = v44 ∧ True) ⟨(@rfl V (V.ms 3 v3 0 (l.length))), hF, h3, h544, trivial⟩ ?_))))))
  intro T H ⟨t4, hF, h3, h544, _⟩
  skip
  have fh := FinX.fin (FinX.put (B := (bz (v3 + 1) 38 1 (List.map cL (wiW l w)))) (FinX.putv (n := v44) (B := (⟨v44 + 2, false, false, 0, 0, []⟩ : Blk)) (FinX.start hF) h544 (by show _ ≤ v44 + 2; omega) rfl) h3 (FinB.up (by omega) (by first | rfl | (rw [hwi]; done) | (rw [mv_top]; done) | (rw [show (((j : Nat) : Int) - (1 : Int)).toNat = j - 1 by omega, mv_step (by omega) hj]; done) | (rw [show j = plN l w by omega, mv_end q0, hwi]; rfl) | simp)))
  exact RetF_1 t4 fh (FinV.trans_eq (FinV.ms (n := (v3 + 1)) fh (by simp [h3]) (by simp [h3]) rfl rfl) (by first | rfl | (rw [hwi]; done) | (congr 1; omega) | (rw [hwi]; simp; omega) | (exact congrArg (V.int .i64) (by omega)) | simp))
 have d1 : ¬wiH l w := fun q => by have q := wi_ok.1 q; simp [q] at c2
 have hwi := wi_no d1
 refine W_seq_skip ?_
 refine W_seq_g (fun T H => T 0 = (V.ms 3 (v3 + 1) 0 (l.length + 1)) ∧ T 1 = (ints w) ∧ T 5 = (iV ((plN l w : Nat) : Int)) ∧ (∀ j, j ∉ [544, 3] → H j = Hi j) ∧ H 3 = (bz (v3 + 1) 38 1 (List.map cL (l) ++ List.replicate (1) [V.nilsl])) ∧ (H 544).ver = v44 ∧ True) ?_ ?_
 ·
  refine R_mv t0 (R_bslice (qs := [(0, V.nilsl)]) (rows := [[V.nilsl]]) (mcons (congrArg (fun v => (0, v)) rfl) rfl) rfl (R_appendZ (l := l) (f := cL) (z := [.nilsl]) (@rfl V (V.ms 3 v3 0 (l.length))) h3 (by first | rfl | simp | omega) (@rfl V (V.sl [[V.nilsl]])) rfl rfl (by omega) (by omega) (R_mv (@rfl V (V.ms 3 (v3 + 1) 0 (l.length + 1))) ?_)))
  exact R_nil ⟨rfl, t1, t5, (upd_out hF (by decide)), rfl, h544, trivial⟩
 intro T H ⟨t0, t1, t5, hF, h3, h544, _⟩
 refine nil_cell (x := []) (f := cL) (l := l) h3 rfl (.done ?_)
 refine W_seq_seq (W_r (R_mv t0 (R_len_ms rfl (@rfl Blk (bz (v3 + 1) 38 1 (List.map cL (l ++ [[]])))) (by first | rfl | simp) (R_sub rfl rfl (by omega) (by omega) (R_mv (@rfl V (iV (((l.length + 1 : Nat) : Int) - (1 : Int)))) (R_e (W_seq_blockg fun Q3 n3 x3 y3 z3 => ?_)))))))
 refine W_loop (fun mm T H => ∃ (j : Nat), mm = j ∧ T 0 = (V.ms 3 (v3 + 1) 0 (l.length + 1)) ∧ T 1 = (ints w) ∧ T 5 = (iV ((plN l w : Nat) : Int)) ∧ T 6 = (iV ((j : Nat) : Int)) ∧ (∀ j, j ∉ [544, 3] → H j = Hi j) ∧ H 3 = (bz (v3 + 1) 38 1 (List.map cL (mvL l j))) ∧ (H 544).ver = v44 ∧ (j ≤ l.length) ∧ (plN l w ≤ j)) ?_ ?_
 ·
  refine ⟨_, l.length, rfl, t0, t1, t5, (Eq.trans (@rfl V (iV (((l.length + 1 : Nat) : Int) - (1 : Int)))) (by first | rfl | (rw [hwi]; done) | (congr 1; omega) | (rw [hwi]; simp; omega) | (exact congrArg (V.int .i64) (by omega)) | simp)), (upd_out hF (by decide)), (Eq.trans (@rfl Blk (bz (v3 + 1) 38 1 (List.map cL (l ++ [[]])))) (by first | rfl | (rw [hwi]; done) | (rw [mv_top]; done) | (rw [show (((j : Nat) : Int) - (1 : Int)).toNat = j - 1 by omega, mv_step (by omega) hj]; done) | (rw [show j = plN l w by omega, mv_end q0, hwi]; rfl) | simp)), ((congrArg Blk.ver (upd_ne _ _ (by decide))).trans h544), ?_, ?_⟩
  · omega
  · omega
 intro mm T H ⟨j, hmm, t0, t1, t5, t6, hF, h3, h544, hj, hp⟩ Q4 p14 p24 p34
 unfold b77_0
 have q1 := mv_len hj
 refine W_seq_seq (W_r (R_mv t6 (R_mv t5 (R_gtr rfl rfl (R_e ?_)))))
 refine W_seq_if rfl (fun c5 => ?_) fun c5 => ?_
 ·
  refine W_seq_skip (W_seq_blockg fun Q6 n6 x6 y6 z6 => (W_t (R_mv t0 (R_mv t6 (R_mv t0 (R_mv t6 (R_sub rfl rfl (by omega) (by omega) ?_)))))))
  refine R_idxI_ms0 (i := (((j : Nat) : Int) - (1 : Int))) (@rfl V (V.ms 3 (v3 + 1) 0 (l.length + 1))) (@rfl V (iV (((j : Nat) : Int) - (1 : Int)))) h3 (okB_map (by omega)) rfl (by omega) (by omega) (R_load_mp (v := (ints ((nth (mvL l j) (((((j : Nat) : Int) - (1 : Int))).toNat))))) rfl h3 (ldB_map (by omega) (by first | rfl | simp [ldV, V.one])) (R_idx_ms0 (i := j) (@rfl V (V.ms 3 (v3 + 1) 0 (l.length + 1))) (@rfl V (iV ((j : Nat) : Int))) h3 (okB_map (by omega)) rfl (by omega) (R_store (vs := [(ints ((nth (mvL l j) (((((j : Nat) : Int) - (1 : Int))).toNat))))]) (B' := (bz (v3 + 1) 38 1 (List.map cL ((mvL l j).set j ((nth (mvL l j) (((((j : Nat) : Int) - (1 : Int))).toNat))))))) rfl rfl rfl h3 (stB_map (x := ((nth (mvL l j) (((((j : Nat) : Int) - (1 : Int))).toNat)))) (i := j) (by omega) rfl rfl rfl rfl) (R_e (n6 _ _ (.done (W_t ?_)))))))
  refine R_mv t6 (R_sub rfl rfl (by omega) (by omega) (R_mv (@rfl V (iV (((j : Nat) : Int) - (1 : Int)))) (R_e ?_)))
  refine p14 _ _ _ ?_ ⟨(j - 1), rfl, t0, t1, t5, (Eq.trans (@rfl V (iV (((j : Nat) : Int) - (1 : Int)))) (by first | rfl | (rw [hwi]; done) | (congr 1; omega) | (rw [hwi]; simp; omega) | (exact congrArg (V.int .i64) (by omega)) | simp)), (upd_out hF (by decide)), (Eq.trans (@rfl Blk (bz (v3 + 1) 38 1 (List.map cL ((mvL l j).set j ((nth (mvL l j) (((((j : Nat) : Int) - (1 : Int))).toNat))))))) (by first | rfl | (rw [hwi]; done) | (rw [mv_top]; done) | (rw [show (((j : Nat) : Int) - (1 : Int)).toNat = j - 1 by omega, mv_step (by omega) hj]; done) | (rw [show j = plN l w by omega, mv_end q0, hwi]; rfl) | simp)), h544, ?_, ?_⟩
  · omega
  · omega
  · omega
 refine W_seq_exit (p34 _ _ _ (x3 _ _ (.done ?_)))
 refine W_seq_g (fun T H => T 0 = (V.ms 3 (v3 + 1) 0 (l.length + 1)) ∧ (∀ j, j ∉ [544, 3] → H j = Hi j) ∧ H 3 = (bz (v3 + 1) 38 1 ((List.map cL (mvL l j)).set (plN l w) [(V.ms 544 (v44 + 2) 0 (0 + (w).length))])) ∧ H 544 = (bz (v44 + 2) 3 1 (List.map cI ([] ++ w))) ∧ True) ?_ ?_
 ·
  refine R_mv t0 (R_mv t5 (R_lazy (i := 544) (n := v44) (by rfl) h544 (R_mv t1 (R_appendS (l := ([])) (m := w) (f := cI) (@rfl V (V.ms 544 (v44 + 1) 0 (0))) (show _ = (bz (v44 + 1) 3 1 (List.map cI ([]))) from (@rfl Blk (bz (v44 + 1) 3 1 []))) (by first | rfl | simp | omega) (@rfl V (ints w)) (fun _ => rfl) (fun _ => rfl) (by omega) (by omega) (R_idx_ms0 (i := (plN l w)) (@rfl V (V.ms 3 (v3 + 1) 0 (l.length + 1))) (@rfl V (iV ((plN l w : Nat) : Int))) h3 (okB_map (by omega)) rfl (by omega) (R_store (vs := [(V.ms 544 (v44 + 2) 0 (0 + (w).length))]) (B' := (bz (v3 + 1) 38 1 ((List.map cL (mvL l j)).set (plN l w) [(V.ms 544 (v44 + 2) 0 (0 + (w).length))]))) rfl rfl rfl h3 (stB_setc (i := (plN l w)) (by omega) rfl rfl rfl) ?_))))))
  exact R_nil ⟨t0, (upd_out (upd_out (upd_out hF (by decide)) (by decide)) (by decide)), rfl, rfl, trivial⟩
 intro T H ⟨t0, hF, h3, h544, _⟩
 refine frz_cellg (id := 544) (id2 := 3) (rows := (List.map cL (mvL l j))) (i := (plN l w)) (off := 0) (r := [(V.ms 544 (v44 + 2) 0 (0 + (w).length))]) (m := ([] ++ w)) (g := cI) (by decide) h544 h3 (by first | omega | (simp; omega) | (simp; done)) (by first | rfl | simp | omega) rfl (.done ?_)
 refine fork_ (R := fun T H => T 0 = (V.ms 3 (v3 + 1) 0 (l.length + 1)) ∧ (∀ j, j ∉ [544, 3] → H j = Hi j) ∧ H 3 = (bz (v3 + 1) 38 1 (List.map cL ((mvL l j).set (plN l w) ([] ++ w)))) ∧ ((H 544).ver = v44 + 2 ∧ (H 544).live = false) ∧ True) ⟨(fzT_q t0 (fzq_other (by decide))), (upd_out (kill_out hF (by decide)) (by decide)), (Eq.trans (upd_same _ _ _) (by first | (rw [List.map_set]; done) | (rw [List.map_set]; rfl))), ⟨(congrArg Blk.ver (upd_ne _ _ (by decide))).trans (kill_self (congrArg Blk.ver h544)).1, (congrArg Blk.live (upd_ne _ _ (by decide))).trans (kill_self (congrArg Blk.ver h544)).2⟩, trivial⟩ ?_
 intro T H ⟨t0, hF, h3, h544, _⟩
 refine W_r (R_mv t0 (R_mv (@rfl V (V.ms 3 (v3 + 1) 0 (l.length + 1))) (R_e (W_ret (fork_ (R := fun T H => T 4 = (V.ms 3 (v3 + 1) 0 (l.length + 1)) ∧ (∀ j, j ∉ [544, 3] → H j = Hi j) ∧ H 3 = (bz (v3 + 1) 38 1 (List.map cL ((mvL l j).set (plN l w) ([] ++ w)))) ∧ ((H 544).ver = v44 + 2 ∧ (H 544).live = false) ∧ True) ⟨(@rfl V (V.ms 3 (v3 + 1) 0 (l.length + 1))), hF, h3, h544, trivial⟩ ?_)))))
 intro T H ⟨t4, hF, h3, h544, _⟩
 skip
 have fh := FinX.fin (FinX.put (B := (bz (v3 + 1) 38 1 (List.map cL (wiW l w)))) (FinX.putv (n := (v44 + 2)) (B := (⟨v44 + 2, false, false, 0, 0, []⟩ : Blk)) (FinX.start hF) (h544).1 (by show _ ≤ v44 + 2; omega) rfl) h3 (FinB.eq (by first | rfl | (rw [hwi]; done) | (rw [mv_top]; done) | (rw [show (((j : Nat) : Int) - (1 : Int)).toNat = j - 1 by omega, mv_step (by omega) hj]; done) | (rw [show j = plN l w by omega, mv_end q0, hwi]; rfl) | simp)))
 exact RetF_1 t4 fh (FinV.trans_eq (FinV.same fh _) (by first | rfl | (rw [hwi]; done) | (congr 1; omega) | (rw [hwi]; simp; omega) | (exact congrArg (V.int .i64) (by omega)) | simp))
theorem rsorted_pure (l : List (List Int)) (hl : l.length ≤ 10000) (hw : ∀ w ∈ l, w.length ≤ 1048576) : PureC Tryz.prog 42 [(intss l)] (intss (sdW l)) := by
 refine pW Tryz.func42 s42_ok fun hB => ?_
 unfold s42
 dsimp only
 refine W_r (R_mv (@rfl V V.nilsl) (R_e (W_r (R_lazy (i := 3) (n := 0) rfl (congrArg Blk.ver rfl) (R_e (W_seq_seq (W_r ?_)))))))
 refine R_mv (@rfl V (iV (0 : Int))) (R_e (W_seq_blockg fun Q1 n1 x1 y1 z1 => ?_))
 refine W_loop (fun mm T H => ∃ (k : Nat) (v : Nat) (v544 : Nat), mm = l.length - k ∧ T 0 = (intss l) ∧ T 3 = (V.ms 3 v 0 ((sdW (l.take k)).length)) ∧ T 4 = (iV ((k : Nat) : Int)) ∧ H 3 = (bz v 38 1 (List.map cL (sdW (l.take k)))) ∧ (H 544).ver = v544 ∧ (k ≤ l.length)) ?_ ?_
 ·
  refine ⟨_, 0, 1, 0, rfl, rfl, (Eq.trans (@rfl V (V.ms 3 1 0 (0))) (by first | rfl | (rw [sdW_take (by omega)]; done))), (Eq.trans (@rfl V (iV (0 : Int))) rfl), (Eq.trans (@rfl Blk (bz 1 38 1 [])) (by first | rfl | (rw [sdW_take (by omega)]; done))), (congrArg Blk.ver rfl), ?_⟩
  · omega
 intro mm T H ⟨k, v, v544, hmm, t0, t3, t4, h3, h544, hk⟩ Q2 p12 p22 p32
 unfold b42_0
 have q1 := sdW_len (l.take k)
 have q2 : (l.take k).length ≤ k := by simp; omega
 refine W_seq_seq (W_r (R_mv t4 (R_mv t0 (R_len rfl (R_lss rfl rfl (R_e ?_))))))
 refine W_seq_if rfl (fun c3 => ?_) fun c3 => ?_
 ·
  refine W_seq_skip (W_seq_blockg fun Q4 n4 x4 y4 z4 => (W_t (R_mv t3 (R_mv t0 (R_mv t4 (R_idx (i := k) (@rfl V (intss l)) (@rfl V (iV ((k : Nat) : Int))) (by omega) rfl (R_load_pp (v := (ints ((nth (l) (k))))) rfl (by first | rfl | simp [ldV]) ?_)))))))
  refine R_callE (evcons rfl (evcons rfl evnil)) (with_E (sdW (l.take k)) ((nth (l) (k))) v v544 _ h3 h544 (sdW_srt _) (by omega) (hw _ (nth_mem (by omega)))) (R_mv (@rfl V (V.ms 3 (v + 1) 0 ((wiW (sdW (l.take k)) ((nth (l) (k)))).length))) (R_e (n4 _ _ (.done (W_t (R_mv t4 (R_addN rfl (@rfl V (iV ((1 : Nat) : Int))) (by omega) ?_)))))))
  refine R_mv (@rfl V (iV ((k + 1 : Nat) : Int))) (R_e ?_)
  refine p12 _ _ _ ?_ ⟨(k + 1), (v + 1), (v544 + 2), rfl, t0, (Eq.trans (@rfl V (V.ms 3 (v + 1) 0 ((wiW (sdW (l.take k)) ((nth (l) (k)))).length))) (by first | rfl | (rw [sdW_take (by omega)]; done))), (Eq.trans (@rfl V (iV ((k + 1 : Nat) : Int))) (by first | rfl | (rw [sdW_take (by omega)]; done))), (Eq.trans (@rfl Blk (bz (v + 1) 38 1 (List.map cL (wiW (sdW (l.take k)) ((nth (l) (k))))))) (by first | rfl | (rw [sdW_take (by omega)]; done))), (congrArg Blk.ver rfl), ?_⟩
  · omega
  · omega
 refine W_seq_exit (p32 _ _ _ (x1 _ _ (.done (W_r (R_mv t3 (R_mv (@rfl V (V.ms 3 v 0 ((sdW (l.take k)).length))) (R_e ?_)))))))
 refine W_ret ?_
 refine Ret_1 (@rfl V (V.ms 3 v 0 ((sdW (l.take k)).length))) (fz_ms h3 (by first | rfl | simp) (l := (sdW (l.take k))) rfl (by first | rfl | simp | omega) (fun _ => by simp) ?_)
 · rw [show k = l.length by omega, List.take_length]
theorem rdvalid_pure (t : Dt) (hb : Bd t) : PureC Tryz.prog 12 [(V.agg [(V.sl (List.map cN (t.nd)))])] (iV (dvE t)) := by
 refine pW Tryz.func12 s12_ok fun hB => ?_
 unfold s12
 dsimp only
 refine W_r (R_box (i := 1) (n := 0) (m := 1) (cs := [(V.sl (List.map cN (t.nd)))]) rfl (congrArg Blk.ver rfl) rfl rfl rfl (R_mv (@rfl V (iV (0 : Int))) (R_e (W_seq_seq (W_r (R_fld_mp (o' := 0) rfl rfl oB rfl (R_load_mp (v := (V.sl (List.map cN (t.nd)))) rfl rfl (lB oB rfl rfl) ?_)))))))
 refine R_len rfl (R_eql rfl rfl (R_e ?_))
 refine W_seq_if rfl (fun c1 => ?_) fun c1 => ?_
 ·
  refine W_seq_seq (W_r (R_mv (@rfl V (iV (19 : Int))) (R_e (W_seq_ret ?_))))
  refine Ret_1 (@rfl V (iV (19 : Int))) (fz_int ?_)
  · rw [dvE, if_pos (by omega)]
 refine W_seq_skip (W_seq_seq (W_r (R_fld_mp (o' := 0) rfl rfl oB rfl (R_load_mp (v := (V.sl (List.map cN (t.nd)))) rfl rfl (lB oB rfl rfl) (R_len rfl (R_gtr rfl rfl (R_e ?_)))))))
 refine W_seq_if rfl (fun c2 => ?_) fun c2 => ?_
 ·
  refine W_seq_seq (W_r (R_mv (@rfl V (iV (11 : Int))) (R_e (W_seq_ret ?_))))
  refine Ret_1 (@rfl V (iV (11 : Int))) (fz_int ?_)
  · rw [dvE, if_neg (by omega), if_pos (by omega)]
 refine W_seq_skip (W_seq_seq (W_r (R_mv (@rfl V (iV (0 : Int))) (R_e (W_seq_blockg fun Q3 n3 x3 y3 z3 => ?_)))))
 refine W_loop (fun mm T H => ∃ (k : Nat), mm = t.nd.length - k ∧ T 1 = (V.mp 1 1 0 0) ∧ T 3 = (iV ((k : Nat) : Int)) ∧ H 1 = (bk 1 24 1 [[(V.sl (List.map cN (t.nd)))]]) ∧ (k ≤ t.nd.length) ∧ (0 < t.nd.length) ∧ (t.nd.length ≤ 4096) ∧ (∀ j, j < k → ndE (nth t.nd j) t.nd.length = 0) ∧ (fe (fun k => ndE (nth t.nd k) t.nd.length) 0 t.nd.length = fe (fun k => ndE (nth t.nd k) t.nd.length) k (t.nd.length - k))) ?_ ?_
 ·
  refine ⟨_, 0, rfl, rfl, (Eq.trans (@rfl V (iV (0 : Int))) rfl), rfl, ?_, ?_, ?_, ?_, ?_⟩
  · omega
  · omega
  · omega
  · intro j hj; omega
  · rfl
 intro mm T H ⟨k, hmm, t1, t3, h1, hk, g0, g1, hp, hc⟩ Q4 p14 p24 p34
 unfold b12_0
 refine W_seq_seq (W_r (R_mv t3 (R_fld_mp (o' := 0) t1 h1 oB rfl (R_load_mp (v := (V.sl (List.map cN (t.nd)))) rfl h1 (lB oB rfl rfl) (R_len rfl (R_lss rfl rfl (R_e ?_)))))))
 refine W_seq_if rfl (fun c5 => ?_) fun c5 => ?_
 ·
  have r2 := hb.ou k (by omega)
  have r3 := hb.kd k (by omega)
  refine W_seq_skip (W_seq_blockg fun Q6 n6 x6 y6 z6 => (W_r (R_load_mp (v := (V.agg [(V.sl (List.map cN (t.nd)))])) t1 h1 (lB oB rfl rfl) (R_fld_mp (o' := 0) t1 h1 oB rfl (R_load_mp (v := (V.sl (List.map cN (t.nd)))) rfl h1 (lB oB rfl rfl) (R_mv t3 (R_idx (i := k) (@rfl V (V.sl (List.map cN (t.nd)))) (@rfl V (iV ((k : Nat) : Int))) (by omega) rfl ?_)))))))
  refine R_load_pp (v := (V.agg (cN (((nth (t.nd) (k))))))) rfl (by first | rfl | simp [ldV]) (R_callc (evcons rfl (evcons rfl evnil)) (rnode_pure t (((nth (t.nd) (k)))) (by first | omega | assumption) (by first | omega | assumption)) (R_mv (@rfl V (iV (ndE (((nth (t.nd) (k)))) t.nd.length))) (R_e (W_r (R_mv (@rfl V (iV (ndE (((nth (t.nd) (k)))) t.nd.length))) (R_neq rfl rfl (R_e ?_)))))))
  refine W_if rfl (fun c7 => ?_) fun c7 => ?_
  ·
   have d1 : ndE (nth t.nd k) t.nd.length ≠ 0 := c7
   refine W_r (R_mv (@rfl V (iV (ndE (((nth (t.nd) (k)))) t.nd.length))) (R_mv (@rfl V (iV (ndE (((nth (t.nd) (k)))) t.nd.length))) (R_e (W_ret (y6 _ _ (p24 _ _ (y3 _ _ ?_)))))))
   refine Ret_1 (@rfl V (iV (ndE (((nth (t.nd) (k)))) t.nd.length))) (fz_int ?_)
   · have e : fe (fun k => ndE (nth t.nd k) t.nd.length) 0 t.nd.length = ndE (nth t.nd k) t.nd.length := by rw [hc]; exact fe_hit (e := fun k => ndE (nth t.nd k) t.nd.length) d1 (by omega)
     rw [dvE, if_neg (by omega), if_neg (by omega), if_pos (by rw [e]; exact d1), e]
  have d1 : ndE (nth t.nd k) t.nd.length = 0 := by omega
  refine W_skip (n6 _ _ (.done (W_t (R_mv t3 (R_addN rfl (@rfl V (iV ((1 : Nat) : Int))) (by omega) (R_mv (@rfl V (iV ((k + 1 : Nat) : Int))) (R_e ?_)))))))
  refine p14 _ _ _ ?_ ⟨(k + 1), rfl, t1, (Eq.trans (@rfl V (iV ((k + 1 : Nat) : Int))) (by first | rfl | simp)), h1, ?_, ?_, ?_, ?_, ?_⟩
  · omega
  · omega
  · omega
  · omega
  · intro i hi
    by_cases e : i = k
    · subst e; exact d1
    · exact hp i (by omega)
  · rw [hc, fe_skip (e := fun k => ndE (nth t.nd k) t.nd.length) (by exact d1) (by omega)]
 have hall : ∀ j, j < t.nd.length → ndE (nth t.nd j) t.nd.length = 0 := fun j hj => hp j (by omega)
 have hki : KI t := nds_ki g0 hall
 have hz : fe (fun k => ndE (nth t.nd k) t.nd.length) 0 t.nd.length = 0 := by rw [hc, fe_end (by omega)]
 have haw : ∀ w ∈ acL t.nd, w.length ≤ 1048576 := ac_len hb
 have hal := acL_len t.nd
 refine W_seq_exit (p34 _ _ _ (x3 _ _ (.done (W_seq_seq (W_r (R_load_mp (v := (V.agg [(V.sl (List.map cN (t.nd)))])) t1 h1 (lB oB rfl rfl) (R_callc (evcons rfl evnil) (whole_pure t hki hb) ?_)))))))
 refine R_notb rfl (R_e ?_)
 refine W_seq_ifb rfl (fun c8 => ?_) (fun c8 => ?_)
 ·
  have d3 : whB t = false := by simpa using c8
  refine W_seq_seq (W_r (R_mv (@rfl V (iV (1 : Int))) (R_e (W_seq_ret ?_))))
  refine Ret_1 (@rfl V (iV (1 : Int))) (fz_int ?_)
  · rw [dvE, if_neg (by omega), if_neg (by omega), if_neg (by rw [hz]; simp), if_pos d3]
 have d3 : whB t = true := by simpa using c8
 refine W_seq_skip (W_r (R_load_mp (v := (V.agg [(V.sl (List.map cN (t.nd)))])) t1 h1 (lB oB rfl rfl) (R_callc (evcons rfl evnil) (raccess_pure t hb) (R_mv (@rfl V (intss (acL t.nd))) (R_e (W_seq_seq (W_r ?_)))))))
 refine R_mv (@rfl V (intss (acL t.nd))) (R_callc (evcons rfl evnil) (rsorted_pure (acL t.nd) (by first | omega | assumption) haw) (R_len rfl (R_mv (@rfl V (intss (acL t.nd))) (R_len rfl (R_neq rfl rfl (R_e ?_))))))
 refine W_seq_if rfl (fun c9 => ?_) fun c9 => ?_
 ·
  refine W_seq_seq (W_r (R_mv (@rfl V (iV (7 : Int))) (R_e (W_seq_ret ?_))))
  refine Ret_1 (@rfl V (iV (7 : Int))) (fz_int ?_)
  · rw [dvE, if_neg (by omega), if_neg (by omega), if_neg (by rw [hz]; simp), if_neg (by simp [d3]), if_pos (by omega)]
 refine W_seq_skip (W_r (R_mv (@rfl V (iV (0 : Int))) (R_e (W_ret ?_))))
 refine Ret_1 (@rfl V (iV (0 : Int))) (fz_int ?_)
 · rw [dvE, if_neg (by omega), if_neg (by omega), if_neg (by rw [hz]; simp), if_neg (by simp [d3]), if_neg (by omega)]
def r60_1 : List SO := [
 sO 7 (.mv (.t 1)),
 sO 8 (.bin .lss (.t 7) (.c (.int .i64 0))),
 sO 9 (.mv (.t 8)),
 ⟨some (9, false), some 10, .mv (.t 1)⟩,
 ⟨some (9, false), some 11, .fld 0 (.t 3)⟩,
 ⟨some (9, false), some 12, .load false 1 (.t 11)⟩,
 ⟨some (9, false), some 13, .len (.t 12)⟩,
 ⟨some (9, false), some 14, .bin .geq (.t 10) (.t 13)⟩,
 sO 15 (.pick (.t 9) (.c (.bool true)) (.t 14))]
def r60_3 : List SO := [
 sO 16 (.fld 0 (.t 3)),
 sO 17 (.load false 1 (.t 16)),
 sO 18 (.mv (.t 1)),
 sO 19 (.idx 5 (.t 17) (.t 18)),
 sO 20 (.fld 0 (.t 19)),
 sO 21 (.load false 1 (.t 20)),
 sO 22 (.mv (.t 2)),
 sO 23 (.bbin .neq (.t 21) (.t 22))]
def s60 : SF := ⟨24, [.tmp 6], .seq (.reg [sO 3 (.box 24 1 (.t 0)), sO 6 (.mv (.c (.int .i64 0)))]) (.seq (.seq (.reg r60_1) (.cond (.t 15) (.seq (.reg [sO 6 (.mv (.c (.int .i64 2)))]) (.ret)) (.skip))) (.seq (.seq (.reg r60_3) (.cond (.t 23) (.seq (.reg [sO 6 (.mv (.c (.int .i64 10)))]) (.ret)) (.skip))) (.seq (.reg [sO 6 (.mv (.c (.int .i64 0)))]) (.ret))))⟩
theorem s60_ok : slimF Tryz.prog ⟨[57, 58, 59, 63, 67, 68, 77, 102, 103, 104, 110, 116, 120], []⟩ Tryz.f60 = some s60 := by kernel_rfl
theorem rkind_pure (t : Dt) (n : Int) (b : Bool) : PureC Tryz.prog 60 [(V.agg [(V.sl (List.map cN (t.nd)))]), (iV (n)), (V.bool b)] (iV (noE t n b)) := by
 refine pW Tryz.func60 s60_ok fun hB => ?_
 unfold s60
 dsimp only
 refine W_r (R_box (i := 3) (n := 0) (m := 1) (cs := [(V.sl (List.map cN (t.nd)))]) rfl (congrArg Blk.ver rfl) rfl rfl rfl (R_mv (@rfl V (iV (0 : Int))) (R_e (W_seq_seq (W_r (R_mv (@rfl V (iV (n))) (R_lss rfl rfl ?_)))))))
 refine R_mv (@rfl V (V.bool (decide ((n) < (0 : Int))))) ?_
 refine Ops_seg 6 (fun T H => T 1 = (iV (n)) ∧ T 2 = (V.bool b) ∧ T 3 = (V.mp 3 1 0 0) ∧ T 15 = (V.bool (decide (((n) < (0 : Int)) ∨ (((t.nd.length : Nat) : Int) ≤ (n))))) ∧ H 3 = (bk 1 24 1 [[(V.sl (List.map cN (t.nd)))]]) ∧ True) ?_ ?_
 ·
  by_cases g1 : (n) < (0 : Int)
  ·
   refine G_n (edT g1 rfl) (G_n (edT g1 rfl) (G_n (edT g1 rfl) (G_n (edT g1 rfl) (G_n (edT g1 rfl) (R_pickT (edT g1 rfl) rfl ?_)))))
   exact ⟨rfl, rfl, rfl, (dec_orT g1), rfl, trivial⟩
  ·
   refine G_yes (edF g1 rfl) (R_mv (@rfl V (iV (n))) (G_yes (edF g1 rfl) (R_fld_mp (o' := 0) rfl rfl oB rfl (G_yes (edF g1 rfl) (R_load_mp (v := (V.sl (List.map cN (t.nd)))) rfl rfl (lB oB rfl rfl) (G_yes (edF g1 rfl) (R_len rfl ?_)))))))
   refine G_yes (edF g1 rfl) (R_geq rfl rfl (R_pickF (edF g1 rfl) rfl ?_))
   exact ⟨rfl, rfl, rfl, (dec_orF g1), rfl, trivial⟩
 intro T H ⟨t1, t2, t3, t15, h3, _⟩
 refine R_e ?_
 refine W_seq_if t15 (fun c2 => ?_) fun c2 => ?_
 ·
  refine W_seq_seq (W_r (R_mv (@rfl V (iV (2 : Int))) (R_e (W_seq_ret ?_))))
  refine Ret_1 (@rfl V (iV (2 : Int))) (fz_int ?_)
  · rw [noE, if_pos (by omega)]
 refine W_seq_skip (W_seq_seq (W_r (R_fld_mp (o' := 0) t3 h3 oB rfl (R_load_mp (v := (V.sl (List.map cN (t.nd)))) rfl h3 (lB oB rfl rfl) (R_mv t1 (R_idxI (i := (n)) (@rfl V (V.sl (List.map cN (t.nd)))) (@rfl V (iV (n))) (by omega) (by omega) rfl (R_fld_pp (cs' := (cN (((nth (t.nd) (n).toNat))))) rfl rfl ?_)))))))
 refine R_load_pp (v := (V.bool (((nth (t.nd) (n).toNat)).lf))) rfl (by first | rfl | simp [ldV]) (R_mv t2 (R_bneq (x := (((nth (t.nd) (n).toNat)).lf)) (y := b) rfl rfl (R_e ?_)))
 refine W_seq_ifb rfl (fun c3 => ?_) (fun c3 => ?_)
 ·
  have d1 : (nth t.nd n.toNat).lf ≠ b := by simpa using c3
  refine W_seq_seq (W_r (R_mv (@rfl V (iV (10 : Int))) (R_e (W_seq_ret ?_))))
  refine Ret_1 (@rfl V (iV (10 : Int))) (fz_int ?_)
  · rw [noE, if_neg (by omega), if_pos d1]
 have d1 : ¬((nth t.nd n.toNat).lf ≠ b) := by simpa using c3
 refine W_seq_skip (W_r (R_mv (@rfl V (iV (0 : Int))) (R_e (W_ret ?_))))
 refine Ret_1 (@rfl V (iV (0 : Int))) (fz_int ?_)
 · rw [noE, if_neg (by omega), if_neg d1]
def s62 : SF := ⟨15, [.tmp 4], .seq (.reg [sO 2 (.box 24 1 (.t 0)), sO 4 (.mv (.c (.int .i64 0)))]) (.seq (.seq (.reg [sO 6 (.mv (.t 1)), sO 7 (.call false 44 [.t 6, .c (.int .i64 64)]), sO 5 (.mv (.t 7))]) (.seq (.reg [sO 8 (.mv (.t 5)), sO 9 (.bin .neq (.t 8) (.c (.int .i64 0)))]) (.cond (.t 9) (.seq (.reg [sO 10 (.mv (.t 5)), sO 4 (.mv (.t 10))]) (.ret)) (.skip)))) (.seq (.seq (.reg [sO 11 (.load true 1 (.t 2)), sO 12 (.call false 41 [.t 11]), sO 13 (.mv (.t 1)), sO 14 (.call false 95 [.t 12, .t 13])]) (.cond (.t 14) (.seq (.reg [sO 4 (.mv (.c (.int .i64 7)))]) (.ret)) (.skip))) (.seq (.reg [sO 4 (.mv (.c (.int .i64 0)))]) (.ret))))⟩
theorem s62_ok : slimF Tryz.prog ⟨[57, 58, 59, 63, 67, 68, 77, 102, 103, 104, 110, 116, 120], []⟩ Tryz.f62 = some s62 := by kernel_rfl
def b95_0 : SC := .seq (.seq (.reg [sO 6 (.mv (.t 5)), sO 7 (.mv (.t 0)), sO 8 (.len (.t 7)), sO 9 (.bin .lss (.t 6) (.t 8))]) (.cond (.t 9) (.skip) (.exit 0))) (.seq (.block 1 (.seq (.reg [sO 12 (.mv (.t 0)), sO 13 (.mv (.t 5)), sO 14 (.idx 1 (.t 12) (.t 13)), sO 15 (.load false 1 (.t 14)), sO 16 (.mv (.t 1)), sO 17 (.call false 22 [.t 15, .t 16])]) (.cond (.t 17) (.seq (.reg [sO 4 (.mv (.c (.bool true)))]) (.ret)) (.skip)))) (.reg [sO 10 (.mv (.t 5)), sO 11 (.bin .add (.t 10) (.c (.int .i64 1))), sO 5 (.mv (.t 11))]))
def s95 : SF := ⟨18, [.tmp 4], .seq (.reg [sO 4 (.mv (.c (.bool false)))]) (.seq (.seq (.reg [sO 5 (.mv (.c (.int .i64 0)))]) (.block 0 (.loop b95_0))) (.seq (.reg [sO 4 (.mv (.c (.bool false)))]) (.ret)))⟩
theorem s95_ok : slimF Tryz.prog ⟨[57, 58, 59, 63, 67, 68, 77, 102, 103, 104, 110, 116, 120], []⟩ Tryz.f95 = some s95 := by kernel_rfl
theorem rhas_pure (l : List (List Int)) (w : List Int) : PureC Tryz.prog 95 [(intss l), (ints w)] (V.bool (decide (w ∈ l))) := by
 refine pW Tryz.func95 s95_ok fun hB => ?_
 unfold s95
 dsimp only
 refine W_r (R_mv (@rfl V (V.bool false)) (R_e (W_seq_seq (W_r (R_mv (@rfl V (iV (0 : Int))) (R_e (W_seq_blockg fun Q1 n1 x1 y1 z1 => ?_)))))))
 refine W_loop (fun mm T H => ∃ (k : Nat), mm = l.length - k ∧ T 0 = (intss l) ∧ T 1 = (ints w) ∧ T 5 = (iV ((k : Nat) : Int)) ∧ (k ≤ l.length) ∧ (∀ j, j < k → nth l j ≠ w)) ?_ ?_
 ·
  refine ⟨_, 0, rfl, rfl, rfl, (Eq.trans (@rfl V (iV (0 : Int))) rfl), ?_, ?_⟩
  · omega
  · intro j hj; omega
 intro mm T H ⟨k, hmm, t0, t1, t5, hk, hc⟩ Q2 p12 p22 p32
 unfold b95_0
 refine W_seq_seq (W_r (R_mv t5 (R_mv t0 (R_len rfl (R_lss rfl rfl (R_e ?_))))))
 refine W_seq_if rfl (fun c3 => ?_) fun c3 => ?_
 ·
  refine W_seq_skip (W_seq_blockg fun Q4 n4 x4 y4 z4 => (W_r (R_mv t0 (R_mv t5 (R_idx (i := k) (@rfl V (intss l)) (@rfl V (iV ((k : Nat) : Int))) (by omega) rfl (R_load_pp (v := (ints ((nth (l) (k))))) rfl (by first | rfl | simp [ldV]) (R_mv t1 ?_)))))))
  refine R_callc (evcons rfl (evcons rfl evnil)) (rsame1_pure ((nth (l) (k))) w) (R_e ?_)
  refine W_if rfl (fun c5 => ?_) fun c5 => ?_
  ·
   have d1 := c5
   refine W_r (R_mv (@rfl V (V.bool true)) (R_e (W_ret (y4 _ _ (p22 _ _ (y1 _ _ ?_))))))
   refine Ret_1 (@rfl V (V.bool true)) (fz_bool ?_)
   · exact (decide_eq_true (d1 ▸ nth_mem (by omega))).symm
  have d1 := c5
  refine W_skip (n4 _ _ (.done (W_t (R_mv t5 (R_addN rfl (@rfl V (iV ((1 : Nat) : Int))) (by omega) (R_mv (@rfl V (iV ((k + 1 : Nat) : Int))) (R_e ?_)))))))
  refine p12 _ _ _ ?_ ⟨(k + 1), rfl, t0, t1, (Eq.trans (@rfl V (iV ((k + 1 : Nat) : Int))) (by first | rfl | simp)), ?_, ?_⟩
  · omega
  · omega
  · intro j hj
    by_cases e : j = k
    · subst e; exact d1
    · exact hc j (by omega)
 refine W_seq_exit (p32 _ _ _ (x1 _ _ (.done (W_r (R_mv (@rfl V (V.bool false)) (R_e (W_ret ?_)))))))
 refine Ret_1 (@rfl V (V.bool false)) (fz_bool ?_)
 · exact (decide_eq_false (fun e => by obtain ⟨j, hj, q⟩ := in_nth e; exact hc j (by omega) q)).symm
theorem rfresh_pure (t : Dt) (w : List Int) (hb : Bd t) : PureC Tryz.prog 62 [(V.agg [(V.sl (List.map cN (t.nd)))]), (ints w)] (iV (fsE t w)) := by
 refine pW Tryz.func62 s62_ok fun hB => ?_
 unfold s62
 dsimp only
 refine W_r (R_box (i := 2) (n := 0) (m := 1) (cs := [(V.sl (List.map cN (t.nd)))]) rfl (congrArg Blk.ver rfl) rfl rfl rfl (R_mv (@rfl V (iV (0 : Int))) (R_e (W_seq_seq (W_r (R_mv (@rfl V (ints w)) (R_callc (evcons rfl (evcons rfl evnil)) (rcheck_pure w ((64 : Int))) ?_)))))))
 refine R_mv (@rfl V (iV (wchk w ((64 : Int))))) (R_e (W_seq_seq (W_r (R_mv (@rfl V (iV (wchk w ((64 : Int))))) (R_neq rfl rfl (R_e ?_))))))
 refine W_seq_if rfl (fun c1 => ?_) fun c1 => ?_
 ·
  refine W_seq_seq (W_r (R_mv (@rfl V (iV (wchk w ((64 : Int))))) (R_mv (@rfl V (iV (wchk w ((64 : Int))))) (R_e (W_seq_ret ?_)))))
  refine Ret_1 (@rfl V (iV (wchk w ((64 : Int))))) (fz_int ?_)
  · rw [fsE, if_pos (by omega)]
 refine W_seq_skip (W_seq_seq (W_r (R_load_mp (v := (V.agg [(V.sl (List.map cN (t.nd)))])) rfl rfl (lB oB rfl rfl) (R_callc (evcons rfl evnil) (raccess_pure t hb) (R_mv (@rfl V (ints w)) (R_callc (evcons rfl (evcons rfl evnil)) (rhas_pure (acL t.nd) w) (R_e ?_)))))))
 refine W_seq_if rfl (fun c2 => ?_) fun c2 => ?_
 ·
  have d1 : w ∈ acL t.nd := by simpa using c2
  refine W_seq_seq (W_r (R_mv (@rfl V (iV (7 : Int))) (R_e (W_seq_ret ?_))))
  refine Ret_1 (@rfl V (iV (7 : Int))) (fz_int ?_)
  · rw [fsE, if_neg (by omega), if_pos d1]
 have d1 : ¬(w ∈ acL t.nd) := by simpa using c2
 refine W_seq_skip (W_r (R_mv (@rfl V (iV (0 : Int))) (R_e (W_ret ?_))))
 refine Ret_1 (@rfl V (iV (0 : Int))) (fz_int ?_)
 · rw [fsE, if_neg (by omega), if_neg d1]
def r63_5 : List SO := [
 sO 15 (.fld 0 (.t 1)),
 sO 16 (.load false 1 (.t 15)),
 sO 17 (.mv (.t 4)),
 sO 18 (.idx 5 (.t 16) (.t 17)),
 sO 19 (.load true 5 (.t 18)),
 sO 5 (.alloc 68 [.bool false, .nilsl, .nilsl, .nilsl, .nilsl]),
 sN (.store 5 (.t 5) (.t 19))]
def r63_6 : List SO := [
 sO 20 (.fld 0 (.t 5)),
 sO 21 (.load false 1 (.t 20)),
 sO 22 (.fld 1 (.t 5)),
 sO 23 (.load false 1 (.t 22)),
 sO 24 (.bslice 38 1 false [.nilsl] 1 [(0, .t 23)]),
 sO 25 (.call false 31 [.t 24]),
 sO 26 (.fld 2 (.t 5)),
 sO 27 (.load false 1 (.t 26)),
 sO 28 (.bslice 38 1 false [.nilsl] 1 [(0, .t 27)]),
 sO 29 (.call false 31 [.t 28]),
 sO 30 (.fld 4 (.t 5)),
 sO 31 (.load false 1 (.t 30)),
 sO 32 (.bslice 38 1 false [.nilsl] 1 [(0, .t 31)]),
 sO 33 (.call false 31 [.t 32]),
 sO 34 (.build [.bool false, .nilsl, .nilsl, .nilsl, .nilsl] [(0, 1, .t 21), (1, 1, .t 25), (2, 1, .t 29), (4, 1, .t 33)]),
 sO 6 (.alloc 68 [.bool false, .nilsl, .nilsl, .nilsl, .nilsl]),
 sN (.store 5 (.t 6) (.t 34))]
def r63_10 : List SO := [
 sO 42 (.fld 3 (.t 6)),
 sO 43 (.load false 1 (.t 42)),
 sO 44 (.fld 3 (.t 5)),
 sO 45 (.load false 1 (.t 44)),
 sO 46 (.mv (.t 7)),
 sO 47 (.idx 1 (.t 45) (.t 46)),
 sO 48 (.load false 1 (.t 47)),
 sO 49 (.bslice 38 1 false [.nilsl] 1 [(0, .t 48)]),
 sO 50 (.call false 31 [.t 49]),
 sO 51 (.bslice 38 1 false [.nilsl] 1 [(0, .t 50)]),
 sO 52 (.append 38 1 24 (.t 43) (.t 51)),
 sO 53 (.fld 3 (.t 6)),
 sN (.store 1 (.t 53) (.t 52))]
def b63_1 : SC := .seq (.seq (.reg [sO 35 (.mv (.t 7)), sO 36 (.fld 3 (.t 5)), sO 37 (.load false 1 (.t 36)), sO 38 (.len (.t 37)), sO 39 (.bin .lss (.t 35) (.t 38))]) (.cond (.t 39) (.skip) (.exit 2))) (.seq (.block 3 (.reg r63_10)) (.reg [sO 40 (.mv (.t 7)), sO 41 (.bin .add (.t 40) (.c (.int .i64 1))), sO 7 (.mv (.t 41))]))
def r63_11 : List SO := [
 sO 54 (.fld 0 (.t 3)),
 sO 55 (.load false 1 (.t 54)),
 sO 56 (.load true 5 (.t 6)),
 sO 57 (.bslice 68 5 false [.bool false, .nilsl, .nilsl, .nilsl, .nilsl] 1 [(0, .t 56)]),
 sO 58 (.append 68 5 104 (.t 55) (.t 57)),
 sO 59 (.fld 0 (.t 3)),
 sN (.store 1 (.t 59) (.t 58))]
def b63_0 : SC := .seq (.seq (.reg [sO 8 (.mv (.t 4)), sO 9 (.fld 0 (.t 1)), sO 10 (.load false 1 (.t 9)), sO 11 (.len (.t 10)), sO 12 (.bin .lss (.t 8) (.t 11))]) (.cond (.t 12) (.skip) (.exit 0))) (.seq (.block 1 (.seq (.reg r63_5) (.seq (.dreg [6] r63_6) (.seq (.seq (.reg [sO 7 (.mv (.c (.int .i64 0)))]) (.block 2 (.loop b63_1))) (.reg r63_11))))) (.reg [sO 13 (.mv (.t 4)), sO 14 (.bin .add (.t 13) (.c (.int .i64 1))), sO 4 (.mv (.t 14))]))
def s63 : SF := ⟨61, [.cell 2 true 1], .seq (.reg [sO 1 (.box 24 1 (.t 0)), sO 2 (.alloc 24 [.nilsl])]) (.seq (.reg [sO 3 (.alloc 24 [.nilsl])]) (.seq (.seq (.reg [sO 4 (.mv (.c (.int .i64 0)))]) (.block 0 (.loop b63_0))) (.seq (.reg [sO 60 (.load true 1 (.t 3)), sN (.store 1 (.t 2) (.t 60))]) (.ret))))⟩
theorem s63_ok : slimF Tryz.prog ⟨[57, 58, 59, 63, 67, 68, 77, 102, 103, 104, 110, 116, 120], []⟩ Tryz.f63 = some s63 := by kernel_rfl
theorem rcopied_E (t : Dt) (u1 u2 u3 u5 u6 u53 u63 : Nat) (Hi : Heap) (hb : Bd t) (h301 : (Hi 301).ver = u1) (h302 : (Hi 302).ver = u2) (h303 : (Hi 303).ver = u3) (h305 : (Hi 305).ver = u5) (h306 : (Hi 306).ver = u6 ∧ (Hi 306).live = false) (h353 : (Hi 353).ver = u53) (h363 : (Hi 363).ver = u63) : CallOK Tryz.prog 63 [(V.agg [(V.sl (List.map cN (t.nd)))])] Hi (V.agg [(V.ms 353 (u53 + 1 + t.nd.length) 0 (t.nd.length))]) (upd (upd (upd (upd (upd (upd (upd Hi 301 (⟨u1 + 1, false, false, 0, 0, []⟩ : Blk)) 302 (⟨u2 + 1, false, false, 0, 0, []⟩ : Blk)) 303 (⟨u3 + 1, false, false, 0, 0, []⟩ : Blk)) 305 (⟨u5 + t.nd.length, false, false, 0, 0, []⟩ : Blk)) 306 (⟨u6 + t.nd.length, false, false, 0, 0, []⟩ : Blk)) 363 (⟨u63 + t.nd.length * 1048579, false, false, 0, 0, []⟩ : Blk)) 353 (bz (u53 + 1 + t.nd.length) 68 5 (List.map cN (t.nd)))) := by
 refine eW (k0 := 300) Tryz.func63 s63_ok fun hB => ?_
 have hbn := hb.n
 unfold s63
 dsimp only
 refine W_r (R_box (i := 301) (n := u1) (m := 1) (cs := [(V.sl (List.map cN (t.nd)))]) (by rfl) h301 rfl rfl rfl (R_alloc (i := 302) (n := u2) (m := 1) (by rfl) h302 rfl (R_e (W_r (R_alloc (i := 303) (n := u3) (m := 1) (by rfl) h303 rfl (R_e (W_seq_seq ?_)))))))
 refine W_seq_g (fun T H => T 1 = (V.mp 301 (u1 + 1) 0 0) ∧ T 2 = (V.mp 302 (u2 + 1) 0 0) ∧ T 3 = (V.mp 303 (u3 + 1) 0 0) ∧ T 4 = (iV (0 : Int)) ∧ (∀ j, j ∉ [301, 302, 303, 305, 306, 363, 353] → H j = Hi j) ∧ H 301 = (bk (u1 + 1) 24 1 [[(V.sl (List.map cN (t.nd)))]]) ∧ H 302 = (bk (u2 + 1) 24 1 [[V.nilsl]]) ∧ H 303 = (bk (u3 + 1) 24 1 [[V.nilsl]]) ∧ (H 305).ver = u5 ∧ ((H 306).ver = u6 ∧ (H 306).live = false) ∧ (H 353).ver = u53 ∧ (H 363).ver = u63 ∧ True) ?_ ?_
 ·
  refine R_mv (@rfl V (iV (0 : Int))) ?_
  exact R_nil ⟨rfl, rfl, rfl, rfl, (upd_out (upd_out (upd_out (fun _ _ => rfl) (by decide)) (by decide)) (by decide)), rfl, rfl, rfl, h305, h306, h353, h363, trivial⟩
 intro T H ⟨t1, t2, t3, t4, hF, h301, h302, h303, h305, h306, h353, h363, _⟩
 refine .lazyCell 353 68 5 303 0 0 [V.nilsl] (by decide) (by rw [h303]; rfl) (by rw [h303]; rfl) rfl (.done ?_)
 refine fork_ (R := fun T H => T 1 = (V.mp 301 (u1 + 1) 0 0) ∧ T 2 = (V.mp 302 (u2 + 1) 0 0) ∧ T 3 = (V.mp 303 (u3 + 1) 0 0) ∧ T 4 = (iV (0 : Int)) ∧ (∀ j, j ∉ [301, 302, 303, 305, 306, 363, 353] → H j = Hi j) ∧ H 301 = (bk (u1 + 1) 24 1 [[(V.sl (List.map cN (t.nd)))]]) ∧ H 302 = (bk (u2 + 1) 24 1 [[V.nilsl]]) ∧ H 303 = (bk (u3 + 1) 24 1 [[(V.ms 353 (u53 + 1) 0 (0))]]) ∧ (H 305).ver = u5 ∧ ((H 306).ver = u6 ∧ (H 306).live = false) ∧ H 353 = (bz (u53 + 1) 68 5 []) ∧ (H 363).ver = u63 ∧ True) ⟨t1, t2, t3, t4, (upd_out (upd_out hF (by decide)) (by decide)), ((upd_ne _ _ (by decide)).trans ((upd_ne _ _ (by decide)).trans h301)), ((upd_ne _ _ (by decide)).trans ((upd_ne _ _ (by decide)).trans h302)), (by rw [upd_same, h303, h353]; rfl), ((congrArg Blk.ver ((upd_ne _ _ (by decide)).trans (upd_ne _ _ (by decide)))).trans h305), ⟨(congrArg Blk.ver ((upd_ne _ _ (by decide)).trans (upd_ne _ _ (by decide)))).trans (h306).1, (congrArg Blk.live ((upd_ne _ _ (by decide)).trans (upd_ne _ _ (by decide)))).trans (h306).2⟩, (by rw [upd_ne _ _ (by decide), upd_same, h353]), ((congrArg Blk.ver ((upd_ne _ _ (by decide)).trans (upd_ne _ _ (by decide)))).trans h363), trivial⟩ ?_
 intro T H ⟨t1, t2, t3, t4, hF, h301, h302, h303, h305, h306, h353, h363, _⟩
 refine W_seq_blockg fun Q1 n1 x1 y1 z1 => ?_
 refine W_loop (fun mm T H => ∃ (k : Nat) (v363 : Nat) (v305 : Nat) (v306 : Nat), mm = t.nd.length - k ∧ T 1 = (V.mp 301 (u1 + 1) 0 0) ∧ T 2 = (V.mp 302 (u2 + 1) 0 0) ∧ T 3 = (V.mp 303 (u3 + 1) 0 0) ∧ T 4 = (iV ((k : Nat) : Int)) ∧ (∀ j, j ∉ [301, 302, 303, 305, 306, 363, 353] → H j = Hi j) ∧ H 301 = (bk (u1 + 1) 24 1 [[(V.sl (List.map cN (t.nd)))]]) ∧ H 302 = (bk (u2 + 1) 24 1 [[V.nilsl]]) ∧ H 303 = (bk (u3 + 1) 24 1 [[(V.ms 353 (u53 + 1 + k) 0 (k))]]) ∧ (H 305).ver = v305 ∧ ((H 306).ver = v306 ∧ (H 306).live = false) ∧ H 353 = (bz (u53 + 1 + k) 68 5 (List.map cN (t.nd.take k))) ∧ (H 363).ver = v363 ∧ (k ≤ t.nd.length) ∧ (v305 = u5 + k) ∧ (v306 = u6 + k) ∧ (v363 ≤ u63 + k * 1048579)) ?_ ?_
 ·
  refine ⟨_, 0, u63, u5, u6, rfl, t1, t2, t3, (Eq.trans t4 rfl), hF, h301, h302, (Eq.trans h303 (by first | rfl | (rw [hkn, List.take_length]; done) | (rw [map_cat1 (show j < (nth t.nd k).ou.length by omega)]; done) | (rw [cp_nd2 (show (nth t.nd k).ou.length ≤ j by omega), ← take_succ_nth (show k < t.nd.length by omega)]; done) | (rw [cp_nd2 (show (nth t.nd k).ou.length ≤ j by omega), ← take_succ_nth (show k < t.nd.length by omega)]; rfl) | (rw [← map_cat1 (show j < (nth t.nd k).ou.length by omega)]; simp; done) | (rw [take_succ_nth (show k < t.nd.length by omega)]; simp; done) | simp)), h305, h306, (Eq.trans h353 (by first | rfl | (rw [hkn, List.take_length]; done) | (rw [map_cat1 (show j < (nth t.nd k).ou.length by omega)]; done) | (rw [cp_nd2 (show (nth t.nd k).ou.length ≤ j by omega), ← take_succ_nth (show k < t.nd.length by omega)]; done) | (rw [cp_nd2 (show (nth t.nd k).ou.length ≤ j by omega), ← take_succ_nth (show k < t.nd.length by omega)]; rfl) | (rw [← map_cat1 (show j < (nth t.nd k).ou.length by omega)]; simp; done) | (rw [take_succ_nth (show k < t.nd.length by omega)]; simp; done) | simp)), h363, ?_, ?_, ?_, ?_⟩
  · omega
  · omega
  · omega
  · omega
 intro mm T H ⟨k, v363, v305, v306, hmm, t1, t2, t3, t4, hF, h301, h302, h303, h305, h306, h353, h363, hk, hv5, hv6, hv63⟩ Q2 p12 p22 p32
 unfold b63_0
 have q0 : (t.nd.take k).length = k := by rw [List.length_take]; omega
 refine W_seq_seq (W_r (R_mv t4 (R_fld_mp (o' := 0) t1 h301 oB rfl (R_load_mp (v := (V.sl (List.map cN (t.nd)))) rfl h301 (lB oB rfl rfl) (R_len rfl (R_lss rfl rfl (R_e ?_)))))))
 refine W_seq_if rfl (fun c3 => ?_) fun c3 => ?_
 ·
  have r1 := hb.ac k (by omega)
  have r2 := hb.sf k (by omega)
  have r3 := hb.ou k (by omega)
  have r4 := hb.kd k (by omega)
  have r5 := hb.ol k (by omega)
  refine W_seq_skip (W_seq_blockg fun Q4 n4 x4 y4 z4 => (W_r (R_fld_mp (o' := 0) t1 h301 oB rfl (R_load_mp (v := (V.sl (List.map cN (t.nd)))) rfl h301 (lB oB rfl rfl) (R_mv t4 (R_idx (i := k) (@rfl V (V.sl (List.map cN (t.nd)))) (@rfl V (iV ((k : Nat) : Int))) (by first | omega | (simp; omega) | (simp; done)) rfl (R_load_pp (v := (V.agg (cN (((nth (t.nd) (k))))))) rfl (by first | rfl | simp [ldV]) ?_)))))))
  refine R_alloc (i := 305) (n := v305) (m := 5) (by rfl) h305 rfl (R_store (vs := [(V.bool (((nth (t.nd) (k))).lf)), (ints (((nth (t.nd) (k))).ac)), (ints (((nth (t.nd) (k))).sf)), (intss (((nth (t.nd) (k))).ou)), (ints (((nth (t.nd) (k))).kd))]) (B' := (bk (v305 + 1) 68 5 [(cN (((nth (t.nd) (k)))))])) rfl rfl rfl rfl (sB oB rfl rfl rfl rfl rfl) (R_e (W_d (by exact (lateC (h306).2 lateN)) (R_fld_mp (o' := 0) rfl rfl oB rfl (R_load_mp (v := (V.bool (((nth (t.nd) (k))).lf))) rfl rfl (lB oB rfl rfl) (R_fld_mp (o' := 1) rfl rfl oB rfl (R_load_mp (v := (ints (((nth (t.nd) (k))).ac))) rfl rfl (lB oB rfl rfl) ?_)))))))
  refine R_bslice (qs := [(0, (ints (((nth (t.nd) (k))).ac)))]) (rows := [[(ints (((nth (t.nd) (k))).ac))]]) (mcons (congrArg (fun v => (0, v)) rfl) rfl) rfl (R_callc (evcons rfl evnil) (join_pure ([((nth (t.nd) (k))).ac]) (by simp only [cat, List.append_nil]; omega)) (R_fld_mp (o' := 2) rfl rfl oB rfl (R_load_mp (v := (ints (((nth (t.nd) (k))).sf))) rfl rfl (lB oB rfl rfl) (R_bslice (qs := [(0, (ints (((nth (t.nd) (k))).sf)))]) (rows := [[(ints (((nth (t.nd) (k))).sf))]]) (mcons (congrArg (fun v => (0, v)) rfl) rfl) rfl (R_callc (evcons rfl evnil) (join_pure ([((nth (t.nd) (k))).sf]) (by simp only [cat, List.append_nil]; omega)) (R_fld_mp (o' := 4) rfl rfl oB rfl (R_load_mp (v := (ints (((nth (t.nd) (k))).kd))) rfl rfl (lB oB rfl rfl) ?_)))))))
  refine R_bslice (qs := [(0, (ints (((nth (t.nd) (k))).kd)))]) (rows := [[(ints (((nth (t.nd) (k))).kd))]]) (mcons (congrArg (fun v => (0, v)) rfl) rfl) rfl (R_callc (evcons rfl evnil) (join_pure ([((nth (t.nd) (k))).kd]) (by simp only [cat, List.append_nil]; omega)) (R_build (qs := [(0, 1, (V.bool (((nth (t.nd) (k))).lf))), (1, 1, (ints (cat ([((nth (t.nd) (k))).ac])))), (2, 1, (ints (cat ([((nth (t.nd) (k))).sf])))), (4, 1, (ints (cat ([((nth (t.nd) (k))).kd]))))]) (cs := [(V.bool (((nth (t.nd) (k))).lf)), (ints (cat ([((nth (t.nd) (k))).ac]))), (ints (cat ([((nth (t.nd) (k))).sf]))), V.nilsl, (ints (cat ([((nth (t.nd) (k))).kd])))]) (mcons (congrArg (fun v => (0, 1, v)) rfl) (mcons (congrArg (fun v => (1, 1, v)) rfl) (mcons (congrArg (fun v => (2, 1, v)) rfl) (mcons (congrArg (fun v => (4, 1, v)) rfl) rfl)))) rfl (R_alloc (i := 306) (n := v306) (m := 5) (by rfl) (h306).1 rfl (R_store (vs := [(V.bool (((nth (t.nd) (k))).lf)), (ints (cat ([((nth (t.nd) (k))).ac]))), (ints (cat ([((nth (t.nd) (k))).sf]))), V.nilsl, (ints (cat ([((nth (t.nd) (k))).kd])))]) (B' := (bk (v306 + 1) 68 5 [[(V.bool (((nth (t.nd) (k))).lf)), (ints (cat ([((nth (t.nd) (k))).ac]))), (ints (cat ([((nth (t.nd) (k))).sf]))), V.nilsl, (ints (cat ([((nth (t.nd) (k))).kd])))]])) rfl rfl rfl rfl (sB oB rfl rfl rfl rfl rfl) (R_e (W_seq_seq ?_))))))
  refine W_seq_g (fun T H => T 1 = (V.mp 301 (u1 + 1) 0 0) ∧ T 2 = (V.mp 302 (u2 + 1) 0 0) ∧ T 3 = (V.mp 303 (u3 + 1) 0 0) ∧ T 4 = (iV ((k : Nat) : Int)) ∧ T 5 = (V.mp 305 (v305 + 1) 0 0) ∧ T 6 = (V.mp 306 (v306 + 1) 0 0) ∧ T 7 = (iV (0 : Int)) ∧ (∀ j, j ∉ [301, 302, 303, 305, 306, 363, 353] → H j = Hi j) ∧ H 301 = (bk (u1 + 1) 24 1 [[(V.sl (List.map cN (t.nd)))]]) ∧ H 302 = (bk (u2 + 1) 24 1 [[V.nilsl]]) ∧ H 303 = (bk (u3 + 1) 24 1 [[(V.ms 353 (u53 + 1 + k) 0 (k))]]) ∧ H 305 = (bk (v305 + 1) 68 5 [(cN (((nth (t.nd) (k)))))]) ∧ H 306 = (bk (v306 + 1) 68 5 [[(V.bool (((nth (t.nd) (k))).lf)), (ints (cat ([((nth (t.nd) (k))).ac]))), (ints (cat ([((nth (t.nd) (k))).sf]))), V.nilsl, (ints (cat ([((nth (t.nd) (k))).kd])))]]) ∧ H 353 = (bz (u53 + 1 + k) 68 5 (List.map cN (t.nd.take k))) ∧ (H 363).ver = v363 ∧ True) ?_ ?_
  ·
   refine R_mv (@rfl V (iV (0 : Int))) ?_
   exact R_nil ⟨t1, t2, t3, t4, rfl, rfl, rfl, (upd_out (upd_out (upd_out (upd_out hF (by decide)) (by decide)) (by decide)) (by decide)), h301, h302, h303, rfl, rfl, h353, h363, trivial⟩
  intro T H ⟨t1, t2, t3, t4, t5, t6, t7, hF, h301, h302, h303, h305, h306, h353, h363, _⟩
  refine .lazyCell 363 38 1 306 0 3 [(V.bool (((nth (t.nd) (k))).lf)), (ints (cat ([((nth (t.nd) (k))).ac]))), (ints (cat ([((nth (t.nd) (k))).sf]))), V.nilsl, (ints (cat ([((nth (t.nd) (k))).kd])))] (by decide) (by rw [h306]; rfl) (by rw [h306]; rfl) rfl (.done ?_)
  refine fork_ (R := fun T H => T 1 = (V.mp 301 (u1 + 1) 0 0) ∧ T 2 = (V.mp 302 (u2 + 1) 0 0) ∧ T 3 = (V.mp 303 (u3 + 1) 0 0) ∧ T 4 = (iV ((k : Nat) : Int)) ∧ T 5 = (V.mp 305 (v305 + 1) 0 0) ∧ T 6 = (V.mp 306 (v306 + 1) 0 0) ∧ T 7 = (iV (0 : Int)) ∧ (∀ j, j ∉ [301, 302, 303, 305, 306, 363, 353] → H j = Hi j) ∧ H 301 = (bk (u1 + 1) 24 1 [[(V.sl (List.map cN (t.nd)))]]) ∧ H 302 = (bk (u2 + 1) 24 1 [[V.nilsl]]) ∧ H 303 = (bk (u3 + 1) 24 1 [[(V.ms 353 (u53 + 1 + k) 0 (k))]]) ∧ H 305 = (bk (v305 + 1) 68 5 [(cN (((nth (t.nd) (k)))))]) ∧ H 306 = (bk (v306 + 1) 68 5 [[(V.bool (((nth (t.nd) (k))).lf)), (ints (cat ([((nth (t.nd) (k))).ac]))), (ints (cat ([((nth (t.nd) (k))).sf]))), (V.ms 363 (v363 + 1) 0 (0)), (ints (cat ([((nth (t.nd) (k))).kd])))]]) ∧ H 353 = (bz (u53 + 1 + k) 68 5 (List.map cN (t.nd.take k))) ∧ H 363 = (bz (v363 + 1) 38 1 []) ∧ True) ⟨t1, t2, t3, t4, t5, t6, t7, (upd_out (upd_out hF (by decide)) (by decide)), ((upd_ne _ _ (by decide)).trans ((upd_ne _ _ (by decide)).trans h301)), ((upd_ne _ _ (by decide)).trans ((upd_ne _ _ (by decide)).trans h302)), ((upd_ne _ _ (by decide)).trans ((upd_ne _ _ (by decide)).trans h303)), ((upd_ne _ _ (by decide)).trans ((upd_ne _ _ (by decide)).trans h305)), (by rw [upd_same, h306, h363]; rfl), ((upd_ne _ _ (by decide)).trans ((upd_ne _ _ (by decide)).trans h353)), (by rw [upd_ne _ _ (by decide), upd_same, h363]), trivial⟩ ?_
  intro T H ⟨t1, t2, t3, t4, t5, t6, t7, hF, h301, h302, h303, h305, h306, h353, h363, _⟩
  refine W_seq_blockg fun Q5 n5 x5 y5 z5 => ?_
  refine W_loop (fun mm T H => ∃ (j : Nat) (w : Nat), mm = (nth t.nd k).ou.length - j ∧ T 1 = (V.mp 301 (u1 + 1) 0 0) ∧ T 2 = (V.mp 302 (u2 + 1) 0 0) ∧ T 3 = (V.mp 303 (u3 + 1) 0 0) ∧ T 4 = (iV ((k : Nat) : Int)) ∧ T 5 = (V.mp 305 (v305 + 1) 0 0) ∧ T 6 = (V.mp 306 (v306 + 1) 0 0) ∧ T 7 = (iV ((j : Nat) : Int)) ∧ (∀ j, j ∉ [301, 302, 303, 305, 306, 363, 353] → H j = Hi j) ∧ H 301 = (bk (u1 + 1) 24 1 [[(V.sl (List.map cN (t.nd)))]]) ∧ H 302 = (bk (u2 + 1) 24 1 [[V.nilsl]]) ∧ H 303 = (bk (u3 + 1) 24 1 [[(V.ms 353 (u53 + 1 + k) 0 (k))]]) ∧ H 305 = (bk (v305 + 1) 68 5 [(cN (((nth (t.nd) (k)))))]) ∧ H 306 = (bk (v306 + 1) 68 5 [[(V.bool ((nth t.nd k).lf)), (ints (cat [(nth t.nd k).ac])), (ints (cat [(nth t.nd k).sf])), (V.ms 363 w 0 (j)), (ints (cat [(nth t.nd k).kd]))]]) ∧ H 353 = (bz (u53 + 1 + k) 68 5 (List.map cN (t.nd.take k))) ∧ H 363 = (bz w 38 1 (List.map cL ((nth t.nd k).ou.take j))) ∧ (j ≤ (nth t.nd k).ou.length) ∧ (w ≤ v363 + 1 + j)) ?_ ?_
  ·
   refine ⟨_, 0, (v363 + 1), rfl, t1, t2, t3, t4, t5, t6, (Eq.trans t7 rfl), hF, h301, h302, h303, h305, (Eq.trans h306 (by first | rfl | (rw [hkn, List.take_length]; done) | (rw [map_cat1 (show j < (nth t.nd k).ou.length by omega)]; done) | (rw [cp_nd2 (show (nth t.nd k).ou.length ≤ j by omega), ← take_succ_nth (show k < t.nd.length by omega)]; done) | (rw [cp_nd2 (show (nth t.nd k).ou.length ≤ j by omega), ← take_succ_nth (show k < t.nd.length by omega)]; rfl) | (rw [← map_cat1 (show j < (nth t.nd k).ou.length by omega)]; simp; done) | (rw [take_succ_nth (show k < t.nd.length by omega)]; simp; done) | simp)), h353, (Eq.trans h363 (by first | rfl | (rw [hkn, List.take_length]; done) | (rw [map_cat1 (show j < (nth t.nd k).ou.length by omega)]; done) | (rw [cp_nd2 (show (nth t.nd k).ou.length ≤ j by omega), ← take_succ_nth (show k < t.nd.length by omega)]; done) | (rw [cp_nd2 (show (nth t.nd k).ou.length ≤ j by omega), ← take_succ_nth (show k < t.nd.length by omega)]; rfl) | (rw [← map_cat1 (show j < (nth t.nd k).ou.length by omega)]; simp; done) | (rw [take_succ_nth (show k < t.nd.length by omega)]; simp; done) | simp)), ?_, ?_⟩
   · omega
   · omega
  intro mm T H ⟨j, w, hmm, t1, t2, t3, t4, t5, t6, t7, hF, h301, h302, h303, h305, h306, h353, h363, hj, hw⟩ Q6 p16 p26 p36
  unfold b63_1
  have q1 : ((nth t.nd k).ou.take j).length = j := by rw [List.length_take]; omega
  refine W_seq_seq (W_r (R_mv t7 (R_fld_mp (o' := 3) t5 h305 oB rfl (R_load_mp (v := (intss (((nth (t.nd) (k))).ou))) rfl h305 (lB oB rfl rfl) (R_len rfl (R_lss rfl rfl (R_e ?_)))))))
  refine W_seq_if rfl (fun c7 => ?_) fun c7 => ?_
  ·
   have r6 := r5 j (by omega)
   refine W_seq_skip (W_seq_blockg fun Q8 n8 x8 y8 z8 => (W_t (R_fld_mp (o' := 3) t6 h306 oB rfl (R_load_mp (v := (V.ms 363 w 0 (j))) rfl h306 (lB oB rfl rfl) (R_fld_mp (o' := 3) t5 h305 oB rfl (R_load_mp (v := (intss (((nth (t.nd) (k))).ou))) rfl h305 (lB oB rfl rfl) (R_mv t7 ?_)))))))
   refine R_idx (i := j) (@rfl V (intss (((nth (t.nd) (k))).ou))) (@rfl V (iV ((j : Nat) : Int))) (by first | omega | (simp; omega) | (simp; done)) rfl (R_load_pp (v := (ints ((nth (((nth (t.nd) (k))).ou) (j))))) rfl (by first | rfl | simp [ldV]) (R_bslice (qs := [(0, (ints ((nth (((nth (t.nd) (k))).ou) (j)))))]) (rows := [[(ints ((nth (((nth (t.nd) (k))).ou) (j))))]]) (mcons (congrArg (fun v => (0, v)) rfl) rfl) rfl (R_callc (evcons rfl evnil) (join_pure ([(nth (((nth (t.nd) (k))).ou) (j))]) (by simp only [cat, List.append_nil]; omega)) (R_bslice (qs := [(0, (ints (cat ([(nth (((nth (t.nd) (k))).ou) (j))]))))]) (rows := [[(ints (cat ([(nth (((nth (t.nd) (k))).ou) (j))])))]]) (mcons (congrArg (fun v => (0, v)) rfl) rfl) rfl (R_append1 (l := ((nth t.nd k).ou.take j)) (f := cL) (x := (cat ([(nth (((nth (t.nd) (k))).ou) (j))]))) (@rfl V (V.ms 363 w 0 (j))) h363 (by first | rfl | (rw [List.length_take]; omega) | simp | omega) (@rfl V (V.sl [[(ints (cat ([(nth (((nth (t.nd) (k))).ou) (j))])))]])) rfl rfl (by first | omega | (simp; omega) | (simp; done)) (by first | omega | (simp; omega) | (simp; done)) (R_fld_mp (o' := 3) t6 h306 oB rfl (R_store (vs := [(V.ms 363 (w + 1) 0 (j + 1))]) (B' := (bk (v306 + 1) 68 5 [[(V.bool ((nth t.nd k).lf)), (ints (cat [(nth t.nd k).ac])), (ints (cat [(nth t.nd k).sf])), (V.ms 363 (w + 1) 0 (j + 1)), (ints (cat [(nth t.nd k).kd]))]])) rfl rfl rfl h306 (sB oB rfl rfl rfl rfl rfl) ?_)))))))
   refine R_e (n8 _ _ (.done (W_t (R_mv t7 (R_addN rfl (@rfl V (iV ((1 : Nat) : Int))) (by first | omega | (simp; omega) | (simp; done)) (R_mv (@rfl V (iV ((j + 1 : Nat) : Int))) (R_e ?_)))))))
   refine p16 _ _ _ ?_ ⟨(j + 1), (w + 1), rfl, t1, t2, t3, t4, t5, t6, (Eq.trans (@rfl V (iV ((j + 1 : Nat) : Int))) (by first | rfl | (rw [hkn]; done) | (rw [take_succ_nth (show k < t.nd.length by omega)]; simp; done) | (rw [take_succ_nth (show j < (nth t.nd k).ou.length by omega)]; simp; done) | simp)), (upd_out (upd_out hF (by decide)) (by decide)), h301, h302, h303, h305, (Eq.trans (@rfl Blk (bk (v306 + 1) 68 5 [[(V.bool ((nth t.nd k).lf)), (ints (cat [(nth t.nd k).ac])), (ints (cat [(nth t.nd k).sf])), (V.ms 363 (w + 1) 0 (j + 1)), (ints (cat [(nth t.nd k).kd]))]])) (by first | rfl | (rw [hkn, List.take_length]; done) | (rw [map_cat1 (show j < (nth t.nd k).ou.length by omega)]; done) | (rw [cp_nd2 (show (nth t.nd k).ou.length ≤ j by omega), ← take_succ_nth (show k < t.nd.length by omega)]; done) | (rw [cp_nd2 (show (nth t.nd k).ou.length ≤ j by omega), ← take_succ_nth (show k < t.nd.length by omega)]; rfl) | (rw [← map_cat1 (show j < (nth t.nd k).ou.length by omega)]; simp; done) | (rw [take_succ_nth (show k < t.nd.length by omega)]; simp; done) | simp)), h353, (Eq.trans (@rfl Blk (bz (w + 1) 38 1 (List.map cL ((nth t.nd k).ou.take j ++ [cat ([(nth (((nth (t.nd) (k))).ou) (j))])])))) (by first | rfl | (rw [hkn, List.take_length]; done) | (rw [map_cat1 (show j < (nth t.nd k).ou.length by omega)]; done) | (rw [cp_nd2 (show (nth t.nd k).ou.length ≤ j by omega), ← take_succ_nth (show k < t.nd.length by omega)]; done) | (rw [cp_nd2 (show (nth t.nd k).ou.length ≤ j by omega), ← take_succ_nth (show k < t.nd.length by omega)]; rfl) | (rw [← map_cat1 (show j < (nth t.nd k).ou.length by omega)]; simp; done) | (rw [take_succ_nth (show k < t.nd.length by omega)]; simp; done) | simp)), ?_, ?_⟩
   · omega
   · omega
   · omega
  refine W_seq_exit (p36 _ _ _ (x5 _ _ (fork_ (R := fun T H => T 1 = (V.mp 301 (u1 + 1) 0 0) ∧ T 2 = (V.mp 302 (u2 + 1) 0 0) ∧ T 3 = (V.mp 303 (u3 + 1) 0 0) ∧ T 4 = (iV ((k : Nat) : Int)) ∧ T 5 = (V.mp 305 (v305 + 1) 0 0) ∧ T 6 = (V.mp 306 (v306 + 1) 0 0) ∧ T 7 = (iV ((j : Nat) : Int)) ∧ T 39 = (V.bool (decide (((j : Nat) : Int) < (((((nth (t.nd) (k))).ou).length : Nat) : Int)))) ∧ (∀ j, j ∉ [301, 302, 303, 305, 306, 363, 353] → H j = Hi j) ∧ H 301 = (bk (u1 + 1) 24 1 [[(V.sl (List.map cN (t.nd)))]]) ∧ H 302 = (bk (u2 + 1) 24 1 [[V.nilsl]]) ∧ H 303 = (bk (u3 + 1) 24 1 [[(V.ms 353 (u53 + 1 + k) 0 (k))]]) ∧ H 305 = (bk (v305 + 1) 68 5 [(cN (((nth (t.nd) (k)))))]) ∧ H 306 = (bk (v306 + 1) 68 5 [[(V.bool ((nth t.nd k).lf)), (ints (cat [(nth t.nd k).ac])), (ints (cat [(nth t.nd k).sf])), (V.ms 363 w 0 (j)), (ints (cat [(nth t.nd k).kd]))]]) ∧ H 353 = (bz (u53 + 1 + k) 68 5 (List.map cN (t.nd.take k))) ∧ H 363 = (bz w 38 1 (List.map cL ((nth t.nd k).ou.take j))) ∧ True) ⟨t1, t2, t3, t4, t5, t6, t7, (@rfl V (V.bool (decide (((j : Nat) : Int) < (((((nth (t.nd) (k))).ou).length : Nat) : Int))))), hF, h301, h302, h303, h305, h306, h353, h363, trivial⟩ ?_)))
  intro T H ⟨t1, t2, t3, t4, t5, t6, t7, t39, hF, h301, h302, h303, h305, h306, h353, h363, _⟩
  refine frz_cellg (id := 363) (id2 := 306) (rows := [[(V.bool ((nth t.nd k).lf)), (ints (cat [(nth t.nd k).ac])), (ints (cat [(nth t.nd k).sf])), (V.ms 363 w 0 (j)), (ints (cat [(nth t.nd k).kd]))]]) (i := 0) (off := 3) (r := [(V.bool ((nth t.nd k).lf)), (ints (cat [(nth t.nd k).ac])), (ints (cat [(nth t.nd k).sf])), (V.ms 363 w 0 (j)), (ints (cat [(nth t.nd k).kd]))]) (m := ((nth t.nd k).ou.take j)) (g := cL) (by decide) h363 h306 (by first | omega | (simp; omega) | (simp; done)) (by first | rfl | (rw [List.length_take]; omega) | simp | omega) rfl (.done ?_)
  refine fork_ (R := fun T H => T 1 = (V.mp 301 (u1 + 1) 0 0) ∧ T 2 = (V.mp 302 (u2 + 1) 0 0) ∧ T 3 = (V.mp 303 (u3 + 1) 0 0) ∧ T 4 = (iV ((k : Nat) : Int)) ∧ T 5 = (V.mp 305 (v305 + 1) 0 0) ∧ T 6 = (V.mp 306 (v306 + 1) 0 0) ∧ T 7 = (iV ((j : Nat) : Int)) ∧ T 39 = (V.bool (decide (((j : Nat) : Int) < (((((nth (t.nd) (k))).ou).length : Nat) : Int)))) ∧ (∀ j, j ∉ [301, 302, 303, 305, 306, 363, 353] → H j = Hi j) ∧ H 301 = (bk (u1 + 1) 24 1 [[(V.sl (List.map cN (t.nd)))]]) ∧ H 302 = (bk (u2 + 1) 24 1 [[V.nilsl]]) ∧ H 303 = (bk (u3 + 1) 24 1 [[(V.ms 353 (u53 + 1 + k) 0 (k))]]) ∧ H 305 = (bk (v305 + 1) 68 5 [(cN (((nth (t.nd) (k)))))]) ∧ H 306 = (bk (v306 + 1) 68 5 [[(V.bool ((nth t.nd k).lf)), (ints (cat [(nth t.nd k).ac])), (ints (cat [(nth t.nd k).sf])), (intss ((nth t.nd k).ou.take j)), (ints (cat [(nth t.nd k).kd]))]]) ∧ H 353 = (bz (u53 + 1 + k) 68 5 (List.map cN (t.nd.take k))) ∧ ((H 363).ver = w ∧ (H 363).live = false) ∧ True) ⟨(fzT_q t1 rfl), (fzT_q t2 rfl), (fzT_q t3 rfl), (fzT_q t4 rfl), (fzT_q t5 rfl), (fzT_q t6 rfl), (fzT_q t7 rfl), (fzT_q t39 rfl), (upd_out (kill_out hF (by decide)) (by decide)), ((upd_ne _ _ (by decide)).trans (kill_ne h301 (by decide))), ((upd_ne _ _ (by decide)).trans (kill_ne h302 (by decide))), ((upd_ne _ _ (by decide)).trans (kill_ne h303 (by decide))), ((upd_ne _ _ (by decide)).trans (kill_ne h305 (by decide))), (upd_same _ _ _), ((upd_ne _ _ (by decide)).trans (kill_ne h353 (by decide))), ⟨(congrArg Blk.ver (upd_ne _ _ (by decide))).trans (kill_self (congrArg Blk.ver h363)).1, (congrArg Blk.live (upd_ne _ _ (by decide))).trans (kill_self (congrArg Blk.ver h363)).2⟩, trivial⟩ ?_
  intro T H ⟨t1, t2, t3, t4, t5, t6, t7, t39, hF, h301, h302, h303, h305, h306, h353, h363, _⟩
  refine W_t (R_fld_mp (o' := 0) t3 h303 oB rfl (R_load_mp (v := (V.ms 353 (u53 + 1 + k) 0 (k))) rfl h303 (lB oB rfl rfl) (R_load_mp (v := (V.agg [(V.bool ((nth t.nd k).lf)), (ints (cat [(nth t.nd k).ac])), (ints (cat [(nth t.nd k).sf])), (intss ((nth t.nd k).ou.take j)), (ints (cat [(nth t.nd k).kd]))])) t6 h306 (lB oB rfl rfl) (R_bslice (qs := [(0, (V.agg [(V.bool ((nth t.nd k).lf)), (ints (cat [(nth t.nd k).ac])), (ints (cat [(nth t.nd k).sf])), (intss ((nth t.nd k).ou.take j)), (ints (cat [(nth t.nd k).kd]))]))]) (rows := [[(V.bool ((nth t.nd k).lf)), (ints (cat [(nth t.nd k).ac])), (ints (cat [(nth t.nd k).sf])), (intss ((nth t.nd k).ou.take j)), (ints (cat [(nth t.nd k).kd]))]]) (mcons (congrArg (fun v => (0, v)) rfl) rfl) rfl (R_append1 (l := (t.nd.take k)) (f := cN) (x := ((⟨(nth t.nd k).lf, cat [(nth t.nd k).ac], cat [(nth t.nd k).sf], (nth t.nd k).ou.take j, cat [(nth t.nd k).kd]⟩ : Nd))) (@rfl V (V.ms 353 (u53 + 1 + k) 0 (k))) h353 (by first | rfl | (rw [List.length_take]; omega) | simp | omega) (@rfl V (V.sl [[(V.bool ((nth t.nd k).lf)), (ints (cat [(nth t.nd k).ac])), (ints (cat [(nth t.nd k).sf])), (intss ((nth t.nd k).ou.take j)), (ints (cat [(nth t.nd k).kd]))]])) rfl rfl (by first | omega | (simp; omega) | (simp; done)) (by first | omega | (simp; omega) | (simp; done)) (R_fld_mp (o' := 0) t3 h303 oB rfl (R_store (vs := [(V.ms 353 (u53 + 1 + k + 1) 0 (k + 1))]) (B' := (bk (u3 + 1) 24 1 [[(V.ms 353 (u53 + 1 + k + 1) 0 (k + 1))]])) rfl rfl rfl h303 (sB oB rfl rfl rfl rfl rfl) ?_)))))))
  refine R_e (n4 _ _ (fork_ (R := fun T H => T 1 = (V.mp 301 (u1 + 1) 0 0) ∧ T 2 = (V.mp 302 (u2 + 1) 0 0) ∧ T 3 = (V.mp 303 (u3 + 1) 0 0) ∧ T 4 = (iV ((k : Nat) : Int)) ∧ (∀ j, j ∉ [301, 302, 303, 305, 306, 363, 353] → H j = Hi j) ∧ H 301 = (bk (u1 + 1) 24 1 [[(V.sl (List.map cN (t.nd)))]]) ∧ H 302 = (bk (u2 + 1) 24 1 [[V.nilsl]]) ∧ H 303 = (bk (u3 + 1) 24 1 [[(V.ms 353 (u53 + 1 + k + 1) 0 (k + 1))]]) ∧ H 305 = (bk (v305 + 1) 68 5 [(cN (((nth (t.nd) (k)))))]) ∧ H 306 = (bk (v306 + 1) 68 5 [[(V.bool ((nth t.nd k).lf)), (ints (cat [(nth t.nd k).ac])), (ints (cat [(nth t.nd k).sf])), (intss ((nth t.nd k).ou.take j)), (ints (cat [(nth t.nd k).kd]))]]) ∧ H 353 = (bz (u53 + 1 + k + 1) 68 5 (List.map cN (t.nd.take k ++ [(⟨(nth t.nd k).lf, cat [(nth t.nd k).ac], cat [(nth t.nd k).sf], (nth t.nd k).ou.take j, cat [(nth t.nd k).kd]⟩ : Nd)]))) ∧ ((H 363).ver = w ∧ (H 363).live = false) ∧ True) ⟨t1, t2, t3, t4, (upd_out (upd_out hF (by decide)) (by decide)), h301, h302, rfl, h305, h306, rfl, h363, trivial⟩ ?_))
  intro T H ⟨t1, t2, t3, t4, hF, h301, h302, h303, h305, h306, h353, h363, _⟩
  refine .freeze 306 (.done ?_)
  refine fork_ (R := fun T H => T 1 = (V.mp 301 (u1 + 1) 0 0) ∧ T 2 = (V.mp 302 (u2 + 1) 0 0) ∧ T 3 = (V.mp 303 (u3 + 1) 0 0) ∧ T 4 = (iV ((k : Nat) : Int)) ∧ (∀ j, j ∉ [301, 302, 303, 305, 306, 363, 353] → H j = Hi j) ∧ H 301 = (bk (u1 + 1) 24 1 [[(V.sl (List.map cN (t.nd)))]]) ∧ H 302 = (bk (u2 + 1) 24 1 [[V.nilsl]]) ∧ H 303 = (bk (u3 + 1) 24 1 [[(V.ms 353 (u53 + 1 + k + 1) 0 (k + 1))]]) ∧ H 305 = (bk (v305 + 1) 68 5 [(cN (((nth (t.nd) (k)))))]) ∧ ((H 306).ver = v306 + 1 ∧ (H 306).live = false) ∧ H 353 = (bz (u53 + 1 + k + 1) 68 5 (List.map cN (t.nd.take k ++ [(⟨(nth t.nd k).lf, cat [(nth t.nd k).ac], cat [(nth t.nd k).sf], (nth t.nd k).ou.take j, cat [(nth t.nd k).kd]⟩ : Nd)]))) ∧ ((H 363).ver = w ∧ (H 363).live = false) ∧ True) ⟨(fzT_q t1 rfl), (fzT_q t2 rfl), (fzT_q t3 rfl), (fzT_q t4 rfl), (kill_out hF (by decide)), (kill_ne h301 (by decide)), (kill_ne h302 (by decide)), (kill_ne h303 (by decide)), (kill_ne h305 (by decide)), (kill_self (congrArg Blk.ver h306)), (kill_ne h353 (by decide)), (kill_dead h363), trivial⟩ ?_
  intro T H ⟨t1, t2, t3, t4, hF, h301, h302, h303, h305, h306, h353, h363, _⟩
  refine W_t (R_mv t4 (R_addN rfl (@rfl V (iV ((1 : Nat) : Int))) (by first | omega | (simp; omega) | (simp; done)) (R_mv (@rfl V (iV ((k + 1 : Nat) : Int))) (R_e ?_))))
  refine p12 _ _ _ ?_ ⟨(k + 1), w, (v305 + 1), (v306 + 1), rfl, t1, t2, t3, (Eq.trans (@rfl V (iV ((k + 1 : Nat) : Int))) (by first | rfl | (rw [hkn]; done) | (rw [take_succ_nth (show k < t.nd.length by omega)]; simp; done) | (rw [take_succ_nth (show j < (nth t.nd k).ou.length by omega)]; simp; done) | simp)), hF, h301, h302, (Eq.trans h303 (by first | rfl | (rw [hkn, List.take_length]; done) | (rw [map_cat1 (show j < (nth t.nd k).ou.length by omega)]; done) | (rw [cp_nd2 (show (nth t.nd k).ou.length ≤ j by omega), ← take_succ_nth (show k < t.nd.length by omega)]; done) | (rw [cp_nd2 (show (nth t.nd k).ou.length ≤ j by omega), ← take_succ_nth (show k < t.nd.length by omega)]; rfl) | (rw [← map_cat1 (show j < (nth t.nd k).ou.length by omega)]; simp; done) | (rw [take_succ_nth (show k < t.nd.length by omega)]; simp; done) | simp)), (congrArg Blk.ver h305), h306, (Eq.trans h353 (by first | rfl | (rw [hkn, List.take_length]; done) | (rw [map_cat1 (show j < (nth t.nd k).ou.length by omega)]; done) | (rw [cp_nd2 (show (nth t.nd k).ou.length ≤ j by omega), ← take_succ_nth (show k < t.nd.length by omega)]; done) | (rw [cp_nd2 (show (nth t.nd k).ou.length ≤ j by omega), ← take_succ_nth (show k < t.nd.length by omega)]; rfl) | (rw [← map_cat1 (show j < (nth t.nd k).ou.length by omega)]; simp; done) | (rw [take_succ_nth (show k < t.nd.length by omega)]; simp; done) | simp)), (h363).1, ?_, ?_, ?_, ?_⟩
  · omega
  · omega
  · omega
  · omega
  · omega
 refine W_seq_exit (p32 _ _ _ (x1 _ _ (.done (W_r (R_load_mp (v := (V.agg [(V.ms 353 (u53 + 1 + k) 0 (k))])) t3 h303 (lB oB rfl rfl) (R_store (vs := [(V.ms 353 (u53 + 1 + k) 0 (k))]) (B' := (bk (u2 + 1) 24 1 [[(V.ms 353 (u53 + 1 + k) 0 (k))]])) t2 rfl rfl h302 (sB oB rfl rfl rfl rfl rfl) (R_e ?_)))))))
 refine W_ret (fork_ (R := fun T H => T 2 = (V.mp 302 (u2 + 1) 0 0) ∧ (∀ j, j ∉ [301, 302, 303, 305, 306, 363, 353] → H j = Hi j) ∧ H 301 = (bk (u1 + 1) 24 1 [[(V.sl (List.map cN (t.nd)))]]) ∧ H 302 = (bk (u2 + 1) 24 1 [[(V.ms 353 (u53 + 1 + k) 0 (k))]]) ∧ H 303 = (bk (u3 + 1) 24 1 [[(V.ms 353 (u53 + 1 + k) 0 (k))]]) ∧ (H 305).ver = v305 ∧ ((H 306).ver = v306 ∧ (H 306).live = false) ∧ H 353 = (bz (u53 + 1 + k) 68 5 (List.map cN (t.nd.take k))) ∧ (H 363).ver = v363 ∧ True) ⟨t2, (upd_out hF (by decide)), h301, rfl, h303, h305, h306, h353, h363, trivial⟩ ?_)
 intro T H ⟨t2, hF, h301, h302, h303, h305, h306, h353, h363, _⟩
 have hkn : k = t.nd.length := by omega
 rw [hkn] at hv5 hv6 hv63
 have fh := FinX.fin (FinX.put (B := (bz (u53 + 1 + t.nd.length) 68 5 (List.map cN (t.nd)))) (FinX.putv (n := v363) (B := (⟨u63 + t.nd.length * 1048579, false, false, 0, 0, []⟩ : Blk)) (FinX.putv (n := v306) (B := (⟨u6 + t.nd.length, false, false, 0, 0, []⟩ : Blk)) (FinX.putv (n := v305) (B := (⟨u5 + t.nd.length, false, false, 0, 0, []⟩ : Blk)) (FinX.putv (n := (u3 + 1)) (B := (⟨u3 + 1, false, false, 0, 0, []⟩ : Blk)) (FinX.putv (n := (u2 + 1)) (B := (⟨u2 + 1, false, false, 0, 0, []⟩ : Blk)) (FinX.putv (n := (u1 + 1)) (B := (⟨u1 + 1, false, false, 0, 0, []⟩ : Blk)) (FinX.start hF) (congrArg Blk.ver h301) (by show _ ≤ u1 + 1; omega) rfl) (congrArg Blk.ver h302) (by show _ ≤ u2 + 1; omega) rfl) (congrArg Blk.ver h303) (by show _ ≤ u3 + 1; omega) rfl) h305 (by show _ ≤ u5 + t.nd.length; omega) rfl) (h306).1 (by show _ ≤ u6 + t.nd.length; omega) rfl) h363 (by show _ ≤ u63 + t.nd.length * 1048579; omega) rfl) h353 (FinB.up (by omega) (by first | rfl | (rw [hkn, List.take_length]; done) | (rw [map_cat1 (show j < (nth t.nd k).ou.length by omega)]; done) | (rw [cp_nd2 (show (nth t.nd k).ou.length ≤ j by omega), ← take_succ_nth (show k < t.nd.length by omega)]; done) | (rw [cp_nd2 (show (nth t.nd k).ou.length ≤ j by omega), ← take_succ_nth (show k < t.nd.length by omega)]; rfl) | (rw [← map_cat1 (show j < (nth t.nd k).ou.length by omega)]; simp; done) | (rw [take_succ_nth (show k < t.nd.length by omega)]; simp; done) | simp)))
 exact RetFC_1 (resV_c (u := (V.agg [(V.ms 353 (u53 + 1 + k) 0 (k))])) t2 h302 (lB oB rfl rfl)) fh (FinV.agg1 (FinV.trans_eq (FinV.ms (n := (u53 + 1 + t.nd.length)) fh (by simp [h353]) (by simp [h353]) rfl rfl) (by first | rfl | (rw [hkn]; done) | (rw [take_succ_nth (show k < t.nd.length by omega)]; simp; done) | (rw [take_succ_nth (show j < (nth t.nd k).ou.length by omega)]; simp; done) | simp)))
def r64_6 : List SO := [
 sO 20 (.mv (.t 8)),
 sO 21 (.un .not (.t 20)),
 sO 22 (.mv (.t 21)),
 ⟨some (22, true), some 23, .mv (.t 1)⟩,
 ⟨some (22, true), some 24, .fld 3 (.t 3)⟩,
 ⟨some (22, true), some 25, .load false 1 (.t 24)⟩,
 ⟨some (22, true), some 26, .mv (.t 9)⟩,
 ⟨some (22, true), some 27, .idx 1 (.t 25) (.t 26)⟩,
 ⟨some (22, true), some 28, .load false 1 (.t 27)⟩,
 ⟨some (22, true), some 29, .call false 76 [.t 23, .t 28]⟩,
 ⟨some (22, true), some 30, .bin .lss (.t 29) (.c (.int .i64 0))⟩,
 sO 31 (.pick (.t 22) (.t 30) (.c (.bool false)))]
def r64_7 : List SO := [
 sO 32 (.fld 3 (.t 7)),
 sO 33 (.load false 1 (.t 32)),
 sO 34 (.mv (.t 1)),
 sO 35 (.bslice 38 1 false [.nilsl] 1 [(0, .t 34)]),
 sO 36 (.append 38 1 24 (.t 33) (.t 35)),
 sO 37 (.fld 3 (.t 7)),
 sN (.store 1 (.t 37) (.t 36))]
def r64_8 : List SO := [
 sO 38 (.fld 4 (.t 7)),
 sO 39 (.load false 1 (.t 38)),
 sO 40 (.mv (.t 2)),
 sO 41 (.bslice 3 1 false [.int .i64 0] 1 [(0, .t 40)]),
 sO 42 (.append 3 1 8 (.t 39) (.t 41)),
 sO 43 (.fld 4 (.t 7)),
 sN (.store 1 (.t 43) (.t 42))]
def r64_10 : List SO := [
 sO 44 (.fld 3 (.t 7)),
 sO 45 (.load false 1 (.t 44)),
 sO 46 (.fld 3 (.t 3)),
 sO 47 (.load false 1 (.t 46)),
 sO 48 (.mv (.t 9)),
 sO 49 (.idx 1 (.t 47) (.t 48)),
 sO 50 (.load false 1 (.t 49)),
 sO 51 (.bslice 38 1 false [.nilsl] 1 [(0, .t 50)]),
 sO 52 (.append 38 1 24 (.t 45) (.t 51)),
 sO 53 (.fld 3 (.t 7)),
 sN (.store 1 (.t 53) (.t 52))]
def r64_11 : List SO := [
 sO 54 (.fld 4 (.t 7)),
 sO 55 (.load false 1 (.t 54)),
 sO 56 (.fld 4 (.t 3)),
 sO 57 (.load false 1 (.t 56)),
 sO 58 (.mv (.t 9)),
 sO 59 (.idx 1 (.t 57) (.t 58)),
 sO 60 (.load false 1 (.t 59)),
 sO 61 (.bslice 3 1 false [.int .i64 0] 1 [(0, .t 60)]),
 sO 62 (.append 3 1 8 (.t 55) (.t 61)),
 sO 63 (.fld 4 (.t 7)),
 sN (.store 1 (.t 63) (.t 62))]
def b64_0 : SC := .seq (.seq (.reg [sO 13 (.mv (.t 9)), sO 14 (.fld 4 (.t 3)), sO 15 (.load false 1 (.t 14)), sO 16 (.len (.t 15)), sO 17 (.bin .lss (.t 13) (.t 16))]) (.cond (.t 17) (.skip) (.exit 0))) (.seq (.block 1 (.seq (.seq (.reg r64_6) (.cond (.t 31) (.seq (.reg r64_7) (.seq (.reg r64_8) (.reg [sO 8 (.mv (.c (.bool true)))]))) (.skip))) (.seq (.reg r64_10) (.reg r64_11)))) (.reg [sO 18 (.mv (.t 9)), sO 19 (.bin .add (.t 18) (.c (.int .i64 1))), sO 9 (.mv (.t 19))]))
def r64_13 : List SO := [
 sO 66 (.fld 3 (.t 7)),
 sO 67 (.load false 1 (.t 66)),
 sO 68 (.mv (.t 1)),
 sO 69 (.bslice 38 1 false [.nilsl] 1 [(0, .t 68)]),
 sO 70 (.append 38 1 24 (.t 67) (.t 69)),
 sO 71 (.fld 3 (.t 7)),
 sN (.store 1 (.t 71) (.t 70))]
def r64_14 : List SO := [
 sO 72 (.fld 4 (.t 7)),
 sO 73 (.load false 1 (.t 72)),
 sO 74 (.mv (.t 2)),
 sO 75 (.bslice 3 1 false [.int .i64 0] 1 [(0, .t 74)]),
 sO 76 (.append 3 1 8 (.t 73) (.t 75)),
 sO 77 (.fld 4 (.t 7)),
 sN (.store 1 (.t 77) (.t 76))]
def s64 : SF := ⟨79, [.cell 6 true 5], .seq (.reg [sO 3 (.box 68 5 (.t 0)), sO 6 (.alloc 68 [.bool false, .nilsl, .nilsl, .nilsl, .nilsl])]) (.seq (.reg [sO 10 (.fld 2 (.t 3)), sO 11 (.load false 1 (.t 10)), sO 12 (.build [.bool false, .nilsl, .nilsl, .nilsl, .nilsl] [(2, 1, .t 11)]), sO 7 (.alloc 68 [.bool false, .nilsl, .nilsl, .nilsl, .nilsl]), sN (.store 5 (.t 7) (.t 12))]) (.seq (.reg [sO 8 (.mv (.c (.bool false)))]) (.seq (.seq (.reg [sO 9 (.mv (.c (.int .i64 0)))]) (.block 0 (.loop b64_0))) (.seq (.seq (.reg [sO 64 (.mv (.t 8)), sO 65 (.un .not (.t 64))]) (.cond (.t 65) (.seq (.reg r64_13) (.reg r64_14)) (.skip))) (.seq (.reg [sO 78 (.load true 5 (.t 7)), sN (.store 5 (.t 6) (.t 78))]) (.ret))))))⟩
theorem s64_ok : slimF Tryz.prog ⟨[57, 58, 59, 63, 67, 68, 77, 102, 103, 104, 110, 116, 120], []⟩ Tryz.f64 = some s64 := by kernel_rfl
theorem put_pure (x : Nd) (outs : List Int) (kid : Int) (hl : x.ou.length = x.kd.length) (hb : x.kd.length ≤ 1048576) : PureC Tryz.prog 64 [(V.agg (cN x)), (ints outs), (iV (kid))] (V.agg (cN ((ptN x outs kid)))) := by
 refine pW Tryz.func64 s64_ok fun hB => ?_
 unfold s64
 dsimp only
 refine W_r (R_box (i := 3) (n := 0) (m := 5) (cs := [(V.bool x.lf), (ints x.ac), (ints x.sf), (intss x.ou), (ints x.kd)]) rfl (congrArg Blk.ver rfl) rfl rfl rfl (R_alloc (i := 6) (n := 0) (m := 5) rfl (congrArg Blk.ver rfl) rfl (R_e (W_r (R_fld_mp (o' := 2) rfl rfl oB rfl (R_load_mp (v := (ints x.sf)) rfl rfl (lB oB rfl rfl) (R_build (qs := [(2, 1, (ints x.sf))]) (cs := [(V.bool false), V.nilsl, (ints x.sf), V.nilsl, V.nilsl]) (mcons (congrArg (fun v => (2, 1, v)) rfl) rfl) rfl ?_)))))))
 refine R_alloc (i := 7) (n := 0) (m := 5) rfl (congrArg Blk.ver rfl) rfl (R_store (vs := [(V.bool false), V.nilsl, (ints x.sf), V.nilsl, V.nilsl]) (B' := (bk 1 68 5 [[(V.bool false), V.nilsl, (ints x.sf), V.nilsl, V.nilsl]])) rfl rfl rfl rfl (sB oB rfl rfl rfl rfl rfl) (R_e (W_r (R_mv (@rfl V (V.bool false)) (R_e (W_seq_seq ?_))))))
 refine W_seq_g (fun T H => T 1 = (ints outs) ∧ T 2 = (iV (kid)) ∧ T 3 = (V.mp 3 1 0 0) ∧ T 6 = (V.mp 6 1 0 0) ∧ T 7 = (V.mp 7 1 0 0) ∧ T 8 = (V.bool false) ∧ T 9 = (iV (0 : Int)) ∧ H 3 = (bk 1 68 5 [(cN x)]) ∧ H 6 = (bk 1 68 5 [[(V.bool false), V.nilsl, V.nilsl, V.nilsl, V.nilsl]]) ∧ H 7 = (bk 1 68 5 [[(V.bool false), V.nilsl, (ints x.sf), V.nilsl, V.nilsl]]) ∧ H 703 = (⟨0, false, false, 0, 0, []⟩ : Blk) ∧ H 704 = (⟨0, false, false, 0, 0, []⟩ : Blk) ∧ True) ?_ ?_
 ·
  refine R_mv (@rfl V (iV (0 : Int))) ?_
  exact R_nil ⟨rfl, rfl, rfl, rfl, rfl, rfl, rfl, rfl, rfl, rfl, rfl, rfl, trivial⟩
 intro T H ⟨t1, t2, t3, t6, t7, t8, t9, h3, h6, h7, h703, h704, _⟩
 refine .lazyCell 703 38 1 7 0 3 [(V.bool false), V.nilsl, (ints x.sf), V.nilsl, V.nilsl] (by decide) (by rw [h7]; rfl) (by rw [h7]; rfl) rfl (fork_ (R := fun T H => T 1 = (ints outs) ∧ T 2 = (iV (kid)) ∧ T 3 = (V.mp 3 1 0 0) ∧ T 6 = (V.mp 6 1 0 0) ∧ T 7 = (V.mp 7 1 0 0) ∧ T 8 = (V.bool false) ∧ T 9 = (iV (0 : Int)) ∧ H 3 = (bk 1 68 5 [(cN x)]) ∧ H 6 = (bk 1 68 5 [[(V.bool false), V.nilsl, V.nilsl, V.nilsl, V.nilsl]]) ∧ H 7 = (bk 1 68 5 [[(V.bool false), V.nilsl, (ints x.sf), (V.ms 703 1 0 (0)), V.nilsl]]) ∧ H 703 = (bz 1 38 1 []) ∧ H 704 = (⟨0, false, false, 0, 0, []⟩ : Blk) ∧ True) ⟨t1, t2, t3, t6, t7, t8, t9, ((upd_ne _ _ (by decide)).trans ((upd_ne _ _ (by decide)).trans h3)), ((upd_ne _ _ (by decide)).trans ((upd_ne _ _ (by decide)).trans h6)), (by rw [upd_same, h7, (congrArg Blk.ver h703)]; rfl), (by rw [upd_ne _ _ (by decide), upd_same, (congrArg Blk.ver h703)]), ((upd_ne _ _ (by decide)).trans ((upd_ne _ _ (by decide)).trans h704)), trivial⟩ ?_)
 intro T H ⟨t1, t2, t3, t6, t7, t8, t9, h3, h6, h7, h703, h704, _⟩
 refine .lazyCell 704 3 1 7 0 4 [(V.bool false), V.nilsl, (ints x.sf), (V.ms 703 1 0 (0)), V.nilsl] (by decide) (by rw [h7]; rfl) (by rw [h7]; rfl) rfl (.done ?_)
 refine fork_ (R := fun T H => T 1 = (ints outs) ∧ T 2 = (iV (kid)) ∧ T 3 = (V.mp 3 1 0 0) ∧ T 6 = (V.mp 6 1 0 0) ∧ T 7 = (V.mp 7 1 0 0) ∧ T 8 = (V.bool false) ∧ T 9 = (iV (0 : Int)) ∧ H 3 = (bk 1 68 5 [(cN x)]) ∧ H 6 = (bk 1 68 5 [[(V.bool false), V.nilsl, V.nilsl, V.nilsl, V.nilsl]]) ∧ H 7 = (bk 1 68 5 [[(V.bool false), V.nilsl, (ints x.sf), (V.ms 703 1 0 (0)), (V.ms 704 1 0 (0))]]) ∧ H 703 = (bz 1 38 1 []) ∧ H 704 = (bz 1 3 1 []) ∧ True) ⟨t1, t2, t3, t6, t7, t8, t9, ((upd_ne _ _ (by decide)).trans ((upd_ne _ _ (by decide)).trans h3)), ((upd_ne _ _ (by decide)).trans ((upd_ne _ _ (by decide)).trans h6)), (by rw [upd_same, h7, (congrArg Blk.ver h704)]; rfl), ((upd_ne _ _ (by decide)).trans ((upd_ne _ _ (by decide)).trans h703)), (by rw [upd_ne _ _ (by decide), upd_same, (congrArg Blk.ver h704)]), trivial⟩ ?_
 intro T H ⟨t1, t2, t3, t6, t7, t8, t9, h3, h6, h7, h703, h704, _⟩
 refine W_seq_blockg fun Q1 n1 x1 y1 z1 => ?_
 refine W_loop (fun mm T H => ∃ (k : Nat) (w : Nat) (w2 : Nat), mm = x.kd.length - k ∧ T 1 = (ints outs) ∧ T 2 = (iV (kid)) ∧ T 3 = (V.mp 3 1 0 0) ∧ T 6 = (V.mp 6 1 0 0) ∧ T 7 = (V.mp 7 1 0 0) ∧ T 8 = (V.bool (decide (pN x.ou outs < k))) ∧ T 9 = (iV ((k : Nat) : Int)) ∧ H 3 = (bk 1 68 5 [(cN x)]) ∧ H 6 = (bk 1 68 5 [[(V.bool false), V.nilsl, V.nilsl, V.nilsl, V.nilsl]]) ∧ H 7 = (bk 1 68 5 [[(V.bool false), V.nilsl, (ints x.sf), (V.ms 703 w 0 ((inA (pN x.ou outs) outs x.ou k).length)), (V.ms 704 w2 0 ((inA (pN x.ou outs) kid x.kd k).length))]]) ∧ H 703 = (bz w 38 1 (List.map cL (inA (pN x.ou outs) outs x.ou k))) ∧ H 704 = (bz w2 3 1 (List.map cI (inA (pN x.ou outs) kid x.kd k))) ∧ (k ≤ x.kd.length)) ?_ ?_
 ·
  refine ⟨_, 0, 1, 1, rfl, t1, t2, t3, t6, t7, (Eq.trans t8 (by first | rfl | (exact congrArg V.bool (decide_eq_true (by omega)).symm) | (exact congrArg V.bool (decide_eq_decide.2 (by omega))) | (rw [inA_hit d1 (by omega)]; simp; done) | (rw [inA_other (by omega) d1]; simp; done) | simp)), (Eq.trans t9 rfl), h3, h6, (Eq.trans h7 (by first | rfl | (rw [inA_hit d1 (by omega)]; done) | (rw [inA_hit d1 (by omega)]; simp; done) | (rw [inA_other (by omega) d1]; done) | (rw [inA_other (by omega) d1, inA_other (by omega) d1]; simp; done) | (rw [inA_hit d1 (by omega), inA_hit d1 (by omega)]; simp; done) | simp [inA])), (Eq.trans h703 (by first | rfl | (rw [inA_hit d1 (by omega)]; done) | (rw [inA_hit d1 (by omega)]; simp; done) | (rw [inA_other (by omega) d1]; done) | (rw [inA_other (by omega) d1, inA_other (by omega) d1]; simp; done) | (rw [inA_hit d1 (by omega), inA_hit d1 (by omega)]; simp; done) | simp [inA])), (Eq.trans h704 (by first | rfl | (rw [inA_hit d1 (by omega)]; done) | (rw [inA_hit d1 (by omega)]; simp; done) | (rw [inA_other (by omega) d1]; done) | (rw [inA_other (by omega) d1, inA_other (by omega) d1]; simp; done) | (rw [inA_hit d1 (by omega), inA_hit d1 (by omega)]; simp; done) | simp [inA])), ?_⟩
  · omega
 intro mm T H ⟨k, w, w2, hmm, t1, t2, t3, t6, t7, t8, t9, h3, h6, h7, h703, h704, hk⟩ Q2 p12 p22 p32
 unfold b64_0
 have q1 := inA_len (p := pN x.ou outs) (x := outs) (show k ≤ x.ou.length by omega)
 have q2 := inA_len (p := pN x.ou outs) (x := kid) hk
 have q3 : (inA (pN x.ou outs) outs x.ou k).length ≤ k + 1 := by rw [q1]; split <;> omega
 have q4 : (inA (pN x.ou outs) kid x.kd k).length ≤ k + 1 := by rw [q2]; split <;> omega
 refine W_seq_seq (W_r (R_mv t9 (R_fld_mp (o' := 4) t3 h3 oB rfl (R_load_mp (v := (ints x.kd)) rfl h3 (lB oB rfl rfl) (R_len rfl (R_lss rfl rfl (R_e ?_)))))))
 refine W_seq_if rfl (fun c3 => ?_) fun c3 => ?_
 ·
  refine W_seq_skip (W_seq_blockg fun Q4 n4 x4 y4 z4 => (W_seq_seq (W_r (R_mv t8 (R_not rfl (R_mv (@rfl V (V.bool (decide (¬(pN x.ou outs < k))))) ?_))))))
  refine Ops_seg 9 (fun T H => T 1 = (ints outs) ∧ T 2 = (iV (kid)) ∧ T 3 = (V.mp 3 1 0 0) ∧ T 6 = (V.mp 6 1 0 0) ∧ T 7 = (V.mp 7 1 0 0) ∧ T 8 = (V.bool (decide (pN x.ou outs < k))) ∧ T 9 = (iV ((k : Nat) : Int)) ∧ T 31 = (V.bool (decide ((¬(pN x.ou outs < k)) ∧ ((lexI outs ((nth (x.ou) (k)))) < (0 : Int))))) ∧ H 3 = (bk 1 68 5 [(cN x)]) ∧ H 6 = (bk 1 68 5 [[(V.bool false), V.nilsl, V.nilsl, V.nilsl, V.nilsl]]) ∧ H 7 = (bk 1 68 5 [[(V.bool false), V.nilsl, (ints x.sf), (V.ms 703 w 0 ((inA (pN x.ou outs) outs x.ou k).length)), (V.ms 704 w2 0 ((inA (pN x.ou outs) kid x.kd k).length))]]) ∧ H 703 = (bz w 38 1 (List.map cL (inA (pN x.ou outs) outs x.ou k))) ∧ H 704 = (bz w2 3 1 (List.map cI (inA (pN x.ou outs) kid x.kd k))) ∧ True) ?_ ?_
  ·
   by_cases g5 : ¬(pN x.ou outs < k)
   ·
    refine G_yes (edT g5 rfl) (R_mv t1 (G_yes (edT g5 rfl) (R_fld_mp (o' := 3) t3 h3 oB rfl (G_yes (edT g5 rfl) (R_load_mp (v := (intss x.ou)) rfl h3 (lB oB rfl rfl) (G_yes (edT g5 rfl) (R_mv t9 ?_)))))))
    refine G_yes (edT g5 rfl) (R_idx (i := k) (@rfl V (intss x.ou)) (@rfl V (iV ((k : Nat) : Int))) (by omega) rfl (G_yes (edT g5 rfl) (R_load_pp (v := (ints ((nth (x.ou) (k))))) rfl (by first | rfl | simp [ldV]) (G_yes (edT g5 rfl) (R_callc (evcons rfl (evcons rfl evnil)) (rlex_pure outs ((nth (x.ou) (k)))) (G_yes (edT g5 rfl) (R_lss rfl rfl ?_)))))))
    refine R_pickT (edT g5 rfl) rfl ?_
    exact ⟨t1, t2, t3, t6, t7, t8, t9, (dec_andT g5), h3, h6, h7, h703, h704, trivial⟩
   ·
    refine G_n (edF g5 rfl) (G_n (edF g5 rfl) (G_n (edF g5 rfl) (G_n (edF g5 rfl) (G_n (edF g5 rfl) (G_n (edF g5 rfl) (G_n (edF g5 rfl) (G_n (edF g5 rfl) ?_)))))))
    refine R_pickF (edF g5 rfl) rfl ?_
    exact ⟨t1, t2, t3, t6, t7, t8, t9, (dec_andF g5), h3, h6, h7, h703, h704, trivial⟩
  intro T H ⟨t1, t2, t3, t6, t7, t8, t9, t31, h3, h6, h7, h703, h704, _⟩
  refine R_e ?_
  refine W_seq_if t31 (fun c6 => ?_) fun c6 => ?_
  ·
   have d1 := pN_hit c6
   refine W_seq_seq (W_r (R_fld_mp (o' := 3) t7 h7 oB rfl (R_load_mp (v := (V.ms 703 w 0 ((inA (pN x.ou outs) outs x.ou k).length))) rfl h7 (lB oB rfl rfl) (R_mv t1 (R_bslice (qs := [(0, (ints outs))]) (rows := [[(ints outs)]]) (mcons (congrArg (fun v => (0, v)) rfl) rfl) rfl (R_append1 (l := (inA (pN x.ou outs) outs x.ou k)) (f := cL) (x := outs) (@rfl V (V.ms 703 w 0 ((inA (pN x.ou outs) outs x.ou k).length))) h703 (by first | rfl | simp | omega) (@rfl V (V.sl [[(ints outs)]])) rfl rfl (by omega) (by omega) (R_fld_mp (o' := 3) t7 h7 oB rfl ?_)))))))
   refine R_store (vs := [(V.ms 703 (w + 1) 0 (((inA (pN x.ou outs) outs x.ou k).length) + 1))]) (B' := (bk 1 68 5 [[(V.bool false), V.nilsl, (ints x.sf), (V.ms 703 (w + 1) 0 (((inA (pN x.ou outs) outs x.ou k).length) + 1)), (V.ms 704 w2 0 ((inA (pN x.ou outs) kid x.kd k).length))]])) rfl rfl rfl h7 (sB oB rfl rfl rfl rfl rfl) (R_e (W_seq_seq (W_r (R_fld_mp (o' := 4) t7 rfl oB rfl (R_load_mp (v := (V.ms 704 w2 0 ((inA (pN x.ou outs) kid x.kd k).length))) rfl rfl (lB oB rfl rfl) (R_mv t2 (R_bslice (qs := [(0, (iV (kid)))]) (rows := [[(iV (kid))]]) (mcons (congrArg (fun v => (0, v)) rfl) rfl) rfl ?_)))))))
   refine R_append1 (l := (inA (pN x.ou outs) kid x.kd k)) (f := cI) (x := kid) (@rfl V (V.ms 704 w2 0 ((inA (pN x.ou outs) kid x.kd k).length))) h704 (by first | rfl | simp | omega) (@rfl V (V.sl [[(iV (kid))]])) rfl rfl (by omega) (by omega) (R_fld_mp (o' := 4) t7 rfl oB rfl (R_store (vs := [(V.ms 704 (w2 + 1) 0 (((inA (pN x.ou outs) kid x.kd k).length) + 1))]) (B' := (bk 1 68 5 [[(V.bool false), V.nilsl, (ints x.sf), (V.ms 703 (w + 1) 0 (((inA (pN x.ou outs) outs x.ou k).length) + 1)), (V.ms 704 (w2 + 1) 0 (((inA (pN x.ou outs) kid x.kd k).length) + 1))]])) rfl rfl rfl rfl (sB oB rfl rfl rfl rfl rfl) (R_e (W_r (R_mv (@rfl V (V.bool true)) (R_e (W_r ?_)))))))
   refine R_fld_mp (o' := 3) t7 rfl oB rfl (R_load_mp (v := (V.ms 703 (w + 1) 0 (((inA (pN x.ou outs) outs x.ou k).length) + 1))) rfl rfl (lB oB rfl rfl) (R_fld_mp (o' := 3) t3 h3 oB rfl (R_load_mp (v := (intss x.ou)) rfl h3 (lB oB rfl rfl) (R_mv t9 (R_idx (i := k) (@rfl V (intss x.ou)) (@rfl V (iV ((k : Nat) : Int))) (by omega) rfl (R_load_pp (v := (ints ((nth (x.ou) (k))))) rfl (by first | rfl | simp [ldV]) (R_bslice (qs := [(0, (ints ((nth (x.ou) (k)))))]) (rows := [[(ints ((nth (x.ou) (k))))]]) (mcons (congrArg (fun v => (0, v)) rfl) rfl) rfl ?_)))))))
   refine R_append1 (l := (inA (pN x.ou outs) outs x.ou k ++ [outs])) (f := cL) (x := ((nth (x.ou) (k)))) (@rfl V (V.ms 703 (w + 1) 0 (((inA (pN x.ou outs) outs x.ou k).length) + 1))) (@rfl Blk (bz (w + 1) 38 1 (List.map cL (inA (pN x.ou outs) outs x.ou k ++ [outs])))) (by first | rfl | simp | omega) (@rfl V (V.sl [[(ints ((nth (x.ou) (k))))]])) rfl rfl (by omega) (by omega) (R_fld_mp (o' := 3) t7 rfl oB rfl (R_store (vs := [(V.ms 703 (w + 2) 0 (((inA (pN x.ou outs) outs x.ou k).length) + 2))]) (B' := (bk 1 68 5 [[(V.bool false), V.nilsl, (ints x.sf), (V.ms 703 (w + 2) 0 (((inA (pN x.ou outs) outs x.ou k).length) + 2)), (V.ms 704 (w2 + 1) 0 (((inA (pN x.ou outs) kid x.kd k).length) + 1))]])) rfl rfl rfl rfl (sB oB rfl rfl rfl rfl rfl) (R_e ?_)))
   refine W_regc (fun T H => T 1 = (ints outs) ∧ T 2 = (iV (kid)) ∧ T 3 = (V.mp 3 1 0 0) ∧ T 6 = (V.mp 6 1 0 0) ∧ T 7 = (V.mp 7 1 0 0) ∧ T 8 = (V.bool true) ∧ T 9 = (iV ((k : Nat) : Int)) ∧ H 3 = (bk 1 68 5 [(cN x)]) ∧ H 6 = (bk 1 68 5 [[(V.bool false), V.nilsl, V.nilsl, V.nilsl, V.nilsl]]) ∧ H 7 = (bk 1 68 5 [[(V.bool false), V.nilsl, (ints x.sf), (V.ms 703 (w + 2) 0 (((inA (pN x.ou outs) outs x.ou k).length) + 2)), (V.ms 704 (w2 + 2) 0 (((inA (pN x.ou outs) kid x.kd k).length) + 2))]]) ∧ H 703 = (bz (w + 2) 38 1 (List.map cL (inA (pN x.ou outs) outs x.ou k ++ [outs] ++ [(nth (x.ou) (k))]))) ∧ H 704 = (bz (w2 + 2) 3 1 (List.map cI (inA (pN x.ou outs) kid x.kd k ++ [kid] ++ [((nth (x.kd) (k)))]))) ∧ True) ?_ ?_
   ·
    refine R_fld_mp (o' := 4) t7 rfl oB rfl (R_load_mp (v := (V.ms 704 (w2 + 1) 0 (((inA (pN x.ou outs) kid x.kd k).length) + 1))) rfl rfl (lB oB rfl rfl) (R_fld_mp (o' := 4) t3 h3 oB rfl (R_load_mp (v := (ints x.kd)) rfl h3 (lB oB rfl rfl) (R_mv t9 (R_idx (i := k) (@rfl V (ints x.kd)) (@rfl V (iV ((k : Nat) : Int))) (by omega) rfl (R_load_pp (v := (iV ((nth (x.kd) (k))))) rfl (by first | rfl | simp [ldV]) (R_bslice (qs := [(0, (iV ((nth (x.kd) (k)))))]) (rows := [[(iV ((nth (x.kd) (k))))]]) (mcons (congrArg (fun v => (0, v)) rfl) rfl) rfl ?_)))))))
    refine R_append1 (l := (inA (pN x.ou outs) kid x.kd k ++ [kid])) (f := cI) (x := (((nth (x.kd) (k))))) (@rfl V (V.ms 704 (w2 + 1) 0 (((inA (pN x.ou outs) kid x.kd k).length) + 1))) (@rfl Blk (bz (w2 + 1) 3 1 (List.map cI (inA (pN x.ou outs) kid x.kd k ++ [kid])))) (by first | rfl | simp | omega) (@rfl V (V.sl [[(iV ((nth (x.kd) (k))))]])) rfl rfl (by omega) (by omega) (R_fld_mp (o' := 4) t7 rfl oB rfl (R_store (vs := [(V.ms 704 (w2 + 2) 0 (((inA (pN x.ou outs) kid x.kd k).length) + 2))]) (B' := (bk 1 68 5 [[(V.bool false), V.nilsl, (ints x.sf), (V.ms 703 (w + 2) 0 (((inA (pN x.ou outs) outs x.ou k).length) + 2)), (V.ms 704 (w2 + 2) 0 (((inA (pN x.ou outs) kid x.kd k).length) + 2))]])) rfl rfl rfl rfl (sB oB rfl rfl rfl rfl rfl) ?_))
    exact R_nil ⟨t1, t2, t3, t6, t7, rfl, t9, h3, h6, rfl, rfl, rfl, trivial⟩
   intro T H ⟨t1, t2, t3, t6, t7, t8, t9, h3, h6, h7, h703, h704, _⟩
   refine n4 _ _ (.done (W_t (R_mv t9 (R_addN rfl (@rfl V (iV ((1 : Nat) : Int))) (by omega) (R_mv (@rfl V (iV ((k + 1 : Nat) : Int))) (R_e ?_))))))
   refine p12 _ _ _ ?_ ⟨(k + 1), (w + 2), (w2 + 2), rfl, t1, t2, t3, t6, t7, (Eq.trans t8 (by first | rfl | (exact congrArg V.bool (decide_eq_true (by omega)).symm) | (exact congrArg V.bool (decide_eq_decide.2 (by omega))) | (rw [inA_hit d1 (by omega)]; simp; done) | (rw [inA_other (by omega) d1]; simp; done) | simp)), (Eq.trans (@rfl V (iV ((k + 1 : Nat) : Int))) (by first | rfl | (exact congrArg V.bool (decide_eq_true (by omega)).symm) | (exact congrArg V.bool (decide_eq_decide.2 (by omega))) | (rw [inA_hit d1 (by omega)]; simp; done) | (rw [inA_other (by omega) d1]; simp; done) | simp)), h3, h6, (Eq.trans h7 (by first | rfl | (rw [inA_hit d1 (by omega)]; done) | (rw [inA_hit d1 (by omega)]; simp; done) | (rw [inA_other (by omega) d1]; done) | (rw [inA_other (by omega) d1, inA_other (by omega) d1]; simp; done) | (rw [inA_hit d1 (by omega), inA_hit d1 (by omega)]; simp; done) | simp [inA])), (Eq.trans h703 (by first | rfl | (rw [inA_hit d1 (by omega)]; done) | (rw [inA_hit d1 (by omega)]; simp; done) | (rw [inA_other (by omega) d1]; done) | (rw [inA_other (by omega) d1, inA_other (by omega) d1]; simp; done) | (rw [inA_hit d1 (by omega), inA_hit d1 (by omega)]; simp; done) | simp [inA])), (Eq.trans h704 (by first | rfl | (rw [inA_hit d1 (by omega)]; done) | (rw [inA_hit d1 (by omega)]; simp; done) | (rw [inA_other (by omega) d1]; done) | (rw [inA_other (by omega) d1, inA_other (by omega) d1]; simp; done) | (rw [inA_hit d1 (by omega), inA_hit d1 (by omega)]; simp; done) | simp [inA])), ?_⟩
   · omega
   · omega
  have d1 := pN_miss (by omega) c6
  refine W_seq_skip (W_r (R_fld_mp (o' := 3) t7 h7 oB rfl (R_load_mp (v := (V.ms 703 w 0 ((inA (pN x.ou outs) outs x.ou k).length))) rfl h7 (lB oB rfl rfl) (R_fld_mp (o' := 3) t3 h3 oB rfl (R_load_mp (v := (intss x.ou)) rfl h3 (lB oB rfl rfl) (R_mv t9 (R_idx (i := k) (@rfl V (intss x.ou)) (@rfl V (iV ((k : Nat) : Int))) (by omega) rfl ?_)))))))
  refine R_load_pp (v := (ints ((nth (x.ou) (k))))) rfl (by first | rfl | simp [ldV]) (R_bslice (qs := [(0, (ints ((nth (x.ou) (k)))))]) (rows := [[(ints ((nth (x.ou) (k))))]]) (mcons (congrArg (fun v => (0, v)) rfl) rfl) rfl (R_append1 (l := (inA (pN x.ou outs) outs x.ou k)) (f := cL) (x := ((nth (x.ou) (k)))) (@rfl V (V.ms 703 w 0 ((inA (pN x.ou outs) outs x.ou k).length))) h703 (by first | rfl | simp | omega) (@rfl V (V.sl [[(ints ((nth (x.ou) (k))))]])) rfl rfl (by omega) (by omega) (R_fld_mp (o' := 3) t7 h7 oB rfl (R_store (vs := [(V.ms 703 (w + 1) 0 (((inA (pN x.ou outs) outs x.ou k).length) + 1))]) (B' := (bk 1 68 5 [[(V.bool false), V.nilsl, (ints x.sf), (V.ms 703 (w + 1) 0 (((inA (pN x.ou outs) outs x.ou k).length) + 1)), (V.ms 704 w2 0 ((inA (pN x.ou outs) kid x.kd k).length))]])) rfl rfl rfl h7 (sB oB rfl rfl rfl rfl rfl) (R_e (W_t (R_fld_mp (o' := 4) t7 rfl oB rfl ?_)))))))
  refine R_load_mp (v := (V.ms 704 w2 0 ((inA (pN x.ou outs) kid x.kd k).length))) rfl rfl (lB oB rfl rfl) (R_fld_mp (o' := 4) t3 h3 oB rfl (R_load_mp (v := (ints x.kd)) rfl h3 (lB oB rfl rfl) (R_mv t9 (R_idx (i := k) (@rfl V (ints x.kd)) (@rfl V (iV ((k : Nat) : Int))) (by omega) rfl (R_load_pp (v := (iV ((nth (x.kd) (k))))) rfl (by first | rfl | simp [ldV]) (R_bslice (qs := [(0, (iV ((nth (x.kd) (k)))))]) (rows := [[(iV ((nth (x.kd) (k))))]]) (mcons (congrArg (fun v => (0, v)) rfl) rfl) rfl (R_append1 (l := (inA (pN x.ou outs) kid x.kd k)) (f := cI) (x := (((nth (x.kd) (k))))) (@rfl V (V.ms 704 w2 0 ((inA (pN x.ou outs) kid x.kd k).length))) h704 (by first | rfl | simp | omega) (@rfl V (V.sl [[(iV ((nth (x.kd) (k))))]])) rfl rfl (by omega) (by omega) ?_)))))))
  refine R_fld_mp (o' := 4) t7 rfl oB rfl (R_store (vs := [(V.ms 704 (w2 + 1) 0 (((inA (pN x.ou outs) kid x.kd k).length) + 1))]) (B' := (bk 1 68 5 [[(V.bool false), V.nilsl, (ints x.sf), (V.ms 703 (w + 1) 0 (((inA (pN x.ou outs) outs x.ou k).length) + 1)), (V.ms 704 (w2 + 1) 0 (((inA (pN x.ou outs) kid x.kd k).length) + 1))]])) rfl rfl rfl rfl (sB oB rfl rfl rfl rfl rfl) (R_e (n4 _ _ (.done (W_t (R_mv t9 (R_addN rfl (@rfl V (iV ((1 : Nat) : Int))) (by omega) ?_)))))))
  refine R_mv (@rfl V (iV ((k + 1 : Nat) : Int))) (R_e ?_)
  refine p12 _ _ _ ?_ ⟨(k + 1), (w + 1), (w2 + 1), rfl, t1, t2, t3, t6, t7, (Eq.trans t8 (by first | rfl | (exact congrArg V.bool (decide_eq_true (by omega)).symm) | (exact congrArg V.bool (decide_eq_decide.2 (by omega))) | (rw [inA_hit d1 (by omega)]; simp; done) | (rw [inA_other (by omega) d1]; simp; done) | simp)), (Eq.trans (@rfl V (iV ((k + 1 : Nat) : Int))) (by first | rfl | (exact congrArg V.bool (decide_eq_true (by omega)).symm) | (exact congrArg V.bool (decide_eq_decide.2 (by omega))) | (rw [inA_hit d1 (by omega)]; simp; done) | (rw [inA_other (by omega) d1]; simp; done) | simp)), h3, h6, (Eq.trans (@rfl Blk (bk 1 68 5 [[(V.bool false), V.nilsl, (ints x.sf), (V.ms 703 (w + 1) 0 (((inA (pN x.ou outs) outs x.ou k).length) + 1)), (V.ms 704 (w2 + 1) 0 (((inA (pN x.ou outs) kid x.kd k).length) + 1))]])) (by first | rfl | (rw [inA_hit d1 (by omega)]; done) | (rw [inA_hit d1 (by omega)]; simp; done) | (rw [inA_other (by omega) d1]; done) | (rw [inA_other (by omega) d1, inA_other (by omega) d1]; simp; done) | (rw [inA_hit d1 (by omega), inA_hit d1 (by omega)]; simp; done) | simp [inA])), (Eq.trans (@rfl Blk (bz (w + 1) 38 1 (List.map cL (inA (pN x.ou outs) outs x.ou k ++ [(nth (x.ou) (k))])))) (by first | rfl | (rw [inA_hit d1 (by omega)]; done) | (rw [inA_hit d1 (by omega)]; simp; done) | (rw [inA_other (by omega) d1]; done) | (rw [inA_other (by omega) d1, inA_other (by omega) d1]; simp; done) | (rw [inA_hit d1 (by omega), inA_hit d1 (by omega)]; simp; done) | simp [inA])), (Eq.trans (@rfl Blk (bz (w2 + 1) 3 1 (List.map cI (inA (pN x.ou outs) kid x.kd k ++ [((nth (x.kd) (k)))])))) (by first | rfl | (rw [inA_hit d1 (by omega)]; done) | (rw [inA_hit d1 (by omega)]; simp; done) | (rw [inA_other (by omega) d1]; done) | (rw [inA_other (by omega) d1, inA_other (by omega) d1]; simp; done) | (rw [inA_hit d1 (by omega), inA_hit d1 (by omega)]; simp; done) | simp [inA])), ?_⟩
  · omega
  · omega
 refine W_seq_exit (p32 _ _ _ (x1 _ _ (.done (W_seq_seq (W_r (R_mv t8 (R_not rfl ?_)))))))
 refine R_e ?_
 refine W_seq_if rfl (fun c7 => ?_) fun c7 => ?_
 ·
  have d3 : ¬(pN x.ou outs < k) := by simpa using c7
  refine W_seq_seq (W_r (R_fld_mp (o' := 3) t7 h7 oB rfl (R_load_mp (v := (V.ms 703 w 0 ((inA (pN x.ou outs) outs x.ou k).length))) rfl h7 (lB oB rfl rfl) (R_mv t1 (R_bslice (qs := [(0, (ints outs))]) (rows := [[(ints outs)]]) (mcons (congrArg (fun v => (0, v)) rfl) rfl) rfl (R_append1 (l := (inA (pN x.ou outs) outs x.ou k)) (f := cL) (x := outs) (@rfl V (V.ms 703 w 0 ((inA (pN x.ou outs) outs x.ou k).length))) h703 (by first | rfl | simp | omega) (@rfl V (V.sl [[(ints outs)]])) rfl rfl (by omega) (by omega) (R_fld_mp (o' := 3) t7 h7 oB rfl ?_)))))))
  refine R_store (vs := [(V.ms 703 (w + 1) 0 (((inA (pN x.ou outs) outs x.ou k).length) + 1))]) (B' := (bk 1 68 5 [[(V.bool false), V.nilsl, (ints x.sf), (V.ms 703 (w + 1) 0 (((inA (pN x.ou outs) outs x.ou k).length) + 1)), (V.ms 704 w2 0 ((inA (pN x.ou outs) kid x.kd k).length))]])) rfl rfl rfl h7 (sB oB rfl rfl rfl rfl rfl) (R_e (W_r (R_fld_mp (o' := 4) t7 rfl oB rfl (R_load_mp (v := (V.ms 704 w2 0 ((inA (pN x.ou outs) kid x.kd k).length))) rfl rfl (lB oB rfl rfl) (R_mv t2 (R_bslice (qs := [(0, (iV (kid)))]) (rows := [[(iV (kid))]]) (mcons (congrArg (fun v => (0, v)) rfl) rfl) rfl (R_append1 (l := (inA (pN x.ou outs) kid x.kd k)) (f := cI) (x := kid) (@rfl V (V.ms 704 w2 0 ((inA (pN x.ou outs) kid x.kd k).length))) h704 (by first | rfl | simp | omega) (@rfl V (V.sl [[(iV (kid))]])) rfl rfl (by omega) (by omega) ?_)))))))
  refine R_fld_mp (o' := 4) t7 rfl oB rfl (R_store (vs := [(V.ms 704 (w2 + 1) 0 (((inA (pN x.ou outs) kid x.kd k).length) + 1))]) (B' := (bk 1 68 5 [[(V.bool false), V.nilsl, (ints x.sf), (V.ms 703 (w + 1) 0 (((inA (pN x.ou outs) outs x.ou k).length) + 1)), (V.ms 704 (w2 + 1) 0 (((inA (pN x.ou outs) kid x.kd k).length) + 1))]])) rfl rfl rfl rfl (sB oB rfl rfl rfl rfl rfl) (R_e (W_r (R_load_mp (v := (V.agg [(V.bool false), V.nilsl, (ints x.sf), (V.ms 703 (w + 1) 0 (((inA (pN x.ou outs) outs x.ou k).length) + 1)), (V.ms 704 (w2 + 1) 0 (((inA (pN x.ou outs) kid x.kd k).length) + 1))])) t7 rfl (lB oB rfl rfl) (R_store (vs := [(V.bool false), V.nilsl, (ints x.sf), (V.ms 703 (w + 1) 0 (((inA (pN x.ou outs) outs x.ou k).length) + 1)), (V.ms 704 (w2 + 1) 0 (((inA (pN x.ou outs) kid x.kd k).length) + 1))]) (B' := (bk 1 68 5 [[(V.bool false), V.nilsl, (ints x.sf), (V.ms 703 (w + 1) 0 (((inA (pN x.ou outs) outs x.ou k).length) + 1)), (V.ms 704 (w2 + 1) 0 (((inA (pN x.ou outs) kid x.kd k).length) + 1))]])) t6 rfl rfl h6 (sB oB rfl rfl rfl rfl rfl) (R_e (W_ret ?_)))))))
  refine RetC_1 (resV_c (u := (V.agg [(V.bool false), V.nilsl, (ints x.sf), (V.ms 703 (w + 1) 0 (((inA (pN x.ou outs) outs x.ou k).length) + 1)), (V.ms 704 (w2 + 1) 0 (((inA (pN x.ou outs) kid x.kd k).length) + 1))])) t6 (@rfl Blk (bk 1 68 5 [[(V.bool false), V.nilsl, (ints x.sf), (V.ms 703 (w + 1) 0 (((inA (pN x.ou outs) outs x.ou k).length) + 1)), (V.ms 704 (w2 + 1) 0 (((inA (pN x.ou outs) kid x.kd k).length) + 1))]])) (lB oB rfl rfl)) (fz_agg5 (fz_bool ?_) (fz_nil ?_) (fz_sl ?_ (fun _ => by simp)) (fz_ms (@rfl Blk (bz (w + 1) 38 1 (List.map cL (inA (pN x.ou outs) outs x.ou k ++ [outs])))) (by first | rfl | simp) (l := (inA (pN x.ou outs) outs x.ou k ++ [outs])) rfl (by first | rfl | simp | omega) (fun _ => by simp) ?_) (fz_ms (@rfl Blk (bz (w2 + 1) 3 1 (List.map cI (inA (pN x.ou outs) kid x.kd k ++ [kid])))) (by first | rfl | simp) (l := (inA (pN x.ou outs) kid x.kd k ++ [kid])) rfl (by first | rfl | simp | omega) (fun _ => by simp) ?_))
  · rfl
  · rfl
  · rfl
  · show _ = inW (pN x.ou outs) outs x.ou; rw [show k = x.ou.length by omega, inA_last (by omega)]
  · show _ = inW (pN x.ou outs) kid x.kd; rw [show k = x.kd.length by omega, inA_last (by omega)]
 have d3 : pN x.ou outs < k := by simpa using c7
 refine W_seq_skip (W_r (R_load_mp (v := (V.agg [(V.bool false), V.nilsl, (ints x.sf), (V.ms 703 w 0 ((inA (pN x.ou outs) outs x.ou k).length)), (V.ms 704 w2 0 ((inA (pN x.ou outs) kid x.kd k).length))])) t7 h7 (lB oB rfl rfl) (R_store (vs := [(V.bool false), V.nilsl, (ints x.sf), (V.ms 703 w 0 ((inA (pN x.ou outs) outs x.ou k).length)), (V.ms 704 w2 0 ((inA (pN x.ou outs) kid x.kd k).length))]) (B' := (bk 1 68 5 [[(V.bool false), V.nilsl, (ints x.sf), (V.ms 703 w 0 ((inA (pN x.ou outs) outs x.ou k).length)), (V.ms 704 w2 0 ((inA (pN x.ou outs) kid x.kd k).length))]])) t6 rfl rfl h6 (sB oB rfl rfl rfl rfl rfl) (R_e (W_ret ?_)))))
 refine RetC_1 (resV_c (u := (V.agg [(V.bool false), V.nilsl, (ints x.sf), (V.ms 703 w 0 ((inA (pN x.ou outs) outs x.ou k).length)), (V.ms 704 w2 0 ((inA (pN x.ou outs) kid x.kd k).length))])) t6 (@rfl Blk (bk 1 68 5 [[(V.bool false), V.nilsl, (ints x.sf), (V.ms 703 w 0 ((inA (pN x.ou outs) outs x.ou k).length)), (V.ms 704 w2 0 ((inA (pN x.ou outs) kid x.kd k).length))]])) (lB oB rfl rfl)) (fz_agg5 (fz_bool ?_) (fz_nil ?_) (fz_sl ?_ (fun _ => by simp)) (fz_ms h703 (by first | rfl | simp) (l := (inA (pN x.ou outs) outs x.ou k)) rfl (by first | rfl | simp | omega) (fun _ => by simp) ?_) (fz_ms h704 (by first | rfl | simp) (l := (inA (pN x.ou outs) kid x.kd k)) rfl (by first | rfl | simp | omega) (fun _ => by simp) ?_))
 · rfl
 · rfl
 · rfl
 · show _ = inW (pN x.ou outs) outs x.ou; rw [show k = x.ou.length by omega, inA_all (by omega)]
 · show _ = inW (pN x.ou outs) kid x.kd; rw [show k = x.kd.length by omega, inA_all (by omega)]
theorem rsplit_pure (t : Dt) (n : Int) (sf outs w other : List Int) (hb : Bd t) (hsf : sf.length ≤ 1048576) (ho : outs.length ≤ 1048576) (hw : w.length ≤ 1048576) (hot : other.length ≤ 1048576) : PureC Tryz.prog 27 [(V.agg [(V.sl (List.map cN (t.nd)))]), (iV (n)), (ints sf), (ints outs), (ints w), (ints other)] (V.tup [(V.agg [(V.sl (List.map cN ((spT t n sf outs w other).nd)))]), (iV (spE t n sf outs w other))]) := by
 refine pW Tryz.func27 s27_ok fun hB => ?_
 unfold s27
 dsimp only
 have hbn := hb.n
 refine W_r (R_box (i := 6) (n := 0) (m := 1) (cs := [(V.sl (List.map cN (t.nd)))]) rfl (congrArg Blk.ver rfl) rfl rfl rfl (R_alloc (i := 12) (n := 0) (m := 1) rfl (congrArg Blk.ver rfl) rfl (R_mv (@rfl V (iV (0 : Int))) (R_e (W_seq_seq (W_r (R_load_mp (v := (V.agg [(V.sl (List.map cN (t.nd)))])) rfl rfl (lB oB rfl rfl) ?_)))))))
 refine R_callc (evcons rfl evnil) (rdvalid_pure t hb) (R_mv (@rfl V (iV (dvE t))) (R_e (W_seq_seq (W_r (R_mv (@rfl V (iV (dvE t))) (R_neq rfl rfl (R_e ?_)))))))
 refine W_seq_if rfl (fun c1 => ?_) fun c1 => ?_
 ·
  refine W_seq_seq (W_r (R_load_mp (v := (V.agg [(V.sl (List.map cN (t.nd)))])) rfl rfl (lB oB rfl rfl) (R_mv (@rfl V (iV (dvE t))) (R_store (vs := [(V.sl (List.map cN (t.nd)))]) (B' := (bk 1 24 1 [[(V.sl (List.map cN (t.nd)))]])) rfl rfl rfl rfl (sB oB rfl rfl rfl rfl rfl) (R_mv (@rfl V (iV (dvE t))) (R_e (W_seq_ret ?_)))))))
  refine RetC_2 (resV_c (u := (V.agg [(V.sl (List.map cN (t.nd)))])) rfl (@rfl Blk (bk 1 24 1 [[(V.sl (List.map cN (t.nd)))]])) (lB oB rfl rfl)) (resV_t (@rfl V (iV (dvE t)))) (fz_agg1 (fz_sl ?_ (fun _ => by simp))) (fz_int ?_)
  · have z9 : spE t n sf outs w other = dvE t := by
      unfold spE; rw [if_pos (by omega)]
    rw [spT_no (by rw [z9]; first | exact (by decide) | omega)]
  · have z9 : spE t n sf outs w other = dvE t := by
      unfold spE; rw [if_pos (by omega)]
    exact z9.symm
 have hv : dvE t = 0 := by omega
 refine W_seq_skip (W_seq_seq (W_r (R_load_mp (v := (V.agg [(V.sl (List.map cN (t.nd)))])) rfl rfl (lB oB rfl rfl) (R_mv (@rfl V (iV (n))) (R_callc (evcons rfl (evcons rfl (evcons rfl evnil))) (rkind_pure t ((n)) true) (R_mv (@rfl V (iV (noE t ((n)) true))) (R_e ?_)))))))
 refine W_seq_seq (W_r (R_mv (@rfl V (iV (noE t ((n)) true))) (R_neq rfl rfl (R_e ?_))))
 refine W_seq_if rfl (fun c2 => ?_) fun c2 => ?_
 ·
  refine W_seq_seq (W_r (R_load_mp (v := (V.agg [(V.sl (List.map cN (t.nd)))])) rfl rfl (lB oB rfl rfl) (R_mv (@rfl V (iV (noE t ((n)) true))) (R_store (vs := [(V.sl (List.map cN (t.nd)))]) (B' := (bk 1 24 1 [[(V.sl (List.map cN (t.nd)))]])) rfl rfl rfl rfl (sB oB rfl rfl rfl rfl rfl) (R_mv (@rfl V (iV (noE t ((n)) true))) (R_e (W_seq_ret ?_)))))))
  refine RetC_2 (resV_c (u := (V.agg [(V.sl (List.map cN (t.nd)))])) rfl (@rfl Blk (bk 1 24 1 [[(V.sl (List.map cN (t.nd)))]])) (lB oB rfl rfl)) (resV_t (@rfl V (iV (noE t ((n)) true)))) (fz_agg1 (fz_sl ?_ (fun _ => by simp))) (fz_int ?_)
  · have z9 : spE t n sf outs w other = noE t n true := by
      unfold spE; rw [if_neg (by omega)]; unfold spsE; rw [if_pos (by omega)]
    rw [spT_no (by rw [z9]; first | exact (by decide) | omega)]
  · have z9 : spE t n sf outs w other = noE t n true := by
      unfold spE; rw [if_neg (by omega)]; unfold spsE; rw [if_pos (by omega)]
    exact z9.symm
 obtain ⟨n0, n1, n2⟩ := no_ok (t := t) (n := n) (b := true) (by omega)
 have nb : n.toNat < t.nd.length := by omega
 refine W_seq_skip (W_seq_seq (W_r (R_mv (@rfl V (ints sf)) (R_callc (evcons rfl evnil) (ending_pure sf) (R_mv (@rfl V (iV (if sf.length = 0 then 19 else wchk sf 64))) (R_e (W_seq_seq ?_)))))))
 refine W_r (R_mv (@rfl V (iV (if sf.length = 0 then 19 else wchk sf 64))) (R_neq rfl rfl (R_e ?_)))
 refine W_seq_if rfl (fun c3 => ?_) fun c3 => ?_
 ·
  have d2 : (if sf.length = 0 then 19 else wchk sf 64) ≠ 0 := c3
  refine W_seq_seq (W_r (R_load_mp (v := (V.agg [(V.sl (List.map cN (t.nd)))])) rfl rfl (lB oB rfl rfl) (R_mv (@rfl V (iV (if sf.length = 0 then 19 else wchk sf 64))) (R_store (vs := [(V.sl (List.map cN (t.nd)))]) (B' := (bk 1 24 1 [[(V.sl (List.map cN (t.nd)))]])) rfl rfl rfl rfl (sB oB rfl rfl rfl rfl rfl) (R_mv (@rfl V (iV (if sf.length = 0 then 19 else wchk sf 64))) (R_e (W_seq_ret ?_)))))))
  refine RetC_2 (resV_c (u := (V.agg [(V.sl (List.map cN (t.nd)))])) rfl (@rfl Blk (bk 1 24 1 [[(V.sl (List.map cN (t.nd)))]])) (lB oB rfl rfl)) (resV_t (@rfl V (iV (if sf.length = 0 then 19 else wchk sf 64)))) (fz_agg1 (fz_sl ?_ (fun _ => by simp))) (fz_int ?_)
  · have z9 : spE t n sf outs w other = if sf.length = 0 then 19 else wchk sf 64 := by
      unfold spE; rw [if_neg (by omega)]; unfold spsE; rw [if_neg (by omega)]
      by_cases e : sf.length = 0
      · rw [if_pos e, if_pos e]
      · rw [if_neg e, if_neg e, if_pos (by rw [if_neg e] at d2; exact d2)]
    rw [spT_no (by rw [z9]; first | exact (by decide) | omega)]
  · have z9 : spE t n sf outs w other = if sf.length = 0 then 19 else wchk sf 64 := by
      unfold spE; rw [if_neg (by omega)]; unfold spsE; rw [if_neg (by omega)]
      by_cases e : sf.length = 0
      · rw [if_pos e, if_pos e]
      · rw [if_neg e, if_neg e, if_pos (by rw [if_neg e] at d2; exact d2)]
    exact z9.symm
 have d2 : sf.length ≠ 0 ∧ wchk sf 64 = 0 := by by_cases e : sf.length = 0; (rw [if_pos e] at c3; exact (c3 (by decide)).elim); (rw [if_neg e] at c3; exact ⟨e, by omega⟩)
 refine W_seq_skip (W_seq_seq (W_r (R_mv (@rfl V (ints outs)) (R_mv (@rfl V (ints sf)) (R_callc (evcons rfl (evcons rfl evnil)) (outputs_pure outs sf) (R_mv (@rfl V (iV (vlE outs sf))) (R_e ?_)))))))
 refine W_seq_seq (W_r (R_mv (@rfl V (iV (vlE outs sf))) (R_neq rfl rfl (R_e ?_))))
 refine W_seq_if rfl (fun c4 => ?_) fun c4 => ?_
 ·
  refine W_seq_seq (W_r (R_load_mp (v := (V.agg [(V.sl (List.map cN (t.nd)))])) rfl rfl (lB oB rfl rfl) (R_mv (@rfl V (iV (vlE outs sf))) (R_store (vs := [(V.sl (List.map cN (t.nd)))]) (B' := (bk 1 24 1 [[(V.sl (List.map cN (t.nd)))]])) rfl rfl rfl rfl (sB oB rfl rfl rfl rfl rfl) (R_mv (@rfl V (iV (vlE outs sf))) (R_e (W_seq_ret ?_)))))))
  refine RetC_2 (resV_c (u := (V.agg [(V.sl (List.map cN (t.nd)))])) rfl (@rfl Blk (bk 1 24 1 [[(V.sl (List.map cN (t.nd)))]])) (lB oB rfl rfl)) (resV_t (@rfl V (iV (vlE outs sf)))) (fz_agg1 (fz_sl ?_ (fun _ => by simp))) (fz_int ?_)
  · have z9 : spE t n sf outs w other = vlE outs sf := by
      unfold spE; rw [if_neg (by omega)]; unfold spsE; rw [if_neg (by omega), if_neg (by omega), if_neg (by omega), if_pos (by omega)]
    rw [spT_no (by rw [z9]; first | exact (by decide) | omega)]
  · have z9 : spE t n sf outs w other = vlE outs sf := by
      unfold spE; rw [if_neg (by omega)]; unfold spsE; rw [if_neg (by omega), if_neg (by omega), if_neg (by omega), if_pos (by omega)]
    exact z9.symm
 refine W_seq_skip (W_seq_seq (W_r (R_load_mp (v := (V.agg [(V.sl (List.map cN (t.nd)))])) rfl rfl (lB oB rfl rfl) (R_mv (@rfl V (ints w)) (R_callc (evcons rfl (evcons rfl evnil)) (rfresh_pure t w hb) (R_mv (@rfl V (iV (fsE t w))) (R_e ?_)))))))
 refine W_seq_seq (W_r (R_mv (@rfl V (iV (fsE t w))) (R_neq rfl rfl (R_e ?_))))
 refine W_seq_if rfl (fun c5 => ?_) fun c5 => ?_
 ·
  refine W_seq_seq (W_r (R_load_mp (v := (V.agg [(V.sl (List.map cN (t.nd)))])) rfl rfl (lB oB rfl rfl) (R_mv (@rfl V (iV (fsE t w))) (R_store (vs := [(V.sl (List.map cN (t.nd)))]) (B' := (bk 1 24 1 [[(V.sl (List.map cN (t.nd)))]])) rfl rfl rfl rfl (sB oB rfl rfl rfl rfl rfl) (R_mv (@rfl V (iV (fsE t w))) (R_e (W_seq_ret ?_)))))))
  refine RetC_2 (resV_c (u := (V.agg [(V.sl (List.map cN (t.nd)))])) rfl (@rfl Blk (bk 1 24 1 [[(V.sl (List.map cN (t.nd)))]])) (lB oB rfl rfl)) (resV_t (@rfl V (iV (fsE t w)))) (fz_agg1 (fz_sl ?_ (fun _ => by simp))) (fz_int ?_)
  · have z9 : spE t n sf outs w other = fsE t w := by
      unfold spE; rw [if_neg (by omega)]; unfold spsE; rw [if_neg (by omega), if_neg (by omega), if_neg (by omega), if_neg (by omega), if_pos (by omega)]
    rw [spT_no (by rw [z9]; first | exact (by decide) | omega)]
  · have z9 : spE t n sf outs w other = fsE t w := by
      unfold spE; rw [if_neg (by omega)]; unfold spsE; rw [if_neg (by omega), if_neg (by omega), if_neg (by omega), if_neg (by omega), if_pos (by omega)]
    exact z9.symm
 refine W_seq_skip (W_seq_seq (W_r (R_mv (@rfl V (ints other)) (R_mv (@rfl V (ints sf)) (R_callc (evcons rfl (evcons rfl evnil)) (outputs_pure other sf) (R_mv (@rfl V (iV (vlE other sf))) (R_e ?_)))))))
 refine W_seq_seq (W_r (R_mv (@rfl V (iV (vlE other sf))) (R_neq rfl rfl (R_e ?_))))
 refine W_seq_if rfl (fun c6 => ?_) fun c6 => ?_
 ·
  refine W_seq_seq ?_
  refine W_seq_regc (fun T H => T 12 = (V.mp 12 1 0 0) ∧ T 13 = (iV (vlE other sf)) ∧ H 6 = (bk 1 24 1 [[(V.sl (List.map cN (t.nd)))]]) ∧ H 12 = (bk 1 24 1 [[(V.sl (List.map cN (t.nd)))]]) ∧ H 21 = (⟨0, false, false, 0, 0, []⟩ : Blk) ∧ H 23 = (⟨0, false, false, 0, 0, []⟩ : Blk) ∧ H 301 = (⟨0, false, false, 0, 0, []⟩ : Blk) ∧ H 302 = (⟨0, false, false, 0, 0, []⟩ : Blk) ∧ H 303 = (⟨0, false, false, 0, 0, []⟩ : Blk) ∧ H 305 = (⟨0, false, false, 0, 0, []⟩ : Blk) ∧ H 306 = (⟨0, false, false, 0, 0, []⟩ : Blk) ∧ H 353 = (⟨0, false, false, 0, 0, []⟩ : Blk) ∧ H 363 = (⟨0, false, false, 0, 0, []⟩ : Blk) ∧ True) ?_ ?_
  ·
   refine R_load_mp (v := (V.agg [(V.sl (List.map cN (t.nd)))])) rfl rfl (lB oB rfl rfl) (R_mv (@rfl V (iV (vlE other sf))) (R_store (vs := [(V.sl (List.map cN (t.nd)))]) (B' := (bk 1 24 1 [[(V.sl (List.map cN (t.nd)))]])) rfl rfl rfl rfl (sB oB rfl rfl rfl rfl rfl) (R_mv (@rfl V (iV (vlE other sf))) ?_)))
   exact R_nil ⟨rfl, rfl, rfl, rfl, rfl, rfl, rfl, rfl, rfl, rfl, rfl, rfl, rfl, trivial⟩
  intro T H ⟨t12, t13, h6, h12, h21, h23, h301, h302, h303, h305, h306, h353, h363, _⟩
  refine W_seq_ret ?_
  refine RetC_2 (resV_c (u := (V.agg [(V.sl (List.map cN (t.nd)))])) t12 h12 (lB oB rfl rfl)) (resV_t t13) (fz_agg1 (fz_sl ?_ (fun _ => by simp))) (fz_int ?_)
  · have z9 : spE t n sf outs w other = vlE other sf := by
      unfold spE; rw [if_neg (by omega)]; unfold spsE; rw [if_neg (by omega), if_neg (by omega), if_neg (by omega), if_neg (by omega), if_neg (by omega), if_pos (by omega)]
    rw [spT_no (by rw [z9]; first | exact (by decide) | omega)]
  · have z9 : spE t n sf outs w other = vlE other sf := by
      unfold spE; rw [if_neg (by omega)]; unfold spsE; rw [if_neg (by omega), if_neg (by omega), if_neg (by omega), if_neg (by omega), if_neg (by omega), if_pos (by omega)]
    exact z9.symm
 refine W_seq_skip (W_seq_seq (W_r (R_mv (@rfl V (ints outs)) (R_mv (@rfl V (ints other)) (R_callc (evcons rfl (evcons rfl evnil)) (rsame1_pure outs other) (R_e ?_))))))
 refine W_seq_if rfl (fun c7 => ?_) fun c7 => ?_
 ·
  have d6 : outs = other := by simpa using c7
  refine W_seq_seq ?_
  refine W_seq_regc (fun T H => T 12 = (V.mp 12 1 0 0) ∧ T 13 = (iV (15 : Int)) ∧ H 6 = (bk 1 24 1 [[(V.sl (List.map cN (t.nd)))]]) ∧ H 12 = (bk 1 24 1 [[(V.sl (List.map cN (t.nd)))]]) ∧ H 21 = (⟨0, false, false, 0, 0, []⟩ : Blk) ∧ H 23 = (⟨0, false, false, 0, 0, []⟩ : Blk) ∧ H 301 = (⟨0, false, false, 0, 0, []⟩ : Blk) ∧ H 302 = (⟨0, false, false, 0, 0, []⟩ : Blk) ∧ H 303 = (⟨0, false, false, 0, 0, []⟩ : Blk) ∧ H 305 = (⟨0, false, false, 0, 0, []⟩ : Blk) ∧ H 306 = (⟨0, false, false, 0, 0, []⟩ : Blk) ∧ H 353 = (⟨0, false, false, 0, 0, []⟩ : Blk) ∧ H 363 = (⟨0, false, false, 0, 0, []⟩ : Blk) ∧ True) ?_ ?_
  ·
   refine R_load_mp (v := (V.agg [(V.sl (List.map cN (t.nd)))])) rfl rfl (lB oB rfl rfl) (R_store (vs := [(V.sl (List.map cN (t.nd)))]) (B' := (bk 1 24 1 [[(V.sl (List.map cN (t.nd)))]])) rfl rfl rfl rfl (sB oB rfl rfl rfl rfl rfl) (R_mv (@rfl V (iV (15 : Int))) ?_))
   exact R_nil ⟨rfl, rfl, rfl, rfl, rfl, rfl, rfl, rfl, rfl, rfl, rfl, rfl, rfl, trivial⟩
  intro T H ⟨t12, t13, h6, h12, h21, h23, h301, h302, h303, h305, h306, h353, h363, _⟩
  refine W_seq_ret ?_
  refine RetC_2 (resV_c (u := (V.agg [(V.sl (List.map cN (t.nd)))])) t12 h12 (lB oB rfl rfl)) (resV_t t13) (fz_agg1 (fz_sl ?_ (fun _ => by simp))) (fz_int ?_)
  · have z9 : spE t n sf outs w other = 15 := by
      unfold spE; rw [if_neg (by omega)]; unfold spsE; rw [if_neg (by omega), if_neg (by omega), if_neg (by omega), if_neg (by omega), if_neg (by omega), if_neg (by omega), if_pos d6]
    rw [spT_no (by rw [z9]; first | exact (by decide) | omega)]
  · have z9 : spE t n sf outs w other = 15 := by
      unfold spE; rw [if_neg (by omega)]; unfold spsE; rw [if_neg (by omega), if_neg (by omega), if_neg (by omega), if_neg (by omega), if_neg (by omega), if_neg (by omega), if_pos d6]
    exact z9.symm
 have d6 : ¬(outs = other) := by simpa using c7
 refine W_seq_skip (W_seq_seq ?_)
 refine W_seq_regc (fun T H => T 1 = (iV (n)) ∧ T 2 = (ints sf) ∧ T 3 = (ints outs) ∧ T 4 = (ints w) ∧ T 5 = (ints other) ∧ T 6 = (V.mp 6 1 0 0) ∧ T 12 = (V.mp 12 1 0 0) ∧ T 72 = (V.bool (decide ((4096 : Int) < ((t.nd.length + 2 : Nat) : Int)))) ∧ H 6 = (bk 1 24 1 [[(V.sl (List.map cN (t.nd)))]]) ∧ H 12 = (bk 1 24 1 [[V.nilsl]]) ∧ H 21 = (⟨0, false, false, 0, 0, []⟩ : Blk) ∧ H 23 = (⟨0, false, false, 0, 0, []⟩ : Blk) ∧ H 301 = (⟨0, false, false, 0, 0, []⟩ : Blk) ∧ H 302 = (⟨0, false, false, 0, 0, []⟩ : Blk) ∧ H 303 = (⟨0, false, false, 0, 0, []⟩ : Blk) ∧ H 305 = (⟨0, false, false, 0, 0, []⟩ : Blk) ∧ H 306 = (⟨0, false, false, 0, 0, []⟩ : Blk) ∧ H 353 = (⟨0, false, false, 0, 0, []⟩ : Blk) ∧ H 363 = (⟨0, false, false, 0, 0, []⟩ : Blk) ∧ True) ?_ ?_
 ·
  refine R_fld_mp (o' := 0) rfl rfl oB rfl (R_load_mp (v := (V.sl (List.map cN (t.nd)))) rfl rfl (lB oB rfl rfl) (R_len rfl (R_addN rfl (@rfl V (iV ((2 : Nat) : Int))) (by first | omega | (simp; omega)) (R_gtr rfl rfl ?_))))
  exact R_nil ⟨rfl, rfl, rfl, rfl, rfl, rfl, rfl, rfl, rfl, rfl, rfl, rfl, rfl, rfl, rfl, rfl, rfl, rfl, rfl, trivial⟩
 intro T H ⟨t1, t2, t3, t4, t5, t6, t12, t72, h6, h12, h21, h23, h301, h302, h303, h305, h306, h353, h363, _⟩
 refine W_seq_if t72 (fun c8 => ?_) fun c8 => ?_
 ·
  refine W_seq_seq (W_r (R_load_mp (v := (V.agg [(V.sl (List.map cN (t.nd)))])) t6 h6 (lB oB rfl rfl) (R_store (vs := [(V.sl (List.map cN (t.nd)))]) (B' := (bk 1 24 1 [[(V.sl (List.map cN (t.nd)))]])) t12 rfl rfl h12 (sB oB rfl rfl rfl rfl rfl) (R_mv (@rfl V (iV (11 : Int))) (R_e (W_seq_ret ?_))))))
  refine RetC_2 (resV_c (u := (V.agg [(V.sl (List.map cN (t.nd)))])) t12 (@rfl Blk (bk 1 24 1 [[(V.sl (List.map cN (t.nd)))]])) (lB oB rfl rfl)) (resV_t (@rfl V (iV (11 : Int)))) (fz_agg1 (fz_sl ?_ (fun _ => by simp))) (fz_int ?_)
  · have z9 : spE t n sf outs w other = 11 := by
      unfold spE; rw [if_neg (by omega)]; unfold spsE; rw [if_neg (by omega), if_neg (by omega), if_neg (by omega), if_neg (by omega), if_neg (by omega), if_neg (by omega), if_neg d6, if_pos (by omega)]
    rw [spT_no (by rw [z9]; first | exact (by decide) | omega)]
  · have z9 : spE t n sf outs w other = 11 := by
      unfold spE; rw [if_neg (by omega)]; unfold spsE; rw [if_neg (by omega), if_neg (by omega), if_neg (by omega), if_neg (by omega), if_neg (by omega), if_neg (by omega), if_neg d6, if_pos (by omega)]
    exact z9.symm
 refine W_seq_skip (W_r (R_fld_mp (o' := 0) t6 h6 oB rfl (R_load_mp (v := (V.sl (List.map cN (t.nd)))) rfl h6 (lB oB rfl rfl) (R_len rfl (R_mv (@rfl V (iV ((t.nd.length : Nat) : Int))) (R_e (W_r ?_)))))))
 refine R_load_mp (v := (V.agg [(V.sl (List.map cN (t.nd)))])) t6 h6 (lB oB rfl rfl) (R_callE (evcons rfl evnil) (rcopied_E t 0 0 0 0 0 0 0 _ hb (congrArg Blk.ver h301) (congrArg Blk.ver h302) (congrArg Blk.ver h303) (congrArg Blk.ver h305) ⟨congrArg Blk.ver h306, congrArg Blk.live h306⟩ (congrArg Blk.ver h353) (congrArg Blk.ver h363)) (R_alloc (i := 21) (n := 0) (m := 1) rfl (congrArg Blk.ver h21) rfl (R_store (vs := [(V.ms 353 (0 + 1 + t.nd.length) 0 (t.nd.length))]) (B' := (bk 1 24 1 [[(V.ms 353 (0 + 1 + t.nd.length) 0 (t.nd.length))]])) rfl rfl rfl rfl (sB oB rfl rfl rfl rfl rfl) (R_e (W_r (R_fld_mp (o' := 0) rfl rfl oB rfl (R_load_mp (v := (V.ms 353 (0 + 1 + t.nd.length) 0 (t.nd.length))) rfl rfl (lB oB rfl rfl) ?_)))))))
 refine R_mv t1 (R_idxI_ms0 (i := (n)) (@rfl V (V.ms 353 (0 + 1 + t.nd.length) 0 (t.nd.length))) (@rfl V (iV (n))) (@rfl Blk (bz (0 + 1 + t.nd.length) 68 5 (List.map cN (t.nd)))) (okB_map (by first | omega | (simp; omega))) rfl (by first | omega | (simp; omega)) (by first | omega | (simp; omega)) (R_fld_mp (o' := 1) rfl (@rfl Blk (bz (0 + 1 + t.nd.length) 68 5 (List.map cN (t.nd)))) (okB_map (by first | omega | (simp; omega))) rfl (R_load_mp (v := (ints (((nth (t.nd) (((n)).toNat))).ac))) rfl (@rfl Blk (bz (0 + 1 + t.nd.length) 68 5 (List.map cN (t.nd)))) (ldB_map (by first | omega | (simp; omega)) (by first | rfl | simp [ldV, V.one])) (R_mv (@rfl V (ints (((nth (t.nd) (((n)).toNat))).ac))) (R_e (W_r (R_mv t2 ?_)))))))
 refine R_bslice (qs := [(0, (ints sf))]) (rows := [[(ints sf)]]) (mcons (congrArg (fun v => (0, v)) rfl) rfl) rfl (R_callc (evcons rfl evnil) (join_pure ([sf]) (by simp only [cat, List.append_nil]; omega)) (R_build (qs := [(2, 1, (ints (cat ([sf]))))]) (cs := [(V.bool false), V.nilsl, (ints (cat ([sf]))), V.nilsl, V.nilsl]) (mcons (congrArg (fun v => (2, 1, v)) rfl) rfl) rfl (R_mv t3 (R_bslice (qs := [(0, (ints outs))]) (rows := [[(ints outs)]]) (mcons (congrArg (fun v => (0, v)) rfl) rfl) rfl (R_callc (evcons rfl evnil) (join_pure ([outs]) (by simp only [cat, List.append_nil]; omega)) (R_mv (@rfl V (iV ((t.nd.length : Nat) : Int))) (R_call (evcons (@rfl V (V.agg [(V.bool false), V.nilsl, (ints (cat ([sf]))), V.nilsl, V.nilsl])) (evcons (@rfl V (ints (cat ([outs])))) (evcons (@rfl V (iV ((t.nd.length : Nat) : Int))) evnil))) (put_pure (⟨false, ([]), (cat ([sf])), ([]), ([])⟩ : Nd) (cat ([outs])) (((t.nd.length : Nat) : Int)) (by simp [ptN, inW_len]) (by simp [ptN, inW_len])) (mcons (by simp [fzv, Blk.own, h6, h12, h23]) (mcons (fzv_canon 6 _ (by simp [-List.map_take, -List.map_drop, -List.map_append, -List.map_reverse])) (mcons (fzv_canon 6 _ (by simp [-List.map_take, -List.map_drop, -List.map_append, -List.map_reverse])) rfl))) (by simp [-List.map_take, -List.map_drop, -List.map_append, -List.map_reverse]) (Or.inl (by simp [-List.map_take, -List.map_drop, -List.map_append, -List.map_reverse])) ?_)))))))
 refine R_alloc (i := 23) (n := 0) (m := 5) rfl (congrArg Blk.ver h23) rfl (R_store (vs := [(V.bool ((ptN (⟨false, ([]), (cat ([sf])), ([]), ([])⟩ : Nd) (cat ([outs])) (((t.nd.length : Nat) : Int))).lf)), (ints ((ptN (⟨false, ([]), (cat ([sf])), ([]), ([])⟩ : Nd) (cat ([outs])) (((t.nd.length : Nat) : Int))).ac)), (ints ((ptN (⟨false, ([]), (cat ([sf])), ([]), ([])⟩ : Nd) (cat ([outs])) (((t.nd.length : Nat) : Int))).sf)), (intss ((ptN (⟨false, ([]), (cat ([sf])), ([]), ([])⟩ : Nd) (cat ([outs])) (((t.nd.length : Nat) : Int))).ou)), (ints ((ptN (⟨false, ([]), (cat ([sf])), ([]), ([])⟩ : Nd) (cat ([outs])) (((t.nd.length : Nat) : Int))).kd))]) (B' := (bk 1 68 5 [(cN ((ptN (⟨false, ([]), (cat ([sf])), ([]), ([])⟩ : Nd) (cat ([outs])) (((t.nd.length : Nat) : Int)))))])) rfl rfl rfl rfl (sB oB rfl rfl rfl rfl rfl) (R_e (W_r (R_fld_mp (o' := 0) rfl rfl oB rfl (R_load_mp (v := (V.ms 353 (0 + 1 + t.nd.length) 0 (t.nd.length))) rfl rfl (lB oB rfl rfl) (R_mv t1 (R_load_mp (v := (V.agg (cN ((ptN (⟨false, ([]), (cat ([sf])), ([]), ([])⟩ : Nd) (cat ([outs])) (((t.nd.length : Nat) : Int))))))) rfl rfl (lB oB rfl rfl) ?_)))))))
 refine R_mv t5 (R_bslice (qs := [(0, (ints other))]) (rows := [[(ints other)]]) (mcons (congrArg (fun v => (0, v)) rfl) rfl) rfl (R_callc (evcons rfl evnil) (join_pure ([other]) (by simp only [cat, List.append_nil]; omega)) (R_mv (@rfl V (iV ((t.nd.length : Nat) : Int))) (R_addN rfl (@rfl V (iV ((1 : Nat) : Int))) (by first | omega | (simp; omega)) (R_callc (evcons rfl (evcons rfl (evcons rfl evnil))) (put_pure ((ptN (⟨false, ([]), (cat ([sf])), ([]), ([])⟩ : Nd) (cat ([outs])) (((t.nd.length : Nat) : Int)))) (cat ([other])) (((t.nd.length + 1 : Nat) : Int)) (by simp [ptN, inW_len]) (by simp [ptN, inW_len])) (R_idxI_ms0 (i := (n)) (@rfl V (V.ms 353 (0 + 1 + t.nd.length) 0 (t.nd.length))) (@rfl V (iV (n))) (@rfl Blk (bz (0 + 1 + t.nd.length) 68 5 (List.map cN (t.nd)))) (okB_map (by first | omega | (simp; omega))) rfl (by first | omega | (simp; omega)) (by first | omega | (simp; omega)) (R_store (vs := [(V.bool ((ptN ((ptN (⟨false, ([]), (cat ([sf])), ([]), ([])⟩ : Nd) (cat ([outs])) (((t.nd.length : Nat) : Int)))) (cat ([other])) (((t.nd.length + 1 : Nat) : Int))).lf)), (ints ((ptN ((ptN (⟨false, ([]), (cat ([sf])), ([]), ([])⟩ : Nd) (cat ([outs])) (((t.nd.length : Nat) : Int)))) (cat ([other])) (((t.nd.length + 1 : Nat) : Int))).ac)), (ints ((ptN ((ptN (⟨false, ([]), (cat ([sf])), ([]), ([])⟩ : Nd) (cat ([outs])) (((t.nd.length : Nat) : Int)))) (cat ([other])) (((t.nd.length + 1 : Nat) : Int))).sf)), (intss ((ptN ((ptN (⟨false, ([]), (cat ([sf])), ([]), ([])⟩ : Nd) (cat ([outs])) (((t.nd.length : Nat) : Int)))) (cat ([other])) (((t.nd.length + 1 : Nat) : Int))).ou)), (ints ((ptN ((ptN (⟨false, ([]), (cat ([sf])), ([]), ([])⟩ : Nd) (cat ([outs])) (((t.nd.length : Nat) : Int)))) (cat ([other])) (((t.nd.length + 1 : Nat) : Int))).kd))]) (B' := (bz (0 + 1 + t.nd.length) 68 5 (List.map cN ((t.nd).set (((n)).toNat) ((ptN ((ptN (⟨false, ([]), (cat ([sf])), ([]), ([])⟩ : Nd) (cat ([outs])) (((t.nd.length : Nat) : Int)))) (cat ([other])) (((t.nd.length + 1 : Nat) : Int)))))))) rfl rfl rfl (@rfl Blk (bz (0 + 1 + t.nd.length) 68 5 (List.map cN (t.nd)))) (stB_map (x := ((ptN ((ptN (⟨false, ([]), (cat ([sf])), ([]), ([])⟩ : Nd) (cat ([outs])) (((t.nd.length : Nat) : Int)))) (cat ([other])) (((t.nd.length + 1 : Nat) : Int))))) (i := (((n)).toNat)) (by first | omega | (simp; omega)) rfl rfl rfl rfl) ?_)))))))
 refine R_e ?_
 refine W_seq_g (fun T H => T 12 = (V.mp 12 1 0 0) ∧ T 21 = (V.mp 21 1 0 0) ∧ H 6 = (bk 1 24 1 [[(V.sl (List.map cN (t.nd)))]]) ∧ H 12 = (bk 1 24 1 [[V.nilsl]]) ∧ H 21 = (bk 1 24 1 [[(V.ms 353 (0 + 1 + t.nd.length + 1) 0 (t.nd.length + 2))]]) ∧ H 23 = (bk 1 68 5 [(cN ((ptN (⟨false, ([]), (cat ([sf])), ([]), ([])⟩ : Nd) (cat ([outs])) (((t.nd.length : Nat) : Int)))))]) ∧ H 301 = (⟨1, false, false, 0, 0, []⟩ : Blk) ∧ H 302 = (⟨1, false, false, 0, 0, []⟩ : Blk) ∧ H 303 = (⟨1, false, false, 0, 0, []⟩ : Blk) ∧ H 305 = (⟨0 + t.nd.length, false, false, 0, 0, []⟩ : Blk) ∧ H 306 = (⟨0 + t.nd.length, false, false, 0, 0, []⟩ : Blk) ∧ H 353 = (bz (0 + 1 + t.nd.length + 1) 68 5 (List.map cN ((t.nd).set (((n)).toNat) ((ptN ((ptN (⟨false, ([]), (cat ([sf])), ([]), ([])⟩ : Nd) (cat ([outs])) (((t.nd.length : Nat) : Int)))) (cat ([other])) (((t.nd.length + 1 : Nat) : Int))))) ++ [[(V.bool true), (ints (((nth (t.nd) (((n)).toNat))).ac)), V.nilsl, V.nilsl, V.nilsl], [(V.bool true), (ints (cat ([w]))), V.nilsl, V.nilsl, V.nilsl]])) ∧ H 363 = (⟨0 + t.nd.length * 1048579, false, false, 0, 0, []⟩ : Blk) ∧ True) ?_ ?_
 ·
  refine R_fld_mp (o' := 0) rfl rfl oB rfl (R_load_mp (v := (V.ms 353 (0 + 1 + t.nd.length) 0 (t.nd.length))) rfl rfl (lB oB rfl rfl) (R_mv (@rfl V (ints (((nth (t.nd) (((n)).toNat))).ac))) (R_build (qs := [(0, 1, (V.bool true)), (1, 1, (ints (((nth (t.nd) (((n)).toNat))).ac)))]) (cs := [(V.bool true), (ints (((nth (t.nd) (((n)).toNat))).ac)), V.nilsl, V.nilsl, V.nilsl]) (mcons (congrArg (fun v => (0, 1, v)) rfl) (mcons (congrArg (fun v => (1, 1, v)) rfl) rfl)) rfl (R_mv t4 (R_bslice (qs := [(0, (ints w))]) (rows := [[(ints w)]]) (mcons (congrArg (fun v => (0, v)) rfl) rfl) rfl (R_callc (evcons rfl evnil) (join_pure ([w]) (by simp only [cat, List.append_nil]; omega)) (R_build (qs := [(0, 1, (V.bool true)), (1, 1, (ints (cat ([w]))))]) (cs := [(V.bool true), (ints (cat ([w]))), V.nilsl, V.nilsl, V.nilsl]) (mcons (congrArg (fun v => (0, 1, v)) rfl) (mcons (congrArg (fun v => (1, 1, v)) rfl) rfl)) rfl ?_)))))))
  refine R_bslice (qs := [(0, (V.agg [(V.bool true), (ints (((nth (t.nd) (((n)).toNat))).ac)), V.nilsl, V.nilsl, V.nilsl])), (1, (V.agg [(V.bool true), (ints (cat ([w]))), V.nilsl, V.nilsl, V.nilsl]))]) (rows := [[(V.bool true), (ints (((nth (t.nd) (((n)).toNat))).ac)), V.nilsl, V.nilsl, V.nilsl], [(V.bool true), (ints (cat ([w]))), V.nilsl, V.nilsl, V.nilsl]]) (mcons (congrArg (fun v => (0, v)) rfl) (mcons (congrArg (fun v => (1, v)) rfl) rfl)) rfl (R_appendN (l := ((t.nd).set (((n)).toNat) ((ptN ((ptN (⟨false, ([]), (cat ([sf])), ([]), ([])⟩ : Nd) (cat ([outs])) (((t.nd.length : Nat) : Int)))) (cat ([other])) (((t.nd.length + 1 : Nat) : Int)))))) (f := cN) (@rfl V (V.ms 353 (0 + 1 + t.nd.length) 0 (t.nd.length))) (@rfl Blk (bz (0 + 1 + t.nd.length) 68 5 (List.map cN ((t.nd).set (((n)).toNat) ((ptN ((ptN (⟨false, ([]), (cat ([sf])), ([]), ([])⟩ : Nd) (cat ([outs])) (((t.nd.length : Nat) : Int)))) (cat ([other])) (((t.nd.length + 1 : Nat) : Int)))))))) (by first | rfl | simp | omega) (@rfl V (V.sl [[(V.bool true), (ints (((nth (t.nd) (((n)).toNat))).ac)), V.nilsl, V.nilsl, V.nilsl], [(V.bool true), (ints (cat ([w]))), V.nilsl, V.nilsl, V.nilsl]])) (by simp [fitRows, V.one]) (by first | omega | (simp; omega)) (by first | omega | (simp; omega)) (R_fld_mp (o' := 0) rfl rfl oB rfl (R_store (vs := [(V.ms 353 (0 + 1 + t.nd.length + 1) 0 (t.nd.length + 2))]) (B' := (bk 1 24 1 [[(V.ms 353 (0 + 1 + t.nd.length + 1) 0 (t.nd.length + 2))]])) rfl rfl rfl rfl (sB oB rfl rfl rfl rfl rfl) ?_)))
  exact R_nil ⟨t12, rfl, h6, h12, rfl, rfl, rfl, rfl, rfl, rfl, rfl, rfl, rfl, trivial⟩
 intro T H ⟨t12, t21, h6, h12, h21, h23, h301, h302, h303, h305, h306, h353, h363, _⟩
 refine nza_map (l := ((t.nd).set (((n)).toNat) ((ptN ((ptN (⟨false, ([]), (cat ([sf])), ([]), ([])⟩ : Nd) (cat ([outs])) (((t.nd.length : Nat) : Int)))) (cat ([other])) (((t.nd.length + 1 : Nat) : Int)))))) (m := ([(⟨true, ((nth (t.nd) (((n)).toNat))).ac, [], [], []⟩ : Nd), (⟨true, cat ([w]), [], [], []⟩ : Nd)])) (f := cN) h353 rfl (.done ?_)
 refine fork_ (R := fun T H => T 12 = (V.mp 12 1 0 0) ∧ T 21 = (V.mp 21 1 0 0) ∧ H 6 = (bk 1 24 1 [[(V.sl (List.map cN (t.nd)))]]) ∧ H 12 = (bk 1 24 1 [[V.nilsl]]) ∧ H 21 = (bk 1 24 1 [[(V.ms 353 (0 + 1 + t.nd.length + 1) 0 (t.nd.length + 2))]]) ∧ H 23 = (bk 1 68 5 [(cN ((ptN (⟨false, ([]), (cat ([sf])), ([]), ([])⟩ : Nd) (cat ([outs])) (((t.nd.length : Nat) : Int)))))]) ∧ H 301 = (⟨1, false, false, 0, 0, []⟩ : Blk) ∧ H 302 = (⟨1, false, false, 0, 0, []⟩ : Blk) ∧ H 303 = (⟨1, false, false, 0, 0, []⟩ : Blk) ∧ H 305 = (⟨0 + t.nd.length, false, false, 0, 0, []⟩ : Blk) ∧ H 306 = (⟨0 + t.nd.length, false, false, 0, 0, []⟩ : Blk) ∧ H 353 = (bz (0 + 1 + t.nd.length + 1) 68 5 (List.map cN ((t.nd).set (((n)).toNat) ((ptN ((ptN (⟨false, ([]), (cat ([sf])), ([]), ([])⟩ : Nd) (cat ([outs])) (((t.nd.length : Nat) : Int)))) (cat ([other])) (((t.nd.length + 1 : Nat) : Int)))) ++ [(⟨true, ((nth (t.nd) (((n)).toNat))).ac, [], [], []⟩ : Nd), (⟨true, cat ([w]), [], [], []⟩ : Nd)]))) ∧ H 363 = (⟨0 + t.nd.length * 1048579, false, false, 0, 0, []⟩ : Blk) ∧ True) ⟨t12, t21, ((upd_ne _ _ (by decide)).trans h6), ((upd_ne _ _ (by decide)).trans h12), ((upd_ne _ _ (by decide)).trans h21), ((upd_ne _ _ (by decide)).trans h23), ((upd_ne _ _ (by decide)).trans h301), ((upd_ne _ _ (by decide)).trans h302), ((upd_ne _ _ (by decide)).trans h303), ((upd_ne _ _ (by decide)).trans h305), ((upd_ne _ _ (by decide)).trans h306), (upd_same _ _ _), ((upd_ne _ _ (by decide)).trans h363), trivial⟩ ?_
 intro T H ⟨t12, t21, h6, h12, h21, h23, h301, h302, h303, h305, h306, h353, h363, _⟩
 refine W_r (R_load_mp (v := (V.agg [(V.ms 353 (0 + 1 + t.nd.length + 1) 0 (t.nd.length + 2))])) t21 h21 (lB oB rfl rfl) (R_store (vs := [(V.ms 353 (0 + 1 + t.nd.length + 1) 0 (t.nd.length + 2))]) (B' := (bk 1 24 1 [[(V.ms 353 (0 + 1 + t.nd.length + 1) 0 (t.nd.length + 2))]])) t12 rfl rfl h12 (sB oB rfl rfl rfl rfl rfl) (R_mv (@rfl V (iV (0 : Int))) (R_e (W_ret ?_)))))
 refine RetC_2 (resV_c (u := (V.agg [(V.ms 353 (0 + 1 + t.nd.length + 1) 0 (t.nd.length + 2))])) t12 (@rfl Blk (bk 1 24 1 [[(V.ms 353 (0 + 1 + t.nd.length + 1) 0 (t.nd.length + 2))]])) (lB oB rfl rfl)) (resV_t (@rfl V (iV (0 : Int)))) (fz_agg1 (fz_ms h353 (by first | rfl | simp) (l := ((t.nd).set (((n)).toNat) ((ptN ((ptN (⟨false, ([]), (cat ([sf])), ([]), ([])⟩ : Nd) (cat ([outs])) (((t.nd.length : Nat) : Int)))) (cat ([other])) (((t.nd.length + 1 : Nat) : Int)))) ++ [(⟨true, ((nth (t.nd) (((n)).toNat))).ac, [], [], []⟩ : Nd), (⟨true, cat ([w]), [], [], []⟩ : Nd)])) rfl (by first | rfl | simp | omega) (fun _ => by simp) ?_)) (fz_int ?_)
 · have z9 : spE t n sf outs w other = 0 := by
     unfold spE; rw [if_neg (by omega)]; unfold spsE; rw [if_neg (by omega), if_neg (by omega), if_neg (by omega), if_neg (by omega), if_neg (by omega), if_neg (by omega), if_neg d6, if_neg (by omega)]
   rw [spT_yes z9, ← sp_put (sf := sf) (n := t.nd.length) d6, ← leaf_eq hv nb n2]; simp [cat1, lfN]
 · have z9 : spE t n sf outs w other = 0 := by
     unfold spE; rw [if_neg (by omega)]; unfold spsE; rw [if_neg (by omega), if_neg (by omega), if_neg (by omega), if_neg (by omega), if_neg (by omega), if_neg (by omega), if_neg d6, if_neg (by omega)]
   exact z9.symm
theorem law6_pure (t : Dt) (c : Ct) : PureC Tryz.prog 6 [(V.agg [(V.sl (List.map cN (t.nd)))]), (V.agg [(iV (c.lf)), (ints c.sf), (ints c.ou), (ints c.ac), (ints c.ot)])] (V.bool true) := by
 refine pW Tryz.func6 s6_ok fun hB => ?_
 unfold s6
 dsimp only
 refine W_r (R_box (i := 2) (n := 0) (m := 1) (cs := [(V.sl (List.map cN (t.nd)))]) rfl (congrArg Blk.ver rfl) rfl rfl rfl (R_box (i := 3) (n := 0) (m := 5) (cs := [(iV (c.lf)), (ints c.sf), (ints c.ou), (ints c.ac), (ints c.ot)]) rfl (congrArg Blk.ver rfl) rfl rfl rfl (R_mv (@rfl V (V.bool false)) (R_e (W_seq_seq (W_r (R_load_mp (v := (V.agg [(V.sl (List.map cN (t.nd)))])) rfl rfl (lB oB rfl rfl) ?_)))))))
 refine R_callc (evcons rfl evnil) (great_pure t) (R_mv (@rfl V (V.bool (bgT t))) ?_)
 refine Ops_seg 3 (fun T H => T 2 = (V.mp 2 1 0 0) ∧ T 3 = (V.mp 3 1 0 0) ∧ T 14 = (V.bool (((bgT t) || (lgC c)))) ∧ H 2 = (bk 1 24 1 [[(V.sl (List.map cN (t.nd)))]]) ∧ H 3 = (bk 1 53 5 [[(iV (c.lf)), (ints c.sf), (ints c.ou), (ints c.ac), (ints c.ot)]]) ∧ H 5 = (⟨0, false, false, 0, 0, []⟩ : Blk) ∧ H 7 = (⟨0, false, false, 0, 0, []⟩ : Blk) ∧ True) ?_ ?_
 ·
  by_cases g1 : (bgT t) = true
  ·
   refine G_n (ebT g1 rfl) (G_n (ebT g1 rfl) (R_pickT (ebT g1 rfl) rfl ?_))
   exact ⟨rfl, rfl, (borT g1), rfl, rfl, rfl, rfl, trivial⟩
  ·
   refine G_yes (ebF g1 rfl) (R_load_mp (v := (V.agg [(iV (c.lf)), (ints c.sf), (ints c.ou), (ints c.ac), (ints c.ot)])) rfl rfl (lB oB rfl rfl) (G_yes (ebF g1 rfl) (R_callc (evcons rfl evnil) (long_pure c) (R_pickF (ebF g1 rfl) rfl ?_))))
   exact ⟨rfl, rfl, (borF g1), rfl, rfl, rfl, rfl, trivial⟩
 intro T H ⟨t2, t3, t14, h2, h3, h5, h7, _⟩
 refine R_e ?_
 refine W_seq_ifb t14 (fun c2 => ?_) (fun c2 => ?_)
 ·
  refine W_seq_seq (W_r (R_callc evnil (aw_learnerlaw26_awake_pure) (R_mv (@rfl V (V.bool true)) (R_e (W_seq_ret ?_)))))
  refine Ret_1 (@rfl V (V.bool true)) (fz_canon (by simp) rfl)
 have q1 := c2
 simp only [Bool.or_eq_false_iff] at q1
 have hb := bg_bd (t := t) q1.1
 obtain ⟨l1, l2, l3, l4⟩ := lgC_ok q1.2
 refine W_seq_skip (W_r (R_load_mp (v := (V.agg [(V.sl (List.map cN (t.nd)))])) t2 h2 (lB oB rfl rfl) (R_fld_mp (o' := 0) t3 h3 oB rfl (R_load_mp (v := (iV (c.lf))) rfl h3 (lB oB rfl rfl) (R_fld_mp (o' := 1) t3 h3 oB rfl (R_load_mp (v := (ints c.sf)) rfl h3 (lB oB rfl rfl) (R_fld_mp (o' := 2) t3 h3 oB rfl ?_)))))))
 refine R_load_mp (v := (ints c.ou)) rfl h3 (lB oB rfl rfl) (R_fld_mp (o' := 3) t3 h3 oB rfl (R_load_mp (v := (ints c.ac)) rfl h3 (lB oB rfl rfl) (R_fld_mp (o' := 4) t3 h3 oB rfl (R_load_mp (v := (ints c.ot)) rfl h3 (lB oB rfl rfl) (R_callc (evcons rfl (evcons rfl (evcons rfl (evcons rfl (evcons rfl (evcons rfl evnil)))))) (dsplit_pure t ((c.lf)) c.sf c.ou c.ac c.ot hb (by first | omega | assumption) (by first | omega | assumption) (by first | omega | assumption) (by first | omega | assumption)) (R_mv (@rfl V (V.tup [(V.agg [(V.sl (List.map cN ((spT t ((c.lf)) c.sf c.ou c.ac c.ot).nd)))]), (iV (spE t ((c.lf)) c.sf c.ou c.ac c.ot))])) (R_ext (v := (V.agg [(V.sl (List.map cN ((spT t ((c.lf)) c.sf c.ou c.ac c.ot).nd)))])) rfl rfl ?_)))))))
 refine R_ext (v := (iV (spE t ((c.lf)) c.sf c.ou c.ac c.ot))) rfl rfl (R_alloc (i := 5) (n := 0) (m := 1) rfl (congrArg Blk.ver h5) rfl (R_store (vs := [(V.sl (List.map cN ((spT t ((c.lf)) c.sf c.ou c.ac c.ot).nd)))]) (B' := (bk 1 24 1 [[(V.sl (List.map cN ((spT t ((c.lf)) c.sf c.ou c.ac c.ot).nd)))]])) rfl rfl rfl rfl (sB oB rfl rfl rfl rfl rfl) (R_mv (@rfl V (iV (spE t ((c.lf)) c.sf c.ou c.ac c.ot))) (R_e ?_))))
 refine W_seq_regc (fun T H => T 5 = (V.mp 5 1 0 0) ∧ T 6 = (iV (spE t ((c.lf)) c.sf c.ou c.ac c.ot)) ∧ T 7 = (V.mp 7 1 0 0) ∧ T 8 = (iV (spE t ((c.lf)) c.sf c.ou c.ac c.ot)) ∧ H 2 = (bk 1 24 1 [[(V.sl (List.map cN (t.nd)))]]) ∧ H 3 = (bk 1 53 5 [[(iV (c.lf)), (ints c.sf), (ints c.ou), (ints c.ac), (ints c.ot)]]) ∧ H 5 = (bk 1 24 1 [[(V.sl (List.map cN ((spT t ((c.lf)) c.sf c.ou c.ac c.ot).nd)))]]) ∧ H 7 = (bk 1 24 1 [[(V.sl (List.map cN ((spT t ((c.lf)) c.sf c.ou c.ac c.ot).nd)))]]) ∧ True) ?_ ?_
 ·
  refine R_load_mp (v := (V.agg [(V.sl (List.map cN (t.nd)))])) t2 h2 (lB oB rfl rfl) (R_fld_mp (o' := 0) t3 h3 oB rfl (R_load_mp (v := (iV (c.lf))) rfl h3 (lB oB rfl rfl) (R_fld_mp (o' := 1) t3 h3 oB rfl (R_load_mp (v := (ints c.sf)) rfl h3 (lB oB rfl rfl) (R_fld_mp (o' := 2) t3 h3 oB rfl (R_load_mp (v := (ints c.ou)) rfl h3 (lB oB rfl rfl) (R_fld_mp (o' := 3) t3 h3 oB rfl ?_)))))))
  refine R_load_mp (v := (ints c.ac)) rfl h3 (lB oB rfl rfl) (R_fld_mp (o' := 4) t3 h3 oB rfl (R_load_mp (v := (ints c.ot)) rfl h3 (lB oB rfl rfl) (R_callc (evcons rfl (evcons rfl (evcons rfl (evcons rfl (evcons rfl (evcons rfl evnil)))))) (rsplit_pure t ((c.lf)) c.sf c.ou c.ac c.ot hb (by first | omega | assumption) (by first | omega | assumption) (by first | omega | assumption) (by first | omega | assumption)) (R_mv (@rfl V (V.tup [(V.agg [(V.sl (List.map cN ((spT t ((c.lf)) c.sf c.ou c.ac c.ot).nd)))]), (iV (spE t ((c.lf)) c.sf c.ou c.ac c.ot))])) (R_ext (v := (V.agg [(V.sl (List.map cN ((spT t ((c.lf)) c.sf c.ou c.ac c.ot).nd)))])) rfl rfl (R_ext (v := (iV (spE t ((c.lf)) c.sf c.ou c.ac c.ot))) rfl rfl (R_alloc (i := 7) (n := 0) (m := 1) rfl (congrArg Blk.ver h7) rfl ?_)))))))
  refine R_store (vs := [(V.sl (List.map cN ((spT t ((c.lf)) c.sf c.ou c.ac c.ot).nd)))]) (B' := (bk 1 24 1 [[(V.sl (List.map cN ((spT t ((c.lf)) c.sf c.ou c.ac c.ot).nd)))]])) rfl rfl rfl rfl (sB oB rfl rfl rfl rfl rfl) (R_mv (@rfl V (iV (spE t ((c.lf)) c.sf c.ou c.ac c.ot))) ?_)
  exact R_nil ⟨rfl, rfl, rfl, rfl, h2, h3, rfl, rfl, trivial⟩
 intro T H ⟨t5, t6, t7, t8, h2, h3, h5, h7, _⟩
 refine W_r (R_load_mp (v := (V.agg [(V.sl (List.map cN ((spT t ((c.lf)) c.sf c.ou c.ac c.ot).nd)))])) t5 h5 (lB oB rfl rfl) (R_load_mp (v := (V.agg [(V.sl (List.map cN ((spT t ((c.lf)) c.sf c.ou c.ac c.ot).nd)))])) t7 h7 (lB oB rfl rfl) (R_callc (evcons rfl (evcons rfl evnil)) (dsame_pure ((spT t ((c.lf)) c.sf c.ou c.ac c.ot)) ((spT t ((c.lf)) c.sf c.ou c.ac c.ot))) (R_mv (@rfl V (V.bool (decide (((spT t ((c.lf)) c.sf c.ou c.ac c.ot)) = ((spT t ((c.lf)) c.sf c.ou c.ac c.ot)))))) ?_))))
 refine Ops_seg 4 (fun T H => T 53 = (V.bool (decide ((((spT t ((c.lf)) c.sf c.ou c.ac c.ot)) = ((spT t ((c.lf)) c.sf c.ou c.ac c.ot))) ∧ ((spE t ((c.lf)) c.sf c.ou c.ac c.ot) = (spE t ((c.lf)) c.sf c.ou c.ac c.ot))))) ∧ H 2 = (bk 1 24 1 [[(V.sl (List.map cN (t.nd)))]]) ∧ H 3 = (bk 1 53 5 [[(iV (c.lf)), (ints c.sf), (ints c.ou), (ints c.ac), (ints c.ot)]]) ∧ H 5 = (bk 1 24 1 [[(V.sl (List.map cN ((spT t ((c.lf)) c.sf c.ou c.ac c.ot).nd)))]]) ∧ H 7 = (bk 1 24 1 [[(V.sl (List.map cN ((spT t ((c.lf)) c.sf c.ou c.ac c.ot).nd)))]]) ∧ True) ?_ ?_
 ·
  by_cases g3 : ((spT t ((c.lf)) c.sf c.ou c.ac c.ot)) = ((spT t ((c.lf)) c.sf c.ou c.ac c.ot))
  ·
   refine G_yes (edT g3 rfl) (R_mv t6 (G_yes (edT g3 rfl) (R_mv t8 (G_yes (edT g3 rfl) (R_eql rfl rfl (R_pickT (edT g3 rfl) rfl ?_))))))
   exact ⟨(dec_andT g3), h2, h3, h5, h7, trivial⟩
  ·
   refine G_n (edF g3 rfl) (G_n (edF g3 rfl) (G_n (edF g3 rfl) (R_pickF (edF g3 rfl) rfl ?_)))
   exact ⟨(dec_andF g3), h2, h3, h5, h7, trivial⟩
 intro T H ⟨t53, h2, h3, h5, h7, _⟩
 refine R_mv t53 ?_
 refine Ops_seg 2 (fun T H => T 56 = (V.bool (decide ((((spT t ((c.lf)) c.sf c.ou c.ac c.ot)) = ((spT t ((c.lf)) c.sf c.ou c.ac c.ot))) ∧ ((spE t ((c.lf)) c.sf c.ou c.ac c.ot) = (spE t ((c.lf)) c.sf c.ou c.ac c.ot))))) ∧ H 2 = (bk 1 24 1 [[(V.sl (List.map cN (t.nd)))]]) ∧ H 3 = (bk 1 53 5 [[(iV (c.lf)), (ints c.sf), (ints c.ou), (ints c.ac), (ints c.ot)]]) ∧ H 5 = (bk 1 24 1 [[(V.sl (List.map cN ((spT t ((c.lf)) c.sf c.ou c.ac c.ot).nd)))]]) ∧ H 7 = (bk 1 24 1 [[(V.sl (List.map cN ((spT t ((c.lf)) c.sf c.ou c.ac c.ot).nd)))]]) ∧ True) ?_ ?_
 ·
  by_cases g4 : (((spT t ((c.lf)) c.sf c.ou c.ac c.ot)) = ((spT t ((c.lf)) c.sf c.ou c.ac c.ot))) ∧ ((spE t ((c.lf)) c.sf c.ou c.ac c.ot) = (spE t ((c.lf)) c.sf c.ou c.ac c.ot))
  ·
   refine G_yes (edT g4 rfl) (R_callc evnil (aw_learnerlaw26_awake_pure) (R_pickT (edT g4 rfl) rfl ?_))
   exact ⟨(dec_T g4), h2, h3, h5, h7, trivial⟩
  ·
   refine G_n (edF g4 rfl) (R_pickF (edF g4 rfl) rfl ?_)
   exact ⟨(dec_F g4), h2, h3, h5, h7, trivial⟩
 intro T H ⟨t56, h2, h3, h5, h7, _⟩
 refine R_mv t56 (R_e (W_ret ?_))
 refine Ret_1 (@rfl V (V.bool (decide ((((spT t ((c.lf)) c.sf c.ou c.ac c.ot)) = ((spT t ((c.lf)) c.sf c.ou c.ac c.ot))) ∧ ((spE t ((c.lf)) c.sf c.ou c.ac c.ot) = (spE t ((c.lf)) c.sf c.ou c.ac c.ot)))))) (fz_bool ?_)
 · simp
end Go.Proofs.YtmnjchcoigbngaaGreat
namespace Go.Proofs.YtmnjchcoigbngaaGreat
open Go Go.Proofs Go.Proofs.YtmnjchcoigbngaaGreat Go.ChangeShapes Go.WideShapes Go.ChangeAt Go.RowKit
structure UT (P : Program) : Prop where
  u22 : P.underlying 22 = some (.slice 68)
  u4 : P.underlying 4 = some (.bool)
  u38 : P.underlying 38 = some (.slice 3)
  u3 : P.underlying 3 = some (.int .i64)
  u31 : P.underlying 31 = some (.slice 38)
  u68 : ∃ f0 f1 f2 f3 f4 : Field, P.underlying 68 = some (.struct #[f0, f1, f2, f3, f4]) ∧ f0.type = 4 ∧ f1.type = 38 ∧ f2.type = 38 ∧ f3.type = 31 ∧ f4.type = 38
  u24 : ∃ f0 : Field, P.underlying 24 = some (.struct #[f0]) ∧ f0.type = 22
  u53 : ∃ f0 f1 f2 f3 f4 : Field, P.underlying 53 = some (.struct #[f0, f1, f2, f3, f4]) ∧ f0.type = 3 ∧ f1.type = 38 ∧ f2.type = 38 ∧ f3.type = 38 ∧ f4.type = 38
theorem sh4 {P : Program} (U : UT P) (n : Nat) (vs : List V) (h : Shp P (n + 1) 4 vs) : ∃ a : Bool, vs = (fun b => [V.bool b]) a := shp_bool U.u4 h
theorem sh3 {P : Program} (U : UT P) (n : Nat) (vs : List V) (h : Shp P (n + 1) 3 vs) : ∃ a : Int, vs = cI a := shp_int U.u3 h
theorem sh38 {P : Program} (U : UT P) (n : Nat) (vs : List V) (h : Shp P (n + 2) 38 vs) : ∃ a : List Int, vs = cL a := shp_slice (f := cI) U.u38 (fun vs h => sh3 U n vs h) h
theorem sh31 {P : Program} (U : UT P) (n : Nat) (vs : List V) (h : Shp P (n + 3) 31 vs) : ∃ a : List (List Int), vs = (fun l => [V.sl (List.map cL l)]) a := shp_slice (f := cL) U.u31 (fun vs h => sh38 U n vs h) h
theorem sh68 {P : Program} (U : UT P) (n : Nat) (vs : List V) (h : Shp P (n + 4) 68 vs) : ∃ a : Nd, vs = cN a := by
  obtain ⟨f0, f1, f2, f3, f4, hu, k0, k1, k2, k3, k4⟩ := U.u68
  have h0 := shp_step hu h
  obtain ⟨x0, u0, e0, h1⟩ := shpL_cons (c := (fun b => [V.bool b])) (fun vs h => sh4 U (n + 2) vs (by rw [k0] at h; exact h)) h0
  obtain ⟨x1, u1, e1, h2⟩ := shpL_cons (c := cL) (fun vs h => sh38 U (n + 1) vs (by rw [k1] at h; exact h)) h1
  obtain ⟨x2, u2, e2, h3⟩ := shpL_cons (c := cL) (fun vs h => sh38 U (n + 1) vs (by rw [k2] at h; exact h)) h2
  obtain ⟨x3, u3, e3, h4⟩ := shpL_cons (c := (fun l => [V.sl (List.map cL l)])) (fun vs h => sh31 U (n + 0) vs (by rw [k3] at h; exact h)) h3
  obtain ⟨x4, u4, e4, h5⟩ := shpL_cons (c := cL) (fun vs h => sh38 U (n + 1) vs (by rw [k4] at h; exact h)) h4
  have e5 := shpL_nil h5
  exact ⟨⟨x0, x1, x2, x3, x4⟩, by rw [e0, e1, e2, e3, e4, e5]; rfl⟩
theorem sh22 {P : Program} (U : UT P) (n : Nat) (vs : List V) (h : Shp P (n + 5) 22 vs) : ∃ a : List Nd, vs = (fun l => [V.sl (List.map cN l)]) a := shp_slice (f := cN) U.u22 (fun vs h => sh68 U n vs h) h
theorem sh24 {P : Program} (U : UT P) (n : Nat) (vs : List V) (h : Shp P (n + 6) 24 vs) : ∃ a : Dt, vs = cD a := by
  obtain ⟨f0, hu, k0⟩ := U.u24
  have h0 := shp_step hu h
  obtain ⟨x0, u0, e0, h1⟩ := shpL_cons (c := (fun l => [V.sl (List.map cN l)])) (fun vs h => sh22 U (n + 0) vs (by rw [k0] at h; exact h)) h0
  have e1 := shpL_nil h1
  exact ⟨⟨x0⟩, by rw [e0, e1]; rfl⟩
theorem sh53 {P : Program} (U : UT P) (n : Nat) (vs : List V) (h : Shp P (n + 3) 53 vs) : ∃ a : Ct, vs = cCt a := by
  obtain ⟨f0, f1, f2, f3, f4, hu, k0, k1, k2, k3, k4⟩ := U.u53
  have h0 := shp_step hu h
  obtain ⟨x0, u0, e0, h1⟩ := shpL_cons (c := cI) (fun vs h => sh3 U (n + 1) vs (by rw [k0] at h; exact h)) h0
  obtain ⟨x1, u1, e1, h2⟩ := shpL_cons (c := cL) (fun vs h => sh38 U (n + 0) vs (by rw [k1] at h; exact h)) h1
  obtain ⟨x2, u2, e2, h3⟩ := shpL_cons (c := cL) (fun vs h => sh38 U (n + 0) vs (by rw [k2] at h; exact h)) h2
  obtain ⟨x3, u3, e3, h4⟩ := shpL_cons (c := cL) (fun vs h => sh38 U (n + 0) vs (by rw [k3] at h; exact h)) h3
  obtain ⟨x4, u4, e4, h5⟩ := shpL_cons (c := cL) (fun vs h => sh38 U (n + 0) vs (by rw [k4] at h; exact h)) h4
  have e5 := shpL_nil h5
  exact ⟨⟨x0, x1, x2, x3, x4⟩, by rw [e0, e1, e2, e3, e4, e5]; rfl⟩
theorem ut : UT Tryz.prog := ⟨by kernel_rfl, by kernel_rfl, by kernel_rfl, by kernel_rfl, by kernel_rfl, ⟨_, _, _, _, _, Tryz.underlying68, rfl, rfl, rfl, rfl, rfl⟩, ⟨_, Tryz.underlying24, rfl⟩, ⟨_, _, _, _, _, Tryz.underlying53, rfl, rfl, rfl, rfl, rfl⟩⟩
theorem args6 {P : Program} (U : UT P) {us : List V} (h : ShpA P 7 [24, 53] us) : ∃ (d0 : Dt) (d1 : Ct), us = [V.agg (cD d0), V.agg (cCt d1)] := by
  obtain ⟨a0, b0, e0, h0, h⟩ := shpA_cons h
  obtain ⟨d0, g0⟩ := sh24 U 1 a0 h0
  have q0 : packV P 24 a0 = V.agg (cD d0) := by obtain ⟨_, hu, _⟩ := U.u24; rw [g0]; exact pack_struct hu _
  obtain ⟨a1, b1, e1, h1, h⟩ := shpA_cons h
  obtain ⟨d1, g1⟩ := sh53 U 4 a1 h1
  have q1 : packV P 53 a1 = V.agg (cCt d1) := by obtain ⟨_, _, _, _, _, hu, _⟩ := U.u53; rw [g1]; exact pack_struct hu _
  have e2 := shpA_nil h
  exact ⟨d0, d1, by rw [e0, q0, e1, q1, e2]⟩
theorem own6 : ownKnob Tryz.prog.godebug = none := by kernel_rfl
set_option maxRecDepth 100000 in
theorem lifted6 (os : Os) (started : os.Started) (H : Type) (enc : TypeId × Value → H) :
    ReturnsInHanded {} Tryz.checked os 6 .any (Rows.dtreeSplitsSpec.pre6 enc Tryz.prog Tryz.f6 Rows.dtreeSplitsRow.domain false) (Rows.dtreeSplitsSpec.post enc Tryz.prog Tryz.f6 false true false false) := by
  refine returnsInHanded_of_change (C := Tryz.checked) own6 started (by kernel_rfl) Tryz.func6
    (ChangeSpec.witness6 (enc := enc) (C := Tryz.checked) false ⟨#[], #[.agg #[.slice none 0 0], .agg #[.int .i64 0, .slice none 0 0, .slice none 0 0, .slice none 0 0, .slice none 0 0]], []⟩ 8 (by kernel_rfl) (by kernel_rfl) (by kernel_rfl) (by kernel_rfl)) ?_
  intro W base args ds gs before hval0 hW hcnd _
  refine law_post (n := 7) (tb := 4) (by kernel_rfl) (by kernel_rfl) (by kernel_rfl) (fun t ht => ?_) rfl ?_ (fun us hu => ?_) hval0 hW
  · have h : t ∈ [24, 53] := ht
    simp only [List.mem_cons, List.not_mem_nil, or_false] at h
    rcases h with rfl | rfl
    · exact ⟨by kernel_rfl, by kernel_rfl, of_decide_eq_true (by kernel_rfl)⟩
    · exact ⟨by kernel_rfl, by kernel_rfl, of_decide_eq_true (by kernel_rfl)⟩
  · obtain ⟨p, q, hA, hV, rfl, hfz, hnd⟩ := hW
    obtain ⟨rfl, rfl⟩ := trodVars_none hV
    change DataW.TrodAll enc Tryz.prog W 0 (fun _ => true) true [24, 53] args.toList ds p at hA
    obtain ⟨v0, vs0, y0, ds0, pa0, pb0, hv0, rfl, rfl, _, hA⟩ := trodAll_cons hA
    obtain ⟨v1, vs1, y1, ds1, pa1, pb1, hv1, rfl, rfl, _, hA⟩ := trodAll_cons hA
    obtain ⟨_, rfl, rfl⟩ := trodAll_nil hA
    rfl
  · obtain ⟨d0, d1, rfl⟩ := args6 ut hu
    exact law6_pure d0 d1
theorem proved6 : Rows.DtreeSplitsSaid :=
  OpenClaim.holds_of_wide 6 Tryz.f6 rfl rfl rfl rfl rfl rfl rfl ⟨rfl, rfl, rfl, rfl, rfl⟩ rfl rfl rfl rfl rfl (by kernel_rfl) Tryz.func6 (by kernel_rfl)
    (of_decide_eq_true (by kernel_rfl)) (by unfold Func.isWrapper; first | (rw [if_pos (by decide +kernel)]; kernel_rfl) | (rw [if_neg (by decide +kernel)]; exact ⟨rfl, rfl⟩))
    (fun os started H enc _ => lifted6 os started H enc)
end Go.Proofs.YtmnjchcoigbngaaGreat
