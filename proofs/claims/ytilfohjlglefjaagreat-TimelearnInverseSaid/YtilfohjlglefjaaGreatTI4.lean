/- Contracts of the functions that the law TI reaches, and the law itself, for every input; no condition. -/
import Derived.KernelRfl
import Derived.Test.YtilfohjlglefjaaGreatProg
import Derived.Test.YtilfohjlglefjaaGreatRows
import Derived.Test.YtilfohjlglefjaaGreatTI3
set_option linter.unusedSimpArgs false
set_option linter.unusedVariables false
namespace Go.Proofs.YtilfohjlglefjaaGreat
open Go Go.Proofs
theorem row_pure (m:M) (s:Nat) (h1:s < m.nx.length) (h2:s < m.ot.length) (hi:1≤m.i∧m.i≤64):PureC Tryz.prog 60 [(V.agg [(iV (m.i)),(iV (m.s)),(intss m.nx),(intss m.ot)]),(iV ((s:Nat):Int))] (iV (rowE m s)):=by
 refine pW Tryz.func60 s60_ok fun hB=>?_
 unfold s60
 dsimp only
 refine W_r (R_box (i:=2) (n:=0) (m:=4) (cs:=[(iV (m.i)),(iV (m.s)),(intss m.nx),(intss m.ot)]) rfl (congrArg Blk.ver rfl) rfl rfl rfl (R_mv rfl (R_e (W_seq_seq (W_r (R_fk rfl rfl (R_lk rfl rfl rfl rfl ?_)))))))
 refine R_mv rfl (R_idx (i:=s) (@rfl V (intss m.nx)) (@rfl V (iV ((s:Nat):Int))) (by omega) rfl (R_load_pp rfl rfl (R_len rfl (R_fk rfl rfl (R_lk rfl rfl rfl rfl (R_neq rfl rfl (R_mv rfl ?_)))))))
 refine Ops_seg 10 (fun T H=>T 1=(iV ((s:Nat):Int))∧T 2=(V.mp 2 1 0 0)∧T 25=(V.bool (decide ((((((nth (m.nx) (s))).length:Nat):Int)≠(m.i))∨(((((nth (m.ot) (s))).length:Nat):Int)≠(m.i)))))∧H 2=(bk 1 24 4 [[(iV (m.i)),(iV (m.s)),(intss m.nx),(intss m.ot)]])∧True) ?_ ?_
 ·
  by_cases g1:((((nth (m.nx) (s))).length:Nat):Int)≠(m.i)
  ·
   refine G_n (edT g1 rfl) (G_n (edT g1 rfl) (G_n (edT g1 rfl) (G_n (edT g1 rfl) (G_n (edT g1 rfl) (G_n (edT g1 rfl) (G_n (edT g1 rfl) (G_n (edT g1 rfl) ?_)))))))
   refine G_n (edT g1 rfl) (R_pickT (edT g1 rfl) rfl ?_)
   exact ⟨rfl,rfl,(dec_orT g1),rfl,trivial⟩
  ·
   refine G_yes (edF g1 rfl) (R_fk rfl rfl (G_yes (edF g1 rfl) (R_lk rfl rfl rfl rfl (G_yes (edF g1 rfl) (R_mv rfl (G_yes (edF g1 rfl) (R_idx (i:=s) (@rfl V (intss m.ot)) (@rfl V (iV ((s:Nat):Int))) (by omega) rfl ?_)))))))
   refine G_yes (edF g1 rfl) (R_load_pp rfl rfl (G_yes (edF g1 rfl) (R_len rfl (G_yes (edF g1 rfl) (R_fk rfl rfl (G_yes (edF g1 rfl) (R_lk rfl rfl rfl rfl ?_)))))))
   refine G_yes (edF g1 rfl) (R_neq rfl rfl (R_pickF (edF g1 rfl) rfl ?_))
   exact ⟨rfl,rfl,(dec_orF g1),rfl,trivial⟩
 intro T H ⟨t1,t2,t25,h2,_⟩
 refine R_e ?_
 refine W_seq_if t25 (fun c2=>?_) fun c2=>?_
 ·
  refine W_seq_seq (W_r (R_mv rfl (R_e (W_seq_ret ?_))))
  refine Ret_1 (@rfl V (iV (1:Int))) (fz_int ?_)
  · rw [rowE,if_pos (by omega)]
 refine W_seq_skip (W_seq_seq (W_r (R_mv rfl (R_e (W_seq_blockg fun Q3 n3 x3 y3 z3=>?_)))))
 refine W_loop (fun mm T H=> ∃ (k:Nat),mm=((m.i).toNat) - k∧T 1=(iV ((s:Nat):Int))∧T 2=(V.mp 2 1 0 0)∧T 5=(iV ((k:Nat):Int))∧H 2=(bk 1 24 4 [[(iV (m.i)),(iV (m.s)),(intss m.nx),(intss m.ot)]])∧(k≤(m.i).toNat)∧(((nth m.nx s).length:Int)=m.i∧((nth m.ot s).length:Int)=m.i)∧(rowE m s=fe (celE m s) k (m.i.toNat - k))) ?_ ?_
 ·
  refine ⟨_,0,rfl,t1,t2,(Eq.trans (@rfl V (iV (0:Int))) rfl),h2,?_,?_,?_⟩
  · omega
  · omega
  · rw [rowE,if_neg (by omega)]; rfl
 intro mm T H ⟨k,hmm,t1,t2,t5,h2,hk,hl,hc⟩ Q4 p14 p24 p34
 unfold b60_0
 refine W_seq_seq (W_r (R_mv t5 (R_fk t2 h2 (R_lk rfl h2 rfl rfl (R_lss rfl rfl (R_e ?_))))))
 refine W_seq_if rfl (fun c5=>?_) fun c5=>?_
 ·
  refine W_seq_skip (W_seq_blockg fun Q6 n6 x6 y6 z6=>?_)
  refine W_seq_regc (fun T H=>T 1=(iV ((s:Nat):Int))∧T 2=(V.mp 2 1 0 0)∧T 5=(iV ((k:Nat):Int))∧T 76=(V.bool (decide ((((((nth ((nth (m.nx) (s))) (k))) < (0:Int))∨(((m.nx.length:Nat):Int)≤((nth ((nth (m.nx) (s))) (k)))))∨(((nth ((nth (m.ot) (s))) (k))) < (0:Int)))∨((1048576:Int) < ((nth ((nth (m.ot) (s))) (k)))))))∧H 2=(bk 1 24 4 [[(iV (m.i)),(iV (m.s)),(intss m.nx),(intss m.ot)]])∧True) ?_ ?_
  ·
   refine R_fk t2 h2 (R_lk rfl h2 rfl rfl (R_mv t1 (R_idx (i:=s) (@rfl V (intss m.nx)) (@rfl V (iV ((s:Nat):Int))) (by omega) rfl (R_load_pp rfl rfl (R_mv t5 (R_idx (i:=k) (@rfl V (ints ((nth (m.nx) (s))))) (@rfl V (iV ((k:Nat):Int))) (by omega) rfl (R_load_pp rfl rfl ?_)))))))
   refine R_lss rfl rfl (R_mv rfl ?_)
   refine Ops_seg 13 (fun T H=>T 1=(iV ((s:Nat):Int))∧T 2=(V.mp 2 1 0 0)∧T 5=(iV ((k:Nat):Int))∧T 54=(V.bool (decide ((((nth ((nth (m.nx) (s))) (k))) < (0:Int))∨(((m.nx.length:Nat):Int)≤((nth ((nth (m.nx) (s))) (k)))))))∧H 2=(bk 1 24 4 [[(iV (m.i)),(iV (m.s)),(intss m.nx),(intss m.ot)]])∧True) ?_ ?_
   ·
    by_cases g7:((nth ((nth (m.nx) (s))) (k))) < (0:Int)
    ·
     refine G_n (edT g7 rfl) (G_n (edT g7 rfl) (G_n (edT g7 rfl) (G_n (edT g7 rfl) (G_n (edT g7 rfl) (G_n (edT g7 rfl) (G_n (edT g7 rfl) (G_n (edT g7 rfl) ?_)))))))
     refine G_n (edT g7 rfl) (G_n (edT g7 rfl) (G_n (edT g7 rfl) (G_n (edT g7 rfl) (R_pickT (edT g7 rfl) rfl ?_))))
     exact ⟨t1,t2,t5,(dec_orT g7),h2,trivial⟩
    ·
     refine G_yes (edF g7 rfl) (R_fk t2 h2 (G_yes (edF g7 rfl) (R_lk rfl h2 rfl rfl (G_yes (edF g7 rfl) (R_mv t1 (G_yes (edF g7 rfl) (R_idx (i:=s) (@rfl V (intss m.nx)) (@rfl V (iV ((s:Nat):Int))) (by omega) rfl ?_)))))))
     refine G_yes (edF g7 rfl) (R_load_pp rfl rfl (G_yes (edF g7 rfl) (R_mv t5 (G_yes (edF g7 rfl) (R_idx (i:=k) (@rfl V (ints ((nth (m.nx) (s))))) (@rfl V (iV ((k:Nat):Int))) (by omega) rfl (G_yes (edF g7 rfl) (R_load_pp rfl rfl ?_)))))))
     refine G_yes (edF g7 rfl) (R_fk t2 h2 (G_yes (edF g7 rfl) (R_lk rfl h2 rfl rfl (G_yes (edF g7 rfl) (R_len rfl (G_yes (edF g7 rfl) (R_geq rfl rfl ?_)))))))
     refine R_pickF (edF g7 rfl) rfl ?_
     exact ⟨t1,t2,t5,(dec_orF g7),h2,trivial⟩
   intro T H ⟨t1,t2,t5,t54,h2,_⟩
   refine R_mv t54 ?_
   refine Ops_seg 10 (fun T H=>T 1=(iV ((s:Nat):Int))∧T 2=(V.mp 2 1 0 0)∧T 5=(iV ((k:Nat):Int))∧T 65=(V.bool (decide (((((nth ((nth (m.nx) (s))) (k))) < (0:Int))∨(((m.nx.length:Nat):Int)≤((nth ((nth (m.nx) (s))) (k)))))∨(((nth ((nth (m.ot) (s))) (k))) < (0:Int)))))∧H 2=(bk 1 24 4 [[(iV (m.i)),(iV (m.s)),(intss m.nx),(intss m.ot)]])∧True) ?_ ?_
   ·
    by_cases g8:(((nth ((nth (m.nx) (s))) (k))) < (0:Int))∨(((m.nx.length:Nat):Int)≤((nth ((nth (m.nx) (s))) (k))))
    ·
     refine G_n (edT g8 rfl) (G_n (edT g8 rfl) (G_n (edT g8 rfl) (G_n (edT g8 rfl) (G_n (edT g8 rfl) (G_n (edT g8 rfl) (G_n (edT g8 rfl) (G_n (edT g8 rfl) ?_)))))))
     refine G_n (edT g8 rfl) (R_pickT (edT g8 rfl) rfl ?_)
     exact ⟨t1,t2,t5,(dec_orT g8),h2,trivial⟩
    ·
     refine G_yes (edF g8 rfl) (R_fk t2 h2 (G_yes (edF g8 rfl) (R_lk rfl h2 rfl rfl (G_yes (edF g8 rfl) (R_mv t1 (G_yes (edF g8 rfl) (R_idx (i:=s) (@rfl V (intss m.ot)) (@rfl V (iV ((s:Nat):Int))) (by omega) rfl ?_)))))))
     refine G_yes (edF g8 rfl) (R_load_pp rfl rfl (G_yes (edF g8 rfl) (R_mv t5 (G_yes (edF g8 rfl) (R_idx (i:=k) (@rfl V (ints ((nth (m.ot) (s))))) (@rfl V (iV ((k:Nat):Int))) (by omega) rfl (G_yes (edF g8 rfl) (R_load_pp rfl rfl ?_)))))))
     refine G_yes (edF g8 rfl) (R_lss rfl rfl (R_pickF (edF g8 rfl) rfl ?_))
     exact ⟨t1,t2,t5,(dec_orF g8),h2,trivial⟩
   intro T H ⟨t1,t2,t5,t65,h2,_⟩
   refine R_mv t65 ?_
   refine Ops_seg 10 (fun T H=>T 1=(iV ((s:Nat):Int))∧T 2=(V.mp 2 1 0 0)∧T 5=(iV ((k:Nat):Int))∧T 76=(V.bool (decide ((((((nth ((nth (m.nx) (s))) (k))) < (0:Int))∨(((m.nx.length:Nat):Int)≤((nth ((nth (m.nx) (s))) (k)))))∨(((nth ((nth (m.ot) (s))) (k))) < (0:Int)))∨((1048576:Int) < ((nth ((nth (m.ot) (s))) (k)))))))∧H 2=(bk 1 24 4 [[(iV (m.i)),(iV (m.s)),(intss m.nx),(intss m.ot)]])∧True) ?_ ?_
   ·
    by_cases g9:((((nth ((nth (m.nx) (s))) (k))) < (0:Int))∨(((m.nx.length:Nat):Int)≤((nth ((nth (m.nx) (s))) (k)))))∨(((nth ((nth (m.ot) (s))) (k))) < (0:Int))
    ·
     refine G_n (edT g9 rfl) (G_n (edT g9 rfl) (G_n (edT g9 rfl) (G_n (edT g9 rfl) (G_n (edT g9 rfl) (G_n (edT g9 rfl) (G_n (edT g9 rfl) (G_n (edT g9 rfl) ?_)))))))
     refine G_n (edT g9 rfl) (R_pickT (edT g9 rfl) rfl ?_)
     exact ⟨t1,t2,t5,(dec_orT g9),h2,trivial⟩
    ·
     refine G_yes (edF g9 rfl) (R_fk t2 h2 (G_yes (edF g9 rfl) (R_lk rfl h2 rfl rfl (G_yes (edF g9 rfl) (R_mv t1 (G_yes (edF g9 rfl) (R_idx (i:=s) (@rfl V (intss m.ot)) (@rfl V (iV ((s:Nat):Int))) (by omega) rfl ?_)))))))
     refine G_yes (edF g9 rfl) (R_load_pp rfl rfl (G_yes (edF g9 rfl) (R_mv t5 (G_yes (edF g9 rfl) (R_idx (i:=k) (@rfl V (ints ((nth (m.ot) (s))))) (@rfl V (iV ((k:Nat):Int))) (by omega) rfl (G_yes (edF g9 rfl) (R_load_pp rfl rfl ?_)))))))
     refine G_yes (edF g9 rfl) (R_gtr rfl rfl (R_pickF (edF g9 rfl) rfl ?_))
     exact ⟨t1,t2,t5,(dec_orF g9),h2,trivial⟩
   intro T H ⟨t1,t2,t5,t76,h2,_⟩
   exact R_nil ⟨t1,t2,t5,t76,h2,trivial⟩
  intro T H ⟨t1,t2,t5,t76,h2,_⟩
  refine W_if t76 (fun c10=>?_) fun c10=>?_
  ·
   refine W_r (R_mv rfl (R_e (W_ret (y6 _ _ (p24 _ _ (y3 _ _ ?_))))))
   refine Ret_1 (@rfl V (iV (2:Int))) (fz_int ?_)
   · rw [hc,fe_hit (by unfold celE; split <;> omega) (by omega)]; unfold celE; split <;> omega
  refine W_skip (n6 _ _ (.done (W_t (R_mv t5 (R_addN rfl (@rfl V (iV ((1:Nat):Int))) (by omega) (R_mv rfl (R_e ?_)))))))
  refine p14 _ _ _ ?_ ⟨(k+1),rfl,t1,t2,(Eq.trans (@rfl V (iV ((k+1:Nat):Int))) (by first|rfl|simp)),h2,?_,?_,?_⟩
  · omega
  · omega
  · omega
  · rw [hc,fe_skip (by unfold celE; split <;> omega) (by omega)]
 refine W_seq_exit (p34 _ _ _ (x3 _ _ (.done (W_r (R_mv rfl (R_e (W_ret ?_)))))))
 refine Ret_1 (@rfl V (iV (0:Int))) (fz_int ?_)
 · rw [hc,fe_end (by omega)]
theorem rvalid_pure (m:M):PureC Tryz.prog 35 [(V.agg [(iV (m.i)),(iV (m.s)),(intss m.nx),(intss m.ot)])] (iV (mval m)):=by
 refine pW Tryz.func35 s35_ok fun hB=>?_
 unfold s35
 dsimp only
 refine W_r (R_box (i:=1) (n:=0) (m:=4) (cs:=[(iV (m.i)),(iV (m.s)),(intss m.nx),(intss m.ot)]) rfl (congrArg Blk.ver rfl) rfl rfl rfl (R_mv rfl (R_e (W_seq_seq (W_r (R_fk rfl rfl (R_lk rfl rfl rfl rfl ?_)))))))
 refine R_lss rfl rfl (R_mv rfl ?_)
 refine Ops_seg 4 (fun T H=>T 1=(V.mp 1 1 0 0)∧T 12=(V.bool (decide (((m.i) < (1:Int))∨((64:Int) < (m.i)))))∧H 1=(bk 1 24 4 [[(iV (m.i)),(iV (m.s)),(intss m.nx),(intss m.ot)]])∧True) ?_ ?_
 ·
  by_cases g1:(m.i) < (1:Int)
  ·
   refine G_n (edT g1 rfl) (G_n (edT g1 rfl) (G_n (edT g1 rfl) (R_pickT (edT g1 rfl) rfl ?_)))
   exact ⟨rfl,(dec_orT g1),rfl,trivial⟩
  ·
   refine G_yes (edF g1 rfl) (R_fk rfl rfl (G_yes (edF g1 rfl) (R_lk rfl rfl rfl rfl (G_yes (edF g1 rfl) (R_gtr rfl rfl (R_pickF (edF g1 rfl) rfl ?_))))))
   exact ⟨rfl,(dec_orF g1),rfl,trivial⟩
 intro T H ⟨t1,t12,h1,_⟩
 refine R_e ?_
 refine W_seq_if t12 (fun c2=>?_) fun c2=>?_
 ·
  refine W_seq_seq (W_r (R_mv rfl (R_e (W_seq_ret ?_))))
  refine Ret_1 (@rfl V (iV (2:Int))) (fz_int ?_)
  · rw [mval,if_pos (by omega)]
 refine W_seq_skip (W_seq_seq (W_r (R_fk t1 h1 (R_lk rfl h1 rfl rfl (R_len rfl (R_eql rfl rfl (R_e ?_)))))))
 refine W_seq_if rfl (fun c3=>?_) fun c3=>?_
 ·
  refine W_seq_seq (W_r (R_mv rfl (R_e (W_seq_ret ?_))))
  refine Ret_1 (@rfl V (iV (19:Int))) (fz_int ?_)
  · rw [mval,if_neg (by omega),if_pos (by omega)]
 refine W_seq_skip (W_seq_seq (W_r (R_fk t1 h1 (R_lk rfl h1 rfl rfl (R_len rfl (R_gtr rfl rfl (R_e ?_)))))))
 refine W_seq_if rfl (fun c4=>?_) fun c4=>?_
 ·
  refine W_seq_seq (W_r (R_mv rfl (R_e (W_seq_ret ?_))))
  refine Ret_1 (@rfl V (iV (11:Int))) (fz_int ?_)
  · rw [mval,if_neg (by omega),if_neg (by omega),if_pos (by omega)]
 refine W_seq_skip (W_seq_seq (W_r (R_fk t1 h1 (R_lk rfl h1 rfl rfl (R_lss rfl rfl (R_mv rfl ?_))))))
 refine Ops_seg 7 (fun T H=>T 1=(V.mp 1 1 0 0)∧T 31=(V.bool (decide (((m.s) < (0:Int))∨(((m.nx.length:Nat):Int)≤(m.s)))))∧H 1=(bk 1 24 4 [[(iV (m.i)),(iV (m.s)),(intss m.nx),(intss m.ot)]])∧True) ?_ ?_
 ·
  by_cases g5:(m.s) < (0:Int)
  ·
   refine G_n (edT g5 rfl) (G_n (edT g5 rfl) (G_n (edT g5 rfl) (G_n (edT g5 rfl) (G_n (edT g5 rfl) (G_n (edT g5 rfl) (R_pickT (edT g5 rfl) rfl ?_))))))
   exact ⟨t1,(dec_orT g5),h1,trivial⟩
  ·
   refine G_yes (edF g5 rfl) (R_fk t1 h1 (G_yes (edF g5 rfl) (R_lk rfl h1 rfl rfl (G_yes (edF g5 rfl) (R_fk t1 h1 (G_yes (edF g5 rfl) (R_lk rfl h1 rfl rfl ?_)))))))
   refine G_yes (edF g5 rfl) (R_len rfl (G_yes (edF g5 rfl) (R_geq rfl rfl (R_pickF (edF g5 rfl) rfl ?_))))
   exact ⟨t1,(dec_orF g5),h1,trivial⟩
 intro T H ⟨t1,t31,h1,_⟩
 refine R_e ?_
 refine W_seq_if t31 (fun c6=>?_) fun c6=>?_
 ·
  refine W_seq_seq (W_r (R_mv rfl (R_e (W_seq_ret ?_))))
  refine Ret_1 (@rfl V (iV (2:Int))) (fz_int ?_)
  · rw [mval,if_neg (by omega),if_neg (by omega),if_neg (by omega),if_pos (by omega)]
 refine W_seq_skip (W_seq_seq (W_r (R_fk t1 h1 (R_lk rfl h1 rfl rfl (R_len rfl (R_fk t1 h1 (R_lk rfl h1 rfl rfl ?_)))))))
 refine R_len rfl (R_neq rfl rfl (R_e ?_))
 refine W_seq_if rfl (fun c7=>?_) fun c7=>?_
 ·
  refine W_seq_seq (W_r (R_mv rfl (R_e (W_seq_ret ?_))))
  refine Ret_1 (@rfl V (iV (1:Int))) (fz_int ?_)
  · rw [mval,if_neg (by omega),if_neg (by omega),if_neg (by omega),if_neg (by omega),if_pos (by omega)]
 refine W_seq_skip (W_seq_seq (W_r (R_mv rfl (R_e (W_seq_blockg fun Q8 n8 x8 y8 z8=>?_)))))
 refine W_loop (fun mm T H=> ∃ (k:Nat),mm=m.nx.length - k∧T 1=(V.mp 1 1 0 0)∧T 3=(iV ((k:Nat):Int))∧H 1=(bk 1 24 4 [[(iV (m.i)),(iV (m.s)),(intss m.nx),(intss m.ot)]])∧(k≤m.nx.length)∧(1≤m.i∧m.i≤64∧0 < m.nx.length∧m.nx.length≤128∧m.ot.length=m.nx.length)∧(mval m=fe (rowE m) k (m.nx.length - k))) ?_ ?_
 ·
  refine ⟨_,0,rfl,t1,(Eq.trans (@rfl V (iV (0:Int))) rfl),h1,?_,?_,?_⟩
  · omega
  · omega
  · rw [mval,if_neg (by omega),if_neg (by omega),if_neg (by omega),if_neg (by omega),if_neg (by omega)]; rfl
 intro mm T H ⟨k,hmm,t1,t3,h1,hk,hv,hc⟩ Q9 p19 p29 p39
 unfold b35_0
 refine W_seq_seq (W_r (R_mv t3 (R_fk t1 h1 (R_lk rfl h1 rfl rfl (R_len rfl (R_lss rfl rfl (R_e ?_)))))))
 refine W_seq_if rfl (fun c10=>?_) fun c10=>?_
 ·
  refine W_seq_skip (W_seq_blockg fun Q11 n11 x11 y11 z11=>(W_r (R_lk t1 h1 rfl rfl (R_mv t3 (R_callk (row_pure m k (by first|omega|assumption) (by first|omega|assumption) (by first|omega|assumption)) rfl (R_mv rfl (R_e ?_)))))))
  refine W_r (R_mv rfl (R_neq rfl rfl (R_e ?_)))
  refine W_if rfl (fun c12=>?_) fun c12=>?_
  ·
   refine W_r (R_mv rfl (R_mv rfl (R_e (W_ret (y11 _ _ (p29 _ _ (y8 _ _ ?_)))))))
   refine Ret_1 (@rfl V (iV (rowE m k))) (fz_int ?_)
   · rw [hc,fe_hit (by omega) (by omega)]
  refine W_skip (n11 _ _ (.done (W_t (R_mv t3 (R_addN rfl (@rfl V (iV ((1:Nat):Int))) (by omega) (R_mv rfl (R_e ?_)))))))
  refine p19 _ _ _ ?_ ⟨(k+1),rfl,t1,(Eq.trans (@rfl V (iV ((k+1:Nat):Int))) (by first|rfl|simp)),h1,?_,?_,?_⟩
  · omega
  · omega
  · omega
  · rw [hc,fe_skip (by omega) (by omega)]
 refine W_seq_exit (p39 _ _ _ (x8 _ _ (.done (W_r (R_mv rfl (R_e (W_ret ?_)))))))
 refine Ret_1 (@rfl V (iV (0:Int))) (fz_int ?_)
 · rw [hc,fe_end (by omega)]
def r49_10:List SO:=[
 qM 24 3,
 qF 25 2 1,
 ql 26 25,
 qM 27 3,
 qM 28 4,
 qA 29 1 27 28,
 ql 30 29,
 qA 31 1 26 30,
 ql 32 31,
 qM 33 5,
 qA 34 1 32 33,
 ql 35 34,
 sO 36 (.call false 81 [.t 24,.t 35]),
 sO 37 (.un .not (.t 36))]
def r49_11:List SO:=[
 qM 38 3,
 qF 39 2 1,
 ql 40 39,
 qM 41 3,
 qM 42 4,
 qA 43 1 41 42,
 ql 44 43,
 qA 45 1 40 44,
 ql 46 45,
 qM 47 5,
 qA 48 1 46 47,
 ql 49 48,
 sO 50 (.bslice 3 1 false [.int .i64 0] 1 [(0,.t 49)]),
 sO 51 (.append 3 1 8 (.t 38) (.t 50)),
 qM 3 51]
def b49_1:SC:=.seq (.seq (.reg [qM 18 5,qF 19 0 1,ql 20 19,qP 21 .lss 18 20]) (.cond (.t 21) (.skip) (.exit 2))) (.seq (.block 3 (.seq (.reg r49_10) (.cond (.t 37) (.reg r49_11) (.skip)))) (.reg [qM 22 5,qC 23 .add 22 1,qM 5 23]))
def b49_0:SC:=.seq (.seq (.reg [qM 12 4,qM 13 3,qN 14 13,qP 15 .lss 12 14]) (.cond (.t 15) (.skip) (.exit 0))) (.seq (.block 1 (.seq (.reg [qI 5 0]) (.block 2 (.loop b49_1)))) (.reg [qM 16 4,qC 17 .add 16 1,qM 4 17]))
def s49:SF:=⟨53,[.tmp 2],.seq (.reg [sO 1 (.box 24 4 (.t 0)),sO 2 (.mv (.c (.nilsl)))]) (.seq (.seq (.reg [qL 6 4 1,sO 7 (.call false 35 [.t 6]),qC 8 .neq 7 0]) (.cond (.t 8) (.seq (.reg [sO 2 (.mv (.c (.nilsl)))]) (.ret)) (.skip))) (.seq (.reg [qF 9 1 1,ql 10 9,sO 11 (.bslice 3 1 true [.int .i64 0] 1 [(0,.t 10)]),qM 3 11]) (.seq (.seq (.reg [qI 4 0]) (.block 0 (.loop b49_0))) (.seq (.reg [qM 52 3,qM 2 52]) (.ret)))))⟩
theorem s49_ok:slimF Tryz.prog ⟨[58,129,130,131,149,155,161,182,183,185,191,192,208,209,210,224,228,231,236],[11],[],[]⟩ Tryz.f49=some s49:=by kernel_rfl
def b81_0:SC:=.seq (.seq (.reg [qM 6 5,qM 7 0,qN 8 7,qP 9 .lss 6 8]) (.cond (.t 9) (.skip) (.exit 0))) (.seq (.block 1 (.seq (.reg [qM 12 0,qM 13 5,qA 14 1 12 13,ql 15 14,qM 16 1,qP 17 .eql 15 16]) (.cond (.t 17) (.seq (.reg [sO 4 (.mv (.c (.bool true)))]) (.ret)) (.skip)))) (.reg [qM 10 5,qC 11 .add 10 1,qM 5 11]))
def s81:SF:=⟨18,[.tmp 4],.seq (.reg [sO 4 (.mv (.c (.bool false)))]) (.seq (.seq (.reg [qI 5 0]) (.block 0 (.loop b81_0))) (.seq (.reg [sO 4 (.mv (.c (.bool false)))]) (.ret)))⟩
theorem s81_ok:slimF Tryz.prog ⟨[58,129,130,131,149,155,161,182,183,185,191,192,208,209,210,224,228,231,236],[],[],[]⟩ Tryz.f81=some s81:=by kernel_rfl
theorem has06_pure (l:List Int) (n:Int):PureC Tryz.prog 81 [(ints l),(iV (n))] (V.bool (decide (n∈l))):=by
 refine pW Tryz.func81 s81_ok fun hB=>?_
 unfold s81
 dsimp only
 refine W_r (R_mv rfl (R_e (W_seq_seq (W_r (R_mv rfl (R_e (W_seq_blockg fun Q1 n1 x1 y1 z1=>?_)))))))
 refine W_loop (fun mm T H=> ∃ (k:Nat),mm=l.length - k∧T 0=(ints l)∧T 1=(iV (n))∧T 5=(iV ((k:Nat):Int))∧(k≤l.length)∧(∀ j,j < k→nth l j≠n)) ?_ ?_
 ·
  refine ⟨_,0,rfl,rfl,rfl,(Eq.trans (@rfl V (iV (0:Int))) rfl),?_,?_⟩
  · omega
  · intro j hj; omega
 intro mm T H ⟨k,hmm,t0,t1,t5,hk,hc⟩ Q2 p12 p22 p32
 unfold b81_0
 refine W_seq_seq (W_r (R_mv t5 (R_mv t0 (R_len rfl (R_lss rfl rfl (R_e ?_))))))
 refine W_seq_if rfl (fun c3=>?_) fun c3=>?_
 ·
  refine W_seq_skip (W_seq_blockg fun Q4 n4 x4 y4 z4=>(W_r (R_mv t0 (R_mv t5 (R_idx (i:=k) (@rfl V (ints l)) (@rfl V (iV ((k:Nat):Int))) (by omega) rfl (R_load_pp rfl rfl (R_mv t1 ?_)))))))
  refine R_eql rfl rfl (R_e ?_)
  refine W_if rfl (fun c5=>?_) fun c5=>?_
  ·
   have d1:=c5
   refine W_r (R_mv rfl (R_e (W_ret (y4 _ _ (p22 _ _ (y1 _ _ ?_))))))
   refine Ret_1 (@rfl V (V.bool true)) (fz_bool ?_)
   · exact (decide_eq_true (d1 ▸ nth_mem (by omega))).symm
  have d1:=c5
  refine W_skip (n4 _ _ (.done (W_t (R_mv t5 (R_addN rfl (@rfl V (iV ((1:Nat):Int))) (by omega) (R_mv rfl (R_e ?_)))))))
  refine p12 _ _ _ ?_ ⟨(k+1),rfl,t0,t1,(Eq.trans (@rfl V (iV ((k+1:Nat):Int))) (by first|rfl|simp)),?_,?_⟩
  · omega
  · omega
  · intro j hj
    by_cases e:j=k
    · subst e; exact d1
    · exact hc j (by omega)
 refine W_seq_exit (p32 _ _ _ (x1 _ _ (.done (W_r (R_mv rfl (R_e (W_ret ?_)))))))
 refine Ret_1 (@rfl V (V.bool false)) (fz_bool ?_)
 · exact (decide_eq_false (fun e=>by obtain ⟨j,hj,q⟩:=in_nth e; exact hc j (by omega) q)).symm
theorem rreach_pure (m:M):PureC Tryz.prog 49 [(V.agg [(iV (m.i)),(iV (m.s)),(intss m.nx),(intss m.ot)])] (ints (rch m)):=by
 refine pW Tryz.func49 s49_ok fun hB=>?_
 unfold s49
 dsimp only
 refine W_r (R_box (i:=1) (n:=0) (m:=4) (cs:=[(iV (m.i)),(iV (m.s)),(intss m.nx),(intss m.ot)]) rfl (congrArg Blk.ver rfl) rfl rfl rfl (R_mv rfl (R_e (W_seq_seq (W_r (R_lk rfl rfl rfl rfl (R_callk (rvalid_pure m) rfl ?_)))))))
 refine R_neq rfl rfl (R_e ?_)
 refine W_seq_if rfl (fun c1=>?_) fun c1=>?_
 ·
  have d0:=c1
  refine W_seq_seq (W_r (R_mv rfl (R_e (W_seq_ret ?_))))
  refine Ret_1 (@rfl V V.nilsl) (fz_nil ?_)
  · rw [rch,if_pos d0]
 have hm:mval m=0:=by omega
 obtain ⟨v1,v2,v3,v4,v5,v6,v7,_⟩:=mval_ok hm
 refine W_seq_skip (W_r (R_fk rfl rfl (R_lk rfl rfl rfl rfl (R_bslice_own (i:=11) (n:=0) (qs:=[(0,(iV (m.s)))]) (rows:=[[(iV (m.s))]]) rfl (congrArg Blk.ver rfl) (mcons (congrArg (fun v=>(0,v)) rfl) rfl) rfl (R_mv rfl (R_e (W_seq_seq ?_)))))))
 refine W_r (R_mv rfl (R_e (W_seq_blockg fun Q2 n2 x2 y2 z2=>?_)))
 refine W_loop (fun mm T H=> ∃ (k:Nat) (w:Nat) (P:RS),mm=m.nx.length - k∧T 1=(V.mp 1 1 0 0)∧T 3=(V.ms 11 w 0 (P.1.length))∧T 4=(iV ((k:Nat):Int))∧H 1=(bk 1 24 4 [[(iV (m.i)),(iV (m.s)),(intss m.nx),(intss m.ot)]])∧H 11=(bk w 3 1 (List.map cI (P.1)))∧(k≤P.1.length)∧(RI m.nx.length P)∧(bfsR m m.nx.length 0 (iniR m)=bfsR m (m.nx.length - k) k P)) ?_ ?_
 ·
  refine ⟨_,0,1,(iniR m),rfl,rfl,(Eq.trans (@rfl V (V.ms 11 1 0 (1))) (by first|rfl|(rw [stp_no d2,List.length_append]; rfl)|(rw [stp_yes d2]; done)|(rw [← e9]; done))),(Eq.trans (@rfl V (iV (0:Int))) rfl),rfl,(Eq.trans (@rfl Blk (bk 1 3 1 [[(iV (m.s))]])) (by first|rfl|(rw [stp_no d2,hn.1]; done)|(rw [stp_yes d2]; done)|(rw [← e9]; done))),?_,?_,?_⟩
  · exact Nat.zero_le _
  · exact ini_RI hm
  · rfl
 intro mm T H ⟨k,w,P,hmm,t1,t3,t4,h1,h11,hk,hr,hc⟩ Q3 p13 p23 p33
 unfold b49_0
 refine W_seq_seq (W_r (R_mv t4 (R_mv t3 (R_len_ms rfl h11 (by first|rfl|simp) (R_lss rfl rfl (R_e ?_))))))
 refine W_seq_if rfl (fun c4=>?_) fun c4=>?_
 ·
  have r1:=hr.rng _ (nth_mem (show k < P.1.length by omega))
  have r0:=hr.len
  have r6:=((mval_ok hm).2.2.2.2.2.2.2 (nth P.1 k).toNat (by omega)).1
  refine W_seq_skip (W_seq_blockg fun Q5 n5 x5 y5 z5=>(W_r (R_mv rfl (R_e (W_block fun Q6 n6 x6 y6 z6=>?_)))))
  refine W_loop (fun mm T H=> ∃ (j:Nat) (w2:Nat) (Q:RS),mm=m.i.toNat - j∧T 1=(V.mp 1 1 0 0)∧T 3=(V.ms 11 w2 0 (Q.1.length))∧T 4=(iV ((k:Nat):Int))∧T 5=(iV ((j:Nat):Int))∧H 1=(bk 1 24 4 [[(iV (m.i)),(iV (m.s)),(intss m.nx),(intss m.ot)]])∧H 11=(bk w2 3 1 (List.map cI (Q.1)))∧(j≤m.i.toNat)∧(Q=((nth m.nx (nth P.1 k).toNat).take j).foldl stpR P)∧(RI m.nx.length Q)∧(nth Q.1 k=nth P.1 k∧P.1.length≤Q.1.length)) ?_ ?_
  ·
   refine ⟨_,0,w,P,rfl,t1,t3,t4,(Eq.trans (@rfl V (iV (0:Int))) rfl),h1,h11,?_,?_,?_,?_⟩
   · exact Nat.zero_le _
   · rfl
   · exact hr
   · exact ⟨rfl,Nat.le_refl _⟩
  intro mm T H ⟨j,w2,Q,hmm,t1,t3,t4,t5,h1,h11,hj,hq,hrq,hn⟩ Q7 p17 p27 p37
  unfold b49_1
  refine W_seq_seq (W_r (R_mv t5 (R_fk t1 h1 (R_lk rfl h1 rfl rfl (R_lss rfl rfl (R_e ?_))))))
  refine W_seq_if rfl (fun c8=>?_) fun c8=>?_
  ·
   have r2:=row_in hm r1.1 r1.2 _ (nth_mem (show j < (nth m.nx (nth P.1 k).toNat).length by omega))
   have r4:=hrq.len
   have r5:=hn.1
   have r7:(nth m.nx (nth Q.1 k).toNat).length=(nth m.nx (nth P.1 k).toNat).length:=by rw [hn.1]
   refine W_seq_skip (W_seq_blockg fun Q9 n9 x9 y9 z9=>(W_r (R_mv t3 (R_fk t1 h1 (R_lk rfl h1 rfl rfl (R_mv t3 (R_mv t4 ?_)))))))
   refine R_idx_ms0 (i:=k) (@rfl V (V.ms 11 w2 0 (Q.1.length))) (@rfl V (iV ((k:Nat):Int))) h11 oB rfl (by omega) (R_load_mp (v:=(iV ((nth (Q.1) (k))))) rfl h11 (ldB_map (by omega) (by first|rfl|(rw [cF_eq]; rfl)|simp [ldV,V.one])) (R_idxI (i:=((nth (Q.1) (k)))) (@rfl V (intss m.nx)) (@rfl V (iV ((nth (Q.1) (k))))) (by omega) (by omega) rfl (R_load_pp rfl rfl (R_mv t5 (R_idx (i:=j) (@rfl V (ints ((nth (m.nx) ((nth (Q.1) (k))).toNat)))) (@rfl V (iV ((j:Nat):Int))) (by omega) rfl (R_load_pp rfl rfl (R_call (evcons (@rfl V (V.ms 11 w2 0 (Q.1.length))) (evcons (@rfl V (iV ((nth ((nth (m.nx) ((nth (Q.1) (k))).toNat)) (j))))) evnil)) (has06_pure Q.1 (((nth ((nth (m.nx) ((nth (Q.1) (k))).toNat)) (j))))) (mcons (fz_mst h11 (by first|rfl|simp) (take_map (l:=Q.1) (by first|rfl|simp|omega)) (fun _=>by simp)) (mcons (fzv_canon 6 _ (by simp [-List.map_take,-List.map_drop,-List.map_append,-List.map_reverse])) rfl)) (by simp [-List.map_take,-List.map_drop,-List.map_append,-List.map_reverse]) (Or.inr rfl) ?_)))))))
   refine R_not rfl (R_e ?_)
   refine W_if rfl (fun c10=>?_) fun c10=>?_
   ·
    have d2:nth Q.2 (nth (nth m.nx (nth P.1 k).toNat) j).toNat=false:=by
      have z:=mt (hrq.mem (nth (nth m.nx (nth P.1 k).toNat) j) r2.1 r2.2).1 (hn.1 ▸ c10)
      simpa using z
    refine W_t (R_mv t3 (R_fk t1 h1 (R_lk rfl h1 rfl rfl (R_mv t3 (R_mv t4 (R_idx_ms0 (i:=k) (@rfl V (V.ms 11 w2 0 (Q.1.length))) (@rfl V (iV ((k:Nat):Int))) h11 oB rfl (by omega) (R_load_mp (v:=(iV ((nth (Q.1) (k))))) rfl h11 (ldB_map (by omega) (by first|rfl|(rw [cF_eq]; rfl)|simp [ldV,V.one])) ?_)))))))
    refine R_idxI (i:=((nth (Q.1) (k)))) (@rfl V (intss m.nx)) (@rfl V (iV ((nth (Q.1) (k))))) (by omega) (by omega) rfl (R_load_pp rfl rfl (R_mv t5 (R_idx (i:=j) (@rfl V (ints ((nth (m.nx) ((nth (Q.1) (k))).toNat)))) (@rfl V (iV ((j:Nat):Int))) (by omega) rfl (R_load_pp rfl rfl (R_bslice rfl rfl (R_append1 (l:=Q.1) (f:=cI) (x:=(((nth ((nth (m.nx) ((nth (Q.1) (k))).toNat)) (j))))) (@rfl V (V.ms 11 w2 0 (Q.1.length))) h11 (by first|rfl|simp|omega) (@rfl V (V.sl [[(iV ((nth ((nth (m.nx) ((nth (Q.1) (k))).toNat)) (j))))]])) rfl rfl (by omega) (by omega) (R_mv rfl ?_)))))))
    refine R_e (n9 _ _ (.done (W_t (R_mv t5 (R_addN rfl (@rfl V (iV ((1:Nat):Int))) (by omega) (R_mv rfl (R_e ?_)))))))
    refine p17 _ _ _ ?_ ⟨(j+1),(w2+1),(stpR Q (nth (nth m.nx (nth P.1 k).toNat) j)),rfl,t1,(Eq.trans (@rfl V (V.ms 11 (w2+1) 0 (Q.1.length+1))) (by first|rfl|(rw [stp_no d2,List.length_append]; rfl)|(rw [stp_yes d2]; done)|(rw [← e9]; done))),t4,(Eq.trans (@rfl V (iV ((j+1:Nat):Int))) (by first|rfl|(rw [stp_no d2,List.length_append]; rfl)|(rw [stp_yes d2]; done)|(rw [← e9]; done))),h1,(Eq.trans (@rfl Blk (bk (w2+1) 3 1 (List.map cI (Q.1++[((nth ((nth (m.nx) ((nth (Q.1) (k))).toNat)) (j)))])))) (by first|rfl|(rw [stp_no d2,hn.1]; done)|(rw [stp_yes d2]; done)|(rw [← e9]; done))),?_,?_,?_,?_⟩
    · omega
    · omega
    · rw [fold_step (by omega),← hq]
    · exact hrq.step r2.1 r2.2
    · exact stp_keep hn (by omega)
   have d2:nth Q.2 (nth (nth m.nx (nth P.1 k).toNat) j).toNat=true:=(hrq.mem (nth (nth m.nx (nth P.1 k).toNat) j) r2.1 r2.2).2 (Decidable.not_not.1 (hn.1 ▸ c10))
   refine W_skip (n9 _ _ (.done (W_t (R_mv t5 (R_addN rfl (@rfl V (iV ((1:Nat):Int))) (by omega) (R_mv rfl (R_e ?_)))))))
   refine p17 _ _ _ ?_ ⟨(j+1),w2,(stpR Q (nth (nth m.nx (nth P.1 k).toNat) j)),rfl,t1,(Eq.trans t3 (by first|rfl|(rw [stp_no d2,List.length_append]; rfl)|(rw [stp_yes d2]; done)|(rw [← e9]; done))),t4,(Eq.trans (@rfl V (iV ((j+1:Nat):Int))) (by first|rfl|(rw [stp_no d2,List.length_append]; rfl)|(rw [stp_yes d2]; done)|(rw [← e9]; done))),h1,(Eq.trans h11 (by first|rfl|(rw [stp_no d2,hn.1]; done)|(rw [stp_yes d2]; done)|(rw [← e9]; done))),?_,?_,?_,?_⟩
   · omega
   · omega
   · rw [fold_step (by omega),← hq]
   · exact hrq.step r2.1 r2.2
   · exact stp_keep hn (by omega)
  have e9:Q=rowR m P k:=by rw [hq]; unfold rowR; rw [List.take_of_length_le (by omega)]
  refine W_seq_exit (p37 _ _ _ (x6 _ _ (n5 _ _ (.done (W_t (R_mv t4 (R_addN rfl (@rfl V (iV ((1:Nat):Int))) (by omega) ?_)))))))
  refine R_mv rfl (R_e ?_)
  refine p13 _ _ _ ?_ ⟨(k+1),w2,(rowR m P k),rfl,t1,(Eq.trans t3 (by first|rfl|(rw [stp_no d2,List.length_append]; rfl)|(rw [stp_yes d2]; done)|(rw [← e9]; done))),(Eq.trans (@rfl V (iV ((k+1:Nat):Int))) (by first|rfl|(rw [stp_no d2,List.length_append]; rfl)|(rw [stp_yes d2]; done)|(rw [← e9]; done))),h1,(Eq.trans h11 (by first|rfl|(rw [stp_no d2,hn.1]; done)|(rw [stp_yes d2]; done)|(rw [← e9]; done))),?_,?_,?_⟩
  · omega
  · obtain ⟨x,hx⟩:=fold_grow (nth m.nx (nth P.1 k).toNat) P
    have hg:(rowR m P k).1=P.1++x:=hx
    rw [hg,List.length_append]; omega
  · exact hr.row hm (by omega)
  · rw [hc,bfs_go (by omega) (by omega)]
 refine W_seq_exit (p33 _ _ _ (x2 _ _ (.done (W_r (R_mv t3 (R_mv rfl (R_e ?_)))))))
 refine W_ret ?_
 refine Ret_1 (@rfl V (V.ms 11 w 0 (P.1.length))) (fz_ms h11 (by first|rfl|simp) (l:=P.1) rfl (by first|rfl|simp|omega) (fun _=>by simp) ?_)
 · rw [rch,if_neg (by omega),hc,bfs_end (by omega)]
def b50_0:SC:=.seq (.seq (.reg [qM 6 5,qM 7 0,qN 8 7,qP 9 .lss 6 8]) (.cond (.t 9) (.skip) (.exit 0))) (.seq (.block 1 (.seq (.reg [qM 12 0,qM 13 5,qA 14 1 12 13,ql 15 14,qM 16 1,qP 17 .eql 15 16]) (.cond (.t 17) (.seq (.reg [qM 18 5,qM 4 18]) (.ret)) (.skip)))) (.reg [qM 10 5,qC 11 .add 10 1,qM 5 11]))
def s50:SF:=⟨19,[.tmp 4],.seq (.reg [qI 4 0]) (.seq (.seq (.reg [qI 5 0]) (.block 0 (.loop b50_0))) (.seq (.reg [qI 4 0]) (.ret)))⟩
theorem s50_ok:slimF Tryz.prog ⟨[58,129,130,131,149,155,161,182,183,185,191,192,208,209,210,224,228,231,236],[],[],[]⟩ Tryz.f50=some s50:=by kernel_rfl
theorem index06_pure (l:List Int) (n:Int) (hn:n∈l):PureC Tryz.prog 50 [(ints l),(iV (n))] (iV (idL l n)):=by
 refine pW Tryz.func50 s50_ok fun hB=>?_
 unfold s50
 dsimp only
 have q0:=idL_in hn
 refine W_r (R_mv rfl (R_e (W_seq_seq (W_r (R_mv rfl (R_e (W_seq_blockg fun Q1 n1 x1 y1 z1=>?_)))))))
 refine W_loop (fun mm T H=> ∃ (k:Nat),mm=l.length - k∧T 0=(ints l)∧T 1=(iV (n))∧T 5=(iV ((k:Nat):Int))∧(k≤l.length)∧(idL l n=fi (fun j=>decide (nth l j=n)) k (l.length - k))) ?_ ?_
 ·
  refine ⟨_,0,rfl,rfl,rfl,(Eq.trans (@rfl V (iV (0:Int))) rfl),?_,?_⟩
  · omega
  · rfl
 intro mm T H ⟨k,hmm,t0,t1,t5,hk,hc⟩ Q2 p12 p22 p32
 unfold b50_0
 refine W_seq_seq (W_r (R_mv t5 (R_mv t0 (R_len rfl (R_lss rfl rfl (R_e ?_))))))
 refine W_seq_if rfl (fun c3=>?_) fun c3=>?_
 ·
  refine W_seq_skip (W_seq_blockg fun Q4 n4 x4 y4 z4=>(W_r (R_mv t0 (R_mv t5 (R_idx (i:=k) (@rfl V (ints l)) (@rfl V (iV ((k:Nat):Int))) (by omega) rfl (R_load_pp rfl rfl (R_mv t1 ?_)))))))
  refine R_eql rfl rfl (R_e ?_)
  refine W_if rfl (fun c5=>?_) fun c5=>?_
  ·
   have d1:=c5
   refine W_r (R_mv t5 (R_mv rfl (R_e (W_ret (y4 _ _ (p22 _ _ (y1 _ _ ?_)))))))
   refine Ret_1 (@rfl V (iV ((k:Nat):Int))) (fz_int ?_)
   · rw [hc,fi_hit (p:=fun j=>decide (nth l j=n)) (decide_eq_true d1) (by omega)]
  have d1:=c5
  refine W_skip (n4 _ _ (.done (W_t (R_mv t5 (R_addN rfl (@rfl V (iV ((1:Nat):Int))) (by omega) (R_mv rfl (R_e ?_)))))))
  refine p12 _ _ _ ?_ ⟨(k+1),rfl,t0,t1,(Eq.trans (@rfl V (iV ((k+1:Nat):Int))) (by first|rfl|simp)),?_,?_⟩
  · omega
  · omega
  · rw [hc,fi_skip (p:=fun j=>decide (nth l j=n)) (decide_eq_false d1) (by omega)]
 refine W_seq_exit (p32 _ _ _ (x1 _ _ (.done (W_r (R_mv rfl (R_e (W_ret ?_)))))))
 refine Ret_1 (@rfl V (iV (0:Int))) (fz_int ?_)
 · exfalso; rw [hc,fi_end (by omega)] at q0; omega
theorem rtrim_pure (m:M):PureC Tryz.prog 22 [(V.agg [(iV (m.i)),(iV (m.s)),(intss m.nx),(intss m.ot)])] (V.tup [(V.agg [(iV ((trR m).i)),(iV ((trR m).s)),(intss ((trR m).nx)),(intss ((trR m).ot))]),(iV (mval m))]):=by
 refine pW Tryz.func22 s22_ok fun hB=>?_
 unfold s22
 dsimp only
 refine W_r (R_box (i:=1) (n:=0) (m:=4) (cs:=[(iV (m.i)),(iV (m.s)),(intss m.nx),(intss m.ot)]) rfl (congrArg Blk.ver rfl) rfl rfl rfl (R_alloc (i:=2) (n:=0) (m:=4) rfl (congrArg Blk.ver rfl) rfl (R_mv rfl (R_e (W_seq_seq (W_r (R_lk rfl rfl rfl rfl ?_)))))))
 refine R_callk (rvalid_pure m) rfl (R_mv rfl (R_e (W_seq_seq (W_r (R_mv rfl (R_neq rfl rfl (R_e ?_)))))))
 refine W_seq_if rfl (fun c1=>?_) fun c1=>?_
 ·
  have d0:=c1
  refine W_seq_seq (W_r (R_build rfl rfl (R_mv rfl (R_store (vs:=[(iV (0:Int)),(iV (0:Int)),V.nilsl,V.nilsl]) (B':=(bk 1 24 4 [[(iV (0:Int)),(iV (0:Int)),V.nilsl,V.nilsl]])) rfl rfl rfl rfl (sB oB rfl rfl rfl rfl rfl) (R_mv rfl (R_e (W_seq_ret ?_)))))))
  refine RetC_2 (resV_c (u:=(V.agg [(iV (0:Int)),(iV (0:Int)),V.nilsl,V.nilsl])) rfl (@rfl Blk (bk 1 24 4 [[(iV (0:Int)),(iV (0:Int)),V.nilsl,V.nilsl]])) (lB oB rfl rfl)) (resV_t (@rfl V (iV (mval m)))) (fz_aggL (mcons (fz_int ?_) (mcons (fz_int ?_) (mcons (fz_nil ?_) (mcons (fz_nil ?_) rfl))))) (fz_canon (by simp) rfl)
  · rw [trR,if_neg d0]; try rfl
  · rw [trR,if_neg d0]; try rfl
  · rw [trR,if_neg d0]; try rfl
  · rw [trR,if_neg d0]; try rfl
 have d0:=c1
 have hm:mval m=0:=by omega
 have mo:=mval_ok hm
 have rc:=rch_RC hm
 have rl:=rc.len
 have me:=mo.2.2.2.2.2.2.1
 refine W_seq_skip (W_r (R_lk rfl rfl rfl rfl (R_callk (rreach_pure m) rfl (R_mv rfl (R_e (W_r (R_fk rfl rfl ?_)))))))
 refine R_lk rfl rfl rfl rfl (R_build rfl rfl (R_alloc (i:=6) (n:=0) (m:=4) rfl (congrArg Blk.ver rfl) rfl (R_store (vs:=[(iV (m.i)),(iV (0:Int)),V.nilsl,V.nilsl]) (B':=(bk 1 24 4 [[(iV (m.i)),(iV (0:Int)),V.nilsl,V.nilsl]])) rfl rfl rfl rfl (sB oB rfl rfl rfl rfl rfl) (R_e (W_seq_seq ?_)))))
 refine W_seq_g (fun T H=>T 1=(V.mp 1 1 0 0)∧T 2=(V.mp 2 1 0 0)∧T 5=(ints (rch m))∧T 6=(V.mp 6 1 0 0)∧T 7=(iV (0:Int))∧H 1=(bk 1 24 4 [[(iV (m.i)),(iV (m.s)),(intss m.nx),(intss m.ot)]])∧H 2=(bk 1 24 4 [[(iV (0:Int)),(iV (0:Int)),V.nilsl,V.nilsl]])∧H 6=(bk 1 24 4 [[(iV (m.i)),(iV (0:Int)),V.nilsl,V.nilsl]])∧H 8=(⟨0,false,false,0,0,[]⟩:Blk)∧H 9=(⟨0,false,false,0,0,[]⟩:Blk)∧H 812=(⟨0,false,false,0,0,[]⟩:Blk)∧H 813=(⟨0,false,false,0,0,[]⟩:Blk)∧True) ?_ ?_
 ·
  refine R_mv rfl ?_
  exact R_nil ⟨rfl,rfl,rfl,rfl,rfl,rfl,rfl,rfl,rfl,rfl,rfl,rfl,trivial⟩
 intro T H ⟨t1,t2,t5,t6,t7,h1,h2,h6,h8,h9,h812,h813,_⟩
 refine .lazyCell 812 38 1 6 0 2 [(iV (m.i)),(iV (0:Int)),V.nilsl,V.nilsl] (by decide) (by rw [h6]; rfl) (by rw [h6]; rfl) rfl (fork_ (R:=fun T H=>T 1=(V.mp 1 1 0 0)∧T 2=(V.mp 2 1 0 0)∧T 5=(ints (rch m))∧T 6=(V.mp 6 1 0 0)∧T 7=(iV (0:Int))∧H 1=(bk 1 24 4 [[(iV (m.i)),(iV (m.s)),(intss m.nx),(intss m.ot)]])∧H 2=(bk 1 24 4 [[(iV (0:Int)),(iV (0:Int)),V.nilsl,V.nilsl]])∧H 6=(bk 1 24 4 [[(iV (m.i)),(iV (0:Int)),(V.ms 812 1 0 (0)),V.nilsl]])∧H 8=(⟨0,false,false,0,0,[]⟩:Blk)∧H 9=(⟨0,false,false,0,0,[]⟩:Blk)∧H 812=(bz 1 38 1 [])∧H 813=(⟨0,false,false,0,0,[]⟩:Blk)∧True) ⟨t1,t2,t5,t6,t7,((upd_ne _ _ (by decide)).trans ((upd_ne _ _ (by decide)).trans h1)),((upd_ne _ _ (by decide)).trans ((upd_ne _ _ (by decide)).trans h2)),(by rw [upd_same,h6,(congrArg Blk.ver h812)]; rfl),((upd_ne _ _ (by decide)).trans ((upd_ne _ _ (by decide)).trans h8)),((upd_ne _ _ (by decide)).trans ((upd_ne _ _ (by decide)).trans h9)),(by rw [upd_ne _ _ (by decide),upd_same,(congrArg Blk.ver h812)]),((upd_ne _ _ (by decide)).trans ((upd_ne _ _ (by decide)).trans h813)),trivial⟩ ?_)
 intro T H ⟨t1,t2,t5,t6,t7,h1,h2,h6,h8,h9,h812,h813,_⟩
 refine .lazyCell 813 38 1 6 0 3 [(iV (m.i)),(iV (0:Int)),(V.ms 812 1 0 (0)),V.nilsl] (by decide) (by rw [h6]; rfl) (by rw [h6]; rfl) rfl (.done ?_)
 refine fork_ (R:=fun T H=>T 1=(V.mp 1 1 0 0)∧T 2=(V.mp 2 1 0 0)∧T 5=(ints (rch m))∧T 6=(V.mp 6 1 0 0)∧T 7=(iV (0:Int))∧H 1=(bk 1 24 4 [[(iV (m.i)),(iV (m.s)),(intss m.nx),(intss m.ot)]])∧H 2=(bk 1 24 4 [[(iV (0:Int)),(iV (0:Int)),V.nilsl,V.nilsl]])∧H 6=(bk 1 24 4 [[(iV (m.i)),(iV (0:Int)),(V.ms 812 1 0 (0)),(V.ms 813 1 0 (0))]])∧H 8=(⟨0,false,false,0,0,[]⟩:Blk)∧H 9=(⟨0,false,false,0,0,[]⟩:Blk)∧H 812=(bz 1 38 1 [])∧H 813=(bz 1 38 1 [])∧True) ⟨t1,t2,t5,t6,t7,((upd_ne _ _ (by decide)).trans ((upd_ne _ _ (by decide)).trans h1)),((upd_ne _ _ (by decide)).trans ((upd_ne _ _ (by decide)).trans h2)),(by rw [upd_same,h6,(congrArg Blk.ver h813)]; rfl),((upd_ne _ _ (by decide)).trans ((upd_ne _ _ (by decide)).trans h8)),((upd_ne _ _ (by decide)).trans ((upd_ne _ _ (by decide)).trans h9)),((upd_ne _ _ (by decide)).trans ((upd_ne _ _ (by decide)).trans h812)),(by rw [upd_ne _ _ (by decide),upd_same,(congrArg Blk.ver h813)]),trivial⟩ ?_
 intro T H ⟨t1,t2,t5,t6,t7,h1,h2,h6,h8,h9,h812,h813,_⟩
 refine W_seq_blockg fun Q2 n2 x2 y2 z2=>?_
 refine W_loop (fun mm T H=> ∃ (k:Nat) (v:Nat) (w:Nat) (v8:Nat) (v9:Nat),mm=(rch m).length - k∧T 1=(V.mp 1 1 0 0)∧T 2=(V.mp 2 1 0 0)∧T 5=(ints (rch m))∧T 6=(V.mp 6 1 0 0)∧T 7=(iV ((k:Nat):Int))∧H 1=(bk 1 24 4 [[(iV (m.i)),(iV (m.s)),(intss m.nx),(intss m.ot)]])∧H 2=(bk 1 24 4 [[(iV (0:Int)),(iV (0:Int)),V.nilsl,V.nilsl]])∧H 6=(bk 1 24 4 [[(iV (m.i)),(iV (0:Int)),(V.ms 812 v 0 (k)),(V.ms 813 w 0 (k))]])∧((H 8).ver=v8∧(H 8).live=false)∧((H 9).ver=v9∧(H 9).live=false)∧H 812=(bz v 38 1 (List.map cL (tbl (tNx m) k)))∧H 813=(bz w 38 1 (List.map cL (tbl (tOt m) k)))∧(k≤(rch m).length)) ?_ ?_
 ·
  refine ⟨_,0,1,1,0,0,rfl,t1,t2,t5,t6,(Eq.trans t7 rfl),h1,h2,h6,⟨(congrArg Blk.ver h8),congrArg Blk.live h8⟩,⟨(congrArg Blk.ver h9),congrArg Blk.live h9⟩,(Eq.trans h812 (by first|rfl|(rw [tbl_succ]; first|done|rfl)|(rw [tbl_succ,List.map_append]; first|done|rfl)|(rw [tbl_succ,ej]; first|done|rfl)|(rw [tbl_succ,eo]; first|done|rfl)|(rw [tbl_succ,List.map_append,ej]; first|done|rfl)|(rw [tbl_succ,List.map_append,eo]; first|done|rfl)|(simp; done))),(Eq.trans h813 (by first|rfl|(rw [tbl_succ]; first|done|rfl)|(rw [tbl_succ,List.map_append]; first|done|rfl)|(rw [tbl_succ,ej]; first|done|rfl)|(rw [tbl_succ,eo]; first|done|rfl)|(rw [tbl_succ,List.map_append,ej]; first|done|rfl)|(rw [tbl_succ,List.map_append,eo]; first|done|rfl)|(simp; done))),?_⟩
  · exact Nat.zero_le _
 intro mm T H ⟨k,v,w,v8,v9,hmm,t1,t2,t5,t6,t7,h1,h2,h6,h8,h9,h812,h813,hk⟩ Q3 p13 p23 p33
 unfold b22_0
 refine W_seq_seq (W_r (R_mv t7 (R_mv t5 (R_len rfl (R_lss rfl rfl (R_e ?_))))))
 refine W_seq_if rfl (fun c4=>?_) fun c4=>?_
 ·
  have rk:=rc.rng k (by omega)
  have rr:=mo.2.2.2.2.2.2.2 (nth (rch m) k).toNat (by omega)
  refine W_seq_skip (W_seq_blockg fun Q5 n5 x5 y5 z5=>(W_r (R_lazy (i:=8) (n:=v8) rfl (h8).1 (R_lazy (i:=9) (n:=v9) rfl (h9).1 (R_e (W_seq_seq (W_r ?_)))))))
  refine R_mv rfl (R_e (W_seq_blockg fun Q6 n6 x6 y6 z6=>?_))
  refine W_loop (fun mm T H=> ∃ (j:Nat) (v2:Nat) (w2:Nat),mm=m.i.toNat - j∧T 1=(V.mp 1 1 0 0)∧T 2=(V.mp 2 1 0 0)∧T 5=(ints (rch m))∧T 6=(V.mp 6 1 0 0)∧T 7=(iV ((k:Nat):Int))∧T 8=(V.ms 8 v2 0 (j))∧T 9=(V.ms 9 w2 0 (j))∧T 10=(iV ((j:Nat):Int))∧H 1=(bk 1 24 4 [[(iV (m.i)),(iV (m.s)),(intss m.nx),(intss m.ot)]])∧H 2=(bk 1 24 4 [[(iV (0:Int)),(iV (0:Int)),V.nilsl,V.nilsl]])∧H 6=(bk 1 24 4 [[(iV (m.i)),(iV (0:Int)),(V.ms 812 v 0 (k)),(V.ms 813 w 0 (k))]])∧H 8=(bz v2 3 1 (List.map cI (tbl (tNxA m k) j)))∧H 9=(bz w2 3 1 (List.map cI (tbl (tOtA m k) j)))∧H 812=(bz v 38 1 (List.map cL (tbl (tNx m) k)))∧H 813=(bz w 38 1 (List.map cL (tbl (tOt m) k)))∧(j≤m.i.toNat)) ?_ ?_
  ·
   refine ⟨_,0,(v8+1),(v9+1),rfl,t1,t2,t5,t6,t7,(Eq.trans (@rfl V (V.ms 8 (v8+1) 0 (0))) (by first|rfl|simp)),(Eq.trans (@rfl V (V.ms 9 (v9+1) 0 (0))) (by first|rfl|simp)),(Eq.trans (@rfl V (iV (0:Int))) rfl),h1,h2,h6,(Eq.trans (@rfl Blk (bz (v8+1) 3 1 [])) (by first|rfl|(rw [tbl_succ]; first|done|rfl)|(rw [tbl_succ,List.map_append]; first|done|rfl)|(rw [tbl_succ,ej]; first|done|rfl)|(rw [tbl_succ,eo]; first|done|rfl)|(rw [tbl_succ,List.map_append,ej]; first|done|rfl)|(rw [tbl_succ,List.map_append,eo]; first|done|rfl)|(simp; done))),(Eq.trans (@rfl Blk (bz (v9+1) 3 1 [])) (by first|rfl|(rw [tbl_succ]; first|done|rfl)|(rw [tbl_succ,List.map_append]; first|done|rfl)|(rw [tbl_succ,ej]; first|done|rfl)|(rw [tbl_succ,eo]; first|done|rfl)|(rw [tbl_succ,List.map_append,ej]; first|done|rfl)|(rw [tbl_succ,List.map_append,eo]; first|done|rfl)|(simp; done))),h812,h813,?_⟩
   · exact Nat.zero_le _
  intro mm T H ⟨j,v2,w2,hmm,t1,t2,t5,t6,t7,t8,t9,t10,h1,h2,h6,h8,h9,h812,h813,hj⟩ Q7 p17 p27 p37
  unfold b22_1
  refine W_seq_seq (W_r (R_mv t10 (R_fk t1 h1 (R_lk rfl h1 rfl rfl (R_lss rfl rfl (R_e ?_))))))
  refine W_seq_if rfl (fun c8=>?_) fun c8=>?_
  ·
   have rj:=rr.2.2 j (by omega)
   have rin:=rc.clo k (by omega) _ (nth_mem (show j < (nth m.nx (nth (rch m) k).toNat).length by omega))
   refine W_seq_skip (W_seq_blockg fun Q9 n9 x9 y9 z9=>(W_r (R_mv t8 (R_mv t5 (R_fk t1 h1 (R_lk rfl h1 rfl rfl (R_mv t5 ?_)))))))
   refine R_mv t7 (R_idx (i:=k) (@rfl V (ints (rch m))) (@rfl V (iV ((k:Nat):Int))) (by omega) rfl (R_load_pp rfl rfl (R_idxI (i:=((nth (rch m) (k)))) (@rfl V (intss m.nx)) (@rfl V (iV ((nth (rch m) (k))))) (by omega) (by omega) rfl (R_load_pp rfl rfl (R_mv t10 (R_idx (i:=j) (@rfl V (ints ((nth (m.nx) ((nth (rch m) (k))).toNat)))) (@rfl V (iV ((j:Nat):Int))) (by omega) rfl (R_load_pp rfl rfl ?_)))))))
   refine R_callk (index06_pure (rch m) (((nth ((nth (m.nx) ((nth (rch m) (k))).toNat)) (j)))) rin) rfl (R_bslice rfl rfl (R_append1 (l:=(tbl (tNxA m k) j)) (f:=cI) (x:=((idL (rch m) (((nth ((nth (m.nx) ((nth (rch m) (k))).toNat)) (j))))))) (@rfl V (V.ms 8 v2 0 (j))) h8 (by first|rfl|exact (tbl_len _ _).symm|simp|omega) (@rfl V (V.sl [[(iV (idL (rch m) (((nth ((nth (m.nx) ((nth (rch m) (k))).toNat)) (j))))))]])) rfl rfl (by omega) (by omega) (R_mv rfl (R_e (W_t (R_mv t9 (R_fk t1 h1 ?_)))))))
   refine R_lk rfl h1 rfl rfl (R_mv t5 (R_mv t7 (R_idx (i:=k) (@rfl V (ints (rch m))) (@rfl V (iV ((k:Nat):Int))) (by omega) rfl (R_load_pp rfl rfl (R_idxI (i:=((nth (rch m) (k)))) (@rfl V (intss m.ot)) (@rfl V (iV ((nth (rch m) (k))))) (by omega) (by omega) rfl (R_load_pp rfl rfl (R_mv t10 ?_)))))))
   refine R_idx (i:=j) (@rfl V (ints ((nth (m.ot) ((nth (rch m) (k))).toNat)))) (@rfl V (iV ((j:Nat):Int))) (by omega) rfl (R_load_pp rfl rfl (R_bslice rfl rfl (R_append1 (l:=(tbl (tOtA m k) j)) (f:=cI) (x:=(((nth ((nth (m.ot) ((nth (rch m) (k))).toNat)) (j))))) (@rfl V (V.ms 9 w2 0 (j))) h9 (by first|rfl|exact (tbl_len _ _).symm|simp|omega) (@rfl V (V.sl [[(iV ((nth ((nth (m.ot) ((nth (rch m) (k))).toNat)) (j))))]])) rfl rfl (by omega) (by omega) (R_mv rfl (R_e (n9 _ _ (.done ?_)))))))
   refine W_t (R_mv t10 (R_addN rfl (@rfl V (iV ((1:Nat):Int))) (by omega) (R_mv rfl (R_e ?_))))
   refine p17 _ _ _ ?_ ⟨(j+1),(v2+1),(w2+1),rfl,t1,t2,t5,t6,t7,(Eq.trans (@rfl V (V.ms 8 (v2+1) 0 (j+1))) (by first|rfl|simp)),(Eq.trans (@rfl V (V.ms 9 (w2+1) 0 (j+1))) (by first|rfl|simp)),(Eq.trans (@rfl V (iV ((j+1:Nat):Int))) (by first|rfl|simp)),h1,h2,h6,(Eq.trans (@rfl Blk (bz (v2+1) 3 1 (List.map cI (tbl (tNxA m k) j++[(idL (rch m) (((nth ((nth (m.nx) ((nth (rch m) (k))).toNat)) (j)))))])))) (by first|rfl|(rw [tbl_succ]; first|done|rfl)|(rw [tbl_succ,List.map_append]; first|done|rfl)|(rw [tbl_succ,ej]; first|done|rfl)|(rw [tbl_succ,eo]; first|done|rfl)|(rw [tbl_succ,List.map_append,ej]; first|done|rfl)|(rw [tbl_succ,List.map_append,eo]; first|done|rfl)|(simp; done))),(Eq.trans (@rfl Blk (bz (w2+1) 3 1 (List.map cI (tbl (tOtA m k) j++[((nth ((nth (m.ot) ((nth (rch m) (k))).toNat)) (j)))])))) (by first|rfl|(rw [tbl_succ]; first|done|rfl)|(rw [tbl_succ,List.map_append]; first|done|rfl)|(rw [tbl_succ,ej]; first|done|rfl)|(rw [tbl_succ,eo]; first|done|rfl)|(rw [tbl_succ,List.map_append,ej]; first|done|rfl)|(rw [tbl_succ,List.map_append,eo]; first|done|rfl)|(simp; done))),h812,h813,?_⟩
   · omega
   · omega
  have ej:tNx m k=tbl (tNxA m k) j:=by unfold tNx; rw [show m.i.toNat=j by omega]
  have eo:tOt m k=tbl (tOtA m k) j:=by unfold tOt; rw [show m.i.toNat=j by omega]
  refine W_seq_exit (p37 _ _ _ (x6 _ _ (fork_ (R:=fun T H=>T 1=(V.mp 1 1 0 0)∧T 2=(V.mp 2 1 0 0)∧T 5=(ints (rch m))∧T 6=(V.mp 6 1 0 0)∧T 7=(iV ((k:Nat):Int))∧T 8=(V.ms 8 v2 0 (j))∧T 9=(V.ms 9 w2 0 (j))∧T 10=(iV ((j:Nat):Int))∧T 31=(V.bool (decide (((j:Nat):Int) < (m.i))))∧H 1=(bk 1 24 4 [[(iV (m.i)),(iV (m.s)),(intss m.nx),(intss m.ot)]])∧H 2=(bk 1 24 4 [[(iV (0:Int)),(iV (0:Int)),V.nilsl,V.nilsl]])∧H 6=(bk 1 24 4 [[(iV (m.i)),(iV (0:Int)),(V.ms 812 v 0 (k)),(V.ms 813 w 0 (k))]])∧H 8=(bz v2 3 1 (List.map cI (tbl (tNxA m k) j)))∧H 9=(bz w2 3 1 (List.map cI (tbl (tOtA m k) j)))∧H 812=(bz v 38 1 (List.map cL (tbl (tNx m) k)))∧H 813=(bz w 38 1 (List.map cL (tbl (tOt m) k)))∧True) ⟨t1,t2,t5,t6,t7,t8,t9,t10,(@rfl V (V.bool (decide (((j:Nat):Int) < (m.i))))),h1,h2,h6,h8,h9,h812,h813,trivial⟩ ?_)))
  intro T H ⟨t1,t2,t5,t6,t7,t8,t9,t10,t31,h1,h2,h6,h8,h9,h812,h813,_⟩
  refine .freeze 8 (.done ?_)
  refine fork_ (R:=fun T H=>T 1=(V.mp 1 1 0 0)∧T 2=(V.mp 2 1 0 0)∧T 5=(ints (rch m))∧T 6=(V.mp 6 1 0 0)∧T 7=(iV ((k:Nat):Int))∧T 8=(ints (tbl (tNxA m k) j))∧T 9=(V.ms 9 w2 0 (j))∧T 10=(iV ((j:Nat):Int))∧T 31=(V.bool (decide (((j:Nat):Int) < (m.i))))∧H 1=(bk 1 24 4 [[(iV (m.i)),(iV (m.s)),(intss m.nx),(intss m.ot)]])∧H 2=(bk 1 24 4 [[(iV (0:Int)),(iV (0:Int)),V.nilsl,V.nilsl]])∧H 6=(bk 1 24 4 [[(iV (m.i)),(iV (0:Int)),(V.ms 812 v 0 (k)),(V.ms 813 w 0 (k))]])∧((H 8).ver=v2∧(H 8).live=false)∧H 9=(bz w2 3 1 (List.map cI (tbl (tOtA m k) j)))∧H 812=(bz v 38 1 (List.map cL (tbl (tNx m) k)))∧H 813=(bz w 38 1 (List.map cL (tbl (tOt m) k)))∧True) ⟨(fzT_q t1 rfl),(fzT_q t2 rfl),(fzT_q t5 rfl),(fzT_q t6 rfl),(fzT_q t7 rfl),(fzT_q t8 (fzq_own h8 (by first|rfl|simp) (l:=(tbl (tNxA m k) j)) rfl (by first|rfl|exact (tbl_len _ _).symm|simp|omega))),(fzT_q t9 (fzq_other (by decide))),(fzT_q t10 rfl),(fzT_q t31 rfl),(kill_ne h1 (by decide)),(kill_ne h2 (by decide)),(kill_ne h6 (by decide)),(kill_self (congrArg Blk.ver h8)),(kill_ne h9 (by decide)),(kill_ne h812 (by decide)),(kill_ne h813 (by decide)),trivial⟩ ?_
  intro T H ⟨t1,t2,t5,t6,t7,t8,t9,t10,t31,h1,h2,h6,h8,h9,h812,h813,_⟩
  refine W_seq_g (fun T H=>T 1=(V.mp 1 1 0 0)∧T 2=(V.mp 2 1 0 0)∧T 5=(ints (rch m))∧T 6=(V.mp 6 1 0 0)∧T 7=(iV ((k:Nat):Int))∧T 9=(V.ms 9 w2 0 (j))∧H 1=(bk 1 24 4 [[(iV (m.i)),(iV (m.s)),(intss m.nx),(intss m.ot)]])∧H 2=(bk 1 24 4 [[(iV (0:Int)),(iV (0:Int)),V.nilsl,V.nilsl]])∧H 6=(bk 1 24 4 [[(iV (m.i)),(iV (0:Int)),(V.ms 812 (v+1) 0 (k+1)),(V.ms 813 w 0 (k))]])∧((H 8).ver=v2∧(H 8).live=false)∧H 9=(bz w2 3 1 (List.map cI (tbl (tOtA m k) j)))∧H 812=(bz (v+1) 38 1 (List.map cL (tbl (tNx m) k++[tbl (tNxA m k) j])))∧H 813=(bz w 38 1 (List.map cL (tbl (tOt m) k)))∧True) ?_ ?_
  ·
   refine R_fk t6 h6 (R_lk rfl h6 rfl rfl (R_mv t8 (R_bslice rfl rfl (R_append1 (l:=(tbl (tNx m) k)) (f:=cL) (x:=(tbl (tNxA m k) j)) (@rfl V (V.ms 812 v 0 (k))) h812 (by first|rfl|exact (tbl_len _ _).symm|simp|omega) (@rfl V (V.sl [[(ints (tbl (tNxA m k) j))]])) rfl rfl (by omega) (by omega) (R_fk t6 h6 (R_store (vs:=[(V.ms 812 (v+1) 0 (k+1))]) (B':=(bk 1 24 4 [[(iV (m.i)),(iV (0:Int)),(V.ms 812 (v+1) 0 (k+1)),(V.ms 813 w 0 (k))]])) rfl rfl rfl h6 (sB oB rfl rfl rfl rfl rfl) ?_))))))
   exact R_nil ⟨t1,t2,t5,t6,t7,t9,h1,h2,rfl,h8,h9,rfl,h813,trivial⟩
  intro T H ⟨t1,t2,t5,t6,t7,t9,h1,h2,h6,h8,h9,h812,h813,_⟩
  refine .freeze 9 (.done ?_)
  refine fork_ (R:=fun T H=>T 1=(V.mp 1 1 0 0)∧T 2=(V.mp 2 1 0 0)∧T 5=(ints (rch m))∧T 6=(V.mp 6 1 0 0)∧T 7=(iV ((k:Nat):Int))∧T 9=(ints (tbl (tOtA m k) j))∧H 1=(bk 1 24 4 [[(iV (m.i)),(iV (m.s)),(intss m.nx),(intss m.ot)]])∧H 2=(bk 1 24 4 [[(iV (0:Int)),(iV (0:Int)),V.nilsl,V.nilsl]])∧H 6=(bk 1 24 4 [[(iV (m.i)),(iV (0:Int)),(V.ms 812 (v+1) 0 (k+1)),(V.ms 813 w 0 (k))]])∧((H 8).ver=v2∧(H 8).live=false)∧((H 9).ver=w2∧(H 9).live=false)∧H 812=(bz (v+1) 38 1 (List.map cL (tbl (tNx m) k++[tbl (tNxA m k) j])))∧H 813=(bz w 38 1 (List.map cL (tbl (tOt m) k)))∧True) ⟨(fzT_q t1 rfl),(fzT_q t2 rfl),(fzT_q t5 rfl),(fzT_q t6 rfl),(fzT_q t7 rfl),(fzT_q t9 (fzq_own h9 (by first|rfl|simp) (l:=(tbl (tOtA m k) j)) rfl (by first|rfl|exact (tbl_len _ _).symm|simp|omega))),(kill_ne h1 (by decide)),(kill_ne h2 (by decide)),(kill_ne h6 (by decide)),(kill_dead h8),(kill_self (congrArg Blk.ver h9)),(kill_ne h812 (by decide)),(kill_ne h813 (by decide)),trivial⟩ ?_
  intro T H ⟨t1,t2,t5,t6,t7,t9,h1,h2,h6,h8,h9,h812,h813,_⟩
  refine W_t (R_fk t6 h6 (R_lk rfl h6 rfl rfl (R_mv t9 (R_bslice rfl rfl (R_append1 (l:=(tbl (tOt m) k)) (f:=cL) (x:=(tbl (tOtA m k) j)) (@rfl V (V.ms 813 w 0 (k))) h813 (by first|rfl|exact (tbl_len _ _).symm|simp|omega) (@rfl V (V.sl [[(ints (tbl (tOtA m k) j))]])) rfl rfl (by omega) (by omega) (R_fk t6 h6 (R_store (vs:=[(V.ms 813 (w+1) 0 (k+1))]) (B':=(bk 1 24 4 [[(iV (m.i)),(iV (0:Int)),(V.ms 812 (v+1) 0 (k+1)),(V.ms 813 (w+1) 0 (k+1))]])) rfl rfl rfl h6 (sB oB rfl rfl rfl rfl rfl) ?_)))))))
  refine R_e (n5 _ _ (.done (W_t (R_mv t7 (R_addN rfl (@rfl V (iV ((1:Nat):Int))) (by omega) (R_mv rfl (R_e ?_)))))))
  refine p13 _ _ _ ?_ ⟨(k+1),(v+1),(w+1),v2,w2,rfl,t1,t2,t5,t6,(Eq.trans (@rfl V (iV ((k+1:Nat):Int))) (by first|rfl|simp)),h1,h2,(Eq.trans (@rfl Blk (bk 1 24 4 [[(iV (m.i)),(iV (0:Int)),(V.ms 812 (v+1) 0 (k+1)),(V.ms 813 (w+1) 0 (k+1))]])) (by first|rfl|(rw [tbl_succ]; first|done|rfl)|(rw [tbl_succ,List.map_append]; first|done|rfl)|(rw [tbl_succ,ej]; first|done|rfl)|(rw [tbl_succ,eo]; first|done|rfl)|(rw [tbl_succ,List.map_append,ej]; first|done|rfl)|(rw [tbl_succ,List.map_append,eo]; first|done|rfl)|(simp; done))),h8,h9,(Eq.trans h812 (by first|rfl|(rw [tbl_succ]; first|done|rfl)|(rw [tbl_succ,List.map_append]; first|done|rfl)|(rw [tbl_succ,ej]; first|done|rfl)|(rw [tbl_succ,eo]; first|done|rfl)|(rw [tbl_succ,List.map_append,ej]; first|done|rfl)|(rw [tbl_succ,List.map_append,eo]; first|done|rfl)|(simp; done))),(Eq.trans (@rfl Blk (bz (w+1) 38 1 (List.map cL (tbl (tOt m) k++[tbl (tOtA m k) j])))) (by first|rfl|(rw [tbl_succ]; first|done|rfl)|(rw [tbl_succ,List.map_append]; first|done|rfl)|(rw [tbl_succ,ej]; first|done|rfl)|(rw [tbl_succ,eo]; first|done|rfl)|(rw [tbl_succ,List.map_append,ej]; first|done|rfl)|(rw [tbl_succ,List.map_append,eo]; first|done|rfl)|(simp; done))),?_⟩
  · omega
  · omega
 refine W_seq_exit (p33 _ _ _ (x2 _ _ (.done (W_r (R_lk t6 h6 rfl rfl (R_store (vs:=[(iV (m.i)),(iV (0:Int)),(V.ms 812 v 0 (k)),(V.ms 813 w 0 (k))]) (B':=(bk 1 24 4 [[(iV (m.i)),(iV (0:Int)),(V.ms 812 v 0 (k)),(V.ms 813 w 0 (k))]])) t2 rfl rfl h2 (sB oB rfl rfl rfl rfl rfl) (R_mv rfl ?_)))))))
 refine R_e (W_ret ?_)
 refine RetC_2 (resV_c (u:=(V.agg [(iV (m.i)),(iV (0:Int)),(V.ms 812 v 0 (k)),(V.ms 813 w 0 (k))])) t2 (@rfl Blk (bk 1 24 4 [[(iV (m.i)),(iV (0:Int)),(V.ms 812 v 0 (k)),(V.ms 813 w 0 (k))]])) (lB oB rfl rfl)) (resV_t (@rfl V (iV (0:Int)))) (fz_aggL (mcons (fz_int ?_) (mcons (fz_int ?_) (mcons (fz_ms h812 (by first|rfl|simp) (l:=(tbl (tNx m) k)) rfl (by first|rfl|exact (tbl_len _ _).symm|simp|omega) (fun _=>by simp) ?_) (mcons (fz_ms h813 (by first|rfl|simp) (l:=(tbl (tOt m) k)) rfl (by first|rfl|exact (tbl_len _ _).symm|simp|omega) (fun _=>by simp) ?_) rfl))))) (fz_int ?_)
 · rw [trR,if_pos hm,trm_tbl hm]; try first|rfl|(rw [show k=(rch m).length by omega]; done)|(rw [show k=(rch m).length by omega]; rfl)
 · rw [trR,if_pos hm,trm_tbl hm]; try first|rfl|(rw [show k=(rch m).length by omega]; done)|(rw [show k=(rch m).length by omega]; rfl)
 · rw [trR,if_pos hm,trm_tbl hm]; try first|rfl|(rw [show k=(rch m).length by omega]; done)|(rw [show k=(rch m).length by omega]; rfl)
 · rw [trR,if_pos hm,trm_tbl hm]; try first|rfl|(rw [show k=(rch m).length by omega]; done)|(rw [show k=(rch m).length by omega]; rfl)
 · exact hm.symm
def r23_1:List SO:=[
 qF 5 0 2,
 ql 6 5,
 qF 7 0 3,
 ql 8 7,
 qP 9 .eql 6 8,
 qM 10 9,
 ⟨some (10,true),some 11,.fld 1 (.t 2)⟩,
 ⟨some (10,true),some 12,.load false 1 (.t 11)⟩,
 ⟨some (10,true),some 13,.fld 1 (.t 3)⟩,
 ⟨some (10,true),some 14,.load false 1 (.t 13)⟩,
 ⟨some (10,true),some 15,.bin .eql (.t 12) (.t 14)⟩,
 sO 16 (.pick (.t 10) (.t 15) (.c (.bool false))),
 qM 17 16,
 ⟨some (17,true),some 18,.fld 2 (.t 2)⟩,
 ⟨some (17,true),some 19,.load false 1 (.t 18)⟩,
 ⟨some (17,true),some 20,.fld 2 (.t 3)⟩,
 ⟨some (17,true),some 21,.load false 1 (.t 20)⟩,
 ⟨some (17,true),some 22,.call false 38 [.t 19,.t 21]⟩,
 sO 23 (.pick (.t 17) (.t 22) (.c (.bool false))),
 qM 24 23,
 ⟨some (24,true),some 25,.fld 3 (.t 2)⟩,
 ⟨some (24,true),some 26,.load false 1 (.t 25)⟩,
 ⟨some (24,true),some 27,.fld 3 (.t 3)⟩,
 ⟨some (24,true),some 28,.load false 1 (.t 27)⟩,
 ⟨some (24,true),some 29,.call false 38 [.t 26,.t 28]⟩,
 sO 30 (.pick (.t 24) (.t 29) (.c (.bool false))),
 qM 4 30]
def s23:SF:=⟨31,[.tmp 4],.seq (.reg [sO 2 (.box 24 4 (.t 0)),sO 3 (.box 24 4 (.t 1)),sO 4 (.mv (.c (.bool false)))]) (.seq (.reg r23_1) (.ret))⟩
theorem s23_ok:slimF Tryz.prog ⟨[58,129,130,131,149,155,161,182,183,185,191,192,208,209,210,224,228,231,236],[],[],[]⟩ Tryz.f23=some s23:=by kernel_rfl
theorem ints_pure (a b:List Int):PureC Tryz.prog 17 [(ints a),(ints b)] (V.bool (decide (a=b))):=by
 refine pW Tryz.func17 s17_ok fun hB=>?_
 unfold s17
 dsimp only
 refine W_r (R_mv rfl (R_e (W_seq_seq (W_r (R_mv rfl (R_len rfl (R_mv rfl ?_)))))))
 refine R_len rfl (R_neq rfl rfl (R_e ?_))
 refine W_seq_if rfl (fun c1=>?_) fun c1=>?_
 ·
  refine W_seq_seq (W_r (R_mv rfl (R_e (W_seq_ret ?_))))
  refine Ret_1 (@rfl V (V.bool false)) (fz_bool ?_)
  · exact (decide_eq_false (fun e=>by subst e; omega)).symm
 refine W_seq_skip (W_seq_seq (W_r (R_mv rfl (R_e (W_seq_blockg fun Q2 n2 x2 y2 z2=>?_)))))
 refine W_loop (fun mm T H=> ∃ (k:Nat),mm=a.length - k∧T 0=(ints a)∧T 1=(ints b)∧T 5=(iV ((k:Nat):Int))∧(k≤a.length)∧(a.length=b.length)∧(∀ j,j < k→nth a j=nth b j)) ?_ ?_
 ·
  refine ⟨_,0,rfl,rfl,rfl,(Eq.trans (@rfl V (iV (0:Int))) rfl),?_,?_,?_⟩
  · omega
  · omega
  · intro j hj; omega
 intro mm T H ⟨k,hmm,t0,t1,t5,hk,hl,hc⟩ Q3 p13 p23 p33
 unfold b17_0
 refine W_seq_seq (W_r (R_mv t5 (R_mv t0 (R_len rfl (R_lss rfl rfl (R_e ?_))))))
 refine W_seq_if rfl (fun c4=>?_) fun c4=>?_
 ·
  refine W_seq_skip (W_seq_blockg fun Q5 n5 x5 y5 z5=>(W_r (R_mv t0 (R_mv t5 (R_idx (i:=k) (@rfl V (ints a)) (@rfl V (iV ((k:Nat):Int))) (by omega) rfl (R_load_pp rfl rfl (R_mv t1 ?_)))))))
  refine R_mv t5 (R_idx (i:=k) (@rfl V (ints b)) (@rfl V (iV ((k:Nat):Int))) (by omega) rfl (R_load_pp rfl rfl (R_neq rfl rfl (R_e ?_))))
  refine W_if rfl (fun c6=>?_) fun c6=>?_
  ·
   refine W_r (R_mv rfl (R_e (W_ret (y5 _ _ (p23 _ _ (y2 _ _ ?_))))))
   refine Ret_1 (@rfl V (V.bool false)) (fz_bool ?_)
   · exact (decide_eq_false (fun e=>by subst e; omega)).symm
  refine W_skip (n5 _ _ (.done (W_t (R_mv t5 (R_addN rfl (@rfl V (iV ((1:Nat):Int))) (by omega) (R_mv rfl (R_e ?_)))))))
  refine p13 _ _ _ ?_ ⟨(k+1),rfl,t0,t1,(Eq.trans (@rfl V (iV ((k+1:Nat):Int))) (by first|rfl|simp)),?_,?_,?_⟩
  · omega
  · omega
  · omega
  · intro j hj
    by_cases e:j=k
    · subst e; omega
    · exact hc j (by omega)
 refine W_seq_exit (p33 _ _ _ (x2 _ _ (.done (W_r (R_mv rfl (R_e (W_ret ?_)))))))
 refine Ret_1 (@rfl V (V.bool true)) (fz_bool ?_)
 · exact (decide_eq_true (nth_ext hl fun j hj=>hc j (by omega))).symm
theorem lists_pure (a b:List (List Int)):PureC Tryz.prog 38 [(intss a),(intss b)] (V.bool (decide (a=b))):=by
 refine pW Tryz.func38 s38_ok fun hB=>?_
 unfold s38
 dsimp only
 refine W_r (R_mv rfl (R_e (W_seq_seq (W_r (R_mv rfl (R_len rfl (R_mv rfl ?_)))))))
 refine R_len rfl (R_neq rfl rfl (R_e ?_))
 refine W_seq_if rfl (fun c1=>?_) fun c1=>?_
 ·
  refine W_seq_seq (W_r (R_mv rfl (R_e (W_seq_ret ?_))))
  refine Ret_1 (@rfl V (V.bool false)) (fz_bool ?_)
  · exact (decide_eq_false (fun e=>by subst e; omega)).symm
 refine W_seq_skip (W_seq_seq (W_r (R_mv rfl (R_e (W_seq_blockg fun Q2 n2 x2 y2 z2=>?_)))))
 refine W_loop (fun mm T H=> ∃ (k:Nat),mm=a.length - k∧T 0=(intss a)∧T 1=(intss b)∧T 5=(iV ((k:Nat):Int))∧(k≤a.length)∧(a.length=b.length)∧(∀ j,j < k→nth a j=nth b j)) ?_ ?_
 ·
  refine ⟨_,0,rfl,rfl,rfl,(Eq.trans (@rfl V (iV (0:Int))) rfl),?_,?_,?_⟩
  · omega
  · omega
  · intro j hj; omega
 intro mm T H ⟨k,hmm,t0,t1,t5,hk,hl,hc⟩ Q3 p13 p23 p33
 unfold b38_0
 refine W_seq_seq (W_r (R_mv t5 (R_mv t0 (R_len rfl (R_lss rfl rfl (R_e ?_))))))
 refine W_seq_if rfl (fun c4=>?_) fun c4=>?_
 ·
  refine W_seq_skip (W_seq_blockg fun Q5 n5 x5 y5 z5=>(W_r (R_mv t0 (R_mv t5 (R_idx (i:=k) (@rfl V (intss a)) (@rfl V (iV ((k:Nat):Int))) (by omega) rfl (R_load_pp rfl rfl (R_mv t1 ?_)))))))
  refine R_mv t5 (R_idx (i:=k) (@rfl V (intss b)) (@rfl V (iV ((k:Nat):Int))) (by omega) rfl (R_load_pp rfl rfl (R_callk (ints_pure ((nth (a) (k))) ((nth (b) (k)))) rfl (R_not rfl (R_e ?_)))))
  refine W_if rfl (fun c6=>?_) fun c6=>?_
  ·
   have d1:=c6
   refine W_r (R_mv rfl (R_e (W_ret (y5 _ _ (p23 _ _ (y2 _ _ ?_))))))
   refine Ret_1 (@rfl V (V.bool false)) (fz_bool ?_)
   · exact (decide_eq_false (fun e=>d1 (by subst e; rfl))).symm
  have d1:=Decidable.not_not.1 c6
  refine W_skip (n5 _ _ (.done (W_t (R_mv t5 (R_addN rfl (@rfl V (iV ((1:Nat):Int))) (by omega) (R_mv rfl (R_e ?_)))))))
  refine p13 _ _ _ ?_ ⟨(k+1),rfl,t0,t1,(Eq.trans (@rfl V (iV ((k+1:Nat):Int))) (by first|rfl|simp)),?_,?_,?_⟩
  · omega
  · omega
  · omega
  · intro j hj
    by_cases e:j=k
    · subst e; exact d1
    · exact hc j (by omega)
 refine W_seq_exit (p33 _ _ _ (x2 _ _ (.done (W_r (R_mv rfl (R_e (W_ret ?_)))))))
 refine Ret_1 (@rfl V (V.bool true)) (fz_bool ?_)
 · exact (decide_eq_true (nth_ext hl fun j hj=>hc j (by omega))).symm
theorem msame_pure (a b:M):PureC Tryz.prog 23 [(V.agg [(iV (a.i)),(iV (a.s)),(intss a.nx),(intss a.ot)]),(V.agg [(iV (b.i)),(iV (b.s)),(intss b.nx),(intss b.ot)])] (V.bool (decide (a=b))):=by
 refine pW Tryz.func23 s23_ok fun hB=>?_
 unfold s23
 dsimp only
 refine W_r (R_box (i:=2) (n:=0) (m:=4) (cs:=[(iV (a.i)),(iV (a.s)),(intss a.nx),(intss a.ot)]) rfl (congrArg Blk.ver rfl) rfl rfl rfl (R_box (i:=3) (n:=0) (m:=4) (cs:=[(iV (b.i)),(iV (b.s)),(intss b.nx),(intss b.ot)]) rfl (congrArg Blk.ver rfl) rfl rfl rfl (R_mv rfl (R_e (W_r (R_fk rfl rfl (R_lk rfl rfl rfl rfl ?_)))))))
 refine R_fk rfl rfl (R_lk rfl rfl rfl rfl (R_eql rfl rfl (R_mv rfl ?_)))
 refine Ops_seg 6 (fun T H=>T 2=(V.mp 2 1 0 0)∧T 3=(V.mp 3 1 0 0)∧T 16=(V.bool (decide (((a.i)=(b.i))∧((a.s)=(b.s)))))∧H 2=(bk 1 24 4 [[(iV (a.i)),(iV (a.s)),(intss a.nx),(intss a.ot)]])∧H 3=(bk 1 24 4 [[(iV (b.i)),(iV (b.s)),(intss b.nx),(intss b.ot)]])∧True) ?_ ?_
 ·
  by_cases g1:(a.i)=(b.i)
  ·
   refine G_yes (edT g1 rfl) (R_fk rfl rfl (G_yes (edT g1 rfl) (R_lk rfl rfl rfl rfl (G_yes (edT g1 rfl) (R_fk rfl rfl (G_yes (edT g1 rfl) (R_lk rfl rfl rfl rfl ?_)))))))
   refine G_yes (edT g1 rfl) (R_eql rfl rfl (R_pickT (edT g1 rfl) rfl ?_))
   exact ⟨rfl,rfl,(dec_andT g1),rfl,rfl,trivial⟩
  ·
   refine G_n (edF g1 rfl) (G_n (edF g1 rfl) (G_n (edF g1 rfl) (G_n (edF g1 rfl) (G_n (edF g1 rfl) (R_pickF (edF g1 rfl) rfl ?_)))))
   exact ⟨rfl,rfl,(dec_andF g1),rfl,rfl,trivial⟩
 intro T H ⟨t2,t3,t16,h2,h3,_⟩
 refine R_mv t16 ?_
 refine Ops_seg 6 (fun T H=>T 2=(V.mp 2 1 0 0)∧T 3=(V.mp 3 1 0 0)∧T 23=(V.bool (decide ((((a.i)=(b.i))∧((a.s)=(b.s)))∧(a.nx=b.nx))))∧H 2=(bk 1 24 4 [[(iV (a.i)),(iV (a.s)),(intss a.nx),(intss a.ot)]])∧H 3=(bk 1 24 4 [[(iV (b.i)),(iV (b.s)),(intss b.nx),(intss b.ot)]])∧True) ?_ ?_
 ·
  by_cases g2:((a.i)=(b.i))∧((a.s)=(b.s))
  ·
   refine G_yes (edT g2 rfl) (R_fk t2 h2 (G_yes (edT g2 rfl) (R_lk rfl h2 rfl rfl (G_yes (edT g2 rfl) (R_fk t3 h3 (G_yes (edT g2 rfl) (R_lk rfl h3 rfl rfl ?_)))))))
   refine G_yes (edT g2 rfl) (R_callk (lists_pure a.nx b.nx) rfl (R_pickT (edT g2 rfl) rfl ?_))
   exact ⟨t2,t3,(dec_andT g2),h2,h3,trivial⟩
  ·
   refine G_n (edF g2 rfl) (G_n (edF g2 rfl) (G_n (edF g2 rfl) (G_n (edF g2 rfl) (G_n (edF g2 rfl) (R_pickF (edF g2 rfl) rfl ?_)))))
   exact ⟨t2,t3,(dec_andF g2),h2,h3,trivial⟩
 intro T H ⟨t2,t3,t23,h2,h3,_⟩
 refine R_mv t23 ?_
 refine Ops_seg 6 (fun T H=>T 30=(V.bool (decide (((((a.i)=(b.i))∧((a.s)=(b.s)))∧(a.nx=b.nx))∧(a.ot=b.ot))))∧H 2=(bk 1 24 4 [[(iV (a.i)),(iV (a.s)),(intss a.nx),(intss a.ot)]])∧H 3=(bk 1 24 4 [[(iV (b.i)),(iV (b.s)),(intss b.nx),(intss b.ot)]])∧True) ?_ ?_
 ·
  by_cases g3:(((a.i)=(b.i))∧((a.s)=(b.s)))∧(a.nx=b.nx)
  ·
   refine G_yes (edT g3 rfl) (R_fk t2 h2 (G_yes (edT g3 rfl) (R_lk rfl h2 rfl rfl (G_yes (edT g3 rfl) (R_fk t3 h3 (G_yes (edT g3 rfl) (R_lk rfl h3 rfl rfl ?_)))))))
   refine G_yes (edT g3 rfl) (R_callk (lists_pure a.ot b.ot) rfl (R_pickT (edT g3 rfl) rfl ?_))
   exact ⟨(dec_andT g3),h2,h3,trivial⟩
  ·
   refine G_n (edF g3 rfl) (G_n (edF g3 rfl) (G_n (edF g3 rfl) (G_n (edF g3 rfl) (G_n (edF g3 rfl) (R_pickF (edF g3 rfl) rfl ?_)))))
   exact ⟨(dec_andF g3),h2,h3,trivial⟩
 intro T H ⟨t30,h2,h3,_⟩
 refine R_mv t30 (R_e (W_ret ?_))
 refine Ret_1 (@rfl V (V.bool (decide (((((a.i)=(b.i))∧((a.s)=(b.s)))∧(a.nx=b.nx))∧(a.ot=b.ot))))) (fz_bool ?_)
 · first|rfl|(rw [decide_eq_decide]; rw [M.eq_iff]; simp [and_assoc])|(simp [M.eq_iff,and_assoc])
end Go.Proofs.YtilfohjlglefjaaGreat
namespace Go.Proofs.YtilfohjlglefjaaGreat
open Go
theorem tval_zero {t:TM} (h:TOK t):tval t=0:=by
  obtain ⟨h1,h2,h3,h4,h5,h6,h7,h8,h9,h10,h11,h12⟩:=h
  unfold tval
  rw [if_neg (by omega),if_neg (by omega),if_neg (by omega),if_neg (by omega),if_neg (by omega),if_neg (by omega)]
  refine fe_zero_iff.2 fun s _ hs=>?_
  obtain ⟨g1,g2,g3,g4⟩:=h12 s (by omega)
  unfold rowT
  rw [if_neg (by omega)]
  refine fe_zero_iff.2 fun i _ hi=>?_
  have:=g4 i (by omega)
  unfold symE
  rw [if_neg (by omega),if_neg (by omega),if_neg (fun q=>q.2 (this.2.2.2.2.2.2.2.2 q.1))]
def pk (m:M):Nat→RS
  |0=>iniR m
  |k+1=>rowR m (pk m k) k
def rowN (m:M) (k:Nat):List Int:=nth m.nx (nth (rch m) k).toNat
def qk (m:M) (k i:Nat):RS:=((rowN m k).take i).foldl stpR (pk m k)
theorem pk_eq {m : M} (h : mval m = 0) : ∀ k, k ≤ (rch m).length → bfsR m m.nx.length 0 (iniR m) = bfsR m (m.nx.length - k) k (pk m k) ∧ RI m.nx.length (pk m k)
  |0,_=>⟨rfl,ini_RI h⟩
  | k + 1, hk => by
    have hc:=rch_RC h
    obtain ⟨h1,h2⟩:=pk_eq h k (by omega)
    have hl:=hc.len
    have hlt:k < (pk m k).1.length:=by
      refine Decidable.byContradiction fun q=>?_
      have e:rch m=(pk m k).1:=by
        rw [show rch m=(bfsR m m.nx.length 0 (iniR m)).1 from if_neg (by omega),h1,bfs_end (by omega)]
      rw [← e] at q; omega
    exact ⟨by rw [h1,bfs_go hlt (by omega)]; rfl,h2.row h hlt⟩
theorem pk_pre {m:M} (h:mval m=0) {k:Nat} (hk:k≤(rch m).length): ∃ x,rch m=(pk m k).1++x:=by
  obtain ⟨h1,_⟩:=pk_eq h k hk
  obtain ⟨x,hx⟩:=bfs_pre m (m.nx.length - k) k (pk m k)
  exact ⟨x,by rw [show rch m=(bfsR m m.nx.length 0 (iniR m)).1 from if_neg (by omega),h1,hx]⟩
theorem pk_lt {m:M} (h:mval m=0) {k:Nat} (hk:k < (rch m).length):k < (pk m k).1.length∧nth (pk m k).1 k=nth (rch m) k:=by
  have hc:=rch_RC h
  have hl:=hc.len
  obtain ⟨h1,_⟩:=pk_eq h k (by omega)
  have hlt:k < (pk m k).1.length:=by
    refine Decidable.byContradiction fun q=>?_
    have e:rch m=(pk m k).1:=by
      rw [show rch m=(bfsR m m.nx.length 0 (iniR m)).1 from if_neg (by omega),h1,bfs_end (by omega)]
    rw [← e] at q; omega
  obtain ⟨x,hx⟩:=pk_pre h (Nat.le_of_lt hk)
  exact ⟨hlt,by rw [hx,nth_app_l hlt]⟩
theorem pk_succ {m:M} (h:mval m=0) {k:Nat} (hk:k < (rch m).length):pk m (k+1)=qk m k (rowN m k).length:=by
  unfold qk
  rw [List.take_length]
  show rowR m (pk m k) k=_
  unfold rowR rowN
  rw [(pk_lt h hk).2]
theorem qk_go {m:M} {k i:Nat} (hi:i < (rowN m k).length):qk m k (i+1)=stpR (qk m k i) (nth (rowN m k) i):=by
  unfold qk
  rw [take_succ_nth hi,List.foldl_append]; rfl
theorem qk_pre {m:M} (h:mval m=0) {k i:Nat} (hk:k < (rch m).length): ∃ x,rch m=(qk m k i).1++x:=by
  obtain ⟨x,hx⟩:=pk_pre h (show k+1≤(rch m).length from hk)
  obtain ⟨y,hy⟩:=fold_grow ((rowN m k).drop i) (qk m k i)
  have e:((rowN m k).drop i).foldl stpR (qk m k i)=pk m (k+1):=by
    rw [pk_succ h hk]
    unfold qk
    rw [List.take_length,← List.foldl_append,List.take_append_drop]
  rw [e] at hy
  exact ⟨y++x,by rw [hx,hy,List.append_assoc]⟩
theorem qk_RI {m:M} (h:mval m=0) {k i:Nat} (hk:k < (rch m).length):RI m.nx.length (qk m k i):=by
  have hr:=(rch_RC h).rng k hk
  refine RI.fold (pk_eq h k (Nat.le_of_lt hk)).2 fun a ha=>row_in h hr.1 hr.2 a (List.mem_of_mem_take ha)
theorem qk_num {m:M} (h:mval m=0) {k i:Nat} (hk:k < (rch m).length) (hi:i < (rowN m k).length):
    (idL (rch m) (nth (rowN m k) i) < (qk m k i).1.length∧(qk m k (i+1)).1.length=(qk m k i).1.length)∨(idL (rch m) (nth (rowN m k) i)=(qk m k i).1.length∧(qk m k (i+1)).1.length=(qk m k i).1.length+1):=by
  have hc:=rch_RC h
  have hr:=hc.rng k hk
  have ha:=row_in h hr.1 hr.2 _ (nth_mem hi)
  have hR:=qk_RI h (i:=i) hk
  obtain ⟨x,hx⟩:=qk_pre h (i:=i) hk
  rw [qk_go hi]
  by_cases q:nth (qk m k i).2 (nth (rowN m k) i).toNat=true
  · rw [stp_yes q]
    obtain ⟨j,hj,e⟩:=mem_nth ((hR.mem _ ha.1 ha.2).1 q)
    have e2:nth (rch m) j=nth (rowN m k) i:=by rw [hx,nth_app_l hj,e]; rfl
    have hl:(rch m).length=(qk m k i).1.length+x.length:=by rw [hx,List.length_append]
    left
    refine ⟨?_,rfl⟩
    rw [← e2,idL_nth hc.nd (by omega)]; omega
  · have q':nth (qk m k i).2 (nth (rowN m k) i).toNat=false:=by simpa using q
    obtain ⟨y,hy⟩:=qk_pre h (i:=i+1) hk
    rw [qk_go hi,stp_no q'] at hy
    rw [stp_no q']
    right
    refine ⟨?_,by simp⟩
    have hl:(rch m).length=(qk m k i).1.length+1+y.length:=by rw [hy]; simp; omega
    have e2:nth (rch m) (qk m k i).1.length=nth (rowN m k) i:=by
      rw [hy,nth_app_l (by simp)]
      have:=nth_app_r (l:=(qk m k i).1) (m:=[nth (rowN m k) i]) (j:=0)
      rw [Nat.add_zero] at this
      rw [this]; rfl
    rw [← e2,idL_nth hc.nd (by omega)]
section
variable {m:M} {inp tm:Int}
def cfC (n:M) (inp tm:Int) (s:Nat):Cf:=((s:Int),rnL n inp tm s)
theorem plc_tbl {n:M} {c s:Nat} (h:s≤c):plc (tbl (cfC n inp tm) c) (cfC n inp tm s)=s:=by
  rcases plc_spec (tbl (cfC n inp tm) c) (cfC n inp tm s) with ⟨h1,h2⟩|⟨h1,h2⟩
  · rw [tbl_len] at h1
    rw [tbl_nth h1] at h2
    have:=congrArg Prod.fst h2
    have e:((plc (tbl (cfC n inp tm) c) (cfC n inp tm s):Nat):Int)=(s:Int):=this
    omega
  · rw [tbl_len] at h1
    by_cases q:s < c
    · exact absurd (tbl_nth (f:=cfC n inp tm) q ▸ nth_mem (by rw [tbl_len]; exact q)) h2
    · omega
theorem unAdd_tbl {n:M} {c s:Nat} (h:s≤c):unAdd (tbl (cfC n inp tm) c) (cfC n inp tm s)=tbl (cfC n inp tm) (if s=c then c+1 else c):=by
  unfold unAdd
  rw [plc_tbl h,tbl_len]
  split
  · rename_i e; subst e; rw [tbl_succ]
  · rfl
theorem rb_step {n : M} (hn : MOK n) (hi1 : 1 ≤ inp ∧ inp ≤ 64) (ht : 0 ≤ tm ∧ tm ≤ 4) (hq : n.i = inp + tm) {k i : Nat} (hk : k < n.nx.length) (hi : (i : Int) < n.i) (hp : prp n inp tm k i = true) :
    (nth (nth n.ot k) i=0→psB (rbM n inp tm) (cfC n inp tm k) i=false∧nth (nth n.nx k) i=k)∧
    (nth (nth n.ot k) i≠0→psB (rbM n inp tm) (cfC n inp tm k) i=true∧afT (rbM n inp tm) (cfC n inp tm k) i=cfC n inp tm (nth (nth n.nx k) i).toNat∧unO (rbM n inp tm) (cfC n inp tm k) i=nth (nth n.ot k) i):=by
  obtain ⟨m1,m2,m3,m4,m5,m6⟩:=hn
  obtain ⟨r1,r2,r3⟩:=m6 k hk
  have rx:=r3 i hi
  have eb: ∀ (hge:inp≤(i:Int)),nth (rnL n inp tm k) ((i:Int) - inp).toNat=decide (nth (nth n.ot k) i≠0):=fun hge=>by
    rw [rnL_nth (by omega)]
    unfold runB
    rw [show (inp+((((i:Int) - inp).toNat:Nat):Int)).toNat=i by omega]
  have hps:psB (rbM n inp tm) (cfC n inp tm k) i=(decide ((i:Int) < inp)||nth (rnL n inp tm k) ((i:Int) - inp).toNat):=rfl
  have hot:nth (nth (rbM n inp tm).ot k) i=oVl tm (nth (nth n.ot k) i):=by
    show nth (nth (n.ot.map fun l=>l.map (oVl tm)) k) i=_
    rw [nth_map (by omega),nth_map (by omega)]
  have hst:tSt (rbM n inp tm) k i=oSg tm (nth (nth n.ot k) i):=by
    show nth (nth (n.ot.map fun l=>l.map (oSg tm)) k) i=_
    rw [nth_map (by omega),nth_map (by omega)]
  have hk2:(cfC n inp tm k).1.toNat=k:=rfl
  refine ⟨fun h0=>?_,fun h0=>?_⟩
  · unfold prp at hp
    rw [if_pos h0,Bool.and_eq_true,decide_eq_true_eq,decide_eq_true_eq] at hp
    rw [hps,decide_eq_false (by omega),eb hp.1,decide_eq_false (by simpa using h0)]
    exact ⟨rfl,hp.2⟩
  · have hps2:psB (rbM n inp tm) (cfC n inp tm k) i=true:=by
      rw [hps]
      by_cases c:(i:Int) < inp
      · rw [decide_eq_true c]; rfl
      · rw [eb (by omega),decide_eq_true h0,Bool.or_true]
    have ha0:af0 (rbM n inp tm) (cfC n inp tm k) i=rn1 n inp tm k i:=by
      unfold af0
      show (if inp≤(i:Int) then (rnL n inp tm k).set ((i:Int) - inp).toNat false else rnL n inp tm k)=_
      split
      · rename_i c; exact rn1_hi c (by omega)
      · rename_i c; exact rn1_lo (by omega)
    have hnx:nth (nth (rbM n inp tm).nx k) i=nth (nth n.nx k) i:=rfl
    have hpos:0 < nth (nth n.ot k) i:=by omega
    have hdec:1+oVl tm (nth (nth n.ot k) i)*sgK tm+oCd tm (nth (nth n.ot k) i)=nth (nth n.ot k) i:=by
      unfold oVl oCd
      rw [if_pos hpos,if_pos hpos]
      have:=Int.mul_ediv_add_emod (nth (nth n.ot k) i - 1) (sgK tm)
      rw [Int.mul_comm] at this
      omega
    have hcd:=oCd_rng ht.1 (o:=nth (nth n.ot k) i) ⟨rx.2.2.1,rx.2.2.2⟩
    refine ⟨hps2,?_⟩
    by_cases hc:oCd tm (nth (nth n.ot k) i)=0
    · have hy:oSg tm (nth (nth n.ot k) i)=(-1,0):=by unfold oSg sgC; rw [if_pos hc]
      have hN:afN (rbM n inp tm) (cfC n inp tm k) i:=by
        unfold afN; left; rw [hk2,hst,hy]; decide
      rw [prp_c0 h0 hc,decide_eq_true_eq] at hp
      constructor
      · unfold afT afR
        rw [if_pos hN,ha0,hp,hk2,hnx]
        show (nth (nth n.nx k) i,_)=((((nth (nth n.nx k) i).toNat:Nat):Int),_)
        rw [show (((nth (nth n.nx k) i).toNat:Nat):Int)=nth (nth n.nx k) i by omega]
      · unfold unO afC
        rw [if_pos hN,hk2,hot]
        show 1+oVl tm _*sgK tm+0=_
        omega
    · have hc':0 < oCd tm (nth (nth n.ot k) i):=by omega
      obtain ⟨s1,s2,s3,s4⟩:=oSg_rng ht.1 hc'
      have hz: ¬((oSg tm (nth (nth n.ot k) i)).2=0∧nth (rn1 n inp tm k i) (oSg tm (nth (nth n.ot k) i)).1.toNat=false):=fun z=>by
        rw [prp_no ht.1 h0 hc' z.1 z.2] at hp; cases hp
      have hN: ¬afN (rbM n inp tm) (cfC n inp tm k) i:=by
        unfold afN
        rw [hk2,hst,ha0]
        rintro (z|z)
        · omega
        · exact hz z
      rw [prp_c ht.1 h0 hc' hz,decide_eq_true_eq] at hp
      constructor
      · unfold afT afR
        rw [if_neg hN,ha0,hk2,hst,hp,hnx]
        show (nth (nth n.nx k) i,_)=((((nth (nth n.nx k) i).toNat:Nat):Int),_)
        rw [show (((nth (nth n.nx k) i).toNat:Nat):Int)=nth (nth n.nx k) i by omega]
      · unfold unO afC
        rw [if_neg hN,hk2,hot,hst]
        show 1+oVl tm _*sgK tm+_=_
        have hcode:1+(oSg tm (nth (nth n.ot k) i)).1*1001+(oSg tm (nth (nth n.ot k) i)).2=oCd tm (nth (nth n.ot k) i):=by
          unfold oSg sgC
          rw [if_neg hc]
          simp only
          omega
        omega
theorem rb_TOK {n:M} (hn:MOK n) (hi1:1≤inp∧inp≤64) (ht:0≤tm∧tm≤4) (hq:n.i=inp+tm):TOK (rbM n inp tm):=by
  obtain ⟨m1,m2,m3,m4,m5,m6⟩:=hn
  have e1:(rbM n inp tm).ot.length=n.ot.length:=List.length_map ..
  have e2:(rbM n inp tm).st.length=n.ot.length:=List.length_map ..
  refine ⟨hi1.1,hi1.2,ht.1,ht.2,by show inp+tm≤64; omega,m3,m4,Int.le_refl 0,by show (0:Int) < n.nx.length; omega,by rw [e1]; exact m5,by rw [e2]; exact m5,fun s hs=>?_⟩
  have hs:s < n.nx.length:=hs
  obtain ⟨r1,r2,r3⟩:=m6 s hs
  have f1:nth (rbM n inp tm).ot s=(nth n.ot s).map (oVl tm):=nth_map (by omega)
  have f2:nth (rbM n inp tm).st s=(nth n.ot s).map (oSg tm):=nth_map (by omega)
  refine ⟨by show ((nth n.nx s).length:Int)=inp+tm; omega,by rw [f1,List.length_map]; show _=inp+tm; omega,by rw [f2,List.length_map]; show _=inp+tm; omega,fun i hi=>?_⟩
  have hi:(i:Int) < inp+tm:=hi
  have rx:=r3 i (by omega)
  have g1:nth (nth (rbM n inp tm).ot s) i=oVl tm (nth (nth n.ot s) i):=by rw [f1,nth_map (by omega)]
  have g2:tSt (rbM n inp tm) s i=oSg tm (nth (nth n.ot s) i):=by unfold tSt; rw [f2,nth_map (by omega)]
  rw [g1,g2]
  have hV:0≤oVl tm (nth (nth n.ot s) i)∧oVl tm (nth (nth n.ot s) i)≤1048576:=by
    unfold oVl
    split
    · have hK:0 < sgK tm:=by unfold sgK; omega
      have a1:=Int.ediv_nonneg (show 0≤nth (nth n.ot s) i - 1 by omega) (Int.le_of_lt hK)
      have a2:=Int.ediv_le_self (sgK tm) (show 0≤nth (nth n.ot s) i - 1 by omega)
      omega
    · omega
  have hcd:=oCd_rng ht.1 (o:=nth (nth n.ot s) i) ⟨rx.2.2.1,rx.2.2.2⟩
  refine ⟨rx.1,rx.2.1,hV.1,hV.2,?_⟩
  by_cases hc:oCd tm (nth (nth n.ot s) i)=0
  · have hy:oSg tm (nth (nth n.ot s) i)=(-1,0):=by unfold oSg sgC; rw [if_pos hc]
    rw [hy]
    show (-1:Int)≤ -1∧(-1:Int) < tm∧(0:Int)≤0∧(0:Int)≤1000∧((-1:Int)= -1→(0:Int)=0)
    omega
  · obtain ⟨s1,s2,s3,s4⟩:=oSg_rng ht.1 (o:=nth (nth n.ot s) i) (by omega)
    exact ⟨by omega,s2,s3,by omega,fun e=>by omega⟩
end
section
variable {m:M} {inp tm:Int}
theorem rowN_len {m:M} (h:mval m=0) {k:Nat} (hk:k < (rch m).length):((rowN m k).length:Int)=m.i:=by
  have hr:=(rch_RC h).rng k hk
  exact ((mval_ok h).2.2.2.2.2.2.2 (nth (rch m) k).toNat (by omega)).1
theorem qk_le {m:M} (h:mval m=0) {k i:Nat} (hk:k < (rch m).length):k < (qk m k i).1.length∧(qk m k i).1.length≤(rch m).length:=by
  obtain ⟨x,hx⟩:=qk_pre h (i:=i) hk
  obtain ⟨y,hy⟩:=fold_grow ((rowN m k).take i) (pk m k)
  have:=(pk_lt h hk).1
  have e:(qk m k i).1=(pk m k).1++y:=hy
  have e2:=congrArg List.length e
  have e3:=congrArg List.length hx
  rw [List.length_append] at e2 e3
  omega
theorem un_row (h : mval m = 0) (hi1 : 1 ≤ inp ∧ inp ≤ 64) (ht : 0 ≤ tm ∧ tm ≤ 4) (hq : m.i = inp + tm) (hv : vldP (trm m) inp tm = true) {k : Nat} (hk : k < (rch m).length) : ∀ (d i : Nat), i + d = m.i.toNat →
    unRow (rbM (trm m) inp tm) k d i ⟨tbl (cfC (trm m) inp tm) (qk m k i).1.length,(nth (trm m).nx k).take i,(nth (trm m).ot k).take i⟩=(0,⟨tbl (cfC (trm m) inp tm) (pk m (k+1)).1.length,nth (trm m).nx k,nth (trm m).ot k⟩)
  | 0, i, he => by
    have hn:=trm_ok h
    have en:(trm m).nx.length=(rch m).length:=List.length_map ..
    have r:=hn.2.2.2.2.2 k (by rw [en]; exact hk)
    have ei:(trm m).i=m.i:=rfl
    have hr:=rowN_len h hk
    rw [unRow,List.take_of_length_le (by omega),List.take_of_length_le (by omega),pk_succ h hk,show (rowN m k).length=i by omega]
  | d + 1, i, he => by
    have hn:=trm_ok h
    have en:(trm m).nx.length=(rch m).length:=List.length_map ..
    have r:=hn.2.2.2.2.2 k (by rw [en]; exact hk)
    have ei:(trm m).i=m.i:=rfl
    have hr:=rowN_len h hk
    have hi:(i:Int) < (trm m).i:=by omega
    have rx:=r.2.2 i hi
    have hl:=qk_le h (i:=i) hk
    have hl2:=qk_le h (i:=i+1) hk
    have hN:(rch m).length≤128:=by rw [← en]; exact hn.2.2.2.1
    have hnum:=qk_num h hk (show i < (rowN m k).length by omega)
    rw [show idL (rch m) (nth (rowN m k) i)=nth (nth (trm m).nx k) i from (trm_nx hk (show i < (rowN m k).length by omega)).symm] at hnum
    have hp:prp (trm m) inp tm k i=true:=by
      unfold vldP at hv
      rw [Bool.and_eq_true] at hv
      exact all_rng.1 (all_rng.1 hv.2 k (by rw [en]; exact hk)) i (by omega)
    obtain ⟨g1,g2⟩:=rb_step hn hi1 ht hq (show k < (trm m).nx.length by rw [en]; exact hk) hi hp
    have hc:nth (tbl (cfC (trm m) inp tm) (qk m k i).1.length) k=cfC (trm m) inp tm k:=tbl_nth hl.1
    rw [unRow]
    simp only [hc]
    by_cases h0:nth (nth (trm m).ot k) i=0
    · obtain ⟨g3,g4⟩:=g1 h0
      rw [if_pos g3]
      have e:(qk m k (i+1)).1.length=(qk m k i).1.length:=by
        rcases hnum with hnum|hnum
        · exact hnum.2
        · exfalso; omega
      have:=un_row h hi1 ht hq hv hk d (i+1) (by omega)
      rw [e,take_succ_nth (show i < (nth (trm m).nx k).length by omega),take_succ_nth (show i < (nth (trm m).ot k).length by omega),g4,h0] at this
      exact this
    · obtain ⟨g3,g4,g5⟩:=g2 h0
      rw [if_neg (by rw [g3]; decide),g5,if_neg (by omega),g4]
      have hle:(nth (nth (trm m).nx k) i).toNat≤(qk m k i).1.length:=by rcases hnum with q|q <;> omega
      rw [plc_tbl hle,unAdd_tbl hle,tbl_len,if_neg (by rcases hnum with q|q <;> omega)]
      have e:(if (nth (nth (trm m).nx k) i).toNat=(qk m k i).1.length then (qk m k i).1.length+1 else (qk m k i).1.length)=(qk m k (i+1)).1.length:=by
        rcases hnum with q|q
        · rw [if_neg (by omega)]; omega
        · rw [if_pos (by omega)]; omega
      rw [e,show (((nth (nth (trm m).nx k) i).toNat:Nat):Int)=nth (nth (trm m).nx k) i by omega]
      have:=un_row h hi1 ht hq hv hk d (i+1) (by omega)
      rw [take_succ_nth (show i < (nth (trm m).nx k).length by omega),take_succ_nth (show i < (nth (trm m).ot k).length by omega)] at this
      exact this
theorem un_out (h:mval m=0) (hi1:1≤inp∧inp≤64) (ht:0≤tm∧tm≤4) (hq:m.i=inp+tm) (hv:vldP (trm m) inp tm=true): ∀ (d k:Nat),k+d=(rch m).length→
    unOut (rbM (trm m) inp tm) (129 - k) k ⟨tbl (cfC (trm m) inp tm) (pk m k).1.length,(trm m).nx.take k,(trm m).ot.take k⟩=(0,⟨tbl (cfC (trm m) inp tm) (rch m).length,(trm m).nx,(trm m).ot⟩)
  | 0, k, he => by
    have en:(trm m).nx.length=(rch m).length:=List.length_map ..
    have eo:(trm m).ot.length=(rch m).length:=List.length_map ..
    obtain ⟨x,hx⟩:=pk_pre h (k:=k) (by omega)
    have hl:(pk m k).1.length≤k:=by
      have:=congrArg List.length hx
      rw [List.length_append] at this; omega
    have e:(pk m k).1=rch m:=by
      rw [show rch m=(bfsR m m.nx.length 0 (iniR m)).1 from if_neg (by omega),(pk_eq h k (by omega)).1,bfs_end hl]
    rw [e,unOut_end (by show (tbl _ _).length≤k; rw [tbl_len]; omega),List.take_of_length_le (by omega),List.take_of_length_le (by omega)]
  | d + 1, k, he => by
    have hn:=trm_ok h
    have en:(trm m).nx.length=(rch m).length:=List.length_map ..
    have eo:(trm m).ot.length=(rch m).length:=List.length_map ..
    have hk:k < (rch m).length:=by omega
    have hN:(rch m).length≤128:=by rw [← en]; exact hn.2.2.2.1
    have hrow:=un_row h hi1 ht hq hv hk m.i.toNat 0 (by omega)
    rw [unOut_go (by show k < (tbl _ _).length; rw [tbl_len]; exact (pk_lt h hk).1) (by omega) (by
      show unRow _ k (inp+tm).toNat 0 _=_
      rw [← hq]; exact hrow)]
    have:=un_out h hi1 ht hq hv d (k+1) (by omega)
    rw [take_succ_nth (show k < (trm m).nx.length by omega),take_succ_nth (show k < (trm m).ot.length by omega)] at this
    exact this
theorem un_rb (h : rbE m inp tm = 0) : unE (rbT m inp tm) = 0 ∧ unM (rbT m inp tm) = trm m := by
  have h0:=h
  unfold rbE at h
  split at h
  · rename_i q; exact absurd h q
  rename_i hm
  have hm:mval m=0:=by omega
  split at h; · cases h
  rename_i h1
  split at h; · cases h
  rename_i h2
  split at h; · cases h
  rename_i h3
  have hv:vldP (trm m) inp tm=true:=by rw [vld_eq hm]; simpa using h3
  have hi1:1≤inp∧inp≤64:=by omega
  have ht:0≤tm∧tm≤4:=by omega
  have hq:m.i=inp+tm:=by omega
  have hx:unX (rbM (trm m) inp tm)=(0,⟨tbl (cfC (trm m) inp tm) (rch m).length,(trm m).nx,(trm m).ot⟩):=by
    have:=un_out hm hi1 ht hq hv (rch m).length 0 (by omega)
    have ei:ini (rbM (trm m) inp tm)=⟨tbl (cfC (trm m) inp tm) (pk m 0).1.length,(trm m).nx.take 0,(trm m).ot.take 0⟩:=by
      have e1:tbl (cfC (trm m) inp tm) (pk m 0).1.length=[cfC (trm m) inp tm 0]:=rfl
      rw [e1]
      have e2:rnL (trm m) inp tm 0=List.replicate tm.toNat false:=by
        refine nth_ext (by rw [rnL_len,List.length_replicate]) fun x hx=>?_
        rw [rnL_len] at hx
        unfold vldP at hv
        rw [Bool.and_eq_true] at hv
        have:=all_rng.1 hv.1 x hx
        rw [rnL_nth hx,← nth_getElem (by rw [List.length_replicate]; exact hx),List.getElem_replicate]
        simpa using this
      show UM.mk [((0:Int),List.replicate tm.toNat false)] [] []=_
      rw [← e2]; rfl
    unfold unX
    rw [ei]; exact this
  have hT:rbT m inp tm=rbM (trm m) inp tm:=if_pos h0
  have hz:=tval_zero (rb_TOK (trm_ok hm) hi1 ht hq)
  rw [hT]
  refine ⟨unE_x (by omega) hx,?_⟩
  rw [unM_yes (by omega) hx]
  show M.mk (inp+tm) 0 _ _=_
  rw [← hq]; rfl
theorem rb_all (h:rbE m inp tm=0):mval m=0∧trR m=trm m∧(rbT m inp tm).i=inp∧(rbT m inp tm).tm=tm:=by
  have hm:mval m=0:=Decidable.byContradiction fun q=>q (by rw [rbE_1 q] at h; exact h)
  exact ⟨hm,trR_ok hm,by rw [show rbT m inp tm=rbM (trm m) inp tm from if_pos h]; rfl,by rw [show rbT m inp tm=rbM (trm m) inp tm from if_pos h]; rfl⟩
end
end Go.Proofs.YtilfohjlglefjaaGreat
namespace Go.Proofs.YtilfohjlglefjaaGreat
open Go Go.Proofs
theorem law6_pure (m:M) (inp tm:Int):PureC Tryz.prog 6 [(V.agg [(iV (m.i)),(iV (m.s)),(intss m.nx),(intss m.ot)]),(iV (inp)),(iV (tm))] (V.bool true):=by
 refine pW Tryz.func6 s6_ok fun hB=>?_
 unfold s6
 dsimp only
 refine W_r (R_box (i:=3) (n:=0) (m:=4) (cs:=[(iV (m.i)),(iV (m.s)),(intss m.nx),(intss m.ot)]) rfl (congrArg Blk.ver rfl) rfl rfl rfl (R_mv rfl (R_e (W_seq_seq (W_r (R_lk rfl rfl rfl rfl (R_callk (great42_pure m) rfl ?_)))))))
 refine R_e ?_
 refine W_seq_ifb rfl (fun c1=>?_) (fun c1=>?_)
 ·
  refine W_seq_seq (W_r (R_callk (aw_learnerlaw42_awake_pure) rfl (R_mv rfl (R_e (W_seq_ret ?_)))))
  refine Ret_1 (@rfl V (V.bool true)) (fz_canon (by simp) rfl)
 refine W_seq_skip (W_r (R_lk rfl rfl rfl rfl (R_mv rfl (R_mv rfl (R_callk (prebuild_pure m ((inp)) ((tm))) rfl (R_mv rfl (R_ext rfl rfl ?_)))))))
 refine R_ext rfl rfl (R_alloc (i:=7) (n:=0) (m:=6) rfl (congrArg Blk.ver rfl) rfl (R_sk rfl rfl rfl rfl rfl rfl rfl rfl rfl (R_mv rfl (R_e (W_seq_seq (W_r (R_mv rfl ?_)))))))
 refine R_neq rfl rfl (R_e ?_)
 refine W_seq_if rfl (fun c2=>?_) fun c2=>?_
 ·
  have d1:rbE m inp tm≠0:=c2
  have d2:(rbT m inp tm).nx.length=0:=by rw [rbT_no d1]; rfl
  refine W_seq_seq (W_r (R_fk rfl rfl (R_lk rfl rfl rfl rfl (R_len rfl (R_eql rfl rfl (R_mv rfl ?_))))))
  refine Ops_seg 2 (fun T H=>T 31=(V.bool (decide (((((rbT m ((inp)) ((tm))).nx).length:Nat):Int)=(0:Int))))∧H 3=(bk 1 24 4 [[(iV (m.i)),(iV (m.s)),(intss m.nx),(intss m.ot)]])∧H 7=(bk 1 29 6 [[(iV ((rbT m ((inp)) ((tm))).i)),(iV ((rbT m ((inp)) ((tm))).tm)),(iV ((rbT m ((inp)) ((tm))).s)),(intss ((rbT m ((inp)) ((tm))).nx)),(intss ((rbT m ((inp)) ((tm))).ot)),(V.sl (List.map cSr ((rbT m ((inp)) ((tm))).st)))]])∧H 9=(⟨0,false,false,0,0,[]⟩:Blk)∧H 11=(⟨0,false,false,0,0,[]⟩:Blk)∧True) ?_ ?_
  ·
   by_cases g3:((((rbT m ((inp)) ((tm))).nx).length:Nat):Int)=(0:Int)
   ·
    refine G_yes (edT g3 rfl) (R_callk (aw_learnerlaw42_awake_pure) rfl (R_pickT (edT g3 rfl) rfl ?_))
    exact ⟨(dec_T g3),rfl,rfl,rfl,rfl,trivial⟩
   ·
    refine G_n (edF g3 rfl) (R_pickF (edF g3 rfl) rfl ?_)
    exact ⟨(dec_F g3),rfl,rfl,rfl,rfl,trivial⟩
  intro T H ⟨t31,h3,h7,h9,h11,_⟩
  refine R_mv t31 (R_e (W_seq_ret ?_))
  refine Ret_1 (@rfl V (V.bool (decide (((((rbT m ((inp)) ((tm))).nx).length:Nat):Int)=(0:Int))))) (fz_bool ?_)
  · first|rfl|(simp [d2]; done)|(simp [u1,u2,u3,u4,u5,u6]; done)
 have d1:rbE m inp tm=0:=Decidable.not_not.1 c2
 obtain ⟨u1,u2⟩:=un_rb d1
 obtain ⟨u3,u4,u5,u6⟩:=rb_all d1
 refine W_seq_skip (W_r (R_lk rfl rfl rfl rfl (R_callk (runtimed_pure ((rbT m ((inp)) ((tm))))) rfl (R_mv rfl (R_ext rfl rfl (R_ext rfl rfl (R_alloc (i:=9) (n:=0) (m:=4) rfl (congrArg Blk.ver rfl) rfl ?_)))))))
 refine R_sk rfl rfl rfl rfl rfl rfl rfl rfl rfl (R_mv rfl (R_e (W_r (R_lk rfl rfl rfl rfl (R_callk (rtrim_pure m) rfl (R_mv rfl (R_ext rfl rfl ?_)))))))
 refine R_ext rfl rfl (R_alloc (i:=11) (n:=0) (m:=4) rfl (congrArg Blk.ver rfl) rfl (R_sk rfl rfl rfl rfl rfl rfl rfl rfl rfl (R_mv rfl (R_e ?_))))
 refine W_seq_regc (fun T H=>T 6=(V.bool (decide ((((((unE ((rbT m ((inp)) ((tm)))))=(0:Int))∧((mval m)=(0:Int)))∧(((rbT m ((inp)) ((tm))).i)=(inp)))∧(((rbT m ((inp)) ((tm))).tm)=(tm)))∧(((unM ((rbT m ((inp)) ((tm))))))=((trR m))))))∧H 3=(bk 1 24 4 [[(iV (m.i)),(iV (m.s)),(intss m.nx),(intss m.ot)]])∧H 7=(bk 1 29 6 [[(iV ((rbT m ((inp)) ((tm))).i)),(iV ((rbT m ((inp)) ((tm))).tm)),(iV ((rbT m ((inp)) ((tm))).s)),(intss ((rbT m ((inp)) ((tm))).nx)),(intss ((rbT m ((inp)) ((tm))).ot)),(V.sl (List.map cSr ((rbT m ((inp)) ((tm))).st)))]])∧H 9=(bk 1 24 4 [[(iV ((unM ((rbT m ((inp)) ((tm))))).i)),(iV ((unM ((rbT m ((inp)) ((tm))))).s)),(intss ((unM ((rbT m ((inp)) ((tm))))).nx)),(intss ((unM ((rbT m ((inp)) ((tm))))).ot))]])∧H 11=(bk 1 24 4 [[(iV ((trR m).i)),(iV ((trR m).s)),(intss ((trR m).nx)),(intss ((trR m).ot))]])∧True) ?_ ?_
 ·
  refine R_mv rfl (R_eql rfl rfl (R_mv rfl ?_))
  refine Ops_seg 3 (fun T H=>T 1=(iV (inp))∧T 2=(iV (tm))∧T 7=(V.mp 7 1 0 0)∧T 9=(V.mp 9 1 0 0)∧T 11=(V.mp 11 1 0 0)∧T 47=(V.bool (decide (((unE ((rbT m ((inp)) ((tm)))))=(0:Int))∧((mval m)=(0:Int)))))∧H 3=(bk 1 24 4 [[(iV (m.i)),(iV (m.s)),(intss m.nx),(intss m.ot)]])∧H 7=(bk 1 29 6 [[(iV ((rbT m ((inp)) ((tm))).i)),(iV ((rbT m ((inp)) ((tm))).tm)),(iV ((rbT m ((inp)) ((tm))).s)),(intss ((rbT m ((inp)) ((tm))).nx)),(intss ((rbT m ((inp)) ((tm))).ot)),(V.sl (List.map cSr ((rbT m ((inp)) ((tm))).st)))]])∧H 9=(bk 1 24 4 [[(iV ((unM ((rbT m ((inp)) ((tm))))).i)),(iV ((unM ((rbT m ((inp)) ((tm))))).s)),(intss ((unM ((rbT m ((inp)) ((tm))))).nx)),(intss ((unM ((rbT m ((inp)) ((tm))))).ot))]])∧H 11=(bk 1 24 4 [[(iV ((trR m).i)),(iV ((trR m).s)),(intss ((trR m).nx)),(intss ((trR m).ot))]])∧True) ?_ ?_
  ·
   by_cases g4:(unE ((rbT m ((inp)) ((tm)))))=(0:Int)
   ·
    refine G_yes (edT g4 rfl) (R_mv rfl (G_yes (edT g4 rfl) (R_eql rfl rfl (R_pickT (edT g4 rfl) rfl ?_))))
    exact ⟨rfl,rfl,rfl,rfl,rfl,(dec_andT g4),rfl,rfl,rfl,rfl,trivial⟩
   ·
    refine G_n (edF g4 rfl) (G_n (edF g4 rfl) (R_pickF (edF g4 rfl) rfl ?_))
    exact ⟨rfl,rfl,rfl,rfl,rfl,(dec_andF g4),rfl,rfl,rfl,rfl,trivial⟩
  intro T H ⟨t1,t2,t7,t9,t11,t47,h3,h7,h9,h11,_⟩
  refine R_mv t47 ?_
  refine Ops_seg 5 (fun T H=>T 2=(iV (tm))∧T 7=(V.mp 7 1 0 0)∧T 9=(V.mp 9 1 0 0)∧T 11=(V.mp 11 1 0 0)∧T 53=(V.bool (decide ((((unE ((rbT m ((inp)) ((tm)))))=(0:Int))∧((mval m)=(0:Int)))∧(((rbT m ((inp)) ((tm))).i)=(inp)))))∧H 3=(bk 1 24 4 [[(iV (m.i)),(iV (m.s)),(intss m.nx),(intss m.ot)]])∧H 7=(bk 1 29 6 [[(iV ((rbT m ((inp)) ((tm))).i)),(iV ((rbT m ((inp)) ((tm))).tm)),(iV ((rbT m ((inp)) ((tm))).s)),(intss ((rbT m ((inp)) ((tm))).nx)),(intss ((rbT m ((inp)) ((tm))).ot)),(V.sl (List.map cSr ((rbT m ((inp)) ((tm))).st)))]])∧H 9=(bk 1 24 4 [[(iV ((unM ((rbT m ((inp)) ((tm))))).i)),(iV ((unM ((rbT m ((inp)) ((tm))))).s)),(intss ((unM ((rbT m ((inp)) ((tm))))).nx)),(intss ((unM ((rbT m ((inp)) ((tm))))).ot))]])∧H 11=(bk 1 24 4 [[(iV ((trR m).i)),(iV ((trR m).s)),(intss ((trR m).nx)),(intss ((trR m).ot))]])∧True) ?_ ?_
  ·
   by_cases g5:((unE ((rbT m ((inp)) ((tm)))))=(0:Int))∧((mval m)=(0:Int))
   ·
    refine G_yes (edT g5 rfl) (R_fk t7 h7 (G_yes (edT g5 rfl) (R_lk rfl h7 rfl rfl (G_yes (edT g5 rfl) (R_mv t1 (G_yes (edT g5 rfl) (R_eql rfl rfl ?_)))))))
    refine R_pickT (edT g5 rfl) rfl ?_
    exact ⟨t2,t7,t9,t11,(dec_andT g5),h3,h7,h9,h11,trivial⟩
   ·
    refine G_n (edF g5 rfl) (G_n (edF g5 rfl) (G_n (edF g5 rfl) (G_n (edF g5 rfl) (R_pickF (edF g5 rfl) rfl ?_))))
    exact ⟨t2,t7,t9,t11,(dec_andF g5),h3,h7,h9,h11,trivial⟩
  intro T H ⟨t2,t7,t9,t11,t53,h3,h7,h9,h11,_⟩
  refine R_mv t53 ?_
  refine Ops_seg 5 (fun T H=>T 9=(V.mp 9 1 0 0)∧T 11=(V.mp 11 1 0 0)∧T 59=(V.bool (decide (((((unE ((rbT m ((inp)) ((tm)))))=(0:Int))∧((mval m)=(0:Int)))∧(((rbT m ((inp)) ((tm))).i)=(inp)))∧(((rbT m ((inp)) ((tm))).tm)=(tm)))))∧H 3=(bk 1 24 4 [[(iV (m.i)),(iV (m.s)),(intss m.nx),(intss m.ot)]])∧H 7=(bk 1 29 6 [[(iV ((rbT m ((inp)) ((tm))).i)),(iV ((rbT m ((inp)) ((tm))).tm)),(iV ((rbT m ((inp)) ((tm))).s)),(intss ((rbT m ((inp)) ((tm))).nx)),(intss ((rbT m ((inp)) ((tm))).ot)),(V.sl (List.map cSr ((rbT m ((inp)) ((tm))).st)))]])∧H 9=(bk 1 24 4 [[(iV ((unM ((rbT m ((inp)) ((tm))))).i)),(iV ((unM ((rbT m ((inp)) ((tm))))).s)),(intss ((unM ((rbT m ((inp)) ((tm))))).nx)),(intss ((unM ((rbT m ((inp)) ((tm))))).ot))]])∧H 11=(bk 1 24 4 [[(iV ((trR m).i)),(iV ((trR m).s)),(intss ((trR m).nx)),(intss ((trR m).ot))]])∧True) ?_ ?_
  ·
   by_cases g6:(((unE ((rbT m ((inp)) ((tm)))))=(0:Int))∧((mval m)=(0:Int)))∧(((rbT m ((inp)) ((tm))).i)=(inp))
   ·
    refine G_yes (edT g6 rfl) (R_fk t7 h7 (G_yes (edT g6 rfl) (R_lk rfl h7 rfl rfl (G_yes (edT g6 rfl) (R_mv t2 (G_yes (edT g6 rfl) (R_eql rfl rfl ?_)))))))
    refine R_pickT (edT g6 rfl) rfl ?_
    exact ⟨t9,t11,(dec_andT g6),h3,h7,h9,h11,trivial⟩
   ·
    refine G_n (edF g6 rfl) (G_n (edF g6 rfl) (G_n (edF g6 rfl) (G_n (edF g6 rfl) (R_pickF (edF g6 rfl) rfl ?_))))
    exact ⟨t9,t11,(dec_andF g6),h3,h7,h9,h11,trivial⟩
  intro T H ⟨t9,t11,t59,h3,h7,h9,h11,_⟩
  refine R_mv t59 ?_
  refine Ops_seg 4 (fun T H=>T 64=(V.bool (decide ((((((unE ((rbT m ((inp)) ((tm)))))=(0:Int))∧((mval m)=(0:Int)))∧(((rbT m ((inp)) ((tm))).i)=(inp)))∧(((rbT m ((inp)) ((tm))).tm)=(tm)))∧(((unM ((rbT m ((inp)) ((tm))))))=((trR m))))))∧H 3=(bk 1 24 4 [[(iV (m.i)),(iV (m.s)),(intss m.nx),(intss m.ot)]])∧H 7=(bk 1 29 6 [[(iV ((rbT m ((inp)) ((tm))).i)),(iV ((rbT m ((inp)) ((tm))).tm)),(iV ((rbT m ((inp)) ((tm))).s)),(intss ((rbT m ((inp)) ((tm))).nx)),(intss ((rbT m ((inp)) ((tm))).ot)),(V.sl (List.map cSr ((rbT m ((inp)) ((tm))).st)))]])∧H 9=(bk 1 24 4 [[(iV ((unM ((rbT m ((inp)) ((tm))))).i)),(iV ((unM ((rbT m ((inp)) ((tm))))).s)),(intss ((unM ((rbT m ((inp)) ((tm))))).nx)),(intss ((unM ((rbT m ((inp)) ((tm))))).ot))]])∧H 11=(bk 1 24 4 [[(iV ((trR m).i)),(iV ((trR m).s)),(intss ((trR m).nx)),(intss ((trR m).ot))]])∧True) ?_ ?_
  ·
   by_cases g7:((((unE ((rbT m ((inp)) ((tm)))))=(0:Int))∧((mval m)=(0:Int)))∧(((rbT m ((inp)) ((tm))).i)=(inp)))∧(((rbT m ((inp)) ((tm))).tm)=(tm))
   ·
    refine G_yes (edT g7 rfl) (R_lk t9 h9 rfl rfl (G_yes (edT g7 rfl) (R_lk t11 h11 rfl rfl (G_yes (edT g7 rfl) (R_callk (msame_pure ((unM ((rbT m ((inp)) ((tm)))))) ((trR m))) rfl (R_pickT (edT g7 rfl) rfl ?_))))))
    exact ⟨(dec_andT g7),h3,h7,h9,h11,trivial⟩
   ·
    refine G_n (edF g7 rfl) (G_n (edF g7 rfl) (G_n (edF g7 rfl) (R_pickF (edF g7 rfl) rfl ?_)))
    exact ⟨(dec_andF g7),h3,h7,h9,h11,trivial⟩
  intro T H ⟨t64,h3,h7,h9,h11,_⟩
  refine R_mv t64 ?_
  refine Ops_seg 2 (fun T H=>T 67=(V.bool (decide ((((((unE ((rbT m ((inp)) ((tm)))))=(0:Int))∧((mval m)=(0:Int)))∧(((rbT m ((inp)) ((tm))).i)=(inp)))∧(((rbT m ((inp)) ((tm))).tm)=(tm)))∧(((unM ((rbT m ((inp)) ((tm))))))=((trR m))))))∧H 3=(bk 1 24 4 [[(iV (m.i)),(iV (m.s)),(intss m.nx),(intss m.ot)]])∧H 7=(bk 1 29 6 [[(iV ((rbT m ((inp)) ((tm))).i)),(iV ((rbT m ((inp)) ((tm))).tm)),(iV ((rbT m ((inp)) ((tm))).s)),(intss ((rbT m ((inp)) ((tm))).nx)),(intss ((rbT m ((inp)) ((tm))).ot)),(V.sl (List.map cSr ((rbT m ((inp)) ((tm))).st)))]])∧H 9=(bk 1 24 4 [[(iV ((unM ((rbT m ((inp)) ((tm))))).i)),(iV ((unM ((rbT m ((inp)) ((tm))))).s)),(intss ((unM ((rbT m ((inp)) ((tm))))).nx)),(intss ((unM ((rbT m ((inp)) ((tm))))).ot))]])∧H 11=(bk 1 24 4 [[(iV ((trR m).i)),(iV ((trR m).s)),(intss ((trR m).nx)),(intss ((trR m).ot))]])∧True) ?_ ?_
  ·
   by_cases g8:(((((unE ((rbT m ((inp)) ((tm)))))=(0:Int))∧((mval m)=(0:Int)))∧(((rbT m ((inp)) ((tm))).i)=(inp)))∧(((rbT m ((inp)) ((tm))).tm)=(tm)))∧(((unM ((rbT m ((inp)) ((tm))))))=((trR m)))
   ·
    refine G_yes (edT g8 rfl) (R_callk (aw_learnerlaw42_awake_pure) rfl (R_pickT (edT g8 rfl) rfl ?_))
    exact ⟨(dec_T g8),h3,h7,h9,h11,trivial⟩
   ·
    refine G_n (edF g8 rfl) (R_pickF (edF g8 rfl) rfl ?_)
    exact ⟨(dec_F g8),h3,h7,h9,h11,trivial⟩
  intro T H ⟨t67,h3,h7,h9,h11,_⟩
  refine R_mv t67 ?_
  exact R_nil ⟨rfl,h3,h7,h9,h11,trivial⟩
 intro T H ⟨t6,h3,h7,h9,h11,_⟩
 refine W_ret ?_
 refine Ret_1 t6 (fz_bool ?_)
 · first|rfl|(simp [d2]; done)|(simp [u1,u2,u3,u4,u5,u6]; done)
end Go.Proofs.YtilfohjlglefjaaGreat
namespace Go.Proofs.YtilfohjlglefjaaGreat
open Go Go.Proofs Go.Proofs.YtilfohjlglefjaaGreat Go.ChangeShapes Go.WideShapes Go.ChangeAt Go.RowKit
structure UT (P:Program):Prop where
  u3:P.underlying 3=some (.int .i64)
  u22:P.underlying 22=some (.slice 38)
  u38:P.underlying 38=some (.slice 3)
  u24: ∃ f0 f1 f2 f3:Field,P.underlying 24=some (.struct #[f0,f1,f2,f3])∧f0.type=3∧f1.type=3∧f2.type=22∧f3.type=22
theorem sh3 {P:Program} (U:UT P) (n:Nat) (vs:List V) (h:Shp P (n+1) 3 vs): ∃ a:Int,vs=cI a:=shp_int U.u3 h
theorem sh38 {P:Program} (U:UT P) (n:Nat) (vs:List V) (h:Shp P (n+2) 38 vs): ∃ a:List Int,vs=cL a:=shp_slice (f:=cI) U.u38 (fun vs h=>sh3 U n vs h) h
theorem sh22 {P:Program} (U:UT P) (n:Nat) (vs:List V) (h:Shp P (n+3) 22 vs): ∃ a:List (List Int),vs=(fun l=>[V.sl (List.map cL l)]) a:=shp_slice (f:=cL) U.u22 (fun vs h=>sh38 U n vs h) h
theorem sh24 {P:Program} (U:UT P) (n:Nat) (vs:List V) (h:Shp P (n+4) 24 vs): ∃ a:M,vs=mC a:=by
  obtain ⟨f0,f1,f2,f3,hu,k0,k1,k2,k3⟩:=U.u24
  have h0:=shp_step hu h
  obtain ⟨x0,u0,e0,h1⟩:=shpL_cons (c:=cI) (fun vs h=>sh3 U (n+2) vs (by rw [k0] at h; exact h)) h0
  obtain ⟨x1,u1,e1,h2⟩:=shpL_cons (c:=cI) (fun vs h=>sh3 U (n+2) vs (by rw [k1] at h; exact h)) h1
  obtain ⟨x2,u2,e2,h3⟩:=shpL_cons (c:=(fun l=>[V.sl (List.map cL l)])) (fun vs h=>sh22 U (n+0) vs (by rw [k2] at h; exact h)) h2
  obtain ⟨x3,u3,e3,h4⟩:=shpL_cons (c:=(fun l=>[V.sl (List.map cL l)])) (fun vs h=>sh22 U (n+0) vs (by rw [k3] at h; exact h)) h3
  have e4:=shpL_nil h4
  exact ⟨⟨x0,x1,x2,x3⟩,by rw [e0,e1,e2,e3,e4]; rfl⟩
theorem ut:UT Tryz.prog:=⟨by kernel_rfl,by kernel_rfl,by kernel_rfl,⟨_,_,_,_,Tryz.underlying24,rfl,rfl,rfl,rfl⟩⟩
theorem args6 {P:Program} (U:UT P) {us:List V} (h:ShpA P 5 [24,3,3] us): ∃ (d0:M) (d1:Int) (d2:Int),us=[V.agg (mC d0),V.int .i64 d1,V.int .i64 d2]:=by
  obtain ⟨a0,b0,e0,h0,h⟩:=shpA_cons h
  obtain ⟨d0,g0⟩:=sh24 U 1 a0 h0
  have q0:packV P 24 a0=V.agg (mC d0):=by obtain ⟨_,_,_,_,hu,_⟩:=U.u24; rw [g0]; exact pack_struct hu _
  obtain ⟨a1,b1,e1,h1,h⟩:=shpA_cons h
  obtain ⟨d1,g1⟩:=sh3 U 4 a1 h1
  have q1:packV P 3 a1=V.int .i64 d1:=by rw [g1]; exact pack_other (fun fs h=>by rw [U.u3] at h; cases h) (fun m e h=>by rw [U.u3] at h; cases h)
  obtain ⟨a2,b2,e2,h2,h⟩:=shpA_cons h
  obtain ⟨d2,g2⟩:=sh3 U 4 a2 h2
  have q2:packV P 3 a2=V.int .i64 d2:=by rw [g2]; exact pack_other (fun fs h=>by rw [U.u3] at h; cases h) (fun m e h=>by rw [U.u3] at h; cases h)
  have e3:=shpA_nil h
  exact ⟨d0,d1,d2,by rw [e0,q0,e1,q1,e2,q2,e3]⟩
theorem own6:ownKnob Tryz.prog.godebug=none:=by kernel_rfl
set_option maxRecDepth 100000 in
theorem lifted6 (os:Os) (started:os.Started) (H:Type) (enc:TypeId×Value→H):
    ReturnsInHanded {} Tryz.checked os 6 .any (Rows.timelearnInverseSpec.pre6 enc Tryz.prog Tryz.f6 Rows.timelearnInverseRow.domain false) (Rows.timelearnInverseSpec.post enc Tryz.prog Tryz.f6 false true false false):=by
  refine returnsInHanded_of_change (C:=Tryz.checked) own6 started (by kernel_rfl) Tryz.func6
    (ChangeSpec.witness6 (enc:=enc) (C:=Tryz.checked) false ⟨#[],#[.agg #[.int .i64 0,.int .i64 0,.slice none 0 0,.slice none 0 0],.int .i64 0,.int .i64 0],[]⟩ 8 (by kernel_rfl) (by kernel_rfl) (by kernel_rfl) (by kernel_rfl)) ?_
  intro W base args ds gs before hval0 hW hcnd _
  refine law_post (n:=5) (tb:=4) (by kernel_rfl) (by kernel_rfl) (by kernel_rfl) (fun t ht=>?_) rfl ?_ (fun us hu=>?_) hval0 hW
  · have h:t∈[24,3,3]:=ht
    simp only [List.mem_cons,List.not_mem_nil,or_false] at h
    rcases h with rfl|rfl|rfl
    · exact ⟨by kernel_rfl,by kernel_rfl,of_decide_eq_true (by kernel_rfl)⟩
    · exact ⟨by kernel_rfl,by kernel_rfl,of_decide_eq_true (by kernel_rfl)⟩
    · exact ⟨by kernel_rfl,by kernel_rfl,of_decide_eq_true (by kernel_rfl)⟩
  · obtain ⟨p,q,hA,hV,rfl,hfz,hnd⟩:=hW
    obtain ⟨rfl,rfl⟩:=trodVars_none hV
    change DataW.TrodAll enc Tryz.prog W 0 (fun _=>true) true [24,3,3] args.toList ds p at hA
    obtain ⟨v0,vs0,y0,ds0,pa0,pb0,hv0,rfl,rfl,_,hA⟩:=trodAll_cons hA
    obtain ⟨v1,vs1,y1,ds1,pa1,pb1,hv1,rfl,rfl,_,hA⟩:=trodAll_cons hA
    obtain ⟨v2,vs2,y2,ds2,pa2,pb2,hv2,rfl,rfl,_,hA⟩:=trodAll_cons hA
    obtain ⟨_,rfl,rfl⟩:=trodAll_nil hA
    rfl
  · obtain ⟨d0,d1,d2,rfl⟩:=args6 ut hu
    exact law6_pure d0 d1 d2
theorem proved6:Rows.TimelearnInverseSaid:=
  OpenClaim.holds_of_wide 6 Tryz.f6 rfl rfl rfl rfl rfl rfl rfl ⟨rfl,rfl,rfl,rfl,rfl⟩ rfl rfl rfl rfl rfl (by kernel_rfl) Tryz.func6 (by kernel_rfl)
    (of_decide_eq_true (by kernel_rfl)) (by unfold Func.isWrapper; first|(rw [if_pos (by decide+kernel)]; kernel_rfl)|(rw [if_neg (by decide+kernel)]; exact ⟨rfl,rfl⟩))
    (fun os started H enc _=>lifted6 os started H enc)
end Go.Proofs.YtilfohjlglefjaaGreat
