/- Contracts of the functions that the law TR reaches, and the law itself, for every input; no condition. -/
import Derived.KernelRfl
import Derived.Test.YtilfohjlglefjaaGreatProg
import Derived.Test.YtilfohjlglefjaaGreatTR2
set_option linter.unusedSimpArgs false
set_option linter.unusedVariables false
namespace Go.Proofs.YtilfohjlglefjaaGreat
open Go Go.Proofs
def awf23:Fact:=(19,[(.agg [(iV 1),(iV 1),(iV 0),(.sl [[(.sl [[(iV 1)],[(iV 0)]])],[(.sl [[(iV 1)],[(iV 0)]])]]),(.sl [[(.sl [[(iV 1)],[(iV 3)]])],[(.sl [[(iV 2)],[(iV 0)]])]]),(.sl [[(.sl [[(iV 0),(iV 10)],[(iV (-1)),(iV 0)]])],[(.sl [[(iV 0),(iV 10)],[(iV (-1)),(iV 0)]])]])])],(.tup [(.agg [(iV 1),(iV 1),(iV 0),(.sl [[(.sl [[(iV 1)],[(iV 0)]])],[(.sl [[(iV 1)],[(iV 0)]])]]),(.sl [[(.sl [[(iV 1)],[(iV 0)]])],[(.sl [[(iV 2)],[(iV 0)]])]]),(.sl [[(.sl [[(iV 0),(iV 10)],[(iV (-1)),(iV 0)]])],[(.sl [[(iV 0),(iV 10)],[(iV (-1)),(iV 0)]])]])]),(iV 0)]))
theorem awf23_ok:PureC Tryz.prog awf23.1 awf23.2.1 awf23.2.2:=aw_of (l:=[awf0,awf5,awf10,awf15,awf22]) (fun p hp=>by
  simp only [List.mem_cons,List.not_mem_nil,or_false] at hp
  rcases hp with rfl|rfl|rfl|rfl|rfl
  · exact awf0_ok
  · exact awf5_ok
  · exact awf10_ok
  · exact awf15_ok
  · exact awf22_ok) rfl (by kernel_rfl)
theorem aw_learnerlaw42_awake_pure:PureC Tryz.prog 10 [] (.bool true):=aw_of (l:=[awf0,awf5,awf20,awf23]) (fun p hp=>by
  simp only [List.mem_cons,List.not_mem_nil,or_false] at hp
  rcases hp with rfl|rfl|rfl|rfl
  · exact awf0_ok
  · exact awf5_ok
  · exact awf20_ok
  · exact awf23_ok) rfl (by kernel_rfl)
theorem mvalid_pure (m:M):PureC Tryz.prog 30 [(V.agg [(iV (m.i)),(iV (m.s)),(intss m.nx),(intss m.ot)])] (iV (mval m)):=by
 refine pW Tryz.func30 s30_ok fun hB=>?_
 unfold s30
 dsimp only
 refine W_r (R_box (i:=1) (n:=0) (m:=4) (cs:=[(iV (m.i)),(iV (m.s)),(intss m.nx),(intss m.ot)]) rfl (congrArg Blk.ver rfl) rfl rfl rfl (R_mv rfl (R_e (W_r (R_fk rfl rfl (R_lk rfl rfl rfl rfl (R_len rfl ?_)))))))
 refine R_mv rfl (R_e (W_seq_blockg fun Q1 n1 x1 y1 z1=>(W_r (R_fk rfl rfl (R_lk rfl rfl rfl rfl (R_lss rfl rfl (R_mv rfl ?_)))))))
 refine Ops_seg 4 (fun T H=>T 1=(V.mp 1 1 0 0)∧T 3=(iV ((m.nx.length:Nat):Int))∧T 19=(V.bool (decide (((m.i) < (1:Int))∨((64:Int) < (m.i)))))∧H 1=(bk 1 24 4 [[(iV (m.i)),(iV (m.s)),(intss m.nx),(intss m.ot)]])∧True) ?_ ?_
 ·
  by_cases g2:(m.i) < (1:Int)
  ·
   refine G_n (edT g2 rfl) (G_n (edT g2 rfl) (G_n (edT g2 rfl) (R_pickT (edT g2 rfl) rfl ?_)))
   exact ⟨rfl,rfl,(dec_orT g2),rfl,trivial⟩
  ·
   refine G_yes (edF g2 rfl) (R_fk rfl rfl (G_yes (edF g2 rfl) (R_lk rfl rfl rfl rfl (G_yes (edF g2 rfl) (R_gtr rfl rfl (R_pickF (edF g2 rfl) rfl ?_))))))
   exact ⟨rfl,rfl,(dec_orF g2),rfl,trivial⟩
 intro T H ⟨t1,t3,t19,h1,_⟩
 refine R_mv t19 (R_e ?_)
 refine W_if rfl (fun c3=>?_) fun c3=>?_
 ·
  refine W_r (R_mv rfl (R_e (W_ret (y1 _ _ ?_))))
  refine Ret_1 (@rfl V (iV (2:Int))) (fz_int ?_)
  · rw [mval,if_pos (by omega)]
 refine W_r (R_mv t3 (R_eql rfl rfl (R_mv rfl (R_e ?_))))
 refine W_if rfl (fun c4=>?_) fun c4=>?_
 ·
  refine W_r (R_mv rfl (R_e (W_ret (y1 _ _ ?_))))
  refine Ret_1 (@rfl V (iV (19:Int))) (fz_int ?_)
  · rw [mval,if_neg (by omega),if_pos (by omega)]
 refine W_r (R_mv t3 (R_gtr rfl rfl (R_mv rfl (R_e ?_))))
 refine W_if rfl (fun c5=>?_) fun c5=>?_
 ·
  refine W_r (R_mv rfl (R_e (W_ret (y1 _ _ ?_))))
  refine Ret_1 (@rfl V (iV (11:Int))) (fz_int ?_)
  · rw [mval,if_neg (by omega),if_neg (by omega),if_pos (by omega)]
 refine W_r (R_fk t1 h1 (R_lk rfl h1 rfl rfl (R_lss rfl rfl (R_mv rfl ?_))))
 refine Ops_seg 5 (fun T H=>T 1=(V.mp 1 1 0 0)∧T 3=(iV ((m.nx.length:Nat):Int))∧T 35=(V.bool (decide (((m.s) < (0:Int))∨(((m.nx.length:Nat):Int)≤(m.s)))))∧H 1=(bk 1 24 4 [[(iV (m.i)),(iV (m.s)),(intss m.nx),(intss m.ot)]])∧True) ?_ ?_
 ·
  by_cases g6:(m.s) < (0:Int)
  ·
   refine G_n (edT g6 rfl) (G_n (edT g6 rfl) (G_n (edT g6 rfl) (G_n (edT g6 rfl) (R_pickT (edT g6 rfl) rfl ?_))))
   exact ⟨t1,t3,(dec_orT g6),h1,trivial⟩
  ·
   refine G_yes (edF g6 rfl) (R_fk t1 h1 (G_yes (edF g6 rfl) (R_lk rfl h1 rfl rfl (G_yes (edF g6 rfl) (R_mv t3 (G_yes (edF g6 rfl) (R_geq rfl rfl ?_)))))))
   refine R_pickF (edF g6 rfl) rfl ?_
   exact ⟨t1,t3,(dec_orF g6),h1,trivial⟩
 intro T H ⟨t1,t3,t35,h1,_⟩
 refine R_mv t35 (R_e ?_)
 refine W_if rfl (fun c7=>?_) fun c7=>?_
 ·
  refine W_r (R_mv rfl (R_e (W_ret (y1 _ _ ?_))))
  refine Ret_1 (@rfl V (iV (2:Int))) (fz_int ?_)
  · rw [mval,if_neg (by omega),if_neg (by omega),if_neg (by omega),if_pos (by omega)]
 refine W_r (R_fk t1 h1 (R_lk rfl h1 rfl rfl (R_len rfl (R_mv t3 (R_neq rfl rfl (R_mv rfl (R_e ?_)))))))
 refine W_if rfl (fun c8=>?_) fun c8=>?_
 ·
  refine W_r (R_mv rfl (R_e (W_ret (y1 _ _ ?_))))
  refine Ret_1 (@rfl V (iV (1:Int))) (fz_int ?_)
  · rw [mval,if_neg (by omega),if_neg (by omega),if_neg (by omega),if_neg (by omega),if_pos (by omega)]
 refine W_skip (n1 _ _ (.done (W_seq_seq (W_r (R_mv t3 (R_mv rfl (R_e ?_)))))))
 refine W_seq_blockg fun Q9 n9 x9 y9 z9=>?_
 refine W_loop (fun mm T H=> ∃ (k:Nat),mm=m.nx.length - k∧T 1=(V.mp 1 1 0 0)∧T 3=(iV ((m.nx.length:Nat):Int))∧T 42=(iV ((m.nx.length:Nat):Int))∧T 43=(iV ((k:Nat):Int))∧H 1=(bk 1 24 4 [[(iV (m.i)),(iV (m.s)),(intss m.nx),(intss m.ot)]])∧(k≤m.nx.length)∧(1≤m.i∧m.i≤64∧0 < m.nx.length∧m.nx.length≤128∧m.ot.length=m.nx.length)∧(mval m=fe (rowE m) k (m.nx.length - k))) ?_ ?_
 ·
  refine ⟨_,0,rfl,t1,t3,rfl,(Eq.trans (@rfl V (iV (0:Int))) rfl),h1,?_,?_,?_⟩
  · omega
  · omega
  · rw [mval,if_neg (by omega),if_neg (by omega),if_neg (by omega),if_neg (by omega),if_neg (by omega)]; rfl
 intro mm T H ⟨k,hmm,t1,t3,t42,t43,h1,hk,hv,hc⟩ Q10 p110 p210 p310
 unfold b30_0
 refine W_r (R_lss t43 t42 (R_e ?_))
 refine W_seq_if rfl (fun c11=>?_) fun c11=>?_
 ·
  refine W_seq_skip (W_seq_blockg fun Q12 n12 x12 y12 z12=>(W_r (R_mv t43 (R_mv rfl (R_e (W_seq_seq (W_r ?_)))))))
  refine R_fk t1 h1 (R_lk rfl h1 rfl rfl (R_mv rfl (R_idx (i:=k) (@rfl V (intss m.nx)) (@rfl V (iV ((k:Nat):Int))) (by omega) rfl (R_load_pp rfl rfl (R_len rfl (R_fk t1 h1 (R_lk rfl h1 rfl rfl ?_)))))))
  refine R_neq rfl rfl (R_mv rfl ?_)
  refine Ops_seg 10 (fun T H=>T 1=(V.mp 1 1 0 0)∧T 3=(iV ((m.nx.length:Nat):Int))∧T 4=(iV ((k:Nat):Int))∧T 42=(iV ((m.nx.length:Nat):Int))∧T 43=(iV ((k:Nat):Int))∧T 65=(V.bool (decide ((((((nth (m.nx) (k))).length:Nat):Int)≠(m.i))∨(((((nth (m.ot) (k))).length:Nat):Int)≠(m.i)))))∧H 1=(bk 1 24 4 [[(iV (m.i)),(iV (m.s)),(intss m.nx),(intss m.ot)]])∧True) ?_ ?_
  ·
   by_cases g13:((((nth (m.nx) (k))).length:Nat):Int)≠(m.i)
   ·
    refine G_n (edT g13 rfl) (G_n (edT g13 rfl) (G_n (edT g13 rfl) (G_n (edT g13 rfl) (G_n (edT g13 rfl) (G_n (edT g13 rfl) (G_n (edT g13 rfl) (G_n (edT g13 rfl) ?_)))))))
    refine G_n (edT g13 rfl) (R_pickT (edT g13 rfl) rfl ?_)
    exact ⟨t1,t3,rfl,t42,t43,(dec_orT g13),h1,trivial⟩
   ·
    refine G_yes (edF g13 rfl) (R_fk t1 h1 (G_yes (edF g13 rfl) (R_lk rfl h1 rfl rfl (G_yes (edF g13 rfl) (R_mv rfl (G_yes (edF g13 rfl) (R_idx (i:=k) (@rfl V (intss m.ot)) (@rfl V (iV ((k:Nat):Int))) (by omega) rfl ?_)))))))
    refine G_yes (edF g13 rfl) (R_load_pp rfl rfl (G_yes (edF g13 rfl) (R_len rfl (G_yes (edF g13 rfl) (R_fk t1 h1 (G_yes (edF g13 rfl) (R_lk rfl h1 rfl rfl ?_)))))))
    refine G_yes (edF g13 rfl) (R_neq rfl rfl (R_pickF (edF g13 rfl) rfl ?_))
    exact ⟨t1,t3,rfl,t42,t43,(dec_orF g13),h1,trivial⟩
  intro T H ⟨t1,t3,t4,t42,t43,t65,h1,_⟩
  refine R_e ?_
  refine W_seq_if t65 (fun c14=>?_) fun c14=>?_
  ·
   refine W_seq_seq (W_r (R_mv rfl (R_e (W_seq_ret (y12 _ _ (p210 _ _ (y9 _ _ ?_)))))))
   refine Ret_1 (@rfl V (iV (1:Int))) (fz_int ?_)
   · rw [hc,fe_hit (by rw [rowE,if_pos (by omega)]; decide) (by omega),rowE,if_pos (by omega)]
  refine W_seq_skip (W_r (R_fk t1 h1 (R_lk rfl h1 rfl rfl (R_mv rfl (R_e (W_block fun Q15 n15 x15 y15 z15=>?_))))))
  refine W_loop (fun mm T H=> ∃ (j:Nat),mm=((m.i).toNat) - j∧T 1=(V.mp 1 1 0 0)∧T 3=(iV ((m.nx.length:Nat):Int))∧T 4=(iV ((k:Nat):Int))∧T 42=(iV ((m.nx.length:Nat):Int))∧T 43=(iV ((k:Nat):Int))∧T 67=(iV (m.i))∧T 68=(iV ((j:Nat):Int))∧H 1=(bk 1 24 4 [[(iV (m.i)),(iV (m.s)),(intss m.nx),(intss m.ot)]])∧(j≤(m.i).toNat)∧(((nth m.nx k).length:Int)=m.i∧((nth m.ot k).length:Int)=m.i)∧(rowE m k=fe (celE m k) j (m.i.toNat - j))) ?_ ?_
  ·
   refine ⟨_,0,rfl,t1,t3,t4,t42,t43,rfl,(Eq.trans (@rfl V (iV (0:Int))) rfl),h1,?_,?_,?_⟩
   · omega
   · omega
   · rw [rowE,if_neg (by omega)]; rfl
  intro mm T H ⟨j,hmm,t1,t3,t4,t42,t43,t67,t68,h1,hj,hl,hr⟩ Q16 p116 p216 p316
  unfold b30_1
  refine W_r (R_lss t68 t67 (R_e ?_))
  refine W_seq_if rfl (fun c17=>?_) fun c17=>?_
  ·
   refine W_seq_skip (W_seq_blockg fun Q18 n18 x18 y18 z18=>(W_r (R_mv t68 (R_mv rfl (R_e (W_r (R_fk t1 h1 ?_)))))))
   refine R_lk rfl h1 rfl rfl (R_mv t4 (R_idx (i:=k) (@rfl V (intss m.nx)) (@rfl V (iV ((k:Nat):Int))) (by omega) rfl (R_load_pp rfl rfl (R_mv rfl (R_idx (i:=j) (@rfl V (ints ((nth (m.nx) (k))))) (@rfl V (iV ((j:Nat):Int))) (by omega) rfl (R_load_pp rfl rfl (R_fk t1 h1 ?_)))))))
   refine R_lk rfl h1 rfl rfl (R_mv t4 (R_idx (i:=k) (@rfl V (intss m.ot)) (@rfl V (iV ((k:Nat):Int))) (by omega) rfl (R_load_pp rfl rfl (R_mv rfl (R_idx (i:=j) (@rfl V (ints ((nth (m.ot) (k))))) (@rfl V (iV ((j:Nat):Int))) (by omega) rfl (R_load_pp rfl rfl (R_mv rfl ?_)))))))
   refine R_mv rfl (R_e (W_r (R_mv rfl (R_lss rfl rfl (R_mv rfl ?_)))))
   refine Ops_seg 4 (fun T H=>T 1=(V.mp 1 1 0 0)∧T 3=(iV ((m.nx.length:Nat):Int))∧T 4=(iV ((k:Nat):Int))∧T 7=(iV ((nth ((nth (m.ot) (k))) (j))))∧T 42=(iV ((m.nx.length:Nat):Int))∧T 43=(iV ((k:Nat):Int))∧T 67=(iV (m.i))∧T 68=(iV ((j:Nat):Int))∧T 93=(V.bool (decide ((((nth ((nth (m.nx) (k))) (j))) < (0:Int))∨(((m.nx.length:Nat):Int)≤((nth ((nth (m.nx) (k))) (j)))))))∧H 1=(bk 1 24 4 [[(iV (m.i)),(iV (m.s)),(intss m.nx),(intss m.ot)]])∧True) ?_ ?_
   ·
    by_cases g19:((nth ((nth (m.nx) (k))) (j))) < (0:Int)
    ·
     refine G_n (edT g19 rfl) (G_n (edT g19 rfl) (G_n (edT g19 rfl) (R_pickT (edT g19 rfl) rfl ?_)))
     exact ⟨t1,t3,t4,rfl,t42,t43,t67,t68,(dec_orT g19),h1,trivial⟩
    ·
     refine G_yes (edF g19 rfl) (R_mv rfl (G_yes (edF g19 rfl) (R_mv t3 (G_yes (edF g19 rfl) (R_geq rfl rfl (R_pickF (edF g19 rfl) rfl ?_))))))
     exact ⟨t1,t3,t4,rfl,t42,t43,t67,t68,(dec_orF g19),h1,trivial⟩
   intro T H ⟨t1,t3,t4,t7,t42,t43,t67,t68,t93,h1,_⟩
   refine R_mv t93 ?_
   refine Ops_seg 3 (fun T H=>T 1=(V.mp 1 1 0 0)∧T 3=(iV ((m.nx.length:Nat):Int))∧T 4=(iV ((k:Nat):Int))∧T 7=(iV ((nth ((nth (m.ot) (k))) (j))))∧T 42=(iV ((m.nx.length:Nat):Int))∧T 43=(iV ((k:Nat):Int))∧T 67=(iV (m.i))∧T 68=(iV ((j:Nat):Int))∧T 97=(V.bool (decide (((((nth ((nth (m.nx) (k))) (j))) < (0:Int))∨(((m.nx.length:Nat):Int)≤((nth ((nth (m.nx) (k))) (j)))))∨(((nth ((nth (m.ot) (k))) (j))) < (0:Int)))))∧H 1=(bk 1 24 4 [[(iV (m.i)),(iV (m.s)),(intss m.nx),(intss m.ot)]])∧True) ?_ ?_
   ·
    by_cases g20:(((nth ((nth (m.nx) (k))) (j))) < (0:Int))∨(((m.nx.length:Nat):Int)≤((nth ((nth (m.nx) (k))) (j))))
    ·
     refine G_n (edT g20 rfl) (G_n (edT g20 rfl) (R_pickT (edT g20 rfl) rfl ?_))
     exact ⟨t1,t3,t4,t7,t42,t43,t67,t68,(dec_orT g20),h1,trivial⟩
    ·
     refine G_yes (edF g20 rfl) (R_mv t7 (G_yes (edF g20 rfl) (R_lss rfl rfl (R_pickF (edF g20 rfl) rfl ?_))))
     exact ⟨t1,t3,t4,t7,t42,t43,t67,t68,(dec_orF g20),h1,trivial⟩
   intro T H ⟨t1,t3,t4,t7,t42,t43,t67,t68,t97,h1,_⟩
   refine R_mv t97 ?_
   refine Ops_seg 3 (fun T H=>T 1=(V.mp 1 1 0 0)∧T 3=(iV ((m.nx.length:Nat):Int))∧T 4=(iV ((k:Nat):Int))∧T 42=(iV ((m.nx.length:Nat):Int))∧T 43=(iV ((k:Nat):Int))∧T 67=(iV (m.i))∧T 68=(iV ((j:Nat):Int))∧T 101=(V.bool (decide ((((((nth ((nth (m.nx) (k))) (j))) < (0:Int))∨(((m.nx.length:Nat):Int)≤((nth ((nth (m.nx) (k))) (j)))))∨(((nth ((nth (m.ot) (k))) (j))) < (0:Int)))∨((1048576:Int) < ((nth ((nth (m.ot) (k))) (j)))))))∧H 1=(bk 1 24 4 [[(iV (m.i)),(iV (m.s)),(intss m.nx),(intss m.ot)]])∧True) ?_ ?_
   ·
    by_cases g21:((((nth ((nth (m.nx) (k))) (j))) < (0:Int))∨(((m.nx.length:Nat):Int)≤((nth ((nth (m.nx) (k))) (j)))))∨(((nth ((nth (m.ot) (k))) (j))) < (0:Int))
    ·
     refine G_n (edT g21 rfl) (G_n (edT g21 rfl) (R_pickT (edT g21 rfl) rfl ?_))
     exact ⟨t1,t3,t4,t42,t43,t67,t68,(dec_orT g21),h1,trivial⟩
    ·
     refine G_yes (edF g21 rfl) (R_mv t7 (G_yes (edF g21 rfl) (R_gtr rfl rfl (R_pickF (edF g21 rfl) rfl ?_))))
     exact ⟨t1,t3,t4,t42,t43,t67,t68,(dec_orF g21),h1,trivial⟩
   intro T H ⟨t1,t3,t4,t42,t43,t67,t68,t101,h1,_⟩
   refine R_e ?_
   refine W_if t101 (fun c22=>?_) fun c22=>?_
   ·
    refine W_r (R_mv rfl (R_e (W_ret (y18 _ _ (p216 _ _ (y15 _ _ (y12 _ _ ?_)))))))
    refine p210 _ _ (y9 _ _ ?_)
    refine Ret_1 (@rfl V (iV (2:Int))) (fz_int ?_)
    · have e:rowE m k=2:=by
        rw [hr,fe_hit (by unfold celE; split <;> omega) (by omega)]; unfold celE; split <;> omega
      rw [hc,fe_hit (by omega) (by omega),e]
   refine W_skip (n18 _ _ (.done (W_t (R_addN t68 (@rfl V (iV ((1:Nat):Int))) (by omega) (R_mv rfl (R_e ?_))))))
   refine p116 _ _ _ ?_ ⟨(j+1),rfl,t1,t3,t4,t42,t43,t67,(Eq.trans (@rfl V (iV ((j+1:Nat):Int))) (by first|rfl|simp)),h1,?_,?_,?_⟩
   · omega
   · omega
   · omega
   · rw [hr,fe_skip (by unfold celE; split <;> omega) (by omega)]
  refine W_seq_exit (p316 _ _ _ (x15 _ _ (n12 _ _ (.done (W_t (R_addN t43 (@rfl V (iV ((1:Nat):Int))) (by omega) (R_mv rfl ?_)))))))
  refine R_e ?_
  refine p110 _ _ _ ?_ ⟨(k+1),rfl,t1,t3,t42,(Eq.trans (@rfl V (iV ((k+1:Nat):Int))) (by first|rfl|simp)),h1,?_,?_,?_⟩
  · omega
  · omega
  · omega
  · rw [hc,fe_skip (by rw [hr,fe_end (by omega)]) (by omega)]
 refine W_seq_exit (p310 _ _ _ (x9 _ _ (.done (W_r (R_mv rfl (R_e (W_ret ?_)))))))
 refine Ret_1 (@rfl V (iV (0:Int))) (fz_int ?_)
 · rw [hc,fe_end (by omega)]
end Go.Proofs.YtilfohjlglefjaaGreat
namespace Go.Proofs.YtilfohjlglefjaaGreat
open Go Go.Proofs
attribute [local irreducible] mksV
theorem reach_pure (m:M):PureC Tryz.prog 55 [(V.agg [(iV (m.i)),(iV (m.s)),(intss m.nx),(intss m.ot)])] (ints (rch m)):=by
 refine pW Tryz.func55 s55_ok fun hB=>?_
 unfold s55
 dsimp only
 refine W_r (R_box (i:=1) (n:=0) (m:=4) (cs:=[(iV (m.i)),(iV (m.s)),(intss m.nx),(intss m.ot)]) rfl (congrArg Blk.ver rfl) rfl rfl rfl (R_mv rfl (R_e (W_seq_seq (W_r (R_lk rfl rfl rfl rfl (R_callk (mvalid_pure m) rfl ?_)))))))
 refine R_neq rfl rfl (R_e ?_)
 refine W_seq_if rfl (fun c1=>?_) fun c1=>?_
 ·
  have d0:=c1
  refine W_seq_seq (W_r (R_mv rfl (R_e (W_seq_ret ?_))))
  refine Ret_1 (@rfl V V.nilsl) (fz_nil ?_)
  · rw [rch,if_pos d0]
 have hm:mval m=0:=by omega
 obtain ⟨v1,v2,v3,v4,v5,v6,v7,_⟩:=mval_ok hm
 refine W_seq_skip (W_r (R_fk rfl rfl (R_lk rfl rfl rfl rfl (R_len rfl (R_mksm (i:=14) (n:=0) (m:=m.nx.length) (q:=m.nx.length) (f:=cB) (x:=false) rfl (congrArg Blk.ver rfl) (@rfl V (iV ((m.nx.length:Nat):Int))) (@rfl V (iV ((m.nx.length:Nat):Int))) rfl (by first|omega|(simp only [List.length_replicate]; omega)) (by first|omega|(simp only [List.length_replicate]; omega)) (by first|omega|(simp only [List.length_replicate]; omega)) (R_mv rfl (R_e ?_)))))))
 refine W_r (R_mv rfl (R_fk rfl rfl (R_lk rfl rfl rfl rfl (R_idxI_ms0 (i:=(m.s)) (@rfl V (V.ms 14 1 0 (m.nx.length))) (@rfl V (iV (m.s))) (@rfl Blk (bk 1 4 1 (List.map cB (List.replicate m.nx.length false)))) oB rfl (by first|omega|(simp only [List.length_replicate]; omega)) (by first|omega|(simp only [List.length_replicate]; omega)) (R_store (vs:=[(V.bool true)]) (B':=(bk 1 4 1 (List.map cB ((List.replicate m.nx.length false).set (((m.s)).toNat) true)))) rfl rfl rfl (@rfl Blk (bk 1 4 1 (List.map cB (List.replicate m.nx.length false)))) (stB_map (x:=true) (i:=(((m.s)).toNat)) (by first|omega|(simp only [List.length_replicate]; omega)) rfl rfl rfl rfl) (R_e (W_r ?_)))))))
 refine R_fk rfl rfl (R_lk rfl rfl rfl rfl (R_bslice_own (i:=21) (n:=0) (qs:=[(0,(iV (m.s)))]) (rows:=[[(iV (m.s))]]) rfl (congrArg Blk.ver rfl) (mcons (congrArg (fun v=>(0,v)) rfl) rfl) rfl (R_mv rfl (R_e (W_seq_seq (W_r (R_mv rfl ?_)))))))
 refine R_e (W_seq_blockg fun Q2 n2 x2 y2 z2=>?_)
 refine W_loop (fun mm T H=> ∃ (k:Nat) (w:Nat) (P:RS),mm=m.nx.length - k∧T 1=(V.mp 1 1 0 0)∧T 3=(V.ms 14 1 0 (m.nx.length))∧T 4=(V.ms 21 w 0 (P.1.length))∧T 5=(iV ((k:Nat):Int))∧H 1=(bk 1 24 4 [[(iV (m.i)),(iV (m.s)),(intss m.nx),(intss m.ot)]])∧H 14=(bk 1 4 1 (List.map cB (P.2)))∧H 21=(bk w 3 1 (List.map cI (P.1)))∧(k≤P.1.length)∧(RI m.nx.length P)∧(bfsR m m.nx.length 0 (iniR m)=bfsR m (m.nx.length - k) k P)) ?_ ?_
 ·
  refine ⟨_,0,1,(iniR m),rfl,rfl,rfl,(Eq.trans (@rfl V (V.ms 21 1 0 (1))) (by first|rfl|(rw [stp_no d2,List.length_append]; rfl)|(rw [stp_yes d2]; done)|(rw [← e9]; done))),(Eq.trans (@rfl V (iV (0:Int))) rfl),rfl,(Eq.trans (@rfl Blk (bk 1 4 1 (List.map cB ((List.replicate m.nx.length false).set (((m.s)).toNat) true)))) (by first|rfl|(rw [stp_no d2]; done)|(rw [stp_yes d2]; done)|(rw [← e9]; done))),(Eq.trans (@rfl Blk (bk 1 3 1 [[(iV (m.s))]])) (by first|rfl|(rw [stp_no d2]; done)|(rw [stp_yes d2]; done)|(rw [← e9]; done))),?_,?_,?_⟩
  · exact Nat.zero_le _
  · exact ini_RI hm
  · rfl
 intro mm T H ⟨k,w,P,hmm,t1,t3,t4,t5,h1,h14,h21,hk,hr,hc⟩ Q3 p13 p23 p33
 unfold b55_0
 refine W_seq_seq (W_r (R_mv t5 (R_mv t4 (R_len_ms rfl h21 (by first|rfl|simp) (R_lss rfl rfl (R_e ?_))))))
 refine W_seq_if rfl (fun c4=>?_) fun c4=>?_
 ·
  have r1:=hr.rng _ (nth_mem (show k < P.1.length by omega))
  have r0:=hr.len
  have r5:=hr.blen
  have r6:=((mval_ok hm).2.2.2.2.2.2.2 (nth P.1 k).toNat (by omega)).1
  refine W_seq_skip (W_seq_blockg fun Q5 n5 x5 y5 z5=>(W_r (R_fk t1 h1 (R_lk rfl h1 rfl rfl (R_mv t4 (R_mv t5 (R_idx_ms0 (i:=k) (@rfl V (V.ms 21 w 0 (P.1.length))) (@rfl V (iV ((k:Nat):Int))) h21 oB rfl (by first|omega|(simp only [List.length_replicate]; omega)) ?_)))))))
  refine R_load_mp (v:=(iV ((nth (P.1) (k))))) rfl h21 (ldB_map (by first|omega|(simp only [List.length_replicate]; omega)) (by first|rfl|(rw [cF_eq]; rfl)|simp [ldV,V.one])) (R_idxI (i:=((nth (P.1) (k)))) (@rfl V (intss m.nx)) (@rfl V (iV ((nth (P.1) (k))))) (by first|omega|(simp only [List.length_replicate]; omega)) (by first|omega|(simp only [List.length_replicate]; omega)) rfl (R_load_pp rfl rfl (R_len rfl (R_mv rfl (R_e (W_block fun Q6 n6 x6 y6 z6=>?_))))))
  refine W_loop (fun mm T H=> ∃ (j:Nat) (w2:Nat) (Q:RS),mm=(nth m.nx (nth P.1 k).toNat).length - j∧T 1=(V.mp 1 1 0 0)∧T 3=(V.ms 14 1 0 (m.nx.length))∧T 4=(V.ms 21 w2 0 (Q.1.length))∧T 5=(iV ((k:Nat):Int))∧T 35=(ints ((nth (m.nx) ((nth (P.1) (k))).toNat)))∧T 36=(iV ((((nth (m.nx) ((nth (P.1) (k))).toNat)).length:Nat):Int))∧T 37=(iV ((j:Nat):Int))∧H 1=(bk 1 24 4 [[(iV (m.i)),(iV (m.s)),(intss m.nx),(intss m.ot)]])∧H 14=(bk 1 4 1 (List.map cB (Q.2)))∧H 21=(bk w2 3 1 (List.map cI (Q.1)))∧(j≤(nth m.nx (nth P.1 k).toNat).length)∧(Q=((nth m.nx (nth P.1 k).toNat).take j).foldl stpR P)∧(RI m.nx.length Q)) ?_ ?_
  ·
   refine ⟨_,0,w,P,rfl,t1,t3,t4,t5,rfl,rfl,(Eq.trans (@rfl V (iV (0:Int))) rfl),h1,h14,h21,?_,?_,?_⟩
   · omega
   · rfl
   · exact hr
  intro mm T H ⟨j,w2,Q,hmm,t1,t3,t4,t5,t35,t36,t37,h1,h14,h21,hj,hq,hrq⟩ Q7 p17 p27 p37
  unfold b55_1
  refine W_r (R_lss t37 t36 (R_e ?_))
  refine W_seq_if rfl (fun c8=>?_) fun c8=>?_
  ·
   have r2:=row_in hm r1.1 r1.2 _ (nth_mem (show j < (nth m.nx (nth P.1 k).toNat).length by omega))
   have r3:=hrq.blen
   have r4:=hrq.len
   refine W_seq_skip (W_seq_blockg fun Q9 n9 x9 y9 z9=>(W_r (R_idx (i:=j) t35 t37 (by first|omega|(simp only [List.length_replicate]; omega)) rfl (R_load_pp rfl rfl (R_mv rfl (R_e (W_r ?_)))))))
   refine R_mv t3 (R_mv rfl (R_idxI_ms0 (i:=((nth ((nth (m.nx) ((nth (P.1) (k))).toNat)) (j)))) (@rfl V (V.ms 14 1 0 (m.nx.length))) (@rfl V (iV ((nth ((nth (m.nx) ((nth (P.1) (k))).toNat)) (j))))) h14 oB rfl (by first|omega|(simp only [List.length_replicate]; omega)) (by first|omega|(simp only [List.length_replicate]; omega)) (R_load_mp (v:=(V.bool ((nth (Q.2) ((((nth ((nth (m.nx) ((nth (P.1) (k))).toNat)) (j)))).toNat))))) rfl h14 (ldB_map (by first|omega|(simp only [List.length_replicate]; omega)) (by first|rfl|(rw [cF_eq]; rfl)|simp [ldV,V.one])) (R_notb rfl (R_e ?_)))))
   refine W_ifb rfl (fun c10=>?_) (fun c10=>?_)
   ·
    have d2:nth Q.2 (nth (nth m.nx (nth P.1 k).toNat) j).toNat=false:=by simpa using c10
    refine W_r (R_mv t3 (R_mv rfl (R_idxI_ms0 (i:=((nth ((nth (m.nx) ((nth (P.1) (k))).toNat)) (j)))) (@rfl V (V.ms 14 1 0 (m.nx.length))) (@rfl V (iV ((nth ((nth (m.nx) ((nth (P.1) (k))).toNat)) (j))))) h14 oB rfl (by first|omega|(simp only [List.length_replicate]; omega)) (by first|omega|(simp only [List.length_replicate]; omega)) (R_store (vs:=[(V.bool true)]) (B':=(bk 1 4 1 (List.map cB ((Q.2).set ((((nth ((nth (m.nx) ((nth (P.1) (k))).toNat)) (j)))).toNat) true)))) rfl rfl rfl h14 (stB_map (x:=true) (i:=((((nth ((nth (m.nx) ((nth (P.1) (k))).toNat)) (j)))).toNat)) (by first|omega|(simp only [List.length_replicate]; omega)) rfl rfl rfl rfl) (R_e (W_t (R_mv t4 ?_)))))))
    refine R_mv rfl (R_bslice rfl rfl (R_append1 (l:=Q.1) (f:=cI) (x:=(((nth ((nth (m.nx) ((nth (P.1) (k))).toNat)) (j))))) (@rfl V (V.ms 21 w2 0 (Q.1.length))) h21 (by first|rfl|simp|omega) (@rfl V (V.sl [[(iV ((nth ((nth (m.nx) ((nth (P.1) (k))).toNat)) (j))))]])) rfl rfl (by first|omega|(simp only [List.length_replicate]; omega)) (by first|omega|(simp only [List.length_replicate]; omega)) (R_mv rfl (R_e (n9 _ _ (.done (W_t ?_)))))))
    refine R_addN t37 (@rfl V (iV ((1:Nat):Int))) (by first|omega|(simp only [List.length_replicate]; omega)) (R_mv rfl (R_e ?_))
    refine p17 _ _ _ ?_ ⟨(j+1),(w2+1),(stpR Q (nth (nth m.nx (nth P.1 k).toNat) j)),rfl,t1,t3,(Eq.trans (@rfl V (V.ms 21 (w2+1) 0 (Q.1.length+1))) (by first|rfl|(rw [stp_no d2,List.length_append]; rfl)|(rw [stp_yes d2]; done)|(rw [← e9]; done))),t5,t35,t36,(Eq.trans (@rfl V (iV ((j+1:Nat):Int))) (by first|rfl|(rw [stp_no d2,List.length_append]; rfl)|(rw [stp_yes d2]; done)|(rw [← e9]; done))),h1,(Eq.trans (@rfl Blk (bk 1 4 1 (List.map cB ((Q.2).set ((((nth ((nth (m.nx) ((nth (P.1) (k))).toNat)) (j)))).toNat) true)))) (by first|rfl|(rw [stp_no d2]; done)|(rw [stp_yes d2]; done)|(rw [← e9]; done))),(Eq.trans (@rfl Blk (bk (w2+1) 3 1 (List.map cI (Q.1++[((nth ((nth (m.nx) ((nth (P.1) (k))).toNat)) (j)))])))) (by first|rfl|(rw [stp_no d2]; done)|(rw [stp_yes d2]; done)|(rw [← e9]; done))),?_,?_,?_⟩
    · omega
    · omega
    · rw [fold_step (by omega),← hq]
    · exact hrq.step r2.1 r2.2
   have d2:nth Q.2 (nth (nth m.nx (nth P.1 k).toNat) j).toNat=true:=by simpa using c10
   refine W_skip (n9 _ _ (.done (W_t (R_addN t37 (@rfl V (iV ((1:Nat):Int))) (by first|omega|(simp only [List.length_replicate]; omega)) (R_mv rfl (R_e ?_))))))
   refine p17 _ _ _ ?_ ⟨(j+1),w2,(stpR Q (nth (nth m.nx (nth P.1 k).toNat) j)),rfl,t1,t3,(Eq.trans t4 (by first|rfl|(rw [stp_no d2,List.length_append]; rfl)|(rw [stp_yes d2]; done)|(rw [← e9]; done))),t5,t35,t36,(Eq.trans (@rfl V (iV ((j+1:Nat):Int))) (by first|rfl|(rw [stp_no d2,List.length_append]; rfl)|(rw [stp_yes d2]; done)|(rw [← e9]; done))),h1,(Eq.trans h14 (by first|rfl|(rw [stp_no d2]; done)|(rw [stp_yes d2]; done)|(rw [← e9]; done))),(Eq.trans h21 (by first|rfl|(rw [stp_no d2]; done)|(rw [stp_yes d2]; done)|(rw [← e9]; done))),?_,?_,?_⟩
   · omega
   · omega
   · rw [fold_step (by omega),← hq]
   · exact hrq.step r2.1 r2.2
  have e9:Q=rowR m P k:=by rw [hq]; unfold rowR; rw [List.take_of_length_le (by omega)]
  refine W_seq_exit (p37 _ _ _ (x6 _ _ (n5 _ _ (.done (W_t (R_mv t5 (R_addN rfl (@rfl V (iV ((1:Nat):Int))) (by first|omega|(simp only [List.length_replicate]; omega)) ?_)))))))
  refine R_mv rfl (R_e ?_)
  refine p13 _ _ _ ?_ ⟨(k+1),w2,(rowR m P k),rfl,t1,t3,(Eq.trans t4 (by first|rfl|(rw [stp_no d2,List.length_append]; rfl)|(rw [stp_yes d2]; done)|(rw [← e9]; done))),(Eq.trans (@rfl V (iV ((k+1:Nat):Int))) (by first|rfl|(rw [stp_no d2,List.length_append]; rfl)|(rw [stp_yes d2]; done)|(rw [← e9]; done))),h1,(Eq.trans h14 (by first|rfl|(rw [stp_no d2]; done)|(rw [stp_yes d2]; done)|(rw [← e9]; done))),(Eq.trans h21 (by first|rfl|(rw [stp_no d2]; done)|(rw [stp_yes d2]; done)|(rw [← e9]; done))),?_,?_,?_⟩
  · omega
  · obtain ⟨x,hx⟩:=fold_grow (nth m.nx (nth P.1 k).toNat) P
    have hg:(rowR m P k).1=P.1++x:=hx
    rw [hg,List.length_append]; omega
  · exact hr.row hm (by omega)
  · rw [hc,bfs_go (by omega) (by omega)]
 refine W_seq_exit (p33 _ _ _ (x2 _ _ (.done (W_r (R_mv t4 (R_mv rfl (R_e ?_)))))))
 refine W_ret ?_
 refine Ret_1 (@rfl V (V.ms 21 w 0 (P.1.length))) (fz_ms h21 (by first|rfl|simp) (l:=P.1) rfl (by first|rfl|simp|omega) (fun _=>by simp) ?_)
 · rw [rch,if_neg (by omega),hc,bfs_end (by omega)]
end Go.Proofs.YtilfohjlglefjaaGreat
namespace Go.Proofs.YtilfohjlglefjaaGreat
open Go Go.Proofs
attribute [local irreducible] mksV
theorem ptrim_pure (m:M):PureC Tryz.prog 31 [(V.agg [(iV (m.i)),(iV (m.s)),(intss m.nx),(intss m.ot)])] (V.tup [(V.agg [(iV ((trR m).i)),(iV ((trR m).s)),(intss ((trR m).nx)),(intss ((trR m).ot))]),(iV (mval m))]):=by
 refine pW Tryz.func31 s31_ok fun hB=>?_
 unfold s31
 dsimp only
 refine W_r (R_box (i:=1) (n:=0) (m:=4) (cs:=[(iV (m.i)),(iV (m.s)),(intss m.nx),(intss m.ot)]) rfl (congrArg Blk.ver rfl) rfl rfl rfl (R_alloc (i:=2) (n:=0) (m:=4) rfl (congrArg Blk.ver rfl) rfl (R_mv rfl (R_e (W_seq_seq (W_r (R_lk rfl rfl rfl rfl ?_)))))))
 refine R_callk (mvalid_pure m) rfl (R_mv rfl (R_e (W_seq_seq (W_r (R_mv rfl (R_neq rfl rfl (R_e ?_)))))))
 refine W_seq_if rfl (fun c1=>?_) fun c1=>?_
 ·
  have d0:=c1
  refine W_seq_seq (W_r (R_build rfl rfl (R_mv rfl (R_store (vs:=[(iV (0:Int)),(iV (0:Int)),V.nilsl,V.nilsl]) (B':=(bk 1 24 4 [[(iV (0:Int)),(iV (0:Int)),V.nilsl,V.nilsl]])) rfl rfl rfl rfl (sB oB rfl rfl rfl rfl rfl) (R_mv rfl (R_e (W_seq_ret ?_)))))))
  refine RetC_2 (resV_c (u:=(V.agg [(iV (0:Int)),(iV (0:Int)),V.nilsl,V.nilsl])) rfl (@rfl Blk (bk 1 24 4 [[(iV (0:Int)),(iV (0:Int)),V.nilsl,V.nilsl]])) (lB oB rfl rfl)) (resV_t (@rfl V (iV (mval m)))) (fz_aggL (mcons (fz_int ?_) (mcons (fz_int ?_) (mcons (fz_nil ?_) (mcons (fz_nil ?_) rfl))))) (fz_canon (by simp) rfl)
  · rw [trR,if_neg d0]; try rfl
  · rw [trR,if_neg d0]; try rfl
  · rw [trR,if_neg d0]; try rfl
  · rw [trR,if_neg d0]; try rfl
 have d0:=c1
 have hm:mval m=0:=by omega
 have mo:=mval_ok hm
 have rc:=rch_RC hm
 have rl:=rc.len
 have me:=mo.2.2.2.2.2.2.1
 refine W_seq_skip (W_r (R_lk rfl rfl rfl rfl (R_callk (reach_pure m) rfl (R_mv rfl (R_e (W_r (R_fk rfl rfl ?_)))))))
 refine R_lk rfl rfl rfl rfl (R_len rfl (R_mksm (i:=26) (n:=0) (m:=m.nx.length) (q:=m.nx.length) (f:=cI) (x:=0) rfl (congrArg Blk.ver rfl) (@rfl V (iV ((m.nx.length:Nat):Int))) (@rfl V (iV ((m.nx.length:Nat):Int))) rfl (by first|omega|(simp only [List.length_replicate]; omega)|(rw [tblP_len]; omega)) (by first|omega|(simp only [List.length_replicate]; omega)|(rw [tblP_len]; omega)) (by first|omega|(simp only [List.length_replicate]; omega)|(rw [tblP_len]; omega)) (R_mv rfl (R_e (W_seq_seq (W_r (R_mv rfl ?_)))))))
 refine R_len rfl (R_mv rfl (R_e (W_seq_blockg fun Q2 n2 x2 y2 z2=>?_)))
 refine W_loop (fun mm T H=> ∃ (k:Nat) (N:List Int),mm=(rch m).length - k∧T 1=(V.mp 1 1 0 0)∧T 2=(V.mp 2 1 0 0)∧T 5=(ints (rch m))∧T 6=(V.ms 26 1 0 (m.nx.length))∧T 27=(ints (rch m))∧T 28=(iV (((rch m).length:Nat):Int))∧T 29=(iV ((k:Nat):Int))∧H 1=(bk 1 24 4 [[(iV (m.i)),(iV (m.s)),(intss m.nx),(intss m.ot)]])∧H 2=(bk 1 24 4 [[(iV (0:Int)),(iV (0:Int)),V.nilsl,V.nilsl]])∧H 9=(⟨0,false,false,0,0,[]⟩:Blk)∧H 26=(bk 1 3 1 (List.map cI (N)))∧H 50=(⟨0,false,false,0,0,[]⟩:Blk)∧H 812=(⟨0,false,false,0,0,[]⟩:Blk)∧H 813=(⟨0,false,false,0,0,[]⟩:Blk)∧(k≤(rch m).length)∧(N.length=m.nx.length)∧(∀ j,j < k→nth N (nth (rch m) j).toNat=(j:Int))) ?_ ?_
 ·
  refine ⟨_,0,(List.replicate m.nx.length 0),rfl,rfl,rfl,rfl,rfl,rfl,rfl,(Eq.trans (@rfl V (iV (0:Int))) rfl),rfl,rfl,rfl,(Eq.trans (@rfl Blk (bk 1 3 1 (List.map cI (List.replicate m.nx.length 0)))) (by first|rfl|exact congrArg (List.map cI) tblP_0|(rw [← tblP_0,List.map_replicate]; done)|(rw [rn,← tblP_go (f:=tNxA m k) (z:=0) (n:=m.i.toNat) (j:=j) (by omega)]; rfl)|(rw [tbl_succ,List.map_append,ej]; first|done|rfl)|(rw [tbl_succ,ej]; first|done|rfl)|(rw [tbl_succ,eo]; first|done|rfl)|(rw [tbl_succ,List.map_append,eo]; first|done|rfl)|(simp; done))),rfl,rfl,rfl,?_,?_,?_⟩
  · exact Nat.zero_le _
  · exact List.length_replicate ..
  · intro j hj; omega
 intro mm T H ⟨k,N,hmm,t1,t2,t5,t6,t27,t28,t29,h1,h2,h9,h26,h50,h812,h813,hk,hN,hP⟩ Q3 p13 p23 p33
 unfold b31_0
 refine W_r (R_lss t29 t28 (R_e ?_))
 refine W_seq_if rfl (fun c4=>?_) fun c4=>?_
 ·
  have rk:=rc.rng k (by omega)
  refine W_seq_skip (W_seq_blockg fun Q5 n5 x5 y5 z5=>(W_r (R_mv t29 (R_idx (i:=k) t27 t29 (by first|omega|(simp only [List.length_replicate]; omega)|(rw [tblP_len]; omega)) rfl (R_load_pp rfl rfl (R_mv rfl (R_mv rfl ?_)))))))
  refine R_e (W_t (R_mv t6 (R_mv rfl (R_mv rfl (R_idxI_ms0 (i:=((nth (rch m) (k)))) (@rfl V (V.ms 26 1 0 (m.nx.length))) (@rfl V (iV ((nth (rch m) (k))))) h26 oB rfl (by first|omega|(simp only [List.length_replicate]; omega)|(rw [tblP_len]; omega)) (by first|omega|(simp only [List.length_replicate]; omega)|(rw [tblP_len]; omega)) (R_store (vs:=[(iV ((k:Nat):Int))]) (B':=(bk 1 3 1 (List.map cI ((N).set ((((nth (rch m) (k)))).toNat) (((k:Nat):Int)))))) rfl rfl rfl h26 (stB_map (x:=(((k:Nat):Int))) (i:=((((nth (rch m) (k)))).toNat)) (by first|omega|(simp only [List.length_replicate]; omega)|(rw [tblP_len]; omega)) rfl rfl rfl rfl) (R_e ?_)))))))
  refine n5 _ _ (.done (W_t (R_addN t29 (@rfl V (iV ((1:Nat):Int))) (by first|omega|(simp only [List.length_replicate]; omega)|(rw [tblP_len]; omega)) (R_mv rfl (R_e ?_)))))
  refine p13 _ _ _ ?_ ⟨(k+1),(N.set (nth (rch m) k).toNat ((k:Nat):Int)),rfl,t1,t2,t5,t6,t27,t28,(Eq.trans (@rfl V (iV ((k+1:Nat):Int))) (by first|rfl|simp)),h1,h2,h9,(Eq.trans (@rfl Blk (bk 1 3 1 (List.map cI ((N).set ((((nth (rch m) (k)))).toNat) (((k:Nat):Int)))))) (by first|rfl|exact congrArg (List.map cI) tblP_0|(rw [← tblP_0,List.map_replicate]; done)|(rw [rn,← tblP_go (f:=tNxA m k) (z:=0) (n:=m.i.toNat) (j:=j) (by omega)]; rfl)|(rw [tbl_succ,List.map_append,ej]; first|done|rfl)|(rw [tbl_succ,ej]; first|done|rfl)|(rw [tbl_succ,eo]; first|done|rfl)|(rw [tbl_succ,List.map_append,eo]; first|done|rfl)|(simp; done))),h50,h812,h813,?_,?_,?_⟩
  · omega
  · omega
  · rw [List.length_set]; exact hN
  · exact num_next rc (by omega) hN hP
 have hnum:=num_all rc (fun j hj=>hP j (by omega))
 refine W_seq_exit (p33 _ _ _ (x2 _ _ (.done (W_r (R_fk t1 h1 (R_lk rfl h1 rfl rfl (R_build rfl rfl ?_)))))))
 refine R_alloc (i:=9) (n:=0) (m:=4) rfl (congrArg Blk.ver h9) rfl (R_store (vs:=[(iV (m.i)),(iV (0:Int)),V.nilsl,V.nilsl]) (B':=(bk 1 24 4 [[(iV (m.i)),(iV (0:Int)),V.nilsl,V.nilsl]])) rfl rfl rfl rfl (sB oB rfl rfl rfl rfl rfl) (R_e (W_seq_seq ?_)))
 refine W_seq_g (fun T H=>T 1=(V.mp 1 1 0 0)∧T 2=(V.mp 2 1 0 0)∧T 6=(V.ms 26 1 0 (m.nx.length))∧T 9=(V.mp 9 1 0 0)∧T 42=(ints (rch m))∧T 43=(iV (((rch m).length:Nat):Int))∧T 44=(iV (0:Int))∧H 1=(bk 1 24 4 [[(iV (m.i)),(iV (m.s)),(intss m.nx),(intss m.ot)]])∧H 2=(bk 1 24 4 [[(iV (0:Int)),(iV (0:Int)),V.nilsl,V.nilsl]])∧H 9=(bk 1 24 4 [[(iV (m.i)),(iV (0:Int)),V.nilsl,V.nilsl]])∧H 26=(bk 1 3 1 (List.map cI (N)))∧H 50=(⟨0,false,false,0,0,[]⟩:Blk)∧H 812=(⟨0,false,false,0,0,[]⟩:Blk)∧H 813=(⟨0,false,false,0,0,[]⟩:Blk)∧True) ?_ ?_
 ·
  refine R_mv t5 (R_len rfl (R_mv rfl ?_))
  exact R_nil ⟨t1,t2,t6,rfl,rfl,rfl,rfl,h1,h2,rfl,h26,h50,h812,h813,trivial⟩
 intro T H ⟨t1,t2,t6,t9,t42,t43,t44,h1,h2,h9,h26,h50,h812,h813,_⟩
 refine .lazyCell 812 38 1 9 0 2 [(iV (m.i)),(iV (0:Int)),V.nilsl,V.nilsl] (by decide) (by rw [h9]; rfl) (by rw [h9]; rfl) rfl (fork_ (R:=fun T H=>T 1=(V.mp 1 1 0 0)∧T 2=(V.mp 2 1 0 0)∧T 6=(V.ms 26 1 0 (m.nx.length))∧T 9=(V.mp 9 1 0 0)∧T 42=(ints (rch m))∧T 43=(iV (((rch m).length:Nat):Int))∧T 44=(iV (0:Int))∧H 1=(bk 1 24 4 [[(iV (m.i)),(iV (m.s)),(intss m.nx),(intss m.ot)]])∧H 2=(bk 1 24 4 [[(iV (0:Int)),(iV (0:Int)),V.nilsl,V.nilsl]])∧H 9=(bk 1 24 4 [[(iV (m.i)),(iV (0:Int)),(V.ms 812 1 0 (0)),V.nilsl]])∧H 26=(bk 1 3 1 (List.map cI (N)))∧H 50=(⟨0,false,false,0,0,[]⟩:Blk)∧H 812=(bz 1 38 1 [])∧H 813=(⟨0,false,false,0,0,[]⟩:Blk)∧True) ⟨t1,t2,t6,t9,t42,t43,t44,((upd_ne _ _ (by decide)).trans ((upd_ne _ _ (by decide)).trans h1)),((upd_ne _ _ (by decide)).trans ((upd_ne _ _ (by decide)).trans h2)),(by rw [upd_same,h9,(congrArg Blk.ver h812)]; rfl),((upd_ne _ _ (by decide)).trans ((upd_ne _ _ (by decide)).trans h26)),((upd_ne _ _ (by decide)).trans ((upd_ne _ _ (by decide)).trans h50)),(by rw [upd_ne _ _ (by decide),upd_same,(congrArg Blk.ver h812)]),((upd_ne _ _ (by decide)).trans ((upd_ne _ _ (by decide)).trans h813)),trivial⟩ ?_)
 intro T H ⟨t1,t2,t6,t9,t42,t43,t44,h1,h2,h9,h26,h50,h812,h813,_⟩
 refine .lazyCell 813 38 1 9 0 3 [(iV (m.i)),(iV (0:Int)),(V.ms 812 1 0 (0)),V.nilsl] (by decide) (by rw [h9]; rfl) (by rw [h9]; rfl) rfl (.done ?_)
 refine fork_ (R:=fun T H=>T 1=(V.mp 1 1 0 0)∧T 2=(V.mp 2 1 0 0)∧T 6=(V.ms 26 1 0 (m.nx.length))∧T 9=(V.mp 9 1 0 0)∧T 42=(ints (rch m))∧T 43=(iV (((rch m).length:Nat):Int))∧T 44=(iV (0:Int))∧H 1=(bk 1 24 4 [[(iV (m.i)),(iV (m.s)),(intss m.nx),(intss m.ot)]])∧H 2=(bk 1 24 4 [[(iV (0:Int)),(iV (0:Int)),V.nilsl,V.nilsl]])∧H 9=(bk 1 24 4 [[(iV (m.i)),(iV (0:Int)),(V.ms 812 1 0 (0)),(V.ms 813 1 0 (0))]])∧H 26=(bk 1 3 1 (List.map cI (N)))∧H 50=(⟨0,false,false,0,0,[]⟩:Blk)∧H 812=(bz 1 38 1 [])∧H 813=(bz 1 38 1 [])∧True) ⟨t1,t2,t6,t9,t42,t43,t44,((upd_ne _ _ (by decide)).trans ((upd_ne _ _ (by decide)).trans h1)),((upd_ne _ _ (by decide)).trans ((upd_ne _ _ (by decide)).trans h2)),(by rw [upd_same,h9,(congrArg Blk.ver h813)]; rfl),((upd_ne _ _ (by decide)).trans ((upd_ne _ _ (by decide)).trans h26)),((upd_ne _ _ (by decide)).trans ((upd_ne _ _ (by decide)).trans h50)),((upd_ne _ _ (by decide)).trans ((upd_ne _ _ (by decide)).trans h812)),(by rw [upd_ne _ _ (by decide),upd_same,(congrArg Blk.ver h813)]),trivial⟩ ?_
 intro T H ⟨t1,t2,t6,t9,t42,t43,t44,h1,h2,h9,h26,h50,h812,h813,_⟩
 refine W_seq_blockg fun Q6 n6 x6 y6 z6=>?_
 refine W_loop (fun mm T H=> ∃ (k:Nat) (v:Nat) (w:Nat) (v50:Nat),mm=(rch m).length - k∧T 1=(V.mp 1 1 0 0)∧T 2=(V.mp 2 1 0 0)∧T 6=(V.ms 26 1 0 (m.nx.length))∧T 9=(V.mp 9 1 0 0)∧T 42=(ints (rch m))∧T 43=(iV (((rch m).length:Nat):Int))∧T 44=(iV ((k:Nat):Int))∧H 1=(bk 1 24 4 [[(iV (m.i)),(iV (m.s)),(intss m.nx),(intss m.ot)]])∧H 2=(bk 1 24 4 [[(iV (0:Int)),(iV (0:Int)),V.nilsl,V.nilsl]])∧H 9=(bk 1 24 4 [[(iV (m.i)),(iV (0:Int)),(V.ms 812 v 0 (k)),(V.ms 813 w 0 (k))]])∧H 26=(bk 1 3 1 (List.map cI (N)))∧((H 50).ver=v50∧(H 50).live=false)∧H 812=(bz v 38 1 (List.map cL (tbl (tNx m) k)))∧H 813=(bz w 38 1 (List.map cL (tbl (tOt m) k)))∧(k≤(rch m).length)) ?_ ?_
 ·
  refine ⟨_,0,1,1,0,rfl,t1,t2,t6,t9,t42,t43,(Eq.trans t44 rfl),h1,h2,h9,h26,⟨(congrArg Blk.ver h50),congrArg Blk.live h50⟩,(Eq.trans h812 (by first|rfl|exact congrArg (List.map cI) tblP_0|(rw [← tblP_0,List.map_replicate]; done)|(rw [rn,← tblP_go (f:=tNxA m k) (z:=0) (n:=m.i.toNat) (j:=j) (by omega)]; rfl)|(rw [tbl_succ,List.map_append,ej]; first|done|rfl)|(rw [tbl_succ,ej]; first|done|rfl)|(rw [tbl_succ,eo]; first|done|rfl)|(rw [tbl_succ,List.map_append,eo]; first|done|rfl)|(simp; done))),(Eq.trans h813 (by first|rfl|exact congrArg (List.map cI) tblP_0|(rw [← tblP_0,List.map_replicate]; done)|(rw [rn,← tblP_go (f:=tNxA m k) (z:=0) (n:=m.i.toNat) (j:=j) (by omega)]; rfl)|(rw [tbl_succ,List.map_append,ej]; first|done|rfl)|(rw [tbl_succ,ej]; first|done|rfl)|(rw [tbl_succ,eo]; first|done|rfl)|(rw [tbl_succ,List.map_append,eo]; first|done|rfl)|(simp; done))),?_⟩
  · exact Nat.zero_le _
 intro mm T H ⟨k,v,w,v50,hmm,t1,t2,t6,t9,t42,t43,t44,h1,h2,h9,h26,h50,h812,h813,hk⟩ Q7 p17 p27 p37
 unfold b31_1
 refine W_r (R_lss t44 t43 (R_e ?_))
 refine W_seq_if rfl (fun c8=>?_) fun c8=>?_
 ·
  have rk:=rc.rng k (by omega)
  have rr:=mo.2.2.2.2.2.2.2 (nth (rch m) k).toNat (by omega)
  have eo:tOt m k=nth m.ot (nth (rch m) k).toNat:=tOt_row hm (by omega)
  refine W_seq_skip (W_seq_blockg fun Q9 n9 x9 y9 z9=>(W_r (R_idx (i:=k) t42 t44 (by first|omega|(simp only [List.length_replicate]; omega)|(rw [tblP_len]; omega)) rfl (R_load_pp rfl rfl (R_mv rfl (R_e (W_r ?_)))))))
  refine R_fk t1 h1 (R_lk rfl h1 rfl rfl (R_mksm (i:=50) (n:=v50) (m:=((m.i).toNat)) (q:=((m.i).toNat)) (f:=cI) (x:=0) rfl (h50).1 (Eq.trans (@rfl V (iV (m.i))) (congrArg (V.int .i64) (by first|omega|(simp only [List.length_replicate]; omega)|(rw [tblP_len]; omega)))) (Eq.trans (@rfl V (iV (m.i))) (congrArg (V.int .i64) (by first|omega|(simp only [List.length_replicate]; omega)|(rw [tblP_len]; omega)))) rfl (by first|omega|(simp only [List.length_replicate]; omega)|(rw [tblP_len]; omega)) (by first|omega|(simp only [List.length_replicate]; omega)|(rw [tblP_len]; omega)) (by first|omega|(simp only [List.length_replicate]; omega)|(rw [tblP_len]; omega)) (R_mv rfl (R_e (W_seq_seq (W_r (R_fk t1 h1 ?_)))))))
  refine R_lk rfl h1 rfl rfl (R_mv rfl (R_idxI (i:=((nth (rch m) (k)))) (@rfl V (intss m.nx)) (@rfl V (iV ((nth (rch m) (k))))) (by first|omega|(simp only [List.length_replicate]; omega)|(rw [tblP_len]; omega)) (by first|omega|(simp only [List.length_replicate]; omega)|(rw [tblP_len]; omega)) rfl (R_load_pp rfl rfl (R_len rfl (R_mv rfl (R_e (W_seq_blockg fun Q10 n10 x10 y10 z10=>?_)))))))
  refine W_loop (fun mm T H=> ∃ (j:Nat) (u:Nat),mm=m.i.toNat - j∧T 1=(V.mp 1 1 0 0)∧T 2=(V.mp 2 1 0 0)∧T 6=(V.ms 26 1 0 (m.nx.length))∧T 9=(V.mp 9 1 0 0)∧T 11=(iV ((nth (rch m) (k))))∧T 12=(V.ms 50 u 0 (m.i.toNat))∧T 42=(ints (rch m))∧T 43=(iV (((rch m).length:Nat):Int))∧T 44=(iV ((k:Nat):Int))∧T 55=(ints (nth m.nx (nth (rch m) k).toNat))∧T 56=(iV (((nth m.nx (nth (rch m) k).toNat).length:Nat):Int))∧T 57=(iV ((j:Nat):Int))∧H 1=(bk 1 24 4 [[(iV (m.i)),(iV (m.s)),(intss m.nx),(intss m.ot)]])∧H 2=(bk 1 24 4 [[(iV (0:Int)),(iV (0:Int)),V.nilsl,V.nilsl]])∧H 9=(bk 1 24 4 [[(iV (m.i)),(iV (0:Int)),(V.ms 812 v 0 (k)),(V.ms 813 w 0 (k))]])∧H 26=(bk 1 3 1 (List.map cI (N)))∧H 50=(bk u 3 1 (List.map cI (tblP (tNxA m k) 0 m.i.toNat j)))∧H 812=(bz v 38 1 (List.map cL (tbl (tNx m) k)))∧H 813=(bz w 38 1 (List.map cL (tbl (tOt m) k)))∧(j≤m.i.toNat)) ?_ ?_
  ·
   refine ⟨_,0,(v50+1),rfl,t1,t2,t6,t9,rfl,(Eq.trans (@rfl V (V.ms 50 (v50+1) 0 ((m.i).toNat))) (by first|rfl|simp)),t42,t43,t44,(Eq.trans (@rfl V (ints ((nth (m.nx) ((nth (rch m) (k))).toNat)))) (by first|rfl|simp)),(Eq.trans (@rfl V (iV ((((nth (m.nx) ((nth (rch m) (k))).toNat)).length:Nat):Int))) (by first|rfl|simp)),(Eq.trans (@rfl V (iV (0:Int))) rfl),h1,h2,h9,h26,(Eq.trans (@rfl Blk (bk (v50+1) 3 1 (List.map cI (List.replicate ((m.i).toNat) 0)))) (by first|rfl|exact congrArg (List.map cI) tblP_0|(rw [← tblP_0,List.map_replicate]; done)|(rw [rn,← tblP_go (f:=tNxA m k) (z:=0) (n:=m.i.toNat) (j:=j) (by omega)]; rfl)|(rw [tbl_succ,List.map_append,ej]; first|done|rfl)|(rw [tbl_succ,ej]; first|done|rfl)|(rw [tbl_succ,eo]; first|done|rfl)|(rw [tbl_succ,List.map_append,eo]; first|done|rfl)|(simp; done))),h812,h813,?_⟩
   · exact Nat.zero_le _
  intro mm T H ⟨j,u,hmm,t1,t2,t6,t9,t11,t12,t42,t43,t44,t55,t56,t57,h1,h2,h9,h26,h50,h812,h813,hj⟩ Q11 p111 p211 p311
  unfold b31_2
  refine W_r (R_lss t57 t56 (R_e ?_))
  refine W_seq_if rfl (fun c12=>?_) fun c12=>?_
  ·
   have rj:=rr.2.2 j (by omega)
   have rin:=rc.clo k (by omega) _ (nth_mem (show j < (nth m.nx (nth (rch m) k).toNat).length by omega))
   have rn:=hnum _ rin
   refine W_seq_skip (W_seq_blockg fun Q13 n13 x13 y13 z13=>(W_r (R_mv t57 (R_idx (i:=j) t55 t57 (by first|omega|(simp only [List.length_replicate]; omega)|(rw [tblP_len]; omega)) rfl (R_load_pp rfl rfl (R_mv rfl (R_mv rfl ?_)))))))
   refine R_e (W_t (R_mv t12 (R_mv rfl (R_mv t6 (R_mv rfl (R_idxI_ms0 (i:=((nth (nth m.nx (nth (rch m) k).toNat) (j)))) (@rfl V (V.ms 26 1 0 (m.nx.length))) (@rfl V (iV ((nth (nth m.nx (nth (rch m) k).toNat) (j))))) h26 oB rfl (by first|omega|(simp only [List.length_replicate]; omega)|(rw [tblP_len]; omega)) (by first|omega|(simp only [List.length_replicate]; omega)|(rw [tblP_len]; omega)) (R_load_mp (v:=(iV ((nth (N) ((((nth (nth m.nx (nth (rch m) k).toNat) (j)))).toNat))))) rfl h26 (ldB_map (by first|omega|(simp only [List.length_replicate]; omega)|(rw [tblP_len]; omega)) (by first|rfl|(rw [cF_eq]; rfl)|simp [ldV,V.one])) ?_)))))))
   refine R_idx_ms0 (i:=j) (@rfl V (V.ms 50 u 0 (m.i.toNat))) (@rfl V (iV ((j:Nat):Int))) h50 oB rfl (by first|omega|(simp only [List.length_replicate]; omega)|(rw [tblP_len]; omega)) (R_store (vs:=[(iV ((nth (N) ((((nth (nth m.nx (nth (rch m) k).toNat) (j)))).toNat))))]) (B':=(bk u 3 1 (List.map cI ((tblP (tNxA m k) 0 m.i.toNat j).set j (((nth (N) ((((nth (nth m.nx (nth (rch m) k).toNat) (j)))).toNat)))))))) rfl rfl rfl h50 (stB_map (x:=(((nth (N) ((((nth (nth m.nx (nth (rch m) k).toNat) (j)))).toNat))))) (i:=j) (by first|omega|(simp only [List.length_replicate]; omega)|(rw [tblP_len]; omega)) rfl rfl rfl rfl) (R_e (n13 _ _ (.done (W_t (R_addN t57 (@rfl V (iV ((1:Nat):Int))) (by first|omega|(simp only [List.length_replicate]; omega)|(rw [tblP_len]; omega)) (R_mv rfl ?_)))))))
   refine R_e ?_
   refine p111 _ _ _ ?_ ⟨(j+1),u,rfl,t1,t2,t6,t9,t11,t12,t42,t43,t44,t55,t56,(Eq.trans (@rfl V (iV ((j+1:Nat):Int))) (by first|rfl|simp)),h1,h2,h9,h26,(Eq.trans (@rfl Blk (bk u 3 1 (List.map cI ((tblP (tNxA m k) 0 m.i.toNat j).set j (((nth (N) ((((nth (nth m.nx (nth (rch m) k).toNat) (j)))).toNat)))))))) (by first|rfl|exact congrArg (List.map cI) tblP_0|(rw [← tblP_0,List.map_replicate]; done)|(rw [rn,← tblP_go (f:=tNxA m k) (z:=0) (n:=m.i.toNat) (j:=j) (by omega)]; rfl)|(rw [tbl_succ,List.map_append,ej]; first|done|rfl)|(rw [tbl_succ,ej]; first|done|rfl)|(rw [tbl_succ,eo]; first|done|rfl)|(rw [tbl_succ,List.map_append,eo]; first|done|rfl)|(simp; done))),h812,h813,?_⟩
   · omega
   · omega
  have ej:tblP (tNxA m k) 0 m.i.toNat j=tNx m k:=tblP_end (by omega)
  refine W_seq_exit (p311 _ _ _ (x10 _ _ (fork_ (R:=fun T H=>T 1=(V.mp 1 1 0 0)∧T 2=(V.mp 2 1 0 0)∧T 6=(V.ms 26 1 0 (m.nx.length))∧T 9=(V.mp 9 1 0 0)∧T 11=(iV ((nth (rch m) (k))))∧T 12=(V.ms 50 u 0 (m.i.toNat))∧T 42=(ints (rch m))∧T 43=(iV (((rch m).length:Nat):Int))∧T 44=(iV ((k:Nat):Int))∧T 55=(ints (nth m.nx (nth (rch m) k).toNat))∧T 56=(iV (((nth m.nx (nth (rch m) k).toNat).length:Nat):Int))∧T 57=(iV ((j:Nat):Int))∧T 58=(V.bool (decide (((j:Nat):Int) < (((nth m.nx (nth (rch m) k).toNat).length:Nat):Int))))∧H 1=(bk 1 24 4 [[(iV (m.i)),(iV (m.s)),(intss m.nx),(intss m.ot)]])∧H 2=(bk 1 24 4 [[(iV (0:Int)),(iV (0:Int)),V.nilsl,V.nilsl]])∧H 9=(bk 1 24 4 [[(iV (m.i)),(iV (0:Int)),(V.ms 812 v 0 (k)),(V.ms 813 w 0 (k))]])∧H 26=(bk 1 3 1 (List.map cI (N)))∧H 50=(bk u 3 1 (List.map cI (tblP (tNxA m k) 0 m.i.toNat j)))∧H 812=(bz v 38 1 (List.map cL (tbl (tNx m) k)))∧H 813=(bz w 38 1 (List.map cL (tbl (tOt m) k)))∧True) ⟨t1,t2,t6,t9,t11,t12,t42,t43,t44,t55,t56,t57,(@rfl V (V.bool (decide (((j:Nat):Int) < (((nth m.nx (nth (rch m) k).toNat).length:Nat):Int))))),h1,h2,h9,h26,h50,h812,h813,trivial⟩ ?_)))
  intro T H ⟨t1,t2,t6,t9,t11,t12,t42,t43,t44,t55,t56,t57,t58,h1,h2,h9,h26,h50,h812,h813,_⟩
  refine .freeze 50 (.done ?_)
  refine fork_ (R:=fun T H=>T 1=(V.mp 1 1 0 0)∧T 2=(V.mp 2 1 0 0)∧T 6=(V.ms 26 1 0 (m.nx.length))∧T 9=(V.mp 9 1 0 0)∧T 11=(iV ((nth (rch m) (k))))∧T 12=(ints (tblP (tNxA m k) 0 m.i.toNat j))∧T 42=(ints (rch m))∧T 43=(iV (((rch m).length:Nat):Int))∧T 44=(iV ((k:Nat):Int))∧T 55=(ints (nth m.nx (nth (rch m) k).toNat))∧T 56=(iV (((nth m.nx (nth (rch m) k).toNat).length:Nat):Int))∧T 57=(iV ((j:Nat):Int))∧T 58=(V.bool (decide (((j:Nat):Int) < (((nth m.nx (nth (rch m) k).toNat).length:Nat):Int))))∧H 1=(bk 1 24 4 [[(iV (m.i)),(iV (m.s)),(intss m.nx),(intss m.ot)]])∧H 2=(bk 1 24 4 [[(iV (0:Int)),(iV (0:Int)),V.nilsl,V.nilsl]])∧H 9=(bk 1 24 4 [[(iV (m.i)),(iV (0:Int)),(V.ms 812 v 0 (k)),(V.ms 813 w 0 (k))]])∧H 26=(bk 1 3 1 (List.map cI (N)))∧((H 50).ver=u∧(H 50).live=false)∧H 812=(bz v 38 1 (List.map cL (tbl (tNx m) k)))∧H 813=(bz w 38 1 (List.map cL (tbl (tOt m) k)))∧True) ⟨(fzT_q t1 rfl),(fzT_q t2 rfl),(fzT_q t6 (fzq_other (by decide))),(fzT_q t9 rfl),(fzT_q t11 rfl),(fzT_q t12 (fzq_own h50 (by first|rfl|simp) (l:=(tblP (tNxA m k) 0 m.i.toNat j)) rfl (by first|rfl|exact (tbl_len _ _).symm|simp|omega))),(fzT_q t42 rfl),(fzT_q t43 rfl),(fzT_q t44 rfl),(fzT_q t55 rfl),(fzT_q t56 rfl),(fzT_q t57 rfl),(fzT_q t58 rfl),(kill_ne h1 (by decide)),(kill_ne h2 (by decide)),(kill_ne h9 (by decide)),(kill_ne h26 (by decide)),(kill_self (congrArg Blk.ver h50)),(kill_ne h812 (by decide)),(kill_ne h813 (by decide)),trivial⟩ ?_
  intro T H ⟨t1,t2,t6,t9,t11,t12,t42,t43,t44,t55,t56,t57,t58,h1,h2,h9,h26,h50,h812,h813,_⟩
  refine W_r (R_fk t9 h9 (R_lk rfl h9 rfl rfl (R_mv t12 (R_bslice rfl rfl (R_append1 (l:=(tbl (tNx m) k)) (f:=cL) (x:=(tblP (tNxA m k) 0 m.i.toNat j)) (@rfl V (V.ms 812 v 0 (k))) h812 (by first|rfl|exact (tbl_len _ _).symm|simp|omega) (@rfl V (V.sl [[(ints (tblP (tNxA m k) 0 m.i.toNat j))]])) rfl rfl (by first|omega|(simp only [List.length_replicate]; omega)|(rw [tblP_len]; omega)) (by first|omega|(simp only [List.length_replicate]; omega)|(rw [tblP_len]; omega)) (R_fk t9 h9 (R_store (vs:=[(V.ms 812 (v+1) 0 (k+1))]) (B':=(bk 1 24 4 [[(iV (m.i)),(iV (0:Int)),(V.ms 812 (v+1) 0 (k+1)),(V.ms 813 w 0 (k))]])) rfl rfl rfl h9 (sB oB rfl rfl rfl rfl rfl) ?_)))))))
  refine R_e (W_t (R_fk t9 rfl (R_lk rfl rfl rfl rfl (R_fk t1 h1 (R_lk rfl h1 rfl rfl (R_mv t11 (R_idxI (i:=((nth (rch m) (k)))) (@rfl V (intss m.ot)) (@rfl V (iV ((nth (rch m) (k))))) (by first|omega|(simp only [List.length_replicate]; omega)|(rw [tblP_len]; omega)) (by first|omega|(simp only [List.length_replicate]; omega)|(rw [tblP_len]; omega)) rfl ?_)))))))
  refine R_load_pp rfl rfl (R_callk (clone_pure ((nth (m.ot) ((nth (rch m) (k))).toNat)) (by omega)) rfl (R_bslice rfl rfl (R_append1 (l:=(tbl (tOt m) k)) (f:=cL) (x:=(((nth (m.ot) ((nth (rch m) (k))).toNat)))) (@rfl V (V.ms 813 w 0 (k))) h813 (by first|rfl|exact (tbl_len _ _).symm|simp|omega) (@rfl V (V.sl [[(ints (((nth (m.ot) ((nth (rch m) (k))).toNat))))]])) rfl rfl (by first|omega|(simp only [List.length_replicate]; omega)|(rw [tblP_len]; omega)) (by first|omega|(simp only [List.length_replicate]; omega)|(rw [tblP_len]; omega)) (R_fk t9 rfl (R_store (vs:=[(V.ms 813 (w+1) 0 (k+1))]) (B':=(bk 1 24 4 [[(iV (m.i)),(iV (0:Int)),(V.ms 812 (v+1) 0 (k+1)),(V.ms 813 (w+1) 0 (k+1))]])) rfl rfl rfl rfl (sB oB rfl rfl rfl rfl rfl) (R_e (n9 _ _ ?_)))))))
  refine .done (W_t (R_addN t44 (@rfl V (iV ((1:Nat):Int))) (by first|omega|(simp only [List.length_replicate]; omega)|(rw [tblP_len]; omega)) (R_mv rfl (R_e ?_))))
  refine p17 _ _ _ ?_ ⟨(k+1),(v+1),(w+1),u,rfl,t1,t2,t6,t9,t42,t43,(Eq.trans (@rfl V (iV ((k+1:Nat):Int))) (by first|rfl|simp)),h1,h2,(Eq.trans (@rfl Blk (bk 1 24 4 [[(iV (m.i)),(iV (0:Int)),(V.ms 812 (v+1) 0 (k+1)),(V.ms 813 (w+1) 0 (k+1))]])) (by first|rfl|exact congrArg (List.map cI) tblP_0|(rw [← tblP_0,List.map_replicate]; done)|(rw [rn,← tblP_go (f:=tNxA m k) (z:=0) (n:=m.i.toNat) (j:=j) (by omega)]; rfl)|(rw [tbl_succ,List.map_append,ej]; first|done|rfl)|(rw [tbl_succ,ej]; first|done|rfl)|(rw [tbl_succ,eo]; first|done|rfl)|(rw [tbl_succ,List.map_append,eo]; first|done|rfl)|(simp; done))),h26,h50,(Eq.trans (@rfl Blk (bz (v+1) 38 1 (List.map cL (tbl (tNx m) k++[tblP (tNxA m k) 0 m.i.toNat j])))) (by first|rfl|exact congrArg (List.map cI) tblP_0|(rw [← tblP_0,List.map_replicate]; done)|(rw [rn,← tblP_go (f:=tNxA m k) (z:=0) (n:=m.i.toNat) (j:=j) (by omega)]; rfl)|(rw [tbl_succ,List.map_append,ej]; first|done|rfl)|(rw [tbl_succ,ej]; first|done|rfl)|(rw [tbl_succ,eo]; first|done|rfl)|(rw [tbl_succ,List.map_append,eo]; first|done|rfl)|(simp; done))),(Eq.trans (@rfl Blk (bz (w+1) 38 1 (List.map cL (tbl (tOt m) k++[((nth (m.ot) ((nth (rch m) (k))).toNat))])))) (by first|rfl|exact congrArg (List.map cI) tblP_0|(rw [← tblP_0,List.map_replicate]; done)|(rw [rn,← tblP_go (f:=tNxA m k) (z:=0) (n:=m.i.toNat) (j:=j) (by omega)]; rfl)|(rw [tbl_succ,List.map_append,ej]; first|done|rfl)|(rw [tbl_succ,ej]; first|done|rfl)|(rw [tbl_succ,eo]; first|done|rfl)|(rw [tbl_succ,List.map_append,eo]; first|done|rfl)|(simp; done))),?_⟩
  · omega
  · omega
 refine W_seq_exit (p37 _ _ _ (x6 _ _ (.done (W_r (R_lk t9 h9 rfl rfl (R_store (vs:=[(iV (m.i)),(iV (0:Int)),(V.ms 812 v 0 (k)),(V.ms 813 w 0 (k))]) (B':=(bk 1 24 4 [[(iV (m.i)),(iV (0:Int)),(V.ms 812 v 0 (k)),(V.ms 813 w 0 (k))]])) t2 rfl rfl h2 (sB oB rfl rfl rfl rfl rfl) (R_mv rfl ?_)))))))
 refine R_e (W_ret ?_)
 refine RetC_2 (resV_c (u:=(V.agg [(iV (m.i)),(iV (0:Int)),(V.ms 812 v 0 (k)),(V.ms 813 w 0 (k))])) t2 (@rfl Blk (bk 1 24 4 [[(iV (m.i)),(iV (0:Int)),(V.ms 812 v 0 (k)),(V.ms 813 w 0 (k))]])) (lB oB rfl rfl)) (resV_t (@rfl V (iV (0:Int)))) (fz_aggL (mcons (fz_int ?_) (mcons (fz_int ?_) (mcons (fz_ms h812 (by first|rfl|simp) (l:=(tbl (tNx m) k)) rfl (by first|rfl|exact (tbl_len _ _).symm|simp|omega) (fun _=>by simp) ?_) (mcons (fz_ms h813 (by first|rfl|simp) (l:=(tbl (tOt m) k)) rfl (by first|rfl|exact (tbl_len _ _).symm|simp|omega) (fun _=>by simp) ?_) rfl))))) (fz_int ?_)
 · rw [trR,if_pos hm,trm_tbl hm]; try first|rfl|(rw [show k=(rch m).length by omega]; done)|(rw [show k=(rch m).length by omega]; rfl)
 · rw [trR,if_pos hm,trm_tbl hm]; try first|rfl|(rw [show k=(rch m).length by omega]; done)|(rw [show k=(rch m).length by omega]; rfl)
 · rw [trR,if_pos hm,trm_tbl hm]; try first|rfl|(rw [show k=(rch m).length by omega]; done)|(rw [show k=(rch m).length by omega]; rfl)
 · rw [trR,if_pos hm,trm_tbl hm]; try first|rfl|(rw [show k=(rch m).length by omega]; done)|(rw [show k=(rch m).length by omega]; rfl)
 · exact hm.symm
end Go.Proofs.YtilfohjlglefjaaGreat
namespace Go.Proofs.YtilfohjlglefjaaGreat
open Go Go.Proofs
theorem idxbool_pure (l:List Bool) (b:Bool):PureC Tryz.prog 82 [(V.sl (List.map cB (l))),(V.bool b)] (iV (fi (fun j=>b==nth l j) 0 l.length)):=by
 refine pW Tryz.func82 s82_ok fun hB=>?_
 unfold s82
 dsimp only
 refine W_r (R_mv rfl (R_e (W_seq_seq (W_r (R_mv rfl (R_len rfl (R_mv rfl ?_)))))))
 refine R_e (W_seq_blockg fun Q1 n1 x1 y1 z1=>?_)
 refine W_loop (fun mm T H=> ∃ (k:Nat),mm=l.length - k∧T 0=(V.sl (List.map cB (l)))∧T 1=(V.bool b)∧T 7=(iV ((l.length:Nat):Int))∧T 8=(iV ((k:Nat):Int))∧(k≤l.length)∧(fi (fun j=>b==nth l j) 0 l.length=fi (fun j=>b==nth l j) k (l.length - k))) ?_ ?_
 ·
  refine ⟨_,0,rfl,rfl,rfl,rfl,(Eq.trans (@rfl V (iV (0:Int))) rfl),?_,?_⟩
  · omega
  · rfl
 intro mm T H ⟨k,hmm,t0,t1,t7,t8,hk,hc⟩ Q2 p12 p22 p32
 unfold b82_0
 refine W_r (R_lss t8 t7 (R_e ?_))
 refine W_seq_if rfl (fun c3=>?_) fun c3=>?_
 ·
  refine W_seq_skip (W_seq_blockg fun Q4 n4 x4 y4 z4=>(W_r (R_mv t8 (R_mv rfl (R_e (W_r (R_mv t1 ?_)))))))
  refine R_mv t0 (R_mv rfl (R_idx (i:=k) (@rfl V (V.sl (List.map cB (l)))) (@rfl V (iV ((k:Nat):Int))) (by omega) rfl (R_load_pp rfl rfl (R_beql (x:=b) (y:=((nth (l) (k)))) rfl rfl (R_e ?_)))))
  refine W_ifb rfl (fun c5=>?_) (fun c5=>?_)
  ·
   have d1:=c5
   refine W_r (R_mv rfl (R_mv rfl (R_e (W_ret (y4 _ _ (p22 _ _ (y1 _ _ ?_)))))))
   refine Ret_1 (@rfl V (iV ((k:Nat):Int))) (fz_int ?_)
   · rw [hc,fi_hit (p:=fun j=>b==nth l j) d1 (by omega)]
  have d1:=c5
  refine W_skip (n4 _ _ (.done (W_t (R_addN t8 (@rfl V (iV ((1:Nat):Int))) (by omega) (R_mv rfl (R_e ?_))))))
  refine p12 _ _ _ ?_ ⟨(k+1),rfl,t0,t1,t7,(Eq.trans (@rfl V (iV ((k+1:Nat):Int))) (by first|rfl|simp)),?_,?_⟩
  · omega
  · omega
  · rw [hc,fi_skip (p:=fun j=>b==nth l j) d1 (by omega)]
 refine W_seq_exit (p32 _ _ _ (x1 _ _ (.done (W_r (R_mv rfl (R_e (W_ret ?_)))))))
 refine Ret_1 (@rfl V (iV (-1:Int))) (fz_int ?_)
 · rw [hc,fi_end (by omega)]
theorem conbool_pure (l:List Bool) (b:Bool):PureC Tryz.prog 57 [(V.sl (List.map cB (l))),(V.bool b)] (V.bool (decide (0≤fi (fun j=>b==nth l j) 0 l.length))):=by
 refine pW Tryz.func57 s57_ok fun hB=>?_
 unfold s57
 dsimp only
 refine W_r (R_mv rfl (R_e (W_r (R_mv rfl (R_mv rfl (R_callk (idxbool_pure l b) rfl (R_geq rfl rfl ?_)))))))
 refine R_mv rfl (R_e (W_ret ?_))
 refine Ret_1 (@rfl V (V.bool (decide ((0:Int)≤(fi (fun j=>b==nth l j) 0 l.length))))) (fz_bool ?_)
 · rfl
end Go.Proofs.YtilfohjlglefjaaGreat
namespace Go.Proofs.YtilfohjlglefjaaGreat
open Go Go.Proofs
attribute [local irreducible] mksV
theorem running_E (m:M) (inp tm kk s:Int) (v u:Nat) (Hi:Heap) (hv:(Hi 902).ver=v) (hu:(Hi 895).ver=u) (hs:0≤s∧s < m.ot.length) (hi:1≤inp∧inp≤64) (ht:0≤tm∧tm≤4) (hr:inp+tm≤(nth m.ot s.toNat).length):CallOK Tryz.prog 58 [(V.agg [(iV (m.i)),(iV (m.s)),(intss m.nx),(intss m.ot),(iV (inp)),(iV (tm)),(iV (kk))]),(iV (s))] Hi (V.ms 902 (v+1) 0 (tm.toNat)) (upd (upd Hi 895 (⟨u+1,false,false,0,0,[]⟩:Blk)) 902 (bk (v+1) 4 1 (List.map cB (rnL m inp tm s.toNat)))):=by
 refine eW (k0:=893) Tryz.func58 s58_ok fun hB=>?_
 unfold s58
 dsimp only
 refine W_r (R_box (i:=895) (n:=u) (m:=7) (cs:=[(iV (m.i)),(iV (m.s)),(intss m.nx),(intss m.ot),(iV (inp)),(iV (tm)),(iV (kk))]) (by rfl) hu rfl rfl rfl (R_mv rfl (R_e (W_r (R_fk rfl rfl (R_lk rfl rfl rfl rfl ?_))))))
 refine (R_mks (i:=902) (n:=v) (m:=((tm).toNat)) (q:=((tm).toNat)) (by rfl) hv (Eq.trans (@rfl V (iV (tm))) (congrArg (V.int .i64) (by first|omega|(rw [rnP_len]; omega)))) (Eq.trans (@rfl V (iV (tm))) (congrArg (V.int .i64) (by first|omega|(rw [rnP_len]; omega)))) (by first|omega|(rw [rnP_len]; omega)) (by first|omega|(rw [rnP_len]; omega)) (by first|omega|(rw [rnP_len]; omega)) ?_)
 refine R_mv rfl (R_e (W_seq_seq (W_r (R_mv rfl (R_len_ms rfl (@rfl Blk (bk (v+1) 4 1 (List.replicate ((tm).toNat) [(V.bool false)]))) (by first|rfl|simp) (R_mv rfl (R_e ?_)))))))
 refine W_seq_blockg fun Q1 n1 x1 y1 z1=>?_
 refine W_loop (fun mm T H=> ∃ (k:Nat),mm=tm.toNat - k∧T 1=(iV (s))∧T 2=(V.mp 895 (u+1) 0 0)∧T 5=(V.ms 902 (v+1) 0 (tm.toNat))∧T 11=(iV ((tm.toNat:Nat):Int))∧T 12=(iV ((k:Nat):Int))∧(∀ j,j∉[895,902]→H j=Hi j)∧H 895=(bk (u+1) 68 7 [[(iV (m.i)),(iV (m.s)),(intss m.nx),(intss m.ot),(iV (inp)),(iV (tm)),(iV (kk))]])∧H 902=(bk (v+1) 4 1 (List.map cB (rnP m inp tm s.toNat k)))∧(k≤tm.toNat)) ?_ ?_
 ·
  refine ⟨_,0,rfl,rfl,rfl,(Eq.trans (@rfl V (V.ms 902 (v+1) 0 ((tm).toNat))) (by first|rfl|simp)),(Eq.trans (@rfl V (iV (((tm).toNat:Nat):Int))) (by first|rfl|simp)),(Eq.trans (@rfl V (iV (0:Int))) rfl),(upd_out (upd_out (fun _ _=>rfl) (by decide)) (by decide)),rfl,(Eq.trans (@rfl Blk (bk (v+1) 4 1 (List.replicate ((tm).toNat) [(V.bool false)]))) (by first|rfl|(rw [← rnP_0,List.map_replicate]; rfl)|(rw [← rnP_go (by omega)]; rfl)|(rw [← rnP_go (m:=m) (inp:=inp) (tm:=tm) (s:=s.toNat) (k:=k) (by omega)]; rfl)|(rw [e9]; done)|(rw [e9]; rfl)|simp)),?_⟩
  · exact Nat.zero_le _
 intro mm T H ⟨k,hmm,t1,t2,t5,t11,t12,hF,h895,h902,hk⟩ Q2 p12 p22 p32
 unfold b58_0
 refine W_r (R_lss t12 t11 (R_e ?_))
 refine W_seq_if rfl (fun c3=>?_) fun c3=>?_
 ·
  refine W_seq_skip (W_seq_blockg fun Q4 n4 x4 y4 z4=>(W_r (R_mv t12 (R_mv rfl (R_e (W_t (R_mv t5 ?_)))))))
  refine R_mv rfl (R_fk t2 h895 (R_fk rfl h895 (R_lk rfl h895 rfl rfl (R_mv t1 (R_idxI (i:=(s)) (@rfl V (intss m.ot)) (@rfl V (iV (s))) (by first|omega|(rw [rnP_len]; omega)) (by first|omega|(rw [rnP_len]; omega)) rfl (R_load_pp rfl rfl (R_fk t2 h895 ?_)))))))
  refine R_lk rfl h895 rfl rfl (R_mv rfl (R_add rfl rfl (by first|omega|(rw [rnP_len]; omega)) (by first|omega|(rw [rnP_len]; omega)) (R_idxI (i:=((inp)+((k:Nat):Int))) (@rfl V (ints ((nth (m.ot) (s).toNat)))) (@rfl V (iV ((inp)+((k:Nat):Int)))) (by first|omega|(rw [rnP_len]; omega)) (by first|omega|(rw [rnP_len]; omega)) rfl (R_load_pp rfl rfl (R_neq rfl rfl (R_idx_ms0 (i:=k) (@rfl V (V.ms 902 (v+1) 0 (tm.toNat))) (@rfl V (iV ((k:Nat):Int))) h902 oB rfl (by first|omega|(rw [rnP_len]; omega)) (R_store (vs:=[(V.bool (decide (((nth ((nth (m.ot) (s).toNat)) ((inp)+((k:Nat):Int)).toNat))≠(0:Int))))]) (B':=(bk (v+1) 4 1 (List.map cB ((rnP m inp tm s.toNat k).set k (decide (((nth ((nth (m.ot) (s).toNat)) ((inp)+((k:Nat):Int)).toNat))≠(0:Int))))))) rfl rfl rfl h902 (stB_map (x:=(decide (((nth ((nth (m.ot) (s).toNat)) ((inp)+((k:Nat):Int)).toNat))≠(0:Int)))) (i:=k) (by first|omega|(rw [rnP_len]; omega)) rfl rfl rfl rfl) ?_)))))))
  refine R_e (n4 _ _ (.done (W_t (R_addN t12 (@rfl V (iV ((1:Nat):Int))) (by first|omega|(rw [rnP_len]; omega)) (R_mv rfl (R_e ?_))))))
  refine p12 _ _ _ ?_ ⟨(k+1),rfl,t1,t2,t5,t11,(Eq.trans (@rfl V (iV ((k+1:Nat):Int))) (by first|rfl|simp)),(upd_out hF (by decide)),h895,(Eq.trans (@rfl Blk (bk (v+1) 4 1 (List.map cB ((rnP m inp tm s.toNat k).set k (decide (((nth ((nth (m.ot) (s).toNat)) ((inp)+((k:Nat):Int)).toNat))≠(0:Int))))))) (by first|rfl|(rw [← rnP_0,List.map_replicate]; rfl)|(rw [← rnP_go (by omega)]; rfl)|(rw [← rnP_go (m:=m) (inp:=inp) (tm:=tm) (s:=s.toNat) (k:=k) (by omega)]; rfl)|(rw [e9]; done)|(rw [e9]; rfl)|simp)),?_⟩
  · omega
  · omega
 have e9:=rnP_end (m:=m) (inp:=inp) (s:=s.toNat) (show tm.toNat≤k by omega)
 refine W_seq_exit (p32 _ _ _ (x1 _ _ (.done (W_r (R_mv t5 (R_mv rfl (R_e ?_)))))))
 refine W_ret (fork_ (R:=fun T H=>T 4=(V.ms 902 (v+1) 0 (tm.toNat))∧(∀ j,j∉[895,902]→H j=Hi j)∧H 895=(bk (u+1) 68 7 [[(iV (m.i)),(iV (m.s)),(intss m.nx),(intss m.ot),(iV (inp)),(iV (tm)),(iV (kk))]])∧H 902=(bk (v+1) 4 1 (List.map cB (rnP m inp tm s.toNat k)))∧True) ⟨(@rfl V (V.ms 902 (v+1) 0 (tm.toNat))),hF,h895,h902,trivial⟩ ?_)
 intro T H ⟨t4,hF,h895,h902,_⟩
 have fh:=FinX.fin (FinX.put (B:=(bk (v+1) 4 1 (List.map cB (rnL m inp tm s.toNat)))) (FinX.putv (n:=(u+1)) (B:=(⟨u+1,false,false,0,0,[]⟩:Blk)) (FinX.start hF) (congrArg Blk.ver h895) (by show _≤u+1; omega) rfl) h902 (FinB.eq (by first|rfl|(rw [← rnP_0,List.map_replicate]; rfl)|(rw [← rnP_go (by omega)]; rfl)|(rw [← rnP_go (m:=m) (inp:=inp) (tm:=tm) (s:=s.toNat) (k:=k) (by omega)]; rfl)|(rw [e9]; done)|(rw [e9]; rfl)|simp)))
 exact RetF_1 t4 fh (FinV.trans_eq (FinV.same fh _) rfl)
theorem running2_E (m:M) (inp tm kk s:Int) (v u:Nat) (Hi:Heap) (hv:(Hi 1002).ver=v) (hu:(Hi 995).ver=u) (hs:0≤s∧s < m.ot.length) (hi:1≤inp∧inp≤64) (ht:0≤tm∧tm≤4) (hr:inp+tm≤(nth m.ot s.toNat).length):CallOK Tryz.prog 58 [(V.agg [(iV (m.i)),(iV (m.s)),(intss m.nx),(intss m.ot),(iV (inp)),(iV (tm)),(iV (kk))]),(iV (s))] Hi (V.ms 1002 (v+1) 0 (tm.toNat)) (upd (upd Hi 995 (⟨u+1,false,false,0,0,[]⟩:Blk)) 1002 (bk (v+1) 4 1 (List.map cB (rnL m inp tm s.toNat)))):=by
 refine eW (k0:=993) Tryz.func58 s58_ok fun hB=>?_
 unfold s58
 dsimp only
 refine W_r (R_box (i:=995) (n:=u) (m:=7) (cs:=[(iV (m.i)),(iV (m.s)),(intss m.nx),(intss m.ot),(iV (inp)),(iV (tm)),(iV (kk))]) (by rfl) hu rfl rfl rfl (R_mv rfl (R_e (W_r (R_fk rfl rfl (R_lk rfl rfl rfl rfl ?_))))))
 refine (R_mks (i:=1002) (n:=v) (m:=((tm).toNat)) (q:=((tm).toNat)) (by rfl) hv (Eq.trans (@rfl V (iV (tm))) (congrArg (V.int .i64) (by first|omega|(rw [rnP_len]; omega)))) (Eq.trans (@rfl V (iV (tm))) (congrArg (V.int .i64) (by first|omega|(rw [rnP_len]; omega)))) (by first|omega|(rw [rnP_len]; omega)) (by first|omega|(rw [rnP_len]; omega)) (by first|omega|(rw [rnP_len]; omega)) ?_)
 refine R_mv rfl (R_e (W_seq_seq (W_r (R_mv rfl (R_len_ms rfl (@rfl Blk (bk (v+1) 4 1 (List.replicate ((tm).toNat) [(V.bool false)]))) (by first|rfl|simp) (R_mv rfl (R_e ?_)))))))
 refine W_seq_blockg fun Q1 n1 x1 y1 z1=>?_
 refine W_loop (fun mm T H=> ∃ (k:Nat),mm=tm.toNat - k∧T 1=(iV (s))∧T 2=(V.mp 995 (u+1) 0 0)∧T 5=(V.ms 1002 (v+1) 0 (tm.toNat))∧T 11=(iV ((tm.toNat:Nat):Int))∧T 12=(iV ((k:Nat):Int))∧(∀ j,j∉[995,1002]→H j=Hi j)∧H 995=(bk (u+1) 68 7 [[(iV (m.i)),(iV (m.s)),(intss m.nx),(intss m.ot),(iV (inp)),(iV (tm)),(iV (kk))]])∧H 1002=(bk (v+1) 4 1 (List.map cB (rnP m inp tm s.toNat k)))∧(k≤tm.toNat)) ?_ ?_
 ·
  refine ⟨_,0,rfl,rfl,rfl,(Eq.trans (@rfl V (V.ms 1002 (v+1) 0 ((tm).toNat))) (by first|rfl|simp)),(Eq.trans (@rfl V (iV (((tm).toNat:Nat):Int))) (by first|rfl|simp)),(Eq.trans (@rfl V (iV (0:Int))) rfl),(upd_out (upd_out (fun _ _=>rfl) (by decide)) (by decide)),rfl,(Eq.trans (@rfl Blk (bk (v+1) 4 1 (List.replicate ((tm).toNat) [(V.bool false)]))) (by first|rfl|(rw [← rnP_0,List.map_replicate]; rfl)|(rw [← rnP_go (by omega)]; rfl)|(rw [← rnP_go (m:=m) (inp:=inp) (tm:=tm) (s:=s.toNat) (k:=k) (by omega)]; rfl)|(rw [e9]; done)|(rw [e9]; rfl)|simp)),?_⟩
  · exact Nat.zero_le _
 intro mm T H ⟨k,hmm,t1,t2,t5,t11,t12,hF,h995,h1002,hk⟩ Q2 p12 p22 p32
 unfold b58_0
 refine W_r (R_lss t12 t11 (R_e ?_))
 refine W_seq_if rfl (fun c3=>?_) fun c3=>?_
 ·
  refine W_seq_skip (W_seq_blockg fun Q4 n4 x4 y4 z4=>(W_r (R_mv t12 (R_mv rfl (R_e (W_t (R_mv t5 ?_)))))))
  refine R_mv rfl (R_fk t2 h995 (R_fk rfl h995 (R_lk rfl h995 rfl rfl (R_mv t1 (R_idxI (i:=(s)) (@rfl V (intss m.ot)) (@rfl V (iV (s))) (by first|omega|(rw [rnP_len]; omega)) (by first|omega|(rw [rnP_len]; omega)) rfl (R_load_pp rfl rfl (R_fk t2 h995 ?_)))))))
  refine R_lk rfl h995 rfl rfl (R_mv rfl (R_add rfl rfl (by first|omega|(rw [rnP_len]; omega)) (by first|omega|(rw [rnP_len]; omega)) (R_idxI (i:=((inp)+((k:Nat):Int))) (@rfl V (ints ((nth (m.ot) (s).toNat)))) (@rfl V (iV ((inp)+((k:Nat):Int)))) (by first|omega|(rw [rnP_len]; omega)) (by first|omega|(rw [rnP_len]; omega)) rfl (R_load_pp rfl rfl (R_neq rfl rfl (R_idx_ms0 (i:=k) (@rfl V (V.ms 1002 (v+1) 0 (tm.toNat))) (@rfl V (iV ((k:Nat):Int))) h1002 oB rfl (by first|omega|(rw [rnP_len]; omega)) (R_store (vs:=[(V.bool (decide (((nth ((nth (m.ot) (s).toNat)) ((inp)+((k:Nat):Int)).toNat))≠(0:Int))))]) (B':=(bk (v+1) 4 1 (List.map cB ((rnP m inp tm s.toNat k).set k (decide (((nth ((nth (m.ot) (s).toNat)) ((inp)+((k:Nat):Int)).toNat))≠(0:Int))))))) rfl rfl rfl h1002 (stB_map (x:=(decide (((nth ((nth (m.ot) (s).toNat)) ((inp)+((k:Nat):Int)).toNat))≠(0:Int)))) (i:=k) (by first|omega|(rw [rnP_len]; omega)) rfl rfl rfl rfl) ?_)))))))
  refine R_e (n4 _ _ (.done (W_t (R_addN t12 (@rfl V (iV ((1:Nat):Int))) (by first|omega|(rw [rnP_len]; omega)) (R_mv rfl (R_e ?_))))))
  refine p12 _ _ _ ?_ ⟨(k+1),rfl,t1,t2,t5,t11,(Eq.trans (@rfl V (iV ((k+1:Nat):Int))) (by first|rfl|simp)),(upd_out hF (by decide)),h995,(Eq.trans (@rfl Blk (bk (v+1) 4 1 (List.map cB ((rnP m inp tm s.toNat k).set k (decide (((nth ((nth (m.ot) (s).toNat)) ((inp)+((k:Nat):Int)).toNat))≠(0:Int))))))) (by first|rfl|(rw [← rnP_0,List.map_replicate]; rfl)|(rw [← rnP_go (by omega)]; rfl)|(rw [← rnP_go (m:=m) (inp:=inp) (tm:=tm) (s:=s.toNat) (k:=k) (by omega)]; rfl)|(rw [e9]; done)|(rw [e9]; rfl)|simp)),?_⟩
  · omega
  · omega
 have e9:=rnP_end (m:=m) (inp:=inp) (s:=s.toNat) (show tm.toNat≤k by omega)
 refine W_seq_exit (p32 _ _ _ (x1 _ _ (.done (W_r (R_mv t5 (R_mv rfl (R_e ?_)))))))
 refine W_ret (fork_ (R:=fun T H=>T 4=(V.ms 1002 (v+1) 0 (tm.toNat))∧(∀ j,j∉[995,1002]→H j=Hi j)∧H 995=(bk (u+1) 68 7 [[(iV (m.i)),(iV (m.s)),(intss m.nx),(intss m.ot),(iV (inp)),(iV (tm)),(iV (kk))]])∧H 1002=(bk (v+1) 4 1 (List.map cB (rnP m inp tm s.toNat k)))∧True) ⟨(@rfl V (V.ms 1002 (v+1) 0 (tm.toNat))),hF,h995,h1002,trivial⟩ ?_)
 intro T H ⟨t4,hF,h995,h1002,_⟩
 have fh:=FinX.fin (FinX.put (B:=(bk (v+1) 4 1 (List.map cB (rnL m inp tm s.toNat)))) (FinX.putv (n:=(u+1)) (B:=(⟨u+1,false,false,0,0,[]⟩:Blk)) (FinX.start hF) (congrArg Blk.ver h995) (by show _≤u+1; omega) rfl) h1002 (FinB.eq (by first|rfl|(rw [← rnP_0,List.map_replicate]; rfl)|(rw [← rnP_go (by omega)]; rfl)|(rw [← rnP_go (m:=m) (inp:=inp) (tm:=tm) (s:=s.toNat) (k:=k) (by omega)]; rfl)|(rw [e9]; done)|(rw [e9]; rfl)|simp)))
 exact RetF_1 t4 fh (FinV.trans_eq (FinV.same fh _) rfl)
end Go.Proofs.YtilfohjlglefjaaGreat
namespace Go.Proofs.YtilfohjlglefjaaGreat
open Go Go.Proofs
theorem apart_pure (k o:Int) (hk:0 < k) (ho:1≤o∧o≤1048576):PureC Tryz.prog 33 [(V.agg [(iV (k))]),(iV (o))] (V.tup [(iV ((o - 1) / k)),(iV ((o - 1) % k))]):=by
 refine pW Tryz.func33 s33_ok fun hB=>?_
 unfold s33
 dsimp only
 refine W_r (R_box (i:=2) (n:=0) (m:=1) (cs:=[(iV (k))]) rfl (congrArg Blk.ver rfl) rfl rfl rfl (R_mv rfl (R_mv rfl (R_e (W_r (R_mv rfl (R_sub rfl rfl (by omega) (by omega) ?_)))))))
 refine R_fk rfl rfl (R_lk rfl rfl rfl rfl (R_quoI (x:=((o) - (1:Int))) (y:=(k)) rfl rfl (by omega) (by omega) (R_mv rfl (R_sub rfl rfl (by omega) (by omega) (R_fk rfl rfl (R_lk rfl rfl rfl rfl (R_remI (x:=((o) - (1:Int))) (y:=(k)) rfl rfl (by omega) (by omega) ?_)))))))
 refine R_mv rfl (R_mv rfl (R_e (W_ret ?_)))
 refine Ret_2 (@rfl V (iV ((((o) - (1:Int))) / ((k))))) (@rfl V (iV ((((o) - (1:Int))) % ((k))))) (fz_int ?_) (fz_int ?_)
 · rfl
 · rfl
theorem setting_pure (c:Int) (hc:0≤c∧c≤1048576):PureC Tryz.prog 34 [(iV (c))] (V.agg [(iV ((sgC c).1)),(iV ((sgC c).2))]):=by
 refine pW Tryz.func34 s34_ok fun hB=>?_
 unfold s34
 dsimp only
 refine W_r (R_alloc (i:=2) (n:=0) (m:=2) rfl (congrArg Blk.ver rfl) rfl (R_e (W_seq_seq (W_r (R_mv rfl (R_eql rfl rfl (R_e ?_)))))))
 refine W_seq_if rfl (fun c1=>?_) fun c1=>?_
 ·
  refine W_seq_seq (W_r (R_build rfl rfl (R_sk rfl rfl rfl rfl rfl rfl rfl rfl rfl (R_e (W_seq_ret ?_)))))
  refine RetC_1 (resV_c (u:=(V.agg [(iV (-1:Int)),(iV (0:Int))])) rfl (@rfl Blk (bk 1 73 2 [[(iV (-1:Int)),(iV (0:Int))]])) (lB oB rfl rfl)) (fz_agg2 (fz_int ?_) (fz_int ?_))
  · rw [show sgC c=(-1,0) from if_pos (by assumption)]
  · rw [show sgC c=(-1,0) from if_pos (by assumption)]
 refine W_seq_skip (W_r (R_mv rfl (R_sub rfl rfl (by omega) (by omega) (R_quoI (x:=((c) - (1:Int))) (y:=(1001:Int)) rfl rfl (by omega) (by omega) (R_mv rfl (R_sub rfl rfl (by omega) (by omega) (R_remI (x:=((c) - (1:Int))) (y:=(1001:Int)) rfl rfl (by omega) (by omega) ?_)))))))
 refine R_build rfl rfl (R_sk rfl rfl rfl rfl rfl rfl rfl rfl rfl (R_e (W_ret ?_)))
 refine RetC_1 (resV_c (u:=(V.agg [(iV ((((c) - (1:Int))) / ((1001:Int)))),(iV ((((c) - (1:Int))) % ((1001:Int))))])) rfl (@rfl Blk (bk 1 73 2 [[(iV ((((c) - (1:Int))) / ((1001:Int)))),(iV ((((c) - (1:Int))) % ((1001:Int))))]])) (lB oB rfl rfl)) (fz_agg2 (fz_int ?_) (fz_int ?_))
 · rw [show sgC c=((c - 1) / 1001,(c - 1) % 1001) from if_neg (by assumption)]
 · rw [show sgC c=((c - 1) / 1001,(c - 1) % 1001) from if_neg (by assumption)]
theorem eqbool_pure (a b:List Bool):PureC Tryz.prog 83 [(V.sl (List.map cB (a))),(V.sl (List.map cB (b)))] (V.bool (decide (a=b))):=by
 refine pW Tryz.func83 s83_ok fun hB=>?_
 unfold s83
 dsimp only
 refine W_r (R_mv rfl (R_e (W_seq_seq (W_r (R_mv rfl (R_len rfl (R_mv rfl ?_)))))))
 refine R_len rfl (R_neq rfl rfl (R_e ?_))
 refine W_seq_if rfl (fun c1=>?_) fun c1=>?_
 ·
  refine W_seq_seq (W_r (R_mv rfl (R_e (W_seq_ret ?_))))
  refine Ret_1 (@rfl V (V.bool false)) (fz_bool ?_)
  · exact (decide_eq_false (fun e=>by subst e; omega)).symm
 refine W_seq_skip (W_seq_seq (W_r (R_mv rfl (R_len rfl (R_mv rfl (R_e (W_seq_blockg fun Q2 n2 x2 y2 z2=>?_)))))))
 refine W_loop (fun mm T H=> ∃ (k:Nat),mm=a.length - k∧T 0=(V.sl (List.map cB (a)))∧T 1=(V.sl (List.map cB (b)))∧T 12=(iV ((a.length:Nat):Int))∧T 13=(iV ((k:Nat):Int))∧(k≤a.length)∧(a.length=b.length)∧(∀ j,j < k→nth a j=nth b j)) ?_ ?_
 ·
  refine ⟨_,0,rfl,rfl,rfl,rfl,(Eq.trans (@rfl V (iV (0:Int))) rfl),?_,?_,?_⟩
  · omega
  · omega
  · intro j hj; omega
 intro mm T H ⟨k,hmm,t0,t1,t12,t13,hk,hl,hc⟩ Q3 p13 p23 p33
 unfold b83_0
 refine W_r (R_lss t13 t12 (R_e ?_))
 refine W_seq_if rfl (fun c4=>?_) fun c4=>?_
 ·
  refine W_seq_skip (W_seq_blockg fun Q5 n5 x5 y5 z5=>(W_r (R_mv t13 (R_mv rfl (R_e (W_r (R_mv t0 ?_)))))))
  refine R_mv rfl (R_idx (i:=k) (@rfl V (V.sl (List.map cB (a)))) (@rfl V (iV ((k:Nat):Int))) (by omega) rfl (R_load_pp rfl rfl (R_mv t1 (R_mv rfl (R_idx (i:=k) (@rfl V (V.sl (List.map cB (b)))) (@rfl V (iV ((k:Nat):Int))) (by omega) rfl (R_load_pp rfl rfl (R_bneq (x:=((nth (a) (k)))) (y:=((nth (b) (k)))) rfl rfl ?_)))))))
  refine R_e ?_
  refine W_ifb rfl (fun c6=>?_) (fun c6=>?_)
  ·
   have d1:=c6
   refine W_r (R_mv rfl (R_e (W_ret (y5 _ _ (p23 _ _ (y2 _ _ ?_))))))
   refine Ret_1 (@rfl V (V.bool false)) (fz_bool ?_)
   · exact (decide_eq_false (fun e=>by subst e; exact bne_t d1 rfl)).symm
  have d1:=c6
  refine W_skip (n5 _ _ (.done (W_t (R_addN t13 (@rfl V (iV ((1:Nat):Int))) (by omega) (R_mv rfl (R_e ?_))))))
  refine p13 _ _ _ ?_ ⟨(k+1),rfl,t0,t1,t12,(Eq.trans (@rfl V (iV ((k+1:Nat):Int))) (by first|rfl|simp)),?_,?_,?_⟩
  · omega
  · omega
  · omega
  · intro j hj
    by_cases e:j=k
    · subst e; exact bne_f d1
    · exact hc j (by omega)
 refine W_seq_exit (p33 _ _ _ (x2 _ _ (.done (W_r (R_mv rfl (R_e (W_ret ?_)))))))
 refine Ret_1 (@rfl V (V.bool true)) (fz_bool ?_)
 · exact (decide_eq_true (nth_ext hl fun j hj=>hc j (by omega))).symm
theorem timed_pure (m:M) (inp tm kk:Int) (s i:Nat) (hm:MOK m) (hi:1≤inp∧inp≤64) (ht:0≤tm∧tm≤4) (hq:m.i=inp+tm) (hk:kk=sgK tm) (hs:s < m.nx.length) (hj:(i:Int) < m.i):PureC Tryz.prog 59 [(V.agg [(iV (m.i)),(iV (m.s)),(intss m.nx),(intss m.ot),(iV (inp)),(iV (tm)),(iV (kk))]),(iV ((s:Nat):Int)),(iV ((i:Nat):Int))] (V.bool (prp m inp tm s i)):=by
 refine pW Tryz.func59 s59_ok fun hB=>?_
 unfold s59
 dsimp only
 obtain ⟨m1,m2,m3,m4,m5,m6⟩:=hm
 have mr:=m6 s hs
 have mc:=mr.2.2 i hj
 have mn:=m6 (nth (nth m.nx s) i).toNat (by omega)
 have hK:0 < kk:=by rw [hk]; unfold sgK; omega
 refine W_r (R_box (i:=3) (n:=0) (m:=7) (cs:=[(iV (m.i)),(iV (m.s)),(intss m.nx),(intss m.ot),(iV (inp)),(iV (tm)),(iV (kk))]) rfl (congrArg Blk.ver rfl) rfl rfl rfl (R_mv rfl (R_e (W_r (R_fk rfl rfl (R_fk rfl rfl (R_lk rfl rfl rfl rfl ?_)))))))
 refine R_mv rfl (R_idx (i:=s) (@rfl V (intss m.ot)) (@rfl V (iV ((s:Nat):Int))) (by first|omega|(rw [rnL_len]; omega)|(rw [rn1_len]; omega)) rfl (R_load_pp rfl rfl (R_mv rfl (R_idx (i:=i) (@rfl V (ints ((nth (m.ot) (s))))) (@rfl V (iV ((i:Nat):Int))) (by first|omega|(rw [rnL_len]; omega)|(rw [rn1_len]; omega)) rfl (R_load_pp rfl rfl (R_fk rfl rfl (R_fk rfl rfl ?_)))))))
 refine R_lk rfl rfl rfl rfl (R_mv rfl (R_idx (i:=s) (@rfl V (intss m.nx)) (@rfl V (iV ((s:Nat):Int))) (by first|omega|(rw [rnL_len]; omega)|(rw [rn1_len]; omega)) rfl (R_load_pp rfl rfl (R_mv rfl (R_idx (i:=i) (@rfl V (ints ((nth (m.nx) (s))))) (@rfl V (iV ((i:Nat):Int))) (by first|omega|(rw [rnL_len]; omega)|(rw [rn1_len]; omega)) rfl (R_load_pp rfl rfl (R_mv rfl ?_)))))))
 refine R_mv rfl (R_e (W_seq_seq (W_r (R_mv rfl (R_eql rfl rfl (R_e ?_))))))
 refine W_seq_if rfl (fun c1=>?_) fun c1=>?_
 ·
  have d1:=c1
  refine W_seq_seq (W_r (R_mv rfl (R_fk rfl rfl (R_lk rfl rfl rfl rfl (R_geq rfl rfl (R_mv rfl ?_))))))
  refine Ops_seg 4 (fun T H=>T 41=(V.bool (decide (((inp)≤((i:Nat):Int))∧(((nth ((nth (m.nx) (s))) (i)))=((s:Nat):Int)))))∧H 3=(bk 1 68 7 [[(iV (m.i)),(iV (m.s)),(intss m.nx),(intss m.ot),(iV (inp)),(iV (tm)),(iV (kk))]])∧H 12=(⟨0,false,false,0,0,[]⟩:Blk)∧H 895=(⟨0,false,false,0,0,[]⟩:Blk)∧H 902=(⟨0,false,false,0,0,[]⟩:Blk)∧H 995=(⟨0,false,false,0,0,[]⟩:Blk)∧H 1002=(⟨0,false,false,0,0,[]⟩:Blk)∧True) ?_ ?_
  ·
   by_cases g2:(inp)≤((i:Nat):Int)
   ·
    refine G_yes (edT g2 rfl) (R_mv rfl (G_yes (edT g2 rfl) (R_mv rfl (G_yes (edT g2 rfl) (R_eql rfl rfl (R_pickT (edT g2 rfl) rfl ?_))))))
    exact ⟨(dec_andT g2),rfl,rfl,rfl,rfl,rfl,rfl,trivial⟩
   ·
    refine G_n (edF g2 rfl) (G_n (edF g2 rfl) (G_n (edF g2 rfl) (R_pickF (edF g2 rfl) rfl ?_)))
    exact ⟨(dec_andF g2),rfl,rfl,rfl,rfl,rfl,rfl,trivial⟩
  intro T H ⟨t41,h3,h12,h895,h902,h995,h1002,_⟩
  refine R_mv t41 (R_e (W_seq_ret ?_))
  refine Ret_1 (@rfl V (V.bool (decide (((inp)≤((i:Nat):Int))∧(((nth ((nth (m.nx) (s))) (i)))=((s:Nat):Int)))))) (fz_bool ?_)
  · unfold prp; rw [if_pos d1,Bool.decide_and]
 have d1:=c1
 have ec:((nth (nth m.ot s) i) - 1) % kk=oCd tm (nth (nth m.ot s) i):=by unfold oCd; rw [if_pos (by omega),hk]
 have eg:sgC (((nth (nth m.ot s) i) - 1) % kk)=oSg tm (nth (nth m.ot s) i):=by unfold oSg; rw [ec]
 refine W_seq_skip (W_r (R_lk rfl rfl rfl rfl (R_mv rfl (R_callE (evcons rfl (evcons rfl evnil)) (running_E m inp tm kk (((s:Nat):Int)) 0 0 _ (congrArg Blk.ver rfl) (congrArg Blk.ver rfl) ⟨by omega,by omega⟩ hi ht (by first|omega|(rw [show ((s:Nat):Int).toNat=s from rfl]; omega))) (R_mv rfl (R_e (W_seq_seq ?_)))))))
 refine W_r (R_mv rfl (R_fk rfl rfl (R_lk rfl rfl rfl rfl (R_geq rfl rfl (R_e ?_)))))
 refine W_seq_J (fun T H=>T 3=(V.mp 3 1 0 0)∧T 7=(iV ((nth ((nth (m.ot) (s))) (i))))∧T 8=(iV ((nth ((nth (m.nx) (s))) (i))))∧T 9=(V.ms 902 1 0 (tm.toNat))∧H 3=(bk 1 68 7 [[(iV (m.i)),(iV (m.s)),(intss m.nx),(intss m.ot),(iV (inp)),(iV (tm)),(iV (kk))]])∧H 12=(⟨0,false,false,0,0,[]⟩:Blk)∧H 895=(⟨1,false,false,0,0,[]⟩:Blk)∧H 902=(bk 1 4 1 (List.map cB (rn1 m inp tm s i)))∧H 995=(⟨0,false,false,0,0,[]⟩:Blk)∧H 1002=(⟨0,false,false,0,0,[]⟩:Blk)∧True) (fun Q3 n3 y3 z3=>?_) ?_
 ·
  refine W_if rfl (fun c4=>?_) fun c4=>?_
  ·
   have e2:(rnL m inp tm ((s:Nat):Int).toNat).set (((i:Nat):Int) - inp).toNat false=rn1 m inp tm s i:=rn1_hi (by omega) (by omega)
   refine W_t (R_mv rfl (R_mv rfl (R_fk rfl rfl (R_lk rfl rfl rfl rfl (R_sub rfl rfl (by first|omega|(rw [rnL_len]; omega)|(rw [rn1_len]; omega)) (by first|omega|(rw [rnL_len]; omega)|(rw [rn1_len]; omega)) (R_idxI_ms0 (i:=(((i:Nat):Int) - (inp))) (@rfl V (V.ms 902 1 0 (tm.toNat))) (@rfl V (iV (((i:Nat):Int) - (inp)))) (@rfl Blk (bk 1 4 1 (List.map cB (rnL m inp tm (((s:Nat):Int)).toNat)))) oB rfl (by first|omega|(rw [rnL_len]; omega)|(rw [rn1_len]; omega)) (by first|omega|(rw [rnL_len]; omega)|(rw [rn1_len]; omega)) (R_store (vs:=[(V.bool false)]) (B':=(bk 1 4 1 (List.map cB ((rnL m inp tm (((s:Nat):Int)).toNat).set (((((i:Nat):Int) - (inp))).toNat) false)))) rfl rfl rfl (@rfl Blk (bk 1 4 1 (List.map cB (rnL m inp tm (((s:Nat):Int)).toNat)))) (stB_map (x:=false) (i:=(((((i:Nat):Int) - (inp))).toNat)) (by first|omega|(rw [rnL_len]; omega)|(rw [rn1_len]; omega)) rfl rfl rfl rfl) ?_)))))))
   refine R_e ?_
   exact n3 _ _ ⟨rfl,rfl,rfl,rfl,rfl,rfl,rfl,(Eq.trans (@rfl Blk (bk 1 4 1 (List.map cB ((rnL m inp tm (((s:Nat):Int)).toNat).set (((((i:Nat):Int) - (inp))).toNat) false)))) (by first|rfl|(rw [e2]; rfl)|(rw [e2]; done)|simp)),rfl,rfl,trivial⟩
  have e2:rnL m inp tm ((s:Nat):Int).toNat=rn1 m inp tm s i:=rn1_lo (by omega)
  refine W_skip ?_
  exact n3 _ _ ⟨rfl,rfl,rfl,rfl,rfl,rfl,rfl,(Eq.trans (@rfl Blk (bk 1 4 1 (List.map cB (rnL m inp tm (((s:Nat):Int)).toNat)))) (by first|rfl|(rw [e2]; rfl)|(rw [e2]; done)|simp)),rfl,rfl,trivial⟩
 intro T H ⟨t3,t7,t8,t9,h3,h12,h895,h902,h995,h1002,_⟩
 refine W_r (R_fk t3 h3 (R_lk rfl h3 rfl rfl (R_mv t7 (R_callk (apart_pure ((kk)) (((nth ((nth (m.ot) (s))) (i)))) hK (by omega)) rfl (R_mv rfl (R_ext rfl rfl (R_ext rfl rfl ?_)))))))
 refine R_mv rfl (R_mv rfl (R_e (W_seq_seq (W_r (R_mv rfl (R_gtr rfl rfl (R_e ?_)))))))
 refine W_seq_if rfl (fun c5=>?_) fun c5=>?_
 ·
  have d2:0 < oCd tm (nth (nth m.ot s) i):=ec ▸ c5
  have sr:=oSg_rng ht.1 d2
  rw [← eg] at sr
  refine W_seq_seq (W_r (R_mv rfl (R_callk (setting_pure ((((((nth ((nth (m.ot) (s))) (i)))) - 1) % ((kk)))) (by have z:=emod_rng (a:=(nth (nth m.ot s) i) - 1) (k:=kk) (by omega) hK; omega)) rfl (R_alloc (i:=12) (n:=0) (m:=2) rfl (congrArg Blk.ver h12) rfl (R_sk rfl rfl rfl rfl rfl rfl rfl rfl rfl (R_e (W_seq_seq ?_)))))))
  refine W_seq_seq (W_r (R_fk rfl rfl (R_lk rfl rfl rfl rfl (R_eql rfl rfl (R_mv rfl ?_)))))
  refine Ops_seg 7 (fun T H=>T 3=(V.mp 3 1 0 0)∧T 8=(iV ((nth ((nth (m.nx) (s))) (i))))∧T 9=(V.ms 902 1 0 (tm.toNat))∧T 12=(V.mp 12 1 0 0)∧T 76=(V.bool ((decide (((sgC ((((((nth ((nth (m.ot) (s))) (i)))) - 1) % ((kk))))).2)=(0:Int))&&((!(nth (rn1 m inp tm s i) ((((sgC ((((((nth ((nth (m.ot) (s))) (i)))) - 1) % ((kk))))).1)).toNat)))))))∧H 3=(bk 1 68 7 [[(iV (m.i)),(iV (m.s)),(intss m.nx),(intss m.ot),(iV (inp)),(iV (tm)),(iV (kk))]])∧H 12=(bk 1 73 2 [[(iV ((sgC ((((((nth ((nth (m.ot) (s))) (i)))) - 1) % ((kk))))).1)),(iV ((sgC ((((((nth ((nth (m.ot) (s))) (i)))) - 1) % ((kk))))).2))]])∧H 895=(⟨1,false,false,0,0,[]⟩:Blk)∧H 902=(bk 1 4 1 (List.map cB (rn1 m inp tm s i)))∧H 995=(⟨0,false,false,0,0,[]⟩:Blk)∧H 1002=(⟨0,false,false,0,0,[]⟩:Blk)∧True) ?_ ?_
  ·
   by_cases g6:((sgC ((((((nth ((nth (m.ot) (s))) (i)))) - 1) % ((kk))))).2)=(0:Int)
   ·
    refine G_yes (edT g6 rfl) (R_mv t9 (G_yes (edT g6 rfl) (R_fk rfl rfl (G_yes (edT g6 rfl) (R_lk rfl rfl rfl rfl (G_yes (edT g6 rfl) (R_idxI_ms0 (i:=((sgC ((((((nth ((nth (m.ot) (s))) (i)))) - 1) % ((kk))))).1)) (@rfl V (V.ms 902 1 0 (tm.toNat))) (@rfl V (iV ((sgC ((((((nth ((nth (m.ot) (s))) (i)))) - 1) % ((kk))))).1))) h902 oB rfl (by first|omega|(rw [rnL_len]; omega)|(rw [rn1_len]; omega)) (by first|omega|(rw [rnL_len]; omega)|(rw [rn1_len]; omega)) ?_)))))))
    refine G_yes (edT g6 rfl) (R_load_mp (v:=(V.bool ((nth (rn1 m inp tm s i) ((((sgC ((((((nth ((nth (m.ot) (s))) (i)))) - 1) % ((kk))))).1)).toNat))))) rfl h902 (ldB_map (by first|omega|(rw [rnL_len]; omega)|(rw [rn1_len]; omega)) (by first|rfl|(rw [cF_eq]; rfl)|simp [ldV,V.one])) (G_yes (edT g6 rfl) (R_notb rfl (R_pickT (edT g6 rfl) rfl ?_))))
    exact ⟨t3,t8,t9,rfl,(dbandT g6),h3,rfl,h895,h902,h995,h1002,trivial⟩
   ·
    refine G_n (edF g6 rfl) (G_n (edF g6 rfl) (G_n (edF g6 rfl) (G_n (edF g6 rfl) (G_n (edF g6 rfl) (G_n (edF g6 rfl) (R_pickF (edF g6 rfl) rfl ?_))))))
    exact ⟨t3,t8,t9,rfl,(dbandF g6),h3,rfl,h895,h902,h995,h1002,trivial⟩
  intro T H ⟨t3,t8,t9,t12,t76,h3,h12,h895,h902,h995,h1002,_⟩
  refine R_e ?_
  refine W_seq_ifb t76 (fun c7=>?_) (fun c7=>?_)
  ·
   have d3:=c7
   refine W_seq_seq (W_r (R_mv rfl (R_e (W_seq_ret ?_))))
   refine Ret_1 (@rfl V (V.bool false)) (fz_bool ?_)
   · refine (prp_no ht.1 d1 d2 ?_ ?_).symm
     · rw [← eg]; simp only [Bool.and_eq_true,decide_eq_true_eq] at d3; exact d3.1
     · rw [← eg]; simp only [Bool.and_eq_true,Bool.not_eq_true'] at d3; exact d3.2
  have d3:=c7
  refine W_seq_skip (W_r (R_mv t9 (R_fk t12 h12 (R_lk rfl h12 rfl rfl (R_fk t12 h12 (R_lk rfl h12 rfl rfl (R_gtr rfl rfl ?_)))))))
  refine R_idxI_ms0 (i:=((sgC ((((((nth ((nth (m.ot) (s))) (i)))) - 1) % ((kk))))).1)) (@rfl V (V.ms 902 1 0 (tm.toNat))) (@rfl V (iV ((sgC ((((((nth ((nth (m.ot) (s))) (i)))) - 1) % ((kk))))).1))) h902 oB rfl (by first|omega|(rw [rnL_len]; omega)|(rw [rn1_len]; omega)) (by first|omega|(rw [rnL_len]; omega)|(rw [rn1_len]; omega)) (R_store (vs:=[(V.bool (decide ((0:Int) < ((sgC ((((((nth ((nth (m.ot) (s))) (i)))) - 1) % ((kk))))).2))))]) (B':=(bk 1 4 1 (List.map cB ((rn1 m inp tm s i).set ((((sgC ((((((nth ((nth (m.ot) (s))) (i)))) - 1) % ((kk))))).1)).toNat) (decide ((0:Int) < ((sgC ((((((nth ((nth (m.ot) (s))) (i)))) - 1) % ((kk))))).2))))))) rfl rfl rfl h902 (stB_map (x:=(decide ((0:Int) < ((sgC ((((((nth ((nth (m.ot) (s))) (i)))) - 1) % ((kk))))).2)))) (i:=((((sgC ((((((nth ((nth (m.ot) (s))) (i)))) - 1) % ((kk))))).1)).toNat)) (by first|omega|(rw [rnL_len]; omega)|(rw [rn1_len]; omega)) rfl rfl rfl rfl) (R_e (W_r (R_mv t9 (R_lk t3 h3 rfl rfl (R_mv t8 (R_callE (evcons rfl (evcons rfl evnil)) (running2_E m inp tm kk (((nth ((nth (m.nx) (s))) (i)))) 0 0 _ (congrArg Blk.ver h1002) (congrArg Blk.ver h995) ⟨by omega,by omega⟩ hi ht (by first|omega|(rw [show ((s:Nat):Int).toNat=s from rfl]; omega))) ?_)))))))
  refine R_call (evcons (@rfl V (V.ms 902 1 0 (tm.toNat))) (evcons (@rfl V (V.ms 1002 1 0 (tm.toNat))) evnil)) (eqbool_pure ((rn1 m inp tm s i).set ((((sgC ((((((nth ((nth (m.ot) (s))) (i)))) - 1) % ((kk))))).1)).toNat) (decide ((0:Int) < ((sgC ((((((nth ((nth (m.ot) (s))) (i)))) - 1) % ((kk))))).2)))) (rnL m inp tm (((nth ((nth (m.nx) (s))) (i)))).toNat)) (mcons (fz_mst (@rfl Blk (bk 1 4 1 (List.map cB ((rn1 m inp tm s i).set ((((sgC ((((((nth ((nth (m.ot) (s))) (i)))) - 1) % ((kk))))).1)).toNat) (decide ((0:Int) < ((sgC ((((((nth ((nth (m.ot) (s))) (i)))) - 1) % ((kk))))).2))))))) (by first|rfl|simp) (take_map (l:=((rn1 m inp tm s i).set ((((sgC ((((((nth ((nth (m.ot) (s))) (i)))) - 1) % ((kk))))).1)).toNat) (decide ((0:Int) < ((sgC ((((((nth ((nth (m.ot) (s))) (i)))) - 1) % ((kk))))).2))))) (by first|rfl|(rw [rn1_len])|(rw [rnL_len])|(rw [List.length_set,rn1_len])|simp)) (fun _=>by simp)) (mcons (fz_mst (@rfl Blk (bk 1 4 1 (List.map cB (rnL m inp tm (((nth ((nth (m.nx) (s))) (i)))).toNat)))) (by first|rfl|simp) (take_map (l:=(rnL m inp tm (((nth ((nth (m.nx) (s))) (i)))).toNat)) (by first|rfl|(rw [rn1_len])|(rw [rnL_len])|(rw [List.length_set,rn1_len])|simp)) (fun _=>by simp)) rfl)) (by simp [-List.map_take,-List.map_drop,-List.map_append,-List.map_reverse]) (Or.inr rfl) (R_mv rfl (R_e (W_ret ?_)))
  refine Ret_1 (@rfl V (V.bool (decide (((rn1 m inp tm s i).set ((((sgC ((((((nth ((nth (m.ot) (s))) (i)))) - 1) % ((kk))))).1)).toNat) (decide ((0:Int) < ((sgC ((((((nth ((nth (m.ot) (s))) (i)))) - 1) % ((kk))))).2))))=(rnL m inp tm (((nth ((nth (m.nx) (s))) (i)))).toNat))))) (fz_bool ?_)
  · rw [prp_c ht.1 d1 d2 (fun z=>by rw [← eg] at z; rw [decide_eq_true z.1,z.2] at d3; cases d3),← eg]
 have d2:oCd tm (nth (nth m.ot s) i)=0:=by have z:=emod_rng (a:=(nth (nth m.ot s) i) - 1) (k:=kk) (by omega) hK; omega
 refine W_seq_skip (W_r (R_mv t9 (R_lk t3 h3 rfl rfl (R_mv t8 (R_callE (evcons rfl (evcons rfl evnil)) (running2_E m inp tm kk (((nth ((nth (m.nx) (s))) (i)))) 0 0 _ (congrArg Blk.ver h1002) (congrArg Blk.ver h995) ⟨by omega,by omega⟩ hi ht (by first|omega|(rw [show ((s:Nat):Int).toNat=s from rfl]; omega))) (R_call (evcons (@rfl V (V.ms 902 1 0 (tm.toNat))) (evcons (@rfl V (V.ms 1002 1 0 (tm.toNat))) evnil)) (eqbool_pure (rn1 m inp tm s i) (rnL m inp tm (((nth ((nth (m.nx) (s))) (i)))).toNat)) (mcons (fz_mst h902 (by first|rfl|simp) (take_map (l:=(rn1 m inp tm s i)) (by first|rfl|(rw [rn1_len])|(rw [rnL_len])|(rw [List.length_set,rn1_len])|simp)) (fun _=>by simp)) (mcons (fz_mst (@rfl Blk (bk 1 4 1 (List.map cB (rnL m inp tm (((nth ((nth (m.nx) (s))) (i)))).toNat)))) (by first|rfl|simp) (take_map (l:=(rnL m inp tm (((nth ((nth (m.nx) (s))) (i)))).toNat)) (by first|rfl|(rw [rn1_len])|(rw [rnL_len])|(rw [List.length_set,rn1_len])|simp)) (fun _=>by simp)) rfl)) (by simp [-List.map_take,-List.map_drop,-List.map_append,-List.map_reverse]) (Or.inr rfl) (R_mv rfl ?_)))))))
 refine R_e (W_ret ?_)
 refine Ret_1 (@rfl V (V.bool (decide ((rn1 m inp tm s i)=(rnL m inp tm (((nth ((nth (m.nx) (s))) (i)))).toNat))))) (fz_bool ?_)
 · exact (prp_c0 d1 d2).symm
theorem valid_pure (m:M) (inp tm kk:Int) (hm:MOK m) (hi:1≤inp∧inp≤64) (ht:0≤tm∧tm≤4) (hq:m.i=inp+tm) (hk:kk=sgK tm):PureC Tryz.prog 32 [(V.agg [(iV (m.i)),(iV (m.s)),(intss m.nx),(intss m.ot),(iV (inp)),(iV (tm)),(iV (kk))])] (V.bool (vldP m inp tm)):=by
 refine pW Tryz.func32 s32_ok fun hB=>?_
 unfold s32
 dsimp only
 have hm0:=hm
 obtain ⟨m1,m2,m3,m4,m5,m6⟩:=hm
 have mr:=(m6 0 (by omega)).2.1
 refine W_r (R_box (i:=1) (n:=0) (m:=7) (cs:=[(iV (m.i)),(iV (m.s)),(intss m.nx),(intss m.ot),(iV (inp)),(iV (tm)),(iV (kk))]) rfl (congrArg Blk.ver rfl) rfl rfl rfl (R_mv rfl (R_e (W_seq_seq (W_r (R_lk rfl rfl rfl rfl (R_callE (evcons rfl (evcons rfl evnil)) (running_E m inp tm kk ((0:Int)) 0 0 _ (congrArg Blk.ver rfl) (congrArg Blk.ver rfl) ⟨by omega,by omega⟩ hi ht (by first|omega|(show inp+tm≤((nth m.ot 0).length:Int); omega))) ?_)))))))
 refine R_call (evcons (@rfl V (V.ms 902 1 0 (tm.toNat))) (evcons (@rfl V (V.bool true)) evnil)) (conbool_pure (rnL m inp tm ((0:Int)).toNat) true) (mcons (fz_mst (@rfl Blk (bk 1 4 1 (List.map cB (rnL m inp tm ((0:Int)).toNat)))) (by first|rfl|simp) (take_map (l:=(rnL m inp tm ((0:Int)).toNat)) (by first|rfl|(rw [rnL_len])|simp)) (fun _=>by simp)) (mcons (fzv_canon 6 _ (by simp [-List.map_take,-List.map_drop,-List.map_append,-List.map_reverse])) rfl)) (by simp [-List.map_take,-List.map_drop,-List.map_append,-List.map_reverse]) (Or.inr rfl) (R_e ?_)
 refine W_seq_if (p:=0≤fi (fun j=>true==nth (rnL m inp tm ((0:Int)).toNat) j) 0 (rnL m inp tm ((0:Int)).toNat).length) rfl (fun c1=>?_) (fun c1=>?_)
 ·
  have d1:=c1
  refine W_seq_seq (W_r (R_mv rfl (R_e (W_seq_ret ?_))))
  refine Ret_1 (@rfl V (V.bool false)) (fz_bool ?_)
  · exact (vldP_st d1).symm
 have d0:stpB m inp tm 0=true:=stp_of c1
 refine W_seq_skip (W_seq_seq (W_r (R_fk rfl rfl (R_fk rfl rfl (R_lk rfl rfl rfl rfl (R_len rfl (R_mv rfl ?_)))))))
 refine R_e (W_seq_blockg fun Q2 n2 x2 y2 z2=>?_)
 refine W_loop (fun mm T H=> ∃ (k:Nat),mm=m.nx.length - k∧T 1=(V.mp 1 1 0 0)∧T 11=(iV ((m.nx.length:Nat):Int))∧T 12=(iV ((k:Nat):Int))∧H 1=(bk 1 68 7 [[(iV (m.i)),(iV (m.s)),(intss m.nx),(intss m.ot),(iV (inp)),(iV (tm)),(iV (kk))]])∧H 895=(⟨1,false,false,0,0,[]⟩:Blk)∧H 902=(bk 1 4 1 (List.map cB (rnL m inp tm ((0:Int)).toNat)))∧H 995=(⟨0,false,false,0,0,[]⟩:Blk)∧H 1002=(⟨0,false,false,0,0,[]⟩:Blk)∧(k≤m.nx.length)∧(∀ j,j < k→rowB m inp tm j=true)) ?_ ?_
 ·
  refine ⟨_,0,rfl,rfl,rfl,(Eq.trans (@rfl V (iV (0:Int))) rfl),rfl,rfl,rfl,rfl,rfl,?_,?_⟩
  · exact Nat.zero_le _
  · intro j hj; omega
 intro mm T H ⟨k,hmm,t1,t11,t12,h1,h895,h902,h995,h1002,hk2,hc2⟩ Q3 p13 p23 p33
 unfold b32_0
 refine W_r (R_lss t12 t11 (R_e ?_))
 refine W_seq_if rfl (fun c4=>?_) fun c4=>?_
 ·
  refine W_seq_skip (W_seq_blockg fun Q5 n5 x5 y5 z5=>(W_r (R_mv t12 (R_mv rfl (R_e (W_r (R_fk t1 h1 ?_)))))))
  refine R_fk rfl h1 (R_lk rfl h1 rfl rfl (R_mv rfl (R_e (W_block fun Q6 n6 x6 y6 z6=>?_))))
  refine W_loop (fun mm T H=> ∃ (i:Nat),mm=m.i.toNat - i∧T 1=(V.mp 1 1 0 0)∧T 3=(iV ((k:Nat):Int))∧T 11=(iV ((m.nx.length:Nat):Int))∧T 12=(iV ((k:Nat):Int))∧T 17=(iV (m.i))∧T 18=(iV ((i:Nat):Int))∧H 1=(bk 1 68 7 [[(iV (m.i)),(iV (m.s)),(intss m.nx),(intss m.ot),(iV (inp)),(iV (tm)),(iV (kk))]])∧H 895=(⟨1,false,false,0,0,[]⟩:Blk)∧H 902=(bk 1 4 1 (List.map cB (rnL m inp tm ((0:Int)).toNat)))∧H 995=(⟨0,false,false,0,0,[]⟩:Blk)∧H 1002=(⟨0,false,false,0,0,[]⟩:Blk)∧(i≤m.i.toNat)∧(∀ j,j < i→prp m inp tm k j=true)) ?_ ?_
  ·
   refine ⟨_,0,rfl,t1,rfl,t11,t12,rfl,(Eq.trans (@rfl V (iV (0:Int))) rfl),h1,h895,h902,h995,h1002,?_,?_⟩
   · exact Nat.zero_le _
   · intro j hj; omega
  intro mm T H ⟨i,hmm,t1,t3,t11,t12,t17,t18,h1,h895,h902,h995,h1002,hi2,hc3⟩ Q7 p17 p27 p37
  unfold b32_1
  refine W_r (R_lss t18 t17 (R_e ?_))
  refine W_seq_if rfl (fun c8=>?_) fun c8=>?_
  ·
   refine W_seq_skip (W_seq_blockg fun Q9 n9 x9 y9 z9=>(W_r (R_mv t18 (R_mv rfl (R_e (W_r (R_lk t1 h1 rfl rfl ?_)))))))
   refine R_mv t3 (R_mv rfl (R_callk (timed_pure m ((inp)) ((tm)) ((kk)) k i hm0 hi ht hq hk (by omega) (by omega)) rfl (R_notb rfl (R_e ?_))))
   refine W_ifb rfl (fun c10=>?_) (fun c10=>?_)
   ·
    have d7:prp m inp tm k i=false:=by simpa using c10
    refine W_r (R_mv rfl (R_e (W_ret (y9 _ _ (p27 _ _ (y6 _ _ (y5 _ _ ?_)))))))
    refine p23 _ _ (y2 _ _ ?_)
    refine Ret_1 (@rfl V (V.bool false)) (fz_bool ?_)
    · exact (vldP_f2 (k:=k) (i:=i) (by omega) (by omega) d7).symm
   have d7:prp m inp tm k i=true:=by simpa using c10
   refine W_skip (n9 _ _ (.done (W_t (R_addN t18 (@rfl V (iV ((1:Nat):Int))) (by omega) (R_mv rfl (R_e ?_))))))
   refine p17 _ _ _ ?_ ⟨(i+1),rfl,t1,t3,t11,t12,t17,(Eq.trans (@rfl V (iV ((i+1:Nat):Int))) (by first|rfl|simp)),h1,h895,h902,h995,h1002,?_,?_⟩
   · omega
   · omega
   · intro j hj
     by_cases e:j=i
     · subst e; exact d7
     · exact hc3 j (by omega)
  have d6:rowB m inp tm k=true:=all_rng.2 fun j hj=>hc3 j (by omega)
  refine W_seq_exit (p37 _ _ _ (x6 _ _ (n5 _ _ (.done (W_t (R_addN t12 (@rfl V (iV ((1:Nat):Int))) (by omega) (R_mv rfl ?_)))))))
  refine R_e ?_
  refine p13 _ _ _ ?_ ⟨(k+1),rfl,t1,t11,(Eq.trans (@rfl V (iV ((k+1:Nat):Int))) (by first|rfl|simp)),h1,h895,h902,h995,h1002,?_,?_⟩
  · omega
  · omega
  · intro j hj
    by_cases e:j=k
    · subst e; exact d6
    · exact hc2 j (by omega)
 refine W_seq_exit (p33 _ _ _ (x2 _ _ (.done (W_r (R_mv rfl (R_e (W_ret ?_)))))))
 refine Ret_1 (@rfl V (V.bool true)) (fz_bool ?_)
 · exact (vldP_t d0 (fun j hj=>hc2 j (by omega))).symm
theorem prebuild_pure (m:M) (inp tm:Int):PureC Tryz.prog 11 [(V.agg [(iV (m.i)),(iV (m.s)),(intss m.nx),(intss m.ot)]),(iV (inp)),(iV (tm))] (V.tup [(V.agg [(iV ((rbT m inp tm).i)),(iV ((rbT m inp tm).tm)),(iV ((rbT m inp tm).s)),(intss ((rbT m inp tm).nx)),(intss ((rbT m inp tm).ot)),(V.sl (List.map cSr ((rbT m inp tm).st)))]),(iV (rbE m inp tm))]):=by
 refine pW Tryz.func11 s11_ok fun hB=>?_
 unfold s11
 dsimp only
 refine W_r (R_box (i:=3) (n:=0) (m:=4) (cs:=[(iV (m.i)),(iV (m.s)),(intss m.nx),(intss m.ot)]) rfl (congrArg Blk.ver rfl) rfl rfl rfl (R_alloc (i:=6) (n:=0) (m:=6) rfl (congrArg Blk.ver rfl) rfl (R_mv rfl (R_e (W_seq_seq (W_r (R_lk rfl rfl rfl rfl ?_)))))))
 refine R_callk (mvalid_pure m) rfl (R_mv rfl (R_e (W_seq_seq (W_r (R_mv rfl (R_neq rfl rfl (R_e ?_)))))))
 refine W_seq_if rfl (fun c1=>?_) fun c1=>?_
 ·
  have d1:=c1
  refine W_seq_seq (W_r (R_build rfl rfl (R_mv rfl (R_store (vs:=[(iV (0:Int)),(iV (0:Int)),(iV (0:Int)),V.nilsl,V.nilsl,V.nilsl]) (B':=(bk 1 29 6 [[(iV (0:Int)),(iV (0:Int)),(iV (0:Int)),V.nilsl,V.nilsl,V.nilsl]])) rfl rfl rfl rfl (sB oB rfl rfl rfl rfl rfl) (R_mv rfl (R_e (W_seq_ret ?_)))))))
  refine RetC_2 (resV_c (u:=(V.agg [(iV (0:Int)),(iV (0:Int)),(iV (0:Int)),V.nilsl,V.nilsl,V.nilsl])) rfl (@rfl Blk (bk 1 29 6 [[(iV (0:Int)),(iV (0:Int)),(iV (0:Int)),V.nilsl,V.nilsl,V.nilsl]])) (lB oB rfl rfl)) (resV_t (@rfl V (iV (mval m)))) (fz_aggL (mcons (fz_int ?_) (mcons (fz_int ?_) (mcons (fz_int ?_) (mcons (fz_nil ?_) (mcons (fz_nil ?_) (mcons (fz_nil ?_) rfl))))))) (fz_int ?_)
  · rw [rbT_no (by rw [rbE_1 d1]; first|decide|exact d1)]
  · rw [rbT_no (by rw [rbE_1 d1]; first|decide|exact d1)]
  · rw [rbT_no (by rw [rbE_1 d1]; first|decide|exact d1)]
  · rw [rbT_no (by rw [rbE_1 d1]; first|decide|exact d1)]
  · rw [rbT_no (by rw [rbE_1 d1]; first|decide|exact d1)]
  · rw [rbT_no (by rw [rbE_1 d1]; first|decide|exact d1)]
  · rw [rbE_1 d1]
 have d1:=c1
 have hm:mval m=0:=by omega
 have mo:=mval_ok hm
 have rc:=rch_RC hm
 have rl:=rc.len
 have me:=mo.2.2.2.2.2.2.1
 have tk:=trm_ok hm
 rw [← trR_ok hm] at tk
 obtain ⟨k1,k2,k3,k4,k5,k6⟩:=tk
 have ti:(trR m).i=m.i:=by rw [trR_ok hm]; rfl
 refine W_seq_skip (W_seq_seq (W_r (R_mv rfl (R_lss rfl rfl (R_mv rfl ?_)))))
 refine Ops_seg 3 (fun T H=>T 1=(iV (inp))∧T 2=(iV (tm))∧T 3=(V.mp 3 1 0 0)∧T 6=(V.mp 6 1 0 0)∧T 32=(V.bool (decide (((inp) < (1:Int))∨((64:Int) < (inp)))))∧H 3=(bk 1 24 4 [[(iV (m.i)),(iV (m.s)),(intss m.nx),(intss m.ot)]])∧H 6=(bk 1 29 6 [[(iV (0:Int)),(iV (0:Int)),(iV (0:Int)),V.nilsl,V.nilsl,V.nilsl]])∧H 9=(⟨0,false,false,0,0,[]⟩:Blk)∧H 11=(⟨0,false,false,0,0,[]⟩:Blk)∧H 13=(⟨0,false,false,0,0,[]⟩:Blk)∧H 15=(⟨0,false,false,0,0,[]⟩:Blk)∧H 16=(⟨0,false,false,0,0,[]⟩:Blk)∧H 812=(⟨0,false,false,0,0,[]⟩:Blk)∧H 813=(⟨0,false,false,0,0,[]⟩:Blk)∧True) ?_ ?_
 ·
  by_cases g2:(inp) < (1:Int)
  ·
   refine G_n (edT g2 rfl) (G_n (edT g2 rfl) (R_pickT (edT g2 rfl) rfl ?_))
   exact ⟨rfl,rfl,rfl,rfl,(dec_orT g2),rfl,rfl,rfl,rfl,rfl,rfl,rfl,rfl,rfl,trivial⟩
  ·
   refine G_yes (edF g2 rfl) (R_mv rfl (G_yes (edF g2 rfl) (R_gtr rfl rfl (R_pickF (edF g2 rfl) rfl ?_))))
   exact ⟨rfl,rfl,rfl,rfl,(dec_orF g2),rfl,rfl,rfl,rfl,rfl,rfl,rfl,rfl,rfl,trivial⟩
 intro T H ⟨t1,t2,t3,t6,t32,h3,h6,h9,h11,h13,h15,h16,h812,h813,_⟩
 refine R_mv t32 ?_
 refine Ops_seg 3 (fun T H=>T 1=(iV (inp))∧T 2=(iV (tm))∧T 3=(V.mp 3 1 0 0)∧T 6=(V.mp 6 1 0 0)∧T 36=(V.bool (decide ((((inp) < (1:Int))∨((64:Int) < (inp)))∨((tm) < (0:Int)))))∧H 3=(bk 1 24 4 [[(iV (m.i)),(iV (m.s)),(intss m.nx),(intss m.ot)]])∧H 6=(bk 1 29 6 [[(iV (0:Int)),(iV (0:Int)),(iV (0:Int)),V.nilsl,V.nilsl,V.nilsl]])∧H 9=(⟨0,false,false,0,0,[]⟩:Blk)∧H 11=(⟨0,false,false,0,0,[]⟩:Blk)∧H 13=(⟨0,false,false,0,0,[]⟩:Blk)∧H 15=(⟨0,false,false,0,0,[]⟩:Blk)∧H 16=(⟨0,false,false,0,0,[]⟩:Blk)∧H 812=(⟨0,false,false,0,0,[]⟩:Blk)∧H 813=(⟨0,false,false,0,0,[]⟩:Blk)∧True) ?_ ?_
 ·
  by_cases g3:((inp) < (1:Int))∨((64:Int) < (inp))
  ·
   refine G_n (edT g3 rfl) (G_n (edT g3 rfl) (R_pickT (edT g3 rfl) rfl ?_))
   exact ⟨t1,t2,t3,t6,(dec_orT g3),h3,h6,h9,h11,h13,h15,h16,h812,h813,trivial⟩
  ·
   refine G_yes (edF g3 rfl) (R_mv t2 (G_yes (edF g3 rfl) (R_lss rfl rfl (R_pickF (edF g3 rfl) rfl ?_))))
   exact ⟨t1,t2,t3,t6,(dec_orF g3),h3,h6,h9,h11,h13,h15,h16,h812,h813,trivial⟩
 intro T H ⟨t1,t2,t3,t6,t36,h3,h6,h9,h11,h13,h15,h16,h812,h813,_⟩
 refine R_mv t36 ?_
 refine Ops_seg 3 (fun T H=>T 1=(iV (inp))∧T 2=(iV (tm))∧T 3=(V.mp 3 1 0 0)∧T 6=(V.mp 6 1 0 0)∧T 40=(V.bool (decide (((((inp) < (1:Int))∨((64:Int) < (inp)))∨((tm) < (0:Int)))∨((4:Int) < (tm)))))∧H 3=(bk 1 24 4 [[(iV (m.i)),(iV (m.s)),(intss m.nx),(intss m.ot)]])∧H 6=(bk 1 29 6 [[(iV (0:Int)),(iV (0:Int)),(iV (0:Int)),V.nilsl,V.nilsl,V.nilsl]])∧H 9=(⟨0,false,false,0,0,[]⟩:Blk)∧H 11=(⟨0,false,false,0,0,[]⟩:Blk)∧H 13=(⟨0,false,false,0,0,[]⟩:Blk)∧H 15=(⟨0,false,false,0,0,[]⟩:Blk)∧H 16=(⟨0,false,false,0,0,[]⟩:Blk)∧H 812=(⟨0,false,false,0,0,[]⟩:Blk)∧H 813=(⟨0,false,false,0,0,[]⟩:Blk)∧True) ?_ ?_
 ·
  by_cases g4:(((inp) < (1:Int))∨((64:Int) < (inp)))∨((tm) < (0:Int))
  ·
   refine G_n (edT g4 rfl) (G_n (edT g4 rfl) (R_pickT (edT g4 rfl) rfl ?_))
   exact ⟨t1,t2,t3,t6,(dec_orT g4),h3,h6,h9,h11,h13,h15,h16,h812,h813,trivial⟩
  ·
   refine G_yes (edF g4 rfl) (R_mv t2 (G_yes (edF g4 rfl) (R_gtr rfl rfl (R_pickF (edF g4 rfl) rfl ?_))))
   exact ⟨t1,t2,t3,t6,(dec_orF g4),h3,h6,h9,h11,h13,h15,h16,h812,h813,trivial⟩
 intro T H ⟨t1,t2,t3,t6,t40,h3,h6,h9,h11,h13,h15,h16,h812,h813,_⟩
 refine R_e ?_
 refine W_seq_if t40 (fun c5=>?_) fun c5=>?_
 ·
  have d2:inp < 1∨64 < inp∨tm < 0∨4 < tm:=by have q:=c5; omega
  refine W_seq_seq (W_r (R_build rfl rfl (R_store (vs:=[(iV (0:Int)),(iV (0:Int)),(iV (0:Int)),V.nilsl,V.nilsl,V.nilsl]) (B':=(bk 1 29 6 [[(iV (0:Int)),(iV (0:Int)),(iV (0:Int)),V.nilsl,V.nilsl,V.nilsl]])) t6 rfl rfl h6 (sB oB rfl rfl rfl rfl rfl) (R_mv rfl (R_e (W_seq_ret ?_))))))
  refine RetC_2 (resV_c (u:=(V.agg [(iV (0:Int)),(iV (0:Int)),(iV (0:Int)),V.nilsl,V.nilsl,V.nilsl])) t6 (@rfl Blk (bk 1 29 6 [[(iV (0:Int)),(iV (0:Int)),(iV (0:Int)),V.nilsl,V.nilsl,V.nilsl]])) (lB oB rfl rfl)) (resV_t (@rfl V (iV (2:Int)))) (fz_aggL (mcons (fz_int ?_) (mcons (fz_int ?_) (mcons (fz_int ?_) (mcons (fz_nil ?_) (mcons (fz_nil ?_) (mcons (fz_nil ?_) rfl))))))) (fz_int ?_)
  · rw [rbT_no (by rw [rbE_2 d1 d2]; first|decide|exact d1)]
  · rw [rbT_no (by rw [rbE_2 d1 d2]; first|decide|exact d1)]
  · rw [rbT_no (by rw [rbE_2 d1 d2]; first|decide|exact d1)]
  · rw [rbT_no (by rw [rbE_2 d1 d2]; first|decide|exact d1)]
  · rw [rbT_no (by rw [rbE_2 d1 d2]; first|decide|exact d1)]
  · rw [rbT_no (by rw [rbE_2 d1 d2]; first|decide|exact d1)]
  · rw [rbE_2 d1 d2]
 have d2: ¬(inp < 1∨64 < inp∨tm < 0∨4 < tm):=by have q:=c5; omega
 refine W_seq_skip (W_seq_seq (W_r (R_fk t3 h3 (R_lk rfl h3 rfl rfl (R_mv t1 (R_mv t2 (R_add rfl rfl (by omega) (by omega) ?_)))))))
 refine R_neq rfl rfl (R_e ?_)
 refine W_seq_if rfl (fun c6=>?_) fun c6=>?_
 ·
  have d3:=c6
  refine W_seq_seq (W_r (R_build rfl rfl (R_store (vs:=[(iV (0:Int)),(iV (0:Int)),(iV (0:Int)),V.nilsl,V.nilsl,V.nilsl]) (B':=(bk 1 29 6 [[(iV (0:Int)),(iV (0:Int)),(iV (0:Int)),V.nilsl,V.nilsl,V.nilsl]])) t6 rfl rfl h6 (sB oB rfl rfl rfl rfl rfl) (R_mv rfl (R_e (W_seq_ret ?_))))))
  refine RetC_2 (resV_c (u:=(V.agg [(iV (0:Int)),(iV (0:Int)),(iV (0:Int)),V.nilsl,V.nilsl,V.nilsl])) t6 (@rfl Blk (bk 1 29 6 [[(iV (0:Int)),(iV (0:Int)),(iV (0:Int)),V.nilsl,V.nilsl,V.nilsl]])) (lB oB rfl rfl)) (resV_t (@rfl V (iV (15:Int)))) (fz_aggL (mcons (fz_int ?_) (mcons (fz_int ?_) (mcons (fz_int ?_) (mcons (fz_nil ?_) (mcons (fz_nil ?_) (mcons (fz_nil ?_) rfl))))))) (fz_int ?_)
  · rw [rbT_no (by rw [rbE_3 d1 d2 d3]; first|decide|exact d1)]
  · rw [rbT_no (by rw [rbE_3 d1 d2 d3]; first|decide|exact d1)]
  · rw [rbT_no (by rw [rbE_3 d1 d2 d3]; first|decide|exact d1)]
  · rw [rbT_no (by rw [rbE_3 d1 d2 d3]; first|decide|exact d1)]
  · rw [rbT_no (by rw [rbE_3 d1 d2 d3]; first|decide|exact d1)]
  · rw [rbT_no (by rw [rbE_3 d1 d2 d3]; first|decide|exact d1)]
  · rw [rbE_3 d1 d2 d3]
 have d3:=c6
 refine W_seq_skip (W_r (R_lk t3 h3 rfl rfl (R_callk (ptrim_pure m) rfl (R_mv rfl (R_ext rfl rfl (R_ext rfl rfl (R_alloc (i:=9) (n:=0) (m:=4) rfl (congrArg Blk.ver h9) rfl ?_)))))))
 refine R_store (vs:=[(iV ((trR m).i)),(iV ((trR m).s)),(intss ((trR m).nx)),(intss ((trR m).ot))]) (B':=(bk 1 24 4 [[(iV ((trR m).i)),(iV ((trR m).s)),(intss ((trR m).nx)),(intss ((trR m).ot))]])) rfl rfl rfl rfl (sB oB rfl rfl rfl rfl rfl) (R_mv rfl (R_e (W_seq_seq (W_r (R_mv rfl (R_neq rfl rfl (R_e ?_)))))))
 refine W_seq_if rfl (fun c7=>?_) fun c7=>?_
 · exact (c1 c7).elim
 refine W_seq_skip (W_r (R_lk rfl rfl rfl rfl (R_mv t1 (R_mv t2 (R_mv t2 (R_mul rfl rfl (by omega) (by omega) (R_add rfl rfl (by omega) (by omega) ?_)))))))
 refine R_build rfl rfl (R_build rfl rfl (R_alloc (i:=11) (n:=0) (m:=7) rfl (congrArg Blk.ver h11) rfl (R_store (vs:=[(iV ((trR m).i)),(iV ((trR m).s)),(intss ((trR m).nx)),(intss ((trR m).ot)),(iV (inp)),(iV (tm)),(iV ((1:Int)+((tm)*(1001:Int))))]) (B':=(bk 1 68 7 [[(iV ((trR m).i)),(iV ((trR m).s)),(intss ((trR m).nx)),(intss ((trR m).ot)),(iV (inp)),(iV (tm)),(iV ((1:Int)+((tm)*(1001:Int))))]])) rfl rfl rfl rfl (sB oB rfl rfl rfl rfl rfl) (R_e (W_seq_seq ?_)))))
 refine W_seq_regc (fun T H=>T 1=(iV (inp))∧T 2=(iV (tm))∧T 6=(V.mp 6 1 0 0)∧T 9=(V.mp 9 1 0 0)∧T 11=(V.mp 11 1 0 0)∧T 68=(V.bool ((!vldP ((trR m)) ((inp)) ((tm)))))∧H 3=(bk 1 24 4 [[(iV (m.i)),(iV (m.s)),(intss m.nx),(intss m.ot)]])∧H 6=(bk 1 29 6 [[(iV (0:Int)),(iV (0:Int)),(iV (0:Int)),V.nilsl,V.nilsl,V.nilsl]])∧H 9=(bk 1 24 4 [[(iV ((trR m).i)),(iV ((trR m).s)),(intss ((trR m).nx)),(intss ((trR m).ot))]])∧H 11=(bk 1 68 7 [[(iV ((trR m).i)),(iV ((trR m).s)),(intss ((trR m).nx)),(intss ((trR m).ot)),(iV (inp)),(iV (tm)),(iV ((1:Int)+((tm)*(1001:Int))))]])∧H 13=(⟨0,false,false,0,0,[]⟩:Blk)∧H 15=(⟨0,false,false,0,0,[]⟩:Blk)∧H 16=(⟨0,false,false,0,0,[]⟩:Blk)∧H 812=(⟨0,false,false,0,0,[]⟩:Blk)∧H 813=(⟨0,false,false,0,0,[]⟩:Blk)∧True) ?_ ?_
 ·
  refine R_lk rfl rfl rfl rfl (R_callk (valid_pure ((trR m)) ((inp)) ((tm)) (((1:Int)+((tm)*(1001:Int)))) (trR_ok hm ▸ trm_ok hm) (by omega) (by omega) (by omega) rfl) rfl (R_notb rfl ?_))
  exact R_nil ⟨t1,t2,t6,rfl,rfl,rfl,h3,h6,rfl,rfl,h13,h15,h16,h812,h813,trivial⟩
 intro T H ⟨t1,t2,t6,t9,t11,t68,h3,h6,h9,h11,h13,h15,h16,h812,h813,_⟩
 refine W_seq_ifb t68 (fun c8=>?_) (fun c8=>?_)
 ·
  have d4:vldR m inp tm=false:=by have q:=c8; rw [trR_ok hm,vld_eq hm] at q; simpa using q
  refine W_seq_seq (W_r (R_build rfl rfl (R_store (vs:=[(iV (0:Int)),(iV (0:Int)),(iV (0:Int)),V.nilsl,V.nilsl,V.nilsl]) (B':=(bk 1 29 6 [[(iV (0:Int)),(iV (0:Int)),(iV (0:Int)),V.nilsl,V.nilsl,V.nilsl]])) t6 rfl rfl h6 (sB oB rfl rfl rfl rfl rfl) (R_mv rfl (R_e (W_seq_ret ?_))))))
  refine RetC_2 (resV_c (u:=(V.agg [(iV (0:Int)),(iV (0:Int)),(iV (0:Int)),V.nilsl,V.nilsl,V.nilsl])) t6 (@rfl Blk (bk 1 29 6 [[(iV (0:Int)),(iV (0:Int)),(iV (0:Int)),V.nilsl,V.nilsl,V.nilsl]])) (lB oB rfl rfl)) (resV_t (@rfl V (iV (1:Int)))) (fz_aggL (mcons (fz_int ?_) (mcons (fz_int ?_) (mcons (fz_int ?_) (mcons (fz_nil ?_) (mcons (fz_nil ?_) (mcons (fz_nil ?_) rfl))))))) (fz_int ?_)
  · rw [rbT_no (by rw [rbE_4 d1 d2 d3 d4]; first|decide|exact d1)]
  · rw [rbT_no (by rw [rbE_4 d1 d2 d3 d4]; first|decide|exact d1)]
  · rw [rbT_no (by rw [rbE_4 d1 d2 d3 d4]; first|decide|exact d1)]
  · rw [rbT_no (by rw [rbE_4 d1 d2 d3 d4]; first|decide|exact d1)]
  · rw [rbT_no (by rw [rbE_4 d1 d2 d3 d4]; first|decide|exact d1)]
  · rw [rbT_no (by rw [rbE_4 d1 d2 d3 d4]; first|decide|exact d1)]
  · rw [rbE_4 d1 d2 d3 d4]
 have d4:vldR m inp tm=true:=by have q:=c8; rw [trR_ok hm,vld_eq hm] at q; simpa using q
 refine W_seq_skip (W_r (R_fk t11 h11 (R_lk rfl h11 rfl rfl (R_mkm (evcons rfl evnil) evnil (R_mv rfl (R_e (W_r ?_)))))))
 refine R_mv t1 (R_mv t2 (R_fk t9 h9 (R_lk rfl h9 rfl rfl (R_build rfl rfl (R_alloc (i:=13) (n:=0) (m:=6) rfl (congrArg Blk.ver h13) rfl (R_store (vs:=[(iV (inp)),(iV (tm)),(iV (0:Int)),(intss ((trR m).nx)),V.nilsl,V.nilsl]) (B':=(bk 1 29 6 [[(iV (inp)),(iV (tm)),(iV (0:Int)),(intss ((trR m).nx)),V.nilsl,V.nilsl]])) rfl rfl rfl rfl (sB oB rfl rfl rfl rfl rfl) (R_e ?_)))))))
 refine W_seq_seq ?_
 refine W_seq_g (fun T H=>T 6=(V.mp 6 1 0 0)∧T 9=(V.mp 9 1 0 0)∧T 12=(V.fn 33 [(V.agg [(iV ((1:Int)+((tm)*(1001:Int))))])] [])∧T 13=(V.mp 13 1 0 0)∧T 80=(iV ((((trR m).nx).length:Nat):Int))∧T 81=(iV (0:Int))∧H 3=(bk 1 24 4 [[(iV (m.i)),(iV (m.s)),(intss m.nx),(intss m.ot)]])∧H 6=(bk 1 29 6 [[(iV (0:Int)),(iV (0:Int)),(iV (0:Int)),V.nilsl,V.nilsl,V.nilsl]])∧H 9=(bk 1 24 4 [[(iV ((trR m).i)),(iV ((trR m).s)),(intss ((trR m).nx)),(intss ((trR m).ot))]])∧H 11=(bk 1 68 7 [[(iV ((trR m).i)),(iV ((trR m).s)),(intss ((trR m).nx)),(intss ((trR m).ot)),(iV (inp)),(iV (tm)),(iV ((1:Int)+((tm)*(1001:Int))))]])∧H 13=(bk 1 29 6 [[(iV (inp)),(iV (tm)),(iV (0:Int)),(intss ((trR m).nx)),V.nilsl,V.nilsl]])∧H 15=(⟨0,false,false,0,0,[]⟩:Blk)∧H 16=(⟨0,false,false,0,0,[]⟩:Blk)∧H 812=(⟨0,false,false,0,0,[]⟩:Blk)∧H 813=(⟨0,false,false,0,0,[]⟩:Blk)∧True) ?_ ?_
 ·
  refine R_fk t9 h9 (R_lk rfl h9 rfl rfl (R_len rfl (R_mv rfl ?_)))
  exact R_nil ⟨t6,t9,rfl,rfl,rfl,rfl,h3,h6,h9,h11,rfl,h15,h16,h812,h813,trivial⟩
 intro T H ⟨t6,t9,t12,t13,t80,t81,h3,h6,h9,h11,h13,h15,h16,h812,h813,_⟩
 refine .lazyCell 812 38 1 13 0 4 [(iV (inp)),(iV (tm)),(iV (0:Int)),(intss ((trR m).nx)),V.nilsl,V.nilsl] (by decide) (by rw [h13]; rfl) (by rw [h13]; rfl) rfl (fork_ (R:=fun T H=>T 6=(V.mp 6 1 0 0)∧T 9=(V.mp 9 1 0 0)∧T 12=(V.fn 33 [(V.agg [(iV ((1:Int)+((tm)*(1001:Int))))])] [])∧T 13=(V.mp 13 1 0 0)∧T 80=(iV ((((trR m).nx).length:Nat):Int))∧T 81=(iV (0:Int))∧H 3=(bk 1 24 4 [[(iV (m.i)),(iV (m.s)),(intss m.nx),(intss m.ot)]])∧H 6=(bk 1 29 6 [[(iV (0:Int)),(iV (0:Int)),(iV (0:Int)),V.nilsl,V.nilsl,V.nilsl]])∧H 9=(bk 1 24 4 [[(iV ((trR m).i)),(iV ((trR m).s)),(intss ((trR m).nx)),(intss ((trR m).ot))]])∧H 11=(bk 1 68 7 [[(iV ((trR m).i)),(iV ((trR m).s)),(intss ((trR m).nx)),(intss ((trR m).ot)),(iV (inp)),(iV (tm)),(iV ((1:Int)+((tm)*(1001:Int))))]])∧H 13=(bk 1 29 6 [[(iV (inp)),(iV (tm)),(iV (0:Int)),(intss ((trR m).nx)),(V.ms 812 1 0 (0)),V.nilsl]])∧H 15=(⟨0,false,false,0,0,[]⟩:Blk)∧H 16=(⟨0,false,false,0,0,[]⟩:Blk)∧H 812=(bz 1 38 1 [])∧H 813=(⟨0,false,false,0,0,[]⟩:Blk)∧True) ⟨t6,t9,t12,t13,t80,t81,((upd_ne _ _ (by decide)).trans ((upd_ne _ _ (by decide)).trans h3)),((upd_ne _ _ (by decide)).trans ((upd_ne _ _ (by decide)).trans h6)),((upd_ne _ _ (by decide)).trans ((upd_ne _ _ (by decide)).trans h9)),((upd_ne _ _ (by decide)).trans ((upd_ne _ _ (by decide)).trans h11)),(by rw [upd_same,h13,(congrArg Blk.ver h812)]; rfl),((upd_ne _ _ (by decide)).trans ((upd_ne _ _ (by decide)).trans h15)),((upd_ne _ _ (by decide)).trans ((upd_ne _ _ (by decide)).trans h16)),(by rw [upd_ne _ _ (by decide),upd_same,(congrArg Blk.ver h812)]),((upd_ne _ _ (by decide)).trans ((upd_ne _ _ (by decide)).trans h813)),trivial⟩ ?_)
 intro T H ⟨t6,t9,t12,t13,t80,t81,h3,h6,h9,h11,h13,h15,h16,h812,h813,_⟩
 refine .lazyCell 813 70 1 13 0 5 [(iV (inp)),(iV (tm)),(iV (0:Int)),(intss ((trR m).nx)),(V.ms 812 1 0 (0)),V.nilsl] (by decide) (by rw [h13]; rfl) (by rw [h13]; rfl) rfl (.done ?_)
 refine fork_ (R:=fun T H=>T 6=(V.mp 6 1 0 0)∧T 9=(V.mp 9 1 0 0)∧T 12=(V.fn 33 [(V.agg [(iV ((1:Int)+((tm)*(1001:Int))))])] [])∧T 13=(V.mp 13 1 0 0)∧T 80=(iV ((((trR m).nx).length:Nat):Int))∧T 81=(iV (0:Int))∧H 3=(bk 1 24 4 [[(iV (m.i)),(iV (m.s)),(intss m.nx),(intss m.ot)]])∧H 6=(bk 1 29 6 [[(iV (0:Int)),(iV (0:Int)),(iV (0:Int)),V.nilsl,V.nilsl,V.nilsl]])∧H 9=(bk 1 24 4 [[(iV ((trR m).i)),(iV ((trR m).s)),(intss ((trR m).nx)),(intss ((trR m).ot))]])∧H 11=(bk 1 68 7 [[(iV ((trR m).i)),(iV ((trR m).s)),(intss ((trR m).nx)),(intss ((trR m).ot)),(iV (inp)),(iV (tm)),(iV ((1:Int)+((tm)*(1001:Int))))]])∧H 13=(bk 1 29 6 [[(iV (inp)),(iV (tm)),(iV (0:Int)),(intss ((trR m).nx)),(V.ms 812 1 0 (0)),(V.ms 813 1 0 (0))]])∧H 15=(⟨0,false,false,0,0,[]⟩:Blk)∧H 16=(⟨0,false,false,0,0,[]⟩:Blk)∧H 812=(bz 1 38 1 [])∧H 813=(bz 1 70 1 [])∧True) ⟨t6,t9,t12,t13,t80,t81,((upd_ne _ _ (by decide)).trans ((upd_ne _ _ (by decide)).trans h3)),((upd_ne _ _ (by decide)).trans ((upd_ne _ _ (by decide)).trans h6)),((upd_ne _ _ (by decide)).trans ((upd_ne _ _ (by decide)).trans h9)),((upd_ne _ _ (by decide)).trans ((upd_ne _ _ (by decide)).trans h11)),(by rw [upd_same,h13,(congrArg Blk.ver h813)]; rfl),((upd_ne _ _ (by decide)).trans ((upd_ne _ _ (by decide)).trans h15)),((upd_ne _ _ (by decide)).trans ((upd_ne _ _ (by decide)).trans h16)),((upd_ne _ _ (by decide)).trans ((upd_ne _ _ (by decide)).trans h812)),(by rw [upd_ne _ _ (by decide),upd_same,(congrArg Blk.ver h813)]),trivial⟩ ?_
 intro T H ⟨t6,t9,t12,t13,t80,t81,h3,h6,h9,h11,h13,h15,h16,h812,h813,_⟩
 refine W_seq_blockg fun Q9 n9 x9 y9 z9=>?_
 refine W_loop (fun mm T H=> ∃ (k:Nat) (v:Nat) (w:Nat) (v15:Nat) (v16:Nat),mm=(trR m).nx.length - k∧T 6=(V.mp 6 1 0 0)∧T 9=(V.mp 9 1 0 0)∧T 12=(V.fn 33 [(V.agg [(iV ((1:Int)+((tm)*(1001:Int))))])] [])∧T 13=(V.mp 13 1 0 0)∧T 80=(iV (((trR m).nx.length:Nat):Int))∧T 81=(iV ((k:Nat):Int))∧H 3=(bk 1 24 4 [[(iV (m.i)),(iV (m.s)),(intss m.nx),(intss m.ot)]])∧H 6=(bk 1 29 6 [[(iV (0:Int)),(iV (0:Int)),(iV (0:Int)),V.nilsl,V.nilsl,V.nilsl]])∧H 9=(bk 1 24 4 [[(iV ((trR m).i)),(iV ((trR m).s)),(intss ((trR m).nx)),(intss ((trR m).ot))]])∧H 11=(bk 1 68 7 [[(iV ((trR m).i)),(iV ((trR m).s)),(intss ((trR m).nx)),(intss ((trR m).ot)),(iV (inp)),(iV (tm)),(iV ((1:Int)+((tm)*(1001:Int))))]])∧H 13=(bk 1 29 6 [[(iV (inp)),(iV (tm)),(iV (0:Int)),(intss ((trR m).nx)),(V.ms 812 v 0 (k)),(V.ms 813 w 0 (k))]])∧((H 15).ver=v15∧(H 15).live=false)∧((H 16).ver=v16∧(H 16).live=false)∧H 812=(bz v 38 1 (List.map cL (tbl (rbV (trR m) tm) k)))∧H 813=(bz w 70 1 (List.map cSr (tbl (rbS (trR m) tm) k)))∧(k≤(trR m).nx.length)) ?_ ?_
 ·
  refine ⟨_,0,1,1,0,0,rfl,t6,t9,t12,t13,(Eq.trans t80 (by first|rfl|(rw [e4.1]; done)|(rw [e4.2]; done)|simp)),(Eq.trans t81 rfl),h3,h6,h9,h11,h13,⟨(congrArg Blk.ver h15),congrArg Blk.live h15⟩,⟨(congrArg Blk.ver h16),congrArg Blk.live h16⟩,(Eq.trans h812 (by first|rfl|(rw [tbl_succ,List.map_append,← ej]; first|done|rfl)|(rw [tbl_succ,List.map_append,← eo]; first|done|rfl)|(rw [tbl_succ,← ej]; first|done|rfl)|(rw [tbl_succ,← eo]; first|done|rfl)|(rw [tbl_succ]; first|done|rfl)|(rw [tbl_succ,List.map_append]; first|done|rfl)|(simp; done))),(Eq.trans h813 (by first|rfl|(rw [tbl_succ,List.map_append,← ej]; first|done|rfl)|(rw [tbl_succ,List.map_append,← eo]; first|done|rfl)|(rw [tbl_succ,← ej]; first|done|rfl)|(rw [tbl_succ,← eo]; first|done|rfl)|(rw [tbl_succ]; first|done|rfl)|(rw [tbl_succ,List.map_append]; first|done|rfl)|(simp; done))),?_⟩
  · exact Nat.zero_le _
 intro mm T H ⟨k,v,w,v15,v16,hmm,t6,t9,t12,t13,t80,t81,h3,h6,h9,h11,h13,h15,h16,h812,h813,hk⟩ Q10 p110 p210 p310
 unfold b11_0
 refine W_r (R_lss t81 t80 (R_e ?_))
 refine W_seq_if rfl (fun c11=>?_) fun c11=>?_
 ·
  have kr:=k6 k (by omega)
  refine W_seq_skip (W_seq_blockg fun Q12 n12 x12 y12 z12=>(W_r (R_mv t81 (R_mv rfl (R_e (W_r (R_lazy (i:=15) (n:=v15) rfl (h15).1 ?_)))))))
  refine R_e (W_r (R_lazy (i:=16) (n:=v16) rfl (h16).1 (R_e (W_seq_seq (W_r (R_fk t9 h9 (R_lk rfl h9 rfl rfl ?_)))))))
  refine R_mv rfl (R_idx (i:=k) (@rfl V (intss ((trR m).ot))) (@rfl V (iV ((k:Nat):Int))) (by omega) rfl (R_load_pp rfl rfl (R_len rfl (R_mv rfl (R_e (W_seq_blockg fun Q13 n13 x13 y13 z13=>?_))))))
  refine W_loop (fun mm T H=> ∃ (j:Nat) (v2:Nat) (w2:Nat),mm=(nth (trR m).ot k).length - j∧T 6=(V.mp 6 1 0 0)∧T 9=(V.mp 9 1 0 0)∧T 12=(V.fn 33 [(V.agg [(iV ((1:Int)+((tm)*(1001:Int))))])] [])∧T 13=(V.mp 13 1 0 0)∧T 15=(V.ms 15 v2 0 (j))∧T 16=(V.ms 16 w2 0 (j))∧T 80=(iV (((trR m).nx.length:Nat):Int))∧T 81=(iV ((k:Nat):Int))∧T 88=(ints (nth (trR m).ot k))∧T 89=(iV (((nth (trR m).ot k).length:Nat):Int))∧T 90=(iV ((j:Nat):Int))∧H 3=(bk 1 24 4 [[(iV (m.i)),(iV (m.s)),(intss m.nx),(intss m.ot)]])∧H 6=(bk 1 29 6 [[(iV (0:Int)),(iV (0:Int)),(iV (0:Int)),V.nilsl,V.nilsl,V.nilsl]])∧H 9=(bk 1 24 4 [[(iV ((trR m).i)),(iV ((trR m).s)),(intss ((trR m).nx)),(intss ((trR m).ot))]])∧H 11=(bk 1 68 7 [[(iV ((trR m).i)),(iV ((trR m).s)),(intss ((trR m).nx)),(intss ((trR m).ot)),(iV (inp)),(iV (tm)),(iV ((1:Int)+((tm)*(1001:Int))))]])∧H 13=(bk 1 29 6 [[(iV (inp)),(iV (tm)),(iV (0:Int)),(intss ((trR m).nx)),(V.ms 812 v 0 (k)),(V.ms 813 w 0 (k))]])∧H 15=(bz v2 3 1 (List.map cI (tbl (rbVA (trR m) tm k) j)))∧H 16=(bz w2 73 2 (List.map cSg (tbl (rbSA (trR m) tm k) j)))∧H 812=(bz v 38 1 (List.map cL (tbl (rbV (trR m) tm) k)))∧H 813=(bz w 70 1 (List.map cSr (tbl (rbS (trR m) tm) k)))∧(j≤(nth (trR m).ot k).length)) ?_ ?_
  ·
   refine ⟨_,0,(v15+1),(v16+1),rfl,t6,t9,t12,t13,(Eq.trans (@rfl V (V.ms 15 (v15+1) 0 (0))) (by first|rfl|(rw [e4.1]; done)|(rw [e4.2]; done)|simp)),(Eq.trans (@rfl V (V.ms 16 (v16+1) 0 (0))) (by first|rfl|(rw [e4.1]; done)|(rw [e4.2]; done)|simp)),t80,t81,(Eq.trans (@rfl V (ints ((nth ((trR m).ot) (k))))) (by first|rfl|(rw [e4.1]; done)|(rw [e4.2]; done)|simp)),(Eq.trans (@rfl V (iV ((((nth ((trR m).ot) (k))).length:Nat):Int))) (by first|rfl|(rw [e4.1]; done)|(rw [e4.2]; done)|simp)),(Eq.trans (@rfl V (iV (0:Int))) rfl),h3,h6,h9,h11,h13,(Eq.trans (@rfl Blk (bz (v15+1) 3 1 [])) (by first|rfl|(rw [tbl_succ,List.map_append,← ej]; first|done|rfl)|(rw [tbl_succ,List.map_append,← eo]; first|done|rfl)|(rw [tbl_succ,← ej]; first|done|rfl)|(rw [tbl_succ,← eo]; first|done|rfl)|(rw [tbl_succ]; first|done|rfl)|(rw [tbl_succ,List.map_append]; first|done|rfl)|(simp; done))),(Eq.trans (@rfl Blk (bz (v16+1) 73 2 [])) (by first|rfl|(rw [tbl_succ,List.map_append,← ej]; first|done|rfl)|(rw [tbl_succ,List.map_append,← eo]; first|done|rfl)|(rw [tbl_succ,← ej]; first|done|rfl)|(rw [tbl_succ,← eo]; first|done|rfl)|(rw [tbl_succ]; first|done|rfl)|(rw [tbl_succ,List.map_append]; first|done|rfl)|(simp; done))),h812,h813,?_⟩
   · exact Nat.zero_le _
  intro mm T H ⟨j,v2,w2,hmm,t6,t9,t12,t13,t15,t16,t80,t81,t88,t89,t90,h3,h6,h9,h11,h13,h15,h16,h812,h813,hj⟩ Q14 p114 p214 p314
  unfold b11_1
  refine W_r (R_lss t90 t89 (R_e ?_))
  refine W_seq_if rfl (fun c15=>?_) fun c15=>?_
  ·
   have kj:=kr.2.2 j (by omega)
   refine W_seq_skip (W_seq_blockg fun Q16 n16 x16 y16 z16=>(W_r (R_idx (i:=j) t88 t90 (by omega) rfl (R_load_pp rfl rfl (R_mv rfl (R_e (W_r ?_)))))))
   refine R_mv rfl (R_mv rfl (R_e (W_seq_seq (W_r (R_mv rfl (R_gtr rfl rfl (R_e ?_)))))))
   refine W_seq_J (fun T H=>T 6=(V.mp 6 1 0 0)∧T 9=(V.mp 9 1 0 0)∧T 12=(V.fn 33 [(V.agg [(iV ((1:Int)+((tm)*(1001:Int))))])] [])∧T 13=(V.mp 13 1 0 0)∧T 15=(V.ms 15 v2 0 (j))∧T 16=(V.ms 16 w2 0 (j))∧T 80=(iV (((trR m).nx.length:Nat):Int))∧T 81=(iV ((k:Nat):Int))∧T 88=(ints (nth (trR m).ot k))∧T 89=(iV (((nth (trR m).ot k).length:Nat):Int))∧T 90=(iV ((j:Nat):Int))∧T 19=(iV (oVl tm (nth (nth (trR m).ot k) j)))∧T 20=(iV (oCd tm (nth (nth (trR m).ot k) j)))∧H 3=(bk 1 24 4 [[(iV (m.i)),(iV (m.s)),(intss m.nx),(intss m.ot)]])∧H 6=(bk 1 29 6 [[(iV (0:Int)),(iV (0:Int)),(iV (0:Int)),V.nilsl,V.nilsl,V.nilsl]])∧H 9=(bk 1 24 4 [[(iV ((trR m).i)),(iV ((trR m).s)),(intss ((trR m).nx)),(intss ((trR m).ot))]])∧H 11=(bk 1 68 7 [[(iV ((trR m).i)),(iV ((trR m).s)),(intss ((trR m).nx)),(intss ((trR m).ot)),(iV (inp)),(iV (tm)),(iV ((1:Int)+((tm)*(1001:Int))))]])∧H 13=(bk 1 29 6 [[(iV (inp)),(iV (tm)),(iV (0:Int)),(intss ((trR m).nx)),(V.ms 812 v 0 (k)),(V.ms 813 w 0 (k))]])∧H 15=(bz v2 3 1 (List.map cI (tbl (rbVA (trR m) tm k) j)))∧H 16=(bz w2 73 2 (List.map cSg (tbl (rbSA (trR m) tm k) j)))∧H 812=(bz v 38 1 (List.map cL (tbl (rbV (trR m) tm) k)))∧H 813=(bz w 70 1 (List.map cSr (tbl (rbS (trR m) tm) k)))∧True) (fun Q17 n17 y17 z17=>?_) ?_
   ·
    refine W_if rfl (fun c18=>?_) fun c18=>?_
    ·
     have e4:=oVl_yes (tm:=tm) c18
     refine W_t (R_mv t12 (R_mv rfl (R_callv (@rfl V (V.fn 33 [(V.agg [(iV ((1:Int)+((tm)*(1001:Int))))])] [])) (evcons (@rfl V (iV ((nth (nth (trR m).ot k) (j))))) evnil) (apart_pure (((1:Int)+((tm)*(1001:Int)))) (((nth (nth (trR m).ot k) (j)))) (by omega) (by omega)) (fzv_mapcanon _ _ (by simp [-List.map_take,-List.map_drop,-List.map_append,-List.map_reverse])) (by simp [-List.map_take,-List.map_drop,-List.map_append,-List.map_reverse]) (Or.inl (by simp [-List.map_take,-List.map_drop,-List.map_append,-List.map_reverse])) (R_mv rfl (R_ext rfl rfl (R_ext rfl rfl (R_mv rfl ?_)))))))
     refine R_mv rfl (R_e ?_)
     exact n17 _ _ ⟨t6,t9,t12,t13,t15,t16,t80,t81,t88,t89,t90,(Eq.trans (@rfl V (iV (((((nth (nth (trR m).ot k) (j)))) - 1) / (((1:Int)+((tm)*(1001:Int))))))) (by first|rfl|(rw [e4.1]; done)|(rw [e4.2]; done)|simp)),(Eq.trans (@rfl V (iV (((((nth (nth (trR m).ot k) (j)))) - 1) % (((1:Int)+((tm)*(1001:Int))))))) (by first|rfl|(rw [e4.1]; done)|(rw [e4.2]; done)|simp)),h3,h6,h9,h11,h13,h15,h16,h812,h813,trivial⟩
    have e4:=oVl_no (tm:=tm) c18
    refine W_skip ?_
    exact n17 _ _ ⟨t6,t9,t12,t13,t15,t16,t80,t81,t88,t89,t90,(Eq.trans (@rfl V (iV (0:Int))) (by first|rfl|(rw [e4.1]; done)|(rw [e4.2]; done)|simp)),(Eq.trans (@rfl V (iV (0:Int))) (by first|rfl|(rw [e4.1]; done)|(rw [e4.2]; done)|simp)),h3,h6,h9,h11,h13,h15,h16,h812,h813,trivial⟩
   intro T H ⟨t6,t9,t12,t13,t15,t16,t80,t81,t88,t89,t90,t19,t20,h3,h6,h9,h11,h13,h15,h16,h812,h813,_⟩
   refine W_r (R_mv t15 (R_mv t19 (R_bslice rfl rfl (R_append1 (l:=(tbl (rbVA (trR m) tm k) j)) (f:=cI) (x:=((oVl tm (nth (nth (trR m).ot k) j)))) (@rfl V (V.ms 15 v2 0 (j))) h15 (by first|rfl|exact (tbl_len _ _).symm|simp|omega) (@rfl V (V.sl [[(iV (oVl tm (nth (nth (trR m).ot k) j)))]])) rfl rfl (by omega) (by omega) (R_mv rfl (R_e (W_t ?_)))))))
   refine R_mv t16 (R_mv t20 (R_callk (setting_pure ((oCd tm (nth (nth (trR m).ot k) j))) (oCd_rng (by omega) (by omega))) rfl (R_bslice rfl rfl (R_append1 (l:=(tbl (rbSA (trR m) tm k) j)) (f:=cSg) (x:=((sgC ((oCd tm (nth (nth (trR m).ot k) j)))))) (@rfl V (V.ms 16 w2 0 (j))) h16 (by first|rfl|exact (tbl_len _ _).symm|simp|omega) (@rfl V (V.sl [[(iV ((sgC ((oCd tm (nth (nth (trR m).ot k) j)))).1)),(iV ((sgC ((oCd tm (nth (nth (trR m).ot k) j)))).2))]])) rfl rfl (by omega) (by omega) (R_mv rfl (R_e (n16 _ _ ?_)))))))
   refine .done (W_t (R_addN t90 (@rfl V (iV ((1:Nat):Int))) (by omega) (R_mv rfl (R_e ?_))))
   refine p114 _ _ _ ?_ ⟨(j+1),(v2+1),(w2+1),rfl,t6,t9,t12,t13,(Eq.trans (@rfl V (V.ms 15 (v2+1) 0 (j+1))) (by first|rfl|(rw [e4.1]; done)|(rw [e4.2]; done)|simp)),(Eq.trans (@rfl V (V.ms 16 (w2+1) 0 (j+1))) (by first|rfl|(rw [e4.1]; done)|(rw [e4.2]; done)|simp)),t80,t81,t88,t89,(Eq.trans (@rfl V (iV ((j+1:Nat):Int))) (by first|rfl|(rw [e4.1]; done)|(rw [e4.2]; done)|simp)),h3,h6,h9,h11,h13,(Eq.trans (@rfl Blk (bz (v2+1) 3 1 (List.map cI (tbl (rbVA (trR m) tm k) j++[(oVl tm (nth (nth (trR m).ot k) j))])))) (by first|rfl|(rw [tbl_succ,List.map_append,← ej]; first|done|rfl)|(rw [tbl_succ,List.map_append,← eo]; first|done|rfl)|(rw [tbl_succ,← ej]; first|done|rfl)|(rw [tbl_succ,← eo]; first|done|rfl)|(rw [tbl_succ]; first|done|rfl)|(rw [tbl_succ,List.map_append]; first|done|rfl)|(simp; done))),(Eq.trans (@rfl Blk (bz (w2+1) 73 2 (List.map cSg (tbl (rbSA (trR m) tm k) j++[(sgC ((oCd tm (nth (nth (trR m).ot k) j))))])))) (by first|rfl|(rw [tbl_succ,List.map_append,← ej]; first|done|rfl)|(rw [tbl_succ,List.map_append,← eo]; first|done|rfl)|(rw [tbl_succ,← ej]; first|done|rfl)|(rw [tbl_succ,← eo]; first|done|rfl)|(rw [tbl_succ]; first|done|rfl)|(rw [tbl_succ,List.map_append]; first|done|rfl)|(simp; done))),h812,h813,?_⟩
   · omega
   · omega
  have ej:tbl (rbVA (trR m) tm k) j=rbV (trR m) tm k:=by unfold rbV; rw [show (nth (trR m).ot k).length=j by omega]
  have eo:tbl (rbSA (trR m) tm k) j=rbS (trR m) tm k:=by unfold rbS; rw [show (nth (trR m).ot k).length=j by omega]
  refine W_seq_exit (p314 _ _ _ (x13 _ _ (fork_ (R:=fun T H=>T 6=(V.mp 6 1 0 0)∧T 9=(V.mp 9 1 0 0)∧T 12=(V.fn 33 [(V.agg [(iV ((1:Int)+((tm)*(1001:Int))))])] [])∧T 13=(V.mp 13 1 0 0)∧T 15=(V.ms 15 v2 0 (j))∧T 16=(V.ms 16 w2 0 (j))∧T 80=(iV (((trR m).nx.length:Nat):Int))∧T 81=(iV ((k:Nat):Int))∧T 88=(ints (nth (trR m).ot k))∧T 89=(iV (((nth (trR m).ot k).length:Nat):Int))∧T 90=(iV ((j:Nat):Int))∧T 91=(V.bool (decide (((j:Nat):Int) < (((nth (trR m).ot k).length:Nat):Int))))∧H 3=(bk 1 24 4 [[(iV (m.i)),(iV (m.s)),(intss m.nx),(intss m.ot)]])∧H 6=(bk 1 29 6 [[(iV (0:Int)),(iV (0:Int)),(iV (0:Int)),V.nilsl,V.nilsl,V.nilsl]])∧H 9=(bk 1 24 4 [[(iV ((trR m).i)),(iV ((trR m).s)),(intss ((trR m).nx)),(intss ((trR m).ot))]])∧H 11=(bk 1 68 7 [[(iV ((trR m).i)),(iV ((trR m).s)),(intss ((trR m).nx)),(intss ((trR m).ot)),(iV (inp)),(iV (tm)),(iV ((1:Int)+((tm)*(1001:Int))))]])∧H 13=(bk 1 29 6 [[(iV (inp)),(iV (tm)),(iV (0:Int)),(intss ((trR m).nx)),(V.ms 812 v 0 (k)),(V.ms 813 w 0 (k))]])∧H 15=(bz v2 3 1 (List.map cI (tbl (rbVA (trR m) tm k) j)))∧H 16=(bz w2 73 2 (List.map cSg (tbl (rbSA (trR m) tm k) j)))∧H 812=(bz v 38 1 (List.map cL (tbl (rbV (trR m) tm) k)))∧H 813=(bz w 70 1 (List.map cSr (tbl (rbS (trR m) tm) k)))∧True) ⟨t6,t9,t12,t13,t15,t16,t80,t81,t88,t89,t90,(@rfl V (V.bool (decide (((j:Nat):Int) < (((nth (trR m).ot k).length:Nat):Int))))),h3,h6,h9,h11,h13,h15,h16,h812,h813,trivial⟩ ?_)))
  intro T H ⟨t6,t9,t12,t13,t15,t16,t80,t81,t88,t89,t90,t91,h3,h6,h9,h11,h13,h15,h16,h812,h813,_⟩
  refine .freeze 15 (.done ?_)
  refine fork_ (R:=fun T H=>T 6=(V.mp 6 1 0 0)∧T 9=(V.mp 9 1 0 0)∧T 12=(V.fn 33 [(V.agg [(iV ((1:Int)+((tm)*(1001:Int))))])] [])∧T 13=(V.mp 13 1 0 0)∧T 15=(ints (tbl (rbVA (trR m) tm k) j))∧T 16=(V.ms 16 w2 0 (j))∧T 80=(iV (((trR m).nx.length:Nat):Int))∧T 81=(iV ((k:Nat):Int))∧T 88=(ints (nth (trR m).ot k))∧T 89=(iV (((nth (trR m).ot k).length:Nat):Int))∧T 90=(iV ((j:Nat):Int))∧T 91=(V.bool (decide (((j:Nat):Int) < (((nth (trR m).ot k).length:Nat):Int))))∧H 3=(bk 1 24 4 [[(iV (m.i)),(iV (m.s)),(intss m.nx),(intss m.ot)]])∧H 6=(bk 1 29 6 [[(iV (0:Int)),(iV (0:Int)),(iV (0:Int)),V.nilsl,V.nilsl,V.nilsl]])∧H 9=(bk 1 24 4 [[(iV ((trR m).i)),(iV ((trR m).s)),(intss ((trR m).nx)),(intss ((trR m).ot))]])∧H 11=(bk 1 68 7 [[(iV ((trR m).i)),(iV ((trR m).s)),(intss ((trR m).nx)),(intss ((trR m).ot)),(iV (inp)),(iV (tm)),(iV ((1:Int)+((tm)*(1001:Int))))]])∧H 13=(bk 1 29 6 [[(iV (inp)),(iV (tm)),(iV (0:Int)),(intss ((trR m).nx)),(V.ms 812 v 0 (k)),(V.ms 813 w 0 (k))]])∧((H 15).ver=v2∧(H 15).live=false)∧H 16=(bz w2 73 2 (List.map cSg (tbl (rbSA (trR m) tm k) j)))∧H 812=(bz v 38 1 (List.map cL (tbl (rbV (trR m) tm) k)))∧H 813=(bz w 70 1 (List.map cSr (tbl (rbS (trR m) tm) k)))∧True) ⟨(fzT_q t6 rfl),(fzT_q t9 rfl),(fzT_q t12 rfl),(fzT_q t13 rfl),(fzT_q t15 (fzq_own h15 (by first|rfl|simp) (l:=(tbl (rbVA (trR m) tm k) j)) rfl (by first|rfl|exact (tbl_len _ _).symm|simp|omega))),(fzT_q t16 (fzq_other (by decide))),(fzT_q t80 rfl),(fzT_q t81 rfl),(fzT_q t88 rfl),(fzT_q t89 rfl),(fzT_q t90 rfl),(fzT_q t91 rfl),(kill_ne h3 (by decide)),(kill_ne h6 (by decide)),(kill_ne h9 (by decide)),(kill_ne h11 (by decide)),(kill_ne h13 (by decide)),(kill_self (congrArg Blk.ver h15)),(kill_ne h16 (by decide)),(kill_ne h812 (by decide)),(kill_ne h813 (by decide)),trivial⟩ ?_
  intro T H ⟨t6,t9,t12,t13,t15,t16,t80,t81,t88,t89,t90,t91,h3,h6,h9,h11,h13,h15,h16,h812,h813,_⟩
  refine W_seq_g (fun T H=>T 6=(V.mp 6 1 0 0)∧T 9=(V.mp 9 1 0 0)∧T 12=(V.fn 33 [(V.agg [(iV ((1:Int)+((tm)*(1001:Int))))])] [])∧T 13=(V.mp 13 1 0 0)∧T 16=(V.ms 16 w2 0 (j))∧T 80=(iV (((trR m).nx.length:Nat):Int))∧T 81=(iV ((k:Nat):Int))∧H 3=(bk 1 24 4 [[(iV (m.i)),(iV (m.s)),(intss m.nx),(intss m.ot)]])∧H 6=(bk 1 29 6 [[(iV (0:Int)),(iV (0:Int)),(iV (0:Int)),V.nilsl,V.nilsl,V.nilsl]])∧H 9=(bk 1 24 4 [[(iV ((trR m).i)),(iV ((trR m).s)),(intss ((trR m).nx)),(intss ((trR m).ot))]])∧H 11=(bk 1 68 7 [[(iV ((trR m).i)),(iV ((trR m).s)),(intss ((trR m).nx)),(intss ((trR m).ot)),(iV (inp)),(iV (tm)),(iV ((1:Int)+((tm)*(1001:Int))))]])∧H 13=(bk 1 29 6 [[(iV (inp)),(iV (tm)),(iV (0:Int)),(intss ((trR m).nx)),(V.ms 812 (v+1) 0 (k+1)),(V.ms 813 w 0 (k))]])∧((H 15).ver=v2∧(H 15).live=false)∧H 16=(bz w2 73 2 (List.map cSg (tbl (rbSA (trR m) tm k) j)))∧H 812=(bz (v+1) 38 1 (List.map cL (tbl (rbV (trR m) tm) k++[tbl (rbVA (trR m) tm k) j])))∧H 813=(bz w 70 1 (List.map cSr (tbl (rbS (trR m) tm) k)))∧True) ?_ ?_
  ·
   refine R_fk t13 h13 (R_lk rfl h13 rfl rfl (R_mv t15 (R_bslice rfl rfl (R_append1 (l:=(tbl (rbV (trR m) tm) k)) (f:=cL) (x:=(tbl (rbVA (trR m) tm k) j)) (@rfl V (V.ms 812 v 0 (k))) h812 (by first|rfl|exact (tbl_len _ _).symm|simp|omega) (@rfl V (V.sl [[(ints (tbl (rbVA (trR m) tm k) j))]])) rfl rfl (by omega) (by omega) (R_fk t13 h13 (R_store (vs:=[(V.ms 812 (v+1) 0 (k+1))]) (B':=(bk 1 29 6 [[(iV (inp)),(iV (tm)),(iV (0:Int)),(intss ((trR m).nx)),(V.ms 812 (v+1) 0 (k+1)),(V.ms 813 w 0 (k))]])) rfl rfl rfl h13 (sB oB rfl rfl rfl rfl rfl) ?_))))))
   exact R_nil ⟨t6,t9,t12,t13,t16,t80,t81,h3,h6,h9,h11,rfl,h15,h16,rfl,h813,trivial⟩
  intro T H ⟨t6,t9,t12,t13,t16,t80,t81,h3,h6,h9,h11,h13,h15,h16,h812,h813,_⟩
  refine .freeze 16 (.done ?_)
  refine fork_ (R:=fun T H=>T 6=(V.mp 6 1 0 0)∧T 9=(V.mp 9 1 0 0)∧T 12=(V.fn 33 [(V.agg [(iV ((1:Int)+((tm)*(1001:Int))))])] [])∧T 13=(V.mp 13 1 0 0)∧T 16=(V.sl (List.map cSg (tbl (rbSA (trR m) tm k) j)))∧T 80=(iV (((trR m).nx.length:Nat):Int))∧T 81=(iV ((k:Nat):Int))∧H 3=(bk 1 24 4 [[(iV (m.i)),(iV (m.s)),(intss m.nx),(intss m.ot)]])∧H 6=(bk 1 29 6 [[(iV (0:Int)),(iV (0:Int)),(iV (0:Int)),V.nilsl,V.nilsl,V.nilsl]])∧H 9=(bk 1 24 4 [[(iV ((trR m).i)),(iV ((trR m).s)),(intss ((trR m).nx)),(intss ((trR m).ot))]])∧H 11=(bk 1 68 7 [[(iV ((trR m).i)),(iV ((trR m).s)),(intss ((trR m).nx)),(intss ((trR m).ot)),(iV (inp)),(iV (tm)),(iV ((1:Int)+((tm)*(1001:Int))))]])∧H 13=(bk 1 29 6 [[(iV (inp)),(iV (tm)),(iV (0:Int)),(intss ((trR m).nx)),(V.ms 812 (v+1) 0 (k+1)),(V.ms 813 w 0 (k))]])∧((H 15).ver=v2∧(H 15).live=false)∧((H 16).ver=w2∧(H 16).live=false)∧H 812=(bz (v+1) 38 1 (List.map cL (tbl (rbV (trR m) tm) k++[tbl (rbVA (trR m) tm k) j])))∧H 813=(bz w 70 1 (List.map cSr (tbl (rbS (trR m) tm) k)))∧True) ⟨(fzT_q t6 rfl),(fzT_q t9 rfl),(fzT_q t12 rfl),(fzT_q t13 rfl),(fzT_q t16 (fzq_own h16 (by first|rfl|simp) (l:=(tbl (rbSA (trR m) tm k) j)) rfl (by first|rfl|exact (tbl_len _ _).symm|simp|omega))),(fzT_q t80 rfl),(fzT_q t81 rfl),(kill_ne h3 (by decide)),(kill_ne h6 (by decide)),(kill_ne h9 (by decide)),(kill_ne h11 (by decide)),(kill_ne h13 (by decide)),(kill_dead h15),(kill_self (congrArg Blk.ver h16)),(kill_ne h812 (by decide)),(kill_ne h813 (by decide)),trivial⟩ ?_
  intro T H ⟨t6,t9,t12,t13,t16,t80,t81,h3,h6,h9,h11,h13,h15,h16,h812,h813,_⟩
  refine W_t (R_fk t13 h13 (R_lk rfl h13 rfl rfl (R_mv t16 (R_bslice rfl rfl (R_append1 (l:=(tbl (rbS (trR m) tm) k)) (f:=cSr) (x:=(tbl (rbSA (trR m) tm k) j)) (@rfl V (V.ms 813 w 0 (k))) h813 (by first|rfl|exact (tbl_len _ _).symm|simp|omega) (@rfl V (V.sl [[(V.sl (List.map cSg (tbl (rbSA (trR m) tm k) j)))]])) rfl rfl (by omega) (by omega) (R_fk t13 h13 (R_store (vs:=[(V.ms 813 (w+1) 0 (k+1))]) (B':=(bk 1 29 6 [[(iV (inp)),(iV (tm)),(iV (0:Int)),(intss ((trR m).nx)),(V.ms 812 (v+1) 0 (k+1)),(V.ms 813 (w+1) 0 (k+1))]])) rfl rfl rfl h13 (sB oB rfl rfl rfl rfl rfl) ?_)))))))
  refine R_e (n12 _ _ (.done (W_t (R_addN t81 (@rfl V (iV ((1:Nat):Int))) (by omega) (R_mv rfl (R_e ?_))))))
  refine p110 _ _ _ ?_ ⟨(k+1),(v+1),(w+1),v2,w2,rfl,t6,t9,t12,t13,t80,(Eq.trans (@rfl V (iV ((k+1:Nat):Int))) (by first|rfl|(rw [e4.1]; done)|(rw [e4.2]; done)|simp)),h3,h6,h9,h11,(Eq.trans (@rfl Blk (bk 1 29 6 [[(iV (inp)),(iV (tm)),(iV (0:Int)),(intss ((trR m).nx)),(V.ms 812 (v+1) 0 (k+1)),(V.ms 813 (w+1) 0 (k+1))]])) (by first|rfl|(rw [tbl_succ,List.map_append,← ej]; first|done|rfl)|(rw [tbl_succ,List.map_append,← eo]; first|done|rfl)|(rw [tbl_succ,← ej]; first|done|rfl)|(rw [tbl_succ,← eo]; first|done|rfl)|(rw [tbl_succ]; first|done|rfl)|(rw [tbl_succ,List.map_append]; first|done|rfl)|(simp; done))),h15,h16,(Eq.trans h812 (by first|rfl|(rw [tbl_succ,List.map_append,← ej]; first|done|rfl)|(rw [tbl_succ,List.map_append,← eo]; first|done|rfl)|(rw [tbl_succ,← ej]; first|done|rfl)|(rw [tbl_succ,← eo]; first|done|rfl)|(rw [tbl_succ]; first|done|rfl)|(rw [tbl_succ,List.map_append]; first|done|rfl)|(simp; done))),(Eq.trans (@rfl Blk (bz (w+1) 70 1 (List.map cSr (tbl (rbS (trR m) tm) k++[tbl (rbSA (trR m) tm k) j])))) (by first|rfl|(rw [tbl_succ,List.map_append,← ej]; first|done|rfl)|(rw [tbl_succ,List.map_append,← eo]; first|done|rfl)|(rw [tbl_succ,← ej]; first|done|rfl)|(rw [tbl_succ,← eo]; first|done|rfl)|(rw [tbl_succ]; first|done|rfl)|(rw [tbl_succ,List.map_append]; first|done|rfl)|(simp; done))),?_⟩
  · omega
  · omega
 refine W_seq_exit (p310 _ _ _ (x9 _ _ (.done (W_r (R_lk t13 h13 rfl rfl (R_store (vs:=[(iV (inp)),(iV (tm)),(iV (0:Int)),(intss ((trR m).nx)),(V.ms 812 v 0 (k)),(V.ms 813 w 0 (k))]) (B':=(bk 1 29 6 [[(iV (inp)),(iV (tm)),(iV (0:Int)),(intss ((trR m).nx)),(V.ms 812 v 0 (k)),(V.ms 813 w 0 (k))]])) t6 rfl rfl h6 (sB oB rfl rfl rfl rfl rfl) (R_mv rfl ?_)))))))
 refine R_e (W_ret ?_)
 refine RetC_2 (resV_c (u:=(V.agg [(iV (inp)),(iV (tm)),(iV (0:Int)),(intss ((trR m).nx)),(V.ms 812 v 0 (k)),(V.ms 813 w 0 (k))])) t6 (@rfl Blk (bk 1 29 6 [[(iV (inp)),(iV (tm)),(iV (0:Int)),(intss ((trR m).nx)),(V.ms 812 v 0 (k)),(V.ms 813 w 0 (k))]])) (lB oB rfl rfl)) (resV_t (@rfl V (iV (0:Int)))) (fz_aggL (mcons (fz_int ?_) (mcons (fz_int ?_) (mcons (fz_int ?_) (mcons (fz_sl ?_ (fun _=>by simp)) (mcons (fz_ms h812 (by first|rfl|simp) (l:=(tbl (rbV (trR m) tm) k)) rfl (by first|rfl|exact (tbl_len _ _).symm|simp|omega) (fun _=>by simp) ?_) (mcons (fz_ms h813 (by first|rfl|simp) (l:=(tbl (rbS (trR m) tm) k)) rfl (by first|rfl|exact (tbl_len _ _).symm|simp|omega) (fun _=>by simp) ?_) rfl))))))) (fz_int ?_)
 · rw [rbT_yes hm (rbE_5 d1 d2 d3 d4),rbM_tbl]; try first|rfl|(rw [show k=(trR m).ot.length by omega]; done)|(rw [show k=(trR m).ot.length by omega]; rfl)|(rw [show k=(trR m).nx.length by omega,List.take_length])
 · rw [rbT_yes hm (rbE_5 d1 d2 d3 d4),rbM_tbl]; try first|rfl|(rw [show k=(trR m).ot.length by omega]; done)|(rw [show k=(trR m).ot.length by omega]; rfl)|(rw [show k=(trR m).nx.length by omega,List.take_length])
 · rw [rbT_yes hm (rbE_5 d1 d2 d3 d4),rbM_tbl]; try first|rfl|(rw [show k=(trR m).ot.length by omega]; done)|(rw [show k=(trR m).ot.length by omega]; rfl)|(rw [show k=(trR m).nx.length by omega,List.take_length])
 · rw [rbT_yes hm (rbE_5 d1 d2 d3 d4),rbM_tbl]; try first|rfl|(rw [show k=(trR m).ot.length by omega]; done)|(rw [show k=(trR m).ot.length by omega]; rfl)|(rw [show k=(trR m).nx.length by omega,List.take_length])
 · rw [rbT_yes hm (rbE_5 d1 d2 d3 d4),rbM_tbl]; try first|rfl|(rw [show k=(trR m).ot.length by omega]; done)|(rw [show k=(trR m).ot.length by omega]; rfl)|(rw [show k=(trR m).nx.length by omega,List.take_length])
 · rw [rbT_yes hm (rbE_5 d1 d2 d3 d4),rbM_tbl]; try first|rfl|(rw [show k=(trR m).ot.length by omega]; done)|(rw [show k=(trR m).ot.length by omega]; rfl)|(rw [show k=(trR m).nx.length by omega,List.take_length])
 · rw [rbE_5 d1 d2 d3 d4]
def r12_4:List SO:=[
 qM 23 1,
 qC 24 .lss 23 1,
 qM 25 24,
 ⟨some (25,false),some 26,.mv (.t 1)⟩,
 ⟨some (25,false),some 27,.bin .gtr (.t 26) (.c (.int .i64 64))⟩,
 sO 28 (.pick (.t 25) (.c (.bool true)) (.t 27)),
 qM 29 28,
 ⟨some (29,false),some 30,.mv (.t 2)⟩,
 ⟨some (29,false),some 31,.bin .lss (.t 30) (.c (.int .i64 0))⟩,
 sO 32 (.pick (.t 29) (.c (.bool true)) (.t 31)),
 qM 33 32,
 ⟨some (33,false),some 34,.mv (.t 2)⟩,
 ⟨some (33,false),some 35,.bin .gtr (.t 34) (.c (.int .i64 4))⟩,
 sO 36 (.pick (.t 33) (.c (.bool true)) (.t 35))]
def r12_21:List SO:=[
 qF 73 3 3,
 ql 74 73,
 qM 75 10,
 qA 76 1 74 75,
 ql 77 76,
 qM 78 14,
 qA 79 1 77 78,
 ql 80 79,
 qC 81 .gtr 80 0]
def r12_22:List SO:=[
 qF 83 3 3,
 ql 84 83,
 qM 85 10,
 qA 86 1 84 85,
 ql 87 86,
 qM 88 14,
 qA 89 1 87 88,
 ql 90 89,
 qM 91 2,
 sO 92 (.call false 37 [.t 90,.t 91]),
 qM 82 92,
 qE 93 82 0,
 qE 94 82 1,
 qM 15 93,
 sN (.store 2 (.t 16) (.t 94))]
def r12_23:List SO:=[
 qM 95 11,
 qF 96 2 3,
 ql 97 96,
 qM 98 10,
 qA 99 1 97 98,
 ql 100 99,
 qM 101 14,
 qA 102 1 100 101,
 ql 103 102,
 sO 104 (.bslice 3 1 false [.int .i64 0] 1 [(0,.t 103)]),
 sO 105 (.append 3 1 8 (.t 95) (.t 104)),
 qM 11 105]
def b12_1:SC:=.seq (.seq (.reg [qM 66 14,qF 67 0 3,ql 68 67,qP 69 .lss 66 68]) (.cond (.t 69) (.skip) (.exit 2))) (.seq (.block 3 (.seq (.reg [sO 72 (.build [.int .i64 0,.int .i64 0] [(0,1,.c (.int .i64 (-1)))]),sO 16 (.alloc 73 [.int .i64 0,.int .i64 0]),qI 15 0,sN (.store 2 (.t 16) (.t 72))]) (.seq (.seq (.reg r12_21) (.cond (.t 81) (.reg r12_22) (.skip))) (.seq (.reg r12_23) (.seq (.reg [qM 106 12,qM 107 15,sO 108 (.bslice 3 1 false [.int .i64 0] 1 [(0,.t 107)]),sO 109 (.append 3 1 8 (.t 106) (.t 108)),qM 12 109]) (.reg [qM 110 13,qL 111 2 16,sO 112 (.bslice 73 2 false [.int .i64 0,.int .i64 0] 1 [(0,.t 111)]),sO 113 (.append 73 2 16 (.t 110) (.t 112)),qM 13 113])))))) (.reg [qM 70 14,qC 71 .add 70 1,qM 14 71]))
def r12_26:List SO:=[
 qF 114 3 9,
 ql 115 114,
 qM 116 11,
 sO 117 (.bslice 38 1 false [.nilsl] 1 [(0,.t 116)]),
 sO 118 (.append 38 1 24 (.t 115) (.t 117)),
 qF 119 3 9,
 sN (.store 1 (.t 119) (.t 118))]
def r12_27:List SO:=[
 qF 120 4 9,
 ql 121 120,
 qM 122 12,
 sO 123 (.bslice 38 1 false [.nilsl] 1 [(0,.t 122)]),
 sO 124 (.append 38 1 24 (.t 121) (.t 123)),
 qF 125 4 9,
 sN (.store 1 (.t 125) (.t 124))]
def r12_28:List SO:=[
 qF 126 5 9,
 ql 127 126,
 qM 128 13,
 sO 129 (.bslice 70 1 false [.nilsl] 1 [(0,.t 128)]),
 sO 130 (.append 70 1 24 (.t 127) (.t 129)),
 qF 131 5 9,
 sN (.store 1 (.t 131) (.t 130))]
def b12_0:SC:=.seq (.seq (.reg [qM 59 10,qF 60 2 3,ql 61 60,qN 62 61,qP 63 .lss 59 62]) (.cond (.t 63) (.skip) (.exit 0))) (.seq (.block 1 (.seq (.reg [sO 11 (.lazy 3 1),sO 12 (.lazy 3 1)]) (.seq (.reg [sO 13 (.lazy 73 2)]) (.seq (.seq (.reg [qI 14 0]) (.block 2 (.loop b12_1))) (.seq (.reg r12_26) (.seq (.reg r12_27) (.reg r12_28))))))) (.reg [qM 64 10,qC 65 .add 64 1,qM 10 65]))
def s12:SF:=⟨133,[.cell 6 true 6,.tmp 7],.seq (.reg [sO 3 (.box 24 4 (.t 0)),sO 6 (.alloc 29 [.int .i64 0,.int .i64 0,.int .i64 0,.nilsl,.nilsl,.nilsl]),qI 7 0]) (.seq (.seq (.reg [qL 17 4 3,sO 18 (.call false 35 [.t 17]),qM 8 18]) (.seq (.reg [qM 19 8,qC 20 .neq 19 0]) (.cond (.t 20) (.seq (.reg [sO 21 (.build [.int .i64 0,.int .i64 0,.int .i64 0,.nilsl,.nilsl,.nilsl] []),qM 22 8,sN (.store 6 (.t 6) (.t 21)),qM 7 22]) (.ret)) (.skip)))) (.seq (.seq (.reg r12_4) (.cond (.t 36) (.seq (.reg [sO 37 (.build [.int .i64 0,.int .i64 0,.int .i64 0,.nilsl,.nilsl,.nilsl] []),sN (.store 6 (.t 6) (.t 37)),qI 7 2]) (.ret)) (.skip))) (.seq (.seq (.reg [qF 38 0 3,ql 39 38,qM 40 1,qM 41 2,qP 42 .add 40 41,qP 43 .neq 39 42]) (.cond (.t 43) (.seq (.reg [sO 44 (.build [.int .i64 0,.int .i64 0,.int .i64 0,.nilsl,.nilsl,.nilsl] []),sN (.store 6 (.t 6) (.t 44)),qI 7 15]) (.ret)) (.skip))) (.seq (.seq (.reg [qL 45 4 3,qM 46 1,qM 47 2,sO 48 (.call false 36 [.t 45,.t 46,.t 47]),sO 49 (.un .not (.t 48))]) (.cond (.t 49) (.seq (.reg [sO 50 (.build [.int .i64 0,.int .i64 0,.int .i64 0,.nilsl,.nilsl,.nilsl] []),sN (.store 6 (.t 6) (.t 50)),qI 7 1]) (.ret)) (.skip))) (.seq (.reg [qL 52 4 3,sO 53 (.call false 22 [.t 52]),qM 51 53,qE 54 51 0,qE 55 51 1,sN (.store 4 (.t 3) (.t 54))]) (.seq (.reg [qM 56 1,qM 57 2,sO 58 (.build [.int .i64 0,.int .i64 0,.int .i64 0,.nilsl,.nilsl,.nilsl] [(0,1,.t 56),(1,1,.t 57)]),sO 9 (.alloc 29 [.int .i64 0,.int .i64 0,.int .i64 0,.nilsl,.nilsl,.nilsl]),sN (.store 6 (.t 9) (.t 58))]) (.seq (.seq (.reg [qI 10 0]) (.block 0 (.loop b12_0))) (.seq (.reg [qL 132 6 9,sN (.store 6 (.t 6) (.t 132)),qI 7 0]) (.ret)))))))))⟩
theorem s12_ok:slimF Tryz.prog ⟨[58,129,130,131,149,155,161,182,183,185,191,192,208,209,210,224,228,231,236],[11,12,13],[],[]⟩ Tryz.f12=some s12:=by kernel_rfl
def r22_13:List SO:=[
 qM 34 8,
 qM 35 5,
 qF 36 2 1,
 ql 37 36,
 qM 38 5,
 qM 39 7,
 qA 40 1 38 39,
 ql 41 40,
 qA 42 1 37 41,
 ql 43 42,
 qM 44 10,
 qA 45 1 43 44,
 ql 46 45,
 sO 47 (.call false 50 [.t 35,.t 46]),
 sO 48 (.bslice 3 1 false [.int .i64 0] 1 [(0,.t 47)]),
 sO 49 (.append 3 1 8 (.t 34) (.t 48)),
 qM 8 49]
def r22_14:List SO:=[
 qM 50 9,
 qF 51 3 1,
 ql 52 51,
 qM 53 5,
 qM 54 7,
 qA 55 1 53 54,
 ql 56 55,
 qA 57 1 52 56,
 ql 58 57,
 qM 59 10,
 qA 60 1 58 59,
 ql 61 60,
 sO 62 (.bslice 3 1 false [.int .i64 0] 1 [(0,.t 61)]),
 sO 63 (.append 3 1 8 (.t 50) (.t 62)),
 qM 9 63]
def b22_1:SC:=.seq (.seq (.reg [qM 28 10,qF 29 0 1,ql 30 29,qP 31 .lss 28 30]) (.cond (.t 31) (.skip) (.exit 2))) (.seq (.block 3 (.seq (.reg r22_13) (.reg r22_14))) (.reg [qM 32 10,qC 33 .add 32 1,qM 10 33]))
def r22_15:List SO:=[
 qF 64 2 6,
 ql 65 64,
 qM 66 8,
 sO 67 (.bslice 38 1 false [.nilsl] 1 [(0,.t 66)]),
 sO 68 (.append 38 1 24 (.t 65) (.t 67)),
 qF 69 2 6,
 sN (.store 1 (.t 69) (.t 68))]
def r22_16:List SO:=[
 qF 70 3 6,
 ql 71 70,
 qM 72 9,
 sO 73 (.bslice 38 1 false [.nilsl] 1 [(0,.t 72)]),
 sO 74 (.append 38 1 24 (.t 71) (.t 73)),
 qF 75 3 6,
 sN (.store 1 (.t 75) (.t 74))]
def b22_0:SC:=.seq (.seq (.reg [qM 22 7,qM 23 5,qN 24 23,qP 25 .lss 22 24]) (.cond (.t 25) (.skip) (.exit 0))) (.seq (.block 1 (.seq (.reg [sO 8 (.lazy 3 1),sO 9 (.lazy 3 1)]) (.seq (.seq (.reg [qI 10 0]) (.block 2 (.loop b22_1))) (.seq (.reg r22_15) (.reg r22_16))))) (.reg [qM 26 7,qC 27 .add 26 1,qM 7 27]))
def s22:SF:=⟨77,[.cell 2 true 4,.tmp 3],.seq (.reg [sO 1 (.box 24 4 (.t 0)),sO 2 (.alloc 24 [.int .i64 0,.int .i64 0,.nilsl,.nilsl]),qI 3 0]) (.seq (.seq (.reg [qL 11 4 1,sO 12 (.call false 35 [.t 11]),qM 4 12]) (.seq (.reg [qM 13 4,qC 14 .neq 13 0]) (.cond (.t 14) (.seq (.reg [sO 15 (.build [.int .i64 0,.int .i64 0,.nilsl,.nilsl] []),qM 16 4,sN (.store 4 (.t 2) (.t 15)),qM 3 16]) (.ret)) (.skip)))) (.seq (.reg [qL 17 4 1,sO 18 (.call false 49 [.t 17]),qM 5 18]) (.seq (.reg [qF 19 0 1,ql 20 19,sO 21 (.build [.int .i64 0,.int .i64 0,.nilsl,.nilsl] [(0,1,.t 20)]),sO 6 (.alloc 24 [.int .i64 0,.int .i64 0,.nilsl,.nilsl]),sN (.store 4 (.t 6) (.t 21))]) (.seq (.seq (.reg [qI 7 0]) (.block 0 (.loop b22_0))) (.seq (.reg [qL 76 4 6,sN (.store 4 (.t 2) (.t 76)),qI 3 0]) (.ret))))))⟩
theorem s22_ok:slimF Tryz.prog ⟨[58,129,130,131,149,155,161,182,183,185,191,192,208,209,210,224,228,231,236],[8,9],[],[]⟩ Tryz.f22=some s22:=by kernel_rfl
def r35_1:List SO:=[
 qF 5 0 1,
 ql 6 5,
 qC 7 .lss 6 1,
 qM 8 7,
 ⟨some (8,false),some 9,.fld 0 (.t 1)⟩,
 ⟨some (8,false),some 10,.load false 1 (.t 9)⟩,
 ⟨some (8,false),some 11,.bin .gtr (.t 10) (.c (.int .i64 64))⟩,
 sO 12 (.pick (.t 8) (.c (.bool true)) (.t 11))]
def r35_7:List SO:=[
 qF 21 1 1,
 ql 22 21,
 qC 23 .lss 22 0,
 qM 24 23,
 ⟨some (24,false),some 25,.fld 1 (.t 1)⟩,
 ⟨some (24,false),some 26,.load false 1 (.t 25)⟩,
 ⟨some (24,false),some 27,.fld 2 (.t 1)⟩,
 ⟨some (24,false),some 28,.load false 1 (.t 27)⟩,
 ⟨some (24,false),some 29,.len (.t 28)⟩,
 ⟨some (24,false),some 30,.bin .geq (.t 26) (.t 29)⟩,
 sO 31 (.pick (.t 24) (.c (.bool true)) (.t 30))]
def r35_9:List SO:=[
 qF 32 3 1,
 ql 33 32,
 qN 34 33,
 qF 35 2 1,
 ql 36 35,
 qN 37 36,
 qP 38 .neq 34 37]
def b35_0:SC:=.seq (.seq (.reg [qM 39 3,qF 40 2 1,ql 41 40,qN 42 41,qP 43 .lss 39 42]) (.cond (.t 43) (.skip) (.exit 0))) (.seq (.block 1 (.seq (.reg [qL 46 4 1,qM 47 3,sO 48 (.call false 60 [.t 46,.t 47]),qM 4 48]) (.seq (.reg [qM 49 4,qC 50 .neq 49 0]) (.cond (.t 50) (.seq (.reg [qM 51 4,qM 2 51]) (.ret)) (.skip))))) (.reg [qM 44 3,qC 45 .add 44 1,qM 3 45]))
def s35:SF:=⟨52,[.tmp 2],.seq (.reg [sO 1 (.box 24 4 (.t 0)),qI 2 0]) (.seq (.seq (.reg r35_1) (.cond (.t 12) (.seq (.reg [qI 2 2]) (.ret)) (.skip))) (.seq (.seq (.reg [qF 13 2 1,ql 14 13,qN 15 14,qC 16 .eql 15 0]) (.cond (.t 16) (.seq (.reg [qI 2 19]) (.ret)) (.skip))) (.seq (.seq (.reg [qF 17 2 1,ql 18 17,qN 19 18,qC 20 .gtr 19 128]) (.cond (.t 20) (.seq (.reg [qI 2 11]) (.ret)) (.skip))) (.seq (.seq (.reg r35_7) (.cond (.t 31) (.seq (.reg [qI 2 2]) (.ret)) (.skip))) (.seq (.seq (.reg r35_9) (.cond (.t 38) (.seq (.reg [qI 2 1]) (.ret)) (.skip))) (.seq (.seq (.reg [qI 3 0]) (.block 0 (.loop b35_0))) (.seq (.reg [qI 2 0]) (.ret))))))))⟩
theorem s35_ok:slimF Tryz.prog ⟨[58,129,130,131,149,155,161,182,183,185,191,192,208,209,210,224,228,231,236],[],[],[]⟩ Tryz.f35=some s35:=by kernel_rfl
def r60_1:List SO:=[
 qF 6 2 2,
 ql 7 6,
 qM 8 1,
 qA 9 1 7 8,
 ql 10 9,
 qN 11 10,
 qF 12 0 2,
 ql 13 12,
 qP 14 .neq 11 13,
 qM 15 14,
 ⟨some (15,false),some 16,.fld 3 (.t 2)⟩,
 ⟨some (15,false),some 17,.load false 1 (.t 16)⟩,
 ⟨some (15,false),some 18,.mv (.t 1)⟩,
 ⟨some (15,false),some 19,.idx 1 (.t 17) (.t 18)⟩,
 ⟨some (15,false),some 20,.load false 1 (.t 19)⟩,
 ⟨some (15,false),some 21,.len (.t 20)⟩,
 ⟨some (15,false),some 22,.fld 0 (.t 2)⟩,
 ⟨some (15,false),some 23,.load false 1 (.t 22)⟩,
 ⟨some (15,false),some 24,.bin .neq (.t 21) (.t 23)⟩,
 sO 25 (.pick (.t 15) (.c (.bool true)) (.t 24))]
def r60_6:List SO:=[
 qF 32 2 2,
 ql 33 32,
 qM 34 1,
 qA 35 1 33 34,
 ql 36 35,
 qM 37 5,
 qA 38 1 36 37,
 ql 39 38,
 qC 40 .lss 39 0,
 qM 41 40,
 ⟨some (41,false),some 42,.fld 2 (.t 2)⟩,
 ⟨some (41,false),some 43,.load false 1 (.t 42)⟩,
 ⟨some (41,false),some 44,.mv (.t 1)⟩,
 ⟨some (41,false),some 45,.idx 1 (.t 43) (.t 44)⟩,
 ⟨some (41,false),some 46,.load false 1 (.t 45)⟩,
 ⟨some (41,false),some 47,.mv (.t 5)⟩,
 ⟨some (41,false),some 48,.idx 1 (.t 46) (.t 47)⟩,
 ⟨some (41,false),some 49,.load false 1 (.t 48)⟩,
 ⟨some (41,false),some 50,.fld 2 (.t 2)⟩,
 ⟨some (41,false),some 51,.load false 1 (.t 50)⟩,
 ⟨some (41,false),some 52,.len (.t 51)⟩,
 ⟨some (41,false),some 53,.bin .geq (.t 49) (.t 52)⟩,
 sO 54 (.pick (.t 41) (.c (.bool true)) (.t 53)),
 qM 55 54,
 ⟨some (55,false),some 56,.fld 3 (.t 2)⟩,
 ⟨some (55,false),some 57,.load false 1 (.t 56)⟩,
 ⟨some (55,false),some 58,.mv (.t 1)⟩,
 ⟨some (55,false),some 59,.idx 1 (.t 57) (.t 58)⟩,
 ⟨some (55,false),some 60,.load false 1 (.t 59)⟩,
 ⟨some (55,false),some 61,.mv (.t 5)⟩,
 ⟨some (55,false),some 62,.idx 1 (.t 60) (.t 61)⟩,
 ⟨some (55,false),some 63,.load false 1 (.t 62)⟩,
 ⟨some (55,false),some 64,.bin .lss (.t 63) (.c (.int .i64 0))⟩,
 sO 65 (.pick (.t 55) (.c (.bool true)) (.t 64)),
 qM 66 65,
 ⟨some (66,false),some 67,.fld 3 (.t 2)⟩,
 ⟨some (66,false),some 68,.load false 1 (.t 67)⟩,
 ⟨some (66,false),some 69,.mv (.t 1)⟩,
 ⟨some (66,false),some 70,.idx 1 (.t 68) (.t 69)⟩,
 ⟨some (66,false),some 71,.load false 1 (.t 70)⟩,
 ⟨some (66,false),some 72,.mv (.t 5)⟩,
 ⟨some (66,false),some 73,.idx 1 (.t 71) (.t 72)⟩,
 ⟨some (66,false),some 74,.load false 1 (.t 73)⟩,
 ⟨some (66,false),some 75,.bin .gtr (.t 74) (.c (.int .i64 1048576))⟩,
 sO 76 (.pick (.t 66) (.c (.bool true)) (.t 75))]
def b60_0:SC:=.seq (.seq (.reg [qM 26 5,qF 27 0 2,ql 28 27,qP 29 .lss 26 28]) (.cond (.t 29) (.skip) (.exit 0))) (.seq (.block 1 (.seq (.reg r60_6) (.cond (.t 76) (.seq (.reg [qI 4 2]) (.ret)) (.skip)))) (.reg [qM 30 5,qC 31 .add 30 1,qM 5 31]))
def s60:SF:=⟨77,[.tmp 4],.seq (.reg [sO 2 (.box 24 4 (.t 0)),qI 4 0]) (.seq (.seq (.reg r60_1) (.cond (.t 25) (.seq (.reg [qI 4 1]) (.ret)) (.skip))) (.seq (.seq (.reg [qI 5 0]) (.block 0 (.loop b60_0))) (.seq (.reg [qI 4 0]) (.ret))))⟩
theorem s60_ok:slimF Tryz.prog ⟨[58,129,130,131,149,155,161,182,183,185,191,192,208,209,210,224,228,231,236],[],[],[]⟩ Tryz.f60=some s60:=by kernel_rfl
theorem row_pure (m:M) (s:Nat) (h1:s < m.nx.length) (h2:s < m.ot.length) (hi:1≤m.i∧m.i≤64):PureC Tryz.prog 60 [(V.agg [(iV (m.i)),(iV (m.s)),(intss m.nx),(intss m.ot)]),(iV ((s:Nat):Int))] (iV (rowE m s)):=by
 refine pW Tryz.func60 s60_ok fun hB=>?_
 unfold s60
 dsimp only
 refine W_r (R_box (i:=2) (n:=0) (m:=4) (cs:=[(iV (m.i)),(iV (m.s)),(intss m.nx),(intss m.ot)]) rfl (congrArg Blk.ver rfl) rfl rfl rfl (R_mv rfl (R_e (W_seq_seq (W_r (R_fk rfl rfl (R_lk rfl rfl rfl rfl ?_)))))))
 refine R_mv rfl (R_idx (i:=s) (@rfl V (intss m.nx)) (@rfl V (iV ((s:Nat):Int))) (by omega) rfl (R_load_pp rfl rfl (R_len rfl (R_fk rfl rfl (R_lk rfl rfl rfl rfl (R_neq rfl rfl (R_mv rfl ?_)))))))
 refine Ops_seg 10 (fun T H=>T 1=(iV ((s:Nat):Int))∧T 2=(V.mp 2 1 0 0)∧T 25=(V.bool (decide ((((((nth (m.nx) (s))).length:Nat):Int)≠(m.i))∨(((((nth (m.ot) (s))).length:Nat):Int)≠(m.i)))))∧H 2=(bk 1 24 4 [[(iV (m.i)),(iV (m.s)),(intss m.nx),(intss m.ot)]])∧True) ?_ ?_
 ·
  by_cases g1:((((nth (m.nx) (s))).length:Nat):Int)≠(m.i)
  ·
   refine G_n (edT g1 rfl) (G_n (edT g1 rfl) (G_n (edT g1 rfl) (G_n (edT g1 rfl) (G_n (edT g1 rfl) (G_n (edT g1 rfl) (G_n (edT g1 rfl) (G_n (edT g1 rfl) ?_)))))))
   refine G_n (edT g1 rfl) (R_pickT (edT g1 rfl) rfl ?_)
   exact ⟨rfl,rfl,(dec_orT g1),rfl,trivial⟩
  ·
   refine G_yes (edF g1 rfl) (R_fk rfl rfl (G_yes (edF g1 rfl) (R_lk rfl rfl rfl rfl (G_yes (edF g1 rfl) (R_mv rfl (G_yes (edF g1 rfl) (R_idx (i:=s) (@rfl V (intss m.ot)) (@rfl V (iV ((s:Nat):Int))) (by omega) rfl ?_)))))))
   refine G_yes (edF g1 rfl) (R_load_pp rfl rfl (G_yes (edF g1 rfl) (R_len rfl (G_yes (edF g1 rfl) (R_fk rfl rfl (G_yes (edF g1 rfl) (R_lk rfl rfl rfl rfl ?_)))))))
   refine G_yes (edF g1 rfl) (R_neq rfl rfl (R_pickF (edF g1 rfl) rfl ?_))
   exact ⟨rfl,rfl,(dec_orF g1),rfl,trivial⟩
 intro T H ⟨t1,t2,t25,h2,_⟩
 refine R_e ?_
 refine W_seq_if t25 (fun c2=>?_) fun c2=>?_
 ·
  refine W_seq_seq (W_r (R_mv rfl (R_e (W_seq_ret ?_))))
  refine Ret_1 (@rfl V (iV (1:Int))) (fz_int ?_)
  · rw [rowE,if_pos (by omega)]
 refine W_seq_skip (W_seq_seq (W_r (R_mv rfl (R_e (W_seq_blockg fun Q3 n3 x3 y3 z3=>?_)))))
 refine W_loop (fun mm T H=> ∃ (k:Nat),mm=((m.i).toNat) - k∧T 1=(iV ((s:Nat):Int))∧T 2=(V.mp 2 1 0 0)∧T 5=(iV ((k:Nat):Int))∧H 2=(bk 1 24 4 [[(iV (m.i)),(iV (m.s)),(intss m.nx),(intss m.ot)]])∧(k≤(m.i).toNat)∧(((nth m.nx s).length:Int)=m.i∧((nth m.ot s).length:Int)=m.i)∧(rowE m s=fe (celE m s) k (m.i.toNat - k))) ?_ ?_
 ·
  refine ⟨_,0,rfl,t1,t2,(Eq.trans (@rfl V (iV (0:Int))) rfl),h2,?_,?_,?_⟩
  · omega
  · omega
  · rw [rowE,if_neg (by omega)]; rfl
 intro mm T H ⟨k,hmm,t1,t2,t5,h2,hk,hl,hc⟩ Q4 p14 p24 p34
 unfold b60_0
 refine W_seq_seq (W_r (R_mv t5 (R_fk t2 h2 (R_lk rfl h2 rfl rfl (R_lss rfl rfl (R_e ?_))))))
 refine W_seq_if rfl (fun c5=>?_) fun c5=>?_
 ·
  refine W_seq_skip (W_seq_blockg fun Q6 n6 x6 y6 z6=>?_)
  refine W_seq_regc (fun T H=>T 1=(iV ((s:Nat):Int))∧T 2=(V.mp 2 1 0 0)∧T 5=(iV ((k:Nat):Int))∧T 76=(V.bool (decide ((((((nth ((nth (m.nx) (s))) (k))) < (0:Int))∨(((m.nx.length:Nat):Int)≤((nth ((nth (m.nx) (s))) (k)))))∨(((nth ((nth (m.ot) (s))) (k))) < (0:Int)))∨((1048576:Int) < ((nth ((nth (m.ot) (s))) (k)))))))∧H 2=(bk 1 24 4 [[(iV (m.i)),(iV (m.s)),(intss m.nx),(intss m.ot)]])∧True) ?_ ?_
  ·
   refine R_fk t2 h2 (R_lk rfl h2 rfl rfl (R_mv t1 (R_idx (i:=s) (@rfl V (intss m.nx)) (@rfl V (iV ((s:Nat):Int))) (by omega) rfl (R_load_pp rfl rfl (R_mv t5 (R_idx (i:=k) (@rfl V (ints ((nth (m.nx) (s))))) (@rfl V (iV ((k:Nat):Int))) (by omega) rfl (R_load_pp rfl rfl ?_)))))))
   refine R_lss rfl rfl (R_mv rfl ?_)
   refine Ops_seg 13 (fun T H=>T 1=(iV ((s:Nat):Int))∧T 2=(V.mp 2 1 0 0)∧T 5=(iV ((k:Nat):Int))∧T 54=(V.bool (decide ((((nth ((nth (m.nx) (s))) (k))) < (0:Int))∨(((m.nx.length:Nat):Int)≤((nth ((nth (m.nx) (s))) (k)))))))∧H 2=(bk 1 24 4 [[(iV (m.i)),(iV (m.s)),(intss m.nx),(intss m.ot)]])∧True) ?_ ?_
   ·
    by_cases g7:((nth ((nth (m.nx) (s))) (k))) < (0:Int)
    ·
     refine G_n (edT g7 rfl) (G_n (edT g7 rfl) (G_n (edT g7 rfl) (G_n (edT g7 rfl) (G_n (edT g7 rfl) (G_n (edT g7 rfl) (G_n (edT g7 rfl) (G_n (edT g7 rfl) ?_)))))))
     refine G_n (edT g7 rfl) (G_n (edT g7 rfl) (G_n (edT g7 rfl) (G_n (edT g7 rfl) (R_pickT (edT g7 rfl) rfl ?_))))
     exact ⟨t1,t2,t5,(dec_orT g7),h2,trivial⟩
    ·
     refine G_yes (edF g7 rfl) (R_fk t2 h2 (G_yes (edF g7 rfl) (R_lk rfl h2 rfl rfl (G_yes (edF g7 rfl) (R_mv t1 (G_yes (edF g7 rfl) (R_idx (i:=s) (@rfl V (intss m.nx)) (@rfl V (iV ((s:Nat):Int))) (by omega) rfl ?_)))))))
     refine G_yes (edF g7 rfl) (R_load_pp rfl rfl (G_yes (edF g7 rfl) (R_mv t5 (G_yes (edF g7 rfl) (R_idx (i:=k) (@rfl V (ints ((nth (m.nx) (s))))) (@rfl V (iV ((k:Nat):Int))) (by omega) rfl (G_yes (edF g7 rfl) (R_load_pp rfl rfl ?_)))))))
     refine G_yes (edF g7 rfl) (R_fk t2 h2 (G_yes (edF g7 rfl) (R_lk rfl h2 rfl rfl (G_yes (edF g7 rfl) (R_len rfl (G_yes (edF g7 rfl) (R_geq rfl rfl ?_)))))))
     refine R_pickF (edF g7 rfl) rfl ?_
     exact ⟨t1,t2,t5,(dec_orF g7),h2,trivial⟩
   intro T H ⟨t1,t2,t5,t54,h2,_⟩
   refine R_mv t54 ?_
   refine Ops_seg 10 (fun T H=>T 1=(iV ((s:Nat):Int))∧T 2=(V.mp 2 1 0 0)∧T 5=(iV ((k:Nat):Int))∧T 65=(V.bool (decide (((((nth ((nth (m.nx) (s))) (k))) < (0:Int))∨(((m.nx.length:Nat):Int)≤((nth ((nth (m.nx) (s))) (k)))))∨(((nth ((nth (m.ot) (s))) (k))) < (0:Int)))))∧H 2=(bk 1 24 4 [[(iV (m.i)),(iV (m.s)),(intss m.nx),(intss m.ot)]])∧True) ?_ ?_
   ·
    by_cases g8:(((nth ((nth (m.nx) (s))) (k))) < (0:Int))∨(((m.nx.length:Nat):Int)≤((nth ((nth (m.nx) (s))) (k))))
    ·
     refine G_n (edT g8 rfl) (G_n (edT g8 rfl) (G_n (edT g8 rfl) (G_n (edT g8 rfl) (G_n (edT g8 rfl) (G_n (edT g8 rfl) (G_n (edT g8 rfl) (G_n (edT g8 rfl) ?_)))))))
     refine G_n (edT g8 rfl) (R_pickT (edT g8 rfl) rfl ?_)
     exact ⟨t1,t2,t5,(dec_orT g8),h2,trivial⟩
    ·
     refine G_yes (edF g8 rfl) (R_fk t2 h2 (G_yes (edF g8 rfl) (R_lk rfl h2 rfl rfl (G_yes (edF g8 rfl) (R_mv t1 (G_yes (edF g8 rfl) (R_idx (i:=s) (@rfl V (intss m.ot)) (@rfl V (iV ((s:Nat):Int))) (by omega) rfl ?_)))))))
     refine G_yes (edF g8 rfl) (R_load_pp rfl rfl (G_yes (edF g8 rfl) (R_mv t5 (G_yes (edF g8 rfl) (R_idx (i:=k) (@rfl V (ints ((nth (m.ot) (s))))) (@rfl V (iV ((k:Nat):Int))) (by omega) rfl (G_yes (edF g8 rfl) (R_load_pp rfl rfl ?_)))))))
     refine G_yes (edF g8 rfl) (R_lss rfl rfl (R_pickF (edF g8 rfl) rfl ?_))
     exact ⟨t1,t2,t5,(dec_orF g8),h2,trivial⟩
   intro T H ⟨t1,t2,t5,t65,h2,_⟩
   refine R_mv t65 ?_
   refine Ops_seg 10 (fun T H=>T 1=(iV ((s:Nat):Int))∧T 2=(V.mp 2 1 0 0)∧T 5=(iV ((k:Nat):Int))∧T 76=(V.bool (decide ((((((nth ((nth (m.nx) (s))) (k))) < (0:Int))∨(((m.nx.length:Nat):Int)≤((nth ((nth (m.nx) (s))) (k)))))∨(((nth ((nth (m.ot) (s))) (k))) < (0:Int)))∨((1048576:Int) < ((nth ((nth (m.ot) (s))) (k)))))))∧H 2=(bk 1 24 4 [[(iV (m.i)),(iV (m.s)),(intss m.nx),(intss m.ot)]])∧True) ?_ ?_
   ·
    by_cases g9:((((nth ((nth (m.nx) (s))) (k))) < (0:Int))∨(((m.nx.length:Nat):Int)≤((nth ((nth (m.nx) (s))) (k)))))∨(((nth ((nth (m.ot) (s))) (k))) < (0:Int))
    ·
     refine G_n (edT g9 rfl) (G_n (edT g9 rfl) (G_n (edT g9 rfl) (G_n (edT g9 rfl) (G_n (edT g9 rfl) (G_n (edT g9 rfl) (G_n (edT g9 rfl) (G_n (edT g9 rfl) ?_)))))))
     refine G_n (edT g9 rfl) (R_pickT (edT g9 rfl) rfl ?_)
     exact ⟨t1,t2,t5,(dec_orT g9),h2,trivial⟩
    ·
     refine G_yes (edF g9 rfl) (R_fk t2 h2 (G_yes (edF g9 rfl) (R_lk rfl h2 rfl rfl (G_yes (edF g9 rfl) (R_mv t1 (G_yes (edF g9 rfl) (R_idx (i:=s) (@rfl V (intss m.ot)) (@rfl V (iV ((s:Nat):Int))) (by omega) rfl ?_)))))))
     refine G_yes (edF g9 rfl) (R_load_pp rfl rfl (G_yes (edF g9 rfl) (R_mv t5 (G_yes (edF g9 rfl) (R_idx (i:=k) (@rfl V (ints ((nth (m.ot) (s))))) (@rfl V (iV ((k:Nat):Int))) (by omega) rfl (G_yes (edF g9 rfl) (R_load_pp rfl rfl ?_)))))))
     refine G_yes (edF g9 rfl) (R_gtr rfl rfl (R_pickF (edF g9 rfl) rfl ?_))
     exact ⟨t1,t2,t5,(dec_orF g9),h2,trivial⟩
   intro T H ⟨t1,t2,t5,t76,h2,_⟩
   exact R_nil ⟨t1,t2,t5,t76,h2,trivial⟩
  intro T H ⟨t1,t2,t5,t76,h2,_⟩
  refine W_if t76 (fun c10=>?_) fun c10=>?_
  ·
   refine W_r (R_mv rfl (R_e (W_ret (y6 _ _ (p24 _ _ (y3 _ _ ?_))))))
   refine Ret_1 (@rfl V (iV (2:Int))) (fz_int ?_)
   · rw [hc,fe_hit (by unfold celE; split <;> omega) (by omega)]; unfold celE; split <;> omega
  refine W_skip (n6 _ _ (.done (W_t (R_mv t5 (R_addN rfl (@rfl V (iV ((1:Nat):Int))) (by omega) (R_mv rfl (R_e ?_)))))))
  refine p14 _ _ _ ?_ ⟨(k+1),rfl,t1,t2,(Eq.trans (@rfl V (iV ((k+1:Nat):Int))) (by first|rfl|simp)),h2,?_,?_,?_⟩
  · omega
  · omega
  · omega
  · rw [hc,fe_skip (by unfold celE; split <;> omega) (by omega)]
 refine W_seq_exit (p34 _ _ _ (x3 _ _ (.done (W_r (R_mv rfl (R_e (W_ret ?_)))))))
 refine Ret_1 (@rfl V (iV (0:Int))) (fz_int ?_)
 · rw [hc,fe_end (by omega)]
theorem rvalid_pure (m:M):PureC Tryz.prog 35 [(V.agg [(iV (m.i)),(iV (m.s)),(intss m.nx),(intss m.ot)])] (iV (mval m)):=by
 refine pW Tryz.func35 s35_ok fun hB=>?_
 unfold s35
 dsimp only
 refine W_r (R_box (i:=1) (n:=0) (m:=4) (cs:=[(iV (m.i)),(iV (m.s)),(intss m.nx),(intss m.ot)]) rfl (congrArg Blk.ver rfl) rfl rfl rfl (R_mv rfl (R_e (W_seq_seq (W_r (R_fk rfl rfl (R_lk rfl rfl rfl rfl ?_)))))))
 refine R_lss rfl rfl (R_mv rfl ?_)
 refine Ops_seg 4 (fun T H=>T 1=(V.mp 1 1 0 0)∧T 12=(V.bool (decide (((m.i) < (1:Int))∨((64:Int) < (m.i)))))∧H 1=(bk 1 24 4 [[(iV (m.i)),(iV (m.s)),(intss m.nx),(intss m.ot)]])∧True) ?_ ?_
 ·
  by_cases g1:(m.i) < (1:Int)
  ·
   refine G_n (edT g1 rfl) (G_n (edT g1 rfl) (G_n (edT g1 rfl) (R_pickT (edT g1 rfl) rfl ?_)))
   exact ⟨rfl,(dec_orT g1),rfl,trivial⟩
  ·
   refine G_yes (edF g1 rfl) (R_fk rfl rfl (G_yes (edF g1 rfl) (R_lk rfl rfl rfl rfl (G_yes (edF g1 rfl) (R_gtr rfl rfl (R_pickF (edF g1 rfl) rfl ?_))))))
   exact ⟨rfl,(dec_orF g1),rfl,trivial⟩
 intro T H ⟨t1,t12,h1,_⟩
 refine R_e ?_
 refine W_seq_if t12 (fun c2=>?_) fun c2=>?_
 ·
  refine W_seq_seq (W_r (R_mv rfl (R_e (W_seq_ret ?_))))
  refine Ret_1 (@rfl V (iV (2:Int))) (fz_int ?_)
  · rw [mval,if_pos (by omega)]
 refine W_seq_skip (W_seq_seq (W_r (R_fk t1 h1 (R_lk rfl h1 rfl rfl (R_len rfl (R_eql rfl rfl (R_e ?_)))))))
 refine W_seq_if rfl (fun c3=>?_) fun c3=>?_
 ·
  refine W_seq_seq (W_r (R_mv rfl (R_e (W_seq_ret ?_))))
  refine Ret_1 (@rfl V (iV (19:Int))) (fz_int ?_)
  · rw [mval,if_neg (by omega),if_pos (by omega)]
 refine W_seq_skip (W_seq_seq (W_r (R_fk t1 h1 (R_lk rfl h1 rfl rfl (R_len rfl (R_gtr rfl rfl (R_e ?_)))))))
 refine W_seq_if rfl (fun c4=>?_) fun c4=>?_
 ·
  refine W_seq_seq (W_r (R_mv rfl (R_e (W_seq_ret ?_))))
  refine Ret_1 (@rfl V (iV (11:Int))) (fz_int ?_)
  · rw [mval,if_neg (by omega),if_neg (by omega),if_pos (by omega)]
 refine W_seq_skip (W_seq_seq (W_r (R_fk t1 h1 (R_lk rfl h1 rfl rfl (R_lss rfl rfl (R_mv rfl ?_))))))
 refine Ops_seg 7 (fun T H=>T 1=(V.mp 1 1 0 0)∧T 31=(V.bool (decide (((m.s) < (0:Int))∨(((m.nx.length:Nat):Int)≤(m.s)))))∧H 1=(bk 1 24 4 [[(iV (m.i)),(iV (m.s)),(intss m.nx),(intss m.ot)]])∧True) ?_ ?_
 ·
  by_cases g5:(m.s) < (0:Int)
  ·
   refine G_n (edT g5 rfl) (G_n (edT g5 rfl) (G_n (edT g5 rfl) (G_n (edT g5 rfl) (G_n (edT g5 rfl) (G_n (edT g5 rfl) (R_pickT (edT g5 rfl) rfl ?_))))))
   exact ⟨t1,(dec_orT g5),h1,trivial⟩
  ·
   refine G_yes (edF g5 rfl) (R_fk t1 h1 (G_yes (edF g5 rfl) (R_lk rfl h1 rfl rfl (G_yes (edF g5 rfl) (R_fk t1 h1 (G_yes (edF g5 rfl) (R_lk rfl h1 rfl rfl ?_)))))))
   refine G_yes (edF g5 rfl) (R_len rfl (G_yes (edF g5 rfl) (R_geq rfl rfl (R_pickF (edF g5 rfl) rfl ?_))))
   exact ⟨t1,(dec_orF g5),h1,trivial⟩
 intro T H ⟨t1,t31,h1,_⟩
 refine R_e ?_
 refine W_seq_if t31 (fun c6=>?_) fun c6=>?_
 ·
  refine W_seq_seq (W_r (R_mv rfl (R_e (W_seq_ret ?_))))
  refine Ret_1 (@rfl V (iV (2:Int))) (fz_int ?_)
  · rw [mval,if_neg (by omega),if_neg (by omega),if_neg (by omega),if_pos (by omega)]
 refine W_seq_skip (W_seq_seq (W_r (R_fk t1 h1 (R_lk rfl h1 rfl rfl (R_len rfl (R_fk t1 h1 (R_lk rfl h1 rfl rfl ?_)))))))
 refine R_len rfl (R_neq rfl rfl (R_e ?_))
 refine W_seq_if rfl (fun c7=>?_) fun c7=>?_
 ·
  refine W_seq_seq (W_r (R_mv rfl (R_e (W_seq_ret ?_))))
  refine Ret_1 (@rfl V (iV (1:Int))) (fz_int ?_)
  · rw [mval,if_neg (by omega),if_neg (by omega),if_neg (by omega),if_neg (by omega),if_pos (by omega)]
 refine W_seq_skip (W_seq_seq (W_r (R_mv rfl (R_e (W_seq_blockg fun Q8 n8 x8 y8 z8=>?_)))))
 refine W_loop (fun mm T H=> ∃ (k:Nat),mm=m.nx.length - k∧T 1=(V.mp 1 1 0 0)∧T 3=(iV ((k:Nat):Int))∧H 1=(bk 1 24 4 [[(iV (m.i)),(iV (m.s)),(intss m.nx),(intss m.ot)]])∧(k≤m.nx.length)∧(1≤m.i∧m.i≤64∧0 < m.nx.length∧m.nx.length≤128∧m.ot.length=m.nx.length)∧(mval m=fe (rowE m) k (m.nx.length - k))) ?_ ?_
 ·
  refine ⟨_,0,rfl,t1,(Eq.trans (@rfl V (iV (0:Int))) rfl),h1,?_,?_,?_⟩
  · omega
  · omega
  · rw [mval,if_neg (by omega),if_neg (by omega),if_neg (by omega),if_neg (by omega),if_neg (by omega)]; rfl
 intro mm T H ⟨k,hmm,t1,t3,h1,hk,hv,hc⟩ Q9 p19 p29 p39
 unfold b35_0
 refine W_seq_seq (W_r (R_mv t3 (R_fk t1 h1 (R_lk rfl h1 rfl rfl (R_len rfl (R_lss rfl rfl (R_e ?_)))))))
 refine W_seq_if rfl (fun c10=>?_) fun c10=>?_
 ·
  refine W_seq_skip (W_seq_blockg fun Q11 n11 x11 y11 z11=>(W_r (R_lk t1 h1 rfl rfl (R_mv t3 (R_callk (row_pure m k (by first|omega|assumption) (by first|omega|assumption) (by first|omega|assumption)) rfl (R_mv rfl (R_e ?_)))))))
  refine W_r (R_mv rfl (R_neq rfl rfl (R_e ?_)))
  refine W_if rfl (fun c12=>?_) fun c12=>?_
  ·
   refine W_r (R_mv rfl (R_mv rfl (R_e (W_ret (y11 _ _ (p29 _ _ (y8 _ _ ?_)))))))
   refine Ret_1 (@rfl V (iV (rowE m k))) (fz_int ?_)
   · rw [hc,fe_hit (by omega) (by omega)]
  refine W_skip (n11 _ _ (.done (W_t (R_mv t3 (R_addN rfl (@rfl V (iV ((1:Nat):Int))) (by omega) (R_mv rfl (R_e ?_)))))))
  refine p19 _ _ _ ?_ ⟨(k+1),rfl,t1,(Eq.trans (@rfl V (iV ((k+1:Nat):Int))) (by first|rfl|simp)),h1,?_,?_,?_⟩
  · omega
  · omega
  · omega
  · rw [hc,fe_skip (by omega) (by omega)]
 refine W_seq_exit (p39 _ _ _ (x8 _ _ (.done (W_r (R_mv rfl (R_e (W_ret ?_)))))))
 refine Ret_1 (@rfl V (iV (0:Int))) (fz_int ?_)
 · rw [hc,fe_end (by omega)]
def r49_10:List SO:=[
 qM 24 3,
 qF 25 2 1,
 ql 26 25,
 qM 27 3,
 qM 28 4,
 qA 29 1 27 28,
 ql 30 29,
 qA 31 1 26 30,
 ql 32 31,
 qM 33 5,
 qA 34 1 32 33,
 ql 35 34,
 sO 36 (.call false 81 [.t 24,.t 35]),
 sO 37 (.un .not (.t 36))]
def r49_11:List SO:=[
 qM 38 3,
 qF 39 2 1,
 ql 40 39,
 qM 41 3,
 qM 42 4,
 qA 43 1 41 42,
 ql 44 43,
 qA 45 1 40 44,
 ql 46 45,
 qM 47 5,
 qA 48 1 46 47,
 ql 49 48,
 sO 50 (.bslice 3 1 false [.int .i64 0] 1 [(0,.t 49)]),
 sO 51 (.append 3 1 8 (.t 38) (.t 50)),
 qM 3 51]
def b49_1:SC:=.seq (.seq (.reg [qM 18 5,qF 19 0 1,ql 20 19,qP 21 .lss 18 20]) (.cond (.t 21) (.skip) (.exit 2))) (.seq (.block 3 (.seq (.reg r49_10) (.cond (.t 37) (.reg r49_11) (.skip)))) (.reg [qM 22 5,qC 23 .add 22 1,qM 5 23]))
def b49_0:SC:=.seq (.seq (.reg [qM 12 4,qM 13 3,qN 14 13,qP 15 .lss 12 14]) (.cond (.t 15) (.skip) (.exit 0))) (.seq (.block 1 (.seq (.reg [qI 5 0]) (.block 2 (.loop b49_1)))) (.reg [qM 16 4,qC 17 .add 16 1,qM 4 17]))
def s49:SF:=⟨53,[.tmp 2],.seq (.reg [sO 1 (.box 24 4 (.t 0)),sO 2 (.mv (.c (.nilsl)))]) (.seq (.seq (.reg [qL 6 4 1,sO 7 (.call false 35 [.t 6]),qC 8 .neq 7 0]) (.cond (.t 8) (.seq (.reg [sO 2 (.mv (.c (.nilsl)))]) (.ret)) (.skip))) (.seq (.reg [qF 9 1 1,ql 10 9,sO 11 (.bslice 3 1 true [.int .i64 0] 1 [(0,.t 10)]),qM 3 11]) (.seq (.seq (.reg [qI 4 0]) (.block 0 (.loop b49_0))) (.seq (.reg [qM 52 3,qM 2 52]) (.ret)))))⟩
theorem s49_ok:slimF Tryz.prog ⟨[58,129,130,131,149,155,161,182,183,185,191,192,208,209,210,224,228,231,236],[11],[],[]⟩ Tryz.f49=some s49:=by kernel_rfl
def b81_0:SC:=.seq (.seq (.reg [qM 6 5,qM 7 0,qN 8 7,qP 9 .lss 6 8]) (.cond (.t 9) (.skip) (.exit 0))) (.seq (.block 1 (.seq (.reg [qM 12 0,qM 13 5,qA 14 1 12 13,ql 15 14,qM 16 1,qP 17 .eql 15 16]) (.cond (.t 17) (.seq (.reg [sO 4 (.mv (.c (.bool true)))]) (.ret)) (.skip)))) (.reg [qM 10 5,qC 11 .add 10 1,qM 5 11]))
def s81:SF:=⟨18,[.tmp 4],.seq (.reg [sO 4 (.mv (.c (.bool false)))]) (.seq (.seq (.reg [qI 5 0]) (.block 0 (.loop b81_0))) (.seq (.reg [sO 4 (.mv (.c (.bool false)))]) (.ret)))⟩
theorem s81_ok:slimF Tryz.prog ⟨[58,129,130,131,149,155,161,182,183,185,191,192,208,209,210,224,228,231,236],[],[],[]⟩ Tryz.f81=some s81:=by kernel_rfl
theorem has06_pure (l:List Int) (n:Int):PureC Tryz.prog 81 [(ints l),(iV (n))] (V.bool (decide (n∈l))):=by
 refine pW Tryz.func81 s81_ok fun hB=>?_
 unfold s81
 dsimp only
 refine W_r (R_mv rfl (R_e (W_seq_seq (W_r (R_mv rfl (R_e (W_seq_blockg fun Q1 n1 x1 y1 z1=>?_)))))))
 refine W_loop (fun mm T H=> ∃ (k:Nat),mm=l.length - k∧T 0=(ints l)∧T 1=(iV (n))∧T 5=(iV ((k:Nat):Int))∧(k≤l.length)∧(∀ j,j < k→nth l j≠n)) ?_ ?_
 ·
  refine ⟨_,0,rfl,rfl,rfl,(Eq.trans (@rfl V (iV (0:Int))) rfl),?_,?_⟩
  · omega
  · intro j hj; omega
 intro mm T H ⟨k,hmm,t0,t1,t5,hk,hc⟩ Q2 p12 p22 p32
 unfold b81_0
 refine W_seq_seq (W_r (R_mv t5 (R_mv t0 (R_len rfl (R_lss rfl rfl (R_e ?_))))))
 refine W_seq_if rfl (fun c3=>?_) fun c3=>?_
 ·
  refine W_seq_skip (W_seq_blockg fun Q4 n4 x4 y4 z4=>(W_r (R_mv t0 (R_mv t5 (R_idx (i:=k) (@rfl V (ints l)) (@rfl V (iV ((k:Nat):Int))) (by omega) rfl (R_load_pp rfl rfl (R_mv t1 ?_)))))))
  refine R_eql rfl rfl (R_e ?_)
  refine W_if rfl (fun c5=>?_) fun c5=>?_
  ·
   have d1:=c5
   refine W_r (R_mv rfl (R_e (W_ret (y4 _ _ (p22 _ _ (y1 _ _ ?_))))))
   refine Ret_1 (@rfl V (V.bool true)) (fz_bool ?_)
   · exact (decide_eq_true (d1 ▸ nth_mem (by omega))).symm
  have d1:=c5
  refine W_skip (n4 _ _ (.done (W_t (R_mv t5 (R_addN rfl (@rfl V (iV ((1:Nat):Int))) (by omega) (R_mv rfl (R_e ?_)))))))
  refine p12 _ _ _ ?_ ⟨(k+1),rfl,t0,t1,(Eq.trans (@rfl V (iV ((k+1:Nat):Int))) (by first|rfl|simp)),?_,?_⟩
  · omega
  · omega
  · intro j hj
    by_cases e:j=k
    · subst e; exact d1
    · exact hc j (by omega)
 refine W_seq_exit (p32 _ _ _ (x1 _ _ (.done (W_r (R_mv rfl (R_e (W_ret ?_)))))))
 refine Ret_1 (@rfl V (V.bool false)) (fz_bool ?_)
 · exact (decide_eq_false (fun e=>by obtain ⟨j,hj,q⟩:=in_nth e; exact hc j (by omega) q)).symm
theorem rreach_pure (m:M):PureC Tryz.prog 49 [(V.agg [(iV (m.i)),(iV (m.s)),(intss m.nx),(intss m.ot)])] (ints (rch m)):=by
 refine pW Tryz.func49 s49_ok fun hB=>?_
 unfold s49
 dsimp only
 refine W_r (R_box (i:=1) (n:=0) (m:=4) (cs:=[(iV (m.i)),(iV (m.s)),(intss m.nx),(intss m.ot)]) rfl (congrArg Blk.ver rfl) rfl rfl rfl (R_mv rfl (R_e (W_seq_seq (W_r (R_lk rfl rfl rfl rfl (R_callk (rvalid_pure m) rfl ?_)))))))
 refine R_neq rfl rfl (R_e ?_)
 refine W_seq_if rfl (fun c1=>?_) fun c1=>?_
 ·
  have d0:=c1
  refine W_seq_seq (W_r (R_mv rfl (R_e (W_seq_ret ?_))))
  refine Ret_1 (@rfl V V.nilsl) (fz_nil ?_)
  · rw [rch,if_pos d0]
 have hm:mval m=0:=by omega
 obtain ⟨v1,v2,v3,v4,v5,v6,v7,_⟩:=mval_ok hm
 refine W_seq_skip (W_r (R_fk rfl rfl (R_lk rfl rfl rfl rfl (R_bslice_own (i:=11) (n:=0) (qs:=[(0,(iV (m.s)))]) (rows:=[[(iV (m.s))]]) rfl (congrArg Blk.ver rfl) (mcons (congrArg (fun v=>(0,v)) rfl) rfl) rfl (R_mv rfl (R_e (W_seq_seq ?_)))))))
 refine W_r (R_mv rfl (R_e (W_seq_blockg fun Q2 n2 x2 y2 z2=>?_)))
 refine W_loop (fun mm T H=> ∃ (k:Nat) (w:Nat) (P:RS),mm=m.nx.length - k∧T 1=(V.mp 1 1 0 0)∧T 3=(V.ms 11 w 0 (P.1.length))∧T 4=(iV ((k:Nat):Int))∧H 1=(bk 1 24 4 [[(iV (m.i)),(iV (m.s)),(intss m.nx),(intss m.ot)]])∧H 11=(bk w 3 1 (List.map cI (P.1)))∧(k≤P.1.length)∧(RI m.nx.length P)∧(bfsR m m.nx.length 0 (iniR m)=bfsR m (m.nx.length - k) k P)) ?_ ?_
 ·
  refine ⟨_,0,1,(iniR m),rfl,rfl,(Eq.trans (@rfl V (V.ms 11 1 0 (1))) (by first|rfl|(rw [stp_no d2,List.length_append]; rfl)|(rw [stp_yes d2]; done)|(rw [← e9]; done))),(Eq.trans (@rfl V (iV (0:Int))) rfl),rfl,(Eq.trans (@rfl Blk (bk 1 3 1 [[(iV (m.s))]])) (by first|rfl|(rw [stp_no d2,hn.1]; done)|(rw [stp_yes d2]; done)|(rw [← e9]; done))),?_,?_,?_⟩
  · exact Nat.zero_le _
  · exact ini_RI hm
  · rfl
 intro mm T H ⟨k,w,P,hmm,t1,t3,t4,h1,h11,hk,hr,hc⟩ Q3 p13 p23 p33
 unfold b49_0
 refine W_seq_seq (W_r (R_mv t4 (R_mv t3 (R_len_ms rfl h11 (by first|rfl|simp) (R_lss rfl rfl (R_e ?_))))))
 refine W_seq_if rfl (fun c4=>?_) fun c4=>?_
 ·
  have r1:=hr.rng _ (nth_mem (show k < P.1.length by omega))
  have r0:=hr.len
  have r6:=((mval_ok hm).2.2.2.2.2.2.2 (nth P.1 k).toNat (by omega)).1
  refine W_seq_skip (W_seq_blockg fun Q5 n5 x5 y5 z5=>(W_r (R_mv rfl (R_e (W_block fun Q6 n6 x6 y6 z6=>?_)))))
  refine W_loop (fun mm T H=> ∃ (j:Nat) (w2:Nat) (Q:RS),mm=m.i.toNat - j∧T 1=(V.mp 1 1 0 0)∧T 3=(V.ms 11 w2 0 (Q.1.length))∧T 4=(iV ((k:Nat):Int))∧T 5=(iV ((j:Nat):Int))∧H 1=(bk 1 24 4 [[(iV (m.i)),(iV (m.s)),(intss m.nx),(intss m.ot)]])∧H 11=(bk w2 3 1 (List.map cI (Q.1)))∧(j≤m.i.toNat)∧(Q=((nth m.nx (nth P.1 k).toNat).take j).foldl stpR P)∧(RI m.nx.length Q)∧(nth Q.1 k=nth P.1 k∧P.1.length≤Q.1.length)) ?_ ?_
  ·
   refine ⟨_,0,w,P,rfl,t1,t3,t4,(Eq.trans (@rfl V (iV (0:Int))) rfl),h1,h11,?_,?_,?_,?_⟩
   · exact Nat.zero_le _
   · rfl
   · exact hr
   · exact ⟨rfl,Nat.le_refl _⟩
  intro mm T H ⟨j,w2,Q,hmm,t1,t3,t4,t5,h1,h11,hj,hq,hrq,hn⟩ Q7 p17 p27 p37
  unfold b49_1
  refine W_seq_seq (W_r (R_mv t5 (R_fk t1 h1 (R_lk rfl h1 rfl rfl (R_lss rfl rfl (R_e ?_))))))
  refine W_seq_if rfl (fun c8=>?_) fun c8=>?_
  ·
   have r2:=row_in hm r1.1 r1.2 _ (nth_mem (show j < (nth m.nx (nth P.1 k).toNat).length by omega))
   have r4:=hrq.len
   have r5:=hn.1
   have r7:(nth m.nx (nth Q.1 k).toNat).length=(nth m.nx (nth P.1 k).toNat).length:=by rw [hn.1]
   refine W_seq_skip (W_seq_blockg fun Q9 n9 x9 y9 z9=>(W_r (R_mv t3 (R_fk t1 h1 (R_lk rfl h1 rfl rfl (R_mv t3 (R_mv t4 ?_)))))))
   refine R_idx_ms0 (i:=k) (@rfl V (V.ms 11 w2 0 (Q.1.length))) (@rfl V (iV ((k:Nat):Int))) h11 oB rfl (by omega) (R_load_mp (v:=(iV ((nth (Q.1) (k))))) rfl h11 (ldB_map (by omega) (by first|rfl|(rw [cF_eq]; rfl)|simp [ldV,V.one])) (R_idxI (i:=((nth (Q.1) (k)))) (@rfl V (intss m.nx)) (@rfl V (iV ((nth (Q.1) (k))))) (by omega) (by omega) rfl (R_load_pp rfl rfl (R_mv t5 (R_idx (i:=j) (@rfl V (ints ((nth (m.nx) ((nth (Q.1) (k))).toNat)))) (@rfl V (iV ((j:Nat):Int))) (by omega) rfl (R_load_pp rfl rfl (R_call (evcons (@rfl V (V.ms 11 w2 0 (Q.1.length))) (evcons (@rfl V (iV ((nth ((nth (m.nx) ((nth (Q.1) (k))).toNat)) (j))))) evnil)) (has06_pure Q.1 (((nth ((nth (m.nx) ((nth (Q.1) (k))).toNat)) (j))))) (mcons (fz_mst h11 (by first|rfl|simp) (take_map (l:=Q.1) (by first|rfl|simp|omega)) (fun _=>by simp)) (mcons (fzv_canon 6 _ (by simp [-List.map_take,-List.map_drop,-List.map_append,-List.map_reverse])) rfl)) (by simp [-List.map_take,-List.map_drop,-List.map_append,-List.map_reverse]) (Or.inr rfl) ?_)))))))
   refine R_not rfl (R_e ?_)
   refine W_if rfl (fun c10=>?_) fun c10=>?_
   ·
    have d2:nth Q.2 (nth (nth m.nx (nth P.1 k).toNat) j).toNat=false:=by
      have z:=mt (hrq.mem (nth (nth m.nx (nth P.1 k).toNat) j) r2.1 r2.2).1 (hn.1 ▸ c10)
      simpa using z
    refine W_t (R_mv t3 (R_fk t1 h1 (R_lk rfl h1 rfl rfl (R_mv t3 (R_mv t4 (R_idx_ms0 (i:=k) (@rfl V (V.ms 11 w2 0 (Q.1.length))) (@rfl V (iV ((k:Nat):Int))) h11 oB rfl (by omega) (R_load_mp (v:=(iV ((nth (Q.1) (k))))) rfl h11 (ldB_map (by omega) (by first|rfl|(rw [cF_eq]; rfl)|simp [ldV,V.one])) ?_)))))))
    refine R_idxI (i:=((nth (Q.1) (k)))) (@rfl V (intss m.nx)) (@rfl V (iV ((nth (Q.1) (k))))) (by omega) (by omega) rfl (R_load_pp rfl rfl (R_mv t5 (R_idx (i:=j) (@rfl V (ints ((nth (m.nx) ((nth (Q.1) (k))).toNat)))) (@rfl V (iV ((j:Nat):Int))) (by omega) rfl (R_load_pp rfl rfl (R_bslice rfl rfl (R_append1 (l:=Q.1) (f:=cI) (x:=(((nth ((nth (m.nx) ((nth (Q.1) (k))).toNat)) (j))))) (@rfl V (V.ms 11 w2 0 (Q.1.length))) h11 (by first|rfl|simp|omega) (@rfl V (V.sl [[(iV ((nth ((nth (m.nx) ((nth (Q.1) (k))).toNat)) (j))))]])) rfl rfl (by omega) (by omega) (R_mv rfl ?_)))))))
    refine R_e (n9 _ _ (.done (W_t (R_mv t5 (R_addN rfl (@rfl V (iV ((1:Nat):Int))) (by omega) (R_mv rfl (R_e ?_)))))))
    refine p17 _ _ _ ?_ ⟨(j+1),(w2+1),(stpR Q (nth (nth m.nx (nth P.1 k).toNat) j)),rfl,t1,(Eq.trans (@rfl V (V.ms 11 (w2+1) 0 (Q.1.length+1))) (by first|rfl|(rw [stp_no d2,List.length_append]; rfl)|(rw [stp_yes d2]; done)|(rw [← e9]; done))),t4,(Eq.trans (@rfl V (iV ((j+1:Nat):Int))) (by first|rfl|(rw [stp_no d2,List.length_append]; rfl)|(rw [stp_yes d2]; done)|(rw [← e9]; done))),h1,(Eq.trans (@rfl Blk (bk (w2+1) 3 1 (List.map cI (Q.1++[((nth ((nth (m.nx) ((nth (Q.1) (k))).toNat)) (j)))])))) (by first|rfl|(rw [stp_no d2,hn.1]; done)|(rw [stp_yes d2]; done)|(rw [← e9]; done))),?_,?_,?_,?_⟩
    · omega
    · omega
    · rw [fold_step (by omega),← hq]
    · exact hrq.step r2.1 r2.2
    · exact stp_keep hn (by omega)
   have d2:nth Q.2 (nth (nth m.nx (nth P.1 k).toNat) j).toNat=true:=(hrq.mem (nth (nth m.nx (nth P.1 k).toNat) j) r2.1 r2.2).2 (Decidable.not_not.1 (hn.1 ▸ c10))
   refine W_skip (n9 _ _ (.done (W_t (R_mv t5 (R_addN rfl (@rfl V (iV ((1:Nat):Int))) (by omega) (R_mv rfl (R_e ?_)))))))
   refine p17 _ _ _ ?_ ⟨(j+1),w2,(stpR Q (nth (nth m.nx (nth P.1 k).toNat) j)),rfl,t1,(Eq.trans t3 (by first|rfl|(rw [stp_no d2,List.length_append]; rfl)|(rw [stp_yes d2]; done)|(rw [← e9]; done))),t4,(Eq.trans (@rfl V (iV ((j+1:Nat):Int))) (by first|rfl|(rw [stp_no d2,List.length_append]; rfl)|(rw [stp_yes d2]; done)|(rw [← e9]; done))),h1,(Eq.trans h11 (by first|rfl|(rw [stp_no d2,hn.1]; done)|(rw [stp_yes d2]; done)|(rw [← e9]; done))),?_,?_,?_,?_⟩
   · omega
   · omega
   · rw [fold_step (by omega),← hq]
   · exact hrq.step r2.1 r2.2
   · exact stp_keep hn (by omega)
  have e9:Q=rowR m P k:=by rw [hq]; unfold rowR; rw [List.take_of_length_le (by omega)]
  refine W_seq_exit (p37 _ _ _ (x6 _ _ (n5 _ _ (.done (W_t (R_mv t4 (R_addN rfl (@rfl V (iV ((1:Nat):Int))) (by omega) ?_)))))))
  refine R_mv rfl (R_e ?_)
  refine p13 _ _ _ ?_ ⟨(k+1),w2,(rowR m P k),rfl,t1,(Eq.trans t3 (by first|rfl|(rw [stp_no d2,List.length_append]; rfl)|(rw [stp_yes d2]; done)|(rw [← e9]; done))),(Eq.trans (@rfl V (iV ((k+1:Nat):Int))) (by first|rfl|(rw [stp_no d2,List.length_append]; rfl)|(rw [stp_yes d2]; done)|(rw [← e9]; done))),h1,(Eq.trans h11 (by first|rfl|(rw [stp_no d2,hn.1]; done)|(rw [stp_yes d2]; done)|(rw [← e9]; done))),?_,?_,?_⟩
  · omega
  · obtain ⟨x,hx⟩:=fold_grow (nth m.nx (nth P.1 k).toNat) P
    have hg:(rowR m P k).1=P.1++x:=hx
    rw [hg,List.length_append]; omega
  · exact hr.row hm (by omega)
  · rw [hc,bfs_go (by omega) (by omega)]
 refine W_seq_exit (p33 _ _ _ (x2 _ _ (.done (W_r (R_mv t3 (R_mv rfl (R_e ?_)))))))
 refine W_ret ?_
 refine Ret_1 (@rfl V (V.ms 11 w 0 (P.1.length))) (fz_ms h11 (by first|rfl|simp) (l:=P.1) rfl (by first|rfl|simp|omega) (fun _=>by simp) ?_)
 · rw [rch,if_neg (by omega),hc,bfs_end (by omega)]
def b50_0:SC:=.seq (.seq (.reg [qM 6 5,qM 7 0,qN 8 7,qP 9 .lss 6 8]) (.cond (.t 9) (.skip) (.exit 0))) (.seq (.block 1 (.seq (.reg [qM 12 0,qM 13 5,qA 14 1 12 13,ql 15 14,qM 16 1,qP 17 .eql 15 16]) (.cond (.t 17) (.seq (.reg [qM 18 5,qM 4 18]) (.ret)) (.skip)))) (.reg [qM 10 5,qC 11 .add 10 1,qM 5 11]))
def s50:SF:=⟨19,[.tmp 4],.seq (.reg [qI 4 0]) (.seq (.seq (.reg [qI 5 0]) (.block 0 (.loop b50_0))) (.seq (.reg [qI 4 0]) (.ret)))⟩
theorem s50_ok:slimF Tryz.prog ⟨[58,129,130,131,149,155,161,182,183,185,191,192,208,209,210,224,228,231,236],[],[],[]⟩ Tryz.f50=some s50:=by kernel_rfl
theorem index06_pure (l:List Int) (n:Int) (hn:n∈l):PureC Tryz.prog 50 [(ints l),(iV (n))] (iV (idL l n)):=by
 refine pW Tryz.func50 s50_ok fun hB=>?_
 unfold s50
 dsimp only
 have q0:=idL_in hn
 refine W_r (R_mv rfl (R_e (W_seq_seq (W_r (R_mv rfl (R_e (W_seq_blockg fun Q1 n1 x1 y1 z1=>?_)))))))
 refine W_loop (fun mm T H=> ∃ (k:Nat),mm=l.length - k∧T 0=(ints l)∧T 1=(iV (n))∧T 5=(iV ((k:Nat):Int))∧(k≤l.length)∧(idL l n=fi (fun j=>decide (nth l j=n)) k (l.length - k))) ?_ ?_
 ·
  refine ⟨_,0,rfl,rfl,rfl,(Eq.trans (@rfl V (iV (0:Int))) rfl),?_,?_⟩
  · omega
  · rfl
 intro mm T H ⟨k,hmm,t0,t1,t5,hk,hc⟩ Q2 p12 p22 p32
 unfold b50_0
 refine W_seq_seq (W_r (R_mv t5 (R_mv t0 (R_len rfl (R_lss rfl rfl (R_e ?_))))))
 refine W_seq_if rfl (fun c3=>?_) fun c3=>?_
 ·
  refine W_seq_skip (W_seq_blockg fun Q4 n4 x4 y4 z4=>(W_r (R_mv t0 (R_mv t5 (R_idx (i:=k) (@rfl V (ints l)) (@rfl V (iV ((k:Nat):Int))) (by omega) rfl (R_load_pp rfl rfl (R_mv t1 ?_)))))))
  refine R_eql rfl rfl (R_e ?_)
  refine W_if rfl (fun c5=>?_) fun c5=>?_
  ·
   have d1:=c5
   refine W_r (R_mv t5 (R_mv rfl (R_e (W_ret (y4 _ _ (p22 _ _ (y1 _ _ ?_)))))))
   refine Ret_1 (@rfl V (iV ((k:Nat):Int))) (fz_int ?_)
   · rw [hc,fi_hit (p:=fun j=>decide (nth l j=n)) (decide_eq_true d1) (by omega)]
  have d1:=c5
  refine W_skip (n4 _ _ (.done (W_t (R_mv t5 (R_addN rfl (@rfl V (iV ((1:Nat):Int))) (by omega) (R_mv rfl (R_e ?_)))))))
  refine p12 _ _ _ ?_ ⟨(k+1),rfl,t0,t1,(Eq.trans (@rfl V (iV ((k+1:Nat):Int))) (by first|rfl|simp)),?_,?_⟩
  · omega
  · omega
  · rw [hc,fi_skip (p:=fun j=>decide (nth l j=n)) (decide_eq_false d1) (by omega)]
 refine W_seq_exit (p32 _ _ _ (x1 _ _ (.done (W_r (R_mv rfl (R_e (W_ret ?_)))))))
 refine Ret_1 (@rfl V (iV (0:Int))) (fz_int ?_)
 · exfalso; rw [hc,fi_end (by omega)] at q0; omega
theorem rtrim_pure (m:M):PureC Tryz.prog 22 [(V.agg [(iV (m.i)),(iV (m.s)),(intss m.nx),(intss m.ot)])] (V.tup [(V.agg [(iV ((trR m).i)),(iV ((trR m).s)),(intss ((trR m).nx)),(intss ((trR m).ot))]),(iV (mval m))]):=by
 refine pW Tryz.func22 s22_ok fun hB=>?_
 unfold s22
 dsimp only
 refine W_r (R_box (i:=1) (n:=0) (m:=4) (cs:=[(iV (m.i)),(iV (m.s)),(intss m.nx),(intss m.ot)]) rfl (congrArg Blk.ver rfl) rfl rfl rfl (R_alloc (i:=2) (n:=0) (m:=4) rfl (congrArg Blk.ver rfl) rfl (R_mv rfl (R_e (W_seq_seq (W_r (R_lk rfl rfl rfl rfl ?_)))))))
 refine R_callk (rvalid_pure m) rfl (R_mv rfl (R_e (W_seq_seq (W_r (R_mv rfl (R_neq rfl rfl (R_e ?_)))))))
 refine W_seq_if rfl (fun c1=>?_) fun c1=>?_
 ·
  have d0:=c1
  refine W_seq_seq (W_r (R_build rfl rfl (R_mv rfl (R_store (vs:=[(iV (0:Int)),(iV (0:Int)),V.nilsl,V.nilsl]) (B':=(bk 1 24 4 [[(iV (0:Int)),(iV (0:Int)),V.nilsl,V.nilsl]])) rfl rfl rfl rfl (sB oB rfl rfl rfl rfl rfl) (R_mv rfl (R_e (W_seq_ret ?_)))))))
  refine RetC_2 (resV_c (u:=(V.agg [(iV (0:Int)),(iV (0:Int)),V.nilsl,V.nilsl])) rfl (@rfl Blk (bk 1 24 4 [[(iV (0:Int)),(iV (0:Int)),V.nilsl,V.nilsl]])) (lB oB rfl rfl)) (resV_t (@rfl V (iV (mval m)))) (fz_aggL (mcons (fz_int ?_) (mcons (fz_int ?_) (mcons (fz_nil ?_) (mcons (fz_nil ?_) rfl))))) (fz_canon (by simp) rfl)
  · rw [trR,if_neg d0]; try rfl
  · rw [trR,if_neg d0]; try rfl
  · rw [trR,if_neg d0]; try rfl
  · rw [trR,if_neg d0]; try rfl
 have d0:=c1
 have hm:mval m=0:=by omega
 have mo:=mval_ok hm
 have rc:=rch_RC hm
 have rl:=rc.len
 have me:=mo.2.2.2.2.2.2.1
 refine W_seq_skip (W_r (R_lk rfl rfl rfl rfl (R_callk (rreach_pure m) rfl (R_mv rfl (R_e (W_r (R_fk rfl rfl ?_)))))))
 refine R_lk rfl rfl rfl rfl (R_build rfl rfl (R_alloc (i:=6) (n:=0) (m:=4) rfl (congrArg Blk.ver rfl) rfl (R_store (vs:=[(iV (m.i)),(iV (0:Int)),V.nilsl,V.nilsl]) (B':=(bk 1 24 4 [[(iV (m.i)),(iV (0:Int)),V.nilsl,V.nilsl]])) rfl rfl rfl rfl (sB oB rfl rfl rfl rfl rfl) (R_e (W_seq_seq ?_)))))
 refine W_seq_g (fun T H=>T 1=(V.mp 1 1 0 0)∧T 2=(V.mp 2 1 0 0)∧T 5=(ints (rch m))∧T 6=(V.mp 6 1 0 0)∧T 7=(iV (0:Int))∧H 1=(bk 1 24 4 [[(iV (m.i)),(iV (m.s)),(intss m.nx),(intss m.ot)]])∧H 2=(bk 1 24 4 [[(iV (0:Int)),(iV (0:Int)),V.nilsl,V.nilsl]])∧H 6=(bk 1 24 4 [[(iV (m.i)),(iV (0:Int)),V.nilsl,V.nilsl]])∧H 8=(⟨0,false,false,0,0,[]⟩:Blk)∧H 9=(⟨0,false,false,0,0,[]⟩:Blk)∧H 812=(⟨0,false,false,0,0,[]⟩:Blk)∧H 813=(⟨0,false,false,0,0,[]⟩:Blk)∧True) ?_ ?_
 ·
  refine R_mv rfl ?_
  exact R_nil ⟨rfl,rfl,rfl,rfl,rfl,rfl,rfl,rfl,rfl,rfl,rfl,rfl,trivial⟩
 intro T H ⟨t1,t2,t5,t6,t7,h1,h2,h6,h8,h9,h812,h813,_⟩
 refine .lazyCell 812 38 1 6 0 2 [(iV (m.i)),(iV (0:Int)),V.nilsl,V.nilsl] (by decide) (by rw [h6]; rfl) (by rw [h6]; rfl) rfl (fork_ (R:=fun T H=>T 1=(V.mp 1 1 0 0)∧T 2=(V.mp 2 1 0 0)∧T 5=(ints (rch m))∧T 6=(V.mp 6 1 0 0)∧T 7=(iV (0:Int))∧H 1=(bk 1 24 4 [[(iV (m.i)),(iV (m.s)),(intss m.nx),(intss m.ot)]])∧H 2=(bk 1 24 4 [[(iV (0:Int)),(iV (0:Int)),V.nilsl,V.nilsl]])∧H 6=(bk 1 24 4 [[(iV (m.i)),(iV (0:Int)),(V.ms 812 1 0 (0)),V.nilsl]])∧H 8=(⟨0,false,false,0,0,[]⟩:Blk)∧H 9=(⟨0,false,false,0,0,[]⟩:Blk)∧H 812=(bz 1 38 1 [])∧H 813=(⟨0,false,false,0,0,[]⟩:Blk)∧True) ⟨t1,t2,t5,t6,t7,((upd_ne _ _ (by decide)).trans ((upd_ne _ _ (by decide)).trans h1)),((upd_ne _ _ (by decide)).trans ((upd_ne _ _ (by decide)).trans h2)),(by rw [upd_same,h6,(congrArg Blk.ver h812)]; rfl),((upd_ne _ _ (by decide)).trans ((upd_ne _ _ (by decide)).trans h8)),((upd_ne _ _ (by decide)).trans ((upd_ne _ _ (by decide)).trans h9)),(by rw [upd_ne _ _ (by decide),upd_same,(congrArg Blk.ver h812)]),((upd_ne _ _ (by decide)).trans ((upd_ne _ _ (by decide)).trans h813)),trivial⟩ ?_)
 intro T H ⟨t1,t2,t5,t6,t7,h1,h2,h6,h8,h9,h812,h813,_⟩
 refine .lazyCell 813 38 1 6 0 3 [(iV (m.i)),(iV (0:Int)),(V.ms 812 1 0 (0)),V.nilsl] (by decide) (by rw [h6]; rfl) (by rw [h6]; rfl) rfl (.done ?_)
 refine fork_ (R:=fun T H=>T 1=(V.mp 1 1 0 0)∧T 2=(V.mp 2 1 0 0)∧T 5=(ints (rch m))∧T 6=(V.mp 6 1 0 0)∧T 7=(iV (0:Int))∧H 1=(bk 1 24 4 [[(iV (m.i)),(iV (m.s)),(intss m.nx),(intss m.ot)]])∧H 2=(bk 1 24 4 [[(iV (0:Int)),(iV (0:Int)),V.nilsl,V.nilsl]])∧H 6=(bk 1 24 4 [[(iV (m.i)),(iV (0:Int)),(V.ms 812 1 0 (0)),(V.ms 813 1 0 (0))]])∧H 8=(⟨0,false,false,0,0,[]⟩:Blk)∧H 9=(⟨0,false,false,0,0,[]⟩:Blk)∧H 812=(bz 1 38 1 [])∧H 813=(bz 1 38 1 [])∧True) ⟨t1,t2,t5,t6,t7,((upd_ne _ _ (by decide)).trans ((upd_ne _ _ (by decide)).trans h1)),((upd_ne _ _ (by decide)).trans ((upd_ne _ _ (by decide)).trans h2)),(by rw [upd_same,h6,(congrArg Blk.ver h813)]; rfl),((upd_ne _ _ (by decide)).trans ((upd_ne _ _ (by decide)).trans h8)),((upd_ne _ _ (by decide)).trans ((upd_ne _ _ (by decide)).trans h9)),((upd_ne _ _ (by decide)).trans ((upd_ne _ _ (by decide)).trans h812)),(by rw [upd_ne _ _ (by decide),upd_same,(congrArg Blk.ver h813)]),trivial⟩ ?_
 intro T H ⟨t1,t2,t5,t6,t7,h1,h2,h6,h8,h9,h812,h813,_⟩
 refine W_seq_blockg fun Q2 n2 x2 y2 z2=>?_
 refine W_loop (fun mm T H=> ∃ (k:Nat) (v:Nat) (w:Nat) (v8:Nat) (v9:Nat),mm=(rch m).length - k∧T 1=(V.mp 1 1 0 0)∧T 2=(V.mp 2 1 0 0)∧T 5=(ints (rch m))∧T 6=(V.mp 6 1 0 0)∧T 7=(iV ((k:Nat):Int))∧H 1=(bk 1 24 4 [[(iV (m.i)),(iV (m.s)),(intss m.nx),(intss m.ot)]])∧H 2=(bk 1 24 4 [[(iV (0:Int)),(iV (0:Int)),V.nilsl,V.nilsl]])∧H 6=(bk 1 24 4 [[(iV (m.i)),(iV (0:Int)),(V.ms 812 v 0 (k)),(V.ms 813 w 0 (k))]])∧((H 8).ver=v8∧(H 8).live=false)∧((H 9).ver=v9∧(H 9).live=false)∧H 812=(bz v 38 1 (List.map cL (tbl (tNx m) k)))∧H 813=(bz w 38 1 (List.map cL (tbl (tOt m) k)))∧(k≤(rch m).length)) ?_ ?_
 ·
  refine ⟨_,0,1,1,0,0,rfl,t1,t2,t5,t6,(Eq.trans t7 rfl),h1,h2,h6,⟨(congrArg Blk.ver h8),congrArg Blk.live h8⟩,⟨(congrArg Blk.ver h9),congrArg Blk.live h9⟩,(Eq.trans h812 (by first|rfl|(rw [tbl_succ]; first|done|rfl)|(rw [tbl_succ,List.map_append]; first|done|rfl)|(rw [tbl_succ,ej]; first|done|rfl)|(rw [tbl_succ,eo]; first|done|rfl)|(rw [tbl_succ,List.map_append,ej]; first|done|rfl)|(rw [tbl_succ,List.map_append,eo]; first|done|rfl)|(simp; done))),(Eq.trans h813 (by first|rfl|(rw [tbl_succ]; first|done|rfl)|(rw [tbl_succ,List.map_append]; first|done|rfl)|(rw [tbl_succ,ej]; first|done|rfl)|(rw [tbl_succ,eo]; first|done|rfl)|(rw [tbl_succ,List.map_append,ej]; first|done|rfl)|(rw [tbl_succ,List.map_append,eo]; first|done|rfl)|(simp; done))),?_⟩
  · exact Nat.zero_le _
 intro mm T H ⟨k,v,w,v8,v9,hmm,t1,t2,t5,t6,t7,h1,h2,h6,h8,h9,h812,h813,hk⟩ Q3 p13 p23 p33
 unfold b22_0
 refine W_seq_seq (W_r (R_mv t7 (R_mv t5 (R_len rfl (R_lss rfl rfl (R_e ?_))))))
 refine W_seq_if rfl (fun c4=>?_) fun c4=>?_
 ·
  have rk:=rc.rng k (by omega)
  have rr:=mo.2.2.2.2.2.2.2 (nth (rch m) k).toNat (by omega)
  refine W_seq_skip (W_seq_blockg fun Q5 n5 x5 y5 z5=>(W_r (R_lazy (i:=8) (n:=v8) rfl (h8).1 (R_lazy (i:=9) (n:=v9) rfl (h9).1 (R_e (W_seq_seq (W_r ?_)))))))
  refine R_mv rfl (R_e (W_seq_blockg fun Q6 n6 x6 y6 z6=>?_))
  refine W_loop (fun mm T H=> ∃ (j:Nat) (v2:Nat) (w2:Nat),mm=m.i.toNat - j∧T 1=(V.mp 1 1 0 0)∧T 2=(V.mp 2 1 0 0)∧T 5=(ints (rch m))∧T 6=(V.mp 6 1 0 0)∧T 7=(iV ((k:Nat):Int))∧T 8=(V.ms 8 v2 0 (j))∧T 9=(V.ms 9 w2 0 (j))∧T 10=(iV ((j:Nat):Int))∧H 1=(bk 1 24 4 [[(iV (m.i)),(iV (m.s)),(intss m.nx),(intss m.ot)]])∧H 2=(bk 1 24 4 [[(iV (0:Int)),(iV (0:Int)),V.nilsl,V.nilsl]])∧H 6=(bk 1 24 4 [[(iV (m.i)),(iV (0:Int)),(V.ms 812 v 0 (k)),(V.ms 813 w 0 (k))]])∧H 8=(bz v2 3 1 (List.map cI (tbl (tNxA m k) j)))∧H 9=(bz w2 3 1 (List.map cI (tbl (tOtA m k) j)))∧H 812=(bz v 38 1 (List.map cL (tbl (tNx m) k)))∧H 813=(bz w 38 1 (List.map cL (tbl (tOt m) k)))∧(j≤m.i.toNat)) ?_ ?_
  ·
   refine ⟨_,0,(v8+1),(v9+1),rfl,t1,t2,t5,t6,t7,(Eq.trans (@rfl V (V.ms 8 (v8+1) 0 (0))) (by first|rfl|simp)),(Eq.trans (@rfl V (V.ms 9 (v9+1) 0 (0))) (by first|rfl|simp)),(Eq.trans (@rfl V (iV (0:Int))) rfl),h1,h2,h6,(Eq.trans (@rfl Blk (bz (v8+1) 3 1 [])) (by first|rfl|(rw [tbl_succ]; first|done|rfl)|(rw [tbl_succ,List.map_append]; first|done|rfl)|(rw [tbl_succ,ej]; first|done|rfl)|(rw [tbl_succ,eo]; first|done|rfl)|(rw [tbl_succ,List.map_append,ej]; first|done|rfl)|(rw [tbl_succ,List.map_append,eo]; first|done|rfl)|(simp; done))),(Eq.trans (@rfl Blk (bz (v9+1) 3 1 [])) (by first|rfl|(rw [tbl_succ]; first|done|rfl)|(rw [tbl_succ,List.map_append]; first|done|rfl)|(rw [tbl_succ,ej]; first|done|rfl)|(rw [tbl_succ,eo]; first|done|rfl)|(rw [tbl_succ,List.map_append,ej]; first|done|rfl)|(rw [tbl_succ,List.map_append,eo]; first|done|rfl)|(simp; done))),h812,h813,?_⟩
   · exact Nat.zero_le _
  intro mm T H ⟨j,v2,w2,hmm,t1,t2,t5,t6,t7,t8,t9,t10,h1,h2,h6,h8,h9,h812,h813,hj⟩ Q7 p17 p27 p37
  unfold b22_1
  refine W_seq_seq (W_r (R_mv t10 (R_fk t1 h1 (R_lk rfl h1 rfl rfl (R_lss rfl rfl (R_e ?_))))))
  refine W_seq_if rfl (fun c8=>?_) fun c8=>?_
  ·
   have rj:=rr.2.2 j (by omega)
   have rin:=rc.clo k (by omega) _ (nth_mem (show j < (nth m.nx (nth (rch m) k).toNat).length by omega))
   refine W_seq_skip (W_seq_blockg fun Q9 n9 x9 y9 z9=>(W_r (R_mv t8 (R_mv t5 (R_fk t1 h1 (R_lk rfl h1 rfl rfl (R_mv t5 ?_)))))))
   refine R_mv t7 (R_idx (i:=k) (@rfl V (ints (rch m))) (@rfl V (iV ((k:Nat):Int))) (by omega) rfl (R_load_pp rfl rfl (R_idxI (i:=((nth (rch m) (k)))) (@rfl V (intss m.nx)) (@rfl V (iV ((nth (rch m) (k))))) (by omega) (by omega) rfl (R_load_pp rfl rfl (R_mv t10 (R_idx (i:=j) (@rfl V (ints ((nth (m.nx) ((nth (rch m) (k))).toNat)))) (@rfl V (iV ((j:Nat):Int))) (by omega) rfl (R_load_pp rfl rfl ?_)))))))
   refine R_callk (index06_pure (rch m) (((nth ((nth (m.nx) ((nth (rch m) (k))).toNat)) (j)))) rin) rfl (R_bslice rfl rfl (R_append1 (l:=(tbl (tNxA m k) j)) (f:=cI) (x:=((idL (rch m) (((nth ((nth (m.nx) ((nth (rch m) (k))).toNat)) (j))))))) (@rfl V (V.ms 8 v2 0 (j))) h8 (by first|rfl|exact (tbl_len _ _).symm|simp|omega) (@rfl V (V.sl [[(iV (idL (rch m) (((nth ((nth (m.nx) ((nth (rch m) (k))).toNat)) (j))))))]])) rfl rfl (by omega) (by omega) (R_mv rfl (R_e (W_t (R_mv t9 (R_fk t1 h1 ?_)))))))
   refine R_lk rfl h1 rfl rfl (R_mv t5 (R_mv t7 (R_idx (i:=k) (@rfl V (ints (rch m))) (@rfl V (iV ((k:Nat):Int))) (by omega) rfl (R_load_pp rfl rfl (R_idxI (i:=((nth (rch m) (k)))) (@rfl V (intss m.ot)) (@rfl V (iV ((nth (rch m) (k))))) (by omega) (by omega) rfl (R_load_pp rfl rfl (R_mv t10 ?_)))))))
   refine R_idx (i:=j) (@rfl V (ints ((nth (m.ot) ((nth (rch m) (k))).toNat)))) (@rfl V (iV ((j:Nat):Int))) (by omega) rfl (R_load_pp rfl rfl (R_bslice rfl rfl (R_append1 (l:=(tbl (tOtA m k) j)) (f:=cI) (x:=(((nth ((nth (m.ot) ((nth (rch m) (k))).toNat)) (j))))) (@rfl V (V.ms 9 w2 0 (j))) h9 (by first|rfl|exact (tbl_len _ _).symm|simp|omega) (@rfl V (V.sl [[(iV ((nth ((nth (m.ot) ((nth (rch m) (k))).toNat)) (j))))]])) rfl rfl (by omega) (by omega) (R_mv rfl (R_e (n9 _ _ (.done ?_)))))))
   refine W_t (R_mv t10 (R_addN rfl (@rfl V (iV ((1:Nat):Int))) (by omega) (R_mv rfl (R_e ?_))))
   refine p17 _ _ _ ?_ ⟨(j+1),(v2+1),(w2+1),rfl,t1,t2,t5,t6,t7,(Eq.trans (@rfl V (V.ms 8 (v2+1) 0 (j+1))) (by first|rfl|simp)),(Eq.trans (@rfl V (V.ms 9 (w2+1) 0 (j+1))) (by first|rfl|simp)),(Eq.trans (@rfl V (iV ((j+1:Nat):Int))) (by first|rfl|simp)),h1,h2,h6,(Eq.trans (@rfl Blk (bz (v2+1) 3 1 (List.map cI (tbl (tNxA m k) j++[(idL (rch m) (((nth ((nth (m.nx) ((nth (rch m) (k))).toNat)) (j)))))])))) (by first|rfl|(rw [tbl_succ]; first|done|rfl)|(rw [tbl_succ,List.map_append]; first|done|rfl)|(rw [tbl_succ,ej]; first|done|rfl)|(rw [tbl_succ,eo]; first|done|rfl)|(rw [tbl_succ,List.map_append,ej]; first|done|rfl)|(rw [tbl_succ,List.map_append,eo]; first|done|rfl)|(simp; done))),(Eq.trans (@rfl Blk (bz (w2+1) 3 1 (List.map cI (tbl (tOtA m k) j++[((nth ((nth (m.ot) ((nth (rch m) (k))).toNat)) (j)))])))) (by first|rfl|(rw [tbl_succ]; first|done|rfl)|(rw [tbl_succ,List.map_append]; first|done|rfl)|(rw [tbl_succ,ej]; first|done|rfl)|(rw [tbl_succ,eo]; first|done|rfl)|(rw [tbl_succ,List.map_append,ej]; first|done|rfl)|(rw [tbl_succ,List.map_append,eo]; first|done|rfl)|(simp; done))),h812,h813,?_⟩
   · omega
   · omega
  have ej:tNx m k=tbl (tNxA m k) j:=by unfold tNx; rw [show m.i.toNat=j by omega]
  have eo:tOt m k=tbl (tOtA m k) j:=by unfold tOt; rw [show m.i.toNat=j by omega]
  refine W_seq_exit (p37 _ _ _ (x6 _ _ (fork_ (R:=fun T H=>T 1=(V.mp 1 1 0 0)∧T 2=(V.mp 2 1 0 0)∧T 5=(ints (rch m))∧T 6=(V.mp 6 1 0 0)∧T 7=(iV ((k:Nat):Int))∧T 8=(V.ms 8 v2 0 (j))∧T 9=(V.ms 9 w2 0 (j))∧T 10=(iV ((j:Nat):Int))∧T 31=(V.bool (decide (((j:Nat):Int) < (m.i))))∧H 1=(bk 1 24 4 [[(iV (m.i)),(iV (m.s)),(intss m.nx),(intss m.ot)]])∧H 2=(bk 1 24 4 [[(iV (0:Int)),(iV (0:Int)),V.nilsl,V.nilsl]])∧H 6=(bk 1 24 4 [[(iV (m.i)),(iV (0:Int)),(V.ms 812 v 0 (k)),(V.ms 813 w 0 (k))]])∧H 8=(bz v2 3 1 (List.map cI (tbl (tNxA m k) j)))∧H 9=(bz w2 3 1 (List.map cI (tbl (tOtA m k) j)))∧H 812=(bz v 38 1 (List.map cL (tbl (tNx m) k)))∧H 813=(bz w 38 1 (List.map cL (tbl (tOt m) k)))∧True) ⟨t1,t2,t5,t6,t7,t8,t9,t10,(@rfl V (V.bool (decide (((j:Nat):Int) < (m.i))))),h1,h2,h6,h8,h9,h812,h813,trivial⟩ ?_)))
  intro T H ⟨t1,t2,t5,t6,t7,t8,t9,t10,t31,h1,h2,h6,h8,h9,h812,h813,_⟩
  refine .freeze 8 (.done ?_)
  refine fork_ (R:=fun T H=>T 1=(V.mp 1 1 0 0)∧T 2=(V.mp 2 1 0 0)∧T 5=(ints (rch m))∧T 6=(V.mp 6 1 0 0)∧T 7=(iV ((k:Nat):Int))∧T 8=(ints (tbl (tNxA m k) j))∧T 9=(V.ms 9 w2 0 (j))∧T 10=(iV ((j:Nat):Int))∧T 31=(V.bool (decide (((j:Nat):Int) < (m.i))))∧H 1=(bk 1 24 4 [[(iV (m.i)),(iV (m.s)),(intss m.nx),(intss m.ot)]])∧H 2=(bk 1 24 4 [[(iV (0:Int)),(iV (0:Int)),V.nilsl,V.nilsl]])∧H 6=(bk 1 24 4 [[(iV (m.i)),(iV (0:Int)),(V.ms 812 v 0 (k)),(V.ms 813 w 0 (k))]])∧((H 8).ver=v2∧(H 8).live=false)∧H 9=(bz w2 3 1 (List.map cI (tbl (tOtA m k) j)))∧H 812=(bz v 38 1 (List.map cL (tbl (tNx m) k)))∧H 813=(bz w 38 1 (List.map cL (tbl (tOt m) k)))∧True) ⟨(fzT_q t1 rfl),(fzT_q t2 rfl),(fzT_q t5 rfl),(fzT_q t6 rfl),(fzT_q t7 rfl),(fzT_q t8 (fzq_own h8 (by first|rfl|simp) (l:=(tbl (tNxA m k) j)) rfl (by first|rfl|exact (tbl_len _ _).symm|simp|omega))),(fzT_q t9 (fzq_other (by decide))),(fzT_q t10 rfl),(fzT_q t31 rfl),(kill_ne h1 (by decide)),(kill_ne h2 (by decide)),(kill_ne h6 (by decide)),(kill_self (congrArg Blk.ver h8)),(kill_ne h9 (by decide)),(kill_ne h812 (by decide)),(kill_ne h813 (by decide)),trivial⟩ ?_
  intro T H ⟨t1,t2,t5,t6,t7,t8,t9,t10,t31,h1,h2,h6,h8,h9,h812,h813,_⟩
  refine W_seq_g (fun T H=>T 1=(V.mp 1 1 0 0)∧T 2=(V.mp 2 1 0 0)∧T 5=(ints (rch m))∧T 6=(V.mp 6 1 0 0)∧T 7=(iV ((k:Nat):Int))∧T 9=(V.ms 9 w2 0 (j))∧H 1=(bk 1 24 4 [[(iV (m.i)),(iV (m.s)),(intss m.nx),(intss m.ot)]])∧H 2=(bk 1 24 4 [[(iV (0:Int)),(iV (0:Int)),V.nilsl,V.nilsl]])∧H 6=(bk 1 24 4 [[(iV (m.i)),(iV (0:Int)),(V.ms 812 (v+1) 0 (k+1)),(V.ms 813 w 0 (k))]])∧((H 8).ver=v2∧(H 8).live=false)∧H 9=(bz w2 3 1 (List.map cI (tbl (tOtA m k) j)))∧H 812=(bz (v+1) 38 1 (List.map cL (tbl (tNx m) k++[tbl (tNxA m k) j])))∧H 813=(bz w 38 1 (List.map cL (tbl (tOt m) k)))∧True) ?_ ?_
  ·
   refine R_fk t6 h6 (R_lk rfl h6 rfl rfl (R_mv t8 (R_bslice rfl rfl (R_append1 (l:=(tbl (tNx m) k)) (f:=cL) (x:=(tbl (tNxA m k) j)) (@rfl V (V.ms 812 v 0 (k))) h812 (by first|rfl|exact (tbl_len _ _).symm|simp|omega) (@rfl V (V.sl [[(ints (tbl (tNxA m k) j))]])) rfl rfl (by omega) (by omega) (R_fk t6 h6 (R_store (vs:=[(V.ms 812 (v+1) 0 (k+1))]) (B':=(bk 1 24 4 [[(iV (m.i)),(iV (0:Int)),(V.ms 812 (v+1) 0 (k+1)),(V.ms 813 w 0 (k))]])) rfl rfl rfl h6 (sB oB rfl rfl rfl rfl rfl) ?_))))))
   exact R_nil ⟨t1,t2,t5,t6,t7,t9,h1,h2,rfl,h8,h9,rfl,h813,trivial⟩
  intro T H ⟨t1,t2,t5,t6,t7,t9,h1,h2,h6,h8,h9,h812,h813,_⟩
  refine .freeze 9 (.done ?_)
  refine fork_ (R:=fun T H=>T 1=(V.mp 1 1 0 0)∧T 2=(V.mp 2 1 0 0)∧T 5=(ints (rch m))∧T 6=(V.mp 6 1 0 0)∧T 7=(iV ((k:Nat):Int))∧T 9=(ints (tbl (tOtA m k) j))∧H 1=(bk 1 24 4 [[(iV (m.i)),(iV (m.s)),(intss m.nx),(intss m.ot)]])∧H 2=(bk 1 24 4 [[(iV (0:Int)),(iV (0:Int)),V.nilsl,V.nilsl]])∧H 6=(bk 1 24 4 [[(iV (m.i)),(iV (0:Int)),(V.ms 812 (v+1) 0 (k+1)),(V.ms 813 w 0 (k))]])∧((H 8).ver=v2∧(H 8).live=false)∧((H 9).ver=w2∧(H 9).live=false)∧H 812=(bz (v+1) 38 1 (List.map cL (tbl (tNx m) k++[tbl (tNxA m k) j])))∧H 813=(bz w 38 1 (List.map cL (tbl (tOt m) k)))∧True) ⟨(fzT_q t1 rfl),(fzT_q t2 rfl),(fzT_q t5 rfl),(fzT_q t6 rfl),(fzT_q t7 rfl),(fzT_q t9 (fzq_own h9 (by first|rfl|simp) (l:=(tbl (tOtA m k) j)) rfl (by first|rfl|exact (tbl_len _ _).symm|simp|omega))),(kill_ne h1 (by decide)),(kill_ne h2 (by decide)),(kill_ne h6 (by decide)),(kill_dead h8),(kill_self (congrArg Blk.ver h9)),(kill_ne h812 (by decide)),(kill_ne h813 (by decide)),trivial⟩ ?_
  intro T H ⟨t1,t2,t5,t6,t7,t9,h1,h2,h6,h8,h9,h812,h813,_⟩
  refine W_t (R_fk t6 h6 (R_lk rfl h6 rfl rfl (R_mv t9 (R_bslice rfl rfl (R_append1 (l:=(tbl (tOt m) k)) (f:=cL) (x:=(tbl (tOtA m k) j)) (@rfl V (V.ms 813 w 0 (k))) h813 (by first|rfl|exact (tbl_len _ _).symm|simp|omega) (@rfl V (V.sl [[(ints (tbl (tOtA m k) j))]])) rfl rfl (by omega) (by omega) (R_fk t6 h6 (R_store (vs:=[(V.ms 813 (w+1) 0 (k+1))]) (B':=(bk 1 24 4 [[(iV (m.i)),(iV (0:Int)),(V.ms 812 (v+1) 0 (k+1)),(V.ms 813 (w+1) 0 (k+1))]])) rfl rfl rfl h6 (sB oB rfl rfl rfl rfl rfl) ?_)))))))
  refine R_e (n5 _ _ (.done (W_t (R_mv t7 (R_addN rfl (@rfl V (iV ((1:Nat):Int))) (by omega) (R_mv rfl (R_e ?_)))))))
  refine p13 _ _ _ ?_ ⟨(k+1),(v+1),(w+1),v2,w2,rfl,t1,t2,t5,t6,(Eq.trans (@rfl V (iV ((k+1:Nat):Int))) (by first|rfl|simp)),h1,h2,(Eq.trans (@rfl Blk (bk 1 24 4 [[(iV (m.i)),(iV (0:Int)),(V.ms 812 (v+1) 0 (k+1)),(V.ms 813 (w+1) 0 (k+1))]])) (by first|rfl|(rw [tbl_succ]; first|done|rfl)|(rw [tbl_succ,List.map_append]; first|done|rfl)|(rw [tbl_succ,ej]; first|done|rfl)|(rw [tbl_succ,eo]; first|done|rfl)|(rw [tbl_succ,List.map_append,ej]; first|done|rfl)|(rw [tbl_succ,List.map_append,eo]; first|done|rfl)|(simp; done))),h8,h9,(Eq.trans h812 (by first|rfl|(rw [tbl_succ]; first|done|rfl)|(rw [tbl_succ,List.map_append]; first|done|rfl)|(rw [tbl_succ,ej]; first|done|rfl)|(rw [tbl_succ,eo]; first|done|rfl)|(rw [tbl_succ,List.map_append,ej]; first|done|rfl)|(rw [tbl_succ,List.map_append,eo]; first|done|rfl)|(simp; done))),(Eq.trans (@rfl Blk (bz (w+1) 38 1 (List.map cL (tbl (tOt m) k++[tbl (tOtA m k) j])))) (by first|rfl|(rw [tbl_succ]; first|done|rfl)|(rw [tbl_succ,List.map_append]; first|done|rfl)|(rw [tbl_succ,ej]; first|done|rfl)|(rw [tbl_succ,eo]; first|done|rfl)|(rw [tbl_succ,List.map_append,ej]; first|done|rfl)|(rw [tbl_succ,List.map_append,eo]; first|done|rfl)|(simp; done))),?_⟩
  · omega
  · omega
 refine W_seq_exit (p33 _ _ _ (x2 _ _ (.done (W_r (R_lk t6 h6 rfl rfl (R_store (vs:=[(iV (m.i)),(iV (0:Int)),(V.ms 812 v 0 (k)),(V.ms 813 w 0 (k))]) (B':=(bk 1 24 4 [[(iV (m.i)),(iV (0:Int)),(V.ms 812 v 0 (k)),(V.ms 813 w 0 (k))]])) t2 rfl rfl h2 (sB oB rfl rfl rfl rfl rfl) (R_mv rfl ?_)))))))
 refine R_e (W_ret ?_)
 refine RetC_2 (resV_c (u:=(V.agg [(iV (m.i)),(iV (0:Int)),(V.ms 812 v 0 (k)),(V.ms 813 w 0 (k))])) t2 (@rfl Blk (bk 1 24 4 [[(iV (m.i)),(iV (0:Int)),(V.ms 812 v 0 (k)),(V.ms 813 w 0 (k))]])) (lB oB rfl rfl)) (resV_t (@rfl V (iV (0:Int)))) (fz_aggL (mcons (fz_int ?_) (mcons (fz_int ?_) (mcons (fz_ms h812 (by first|rfl|simp) (l:=(tbl (tNx m) k)) rfl (by first|rfl|exact (tbl_len _ _).symm|simp|omega) (fun _=>by simp) ?_) (mcons (fz_ms h813 (by first|rfl|simp) (l:=(tbl (tOt m) k)) rfl (by first|rfl|exact (tbl_len _ _).symm|simp|omega) (fun _=>by simp) ?_) rfl))))) (fz_int ?_)
 · rw [trR,if_pos hm,trm_tbl hm]; try first|rfl|(rw [show k=(rch m).length by omega]; done)|(rw [show k=(rch m).length by omega]; rfl)
 · rw [trR,if_pos hm,trm_tbl hm]; try first|rfl|(rw [show k=(rch m).length by omega]; done)|(rw [show k=(rch m).length by omega]; rfl)
 · rw [trR,if_pos hm,trm_tbl hm]; try first|rfl|(rw [show k=(rch m).length by omega]; done)|(rw [show k=(rch m).length by omega]; rfl)
 · rw [trR,if_pos hm,trm_tbl hm]; try first|rfl|(rw [show k=(rch m).length by omega]; done)|(rw [show k=(rch m).length by omega]; rfl)
 · exact hm.symm
def b36_0:SC:=.seq (.seq (.reg [qM 11 7,qM 12 2,qP 13 .lss 11 12]) (.cond (.t 13) (.skip) (.exit 0))) (.seq (.block 1 (.seq (.reg [qL 16 4 3,qM 17 1,qF 18 1 3,ql 19 18,qM 20 7,sO 21 (.call false 61 [.t 16,.t 17,.t 19,.t 20])]) (.cond (.t 21) (.seq (.reg [sO 6 (.mv (.c (.bool false)))]) (.ret)) (.skip)))) (.reg [qM 14 7,qC 15 .add 14 1,qM 7 15]))
def r36_13:List SO:=[
 qL 36 4 3,
 qM 37 1,
 qM 38 2,
 qM 39 8,
 qM 40 9,
 qA 41 1 39 40,
 ql 42 41,
 qM 43 10,
 sO 44 (.call false 62 [.t 36,.t 37,.t 38,.t 42,.t 43]),
 sO 45 (.un .not (.t 44))]
def b36_2:SC:=.seq (.seq (.reg [qM 30 10,qF 31 0 3,ql 32 31,qP 33 .lss 30 32]) (.cond (.t 33) (.skip) (.exit 4))) (.seq (.block 5 (.seq (.reg r36_13) (.cond (.t 45) (.seq (.reg [sO 6 (.mv (.c (.bool false)))]) (.ret)) (.skip)))) (.reg [qM 34 10,qC 35 .add 34 1,qM 10 35]))
def b36_1:SC:=.seq (.seq (.reg [qM 24 9,qM 25 8,qN 26 25,qP 27 .lss 24 26]) (.cond (.t 27) (.skip) (.exit 2))) (.seq (.block 3 (.seq (.reg [qI 10 0]) (.block 4 (.loop b36_2)))) (.reg [qM 28 9,qC 29 .add 28 1,qM 9 29]))
def s36:SF:=⟨46,[.tmp 6],.seq (.reg [sO 3 (.box 24 4 (.t 0)),sO 6 (.mv (.c (.bool false)))]) (.seq (.seq (.reg [qI 7 0]) (.block 0 (.loop b36_0))) (.seq (.reg [qL 22 4 3,sO 23 (.call false 49 [.t 22]),qM 8 23]) (.seq (.seq (.reg [qI 9 0]) (.block 2 (.loop b36_1))) (.seq (.reg [sO 6 (.mv (.c (.bool true)))]) (.ret)))))⟩
theorem s36_ok:slimF Tryz.prog ⟨[58,129,130,131,149,155,161,182,183,185,191,192,208,209,210,224,228,231,236],[],[],[]⟩ Tryz.f36=some s36:=by kernel_rfl
def r61_1:List SO:=[
 qF 9 3 4,
 ql 10 9,
 qM 11 2,
 qA 12 1 10 11,
 ql 13 12,
 qM 14 1,
 qM 15 3,
 qP 16 .add 14 15,
 qA 17 1 13 16,
 ql 18 17,
 qC 19 .neq 18 0,
 qM 8 19]
def s61:SF:=⟨20,[.tmp 8],.seq (.reg [sO 4 (.box 24 4 (.t 0)),sO 8 (.mv (.c (.bool false)))]) (.seq (.reg r61_1) (.ret))⟩
theorem s61_ok:slimF Tryz.prog ⟨[58,129,130,131,149,155,161,182,183,185,191,192,208,209,210,224,228,231,236],[],[],[]⟩ Tryz.f61=some s61:=by kernel_rfl
theorem runs_pure (m:M) (inp s:Int) (x:Nat) (hs:0≤s∧s < m.ot.length) (hi:0≤inp∧inp≤64) (hx:inp+(x:Int) < (nth m.ot s.toNat).length∧x≤64):PureC Tryz.prog 61 [(V.agg [(iV (m.i)),(iV (m.s)),(intss m.nx),(intss m.ot)]),(iV (inp)),(iV (s)),(iV ((x:Nat):Int))] (V.bool (runB m inp s.toNat x)):=by
 refine pW Tryz.func61 s61_ok fun hB=>?_
 unfold s61
 dsimp only
 refine W_r (R_box (i:=4) (n:=0) (m:=4) (cs:=[(iV (m.i)),(iV (m.s)),(intss m.nx),(intss m.ot)]) rfl (congrArg Blk.ver rfl) rfl rfl rfl (R_mv rfl (R_e (W_r (R_fk rfl rfl (R_lk rfl rfl rfl rfl (R_mv rfl ?_)))))))
 refine R_idxI (i:=(s)) (@rfl V (intss m.ot)) (@rfl V (iV (s))) (by omega) (by omega) rfl (R_load_pp rfl rfl (R_mv rfl (R_mv rfl (R_add rfl rfl (by omega) (by omega) (R_idxI (i:=((inp)+((x:Nat):Int))) (@rfl V (ints ((nth (m.ot) (s).toNat)))) (@rfl V (iV ((inp)+((x:Nat):Int)))) (by omega) (by omega) rfl (R_load_pp rfl rfl (R_neq rfl rfl ?_)))))))
 refine R_mv rfl (R_e (W_ret ?_))
 refine Ret_1 (@rfl V (V.bool (decide (((nth ((nth (m.ot) (s).toNat)) ((inp)+((x:Nat):Int)).toNat))≠(0:Int))))) (fz_bool ?_)
 · rfl
def r62_1:List SO:=[
 qF 17 3 5,
 ql 18 17,
 qM 19 3,
 qA 20 1 18 19,
 ql 21 20,
 qM 22 4,
 qA 23 1 21 22,
 ql 24 23,
 qF 25 2 5,
 ql 26 25,
 qM 27 3,
 qA 28 1 26 27,
 ql 29 28,
 qM 30 4,
 qA 31 1 29 30,
 ql 32 31,
 qM 11 24,
 qM 12 32]
def r62_3:List SO:=[
 qM 35 4,
 qM 36 1,
 qP 37 .geq 35 36,
 qM 38 37,
 ⟨some (38,true),some 39,.mv (.t 12)⟩,
 ⟨some (38,true),some 40,.mv (.t 3)⟩,
 ⟨some (38,true),some 41,.bin .eql (.t 39) (.t 40)⟩,
 sO 42 (.pick (.t 38) (.t 41) (.c (.bool false))),
 qM 10 42]
def r62_4:List SO:=[
 qM 44 11,
 qM 45 2,
 sO 46 (.call false 37 [.t 44,.t 45]),
 qM 43 46,
 qE 47 43 0,
 qE 48 43 1,
 sO 14 (.alloc 73 [.int .i64 0,.int .i64 0]),
 qM 13 47,
 sN (.store 2 (.t 14) (.t 48))]
def r62_8:List SO:=[
 qL 54 4 5,
 qM 55 1,
 qM 56 3,
 qM 57 15,
 sO 58 (.call false 61 [.t 54,.t 55,.t 56,.t 57]),
 qM 59 58,
 ⟨some (59,true),some 60,.mv (.t 4)⟩,
 ⟨some (59,true),some 61,.mv (.t 1)⟩,
 ⟨some (59,true),some 62,.mv (.t 15)⟩,
 ⟨some (59,true),some 63,.bin .add (.t 61) (.t 62)⟩,
 ⟨some (59,true),some 64,.bin .neq (.t 60) (.t 63)⟩,
 sO 65 (.pick (.t 59) (.t 64) (.c (.bool false))),
 qM 16 65]
def r62_10:List SO:=[
 qF 70 1 14,
 ql 71 70,
 qC 72 .eql 71 0,
 qM 73 72,
 ⟨some (73,true),some 74,.mv (.t 16)⟩,
 ⟨some (73,true),some 75,.un .not (.t 74)⟩,
 sO 76 (.pick (.t 73) (.t 75) (.c (.bool false)))]
def r62_13:List SO:=[
 qL 80 4 5,
 qM 81 1,
 qM 82 12,
 qM 83 15,
 sO 84 (.call false 61 [.t 80,.t 81,.t 82,.t 83]),
 qM 85 16,
 sO 86 (.bbin .neq (.t 84) (.t 85))]
def b62_0:SC:=.seq (.seq (.reg [qM 49 15,qM 50 2,qP 51 .lss 49 50]) (.cond (.t 51) (.skip) (.exit 0))) (.seq (.block 1 (.seq (.reg r62_8) (.seq (.seq (.reg [qF 66 0 14,ql 67 66,qM 68 15,qP 69 .eql 67 68]) (.cond (.t 69) (.seq (.seq (.reg r62_10) (.cond (.t 76) (.seq (.reg [sO 10 (.mv (.c (.bool false)))]) (.ret)) (.skip))) (.reg [qF 77 1 14,ql 78 77,qC 79 .gtr 78 0,qM 16 79])) (.skip))) (.seq (.reg r62_13) (.cond (.t 86) (.seq (.reg [sO 10 (.mv (.c (.bool false)))]) (.ret)) (.skip)))))) (.reg [qM 52 15,qC 53 .add 52 1,qM 15 53]))
def s62:SF:=⟨87,[.tmp 10],.seq (.reg [sO 5 (.box 24 4 (.t 0)),sO 10 (.mv (.c (.bool false)))]) (.seq (.reg r62_1) (.seq (.seq (.reg [qM 33 11,qC 34 .eql 33 0]) (.cond (.t 34) (.seq (.reg r62_3) (.ret)) (.skip))) (.seq (.reg r62_4) (.seq (.seq (.reg [qI 15 0]) (.block 0 (.loop b62_0))) (.seq (.reg [sO 10 (.mv (.c (.bool true)))]) (.ret))))))⟩
theorem s62_ok:slimF Tryz.prog ⟨[58,129,130,131,149,155,161,182,183,185,191,192,208,209,210,224,228,231,236],[],[],[]⟩ Tryz.f62=some s62:=by kernel_rfl
def r37_4:List SO:=[
 qM 16 0,
 qC 17 .sub 16 1,
 qM 18 6,
 qP 19 .quo 17 18,
 sO 20 (.build [.int .i64 0,.int .i64 0] [(0,1,.c (.int .i64 (-1)))]),
 qM 4 19,
 sN (.store 2 (.t 5) (.t 20))]
def r37_5:List SO:=[
 qM 21 0,
 qC 22 .sub 21 1,
 qM 23 6,
 qP 24 .quo 22 23,
 qM 25 7,
 qC 26 .sub 25 1,
 qC 27 .quo 26 1001,
 qM 28 7,
 qC 29 .sub 28 1,
 qC 30 .rem 29 1001,
 sO 31 (.build [.int .i64 0,.int .i64 0] [(0,1,.t 27),(1,1,.t 30)]),
 qM 4 24,
 sN (.store 2 (.t 5) (.t 31))]
def s37:SF:=⟨32,[.tmp 4,.cell 5 true 2],.seq (.reg [qI 4 0,sO 5 (.alloc 73 [.int .i64 0,.int .i64 0])]) (.seq (.reg [qM 8 1,sO 9 (.call false 47 [.t 8]),qM 6 9]) (.seq (.reg [qM 10 0,qC 11 .sub 10 1,qM 12 6,qP 13 .rem 11 12,qM 7 13]) (.seq (.seq (.reg [qM 14 7,qC 15 .eql 14 0]) (.cond (.t 15) (.seq (.reg r37_4) (.ret)) (.skip))) (.seq (.reg r37_5) (.ret)))))⟩
theorem s37_ok:slimF Tryz.prog ⟨[58,129,130,131,149,155,161,182,183,185,191,192,208,209,210,224,228,231,236],[],[],[]⟩ Tryz.f37=some s37:=by kernel_rfl
def s47:SF:=⟨6,[.tmp 2],.seq (.reg [qI 2 0]) (.seq (.reg [qM 3 0,qC 4 .mul 3 1001,sO 5 (.bin .add (.c (.int .i64 1)) (.t 4)),qM 2 5]) (.ret))⟩
theorem s47_ok:slimF Tryz.prog ⟨[58,129,130,131,149,155,161,182,183,185,191,192,208,209,210,224,228,231,236],[],[],[]⟩ Tryz.f47=some s47:=by kernel_rfl
theorem scale_pure (tm:Int) (ht:0≤tm∧tm≤4):PureC Tryz.prog 47 [(iV (tm))] (iV (sgK tm)):=by
 refine pW Tryz.func47 s47_ok fun hB=>?_
 unfold s47
 dsimp only
 refine W_r (R_mv rfl (R_e (W_r (R_mv rfl (R_mul rfl rfl (by omega) (by omega) (R_add rfl rfl (by omega) (by omega) (R_mv rfl ?_)))))))
 refine R_e (W_ret ?_)
 refine Ret_1 (@rfl V (iV ((1:Int)+((tm)*(1001:Int))))) (fz_int ?_)
 · rfl
theorem parts_pure (o tm:Int) (ho:1≤o∧o≤1048576) (ht:0≤tm∧tm≤4):PureC Tryz.prog 37 [(iV (o)),(iV (tm))] (V.tup [(iV ((o - 1) / sgK tm)),(V.agg [(iV ((sgC ((o - 1) % sgK tm)).1)),(iV ((sgC ((o - 1) % sgK tm)).2))])]):=by
 refine pW Tryz.func37 s37_ok fun hB=>?_
 unfold s37
 dsimp only
 have hK:0 < sgK tm:=by unfold sgK; omega
 have h1:=emod_rng (a:=o - 1) (k:=sgK tm) (by omega) hK
 refine W_r (R_mv rfl (R_alloc (i:=5) (n:=0) (m:=2) rfl (congrArg Blk.ver rfl) rfl (R_e (W_r (R_mv rfl (R_callk (scale_pure ((tm)) ht) rfl (R_mv rfl ?_)))))))
 refine R_e (W_r (R_mv rfl (R_sub rfl rfl (by omega) (by omega) (R_mv rfl (R_remI (x:=((o) - (1:Int))) (y:=(sgK ((tm)))) rfl rfl (by omega) (by omega) (R_mv rfl (R_e ?_)))))))
 refine W_seq_seq (W_r (R_mv rfl (R_eql rfl rfl (R_e ?_))))
 refine W_seq_if rfl (fun c1=>?_) fun c1=>?_
 ·
  refine W_seq_seq (W_r (R_mv rfl (R_sub rfl rfl (by omega) (by omega) (R_mv rfl (R_quoI (x:=((o) - (1:Int))) (y:=(sgK ((tm)))) rfl rfl (by omega) (by omega) (R_build rfl rfl (R_mv rfl ?_)))))))
  refine R_sk rfl rfl rfl rfl rfl rfl rfl rfl rfl (R_e (W_seq_ret ?_))
  refine RetC_2 (resV_t (@rfl V (iV ((((o) - (1:Int))) / ((sgK ((tm)))))))) (resV_c (u:=(V.agg [(iV (-1:Int)),(iV (0:Int))])) rfl (@rfl Blk (bk 1 73 2 [[(iV (-1:Int)),(iV (0:Int))]])) (lB oB rfl rfl)) (fz_int ?_) (fz_agg2 (fz_int ?_) (fz_int ?_))
  · first|rfl|rw [show sgC ((o - 1) % sgK tm)=(-1,0) from if_pos (by assumption)]
  · first|rfl|rw [show sgC ((o - 1) % sgK tm)=(-1,0) from if_pos (by assumption)]
  · first|rfl|rw [show sgC ((o - 1) % sgK tm)=(-1,0) from if_pos (by assumption)]
 refine W_seq_skip (W_r (R_mv rfl (R_sub rfl rfl (by omega) (by omega) (R_mv rfl (R_quoI (x:=((o) - (1:Int))) (y:=(sgK ((tm)))) rfl rfl (by omega) (by omega) (R_mv rfl (R_sub rfl rfl (by omega) (by omega) ?_)))))))
 refine R_quoI (x:=(((((o) - (1:Int))) % ((sgK ((tm))))) - (1:Int))) (y:=(1001:Int)) rfl rfl (by omega) (by omega) (R_mv rfl (R_sub rfl rfl (by omega) (by omega) (R_remI (x:=(((((o) - (1:Int))) % ((sgK ((tm))))) - (1:Int))) (y:=(1001:Int)) rfl rfl (by omega) (by omega) (R_build rfl rfl (R_mv rfl (R_sk rfl rfl rfl rfl rfl rfl rfl rfl rfl (R_e ?_)))))))
 refine W_ret ?_
 refine RetC_2 (resV_t (@rfl V (iV ((((o) - (1:Int))) / ((sgK ((tm)))))))) (resV_c (u:=(V.agg [(iV (((((((o) - (1:Int))) % ((sgK ((tm))))) - (1:Int))) / ((1001:Int)))),(iV (((((((o) - (1:Int))) % ((sgK ((tm))))) - (1:Int))) % ((1001:Int))))])) rfl (@rfl Blk (bk 1 73 2 [[(iV (((((((o) - (1:Int))) % ((sgK ((tm))))) - (1:Int))) / ((1001:Int)))),(iV (((((((o) - (1:Int))) % ((sgK ((tm))))) - (1:Int))) % ((1001:Int))))]])) (lB oB rfl rfl)) (fz_int ?_) (fz_agg2 (fz_int ?_) (fz_int ?_))
 · first|rfl|rw [show sgC ((o - 1) % sgK tm)=(((o - 1) % sgK tm - 1) / 1001,((o - 1) % sgK tm - 1) % 1001) from if_neg (by assumption)]
 · first|rfl|rw [show sgC ((o - 1) % sgK tm)=(((o - 1) % sgK tm - 1) / 1001,((o - 1) % sgK tm - 1) % 1001) from if_neg (by assumption)]
 · first|rfl|rw [show sgC ((o - 1) % sgK tm)=(((o - 1) % sgK tm - 1) / 1001,((o - 1) % sgK tm - 1) % 1001) from if_neg (by assumption)]
theorem proper_pure (m:M) (inp tm s:Int) (i:Nat) (hm:mval m=0) (hi:1≤inp∧inp≤64) (ht:0≤tm∧tm≤4) (hq:m.i=inp+tm) (hs:0≤s∧s < m.nx.length) (hj:(i:Int) < m.i):PureC Tryz.prog 62 [(V.agg [(iV (m.i)),(iV (m.s)),(intss m.nx),(intss m.ot)]),(iV (inp)),(iV (tm)),(iV (s)),(iV ((i:Nat):Int))] (V.bool (prp m inp tm s.toNat i)):=by
 refine pW Tryz.func62 s62_ok fun hB=>?_
 unfold s62
 dsimp only
 have mo:=mval_ok hm
 have mr:=mo.2.2.2.2.2.2.2 s.toNat (by omega)
 have mc:=mr.2.2 i hj
 have me:=mo.2.2.2.2.2.2.1
 refine W_r (R_box (i:=5) (n:=0) (m:=4) (cs:=[(iV (m.i)),(iV (m.s)),(intss m.nx),(intss m.ot)]) rfl (congrArg Blk.ver rfl) rfl rfl rfl (R_mv rfl (R_e (W_r (R_fk rfl rfl (R_lk rfl rfl rfl rfl (R_mv rfl ?_)))))))
 refine R_idxI (i:=(s)) (@rfl V (intss m.ot)) (@rfl V (iV (s))) (by omega) (by omega) rfl (R_load_pp rfl rfl (R_mv rfl (R_idx (i:=i) (@rfl V (ints ((nth (m.ot) (s).toNat)))) (@rfl V (iV ((i:Nat):Int))) (by omega) rfl (R_load_pp rfl rfl (R_fk rfl rfl (R_lk rfl rfl rfl rfl (R_mv rfl ?_)))))))
 refine R_idxI (i:=(s)) (@rfl V (intss m.nx)) (@rfl V (iV (s))) (by omega) (by omega) rfl (R_load_pp rfl rfl (R_mv rfl (R_idx (i:=i) (@rfl V (ints ((nth (m.nx) (s).toNat)))) (@rfl V (iV ((i:Nat):Int))) (by omega) rfl (R_load_pp rfl rfl (R_mv rfl (R_mv rfl (R_e ?_)))))))
 refine W_seq_seq (W_r (R_mv rfl (R_eql rfl rfl (R_e ?_))))
 refine W_seq_if rfl (fun c1=>?_) fun c1=>?_
 ·
  have d1:=c1
  refine W_seq_seq (W_r (R_mv rfl (R_mv rfl (R_geq rfl rfl (R_mv rfl ?_)))))
  refine Ops_seg 4 (fun T H=>T 42=(V.bool (decide (((inp)≤((i:Nat):Int))∧(((nth ((nth (m.nx) (s).toNat)) (i)))=(s)))))∧H 5=(bk 1 24 4 [[(iV (m.i)),(iV (m.s)),(intss m.nx),(intss m.ot)]])∧H 14=(⟨0,false,false,0,0,[]⟩:Blk)∧True) ?_ ?_
  ·
   by_cases g2:(inp)≤((i:Nat):Int)
   ·
    refine G_yes (edT g2 rfl) (R_mv rfl (G_yes (edT g2 rfl) (R_mv rfl (G_yes (edT g2 rfl) (R_eql rfl rfl (R_pickT (edT g2 rfl) rfl ?_))))))
    exact ⟨(dec_andT g2),rfl,rfl,trivial⟩
   ·
    refine G_n (edF g2 rfl) (G_n (edF g2 rfl) (G_n (edF g2 rfl) (R_pickF (edF g2 rfl) rfl ?_)))
    exact ⟨(dec_andF g2),rfl,rfl,trivial⟩
  intro T H ⟨t42,h5,h14,_⟩
  refine R_mv t42 (R_e (W_seq_ret ?_))
  refine Ret_1 (@rfl V (V.bool (decide (((inp)≤((i:Nat):Int))∧(((nth ((nth (m.nx) (s).toNat)) (i)))=(s)))))) (fz_bool ?_)
  · first|exact (prp_0 hs.1 d1).symm|exact (prp_bad (x:=x) d1 (by omega) (prpX_1 w1 w2)).symm|exact (prp_bad (x:=x) d1 (by omega) ((prpX_2 w1 w2).trans (decide_eq_false (by rw [← ey]; exact bne_t w3)))).symm|exact (prp_bad (x:=x) d1 (by omega) ((prpX_3 w1).trans (decide_eq_false (bne_t w3)))).symm|exact (prp_all d1 (fun j hj=>hc j (by omega))).symm
 have d1:=c1
 have ey:sgC (((nth (nth m.ot s.toNat) i) - 1) % sgK tm)=oSg tm (nth (nth m.ot s.toNat) i):=by unfold oSg oCd; rw [if_pos (by omega)]
 refine W_seq_skip (W_r (R_mv rfl (R_mv rfl (R_callk (parts_pure (((nth ((nth (m.ot) (s).toNat)) (i)))) ((tm)) (by omega) ht) rfl (R_mv rfl (R_ext rfl rfl (R_ext rfl rfl ?_)))))))
 refine R_alloc (i:=14) (n:=0) (m:=2) rfl (congrArg Blk.ver rfl) rfl (R_mv rfl (R_sk rfl rfl rfl rfl rfl rfl rfl rfl rfl (R_e (W_seq_seq (W_r (R_mv rfl (R_e ?_)))))))
 refine W_seq_blockg fun Q3 n3 x3 y3 z3=>?_
 refine W_loop (fun mm T H=> ∃ (x:Nat),mm=tm.toNat - x∧T 1=(iV (inp))∧T 2=(iV (tm))∧T 3=(iV (s))∧T 4=(iV ((i:Nat):Int))∧T 5=(V.mp 5 1 0 0)∧T 12=(iV ((nth ((nth (m.nx) (s).toNat)) (i))))∧T 14=(V.mp 14 1 0 0)∧T 15=(iV ((x:Nat):Int))∧H 5=(bk 1 24 4 [[(iV (m.i)),(iV (m.s)),(intss m.nx),(intss m.ot)]])∧H 14=(bk 1 73 2 [[(iV ((sgC (((((nth ((nth (m.ot) (s).toNat)) (i)))) - 1) % sgK ((tm)))).1)),(iV ((sgC (((((nth ((nth (m.ot) (s).toNat)) (i)))) - 1) % sgK ((tm)))).2))]])∧(x≤tm.toNat)∧(∀ j,j < x→prpX m inp (oSg tm (nth (nth m.ot s.toNat) i)) s.toNat (nth (nth m.nx s.toNat) i).toNat i j=true)) ?_ ?_
 ·
  refine ⟨_,0,rfl,rfl,rfl,rfl,rfl,rfl,rfl,rfl,(Eq.trans (@rfl V (iV (0:Int))) rfl),rfl,rfl,?_,?_⟩
  · exact Nat.zero_le _
  · intro j hj; omega
 intro mm T H ⟨x,hmm,t1,t2,t3,t4,t5,t12,t14,t15,h5,h14,hx,hc⟩ Q4 p14 p24 p34
 unfold b62_0
 refine W_seq_seq (W_r (R_mv t15 (R_mv t2 (R_lss rfl rfl (R_e ?_)))))
 refine W_seq_if rfl (fun c5=>?_) fun c5=>?_
 ·
  refine W_seq_skip (W_seq_blockg fun Q6 n6 x6 y6 z6=>(W_r (R_lk t5 h5 rfl rfl (R_mv t1 (R_mv t3 (R_mv t15 (R_callk (runs_pure m ((inp)) ((s)) x (by first|exact ⟨by omega,by omega⟩) (by omega) (by first|omega|(have z:=(mo.2.2.2.2.2.2.2 (nth (nth m.nx s.toNat) i).toNat (by omega)).2.1; omega))) rfl ?_)))))))
  refine R_mv rfl ?_
  refine Ops_seg 6 (fun T H=>T 1=(iV (inp))∧T 2=(iV (tm))∧T 3=(iV (s))∧T 4=(iV ((i:Nat):Int))∧T 5=(V.mp 5 1 0 0)∧T 12=(iV ((nth ((nth (m.nx) (s).toNat)) (i))))∧T 14=(V.mp 14 1 0 0)∧T 15=(iV ((x:Nat):Int))∧T 65=(V.bool (((runB m ((inp)) ((s)).toNat x)&&decide (((i:Nat):Int)≠((inp)+((x:Nat):Int))))))∧H 5=(bk 1 24 4 [[(iV (m.i)),(iV (m.s)),(intss m.nx),(intss m.ot)]])∧H 14=(bk 1 73 2 [[(iV ((sgC (((((nth ((nth (m.ot) (s).toNat)) (i)))) - 1) % sgK ((tm)))).1)),(iV ((sgC (((((nth ((nth (m.ot) (s).toNat)) (i)))) - 1) % sgK ((tm)))).2))]])∧True) ?_ ?_
  ·
   by_cases g7:(runB m ((inp)) ((s)).toNat x)=true
   ·
    refine G_yes (ebT g7 rfl) (R_mv t4 (G_yes (ebT g7 rfl) (R_mv t1 (G_yes (ebT g7 rfl) (R_mv t15 (G_yes (ebT g7 rfl) (R_add rfl rfl (by omega) (by omega) ?_)))))))
    refine G_yes (ebT g7 rfl) (R_neq rfl rfl (R_pickT (ebT g7 rfl) rfl ?_))
    exact ⟨t1,t2,t3,t4,t5,t12,t14,t15,(bandT g7),h5,h14,trivial⟩
   ·
    refine G_n (ebF g7 rfl) (G_n (ebF g7 rfl) (G_n (ebF g7 rfl) (G_n (ebF g7 rfl) (G_n (ebF g7 rfl) (R_pickF (ebF g7 rfl) rfl ?_)))))
    exact ⟨t1,t2,t3,t4,t5,t12,t14,t15,(bandF g7),h5,h14,trivial⟩
  intro T H ⟨t1,t2,t3,t4,t5,t12,t14,t15,t65,h5,h14,_⟩
  refine R_mv t65 (R_e (W_seq_seq (W_r (R_fk t14 h14 (R_lk rfl h14 rfl rfl (R_mv t15 (R_eql rfl rfl ?_)))))))
  refine R_e ?_
  refine W_seq_if rfl (fun c8=>?_) fun c8=>?_
  ·
   have w1:(oSg tm (nth (nth m.ot s.toNat) i)).1=x:=ey ▸ c8
   refine W_seq_seq (W_seq_seq (W_r (R_fk t14 h14 (R_lk rfl h14 rfl rfl (R_eql rfl rfl (R_mv rfl ?_))))))
   refine Ops_seg 3 (fun T H=>T 1=(iV (inp))∧T 2=(iV (tm))∧T 3=(iV (s))∧T 4=(iV ((i:Nat):Int))∧T 5=(V.mp 5 1 0 0)∧T 12=(iV ((nth ((nth (m.nx) (s).toNat)) (i))))∧T 14=(V.mp 14 1 0 0)∧T 15=(iV ((x:Nat):Int))∧T 76=(V.bool ((decide (((sgC (((((nth ((nth (m.ot) (s).toNat)) (i)))) - 1) % sgK ((tm)))).2)=(0:Int))&&((!((runB m ((inp)) ((s)).toNat x)&&decide (((i:Nat):Int)≠((inp)+((x:Nat):Int)))))))))∧H 5=(bk 1 24 4 [[(iV (m.i)),(iV (m.s)),(intss m.nx),(intss m.ot)]])∧H 14=(bk 1 73 2 [[(iV ((sgC (((((nth ((nth (m.ot) (s).toNat)) (i)))) - 1) % sgK ((tm)))).1)),(iV ((sgC (((((nth ((nth (m.ot) (s).toNat)) (i)))) - 1) % sgK ((tm)))).2))]])∧True) ?_ ?_
   ·
    by_cases g9:((sgC (((((nth ((nth (m.ot) (s).toNat)) (i)))) - 1) % sgK ((tm)))).2)=(0:Int)
    ·
     refine G_yes (edT g9 rfl) (R_mv rfl (G_yes (edT g9 rfl) (R_notb rfl (R_pickT (edT g9 rfl) rfl ?_))))
     exact ⟨t1,t2,t3,t4,t5,t12,t14,t15,(dbandT g9),h5,h14,trivial⟩
    ·
     refine G_n (edF g9 rfl) (G_n (edF g9 rfl) (R_pickF (edF g9 rfl) rfl ?_))
     exact ⟨t1,t2,t3,t4,t5,t12,t14,t15,(dbandF g9),h5,h14,trivial⟩
   intro T H ⟨t1,t2,t3,t4,t5,t12,t14,t15,t76,h5,h14,_⟩
   refine R_e ?_
   refine W_seq_ifb t76 (fun c10=>?_) (fun c10=>?_)
   ·
    have w2:(decide ((oSg tm (nth (nth m.ot s.toNat) i)).2=0)&& !(run0 m inp s.toNat i x))=true:=ey ▸ c10
    refine W_seq_seq (W_r (R_mv rfl (R_e (W_seq_ret (y6 _ _ (p24 _ _ (y3 _ _ ?_)))))))
    refine Ret_1 (@rfl V (V.bool false)) (fz_bool ?_)
    · first|exact (prp_0 hs.1 d1).symm|exact (prp_bad (x:=x) d1 (by omega) (prpX_1 w1 w2)).symm|exact (prp_bad (x:=x) d1 (by omega) ((prpX_2 w1 w2).trans (decide_eq_false (by rw [← ey]; exact bne_t w3)))).symm|exact (prp_bad (x:=x) d1 (by omega) ((prpX_3 w1).trans (decide_eq_false (bne_t w3)))).symm|exact (prp_all d1 (fun j hj=>hc j (by omega))).symm
   have w2:(decide ((oSg tm (nth (nth m.ot s.toNat) i)).2=0)&& !(run0 m inp s.toNat i x))=false:=ey ▸ c10
   refine W_seq_skip (W_r (R_fk t14 h14 (R_lk rfl h14 rfl rfl (R_gtr rfl rfl (R_mv rfl (R_e (W_r ?_)))))))
   refine R_lk t5 h5 rfl rfl (R_mv t1 (R_mv t12 (R_mv t15 (R_callk (runs_pure m ((inp)) (((nth ((nth (m.nx) (s).toNat)) (i)))) x (by first|exact ⟨by omega,by omega⟩) (by omega) (by first|omega|(have z:=(mo.2.2.2.2.2.2.2 (nth (nth m.nx s.toNat) i).toNat (by omega)).2.1; omega))) rfl (R_mv rfl (R_bneq (x:=(runB m ((inp)) (((nth ((nth (m.nx) (s).toNat)) (i)))).toNat x)) (y:=decide ((0:Int) < ((sgC (((((nth ((nth (m.ot) (s).toNat)) (i)))) - 1) % sgK ((tm)))).2))) rfl rfl (R_e ?_)))))))
   refine W_ifb rfl (fun c11=>?_) (fun c11=>?_)
   ·
    have w3:=c11
    refine W_r (R_mv rfl (R_e (W_ret (y6 _ _ (p24 _ _ (y3 _ _ ?_))))))
    refine Ret_1 (@rfl V (V.bool false)) (fz_bool ?_)
    · first|exact (prp_0 hs.1 d1).symm|exact (prp_bad (x:=x) d1 (by omega) (prpX_1 w1 w2)).symm|exact (prp_bad (x:=x) d1 (by omega) ((prpX_2 w1 w2).trans (decide_eq_false (by rw [← ey]; exact bne_t w3)))).symm|exact (prp_bad (x:=x) d1 (by omega) ((prpX_3 w1).trans (decide_eq_false (bne_t w3)))).symm|exact (prp_all d1 (fun j hj=>hc j (by omega))).symm
   have w3:=c11
   have d9:prpX m inp (oSg tm (nth (nth m.ot s.toNat) i)) s.toNat (nth (nth m.nx s.toNat) i).toNat i x=true:=by
     first
       |exact (prpX_2 w1 w2).trans (decide_eq_true (by rw [← ey]; exact bne_f w3))
       |exact (prpX_3 w1).trans (decide_eq_true (bne_f w3))
   refine W_skip (n6 _ _ (.done (W_t (R_mv t15 (R_addN rfl (@rfl V (iV ((1:Nat):Int))) (by omega) (R_mv rfl (R_e ?_)))))))
   refine p14 _ _ _ ?_ ⟨(x+1),rfl,t1,t2,t3,t4,t5,t12,t14,(Eq.trans (@rfl V (iV ((x+1:Nat):Int))) (by first|rfl|simp)),h5,h14,?_,?_⟩
   · omega
   · omega
   · intro j hj
     by_cases e:j=x
     · subst e; exact d9
     · exact hc j (by omega)
  have w1:(oSg tm (nth (nth m.ot s.toNat) i)).1≠x:=ey ▸ c8
  refine W_seq_skip (W_r (R_lk t5 h5 rfl rfl (R_mv t1 (R_mv t12 (R_mv t15 (R_callk (runs_pure m ((inp)) (((nth ((nth (m.nx) (s).toNat)) (i)))) x (by first|exact ⟨by omega,by omega⟩) (by omega) (by first|omega|(have z:=(mo.2.2.2.2.2.2.2 (nth (nth m.nx s.toNat) i).toNat (by omega)).2.1; omega))) rfl (R_mv rfl ?_)))))))
  refine R_bneq (x:=(runB m ((inp)) (((nth ((nth (m.nx) (s).toNat)) (i)))).toNat x)) (y:=(((runB m ((inp)) ((s)).toNat x)&&decide (((i:Nat):Int)≠((inp)+((x:Nat):Int)))))) rfl rfl (R_e ?_)
  refine W_ifb rfl (fun c12=>?_) (fun c12=>?_)
  ·
   have w3:=c12
   refine W_r (R_mv rfl (R_e (W_ret (y6 _ _ (p24 _ _ (y3 _ _ ?_))))))
   refine Ret_1 (@rfl V (V.bool false)) (fz_bool ?_)
   · first|exact (prp_0 hs.1 d1).symm|exact (prp_bad (x:=x) d1 (by omega) (prpX_1 w1 w2)).symm|exact (prp_bad (x:=x) d1 (by omega) ((prpX_2 w1 w2).trans (decide_eq_false (by rw [← ey]; exact bne_t w3)))).symm|exact (prp_bad (x:=x) d1 (by omega) ((prpX_3 w1).trans (decide_eq_false (bne_t w3)))).symm|exact (prp_all d1 (fun j hj=>hc j (by omega))).symm
  have w3:=c12
  have d9:prpX m inp (oSg tm (nth (nth m.ot s.toNat) i)) s.toNat (nth (nth m.nx s.toNat) i).toNat i x=true:=by
    first
      |exact (prpX_2 w1 w2).trans (decide_eq_true (by rw [← ey]; exact bne_f w3))
      |exact (prpX_3 w1).trans (decide_eq_true (bne_f w3))
  refine W_skip (n6 _ _ (.done (W_t (R_mv t15 (R_addN rfl (@rfl V (iV ((1:Nat):Int))) (by omega) (R_mv rfl (R_e ?_)))))))
  refine p14 _ _ _ ?_ ⟨(x+1),rfl,t1,t2,t3,t4,t5,t12,t14,(Eq.trans (@rfl V (iV ((x+1:Nat):Int))) (by first|rfl|simp)),h5,h14,?_,?_⟩
  · omega
  · omega
  · intro j hj
    by_cases e:j=x
    · subst e; exact d9
    · exact hc j (by omega)
 refine W_seq_exit (p34 _ _ _ (x3 _ _ (.done (W_r (R_mv rfl (R_e (W_ret ?_)))))))
 refine Ret_1 (@rfl V (V.bool true)) (fz_bool ?_)
 · first|exact (prp_0 hs.1 d1).symm|exact (prp_bad (x:=x) d1 (by omega) (prpX_1 w1 w2)).symm|exact (prp_bad (x:=x) d1 (by omega) ((prpX_2 w1 w2).trans (decide_eq_false (by rw [← ey]; exact bne_t w3)))).symm|exact (prp_bad (x:=x) d1 (by omega) ((prpX_3 w1).trans (decide_eq_false (bne_t w3)))).symm|exact (prp_all d1 (fun j hj=>hc j (by omega))).symm
theorem rtimed_pure (m:M) (inp tm:Int) (hm:mval m=0) (hi:1≤inp∧inp≤64) (ht:0≤tm∧tm≤4) (hq:m.i=inp+tm):PureC Tryz.prog 36 [(V.agg [(iV (m.i)),(iV (m.s)),(intss m.nx),(intss m.ot)]),(iV (inp)),(iV (tm))] (V.bool (vldR m inp tm)):=by
 refine pW Tryz.func36 s36_ok fun hB=>?_
 unfold s36
 dsimp only
 have mo:=mval_ok hm
 have rc:=rch_RC hm
 have rl:=rc.len
 have ms:=(mo.2.2.2.2.2.2.2 m.s.toNat (by omega)).2.1
 refine W_r (R_box (i:=3) (n:=0) (m:=4) (cs:=[(iV (m.i)),(iV (m.s)),(intss m.nx),(intss m.ot)]) rfl (congrArg Blk.ver rfl) rfl rfl rfl (R_mv rfl (R_e (W_seq_seq (W_r (R_mv rfl (R_e ?_)))))))
 refine W_seq_blockg fun Q1 n1 x1 y1 z1=>?_
 refine W_loop (fun mm T H=> ∃ (x:Nat),mm=tm.toNat - x∧T 1=(iV (inp))∧T 2=(iV (tm))∧T 3=(V.mp 3 1 0 0)∧T 7=(iV ((x:Nat):Int))∧H 3=(bk 1 24 4 [[(iV (m.i)),(iV (m.s)),(intss m.nx),(intss m.ot)]])∧(x≤tm.toNat)∧(∀ j,j < x→runB m inp m.s.toNat j=false)) ?_ ?_
 ·
  refine ⟨_,0,rfl,rfl,rfl,rfl,(Eq.trans (@rfl V (iV (0:Int))) rfl),rfl,?_,?_⟩
  · exact Nat.zero_le _
  · intro j hj; omega
 intro mm T H ⟨x,hmm,t1,t2,t3,t7,h3,hx,hc⟩ Q2 p12 p22 p32
 unfold b36_0
 refine W_seq_seq (W_r (R_mv t7 (R_mv t2 (R_lss rfl rfl (R_e ?_)))))
 refine W_seq_if rfl (fun c3=>?_) fun c3=>?_
 ·
  refine W_seq_skip (W_seq_blockg fun Q4 n4 x4 y4 z4=>(W_r (R_lk t3 h3 rfl rfl (R_mv t1 (R_fk t3 h3 (R_lk rfl h3 rfl rfl (R_mv t7 ?_)))))))
  refine R_callk (runs_pure m ((inp)) ((m.s)) x ⟨by omega,by omega⟩ (by omega) (by omega)) rfl (R_e ?_)
  refine W_ifb rfl (fun c5=>?_) (fun c5=>?_)
  ·
   have d1:=c5
   refine W_r (R_mv rfl (R_e (W_ret (y4 _ _ (p22 _ _ (y1 _ _ ?_))))))
   refine Ret_1 (@rfl V (V.bool false)) (fz_bool ?_)
   · exact (vldR_f1 (x:=x) (by omega) d1).symm
  have d1:=c5
  refine W_skip (n4 _ _ (.done (W_t (R_mv t7 (R_addN rfl (@rfl V (iV ((1:Nat):Int))) (by omega) (R_mv rfl (R_e ?_)))))))
  refine p12 _ _ _ ?_ ⟨(x+1),rfl,t1,t2,t3,(Eq.trans (@rfl V (iV ((x+1:Nat):Int))) (by first|rfl|simp)),h3,?_,?_⟩
  · omega
  · omega
  · intro j hj
    by_cases e:j=x
    · subst e; simpa using d1
    · exact hc j (by omega)
 have d0:stpB m inp tm m.s.toNat=true:=all_rng.2 fun j hj=>by rw [hc j (by omega)]; rfl
 refine W_seq_exit (p32 _ _ _ (x1 _ _ (.done (W_r (R_lk t3 h3 rfl rfl (R_callk (rreach_pure m) rfl (R_mv rfl ?_)))))))
 refine R_e (W_seq_seq (W_r (R_mv rfl (R_e (W_seq_blockg fun Q6 n6 x6 y6 z6=>?_)))))
 refine W_loop (fun mm T H=> ∃ (k:Nat),mm=(rch m).length - k∧T 1=(iV (inp))∧T 2=(iV (tm))∧T 3=(V.mp 3 1 0 0)∧T 8=(ints (rch m))∧T 9=(iV ((k:Nat):Int))∧H 3=(bk 1 24 4 [[(iV (m.i)),(iV (m.s)),(intss m.nx),(intss m.ot)]])∧(k≤(rch m).length)∧(∀ j,j < k→rowB m inp tm (nth (rch m) j).toNat=true)) ?_ ?_
 ·
  refine ⟨_,0,rfl,t1,t2,t3,rfl,(Eq.trans (@rfl V (iV (0:Int))) rfl),h3,?_,?_⟩
  · exact Nat.zero_le _
  · intro j hj; omega
 intro mm T H ⟨k,hmm,t1,t2,t3,t8,t9,h3,hk,hc2⟩ Q7 p17 p27 p37
 unfold b36_1
 refine W_seq_seq (W_r (R_mv t9 (R_mv t8 (R_len rfl (R_lss rfl rfl (R_e ?_))))))
 refine W_seq_if rfl (fun c8=>?_) fun c8=>?_
 ·
  have d5:=rc.rng k (by omega)
  refine W_seq_skip (W_seq_blockg fun Q9 n9 x9 y9 z9=>(W_r (R_mv rfl (R_e (W_block fun Q10 n10 x10 y10 z10=>?_)))))
  refine W_loop (fun mm T H=> ∃ (i:Nat),mm=m.i.toNat - i∧T 1=(iV (inp))∧T 2=(iV (tm))∧T 3=(V.mp 3 1 0 0)∧T 8=(ints (rch m))∧T 9=(iV ((k:Nat):Int))∧T 10=(iV ((i:Nat):Int))∧H 3=(bk 1 24 4 [[(iV (m.i)),(iV (m.s)),(intss m.nx),(intss m.ot)]])∧(i≤m.i.toNat)∧(∀ j,j < i→prp m inp tm (nth (rch m) k).toNat j=true)) ?_ ?_
  ·
   refine ⟨_,0,rfl,t1,t2,t3,t8,t9,(Eq.trans (@rfl V (iV (0:Int))) rfl),h3,?_,?_⟩
   · exact Nat.zero_le _
   · intro j hj; omega
  intro mm T H ⟨i,hmm,t1,t2,t3,t8,t9,t10,h3,hi2,hc3⟩ Q11 p111 p211 p311
  unfold b36_2
  refine W_seq_seq (W_r (R_mv t10 (R_fk t3 h3 (R_lk rfl h3 rfl rfl (R_lss rfl rfl (R_e ?_))))))
  refine W_seq_if rfl (fun c12=>?_) fun c12=>?_
  ·
   refine W_seq_skip (W_seq_blockg fun Q13 n13 x13 y13 z13=>(W_r (R_lk t3 h3 rfl rfl (R_mv t1 (R_mv t2 (R_mv t8 (R_mv t9 ?_)))))))
   refine R_idx (i:=k) (@rfl V (ints (rch m))) (@rfl V (iV ((k:Nat):Int))) (by omega) rfl (R_load_pp rfl rfl (R_mv t10 (R_callk (proper_pure m ((inp)) ((tm)) (((nth (rch m) (k)))) i hm hi ht hq (by omega) (by omega)) rfl (R_notb rfl (R_e ?_)))))
   refine W_ifb rfl (fun c14=>?_) (fun c14=>?_)
   ·
    have d7:prp m inp tm (nth (rch m) k).toNat i=false:=by simpa using c14
    refine W_r (R_mv rfl (R_e (W_ret (y13 _ _ (p211 _ _ (y10 _ _ (y9 _ _ ?_)))))))
    refine p27 _ _ (y6 _ _ ?_)
    refine Ret_1 (@rfl V (V.bool false)) (fz_bool ?_)
    · exact (vldR_f2 (k:=k) (i:=i) (by omega) (by omega) d7).symm
   have d7:prp m inp tm (nth (rch m) k).toNat i=true:=by simpa using c14
   refine W_skip (n13 _ _ (.done (W_t (R_mv t10 (R_addN rfl (@rfl V (iV ((1:Nat):Int))) (by omega) (R_mv rfl (R_e ?_)))))))
   refine p111 _ _ _ ?_ ⟨(i+1),rfl,t1,t2,t3,t8,t9,(Eq.trans (@rfl V (iV ((i+1:Nat):Int))) (by first|rfl|simp)),h3,?_,?_⟩
   · omega
   · omega
   · intro j hj
     by_cases e:j=i
     · subst e; simpa using d7
     · exact hc3 j (by omega)
  have d6:rowB m inp tm (nth (rch m) k).toNat=true:=all_rng.2 fun j hj=>hc3 j (by omega)
  refine W_seq_exit (p311 _ _ _ (x10 _ _ (n9 _ _ (.done (W_t (R_mv t9 (R_addN rfl (@rfl V (iV ((1:Nat):Int))) (by omega) ?_)))))))
  refine R_mv rfl (R_e ?_)
  refine p17 _ _ _ ?_ ⟨(k+1),rfl,t1,t2,t3,t8,(Eq.trans (@rfl V (iV ((k+1:Nat):Int))) (by first|rfl|simp)),h3,?_,?_⟩
  · omega
  · omega
  · intro j hj
    by_cases e:j=k
    · subst e; exact d6
    · exact hc2 j (by omega)
 refine W_seq_exit (p37 _ _ _ (x6 _ _ (.done (W_r (R_mv rfl (R_e (W_ret ?_)))))))
 refine Ret_1 (@rfl V (V.bool true)) (fz_bool ?_)
 · exact (vldR_t d0 (fun j hj=>hc2 j (by omega))).symm
end Go.Proofs.YtilfohjlglefjaaGreat
