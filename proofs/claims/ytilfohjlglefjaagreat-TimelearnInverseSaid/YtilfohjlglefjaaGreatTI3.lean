/- Contracts of the functions that the law TI reaches, and the law itself, for every input; no condition. -/
import Derived.KernelRfl
import Derived.Test.YtilfohjlglefjaaGreatProg
import Derived.Test.YtilfohjlglefjaaGreatTI2
set_option linter.unusedSimpArgs false
set_option linter.unusedVariables false
namespace Go.Proofs.YtilfohjlglefjaaGreat
open Go Go.Proofs
def awf23:Fact:=(19,[(.agg [(iV 1),(iV 1),(iV 0),(.sl [[(.sl [[(iV 1)],[(iV 0)]])],[(.sl [[(iV 1)],[(iV 0)]])]]),(.sl [[(.sl [[(iV 1)],[(iV 3)]])],[(.sl [[(iV 2)],[(iV 0)]])]]),(.sl [[(.sl [[(iV 0),(iV 10)],[(iV (-1)),(iV 0)]])],[(.sl [[(iV 0),(iV 10)],[(iV (-1)),(iV 0)]])]])])],(.tup [(.agg [(iV 1),(iV 1),(iV 0),(.sl [[(.sl [[(iV 1)],[(iV 0)]])],[(.sl [[(iV 1)],[(iV 0)]])]]),(.sl [[(.sl [[(iV 1)],[(iV 0)]])],[(.sl [[(iV 2)],[(iV 0)]])]]),(.sl [[(.sl [[(iV 0),(iV 10)],[(iV (-1)),(iV 0)]])],[(.sl [[(iV 0),(iV 10)],[(iV (-1)),(iV 0)]])]])]),(iV 0)]))
theorem awf23_ok:PureC Tryz.prog awf23.1 awf23.2.1 awf23.2.2:=aw_of (l:=[awf0,awf5,awf10,awf15,awf22]) (fun p hp=>by
  simp only [List.mem_cons,List.not_mem_nil,or_false] at hp
  rcases hp with rfl|rfl|rfl|rfl|rfl
  · exact awf0_ok
  · exact awf5_ok
  · exact awf10_ok
  · exact awf15_ok
  · exact awf22_ok) rfl (by kernel_rfl)
theorem aw_learnerlaw42_awake_pure:PureC Tryz.prog 10 [] (.bool true):=aw_of (l:=[awf0,awf5,awf20,awf23]) (fun p hp=>by
  simp only [List.mem_cons,List.not_mem_nil,or_false] at hp
  rcases hp with rfl|rfl|rfl|rfl
  · exact awf0_ok
  · exact awf5_ok
  · exact awf20_ok
  · exact awf23_ok) rfl (by kernel_rfl)
theorem mvalid_pure (m:M):PureC Tryz.prog 30 [(V.agg [(iV (m.i)),(iV (m.s)),(intss m.nx),(intss m.ot)])] (iV (mval m)):=by
 refine pW Tryz.func30 s30_ok fun hB=>?_
 unfold s30
 dsimp only
 refine W_r (R_box (i:=1) (n:=0) (m:=4) (cs:=[(iV (m.i)),(iV (m.s)),(intss m.nx),(intss m.ot)]) rfl (congrArg Blk.ver rfl) rfl rfl rfl (R_mv rfl (R_e (W_r (R_fk rfl rfl (R_lk rfl rfl rfl rfl (R_len rfl ?_)))))))
 refine R_mv rfl (R_e (W_seq_blockg fun Q1 n1 x1 y1 z1=>(W_r (R_fk rfl rfl (R_lk rfl rfl rfl rfl (R_lss rfl rfl (R_mv rfl ?_)))))))
 refine Ops_seg 4 (fun T H=>T 1=(V.mp 1 1 0 0)∧T 3=(iV ((m.nx.length:Nat):Int))∧T 19=(V.bool (decide (((m.i) < (1:Int))∨((64:Int) < (m.i)))))∧H 1=(bk 1 24 4 [[(iV (m.i)),(iV (m.s)),(intss m.nx),(intss m.ot)]])∧True) ?_ ?_
 ·
  by_cases g2:(m.i) < (1:Int)
  ·
   refine G_n (edT g2 rfl) (G_n (edT g2 rfl) (G_n (edT g2 rfl) (R_pickT (edT g2 rfl) rfl ?_)))
   exact ⟨rfl,rfl,(dec_orT g2),rfl,trivial⟩
  ·
   refine G_yes (edF g2 rfl) (R_fk rfl rfl (G_yes (edF g2 rfl) (R_lk rfl rfl rfl rfl (G_yes (edF g2 rfl) (R_gtr rfl rfl (R_pickF (edF g2 rfl) rfl ?_))))))
   exact ⟨rfl,rfl,(dec_orF g2),rfl,trivial⟩
 intro T H ⟨t1,t3,t19,h1,_⟩
 refine R_mv t19 (R_e ?_)
 refine W_if rfl (fun c3=>?_) fun c3=>?_
 ·
  refine W_r (R_mv rfl (R_e (W_ret (y1 _ _ ?_))))
  refine Ret_1 (@rfl V (iV (2:Int))) (fz_int ?_)
  · rw [mval,if_pos (by omega)]
 refine W_r (R_mv t3 (R_eql rfl rfl (R_mv rfl (R_e ?_))))
 refine W_if rfl (fun c4=>?_) fun c4=>?_
 ·
  refine W_r (R_mv rfl (R_e (W_ret (y1 _ _ ?_))))
  refine Ret_1 (@rfl V (iV (19:Int))) (fz_int ?_)
  · rw [mval,if_neg (by omega),if_pos (by omega)]
 refine W_r (R_mv t3 (R_gtr rfl rfl (R_mv rfl (R_e ?_))))
 refine W_if rfl (fun c5=>?_) fun c5=>?_
 ·
  refine W_r (R_mv rfl (R_e (W_ret (y1 _ _ ?_))))
  refine Ret_1 (@rfl V (iV (11:Int))) (fz_int ?_)
  · rw [mval,if_neg (by omega),if_neg (by omega),if_pos (by omega)]
 refine W_r (R_fk t1 h1 (R_lk rfl h1 rfl rfl (R_lss rfl rfl (R_mv rfl ?_))))
 refine Ops_seg 5 (fun T H=>T 1=(V.mp 1 1 0 0)∧T 3=(iV ((m.nx.length:Nat):Int))∧T 35=(V.bool (decide (((m.s) < (0:Int))∨(((m.nx.length:Nat):Int)≤(m.s)))))∧H 1=(bk 1 24 4 [[(iV (m.i)),(iV (m.s)),(intss m.nx),(intss m.ot)]])∧True) ?_ ?_
 ·
  by_cases g6:(m.s) < (0:Int)
  ·
   refine G_n (edT g6 rfl) (G_n (edT g6 rfl) (G_n (edT g6 rfl) (G_n (edT g6 rfl) (R_pickT (edT g6 rfl) rfl ?_))))
   exact ⟨t1,t3,(dec_orT g6),h1,trivial⟩
  ·
   refine G_yes (edF g6 rfl) (R_fk t1 h1 (G_yes (edF g6 rfl) (R_lk rfl h1 rfl rfl (G_yes (edF g6 rfl) (R_mv t3 (G_yes (edF g6 rfl) (R_geq rfl rfl ?_)))))))
   refine R_pickF (edF g6 rfl) rfl ?_
   exact ⟨t1,t3,(dec_orF g6),h1,trivial⟩
 intro T H ⟨t1,t3,t35,h1,_⟩
 refine R_mv t35 (R_e ?_)
 refine W_if rfl (fun c7=>?_) fun c7=>?_
 ·
  refine W_r (R_mv rfl (R_e (W_ret (y1 _ _ ?_))))
  refine Ret_1 (@rfl V (iV (2:Int))) (fz_int ?_)
  · rw [mval,if_neg (by omega),if_neg (by omega),if_neg (by omega),if_pos (by omega)]
 refine W_r (R_fk t1 h1 (R_lk rfl h1 rfl rfl (R_len rfl (R_mv t3 (R_neq rfl rfl (R_mv rfl (R_e ?_)))))))
 refine W_if rfl (fun c8=>?_) fun c8=>?_
 ·
  refine W_r (R_mv rfl (R_e (W_ret (y1 _ _ ?_))))
  refine Ret_1 (@rfl V (iV (1:Int))) (fz_int ?_)
  · rw [mval,if_neg (by omega),if_neg (by omega),if_neg (by omega),if_neg (by omega),if_pos (by omega)]
 refine W_skip (n1 _ _ (.done (W_seq_seq (W_r (R_mv t3 (R_mv rfl (R_e ?_)))))))
 refine W_seq_blockg fun Q9 n9 x9 y9 z9=>?_
 refine W_loop (fun mm T H=> ∃ (k:Nat),mm=m.nx.length - k∧T 1=(V.mp 1 1 0 0)∧T 3=(iV ((m.nx.length:Nat):Int))∧T 42=(iV ((m.nx.length:Nat):Int))∧T 43=(iV ((k:Nat):Int))∧H 1=(bk 1 24 4 [[(iV (m.i)),(iV (m.s)),(intss m.nx),(intss m.ot)]])∧(k≤m.nx.length)∧(1≤m.i∧m.i≤64∧0 < m.nx.length∧m.nx.length≤128∧m.ot.length=m.nx.length)∧(mval m=fe (rowE m) k (m.nx.length - k))) ?_ ?_
 ·
  refine ⟨_,0,rfl,t1,t3,rfl,(Eq.trans (@rfl V (iV (0:Int))) rfl),h1,?_,?_,?_⟩
  · omega
  · omega
  · rw [mval,if_neg (by omega),if_neg (by omega),if_neg (by omega),if_neg (by omega),if_neg (by omega)]; rfl
 intro mm T H ⟨k,hmm,t1,t3,t42,t43,h1,hk,hv,hc⟩ Q10 p110 p210 p310
 unfold b30_0
 refine W_r (R_lss t43 t42 (R_e ?_))
 refine W_seq_if rfl (fun c11=>?_) fun c11=>?_
 ·
  refine W_seq_skip (W_seq_blockg fun Q12 n12 x12 y12 z12=>(W_r (R_mv t43 (R_mv rfl (R_e (W_seq_seq (W_r ?_)))))))
  refine R_fk t1 h1 (R_lk rfl h1 rfl rfl (R_mv rfl (R_idx (i:=k) (@rfl V (intss m.nx)) (@rfl V (iV ((k:Nat):Int))) (by omega) rfl (R_load_pp rfl rfl (R_len rfl (R_fk t1 h1 (R_lk rfl h1 rfl rfl ?_)))))))
  refine R_neq rfl rfl (R_mv rfl ?_)
  refine Ops_seg 10 (fun T H=>T 1=(V.mp 1 1 0 0)∧T 3=(iV ((m.nx.length:Nat):Int))∧T 4=(iV ((k:Nat):Int))∧T 42=(iV ((m.nx.length:Nat):Int))∧T 43=(iV ((k:Nat):Int))∧T 65=(V.bool (decide ((((((nth (m.nx) (k))).length:Nat):Int)≠(m.i))∨(((((nth (m.ot) (k))).length:Nat):Int)≠(m.i)))))∧H 1=(bk 1 24 4 [[(iV (m.i)),(iV (m.s)),(intss m.nx),(intss m.ot)]])∧True) ?_ ?_
  ·
   by_cases g13:((((nth (m.nx) (k))).length:Nat):Int)≠(m.i)
   ·
    refine G_n (edT g13 rfl) (G_n (edT g13 rfl) (G_n (edT g13 rfl) (G_n (edT g13 rfl) (G_n (edT g13 rfl) (G_n (edT g13 rfl) (G_n (edT g13 rfl) (G_n (edT g13 rfl) ?_)))))))
    refine G_n (edT g13 rfl) (R_pickT (edT g13 rfl) rfl ?_)
    exact ⟨t1,t3,rfl,t42,t43,(dec_orT g13),h1,trivial⟩
   ·
    refine G_yes (edF g13 rfl) (R_fk t1 h1 (G_yes (edF g13 rfl) (R_lk rfl h1 rfl rfl (G_yes (edF g13 rfl) (R_mv rfl (G_yes (edF g13 rfl) (R_idx (i:=k) (@rfl V (intss m.ot)) (@rfl V (iV ((k:Nat):Int))) (by omega) rfl ?_)))))))
    refine G_yes (edF g13 rfl) (R_load_pp rfl rfl (G_yes (edF g13 rfl) (R_len rfl (G_yes (edF g13 rfl) (R_fk t1 h1 (G_yes (edF g13 rfl) (R_lk rfl h1 rfl rfl ?_)))))))
    refine G_yes (edF g13 rfl) (R_neq rfl rfl (R_pickF (edF g13 rfl) rfl ?_))
    exact ⟨t1,t3,rfl,t42,t43,(dec_orF g13),h1,trivial⟩
  intro T H ⟨t1,t3,t4,t42,t43,t65,h1,_⟩
  refine R_e ?_
  refine W_seq_if t65 (fun c14=>?_) fun c14=>?_
  ·
   refine W_seq_seq (W_r (R_mv rfl (R_e (W_seq_ret (y12 _ _ (p210 _ _ (y9 _ _ ?_)))))))
   refine Ret_1 (@rfl V (iV (1:Int))) (fz_int ?_)
   · rw [hc,fe_hit (by rw [rowE,if_pos (by omega)]; decide) (by omega),rowE,if_pos (by omega)]
  refine W_seq_skip (W_r (R_fk t1 h1 (R_lk rfl h1 rfl rfl (R_mv rfl (R_e (W_block fun Q15 n15 x15 y15 z15=>?_))))))
  refine W_loop (fun mm T H=> ∃ (j:Nat),mm=((m.i).toNat) - j∧T 1=(V.mp 1 1 0 0)∧T 3=(iV ((m.nx.length:Nat):Int))∧T 4=(iV ((k:Nat):Int))∧T 42=(iV ((m.nx.length:Nat):Int))∧T 43=(iV ((k:Nat):Int))∧T 67=(iV (m.i))∧T 68=(iV ((j:Nat):Int))∧H 1=(bk 1 24 4 [[(iV (m.i)),(iV (m.s)),(intss m.nx),(intss m.ot)]])∧(j≤(m.i).toNat)∧(((nth m.nx k).length:Int)=m.i∧((nth m.ot k).length:Int)=m.i)∧(rowE m k=fe (celE m k) j (m.i.toNat - j))) ?_ ?_
  ·
   refine ⟨_,0,rfl,t1,t3,t4,t42,t43,rfl,(Eq.trans (@rfl V (iV (0:Int))) rfl),h1,?_,?_,?_⟩
   · omega
   · omega
   · rw [rowE,if_neg (by omega)]; rfl
  intro mm T H ⟨j,hmm,t1,t3,t4,t42,t43,t67,t68,h1,hj,hl,hr⟩ Q16 p116 p216 p316
  unfold b30_1
  refine W_r (R_lss t68 t67 (R_e ?_))
  refine W_seq_if rfl (fun c17=>?_) fun c17=>?_
  ·
   refine W_seq_skip (W_seq_blockg fun Q18 n18 x18 y18 z18=>(W_r (R_mv t68 (R_mv rfl (R_e (W_r (R_fk t1 h1 ?_)))))))
   refine R_lk rfl h1 rfl rfl (R_mv t4 (R_idx (i:=k) (@rfl V (intss m.nx)) (@rfl V (iV ((k:Nat):Int))) (by omega) rfl (R_load_pp rfl rfl (R_mv rfl (R_idx (i:=j) (@rfl V (ints ((nth (m.nx) (k))))) (@rfl V (iV ((j:Nat):Int))) (by omega) rfl (R_load_pp rfl rfl (R_fk t1 h1 ?_)))))))
   refine R_lk rfl h1 rfl rfl (R_mv t4 (R_idx (i:=k) (@rfl V (intss m.ot)) (@rfl V (iV ((k:Nat):Int))) (by omega) rfl (R_load_pp rfl rfl (R_mv rfl (R_idx (i:=j) (@rfl V (ints ((nth (m.ot) (k))))) (@rfl V (iV ((j:Nat):Int))) (by omega) rfl (R_load_pp rfl rfl (R_mv rfl ?_)))))))
   refine R_mv rfl (R_e (W_r (R_mv rfl (R_lss rfl rfl (R_mv rfl ?_)))))
   refine Ops_seg 4 (fun T H=>T 1=(V.mp 1 1 0 0)∧T 3=(iV ((m.nx.length:Nat):Int))∧T 4=(iV ((k:Nat):Int))∧T 7=(iV ((nth ((nth (m.ot) (k))) (j))))∧T 42=(iV ((m.nx.length:Nat):Int))∧T 43=(iV ((k:Nat):Int))∧T 67=(iV (m.i))∧T 68=(iV ((j:Nat):Int))∧T 93=(V.bool (decide ((((nth ((nth (m.nx) (k))) (j))) < (0:Int))∨(((m.nx.length:Nat):Int)≤((nth ((nth (m.nx) (k))) (j)))))))∧H 1=(bk 1 24 4 [[(iV (m.i)),(iV (m.s)),(intss m.nx),(intss m.ot)]])∧True) ?_ ?_
   ·
    by_cases g19:((nth ((nth (m.nx) (k))) (j))) < (0:Int)
    ·
     refine G_n (edT g19 rfl) (G_n (edT g19 rfl) (G_n (edT g19 rfl) (R_pickT (edT g19 rfl) rfl ?_)))
     exact ⟨t1,t3,t4,rfl,t42,t43,t67,t68,(dec_orT g19),h1,trivial⟩
    ·
     refine G_yes (edF g19 rfl) (R_mv rfl (G_yes (edF g19 rfl) (R_mv t3 (G_yes (edF g19 rfl) (R_geq rfl rfl (R_pickF (edF g19 rfl) rfl ?_))))))
     exact ⟨t1,t3,t4,rfl,t42,t43,t67,t68,(dec_orF g19),h1,trivial⟩
   intro T H ⟨t1,t3,t4,t7,t42,t43,t67,t68,t93,h1,_⟩
   refine R_mv t93 ?_
   refine Ops_seg 3 (fun T H=>T 1=(V.mp 1 1 0 0)∧T 3=(iV ((m.nx.length:Nat):Int))∧T 4=(iV ((k:Nat):Int))∧T 7=(iV ((nth ((nth (m.ot) (k))) (j))))∧T 42=(iV ((m.nx.length:Nat):Int))∧T 43=(iV ((k:Nat):Int))∧T 67=(iV (m.i))∧T 68=(iV ((j:Nat):Int))∧T 97=(V.bool (decide (((((nth ((nth (m.nx) (k))) (j))) < (0:Int))∨(((m.nx.length:Nat):Int)≤((nth ((nth (m.nx) (k))) (j)))))∨(((nth ((nth (m.ot) (k))) (j))) < (0:Int)))))∧H 1=(bk 1 24 4 [[(iV (m.i)),(iV (m.s)),(intss m.nx),(intss m.ot)]])∧True) ?_ ?_
   ·
    by_cases g20:(((nth ((nth (m.nx) (k))) (j))) < (0:Int))∨(((m.nx.length:Nat):Int)≤((nth ((nth (m.nx) (k))) (j))))
    ·
     refine G_n (edT g20 rfl) (G_n (edT g20 rfl) (R_pickT (edT g20 rfl) rfl ?_))
     exact ⟨t1,t3,t4,t7,t42,t43,t67,t68,(dec_orT g20),h1,trivial⟩
    ·
     refine G_yes (edF g20 rfl) (R_mv t7 (G_yes (edF g20 rfl) (R_lss rfl rfl (R_pickF (edF g20 rfl) rfl ?_))))
     exact ⟨t1,t3,t4,t7,t42,t43,t67,t68,(dec_orF g20),h1,trivial⟩
   intro T H ⟨t1,t3,t4,t7,t42,t43,t67,t68,t97,h1,_⟩
   refine R_mv t97 ?_
   refine Ops_seg 3 (fun T H=>T 1=(V.mp 1 1 0 0)∧T 3=(iV ((m.nx.length:Nat):Int))∧T 4=(iV ((k:Nat):Int))∧T 42=(iV ((m.nx.length:Nat):Int))∧T 43=(iV ((k:Nat):Int))∧T 67=(iV (m.i))∧T 68=(iV ((j:Nat):Int))∧T 101=(V.bool (decide ((((((nth ((nth (m.nx) (k))) (j))) < (0:Int))∨(((m.nx.length:Nat):Int)≤((nth ((nth (m.nx) (k))) (j)))))∨(((nth ((nth (m.ot) (k))) (j))) < (0:Int)))∨((1048576:Int) < ((nth ((nth (m.ot) (k))) (j)))))))∧H 1=(bk 1 24 4 [[(iV (m.i)),(iV (m.s)),(intss m.nx),(intss m.ot)]])∧True) ?_ ?_
   ·
    by_cases g21:((((nth ((nth (m.nx) (k))) (j))) < (0:Int))∨(((m.nx.length:Nat):Int)≤((nth ((nth (m.nx) (k))) (j)))))∨(((nth ((nth (m.ot) (k))) (j))) < (0:Int))
    ·
     refine G_n (edT g21 rfl) (G_n (edT g21 rfl) (R_pickT (edT g21 rfl) rfl ?_))
     exact ⟨t1,t3,t4,t42,t43,t67,t68,(dec_orT g21),h1,trivial⟩
    ·
     refine G_yes (edF g21 rfl) (R_mv t7 (G_yes (edF g21 rfl) (R_gtr rfl rfl (R_pickF (edF g21 rfl) rfl ?_))))
     exact ⟨t1,t3,t4,t42,t43,t67,t68,(dec_orF g21),h1,trivial⟩
   intro T H ⟨t1,t3,t4,t42,t43,t67,t68,t101,h1,_⟩
   refine R_e ?_
   refine W_if t101 (fun c22=>?_) fun c22=>?_
   ·
    refine W_r (R_mv rfl (R_e (W_ret (y18 _ _ (p216 _ _ (y15 _ _ (y12 _ _ ?_)))))))
    refine p210 _ _ (y9 _ _ ?_)
    refine Ret_1 (@rfl V (iV (2:Int))) (fz_int ?_)
    · have e:rowE m k=2:=by
        rw [hr,fe_hit (by unfold celE; split <;> omega) (by omega)]; unfold celE; split <;> omega
      rw [hc,fe_hit (by omega) (by omega),e]
   refine W_skip (n18 _ _ (.done (W_t (R_addN t68 (@rfl V (iV ((1:Nat):Int))) (by omega) (R_mv rfl (R_e ?_))))))
   refine p116 _ _ _ ?_ ⟨(j+1),rfl,t1,t3,t4,t42,t43,t67,(Eq.trans (@rfl V (iV ((j+1:Nat):Int))) (by first|rfl|simp)),h1,?_,?_,?_⟩
   · omega
   · omega
   · omega
   · rw [hr,fe_skip (by unfold celE; split <;> omega) (by omega)]
  refine W_seq_exit (p316 _ _ _ (x15 _ _ (n12 _ _ (.done (W_t (R_addN t43 (@rfl V (iV ((1:Nat):Int))) (by omega) (R_mv rfl ?_)))))))
  refine R_e ?_
  refine p110 _ _ _ ?_ ⟨(k+1),rfl,t1,t3,t42,(Eq.trans (@rfl V (iV ((k+1:Nat):Int))) (by first|rfl|simp)),h1,?_,?_,?_⟩
  · omega
  · omega
  · omega
  · rw [hc,fe_skip (by rw [hr,fe_end (by omega)]) (by omega)]
 refine W_seq_exit (p310 _ _ _ (x9 _ _ (.done (W_r (R_mv rfl (R_e (W_ret ?_)))))))
 refine Ret_1 (@rfl V (iV (0:Int))) (fz_int ?_)
 · rw [hc,fe_end (by omega)]
end Go.Proofs.YtilfohjlglefjaaGreat
namespace Go.Proofs.YtilfohjlglefjaaGreat
open Go Go.Proofs
attribute [local irreducible] mksV
theorem reach_pure (m:M):PureC Tryz.prog 55 [(V.agg [(iV (m.i)),(iV (m.s)),(intss m.nx),(intss m.ot)])] (ints (rch m)):=by
 refine pW Tryz.func55 s55_ok fun hB=>?_
 unfold s55
 dsimp only
 refine W_r (R_box (i:=1) (n:=0) (m:=4) (cs:=[(iV (m.i)),(iV (m.s)),(intss m.nx),(intss m.ot)]) rfl (congrArg Blk.ver rfl) rfl rfl rfl (R_mv rfl (R_e (W_seq_seq (W_r (R_lk rfl rfl rfl rfl (R_callk (mvalid_pure m) rfl ?_)))))))
 refine R_neq rfl rfl (R_e ?_)
 refine W_seq_if rfl (fun c1=>?_) fun c1=>?_
 ·
  have d0:=c1
  refine W_seq_seq (W_r (R_mv rfl (R_e (W_seq_ret ?_))))
  refine Ret_1 (@rfl V V.nilsl) (fz_nil ?_)
  · rw [rch,if_pos d0]
 have hm:mval m=0:=by omega
 obtain ⟨v1,v2,v3,v4,v5,v6,v7,_⟩:=mval_ok hm
 refine W_seq_skip (W_r (R_fk rfl rfl (R_lk rfl rfl rfl rfl (R_len rfl (R_mksm (i:=14) (n:=0) (m:=m.nx.length) (q:=m.nx.length) (f:=cB) (x:=false) rfl (congrArg Blk.ver rfl) (@rfl V (iV ((m.nx.length:Nat):Int))) (@rfl V (iV ((m.nx.length:Nat):Int))) rfl (by first|omega|(simp only [List.length_replicate]; omega)) (by first|omega|(simp only [List.length_replicate]; omega)) (by first|omega|(simp only [List.length_replicate]; omega)) (R_mv rfl (R_e ?_)))))))
 refine W_r (R_mv rfl (R_fk rfl rfl (R_lk rfl rfl rfl rfl (R_idxI_ms0 (i:=(m.s)) (@rfl V (V.ms 14 1 0 (m.nx.length))) (@rfl V (iV (m.s))) (@rfl Blk (bk 1 4 1 (List.map cB (List.replicate m.nx.length false)))) oB rfl (by first|omega|(simp only [List.length_replicate]; omega)) (by first|omega|(simp only [List.length_replicate]; omega)) (R_store (vs:=[(V.bool true)]) (B':=(bk 1 4 1 (List.map cB ((List.replicate m.nx.length false).set (((m.s)).toNat) true)))) rfl rfl rfl (@rfl Blk (bk 1 4 1 (List.map cB (List.replicate m.nx.length false)))) (stB_map (x:=true) (i:=(((m.s)).toNat)) (by first|omega|(simp only [List.length_replicate]; omega)) rfl rfl rfl rfl) (R_e (W_r ?_)))))))
 refine R_fk rfl rfl (R_lk rfl rfl rfl rfl (R_bslice_own (i:=21) (n:=0) (qs:=[(0,(iV (m.s)))]) (rows:=[[(iV (m.s))]]) rfl (congrArg Blk.ver rfl) (mcons (congrArg (fun v=>(0,v)) rfl) rfl) rfl (R_mv rfl (R_e (W_seq_seq (W_r (R_mv rfl ?_)))))))
 refine R_e (W_seq_blockg fun Q2 n2 x2 y2 z2=>?_)
 refine W_loop (fun mm T H=> ∃ (k:Nat) (w:Nat) (P:RS),mm=m.nx.length - k∧T 1=(V.mp 1 1 0 0)∧T 3=(V.ms 14 1 0 (m.nx.length))∧T 4=(V.ms 21 w 0 (P.1.length))∧T 5=(iV ((k:Nat):Int))∧H 1=(bk 1 24 4 [[(iV (m.i)),(iV (m.s)),(intss m.nx),(intss m.ot)]])∧H 14=(bk 1 4 1 (List.map cB (P.2)))∧H 21=(bk w 3 1 (List.map cI (P.1)))∧(k≤P.1.length)∧(RI m.nx.length P)∧(bfsR m m.nx.length 0 (iniR m)=bfsR m (m.nx.length - k) k P)) ?_ ?_
 ·
  refine ⟨_,0,1,(iniR m),rfl,rfl,rfl,(Eq.trans (@rfl V (V.ms 21 1 0 (1))) (by first|rfl|(rw [stp_no d2,List.length_append]; rfl)|(rw [stp_yes d2]; done)|(rw [← e9]; done))),(Eq.trans (@rfl V (iV (0:Int))) rfl),rfl,(Eq.trans (@rfl Blk (bk 1 4 1 (List.map cB ((List.replicate m.nx.length false).set (((m.s)).toNat) true)))) (by first|rfl|(rw [stp_no d2]; done)|(rw [stp_yes d2]; done)|(rw [← e9]; done))),(Eq.trans (@rfl Blk (bk 1 3 1 [[(iV (m.s))]])) (by first|rfl|(rw [stp_no d2]; done)|(rw [stp_yes d2]; done)|(rw [← e9]; done))),?_,?_,?_⟩
  · exact Nat.zero_le _
  · exact ini_RI hm
  · rfl
 intro mm T H ⟨k,w,P,hmm,t1,t3,t4,t5,h1,h14,h21,hk,hr,hc⟩ Q3 p13 p23 p33
 unfold b55_0
 refine W_seq_seq (W_r (R_mv t5 (R_mv t4 (R_len_ms rfl h21 (by first|rfl|simp) (R_lss rfl rfl (R_e ?_))))))
 refine W_seq_if rfl (fun c4=>?_) fun c4=>?_
 ·
  have r1:=hr.rng _ (nth_mem (show k < P.1.length by omega))
  have r0:=hr.len
  have r5:=hr.blen
  have r6:=((mval_ok hm).2.2.2.2.2.2.2 (nth P.1 k).toNat (by omega)).1
  refine W_seq_skip (W_seq_blockg fun Q5 n5 x5 y5 z5=>(W_r (R_fk t1 h1 (R_lk rfl h1 rfl rfl (R_mv t4 (R_mv t5 (R_idx_ms0 (i:=k) (@rfl V (V.ms 21 w 0 (P.1.length))) (@rfl V (iV ((k:Nat):Int))) h21 oB rfl (by first|omega|(simp only [List.length_replicate]; omega)) ?_)))))))
  refine R_load_mp (v:=(iV ((nth (P.1) (k))))) rfl h21 (ldB_map (by first|omega|(simp only [List.length_replicate]; omega)) (by first|rfl|(rw [cF_eq]; rfl)|simp [ldV,V.one])) (R_idxI (i:=((nth (P.1) (k)))) (@rfl V (intss m.nx)) (@rfl V (iV ((nth (P.1) (k))))) (by first|omega|(simp only [List.length_replicate]; omega)) (by first|omega|(simp only [List.length_replicate]; omega)) rfl (R_load_pp rfl rfl (R_len rfl (R_mv rfl (R_e (W_block fun Q6 n6 x6 y6 z6=>?_))))))
  refine W_loop (fun mm T H=> ∃ (j:Nat) (w2:Nat) (Q:RS),mm=(nth m.nx (nth P.1 k).toNat).length - j∧T 1=(V.mp 1 1 0 0)∧T 3=(V.ms 14 1 0 (m.nx.length))∧T 4=(V.ms 21 w2 0 (Q.1.length))∧T 5=(iV ((k:Nat):Int))∧T 35=(ints ((nth (m.nx) ((nth (P.1) (k))).toNat)))∧T 36=(iV ((((nth (m.nx) ((nth (P.1) (k))).toNat)).length:Nat):Int))∧T 37=(iV ((j:Nat):Int))∧H 1=(bk 1 24 4 [[(iV (m.i)),(iV (m.s)),(intss m.nx),(intss m.ot)]])∧H 14=(bk 1 4 1 (List.map cB (Q.2)))∧H 21=(bk w2 3 1 (List.map cI (Q.1)))∧(j≤(nth m.nx (nth P.1 k).toNat).length)∧(Q=((nth m.nx (nth P.1 k).toNat).take j).foldl stpR P)∧(RI m.nx.length Q)) ?_ ?_
  ·
   refine ⟨_,0,w,P,rfl,t1,t3,t4,t5,rfl,rfl,(Eq.trans (@rfl V (iV (0:Int))) rfl),h1,h14,h21,?_,?_,?_⟩
   · omega
   · rfl
   · exact hr
  intro mm T H ⟨j,w2,Q,hmm,t1,t3,t4,t5,t35,t36,t37,h1,h14,h21,hj,hq,hrq⟩ Q7 p17 p27 p37
  unfold b55_1
  refine W_r (R_lss t37 t36 (R_e ?_))
  refine W_seq_if rfl (fun c8=>?_) fun c8=>?_
  ·
   have r2:=row_in hm r1.1 r1.2 _ (nth_mem (show j < (nth m.nx (nth P.1 k).toNat).length by omega))
   have r3:=hrq.blen
   have r4:=hrq.len
   refine W_seq_skip (W_seq_blockg fun Q9 n9 x9 y9 z9=>(W_r (R_idx (i:=j) t35 t37 (by first|omega|(simp only [List.length_replicate]; omega)) rfl (R_load_pp rfl rfl (R_mv rfl (R_e (W_r ?_)))))))
   refine R_mv t3 (R_mv rfl (R_idxI_ms0 (i:=((nth ((nth (m.nx) ((nth (P.1) (k))).toNat)) (j)))) (@rfl V (V.ms 14 1 0 (m.nx.length))) (@rfl V (iV ((nth ((nth (m.nx) ((nth (P.1) (k))).toNat)) (j))))) h14 oB rfl (by first|omega|(simp only [List.length_replicate]; omega)) (by first|omega|(simp only [List.length_replicate]; omega)) (R_load_mp (v:=(V.bool ((nth (Q.2) ((((nth ((nth (m.nx) ((nth (P.1) (k))).toNat)) (j)))).toNat))))) rfl h14 (ldB_map (by first|omega|(simp only [List.length_replicate]; omega)) (by first|rfl|(rw [cF_eq]; rfl)|simp [ldV,V.one])) (R_notb rfl (R_e ?_)))))
   refine W_ifb rfl (fun c10=>?_) (fun c10=>?_)
   ·
    have d2:nth Q.2 (nth (nth m.nx (nth P.1 k).toNat) j).toNat=false:=by simpa using c10
    refine W_r (R_mv t3 (R_mv rfl (R_idxI_ms0 (i:=((nth ((nth (m.nx) ((nth (P.1) (k))).toNat)) (j)))) (@rfl V (V.ms 14 1 0 (m.nx.length))) (@rfl V (iV ((nth ((nth (m.nx) ((nth (P.1) (k))).toNat)) (j))))) h14 oB rfl (by first|omega|(simp only [List.length_replicate]; omega)) (by first|omega|(simp only [List.length_replicate]; omega)) (R_store (vs:=[(V.bool true)]) (B':=(bk 1 4 1 (List.map cB ((Q.2).set ((((nth ((nth (m.nx) ((nth (P.1) (k))).toNat)) (j)))).toNat) true)))) rfl rfl rfl h14 (stB_map (x:=true) (i:=((((nth ((nth (m.nx) ((nth (P.1) (k))).toNat)) (j)))).toNat)) (by first|omega|(simp only [List.length_replicate]; omega)) rfl rfl rfl rfl) (R_e (W_t (R_mv t4 ?_)))))))
    refine R_mv rfl (R_bslice rfl rfl (R_append1 (l:=Q.1) (f:=cI) (x:=(((nth ((nth (m.nx) ((nth (P.1) (k))).toNat)) (j))))) (@rfl V (V.ms 21 w2 0 (Q.1.length))) h21 (by first|rfl|simp|omega) (@rfl V (V.sl [[(iV ((nth ((nth (m.nx) ((nth (P.1) (k))).toNat)) (j))))]])) rfl rfl (by first|omega|(simp only [List.length_replicate]; omega)) (by first|omega|(simp only [List.length_replicate]; omega)) (R_mv rfl (R_e (n9 _ _ (.done (W_t ?_)))))))
    refine R_addN t37 (@rfl V (iV ((1:Nat):Int))) (by first|omega|(simp only [List.length_replicate]; omega)) (R_mv rfl (R_e ?_))
    refine p17 _ _ _ ?_ ⟨(j+1),(w2+1),(stpR Q (nth (nth m.nx (nth P.1 k).toNat) j)),rfl,t1,t3,(Eq.trans (@rfl V (V.ms 21 (w2+1) 0 (Q.1.length+1))) (by first|rfl|(rw [stp_no d2,List.length_append]; rfl)|(rw [stp_yes d2]; done)|(rw [← e9]; done))),t5,t35,t36,(Eq.trans (@rfl V (iV ((j+1:Nat):Int))) (by first|rfl|(rw [stp_no d2,List.length_append]; rfl)|(rw [stp_yes d2]; done)|(rw [← e9]; done))),h1,(Eq.trans (@rfl Blk (bk 1 4 1 (List.map cB ((Q.2).set ((((nth ((nth (m.nx) ((nth (P.1) (k))).toNat)) (j)))).toNat) true)))) (by first|rfl|(rw [stp_no d2]; done)|(rw [stp_yes d2]; done)|(rw [← e9]; done))),(Eq.trans (@rfl Blk (bk (w2+1) 3 1 (List.map cI (Q.1++[((nth ((nth (m.nx) ((nth (P.1) (k))).toNat)) (j)))])))) (by first|rfl|(rw [stp_no d2]; done)|(rw [stp_yes d2]; done)|(rw [← e9]; done))),?_,?_,?_⟩
    · omega
    · omega
    · rw [fold_step (by omega),← hq]
    · exact hrq.step r2.1 r2.2
   have d2:nth Q.2 (nth (nth m.nx (nth P.1 k).toNat) j).toNat=true:=by simpa using c10
   refine W_skip (n9 _ _ (.done (W_t (R_addN t37 (@rfl V (iV ((1:Nat):Int))) (by first|omega|(simp only [List.length_replicate]; omega)) (R_mv rfl (R_e ?_))))))
   refine p17 _ _ _ ?_ ⟨(j+1),w2,(stpR Q (nth (nth m.nx (nth P.1 k).toNat) j)),rfl,t1,t3,(Eq.trans t4 (by first|rfl|(rw [stp_no d2,List.length_append]; rfl)|(rw [stp_yes d2]; done)|(rw [← e9]; done))),t5,t35,t36,(Eq.trans (@rfl V (iV ((j+1:Nat):Int))) (by first|rfl|(rw [stp_no d2,List.length_append]; rfl)|(rw [stp_yes d2]; done)|(rw [← e9]; done))),h1,(Eq.trans h14 (by first|rfl|(rw [stp_no d2]; done)|(rw [stp_yes d2]; done)|(rw [← e9]; done))),(Eq.trans h21 (by first|rfl|(rw [stp_no d2]; done)|(rw [stp_yes d2]; done)|(rw [← e9]; done))),?_,?_,?_⟩
   · omega
   · omega
   · rw [fold_step (by omega),← hq]
   · exact hrq.step r2.1 r2.2
  have e9:Q=rowR m P k:=by rw [hq]; unfold rowR; rw [List.take_of_length_le (by omega)]
  refine W_seq_exit (p37 _ _ _ (x6 _ _ (n5 _ _ (.done (W_t (R_mv t5 (R_addN rfl (@rfl V (iV ((1:Nat):Int))) (by first|omega|(simp only [List.length_replicate]; omega)) ?_)))))))
  refine R_mv rfl (R_e ?_)
  refine p13 _ _ _ ?_ ⟨(k+1),w2,(rowR m P k),rfl,t1,t3,(Eq.trans t4 (by first|rfl|(rw [stp_no d2,List.length_append]; rfl)|(rw [stp_yes d2]; done)|(rw [← e9]; done))),(Eq.trans (@rfl V (iV ((k+1:Nat):Int))) (by first|rfl|(rw [stp_no d2,List.length_append]; rfl)|(rw [stp_yes d2]; done)|(rw [← e9]; done))),h1,(Eq.trans h14 (by first|rfl|(rw [stp_no d2]; done)|(rw [stp_yes d2]; done)|(rw [← e9]; done))),(Eq.trans h21 (by first|rfl|(rw [stp_no d2]; done)|(rw [stp_yes d2]; done)|(rw [← e9]; done))),?_,?_,?_⟩
  · omega
  · obtain ⟨x,hx⟩:=fold_grow (nth m.nx (nth P.1 k).toNat) P
    have hg:(rowR m P k).1=P.1++x:=hx
    rw [hg,List.length_append]; omega
  · exact hr.row hm (by omega)
  · rw [hc,bfs_go (by omega) (by omega)]
 refine W_seq_exit (p33 _ _ _ (x2 _ _ (.done (W_r (R_mv t4 (R_mv rfl (R_e ?_)))))))
 refine W_ret ?_
 refine Ret_1 (@rfl V (V.ms 21 w 0 (P.1.length))) (fz_ms h21 (by first|rfl|simp) (l:=P.1) rfl (by first|rfl|simp|omega) (fun _=>by simp) ?_)
 · rw [rch,if_neg (by omega),hc,bfs_end (by omega)]
end Go.Proofs.YtilfohjlglefjaaGreat
namespace Go.Proofs.YtilfohjlglefjaaGreat
open Go Go.Proofs
attribute [local irreducible] mksV
theorem ptrim_pure (m:M):PureC Tryz.prog 31 [(V.agg [(iV (m.i)),(iV (m.s)),(intss m.nx),(intss m.ot)])] (V.tup [(V.agg [(iV ((trR m).i)),(iV ((trR m).s)),(intss ((trR m).nx)),(intss ((trR m).ot))]),(iV (mval m))]):=by
 refine pW Tryz.func31 s31_ok fun hB=>?_
 unfold s31
 dsimp only
 refine W_r (R_box (i:=1) (n:=0) (m:=4) (cs:=[(iV (m.i)),(iV (m.s)),(intss m.nx),(intss m.ot)]) rfl (congrArg Blk.ver rfl) rfl rfl rfl (R_alloc (i:=2) (n:=0) (m:=4) rfl (congrArg Blk.ver rfl) rfl (R_mv rfl (R_e (W_seq_seq (W_r (R_lk rfl rfl rfl rfl ?_)))))))
 refine R_callk (mvalid_pure m) rfl (R_mv rfl (R_e (W_seq_seq (W_r (R_mv rfl (R_neq rfl rfl (R_e ?_)))))))
 refine W_seq_if rfl (fun c1=>?_) fun c1=>?_
 ·
  have d0:=c1
  refine W_seq_seq (W_r (R_build rfl rfl (R_mv rfl (R_store (vs:=[(iV (0:Int)),(iV (0:Int)),V.nilsl,V.nilsl]) (B':=(bk 1 24 4 [[(iV (0:Int)),(iV (0:Int)),V.nilsl,V.nilsl]])) rfl rfl rfl rfl (sB oB rfl rfl rfl rfl rfl) (R_mv rfl (R_e (W_seq_ret ?_)))))))
  refine RetC_2 (resV_c (u:=(V.agg [(iV (0:Int)),(iV (0:Int)),V.nilsl,V.nilsl])) rfl (@rfl Blk (bk 1 24 4 [[(iV (0:Int)),(iV (0:Int)),V.nilsl,V.nilsl]])) (lB oB rfl rfl)) (resV_t (@rfl V (iV (mval m)))) (fz_aggL (mcons (fz_int ?_) (mcons (fz_int ?_) (mcons (fz_nil ?_) (mcons (fz_nil ?_) rfl))))) (fz_canon (by simp) rfl)
  · rw [trR,if_neg d0]; try rfl
  · rw [trR,if_neg d0]; try rfl
  · rw [trR,if_neg d0]; try rfl
  · rw [trR,if_neg d0]; try rfl
 have d0:=c1
 have hm:mval m=0:=by omega
 have mo:=mval_ok hm
 have rc:=rch_RC hm
 have rl:=rc.len
 have me:=mo.2.2.2.2.2.2.1
 refine W_seq_skip (W_r (R_lk rfl rfl rfl rfl (R_callk (reach_pure m) rfl (R_mv rfl (R_e (W_r (R_fk rfl rfl ?_)))))))
 refine R_lk rfl rfl rfl rfl (R_len rfl (R_mksm (i:=26) (n:=0) (m:=m.nx.length) (q:=m.nx.length) (f:=cI) (x:=0) rfl (congrArg Blk.ver rfl) (@rfl V (iV ((m.nx.length:Nat):Int))) (@rfl V (iV ((m.nx.length:Nat):Int))) rfl (by first|omega|(simp only [List.length_replicate]; omega)|(rw [tblP_len]; omega)) (by first|omega|(simp only [List.length_replicate]; omega)|(rw [tblP_len]; omega)) (by first|omega|(simp only [List.length_replicate]; omega)|(rw [tblP_len]; omega)) (R_mv rfl (R_e (W_seq_seq (W_r (R_mv rfl ?_)))))))
 refine R_len rfl (R_mv rfl (R_e (W_seq_blockg fun Q2 n2 x2 y2 z2=>?_)))
 refine W_loop (fun mm T H=> ∃ (k:Nat) (N:List Int),mm=(rch m).length - k∧T 1=(V.mp 1 1 0 0)∧T 2=(V.mp 2 1 0 0)∧T 5=(ints (rch m))∧T 6=(V.ms 26 1 0 (m.nx.length))∧T 27=(ints (rch m))∧T 28=(iV (((rch m).length:Nat):Int))∧T 29=(iV ((k:Nat):Int))∧H 1=(bk 1 24 4 [[(iV (m.i)),(iV (m.s)),(intss m.nx),(intss m.ot)]])∧H 2=(bk 1 24 4 [[(iV (0:Int)),(iV (0:Int)),V.nilsl,V.nilsl]])∧H 9=(⟨0,false,false,0,0,[]⟩:Blk)∧H 26=(bk 1 3 1 (List.map cI (N)))∧H 50=(⟨0,false,false,0,0,[]⟩:Blk)∧H 812=(⟨0,false,false,0,0,[]⟩:Blk)∧H 813=(⟨0,false,false,0,0,[]⟩:Blk)∧(k≤(rch m).length)∧(N.length=m.nx.length)∧(∀ j,j < k→nth N (nth (rch m) j).toNat=(j:Int))) ?_ ?_
 ·
  refine ⟨_,0,(List.replicate m.nx.length 0),rfl,rfl,rfl,rfl,rfl,rfl,rfl,(Eq.trans (@rfl V (iV (0:Int))) rfl),rfl,rfl,rfl,(Eq.trans (@rfl Blk (bk 1 3 1 (List.map cI (List.replicate m.nx.length 0)))) (by first|rfl|exact congrArg (List.map cI) tblP_0|(rw [← tblP_0,List.map_replicate]; done)|(rw [rn,← tblP_go (f:=tNxA m k) (z:=0) (n:=m.i.toNat) (j:=j) (by omega)]; rfl)|(rw [tbl_succ,List.map_append,ej]; first|done|rfl)|(rw [tbl_succ,ej]; first|done|rfl)|(rw [tbl_succ,eo]; first|done|rfl)|(rw [tbl_succ,List.map_append,eo]; first|done|rfl)|(simp; done))),rfl,rfl,rfl,?_,?_,?_⟩
  · exact Nat.zero_le _
  · exact List.length_replicate ..
  · intro j hj; omega
 intro mm T H ⟨k,N,hmm,t1,t2,t5,t6,t27,t28,t29,h1,h2,h9,h26,h50,h812,h813,hk,hN,hP⟩ Q3 p13 p23 p33
 unfold b31_0
 refine W_r (R_lss t29 t28 (R_e ?_))
 refine W_seq_if rfl (fun c4=>?_) fun c4=>?_
 ·
  have rk:=rc.rng k (by omega)
  refine W_seq_skip (W_seq_blockg fun Q5 n5 x5 y5 z5=>(W_r (R_mv t29 (R_idx (i:=k) t27 t29 (by first|omega|(simp only [List.length_replicate]; omega)|(rw [tblP_len]; omega)) rfl (R_load_pp rfl rfl (R_mv rfl (R_mv rfl ?_)))))))
  refine R_e (W_t (R_mv t6 (R_mv rfl (R_mv rfl (R_idxI_ms0 (i:=((nth (rch m) (k)))) (@rfl V (V.ms 26 1 0 (m.nx.length))) (@rfl V (iV ((nth (rch m) (k))))) h26 oB rfl (by first|omega|(simp only [List.length_replicate]; omega)|(rw [tblP_len]; omega)) (by first|omega|(simp only [List.length_replicate]; omega)|(rw [tblP_len]; omega)) (R_store (vs:=[(iV ((k:Nat):Int))]) (B':=(bk 1 3 1 (List.map cI ((N).set ((((nth (rch m) (k)))).toNat) (((k:Nat):Int)))))) rfl rfl rfl h26 (stB_map (x:=(((k:Nat):Int))) (i:=((((nth (rch m) (k)))).toNat)) (by first|omega|(simp only [List.length_replicate]; omega)|(rw [tblP_len]; omega)) rfl rfl rfl rfl) (R_e ?_)))))))
  refine n5 _ _ (.done (W_t (R_addN t29 (@rfl V (iV ((1:Nat):Int))) (by first|omega|(simp only [List.length_replicate]; omega)|(rw [tblP_len]; omega)) (R_mv rfl (R_e ?_)))))
  refine p13 _ _ _ ?_ ⟨(k+1),(N.set (nth (rch m) k).toNat ((k:Nat):Int)),rfl,t1,t2,t5,t6,t27,t28,(Eq.trans (@rfl V (iV ((k+1:Nat):Int))) (by first|rfl|simp)),h1,h2,h9,(Eq.trans (@rfl Blk (bk 1 3 1 (List.map cI ((N).set ((((nth (rch m) (k)))).toNat) (((k:Nat):Int)))))) (by first|rfl|exact congrArg (List.map cI) tblP_0|(rw [← tblP_0,List.map_replicate]; done)|(rw [rn,← tblP_go (f:=tNxA m k) (z:=0) (n:=m.i.toNat) (j:=j) (by omega)]; rfl)|(rw [tbl_succ,List.map_append,ej]; first|done|rfl)|(rw [tbl_succ,ej]; first|done|rfl)|(rw [tbl_succ,eo]; first|done|rfl)|(rw [tbl_succ,List.map_append,eo]; first|done|rfl)|(simp; done))),h50,h812,h813,?_,?_,?_⟩
  · omega
  · omega
  · rw [List.length_set]; exact hN
  · exact num_next rc (by omega) hN hP
 have hnum:=num_all rc (fun j hj=>hP j (by omega))
 refine W_seq_exit (p33 _ _ _ (x2 _ _ (.done (W_r (R_fk t1 h1 (R_lk rfl h1 rfl rfl (R_build rfl rfl ?_)))))))
 refine R_alloc (i:=9) (n:=0) (m:=4) rfl (congrArg Blk.ver h9) rfl (R_store (vs:=[(iV (m.i)),(iV (0:Int)),V.nilsl,V.nilsl]) (B':=(bk 1 24 4 [[(iV (m.i)),(iV (0:Int)),V.nilsl,V.nilsl]])) rfl rfl rfl rfl (sB oB rfl rfl rfl rfl rfl) (R_e (W_seq_seq ?_)))
 refine W_seq_g (fun T H=>T 1=(V.mp 1 1 0 0)∧T 2=(V.mp 2 1 0 0)∧T 6=(V.ms 26 1 0 (m.nx.length))∧T 9=(V.mp 9 1 0 0)∧T 42=(ints (rch m))∧T 43=(iV (((rch m).length:Nat):Int))∧T 44=(iV (0:Int))∧H 1=(bk 1 24 4 [[(iV (m.i)),(iV (m.s)),(intss m.nx),(intss m.ot)]])∧H 2=(bk 1 24 4 [[(iV (0:Int)),(iV (0:Int)),V.nilsl,V.nilsl]])∧H 9=(bk 1 24 4 [[(iV (m.i)),(iV (0:Int)),V.nilsl,V.nilsl]])∧H 26=(bk 1 3 1 (List.map cI (N)))∧H 50=(⟨0,false,false,0,0,[]⟩:Blk)∧H 812=(⟨0,false,false,0,0,[]⟩:Blk)∧H 813=(⟨0,false,false,0,0,[]⟩:Blk)∧True) ?_ ?_
 ·
  refine R_mv t5 (R_len rfl (R_mv rfl ?_))
  exact R_nil ⟨t1,t2,t6,rfl,rfl,rfl,rfl,h1,h2,rfl,h26,h50,h812,h813,trivial⟩
 intro T H ⟨t1,t2,t6,t9,t42,t43,t44,h1,h2,h9,h26,h50,h812,h813,_⟩
 refine .lazyCell 812 38 1 9 0 2 [(iV (m.i)),(iV (0:Int)),V.nilsl,V.nilsl] (by decide) (by rw [h9]; rfl) (by rw [h9]; rfl) rfl (fork_ (R:=fun T H=>T 1=(V.mp 1 1 0 0)∧T 2=(V.mp 2 1 0 0)∧T 6=(V.ms 26 1 0 (m.nx.length))∧T 9=(V.mp 9 1 0 0)∧T 42=(ints (rch m))∧T 43=(iV (((rch m).length:Nat):Int))∧T 44=(iV (0:Int))∧H 1=(bk 1 24 4 [[(iV (m.i)),(iV (m.s)),(intss m.nx),(intss m.ot)]])∧H 2=(bk 1 24 4 [[(iV (0:Int)),(iV (0:Int)),V.nilsl,V.nilsl]])∧H 9=(bk 1 24 4 [[(iV (m.i)),(iV (0:Int)),(V.ms 812 1 0 (0)),V.nilsl]])∧H 26=(bk 1 3 1 (List.map cI (N)))∧H 50=(⟨0,false,false,0,0,[]⟩:Blk)∧H 812=(bz 1 38 1 [])∧H 813=(⟨0,false,false,0,0,[]⟩:Blk)∧True) ⟨t1,t2,t6,t9,t42,t43,t44,((upd_ne _ _ (by decide)).trans ((upd_ne _ _ (by decide)).trans h1)),((upd_ne _ _ (by decide)).trans ((upd_ne _ _ (by decide)).trans h2)),(by rw [upd_same,h9,(congrArg Blk.ver h812)]; rfl),((upd_ne _ _ (by decide)).trans ((upd_ne _ _ (by decide)).trans h26)),((upd_ne _ _ (by decide)).trans ((upd_ne _ _ (by decide)).trans h50)),(by rw [upd_ne _ _ (by decide),upd_same,(congrArg Blk.ver h812)]),((upd_ne _ _ (by decide)).trans ((upd_ne _ _ (by decide)).trans h813)),trivial⟩ ?_)
 intro T H ⟨t1,t2,t6,t9,t42,t43,t44,h1,h2,h9,h26,h50,h812,h813,_⟩
 refine .lazyCell 813 38 1 9 0 3 [(iV (m.i)),(iV (0:Int)),(V.ms 812 1 0 (0)),V.nilsl] (by decide) (by rw [h9]; rfl) (by rw [h9]; rfl) rfl (.done ?_)
 refine fork_ (R:=fun T H=>T 1=(V.mp 1 1 0 0)∧T 2=(V.mp 2 1 0 0)∧T 6=(V.ms 26 1 0 (m.nx.length))∧T 9=(V.mp 9 1 0 0)∧T 42=(ints (rch m))∧T 43=(iV (((rch m).length:Nat):Int))∧T 44=(iV (0:Int))∧H 1=(bk 1 24 4 [[(iV (m.i)),(iV (m.s)),(intss m.nx),(intss m.ot)]])∧H 2=(bk 1 24 4 [[(iV (0:Int)),(iV (0:Int)),V.nilsl,V.nilsl]])∧H 9=(bk 1 24 4 [[(iV (m.i)),(iV (0:Int)),(V.ms 812 1 0 (0)),(V.ms 813 1 0 (0))]])∧H 26=(bk 1 3 1 (List.map cI (N)))∧H 50=(⟨0,false,false,0,0,[]⟩:Blk)∧H 812=(bz 1 38 1 [])∧H 813=(bz 1 38 1 [])∧True) ⟨t1,t2,t6,t9,t42,t43,t44,((upd_ne _ _ (by decide)).trans ((upd_ne _ _ (by decide)).trans h1)),((upd_ne _ _ (by decide)).trans ((upd_ne _ _ (by decide)).trans h2)),(by rw [upd_same,h9,(congrArg Blk.ver h813)]; rfl),((upd_ne _ _ (by decide)).trans ((upd_ne _ _ (by decide)).trans h26)),((upd_ne _ _ (by decide)).trans ((upd_ne _ _ (by decide)).trans h50)),((upd_ne _ _ (by decide)).trans ((upd_ne _ _ (by decide)).trans h812)),(by rw [upd_ne _ _ (by decide),upd_same,(congrArg Blk.ver h813)]),trivial⟩ ?_
 intro T H ⟨t1,t2,t6,t9,t42,t43,t44,h1,h2,h9,h26,h50,h812,h813,_⟩
 refine W_seq_blockg fun Q6 n6 x6 y6 z6=>?_
 refine W_loop (fun mm T H=> ∃ (k:Nat) (v:Nat) (w:Nat) (v50:Nat),mm=(rch m).length - k∧T 1=(V.mp 1 1 0 0)∧T 2=(V.mp 2 1 0 0)∧T 6=(V.ms 26 1 0 (m.nx.length))∧T 9=(V.mp 9 1 0 0)∧T 42=(ints (rch m))∧T 43=(iV (((rch m).length:Nat):Int))∧T 44=(iV ((k:Nat):Int))∧H 1=(bk 1 24 4 [[(iV (m.i)),(iV (m.s)),(intss m.nx),(intss m.ot)]])∧H 2=(bk 1 24 4 [[(iV (0:Int)),(iV (0:Int)),V.nilsl,V.nilsl]])∧H 9=(bk 1 24 4 [[(iV (m.i)),(iV (0:Int)),(V.ms 812 v 0 (k)),(V.ms 813 w 0 (k))]])∧H 26=(bk 1 3 1 (List.map cI (N)))∧((H 50).ver=v50∧(H 50).live=false)∧H 812=(bz v 38 1 (List.map cL (tbl (tNx m) k)))∧H 813=(bz w 38 1 (List.map cL (tbl (tOt m) k)))∧(k≤(rch m).length)) ?_ ?_
 ·
  refine ⟨_,0,1,1,0,rfl,t1,t2,t6,t9,t42,t43,(Eq.trans t44 rfl),h1,h2,h9,h26,⟨(congrArg Blk.ver h50),congrArg Blk.live h50⟩,(Eq.trans h812 (by first|rfl|exact congrArg (List.map cI) tblP_0|(rw [← tblP_0,List.map_replicate]; done)|(rw [rn,← tblP_go (f:=tNxA m k) (z:=0) (n:=m.i.toNat) (j:=j) (by omega)]; rfl)|(rw [tbl_succ,List.map_append,ej]; first|done|rfl)|(rw [tbl_succ,ej]; first|done|rfl)|(rw [tbl_succ,eo]; first|done|rfl)|(rw [tbl_succ,List.map_append,eo]; first|done|rfl)|(simp; done))),(Eq.trans h813 (by first|rfl|exact congrArg (List.map cI) tblP_0|(rw [← tblP_0,List.map_replicate]; done)|(rw [rn,← tblP_go (f:=tNxA m k) (z:=0) (n:=m.i.toNat) (j:=j) (by omega)]; rfl)|(rw [tbl_succ,List.map_append,ej]; first|done|rfl)|(rw [tbl_succ,ej]; first|done|rfl)|(rw [tbl_succ,eo]; first|done|rfl)|(rw [tbl_succ,List.map_append,eo]; first|done|rfl)|(simp; done))),?_⟩
  · exact Nat.zero_le _
 intro mm T H ⟨k,v,w,v50,hmm,t1,t2,t6,t9,t42,t43,t44,h1,h2,h9,h26,h50,h812,h813,hk⟩ Q7 p17 p27 p37
 unfold b31_1
 refine W_r (R_lss t44 t43 (R_e ?_))
 refine W_seq_if rfl (fun c8=>?_) fun c8=>?_
 ·
  have rk:=rc.rng k (by omega)
  have rr:=mo.2.2.2.2.2.2.2 (nth (rch m) k).toNat (by omega)
  have eo:tOt m k=nth m.ot (nth (rch m) k).toNat:=tOt_row hm (by omega)
  refine W_seq_skip (W_seq_blockg fun Q9 n9 x9 y9 z9=>(W_r (R_idx (i:=k) t42 t44 (by first|omega|(simp only [List.length_replicate]; omega)|(rw [tblP_len]; omega)) rfl (R_load_pp rfl rfl (R_mv rfl (R_e (W_r ?_)))))))
  refine R_fk t1 h1 (R_lk rfl h1 rfl rfl (R_mksm (i:=50) (n:=v50) (m:=((m.i).toNat)) (q:=((m.i).toNat)) (f:=cI) (x:=0) rfl (h50).1 (Eq.trans (@rfl V (iV (m.i))) (congrArg (V.int .i64) (by first|omega|(simp only [List.length_replicate]; omega)|(rw [tblP_len]; omega)))) (Eq.trans (@rfl V (iV (m.i))) (congrArg (V.int .i64) (by first|omega|(simp only [List.length_replicate]; omega)|(rw [tblP_len]; omega)))) rfl (by first|omega|(simp only [List.length_replicate]; omega)|(rw [tblP_len]; omega)) (by first|omega|(simp only [List.length_replicate]; omega)|(rw [tblP_len]; omega)) (by first|omega|(simp only [List.length_replicate]; omega)|(rw [tblP_len]; omega)) (R_mv rfl (R_e (W_seq_seq (W_r (R_fk t1 h1 ?_)))))))
  refine R_lk rfl h1 rfl rfl (R_mv rfl (R_idxI (i:=((nth (rch m) (k)))) (@rfl V (intss m.nx)) (@rfl V (iV ((nth (rch m) (k))))) (by first|omega|(simp only [List.length_replicate]; omega)|(rw [tblP_len]; omega)) (by first|omega|(simp only [List.length_replicate]; omega)|(rw [tblP_len]; omega)) rfl (R_load_pp rfl rfl (R_len rfl (R_mv rfl (R_e (W_seq_blockg fun Q10 n10 x10 y10 z10=>?_)))))))
  refine W_loop (fun mm T H=> ∃ (j:Nat) (u:Nat),mm=m.i.toNat - j∧T 1=(V.mp 1 1 0 0)∧T 2=(V.mp 2 1 0 0)∧T 6=(V.ms 26 1 0 (m.nx.length))∧T 9=(V.mp 9 1 0 0)∧T 11=(iV ((nth (rch m) (k))))∧T 12=(V.ms 50 u 0 (m.i.toNat))∧T 42=(ints (rch m))∧T 43=(iV (((rch m).length:Nat):Int))∧T 44=(iV ((k:Nat):Int))∧T 55=(ints (nth m.nx (nth (rch m) k).toNat))∧T 56=(iV (((nth m.nx (nth (rch m) k).toNat).length:Nat):Int))∧T 57=(iV ((j:Nat):Int))∧H 1=(bk 1 24 4 [[(iV (m.i)),(iV (m.s)),(intss m.nx),(intss m.ot)]])∧H 2=(bk 1 24 4 [[(iV (0:Int)),(iV (0:Int)),V.nilsl,V.nilsl]])∧H 9=(bk 1 24 4 [[(iV (m.i)),(iV (0:Int)),(V.ms 812 v 0 (k)),(V.ms 813 w 0 (k))]])∧H 26=(bk 1 3 1 (List.map cI (N)))∧H 50=(bk u 3 1 (List.map cI (tblP (tNxA m k) 0 m.i.toNat j)))∧H 812=(bz v 38 1 (List.map cL (tbl (tNx m) k)))∧H 813=(bz w 38 1 (List.map cL (tbl (tOt m) k)))∧(j≤m.i.toNat)) ?_ ?_
  ·
   refine ⟨_,0,(v50+1),rfl,t1,t2,t6,t9,rfl,(Eq.trans (@rfl V (V.ms 50 (v50+1) 0 ((m.i).toNat))) (by first|rfl|simp)),t42,t43,t44,(Eq.trans (@rfl V (ints ((nth (m.nx) ((nth (rch m) (k))).toNat)))) (by first|rfl|simp)),(Eq.trans (@rfl V (iV ((((nth (m.nx) ((nth (rch m) (k))).toNat)).length:Nat):Int))) (by first|rfl|simp)),(Eq.trans (@rfl V (iV (0:Int))) rfl),h1,h2,h9,h26,(Eq.trans (@rfl Blk (bk (v50+1) 3 1 (List.map cI (List.replicate ((m.i).toNat) 0)))) (by first|rfl|exact congrArg (List.map cI) tblP_0|(rw [← tblP_0,List.map_replicate]; done)|(rw [rn,← tblP_go (f:=tNxA m k) (z:=0) (n:=m.i.toNat) (j:=j) (by omega)]; rfl)|(rw [tbl_succ,List.map_append,ej]; first|done|rfl)|(rw [tbl_succ,ej]; first|done|rfl)|(rw [tbl_succ,eo]; first|done|rfl)|(rw [tbl_succ,List.map_append,eo]; first|done|rfl)|(simp; done))),h812,h813,?_⟩
   · exact Nat.zero_le _
  intro mm T H ⟨j,u,hmm,t1,t2,t6,t9,t11,t12,t42,t43,t44,t55,t56,t57,h1,h2,h9,h26,h50,h812,h813,hj⟩ Q11 p111 p211 p311
  unfold b31_2
  refine W_r (R_lss t57 t56 (R_e ?_))
  refine W_seq_if rfl (fun c12=>?_) fun c12=>?_
  ·
   have rj:=rr.2.2 j (by omega)
   have rin:=rc.clo k (by omega) _ (nth_mem (show j < (nth m.nx (nth (rch m) k).toNat).length by omega))
   have rn:=hnum _ rin
   refine W_seq_skip (W_seq_blockg fun Q13 n13 x13 y13 z13=>(W_r (R_mv t57 (R_idx (i:=j) t55 t57 (by first|omega|(simp only [List.length_replicate]; omega)|(rw [tblP_len]; omega)) rfl (R_load_pp rfl rfl (R_mv rfl (R_mv rfl ?_)))))))
   refine R_e (W_t (R_mv t12 (R_mv rfl (R_mv t6 (R_mv rfl (R_idxI_ms0 (i:=((nth (nth m.nx (nth (rch m) k).toNat) (j)))) (@rfl V (V.ms 26 1 0 (m.nx.length))) (@rfl V (iV ((nth (nth m.nx (nth (rch m) k).toNat) (j))))) h26 oB rfl (by first|omega|(simp only [List.length_replicate]; omega)|(rw [tblP_len]; omega)) (by first|omega|(simp only [List.length_replicate]; omega)|(rw [tblP_len]; omega)) (R_load_mp (v:=(iV ((nth (N) ((((nth (nth m.nx (nth (rch m) k).toNat) (j)))).toNat))))) rfl h26 (ldB_map (by first|omega|(simp only [List.length_replicate]; omega)|(rw [tblP_len]; omega)) (by first|rfl|(rw [cF_eq]; rfl)|simp [ldV,V.one])) ?_)))))))
   refine R_idx_ms0 (i:=j) (@rfl V (V.ms 50 u 0 (m.i.toNat))) (@rfl V (iV ((j:Nat):Int))) h50 oB rfl (by first|omega|(simp only [List.length_replicate]; omega)|(rw [tblP_len]; omega)) (R_store (vs:=[(iV ((nth (N) ((((nth (nth m.nx (nth (rch m) k).toNat) (j)))).toNat))))]) (B':=(bk u 3 1 (List.map cI ((tblP (tNxA m k) 0 m.i.toNat j).set j (((nth (N) ((((nth (nth m.nx (nth (rch m) k).toNat) (j)))).toNat)))))))) rfl rfl rfl h50 (stB_map (x:=(((nth (N) ((((nth (nth m.nx (nth (rch m) k).toNat) (j)))).toNat))))) (i:=j) (by first|omega|(simp only [List.length_replicate]; omega)|(rw [tblP_len]; omega)) rfl rfl rfl rfl) (R_e (n13 _ _ (.done (W_t (R_addN t57 (@rfl V (iV ((1:Nat):Int))) (by first|omega|(simp only [List.length_replicate]; omega)|(rw [tblP_len]; omega)) (R_mv rfl ?_)))))))
   refine R_e ?_
   refine p111 _ _ _ ?_ ⟨(j+1),u,rfl,t1,t2,t6,t9,t11,t12,t42,t43,t44,t55,t56,(Eq.trans (@rfl V (iV ((j+1:Nat):Int))) (by first|rfl|simp)),h1,h2,h9,h26,(Eq.trans (@rfl Blk (bk u 3 1 (List.map cI ((tblP (tNxA m k) 0 m.i.toNat j).set j (((nth (N) ((((nth (nth m.nx (nth (rch m) k).toNat) (j)))).toNat)))))))) (by first|rfl|exact congrArg (List.map cI) tblP_0|(rw [← tblP_0,List.map_replicate]; done)|(rw [rn,← tblP_go (f:=tNxA m k) (z:=0) (n:=m.i.toNat) (j:=j) (by omega)]; rfl)|(rw [tbl_succ,List.map_append,ej]; first|done|rfl)|(rw [tbl_succ,ej]; first|done|rfl)|(rw [tbl_succ,eo]; first|done|rfl)|(rw [tbl_succ,List.map_append,eo]; first|done|rfl)|(simp; done))),h812,h813,?_⟩
   · omega
   · omega
  have ej:tblP (tNxA m k) 0 m.i.toNat j=tNx m k:=tblP_end (by omega)
  refine W_seq_exit (p311 _ _ _ (x10 _ _ (fork_ (R:=fun T H=>T 1=(V.mp 1 1 0 0)∧T 2=(V.mp 2 1 0 0)∧T 6=(V.ms 26 1 0 (m.nx.length))∧T 9=(V.mp 9 1 0 0)∧T 11=(iV ((nth (rch m) (k))))∧T 12=(V.ms 50 u 0 (m.i.toNat))∧T 42=(ints (rch m))∧T 43=(iV (((rch m).length:Nat):Int))∧T 44=(iV ((k:Nat):Int))∧T 55=(ints (nth m.nx (nth (rch m) k).toNat))∧T 56=(iV (((nth m.nx (nth (rch m) k).toNat).length:Nat):Int))∧T 57=(iV ((j:Nat):Int))∧T 58=(V.bool (decide (((j:Nat):Int) < (((nth m.nx (nth (rch m) k).toNat).length:Nat):Int))))∧H 1=(bk 1 24 4 [[(iV (m.i)),(iV (m.s)),(intss m.nx),(intss m.ot)]])∧H 2=(bk 1 24 4 [[(iV (0:Int)),(iV (0:Int)),V.nilsl,V.nilsl]])∧H 9=(bk 1 24 4 [[(iV (m.i)),(iV (0:Int)),(V.ms 812 v 0 (k)),(V.ms 813 w 0 (k))]])∧H 26=(bk 1 3 1 (List.map cI (N)))∧H 50=(bk u 3 1 (List.map cI (tblP (tNxA m k) 0 m.i.toNat j)))∧H 812=(bz v 38 1 (List.map cL (tbl (tNx m) k)))∧H 813=(bz w 38 1 (List.map cL (tbl (tOt m) k)))∧True) ⟨t1,t2,t6,t9,t11,t12,t42,t43,t44,t55,t56,t57,(@rfl V (V.bool (decide (((j:Nat):Int) < (((nth m.nx (nth (rch m) k).toNat).length:Nat):Int))))),h1,h2,h9,h26,h50,h812,h813,trivial⟩ ?_)))
  intro T H ⟨t1,t2,t6,t9,t11,t12,t42,t43,t44,t55,t56,t57,t58,h1,h2,h9,h26,h50,h812,h813,_⟩
  refine .freeze 50 (.done ?_)
  refine fork_ (R:=fun T H=>T 1=(V.mp 1 1 0 0)∧T 2=(V.mp 2 1 0 0)∧T 6=(V.ms 26 1 0 (m.nx.length))∧T 9=(V.mp 9 1 0 0)∧T 11=(iV ((nth (rch m) (k))))∧T 12=(ints (tblP (tNxA m k) 0 m.i.toNat j))∧T 42=(ints (rch m))∧T 43=(iV (((rch m).length:Nat):Int))∧T 44=(iV ((k:Nat):Int))∧T 55=(ints (nth m.nx (nth (rch m) k).toNat))∧T 56=(iV (((nth m.nx (nth (rch m) k).toNat).length:Nat):Int))∧T 57=(iV ((j:Nat):Int))∧T 58=(V.bool (decide (((j:Nat):Int) < (((nth m.nx (nth (rch m) k).toNat).length:Nat):Int))))∧H 1=(bk 1 24 4 [[(iV (m.i)),(iV (m.s)),(intss m.nx),(intss m.ot)]])∧H 2=(bk 1 24 4 [[(iV (0:Int)),(iV (0:Int)),V.nilsl,V.nilsl]])∧H 9=(bk 1 24 4 [[(iV (m.i)),(iV (0:Int)),(V.ms 812 v 0 (k)),(V.ms 813 w 0 (k))]])∧H 26=(bk 1 3 1 (List.map cI (N)))∧((H 50).ver=u∧(H 50).live=false)∧H 812=(bz v 38 1 (List.map cL (tbl (tNx m) k)))∧H 813=(bz w 38 1 (List.map cL (tbl (tOt m) k)))∧True) ⟨(fzT_q t1 rfl),(fzT_q t2 rfl),(fzT_q t6 (fzq_other (by decide))),(fzT_q t9 rfl),(fzT_q t11 rfl),(fzT_q t12 (fzq_own h50 (by first|rfl|simp) (l:=(tblP (tNxA m k) 0 m.i.toNat j)) rfl (by first|rfl|exact (tbl_len _ _).symm|simp|omega))),(fzT_q t42 rfl),(fzT_q t43 rfl),(fzT_q t44 rfl),(fzT_q t55 rfl),(fzT_q t56 rfl),(fzT_q t57 rfl),(fzT_q t58 rfl),(kill_ne h1 (by decide)),(kill_ne h2 (by decide)),(kill_ne h9 (by decide)),(kill_ne h26 (by decide)),(kill_self (congrArg Blk.ver h50)),(kill_ne h812 (by decide)),(kill_ne h813 (by decide)),trivial⟩ ?_
  intro T H ⟨t1,t2,t6,t9,t11,t12,t42,t43,t44,t55,t56,t57,t58,h1,h2,h9,h26,h50,h812,h813,_⟩
  refine W_r (R_fk t9 h9 (R_lk rfl h9 rfl rfl (R_mv t12 (R_bslice rfl rfl (R_append1 (l:=(tbl (tNx m) k)) (f:=cL) (x:=(tblP (tNxA m k) 0 m.i.toNat j)) (@rfl V (V.ms 812 v 0 (k))) h812 (by first|rfl|exact (tbl_len _ _).symm|simp|omega) (@rfl V (V.sl [[(ints (tblP (tNxA m k) 0 m.i.toNat j))]])) rfl rfl (by first|omega|(simp only [List.length_replicate]; omega)|(rw [tblP_len]; omega)) (by first|omega|(simp only [List.length_replicate]; omega)|(rw [tblP_len]; omega)) (R_fk t9 h9 (R_store (vs:=[(V.ms 812 (v+1) 0 (k+1))]) (B':=(bk 1 24 4 [[(iV (m.i)),(iV (0:Int)),(V.ms 812 (v+1) 0 (k+1)),(V.ms 813 w 0 (k))]])) rfl rfl rfl h9 (sB oB rfl rfl rfl rfl rfl) ?_)))))))
  refine R_e (W_t (R_fk t9 rfl (R_lk rfl rfl rfl rfl (R_fk t1 h1 (R_lk rfl h1 rfl rfl (R_mv t11 (R_idxI (i:=((nth (rch m) (k)))) (@rfl V (intss m.ot)) (@rfl V (iV ((nth (rch m) (k))))) (by first|omega|(simp only [List.length_replicate]; omega)|(rw [tblP_len]; omega)) (by first|omega|(simp only [List.length_replicate]; omega)|(rw [tblP_len]; omega)) rfl ?_)))))))
  refine R_load_pp rfl rfl (R_callk (clone_pure ((nth (m.ot) ((nth (rch m) (k))).toNat)) (by omega)) rfl (R_bslice rfl rfl (R_append1 (l:=(tbl (tOt m) k)) (f:=cL) (x:=(((nth (m.ot) ((nth (rch m) (k))).toNat)))) (@rfl V (V.ms 813 w 0 (k))) h813 (by first|rfl|exact (tbl_len _ _).symm|simp|omega) (@rfl V (V.sl [[(ints (((nth (m.ot) ((nth (rch m) (k))).toNat))))]])) rfl rfl (by first|omega|(simp only [List.length_replicate]; omega)|(rw [tblP_len]; omega)) (by first|omega|(simp only [List.length_replicate]; omega)|(rw [tblP_len]; omega)) (R_fk t9 rfl (R_store (vs:=[(V.ms 813 (w+1) 0 (k+1))]) (B':=(bk 1 24 4 [[(iV (m.i)),(iV (0:Int)),(V.ms 812 (v+1) 0 (k+1)),(V.ms 813 (w+1) 0 (k+1))]])) rfl rfl rfl rfl (sB oB rfl rfl rfl rfl rfl) (R_e (n9 _ _ ?_)))))))
  refine .done (W_t (R_addN t44 (@rfl V (iV ((1:Nat):Int))) (by first|omega|(simp only [List.length_replicate]; omega)|(rw [tblP_len]; omega)) (R_mv rfl (R_e ?_))))
  refine p17 _ _ _ ?_ ⟨(k+1),(v+1),(w+1),u,rfl,t1,t2,t6,t9,t42,t43,(Eq.trans (@rfl V (iV ((k+1:Nat):Int))) (by first|rfl|simp)),h1,h2,(Eq.trans (@rfl Blk (bk 1 24 4 [[(iV (m.i)),(iV (0:Int)),(V.ms 812 (v+1) 0 (k+1)),(V.ms 813 (w+1) 0 (k+1))]])) (by first|rfl|exact congrArg (List.map cI) tblP_0|(rw [← tblP_0,List.map_replicate]; done)|(rw [rn,← tblP_go (f:=tNxA m k) (z:=0) (n:=m.i.toNat) (j:=j) (by omega)]; rfl)|(rw [tbl_succ,List.map_append,ej]; first|done|rfl)|(rw [tbl_succ,ej]; first|done|rfl)|(rw [tbl_succ,eo]; first|done|rfl)|(rw [tbl_succ,List.map_append,eo]; first|done|rfl)|(simp; done))),h26,h50,(Eq.trans (@rfl Blk (bz (v+1) 38 1 (List.map cL (tbl (tNx m) k++[tblP (tNxA m k) 0 m.i.toNat j])))) (by first|rfl|exact congrArg (List.map cI) tblP_0|(rw [← tblP_0,List.map_replicate]; done)|(rw [rn,← tblP_go (f:=tNxA m k) (z:=0) (n:=m.i.toNat) (j:=j) (by omega)]; rfl)|(rw [tbl_succ,List.map_append,ej]; first|done|rfl)|(rw [tbl_succ,ej]; first|done|rfl)|(rw [tbl_succ,eo]; first|done|rfl)|(rw [tbl_succ,List.map_append,eo]; first|done|rfl)|(simp; done))),(Eq.trans (@rfl Blk (bz (w+1) 38 1 (List.map cL (tbl (tOt m) k++[((nth (m.ot) ((nth (rch m) (k))).toNat))])))) (by first|rfl|exact congrArg (List.map cI) tblP_0|(rw [← tblP_0,List.map_replicate]; done)|(rw [rn,← tblP_go (f:=tNxA m k) (z:=0) (n:=m.i.toNat) (j:=j) (by omega)]; rfl)|(rw [tbl_succ,List.map_append,ej]; first|done|rfl)|(rw [tbl_succ,ej]; first|done|rfl)|(rw [tbl_succ,eo]; first|done|rfl)|(rw [tbl_succ,List.map_append,eo]; first|done|rfl)|(simp; done))),?_⟩
  · omega
  · omega
 refine W_seq_exit (p37 _ _ _ (x6 _ _ (.done (W_r (R_lk t9 h9 rfl rfl (R_store (vs:=[(iV (m.i)),(iV (0:Int)),(V.ms 812 v 0 (k)),(V.ms 813 w 0 (k))]) (B':=(bk 1 24 4 [[(iV (m.i)),(iV (0:Int)),(V.ms 812 v 0 (k)),(V.ms 813 w 0 (k))]])) t2 rfl rfl h2 (sB oB rfl rfl rfl rfl rfl) (R_mv rfl ?_)))))))
 refine R_e (W_ret ?_)
 refine RetC_2 (resV_c (u:=(V.agg [(iV (m.i)),(iV (0:Int)),(V.ms 812 v 0 (k)),(V.ms 813 w 0 (k))])) t2 (@rfl Blk (bk 1 24 4 [[(iV (m.i)),(iV (0:Int)),(V.ms 812 v 0 (k)),(V.ms 813 w 0 (k))]])) (lB oB rfl rfl)) (resV_t (@rfl V (iV (0:Int)))) (fz_aggL (mcons (fz_int ?_) (mcons (fz_int ?_) (mcons (fz_ms h812 (by first|rfl|simp) (l:=(tbl (tNx m) k)) rfl (by first|rfl|exact (tbl_len _ _).symm|simp|omega) (fun _=>by simp) ?_) (mcons (fz_ms h813 (by first|rfl|simp) (l:=(tbl (tOt m) k)) rfl (by first|rfl|exact (tbl_len _ _).symm|simp|omega) (fun _=>by simp) ?_) rfl))))) (fz_int ?_)
 · rw [trR,if_pos hm,trm_tbl hm]; try first|rfl|(rw [show k=(rch m).length by omega]; done)|(rw [show k=(rch m).length by omega]; rfl)
 · rw [trR,if_pos hm,trm_tbl hm]; try first|rfl|(rw [show k=(rch m).length by omega]; done)|(rw [show k=(rch m).length by omega]; rfl)
 · rw [trR,if_pos hm,trm_tbl hm]; try first|rfl|(rw [show k=(rch m).length by omega]; done)|(rw [show k=(rch m).length by omega]; rfl)
 · rw [trR,if_pos hm,trm_tbl hm]; try first|rfl|(rw [show k=(rch m).length by omega]; done)|(rw [show k=(rch m).length by omega]; rfl)
 · exact hm.symm
end Go.Proofs.YtilfohjlglefjaaGreat
namespace Go.Proofs.YtilfohjlglefjaaGreat
open Go Go.Proofs
theorem idxbool_pure (l:List Bool) (b:Bool):PureC Tryz.prog 82 [(V.sl (List.map cB (l))),(V.bool b)] (iV (fi (fun j=>b==nth l j) 0 l.length)):=by
 refine pW Tryz.func82 s82_ok fun hB=>?_
 unfold s82
 dsimp only
 refine W_r (R_mv rfl (R_e (W_seq_seq (W_r (R_mv rfl (R_len rfl (R_mv rfl ?_)))))))
 refine R_e (W_seq_blockg fun Q1 n1 x1 y1 z1=>?_)
 refine W_loop (fun mm T H=> ∃ (k:Nat),mm=l.length - k∧T 0=(V.sl (List.map cB (l)))∧T 1=(V.bool b)∧T 7=(iV ((l.length:Nat):Int))∧T 8=(iV ((k:Nat):Int))∧(k≤l.length)∧(fi (fun j=>b==nth l j) 0 l.length=fi (fun j=>b==nth l j) k (l.length - k))) ?_ ?_
 ·
  refine ⟨_,0,rfl,rfl,rfl,rfl,(Eq.trans (@rfl V (iV (0:Int))) rfl),?_,?_⟩
  · omega
  · rfl
 intro mm T H ⟨k,hmm,t0,t1,t7,t8,hk,hc⟩ Q2 p12 p22 p32
 unfold b82_0
 refine W_r (R_lss t8 t7 (R_e ?_))
 refine W_seq_if rfl (fun c3=>?_) fun c3=>?_
 ·
  refine W_seq_skip (W_seq_blockg fun Q4 n4 x4 y4 z4=>(W_r (R_mv t8 (R_mv rfl (R_e (W_r (R_mv t1 ?_)))))))
  refine R_mv t0 (R_mv rfl (R_idx (i:=k) (@rfl V (V.sl (List.map cB (l)))) (@rfl V (iV ((k:Nat):Int))) (by omega) rfl (R_load_pp rfl rfl (R_beql (x:=b) (y:=((nth (l) (k)))) rfl rfl (R_e ?_)))))
  refine W_ifb rfl (fun c5=>?_) (fun c5=>?_)
  ·
   have d1:=c5
   refine W_r (R_mv rfl (R_mv rfl (R_e (W_ret (y4 _ _ (p22 _ _ (y1 _ _ ?_)))))))
   refine Ret_1 (@rfl V (iV ((k:Nat):Int))) (fz_int ?_)
   · rw [hc,fi_hit (p:=fun j=>b==nth l j) d1 (by omega)]
  have d1:=c5
  refine W_skip (n4 _ _ (.done (W_t (R_addN t8 (@rfl V (iV ((1:Nat):Int))) (by omega) (R_mv rfl (R_e ?_))))))
  refine p12 _ _ _ ?_ ⟨(k+1),rfl,t0,t1,t7,(Eq.trans (@rfl V (iV ((k+1:Nat):Int))) (by first|rfl|simp)),?_,?_⟩
  · omega
  · omega
  · rw [hc,fi_skip (p:=fun j=>b==nth l j) d1 (by omega)]
 refine W_seq_exit (p32 _ _ _ (x1 _ _ (.done (W_r (R_mv rfl (R_e (W_ret ?_)))))))
 refine Ret_1 (@rfl V (iV (-1:Int))) (fz_int ?_)
 · rw [hc,fi_end (by omega)]
theorem conbool_pure (l:List Bool) (b:Bool):PureC Tryz.prog 57 [(V.sl (List.map cB (l))),(V.bool b)] (V.bool (decide (0≤fi (fun j=>b==nth l j) 0 l.length))):=by
 refine pW Tryz.func57 s57_ok fun hB=>?_
 unfold s57
 dsimp only
 refine W_r (R_mv rfl (R_e (W_r (R_mv rfl (R_mv rfl (R_callk (idxbool_pure l b) rfl (R_geq rfl rfl ?_)))))))
 refine R_mv rfl (R_e (W_ret ?_))
 refine Ret_1 (@rfl V (V.bool (decide ((0:Int)≤(fi (fun j=>b==nth l j) 0 l.length))))) (fz_bool ?_)
 · rfl
end Go.Proofs.YtilfohjlglefjaaGreat
namespace Go.Proofs.YtilfohjlglefjaaGreat
open Go Go.Proofs
attribute [local irreducible] mksV
theorem running_E (m:M) (inp tm kk s:Int) (v u:Nat) (Hi:Heap) (hv:(Hi 902).ver=v) (hu:(Hi 895).ver=u) (hs:0≤s∧s < m.ot.length) (hi:1≤inp∧inp≤64) (ht:0≤tm∧tm≤4) (hr:inp+tm≤(nth m.ot s.toNat).length):CallOK Tryz.prog 58 [(V.agg [(iV (m.i)),(iV (m.s)),(intss m.nx),(intss m.ot),(iV (inp)),(iV (tm)),(iV (kk))]),(iV (s))] Hi (V.ms 902 (v+1) 0 (tm.toNat)) (upd (upd Hi 895 (⟨u+1,false,false,0,0,[]⟩:Blk)) 902 (bk (v+1) 4 1 (List.map cB (rnL m inp tm s.toNat)))):=by
 refine eW (k0:=893) Tryz.func58 s58_ok fun hB=>?_
 unfold s58
 dsimp only
 refine W_r (R_box (i:=895) (n:=u) (m:=7) (cs:=[(iV (m.i)),(iV (m.s)),(intss m.nx),(intss m.ot),(iV (inp)),(iV (tm)),(iV (kk))]) (by rfl) hu rfl rfl rfl (R_mv rfl (R_e (W_r (R_fk rfl rfl (R_lk rfl rfl rfl rfl ?_))))))
 refine (R_mks (i:=902) (n:=v) (m:=((tm).toNat)) (q:=((tm).toNat)) (by rfl) hv (Eq.trans (@rfl V (iV (tm))) (congrArg (V.int .i64) (by first|omega|(rw [rnP_len]; omega)))) (Eq.trans (@rfl V (iV (tm))) (congrArg (V.int .i64) (by first|omega|(rw [rnP_len]; omega)))) (by first|omega|(rw [rnP_len]; omega)) (by first|omega|(rw [rnP_len]; omega)) (by first|omega|(rw [rnP_len]; omega)) ?_)
 refine R_mv rfl (R_e (W_seq_seq (W_r (R_mv rfl (R_len_ms rfl (@rfl Blk (bk (v+1) 4 1 (List.replicate ((tm).toNat) [(V.bool false)]))) (by first|rfl|simp) (R_mv rfl (R_e ?_)))))))
 refine W_seq_blockg fun Q1 n1 x1 y1 z1=>?_
 refine W_loop (fun mm T H=> ∃ (k:Nat),mm=tm.toNat - k∧T 1=(iV (s))∧T 2=(V.mp 895 (u+1) 0 0)∧T 5=(V.ms 902 (v+1) 0 (tm.toNat))∧T 11=(iV ((tm.toNat:Nat):Int))∧T 12=(iV ((k:Nat):Int))∧(∀ j,j∉[895,902]→H j=Hi j)∧H 895=(bk (u+1) 68 7 [[(iV (m.i)),(iV (m.s)),(intss m.nx),(intss m.ot),(iV (inp)),(iV (tm)),(iV (kk))]])∧H 902=(bk (v+1) 4 1 (List.map cB (rnP m inp tm s.toNat k)))∧(k≤tm.toNat)) ?_ ?_
 ·
  refine ⟨_,0,rfl,rfl,rfl,(Eq.trans (@rfl V (V.ms 902 (v+1) 0 ((tm).toNat))) (by first|rfl|simp)),(Eq.trans (@rfl V (iV (((tm).toNat:Nat):Int))) (by first|rfl|simp)),(Eq.trans (@rfl V (iV (0:Int))) rfl),(upd_out (upd_out (fun _ _=>rfl) (by decide)) (by decide)),rfl,(Eq.trans (@rfl Blk (bk (v+1) 4 1 (List.replicate ((tm).toNat) [(V.bool false)]))) (by first|rfl|(rw [← rnP_0,List.map_replicate]; rfl)|(rw [← rnP_go (by omega)]; rfl)|(rw [← rnP_go (m:=m) (inp:=inp) (tm:=tm) (s:=s.toNat) (k:=k) (by omega)]; rfl)|(rw [e9]; done)|(rw [e9]; rfl)|simp)),?_⟩
  · exact Nat.zero_le _
 intro mm T H ⟨k,hmm,t1,t2,t5,t11,t12,hF,h895,h902,hk⟩ Q2 p12 p22 p32
 unfold b58_0
 refine W_r (R_lss t12 t11 (R_e ?_))
 refine W_seq_if rfl (fun c3=>?_) fun c3=>?_
 ·
  refine W_seq_skip (W_seq_blockg fun Q4 n4 x4 y4 z4=>(W_r (R_mv t12 (R_mv rfl (R_e (W_t (R_mv t5 ?_)))))))
  refine R_mv rfl (R_fk t2 h895 (R_fk rfl h895 (R_lk rfl h895 rfl rfl (R_mv t1 (R_idxI (i:=(s)) (@rfl V (intss m.ot)) (@rfl V (iV (s))) (by first|omega|(rw [rnP_len]; omega)) (by first|omega|(rw [rnP_len]; omega)) rfl (R_load_pp rfl rfl (R_fk t2 h895 ?_)))))))
  refine R_lk rfl h895 rfl rfl (R_mv rfl (R_add rfl rfl (by first|omega|(rw [rnP_len]; omega)) (by first|omega|(rw [rnP_len]; omega)) (R_idxI (i:=((inp)+((k:Nat):Int))) (@rfl V (ints ((nth (m.ot) (s).toNat)))) (@rfl V (iV ((inp)+((k:Nat):Int)))) (by first|omega|(rw [rnP_len]; omega)) (by first|omega|(rw [rnP_len]; omega)) rfl (R_load_pp rfl rfl (R_neq rfl rfl (R_idx_ms0 (i:=k) (@rfl V (V.ms 902 (v+1) 0 (tm.toNat))) (@rfl V (iV ((k:Nat):Int))) h902 oB rfl (by first|omega|(rw [rnP_len]; omega)) (R_store (vs:=[(V.bool (decide (((nth ((nth (m.ot) (s).toNat)) ((inp)+((k:Nat):Int)).toNat))≠(0:Int))))]) (B':=(bk (v+1) 4 1 (List.map cB ((rnP m inp tm s.toNat k).set k (decide (((nth ((nth (m.ot) (s).toNat)) ((inp)+((k:Nat):Int)).toNat))≠(0:Int))))))) rfl rfl rfl h902 (stB_map (x:=(decide (((nth ((nth (m.ot) (s).toNat)) ((inp)+((k:Nat):Int)).toNat))≠(0:Int)))) (i:=k) (by first|omega|(rw [rnP_len]; omega)) rfl rfl rfl rfl) ?_)))))))
  refine R_e (n4 _ _ (.done (W_t (R_addN t12 (@rfl V (iV ((1:Nat):Int))) (by first|omega|(rw [rnP_len]; omega)) (R_mv rfl (R_e ?_))))))
  refine p12 _ _ _ ?_ ⟨(k+1),rfl,t1,t2,t5,t11,(Eq.trans (@rfl V (iV ((k+1:Nat):Int))) (by first|rfl|simp)),(upd_out hF (by decide)),h895,(Eq.trans (@rfl Blk (bk (v+1) 4 1 (List.map cB ((rnP m inp tm s.toNat k).set k (decide (((nth ((nth (m.ot) (s).toNat)) ((inp)+((k:Nat):Int)).toNat))≠(0:Int))))))) (by first|rfl|(rw [← rnP_0,List.map_replicate]; rfl)|(rw [← rnP_go (by omega)]; rfl)|(rw [← rnP_go (m:=m) (inp:=inp) (tm:=tm) (s:=s.toNat) (k:=k) (by omega)]; rfl)|(rw [e9]; done)|(rw [e9]; rfl)|simp)),?_⟩
  · omega
  · omega
 have e9:=rnP_end (m:=m) (inp:=inp) (s:=s.toNat) (show tm.toNat≤k by omega)
 refine W_seq_exit (p32 _ _ _ (x1 _ _ (.done (W_r (R_mv t5 (R_mv rfl (R_e ?_)))))))
 refine W_ret (fork_ (R:=fun T H=>T 4=(V.ms 902 (v+1) 0 (tm.toNat))∧(∀ j,j∉[895,902]→H j=Hi j)∧H 895=(bk (u+1) 68 7 [[(iV (m.i)),(iV (m.s)),(intss m.nx),(intss m.ot),(iV (inp)),(iV (tm)),(iV (kk))]])∧H 902=(bk (v+1) 4 1 (List.map cB (rnP m inp tm s.toNat k)))∧True) ⟨(@rfl V (V.ms 902 (v+1) 0 (tm.toNat))),hF,h895,h902,trivial⟩ ?_)
 intro T H ⟨t4,hF,h895,h902,_⟩
 have fh:=FinX.fin (FinX.put (B:=(bk (v+1) 4 1 (List.map cB (rnL m inp tm s.toNat)))) (FinX.putv (n:=(u+1)) (B:=(⟨u+1,false,false,0,0,[]⟩:Blk)) (FinX.start hF) (congrArg Blk.ver h895) (by show _≤u+1; omega) rfl) h902 (FinB.eq (by first|rfl|(rw [← rnP_0,List.map_replicate]; rfl)|(rw [← rnP_go (by omega)]; rfl)|(rw [← rnP_go (m:=m) (inp:=inp) (tm:=tm) (s:=s.toNat) (k:=k) (by omega)]; rfl)|(rw [e9]; done)|(rw [e9]; rfl)|simp)))
 exact RetF_1 t4 fh (FinV.trans_eq (FinV.same fh _) rfl)
theorem running2_E (m:M) (inp tm kk s:Int) (v u:Nat) (Hi:Heap) (hv:(Hi 1002).ver=v) (hu:(Hi 995).ver=u) (hs:0≤s∧s < m.ot.length) (hi:1≤inp∧inp≤64) (ht:0≤tm∧tm≤4) (hr:inp+tm≤(nth m.ot s.toNat).length):CallOK Tryz.prog 58 [(V.agg [(iV (m.i)),(iV (m.s)),(intss m.nx),(intss m.ot),(iV (inp)),(iV (tm)),(iV (kk))]),(iV (s))] Hi (V.ms 1002 (v+1) 0 (tm.toNat)) (upd (upd Hi 995 (⟨u+1,false,false,0,0,[]⟩:Blk)) 1002 (bk (v+1) 4 1 (List.map cB (rnL m inp tm s.toNat)))):=by
 refine eW (k0:=993) Tryz.func58 s58_ok fun hB=>?_
 unfold s58
 dsimp only
 refine W_r (R_box (i:=995) (n:=u) (m:=7) (cs:=[(iV (m.i)),(iV (m.s)),(intss m.nx),(intss m.ot),(iV (inp)),(iV (tm)),(iV (kk))]) (by rfl) hu rfl rfl rfl (R_mv rfl (R_e (W_r (R_fk rfl rfl (R_lk rfl rfl rfl rfl ?_))))))
 refine (R_mks (i:=1002) (n:=v) (m:=((tm).toNat)) (q:=((tm).toNat)) (by rfl) hv (Eq.trans (@rfl V (iV (tm))) (congrArg (V.int .i64) (by first|omega|(rw [rnP_len]; omega)))) (Eq.trans (@rfl V (iV (tm))) (congrArg (V.int .i64) (by first|omega|(rw [rnP_len]; omega)))) (by first|omega|(rw [rnP_len]; omega)) (by first|omega|(rw [rnP_len]; omega)) (by first|omega|(rw [rnP_len]; omega)) ?_)
 refine R_mv rfl (R_e (W_seq_seq (W_r (R_mv rfl (R_len_ms rfl (@rfl Blk (bk (v+1) 4 1 (List.replicate ((tm).toNat) [(V.bool false)]))) (by first|rfl|simp) (R_mv rfl (R_e ?_)))))))
 refine W_seq_blockg fun Q1 n1 x1 y1 z1=>?_
 refine W_loop (fun mm T H=> ∃ (k:Nat),mm=tm.toNat - k∧T 1=(iV (s))∧T 2=(V.mp 995 (u+1) 0 0)∧T 5=(V.ms 1002 (v+1) 0 (tm.toNat))∧T 11=(iV ((tm.toNat:Nat):Int))∧T 12=(iV ((k:Nat):Int))∧(∀ j,j∉[995,1002]→H j=Hi j)∧H 995=(bk (u+1) 68 7 [[(iV (m.i)),(iV (m.s)),(intss m.nx),(intss m.ot),(iV (inp)),(iV (tm)),(iV (kk))]])∧H 1002=(bk (v+1) 4 1 (List.map cB (rnP m inp tm s.toNat k)))∧(k≤tm.toNat)) ?_ ?_
 ·
  refine ⟨_,0,rfl,rfl,rfl,(Eq.trans (@rfl V (V.ms 1002 (v+1) 0 ((tm).toNat))) (by first|rfl|simp)),(Eq.trans (@rfl V (iV (((tm).toNat:Nat):Int))) (by first|rfl|simp)),(Eq.trans (@rfl V (iV (0:Int))) rfl),(upd_out (upd_out (fun _ _=>rfl) (by decide)) (by decide)),rfl,(Eq.trans (@rfl Blk (bk (v+1) 4 1 (List.replicate ((tm).toNat) [(V.bool false)]))) (by first|rfl|(rw [← rnP_0,List.map_replicate]; rfl)|(rw [← rnP_go (by omega)]; rfl)|(rw [← rnP_go (m:=m) (inp:=inp) (tm:=tm) (s:=s.toNat) (k:=k) (by omega)]; rfl)|(rw [e9]; done)|(rw [e9]; rfl)|simp)),?_⟩
  · exact Nat.zero_le _
 intro mm T H ⟨k,hmm,t1,t2,t5,t11,t12,hF,h995,h1002,hk⟩ Q2 p12 p22 p32
 unfold b58_0
 refine W_r (R_lss t12 t11 (R_e ?_))
 refine W_seq_if rfl (fun c3=>?_) fun c3=>?_
 ·
  refine W_seq_skip (W_seq_blockg fun Q4 n4 x4 y4 z4=>(W_r (R_mv t12 (R_mv rfl (R_e (W_t (R_mv t5 ?_)))))))
  refine R_mv rfl (R_fk t2 h995 (R_fk rfl h995 (R_lk rfl h995 rfl rfl (R_mv t1 (R_idxI (i:=(s)) (@rfl V (intss m.ot)) (@rfl V (iV (s))) (by first|omega|(rw [rnP_len]; omega)) (by first|omega|(rw [rnP_len]; omega)) rfl (R_load_pp rfl rfl (R_fk t2 h995 ?_)))))))
  refine R_lk rfl h995 rfl rfl (R_mv rfl (R_add rfl rfl (by first|omega|(rw [rnP_len]; omega)) (by first|omega|(rw [rnP_len]; omega)) (R_idxI (i:=((inp)+((k:Nat):Int))) (@rfl V (ints ((nth (m.ot) (s).toNat)))) (@rfl V (iV ((inp)+((k:Nat):Int)))) (by first|omega|(rw [rnP_len]; omega)) (by first|omega|(rw [rnP_len]; omega)) rfl (R_load_pp rfl rfl (R_neq rfl rfl (R_idx_ms0 (i:=k) (@rfl V (V.ms 1002 (v+1) 0 (tm.toNat))) (@rfl V (iV ((k:Nat):Int))) h1002 oB rfl (by first|omega|(rw [rnP_len]; omega)) (R_store (vs:=[(V.bool (decide (((nth ((nth (m.ot) (s).toNat)) ((inp)+((k:Nat):Int)).toNat))≠(0:Int))))]) (B':=(bk (v+1) 4 1 (List.map cB ((rnP m inp tm s.toNat k).set k (decide (((nth ((nth (m.ot) (s).toNat)) ((inp)+((k:Nat):Int)).toNat))≠(0:Int))))))) rfl rfl rfl h1002 (stB_map (x:=(decide (((nth ((nth (m.ot) (s).toNat)) ((inp)+((k:Nat):Int)).toNat))≠(0:Int)))) (i:=k) (by first|omega|(rw [rnP_len]; omega)) rfl rfl rfl rfl) ?_)))))))
  refine R_e (n4 _ _ (.done (W_t (R_addN t12 (@rfl V (iV ((1:Nat):Int))) (by first|omega|(rw [rnP_len]; omega)) (R_mv rfl (R_e ?_))))))
  refine p12 _ _ _ ?_ ⟨(k+1),rfl,t1,t2,t5,t11,(Eq.trans (@rfl V (iV ((k+1:Nat):Int))) (by first|rfl|simp)),(upd_out hF (by decide)),h995,(Eq.trans (@rfl Blk (bk (v+1) 4 1 (List.map cB ((rnP m inp tm s.toNat k).set k (decide (((nth ((nth (m.ot) (s).toNat)) ((inp)+((k:Nat):Int)).toNat))≠(0:Int))))))) (by first|rfl|(rw [← rnP_0,List.map_replicate]; rfl)|(rw [← rnP_go (by omega)]; rfl)|(rw [← rnP_go (m:=m) (inp:=inp) (tm:=tm) (s:=s.toNat) (k:=k) (by omega)]; rfl)|(rw [e9]; done)|(rw [e9]; rfl)|simp)),?_⟩
  · omega
  · omega
 have e9:=rnP_end (m:=m) (inp:=inp) (s:=s.toNat) (show tm.toNat≤k by omega)
 refine W_seq_exit (p32 _ _ _ (x1 _ _ (.done (W_r (R_mv t5 (R_mv rfl (R_e ?_)))))))
 refine W_ret (fork_ (R:=fun T H=>T 4=(V.ms 1002 (v+1) 0 (tm.toNat))∧(∀ j,j∉[995,1002]→H j=Hi j)∧H 995=(bk (u+1) 68 7 [[(iV (m.i)),(iV (m.s)),(intss m.nx),(intss m.ot),(iV (inp)),(iV (tm)),(iV (kk))]])∧H 1002=(bk (v+1) 4 1 (List.map cB (rnP m inp tm s.toNat k)))∧True) ⟨(@rfl V (V.ms 1002 (v+1) 0 (tm.toNat))),hF,h995,h1002,trivial⟩ ?_)
 intro T H ⟨t4,hF,h995,h1002,_⟩
 have fh:=FinX.fin (FinX.put (B:=(bk (v+1) 4 1 (List.map cB (rnL m inp tm s.toNat)))) (FinX.putv (n:=(u+1)) (B:=(⟨u+1,false,false,0,0,[]⟩:Blk)) (FinX.start hF) (congrArg Blk.ver h995) (by show _≤u+1; omega) rfl) h1002 (FinB.eq (by first|rfl|(rw [← rnP_0,List.map_replicate]; rfl)|(rw [← rnP_go (by omega)]; rfl)|(rw [← rnP_go (m:=m) (inp:=inp) (tm:=tm) (s:=s.toNat) (k:=k) (by omega)]; rfl)|(rw [e9]; done)|(rw [e9]; rfl)|simp)))
 exact RetF_1 t4 fh (FinV.trans_eq (FinV.same fh _) rfl)
end Go.Proofs.YtilfohjlglefjaaGreat
namespace Go.Proofs.YtilfohjlglefjaaGreat
open Go Go.Proofs
theorem apart_pure (k o:Int) (hk:0 < k) (ho:1≤o∧o≤1048576):PureC Tryz.prog 33 [(V.agg [(iV (k))]),(iV (o))] (V.tup [(iV ((o - 1) / k)),(iV ((o - 1) % k))]):=by
 refine pW Tryz.func33 s33_ok fun hB=>?_
 unfold s33
 dsimp only
 refine W_r (R_box (i:=2) (n:=0) (m:=1) (cs:=[(iV (k))]) rfl (congrArg Blk.ver rfl) rfl rfl rfl (R_mv rfl (R_mv rfl (R_e (W_r (R_mv rfl (R_sub rfl rfl (by omega) (by omega) ?_)))))))
 refine R_fk rfl rfl (R_lk rfl rfl rfl rfl (R_quoI (x:=((o) - (1:Int))) (y:=(k)) rfl rfl (by omega) (by omega) (R_mv rfl (R_sub rfl rfl (by omega) (by omega) (R_fk rfl rfl (R_lk rfl rfl rfl rfl (R_remI (x:=((o) - (1:Int))) (y:=(k)) rfl rfl (by omega) (by omega) ?_)))))))
 refine R_mv rfl (R_mv rfl (R_e (W_ret ?_)))
 refine Ret_2 (@rfl V (iV ((((o) - (1:Int))) / ((k))))) (@rfl V (iV ((((o) - (1:Int))) % ((k))))) (fz_int ?_) (fz_int ?_)
 · rfl
 · rfl
theorem setting_pure (c:Int) (hc:0≤c∧c≤1048576):PureC Tryz.prog 34 [(iV (c))] (V.agg [(iV ((sgC c).1)),(iV ((sgC c).2))]):=by
 refine pW Tryz.func34 s34_ok fun hB=>?_
 unfold s34
 dsimp only
 refine W_r (R_alloc (i:=2) (n:=0) (m:=2) rfl (congrArg Blk.ver rfl) rfl (R_e (W_seq_seq (W_r (R_mv rfl (R_eql rfl rfl (R_e ?_)))))))
 refine W_seq_if rfl (fun c1=>?_) fun c1=>?_
 ·
  refine W_seq_seq (W_r (R_build rfl rfl (R_sk rfl rfl rfl rfl rfl rfl rfl rfl rfl (R_e (W_seq_ret ?_)))))
  refine RetC_1 (resV_c (u:=(V.agg [(iV (-1:Int)),(iV (0:Int))])) rfl (@rfl Blk (bk 1 73 2 [[(iV (-1:Int)),(iV (0:Int))]])) (lB oB rfl rfl)) (fz_agg2 (fz_int ?_) (fz_int ?_))
  · rw [show sgC c=(-1,0) from if_pos (by assumption)]
  · rw [show sgC c=(-1,0) from if_pos (by assumption)]
 refine W_seq_skip (W_r (R_mv rfl (R_sub rfl rfl (by omega) (by omega) (R_quoI (x:=((c) - (1:Int))) (y:=(1001:Int)) rfl rfl (by omega) (by omega) (R_mv rfl (R_sub rfl rfl (by omega) (by omega) (R_remI (x:=((c) - (1:Int))) (y:=(1001:Int)) rfl rfl (by omega) (by omega) ?_)))))))
 refine R_build rfl rfl (R_sk rfl rfl rfl rfl rfl rfl rfl rfl rfl (R_e (W_ret ?_)))
 refine RetC_1 (resV_c (u:=(V.agg [(iV ((((c) - (1:Int))) / ((1001:Int)))),(iV ((((c) - (1:Int))) % ((1001:Int))))])) rfl (@rfl Blk (bk 1 73 2 [[(iV ((((c) - (1:Int))) / ((1001:Int)))),(iV ((((c) - (1:Int))) % ((1001:Int))))]])) (lB oB rfl rfl)) (fz_agg2 (fz_int ?_) (fz_int ?_))
 · rw [show sgC c=((c - 1) / 1001,(c - 1) % 1001) from if_neg (by assumption)]
 · rw [show sgC c=((c - 1) / 1001,(c - 1) % 1001) from if_neg (by assumption)]
theorem eqbool_pure (a b:List Bool):PureC Tryz.prog 83 [(V.sl (List.map cB (a))),(V.sl (List.map cB (b)))] (V.bool (decide (a=b))):=by
 refine pW Tryz.func83 s83_ok fun hB=>?_
 unfold s83
 dsimp only
 refine W_r (R_mv rfl (R_e (W_seq_seq (W_r (R_mv rfl (R_len rfl (R_mv rfl ?_)))))))
 refine R_len rfl (R_neq rfl rfl (R_e ?_))
 refine W_seq_if rfl (fun c1=>?_) fun c1=>?_
 ·
  refine W_seq_seq (W_r (R_mv rfl (R_e (W_seq_ret ?_))))
  refine Ret_1 (@rfl V (V.bool false)) (fz_bool ?_)
  · exact (decide_eq_false (fun e=>by subst e; omega)).symm
 refine W_seq_skip (W_seq_seq (W_r (R_mv rfl (R_len rfl (R_mv rfl (R_e (W_seq_blockg fun Q2 n2 x2 y2 z2=>?_)))))))
 refine W_loop (fun mm T H=> ∃ (k:Nat),mm=a.length - k∧T 0=(V.sl (List.map cB (a)))∧T 1=(V.sl (List.map cB (b)))∧T 12=(iV ((a.length:Nat):Int))∧T 13=(iV ((k:Nat):Int))∧(k≤a.length)∧(a.length=b.length)∧(∀ j,j < k→nth a j=nth b j)) ?_ ?_
 ·
  refine ⟨_,0,rfl,rfl,rfl,rfl,(Eq.trans (@rfl V (iV (0:Int))) rfl),?_,?_,?_⟩
  · omega
  · omega
  · intro j hj; omega
 intro mm T H ⟨k,hmm,t0,t1,t12,t13,hk,hl,hc⟩ Q3 p13 p23 p33
 unfold b83_0
 refine W_r (R_lss t13 t12 (R_e ?_))
 refine W_seq_if rfl (fun c4=>?_) fun c4=>?_
 ·
  refine W_seq_skip (W_seq_blockg fun Q5 n5 x5 y5 z5=>(W_r (R_mv t13 (R_mv rfl (R_e (W_r (R_mv t0 ?_)))))))
  refine R_mv rfl (R_idx (i:=k) (@rfl V (V.sl (List.map cB (a)))) (@rfl V (iV ((k:Nat):Int))) (by omega) rfl (R_load_pp rfl rfl (R_mv t1 (R_mv rfl (R_idx (i:=k) (@rfl V (V.sl (List.map cB (b)))) (@rfl V (iV ((k:Nat):Int))) (by omega) rfl (R_load_pp rfl rfl (R_bneq (x:=((nth (a) (k)))) (y:=((nth (b) (k)))) rfl rfl ?_)))))))
  refine R_e ?_
  refine W_ifb rfl (fun c6=>?_) (fun c6=>?_)
  ·
   have d1:=c6
   refine W_r (R_mv rfl (R_e (W_ret (y5 _ _ (p23 _ _ (y2 _ _ ?_))))))
   refine Ret_1 (@rfl V (V.bool false)) (fz_bool ?_)
   · exact (decide_eq_false (fun e=>by subst e; exact bne_t d1 rfl)).symm
  have d1:=c6
  refine W_skip (n5 _ _ (.done (W_t (R_addN t13 (@rfl V (iV ((1:Nat):Int))) (by omega) (R_mv rfl (R_e ?_))))))
  refine p13 _ _ _ ?_ ⟨(k+1),rfl,t0,t1,t12,(Eq.trans (@rfl V (iV ((k+1:Nat):Int))) (by first|rfl|simp)),?_,?_,?_⟩
  · omega
  · omega
  · omega
  · intro j hj
    by_cases e:j=k
    · subst e; exact bne_f d1
    · exact hc j (by omega)
 refine W_seq_exit (p33 _ _ _ (x2 _ _ (.done (W_r (R_mv rfl (R_e (W_ret ?_)))))))
 refine Ret_1 (@rfl V (V.bool true)) (fz_bool ?_)
 · exact (decide_eq_true (nth_ext hl fun j hj=>hc j (by omega))).symm
theorem timed_pure (m:M) (inp tm kk:Int) (s i:Nat) (hm:MOK m) (hi:1≤inp∧inp≤64) (ht:0≤tm∧tm≤4) (hq:m.i=inp+tm) (hk:kk=sgK tm) (hs:s < m.nx.length) (hj:(i:Int) < m.i):PureC Tryz.prog 59 [(V.agg [(iV (m.i)),(iV (m.s)),(intss m.nx),(intss m.ot),(iV (inp)),(iV (tm)),(iV (kk))]),(iV ((s:Nat):Int)),(iV ((i:Nat):Int))] (V.bool (prp m inp tm s i)):=by
 refine pW Tryz.func59 s59_ok fun hB=>?_
 unfold s59
 dsimp only
 obtain ⟨m1,m2,m3,m4,m5,m6⟩:=hm
 have mr:=m6 s hs
 have mc:=mr.2.2 i hj
 have mn:=m6 (nth (nth m.nx s) i).toNat (by omega)
 have hK:0 < kk:=by rw [hk]; unfold sgK; omega
 refine W_r (R_box (i:=3) (n:=0) (m:=7) (cs:=[(iV (m.i)),(iV (m.s)),(intss m.nx),(intss m.ot),(iV (inp)),(iV (tm)),(iV (kk))]) rfl (congrArg Blk.ver rfl) rfl rfl rfl (R_mv rfl (R_e (W_r (R_fk rfl rfl (R_fk rfl rfl (R_lk rfl rfl rfl rfl ?_)))))))
 refine R_mv rfl (R_idx (i:=s) (@rfl V (intss m.ot)) (@rfl V (iV ((s:Nat):Int))) (by first|omega|(rw [rnL_len]; omega)|(rw [rn1_len]; omega)) rfl (R_load_pp rfl rfl (R_mv rfl (R_idx (i:=i) (@rfl V (ints ((nth (m.ot) (s))))) (@rfl V (iV ((i:Nat):Int))) (by first|omega|(rw [rnL_len]; omega)|(rw [rn1_len]; omega)) rfl (R_load_pp rfl rfl (R_fk rfl rfl (R_fk rfl rfl ?_)))))))
 refine R_lk rfl rfl rfl rfl (R_mv rfl (R_idx (i:=s) (@rfl V (intss m.nx)) (@rfl V (iV ((s:Nat):Int))) (by first|omega|(rw [rnL_len]; omega)|(rw [rn1_len]; omega)) rfl (R_load_pp rfl rfl (R_mv rfl (R_idx (i:=i) (@rfl V (ints ((nth (m.nx) (s))))) (@rfl V (iV ((i:Nat):Int))) (by first|omega|(rw [rnL_len]; omega)|(rw [rn1_len]; omega)) rfl (R_load_pp rfl rfl (R_mv rfl ?_)))))))
 refine R_mv rfl (R_e (W_seq_seq (W_r (R_mv rfl (R_eql rfl rfl (R_e ?_))))))
 refine W_seq_if rfl (fun c1=>?_) fun c1=>?_
 ·
  have d1:=c1
  refine W_seq_seq (W_r (R_mv rfl (R_fk rfl rfl (R_lk rfl rfl rfl rfl (R_geq rfl rfl (R_mv rfl ?_))))))
  refine Ops_seg 4 (fun T H=>T 41=(V.bool (decide (((inp)≤((i:Nat):Int))∧(((nth ((nth (m.nx) (s))) (i)))=((s:Nat):Int)))))∧H 3=(bk 1 68 7 [[(iV (m.i)),(iV (m.s)),(intss m.nx),(intss m.ot),(iV (inp)),(iV (tm)),(iV (kk))]])∧H 12=(⟨0,false,false,0,0,[]⟩:Blk)∧H 895=(⟨0,false,false,0,0,[]⟩:Blk)∧H 902=(⟨0,false,false,0,0,[]⟩:Blk)∧H 995=(⟨0,false,false,0,0,[]⟩:Blk)∧H 1002=(⟨0,false,false,0,0,[]⟩:Blk)∧True) ?_ ?_
  ·
   by_cases g2:(inp)≤((i:Nat):Int)
   ·
    refine G_yes (edT g2 rfl) (R_mv rfl (G_yes (edT g2 rfl) (R_mv rfl (G_yes (edT g2 rfl) (R_eql rfl rfl (R_pickT (edT g2 rfl) rfl ?_))))))
    exact ⟨(dec_andT g2),rfl,rfl,rfl,rfl,rfl,rfl,trivial⟩
   ·
    refine G_n (edF g2 rfl) (G_n (edF g2 rfl) (G_n (edF g2 rfl) (R_pickF (edF g2 rfl) rfl ?_)))
    exact ⟨(dec_andF g2),rfl,rfl,rfl,rfl,rfl,rfl,trivial⟩
  intro T H ⟨t41,h3,h12,h895,h902,h995,h1002,_⟩
  refine R_mv t41 (R_e (W_seq_ret ?_))
  refine Ret_1 (@rfl V (V.bool (decide (((inp)≤((i:Nat):Int))∧(((nth ((nth (m.nx) (s))) (i)))=((s:Nat):Int)))))) (fz_bool ?_)
  · unfold prp; rw [if_pos d1,Bool.decide_and]
 have d1:=c1
 have ec:((nth (nth m.ot s) i) - 1) % kk=oCd tm (nth (nth m.ot s) i):=by unfold oCd; rw [if_pos (by omega),hk]
 have eg:sgC (((nth (nth m.ot s) i) - 1) % kk)=oSg tm (nth (nth m.ot s) i):=by unfold oSg; rw [ec]
 refine W_seq_skip (W_r (R_lk rfl rfl rfl rfl (R_mv rfl (R_callE (evcons rfl (evcons rfl evnil)) (running_E m inp tm kk (((s:Nat):Int)) 0 0 _ (congrArg Blk.ver rfl) (congrArg Blk.ver rfl) ⟨by omega,by omega⟩ hi ht (by first|omega|(rw [show ((s:Nat):Int).toNat=s from rfl]; omega))) (R_mv rfl (R_e (W_seq_seq ?_)))))))
 refine W_r (R_mv rfl (R_fk rfl rfl (R_lk rfl rfl rfl rfl (R_geq rfl rfl (R_e ?_)))))
 refine W_seq_J (fun T H=>T 3=(V.mp 3 1 0 0)∧T 7=(iV ((nth ((nth (m.ot) (s))) (i))))∧T 8=(iV ((nth ((nth (m.nx) (s))) (i))))∧T 9=(V.ms 902 1 0 (tm.toNat))∧H 3=(bk 1 68 7 [[(iV (m.i)),(iV (m.s)),(intss m.nx),(intss m.ot),(iV (inp)),(iV (tm)),(iV (kk))]])∧H 12=(⟨0,false,false,0,0,[]⟩:Blk)∧H 895=(⟨1,false,false,0,0,[]⟩:Blk)∧H 902=(bk 1 4 1 (List.map cB (rn1 m inp tm s i)))∧H 995=(⟨0,false,false,0,0,[]⟩:Blk)∧H 1002=(⟨0,false,false,0,0,[]⟩:Blk)∧True) (fun Q3 n3 y3 z3=>?_) ?_
 ·
  refine W_if rfl (fun c4=>?_) fun c4=>?_
  ·
   have e2:(rnL m inp tm ((s:Nat):Int).toNat).set (((i:Nat):Int) - inp).toNat false=rn1 m inp tm s i:=rn1_hi (by omega) (by omega)
   refine W_t (R_mv rfl (R_mv rfl (R_fk rfl rfl (R_lk rfl rfl rfl rfl (R_sub rfl rfl (by first|omega|(rw [rnL_len]; omega)|(rw [rn1_len]; omega)) (by first|omega|(rw [rnL_len]; omega)|(rw [rn1_len]; omega)) (R_idxI_ms0 (i:=(((i:Nat):Int) - (inp))) (@rfl V (V.ms 902 1 0 (tm.toNat))) (@rfl V (iV (((i:Nat):Int) - (inp)))) (@rfl Blk (bk 1 4 1 (List.map cB (rnL m inp tm (((s:Nat):Int)).toNat)))) oB rfl (by first|omega|(rw [rnL_len]; omega)|(rw [rn1_len]; omega)) (by first|omega|(rw [rnL_len]; omega)|(rw [rn1_len]; omega)) (R_store (vs:=[(V.bool false)]) (B':=(bk 1 4 1 (List.map cB ((rnL m inp tm (((s:Nat):Int)).toNat).set (((((i:Nat):Int) - (inp))).toNat) false)))) rfl rfl rfl (@rfl Blk (bk 1 4 1 (List.map cB (rnL m inp tm (((s:Nat):Int)).toNat)))) (stB_map (x:=false) (i:=(((((i:Nat):Int) - (inp))).toNat)) (by first|omega|(rw [rnL_len]; omega)|(rw [rn1_len]; omega)) rfl rfl rfl rfl) ?_)))))))
   refine R_e ?_
   exact n3 _ _ ⟨rfl,rfl,rfl,rfl,rfl,rfl,rfl,(Eq.trans (@rfl Blk (bk 1 4 1 (List.map cB ((rnL m inp tm (((s:Nat):Int)).toNat).set (((((i:Nat):Int) - (inp))).toNat) false)))) (by first|rfl|(rw [e2]; rfl)|(rw [e2]; done)|simp)),rfl,rfl,trivial⟩
  have e2:rnL m inp tm ((s:Nat):Int).toNat=rn1 m inp tm s i:=rn1_lo (by omega)
  refine W_skip ?_
  exact n3 _ _ ⟨rfl,rfl,rfl,rfl,rfl,rfl,rfl,(Eq.trans (@rfl Blk (bk 1 4 1 (List.map cB (rnL m inp tm (((s:Nat):Int)).toNat)))) (by first|rfl|(rw [e2]; rfl)|(rw [e2]; done)|simp)),rfl,rfl,trivial⟩
 intro T H ⟨t3,t7,t8,t9,h3,h12,h895,h902,h995,h1002,_⟩
 refine W_r (R_fk t3 h3 (R_lk rfl h3 rfl rfl (R_mv t7 (R_callk (apart_pure ((kk)) (((nth ((nth (m.ot) (s))) (i)))) hK (by omega)) rfl (R_mv rfl (R_ext rfl rfl (R_ext rfl rfl ?_)))))))
 refine R_mv rfl (R_mv rfl (R_e (W_seq_seq (W_r (R_mv rfl (R_gtr rfl rfl (R_e ?_)))))))
 refine W_seq_if rfl (fun c5=>?_) fun c5=>?_
 ·
  have d2:0 < oCd tm (nth (nth m.ot s) i):=ec ▸ c5
  have sr:=oSg_rng ht.1 d2
  rw [← eg] at sr
  refine W_seq_seq (W_r (R_mv rfl (R_callk (setting_pure ((((((nth ((nth (m.ot) (s))) (i)))) - 1) % ((kk)))) (by have z:=emod_rng (a:=(nth (nth m.ot s) i) - 1) (k:=kk) (by omega) hK; omega)) rfl (R_alloc (i:=12) (n:=0) (m:=2) rfl (congrArg Blk.ver h12) rfl (R_sk rfl rfl rfl rfl rfl rfl rfl rfl rfl (R_e (W_seq_seq ?_)))))))
  refine W_seq_seq (W_r (R_fk rfl rfl (R_lk rfl rfl rfl rfl (R_eql rfl rfl (R_mv rfl ?_)))))
  refine Ops_seg 7 (fun T H=>T 3=(V.mp 3 1 0 0)∧T 8=(iV ((nth ((nth (m.nx) (s))) (i))))∧T 9=(V.ms 902 1 0 (tm.toNat))∧T 12=(V.mp 12 1 0 0)∧T 76=(V.bool ((decide (((sgC ((((((nth ((nth (m.ot) (s))) (i)))) - 1) % ((kk))))).2)=(0:Int))&&((!(nth (rn1 m inp tm s i) ((((sgC ((((((nth ((nth (m.ot) (s))) (i)))) - 1) % ((kk))))).1)).toNat)))))))∧H 3=(bk 1 68 7 [[(iV (m.i)),(iV (m.s)),(intss m.nx),(intss m.ot),(iV (inp)),(iV (tm)),(iV (kk))]])∧H 12=(bk 1 73 2 [[(iV ((sgC ((((((nth ((nth (m.ot) (s))) (i)))) - 1) % ((kk))))).1)),(iV ((sgC ((((((nth ((nth (m.ot) (s))) (i)))) - 1) % ((kk))))).2))]])∧H 895=(⟨1,false,false,0,0,[]⟩:Blk)∧H 902=(bk 1 4 1 (List.map cB (rn1 m inp tm s i)))∧H 995=(⟨0,false,false,0,0,[]⟩:Blk)∧H 1002=(⟨0,false,false,0,0,[]⟩:Blk)∧True) ?_ ?_
  ·
   by_cases g6:((sgC ((((((nth ((nth (m.ot) (s))) (i)))) - 1) % ((kk))))).2)=(0:Int)
   ·
    refine G_yes (edT g6 rfl) (R_mv t9 (G_yes (edT g6 rfl) (R_fk rfl rfl (G_yes (edT g6 rfl) (R_lk rfl rfl rfl rfl (G_yes (edT g6 rfl) (R_idxI_ms0 (i:=((sgC ((((((nth ((nth (m.ot) (s))) (i)))) - 1) % ((kk))))).1)) (@rfl V (V.ms 902 1 0 (tm.toNat))) (@rfl V (iV ((sgC ((((((nth ((nth (m.ot) (s))) (i)))) - 1) % ((kk))))).1))) h902 oB rfl (by first|omega|(rw [rnL_len]; omega)|(rw [rn1_len]; omega)) (by first|omega|(rw [rnL_len]; omega)|(rw [rn1_len]; omega)) ?_)))))))
    refine G_yes (edT g6 rfl) (R_load_mp (v:=(V.bool ((nth (rn1 m inp tm s i) ((((sgC ((((((nth ((nth (m.ot) (s))) (i)))) - 1) % ((kk))))).1)).toNat))))) rfl h902 (ldB_map (by first|omega|(rw [rnL_len]; omega)|(rw [rn1_len]; omega)) (by first|rfl|(rw [cF_eq]; rfl)|simp [ldV,V.one])) (G_yes (edT g6 rfl) (R_notb rfl (R_pickT (edT g6 rfl) rfl ?_))))
    exact ⟨t3,t8,t9,rfl,(dbandT g6),h3,rfl,h895,h902,h995,h1002,trivial⟩
   ·
    refine G_n (edF g6 rfl) (G_n (edF g6 rfl) (G_n (edF g6 rfl) (G_n (edF g6 rfl) (G_n (edF g6 rfl) (G_n (edF g6 rfl) (R_pickF (edF g6 rfl) rfl ?_))))))
    exact ⟨t3,t8,t9,rfl,(dbandF g6),h3,rfl,h895,h902,h995,h1002,trivial⟩
  intro T H ⟨t3,t8,t9,t12,t76,h3,h12,h895,h902,h995,h1002,_⟩
  refine R_e ?_
  refine W_seq_ifb t76 (fun c7=>?_) (fun c7=>?_)
  ·
   have d3:=c7
   refine W_seq_seq (W_r (R_mv rfl (R_e (W_seq_ret ?_))))
   refine Ret_1 (@rfl V (V.bool false)) (fz_bool ?_)
   · refine (prp_no ht.1 d1 d2 ?_ ?_).symm
     · rw [← eg]; simp only [Bool.and_eq_true,decide_eq_true_eq] at d3; exact d3.1
     · rw [← eg]; simp only [Bool.and_eq_true,Bool.not_eq_true'] at d3; exact d3.2
  have d3:=c7
  refine W_seq_skip (W_r (R_mv t9 (R_fk t12 h12 (R_lk rfl h12 rfl rfl (R_fk t12 h12 (R_lk rfl h12 rfl rfl (R_gtr rfl rfl ?_)))))))
  refine R_idxI_ms0 (i:=((sgC ((((((nth ((nth (m.ot) (s))) (i)))) - 1) % ((kk))))).1)) (@rfl V (V.ms 902 1 0 (tm.toNat))) (@rfl V (iV ((sgC ((((((nth ((nth (m.ot) (s))) (i)))) - 1) % ((kk))))).1))) h902 oB rfl (by first|omega|(rw [rnL_len]; omega)|(rw [rn1_len]; omega)) (by first|omega|(rw [rnL_len]; omega)|(rw [rn1_len]; omega)) (R_store (vs:=[(V.bool (decide ((0:Int) < ((sgC ((((((nth ((nth (m.ot) (s))) (i)))) - 1) % ((kk))))).2))))]) (B':=(bk 1 4 1 (List.map cB ((rn1 m inp tm s i).set ((((sgC ((((((nth ((nth (m.ot) (s))) (i)))) - 1) % ((kk))))).1)).toNat) (decide ((0:Int) < ((sgC ((((((nth ((nth (m.ot) (s))) (i)))) - 1) % ((kk))))).2))))))) rfl rfl rfl h902 (stB_map (x:=(decide ((0:Int) < ((sgC ((((((nth ((nth (m.ot) (s))) (i)))) - 1) % ((kk))))).2)))) (i:=((((sgC ((((((nth ((nth (m.ot) (s))) (i)))) - 1) % ((kk))))).1)).toNat)) (by first|omega|(rw [rnL_len]; omega)|(rw [rn1_len]; omega)) rfl rfl rfl rfl) (R_e (W_r (R_mv t9 (R_lk t3 h3 rfl rfl (R_mv t8 (R_callE (evcons rfl (evcons rfl evnil)) (running2_E m inp tm kk (((nth ((nth (m.nx) (s))) (i)))) 0 0 _ (congrArg Blk.ver h1002) (congrArg Blk.ver h995) ⟨by omega,by omega⟩ hi ht (by first|omega|(rw [show ((s:Nat):Int).toNat=s from rfl]; omega))) ?_)))))))
  refine R_call (evcons (@rfl V (V.ms 902 1 0 (tm.toNat))) (evcons (@rfl V (V.ms 1002 1 0 (tm.toNat))) evnil)) (eqbool_pure ((rn1 m inp tm s i).set ((((sgC ((((((nth ((nth (m.ot) (s))) (i)))) - 1) % ((kk))))).1)).toNat) (decide ((0:Int) < ((sgC ((((((nth ((nth (m.ot) (s))) (i)))) - 1) % ((kk))))).2)))) (rnL m inp tm (((nth ((nth (m.nx) (s))) (i)))).toNat)) (mcons (fz_mst (@rfl Blk (bk 1 4 1 (List.map cB ((rn1 m inp tm s i).set ((((sgC ((((((nth ((nth (m.ot) (s))) (i)))) - 1) % ((kk))))).1)).toNat) (decide ((0:Int) < ((sgC ((((((nth ((nth (m.ot) (s))) (i)))) - 1) % ((kk))))).2))))))) (by first|rfl|simp) (take_map (l:=((rn1 m inp tm s i).set ((((sgC ((((((nth ((nth (m.ot) (s))) (i)))) - 1) % ((kk))))).1)).toNat) (decide ((0:Int) < ((sgC ((((((nth ((nth (m.ot) (s))) (i)))) - 1) % ((kk))))).2))))) (by first|rfl|(rw [rn1_len])|(rw [rnL_len])|(rw [List.length_set,rn1_len])|simp)) (fun _=>by simp)) (mcons (fz_mst (@rfl Blk (bk 1 4 1 (List.map cB (rnL m inp tm (((nth ((nth (m.nx) (s))) (i)))).toNat)))) (by first|rfl|simp) (take_map (l:=(rnL m inp tm (((nth ((nth (m.nx) (s))) (i)))).toNat)) (by first|rfl|(rw [rn1_len])|(rw [rnL_len])|(rw [List.length_set,rn1_len])|simp)) (fun _=>by simp)) rfl)) (by simp [-List.map_take,-List.map_drop,-List.map_append,-List.map_reverse]) (Or.inr rfl) (R_mv rfl (R_e (W_ret ?_)))
  refine Ret_1 (@rfl V (V.bool (decide (((rn1 m inp tm s i).set ((((sgC ((((((nth ((nth (m.ot) (s))) (i)))) - 1) % ((kk))))).1)).toNat) (decide ((0:Int) < ((sgC ((((((nth ((nth (m.ot) (s))) (i)))) - 1) % ((kk))))).2))))=(rnL m inp tm (((nth ((nth (m.nx) (s))) (i)))).toNat))))) (fz_bool ?_)
  · rw [prp_c ht.1 d1 d2 (fun z=>by rw [← eg] at z; rw [decide_eq_true z.1,z.2] at d3; cases d3),← eg]
 have d2:oCd tm (nth (nth m.ot s) i)=0:=by have z:=emod_rng (a:=(nth (nth m.ot s) i) - 1) (k:=kk) (by omega) hK; omega
 refine W_seq_skip (W_r (R_mv t9 (R_lk t3 h3 rfl rfl (R_mv t8 (R_callE (evcons rfl (evcons rfl evnil)) (running2_E m inp tm kk (((nth ((nth (m.nx) (s))) (i)))) 0 0 _ (congrArg Blk.ver h1002) (congrArg Blk.ver h995) ⟨by omega,by omega⟩ hi ht (by first|omega|(rw [show ((s:Nat):Int).toNat=s from rfl]; omega))) (R_call (evcons (@rfl V (V.ms 902 1 0 (tm.toNat))) (evcons (@rfl V (V.ms 1002 1 0 (tm.toNat))) evnil)) (eqbool_pure (rn1 m inp tm s i) (rnL m inp tm (((nth ((nth (m.nx) (s))) (i)))).toNat)) (mcons (fz_mst h902 (by first|rfl|simp) (take_map (l:=(rn1 m inp tm s i)) (by first|rfl|(rw [rn1_len])|(rw [rnL_len])|(rw [List.length_set,rn1_len])|simp)) (fun _=>by simp)) (mcons (fz_mst (@rfl Blk (bk 1 4 1 (List.map cB (rnL m inp tm (((nth ((nth (m.nx) (s))) (i)))).toNat)))) (by first|rfl|simp) (take_map (l:=(rnL m inp tm (((nth ((nth (m.nx) (s))) (i)))).toNat)) (by first|rfl|(rw [rn1_len])|(rw [rnL_len])|(rw [List.length_set,rn1_len])|simp)) (fun _=>by simp)) rfl)) (by simp [-List.map_take,-List.map_drop,-List.map_append,-List.map_reverse]) (Or.inr rfl) (R_mv rfl ?_)))))))
 refine R_e (W_ret ?_)
 refine Ret_1 (@rfl V (V.bool (decide ((rn1 m inp tm s i)=(rnL m inp tm (((nth ((nth (m.nx) (s))) (i)))).toNat))))) (fz_bool ?_)
 · exact (prp_c0 d1 d2).symm
theorem valid_pure (m:M) (inp tm kk:Int) (hm:MOK m) (hi:1≤inp∧inp≤64) (ht:0≤tm∧tm≤4) (hq:m.i=inp+tm) (hk:kk=sgK tm):PureC Tryz.prog 32 [(V.agg [(iV (m.i)),(iV (m.s)),(intss m.nx),(intss m.ot),(iV (inp)),(iV (tm)),(iV (kk))])] (V.bool (vldP m inp tm)):=by
 refine pW Tryz.func32 s32_ok fun hB=>?_
 unfold s32
 dsimp only
 have hm0:=hm
 obtain ⟨m1,m2,m3,m4,m5,m6⟩:=hm
 have mr:=(m6 0 (by omega)).2.1
 refine W_r (R_box (i:=1) (n:=0) (m:=7) (cs:=[(iV (m.i)),(iV (m.s)),(intss m.nx),(intss m.ot),(iV (inp)),(iV (tm)),(iV (kk))]) rfl (congrArg Blk.ver rfl) rfl rfl rfl (R_mv rfl (R_e (W_seq_seq (W_r (R_lk rfl rfl rfl rfl (R_callE (evcons rfl (evcons rfl evnil)) (running_E m inp tm kk ((0:Int)) 0 0 _ (congrArg Blk.ver rfl) (congrArg Blk.ver rfl) ⟨by omega,by omega⟩ hi ht (by first|omega|(show inp+tm≤((nth m.ot 0).length:Int); omega))) ?_)))))))
 refine R_call (evcons (@rfl V (V.ms 902 1 0 (tm.toNat))) (evcons (@rfl V (V.bool true)) evnil)) (conbool_pure (rnL m inp tm ((0:Int)).toNat) true) (mcons (fz_mst (@rfl Blk (bk 1 4 1 (List.map cB (rnL m inp tm ((0:Int)).toNat)))) (by first|rfl|simp) (take_map (l:=(rnL m inp tm ((0:Int)).toNat)) (by first|rfl|(rw [rnL_len])|simp)) (fun _=>by simp)) (mcons (fzv_canon 6 _ (by simp [-List.map_take,-List.map_drop,-List.map_append,-List.map_reverse])) rfl)) (by simp [-List.map_take,-List.map_drop,-List.map_append,-List.map_reverse]) (Or.inr rfl) (R_e ?_)
 refine W_seq_if (p:=0≤fi (fun j=>true==nth (rnL m inp tm ((0:Int)).toNat) j) 0 (rnL m inp tm ((0:Int)).toNat).length) rfl (fun c1=>?_) (fun c1=>?_)
 ·
  have d1:=c1
  refine W_seq_seq (W_r (R_mv rfl (R_e (W_seq_ret ?_))))
  refine Ret_1 (@rfl V (V.bool false)) (fz_bool ?_)
  · exact (vldP_st d1).symm
 have d0:stpB m inp tm 0=true:=stp_of c1
 refine W_seq_skip (W_seq_seq (W_r (R_fk rfl rfl (R_fk rfl rfl (R_lk rfl rfl rfl rfl (R_len rfl (R_mv rfl ?_)))))))
 refine R_e (W_seq_blockg fun Q2 n2 x2 y2 z2=>?_)
 refine W_loop (fun mm T H=> ∃ (k:Nat),mm=m.nx.length - k∧T 1=(V.mp 1 1 0 0)∧T 11=(iV ((m.nx.length:Nat):Int))∧T 12=(iV ((k:Nat):Int))∧H 1=(bk 1 68 7 [[(iV (m.i)),(iV (m.s)),(intss m.nx),(intss m.ot),(iV (inp)),(iV (tm)),(iV (kk))]])∧H 895=(⟨1,false,false,0,0,[]⟩:Blk)∧H 902=(bk 1 4 1 (List.map cB (rnL m inp tm ((0:Int)).toNat)))∧H 995=(⟨0,false,false,0,0,[]⟩:Blk)∧H 1002=(⟨0,false,false,0,0,[]⟩:Blk)∧(k≤m.nx.length)∧(∀ j,j < k→rowB m inp tm j=true)) ?_ ?_
 ·
  refine ⟨_,0,rfl,rfl,rfl,(Eq.trans (@rfl V (iV (0:Int))) rfl),rfl,rfl,rfl,rfl,rfl,?_,?_⟩
  · exact Nat.zero_le _
  · intro j hj; omega
 intro mm T H ⟨k,hmm,t1,t11,t12,h1,h895,h902,h995,h1002,hk2,hc2⟩ Q3 p13 p23 p33
 unfold b32_0
 refine W_r (R_lss t12 t11 (R_e ?_))
 refine W_seq_if rfl (fun c4=>?_) fun c4=>?_
 ·
  refine W_seq_skip (W_seq_blockg fun Q5 n5 x5 y5 z5=>(W_r (R_mv t12 (R_mv rfl (R_e (W_r (R_fk t1 h1 ?_)))))))
  refine R_fk rfl h1 (R_lk rfl h1 rfl rfl (R_mv rfl (R_e (W_block fun Q6 n6 x6 y6 z6=>?_))))
  refine W_loop (fun mm T H=> ∃ (i:Nat),mm=m.i.toNat - i∧T 1=(V.mp 1 1 0 0)∧T 3=(iV ((k:Nat):Int))∧T 11=(iV ((m.nx.length:Nat):Int))∧T 12=(iV ((k:Nat):Int))∧T 17=(iV (m.i))∧T 18=(iV ((i:Nat):Int))∧H 1=(bk 1 68 7 [[(iV (m.i)),(iV (m.s)),(intss m.nx),(intss m.ot),(iV (inp)),(iV (tm)),(iV (kk))]])∧H 895=(⟨1,false,false,0,0,[]⟩:Blk)∧H 902=(bk 1 4 1 (List.map cB (rnL m inp tm ((0:Int)).toNat)))∧H 995=(⟨0,false,false,0,0,[]⟩:Blk)∧H 1002=(⟨0,false,false,0,0,[]⟩:Blk)∧(i≤m.i.toNat)∧(∀ j,j < i→prp m inp tm k j=true)) ?_ ?_
  ·
   refine ⟨_,0,rfl,t1,rfl,t11,t12,rfl,(Eq.trans (@rfl V (iV (0:Int))) rfl),h1,h895,h902,h995,h1002,?_,?_⟩
   · exact Nat.zero_le _
   · intro j hj; omega
  intro mm T H ⟨i,hmm,t1,t3,t11,t12,t17,t18,h1,h895,h902,h995,h1002,hi2,hc3⟩ Q7 p17 p27 p37
  unfold b32_1
  refine W_r (R_lss t18 t17 (R_e ?_))
  refine W_seq_if rfl (fun c8=>?_) fun c8=>?_
  ·
   refine W_seq_skip (W_seq_blockg fun Q9 n9 x9 y9 z9=>(W_r (R_mv t18 (R_mv rfl (R_e (W_r (R_lk t1 h1 rfl rfl ?_)))))))
   refine R_mv t3 (R_mv rfl (R_callk (timed_pure m ((inp)) ((tm)) ((kk)) k i hm0 hi ht hq hk (by omega) (by omega)) rfl (R_notb rfl (R_e ?_))))
   refine W_ifb rfl (fun c10=>?_) (fun c10=>?_)
   ·
    have d7:prp m inp tm k i=false:=by simpa using c10
    refine W_r (R_mv rfl (R_e (W_ret (y9 _ _ (p27 _ _ (y6 _ _ (y5 _ _ ?_)))))))
    refine p23 _ _ (y2 _ _ ?_)
    refine Ret_1 (@rfl V (V.bool false)) (fz_bool ?_)
    · exact (vldP_f2 (k:=k) (i:=i) (by omega) (by omega) d7).symm
   have d7:prp m inp tm k i=true:=by simpa using c10
   refine W_skip (n9 _ _ (.done (W_t (R_addN t18 (@rfl V (iV ((1:Nat):Int))) (by omega) (R_mv rfl (R_e ?_))))))
   refine p17 _ _ _ ?_ ⟨(i+1),rfl,t1,t3,t11,t12,t17,(Eq.trans (@rfl V (iV ((i+1:Nat):Int))) (by first|rfl|simp)),h1,h895,h902,h995,h1002,?_,?_⟩
   · omega
   · omega
   · intro j hj
     by_cases e:j=i
     · subst e; exact d7
     · exact hc3 j (by omega)
  have d6:rowB m inp tm k=true:=all_rng.2 fun j hj=>hc3 j (by omega)
  refine W_seq_exit (p37 _ _ _ (x6 _ _ (n5 _ _ (.done (W_t (R_addN t12 (@rfl V (iV ((1:Nat):Int))) (by omega) (R_mv rfl ?_)))))))
  refine R_e ?_
  refine p13 _ _ _ ?_ ⟨(k+1),rfl,t1,t11,(Eq.trans (@rfl V (iV ((k+1:Nat):Int))) (by first|rfl|simp)),h1,h895,h902,h995,h1002,?_,?_⟩
  · omega
  · omega
  · intro j hj
    by_cases e:j=k
    · subst e; exact d6
    · exact hc2 j (by omega)
 refine W_seq_exit (p33 _ _ _ (x2 _ _ (.done (W_r (R_mv rfl (R_e (W_ret ?_)))))))
 refine Ret_1 (@rfl V (V.bool true)) (fz_bool ?_)
 · exact (vldP_t d0 (fun j hj=>hc2 j (by omega))).symm
theorem prebuild_pure (m:M) (inp tm:Int):PureC Tryz.prog 11 [(V.agg [(iV (m.i)),(iV (m.s)),(intss m.nx),(intss m.ot)]),(iV (inp)),(iV (tm))] (V.tup [(V.agg [(iV ((rbT m inp tm).i)),(iV ((rbT m inp tm).tm)),(iV ((rbT m inp tm).s)),(intss ((rbT m inp tm).nx)),(intss ((rbT m inp tm).ot)),(V.sl (List.map cSr ((rbT m inp tm).st)))]),(iV (rbE m inp tm))]):=by
 refine pW Tryz.func11 s11_ok fun hB=>?_
 unfold s11
 dsimp only
 refine W_r (R_box (i:=3) (n:=0) (m:=4) (cs:=[(iV (m.i)),(iV (m.s)),(intss m.nx),(intss m.ot)]) rfl (congrArg Blk.ver rfl) rfl rfl rfl (R_alloc (i:=6) (n:=0) (m:=6) rfl (congrArg Blk.ver rfl) rfl (R_mv rfl (R_e (W_seq_seq (W_r (R_lk rfl rfl rfl rfl ?_)))))))
 refine R_callk (mvalid_pure m) rfl (R_mv rfl (R_e (W_seq_seq (W_r (R_mv rfl (R_neq rfl rfl (R_e ?_)))))))
 refine W_seq_if rfl (fun c1=>?_) fun c1=>?_
 ·
  have d1:=c1
  refine W_seq_seq (W_r (R_build rfl rfl (R_mv rfl (R_store (vs:=[(iV (0:Int)),(iV (0:Int)),(iV (0:Int)),V.nilsl,V.nilsl,V.nilsl]) (B':=(bk 1 29 6 [[(iV (0:Int)),(iV (0:Int)),(iV (0:Int)),V.nilsl,V.nilsl,V.nilsl]])) rfl rfl rfl rfl (sB oB rfl rfl rfl rfl rfl) (R_mv rfl (R_e (W_seq_ret ?_)))))))
  refine RetC_2 (resV_c (u:=(V.agg [(iV (0:Int)),(iV (0:Int)),(iV (0:Int)),V.nilsl,V.nilsl,V.nilsl])) rfl (@rfl Blk (bk 1 29 6 [[(iV (0:Int)),(iV (0:Int)),(iV (0:Int)),V.nilsl,V.nilsl,V.nilsl]])) (lB oB rfl rfl)) (resV_t (@rfl V (iV (mval m)))) (fz_aggL (mcons (fz_int ?_) (mcons (fz_int ?_) (mcons (fz_int ?_) (mcons (fz_nil ?_) (mcons (fz_nil ?_) (mcons (fz_nil ?_) rfl))))))) (fz_int ?_)
  · rw [rbT_no (by rw [rbE_1 d1]; first|decide|exact d1)]
  · rw [rbT_no (by rw [rbE_1 d1]; first|decide|exact d1)]
  · rw [rbT_no (by rw [rbE_1 d1]; first|decide|exact d1)]
  · rw [rbT_no (by rw [rbE_1 d1]; first|decide|exact d1)]
  · rw [rbT_no (by rw [rbE_1 d1]; first|decide|exact d1)]
  · rw [rbT_no (by rw [rbE_1 d1]; first|decide|exact d1)]
  · rw [rbE_1 d1]
 have d1:=c1
 have hm:mval m=0:=by omega
 have mo:=mval_ok hm
 have rc:=rch_RC hm
 have rl:=rc.len
 have me:=mo.2.2.2.2.2.2.1
 have tk:=trm_ok hm
 rw [← trR_ok hm] at tk
 obtain ⟨k1,k2,k3,k4,k5,k6⟩:=tk
 have ti:(trR m).i=m.i:=by rw [trR_ok hm]; rfl
 refine W_seq_skip (W_seq_seq (W_r (R_mv rfl (R_lss rfl rfl (R_mv rfl ?_)))))
 refine Ops_seg 3 (fun T H=>T 1=(iV (inp))∧T 2=(iV (tm))∧T 3=(V.mp 3 1 0 0)∧T 6=(V.mp 6 1 0 0)∧T 32=(V.bool (decide (((inp) < (1:Int))∨((64:Int) < (inp)))))∧H 3=(bk 1 24 4 [[(iV (m.i)),(iV (m.s)),(intss m.nx),(intss m.ot)]])∧H 6=(bk 1 29 6 [[(iV (0:Int)),(iV (0:Int)),(iV (0:Int)),V.nilsl,V.nilsl,V.nilsl]])∧H 9=(⟨0,false,false,0,0,[]⟩:Blk)∧H 11=(⟨0,false,false,0,0,[]⟩:Blk)∧H 13=(⟨0,false,false,0,0,[]⟩:Blk)∧H 15=(⟨0,false,false,0,0,[]⟩:Blk)∧H 16=(⟨0,false,false,0,0,[]⟩:Blk)∧H 812=(⟨0,false,false,0,0,[]⟩:Blk)∧H 813=(⟨0,false,false,0,0,[]⟩:Blk)∧True) ?_ ?_
 ·
  by_cases g2:(inp) < (1:Int)
  ·
   refine G_n (edT g2 rfl) (G_n (edT g2 rfl) (R_pickT (edT g2 rfl) rfl ?_))
   exact ⟨rfl,rfl,rfl,rfl,(dec_orT g2),rfl,rfl,rfl,rfl,rfl,rfl,rfl,rfl,rfl,trivial⟩
  ·
   refine G_yes (edF g2 rfl) (R_mv rfl (G_yes (edF g2 rfl) (R_gtr rfl rfl (R_pickF (edF g2 rfl) rfl ?_))))
   exact ⟨rfl,rfl,rfl,rfl,(dec_orF g2),rfl,rfl,rfl,rfl,rfl,rfl,rfl,rfl,rfl,trivial⟩
 intro T H ⟨t1,t2,t3,t6,t32,h3,h6,h9,h11,h13,h15,h16,h812,h813,_⟩
 refine R_mv t32 ?_
 refine Ops_seg 3 (fun T H=>T 1=(iV (inp))∧T 2=(iV (tm))∧T 3=(V.mp 3 1 0 0)∧T 6=(V.mp 6 1 0 0)∧T 36=(V.bool (decide ((((inp) < (1:Int))∨((64:Int) < (inp)))∨((tm) < (0:Int)))))∧H 3=(bk 1 24 4 [[(iV (m.i)),(iV (m.s)),(intss m.nx),(intss m.ot)]])∧H 6=(bk 1 29 6 [[(iV (0:Int)),(iV (0:Int)),(iV (0:Int)),V.nilsl,V.nilsl,V.nilsl]])∧H 9=(⟨0,false,false,0,0,[]⟩:Blk)∧H 11=(⟨0,false,false,0,0,[]⟩:Blk)∧H 13=(⟨0,false,false,0,0,[]⟩:Blk)∧H 15=(⟨0,false,false,0,0,[]⟩:Blk)∧H 16=(⟨0,false,false,0,0,[]⟩:Blk)∧H 812=(⟨0,false,false,0,0,[]⟩:Blk)∧H 813=(⟨0,false,false,0,0,[]⟩:Blk)∧True) ?_ ?_
 ·
  by_cases g3:((inp) < (1:Int))∨((64:Int) < (inp))
  ·
   refine G_n (edT g3 rfl) (G_n (edT g3 rfl) (R_pickT (edT g3 rfl) rfl ?_))
   exact ⟨t1,t2,t3,t6,(dec_orT g3),h3,h6,h9,h11,h13,h15,h16,h812,h813,trivial⟩
  ·
   refine G_yes (edF g3 rfl) (R_mv t2 (G_yes (edF g3 rfl) (R_lss rfl rfl (R_pickF (edF g3 rfl) rfl ?_))))
   exact ⟨t1,t2,t3,t6,(dec_orF g3),h3,h6,h9,h11,h13,h15,h16,h812,h813,trivial⟩
 intro T H ⟨t1,t2,t3,t6,t36,h3,h6,h9,h11,h13,h15,h16,h812,h813,_⟩
 refine R_mv t36 ?_
 refine Ops_seg 3 (fun T H=>T 1=(iV (inp))∧T 2=(iV (tm))∧T 3=(V.mp 3 1 0 0)∧T 6=(V.mp 6 1 0 0)∧T 40=(V.bool (decide (((((inp) < (1:Int))∨((64:Int) < (inp)))∨((tm) < (0:Int)))∨((4:Int) < (tm)))))∧H 3=(bk 1 24 4 [[(iV (m.i)),(iV (m.s)),(intss m.nx),(intss m.ot)]])∧H 6=(bk 1 29 6 [[(iV (0:Int)),(iV (0:Int)),(iV (0:Int)),V.nilsl,V.nilsl,V.nilsl]])∧H 9=(⟨0,false,false,0,0,[]⟩:Blk)∧H 11=(⟨0,false,false,0,0,[]⟩:Blk)∧H 13=(⟨0,false,false,0,0,[]⟩:Blk)∧H 15=(⟨0,false,false,0,0,[]⟩:Blk)∧H 16=(⟨0,false,false,0,0,[]⟩:Blk)∧H 812=(⟨0,false,false,0,0,[]⟩:Blk)∧H 813=(⟨0,false,false,0,0,[]⟩:Blk)∧True) ?_ ?_
 ·
  by_cases g4:(((inp) < (1:Int))∨((64:Int) < (inp)))∨((tm) < (0:Int))
  ·
   refine G_n (edT g4 rfl) (G_n (edT g4 rfl) (R_pickT (edT g4 rfl) rfl ?_))
   exact ⟨t1,t2,t3,t6,(dec_orT g4),h3,h6,h9,h11,h13,h15,h16,h812,h813,trivial⟩
  ·
   refine G_yes (edF g4 rfl) (R_mv t2 (G_yes (edF g4 rfl) (R_gtr rfl rfl (R_pickF (edF g4 rfl) rfl ?_))))
   exact ⟨t1,t2,t3,t6,(dec_orF g4),h3,h6,h9,h11,h13,h15,h16,h812,h813,trivial⟩
 intro T H ⟨t1,t2,t3,t6,t40,h3,h6,h9,h11,h13,h15,h16,h812,h813,_⟩
 refine R_e ?_
 refine W_seq_if t40 (fun c5=>?_) fun c5=>?_
 ·
  have d2:inp < 1∨64 < inp∨tm < 0∨4 < tm:=by have q:=c5; omega
  refine W_seq_seq (W_r (R_build rfl rfl (R_store (vs:=[(iV (0:Int)),(iV (0:Int)),(iV (0:Int)),V.nilsl,V.nilsl,V.nilsl]) (B':=(bk 1 29 6 [[(iV (0:Int)),(iV (0:Int)),(iV (0:Int)),V.nilsl,V.nilsl,V.nilsl]])) t6 rfl rfl h6 (sB oB rfl rfl rfl rfl rfl) (R_mv rfl (R_e (W_seq_ret ?_))))))
  refine RetC_2 (resV_c (u:=(V.agg [(iV (0:Int)),(iV (0:Int)),(iV (0:Int)),V.nilsl,V.nilsl,V.nilsl])) t6 (@rfl Blk (bk 1 29 6 [[(iV (0:Int)),(iV (0:Int)),(iV (0:Int)),V.nilsl,V.nilsl,V.nilsl]])) (lB oB rfl rfl)) (resV_t (@rfl V (iV (2:Int)))) (fz_aggL (mcons (fz_int ?_) (mcons (fz_int ?_) (mcons (fz_int ?_) (mcons (fz_nil ?_) (mcons (fz_nil ?_) (mcons (fz_nil ?_) rfl))))))) (fz_int ?_)
  · rw [rbT_no (by rw [rbE_2 d1 d2]; first|decide|exact d1)]
  · rw [rbT_no (by rw [rbE_2 d1 d2]; first|decide|exact d1)]
  · rw [rbT_no (by rw [rbE_2 d1 d2]; first|decide|exact d1)]
  · rw [rbT_no (by rw [rbE_2 d1 d2]; first|decide|exact d1)]
  · rw [rbT_no (by rw [rbE_2 d1 d2]; first|decide|exact d1)]
  · rw [rbT_no (by rw [rbE_2 d1 d2]; first|decide|exact d1)]
  · rw [rbE_2 d1 d2]
 have d2: ¬(inp < 1∨64 < inp∨tm < 0∨4 < tm):=by have q:=c5; omega
 refine W_seq_skip (W_seq_seq (W_r (R_fk t3 h3 (R_lk rfl h3 rfl rfl (R_mv t1 (R_mv t2 (R_add rfl rfl (by omega) (by omega) ?_)))))))
 refine R_neq rfl rfl (R_e ?_)
 refine W_seq_if rfl (fun c6=>?_) fun c6=>?_
 ·
  have d3:=c6
  refine W_seq_seq (W_r (R_build rfl rfl (R_store (vs:=[(iV (0:Int)),(iV (0:Int)),(iV (0:Int)),V.nilsl,V.nilsl,V.nilsl]) (B':=(bk 1 29 6 [[(iV (0:Int)),(iV (0:Int)),(iV (0:Int)),V.nilsl,V.nilsl,V.nilsl]])) t6 rfl rfl h6 (sB oB rfl rfl rfl rfl rfl) (R_mv rfl (R_e (W_seq_ret ?_))))))
  refine RetC_2 (resV_c (u:=(V.agg [(iV (0:Int)),(iV (0:Int)),(iV (0:Int)),V.nilsl,V.nilsl,V.nilsl])) t6 (@rfl Blk (bk 1 29 6 [[(iV (0:Int)),(iV (0:Int)),(iV (0:Int)),V.nilsl,V.nilsl,V.nilsl]])) (lB oB rfl rfl)) (resV_t (@rfl V (iV (15:Int)))) (fz_aggL (mcons (fz_int ?_) (mcons (fz_int ?_) (mcons (fz_int ?_) (mcons (fz_nil ?_) (mcons (fz_nil ?_) (mcons (fz_nil ?_) rfl))))))) (fz_int ?_)
  · rw [rbT_no (by rw [rbE_3 d1 d2 d3]; first|decide|exact d1)]
  · rw [rbT_no (by rw [rbE_3 d1 d2 d3]; first|decide|exact d1)]
  · rw [rbT_no (by rw [rbE_3 d1 d2 d3]; first|decide|exact d1)]
  · rw [rbT_no (by rw [rbE_3 d1 d2 d3]; first|decide|exact d1)]
  · rw [rbT_no (by rw [rbE_3 d1 d2 d3]; first|decide|exact d1)]
  · rw [rbT_no (by rw [rbE_3 d1 d2 d3]; first|decide|exact d1)]
  · rw [rbE_3 d1 d2 d3]
 have d3:=c6
 refine W_seq_skip (W_r (R_lk t3 h3 rfl rfl (R_callk (ptrim_pure m) rfl (R_mv rfl (R_ext rfl rfl (R_ext rfl rfl (R_alloc (i:=9) (n:=0) (m:=4) rfl (congrArg Blk.ver h9) rfl ?_)))))))
 refine R_store (vs:=[(iV ((trR m).i)),(iV ((trR m).s)),(intss ((trR m).nx)),(intss ((trR m).ot))]) (B':=(bk 1 24 4 [[(iV ((trR m).i)),(iV ((trR m).s)),(intss ((trR m).nx)),(intss ((trR m).ot))]])) rfl rfl rfl rfl (sB oB rfl rfl rfl rfl rfl) (R_mv rfl (R_e (W_seq_seq (W_r (R_mv rfl (R_neq rfl rfl (R_e ?_)))))))
 refine W_seq_if rfl (fun c7=>?_) fun c7=>?_
 · exact (c1 c7).elim
 refine W_seq_skip (W_r (R_lk rfl rfl rfl rfl (R_mv t1 (R_mv t2 (R_mv t2 (R_mul rfl rfl (by omega) (by omega) (R_add rfl rfl (by omega) (by omega) ?_)))))))
 refine R_build rfl rfl (R_build rfl rfl (R_alloc (i:=11) (n:=0) (m:=7) rfl (congrArg Blk.ver h11) rfl (R_store (vs:=[(iV ((trR m).i)),(iV ((trR m).s)),(intss ((trR m).nx)),(intss ((trR m).ot)),(iV (inp)),(iV (tm)),(iV ((1:Int)+((tm)*(1001:Int))))]) (B':=(bk 1 68 7 [[(iV ((trR m).i)),(iV ((trR m).s)),(intss ((trR m).nx)),(intss ((trR m).ot)),(iV (inp)),(iV (tm)),(iV ((1:Int)+((tm)*(1001:Int))))]])) rfl rfl rfl rfl (sB oB rfl rfl rfl rfl rfl) (R_e (W_seq_seq ?_)))))
 refine W_seq_regc (fun T H=>T 1=(iV (inp))∧T 2=(iV (tm))∧T 6=(V.mp 6 1 0 0)∧T 9=(V.mp 9 1 0 0)∧T 11=(V.mp 11 1 0 0)∧T 68=(V.bool ((!vldP ((trR m)) ((inp)) ((tm)))))∧H 3=(bk 1 24 4 [[(iV (m.i)),(iV (m.s)),(intss m.nx),(intss m.ot)]])∧H 6=(bk 1 29 6 [[(iV (0:Int)),(iV (0:Int)),(iV (0:Int)),V.nilsl,V.nilsl,V.nilsl]])∧H 9=(bk 1 24 4 [[(iV ((trR m).i)),(iV ((trR m).s)),(intss ((trR m).nx)),(intss ((trR m).ot))]])∧H 11=(bk 1 68 7 [[(iV ((trR m).i)),(iV ((trR m).s)),(intss ((trR m).nx)),(intss ((trR m).ot)),(iV (inp)),(iV (tm)),(iV ((1:Int)+((tm)*(1001:Int))))]])∧H 13=(⟨0,false,false,0,0,[]⟩:Blk)∧H 15=(⟨0,false,false,0,0,[]⟩:Blk)∧H 16=(⟨0,false,false,0,0,[]⟩:Blk)∧H 812=(⟨0,false,false,0,0,[]⟩:Blk)∧H 813=(⟨0,false,false,0,0,[]⟩:Blk)∧True) ?_ ?_
 ·
  refine R_lk rfl rfl rfl rfl (R_callk (valid_pure ((trR m)) ((inp)) ((tm)) (((1:Int)+((tm)*(1001:Int)))) (trR_ok hm ▸ trm_ok hm) (by omega) (by omega) (by omega) rfl) rfl (R_notb rfl ?_))
  exact R_nil ⟨t1,t2,t6,rfl,rfl,rfl,h3,h6,rfl,rfl,h13,h15,h16,h812,h813,trivial⟩
 intro T H ⟨t1,t2,t6,t9,t11,t68,h3,h6,h9,h11,h13,h15,h16,h812,h813,_⟩
 refine W_seq_ifb t68 (fun c8=>?_) (fun c8=>?_)
 ·
  have d4:vldR m inp tm=false:=by have q:=c8; rw [trR_ok hm,vld_eq hm] at q; simpa using q
  refine W_seq_seq (W_r (R_build rfl rfl (R_store (vs:=[(iV (0:Int)),(iV (0:Int)),(iV (0:Int)),V.nilsl,V.nilsl,V.nilsl]) (B':=(bk 1 29 6 [[(iV (0:Int)),(iV (0:Int)),(iV (0:Int)),V.nilsl,V.nilsl,V.nilsl]])) t6 rfl rfl h6 (sB oB rfl rfl rfl rfl rfl) (R_mv rfl (R_e (W_seq_ret ?_))))))
  refine RetC_2 (resV_c (u:=(V.agg [(iV (0:Int)),(iV (0:Int)),(iV (0:Int)),V.nilsl,V.nilsl,V.nilsl])) t6 (@rfl Blk (bk 1 29 6 [[(iV (0:Int)),(iV (0:Int)),(iV (0:Int)),V.nilsl,V.nilsl,V.nilsl]])) (lB oB rfl rfl)) (resV_t (@rfl V (iV (1:Int)))) (fz_aggL (mcons (fz_int ?_) (mcons (fz_int ?_) (mcons (fz_int ?_) (mcons (fz_nil ?_) (mcons (fz_nil ?_) (mcons (fz_nil ?_) rfl))))))) (fz_int ?_)
  · rw [rbT_no (by rw [rbE_4 d1 d2 d3 d4]; first|decide|exact d1)]
  · rw [rbT_no (by rw [rbE_4 d1 d2 d3 d4]; first|decide|exact d1)]
  · rw [rbT_no (by rw [rbE_4 d1 d2 d3 d4]; first|decide|exact d1)]
  · rw [rbT_no (by rw [rbE_4 d1 d2 d3 d4]; first|decide|exact d1)]
  · rw [rbT_no (by rw [rbE_4 d1 d2 d3 d4]; first|decide|exact d1)]
  · rw [rbT_no (by rw [rbE_4 d1 d2 d3 d4]; first|decide|exact d1)]
  · rw [rbE_4 d1 d2 d3 d4]
 have d4:vldR m inp tm=true:=by have q:=c8; rw [trR_ok hm,vld_eq hm] at q; simpa using q
 refine W_seq_skip (W_r (R_fk t11 h11 (R_lk rfl h11 rfl rfl (R_mkm (evcons rfl evnil) evnil (R_mv rfl (R_e (W_r ?_)))))))
 refine R_mv t1 (R_mv t2 (R_fk t9 h9 (R_lk rfl h9 rfl rfl (R_build rfl rfl (R_alloc (i:=13) (n:=0) (m:=6) rfl (congrArg Blk.ver h13) rfl (R_store (vs:=[(iV (inp)),(iV (tm)),(iV (0:Int)),(intss ((trR m).nx)),V.nilsl,V.nilsl]) (B':=(bk 1 29 6 [[(iV (inp)),(iV (tm)),(iV (0:Int)),(intss ((trR m).nx)),V.nilsl,V.nilsl]])) rfl rfl rfl rfl (sB oB rfl rfl rfl rfl rfl) (R_e ?_)))))))
 refine W_seq_seq ?_
 refine W_seq_g (fun T H=>T 6=(V.mp 6 1 0 0)∧T 9=(V.mp 9 1 0 0)∧T 12=(V.fn 33 [(V.agg [(iV ((1:Int)+((tm)*(1001:Int))))])] [])∧T 13=(V.mp 13 1 0 0)∧T 80=(iV ((((trR m).nx).length:Nat):Int))∧T 81=(iV (0:Int))∧H 3=(bk 1 24 4 [[(iV (m.i)),(iV (m.s)),(intss m.nx),(intss m.ot)]])∧H 6=(bk 1 29 6 [[(iV (0:Int)),(iV (0:Int)),(iV (0:Int)),V.nilsl,V.nilsl,V.nilsl]])∧H 9=(bk 1 24 4 [[(iV ((trR m).i)),(iV ((trR m).s)),(intss ((trR m).nx)),(intss ((trR m).ot))]])∧H 11=(bk 1 68 7 [[(iV ((trR m).i)),(iV ((trR m).s)),(intss ((trR m).nx)),(intss ((trR m).ot)),(iV (inp)),(iV (tm)),(iV ((1:Int)+((tm)*(1001:Int))))]])∧H 13=(bk 1 29 6 [[(iV (inp)),(iV (tm)),(iV (0:Int)),(intss ((trR m).nx)),V.nilsl,V.nilsl]])∧H 15=(⟨0,false,false,0,0,[]⟩:Blk)∧H 16=(⟨0,false,false,0,0,[]⟩:Blk)∧H 812=(⟨0,false,false,0,0,[]⟩:Blk)∧H 813=(⟨0,false,false,0,0,[]⟩:Blk)∧True) ?_ ?_
 ·
  refine R_fk t9 h9 (R_lk rfl h9 rfl rfl (R_len rfl (R_mv rfl ?_)))
  exact R_nil ⟨t6,t9,rfl,rfl,rfl,rfl,h3,h6,h9,h11,rfl,h15,h16,h812,h813,trivial⟩
 intro T H ⟨t6,t9,t12,t13,t80,t81,h3,h6,h9,h11,h13,h15,h16,h812,h813,_⟩
 refine .lazyCell 812 38 1 13 0 4 [(iV (inp)),(iV (tm)),(iV (0:Int)),(intss ((trR m).nx)),V.nilsl,V.nilsl] (by decide) (by rw [h13]; rfl) (by rw [h13]; rfl) rfl (fork_ (R:=fun T H=>T 6=(V.mp 6 1 0 0)∧T 9=(V.mp 9 1 0 0)∧T 12=(V.fn 33 [(V.agg [(iV ((1:Int)+((tm)*(1001:Int))))])] [])∧T 13=(V.mp 13 1 0 0)∧T 80=(iV ((((trR m).nx).length:Nat):Int))∧T 81=(iV (0:Int))∧H 3=(bk 1 24 4 [[(iV (m.i)),(iV (m.s)),(intss m.nx),(intss m.ot)]])∧H 6=(bk 1 29 6 [[(iV (0:Int)),(iV (0:Int)),(iV (0:Int)),V.nilsl,V.nilsl,V.nilsl]])∧H 9=(bk 1 24 4 [[(iV ((trR m).i)),(iV ((trR m).s)),(intss ((trR m).nx)),(intss ((trR m).ot))]])∧H 11=(bk 1 68 7 [[(iV ((trR m).i)),(iV ((trR m).s)),(intss ((trR m).nx)),(intss ((trR m).ot)),(iV (inp)),(iV (tm)),(iV ((1:Int)+((tm)*(1001:Int))))]])∧H 13=(bk 1 29 6 [[(iV (inp)),(iV (tm)),(iV (0:Int)),(intss ((trR m).nx)),(V.ms 812 1 0 (0)),V.nilsl]])∧H 15=(⟨0,false,false,0,0,[]⟩:Blk)∧H 16=(⟨0,false,false,0,0,[]⟩:Blk)∧H 812=(bz 1 38 1 [])∧H 813=(⟨0,false,false,0,0,[]⟩:Blk)∧True) ⟨t6,t9,t12,t13,t80,t81,((upd_ne _ _ (by decide)).trans ((upd_ne _ _ (by decide)).trans h3)),((upd_ne _ _ (by decide)).trans ((upd_ne _ _ (by decide)).trans h6)),((upd_ne _ _ (by decide)).trans ((upd_ne _ _ (by decide)).trans h9)),((upd_ne _ _ (by decide)).trans ((upd_ne _ _ (by decide)).trans h11)),(by rw [upd_same,h13,(congrArg Blk.ver h812)]; rfl),((upd_ne _ _ (by decide)).trans ((upd_ne _ _ (by decide)).trans h15)),((upd_ne _ _ (by decide)).trans ((upd_ne _ _ (by decide)).trans h16)),(by rw [upd_ne _ _ (by decide),upd_same,(congrArg Blk.ver h812)]),((upd_ne _ _ (by decide)).trans ((upd_ne _ _ (by decide)).trans h813)),trivial⟩ ?_)
 intro T H ⟨t6,t9,t12,t13,t80,t81,h3,h6,h9,h11,h13,h15,h16,h812,h813,_⟩
 refine .lazyCell 813 70 1 13 0 5 [(iV (inp)),(iV (tm)),(iV (0:Int)),(intss ((trR m).nx)),(V.ms 812 1 0 (0)),V.nilsl] (by decide) (by rw [h13]; rfl) (by rw [h13]; rfl) rfl (.done ?_)
 refine fork_ (R:=fun T H=>T 6=(V.mp 6 1 0 0)∧T 9=(V.mp 9 1 0 0)∧T 12=(V.fn 33 [(V.agg [(iV ((1:Int)+((tm)*(1001:Int))))])] [])∧T 13=(V.mp 13 1 0 0)∧T 80=(iV ((((trR m).nx).length:Nat):Int))∧T 81=(iV (0:Int))∧H 3=(bk 1 24 4 [[(iV (m.i)),(iV (m.s)),(intss m.nx),(intss m.ot)]])∧H 6=(bk 1 29 6 [[(iV (0:Int)),(iV (0:Int)),(iV (0:Int)),V.nilsl,V.nilsl,V.nilsl]])∧H 9=(bk 1 24 4 [[(iV ((trR m).i)),(iV ((trR m).s)),(intss ((trR m).nx)),(intss ((trR m).ot))]])∧H 11=(bk 1 68 7 [[(iV ((trR m).i)),(iV ((trR m).s)),(intss ((trR m).nx)),(intss ((trR m).ot)),(iV (inp)),(iV (tm)),(iV ((1:Int)+((tm)*(1001:Int))))]])∧H 13=(bk 1 29 6 [[(iV (inp)),(iV (tm)),(iV (0:Int)),(intss ((trR m).nx)),(V.ms 812 1 0 (0)),(V.ms 813 1 0 (0))]])∧H 15=(⟨0,false,false,0,0,[]⟩:Blk)∧H 16=(⟨0,false,false,0,0,[]⟩:Blk)∧H 812=(bz 1 38 1 [])∧H 813=(bz 1 70 1 [])∧True) ⟨t6,t9,t12,t13,t80,t81,((upd_ne _ _ (by decide)).trans ((upd_ne _ _ (by decide)).trans h3)),((upd_ne _ _ (by decide)).trans ((upd_ne _ _ (by decide)).trans h6)),((upd_ne _ _ (by decide)).trans ((upd_ne _ _ (by decide)).trans h9)),((upd_ne _ _ (by decide)).trans ((upd_ne _ _ (by decide)).trans h11)),(by rw [upd_same,h13,(congrArg Blk.ver h813)]; rfl),((upd_ne _ _ (by decide)).trans ((upd_ne _ _ (by decide)).trans h15)),((upd_ne _ _ (by decide)).trans ((upd_ne _ _ (by decide)).trans h16)),((upd_ne _ _ (by decide)).trans ((upd_ne _ _ (by decide)).trans h812)),(by rw [upd_ne _ _ (by decide),upd_same,(congrArg Blk.ver h813)]),trivial⟩ ?_
 intro T H ⟨t6,t9,t12,t13,t80,t81,h3,h6,h9,h11,h13,h15,h16,h812,h813,_⟩
 refine W_seq_blockg fun Q9 n9 x9 y9 z9=>?_
 refine W_loop (fun mm T H=> ∃ (k:Nat) (v:Nat) (w:Nat) (v15:Nat) (v16:Nat),mm=(trR m).nx.length - k∧T 6=(V.mp 6 1 0 0)∧T 9=(V.mp 9 1 0 0)∧T 12=(V.fn 33 [(V.agg [(iV ((1:Int)+((tm)*(1001:Int))))])] [])∧T 13=(V.mp 13 1 0 0)∧T 80=(iV (((trR m).nx.length:Nat):Int))∧T 81=(iV ((k:Nat):Int))∧H 3=(bk 1 24 4 [[(iV (m.i)),(iV (m.s)),(intss m.nx),(intss m.ot)]])∧H 6=(bk 1 29 6 [[(iV (0:Int)),(iV (0:Int)),(iV (0:Int)),V.nilsl,V.nilsl,V.nilsl]])∧H 9=(bk 1 24 4 [[(iV ((trR m).i)),(iV ((trR m).s)),(intss ((trR m).nx)),(intss ((trR m).ot))]])∧H 11=(bk 1 68 7 [[(iV ((trR m).i)),(iV ((trR m).s)),(intss ((trR m).nx)),(intss ((trR m).ot)),(iV (inp)),(iV (tm)),(iV ((1:Int)+((tm)*(1001:Int))))]])∧H 13=(bk 1 29 6 [[(iV (inp)),(iV (tm)),(iV (0:Int)),(intss ((trR m).nx)),(V.ms 812 v 0 (k)),(V.ms 813 w 0 (k))]])∧((H 15).ver=v15∧(H 15).live=false)∧((H 16).ver=v16∧(H 16).live=false)∧H 812=(bz v 38 1 (List.map cL (tbl (rbV (trR m) tm) k)))∧H 813=(bz w 70 1 (List.map cSr (tbl (rbS (trR m) tm) k)))∧(k≤(trR m).nx.length)) ?_ ?_
 ·
  refine ⟨_,0,1,1,0,0,rfl,t6,t9,t12,t13,(Eq.trans t80 (by first|rfl|(rw [e4.1]; done)|(rw [e4.2]; done)|simp)),(Eq.trans t81 rfl),h3,h6,h9,h11,h13,⟨(congrArg Blk.ver h15),congrArg Blk.live h15⟩,⟨(congrArg Blk.ver h16),congrArg Blk.live h16⟩,(Eq.trans h812 (by first|rfl|(rw [tbl_succ,List.map_append,← ej]; first|done|rfl)|(rw [tbl_succ,List.map_append,← eo]; first|done|rfl)|(rw [tbl_succ,← ej]; first|done|rfl)|(rw [tbl_succ,← eo]; first|done|rfl)|(rw [tbl_succ]; first|done|rfl)|(rw [tbl_succ,List.map_append]; first|done|rfl)|(simp; done))),(Eq.trans h813 (by first|rfl|(rw [tbl_succ,List.map_append,← ej]; first|done|rfl)|(rw [tbl_succ,List.map_append,← eo]; first|done|rfl)|(rw [tbl_succ,← ej]; first|done|rfl)|(rw [tbl_succ,← eo]; first|done|rfl)|(rw [tbl_succ]; first|done|rfl)|(rw [tbl_succ,List.map_append]; first|done|rfl)|(simp; done))),?_⟩
  · exact Nat.zero_le _
 intro mm T H ⟨k,v,w,v15,v16,hmm,t6,t9,t12,t13,t80,t81,h3,h6,h9,h11,h13,h15,h16,h812,h813,hk⟩ Q10 p110 p210 p310
 unfold b11_0
 refine W_r (R_lss t81 t80 (R_e ?_))
 refine W_seq_if rfl (fun c11=>?_) fun c11=>?_
 ·
  have kr:=k6 k (by omega)
  refine W_seq_skip (W_seq_blockg fun Q12 n12 x12 y12 z12=>(W_r (R_mv t81 (R_mv rfl (R_e (W_r (R_lazy (i:=15) (n:=v15) rfl (h15).1 ?_)))))))
  refine R_e (W_r (R_lazy (i:=16) (n:=v16) rfl (h16).1 (R_e (W_seq_seq (W_r (R_fk t9 h9 (R_lk rfl h9 rfl rfl ?_)))))))
  refine R_mv rfl (R_idx (i:=k) (@rfl V (intss ((trR m).ot))) (@rfl V (iV ((k:Nat):Int))) (by omega) rfl (R_load_pp rfl rfl (R_len rfl (R_mv rfl (R_e (W_seq_blockg fun Q13 n13 x13 y13 z13=>?_))))))
  refine W_loop (fun mm T H=> ∃ (j:Nat) (v2:Nat) (w2:Nat),mm=(nth (trR m).ot k).length - j∧T 6=(V.mp 6 1 0 0)∧T 9=(V.mp 9 1 0 0)∧T 12=(V.fn 33 [(V.agg [(iV ((1:Int)+((tm)*(1001:Int))))])] [])∧T 13=(V.mp 13 1 0 0)∧T 15=(V.ms 15 v2 0 (j))∧T 16=(V.ms 16 w2 0 (j))∧T 80=(iV (((trR m).nx.length:Nat):Int))∧T 81=(iV ((k:Nat):Int))∧T 88=(ints (nth (trR m).ot k))∧T 89=(iV (((nth (trR m).ot k).length:Nat):Int))∧T 90=(iV ((j:Nat):Int))∧H 3=(bk 1 24 4 [[(iV (m.i)),(iV (m.s)),(intss m.nx),(intss m.ot)]])∧H 6=(bk 1 29 6 [[(iV (0:Int)),(iV (0:Int)),(iV (0:Int)),V.nilsl,V.nilsl,V.nilsl]])∧H 9=(bk 1 24 4 [[(iV ((trR m).i)),(iV ((trR m).s)),(intss ((trR m).nx)),(intss ((trR m).ot))]])∧H 11=(bk 1 68 7 [[(iV ((trR m).i)),(iV ((trR m).s)),(intss ((trR m).nx)),(intss ((trR m).ot)),(iV (inp)),(iV (tm)),(iV ((1:Int)+((tm)*(1001:Int))))]])∧H 13=(bk 1 29 6 [[(iV (inp)),(iV (tm)),(iV (0:Int)),(intss ((trR m).nx)),(V.ms 812 v 0 (k)),(V.ms 813 w 0 (k))]])∧H 15=(bz v2 3 1 (List.map cI (tbl (rbVA (trR m) tm k) j)))∧H 16=(bz w2 73 2 (List.map cSg (tbl (rbSA (trR m) tm k) j)))∧H 812=(bz v 38 1 (List.map cL (tbl (rbV (trR m) tm) k)))∧H 813=(bz w 70 1 (List.map cSr (tbl (rbS (trR m) tm) k)))∧(j≤(nth (trR m).ot k).length)) ?_ ?_
  ·
   refine ⟨_,0,(v15+1),(v16+1),rfl,t6,t9,t12,t13,(Eq.trans (@rfl V (V.ms 15 (v15+1) 0 (0))) (by first|rfl|(rw [e4.1]; done)|(rw [e4.2]; done)|simp)),(Eq.trans (@rfl V (V.ms 16 (v16+1) 0 (0))) (by first|rfl|(rw [e4.1]; done)|(rw [e4.2]; done)|simp)),t80,t81,(Eq.trans (@rfl V (ints ((nth ((trR m).ot) (k))))) (by first|rfl|(rw [e4.1]; done)|(rw [e4.2]; done)|simp)),(Eq.trans (@rfl V (iV ((((nth ((trR m).ot) (k))).length:Nat):Int))) (by first|rfl|(rw [e4.1]; done)|(rw [e4.2]; done)|simp)),(Eq.trans (@rfl V (iV (0:Int))) rfl),h3,h6,h9,h11,h13,(Eq.trans (@rfl Blk (bz (v15+1) 3 1 [])) (by first|rfl|(rw [tbl_succ,List.map_append,← ej]; first|done|rfl)|(rw [tbl_succ,List.map_append,← eo]; first|done|rfl)|(rw [tbl_succ,← ej]; first|done|rfl)|(rw [tbl_succ,← eo]; first|done|rfl)|(rw [tbl_succ]; first|done|rfl)|(rw [tbl_succ,List.map_append]; first|done|rfl)|(simp; done))),(Eq.trans (@rfl Blk (bz (v16+1) 73 2 [])) (by first|rfl|(rw [tbl_succ,List.map_append,← ej]; first|done|rfl)|(rw [tbl_succ,List.map_append,← eo]; first|done|rfl)|(rw [tbl_succ,← ej]; first|done|rfl)|(rw [tbl_succ,← eo]; first|done|rfl)|(rw [tbl_succ]; first|done|rfl)|(rw [tbl_succ,List.map_append]; first|done|rfl)|(simp; done))),h812,h813,?_⟩
   · exact Nat.zero_le _
  intro mm T H ⟨j,v2,w2,hmm,t6,t9,t12,t13,t15,t16,t80,t81,t88,t89,t90,h3,h6,h9,h11,h13,h15,h16,h812,h813,hj⟩ Q14 p114 p214 p314
  unfold b11_1
  refine W_r (R_lss t90 t89 (R_e ?_))
  refine W_seq_if rfl (fun c15=>?_) fun c15=>?_
  ·
   have kj:=kr.2.2 j (by omega)
   refine W_seq_skip (W_seq_blockg fun Q16 n16 x16 y16 z16=>(W_r (R_idx (i:=j) t88 t90 (by omega) rfl (R_load_pp rfl rfl (R_mv rfl (R_e (W_r ?_)))))))
   refine R_mv rfl (R_mv rfl (R_e (W_seq_seq (W_r (R_mv rfl (R_gtr rfl rfl (R_e ?_)))))))
   refine W_seq_J (fun T H=>T 6=(V.mp 6 1 0 0)∧T 9=(V.mp 9 1 0 0)∧T 12=(V.fn 33 [(V.agg [(iV ((1:Int)+((tm)*(1001:Int))))])] [])∧T 13=(V.mp 13 1 0 0)∧T 15=(V.ms 15 v2 0 (j))∧T 16=(V.ms 16 w2 0 (j))∧T 80=(iV (((trR m).nx.length:Nat):Int))∧T 81=(iV ((k:Nat):Int))∧T 88=(ints (nth (trR m).ot k))∧T 89=(iV (((nth (trR m).ot k).length:Nat):Int))∧T 90=(iV ((j:Nat):Int))∧T 19=(iV (oVl tm (nth (nth (trR m).ot k) j)))∧T 20=(iV (oCd tm (nth (nth (trR m).ot k) j)))∧H 3=(bk 1 24 4 [[(iV (m.i)),(iV (m.s)),(intss m.nx),(intss m.ot)]])∧H 6=(bk 1 29 6 [[(iV (0:Int)),(iV (0:Int)),(iV (0:Int)),V.nilsl,V.nilsl,V.nilsl]])∧H 9=(bk 1 24 4 [[(iV ((trR m).i)),(iV ((trR m).s)),(intss ((trR m).nx)),(intss ((trR m).ot))]])∧H 11=(bk 1 68 7 [[(iV ((trR m).i)),(iV ((trR m).s)),(intss ((trR m).nx)),(intss ((trR m).ot)),(iV (inp)),(iV (tm)),(iV ((1:Int)+((tm)*(1001:Int))))]])∧H 13=(bk 1 29 6 [[(iV (inp)),(iV (tm)),(iV (0:Int)),(intss ((trR m).nx)),(V.ms 812 v 0 (k)),(V.ms 813 w 0 (k))]])∧H 15=(bz v2 3 1 (List.map cI (tbl (rbVA (trR m) tm k) j)))∧H 16=(bz w2 73 2 (List.map cSg (tbl (rbSA (trR m) tm k) j)))∧H 812=(bz v 38 1 (List.map cL (tbl (rbV (trR m) tm) k)))∧H 813=(bz w 70 1 (List.map cSr (tbl (rbS (trR m) tm) k)))∧True) (fun Q17 n17 y17 z17=>?_) ?_
   ·
    refine W_if rfl (fun c18=>?_) fun c18=>?_
    ·
     have e4:=oVl_yes (tm:=tm) c18
     refine W_t (R_mv t12 (R_mv rfl (R_callv (@rfl V (V.fn 33 [(V.agg [(iV ((1:Int)+((tm)*(1001:Int))))])] [])) (evcons (@rfl V (iV ((nth (nth (trR m).ot k) (j))))) evnil) (apart_pure (((1:Int)+((tm)*(1001:Int)))) (((nth (nth (trR m).ot k) (j)))) (by omega) (by omega)) (fzv_mapcanon _ _ (by simp [-List.map_take,-List.map_drop,-List.map_append,-List.map_reverse])) (by simp [-List.map_take,-List.map_drop,-List.map_append,-List.map_reverse]) (Or.inl (by simp [-List.map_take,-List.map_drop,-List.map_append,-List.map_reverse])) (R_mv rfl (R_ext rfl rfl (R_ext rfl rfl (R_mv rfl ?_)))))))
     refine R_mv rfl (R_e ?_)
     exact n17 _ _ ⟨t6,t9,t12,t13,t15,t16,t80,t81,t88,t89,t90,(Eq.trans (@rfl V (iV (((((nth (nth (trR m).ot k) (j)))) - 1) / (((1:Int)+((tm)*(1001:Int))))))) (by first|rfl|(rw [e4.1]; done)|(rw [e4.2]; done)|simp)),(Eq.trans (@rfl V (iV (((((nth (nth (trR m).ot k) (j)))) - 1) % (((1:Int)+((tm)*(1001:Int))))))) (by first|rfl|(rw [e4.1]; done)|(rw [e4.2]; done)|simp)),h3,h6,h9,h11,h13,h15,h16,h812,h813,trivial⟩
    have e4:=oVl_no (tm:=tm) c18
    refine W_skip ?_
    exact n17 _ _ ⟨t6,t9,t12,t13,t15,t16,t80,t81,t88,t89,t90,(Eq.trans (@rfl V (iV (0:Int))) (by first|rfl|(rw [e4.1]; done)|(rw [e4.2]; done)|simp)),(Eq.trans (@rfl V (iV (0:Int))) (by first|rfl|(rw [e4.1]; done)|(rw [e4.2]; done)|simp)),h3,h6,h9,h11,h13,h15,h16,h812,h813,trivial⟩
   intro T H ⟨t6,t9,t12,t13,t15,t16,t80,t81,t88,t89,t90,t19,t20,h3,h6,h9,h11,h13,h15,h16,h812,h813,_⟩
   refine W_r (R_mv t15 (R_mv t19 (R_bslice rfl rfl (R_append1 (l:=(tbl (rbVA (trR m) tm k) j)) (f:=cI) (x:=((oVl tm (nth (nth (trR m).ot k) j)))) (@rfl V (V.ms 15 v2 0 (j))) h15 (by first|rfl|exact (tbl_len _ _).symm|simp|omega) (@rfl V (V.sl [[(iV (oVl tm (nth (nth (trR m).ot k) j)))]])) rfl rfl (by omega) (by omega) (R_mv rfl (R_e (W_t ?_)))))))
   refine R_mv t16 (R_mv t20 (R_callk (setting_pure ((oCd tm (nth (nth (trR m).ot k) j))) (oCd_rng (by omega) (by omega))) rfl (R_bslice rfl rfl (R_append1 (l:=(tbl (rbSA (trR m) tm k) j)) (f:=cSg) (x:=((sgC ((oCd tm (nth (nth (trR m).ot k) j)))))) (@rfl V (V.ms 16 w2 0 (j))) h16 (by first|rfl|exact (tbl_len _ _).symm|simp|omega) (@rfl V (V.sl [[(iV ((sgC ((oCd tm (nth (nth (trR m).ot k) j)))).1)),(iV ((sgC ((oCd tm (nth (nth (trR m).ot k) j)))).2))]])) rfl rfl (by omega) (by omega) (R_mv rfl (R_e (n16 _ _ ?_)))))))
   refine .done (W_t (R_addN t90 (@rfl V (iV ((1:Nat):Int))) (by omega) (R_mv rfl (R_e ?_))))
   refine p114 _ _ _ ?_ ⟨(j+1),(v2+1),(w2+1),rfl,t6,t9,t12,t13,(Eq.trans (@rfl V (V.ms 15 (v2+1) 0 (j+1))) (by first|rfl|(rw [e4.1]; done)|(rw [e4.2]; done)|simp)),(Eq.trans (@rfl V (V.ms 16 (w2+1) 0 (j+1))) (by first|rfl|(rw [e4.1]; done)|(rw [e4.2]; done)|simp)),t80,t81,t88,t89,(Eq.trans (@rfl V (iV ((j+1:Nat):Int))) (by first|rfl|(rw [e4.1]; done)|(rw [e4.2]; done)|simp)),h3,h6,h9,h11,h13,(Eq.trans (@rfl Blk (bz (v2+1) 3 1 (List.map cI (tbl (rbVA (trR m) tm k) j++[(oVl tm (nth (nth (trR m).ot k) j))])))) (by first|rfl|(rw [tbl_succ,List.map_append,← ej]; first|done|rfl)|(rw [tbl_succ,List.map_append,← eo]; first|done|rfl)|(rw [tbl_succ,← ej]; first|done|rfl)|(rw [tbl_succ,← eo]; first|done|rfl)|(rw [tbl_succ]; first|done|rfl)|(rw [tbl_succ,List.map_append]; first|done|rfl)|(simp; done))),(Eq.trans (@rfl Blk (bz (w2+1) 73 2 (List.map cSg (tbl (rbSA (trR m) tm k) j++[(sgC ((oCd tm (nth (nth (trR m).ot k) j))))])))) (by first|rfl|(rw [tbl_succ,List.map_append,← ej]; first|done|rfl)|(rw [tbl_succ,List.map_append,← eo]; first|done|rfl)|(rw [tbl_succ,← ej]; first|done|rfl)|(rw [tbl_succ,← eo]; first|done|rfl)|(rw [tbl_succ]; first|done|rfl)|(rw [tbl_succ,List.map_append]; first|done|rfl)|(simp; done))),h812,h813,?_⟩
   · omega
   · omega
  have ej:tbl (rbVA (trR m) tm k) j=rbV (trR m) tm k:=by unfold rbV; rw [show (nth (trR m).ot k).length=j by omega]
  have eo:tbl (rbSA (trR m) tm k) j=rbS (trR m) tm k:=by unfold rbS; rw [show (nth (trR m).ot k).length=j by omega]
  refine W_seq_exit (p314 _ _ _ (x13 _ _ (fork_ (R:=fun T H=>T 6=(V.mp 6 1 0 0)∧T 9=(V.mp 9 1 0 0)∧T 12=(V.fn 33 [(V.agg [(iV ((1:Int)+((tm)*(1001:Int))))])] [])∧T 13=(V.mp 13 1 0 0)∧T 15=(V.ms 15 v2 0 (j))∧T 16=(V.ms 16 w2 0 (j))∧T 80=(iV (((trR m).nx.length:Nat):Int))∧T 81=(iV ((k:Nat):Int))∧T 88=(ints (nth (trR m).ot k))∧T 89=(iV (((nth (trR m).ot k).length:Nat):Int))∧T 90=(iV ((j:Nat):Int))∧T 91=(V.bool (decide (((j:Nat):Int) < (((nth (trR m).ot k).length:Nat):Int))))∧H 3=(bk 1 24 4 [[(iV (m.i)),(iV (m.s)),(intss m.nx),(intss m.ot)]])∧H 6=(bk 1 29 6 [[(iV (0:Int)),(iV (0:Int)),(iV (0:Int)),V.nilsl,V.nilsl,V.nilsl]])∧H 9=(bk 1 24 4 [[(iV ((trR m).i)),(iV ((trR m).s)),(intss ((trR m).nx)),(intss ((trR m).ot))]])∧H 11=(bk 1 68 7 [[(iV ((trR m).i)),(iV ((trR m).s)),(intss ((trR m).nx)),(intss ((trR m).ot)),(iV (inp)),(iV (tm)),(iV ((1:Int)+((tm)*(1001:Int))))]])∧H 13=(bk 1 29 6 [[(iV (inp)),(iV (tm)),(iV (0:Int)),(intss ((trR m).nx)),(V.ms 812 v 0 (k)),(V.ms 813 w 0 (k))]])∧H 15=(bz v2 3 1 (List.map cI (tbl (rbVA (trR m) tm k) j)))∧H 16=(bz w2 73 2 (List.map cSg (tbl (rbSA (trR m) tm k) j)))∧H 812=(bz v 38 1 (List.map cL (tbl (rbV (trR m) tm) k)))∧H 813=(bz w 70 1 (List.map cSr (tbl (rbS (trR m) tm) k)))∧True) ⟨t6,t9,t12,t13,t15,t16,t80,t81,t88,t89,t90,(@rfl V (V.bool (decide (((j:Nat):Int) < (((nth (trR m).ot k).length:Nat):Int))))),h3,h6,h9,h11,h13,h15,h16,h812,h813,trivial⟩ ?_)))
  intro T H ⟨t6,t9,t12,t13,t15,t16,t80,t81,t88,t89,t90,t91,h3,h6,h9,h11,h13,h15,h16,h812,h813,_⟩
  refine .freeze 15 (.done ?_)
  refine fork_ (R:=fun T H=>T 6=(V.mp 6 1 0 0)∧T 9=(V.mp 9 1 0 0)∧T 12=(V.fn 33 [(V.agg [(iV ((1:Int)+((tm)*(1001:Int))))])] [])∧T 13=(V.mp 13 1 0 0)∧T 15=(ints (tbl (rbVA (trR m) tm k) j))∧T 16=(V.ms 16 w2 0 (j))∧T 80=(iV (((trR m).nx.length:Nat):Int))∧T 81=(iV ((k:Nat):Int))∧T 88=(ints (nth (trR m).ot k))∧T 89=(iV (((nth (trR m).ot k).length:Nat):Int))∧T 90=(iV ((j:Nat):Int))∧T 91=(V.bool (decide (((j:Nat):Int) < (((nth (trR m).ot k).length:Nat):Int))))∧H 3=(bk 1 24 4 [[(iV (m.i)),(iV (m.s)),(intss m.nx),(intss m.ot)]])∧H 6=(bk 1 29 6 [[(iV (0:Int)),(iV (0:Int)),(iV (0:Int)),V.nilsl,V.nilsl,V.nilsl]])∧H 9=(bk 1 24 4 [[(iV ((trR m).i)),(iV ((trR m).s)),(intss ((trR m).nx)),(intss ((trR m).ot))]])∧H 11=(bk 1 68 7 [[(iV ((trR m).i)),(iV ((trR m).s)),(intss ((trR m).nx)),(intss ((trR m).ot)),(iV (inp)),(iV (tm)),(iV ((1:Int)+((tm)*(1001:Int))))]])∧H 13=(bk 1 29 6 [[(iV (inp)),(iV (tm)),(iV (0:Int)),(intss ((trR m).nx)),(V.ms 812 v 0 (k)),(V.ms 813 w 0 (k))]])∧((H 15).ver=v2∧(H 15).live=false)∧H 16=(bz w2 73 2 (List.map cSg (tbl (rbSA (trR m) tm k) j)))∧H 812=(bz v 38 1 (List.map cL (tbl (rbV (trR m) tm) k)))∧H 813=(bz w 70 1 (List.map cSr (tbl (rbS (trR m) tm) k)))∧True) ⟨(fzT_q t6 rfl),(fzT_q t9 rfl),(fzT_q t12 rfl),(fzT_q t13 rfl),(fzT_q t15 (fzq_own h15 (by first|rfl|simp) (l:=(tbl (rbVA (trR m) tm k) j)) rfl (by first|rfl|exact (tbl_len _ _).symm|simp|omega))),(fzT_q t16 (fzq_other (by decide))),(fzT_q t80 rfl),(fzT_q t81 rfl),(fzT_q t88 rfl),(fzT_q t89 rfl),(fzT_q t90 rfl),(fzT_q t91 rfl),(kill_ne h3 (by decide)),(kill_ne h6 (by decide)),(kill_ne h9 (by decide)),(kill_ne h11 (by decide)),(kill_ne h13 (by decide)),(kill_self (congrArg Blk.ver h15)),(kill_ne h16 (by decide)),(kill_ne h812 (by decide)),(kill_ne h813 (by decide)),trivial⟩ ?_
  intro T H ⟨t6,t9,t12,t13,t15,t16,t80,t81,t88,t89,t90,t91,h3,h6,h9,h11,h13,h15,h16,h812,h813,_⟩
  refine W_seq_g (fun T H=>T 6=(V.mp 6 1 0 0)∧T 9=(V.mp 9 1 0 0)∧T 12=(V.fn 33 [(V.agg [(iV ((1:Int)+((tm)*(1001:Int))))])] [])∧T 13=(V.mp 13 1 0 0)∧T 16=(V.ms 16 w2 0 (j))∧T 80=(iV (((trR m).nx.length:Nat):Int))∧T 81=(iV ((k:Nat):Int))∧H 3=(bk 1 24 4 [[(iV (m.i)),(iV (m.s)),(intss m.nx),(intss m.ot)]])∧H 6=(bk 1 29 6 [[(iV (0:Int)),(iV (0:Int)),(iV (0:Int)),V.nilsl,V.nilsl,V.nilsl]])∧H 9=(bk 1 24 4 [[(iV ((trR m).i)),(iV ((trR m).s)),(intss ((trR m).nx)),(intss ((trR m).ot))]])∧H 11=(bk 1 68 7 [[(iV ((trR m).i)),(iV ((trR m).s)),(intss ((trR m).nx)),(intss ((trR m).ot)),(iV (inp)),(iV (tm)),(iV ((1:Int)+((tm)*(1001:Int))))]])∧H 13=(bk 1 29 6 [[(iV (inp)),(iV (tm)),(iV (0:Int)),(intss ((trR m).nx)),(V.ms 812 (v+1) 0 (k+1)),(V.ms 813 w 0 (k))]])∧((H 15).ver=v2∧(H 15).live=false)∧H 16=(bz w2 73 2 (List.map cSg (tbl (rbSA (trR m) tm k) j)))∧H 812=(bz (v+1) 38 1 (List.map cL (tbl (rbV (trR m) tm) k++[tbl (rbVA (trR m) tm k) j])))∧H 813=(bz w 70 1 (List.map cSr (tbl (rbS (trR m) tm) k)))∧True) ?_ ?_
  ·
   refine R_fk t13 h13 (R_lk rfl h13 rfl rfl (R_mv t15 (R_bslice rfl rfl (R_append1 (l:=(tbl (rbV (trR m) tm) k)) (f:=cL) (x:=(tbl (rbVA (trR m) tm k) j)) (@rfl V (V.ms 812 v 0 (k))) h812 (by first|rfl|exact (tbl_len _ _).symm|simp|omega) (@rfl V (V.sl [[(ints (tbl (rbVA (trR m) tm k) j))]])) rfl rfl (by omega) (by omega) (R_fk t13 h13 (R_store (vs:=[(V.ms 812 (v+1) 0 (k+1))]) (B':=(bk 1 29 6 [[(iV (inp)),(iV (tm)),(iV (0:Int)),(intss ((trR m).nx)),(V.ms 812 (v+1) 0 (k+1)),(V.ms 813 w 0 (k))]])) rfl rfl rfl h13 (sB oB rfl rfl rfl rfl rfl) ?_))))))
   exact R_nil ⟨t6,t9,t12,t13,t16,t80,t81,h3,h6,h9,h11,rfl,h15,h16,rfl,h813,trivial⟩
  intro T H ⟨t6,t9,t12,t13,t16,t80,t81,h3,h6,h9,h11,h13,h15,h16,h812,h813,_⟩
  refine .freeze 16 (.done ?_)
  refine fork_ (R:=fun T H=>T 6=(V.mp 6 1 0 0)∧T 9=(V.mp 9 1 0 0)∧T 12=(V.fn 33 [(V.agg [(iV ((1:Int)+((tm)*(1001:Int))))])] [])∧T 13=(V.mp 13 1 0 0)∧T 16=(V.sl (List.map cSg (tbl (rbSA (trR m) tm k) j)))∧T 80=(iV (((trR m).nx.length:Nat):Int))∧T 81=(iV ((k:Nat):Int))∧H 3=(bk 1 24 4 [[(iV (m.i)),(iV (m.s)),(intss m.nx),(intss m.ot)]])∧H 6=(bk 1 29 6 [[(iV (0:Int)),(iV (0:Int)),(iV (0:Int)),V.nilsl,V.nilsl,V.nilsl]])∧H 9=(bk 1 24 4 [[(iV ((trR m).i)),(iV ((trR m).s)),(intss ((trR m).nx)),(intss ((trR m).ot))]])∧H 11=(bk 1 68 7 [[(iV ((trR m).i)),(iV ((trR m).s)),(intss ((trR m).nx)),(intss ((trR m).ot)),(iV (inp)),(iV (tm)),(iV ((1:Int)+((tm)*(1001:Int))))]])∧H 13=(bk 1 29 6 [[(iV (inp)),(iV (tm)),(iV (0:Int)),(intss ((trR m).nx)),(V.ms 812 (v+1) 0 (k+1)),(V.ms 813 w 0 (k))]])∧((H 15).ver=v2∧(H 15).live=false)∧((H 16).ver=w2∧(H 16).live=false)∧H 812=(bz (v+1) 38 1 (List.map cL (tbl (rbV (trR m) tm) k++[tbl (rbVA (trR m) tm k) j])))∧H 813=(bz w 70 1 (List.map cSr (tbl (rbS (trR m) tm) k)))∧True) ⟨(fzT_q t6 rfl),(fzT_q t9 rfl),(fzT_q t12 rfl),(fzT_q t13 rfl),(fzT_q t16 (fzq_own h16 (by first|rfl|simp) (l:=(tbl (rbSA (trR m) tm k) j)) rfl (by first|rfl|exact (tbl_len _ _).symm|simp|omega))),(fzT_q t80 rfl),(fzT_q t81 rfl),(kill_ne h3 (by decide)),(kill_ne h6 (by decide)),(kill_ne h9 (by decide)),(kill_ne h11 (by decide)),(kill_ne h13 (by decide)),(kill_dead h15),(kill_self (congrArg Blk.ver h16)),(kill_ne h812 (by decide)),(kill_ne h813 (by decide)),trivial⟩ ?_
  intro T H ⟨t6,t9,t12,t13,t16,t80,t81,h3,h6,h9,h11,h13,h15,h16,h812,h813,_⟩
  refine W_t (R_fk t13 h13 (R_lk rfl h13 rfl rfl (R_mv t16 (R_bslice rfl rfl (R_append1 (l:=(tbl (rbS (trR m) tm) k)) (f:=cSr) (x:=(tbl (rbSA (trR m) tm k) j)) (@rfl V (V.ms 813 w 0 (k))) h813 (by first|rfl|exact (tbl_len _ _).symm|simp|omega) (@rfl V (V.sl [[(V.sl (List.map cSg (tbl (rbSA (trR m) tm k) j)))]])) rfl rfl (by omega) (by omega) (R_fk t13 h13 (R_store (vs:=[(V.ms 813 (w+1) 0 (k+1))]) (B':=(bk 1 29 6 [[(iV (inp)),(iV (tm)),(iV (0:Int)),(intss ((trR m).nx)),(V.ms 812 (v+1) 0 (k+1)),(V.ms 813 (w+1) 0 (k+1))]])) rfl rfl rfl h13 (sB oB rfl rfl rfl rfl rfl) ?_)))))))
  refine R_e (n12 _ _ (.done (W_t (R_addN t81 (@rfl V (iV ((1:Nat):Int))) (by omega) (R_mv rfl (R_e ?_))))))
  refine p110 _ _ _ ?_ ⟨(k+1),(v+1),(w+1),v2,w2,rfl,t6,t9,t12,t13,t80,(Eq.trans (@rfl V (iV ((k+1:Nat):Int))) (by first|rfl|(rw [e4.1]; done)|(rw [e4.2]; done)|simp)),h3,h6,h9,h11,(Eq.trans (@rfl Blk (bk 1 29 6 [[(iV (inp)),(iV (tm)),(iV (0:Int)),(intss ((trR m).nx)),(V.ms 812 (v+1) 0 (k+1)),(V.ms 813 (w+1) 0 (k+1))]])) (by first|rfl|(rw [tbl_succ,List.map_append,← ej]; first|done|rfl)|(rw [tbl_succ,List.map_append,← eo]; first|done|rfl)|(rw [tbl_succ,← ej]; first|done|rfl)|(rw [tbl_succ,← eo]; first|done|rfl)|(rw [tbl_succ]; first|done|rfl)|(rw [tbl_succ,List.map_append]; first|done|rfl)|(simp; done))),h15,h16,(Eq.trans h812 (by first|rfl|(rw [tbl_succ,List.map_append,← ej]; first|done|rfl)|(rw [tbl_succ,List.map_append,← eo]; first|done|rfl)|(rw [tbl_succ,← ej]; first|done|rfl)|(rw [tbl_succ,← eo]; first|done|rfl)|(rw [tbl_succ]; first|done|rfl)|(rw [tbl_succ,List.map_append]; first|done|rfl)|(simp; done))),(Eq.trans (@rfl Blk (bz (w+1) 70 1 (List.map cSr (tbl (rbS (trR m) tm) k++[tbl (rbSA (trR m) tm k) j])))) (by first|rfl|(rw [tbl_succ,List.map_append,← ej]; first|done|rfl)|(rw [tbl_succ,List.map_append,← eo]; first|done|rfl)|(rw [tbl_succ,← ej]; first|done|rfl)|(rw [tbl_succ,← eo]; first|done|rfl)|(rw [tbl_succ]; first|done|rfl)|(rw [tbl_succ,List.map_append]; first|done|rfl)|(simp; done))),?_⟩
  · omega
  · omega
 refine W_seq_exit (p310 _ _ _ (x9 _ _ (.done (W_r (R_lk t13 h13 rfl rfl (R_store (vs:=[(iV (inp)),(iV (tm)),(iV (0:Int)),(intss ((trR m).nx)),(V.ms 812 v 0 (k)),(V.ms 813 w 0 (k))]) (B':=(bk 1 29 6 [[(iV (inp)),(iV (tm)),(iV (0:Int)),(intss ((trR m).nx)),(V.ms 812 v 0 (k)),(V.ms 813 w 0 (k))]])) t6 rfl rfl h6 (sB oB rfl rfl rfl rfl rfl) (R_mv rfl ?_)))))))
 refine R_e (W_ret ?_)
 refine RetC_2 (resV_c (u:=(V.agg [(iV (inp)),(iV (tm)),(iV (0:Int)),(intss ((trR m).nx)),(V.ms 812 v 0 (k)),(V.ms 813 w 0 (k))])) t6 (@rfl Blk (bk 1 29 6 [[(iV (inp)),(iV (tm)),(iV (0:Int)),(intss ((trR m).nx)),(V.ms 812 v 0 (k)),(V.ms 813 w 0 (k))]])) (lB oB rfl rfl)) (resV_t (@rfl V (iV (0:Int)))) (fz_aggL (mcons (fz_int ?_) (mcons (fz_int ?_) (mcons (fz_int ?_) (mcons (fz_sl ?_ (fun _=>by simp)) (mcons (fz_ms h812 (by first|rfl|simp) (l:=(tbl (rbV (trR m) tm) k)) rfl (by first|rfl|exact (tbl_len _ _).symm|simp|omega) (fun _=>by simp) ?_) (mcons (fz_ms h813 (by first|rfl|simp) (l:=(tbl (rbS (trR m) tm) k)) rfl (by first|rfl|exact (tbl_len _ _).symm|simp|omega) (fun _=>by simp) ?_) rfl))))))) (fz_int ?_)
 · rw [rbT_yes hm (rbE_5 d1 d2 d3 d4),rbM_tbl]; try first|rfl|(rw [show k=(trR m).ot.length by omega]; done)|(rw [show k=(trR m).ot.length by omega]; rfl)|(rw [show k=(trR m).nx.length by omega,List.take_length])
 · rw [rbT_yes hm (rbE_5 d1 d2 d3 d4),rbM_tbl]; try first|rfl|(rw [show k=(trR m).ot.length by omega]; done)|(rw [show k=(trR m).ot.length by omega]; rfl)|(rw [show k=(trR m).nx.length by omega,List.take_length])
 · rw [rbT_yes hm (rbE_5 d1 d2 d3 d4),rbM_tbl]; try first|rfl|(rw [show k=(trR m).ot.length by omega]; done)|(rw [show k=(trR m).ot.length by omega]; rfl)|(rw [show k=(trR m).nx.length by omega,List.take_length])
 · rw [rbT_yes hm (rbE_5 d1 d2 d3 d4),rbM_tbl]; try first|rfl|(rw [show k=(trR m).ot.length by omega]; done)|(rw [show k=(trR m).ot.length by omega]; rfl)|(rw [show k=(trR m).nx.length by omega,List.take_length])
 · rw [rbT_yes hm (rbE_5 d1 d2 d3 d4),rbM_tbl]; try first|rfl|(rw [show k=(trR m).ot.length by omega]; done)|(rw [show k=(trR m).ot.length by omega]; rfl)|(rw [show k=(trR m).nx.length by omega,List.take_length])
 · rw [rbT_yes hm (rbE_5 d1 d2 d3 d4),rbM_tbl]; try first|rfl|(rw [show k=(trR m).ot.length by omega]; done)|(rw [show k=(trR m).ot.length by omega]; rfl)|(rw [show k=(trR m).nx.length by omega,List.take_length])
 · rw [rbE_5 d1 d2 d3 d4]
def r21_4:List SO:=[
 qF 21 2 1,
 ql 22 21,
 qF 23 1 1,
 ql 24 23,
 sO 25 (.mks 4 1 1 [.bool false] (.t 24) (.t 24)),
 sO 26 (.build [.int .i64 0,.nilsl] [(0,1,.t 22),(1,1,.t 25)]),
 sO 27 (.bslice 95 2 true [.int .i64 0,.nilsl] 1 [(0,.t 26)]),
 qM 5 27]
def r21_5:List SO:=[
 qF 28 0 1,
 ql 29 28,
 qF 30 1 1,
 ql 31 30,
 qP 32 .add 29 31,
 sO 33 (.build [.int .i64 0,.int .i64 0,.nilsl,.nilsl] [(0,1,.t 32)]),
 sO 6 (.alloc 24 [.int .i64 0,.int .i64 0,.nilsl,.nilsl]),
 sN (.store 4 (.t 6) (.t 33))]
def r21_13:List SO:=[
 qL 46 6 1,
 qM 47 5,
 qM 48 7,
 qA 49 2 47 48,
 qL 50 2 49,
 qM 51 10,
 sO 52 (.call false 45 [.t 46,.t 50,.t 51]),
 sO 53 (.un .not (.t 52))]
def r21_16:List SO:=[
 qL 62 6 1,
 qM 63 5,
 qM 64 7,
 qA 65 2 63 64,
 qL 66 2 65,
 qM 67 10,
 sO 68 (.call false 46 [.t 62,.t 66,.t 67]),
 qM 61 68,
 qE 69 61 0,
 qE 70 61 1,
 sO 11 (.alloc 95 [.int .i64 0,.nilsl]),
 sN (.store 2 (.t 11) (.t 69)),
 qM 12 70]
def r21_17:List SO:=[
 qF 71 4 1,
 ql 72 71,
 qM 73 5,
 qM 74 7,
 qA 75 2 73 74,
 qF 76 0 75,
 ql 77 76,
 qA 78 1 72 77,
 ql 79 78,
 qM 80 10,
 qA 81 1 79 80,
 ql 82 81,
 qF 83 1 1,
 ql 84 83,
 sO 85 (.call false 47 [.t 84]),
 qP 86 .mul 82 85,
 sO 87 (.bin .add (.c (.int .i64 1)) (.t 86)),
 qM 88 12,
 qP 89 .add 87 88,
 qM 13 89]
def b21_1:SC:=.seq (.seq (.reg [qM 40 10,qF 41 0 6,ql 42 41,qP 43 .lss 40 42]) (.cond (.t 43) (.skip) (.exit 2))) (.seq (.block 3 (.seq (.seq (.reg r21_13) (.cond (.t 53) (.seq (.reg [qM 54 8,qM 55 7,sO 56 (.bslice 3 1 false [.int .i64 0] 1 [(0,.t 55)]),sO 57 (.append 3 1 8 (.t 54) (.t 56)),qM 8 57]) (.seq (.reg [qM 58 9,sO 59 (.bslice 3 1 false [.int .i64 0] 1 [(0,.c (.int .i64 0))]),sO 60 (.append 3 1 8 (.t 58) (.t 59)),qM 9 60]) (.exit 3))) (.skip))) (.seq (.dreg [11] r21_16) (.seq (.reg r21_17) (.seq (.seq (.reg [qM 90 13,qC 91 .gtr 90 1048576]) (.cond (.t 91) (.seq (.reg [sO 92 (.build [.int .i64 0,.int .i64 0,.nilsl,.nilsl] []),sN (.store 4 (.t 2) (.t 92)),qI 3 2]) (.ret)) (.skip))) (.seq (.reg [qM 93 5,qL 94 2 11,sO 95 (.call false 48 [.t 93,.t 94]),qM 14 95]) (.seq (.seq (.reg [qM 96 14,qM 97 5,qN 98 97,qP 99 .eql 96 98]) (.cond (.t 99) (.seq (.seq (.reg [qM 100 14,qC 101 .eql 100 128]) (.cond (.t 101) (.seq (.reg [sO 102 (.build [.int .i64 0,.int .i64 0,.nilsl,.nilsl] []),sN (.store 4 (.t 2) (.t 102)),qI 3 11]) (.ret)) (.skip))) (.reg [qM 103 5,qL 104 2 11,sO 105 (.bslice 95 2 false [.int .i64 0,.nilsl] 1 [(0,.t 104)]),sO 106 (.append 95 2 32 (.t 103) (.t 105)),qM 5 106])) (.skip))) (.seq (.reg [qM 107 8,qM 108 14,sO 109 (.bslice 3 1 false [.int .i64 0] 1 [(0,.t 108)]),sO 110 (.append 3 1 8 (.t 107) (.t 109)),qM 8 110]) (.reg [qM 111 9,qM 112 13,sO 113 (.bslice 3 1 false [.int .i64 0] 1 [(0,.t 112)]),sO 114 (.append 3 1 8 (.t 111) (.t 113)),qM 9 114]))))))))) (.reg [qM 44 10,qC 45 .add 44 1,qM 10 45]))
def r21_27:List SO:=[
 qF 115 2 6,
 ql 116 115,
 qM 117 8,
 sO 118 (.bslice 38 1 false [.nilsl] 1 [(0,.t 117)]),
 sO 119 (.append 38 1 24 (.t 116) (.t 118)),
 qF 120 2 6,
 sN (.store 1 (.t 120) (.t 119))]
def r21_28:List SO:=[
 qF 121 3 6,
 ql 122 121,
 qM 123 9,
 sO 124 (.bslice 38 1 false [.nilsl] 1 [(0,.t 123)]),
 sO 125 (.append 38 1 24 (.t 122) (.t 124)),
 qF 126 3 6,
 sN (.store 1 (.t 126) (.t 125))]
def b21_0:SC:=.seq (.seq (.reg [qM 34 7,qM 35 5,qN 36 35,qP 37 .lss 34 36]) (.cond (.t 37) (.skip) (.exit 0))) (.seq (.block 1 (.seq (.reg [sO 8 (.lazy 3 1),sO 9 (.lazy 3 1)]) (.seq (.seq (.reg [qI 10 0]) (.block 2 (.loop b21_1))) (.seq (.reg r21_27) (.reg r21_28))))) (.reg [qM 38 7,qC 39 .add 38 1,qM 7 39]))
def s21:SF:=⟨128,[.cell 2 true 4,.tmp 3],.seq (.reg [sO 1 (.box 29 6 (.t 0)),sO 2 (.alloc 24 [.int .i64 0,.int .i64 0,.nilsl,.nilsl]),qI 3 0]) (.seq (.seq (.reg [qL 15 6 1,sO 16 (.call false 26 [.t 15]),qM 4 16]) (.seq (.reg [qM 17 4,qC 18 .neq 17 0]) (.cond (.t 18) (.seq (.reg [sO 19 (.build [.int .i64 0,.int .i64 0,.nilsl,.nilsl] []),qM 20 4,sN (.store 4 (.t 2) (.t 19)),qM 3 20]) (.ret)) (.skip)))) (.seq (.dreg [25] r21_4) (.seq (.reg r21_5) (.seq (.seq (.reg [qI 7 0]) (.block 0 (.loop b21_0))) (.seq (.reg [qL 127 4 6,sN (.store 4 (.t 2) (.t 127)),qI 3 0]) (.ret))))))⟩
theorem s21_ok:slimF Tryz.prog ⟨[58,129,130,131,149,155,161,182,183,185,191,192,208,209,210,224,228,231,236],[8,9,27],[],[]⟩ Tryz.f21=some s21:=by kernel_rfl
def r26_1:List SO:=[
 qF 7 0 1,
 ql 8 7,
 qC 9 .lss 8 1,
 qM 10 9,
 ⟨some (10,false),some 11,.fld 0 (.t 1)⟩,
 ⟨some (10,false),some 12,.load false 1 (.t 11)⟩,
 ⟨some (10,false),some 13,.bin .gtr (.t 12) (.c (.int .i64 64))⟩,
 sO 14 (.pick (.t 10) (.c (.bool true)) (.t 13)),
 qM 15 14,
 ⟨some (15,false),some 16,.fld 1 (.t 1)⟩,
 ⟨some (15,false),some 17,.load false 1 (.t 16)⟩,
 ⟨some (15,false),some 18,.bin .lss (.t 17) (.c (.int .i64 0))⟩,
 sO 19 (.pick (.t 15) (.c (.bool true)) (.t 18)),
 qM 20 19,
 ⟨some (20,false),some 21,.fld 1 (.t 1)⟩,
 ⟨some (20,false),some 22,.load false 1 (.t 21)⟩,
 ⟨some (20,false),some 23,.bin .gtr (.t 22) (.c (.int .i64 4))⟩,
 sO 24 (.pick (.t 20) (.c (.bool true)) (.t 23))]
def r26_10:List SO:=[
 qF 40 2 1,
 ql 41 40,
 qC 42 .lss 41 0,
 qM 43 42,
 ⟨some (43,false),some 44,.fld 2 (.t 1)⟩,
 ⟨some (43,false),some 45,.load false 1 (.t 44)⟩,
 ⟨some (43,false),some 46,.fld 3 (.t 1)⟩,
 ⟨some (43,false),some 47,.load false 1 (.t 46)⟩,
 ⟨some (43,false),some 48,.len (.t 47)⟩,
 ⟨some (43,false),some 49,.bin .geq (.t 45) (.t 48)⟩,
 sO 50 (.pick (.t 43) (.c (.bool true)) (.t 49))]
def r26_12:List SO:=[
 qF 51 4 1,
 ql 52 51,
 qN 53 52,
 qF 54 3 1,
 ql 55 54,
 qN 56 55,
 qP 57 .neq 53 56,
 qM 58 57,
 ⟨some (58,false),some 59,.fld 5 (.t 1)⟩,
 ⟨some (58,false),some 60,.load false 1 (.t 59)⟩,
 ⟨some (58,false),some 61,.len (.t 60)⟩,
 ⟨some (58,false),some 62,.fld 3 (.t 1)⟩,
 ⟨some (58,false),some 63,.load false 1 (.t 62)⟩,
 ⟨some (58,false),some 64,.len (.t 63)⟩,
 ⟨some (58,false),some 65,.bin .neq (.t 61) (.t 64)⟩,
 sO 66 (.pick (.t 58) (.c (.bool true)) (.t 65))]
def r26_17:List SO:=[
 qF 74 3 1,
 ql 75 74,
 qM 76 4,
 qA 77 1 75 76,
 ql 78 77,
 qN 79 78,
 qM 80 3,
 qP 81 .neq 79 80,
 qM 82 81,
 ⟨some (82,false),some 83,.fld 4 (.t 1)⟩,
 ⟨some (82,false),some 84,.load false 1 (.t 83)⟩,
 ⟨some (82,false),some 85,.mv (.t 4)⟩,
 ⟨some (82,false),some 86,.idx 1 (.t 84) (.t 85)⟩,
 ⟨some (82,false),some 87,.load false 1 (.t 86)⟩,
 ⟨some (82,false),some 88,.len (.t 87)⟩,
 ⟨some (82,false),some 89,.mv (.t 3)⟩,
 ⟨some (82,false),some 90,.bin .neq (.t 88) (.t 89)⟩,
 sO 91 (.pick (.t 82) (.c (.bool true)) (.t 90)),
 qM 92 91,
 ⟨some (92,false),some 93,.fld 5 (.t 1)⟩,
 ⟨some (92,false),some 94,.load false 1 (.t 93)⟩,
 ⟨some (92,false),some 95,.mv (.t 4)⟩,
 ⟨some (92,false),some 96,.idx 1 (.t 94) (.t 95)⟩,
 ⟨some (92,false),some 97,.load false 1 (.t 96)⟩,
 ⟨some (92,false),some 98,.len (.t 97)⟩,
 ⟨some (92,false),some 99,.mv (.t 3)⟩,
 ⟨some (92,false),some 100,.bin .neq (.t 98) (.t 99)⟩,
 sO 101 (.pick (.t 92) (.c (.bool true)) (.t 100))]
def b26_1:SC:=.seq (.seq (.reg [qM 102 5,qM 103 3,qP 104 .lss 102 103]) (.cond (.t 104) (.skip) (.exit 2))) (.seq (.block 3 (.seq (.reg [qL 107 6 1,qM 108 4,qM 109 5,sO 110 (.call false 54 [.t 107,.t 108,.t 109]),qM 6 110]) (.seq (.reg [qM 111 6,qC 112 .neq 111 0]) (.cond (.t 112) (.seq (.reg [qM 113 6,qM 2 113]) (.ret)) (.skip))))) (.reg [qM 105 5,qC 106 .add 105 1,qM 5 106]))
def b26_0:SC:=.seq (.seq (.reg [qM 67 4,qF 68 3 1,ql 69 68,qN 70 69,qP 71 .lss 67 70]) (.cond (.t 71) (.skip) (.exit 0))) (.seq (.block 1 (.seq (.seq (.reg r26_17) (.cond (.t 101) (.seq (.reg [qI 2 1]) (.ret)) (.skip))) (.seq (.reg [qI 5 0]) (.block 2 (.loop b26_1))))) (.reg [qM 72 4,qC 73 .add 72 1,qM 4 73]))
def s26:SF:=⟨114,[.tmp 2],.seq (.reg [sO 1 (.box 29 6 (.t 0)),qI 2 0]) (.seq (.seq (.reg r26_1) (.cond (.t 24) (.seq (.reg [qI 2 2]) (.ret)) (.skip))) (.seq (.reg [qF 25 0 1,ql 26 25,qF 27 1 1,ql 28 27,qP 29 .add 26 28,qM 3 29]) (.seq (.seq (.reg [qM 30 3,qC 31 .gtr 30 64]) (.cond (.t 31) (.seq (.reg [qI 2 11]) (.ret)) (.skip))) (.seq (.seq (.reg [qF 32 3 1,ql 33 32,qN 34 33,qC 35 .eql 34 0]) (.cond (.t 35) (.seq (.reg [qI 2 19]) (.ret)) (.skip))) (.seq (.seq (.reg [qF 36 3 1,ql 37 36,qN 38 37,qC 39 .gtr 38 128]) (.cond (.t 39) (.seq (.reg [qI 2 11]) (.ret)) (.skip))) (.seq (.seq (.reg r26_10) (.cond (.t 50) (.seq (.reg [qI 2 2]) (.ret)) (.skip))) (.seq (.seq (.reg r26_12) (.cond (.t 66) (.seq (.reg [qI 2 1]) (.ret)) (.skip))) (.seq (.seq (.reg [qI 4 0]) (.block 0 (.loop b26_0))) (.seq (.reg [qI 2 0]) (.ret))))))))))⟩
theorem s26_ok:slimF Tryz.prog ⟨[58,129,130,131,149,155,161,182,183,185,191,192,208,209,210,224,228,231,236],[],[],[]⟩ Tryz.f26=some s26:=by kernel_rfl
def r54_1:List SO:=[
 qF 8 5 3,
 ql 9 8,
 qM 10 1,
 qA 11 1 9 10,
 ql 12 11,
 qM 13 2,
 qA 14 2 12 13,
 qL 15 2 14,
 sO 7 (.alloc 73 [.int .i64 0,.int .i64 0]),
 sN (.store 2 (.t 7) (.t 15))]
def r54_2:List SO:=[
 qF 16 3 3,
 ql 17 16,
 qM 18 1,
 qA 19 1 17 18,
 ql 20 19,
 qM 21 2,
 qA 22 1 20 21,
 ql 23 22,
 qC 24 .lss 23 0,
 qM 25 24,
 ⟨some (25,false),some 26,.fld 3 (.t 3)⟩,
 ⟨some (25,false),some 27,.load false 1 (.t 26)⟩,
 ⟨some (25,false),some 28,.mv (.t 1)⟩,
 ⟨some (25,false),some 29,.idx 1 (.t 27) (.t 28)⟩,
 ⟨some (25,false),some 30,.load false 1 (.t 29)⟩,
 ⟨some (25,false),some 31,.mv (.t 2)⟩,
 ⟨some (25,false),some 32,.idx 1 (.t 30) (.t 31)⟩,
 ⟨some (25,false),some 33,.load false 1 (.t 32)⟩,
 ⟨some (25,false),some 34,.fld 3 (.t 3)⟩,
 ⟨some (25,false),some 35,.load false 1 (.t 34)⟩,
 ⟨some (25,false),some 36,.len (.t 35)⟩,
 ⟨some (25,false),some 37,.bin .geq (.t 33) (.t 36)⟩,
 sO 38 (.pick (.t 25) (.c (.bool true)) (.t 37)),
 qM 39 38,
 ⟨some (39,false),some 40,.fld 4 (.t 3)⟩,
 ⟨some (39,false),some 41,.load false 1 (.t 40)⟩,
 ⟨some (39,false),some 42,.mv (.t 1)⟩,
 ⟨some (39,false),some 43,.idx 1 (.t 41) (.t 42)⟩,
 ⟨some (39,false),some 44,.load false 1 (.t 43)⟩,
 ⟨some (39,false),some 45,.mv (.t 2)⟩,
 ⟨some (39,false),some 46,.idx 1 (.t 44) (.t 45)⟩,
 ⟨some (39,false),some 47,.load false 1 (.t 46)⟩,
 ⟨some (39,false),some 48,.bin .lss (.t 47) (.c (.int .i64 0))⟩,
 sO 49 (.pick (.t 39) (.c (.bool true)) (.t 48)),
 qM 50 49,
 ⟨some (50,false),some 51,.fld 4 (.t 3)⟩,
 ⟨some (50,false),some 52,.load false 1 (.t 51)⟩,
 ⟨some (50,false),some 53,.mv (.t 1)⟩,
 ⟨some (50,false),some 54,.idx 1 (.t 52) (.t 53)⟩,
 ⟨some (50,false),some 55,.load false 1 (.t 54)⟩,
 ⟨some (50,false),some 56,.mv (.t 2)⟩,
 ⟨some (50,false),some 57,.idx 1 (.t 55) (.t 56)⟩,
 ⟨some (50,false),some 58,.load false 1 (.t 57)⟩,
 ⟨some (50,false),some 59,.bin .gtr (.t 58) (.c (.int .i64 1048576))⟩,
 sO 60 (.pick (.t 50) (.c (.bool true)) (.t 59))]
def r54_4:List SO:=[
 qF 61 0 7,
 ql 62 61,
 sO 63 (.bin .lss (.t 62) (.c (.int .i64 (-1)))),
 qM 64 63,
 ⟨some (64,false),some 65,.fld 0 (.t 7)⟩,
 ⟨some (64,false),some 66,.load false 1 (.t 65)⟩,
 ⟨some (64,false),some 67,.fld 1 (.t 3)⟩,
 ⟨some (64,false),some 68,.load false 1 (.t 67)⟩,
 ⟨some (64,false),some 69,.bin .geq (.t 66) (.t 68)⟩,
 sO 70 (.pick (.t 64) (.c (.bool true)) (.t 69)),
 qM 71 70,
 ⟨some (71,false),some 72,.fld 1 (.t 7)⟩,
 ⟨some (71,false),some 73,.load false 1 (.t 72)⟩,
 ⟨some (71,false),some 74,.bin .lss (.t 73) (.c (.int .i64 0))⟩,
 sO 75 (.pick (.t 71) (.c (.bool true)) (.t 74)),
 qM 76 75,
 ⟨some (76,false),some 77,.fld 1 (.t 7)⟩,
 ⟨some (76,false),some 78,.load false 1 (.t 77)⟩,
 ⟨some (76,false),some 79,.bin .gtr (.t 78) (.c (.int .i64 1000))⟩,
 sO 80 (.pick (.t 76) (.c (.bool true)) (.t 79))]
def r54_6:List SO:=[
 qF 81 0 7,
 ql 82 81,
 sO 83 (.bin .eql (.t 82) (.c (.int .i64 (-1)))),
 qM 84 83,
 ⟨some (84,true),some 85,.fld 1 (.t 7)⟩,
 ⟨some (84,true),some 86,.load false 1 (.t 85)⟩,
 ⟨some (84,true),some 87,.bin .neq (.t 86) (.c (.int .i64 0))⟩,
 sO 88 (.pick (.t 84) (.t 87) (.c (.bool false)))]
def s54:SF:=⟨89,[.tmp 6],.seq (.reg [sO 3 (.box 29 6 (.t 0)),qI 6 0]) (.seq (.reg r54_1) (.seq (.seq (.reg r54_2) (.cond (.t 60) (.seq (.reg [qI 6 2]) (.ret)) (.skip))) (.seq (.seq (.reg r54_4) (.cond (.t 80) (.seq (.reg [qI 6 2]) (.ret)) (.skip))) (.seq (.seq (.reg r54_6) (.cond (.t 88) (.seq (.reg [qI 6 1]) (.ret)) (.skip))) (.seq (.reg [qI 6 0]) (.ret))))))⟩
theorem s54_ok:slimF Tryz.prog ⟨[58,129,130,131,149,155,161,182,183,185,191,192,208,209,210,224,228,231,236],[],[],[]⟩ Tryz.f54=some s54:=by kernel_rfl
end Go.Proofs.YtilfohjlglefjaaGreat
namespace Go.Proofs.YtilfohjlglefjaaGreat
open Go
abbrev Cf:=Int×List Bool
abbrev cCf (c:Cf):List V:=[iV c.1,.sl (c.2.map cB)]
@[simp] theorem pureLL_cCf {l:List Cf}:pureLL (l.map cCf)=true:=pureLL_map _ _ fun a=>by simp [cCf]
@[simp] theorem canonLL_cCf {l:List Cf}:canonLL (l.map cCf)=true:=canonLL_map _ _ fun a=>by simp [cCf]
def tSt (t:TM) (s i:Nat):Sg:=nth (nth t.st s) i
def symE (t:TM) (s i:Nat):Int:=
  if nth (nth t.nx s) i < 0∨t.nx.length≤nth (nth t.nx s) i∨nth (nth t.ot s) i < 0∨1048576 < nth (nth t.ot s) i then 2
  else if (tSt t s i).1 < -1∨t.tm≤(tSt t s i).1∨(tSt t s i).2 < 0∨1000 < (tSt t s i).2 then 2
  else if (tSt t s i).1= -1∧(tSt t s i).2≠0 then 1 else 0
def rowT (t:TM) (s:Nat):Int:=
  if ((nth t.nx s).length:Int)≠t.i+t.tm∨((nth t.ot s).length:Int)≠t.i+t.tm∨((nth t.st s).length:Int)≠t.i+t.tm then 1 else fe (symE t s) 0 (t.i+t.tm).toNat
def tval (t:TM):Int:=
  if t.i < 1∨64 < t.i∨t.tm < 0∨4 < t.tm then 2 else if 64 < t.i+t.tm then 11 else if t.nx.length=0 then 19 else if 128 < t.nx.length then 11
  else if t.s < 0∨t.nx.length≤t.s then 2 else if t.ot.length≠t.nx.length∨t.st.length≠t.nx.length then 1 else fe (rowT t) 0 t.nx.length
def TOK (t : TM) : Prop := 1 ≤ t.i ∧ t.i ≤ 64 ∧ 0 ≤ t.tm ∧ t.tm ≤ 4 ∧ t.i + t.tm ≤ 64 ∧ 0 < t.nx.length ∧ t.nx.length ≤ 128 ∧ 0 ≤ t.s ∧ t.s < t.nx.length ∧ t.ot.length = t.nx.length ∧ t.st.length = t.nx.length ∧
  ∀ s, s < t.nx.length → ((nth t.nx s).length : Int) = t.i + t.tm ∧ ((nth t.ot s).length : Int) = t.i + t.tm ∧ ((nth t.st s).length : Int) = t.i + t.tm ∧ ∀ i : Nat, i < t.i + t.tm →
    0≤nth (nth t.nx s) i∧nth (nth t.nx s) i < t.nx.length∧0≤nth (nth t.ot s) i∧nth (nth t.ot s) i≤1048576∧ -1≤(tSt t s i).1∧(tSt t s i).1 < t.tm∧0≤(tSt t s i).2∧(tSt t s i).2≤1000∧((tSt t s i).1= -1→(tSt t s i).2=0)
theorem tval_ok {t:TM} (h:tval t=0):TOK t:=by
  unfold tval at h
  split at h; · cases h
  rename_i h1
  split at h; · cases h
  rename_i h2
  split at h; · cases h
  rename_i h3
  split at h; · cases h
  rename_i h4
  split at h; · cases h
  rename_i h5
  split at h; · cases h
  rename_i h6
  refine ⟨by omega,by omega,by omega,by omega,by omega,by omega,by omega,by omega,by omega,by omega,by omega,fun s hs=>?_⟩
  have hr:=fe_zero_iff.1 h s (Nat.zero_le _) (by omega)
  unfold rowT at hr
  split at hr; · cases hr
  rename_i h7
  refine ⟨by omega,by omega,by omega,fun i hi=>?_⟩
  have hx:=fe_zero_iff.1 hr i (Nat.zero_le _) (by omega)
  unfold symE at hx
  split at hx; · cases hx
  rename_i h8
  split at hx; · cases hx
  rename_i h9
  split at hx; · cases hx
  rename_i h10
  refine ⟨by omega,by omega,by omega,by omega,by omega,by omega,by omega,by omega,fun e=>?_⟩
  exact Decidable.byContradiction fun q=>h10 ⟨e,q⟩
theorem tblP_all {l:List Bool} {k:Nat} (h:l.length≤k):tblP (nth l) false l.length k=l:=by
  rw [tblP_end h]
  refine nth_ext (tbl_len _ _) fun j hj=>?_
  rw [tbl_len] at hj
  exact tbl_nth hj
def psB (t:TM) (c:Cf) (i:Nat):Bool:=decide ((i:Int) < t.i)||nth c.2 ((i:Int) - t.i).toNat
def af0 (t:TM) (c:Cf) (i:Nat):List Bool:=if t.i≤i then c.2.set ((i:Int) - t.i).toNat false else c.2
def afN (t:TM) (c:Cf) (i:Nat):Prop:=(tSt t c.1.toNat i).1 < 0∨(tSt t c.1.toNat i).2=0∧nth (af0 t c i) (tSt t c.1.toNat i).1.toNat=false
instance (t:TM) (c:Cf) (i:Nat):Decidable (afN t c i):=inferInstanceAs (Decidable (_∨_))
def afR (t:TM) (c:Cf) (i:Nat):List Bool:=if afN t c i then af0 t c i else (af0 t c i).set (tSt t c.1.toNat i).1.toNat (decide (0 < (tSt t c.1.toNat i).2))
def afC (t:TM) (c:Cf) (i:Nat):Int:=if afN t c i then 0 else 1+(tSt t c.1.toNat i).1*1001+(tSt t c.1.toNat i).2
def afT (t:TM) (c:Cf) (i:Nat):Cf:=(nth (nth t.nx c.1.toNat) i,afR t c i)
theorem afN_yes {t:TM} {c:Cf} {i:Nat} (h:(decide ((nth (nth t.st c.1.toNat) i).1 < 0)||(decide ((nth (nth t.st c.1.toNat) i).2=0)&& !(nth (af0 t c i) (nth (nth t.st c.1.toNat) i).1.toNat)))=true):afN t c i∧afR t c i=af0 t c i∧afC t c i=0:=by
  have e:afN t c i:=by
    simp only [Bool.or_eq_true,Bool.and_eq_true,decide_eq_true_eq,Bool.not_eq_true'] at h
    exact h
  exact ⟨e,if_pos e,if_pos e⟩
theorem afN_no {t:TM} {c:Cf} {i:Nat} (h:(decide ((nth (nth t.st c.1.toNat) i).1 < 0)||(decide ((nth (nth t.st c.1.toNat) i).2=0)&& !(nth (af0 t c i) (nth (nth t.st c.1.toNat) i).1.toNat)))=false):0≤(nth (nth t.st c.1.toNat) i).1∧afR t c i=(af0 t c i).set (nth (nth t.st c.1.toNat) i).1.toNat (decide (0 < (nth (nth t.st c.1.toNat) i).2))∧afC t c i=1+(nth (nth t.st c.1.toNat) i).1*1001+(nth (nth t.st c.1.toNat) i).2:=by
  have e: ¬afN t c i:=by
    intro q
    have:(decide ((nth (nth t.st c.1.toNat) i).1 < 0)||(decide ((nth (nth t.st c.1.toNat) i).2=0)&& !(nth (af0 t c i) (nth (nth t.st c.1.toNat) i).1.toNat)))=true:=by
      simp only [Bool.or_eq_true,Bool.and_eq_true,decide_eq_true_eq,Bool.not_eq_true']
      exact q
    rw [this] at h; cases h
  refine ⟨Int.not_lt.1 fun q=>e (.inl q),if_neg e,if_neg e⟩
theorem af0_len {t:TM} {c:Cf} {i:Nat}:(af0 t c i).length=c.2.length:=by unfold af0; split <;> simp
theorem afR_len {t:TM} {c:Cf} {i:Nat}:(afR t c i).length=c.2.length:=by unfold afR; split <;> simp [af0_len]
def CfOK (t:TM) (c:Cf):Prop:=0≤c.1∧c.1 < t.nx.length∧c.2.length=t.tm.toNat
theorem afT_ok {t:TM} (ht:TOK t) {c:Cf} (hc:CfOK t c) {i:Nat} (hi:(i:Int) < t.i+t.tm):CfOK t (afT t c i):=by
  obtain ⟨_,_,_,_,_,_,_,_,_,_,_,h⟩:=ht
  have:=(h c.1.toNat (by have:=hc.1; have:=hc.2.1; omega)).2.2.2 i hi
  exact ⟨this.1,this.2.1,by rw [show (afT t c i).2=afR t c i from rfl,afR_len]; exact hc.2.2⟩
def plcN (l:List Cf) (c:Cf) (k:Nat):Nat→Nat
  |0=>l.length
  |n+1=>if nth l k=c then k else plcN l c (k+1) n
def plc (l:List Cf) (c:Cf):Nat:=plcN l c 0 l.length
theorem plcN_hit {l:List Cf} {c:Cf} {k:Nat} (h:nth l k=c) (hk:k < l.length):plcN l c k (l.length - k)=k:=by
  obtain ⟨n,hn⟩: ∃ n,l.length - k=n+1:=⟨l.length - k - 1,by omega⟩
  rw [hn,plcN,if_pos h]
theorem plcN_skip {l:List Cf} {c:Cf} {k:Nat} (h:nth l k≠c) (hk:k < l.length):plcN l c k (l.length - k)=plcN l c (k+1) (l.length - (k+1)):=by
  obtain ⟨n,hn⟩: ∃ n,l.length - k=n+1:=⟨l.length - k - 1,by omega⟩
  rw [hn,show l.length - (k+1)=n by omega,plcN,if_neg h]
theorem plcN_end {l:List Cf} {c:Cf} {k:Nat} (hk:l.length≤k):plcN l c k (l.length - k)=l.length:=by
  rw [show l.length - k=0 by omega,plcN]
theorem plcN_spec {l:List Cf} {c:Cf}: ∀ (n k:Nat),k+n=l.length→(plcN l c k n < l.length∧nth l (plcN l c k n)=c∧ ∀ j,k≤j→j < plcN l c k n→nth l j≠c)∨(plcN l c k n=l.length∧ ∀ j,k≤j→j < l.length→nth l j≠c)
  |0,k,h=>.inr ⟨rfl,fun j h1 h2=>by omega⟩
  | n + 1, k, h => by
    rw [plcN]
    split
    · rename_i e; exact .inl ⟨by omega,e,fun j h1 h2=>by omega⟩
    · rename_i e
      rcases plcN_spec (l:=l) (c:=c) n (k+1) (by omega) with ⟨h1,h2,h3⟩|⟨h1,h2⟩
      · exact .inl ⟨h1,h2,fun j h4 h5=>by
          by_cases q:j=k
          · subst q; exact e
          · exact h3 j (by omega) h5⟩
      · exact .inr ⟨h1,fun j h4 h5=>by
          by_cases q:j=k
          · subst q; exact e
          · exact h2 j (by omega) h5⟩
theorem plc_spec (l:List Cf) (c:Cf):(plc l c < l.length∧nth l (plc l c)=c)∨(plc l c=l.length∧c∉l):=by
  rcases plcN_spec (l:=l) (c:=c) l.length 0 (by omega) with ⟨h1,h2,_⟩|⟨h1,h2⟩
  · exact .inl ⟨h1,h2⟩
  · refine .inr ⟨h1,fun h=>?_⟩
    obtain ⟨j,hj,e⟩:=mem_nth h
    exact h2 j (Nat.zero_le _) hj e
theorem plc_le (l:List Cf) (c:Cf):plc l c≤l.length:=by rcases plc_spec l c with h|h <;> omega
structure US where
  l:List Cf
  a:List Int
  b:List Int
def unO (t:TM) (c:Cf) (i:Nat):Int:=1+nth (nth t.ot c.1.toNat) i*sgK t.tm+afC t c i
def unAdd (l:List Cf) (c:Cf):List Cf:=if plc l c=l.length then l++[c] else l
def unRow (t : TM) (k : Nat) : Nat → Nat → US → Int × US
  |0,_,S=>(0,S)
  | n + 1, i, S =>
    if psB t (nth S.l k) i=false then unRow t k n (i+1) ⟨S.l,S.a++[(k:Int)],S.b++[0]⟩
    else if 1048576 < unO t (nth S.l k) i then (2,S)
    else if plc S.l (afT t (nth S.l k) i)=S.l.length∧plc S.l (afT t (nth S.l k) i)=128 then (11,S)
    else unRow t k n (i+1) ⟨unAdd S.l (afT t (nth S.l k) i),S.a++[(plc S.l (afT t (nth S.l k) i):Int)],S.b++[unO t (nth S.l k) i]⟩
structure UM where
  l:List Cf
  nx:List (List Int)
  ot:List (List Int)
def unOut (t:TM):Nat→Nat→UM→Int×UM
  |0,_,S=>(0,S)
  | n + 1, k, S => if k < S.l.length then
      (if (unRow t k (t.i+t.tm).toNat 0 ⟨S.l,[],[]⟩).1≠0 then ((unRow t k (t.i+t.tm).toNat 0 ⟨S.l,[],[]⟩).1,S)
      else unOut t n (k+1) ⟨(unRow t k (t.i+t.tm).toNat 0 ⟨S.l,[],[]⟩).2.l,S.nx++[(unRow t k (t.i+t.tm).toNat 0 ⟨S.l,[],[]⟩).2.a],S.ot++[(unRow t k (t.i+t.tm).toNat 0 ⟨S.l,[],[]⟩).2.b]⟩) else (0,S)
def ini (t:TM):UM:=⟨[(t.s,List.replicate t.tm.toNat false)],[],[]⟩
def unX (t:TM):Int×UM:=unOut t 129 0 (ini t)
def unE (t:TM):Int:=if tval t≠0 then tval t else (unX t).1
def unM (t:TM):M:=if unE t=0 then ⟨t.i+t.tm,0,(unX t).2.nx,(unX t).2.ot⟩ else zM
section
variable {t:TM} {k n i:Nat} {S:US}
theorem unRow_end (h:n≤i):unRow t k (n - i) i S=(0,S):=by rw [show n - i=0 by omega,unRow]
theorem unRow_no (h:i < n) (h1:psB t (nth S.l k) i=false):unRow t k (n - i) i S=unRow t k (n - (i+1)) (i+1) ⟨S.l,S.a++[(k:Int)],S.b++[0]⟩:=by rw [show n - i=(n - (i+1))+1 by omega,unRow,if_pos h1]
theorem unRow_2 (h:i < n) (h1: ¬psB t (nth S.l k) i=false) (h2:1048576 < unO t (nth S.l k) i):unRow t k (n - i) i S=(2,S):=by rw [show n - i=(n - (i+1))+1 by omega,unRow,if_neg h1,if_pos h2]
theorem unRow_3 (h:i < n) (h1: ¬psB t (nth S.l k) i=false) (h2: ¬1048576 < unO t (nth S.l k) i) (h3:plc S.l (afT t (nth S.l k) i)=S.l.length∧plc S.l (afT t (nth S.l k) i)=128):unRow t k (n - i) i S=(11,S):=by rw [show n - i=(n - (i+1))+1 by omega,unRow,if_neg h1,if_neg h2,if_pos h3]
theorem unRow_go (h:i < n) (h1: ¬psB t (nth S.l k) i=false) (h2: ¬1048576 < unO t (nth S.l k) i) (h3: ¬(plc S.l (afT t (nth S.l k) i)=S.l.length∧plc S.l (afT t (nth S.l k) i)=128)):
    unRow t k (n - i) i S=unRow t k (n - (i+1)) (i+1) ⟨unAdd S.l (afT t (nth S.l k) i),S.a++[(plc S.l (afT t (nth S.l k) i):Int)],S.b++[unO t (nth S.l k) i]⟩:=by rw [show n - i=(n - (i+1))+1 by omega,unRow,if_neg h1,if_neg h2,if_neg h3]
variable {U:UM}
theorem unOut_end (h:U.l.length≤k):unOut t n k U=(0,U):=by
  cases n with
  |zero=>rfl
  |succ n=>rw [unOut,if_neg (by omega)]
theorem unOut_stop {e:Int} {S:US} (h:k < U.l.length) (hn:k < n) (h1:unRow t k (t.i+t.tm).toNat 0 ⟨U.l,[],[]⟩=(e,S)) (h2:e≠0):unOut t (n - k) k U=(e,U):=by
  rw [show n - k=(n - (k+1))+1 by omega,unOut,if_pos h,h1,if_pos h2]
theorem unOut_go {S:US} (h:k < U.l.length) (hn:k < n) (h1:unRow t k (t.i+t.tm).toNat 0 ⟨U.l,[],[]⟩=(0,S)):unOut t (n - k) k U=unOut t (n - (k+1)) (k+1) ⟨S.l,U.nx++[S.a],U.ot++[S.b]⟩:=by
  rw [show n - k=(n - (k+1))+1 by omega,unOut,if_pos h,h1,if_neg (by simp)]
end
structure UOK (t:TM) (l:List Cf):Prop where
  all: ∀ c∈l,CfOK t c
  len:l.length≤128
  pos:0 < l.length
theorem UOK.at {t:TM} {l:List Cf} (h:UOK t l) {k:Nat} (hk:k < l.length):CfOK t (nth l k):=h.all _ (nth_mem hk)
theorem UOK.add {t:TM} {l:List Cf} (h:UOK t l) {c:Cf} (hc:CfOK t c) (h2: ¬(plc l c=l.length∧plc l c=128)):UOK t (unAdd l c):=by
  unfold unAdd
  split
  · rename_i e
    refine ⟨fun d hd=>?_,by rw [List.length_append,List.length_singleton]; have:=h.len; omega,by simp⟩
    rcases List.mem_append.1 hd with hd|hd
    · exact h.all d hd
    · rw [List.mem_singleton.1 hd]; exact hc
  · exact h
theorem ini_ok {t:TM} (h:TOK t):UOK t (ini t).l:=⟨fun c hc=>by
  rw [List.mem_singleton.1 hc]
  obtain ⟨_,_,_,_,_,_,_,h8,h9,_⟩:=h
  exact ⟨h8,h9,List.length_replicate ..⟩,by simp [ini],by simp [ini]⟩
theorem unAdd_nth {l:List Cf} {c:Cf} {k:Nat} (hk:k < l.length):nth (unAdd l c) k=nth l k∧l.length≤(unAdd l c).length:=by
  unfold unAdd
  split
  · exact ⟨nth_app_l hk,by simp⟩
  · exact ⟨rfl,Nat.le_refl _⟩
section
variable {t:TM} {e:Int} {U:UM}
theorem unE_v (h:tval t≠0):unE t=tval t:=if_pos h
theorem unE_x (h: ¬tval t≠0) (hx:unX t=(e,U)):unE t=e:=by unfold unE; rw [if_neg h,hx]
theorem unM_no (h:unE t≠0):unM t=zM:=if_neg h
theorem unM_yes (h: ¬tval t≠0) (hx:unX t=(0,U)):unM t=⟨t.i+t.tm,0,U.nx,U.ot⟩:=by unfold unM; rw [if_pos (unE_x h hx),hx]
theorem un_mul {o tm:Int} (h:0≤o∧o≤1048576) (ht:0≤tm∧tm≤4):0≤o*sgK tm∧o*sgK tm≤4199546880:=by
  have h1:0≤sgK tm∧sgK tm≤4005:=by unfold sgK; omega
  have h2:=Int.mul_nonneg h.1 h1.1
  have h3:o*sgK tm≤1048576*sgK tm:=Int.mul_le_mul_of_nonneg_right h.2 h1.1
  omega
theorem afC_rng (ht:TOK t) {c:Cf} (hc:CfOK t c) {i:Nat} (hi:(i:Int) < t.i+t.tm):0≤afC t c i∧afC t c i≤5005:=by
  obtain ⟨_,_,_,h4,_,_,_,_,_,_,_,h⟩:=ht
  have:=(h c.1.toNat (by have:=hc.1; have:=hc.2.1; omega)).2.2.2 i hi
  unfold afC
  split
  · omega
  · rename_i q
    unfold afN at q
    omega
end
end Go.Proofs.YtilfohjlglefjaaGreat
namespace Go.Proofs.YtilfohjlglefjaaGreat
open Go Go.Proofs
theorem symb_pure (t:TM) (s i:Nat) (hs:s < t.nx.length∧s < t.ot.length∧s < t.st.length) (hi:i < (nth t.nx s).length∧i < (nth t.ot s).length∧i < (nth t.st s).length):PureC Tryz.prog 54 [(V.agg [(iV (t.i)),(iV (t.tm)),(iV (t.s)),(intss t.nx),(intss t.ot),(V.sl (List.map cSr (t.st)))]),(iV ((s:Nat):Int)),(iV ((i:Nat):Int))] (iV (symE t s i)):=by
 refine pW Tryz.func54 s54_ok fun hB=>?_
 unfold s54
 dsimp only
 refine W_r (R_box (i:=3) (n:=0) (m:=6) (cs:=[(iV (t.i)),(iV (t.tm)),(iV (t.s)),(intss t.nx),(intss t.ot),(V.sl (List.map cSr (t.st)))]) rfl (congrArg Blk.ver rfl) rfl rfl rfl (R_mv rfl (R_e (W_r (R_fk rfl rfl (R_lk rfl rfl rfl rfl (R_mv rfl ?_)))))))
 refine R_idx (i:=s) (@rfl V (V.sl (List.map cSr (t.st)))) (@rfl V (iV ((s:Nat):Int))) (by omega) rfl (R_load_pp rfl rfl (R_mv rfl (R_idx (i:=i) (@rfl V (V.sl (List.map cSg ((nth (t.st) (s)))))) (@rfl V (iV ((i:Nat):Int))) (by omega) rfl (R_load_pp rfl rfl (R_alloc (i:=7) (n:=0) (m:=2) rfl (congrArg Blk.ver rfl) rfl (R_sk rfl rfl rfl rfl rfl rfl rfl rfl rfl (R_e ?_)))))))
 refine W_seq_seq ?_
 refine W_seq_regc (fun T H=>T 3=(V.mp 3 1 0 0)∧T 7=(V.mp 7 1 0 0)∧T 60=(V.bool (decide ((((((nth ((nth (t.nx) (s))) (i))) < (0:Int))∨(((t.nx.length:Nat):Int)≤((nth ((nth (t.nx) (s))) (i)))))∨(((nth ((nth (t.ot) (s))) (i))) < (0:Int)))∨((1048576:Int) < ((nth ((nth (t.ot) (s))) (i)))))))∧H 3=(bk 1 29 6 [[(iV (t.i)),(iV (t.tm)),(iV (t.s)),(intss t.nx),(intss t.ot),(V.sl (List.map cSr (t.st)))]])∧H 7=(bk 1 73 2 [[(iV (((nth ((nth (t.st) (s))) (i))).1)),(iV (((nth ((nth (t.st) (s))) (i))).2))]])∧True) ?_ ?_
 ·
  refine R_fk rfl rfl (R_lk rfl rfl rfl rfl (R_mv rfl (R_idx (i:=s) (@rfl V (intss t.nx)) (@rfl V (iV ((s:Nat):Int))) (by omega) rfl (R_load_pp rfl rfl (R_mv rfl (R_idx (i:=i) (@rfl V (ints ((nth (t.nx) (s))))) (@rfl V (iV ((i:Nat):Int))) (by omega) rfl (R_load_pp rfl rfl ?_)))))))
  refine R_lss rfl rfl (R_mv rfl ?_)
  refine Ops_seg 13 (fun T H=>T 1=(iV ((s:Nat):Int))∧T 2=(iV ((i:Nat):Int))∧T 3=(V.mp 3 1 0 0)∧T 7=(V.mp 7 1 0 0)∧T 38=(V.bool (decide ((((nth ((nth (t.nx) (s))) (i))) < (0:Int))∨(((t.nx.length:Nat):Int)≤((nth ((nth (t.nx) (s))) (i)))))))∧H 3=(bk 1 29 6 [[(iV (t.i)),(iV (t.tm)),(iV (t.s)),(intss t.nx),(intss t.ot),(V.sl (List.map cSr (t.st)))]])∧H 7=(bk 1 73 2 [[(iV (((nth ((nth (t.st) (s))) (i))).1)),(iV (((nth ((nth (t.st) (s))) (i))).2))]])∧True) ?_ ?_
  ·
   by_cases g1:((nth ((nth (t.nx) (s))) (i))) < (0:Int)
   ·
    refine G_n (edT g1 rfl) (G_n (edT g1 rfl) (G_n (edT g1 rfl) (G_n (edT g1 rfl) (G_n (edT g1 rfl) (G_n (edT g1 rfl) (G_n (edT g1 rfl) (G_n (edT g1 rfl) ?_)))))))
    refine G_n (edT g1 rfl) (G_n (edT g1 rfl) (G_n (edT g1 rfl) (G_n (edT g1 rfl) (R_pickT (edT g1 rfl) rfl ?_))))
    exact ⟨rfl,rfl,rfl,rfl,(dec_orT g1),rfl,rfl,trivial⟩
   ·
    refine G_yes (edF g1 rfl) (R_fk rfl rfl (G_yes (edF g1 rfl) (R_lk rfl rfl rfl rfl (G_yes (edF g1 rfl) (R_mv rfl (G_yes (edF g1 rfl) (R_idx (i:=s) (@rfl V (intss t.nx)) (@rfl V (iV ((s:Nat):Int))) (by omega) rfl ?_)))))))
    refine G_yes (edF g1 rfl) (R_load_pp rfl rfl (G_yes (edF g1 rfl) (R_mv rfl (G_yes (edF g1 rfl) (R_idx (i:=i) (@rfl V (ints ((nth (t.nx) (s))))) (@rfl V (iV ((i:Nat):Int))) (by omega) rfl (G_yes (edF g1 rfl) (R_load_pp rfl rfl ?_)))))))
    refine G_yes (edF g1 rfl) (R_fk rfl rfl (G_yes (edF g1 rfl) (R_lk rfl rfl rfl rfl (G_yes (edF g1 rfl) (R_len rfl (G_yes (edF g1 rfl) (R_geq rfl rfl ?_)))))))
    refine R_pickF (edF g1 rfl) rfl ?_
    exact ⟨rfl,rfl,rfl,rfl,(dec_orF g1),rfl,rfl,trivial⟩
  intro T H ⟨t1,t2,t3,t7,t38,h3,h7,_⟩
  refine R_mv t38 ?_
  refine Ops_seg 10 (fun T H=>T 1=(iV ((s:Nat):Int))∧T 2=(iV ((i:Nat):Int))∧T 3=(V.mp 3 1 0 0)∧T 7=(V.mp 7 1 0 0)∧T 49=(V.bool (decide (((((nth ((nth (t.nx) (s))) (i))) < (0:Int))∨(((t.nx.length:Nat):Int)≤((nth ((nth (t.nx) (s))) (i)))))∨(((nth ((nth (t.ot) (s))) (i))) < (0:Int)))))∧H 3=(bk 1 29 6 [[(iV (t.i)),(iV (t.tm)),(iV (t.s)),(intss t.nx),(intss t.ot),(V.sl (List.map cSr (t.st)))]])∧H 7=(bk 1 73 2 [[(iV (((nth ((nth (t.st) (s))) (i))).1)),(iV (((nth ((nth (t.st) (s))) (i))).2))]])∧True) ?_ ?_
  ·
   by_cases g2:(((nth ((nth (t.nx) (s))) (i))) < (0:Int))∨(((t.nx.length:Nat):Int)≤((nth ((nth (t.nx) (s))) (i))))
   ·
    refine G_n (edT g2 rfl) (G_n (edT g2 rfl) (G_n (edT g2 rfl) (G_n (edT g2 rfl) (G_n (edT g2 rfl) (G_n (edT g2 rfl) (G_n (edT g2 rfl) (G_n (edT g2 rfl) ?_)))))))
    refine G_n (edT g2 rfl) (R_pickT (edT g2 rfl) rfl ?_)
    exact ⟨t1,t2,t3,t7,(dec_orT g2),h3,h7,trivial⟩
   ·
    refine G_yes (edF g2 rfl) (R_fk t3 h3 (G_yes (edF g2 rfl) (R_lk rfl h3 rfl rfl (G_yes (edF g2 rfl) (R_mv t1 (G_yes (edF g2 rfl) (R_idx (i:=s) (@rfl V (intss t.ot)) (@rfl V (iV ((s:Nat):Int))) (by omega) rfl ?_)))))))
    refine G_yes (edF g2 rfl) (R_load_pp rfl rfl (G_yes (edF g2 rfl) (R_mv t2 (G_yes (edF g2 rfl) (R_idx (i:=i) (@rfl V (ints ((nth (t.ot) (s))))) (@rfl V (iV ((i:Nat):Int))) (by omega) rfl (G_yes (edF g2 rfl) (R_load_pp rfl rfl ?_)))))))
    refine G_yes (edF g2 rfl) (R_lss rfl rfl (R_pickF (edF g2 rfl) rfl ?_))
    exact ⟨t1,t2,t3,t7,(dec_orF g2),h3,h7,trivial⟩
  intro T H ⟨t1,t2,t3,t7,t49,h3,h7,_⟩
  refine R_mv t49 ?_
  refine Ops_seg 10 (fun T H=>T 3=(V.mp 3 1 0 0)∧T 7=(V.mp 7 1 0 0)∧T 60=(V.bool (decide ((((((nth ((nth (t.nx) (s))) (i))) < (0:Int))∨(((t.nx.length:Nat):Int)≤((nth ((nth (t.nx) (s))) (i)))))∨(((nth ((nth (t.ot) (s))) (i))) < (0:Int)))∨((1048576:Int) < ((nth ((nth (t.ot) (s))) (i)))))))∧H 3=(bk 1 29 6 [[(iV (t.i)),(iV (t.tm)),(iV (t.s)),(intss t.nx),(intss t.ot),(V.sl (List.map cSr (t.st)))]])∧H 7=(bk 1 73 2 [[(iV (((nth ((nth (t.st) (s))) (i))).1)),(iV (((nth ((nth (t.st) (s))) (i))).2))]])∧True) ?_ ?_
  ·
   by_cases g3:((((nth ((nth (t.nx) (s))) (i))) < (0:Int))∨(((t.nx.length:Nat):Int)≤((nth ((nth (t.nx) (s))) (i)))))∨(((nth ((nth (t.ot) (s))) (i))) < (0:Int))
   ·
    refine G_n (edT g3 rfl) (G_n (edT g3 rfl) (G_n (edT g3 rfl) (G_n (edT g3 rfl) (G_n (edT g3 rfl) (G_n (edT g3 rfl) (G_n (edT g3 rfl) (G_n (edT g3 rfl) ?_)))))))
    refine G_n (edT g3 rfl) (R_pickT (edT g3 rfl) rfl ?_)
    exact ⟨t3,t7,(dec_orT g3),h3,h7,trivial⟩
   ·
    refine G_yes (edF g3 rfl) (R_fk t3 h3 (G_yes (edF g3 rfl) (R_lk rfl h3 rfl rfl (G_yes (edF g3 rfl) (R_mv t1 (G_yes (edF g3 rfl) (R_idx (i:=s) (@rfl V (intss t.ot)) (@rfl V (iV ((s:Nat):Int))) (by omega) rfl ?_)))))))
    refine G_yes (edF g3 rfl) (R_load_pp rfl rfl (G_yes (edF g3 rfl) (R_mv t2 (G_yes (edF g3 rfl) (R_idx (i:=i) (@rfl V (ints ((nth (t.ot) (s))))) (@rfl V (iV ((i:Nat):Int))) (by omega) rfl (G_yes (edF g3 rfl) (R_load_pp rfl rfl ?_)))))))
    refine G_yes (edF g3 rfl) (R_gtr rfl rfl (R_pickF (edF g3 rfl) rfl ?_))
    exact ⟨t3,t7,(dec_orF g3),h3,h7,trivial⟩
  intro T H ⟨t3,t7,t60,h3,h7,_⟩
  exact R_nil ⟨t3,t7,t60,h3,h7,trivial⟩
 intro T H ⟨t3,t7,t60,h3,h7,_⟩
 refine W_seq_if t60 (fun c4=>?_) fun c4=>?_
 ·
  refine W_seq_seq (W_r (R_mv rfl (R_e (W_seq_ret ?_))))
  refine Ret_1 (@rfl V (iV (2:Int))) (fz_int ?_)
  · unfold symE tSt; rw [if_pos (by omega)]
 refine W_seq_skip (W_seq_seq (W_r (R_fk t7 h7 (R_lk rfl h7 rfl rfl (R_lss rfl rfl (R_mv rfl ?_))))))
 refine Ops_seg 6 (fun T H=>T 7=(V.mp 7 1 0 0)∧T 70=(V.bool (decide (((((nth ((nth (t.st) (s))) (i))).1) < (-1:Int))∨((t.tm)≤(((nth ((nth (t.st) (s))) (i))).1)))))∧H 3=(bk 1 29 6 [[(iV (t.i)),(iV (t.tm)),(iV (t.s)),(intss t.nx),(intss t.ot),(V.sl (List.map cSr (t.st)))]])∧H 7=(bk 1 73 2 [[(iV (((nth ((nth (t.st) (s))) (i))).1)),(iV (((nth ((nth (t.st) (s))) (i))).2))]])∧True) ?_ ?_
 ·
  by_cases g5:(((nth ((nth (t.st) (s))) (i))).1) < (-1:Int)
  ·
   refine G_n (edT g5 rfl) (G_n (edT g5 rfl) (G_n (edT g5 rfl) (G_n (edT g5 rfl) (G_n (edT g5 rfl) (R_pickT (edT g5 rfl) rfl ?_)))))
   exact ⟨t7,(dec_orT g5),h3,h7,trivial⟩
  ·
   refine G_yes (edF g5 rfl) (R_fk t7 h7 (G_yes (edF g5 rfl) (R_lk rfl h7 rfl rfl (G_yes (edF g5 rfl) (R_fk t3 h3 (G_yes (edF g5 rfl) (R_lk rfl h3 rfl rfl ?_)))))))
   refine G_yes (edF g5 rfl) (R_geq rfl rfl (R_pickF (edF g5 rfl) rfl ?_))
   exact ⟨t7,(dec_orF g5),h3,h7,trivial⟩
 intro T H ⟨t7,t70,h3,h7,_⟩
 refine R_mv t70 ?_
 refine Ops_seg 4 (fun T H=>T 7=(V.mp 7 1 0 0)∧T 75=(V.bool (decide ((((((nth ((nth (t.st) (s))) (i))).1) < (-1:Int))∨((t.tm)≤(((nth ((nth (t.st) (s))) (i))).1)))∨((((nth ((nth (t.st) (s))) (i))).2) < (0:Int)))))∧H 3=(bk 1 29 6 [[(iV (t.i)),(iV (t.tm)),(iV (t.s)),(intss t.nx),(intss t.ot),(V.sl (List.map cSr (t.st)))]])∧H 7=(bk 1 73 2 [[(iV (((nth ((nth (t.st) (s))) (i))).1)),(iV (((nth ((nth (t.st) (s))) (i))).2))]])∧True) ?_ ?_
 ·
  by_cases g6:((((nth ((nth (t.st) (s))) (i))).1) < (-1:Int))∨((t.tm)≤(((nth ((nth (t.st) (s))) (i))).1))
  ·
   refine G_n (edT g6 rfl) (G_n (edT g6 rfl) (G_n (edT g6 rfl) (R_pickT (edT g6 rfl) rfl ?_)))
   exact ⟨t7,(dec_orT g6),h3,h7,trivial⟩
  ·
   refine G_yes (edF g6 rfl) (R_fk t7 h7 (G_yes (edF g6 rfl) (R_lk rfl h7 rfl rfl (G_yes (edF g6 rfl) (R_lss rfl rfl (R_pickF (edF g6 rfl) rfl ?_))))))
   exact ⟨t7,(dec_orF g6),h3,h7,trivial⟩
 intro T H ⟨t7,t75,h3,h7,_⟩
 refine R_mv t75 ?_
 refine Ops_seg 4 (fun T H=>T 7=(V.mp 7 1 0 0)∧T 80=(V.bool (decide (((((((nth ((nth (t.st) (s))) (i))).1) < (-1:Int))∨((t.tm)≤(((nth ((nth (t.st) (s))) (i))).1)))∨((((nth ((nth (t.st) (s))) (i))).2) < (0:Int)))∨((1000:Int) < (((nth ((nth (t.st) (s))) (i))).2)))))∧H 3=(bk 1 29 6 [[(iV (t.i)),(iV (t.tm)),(iV (t.s)),(intss t.nx),(intss t.ot),(V.sl (List.map cSr (t.st)))]])∧H 7=(bk 1 73 2 [[(iV (((nth ((nth (t.st) (s))) (i))).1)),(iV (((nth ((nth (t.st) (s))) (i))).2))]])∧True) ?_ ?_
 ·
  by_cases g7:(((((nth ((nth (t.st) (s))) (i))).1) < (-1:Int))∨((t.tm)≤(((nth ((nth (t.st) (s))) (i))).1)))∨((((nth ((nth (t.st) (s))) (i))).2) < (0:Int))
  ·
   refine G_n (edT g7 rfl) (G_n (edT g7 rfl) (G_n (edT g7 rfl) (R_pickT (edT g7 rfl) rfl ?_)))
   exact ⟨t7,(dec_orT g7),h3,h7,trivial⟩
  ·
   refine G_yes (edF g7 rfl) (R_fk t7 h7 (G_yes (edF g7 rfl) (R_lk rfl h7 rfl rfl (G_yes (edF g7 rfl) (R_gtr rfl rfl (R_pickF (edF g7 rfl) rfl ?_))))))
   exact ⟨t7,(dec_orF g7),h3,h7,trivial⟩
 intro T H ⟨t7,t80,h3,h7,_⟩
 refine R_e ?_
 refine W_seq_if t80 (fun c8=>?_) fun c8=>?_
 ·
  refine W_seq_seq (W_r (R_mv rfl (R_e (W_seq_ret ?_))))
  refine Ret_1 (@rfl V (iV (2:Int))) (fz_int ?_)
  · unfold symE tSt; rw [if_neg (by omega),if_pos (by omega)]
 refine W_seq_skip (W_seq_seq (W_r (R_fk t7 h7 (R_lk rfl h7 rfl rfl (R_eql rfl rfl (R_mv rfl ?_))))))
 refine Ops_seg 4 (fun T H=>T 88=(V.bool (decide (((((nth ((nth (t.st) (s))) (i))).1)=(-1:Int))∧((((nth ((nth (t.st) (s))) (i))).2)≠(0:Int)))))∧H 3=(bk 1 29 6 [[(iV (t.i)),(iV (t.tm)),(iV (t.s)),(intss t.nx),(intss t.ot),(V.sl (List.map cSr (t.st)))]])∧H 7=(bk 1 73 2 [[(iV (((nth ((nth (t.st) (s))) (i))).1)),(iV (((nth ((nth (t.st) (s))) (i))).2))]])∧True) ?_ ?_
 ·
  by_cases g9:(((nth ((nth (t.st) (s))) (i))).1)=(-1:Int)
  ·
   refine G_yes (edT g9 rfl) (R_fk t7 h7 (G_yes (edT g9 rfl) (R_lk rfl h7 rfl rfl (G_yes (edT g9 rfl) (R_neq rfl rfl (R_pickT (edT g9 rfl) rfl ?_))))))
   exact ⟨(dec_andT g9),h3,h7,trivial⟩
  ·
   refine G_n (edF g9 rfl) (G_n (edF g9 rfl) (G_n (edF g9 rfl) (R_pickF (edF g9 rfl) rfl ?_)))
   exact ⟨(dec_andF g9),h3,h7,trivial⟩
 intro T H ⟨t88,h3,h7,_⟩
 refine R_e ?_
 refine W_seq_if t88 (fun c10=>?_) fun c10=>?_
 ·
  refine W_seq_seq (W_r (R_mv rfl (R_e (W_seq_ret ?_))))
  refine Ret_1 (@rfl V (iV (1:Int))) (fz_int ?_)
  · unfold symE tSt; rw [if_neg (by omega),if_neg (by omega),if_pos (by assumption)]
 refine W_seq_skip (W_r (R_mv rfl (R_e (W_ret ?_))))
 refine Ret_1 (@rfl V (iV (0:Int))) (fz_int ?_)
 · unfold symE tSt; rw [if_neg (by omega),if_neg (by omega),if_neg (by assumption)]
theorem rtvalid_pure (t:TM):PureC Tryz.prog 26 [(V.agg [(iV (t.i)),(iV (t.tm)),(iV (t.s)),(intss t.nx),(intss t.ot),(V.sl (List.map cSr (t.st)))])] (iV (tval t)):=by
 refine pW Tryz.func26 s26_ok fun hB=>?_
 unfold s26
 dsimp only
 refine W_r (R_box (i:=1) (n:=0) (m:=6) (cs:=[(iV (t.i)),(iV (t.tm)),(iV (t.s)),(intss t.nx),(intss t.ot),(V.sl (List.map cSr (t.st)))]) rfl (congrArg Blk.ver rfl) rfl rfl rfl (R_mv rfl (R_e (W_seq_seq (W_r (R_fk rfl rfl (R_lk rfl rfl rfl rfl ?_)))))))
 refine R_lss rfl rfl (R_mv rfl ?_)
 refine Ops_seg 4 (fun T H=>T 1=(V.mp 1 1 0 0)∧T 14=(V.bool (decide (((t.i) < (1:Int))∨((64:Int) < (t.i)))))∧H 1=(bk 1 29 6 [[(iV (t.i)),(iV (t.tm)),(iV (t.s)),(intss t.nx),(intss t.ot),(V.sl (List.map cSr (t.st)))]])∧True) ?_ ?_
 ·
  by_cases g1:(t.i) < (1:Int)
  ·
   refine G_n (edT g1 rfl) (G_n (edT g1 rfl) (G_n (edT g1 rfl) (R_pickT (edT g1 rfl) rfl ?_)))
   exact ⟨rfl,(dec_orT g1),rfl,trivial⟩
  ·
   refine G_yes (edF g1 rfl) (R_fk rfl rfl (G_yes (edF g1 rfl) (R_lk rfl rfl rfl rfl (G_yes (edF g1 rfl) (R_gtr rfl rfl (R_pickF (edF g1 rfl) rfl ?_))))))
   exact ⟨rfl,(dec_orF g1),rfl,trivial⟩
 intro T H ⟨t1,t14,h1,_⟩
 refine R_mv t14 ?_
 refine Ops_seg 4 (fun T H=>T 1=(V.mp 1 1 0 0)∧T 19=(V.bool (decide ((((t.i) < (1:Int))∨((64:Int) < (t.i)))∨((t.tm) < (0:Int)))))∧H 1=(bk 1 29 6 [[(iV (t.i)),(iV (t.tm)),(iV (t.s)),(intss t.nx),(intss t.ot),(V.sl (List.map cSr (t.st)))]])∧True) ?_ ?_
 ·
  by_cases g2:((t.i) < (1:Int))∨((64:Int) < (t.i))
  ·
   refine G_n (edT g2 rfl) (G_n (edT g2 rfl) (G_n (edT g2 rfl) (R_pickT (edT g2 rfl) rfl ?_)))
   exact ⟨t1,(dec_orT g2),h1,trivial⟩
  ·
   refine G_yes (edF g2 rfl) (R_fk t1 h1 (G_yes (edF g2 rfl) (R_lk rfl h1 rfl rfl (G_yes (edF g2 rfl) (R_lss rfl rfl (R_pickF (edF g2 rfl) rfl ?_))))))
   exact ⟨t1,(dec_orF g2),h1,trivial⟩
 intro T H ⟨t1,t19,h1,_⟩
 refine R_mv t19 ?_
 refine Ops_seg 4 (fun T H=>T 1=(V.mp 1 1 0 0)∧T 24=(V.bool (decide (((((t.i) < (1:Int))∨((64:Int) < (t.i)))∨((t.tm) < (0:Int)))∨((4:Int) < (t.tm)))))∧H 1=(bk 1 29 6 [[(iV (t.i)),(iV (t.tm)),(iV (t.s)),(intss t.nx),(intss t.ot),(V.sl (List.map cSr (t.st)))]])∧True) ?_ ?_
 ·
  by_cases g3:(((t.i) < (1:Int))∨((64:Int) < (t.i)))∨((t.tm) < (0:Int))
  ·
   refine G_n (edT g3 rfl) (G_n (edT g3 rfl) (G_n (edT g3 rfl) (R_pickT (edT g3 rfl) rfl ?_)))
   exact ⟨t1,(dec_orT g3),h1,trivial⟩
  ·
   refine G_yes (edF g3 rfl) (R_fk t1 h1 (G_yes (edF g3 rfl) (R_lk rfl h1 rfl rfl (G_yes (edF g3 rfl) (R_gtr rfl rfl (R_pickF (edF g3 rfl) rfl ?_))))))
   exact ⟨t1,(dec_orF g3),h1,trivial⟩
 intro T H ⟨t1,t24,h1,_⟩
 refine R_e ?_
 refine W_seq_if t24 (fun c4=>?_) fun c4=>?_
 ·
  refine W_seq_seq (W_r (R_mv rfl (R_e (W_seq_ret ?_))))
  refine Ret_1 (@rfl V (iV (2:Int))) (fz_int ?_)
  · rw [tval,if_pos (by omega)]
 refine W_seq_skip (W_r (R_fk t1 h1 (R_lk rfl h1 rfl rfl (R_fk t1 h1 (R_lk rfl h1 rfl rfl (R_add rfl rfl (by omega) (by omega) (R_mv rfl ?_)))))))
 refine R_e (W_seq_seq (W_r (R_mv rfl (R_gtr rfl rfl (R_e ?_)))))
 refine W_seq_if rfl (fun c5=>?_) fun c5=>?_
 ·
  refine W_seq_seq (W_r (R_mv rfl (R_e (W_seq_ret ?_))))
  refine Ret_1 (@rfl V (iV (11:Int))) (fz_int ?_)
  · rw [tval,if_neg (by omega),if_pos (by omega)]
 refine W_seq_skip (W_seq_seq (W_r (R_fk t1 h1 (R_lk rfl h1 rfl rfl (R_len rfl (R_eql rfl rfl (R_e ?_)))))))
 refine W_seq_if rfl (fun c6=>?_) fun c6=>?_
 ·
  refine W_seq_seq (W_r (R_mv rfl (R_e (W_seq_ret ?_))))
  refine Ret_1 (@rfl V (iV (19:Int))) (fz_int ?_)
  · rw [tval,if_neg (by omega),if_neg (by omega),if_pos (by omega)]
 refine W_seq_skip (W_seq_seq (W_r (R_fk t1 h1 (R_lk rfl h1 rfl rfl (R_len rfl (R_gtr rfl rfl (R_e ?_)))))))
 refine W_seq_if rfl (fun c7=>?_) fun c7=>?_
 ·
  refine W_seq_seq (W_r (R_mv rfl (R_e (W_seq_ret ?_))))
  refine Ret_1 (@rfl V (iV (11:Int))) (fz_int ?_)
  · rw [tval,if_neg (by omega),if_neg (by omega),if_neg (by omega),if_pos (by omega)]
 refine W_seq_skip (W_seq_seq ?_)
 refine W_seq_regc (fun T H=>T 1=(V.mp 1 1 0 0)∧T 3=(iV ((t.i)+(t.tm)))∧T 50=(V.bool (decide (((t.s) < (0:Int))∨(((t.nx.length:Nat):Int)≤(t.s)))))∧H 1=(bk 1 29 6 [[(iV (t.i)),(iV (t.tm)),(iV (t.s)),(intss t.nx),(intss t.ot),(V.sl (List.map cSr (t.st)))]])∧True) ?_ ?_
 ·
  refine R_fk t1 h1 (R_lk rfl h1 rfl rfl (R_lss rfl rfl (R_mv rfl ?_)))
  refine Ops_seg 7 (fun T H=>T 1=(V.mp 1 1 0 0)∧T 3=(iV ((t.i)+(t.tm)))∧T 50=(V.bool (decide (((t.s) < (0:Int))∨(((t.nx.length:Nat):Int)≤(t.s)))))∧H 1=(bk 1 29 6 [[(iV (t.i)),(iV (t.tm)),(iV (t.s)),(intss t.nx),(intss t.ot),(V.sl (List.map cSr (t.st)))]])∧True) ?_ ?_
  ·
   by_cases g8:(t.s) < (0:Int)
   ·
    refine G_n (edT g8 rfl) (G_n (edT g8 rfl) (G_n (edT g8 rfl) (G_n (edT g8 rfl) (G_n (edT g8 rfl) (G_n (edT g8 rfl) (R_pickT (edT g8 rfl) rfl ?_))))))
    exact ⟨t1,rfl,(dec_orT g8),h1,trivial⟩
   ·
    refine G_yes (edF g8 rfl) (R_fk t1 h1 (G_yes (edF g8 rfl) (R_lk rfl h1 rfl rfl (G_yes (edF g8 rfl) (R_fk t1 h1 (G_yes (edF g8 rfl) (R_lk rfl h1 rfl rfl ?_)))))))
    refine G_yes (edF g8 rfl) (R_len rfl (G_yes (edF g8 rfl) (R_geq rfl rfl (R_pickF (edF g8 rfl) rfl ?_))))
    exact ⟨t1,rfl,(dec_orF g8),h1,trivial⟩
  intro T H ⟨t1,t3,t50,h1,_⟩
  exact R_nil ⟨t1,t3,t50,h1,trivial⟩
 intro T H ⟨t1,t3,t50,h1,_⟩
 refine W_seq_if t50 (fun c9=>?_) fun c9=>?_
 ·
  refine W_seq_seq (W_r (R_mv rfl (R_e (W_seq_ret ?_))))
  refine Ret_1 (@rfl V (iV (2:Int))) (fz_int ?_)
  · rw [tval,if_neg (by omega),if_neg (by omega),if_neg (by omega),if_neg (by omega),if_pos (by omega)]
 refine W_seq_skip (W_seq_seq (W_r (R_fk t1 h1 (R_lk rfl h1 rfl rfl (R_len rfl (R_fk t1 h1 (R_lk rfl h1 rfl rfl ?_)))))))
 refine R_len rfl (R_neq rfl rfl (R_mv rfl ?_))
 refine Ops_seg 8 (fun T H=>T 1=(V.mp 1 1 0 0)∧T 3=(iV ((t.i)+(t.tm)))∧T 66=(V.bool (decide ((((t.ot.length:Nat):Int)≠((t.nx.length:Nat):Int))∨(((t.st.length:Nat):Int)≠((t.nx.length:Nat):Int)))))∧H 1=(bk 1 29 6 [[(iV (t.i)),(iV (t.tm)),(iV (t.s)),(intss t.nx),(intss t.ot),(V.sl (List.map cSr (t.st)))]])∧True) ?_ ?_
 ·
  by_cases g10:((t.ot.length:Nat):Int)≠((t.nx.length:Nat):Int)
  ·
   refine G_n (edT g10 rfl) (G_n (edT g10 rfl) (G_n (edT g10 rfl) (G_n (edT g10 rfl) (G_n (edT g10 rfl) (G_n (edT g10 rfl) (G_n (edT g10 rfl) (R_pickT (edT g10 rfl) rfl ?_)))))))
   exact ⟨t1,t3,(dec_orT g10),h1,trivial⟩
  ·
   refine G_yes (edF g10 rfl) (R_fk t1 h1 (G_yes (edF g10 rfl) (R_lk rfl h1 rfl rfl (G_yes (edF g10 rfl) (R_len rfl (G_yes (edF g10 rfl) (R_fk t1 h1 ?_)))))))
   refine G_yes (edF g10 rfl) (R_lk rfl h1 rfl rfl (G_yes (edF g10 rfl) (R_len rfl (G_yes (edF g10 rfl) (R_neq rfl rfl (R_pickF (edF g10 rfl) rfl ?_))))))
   exact ⟨t1,t3,(dec_orF g10),h1,trivial⟩
 intro T H ⟨t1,t3,t66,h1,_⟩
 refine R_e ?_
 refine W_seq_if t66 (fun c11=>?_) fun c11=>?_
 ·
  refine W_seq_seq (W_r (R_mv rfl (R_e (W_seq_ret ?_))))
  refine Ret_1 (@rfl V (iV (1:Int))) (fz_int ?_)
  · rw [tval,if_neg (by omega),if_neg (by omega),if_neg (by omega),if_neg (by omega),if_neg (by omega),if_pos (by omega)]
 refine W_seq_skip (W_seq_seq (W_r (R_mv rfl (R_e (W_seq_blockg fun Q12 n12 x12 y12 z12=>?_)))))
 refine W_loop (fun mm T H=> ∃ (k:Nat),mm=t.nx.length - k∧T 1=(V.mp 1 1 0 0)∧T 3=(iV ((t.i)+(t.tm)))∧T 4=(iV ((k:Nat):Int))∧H 1=(bk 1 29 6 [[(iV (t.i)),(iV (t.tm)),(iV (t.s)),(intss t.nx),(intss t.ot),(V.sl (List.map cSr (t.st)))]])∧(k≤t.nx.length)∧(1≤t.i∧t.i≤64∧0≤t.tm∧t.tm≤4∧t.i+t.tm≤64∧0 < t.nx.length∧t.nx.length≤128∧t.ot.length=t.nx.length∧t.st.length=t.nx.length)∧(tval t=fe (rowT t) k (t.nx.length - k))) ?_ ?_
 ·
  refine ⟨_,0,rfl,t1,t3,(Eq.trans (@rfl V (iV (0:Int))) rfl),h1,?_,?_,?_⟩
  · exact Nat.zero_le _
  · omega
  · rw [tval,if_neg (by omega),if_neg (by omega),if_neg (by omega),if_neg (by omega),if_neg (by omega),if_neg (by omega)]; rfl
 intro mm T H ⟨k,hmm,t1,t3,t4,h1,hk,hv,hc⟩ Q13 p113 p213 p313
 unfold b26_0
 refine W_seq_seq (W_r (R_mv t4 (R_fk t1 h1 (R_lk rfl h1 rfl rfl (R_len rfl (R_lss rfl rfl (R_e ?_)))))))
 refine W_seq_if rfl (fun c14=>?_) fun c14=>?_
 ·
  refine W_seq_skip (W_seq_blockg fun Q15 n15 x15 y15 z15=>(W_seq_seq (W_r (R_fk t1 h1 (R_lk rfl h1 rfl rfl (R_mv t4 (R_idx (i:=k) (@rfl V (intss t.nx)) (@rfl V (iV ((k:Nat):Int))) (by omega) rfl ?_)))))))
  refine R_load_pp rfl rfl (R_len rfl (R_mv t3 (R_neq rfl rfl (R_mv rfl ?_))))
  refine Ops_seg 9 (fun T H=>T 1=(V.mp 1 1 0 0)∧T 3=(iV ((t.i)+(t.tm)))∧T 4=(iV ((k:Nat):Int))∧T 91=(V.bool (decide ((((((nth (t.nx) (k))).length:Nat):Int)≠((t.i)+(t.tm)))∨(((((nth (t.ot) (k))).length:Nat):Int)≠((t.i)+(t.tm))))))∧H 1=(bk 1 29 6 [[(iV (t.i)),(iV (t.tm)),(iV (t.s)),(intss t.nx),(intss t.ot),(V.sl (List.map cSr (t.st)))]])∧True) ?_ ?_
  ·
   by_cases g16:((((nth (t.nx) (k))).length:Nat):Int)≠((t.i)+(t.tm))
   ·
    refine G_n (edT g16 rfl) (G_n (edT g16 rfl) (G_n (edT g16 rfl) (G_n (edT g16 rfl) (G_n (edT g16 rfl) (G_n (edT g16 rfl) (G_n (edT g16 rfl) (G_n (edT g16 rfl) ?_)))))))
    refine R_pickT (edT g16 rfl) rfl ?_
    exact ⟨t1,t3,t4,(dec_orT g16),h1,trivial⟩
   ·
    refine G_yes (edF g16 rfl) (R_fk t1 h1 (G_yes (edF g16 rfl) (R_lk rfl h1 rfl rfl (G_yes (edF g16 rfl) (R_mv t4 (G_yes (edF g16 rfl) (R_idx (i:=k) (@rfl V (intss t.ot)) (@rfl V (iV ((k:Nat):Int))) (by omega) rfl ?_)))))))
    refine G_yes (edF g16 rfl) (R_load_pp rfl rfl (G_yes (edF g16 rfl) (R_len rfl (G_yes (edF g16 rfl) (R_mv t3 (G_yes (edF g16 rfl) (R_neq rfl rfl ?_)))))))
    refine R_pickF (edF g16 rfl) rfl ?_
    exact ⟨t1,t3,t4,(dec_orF g16),h1,trivial⟩
  intro T H ⟨t1,t3,t4,t91,h1,_⟩
  refine R_mv t91 ?_
  refine Ops_seg 9 (fun T H=>T 1=(V.mp 1 1 0 0)∧T 3=(iV ((t.i)+(t.tm)))∧T 4=(iV ((k:Nat):Int))∧T 101=(V.bool (decide (((((((nth (t.nx) (k))).length:Nat):Int)≠((t.i)+(t.tm)))∨(((((nth (t.ot) (k))).length:Nat):Int)≠((t.i)+(t.tm))))∨(((((nth (t.st) (k))).length:Nat):Int)≠((t.i)+(t.tm))))))∧H 1=(bk 1 29 6 [[(iV (t.i)),(iV (t.tm)),(iV (t.s)),(intss t.nx),(intss t.ot),(V.sl (List.map cSr (t.st)))]])∧True) ?_ ?_
  ·
   by_cases g17:(((((nth (t.nx) (k))).length:Nat):Int)≠((t.i)+(t.tm)))∨(((((nth (t.ot) (k))).length:Nat):Int)≠((t.i)+(t.tm)))
   ·
    refine G_n (edT g17 rfl) (G_n (edT g17 rfl) (G_n (edT g17 rfl) (G_n (edT g17 rfl) (G_n (edT g17 rfl) (G_n (edT g17 rfl) (G_n (edT g17 rfl) (G_n (edT g17 rfl) ?_)))))))
    refine R_pickT (edT g17 rfl) rfl ?_
    exact ⟨t1,t3,t4,(dec_orT g17),h1,trivial⟩
   ·
    refine G_yes (edF g17 rfl) (R_fk t1 h1 (G_yes (edF g17 rfl) (R_lk rfl h1 rfl rfl (G_yes (edF g17 rfl) (R_mv t4 (G_yes (edF g17 rfl) (R_idx (i:=k) (@rfl V (V.sl (List.map cSr (t.st)))) (@rfl V (iV ((k:Nat):Int))) (by omega) rfl ?_)))))))
    refine G_yes (edF g17 rfl) (R_load_pp rfl rfl (G_yes (edF g17 rfl) (R_len rfl (G_yes (edF g17 rfl) (R_mv t3 (G_yes (edF g17 rfl) (R_neq rfl rfl ?_)))))))
    refine R_pickF (edF g17 rfl) rfl ?_
    exact ⟨t1,t3,t4,(dec_orF g17),h1,trivial⟩
  intro T H ⟨t1,t3,t4,t101,h1,_⟩
  refine R_e ?_
  refine W_seq_if t101 (fun c18=>?_) fun c18=>?_
  ·
   refine W_seq_seq (W_r (R_mv rfl (R_e (W_seq_ret (y15 _ _ (p213 _ _ (y12 _ _ ?_)))))))
   refine Ret_1 (@rfl V (iV (1:Int))) (fz_int ?_)
   · rw [hc,fe_hit (by rw [rowT,if_pos (by omega)]; decide) (by omega),rowT,if_pos (by omega)]
  refine W_seq_skip (W_r (R_mv rfl (R_e (W_block fun Q19 n19 x19 y19 z19=>?_))))
  refine W_loop (fun mm T H=> ∃ (i:Nat),mm=(t.i+t.tm).toNat - i∧T 1=(V.mp 1 1 0 0)∧T 3=(iV ((t.i)+(t.tm)))∧T 4=(iV ((k:Nat):Int))∧T 5=(iV ((i:Nat):Int))∧H 1=(bk 1 29 6 [[(iV (t.i)),(iV (t.tm)),(iV (t.s)),(intss t.nx),(intss t.ot),(V.sl (List.map cSr (t.st)))]])∧(i≤(t.i+t.tm).toNat)∧(((nth t.nx k).length:Int)=t.i+t.tm∧((nth t.ot k).length:Int)=t.i+t.tm∧((nth t.st k).length:Int)=t.i+t.tm)∧(rowT t k=fe (symE t k) i ((t.i+t.tm).toNat - i))) ?_ ?_
  ·
   refine ⟨_,0,rfl,t1,t3,t4,(Eq.trans (@rfl V (iV (0:Int))) rfl),h1,?_,?_,?_⟩
   · exact Nat.zero_le _
   · omega
   · rw [rowT,if_neg (by omega)]; rfl
  intro mm T H ⟨i,hmm,t1,t3,t4,t5,h1,hi,hl,hr⟩ Q20 p120 p220 p320
  unfold b26_1
  refine W_seq_seq (W_r (R_mv t5 (R_mv t3 (R_lss rfl rfl (R_e ?_)))))
  refine W_seq_if rfl (fun c21=>?_) fun c21=>?_
  ·
   refine W_seq_skip (W_seq_blockg fun Q22 n22 x22 y22 z22=>(W_r (R_lk t1 h1 rfl rfl (R_mv t4 (R_mv t5 (R_callk (symb_pure t k i (by omega) (by omega)) rfl (R_mv rfl ?_)))))))
   refine R_e (W_r (R_mv rfl (R_neq rfl rfl (R_e ?_))))
   refine W_if rfl (fun c23=>?_) fun c23=>?_
   ·
    refine W_r (R_mv rfl (R_mv rfl (R_e (W_ret (y22 _ _ (p220 _ _ (y19 _ _ ?_)))))))
    refine y15 _ _ (p213 _ _ (y12 _ _ ?_))
    refine Ret_1 (@rfl V (iV (symE t k i))) (fz_int ?_)
    · rw [hc,fe_hit (by rw [hr,fe_hit (by omega) (by omega)]; omega) (by omega),hr,fe_hit (by omega) (by omega)]
   refine W_skip (n22 _ _ (.done (W_t (R_mv t5 (R_addN rfl (@rfl V (iV ((1:Nat):Int))) (by omega) (R_mv rfl (R_e ?_)))))))
   refine p120 _ _ _ ?_ ⟨(i+1),rfl,t1,t3,t4,(Eq.trans (@rfl V (iV ((i+1:Nat):Int))) (by first|rfl|simp)),h1,?_,?_,?_⟩
   · omega
   · omega
   · exact hl
   · rw [hr,fe_skip (by omega) (by omega)]
  refine W_seq_exit (p320 _ _ _ (x19 _ _ (n15 _ _ (.done (W_t (R_mv t4 (R_addN rfl (@rfl V (iV ((1:Nat):Int))) (by omega) ?_)))))))
  refine R_mv rfl (R_e ?_)
  refine p113 _ _ _ ?_ ⟨(k+1),rfl,t1,t3,(Eq.trans (@rfl V (iV ((k+1:Nat):Int))) (by first|rfl|simp)),h1,?_,?_,?_⟩
  · omega
  · omega
  · exact hv
  · rw [hc,fe_skip (by rw [hr,fe_end (by omega)]) (by omega)]
 refine W_seq_exit (p313 _ _ _ (x12 _ _ (.done (W_r (R_mv rfl (R_e (W_ret ?_)))))))
 refine Ret_1 (@rfl V (iV (0:Int))) (fz_int ?_)
 · rw [hc,fe_end (by omega)]
def r45_1:List SO:=[
 qM 7 2,
 qF 8 0 3,
 ql 9 8,
 qP 10 .lss 7 9,
 qM 11 10,
 ⟨some (11,false),some 12,.fld 1 (.t 4)⟩,
 ⟨some (11,false),some 13,.load false 1 (.t 12)⟩,
 ⟨some (11,false),some 14,.mv (.t 2)⟩,
 ⟨some (11,false),some 15,.fld 0 (.t 3)⟩,
 ⟨some (11,false),some 16,.load false 1 (.t 15)⟩,
 ⟨some (11,false),some 17,.bin .sub (.t 14) (.t 16)⟩,
 ⟨some (11,false),some 18,.idx 1 (.t 13) (.t 17)⟩,
 ⟨some (11,false),some 19,.load false 1 (.t 18)⟩,
 sO 20 (.pick (.t 11) (.c (.bool true)) (.t 19)),
 qM 6 20]
def s45:SF:=⟨21,[.tmp 6],.seq (.reg [sO 3 (.box 29 6 (.t 0)),sO 4 (.box 95 2 (.t 1)),sO 6 (.mv (.c (.bool false)))]) (.seq (.reg r45_1) (.ret))⟩
theorem s45_ok:slimF Tryz.prog ⟨[58,129,130,131,149,155,161,182,183,185,191,192,208,209,210,224,228,231,236],[],[],[]⟩ Tryz.f45=some s45:=by kernel_rfl
theorem poss_pure (t:TM) (c:Cf) (i:Nat) (ht:TOK t) (hc:CfOK t c) (hj:(i:Int) < t.i+t.tm):PureC Tryz.prog 45 [(V.agg [(iV (t.i)),(iV (t.tm)),(iV (t.s)),(intss t.nx),(intss t.ot),(V.sl (List.map cSr (t.st)))]),(V.agg [(iV (c.1)),(V.sl (List.map cB (c.2)))]),(iV ((i:Nat):Int))] (V.bool (psB t c i)):=by
 refine pW Tryz.func45 s45_ok fun hB=>?_
 unfold s45
 dsimp only
 obtain ⟨h1,h2,h3,h4,h5,_⟩:=ht
 have h6:=hc.2.2
 refine W_r (R_box (i:=3) (n:=0) (m:=6) (cs:=[(iV (t.i)),(iV (t.tm)),(iV (t.s)),(intss t.nx),(intss t.ot),(V.sl (List.map cSr (t.st)))]) rfl (congrArg Blk.ver rfl) rfl rfl rfl (R_box (i:=4) (n:=0) (m:=2) (cs:=[(iV (c.1)),(V.sl (List.map cB (c.2)))]) rfl (congrArg Blk.ver rfl) rfl rfl rfl (R_mv rfl (R_e (W_r (R_mv rfl (R_fk rfl rfl ?_)))))))
 refine R_lk rfl rfl rfl rfl (R_lss rfl rfl (R_mv rfl ?_))
 refine Ops_seg 9 (fun T H=>T 20=(V.bool ((decide (((i:Nat):Int) < (t.i))||((nth (c.2) (((i:Nat):Int) - (t.i)).toNat)))))∧H 3=(bk 1 29 6 [[(iV (t.i)),(iV (t.tm)),(iV (t.s)),(intss t.nx),(intss t.ot),(V.sl (List.map cSr (t.st)))]])∧H 4=(bk 1 95 2 [[(iV (c.1)),(V.sl (List.map cB (c.2)))]])∧True) ?_ ?_
 ·
  by_cases g1:((i:Nat):Int) < (t.i)
  ·
   refine G_n (edT g1 rfl) (G_n (edT g1 rfl) (G_n (edT g1 rfl) (G_n (edT g1 rfl) (G_n (edT g1 rfl) (G_n (edT g1 rfl) (G_n (edT g1 rfl) (G_n (edT g1 rfl) ?_)))))))
   refine R_pickT (edT g1 rfl) rfl ?_
   exact ⟨(dborT g1),rfl,rfl,trivial⟩
  ·
   refine G_yes (edF g1 rfl) (R_fk rfl rfl (G_yes (edF g1 rfl) (R_lk rfl rfl rfl rfl (G_yes (edF g1 rfl) (R_mv rfl (G_yes (edF g1 rfl) (R_fk rfl rfl ?_)))))))
   refine G_yes (edF g1 rfl) (R_lk rfl rfl rfl rfl (G_yes (edF g1 rfl) (R_sub rfl rfl (by omega) (by omega) (G_yes (edF g1 rfl) (R_idxI (i:=(((i:Nat):Int) - (t.i))) (@rfl V (V.sl (List.map cB (c.2)))) (@rfl V (iV (((i:Nat):Int) - (t.i)))) (by omega) (by omega) rfl (G_yes (edF g1 rfl) (R_load_pp rfl rfl ?_)))))))
   refine R_pickF (edF g1 rfl) rfl ?_
   exact ⟨(dborF g1),rfl,rfl,trivial⟩
 intro T H ⟨t20,h3,h4,_⟩
 refine R_mv t20 (R_e (W_ret ?_))
 refine Ret_1 (@rfl V (V.bool ((decide (((i:Nat):Int) < (t.i))||((nth (c.2) (((i:Nat):Int) - (t.i)).toNat)))))) (fz_bool ?_)
 · first|rfl|simp [psB]
def r46_1:List SO:=[
 qF 10 3 3,
 ql 11 10,
 qF 12 0 4,
 ql 13 12,
 qA 14 1 11 13,
 ql 15 14,
 qM 16 2,
 qA 17 1 15 16,
 ql 18 17,
 qF 19 1 4,
 ql 20 19,
 sO 21 (.callA 79 [.t 20]),
 sO 22 (.build [.int .i64 0,.nilsl] [(0,1,.t 18),(1,1,.t 21)]),
 sO 8 (.alloc 95 [.int .i64 0,.nilsl]),
 sN (.store 2 (.t 8) (.t 22))]
def r46_3:List SO:=[
 qF 27 1 8,
 ql 28 27,
 qM 29 2,
 qF 30 0 3,
 ql 31 30,
 qP 32 .sub 29 31,
 qA 33 1 28 32,
 sN (.store 1 (.t 33) (.c (.bool false)))]
def r46_4:List SO:=[
 qF 34 5 3,
 ql 35 34,
 qF 36 0 4,
 ql 37 36,
 qA 38 1 35 37,
 ql 39 38,
 qM 40 2,
 qA 41 2 39 40,
 qL 42 2 41,
 sO 9 (.alloc 73 [.int .i64 0,.int .i64 0]),
 sN (.store 2 (.t 9) (.t 42))]
def r46_5:List SO:=[
 qF 43 0 9,
 ql 44 43,
 qC 45 .lss 44 0,
 qM 46 45,
 ⟨some (46,false),some 47,.fld 1 (.t 9)⟩,
 ⟨some (46,false),some 48,.load false 1 (.t 47)⟩,
 ⟨some (46,false),some 49,.bin .eql (.t 48) (.c (.int .i64 0))⟩,
 ⟨some (46,false),some 50,.mv (.t 49)⟩,
 ⟨some (50,true),some 51,.fld 1 (.t 8)⟩,
 ⟨some (50,true),some 52,.load false 1 (.t 51)⟩,
 ⟨some (50,true),some 53,.fld 0 (.t 9)⟩,
 ⟨some (50,true),some 54,.load false 1 (.t 53)⟩,
 ⟨some (50,true),some 55,.idx 1 (.t 52) (.t 54)⟩,
 ⟨some (50,true),some 56,.load false 1 (.t 55)⟩,
 ⟨some (50,true),some 57,.un .not (.t 56)⟩,
 ⟨some (46,false),some 58,.pick (.t 50) (.t 57) (.c (.bool false))⟩,
 sO 59 (.pick (.t 46) (.c (.bool true)) (.t 58))]
def r46_7:List SO:=[
 qF 61 1 8,
 ql 62 61,
 qF 63 0 9,
 ql 64 63,
 qF 65 1 9,
 ql 66 65,
 qC 67 .gtr 66 0,
 qA 68 1 62 64,
 sN (.store 1 (.t 68) (.t 67))]
def r46_8:List SO:=[
 qL 69 2 8,
 qF 70 0 9,
 ql 71 70,
 qC 72 .mul 71 1001,
 sO 73 (.bin .add (.c (.int .i64 1)) (.t 72)),
 qF 74 1 9,
 ql 75 74,
 qP 76 .add 73 75,
 sN (.store 2 (.t 6) (.t 69)),
 qM 7 76]
def s46:SF:=⟨77,[.cell 6 true 2,.tmp 7],.seq (.reg [sO 3 (.box 29 6 (.t 0)),sO 4 (.box 95 2 (.t 1)),sO 6 (.alloc 95 [.int .i64 0,.nilsl]),qI 7 0]) (.seq (.dreg [21,8] r46_1) (.seq (.seq (.reg [qM 23 2,qF 24 0 3,ql 25 24,qP 26 .geq 23 25]) (.cond (.t 26) (.reg r46_3) (.skip))) (.seq (.reg r46_4) (.seq (.seq (.reg r46_5) (.cond (.t 59) (.seq (.reg [qL 60 2 8,sN (.store 2 (.t 6) (.t 60)),qI 7 0]) (.ret)) (.skip))) (.seq (.reg r46_7) (.seq (.xreg [(70,1,6,2),(74,1,6,2)] r46_8) (.ret)))))))⟩
theorem s46_ok:slimF Tryz.prog ⟨[58,129,130,131,149,155,161,182,183,185,191,192,208,209,210,224,228,231,236],[21],[],[]⟩ Tryz.f46=some s46:=by kernel_rfl
def r79_5:List SO:=[
 qM 14 3,
 qM 15 4,
 qM 16 0,
 qM 17 4,
 qA 18 1 16 17,
 ql 19 18,
 qA 20 1 14 15,
 sN (.store 1 (.t 20) (.t 19))]
def b79_0:SC:=.seq (.seq (.reg [qM 8 4,qM 9 0,qN 10 9,qP 11 .lss 8 10]) (.cond (.t 11) (.skip) (.exit 0))) (.seq (.block 1 (.reg r79_5)) (.reg [qM 12 4,qC 13 .add 12 1,qM 4 13]))
def s79:SF:=⟨22,[.tmp 2],.seq (.reg [sO 2 (.mv (.c (.nilsl)))]) (.seq (.reg [qM 5 0,qN 6 5,sO 7 (.mks 4 1 1 [.bool false] (.t 6) (.t 6)),qM 3 7]) (.seq (.seq (.reg [qI 4 0]) (.block 0 (.loop b79_0))) (.seq (.reg [qM 21 3,qM 2 21]) (.ret))))⟩
theorem s79_ok:slimF Tryz.prog ⟨[58,129,130,131,149,155,161,182,183,185,191,192,208,209,210,224,228,231,236],[],[],[]⟩ Tryz.f79=some s79:=by kernel_rfl
end Go.Proofs.YtilfohjlglefjaaGreat
namespace Go.Proofs.YtilfohjlglefjaaGreat
open Go Go.Proofs
attribute [local irreducible] mksV
theorem cpyA (i:Nat) (h7:7≤i) (l:List Bool) (u:Nat) (Hi:Heap) (hq:(Hi i).ver=u) (hl:l.length≤1073741824):CallOK Tryz.prog 79 [(V.sl (List.map cB (l)))] Hi (V.ms i (u+1) 0 (l.length)) (upd Hi i (bk (u+1) 4 1 (List.map cB (l)))):=by
 refine eW (k0:=i - 7) Tryz.func79 s79_ok fun hB=>?_
 unfold s79
 dsimp only
 refine W_r (R_mv rfl (R_e (W_r (R_mv rfl (R_len rfl ?_)))))
 refine (R_mks (i:=i) (n:=u) (m:=l.length) (q:=l.length) (by omega) hq (@rfl V (iV ((l.length:Nat):Int))) (@rfl V (iV ((l.length:Nat):Int))) (by first|omega|(rw [tblP_len]; omega)) (by first|omega|(rw [tblP_len]; omega)) (by first|omega|(rw [tblP_len]; omega)) ?_)
 refine R_mv rfl (R_e (W_seq_seq (W_r (R_mv rfl (R_e (W_seq_blockg fun Q1 n1 x1 y1 z1=>?_))))))
 refine W_loop (fun mm T H=> ∃ (k:Nat),mm=l.length - k∧T 0=(V.sl (List.map cB (l)))∧T 3=(V.ms i (u+1) 0 (l.length))∧T 4=(iV ((k:Nat):Int))∧(∀ j,j∉[i]→H j=Hi j)∧H i=(bk (u+1) 4 1 (List.map cB (tblP (nth l) false l.length k)))∧(k≤l.length)) ?_ ?_
 ·
  refine ⟨_,0,rfl,rfl,rfl,(Eq.trans (@rfl V (iV (0:Int))) rfl),(upd_out (fun _ _=>rfl) (by simp)),(Eq.trans (upd_same _ _ _) (by first|rfl|(rw [← tblP_0,List.map_replicate]; rfl)|(rw [← tblP_go (f:=nth l) (z:=false) (n:=l.length) (j:=k) (by omega)]; first|done|rfl|(rw [List.map_set]; rfl))|(rw [e9]; done)|(rw [e9]; rfl)|simp)),?_⟩
  · exact Nat.zero_le _
 intro mm T H ⟨k,hmm,t0,t3,t4,hF,hi,hk⟩ Q2 p12 p22 p32
 unfold b79_0
 refine W_seq_seq (W_r (R_mv t4 (R_mv t0 (R_len rfl (R_lss rfl rfl (R_e ?_))))))
 refine W_seq_if rfl (fun c3=>?_) fun c3=>?_
 ·
  refine W_seq_skip (W_seq_blockg fun Q4 n4 x4 y4 z4=>(W_t (R_mv t3 (R_mv t4 (R_mv t0 (R_mv t4 (R_idx (i:=k) (@rfl V (V.sl (List.map cB (l)))) (@rfl V (iV ((k:Nat):Int))) (by first|omega|(rw [tblP_len]; omega)) rfl ?_)))))))
  refine R_load_pp rfl rfl (R_idx_ms0 (i:=k) (@rfl V (V.ms i (u+1) 0 (l.length))) (@rfl V (iV ((k:Nat):Int))) hi oB rfl (by first|omega|(rw [tblP_len]; omega)) (R_store (vs:=[(V.bool ((nth (l) (k))))]) (B':=(bk (u+1) 4 1 (List.map cB ((tblP (nth l) false l.length k).set k ((nth (l) (k))))))) rfl rfl rfl hi (stB_map (x:=((nth (l) (k)))) (i:=k) (by first|omega|(rw [tblP_len]; omega)) rfl rfl rfl rfl) (R_e (n4 _ _ (.done (W_t (R_mv t4 ?_)))))))
  refine R_addN rfl (@rfl V (iV ((1:Nat):Int))) (by first|omega|(rw [tblP_len]; omega)) (R_mv rfl (R_e ?_))
  refine p12 _ _ _ ?_ ⟨(k+1),rfl,t0,t3,(Eq.trans (@rfl V (iV ((k+1:Nat):Int))) (by first|rfl|simp)),(upd_out hF (by simp)),(Eq.trans (upd_same _ _ _) (by first|rfl|(rw [← tblP_0,List.map_replicate]; rfl)|(rw [← tblP_go (f:=nth l) (z:=false) (n:=l.length) (j:=k) (by omega)]; first|done|rfl|(rw [List.map_set]; rfl))|(rw [e9]; done)|(rw [e9]; rfl)|simp)),?_⟩
  · omega
  · omega
 have e9:tblP (nth l) false l.length k=l:=tblP_all (by omega)
 refine W_seq_exit (p32 _ _ _ (x1 _ _ (.done (W_r (R_mv t3 (R_mv rfl (R_e ?_)))))))
 refine W_ret (fork_ (R:=fun T H=>T 2=(V.ms i (u+1) 0 (l.length))∧(∀ j,j∉[i]→H j=Hi j)∧H i=(bk (u+1) 4 1 (List.map cB (tblP (nth l) false l.length k)))∧True) ⟨(@rfl V (V.ms i (u+1) 0 (l.length))),hF,hi,trivial⟩ ?_)
 intro T H ⟨t2,hF,hi,_⟩
 have fh:=FinX.fin (FinX.put (B:=(bk (u+1) 4 1 (List.map cB (l)))) (FinX.start hF) hi (FinB.eq (by first|rfl|(rw [← tblP_0,List.map_replicate]; rfl)|(rw [← tblP_go (f:=nth l) (z:=false) (n:=l.length) (j:=k) (by omega)]; first|done|rfl|(rw [List.map_set]; rfl))|(rw [e9]; done)|(rw [e9]; rfl)|simp)))
 exact RetF_1 t2 fh (FinV.trans_eq (FinV.same fh _) rfl)
end Go.Proofs.YtilfohjlglefjaaGreat
namespace Go.Proofs.YtilfohjlglefjaaGreat
open Go Go.Proofs
theorem after_pure (t:TM) (c:Cf) (i:Nat) (ht:TOK t) (hc:CfOK t c) (hj:(i:Int) < t.i+t.tm) (hp:psB t c i=true):PureC Tryz.prog 46 [(V.agg [(iV (t.i)),(iV (t.tm)),(iV (t.s)),(intss t.nx),(intss t.ot),(V.sl (List.map cSr (t.st)))]),(V.agg [(iV (c.1)),(V.sl (List.map cB (c.2)))]),(iV ((i:Nat):Int))] (V.tup [(V.agg [(iV ((afT t c i).1)),(V.sl (List.map cB ((afT t c i).2)))]),(iV (afC t c i))]):=by
 refine pW Tryz.func46 s46_ok fun hB=>?_
 unfold s46
 dsimp only
 obtain ⟨h1,h2,h3,h4,h5,h6,h7,h8,h9,h10,h11,h12⟩:=ht
 have hc1:=hc.1
 have hc2:=hc.2.1
 have hc3:=hc.2.2
 have hr:=h12 c.1.toNat (by omega)
 have hx:=hr.2.2.2 i hj
 unfold tSt at hx
 have l0:=af0_len (t:=t) (c:=c) (i:=i)
 refine W_r (R_box (i:=3) (n:=0) (m:=6) (cs:=[(iV (t.i)),(iV (t.tm)),(iV (t.s)),(intss t.nx),(intss t.ot),(V.sl (List.map cSr (t.st)))]) rfl (congrArg Blk.ver rfl) rfl rfl rfl (R_box (i:=4) (n:=0) (m:=2) (cs:=[(iV (c.1)),(V.sl (List.map cB (c.2)))]) rfl (congrArg Blk.ver rfl) rfl rfl rfl (R_alloc (i:=6) (n:=0) (m:=2) rfl (congrArg Blk.ver rfl) rfl (R_mv rfl (R_e (W_d (by exact (lateC rfl (lateC rfl lateN))) (R_fk rfl rfl ?_)))))))
 refine R_lk rfl rfl rfl rfl (R_fk rfl rfl (R_lk rfl rfl rfl rfl (R_idxI (i:=(c.1)) (@rfl V (intss t.nx)) (@rfl V (iV (c.1))) (by first|omega|(rw [af0_len]; omega)) (by first|omega|(rw [af0_len]; omega)) rfl (R_load_pp rfl rfl (R_mv rfl (R_idx (i:=i) (@rfl V (ints ((nth (t.nx) (c.1).toNat)))) (@rfl V (iV ((i:Nat):Int))) (by first|omega|(rw [af0_len]; omega)) rfl (R_load_pp rfl rfl ?_)))))))
 refine R_fk rfl rfl (R_lk rfl rfl rfl rfl (R_callA (i:=21) (n:=0) (B:=(bk 1 4 1 (List.map cB (c.2)))) rfl (congrArg Blk.ver rfl) (evcons rfl evnil) rfl (fun H2 h2=>cpyA 21 (by decide) c.2 0 H2 h2 (by omega)) (R_build rfl rfl (R_alloc (i:=8) (n:=0) (m:=2) rfl (congrArg Blk.ver rfl) rfl (R_sk rfl rfl rfl rfl rfl rfl rfl rfl rfl (R_e (W_seq_seq ?_)))))))
 refine W_r (R_mv rfl (R_fk rfl rfl (R_lk rfl rfl rfl rfl (R_geq rfl rfl (R_e ?_)))))
 refine W_seq_J (fun T H=>T 2=(iV ((i:Nat):Int))∧T 3=(V.mp 3 1 0 0)∧T 4=(V.mp 4 1 0 0)∧T 6=(V.mp 6 1 0 0)∧T 8=(V.mp 8 1 0 0)∧H 3=(bk 1 29 6 [[(iV (t.i)),(iV (t.tm)),(iV (t.s)),(intss t.nx),(intss t.ot),(V.sl (List.map cSr (t.st)))]])∧H 4=(bk 1 95 2 [[(iV (c.1)),(V.sl (List.map cB (c.2)))]])∧H 6=(bk 1 95 2 [[(iV (0:Int)),V.nilsl]])∧H 8=(bk 1 95 2 [[(iV ((nth ((nth (t.nx) (c.1).toNat)) (i)))),(V.ms 21 1 0 (c.2.length))]])∧H 9=(⟨0,false,false,0,0,[]⟩:Blk)∧H 21=(bk 1 4 1 (List.map cB (af0 t c i)))∧True) (fun Q1 n1 y1 z1=>?_) ?_
 ·
  refine W_if rfl (fun c2=>?_) fun c2=>?_
  ·
   have e2:c.2.set (((i:Nat):Int) - t.i).toNat false=af0 t c i:=(if_pos (by omega)).symm
   refine W_t (R_fk rfl rfl (R_lk rfl rfl rfl rfl (R_mv rfl (R_fk rfl rfl (R_lk rfl rfl rfl rfl (R_sub rfl rfl (by first|omega|(rw [af0_len]; omega)) (by first|omega|(rw [af0_len]; omega)) (R_idxI_ms0 (i:=(((i:Nat):Int) - (t.i))) (@rfl V (V.ms 21 1 0 (c.2.length))) (@rfl V (iV (((i:Nat):Int) - (t.i)))) (@rfl Blk (bk 1 4 1 (List.map cB (c.2)))) oB rfl (by first|omega|(rw [af0_len]; omega)) (by first|omega|(rw [af0_len]; omega)) ?_)))))))
   refine R_store (vs:=[(V.bool false)]) (B':=(bk 1 4 1 (List.map cB ((c.2).set (((((i:Nat):Int) - (t.i))).toNat) false)))) rfl rfl rfl (@rfl Blk (bk 1 4 1 (List.map cB (c.2)))) (stB_map (x:=false) (i:=(((((i:Nat):Int) - (t.i))).toNat)) (by first|omega|(rw [af0_len]; omega)) rfl rfl rfl rfl) (R_e ?_)
   exact n1 _ _ ⟨rfl,rfl,rfl,rfl,rfl,rfl,rfl,rfl,rfl,rfl,(Eq.trans (@rfl Blk (bk 1 4 1 (List.map cB ((c.2).set (((((i:Nat):Int) - (t.i))).toNat) false)))) (by first|rfl|(rw [e2]; rfl)|(rw [e2]; done)|simp)),trivial⟩
  have e2:c.2=af0 t c i:=(if_neg (by omega)).symm
  refine W_skip ?_
  exact n1 _ _ ⟨rfl,rfl,rfl,rfl,rfl,rfl,rfl,rfl,rfl,rfl,(Eq.trans (@rfl Blk (bk 1 4 1 (List.map cB (c.2)))) (by first|rfl|(rw [e2]; rfl)|(rw [e2]; done)|simp)),trivial⟩
 intro T H ⟨t2,t3,t4,t6,t8,h3,h4,h6,h8,h9,h21,_⟩
 refine W_r (R_fk t3 h3 (R_lk rfl h3 rfl rfl (R_fk t4 h4 (R_lk rfl h4 rfl rfl (R_idxI (i:=(c.1)) (@rfl V (V.sl (List.map cSr (t.st)))) (@rfl V (iV (c.1))) (by first|omega|(rw [af0_len]; omega)) (by first|omega|(rw [af0_len]; omega)) rfl (R_load_pp rfl rfl (R_mv t2 ?_)))))))
 refine R_idx (i:=i) (@rfl V (V.sl (List.map cSg ((nth (t.st) (c.1).toNat))))) (@rfl V (iV ((i:Nat):Int))) (by first|omega|(rw [af0_len]; omega)) rfl (R_load_pp rfl rfl (R_alloc (i:=9) (n:=0) (m:=2) rfl (congrArg Blk.ver h9) rfl (R_sk rfl rfl rfl rfl rfl rfl rfl rfl rfl (R_e (W_seq_seq (W_r (R_fk rfl rfl ?_)))))))
 refine R_lk rfl rfl rfl rfl (R_lss rfl rfl (R_mv rfl ?_))
 refine Ops_seg 13 (fun T H=>T 6=(V.mp 6 1 0 0)∧T 8=(V.mp 8 1 0 0)∧T 9=(V.mp 9 1 0 0)∧T 59=(V.bool ((decide ((((nth ((nth (t.st) (c.1).toNat)) (i))).1) < (0:Int))||((decide ((((nth ((nth (t.st) (c.1).toNat)) (i))).2)=(0:Int))&&((!(nth (af0 t c i) (((((nth ((nth (t.st) (c.1).toNat)) (i))).1)).toNat)))))))))∧H 3=(bk 1 29 6 [[(iV (t.i)),(iV (t.tm)),(iV (t.s)),(intss t.nx),(intss t.ot),(V.sl (List.map cSr (t.st)))]])∧H 4=(bk 1 95 2 [[(iV (c.1)),(V.sl (List.map cB (c.2)))]])∧H 6=(bk 1 95 2 [[(iV (0:Int)),V.nilsl]])∧H 8=(bk 1 95 2 [[(iV ((nth ((nth (t.nx) (c.1).toNat)) (i)))),(V.ms 21 1 0 (c.2.length))]])∧H 9=(bk 1 73 2 [[(iV (((nth ((nth (t.st) (c.1).toNat)) (i))).1)),(iV (((nth ((nth (t.st) (c.1).toNat)) (i))).2))]])∧H 21=(bk 1 4 1 (List.map cB (af0 t c i)))∧True) ?_ ?_
 ·
  by_cases g3:(((nth ((nth (t.st) (c.1).toNat)) (i))).1) < (0:Int)
  ·
   refine G_n (edT g3 rfl) (G_n (edT g3 rfl) (G_n (edT g3 rfl) (G_n (edT g3 rfl) (G_raw (@rfl V (V.raw undef)) (G_raw (@rfl V (V.raw undef)) (G_raw (@rfl V (V.raw undef)) (G_raw (@rfl V (V.raw undef)) ?_)))))))
   refine G_raw (@rfl V (V.raw undef)) (G_raw (@rfl V (V.raw undef)) (G_raw (@rfl V (V.raw undef)) (G_n (edT g3 rfl) (R_pickT (edT g3 rfl) rfl ?_))))
   exact ⟨t6,t8,rfl,(dborT g3),h3,h4,h6,h8,rfl,h21,trivial⟩
  ·
   refine G_yes (edF g3 rfl) (R_fk rfl rfl (G_yes (edF g3 rfl) (R_lk rfl rfl rfl rfl (G_yes (edF g3 rfl) (R_eql rfl rfl (G_yes (edF g3 rfl) (R_mv rfl ?_)))))))
   refine Ops_seg 8 (fun T H=>T 6=(V.mp 6 1 0 0)∧T 8=(V.mp 8 1 0 0)∧T 9=(V.mp 9 1 0 0)∧T 46=(V.bool false)∧T 58=(V.bool ((decide ((((nth ((nth (t.st) (c.1).toNat)) (i))).2)=(0:Int))&&((!(nth (af0 t c i) (((((nth ((nth (t.st) (c.1).toNat)) (i))).1)).toNat)))))))∧H 3=(bk 1 29 6 [[(iV (t.i)),(iV (t.tm)),(iV (t.s)),(intss t.nx),(intss t.ot),(V.sl (List.map cSr (t.st)))]])∧H 4=(bk 1 95 2 [[(iV (c.1)),(V.sl (List.map cB (c.2)))]])∧H 6=(bk 1 95 2 [[(iV (0:Int)),V.nilsl]])∧H 8=(bk 1 95 2 [[(iV ((nth ((nth (t.nx) (c.1).toNat)) (i)))),(V.ms 21 1 0 (c.2.length))]])∧H 9=(bk 1 73 2 [[(iV (((nth ((nth (t.st) (c.1).toNat)) (i))).1)),(iV (((nth ((nth (t.st) (c.1).toNat)) (i))).2))]])∧H 21=(bk 1 4 1 (List.map cB (af0 t c i)))∧True) ?_ ?_
   ·
    by_cases g4:(((nth ((nth (t.st) (c.1).toNat)) (i))).2)=(0:Int)
    ·
     refine G_yes (edT g4 rfl) (R_fk t8 h8 (G_yes (edT g4 rfl) (R_lk rfl h8 rfl rfl (G_yes (edT g4 rfl) (R_fk rfl rfl (G_yes (edT g4 rfl) (R_lk rfl rfl rfl rfl ?_)))))))
     refine G_yes (edT g4 rfl) (R_idxI_ms0 (i:=(((nth ((nth (t.st) (c.1).toNat)) (i))).1)) (@rfl V (V.ms 21 1 0 (c.2.length))) (@rfl V (iV (((nth ((nth (t.st) (c.1).toNat)) (i))).1))) h21 oB rfl (by first|omega|(rw [af0_len]; omega)) (by first|omega|(rw [af0_len]; omega)) (G_yes (edT g4 rfl) (R_load_mp (v:=(V.bool ((nth (af0 t c i) (((((nth ((nth (t.st) (c.1).toNat)) (i))).1)).toNat))))) rfl h21 (ldB_map (by first|omega|(rw [af0_len]; omega)) (by first|rfl|(rw [cF_eq]; rfl)|simp [ldV,V.one])) (G_yes (edT g4 rfl) (R_notb rfl (G_yes (edF g3 rfl) (R_pickT (edT g4 rfl) rfl ?_)))))))
     exact ⟨t6,t8,rfl,(edF g3 rfl),(dbandT g4),h3,h4,h6,h8,rfl,h21,trivial⟩
    ·
     refine G_n (edF g4 rfl) (G_n (edF g4 rfl) (G_n (edF g4 rfl) (G_n (edF g4 rfl) (G_n (edF g4 rfl) (G_n (edF g4 rfl) (G_n (edF g4 rfl) (G_yes (edF g3 rfl) ?_)))))))
     refine R_pickF (edF g4 rfl) rfl ?_
     exact ⟨t6,t8,rfl,(edF g3 rfl),(dbandF g4),h3,h4,h6,h8,rfl,h21,trivial⟩
   intro T H ⟨t6,t8,t9,t46,t58,h3,h4,h6,h8,h9,h21,_⟩
   refine R_pickF t46 t58 ?_
   exact ⟨t6,t8,t9,(dborF g3),h3,h4,h6,h8,h9,h21,trivial⟩
 intro T H ⟨t6,t8,t9,t59,h3,h4,h6,h8,h9,h21,_⟩
 refine R_e ?_
 refine W_seq_ifb t59 (fun c5=>?_) (fun c5=>?_)
 ·
  obtain ⟨d1,d2,d3⟩:=afN_yes c5
  refine W_seq_seq (W_r (R_lk t8 h8 rfl rfl (R_sk t6 rfl rfl h6 rfl rfl rfl rfl rfl (R_mv rfl (R_e (W_seq_ret ?_))))))
  refine RetC_2 (resV_c (u:=(V.agg [(iV ((nth ((nth (t.nx) (c.1).toNat)) (i)))),(V.ms 21 1 0 (c.2.length))])) t6 (@rfl Blk (bk 1 95 2 [[(iV ((nth ((nth (t.nx) (c.1).toNat)) (i)))),(V.ms 21 1 0 (c.2.length))]])) (lB oB rfl rfl)) (resV_t (@rfl V (iV (0:Int)))) (fz_agg2 (fz_int ?_) (fz_ms h21 (by first|rfl|simp) (l:=(af0 t c i)) rfl (by first|rfl|(rw [af0_len])|(rw [List.length_set,af0_len])|simp) (fun _=>by simp) ?_)) (fz_int ?_)
  · rfl
  · exact d2.symm
  · exact d3.symm
 obtain ⟨d1,d2,d3⟩:=afN_no c5
 refine W_seq_skip (W_r (R_fk t8 h8 (R_lk rfl h8 rfl rfl (R_fk t9 h9 (R_lk rfl h9 rfl rfl (R_fk t9 h9 (R_lk rfl h9 rfl rfl ?_)))))))
 refine R_gtr rfl rfl (R_idxI_ms0 (i:=(((nth ((nth (t.st) (c.1).toNat)) (i))).1)) (@rfl V (V.ms 21 1 0 (c.2.length))) (@rfl V (iV (((nth ((nth (t.st) (c.1).toNat)) (i))).1))) h21 oB rfl (by first|omega|(rw [af0_len]; omega)) (by first|omega|(rw [af0_len]; omega)) (R_store (vs:=[(V.bool (decide ((0:Int) < (((nth ((nth (t.st) (c.1).toNat)) (i))).2))))]) (B':=(bk 1 4 1 (List.map cB ((af0 t c i).set (((((nth ((nth (t.st) (c.1).toNat)) (i))).1)).toNat) (decide ((0:Int) < (((nth ((nth (t.st) (c.1).toNat)) (i))).2))))))) rfl rfl rfl h21 (stB_map (x:=(decide ((0:Int) < (((nth ((nth (t.st) (c.1).toNat)) (i))).2)))) (i:=(((((nth ((nth (t.st) (c.1).toNat)) (i))).1)).toNat)) (by first|omega|(rw [af0_len]; omega)) rfl rfl rfl rfl) (R_e (W_x (R_lk t8 h8 rfl rfl (R_fk t9 h9 (R_lk rfl h9 rfl rfl ?_)))))))
 refine R_mul rfl rfl (by first|omega|(rw [af0_len]; omega)) (by first|omega|(rw [af0_len]; omega)) (R_add rfl rfl (by first|omega|(rw [af0_len]; omega)) (by first|omega|(rw [af0_len]; omega)) (R_fk t9 h9 (R_lk rfl h9 rfl rfl (R_add rfl rfl (by first|omega|(rw [af0_len]; omega)) (by first|omega|(rw [af0_len]; omega)) (R_sk t6 rfl rfl h6 rfl rfl rfl rfl rfl (R_mv rfl (R_e ?_)))))))
 refine ⟨by simp [ddB,apV,argB,r46_8,t6,t8,t9],?_⟩
 refine W_ret ?_
 refine RetC_2 (resV_c (u:=(V.agg [(iV ((nth ((nth (t.nx) (c.1).toNat)) (i)))),(V.ms 21 1 0 (c.2.length))])) t6 (@rfl Blk (bk 1 95 2 [[(iV ((nth ((nth (t.nx) (c.1).toNat)) (i)))),(V.ms 21 1 0 (c.2.length))]])) (lB oB rfl rfl)) (resV_t (@rfl V (iV (((1:Int)+((((nth ((nth (t.st) (c.1).toNat)) (i))).1)*(1001:Int)))+(((nth ((nth (t.st) (c.1).toNat)) (i))).2))))) (fz_agg2 (fz_int ?_) (fz_ms (@rfl Blk (bk 1 4 1 (List.map cB ((af0 t c i).set (((((nth ((nth (t.st) (c.1).toNat)) (i))).1)).toNat) (decide ((0:Int) < (((nth ((nth (t.st) (c.1).toNat)) (i))).2))))))) (by first|rfl|simp) (l:=((af0 t c i).set (((((nth ((nth (t.st) (c.1).toNat)) (i))).1)).toNat) (decide ((0:Int) < (((nth ((nth (t.st) (c.1).toNat)) (i))).2))))) rfl (by first|rfl|(rw [af0_len])|(rw [List.length_set,af0_len])|simp) (fun _=>by simp) ?_)) (fz_int ?_)
 · rfl
 · exact d2.symm
 · exact d3.symm
def s47:SF:=⟨6,[.tmp 2],.seq (.reg [qI 2 0]) (.seq (.reg [qM 3 0,qC 4 .mul 3 1001,sO 5 (.bin .add (.c (.int .i64 1)) (.t 4)),qM 2 5]) (.ret))⟩
theorem s47_ok:slimF Tryz.prog ⟨[58,129,130,131,149,155,161,182,183,185,191,192,208,209,210,224,228,231,236],[],[],[]⟩ Tryz.f47=some s47:=by kernel_rfl
theorem scale_pure (tm:Int) (ht:0≤tm∧tm≤4):PureC Tryz.prog 47 [(iV (tm))] (iV (sgK tm)):=by
 refine pW Tryz.func47 s47_ok fun hB=>?_
 unfold s47
 dsimp only
 refine W_r (R_mv rfl (R_e (W_r (R_mv rfl (R_mul rfl rfl (by omega) (by omega) (R_add rfl rfl (by omega) (by omega) (R_mv rfl ?_)))))))
 refine R_e (W_ret ?_)
 refine Ret_1 (@rfl V (iV ((1:Int)+((tm)*(1001:Int))))) (fz_int ?_)
 · rfl
def r48_4:List SO:=[
 qM 12 0,
 qM 13 5,
 qA 14 2 12 13,
 qF 15 0 14,
 ql 16 15,
 qF 17 0 3,
 ql 18 17,
 qP 19 .eql 16 18,
 qM 20 19,
 ⟨some (20,true),some 21,.mv (.t 0)⟩,
 ⟨some (20,true),some 22,.mv (.t 5)⟩,
 ⟨some (20,true),some 23,.idx 2 (.t 21) (.t 22)⟩,
 ⟨some (20,true),some 24,.fld 1 (.t 23)⟩,
 ⟨some (20,true),some 25,.load false 1 (.t 24)⟩,
 ⟨some (20,true),some 26,.fld 1 (.t 3)⟩,
 ⟨some (20,true),some 27,.load false 1 (.t 26)⟩,
 ⟨some (20,true),some 28,.call false 80 [.t 25,.t 27]⟩,
 sO 29 (.pick (.t 20) (.t 28) (.c (.bool false)))]
def b48_0:SC:=.seq (.seq (.reg [qM 6 5,qM 7 0,qN 8 7,qP 9 .lss 6 8]) (.cond (.t 9) (.skip) (.exit 0))) (.seq (.block 1 (.seq (.reg r48_4) (.cond (.t 29) (.seq (.reg [qM 30 5,qM 4 30]) (.ret)) (.skip)))) (.reg [qM 10 5,qC 11 .add 10 1,qM 5 11]))
def s48:SF:=⟨33,[.tmp 4],.seq (.reg [sO 3 (.box 95 2 (.t 1)),qI 4 0]) (.seq (.seq (.reg [qI 5 0]) (.block 0 (.loop b48_0))) (.seq (.reg [qM 31 0,qN 32 31,qM 4 32]) (.ret)))⟩
theorem s48_ok:slimF Tryz.prog ⟨[58,129,130,131,149,155,161,182,183,185,191,192,208,209,210,224,228,231,236],[],[],[]⟩ Tryz.f48=some s48:=by kernel_rfl
def r80_4:List SO:=[
 qM 12 0,
 qM 13 5,
 qA 14 1 12 13,
 ql 15 14,
 qM 16 1,
 qM 17 5,
 qA 18 1 16 17,
 ql 19 18,
 sO 20 (.bbin .neq (.t 15) (.t 19))]
def b80_0:SC:=.seq (.seq (.reg [qM 6 5,qM 7 0,qN 8 7,qP 9 .lss 6 8]) (.cond (.t 9) (.skip) (.exit 0))) (.seq (.block 1 (.seq (.reg r80_4) (.cond (.t 20) (.seq (.reg [sO 4 (.mv (.c (.bool false)))]) (.ret)) (.skip)))) (.reg [qM 10 5,qC 11 .add 10 1,qM 5 11]))
def s80:SF:=⟨21,[.tmp 4],.seq (.reg [sO 4 (.mv (.c (.bool false)))]) (.seq (.seq (.reg [qI 5 0]) (.block 0 (.loop b80_0))) (.seq (.reg [sO 4 (.mv (.c (.bool true)))]) (.ret)))⟩
theorem s80_ok:slimF Tryz.prog ⟨[58,129,130,131,149,155,161,182,183,185,191,192,208,209,210,224,228,231,236],[],[],[]⟩ Tryz.f80=some s80:=by kernel_rfl
theorem eqb41_pure (a b:List Bool) (hl:a.length=b.length):PureC Tryz.prog 80 [(V.sl (List.map cB (a))),(V.sl (List.map cB (b)))] (V.bool (decide (a=b))):=by
 refine pW Tryz.func80 s80_ok fun hB=>?_
 unfold s80
 dsimp only
 refine W_r (R_mv rfl (R_e (W_seq_seq (W_r (R_mv rfl (R_e (W_seq_blockg fun Q1 n1 x1 y1 z1=>?_)))))))
 refine W_loop (fun mm T H=> ∃ (k:Nat),mm=a.length - k∧T 0=(V.sl (List.map cB (a)))∧T 1=(V.sl (List.map cB (b)))∧T 5=(iV ((k:Nat):Int))∧(k≤a.length)∧(∀ j,j < k→nth a j=nth b j)) ?_ ?_
 ·
  refine ⟨_,0,rfl,rfl,rfl,(Eq.trans (@rfl V (iV (0:Int))) rfl),?_,?_⟩
  · omega
  · intro j hj; omega
 intro mm T H ⟨k,hmm,t0,t1,t5,hk,hc⟩ Q2 p12 p22 p32
 unfold b80_0
 refine W_seq_seq (W_r (R_mv t5 (R_mv t0 (R_len rfl (R_lss rfl rfl (R_e ?_))))))
 refine W_seq_if rfl (fun c3=>?_) fun c3=>?_
 ·
  refine W_seq_skip (W_seq_blockg fun Q4 n4 x4 y4 z4=>(W_r (R_mv t0 (R_mv t5 (R_idx (i:=k) (@rfl V (V.sl (List.map cB (a)))) (@rfl V (iV ((k:Nat):Int))) (by omega) rfl (R_load_pp rfl rfl (R_mv t1 ?_)))))))
  refine R_mv t5 (R_idx (i:=k) (@rfl V (V.sl (List.map cB (b)))) (@rfl V (iV ((k:Nat):Int))) (by omega) rfl (R_load_pp rfl rfl (R_bneq (x:=((nth (a) (k)))) (y:=((nth (b) (k)))) rfl rfl (R_e ?_))))
  refine W_ifb rfl (fun c5=>?_) (fun c5=>?_)
  ·
   have d1:=c5
   refine W_r (R_mv rfl (R_e (W_ret (y4 _ _ (p22 _ _ (y1 _ _ ?_))))))
   refine Ret_1 (@rfl V (V.bool false)) (fz_bool ?_)
   · exact (decide_eq_false (fun e=>by subst e; exact bne_t d1 rfl)).symm
  have d1:=c5
  refine W_skip (n4 _ _ (.done (W_t (R_mv t5 (R_addN rfl (@rfl V (iV ((1:Nat):Int))) (by omega) (R_mv rfl (R_e ?_)))))))
  refine p12 _ _ _ ?_ ⟨(k+1),rfl,t0,t1,(Eq.trans (@rfl V (iV ((k+1:Nat):Int))) (by first|rfl|simp)),?_,?_⟩
  · omega
  · omega
  · intro j hj
    by_cases e:j=k
    · subst e; exact bne_f d1
    · exact hc j (by omega)
 refine W_seq_exit (p32 _ _ _ (x1 _ _ (.done (W_r (R_mv rfl (R_e (W_ret ?_)))))))
 refine Ret_1 (@rfl V (V.bool true)) (fz_bool ?_)
 · exact (decide_eq_true (nth_ext hl fun j hj=>hc j (by omega))).symm
theorem place41_pure (l:List Cf) (c:Cf) (hl: ∀ d∈l,d.2.length=c.2.length):PureC Tryz.prog 48 [(V.sl (List.map cCf (l))),(V.agg [(iV (c.1)),(V.sl (List.map cB (c.2)))])] (iV ((plc l c:Nat):Int)):=by
 refine pW Tryz.func48 s48_ok fun hB=>?_
 unfold s48
 dsimp only
 refine W_r (R_box (i:=3) (n:=0) (m:=2) (cs:=[(iV (c.1)),(V.sl (List.map cB (c.2)))]) rfl (congrArg Blk.ver rfl) rfl rfl rfl (R_mv rfl (R_e (W_seq_seq (W_r (R_mv rfl (R_e ?_)))))))
 refine W_seq_blockg fun Q1 n1 x1 y1 z1=>?_
 refine W_loop (fun mm T H=> ∃ (k:Nat),mm=l.length - k∧T 0=(V.sl (List.map cCf (l)))∧T 3=(V.mp 3 1 0 0)∧T 5=(iV ((k:Nat):Int))∧H 3=(bk 1 95 2 [[(iV (c.1)),(V.sl (List.map cB (c.2)))]])∧(k≤l.length)∧(plc l c=plcN l c k (l.length - k))) ?_ ?_
 ·
  refine ⟨_,0,rfl,rfl,rfl,(Eq.trans (@rfl V (iV (0:Int))) rfl),rfl,?_,?_⟩
  · exact Nat.zero_le _
  · rfl
 intro mm T H ⟨k,hmm,t0,t3,t5,h3,hk,hc⟩ Q2 p12 p22 p32
 unfold b48_0
 refine W_seq_seq (W_r (R_mv t5 (R_mv t0 (R_len rfl (R_lss rfl rfl (R_e ?_))))))
 refine W_seq_if rfl (fun c3=>?_) fun c3=>?_
 ·
  refine W_seq_skip (W_seq_blockg fun Q4 n4 x4 y4 z4=>(W_r (R_mv t0 (R_mv t5 (R_idx (i:=k) (@rfl V (V.sl (List.map cCf (l)))) (@rfl V (iV ((k:Nat):Int))) (by omega) rfl (R_fld_pp (cs':=[(iV (((nth (l) (k))).1)),(V.sl (List.map cB (((nth (l) (k))).2)))]) rfl rfl (R_load_pp rfl rfl ?_)))))))
  refine R_fk t3 h3 (R_lk rfl h3 rfl rfl (R_eql rfl rfl (R_mv rfl ?_)))
  refine Ops_seg 9 (fun T H=>T 0=(V.sl (List.map cCf (l)))∧T 3=(V.mp 3 1 0 0)∧T 5=(iV ((k:Nat):Int))∧T 29=(V.bool (decide (((((nth (l) (k))).1)=(c.1))∧((((nth (l) (k))).2)=c.2))))∧H 3=(bk 1 95 2 [[(iV (c.1)),(V.sl (List.map cB (c.2)))]])∧True) ?_ ?_
  ·
   by_cases g5:(((nth (l) (k))).1)=(c.1)
   ·
    refine G_yes (edT g5 rfl) (R_mv t0 (G_yes (edT g5 rfl) (R_mv t5 (G_yes (edT g5 rfl) (R_idx (i:=k) (@rfl V (V.sl (List.map cCf (l)))) (@rfl V (iV ((k:Nat):Int))) (by omega) rfl (G_yes (edT g5 rfl) (R_fld_pp (cs':=[(V.sl (List.map cB (((nth (l) (k))).2)))]) rfl rfl ?_)))))))
    refine G_yes (edT g5 rfl) (R_load_pp rfl rfl (G_yes (edT g5 rfl) (R_fk t3 h3 (G_yes (edT g5 rfl) (R_lk rfl h3 rfl rfl (G_yes (edT g5 rfl) (R_callk (eqb41_pure (((nth (l) (k))).2) c.2 (hl _ (nth_mem (by omega)))) rfl ?_)))))))
    refine R_pickT (edT g5 rfl) rfl ?_
    exact ⟨t0,t3,t5,(dec_andT g5),h3,trivial⟩
   ·
    refine G_n (edF g5 rfl) (G_n (edF g5 rfl) (G_n (edF g5 rfl) (G_n (edF g5 rfl) (G_n (edF g5 rfl) (G_n (edF g5 rfl) (G_n (edF g5 rfl) (G_n (edF g5 rfl) ?_)))))))
    refine R_pickF (edF g5 rfl) rfl ?_
    exact ⟨t0,t3,t5,(dec_andF g5),h3,trivial⟩
  intro T H ⟨t0,t3,t5,t29,h3,_⟩
  refine R_e ?_
  refine W_if t29 (fun c6=>?_) fun c6=>?_
  ·
   have d1:nth l k=c:=Prod.ext c6.1 c6.2
   refine W_r (R_mv t5 (R_mv rfl (R_e (W_ret (y4 _ _ (p22 _ _ (y1 _ _ ?_)))))))
   refine Ret_1 (@rfl V (iV ((k:Nat):Int))) (fz_int ?_)
   · rw [hc,plcN_hit d1 (by omega)]
  have d1:nth l k≠c:=fun e=>c6 ⟨congrArg Prod.fst e,congrArg Prod.snd e⟩
  refine W_skip (n4 _ _ (.done (W_t (R_mv t5 (R_addN rfl (@rfl V (iV ((1:Nat):Int))) (by omega) (R_mv rfl (R_e ?_)))))))
  refine p12 _ _ _ ?_ ⟨(k+1),rfl,t0,t3,(Eq.trans (@rfl V (iV ((k+1:Nat):Int))) (by first|rfl|simp)),h3,?_,?_⟩
  · omega
  · omega
  · rw [hc,plcN_skip d1 (by omega)]
 refine W_seq_exit (p32 _ _ _ (x1 _ _ (.done (W_r (R_mv t0 (R_len rfl (R_mv rfl ?_)))))))
 refine R_e (W_ret ?_)
 refine Ret_1 (@rfl V (iV ((l.length:Nat):Int))) (fz_int ?_)
 · rw [hc,plcN_end (by omega)]
end Go.Proofs.YtilfohjlglefjaaGreat
namespace Go.Proofs.YtilfohjlglefjaaGreat
open Go Go.Proofs
attribute [local irreducible] mksV
theorem runtimed_pure (t:TM):PureC Tryz.prog 21 [(V.agg [(iV (t.i)),(iV (t.tm)),(iV (t.s)),(intss t.nx),(intss t.ot),(V.sl (List.map cSr (t.st)))])] (V.tup [(V.agg [(iV ((unM t).i)),(iV ((unM t).s)),(intss ((unM t).nx)),(intss ((unM t).ot))]),(iV (unE t))]):=by
 refine pW Tryz.func21 s21_ok fun hB=>?_
 unfold s21
 dsimp only
 refine W_r (R_box (i:=1) (n:=0) (m:=6) (cs:=[(iV (t.i)),(iV (t.tm)),(iV (t.s)),(intss t.nx),(intss t.ot),(V.sl (List.map cSr (t.st)))]) rfl (congrArg Blk.ver rfl) rfl rfl rfl (R_alloc (i:=2) (n:=0) (m:=4) rfl (congrArg Blk.ver rfl) rfl (R_mv rfl (R_e (W_seq_seq (W_r (R_lk rfl rfl rfl rfl ?_)))))))
 refine R_callk (rtvalid_pure t) rfl (R_mv rfl (R_e (W_seq_seq (W_r (R_mv rfl (R_neq rfl rfl (R_e ?_)))))))
 refine W_seq_if rfl (fun c1=>?_) fun c1=>?_
 ·
  have d1:=c1
  refine W_seq_seq (W_r (R_build rfl rfl (R_mv rfl (R_store (vs:=[(iV (0:Int)),(iV (0:Int)),V.nilsl,V.nilsl]) (B':=(bk 1 24 4 [[(iV (0:Int)),(iV (0:Int)),V.nilsl,V.nilsl]])) rfl rfl rfl rfl (sB oB rfl rfl rfl rfl rfl) (R_mv rfl (R_e (W_seq_ret ?_)))))))
  refine RetC_2 (resV_c (u:=(V.agg [(iV (0:Int)),(iV (0:Int)),V.nilsl,V.nilsl])) rfl (@rfl Blk (bk 1 24 4 [[(iV (0:Int)),(iV (0:Int)),V.nilsl,V.nilsl]])) (lB oB rfl rfl)) (resV_t (@rfl V (iV (tval t)))) (fz_aggL (mcons (fz_int ?_) (mcons (fz_int ?_) (mcons (fz_nil ?_) (mcons (fz_nil ?_) rfl))))) (fz_int ?_)
  · rw [unM_no (by rw [unE_v d1]; first|decide|exact d1)]; try rfl
  · rw [unM_no (by rw [unE_v d1]; first|decide|exact d1)]; try rfl
  · rw [unM_no (by rw [unE_v d1]; first|decide|exact d1)]; try rfl
  · rw [unM_no (by rw [unE_v d1]; first|decide|exact d1)]; try rfl
  · rw [unE_v d1]
 have d1:=c1
 have ht:=tval_ok (Decidable.not_not.1 c1)
 obtain ⟨g1,g2,g3,g4,g5,g6,g7,g8,g9,g10,g11,g12⟩:=id ht
 refine W_seq_skip ?_
 refine W_seq_dg (fun T H=>T 1=(V.mp 1 1 0 0)∧T 2=(V.mp 2 1 0 0)∧T 5=(V.ms 27 1 0 (1))∧H 1=(bk 1 29 6 [[(iV (t.i)),(iV (t.tm)),(iV (t.s)),(intss t.nx),(intss t.ot),(V.sl (List.map cSr (t.st)))]])∧H 2=(bk 1 24 4 [[(iV (0:Int)),(iV (0:Int)),V.nilsl,V.nilsl]])∧H 6=(⟨0,false,false,0,0,[]⟩:Blk)∧H 8=(⟨0,false,false,0,0,[]⟩:Blk)∧H 9=(⟨0,false,false,0,0,[]⟩:Blk)∧H 11=(⟨0,false,false,0,0,[]⟩:Blk)∧H 25=(bk 1 4 1 (List.map cB (List.replicate ((t.tm).toNat) false)))∧H 27=(bk 1 95 2 [[(iV (t.s)),(V.ms 25 1 0 ((t.tm).toNat))]])∧H 812=(⟨0,false,false,0,0,[]⟩:Blk)∧H 813=(⟨0,false,false,0,0,[]⟩:Blk)∧True) (by exact (lateC rfl lateN)) ?_ ?_
 ·
  refine R_fk rfl rfl (R_lk rfl rfl rfl rfl (R_fk rfl rfl (R_lk rfl rfl rfl rfl (R_mksm (i:=25) (n:=0) (m:=((t.tm).toNat)) (q:=((t.tm).toNat)) (f:=cB) (x:=false) rfl (congrArg Blk.ver rfl) (Eq.trans (@rfl V (iV (t.tm))) (congrArg (V.int .i64) (by omega))) (Eq.trans (@rfl V (iV (t.tm))) (congrArg (V.int .i64) (by omega))) rfl (by omega) (by omega) (by omega) (R_build rfl rfl (R_bslice_own (i:=27) (n:=0) (qs:=[(0,(V.agg [(iV (t.s)),(V.ms 25 1 0 ((t.tm).toNat))]))]) (rows:=[[(iV (t.s)),(V.ms 25 1 0 ((t.tm).toNat))]]) rfl (congrArg Blk.ver rfl) (mcons (congrArg (fun v=>(0,v)) rfl) rfl) rfl (R_mv rfl ?_)))))))
  exact R_nil ⟨rfl,rfl,rfl,rfl,rfl,rfl,rfl,rfl,rfl,rfl,rfl,rfl,rfl,trivial⟩
 intro T H ⟨t1,t2,t5,h1,h2,h6,h8,h9,h11,h25,h27,h812,h813,_⟩
 refine frz_cellg (id:=25) (id2:=27) (rows:=[[(iV (t.s)),(V.ms 25 1 0 ((t.tm).toNat))]]) (i:=0) (off:=1) (r:=[(iV (t.s)),(V.ms 25 1 0 ((t.tm).toNat))]) (m:=(List.replicate ((t.tm).toNat) false)) (g:=cB) (by decide) h25 h27 (by first|omega|(simp; omega)|(simp; done)) (by first|rfl|simp|omega) rfl (.done ?_)
 refine fork_ (R:=fun T H=>T 1=(V.mp 1 1 0 0)∧T 2=(V.mp 2 1 0 0)∧T 5=(V.ms 27 1 0 (1))∧H 1=(bk 1 29 6 [[(iV (t.i)),(iV (t.tm)),(iV (t.s)),(intss t.nx),(intss t.ot),(V.sl (List.map cSr (t.st)))]])∧H 2=(bk 1 24 4 [[(iV (0:Int)),(iV (0:Int)),V.nilsl,V.nilsl]])∧H 6=(⟨0,false,false,0,0,[]⟩:Blk)∧H 8=(⟨0,false,false,0,0,[]⟩:Blk)∧H 9=(⟨0,false,false,0,0,[]⟩:Blk)∧H 11=(⟨0,false,false,0,0,[]⟩:Blk)∧((H 25).ver=1∧(H 25).live=false)∧H 27=(bk 1 95 2 [[(iV (t.s)),(V.sl (List.map cB (List.replicate ((t.tm).toNat) false)))]])∧H 812=(⟨0,false,false,0,0,[]⟩:Blk)∧H 813=(⟨0,false,false,0,0,[]⟩:Blk)∧True) ⟨(fzT_q t1 rfl),(fzT_q t2 rfl),(fzT_q t5 (fzq_other (by decide))),((upd_ne _ _ (by decide)).trans (kill_ne h1 (by decide))),((upd_ne _ _ (by decide)).trans (kill_ne h2 (by decide))),((upd_ne _ _ (by decide)).trans (kill_ne h6 (by decide))),((upd_ne _ _ (by decide)).trans (kill_ne h8 (by decide))),((upd_ne _ _ (by decide)).trans (kill_ne h9 (by decide))),((upd_ne _ _ (by decide)).trans (kill_ne h11 (by decide))),⟨(congrArg Blk.ver (upd_ne _ _ (by decide))).trans (kill_self (congrArg Blk.ver h25)).1,(congrArg Blk.live (upd_ne _ _ (by decide))).trans (kill_self (congrArg Blk.ver h25)).2⟩,(upd_same _ _ _),((upd_ne _ _ (by decide)).trans (kill_ne h812 (by decide))),((upd_ne _ _ (by decide)).trans (kill_ne h813 (by decide))),trivial⟩ ?_
 intro T H ⟨t1,t2,t5,h1,h2,h6,h8,h9,h11,h25,h27,h812,h813,_⟩
 refine W_r (R_fk t1 h1 (R_lk rfl h1 rfl rfl (R_fk t1 h1 (R_lk rfl h1 rfl rfl (R_add rfl rfl (by omega) (by omega) (R_build rfl rfl (R_alloc (i:=6) (n:=0) (m:=4) rfl (congrArg Blk.ver h6) rfl ?_)))))))
 refine R_store (vs:=[(iV ((t.i)+(t.tm))),(iV (0:Int)),V.nilsl,V.nilsl]) (B':=(bk 1 24 4 [[(iV ((t.i)+(t.tm))),(iV (0:Int)),V.nilsl,V.nilsl]])) rfl rfl rfl rfl (sB oB rfl rfl rfl rfl rfl) (R_e (W_seq_seq ?_))
 refine W_seq_g (fun T H=>T 1=(V.mp 1 1 0 0)∧T 2=(V.mp 2 1 0 0)∧T 5=(V.ms 27 1 0 (1))∧T 6=(V.mp 6 1 0 0)∧T 7=(iV (0:Int))∧H 1=(bk 1 29 6 [[(iV (t.i)),(iV (t.tm)),(iV (t.s)),(intss t.nx),(intss t.ot),(V.sl (List.map cSr (t.st)))]])∧H 2=(bk 1 24 4 [[(iV (0:Int)),(iV (0:Int)),V.nilsl,V.nilsl]])∧H 6=(bk 1 24 4 [[(iV ((t.i)+(t.tm))),(iV (0:Int)),V.nilsl,V.nilsl]])∧H 8=(⟨0,false,false,0,0,[]⟩:Blk)∧H 9=(⟨0,false,false,0,0,[]⟩:Blk)∧H 11=(⟨0,false,false,0,0,[]⟩:Blk)∧((H 25).ver=1∧(H 25).live=false)∧H 27=(bk 1 95 2 [[(iV (t.s)),(V.sl (List.map cB (List.replicate ((t.tm).toNat) false)))]])∧H 812=(⟨0,false,false,0,0,[]⟩:Blk)∧H 813=(⟨0,false,false,0,0,[]⟩:Blk)∧True) ?_ ?_
 ·
  refine R_mv rfl ?_
  exact R_nil ⟨t1,t2,t5,rfl,rfl,h1,h2,rfl,h8,h9,h11,h25,h27,h812,h813,trivial⟩
 intro T H ⟨t1,t2,t5,t6,t7,h1,h2,h6,h8,h9,h11,h25,h27,h812,h813,_⟩
 refine .lazyCell 812 38 1 6 0 2 [(iV ((t.i)+(t.tm))),(iV (0:Int)),V.nilsl,V.nilsl] (by decide) (by rw [h6]; rfl) (by rw [h6]; rfl) rfl (fork_ (R:=fun T H=>T 1=(V.mp 1 1 0 0)∧T 2=(V.mp 2 1 0 0)∧T 5=(V.ms 27 1 0 (1))∧T 6=(V.mp 6 1 0 0)∧T 7=(iV (0:Int))∧H 1=(bk 1 29 6 [[(iV (t.i)),(iV (t.tm)),(iV (t.s)),(intss t.nx),(intss t.ot),(V.sl (List.map cSr (t.st)))]])∧H 2=(bk 1 24 4 [[(iV (0:Int)),(iV (0:Int)),V.nilsl,V.nilsl]])∧H 6=(bk 1 24 4 [[(iV ((t.i)+(t.tm))),(iV (0:Int)),(V.ms 812 1 0 (0)),V.nilsl]])∧H 8=(⟨0,false,false,0,0,[]⟩:Blk)∧H 9=(⟨0,false,false,0,0,[]⟩:Blk)∧H 11=(⟨0,false,false,0,0,[]⟩:Blk)∧((H 25).ver=1∧(H 25).live=false)∧H 27=(bk 1 95 2 [[(iV (t.s)),(V.sl (List.map cB (List.replicate ((t.tm).toNat) false)))]])∧H 812=(bz 1 38 1 [])∧H 813=(⟨0,false,false,0,0,[]⟩:Blk)∧True) ⟨t1,t2,t5,t6,t7,((upd_ne _ _ (by decide)).trans ((upd_ne _ _ (by decide)).trans h1)),((upd_ne _ _ (by decide)).trans ((upd_ne _ _ (by decide)).trans h2)),(by rw [upd_same,h6,(congrArg Blk.ver h812)]; rfl),((upd_ne _ _ (by decide)).trans ((upd_ne _ _ (by decide)).trans h8)),((upd_ne _ _ (by decide)).trans ((upd_ne _ _ (by decide)).trans h9)),((upd_ne _ _ (by decide)).trans ((upd_ne _ _ (by decide)).trans h11)),⟨(congrArg Blk.ver ((upd_ne _ _ (by decide)).trans (upd_ne _ _ (by decide)))).trans (h25).1,(congrArg Blk.live ((upd_ne _ _ (by decide)).trans (upd_ne _ _ (by decide)))).trans (h25).2⟩,((upd_ne _ _ (by decide)).trans ((upd_ne _ _ (by decide)).trans h27)),(by rw [upd_ne _ _ (by decide),upd_same,(congrArg Blk.ver h812)]),((upd_ne _ _ (by decide)).trans ((upd_ne _ _ (by decide)).trans h813)),trivial⟩ ?_)
 intro T H ⟨t1,t2,t5,t6,t7,h1,h2,h6,h8,h9,h11,h25,h27,h812,h813,_⟩
 refine .lazyCell 813 38 1 6 0 3 [(iV ((t.i)+(t.tm))),(iV (0:Int)),(V.ms 812 1 0 (0)),V.nilsl] (by decide) (by rw [h6]; rfl) (by rw [h6]; rfl) rfl (.done ?_)
 refine fork_ (R:=fun T H=>T 1=(V.mp 1 1 0 0)∧T 2=(V.mp 2 1 0 0)∧T 5=(V.ms 27 1 0 (1))∧T 6=(V.mp 6 1 0 0)∧T 7=(iV (0:Int))∧H 1=(bk 1 29 6 [[(iV (t.i)),(iV (t.tm)),(iV (t.s)),(intss t.nx),(intss t.ot),(V.sl (List.map cSr (t.st)))]])∧H 2=(bk 1 24 4 [[(iV (0:Int)),(iV (0:Int)),V.nilsl,V.nilsl]])∧H 6=(bk 1 24 4 [[(iV ((t.i)+(t.tm))),(iV (0:Int)),(V.ms 812 1 0 (0)),(V.ms 813 1 0 (0))]])∧H 8=(⟨0,false,false,0,0,[]⟩:Blk)∧H 9=(⟨0,false,false,0,0,[]⟩:Blk)∧H 11=(⟨0,false,false,0,0,[]⟩:Blk)∧((H 25).ver=1∧(H 25).live=false)∧H 27=(bk 1 95 2 [[(iV (t.s)),(V.sl (List.map cB (List.replicate ((t.tm).toNat) false)))]])∧H 812=(bz 1 38 1 [])∧H 813=(bz 1 38 1 [])∧True) ⟨t1,t2,t5,t6,t7,((upd_ne _ _ (by decide)).trans ((upd_ne _ _ (by decide)).trans h1)),((upd_ne _ _ (by decide)).trans ((upd_ne _ _ (by decide)).trans h2)),(by rw [upd_same,h6,(congrArg Blk.ver h813)]; rfl),((upd_ne _ _ (by decide)).trans ((upd_ne _ _ (by decide)).trans h8)),((upd_ne _ _ (by decide)).trans ((upd_ne _ _ (by decide)).trans h9)),((upd_ne _ _ (by decide)).trans ((upd_ne _ _ (by decide)).trans h11)),⟨(congrArg Blk.ver ((upd_ne _ _ (by decide)).trans (upd_ne _ _ (by decide)))).trans (h25).1,(congrArg Blk.live ((upd_ne _ _ (by decide)).trans (upd_ne _ _ (by decide)))).trans (h25).2⟩,((upd_ne _ _ (by decide)).trans ((upd_ne _ _ (by decide)).trans h27)),((upd_ne _ _ (by decide)).trans ((upd_ne _ _ (by decide)).trans h812)),(by rw [upd_ne _ _ (by decide),upd_same,(congrArg Blk.ver h813)]),trivial⟩ ?_
 intro T H ⟨t1,t2,t5,t6,t7,h1,h2,h6,h8,h9,h11,h25,h27,h812,h813,_⟩
 refine W_seq_blockg fun Q2 n2 x2 y2 z2=>?_
 refine W_loop (fun mm T H=> ∃ (k:Nat) (U:UM) (v0:Nat) (v1:Nat) (v2:Nat) (v8:Nat) (v9:Nat) (v11:Nat),mm=129 - k∧T 1=(V.mp 1 1 0 0)∧T 2=(V.mp 2 1 0 0)∧T 5=(V.ms 27 v0 0 (U.l.length))∧T 6=(V.mp 6 1 0 0)∧T 7=(iV ((k:Nat):Int))∧H 1=(bk 1 29 6 [[(iV (t.i)),(iV (t.tm)),(iV (t.s)),(intss t.nx),(intss t.ot),(V.sl (List.map cSr (t.st)))]])∧H 2=(bk 1 24 4 [[(iV (0:Int)),(iV (0:Int)),V.nilsl,V.nilsl]])∧H 6=(bk 1 24 4 [[(iV (t.i+t.tm)),(iV (0:Int)),(V.ms 812 v1 0 (U.nx.length)),(V.ms 813 v2 0 (U.ot.length))]])∧((H 8).ver=v8∧(H 8).live=false)∧((H 9).ver=v9∧(H 9).live=false)∧((H 11).ver=v11∧(H 11).live=false)∧((H 25).ver=1∧(H 25).live=false)∧H 27=(bk v0 95 2 (List.map cCf (U.l)))∧H 812=(bz v1 38 1 (List.map cL (U.nx)))∧H 813=(bz v2 38 1 (List.map cL (U.ot)))∧(k≤U.l.length)∧(UOK t U.l)∧(U.nx.length=k∧U.ot.length=k)∧(unX t=unOut t (129 - k) k U)) ?_ ?_
 ·
  refine ⟨_,0,(ini t),1,1,1,0,0,0,rfl,t1,t2,(Eq.trans t5 (by first|rfl|(rw [e7,List.length_append]; rfl)|(rw [e7]; done)|simp)),t6,(Eq.trans t7 rfl),h1,h2,(Eq.trans h6 (by first|rfl|(rw [e7,List.map_append]; rfl)|(rw [e7]; done)|(rw [e7]; rfl)|simp)),⟨(congrArg Blk.ver h8),congrArg Blk.live h8⟩,⟨(congrArg Blk.ver h9),congrArg Blk.live h9⟩,⟨(congrArg Blk.ver h11),congrArg Blk.live h11⟩,h25,(Eq.trans h27 (by first|rfl|(rw [e7,List.map_append]; rfl)|(rw [e7]; done)|(rw [e7]; rfl)|simp)),(Eq.trans h812 (by first|rfl|(rw [e7,List.map_append]; rfl)|(rw [e7]; done)|(rw [e7]; rfl)|simp)),(Eq.trans h813 (by first|rfl|(rw [e7,List.map_append]; rfl)|(rw [e7]; done)|(rw [e7]; rfl)|simp)),?_,?_,?_,?_⟩
  · exact Nat.zero_le _
  · exact ini_ok ht
  · exact ⟨rfl,rfl⟩
  · rfl
 intro mm T H ⟨k,U,v0,v1,v2,v8,v9,v11,hmm,t1,t2,t5,t6,t7,h1,h2,h6,h8,h9,h11,h25,h27,h812,h813,hk,hu,hl,hc⟩ Q3 p13 p23 p33
 unfold b21_0
 refine W_seq_seq (W_r (R_mv t7 (R_mv t5 (R_len_ms rfl h27 (by first|rfl|simp) (R_lss rfl rfl (R_e ?_))))))
 refine W_seq_if rfl (fun c4=>?_) fun c4=>?_
 ·
  have gl:=hu.len
  refine W_seq_skip (W_seq_blockg fun Q5 n5 x5 y5 z5=>(W_r (R_lazy (i:=8) (n:=v8) rfl (h8).1 (R_lazy (i:=9) (n:=v9) rfl (h9).1 (R_e (W_seq_seq (W_r ?_)))))))
  refine R_mv rfl (R_e (W_seq_blockg fun Q6 n6 x6 y6 z6=>?_))
  refine W_loop (fun mm T H=> ∃ (i:Nat) (S:US) (w0:Nat) (w1:Nat) (w2:Nat) (v11:Nat),mm=(t.i+t.tm).toNat - i∧T 1=(V.mp 1 1 0 0)∧T 2=(V.mp 2 1 0 0)∧T 5=(V.ms 27 w0 0 (S.l.length))∧T 6=(V.mp 6 1 0 0)∧T 7=(iV ((k:Nat):Int))∧T 8=(V.ms 8 w1 0 (S.a.length))∧T 9=(V.ms 9 w2 0 (S.b.length))∧T 10=(iV ((i:Nat):Int))∧H 1=(bk 1 29 6 [[(iV (t.i)),(iV (t.tm)),(iV (t.s)),(intss t.nx),(intss t.ot),(V.sl (List.map cSr (t.st)))]])∧H 2=(bk 1 24 4 [[(iV (0:Int)),(iV (0:Int)),V.nilsl,V.nilsl]])∧H 6=(bk 1 24 4 [[(iV (t.i+t.tm)),(iV (0:Int)),(V.ms 812 v1 0 (U.nx.length)),(V.ms 813 v2 0 (U.ot.length))]])∧H 8=(bz w1 3 1 (List.map cI (S.a)))∧H 9=(bz w2 3 1 (List.map cI (S.b)))∧((H 11).ver=v11∧(H 11).live=false)∧((H 25).ver=1∧(H 25).live=false)∧H 27=(bk w0 95 2 (List.map cCf (S.l)))∧H 812=(bz v1 38 1 (List.map cL (U.nx)))∧H 813=(bz v2 38 1 (List.map cL (U.ot)))∧(i≤(t.i+t.tm).toNat)∧(UOK t S.l)∧(nth S.l k=nth U.l k∧U.l.length≤S.l.length)∧(S.a.length=i∧S.b.length=i)∧(unRow t k (t.i+t.tm).toNat 0 ⟨U.l,[],[]⟩=unRow t k ((t.i+t.tm).toNat - i) i S)) ?_ ?_
  ·
   refine ⟨_,0,⟨U.l,[],[]⟩,v0,(v8+1),(v9+1),v11,rfl,t1,t2,(Eq.trans t5 (by first|rfl|(rw [e7,List.length_append]; rfl)|(rw [e7]; done)|simp)),t6,t7,(Eq.trans (@rfl V (V.ms 8 (v8+1) 0 (0))) (by first|rfl|(rw [e7,List.length_append]; rfl)|(rw [e7]; done)|simp)),(Eq.trans (@rfl V (V.ms 9 (v9+1) 0 (0))) (by first|rfl|(rw [e7,List.length_append]; rfl)|(rw [e7]; done)|simp)),(Eq.trans (@rfl V (iV (0:Int))) rfl),h1,h2,h6,(Eq.trans (@rfl Blk (bz (v8+1) 3 1 [])) (by first|rfl|(rw [e7,List.map_append]; rfl)|(rw [e7]; done)|(rw [e7]; rfl)|simp)),(Eq.trans (@rfl Blk (bz (v9+1) 3 1 [])) (by first|rfl|(rw [e7,List.map_append]; rfl)|(rw [e7]; done)|(rw [e7]; rfl)|simp)),h11,h25,(Eq.trans h27 (by first|rfl|(rw [e7,List.map_append]; rfl)|(rw [e7]; done)|(rw [e7]; rfl)|simp)),h812,h813,?_,?_,?_,?_,?_⟩
   · exact Nat.zero_le _
   · exact hu
   · exact ⟨rfl,Nat.le_refl _⟩
   · exact ⟨rfl,rfl⟩
   · rfl
  intro mm T H ⟨i,S,w0,w1,w2,v11,hmm,t1,t2,t5,t6,t7,t8,t9,t10,h1,h2,h6,h8,h9,h11,h25,h27,h812,h813,hi,hs,hsl,hab,hr⟩ Q7 p17 p27 p37
  unfold b21_1
  refine W_seq_seq (W_r (R_mv t10 (R_fk t6 h6 (R_lk rfl h6 rfl rfl (R_lss rfl rfl (R_e ?_))))))
  refine W_seq_if rfl (fun c8=>?_) fun c8=>?_
  ·
   have cok:=hs.at (k:=k) (by omega)
   have hsn:=hs.len
   have gr:=(g12 (nth S.l k).1.toNat (by have:=cok.1; have:=cok.2.1; omega))
   have gx:=gr.2.2.2 i (by omega)
   have ca:=cok.1
   have cb:=cok.2.1
   have hM:=un_mul (o:=nth (nth t.ot (nth S.l k).1.toNat) i) (tm:=t.tm) ⟨gx.2.2.1,gx.2.2.2.1⟩ ⟨g3,g4⟩
   have hA:=afC_rng ht cok (show (i:Int) < t.i+t.tm by omega)
   have aok:=afT_ok ht cok (show (i:Int) < t.i+t.tm by omega)
   have hpl:=plc_le S.l (afT t (nth S.l k) i)
   refine W_seq_skip (W_seq_blockg fun Q9 n9 x9 y9 z9=>(W_seq_seq (W_r (R_lk t1 h1 rfl rfl (R_mv t5 (R_mv t7 (R_idx_ms0 (i:=k) (@rfl V (V.ms 27 w0 0 (S.l.length))) (@rfl V (iV ((k:Nat):Int))) h27 oB rfl (by omega) ?_)))))))
   refine R_load_mp (v:=(V.agg [(iV (((nth (S.l) (k))).1)),(V.sl (List.map cB (((nth (S.l) (k))).2)))])) rfl h27 (ldB_map (by omega) (by first|rfl|(rw [cF_eq]; rfl)|simp [ldV,V.one])) (R_mv t10 (R_callk (poss_pure t (((nth (S.l) (k)))) i ht cok (by omega)) rfl (R_notb rfl (R_e ?_))))
   refine W_seq_ifb rfl (fun c10=>?_) (fun c10=>?_)
   ·
    have d3:psB t (nth S.l k) i=false:=by simpa using c10
    refine W_seq_seq (W_r (R_mv t8 (R_mv t7 (R_bslice rfl rfl (R_append1 (l:=S.a) (f:=cI) (x:=(((k:Nat):Int))) (@rfl V (V.ms 8 w1 0 (S.a.length))) h8 (by first|rfl|simp|omega) (@rfl V (V.sl [[(iV ((k:Nat):Int))]])) rfl rfl (by omega) (by omega) (R_mv rfl (R_e ?_)))))))
    refine W_seq_seq (W_r (R_mv t9 (R_bslice rfl rfl (R_append1 (l:=S.b) (f:=cI) (x:=0) (@rfl V (V.ms 9 w2 0 (S.b.length))) h9 (by first|rfl|simp|omega) (@rfl V (V.sl [[(iV (0:Int))]])) rfl rfl (by omega) (by omega) (R_mv rfl (R_e (W_seq_exit ?_)))))))
    refine x9 _ _ (.done (W_t (R_mv t10 (R_addN rfl (@rfl V (iV ((1:Nat):Int))) (by omega) (R_mv rfl (R_e ?_))))))
    refine p17 _ _ _ ?_ ⟨(i+1),⟨S.l,S.a++[((k:Nat):Int)],S.b++[0]⟩,w0,(w1+1),(w2+1),v11,rfl,t1,t2,(Eq.trans t5 (by first|rfl|(rw [e7,List.length_append]; rfl)|(rw [e7]; done)|simp)),t6,t7,(Eq.trans (@rfl V (V.ms 8 (w1+1) 0 (S.a.length+1))) (by first|rfl|(rw [e7,List.length_append]; rfl)|(rw [e7]; done)|simp)),(Eq.trans (@rfl V (V.ms 9 (w2+1) 0 (S.b.length+1))) (by first|rfl|(rw [e7,List.length_append]; rfl)|(rw [e7]; done)|simp)),(Eq.trans (@rfl V (iV ((i+1:Nat):Int))) (by first|rfl|(rw [e7,List.length_append]; rfl)|(rw [e7]; done)|simp)),h1,h2,h6,(Eq.trans (@rfl Blk (bz (w1+1) 3 1 (List.map cI (S.a++[((k:Nat):Int)])))) (by first|rfl|(rw [e7,List.map_append]; rfl)|(rw [e7]; done)|(rw [e7]; rfl)|simp)),(Eq.trans (@rfl Blk (bz (w2+1) 3 1 (List.map cI (S.b++[0])))) (by first|rfl|(rw [e7,List.map_append]; rfl)|(rw [e7]; done)|(rw [e7]; rfl)|simp)),h11,h25,(Eq.trans h27 (by first|rfl|(rw [e7,List.map_append]; rfl)|(rw [e7]; done)|(rw [e7]; rfl)|simp)),h812,h813,?_,?_,?_,?_,?_⟩
    · omega
    · omega
    · first|exact hs|exact hs.add aok d6
    · first|exact hsl|exact ⟨(unAdd_nth (by omega)).1.trans hsl.1,Nat.le_trans hsl.2 (unAdd_nth (k:=k) (by omega)).2⟩
    · simp only [List.length_append,List.length_singleton]; omega
    · first|exact hr.trans (unRow_no (by omega) d3)|exact hr.trans (unRow_go (by omega) d3b d5 d6)
   have d3:psB t (nth S.l k) i=true:=by simpa using c10
   have d3b: ¬psB t (nth S.l k) i=false:=by rw [d3]; decide
   refine W_seq_skip (W_d (by exact (lateC (h11).2 lateN)) (R_lk t1 h1 rfl rfl (R_mv t5 (R_mv t7 (R_idx_ms0 (i:=k) (@rfl V (V.ms 27 w0 0 (S.l.length))) (@rfl V (iV ((k:Nat):Int))) h27 oB rfl (by omega) (R_load_mp (v:=(V.agg [(iV (((nth (S.l) (k))).1)),(V.sl (List.map cB (((nth (S.l) (k))).2)))])) rfl h27 (ldB_map (by omega) (by first|rfl|(rw [cF_eq]; rfl)|simp [ldV,V.one])) (R_mv t10 ?_)))))))
   refine R_callk (after_pure t (((nth (S.l) (k)))) i ht cok (by omega) d3) rfl (R_mv rfl (R_ext rfl rfl (R_ext rfl rfl (R_alloc (i:=11) (n:=v11) (m:=2) rfl (h11).1 rfl (R_store (vs:=[(iV ((afT t (((nth (S.l) (k)))) i).1)),(V.sl (List.map cB ((afT t (((nth (S.l) (k)))) i).2)))]) (B':=(bk (v11+1) 95 2 [[(iV ((afT t (((nth (S.l) (k)))) i).1)),(V.sl (List.map cB ((afT t (((nth (S.l) (k)))) i).2)))]])) rfl rfl rfl rfl (sB oB rfl rfl rfl rfl rfl) (R_mv rfl (R_e ?_)))))))
   refine W_seq_regc (fun T H=>T 1=(V.mp 1 1 0 0)∧T 2=(V.mp 2 1 0 0)∧T 5=(V.ms 27 w0 0 (S.l.length))∧T 6=(V.mp 6 1 0 0)∧T 7=(iV ((k:Nat):Int))∧T 8=(V.ms 8 w1 0 (S.a.length))∧T 9=(V.ms 9 w2 0 (S.b.length))∧T 10=(iV ((i:Nat):Int))∧T 11=(V.mp 11 (v11+1) 0 0)∧T 13=(iV (((1:Int)+(((nth ((nth (t.ot) (((nth (S.l) (k))).1).toNat)) (i)))*(sgK ((t.tm)))))+(afC t (((nth (S.l) (k)))) i)))∧H 1=(bk 1 29 6 [[(iV (t.i)),(iV (t.tm)),(iV (t.s)),(intss t.nx),(intss t.ot),(V.sl (List.map cSr (t.st)))]])∧H 2=(bk 1 24 4 [[(iV (0:Int)),(iV (0:Int)),V.nilsl,V.nilsl]])∧H 6=(bk 1 24 4 [[(iV (t.i+t.tm)),(iV (0:Int)),(V.ms 812 v1 0 (U.nx.length)),(V.ms 813 v2 0 (U.ot.length))]])∧H 8=(bz w1 3 1 (List.map cI (S.a)))∧H 9=(bz w2 3 1 (List.map cI (S.b)))∧H 11=(bk (v11+1) 95 2 [[(iV ((afT t (((nth (S.l) (k)))) i).1)),(V.sl (List.map cB ((afT t (((nth (S.l) (k)))) i).2)))]])∧((H 25).ver=1∧(H 25).live=false)∧H 27=(bk w0 95 2 (List.map cCf (S.l)))∧H 812=(bz v1 38 1 (List.map cL (U.nx)))∧H 813=(bz v2 38 1 (List.map cL (U.ot)))∧True) ?_ ?_
   ·
    refine R_fk t1 h1 (R_lk rfl h1 rfl rfl (R_mv t5 (R_mv t7 (R_idx_ms0 (i:=k) (@rfl V (V.ms 27 w0 0 (S.l.length))) (@rfl V (iV ((k:Nat):Int))) h27 oB rfl (by omega) (R_fk rfl h27 (R_load_mp (v:=(iV (((nth (S.l) (k))).1))) rfl h27 (ldB_map (by omega) (by first|rfl|(rw [cF_eq]; rfl)|simp [ldV,V.one])) (R_idxI (i:=(((nth (S.l) (k))).1)) (@rfl V (intss t.ot)) (@rfl V (iV (((nth (S.l) (k))).1))) (by omega) (by omega) rfl ?_)))))))
    refine R_load_pp rfl rfl (R_mv t10 (R_idx (i:=i) (@rfl V (ints ((nth (t.ot) (((nth (S.l) (k))).1).toNat)))) (@rfl V (iV ((i:Nat):Int))) (by omega) rfl (R_load_pp rfl rfl (R_fk t1 h1 (R_lk rfl h1 rfl rfl (R_callk (scale_pure ((t.tm)) ⟨by omega,by omega⟩) rfl (R_mul rfl rfl (by omega) (by omega) ?_)))))))
    refine R_add rfl rfl (by omega) (by omega) (R_mv rfl (R_add rfl rfl (by omega) (by omega) (R_mv rfl ?_)))
    exact R_nil ⟨t1,t2,t5,t6,t7,t8,t9,t10,rfl,rfl,h1,h2,h6,h8,h9,rfl,h25,h27,h812,h813,trivial⟩
   intro T H ⟨t1,t2,t5,t6,t7,t8,t9,t10,t11,t13,h1,h2,h6,h8,h9,h11,h25,h27,h812,h813,_⟩
   refine W_seq_seq (W_r (R_mv t13 (R_gtr rfl rfl (R_e ?_))))
   refine W_seq_if rfl (fun c11=>?_) fun c11=>?_
   ·
    have hx:=hc.trans (unOut_stop (by omega) (by omega) (hr.trans (unRow_2 (by omega) d3b c11)) (by decide))
    refine W_seq_seq (W_r (R_build rfl rfl (R_store (vs:=[(iV (0:Int)),(iV (0:Int)),V.nilsl,V.nilsl]) (B':=(bk 1 24 4 [[(iV (0:Int)),(iV (0:Int)),V.nilsl,V.nilsl]])) t2 rfl rfl h2 (sB oB rfl rfl rfl rfl rfl) (R_mv rfl (R_e (W_seq_ret (y9 _ _ ?_)))))))
    refine p27 _ _ (y6 _ _ (y5 _ _ (p23 _ _ (y2 _ _ ?_))))
    refine RetC_2 (resV_c (u:=(V.agg [(iV (0:Int)),(iV (0:Int)),V.nilsl,V.nilsl])) t2 (@rfl Blk (bk 1 24 4 [[(iV (0:Int)),(iV (0:Int)),V.nilsl,V.nilsl]])) (lB oB rfl rfl)) (resV_t (@rfl V (iV (2:Int)))) (fz_aggL (mcons (fz_int ?_) (mcons (fz_int ?_) (mcons (fz_nil ?_) (mcons (fz_nil ?_) rfl))))) (fz_int ?_)
    · rw [unM_no (by rw [unE_x d1 hx]; first|decide|exact d1)]; try rfl
    · rw [unM_no (by rw [unE_x d1 hx]; first|decide|exact d1)]; try rfl
    · rw [unM_no (by rw [unE_x d1 hx]; first|decide|exact d1)]; try rfl
    · rw [unM_no (by rw [unE_x d1 hx]; first|decide|exact d1)]; try rfl
    · rw [unE_x d1 hx]
   have d5: ¬1048576 < unO t (nth S.l k) i:=c11
   refine W_seq_skip (W_r (R_mv t5 (R_lk t11 h11 rfl rfl (R_call (evcons (@rfl V (V.ms 27 w0 0 (S.l.length))) (evcons (@rfl V (V.agg [(iV ((afT t (((nth (S.l) (k)))) i).1)),(V.sl (List.map cB ((afT t (((nth (S.l) (k)))) i).2)))])) evnil)) (place41_pure S.l ((afT t (((nth (S.l) (k)))) i)) (fun d hd=>by rw [(hs.all d hd).2.2]; exact (aok.2.2).symm)) (mcons (fz_mst h27 (by first|rfl|simp) (take_map (l:=S.l) (by first|rfl|simp|omega)) (fun _=>by simp)) (mcons (fzv_canon 6 _ (by simp [-List.map_take,-List.map_drop,-List.map_append,-List.map_reverse])) rfl)) (by simp [-List.map_take,-List.map_drop,-List.map_append,-List.map_reverse]) (Or.inr rfl) (R_mv rfl (R_e (W_seq_seq ?_)))))))
   refine W_r (R_mv rfl (R_mv t5 (R_len_ms rfl h27 (by first|rfl|simp) (R_eql rfl rfl (R_e ?_)))))
   refine W_seq_J (fun T H=> ∃ (w4:Nat),T 1=(V.mp 1 1 0 0)∧T 2=(V.mp 2 1 0 0)∧T 6=(V.mp 6 1 0 0)∧T 7=(iV ((k:Nat):Int))∧T 8=(V.ms 8 w1 0 (S.a.length))∧T 9=(V.ms 9 w2 0 (S.b.length))∧T 10=(iV ((i:Nat):Int))∧T 13=(iV (((1:Int)+(((nth ((nth (t.ot) (((nth (S.l) (k))).1).toNat)) (i)))*(sgK ((t.tm)))))+(afC t (((nth (S.l) (k)))) i)))∧T 14=(iV ((plc S.l ((afT t (((nth (S.l) (k)))) i)):Nat):Int))∧T 5=(V.ms 27 w4 0 ((unAdd S.l (afT t (nth S.l k) i)).length))∧H 1=(bk 1 29 6 [[(iV (t.i)),(iV (t.tm)),(iV (t.s)),(intss t.nx),(intss t.ot),(V.sl (List.map cSr (t.st)))]])∧H 2=(bk 1 24 4 [[(iV (0:Int)),(iV (0:Int)),V.nilsl,V.nilsl]])∧H 6=(bk 1 24 4 [[(iV (t.i+t.tm)),(iV (0:Int)),(V.ms 812 v1 0 (U.nx.length)),(V.ms 813 v2 0 (U.ot.length))]])∧H 8=(bz w1 3 1 (List.map cI (S.a)))∧H 9=(bz w2 3 1 (List.map cI (S.b)))∧H 11=(bk (v11+1) 95 2 [[(iV ((afT t (((nth (S.l) (k)))) i).1)),(V.sl (List.map cB ((afT t (((nth (S.l) (k)))) i).2)))]])∧((H 25).ver=1∧(H 25).live=false)∧H 27=(bk w4 95 2 (List.map cCf (unAdd S.l (afT t (nth S.l k) i))))∧H 812=(bz v1 38 1 (List.map cL (U.nx)))∧H 813=(bz v2 38 1 (List.map cL (U.ot)))∧(¬(plc S.l (afT t (nth S.l k) i)=S.l.length∧plc S.l (afT t (nth S.l k) i)=128))∧True) (fun Q12 n12 y12 z12=>?_) ?_
   ·
    refine W_if rfl (fun c13=>?_) fun c13=>?_
    ·
     have d7:plc S.l (afT t (nth S.l k) i)=S.l.length:=by omega
     have e7:unAdd S.l (afT t (nth S.l k) i)=S.l++[(afT t (nth S.l k) i)]:=if_pos d7
     refine W_seq_seq (W_r (R_mv rfl (R_eql rfl rfl (R_e ?_))))
     refine W_seq_if rfl (fun c14=>?_) fun c14=>?_
     ·
      have hx:=hc.trans (unOut_stop (by omega) (by omega) (hr.trans (unRow_3 (by omega) d3b d5 ⟨d7,by omega⟩)) (by decide))
      refine W_seq_seq (W_r (R_build rfl rfl (R_store (vs:=[(iV (0:Int)),(iV (0:Int)),V.nilsl,V.nilsl]) (B':=(bk 1 24 4 [[(iV (0:Int)),(iV (0:Int)),V.nilsl,V.nilsl]])) t2 rfl rfl h2 (sB oB rfl rfl rfl rfl rfl) (R_mv rfl (R_e (W_seq_ret (y12 _ _ ?_)))))))
      refine y9 _ _ (p27 _ _ (y6 _ _ (y5 _ _ (p23 _ _ (y2 _ _ ?_)))))
      refine RetC_2 (resV_c (u:=(V.agg [(iV (0:Int)),(iV (0:Int)),V.nilsl,V.nilsl])) t2 (@rfl Blk (bk 1 24 4 [[(iV (0:Int)),(iV (0:Int)),V.nilsl,V.nilsl]])) (lB oB rfl rfl)) (resV_t (@rfl V (iV (11:Int)))) (fz_aggL (mcons (fz_int ?_) (mcons (fz_int ?_) (mcons (fz_nil ?_) (mcons (fz_nil ?_) rfl))))) (fz_int ?_)
      · rw [unM_no (by rw [unE_x d1 hx]; first|decide|exact d1)]; try rfl
      · rw [unM_no (by rw [unE_x d1 hx]; first|decide|exact d1)]; try rfl
      · rw [unM_no (by rw [unE_x d1 hx]; first|decide|exact d1)]; try rfl
      · rw [unM_no (by rw [unE_x d1 hx]; first|decide|exact d1)]; try rfl
      · rw [unE_x d1 hx]
     have d6: ¬(plc S.l (afT t (nth S.l k) i)=S.l.length∧plc S.l (afT t (nth S.l k) i)=128):=fun z=>c14 (by omega)
     refine W_seq_skip (W_t (R_mv t5 (R_lk t11 h11 rfl rfl (R_bslice rfl rfl (R_append1 (l:=S.l) (f:=cCf) (x:=((afT t (((nth (S.l) (k)))) i))) (@rfl V (V.ms 27 w0 0 (S.l.length))) h27 (by first|rfl|simp|omega) (@rfl V (V.sl [[(iV ((afT t (((nth (S.l) (k)))) i).1)),(V.sl (List.map cB ((afT t (((nth (S.l) (k)))) i).2)))]])) rfl rfl (by omega) (by omega) (R_mv rfl (R_e ?_)))))))
     refine n12 _ _ ⟨(w0+1),t1,t2,t6,t7,t8,t9,t10,t13,rfl,(Eq.trans (@rfl V (V.ms 27 (w0+1) 0 (S.l.length+1))) (by first|rfl|(rw [e7,List.length_append]; rfl)|(rw [e7]; done)|simp)),h1,h2,h6,h8,h9,h11,h25,(Eq.trans (@rfl Blk (bk (w0+1) 95 2 (List.map cCf (S.l++[(afT t (((nth (S.l) (k)))) i)])))) (by first|rfl|(rw [e7,List.map_append]; rfl)|(rw [e7]; done)|(rw [e7]; rfl)|simp)),h812,h813,?_,trivial⟩
     · exact d6
    have d7: ¬plc S.l (afT t (nth S.l k) i)=S.l.length:=by omega
    have e7:unAdd S.l (afT t (nth S.l k) i)=S.l:=if_neg d7
    have d6: ¬(plc S.l (afT t (nth S.l k) i)=S.l.length∧plc S.l (afT t (nth S.l k) i)=128):=fun z=>d7 z.1
    refine W_skip ?_
    refine n12 _ _ ⟨w0,t1,t2,t6,t7,t8,t9,t10,t13,rfl,(Eq.trans t5 (by first|rfl|(rw [e7,List.length_append]; rfl)|(rw [e7]; done)|simp)),h1,h2,h6,h8,h9,h11,h25,(Eq.trans h27 (by first|rfl|(rw [e7,List.map_append]; rfl)|(rw [e7]; done)|(rw [e7]; rfl)|simp)),h812,h813,?_,trivial⟩
    · exact d6
   intro T H ⟨w4,t1,t2,t6,t7,t8,t9,t10,t13,t14,t5,h1,h2,h6,h8,h9,h11,h25,h27,h812,h813,d6,_⟩
   refine W_r (R_mv t8 (R_mv t14 (R_bslice rfl rfl (R_append1 (l:=S.a) (f:=cI) (x:=(((plc S.l ((afT t (((nth (S.l) (k)))) i)):Nat):Int))) (@rfl V (V.ms 8 w1 0 (S.a.length))) h8 (by first|rfl|simp|omega) (@rfl V (V.sl [[(iV ((plc S.l ((afT t (((nth (S.l) (k)))) i)):Nat):Int))]])) rfl rfl (by omega) (by omega) (R_mv rfl (R_e (W_t ?_)))))))
   refine R_mv t9 (R_mv t13 (R_bslice rfl rfl (R_append1 (l:=S.b) (f:=cI) (x:=((((1:Int)+(((nth ((nth (t.ot) (((nth (S.l) (k))).1).toNat)) (i)))*(sgK ((t.tm)))))+(afC t (((nth (S.l) (k)))) i)))) (@rfl V (V.ms 9 w2 0 (S.b.length))) h9 (by first|rfl|simp|omega) (@rfl V (V.sl [[(iV (((1:Int)+(((nth ((nth (t.ot) (((nth (S.l) (k))).1).toNat)) (i)))*(sgK ((t.tm)))))+(afC t (((nth (S.l) (k)))) i)))]])) rfl rfl (by omega) (by omega) (R_mv rfl (R_e (n9 _ _ (fork_ (R:=fun T H=>T 1=(V.mp 1 1 0 0)∧T 2=(V.mp 2 1 0 0)∧T 5=(V.ms 27 w4 0 ((unAdd S.l (afT t (nth S.l k) i)).length))∧T 6=(V.mp 6 1 0 0)∧T 7=(iV ((k:Nat):Int))∧T 8=(V.ms 8 (w1+1) 0 (S.a.length+1))∧T 9=(V.ms 9 (w2+1) 0 (S.b.length+1))∧T 10=(iV ((i:Nat):Int))∧H 1=(bk 1 29 6 [[(iV (t.i)),(iV (t.tm)),(iV (t.s)),(intss t.nx),(intss t.ot),(V.sl (List.map cSr (t.st)))]])∧H 2=(bk 1 24 4 [[(iV (0:Int)),(iV (0:Int)),V.nilsl,V.nilsl]])∧H 6=(bk 1 24 4 [[(iV (t.i+t.tm)),(iV (0:Int)),(V.ms 812 v1 0 (U.nx.length)),(V.ms 813 v2 0 (U.ot.length))]])∧H 8=(bz (w1+1) 3 1 (List.map cI (S.a++[((plc S.l ((afT t (((nth (S.l) (k)))) i)):Nat):Int)])))∧H 9=(bz (w2+1) 3 1 (List.map cI (S.b++[(((1:Int)+(((nth ((nth (t.ot) (((nth (S.l) (k))).1).toNat)) (i)))*(sgK ((t.tm)))))+(afC t (((nth (S.l) (k)))) i))])))∧H 11=(bk (v11+1) 95 2 [[(iV ((afT t (((nth (S.l) (k)))) i).1)),(V.sl (List.map cB ((afT t (((nth (S.l) (k)))) i).2)))]])∧((H 25).ver=1∧(H 25).live=false)∧H 27=(bk w4 95 2 (List.map cCf (unAdd S.l (afT t (nth S.l k) i))))∧H 812=(bz v1 38 1 (List.map cL (U.nx)))∧H 813=(bz v2 38 1 (List.map cL (U.ot)))∧True) ⟨t1,t2,t5,t6,t7,(@rfl V (V.ms 8 (w1+1) 0 (S.a.length+1))),(@rfl V (V.ms 9 (w2+1) 0 (S.b.length+1))),t10,h1,h2,h6,rfl,rfl,h11,h25,h27,h812,h813,trivial⟩ ?_)))))))
   intro T H ⟨t1,t2,t5,t6,t7,t8,t9,t10,h1,h2,h6,h8,h9,h11,h25,h27,h812,h813,_⟩
   refine .freeze 11 (.done ?_)
   refine fork_ (R:=fun T H=>T 1=(V.mp 1 1 0 0)∧T 2=(V.mp 2 1 0 0)∧T 5=(V.ms 27 w4 0 ((unAdd S.l (afT t (nth S.l k) i)).length))∧T 6=(V.mp 6 1 0 0)∧T 7=(iV ((k:Nat):Int))∧T 8=(V.ms 8 (w1+1) 0 (S.a.length+1))∧T 9=(V.ms 9 (w2+1) 0 (S.b.length+1))∧T 10=(iV ((i:Nat):Int))∧H 1=(bk 1 29 6 [[(iV (t.i)),(iV (t.tm)),(iV (t.s)),(intss t.nx),(intss t.ot),(V.sl (List.map cSr (t.st)))]])∧H 2=(bk 1 24 4 [[(iV (0:Int)),(iV (0:Int)),V.nilsl,V.nilsl]])∧H 6=(bk 1 24 4 [[(iV (t.i+t.tm)),(iV (0:Int)),(V.ms 812 v1 0 (U.nx.length)),(V.ms 813 v2 0 (U.ot.length))]])∧H 8=(bz (w1+1) 3 1 (List.map cI (S.a++[((plc S.l ((afT t (((nth (S.l) (k)))) i)):Nat):Int)])))∧H 9=(bz (w2+1) 3 1 (List.map cI (S.b++[(((1:Int)+(((nth ((nth (t.ot) (((nth (S.l) (k))).1).toNat)) (i)))*(sgK ((t.tm)))))+(afC t (((nth (S.l) (k)))) i))])))∧((H 11).ver=v11+1∧(H 11).live=false)∧((H 25).ver=1∧(H 25).live=false)∧H 27=(bk w4 95 2 (List.map cCf (unAdd S.l (afT t (nth S.l k) i))))∧H 812=(bz v1 38 1 (List.map cL (U.nx)))∧H 813=(bz v2 38 1 (List.map cL (U.ot)))∧True) ⟨(fzT_q t1 rfl),(fzT_q t2 rfl),(fzT_q t5 (fzq_other (by decide))),(fzT_q t6 rfl),(fzT_q t7 rfl),(fzT_q t8 (fzq_other (by decide))),(fzT_q t9 (fzq_other (by decide))),(fzT_q t10 rfl),(kill_ne h1 (by decide)),(kill_ne h2 (by decide)),(kill_ne h6 (by decide)),(kill_ne h8 (by decide)),(kill_ne h9 (by decide)),(kill_self (congrArg Blk.ver h11)),(kill_dead h25),(kill_ne h27 (by decide)),(kill_ne h812 (by decide)),(kill_ne h813 (by decide)),trivial⟩ ?_
   intro T H ⟨t1,t2,t5,t6,t7,t8,t9,t10,h1,h2,h6,h8,h9,h11,h25,h27,h812,h813,_⟩
   refine W_t (R_mv t10 (R_addN rfl (@rfl V (iV ((1:Nat):Int))) (by omega) (R_mv rfl (R_e ?_))))
   refine p17 _ _ _ ?_ ⟨(i+1),⟨unAdd S.l (afT t (nth S.l k) i),S.a++[((plc S.l (afT t (nth S.l k) i):Nat):Int)],S.b++[unO t (nth S.l k) i]⟩,w4,(w1+1),(w2+1),(v11+1),rfl,t1,t2,(Eq.trans t5 (by first|rfl|(rw [e7,List.length_append]; rfl)|(rw [e7]; done)|simp)),t6,t7,(Eq.trans t8 (by first|rfl|(rw [e7,List.length_append]; rfl)|(rw [e7]; done)|simp)),(Eq.trans t9 (by first|rfl|(rw [e7,List.length_append]; rfl)|(rw [e7]; done)|simp)),(Eq.trans (@rfl V (iV ((i+1:Nat):Int))) (by first|rfl|(rw [e7,List.length_append]; rfl)|(rw [e7]; done)|simp)),h1,h2,h6,(Eq.trans h8 (by first|rfl|(rw [e7,List.map_append]; rfl)|(rw [e7]; done)|(rw [e7]; rfl)|simp)),(Eq.trans h9 (by first|rfl|(rw [e7,List.map_append]; rfl)|(rw [e7]; done)|(rw [e7]; rfl)|simp)),h11,h25,(Eq.trans h27 (by first|rfl|(rw [e7,List.map_append]; rfl)|(rw [e7]; done)|(rw [e7]; rfl)|simp)),h812,h813,?_,?_,?_,?_,?_⟩
   · omega
   · omega
   · first|exact hs|exact hs.add aok d6
   · first|exact hsl|exact ⟨(unAdd_nth (by omega)).1.trans hsl.1,Nat.le_trans hsl.2 (unAdd_nth (k:=k) (by omega)).2⟩
   · simp only [List.length_append,List.length_singleton]; omega
   · first|exact hr.trans (unRow_no (by omega) d3)|exact hr.trans (unRow_go (by omega) d3b d5 d6)
  have hrow:=hr.trans (unRow_end (by omega))
  refine W_seq_exit (p37 _ _ _ (x6 _ _ (fork_ (R:=fun T H=>T 1=(V.mp 1 1 0 0)∧T 2=(V.mp 2 1 0 0)∧T 5=(V.ms 27 w0 0 (S.l.length))∧T 6=(V.mp 6 1 0 0)∧T 7=(iV ((k:Nat):Int))∧T 8=(V.ms 8 w1 0 (S.a.length))∧T 9=(V.ms 9 w2 0 (S.b.length))∧T 10=(iV ((i:Nat):Int))∧T 43=(V.bool (decide (((i:Nat):Int) < (t.i+t.tm))))∧H 1=(bk 1 29 6 [[(iV (t.i)),(iV (t.tm)),(iV (t.s)),(intss t.nx),(intss t.ot),(V.sl (List.map cSr (t.st)))]])∧H 2=(bk 1 24 4 [[(iV (0:Int)),(iV (0:Int)),V.nilsl,V.nilsl]])∧H 6=(bk 1 24 4 [[(iV (t.i+t.tm)),(iV (0:Int)),(V.ms 812 v1 0 (U.nx.length)),(V.ms 813 v2 0 (U.ot.length))]])∧H 8=(bz w1 3 1 (List.map cI (S.a)))∧H 9=(bz w2 3 1 (List.map cI (S.b)))∧((H 11).ver=v11∧(H 11).live=false)∧((H 25).ver=1∧(H 25).live=false)∧H 27=(bk w0 95 2 (List.map cCf (S.l)))∧H 812=(bz v1 38 1 (List.map cL (U.nx)))∧H 813=(bz v2 38 1 (List.map cL (U.ot)))∧True) ⟨t1,t2,t5,t6,t7,t8,t9,t10,(@rfl V (V.bool (decide (((i:Nat):Int) < (t.i+t.tm))))),h1,h2,h6,h8,h9,h11,h25,h27,h812,h813,trivial⟩ ?_)))
  intro T H ⟨t1,t2,t5,t6,t7,t8,t9,t10,t43,h1,h2,h6,h8,h9,h11,h25,h27,h812,h813,_⟩
  refine .freeze 8 (.done ?_)
  refine fork_ (R:=fun T H=>T 1=(V.mp 1 1 0 0)∧T 2=(V.mp 2 1 0 0)∧T 5=(V.ms 27 w0 0 (S.l.length))∧T 6=(V.mp 6 1 0 0)∧T 7=(iV ((k:Nat):Int))∧T 8=(ints S.a)∧T 9=(V.ms 9 w2 0 (S.b.length))∧T 10=(iV ((i:Nat):Int))∧T 43=(V.bool (decide (((i:Nat):Int) < (t.i+t.tm))))∧H 1=(bk 1 29 6 [[(iV (t.i)),(iV (t.tm)),(iV (t.s)),(intss t.nx),(intss t.ot),(V.sl (List.map cSr (t.st)))]])∧H 2=(bk 1 24 4 [[(iV (0:Int)),(iV (0:Int)),V.nilsl,V.nilsl]])∧H 6=(bk 1 24 4 [[(iV (t.i+t.tm)),(iV (0:Int)),(V.ms 812 v1 0 (U.nx.length)),(V.ms 813 v2 0 (U.ot.length))]])∧((H 8).ver=w1∧(H 8).live=false)∧H 9=(bz w2 3 1 (List.map cI (S.b)))∧((H 11).ver=v11∧(H 11).live=false)∧((H 25).ver=1∧(H 25).live=false)∧H 27=(bk w0 95 2 (List.map cCf (S.l)))∧H 812=(bz v1 38 1 (List.map cL (U.nx)))∧H 813=(bz v2 38 1 (List.map cL (U.ot)))∧True) ⟨(fzT_q t1 rfl),(fzT_q t2 rfl),(fzT_q t5 (fzq_other (by decide))),(fzT_q t6 rfl),(fzT_q t7 rfl),(fzT_q t8 (fzq_own h8 (by first|rfl|simp) (l:=S.a) rfl (by first|rfl|simp|omega))),(fzT_q t9 (fzq_other (by decide))),(fzT_q t10 rfl),(fzT_q t43 rfl),(kill_ne h1 (by decide)),(kill_ne h2 (by decide)),(kill_ne h6 (by decide)),(kill_self (congrArg Blk.ver h8)),(kill_ne h9 (by decide)),(kill_dead h11),(kill_dead h25),(kill_ne h27 (by decide)),(kill_ne h812 (by decide)),(kill_ne h813 (by decide)),trivial⟩ ?_
  intro T H ⟨t1,t2,t5,t6,t7,t8,t9,t10,t43,h1,h2,h6,h8,h9,h11,h25,h27,h812,h813,_⟩
  refine W_seq_g (fun T H=>T 1=(V.mp 1 1 0 0)∧T 2=(V.mp 2 1 0 0)∧T 5=(V.ms 27 w0 0 (S.l.length))∧T 6=(V.mp 6 1 0 0)∧T 7=(iV ((k:Nat):Int))∧T 9=(V.ms 9 w2 0 (S.b.length))∧H 1=(bk 1 29 6 [[(iV (t.i)),(iV (t.tm)),(iV (t.s)),(intss t.nx),(intss t.ot),(V.sl (List.map cSr (t.st)))]])∧H 2=(bk 1 24 4 [[(iV (0:Int)),(iV (0:Int)),V.nilsl,V.nilsl]])∧H 6=(bk 1 24 4 [[(iV (t.i+t.tm)),(iV (0:Int)),(V.ms 812 (v1+1) 0 (U.nx.length+1)),(V.ms 813 v2 0 (U.ot.length))]])∧((H 8).ver=w1∧(H 8).live=false)∧H 9=(bz w2 3 1 (List.map cI (S.b)))∧((H 11).ver=v11∧(H 11).live=false)∧((H 25).ver=1∧(H 25).live=false)∧H 27=(bk w0 95 2 (List.map cCf (S.l)))∧H 812=(bz (v1+1) 38 1 (List.map cL (U.nx++[S.a])))∧H 813=(bz v2 38 1 (List.map cL (U.ot)))∧True) ?_ ?_
  ·
   refine R_fk t6 h6 (R_lk rfl h6 rfl rfl (R_mv t8 (R_bslice rfl rfl (R_append1 (l:=U.nx) (f:=cL) (x:=S.a) (@rfl V (V.ms 812 v1 0 (U.nx.length))) h812 (by first|rfl|simp|omega) (@rfl V (V.sl [[(ints S.a)]])) rfl rfl (by omega) (by omega) (R_fk t6 h6 (R_store (vs:=[(V.ms 812 (v1+1) 0 (U.nx.length+1))]) (B':=(bk 1 24 4 [[(iV (t.i+t.tm)),(iV (0:Int)),(V.ms 812 (v1+1) 0 (U.nx.length+1)),(V.ms 813 v2 0 (U.ot.length))]])) rfl rfl rfl h6 (sB oB rfl rfl rfl rfl rfl) ?_))))))
   exact R_nil ⟨t1,t2,t5,t6,t7,t9,h1,h2,rfl,h8,h9,h11,h25,h27,rfl,h813,trivial⟩
  intro T H ⟨t1,t2,t5,t6,t7,t9,h1,h2,h6,h8,h9,h11,h25,h27,h812,h813,_⟩
  refine .freeze 9 (.done ?_)
  refine fork_ (R:=fun T H=>T 1=(V.mp 1 1 0 0)∧T 2=(V.mp 2 1 0 0)∧T 5=(V.ms 27 w0 0 (S.l.length))∧T 6=(V.mp 6 1 0 0)∧T 7=(iV ((k:Nat):Int))∧T 9=(ints S.b)∧H 1=(bk 1 29 6 [[(iV (t.i)),(iV (t.tm)),(iV (t.s)),(intss t.nx),(intss t.ot),(V.sl (List.map cSr (t.st)))]])∧H 2=(bk 1 24 4 [[(iV (0:Int)),(iV (0:Int)),V.nilsl,V.nilsl]])∧H 6=(bk 1 24 4 [[(iV (t.i+t.tm)),(iV (0:Int)),(V.ms 812 (v1+1) 0 (U.nx.length+1)),(V.ms 813 v2 0 (U.ot.length))]])∧((H 8).ver=w1∧(H 8).live=false)∧((H 9).ver=w2∧(H 9).live=false)∧((H 11).ver=v11∧(H 11).live=false)∧((H 25).ver=1∧(H 25).live=false)∧H 27=(bk w0 95 2 (List.map cCf (S.l)))∧H 812=(bz (v1+1) 38 1 (List.map cL (U.nx++[S.a])))∧H 813=(bz v2 38 1 (List.map cL (U.ot)))∧True) ⟨(fzT_q t1 rfl),(fzT_q t2 rfl),(fzT_q t5 (fzq_other (by decide))),(fzT_q t6 rfl),(fzT_q t7 rfl),(fzT_q t9 (fzq_own h9 (by first|rfl|simp) (l:=S.b) rfl (by first|rfl|simp|omega))),(kill_ne h1 (by decide)),(kill_ne h2 (by decide)),(kill_ne h6 (by decide)),(kill_dead h8),(kill_self (congrArg Blk.ver h9)),(kill_dead h11),(kill_dead h25),(kill_ne h27 (by decide)),(kill_ne h812 (by decide)),(kill_ne h813 (by decide)),trivial⟩ ?_
  intro T H ⟨t1,t2,t5,t6,t7,t9,h1,h2,h6,h8,h9,h11,h25,h27,h812,h813,_⟩
  refine W_t (R_fk t6 h6 (R_lk rfl h6 rfl rfl (R_mv t9 (R_bslice rfl rfl (R_append1 (l:=U.ot) (f:=cL) (x:=S.b) (@rfl V (V.ms 813 v2 0 (U.ot.length))) h813 (by first|rfl|simp|omega) (@rfl V (V.sl [[(ints S.b)]])) rfl rfl (by omega) (by omega) (R_fk t6 h6 (R_store (vs:=[(V.ms 813 (v2+1) 0 (U.ot.length+1))]) (B':=(bk 1 24 4 [[(iV (t.i+t.tm)),(iV (0:Int)),(V.ms 812 (v1+1) 0 (U.nx.length+1)),(V.ms 813 (v2+1) 0 (U.ot.length+1))]])) rfl rfl rfl h6 (sB oB rfl rfl rfl rfl rfl) ?_)))))))
  refine R_e (n5 _ _ (.done (W_t (R_mv t7 (R_addN rfl (@rfl V (iV ((1:Nat):Int))) (by omega) (R_mv rfl (R_e ?_)))))))
  refine p13 _ _ _ ?_ ⟨(k+1),⟨S.l,U.nx++[S.a],U.ot++[S.b]⟩,w0,(v1+1),(v2+1),w1,w2,v11,rfl,t1,t2,(Eq.trans t5 (by first|rfl|(rw [e7,List.length_append]; rfl)|(rw [e7]; done)|simp)),t6,(Eq.trans (@rfl V (iV ((k+1:Nat):Int))) (by first|rfl|(rw [e7,List.length_append]; rfl)|(rw [e7]; done)|simp)),h1,h2,(Eq.trans (@rfl Blk (bk 1 24 4 [[(iV (t.i+t.tm)),(iV (0:Int)),(V.ms 812 (v1+1) 0 (U.nx.length+1)),(V.ms 813 (v2+1) 0 (U.ot.length+1))]])) (by first|rfl|(rw [e7,List.map_append]; rfl)|(rw [e7]; done)|(rw [e7]; rfl)|simp)),h8,h9,h11,h25,(Eq.trans h27 (by first|rfl|(rw [e7,List.map_append]; rfl)|(rw [e7]; done)|(rw [e7]; rfl)|simp)),(Eq.trans h812 (by first|rfl|(rw [e7,List.map_append]; rfl)|(rw [e7]; done)|(rw [e7]; rfl)|simp)),(Eq.trans (@rfl Blk (bz (v2+1) 38 1 (List.map cL (U.ot++[S.b])))) (by first|rfl|(rw [e7,List.map_append]; rfl)|(rw [e7]; done)|(rw [e7]; rfl)|simp)),?_,?_,?_,?_⟩
  · have:=hu.len; omega
  · show k+1≤S.l.length; have:=hsl.2; omega
  · exact hs
  · simp only [List.length_append,List.length_singleton]; omega
  · exact hc.trans (unOut_go (by omega) (by omega) hrow)
 have hx:=hc.trans (unOut_end (by omega))
 refine W_seq_exit (p33 _ _ _ (x2 _ _ (.done (W_r (R_lk t6 h6 rfl rfl (R_store (vs:=[(iV (t.i+t.tm)),(iV (0:Int)),(V.ms 812 v1 0 (U.nx.length)),(V.ms 813 v2 0 (U.ot.length))]) (B':=(bk 1 24 4 [[(iV (t.i+t.tm)),(iV (0:Int)),(V.ms 812 v1 0 (U.nx.length)),(V.ms 813 v2 0 (U.ot.length))]])) t2 rfl rfl h2 (sB oB rfl rfl rfl rfl rfl) (R_mv rfl ?_)))))))
 refine R_e (W_ret ?_)
 refine RetC_2 (resV_c (u:=(V.agg [(iV (t.i+t.tm)),(iV (0:Int)),(V.ms 812 v1 0 (U.nx.length)),(V.ms 813 v2 0 (U.ot.length))])) t2 (@rfl Blk (bk 1 24 4 [[(iV (t.i+t.tm)),(iV (0:Int)),(V.ms 812 v1 0 (U.nx.length)),(V.ms 813 v2 0 (U.ot.length))]])) (lB oB rfl rfl)) (resV_t (@rfl V (iV (0:Int)))) (fz_aggL (mcons (fz_int ?_) (mcons (fz_int ?_) (mcons (fz_ms h812 (by first|rfl|simp) (l:=U.nx) rfl (by first|rfl|simp|omega) (fun _=>by simp) ?_) (mcons (fz_ms h813 (by first|rfl|simp) (l:=U.ot) rfl (by first|rfl|simp|omega) (fun _=>by simp) ?_) rfl))))) (fz_int ?_)
 · rw [unM_yes d1 hx]
 · rw [unM_yes d1 hx]
 · rw [unM_yes d1 hx]
 · rw [unM_yes d1 hx]
 · exact (unE_x d1 hx).symm
end Go.Proofs.YtilfohjlglefjaaGreat
namespace Go.Proofs.YtilfohjlglefjaaGreat
open Go Go.Proofs
def r22_13:List SO:=[
 qM 34 8,
 qM 35 5,
 qF 36 2 1,
 ql 37 36,
 qM 38 5,
 qM 39 7,
 qA 40 1 38 39,
 ql 41 40,
 qA 42 1 37 41,
 ql 43 42,
 qM 44 10,
 qA 45 1 43 44,
 ql 46 45,
 sO 47 (.call false 50 [.t 35,.t 46]),
 sO 48 (.bslice 3 1 false [.int .i64 0] 1 [(0,.t 47)]),
 sO 49 (.append 3 1 8 (.t 34) (.t 48)),
 qM 8 49]
def r22_14:List SO:=[
 qM 50 9,
 qF 51 3 1,
 ql 52 51,
 qM 53 5,
 qM 54 7,
 qA 55 1 53 54,
 ql 56 55,
 qA 57 1 52 56,
 ql 58 57,
 qM 59 10,
 qA 60 1 58 59,
 ql 61 60,
 sO 62 (.bslice 3 1 false [.int .i64 0] 1 [(0,.t 61)]),
 sO 63 (.append 3 1 8 (.t 50) (.t 62)),
 qM 9 63]
def b22_1:SC:=.seq (.seq (.reg [qM 28 10,qF 29 0 1,ql 30 29,qP 31 .lss 28 30]) (.cond (.t 31) (.skip) (.exit 2))) (.seq (.block 3 (.seq (.reg r22_13) (.reg r22_14))) (.reg [qM 32 10,qC 33 .add 32 1,qM 10 33]))
def r22_15:List SO:=[
 qF 64 2 6,
 ql 65 64,
 qM 66 8,
 sO 67 (.bslice 38 1 false [.nilsl] 1 [(0,.t 66)]),
 sO 68 (.append 38 1 24 (.t 65) (.t 67)),
 qF 69 2 6,
 sN (.store 1 (.t 69) (.t 68))]
def r22_16:List SO:=[
 qF 70 3 6,
 ql 71 70,
 qM 72 9,
 sO 73 (.bslice 38 1 false [.nilsl] 1 [(0,.t 72)]),
 sO 74 (.append 38 1 24 (.t 71) (.t 73)),
 qF 75 3 6,
 sN (.store 1 (.t 75) (.t 74))]
def b22_0:SC:=.seq (.seq (.reg [qM 22 7,qM 23 5,qN 24 23,qP 25 .lss 22 24]) (.cond (.t 25) (.skip) (.exit 0))) (.seq (.block 1 (.seq (.reg [sO 8 (.lazy 3 1),sO 9 (.lazy 3 1)]) (.seq (.seq (.reg [qI 10 0]) (.block 2 (.loop b22_1))) (.seq (.reg r22_15) (.reg r22_16))))) (.reg [qM 26 7,qC 27 .add 26 1,qM 7 27]))
def s22:SF:=⟨77,[.cell 2 true 4,.tmp 3],.seq (.reg [sO 1 (.box 24 4 (.t 0)),sO 2 (.alloc 24 [.int .i64 0,.int .i64 0,.nilsl,.nilsl]),qI 3 0]) (.seq (.seq (.reg [qL 11 4 1,sO 12 (.call false 35 [.t 11]),qM 4 12]) (.seq (.reg [qM 13 4,qC 14 .neq 13 0]) (.cond (.t 14) (.seq (.reg [sO 15 (.build [.int .i64 0,.int .i64 0,.nilsl,.nilsl] []),qM 16 4,sN (.store 4 (.t 2) (.t 15)),qM 3 16]) (.ret)) (.skip)))) (.seq (.reg [qL 17 4 1,sO 18 (.call false 49 [.t 17]),qM 5 18]) (.seq (.reg [qF 19 0 1,ql 20 19,sO 21 (.build [.int .i64 0,.int .i64 0,.nilsl,.nilsl] [(0,1,.t 20)]),sO 6 (.alloc 24 [.int .i64 0,.int .i64 0,.nilsl,.nilsl]),sN (.store 4 (.t 6) (.t 21))]) (.seq (.seq (.reg [qI 7 0]) (.block 0 (.loop b22_0))) (.seq (.reg [qL 76 4 6,sN (.store 4 (.t 2) (.t 76)),qI 3 0]) (.ret))))))⟩
theorem s22_ok:slimF Tryz.prog ⟨[58,129,130,131,149,155,161,182,183,185,191,192,208,209,210,224,228,231,236],[8,9],[],[]⟩ Tryz.f22=some s22:=by kernel_rfl
def r35_1:List SO:=[
 qF 5 0 1,
 ql 6 5,
 qC 7 .lss 6 1,
 qM 8 7,
 ⟨some (8,false),some 9,.fld 0 (.t 1)⟩,
 ⟨some (8,false),some 10,.load false 1 (.t 9)⟩,
 ⟨some (8,false),some 11,.bin .gtr (.t 10) (.c (.int .i64 64))⟩,
 sO 12 (.pick (.t 8) (.c (.bool true)) (.t 11))]
def r35_7:List SO:=[
 qF 21 1 1,
 ql 22 21,
 qC 23 .lss 22 0,
 qM 24 23,
 ⟨some (24,false),some 25,.fld 1 (.t 1)⟩,
 ⟨some (24,false),some 26,.load false 1 (.t 25)⟩,
 ⟨some (24,false),some 27,.fld 2 (.t 1)⟩,
 ⟨some (24,false),some 28,.load false 1 (.t 27)⟩,
 ⟨some (24,false),some 29,.len (.t 28)⟩,
 ⟨some (24,false),some 30,.bin .geq (.t 26) (.t 29)⟩,
 sO 31 (.pick (.t 24) (.c (.bool true)) (.t 30))]
def r35_9:List SO:=[
 qF 32 3 1,
 ql 33 32,
 qN 34 33,
 qF 35 2 1,
 ql 36 35,
 qN 37 36,
 qP 38 .neq 34 37]
def b35_0:SC:=.seq (.seq (.reg [qM 39 3,qF 40 2 1,ql 41 40,qN 42 41,qP 43 .lss 39 42]) (.cond (.t 43) (.skip) (.exit 0))) (.seq (.block 1 (.seq (.reg [qL 46 4 1,qM 47 3,sO 48 (.call false 60 [.t 46,.t 47]),qM 4 48]) (.seq (.reg [qM 49 4,qC 50 .neq 49 0]) (.cond (.t 50) (.seq (.reg [qM 51 4,qM 2 51]) (.ret)) (.skip))))) (.reg [qM 44 3,qC 45 .add 44 1,qM 3 45]))
def s35:SF:=⟨52,[.tmp 2],.seq (.reg [sO 1 (.box 24 4 (.t 0)),qI 2 0]) (.seq (.seq (.reg r35_1) (.cond (.t 12) (.seq (.reg [qI 2 2]) (.ret)) (.skip))) (.seq (.seq (.reg [qF 13 2 1,ql 14 13,qN 15 14,qC 16 .eql 15 0]) (.cond (.t 16) (.seq (.reg [qI 2 19]) (.ret)) (.skip))) (.seq (.seq (.reg [qF 17 2 1,ql 18 17,qN 19 18,qC 20 .gtr 19 128]) (.cond (.t 20) (.seq (.reg [qI 2 11]) (.ret)) (.skip))) (.seq (.seq (.reg r35_7) (.cond (.t 31) (.seq (.reg [qI 2 2]) (.ret)) (.skip))) (.seq (.seq (.reg r35_9) (.cond (.t 38) (.seq (.reg [qI 2 1]) (.ret)) (.skip))) (.seq (.seq (.reg [qI 3 0]) (.block 0 (.loop b35_0))) (.seq (.reg [qI 2 0]) (.ret))))))))⟩
theorem s35_ok:slimF Tryz.prog ⟨[58,129,130,131,149,155,161,182,183,185,191,192,208,209,210,224,228,231,236],[],[],[]⟩ Tryz.f35=some s35:=by kernel_rfl
def r60_1:List SO:=[
 qF 6 2 2,
 ql 7 6,
 qM 8 1,
 qA 9 1 7 8,
 ql 10 9,
 qN 11 10,
 qF 12 0 2,
 ql 13 12,
 qP 14 .neq 11 13,
 qM 15 14,
 ⟨some (15,false),some 16,.fld 3 (.t 2)⟩,
 ⟨some (15,false),some 17,.load false 1 (.t 16)⟩,
 ⟨some (15,false),some 18,.mv (.t 1)⟩,
 ⟨some (15,false),some 19,.idx 1 (.t 17) (.t 18)⟩,
 ⟨some (15,false),some 20,.load false 1 (.t 19)⟩,
 ⟨some (15,false),some 21,.len (.t 20)⟩,
 ⟨some (15,false),some 22,.fld 0 (.t 2)⟩,
 ⟨some (15,false),some 23,.load false 1 (.t 22)⟩,
 ⟨some (15,false),some 24,.bin .neq (.t 21) (.t 23)⟩,
 sO 25 (.pick (.t 15) (.c (.bool true)) (.t 24))]
def r60_6:List SO:=[
 qF 32 2 2,
 ql 33 32,
 qM 34 1,
 qA 35 1 33 34,
 ql 36 35,
 qM 37 5,
 qA 38 1 36 37,
 ql 39 38,
 qC 40 .lss 39 0,
 qM 41 40,
 ⟨some (41,false),some 42,.fld 2 (.t 2)⟩,
 ⟨some (41,false),some 43,.load false 1 (.t 42)⟩,
 ⟨some (41,false),some 44,.mv (.t 1)⟩,
 ⟨some (41,false),some 45,.idx 1 (.t 43) (.t 44)⟩,
 ⟨some (41,false),some 46,.load false 1 (.t 45)⟩,
 ⟨some (41,false),some 47,.mv (.t 5)⟩,
 ⟨some (41,false),some 48,.idx 1 (.t 46) (.t 47)⟩,
 ⟨some (41,false),some 49,.load false 1 (.t 48)⟩,
 ⟨some (41,false),some 50,.fld 2 (.t 2)⟩,
 ⟨some (41,false),some 51,.load false 1 (.t 50)⟩,
 ⟨some (41,false),some 52,.len (.t 51)⟩,
 ⟨some (41,false),some 53,.bin .geq (.t 49) (.t 52)⟩,
 sO 54 (.pick (.t 41) (.c (.bool true)) (.t 53)),
 qM 55 54,
 ⟨some (55,false),some 56,.fld 3 (.t 2)⟩,
 ⟨some (55,false),some 57,.load false 1 (.t 56)⟩,
 ⟨some (55,false),some 58,.mv (.t 1)⟩,
 ⟨some (55,false),some 59,.idx 1 (.t 57) (.t 58)⟩,
 ⟨some (55,false),some 60,.load false 1 (.t 59)⟩,
 ⟨some (55,false),some 61,.mv (.t 5)⟩,
 ⟨some (55,false),some 62,.idx 1 (.t 60) (.t 61)⟩,
 ⟨some (55,false),some 63,.load false 1 (.t 62)⟩,
 ⟨some (55,false),some 64,.bin .lss (.t 63) (.c (.int .i64 0))⟩,
 sO 65 (.pick (.t 55) (.c (.bool true)) (.t 64)),
 qM 66 65,
 ⟨some (66,false),some 67,.fld 3 (.t 2)⟩,
 ⟨some (66,false),some 68,.load false 1 (.t 67)⟩,
 ⟨some (66,false),some 69,.mv (.t 1)⟩,
 ⟨some (66,false),some 70,.idx 1 (.t 68) (.t 69)⟩,
 ⟨some (66,false),some 71,.load false 1 (.t 70)⟩,
 ⟨some (66,false),some 72,.mv (.t 5)⟩,
 ⟨some (66,false),some 73,.idx 1 (.t 71) (.t 72)⟩,
 ⟨some (66,false),some 74,.load false 1 (.t 73)⟩,
 ⟨some (66,false),some 75,.bin .gtr (.t 74) (.c (.int .i64 1048576))⟩,
 sO 76 (.pick (.t 66) (.c (.bool true)) (.t 75))]
def b60_0:SC:=.seq (.seq (.reg [qM 26 5,qF 27 0 2,ql 28 27,qP 29 .lss 26 28]) (.cond (.t 29) (.skip) (.exit 0))) (.seq (.block 1 (.seq (.reg r60_6) (.cond (.t 76) (.seq (.reg [qI 4 2]) (.ret)) (.skip)))) (.reg [qM 30 5,qC 31 .add 30 1,qM 5 31]))
def s60:SF:=⟨77,[.tmp 4],.seq (.reg [sO 2 (.box 24 4 (.t 0)),qI 4 0]) (.seq (.seq (.reg r60_1) (.cond (.t 25) (.seq (.reg [qI 4 1]) (.ret)) (.skip))) (.seq (.seq (.reg [qI 5 0]) (.block 0 (.loop b60_0))) (.seq (.reg [qI 4 0]) (.ret))))⟩
theorem s60_ok:slimF Tryz.prog ⟨[58,129,130,131,149,155,161,182,183,185,191,192,208,209,210,224,228,231,236],[],[],[]⟩ Tryz.f60=some s60:=by kernel_rfl
end Go.Proofs.YtilfohjlglefjaaGreat
