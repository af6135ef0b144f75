/- Contracts of the functions that the law TR reaches, and the law itself, for every input; no condition. -/
import Derived.KernelRfl
import Derived.Test.YtilfohjlglefjaaGreatRows
import Derived.Test.YtilfohjlglefjaaGreatTR3
set_option linter.unusedSimpArgs false
set_option linter.unusedVariables false
namespace Go.Proofs.YtilfohjlglefjaaGreat
open Go Go.Proofs
theorem rrebuild_pure (m:M) (inp tm:Int):PureC Tryz.prog 12 [(V.agg [(iV (m.i)),(iV (m.s)),(intss m.nx),(intss m.ot)]),(iV (inp)),(iV (tm))] (V.tup [(V.agg [(iV ((rbT m inp tm).i)),(iV ((rbT m inp tm).tm)),(iV ((rbT m inp tm).s)),(intss ((rbT m inp tm).nx)),(intss ((rbT m inp tm).ot)),(V.sl (List.map cSr ((rbT m inp tm).st)))]),(iV (rbE m inp tm))]):=by
 refine pW Tryz.func12 s12_ok fun hB=>?_
 unfold s12
 dsimp only
 refine W_r (R_box (i:=3) (n:=0) (m:=4) (cs:=[(iV (m.i)),(iV (m.s)),(intss m.nx),(intss m.ot)]) rfl (congrArg Blk.ver rfl) rfl rfl rfl (R_alloc (i:=6) (n:=0) (m:=6) rfl (congrArg Blk.ver rfl) rfl (R_mv rfl (R_e (W_seq_seq (W_r (R_lk rfl rfl rfl rfl ?_)))))))
 refine R_callk (rvalid_pure m) rfl (R_mv rfl (R_e (W_seq_seq (W_r (R_mv rfl (R_neq rfl rfl (R_e ?_)))))))
 refine W_seq_if rfl (fun c1=>?_) fun c1=>?_
 ·
  have d1:=c1
  refine W_seq_seq (W_r (R_build rfl rfl (R_mv rfl (R_store (vs:=[(iV (0:Int)),(iV (0:Int)),(iV (0:Int)),V.nilsl,V.nilsl,V.nilsl]) (B':=(bk 1 29 6 [[(iV (0:Int)),(iV (0:Int)),(iV (0:Int)),V.nilsl,V.nilsl,V.nilsl]])) rfl rfl rfl rfl (sB oB rfl rfl rfl rfl rfl) (R_mv rfl (R_e (W_seq_ret ?_)))))))
  refine RetC_2 (resV_c (u:=(V.agg [(iV (0:Int)),(iV (0:Int)),(iV (0:Int)),V.nilsl,V.nilsl,V.nilsl])) rfl (@rfl Blk (bk 1 29 6 [[(iV (0:Int)),(iV (0:Int)),(iV (0:Int)),V.nilsl,V.nilsl,V.nilsl]])) (lB oB rfl rfl)) (resV_t (@rfl V (iV (mval m)))) (fz_aggL (mcons (fz_int ?_) (mcons (fz_int ?_) (mcons (fz_int ?_) (mcons (fz_nil ?_) (mcons (fz_nil ?_) (mcons (fz_nil ?_) rfl))))))) (fz_int ?_)
  · rw [rbT_no (by rw [rbE_1 d1]; first|decide|exact d1)]
  · rw [rbT_no (by rw [rbE_1 d1]; first|decide|exact d1)]
  · rw [rbT_no (by rw [rbE_1 d1]; first|decide|exact d1)]
  · rw [rbT_no (by rw [rbE_1 d1]; first|decide|exact d1)]
  · rw [rbT_no (by rw [rbE_1 d1]; first|decide|exact d1)]
  · rw [rbT_no (by rw [rbE_1 d1]; first|decide|exact d1)]
  · rw [rbE_1 d1]
 have d1:=c1
 have hm:mval m=0:=by omega
 have mo:=mval_ok hm
 have rc:=rch_RC hm
 have rl:=rc.len
 have me:=mo.2.2.2.2.2.2.1
 have tk:=trm_ok hm
 rw [← trR_ok hm] at tk
 obtain ⟨k1,k2,k3,k4,k5,k6⟩:=tk
 have ti:(trR m).i=m.i:=by rw [trR_ok hm]; rfl
 refine W_seq_skip (W_seq_seq (W_r (R_mv rfl (R_lss rfl rfl (R_mv rfl ?_)))))
 refine Ops_seg 3 (fun T H=>T 1=(iV (inp))∧T 2=(iV (tm))∧T 3=(V.mp 3 1 0 0)∧T 6=(V.mp 6 1 0 0)∧T 28=(V.bool (decide (((inp) < (1:Int))∨((64:Int) < (inp)))))∧H 3=(bk 1 24 4 [[(iV (m.i)),(iV (m.s)),(intss m.nx),(intss m.ot)]])∧H 6=(bk 1 29 6 [[(iV (0:Int)),(iV (0:Int)),(iV (0:Int)),V.nilsl,V.nilsl,V.nilsl]])∧H 9=(⟨0,false,false,0,0,[]⟩:Blk)∧H 11=(⟨0,false,false,0,0,[]⟩:Blk)∧H 12=(⟨0,false,false,0,0,[]⟩:Blk)∧H 13=(⟨0,false,false,0,0,[]⟩:Blk)∧H 16=(⟨0,false,false,0,0,[]⟩:Blk)∧H 812=(⟨0,false,false,0,0,[]⟩:Blk)∧H 813=(⟨0,false,false,0,0,[]⟩:Blk)∧H 814=(⟨0,false,false,0,0,[]⟩:Blk)∧True) ?_ ?_
 ·
  by_cases g2:(inp) < (1:Int)
  ·
   refine G_n (edT g2 rfl) (G_n (edT g2 rfl) (R_pickT (edT g2 rfl) rfl ?_))
   exact ⟨rfl,rfl,rfl,rfl,(dec_orT g2),rfl,rfl,rfl,rfl,rfl,rfl,rfl,rfl,rfl,rfl,trivial⟩
  ·
   refine G_yes (edF g2 rfl) (R_mv rfl (G_yes (edF g2 rfl) (R_gtr rfl rfl (R_pickF (edF g2 rfl) rfl ?_))))
   exact ⟨rfl,rfl,rfl,rfl,(dec_orF g2),rfl,rfl,rfl,rfl,rfl,rfl,rfl,rfl,rfl,rfl,trivial⟩
 intro T H ⟨t1,t2,t3,t6,t28,h3,h6,h9,h11,h12,h13,h16,h812,h813,h814,_⟩
 refine R_mv t28 ?_
 refine Ops_seg 3 (fun T H=>T 1=(iV (inp))∧T 2=(iV (tm))∧T 3=(V.mp 3 1 0 0)∧T 6=(V.mp 6 1 0 0)∧T 32=(V.bool (decide ((((inp) < (1:Int))∨((64:Int) < (inp)))∨((tm) < (0:Int)))))∧H 3=(bk 1 24 4 [[(iV (m.i)),(iV (m.s)),(intss m.nx),(intss m.ot)]])∧H 6=(bk 1 29 6 [[(iV (0:Int)),(iV (0:Int)),(iV (0:Int)),V.nilsl,V.nilsl,V.nilsl]])∧H 9=(⟨0,false,false,0,0,[]⟩:Blk)∧H 11=(⟨0,false,false,0,0,[]⟩:Blk)∧H 12=(⟨0,false,false,0,0,[]⟩:Blk)∧H 13=(⟨0,false,false,0,0,[]⟩:Blk)∧H 16=(⟨0,false,false,0,0,[]⟩:Blk)∧H 812=(⟨0,false,false,0,0,[]⟩:Blk)∧H 813=(⟨0,false,false,0,0,[]⟩:Blk)∧H 814=(⟨0,false,false,0,0,[]⟩:Blk)∧True) ?_ ?_
 ·
  by_cases g3:((inp) < (1:Int))∨((64:Int) < (inp))
  ·
   refine G_n (edT g3 rfl) (G_n (edT g3 rfl) (R_pickT (edT g3 rfl) rfl ?_))
   exact ⟨t1,t2,t3,t6,(dec_orT g3),h3,h6,h9,h11,h12,h13,h16,h812,h813,h814,trivial⟩
  ·
   refine G_yes (edF g3 rfl) (R_mv t2 (G_yes (edF g3 rfl) (R_lss rfl rfl (R_pickF (edF g3 rfl) rfl ?_))))
   exact ⟨t1,t2,t3,t6,(dec_orF g3),h3,h6,h9,h11,h12,h13,h16,h812,h813,h814,trivial⟩
 intro T H ⟨t1,t2,t3,t6,t32,h3,h6,h9,h11,h12,h13,h16,h812,h813,h814,_⟩
 refine R_mv t32 ?_
 refine Ops_seg 3 (fun T H=>T 1=(iV (inp))∧T 2=(iV (tm))∧T 3=(V.mp 3 1 0 0)∧T 6=(V.mp 6 1 0 0)∧T 36=(V.bool (decide (((((inp) < (1:Int))∨((64:Int) < (inp)))∨((tm) < (0:Int)))∨((4:Int) < (tm)))))∧H 3=(bk 1 24 4 [[(iV (m.i)),(iV (m.s)),(intss m.nx),(intss m.ot)]])∧H 6=(bk 1 29 6 [[(iV (0:Int)),(iV (0:Int)),(iV (0:Int)),V.nilsl,V.nilsl,V.nilsl]])∧H 9=(⟨0,false,false,0,0,[]⟩:Blk)∧H 11=(⟨0,false,false,0,0,[]⟩:Blk)∧H 12=(⟨0,false,false,0,0,[]⟩:Blk)∧H 13=(⟨0,false,false,0,0,[]⟩:Blk)∧H 16=(⟨0,false,false,0,0,[]⟩:Blk)∧H 812=(⟨0,false,false,0,0,[]⟩:Blk)∧H 813=(⟨0,false,false,0,0,[]⟩:Blk)∧H 814=(⟨0,false,false,0,0,[]⟩:Blk)∧True) ?_ ?_
 ·
  by_cases g4:(((inp) < (1:Int))∨((64:Int) < (inp)))∨((tm) < (0:Int))
  ·
   refine G_n (edT g4 rfl) (G_n (edT g4 rfl) (R_pickT (edT g4 rfl) rfl ?_))
   exact ⟨t1,t2,t3,t6,(dec_orT g4),h3,h6,h9,h11,h12,h13,h16,h812,h813,h814,trivial⟩
  ·
   refine G_yes (edF g4 rfl) (R_mv t2 (G_yes (edF g4 rfl) (R_gtr rfl rfl (R_pickF (edF g4 rfl) rfl ?_))))
   exact ⟨t1,t2,t3,t6,(dec_orF g4),h3,h6,h9,h11,h12,h13,h16,h812,h813,h814,trivial⟩
 intro T H ⟨t1,t2,t3,t6,t36,h3,h6,h9,h11,h12,h13,h16,h812,h813,h814,_⟩
 refine R_e ?_
 refine W_seq_if t36 (fun c5=>?_) fun c5=>?_
 ·
  have d2:inp < 1∨64 < inp∨tm < 0∨4 < tm:=by have q:=c5; omega
  refine W_seq_seq (W_r (R_build rfl rfl (R_store (vs:=[(iV (0:Int)),(iV (0:Int)),(iV (0:Int)),V.nilsl,V.nilsl,V.nilsl]) (B':=(bk 1 29 6 [[(iV (0:Int)),(iV (0:Int)),(iV (0:Int)),V.nilsl,V.nilsl,V.nilsl]])) t6 rfl rfl h6 (sB oB rfl rfl rfl rfl rfl) (R_mv rfl (R_e (W_seq_ret ?_))))))
  refine RetC_2 (resV_c (u:=(V.agg [(iV (0:Int)),(iV (0:Int)),(iV (0:Int)),V.nilsl,V.nilsl,V.nilsl])) t6 (@rfl Blk (bk 1 29 6 [[(iV (0:Int)),(iV (0:Int)),(iV (0:Int)),V.nilsl,V.nilsl,V.nilsl]])) (lB oB rfl rfl)) (resV_t (@rfl V (iV (2:Int)))) (fz_aggL (mcons (fz_int ?_) (mcons (fz_int ?_) (mcons (fz_int ?_) (mcons (fz_nil ?_) (mcons (fz_nil ?_) (mcons (fz_nil ?_) rfl))))))) (fz_int ?_)
  · rw [rbT_no (by rw [rbE_2 d1 d2]; first|decide|exact d1)]
  · rw [rbT_no (by rw [rbE_2 d1 d2]; first|decide|exact d1)]
  · rw [rbT_no (by rw [rbE_2 d1 d2]; first|decide|exact d1)]
  · rw [rbT_no (by rw [rbE_2 d1 d2]; first|decide|exact d1)]
  · rw [rbT_no (by rw [rbE_2 d1 d2]; first|decide|exact d1)]
  · rw [rbT_no (by rw [rbE_2 d1 d2]; first|decide|exact d1)]
  · rw [rbE_2 d1 d2]
 have d2: ¬(inp < 1∨64 < inp∨tm < 0∨4 < tm):=by have q:=c5; omega
 refine W_seq_skip (W_seq_seq (W_r (R_fk t3 h3 (R_lk rfl h3 rfl rfl (R_mv t1 (R_mv t2 (R_add rfl rfl (by omega) (by omega) ?_)))))))
 refine R_neq rfl rfl (R_e ?_)
 refine W_seq_if rfl (fun c6=>?_) fun c6=>?_
 ·
  have d3:=c6
  refine W_seq_seq (W_r (R_build rfl rfl (R_store (vs:=[(iV (0:Int)),(iV (0:Int)),(iV (0:Int)),V.nilsl,V.nilsl,V.nilsl]) (B':=(bk 1 29 6 [[(iV (0:Int)),(iV (0:Int)),(iV (0:Int)),V.nilsl,V.nilsl,V.nilsl]])) t6 rfl rfl h6 (sB oB rfl rfl rfl rfl rfl) (R_mv rfl (R_e (W_seq_ret ?_))))))
  refine RetC_2 (resV_c (u:=(V.agg [(iV (0:Int)),(iV (0:Int)),(iV (0:Int)),V.nilsl,V.nilsl,V.nilsl])) t6 (@rfl Blk (bk 1 29 6 [[(iV (0:Int)),(iV (0:Int)),(iV (0:Int)),V.nilsl,V.nilsl,V.nilsl]])) (lB oB rfl rfl)) (resV_t (@rfl V (iV (15:Int)))) (fz_aggL (mcons (fz_int ?_) (mcons (fz_int ?_) (mcons (fz_int ?_) (mcons (fz_nil ?_) (mcons (fz_nil ?_) (mcons (fz_nil ?_) rfl))))))) (fz_int ?_)
  · rw [rbT_no (by rw [rbE_3 d1 d2 d3]; first|decide|exact d1)]
  · rw [rbT_no (by rw [rbE_3 d1 d2 d3]; first|decide|exact d1)]
  · rw [rbT_no (by rw [rbE_3 d1 d2 d3]; first|decide|exact d1)]
  · rw [rbT_no (by rw [rbE_3 d1 d2 d3]; first|decide|exact d1)]
  · rw [rbT_no (by rw [rbE_3 d1 d2 d3]; first|decide|exact d1)]
  · rw [rbT_no (by rw [rbE_3 d1 d2 d3]; first|decide|exact d1)]
  · rw [rbE_3 d1 d2 d3]
 have d3:=c6
 refine W_seq_skip (W_seq_seq (W_r (R_lk t3 h3 rfl rfl (R_mv t1 (R_mv t2 (R_callk (rtimed_pure m ((inp)) ((tm)) hm (by omega) (by omega) (by omega)) rfl (R_notb rfl ?_)))))))
 refine R_e ?_
 refine W_seq_ifb rfl (fun c7=>?_) (fun c7=>?_)
 ·
  have d4:vldR m inp tm=false:=by simpa using c7
  refine W_seq_seq (W_r (R_build rfl rfl (R_store (vs:=[(iV (0:Int)),(iV (0:Int)),(iV (0:Int)),V.nilsl,V.nilsl,V.nilsl]) (B':=(bk 1 29 6 [[(iV (0:Int)),(iV (0:Int)),(iV (0:Int)),V.nilsl,V.nilsl,V.nilsl]])) t6 rfl rfl h6 (sB oB rfl rfl rfl rfl rfl) (R_mv rfl (R_e (W_seq_ret ?_))))))
  refine RetC_2 (resV_c (u:=(V.agg [(iV (0:Int)),(iV (0:Int)),(iV (0:Int)),V.nilsl,V.nilsl,V.nilsl])) t6 (@rfl Blk (bk 1 29 6 [[(iV (0:Int)),(iV (0:Int)),(iV (0:Int)),V.nilsl,V.nilsl,V.nilsl]])) (lB oB rfl rfl)) (resV_t (@rfl V (iV (1:Int)))) (fz_aggL (mcons (fz_int ?_) (mcons (fz_int ?_) (mcons (fz_int ?_) (mcons (fz_nil ?_) (mcons (fz_nil ?_) (mcons (fz_nil ?_) rfl))))))) (fz_int ?_)
  · rw [rbT_no (by rw [rbE_4 d1 d2 d3 d4]; first|decide|exact d1)]
  · rw [rbT_no (by rw [rbE_4 d1 d2 d3 d4]; first|decide|exact d1)]
  · rw [rbT_no (by rw [rbE_4 d1 d2 d3 d4]; first|decide|exact d1)]
  · rw [rbT_no (by rw [rbE_4 d1 d2 d3 d4]; first|decide|exact d1)]
  · rw [rbT_no (by rw [rbE_4 d1 d2 d3 d4]; first|decide|exact d1)]
  · rw [rbT_no (by rw [rbE_4 d1 d2 d3 d4]; first|decide|exact d1)]
  · rw [rbE_4 d1 d2 d3 d4]
 have d4:vldR m inp tm=true:=by simpa using c7
 refine W_seq_skip (W_r (R_lk t3 h3 rfl rfl (R_callk (rtrim_pure m) rfl (R_mv rfl (R_ext rfl rfl (R_ext rfl rfl (R_store (vs:=[(iV ((trR m).i)),(iV ((trR m).s)),(intss ((trR m).nx)),(intss ((trR m).ot))]) (B':=(bk 1 24 4 [[(iV ((trR m).i)),(iV ((trR m).s)),(intss ((trR m).nx)),(intss ((trR m).ot))]])) t3 rfl rfl h3 (sB oB rfl rfl rfl rfl rfl) ?_)))))))
 refine R_e (W_r (R_mv t1 (R_mv t2 (R_build rfl rfl (R_alloc (i:=9) (n:=0) (m:=6) rfl (congrArg Blk.ver h9) rfl (R_store (vs:=[(iV (inp)),(iV (tm)),(iV (0:Int)),V.nilsl,V.nilsl,V.nilsl]) (B':=(bk 1 29 6 [[(iV (inp)),(iV (tm)),(iV (0:Int)),V.nilsl,V.nilsl,V.nilsl]])) rfl rfl rfl rfl (sB oB rfl rfl rfl rfl rfl) (R_e ?_)))))))
 refine W_seq_seq ?_
 refine W_seq_g (fun T H=>T 2=(iV (tm))∧T 3=(V.mp 3 1 0 0)∧T 6=(V.mp 6 1 0 0)∧T 9=(V.mp 9 1 0 0)∧T 10=(iV (0:Int))∧H 3=(bk 1 24 4 [[(iV ((trR m).i)),(iV ((trR m).s)),(intss ((trR m).nx)),(intss ((trR m).ot))]])∧H 6=(bk 1 29 6 [[(iV (0:Int)),(iV (0:Int)),(iV (0:Int)),V.nilsl,V.nilsl,V.nilsl]])∧H 9=(bk 1 29 6 [[(iV (inp)),(iV (tm)),(iV (0:Int)),V.nilsl,V.nilsl,V.nilsl]])∧H 11=(⟨0,false,false,0,0,[]⟩:Blk)∧H 12=(⟨0,false,false,0,0,[]⟩:Blk)∧H 13=(⟨0,false,false,0,0,[]⟩:Blk)∧H 16=(⟨0,false,false,0,0,[]⟩:Blk)∧H 812=(⟨0,false,false,0,0,[]⟩:Blk)∧H 813=(⟨0,false,false,0,0,[]⟩:Blk)∧H 814=(⟨0,false,false,0,0,[]⟩:Blk)∧True) ?_ ?_
 ·
  refine R_mv rfl ?_
  exact R_nil ⟨t2,t3,t6,rfl,rfl,rfl,h6,rfl,h11,h12,h13,h16,h812,h813,h814,trivial⟩
 intro T H ⟨t2,t3,t6,t9,t10,h3,h6,h9,h11,h12,h13,h16,h812,h813,h814,_⟩
 refine .lazyCell 812 38 1 9 0 3 [(iV (inp)),(iV (tm)),(iV (0:Int)),V.nilsl,V.nilsl,V.nilsl] (by decide) (by rw [h9]; rfl) (by rw [h9]; rfl) rfl (fork_ (R:=fun T H=>T 2=(iV (tm))∧T 3=(V.mp 3 1 0 0)∧T 6=(V.mp 6 1 0 0)∧T 9=(V.mp 9 1 0 0)∧T 10=(iV (0:Int))∧H 3=(bk 1 24 4 [[(iV ((trR m).i)),(iV ((trR m).s)),(intss ((trR m).nx)),(intss ((trR m).ot))]])∧H 6=(bk 1 29 6 [[(iV (0:Int)),(iV (0:Int)),(iV (0:Int)),V.nilsl,V.nilsl,V.nilsl]])∧H 9=(bk 1 29 6 [[(iV (inp)),(iV (tm)),(iV (0:Int)),(V.ms 812 1 0 (0)),V.nilsl,V.nilsl]])∧H 11=(⟨0,false,false,0,0,[]⟩:Blk)∧H 12=(⟨0,false,false,0,0,[]⟩:Blk)∧H 13=(⟨0,false,false,0,0,[]⟩:Blk)∧H 16=(⟨0,false,false,0,0,[]⟩:Blk)∧H 812=(bz 1 38 1 [])∧H 813=(⟨0,false,false,0,0,[]⟩:Blk)∧H 814=(⟨0,false,false,0,0,[]⟩:Blk)∧True) ⟨t2,t3,t6,t9,t10,((upd_ne _ _ (by decide)).trans ((upd_ne _ _ (by decide)).trans h3)),((upd_ne _ _ (by decide)).trans ((upd_ne _ _ (by decide)).trans h6)),(by rw [upd_same,h9,(congrArg Blk.ver h812)]; rfl),((upd_ne _ _ (by decide)).trans ((upd_ne _ _ (by decide)).trans h11)),((upd_ne _ _ (by decide)).trans ((upd_ne _ _ (by decide)).trans h12)),((upd_ne _ _ (by decide)).trans ((upd_ne _ _ (by decide)).trans h13)),((upd_ne _ _ (by decide)).trans ((upd_ne _ _ (by decide)).trans h16)),(by rw [upd_ne _ _ (by decide),upd_same,(congrArg Blk.ver h812)]),((upd_ne _ _ (by decide)).trans ((upd_ne _ _ (by decide)).trans h813)),((upd_ne _ _ (by decide)).trans ((upd_ne _ _ (by decide)).trans h814)),trivial⟩ ?_)
 intro T H ⟨t2,t3,t6,t9,t10,h3,h6,h9,h11,h12,h13,h16,h812,h813,h814,_⟩
 refine .lazyCell 813 38 1 9 0 4 [(iV (inp)),(iV (tm)),(iV (0:Int)),(V.ms 812 1 0 (0)),V.nilsl,V.nilsl] (by decide) (by rw [h9]; rfl) (by rw [h9]; rfl) rfl (fork_ (R:=fun T H=>T 2=(iV (tm))∧T 3=(V.mp 3 1 0 0)∧T 6=(V.mp 6 1 0 0)∧T 9=(V.mp 9 1 0 0)∧T 10=(iV (0:Int))∧H 3=(bk 1 24 4 [[(iV ((trR m).i)),(iV ((trR m).s)),(intss ((trR m).nx)),(intss ((trR m).ot))]])∧H 6=(bk 1 29 6 [[(iV (0:Int)),(iV (0:Int)),(iV (0:Int)),V.nilsl,V.nilsl,V.nilsl]])∧H 9=(bk 1 29 6 [[(iV (inp)),(iV (tm)),(iV (0:Int)),(V.ms 812 1 0 (0)),(V.ms 813 1 0 (0)),V.nilsl]])∧H 11=(⟨0,false,false,0,0,[]⟩:Blk)∧H 12=(⟨0,false,false,0,0,[]⟩:Blk)∧H 13=(⟨0,false,false,0,0,[]⟩:Blk)∧H 16=(⟨0,false,false,0,0,[]⟩:Blk)∧H 812=(bz 1 38 1 [])∧H 813=(bz 1 38 1 [])∧H 814=(⟨0,false,false,0,0,[]⟩:Blk)∧True) ⟨t2,t3,t6,t9,t10,((upd_ne _ _ (by decide)).trans ((upd_ne _ _ (by decide)).trans h3)),((upd_ne _ _ (by decide)).trans ((upd_ne _ _ (by decide)).trans h6)),(by rw [upd_same,h9,(congrArg Blk.ver h813)]; rfl),((upd_ne _ _ (by decide)).trans ((upd_ne _ _ (by decide)).trans h11)),((upd_ne _ _ (by decide)).trans ((upd_ne _ _ (by decide)).trans h12)),((upd_ne _ _ (by decide)).trans ((upd_ne _ _ (by decide)).trans h13)),((upd_ne _ _ (by decide)).trans ((upd_ne _ _ (by decide)).trans h16)),((upd_ne _ _ (by decide)).trans ((upd_ne _ _ (by decide)).trans h812)),(by rw [upd_ne _ _ (by decide),upd_same,(congrArg Blk.ver h813)]),((upd_ne _ _ (by decide)).trans ((upd_ne _ _ (by decide)).trans h814)),trivial⟩ ?_)
 intro T H ⟨t2,t3,t6,t9,t10,h3,h6,h9,h11,h12,h13,h16,h812,h813,h814,_⟩
 refine .lazyCell 814 70 1 9 0 5 [(iV (inp)),(iV (tm)),(iV (0:Int)),(V.ms 812 1 0 (0)),(V.ms 813 1 0 (0)),V.nilsl] (by decide) (by rw [h9]; rfl) (by rw [h9]; rfl) rfl (.done ?_)
 refine fork_ (R:=fun T H=>T 2=(iV (tm))∧T 3=(V.mp 3 1 0 0)∧T 6=(V.mp 6 1 0 0)∧T 9=(V.mp 9 1 0 0)∧T 10=(iV (0:Int))∧H 3=(bk 1 24 4 [[(iV ((trR m).i)),(iV ((trR m).s)),(intss ((trR m).nx)),(intss ((trR m).ot))]])∧H 6=(bk 1 29 6 [[(iV (0:Int)),(iV (0:Int)),(iV (0:Int)),V.nilsl,V.nilsl,V.nilsl]])∧H 9=(bk 1 29 6 [[(iV (inp)),(iV (tm)),(iV (0:Int)),(V.ms 812 1 0 (0)),(V.ms 813 1 0 (0)),(V.ms 814 1 0 (0))]])∧H 11=(⟨0,false,false,0,0,[]⟩:Blk)∧H 12=(⟨0,false,false,0,0,[]⟩:Blk)∧H 13=(⟨0,false,false,0,0,[]⟩:Blk)∧H 16=(⟨0,false,false,0,0,[]⟩:Blk)∧H 812=(bz 1 38 1 [])∧H 813=(bz 1 38 1 [])∧H 814=(bz 1 70 1 [])∧True) ⟨t2,t3,t6,t9,t10,((upd_ne _ _ (by decide)).trans ((upd_ne _ _ (by decide)).trans h3)),((upd_ne _ _ (by decide)).trans ((upd_ne _ _ (by decide)).trans h6)),(by rw [upd_same,h9,(congrArg Blk.ver h814)]; rfl),((upd_ne _ _ (by decide)).trans ((upd_ne _ _ (by decide)).trans h11)),((upd_ne _ _ (by decide)).trans ((upd_ne _ _ (by decide)).trans h12)),((upd_ne _ _ (by decide)).trans ((upd_ne _ _ (by decide)).trans h13)),((upd_ne _ _ (by decide)).trans ((upd_ne _ _ (by decide)).trans h16)),((upd_ne _ _ (by decide)).trans ((upd_ne _ _ (by decide)).trans h812)),((upd_ne _ _ (by decide)).trans ((upd_ne _ _ (by decide)).trans h813)),(by rw [upd_ne _ _ (by decide),upd_same,(congrArg Blk.ver h814)]),trivial⟩ ?_
 intro T H ⟨t2,t3,t6,t9,t10,h3,h6,h9,h11,h12,h13,h16,h812,h813,h814,_⟩
 refine W_seq_blockg fun Q8 n8 x8 y8 z8=>?_
 refine W_loop (fun mm T H=> ∃ (k:Nat) (v:Nat) (w:Nat) (u:Nat) (v11:Nat) (v12:Nat) (v13:Nat) (v16:Nat),mm=(trR m).nx.length - k∧T 2=(iV (tm))∧T 3=(V.mp 3 1 0 0)∧T 6=(V.mp 6 1 0 0)∧T 9=(V.mp 9 1 0 0)∧T 10=(iV ((k:Nat):Int))∧H 3=(bk 1 24 4 [[(iV ((trR m).i)),(iV ((trR m).s)),(intss ((trR m).nx)),(intss ((trR m).ot))]])∧H 6=(bk 1 29 6 [[(iV (0:Int)),(iV (0:Int)),(iV (0:Int)),V.nilsl,V.nilsl,V.nilsl]])∧H 9=(bk 1 29 6 [[(iV (inp)),(iV (tm)),(iV (0:Int)),(V.ms 812 v 0 (k)),(V.ms 813 w 0 (k)),(V.ms 814 u 0 (k))]])∧((H 11).ver=v11∧(H 11).live=false)∧((H 12).ver=v12∧(H 12).live=false)∧((H 13).ver=v13∧(H 13).live=false)∧(H 16).ver=v16∧H 812=(bz v 38 1 (List.map cL ((trR m).nx.take k)))∧H 813=(bz w 38 1 (List.map cL (tbl (rbV (trR m) tm) k)))∧H 814=(bz u 70 1 (List.map cSr (tbl (rbS (trR m) tm) k)))∧(k≤(trR m).nx.length)) ?_ ?_
 ·
  refine ⟨_,0,1,1,1,0,0,0,0,rfl,t2,t3,t6,t9,(Eq.trans t10 rfl),h3,h6,h9,⟨(congrArg Blk.ver h11),congrArg Blk.live h11⟩,⟨(congrArg Blk.ver h12),congrArg Blk.live h12⟩,⟨(congrArg Blk.ver h13),congrArg Blk.live h13⟩,(congrArg Blk.ver h16),(Eq.trans h812 (by first|rfl|(rw [e5]; rfl)|(rw [e5]; done)|(rw [e11,en,List.map_append]; first|done|rfl)|(rw [e11,en]; first|done|rfl)|(rw [en2,List.map_append]; first|done|rfl)|(rw [en2]; first|done|rfl)|(rw [tbl_succ,List.map_append,← ej]; first|done|rfl)|(rw [tbl_succ,List.map_append,← eo]; first|done|rfl)|(rw [tbl_succ,← ej]; first|done|rfl)|(rw [tbl_succ,← eo]; first|done|rfl)|(rw [tbl_succ]; first|done|rfl)|(rw [tbl_succ,List.map_append]; first|done|rfl)|(simp; done))),(Eq.trans h813 (by first|rfl|(rw [e5]; rfl)|(rw [e5]; done)|(rw [e11,en,List.map_append]; first|done|rfl)|(rw [e11,en]; first|done|rfl)|(rw [en2,List.map_append]; first|done|rfl)|(rw [en2]; first|done|rfl)|(rw [tbl_succ,List.map_append,← ej]; first|done|rfl)|(rw [tbl_succ,List.map_append,← eo]; first|done|rfl)|(rw [tbl_succ,← ej]; first|done|rfl)|(rw [tbl_succ,← eo]; first|done|rfl)|(rw [tbl_succ]; first|done|rfl)|(rw [tbl_succ,List.map_append]; first|done|rfl)|(simp; done))),(Eq.trans h814 (by first|rfl|(rw [e5]; rfl)|(rw [e5]; done)|(rw [e11,en,List.map_append]; first|done|rfl)|(rw [e11,en]; first|done|rfl)|(rw [en2,List.map_append]; first|done|rfl)|(rw [en2]; first|done|rfl)|(rw [tbl_succ,List.map_append,← ej]; first|done|rfl)|(rw [tbl_succ,List.map_append,← eo]; first|done|rfl)|(rw [tbl_succ,← ej]; first|done|rfl)|(rw [tbl_succ,← eo]; first|done|rfl)|(rw [tbl_succ]; first|done|rfl)|(rw [tbl_succ,List.map_append]; first|done|rfl)|(simp; done))),?_⟩
  · exact Nat.zero_le _
 intro mm T H ⟨k,v,w,u,v11,v12,v13,v16,hmm,t2,t3,t6,t9,t10,h3,h6,h9,h11,h12,h13,h16,h812,h813,h814,hk⟩ Q9 p19 p29 p39
 unfold b12_0
 refine W_seq_seq (W_r (R_mv t10 (R_fk t3 h3 (R_lk rfl h3 rfl rfl (R_len rfl (R_lss rfl rfl (R_e ?_)))))))
 refine W_seq_if rfl (fun c10=>?_) fun c10=>?_
 ·
  have kr:=k6 k (by omega)
  have en:(trR m).nx.take (k+1)=(trR m).nx.take k++[nth (trR m).nx k]:=take_succ_nth (by omega)
  refine W_seq_skip (W_seq_blockg fun Q11 n11 x11 y11 z11=>(W_r (R_lazy (i:=11) (n:=v11) rfl (h11).1 (R_lazy (i:=12) (n:=v12) rfl (h12).1 (R_e (W_r (R_lazy (i:=13) (n:=v13) rfl (h13).1 ?_)))))))
  refine R_e (W_seq_seq (W_r (R_mv rfl (R_e (W_seq_blockg fun Q12 n12 x12 y12 z12=>?_)))))
  refine W_loop (fun mm T H=> ∃ (j:Nat) (u2:Nat) (v2:Nat) (w2:Nat) (v16:Nat),mm=(trR m).i.toNat - j∧T 2=(iV (tm))∧T 3=(V.mp 3 1 0 0)∧T 6=(V.mp 6 1 0 0)∧T 9=(V.mp 9 1 0 0)∧T 10=(iV ((k:Nat):Int))∧T 11=(V.ms 11 u2 0 (j))∧T 12=(V.ms 12 v2 0 (j))∧T 13=(V.ms 13 w2 0 (j))∧T 14=(iV ((j:Nat):Int))∧H 3=(bk 1 24 4 [[(iV ((trR m).i)),(iV ((trR m).s)),(intss ((trR m).nx)),(intss ((trR m).ot))]])∧H 6=(bk 1 29 6 [[(iV (0:Int)),(iV (0:Int)),(iV (0:Int)),V.nilsl,V.nilsl,V.nilsl]])∧H 9=(bk 1 29 6 [[(iV (inp)),(iV (tm)),(iV (0:Int)),(V.ms 812 v 0 (k)),(V.ms 813 w 0 (k)),(V.ms 814 u 0 (k))]])∧H 11=(bz u2 3 1 (List.map cI ((nth (trR m).nx k).take j)))∧H 12=(bz v2 3 1 (List.map cI (tbl (rbVA (trR m) tm k) j)))∧H 13=(bz w2 73 2 (List.map cSg (tbl (rbSA (trR m) tm k) j)))∧(H 16).ver=v16∧H 812=(bz v 38 1 (List.map cL ((trR m).nx.take k)))∧H 813=(bz w 38 1 (List.map cL (tbl (rbV (trR m) tm) k)))∧H 814=(bz u 70 1 (List.map cSr (tbl (rbS (trR m) tm) k)))∧(j≤(trR m).i.toNat)) ?_ ?_
  ·
   refine ⟨_,0,(v11+1),(v12+1),(v13+1),v16,rfl,t2,t3,t6,t9,t10,(Eq.trans (@rfl V (V.ms 11 (v11+1) 0 (0))) (by first|rfl|(rw [← e4.1]; rfl)|(rw [e4.1]; done)|(rw [← e4.1]; done)|exact congrArg V.agg (by rw [e5])|simp)),(Eq.trans (@rfl V (V.ms 12 (v12+1) 0 (0))) (by first|rfl|(rw [← e4.1]; rfl)|(rw [e4.1]; done)|(rw [← e4.1]; done)|exact congrArg V.agg (by rw [e5])|simp)),(Eq.trans (@rfl V (V.ms 13 (v13+1) 0 (0))) (by first|rfl|(rw [← e4.1]; rfl)|(rw [e4.1]; done)|(rw [← e4.1]; done)|exact congrArg V.agg (by rw [e5])|simp)),(Eq.trans (@rfl V (iV (0:Int))) rfl),h3,h6,h9,(Eq.trans (@rfl Blk (bz (v11+1) 3 1 [])) (by first|rfl|(rw [e5]; rfl)|(rw [e5]; done)|(rw [e11,en,List.map_append]; first|done|rfl)|(rw [e11,en]; first|done|rfl)|(rw [en2,List.map_append]; first|done|rfl)|(rw [en2]; first|done|rfl)|(rw [tbl_succ,List.map_append,← ej]; first|done|rfl)|(rw [tbl_succ,List.map_append,← eo]; first|done|rfl)|(rw [tbl_succ,← ej]; first|done|rfl)|(rw [tbl_succ,← eo]; first|done|rfl)|(rw [tbl_succ]; first|done|rfl)|(rw [tbl_succ,List.map_append]; first|done|rfl)|(simp; done))),(Eq.trans (@rfl Blk (bz (v12+1) 3 1 [])) (by first|rfl|(rw [e5]; rfl)|(rw [e5]; done)|(rw [e11,en,List.map_append]; first|done|rfl)|(rw [e11,en]; first|done|rfl)|(rw [en2,List.map_append]; first|done|rfl)|(rw [en2]; first|done|rfl)|(rw [tbl_succ,List.map_append,← ej]; first|done|rfl)|(rw [tbl_succ,List.map_append,← eo]; first|done|rfl)|(rw [tbl_succ,← ej]; first|done|rfl)|(rw [tbl_succ,← eo]; first|done|rfl)|(rw [tbl_succ]; first|done|rfl)|(rw [tbl_succ,List.map_append]; first|done|rfl)|(simp; done))),(Eq.trans (@rfl Blk (bz (v13+1) 73 2 [])) (by first|rfl|(rw [e5]; rfl)|(rw [e5]; done)|(rw [e11,en,List.map_append]; first|done|rfl)|(rw [e11,en]; first|done|rfl)|(rw [en2,List.map_append]; first|done|rfl)|(rw [en2]; first|done|rfl)|(rw [tbl_succ,List.map_append,← ej]; first|done|rfl)|(rw [tbl_succ,List.map_append,← eo]; first|done|rfl)|(rw [tbl_succ,← ej]; first|done|rfl)|(rw [tbl_succ,← eo]; first|done|rfl)|(rw [tbl_succ]; first|done|rfl)|(rw [tbl_succ,List.map_append]; first|done|rfl)|(simp; done))),h16,h812,h813,h814,?_⟩
   · exact Nat.zero_le _
  intro mm T H ⟨j,u2,v2,w2,v16,hmm,t2,t3,t6,t9,t10,t11,t12,t13,t14,h3,h6,h9,h11,h12,h13,h16,h812,h813,h814,hj⟩ Q13 p113 p213 p313
  unfold b12_1
  refine W_seq_seq (W_r (R_mv t14 (R_fk t3 h3 (R_lk rfl h3 rfl rfl (R_lss rfl rfl (R_e ?_))))))
  refine W_seq_if rfl (fun c14=>?_) fun c14=>?_
  ·
   have kj:=kr.2.2 j (by omega)
   have en2:(nth (trR m).nx k).take (j+1)=(nth (trR m).nx k).take j++[nth (nth (trR m).nx k) j]:=take_succ_nth (by omega)
   refine W_seq_skip (W_seq_blockg fun Q15 n15 x15 y15 z15=>(W_r (R_build rfl rfl (R_alloc (i:=16) (n:=v16) (m:=2) rfl h16 rfl (R_mv rfl (R_store (vs:=[(iV (-1:Int)),(iV (0:Int))]) (B':=(bk (v16+1) 73 2 [[(iV (-1:Int)),(iV (0:Int))]])) rfl rfl rfl rfl (sB oB rfl rfl rfl rfl rfl) (R_e ?_)))))))
   refine W_seq_seq (W_r (R_fk t3 h3 (R_lk rfl h3 rfl rfl (R_mv t10 (R_idx (i:=k) (@rfl V (intss ((trR m).ot))) (@rfl V (iV ((k:Nat):Int))) (by omega) rfl (R_load_pp rfl rfl (R_mv t14 ?_)))))))
   refine R_idx (i:=j) (@rfl V (ints ((nth ((trR m).ot) (k))))) (@rfl V (iV ((j:Nat):Int))) (by omega) rfl (R_load_pp rfl rfl (R_gtr rfl rfl (R_e ?_)))
   refine W_seq_J (fun T H=>T 2=(iV (tm))∧T 3=(V.mp 3 1 0 0)∧T 6=(V.mp 6 1 0 0)∧T 9=(V.mp 9 1 0 0)∧T 10=(iV ((k:Nat):Int))∧T 11=(V.ms 11 u2 0 (j))∧T 12=(V.ms 12 v2 0 (j))∧T 13=(V.ms 13 w2 0 (j))∧T 14=(iV ((j:Nat):Int))∧T 16=(V.mp 16 (v16+1) 0 0)∧T 15=(iV (oVl tm (nth (nth (trR m).ot k) j)))∧H 3=(bk 1 24 4 [[(iV ((trR m).i)),(iV ((trR m).s)),(intss ((trR m).nx)),(intss ((trR m).ot))]])∧H 6=(bk 1 29 6 [[(iV (0:Int)),(iV (0:Int)),(iV (0:Int)),V.nilsl,V.nilsl,V.nilsl]])∧H 9=(bk 1 29 6 [[(iV (inp)),(iV (tm)),(iV (0:Int)),(V.ms 812 v 0 (k)),(V.ms 813 w 0 (k)),(V.ms 814 u 0 (k))]])∧H 11=(bz u2 3 1 (List.map cI ((nth (trR m).nx k).take j)))∧H 12=(bz v2 3 1 (List.map cI (tbl (rbVA (trR m) tm k) j)))∧H 13=(bz w2 73 2 (List.map cSg (tbl (rbSA (trR m) tm k) j)))∧H 16=(bk (v16+1) 73 2 [[(iV ((oSg tm (nth (nth (trR m).ot k) j)).1)),(iV ((oSg tm (nth (nth (trR m).ot k) j)).2))]])∧H 812=(bz v 38 1 (List.map cL ((trR m).nx.take k)))∧H 813=(bz w 38 1 (List.map cL (tbl (rbV (trR m) tm) k)))∧H 814=(bz u 70 1 (List.map cSr (tbl (rbS (trR m) tm) k)))∧True) (fun Q16 n16 y16 z16=>?_) ?_
   ·
    refine W_if rfl (fun c17=>?_) fun c17=>?_
    ·
     have e4:=oVl_yes (tm:=tm) c17
     have e5:sgC (((nth (nth (trR m).ot k) j) - 1) % sgK tm)=oSg tm (nth (nth (trR m).ot k) j):=by unfold oSg; rw [← e4.2]; rfl
     refine W_t (R_fk t3 h3 (R_lk rfl h3 rfl rfl (R_mv t10 (R_idx (i:=k) (@rfl V (intss ((trR m).ot))) (@rfl V (iV ((k:Nat):Int))) (by omega) rfl (R_load_pp rfl rfl (R_mv t14 (R_idx (i:=j) (@rfl V (ints ((nth ((trR m).ot) (k))))) (@rfl V (iV ((j:Nat):Int))) (by omega) rfl ?_)))))))
     refine R_load_pp rfl rfl (R_mv t2 (R_callk (parts_pure (((nth ((nth ((trR m).ot) (k))) (j)))) ((tm)) (by omega) (by omega)) rfl (R_mv rfl (R_ext rfl rfl (R_ext rfl rfl (R_mv rfl (R_store (vs:=[(iV ((sgC (((((nth ((nth ((trR m).ot) (k))) (j)))) - 1) % sgK ((tm)))).1)),(iV ((sgC (((((nth ((nth ((trR m).ot) (k))) (j)))) - 1) % sgK ((tm)))).2))]) (B':=(bk (v16+1) 73 2 [[(iV ((sgC (((((nth ((nth ((trR m).ot) (k))) (j)))) - 1) % sgK ((tm)))).1)),(iV ((sgC (((((nth ((nth ((trR m).ot) (k))) (j)))) - 1) % sgK ((tm)))).2))]])) rfl rfl rfl rfl (sB oB rfl rfl rfl rfl rfl) ?_)))))))
     refine R_e ?_
     exact n16 _ _ ⟨t2,t3,t6,t9,t10,t11,t12,t13,t14,rfl,(Eq.trans (@rfl V (iV (((((nth ((nth ((trR m).ot) (k))) (j)))) - 1) / sgK ((tm))))) (by first|rfl|(rw [← e4.1]; rfl)|(rw [e4.1]; done)|(rw [← e4.1]; done)|exact congrArg V.agg (by rw [e5])|simp)),h3,h6,h9,h11,h12,h13,(Eq.trans (@rfl Blk (bk (v16+1) 73 2 [[(iV ((sgC (((((nth ((nth ((trR m).ot) (k))) (j)))) - 1) % sgK ((tm)))).1)),(iV ((sgC (((((nth ((nth ((trR m).ot) (k))) (j)))) - 1) % sgK ((tm)))).2))]])) (by first|rfl|(rw [e5]; rfl)|(rw [e5]; done)|(rw [e11,en,List.map_append]; first|done|rfl)|(rw [e11,en]; first|done|rfl)|(rw [en2,List.map_append]; first|done|rfl)|(rw [en2]; first|done|rfl)|(rw [tbl_succ,List.map_append,← ej]; first|done|rfl)|(rw [tbl_succ,List.map_append,← eo]; first|done|rfl)|(rw [tbl_succ,← ej]; first|done|rfl)|(rw [tbl_succ,← eo]; first|done|rfl)|(rw [tbl_succ]; first|done|rfl)|(rw [tbl_succ,List.map_append]; first|done|rfl)|(simp; done))),h812,h813,h814,trivial⟩
    have e4:=oVl_no (tm:=tm) c17
    have e5:=oSg_no (tm:=tm) c17
    refine W_skip ?_
    exact n16 _ _ ⟨t2,t3,t6,t9,t10,t11,t12,t13,t14,rfl,(Eq.trans (@rfl V (iV (0:Int))) (by first|rfl|(rw [← e4.1]; rfl)|(rw [e4.1]; done)|(rw [← e4.1]; done)|exact congrArg V.agg (by rw [e5])|simp)),h3,h6,h9,h11,h12,h13,(Eq.trans (@rfl Blk (bk (v16+1) 73 2 [[(iV (-1:Int)),(iV (0:Int))]])) (by first|rfl|(rw [e5]; rfl)|(rw [e5]; done)|(rw [e11,en,List.map_append]; first|done|rfl)|(rw [e11,en]; first|done|rfl)|(rw [en2,List.map_append]; first|done|rfl)|(rw [en2]; first|done|rfl)|(rw [tbl_succ,List.map_append,← ej]; first|done|rfl)|(rw [tbl_succ,List.map_append,← eo]; first|done|rfl)|(rw [tbl_succ,← ej]; first|done|rfl)|(rw [tbl_succ,← eo]; first|done|rfl)|(rw [tbl_succ]; first|done|rfl)|(rw [tbl_succ,List.map_append]; first|done|rfl)|(simp; done))),h812,h813,h814,trivial⟩
   intro T H ⟨t2,t3,t6,t9,t10,t11,t12,t13,t14,t16,t15,h3,h6,h9,h11,h12,h13,h16,h812,h813,h814,_⟩
   refine W_r (R_mv t11 (R_fk t3 h3 (R_lk rfl h3 rfl rfl (R_mv t10 (R_idx (i:=k) (@rfl V (intss ((trR m).nx))) (@rfl V (iV ((k:Nat):Int))) (by omega) rfl (R_load_pp rfl rfl (R_mv t14 ?_)))))))
   refine R_idx (i:=j) (@rfl V (ints ((nth ((trR m).nx) (k))))) (@rfl V (iV ((j:Nat):Int))) (by omega) rfl (R_load_pp rfl rfl (R_bslice rfl rfl (R_append1 (l:=((nth (trR m).nx k).take j)) (f:=cI) (x:=(((nth ((nth ((trR m).nx) (k))) (j))))) (@rfl V (V.ms 11 u2 0 (j))) h11 (by first|rfl|exact (tbl_len _ _).symm|(rw [List.length_take]; omega)|simp|omega) (@rfl V (V.sl [[(iV ((nth ((nth ((trR m).nx) (k))) (j))))]])) rfl rfl (by omega) (by omega) (R_mv rfl (R_e (W_r (R_mv t12 ?_)))))))
   refine R_mv t15 (R_bslice rfl rfl (R_append1 (l:=(tbl (rbVA (trR m) tm k) j)) (f:=cI) (x:=((oVl tm (nth (nth (trR m).ot k) j)))) (@rfl V (V.ms 12 v2 0 (j))) h12 (by first|rfl|exact (tbl_len _ _).symm|(rw [List.length_take]; omega)|simp|omega) (@rfl V (V.sl [[(iV (oVl tm (nth (nth (trR m).ot k) j)))]])) rfl rfl (by omega) (by omega) (R_mv rfl (R_e (W_t (R_mv t13 (R_lk t16 h16 rfl rfl ?_)))))))
   refine R_bslice rfl rfl (R_append1 (l:=(tbl (rbSA (trR m) tm k) j)) (f:=cSg) (x:=((oSg tm (nth (nth (trR m).ot k) j)))) (@rfl V (V.ms 13 w2 0 (j))) h13 (by first|rfl|exact (tbl_len _ _).symm|(rw [List.length_take]; omega)|simp|omega) (@rfl V (V.sl [[(iV ((oSg tm (nth (nth (trR m).ot k) j)).1)),(iV ((oSg tm (nth (nth (trR m).ot k) j)).2))]])) rfl rfl (by omega) (by omega) (R_mv rfl (R_e (n15 _ _ (.done (W_t (R_mv t14 ?_)))))))
   refine R_addN rfl (@rfl V (iV ((1:Nat):Int))) (by omega) (R_mv rfl (R_e ?_))
   refine p113 _ _ _ ?_ ⟨(j+1),(u2+1),(v2+1),(w2+1),(v16+1),rfl,t2,t3,t6,t9,t10,(Eq.trans (@rfl V (V.ms 11 (u2+1) 0 (j+1))) (by first|rfl|(rw [← e4.1]; rfl)|(rw [e4.1]; done)|(rw [← e4.1]; done)|exact congrArg V.agg (by rw [e5])|simp)),(Eq.trans (@rfl V (V.ms 12 (v2+1) 0 (j+1))) (by first|rfl|(rw [← e4.1]; rfl)|(rw [e4.1]; done)|(rw [← e4.1]; done)|exact congrArg V.agg (by rw [e5])|simp)),(Eq.trans (@rfl V (V.ms 13 (w2+1) 0 (j+1))) (by first|rfl|(rw [← e4.1]; rfl)|(rw [e4.1]; done)|(rw [← e4.1]; done)|exact congrArg V.agg (by rw [e5])|simp)),(Eq.trans (@rfl V (iV ((j+1:Nat):Int))) (by first|rfl|(rw [← e4.1]; rfl)|(rw [e4.1]; done)|(rw [← e4.1]; done)|exact congrArg V.agg (by rw [e5])|simp)),h3,h6,h9,(Eq.trans (@rfl Blk (bz (u2+1) 3 1 (List.map cI ((nth (trR m).nx k).take j++[((nth ((nth ((trR m).nx) (k))) (j)))])))) (by first|rfl|(rw [e5]; rfl)|(rw [e5]; done)|(rw [e11,en,List.map_append]; first|done|rfl)|(rw [e11,en]; first|done|rfl)|(rw [en2,List.map_append]; first|done|rfl)|(rw [en2]; first|done|rfl)|(rw [tbl_succ,List.map_append,← ej]; first|done|rfl)|(rw [tbl_succ,List.map_append,← eo]; first|done|rfl)|(rw [tbl_succ,← ej]; first|done|rfl)|(rw [tbl_succ,← eo]; first|done|rfl)|(rw [tbl_succ]; first|done|rfl)|(rw [tbl_succ,List.map_append]; first|done|rfl)|(simp; done))),(Eq.trans (@rfl Blk (bz (v2+1) 3 1 (List.map cI (tbl (rbVA (trR m) tm k) j++[(oVl tm (nth (nth (trR m).ot k) j))])))) (by first|rfl|(rw [e5]; rfl)|(rw [e5]; done)|(rw [e11,en,List.map_append]; first|done|rfl)|(rw [e11,en]; first|done|rfl)|(rw [en2,List.map_append]; first|done|rfl)|(rw [en2]; first|done|rfl)|(rw [tbl_succ,List.map_append,← ej]; first|done|rfl)|(rw [tbl_succ,List.map_append,← eo]; first|done|rfl)|(rw [tbl_succ,← ej]; first|done|rfl)|(rw [tbl_succ,← eo]; first|done|rfl)|(rw [tbl_succ]; first|done|rfl)|(rw [tbl_succ,List.map_append]; first|done|rfl)|(simp; done))),(Eq.trans (@rfl Blk (bz (w2+1) 73 2 (List.map cSg (tbl (rbSA (trR m) tm k) j++[(oSg tm (nth (nth (trR m).ot k) j))])))) (by first|rfl|(rw [e5]; rfl)|(rw [e5]; done)|(rw [e11,en,List.map_append]; first|done|rfl)|(rw [e11,en]; first|done|rfl)|(rw [en2,List.map_append]; first|done|rfl)|(rw [en2]; first|done|rfl)|(rw [tbl_succ,List.map_append,← ej]; first|done|rfl)|(rw [tbl_succ,List.map_append,← eo]; first|done|rfl)|(rw [tbl_succ,← ej]; first|done|rfl)|(rw [tbl_succ,← eo]; first|done|rfl)|(rw [tbl_succ]; first|done|rfl)|(rw [tbl_succ,List.map_append]; first|done|rfl)|(simp; done))),(congrArg Blk.ver h16),h812,h813,h814,?_⟩
   · omega
   · omega
  have ej:tbl (rbVA (trR m) tm k) j=rbV (trR m) tm k:=by unfold rbV; rw [show (nth (trR m).ot k).length=j by omega]
  have eo:tbl (rbSA (trR m) tm k) j=rbS (trR m) tm k:=by unfold rbS; rw [show (nth (trR m).ot k).length=j by omega]
  have e11:(nth (trR m).nx k).take j=nth (trR m).nx k:=List.take_of_length_le (by omega)
  refine W_seq_exit (p313 _ _ _ (x12 _ _ (fork_ (R:=fun T H=>T 2=(iV (tm))∧T 3=(V.mp 3 1 0 0)∧T 6=(V.mp 6 1 0 0)∧T 9=(V.mp 9 1 0 0)∧T 10=(iV ((k:Nat):Int))∧T 11=(V.ms 11 u2 0 (j))∧T 12=(V.ms 12 v2 0 (j))∧T 13=(V.ms 13 w2 0 (j))∧T 14=(iV ((j:Nat):Int))∧T 69=(V.bool (decide (((j:Nat):Int) < ((trR m).i))))∧H 3=(bk 1 24 4 [[(iV ((trR m).i)),(iV ((trR m).s)),(intss ((trR m).nx)),(intss ((trR m).ot))]])∧H 6=(bk 1 29 6 [[(iV (0:Int)),(iV (0:Int)),(iV (0:Int)),V.nilsl,V.nilsl,V.nilsl]])∧H 9=(bk 1 29 6 [[(iV (inp)),(iV (tm)),(iV (0:Int)),(V.ms 812 v 0 (k)),(V.ms 813 w 0 (k)),(V.ms 814 u 0 (k))]])∧H 11=(bz u2 3 1 (List.map cI ((nth (trR m).nx k).take j)))∧H 12=(bz v2 3 1 (List.map cI (tbl (rbVA (trR m) tm k) j)))∧H 13=(bz w2 73 2 (List.map cSg (tbl (rbSA (trR m) tm k) j)))∧(H 16).ver=v16∧H 812=(bz v 38 1 (List.map cL ((trR m).nx.take k)))∧H 813=(bz w 38 1 (List.map cL (tbl (rbV (trR m) tm) k)))∧H 814=(bz u 70 1 (List.map cSr (tbl (rbS (trR m) tm) k)))∧True) ⟨t2,t3,t6,t9,t10,t11,t12,t13,t14,(@rfl V (V.bool (decide (((j:Nat):Int) < ((trR m).i))))),h3,h6,h9,h11,h12,h13,h16,h812,h813,h814,trivial⟩ ?_)))
  intro T H ⟨t2,t3,t6,t9,t10,t11,t12,t13,t14,t69,h3,h6,h9,h11,h12,h13,h16,h812,h813,h814,_⟩
  refine .freeze 11 (.done ?_)
  refine fork_ (R:=fun T H=>T 2=(iV (tm))∧T 3=(V.mp 3 1 0 0)∧T 6=(V.mp 6 1 0 0)∧T 9=(V.mp 9 1 0 0)∧T 10=(iV ((k:Nat):Int))∧T 11=(ints ((nth (trR m).nx k).take j))∧T 12=(V.ms 12 v2 0 (j))∧T 13=(V.ms 13 w2 0 (j))∧T 14=(iV ((j:Nat):Int))∧T 69=(V.bool (decide (((j:Nat):Int) < ((trR m).i))))∧H 3=(bk 1 24 4 [[(iV ((trR m).i)),(iV ((trR m).s)),(intss ((trR m).nx)),(intss ((trR m).ot))]])∧H 6=(bk 1 29 6 [[(iV (0:Int)),(iV (0:Int)),(iV (0:Int)),V.nilsl,V.nilsl,V.nilsl]])∧H 9=(bk 1 29 6 [[(iV (inp)),(iV (tm)),(iV (0:Int)),(V.ms 812 v 0 (k)),(V.ms 813 w 0 (k)),(V.ms 814 u 0 (k))]])∧((H 11).ver=u2∧(H 11).live=false)∧H 12=(bz v2 3 1 (List.map cI (tbl (rbVA (trR m) tm k) j)))∧H 13=(bz w2 73 2 (List.map cSg (tbl (rbSA (trR m) tm k) j)))∧(H 16).ver=v16∧H 812=(bz v 38 1 (List.map cL ((trR m).nx.take k)))∧H 813=(bz w 38 1 (List.map cL (tbl (rbV (trR m) tm) k)))∧H 814=(bz u 70 1 (List.map cSr (tbl (rbS (trR m) tm) k)))∧True) ⟨(fzT_q t2 rfl),(fzT_q t3 rfl),(fzT_q t6 rfl),(fzT_q t9 rfl),(fzT_q t10 rfl),(fzT_q t11 (fzq_own h11 (by first|rfl|simp) (l:=((nth (trR m).nx k).take j)) rfl (by first|rfl|exact (tbl_len _ _).symm|(rw [List.length_take]; omega)|simp|omega))),(fzT_q t12 (fzq_other (by decide))),(fzT_q t13 (fzq_other (by decide))),(fzT_q t14 rfl),(fzT_q t69 rfl),(kill_ne h3 (by decide)),(kill_ne h6 (by decide)),(kill_ne h9 (by decide)),(kill_self (congrArg Blk.ver h11)),(kill_ne h12 (by decide)),(kill_ne h13 (by decide)),(kill_ver h16),(kill_ne h812 (by decide)),(kill_ne h813 (by decide)),(kill_ne h814 (by decide)),trivial⟩ ?_
  intro T H ⟨t2,t3,t6,t9,t10,t11,t12,t13,t14,t69,h3,h6,h9,h11,h12,h13,h16,h812,h813,h814,_⟩
  refine W_seq_g (fun T H=>T 2=(iV (tm))∧T 3=(V.mp 3 1 0 0)∧T 6=(V.mp 6 1 0 0)∧T 9=(V.mp 9 1 0 0)∧T 10=(iV ((k:Nat):Int))∧T 12=(V.ms 12 v2 0 (j))∧T 13=(V.ms 13 w2 0 (j))∧H 3=(bk 1 24 4 [[(iV ((trR m).i)),(iV ((trR m).s)),(intss ((trR m).nx)),(intss ((trR m).ot))]])∧H 6=(bk 1 29 6 [[(iV (0:Int)),(iV (0:Int)),(iV (0:Int)),V.nilsl,V.nilsl,V.nilsl]])∧H 9=(bk 1 29 6 [[(iV (inp)),(iV (tm)),(iV (0:Int)),(V.ms 812 (v+1) 0 (k+1)),(V.ms 813 w 0 (k)),(V.ms 814 u 0 (k))]])∧((H 11).ver=u2∧(H 11).live=false)∧H 12=(bz v2 3 1 (List.map cI (tbl (rbVA (trR m) tm k) j)))∧H 13=(bz w2 73 2 (List.map cSg (tbl (rbSA (trR m) tm k) j)))∧(H 16).ver=v16∧H 812=(bz (v+1) 38 1 (List.map cL ((trR m).nx.take k++[(nth (trR m).nx k).take j])))∧H 813=(bz w 38 1 (List.map cL (tbl (rbV (trR m) tm) k)))∧H 814=(bz u 70 1 (List.map cSr (tbl (rbS (trR m) tm) k)))∧True) ?_ ?_
  ·
   refine R_fk t9 h9 (R_lk rfl h9 rfl rfl (R_mv t11 (R_bslice rfl rfl (R_append1 (l:=((trR m).nx.take k)) (f:=cL) (x:=((nth (trR m).nx k).take j)) (@rfl V (V.ms 812 v 0 (k))) h812 (by first|rfl|exact (tbl_len _ _).symm|(rw [List.length_take]; omega)|simp|omega) (@rfl V (V.sl [[(ints ((nth (trR m).nx k).take j))]])) rfl rfl (by omega) (by omega) (R_fk t9 h9 (R_store (vs:=[(V.ms 812 (v+1) 0 (k+1))]) (B':=(bk 1 29 6 [[(iV (inp)),(iV (tm)),(iV (0:Int)),(V.ms 812 (v+1) 0 (k+1)),(V.ms 813 w 0 (k)),(V.ms 814 u 0 (k))]])) rfl rfl rfl h9 (sB oB rfl rfl rfl rfl rfl) ?_))))))
   exact R_nil ⟨t2,t3,t6,t9,t10,t12,t13,h3,h6,rfl,h11,h12,h13,h16,rfl,h813,h814,trivial⟩
  intro T H ⟨t2,t3,t6,t9,t10,t12,t13,h3,h6,h9,h11,h12,h13,h16,h812,h813,h814,_⟩
  refine .freeze 12 (.done ?_)
  refine fork_ (R:=fun T H=>T 2=(iV (tm))∧T 3=(V.mp 3 1 0 0)∧T 6=(V.mp 6 1 0 0)∧T 9=(V.mp 9 1 0 0)∧T 10=(iV ((k:Nat):Int))∧T 12=(ints (tbl (rbVA (trR m) tm k) j))∧T 13=(V.ms 13 w2 0 (j))∧H 3=(bk 1 24 4 [[(iV ((trR m).i)),(iV ((trR m).s)),(intss ((trR m).nx)),(intss ((trR m).ot))]])∧H 6=(bk 1 29 6 [[(iV (0:Int)),(iV (0:Int)),(iV (0:Int)),V.nilsl,V.nilsl,V.nilsl]])∧H 9=(bk 1 29 6 [[(iV (inp)),(iV (tm)),(iV (0:Int)),(V.ms 812 (v+1) 0 (k+1)),(V.ms 813 w 0 (k)),(V.ms 814 u 0 (k))]])∧((H 11).ver=u2∧(H 11).live=false)∧((H 12).ver=v2∧(H 12).live=false)∧H 13=(bz w2 73 2 (List.map cSg (tbl (rbSA (trR m) tm k) j)))∧(H 16).ver=v16∧H 812=(bz (v+1) 38 1 (List.map cL ((trR m).nx.take k++[(nth (trR m).nx k).take j])))∧H 813=(bz w 38 1 (List.map cL (tbl (rbV (trR m) tm) k)))∧H 814=(bz u 70 1 (List.map cSr (tbl (rbS (trR m) tm) k)))∧True) ⟨(fzT_q t2 rfl),(fzT_q t3 rfl),(fzT_q t6 rfl),(fzT_q t9 rfl),(fzT_q t10 rfl),(fzT_q t12 (fzq_own h12 (by first|rfl|simp) (l:=(tbl (rbVA (trR m) tm k) j)) rfl (by first|rfl|exact (tbl_len _ _).symm|(rw [List.length_take]; omega)|simp|omega))),(fzT_q t13 (fzq_other (by decide))),(kill_ne h3 (by decide)),(kill_ne h6 (by decide)),(kill_ne h9 (by decide)),(kill_dead h11),(kill_self (congrArg Blk.ver h12)),(kill_ne h13 (by decide)),(kill_ver h16),(kill_ne h812 (by decide)),(kill_ne h813 (by decide)),(kill_ne h814 (by decide)),trivial⟩ ?_
  intro T H ⟨t2,t3,t6,t9,t10,t12,t13,h3,h6,h9,h11,h12,h13,h16,h812,h813,h814,_⟩
  refine W_seq_g (fun T H=>T 2=(iV (tm))∧T 3=(V.mp 3 1 0 0)∧T 6=(V.mp 6 1 0 0)∧T 9=(V.mp 9 1 0 0)∧T 10=(iV ((k:Nat):Int))∧T 13=(V.ms 13 w2 0 (j))∧H 3=(bk 1 24 4 [[(iV ((trR m).i)),(iV ((trR m).s)),(intss ((trR m).nx)),(intss ((trR m).ot))]])∧H 6=(bk 1 29 6 [[(iV (0:Int)),(iV (0:Int)),(iV (0:Int)),V.nilsl,V.nilsl,V.nilsl]])∧H 9=(bk 1 29 6 [[(iV (inp)),(iV (tm)),(iV (0:Int)),(V.ms 812 (v+1) 0 (k+1)),(V.ms 813 (w+1) 0 (k+1)),(V.ms 814 u 0 (k))]])∧((H 11).ver=u2∧(H 11).live=false)∧((H 12).ver=v2∧(H 12).live=false)∧H 13=(bz w2 73 2 (List.map cSg (tbl (rbSA (trR m) tm k) j)))∧(H 16).ver=v16∧H 812=(bz (v+1) 38 1 (List.map cL ((trR m).nx.take k++[(nth (trR m).nx k).take j])))∧H 813=(bz (w+1) 38 1 (List.map cL (tbl (rbV (trR m) tm) k++[tbl (rbVA (trR m) tm k) j])))∧H 814=(bz u 70 1 (List.map cSr (tbl (rbS (trR m) tm) k)))∧True) ?_ ?_
  ·
   refine R_fk t9 h9 (R_lk rfl h9 rfl rfl (R_mv t12 (R_bslice rfl rfl (R_append1 (l:=(tbl (rbV (trR m) tm) k)) (f:=cL) (x:=(tbl (rbVA (trR m) tm k) j)) (@rfl V (V.ms 813 w 0 (k))) h813 (by first|rfl|exact (tbl_len _ _).symm|(rw [List.length_take]; omega)|simp|omega) (@rfl V (V.sl [[(ints (tbl (rbVA (trR m) tm k) j))]])) rfl rfl (by omega) (by omega) (R_fk t9 h9 (R_store (vs:=[(V.ms 813 (w+1) 0 (k+1))]) (B':=(bk 1 29 6 [[(iV (inp)),(iV (tm)),(iV (0:Int)),(V.ms 812 (v+1) 0 (k+1)),(V.ms 813 (w+1) 0 (k+1)),(V.ms 814 u 0 (k))]])) rfl rfl rfl h9 (sB oB rfl rfl rfl rfl rfl) ?_))))))
   exact R_nil ⟨t2,t3,t6,t9,t10,t13,h3,h6,rfl,h11,h12,h13,h16,h812,rfl,h814,trivial⟩
  intro T H ⟨t2,t3,t6,t9,t10,t13,h3,h6,h9,h11,h12,h13,h16,h812,h813,h814,_⟩
  refine .freeze 13 (.done ?_)
  refine fork_ (R:=fun T H=>T 2=(iV (tm))∧T 3=(V.mp 3 1 0 0)∧T 6=(V.mp 6 1 0 0)∧T 9=(V.mp 9 1 0 0)∧T 10=(iV ((k:Nat):Int))∧T 13=(V.sl (List.map cSg (tbl (rbSA (trR m) tm k) j)))∧H 3=(bk 1 24 4 [[(iV ((trR m).i)),(iV ((trR m).s)),(intss ((trR m).nx)),(intss ((trR m).ot))]])∧H 6=(bk 1 29 6 [[(iV (0:Int)),(iV (0:Int)),(iV (0:Int)),V.nilsl,V.nilsl,V.nilsl]])∧H 9=(bk 1 29 6 [[(iV (inp)),(iV (tm)),(iV (0:Int)),(V.ms 812 (v+1) 0 (k+1)),(V.ms 813 (w+1) 0 (k+1)),(V.ms 814 u 0 (k))]])∧((H 11).ver=u2∧(H 11).live=false)∧((H 12).ver=v2∧(H 12).live=false)∧((H 13).ver=w2∧(H 13).live=false)∧(H 16).ver=v16∧H 812=(bz (v+1) 38 1 (List.map cL ((trR m).nx.take k++[(nth (trR m).nx k).take j])))∧H 813=(bz (w+1) 38 1 (List.map cL (tbl (rbV (trR m) tm) k++[tbl (rbVA (trR m) tm k) j])))∧H 814=(bz u 70 1 (List.map cSr (tbl (rbS (trR m) tm) k)))∧True) ⟨(fzT_q t2 rfl),(fzT_q t3 rfl),(fzT_q t6 rfl),(fzT_q t9 rfl),(fzT_q t10 rfl),(fzT_q t13 (fzq_own h13 (by first|rfl|simp) (l:=(tbl (rbSA (trR m) tm k) j)) rfl (by first|rfl|exact (tbl_len _ _).symm|(rw [List.length_take]; omega)|simp|omega))),(kill_ne h3 (by decide)),(kill_ne h6 (by decide)),(kill_ne h9 (by decide)),(kill_dead h11),(kill_dead h12),(kill_self (congrArg Blk.ver h13)),(kill_ver h16),(kill_ne h812 (by decide)),(kill_ne h813 (by decide)),(kill_ne h814 (by decide)),trivial⟩ ?_
  intro T H ⟨t2,t3,t6,t9,t10,t13,h3,h6,h9,h11,h12,h13,h16,h812,h813,h814,_⟩
  refine W_t (R_fk t9 h9 (R_lk rfl h9 rfl rfl (R_mv t13 (R_bslice rfl rfl (R_append1 (l:=(tbl (rbS (trR m) tm) k)) (f:=cSr) (x:=(tbl (rbSA (trR m) tm k) j)) (@rfl V (V.ms 814 u 0 (k))) h814 (by first|rfl|exact (tbl_len _ _).symm|(rw [List.length_take]; omega)|simp|omega) (@rfl V (V.sl [[(V.sl (List.map cSg (tbl (rbSA (trR m) tm k) j)))]])) rfl rfl (by omega) (by omega) (R_fk t9 h9 (R_store (vs:=[(V.ms 814 (u+1) 0 (k+1))]) (B':=(bk 1 29 6 [[(iV (inp)),(iV (tm)),(iV (0:Int)),(V.ms 812 (v+1) 0 (k+1)),(V.ms 813 (w+1) 0 (k+1)),(V.ms 814 (u+1) 0 (k+1))]])) rfl rfl rfl h9 (sB oB rfl rfl rfl rfl rfl) ?_)))))))
  refine R_e (n11 _ _ (.done (W_t (R_mv t10 (R_addN rfl (@rfl V (iV ((1:Nat):Int))) (by omega) (R_mv rfl (R_e ?_)))))))
  refine p19 _ _ _ ?_ ⟨(k+1),(v+1),(w+1),(u+1),u2,v2,w2,v16,rfl,t2,t3,t6,t9,(Eq.trans (@rfl V (iV ((k+1:Nat):Int))) (by first|rfl|(rw [← e4.1]; rfl)|(rw [e4.1]; done)|(rw [← e4.1]; done)|exact congrArg V.agg (by rw [e5])|simp)),h3,h6,(Eq.trans (@rfl Blk (bk 1 29 6 [[(iV (inp)),(iV (tm)),(iV (0:Int)),(V.ms 812 (v+1) 0 (k+1)),(V.ms 813 (w+1) 0 (k+1)),(V.ms 814 (u+1) 0 (k+1))]])) (by first|rfl|(rw [e5]; rfl)|(rw [e5]; done)|(rw [e11,en,List.map_append]; first|done|rfl)|(rw [e11,en]; first|done|rfl)|(rw [en2,List.map_append]; first|done|rfl)|(rw [en2]; first|done|rfl)|(rw [tbl_succ,List.map_append,← ej]; first|done|rfl)|(rw [tbl_succ,List.map_append,← eo]; first|done|rfl)|(rw [tbl_succ,← ej]; first|done|rfl)|(rw [tbl_succ,← eo]; first|done|rfl)|(rw [tbl_succ]; first|done|rfl)|(rw [tbl_succ,List.map_append]; first|done|rfl)|(simp; done))),h11,h12,h13,h16,(Eq.trans h812 (by first|rfl|(rw [e5]; rfl)|(rw [e5]; done)|(rw [e11,en,List.map_append]; first|done|rfl)|(rw [e11,en]; first|done|rfl)|(rw [en2,List.map_append]; first|done|rfl)|(rw [en2]; first|done|rfl)|(rw [tbl_succ,List.map_append,← ej]; first|done|rfl)|(rw [tbl_succ,List.map_append,← eo]; first|done|rfl)|(rw [tbl_succ,← ej]; first|done|rfl)|(rw [tbl_succ,← eo]; first|done|rfl)|(rw [tbl_succ]; first|done|rfl)|(rw [tbl_succ,List.map_append]; first|done|rfl)|(simp; done))),(Eq.trans h813 (by first|rfl|(rw [e5]; rfl)|(rw [e5]; done)|(rw [e11,en,List.map_append]; first|done|rfl)|(rw [e11,en]; first|done|rfl)|(rw [en2,List.map_append]; first|done|rfl)|(rw [en2]; first|done|rfl)|(rw [tbl_succ,List.map_append,← ej]; first|done|rfl)|(rw [tbl_succ,List.map_append,← eo]; first|done|rfl)|(rw [tbl_succ,← ej]; first|done|rfl)|(rw [tbl_succ,← eo]; first|done|rfl)|(rw [tbl_succ]; first|done|rfl)|(rw [tbl_succ,List.map_append]; first|done|rfl)|(simp; done))),(Eq.trans (@rfl Blk (bz (u+1) 70 1 (List.map cSr (tbl (rbS (trR m) tm) k++[tbl (rbSA (trR m) tm k) j])))) (by first|rfl|(rw [e5]; rfl)|(rw [e5]; done)|(rw [e11,en,List.map_append]; first|done|rfl)|(rw [e11,en]; first|done|rfl)|(rw [en2,List.map_append]; first|done|rfl)|(rw [en2]; first|done|rfl)|(rw [tbl_succ,List.map_append,← ej]; first|done|rfl)|(rw [tbl_succ,List.map_append,← eo]; first|done|rfl)|(rw [tbl_succ,← ej]; first|done|rfl)|(rw [tbl_succ,← eo]; first|done|rfl)|(rw [tbl_succ]; first|done|rfl)|(rw [tbl_succ,List.map_append]; first|done|rfl)|(simp; done))),?_⟩
  · omega
  · omega
 refine W_seq_exit (p39 _ _ _ (x8 _ _ (.done (W_r (R_lk t9 h9 rfl rfl (R_store (vs:=[(iV (inp)),(iV (tm)),(iV (0:Int)),(V.ms 812 v 0 (k)),(V.ms 813 w 0 (k)),(V.ms 814 u 0 (k))]) (B':=(bk 1 29 6 [[(iV (inp)),(iV (tm)),(iV (0:Int)),(V.ms 812 v 0 (k)),(V.ms 813 w 0 (k)),(V.ms 814 u 0 (k))]])) t6 rfl rfl h6 (sB oB rfl rfl rfl rfl rfl) (R_mv rfl ?_)))))))
 refine R_e (W_ret ?_)
 refine RetC_2 (resV_c (u:=(V.agg [(iV (inp)),(iV (tm)),(iV (0:Int)),(V.ms 812 v 0 (k)),(V.ms 813 w 0 (k)),(V.ms 814 u 0 (k))])) t6 (@rfl Blk (bk 1 29 6 [[(iV (inp)),(iV (tm)),(iV (0:Int)),(V.ms 812 v 0 (k)),(V.ms 813 w 0 (k)),(V.ms 814 u 0 (k))]])) (lB oB rfl rfl)) (resV_t (@rfl V (iV (0:Int)))) (fz_aggL (mcons (fz_int ?_) (mcons (fz_int ?_) (mcons (fz_int ?_) (mcons (fz_ms h812 (by first|rfl|simp) (l:=((trR m).nx.take k)) rfl (by first|rfl|exact (tbl_len _ _).symm|(rw [List.length_take]; omega)|simp|omega) (fun _=>by simp) ?_) (mcons (fz_ms h813 (by first|rfl|simp) (l:=(tbl (rbV (trR m) tm) k)) rfl (by first|rfl|exact (tbl_len _ _).symm|(rw [List.length_take]; omega)|simp|omega) (fun _=>by simp) ?_) (mcons (fz_ms h814 (by first|rfl|simp) (l:=(tbl (rbS (trR m) tm) k)) rfl (by first|rfl|exact (tbl_len _ _).symm|(rw [List.length_take]; omega)|simp|omega) (fun _=>by simp) ?_) rfl))))))) (fz_int ?_)
 · rw [rbT_yes hm (rbE_5 d1 d2 d3 d4),rbM_tbl]; try first|rfl|(rw [show k=(trR m).ot.length by omega]; done)|(rw [show k=(trR m).ot.length by omega]; rfl)|(rw [show k=(trR m).nx.length by omega,List.take_length])
 · rw [rbT_yes hm (rbE_5 d1 d2 d3 d4),rbM_tbl]; try first|rfl|(rw [show k=(trR m).ot.length by omega]; done)|(rw [show k=(trR m).ot.length by omega]; rfl)|(rw [show k=(trR m).nx.length by omega,List.take_length])
 · rw [rbT_yes hm (rbE_5 d1 d2 d3 d4),rbM_tbl]; try first|rfl|(rw [show k=(trR m).ot.length by omega]; done)|(rw [show k=(trR m).ot.length by omega]; rfl)|(rw [show k=(trR m).nx.length by omega,List.take_length])
 · rw [rbT_yes hm (rbE_5 d1 d2 d3 d4),rbM_tbl]; try first|rfl|(rw [show k=(trR m).ot.length by omega]; done)|(rw [show k=(trR m).ot.length by omega]; rfl)|(rw [show k=(trR m).nx.length by omega,List.take_length])
 · rw [rbT_yes hm (rbE_5 d1 d2 d3 d4),rbM_tbl]; try first|rfl|(rw [show k=(trR m).ot.length by omega]; done)|(rw [show k=(trR m).ot.length by omega]; rfl)|(rw [show k=(trR m).nx.length by omega,List.take_length])
 · rw [rbT_yes hm (rbE_5 d1 d2 d3 d4),rbM_tbl]; try first|rfl|(rw [show k=(trR m).ot.length by omega]; done)|(rw [show k=(trR m).ot.length by omega]; rfl)|(rw [show k=(trR m).nx.length by omega,List.take_length])
 · rw [rbE_5 d1 d2 d3 d4]
theorem ints_pure (a b:List Int):PureC Tryz.prog 17 [(ints a),(ints b)] (V.bool (decide (a=b))):=by
 refine pW Tryz.func17 s17_ok fun hB=>?_
 unfold s17
 dsimp only
 refine W_r (R_mv rfl (R_e (W_seq_seq (W_r (R_mv rfl (R_len rfl (R_mv rfl ?_)))))))
 refine R_len rfl (R_neq rfl rfl (R_e ?_))
 refine W_seq_if rfl (fun c1=>?_) fun c1=>?_
 ·
  refine W_seq_seq (W_r (R_mv rfl (R_e (W_seq_ret ?_))))
  refine Ret_1 (@rfl V (V.bool false)) (fz_bool ?_)
  · exact (decide_eq_false (fun e=>by subst e; omega)).symm
 refine W_seq_skip (W_seq_seq (W_r (R_mv rfl (R_e (W_seq_blockg fun Q2 n2 x2 y2 z2=>?_)))))
 refine W_loop (fun mm T H=> ∃ (k:Nat),mm=a.length - k∧T 0=(ints a)∧T 1=(ints b)∧T 5=(iV ((k:Nat):Int))∧(k≤a.length)∧(a.length=b.length)∧(∀ j,j < k→nth a j=nth b j)) ?_ ?_
 ·
  refine ⟨_,0,rfl,rfl,rfl,(Eq.trans (@rfl V (iV (0:Int))) rfl),?_,?_,?_⟩
  · omega
  · omega
  · intro j hj; omega
 intro mm T H ⟨k,hmm,t0,t1,t5,hk,hl,hc⟩ Q3 p13 p23 p33
 unfold b17_0
 refine W_seq_seq (W_r (R_mv t5 (R_mv t0 (R_len rfl (R_lss rfl rfl (R_e ?_))))))
 refine W_seq_if rfl (fun c4=>?_) fun c4=>?_
 ·
  refine W_seq_skip (W_seq_blockg fun Q5 n5 x5 y5 z5=>(W_r (R_mv t0 (R_mv t5 (R_idx (i:=k) (@rfl V (ints a)) (@rfl V (iV ((k:Nat):Int))) (by omega) rfl (R_load_pp rfl rfl (R_mv t1 ?_)))))))
  refine R_mv t5 (R_idx (i:=k) (@rfl V (ints b)) (@rfl V (iV ((k:Nat):Int))) (by omega) rfl (R_load_pp rfl rfl (R_neq rfl rfl (R_e ?_))))
  refine W_if rfl (fun c6=>?_) fun c6=>?_
  ·
   refine W_r (R_mv rfl (R_e (W_ret (y5 _ _ (p23 _ _ (y2 _ _ ?_))))))
   refine Ret_1 (@rfl V (V.bool false)) (fz_bool ?_)
   · exact (decide_eq_false (fun e=>by subst e; omega)).symm
  refine W_skip (n5 _ _ (.done (W_t (R_mv t5 (R_addN rfl (@rfl V (iV ((1:Nat):Int))) (by omega) (R_mv rfl (R_e ?_)))))))
  refine p13 _ _ _ ?_ ⟨(k+1),rfl,t0,t1,(Eq.trans (@rfl V (iV ((k+1:Nat):Int))) (by first|rfl|simp)),?_,?_,?_⟩
  · omega
  · omega
  · omega
  · intro j hj
    by_cases e:j=k
    · subst e; omega
    · exact hc j (by omega)
 refine W_seq_exit (p33 _ _ _ (x2 _ _ (.done (W_r (R_mv rfl (R_e (W_ret ?_)))))))
 refine Ret_1 (@rfl V (V.bool true)) (fz_bool ?_)
 · exact (decide_eq_true (nth_ext hl fun j hj=>hc j (by omega))).symm
theorem lists_pure (a b:List (List Int)):PureC Tryz.prog 38 [(intss a),(intss b)] (V.bool (decide (a=b))):=by
 refine pW Tryz.func38 s38_ok fun hB=>?_
 unfold s38
 dsimp only
 refine W_r (R_mv rfl (R_e (W_seq_seq (W_r (R_mv rfl (R_len rfl (R_mv rfl ?_)))))))
 refine R_len rfl (R_neq rfl rfl (R_e ?_))
 refine W_seq_if rfl (fun c1=>?_) fun c1=>?_
 ·
  refine W_seq_seq (W_r (R_mv rfl (R_e (W_seq_ret ?_))))
  refine Ret_1 (@rfl V (V.bool false)) (fz_bool ?_)
  · exact (decide_eq_false (fun e=>by subst e; omega)).symm
 refine W_seq_skip (W_seq_seq (W_r (R_mv rfl (R_e (W_seq_blockg fun Q2 n2 x2 y2 z2=>?_)))))
 refine W_loop (fun mm T H=> ∃ (k:Nat),mm=a.length - k∧T 0=(intss a)∧T 1=(intss b)∧T 5=(iV ((k:Nat):Int))∧(k≤a.length)∧(a.length=b.length)∧(∀ j,j < k→nth a j=nth b j)) ?_ ?_
 ·
  refine ⟨_,0,rfl,rfl,rfl,(Eq.trans (@rfl V (iV (0:Int))) rfl),?_,?_,?_⟩
  · omega
  · omega
  · intro j hj; omega
 intro mm T H ⟨k,hmm,t0,t1,t5,hk,hl,hc⟩ Q3 p13 p23 p33
 unfold b38_0
 refine W_seq_seq (W_r (R_mv t5 (R_mv t0 (R_len rfl (R_lss rfl rfl (R_e ?_))))))
 refine W_seq_if rfl (fun c4=>?_) fun c4=>?_
 ·
  refine W_seq_skip (W_seq_blockg fun Q5 n5 x5 y5 z5=>(W_r (R_mv t0 (R_mv t5 (R_idx (i:=k) (@rfl V (intss a)) (@rfl V (iV ((k:Nat):Int))) (by omega) rfl (R_load_pp rfl rfl (R_mv t1 ?_)))))))
  refine R_mv t5 (R_idx (i:=k) (@rfl V (intss b)) (@rfl V (iV ((k:Nat):Int))) (by omega) rfl (R_load_pp rfl rfl (R_callk (ints_pure ((nth (a) (k))) ((nth (b) (k)))) rfl (R_not rfl (R_e ?_)))))
  refine W_if rfl (fun c6=>?_) fun c6=>?_
  ·
   have d1:=c6
   refine W_r (R_mv rfl (R_e (W_ret (y5 _ _ (p23 _ _ (y2 _ _ ?_))))))
   refine Ret_1 (@rfl V (V.bool false)) (fz_bool ?_)
   · exact (decide_eq_false (fun e=>d1 (by subst e; rfl))).symm
  have d1:=Decidable.not_not.1 c6
  refine W_skip (n5 _ _ (.done (W_t (R_mv t5 (R_addN rfl (@rfl V (iV ((1:Nat):Int))) (by omega) (R_mv rfl (R_e ?_)))))))
  refine p13 _ _ _ ?_ ⟨(k+1),rfl,t0,t1,(Eq.trans (@rfl V (iV ((k+1:Nat):Int))) (by first|rfl|simp)),?_,?_,?_⟩
  · omega
  · omega
  · omega
  · intro j hj
    by_cases e:j=k
    · subst e; exact d1
    · exact hc j (by omega)
 refine W_seq_exit (p33 _ _ _ (x2 _ _ (.done (W_r (R_mv rfl (R_e (W_ret ?_)))))))
 refine Ret_1 (@rfl V (V.bool true)) (fz_bool ?_)
 · exact (decide_eq_true (nth_ext hl fun j hj=>hc j (by omega))).symm
theorem tmsame_pure (a b:TM):PureC Tryz.prog 13 [(V.agg [(iV (a.i)),(iV (a.tm)),(iV (a.s)),(intss a.nx),(intss a.ot),(V.sl (List.map cSr (a.st)))]),(V.agg [(iV (b.i)),(iV (b.tm)),(iV (b.s)),(intss b.nx),(intss b.ot),(V.sl (List.map cSr (b.st)))])] (V.bool (decide (a=b))):=by
 refine pW Tryz.func13 s13_ok fun hB=>?_
 unfold s13
 dsimp only
 refine W_r (R_box (i:=2) (n:=0) (m:=6) (cs:=[(iV (a.i)),(iV (a.tm)),(iV (a.s)),(intss a.nx),(intss a.ot),(V.sl (List.map cSr (a.st)))]) rfl (congrArg Blk.ver rfl) rfl rfl rfl (R_box (i:=3) (n:=0) (m:=6) (cs:=[(iV (b.i)),(iV (b.tm)),(iV (b.s)),(intss b.nx),(intss b.ot),(V.sl (List.map cSr (b.st)))]) rfl (congrArg Blk.ver rfl) rfl rfl rfl (R_mv rfl (R_e (W_seq_seq ?_)))))
 refine W_seq_regc (fun T H=>T 2=(V.mp 2 1 0 0)∧T 3=(V.mp 3 1 0 0)∧T 50=(V.bool (decide (((((((a.i)≠(b.i))∨((a.tm)≠(b.tm)))∨((a.s)≠(b.s)))∨(¬(a.nx=b.nx)))∨(¬(a.ot=b.ot)))∨(((a.st.length:Nat):Int)≠((b.st.length:Nat):Int)))))∧H 2=(bk 1 29 6 [[(iV (a.i)),(iV (a.tm)),(iV (a.s)),(intss a.nx),(intss a.ot),(V.sl (List.map cSr (a.st)))]])∧H 3=(bk 1 29 6 [[(iV (b.i)),(iV (b.tm)),(iV (b.s)),(intss b.nx),(intss b.ot),(V.sl (List.map cSr (b.st)))]])∧True) ?_ ?_
 ·
  refine R_fk rfl rfl (R_lk rfl rfl rfl rfl (R_fk rfl rfl (R_lk rfl rfl rfl rfl (R_neq rfl rfl (R_mv rfl ?_)))))
  refine Ops_seg 6 (fun T H=>T 2=(V.mp 2 1 0 0)∧T 3=(V.mp 3 1 0 0)∧T 18=(V.bool (decide (((a.i)≠(b.i))∨((a.tm)≠(b.tm)))))∧H 2=(bk 1 29 6 [[(iV (a.i)),(iV (a.tm)),(iV (a.s)),(intss a.nx),(intss a.ot),(V.sl (List.map cSr (a.st)))]])∧H 3=(bk 1 29 6 [[(iV (b.i)),(iV (b.tm)),(iV (b.s)),(intss b.nx),(intss b.ot),(V.sl (List.map cSr (b.st)))]])∧True) ?_ ?_
  ·
   by_cases g1:(a.i)≠(b.i)
   ·
    refine G_n (edT g1 rfl) (G_n (edT g1 rfl) (G_n (edT g1 rfl) (G_n (edT g1 rfl) (G_n (edT g1 rfl) (R_pickT (edT g1 rfl) rfl ?_)))))
    exact ⟨rfl,rfl,(dec_orT g1),rfl,rfl,trivial⟩
   ·
    refine G_yes (edF g1 rfl) (R_fk rfl rfl (G_yes (edF g1 rfl) (R_lk rfl rfl rfl rfl (G_yes (edF g1 rfl) (R_fk rfl rfl (G_yes (edF g1 rfl) (R_lk rfl rfl rfl rfl ?_)))))))
    refine G_yes (edF g1 rfl) (R_neq rfl rfl (R_pickF (edF g1 rfl) rfl ?_))
    exact ⟨rfl,rfl,(dec_orF g1),rfl,rfl,trivial⟩
  intro T H ⟨t2,t3,t18,h2,h3,_⟩
  refine R_mv t18 ?_
  refine Ops_seg 6 (fun T H=>T 2=(V.mp 2 1 0 0)∧T 3=(V.mp 3 1 0 0)∧T 25=(V.bool (decide ((((a.i)≠(b.i))∨((a.tm)≠(b.tm)))∨((a.s)≠(b.s)))))∧H 2=(bk 1 29 6 [[(iV (a.i)),(iV (a.tm)),(iV (a.s)),(intss a.nx),(intss a.ot),(V.sl (List.map cSr (a.st)))]])∧H 3=(bk 1 29 6 [[(iV (b.i)),(iV (b.tm)),(iV (b.s)),(intss b.nx),(intss b.ot),(V.sl (List.map cSr (b.st)))]])∧True) ?_ ?_
  ·
   by_cases g2:((a.i)≠(b.i))∨((a.tm)≠(b.tm))
   ·
    refine G_n (edT g2 rfl) (G_n (edT g2 rfl) (G_n (edT g2 rfl) (G_n (edT g2 rfl) (G_n (edT g2 rfl) (R_pickT (edT g2 rfl) rfl ?_)))))
    exact ⟨t2,t3,(dec_orT g2),h2,h3,trivial⟩
   ·
    refine G_yes (edF g2 rfl) (R_fk t2 h2 (G_yes (edF g2 rfl) (R_lk rfl h2 rfl rfl (G_yes (edF g2 rfl) (R_fk t3 h3 (G_yes (edF g2 rfl) (R_lk rfl h3 rfl rfl ?_)))))))
    refine G_yes (edF g2 rfl) (R_neq rfl rfl (R_pickF (edF g2 rfl) rfl ?_))
    exact ⟨t2,t3,(dec_orF g2),h2,h3,trivial⟩
  intro T H ⟨t2,t3,t25,h2,h3,_⟩
  refine R_mv t25 ?_
  refine Ops_seg 7 (fun T H=>T 2=(V.mp 2 1 0 0)∧T 3=(V.mp 3 1 0 0)∧T 33=(V.bool (decide (((((a.i)≠(b.i))∨((a.tm)≠(b.tm)))∨((a.s)≠(b.s)))∨(¬(a.nx=b.nx)))))∧H 2=(bk 1 29 6 [[(iV (a.i)),(iV (a.tm)),(iV (a.s)),(intss a.nx),(intss a.ot),(V.sl (List.map cSr (a.st)))]])∧H 3=(bk 1 29 6 [[(iV (b.i)),(iV (b.tm)),(iV (b.s)),(intss b.nx),(intss b.ot),(V.sl (List.map cSr (b.st)))]])∧True) ?_ ?_
  ·
   by_cases g3:(((a.i)≠(b.i))∨((a.tm)≠(b.tm)))∨((a.s)≠(b.s))
   ·
    refine G_n (edT g3 rfl) (G_n (edT g3 rfl) (G_n (edT g3 rfl) (G_n (edT g3 rfl) (G_n (edT g3 rfl) (G_n (edT g3 rfl) (R_pickT (edT g3 rfl) rfl ?_))))))
    exact ⟨t2,t3,(dec_orT g3),h2,h3,trivial⟩
   ·
    refine G_yes (edF g3 rfl) (R_fk t2 h2 (G_yes (edF g3 rfl) (R_lk rfl h2 rfl rfl (G_yes (edF g3 rfl) (R_fk t3 h3 (G_yes (edF g3 rfl) (R_lk rfl h3 rfl rfl ?_)))))))
    refine G_yes (edF g3 rfl) (R_callk (lists_pure a.nx b.nx) rfl (G_yes (edF g3 rfl) (R_not rfl (R_pickF (edF g3 rfl) rfl ?_))))
    exact ⟨t2,t3,(dec_orF g3),h2,h3,trivial⟩
  intro T H ⟨t2,t3,t33,h2,h3,_⟩
  refine R_mv t33 ?_
  refine Ops_seg 7 (fun T H=>T 2=(V.mp 2 1 0 0)∧T 3=(V.mp 3 1 0 0)∧T 41=(V.bool (decide ((((((a.i)≠(b.i))∨((a.tm)≠(b.tm)))∨((a.s)≠(b.s)))∨(¬(a.nx=b.nx)))∨(¬(a.ot=b.ot)))))∧H 2=(bk 1 29 6 [[(iV (a.i)),(iV (a.tm)),(iV (a.s)),(intss a.nx),(intss a.ot),(V.sl (List.map cSr (a.st)))]])∧H 3=(bk 1 29 6 [[(iV (b.i)),(iV (b.tm)),(iV (b.s)),(intss b.nx),(intss b.ot),(V.sl (List.map cSr (b.st)))]])∧True) ?_ ?_
  ·
   by_cases g4:((((a.i)≠(b.i))∨((a.tm)≠(b.tm)))∨((a.s)≠(b.s)))∨(¬(a.nx=b.nx))
   ·
    refine G_n (edT g4 rfl) (G_n (edT g4 rfl) (G_n (edT g4 rfl) (G_n (edT g4 rfl) (G_n (edT g4 rfl) (G_n (edT g4 rfl) (R_pickT (edT g4 rfl) rfl ?_))))))
    exact ⟨t2,t3,(dec_orT g4),h2,h3,trivial⟩
   ·
    refine G_yes (edF g4 rfl) (R_fk t2 h2 (G_yes (edF g4 rfl) (R_lk rfl h2 rfl rfl (G_yes (edF g4 rfl) (R_fk t3 h3 (G_yes (edF g4 rfl) (R_lk rfl h3 rfl rfl ?_)))))))
    refine G_yes (edF g4 rfl) (R_callk (lists_pure a.ot b.ot) rfl (G_yes (edF g4 rfl) (R_not rfl (R_pickF (edF g4 rfl) rfl ?_))))
    exact ⟨t2,t3,(dec_orF g4),h2,h3,trivial⟩
  intro T H ⟨t2,t3,t41,h2,h3,_⟩
  refine R_mv t41 ?_
  refine Ops_seg 8 (fun T H=>T 2=(V.mp 2 1 0 0)∧T 3=(V.mp 3 1 0 0)∧T 50=(V.bool (decide (((((((a.i)≠(b.i))∨((a.tm)≠(b.tm)))∨((a.s)≠(b.s)))∨(¬(a.nx=b.nx)))∨(¬(a.ot=b.ot)))∨(((a.st.length:Nat):Int)≠((b.st.length:Nat):Int)))))∧H 2=(bk 1 29 6 [[(iV (a.i)),(iV (a.tm)),(iV (a.s)),(intss a.nx),(intss a.ot),(V.sl (List.map cSr (a.st)))]])∧H 3=(bk 1 29 6 [[(iV (b.i)),(iV (b.tm)),(iV (b.s)),(intss b.nx),(intss b.ot),(V.sl (List.map cSr (b.st)))]])∧True) ?_ ?_
  ·
   by_cases g5:(((((a.i)≠(b.i))∨((a.tm)≠(b.tm)))∨((a.s)≠(b.s)))∨(¬(a.nx=b.nx)))∨(¬(a.ot=b.ot))
   ·
    refine G_n (edT g5 rfl) (G_n (edT g5 rfl) (G_n (edT g5 rfl) (G_n (edT g5 rfl) (G_n (edT g5 rfl) (G_n (edT g5 rfl) (G_n (edT g5 rfl) (R_pickT (edT g5 rfl) rfl ?_)))))))
    exact ⟨t2,t3,(dec_orT g5),h2,h3,trivial⟩
   ·
    refine G_yes (edF g5 rfl) (R_fk t2 h2 (G_yes (edF g5 rfl) (R_lk rfl h2 rfl rfl (G_yes (edF g5 rfl) (R_len rfl (G_yes (edF g5 rfl) (R_fk t3 h3 ?_)))))))
    refine G_yes (edF g5 rfl) (R_lk rfl h3 rfl rfl (G_yes (edF g5 rfl) (R_len rfl (G_yes (edF g5 rfl) (R_neq rfl rfl (R_pickF (edF g5 rfl) rfl ?_))))))
    exact ⟨t2,t3,(dec_orF g5),h2,h3,trivial⟩
  intro T H ⟨t2,t3,t50,h2,h3,_⟩
  exact R_nil ⟨t2,t3,t50,h2,h3,trivial⟩
 intro T H ⟨t2,t3,t50,h2,h3,_⟩
 refine W_seq_if t50 (fun c6=>?_) fun c6=>?_
 ·
  have d0:=c6
  refine W_seq_seq (W_r (R_mv rfl (R_e (W_seq_ret ?_))))
  refine Ret_1 (@rfl V (V.bool false)) (fz_bool ?_)
  · exact (decide_eq_false (fun e=>by subst e; simp at d0)).symm
 have d0:=c6
 refine W_seq_skip (W_seq_seq (W_r (R_mv rfl (R_e (W_seq_blockg fun Q7 n7 x7 y7 z7=>?_)))))
 refine W_loop (fun mm T H=> ∃ (k:Nat),mm=a.st.length - k∧T 2=(V.mp 2 1 0 0)∧T 3=(V.mp 3 1 0 0)∧T 5=(iV ((k:Nat):Int))∧H 2=(bk 1 29 6 [[(iV (a.i)),(iV (a.tm)),(iV (a.s)),(intss a.nx),(intss a.ot),(V.sl (List.map cSr (a.st)))]])∧H 3=(bk 1 29 6 [[(iV (b.i)),(iV (b.tm)),(iV (b.s)),(intss b.nx),(intss b.ot),(V.sl (List.map cSr (b.st)))]])∧(k≤a.st.length)∧(a.st.length=b.st.length)∧(∀ j,j < k→nth a.st j=nth b.st j)) ?_ ?_
 ·
  refine ⟨_,0,rfl,t2,t3,(Eq.trans (@rfl V (iV (0:Int))) rfl),h2,h3,?_,?_,?_⟩
  · exact Nat.zero_le _
  · omega
  · intro j hj; omega
 intro mm T H ⟨k,hmm,t2,t3,t5,h2,h3,hk,hl,hc⟩ Q8 p18 p28 p38
 unfold b13_0
 refine W_seq_seq (W_r (R_mv t5 (R_fk t2 h2 (R_lk rfl h2 rfl rfl (R_len rfl (R_lss rfl rfl (R_e ?_)))))))
 refine W_seq_if rfl (fun c9=>?_) fun c9=>?_
 ·
  have hb3:=hB.1.2.2.2 k (by omega)
  refine W_seq_skip (W_seq_blockg fun Q10 n10 x10 y10 z10=>(W_seq_seq (W_r (R_fk t2 h2 (R_lk rfl h2 rfl rfl (R_mv t5 (R_idx (i:=k) (@rfl V (V.sl (List.map cSr (a.st)))) (@rfl V (iV ((k:Nat):Int))) (by omega) rfl ?_)))))))
  refine R_load_pp rfl rfl (R_len rfl (R_fk t3 h3 (R_lk rfl h3 rfl rfl (R_mv t5 (R_idx (i:=k) (@rfl V (V.sl (List.map cSr (b.st)))) (@rfl V (iV ((k:Nat):Int))) (by omega) rfl (R_load_pp rfl rfl (R_len rfl ?_)))))))
  refine R_neq rfl rfl (R_e ?_)
  refine W_seq_if rfl (fun c11=>?_) fun c11=>?_
  ·
   have d4:=c11
   refine W_seq_seq (W_r (R_mv rfl (R_e (W_seq_ret (y10 _ _ (p28 _ _ (y7 _ _ ?_)))))))
   refine Ret_1 (@rfl V (V.bool false)) (fz_bool ?_)
   · exact (decide_eq_false (fun e=>d4 (by subst e; rfl))).symm
  refine W_seq_skip (W_r (R_mv rfl (R_e (W_block fun Q12 n12 x12 y12 z12=>?_))))
  refine W_loop (fun mm T H=> ∃ (j:Nat),mm=(nth a.st k).length - j∧T 2=(V.mp 2 1 0 0)∧T 3=(V.mp 3 1 0 0)∧T 5=(iV ((k:Nat):Int))∧T 6=(iV ((j:Nat):Int))∧H 2=(bk 1 29 6 [[(iV (a.i)),(iV (a.tm)),(iV (a.s)),(intss a.nx),(intss a.ot),(V.sl (List.map cSr (a.st)))]])∧H 3=(bk 1 29 6 [[(iV (b.i)),(iV (b.tm)),(iV (b.s)),(intss b.nx),(intss b.ot),(V.sl (List.map cSr (b.st)))]])∧(j≤(nth a.st k).length)∧((nth a.st k).length=(nth b.st k).length)∧(∀ i,i < j→nth (nth a.st k) i=nth (nth b.st k) i)) ?_ ?_
  ·
   refine ⟨_,0,rfl,t2,t3,t5,(Eq.trans (@rfl V (iV (0:Int))) rfl),h2,h3,?_,?_,?_⟩
   · exact Nat.zero_le _
   · omega
   · intro i hi; omega
  intro mm T H ⟨j,hmm,t2,t3,t5,t6,h2,h3,hj,hl2,hc2⟩ Q13 p113 p213 p313
  unfold b13_1
  refine W_seq_seq (W_r (R_mv t6 (R_fk t2 h2 (R_lk rfl h2 rfl rfl (R_mv t5 (R_idx (i:=k) (@rfl V (V.sl (List.map cSr (a.st)))) (@rfl V (iV ((k:Nat):Int))) (by omega) rfl (R_load_pp rfl rfl ?_)))))))
  refine R_len rfl (R_lss rfl rfl (R_e ?_))
  refine W_seq_if rfl (fun c14=>?_) fun c14=>?_
  ·
   refine W_seq_skip (W_seq_blockg fun Q15 n15 x15 y15 z15=>(W_r (R_fk t2 h2 (R_lk rfl h2 rfl rfl (R_mv t5 (R_idx (i:=k) (@rfl V (V.sl (List.map cSr (a.st)))) (@rfl V (iV ((k:Nat):Int))) (by omega) rfl (R_load_pp rfl rfl ?_)))))))
   refine R_mv t6 (R_idx (i:=j) (@rfl V (V.sl (List.map cSg ((nth (a.st) (k)))))) (@rfl V (iV ((j:Nat):Int))) (by omega) rfl (R_load_pp rfl rfl (R_fk t3 h3 (R_lk rfl h3 rfl rfl (R_mv t5 (R_idx (i:=k) (@rfl V (V.sl (List.map cSr (b.st)))) (@rfl V (iV ((k:Nat):Int))) (by omega) rfl (R_load_pp rfl rfl ?_)))))))
   refine R_mv t6 (R_idx (i:=j) (@rfl V (V.sl (List.map cSg ((nth (b.st) (k)))))) (@rfl V (iV ((j:Nat):Int))) (by omega) rfl (R_load_pp rfl rfl (R_ane2 rfl rfl (R_e ?_))))
   refine W_if rfl (fun c16=>?_) fun c16=>?_
   ·
    have d6:=c16
    refine W_r (R_mv rfl (R_e (W_ret (y15 _ _ (p213 _ _ (y12 _ _ (y10 _ _ ?_)))))))
    refine p28 _ _ (y7 _ _ ?_)
    refine Ret_1 (@rfl V (V.bool false)) (fz_bool ?_)
    · exact (decide_eq_false (fun e=>by subst e; simp at d6)).symm
   have d6:=sg_eq c16
   refine W_skip (n15 _ _ (.done (W_t (R_mv t6 (R_addN rfl (@rfl V (iV ((1:Nat):Int))) (by omega) (R_mv rfl (R_e ?_)))))))
   refine p113 _ _ _ ?_ ⟨(j+1),rfl,t2,t3,t5,(Eq.trans (@rfl V (iV ((j+1:Nat):Int))) (by first|rfl|simp)),h2,h3,?_,?_,?_⟩
   · omega
   · omega
   · exact hl2
   · intro i hi
     by_cases e:i=j
     · subst e; exact d6
     · exact hc2 i (by omega)
  have d5:nth a.st k=nth b.st k:=nth_ext hl2 fun i hi=>hc2 i (by omega)
  refine W_seq_exit (p313 _ _ _ (x12 _ _ (n10 _ _ (.done (W_t (R_mv t5 (R_addN rfl (@rfl V (iV ((1:Nat):Int))) (by omega) ?_)))))))
  refine R_mv rfl (R_e ?_)
  refine p18 _ _ _ ?_ ⟨(k+1),rfl,t2,t3,(Eq.trans (@rfl V (iV ((k+1:Nat):Int))) (by first|rfl|simp)),h2,h3,?_,?_,?_⟩
  · omega
  · omega
  · omega
  · intro j hj
    by_cases e:j=k
    · subst e; exact d5
    · exact hc j (by omega)
 refine W_seq_exit (p38 _ _ _ (x7 _ _ (.done (W_r (R_mv rfl (R_e (W_ret ?_)))))))
 refine Ret_1 (@rfl V (V.bool true)) (fz_bool ?_)
 · have es:a.st=b.st:=nth_ext hl fun j hj=>hc j (by omega)
   refine (decide_eq_true (TM.eq_iff.2 ?_)).symm
   simp only [not_or,ne_eq,Decidable.not_not] at d0
   exact ⟨d0.1.1.1.1.1,d0.1.1.1.1.2,d0.1.1.1.2,d0.1.1.2,d0.1.2,es⟩
theorem law3_pure (m:M) (inp tm:Int):PureC Tryz.prog 3 [(V.agg [(iV (m.i)),(iV (m.s)),(intss m.nx),(intss m.ot)]),(iV (inp)),(iV (tm))] (V.bool true):=by
 refine pW Tryz.func3 s3_ok fun hB=>?_
 unfold s3
 dsimp only
 refine W_r (R_box (i:=3) (n:=0) (m:=4) (cs:=[(iV (m.i)),(iV (m.s)),(intss m.nx),(intss m.ot)]) rfl (congrArg Blk.ver rfl) rfl rfl rfl (R_mv rfl (R_e (W_seq_seq (W_r (R_lk rfl rfl rfl rfl (R_callk (great42_pure m) rfl ?_)))))))
 refine R_e ?_
 refine W_seq_ifb rfl (fun c1=>?_) (fun c1=>?_)
 ·
  refine W_seq_seq (W_r (R_callk (aw_learnerlaw42_awake_pure) rfl (R_mv rfl (R_e (W_seq_ret ?_)))))
  refine Ret_1 (@rfl V (V.bool true)) (fz_canon (by simp) rfl)
 refine W_seq_skip (W_r (R_lk rfl rfl rfl rfl (R_mv rfl (R_mv rfl (R_callk (prebuild_pure m ((inp)) ((tm))) rfl (R_mv rfl (R_ext rfl rfl ?_)))))))
 refine R_ext rfl rfl (R_alloc (i:=7) (n:=0) (m:=6) rfl (congrArg Blk.ver rfl) rfl (R_sk rfl rfl rfl rfl rfl rfl rfl rfl rfl (R_mv rfl (R_e (W_r (R_lk rfl rfl rfl rfl (R_mv rfl ?_)))))))
 refine R_mv rfl (R_callk (rrebuild_pure m ((inp)) ((tm))) rfl (R_mv rfl (R_ext rfl rfl (R_ext rfl rfl (R_alloc (i:=9) (n:=0) (m:=6) rfl (congrArg Blk.ver rfl) rfl (R_sk rfl rfl rfl rfl rfl rfl rfl rfl rfl (R_mv rfl ?_)))))))
 refine R_e (W_r (R_lk rfl rfl rfl rfl (R_lk rfl rfl rfl rfl (R_callk (tmsame_pure ((rbT m ((inp)) ((tm)))) ((rbT m ((inp)) ((tm))))) rfl (R_mv rfl ?_)))))
 refine Ops_seg 4 (fun T H=>T 35=(V.bool (decide ((((rbT m ((inp)) ((tm))))=((rbT m ((inp)) ((tm)))))∧((rbE m ((inp)) ((tm)))=(rbE m ((inp)) ((tm)))))))∧H 3=(bk 1 24 4 [[(iV (m.i)),(iV (m.s)),(intss m.nx),(intss m.ot)]])∧H 7=(bk 1 29 6 [[(iV ((rbT m ((inp)) ((tm))).i)),(iV ((rbT m ((inp)) ((tm))).tm)),(iV ((rbT m ((inp)) ((tm))).s)),(intss ((rbT m ((inp)) ((tm))).nx)),(intss ((rbT m ((inp)) ((tm))).ot)),(V.sl (List.map cSr ((rbT m ((inp)) ((tm))).st)))]])∧H 9=(bk 1 29 6 [[(iV ((rbT m ((inp)) ((tm))).i)),(iV ((rbT m ((inp)) ((tm))).tm)),(iV ((rbT m ((inp)) ((tm))).s)),(intss ((rbT m ((inp)) ((tm))).nx)),(intss ((rbT m ((inp)) ((tm))).ot)),(V.sl (List.map cSr ((rbT m ((inp)) ((tm))).st)))]])∧True) ?_ ?_
 ·
  by_cases g2:((rbT m ((inp)) ((tm))))=((rbT m ((inp)) ((tm))))
  ·
   refine G_yes (edT g2 rfl) (R_mv rfl (G_yes (edT g2 rfl) (R_mv rfl (G_yes (edT g2 rfl) (R_eql rfl rfl (R_pickT (edT g2 rfl) rfl ?_))))))
   exact ⟨(dec_andT g2),rfl,rfl,rfl,trivial⟩
  ·
   refine G_n (edF g2 rfl) (G_n (edF g2 rfl) (G_n (edF g2 rfl) (R_pickF (edF g2 rfl) rfl ?_)))
   exact ⟨(dec_andF g2),rfl,rfl,rfl,trivial⟩
 intro T H ⟨t35,h3,h7,h9,_⟩
 refine R_mv t35 ?_
 refine Ops_seg 2 (fun T H=>T 38=(V.bool (decide ((((rbT m ((inp)) ((tm))))=((rbT m ((inp)) ((tm)))))∧((rbE m ((inp)) ((tm)))=(rbE m ((inp)) ((tm)))))))∧H 3=(bk 1 24 4 [[(iV (m.i)),(iV (m.s)),(intss m.nx),(intss m.ot)]])∧H 7=(bk 1 29 6 [[(iV ((rbT m ((inp)) ((tm))).i)),(iV ((rbT m ((inp)) ((tm))).tm)),(iV ((rbT m ((inp)) ((tm))).s)),(intss ((rbT m ((inp)) ((tm))).nx)),(intss ((rbT m ((inp)) ((tm))).ot)),(V.sl (List.map cSr ((rbT m ((inp)) ((tm))).st)))]])∧H 9=(bk 1 29 6 [[(iV ((rbT m ((inp)) ((tm))).i)),(iV ((rbT m ((inp)) ((tm))).tm)),(iV ((rbT m ((inp)) ((tm))).s)),(intss ((rbT m ((inp)) ((tm))).nx)),(intss ((rbT m ((inp)) ((tm))).ot)),(V.sl (List.map cSr ((rbT m ((inp)) ((tm))).st)))]])∧True) ?_ ?_
 ·
  by_cases g3:(((rbT m ((inp)) ((tm))))=((rbT m ((inp)) ((tm)))))∧((rbE m ((inp)) ((tm)))=(rbE m ((inp)) ((tm))))
  ·
   refine G_yes (edT g3 rfl) (R_callk (aw_learnerlaw42_awake_pure) rfl (R_pickT (edT g3 rfl) rfl ?_))
   exact ⟨(dec_T g3),h3,h7,h9,trivial⟩
  ·
   refine G_n (edF g3 rfl) (R_pickF (edF g3 rfl) rfl ?_)
   exact ⟨(dec_F g3),h3,h7,h9,trivial⟩
 intro T H ⟨t38,h3,h7,h9,_⟩
 refine R_mv t38 (R_e (W_ret ?_))
 refine Ret_1 (@rfl V (V.bool (decide ((((rbT m ((inp)) ((tm))))=((rbT m ((inp)) ((tm)))))∧((rbE m ((inp)) ((tm)))=(rbE m ((inp)) ((tm)))))))) (fz_bool ?_)
 · first|rfl|simp
end Go.Proofs.YtilfohjlglefjaaGreat
namespace Go.Proofs.YtilfohjlglefjaaGreat
open Go Go.Proofs Go.Proofs.YtilfohjlglefjaaGreat Go.ChangeShapes Go.WideShapes Go.ChangeAt Go.RowKit
structure UT (P:Program):Prop where
  u3:P.underlying 3=some (.int .i64)
  u22:P.underlying 22=some (.slice 38)
  u38:P.underlying 38=some (.slice 3)
  u24: ∃ f0 f1 f2 f3:Field,P.underlying 24=some (.struct #[f0,f1,f2,f3])∧f0.type=3∧f1.type=3∧f2.type=22∧f3.type=22
theorem sh3 {P:Program} (U:UT P) (n:Nat) (vs:List V) (h:Shp P (n+1) 3 vs): ∃ a:Int,vs=cI a:=shp_int U.u3 h
theorem sh38 {P:Program} (U:UT P) (n:Nat) (vs:List V) (h:Shp P (n+2) 38 vs): ∃ a:List Int,vs=cL a:=shp_slice (f:=cI) U.u38 (fun vs h=>sh3 U n vs h) h
theorem sh22 {P:Program} (U:UT P) (n:Nat) (vs:List V) (h:Shp P (n+3) 22 vs): ∃ a:List (List Int),vs=(fun l=>[V.sl (List.map cL l)]) a:=shp_slice (f:=cL) U.u22 (fun vs h=>sh38 U n vs h) h
theorem sh24 {P:Program} (U:UT P) (n:Nat) (vs:List V) (h:Shp P (n+4) 24 vs): ∃ a:M,vs=mC a:=by
  obtain ⟨f0,f1,f2,f3,hu,k0,k1,k2,k3⟩:=U.u24
  have h0:=shp_step hu h
  obtain ⟨x0,u0,e0,h1⟩:=shpL_cons (c:=cI) (fun vs h=>sh3 U (n+2) vs (by rw [k0] at h; exact h)) h0
  obtain ⟨x1,u1,e1,h2⟩:=shpL_cons (c:=cI) (fun vs h=>sh3 U (n+2) vs (by rw [k1] at h; exact h)) h1
  obtain ⟨x2,u2,e2,h3⟩:=shpL_cons (c:=(fun l=>[V.sl (List.map cL l)])) (fun vs h=>sh22 U (n+0) vs (by rw [k2] at h; exact h)) h2
  obtain ⟨x3,u3,e3,h4⟩:=shpL_cons (c:=(fun l=>[V.sl (List.map cL l)])) (fun vs h=>sh22 U (n+0) vs (by rw [k3] at h; exact h)) h3
  have e4:=shpL_nil h4
  exact ⟨⟨x0,x1,x2,x3⟩,by rw [e0,e1,e2,e3,e4]; rfl⟩
theorem ut:UT Tryz.prog:=⟨by kernel_rfl,by kernel_rfl,by kernel_rfl,⟨_,_,_,_,Tryz.underlying24,rfl,rfl,rfl,rfl⟩⟩
theorem args3 {P:Program} (U:UT P) {us:List V} (h:ShpA P 5 [24,3,3] us): ∃ (d0:M) (d1:Int) (d2:Int),us=[V.agg (mC d0),V.int .i64 d1,V.int .i64 d2]:=by
  obtain ⟨a0,b0,e0,h0,h⟩:=shpA_cons h
  obtain ⟨d0,g0⟩:=sh24 U 1 a0 h0
  have q0:packV P 24 a0=V.agg (mC d0):=by obtain ⟨_,_,_,_,hu,_⟩:=U.u24; rw [g0]; exact pack_struct hu _
  obtain ⟨a1,b1,e1,h1,h⟩:=shpA_cons h
  obtain ⟨d1,g1⟩:=sh3 U 4 a1 h1
  have q1:packV P 3 a1=V.int .i64 d1:=by rw [g1]; exact pack_other (fun fs h=>by rw [U.u3] at h; cases h) (fun m e h=>by rw [U.u3] at h; cases h)
  obtain ⟨a2,b2,e2,h2,h⟩:=shpA_cons h
  obtain ⟨d2,g2⟩:=sh3 U 4 a2 h2
  have q2:packV P 3 a2=V.int .i64 d2:=by rw [g2]; exact pack_other (fun fs h=>by rw [U.u3] at h; cases h) (fun m e h=>by rw [U.u3] at h; cases h)
  have e3:=shpA_nil h
  exact ⟨d0,d1,d2,by rw [e0,q0,e1,q1,e2,q2,e3]⟩
theorem own3:ownKnob Tryz.prog.godebug=none:=by kernel_rfl
set_option maxRecDepth 100000 in
theorem lifted3 (os:Os) (started:os.Started) (H:Type) (enc:TypeId×Value→H):
    ReturnsInHanded {} Tryz.checked os 3 .any (Rows.timelearnRebuildsSpec.pre6 enc Tryz.prog Tryz.f3 Rows.timelearnRebuildsRow.domain false) (Rows.timelearnRebuildsSpec.post enc Tryz.prog Tryz.f3 false true false false):=by
  refine returnsInHanded_of_change (C:=Tryz.checked) own3 started (by kernel_rfl) Tryz.func3
    (ChangeSpec.witness6 (enc:=enc) (C:=Tryz.checked) false ⟨#[],#[.agg #[.int .i64 0,.int .i64 0,.slice none 0 0,.slice none 0 0],.int .i64 0,.int .i64 0],[]⟩ 8 (by kernel_rfl) (by kernel_rfl) (by kernel_rfl) (by kernel_rfl)) ?_
  intro W base args ds gs before hval0 hW hcnd _
  refine law_post (n:=5) (tb:=4) (by kernel_rfl) (by kernel_rfl) (by kernel_rfl) (fun t ht=>?_) rfl ?_ (fun us hu=>?_) hval0 hW
  · have h:t∈[24,3,3]:=ht
    simp only [List.mem_cons,List.not_mem_nil,or_false] at h
    rcases h with rfl|rfl|rfl
    · exact ⟨by kernel_rfl,by kernel_rfl,of_decide_eq_true (by kernel_rfl)⟩
    · exact ⟨by kernel_rfl,by kernel_rfl,of_decide_eq_true (by kernel_rfl)⟩
    · exact ⟨by kernel_rfl,by kernel_rfl,of_decide_eq_true (by kernel_rfl)⟩
  · obtain ⟨p,q,hA,hV,rfl,hfz,hnd⟩:=hW
    obtain ⟨rfl,rfl⟩:=trodVars_none hV
    change DataW.TrodAll enc Tryz.prog W 0 (fun _=>true) true [24,3,3] args.toList ds p at hA
    obtain ⟨v0,vs0,y0,ds0,pa0,pb0,hv0,rfl,rfl,_,hA⟩:=trodAll_cons hA
    obtain ⟨v1,vs1,y1,ds1,pa1,pb1,hv1,rfl,rfl,_,hA⟩:=trodAll_cons hA
    obtain ⟨v2,vs2,y2,ds2,pa2,pb2,hv2,rfl,rfl,_,hA⟩:=trodAll_cons hA
    obtain ⟨_,rfl,rfl⟩:=trodAll_nil hA
    rfl
  · obtain ⟨d0,d1,d2,rfl⟩:=args3 ut hu
    exact law3_pure d0 d1 d2
theorem proved3:Rows.TimelearnRebuildsSaid:=
  OpenClaim.holds_of_wide 3 Tryz.f3 rfl rfl rfl rfl rfl rfl rfl ⟨rfl,rfl,rfl,rfl,rfl⟩ rfl rfl rfl rfl rfl (by kernel_rfl) Tryz.func3 (by kernel_rfl)
    (of_decide_eq_true (by kernel_rfl)) (by unfold Func.isWrapper; first|(rw [if_pos (by decide+kernel)]; kernel_rfl)|(rw [if_neg (by decide+kernel)]; exact ⟨rfl,rfl⟩))
    (fun os started H enc _=>lifted3 os started H enc)
end Go.Proofs.YtilfohjlglefjaaGreat
