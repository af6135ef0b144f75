/- Contracts of the functions that the law VN reaches, and the law itself, for every input; no condition. -/
import Derived.KernelRfl
import Derived.Test.YteehaobohaecmaaGreatDoorRows
import Derived.LaidSub
import Derived.LaidMore
import Derived.Lib.LaidTab
import Derived.Test.YteehaobohaecmaaGreatDoorTie
import Derived.Test.YteehaobohaecmaaGreatDoorCards
import Derived.OpenShut
import Derived.Stop.Joined
import Derived.SevenTiedAt
import Derived.Test.YteehaobohaecmaaGreatDoorVN3
set_option linter.unusedSimpArgs false
set_option linter.unusedVariables false
namespace Go.Proofs.YteehaobohaecmaaGreatDoor
open Go Go.Proofs
theorem normal_pure_step (f:Fm) (b:Bool) (hf:okF f=true) (hz:f.sz≤4096) (ih: ∀ (g:Fm) (b:Bool),g.sz < f.sz→okF g=true→g.sz≤4096→PureC Tryz.prog 56 [(V.agg [(iV (g.op)),(iV (g.arg)),(V.sl (List.map cF (g.kids)))]),(V.bool b)] (V.agg [(iV ((nrm g b).op)),(iV ((nrm g b).arg)),(V.sl (List.map cF ((nrm g b).kids)))])):PureC Tryz.prog 56 [(V.agg [(iV (f.op)),(iV (f.arg)),(V.sl (List.map cF (f.kids)))]),(V.bool b)] (V.agg [(iV ((nrm f b).op)),(iV ((nrm f b).arg)),(V.sl (List.map cF ((nrm f b).kids)))]):=by
 refine pW Tryz.func56 s56_ok fun hB=>?_
 unfold s56
 dsimp only
 have hp:=okF_parts hf
 have hr:=rgt_ok hp.1
 have hln:=f.sz_len
 refine W_r (R_box (i:=2) (n:=0) (m:=3) (cs:=[(iV (f.op)),(iV (f.arg)),(V.sl (List.map cF (f.kids)))]) rfl (congrArg Blk.ver rfl) rfl rfl rfl (R_alloc (i:=4) (n:=0) (m:=3) rfl (congrArg Blk.ver rfl) rfl (R_e (W_seq_blockg fun Q1 n1 x1 y1 z1=>(W_r (R_fk rfl rfl (R_lk rfl rfl rfl rfl ?_)))))))
 refine R_eql rfl rfl (R_mv rfl (R_e ?_))
 refine W_if rfl (fun c2=>?_) fun c2=>?_
 ·
  refine W_r (R_fk rfl rfl (R_lk rfl rfl rfl rfl (R_idxu (i:=0) (@rfl V (V.sl (List.map cF (f.kids)))) (@rfl V (iV ((0:Nat):Int))) (by omega) (cF_eq _) rfl (R_load_pp rfl rfl (R_mv rfl (R_notb rfl (R_callk (ih (((nth (f.kids) (0)))) ((!b)) (Fm.sz_kid (by omega)) (hp.2 _ (by omega)) (Nat.le_trans (Nat.le_of_lt (Fm.sz_kid (by omega))) hz)) rfl ?_)))))))
  refine R_sk rfl rfl rfl rfl rfl rfl rfl rfl rfl (R_e (W_ret (y1 _ _ ?_)))
  refine RetC_1 (resV_c (u:=(V.agg [(iV ((nrm (((nth (f.kids) (0)))) ((!b))).op)),(iV ((nrm (((nth (f.kids) (0)))) ((!b))).arg)),(V.sl (List.map cF ((nrm (((nth (f.kids) (0)))) ((!b))).kids)))])) rfl (@rfl Blk (bk 1 24 3 [[(iV ((nrm (((nth (f.kids) (0)))) ((!b))).op)),(iV ((nrm (((nth (f.kids) (0)))) ((!b))).arg)),(V.sl (List.map cF ((nrm (((nth (f.kids) (0)))) ((!b))).kids)))]])) (lB oB rfl rfl)) (fz_agg3 (fz_int ?_) (fz_int ?_) (fz_sl ?_ (fun _=>by simp)))
  · rw [nrm_not (f:=f) (b:=b) (by omega) (by omega)]
  · rw [nrm_not (f:=f) (b:=b) (by omega) (by omega)]
  · rw [nrm_not (f:=f) (b:=b) (by omega) (by omega)]
 refine W_r (R_fk rfl rfl (R_lk rfl rfl rfl rfl (R_len rfl (R_eql rfl rfl (R_mv rfl ?_)))))
 refine Ops_seg 2 (fun T H=>T 1=(V.bool b)∧T 2=(V.mp 2 1 0 0)∧T 4=(V.mp 4 1 0 0)∧T 26=(V.bool ((decide (((f.kids.length:Nat):Int)=(0:Int))&&b)))∧H 2=(bk 1 24 3 [[(iV (f.op)),(iV (f.arg)),(V.sl (List.map cF (f.kids)))]])∧H 4=(bk 1 24 3 [[(iV (0:Int)),(iV (0:Int)),V.nilsl]])∧H 5=(⟨0,false,false,0,0,[]⟩:Blk)∧H 7=(⟨0,false,false,0,0,[]⟩:Blk)∧H 553=(⟨0,false,false,0,0,[]⟩:Blk)∧True) ?_ ?_
 ·
  by_cases g3:((f.kids.length:Nat):Int)=(0:Int)
  ·
   refine G_yes (edT g3 rfl) (R_mv rfl (R_pickT (edT g3 rfl) rfl ?_))
   exact ⟨rfl,rfl,rfl,(dbandT g3),rfl,rfl,rfl,rfl,rfl,trivial⟩
  ·
   refine G_n (edF g3 rfl) (R_pickF (edF g3 rfl) rfl ?_)
   exact ⟨rfl,rfl,rfl,(dbandF g3),rfl,rfl,rfl,rfl,rfl,trivial⟩
 intro T H ⟨t1,t2,t4,t26,h2,h4,h5,h7,h553,_⟩
 refine R_mv t26 (R_e ?_)
 refine W_ifb rfl (fun c4=>?_) (fun c4=>?_)
 ·
  have q:=c4
  rw [Bool.and_eq_true,decide_eq_true_eq] at q
  obtain ⟨q1,hb⟩:=q
  refine W_r (R_fk t2 h2 (R_lk rfl h2 rfl rfl (R_fk t2 h2 (R_lk rfl h2 rfl rfl (R_build rfl rfl (R_call (evcons (@rfl V (V.agg [(iV (f.op)),(iV (f.arg)),V.nilsl])) evnil) (not_pure (⟨((f.op)),((f.arg)),([])⟩:Fm)) (mcons (by rfl) rfl) (by simp [-List.map_take,-List.map_drop,-List.map_append,-List.map_reverse]) (Or.inl (by simp [-List.map_take,-List.map_drop,-List.map_append,-List.map_reverse])) (R_sk t4 rfl rfl h4 rfl rfl rfl rfl rfl ?_)))))))
  refine R_e (W_ret (y1 _ _ ?_))
  refine RetC_1 (resV_c (u:=(V.agg [(iV (4:Int)),(iV (0:Int)),(V.sl (List.map cF ([(⟨((f.op)),((f.arg)),([])⟩:Fm)])))])) t4 (@rfl Blk (bk 1 24 3 [[(iV (4:Int)),(iV (0:Int)),(V.sl (List.map cF ([(⟨((f.op)),((f.arg)),([])⟩:Fm)])))]])) (lB oB rfl rfl)) (fz_agg3 (fz_int ?_) (fz_int ?_) (fz_sl ?_ (fun _=>by simp)))
  · rw [hb,nrm_leafT (by omega) (by omega)]; rfl
  · rw [hb,nrm_leafT (by omega) (by omega)]; rfl
  · rw [hb,nrm_leafT (by omega) (by omega)]; rfl
 have d0:=c4
 refine W_r (R_fk t2 h2 (R_lk rfl h2 rfl rfl (R_len rfl (R_eql rfl rfl (R_mv rfl (R_e ?_))))))
 refine W_if rfl (fun c5=>?_) fun c5=>?_
 ·
  have hb:b=false:=by cases hbb:b with
    |false=>rfl
    |true=>rw [hbb,Bool.and_true] at d0; exact absurd c5 (of_decide_eq_false d0)
  refine W_r (R_fk t2 h2 (R_lk rfl h2 rfl rfl (R_fk t2 h2 (R_lk rfl h2 rfl rfl (R_build rfl rfl (R_sk t4 rfl rfl h4 rfl rfl rfl rfl rfl (R_e ?_)))))))
  refine W_ret (y1 _ _ ?_)
  refine RetC_1 (resV_c (u:=(V.agg [(iV (f.op)),(iV (f.arg)),V.nilsl])) t4 (@rfl Blk (bk 1 24 3 [[(iV (f.op)),(iV (f.arg)),V.nilsl]])) (lB oB rfl rfl)) (fz_agg3 (fz_int ?_) (fz_int ?_) (fz_nil ?_))
  · rw [hb,nrm_leafF (by omega) (by omega)]; rfl
  · rw [hb,nrm_leafF (by omega) (by omega)]; rfl
  · rw [hb,nrm_leafF (by omega) (by omega)]; rfl
 refine W_skip (n1 _ _ (.done (W_r (R_fk t2 h2 (R_lk rfl h2 rfl rfl (R_build rfl rfl (R_alloc (i:=5) (n:=0) (m:=3) rfl (congrArg Blk.ver h5) rfl ?_)))))))
 refine R_sk rfl rfl rfl rfl rfl rfl rfl rfl rfl (R_e (W_seq_seq (W_r (R_mv t1 (R_e ?_)))))
 refine W_seq_ifb rfl (fun c6=>?_) (fun c6=>?_)
 ·
  have hb:b=true:=c6
  refine W_r (R_fk t2 h2 (R_lk rfl h2 rfl rfl (R_callk (dual_pure ((f.op))) rfl (R_fk rfl rfl (R_sk rfl rfl rfl rfl rfl rfl rfl rfl rfl (R_e (W_seq_seq ?_)))))))
  refine W_seq_g (fun T H=>T 1=(V.bool b)∧T 4=(V.mp 4 1 0 0)∧T 5=(V.mp 5 1 0 0)∧T 52=(V.sl (List.map cF (f.kids)))∧T 53=(iV ((f.kids.length:Nat):Int))∧T 54=(iV (0:Int))∧H 2=(bk 1 24 3 [[(iV (f.op)),(iV (f.arg)),(V.sl (List.map cF (f.kids)))]])∧H 4=(bk 1 24 3 [[(iV (0:Int)),(iV (0:Int)),V.nilsl]])∧H 5=(bk 1 24 3 [[(iV (dualI ((f.op)))),(iV (0:Int)),V.nilsl]])∧H 7=(⟨0,false,false,0,0,[]⟩:Blk)∧H 553=(⟨0,false,false,0,0,[]⟩:Blk)∧True) ?_ ?_
  ·
   refine R_fk t2 h2 (R_lk rfl h2 rfl rfl (R_len rfl (R_mv rfl ?_)))
   exact R_nil ⟨t1,t4,rfl,rfl,rfl,rfl,h2,h4,rfl,h7,h553,trivial⟩
  intro T H ⟨t1,t4,t5,t52,t53,t54,h2,h4,h5,h7,h553,_⟩
  refine .lazyCell 553 24 3 5 0 2 [(iV (dualI ((f.op)))),(iV (0:Int)),V.nilsl] (by decide) (by rw [h5]; rfl) (by rw [h5]; rfl) rfl (.done ?_)
  refine fork_ (R:=fun T H=>T 1=(V.bool b)∧T 4=(V.mp 4 1 0 0)∧T 5=(V.mp 5 1 0 0)∧T 52=(V.sl (List.map cF (f.kids)))∧T 53=(iV ((f.kids.length:Nat):Int))∧T 54=(iV (0:Int))∧H 2=(bk 1 24 3 [[(iV (f.op)),(iV (f.arg)),(V.sl (List.map cF (f.kids)))]])∧H 4=(bk 1 24 3 [[(iV (0:Int)),(iV (0:Int)),V.nilsl]])∧H 5=(bk 1 24 3 [[(iV (dualI ((f.op)))),(iV (0:Int)),(V.ms 553 1 0 (0))]])∧H 7=(⟨0,false,false,0,0,[]⟩:Blk)∧H 553=(bz 1 24 3 [])∧True) ⟨t1,t4,t5,t52,t53,t54,((upd_ne _ _ (by decide)).trans ((upd_ne _ _ (by decide)).trans h2)),((upd_ne _ _ (by decide)).trans ((upd_ne _ _ (by decide)).trans h4)),(by rw [upd_same,h5,(congrArg Blk.ver h553)]; rfl),((upd_ne _ _ (by decide)).trans ((upd_ne _ _ (by decide)).trans h7)),(by rw [upd_ne _ _ (by decide),upd_same,(congrArg Blk.ver h553)]),trivial⟩ ?_
  intro T H ⟨t1,t4,t5,t52,t53,t54,h2,h4,h5,h7,h553,_⟩
  refine W_seq_blockg fun Q7 n7 x7 y7 z7=>?_
  refine W_loop (fun mm T H=> ∃ (k:Nat) (w:Nat) (v7:Nat),mm=f.kids.length - k∧T 1=(V.bool b)∧T 4=(V.mp 4 1 0 0)∧T 5=(V.mp 5 1 0 0)∧T 52=(V.sl (List.map cF (f.kids)))∧T 53=(iV ((f.kids.length:Nat):Int))∧T 54=(iV ((k:Nat):Int))∧H 2=(bk 1 24 3 [[(iV (f.op)),(iV (f.arg)),(V.sl (List.map cF (f.kids)))]])∧H 4=(bk 1 24 3 [[(iV (0:Int)),(iV (0:Int)),V.nilsl]])∧H 5=(bk 1 24 3 [[(iV (nop f.op b)),(iV (0:Int)),(V.ms 553 w 0 (k))]])∧(H 7).ver=v7∧H 553=(bz w 24 3 (List.map cF ((f.kids.take k).map (fun g=>nrm g b))))∧(k≤f.kids.length)) ?_ ?_
  ·
   refine ⟨_,0,1,0,rfl,t1,t4,t5,t52,t53,(Eq.trans t54 rfl),h2,h4,(Eq.trans h5 (by (exact bk_op (by simp only [nop,dualI,hb,if_true,Bool.false_eq_true,if_false]; repeat (first|rfl|omega|split))))),(congrArg Blk.ver h7),(Eq.trans h553 (by rfl)),?_⟩
   · omega
  intro mm T H ⟨k,w,v7,hmm,t1,t4,t5,t52,t53,t54,h2,h4,h5,h7,h553,hk⟩ Q8 p18 p28 p38
  unfold b56_0
  refine W_r (R_lss t54 t53 (R_e ?_))
  refine W_seq_if rfl (fun c9=>?_) fun c9=>?_
  ·
   refine W_seq_skip (W_seq_blockg fun Q10 n10 x10 y10 z10=>(W_r (R_idxu (i:=k) t52 t54 (by omega) (cF_eq _) rfl (R_load_pp rfl rfl (R_alloc (i:=7) (n:=v7) (m:=3) rfl h7 rfl (R_sk rfl rfl rfl rfl rfl rfl rfl rfl rfl (R_e ?_)))))))
   refine W_t (R_fk t5 h5 (R_lk rfl h5 rfl rfl (R_lk rfl rfl rfl rfl (R_mv t1 (R_callk (ih (((nth (f.kids) (k)))) b (Fm.sz_kid (by omega)) (hp.2 _ (by omega)) (Nat.le_trans (Nat.le_of_lt (Fm.sz_kid (by omega))) hz)) rfl (R_bslice rfl rfl (R_append1 (l:=((f.kids.take k).map (fun g=>nrm g b))) (f:=cF) (x:=((nrm (((nth (f.kids) (k)))) b))) (@rfl V (V.ms 553 w 0 (k))) h553 (by (simp; omega)) (row_F1 (x:=((nrm (((nth (f.kids) (k)))) b))) (@rfl V (V.sl [[(iV ((nrm (((nth (f.kids) (k)))) b).op)),(iV ((nrm (((nth (f.kids) (k)))) b).arg)),(V.sl (List.map cF ((nrm (((nth (f.kids) (k)))) b).kids)))]]))) (cF_len _) (cF_one _) (by omega) (by omega) ?_)))))))
   refine R_fk t5 h5 (R_sk rfl rfl rfl h5 rfl rfl rfl rfl rfl (R_e (n10 _ _ (.done (W_t (R_addN t54 (@rfl V (iV ((1:Nat):Int))) (by omega) (R_mv rfl ?_)))))))
   refine R_e ?_
   refine p18 _ _ _ ?_ ⟨(k+1),(w+1),(v7+1),rfl,t1,t4,t5,t52,t53,(Eq.trans (@rfl V (iV ((k+1:Nat):Int))) (by rfl)),h2,h4,(Eq.trans (@rfl Blk (bk 1 24 3 [[(iV (nop f.op b)),(iV (0:Int)),(V.ms 553 (w+1) 0 (k+1))]])) (by rfl)),(congrArg Blk.ver rfl),(Eq.trans (@rfl Blk (bz (w+1) 24 3 (List.map cF ((f.kids.take k).map (fun g=>nrm g b)++[(nrm (((nth (f.kids) (k)))) b)])))) (by (rw [mapTake (by omega)]; done))),?_⟩
   · omega
   · omega
  refine W_seq_exit (p38 _ _ _ (x7 _ _ (.done (W_r (R_lk t5 h5 rfl rfl (R_sk t4 rfl rfl h4 rfl rfl rfl rfl rfl (R_e ?_)))))))
  refine W_ret ?_
  refine RetC_1 (resV_c (u:=(V.agg [(iV (nop f.op b)),(iV (0:Int)),(V.ms 553 w 0 (k))])) t4 (@rfl Blk (bk 1 24 3 [[(iV (nop f.op b)),(iV (0:Int)),(V.ms 553 w 0 (k))]])) (lB oB rfl rfl)) (fz_agg3 (fz_int ?_) (fz_int ?_) (fz_ms h553 (by simp) (l:=((f.kids.take k).map (fun g=>nrm g b))) rfl (by (simp; omega)) (fun _=>by simp) ?_))
  · rw [nrm_node (by omega) (by omega)]; rfl
  · rw [nrm_node (by omega) (by omega)]; rfl
  · rw [nrm_node (by omega) (by omega)]; first|rfl|(show _=List.map _ f.kids; rw [show k=f.kids.length by omega,List.take_length]; done)
 have hb:b=false:=by simpa using c6
 refine W_seq_skip (W_seq_seq ?_)
 refine W_seq_g (fun T H=>T 1=(V.bool b)∧T 4=(V.mp 4 1 0 0)∧T 5=(V.mp 5 1 0 0)∧T 52=(V.sl (List.map cF (f.kids)))∧T 53=(iV ((f.kids.length:Nat):Int))∧T 54=(iV (0:Int))∧H 2=(bk 1 24 3 [[(iV (f.op)),(iV (f.arg)),(V.sl (List.map cF (f.kids)))]])∧H 4=(bk 1 24 3 [[(iV (0:Int)),(iV (0:Int)),V.nilsl]])∧H 5=(bk 1 24 3 [[(iV (f.op)),(iV (0:Int)),V.nilsl]])∧H 7=(⟨0,false,false,0,0,[]⟩:Blk)∧H 553=(⟨0,false,false,0,0,[]⟩:Blk)∧True) ?_ ?_
 ·
  refine R_fk t2 h2 (R_lk rfl h2 rfl rfl (R_len rfl (R_mv rfl ?_)))
  exact R_nil ⟨t1,t4,rfl,rfl,rfl,rfl,h2,h4,rfl,h7,h553,trivial⟩
 intro T H ⟨t1,t4,t5,t52,t53,t54,h2,h4,h5,h7,h553,_⟩
 refine .lazyCell 553 24 3 5 0 2 [(iV (f.op)),(iV (0:Int)),V.nilsl] (by decide) (by rw [h5]; rfl) (by rw [h5]; rfl) rfl (.done ?_)
 refine fork_ (R:=fun T H=>T 1=(V.bool b)∧T 4=(V.mp 4 1 0 0)∧T 5=(V.mp 5 1 0 0)∧T 52=(V.sl (List.map cF (f.kids)))∧T 53=(iV ((f.kids.length:Nat):Int))∧T 54=(iV (0:Int))∧H 2=(bk 1 24 3 [[(iV (f.op)),(iV (f.arg)),(V.sl (List.map cF (f.kids)))]])∧H 4=(bk 1 24 3 [[(iV (0:Int)),(iV (0:Int)),V.nilsl]])∧H 5=(bk 1 24 3 [[(iV (f.op)),(iV (0:Int)),(V.ms 553 1 0 (0))]])∧H 7=(⟨0,false,false,0,0,[]⟩:Blk)∧H 553=(bz 1 24 3 [])∧True) ⟨t1,t4,t5,t52,t53,t54,((upd_ne _ _ (by decide)).trans ((upd_ne _ _ (by decide)).trans h2)),((upd_ne _ _ (by decide)).trans ((upd_ne _ _ (by decide)).trans h4)),(by rw [upd_same,h5,(congrArg Blk.ver h553)]; rfl),((upd_ne _ _ (by decide)).trans ((upd_ne _ _ (by decide)).trans h7)),(by rw [upd_ne _ _ (by decide),upd_same,(congrArg Blk.ver h553)]),trivial⟩ ?_
 intro T H ⟨t1,t4,t5,t52,t53,t54,h2,h4,h5,h7,h553,_⟩
 refine W_seq_blockg fun Q11 n11 x11 y11 z11=>?_
 refine W_loop (fun mm T H=> ∃ (k:Nat) (w:Nat) (v7:Nat),mm=f.kids.length - k∧T 1=(V.bool b)∧T 4=(V.mp 4 1 0 0)∧T 5=(V.mp 5 1 0 0)∧T 52=(V.sl (List.map cF (f.kids)))∧T 53=(iV ((f.kids.length:Nat):Int))∧T 54=(iV ((k:Nat):Int))∧H 2=(bk 1 24 3 [[(iV (f.op)),(iV (f.arg)),(V.sl (List.map cF (f.kids)))]])∧H 4=(bk 1 24 3 [[(iV (0:Int)),(iV (0:Int)),V.nilsl]])∧H 5=(bk 1 24 3 [[(iV (nop f.op b)),(iV (0:Int)),(V.ms 553 w 0 (k))]])∧(H 7).ver=v7∧H 553=(bz w 24 3 (List.map cF ((f.kids.take k).map (fun g=>nrm g b))))∧(k≤f.kids.length)) ?_ ?_
 ·
  refine ⟨_,0,1,0,rfl,t1,t4,t5,t52,t53,(Eq.trans t54 rfl),h2,h4,(Eq.trans h5 (by (exact bk_op (by simp only [nop,dualI,hb,if_true,Bool.false_eq_true,if_false]; repeat (first|rfl|omega|split))))),(congrArg Blk.ver h7),(Eq.trans h553 (by rfl)),?_⟩
  · omega
 intro mm T H ⟨k,w,v7,hmm,t1,t4,t5,t52,t53,t54,h2,h4,h5,h7,h553,hk⟩ Q12 p112 p212 p312
 unfold b56_0
 refine W_r (R_lss t54 t53 (R_e ?_))
 refine W_seq_if rfl (fun c13=>?_) fun c13=>?_
 ·
  refine W_seq_skip (W_seq_blockg fun Q14 n14 x14 y14 z14=>(W_r (R_idxu (i:=k) t52 t54 (by omega) (cF_eq _) rfl (R_load_pp rfl rfl (R_alloc (i:=7) (n:=v7) (m:=3) rfl h7 rfl (R_sk rfl rfl rfl rfl rfl rfl rfl rfl rfl (R_e ?_)))))))
  refine W_t (R_fk t5 h5 (R_lk rfl h5 rfl rfl (R_lk rfl rfl rfl rfl (R_mv t1 (R_callk (ih (((nth (f.kids) (k)))) b (Fm.sz_kid (by omega)) (hp.2 _ (by omega)) (Nat.le_trans (Nat.le_of_lt (Fm.sz_kid (by omega))) hz)) rfl (R_bslice rfl rfl (R_append1 (l:=((f.kids.take k).map (fun g=>nrm g b))) (f:=cF) (x:=((nrm (((nth (f.kids) (k)))) b))) (@rfl V (V.ms 553 w 0 (k))) h553 (by (simp; omega)) (row_F1 (x:=((nrm (((nth (f.kids) (k)))) b))) (@rfl V (V.sl [[(iV ((nrm (((nth (f.kids) (k)))) b).op)),(iV ((nrm (((nth (f.kids) (k)))) b).arg)),(V.sl (List.map cF ((nrm (((nth (f.kids) (k)))) b).kids)))]]))) (cF_len _) (cF_one _) (by omega) (by omega) ?_)))))))
  refine R_fk t5 h5 (R_sk rfl rfl rfl h5 rfl rfl rfl rfl rfl (R_e (n14 _ _ (.done (W_t (R_addN t54 (@rfl V (iV ((1:Nat):Int))) (by omega) (R_mv rfl ?_)))))))
  refine R_e ?_
  refine p112 _ _ _ ?_ ⟨(k+1),(w+1),(v7+1),rfl,t1,t4,t5,t52,t53,(Eq.trans (@rfl V (iV ((k+1:Nat):Int))) (by rfl)),h2,h4,(Eq.trans (@rfl Blk (bk 1 24 3 [[(iV (nop f.op b)),(iV (0:Int)),(V.ms 553 (w+1) 0 (k+1))]])) (by rfl)),(congrArg Blk.ver rfl),(Eq.trans (@rfl Blk (bz (w+1) 24 3 (List.map cF ((f.kids.take k).map (fun g=>nrm g b)++[(nrm (((nth (f.kids) (k)))) b)])))) (by (rw [mapTake (by omega)]; done))),?_⟩
  · omega
  · omega
 refine W_seq_exit (p312 _ _ _ (x11 _ _ (.done (W_r (R_lk t5 h5 rfl rfl (R_sk t4 rfl rfl h4 rfl rfl rfl rfl rfl (R_e ?_)))))))
 refine W_ret ?_
 refine RetC_1 (resV_c (u:=(V.agg [(iV (nop f.op b)),(iV (0:Int)),(V.ms 553 w 0 (k))])) t4 (@rfl Blk (bk 1 24 3 [[(iV (nop f.op b)),(iV (0:Int)),(V.ms 553 w 0 (k))]])) (lB oB rfl rfl)) (fz_agg3 (fz_int ?_) (fz_int ?_) (fz_ms h553 (by simp) (l:=((f.kids.take k).map (fun g=>nrm g b))) rfl (by (simp; omega)) (fun _=>by simp) ?_))
 · rw [nrm_node (by omega) (by omega)]; rfl
 · rw [nrm_node (by omega) (by omega)]; rfl
 · rw [nrm_node (by omega) (by omega)]; first|rfl|(show _=List.map _ f.kids; rw [show k=f.kids.length by omega,List.take_length]; done)
theorem normal_pure (f:Fm) (b:Bool) (hf:okF f=true) (hz:f.sz≤4096):PureC Tryz.prog 56 [(V.agg [(iV (f.op)),(iV (f.arg)),(V.sl (List.map cF (f.kids)))]),(V.bool b)] (V.agg [(iV ((nrm f b).op)),(iV ((nrm f b).arg)),(V.sl (List.map cF ((nrm f b).kids)))]):=by
  have key: ∀ (mm:Nat) (f:Fm) (b:Bool),f.sz < mm→okF f=true→f.sz≤4096→PureC Tryz.prog 56 [(V.agg [(iV (f.op)),(iV (f.arg)),(V.sl (List.map cF (f.kids)))]),(V.bool b)] (V.agg [(iV ((nrm f b).op)),(iV ((nrm f b).arg)),(V.sl (List.map cF ((nrm f b).kids)))]):=by
    intro mm
    induction mm with
    |zero=>intro f b hlt; exact absurd hlt (Nat.not_lt_zero _)
    | succ mm ih =>
      intro f b hlt hf hz
      exact normal_pure_step f b hf hz fun f2 b2 hlt2=>ih f2 b2 (by omega)
  exact key (f.sz+1) f b (Nat.lt_succ_self _) hf hz
theorem negate_pure (f:Fm):PureC Tryz.prog 29 [(V.agg [(iV (f.op)),(iV (f.arg)),(V.sl (List.map cF (f.kids)))])] (V.tup [(V.agg [(iV ((ngF f).op)),(iV ((ngF f).arg)),(V.sl (List.map cF ((ngF f).kids)))]),(iV (ngE f))]):=by
 refine pW Tryz.func29 s29_ok fun hB=>?_
 unfold s29
 dsimp only
 refine W_r (R_box (i:=1) (n:=0) (m:=3) (cs:=[(iV (f.op)),(iV (f.arg)),(V.sl (List.map cF (f.kids)))]) rfl (congrArg Blk.ver rfl) rfl rfl rfl (R_alloc (i:=2) (n:=0) (m:=3) rfl (congrArg Blk.ver rfl) rfl (R_mv rfl (R_e (W_seq_seq (W_r (R_lk rfl rfl rfl rfl ?_)))))))
 refine R_callk (fvalid_pure f) rfl (R_mv rfl (R_e (W_seq_seq (W_r (R_mv rfl (R_neq rfl rfl (R_e ?_)))))))
 refine W_seq_if rfl (fun c1=>?_) fun c1=>?_
 ·
  have h1:=c1
  have h2:ngE f=fval f:=if_pos h1
  have h3:ngF f=zF:=if_pos (by rw [h2]; exact h1)
  refine W_seq_seq (W_r (R_build rfl rfl (R_mv rfl (R_sk rfl rfl rfl rfl rfl rfl rfl rfl rfl (R_mv rfl (R_e (W_seq_ret ?_)))))))
  refine RetC_2 (resV_c (u:=(V.agg [(iV (0:Int)),(iV (0:Int)),V.nilsl])) rfl (@rfl Blk (bk 1 24 3 [[(iV (0:Int)),(iV (0:Int)),V.nilsl]])) (lB oB rfl rfl)) (resV_t (@rfl V (iV (fval f)))) (fz_agg3 (fz_int ?_) (fz_int ?_) (fz_nil ?_)) (fz_int ?_)
  · rw [h3]; rfl
  · rw [h3]; rfl
  · rw [h3]; rfl
  · exact h2.symm
 have h1:fval f=0:=by omega
 refine W_seq_skip (W_r (R_lk rfl rfl rfl rfl (R_callk (normal_pure f true (fval_ok h1) (fval_sz h1)) rfl (R_alloc (i:=5) (n:=0) (m:=3) rfl (congrArg Blk.ver rfl) rfl (R_sk rfl rfl rfl rfl rfl rfl rfl rfl rfl (R_e (W_seq_seq ?_)))))))
 refine W_r (R_lk rfl rfl rfl rfl (R_callk (fvalid_pure ((nrm f true))) rfl (R_mv rfl (R_e (W_seq_seq (W_r (R_mv rfl ?_)))))))
 refine R_neq rfl rfl (R_e ?_)
 refine W_seq_if rfl (fun c2=>?_) fun c2=>?_
 ·
  have h2:ngE f=fval (nrm f true):=if_neg (by omega)
  have h3:ngF f=zF:=if_pos (by rw [h2]; exact c2)
  refine W_seq_seq (W_r (R_build rfl rfl (R_mv rfl (R_sk rfl rfl rfl rfl rfl rfl rfl rfl rfl (R_mv rfl (R_e (W_seq_ret ?_)))))))
  refine RetC_2 (resV_c (u:=(V.agg [(iV (0:Int)),(iV (0:Int)),V.nilsl])) rfl (@rfl Blk (bk 1 24 3 [[(iV (0:Int)),(iV (0:Int)),V.nilsl]])) (lB oB rfl rfl)) (resV_t (@rfl V (iV (fval ((nrm f true)))))) (fz_agg3 (fz_int ?_) (fz_int ?_) (fz_nil ?_)) (fz_int ?_)
  · rw [h3]; rfl
  · rw [h3]; rfl
  · rw [h3]; rfl
  · exact h2.symm
 have h2:ngE f=fval (nrm f true):=if_neg (by omega)
 have h3:ngF f=nrm f true:=if_neg (by omega)
 refine W_seq_skip (W_r (R_lk rfl rfl rfl rfl (R_sk rfl rfl rfl rfl rfl rfl rfl rfl rfl (R_mv rfl (R_e (W_ret ?_))))))
 refine RetC_2 (resV_c (u:=(V.agg [(iV ((nrm f true).op)),(iV ((nrm f true).arg)),(V.sl (List.map cF ((nrm f true).kids)))])) rfl (@rfl Blk (bk 1 24 3 [[(iV ((nrm f true).op)),(iV ((nrm f true).arg)),(V.sl (List.map cF ((nrm f true).kids)))]])) (lB oB rfl rfl)) (resV_t (@rfl V (iV (0:Int)))) (fz_agg3 (fz_int ?_) (fz_int ?_) (fz_sl ?_ (fun _=>by simp))) (fz_int ?_)
 · rw [h3]
 · rw [h3]
 · rw [h3]
 · omega
theorem law7_pure (m:M) (f:Fm):PureC Tryz.prog 7 [(V.agg [(iV (m.i)),(iV (m.s)),(intss m.nx),(intss m.ot)]),(V.agg [(iV (f.op)),(iV (f.arg)),(V.sl (List.map cF (f.kids)))])] (V.bool true):=by
 refine pW Tryz.func7 s7_ok fun hB=>?_
 unfold s7
 dsimp only
 refine W_r (R_box (i:=2) (n:=0) (m:=4) (cs:=[(iV (m.i)),(iV (m.s)),(intss m.nx),(intss m.ot)]) rfl (congrArg Blk.ver rfl) rfl rfl rfl (R_box (i:=3) (n:=0) (m:=3) (cs:=[(iV (f.op)),(iV (f.arg)),(V.sl (List.map cF (f.kids)))]) rfl (congrArg Blk.ver rfl) rfl rfl rfl (R_mv rfl (R_e (W_seq_seq (W_r (R_lk rfl rfl rfl rfl ?_)))))))
 refine R_lk rfl rfl rfl rfl (R_callk (small47_pure m f) rfl (R_notb rfl (R_mv rfl ?_)))
 refine Ops_seg 4 (fun T H=>T 2=(V.mp 2 1 0 0)∧T 3=(V.mp 3 1 0 0)∧T 21=(V.bool ((((!smlB m f))||decide ((fval f)≠(0:Int)))))∧H 2=(bk 1 50 4 [[(iV (m.i)),(iV (m.s)),(intss m.nx),(intss m.ot)]])∧H 3=(bk 1 24 3 [[(iV (f.op)),(iV (f.arg)),(V.sl (List.map cF (f.kids)))]])∧H 5=(⟨0,false,false,0,0,[]⟩:Blk)∧H 7=(⟨0,false,false,0,0,[]⟩:Blk)∧H 10=(⟨0,false,false,0,0,[]⟩:Blk)∧True) ?_ ?_
 ·
  by_cases g1:((!smlB m f))=true
  ·
   refine G_n (ebT g1 rfl) (G_n (ebT g1 rfl) (G_n (ebT g1 rfl) (R_pickT (ebT g1 rfl) rfl ?_)))
   exact ⟨rfl,rfl,(borT g1),rfl,rfl,rfl,rfl,rfl,trivial⟩
  ·
   refine G_yes (ebF g1 rfl) (R_lk rfl rfl rfl rfl (G_yes (ebF g1 rfl) (R_callk (rfvalid_pure f) rfl (G_yes (ebF g1 rfl) (R_neq rfl rfl (R_pickF (ebF g1 rfl) rfl ?_))))))
   exact ⟨rfl,rfl,(borF g1),rfl,rfl,rfl,rfl,rfl,trivial⟩
 intro T H ⟨t2,t3,t21,h2,h3,h5,h7,h10,_⟩
 refine R_e ?_
 refine W_seq_ifb t21 (fun c2=>?_) (fun c2=>?_)
 ·
  refine W_seq_seq (W_r (R_callk (aw47_pure) rfl (R_mv rfl (R_e (W_seq_ret ?_)))))
  refine Ret_1 (@rfl V (V.bool true)) (fz_canon (by simp) rfl)
 have q:=c2
 simp only [Bool.or_eq_false_iff,Bool.not_eq_false',decide_eq_false_iff_not] at q
 have hv:fval f=0:=Decidable.of_not_not q.2
 have hz:=sml_sz q.1
 refine W_seq_skip (W_r (R_lk t3 h3 rfl rfl (R_callk (negate_pure f) rfl (R_mv rfl (R_ext rfl rfl (R_ext rfl rfl (R_alloc (i:=5) (n:=0) (m:=3) rfl (congrArg Blk.ver h5) rfl ?_)))))))
 refine R_sk rfl rfl rfl rfl rfl rfl rfl rfl rfl (R_mv rfl (R_e (W_seq_seq (W_r (R_mv rfl (R_neq rfl rfl (R_e ?_)))))))
 refine W_seq_if rfl (fun c3=>?_) fun c3=>?_
 ·
  refine W_seq_seq (W_r (R_callk (aw47_pure) rfl (R_mv rfl (R_e (W_seq_ret ?_)))))
  refine Ret_1 (@rfl V (V.bool true)) (fz_canon (by simp) rfl)
 have he:ngE f=0:=by omega
 refine W_seq_skip (W_r (R_lk t2 h2 rfl rfl (R_lk t3 h3 rfl rfl (R_callk (vcheck_pure m f) rfl (R_mv rfl (R_ext rfl rfl (R_ext rfl rfl ?_)))))))
 refine R_ext rfl rfl (R_alloc (i:=7) (n:=0) (m:=2) rfl (congrArg Blk.ver h7) rfl (R_sk rfl rfl rfl rfl rfl rfl rfl rfl rfl (R_mv rfl (R_mv rfl (R_e ?_)))))
 refine W_seq_regc (fun T H=>T 7=(V.mp 7 1 0 0)∧T 8=(V.bool ((vck m f).2.1))∧T 9=(iV ((vck m f).2.2))∧T 10=(V.mp 10 1 0 0)∧T 11=(V.bool ((vck m ((ngF f))).2.1))∧T 12=(iV ((vck m ((ngF f))).2.2))∧H 2=(bk 1 50 4 [[(iV (m.i)),(iV (m.s)),(intss m.nx),(intss m.ot)]])∧H 3=(bk 1 24 3 [[(iV (f.op)),(iV (f.arg)),(V.sl (List.map cF (f.kids)))]])∧H 5=(bk 1 24 3 [[(iV ((ngF f).op)),(iV ((ngF f).arg)),(V.sl (List.map cF ((ngF f).kids)))]])∧H 7=(bk 1 54 2 [[(ints ((vck m f).1.ni)),(ints ((vck m f).1.no))]])∧H 10=(bk 1 54 2 [[(ints ((vck m ((ngF f))).1.ni)),(ints ((vck m ((ngF f))).1.no))]])∧True) ?_ ?_
 ·
  refine R_lk t2 h2 rfl rfl (R_lk rfl rfl rfl rfl (R_callk (vcheck_pure m ((ngF f))) rfl (R_mv rfl (R_ext rfl rfl (R_ext rfl rfl (R_ext rfl rfl (R_alloc (i:=10) (n:=0) (m:=2) rfl (congrArg Blk.ver h10) rfl ?_)))))))
  refine R_sk rfl rfl rfl rfl rfl rfl rfl rfl rfl (R_mv rfl (R_mv rfl ?_))
  exact R_nil ⟨rfl,rfl,rfl,rfl,rfl,rfl,h2,h3,rfl,rfl,rfl,trivial⟩
 intro T H ⟨t7,t8,t9,t10,t11,t12,h2,h3,h5,h7,h10,_⟩
 refine W_seq_seq (W_r (R_mv t9 (R_neq rfl rfl (R_mv rfl ?_))))
 refine Ops_seg 3 (fun T H=>T 7=(V.mp 7 1 0 0)∧T 8=(V.bool ((vck m f).2.1))∧T 10=(V.mp 10 1 0 0)∧T 11=(V.bool ((vck m ((ngF f))).2.1))∧T 50=(V.bool (decide ((((vck m f).2.2)≠(0:Int))∨(((vck m ((ngF f))).2.2)≠(0:Int)))))∧H 2=(bk 1 50 4 [[(iV (m.i)),(iV (m.s)),(intss m.nx),(intss m.ot)]])∧H 3=(bk 1 24 3 [[(iV (f.op)),(iV (f.arg)),(V.sl (List.map cF (f.kids)))]])∧H 5=(bk 1 24 3 [[(iV ((ngF f).op)),(iV ((ngF f).arg)),(V.sl (List.map cF ((ngF f).kids)))]])∧H 7=(bk 1 54 2 [[(ints ((vck m f).1.ni)),(ints ((vck m f).1.no))]])∧H 10=(bk 1 54 2 [[(ints ((vck m ((ngF f))).1.ni)),(ints ((vck m ((ngF f))).1.no))]])∧True) ?_ ?_
 ·
  by_cases g4:((vck m f).2.2)≠(0:Int)
  ·
   refine G_n (edT g4 rfl) (G_n (edT g4 rfl) (R_pickT (edT g4 rfl) rfl ?_))
   exact ⟨t7,t8,t10,t11,(dec_orT g4),h2,h3,h5,h7,h10,trivial⟩
  ·
   refine G_yes (edF g4 rfl) (R_mv t12 (G_yes (edF g4 rfl) (R_neq rfl rfl (R_pickF (edF g4 rfl) rfl ?_))))
   exact ⟨t7,t8,t10,t11,(dec_orF g4),h2,h3,h5,h7,h10,trivial⟩
 intro T H ⟨t7,t8,t10,t11,t50,h2,h3,h5,h7,h10,_⟩
 refine R_e ?_
 refine W_seq_if t50 (fun c5=>?_) fun c5=>?_
 ·
  refine W_seq_seq (W_r (R_callk (aw47_pure) rfl (R_mv rfl (R_e (W_seq_ret ?_)))))
  refine Ret_1 (@rfl V (V.bool true)) (fz_canon (by simp) rfl)
 have q:=not_or.1 c5
 have hx:=neg_law hv (by omega) he (Decidable.of_not_not q.1) (Decidable.of_not_not q.2)
 refine W_seq_skip (W_r (R_mv t8 (R_mv rfl ?_)))
 refine Ops_seg 5 (fun T H=>T 10=(V.mp 10 1 0 0)∧T 11=(V.bool ((vck m ((ngF f))).2.1))∧T 58=(V.bool ((((vck m f).2.1)&&decide (((((vck m f).1.ni).length:Nat):Int)=(0:Int)))))∧H 2=(bk 1 50 4 [[(iV (m.i)),(iV (m.s)),(intss m.nx),(intss m.ot)]])∧H 3=(bk 1 24 3 [[(iV (f.op)),(iV (f.arg)),(V.sl (List.map cF (f.kids)))]])∧H 5=(bk 1 24 3 [[(iV ((ngF f).op)),(iV ((ngF f).arg)),(V.sl (List.map cF ((ngF f).kids)))]])∧H 7=(bk 1 54 2 [[(ints ((vck m f).1.ni)),(ints ((vck m f).1.no))]])∧H 10=(bk 1 54 2 [[(ints ((vck m ((ngF f))).1.ni)),(ints ((vck m ((ngF f))).1.no))]])∧True) ?_ ?_
 ·
  by_cases g6:((vck m f).2.1)=true
  ·
   refine G_yes (ebT g6 rfl) (R_fk t7 h7 (G_yes (ebT g6 rfl) (R_lk rfl h7 rfl rfl (G_yes (ebT g6 rfl) (R_len rfl (G_yes (ebT g6 rfl) (R_eql rfl rfl ?_)))))))
   refine R_pickT (ebT g6 rfl) rfl ?_
   exact ⟨t10,t11,(bandT g6),h2,h3,h5,h7,h10,trivial⟩
  ·
   refine G_n (ebF g6 rfl) (G_n (ebF g6 rfl) (G_n (ebF g6 rfl) (G_n (ebF g6 rfl) (R_pickF (ebF g6 rfl) rfl ?_))))
   exact ⟨t10,t11,(bandF g6),h2,h3,h5,h7,h10,trivial⟩
 intro T H ⟨t10,t11,t58,h2,h3,h5,h7,h10,_⟩
 refine R_mv t11 (R_mv rfl ?_)
 refine Ops_seg 5 (fun T H=>T 58=(V.bool ((((vck m f).2.1)&&decide (((((vck m f).1.ni).length:Nat):Int)=(0:Int)))))∧T 65=(V.bool ((((vck m ((ngF f))).2.1)&&decide (((((vck m ((ngF f))).1.ni).length:Nat):Int)=(0:Int)))))∧H 2=(bk 1 50 4 [[(iV (m.i)),(iV (m.s)),(intss m.nx),(intss m.ot)]])∧H 3=(bk 1 24 3 [[(iV (f.op)),(iV (f.arg)),(V.sl (List.map cF (f.kids)))]])∧H 5=(bk 1 24 3 [[(iV ((ngF f).op)),(iV ((ngF f).arg)),(V.sl (List.map cF ((ngF f).kids)))]])∧H 7=(bk 1 54 2 [[(ints ((vck m f).1.ni)),(ints ((vck m f).1.no))]])∧H 10=(bk 1 54 2 [[(ints ((vck m ((ngF f))).1.ni)),(ints ((vck m ((ngF f))).1.no))]])∧True) ?_ ?_
 ·
  by_cases g7:((vck m ((ngF f))).2.1)=true
  ·
   refine G_yes (ebT g7 rfl) (R_fk t10 h10 (G_yes (ebT g7 rfl) (R_lk rfl h10 rfl rfl (G_yes (ebT g7 rfl) (R_len rfl (G_yes (ebT g7 rfl) (R_eql rfl rfl ?_)))))))
   refine R_pickT (ebT g7 rfl) rfl ?_
   exact ⟨t58,(bandT g7),h2,h3,h5,h7,h10,trivial⟩
  ·
   refine G_n (ebF g7 rfl) (G_n (ebF g7 rfl) (G_n (ebF g7 rfl) (G_n (ebF g7 rfl) (R_pickF (ebF g7 rfl) rfl ?_))))
   exact ⟨t58,(bandF g7),h2,h3,h5,h7,h10,trivial⟩
 intro T H ⟨t58,t65,h2,h3,h5,h7,h10,_⟩
 refine R_bneq (x:=((((vck m f).2.1)&&decide (((((vck m f).1.ni).length:Nat):Int)=(0:Int))))) (y:=((((vck m ((ngF f))).2.1)&&decide (((((vck m ((ngF f))).1.ni).length:Nat):Int)=(0:Int))))) t58 t65 (R_mv rfl ?_)
 refine Ops_seg 2 (fun T H=>T 69=(V.bool ((((((((vck m f).2.1)&&decide (((((vck m f).1.ni).length:Nat):Int)=(0:Int)))) != ((((vck m ((ngF f))).2.1)&&decide (((((vck m ((ngF f))).1.ni).length:Nat):Int)=(0:Int))))))||false)))∧H 2=(bk 1 50 4 [[(iV (m.i)),(iV (m.s)),(intss m.nx),(intss m.ot)]])∧H 3=(bk 1 24 3 [[(iV (f.op)),(iV (f.arg)),(V.sl (List.map cF (f.kids)))]])∧H 5=(bk 1 24 3 [[(iV ((ngF f).op)),(iV ((ngF f).arg)),(V.sl (List.map cF ((ngF f).kids)))]])∧H 7=(bk 1 54 2 [[(ints ((vck m f).1.ni)),(ints ((vck m f).1.no))]])∧H 10=(bk 1 54 2 [[(ints ((vck m ((ngF f))).1.ni)),(ints ((vck m ((ngF f))).1.no))]])∧True) ?_ ?_
 ·
  by_cases g8:((((((vck m f).2.1)&&decide (((((vck m f).1.ni).length:Nat):Int)=(0:Int)))) != ((((vck m ((ngF f))).2.1)&&decide (((((vck m ((ngF f))).1.ni).length:Nat):Int)=(0:Int))))))=true
  ·
   have g8x:=g8
   try simp only [Bool.and_eq_true,Bool.or_eq_true,Bool.not_eq_true',decide_eq_true_eq] at g8x
   refine G_yes (ebT g8 rfl) (R_callk (aw47_pure) rfl (R_pickT (ebT g8 rfl) rfl ?_))
   exact ⟨(borT g8),h2,h3,h5,h7,h10,trivial⟩
  ·
   have g8x:=g8
   try simp only [Bool.and_eq_true,Bool.or_eq_true,Bool.not_eq_true',decide_eq_true_eq] at g8x
   refine G_n (ebF g8 rfl) (R_pickF (ebF g8 rfl) rfl ?_)
   exact ⟨(borF g8),h2,h3,h5,h7,h10,trivial⟩
 intro T H ⟨t69,h2,h3,h5,h7,h10,_⟩
 refine R_mv t69 (R_e (W_ret ?_))
 refine Ret_1 (@rfl V (V.bool ((((((((vck m f).2.1)&&decide (((((vck m f).1.ni).length:Nat):Int)=(0:Int)))) != ((((vck m ((ngF f))).2.1)&&decide (((((vck m ((ngF f))).1.ni).length:Nat):Int)=(0:Int))))))||false)))) (fz_bool ?_)
 · first|rfl|(rw [hx]; rfl)|simp [hx]
end Go.Proofs.YteehaobohaecmaaGreatDoor
namespace Go.Proofs.YteehaobohaecmaaGreatDoor
open Go Go.ChangeShapes Go.WideShapes Go.ChangeAt Go.RowKit
def okS (P:Program) (S:List TypeId) (t:TypeId):Bool:=match P.underlying t with
  |some .bool=>true
  |some (.int _)=>true
  |some .string=>true
  |some (.slice e)=>decide (e∈S)&&decide (P.cellsOf e≠0)
  |some (.struct fs)=>fs.toList.all (fun f=>decide (f.type∈S))&&tile P (P.cellsOf t) 0 fs.toList
  |some (.array m e)=>decide (e∈S)&&decide (m*P.cellsOf e=P.cellsOf t)
  |_=>false
section
variable {H:Type} {enc:TypeId×Value→H} {P:Program} {base:Nat} {spare:Nat→Bool} {held:Bool}
theorem trod_RS {x : Cx} (hZ : ∀ b, b < x.w.heap.size → x.Z b) {S : List TypeId} (hS : ∀ t ∈ S, okS P S t = true) : ∀ (fuel : Nat) (t : TypeId), t ∈ S → ∀ (cs : List Value) (y : DataW H × List MemPlace), DataW.trod enc P x.w base spare held fuel t cs = some y →
    ∃ vs,Shp P fuel t vs∧RC x vs cs:=by
  intro n
  induction n with
  |zero=>intro t _ cs y hy; simp [DataW.trod] at hy
  | succ n ih =>
    intro t hm cs y hy
    have hok:=hS t hm
    have one: ∀ {v:V} {c:Value},R x v c→RC x [v] [c]:=fun {v c} h=>⟨rfl,fun j u hj=>by
      cases j with
      |zero=>simp at hj; subst hj; exact h
      |succ j=>simp at hj⟩
    simp only [okS] at hok
    split at hok
    · rename_i ht
      simp only [Shp,ht]
      obtain ⟨b,rfl,_⟩:=DataW.trod_bool ht hy
      exact ⟨[.bool b],⟨b,rfl⟩,one (.bool b)⟩
    · rename_i k ht
      simp only [Shp,ht]
      obtain ⟨m,rfl,_,hw⟩:=DataW.trod_int ht hy
      exact ⟨[.int k m],⟨m,rfl,hw⟩,one (.int k m)⟩
    · rename_i ht
      simp only [Shp,ht]
      obtain ⟨s,rfl,_⟩:=DataW.trod_string ht hy
      exact ⟨[.str s.data.toList],⟨_,rfl⟩,one (R.str s.data.toList)⟩
    · rename_i e ht
      simp only [Shp,ht]
      simp only [Bool.and_eq_true,decide_eq_true_eq] at hok
      obtain ⟨hok,hnz⟩:=hok
      rcases DataW.trod_slice ht hy with ⟨rfl,_⟩|⟨a,len,cap,elems,rest,m,em,rfl,_,hb,hl,hc,hlen,hel,_,_⟩
      · exact ⟨[.sl []],⟨[],rfl,fun r hr=>by cases hr⟩,one .slnil⟩
      · obtain rfl:n=m:=by omega
        have hall: ∀ i,i < len→ ∃ r:List V,Shp P n e r∧ ∃ ci:List Value,x.w.cells? base (a.add (i*P.cellsOf e)) (P.cellsOf e)=some ci∧RC x r ci:=by
          intro i hi
          have h1:=hel i hi
          rw [List.getElem?_eq_getElem (by omega)] at h1
          cases h2:x.w.cells? base (a.add (i*P.cellsOf e)) (P.cellsOf e) with
          |none=>rw [h2] at h1; cases h1
          | some ci =>
            rw [h2] at h1
            obtain ⟨vs,h3,h4⟩:=ih e hok ci _ h1
            exact ⟨vs,h3,ci,rfl,h4⟩
        obtain ⟨rows,hrl,hrows⟩:=choiceL hall
        have hcell: ∀ (r:Nat) (row:List V) (j:Nat) (v:V),rows[r]?=some row→row[j]?=some v→
            ∃ c,x.w.cell? (a.add (r*P.cellsOf e+j))=some c∧R x v c:=by
          intro r row j v hr hj
          obtain ⟨_,ci,g1,g2⟩:=hrows r row hr
          obtain ⟨_,g4,g5⟩:=World.cells?_some g1
          have hjlt:j < ci.length:=by have:=(List.getElem?_eq_some_iff.1 hj).1; rw [← g2.1]; exact this
          have g6:=g5 j (by omega)
          rw [List.getElem?_eq_getElem hjlt,Addr.add_add] at g6
          refine ⟨_,g6,?_⟩
          have:=g2.2 j v hj
          rw [List.getD_eq_getElem?_getD,List.getElem?_eq_getElem hjlt] at this
          exact this
        have key:=R.sl (x:=x) rows a cap (P.cellsOf e) (fun k=>(x.w.cell? (a.add k)).getD undef) (by omega) hc ?_ ?_ ?_ ?_
        · rw [hrl] at key
          exact ⟨[.sl rows],⟨rows,rfl,fun r hr=>by obtain ⟨i,hi⟩:=List.getElem?_of_mem hr; exact (hrows i r hi).1⟩,one key⟩
        · intro hne
          cases hrr:rows with
          |nil=>exact (hne hrr).elim
          | cons r0 rs =>
            obtain ⟨_,ci,g1,g2⟩:=hrows 0 r0 (by rw [hrr]; rfl)
            · obtain ⟨_,g4,g5⟩:=World.cells?_some g1
              have g6:=g5 0 (by omega)
              rw [List.getElem?_eq_getElem (by omega),Addr.add_add] at g6
              have hlt:(a.add (0*P.cellsOf e+0)).block < x.w.heap.size:=by
                unfold World.cell? at g6
                split at g6
                · rename_i hh
                  exact (Array.getElem?_eq_some_iff.1 hh).1
                · cases g6
              exact hZ _ (by simpa [Addr.add] using hlt)
        · intro r hr
          obtain ⟨i,hi⟩:=List.getElem?_of_mem hr
          obtain ⟨_,ci,g1,g2⟩:=hrows i r hi
          rw [g2.1]
          exact (World.cells?_some g1).2.1
        · intro r row j v hr hj
          obtain ⟨c,g1,_⟩:=hcell r row j v hr hj
          rw [g1]; rfl
        · intro r row j v hr hj
          obtain ⟨c,g1,g2⟩:=hcell r row j v hr hj
          simp only [g1,Option.getD_some]
          exact g2
    · rename_i fs ht
      simp only [Shp,ht]
      simp only [Bool.and_eq_true] at hok
      obtain ⟨xs,m,em,_,hl,hxl,hf⟩:=DataW.trod_struct ht hy
      obtain rfl:n=m:=by omega
      have hfs: ∀ f∈fs.toList,∃ z,DataW.trod enc P x.w base spare held n f.type ((cs.drop f.offset).take (P.cellsOf f.type))=some z:=by
        intro f hm
        obtain ⟨i,hi⟩:=List.getElem?_of_mem hm
        have hi':fs[i]?=some f:=by simpa using hi
        have hlt:i < xs.length:=by
          have:=(Array.getElem?_eq_some_iff.1 hi').1
          omega
        exact ⟨xs[i],by rw [hf i f hi',List.getElem?_eq_getElem hlt]⟩
      have hok':=List.all_eq_true.1 hok.1
      have main: ∀ (l:List Field) (off:Nat),(∀ f∈l,f∈fs.toList)→tile P (P.cellsOf t) off l=true→off≤cs.length→ ∃ vs,ShpL (Shp P n) l vs∧RC x vs (cs.drop off):=by
        intro l
        induction l with
        | nil =>
          intro off _ htl hle
          simp only [tile,decide_eq_true_eq] at htl
          refine ⟨[],rfl,?_⟩
          rw [List.drop_of_length_le (by omega)]
          exact ⟨rfl,fun j v hj=>by simp at hj⟩
        | cons f r ihr =>
          intro off hsub htl hle
          simp only [tile,Bool.and_eq_true,decide_eq_true_eq] at htl
          obtain ⟨z,hz⟩:=hfs f (hsub f (List.mem_cons_self ..))
          obtain ⟨va,g1,g2⟩:=ih f.type (of_decide_eq_true (hok' f (hsub f (List.mem_cons_self ..)))) _ _ hz
          have hoff:off+P.cellsOf f.type≤cs.length:=by
            rw [hl]
            have: ∀ (l:List Field) (o:Nat),tile P (P.cellsOf t) o l=true→o≤P.cellsOf t:=by
              intro l
              induction l with
              |nil=>intro o h; simp only [tile,decide_eq_true_eq] at h; omega
              |cons f r ih=>intro o h; simp only [tile,Bool.and_eq_true,decide_eq_true_eq] at h; have:=ih _ h.2; omega
            exact this _ _ htl.2
          obtain ⟨vb,g3,g4⟩:=ihr (off+P.cellsOf f.type) (fun q hq=>hsub q (List.mem_cons_of_mem _ hq)) htl.2 hoff
          refine ⟨va++vb,⟨va,vb,rfl,g1,g3⟩,?_⟩
          have hsplit:cs.drop off=(cs.drop off).take (P.cellsOf f.type)++cs.drop (off+P.cellsOf f.type):=by
            rw [← List.drop_drop,List.take_append_drop]
          rw [hsplit]
          rw [htl.1] at g2
          exact RC_append g2 g4
      obtain ⟨vs,g1,g2⟩:=main fs.toList 0 (fun _ h=>h) hok.2 (Nat.zero_le _)
      exact ⟨vs,g1,by simpa using g2⟩
    · rename_i m e ht
      simp only [Shp,ht]
      simp only [Bool.and_eq_true,decide_eq_true_eq] at hok
      obtain ⟨xs,f,em,_,hl,hxl,hf⟩:=DataW.trod_array ht hy
      obtain rfl:n=f:=by omega
      have main: ∀ (k i:Nat),i+k=m→ ∃ vs,ShpR (Shp P n e) k vs∧RC x vs (cs.drop (i*P.cellsOf e)):=by
        intro k
        induction k with
        | zero =>
          intro i hi
          refine ⟨[],rfl,?_⟩
          rw [List.drop_of_length_le (by rw [hl,← hok.2,show i=m by omega]; exact Nat.le_refl _)]
          exact ⟨rfl,fun j v hj=>by simp at hj⟩
        | succ k ihk =>
          intro i hi
          have hlt:i < m:=by omega
          have hz:=hf i hlt
          rw [List.getElem?_eq_getElem (by omega)] at hz
          obtain ⟨va,g1,g2⟩:=ih e hok.1 _ _ hz
          obtain ⟨vb,g3,g4⟩:=ihk (i+1) (by omega)
          refine ⟨va++vb,⟨va,vb,rfl,g1,g3⟩,?_⟩
          have hsplit:cs.drop (i*P.cellsOf e)=(cs.drop (i*P.cellsOf e)).take (P.cellsOf e)++cs.drop ((i+1)*P.cellsOf e):=by
            rw [Nat.add_mul,Nat.one_mul,← List.drop_drop,List.take_append_drop]
          rw [hsplit]
          exact RC_append g2 g4
      obtain ⟨vs,g1,g2⟩:=main m 0 (by omega)
      exact ⟨vs,g1,by simpa using g2⟩
    · cases hok
theorem open_RS {x:Cx} (hZ: ∀ b,b < x.w.heap.size→x.Z b) {S:List TypeId} (hS: ∀ t∈S,okS P S t=true) {t:TypeId} (ht0:t∈S) {r:Reach} {b0 base:Nat} {spare:Nat→Bool} {held:Bool} {v:Value} {d:DataW H} {ps:List MemPlace}
    (hval:Value.okWide P x.w r b0 t v) (hd:DataW.Trod enc P x.w base spare held t v d ps): ∃ n vs,Shp P n t vs∧R x (packV P t vs) v:=by
  obtain ⟨fuel,hf⟩:=hd
  obtain ⟨vs,h1,h2⟩:=trod_RS hZ hS fuel t ht0 _ _ hf
  refine ⟨fuel,vs,h1,?_⟩
  have hok:=hS t ht0
  unfold packV
  simp only [okS] at hok
  split at hok
  · rename_i ht
    obtain ⟨b,rfl⟩:=okWide_bool ht hval
    rw [ht]; exact RC_one h2
  · rename_i k ht
    obtain ⟨m,rfl⟩:=okWide_int ht hval
    rw [ht]; exact RC_one h2
  · rename_i ht
    obtain ⟨s,rfl⟩:=okWide_string ht hval
    rw [ht]; exact RC_one h2
  · rename_i e ht
    obtain ⟨a,l,c,rfl⟩:=okWide_slice ht hval
    rw [ht]; exact RC_one h2
  · rename_i fs ht
    obtain ⟨cs,rfl,_⟩:=okWide_struct ht hval
    rw [ht]
    refine .agg vs cs (by have:=h2.1; simp [Value.cells] at this; omega) fun j u hj=>?_
    have:=h2.2 j u hj
    rw [List.getD_eq_getElem?_getD] at this
    rw [Array.getD_eq_getD_getElem?,← Array.getElem?_toList]
    exact this
  · rename_i m e ht
    have hval2:=hval
    simp only [Value.okWide,ht] at hval2
    obtain ⟨cs,rfl,_⟩:=hval2
    rw [ht]
    refine .agg vs cs (by have:=h2.1; simp [Value.cells] at this; omega) fun j u hj=>?_
    have:=h2.2 j u hj
    rw [List.getD_eq_getElem?_getD] at this
    rw [Array.getD_eq_getD_getElem?,← Array.getElem?_toList]
    exact this
  · cases hok
def ShpB (P:Program):List TypeId→List V→Prop
  |[],vs=>vs=[]
  |t::ts,vs=> ∃ n a b,vs=packV P t a::b∧Shp P n t a∧ShpB P ts b
theorem open_allS {x:Cx} (hZ: ∀ b,b < x.w.heap.size→x.Z b) {S:List TypeId} (hS: ∀ t∈S,okS P S t=true) {r:Reach} {b0 base:Nat} {spare:Nat→Bool} {held:Bool}: ∀ (ts:List TypeId) (vs:List Value) (ds:List (DataW H)) (ps:List MemPlace),
    (∀ t∈ts,t∈S)→(∀ (j:Nat) t v,ts[j]?=some t→vs[j]?=some v→Value.okWide P x.w r b0 t v)→DataW.TrodAll enc P x.w base spare held ts vs ds ps→
    ∃ us,ShpB P ts us∧RL x us vs
  | [], vs, ds, ps, _, _, h => by
    obtain ⟨rfl,rfl,rfl⟩:=trodAll_nil h
    exact ⟨[],rfl,rfl,fun j v hj=>by simp at hj⟩
  | t :: ts, vs, ds, ps, hok, hval, h => by
    obtain ⟨v,vs1,d,ds1,a,b,rfl,rfl,rfl,h1,h2⟩:=trodAll_cons h
    obtain ⟨n,ws,g1,g2⟩:=open_RS hZ hS (hok t (List.mem_cons_self ..)) (hval 0 t v rfl rfl) h1
    obtain ⟨us,g3,g4⟩:=open_allS hZ hS ts vs1 ds1 b (fun q hq=>hok q (List.mem_cons_of_mem _ hq)) (fun j q u hq hu=>hval (j+1) q u (by simpa using hq) (by simpa using hu)) h2
    refine ⟨packV P t ws::us,⟨n,ws,us,rfl,g1,g3⟩,by simp [g4.1],fun j u hj=>?_⟩
    cases j with
    |zero=>simp at hj; subst hj; exact g2
    |succ j=>exact g4.2 j u (by simpa using hj)
theorem law_postS {f:FuncId} {fn:Func} {s:ChangeSpec} {apart fresh handsOn again:Bool} {tb:Nat} {S:List TypeId} {W:World} {args:Array Value} {ds gs:List (DataW H)} {before:List MemPlace}
    (hl:laidOutB P=true) (hres:fn.resultTypes=#[tb]) (htb:P.underlying tb=some .bool) (hS: ∀ t∈S,okS P S t=true) (hts: ∀ t∈fn.params.toList,t∈S∧P.readableRec t=true∧t < P.types.size)
    (hvars:s.vars=[]) (hs:s.fn H (ds++gs)={results:=[.lit (.bool true)],args:=ds})
    (hlaw: ∀ us,ShpB P fn.params.toList us→PureC P f us (.bool true))
    (hval: ∀ (j:Nat) t v,fn.params[j]?=some t→args[j]?=some v→Value.okWide P W .any 0 t v)
    (hW:DataW.Whole enc P fn.params.toList s.vars apart W args.toList ds gs before) (htab:TabZ W (fun b=>b < W.heap.size):=by intro p hp; simp [tabs] at hp):
    Calls P f args W fun e W'=> ∃ v,e=.returned v∧s.post enc P fn apart fresh handsOn again W args v W':=by
  have hW':=hW
  obtain ⟨p,q,hA,hV,rfl,hfz,hnd⟩:=hW
  rw [hvars] at hV
  obtain ⟨rfl,rfl⟩:=trodVars_none hV
  have hlt:=hW'.lt
  let x:Cx:=start {w:=W,Z:=fun b=>b < W.heap.size,σ:=fun _=>0,H:=H0} (fun b=>b < W.heap.size)
  have hx:Inv x:=start_ok (fun b hb=>hb) htab
  obtain ⟨us,g1,g2⟩:=open_allS (x:=x) (fun b hb=>hb) hS fn.params.toList args.toList ds p (fun t ht=>(hts t ht).1) (fun j t v h1 h2=>hval j t v (by simpa using h1) (by simpa using h2)) hA
  have hc:=(hlaw us g1 H0).2 x args.toList rfl hx g2
  rw [Array.toArray_toList] at hc
  refine Calls.mono (show Calls P f args W _ from hc) fun e W' h=>?_
  obtain ⟨c,y,rfl,rfl,h3,h4,h5,h6⟩:=h
  cases h5
  have hb:Below W.heap.size W y.w:=below_of_frame h6 (fun _=>rfl) rfl
  refine ⟨_,rfl,post_of_below (pa:=p) (pv:=[]) hW' (fun b sp hd=>?_) (fun sp hsp=>?_) (fun sp _=>?_) (by simp) hb ?_⟩
  · rw [hs,hres]
    exact trodAll_mk1 (shut_bool htb true)
  · rw [hs]
    exact trodAll_stays hl hb _ _ _ _ (fun t ht=>(hts t ht).2) hA (fun z hz=>hlt z (by simpa using hz)) (fun z hz=>hsp z (by simpa using hz))
  · rw [hs,hvars]; rfl
  · exact ok_one hres rfl (okWide_bool_mk htb true)
end
section
variable {P:Program} {n t:Nat} {vs:List V}
theorem shq_int {k:IntKind} (ht:P.underlying t=some (.int k)) (h:Shp P n t vs): ∃ m:Int,vs=[.int k m]:=by
  cases n with
  |zero=>exact h.elim
  |succ n=>exact shp_int ht h
theorem shq_slice {e:Nat} {α:Type} {f:α→List V} (ht:P.underlying t=some (.slice e)) (he: ∀ m vs,Shp P m e vs→ ∃ a,vs=f a) (h:Shp P n t vs): ∃ l:List α,vs=[.sl (l.map f)]:=by
  cases n with
  |zero=>exact h.elim
  |succ n=>exact shp_slice ht (he n) h
theorem shq_step {fs:Array Field} (ht:P.underlying t=some (.struct fs)) (h:Shp P n t vs): ∃ m,n=m+1∧ShpL (Shp P m) fs.toList vs:=by
  cases n with
  |zero=>exact h.elim
  |succ n=>exact ⟨n,rfl,shp_step ht h⟩
theorem shq_kids {e:Nat} {α:Type} {f:α→List V} {N:Nat} (ht:P.underlying t=some (.slice e)) (he: ∀ m,m < N→ ∀ vs,Shp P m e vs→ ∃ a,vs=f a) (hn:n < N) (h:Shp P n t vs): ∃ l:List α,vs=[.sl (l.map f)]:=by
  cases n with
  |zero=>exact h.elim
  |succ n=>exact shp_slice ht (he n (by omega)) h
theorem shpB_cons {ts:List TypeId} {us:List V} (h:ShpB P (t::ts) us): ∃ n a b,us=packV P t a::b∧Shp P n t a∧ShpB P ts b:=h
theorem shpB_nil {us:List V} (h:ShpB P [] us):us=[]:=h
end
end Go.Proofs.YteehaobohaecmaaGreatDoor
namespace Go.Proofs.YteehaobohaecmaaGreatDoor
open Go
abbrev cFm (f:Fm):List V:=[iV f.op,iV f.arg,.sl (f.kids.map cF)]
structure Tri where
  ia:List (List UInt8)
  oa:List (List UInt8)
  f:Fm
  s:List UInt8
end Go.Proofs.YteehaobohaecmaaGreatDoor
namespace Go.Proofs.YteehaobohaecmaaGreatDoor
open Go Go.Proofs Go.Proofs.YteehaobohaecmaaGreatDoor
theorem gPow : Tryz.prog.globalNamed "internal/strconv.uint64pow10" = some 0 := by kernel_rfl
theorem door_met (os:Os) (args:Array Value):laidMetH Tryz.prog Rows.monitorSimplifiesRow.laid ((World.doorLaid Tryz.prog 400 os).forCall (fun _ _=>0) ⟨#[],args,[]⟩).memory:=
  laidMetH_of_parts3 (fuel:=8) (laidMet_of_run' 8 (by kernel_rfl) (by kernel_rfl)) (by kernel_rfl) (by kernel_rfl)
theorem tabZ_of_laid {W:World} (h:laidMetH Tryz.prog Rows.monitorSimplifiesRow.laid W):TabZ W (fun b=>b < W.heap.size):=by
  have h2 := laidMetH.filter (fun x => x.1 == "internal/strconv.uint64pow10") h
  rw [show Rows.monitorSimplifiesRow.laid.filter (fun x => x.1 == "internal/strconv.uint64pow10") = [("internal/strconv.uint64pow10", Lib.tabData .u64 Lib.pow10Tab)] from by kernel_rfl] at h2
  rw [MakeChecks.laidMetH_plain _ _ _ (by kernel_rfl)] at h2
  have h3 : Lib.TabIs Tryz.prog W "internal/strconv.uint64pow10" .u64 Lib.pow10Tab := Lib.tabIs_of_head (n := 20) gPow (show (Tryz.prog.globals[0]?).map (·.type) = some 195 from by kernel_rfl) Tryz.underlying195 Tryz.underlying177 (by kernel_rfl) (by kernel_rfl) h2
  unfold Lib.TabIs World.var? at h3
  rw [gPow] at h3
  simp only [Option.bind_some] at h3
  intro p hp
  rw [show p=(0,p10C) from by simpa [tabs] using hp]
  revert h3
  cases hq:W.heap[0]? with
  |none=>intro h3; cases h3
  | some o =>
    cases o with
    | cells cs ty m =>
      intro h3
      injection h3 with h3
      refine ⟨?_,ty,m,by rw [h3]; rfl⟩
      obtain ⟨hlt,_⟩:=Array.getElem?_eq_some_iff.1 hq
      exact hlt
    |_=>intro h3; cases h3
end Go.Proofs.YteehaobohaecmaaGreatDoor
namespace Go.Proofs.YteehaobohaecmaaGreatDoor
open Go Go.Proofs Go.Proofs.YteehaobohaecmaaGreatDoor Go.ChangeShapes Go.WideShapes Go.ChangeAt Go.RowKit
structure UT (P:Program):Prop where
  u3:P.underlying 3=some (.int .i64)
  u40:P.underlying 40=some (.slice 52)
  u52:P.underlying 52=some (.slice 3)
  u50: ∃ f0 f1 f2 f3:Field,P.underlying 50=some (.struct #[f0,f1,f2,f3])∧f0.type=3∧f1.type=3∧f2.type=40∧f3.type=40
  u22:P.underlying 22=some (.slice 24)
  u24: ∃ f0 f1 f2:Field,P.underlying 24=some (.struct #[f0,f1,f2])∧f0.type=3∧f1.type=3∧f2.type=22
theorem sh3 {P:Program} (U:UT P): ∀ (n:Nat) (vs:List V),Shp P n 3 vs→ ∃ a:Int,vs=cI a:=fun _ _ h=>shq_int U.u3 h
theorem sh52 {P:Program} (U:UT P): ∀ (n:Nat) (vs:List V),Shp P n 52 vs→ ∃ a:(List Int),vs=cL a:=fun _ _ h=>shq_slice (f:=cI) U.u52 (sh3 U) h
theorem sh40 {P:Program} (U:UT P): ∀ (n:Nat) (vs:List V),Shp P n 40 vs→ ∃ a:(List (List Int)),vs=(fun l=>[V.sl (List.map cL l)]) a:=fun _ _ h=>shq_slice (f:=cL) U.u40 (sh52 U) h
theorem sh50 {P:Program} (U:UT P): ∀ (n:Nat) (vs:List V),Shp P n 50 vs→ ∃ a:M,vs=mC a:=by
  intro n
  induction n using Nat.strongRecOn with
  | ind n ih =>
    intro vs h
    obtain ⟨f0,f1,f2,f3,hu,k0,k1,k2,k3⟩:=U.u50
    obtain ⟨m,hm,h0⟩:=shq_step hu h
    obtain ⟨x0,u0,e0,h1⟩:=shpL_cons (c:=cI) (fun vs h=>sh3 U m vs (by rw [k0] at h; exact h)) h0
    obtain ⟨x1,u1,e1,h2⟩:=shpL_cons (c:=cI) (fun vs h=>sh3 U m vs (by rw [k1] at h; exact h)) h1
    obtain ⟨x2,u2,e2,h3⟩:=shpL_cons (c:=(fun l=>[V.sl (List.map cL l)])) (fun vs h=>sh40 U m vs (by rw [k2] at h; exact h)) h2
    obtain ⟨x3,u3,e3,h4⟩:=shpL_cons (c:=(fun l=>[V.sl (List.map cL l)])) (fun vs h=>sh40 U m vs (by rw [k3] at h; exact h)) h3
    have e4:=shpL_nil h4
    exact ⟨⟨x0,x1,x2,x3⟩,by rw [e0,e1,e2,e3,e4]; rfl⟩
theorem sh24 {P:Program} (U:UT P): ∀ (n:Nat) (vs:List V),Shp P n 24 vs→ ∃ a:Fm,vs=cF a:=by
  intro n
  induction n using Nat.strongRecOn with
  | ind n ih =>
    intro vs h
    obtain ⟨f0,f1,f2,hu,k0,k1,k2⟩:=U.u24
    obtain ⟨m,hm,h0⟩:=shq_step hu h
    obtain ⟨x0,u0,e0,h1⟩:=shpL_cons (c:=cI) (fun vs h=>sh3 U m vs (by rw [k0] at h; exact h)) h0
    obtain ⟨x1,u1,e1,h2⟩:=shpL_cons (c:=cI) (fun vs h=>sh3 U m vs (by rw [k1] at h; exact h)) h1
    obtain ⟨x2,u2,e2,h3⟩:=shpL_cons (c:=fun l:List Fm=>[V.sl (List.map cF l)]) (fun vs h=>shq_kids (N:=n) (n:=m) U.u22 ih (by omega) (by rw [k2] at h; exact h)) h2
    have e3:=shpL_nil h3
    exact ⟨(Fm.nd x0 x1 x2),by rw [e0,e1,e2,e3,cF_eq]; rfl⟩
theorem ut:UT Tryz.prog:=⟨by kernel_rfl,by kernel_rfl,by kernel_rfl,⟨_,_,_,_,Tryz.underlying50,rfl,rfl,rfl,rfl⟩,by kernel_rfl,⟨_,_,_,Tryz.underlying24,rfl,rfl,rfl⟩⟩
theorem args7 {P:Program} (U:UT P) {us:List V} (h:ShpB P [50,24] us): ∃ (d0:M) (d1:Fm),us=[V.agg (mC d0),V.agg (cFm d1)]:=by
  obtain ⟨n0,a0,b0,e0,h0,h⟩:=shpB_cons h
  obtain ⟨d0,g0⟩:=sh50 U n0 a0 h0
  have q0:packV P 50 a0=V.agg (mC d0):=by obtain ⟨_,_,_,_,hu,_⟩:=U.u50; rw [g0]; exact pack_struct hu _
  obtain ⟨n1,a1,b1,e1,h1,h⟩:=shpB_cons h
  obtain ⟨d1,g1⟩:=sh24 U n1 a1 h1
  have q1:packV P 24 a1=V.agg (cFm d1):=by obtain ⟨_,_,_,hu,_⟩:=U.u24; rw [g1,cF_eq]; exact pack_struct hu _
  have e2:=shpB_nil h
  exact ⟨d0,d1,by rw [e0,q0,e1,q1,e2]⟩
theorem own7:ownKnob Tryz.prog.godebug=none:=by kernel_rfl
theorem okS7: ∀ t∈[3,22,24,40,50,52],okS Tryz.prog [3,22,24,40,50,52] t=true:=by
  intro t ht
  simp only [List.mem_cons,List.not_mem_nil,or_false] at ht
  rcases ht with rfl|rfl|rfl|rfl|rfl|rfl
  · kernel_rfl
  · kernel_rfl
  · kernel_rfl
  · kernel_rfl
  · kernel_rfl
  · kernel_rfl
set_option maxRecDepth 100000 in
theorem lifted7 (os:Os) (started:os.Started) (H:Type) (enc:TypeId×Value→H):
    ReturnsInHanded {} Tryz.checked os 7 .any (fun w args=>(Rows.verifyNegatedSpec.pre enc Tryz.prog Tryz.f7 [] false w args∧laidMetH Tryz.prog Rows.verifyNegatedRow.laid w)∧sizedMet enc Tryz.prog Tryz.f7 (OpenSpec.ofChange Rows.verifyNegatedSpec) false w args)
      (Rows.verifyNegatedSpec.post enc Tryz.prog Tryz.f7 false true false false):=by
  refine returnsInHanded_of_change_and (C:=Tryz.checked) (X:=fun w _=>laidMetH Tryz.prog Rows.verifyNegatedRow.laid w) (fun _ _ _ hh h=>h.of_heap hh) own7 started (by kernel_rfl) Tryz.func7
    (ChangeSpec.witness_shaped (enc:=enc) (C:=Tryz.checked) (os:=os) (X:=fun w _=>laidMetH Tryz.prog Rows.verifyNegatedRow.laid w) false (World.doorLaid Tryz.prog 400 os) #[.agg #[.int .i64 0,.int .i64 0,.slice none 0 0,.slice none 0 0],.agg #[.int .i64 0,.int .i64 0,.slice none 0 0]] 8 rfl (World.shaped_of_RefB (by kernel_rfl) (by kernel_rfl)) (by kernel_rfl) (by kernel_rfl) (by kernel_rfl) (door_met os _)) ?_
  intro W base args ds gs before hval0 hW _ _ hL _
  refine law_postS (S:=[3,22,24,40,50,52]) (tb:=4) (by kernel_rfl) (by kernel_rfl) (by kernel_rfl) okS7 (fun t ht=>?_) rfl ?_ (fun us hu=>?_) hval0 hW (tabZ_of_laid hL)
  · have h:t∈[50,24]:=ht
    simp only [List.mem_cons,List.not_mem_nil,or_false] at h
    rcases h with rfl|rfl
    · exact ⟨of_decide_eq_true (by kernel_rfl),by kernel_rfl,of_decide_eq_true (by kernel_rfl)⟩
    · exact ⟨of_decide_eq_true (by kernel_rfl),by kernel_rfl,of_decide_eq_true (by kernel_rfl)⟩
  · obtain ⟨p,q,hA,hV,rfl,hfz,hnd⟩:=hW
    obtain ⟨rfl,rfl⟩:=trodVars_none hV
    change DataW.TrodAll enc Tryz.prog W 0 (fun _=>true) true [50,24] args.toList ds p at hA
    obtain ⟨v0,vs0,y0,ds0,pa0,pb0,hv0,rfl,rfl,_,hA⟩:=trodAll_cons hA
    obtain ⟨v1,vs1,y1,ds1,pa1,pb1,hv1,rfl,rfl,_,hA⟩:=trodAll_cons hA
    obtain ⟨_,rfl,rfl⟩:=trodAll_nil hA
    rfl
  · obtain ⟨d0,d1,rfl⟩:=args7 ut hu
    exact law7_pure d0 d1
theorem row7:Rows.VerifyNegatedSaid:=
  OpenClaim.holds_of_wide 7 Tryz.f7 rfl rfl rfl rfl rfl rfl rfl ⟨rfl,rfl,rfl,rfl,rfl⟩ rfl rfl rfl rfl rfl (by kernel_rfl) Tryz.func7 (by kernel_rfl)
    (of_decide_eq_true (by kernel_rfl)) (by unfold Func.isWrapper; first|(rw [if_pos (by decide+kernel)]; kernel_rfl)|(rw [if_neg (by decide+kernel)]; exact ⟨rfl,rfl⟩))
    (fun os started H enc _=>lifted7 os started H enc)
theorem proved7 : Rows.VerifyNegatedCardSaid :=
  Claim7.holds_tied_plain_at .later [] [.data, .data, .data] true (true, "98a18010de341d32116933fdf51a3dd8a8f2b57aa54f69519e37bffcb02f6549") false
    row7 (fun _ h=>by cases h) (by kernel_rfl) (fun _ h=>by cases h) verifyNegated_row_tie rfl ⟨rfl,rfl⟩ (by kernel_rfl) rfl
    (fun f fn hf hfn=>by
      obtain rfl : f = 7 := Option.some.inj ((show Tryz.prog.funcNamed "learner/learnerlaw47.VerifyNegated" = some 7 by kernel_rfl).symm.trans hf) |>.symm
      obtain rfl:fn=Tryz.f7:=(Option.some.inj (Tryz.func7.symm.trans hfn)).symm
      exact ⟨by kernel_rfl,fun j t ht=>by
        rw [Tryz.params7] at ht
        have hm:t∈[50,24]:=by simpa using Array.mem_of_getElem? ht
        have hall:([50,24].all fun u=> !Tryz.prog.wantsStandIn u)=true:=by kernel_rfl
        exact (show Tryz.prog.wantsStandIn t=false by simpa using List.all_eq_true.1 hall t hm)⟩)
    (by kernel_rfl)
end Go.Proofs.YteehaobohaecmaaGreatDoor
