/- Contracts of the functions that the law VN reaches, and the law itself, for every input; no condition. -/
import Derived.KernelRfl
import Derived.Test.YteehaobohaecmaaGreatDoorProg
import Derived.Shelf.Strconv.Itoa3
import Derived.Test.YteehaobohaecmaaGreatDoorVN2
set_option linter.unusedSimpArgs false
set_option linter.unusedVariables false
namespace Go.Proofs.YteehaobohaecmaaGreatDoor
open Go Go.Proofs
theorem mnormal_pure_step (f:Fm) (b:Bool) (hf:okF f=true) (hz:f.sz≤4096) (ih: ∀ (g:Fm) (b:Bool),g.sz < f.sz→okF g=true→g.sz≤4096→PureC Tryz.prog 37 [(V.agg [(iV (g.op)),(iV (g.arg)),(V.sl (List.map cF (g.kids)))]),(V.bool b)] (V.agg [(iV ((nrm g b).op)),(iV ((nrm g b).arg)),(V.sl (List.map cF ((nrm g b).kids)))])):PureC Tryz.prog 37 [(V.agg [(iV (f.op)),(iV (f.arg)),(V.sl (List.map cF (f.kids)))]),(V.bool b)] (V.agg [(iV ((nrm f b).op)),(iV ((nrm f b).arg)),(V.sl (List.map cF ((nrm f b).kids)))]):=by
 refine pW Tryz.func37 s37_ok fun hB=>?_
 unfold s37
 dsimp only
 have hp:=okF_parts hf
 have hr:=rgt_ok hp.1
 have hln:=f.sz_len
 refine W_r (R_box (i:=2) (n:=0) (m:=3) (cs:=[(iV (f.op)),(iV (f.arg)),(V.sl (List.map cF (f.kids)))]) rfl (congrArg Blk.ver rfl) rfl rfl rfl (R_alloc (i:=4) (n:=0) (m:=3) rfl (congrArg Blk.ver rfl) rfl (R_e (W_seq_seq (W_r (R_fk rfl rfl (R_lk rfl rfl rfl rfl ?_)))))))
 refine R_eql rfl rfl (R_e ?_)
 refine W_seq_if rfl (fun c1=>?_) fun c1=>?_
 ·
  refine W_seq_seq (W_r (R_fk rfl rfl (R_lk rfl rfl rfl rfl (R_idxu (i:=0) (@rfl V (V.sl (List.map cF (f.kids)))) (@rfl V (iV ((0:Nat):Int))) (by omega) (cF_eq _) rfl (R_load_pp rfl rfl (R_mv rfl (R_notb rfl ?_)))))))
  refine R_callk (ih (((nth (f.kids) (0)))) ((!b)) (Fm.sz_kid (by omega)) (hp.2 _ (by omega)) (Nat.le_trans (Nat.le_of_lt (Fm.sz_kid (by omega))) hz)) rfl (R_sk rfl rfl rfl rfl rfl rfl rfl rfl rfl (R_e (W_seq_ret ?_)))
  refine RetC_1 (resV_c (u:=(V.agg [(iV ((nrm (((nth (f.kids) (0)))) ((!b))).op)),(iV ((nrm (((nth (f.kids) (0)))) ((!b))).arg)),(V.sl (List.map cF ((nrm (((nth (f.kids) (0)))) ((!b))).kids)))])) rfl (@rfl Blk (bk 1 24 3 [[(iV ((nrm (((nth (f.kids) (0)))) ((!b))).op)),(iV ((nrm (((nth (f.kids) (0)))) ((!b))).arg)),(V.sl (List.map cF ((nrm (((nth (f.kids) (0)))) ((!b))).kids)))]])) (lB oB rfl rfl)) (fz_agg3 (fz_int ?_) (fz_int ?_) (fz_sl ?_ (fun _=>by simp)))
  · rw [nrm_not (f:=f) (b:=b) (by omega) (by omega)]
  · rw [nrm_not (f:=f) (b:=b) (by omega) (by omega)]
  · rw [nrm_not (f:=f) (b:=b) (by omega) (by omega)]
 refine W_seq_skip (W_seq_seq (W_r (R_fk rfl rfl (R_lk rfl rfl rfl rfl (R_len rfl (R_eql rfl rfl (R_e ?_)))))))
 refine W_seq_if rfl (fun c2=>?_) fun c2=>?_
 ·
  refine W_seq_seq (W_r (R_fk rfl rfl (R_lk rfl rfl rfl rfl (R_fk rfl rfl (R_lk rfl rfl rfl rfl (R_build rfl rfl (R_alloc (i:=5) (n:=0) (m:=3) rfl (congrArg Blk.ver rfl) rfl ?_)))))))
  refine R_sk rfl rfl rfl rfl rfl rfl rfl rfl rfl (R_e (W_seq_seq (W_seq_seq (W_r (R_mv rfl (R_e ?_))))))
  refine W_seq_ifb rfl (fun c3=>?_) (fun c3=>?_)
  ·
   have hb:b=true:=c3
   refine W_seq_seq (W_r (R_lk rfl rfl rfl rfl (R_call (evcons (@rfl V (V.agg [(iV (f.op)),(iV (f.arg)),V.nilsl])) evnil) (mnot_pure (⟨((f.op)),((f.arg)),([])⟩:Fm)) (mcons (by rfl) rfl) (by simp [-List.map_take,-List.map_drop,-List.map_append,-List.map_reverse]) (Or.inl (by simp [-List.map_take,-List.map_drop,-List.map_append,-List.map_reverse])) (R_sk rfl rfl rfl rfl rfl rfl rfl rfl rfl (R_e (W_seq_ret ?_))))))
   refine RetC_1 (resV_c (u:=(V.agg [(iV (4:Int)),(iV (0:Int)),(V.sl (List.map cF ([(⟨((f.op)),((f.arg)),([])⟩:Fm)])))])) rfl (@rfl Blk (bk 1 24 3 [[(iV (4:Int)),(iV (0:Int)),(V.sl (List.map cF ([(⟨((f.op)),((f.arg)),([])⟩:Fm)])))]])) (lB oB rfl rfl)) (fz_agg3 (fz_int ?_) (fz_int ?_) (fz_sl ?_ (fun _=>by simp)))
   · rw [hb,nrm_leafT (by omega) (by omega)]; rfl
   · rw [hb,nrm_leafT (by omega) (by omega)]; rfl
   · rw [hb,nrm_leafT (by omega) (by omega)]; rfl
  have hb:b=false:=by simpa using c3
  refine W_seq_skip (W_seq_seq (W_r (R_lk rfl rfl rfl rfl (R_sk rfl rfl rfl rfl rfl rfl rfl rfl rfl (R_e (W_seq_ret ?_))))))
  refine RetC_1 (resV_c (u:=(V.agg [(iV (f.op)),(iV (f.arg)),V.nilsl])) rfl (@rfl Blk (bk 1 24 3 [[(iV (f.op)),(iV (f.arg)),V.nilsl]])) (lB oB rfl rfl)) (fz_agg3 (fz_int ?_) (fz_int ?_) (fz_nil ?_))
  · rw [hb,nrm_leafF (by omega) (by omega)]; rfl
  · rw [hb,nrm_leafF (by omega) (by omega)]; rfl
  · rw [hb,nrm_leafF (by omega) (by omega)]; rfl
 refine W_seq_skip (W_r (R_fk rfl rfl (R_lk rfl rfl rfl rfl (R_build rfl rfl (R_alloc (i:=6) (n:=0) (m:=3) rfl (congrArg Blk.ver rfl) rfl (R_sk rfl rfl rfl rfl rfl rfl rfl rfl rfl (R_e ?_)))))))
 refine W_seq_seq (W_r (R_mv rfl (R_e ?_)))
 refine W_seq_ifb rfl (fun c4=>?_) (fun c4=>?_)
 ·
  have hb:b=true:=c4
  refine W_r (R_fk rfl rfl (R_lk rfl rfl rfl rfl (R_callk (opp_pure ((f.op))) rfl (R_fk rfl rfl (R_sk rfl rfl rfl rfl rfl rfl rfl rfl rfl (R_e (W_seq_seq ?_)))))))
  refine W_seq_g (fun T H=>T 1=(V.bool b)∧T 4=(V.mp 4 1 0 0)∧T 6=(V.mp 6 1 0 0)∧T 41=(V.sl (List.map cF (f.kids)))∧T 42=(iV ((f.kids.length:Nat):Int))∧T 43=(iV (0:Int))∧H 2=(bk 1 24 3 [[(iV (f.op)),(iV (f.arg)),(V.sl (List.map cF (f.kids)))]])∧H 4=(bk 1 24 3 [[(iV (0:Int)),(iV (0:Int)),V.nilsl]])∧H 5=(⟨0,false,false,0,0,[]⟩:Blk)∧H 6=(bk 1 24 3 [[(iV (dualI ((f.op)))),(iV (0:Int)),V.nilsl]])∧H 8=(⟨0,false,false,0,0,[]⟩:Blk)∧H 653=(⟨0,false,false,0,0,[]⟩:Blk)∧True) ?_ ?_
  ·
   refine R_fk rfl rfl (R_lk rfl rfl rfl rfl (R_len rfl (R_mv rfl ?_)))
   exact R_nil ⟨rfl,rfl,rfl,rfl,rfl,rfl,rfl,rfl,rfl,rfl,rfl,rfl,trivial⟩
  intro T H ⟨t1,t4,t6,t41,t42,t43,h2,h4,h5,h6,h8,h653,_⟩
  refine .lazyCell 653 24 3 6 0 2 [(iV (dualI ((f.op)))),(iV (0:Int)),V.nilsl] (by decide) (by rw [h6]; rfl) (by rw [h6]; rfl) rfl (.done ?_)
  refine fork_ (R:=fun T H=>T 1=(V.bool b)∧T 4=(V.mp 4 1 0 0)∧T 6=(V.mp 6 1 0 0)∧T 41=(V.sl (List.map cF (f.kids)))∧T 42=(iV ((f.kids.length:Nat):Int))∧T 43=(iV (0:Int))∧H 2=(bk 1 24 3 [[(iV (f.op)),(iV (f.arg)),(V.sl (List.map cF (f.kids)))]])∧H 4=(bk 1 24 3 [[(iV (0:Int)),(iV (0:Int)),V.nilsl]])∧H 5=(⟨0,false,false,0,0,[]⟩:Blk)∧H 6=(bk 1 24 3 [[(iV (dualI ((f.op)))),(iV (0:Int)),(V.ms 653 1 0 (0))]])∧H 8=(⟨0,false,false,0,0,[]⟩:Blk)∧H 653=(bz 1 24 3 [])∧True) ⟨t1,t4,t6,t41,t42,t43,((upd_ne _ _ (by decide)).trans ((upd_ne _ _ (by decide)).trans h2)),((upd_ne _ _ (by decide)).trans ((upd_ne _ _ (by decide)).trans h4)),((upd_ne _ _ (by decide)).trans ((upd_ne _ _ (by decide)).trans h5)),(by rw [upd_same,h6,(congrArg Blk.ver h653)]; rfl),((upd_ne _ _ (by decide)).trans ((upd_ne _ _ (by decide)).trans h8)),(by rw [upd_ne _ _ (by decide),upd_same,(congrArg Blk.ver h653)]),trivial⟩ ?_
  intro T H ⟨t1,t4,t6,t41,t42,t43,h2,h4,h5,h6,h8,h653,_⟩
  refine W_seq_blockg fun Q5 n5 x5 y5 z5=>?_
  refine W_loop (fun mm T H=> ∃ (k:Nat) (w:Nat) (v8:Nat),mm=f.kids.length - k∧T 1=(V.bool b)∧T 4=(V.mp 4 1 0 0)∧T 6=(V.mp 6 1 0 0)∧T 41=(V.sl (List.map cF (f.kids)))∧T 42=(iV ((f.kids.length:Nat):Int))∧T 43=(iV ((k:Nat):Int))∧H 2=(bk 1 24 3 [[(iV (f.op)),(iV (f.arg)),(V.sl (List.map cF (f.kids)))]])∧H 4=(bk 1 24 3 [[(iV (0:Int)),(iV (0:Int)),V.nilsl]])∧H 5=(⟨0,false,false,0,0,[]⟩:Blk)∧H 6=(bk 1 24 3 [[(iV (nop f.op b)),(iV (0:Int)),(V.ms 653 w 0 (k))]])∧(H 8).ver=v8∧H 653=(bz w 24 3 (List.map cF ((f.kids.take k).map (fun g=>nrm g b))))∧(k≤f.kids.length)) ?_ ?_
  ·
   refine ⟨_,0,1,0,rfl,t1,t4,t6,t41,t42,(Eq.trans t43 rfl),h2,h4,h5,(Eq.trans h6 (by (exact bk_op (by simp only [nop,dualI,hb,if_true,Bool.false_eq_true,if_false]; repeat (first|rfl|omega|split))))),(congrArg Blk.ver h8),(Eq.trans h653 (by rfl)),?_⟩
   · omega
  intro mm T H ⟨k,w,v8,hmm,t1,t4,t6,t41,t42,t43,h2,h4,h5,h6,h8,h653,hk⟩ Q6 p16 p26 p36
  unfold b37_0
  refine W_r (R_lss t43 t42 (R_e ?_))
  refine W_seq_if rfl (fun c7=>?_) fun c7=>?_
  ·
   refine W_seq_skip (W_seq_blockg fun Q8 n8 x8 y8 z8=>(W_r (R_idxu (i:=k) t41 t43 (by omega) (cF_eq _) rfl (R_load_pp rfl rfl (R_alloc (i:=8) (n:=v8) (m:=3) rfl h8 rfl (R_sk rfl rfl rfl rfl rfl rfl rfl rfl rfl (R_e ?_)))))))
   refine W_t (R_fk t6 h6 (R_lk rfl h6 rfl rfl (R_lk rfl rfl rfl rfl (R_mv t1 (R_callk (ih (((nth (f.kids) (k)))) b (Fm.sz_kid (by omega)) (hp.2 _ (by omega)) (Nat.le_trans (Nat.le_of_lt (Fm.sz_kid (by omega))) hz)) rfl (R_bslice rfl rfl (R_append1 (l:=((f.kids.take k).map (fun g=>nrm g b))) (f:=cF) (x:=((nrm (((nth (f.kids) (k)))) b))) (@rfl V (V.ms 653 w 0 (k))) h653 (by (simp; omega)) (row_F1 (x:=((nrm (((nth (f.kids) (k)))) b))) (@rfl V (V.sl [[(iV ((nrm (((nth (f.kids) (k)))) b).op)),(iV ((nrm (((nth (f.kids) (k)))) b).arg)),(V.sl (List.map cF ((nrm (((nth (f.kids) (k)))) b).kids)))]]))) (cF_len _) (cF_one _) (by omega) (by omega) ?_)))))))
   refine R_fk t6 h6 (R_sk rfl rfl rfl h6 rfl rfl rfl rfl rfl (R_e (n8 _ _ (.done (W_t (R_addN t43 (@rfl V (iV ((1:Nat):Int))) (by omega) (R_mv rfl ?_)))))))
   refine R_e ?_
   refine p16 _ _ _ ?_ ⟨(k+1),(w+1),(v8+1),rfl,t1,t4,t6,t41,t42,(Eq.trans (@rfl V (iV ((k+1:Nat):Int))) (by rfl)),h2,h4,h5,(Eq.trans (@rfl Blk (bk 1 24 3 [[(iV (nop f.op b)),(iV (0:Int)),(V.ms 653 (w+1) 0 (k+1))]])) (by rfl)),(congrArg Blk.ver rfl),(Eq.trans (@rfl Blk (bz (w+1) 24 3 (List.map cF ((f.kids.take k).map (fun g=>nrm g b)++[(nrm (((nth (f.kids) (k)))) b)])))) (by (rw [mapTake (by omega)]; done))),?_⟩
   · omega
   · omega
  refine W_seq_exit (p36 _ _ _ (x5 _ _ (.done (W_r (R_lk t6 h6 rfl rfl (R_sk t4 rfl rfl h4 rfl rfl rfl rfl rfl (R_e ?_)))))))
  refine W_ret ?_
  refine RetC_1 (resV_c (u:=(V.agg [(iV (nop f.op b)),(iV (0:Int)),(V.ms 653 w 0 (k))])) t4 (@rfl Blk (bk 1 24 3 [[(iV (nop f.op b)),(iV (0:Int)),(V.ms 653 w 0 (k))]])) (lB oB rfl rfl)) (fz_agg3 (fz_int ?_) (fz_int ?_) (fz_ms h653 (by simp) (l:=((f.kids.take k).map (fun g=>nrm g b))) rfl (by (simp; omega)) (fun _=>by simp) ?_))
  · rw [nrm_node (by omega) (by omega)]; rfl
  · rw [nrm_node (by omega) (by omega)]; rfl
  · rw [nrm_node (by omega) (by omega)]; first|rfl|(show _=List.map _ f.kids; rw [show k=f.kids.length by omega,List.take_length]; done)
 have hb:b=false:=by simpa using c4
 refine W_seq_skip (W_seq_seq ?_)
 refine W_seq_g (fun T H=>T 1=(V.bool b)∧T 4=(V.mp 4 1 0 0)∧T 6=(V.mp 6 1 0 0)∧T 41=(V.sl (List.map cF (f.kids)))∧T 42=(iV ((f.kids.length:Nat):Int))∧T 43=(iV (0:Int))∧H 2=(bk 1 24 3 [[(iV (f.op)),(iV (f.arg)),(V.sl (List.map cF (f.kids)))]])∧H 4=(bk 1 24 3 [[(iV (0:Int)),(iV (0:Int)),V.nilsl]])∧H 5=(⟨0,false,false,0,0,[]⟩:Blk)∧H 6=(bk 1 24 3 [[(iV (f.op)),(iV (0:Int)),V.nilsl]])∧H 8=(⟨0,false,false,0,0,[]⟩:Blk)∧H 653=(⟨0,false,false,0,0,[]⟩:Blk)∧True) ?_ ?_
 ·
  refine R_fk rfl rfl (R_lk rfl rfl rfl rfl (R_len rfl (R_mv rfl ?_)))
  exact R_nil ⟨rfl,rfl,rfl,rfl,rfl,rfl,rfl,rfl,rfl,rfl,rfl,rfl,trivial⟩
 intro T H ⟨t1,t4,t6,t41,t42,t43,h2,h4,h5,h6,h8,h653,_⟩
 refine .lazyCell 653 24 3 6 0 2 [(iV (f.op)),(iV (0:Int)),V.nilsl] (by decide) (by rw [h6]; rfl) (by rw [h6]; rfl) rfl (.done ?_)
 refine fork_ (R:=fun T H=>T 1=(V.bool b)∧T 4=(V.mp 4 1 0 0)∧T 6=(V.mp 6 1 0 0)∧T 41=(V.sl (List.map cF (f.kids)))∧T 42=(iV ((f.kids.length:Nat):Int))∧T 43=(iV (0:Int))∧H 2=(bk 1 24 3 [[(iV (f.op)),(iV (f.arg)),(V.sl (List.map cF (f.kids)))]])∧H 4=(bk 1 24 3 [[(iV (0:Int)),(iV (0:Int)),V.nilsl]])∧H 5=(⟨0,false,false,0,0,[]⟩:Blk)∧H 6=(bk 1 24 3 [[(iV (f.op)),(iV (0:Int)),(V.ms 653 1 0 (0))]])∧H 8=(⟨0,false,false,0,0,[]⟩:Blk)∧H 653=(bz 1 24 3 [])∧True) ⟨t1,t4,t6,t41,t42,t43,((upd_ne _ _ (by decide)).trans ((upd_ne _ _ (by decide)).trans h2)),((upd_ne _ _ (by decide)).trans ((upd_ne _ _ (by decide)).trans h4)),((upd_ne _ _ (by decide)).trans ((upd_ne _ _ (by decide)).trans h5)),(by rw [upd_same,h6,(congrArg Blk.ver h653)]; rfl),((upd_ne _ _ (by decide)).trans ((upd_ne _ _ (by decide)).trans h8)),(by rw [upd_ne _ _ (by decide),upd_same,(congrArg Blk.ver h653)]),trivial⟩ ?_
 intro T H ⟨t1,t4,t6,t41,t42,t43,h2,h4,h5,h6,h8,h653,_⟩
 refine W_seq_blockg fun Q9 n9 x9 y9 z9=>?_
 refine W_loop (fun mm T H=> ∃ (k:Nat) (w:Nat) (v8:Nat),mm=f.kids.length - k∧T 1=(V.bool b)∧T 4=(V.mp 4 1 0 0)∧T 6=(V.mp 6 1 0 0)∧T 41=(V.sl (List.map cF (f.kids)))∧T 42=(iV ((f.kids.length:Nat):Int))∧T 43=(iV ((k:Nat):Int))∧H 2=(bk 1 24 3 [[(iV (f.op)),(iV (f.arg)),(V.sl (List.map cF (f.kids)))]])∧H 4=(bk 1 24 3 [[(iV (0:Int)),(iV (0:Int)),V.nilsl]])∧H 5=(⟨0,false,false,0,0,[]⟩:Blk)∧H 6=(bk 1 24 3 [[(iV (nop f.op b)),(iV (0:Int)),(V.ms 653 w 0 (k))]])∧(H 8).ver=v8∧H 653=(bz w 24 3 (List.map cF ((f.kids.take k).map (fun g=>nrm g b))))∧(k≤f.kids.length)) ?_ ?_
 ·
  refine ⟨_,0,1,0,rfl,t1,t4,t6,t41,t42,(Eq.trans t43 rfl),h2,h4,h5,(Eq.trans h6 (by (exact bk_op (by simp only [nop,dualI,hb,if_true,Bool.false_eq_true,if_false]; repeat (first|rfl|omega|split))))),(congrArg Blk.ver h8),(Eq.trans h653 (by rfl)),?_⟩
  · omega
 intro mm T H ⟨k,w,v8,hmm,t1,t4,t6,t41,t42,t43,h2,h4,h5,h6,h8,h653,hk⟩ Q10 p110 p210 p310
 unfold b37_0
 refine W_r (R_lss t43 t42 (R_e ?_))
 refine W_seq_if rfl (fun c11=>?_) fun c11=>?_
 ·
  refine W_seq_skip (W_seq_blockg fun Q12 n12 x12 y12 z12=>(W_r (R_idxu (i:=k) t41 t43 (by omega) (cF_eq _) rfl (R_load_pp rfl rfl (R_alloc (i:=8) (n:=v8) (m:=3) rfl h8 rfl (R_sk rfl rfl rfl rfl rfl rfl rfl rfl rfl (R_e ?_)))))))
  refine W_t (R_fk t6 h6 (R_lk rfl h6 rfl rfl (R_lk rfl rfl rfl rfl (R_mv t1 (R_callk (ih (((nth (f.kids) (k)))) b (Fm.sz_kid (by omega)) (hp.2 _ (by omega)) (Nat.le_trans (Nat.le_of_lt (Fm.sz_kid (by omega))) hz)) rfl (R_bslice rfl rfl (R_append1 (l:=((f.kids.take k).map (fun g=>nrm g b))) (f:=cF) (x:=((nrm (((nth (f.kids) (k)))) b))) (@rfl V (V.ms 653 w 0 (k))) h653 (by (simp; omega)) (row_F1 (x:=((nrm (((nth (f.kids) (k)))) b))) (@rfl V (V.sl [[(iV ((nrm (((nth (f.kids) (k)))) b).op)),(iV ((nrm (((nth (f.kids) (k)))) b).arg)),(V.sl (List.map cF ((nrm (((nth (f.kids) (k)))) b).kids)))]]))) (cF_len _) (cF_one _) (by omega) (by omega) ?_)))))))
  refine R_fk t6 h6 (R_sk rfl rfl rfl h6 rfl rfl rfl rfl rfl (R_e (n12 _ _ (.done (W_t (R_addN t43 (@rfl V (iV ((1:Nat):Int))) (by omega) (R_mv rfl ?_)))))))
  refine R_e ?_
  refine p110 _ _ _ ?_ ⟨(k+1),(w+1),(v8+1),rfl,t1,t4,t6,t41,t42,(Eq.trans (@rfl V (iV ((k+1:Nat):Int))) (by rfl)),h2,h4,h5,(Eq.trans (@rfl Blk (bk 1 24 3 [[(iV (nop f.op b)),(iV (0:Int)),(V.ms 653 (w+1) 0 (k+1))]])) (by rfl)),(congrArg Blk.ver rfl),(Eq.trans (@rfl Blk (bz (w+1) 24 3 (List.map cF ((f.kids.take k).map (fun g=>nrm g b)++[(nrm (((nth (f.kids) (k)))) b)])))) (by (rw [mapTake (by omega)]; done))),?_⟩
  · omega
  · omega
 refine W_seq_exit (p310 _ _ _ (x9 _ _ (.done (W_r (R_lk t6 h6 rfl rfl (R_sk t4 rfl rfl h4 rfl rfl rfl rfl rfl (R_e ?_)))))))
 refine W_ret ?_
 refine RetC_1 (resV_c (u:=(V.agg [(iV (nop f.op b)),(iV (0:Int)),(V.ms 653 w 0 (k))])) t4 (@rfl Blk (bk 1 24 3 [[(iV (nop f.op b)),(iV (0:Int)),(V.ms 653 w 0 (k))]])) (lB oB rfl rfl)) (fz_agg3 (fz_int ?_) (fz_int ?_) (fz_ms h653 (by simp) (l:=((f.kids.take k).map (fun g=>nrm g b))) rfl (by (simp; omega)) (fun _=>by simp) ?_))
 · rw [nrm_node (by omega) (by omega)]; rfl
 · rw [nrm_node (by omega) (by omega)]; rfl
 · rw [nrm_node (by omega) (by omega)]; first|rfl|(show _=List.map _ f.kids; rw [show k=f.kids.length by omega,List.take_length]; done)
theorem mnormal_pure (f:Fm) (b:Bool) (hf:okF f=true) (hz:f.sz≤4096):PureC Tryz.prog 37 [(V.agg [(iV (f.op)),(iV (f.arg)),(V.sl (List.map cF (f.kids)))]),(V.bool b)] (V.agg [(iV ((nrm f b).op)),(iV ((nrm f b).arg)),(V.sl (List.map cF ((nrm f b).kids)))]):=by
  have key: ∀ (mm:Nat) (f:Fm) (b:Bool),f.sz < mm→okF f=true→f.sz≤4096→PureC Tryz.prog 37 [(V.agg [(iV (f.op)),(iV (f.arg)),(V.sl (List.map cF (f.kids)))]),(V.bool b)] (V.agg [(iV ((nrm f b).op)),(iV ((nrm f b).arg)),(V.sl (List.map cF ((nrm f b).kids)))]):=by
    intro mm
    induction mm with
    |zero=>intro f b hlt; exact absurd hlt (Nat.not_lt_zero _)
    | succ mm ih =>
      intro f b hlt hf hz
      exact mnormal_pure_step f b hf hz fun f2 b2 hlt2=>ih f2 b2 (by omega)
  exact key (f.sz+1) f b (Nat.lt_succ_self _) hf hz
theorem simplify_pure (f:Fm):PureC Tryz.prog 11 [(V.agg [(iV (f.op)),(iV (f.arg)),(V.sl (List.map cF (f.kids)))])] (V.tup [(V.agg [(iV ((simp_ f).1.op)),(iV ((simp_ f).1.arg)),(V.sl (List.map cF ((simp_ f).1.kids)))]),(iV ((simp_ f).2))]):=by
 refine pW Tryz.func11 s11_ok fun hB=>?_
 unfold s11
 dsimp only
 refine W_r (R_box (i:=1) (n:=0) (m:=3) (cs:=[(iV (f.op)),(iV (f.arg)),(V.sl (List.map cF (f.kids)))]) rfl (congrArg Blk.ver rfl) rfl rfl rfl (R_alloc (i:=2) (n:=0) (m:=3) rfl (congrArg Blk.ver rfl) rfl (R_mv rfl (R_e (W_seq_seq (W_r (R_lk rfl rfl rfl rfl ?_)))))))
 refine R_callk (fvalid_pure f) rfl (R_mv rfl (R_e (W_seq_seq (W_r (R_mv rfl (R_neq rfl rfl (R_e ?_)))))))
 refine W_seq_if rfl (fun c1=>?_) fun c1=>?_
 ·
  have d1:=simp_e c1
  refine W_seq_seq (W_r (R_build rfl rfl (R_mv rfl (R_sk rfl rfl rfl rfl rfl rfl rfl rfl rfl (R_mv rfl (R_e (W_seq_ret ?_)))))))
  refine RetC_2 (resV_c (u:=(V.agg [(iV (0:Int)),(iV (0:Int)),V.nilsl])) rfl (@rfl Blk (bk 1 24 3 [[(iV (0:Int)),(iV (0:Int)),V.nilsl]])) (lB oB rfl rfl)) (resV_t (@rfl V (iV (fval f)))) (fz_agg3 (fz_int ?_) (fz_int ?_) (fz_nil ?_)) (fz_int ?_)
  · rw [d1]; rfl
  · rw [d1]; rfl
  · rw [d1]; rfl
  · rw [d1]
 have d1:=simp_g c1
 refine W_seq_skip (W_r (R_lk rfl rfl rfl rfl (R_callk (mnormal_pure f false (fval_ok (by omega)) (fval_sz (by omega))) rfl (R_callk (checked_pure ((nrm f false)) (nrm_ok f (fval_ok (by omega)) false) (Nat.le_trans (nrm_sz f false) (by have:=fval_sz (f:=f) (by omega); omega))) rfl (R_ext rfl rfl (R_ext rfl rfl (R_sk rfl rfl rfl rfl rfl rfl rfl rfl rfl ?_)))))))
 refine R_mv rfl (R_e (W_ret ?_))
 refine RetC_2 (resV_c (u:=(V.agg [(iV ((chk ((nrm f false))).1.op)),(iV ((chk ((nrm f false))).1.arg)),(V.sl (List.map cF ((chk ((nrm f false))).1.kids)))])) rfl (@rfl Blk (bk 1 24 3 [[(iV ((chk ((nrm f false))).1.op)),(iV ((chk ((nrm f false))).1.arg)),(V.sl (List.map cF ((chk ((nrm f false))).1.kids)))]])) (lB oB rfl rfl)) (resV_t (@rfl V (iV ((chk ((nrm f false))).2)))) (fz_agg3 (fz_int ?_) (fz_int ?_) (fz_sl ?_ (fun _=>by simp))) (fz_int ?_)
 · rw [d1]
 · rw [d1]
 · rw [d1]
 · rw [d1]
def r13_4:List SO:=[
 qM 17 1,
 qC 18 .lss 17 0,
 qM 19 18,
 ⟨some (19,false),some 20,.mv (.t 1)⟩,
 ⟨some (19,false),some 21,.bin .geq (.t 20) (.c (.int .i64 64))⟩,
 sO 22 (.pick (.t 19) (.c (.bool true)) (.t 21)),
 qM 23 22,
 ⟨some (23,false),some 24,.mv (.t 2)⟩,
 ⟨some (23,false),some 25,.bin .lss (.t 24) (.c (.int .i64 0))⟩,
 sO 26 (.pick (.t 23) (.c (.bool true)) (.t 25)),
 qM 27 26,
 ⟨some (27,false),some 28,.mv (.t 2)⟩,
 ⟨some (27,false),some 29,.bin .gtr (.t 28) (.c (.int .i64 1048576))⟩,
 sO 30 (.pick (.t 27) (.c (.bool true)) (.t 29))]
def r13_6:List SO:=[
 qL 33 3 3,
 sO 34 (.call false 11 [.t 33]),
 qM 32 34,
 qE 35 32 0,
 qE 36 32 1,
 sO 9 (.alloc 24 [.int .i64 0,.int .i64 0,.nilsl]),
 sN (.store 3 (.t 9) (.t 35)),
 qM 10 36]
def r13_9:List SO:=[
 qL 41 3 9,
 qM 42 1,
 qM 43 2,
 sO 44 (.call false 40 [.t 41,.t 42,.t 43]),
 sO 45 (.call false 36 [.t 44]),
 qE 46 45 0,
 qE 47 45 1,
 sN (.store 3 (.t 6) (.t 46)),
 qM 7 47]
def s13:SF:=⟨48,[.cell 6 true 3,.tmp 7],.seq (.reg [sO 3 (.box 24 3 (.t 0)),sO 6 (.alloc 24 [.int .i64 0,.int .i64 0,.nilsl]),qI 7 0]) (.seq (.seq (.reg [qL 11 3 3,sO 12 (.call false 35 [.t 11]),qM 8 12]) (.seq (.reg [qM 13 8,qC 14 .neq 13 0]) (.cond (.t 14) (.seq (.reg [sO 15 (.build [.int .i64 0,.int .i64 0,.nilsl] []),qM 16 8,sN (.store 3 (.t 6) (.t 15)),qM 7 16]) (.ret)) (.skip)))) (.seq (.seq (.reg r13_4) (.cond (.t 30) (.seq (.reg [sO 31 (.build [.int .i64 0,.int .i64 0,.nilsl] []),sN (.store 3 (.t 6) (.t 31)),qI 7 2]) (.ret)) (.skip))) (.seq (.reg r13_6) (.seq (.seq (.reg [qM 37 10,qC 38 .neq 37 0]) (.cond (.t 38) (.seq (.reg [sO 39 (.build [.int .i64 0,.int .i64 0,.nilsl] []),qM 40 10,sN (.store 3 (.t 6) (.t 39)),qM 7 40]) (.ret)) (.skip))) (.seq (.reg r13_9) (.ret))))))⟩
theorem s13_ok:slimF Tryz.prog ⟨[51,59,84,90,97,109,153,154,155,160],[],[],[]⟩ Tryz.f13=some s13:=by kernel_rfl
def r40_8:List SO:=[
 qF 33 0 7,
 ql 34 33,
 qC 35 .eql 34 2,
 qM 36 35,
 ⟨some (36,true),some 37,.fld 1 (.t 7)⟩,
 ⟨some (36,true),some 38,.load false 1 (.t 37)⟩,
 ⟨some (36,true),some 39,.mv (.t 1)⟩,
 ⟨some (36,true),some 40,.bin .neq (.t 38) (.t 39)⟩,
 sO 41 (.pick (.t 36) (.t 40) (.c (.bool false))),
 qM 42 41,
 ⟨some (42,false),some 43,.fld 0 (.t 7)⟩,
 ⟨some (42,false),some 44,.load false 1 (.t 43)⟩,
 ⟨some (42,false),some 45,.bin .eql (.t 44) (.c (.int .i64 3))⟩,
 ⟨some (42,false),some 46,.mv (.t 45)⟩,
 ⟨some (46,true),some 47,.fld 1 (.t 7)⟩,
 ⟨some (46,true),some 48,.load false 1 (.t 47)⟩,
 ⟨some (46,true),some 49,.mv (.t 2)⟩,
 ⟨some (46,true),some 50,.bin .neq (.t 48) (.t 49)⟩,
 ⟨some (42,false),some 51,.pick (.t 46) (.t 50) (.c (.bool false))⟩,
 sO 52 (.pick (.t 42) (.c (.bool true)) (.t 51)),
 sO 53 (.call false 66 [.t 52]),
 sN (.store 3 (.t 6) (.t 53))]
def r40_13:List SO:=[
 qF 63 2 3,
 ql 64 63,
 sO 65 (.idx 3 (.t 64) (.c (.int .i64 1))),
 qL 66 3 65,
 qM 67 1,
 qM 68 2,
 sO 69 (.call false 40 [.t 66,.t 67,.t 68]),
 qF 70 2 3,
 ql 71 70,
 sO 72 (.idx 3 (.t 71) (.c (.int .i64 0))),
 qL 73 3 72,
 qM 74 1,
 qM 75 2,
 sO 76 (.call false 40 [.t 73,.t 74,.t 75]),
 qL 77 3 3,
 sO 78 (.bslice 24 3 false [.int .i64 0,.int .i64 0,.nilsl] 2 [(0,.t 76),(1,.t 77)]),
 sO 79 (.call false 67 [.c (.int .i64 5),.t 78]),
 sO 80 (.bslice 24 3 false [.int .i64 0,.int .i64 0,.nilsl] 2 [(0,.t 69),(1,.t 79)]),
 sO 81 (.call false 67 [.c (.int .i64 6),.t 80]),
 sN (.store 3 (.t 6) (.t 81))]
def r40_15:List SO:=[
 qF 84 2 3,
 ql 85 84,
 sO 86 (.idx 3 (.t 85) (.c (.int .i64 1))),
 qL 87 3 86,
 qM 88 1,
 qM 89 2,
 sO 90 (.call false 40 [.t 87,.t 88,.t 89]),
 qF 91 2 3,
 ql 92 91,
 sO 93 (.idx 3 (.t 92) (.c (.int .i64 0))),
 qL 94 3 93,
 qM 95 1,
 qM 96 2,
 sO 97 (.call false 40 [.t 94,.t 95,.t 96]),
 qL 98 3 3,
 sO 99 (.bslice 24 3 false [.int .i64 0,.int .i64 0,.nilsl] 2 [(0,.t 97),(1,.t 98)]),
 sO 100 (.call false 67 [.c (.int .i64 6),.t 99]),
 sO 101 (.bslice 24 3 false [.int .i64 0,.int .i64 0,.nilsl] 2 [(0,.t 90),(1,.t 100)]),
 sO 102 (.call false 67 [.c (.int .i64 5),.t 101]),
 sN (.store 3 (.t 6) (.t 102))]
def r40_20:List SO:=[
 qF 113 2 8,
 ql 114 113,
 qL 115 3 10,
 qM 116 1,
 qM 117 2,
 sO 118 (.call false 40 [.t 115,.t 116,.t 117]),
 sO 119 (.bslice 24 3 false [.int .i64 0,.int .i64 0,.nilsl] 1 [(0,.t 118)]),
 sO 120 (.append 24 3 40 (.t 114) (.t 119)),
 qF 121 2 8,
 sN (.store 1 (.t 121) (.t 120))]
def b40_0:SC:=.seq (.reg [qP 110 .lss 109 108]) (.seq (.cond (.t 110) (.skip) (.exit 1)) (.seq (.block 2 (.seq (.reg [qA 111 3 107 109,qL 112 3 111,sO 10 (.alloc 24 [.int .i64 0,.int .i64 0,.nilsl]),sN (.store 3 (.t 10) (.t 112))]) (.reg r40_20))) (.reg [qC 122 .add 109 1,qM 109 122])))
def s40:SF:=⟨124,[.cell 6 true 3],.seq (.reg [sO 3 (.box 24 3 (.t 0)),sO 6 (.alloc 24 [.int .i64 0,.int .i64 0,.nilsl])]) (.seq (.seq (.reg [qF 11 0 3,ql 12 11]) (.block 0 (.seq (.reg [qC 14 .eql 12 2,qM 13 14]) (.cond (.t 13) (.seq (.reg [qF 15 1 3,ql 16 15,qM 17 1,qP 18 .eql 16 17,sO 19 (.call false 66 [.t 18]),sN (.store 3 (.t 6) (.t 19))]) (.ret)) (.seq (.reg [qC 21 .eql 12 3,qM 20 21]) (.cond (.t 20) (.seq (.reg [qF 22 1 3,ql 23 22,qM 24 2,qP 25 .eql 23 24,sO 26 (.call false 66 [.t 25]),sN (.store 3 (.t 6) (.t 26))]) (.ret)) (.seq (.reg [qC 28 .eql 12 4,qM 27 28]) (.cond (.t 27) (.seq (.reg [qF 29 2 3,ql 30 29,sO 31 (.idx 3 (.t 30) (.c (.int .i64 0))),qL 32 3 31,sO 7 (.alloc 24 [.int .i64 0,.int .i64 0,.nilsl]),sN (.store 3 (.t 7) (.t 32))]) (.seq (.reg r40_8) (.ret))) (.seq (.seq (.reg [qC 55 .eql 12 7,qM 54 55]) (.cond (.t 54) (.skip) (.reg [qC 56 .eql 12 9,qM 54 56]))) (.cond (.t 54) (.seq (.reg [qF 57 2 3,ql 58 57,sO 59 (.idx 3 (.t 58) (.c (.int .i64 0))),qL 60 3 59,sN (.store 3 (.t 6) (.t 60))]) (.ret)) (.seq (.reg [qC 62 .eql 12 8,qM 61 62]) (.cond (.t 61) (.seq (.reg r40_13) (.ret)) (.seq (.reg [qC 83 .eql 12 10,qM 82 83]) (.cond (.t 82) (.seq (.reg r40_15) (.ret)) (.skip))))))))))))))) (.seq (.reg [qF 103 0 3,ql 104 103,sO 105 (.build [.int .i64 0,.int .i64 0,.nilsl] [(0,1,.t 104)]),sO 8 (.alloc 24 [.int .i64 0,.int .i64 0,.nilsl]),sN (.store 3 (.t 8) (.t 105))]) (.seq (.seq (.reg [qF 106 2 3,ql 107 106,qN 108 107,qI 109 0]) (.block 1 (.loop b40_0))) (.seq (.reg [qL 123 3 8,sN (.store 3 (.t 6) (.t 123))]) (.ret)))))⟩
theorem s40_ok:slimF Tryz.prog ⟨[51,59,84,90,97,109,153,154,155,160],[],[],[]⟩ Tryz.f40=some s40:=by kernel_rfl
def s66:SF:=⟨6,[.cell 2 true 3],.seq (.reg [sO 2 (.alloc 24 [.int .i64 0,.int .i64 0,.nilsl])]) (.seq (.seq (.reg [qM 3 0]) (.cond (.t 3) (.seq (.reg [sO 4 (.call false 89 []),sN (.store 3 (.t 2) (.t 4))]) (.ret)) (.skip))) (.seq (.reg [sO 5 (.call false 88 []),sN (.store 3 (.t 2) (.t 5))]) (.ret)))⟩
theorem s66_ok:slimF Tryz.prog ⟨[51,59,84,90,97,109,153,154,155,160],[],[],[]⟩ Tryz.f66=some s66:=by kernel_rfl
theorem truth_pure (b:Bool):PureC Tryz.prog 66 [(V.bool b)] (V.agg [(iV ((trF b).op)),(iV ((trF b).arg)),(V.sl (List.map cF ((trF b).kids)))]):=by
 refine pW Tryz.func66 s66_ok fun hB=>?_
 unfold s66
 dsimp only
 refine W_r (R_alloc (i:=2) (n:=0) (m:=3) rfl (congrArg Blk.ver rfl) rfl (R_e (W_seq_seq (W_r (R_mv rfl (R_e ?_))))))
 refine W_seq_ifb rfl (fun c1=>?_) (fun c1=>?_)
 ·
  refine W_seq_seq (W_r (R_callk (myes_pure) rfl (R_sk rfl rfl rfl rfl rfl rfl rfl rfl rfl (R_e (W_seq_ret ?_)))))
  refine RetC_1 (resV_c (u:=(V.agg [(iV (1:Int)),(iV (0:Int)),(V.sl (List.map cF ([])))])) rfl (@rfl Blk (bk 1 24 3 [[(iV (1:Int)),(iV (0:Int)),(V.sl (List.map cF ([])))]])) (lB oB rfl rfl)) (fz_agg3 (fz_int ?_) (fz_int ?_) (fz_sl ?_ (fun _=>by simp)))
  · cases b <;> first|rfl|(simp_all; done)
  · cases b <;> first|rfl|(simp_all; done)
  · cases b <;> first|rfl|(simp_all; done)
 refine W_seq_skip (W_r (R_callk (mno_pure) rfl (R_sk rfl rfl rfl rfl rfl rfl rfl rfl rfl (R_e (W_ret ?_)))))
 refine RetC_1 (resV_c (u:=(V.agg [(iV (4:Int)),(iV (0:Int)),(V.sl (List.map cF ([Fm.nd 1 0 []])))])) rfl (@rfl Blk (bk 1 24 3 [[(iV (4:Int)),(iV (0:Int)),(V.sl (List.map cF ([Fm.nd 1 0 []])))]])) (lB oB rfl rfl)) (fz_agg3 (fz_int ?_) (fz_int ?_) (fz_sl ?_ (fun _=>by simp)))
 · cases b <;> first|rfl|(simp_all; done)
 · cases b <;> first|rfl|(simp_all; done)
 · cases b <;> first|rfl|(simp_all; done)
theorem after_pure_step (f:Fm) (a o:Int) (hok:okF f=true) (hz:f.sz≤4096) (ih: ∀ (g:Fm) (a o:Int),g.sz < f.sz→okF g=true→g.sz≤4096→PureC Tryz.prog 40 [(V.agg [(iV (g.op)),(iV (g.arg)),(V.sl (List.map cF (g.kids)))]),(iV (a)),(iV (o))] (V.agg [(iV ((mst g a o).op)),(iV ((mst g a o).arg)),(V.sl (List.map cF ((mst g a o).kids)))])):PureC Tryz.prog 40 [(V.agg [(iV (f.op)),(iV (f.arg)),(V.sl (List.map cF (f.kids)))]),(iV (a)),(iV (o))] (V.agg [(iV ((mst f a o).op)),(iV ((mst f a o).arg)),(V.sl (List.map cF ((mst f a o).kids)))]):=by
 refine pW Tryz.func40 s40_ok fun hB=>?_
 unfold s40
 dsimp only
 have hp:=okF_parts hok
 have hr:=rgt_ok hp.1
 have hln:=f.sz_len
 refine W_r (R_box (i:=3) (n:=0) (m:=3) (cs:=[(iV (f.op)),(iV (f.arg)),(V.sl (List.map cF (f.kids)))]) rfl (congrArg Blk.ver rfl) rfl rfl rfl (R_alloc (i:=6) (n:=0) (m:=3) rfl (congrArg Blk.ver rfl) rfl (R_e (W_seq_seq (W_r (R_fk rfl rfl (R_lk rfl rfl rfl rfl ?_)))))))
 refine R_e (W_seq_blockg fun Q1 n1 x1 y1 z1=>(W_r (R_eql rfl rfl (R_mv rfl (R_e ?_)))))
 refine W_if rfl (fun c2=>?_) fun c2=>?_
 ·
  refine W_r (R_fk rfl rfl (R_lk rfl rfl rfl rfl (R_mv rfl (R_eql rfl rfl (R_callk (truth_pure ((decide ((f.arg)=(a))))) rfl (R_sk rfl rfl rfl rfl rfl rfl rfl rfl rfl (R_e ?_)))))))
  refine W_ret (y1 _ _ ?_)
  refine RetC_1 (resV_c (u:=(V.agg [(iV ((trF ((decide ((f.arg)=(a))))).op)),(iV ((trF ((decide ((f.arg)=(a))))).arg)),(V.sl (List.map cF ((trF ((decide ((f.arg)=(a))))).kids)))])) rfl (@rfl Blk (bk 1 24 3 [[(iV ((trF ((decide ((f.arg)=(a))))).op)),(iV ((trF ((decide ((f.arg)=(a))))).arg)),(V.sl (List.map cF ((trF ((decide ((f.arg)=(a))))).kids)))]])) (lB oB rfl rfl)) (fz_agg3 (fz_int ?_) (fz_int ?_) (fz_sl ?_ (fun _=>by simp)))
  · rw [mst_2 (f:=f) (by omega)]
  · rw [mst_2 (f:=f) (by omega)]
  · rw [mst_2 (f:=f) (by omega)]
 refine W_r (R_eql rfl rfl (R_mv rfl (R_e ?_)))
 refine W_if rfl (fun c3=>?_) fun c3=>?_
 ·
  refine W_r (R_fk rfl rfl (R_lk rfl rfl rfl rfl (R_mv rfl (R_eql rfl rfl (R_callk (truth_pure ((decide ((f.arg)=(o))))) rfl (R_sk rfl rfl rfl rfl rfl rfl rfl rfl rfl (R_e ?_)))))))
  refine W_ret (y1 _ _ ?_)
  refine RetC_1 (resV_c (u:=(V.agg [(iV ((trF ((decide ((f.arg)=(o))))).op)),(iV ((trF ((decide ((f.arg)=(o))))).arg)),(V.sl (List.map cF ((trF ((decide ((f.arg)=(o))))).kids)))])) rfl (@rfl Blk (bk 1 24 3 [[(iV ((trF ((decide ((f.arg)=(o))))).op)),(iV ((trF ((decide ((f.arg)=(o))))).arg)),(V.sl (List.map cF ((trF ((decide ((f.arg)=(o))))).kids)))]])) (lB oB rfl rfl)) (fz_agg3 (fz_int ?_) (fz_int ?_) (fz_sl ?_ (fun _=>by simp)))
  · rw [mst_3 (f:=f) (by omega)]
  · rw [mst_3 (f:=f) (by omega)]
  · rw [mst_3 (f:=f) (by omega)]
 refine W_r (R_eql rfl rfl (R_mv rfl (R_e ?_)))
 refine W_if rfl (fun c4=>?_) fun c4=>?_
 ·
  refine W_r (R_fk rfl rfl (R_lk rfl rfl rfl rfl (R_idxu (i:=0) (@rfl V (V.sl (List.map cF (f.kids)))) (@rfl V (iV ((0:Nat):Int))) (by omega) (cF_eq _) rfl (R_load_pp rfl rfl (R_alloc (i:=7) (n:=0) (m:=3) rfl (congrArg Blk.ver rfl) rfl (R_sk rfl rfl rfl rfl rfl rfl rfl rfl rfl (R_e ?_)))))))
  refine W_r (R_fk rfl rfl (R_lk rfl rfl rfl rfl (R_eql rfl rfl (R_mv rfl ?_))))
  refine Ops_seg 5 (fun T H=>T 2=(iV (o))∧T 6=(V.mp 6 1 0 0)∧T 7=(V.mp 7 1 0 0)∧T 41=(V.bool (decide (((((nth (f.kids) (0))).op)=(2:Int))∧((((nth (f.kids) (0))).arg)≠(a)))))∧H 3=(bk 1 24 3 [[(iV (f.op)),(iV (f.arg)),(V.sl (List.map cF (f.kids)))]])∧H 6=(bk 1 24 3 [[(iV (0:Int)),(iV (0:Int)),V.nilsl]])∧H 7=(bk 1 24 3 [[(iV (((nth (f.kids) (0))).op)),(iV (((nth (f.kids) (0))).arg)),(V.sl (List.map cF (((nth (f.kids) (0))).kids)))]])∧H 8=(⟨0,false,false,0,0,[]⟩:Blk)∧H 10=(⟨0,false,false,0,0,[]⟩:Blk)∧H 708=(⟨0,false,false,0,0,[]⟩:Blk)∧True) ?_ ?_
  ·
   by_cases g5:(((nth (f.kids) (0))).op)=(2:Int)
   ·
    refine G_yes (edT g5 rfl) (R_fk rfl rfl (G_yes (edT g5 rfl) (R_lk rfl rfl rfl rfl (G_yes (edT g5 rfl) (R_mv rfl (G_yes (edT g5 rfl) (R_neq rfl rfl ?_)))))))
    refine R_pickT (edT g5 rfl) rfl ?_
    exact ⟨rfl,rfl,rfl,(dec_andT g5),rfl,rfl,rfl,rfl,rfl,rfl,trivial⟩
   ·
    refine G_n (edF g5 rfl) (G_n (edF g5 rfl) (G_n (edF g5 rfl) (G_n (edF g5 rfl) (R_pickF (edF g5 rfl) rfl ?_))))
    exact ⟨rfl,rfl,rfl,(dec_andF g5),rfl,rfl,rfl,rfl,rfl,rfl,trivial⟩
  intro T H ⟨t2,t6,t7,t41,h3,h6,h7,h8,h10,h708,_⟩
  refine R_mv t41 ?_
  refine Ops_seg 10 (fun T H=>T 6=(V.mp 6 1 0 0)∧T 52=(V.bool (decide ((((((nth (f.kids) (0))).op)=(2:Int))∧((((nth (f.kids) (0))).arg)≠(a)))∨(((((nth (f.kids) (0))).op)=(3:Int))∧((((nth (f.kids) (0))).arg)≠(o))))))∧H 3=(bk 1 24 3 [[(iV (f.op)),(iV (f.arg)),(V.sl (List.map cF (f.kids)))]])∧H 6=(bk 1 24 3 [[(iV (0:Int)),(iV (0:Int)),V.nilsl]])∧H 7=(bk 1 24 3 [[(iV (((nth (f.kids) (0))).op)),(iV (((nth (f.kids) (0))).arg)),(V.sl (List.map cF (((nth (f.kids) (0))).kids)))]])∧H 8=(⟨0,false,false,0,0,[]⟩:Blk)∧H 10=(⟨0,false,false,0,0,[]⟩:Blk)∧H 708=(⟨0,false,false,0,0,[]⟩:Blk)∧True) ?_ ?_
  ·
   by_cases g6:((((nth (f.kids) (0))).op)=(2:Int))∧((((nth (f.kids) (0))).arg)≠(a))
   ·
    refine G_n (edT g6 rfl) (G_n (edT g6 rfl) (G_n (edT g6 rfl) (G_n (edT g6 rfl) (G_raw (@rfl V (V.raw undef)) (G_raw (@rfl V (V.raw undef)) (G_raw (@rfl V (V.raw undef)) (G_raw (@rfl V (V.raw undef)) ?_)))))))
    refine G_n (edT g6 rfl) (R_pickT (edT g6 rfl) rfl ?_)
    exact ⟨t6,(dec_orT g6),h3,h6,h7,h8,h10,h708,trivial⟩
   ·
    refine G_yes (edF g6 rfl) (R_fk t7 h7 (G_yes (edF g6 rfl) (R_lk rfl h7 rfl rfl (G_yes (edF g6 rfl) (R_eql rfl rfl (G_yes (edF g6 rfl) (R_mv rfl ?_)))))))
    refine Ops_seg 5 (fun T H=>T 6=(V.mp 6 1 0 0)∧T 42=(V.bool false)∧T 51=(V.bool (decide (((((nth (f.kids) (0))).op)=(3:Int))∧((((nth (f.kids) (0))).arg)≠(o)))))∧H 3=(bk 1 24 3 [[(iV (f.op)),(iV (f.arg)),(V.sl (List.map cF (f.kids)))]])∧H 6=(bk 1 24 3 [[(iV (0:Int)),(iV (0:Int)),V.nilsl]])∧H 7=(bk 1 24 3 [[(iV (((nth (f.kids) (0))).op)),(iV (((nth (f.kids) (0))).arg)),(V.sl (List.map cF (((nth (f.kids) (0))).kids)))]])∧H 8=(⟨0,false,false,0,0,[]⟩:Blk)∧H 10=(⟨0,false,false,0,0,[]⟩:Blk)∧H 708=(⟨0,false,false,0,0,[]⟩:Blk)∧True) ?_ ?_
    ·
     by_cases g7:(((nth (f.kids) (0))).op)=(3:Int)
     ·
      refine G_yes (edT g7 rfl) (R_fk t7 h7 (G_yes (edT g7 rfl) (R_lk rfl h7 rfl rfl (G_yes (edT g7 rfl) (R_mv t2 (G_yes (edT g7 rfl) (R_neq rfl rfl ?_)))))))
      refine G_yes (edF g6 rfl) (R_pickT (edT g7 rfl) rfl ?_)
      exact ⟨t6,(edF g6 rfl),(dec_andT g7),h3,h6,h7,h8,h10,h708,trivial⟩
     ·
      refine G_n (edF g7 rfl) (G_n (edF g7 rfl) (G_n (edF g7 rfl) (G_n (edF g7 rfl) (G_yes (edF g6 rfl) (R_pickF (edF g7 rfl) rfl ?_)))))
      exact ⟨t6,(edF g6 rfl),(dec_andF g7),h3,h6,h7,h8,h10,h708,trivial⟩
    intro T H ⟨t6,t42,t51,h3,h6,h7,h8,h10,h708,_⟩
    refine R_pickF t42 t51 ?_
    exact ⟨t6,(dec_orF g6),h3,h6,h7,h8,h10,h708,trivial⟩
  intro T H ⟨t6,t52,h3,h6,h7,h8,h10,h708,_⟩
  refine R_callk (truth_pure ((decide ((((((nth (f.kids) (0))).op)=(2:Int))∧((((nth (f.kids) (0))).arg)≠(a)))∨(((((nth (f.kids) (0))).op)=(3:Int))∧((((nth (f.kids) (0))).arg)≠(o))))))) (evcons t52 evnil) (R_sk t6 rfl rfl h6 rfl rfl rfl rfl rfl (R_e (W_ret (y1 _ _ ?_))))
  refine RetC_1 (resV_c (u:=(V.agg [(iV ((trF ((decide ((((((nth (f.kids) (0))).op)=(2:Int))∧((((nth (f.kids) (0))).arg)≠(a)))∨(((((nth (f.kids) (0))).op)=(3:Int))∧((((nth (f.kids) (0))).arg)≠(o))))))).op)),(iV ((trF ((decide ((((((nth (f.kids) (0))).op)=(2:Int))∧((((nth (f.kids) (0))).arg)≠(a)))∨(((((nth (f.kids) (0))).op)=(3:Int))∧((((nth (f.kids) (0))).arg)≠(o))))))).arg)),(V.sl (List.map cF ((trF ((decide ((((((nth (f.kids) (0))).op)=(2:Int))∧((((nth (f.kids) (0))).arg)≠(a)))∨(((((nth (f.kids) (0))).op)=(3:Int))∧((((nth (f.kids) (0))).arg)≠(o))))))).kids)))])) t6 (@rfl Blk (bk 1 24 3 [[(iV ((trF ((decide ((((((nth (f.kids) (0))).op)=(2:Int))∧((((nth (f.kids) (0))).arg)≠(a)))∨(((((nth (f.kids) (0))).op)=(3:Int))∧((((nth (f.kids) (0))).arg)≠(o))))))).op)),(iV ((trF ((decide ((((((nth (f.kids) (0))).op)=(2:Int))∧((((nth (f.kids) (0))).arg)≠(a)))∨(((((nth (f.kids) (0))).op)=(3:Int))∧((((nth (f.kids) (0))).arg)≠(o))))))).arg)),(V.sl (List.map cF ((trF ((decide ((((((nth (f.kids) (0))).op)=(2:Int))∧((((nth (f.kids) (0))).arg)≠(a)))∨(((((nth (f.kids) (0))).op)=(3:Int))∧((((nth (f.kids) (0))).arg)≠(o))))))).kids)))]])) (lB oB rfl rfl)) (fz_agg3 (fz_int ?_) (fz_int ?_) (fz_sl ?_ (fun _=>by simp)))
  · rw [mst_4 (f:=f) (by omega)]; rfl
  · rw [mst_4 (f:=f) (by omega)]; rfl
  · rw [mst_4 (f:=f) (by omega)]; rfl
 refine W_seq_seq (W_r (R_eql rfl rfl (R_mv rfl (R_e ?_))))
 refine W_seq_if rfl (fun c8=>?_) fun c8=>?_
 ·
  refine W_seq_skip ?_
  refine W_if rfl (fun c9=>?_) fun c9=>?_
  ·
   refine W_r (R_fk rfl rfl (R_lk rfl rfl rfl rfl (R_idxu (i:=0) (@rfl V (V.sl (List.map cF (f.kids)))) (@rfl V (iV ((0:Nat):Int))) (by omega) (cF_eq _) rfl (R_load_pp rfl rfl (R_sk rfl rfl rfl rfl rfl rfl rfl rfl rfl (R_e (W_ret ?_)))))))
   refine y1 _ _ ?_
   refine RetC_1 (resV_c (u:=(V.agg [(iV (((nth (f.kids) (0))).op)),(iV (((nth (f.kids) (0))).arg)),(V.sl (List.map cF (((nth (f.kids) (0))).kids)))])) rfl (@rfl Blk (bk 1 24 3 [[(iV (((nth (f.kids) (0))).op)),(iV (((nth (f.kids) (0))).arg)),(V.sl (List.map cF (((nth (f.kids) (0))).kids)))]])) (lB oB rfl rfl)) (fz_agg3 (fz_int ?_) (fz_int ?_) (fz_sl ?_ (fun _=>by simp)))
   · rw [mst_79 (f:=f) (by omega)]
   · rw [mst_79 (f:=f) (by omega)]
   · rw [mst_79 (f:=f) (by omega)]
  · exact (c9 c8).elim
 refine W_r (R_eql rfl rfl (R_mv rfl (R_e ?_)))
 refine W_if rfl (fun c10=>?_) fun c10=>?_
 ·
  refine W_r (R_fk rfl rfl (R_lk rfl rfl rfl rfl (R_idxu (i:=0) (@rfl V (V.sl (List.map cF (f.kids)))) (@rfl V (iV ((0:Nat):Int))) (by omega) (cF_eq _) rfl (R_load_pp rfl rfl (R_sk rfl rfl rfl rfl rfl rfl rfl rfl rfl (R_e (W_ret ?_)))))))
  refine y1 _ _ ?_
  refine RetC_1 (resV_c (u:=(V.agg [(iV (((nth (f.kids) (0))).op)),(iV (((nth (f.kids) (0))).arg)),(V.sl (List.map cF (((nth (f.kids) (0))).kids)))])) rfl (@rfl Blk (bk 1 24 3 [[(iV (((nth (f.kids) (0))).op)),(iV (((nth (f.kids) (0))).arg)),(V.sl (List.map cF (((nth (f.kids) (0))).kids)))]])) (lB oB rfl rfl)) (fz_agg3 (fz_int ?_) (fz_int ?_) (fz_sl ?_ (fun _=>by simp)))
  · rw [mst_79 (f:=f) (by omega)]
  · rw [mst_79 (f:=f) (by omega)]
  · rw [mst_79 (f:=f) (by omega)]
 refine W_r (R_eql rfl rfl (R_mv rfl (R_e ?_)))
 refine W_if rfl (fun c11=>?_) fun c11=>?_
 ·
  refine W_r (R_fk rfl rfl (R_lk rfl rfl rfl rfl (R_idxu (i:=1) (@rfl V (V.sl (List.map cF (f.kids)))) (@rfl V (iV ((1:Nat):Int))) (by omega) (cF_eq _) rfl (R_load_pp rfl rfl (R_mv rfl (R_mv rfl (R_callk (ih (((nth (f.kids) (1)))) ((a)) ((o)) (Fm.sz_kid (by omega)) (hp.2 _ (by omega)) (Nat.le_trans (Nat.le_of_lt (Fm.sz_kid (by omega))) hz)) rfl ?_)))))))
  refine R_fk rfl rfl (R_lk rfl rfl rfl rfl (R_idxu (i:=0) (@rfl V (V.sl (List.map cF (f.kids)))) (@rfl V (iV ((0:Nat):Int))) (by omega) (cF_eq _) rfl (R_load_pp rfl rfl (R_mv rfl (R_mv rfl (R_callk (ih (((nth (f.kids) (0)))) ((a)) ((o)) (Fm.sz_kid (by omega)) (hp.2 _ (by omega)) (Nat.le_trans (Nat.le_of_lt (Fm.sz_kid (by omega))) hz)) rfl (R_lk rfl rfl rfl rfl ?_)))))))
  refine R_bslice rfl rfl (R_callk (mnode_pure ((5:Int)) ([(mst (((nth (f.kids) (0)))) ((a)) ((o))),f])) (evcons rfl (evcons (sl_F2 (x:=((mst (((nth (f.kids) (0)))) ((a)) ((o))))) (y:=f) rfl) evnil)) (R_bslice rfl rfl (R_callk (mnode_pure ((6:Int)) ([(mst (((nth (f.kids) (1)))) ((a)) ((o))),(Fm.nd (5:Int) (0:Int) [(mst (((nth (f.kids) (0)))) ((a)) ((o))),f])])) (evcons rfl (evcons (sl_F2 (x:=((mst (((nth (f.kids) (1)))) ((a)) ((o))))) (y:=((Fm.nd (5:Int) (0:Int) [(mst (((nth (f.kids) (0)))) ((a)) ((o))),f]))) rfl) evnil)) (R_sk rfl rfl rfl rfl rfl rfl rfl rfl rfl (R_e (W_ret (y1 _ _ ?_)))))))
  refine RetC_1 (resV_c (u:=(V.agg [(iV (((6:Int)))),(iV (0:Int)),(V.sl (List.map cF (([(mst (((nth (f.kids) (1)))) ((a)) ((o))),(Fm.nd (5:Int) (0:Int) [(mst (((nth (f.kids) (0)))) ((a)) ((o))),f])]))))])) rfl (@rfl Blk (bk 1 24 3 [[(iV (((6:Int)))),(iV (0:Int)),(V.sl (List.map cF (([(mst (((nth (f.kids) (1)))) ((a)) ((o))),(Fm.nd (5:Int) (0:Int) [(mst (((nth (f.kids) (0)))) ((a)) ((o))),f])]))))]])) (lB oB rfl rfl)) (fz_agg3 (fz_int ?_) (fz_int ?_) (fz_sl ?_ (fun _=>by simp)))
  · rw [mst_8 (f:=f) (by omega) (by omega)]; rfl
  · rw [mst_8 (f:=f) (by omega) (by omega)]; rfl
  · rw [mst_8 (f:=f) (by omega) (by omega)]; rfl
 refine W_r (R_eql rfl rfl (R_mv rfl (R_e ?_)))
 refine W_if rfl (fun c12=>?_) fun c12=>?_
 ·
  refine W_r (R_fk rfl rfl (R_lk rfl rfl rfl rfl (R_idxu (i:=1) (@rfl V (V.sl (List.map cF (f.kids)))) (@rfl V (iV ((1:Nat):Int))) (by omega) (cF_eq _) rfl (R_load_pp rfl rfl (R_mv rfl (R_mv rfl (R_callk (ih (((nth (f.kids) (1)))) ((a)) ((o)) (Fm.sz_kid (by omega)) (hp.2 _ (by omega)) (Nat.le_trans (Nat.le_of_lt (Fm.sz_kid (by omega))) hz)) rfl ?_)))))))
  refine R_fk rfl rfl (R_lk rfl rfl rfl rfl (R_idxu (i:=0) (@rfl V (V.sl (List.map cF (f.kids)))) (@rfl V (iV ((0:Nat):Int))) (by omega) (cF_eq _) rfl (R_load_pp rfl rfl (R_mv rfl (R_mv rfl (R_callk (ih (((nth (f.kids) (0)))) ((a)) ((o)) (Fm.sz_kid (by omega)) (hp.2 _ (by omega)) (Nat.le_trans (Nat.le_of_lt (Fm.sz_kid (by omega))) hz)) rfl (R_lk rfl rfl rfl rfl ?_)))))))
  refine R_bslice rfl rfl (R_callk (mnode_pure ((6:Int)) ([(mst (((nth (f.kids) (0)))) ((a)) ((o))),f])) (evcons rfl (evcons (sl_F2 (x:=((mst (((nth (f.kids) (0)))) ((a)) ((o))))) (y:=f) rfl) evnil)) (R_bslice rfl rfl (R_callk (mnode_pure ((5:Int)) ([(mst (((nth (f.kids) (1)))) ((a)) ((o))),(Fm.nd (6:Int) (0:Int) [(mst (((nth (f.kids) (0)))) ((a)) ((o))),f])])) (evcons rfl (evcons (sl_F2 (x:=((mst (((nth (f.kids) (1)))) ((a)) ((o))))) (y:=((Fm.nd (6:Int) (0:Int) [(mst (((nth (f.kids) (0)))) ((a)) ((o))),f]))) rfl) evnil)) (R_sk rfl rfl rfl rfl rfl rfl rfl rfl rfl (R_e (W_ret (y1 _ _ ?_)))))))
  refine RetC_1 (resV_c (u:=(V.agg [(iV (((5:Int)))),(iV (0:Int)),(V.sl (List.map cF (([(mst (((nth (f.kids) (1)))) ((a)) ((o))),(Fm.nd (6:Int) (0:Int) [(mst (((nth (f.kids) (0)))) ((a)) ((o))),f])]))))])) rfl (@rfl Blk (bk 1 24 3 [[(iV (((5:Int)))),(iV (0:Int)),(V.sl (List.map cF (([(mst (((nth (f.kids) (1)))) ((a)) ((o))),(Fm.nd (6:Int) (0:Int) [(mst (((nth (f.kids) (0)))) ((a)) ((o))),f])]))))]])) (lB oB rfl rfl)) (fz_agg3 (fz_int ?_) (fz_int ?_) (fz_sl ?_ (fun _=>by simp)))
  · rw [mst_10 (f:=f) (by omega) (by omega)]; rfl
  · rw [mst_10 (f:=f) (by omega) (by omega)]; rfl
  · rw [mst_10 (f:=f) (by omega) (by omega)]; rfl
 refine W_skip (n1 _ _ (.done (W_r (R_fk rfl rfl (R_lk rfl rfl rfl rfl (R_build rfl rfl (R_alloc (i:=8) (n:=0) (m:=3) rfl (congrArg Blk.ver rfl) rfl ?_)))))))
 refine R_sk rfl rfl rfl rfl rfl rfl rfl rfl rfl (R_e (W_seq_seq ?_))
 refine W_seq_g (fun T H=>T 1=(iV (a))∧T 2=(iV (o))∧T 6=(V.mp 6 1 0 0)∧T 8=(V.mp 8 1 0 0)∧T 107=(V.sl (List.map cF (f.kids)))∧T 108=(iV ((f.kids.length:Nat):Int))∧T 109=(iV (0:Int))∧H 3=(bk 1 24 3 [[(iV (f.op)),(iV (f.arg)),(V.sl (List.map cF (f.kids)))]])∧H 6=(bk 1 24 3 [[(iV (0:Int)),(iV (0:Int)),V.nilsl]])∧H 7=(⟨0,false,false,0,0,[]⟩:Blk)∧H 8=(bk 1 24 3 [[(iV (f.op)),(iV (0:Int)),V.nilsl]])∧H 10=(⟨0,false,false,0,0,[]⟩:Blk)∧H 708=(⟨0,false,false,0,0,[]⟩:Blk)∧True) ?_ ?_
 ·
  refine R_fk rfl rfl (R_lk rfl rfl rfl rfl (R_len rfl (R_mv rfl ?_)))
  exact R_nil ⟨rfl,rfl,rfl,rfl,rfl,rfl,rfl,rfl,rfl,rfl,rfl,rfl,rfl,trivial⟩
 intro T H ⟨t1,t2,t6,t8,t107,t108,t109,h3,h6,h7,h8,h10,h708,_⟩
 refine .lazyCell 708 24 3 8 0 2 [(iV (f.op)),(iV (0:Int)),V.nilsl] (by decide) (by rw [h8]; rfl) (by rw [h8]; rfl) rfl (.done ?_)
 refine fork_ (R:=fun T H=>T 1=(iV (a))∧T 2=(iV (o))∧T 6=(V.mp 6 1 0 0)∧T 8=(V.mp 8 1 0 0)∧T 107=(V.sl (List.map cF (f.kids)))∧T 108=(iV ((f.kids.length:Nat):Int))∧T 109=(iV (0:Int))∧H 3=(bk 1 24 3 [[(iV (f.op)),(iV (f.arg)),(V.sl (List.map cF (f.kids)))]])∧H 6=(bk 1 24 3 [[(iV (0:Int)),(iV (0:Int)),V.nilsl]])∧H 7=(⟨0,false,false,0,0,[]⟩:Blk)∧H 8=(bk 1 24 3 [[(iV (f.op)),(iV (0:Int)),(V.ms 708 1 0 (0))]])∧H 10=(⟨0,false,false,0,0,[]⟩:Blk)∧H 708=(bz 1 24 3 [])∧True) ⟨t1,t2,t6,t8,t107,t108,t109,((upd_ne _ _ (by decide)).trans ((upd_ne _ _ (by decide)).trans h3)),((upd_ne _ _ (by decide)).trans ((upd_ne _ _ (by decide)).trans h6)),((upd_ne _ _ (by decide)).trans ((upd_ne _ _ (by decide)).trans h7)),(by rw [upd_same,h8,(congrArg Blk.ver h708)]; rfl),((upd_ne _ _ (by decide)).trans ((upd_ne _ _ (by decide)).trans h10)),(by rw [upd_ne _ _ (by decide),upd_same,(congrArg Blk.ver h708)]),trivial⟩ ?_
 intro T H ⟨t1,t2,t6,t8,t107,t108,t109,h3,h6,h7,h8,h10,h708,_⟩
 refine W_seq_blockg fun Q13 n13 x13 y13 z13=>?_
 refine W_loop (fun mm T H=> ∃ (k:Nat) (w:Nat) (v10:Nat),mm=f.kids.length - k∧T 1=(iV (a))∧T 2=(iV (o))∧T 6=(V.mp 6 1 0 0)∧T 8=(V.mp 8 1 0 0)∧T 107=(V.sl (List.map cF (f.kids)))∧T 108=(iV ((f.kids.length:Nat):Int))∧T 109=(iV ((k:Nat):Int))∧H 3=(bk 1 24 3 [[(iV (f.op)),(iV (f.arg)),(V.sl (List.map cF (f.kids)))]])∧H 6=(bk 1 24 3 [[(iV (0:Int)),(iV (0:Int)),V.nilsl]])∧H 7=(⟨0,false,false,0,0,[]⟩:Blk)∧H 8=(bk 1 24 3 [[(iV (f.op)),(iV (0:Int)),(V.ms 708 w 0 (k))]])∧(H 10).ver=v10∧H 708=(bz w 24 3 (List.map cF ((f.kids.take k).map (fun g=>mst g a o))))∧(k≤f.kids.length)) ?_ ?_
 ·
  refine ⟨_,0,1,0,rfl,t1,t2,t6,t8,t107,t108,(Eq.trans t109 rfl),h3,h6,h7,h8,(congrArg Blk.ver h10),(Eq.trans h708 (by rfl)),?_⟩
  · omega
 intro mm T H ⟨k,w,v10,hmm,t1,t2,t6,t8,t107,t108,t109,h3,h6,h7,h8,h10,h708,hk⟩ Q14 p114 p214 p314
 unfold b40_0
 refine W_r (R_lss t109 t108 (R_e ?_))
 refine W_seq_if rfl (fun c15=>?_) fun c15=>?_
 ·
  refine W_seq_skip (W_seq_blockg fun Q16 n16 x16 y16 z16=>(W_r (R_idxu (i:=k) t107 t109 (by omega) (cF_eq _) rfl (R_load_pp rfl rfl (R_alloc (i:=10) (n:=v10) (m:=3) rfl h10 rfl (R_sk rfl rfl rfl rfl rfl rfl rfl rfl rfl (R_e ?_)))))))
  refine W_t (R_fk t8 h8 (R_lk rfl h8 rfl rfl (R_lk rfl rfl rfl rfl (R_mv t1 (R_mv t2 (R_callk (ih (((nth (f.kids) (k)))) ((a)) ((o)) (Fm.sz_kid (by omega)) (hp.2 _ (by omega)) (Nat.le_trans (Nat.le_of_lt (Fm.sz_kid (by omega))) hz)) rfl (R_bslice rfl rfl ?_)))))))
  refine R_append1 (l:=((f.kids.take k).map (fun g=>mst g a o))) (f:=cF) (x:=((mst (((nth (f.kids) (k)))) ((a)) ((o))))) (@rfl V (V.ms 708 w 0 (k))) h708 (by (simp; omega)) (row_F1 (x:=((mst (((nth (f.kids) (k)))) ((a)) ((o))))) (@rfl V (V.sl [[(iV ((mst (((nth (f.kids) (k)))) ((a)) ((o))).op)),(iV ((mst (((nth (f.kids) (k)))) ((a)) ((o))).arg)),(V.sl (List.map cF ((mst (((nth (f.kids) (k)))) ((a)) ((o))).kids)))]]))) (cF_len _) (cF_one _) (by omega) (by omega) (R_fk t8 h8 (R_sk rfl rfl rfl h8 rfl rfl rfl rfl rfl (R_e (n16 _ _ (.done (W_t (R_addN t109 (@rfl V (iV ((1:Nat):Int))) (by omega) ?_)))))))
  refine R_mv rfl (R_e ?_)
  refine p114 _ _ _ ?_ ⟨(k+1),(w+1),(v10+1),rfl,t1,t2,t6,t8,t107,t108,(Eq.trans (@rfl V (iV ((k+1:Nat):Int))) (by rfl)),h3,h6,h7,(Eq.trans (@rfl Blk (bk 1 24 3 [[(iV (f.op)),(iV (0:Int)),(V.ms 708 (w+1) 0 (k+1))]])) (by rfl)),(congrArg Blk.ver rfl),(Eq.trans (@rfl Blk (bz (w+1) 24 3 (List.map cF ((f.kids.take k).map (fun g=>mst g a o)++[(mst (((nth (f.kids) (k)))) ((a)) ((o)))])))) (by (rw [mapTake (by omega)]; done))),?_⟩
  · omega
  · omega
 refine W_seq_exit (p314 _ _ _ (x13 _ _ (.done (W_r (R_lk t8 h8 rfl rfl (R_sk t6 rfl rfl h6 rfl rfl rfl rfl rfl (R_e ?_)))))))
 refine W_ret ?_
 refine RetC_1 (resV_c (u:=(V.agg [(iV (f.op)),(iV (0:Int)),(V.ms 708 w 0 (k))])) t6 (@rfl Blk (bk 1 24 3 [[(iV (f.op)),(iV (0:Int)),(V.ms 708 w 0 (k))]])) (lB oB rfl rfl)) (fz_agg3 (fz_int ?_) (fz_int ?_) (fz_ms h708 (by simp) (l:=((f.kids.take k).map (fun g=>mst g a o))) rfl (by (simp; omega)) (fun _=>by simp) ?_))
 · rw [mst_n (f:=f) (by omega)]; rfl
 · rw [mst_n (f:=f) (by omega)]; rfl
 · rw [mst_n (f:=f) (by omega),show k=f.kids.length by omega,List.take_length]; rfl
theorem after_pure (f:Fm) (a o:Int) (hok:okF f=true) (hz:f.sz≤4096):PureC Tryz.prog 40 [(V.agg [(iV (f.op)),(iV (f.arg)),(V.sl (List.map cF (f.kids)))]),(iV (a)),(iV (o))] (V.agg [(iV ((mst f a o).op)),(iV ((mst f a o).arg)),(V.sl (List.map cF ((mst f a o).kids)))]):=by
  have key: ∀ (mm:Nat) (f:Fm) (a o:Int),f.sz < mm→okF f=true→f.sz≤4096→PureC Tryz.prog 40 [(V.agg [(iV (f.op)),(iV (f.arg)),(V.sl (List.map cF (f.kids)))]),(iV (a)),(iV (o))] (V.agg [(iV ((mst f a o).op)),(iV ((mst f a o).arg)),(V.sl (List.map cF ((mst f a o).kids)))]):=by
    intro mm
    induction mm with
    |zero=>intro f a o hlt; exact absurd hlt (Nat.not_lt_zero _)
    | succ mm ih =>
      intro f a o hlt hok hz
      exact after_pure_step f a o hok hz fun f2 a2 o2 hlt2=>ih f2 a2 o2 (by omega)
  exact key (f.sz+1) f a o (Nat.lt_succ_self _) hok hz
theorem mstep_pure (f:Fm) (a o:Int):PureC Tryz.prog 13 [(V.agg [(iV (f.op)),(iV (f.arg)),(V.sl (List.map cF (f.kids)))]),(iV (a)),(iV (o))] (V.tup [(V.agg [(iV ((stM f a o).1.op)),(iV ((stM f a o).1.arg)),(V.sl (List.map cF ((stM f a o).1.kids)))]),(iV ((stM f a o).2))]):=by
 refine pW Tryz.func13 s13_ok fun hB=>?_
 unfold s13
 dsimp only
 refine W_r (R_box (i:=3) (n:=0) (m:=3) (cs:=[(iV (f.op)),(iV (f.arg)),(V.sl (List.map cF (f.kids)))]) rfl (congrArg Blk.ver rfl) rfl rfl rfl (R_alloc (i:=6) (n:=0) (m:=3) rfl (congrArg Blk.ver rfl) rfl (R_mv rfl (R_e (W_seq_seq (W_r (R_lk rfl rfl rfl rfl ?_)))))))
 refine R_callk (fvalid_pure f) rfl (R_mv rfl (R_e (W_seq_seq (W_r (R_mv rfl (R_neq rfl rfl (R_e ?_)))))))
 refine W_seq_if rfl (fun c1=>?_) fun c1=>?_
 ·
  have d1:=stM_e (a:=a) (o:=o) c1
  refine W_seq_seq (W_r (R_build rfl rfl (R_mv rfl (R_sk rfl rfl rfl rfl rfl rfl rfl rfl rfl (R_mv rfl (R_e (W_seq_ret ?_)))))))
  refine RetC_2 (resV_c (u:=(V.agg [(iV (0:Int)),(iV (0:Int)),V.nilsl])) rfl (@rfl Blk (bk 1 24 3 [[(iV (0:Int)),(iV (0:Int)),V.nilsl]])) (lB oB rfl rfl)) (resV_t (@rfl V (iV (fval f)))) (fz_agg3 (fz_int ?_) (fz_int ?_) (fz_nil ?_)) (fz_int ?_)
  · rw [d1]; rfl
  · rw [d1]; rfl
  · rw [d1]; rfl
  · rw [d1]
 have d0:=c1
 refine W_seq_skip (W_seq_seq (W_r (R_mv rfl (R_lss rfl rfl (R_mv rfl ?_)))))
 refine Ops_seg 3 (fun T H=>T 1=(iV (a))∧T 2=(iV (o))∧T 3=(V.mp 3 1 0 0)∧T 6=(V.mp 6 1 0 0)∧T 22=(V.bool (decide (((a) < (0:Int))∨((64:Int)≤(a)))))∧H 3=(bk 1 24 3 [[(iV (f.op)),(iV (f.arg)),(V.sl (List.map cF (f.kids)))]])∧H 6=(bk 1 24 3 [[(iV (0:Int)),(iV (0:Int)),V.nilsl]])∧H 9=(⟨0,false,false,0,0,[]⟩:Blk)∧True) ?_ ?_
 ·
  by_cases g2:(a) < (0:Int)
  ·
   refine G_n (edT g2 rfl) (G_n (edT g2 rfl) (R_pickT (edT g2 rfl) rfl ?_))
   exact ⟨rfl,rfl,rfl,rfl,(dec_orT g2),rfl,rfl,rfl,trivial⟩
  ·
   refine G_yes (edF g2 rfl) (R_mv rfl (G_yes (edF g2 rfl) (R_geq rfl rfl (R_pickF (edF g2 rfl) rfl ?_))))
   exact ⟨rfl,rfl,rfl,rfl,(dec_orF g2),rfl,rfl,rfl,trivial⟩
 intro T H ⟨t1,t2,t3,t6,t22,h3,h6,h9,_⟩
 refine R_mv t22 ?_
 refine Ops_seg 3 (fun T H=>T 1=(iV (a))∧T 2=(iV (o))∧T 3=(V.mp 3 1 0 0)∧T 6=(V.mp 6 1 0 0)∧T 26=(V.bool (decide ((((a) < (0:Int))∨((64:Int)≤(a)))∨((o) < (0:Int)))))∧H 3=(bk 1 24 3 [[(iV (f.op)),(iV (f.arg)),(V.sl (List.map cF (f.kids)))]])∧H 6=(bk 1 24 3 [[(iV (0:Int)),(iV (0:Int)),V.nilsl]])∧H 9=(⟨0,false,false,0,0,[]⟩:Blk)∧True) ?_ ?_
 ·
  by_cases g3:((a) < (0:Int))∨((64:Int)≤(a))
  ·
   refine G_n (edT g3 rfl) (G_n (edT g3 rfl) (R_pickT (edT g3 rfl) rfl ?_))
   exact ⟨t1,t2,t3,t6,(dec_orT g3),h3,h6,h9,trivial⟩
  ·
   refine G_yes (edF g3 rfl) (R_mv t2 (G_yes (edF g3 rfl) (R_lss rfl rfl (R_pickF (edF g3 rfl) rfl ?_))))
   exact ⟨t1,t2,t3,t6,(dec_orF g3),h3,h6,h9,trivial⟩
 intro T H ⟨t1,t2,t3,t6,t26,h3,h6,h9,_⟩
 refine R_mv t26 ?_
 refine Ops_seg 3 (fun T H=>T 1=(iV (a))∧T 2=(iV (o))∧T 3=(V.mp 3 1 0 0)∧T 6=(V.mp 6 1 0 0)∧T 30=(V.bool (decide (((((a) < (0:Int))∨((64:Int)≤(a)))∨((o) < (0:Int)))∨((1048576:Int) < (o)))))∧H 3=(bk 1 24 3 [[(iV (f.op)),(iV (f.arg)),(V.sl (List.map cF (f.kids)))]])∧H 6=(bk 1 24 3 [[(iV (0:Int)),(iV (0:Int)),V.nilsl]])∧H 9=(⟨0,false,false,0,0,[]⟩:Blk)∧True) ?_ ?_
 ·
  by_cases g4:(((a) < (0:Int))∨((64:Int)≤(a)))∨((o) < (0:Int))
  ·
   refine G_n (edT g4 rfl) (G_n (edT g4 rfl) (R_pickT (edT g4 rfl) rfl ?_))
   exact ⟨t1,t2,t3,t6,(dec_orT g4),h3,h6,h9,trivial⟩
  ·
   refine G_yes (edF g4 rfl) (R_mv t2 (G_yes (edF g4 rfl) (R_gtr rfl rfl (R_pickF (edF g4 rfl) rfl ?_))))
   exact ⟨t1,t2,t3,t6,(dec_orF g4),h3,h6,h9,trivial⟩
 intro T H ⟨t1,t2,t3,t6,t30,h3,h6,h9,_⟩
 refine R_e ?_
 refine W_seq_if t30 (fun c5=>?_) fun c5=>?_
 ·
  have d1:=stM_r (a:=a) (o:=o) d0 (by omega)
  refine W_seq_seq (W_r (R_build rfl rfl (R_sk t6 rfl rfl h6 rfl rfl rfl rfl rfl (R_mv rfl (R_e (W_seq_ret ?_))))))
  refine RetC_2 (resV_c (u:=(V.agg [(iV (0:Int)),(iV (0:Int)),V.nilsl])) t6 (@rfl Blk (bk 1 24 3 [[(iV (0:Int)),(iV (0:Int)),V.nilsl]])) (lB oB rfl rfl)) (resV_t (@rfl V (iV (2:Int)))) (fz_agg3 (fz_int ?_) (fz_int ?_) (fz_nil ?_)) (fz_int ?_)
  · rw [d1]; rfl
  · rw [d1]; rfl
  · rw [d1]; rfl
  · rw [d1]
 have d2: ¬(a < 0∨64≤a∨o < 0∨1048576 < o):=by omega
 refine W_seq_skip (W_r (R_lk t3 h3 rfl rfl (R_callk (simplify_pure f) rfl (R_mv rfl (R_ext rfl rfl (R_ext rfl rfl (R_alloc (i:=9) (n:=0) (m:=3) rfl (congrArg Blk.ver h9) rfl ?_)))))))
 refine R_sk rfl rfl rfl rfl rfl rfl rfl rfl rfl (R_mv rfl (R_e (W_seq_seq (W_r (R_mv rfl (R_neq rfl rfl (R_e ?_)))))))
 refine W_seq_if rfl (fun c6=>?_) fun c6=>?_
 ·
  have d1:=stM_s d0 d2 c6
  refine W_seq_seq (W_r (R_build rfl rfl (R_mv rfl (R_sk t6 rfl rfl h6 rfl rfl rfl rfl rfl (R_mv rfl (R_e (W_seq_ret ?_)))))))
  refine RetC_2 (resV_c (u:=(V.agg [(iV (0:Int)),(iV (0:Int)),V.nilsl])) t6 (@rfl Blk (bk 1 24 3 [[(iV (0:Int)),(iV (0:Int)),V.nilsl]])) (lB oB rfl rfl)) (resV_t (@rfl V (iV ((simp_ f).2)))) (fz_agg3 (fz_int ?_) (fz_int ?_) (fz_nil ?_)) (fz_int ?_)
  · rw [d1]; rfl
  · rw [d1]; rfl
  · rw [d1]; rfl
  · rw [d1]
 have d1:=stM_g d0 d2 c6
 have v1:=simp_val c6
 have v2:=simp_nn d0 c6
 refine W_seq_skip (W_r (R_lk rfl rfl rfl rfl (R_mv t1 (R_mv t2 (R_callk (after_pure ((simp_ f).1) ((a)) ((o)) v2.1 (fval_sz v1)) rfl (R_callk (checked_pure ((mst ((simp_ f).1) ((a)) ((o)))) (mst_ok _ a o v2.1 v2.2).1 (mst_sz2 v2.1 (fval_sz v1))) rfl (R_ext rfl rfl ?_)))))))
 refine R_ext rfl rfl (R_sk t6 rfl rfl h6 rfl rfl rfl rfl rfl (R_mv rfl (R_e (W_ret ?_))))
 refine RetC_2 (resV_c (u:=(V.agg [(iV ((chk ((mst ((simp_ f).1) ((a)) ((o))))).1.op)),(iV ((chk ((mst ((simp_ f).1) ((a)) ((o))))).1.arg)),(V.sl (List.map cF ((chk ((mst ((simp_ f).1) ((a)) ((o))))).1.kids)))])) t6 (@rfl Blk (bk 1 24 3 [[(iV ((chk ((mst ((simp_ f).1) ((a)) ((o))))).1.op)),(iV ((chk ((mst ((simp_ f).1) ((a)) ((o))))).1.arg)),(V.sl (List.map cF ((chk ((mst ((simp_ f).1) ((a)) ((o))))).1.kids)))]])) (lB oB rfl rfl)) (resV_t (@rfl V (iV ((chk ((mst ((simp_ f).1) ((a)) ((o))))).2)))) (fz_agg3 (fz_int ?_) (fz_int ?_) (fz_sl ?_ (fun _=>by simp))) (fz_int ?_)
 · rw [d1]
 · rw [d1]
 · rw [d1]
 · rw [d1]
def r30_1:List SO:=[
 qL 10 4 2,
 qF 11 1 2,
 ql 12 11,
 qM 13 1,
 sO 14 (.call false 57 [.t 10,.t 12,.t 13]),
 qM 9 14,
 qE 15 9 0,
 qE 16 9 1,
 qE 17 9 2,
 qM 6 15,
 qM 7 16,
 qM 8 17]
def s30:SF:=⟨20,[.tmp 4,.tmp 5],.seq (.reg [sO 2 (.box 50 4 (.t 0)),sO 4 (.mv (.c (.nilsl))),qI 5 0]) (.seq (.reg r30_1) (.seq (.reg [qM 18 6,qM 19 8,qM 4 18,qM 5 19]) (.ret)))⟩
theorem s30_ok:slimF Tryz.prog ⟨[51,59,84,90,97,109,153,154,155,160],[],[],[]⟩ Tryz.f30=some s30:=by kernel_rfl
def r57_9:List SO:=[
 qM 34 12,
 qM 35 11,
 sO 36 (.nilck (.t 35)),
 qF 37 4 36,
 ql 38 37,
 qM 6 34,
 qM 7 38,
 qI 8 0]
def s57:SF:=⟨39,[.tmp 6,.tmp 7,.tmp 8],.seq (.reg [sO 3 (.box 50 4 (.t 0)),sO 6 (.mv (.c (.nilsl))),qI 7 0,qI 8 0]) (.seq (.seq (.reg [qL 13 4 3,qM 14 1,sO 15 (.call false 82 [.t 13,.t 14]),qM 9 15]) (.seq (.reg [qM 16 9,qC 17 .neq 16 0]) (.cond (.t 17) (.seq (.reg [qM 18 9,sO 6 (.mv (.c (.nilsl))),qI 7 0,qM 8 18]) (.ret)) (.skip)))) (.seq (.seq (.reg [qM 19 2,qF 20 0 3,ql 21 20,sO 22 (.call false 83 [.t 19,.t 21]),qM 10 22]) (.seq (.reg [qM 23 10,qC 24 .neq 23 0]) (.cond (.t 24) (.seq (.reg [qM 25 10,sO 6 (.mv (.c (.nilsl))),qI 7 0,qM 8 25]) (.ret)) (.skip)))) (.seq (.reg [qL 26 4 3,sO 27 (.build [.int .i64 0,.int .i64 0,.nilsl,.nilsl] [(0,4,.t 26)]),qM 28 1,sO 29 (.build [.int .i64 0,.int .i64 0,.nilsl,.nilsl,.int .i64 0] [(0,4,.t 27),(4,1,.t 28)]),sO 30 (.box 128 5 (.t 29)),qM 11 30]) (.seq (.reg [qM 31 11,qM 32 2,sO 33 (.call true 84 [.t 31,.t 32]),qM 12 33]) (.seq (.reg r57_9) (.ret))))))⟩
theorem s57_ok:slimF Tryz.prog ⟨[51,59,84,90,97,109,153,154,155,160],[],[],[]⟩ Tryz.f57=some s57:=by kernel_rfl
def r82_4:List SO:=[
 qM 11 1,
 qC 12 .lss 11 0,
 qM 13 12,
 ⟨some (13,false),some 14,.mv (.t 1)⟩,
 ⟨some (13,false),some 15,.fld 2 (.t 2)⟩,
 ⟨some (13,false),some 16,.load false 1 (.t 15)⟩,
 ⟨some (13,false),some 17,.len (.t 16)⟩,
 ⟨some (13,false),some 18,.bin .geq (.t 14) (.t 17)⟩,
 sO 19 (.pick (.t 13) (.c (.bool true)) (.t 18))]
def s82:SF:=⟨20,[.tmp 4],.seq (.reg [sO 2 (.box 50 4 (.t 0)),qI 4 0]) (.seq (.seq (.reg [qL 6 4 2,sO 7 (.call false 50 [.t 6]),qM 5 7]) (.seq (.reg [qM 8 5,qC 9 .neq 8 0]) (.cond (.t 9) (.seq (.reg [qM 10 5,qM 4 10]) (.ret)) (.skip)))) (.seq (.seq (.reg r82_4) (.cond (.t 19) (.seq (.reg [qI 4 2]) (.ret)) (.skip))) (.seq (.reg [qI 4 0]) (.ret))))⟩
theorem s82_ok:slimF Tryz.prog ⟨[51,59,84,90,97,109,153,154,155,160],[],[],[]⟩ Tryz.f82=some s82:=by kernel_rfl
def r50_2:List SO:=[
 qF 12 0 1,
 ql 13 12,
 qC 14 .lss 13 1,
 qM 15 14,
 ⟨some (15,false),some 16,.fld 0 (.t 1)⟩,
 ⟨some (15,false),some 17,.load false 1 (.t 16)⟩,
 ⟨some (15,false),some 18,.bin .gtr (.t 17) (.c (.int .i64 64))⟩,
 sO 19 (.pick (.t 15) (.c (.bool true)) (.t 18)),
 qM 11 19]
def r50_8:List SO:=[
 qF 27 1 1,
 ql 28 27,
 qC 29 .lss 28 0,
 qM 30 29,
 ⟨some (30,false),some 31,.fld 1 (.t 1)⟩,
 ⟨some (30,false),some 32,.load false 1 (.t 31)⟩,
 ⟨some (30,false),some 33,.mv (.t 3)⟩,
 ⟨some (30,false),some 34,.bin .geq (.t 32) (.t 33)⟩,
 sO 35 (.pick (.t 30) (.c (.bool true)) (.t 34)),
 qM 26 35]
def r50_15:List SO:=[
 qF 46 2 1,
 ql 47 46,
 qM 48 4,
 qA 49 1 47 48,
 ql 50 49,
 qN 51 50,
 qF 52 0 1,
 ql 53 52,
 qP 54 .neq 51 53,
 qM 55 54,
 ⟨some (55,false),some 56,.fld 3 (.t 1)⟩,
 ⟨some (55,false),some 57,.load false 1 (.t 56)⟩,
 ⟨some (55,false),some 58,.mv (.t 4)⟩,
 ⟨some (55,false),some 59,.idx 1 (.t 57) (.t 58)⟩,
 ⟨some (55,false),some 60,.load false 1 (.t 59)⟩,
 ⟨some (55,false),some 61,.len (.t 60)⟩,
 ⟨some (55,false),some 62,.fld 0 (.t 1)⟩,
 ⟨some (55,false),some 63,.load false 1 (.t 62)⟩,
 ⟨some (55,false),some 64,.bin .neq (.t 61) (.t 63)⟩,
 sO 65 (.pick (.t 55) (.c (.bool true)) (.t 64))]
def r50_20:List SO:=[
 qF 71 2 1,
 ql 72 71,
 qM 73 4,
 qA 74 1 72 73,
 ql 75 74,
 qM 76 5,
 qA 77 1 75 76,
 ql 78 77,
 qF 79 3 1,
 ql 80 79,
 qM 81 4,
 qA 82 1 80 81,
 ql 83 82,
 qM 84 5,
 qA 85 1 83 84,
 ql 86 85,
 qM 6 78,
 qM 7 86]
def r50_21:List SO:=[
 qM 87 6,
 qC 88 .lss 87 0,
 qM 89 88,
 ⟨some (89,false),some 90,.mv (.t 6)⟩,
 ⟨some (89,false),some 91,.mv (.t 3)⟩,
 ⟨some (89,false),some 92,.bin .geq (.t 90) (.t 91)⟩,
 sO 93 (.pick (.t 89) (.c (.bool true)) (.t 92)),
 qM 94 93,
 ⟨some (94,false),some 95,.mv (.t 7)⟩,
 ⟨some (94,false),some 96,.bin .lss (.t 95) (.c (.int .i64 0))⟩,
 sO 97 (.pick (.t 94) (.c (.bool true)) (.t 96)),
 qM 98 97,
 ⟨some (98,false),some 99,.mv (.t 7)⟩,
 ⟨some (98,false),some 100,.bin .gtr (.t 99) (.c (.int .i64 1048576))⟩,
 sO 101 (.pick (.t 98) (.c (.bool true)) (.t 100))]
def b50_1:SC:=.seq (.reg [qP 69 .lss 68 67]) (.seq (.cond (.t 69) (.skip) (.exit 3)) (.seq (.block 4 (.seq (.reg [qM 70 68,qM 5 70]) (.seq (.reg r50_20) (.seq (.reg r50_21) (.cond (.t 101) (.seq (.reg [qI 2 2]) (.ret)) (.skip)))))) (.reg [qC 102 .add 68 1,qM 68 102])))
def b50_0:SC:=.seq (.reg [qP 44 .lss 43 42]) (.seq (.cond (.t 44) (.skip) (.exit 1)) (.seq (.block 2 (.seq (.reg [qM 45 43,qM 4 45]) (.seq (.seq (.reg r50_15) (.cond (.t 65) (.seq (.reg [qI 2 1]) (.ret)) (.skip))) (.seq (.reg [qF 66 0 1,ql 67 66,qI 68 0]) (.block 3 (.loop b50_1)))))) (.reg [qC 103 .add 43 1,qM 43 103])))
def s50:SF:=⟨104,[.tmp 2],.seq (.reg [sO 1 (.box 50 4 (.t 0)),qI 2 0]) (.seq (.reg [qF 8 2 1,ql 9 8,qN 10 9,qM 3 10]) (.seq (.block 0 (.seq (.reg r50_2) (.cond (.t 11) (.seq (.reg [qI 2 2]) (.ret)) (.seq (.reg [qM 21 3,qC 22 .eql 21 0,qM 20 22]) (.cond (.t 20) (.seq (.reg [qI 2 19]) (.ret)) (.seq (.reg [qM 24 3,qC 25 .gtr 24 128,qM 23 25]) (.cond (.t 23) (.seq (.reg [qI 2 11]) (.ret)) (.seq (.reg r50_8) (.cond (.t 26) (.seq (.reg [qI 2 2]) (.ret)) (.seq (.reg [qF 37 3 1,ql 38 37,qN 39 38,qM 40 3,qP 41 .neq 39 40,qM 36 41]) (.cond (.t 36) (.seq (.reg [qI 2 1]) (.ret)) (.skip)))))))))))) (.seq (.seq (.reg [qM 42 3,qI 43 0]) (.block 1 (.loop b50_0))) (.seq (.reg [qI 2 0]) (.ret)))))⟩
theorem s50_ok:slimF Tryz.prog ⟨[51,59,84,90,97,109,153,154,155,160],[],[],[]⟩ Tryz.f50=some s50:=by kernel_rfl
theorem mvalid_pure (m:M):PureC Tryz.prog 50 [(V.agg [(iV (m.i)),(iV (m.s)),(intss m.nx),(intss m.ot)])] (iV (mval m)):=by
 refine pW Tryz.func50 s50_ok fun hB=>?_
 unfold s50
 dsimp only
 refine W_r (R_box (i:=1) (n:=0) (m:=4) (cs:=[(iV (m.i)),(iV (m.s)),(intss m.nx),(intss m.ot)]) rfl (congrArg Blk.ver rfl) rfl rfl rfl (R_mv rfl (R_e (W_r (R_fk rfl rfl (R_lk rfl rfl rfl rfl (R_len rfl ?_)))))))
 refine R_mv rfl (R_e (W_seq_blockg fun Q1 n1 x1 y1 z1=>(W_r (R_fk rfl rfl (R_lk rfl rfl rfl rfl (R_lss rfl rfl (R_mv rfl ?_)))))))
 refine Ops_seg 4 (fun T H=>T 1=(V.mp 1 1 0 0)∧T 3=(iV ((m.nx.length:Nat):Int))∧T 19=(V.bool (decide (((m.i) < (1:Int))∨((64:Int) < (m.i)))))∧H 1=(bk 1 50 4 [[(iV (m.i)),(iV (m.s)),(intss m.nx),(intss m.ot)]])∧True) ?_ ?_
 ·
  by_cases g2:(m.i) < (1:Int)
  ·
   refine G_n (edT g2 rfl) (G_n (edT g2 rfl) (G_n (edT g2 rfl) (R_pickT (edT g2 rfl) rfl ?_)))
   exact ⟨rfl,rfl,(dec_orT g2),rfl,trivial⟩
  ·
   refine G_yes (edF g2 rfl) (R_fk rfl rfl (G_yes (edF g2 rfl) (R_lk rfl rfl rfl rfl (G_yes (edF g2 rfl) (R_gtr rfl rfl (R_pickF (edF g2 rfl) rfl ?_))))))
   exact ⟨rfl,rfl,(dec_orF g2),rfl,trivial⟩
 intro T H ⟨t1,t3,t19,h1,_⟩
 refine R_mv t19 (R_e ?_)
 refine W_if rfl (fun c3=>?_) fun c3=>?_
 ·
  refine W_r (R_mv rfl (R_e (W_ret (y1 _ _ ?_))))
  refine Ret_1 (@rfl V (iV (2:Int))) (fz_int ?_)
  · rw [mval,if_pos (by omega)]
 refine W_r (R_mv t3 (R_eql rfl rfl (R_mv rfl (R_e ?_))))
 refine W_if rfl (fun c4=>?_) fun c4=>?_
 ·
  refine W_r (R_mv rfl (R_e (W_ret (y1 _ _ ?_))))
  refine Ret_1 (@rfl V (iV (19:Int))) (fz_int ?_)
  · rw [mval,if_neg (by omega),if_pos (by omega)]
 refine W_r (R_mv t3 (R_gtr rfl rfl (R_mv rfl (R_e ?_))))
 refine W_if rfl (fun c5=>?_) fun c5=>?_
 ·
  refine W_r (R_mv rfl (R_e (W_ret (y1 _ _ ?_))))
  refine Ret_1 (@rfl V (iV (11:Int))) (fz_int ?_)
  · rw [mval,if_neg (by omega),if_neg (by omega),if_pos (by omega)]
 refine W_r (R_fk t1 h1 (R_lk rfl h1 rfl rfl (R_lss rfl rfl (R_mv rfl ?_))))
 refine Ops_seg 5 (fun T H=>T 1=(V.mp 1 1 0 0)∧T 3=(iV ((m.nx.length:Nat):Int))∧T 35=(V.bool (decide (((m.s) < (0:Int))∨(((m.nx.length:Nat):Int)≤(m.s)))))∧H 1=(bk 1 50 4 [[(iV (m.i)),(iV (m.s)),(intss m.nx),(intss m.ot)]])∧True) ?_ ?_
 ·
  by_cases g6:(m.s) < (0:Int)
  ·
   refine G_n (edT g6 rfl) (G_n (edT g6 rfl) (G_n (edT g6 rfl) (G_n (edT g6 rfl) (R_pickT (edT g6 rfl) rfl ?_))))
   exact ⟨t1,t3,(dec_orT g6),h1,trivial⟩
  ·
   refine G_yes (edF g6 rfl) (R_fk t1 h1 (G_yes (edF g6 rfl) (R_lk rfl h1 rfl rfl (G_yes (edF g6 rfl) (R_mv t3 (G_yes (edF g6 rfl) (R_geq rfl rfl ?_)))))))
   refine R_pickF (edF g6 rfl) rfl ?_
   exact ⟨t1,t3,(dec_orF g6),h1,trivial⟩
 intro T H ⟨t1,t3,t35,h1,_⟩
 refine R_mv t35 (R_e ?_)
 refine W_if rfl (fun c7=>?_) fun c7=>?_
 ·
  refine W_r (R_mv rfl (R_e (W_ret (y1 _ _ ?_))))
  refine Ret_1 (@rfl V (iV (2:Int))) (fz_int ?_)
  · rw [mval,if_neg (by omega),if_neg (by omega),if_neg (by omega),if_pos (by omega)]
 refine W_r (R_fk t1 h1 (R_lk rfl h1 rfl rfl (R_len rfl (R_mv t3 (R_neq rfl rfl (R_mv rfl (R_e ?_)))))))
 refine W_if rfl (fun c8=>?_) fun c8=>?_
 ·
  refine W_r (R_mv rfl (R_e (W_ret (y1 _ _ ?_))))
  refine Ret_1 (@rfl V (iV (1:Int))) (fz_int ?_)
  · rw [mval,if_neg (by omega),if_neg (by omega),if_neg (by omega),if_neg (by omega),if_pos (by omega)]
 refine W_skip (n1 _ _ (.done (W_seq_seq (W_r (R_mv t3 (R_mv rfl (R_e ?_)))))))
 refine W_seq_blockg fun Q9 n9 x9 y9 z9=>?_
 refine W_loop (fun mm T H=> ∃ (k:Nat),mm=m.nx.length - k∧T 1=(V.mp 1 1 0 0)∧T 3=(iV ((m.nx.length:Nat):Int))∧T 42=(iV ((m.nx.length:Nat):Int))∧T 43=(iV ((k:Nat):Int))∧H 1=(bk 1 50 4 [[(iV (m.i)),(iV (m.s)),(intss m.nx),(intss m.ot)]])∧(k≤m.nx.length)∧(1≤m.i∧m.i≤64∧0 < m.nx.length∧m.nx.length≤128∧m.ot.length=m.nx.length)∧(mval m=fe (rowE m) k (m.nx.length - k))) ?_ ?_
 ·
  refine ⟨_,0,rfl,t1,t3,rfl,(Eq.trans (@rfl V (iV (0:Int))) rfl),h1,?_,?_,?_⟩
  · omega
  · omega
  · rw [mval,if_neg (by omega),if_neg (by omega),if_neg (by omega),if_neg (by omega),if_neg (by omega)]; rfl
 intro mm T H ⟨k,hmm,t1,t3,t42,t43,h1,hk,hv,hc⟩ Q10 p110 p210 p310
 unfold b50_0
 refine W_r (R_lss t43 t42 (R_e ?_))
 refine W_seq_if rfl (fun c11=>?_) fun c11=>?_
 ·
  refine W_seq_skip (W_seq_blockg fun Q12 n12 x12 y12 z12=>(W_r (R_mv t43 (R_mv rfl (R_e (W_seq_seq (W_r ?_)))))))
  refine R_fk t1 h1 (R_lk rfl h1 rfl rfl (R_mv rfl (R_idx (i:=k) (@rfl V (intss m.nx)) (@rfl V (iV ((k:Nat):Int))) (by omega) rfl (R_load_pp rfl rfl (R_len rfl (R_fk t1 h1 (R_lk rfl h1 rfl rfl ?_)))))))
  refine R_neq rfl rfl (R_mv rfl ?_)
  refine Ops_seg 10 (fun T H=>T 1=(V.mp 1 1 0 0)∧T 3=(iV ((m.nx.length:Nat):Int))∧T 4=(iV ((k:Nat):Int))∧T 42=(iV ((m.nx.length:Nat):Int))∧T 43=(iV ((k:Nat):Int))∧T 65=(V.bool (decide ((((((nth (m.nx) (k))).length:Nat):Int)≠(m.i))∨(((((nth (m.ot) (k))).length:Nat):Int)≠(m.i)))))∧H 1=(bk 1 50 4 [[(iV (m.i)),(iV (m.s)),(intss m.nx),(intss m.ot)]])∧True) ?_ ?_
  ·
   by_cases g13:((((nth (m.nx) (k))).length:Nat):Int)≠(m.i)
   ·
    refine G_n (edT g13 rfl) (G_n (edT g13 rfl) (G_n (edT g13 rfl) (G_n (edT g13 rfl) (G_n (edT g13 rfl) (G_n (edT g13 rfl) (G_n (edT g13 rfl) (G_n (edT g13 rfl) ?_)))))))
    refine G_n (edT g13 rfl) (R_pickT (edT g13 rfl) rfl ?_)
    exact ⟨t1,t3,rfl,t42,t43,(dec_orT g13),h1,trivial⟩
   ·
    refine G_yes (edF g13 rfl) (R_fk t1 h1 (G_yes (edF g13 rfl) (R_lk rfl h1 rfl rfl (G_yes (edF g13 rfl) (R_mv rfl (G_yes (edF g13 rfl) (R_idx (i:=k) (@rfl V (intss m.ot)) (@rfl V (iV ((k:Nat):Int))) (by omega) rfl ?_)))))))
    refine G_yes (edF g13 rfl) (R_load_pp rfl rfl (G_yes (edF g13 rfl) (R_len rfl (G_yes (edF g13 rfl) (R_fk t1 h1 (G_yes (edF g13 rfl) (R_lk rfl h1 rfl rfl ?_)))))))
    refine G_yes (edF g13 rfl) (R_neq rfl rfl (R_pickF (edF g13 rfl) rfl ?_))
    exact ⟨t1,t3,rfl,t42,t43,(dec_orF g13),h1,trivial⟩
  intro T H ⟨t1,t3,t4,t42,t43,t65,h1,_⟩
  refine R_e ?_
  refine W_seq_if t65 (fun c14=>?_) fun c14=>?_
  ·
   refine W_seq_seq (W_r (R_mv rfl (R_e (W_seq_ret (y12 _ _ (p210 _ _ (y9 _ _ ?_)))))))
   refine Ret_1 (@rfl V (iV (1:Int))) (fz_int ?_)
   · rw [hc,fe_hit (by rw [rowE,if_pos (by omega)]; decide) (by omega),rowE,if_pos (by omega)]
  refine W_seq_skip (W_r (R_fk t1 h1 (R_lk rfl h1 rfl rfl (R_mv rfl (R_e (W_block fun Q15 n15 x15 y15 z15=>?_))))))
  refine W_loop (fun mm T H=> ∃ (j:Nat),mm=((m.i).toNat) - j∧T 1=(V.mp 1 1 0 0)∧T 3=(iV ((m.nx.length:Nat):Int))∧T 4=(iV ((k:Nat):Int))∧T 42=(iV ((m.nx.length:Nat):Int))∧T 43=(iV ((k:Nat):Int))∧T 67=(iV (m.i))∧T 68=(iV ((j:Nat):Int))∧H 1=(bk 1 50 4 [[(iV (m.i)),(iV (m.s)),(intss m.nx),(intss m.ot)]])∧(j≤(m.i).toNat)∧(((nth m.nx k).length:Int)=m.i∧((nth m.ot k).length:Int)=m.i)∧(rowE m k=fe (celE m k) j (m.i.toNat - j))) ?_ ?_
  ·
   refine ⟨_,0,rfl,t1,t3,t4,t42,t43,rfl,(Eq.trans (@rfl V (iV (0:Int))) rfl),h1,?_,?_,?_⟩
   · omega
   · omega
   · rw [rowE,if_neg (by omega)]; rfl
  intro mm T H ⟨j,hmm,t1,t3,t4,t42,t43,t67,t68,h1,hj,hl,hr⟩ Q16 p116 p216 p316
  unfold b50_1
  refine W_r (R_lss t68 t67 (R_e ?_))
  refine W_seq_if rfl (fun c17=>?_) fun c17=>?_
  ·
   refine W_seq_skip (W_seq_blockg fun Q18 n18 x18 y18 z18=>(W_r (R_mv t68 (R_mv rfl (R_e (W_r (R_fk t1 h1 ?_)))))))
   refine R_lk rfl h1 rfl rfl (R_mv t4 (R_idx (i:=k) (@rfl V (intss m.nx)) (@rfl V (iV ((k:Nat):Int))) (by omega) rfl (R_load_pp rfl rfl (R_mv rfl (R_idx (i:=j) (@rfl V (ints ((nth (m.nx) (k))))) (@rfl V (iV ((j:Nat):Int))) (by omega) rfl (R_load_pp rfl rfl (R_fk t1 h1 ?_)))))))
   refine R_lk rfl h1 rfl rfl (R_mv t4 (R_idx (i:=k) (@rfl V (intss m.ot)) (@rfl V (iV ((k:Nat):Int))) (by omega) rfl (R_load_pp rfl rfl (R_mv rfl (R_idx (i:=j) (@rfl V (ints ((nth (m.ot) (k))))) (@rfl V (iV ((j:Nat):Int))) (by omega) rfl (R_load_pp rfl rfl (R_mv rfl ?_)))))))
   refine R_mv rfl (R_e (W_r (R_mv rfl (R_lss rfl rfl (R_mv rfl ?_)))))
   refine Ops_seg 4 (fun T H=>T 1=(V.mp 1 1 0 0)∧T 3=(iV ((m.nx.length:Nat):Int))∧T 4=(iV ((k:Nat):Int))∧T 7=(iV ((nth ((nth (m.ot) (k))) (j))))∧T 42=(iV ((m.nx.length:Nat):Int))∧T 43=(iV ((k:Nat):Int))∧T 67=(iV (m.i))∧T 68=(iV ((j:Nat):Int))∧T 93=(V.bool (decide ((((nth ((nth (m.nx) (k))) (j))) < (0:Int))∨(((m.nx.length:Nat):Int)≤((nth ((nth (m.nx) (k))) (j)))))))∧H 1=(bk 1 50 4 [[(iV (m.i)),(iV (m.s)),(intss m.nx),(intss m.ot)]])∧True) ?_ ?_
   ·
    by_cases g19:((nth ((nth (m.nx) (k))) (j))) < (0:Int)
    ·
     refine G_n (edT g19 rfl) (G_n (edT g19 rfl) (G_n (edT g19 rfl) (R_pickT (edT g19 rfl) rfl ?_)))
     exact ⟨t1,t3,t4,rfl,t42,t43,t67,t68,(dec_orT g19),h1,trivial⟩
    ·
     refine G_yes (edF g19 rfl) (R_mv rfl (G_yes (edF g19 rfl) (R_mv t3 (G_yes (edF g19 rfl) (R_geq rfl rfl (R_pickF (edF g19 rfl) rfl ?_))))))
     exact ⟨t1,t3,t4,rfl,t42,t43,t67,t68,(dec_orF g19),h1,trivial⟩
   intro T H ⟨t1,t3,t4,t7,t42,t43,t67,t68,t93,h1,_⟩
   refine R_mv t93 ?_
   refine Ops_seg 3 (fun T H=>T 1=(V.mp 1 1 0 0)∧T 3=(iV ((m.nx.length:Nat):Int))∧T 4=(iV ((k:Nat):Int))∧T 7=(iV ((nth ((nth (m.ot) (k))) (j))))∧T 42=(iV ((m.nx.length:Nat):Int))∧T 43=(iV ((k:Nat):Int))∧T 67=(iV (m.i))∧T 68=(iV ((j:Nat):Int))∧T 97=(V.bool (decide (((((nth ((nth (m.nx) (k))) (j))) < (0:Int))∨(((m.nx.length:Nat):Int)≤((nth ((nth (m.nx) (k))) (j)))))∨(((nth ((nth (m.ot) (k))) (j))) < (0:Int)))))∧H 1=(bk 1 50 4 [[(iV (m.i)),(iV (m.s)),(intss m.nx),(intss m.ot)]])∧True) ?_ ?_
   ·
    by_cases g20:(((nth ((nth (m.nx) (k))) (j))) < (0:Int))∨(((m.nx.length:Nat):Int)≤((nth ((nth (m.nx) (k))) (j))))
    ·
     refine G_n (edT g20 rfl) (G_n (edT g20 rfl) (R_pickT (edT g20 rfl) rfl ?_))
     exact ⟨t1,t3,t4,t7,t42,t43,t67,t68,(dec_orT g20),h1,trivial⟩
    ·
     refine G_yes (edF g20 rfl) (R_mv t7 (G_yes (edF g20 rfl) (R_lss rfl rfl (R_pickF (edF g20 rfl) rfl ?_))))
     exact ⟨t1,t3,t4,t7,t42,t43,t67,t68,(dec_orF g20),h1,trivial⟩
   intro T H ⟨t1,t3,t4,t7,t42,t43,t67,t68,t97,h1,_⟩
   refine R_mv t97 ?_
   refine Ops_seg 3 (fun T H=>T 1=(V.mp 1 1 0 0)∧T 3=(iV ((m.nx.length:Nat):Int))∧T 4=(iV ((k:Nat):Int))∧T 42=(iV ((m.nx.length:Nat):Int))∧T 43=(iV ((k:Nat):Int))∧T 67=(iV (m.i))∧T 68=(iV ((j:Nat):Int))∧T 101=(V.bool (decide ((((((nth ((nth (m.nx) (k))) (j))) < (0:Int))∨(((m.nx.length:Nat):Int)≤((nth ((nth (m.nx) (k))) (j)))))∨(((nth ((nth (m.ot) (k))) (j))) < (0:Int)))∨((1048576:Int) < ((nth ((nth (m.ot) (k))) (j)))))))∧H 1=(bk 1 50 4 [[(iV (m.i)),(iV (m.s)),(intss m.nx),(intss m.ot)]])∧True) ?_ ?_
   ·
    by_cases g21:((((nth ((nth (m.nx) (k))) (j))) < (0:Int))∨(((m.nx.length:Nat):Int)≤((nth ((nth (m.nx) (k))) (j)))))∨(((nth ((nth (m.ot) (k))) (j))) < (0:Int))
    ·
     refine G_n (edT g21 rfl) (G_n (edT g21 rfl) (R_pickT (edT g21 rfl) rfl ?_))
     exact ⟨t1,t3,t4,t42,t43,t67,t68,(dec_orT g21),h1,trivial⟩
    ·
     refine G_yes (edF g21 rfl) (R_mv t7 (G_yes (edF g21 rfl) (R_gtr rfl rfl (R_pickF (edF g21 rfl) rfl ?_))))
     exact ⟨t1,t3,t4,t42,t43,t67,t68,(dec_orF g21),h1,trivial⟩
   intro T H ⟨t1,t3,t4,t42,t43,t67,t68,t101,h1,_⟩
   refine R_e ?_
   refine W_if t101 (fun c22=>?_) fun c22=>?_
   ·
    refine W_r (R_mv rfl (R_e (W_ret (y18 _ _ (p216 _ _ (y15 _ _ (y12 _ _ ?_)))))))
    refine p210 _ _ (y9 _ _ ?_)
    refine Ret_1 (@rfl V (iV (2:Int))) (fz_int ?_)
    · have e:rowE m k=2:=by
        rw [hr,fe_hit (by unfold celE; split <;> omega) (by omega)]; unfold celE; split <;> omega
      rw [hc,fe_hit (by omega) (by omega),e]
   refine W_skip (n18 _ _ (.done (W_t (R_addN t68 (@rfl V (iV ((1:Nat):Int))) (by omega) (R_mv rfl (R_e ?_))))))
   refine p116 _ _ _ ?_ ⟨(j+1),rfl,t1,t3,t4,t42,t43,t67,(Eq.trans (@rfl V (iV ((j+1:Nat):Int))) (by rfl)),h1,?_,?_,?_⟩
   · omega
   · omega
   · omega
   · rw [hr,fe_skip (by unfold celE; split <;> omega) (by omega)]
  refine W_seq_exit (p316 _ _ _ (x15 _ _ (n12 _ _ (.done (W_t (R_addN t43 (@rfl V (iV ((1:Nat):Int))) (by omega) (R_mv rfl ?_)))))))
  refine R_e ?_
  refine p110 _ _ _ ?_ ⟨(k+1),rfl,t1,t3,t42,(Eq.trans (@rfl V (iV ((k+1:Nat):Int))) (by rfl)),h1,?_,?_,?_⟩
  · omega
  · omega
  · omega
  · rw [hc,fe_skip (by rw [hr,fe_end (by omega)]) (by omega)]
 refine W_seq_exit (p310 _ _ _ (x9 _ _ (.done (W_r (R_mv rfl (R_e (W_ret ?_)))))))
 refine Ret_1 (@rfl V (iV (0:Int))) (fz_int ?_)
 · rw [hc,fe_end (by omega)]
theorem state_pure (m:M) (s:Int):PureC Tryz.prog 82 [(V.agg [(iV (m.i)),(iV (m.s)),(intss m.nx),(intss m.ot)]),(iV (s))] (iV (stE m s)):=by
 refine pW Tryz.func82 s82_ok fun hB=>?_
 unfold s82
 dsimp only
 refine W_r (R_box (i:=2) (n:=0) (m:=4) (cs:=[(iV (m.i)),(iV (m.s)),(intss m.nx),(intss m.ot)]) rfl (congrArg Blk.ver rfl) rfl rfl rfl (R_mv rfl (R_e (W_seq_seq (W_r (R_lk rfl rfl rfl rfl (R_callk (mvalid_pure m) rfl ?_)))))))
 refine R_mv rfl (R_e (W_seq_seq (W_r (R_mv rfl (R_neq rfl rfl (R_e ?_))))))
 refine W_seq_if rfl (fun c1=>?_) fun c1=>?_
 ·
  refine W_seq_seq (W_r (R_mv rfl (R_mv rfl (R_e (W_seq_ret ?_)))))
  refine Ret_1 (@rfl V (iV (mval m))) (fz_int ?_)
  · rw [stE,if_pos (by omega)]
 refine W_seq_skip (W_seq_seq (W_r (R_mv rfl (R_lss rfl rfl (R_mv rfl ?_)))))
 refine Ops_seg 6 (fun T H=>T 19=(V.bool (decide (((s) < (0:Int))∨(((m.nx.length:Nat):Int)≤(s)))))∧H 2=(bk 1 50 4 [[(iV (m.i)),(iV (m.s)),(intss m.nx),(intss m.ot)]])∧True) ?_ ?_
 ·
  by_cases g2:(s) < (0:Int)
  ·
   refine G_n (edT g2 rfl) (G_n (edT g2 rfl) (G_n (edT g2 rfl) (G_n (edT g2 rfl) (G_n (edT g2 rfl) (R_pickT (edT g2 rfl) rfl ?_)))))
   exact ⟨(dec_orT g2),rfl,trivial⟩
  ·
   refine G_yes (edF g2 rfl) (R_mv rfl (G_yes (edF g2 rfl) (R_fk rfl rfl (G_yes (edF g2 rfl) (R_lk rfl rfl rfl rfl (G_yes (edF g2 rfl) (R_len rfl ?_)))))))
   refine G_yes (edF g2 rfl) (R_geq rfl rfl (R_pickF (edF g2 rfl) rfl ?_))
   exact ⟨(dec_orF g2),rfl,trivial⟩
 intro T H ⟨t19,h2,_⟩
 refine R_e ?_
 refine W_seq_if t19 (fun c3=>?_) fun c3=>?_
 ·
  refine W_seq_seq (W_r (R_mv rfl (R_e (W_seq_ret ?_))))
  refine Ret_1 (@rfl V (iV (2:Int))) (fz_int ?_)
  · rw [stE,if_neg (by omega),if_pos (by omega)]
 refine W_seq_skip (W_r (R_mv rfl (R_e (W_ret ?_))))
 refine Ret_1 (@rfl V (iV (0:Int))) (fz_int ?_)
 · rw [stE,if_neg (by omega),if_neg (by omega)]
def s83:SF:=⟨17,[.tmp 4],.seq (.reg [sO 3 (.box 3 1 (.t 1)),qI 4 0]) (.seq (.block 0 (.seq (.reg [ql 6 3,sO 7 (.call false 99 [.t 6]),sO 8 (.un .not (.t 7)),qM 5 8]) (.cond (.t 5) (.seq (.reg [qI 4 2]) (.ret)) (.seq (.reg [qM 10 0,qN 11 10,qC 12 .gtr 11 1024,qM 9 12]) (.cond (.t 9) (.seq (.reg [qI 4 3]) (.ret)) (.seq (.reg [qM 14 0,sO 15 (.mkf 101 [.t 3]),sO 16 (.call false 100 [.t 14,.t 15]),qM 13 16]) (.cond (.t 13) (.seq (.reg [qI 4 1]) (.ret)) (.skip)))))))) (.seq (.reg [qI 4 0]) (.ret)))⟩
theorem s83_ok:slimF Tryz.prog ⟨[51,59,84,90,97,109,153,154,155,160],[],[],[]⟩ Tryz.f83=some s83:=by kernel_rfl
def r99_1:List SO:=[
 qM 3 0,
 qC 4 .geq 3 1,
 qM 5 4,
 ⟨some (5,true),some 6,.mv (.t 0)⟩,
 ⟨some (5,true),some 7,.bin .leq (.t 6) (.c (.int .i64 1024))⟩,
 sO 8 (.pick (.t 5) (.t 7) (.c (.bool false))),
 qM 2 8]
def s99:SF:=⟨9,[.tmp 2],.seq (.reg [sO 2 (.mv (.c (.bool false)))]) (.seq (.reg r99_1) (.ret))⟩
theorem s99_ok:slimF Tryz.prog ⟨[51,59,84,90,97,109,153,154,155,160],[],[],[]⟩ Tryz.f99=some s99:=by kernel_rfl
theorem permitted_pure (n:Int):PureC Tryz.prog 99 [(iV (n))] (V.bool (decide (1≤n∧n≤1024))):=by
 refine pW Tryz.func99 s99_ok fun hB=>?_
 unfold s99
 dsimp only
 refine W_r (R_mv rfl (R_e (W_r (R_mv rfl (R_geq rfl rfl (R_mv rfl ?_))))))
 refine Ops_seg 3 (fun T H=>T 8=(V.bool (decide (((1:Int)≤(n))∧((n)≤(1024:Int)))))∧True) ?_ ?_
 ·
  by_cases g1:(1:Int)≤(n)
  ·
   refine G_yes (edT g1 rfl) (R_mv rfl (G_yes (edT g1 rfl) (R_leq rfl rfl (R_pickT (edT g1 rfl) rfl ?_))))
   exact ⟨(dec_andT g1),trivial⟩
  ·
   refine G_n (edF g1 rfl) (G_n (edF g1 rfl) (R_pickF (edF g1 rfl) rfl ?_))
   exact ⟨(dec_andF g1),trivial⟩
 intro T H ⟨t8,_⟩
 refine R_mv t8 (R_e (W_ret ?_))
 refine Ret_1 (@rfl V (V.bool (decide (((1:Int)≤(n))∧((n)≤(1024:Int)))))) (fz_bool ?_)
 · first|rfl|omega|simp_all
def s100:SF:=⟨9,[.tmp 4],.seq (.reg [sO 4 (.mv (.c (.bool false)))]) (.seq (.reg [qM 5 0,qM 6 1,sO 7 (.call false 117 [.t 5,.t 6]),qC 8 .geq 7 0,qM 4 8]) (.ret))⟩
theorem s100_ok:slimF Tryz.prog ⟨[51,59,84,90,97,109,153,154,155,160],[],[],[]⟩ Tryz.f100=some s100:=by kernel_rfl
def b117_0:SC:=.seq (.reg [qP 9 .lss 8 7]) (.seq (.cond (.t 9) (.skip) (.exit 0)) (.seq (.block 1 (.seq (.reg [qM 10 8,qM 5 10]) (.seq (.reg [qM 11 1,qM 12 0,qM 13 5,qA 14 1 12 13,ql 15 14,sO 16 (.callv false (.t 11) [.t 15])]) (.cond (.t 16) (.seq (.reg [qM 17 5,qM 4 17]) (.ret)) (.skip))))) (.reg [qC 18 .add 8 1,qM 8 18])))
def s117:SF:=⟨19,[.tmp 4],.seq (.reg [qI 4 0]) (.seq (.seq (.reg [qM 6 0,qN 7 6,qI 8 0]) (.block 0 (.loop b117_0))) (.seq (.reg [sO 4 (.mv (.c (.int .i64 (-1))))]) (.ret)))⟩
theorem s117_ok:slimF Tryz.prog ⟨[51,59,84,90,97,109,153,154,155,160],[],[],[]⟩ Tryz.f117=some s117:=by kernel_rfl
theorem idxi_pure (p:Int→Bool) (w:List Int) (g:Nat) (caps:List V) (hca:canonL caps=true) (hpu:pureL caps=true) (hq: ∀ k,k < w.length→PureC Tryz.prog g (iV (nth w k)::caps) (.bool (p (nth w k)))):PureC Tryz.prog 117 [(ints w),(V.fn g [] caps)] (iV (fi (fun jx=>p (nth w jx)) 0 w.length)):=by
 refine pure_of_Wb true 6 Tryz.func117 s117_ok (by kernel_rfl) (by simp [s117]) (by simp [hpu]) (by simp) fun hB=>?_
 simp only [bnd_map,bnd_int,bnd_bool,bnd_str,bnd_agg,bnd_pp,bnd_nil,bnd_cons,implies_true,and_true,true_and] at hB
 unfold s117
 dsimp only
 refine W_r (R_mv rfl (R_e (W_seq_seq (W_r (R_mv rfl (R_len rfl (R_mv rfl ?_)))))))
 refine R_e (W_seq_blockg fun Q1 n1 x1 y1 z1=>?_)
 refine W_loop (fun mm T H=> ∃ (k:Nat),mm=w.length - k∧T 0=(ints w)∧T 1=(V.fn g [] caps)∧T 7=(iV ((w.length:Nat):Int))∧T 8=(iV ((k:Nat):Int))∧(k≤w.length)∧(fi (fun j=>p (nth w j)) 0 w.length=fi (fun j=>p (nth w j)) k (w.length - k))) ?_ ?_
 ·
  refine ⟨_,0,rfl,rfl,rfl,rfl,(Eq.trans (@rfl V (iV (0:Int))) rfl),?_,?_⟩
  · omega
  · rfl
 intro mm T H ⟨k,hmm,t0,t1,t7,t8,hk,hc⟩ Q2 p12 p22 p32
 unfold b117_0
 refine W_r (R_lss t8 t7 (R_e ?_))
 refine W_seq_if rfl (fun c3=>?_) fun c3=>?_
 ·
  refine W_seq_skip (W_seq_blockg fun Q4 n4 x4 y4 z4=>(W_r (R_mv t8 (R_mv rfl (R_e (W_r (R_mv t1 ?_)))))))
  refine R_mv t0 (R_mv rfl (R_idx (i:=k) (@rfl V (ints w)) (@rfl V (iV ((k:Nat):Int))) (by omega) rfl (R_load_pp rfl rfl (R_callv (@rfl V (V.fn g [] caps)) (evcons (@rfl V (iV ((nth (w) (k))))) evnil) (hq k (by omega)) (fzv_mapcanon _ _ (by simp [hca])) (by simp [hpu]) (Or.inl (by simp [hpu])) (R_e ?_)))))
  refine W_ifb rfl (fun c5=>?_) (fun c5=>?_)
  ·
   have d1:=c5
   refine W_r (R_mv rfl (R_mv rfl (R_e (W_ret (y4 _ _ (p22 _ _ (y1 _ _ ?_)))))))
   refine Ret_1 (@rfl V (iV ((k:Nat):Int))) (fz_int ?_)
   · rw [hc,fi_hit (by exact d1) (by omega)]
  have d1:=c5
  refine W_skip (n4 _ _ (.done (W_t (R_addN t8 (@rfl V (iV ((1:Nat):Int))) (by omega) (R_mv rfl (R_e ?_))))))
  refine p12 _ _ _ ?_ ⟨(k+1),rfl,t0,t1,t7,(Eq.trans (@rfl V (iV ((k+1:Nat):Int))) (by rfl)),?_,?_⟩
  · omega
  · omega
  · rw [hc,fi_skip (by exact d1) (by omega)]
 refine W_seq_exit (p32 _ _ _ (x1 _ _ (.done (W_r (R_mv rfl (R_e (W_ret ?_)))))))
 refine Ret_1 (@rfl V (iV (-1:Int))) (fz_int ?_)
 · rw [hc,fi_end (by omega)]
theorem coni_pure (p:Int→Bool) (w:List Int) (g:Nat) (caps:List V) (hca:canonL caps=true) (hpu:pureL caps=true) (hq: ∀ k,k < w.length→PureC Tryz.prog g (iV (nth w k)::caps) (.bool (p (nth w k)))):PureC Tryz.prog 100 [(ints w),(V.fn g [] caps)] (V.bool (decide (0≤fi (fun jx=>p (nth w jx)) 0 w.length))):=by
 refine pure_of_Wb true 6 Tryz.func100 s100_ok (by kernel_rfl) (by simp [s100]) (by simp [hpu]) (by simp) fun hB=>?_
 simp only [bnd_map,bnd_int,bnd_bool,bnd_str,bnd_agg,bnd_pp,bnd_nil,bnd_cons,implies_true,and_true,true_and] at hB
 unfold s100
 dsimp only
 refine W_r (R_mv rfl (R_e (W_r (R_mv rfl (R_mv rfl (R_call (evcons (@rfl V (ints w)) (evcons (@rfl V (V.fn g [] caps)) evnil)) (idxi_pure p w g caps hca hpu hq) (fzv_mapcanon _ _ (by simp [hca,hpu,-List.map_take,-List.map_drop,-List.map_append,-List.map_reverse])) (by simp [hca,hpu,-List.map_take,-List.map_drop,-List.map_append,-List.map_reverse]) (Or.inl (by simp [hca,hpu,-List.map_take,-List.map_drop,-List.map_append,-List.map_reverse])) (R_geq rfl rfl ?_)))))))
 refine R_mv rfl (R_e (W_ret ?_))
 refine Ret_1 (@rfl V (V.bool (decide ((0:Int)≤(fi (fun jx=>p (nth w jx)) 0 w.length))))) (fz_bool ?_)
 · first|rfl|omega|simp_all
def r101_1:List SO:=[
 qM 4 0,
 qC 5 .lss 4 0,
 qM 6 5,
 ⟨some (6,false),some 7,.mv (.t 0)⟩,
 ⟨some (6,false),some 8,.load false 1 (.t 1)⟩,
 ⟨some (6,false),some 9,.bin .geq (.t 7) (.t 8)⟩,
 sO 10 (.pick (.t 6) (.c (.bool true)) (.t 9)),
 qM 3 10]
def s101:SF:=⟨11,[.tmp 3],.seq (.reg [sO 3 (.mv (.c (.bool false)))]) (.seq (.reg r101_1) (.ret))⟩
theorem s101_ok:slimF Tryz.prog ⟨[51,59,84,90,97,109,153,154,155,160],[],[],[]⟩ Tryz.f101=some s101:=by kernel_rfl
theorem check1_pure (a n:Int):PureC Tryz.prog 101 [(iV (a)),(V.pp [(iV (n))])] (V.bool (decide (a < 0∨n≤a))):=by
 refine pW Tryz.func101 s101_ok fun hB=>?_
 unfold s101
 dsimp only
 refine W_r (R_mv rfl (R_e (W_r (R_mv rfl (R_lss rfl rfl (R_mv rfl ?_))))))
 refine Ops_seg 4 (fun T H=>T 10=(V.bool (decide (((a) < (0:Int))∨((n)≤(a)))))∧True) ?_ ?_
 ·
  by_cases g1:(a) < (0:Int)
  ·
   refine G_n (edT g1 rfl) (G_n (edT g1 rfl) (G_n (edT g1 rfl) (R_pickT (edT g1 rfl) rfl ?_)))
   exact ⟨(dec_orT g1),trivial⟩
  ·
   refine G_yes (edF g1 rfl) (R_mv rfl (G_yes (edF g1 rfl) (R_load_pp rfl rfl (G_yes (edF g1 rfl) (R_geq rfl rfl (R_pickF (edF g1 rfl) rfl ?_))))))
   exact ⟨(dec_orF g1),trivial⟩
 intro T H ⟨t10,_⟩
 refine R_mv t10 (R_e (W_ret ?_))
 refine Ret_1 (@rfl V (V.bool (decide (((a) < (0:Int))∨((n)≤(a)))))) (fz_bool ?_)
 · first|rfl|omega|simp_all
theorem check_pure (w:List Int) (n:Int):PureC Tryz.prog 83 [(ints w),(iV (n))] (iV (wchk w n)):=by
 refine pW Tryz.func83 s83_ok fun hB=>?_
 unfold s83
 dsimp only
 refine W_r (R_box (i:=3) (n:=0) (m:=1) (cs:=[(iV (n))]) rfl (congrArg Blk.ver rfl) rfl rfl rfl (R_mv rfl (R_e (W_seq_blockg fun Q1 n1 x1 y1 z1=>(W_r (R_lk rfl rfl rfl rfl (R_callk (permitted_pure ((n))) rfl ?_)))))))
 refine R_not rfl (R_mv rfl (R_e ?_))
 refine W_if rfl (fun c2=>?_) fun c2=>?_
 ·
  refine W_r (R_mv rfl (R_e (W_ret (y1 _ _ ?_))))
  refine Ret_1 (@rfl V (iV (2:Int))) (fz_int ?_)
  · rw [wchk,if_pos (by omega)]
 refine W_r (R_mv rfl (R_len rfl (R_gtr rfl rfl (R_mv rfl (R_e ?_)))))
 refine W_if rfl (fun c3=>?_) fun c3=>?_
 ·
  refine W_r (R_mv rfl (R_e (W_ret (y1 _ _ ?_))))
  refine Ret_1 (@rfl V (iV (3:Int))) (fz_int ?_)
  · rw [wchk,if_neg (by omega),if_pos (by omega)]
 refine W_r (R_mv rfl (R_mkf (evcons rfl evnil) (R_call (evcons (@rfl V (ints w)) (evcons (@rfl V (V.fn 101 [] [(V.mp 3 1 0 0)])) evnil)) (coni_pure (fun a=>decide (a < 0∨n≤a)) w 101 ([(V.pp [(iV (n))])]) (by simp) (by simp) (fun k _=>check1_pure (nth w k) n)) (mcons (fzv_canon 6 _ (by simp [-List.map_take,-List.map_drop,-List.map_append,-List.map_reverse])) (mcons (by rfl) rfl)) (by simp [-List.map_take,-List.map_drop,-List.map_append,-List.map_reverse]) (Or.inr rfl) (R_mv rfl (R_e ?_)))))
 refine W_if (p:=0≤fi (fun jx=>(fun a=>decide (a < 0∨n≤a)) (nth w jx)) 0 w.length) rfl (fun c4=>?_) (fun c4=>?_)
 ·
  refine W_r (R_mv rfl (R_e (W_ret (y1 _ _ ?_))))
  refine Ret_1 (@rfl V (iV (1:Int))) (fz_int ?_)
  · have e:(0≤fi (fun j=>(fun a=>decide (a < 0∨n≤a)) (nth w j)) 0 w.length↔fe (wE w n) 0 w.length=1)∧(fe (wE w n) 0 w.length=0∨fe (wE w n) 0 w.length=1):=in_fe w n w.length 0
    rw [wchk,if_neg (by omega),if_neg (by omega)]; omega
 refine W_skip (n1 _ _ (.done (W_r (R_mv rfl (R_e (W_ret ?_))))))
 refine Ret_1 (@rfl V (iV (0:Int))) (fz_int ?_)
 · have e:(0≤fi (fun j=>(fun a=>decide (a < 0∨n≤a)) (nth w j)) 0 w.length↔fe (wE w n) 0 w.length=1)∧(fe (wE w n) 0 w.length=0∨fe (wE w n) 0 w.length=1):=in_fe w n w.length 0
   rw [wchk,if_neg (by omega),if_neg (by omega)]; omega
def r84_5:List SO:=[
 qM 17 0,
 sO 18 (.nilck (.t 17)),
 qF 19 0 18,
 qL 20 4 19,
 qM 21 0,
 sO 22 (.nilck (.t 21)),
 qF 23 4 22,
 ql 24 23,
 qM 25 7,
 sO 26 (.call false 102 [.t 20,.t 24,.t 25]),
 qM 16 26,
 qE 27 16 0,
 qE 28 16 1,
 qM 8 27,
 qM 9 28]
def b84_0:SC:=.seq (.reg [qP 13 .lss 12 11]) (.seq (.cond (.t 13) (.skip) (.exit 0)) (.seq (.block 1 (.seq (.reg [qA 14 1 10 12,ql 15 14,qM 7 15]) (.seq (.reg r84_5) (.seq (.reg [qM 29 0,qM 30 8,sO 31 (.nilck (.t 29)),qF 32 4 31,sN (.store 1 (.t 32) (.t 30))]) (.reg [qM 33 5,qM 34 9,sO 35 (.bslice 3 1 false [.int .i64 0] 1 [(0,.t 34)]),sO 36 (.append 3 1 8 (.t 33) (.t 35)),qM 5 36]))))) (.reg [qC 37 .add 12 1,qM 12 37])))
def s84:SF:=⟨39,[.tmp 4],.seq (.reg [sO 4 (.mv (.c (.nilsl)))]) (.seq (.reg [sO 5 (.lazy 3 1)]) (.seq (.seq (.reg [qM 10 1,qN 11 10,qI 12 0]) (.block 0 (.loop b84_0))) (.seq (.reg [qM 38 5,qM 4 38]) (.ret))))⟩
theorem s84_ok:slimF Tryz.prog ⟨[51,59,84,90,97,109,153,154,155,160],[5],[],[]⟩ Tryz.f84=some s84:=by kernel_rfl
def r102_1:List SO:=[
 qF 8 0 3,
 qF 9 2 8,
 ql 10 9,
 qM 11 1,
 qA 12 1 10 11,
 ql 13 12,
 qM 14 2,
 qA 15 1 13 14,
 ql 16 15,
 qF 17 0 3,
 qF 18 3 17,
 ql 19 18,
 qM 20 1,
 qA 21 1 19 20,
 ql 22 21,
 qM 23 2,
 qA 24 1 22 23,
 ql 25 24,
 qM 6 16,
 qM 7 25]
def s102:SF:=⟨26,[.tmp 6,.tmp 7],.seq (.reg [sO 3 (.box 126 4 (.t 0)),qI 6 0,qI 7 0]) (.seq (.reg r102_1) (.ret))⟩
theorem s102_ok:slimF Tryz.prog ⟨[51,59,84,90,97,109,153,154,155,160],[],[],[]⟩ Tryz.f102=some s102:=by kernel_rfl
theorem move_pure (m:M) (s a:Int) (hs:0≤s∧s < m.nx.length∧m.ot.length=m.nx.length) (ha:0≤a∧a < (nth m.nx s.toNat).length∧a < (nth m.ot s.toNat).length):PureC Tryz.prog 102 [(V.agg [(iV (m.i)),(iV (m.s)),(intss m.nx),(intss m.ot)]),(iV (s)),(iV (a))] (V.tup [(iV (cell m.nx s a)),(iV (cell m.ot s a))]):=by
 refine pW Tryz.func102 s102_ok fun hB=>?_
 unfold s102
 dsimp only
 refine W_r (R_box (i:=3) (n:=0) (m:=4) (cs:=[(iV (m.i)),(iV (m.s)),(intss m.nx),(intss m.ot)]) rfl (congrArg Blk.ver rfl) rfl rfl rfl (R_mv rfl (R_mv rfl (R_e (W_r (R_fk rfl rfl (R_fk rfl rfl ?_)))))))
 refine R_lk rfl rfl rfl rfl (R_mv rfl (R_idxI (i:=(s)) (@rfl V (intss m.nx)) (@rfl V (iV (s))) (by omega) (by omega) rfl (R_load_pp rfl rfl (R_mv rfl (R_idxI (i:=(a)) (@rfl V (ints ((nth (m.nx) (s).toNat)))) (@rfl V (iV (a))) (by omega) (by omega) rfl (R_load_pp rfl rfl (R_fk rfl rfl ?_)))))))
 refine R_fk rfl rfl (R_lk rfl rfl rfl rfl (R_mv rfl (R_idxI (i:=(s)) (@rfl V (intss m.ot)) (@rfl V (iV (s))) (by omega) (by omega) rfl (R_load_pp rfl rfl (R_mv rfl (R_idxI (i:=(a)) (@rfl V (ints ((nth (m.ot) (s).toNat)))) (@rfl V (iV (a))) (by omega) (by omega) rfl (R_load_pp rfl rfl ?_)))))))
 refine R_mv rfl (R_mv rfl (R_e (W_ret ?_)))
 refine Ret_2 (@rfl V (iV ((nth ((nth (m.nx) (s).toNat)) (a).toNat)))) (@rfl V (iV ((nth ((nth (m.ot) (s).toNat)) (a).toNat)))) (fz_int ?_) (fz_int ?_)
 · rfl
 · rfl
theorem run_E (m:M) (s:Int) (w:List Int) (v1 v5:Nat) (Hi:Heap) (hb:Hi 30=(bk v1 128 5 [[(iV (m.i)),(iV (m.s)),(intss m.nx),(intss m.ot),(iV (s))]])) (h105:(Hi 105).ver=v5) (hm:mval m=0) (hs:0≤s∧s < m.nx.length) (hl:w.length≤1024) (hw: ∀ k,k < w.length→0≤nth w k∧nth w k < m.i):CallOK Tryz.prog 84 [(V.mp 30 v1 0 0),(ints w)] Hi (ints (outs m s w)) (upd (upd Hi 105 (⟨v5+1+w.length,false,false,0,0,[]⟩:Blk)) 30 (bk v1 128 5 [[(iV (m.i)),(iV (m.s)),(intss m.nx),(intss m.ot),(iV (goal m s w))]])):=by
 refine eW (k0:=100) Tryz.func84 s84_ok fun hB=>?_
 unfold s84
 dsimp only
 refine W_r (R_mv rfl (R_e (W_r (R_lazy (i:=105) (n:=v5) rfl h105 (R_e (W_seq_seq (W_r ?_)))))))
 refine R_mv rfl (R_len rfl (R_mv rfl (R_e (W_seq_blockg fun Q1 n1 x1 y1 z1=>?_))))
 refine W_loop (fun mm T H=> ∃ (k:Nat),mm=w.length - k∧T 0=(V.mp 30 v1 0 0)∧T 5=(V.ms 105 (v5+1+k) 0 (k))∧T 10=(ints w)∧T 11=(iV ((w.length:Nat):Int))∧T 12=(iV ((k:Nat):Int))∧(∀ j,j∉[105,30]→H j=Hi j)∧H 30=(bk v1 128 5 [[(iV (m.i)),(iV (m.s)),(intss m.nx),(intss m.ot),(iV (goal m s (w.take k)))]])∧H 105=(bz (v5+1+k) 3 1 (List.map cI (outs m s (w.take k))))∧(k≤w.length)) ?_ ?_
 ·
  refine ⟨_,0,rfl,rfl,(Eq.trans (@rfl V (V.ms 105 (v5+1) 0 (0))) (by rfl)),rfl,rfl,(Eq.trans (@rfl V (iV (0:Int))) rfl),(upd_out (fun _ _=>rfl) (by decide)),(Eq.trans hb (by rfl)),(Eq.trans (@rfl Blk (bz (v5+1) 3 1 [])) (by rfl)),?_⟩
  · omega
 intro mm T H ⟨k,hmm,t0,t5,t10,t11,t12,hF,h30,h105,hk⟩ Q2 p12 p22 p32
 unfold b84_0
 refine W_r (R_lss t12 t11 (R_e ?_))
 refine W_seq_if rfl (fun c3=>?_) fun c3=>?_
 ·
  have h1:=run_at hm hs hw (k:=k) (by omega)
  refine W_seq_skip (W_seq_blockg fun Q4 n4 x4 y4 z4=>(W_r (R_idx (i:=k) t10 t12 (by omega) rfl (R_load_pp rfl rfl (R_mv rfl (R_e (W_r ?_)))))))
  refine R_mv t0 (R_nilck_mp rfl h30 oB (R_fk rfl h30 (R_lk rfl h30 rfl rfl (R_mv t0 (R_nilck_mp rfl h30 oB (R_fk rfl h30 (R_lk rfl h30 rfl rfl ?_)))))))
  refine R_mv rfl (R_callk (move_pure m ((goal m s (w.take k))) (((nth (w) (k)))) h1.1 h1.2) rfl (R_mv rfl (R_ext rfl rfl (R_ext rfl rfl (R_mv rfl (R_mv rfl (R_e ?_)))))))
  refine W_r (R_mv t0 (R_mv rfl (R_nilck_mp rfl h30 oB (R_fk rfl h30 (R_sk rfl rfl rfl h30 rfl rfl rfl rfl rfl (R_e (W_t ?_)))))))
  refine R_mv t5 (R_mv rfl (R_bslice rfl rfl (R_append1 (l:=(outs m s (w.take k))) (f:=cI) (x:=((cell m.ot ((goal m s (w.take k))) (((nth (w) (k))))))) (@rfl V (V.ms 105 (v5+1+k) 0 (k))) h105 (by (simp only [outs_len,List.length_take]; omega)) (@rfl V (V.sl [[(iV (cell m.ot ((goal m s (w.take k))) (((nth (w) (k))))))]])) rfl rfl (by omega) (by omega) (R_mv rfl (R_e (n4 _ _ (.done ?_)))))))
  refine W_t (R_addN t12 (@rfl V (iV ((1:Nat):Int))) (by omega) (R_mv rfl (R_e ?_)))
  refine p12 _ _ _ ?_ ⟨(k+1),rfl,t0,(Eq.trans (@rfl V (V.ms 105 (v5+1+k+1) 0 (k+1))) (by rfl)),t10,t11,(Eq.trans (@rfl V (iV ((k+1:Nat):Int))) (by rfl)),(upd_out (upd_out hF (by decide)) (by decide)),(Eq.trans (@rfl Blk (bk v1 128 5 [[(iV (m.i)),(iV (m.s)),(intss m.nx),(intss m.ot),(iV (cell m.nx ((goal m s (w.take k))) (((nth (w) (k))))))]])) (by (rw [goal_step m s (by omega)]))),(Eq.trans (@rfl Blk (bz (v5+1+k+1) 3 1 (List.map cI (outs m s (w.take k)++[(cell m.ot ((goal m s (w.take k))) (((nth (w) (k)))))])))) (by (rw [outs_step m s (by omega)]; rfl))),?_⟩
  · omega
  · omega
 refine W_seq_exit (p32 _ _ _ (x1 _ _ (.done (W_r (R_mv t5 (R_mv rfl (R_e ?_)))))))
 refine W_ret (fork_ (R:=fun T H=>T 4=(V.ms 105 (v5+1+k) 0 (k))∧(∀ j,j∉[105,30]→H j=Hi j)∧H 30=(bk v1 128 5 [[(iV (m.i)),(iV (m.s)),(intss m.nx),(intss m.ot),(iV (goal m s (w.take k)))]])∧H 105=(bz (v5+1+k) 3 1 (List.map cI (outs m s (w.take k))))∧True) ⟨(@rfl V (V.ms 105 (v5+1+k) 0 (k))),hF,h30,h105,trivial⟩ ?_)
 intro T H ⟨t4,hF,h30,h105,_⟩
 have fh:=FinX.fin (FinX.put (B:=(bk v1 128 5 [[(iV (m.i)),(iV (m.s)),(intss m.nx),(intss m.ot),(iV (goal m s w))]])) (FinX.putv (n:=(v5+1+k)) (B:=(⟨v5+1+w.length,false,false,0,0,[]⟩:Blk)) (FinX.start hF) (congrArg Blk.ver h105) (by show _≤v5+1+w.length; omega) rfl) h30 (FinB.eq (by (have e:k=w.length:=(by omega); subst e; rw [List.take_length]; done))))
 exact RetF_1 t4 fh (FinV.trans_eq (FinV.frz (rows:=(List.map cI (outs m s (w.take k)))) fh (by simp [h105]) (by simp [h105]) rfl (by rw [h105]; exact take_map (l:=(outs m s (w.take k))) (by (simp only [outs_len,List.length_take]; omega)))) (by (have e:k=w.length:=(by omega); subst e; rw [List.take_length]; done)))
theorem from_pure (m:M) (s:Int) (w:List Int):PureC Tryz.prog 57 [(V.agg [(iV (m.i)),(iV (m.s)),(intss m.nx),(intss m.ot)]),(iV (s)),(ints w)] (V.tup [(ints (frOut m s w)),(iV (frEnd m s w)),(iV (frE m s w))]):=by
 refine pW Tryz.func57 s57_ok fun hB=>?_
 unfold s57
 dsimp only
 refine W_r (R_box (i:=3) (n:=0) (m:=4) (cs:=[(iV (m.i)),(iV (m.s)),(intss m.nx),(intss m.ot)]) rfl (congrArg Blk.ver rfl) rfl rfl rfl (R_mv rfl (R_mv rfl (R_mv rfl (R_e (W_seq_seq (W_r ?_)))))))
 refine R_lk rfl rfl rfl rfl (R_mv rfl (R_callk (state_pure m ((s))) rfl (R_mv rfl (R_e (W_seq_seq (W_r (R_mv rfl ?_)))))))
 refine R_neq rfl rfl (R_e ?_)
 refine W_seq_if rfl (fun c1=>?_) fun c1=>?_
 ·
  refine W_seq_seq (W_r (R_mv rfl (R_mv rfl (R_mv rfl (R_mv rfl (R_e (W_seq_ret ?_)))))))
  refine Ret_3 (@rfl V V.nilsl) (@rfl V (iV (0:Int))) (@rfl V (iV (stE m ((s))))) (fz_nil ?_) (fz_int ?_) (fz_int ?_)
  · rw [frOut,if_pos (by rw [frE,if_pos (by omega)]; omega)]
  · rw [frEnd,if_pos (by rw [frE,if_pos (by omega)]; omega)]
  · rw [frE,if_pos (by omega)]
 have hs:=stE_ok (m:=m) (s:=s) (by omega)
 refine W_seq_skip (W_seq_seq (W_r (R_mv rfl (R_fk rfl rfl (R_lk rfl rfl rfl rfl (R_callk (check_pure w ((m.i))) rfl (R_mv rfl ?_)))))))
 refine R_e (W_seq_seq (W_r (R_mv rfl (R_neq rfl rfl (R_e ?_)))))
 refine W_seq_if rfl (fun c2=>?_) fun c2=>?_
 ·
  refine W_seq_seq (W_r (R_mv rfl (R_mv rfl (R_mv rfl (R_mv rfl (R_e (W_seq_ret ?_)))))))
  refine Ret_3 (@rfl V V.nilsl) (@rfl V (iV (0:Int))) (@rfl V (iV (wchk w ((m.i))))) (fz_nil ?_) (fz_int ?_) (fz_int ?_)
  · rw [frOut,if_pos (by rw [frE,if_neg (by omega)]; omega)]
  · rw [frEnd,if_pos (by rw [frE,if_neg (by omega)]; omega)]
  · rw [frE,if_neg (by omega)]
 have hw:=wchk_ok (w:=w) (n:=m.i) (by omega)
 refine W_seq_skip (W_r (R_lk rfl rfl rfl rfl (R_build rfl rfl (R_mv rfl (R_build rfl rfl (R_box (i:=30) (n:=0) (m:=5) (cs:=[(iV (m.i)),(iV (m.s)),(intss m.nx),(intss m.ot),(iV (s))]) rfl (congrArg Blk.ver rfl) rfl rfl rfl (R_mv rfl ?_)))))))
 refine R_e (W_r (R_mv rfl (R_mv rfl (R_callE (evcons rfl (evcons rfl evnil)) (run_E m s w 1 0 _ rfl (congrArg Blk.ver rfl) hs.1 hs.2 hw.1 hw.2) (R_mv rfl (R_e (W_r ?_)))))))
 refine R_mv rfl (R_mv rfl (R_nilck_mp rfl rfl oB (R_fk rfl rfl (R_lk rfl rfl rfl rfl (R_mv rfl (R_mv rfl (R_mv rfl ?_)))))))
 refine R_e (W_ret ?_)
 refine Ret_3 (@rfl V (ints (outs m s w))) (@rfl V (iV (goal m s w))) (@rfl V (iV (0:Int))) (fz_sl ?_ (fun _=>by simp)) (fz_int ?_) (fz_int ?_)
 · rw [frOut,if_neg (by rw [frE,if_neg (by omega)]; omega)]
 · rw [frEnd,if_neg (by rw [frE,if_neg (by omega)]; omega)]
 · rw [frE,if_neg (by omega)]; omega
theorem mrun_pure (m:M) (w:List Int):PureC Tryz.prog 30 [(V.agg [(iV (m.i)),(iV (m.s)),(intss m.nx),(intss m.ot)]),(ints w)] (V.tup [(ints (frOut m m.s w)),(iV (frE m m.s w))]):=by
 refine pW Tryz.func30 s30_ok fun hB=>?_
 unfold s30
 dsimp only
 refine W_r (R_box (i:=2) (n:=0) (m:=4) (cs:=[(iV (m.i)),(iV (m.s)),(intss m.nx),(intss m.ot)]) rfl (congrArg Blk.ver rfl) rfl rfl rfl (R_mv rfl (R_mv rfl (R_e (W_r (R_lk rfl rfl rfl rfl (R_fk rfl rfl ?_)))))))
 refine R_lk rfl rfl rfl rfl (R_mv rfl (R_callk (from_pure m ((m.s)) w) rfl (R_mv rfl (R_ext rfl rfl (R_ext rfl rfl (R_ext rfl rfl (R_mv rfl ?_)))))))
 refine R_mv rfl (R_mv rfl (R_e (W_r (R_mv rfl (R_mv rfl (R_mv rfl (R_mv rfl ?_)))))))
 refine R_e (W_ret ?_)
 refine Ret_2 (@rfl V (ints (frOut m ((m.s)) w))) (@rfl V (iV (frE m ((m.s)) w))) (fz_sl ?_ (fun _=>by simp)) (fz_int ?_)
 · rfl
 · rfl
def r51_1:List SO:=[
 qF 9 0 3,
 ql 10 9,
 qF 11 1 3,
 qL 12 3 11,
 sO 13 (.call false 73 [.t 12]),
 sO 14 (.build [.int .i64 0,.str []] [(0,1,.t 10),(1,1,.t 13)]),
 sO 6 (.alloc 90 [.int .i64 0,.str []]),
 sN (.store 2 (.t 6) (.t 14))]
def r51_2:List SO:=[
 qL 15 2 6,
 qM 16 0,
 sO 17 (.nilck (.t 16)),
 qF 18 2 17,
 qL 19 2 18,
 sO 20 (.abin false [0,1] (.t 15) (.t 19)),
 qM 21 20,
 ⟨some (21,false),some 22,.mv (.t 0)⟩,
 ⟨some (21,false),some 23,.nilck (.t 22)⟩,
 ⟨some (21,false),some 24,.fld 0 (.t 23)⟩,
 ⟨some (21,false),some 25,.load false 1 (.t 24)⟩,
 ⟨some (21,false),some 26,.load true 2 (.t 6)⟩,
 ⟨some (21,false),some 27,.mlook 12 false (.bool false) (.t 25) (.t 26)⟩,
 sO 28 (.pick (.t 21) (.c (.bool true)) (.t 27))]
def r51_4:List SO:=[
 qF 30 1 3,
 qL 31 3 30,
 sO 32 (.call false 15 [.t 31]),
 qM 29 32,
 qE 33 29 0,
 qE 34 29 1,
 qM 7 33,
 qM 8 34]
def r51_11:List SO:=[
 qM 59 0,
 qM 60 0,
 sO 61 (.nilck (.t 60)),
 qF 62 1 61,
 ql 63 62,
 qL 64 5 3,
 sO 65 (.bslice 95 5 false [.int .i64 0,.int .i64 0,.int .i64 0,.nilsl,.nilsl] 1 [(0,.t 64)]),
 sO 66 (.append 95 5 72 (.t 63) (.t 65)),
 sO 67 (.nilck (.t 59)),
 qF 68 1 67,
 sN (.store 1 (.t 68) (.t 66))]
def s51:SF:=⟨69,[.tmp 4,.tmp 5],.seq (.reg [sO 3 (.box 95 5 (.t 1)),sO 4 (.mv (.c (.bool false))),qI 5 0]) (.seq (.dreg [6] r51_1) (.seq (.seq (.reg r51_2) (.cond (.t 28) (.seq (.reg [sO 4 (.mv (.c (.bool false))),qI 5 0]) (.ret)) (.skip))) (.seq (.reg r51_4) (.seq (.seq (.reg [qM 35 8,qC 36 .neq 35 0,qM 37 36,⟨some (37,false),some 38,.mv (.t 7)⟩,⟨some (37,false),some 39,.un .not (.t 38)⟩,sO 40 (.pick (.t 37) (.c (.bool true)) (.t 39))]) (.cond (.t 40) (.seq (.reg [qM 41 8,qC 42 .eql 41 0,qM 43 8,qM 4 42,qM 5 43]) (.ret)) (.skip))) (.seq (.seq (.reg [qM 44 0,sO 45 (.nilck (.t 44)),qF 46 1 45,ql 47 46,qN 48 47,qC 49 .eql 48 4096]) (.cond (.t 49) (.seq (.reg [sO 4 (.mv (.c (.bool false))),qI 5 11]) (.ret)) (.skip))) (.seq (.reg [qM 50 0,sO 51 (.nilck (.t 50)),qF 52 0 51,ql 53 52,qL 54 2 6,sN (.mset 12 (.t 53) (.t 54) (.c (.bool true)))]) (.seq (.reg [qM 55 0,qL 56 2 6,sO 57 (.nilck (.t 55)),qF 58 2 57,sN (.store 2 (.t 58) (.t 56))]) (.seq (.reg r51_11) (.seq (.reg [sO 4 (.mv (.c (.bool false))),qI 5 0]) (.ret))))))))))⟩
theorem s51_ok:slimF Tryz.prog ⟨[51,59,84,90,97,109,153,154,155,160],[],[],[]⟩ Tryz.f51=some s51:=by kernel_rfl
def s15:SF:=⟨12,[.tmp 2,.tmp 3],.seq (.reg [sO 1 (.box 24 3 (.t 0)),sO 2 (.mv (.c (.bool false))),qI 3 0]) (.seq (.seq (.reg [qL 5 3 1,sO 6 (.call false 35 [.t 5]),qM 4 6]) (.seq (.reg [qM 7 4,qC 8 .neq 7 0]) (.cond (.t 8) (.seq (.reg [qM 9 4,sO 2 (.mv (.c (.bool false))),qM 3 9]) (.ret)) (.skip)))) (.seq (.reg [qL 10 3 1,sO 11 (.call false 42 [.t 10]),qM 2 11,qI 3 0]) (.ret)))⟩
theorem s15_ok:slimF Tryz.prog ⟨[51,59,84,90,97,109,153,154,155,160],[],[],[]⟩ Tryz.f15=some s15:=by kernel_rfl
def r42_6:List SO:=[
 qF 10 2 1,
 ql 11 10,
 sO 12 (.idx 3 (.t 11) (.c (.int .i64 0))),
 qL 13 3 12,
 sO 14 (.call false 42 [.t 13]),
 sO 15 (.un .not (.t 14)),
 qM 2 15]
def r42_8:List SO:=[
 qF 18 2 1,
 ql 19 18,
 sO 20 (.call false 69 [.t 19,.c (.fn 42 [] [])]),
 qF 21 2 1,
 ql 22 21,
 qN 23 22,
 qP 24 .eql 20 23,
 qM 2 24]
def s42:SF:=⟨39,[.tmp 2],.seq (.reg [sO 1 (.box 24 3 (.t 0)),sO 2 (.mv (.c (.bool false)))]) (.seq (.seq (.reg [qF 3 0 1,ql 4 3]) (.block 0 (.seq (.seq (.reg [qC 6 .eql 4 1,qM 5 6]) (.cond (.t 5) (.skip) (.reg [qC 7 .eql 4 9,qM 5 7]))) (.cond (.t 5) (.seq (.reg [sO 2 (.mv (.c (.bool true)))]) (.ret)) (.seq (.reg [qC 9 .eql 4 4,qM 8 9]) (.cond (.t 8) (.seq (.reg r42_6) (.ret)) (.seq (.reg [qC 17 .eql 4 5,qM 16 17]) (.cond (.t 16) (.seq (.reg r42_8) (.ret)) (.seq (.reg [qC 26 .eql 4 6,qM 25 26]) (.cond (.t 25) (.seq (.reg [qF 27 2 1,ql 28 27,sO 29 (.call false 69 [.t 28,.c (.fn 42 [] [])]),qC 30 .gtr 29 0,qM 2 30]) (.ret)) (.seq (.seq (.reg [qC 32 .eql 4 8,qM 31 32]) (.cond (.t 31) (.skip) (.reg [qC 33 .eql 4 10,qM 31 33]))) (.cond (.t 31) (.seq (.reg [qF 34 2 1,ql 35 34,sO 36 (.idx 3 (.t 35) (.c (.int .i64 1))),qL 37 3 36,sO 38 (.call false 42 [.t 37]),qM 2 38]) (.ret)) (.skip))))))))))))) (.seq (.reg [sO 2 (.mv (.c (.bool false)))]) (.ret)))⟩
theorem s42_ok:slimF Tryz.prog ⟨[51,59,84,90,97,109,153,154,155,160],[],[],[]⟩ Tryz.f42=some s42:=by kernel_rfl
theorem ends_pure_step (f:Fm) (hf:okF f=true) (hz:f.sz≤4096) (ih: ∀ (g:Fm),g.sz < f.sz→okF g=true→g.sz≤4096→PureC Tryz.prog 42 [(V.agg [(iV (g.op)),(iV (g.arg)),(V.sl (List.map cF (g.kids)))])] (V.bool (sat t0 g 0))):PureC Tryz.prog 42 [(V.agg [(iV (f.op)),(iV (f.arg)),(V.sl (List.map cF (f.kids)))])] (V.bool (sat t0 f 0)):=by
 refine pW Tryz.func42 s42_ok fun hB=>?_
 unfold s42
 dsimp only
 have hp:=okF_parts hf
 have hr:=rgt_ok hp.1
 have hln:=f.sz_len
 refine W_r (R_box (i:=1) (n:=0) (m:=3) (cs:=[(iV (f.op)),(iV (f.arg)),(V.sl (List.map cF (f.kids)))]) rfl (congrArg Blk.ver rfl) rfl rfl rfl (R_mv rfl (R_e (W_seq_seq (W_r (R_fk rfl rfl (R_lk rfl rfl rfl rfl ?_)))))))
 refine R_e (W_seq_blockg fun Q1 n1 x1 y1 z1=>(W_seq_seq (W_r (R_eql rfl rfl (R_mv rfl (R_e ?_))))))
 refine W_seq_if rfl (fun c2=>?_) fun c2=>?_
 ·
  refine W_seq_skip ?_
  refine W_if rfl (fun c3=>?_) fun c3=>?_
  ·
   refine W_r (R_mv rfl (R_e (W_ret (y1 _ _ ?_))))
   refine Ret_1 (@rfl V (V.bool true)) (fz_bool ?_)
   · rw [end_y (by omega)]
  · exact (c3 c2).elim
 refine W_r (R_eql rfl rfl (R_mv rfl (R_e ?_)))
 refine W_if rfl (fun c4=>?_) fun c4=>?_
 ·
  refine W_r (R_mv rfl (R_e (W_ret (y1 _ _ ?_))))
  refine Ret_1 (@rfl V (V.bool true)) (fz_bool ?_)
  · rw [end_y (by omega)]
 refine W_r (R_eql rfl rfl (R_mv rfl (R_e ?_)))
 refine W_if rfl (fun c5=>?_) fun c5=>?_
 ·
  refine W_r (R_fk rfl rfl (R_lk rfl rfl rfl rfl (R_idxu (i:=0) (@rfl V (V.sl (List.map cF (f.kids)))) (@rfl V (iV ((0:Nat):Int))) (by omega) (cF_eq _) rfl (R_load_pp rfl rfl (R_callk (ih (((nth (f.kids) (0)))) (Fm.sz_kid (by omega)) (hp.2 _ (by omega)) (Nat.le_trans (Nat.le_of_lt (Fm.sz_kid (by omega))) hz)) rfl (R_notb rfl (R_mv rfl ?_)))))))
  refine R_e (W_ret (y1 _ _ ?_))
  refine Ret_1 (@rfl V (V.bool ((!sat t0 (((nth (f.kids) (0)))) 0)))) (fz_bool ?_)
  · rw [end_4 hf (by omega)]
 refine W_r (R_eql rfl rfl (R_mv rfl (R_e ?_)))
 refine W_if rfl (fun c6=>?_) fun c6=>?_
 ·
  refine W_r (R_fk rfl rfl (R_lk rfl rfl rfl rfl (R_callk (cntf_pure (fun g=>sat t0 g 0) f.kids 42 ([]) (by simp) (by simp) (fun k h=>ih (nth f.kids k) (Fm.sz_kid h) (hp.2 k h) (Nat.le_trans (Nat.le_of_lt (Fm.sz_kid h)) hz)) (by omega)) rfl (R_fk rfl rfl (R_lk rfl rfl rfl rfl (R_len rfl (R_eql rfl rfl ?_)))))))
  refine R_mv rfl (R_e (W_ret (y1 _ _ ?_)))
  refine Ret_1 (@rfl V (V.bool (decide (((cntP (fun g=>sat t0 g 0) f.kids:Nat):Int)=((f.kids.length:Nat):Int))))) (fz_bool ?_)
  · rw [end_5 (by omega),← cntP_all]
 refine W_r (R_eql rfl rfl (R_mv rfl (R_e ?_)))
 refine W_if rfl (fun c7=>?_) fun c7=>?_
 ·
  refine W_r (R_fk rfl rfl (R_lk rfl rfl rfl rfl (R_callk (cntf_pure (fun g=>sat t0 g 0) f.kids 42 ([]) (by simp) (by simp) (fun k h=>ih (nth f.kids k) (Fm.sz_kid h) (hp.2 k h) (Nat.le_trans (Nat.le_of_lt (Fm.sz_kid h)) hz)) (by omega)) rfl (R_gtr rfl rfl (R_mv rfl (R_e (W_ret ?_)))))))
  refine y1 _ _ ?_
  refine Ret_1 (@rfl V (V.bool (decide ((0:Int) < ((cntP (fun g=>sat t0 g 0) f.kids:Nat):Int))))) (fz_bool ?_)
  · rw [end_6 (by omega),← cntP_any]
 refine W_seq_seq (W_r (R_eql rfl rfl (R_mv rfl (R_e ?_))))
 refine W_seq_if rfl (fun c8=>?_) fun c8=>?_
 ·
  refine W_seq_skip ?_
  refine W_if rfl (fun c9=>?_) fun c9=>?_
  ·
   refine W_r (R_fk rfl rfl (R_lk rfl rfl rfl rfl (R_idxu (i:=1) (@rfl V (V.sl (List.map cF (f.kids)))) (@rfl V (iV ((1:Nat):Int))) (by omega) (cF_eq _) rfl (R_load_pp rfl rfl (R_callk (ih (((nth (f.kids) (1)))) (Fm.sz_kid (by omega)) (hp.2 _ (by omega)) (Nat.le_trans (Nat.le_of_lt (Fm.sz_kid (by omega))) hz)) rfl (R_mv rfl (R_e ?_)))))))
   refine W_ret (y1 _ _ ?_)
   refine Ret_1 (@rfl V (V.bool (sat t0 (((nth (f.kids) (1)))) 0))) (fz_bool ?_)
   · rw [end_u hf (by omega)]
  · exact (c9 c8).elim
 refine W_r (R_eql rfl rfl (R_mv rfl (R_e ?_)))
 refine W_if rfl (fun c10=>?_) fun c10=>?_
 ·
  refine W_r (R_fk rfl rfl (R_lk rfl rfl rfl rfl (R_idxu (i:=1) (@rfl V (V.sl (List.map cF (f.kids)))) (@rfl V (iV ((1:Nat):Int))) (by omega) (cF_eq _) rfl (R_load_pp rfl rfl (R_callk (ih (((nth (f.kids) (1)))) (Fm.sz_kid (by omega)) (hp.2 _ (by omega)) (Nat.le_trans (Nat.le_of_lt (Fm.sz_kid (by omega))) hz)) rfl (R_mv rfl (R_e ?_)))))))
  refine W_ret (y1 _ _ ?_)
  refine Ret_1 (@rfl V (V.bool (sat t0 (((nth (f.kids) (1)))) 0))) (fz_bool ?_)
  · rw [end_u hf (by omega)]
 refine W_skip (n1 _ _ (.done (W_r (R_mv rfl (R_e (W_ret ?_))))))
 refine Ret_1 (@rfl V (V.bool false)) (fz_bool ?_)
 · rw [end_n hf (by omega) (by omega) (by omega) (by omega) (by omega)]
theorem ends_pure (f:Fm) (hf:okF f=true) (hz:f.sz≤4096):PureC Tryz.prog 42 [(V.agg [(iV (f.op)),(iV (f.arg)),(V.sl (List.map cF (f.kids)))])] (V.bool (sat t0 f 0)):=by
  have key: ∀ (mm:Nat) (f:Fm),f.sz < mm→okF f=true→f.sz≤4096→PureC Tryz.prog 42 [(V.agg [(iV (f.op)),(iV (f.arg)),(V.sl (List.map cF (f.kids)))])] (V.bool (sat t0 f 0)):=by
    intro mm
    induction mm with
    |zero=>intro f hlt; exact absurd hlt (Nat.not_lt_zero _)
    | succ mm ih =>
      intro f hlt hf hz
      exact ends_pure_step f hf hz fun f2 hlt2=>ih f2 (by omega)
  exact key (f.sz+1) f (Nat.lt_succ_self _) hf hz
theorem mends_pure (f:Fm):PureC Tryz.prog 15 [(V.agg [(iV (f.op)),(iV (f.arg)),(V.sl (List.map cF (f.kids)))])] (V.tup [(V.bool (hoB t0 f)),(iV (hoE t0 f))]):=by
 refine pW Tryz.func15 s15_ok fun hB=>?_
 unfold s15
 dsimp only
 refine W_r (R_box (i:=1) (n:=0) (m:=3) (cs:=[(iV (f.op)),(iV (f.arg)),(V.sl (List.map cF (f.kids)))]) rfl (congrArg Blk.ver rfl) rfl rfl rfl (R_mv rfl (R_mv rfl (R_e (W_seq_seq (W_r (R_lk rfl rfl rfl rfl ?_)))))))
 refine R_callk (fvalid_pure f) rfl (R_mv rfl (R_e (W_seq_seq (W_r (R_mv rfl (R_neq rfl rfl (R_e ?_)))))))
 refine W_seq_if rfl (fun c1=>?_) fun c1=>?_
 ·
  have h0:hoE t0 f=fval f:=if_pos c1
  have hb0:hoB t0 f=false:=by unfold hoB; rw [h0,decide_eq_false (by omega)]; rfl
  refine W_seq_seq (W_r (R_mv rfl (R_mv rfl (R_mv rfl (R_e (W_seq_ret ?_))))))
  refine Ret_2 (@rfl V (V.bool false)) (@rfl V (iV (fval f))) (fz_bool ?_) (fz_int ?_)
  · rw [hb0]
  · omega
 have h1:fval f=0:=by omega
 have h0:hoE t0 f=0:=by unfold hoE; rw [if_neg (by omega),if_neg (by decide),if_neg (by decide)]
 have hb0:hoB t0 f=sat t0 f 0:=by unfold hoB; rw [h0]; rfl
 refine W_seq_skip (W_r (R_lk rfl rfl rfl rfl (R_callk (ends_pure f (fval_ok h1) (fval_sz h1)) rfl (R_mv rfl (R_mv rfl (R_e (W_ret ?_)))))))
 refine Ret_2 (@rfl V (V.bool (sat t0 f 0))) (@rfl V (iV (0:Int))) (fz_bool ?_) (fz_int ?_)
 · rw [hb0]
 · omega
def r73_1:List SO:=[
 qF 6 0 1,
 ql 7 6,
 sO 8 (.call false 71 [.t 7]),
 sO 9 (.sbin .add (.t 8) (.c (.str [46]))),
 qF 10 1 1,
 ql 11 10,
 sO 12 (.call false 71 [.t 11]),
 sO 13 (.sbin .add (.t 9) (.t 12)),
 sO 14 (.sbin .add (.t 13) (.c (.str [40]))),
 qM 3 14]
def b73_0:SC:=.seq (.reg [qP 19 .lss 18 17]) (.seq (.cond (.t 19) (.skip) (.exit 0)) (.seq (.block 1 (.seq (.reg [qA 20 3 16 18,qL 21 3 20,sO 5 (.alloc 24 [.int .i64 0,.int .i64 0,.nilsl]),sN (.store 3 (.t 5) (.t 21))]) (.reg [qM 22 3,qL 23 3 5,sO 24 (.call false 73 [.t 23]),sO 25 (.sbin .add (.t 22) (.t 24)),qM 3 25]))) (.reg [qC 26 .add 18 1,qM 18 26])))
def s73:SF:=⟨29,[.tmp 2],.seq (.reg [sO 1 (.box 24 3 (.t 0)),sO 2 (.mv (.c (.str [])))]) (.seq (.reg r73_1) (.seq (.seq (.reg [qF 15 2 1,ql 16 15,qN 17 16,qI 18 0]) (.block 0 (.loop b73_0))) (.seq (.reg [qM 27 3,sO 28 (.sbin .add (.t 27) (.c (.str [41]))),qM 2 28]) (.ret))))⟩
theorem s73_ok:slimF Tryz.prog ⟨[51,59,84,90,97,109,153,154,155,160],[],[],[]⟩ Tryz.f73=some s73:=by kernel_rfl
end Go.Proofs.YteehaobohaecmaaGreatDoor
namespace Go.Proofs.YteehaobohaecmaaGreatDoor
open Go Go.Proofs Go.Shelf Go.Lib Go.Sort
theorem step_growN {x:Cx} (hx:Inv x) (k:Nat) (os:Array Obj):let y:Cx:={x with w:=grow (x.w.drewN k) os}; Inv y∧Frame x y:=by
  intro y
  have hlt: ∀ b,b < x.w.heap.size→y.w.heap[b]?=x.w.heap[b]?:=fun b hb=>by
    show (x.w.heap++os)[b]?=_
    exact Array.getElem?_append_left hb
  have hsz:x.w.heap.size≤y.w.heap.size:=by
    show _≤(x.w.heap++os).size
    rw [Array.size_append]; omega
  have hf:Frame x y:=by
    refine ⟨rfl,rfl,rfl,hsz,fun b hb _=>hlt b hb,fun _ h=>h,fun _ h=>.inl h,fun id=>⟨Nat.le_refl _,fun h _=>⟨h,rfl,rfl,fun _=>rfl,fun ho=>⟨rfl,?_⟩⟩⟩,fun _ h=>.inl ⟨h,rfl⟩,Nat.le_add_right _ _,fun _ _ _=>rfl⟩
    unfold rowSize
    rw [hlt _ (hx.lt ho)]
  refine ⟨⟨fun b hb=>Nat.lt_of_lt_of_le (hx.zlt b hb) hsz,hx.zown,fun id ho=>?_,hx.inj,hx.tab_of hf⟩,hf⟩
  obtain ⟨cc,h1,h2,h3,h4⟩:=hx.blk id ho
  exact ⟨cc,by rw [hlt _ (hx.lt ho)]; exact h1,h2,h3,fun r row j v hr hj=>(h4 r row j v hr hj).frame hx hf⟩
theorem itoa_pure {P:Program} {ρ:Go.Shelf.Ren} (L:LaysM.n171 P ρ) (hcf:callable P (ρ.f 171)) (hT:(ρ.g 17,p10C)∈tabs) (n:Int) (h0: -9223372036854775808≤n) (h1:n≤9223372036854775807):
    PureC P (ρ.f 171) [iV n] (.str (itoa n)):=by
  intro H
  refine ⟨hcf,fun x cs hxH hx hr=>?_⟩
  subst hxH
  obtain ⟨c0,rfl⟩: ∃ c0,cs=[c0]:=by
    have:=hr.1
    match cs with
    |[a]=>exact ⟨a,rfl⟩
    |[]=>simp at this
    |_::_::_=>simp at this
  have r0:R x (iV n) c0:=hr.2 0 _ rfl
  have hc0:c0=.int .i64 n:=by unfold iV at r0; cases r0; rfl
  subst hc0
  have htab : TabIs P x.w "internal/strconv.uint64pow10" .u64 pow10Tab := by
    obtain ⟨_,ty,m,h⟩:=hx.tab _ hT
    unfold TabIs World.var?
    rw [L.m17]
    simp only [Option.bind_some]
    rw [show x.w.heap[ρ.g 17]?=_ from h]
    rfl
  refine (Any.strconv_Itoa L n h0 h1 x.w htab).mono fun e w' h=>?_
  obtain ⟨rfl,k,os,rfl⟩:=h
  obtain ⟨g1,g2⟩:=step_growN hx k os
  exact ⟨_,{x with w:=grow (x.w.drewN k) os},rfl,rfl,rfl,g1,.str _,g2⟩
end Go.Proofs.YteehaobohaecmaaGreatDoor
namespace Go.Proofs.YteehaobohaecmaaGreatDoor
open Go Go.Proofs Go.Shelf
def itoRen71:Go.Shelf.Ren:=⟨fun|129=>131|171=>71|243=>95|246=>116|283=>134|284=>135|285=>136|286=>137|317=>147|318=>148|319=>149|320=>150|337=>158|338=>159|n=>n,fun|0=>0|2=>2|3=>3|4=>4|5=>5|9=>9|20=>20|37=>182|46=>156|51=>175|53=>177|171=>180|173=>183|212=>195|213=>196|232=>205|233=>206|n=>n,fun|17=>0|18=>1|19=>2|n=>n⟩
set_option maxRecDepth 100000 in
theorem itoLay71:LaysM.n171 Tryz.prog itoRen71:={
  mixed:=(by kernel_rfl),
  f129:=Tryz.func131.trans (congrArg some (by kernel_rfl)),
  f171:=Tryz.func71.trans (congrArg some (by kernel_rfl)),
  f243:=Tryz.func95.trans (congrArg some (by kernel_rfl)),
  f246:=Tryz.func116.trans (congrArg some (by kernel_rfl)),
  f283:=Tryz.func134.trans (congrArg some (by kernel_rfl)),
  f284:=Tryz.func135.trans (congrArg some (by kernel_rfl)),
  f285:=Tryz.func136.trans (congrArg some (by kernel_rfl)),
  f286:=Tryz.func137.trans (congrArg some (by kernel_rfl)),
  f317:=Tryz.func147.trans (congrArg some (by kernel_rfl)),
  f318:=Tryz.func148.trans (congrArg some (by kernel_rfl)),
  f319:=Tryz.func149.trans (congrArg some (by kernel_rfl)),
  f320:=Tryz.func150.trans (congrArg some (by kernel_rfl)),
  f337:=Tryz.func158.trans (congrArg some (by kernel_rfl)),
  f338:=Tryz.func159.trans (congrArg some (by kernel_rfl)),
  t0:=Tryz.underlying0,
  a0:=Tryz.isAgg0,
  z0:=Tryz.sizeOf0,
  v0:=Tryz.zeroValue0,
  t2:=Tryz.underlying2,
  a2:=Tryz.isAgg2,
  z2:=Tryz.sizeOf2,
  v2:=Tryz.zeroValue2,
  t3:=Tryz.underlying3,
  a3:=Tryz.isAgg3,
  z3:=Tryz.sizeOf3,
  v3:=Tryz.zeroValue3,
  t4:=Tryz.underlying4,
  a4:=Tryz.isAgg4,
  z4:=Tryz.sizeOf4,
  v4:=Tryz.zeroValue4,
  t5:=Tryz.underlying5,
  a5:=Tryz.isAgg5,
  z5:=Tryz.sizeOf5,
  v5:=Tryz.zeroValue5,
  t9:=Tryz.underlying9,
  a9:=Tryz.isAgg9,
  z9:=Tryz.sizeOf9,
  v9:=Tryz.zeroValue9,
  t20:=Tryz.underlying20,
  a20:=Tryz.isAgg20,
  z20:=Tryz.sizeOf20,
  v20:=Tryz.zeroValue20,
  t37:=Tryz.underlying182,
  a37:=Tryz.isAgg182,
  z37:=Tryz.sizeOf182,
  v37:=Tryz.zeroValue182,
  t46:=Tryz.underlying156,
  a46:=Tryz.isAgg156,
  z46:=Tryz.sizeOf156,
  v46:=Tryz.zeroValue156,
  t51:=Tryz.underlying175,
  a51:=Tryz.isAgg175,
  z51:=Tryz.sizeOf175,
  v51:=Tryz.zeroValue175,
  t53:=Tryz.underlying177,
  a53:=Tryz.isAgg177,
  z53:=Tryz.sizeOf177,
  v53:=Tryz.zeroValue177,
  t171:=Tryz.underlying180,
  a171:=Tryz.isAgg180,
  z171:=Tryz.sizeOf180,
  v171:=Tryz.zeroValue180,
  t173:=Tryz.underlying183,
  a173:=Tryz.isAgg183,
  z173:=Tryz.sizeOf183,
  v173:=Tryz.zeroValue183,
  t212:=Tryz.underlying195,
  a212:=Tryz.isAgg195,
  z212:=Tryz.sizeOf195,
  v212:=Tryz.zeroValue195,
  t213:=Tryz.underlying196,
  a213:=Tryz.isAgg196,
  z213:=Tryz.sizeOf196,
  t232:=Tryz.underlying205,
  a232:=Tryz.isAgg205,
  z232:=Tryz.sizeOf205,
  v232:=Tryz.zeroValue205,
  t233:=Tryz.underlying206,
  a233:=Tryz.isAgg206,
  z233:=Tryz.sizeOf206,
  v233:=Tryz.zeroValue206,
  g17:=(by kernel_rfl),
  g18:=(by kernel_rfl),
  g19:=(by kernel_rfl),
  i0:=(by kernel_rfl),
  i2:=(by kernel_rfl),
  i3:=(by kernel_rfl),
  i4:=(by kernel_rfl),
  i5:=(by kernel_rfl),
  i9:=(by kernel_rfl),
  i20:=(by kernel_rfl),
  i37:=(by kernel_rfl),
  i46:=(by kernel_rfl),
  i51:=(by kernel_rfl),
  i53:=(by kernel_rfl),
  i171:=(by kernel_rfl),
  i173:=(by kernel_rfl),
  i212:=(by kernel_rfl),
  i232:=(by kernel_rfl),
  i233:=(by kernel_rfl),
  m17:=(by kernel_rfl),
  m18:=(by kernel_rfl),
  m19:=(by kernel_rfl)}
theorem itoCall71:callable Tryz.prog 71:=⟨_,Tryz.func71,by kernel_rfl,by kernel_rfl⟩
theorem itoa71_pure (n:Int) (h0: -9223372036854775808≤n) (h1:n≤9223372036854775807):PureC Tryz.prog 71 [iV n] (.str (Lib.itoa n)):=itoa_pure itoLay71 itoCall71 (.head _) n h0 h1
end Go.Proofs.YteehaobohaecmaaGreatDoor
namespace Go.Proofs.YteehaobohaecmaaGreatDoor
open Go Go.Proofs
theorem vtext_pure_step (f:Fm) (hok:okF f=true) (hz:f.sz≤4096) (ih: ∀ (g:Fm),g.sz < f.sz→okF g=true→g.sz≤4096→PureC Tryz.prog 73 [(V.agg [(iV (g.op)),(iV (g.arg)),(V.sl (List.map cF (g.kids)))])] (V.str ((kyF g)))):PureC Tryz.prog 73 [(V.agg [(iV (f.op)),(iV (f.arg)),(V.sl (List.map cF (f.kids)))])] (V.str ((kyF f))):=by
 refine pW Tryz.func73 s73_ok fun hB=>?_
 unfold s73
 dsimp only
 have hp:=okF_parts hok
 have hr:=rgt_ok hp.1
 have hln:=f.sz_len
 have hi1:=itoa_len (n:=f.op) (by omega) (by omega)
 have hi2:=itoa_len (n:=f.arg) (by omega) (by omega)
 refine W_r (R_box (i:=1) (n:=0) (m:=3) (cs:=[(iV (f.op)),(iV (f.arg)),(V.sl (List.map cF (f.kids)))]) rfl (congrArg Blk.ver rfl) rfl rfl rfl (R_mv rfl (R_e (W_r (R_fk rfl rfl (R_lk rfl rfl rfl rfl (R_callk (itoa71_pure f.op (by omega) (by omega)) rfl ?_)))))))
 refine R_sadd (s:=((Lib.itoa f.op))) (t:=([46])) rfl rfl (by (simp only [List.length_append,List.length_cons,List.length_nil]; omega)) (R_fk rfl rfl (R_lk rfl rfl rfl rfl (R_callk (itoa71_pure f.arg (by omega) (by omega)) rfl (R_sadd (s:=((Lib.itoa f.op)++[46])) (t:=((Lib.itoa f.arg))) rfl rfl (by (simp only [List.length_append,List.length_cons,List.length_nil]; omega)) (R_sadd (s:=((Lib.itoa f.op)++[46]++(Lib.itoa f.arg))) (t:=([40])) rfl rfl (by (simp only [List.length_append,List.length_cons,List.length_nil]; omega)) (R_mv rfl (R_e ?_)))))))
 refine W_seq_seq (W_r (R_fk rfl rfl (R_lk rfl rfl rfl rfl (R_len rfl (R_mv rfl (R_e (W_seq_blockg fun Q1 n1 x1 y1 z1=>?_)))))))
 refine W_loop (fun mm T H=> ∃ (k:Nat) (v5:Nat),mm=f.kids.length - k∧T 3=(V.str (Lib.itoa f.op++[46]++Lib.itoa f.arg++[40]++kyL (f.kids.take k)))∧T 16=(V.sl (List.map cF (f.kids)))∧T 17=(iV ((f.kids.length:Nat):Int))∧T 18=(iV ((k:Nat):Int))∧H 1=(bk 1 24 3 [[(iV (f.op)),(iV (f.arg)),(V.sl (List.map cF (f.kids)))]])∧(H 5).ver=v5∧(k≤f.kids.length)) ?_ ?_
 ·
  refine ⟨_,0,0,rfl,(Eq.trans (@rfl V (V.str ((Lib.itoa f.op)++[46]++(Lib.itoa f.arg)++[40]))) (by simp [kyL])),rfl,rfl,(Eq.trans (@rfl V (iV (0:Int))) rfl),rfl,(congrArg Blk.ver rfl),?_⟩
  · omega
 intro mm T H ⟨k,v5,hmm,t3,t16,t17,t18,h1,h5,hk⟩ Q2 p12 p22 p32
 unfold b73_0
 have hq:=ky_bnd hok hz k
 have hq2:k < f.kids.length→(kyF (nth f.kids k)).length≤131072:=fun h=>kyT_len (hp.2 k h) (Nat.le_trans (Nat.le_of_lt (Fm.sz_kid h)) hz)
 refine W_r (R_lss t18 t17 (R_e ?_))
 refine W_seq_if rfl (fun c3=>?_) fun c3=>?_
 ·
  refine W_seq_skip (W_seq_blockg fun Q4 n4 x4 y4 z4=>(W_r (R_idxu (i:=k) t16 t18 (by omega) (cF_eq _) rfl (R_load_pp rfl rfl (R_alloc (i:=5) (n:=v5) (m:=3) rfl h5 rfl (R_sk rfl rfl rfl rfl rfl rfl rfl rfl rfl (R_e ?_)))))))
  refine W_t (R_mv t3 (R_lk rfl rfl rfl rfl (R_callk (ih (((nth (f.kids) (k)))) (Fm.sz_kid (by omega)) (hp.2 _ (by omega)) (Nat.le_trans (Nat.le_of_lt (Fm.sz_kid (by omega))) hz)) rfl (R_sadd (s:=(Lib.itoa f.op++[46]++Lib.itoa f.arg++[40]++kyL (f.kids.take k))) (t:=((kyF (((nth (f.kids) (k))))))) rfl rfl (by (simp only [List.length_append,List.length_cons,List.length_nil]; omega)) (R_mv rfl (R_e (n4 _ _ ?_)))))))
  refine .done (W_t (R_addN t18 (@rfl V (iV ((1:Nat):Int))) (by omega) (R_mv rfl (R_e ?_))))
  refine p12 _ _ _ ?_ ⟨(k+1),(v5+1),rfl,(Eq.trans (@rfl V (V.str (Lib.itoa f.op++[46]++Lib.itoa f.arg++[40]++kyL (f.kids.take k)++(kyF (((nth (f.kids) (k)))))))) (by (rw [kyL_step (by omega),← List.append_assoc]; done))),t16,t17,(Eq.trans (@rfl V (iV ((k+1:Nat):Int))) (by rfl)),h1,(congrArg Blk.ver rfl),?_⟩
  · omega
  · omega
 refine W_seq_exit (p32 _ _ _ (x1 _ _ (.done (W_r (R_mv t3 (R_sadd (s:=(Lib.itoa f.op++[46]++Lib.itoa f.arg++[40]++kyL (f.kids.take k))) (t:=([41])) rfl rfl (by (simp only [List.length_append,List.length_cons,List.length_nil]; omega)) (R_mv rfl ?_)))))))
 refine R_e (W_ret ?_)
 refine Ret_1 (@rfl V (V.str (Lib.itoa f.op++[46]++Lib.itoa f.arg++[40]++kyL (f.kids.take k)++[41]))) (fz_canon (by simp) ?_)
 · rw [kyF_eq,show k=f.kids.length by omega,List.take_length]; simp [List.append_assoc]
theorem vtext_pure (f:Fm) (hok:okF f=true) (hz:f.sz≤4096):PureC Tryz.prog 73 [(V.agg [(iV (f.op)),(iV (f.arg)),(V.sl (List.map cF (f.kids)))])] (V.str ((kyF f))):=by
  have key: ∀ (mm:Nat) (f:Fm),f.sz < mm→okF f=true→f.sz≤4096→PureC Tryz.prog 73 [(V.agg [(iV (f.op)),(iV (f.arg)),(V.sl (List.map cF (f.kids)))])] (V.str ((kyF f))):=by
    intro mm
    induction mm with
    |zero=>intro f hlt; exact absurd hlt (Nat.not_lt_zero _)
    | succ mm ih =>
      intro f hlt hok hz
      exact vtext_pure_step f hok hz fun f2 hlt2=>ih f2 (by omega)
  exact key (f.sz+1) f (Nat.lt_succ_self _) hok hz
theorem find_new_E (l:List Pl) (q:Pl) (ls:Int) (lk:List UInt8) (v11 vm v8 u3 u6:Nat) (hn:fndN l q) (Hi:Heap) (h11:Hi 11=(bk v11 92 4 [[(V.mm 43 vm),(V.ms 815 v8 0 (l.length)),(iV (ls)),(V.str lk)]])) (hm:Hi 43=(bz vm mapH 2 (entS (List.map plK l)))) (h8:Hi 815=(bz v8 95 5 (List.map cPl (l)))) (h3:(Hi 1003).ver=u3) (h6:(Hi 1006).ver=u6∧(Hi 1006).live=false) (hl:l.length≤4096) (hq:fval q.f=0) (hk:ls=q.s→lk=kyF q.f→inPl l q.s q.f=true):CallOK Tryz.prog 51 [(V.mp 11 v11 0 0),(V.agg [(iV (q.s)),(iV (q.f.op)),(iV (q.f.arg)),(V.sl (List.map cF (q.f.kids))),(ints q.w)])] Hi (V.tup [(V.bool ((fnd l q).1)),(iV ((fnd l q).2))]) (upd (upd (upd (upd (upd Hi 1003 (⟨u3+1,false,false,0,0,[]⟩:Blk)) 1006 (⟨u6+1,false,false,0,0,[]⟩:Blk)) 43 (bz vm mapH 2 (entS (List.map plK (l++[q]))))) 815 (bz (v8+1) 95 5 (List.map cPl (l++[q])))) 11 (bk v11 92 4 [[(V.mm 43 vm),(V.ms 815 (v8+1) 0 ((l++[q]).length)),(iV (q.s)),(V.str (kyF q.f))]])):=by
 refine eW (k0:=1000) Tryz.func51 s51_ok fun hB=>?_
 unfold s51
 dsimp only
 refine W_r (R_box (i:=1003) (n:=u3) (m:=5) (cs:=[(iV (q.s)),(iV (q.f.op)),(iV (q.f.arg)),(V.sl (List.map cF (q.f.kids))),(ints q.w)]) (by rfl) h3 rfl rfl rfl (R_mv rfl (R_mv rfl (R_e (W_d (by exact (lateC (h6).2 lateN)) (R_fk rfl rfl (R_lk rfl rfl rfl rfl ?_)))))))
 refine R_fk rfl rfl (R_lk rfl rfl rfl rfl (R_callk (vtext_pure q.f (fval_ok hq) (fval_sz hq)) rfl (R_build rfl rfl (R_alloc (i:=1006) (n:=u6) (m:=2) (by rfl) (h6).1 rfl (R_sk rfl rfl rfl rfl rfl rfl rfl rfl rfl (R_e (W_seq_seq ?_)))))))
 refine W_r (R_lk rfl rfl rfl rfl (R_mv rfl (R_nilck_mp rfl h11 oB (R_fk rfl h11 (R_lk rfl h11 rfl rfl (R_aeqS rfl rfl (R_mv rfl ?_)))))))
 refine Ops_seg 7 (fun T H=>T 0=(V.mp 11 v11 0 0)∧T 3=(V.mp 1003 (u3+1) 0 0)∧T 6=(V.mp 1006 (u6+1) 0 0)∧T 28=(V.bool ((decide ((q.s)=(ls)∧(kyF q.f)=lk)||((decide ((q.s,kyF q.f)∈List.map plK l))))))∧(∀ j,j∉[1003,1006,43,815,11]→H j=Hi j)∧H 11=(bk v11 92 4 [[(V.mm 43 vm),(V.ms 815 v8 0 (l.length)),(iV (ls)),(V.str lk)]])∧H 43=(bz vm mapH 2 (entS (List.map plK l)))∧H 815=(bz v8 95 5 (List.map cPl (l)))∧H 1003=(bk (u3+1) 95 5 [[(iV (q.s)),(iV (q.f.op)),(iV (q.f.arg)),(V.sl (List.map cF (q.f.kids))),(ints q.w)]])∧H 1006=(bk (u6+1) 90 2 [[(iV (q.s)),(V.str ((kyF q.f)))]])∧True) ?_ ?_
 ·
  by_cases g1:(q.s)=(ls)∧(kyF q.f)=lk
  ·
   refine G_n (edT g1 rfl) (G_n (edT g1 rfl) (G_n (edT g1 rfl) (G_n (edT g1 rfl) (G_n (edT g1 rfl) (G_n (edT g1 rfl) (R_pickT (edT g1 rfl) rfl ?_))))))
   exact ⟨rfl,rfl,rfl,(dborT g1),(upd_out (upd_out (upd_out (fun _ _=>rfl) (by decide)) (by decide)) (by decide)),h11,hm,h8,rfl,rfl,trivial⟩
  ·
   refine G_yes (edF g1 rfl) (R_mv rfl (G_yes (edF g1 rfl) (R_nilck_mp rfl h11 oB (G_yes (edF g1 rfl) (R_fk rfl h11 (G_yes (edF g1 rfl) (R_lk rfl h11 rfl rfl ?_)))))))
   refine G_yes (edF g1 rfl) (R_lk rfl rfl rfl rfl (G_yes (edF g1 rfl) (R_mlook1 (z:=(V.bool false)) (u:=(V.bool ((decide ((q.s,kyF q.f)∈List.map plK l))))) (f:=((decide ((q.s,kyF q.f)∈List.map plK l)))) (@rfl V (V.mm 43 vm)) (@rfl V (V.agg [(iV (q.s)),(V.str ((kyF q.f)))])) hm (lookS (k:=(q.s,kyF q.f))) (R_pickF (edF g1 rfl) rfl ?_))))
   exact ⟨rfl,rfl,rfl,(dborF g1),(upd_out (upd_out (upd_out (fun _ _=>rfl) (by decide)) (by decide)) (by decide)),h11,hm,h8,rfl,rfl,trivial⟩
 intro T H ⟨t0,t3,t6,t28,hF,h11,h43,h815,h1003,h1006,_⟩
 refine R_e ?_
 refine W_seq_ifb t28 (fun c2=>?_) (fun c2=>?_)
 · exfalso; exact hn (.inl (fnd_in (q:=q) hk c2))
 obtain ⟨i0,hnew⟩:=fnd_ni (q:=q) c2
 refine W_seq_skip (W_r (R_fk t3 h1003 (R_lk rfl h1003 rfl rfl (R_callk (mends_pure q.f) rfl (R_mv rfl (R_ext rfl rfl (R_ext rfl rfl ?_)))))))
 refine R_mv rfl (R_mv rfl (R_e (W_seq_seq (W_r (R_mv rfl (R_neq rfl rfl (R_mv rfl ?_)))))))
 refine Ops_seg 3 (fun T H=>T 0=(V.mp 11 v11 0 0)∧T 3=(V.mp 1003 (u3+1) 0 0)∧T 6=(V.mp 1006 (u6+1) 0 0)∧T 8=(iV (enE q.f))∧T 40=(V.bool ((decide ((enE q.f)≠(0:Int))||((!enB q.f)))))∧(∀ j,j∉[1003,1006,43,815,11]→H j=Hi j)∧H 11=(bk v11 92 4 [[(V.mm 43 vm),(V.ms 815 v8 0 (l.length)),(iV (ls)),(V.str lk)]])∧H 43=(bz vm mapH 2 (entS (List.map plK l)))∧H 815=(bz v8 95 5 (List.map cPl (l)))∧H 1003=(bk (u3+1) 95 5 [[(iV (q.s)),(iV (q.f.op)),(iV (q.f.arg)),(V.sl (List.map cF (q.f.kids))),(ints q.w)]])∧H 1006=(bk (u6+1) 90 2 [[(iV (q.s)),(V.str ((kyF q.f)))]])∧True) ?_ ?_
 ·
  by_cases g3:(enE q.f)≠(0:Int)
  ·
   refine G_n (edT g3 rfl) (G_n (edT g3 rfl) (R_pickT (edT g3 rfl) rfl ?_))
   exact ⟨t0,t3,t6,rfl,(dborT g3),hF,h11,h43,h815,h1003,h1006,trivial⟩
  ·
   refine G_yes (edF g3 rfl) (R_mv rfl (G_yes (edF g3 rfl) (R_notb rfl (R_pickF (edF g3 rfl) rfl ?_))))
   exact ⟨t0,t3,t6,rfl,(dborF g3),hF,h11,h43,h815,h1003,h1006,trivial⟩
 intro T H ⟨t0,t3,t6,t8,t40,hF,h11,h43,h815,h1003,h1006,_⟩
 refine R_e ?_
 refine W_seq_ifb t40 (fun c4=>?_) (fun c4=>?_)
 · exfalso; exact hn (.inr (by rcases (show enE q.f≠0∨enB q.f=false by simpa using c4) with e|e; exact .inl e; exact .inr (.inl e)))
 have i2: ¬(enE q.f≠0∨enB q.f=false):=by simpa using c4
 refine W_seq_skip (W_seq_seq (W_r (R_mv t0 (R_nilck_mp rfl h11 oB (R_fk rfl h11 (R_lk rfl h11 rfl rfl (R_len_ms rfl h815 (by simp) ?_)))))))
 refine R_eql rfl rfl (R_e ?_)
 refine W_seq_if rfl (fun c5=>?_) fun c5=>?_
 · exfalso; exact hn (.inr (.inr (.inr (by omega))))
 refine W_seq_skip (W_r (R_mv t0 (R_nilck_mp rfl h11 oB (R_fk rfl h11 (R_lk rfl h11 rfl rfl (R_lk t6 h1006 rfl rfl (R_mset (B':=(bz vm mapH 2 (entS (List.map plK (l++[q]))))) (@rfl V (V.mm 43 vm)) (@rfl V (V.agg [(iV (q.s)),(V.str ((kyF q.f)))])) (@rfl V (V.bool true)) h43 ((setS hnew).trans (by rw [List.map_append]; rfl)) ?_)))))))
 refine R_e (W_r (R_mv t0 (R_lk t6 h1006 rfl rfl (R_nilck_mp rfl h11 oB (R_fk rfl h11 (R_sk rfl rfl rfl h11 rfl rfl rfl rfl rfl (R_e ?_)))))))
 refine W_r (R_mv t0 (R_mv t0 (R_nilck_mp rfl rfl oB (R_fk rfl rfl (R_lk rfl rfl rfl rfl (R_lk t3 h1003 rfl rfl (R_bslice rfl rfl ?_)))))))
 refine R_append1 (l:=l) (f:=cPl) (x:=q) (@rfl V (V.ms 815 v8 0 (l.length))) h815 (by rfl) (@rfl V (V.sl [[(iV (q.s)),(iV (q.f.op)),(iV (q.f.arg)),(V.sl (List.map cF (q.f.kids))),(ints q.w)]])) rfl rfl (by omega) (by omega) (R_nilck_mp rfl rfl oB (R_fk rfl rfl (R_sk rfl rfl rfl rfl rfl rfl rfl rfl rfl (R_e (W_r (R_mv rfl (R_mv rfl ?_)))))))
 refine R_e (W_ret (fork_ (R:=fun T H=>T 4=(V.bool false)∧T 5=(iV (0:Int))∧(∀ j,j∉[1003,1006,43,815,11]→H j=Hi j)∧H 11=(bk v11 92 4 [[(V.mm 43 vm),(V.ms 815 (v8+1) 0 (l.length+1)),(iV (q.s)),(V.str ((kyF q.f)))]])∧H 43=(bz vm mapH 2 (entS (List.map plK (l++[q]))))∧H 815=(bz (v8+1) 95 5 (List.map cPl (l++[q])))∧H 1003=(bk (u3+1) 95 5 [[(iV (q.s)),(iV (q.f.op)),(iV (q.f.arg)),(V.sl (List.map cF (q.f.kids))),(ints q.w)]])∧H 1006=(bk (u6+1) 90 2 [[(iV (q.s)),(V.str ((kyF q.f)))]])∧True) ⟨(@rfl V (V.bool false)),(@rfl V (iV (0:Int))),(upd_out (upd_out (upd_out (upd_out hF (by decide)) (by decide)) (by decide)) (by decide)),rfl,rfl,rfl,h1003,h1006,trivial⟩ ?_))
 intro T H ⟨t4,t5,hF,h11,h43,h815,h1003,h1006,_⟩
 have d:=(fnd_new hn).1
 have fh:=FinX.fin (FinX.put (B:=(bk v11 92 4 [[(V.mm 43 vm),(V.ms 815 (v8+1) 0 ((l++[q]).length)),(iV (q.s)),(V.str (kyF q.f))]])) (FinX.put (FinX.put (FinX.putv (n:=(u6+1)) (B:=(⟨u6+1,false,false,0,0,[]⟩:Blk)) (FinX.putv (n:=(u3+1)) (B:=(⟨u3+1,false,false,0,0,[]⟩:Blk)) (FinX.start hF) (congrArg Blk.ver h1003) (by show _≤u3+1; omega) rfl) (congrArg Blk.ver h1006) (by show _≤u6+1; omega) rfl) h43 (FinB.eq rfl)) h815 (FinB.eq rfl)) h11 (FinB.eq (by simp)))
 exact RetF_2 t4 t5 fh (FinV.trans_eq (FinV.same fh _) (by (rw [d]; done))) (FinV.trans_eq (FinV.same fh _) (by (rw [d]; done)))
theorem find_old_E (l:List Pl) (q:Pl) (ls:Int) (lk:List UInt8) (v11 vm v8 u3 u6:Nat) (hn: ¬fndN l q) (Hi:Heap) (h11:Hi 11=(bk v11 92 4 [[(V.mm 43 vm),(V.ms 815 v8 0 (l.length)),(iV (ls)),(V.str lk)]])) (hm:Hi 43=(bz vm mapH 2 (entS (List.map plK l)))) (h8:Hi 815=(bz v8 95 5 (List.map cPl (l)))) (h3:(Hi 1003).ver=u3) (h6:(Hi 1006).ver=u6∧(Hi 1006).live=false) (hl:l.length≤4096) (hq:fval q.f=0) (hk:ls=q.s→lk=kyF q.f→inPl l q.s q.f=true):CallOK Tryz.prog 51 [(V.mp 11 v11 0 0),(V.agg [(iV (q.s)),(iV (q.f.op)),(iV (q.f.arg)),(V.sl (List.map cF (q.f.kids))),(ints q.w)])] Hi (V.tup [(V.bool ((fnd l q).1)),(iV ((fnd l q).2))]) (upd (upd Hi 1003 (⟨u3+1,false,false,0,0,[]⟩:Blk)) 1006 (⟨u6+1,false,false,0,0,[]⟩:Blk)):=by
 refine eW (k0:=1000) Tryz.func51 s51_ok fun hB=>?_
 unfold s51
 dsimp only
 refine W_r (R_box (i:=1003) (n:=u3) (m:=5) (cs:=[(iV (q.s)),(iV (q.f.op)),(iV (q.f.arg)),(V.sl (List.map cF (q.f.kids))),(ints q.w)]) (by rfl) h3 rfl rfl rfl (R_mv rfl (R_mv rfl (R_e (W_d (by exact (lateC (h6).2 lateN)) (R_fk rfl rfl (R_lk rfl rfl rfl rfl ?_)))))))
 refine R_fk rfl rfl (R_lk rfl rfl rfl rfl (R_callk (vtext_pure q.f (fval_ok hq) (fval_sz hq)) rfl (R_build rfl rfl (R_alloc (i:=1006) (n:=u6) (m:=2) (by rfl) (h6).1 rfl (R_sk rfl rfl rfl rfl rfl rfl rfl rfl rfl (R_e (W_seq_seq ?_)))))))
 refine W_r (R_lk rfl rfl rfl rfl (R_mv rfl (R_nilck_mp rfl h11 oB (R_fk rfl h11 (R_lk rfl h11 rfl rfl (R_aeqS rfl rfl (R_mv rfl ?_)))))))
 refine Ops_seg 7 (fun T H=>T 0=(V.mp 11 v11 0 0)∧T 3=(V.mp 1003 (u3+1) 0 0)∧T 6=(V.mp 1006 (u6+1) 0 0)∧T 28=(V.bool ((decide ((q.s)=(ls)∧(kyF q.f)=lk)||((decide ((q.s,kyF q.f)∈List.map plK l))))))∧(∀ j,j∉[1003,1006]→H j=Hi j)∧H 11=(bk v11 92 4 [[(V.mm 43 vm),(V.ms 815 v8 0 (l.length)),(iV (ls)),(V.str lk)]])∧H 43=(bz vm mapH 2 (entS (List.map plK l)))∧H 815=(bz v8 95 5 (List.map cPl (l)))∧H 1003=(bk (u3+1) 95 5 [[(iV (q.s)),(iV (q.f.op)),(iV (q.f.arg)),(V.sl (List.map cF (q.f.kids))),(ints q.w)]])∧H 1006=(bk (u6+1) 90 2 [[(iV (q.s)),(V.str ((kyF q.f)))]])∧True) ?_ ?_
 ·
  by_cases g1:(q.s)=(ls)∧(kyF q.f)=lk
  ·
   refine G_n (edT g1 rfl) (G_n (edT g1 rfl) (G_n (edT g1 rfl) (G_n (edT g1 rfl) (G_n (edT g1 rfl) (G_n (edT g1 rfl) (R_pickT (edT g1 rfl) rfl ?_))))))
   exact ⟨rfl,rfl,rfl,(dborT g1),(upd_out (upd_out (upd_out (fun _ _=>rfl) (by decide)) (by decide)) (by decide)),h11,hm,h8,rfl,rfl,trivial⟩
  ·
   refine G_yes (edF g1 rfl) (R_mv rfl (G_yes (edF g1 rfl) (R_nilck_mp rfl h11 oB (G_yes (edF g1 rfl) (R_fk rfl h11 (G_yes (edF g1 rfl) (R_lk rfl h11 rfl rfl ?_)))))))
   refine G_yes (edF g1 rfl) (R_lk rfl rfl rfl rfl (G_yes (edF g1 rfl) (R_mlook1 (z:=(V.bool false)) (u:=(V.bool ((decide ((q.s,kyF q.f)∈List.map plK l))))) (f:=((decide ((q.s,kyF q.f)∈List.map plK l)))) (@rfl V (V.mm 43 vm)) (@rfl V (V.agg [(iV (q.s)),(V.str ((kyF q.f)))])) hm (lookS (k:=(q.s,kyF q.f))) (R_pickF (edF g1 rfl) rfl ?_))))
   exact ⟨rfl,rfl,rfl,(dborF g1),(upd_out (upd_out (upd_out (fun _ _=>rfl) (by decide)) (by decide)) (by decide)),h11,hm,h8,rfl,rfl,trivial⟩
 intro T H ⟨t0,t3,t6,t28,hF,h11,h43,h815,h1003,h1006,_⟩
 refine R_e ?_
 refine W_seq_ifb t28 (fun c2=>?_) (fun c2=>?_)
 ·
  have i1:=fnd_in (q:=q) hk c2
  refine W_seq_seq (W_r (R_mv rfl (R_mv rfl (R_e (W_seq_ret (fork_ (R:=fun T H=>T 4=(V.bool false)∧T 5=(iV (0:Int))∧(∀ j,j∉[1003,1006]→H j=Hi j)∧H 11=(bk v11 92 4 [[(V.mm 43 vm),(V.ms 815 v8 0 (l.length)),(iV (ls)),(V.str lk)]])∧H 43=(bz vm mapH 2 (entS (List.map plK l)))∧H 815=(bz v8 95 5 (List.map cPl (l)))∧H 1003=(bk (u3+1) 95 5 [[(iV (q.s)),(iV (q.f.op)),(iV (q.f.arg)),(V.sl (List.map cF (q.f.kids))),(ints q.w)]])∧H 1006=(bk (u6+1) 90 2 [[(iV (q.s)),(V.str ((kyF q.f)))]])∧True) ⟨(@rfl V (V.bool false)),(@rfl V (iV (0:Int))),hF,h11,h43,h815,h1003,h1006,trivial⟩ ?_))))))
  intro T H ⟨t4,t5,hF,h11,h43,h815,h1003,h1006,_⟩
  have d:=fnd_1 (q:=q) i1
  have fh:=FinX.fin (FinX.putv (n:=(u6+1)) (B:=(⟨u6+1,false,false,0,0,[]⟩:Blk)) (FinX.putv (n:=(u3+1)) (B:=(⟨u3+1,false,false,0,0,[]⟩:Blk)) (FinX.start hF) (congrArg Blk.ver h1003) (by show _≤u3+1; omega) rfl) (congrArg Blk.ver h1006) (by show _≤u6+1; omega) rfl)
  exact RetF_2 t4 t5 fh (FinV.trans_eq (FinV.same fh _) (by (rw [d]; done))) (FinV.trans_eq (FinV.same fh _) (by (rw [d]; done)))
 obtain ⟨i0,hnew⟩:=fnd_ni (q:=q) c2
 refine W_seq_skip (W_r (R_fk t3 h1003 (R_lk rfl h1003 rfl rfl (R_callk (mends_pure q.f) rfl (R_mv rfl (R_ext rfl rfl (R_ext rfl rfl ?_)))))))
 refine R_mv rfl (R_mv rfl (R_e (W_seq_seq (W_r (R_mv rfl (R_neq rfl rfl (R_mv rfl ?_)))))))
 refine Ops_seg 3 (fun T H=>T 0=(V.mp 11 v11 0 0)∧T 3=(V.mp 1003 (u3+1) 0 0)∧T 6=(V.mp 1006 (u6+1) 0 0)∧T 8=(iV (enE q.f))∧T 40=(V.bool ((decide ((enE q.f)≠(0:Int))||((!enB q.f)))))∧(∀ j,j∉[1003,1006]→H j=Hi j)∧H 11=(bk v11 92 4 [[(V.mm 43 vm),(V.ms 815 v8 0 (l.length)),(iV (ls)),(V.str lk)]])∧H 43=(bz vm mapH 2 (entS (List.map plK l)))∧H 815=(bz v8 95 5 (List.map cPl (l)))∧H 1003=(bk (u3+1) 95 5 [[(iV (q.s)),(iV (q.f.op)),(iV (q.f.arg)),(V.sl (List.map cF (q.f.kids))),(ints q.w)]])∧H 1006=(bk (u6+1) 90 2 [[(iV (q.s)),(V.str ((kyF q.f)))]])∧True) ?_ ?_
 ·
  by_cases g3:(enE q.f)≠(0:Int)
  ·
   refine G_n (edT g3 rfl) (G_n (edT g3 rfl) (R_pickT (edT g3 rfl) rfl ?_))
   exact ⟨t0,t3,t6,rfl,(dborT g3),hF,h11,h43,h815,h1003,h1006,trivial⟩
  ·
   refine G_yes (edF g3 rfl) (R_mv rfl (G_yes (edF g3 rfl) (R_notb rfl (R_pickF (edF g3 rfl) rfl ?_))))
   exact ⟨t0,t3,t6,rfl,(dborF g3),hF,h11,h43,h815,h1003,h1006,trivial⟩
 intro T H ⟨t0,t3,t6,t8,t40,hF,h11,h43,h815,h1003,h1006,_⟩
 refine R_e ?_
 refine W_seq_ifb t40 (fun c4=>?_) (fun c4=>?_)
 ·
  have i2:enE q.f≠0∨enB q.f=false:=by simpa using c4
  refine W_seq_seq (W_r (R_mv t8 (R_eql rfl rfl (R_mv t8 (R_mv rfl (R_mv rfl (R_e ?_)))))))
  refine W_seq_ret (fork_ (R:=fun T H=>T 4=(V.bool (decide ((enE q.f)=(0:Int))))∧T 5=(iV (enE q.f))∧(∀ j,j∉[1003,1006]→H j=Hi j)∧H 11=(bk v11 92 4 [[(V.mm 43 vm),(V.ms 815 v8 0 (l.length)),(iV (ls)),(V.str lk)]])∧H 43=(bz vm mapH 2 (entS (List.map plK l)))∧H 815=(bz v8 95 5 (List.map cPl (l)))∧H 1003=(bk (u3+1) 95 5 [[(iV (q.s)),(iV (q.f.op)),(iV (q.f.arg)),(V.sl (List.map cF (q.f.kids))),(ints q.w)]])∧H 1006=(bk (u6+1) 90 2 [[(iV (q.s)),(V.str ((kyF q.f)))]])∧True) ⟨(@rfl V (V.bool (decide ((enE q.f)=(0:Int))))),(@rfl V (iV (enE q.f))),hF,h11,h43,h815,h1003,h1006,trivial⟩ ?_)
  intro T H ⟨t4,t5,hF,h11,h43,h815,h1003,h1006,_⟩
  have d:=fnd_2 (q:=q) i0 i2
  have fh:=FinX.fin (FinX.putv (n:=(u6+1)) (B:=(⟨u6+1,false,false,0,0,[]⟩:Blk)) (FinX.putv (n:=(u3+1)) (B:=(⟨u3+1,false,false,0,0,[]⟩:Blk)) (FinX.start hF) (congrArg Blk.ver h1003) (by show _≤u3+1; omega) rfl) (congrArg Blk.ver h1006) (by show _≤u6+1; omega) rfl)
  exact RetF_2 t4 t5 fh (FinV.trans_eq (FinV.same fh _) (by (rw [d]; done))) (FinV.trans_eq (FinV.same fh _) (by (rw [d]; done)))
 have i2: ¬(enE q.f≠0∨enB q.f=false):=by simpa using c4
 refine W_seq_skip (W_seq_seq (W_r (R_mv t0 (R_nilck_mp rfl h11 oB (R_fk rfl h11 (R_lk rfl h11 rfl rfl (R_len_ms rfl h815 (by simp) ?_)))))))
 refine R_eql rfl rfl (R_e ?_)
 refine W_seq_if rfl (fun c5=>?_) fun c5=>?_
 ·
  have i3:l.length=4096:=by omega
  refine W_seq_seq (W_r (R_mv rfl (R_mv rfl (R_e (W_seq_ret (fork_ (R:=fun T H=>T 4=(V.bool false)∧T 5=(iV (11:Int))∧(∀ j,j∉[1003,1006]→H j=Hi j)∧H 11=(bk v11 92 4 [[(V.mm 43 vm),(V.ms 815 v8 0 (l.length)),(iV (ls)),(V.str lk)]])∧H 43=(bz vm mapH 2 (entS (List.map plK l)))∧H 815=(bz v8 95 5 (List.map cPl (l)))∧H 1003=(bk (u3+1) 95 5 [[(iV (q.s)),(iV (q.f.op)),(iV (q.f.arg)),(V.sl (List.map cF (q.f.kids))),(ints q.w)]])∧H 1006=(bk (u6+1) 90 2 [[(iV (q.s)),(V.str ((kyF q.f)))]])∧True) ⟨(@rfl V (V.bool false)),(@rfl V (iV (11:Int))),hF,h11,h43,h815,h1003,h1006,trivial⟩ ?_))))))
  intro T H ⟨t4,t5,hF,h11,h43,h815,h1003,h1006,_⟩
  have d:=fnd_3 (q:=q) i0 i2 i3
  have fh:=FinX.fin (FinX.putv (n:=(u6+1)) (B:=(⟨u6+1,false,false,0,0,[]⟩:Blk)) (FinX.putv (n:=(u3+1)) (B:=(⟨u3+1,false,false,0,0,[]⟩:Blk)) (FinX.start hF) (congrArg Blk.ver h1003) (by show _≤u3+1; omega) rfl) (congrArg Blk.ver h1006) (by show _≤u6+1; omega) rfl)
  exact RetF_2 t4 t5 fh (FinV.trans_eq (FinV.same fh _) (by (rw [d]; done))) (FinV.trans_eq (FinV.same fh _) (by (rw [d]; done)))
 · exfalso; exact hn (fnd_n (q:=q) i0 i2 (by omega))
theorem find0_new_E (l:List Pl) (qs:Int) (qf:Fm) (ls:Int) (lk:List UInt8) (v11 vm v8 u3 u6:Nat) (hn:fndN l (⟨qs,qf,[]⟩:Pl)) (Hi:Heap) (h11:Hi 11=(bk v11 92 4 [[(V.mm 43 vm),(V.ms 815 v8 0 (l.length)),(iV (ls)),(V.str lk)]])) (hm:Hi 43=(bz vm mapH 2 (entS (List.map plK l)))) (h8:Hi 815=(bz v8 95 5 (List.map cPl (l)))) (h3:(Hi 1003).ver=u3) (h6:(Hi 1006).ver=u6∧(Hi 1006).live=false) (hl:l.length≤4096) (hq:fval qf=0) (hk:ls=qs→lk=kyF qf→inPl l qs qf=true):CallOK Tryz.prog 51 [(V.mp 11 v11 0 0),(V.agg [(iV (qs)),(iV (qf.op)),(iV (qf.arg)),(V.sl (List.map cF (qf.kids))),V.nilsl])] Hi (V.tup [(V.bool ((fnd l (⟨qs,qf,[]⟩:Pl)).1)),(iV ((fnd l (⟨qs,qf,[]⟩:Pl)).2))]) (upd (upd (upd (upd (upd Hi 1003 (⟨u3+1,false,false,0,0,[]⟩:Blk)) 1006 (⟨u6+1,false,false,0,0,[]⟩:Blk)) 43 (bz vm mapH 2 (entS (List.map plK (l++[(⟨qs,qf,[]⟩:Pl)]))))) 815 (bz (v8+1) 95 5 (List.map cPl (l++[(⟨qs,qf,[]⟩:Pl)])))) 11 (bk v11 92 4 [[(V.mm 43 vm),(V.ms 815 (v8+1) 0 ((l++[(⟨qs,qf,[]⟩:Pl)]).length)),(iV (qs)),(V.str (kyF qf))]])):=by
 refine eW (k0:=1000) Tryz.func51 s51_ok fun hB=>?_
 unfold s51
 dsimp only
 refine W_seq_g (fun T H=>T 0=(V.mp 11 v11 0 0)∧T 3=(V.mp 1003 (u3+1) 0 0)∧(∀ j,j∉[1003,1006,43,815,11]→H j=Hi j)∧H 11=(bk v11 92 4 [[(V.mm 43 vm),(V.ms 815 v8 0 (l.length)),(iV (ls)),(V.str lk)]])∧H 43=(bz vm mapH 2 (entS (List.map plK l)))∧H 815=(bz v8 95 5 (List.map cPl (l)))∧H 1003=(bk (u3+1) 95 5 [[(iV (qs)),(iV (qf.op)),(iV (qf.arg)),(V.sl (List.map cF (qf.kids))),V.nilsl]])∧((H 1006).ver=u6∧(H 1006).live=false)∧True) ?_ ?_
 ·
  refine R_box (i:=1003) (n:=u3) (m:=5) (cs:=[(iV (qs)),(iV (qf.op)),(iV (qf.arg)),(V.sl (List.map cF (qf.kids))),V.nilsl]) (by rfl) h3 rfl rfl rfl (R_mv rfl (R_mv rfl ?_))
  exact R_nil ⟨rfl,rfl,(upd_out (fun _ _=>rfl) (by decide)),h11,hm,h8,rfl,h6,trivial⟩
 intro T H ⟨t0,t3,hF,h11,h43,h815,h1003,h1006,_⟩
 refine nz_one (r':=[(iV (qs)),(iV (qf.op)),(iV (qf.arg)),(V.sl (List.map cF (qf.kids))),(ints ([]))]) h1003 rfl (.done ?_)
 refine fork_ (R:=fun T H=>T 0=(V.mp 11 v11 0 0)∧T 3=(V.mp 1003 (u3+1) 0 0)∧(∀ j,j∉[1003,1006,43,815,11]→H j=Hi j)∧H 11=(bk v11 92 4 [[(V.mm 43 vm),(V.ms 815 v8 0 (l.length)),(iV (ls)),(V.str lk)]])∧H 43=(bz vm mapH 2 (entS (List.map plK l)))∧H 815=(bz v8 95 5 (List.map cPl (l)))∧H 1003=(bk (u3+1) 95 5 [[(iV (qs)),(iV (qf.op)),(iV (qf.arg)),(V.sl (List.map cF (qf.kids))),(ints ([]))]])∧((H 1006).ver=u6∧(H 1006).live=false)∧True) ⟨t0,t3,(upd_out hF (by decide)),((upd_ne _ _ (by decide)).trans h11),((upd_ne _ _ (by decide)).trans h43),((upd_ne _ _ (by decide)).trans h815),(upd_same _ _ _),⟨(congrArg Blk.ver (upd_ne _ _ (by decide))).trans (h1006).1,(congrArg Blk.live (upd_ne _ _ (by decide))).trans (h1006).2⟩,trivial⟩ ?_
 intro T H ⟨t0,t3,hF,h11,h43,h815,h1003,h1006,_⟩
 refine W_d (by exact (lateC (h1006).2 lateN)) (R_fk t3 h1003 (R_lk rfl h1003 rfl rfl (R_fk t3 h1003 (R_lk rfl h1003 rfl rfl (R_callk (vtext_pure qf (fval_ok hq) (fval_sz hq)) rfl (R_build rfl rfl (R_alloc (i:=1006) (n:=u6) (m:=2) (by rfl) (h1006).1 rfl ?_)))))))
 refine R_sk rfl rfl rfl rfl rfl rfl rfl rfl rfl (R_e (W_seq_seq (W_r (R_lk rfl rfl rfl rfl (R_mv t0 (R_nilck_mp rfl h11 oB (R_fk rfl h11 ?_)))))))
 refine R_lk rfl h11 rfl rfl (R_aeqS rfl rfl (R_mv rfl ?_))
 refine Ops_seg 7 (fun T H=>T 0=(V.mp 11 v11 0 0)∧T 3=(V.mp 1003 (u3+1) 0 0)∧T 6=(V.mp 1006 (u6+1) 0 0)∧T 28=(V.bool ((decide ((qs)=(ls)∧(kyF qf)=lk)||((decide ((qs,kyF qf)∈List.map plK l))))))∧(∀ j,j∉[1003,1006,43,815,11]→H j=Hi j)∧H 11=(bk v11 92 4 [[(V.mm 43 vm),(V.ms 815 v8 0 (l.length)),(iV (ls)),(V.str lk)]])∧H 43=(bz vm mapH 2 (entS (List.map plK l)))∧H 815=(bz v8 95 5 (List.map cPl (l)))∧H 1003=(bk (u3+1) 95 5 [[(iV (qs)),(iV (qf.op)),(iV (qf.arg)),(V.sl (List.map cF (qf.kids))),(ints ([]))]])∧H 1006=(bk (u6+1) 90 2 [[(iV (qs)),(V.str ((kyF qf)))]])∧True) ?_ ?_
 ·
  by_cases g1:(qs)=(ls)∧(kyF qf)=lk
  ·
   refine G_n (edT g1 rfl) (G_n (edT g1 rfl) (G_n (edT g1 rfl) (G_n (edT g1 rfl) (G_n (edT g1 rfl) (G_n (edT g1 rfl) (R_pickT (edT g1 rfl) rfl ?_))))))
   exact ⟨t0,t3,rfl,(dborT g1),(upd_out (upd_out hF (by decide)) (by decide)),h11,h43,h815,h1003,rfl,trivial⟩
  ·
   refine G_yes (edF g1 rfl) (R_mv t0 (G_yes (edF g1 rfl) (R_nilck_mp rfl h11 oB (G_yes (edF g1 rfl) (R_fk rfl h11 (G_yes (edF g1 rfl) (R_lk rfl h11 rfl rfl ?_)))))))
   refine G_yes (edF g1 rfl) (R_lk rfl rfl rfl rfl (G_yes (edF g1 rfl) (R_mlook1 (z:=(V.bool false)) (u:=(V.bool ((decide ((qs,kyF qf)∈List.map plK l))))) (f:=((decide ((qs,kyF qf)∈List.map plK l)))) (@rfl V (V.mm 43 vm)) (@rfl V (V.agg [(iV (qs)),(V.str ((kyF qf)))])) h43 (lookS (k:=(qs,kyF qf))) (R_pickF (edF g1 rfl) rfl ?_))))
   exact ⟨t0,t3,rfl,(dborF g1),(upd_out (upd_out hF (by decide)) (by decide)),h11,h43,h815,h1003,rfl,trivial⟩
 intro T H ⟨t0,t3,t6,t28,hF,h11,h43,h815,h1003,h1006,_⟩
 refine R_e ?_
 refine W_seq_ifb t28 (fun c2=>?_) (fun c2=>?_)
 · exfalso; exact hn (.inl (fnd_in (q:=(⟨qs,qf,[]⟩:Pl)) hk c2))
 obtain ⟨i0,hnew⟩:=fnd_ni (q:=(⟨qs,qf,[]⟩:Pl)) c2
 refine W_seq_skip (W_r (R_fk t3 h1003 (R_lk rfl h1003 rfl rfl (R_callk (mends_pure qf) rfl (R_mv rfl (R_ext rfl rfl (R_ext rfl rfl ?_)))))))
 refine R_mv rfl (R_mv rfl (R_e (W_seq_seq (W_r (R_mv rfl (R_neq rfl rfl (R_mv rfl ?_)))))))
 refine Ops_seg 3 (fun T H=>T 0=(V.mp 11 v11 0 0)∧T 3=(V.mp 1003 (u3+1) 0 0)∧T 6=(V.mp 1006 (u6+1) 0 0)∧T 8=(iV (enE qf))∧T 40=(V.bool ((decide ((enE qf)≠(0:Int))||((!enB qf)))))∧(∀ j,j∉[1003,1006,43,815,11]→H j=Hi j)∧H 11=(bk v11 92 4 [[(V.mm 43 vm),(V.ms 815 v8 0 (l.length)),(iV (ls)),(V.str lk)]])∧H 43=(bz vm mapH 2 (entS (List.map plK l)))∧H 815=(bz v8 95 5 (List.map cPl (l)))∧H 1003=(bk (u3+1) 95 5 [[(iV (qs)),(iV (qf.op)),(iV (qf.arg)),(V.sl (List.map cF (qf.kids))),(ints ([]))]])∧H 1006=(bk (u6+1) 90 2 [[(iV (qs)),(V.str ((kyF qf)))]])∧True) ?_ ?_
 ·
  by_cases g3:(enE qf)≠(0:Int)
  ·
   refine G_n (edT g3 rfl) (G_n (edT g3 rfl) (R_pickT (edT g3 rfl) rfl ?_))
   exact ⟨t0,t3,t6,rfl,(dborT g3),hF,h11,h43,h815,h1003,h1006,trivial⟩
  ·
   refine G_yes (edF g3 rfl) (R_mv rfl (G_yes (edF g3 rfl) (R_notb rfl (R_pickF (edF g3 rfl) rfl ?_))))
   exact ⟨t0,t3,t6,rfl,(dborF g3),hF,h11,h43,h815,h1003,h1006,trivial⟩
 intro T H ⟨t0,t3,t6,t8,t40,hF,h11,h43,h815,h1003,h1006,_⟩
 refine R_e ?_
 refine W_seq_ifb t40 (fun c4=>?_) (fun c4=>?_)
 · exfalso; exact hn (.inr (by rcases (show enE qf≠0∨enB qf=false by simpa using c4) with e|e; exact .inl e; exact .inr (.inl e)))
 have i2: ¬(enE qf≠0∨enB qf=false):=by simpa using c4
 refine W_seq_skip (W_seq_seq (W_r (R_mv t0 (R_nilck_mp rfl h11 oB (R_fk rfl h11 (R_lk rfl h11 rfl rfl (R_len_ms rfl h815 (by simp) ?_)))))))
 refine R_eql rfl rfl (R_e ?_)
 refine W_seq_if rfl (fun c5=>?_) fun c5=>?_
 · exfalso; exact hn (.inr (.inr (.inr (by omega))))
 refine W_seq_skip (W_r (R_mv t0 (R_nilck_mp rfl h11 oB (R_fk rfl h11 (R_lk rfl h11 rfl rfl (R_lk t6 h1006 rfl rfl (R_mset (B':=(bz vm mapH 2 (entS (List.map plK (l++[(⟨qs,qf,[]⟩:Pl)]))))) (@rfl V (V.mm 43 vm)) (@rfl V (V.agg [(iV (qs)),(V.str ((kyF qf)))])) (@rfl V (V.bool true)) h43 ((setS hnew).trans (by rw [List.map_append]; rfl)) ?_)))))))
 refine R_e (W_r (R_mv t0 (R_lk t6 h1006 rfl rfl (R_nilck_mp rfl h11 oB (R_fk rfl h11 (R_sk rfl rfl rfl h11 rfl rfl rfl rfl rfl (R_e ?_)))))))
 refine W_r (R_mv t0 (R_mv t0 (R_nilck_mp rfl rfl oB (R_fk rfl rfl (R_lk rfl rfl rfl rfl (R_lk t3 h1003 rfl rfl (R_bslice rfl rfl ?_)))))))
 refine R_append1 (l:=l) (f:=cPl) (x:=((⟨qs,qf,[]⟩:Pl))) (@rfl V (V.ms 815 v8 0 (l.length))) h815 (by rfl) (@rfl V (V.sl [[(iV (qs)),(iV (qf.op)),(iV (qf.arg)),(V.sl (List.map cF (qf.kids))),(ints ([]))]])) rfl rfl (by omega) (by omega) (R_nilck_mp rfl rfl oB (R_fk rfl rfl (R_sk rfl rfl rfl rfl rfl rfl rfl rfl rfl (R_e (W_r (R_mv rfl (R_mv rfl ?_)))))))
 refine R_e (W_ret (fork_ (R:=fun T H=>T 4=(V.bool false)∧T 5=(iV (0:Int))∧(∀ j,j∉[1003,1006,43,815,11]→H j=Hi j)∧H 11=(bk v11 92 4 [[(V.mm 43 vm),(V.ms 815 (v8+1) 0 (l.length+1)),(iV (qs)),(V.str ((kyF qf)))]])∧H 43=(bz vm mapH 2 (entS (List.map plK (l++[(⟨qs,qf,[]⟩:Pl)]))))∧H 815=(bz (v8+1) 95 5 (List.map cPl (l++[(⟨qs,qf,[]⟩:Pl)])))∧H 1003=(bk (u3+1) 95 5 [[(iV (qs)),(iV (qf.op)),(iV (qf.arg)),(V.sl (List.map cF (qf.kids))),(ints ([]))]])∧H 1006=(bk (u6+1) 90 2 [[(iV (qs)),(V.str ((kyF qf)))]])∧True) ⟨(@rfl V (V.bool false)),(@rfl V (iV (0:Int))),(upd_out (upd_out (upd_out (upd_out hF (by decide)) (by decide)) (by decide)) (by decide)),rfl,rfl,rfl,h1003,h1006,trivial⟩ ?_))
 intro T H ⟨t4,t5,hF,h11,h43,h815,h1003,h1006,_⟩
 have d:=(fnd_new hn).1
 have fh:=FinX.fin (FinX.put (B:=(bk v11 92 4 [[(V.mm 43 vm),(V.ms 815 (v8+1) 0 ((l++[(⟨qs,qf,[]⟩:Pl)]).length)),(iV (qs)),(V.str (kyF qf))]])) (FinX.put (FinX.put (FinX.putv (n:=(u6+1)) (B:=(⟨u6+1,false,false,0,0,[]⟩:Blk)) (FinX.putv (n:=(u3+1)) (B:=(⟨u3+1,false,false,0,0,[]⟩:Blk)) (FinX.start hF) (congrArg Blk.ver h1003) (by show _≤u3+1; omega) rfl) (congrArg Blk.ver h1006) (by show _≤u6+1; omega) rfl) h43 (FinB.eq rfl)) h815 (FinB.eq rfl)) h11 (FinB.eq (by simp)))
 exact RetF_2 t4 t5 fh (FinV.trans_eq (FinV.same fh _) (by (rw [d]; done))) (FinV.trans_eq (FinV.same fh _) (by (rw [d]; done)))
theorem find0_old_E (l:List Pl) (qs:Int) (qf:Fm) (ls:Int) (lk:List UInt8) (v11 vm v8 u3 u6:Nat) (hn: ¬fndN l (⟨qs,qf,[]⟩:Pl)) (Hi:Heap) (h11:Hi 11=(bk v11 92 4 [[(V.mm 43 vm),(V.ms 815 v8 0 (l.length)),(iV (ls)),(V.str lk)]])) (hm:Hi 43=(bz vm mapH 2 (entS (List.map plK l)))) (h8:Hi 815=(bz v8 95 5 (List.map cPl (l)))) (h3:(Hi 1003).ver=u3) (h6:(Hi 1006).ver=u6∧(Hi 1006).live=false) (hl:l.length≤4096) (hq:fval qf=0) (hk:ls=qs→lk=kyF qf→inPl l qs qf=true):CallOK Tryz.prog 51 [(V.mp 11 v11 0 0),(V.agg [(iV (qs)),(iV (qf.op)),(iV (qf.arg)),(V.sl (List.map cF (qf.kids))),V.nilsl])] Hi (V.tup [(V.bool ((fnd l (⟨qs,qf,[]⟩:Pl)).1)),(iV ((fnd l (⟨qs,qf,[]⟩:Pl)).2))]) (upd (upd Hi 1003 (⟨u3+1,false,false,0,0,[]⟩:Blk)) 1006 (⟨u6+1,false,false,0,0,[]⟩:Blk)):=by
 refine eW (k0:=1000) Tryz.func51 s51_ok fun hB=>?_
 unfold s51
 dsimp only
 refine W_seq_g (fun T H=>T 0=(V.mp 11 v11 0 0)∧T 3=(V.mp 1003 (u3+1) 0 0)∧(∀ j,j∉[1003,1006]→H j=Hi j)∧H 11=(bk v11 92 4 [[(V.mm 43 vm),(V.ms 815 v8 0 (l.length)),(iV (ls)),(V.str lk)]])∧H 43=(bz vm mapH 2 (entS (List.map plK l)))∧H 815=(bz v8 95 5 (List.map cPl (l)))∧H 1003=(bk (u3+1) 95 5 [[(iV (qs)),(iV (qf.op)),(iV (qf.arg)),(V.sl (List.map cF (qf.kids))),V.nilsl]])∧((H 1006).ver=u6∧(H 1006).live=false)∧True) ?_ ?_
 ·
  refine R_box (i:=1003) (n:=u3) (m:=5) (cs:=[(iV (qs)),(iV (qf.op)),(iV (qf.arg)),(V.sl (List.map cF (qf.kids))),V.nilsl]) (by rfl) h3 rfl rfl rfl (R_mv rfl (R_mv rfl ?_))
  exact R_nil ⟨rfl,rfl,(upd_out (fun _ _=>rfl) (by decide)),h11,hm,h8,rfl,h6,trivial⟩
 intro T H ⟨t0,t3,hF,h11,h43,h815,h1003,h1006,_⟩
 refine nz_one (r':=[(iV (qs)),(iV (qf.op)),(iV (qf.arg)),(V.sl (List.map cF (qf.kids))),(ints ([]))]) h1003 rfl (.done ?_)
 refine fork_ (R:=fun T H=>T 0=(V.mp 11 v11 0 0)∧T 3=(V.mp 1003 (u3+1) 0 0)∧(∀ j,j∉[1003,1006]→H j=Hi j)∧H 11=(bk v11 92 4 [[(V.mm 43 vm),(V.ms 815 v8 0 (l.length)),(iV (ls)),(V.str lk)]])∧H 43=(bz vm mapH 2 (entS (List.map plK l)))∧H 815=(bz v8 95 5 (List.map cPl (l)))∧H 1003=(bk (u3+1) 95 5 [[(iV (qs)),(iV (qf.op)),(iV (qf.arg)),(V.sl (List.map cF (qf.kids))),(ints ([]))]])∧((H 1006).ver=u6∧(H 1006).live=false)∧True) ⟨t0,t3,(upd_out hF (by decide)),((upd_ne _ _ (by decide)).trans h11),((upd_ne _ _ (by decide)).trans h43),((upd_ne _ _ (by decide)).trans h815),(upd_same _ _ _),⟨(congrArg Blk.ver (upd_ne _ _ (by decide))).trans (h1006).1,(congrArg Blk.live (upd_ne _ _ (by decide))).trans (h1006).2⟩,trivial⟩ ?_
 intro T H ⟨t0,t3,hF,h11,h43,h815,h1003,h1006,_⟩
 refine W_d (by exact (lateC (h1006).2 lateN)) (R_fk t3 h1003 (R_lk rfl h1003 rfl rfl (R_fk t3 h1003 (R_lk rfl h1003 rfl rfl (R_callk (vtext_pure qf (fval_ok hq) (fval_sz hq)) rfl (R_build rfl rfl (R_alloc (i:=1006) (n:=u6) (m:=2) (by rfl) (h1006).1 rfl ?_)))))))
 refine R_sk rfl rfl rfl rfl rfl rfl rfl rfl rfl (R_e (W_seq_seq (W_r (R_lk rfl rfl rfl rfl (R_mv t0 (R_nilck_mp rfl h11 oB (R_fk rfl h11 ?_)))))))
 refine R_lk rfl h11 rfl rfl (R_aeqS rfl rfl (R_mv rfl ?_))
 refine Ops_seg 7 (fun T H=>T 0=(V.mp 11 v11 0 0)∧T 3=(V.mp 1003 (u3+1) 0 0)∧T 6=(V.mp 1006 (u6+1) 0 0)∧T 28=(V.bool ((decide ((qs)=(ls)∧(kyF qf)=lk)||((decide ((qs,kyF qf)∈List.map plK l))))))∧(∀ j,j∉[1003,1006]→H j=Hi j)∧H 11=(bk v11 92 4 [[(V.mm 43 vm),(V.ms 815 v8 0 (l.length)),(iV (ls)),(V.str lk)]])∧H 43=(bz vm mapH 2 (entS (List.map plK l)))∧H 815=(bz v8 95 5 (List.map cPl (l)))∧H 1003=(bk (u3+1) 95 5 [[(iV (qs)),(iV (qf.op)),(iV (qf.arg)),(V.sl (List.map cF (qf.kids))),(ints ([]))]])∧H 1006=(bk (u6+1) 90 2 [[(iV (qs)),(V.str ((kyF qf)))]])∧True) ?_ ?_
 ·
  by_cases g1:(qs)=(ls)∧(kyF qf)=lk
  ·
   refine G_n (edT g1 rfl) (G_n (edT g1 rfl) (G_n (edT g1 rfl) (G_n (edT g1 rfl) (G_n (edT g1 rfl) (G_n (edT g1 rfl) (R_pickT (edT g1 rfl) rfl ?_))))))
   exact ⟨t0,t3,rfl,(dborT g1),(upd_out (upd_out hF (by decide)) (by decide)),h11,h43,h815,h1003,rfl,trivial⟩
  ·
   refine G_yes (edF g1 rfl) (R_mv t0 (G_yes (edF g1 rfl) (R_nilck_mp rfl h11 oB (G_yes (edF g1 rfl) (R_fk rfl h11 (G_yes (edF g1 rfl) (R_lk rfl h11 rfl rfl ?_)))))))
   refine G_yes (edF g1 rfl) (R_lk rfl rfl rfl rfl (G_yes (edF g1 rfl) (R_mlook1 (z:=(V.bool false)) (u:=(V.bool ((decide ((qs,kyF qf)∈List.map plK l))))) (f:=((decide ((qs,kyF qf)∈List.map plK l)))) (@rfl V (V.mm 43 vm)) (@rfl V (V.agg [(iV (qs)),(V.str ((kyF qf)))])) h43 (lookS (k:=(qs,kyF qf))) (R_pickF (edF g1 rfl) rfl ?_))))
   exact ⟨t0,t3,rfl,(dborF g1),(upd_out (upd_out hF (by decide)) (by decide)),h11,h43,h815,h1003,rfl,trivial⟩
 intro T H ⟨t0,t3,t6,t28,hF,h11,h43,h815,h1003,h1006,_⟩
 refine R_e ?_
 refine W_seq_ifb t28 (fun c2=>?_) (fun c2=>?_)
 ·
  have i1:=fnd_in (q:=(⟨qs,qf,[]⟩:Pl)) hk c2
  refine W_seq_seq (W_r (R_mv rfl (R_mv rfl (R_e (W_seq_ret (fork_ (R:=fun T H=>T 4=(V.bool false)∧T 5=(iV (0:Int))∧(∀ j,j∉[1003,1006]→H j=Hi j)∧H 11=(bk v11 92 4 [[(V.mm 43 vm),(V.ms 815 v8 0 (l.length)),(iV (ls)),(V.str lk)]])∧H 43=(bz vm mapH 2 (entS (List.map plK l)))∧H 815=(bz v8 95 5 (List.map cPl (l)))∧H 1003=(bk (u3+1) 95 5 [[(iV (qs)),(iV (qf.op)),(iV (qf.arg)),(V.sl (List.map cF (qf.kids))),(ints ([]))]])∧H 1006=(bk (u6+1) 90 2 [[(iV (qs)),(V.str ((kyF qf)))]])∧True) ⟨(@rfl V (V.bool false)),(@rfl V (iV (0:Int))),hF,h11,h43,h815,h1003,h1006,trivial⟩ ?_))))))
  intro T H ⟨t4,t5,hF,h11,h43,h815,h1003,h1006,_⟩
  have d:=fnd_1 (q:=(⟨qs,qf,[]⟩:Pl)) i1
  have fh:=FinX.fin (FinX.putv (n:=(u6+1)) (B:=(⟨u6+1,false,false,0,0,[]⟩:Blk)) (FinX.putv (n:=(u3+1)) (B:=(⟨u3+1,false,false,0,0,[]⟩:Blk)) (FinX.start hF) (congrArg Blk.ver h1003) (by show _≤u3+1; omega) rfl) (congrArg Blk.ver h1006) (by show _≤u6+1; omega) rfl)
  exact RetF_2 t4 t5 fh (FinV.trans_eq (FinV.same fh _) (by (rw [d]; done))) (FinV.trans_eq (FinV.same fh _) (by (rw [d]; done)))
 obtain ⟨i0,hnew⟩:=fnd_ni (q:=(⟨qs,qf,[]⟩:Pl)) c2
 refine W_seq_skip (W_r (R_fk t3 h1003 (R_lk rfl h1003 rfl rfl (R_callk (mends_pure qf) rfl (R_mv rfl (R_ext rfl rfl (R_ext rfl rfl ?_)))))))
 refine R_mv rfl (R_mv rfl (R_e (W_seq_seq (W_r (R_mv rfl (R_neq rfl rfl (R_mv rfl ?_)))))))
 refine Ops_seg 3 (fun T H=>T 0=(V.mp 11 v11 0 0)∧T 3=(V.mp 1003 (u3+1) 0 0)∧T 6=(V.mp 1006 (u6+1) 0 0)∧T 8=(iV (enE qf))∧T 40=(V.bool ((decide ((enE qf)≠(0:Int))||((!enB qf)))))∧(∀ j,j∉[1003,1006]→H j=Hi j)∧H 11=(bk v11 92 4 [[(V.mm 43 vm),(V.ms 815 v8 0 (l.length)),(iV (ls)),(V.str lk)]])∧H 43=(bz vm mapH 2 (entS (List.map plK l)))∧H 815=(bz v8 95 5 (List.map cPl (l)))∧H 1003=(bk (u3+1) 95 5 [[(iV (qs)),(iV (qf.op)),(iV (qf.arg)),(V.sl (List.map cF (qf.kids))),(ints ([]))]])∧H 1006=(bk (u6+1) 90 2 [[(iV (qs)),(V.str ((kyF qf)))]])∧True) ?_ ?_
 ·
  by_cases g3:(enE qf)≠(0:Int)
  ·
   refine G_n (edT g3 rfl) (G_n (edT g3 rfl) (R_pickT (edT g3 rfl) rfl ?_))
   exact ⟨t0,t3,t6,rfl,(dborT g3),hF,h11,h43,h815,h1003,h1006,trivial⟩
  ·
   refine G_yes (edF g3 rfl) (R_mv rfl (G_yes (edF g3 rfl) (R_notb rfl (R_pickF (edF g3 rfl) rfl ?_))))
   exact ⟨t0,t3,t6,rfl,(dborF g3),hF,h11,h43,h815,h1003,h1006,trivial⟩
 intro T H ⟨t0,t3,t6,t8,t40,hF,h11,h43,h815,h1003,h1006,_⟩
 refine R_e ?_
 refine W_seq_ifb t40 (fun c4=>?_) (fun c4=>?_)
 ·
  have i2:enE qf≠0∨enB qf=false:=by simpa using c4
  refine W_seq_seq (W_r (R_mv t8 (R_eql rfl rfl (R_mv t8 (R_mv rfl (R_mv rfl (R_e ?_)))))))
  refine W_seq_ret (fork_ (R:=fun T H=>T 4=(V.bool (decide ((enE qf)=(0:Int))))∧T 5=(iV (enE qf))∧(∀ j,j∉[1003,1006]→H j=Hi j)∧H 11=(bk v11 92 4 [[(V.mm 43 vm),(V.ms 815 v8 0 (l.length)),(iV (ls)),(V.str lk)]])∧H 43=(bz vm mapH 2 (entS (List.map plK l)))∧H 815=(bz v8 95 5 (List.map cPl (l)))∧H 1003=(bk (u3+1) 95 5 [[(iV (qs)),(iV (qf.op)),(iV (qf.arg)),(V.sl (List.map cF (qf.kids))),(ints ([]))]])∧H 1006=(bk (u6+1) 90 2 [[(iV (qs)),(V.str ((kyF qf)))]])∧True) ⟨(@rfl V (V.bool (decide ((enE qf)=(0:Int))))),(@rfl V (iV (enE qf))),hF,h11,h43,h815,h1003,h1006,trivial⟩ ?_)
  intro T H ⟨t4,t5,hF,h11,h43,h815,h1003,h1006,_⟩
  have d:=fnd_2 (q:=(⟨qs,qf,[]⟩:Pl)) i0 i2
  have fh:=FinX.fin (FinX.putv (n:=(u6+1)) (B:=(⟨u6+1,false,false,0,0,[]⟩:Blk)) (FinX.putv (n:=(u3+1)) (B:=(⟨u3+1,false,false,0,0,[]⟩:Blk)) (FinX.start hF) (congrArg Blk.ver h1003) (by show _≤u3+1; omega) rfl) (congrArg Blk.ver h1006) (by show _≤u6+1; omega) rfl)
  exact RetF_2 t4 t5 fh (FinV.trans_eq (FinV.same fh _) (by (rw [d]; done))) (FinV.trans_eq (FinV.same fh _) (by (rw [d]; done)))
 have i2: ¬(enE qf≠0∨enB qf=false):=by simpa using c4
 refine W_seq_skip (W_seq_seq (W_r (R_mv t0 (R_nilck_mp rfl h11 oB (R_fk rfl h11 (R_lk rfl h11 rfl rfl (R_len_ms rfl h815 (by simp) ?_)))))))
 refine R_eql rfl rfl (R_e ?_)
 refine W_seq_if rfl (fun c5=>?_) fun c5=>?_
 ·
  have i3:l.length=4096:=by omega
  refine W_seq_seq (W_r (R_mv rfl (R_mv rfl (R_e (W_seq_ret (fork_ (R:=fun T H=>T 4=(V.bool false)∧T 5=(iV (11:Int))∧(∀ j,j∉[1003,1006]→H j=Hi j)∧H 11=(bk v11 92 4 [[(V.mm 43 vm),(V.ms 815 v8 0 (l.length)),(iV (ls)),(V.str lk)]])∧H 43=(bz vm mapH 2 (entS (List.map plK l)))∧H 815=(bz v8 95 5 (List.map cPl (l)))∧H 1003=(bk (u3+1) 95 5 [[(iV (qs)),(iV (qf.op)),(iV (qf.arg)),(V.sl (List.map cF (qf.kids))),(ints ([]))]])∧H 1006=(bk (u6+1) 90 2 [[(iV (qs)),(V.str ((kyF qf)))]])∧True) ⟨(@rfl V (V.bool false)),(@rfl V (iV (11:Int))),hF,h11,h43,h815,h1003,h1006,trivial⟩ ?_))))))
  intro T H ⟨t4,t5,hF,h11,h43,h815,h1003,h1006,_⟩
  have d:=fnd_3 (q:=(⟨qs,qf,[]⟩:Pl)) i0 i2 i3
  have fh:=FinX.fin (FinX.putv (n:=(u6+1)) (B:=(⟨u6+1,false,false,0,0,[]⟩:Blk)) (FinX.putv (n:=(u3+1)) (B:=(⟨u3+1,false,false,0,0,[]⟩:Blk)) (FinX.start hF) (congrArg Blk.ver h1003) (by show _≤u3+1; omega) rfl) (congrArg Blk.ver h1006) (by show _≤u6+1; omega) rfl)
  exact RetF_2 t4 t5 fh (FinV.trans_eq (FinV.same fh _) (by (rw [d]; done))) (FinV.trans_eq (FinV.same fh _) (by (rw [d]; done)))
 · exfalso; exact hn (fnd_n (q:=(⟨qs,qf,[]⟩:Pl)) i0 i2 (by omega))
def s52:SF:=⟨5,[.tmp 2],.seq (.reg [sO 2 (.mv (.c (.nilsl)))]) (.seq (.reg [qM 3 0,sO 4 (.call false 74 [.t 3]),qM 2 4]) (.ret))⟩
theorem s52_ok:slimF Tryz.prog ⟨[51,59,84,90,97,109,153,154,155,160],[],[],[]⟩ Tryz.f52=some s52:=by kernel_rfl
def b74_0:SC:=.seq (.reg [qP 12 .lss 11 10]) (.seq (.cond (.t 12) (.skip) (.exit 0)) (.seq (.block 1 (.seq (.reg [qA 13 1 9 11,ql 14 13,qM 5 14]) (.seq (.reg [qM 15 3,qM 16 5,qN 17 16,qP 18 .add 15 17,qM 3 18]) (.seq (.reg [qM 19 3,qC 20 .lss 19 0]) (.cond (.t 20) (.seq (.reg [sO 21 (.bad)]) (.seq (.pop none (.raise (.t 21))) (.reg []))) (.skip)))))) (.reg [qC 22 .add 11 1,qM 11 22])))
def b74_1:SC:=.seq (.reg [qP 28 .lss 27 26]) (.seq (.cond (.t 28) (.skip) (.exit 2)) (.seq (.block 3 (.seq (.reg [qA 29 1 25 27,ql 30 29,qM 8 30]) (.reg [qM 31 6,qM 32 8,sO 33 (.append 3 1 8 (.t 31) (.t 32)),qM 6 33]))) (.reg [qC 34 .add 27 1,qM 27 34])))
def s74:SF:=⟨36,[.tmp 2],.seq (.reg [sO 2 (.mv (.c (.nilsl)))]) (.seq (.reg [qI 3 0]) (.seq (.seq (.reg [qM 9 0,qN 10 9,qI 11 0]) (.block 0 (.loop b74_0))) (.seq (.reg [qM 23 3,sO 24 (.call true 97 [.c (.nilsl),.t 23]),qM 6 24]) (.seq (.seq (.reg [qM 25 0,qN 26 25,qI 27 0]) (.block 2 (.loop b74_1))) (.seq (.reg [qM 35 6,qM 2 35]) (.ret))))))⟩
theorem s74_ok:slimF Tryz.prog ⟨[51,59,84,90,97,109,153,154,155,160],[],[],[]⟩ Tryz.f74=some s74:=by kernel_rfl
end Go.Proofs.YteehaobohaecmaaGreatDoor
namespace Go.Proofs.YteehaobohaecmaaGreatDoor
open Go Go.Proofs Go.Shelf
def growRen97:Go.Shelf.Ren:=⟨fun|4=>97|n=>n,fun|22=>52|25=>3|3=>3|4=>4|9=>9|20=>20|0=>0|n=>n,fun n=>n⟩
theorem growLay97:Lays8.n4 Tryz.prog growRen97:={
  mixed:=(by kernel_rfl),
  f4:=⟨Tryz.f97.name,by decide,Tryz.func97.trans (congrArg some (by kernel_rfl))⟩,
  t0:=Tryz.underlying0,
  a0:=Tryz.isAgg0,
  z0:=Tryz.sizeOf0,
  v0:=Tryz.zeroValue0,
  t3:=Tryz.underlying3,
  a3:=Tryz.isAgg3,
  z3:=Tryz.sizeOf3,
  v3:=Tryz.zeroValue3,
  t4:=Tryz.underlying4,
  a4:=Tryz.isAgg4,
  z4:=Tryz.sizeOf4,
  v4:=Tryz.zeroValue4,
  t9:=Tryz.underlying9,
  a9:=Tryz.isAgg9,
  z9:=Tryz.sizeOf9,
  v9:=Tryz.zeroValue9,
  t20:=Tryz.underlying20,
  a20:=Tryz.isAgg20,
  z20:=Tryz.sizeOf20,
  v20:=Tryz.zeroValue20,
  t22:=Tryz.underlying52,
  a22:=Tryz.isAgg52,
  z22:=Tryz.sizeOf52,
  v22:=Tryz.zeroValue52}
theorem growCall97:callable Tryz.prog 97:=⟨_,Tryz.func97,by kernel_rfl,by kernel_rfl⟩
theorem growInfo97:(Tryz.prog.info? 3).map (fun i=>(i.zero,i.size,i.bytes))=some (some (.int .i64 0),1,8):=by kernel_rfl
end Go.Proofs.YteehaobohaecmaaGreatDoor
namespace Go.Proofs.YteehaobohaecmaaGreatDoor
open Go Go.Proofs
theorem concat_pure (l:List (List Int)) (hs:(cat l).length≤4294967296):PureC Tryz.prog 74 [(intss l)] (ints (cat l)):=by
 refine pW Tryz.func74 s74_ok fun hB=>?_
 unfold s74
 dsimp only
 refine W_r (R_mv rfl (R_e (W_r (R_mv rfl (R_e (W_seq_seq (W_r ?_)))))))
 refine R_mv rfl (R_len rfl (R_mv rfl (R_e (W_seq_blockgP fun Q1 n1 x1 y1 z1 w1=>?_))))
 refine W_loopP (fun mm T H=> ∃ (k:Nat) (v0:Nat),mm=l.length - k∧T 0=(intss l)∧T 3=(iV (((cat (l.take k)).length:Nat):Int))∧T 9=(intss l)∧T 10=(iV ((l.length:Nat):Int))∧T 11=(iV ((k:Nat):Int))∧(H 0).ver=v0∧H 900=(⟨0,false,false,0,0,[]⟩:Blk)∧(k≤l.length)) ?_ ?_
 ·
  refine ⟨_,0,0,rfl,rfl,(Eq.trans (@rfl V (iV (0:Int))) (by rfl)),rfl,rfl,(Eq.trans (@rfl V (iV (0:Int))) rfl),(congrArg Blk.ver rfl),rfl,?_⟩
  · omega
 intro mm T H ⟨k,v0,hmm,t0,t3,t9,t10,t11,h0,h900,hk⟩ Q2 p12 p22 p32 p42
 unfold b74_0
 refine W_r (R_lss t11 t10 (R_e ?_))
 refine W_seq_if rfl (fun c3=>?_) fun c3=>?_
 ·
  have hq:=cat_take_le (l:=l) (k:=k) (by omega)
  refine W_seq_skip (W_seq_blockgP fun Q4 n4 x4 y4 z4 w4=>(W_r (R_idx (i:=k) t9 t11 (by omega) rfl (R_load_pp rfl rfl (R_mv rfl (R_e (W_r ?_)))))))
  refine R_mv t3 (R_mv rfl (R_len rfl (R_addN rfl rfl (by omega) (R_mv rfl (R_e (W_r (R_mv rfl ?_)))))))
  refine R_lss rfl rfl (R_e ?_)
  refine W_if rfl (fun c5=>?_) fun c5=>?_
  · exfalso; omega
  refine W_skip (n4 _ _ (.done (W_t (R_addN t11 (@rfl V (iV ((1:Nat):Int))) (by omega) (R_mv rfl (R_e ?_))))))
  refine p12 _ _ _ ?_ ⟨(k+1),v0,rfl,t0,(Eq.trans (@rfl V (iV ((((cat (l.take k)).length)+((nth (l) (k))).length:Nat):Int))) (by (rw [cat_take (by omega),List.length_append]; done))),t9,t10,(Eq.trans (@rfl V (iV ((k+1:Nat):Int))) (by rfl)),h0,h900,?_⟩
  · omega
  · omega
 have hk2:(cat (l.take k)).length=(cat l).length:=by rw [show k=l.length by omega,List.take_length]
 refine W_seq_exit (p32 _ _ _ (x1 _ _ (.done (W_r (R_mv t3 (R_callE (evcons rfl (evcons rfl evnil)) (CallOK_growv growLay97 growCall97 growInfo97 (by decide) rfl (n:=((cat (l.take k)).length)) (by omega) (by omega) 900 (congrArg Blk.ver h900)) (R_mv rfl ?_)))))))
 refine R_e (W_seq_seq (W_r (R_mv t0 (R_len rfl (R_mv rfl (R_e (W_seq_blockgP fun Q6 n6 x6 y6 z6 w6=>?_)))))))
 refine W_loopP (fun mm T H=> ∃ (j:Nat) (w:Nat),mm=l.length - j∧T 6=(V.ms 900 w 0 ((cat (l.take j)).length))∧T 25=(intss l)∧T 26=(iV ((l.length:Nat):Int))∧T 27=(iV ((j:Nat):Int))∧(H 0).ver=v0∧H 900=(⟨w,true,decide ((cat (l.take k)).length=0),3,1,(List.map cI (cat (l.take j)))⟩:Blk)∧(j≤l.length)) ?_ ?_
 ·
  refine ⟨_,0,(0+1),rfl,(Eq.trans (@rfl V (V.ms 900 (0+1) 0 (0))) (by rfl)),rfl,rfl,(Eq.trans (@rfl V (iV (0:Int))) rfl),h0,(Eq.trans (@rfl Blk (⟨0+1,true,decide ((cat (l.take k)).length=0),3,1,[]⟩:Blk)) (by rfl)),?_⟩
  · omega
 intro mm T H ⟨j,w,hmm,t6,t25,t26,t27,h0,h900,hj⟩ Q7 p17 p27 p37 p47
 unfold b74_1
 refine W_r (R_lss t27 t26 (R_e ?_))
 refine W_seq_if rfl (fun c8=>?_) fun c8=>?_
 ·
  have hq:=cat_take_le (l:=l) (k:=j) (by omega)
  refine W_seq_skip (W_seq_blockgP fun Q9 n9 x9 y9 z9 w9=>(W_r (R_idx (i:=j) t25 t27 (by omega) rfl (R_load_pp rfl rfl (R_mv rfl (R_e (W_t ?_)))))))
  refine R_mv t6 (R_mv rfl (R_appendS (l:=(cat (l.take j))) (m:=((nth (l) (j)))) (f:=cI) (@rfl V (V.ms 900 w 0 ((cat (l.take j)).length))) h900 (by rfl) (@rfl V (ints ((nth (l) (j))))) (fun _=>rfl) (fun _=>rfl) (by omega) (by omega) (R_mv rfl (R_e (n9 _ _ (.done (W_t ?_)))))))
  refine R_addN t27 (@rfl V (iV ((1:Nat):Int))) (by omega) (R_mv rfl (R_e ?_))
  refine p17 _ _ _ ?_ ⟨(j+1),(w+1),rfl,(Eq.trans (@rfl V (V.ms 900 (w+1) 0 (((cat (l.take j)).length)+((nth (l) (j))).length))) (by (rw [cat_take (by omega),List.length_append]; done))),t25,t26,(Eq.trans (@rfl V (iV ((j+1:Nat):Int))) (by rfl)),h0,(Eq.trans (@rfl Blk (⟨w+1,true,decide ((cat (l.take k)).length=0),3,1,(List.map cI (cat (l.take j)++((nth (l) (j)))))⟩:Blk)) (by (rw [cat_take (by omega)]; done))),?_⟩
  · omega
  · omega
 refine W_seq_exit (p37 _ _ _ (x6 _ _ (.done (W_r (R_mv t6 (R_mv rfl (R_e ?_)))))))
 refine W_ret ?_
 refine Ret_1 (@rfl V (V.ms 900 w 0 ((cat (l.take j)).length))) (fz_ms h900 (by simp) (l:=(cat (l.take j))) rfl (by rfl) (fun _=>by simp) ?_)
 · rw [show j=l.length by omega,List.take_length]
theorem pjoin_pure (l:List (List Int)) (hs:(cat l).length≤4294967296):PureC Tryz.prog 52 [(intss l)] (ints (cat l)):=by
 refine pW Tryz.func52 s52_ok fun hB=>?_
 unfold s52
 dsimp only
 refine W_r (R_mv rfl (R_e (W_r (R_mv rfl (R_callk (concat_pure l hs) rfl (R_mv rfl (R_e ?_)))))))
 refine W_ret ?_
 refine Ret_1 (@rfl V (ints (cat l))) (fz_canon (by simp) rfl)
theorem vcheck_pure (m:M) (f:Fm):PureC Tryz.prog 23 [(V.agg [(iV (m.i)),(iV (m.s)),(intss m.nx),(intss m.ot)]),(V.agg [(iV (f.op)),(iV (f.arg)),(V.sl (List.map cF (f.kids)))])] (V.tup [(V.agg [(ints ((vck m f).1.ni)),(ints ((vck m f).1.no))]),(V.bool ((vck m f).2.1)),(iV ((vck m f).2.2))]):=by
 refine pW Tryz.func23 s23_ok fun hB=>?_
 unfold s23
 dsimp only
 refine W_r (R_box (i:=2) (n:=0) (m:=4) (cs:=[(iV (m.i)),(iV (m.s)),(intss m.nx),(intss m.ot)]) rfl (congrArg Blk.ver rfl) rfl rfl rfl (R_box (i:=3) (n:=0) (m:=3) (cs:=[(iV (f.op)),(iV (f.arg)),(V.sl (List.map cF (f.kids)))]) rfl (congrArg Blk.ver rfl) rfl rfl rfl (R_alloc (i:=4) (n:=0) (m:=2) rfl (congrArg Blk.ver rfl) rfl (R_mv rfl (R_mv rfl (R_e (W_seq_seq ?_)))))))
 refine W_r (R_lk rfl rfl rfl rfl (R_callk (mvalid_pure m) rfl (R_mv rfl (R_e (W_seq_seq (W_r (R_mv rfl ?_)))))))
 refine R_neq rfl rfl (R_e ?_)
 refine W_seq_if rfl (fun c1=>?_) fun c1=>?_
 ·
  have d1:=vck_m (f:=f) c1
  refine W_seq_seq (W_r (R_build rfl rfl (R_mv rfl (R_sk rfl rfl rfl rfl rfl rfl rfl rfl rfl (R_mv rfl (R_mv rfl (R_e ?_)))))))
  refine W_seq_ret ?_
  refine RetC_3 (resV_c (u:=(V.agg [V.nilsl,V.nilsl])) rfl (@rfl Blk (bk 1 54 2 [[V.nilsl,V.nilsl]])) (lB oB rfl rfl)) (resV_t (@rfl V (V.bool false))) (resV_t (@rfl V (iV (mval m)))) (fz_agg2 (fz_nil ?_) (fz_nil ?_)) (fz_bool ?_) (fz_int ?_)
  · rw [d1]; try rfl
  · rw [d1]; try rfl
  · rw [d1]; try rfl
  · rw [d1]; try rfl
 have a1:=c1
 have mo:=mval_ok (Decidable.of_not_not c1)
 refine W_seq_skip (W_seq_seq (W_r (R_lk rfl rfl rfl rfl (R_callk (fvalid_pure f) rfl (R_mv rfl (R_e (W_seq_seq ?_)))))))
 refine W_r (R_mv rfl (R_neq rfl rfl (R_e ?_)))
 refine W_seq_if rfl (fun c2=>?_) fun c2=>?_
 ·
  have d1:=vck_f a1 c2
  refine W_seq_seq (W_r (R_build rfl rfl (R_mv rfl (R_sk rfl rfl rfl rfl rfl rfl rfl rfl rfl (R_mv rfl (R_mv rfl (R_e ?_)))))))
  refine W_seq_ret ?_
  refine RetC_3 (resV_c (u:=(V.agg [V.nilsl,V.nilsl])) rfl (@rfl Blk (bk 1 54 2 [[V.nilsl,V.nilsl]])) (lB oB rfl rfl)) (resV_t (@rfl V (V.bool false))) (resV_t (@rfl V (iV (fval f)))) (fz_agg2 (fz_nil ?_) (fz_nil ?_)) (fz_bool ?_) (fz_int ?_)
  · rw [d1]; try rfl
  · rw [d1]; try rfl
  · rw [d1]; try rfl
  · rw [d1]; try rfl
 have a2:=c2
 refine W_seq_skip (W_r (R_lk rfl rfl rfl rfl (R_callk (simplify_pure f) rfl (R_mv rfl (R_ext rfl rfl (R_ext rfl rfl (R_alloc (i:=9) (n:=0) (m:=3) rfl (congrArg Blk.ver rfl) rfl ?_)))))))
 refine R_sk rfl rfl rfl rfl rfl rfl rfl rfl rfl (R_mv rfl (R_e (W_seq_seq (W_r (R_mv rfl (R_neq rfl rfl (R_e ?_)))))))
 refine W_seq_if rfl (fun c3=>?_) fun c3=>?_
 ·
  have d1:=vck_s a1 a2 c3
  refine W_seq_seq (W_r (R_build rfl rfl (R_mv rfl (R_sk rfl rfl rfl rfl rfl rfl rfl rfl rfl (R_mv rfl (R_mv rfl (R_e ?_)))))))
  refine W_seq_ret ?_
  refine RetC_3 (resV_c (u:=(V.agg [V.nilsl,V.nilsl])) rfl (@rfl Blk (bk 1 54 2 [[V.nilsl,V.nilsl]])) (lB oB rfl rfl)) (resV_t (@rfl V (V.bool false))) (resV_t (@rfl V (iV ((simp_ f).2)))) (fz_agg2 (fz_nil ?_) (fz_nil ?_)) (fz_bool ?_) (fz_int ?_)
  · rw [d1]; try rfl
  · rw [d1]; try rfl
  · rw [d1]; try rfl
  · rw [d1]; try rfl
 have a3:=c3
 have v0:=simp_val c3
 refine W_seq_skip ?_
 refine W_seq_g (fun T H=>T 2=(V.mp 2 1 0 0)∧T 4=(V.mp 4 1 0 0)∧T 9=(V.mp 9 1 0 0)∧T 11=(V.mp 11 1 0 0)∧H 2=(bk 1 50 4 [[(iV (m.i)),(iV (m.s)),(intss m.nx),(intss m.ot)]])∧H 3=(bk 1 24 3 [[(iV (f.op)),(iV (f.arg)),(V.sl (List.map cF (f.kids)))]])∧H 4=(bk 1 54 2 [[V.nilsl,V.nilsl]])∧H 9=(bk 1 24 3 [[(iV ((simp_ f).1.op)),(iV ((simp_ f).1.arg)),(V.sl (List.map cF ((simp_ f).1.kids)))]])∧H 11=(bk 1 92 4 [[(V.mm 43 1),V.nilsl,(iV (0:Int)),(V.str ([]))]])∧H 14=(⟨0,false,false,0,0,[]⟩:Blk)∧H 16=(⟨0,false,false,0,0,[]⟩:Blk)∧H 43=(bz 1 mapH 2 (entS (List.map plK [])))∧H 815=(⟨0,false,false,0,0,[]⟩:Blk)∧H 1003=(⟨0,false,false,0,0,[]⟩:Blk)∧H 1006=(⟨0,false,false,0,0,[]⟩:Blk)∧True) ?_ ?_
 ·
  refine R_mkmap (i:=43) (n:=0) (rows:=entS (List.map plK [])) rfl (congrArg Blk.ver rfl) rfl (R_build rfl rfl (R_alloc (i:=11) (n:=0) (m:=4) rfl (congrArg Blk.ver rfl) rfl (R_sk rfl rfl rfl rfl rfl rfl rfl rfl rfl ?_)))
  exact R_nil ⟨rfl,rfl,rfl,rfl,rfl,rfl,rfl,rfl,rfl,rfl,rfl,rfl,rfl,rfl,rfl,trivial⟩
 intro T H ⟨t2,t4,t9,t11,h2,h3,h4,h9,h11,h14,h16,h43,h815,h1003,h1006,_⟩
 refine .lazyCell 815 95 5 11 0 1 [(V.mm 43 1),V.nilsl,(iV (0:Int)),(V.str ([]))] (by decide) (by rw [h11]; rfl) (by rw [h11]; rfl) rfl (.done ?_)
 refine fork_ (R:=fun T H=>T 2=(V.mp 2 1 0 0)∧T 4=(V.mp 4 1 0 0)∧T 9=(V.mp 9 1 0 0)∧T 11=(V.mp 11 1 0 0)∧H 2=(bk 1 50 4 [[(iV (m.i)),(iV (m.s)),(intss m.nx),(intss m.ot)]])∧H 3=(bk 1 24 3 [[(iV (f.op)),(iV (f.arg)),(V.sl (List.map cF (f.kids)))]])∧H 4=(bk 1 54 2 [[V.nilsl,V.nilsl]])∧H 9=(bk 1 24 3 [[(iV ((simp_ f).1.op)),(iV ((simp_ f).1.arg)),(V.sl (List.map cF ((simp_ f).1.kids)))]])∧H 11=(bk 1 92 4 [[(V.mm 43 1),(V.ms 815 1 0 (0)),(iV (0:Int)),(V.str ([]))]])∧H 14=(⟨0,false,false,0,0,[]⟩:Blk)∧H 16=(⟨0,false,false,0,0,[]⟩:Blk)∧H 43=(bz 1 mapH 2 (entS (List.map plK [])))∧H 815=(bz 1 95 5 [])∧H 1003=(⟨0,false,false,0,0,[]⟩:Blk)∧H 1006=(⟨0,false,false,0,0,[]⟩:Blk)∧True) ⟨t2,t4,t9,t11,((upd_ne _ _ (by decide)).trans ((upd_ne _ _ (by decide)).trans h2)),((upd_ne _ _ (by decide)).trans ((upd_ne _ _ (by decide)).trans h3)),((upd_ne _ _ (by decide)).trans ((upd_ne _ _ (by decide)).trans h4)),((upd_ne _ _ (by decide)).trans ((upd_ne _ _ (by decide)).trans h9)),(by rw [upd_same,h11,(congrArg Blk.ver h815)]; rfl),((upd_ne _ _ (by decide)).trans ((upd_ne _ _ (by decide)).trans h14)),((upd_ne _ _ (by decide)).trans ((upd_ne _ _ (by decide)).trans h16)),((upd_ne _ _ (by decide)).trans ((upd_ne _ _ (by decide)).trans h43)),(by rw [upd_ne _ _ (by decide),upd_same,(congrArg Blk.ver h815)]),((upd_ne _ _ (by decide)).trans ((upd_ne _ _ (by decide)).trans h1003)),((upd_ne _ _ (by decide)).trans ((upd_ne _ _ (by decide)).trans h1006)),trivial⟩ ?_
 intro T H ⟨t2,t4,t9,t11,h2,h3,h4,h9,h11,h14,h16,h43,h815,h1003,h1006,_⟩
 refine W_seq_reg fun K hK=>(R_fk t2 h2 (R_lk rfl h2 rfl rfl (R_lk t9 h9 rfl rfl (R_build rfl rfl ?_))))
 by_cases heF:fndN ([]) (⟨m.s,(simp_ f).1,[]⟩:Pl)
 ·
  refine R_callE (evcons t11 (evcons rfl evnil)) (find0_new_E ([]) m.s ((simp_ f).1) (0:Int) ([]) 1 1 1 0 0 heF _ h11 h43 h815 (congrArg Blk.ver h1003) ⟨congrArg Blk.ver h1006,congrArg Blk.live h1006⟩ (Nat.zero_le _) v0 (fun _ e=>absurd e.symm (ky_ne _))) (R_mv rfl (R_ext rfl rfl (R_ext rfl rfl (R_mv rfl (R_mv rfl ?_)))))
  refine R_nil (hK _ _ ?_); clear hK K
  refine fork_ (R:=fun T H=>T 2=(V.mp 2 1 0 0)∧T 4=(V.mp 4 1 0 0)∧T 10=(iV ((fnd ([]) (⟨m.s,(simp_ f).1,[]⟩:Pl)).2))∧T 11=(V.mp 11 1 0 0)∧T 12=(V.bool ((fnd ([]) (⟨m.s,(simp_ f).1,[]⟩:Pl)).1))∧H 2=(bk 1 50 4 [[(iV (m.i)),(iV (m.s)),(intss m.nx),(intss m.ot)]])∧H 3=(bk 1 24 3 [[(iV (f.op)),(iV (f.arg)),(V.sl (List.map cF (f.kids)))]])∧H 4=(bk 1 54 2 [[V.nilsl,V.nilsl]])∧H 9=(bk 1 24 3 [[(iV ((simp_ f).1.op)),(iV ((simp_ f).1.arg)),(V.sl (List.map cF ((simp_ f).1.kids)))]])∧H 11=(bk 1 92 4 [[(V.mm 43 1),(V.ms 815 2 0 (([]++[(⟨m.s,(simp_ f).1,[]⟩:Pl)]).length)),(iV (m.s)),(V.str (kyF ((simp_ f).1)))]])∧H 14=(⟨0,false,false,0,0,[]⟩:Blk)∧H 16=(⟨0,false,false,0,0,[]⟩:Blk)∧H 43=(bz 1 mapH 2 (entS (List.map plK ([]++[(⟨m.s,(simp_ f).1,[]⟩:Pl)]))))∧H 815=(bz 2 95 5 (List.map cPl ([]++[(⟨m.s,(simp_ f).1,[]⟩:Pl)])))∧H 1003=(⟨1,false,false,0,0,[]⟩:Blk)∧H 1006=(⟨1,false,false,0,0,[]⟩:Blk)∧True) ⟨t2,t4,rfl,t11,rfl,h2,h3,h4,h9,rfl,h14,h16,rfl,rfl,rfl,rfl,trivial⟩ ?_
  intro T H ⟨t2,t4,t10,t11,t12,h2,h3,h4,h9,h11,h14,h16,h43,h815,h1003,h1006,_⟩
  refine W_seq_seq (W_r (R_mv t10 (R_neq rfl rfl (R_mv rfl ?_))))
  refine Ops_seg 2 (fun T H=>T 2=(V.mp 2 1 0 0)∧T 4=(V.mp 4 1 0 0)∧T 10=(iV ((fnd ([]) (⟨m.s,(simp_ f).1,[]⟩:Pl)).2))∧T 11=(V.mp 11 1 0 0)∧T 12=(V.bool ((fnd ([]) (⟨m.s,(simp_ f).1,[]⟩:Pl)).1))∧T 57=(V.bool ((decide (((fnd ([]) (⟨m.s,(simp_ f).1,[]⟩:Pl)).2)≠(0:Int))||((fnd ([]) (⟨m.s,(simp_ f).1,[]⟩:Pl)).1))))∧H 2=(bk 1 50 4 [[(iV (m.i)),(iV (m.s)),(intss m.nx),(intss m.ot)]])∧H 3=(bk 1 24 3 [[(iV (f.op)),(iV (f.arg)),(V.sl (List.map cF (f.kids)))]])∧H 4=(bk 1 54 2 [[V.nilsl,V.nilsl]])∧H 9=(bk 1 24 3 [[(iV ((simp_ f).1.op)),(iV ((simp_ f).1.arg)),(V.sl (List.map cF ((simp_ f).1.kids)))]])∧H 11=(bk 1 92 4 [[(V.mm 43 1),(V.ms 815 2 0 (([]++[(⟨m.s,(simp_ f).1,[]⟩:Pl)]).length)),(iV (m.s)),(V.str (kyF ((simp_ f).1)))]])∧H 14=(⟨0,false,false,0,0,[]⟩:Blk)∧H 16=(⟨0,false,false,0,0,[]⟩:Blk)∧H 43=(bz 1 mapH 2 (entS (List.map plK ([]++[(⟨m.s,(simp_ f).1,[]⟩:Pl)]))))∧H 815=(bz 2 95 5 (List.map cPl ([]++[(⟨m.s,(simp_ f).1,[]⟩:Pl)])))∧H 1003=(⟨1,false,false,0,0,[]⟩:Blk)∧H 1006=(⟨1,false,false,0,0,[]⟩:Blk)∧True) ?_ ?_
  ·
   by_cases g6:((fnd ([]) (⟨m.s,(simp_ f).1,[]⟩:Pl)).2)≠(0:Int)
   ·
    refine G_n (edT g6 rfl) (R_pickT (edT g6 rfl) rfl ?_)
    exact ⟨t2,t4,t10,t11,t12,(dborT g6),h2,h3,h4,h9,h11,h14,h16,h43,h815,h1003,h1006,trivial⟩
   ·
    refine G_yes (edF g6 rfl) (R_mv t12 (R_pickF (edF g6 rfl) rfl ?_))
    exact ⟨t2,t4,t10,t11,t12,(dborF g6),h2,h3,h4,h9,h11,h14,h16,h43,h815,h1003,h1006,trivial⟩
  intro T H ⟨t2,t4,t10,t11,t12,t57,h2,h3,h4,h9,h11,h14,h16,h43,h815,h1003,h1006,_⟩
  refine R_e ?_
  refine W_seq_ifb t57 (fun c7=>?_) (fun c7=>?_)
  · exact False.elim ((fnd0_new heF) c7)
  have a4:=vfind1 (q:=vS m f) (fun e=>absurd (e.symm.trans c7) (by decide))
  refine W_seq_skip (W_seq_seq (W_r (R_mv rfl (R_e (W_seq_blockg fun Q8 n8 x8 y8 z8=>?_)))))
  refine W_loop (fun mm T H=> ∃ (k:Nat) (l:List Pl) (ls:Int) (lk:List UInt8) (v8:Nat) (v14:Nat) (v16:Nat) (v1003:Nat) (v1006:Nat),mm=4097 - k∧T 2=(V.mp 2 1 0 0)∧T 4=(V.mp 4 1 0 0)∧T 11=(V.mp 11 1 0 0)∧T 13=(iV ((k:Nat):Int))∧H 2=(bk 1 50 4 [[(iV (m.i)),(iV (m.s)),(intss m.nx),(intss m.ot)]])∧H 3=(bk 1 24 3 [[(iV (f.op)),(iV (f.arg)),(V.sl (List.map cF (f.kids)))]])∧H 4=(bk 1 54 2 [[V.nilsl,V.nilsl]])∧H 9=(bk 1 24 3 [[(iV ((simp_ f).1.op)),(iV ((simp_ f).1.arg)),(V.sl (List.map cF ((simp_ f).1.kids)))]])∧H 11=(bk 1 92 4 [[(V.mm 43 1),(V.ms 815 v8 0 (l.length)),(iV (ls)),(V.str lk)]])∧((H 14).ver=v14∧(H 14).live=false)∧((H 16).ver=v16∧(H 16).live=false)∧H 43=(bz 1 mapH 2 (entS (List.map plK l)))∧H 815=(bz v8 95 5 (List.map cPl (l)))∧((H 1003).ver=v1003∧(H 1003).live=false)∧((H 1006).ver=v1006∧(H 1006).live=false)∧(k≤l.length)∧(PlOK m l)∧(lastIn l ls lk)∧(vck m f=vOut m (4097 - k) k l)) ?_ ?_
  ·
   refine ⟨_,0,([]++[(⟨m.s,(simp_ f).1,[]⟩:Pl)]),m.s,(kyF ((simp_ f).1)),2,0,0,1,1,rfl,t2,t4,t11,(Eq.trans (@rfl V (iV (0:Int))) rfl),h2,h3,h4,h9,(Eq.trans h11 (by rfl)),⟨(congrArg Blk.ver h14),congrArg Blk.live h14⟩,⟨(congrArg Blk.ver h16),congrArg Blk.live h16⟩,(Eq.trans h43 (by rfl)),(Eq.trans h815 (by rfl)),⟨(congrArg Blk.ver h1003),congrArg Blk.live h1003⟩,⟨(congrArg Blk.ver h1006),congrArg Blk.live h1006⟩,?_,?_,?_,?_⟩
   · exact Nat.zero_le _
   · exact (fnd_new heF).2 ▸ plOK_0 a1 v0
   · exact last_new
   · exact (vck_g a1 a2 a3 a4).trans (congrArg (vOut m (4097 - 0) 0) (fnd_new heF).2)
  intro mm T H ⟨k,l,ls,lk,v8,v14,v16,v1003,v1006,hmm,t2,t4,t11,t13,h2,h3,h4,h9,h11,h14,h16,h43,h815,h1003,h1006,hk,hp,hla,hc⟩ Q9 p19 p29 p39
  unfold b23_0
  refine W_seq_seq (W_r (R_mv t13 (R_fk t11 h11 (R_lk rfl h11 rfl rfl (R_len_ms rfl h815 (by simp) (R_lss rfl rfl (R_e ?_)))))))
  refine W_seq_if rfl (fun c10=>?_) fun c10=>?_
  ·
   have pk:=hp.at_ k (by omega)
   have hr:=mv_rw a1 pk.1 pk.2.1
   have hpl:=hp.len
   refine W_seq_skip (W_seq_blockg fun Q11 n11 x11 y11 z11=>(W_r (R_fk t11 h11 (R_lk rfl h11 rfl rfl (R_mv t13 (R_idx_ms0 (i:=k) (@rfl V (V.ms 815 v8 0 (l.length))) (@rfl V (iV ((k:Nat):Int))) h815 (okB_map (by omega)) rfl (by omega) (R_load_mp (v:=(V.agg [(iV (((nth (l) (k))).s)),(iV (((nth (l) (k))).f.op)),(iV (((nth (l) (k))).f.arg)),(V.sl (List.map cF (((nth (l) (k))).f.kids))),(ints (((nth (l) (k))).w))])) rfl h815 (ldB_map (by omega) (by rfl)) ?_)))))))
   refine R_alloc (i:=14) (n:=v14) (m:=5) rfl (h14).1 rfl (R_sk rfl rfl rfl rfl rfl rfl rfl rfl rfl (R_e (W_r (R_fk t2 h2 (R_lk rfl h2 rfl rfl (R_mv rfl (R_e ?_)))))))
   refine W_block fun Q12 n12 x12 y12 z12=>?_
   refine W_loop (fun mm T H=> ∃ (j:Nat) (l2:List Pl) (ls2:Int) (lk2:List UInt8) (w8:Nat) (v16:Nat) (v1003:Nat) (v1006:Nat),mm=m.i.toNat - j∧T 2=(V.mp 2 1 0 0)∧T 4=(V.mp 4 1 0 0)∧T 11=(V.mp 11 1 0 0)∧T 13=(iV ((k:Nat):Int))∧T 14=(V.mp 14 (v14+1) 0 0)∧T 74=(iV (m.i))∧T 75=(iV ((j:Nat):Int))∧H 2=(bk 1 50 4 [[(iV (m.i)),(iV (m.s)),(intss m.nx),(intss m.ot)]])∧H 3=(bk 1 24 3 [[(iV (f.op)),(iV (f.arg)),(V.sl (List.map cF (f.kids)))]])∧H 4=(bk 1 54 2 [[V.nilsl,V.nilsl]])∧H 9=(bk 1 24 3 [[(iV ((simp_ f).1.op)),(iV ((simp_ f).1.arg)),(V.sl (List.map cF ((simp_ f).1.kids)))]])∧H 11=(bk 1 92 4 [[(V.mm 43 1),(V.ms 815 w8 0 (l2.length)),(iV (ls2)),(V.str lk2)]])∧H 14=(bk (v14+1) 95 5 [[(iV (((nth (l) (k))).s)),(iV (((nth (l) (k))).f.op)),(iV (((nth (l) (k))).f.arg)),(V.sl (List.map cF (((nth (l) (k))).f.kids))),(ints (((nth (l) (k))).w))]])∧((H 16).ver=v16∧(H 16).live=false)∧H 43=(bz 1 mapH 2 (entS (List.map plK l2)))∧H 815=(bz w8 95 5 (List.map cPl (l2)))∧((H 1003).ver=v1003∧(H 1003).live=false)∧((H 1006).ver=v1006∧(H 1006).live=false)∧(j≤m.i.toNat)∧(PlOK m l2)∧(lastIn l2 ls2 lk2)∧(l.length≤l2.length)∧(vRow m (nth l k) m.i.toNat 0 l=vRow m (nth l k) (m.i.toNat - j) j l2)) ?_ ?_
   ·
    refine ⟨_,0,l,ls,lk,v8,v16,v1003,v1006,rfl,t2,t4,t11,t13,rfl,rfl,(Eq.trans (@rfl V (iV (0:Int))) rfl),h2,h3,h4,h9,h11,rfl,h16,h43,h815,h1003,h1006,?_,?_,?_,?_,?_⟩
    · exact Nat.zero_le _
    · exact hp
    · exact hla
    · exact Nat.le_refl _
    · rfl
   intro mm T H ⟨j,l2,ls2,lk2,w8,v16,v1003,v1006,hmm,t2,t4,t11,t13,t14,t74,t75,h2,h3,h4,h9,h11,h14,h16,h43,h815,h1003,h1006,hj,hp2,hla2,hl2,hc2⟩ Q13 p113 p213 p313
   unfold b23_1
   refine W_r (R_lss t75 t74 (R_e ?_))
   refine W_seq_if rfl (fun c14=>?_) fun c14=>?_
   ·
    refine W_seq_skip (W_seq_blockg fun Q15 n15 x15 y15 z15=>(W_r (R_mv t75 (R_mv rfl (R_e (W_d (by exact (lateC (h16).2 lateN)) (R_fk t14 h14 ?_)))))))
    refine R_lk rfl h14 rfl rfl (R_mv rfl (R_fk t2 h2 (R_lk rfl h2 rfl rfl (R_fk t14 h14 (R_lk rfl h14 rfl rfl (R_idxI (i:=(((nth (l) (k))).s)) (@rfl V (intss m.ot)) (@rfl V (iV (((nth (l) (k))).s))) (by omega) (by omega) rfl (R_load_pp rfl rfl ?_)))))))
    refine R_mv rfl (R_idx (i:=j) (@rfl V (ints ((nth (m.ot) (((nth (l) (k))).s).toNat)))) (@rfl V (iV ((j:Nat):Int))) (by omega) rfl (R_load_pp rfl rfl (R_callk (mstep_pure (((nth (l) (k))).f) (((j:Nat):Int)) (((nth ((nth (m.ot) (((nth (l) (k))).s).toNat)) (j))))) rfl (R_mv rfl (R_ext rfl rfl (R_ext rfl rfl (R_alloc (i:=16) (n:=v16) (m:=3) rfl (h16).1 rfl ?_)))))))
    refine R_sk rfl rfl rfl rfl rfl rfl rfl rfl rfl (R_mv rfl (R_e (W_seq_seq (W_r (R_mv rfl (R_neq rfl rfl (R_e ?_)))))))
    refine W_seq_if rfl (fun c16=>?_) fun c16=>?_
    ·
     have d1:=hc.trans (vOut_stop (by omega) hp.len (hc2.trans (vRow_e (by omega) c16)))
     refine W_seq_seq (W_r (R_build rfl rfl (R_mv rfl (R_sk t4 rfl rfl h4 rfl rfl rfl rfl rfl (R_mv rfl (R_mv rfl (R_e ?_)))))))
     refine W_seq_ret (y15 _ _ (p213 _ _ (y12 _ _ (y11 _ _ (p29 _ _ (y8 _ _ ?_))))))
     refine RetC_3 (resV_c (u:=(V.agg [V.nilsl,V.nilsl])) t4 (@rfl Blk (bk 1 54 2 [[V.nilsl,V.nilsl]])) (lB oB rfl rfl)) (resV_t (@rfl V (V.bool false))) (resV_t (@rfl V (iV ((stM (((nth (l) (k))).f) (((j:Nat):Int)) (((nth ((nth (m.ot) (((nth (l) (k))).s).toNat)) (j))))).2)))) (fz_agg2 (fz_nil ?_) (fz_nil ?_)) (fz_bool ?_) (fz_int ?_)
     · rw [d1]; try rfl
     · rw [d1]; try rfl
     · rw [d1]; try rfl
     · rw [d1]; try rfl
    have e1:=c16
    have x1:=stM_val c16
    have p3:=plOK_nx (k:=k) a1 hp2 pk (by omega) (by omega) e1
    refine W_seq_skip (W_r (R_fk t14 h14 (R_lk rfl h14 rfl rfl (R_mv rfl (R_bslice rfl rfl (R_bslice rfl rfl (R_callk (pjoin_pure ([((nth (l) (k))).w,[((j:Nat):Int)]]) (by simp only [cat,List.append_nil,List.length_append,List.length_singleton]; omega)) rfl ?_)))))))
    refine R_mv rfl (R_e (W_seq_reg fun K hK=>(R_fk t2 h2 (R_lk rfl h2 rfl rfl (R_fk t14 h14 (R_lk rfl h14 rfl rfl (R_idxI (i:=(((nth (l) (k))).s)) (@rfl V (intss m.nx)) (@rfl V (iV (((nth (l) (k))).s))) (by omega) (by omega) rfl ?_)))))))
    refine R_load_pp rfl rfl (R_mv rfl (R_idx (i:=j) (@rfl V (ints ((nth (m.nx) (((nth (l) (k))).s).toNat)))) (@rfl V (iV ((j:Nat):Int))) (by omega) rfl (R_load_pp rfl rfl (R_lk rfl rfl rfl rfl (R_mv rfl (R_build rfl rfl ?_))))))
    by_cases heF:fndN l2 (⟨nth ((nth (m.nx) (((nth (l) (k))).s).toNat)) (j),(stM (((nth (l) (k))).f) (((j:Nat):Int)) (((nth ((nth (m.ot) (((nth (l) (k))).s).toNat)) (j))))).1,cat ([((nth (l) (k))).w,[((j:Nat):Int)]])⟩:Pl)
    ·
     refine R_callE (evcons t11 (evcons rfl evnil)) (find_new_E l2 (⟨nth ((nth (m.nx) (((nth (l) (k))).s).toNat)) (j),(stM (((nth (l) (k))).f) (((j:Nat):Int)) (((nth ((nth (m.ot) (((nth (l) (k))).s).toNat)) (j))))).1,cat ([((nth (l) (k))).w,[((j:Nat):Int)]])⟩:Pl) ls2 lk2 1 1 w8 v1003 v1006 heF _ h11 h43 h815 (h1003).1 h1006 hp2.len x1 (last_in hla2)) (R_mv rfl (R_ext rfl rfl (R_ext rfl rfl (R_mv rfl (R_mv rfl ?_)))))
     refine R_nil (hK _ _ ?_); clear hK K
     refine fork_ (R:=fun T H=>T 2=(V.mp 2 1 0 0)∧T 4=(V.mp 4 1 0 0)∧T 11=(V.mp 11 1 0 0)∧T 13=(iV ((k:Nat):Int))∧T 14=(V.mp 14 (v14+1) 0 0)∧T 17=(iV ((fnd l2 (⟨nth ((nth (m.nx) (((nth (l) (k))).s).toNat)) (j),(stM (((nth (l) (k))).f) (((j:Nat):Int)) (((nth ((nth (m.ot) (((nth (l) (k))).s).toNat)) (j))))).1,cat ([((nth (l) (k))).w,[((j:Nat):Int)]])⟩:Pl)).2))∧T 18=(ints (cat ([((nth (l) (k))).w,[((j:Nat):Int)]])))∧T 19=(V.bool ((fnd l2 (⟨nth ((nth (m.nx) (((nth (l) (k))).s).toNat)) (j),(stM (((nth (l) (k))).f) (((j:Nat):Int)) (((nth ((nth (m.ot) (((nth (l) (k))).s).toNat)) (j))))).1,cat ([((nth (l) (k))).w,[((j:Nat):Int)]])⟩:Pl)).1))∧T 74=(iV (m.i))∧T 75=(iV ((j:Nat):Int))∧H 2=(bk 1 50 4 [[(iV (m.i)),(iV (m.s)),(intss m.nx),(intss m.ot)]])∧H 3=(bk 1 24 3 [[(iV (f.op)),(iV (f.arg)),(V.sl (List.map cF (f.kids)))]])∧H 4=(bk 1 54 2 [[V.nilsl,V.nilsl]])∧H 9=(bk 1 24 3 [[(iV ((simp_ f).1.op)),(iV ((simp_ f).1.arg)),(V.sl (List.map cF ((simp_ f).1.kids)))]])∧H 11=(bk 1 92 4 [[(V.mm 43 1),(V.ms 815 (w8+1) 0 ((l2++[(⟨nth ((nth (m.nx) (((nth (l) (k))).s).toNat)) (j),(stM (((nth (l) (k))).f) (((j:Nat):Int)) (((nth ((nth (m.ot) (((nth (l) (k))).s).toNat)) (j))))).1,cat ([((nth (l) (k))).w,[((j:Nat):Int)]])⟩:Pl)]).length)),(iV (nth ((nth (m.nx) (((nth (l) (k))).s).toNat)) (j))),(V.str (kyF ((stM (((nth (l) (k))).f) (((j:Nat):Int)) (((nth ((nth (m.ot) (((nth (l) (k))).s).toNat)) (j))))).1)))]])∧H 14=(bk (v14+1) 95 5 [[(iV (((nth (l) (k))).s)),(iV (((nth (l) (k))).f.op)),(iV (((nth (l) (k))).f.arg)),(V.sl (List.map cF (((nth (l) (k))).f.kids))),(ints (((nth (l) (k))).w))]])∧H 16=(bk (v16+1) 24 3 [[(iV ((stM (((nth (l) (k))).f) (((j:Nat):Int)) (((nth ((nth (m.ot) (((nth (l) (k))).s).toNat)) (j))))).1.op)),(iV ((stM (((nth (l) (k))).f) (((j:Nat):Int)) (((nth ((nth (m.ot) (((nth (l) (k))).s).toNat)) (j))))).1.arg)),(V.sl (List.map cF ((stM (((nth (l) (k))).f) (((j:Nat):Int)) (((nth ((nth (m.ot) (((nth (l) (k))).s).toNat)) (j))))).1.kids)))]])∧H 43=(bz 1 mapH 2 (entS (List.map plK (l2++[(⟨nth ((nth (m.nx) (((nth (l) (k))).s).toNat)) (j),(stM (((nth (l) (k))).f) (((j:Nat):Int)) (((nth ((nth (m.ot) (((nth (l) (k))).s).toNat)) (j))))).1,cat ([((nth (l) (k))).w,[((j:Nat):Int)]])⟩:Pl)]))))∧H 815=(bz (w8+1) 95 5 (List.map cPl (l2++[(⟨nth ((nth (m.nx) (((nth (l) (k))).s).toNat)) (j),(stM (((nth (l) (k))).f) (((j:Nat):Int)) (((nth ((nth (m.ot) (((nth (l) (k))).s).toNat)) (j))))).1,cat ([((nth (l) (k))).w,[((j:Nat):Int)]])⟩:Pl)])))∧H 1003=(⟨v1003+1,false,false,0,0,[]⟩:Blk)∧H 1006=(⟨v1006+1,false,false,0,0,[]⟩:Blk)∧True) ⟨t2,t4,t11,t13,t14,rfl,rfl,rfl,t74,t75,h2,h3,h4,h9,rfl,h14,rfl,rfl,rfl,rfl,rfl,trivial⟩ ?_
     intro T H ⟨t2,t4,t11,t13,t14,t17,t18,t19,t74,t75,h2,h3,h4,h9,h11,h14,h16,h43,h815,h1003,h1006,_⟩
     refine W_seq_seq (W_r (R_mv t17 (R_neq rfl rfl (R_e ?_))))
     refine W_seq_if rfl (fun c19=>?_) fun c19=>?_
     · exact False.elim ((fun (e:(fnd l2 (⟨nth ((nth (m.nx) (((nth (l) (k))).s).toNat)) (j),(stM (((nth (l) (k))).f) (((j:Nat):Int)) (((nth ((nth (m.ot) (((nth (l) (k))).s).toNat)) (j))))).1,cat ([((nth (l) (k))).w,[((j:Nat):Int)]])⟩:Pl)).2≠0)=>e (congrArg Prod.snd (fnd_new heF).1)) c19)
     have e2:=c19
     refine W_seq_skip (W_r (R_mv t19 (R_e ?_)))
     refine W_ifb rfl (fun c20=>?_) (fun c20=>?_)
     · exact False.elim ((fun (e:(fnd l2 (⟨nth ((nth (m.nx) (((nth (l) (k))).s).toNat)) (j),(stM (((nth (l) (k))).f) (((j:Nat):Int)) (((nth ((nth (m.ot) (((nth (l) (k))).s).toNat)) (j))))).1,cat ([((nth (l) (k))).w,[((j:Nat):Int)]])⟩:Pl)).1=true)=>absurd (e.symm.trans (congrArg Prod.fst (fnd_new heF).1)) (by decide)) c20)
     have e3:=c20
     replace e3: ¬(_=true):=fun q=>absurd (q.symm.trans e3) (by decide)
     refine W_skip (n15 _ _ (fork_ (R:=fun T H=>T 2=(V.mp 2 1 0 0)∧T 4=(V.mp 4 1 0 0)∧T 11=(V.mp 11 1 0 0)∧T 13=(iV ((k:Nat):Int))∧T 14=(V.mp 14 (v14+1) 0 0)∧T 18=(ints (cat ([((nth (l) (k))).w,[((j:Nat):Int)]])))∧T 74=(iV (m.i))∧T 75=(iV ((j:Nat):Int))∧T 124=(V.bool ((fnd l2 (⟨nth ((nth (m.nx) (((nth (l) (k))).s).toNat)) (j),(stM (((nth (l) (k))).f) (((j:Nat):Int)) (((nth ((nth (m.ot) (((nth (l) (k))).s).toNat)) (j))))).1,cat ([((nth (l) (k))).w,[((j:Nat):Int)]])⟩:Pl)).1))∧H 2=(bk 1 50 4 [[(iV (m.i)),(iV (m.s)),(intss m.nx),(intss m.ot)]])∧H 3=(bk 1 24 3 [[(iV (f.op)),(iV (f.arg)),(V.sl (List.map cF (f.kids)))]])∧H 4=(bk 1 54 2 [[V.nilsl,V.nilsl]])∧H 9=(bk 1 24 3 [[(iV ((simp_ f).1.op)),(iV ((simp_ f).1.arg)),(V.sl (List.map cF ((simp_ f).1.kids)))]])∧H 11=(bk 1 92 4 [[(V.mm 43 1),(V.ms 815 (w8+1) 0 ((l2++[(⟨nth ((nth (m.nx) (((nth (l) (k))).s).toNat)) (j),(stM (((nth (l) (k))).f) (((j:Nat):Int)) (((nth ((nth (m.ot) (((nth (l) (k))).s).toNat)) (j))))).1,cat ([((nth (l) (k))).w,[((j:Nat):Int)]])⟩:Pl)]).length)),(iV (nth ((nth (m.nx) (((nth (l) (k))).s).toNat)) (j))),(V.str (kyF ((stM (((nth (l) (k))).f) (((j:Nat):Int)) (((nth ((nth (m.ot) (((nth (l) (k))).s).toNat)) (j))))).1)))]])∧H 14=(bk (v14+1) 95 5 [[(iV (((nth (l) (k))).s)),(iV (((nth (l) (k))).f.op)),(iV (((nth (l) (k))).f.arg)),(V.sl (List.map cF (((nth (l) (k))).f.kids))),(ints (((nth (l) (k))).w))]])∧H 16=(bk (v16+1) 24 3 [[(iV ((stM (((nth (l) (k))).f) (((j:Nat):Int)) (((nth ((nth (m.ot) (((nth (l) (k))).s).toNat)) (j))))).1.op)),(iV ((stM (((nth (l) (k))).f) (((j:Nat):Int)) (((nth ((nth (m.ot) (((nth (l) (k))).s).toNat)) (j))))).1.arg)),(V.sl (List.map cF ((stM (((nth (l) (k))).f) (((j:Nat):Int)) (((nth ((nth (m.ot) (((nth (l) (k))).s).toNat)) (j))))).1.kids)))]])∧H 43=(bz 1 mapH 2 (entS (List.map plK (l2++[(⟨nth ((nth (m.nx) (((nth (l) (k))).s).toNat)) (j),(stM (((nth (l) (k))).f) (((j:Nat):Int)) (((nth ((nth (m.ot) (((nth (l) (k))).s).toNat)) (j))))).1,cat ([((nth (l) (k))).w,[((j:Nat):Int)]])⟩:Pl)]))))∧H 815=(bz (w8+1) 95 5 (List.map cPl (l2++[(⟨nth ((nth (m.nx) (((nth (l) (k))).s).toNat)) (j),(stM (((nth (l) (k))).f) (((j:Nat):Int)) (((nth ((nth (m.ot) (((nth (l) (k))).s).toNat)) (j))))).1,cat ([((nth (l) (k))).w,[((j:Nat):Int)]])⟩:Pl)])))∧H 1003=(⟨v1003+1,false,false,0,0,[]⟩:Blk)∧H 1006=(⟨v1006+1,false,false,0,0,[]⟩:Blk)∧True) ⟨t2,t4,t11,t13,t14,t18,t74,t75,(@rfl V (V.bool ((fnd l2 (⟨nth ((nth (m.nx) (((nth (l) (k))).s).toNat)) (j),(stM (((nth (l) (k))).f) (((j:Nat):Int)) (((nth ((nth (m.ot) (((nth (l) (k))).s).toNat)) (j))))).1,cat ([((nth (l) (k))).w,[((j:Nat):Int)]])⟩:Pl)).1))),h2,h3,h4,h9,h11,h14,h16,h43,h815,h1003,h1006,trivial⟩ ?_))
     intro T H ⟨t2,t4,t11,t13,t14,t18,t74,t75,t124,h2,h3,h4,h9,h11,h14,h16,h43,h815,h1003,h1006,_⟩
     refine .freeze 16 (.done ?_)
     refine fork_ (R:=fun T H=>T 2=(V.mp 2 1 0 0)∧T 4=(V.mp 4 1 0 0)∧T 11=(V.mp 11 1 0 0)∧T 13=(iV ((k:Nat):Int))∧T 14=(V.mp 14 (v14+1) 0 0)∧T 18=(ints (cat ([((nth (l) (k))).w,[((j:Nat):Int)]])))∧T 74=(iV (m.i))∧T 75=(iV ((j:Nat):Int))∧T 124=(V.bool ((fnd l2 (⟨nth ((nth (m.nx) (((nth (l) (k))).s).toNat)) (j),(stM (((nth (l) (k))).f) (((j:Nat):Int)) (((nth ((nth (m.ot) (((nth (l) (k))).s).toNat)) (j))))).1,cat ([((nth (l) (k))).w,[((j:Nat):Int)]])⟩:Pl)).1))∧H 2=(bk 1 50 4 [[(iV (m.i)),(iV (m.s)),(intss m.nx),(intss m.ot)]])∧H 3=(bk 1 24 3 [[(iV (f.op)),(iV (f.arg)),(V.sl (List.map cF (f.kids)))]])∧H 4=(bk 1 54 2 [[V.nilsl,V.nilsl]])∧H 9=(bk 1 24 3 [[(iV ((simp_ f).1.op)),(iV ((simp_ f).1.arg)),(V.sl (List.map cF ((simp_ f).1.kids)))]])∧H 11=(bk 1 92 4 [[(V.mm 43 1),(V.ms 815 (w8+1) 0 ((l2++[(⟨nth ((nth (m.nx) (((nth (l) (k))).s).toNat)) (j),(stM (((nth (l) (k))).f) (((j:Nat):Int)) (((nth ((nth (m.ot) (((nth (l) (k))).s).toNat)) (j))))).1,cat ([((nth (l) (k))).w,[((j:Nat):Int)]])⟩:Pl)]).length)),(iV (nth ((nth (m.nx) (((nth (l) (k))).s).toNat)) (j))),(V.str (kyF ((stM (((nth (l) (k))).f) (((j:Nat):Int)) (((nth ((nth (m.ot) (((nth (l) (k))).s).toNat)) (j))))).1)))]])∧H 14=(bk (v14+1) 95 5 [[(iV (((nth (l) (k))).s)),(iV (((nth (l) (k))).f.op)),(iV (((nth (l) (k))).f.arg)),(V.sl (List.map cF (((nth (l) (k))).f.kids))),(ints (((nth (l) (k))).w))]])∧((H 16).ver=v16+1∧(H 16).live=false)∧H 43=(bz 1 mapH 2 (entS (List.map plK (l2++[(⟨nth ((nth (m.nx) (((nth (l) (k))).s).toNat)) (j),(stM (((nth (l) (k))).f) (((j:Nat):Int)) (((nth ((nth (m.ot) (((nth (l) (k))).s).toNat)) (j))))).1,cat ([((nth (l) (k))).w,[((j:Nat):Int)]])⟩:Pl)]))))∧H 815=(bz (w8+1) 95 5 (List.map cPl (l2++[(⟨nth ((nth (m.nx) (((nth (l) (k))).s).toNat)) (j),(stM (((nth (l) (k))).f) (((j:Nat):Int)) (((nth ((nth (m.ot) (((nth (l) (k))).s).toNat)) (j))))).1,cat ([((nth (l) (k))).w,[((j:Nat):Int)]])⟩:Pl)])))∧H 1003=(⟨v1003+1,false,false,0,0,[]⟩:Blk)∧H 1006=(⟨v1006+1,false,false,0,0,[]⟩:Blk)∧True) ⟨(fzT_q t2 rfl),(fzT_q t4 rfl),(fzT_q t11 rfl),(fzT_q t13 rfl),(fzT_q t14 rfl),(fzT_q t18 rfl),(fzT_q t74 rfl),(fzT_q t75 rfl),(fzT_q t124 rfl),(kill_ne h2 (by decide)),(kill_ne h3 (by decide)),(kill_ne h4 (by decide)),(kill_ne h9 (by decide)),(kill_ne h11 (by decide)),(kill_ne h14 (by decide)),(kill_self (congrArg Blk.ver h16)),(kill_ne h43 (by decide)),(kill_ne h815 (by decide)),(kill_ne h1003 (by decide)),(kill_ne h1006 (by decide)),trivial⟩ ?_
     intro T H ⟨t2,t4,t11,t13,t14,t18,t74,t75,t124,h2,h3,h4,h9,h11,h14,h16,h43,h815,h1003,h1006,_⟩
     refine W_t (R_addN t75 (@rfl V (iV ((1:Nat):Int))) (by omega) (R_mv rfl (R_e ?_)))
     refine p113 _ _ _ ?_ ⟨(j+1),(l2++[(⟨nth ((nth (m.nx) (((nth (l) (k))).s).toNat)) (j),(stM (((nth (l) (k))).f) (((j:Nat):Int)) (((nth ((nth (m.ot) (((nth (l) (k))).s).toNat)) (j))))).1,cat ([((nth (l) (k))).w,[((j:Nat):Int)]])⟩:Pl)]),(nth ((nth (m.nx) (((nth (l) (k))).s).toNat)) (j)),(kyF ((stM (((nth (l) (k))).f) (((j:Nat):Int)) (((nth ((nth (m.ot) (((nth (l) (k))).s).toNat)) (j))))).1)),(w8+1),(v16+1),(v1003+1),(v1006+1),rfl,t2,t4,t11,t13,t14,t74,(Eq.trans (@rfl V (iV ((j+1:Nat):Int))) (by rfl)),h2,h3,h4,h9,(Eq.trans h11 (by rfl)),h14,h16,(Eq.trans h43 (by rfl)),(Eq.trans h815 (by rfl)),⟨(congrArg Blk.ver h1003),congrArg Blk.live h1003⟩,⟨(congrArg Blk.ver h1006),congrArg Blk.live h1006⟩,?_,?_,?_,?_,?_⟩
     · omega
     · omega
     · first|exact (fnd_new heF).2 ▸ p3|exact (fnd_old heF) ▸ p3
     · first|exact last_new|exact hla2
     · first|exact hl2|(rw [List.length_append]; omega)
     · first|exact hc2.trans ((vRow_go (by omega) e1 e2 e3).trans (by rw [show fndL l2 (vNx m (nth l k) j)=_ from (fnd_new heF).2]))|exact hc2.trans ((vRow_go (by omega) e1 e2 e3).trans (by rw [show fndL l2 (vNx m (nth l k) j)=_ from fnd_old heF]))
    ·
     refine R_callE (evcons t11 (evcons rfl evnil)) (find_old_E l2 (⟨nth ((nth (m.nx) (((nth (l) (k))).s).toNat)) (j),(stM (((nth (l) (k))).f) (((j:Nat):Int)) (((nth ((nth (m.ot) (((nth (l) (k))).s).toNat)) (j))))).1,cat ([((nth (l) (k))).w,[((j:Nat):Int)]])⟩:Pl) ls2 lk2 1 1 w8 v1003 v1006 heF _ h11 h43 h815 (h1003).1 h1006 hp2.len x1 (last_in hla2)) (R_mv rfl (R_ext rfl rfl (R_ext rfl rfl (R_mv rfl (R_mv rfl ?_)))))
     refine R_nil (hK _ _ ?_); clear hK K
     refine fork_ (R:=fun T H=>T 2=(V.mp 2 1 0 0)∧T 4=(V.mp 4 1 0 0)∧T 11=(V.mp 11 1 0 0)∧T 13=(iV ((k:Nat):Int))∧T 14=(V.mp 14 (v14+1) 0 0)∧T 17=(iV ((fnd l2 (⟨nth ((nth (m.nx) (((nth (l) (k))).s).toNat)) (j),(stM (((nth (l) (k))).f) (((j:Nat):Int)) (((nth ((nth (m.ot) (((nth (l) (k))).s).toNat)) (j))))).1,cat ([((nth (l) (k))).w,[((j:Nat):Int)]])⟩:Pl)).2))∧T 18=(ints (cat ([((nth (l) (k))).w,[((j:Nat):Int)]])))∧T 19=(V.bool ((fnd l2 (⟨nth ((nth (m.nx) (((nth (l) (k))).s).toNat)) (j),(stM (((nth (l) (k))).f) (((j:Nat):Int)) (((nth ((nth (m.ot) (((nth (l) (k))).s).toNat)) (j))))).1,cat ([((nth (l) (k))).w,[((j:Nat):Int)]])⟩:Pl)).1))∧T 74=(iV (m.i))∧T 75=(iV ((j:Nat):Int))∧H 2=(bk 1 50 4 [[(iV (m.i)),(iV (m.s)),(intss m.nx),(intss m.ot)]])∧H 3=(bk 1 24 3 [[(iV (f.op)),(iV (f.arg)),(V.sl (List.map cF (f.kids)))]])∧H 4=(bk 1 54 2 [[V.nilsl,V.nilsl]])∧H 9=(bk 1 24 3 [[(iV ((simp_ f).1.op)),(iV ((simp_ f).1.arg)),(V.sl (List.map cF ((simp_ f).1.kids)))]])∧H 11=(bk 1 92 4 [[(V.mm 43 1),(V.ms 815 w8 0 (l2.length)),(iV (ls2)),(V.str lk2)]])∧H 14=(bk (v14+1) 95 5 [[(iV (((nth (l) (k))).s)),(iV (((nth (l) (k))).f.op)),(iV (((nth (l) (k))).f.arg)),(V.sl (List.map cF (((nth (l) (k))).f.kids))),(ints (((nth (l) (k))).w))]])∧H 16=(bk (v16+1) 24 3 [[(iV ((stM (((nth (l) (k))).f) (((j:Nat):Int)) (((nth ((nth (m.ot) (((nth (l) (k))).s).toNat)) (j))))).1.op)),(iV ((stM (((nth (l) (k))).f) (((j:Nat):Int)) (((nth ((nth (m.ot) (((nth (l) (k))).s).toNat)) (j))))).1.arg)),(V.sl (List.map cF ((stM (((nth (l) (k))).f) (((j:Nat):Int)) (((nth ((nth (m.ot) (((nth (l) (k))).s).toNat)) (j))))).1.kids)))]])∧H 43=(bz 1 mapH 2 (entS (List.map plK l2)))∧H 815=(bz w8 95 5 (List.map cPl (l2)))∧H 1003=(⟨v1003+1,false,false,0,0,[]⟩:Blk)∧H 1006=(⟨v1006+1,false,false,0,0,[]⟩:Blk)∧True) ⟨t2,t4,t11,t13,t14,rfl,rfl,rfl,t74,t75,h2,h3,h4,h9,h11,h14,rfl,h43,h815,rfl,rfl,trivial⟩ ?_
     intro T H ⟨t2,t4,t11,t13,t14,t17,t18,t19,t74,t75,h2,h3,h4,h9,h11,h14,h16,h43,h815,h1003,h1006,_⟩
     refine W_seq_seq (W_r (R_mv t17 (R_neq rfl rfl (R_e ?_))))
     refine W_seq_if rfl (fun c23=>?_) fun c23=>?_
     ·
      have d1:=hc.trans (vOut_stop (by omega) hp.len (hc2.trans (vRow_f (by omega) e1 c23)))
      refine W_seq_seq (W_r (R_build rfl rfl (R_mv t17 (R_sk t4 rfl rfl h4 rfl rfl rfl rfl rfl (R_mv rfl (R_mv rfl (R_e ?_)))))))
      refine W_seq_ret (y15 _ _ (p213 _ _ (y12 _ _ (y11 _ _ (p29 _ _ (y8 _ _ ?_))))))
      refine RetC_3 (resV_c (u:=(V.agg [V.nilsl,V.nilsl])) t4 (@rfl Blk (bk 1 54 2 [[V.nilsl,V.nilsl]])) (lB oB rfl rfl)) (resV_t (@rfl V (V.bool false))) (resV_t (@rfl V (iV ((fnd l2 (⟨nth ((nth (m.nx) (((nth (l) (k))).s).toNat)) (j),(stM (((nth (l) (k))).f) (((j:Nat):Int)) (((nth ((nth (m.ot) (((nth (l) (k))).s).toNat)) (j))))).1,cat ([((nth (l) (k))).w,[((j:Nat):Int)]])⟩:Pl)).2)))) (fz_agg2 (fz_nil ?_) (fz_nil ?_)) (fz_bool ?_) (fz_int ?_)
      · rw [d1]; try rfl
      · rw [d1]; try rfl
      · rw [d1]; try rfl
      · rw [d1]; try rfl
     have e2:=c23
     refine W_seq_skip (W_r (R_mv t19 (R_e ?_)))
     refine W_ifb rfl (fun c24=>?_) (fun c24=>?_)
     ·
      have d1:=hc.trans (vOut_stop (by omega) hp.len (hc2.trans (vRow_b (by omega) e1 e2 c24)))
      refine W_r (R_lk t2 h2 rfl rfl (R_mv t18 (R_callk (mrun_pure m (cat ([((nth (l) (k))).w,[((j:Nat):Int)]]))) rfl (R_mv rfl (R_ext rfl rfl (R_ext rfl rfl (R_mv rfl ?_)))))))
      refine R_mv rfl (R_e (W_r (R_mv t18 (R_mv rfl (R_build rfl rfl (R_mv rfl (R_eql rfl rfl ?_)))))))
      refine R_mv rfl (R_sk t4 rfl rfl h4 rfl rfl rfl rfl rfl (R_mv rfl (R_mv rfl (R_e (W_ret (y15 _ _ (p213 _ _ ?_)))))))
      refine y12 _ _ (y11 _ _ (p29 _ _ (y8 _ _ ?_)))
      refine RetC_3 (resV_c (u:=(V.agg [(ints (cat ([((nth (l) (k))).w,[((j:Nat):Int)]]))),(ints (frOut m m.s (cat ([((nth (l) (k))).w,[((j:Nat):Int)]]))))])) t4 (@rfl Blk (bk 1 54 2 [[(ints (cat ([((nth (l) (k))).w,[((j:Nat):Int)]]))),(ints (frOut m m.s (cat ([((nth (l) (k))).w,[((j:Nat):Int)]]))))]])) (lB oB rfl rfl)) (resV_t (@rfl V (V.bool (decide ((frE m m.s (cat ([((nth (l) (k))).w,[((j:Nat):Int)]])))=(0:Int)))))) (resV_t (@rfl V (iV (frE m m.s (cat ([((nth (l) (k))).w,[((j:Nat):Int)]])))))) (fz_agg2 (fz_sl ?_ (fun _=>by simp)) (fz_sl ?_ (fun _=>by simp))) (fz_bool ?_) (fz_int ?_)
      · rw [d1]; try rfl
      · rw [d1]; try rfl
      · rw [d1]; try rfl
      · rw [d1]; try rfl
     have e3:=c24
     replace e3: ¬(_=true):=fun q=>absurd (q.symm.trans e3) (by decide)
     refine W_skip (n15 _ _ (fork_ (R:=fun T H=>T 2=(V.mp 2 1 0 0)∧T 4=(V.mp 4 1 0 0)∧T 11=(V.mp 11 1 0 0)∧T 13=(iV ((k:Nat):Int))∧T 14=(V.mp 14 (v14+1) 0 0)∧T 18=(ints (cat ([((nth (l) (k))).w,[((j:Nat):Int)]])))∧T 74=(iV (m.i))∧T 75=(iV ((j:Nat):Int))∧T 124=(V.bool ((fnd l2 (⟨nth ((nth (m.nx) (((nth (l) (k))).s).toNat)) (j),(stM (((nth (l) (k))).f) (((j:Nat):Int)) (((nth ((nth (m.ot) (((nth (l) (k))).s).toNat)) (j))))).1,cat ([((nth (l) (k))).w,[((j:Nat):Int)]])⟩:Pl)).1))∧H 2=(bk 1 50 4 [[(iV (m.i)),(iV (m.s)),(intss m.nx),(intss m.ot)]])∧H 3=(bk 1 24 3 [[(iV (f.op)),(iV (f.arg)),(V.sl (List.map cF (f.kids)))]])∧H 4=(bk 1 54 2 [[V.nilsl,V.nilsl]])∧H 9=(bk 1 24 3 [[(iV ((simp_ f).1.op)),(iV ((simp_ f).1.arg)),(V.sl (List.map cF ((simp_ f).1.kids)))]])∧H 11=(bk 1 92 4 [[(V.mm 43 1),(V.ms 815 w8 0 (l2.length)),(iV (ls2)),(V.str lk2)]])∧H 14=(bk (v14+1) 95 5 [[(iV (((nth (l) (k))).s)),(iV (((nth (l) (k))).f.op)),(iV (((nth (l) (k))).f.arg)),(V.sl (List.map cF (((nth (l) (k))).f.kids))),(ints (((nth (l) (k))).w))]])∧H 16=(bk (v16+1) 24 3 [[(iV ((stM (((nth (l) (k))).f) (((j:Nat):Int)) (((nth ((nth (m.ot) (((nth (l) (k))).s).toNat)) (j))))).1.op)),(iV ((stM (((nth (l) (k))).f) (((j:Nat):Int)) (((nth ((nth (m.ot) (((nth (l) (k))).s).toNat)) (j))))).1.arg)),(V.sl (List.map cF ((stM (((nth (l) (k))).f) (((j:Nat):Int)) (((nth ((nth (m.ot) (((nth (l) (k))).s).toNat)) (j))))).1.kids)))]])∧H 43=(bz 1 mapH 2 (entS (List.map plK l2)))∧H 815=(bz w8 95 5 (List.map cPl (l2)))∧H 1003=(⟨v1003+1,false,false,0,0,[]⟩:Blk)∧H 1006=(⟨v1006+1,false,false,0,0,[]⟩:Blk)∧True) ⟨t2,t4,t11,t13,t14,t18,t74,t75,(@rfl V (V.bool ((fnd l2 (⟨nth ((nth (m.nx) (((nth (l) (k))).s).toNat)) (j),(stM (((nth (l) (k))).f) (((j:Nat):Int)) (((nth ((nth (m.ot) (((nth (l) (k))).s).toNat)) (j))))).1,cat ([((nth (l) (k))).w,[((j:Nat):Int)]])⟩:Pl)).1))),h2,h3,h4,h9,h11,h14,h16,h43,h815,h1003,h1006,trivial⟩ ?_))
     intro T H ⟨t2,t4,t11,t13,t14,t18,t74,t75,t124,h2,h3,h4,h9,h11,h14,h16,h43,h815,h1003,h1006,_⟩
     refine .freeze 16 (.done ?_)
     refine fork_ (R:=fun T H=>T 2=(V.mp 2 1 0 0)∧T 4=(V.mp 4 1 0 0)∧T 11=(V.mp 11 1 0 0)∧T 13=(iV ((k:Nat):Int))∧T 14=(V.mp 14 (v14+1) 0 0)∧T 18=(ints (cat ([((nth (l) (k))).w,[((j:Nat):Int)]])))∧T 74=(iV (m.i))∧T 75=(iV ((j:Nat):Int))∧T 124=(V.bool ((fnd l2 (⟨nth ((nth (m.nx) (((nth (l) (k))).s).toNat)) (j),(stM (((nth (l) (k))).f) (((j:Nat):Int)) (((nth ((nth (m.ot) (((nth (l) (k))).s).toNat)) (j))))).1,cat ([((nth (l) (k))).w,[((j:Nat):Int)]])⟩:Pl)).1))∧H 2=(bk 1 50 4 [[(iV (m.i)),(iV (m.s)),(intss m.nx),(intss m.ot)]])∧H 3=(bk 1 24 3 [[(iV (f.op)),(iV (f.arg)),(V.sl (List.map cF (f.kids)))]])∧H 4=(bk 1 54 2 [[V.nilsl,V.nilsl]])∧H 9=(bk 1 24 3 [[(iV ((simp_ f).1.op)),(iV ((simp_ f).1.arg)),(V.sl (List.map cF ((simp_ f).1.kids)))]])∧H 11=(bk 1 92 4 [[(V.mm 43 1),(V.ms 815 w8 0 (l2.length)),(iV (ls2)),(V.str lk2)]])∧H 14=(bk (v14+1) 95 5 [[(iV (((nth (l) (k))).s)),(iV (((nth (l) (k))).f.op)),(iV (((nth (l) (k))).f.arg)),(V.sl (List.map cF (((nth (l) (k))).f.kids))),(ints (((nth (l) (k))).w))]])∧((H 16).ver=v16+1∧(H 16).live=false)∧H 43=(bz 1 mapH 2 (entS (List.map plK l2)))∧H 815=(bz w8 95 5 (List.map cPl (l2)))∧H 1003=(⟨v1003+1,false,false,0,0,[]⟩:Blk)∧H 1006=(⟨v1006+1,false,false,0,0,[]⟩:Blk)∧True) ⟨(fzT_q t2 rfl),(fzT_q t4 rfl),(fzT_q t11 rfl),(fzT_q t13 rfl),(fzT_q t14 rfl),(fzT_q t18 rfl),(fzT_q t74 rfl),(fzT_q t75 rfl),(fzT_q t124 rfl),(kill_ne h2 (by decide)),(kill_ne h3 (by decide)),(kill_ne h4 (by decide)),(kill_ne h9 (by decide)),(kill_ne h11 (by decide)),(kill_ne h14 (by decide)),(kill_self (congrArg Blk.ver h16)),(kill_ne h43 (by decide)),(kill_ne h815 (by decide)),(kill_ne h1003 (by decide)),(kill_ne h1006 (by decide)),trivial⟩ ?_
     intro T H ⟨t2,t4,t11,t13,t14,t18,t74,t75,t124,h2,h3,h4,h9,h11,h14,h16,h43,h815,h1003,h1006,_⟩
     refine W_t (R_addN t75 (@rfl V (iV ((1:Nat):Int))) (by omega) (R_mv rfl (R_e ?_)))
     refine p113 _ _ _ ?_ ⟨(j+1),l2,ls2,lk2,w8,(v16+1),(v1003+1),(v1006+1),rfl,t2,t4,t11,t13,t14,t74,(Eq.trans (@rfl V (iV ((j+1:Nat):Int))) (by rfl)),h2,h3,h4,h9,h11,h14,h16,h43,h815,⟨(congrArg Blk.ver h1003),congrArg Blk.live h1003⟩,⟨(congrArg Blk.ver h1006),congrArg Blk.live h1006⟩,?_,?_,?_,?_,?_⟩
     · omega
     · omega
     · first|exact (fnd_new heF).2 ▸ p3|exact (fnd_old heF) ▸ p3
     · first|exact last_new|exact hla2
     · first|exact hl2|(rw [List.length_append]; omega)
     · first|exact hc2.trans ((vRow_go (by omega) e1 e2 e3).trans (by rw [show fndL l2 (vNx m (nth l k) j)=_ from (fnd_new heF).2]))|exact hc2.trans ((vRow_go (by omega) e1 e2 e3).trans (by rw [show fndL l2 (vNx m (nth l k) j)=_ from fnd_old heF]))
   have hr0:=hc2.trans (vRow_end (by omega))
   refine W_seq_exit (p313 _ _ _ (x12 _ _ (n11 _ _ (fork_ (R:=fun T H=>T 2=(V.mp 2 1 0 0)∧T 4=(V.mp 4 1 0 0)∧T 11=(V.mp 11 1 0 0)∧T 13=(iV ((k:Nat):Int))∧T 14=(V.mp 14 (v14+1) 0 0)∧T 74=(iV (m.i))∧T 75=(iV ((j:Nat):Int))∧T 76=(V.bool (decide (((j:Nat):Int) < (m.i))))∧H 2=(bk 1 50 4 [[(iV (m.i)),(iV (m.s)),(intss m.nx),(intss m.ot)]])∧H 3=(bk 1 24 3 [[(iV (f.op)),(iV (f.arg)),(V.sl (List.map cF (f.kids)))]])∧H 4=(bk 1 54 2 [[V.nilsl,V.nilsl]])∧H 9=(bk 1 24 3 [[(iV ((simp_ f).1.op)),(iV ((simp_ f).1.arg)),(V.sl (List.map cF ((simp_ f).1.kids)))]])∧H 11=(bk 1 92 4 [[(V.mm 43 1),(V.ms 815 w8 0 (l2.length)),(iV (ls2)),(V.str lk2)]])∧H 14=(bk (v14+1) 95 5 [[(iV (((nth (l) (k))).s)),(iV (((nth (l) (k))).f.op)),(iV (((nth (l) (k))).f.arg)),(V.sl (List.map cF (((nth (l) (k))).f.kids))),(ints (((nth (l) (k))).w))]])∧((H 16).ver=v16∧(H 16).live=false)∧H 43=(bz 1 mapH 2 (entS (List.map plK l2)))∧H 815=(bz w8 95 5 (List.map cPl (l2)))∧((H 1003).ver=v1003∧(H 1003).live=false)∧((H 1006).ver=v1006∧(H 1006).live=false)∧True) ⟨t2,t4,t11,t13,t14,t74,t75,(@rfl V (V.bool (decide (((j:Nat):Int) < (m.i))))),h2,h3,h4,h9,h11,h14,h16,h43,h815,h1003,h1006,trivial⟩ ?_))))
   intro T H ⟨t2,t4,t11,t13,t14,t74,t75,t76,h2,h3,h4,h9,h11,h14,h16,h43,h815,h1003,h1006,_⟩
   refine .freeze 14 (.done ?_)
   refine fork_ (R:=fun T H=>T 2=(V.mp 2 1 0 0)∧T 4=(V.mp 4 1 0 0)∧T 11=(V.mp 11 1 0 0)∧T 13=(iV ((k:Nat):Int))∧T 14=(V.mp 14 (v14+1) 0 0)∧T 74=(iV (m.i))∧T 75=(iV ((j:Nat):Int))∧T 76=(V.bool (decide (((j:Nat):Int) < (m.i))))∧H 2=(bk 1 50 4 [[(iV (m.i)),(iV (m.s)),(intss m.nx),(intss m.ot)]])∧H 3=(bk 1 24 3 [[(iV (f.op)),(iV (f.arg)),(V.sl (List.map cF (f.kids)))]])∧H 4=(bk 1 54 2 [[V.nilsl,V.nilsl]])∧H 9=(bk 1 24 3 [[(iV ((simp_ f).1.op)),(iV ((simp_ f).1.arg)),(V.sl (List.map cF ((simp_ f).1.kids)))]])∧H 11=(bk 1 92 4 [[(V.mm 43 1),(V.ms 815 w8 0 (l2.length)),(iV (ls2)),(V.str lk2)]])∧((H 14).ver=v14+1∧(H 14).live=false)∧((H 16).ver=v16∧(H 16).live=false)∧H 43=(bz 1 mapH 2 (entS (List.map plK l2)))∧H 815=(bz w8 95 5 (List.map cPl (l2)))∧((H 1003).ver=v1003∧(H 1003).live=false)∧((H 1006).ver=v1006∧(H 1006).live=false)∧True) ⟨(fzT_q t2 rfl),(fzT_q t4 rfl),(fzT_q t11 rfl),(fzT_q t13 rfl),(fzT_q t14 rfl),(fzT_q t74 rfl),(fzT_q t75 rfl),(fzT_q t76 rfl),(kill_ne h2 (by decide)),(kill_ne h3 (by decide)),(kill_ne h4 (by decide)),(kill_ne h9 (by decide)),(kill_ne h11 (by decide)),(kill_self (congrArg Blk.ver h14)),(kill_dead h16),(kill_ne h43 (by decide)),(kill_ne h815 (by decide)),(kill_dead h1003),(kill_dead h1006),trivial⟩ ?_
   intro T H ⟨t2,t4,t11,t13,t14,t74,t75,t76,h2,h3,h4,h9,h11,h14,h16,h43,h815,h1003,h1006,_⟩
   refine W_t (R_mv t13 (R_addN rfl (@rfl V (iV ((1:Nat):Int))) (by omega) (R_mv rfl (R_e ?_))))
   refine p19 _ _ _ ?_ ⟨(k+1),l2,ls2,lk2,w8,(v14+1),v16,v1003,v1006,rfl,t2,t4,t11,(Eq.trans (@rfl V (iV ((k+1:Nat):Int))) (by rfl)),h2,h3,h4,h9,h11,h14,h16,h43,h815,h1003,h1006,?_,?_,?_,?_⟩
   · have:=hp.len; omega
   · omega
   · exact hp2
   · exact hla2
   · exact hc.trans (vOut_go (by omega) hp.len hr0)
  have d1:=hc.trans (vOut_end (by omega))
  refine W_seq_exit (p39 _ _ _ (x8 _ _ (.done (W_r (R_build rfl rfl (R_sk t4 rfl rfl h4 rfl rfl rfl rfl rfl (R_mv rfl ?_)))))))
  refine R_mv rfl (R_e (W_ret ?_))
  refine RetC_3 (resV_c (u:=(V.agg [V.nilsl,V.nilsl])) t4 (@rfl Blk (bk 1 54 2 [[V.nilsl,V.nilsl]])) (lB oB rfl rfl)) (resV_t (@rfl V (V.bool false))) (resV_t (@rfl V (iV (0:Int)))) (fz_agg2 (fz_nil ?_) (fz_nil ?_)) (fz_bool ?_) (fz_int ?_)
  · rw [d1]; try rfl
  · rw [d1]; try rfl
  · rw [d1]; try rfl
  · rw [d1]; try rfl
 ·
  refine R_callE (evcons t11 (evcons rfl evnil)) (find0_old_E ([]) m.s ((simp_ f).1) (0:Int) ([]) 1 1 1 0 0 heF _ h11 h43 h815 (congrArg Blk.ver h1003) ⟨congrArg Blk.ver h1006,congrArg Blk.live h1006⟩ (Nat.zero_le _) v0 (fun _ e=>absurd e.symm (ky_ne _))) (R_mv rfl (R_ext rfl rfl (R_ext rfl rfl (R_mv rfl (R_mv rfl ?_)))))
  refine R_nil (hK _ _ ?_); clear hK K
  refine fork_ (R:=fun T H=>T 2=(V.mp 2 1 0 0)∧T 4=(V.mp 4 1 0 0)∧T 10=(iV ((fnd ([]) (⟨m.s,(simp_ f).1,[]⟩:Pl)).2))∧T 11=(V.mp 11 1 0 0)∧T 12=(V.bool ((fnd ([]) (⟨m.s,(simp_ f).1,[]⟩:Pl)).1))∧H 2=(bk 1 50 4 [[(iV (m.i)),(iV (m.s)),(intss m.nx),(intss m.ot)]])∧H 3=(bk 1 24 3 [[(iV (f.op)),(iV (f.arg)),(V.sl (List.map cF (f.kids)))]])∧H 4=(bk 1 54 2 [[V.nilsl,V.nilsl]])∧H 9=(bk 1 24 3 [[(iV ((simp_ f).1.op)),(iV ((simp_ f).1.arg)),(V.sl (List.map cF ((simp_ f).1.kids)))]])∧H 11=(bk 1 92 4 [[(V.mm 43 1),(V.ms 815 1 0 (0)),(iV (0:Int)),(V.str ([]))]])∧H 14=(⟨0,false,false,0,0,[]⟩:Blk)∧H 16=(⟨0,false,false,0,0,[]⟩:Blk)∧H 43=(bz 1 mapH 2 (entS (List.map plK [])))∧H 815=(bz 1 95 5 [])∧H 1003=(⟨1,false,false,0,0,[]⟩:Blk)∧H 1006=(⟨1,false,false,0,0,[]⟩:Blk)∧True) ⟨t2,t4,rfl,t11,rfl,h2,h3,h4,h9,h11,h14,h16,h43,h815,rfl,rfl,trivial⟩ ?_
  intro T H ⟨t2,t4,t10,t11,t12,h2,h3,h4,h9,h11,h14,h16,h43,h815,h1003,h1006,_⟩
  refine W_seq_seq (W_r (R_mv t10 (R_neq rfl rfl (R_mv rfl ?_))))
  refine Ops_seg 2 (fun T H=>T 2=(V.mp 2 1 0 0)∧T 4=(V.mp 4 1 0 0)∧T 10=(iV ((fnd ([]) (⟨m.s,(simp_ f).1,[]⟩:Pl)).2))∧T 11=(V.mp 11 1 0 0)∧T 12=(V.bool ((fnd ([]) (⟨m.s,(simp_ f).1,[]⟩:Pl)).1))∧T 57=(V.bool ((decide (((fnd ([]) (⟨m.s,(simp_ f).1,[]⟩:Pl)).2)≠(0:Int))||((fnd ([]) (⟨m.s,(simp_ f).1,[]⟩:Pl)).1))))∧H 2=(bk 1 50 4 [[(iV (m.i)),(iV (m.s)),(intss m.nx),(intss m.ot)]])∧H 3=(bk 1 24 3 [[(iV (f.op)),(iV (f.arg)),(V.sl (List.map cF (f.kids)))]])∧H 4=(bk 1 54 2 [[V.nilsl,V.nilsl]])∧H 9=(bk 1 24 3 [[(iV ((simp_ f).1.op)),(iV ((simp_ f).1.arg)),(V.sl (List.map cF ((simp_ f).1.kids)))]])∧H 11=(bk 1 92 4 [[(V.mm 43 1),(V.ms 815 1 0 (0)),(iV (0:Int)),(V.str ([]))]])∧H 14=(⟨0,false,false,0,0,[]⟩:Blk)∧H 16=(⟨0,false,false,0,0,[]⟩:Blk)∧H 43=(bz 1 mapH 2 (entS (List.map plK [])))∧H 815=(bz 1 95 5 [])∧H 1003=(⟨1,false,false,0,0,[]⟩:Blk)∧H 1006=(⟨1,false,false,0,0,[]⟩:Blk)∧True) ?_ ?_
  ·
   by_cases g27:((fnd ([]) (⟨m.s,(simp_ f).1,[]⟩:Pl)).2)≠(0:Int)
   ·
    refine G_n (edT g27 rfl) (R_pickT (edT g27 rfl) rfl ?_)
    exact ⟨t2,t4,t10,t11,t12,(dborT g27),h2,h3,h4,h9,h11,h14,h16,h43,h815,h1003,h1006,trivial⟩
   ·
    refine G_yes (edF g27 rfl) (R_mv t12 (R_pickF (edF g27 rfl) rfl ?_))
    exact ⟨t2,t4,t10,t11,t12,(dborF g27),h2,h3,h4,h9,h11,h14,h16,h43,h815,h1003,h1006,trivial⟩
  intro T H ⟨t2,t4,t10,t11,t12,t57,h2,h3,h4,h9,h11,h14,h16,h43,h815,h1003,h1006,_⟩
  refine R_e ?_
  refine W_seq_ifb t57 (fun c28=>?_) (fun c28=>?_)
  ·
   have d1:=vck_0 a1 a2 a3 (vfind0 c28)
   refine W_seq_seq (W_r (R_build rfl rfl (R_mv t12 (R_mv t10 (R_sk t4 rfl rfl h4 rfl rfl rfl rfl rfl (R_mv rfl (R_mv rfl ?_)))))))
   refine R_e (W_seq_ret ?_)
   refine RetC_3 (resV_c (u:=(V.agg [V.nilsl,V.nilsl])) t4 (@rfl Blk (bk 1 54 2 [[V.nilsl,V.nilsl]])) (lB oB rfl rfl)) (resV_t (@rfl V (V.bool ((fnd ([]) (⟨m.s,(simp_ f).1,[]⟩:Pl)).1)))) (resV_t (@rfl V (iV ((fnd ([]) (⟨m.s,(simp_ f).1,[]⟩:Pl)).2)))) (fz_agg2 (fz_nil ?_) (fz_nil ?_)) (fz_bool ?_) (fz_int ?_)
   · rw [d1]; try rfl
   · rw [d1]; try rfl
   · rw [d1]; try rfl
   · rw [d1]; try rfl
  · exact absurd (Eq.trans (Eq.symm c28) (fnd0_old heF)) (by decide)
def r32_6:List SO:=[
 qM 17 0,
 qM 18 5,
 qA 19 1 17 18,
 ql 20 19,
 qM 21 1,
 qM 22 5,
 qA 23 1 21 22,
 ql 24 23,
 qP 25 .neq 20 24]
def b32_0:SC:=.seq (.seq (.reg [qM 11 5,qM 12 0,qN 13 12,qP 14 .lss 11 13]) (.cond (.t 14) (.skip) (.exit 0))) (.seq (.block 1 (.seq (.reg r32_6) (.cond (.t 25) (.seq (.reg [sO 4 (.mv (.c (.bool false)))]) (.ret)) (.skip)))) (.reg [qM 15 5,qC 16 .add 15 1,qM 5 16]))
def s32:SF:=⟨26,[.tmp 4],.seq (.reg [sO 4 (.mv (.c (.bool false)))]) (.seq (.seq (.reg [qM 6 0,qN 7 6,qM 8 1,qN 9 8,qP 10 .neq 7 9]) (.cond (.t 10) (.seq (.reg [sO 4 (.mv (.c (.bool false)))]) (.ret)) (.skip))) (.seq (.seq (.reg [qI 5 0]) (.block 0 (.loop b32_0))) (.seq (.reg [sO 4 (.mv (.c (.bool true)))]) (.ret))))⟩
theorem s32_ok:slimF Tryz.prog ⟨[51,59,84,90,97,109,153,154,155,160],[],[],[]⟩ Tryz.f32=some s32:=by kernel_rfl
theorem ints_pure (a b:List Int):PureC Tryz.prog 32 [(ints a),(ints b)] (V.bool (decide (a=b))):=by
 refine pW Tryz.func32 s32_ok fun hB=>?_
 unfold s32
 dsimp only
 refine W_r (R_mv rfl (R_e (W_seq_seq (W_r (R_mv rfl (R_len rfl (R_mv rfl ?_)))))))
 refine R_len rfl (R_neq rfl rfl (R_e ?_))
 refine W_seq_if rfl (fun c1=>?_) fun c1=>?_
 ·
  refine W_seq_seq (W_r (R_mv rfl (R_e (W_seq_ret ?_))))
  refine Ret_1 (@rfl V (V.bool false)) (fz_bool ?_)
  · exact (decide_eq_false (fun e=>by subst e; omega)).symm
 refine W_seq_skip (W_seq_seq (W_r (R_mv rfl (R_e (W_seq_blockg fun Q2 n2 x2 y2 z2=>?_)))))
 refine W_loop (fun mm T H=> ∃ (k:Nat),mm=a.length - k∧T 0=(ints a)∧T 1=(ints b)∧T 5=(iV ((k:Nat):Int))∧(k≤a.length)∧(a.length=b.length)∧(∀ j,j < k→nth a j=nth b j)) ?_ ?_
 ·
  refine ⟨_,0,rfl,rfl,rfl,(Eq.trans (@rfl V (iV (0:Int))) rfl),?_,?_,?_⟩
  · omega
  · omega
  · intro j hj; omega
 intro mm T H ⟨k,hmm,t0,t1,t5,hk,hl,hc⟩ Q3 p13 p23 p33
 unfold b32_0
 refine W_seq_seq (W_r (R_mv t5 (R_mv t0 (R_len rfl (R_lss rfl rfl (R_e ?_))))))
 refine W_seq_if rfl (fun c4=>?_) fun c4=>?_
 ·
  refine W_seq_skip (W_seq_blockg fun Q5 n5 x5 y5 z5=>(W_r (R_mv t0 (R_mv t5 (R_idx (i:=k) (@rfl V (ints a)) (@rfl V (iV ((k:Nat):Int))) (by omega) rfl (R_load_pp rfl rfl (R_mv t1 ?_)))))))
  refine R_mv t5 (R_idx (i:=k) (@rfl V (ints b)) (@rfl V (iV ((k:Nat):Int))) (by omega) rfl (R_load_pp rfl rfl (R_neq rfl rfl (R_e ?_))))
  refine W_if rfl (fun c6=>?_) fun c6=>?_
  ·
   refine W_r (R_mv rfl (R_e (W_ret (y5 _ _ (p23 _ _ (y2 _ _ ?_))))))
   refine Ret_1 (@rfl V (V.bool false)) (fz_bool ?_)
   · exact (decide_eq_false (fun e=>by subst e; omega)).symm
  refine W_skip (n5 _ _ (.done (W_t (R_mv t5 (R_addN rfl (@rfl V (iV ((1:Nat):Int))) (by omega) (R_mv rfl (R_e ?_)))))))
  refine p13 _ _ _ ?_ ⟨(k+1),rfl,t0,t1,(Eq.trans (@rfl V (iV ((k+1:Nat):Int))) (by rfl)),?_,?_,?_⟩
  · omega
  · omega
  · omega
  · intro j hj
    by_cases e:j=k
    · subst e; omega
    · exact hc j (by omega)
 refine W_seq_exit (p33 _ _ _ (x2 _ _ (.done (W_r (R_mv rfl (R_e (W_ret ?_)))))))
 refine Ret_1 (@rfl V (V.bool true)) (fz_bool ?_)
 · exact (decide_eq_true (nth_ext hl fun j hj=>hc j (by omega))).symm
def r48_1:List SO:=[
 sO 1 (.bslice 3 1 false [.int .i64 0] 2 [(0,.c (.int .i64 1)),(1,.c (.int .i64 0))]),
 sO 2 (.bslice 3 1 false [.int .i64 0] 2 [(0,.c (.int .i64 1)),(1,.c (.int .i64 0))]),
 sO 3 (.bslice 52 1 false [.nilsl] 2 [(0,.t 1),(1,.t 2)]),
 sO 4 (.bslice 3 1 false [.int .i64 0] 2 [(0,.c (.int .i64 1)),(1,.c (.int .i64 0))]),
 sO 5 (.bslice 3 1 false [.int .i64 0] 2 [(0,.c (.int .i64 1)),(1,.c (.int .i64 2))]),
 sO 6 (.bslice 52 1 false [.nilsl] 2 [(0,.t 4),(1,.t 5)]),
 sO 7 (.build [.int .i64 0,.int .i64 0,.nilsl,.nilsl] [(0,1,.c (.int .i64 2)),(2,1,.t 3),(3,1,.t 6)]),
 sN (.store 4 (.t 0) (.t 7))]
def s48:SF:=⟨8,[.cell 0 true 4],.seq (.reg [sO 0 (.alloc 50 [.int .i64 0,.int .i64 0,.nilsl,.nilsl])]) (.seq (.reg r48_1) (.ret))⟩
theorem s48_ok:slimF Tryz.prog ⟨[51,59,84,90,97,109,153,154,155,160],[],[],[]⟩ Tryz.f48=some s48:=by kernel_rfl
theorem gate_pure:PureC Tryz.prog 48 [] (V.agg [(iV (2:Int)),(iV (0:Int)),(intss ([[1,0],[1,0]])),(intss ([[1,0],[1,2]]))]):=by
 refine pW Tryz.func48 s48_ok fun hB=>?_
 unfold s48
 dsimp only
 refine W_r (R_alloc (i:=0) (n:=0) (m:=4) rfl (congrArg Blk.ver rfl) rfl (R_e (W_r (R_bslice rfl rfl (R_bslice rfl rfl (R_bslice rfl rfl (R_bslice rfl rfl ?_)))))))
 refine R_bslice rfl rfl (R_bslice rfl rfl (R_build rfl rfl (R_sk rfl rfl rfl rfl rfl rfl rfl rfl rfl (R_e (W_ret ?_)))))
 refine RetC_1 (resV_c (u:=(V.agg [(iV (2:Int)),(iV (0:Int)),(V.sl [[(V.sl [[(iV (1:Int))],[(iV (0:Int))]])],[(V.sl [[(iV (1:Int))],[(iV (0:Int))]])]]),(V.sl [[(V.sl [[(iV (1:Int))],[(iV (0:Int))]])],[(V.sl [[(iV (1:Int))],[(iV (2:Int))]])]])])) rfl (@rfl Blk (bk 1 50 4 [[(iV (2:Int)),(iV (0:Int)),(V.sl [[(V.sl [[(iV (1:Int))],[(iV (0:Int))]])],[(V.sl [[(iV (1:Int))],[(iV (0:Int))]])]]),(V.sl [[(V.sl [[(iV (1:Int))],[(iV (0:Int))]])],[(V.sl [[(iV (1:Int))],[(iV (2:Int))]])]])]])) (lB oB rfl rfl)) (fz_aggL (mcons (fz_canon (by simp) rfl) (mcons (fz_canon (by simp) rfl) (mcons (fz_canon (by simp) ?_) (mcons (fz_canon (by simp) ?_) rfl)))))
 · first|rfl|omega|simp_all
 · first|rfl|omega|simp_all
def r49_2:List SO:=[
 qL 7 3 3,
 qL 8 3 1,
 sO 9 (.bslice 24 3 false [.int .i64 0,.int .i64 0,.nilsl] 1 [(0,.t 8)]),
 sO 10 (.build [.int .i64 0,.int .i64 0,.nilsl] [(0,1,.c (.int .i64 4)),(2,1,.t 9)]),
 sO 11 (.bslice 24 3 false [.int .i64 0,.int .i64 0,.nilsl] 2 [(0,.t 7),(1,.t 10)]),
 sO 12 (.build [.int .i64 0,.int .i64 0,.nilsl] [(0,1,.c (.int .i64 10)),(2,1,.t 11)]),
 sN (.store 3 (.t 2) (.t 12))]
def s49:SF:=⟨13,[.cell 2 true 3],.seq (.reg [sO 1 (.box 24 3 (.t 0)),sO 2 (.alloc 24 [.int .i64 0,.int .i64 0,.nilsl])]) (.seq (.reg [sO 4 (.build [.int .i64 0,.int .i64 0,.nilsl] [(0,1,.c (.int .i64 1))]),sO 5 (.bslice 24 3 false [.int .i64 0,.int .i64 0,.nilsl] 1 [(0,.t 4)]),sO 6 (.build [.int .i64 0,.int .i64 0,.nilsl] [(0,1,.c (.int .i64 4)),(2,1,.t 5)]),sO 3 (.alloc 24 [.int .i64 0,.int .i64 0,.nilsl]),sN (.store 3 (.t 3) (.t 6))]) (.seq (.reg r49_2) (.ret)))⟩
theorem s49_ok:slimF Tryz.prog ⟨[51,59,84,90,97,109,153,154,155,160],[],[],[]⟩ Tryz.f49=some s49:=by kernel_rfl
theorem never_pure (f:Fm):PureC Tryz.prog 49 [(V.agg [(iV (f.op)),(iV (f.arg)),(V.sl (List.map cF (f.kids)))])] (V.agg [(iV (10:Int)),(iV (0:Int)),(V.sl (List.map cF ([Fm.nd 4 0 [Fm.nd 1 0 []],Fm.nd 4 0 [f]])))]):=by
 refine pW Tryz.func49 s49_ok fun hB=>?_
 unfold s49
 dsimp only
 refine W_r (R_box (i:=1) (n:=0) (m:=3) (cs:=[(iV (f.op)),(iV (f.arg)),(V.sl (List.map cF (f.kids)))]) rfl (congrArg Blk.ver rfl) rfl rfl rfl (R_alloc (i:=2) (n:=0) (m:=3) rfl (congrArg Blk.ver rfl) rfl (R_e (W_r (R_build rfl rfl (R_bslice rfl rfl (R_build rfl rfl ?_)))))))
 refine R_alloc (i:=3) (n:=0) (m:=3) rfl (congrArg Blk.ver rfl) rfl (R_sk rfl rfl rfl rfl rfl rfl rfl rfl rfl (R_e (W_r (R_lk rfl rfl rfl rfl (R_lk rfl rfl rfl rfl (R_bslice rfl rfl (R_build rfl rfl ?_)))))))
 refine R_bslice rfl rfl (R_build rfl rfl (R_sk rfl rfl rfl rfl rfl rfl rfl rfl rfl (R_e (W_ret ?_))))
 refine RetC_1 (resV_c (u:=(V.agg [(iV (10:Int)),(iV (0:Int)),(V.sl [[(iV (4:Int)),(iV (0:Int)),(V.sl [[(iV (1:Int)),(iV (0:Int)),V.nilsl]])],[(iV (4:Int)),(iV (0:Int)),(V.sl [[(iV (f.op)),(iV (f.arg)),(V.sl (List.map cF (f.kids)))]])]])])) rfl (@rfl Blk (bk 1 24 3 [[(iV (10:Int)),(iV (0:Int)),(V.sl [[(iV (4:Int)),(iV (0:Int)),(V.sl [[(iV (1:Int)),(iV (0:Int)),V.nilsl]])],[(iV (4:Int)),(iV (0:Int)),(V.sl [[(iV (f.op)),(iV (f.arg)),(V.sl (List.map cF (f.kids)))]])]])]])) (lB oB rfl rfl)) (fz_agg3 (fz_canon (by simp) rfl) (fz_canon (by simp) rfl) fz_never)
end Go.Proofs.YteehaobohaecmaaGreatDoor
namespace Go.Proofs.YteehaobohaecmaaGreatDoor
theorem Tr.eq_iff {a b:Tr}:a=b↔a.ni=b.ni∧a.no=b.no:=by cases a; cases b; simp
theorem Ob.eq_iff {a b:Ob}:a=b↔a.i=b.i∧a.tr=b.tr:=by cases a; cases b; simp
instance:DecidableEq Tr:=fun _ _=>decidable_of_iff _ Tr.eq_iff.symm
instance:DecidableEq Ob:=fun _ _=>decidable_of_iff _ Ob.eq_iff.symm
end Go.Proofs.YteehaobohaecmaaGreatDoor
namespace Go.Proofs.YteehaobohaecmaaGreatDoor
open Go
theorem vRow_ne {m : M} {p : Pl} : ∀ (n a : Nat) (l : List Pl) (r : Tr × Bool × Int) (l2 : List Pl), vRow m p n a l = (some r, l2) → r.2.1 = true → r.1.ni ≠ []
  |0,a,l,r,l2,h,hr=>by rw [vRow] at h; cases h
  | n + 1, a, l, r, l2, h, hr => by
    rw [vRow] at h
    split at h
    · cases h; cases hr
    · split at h
      · cases h; cases hr
      · split at h
        · cases h
          simp [vBad,vNx,cat]
        · exact vRow_ne n (a+1) _ r l2 h hr
theorem vOut_ne {m : M} : ∀ (n i : Nat) (l : List Pl), (vOut m n i l).2.1 = true → (vOut m n i l).1.ni ≠ []
  |0,i,l,h=>by rw [vOut] at h; cases h
  | n + 1, i, l, h => by
    rw [vOut] at h ⊢
    split at h
    · rename_i hi
      rw [if_pos hi]
      cases hv:vRow m (nth l i) m.i.toNat 0 l with
      | mk o l2 =>
        rw [hv] at h
        cases o with
        |some r=>exact vRow_ne _ _ _ _ _ hv h
        |none=>exact vOut_ne n (i+1) l2 h
    · cases h
theorem vck_emp {m:M} {f:Fm} (h:(vck m f).2.2=0):((vck m f).2.1&&decide ((vck m f).1.ni.length=0))=(!enB (simp_ f).1)∧fval f=0∧(simp_ f).2=0:=by
  by_cases q1:mval m≠0
  · rw [vck_m q1] at h; exact absurd h q1
  by_cases q2:fval f≠0
  · rw [vck_f q1 q2] at h; exact absurd h q2
  by_cases q3:(simp_ f).2≠0
  · rw [vck_s q1 q2 q3] at h; exact absurd h q3
  refine ⟨?_,Decidable.of_not_not q2,Decidable.of_not_not q3⟩
  have hv:=simp_val q3
  have hE:enE (simp_ f).1=0:=by unfold enE hoE; rw [if_neg (fun e=>e hv)]; rfl
  have hi: ¬inPl [] (vS m f).s (vS m f).f=true:=by simp [inPl]
  cases hb:enB (simp_ f).1 with
  | false =>
    have hf:fnd [] (vS m f)=(true,0):=by
      rw [fnd_2 hi (.inr hb),show enE (vS m f).f=0 from hE]; rfl
    rw [vck_0 q1 q2 q3 (.inr (by rw [hf])),hf]; rfl
  | true =>
    have hn:fndN [] (vS m f):=fnd_n hi (by rintro (e|e); exact e hE; rw [show enB (vS m f).f=true from hb] at e; cases e) (by simp)
    rw [vck_g q1 q2 q3 (by rw [(fnd_new hn).1]; simp)]
    cases hr:(vOut m (4097 - 0) 0 (fndL [] (vS m f))).2.1 with
    |false=>rfl
    | true =>
      have:=vOut_ne _ _ _ hr
      cases q:(vOut m (4097 - 0) 0 (fndL [] (vS m f))).1.ni with
      |nil=>exact absurd q this
      |cons a w=>simp
theorem enB_simp {f:Fm} (h:fval f=0) (hz:f.sz≤60) (hs:(simp_ f).2=0):enB (simp_ f).1=sat t0 f 0:=by
  rcases run_start h hz (by decide) with q|⟨g,q,_,q2⟩
  · rw [q] at hs; cases hs
  · rw [q]
    have hv:fval g=0:=by have:=simp_val (f:=f) (by rw [hs]; simp); rwa [q] at this
    unfold enB
    rw [hoB_ok hv (by decide) rfl]
    exact q2 t0 0
theorem neg_law {m:M} {f:Fm} (hv:fval f=0) (hz:f.sz≤30) (he:ngE f=0) (h1:(vck m f).2.2=0) (h2:(vck m (ngF f)).2.2=0):
    (((vck m f).2.1&&decide ((((vck m f).1.ni.length:Nat):Int)=0)) != ((vck m (ngF f)).2.1&&decide ((((vck m (ngF f)).1.ni.length:Nat):Int)=0)))=true:=by
  have ci: ∀ n:Nat,decide (((n:Nat):Int)=0)=decide (n=0):=fun n=>decide_eq_decide.2 (by omega)
  rw [ci,ci]
  obtain ⟨a1,a2,a3⟩:=vck_emp h1
  obtain ⟨b1,b2,b3⟩:=vck_emp h2
  obtain ⟨n1,n2⟩:=ng_no hv he
  have hz2:(ngF f).sz≤60:=by rw [n1]; have:=nrm_sz f true; omega
  obtain ⟨g1,_,_,_⟩:=ng_B (t:=t0) hv he (by decide) rfl
  rw [hoB_ok hv (by decide) rfl,hoB_ok b2 (by decide) rfl] at g1
  rw [a1,b1,enB_simp hv (by omega) a3,enB_simp b2 hz2 b3,g1]
  cases sat t0 f 0 <;> rfl
theorem sml_sz {m:M} {f:Fm} (h:smlB m f=true):f.sz≤12:=by
  have:=of_decide_eq_true h
  have h2:=szl_small f 0 this.2.2.2
  omega
end Go.Proofs.YteehaobohaecmaaGreatDoor
namespace Go.Proofs.YteehaobohaecmaaGreatDoor
open Go Go.Proofs
set_option maxRecDepth 20000
theorem aw_n0:PureC Tryz.prog 49 [(V.agg [(iV (3:Int)),(iV (2:Int)),(V.sl (List.map cF ([])))])] (V.agg [(iV (10:Int)),(iV (0:Int)),(V.sl (List.map cF ([Fm.nd 4 0 [Fm.nd 1 0 []],Fm.nd 4 0 [(Fm.nd 3 2 [])]])))]):=by
  have h:=never_pure (Fm.nd 3 2 [])
  exact h
theorem aw_c0:PureC Tryz.prog 23 [(V.agg [(iV (2:Int)),(iV (0:Int)),(intss ([[1,0],[1,0]])),(intss ([[1,0],[1,2]]))]),(V.agg [(iV (10:Int)),(iV (0:Int)),(V.sl (List.map cF ([Fm.nd 4 0 [Fm.nd 1 0 []],Fm.nd 4 0 [(Fm.nd 3 2 [])]])))])] (V.tup [(V.agg [(ints ([0,1])),(ints ([1,2]))]),(V.bool true),(iV (0:Int))]):=by
  have h:=vcheck_pure ⟨2,0,[[1,0],[1,0]],[[1,0],[1,2]]⟩ (Fm.nd 10 0 [Fm.nd 4 0 [Fm.nd 1 0 []],Fm.nd 4 0 [(Fm.nd 3 2 [])]])
  rw [show vck ⟨2,0,[[1,0],[1,0]],[[1,0],[1,2]]⟩ (Fm.nd 10 0 [Fm.nd 4 0 [Fm.nd 1 0 []],Fm.nd 4 0 [(Fm.nd 3 2 [])]])=(⟨[0,1],[1,2]⟩,true,0) from by decide+kernel] at h
  exact h
theorem aw_n1:PureC Tryz.prog 49 [(V.agg [(iV (5:Int)),(iV (0:Int)),(V.sl (List.map cF ([Fm.nd 2 1 [],Fm.nd 3 0 []])))])] (V.agg [(iV (10:Int)),(iV (0:Int)),(V.sl (List.map cF ([Fm.nd 4 0 [Fm.nd 1 0 []],Fm.nd 4 0 [(Fm.nd 5 0 [Fm.nd 2 1 [],Fm.nd 3 0 []])]])))]):=by
  have h:=never_pure (Fm.nd 5 0 [Fm.nd 2 1 [],Fm.nd 3 0 []])
  exact h
theorem aw_c1:PureC Tryz.prog 23 [(V.agg [(iV (2:Int)),(iV (0:Int)),(intss ([[1,0],[1,0]])),(intss ([[1,0],[1,2]]))]),(V.agg [(iV (10:Int)),(iV (0:Int)),(V.sl (List.map cF ([Fm.nd 4 0 [Fm.nd 1 0 []],Fm.nd 4 0 [(Fm.nd 5 0 [Fm.nd 2 1 [],Fm.nd 3 0 []])]])))])] (V.tup [(V.agg [(ints ([1])),(ints ([0]))]),(V.bool true),(iV (0:Int))]):=by
  have h:=vcheck_pure ⟨2,0,[[1,0],[1,0]],[[1,0],[1,2]]⟩ (Fm.nd 10 0 [Fm.nd 4 0 [Fm.nd 1 0 []],Fm.nd 4 0 [(Fm.nd 5 0 [Fm.nd 2 1 [],Fm.nd 3 0 []])]])
  rw [show vck ⟨2,0,[[1,0],[1,0]],[[1,0],[1,2]]⟩ (Fm.nd 10 0 [Fm.nd 4 0 [Fm.nd 1 0 []],Fm.nd 4 0 [(Fm.nd 5 0 [Fm.nd 2 1 [],Fm.nd 3 0 []])]])=(⟨[1],[0]⟩,true,0) from by decide+kernel] at h
  exact h
theorem aw_n2:PureC Tryz.prog 49 [(V.agg [(iV (3:Int)),(iV (3:Int)),(V.sl (List.map cF ([])))])] (V.agg [(iV (10:Int)),(iV (0:Int)),(V.sl (List.map cF ([Fm.nd 4 0 [Fm.nd 1 0 []],Fm.nd 4 0 [(Fm.nd 3 3 [])]])))]):=by
  have h:=never_pure (Fm.nd 3 3 [])
  exact h
theorem aw_c2:PureC Tryz.prog 23 [(V.agg [(iV (2:Int)),(iV (0:Int)),(intss ([[1,0],[1,0]])),(intss ([[1,0],[1,2]]))]),(V.agg [(iV (10:Int)),(iV (0:Int)),(V.sl (List.map cF ([Fm.nd 4 0 [Fm.nd 1 0 []],Fm.nd 4 0 [(Fm.nd 3 3 [])]])))])] (V.tup [(V.agg [(ints ([])),(ints ([]))]),(V.bool false),(iV (0:Int))]):=by
  have h:=vcheck_pure ⟨2,0,[[1,0],[1,0]],[[1,0],[1,2]]⟩ (Fm.nd 10 0 [Fm.nd 4 0 [Fm.nd 1 0 []],Fm.nd 4 0 [(Fm.nd 3 3 [])]])
  rw [show vck ⟨2,0,[[1,0],[1,0]],[[1,0],[1,2]]⟩ (Fm.nd 10 0 [Fm.nd 4 0 [Fm.nd 1 0 []],Fm.nd 4 0 [(Fm.nd 3 3 [])]])=(⟨[],[]⟩,false,0) from by decide+kernel] at h
  exact h
abbrev w22_0:=(bk 1 24 3 [[(iV (5:Int)),(iV (0:Int)),(V.sl [[(iV (2:Int)),(iV (1:Int)),V.nilsl],[(iV (3:Int)),(iV (0:Int)),V.nilsl]])]])
abbrev w22_1:=((((0:Int)=(0:Int))∧(([0,1])=([0,1])))∧(([1,2])=([1,2])))
abbrev w22_2:=(bk 1 24 3 [[(iV (3:Int)),(iV (2:Int)),V.nilsl]])
abbrev w22_3:=(bk 1 54 2 [[(ints ([0,1])),(ints ([1,2]))]])
abbrev w22_4:=(bk 1 54 2 [[(ints ([1])),(ints ([0]))]])
abbrev w22_5:=(bk 1 54 2 [[(ints ([])),(ints ([]))]])
abbrev w22_6:=(w22_1∧((0:Int)=(0:Int)))
theorem aw47_pure:PureC Tryz.prog 22 [] (V.bool true):=by
 refine pW Tryz.func22 s22_ok fun hB=>?_
 unfold s22
 dsimp only
 refine W_r (R_mv rfl (R_e (W_r (R_build rfl rfl (R_alloc (i:=1) (n:=0) (m:=3) rfl (congrArg Blk.ver rfl) rfl (R_sk rfl rfl rfl rfl rfl rfl rfl rfl rfl (R_e ?_)))))))
 refine W_r (R_build rfl rfl (R_build rfl rfl (R_bslice rfl rfl (R_build rfl rfl (R_alloc (i:=2) (n:=0) (m:=3) rfl (congrArg Blk.ver rfl) rfl (R_sk rfl rfl rfl rfl rfl rfl rfl rfl rfl (R_e ?_)))))))
 refine W_d (by exact (lateC rfl lateN)) (R_callk (gate_pure) rfl (R_lk rfl rfl rfl rfl (R_call (evcons (@rfl V (V.agg [(iV (3:Int)),(iV (2:Int)),V.nilsl])) evnil) (aw_n0) (mcons (by rfl) rfl) (by simp [-List.map_take,-List.map_drop,-List.map_append,-List.map_reverse]) (Or.inl (by simp [-List.map_take,-List.map_drop,-List.map_append,-List.map_reverse])) (R_callk (aw_c0) rfl (R_mv rfl (R_ext rfl rfl (R_ext rfl rfl ?_)))))))
 refine R_ext rfl rfl (R_alloc (i:=3) (n:=0) (m:=2) rfl (congrArg Blk.ver rfl) rfl (R_sk rfl rfl rfl rfl rfl rfl rfl rfl rfl (R_mv rfl (R_mv rfl (R_e (W_d (by exact (lateC rfl lateN)) (R_callk (gate_pure) rfl ?_)))))))
 refine R_lk rfl rfl rfl rfl (R_call (evcons (@rfl V (V.agg [(iV (5:Int)),(iV (0:Int)),(V.sl [[(iV (2:Int)),(iV (1:Int)),V.nilsl],[(iV (3:Int)),(iV (0:Int)),V.nilsl]])])) evnil) (aw_n1) (mcons (by rfl) rfl) (by simp [-List.map_take,-List.map_drop,-List.map_append,-List.map_reverse]) (Or.inl (by simp [-List.map_take,-List.map_drop,-List.map_append,-List.map_reverse])) (R_callk (aw_c1) rfl (R_mv rfl (R_ext rfl rfl (R_ext rfl rfl (R_ext rfl rfl (R_alloc (i:=6) (n:=0) (m:=2) rfl (congrArg Blk.ver rfl) rfl ?_)))))))
 refine R_sk rfl rfl rfl rfl rfl rfl rfl rfl rfl (R_mv rfl (R_mv rfl (R_e ?_)))
 refine W_seq_regc (fun T H=>T 3=(V.mp 3 1 0 0)∧T 4=(V.bool true)∧T 5=(iV (0:Int))∧T 6=(V.mp 6 1 0 0)∧T 7=(V.bool true)∧T 8=(iV (0:Int))∧T 10=(V.bool false)∧T 11=(iV (0:Int))∧H 1=w22_2∧H 2=w22_0∧H 3=w22_3∧H 6=w22_4∧H 9=w22_5∧True) ?_ ?_
 ·
  refine R_callk (gate_pure) rfl (R_build rfl rfl (R_call (evcons (@rfl V (V.agg [(iV (3:Int)),(iV (3:Int)),V.nilsl])) evnil) (aw_n2) (mcons (by rfl) rfl) (by simp [-List.map_take,-List.map_drop,-List.map_append,-List.map_reverse]) (Or.inl (by simp [-List.map_take,-List.map_drop,-List.map_append,-List.map_reverse])) (R_callk (aw_c2) rfl (R_mv rfl (R_ext rfl rfl (R_ext rfl rfl (R_ext rfl rfl ?_)))))))
  refine R_alloc (i:=9) (n:=0) (m:=2) rfl (congrArg Blk.ver rfl) rfl (R_sk rfl rfl rfl rfl rfl rfl rfl rfl rfl (R_mv rfl (R_mv rfl ?_)))
  exact R_nil ⟨rfl,rfl,rfl,rfl,rfl,rfl,rfl,rfl,rfl,rfl,rfl,rfl,rfl,trivial⟩
 intro T H ⟨t3,t4,t5,t6,t7,t8,t10,t11,h1,h2,h3,h6,h9,_⟩
 refine W_r (R_mv t4 (R_mv rfl (G_yes rfl (R_mv t5 (G_yes rfl (R_eql rfl rfl (R_pickT rfl rfl ?_)))))))
 refine R_mv rfl ?_
 refine Ops_seg 5 (fun T H=>T 3=(V.mp 3 1 0 0)∧T 6=(V.mp 6 1 0 0)∧T 7=(V.bool true)∧T 8=(iV (0:Int))∧T 10=(V.bool false)∧T 11=(iV (0:Int))∧T 51=(V.bool (decide (((0:Int)=(0:Int))∧(([0,1])=([0,1])))))∧H 1=w22_2∧H 2=w22_0∧H 3=w22_3∧H 6=w22_4∧H 9=w22_5∧True) ?_ ?_
 ·
  by_cases g1:(0:Int)=(0:Int)
  ·
   refine G_yes (edT g1 rfl) (R_fk t3 h3 (G_yes (edT g1 rfl) (R_lk rfl h3 rfl rfl (G_yes (edT g1 rfl) (R_bslice rfl rfl (G_yes (edT g1 rfl) (R_callk (ints_pure ([0,1]) ([0,1])) rfl ?_)))))))
   refine R_pickT (edT g1 rfl) rfl ?_
   exact ⟨t3,t6,t7,t8,t10,t11,(dec_andT g1),h1,h2,h3,h6,h9,trivial⟩
  ·
   refine G_n (edF g1 rfl) (G_n (edF g1 rfl) (G_n (edF g1 rfl) (G_n (edF g1 rfl) (R_pickF (edF g1 rfl) rfl ?_))))
   exact ⟨t3,t6,t7,t8,t10,t11,(dec_andF g1),h1,h2,h3,h6,h9,trivial⟩
 intro T H ⟨t3,t6,t7,t8,t10,t11,t51,h1,h2,h3,h6,h9,_⟩
 refine R_mv t51 ?_
 refine Ops_seg 5 (fun T H=>T 6=(V.mp 6 1 0 0)∧T 7=(V.bool true)∧T 8=(iV (0:Int))∧T 10=(V.bool false)∧T 11=(iV (0:Int))∧T 57=(V.bool (decide w22_1))∧H 1=w22_2∧H 2=w22_0∧H 3=w22_3∧H 6=w22_4∧H 9=w22_5∧True) ?_ ?_
 ·
  by_cases g2:((0:Int)=(0:Int))∧(([0,1])=([0,1]))
  ·
   refine G_yes (edT g2 rfl) (R_fk t3 h3 (G_yes (edT g2 rfl) (R_lk rfl h3 rfl rfl (G_yes (edT g2 rfl) (R_bslice rfl rfl (G_yes (edT g2 rfl) (R_callk (ints_pure ([1,2]) ([1,2])) rfl ?_)))))))
   refine R_pickT (edT g2 rfl) rfl ?_
   exact ⟨t6,t7,t8,t10,t11,(dec_andT g2),h1,h2,h3,h6,h9,trivial⟩
  ·
   refine G_n (edF g2 rfl) (G_n (edF g2 rfl) (G_n (edF g2 rfl) (G_n (edF g2 rfl) (R_pickF (edF g2 rfl) rfl ?_))))
   exact ⟨t6,t7,t8,t10,t11,(dec_andF g2),h1,h2,h3,h6,h9,trivial⟩
 intro T H ⟨t6,t7,t8,t10,t11,t57,h1,h2,h3,h6,h9,_⟩
 refine R_mv t57 ?_
 refine Ops_seg 2 (fun T H=>T 6=(V.mp 6 1 0 0)∧T 8=(iV (0:Int))∧T 10=(V.bool false)∧T 11=(iV (0:Int))∧T 60=(V.bool (decide w22_1))∧H 1=w22_2∧H 2=w22_0∧H 3=w22_3∧H 6=w22_4∧H 9=w22_5∧True) ?_ ?_
 ·
  by_cases g3:(((0:Int)=(0:Int))∧(([0,1])=([0,1])))∧(([1,2])=([1,2]))
  ·
   refine G_yes (edT g3 rfl) (R_mv t7 (R_pickT (edT g3 rfl) rfl ?_))
   exact ⟨t6,t8,t10,t11,(dec_T g3),h1,h2,h3,h6,h9,trivial⟩
  ·
   refine G_n (edF g3 rfl) (R_pickF (edF g3 rfl) rfl ?_)
   exact ⟨t6,t8,t10,t11,(dec_F g3),h1,h2,h3,h6,h9,trivial⟩
 intro T H ⟨t6,t8,t10,t11,t60,h1,h2,h3,h6,h9,_⟩
 refine R_mv t60 ?_
 refine Ops_seg 3 (fun T H=>T 6=(V.mp 6 1 0 0)∧T 10=(V.bool false)∧T 11=(iV (0:Int))∧T 64=(V.bool (decide w22_6))∧H 1=w22_2∧H 2=w22_0∧H 3=w22_3∧H 6=w22_4∧H 9=w22_5∧True) ?_ ?_
 ·
  by_cases g4:(((0:Int)=(0:Int))∧(([0,1])=([0,1])))∧(([1,2])=([1,2]))
  ·
   refine G_yes (edT g4 rfl) (R_mv t8 (G_yes (edT g4 rfl) (R_eql rfl rfl (R_pickT (edT g4 rfl) rfl ?_))))
   exact ⟨t6,t10,t11,(dec_andT g4),h1,h2,h3,h6,h9,trivial⟩
  ·
   refine G_n (edF g4 rfl) (G_n (edF g4 rfl) (R_pickF (edF g4 rfl) rfl ?_))
   exact ⟨t6,t10,t11,(dec_andF g4),h1,h2,h3,h6,h9,trivial⟩
 intro T H ⟨t6,t10,t11,t64,h1,h2,h3,h6,h9,_⟩
 refine R_mv t64 ?_
 refine Ops_seg 5 (fun T H=>T 10=(V.bool false)∧T 11=(iV (0:Int))∧T 70=(V.bool (decide (w22_6∧(([1])=([1])))))∧H 1=w22_2∧H 2=w22_0∧H 3=w22_3∧H 6=w22_4∧H 9=w22_5∧True) ?_ ?_
 ·
  by_cases g5:w22_1∧((0:Int)=(0:Int))
  ·
   refine G_yes (edT g5 rfl) (R_fk t6 h6 (G_yes (edT g5 rfl) (R_lk rfl h6 rfl rfl (G_yes (edT g5 rfl) (R_bslice rfl rfl (G_yes (edT g5 rfl) (R_callk (ints_pure ([1]) ([1])) rfl ?_)))))))
   refine R_pickT (edT g5 rfl) rfl ?_
   exact ⟨t10,t11,(dec_andT g5),h1,h2,h3,h6,h9,trivial⟩
  ·
   refine G_n (edF g5 rfl) (G_n (edF g5 rfl) (G_n (edF g5 rfl) (G_n (edF g5 rfl) (R_pickF (edF g5 rfl) rfl ?_))))
   exact ⟨t10,t11,(dec_andF g5),h1,h2,h3,h6,h9,trivial⟩
 intro T H ⟨t10,t11,t70,h1,h2,h3,h6,h9,_⟩
 refine R_mv t70 ?_
 refine Ops_seg 3 (fun T H=>T 11=(iV (0:Int))∧T 74=(V.bool (decide (w22_6∧(([1])=([1])))))∧H 1=w22_2∧H 2=w22_0∧H 3=w22_3∧H 6=w22_4∧H 9=w22_5∧True) ?_ ?_
 ·
  by_cases g6:w22_6∧(([1])=([1]))
  ·
   refine G_yes (edT g6 rfl) (R_mv t10 (G_yes (edT g6 rfl) (R_notb rfl (R_pickT (edT g6 rfl) rfl ?_))))
   exact ⟨t11,(dec_T g6),h1,h2,h3,h6,h9,trivial⟩
  ·
   refine G_n (edF g6 rfl) (G_n (edF g6 rfl) (R_pickF (edF g6 rfl) rfl ?_))
   exact ⟨t11,(dec_F g6),h1,h2,h3,h6,h9,trivial⟩
 intro T H ⟨t11,t74,h1,h2,h3,h6,h9,_⟩
 refine R_mv t74 ?_
 refine Ops_seg 3 (fun T H=>T 78=(V.bool (decide ((w22_6∧(([1])=([1])))∧((0:Int)=(0:Int)))))∧H 1=w22_2∧H 2=w22_0∧H 3=w22_3∧H 6=w22_4∧H 9=w22_5∧True) ?_ ?_
 ·
  by_cases g7:w22_6∧(([1])=([1]))
  ·
   refine G_yes (edT g7 rfl) (R_mv t11 (G_yes (edT g7 rfl) (R_eql rfl rfl (R_pickT (edT g7 rfl) rfl ?_))))
   exact ⟨(dec_andT g7),h1,h2,h3,h6,h9,trivial⟩
  ·
   refine G_n (edF g7 rfl) (G_n (edF g7 rfl) (R_pickF (edF g7 rfl) rfl ?_))
   exact ⟨(dec_andF g7),h1,h2,h3,h6,h9,trivial⟩
 intro T H ⟨t78,h1,h2,h3,h6,h9,_⟩
 refine R_mv t78 (R_e (W_ret ?_))
 refine Ret_1 (@rfl V (V.bool (decide ((w22_6∧(([1])=([1])))∧((0:Int)=(0:Int)))))) (fz_bool ?_)
 · decide+kernel
end Go.Proofs.YteehaobohaecmaaGreatDoor
namespace Go.Proofs.YteehaobohaecmaaGreatDoor
open Go Go.Proofs
def r28_1:List SO:=[
 qL 6 3 1,
 sO 7 (.call false 55 [.t 6,.c (.int .i64 1),.c (.int .i64 0)]),
 qM 5 7,
 qE 8 5 0,
 qE 9 5 1,
 qM 3 8,
 qM 4 9]
def s28:SF:=⟨11,[.tmp 2],.seq (.reg [sO 1 (.box 24 3 (.t 0)),qI 2 0]) (.seq (.reg r28_1) (.seq (.reg [qM 10 4,qM 2 10]) (.ret)))⟩
theorem s28_ok:slimF Tryz.prog ⟨[51,59,84,90,97,109,153,154,155,160],[],[],[]⟩ Tryz.f28=some s28:=by kernel_rfl
def r55_11:List SO:=[
 qF 37 2 3,
 ql 38 37,
 qM 39 9,
 qA 40 3 38 39,
 qL 41 3 40,
 qM 42 1,
 qC 43 .add 42 1,
 qM 44 8,
 sO 45 (.call false 55 [.t 41,.t 43,.t 44]),
 qM 36 45,
 qE 46 36 0,
 qE 47 36 1,
 qM 10 46,
 qM 11 47]
def b55_0:SC:=.seq (.seq (.reg [qM 29 9,qF 30 2 3,ql 31 30,qN 32 31,qP 33 .lss 29 32]) (.cond (.t 33) (.skip) (.exit 1))) (.seq (.block 2 (.seq (.reg r55_11) (.seq (.seq (.reg [qM 48 11,qC 49 .neq 48 0]) (.cond (.t 49) (.seq (.reg [qM 50 10,qM 51 11,qM 6 50,qM 7 51]) (.ret)) (.skip))) (.reg [qM 52 10,qM 8 52])))) (.reg [qM 34 9,qC 35 .add 34 1,qM 9 35]))
def s55:SF:=⟨54,[.tmp 6,.tmp 7],.seq (.reg [sO 3 (.box 24 3 (.t 0)),qI 6 0,qI 7 0]) (.seq (.reg [qM 12 2,qC 13 .add 12 1,qM 8 13]) (.seq (.block 0 (.seq (.reg [qM 15 8,qC 16 .gtr 15 4096,qM 14 16]) (.cond (.t 14) (.seq (.reg [qM 17 8,qM 6 17,qI 7 11]) (.ret)) (.seq (.reg [qM 19 1,qC 20 .gtr 19 64,qM 18 20]) (.cond (.t 18) (.seq (.reg [qM 21 8,qM 6 21,qI 7 16]) (.ret)) (.seq (.reg [qL 23 3 3,sO 24 (.call false 79 [.t 23]),qC 25 .neq 24 0,qM 22 25]) (.cond (.t 22) (.seq (.reg [qM 26 8,qL 27 3 3,sO 28 (.call false 79 [.t 27]),qM 6 26,qM 7 28]) (.ret)) (.skip)))))))) (.seq (.seq (.reg [qI 9 0]) (.block 1 (.loop b55_0))) (.seq (.reg [qM 53 8,qM 6 53,qI 7 0]) (.ret)))))⟩
theorem s55_ok:slimF Tryz.prog ⟨[51,59,84,90,97,109,153,154,155,160],[],[],[]⟩ Tryz.f55=some s55:=by kernel_rfl
def r79_18:List SO:=[
 qF 33 0 1,
 ql 34 33,
 qC 35 .eql 34 2,
 qM 36 35,
 ⟨some (36,false),some 37,.fld 0 (.t 1)⟩,
 ⟨some (36,false),some 38,.load false 1 (.t 37)⟩,
 ⟨some (36,false),some 39,.bin .eql (.t 38) (.c (.int .i64 3))⟩,
 sO 40 (.pick (.t 36) (.c (.bool true)) (.t 39)),
 qM 5 40]
def r79_19:List SO:=[
 qM 42 4,
 sO 43 (.un .not (.t 42)),
 qM 44 43,
 ⟨some (44,false),some 45,.mv (.t 5)⟩,
 ⟨some (44,false),some 46,.un .not (.t 45)⟩,
 ⟨some (44,false),some 47,.mv (.t 46)⟩,
 ⟨some (47,true),some 48,.fld 1 (.t 1)⟩,
 ⟨some (47,true),some 49,.load false 1 (.t 48)⟩,
 ⟨some (47,true),some 50,.bin .neq (.t 49) (.c (.int .i64 0))⟩,
 ⟨some (44,false),some 51,.pick (.t 47) (.t 50) (.c (.bool false))⟩,
 sO 52 (.pick (.t 44) (.c (.bool true)) (.t 51)),
 qM 41 52]
def r79_21:List SO:=[
 qF 54 0 1,
 ql 55 54,
 qC 56 .eql 55 2,
 qM 57 56,
 ⟨some (57,true),some 58,.fld 1 (.t 1)⟩,
 ⟨some (57,true),some 59,.load false 1 (.t 58)⟩,
 ⟨some (57,true),some 60,.bin .lss (.t 59) (.c (.int .i64 0))⟩,
 ⟨some (57,true),some 61,.mv (.t 60)⟩,
 ⟨some (61,false),some 62,.fld 1 (.t 1)⟩,
 ⟨some (61,false),some 63,.load false 1 (.t 62)⟩,
 ⟨some (61,false),some 64,.bin .geq (.t 63) (.c (.int .i64 64))⟩,
 ⟨some (57,true),some 65,.pick (.t 61) (.c (.bool true)) (.t 64)⟩,
 sO 66 (.pick (.t 57) (.t 65) (.c (.bool false))),
 qM 53 66]
def r79_22:List SO:=[
 qF 67 0 1,
 ql 68 67,
 qC 69 .eql 68 3,
 qM 70 69,
 ⟨some (70,true),some 71,.fld 1 (.t 1)⟩,
 ⟨some (70,true),some 72,.load false 1 (.t 71)⟩,
 ⟨some (70,true),some 73,.bin .lss (.t 72) (.c (.int .i64 0))⟩,
 ⟨some (70,true),some 74,.mv (.t 73)⟩,
 ⟨some (74,false),some 75,.fld 1 (.t 1)⟩,
 ⟨some (74,false),some 76,.load false 1 (.t 75)⟩,
 ⟨some (74,false),some 77,.bin .gtr (.t 76) (.c (.int .i64 1048576))⟩,
 ⟨some (70,true),some 78,.pick (.t 74) (.c (.bool true)) (.t 77)⟩,
 sO 79 (.pick (.t 70) (.t 78) (.c (.bool false))),
 qM 53 79]
def s79:SF:=⟨80,[.tmp 2],.seq (.reg [sO 1 (.box 24 3 (.t 0)),qI 2 0]) (.seq (.reg [qF 6 2 1,ql 7 6,qN 8 7,qM 3 8]) (.seq (.reg [sO 4 (.mv (.c (.bool false)))]) (.seq (.seq (.reg [qF 9 0 1,ql 10 9]) (.block 0 (.seq (.seq (.reg [qC 12 .eql 10 1,qM 11 12]) (.cond (.t 11) (.skip) (.seq (.reg [qC 13 .eql 10 2,qM 11 13]) (.cond (.t 11) (.skip) (.reg [qC 14 .eql 10 3,qM 11 14]))))) (.cond (.t 11) (.reg [qM 15 3,qC 16 .eql 15 0,qM 4 16]) (.seq (.seq (.reg [qC 18 .eql 10 4,qM 17 18]) (.cond (.t 17) (.skip) (.seq (.reg [qC 19 .eql 10 7,qM 17 19]) (.cond (.t 17) (.skip) (.reg [qC 20 .eql 10 9,qM 17 20]))))) (.cond (.t 17) (.reg [qM 21 3,qC 22 .eql 21 1,qM 4 22]) (.seq (.seq (.reg [qC 24 .eql 10 5,qM 23 24]) (.cond (.t 23) (.skip) (.reg [qC 25 .eql 10 6,qM 23 25]))) (.cond (.t 23) (.reg [qM 26 3,qC 27 .geq 26 2,qM 4 27]) (.seq (.seq (.reg [qC 29 .eql 10 8,qM 28 29]) (.cond (.t 28) (.skip) (.reg [qC 30 .eql 10 10,qM 28 30]))) (.cond (.t 28) (.reg [qM 31 3,qC 32 .eql 31 2,qM 4 32]) (.skip))))))))))) (.seq (.reg r79_18) (.seq (.block 1 (.seq (.reg r79_19) (.cond (.t 41) (.seq (.reg [qI 2 1]) (.ret)) (.seq (.seq (.reg r79_21) (.cond (.t 53) (.skip) (.reg r79_22))) (.cond (.t 53) (.seq (.reg [qI 2 2]) (.ret)) (.skip)))))) (.seq (.reg [qI 2 0]) (.ret)))))))⟩
theorem s79_ok:slimF Tryz.prog ⟨[51,59,84,90,97,109,153,154,155,160],[],[],[]⟩ Tryz.f79=some s79:=by kernel_rfl
end Go.Proofs.YteehaobohaecmaaGreatDoor
namespace Go.Proofs.YteehaobohaecmaaGreatDoor
open Go
def kokB (f:Fm):Bool:=if f.op=1∨f.op=2∨f.op=3 then decide ((f.kids.length:Int)=0) else if f.op=4∨f.op=7∨f.op=9 then decide ((f.kids.length:Int)=1) else if f.op=5∨f.op=6 then decide (2≤(f.kids.length:Int)) else if f.op=8∨f.op=10 then decide ((f.kids.length:Int)=2) else false
section
variable {f:Fm}
theorem kok_1 (h:f.op=1∨f.op=2∨f.op=3):kokB f=decide ((f.kids.length:Int)=0):=if_pos h
theorem kok_4 (h:f.op=4∨f.op=7∨f.op=9):kokB f=decide ((f.kids.length:Int)=1):=by unfold kokB; rw [if_neg (by omega),if_pos h]
theorem kok_5 (h:f.op=5∨f.op=6):kokB f=decide (2≤(f.kids.length:Int)):=by unfold kokB; rw [if_neg (by omega),if_neg (by omega),if_pos h]
theorem kok_8 (h:f.op=8∨f.op=10):kokB f=decide ((f.kids.length:Int)=2):=by unfold kokB; rw [if_neg (by omega),if_neg (by omega),if_neg (by omega),if_pos h]
theorem kok_n (h: ¬(1≤f.op∧f.op≤10)):kokB f=false:=by unfold kokB; rw [if_neg (by omega),if_neg (by omega),if_neg (by omega),if_neg (by omega)]
theorem kok_iff:kokB f=true↔ ¬(f.op < 1∨10 < f.op∨(f.kids.length:Int) < kLo f.op∨(0≤kHi f.op∧kHi f.op < f.kids.length)):=by
  by_cases h:1≤f.op∧f.op≤10
  · have hc:(f.op=1∨f.op=2∨f.op=3)∨(f.op=4∨f.op=7∨f.op=9)∨(f.op=5∨f.op=6)∨(f.op=8∨f.op=10):=by omega
    rcases hc with q|q|q|q
    · rw [kok_1 q,decide_eq_true_eq]; simp only [kLo,kHi]; repeat (first|omega|split)
    · rw [kok_4 q,decide_eq_true_eq]; simp only [kLo,kHi]; repeat (first|omega|split)
    · rw [kok_5 q,decide_eq_true_eq]; simp only [kLo,kHi]; repeat (first|omega|split)
    · rw [kok_8 q,decide_eq_true_eq]; simp only [kLo,kHi]; repeat (first|omega|split)
  · rw [kok_n h]
    constructor
    · intro e; cases e
    · intro e; exact absurd (by omega) e
theorem rgt_k1 (h:kokB f=false∨(¬(f.op=2∨f.op=3)∧f.arg≠0)):rgt f=1:=by
  unfold rgt
  rw [if_pos]
  rcases h with h|h
  · have: ¬kokB f=true:=by rw [h]; decide
    rw [kok_iff] at this
    have:=Decidable.of_not_not this
    omega
  · omega
theorem rgt_k2 (h: ¬(kokB f=false∨(¬(f.op=2∨f.op=3)∧f.arg≠0))):rgt f=if (f.op=2∧(f.arg < 0∨64≤f.arg))∨(f.op=3∧(f.arg < 0∨1048576 < f.arg)) then 2 else 0:=by
  unfold rgt
  rw [if_neg]
  have h1:kokB f=true:=by
    cases q:kokB f with
    |true=>rfl
    |false=>exact absurd (.inl q) h
  have:=kok_iff.1 h1
  have h2: ¬(¬(f.op=2∨f.op=3)∧f.arg≠0):=fun e=>h (.inr e)
  omega
end
end Go.Proofs.YteehaobohaecmaaGreatDoor
namespace Go.Proofs.YteehaobohaecmaaGreatDoor
open Go Go.Proofs
theorem rright_pure (f:Fm):PureC Tryz.prog 79 [(V.agg [(iV (f.op)),(iV (f.arg)),(V.sl (List.map cF (f.kids)))])] (iV (rgt f)):=by
 refine pW Tryz.func79 s79_ok fun hB=>?_
 unfold s79
 dsimp only
 refine W_r (R_box (i:=1) (n:=0) (m:=3) (cs:=[(iV (f.op)),(iV (f.arg)),(V.sl (List.map cF (f.kids)))]) rfl (congrArg Blk.ver rfl) rfl rfl rfl (R_mv rfl (R_e (W_r (R_fk rfl rfl (R_lk rfl rfl rfl rfl (R_len rfl ?_)))))))
 refine R_mv rfl (R_e (W_r (R_mv rfl (R_e (W_seq_seq (W_r (R_fk rfl rfl ?_)))))))
 refine R_lk rfl rfl rfl rfl (R_e ?_)
 refine W_seq_blockJ (fun T H=>T 1=(V.mp 1 1 0 0)∧T 4=(V.bool (kokB f))∧H 1=(bk 1 24 3 [[(iV (f.op)),(iV (f.arg)),(V.sl (List.map cF (f.kids)))]])∧True) (fun Q1 n1 x1 y1 z1=>?_) ?_
 ·
  refine W_seq_seq (W_r (R_eql rfl rfl (R_mv rfl (R_e ?_))))
  refine W_seq_if rfl (fun c2=>?_) fun c2=>?_
  ·
   refine W_seq_skip ?_
   refine W_if rfl (fun c3=>?_) fun c3=>?_
   ·
    refine W_t (R_mv rfl (R_eql rfl rfl (R_mv rfl (R_e ?_))))
    exact n1 _ _ ⟨rfl,(Eq.trans (@rfl V (V.bool (decide (((f.kids.length:Nat):Int)=(0:Int))))) (by (rw [kok_1 (by omega)]; done))),rfl,trivial⟩
   · exact (c3 c2).elim
  refine W_seq_seq (W_r (R_eql rfl rfl (R_mv rfl (R_e ?_))))
  refine W_seq_if rfl (fun c4=>?_) fun c4=>?_
  ·
   refine W_seq_skip ?_
   refine W_if rfl (fun c5=>?_) fun c5=>?_
   ·
    refine W_t (R_mv rfl (R_eql rfl rfl (R_mv rfl (R_e ?_))))
    exact n1 _ _ ⟨rfl,(Eq.trans (@rfl V (V.bool (decide (((f.kids.length:Nat):Int)=(0:Int))))) (by (rw [kok_1 (by omega)]; done))),rfl,trivial⟩
   · exact (c5 c4).elim
  refine W_r (R_eql rfl rfl (R_mv rfl (R_e ?_)))
  refine W_if rfl (fun c6=>?_) fun c6=>?_
  ·
   refine W_t (R_mv rfl (R_eql rfl rfl (R_mv rfl (R_e ?_))))
   exact n1 _ _ ⟨rfl,(Eq.trans (@rfl V (V.bool (decide (((f.kids.length:Nat):Int)=(0:Int))))) (by (rw [kok_1 (by omega)]; done))),rfl,trivial⟩
  refine W_seq_seq (W_r (R_eql rfl rfl (R_mv rfl (R_e ?_))))
  refine W_seq_if rfl (fun c7=>?_) fun c7=>?_
  ·
   refine W_seq_skip ?_
   refine W_if rfl (fun c8=>?_) fun c8=>?_
   ·
    refine W_t (R_mv rfl (R_eql rfl rfl (R_mv rfl (R_e ?_))))
    exact n1 _ _ ⟨rfl,(Eq.trans (@rfl V (V.bool (decide (((f.kids.length:Nat):Int)=(1:Int))))) (by (rw [kok_4 (by omega)]; done))),rfl,trivial⟩
   · exact (c8 c7).elim
  refine W_seq_seq (W_r (R_eql rfl rfl (R_mv rfl (R_e ?_))))
  refine W_seq_if rfl (fun c9=>?_) fun c9=>?_
  ·
   refine W_seq_skip ?_
   refine W_if rfl (fun c10=>?_) fun c10=>?_
   ·
    refine W_t (R_mv rfl (R_eql rfl rfl (R_mv rfl (R_e ?_))))
    exact n1 _ _ ⟨rfl,(Eq.trans (@rfl V (V.bool (decide (((f.kids.length:Nat):Int)=(1:Int))))) (by (rw [kok_4 (by omega)]; done))),rfl,trivial⟩
   · exact (c10 c9).elim
  refine W_r (R_eql rfl rfl (R_mv rfl (R_e ?_)))
  refine W_if rfl (fun c11=>?_) fun c11=>?_
  ·
   refine W_t (R_mv rfl (R_eql rfl rfl (R_mv rfl (R_e ?_))))
   exact n1 _ _ ⟨rfl,(Eq.trans (@rfl V (V.bool (decide (((f.kids.length:Nat):Int)=(1:Int))))) (by (rw [kok_4 (by omega)]; done))),rfl,trivial⟩
  refine W_seq_seq (W_r (R_eql rfl rfl (R_mv rfl (R_e ?_))))
  refine W_seq_if rfl (fun c12=>?_) fun c12=>?_
  ·
   refine W_seq_skip ?_
   refine W_if rfl (fun c13=>?_) fun c13=>?_
   ·
    refine W_t (R_mv rfl (R_geq rfl rfl (R_mv rfl (R_e ?_))))
    exact n1 _ _ ⟨rfl,(Eq.trans (@rfl V (V.bool (decide ((2:Int)≤((f.kids.length:Nat):Int))))) (by (rw [kok_5 (by omega)]; done))),rfl,trivial⟩
   · exact (c13 c12).elim
  refine W_r (R_eql rfl rfl (R_mv rfl (R_e ?_)))
  refine W_if rfl (fun c14=>?_) fun c14=>?_
  ·
   refine W_t (R_mv rfl (R_geq rfl rfl (R_mv rfl (R_e ?_))))
   exact n1 _ _ ⟨rfl,(Eq.trans (@rfl V (V.bool (decide ((2:Int)≤((f.kids.length:Nat):Int))))) (by (rw [kok_5 (by omega)]; done))),rfl,trivial⟩
  refine W_seq_seq (W_r (R_eql rfl rfl (R_mv rfl (R_e ?_))))
  refine W_seq_if rfl (fun c15=>?_) fun c15=>?_
  ·
   refine W_seq_skip ?_
   refine W_if rfl (fun c16=>?_) fun c16=>?_
   ·
    refine W_t (R_mv rfl (R_eql rfl rfl (R_mv rfl (R_e ?_))))
    exact n1 _ _ ⟨rfl,(Eq.trans (@rfl V (V.bool (decide (((f.kids.length:Nat):Int)=(2:Int))))) (by (rw [kok_8 (by omega)]; done))),rfl,trivial⟩
   · exact (c16 c15).elim
  refine W_r (R_eql rfl rfl (R_mv rfl (R_e ?_)))
  refine W_if rfl (fun c17=>?_) fun c17=>?_
  ·
   refine W_t (R_mv rfl (R_eql rfl rfl (R_mv rfl (R_e ?_))))
   exact n1 _ _ ⟨rfl,(Eq.trans (@rfl V (V.bool (decide (((f.kids.length:Nat):Int)=(2:Int))))) (by (rw [kok_8 (by omega)]; done))),rfl,trivial⟩
  refine W_skip ?_
  exact n1 _ _ ⟨rfl,(Eq.trans (@rfl V (V.bool false)) (by (rw [kok_n (by omega)]; done))),rfl,trivial⟩
 intro T H ⟨t1,t4,h1,_⟩
 refine W_r (R_fk t1 h1 (R_lk rfl h1 rfl rfl (R_eql rfl rfl (R_mv rfl ?_))))
 refine Ops_seg 4 (fun T H=>T 1=(V.mp 1 1 0 0)∧T 4=(V.bool (kokB f))∧T 40=(V.bool (decide (((f.op)=(2:Int))∨((f.op)=(3:Int)))))∧H 1=(bk 1 24 3 [[(iV (f.op)),(iV (f.arg)),(V.sl (List.map cF (f.kids)))]])∧True) ?_ ?_
 ·
  by_cases g18:(f.op)=(2:Int)
  ·
   refine G_n (edT g18 rfl) (G_n (edT g18 rfl) (G_n (edT g18 rfl) (R_pickT (edT g18 rfl) rfl ?_)))
   exact ⟨t1,t4,(dec_orT g18),h1,trivial⟩
  ·
   refine G_yes (edF g18 rfl) (R_fk t1 h1 (G_yes (edF g18 rfl) (R_lk rfl h1 rfl rfl (G_yes (edF g18 rfl) (R_eql rfl rfl (R_pickF (edF g18 rfl) rfl ?_))))))
   exact ⟨t1,t4,(dec_orF g18),h1,trivial⟩
 intro T H ⟨t1,t4,t40,h1,_⟩
 refine R_mv t40 (R_e (W_seq_blockg fun Q19 n19 x19 y19 z19=>(W_r (R_mv t4 (R_notb rfl (R_mv rfl ?_))))))
 refine Ops_seg 8 (fun T H=>T 1=(V.mp 1 1 0 0)∧T 52=(V.bool ((((!kokB f))||decide ((¬(((f.op)=(2:Int))∨((f.op)=(3:Int))))∧((f.arg)≠(0:Int))))))∧H 1=(bk 1 24 3 [[(iV (f.op)),(iV (f.arg)),(V.sl (List.map cF (f.kids)))]])∧True) ?_ ?_
 ·
  by_cases g20:((!kokB f))=true
  ·
   refine G_n (ebT g20 rfl) (G_n (ebT g20 rfl) (G_n (ebT g20 rfl) (G_raw (@rfl V (V.raw undef)) (G_raw (@rfl V (V.raw undef)) (G_raw (@rfl V (V.raw undef)) (G_n (ebT g20 rfl) (R_pickT (ebT g20 rfl) rfl ?_)))))))
   exact ⟨t1,(borT g20),h1,trivial⟩
  ·
   refine G_yes (ebF g20 rfl) (R_mv rfl (G_yes (ebF g20 rfl) (R_not rfl (G_yes (ebF g20 rfl) (R_mv rfl ?_)))))
   refine Ops_seg 4 (fun T H=>T 1=(V.mp 1 1 0 0)∧T 44=(V.bool false)∧T 51=(V.bool (decide ((¬(((f.op)=(2:Int))∨((f.op)=(3:Int))))∧((f.arg)≠(0:Int)))))∧H 1=(bk 1 24 3 [[(iV (f.op)),(iV (f.arg)),(V.sl (List.map cF (f.kids)))]])∧True) ?_ ?_
   ·
    by_cases g21: ¬(((f.op)=(2:Int))∨((f.op)=(3:Int)))
    ·
     refine G_yes (edT g21 rfl) (R_fk t1 h1 (G_yes (edT g21 rfl) (R_lk rfl h1 rfl rfl (G_yes (edT g21 rfl) (R_neq rfl rfl (G_yes (ebF g20 rfl) (R_pickT (edT g21 rfl) rfl ?_)))))))
     exact ⟨t1,(ebF g20 rfl),(dec_andT g21),h1,trivial⟩
    ·
     refine G_n (edF g21 rfl) (G_n (edF g21 rfl) (G_n (edF g21 rfl) (G_yes (ebF g20 rfl) (R_pickF (edF g21 rfl) rfl ?_))))
     exact ⟨t1,(ebF g20 rfl),(dec_andF g21),h1,trivial⟩
   intro T H ⟨t1,t44,t51,h1,_⟩
   refine R_pickF t44 t51 ?_
   exact ⟨t1,(borF g20),h1,trivial⟩
 intro T H ⟨t1,t52,h1,_⟩
 refine R_mv t52 (R_e ?_)
 refine W_ifb rfl (fun c22=>?_) (fun c22=>?_)
 ·
  have d1:=rgt_k1 (f:=f) (by simpa using c22)
  refine W_r (R_mv rfl (R_e (W_ret (y19 _ _ ?_))))
  refine Ret_1 (@rfl V (iV (1:Int))) (fz_int ?_)
  · exact d1.symm
 have d1:=rgt_k2 (f:=f) (by simpa using c22)
 refine W_seq_seq (W_r (R_fk t1 h1 (R_lk rfl h1 rfl rfl (R_eql rfl rfl (R_mv rfl ?_)))))
 refine Ops_seg 9 (fun T H=>T 1=(V.mp 1 1 0 0)∧T 66=(V.bool (decide (((f.op)=(2:Int))∧(((f.arg) < (0:Int))∨((64:Int)≤(f.arg))))))∧H 1=(bk 1 24 3 [[(iV (f.op)),(iV (f.arg)),(V.sl (List.map cF (f.kids)))]])∧True) ?_ ?_
 ·
  by_cases g23:(f.op)=(2:Int)
  ·
   refine G_yes (edT g23 rfl) (R_fk t1 h1 (G_yes (edT g23 rfl) (R_lk rfl h1 rfl rfl (G_yes (edT g23 rfl) (R_lss rfl rfl (G_yes (edT g23 rfl) (R_mv rfl ?_)))))))
   refine Ops_seg 4 (fun T H=>T 1=(V.mp 1 1 0 0)∧T 57=(V.bool true)∧T 65=(V.bool (decide (((f.arg) < (0:Int))∨((64:Int)≤(f.arg)))))∧H 1=(bk 1 24 3 [[(iV (f.op)),(iV (f.arg)),(V.sl (List.map cF (f.kids)))]])∧True) ?_ ?_
   ·
    by_cases g24:(f.arg) < (0:Int)
    ·
     refine G_n (edT g24 rfl) (G_n (edT g24 rfl) (G_n (edT g24 rfl) (G_yes (edT g23 rfl) (R_pickT (edT g24 rfl) rfl ?_))))
     exact ⟨t1,(edT g23 rfl),(dec_orT g24),h1,trivial⟩
    ·
     refine G_yes (edF g24 rfl) (R_fk t1 h1 (G_yes (edF g24 rfl) (R_lk rfl h1 rfl rfl (G_yes (edF g24 rfl) (R_geq rfl rfl (G_yes (edT g23 rfl) (R_pickF (edF g24 rfl) rfl ?_)))))))
     exact ⟨t1,(edT g23 rfl),(dec_orF g24),h1,trivial⟩
   intro T H ⟨t1,t57,t65,h1,_⟩
   refine R_pickT t57 t65 ?_
   exact ⟨t1,(dec_andT g23),h1,trivial⟩
  ·
   refine G_n (edF g23 rfl) (G_n (edF g23 rfl) (G_n (edF g23 rfl) (G_n (edF g23 rfl) (G_raw (@rfl V (V.raw undef)) (G_raw (@rfl V (V.raw undef)) (G_raw (@rfl V (V.raw undef)) (G_n (edF g23 rfl) ?_)))))))
   refine R_pickF (edF g23 rfl) rfl ?_
   exact ⟨t1,(dec_andF g23),h1,trivial⟩
 intro T H ⟨t1,t66,h1,_⟩
 refine R_mv t66 (R_e ?_)
 refine W_seq_if rfl (fun c25=>?_) fun c25=>?_
 ·
  try rw [if_pos (by omega)] at d1
  refine W_seq_skip ?_
  refine W_if rfl (fun c26=>?_) fun c26=>?_
  ·
   try rw [if_pos (by omega)] at d1
   refine W_r (R_mv rfl (R_e (W_ret (y19 _ _ ?_))))
   refine Ret_1 (@rfl V (iV (2:Int))) (fz_int ?_)
   · exact d1.symm
  · exact (c26 c25).elim
 try rw [if_neg (by omega)] at d1
 refine W_r (R_fk t1 h1 (R_lk rfl h1 rfl rfl (R_eql rfl rfl (R_mv rfl ?_))))
 refine Ops_seg 9 (fun T H=>T 53=(V.bool (decide (((f.op)=(2:Int))∧(((f.arg) < (0:Int))∨((64:Int)≤(f.arg))))))∧T 79=(V.bool (decide (((f.op)=(3:Int))∧(((f.arg) < (0:Int))∨((1048576:Int) < (f.arg))))))∧H 1=(bk 1 24 3 [[(iV (f.op)),(iV (f.arg)),(V.sl (List.map cF (f.kids)))]])∧True) ?_ ?_
 ·
  by_cases g27:(f.op)=(3:Int)
  ·
   refine G_yes (edT g27 rfl) (R_fk t1 h1 (G_yes (edT g27 rfl) (R_lk rfl h1 rfl rfl (G_yes (edT g27 rfl) (R_lss rfl rfl (G_yes (edT g27 rfl) (R_mv rfl ?_)))))))
   refine Ops_seg 4 (fun T H=>T 53=(V.bool (decide (((f.op)=(2:Int))∧(((f.arg) < (0:Int))∨((64:Int)≤(f.arg))))))∧T 70=(V.bool true)∧T 78=(V.bool (decide (((f.arg) < (0:Int))∨((1048576:Int) < (f.arg)))))∧H 1=(bk 1 24 3 [[(iV (f.op)),(iV (f.arg)),(V.sl (List.map cF (f.kids)))]])∧True) ?_ ?_
   ·
    by_cases g28:(f.arg) < (0:Int)
    ·
     refine G_n (edT g28 rfl) (G_n (edT g28 rfl) (G_n (edT g28 rfl) (G_yes (edT g27 rfl) (R_pickT (edT g28 rfl) rfl ?_))))
     exact ⟨rfl,(edT g27 rfl),(dec_orT g28),h1,trivial⟩
    ·
     refine G_yes (edF g28 rfl) (R_fk t1 h1 (G_yes (edF g28 rfl) (R_lk rfl h1 rfl rfl (G_yes (edF g28 rfl) (R_gtr rfl rfl (G_yes (edT g27 rfl) (R_pickF (edF g28 rfl) rfl ?_)))))))
     exact ⟨rfl,(edT g27 rfl),(dec_orF g28),h1,trivial⟩
   intro T H ⟨t53,t70,t78,h1,_⟩
   refine R_pickT t70 t78 ?_
   exact ⟨t53,(dec_andT g27),h1,trivial⟩
  ·
   refine G_n (edF g27 rfl) (G_n (edF g27 rfl) (G_n (edF g27 rfl) (G_n (edF g27 rfl) (G_raw (@rfl V (V.raw undef)) (G_raw (@rfl V (V.raw undef)) (G_raw (@rfl V (V.raw undef)) (G_n (edF g27 rfl) ?_)))))))
   refine R_pickF (edF g27 rfl) rfl ?_
   exact ⟨rfl,(dec_andF g27),h1,trivial⟩
 intro T H ⟨t53,t79,h1,_⟩
 refine R_mv t79 (R_e ?_)
 refine W_if rfl (fun c29=>?_) fun c29=>?_
 ·
  try rw [if_pos (by omega)] at d1
  refine W_r (R_mv rfl (R_e (W_ret (y19 _ _ ?_))))
  refine Ret_1 (@rfl V (iV (2:Int))) (fz_int ?_)
  · exact d1.symm
 try rw [if_neg (by omega)] at d1
 refine W_skip (n19 _ _ (.done (W_r (R_mv rfl (R_e (W_ret ?_))))))
 refine Ret_1 (@rfl V (iV (0:Int))) (fz_int ?_)
 · exact d1.symm
theorem rexam_pure_step (f:Fm) (lv b:Int) (hb:0≤b∧b≤4096) (hl:0≤lv∧lv≤65) (ih: ∀ (g:Fm) (lv b:Int),g.sz < f.sz→0≤b∧b≤4096→0≤lv∧lv≤65→PureC Tryz.prog 55 [(V.agg [(iV (g.op)),(iV (g.arg)),(V.sl (List.map cF (g.kids)))]),(iV (lv)),(iV (b))] (V.tup [(iV ((exm g lv b).1)),(iV ((exm g lv b).2))])):PureC Tryz.prog 55 [(V.agg [(iV (f.op)),(iV (f.arg)),(V.sl (List.map cF (f.kids)))]),(iV (lv)),(iV (b))] (V.tup [(iV ((exm f lv b).1)),(iV ((exm f lv b).2))]):=by
 refine pW Tryz.func55 s55_ok fun hB=>?_
 unfold s55
 dsimp only
 refine W_r (R_box (i:=3) (n:=0) (m:=3) (cs:=[(iV (f.op)),(iV (f.arg)),(V.sl (List.map cF (f.kids)))]) rfl (congrArg Blk.ver rfl) rfl rfl rfl (R_mv rfl (R_mv rfl (R_e (W_r (R_mv rfl (R_add rfl rfl (by omega) (by omega) ?_)))))))
 refine R_mv rfl (R_e (W_seq_blockg fun Q1 n1 x1 y1 z1=>(W_r (R_mv rfl (R_gtr rfl rfl (R_mv rfl (R_e ?_)))))))
 refine W_if rfl (fun c2=>?_) fun c2=>?_
 ·
  refine W_r (R_mv rfl (R_mv rfl (R_mv rfl (R_e (W_ret (y1 _ _ ?_))))))
  refine Ret_2 (@rfl V (iV ((b)+(1:Int)))) (@rfl V (iV (11:Int))) (fz_int ?_) (fz_int ?_)
  · rw [exm_eq,if_pos (by omega)]
  · rw [exm_eq,if_pos (by omega)]
 refine W_r (R_mv rfl (R_gtr rfl rfl (R_mv rfl (R_e ?_))))
 refine W_if rfl (fun c3=>?_) fun c3=>?_
 ·
  refine W_r (R_mv rfl (R_mv rfl (R_mv rfl (R_e (W_ret (y1 _ _ ?_))))))
  refine Ret_2 (@rfl V (iV ((b)+(1:Int)))) (@rfl V (iV (16:Int))) (fz_int ?_) (fz_int ?_)
  · rw [exm_eq,if_neg (by omega),if_pos (by omega)]
  · rw [exm_eq,if_neg (by omega),if_pos (by omega)]
 refine W_r (R_lk rfl rfl rfl rfl (R_callk (rright_pure f) rfl (R_neq rfl rfl (R_mv rfl (R_e ?_)))))
 refine W_if rfl (fun c4=>?_) fun c4=>?_
 ·
  refine W_r (R_mv rfl (R_lk rfl rfl rfl rfl (R_callk (rright_pure f) rfl (R_mv rfl (R_mv rfl (R_e (W_ret ?_)))))))
  refine y1 _ _ ?_
  refine Ret_2 (@rfl V (iV ((b)+(1:Int)))) (@rfl V (iV (rgt f))) (fz_int ?_) (fz_int ?_)
  · rw [exm_eq,if_neg (by omega),if_neg (by omega),if_pos (by omega)]
  · rw [exm_eq,if_neg (by omega),if_neg (by omega),if_pos (by omega)]
 refine W_skip (n1 _ _ (.done (W_seq_seq (W_r (R_mv rfl (R_e (W_seq_blockg fun Q5 n5 x5 y5 z5=>?_)))))))
 refine W_loop (fun mm T H=> ∃ (k:Nat) (n:Int),mm=f.kids.length - k∧T 1=(iV (lv))∧T 3=(V.mp 3 1 0 0)∧T 8=(iV (n))∧T 9=(iV ((k:Nat):Int))∧H 3=(bk 1 24 3 [[(iV (f.op)),(iV (f.arg)),(V.sl (List.map cF (f.kids)))]])∧(k≤f.kids.length)∧(0≤n∧n≤4096)∧(exm f lv b=exmL (f.kids.drop k) (lv+1) n)) ?_ ?_
 ·
  refine ⟨_,0,b+1,rfl,rfl,rfl,(Eq.trans (@rfl V (iV ((b)+(1:Int)))) (by rfl)),(Eq.trans (@rfl V (iV (0:Int))) rfl),rfl,?_,?_,?_⟩
  · omega
  · omega
  · rw [exm_eq,if_neg (by omega),if_neg (by omega),if_neg (by omega)]; rfl
 intro mm T H ⟨k,n,hmm,t1,t3,t8,t9,h3,hk,hn,hc⟩ Q6 p16 p26 p36
 unfold b55_0
 refine W_seq_seq (W_r (R_mv t9 (R_fk t3 h3 (R_lk rfl h3 rfl rfl (R_len rfl (R_lss rfl rfl (R_e ?_)))))))
 refine W_seq_if rfl (fun c7=>?_) fun c7=>?_
 ·
  refine W_seq_skip (W_seq_blockg fun Q8 n8 x8 y8 z8=>(W_r (R_fk t3 h3 (R_lk rfl h3 rfl rfl (R_mv t9 (R_idxu (i:=k) (@rfl V (V.sl (List.map cF (f.kids)))) (@rfl V (iV ((k:Nat):Int))) (by omega) (cF_eq _) rfl (R_load_pp rfl rfl ?_)))))))
  refine R_mv t1 (R_add rfl rfl (by omega) (by omega) (R_mv t8 (R_callk (ih (((nth (f.kids) (k)))) (((lv)+(1:Int))) ((n)) (Fm.sz_kid (by omega)) (by omega) (by omega)) rfl (R_mv rfl (R_ext rfl rfl (R_ext rfl rfl (R_mv rfl ?_)))))))
  refine R_mv rfl (R_e (W_seq_seq (W_r (R_mv rfl (R_neq rfl rfl (R_e ?_))))))
  refine W_seq_if rfl (fun c9=>?_) fun c9=>?_
  ·
   have q0:=exm_rng (nth f.kids k) (lv+1) n
   refine W_seq_seq (W_r (R_mv rfl (R_mv rfl (R_mv rfl (R_mv rfl (R_e (W_seq_ret ?_)))))))
   refine y8 _ _ (p26 _ _ (y5 _ _ ?_))
   refine Ret_2 (@rfl V (iV ((exm (((nth (f.kids) (k)))) (((lv)+(1:Int))) ((n))).1))) (@rfl V (iV ((exm (((nth (f.kids) (k)))) (((lv)+(1:Int))) ((n))).2))) (fz_int ?_) (fz_int ?_)
   · rw [hc,exmL_yes (by omega) (by omega)]
   · rw [hc,exmL_yes (by omega) (by omega)]
  have q0:=exm_rng (nth f.kids k) (lv+1) n
  refine W_seq_skip (W_t (R_mv rfl (R_mv rfl (R_e (n8 _ _ (.done (W_t ?_)))))))
  refine R_mv t9 (R_addN rfl (@rfl V (iV ((1:Nat):Int))) (by omega) (R_mv rfl (R_e ?_)))
  refine p16 _ _ _ ?_ ⟨(k+1),(exm (nth f.kids k) (lv+1) n).1,rfl,t1,t3,(Eq.trans (@rfl V (iV ((exm (((nth (f.kids) (k)))) (((lv)+(1:Int))) ((n))).1))) (by rfl)),(Eq.trans (@rfl V (iV ((k+1:Nat):Int))) (by rfl)),h3,?_,?_,?_⟩
  · omega
  · omega
  · exact ⟨by omega,q0.2 (by omega)⟩
  · rw [hc,exmL_no (by omega) (by omega)]
 refine W_seq_exit (p36 _ _ _ (x5 _ _ (.done (W_r (R_mv t8 (R_mv rfl (R_mv rfl ?_)))))))
 refine R_e (W_ret ?_)
 refine Ret_2 (@rfl V (iV (n))) (@rfl V (iV (0:Int))) (fz_int ?_) (fz_int ?_)
 · rw [hc,exmL_end (by omega)]
 · rw [hc,exmL_end (by omega)]
theorem rexam_pure (f:Fm) (lv b:Int) (hb:0≤b∧b≤4096) (hl:0≤lv∧lv≤65):PureC Tryz.prog 55 [(V.agg [(iV (f.op)),(iV (f.arg)),(V.sl (List.map cF (f.kids)))]),(iV (lv)),(iV (b))] (V.tup [(iV ((exm f lv b).1)),(iV ((exm f lv b).2))]):=by
  have key: ∀ (mm:Nat) (f:Fm) (lv b:Int),f.sz < mm→0≤b∧b≤4096→0≤lv∧lv≤65→PureC Tryz.prog 55 [(V.agg [(iV (f.op)),(iV (f.arg)),(V.sl (List.map cF (f.kids)))]),(iV (lv)),(iV (b))] (V.tup [(iV ((exm f lv b).1)),(iV ((exm f lv b).2))]):=by
    intro mm
    induction mm with
    |zero=>intro f lv b hlt; exact absurd hlt (Nat.not_lt_zero _)
    | succ mm ih =>
      intro f lv b hlt hb hl
      exact rexam_pure_step f lv b hb hl fun f2 lv2 b2 hlt2=>ih f2 lv2 b2 (by omega)
  exact key (f.sz+1) f lv b (Nat.lt_succ_self _) hb hl
theorem rfvalid_pure (f:Fm):PureC Tryz.prog 28 [(V.agg [(iV (f.op)),(iV (f.arg)),(V.sl (List.map cF (f.kids)))])] (iV (fval f)):=by
 refine pW Tryz.func28 s28_ok fun hB=>?_
 unfold s28
 dsimp only
 refine W_r (R_box (i:=1) (n:=0) (m:=3) (cs:=[(iV (f.op)),(iV (f.arg)),(V.sl (List.map cF (f.kids)))]) rfl (congrArg Blk.ver rfl) rfl rfl rfl (R_mv rfl (R_e (W_r (R_lk rfl rfl rfl rfl (R_callk (rexam_pure f ((1:Int)) ((0:Int)) (by omega) (by omega)) rfl (R_mv rfl ?_)))))))
 refine R_ext rfl rfl (R_ext rfl rfl (R_mv rfl (R_mv rfl (R_e (W_r (R_mv rfl (R_mv rfl ?_)))))))
 refine R_e (W_ret ?_)
 refine Ret_1 (@rfl V (iV ((exm f ((1:Int)) ((0:Int))).2))) (fz_int ?_)
 · rfl
def s29:SF:=⟨22,[.cell 2 true 3,.tmp 3],.seq (.reg [sO 1 (.box 24 3 (.t 0)),sO 2 (.alloc 24 [.int .i64 0,.int .i64 0,.nilsl]),qI 3 0]) (.seq (.seq (.reg [qL 7 3 1,sO 8 (.call false 35 [.t 7]),qM 4 8]) (.seq (.reg [qM 9 4,qC 10 .neq 9 0]) (.cond (.t 10) (.seq (.reg [sO 11 (.build [.int .i64 0,.int .i64 0,.nilsl] []),qM 12 4,sN (.store 3 (.t 2) (.t 11)),qM 3 12]) (.ret)) (.skip)))) (.seq (.reg [qL 13 3 1,sO 14 (.call false 56 [.t 13,.c (.bool true)]),sO 5 (.alloc 24 [.int .i64 0,.int .i64 0,.nilsl]),sN (.store 3 (.t 5) (.t 14))]) (.seq (.seq (.reg [qL 15 3 5,sO 16 (.call false 35 [.t 15]),qM 6 16]) (.seq (.reg [qM 17 6,qC 18 .neq 17 0]) (.cond (.t 18) (.seq (.reg [sO 19 (.build [.int .i64 0,.int .i64 0,.nilsl] []),qM 20 6,sN (.store 3 (.t 2) (.t 19)),qM 3 20]) (.ret)) (.skip)))) (.seq (.reg [qL 21 3 5,sN (.store 3 (.t 2) (.t 21)),qI 3 0]) (.ret)))))⟩
theorem s29_ok:slimF Tryz.prog ⟨[51,59,84,90,97,109,153,154,155,160],[],[],[]⟩ Tryz.f29=some s29:=by kernel_rfl
def r56_2:List SO:=[
 qF 12 2 2,
 ql 13 12,
 sO 14 (.idx 3 (.t 13) (.c (.int .i64 0))),
 qL 15 3 14,
 qM 16 1,
 sO 17 (.un .not (.t 16)),
 sO 18 (.call false 56 [.t 15,.t 17]),
 sN (.store 3 (.t 4) (.t 18))]
def r56_3:List SO:=[
 qF 20 2 2,
 ql 21 20,
 qN 22 21,
 qC 23 .eql 22 0,
 qM 24 23,
 ⟨some (24,true),some 25,.mv (.t 1)⟩,
 sO 26 (.pick (.t 24) (.t 25) (.c (.bool false))),
 qM 19 26]
def r56_4:List SO:=[
 qF 27 0 2,
 ql 28 27,
 qF 29 1 2,
 ql 30 29,
 sO 31 (.build [.int .i64 0,.int .i64 0,.nilsl] [(0,1,.t 28),(1,1,.t 30)]),
 sO 32 (.call false 80 [.t 31]),
 sN (.store 3 (.t 4) (.t 32))]
def r56_13:List SO:=[
 qF 58 2 5,
 ql 59 58,
 qL 60 3 7,
 qM 61 1,
 sO 62 (.call false 56 [.t 60,.t 61]),
 sO 63 (.bslice 24 3 false [.int .i64 0,.int .i64 0,.nilsl] 1 [(0,.t 62)]),
 sO 64 (.append 24 3 40 (.t 59) (.t 63)),
 qF 65 2 5,
 sN (.store 1 (.t 65) (.t 64))]
def b56_0:SC:=.seq (.reg [qP 55 .lss 54 53]) (.seq (.cond (.t 55) (.skip) (.exit 1)) (.seq (.block 2 (.seq (.reg [qA 56 3 52 54,qL 57 3 56,sO 7 (.alloc 24 [.int .i64 0,.int .i64 0,.nilsl]),sN (.store 3 (.t 7) (.t 57))]) (.reg r56_13))) (.reg [qC 66 .add 54 1,qM 54 66])))
def s56:SF:=⟨68,[.cell 4 true 3],.seq (.reg [sO 2 (.box 24 3 (.t 0)),sO 4 (.alloc 24 [.int .i64 0,.int .i64 0,.nilsl])]) (.seq (.block 0 (.seq (.reg [qF 9 0 2,ql 10 9,qC 11 .eql 10 4,qM 8 11]) (.cond (.t 8) (.seq (.reg r56_2) (.ret)) (.seq (.reg r56_3) (.cond (.t 19) (.seq (.reg r56_4) (.ret)) (.seq (.reg [qF 34 2 2,ql 35 34,qN 36 35,qC 37 .eql 36 0,qM 33 37]) (.cond (.t 33) (.seq (.reg [qF 38 0 2,ql 39 38,qF 40 1 2,ql 41 40,sO 42 (.build [.int .i64 0,.int .i64 0,.nilsl] [(0,1,.t 39),(1,1,.t 41)]),sN (.store 3 (.t 4) (.t 42))]) (.ret)) (.skip)))))))) (.seq (.reg [qF 43 0 2,ql 44 43,sO 45 (.build [.int .i64 0,.int .i64 0,.nilsl] [(0,1,.t 44)]),sO 5 (.alloc 24 [.int .i64 0,.int .i64 0,.nilsl]),sN (.store 3 (.t 5) (.t 45))]) (.seq (.seq (.reg [qM 46 1]) (.cond (.t 46) (.reg [qF 47 0 2,ql 48 47,sO 49 (.call false 81 [.t 48]),qF 50 0 5,sN (.store 1 (.t 50) (.t 49))]) (.skip))) (.seq (.seq (.reg [qF 51 2 2,ql 52 51,qN 53 52,qI 54 0]) (.block 1 (.loop b56_0))) (.seq (.reg [qL 67 3 5,sN (.store 3 (.t 4) (.t 67))]) (.ret))))))⟩
theorem s56_ok:slimF Tryz.prog ⟨[51,59,84,90,97,109,153,154,155,160],[],[],[]⟩ Tryz.f56=some s56:=by kernel_rfl
def s80:SF:=⟨6,[.cell 2 true 3],.seq (.reg [sO 1 (.box 24 3 (.t 0)),sO 2 (.alloc 24 [.int .i64 0,.int .i64 0,.nilsl])]) (.seq (.reg [qL 3 3 1,sO 4 (.bslice 24 3 false [.int .i64 0,.int .i64 0,.nilsl] 1 [(0,.t 3)]),sO 5 (.build [.int .i64 0,.int .i64 0,.nilsl] [(0,1,.c (.int .i64 4)),(2,1,.t 4)]),sN (.store 3 (.t 2) (.t 5))]) (.ret))⟩
theorem s80_ok:slimF Tryz.prog ⟨[51,59,84,90,97,109,153,154,155,160],[],[],[]⟩ Tryz.f80=some s80:=by kernel_rfl
theorem not_pure (f:Fm):PureC Tryz.prog 80 [(V.agg [(iV (f.op)),(iV (f.arg)),(V.sl (List.map cF (f.kids)))])] (V.agg [(iV (4:Int)),(iV (0:Int)),(V.sl (List.map cF ([f])))]):=by
 refine pW Tryz.func80 s80_ok fun hB=>?_
 unfold s80
 dsimp only
 refine W_r (R_box (i:=1) (n:=0) (m:=3) (cs:=[(iV (f.op)),(iV (f.arg)),(V.sl (List.map cF (f.kids)))]) rfl (congrArg Blk.ver rfl) rfl rfl rfl (R_alloc (i:=2) (n:=0) (m:=3) rfl (congrArg Blk.ver rfl) rfl (R_e (W_r (R_lk rfl rfl rfl rfl (R_bslice rfl rfl (R_build rfl rfl ?_)))))))
 refine R_sk rfl rfl rfl rfl rfl rfl rfl rfl rfl (R_e (W_ret ?_))
 refine RetC_1 (resV_c (u:=(V.agg [(iV (4:Int)),(iV (0:Int)),(V.sl [[(iV (f.op)),(iV (f.arg)),(V.sl (List.map cF (f.kids)))]])])) rfl (@rfl Blk (bk 1 24 3 [[(iV (4:Int)),(iV (0:Int)),(V.sl [[(iV (f.op)),(iV (f.arg)),(V.sl (List.map cF (f.kids)))]])]])) (lB oB rfl rfl)) (fz_agg3 (fz_canon (by simp) rfl) (fz_canon (by simp) rfl) (fz_canon (by simp) (sl_F1 (x:=f) rfl)))
def s81:SF:=⟨14,[.tmp 2],.seq (.reg [qI 2 0]) (.seq (.seq (.reg [qM 3 0]) (.block 0 (.seq (.reg [qC 5 .eql 3 5,qM 4 5]) (.cond (.t 4) (.seq (.reg [qI 2 6]) (.ret)) (.seq (.reg [qC 7 .eql 3 6,qM 6 7]) (.cond (.t 6) (.seq (.reg [qI 2 5]) (.ret)) (.seq (.reg [qC 9 .eql 3 7,qM 8 9]) (.cond (.t 8) (.seq (.reg [qI 2 9]) (.ret)) (.seq (.reg [qC 11 .eql 3 9,qM 10 11]) (.cond (.t 10) (.seq (.reg [qI 2 7]) (.ret)) (.seq (.reg [qC 13 .eql 3 8,qM 12 13]) (.cond (.t 12) (.seq (.reg [qI 2 10]) (.ret)) (.skip))))))))))))) (.seq (.reg [qI 2 8]) (.ret)))⟩
theorem s81_ok:slimF Tryz.prog ⟨[51,59,84,90,97,109,153,154,155,160],[],[],[]⟩ Tryz.f81=some s81:=by kernel_rfl
theorem dual_pure (o:Int):PureC Tryz.prog 81 [(iV (o))] (iV (dualI o)):=by
 refine pW Tryz.func81 s81_ok fun hB=>?_
 unfold s81
 dsimp only
 refine W_r (R_mv rfl (R_e (W_seq_seq (W_r (R_mv rfl (R_e (W_seq_blockg fun Q1 n1 x1 y1 z1=>?_)))))))
 refine W_r (R_eql rfl rfl (R_mv rfl (R_e ?_)))
 refine W_if rfl (fun c2=>?_) fun c2=>?_
 ·
  refine W_r (R_mv rfl (R_e (W_ret (y1 _ _ ?_))))
  refine Ret_1 (@rfl V (iV (6:Int))) (fz_int ?_)
  · simp only [dualI]; repeat (first|rfl|omega|split)
 refine W_r (R_eql rfl rfl (R_mv rfl (R_e ?_)))
 refine W_if rfl (fun c3=>?_) fun c3=>?_
 ·
  refine W_r (R_mv rfl (R_e (W_ret (y1 _ _ ?_))))
  refine Ret_1 (@rfl V (iV (5:Int))) (fz_int ?_)
  · simp only [dualI]; repeat (first|rfl|omega|split)
 refine W_r (R_eql rfl rfl (R_mv rfl (R_e ?_)))
 refine W_if rfl (fun c4=>?_) fun c4=>?_
 ·
  refine W_r (R_mv rfl (R_e (W_ret (y1 _ _ ?_))))
  refine Ret_1 (@rfl V (iV (9:Int))) (fz_int ?_)
  · simp only [dualI]; repeat (first|rfl|omega|split)
 refine W_r (R_eql rfl rfl (R_mv rfl (R_e ?_)))
 refine W_if rfl (fun c5=>?_) fun c5=>?_
 ·
  refine W_r (R_mv rfl (R_e (W_ret (y1 _ _ ?_))))
  refine Ret_1 (@rfl V (iV (7:Int))) (fz_int ?_)
  · simp only [dualI]; repeat (first|rfl|omega|split)
 refine W_r (R_eql rfl rfl (R_mv rfl (R_e ?_)))
 refine W_if rfl (fun c6=>?_) fun c6=>?_
 ·
  refine W_r (R_mv rfl (R_e (W_ret (y1 _ _ ?_))))
  refine Ret_1 (@rfl V (iV (10:Int))) (fz_int ?_)
  · simp only [dualI]; repeat (first|rfl|omega|split)
 refine W_skip (n1 _ _ (.done (W_r (R_mv rfl (R_e (W_ret ?_))))))
 refine Ret_1 (@rfl V (iV (8:Int))) (fz_int ?_)
 · simp only [dualI]; repeat (first|rfl|omega|split)
end Go.Proofs.YteehaobohaecmaaGreatDoor
