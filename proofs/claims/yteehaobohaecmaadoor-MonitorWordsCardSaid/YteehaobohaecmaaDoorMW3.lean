/- Contracts of the functions that the law MW reaches, and the law itself, for every input; no condition. -/
import Derived.KernelRfl
import Derived.Test.YteehaobohaecmaaDoorProg
import Derived.Lib.ItoaNum
import Derived.Shelf.Strconv.Itoa3
import Derived.Test.YteehaobohaecmaaDoorMW2
set_option linter.unusedSimpArgs false
set_option linter.unusedVariables false
namespace Go.Proofs.YteehaobohaecmaaDoor
open Go Go.Proofs
theorem after_pure_step (f:Fm) (a o:Int) (hok:okF f=true) (hz:f.sz≤4096) (ih: ∀ (g:Fm) (a o:Int),g.sz < f.sz→okF g=true→g.sz≤4096→PureC Tryd.prog 24 [(V.agg [(iV (g.op)),(iV (g.arg)),(V.sl (List.map cF (g.kids)))]),(iV (a)),(iV (o))] (V.agg [(iV ((mst g a o).op)),(iV ((mst g a o).arg)),(V.sl (List.map cF ((mst g a o).kids)))])):PureC Tryd.prog 24 [(V.agg [(iV (f.op)),(iV (f.arg)),(V.sl (List.map cF (f.kids)))]),(iV (a)),(iV (o))] (V.agg [(iV ((mst f a o).op)),(iV ((mst f a o).arg)),(V.sl (List.map cF ((mst f a o).kids)))]):=by
 refine pW Tryd.func24 s24_ok fun hB=>?_
 unfold s24
 dsimp only
 have hp:=okF_parts hok
 have hr:=rgt_ok hp.1
 have hln:=f.sz_len
 refine W_r (R_box (i:=3) (n:=0) (m:=3) (cs:=[(iV (f.op)),(iV (f.arg)),(V.sl (List.map cF (f.kids)))]) rfl (congrArg Blk.ver rfl) rfl rfl rfl (R_alloc (i:=6) (n:=0) (m:=3) rfl (congrArg Blk.ver rfl) rfl (R_e (W_seq_seq (W_r (R_fk rfl rfl (R_lk rfl rfl rfl rfl ?_)))))))
 refine R_e (W_seq_blockg fun Q1 n1 x1 y1 z1=>(W_r (R_eql rfl rfl (R_mv rfl (R_e ?_)))))
 refine W_if rfl (fun c2=>?_) fun c2=>?_
 ·
  refine W_r (R_fk rfl rfl (R_lk rfl rfl rfl rfl (R_mv rfl (R_eql rfl rfl (R_callk (truth_pure ((decide ((f.arg)=(a))))) rfl (R_sk rfl rfl rfl rfl rfl rfl rfl rfl rfl (R_e ?_)))))))
  refine W_ret (y1 _ _ ?_)
  refine RetC_1 (resV_c (u:=(V.agg [(iV ((trF ((decide ((f.arg)=(a))))).op)),(iV ((trF ((decide ((f.arg)=(a))))).arg)),(V.sl (List.map cF ((trF ((decide ((f.arg)=(a))))).kids)))])) rfl (@rfl Blk (bk 1 24 3 [[(iV ((trF ((decide ((f.arg)=(a))))).op)),(iV ((trF ((decide ((f.arg)=(a))))).arg)),(V.sl (List.map cF ((trF ((decide ((f.arg)=(a))))).kids)))]])) (lB oB rfl rfl)) (fz_agg3 (fz_int ?_) (fz_int ?_) (fz_sl ?_ (fun _=>by simp)))
  · rw [mst_2 (f:=f) (by omega)]
  · rw [mst_2 (f:=f) (by omega)]
  · rw [mst_2 (f:=f) (by omega)]
 refine W_r (R_eql rfl rfl (R_mv rfl (R_e ?_)))
 refine W_if rfl (fun c3=>?_) fun c3=>?_
 ·
  refine W_r (R_fk rfl rfl (R_lk rfl rfl rfl rfl (R_mv rfl (R_eql rfl rfl (R_callk (truth_pure ((decide ((f.arg)=(o))))) rfl (R_sk rfl rfl rfl rfl rfl rfl rfl rfl rfl (R_e ?_)))))))
  refine W_ret (y1 _ _ ?_)
  refine RetC_1 (resV_c (u:=(V.agg [(iV ((trF ((decide ((f.arg)=(o))))).op)),(iV ((trF ((decide ((f.arg)=(o))))).arg)),(V.sl (List.map cF ((trF ((decide ((f.arg)=(o))))).kids)))])) rfl (@rfl Blk (bk 1 24 3 [[(iV ((trF ((decide ((f.arg)=(o))))).op)),(iV ((trF ((decide ((f.arg)=(o))))).arg)),(V.sl (List.map cF ((trF ((decide ((f.arg)=(o))))).kids)))]])) (lB oB rfl rfl)) (fz_agg3 (fz_int ?_) (fz_int ?_) (fz_sl ?_ (fun _=>by simp)))
  · rw [mst_3 (f:=f) (by omega)]
  · rw [mst_3 (f:=f) (by omega)]
  · rw [mst_3 (f:=f) (by omega)]
 refine W_r (R_eql rfl rfl (R_mv rfl (R_e ?_)))
 refine W_if rfl (fun c4=>?_) fun c4=>?_
 ·
  refine W_r (R_fk rfl rfl (R_lk rfl rfl rfl rfl (R_idxu (i:=0) (@rfl V (V.sl (List.map cF (f.kids)))) (@rfl V (iV ((0:Nat):Int))) (by omega) (cF_eq _) rfl (R_load_pp rfl rfl (R_alloc (i:=7) (n:=0) (m:=3) rfl (congrArg Blk.ver rfl) rfl (R_sk rfl rfl rfl rfl rfl rfl rfl rfl rfl (R_e ?_)))))))
  refine W_r (R_fk rfl rfl (R_lk rfl rfl rfl rfl (R_eql rfl rfl (R_mv rfl ?_))))
  refine Ops_seg 5 (fun T H=>T 2=(iV (o))∧T 6=(V.mp 6 1 0 0)∧T 7=(V.mp 7 1 0 0)∧T 41=(V.bool (decide (((((nth (f.kids) (0))).op)=(2:Int))∧((((nth (f.kids) (0))).arg)≠(a)))))∧H 3=(bk 1 24 3 [[(iV (f.op)),(iV (f.arg)),(V.sl (List.map cF (f.kids)))]])∧H 6=(bk 1 24 3 [[(iV (0:Int)),(iV (0:Int)),V.nilsl]])∧H 7=(bk 1 24 3 [[(iV (((nth (f.kids) (0))).op)),(iV (((nth (f.kids) (0))).arg)),(V.sl (List.map cF (((nth (f.kids) (0))).kids)))]])∧H 8=(⟨0,false,false,0,0,[]⟩:Blk)∧H 10=(⟨0,false,false,0,0,[]⟩:Blk)∧H 708=(⟨0,false,false,0,0,[]⟩:Blk)∧True) ?_ ?_
  ·
   by_cases g5:(((nth (f.kids) (0))).op)=(2:Int)
   ·
    refine G_yes (edT g5 rfl) (R_fk rfl rfl (G_yes (edT g5 rfl) (R_lk rfl rfl rfl rfl (G_yes (edT g5 rfl) (R_mv rfl (G_yes (edT g5 rfl) (R_neq rfl rfl ?_)))))))
    refine R_pickT (edT g5 rfl) rfl ?_
    exact ⟨rfl,rfl,rfl,(dec_andT g5),rfl,rfl,rfl,rfl,rfl,rfl,trivial⟩
   ·
    refine G_n (edF g5 rfl) (G_n (edF g5 rfl) (G_n (edF g5 rfl) (G_n (edF g5 rfl) (R_pickF (edF g5 rfl) rfl ?_))))
    exact ⟨rfl,rfl,rfl,(dec_andF g5),rfl,rfl,rfl,rfl,rfl,rfl,trivial⟩
  intro T H ⟨t2,t6,t7,t41,h3,h6,h7,h8,h10,h708,_⟩
  refine R_mv t41 ?_
  refine Ops_seg 10 (fun T H=>T 6=(V.mp 6 1 0 0)∧T 52=(V.bool (decide ((((((nth (f.kids) (0))).op)=(2:Int))∧((((nth (f.kids) (0))).arg)≠(a)))∨(((((nth (f.kids) (0))).op)=(3:Int))∧((((nth (f.kids) (0))).arg)≠(o))))))∧H 3=(bk 1 24 3 [[(iV (f.op)),(iV (f.arg)),(V.sl (List.map cF (f.kids)))]])∧H 6=(bk 1 24 3 [[(iV (0:Int)),(iV (0:Int)),V.nilsl]])∧H 7=(bk 1 24 3 [[(iV (((nth (f.kids) (0))).op)),(iV (((nth (f.kids) (0))).arg)),(V.sl (List.map cF (((nth (f.kids) (0))).kids)))]])∧H 8=(⟨0,false,false,0,0,[]⟩:Blk)∧H 10=(⟨0,false,false,0,0,[]⟩:Blk)∧H 708=(⟨0,false,false,0,0,[]⟩:Blk)∧True) ?_ ?_
  ·
   by_cases g6:((((nth (f.kids) (0))).op)=(2:Int))∧((((nth (f.kids) (0))).arg)≠(a))
   ·
    refine G_n (edT g6 rfl) (G_n (edT g6 rfl) (G_n (edT g6 rfl) (G_n (edT g6 rfl) (G_raw (@rfl V (V.raw undef)) (G_raw (@rfl V (V.raw undef)) (G_raw (@rfl V (V.raw undef)) (G_raw (@rfl V (V.raw undef)) ?_)))))))
    refine G_n (edT g6 rfl) (R_pickT (edT g6 rfl) rfl ?_)
    exact ⟨t6,(dec_orT g6),h3,h6,h7,h8,h10,h708,trivial⟩
   ·
    refine G_yes (edF g6 rfl) (R_fk t7 h7 (G_yes (edF g6 rfl) (R_lk rfl h7 rfl rfl (G_yes (edF g6 rfl) (R_eql rfl rfl (G_yes (edF g6 rfl) (R_mv rfl ?_)))))))
    refine Ops_seg 5 (fun T H=>T 6=(V.mp 6 1 0 0)∧T 42=(V.bool false)∧T 51=(V.bool (decide (((((nth (f.kids) (0))).op)=(3:Int))∧((((nth (f.kids) (0))).arg)≠(o)))))∧H 3=(bk 1 24 3 [[(iV (f.op)),(iV (f.arg)),(V.sl (List.map cF (f.kids)))]])∧H 6=(bk 1 24 3 [[(iV (0:Int)),(iV (0:Int)),V.nilsl]])∧H 7=(bk 1 24 3 [[(iV (((nth (f.kids) (0))).op)),(iV (((nth (f.kids) (0))).arg)),(V.sl (List.map cF (((nth (f.kids) (0))).kids)))]])∧H 8=(⟨0,false,false,0,0,[]⟩:Blk)∧H 10=(⟨0,false,false,0,0,[]⟩:Blk)∧H 708=(⟨0,false,false,0,0,[]⟩:Blk)∧True) ?_ ?_
    ·
     by_cases g7:(((nth (f.kids) (0))).op)=(3:Int)
     ·
      refine G_yes (edT g7 rfl) (R_fk t7 h7 (G_yes (edT g7 rfl) (R_lk rfl h7 rfl rfl (G_yes (edT g7 rfl) (R_mv t2 (G_yes (edT g7 rfl) (R_neq rfl rfl ?_)))))))
      refine G_yes (edF g6 rfl) (R_pickT (edT g7 rfl) rfl ?_)
      exact ⟨t6,(edF g6 rfl),(dec_andT g7),h3,h6,h7,h8,h10,h708,trivial⟩
     ·
      refine G_n (edF g7 rfl) (G_n (edF g7 rfl) (G_n (edF g7 rfl) (G_n (edF g7 rfl) (G_yes (edF g6 rfl) (R_pickF (edF g7 rfl) rfl ?_)))))
      exact ⟨t6,(edF g6 rfl),(dec_andF g7),h3,h6,h7,h8,h10,h708,trivial⟩
    intro T H ⟨t6,t42,t51,h3,h6,h7,h8,h10,h708,_⟩
    refine R_pickF t42 t51 ?_
    exact ⟨t6,(dec_orF g6),h3,h6,h7,h8,h10,h708,trivial⟩
  intro T H ⟨t6,t52,h3,h6,h7,h8,h10,h708,_⟩
  refine R_callk (truth_pure ((decide ((((((nth (f.kids) (0))).op)=(2:Int))∧((((nth (f.kids) (0))).arg)≠(a)))∨(((((nth (f.kids) (0))).op)=(3:Int))∧((((nth (f.kids) (0))).arg)≠(o))))))) (evcons t52 evnil) (R_sk t6 rfl rfl h6 rfl rfl rfl rfl rfl (R_e (W_ret (y1 _ _ ?_))))
  refine RetC_1 (resV_c (u:=(V.agg [(iV ((trF ((decide ((((((nth (f.kids) (0))).op)=(2:Int))∧((((nth (f.kids) (0))).arg)≠(a)))∨(((((nth (f.kids) (0))).op)=(3:Int))∧((((nth (f.kids) (0))).arg)≠(o))))))).op)),(iV ((trF ((decide ((((((nth (f.kids) (0))).op)=(2:Int))∧((((nth (f.kids) (0))).arg)≠(a)))∨(((((nth (f.kids) (0))).op)=(3:Int))∧((((nth (f.kids) (0))).arg)≠(o))))))).arg)),(V.sl (List.map cF ((trF ((decide ((((((nth (f.kids) (0))).op)=(2:Int))∧((((nth (f.kids) (0))).arg)≠(a)))∨(((((nth (f.kids) (0))).op)=(3:Int))∧((((nth (f.kids) (0))).arg)≠(o))))))).kids)))])) t6 (@rfl Blk (bk 1 24 3 [[(iV ((trF ((decide ((((((nth (f.kids) (0))).op)=(2:Int))∧((((nth (f.kids) (0))).arg)≠(a)))∨(((((nth (f.kids) (0))).op)=(3:Int))∧((((nth (f.kids) (0))).arg)≠(o))))))).op)),(iV ((trF ((decide ((((((nth (f.kids) (0))).op)=(2:Int))∧((((nth (f.kids) (0))).arg)≠(a)))∨(((((nth (f.kids) (0))).op)=(3:Int))∧((((nth (f.kids) (0))).arg)≠(o))))))).arg)),(V.sl (List.map cF ((trF ((decide ((((((nth (f.kids) (0))).op)=(2:Int))∧((((nth (f.kids) (0))).arg)≠(a)))∨(((((nth (f.kids) (0))).op)=(3:Int))∧((((nth (f.kids) (0))).arg)≠(o))))))).kids)))]])) (lB oB rfl rfl)) (fz_agg3 (fz_int ?_) (fz_int ?_) (fz_sl ?_ (fun _=>by simp)))
  · rw [mst_4 (f:=f) (by omega)]; rfl
  · rw [mst_4 (f:=f) (by omega)]; rfl
  · rw [mst_4 (f:=f) (by omega)]; rfl
 refine W_seq_seq (W_r (R_eql rfl rfl (R_mv rfl (R_e ?_))))
 refine W_seq_if rfl (fun c8=>?_) fun c8=>?_
 ·
  refine W_seq_skip ?_
  refine W_if rfl (fun c9=>?_) fun c9=>?_
  ·
   refine W_r (R_fk rfl rfl (R_lk rfl rfl rfl rfl (R_idxu (i:=0) (@rfl V (V.sl (List.map cF (f.kids)))) (@rfl V (iV ((0:Nat):Int))) (by omega) (cF_eq _) rfl (R_load_pp rfl rfl (R_sk rfl rfl rfl rfl rfl rfl rfl rfl rfl (R_e (W_ret ?_)))))))
   refine y1 _ _ ?_
   refine RetC_1 (resV_c (u:=(V.agg [(iV (((nth (f.kids) (0))).op)),(iV (((nth (f.kids) (0))).arg)),(V.sl (List.map cF (((nth (f.kids) (0))).kids)))])) rfl (@rfl Blk (bk 1 24 3 [[(iV (((nth (f.kids) (0))).op)),(iV (((nth (f.kids) (0))).arg)),(V.sl (List.map cF (((nth (f.kids) (0))).kids)))]])) (lB oB rfl rfl)) (fz_agg3 (fz_int ?_) (fz_int ?_) (fz_sl ?_ (fun _=>by simp)))
   · rw [mst_79 (f:=f) (by omega)]
   · rw [mst_79 (f:=f) (by omega)]
   · rw [mst_79 (f:=f) (by omega)]
  · exact (c9 c8).elim
 refine W_r (R_eql rfl rfl (R_mv rfl (R_e ?_)))
 refine W_if rfl (fun c10=>?_) fun c10=>?_
 ·
  refine W_r (R_fk rfl rfl (R_lk rfl rfl rfl rfl (R_idxu (i:=0) (@rfl V (V.sl (List.map cF (f.kids)))) (@rfl V (iV ((0:Nat):Int))) (by omega) (cF_eq _) rfl (R_load_pp rfl rfl (R_sk rfl rfl rfl rfl rfl rfl rfl rfl rfl (R_e (W_ret ?_)))))))
  refine y1 _ _ ?_
  refine RetC_1 (resV_c (u:=(V.agg [(iV (((nth (f.kids) (0))).op)),(iV (((nth (f.kids) (0))).arg)),(V.sl (List.map cF (((nth (f.kids) (0))).kids)))])) rfl (@rfl Blk (bk 1 24 3 [[(iV (((nth (f.kids) (0))).op)),(iV (((nth (f.kids) (0))).arg)),(V.sl (List.map cF (((nth (f.kids) (0))).kids)))]])) (lB oB rfl rfl)) (fz_agg3 (fz_int ?_) (fz_int ?_) (fz_sl ?_ (fun _=>by simp)))
  · rw [mst_79 (f:=f) (by omega)]
  · rw [mst_79 (f:=f) (by omega)]
  · rw [mst_79 (f:=f) (by omega)]
 refine W_r (R_eql rfl rfl (R_mv rfl (R_e ?_)))
 refine W_if rfl (fun c11=>?_) fun c11=>?_
 ·
  refine W_r (R_fk rfl rfl (R_lk rfl rfl rfl rfl (R_idxu (i:=1) (@rfl V (V.sl (List.map cF (f.kids)))) (@rfl V (iV ((1:Nat):Int))) (by omega) (cF_eq _) rfl (R_load_pp rfl rfl (R_mv rfl (R_mv rfl (R_callk (ih (((nth (f.kids) (1)))) ((a)) ((o)) (Fm.sz_kid (by omega)) (hp.2 _ (by omega)) (Nat.le_trans (Nat.le_of_lt (Fm.sz_kid (by omega))) hz)) rfl ?_)))))))
  refine R_fk rfl rfl (R_lk rfl rfl rfl rfl (R_idxu (i:=0) (@rfl V (V.sl (List.map cF (f.kids)))) (@rfl V (iV ((0:Nat):Int))) (by omega) (cF_eq _) rfl (R_load_pp rfl rfl (R_mv rfl (R_mv rfl (R_callk (ih (((nth (f.kids) (0)))) ((a)) ((o)) (Fm.sz_kid (by omega)) (hp.2 _ (by omega)) (Nat.le_trans (Nat.le_of_lt (Fm.sz_kid (by omega))) hz)) rfl (R_lk rfl rfl rfl rfl ?_)))))))
  refine R_bslice rfl rfl (R_callk (mnode_pure ((5:Int)) ([(mst (((nth (f.kids) (0)))) ((a)) ((o))),f])) (evcons rfl (evcons (sl_F2 (x:=((mst (((nth (f.kids) (0)))) ((a)) ((o))))) (y:=f) rfl) evnil)) (R_bslice rfl rfl (R_callk (mnode_pure ((6:Int)) ([(mst (((nth (f.kids) (1)))) ((a)) ((o))),(Fm.nd (5:Int) (0:Int) [(mst (((nth (f.kids) (0)))) ((a)) ((o))),f])])) (evcons rfl (evcons (sl_F2 (x:=((mst (((nth (f.kids) (1)))) ((a)) ((o))))) (y:=((Fm.nd (5:Int) (0:Int) [(mst (((nth (f.kids) (0)))) ((a)) ((o))),f]))) rfl) evnil)) (R_sk rfl rfl rfl rfl rfl rfl rfl rfl rfl (R_e (W_ret (y1 _ _ ?_)))))))
  refine RetC_1 (resV_c (u:=(V.agg [(iV (((6:Int)))),(iV (0:Int)),(V.sl (List.map cF (([(mst (((nth (f.kids) (1)))) ((a)) ((o))),(Fm.nd (5:Int) (0:Int) [(mst (((nth (f.kids) (0)))) ((a)) ((o))),f])]))))])) rfl (@rfl Blk (bk 1 24 3 [[(iV (((6:Int)))),(iV (0:Int)),(V.sl (List.map cF (([(mst (((nth (f.kids) (1)))) ((a)) ((o))),(Fm.nd (5:Int) (0:Int) [(mst (((nth (f.kids) (0)))) ((a)) ((o))),f])]))))]])) (lB oB rfl rfl)) (fz_agg3 (fz_int ?_) (fz_int ?_) (fz_sl ?_ (fun _=>by simp)))
  · rw [mst_8 (f:=f) (by omega) (by omega)]; rfl
  · rw [mst_8 (f:=f) (by omega) (by omega)]; rfl
  · rw [mst_8 (f:=f) (by omega) (by omega)]; rfl
 refine W_r (R_eql rfl rfl (R_mv rfl (R_e ?_)))
 refine W_if rfl (fun c12=>?_) fun c12=>?_
 ·
  refine W_r (R_fk rfl rfl (R_lk rfl rfl rfl rfl (R_idxu (i:=1) (@rfl V (V.sl (List.map cF (f.kids)))) (@rfl V (iV ((1:Nat):Int))) (by omega) (cF_eq _) rfl (R_load_pp rfl rfl (R_mv rfl (R_mv rfl (R_callk (ih (((nth (f.kids) (1)))) ((a)) ((o)) (Fm.sz_kid (by omega)) (hp.2 _ (by omega)) (Nat.le_trans (Nat.le_of_lt (Fm.sz_kid (by omega))) hz)) rfl ?_)))))))
  refine R_fk rfl rfl (R_lk rfl rfl rfl rfl (R_idxu (i:=0) (@rfl V (V.sl (List.map cF (f.kids)))) (@rfl V (iV ((0:Nat):Int))) (by omega) (cF_eq _) rfl (R_load_pp rfl rfl (R_mv rfl (R_mv rfl (R_callk (ih (((nth (f.kids) (0)))) ((a)) ((o)) (Fm.sz_kid (by omega)) (hp.2 _ (by omega)) (Nat.le_trans (Nat.le_of_lt (Fm.sz_kid (by omega))) hz)) rfl (R_lk rfl rfl rfl rfl ?_)))))))
  refine R_bslice rfl rfl (R_callk (mnode_pure ((6:Int)) ([(mst (((nth (f.kids) (0)))) ((a)) ((o))),f])) (evcons rfl (evcons (sl_F2 (x:=((mst (((nth (f.kids) (0)))) ((a)) ((o))))) (y:=f) rfl) evnil)) (R_bslice rfl rfl (R_callk (mnode_pure ((5:Int)) ([(mst (((nth (f.kids) (1)))) ((a)) ((o))),(Fm.nd (6:Int) (0:Int) [(mst (((nth (f.kids) (0)))) ((a)) ((o))),f])])) (evcons rfl (evcons (sl_F2 (x:=((mst (((nth (f.kids) (1)))) ((a)) ((o))))) (y:=((Fm.nd (6:Int) (0:Int) [(mst (((nth (f.kids) (0)))) ((a)) ((o))),f]))) rfl) evnil)) (R_sk rfl rfl rfl rfl rfl rfl rfl rfl rfl (R_e (W_ret (y1 _ _ ?_)))))))
  refine RetC_1 (resV_c (u:=(V.agg [(iV (((5:Int)))),(iV (0:Int)),(V.sl (List.map cF (([(mst (((nth (f.kids) (1)))) ((a)) ((o))),(Fm.nd (6:Int) (0:Int) [(mst (((nth (f.kids) (0)))) ((a)) ((o))),f])]))))])) rfl (@rfl Blk (bk 1 24 3 [[(iV (((5:Int)))),(iV (0:Int)),(V.sl (List.map cF (([(mst (((nth (f.kids) (1)))) ((a)) ((o))),(Fm.nd (6:Int) (0:Int) [(mst (((nth (f.kids) (0)))) ((a)) ((o))),f])]))))]])) (lB oB rfl rfl)) (fz_agg3 (fz_int ?_) (fz_int ?_) (fz_sl ?_ (fun _=>by simp)))
  · rw [mst_10 (f:=f) (by omega) (by omega)]; rfl
  · rw [mst_10 (f:=f) (by omega) (by omega)]; rfl
  · rw [mst_10 (f:=f) (by omega) (by omega)]; rfl
 refine W_skip (n1 _ _ (.done (W_r (R_fk rfl rfl (R_lk rfl rfl rfl rfl (R_build rfl rfl (R_alloc (i:=8) (n:=0) (m:=3) rfl (congrArg Blk.ver rfl) rfl ?_)))))))
 refine R_sk rfl rfl rfl rfl rfl rfl rfl rfl rfl (R_e (W_seq_seq ?_))
 refine W_seq_g (fun T H=>T 1=(iV (a))∧T 2=(iV (o))∧T 6=(V.mp 6 1 0 0)∧T 8=(V.mp 8 1 0 0)∧T 107=(V.sl (List.map cF (f.kids)))∧T 108=(iV ((f.kids.length:Nat):Int))∧T 109=(iV (0:Int))∧H 3=(bk 1 24 3 [[(iV (f.op)),(iV (f.arg)),(V.sl (List.map cF (f.kids)))]])∧H 6=(bk 1 24 3 [[(iV (0:Int)),(iV (0:Int)),V.nilsl]])∧H 7=(⟨0,false,false,0,0,[]⟩:Blk)∧H 8=(bk 1 24 3 [[(iV (f.op)),(iV (0:Int)),V.nilsl]])∧H 10=(⟨0,false,false,0,0,[]⟩:Blk)∧H 708=(⟨0,false,false,0,0,[]⟩:Blk)∧True) ?_ ?_
 ·
  refine R_fk rfl rfl (R_lk rfl rfl rfl rfl (R_len rfl (R_mv rfl ?_)))
  exact R_nil ⟨rfl,rfl,rfl,rfl,rfl,rfl,rfl,rfl,rfl,rfl,rfl,rfl,rfl,trivial⟩
 intro T H ⟨t1,t2,t6,t8,t107,t108,t109,h3,h6,h7,h8,h10,h708,_⟩
 refine .lazyCell 708 24 3 8 0 2 [(iV (f.op)),(iV (0:Int)),V.nilsl] (by decide) (by rw [h8]; rfl) (by rw [h8]; rfl) rfl (.done ?_)
 refine fork_ (R:=fun T H=>T 1=(iV (a))∧T 2=(iV (o))∧T 6=(V.mp 6 1 0 0)∧T 8=(V.mp 8 1 0 0)∧T 107=(V.sl (List.map cF (f.kids)))∧T 108=(iV ((f.kids.length:Nat):Int))∧T 109=(iV (0:Int))∧H 3=(bk 1 24 3 [[(iV (f.op)),(iV (f.arg)),(V.sl (List.map cF (f.kids)))]])∧H 6=(bk 1 24 3 [[(iV (0:Int)),(iV (0:Int)),V.nilsl]])∧H 7=(⟨0,false,false,0,0,[]⟩:Blk)∧H 8=(bk 1 24 3 [[(iV (f.op)),(iV (0:Int)),(V.ms 708 1 0 (0))]])∧H 10=(⟨0,false,false,0,0,[]⟩:Blk)∧H 708=(bz 1 24 3 [])∧True) ⟨t1,t2,t6,t8,t107,t108,t109,((upd_ne _ _ (by decide)).trans ((upd_ne _ _ (by decide)).trans h3)),((upd_ne _ _ (by decide)).trans ((upd_ne _ _ (by decide)).trans h6)),((upd_ne _ _ (by decide)).trans ((upd_ne _ _ (by decide)).trans h7)),(by rw [upd_same,h8,(congrArg Blk.ver h708)]; rfl),((upd_ne _ _ (by decide)).trans ((upd_ne _ _ (by decide)).trans h10)),(by rw [upd_ne _ _ (by decide),upd_same,(congrArg Blk.ver h708)]),trivial⟩ ?_
 intro T H ⟨t1,t2,t6,t8,t107,t108,t109,h3,h6,h7,h8,h10,h708,_⟩
 refine W_seq_blockg fun Q13 n13 x13 y13 z13=>?_
 refine W_loop (fun mm T H=> ∃ (k:Nat) (w:Nat) (v10:Nat),mm=f.kids.length - k∧T 1=(iV (a))∧T 2=(iV (o))∧T 6=(V.mp 6 1 0 0)∧T 8=(V.mp 8 1 0 0)∧T 107=(V.sl (List.map cF (f.kids)))∧T 108=(iV ((f.kids.length:Nat):Int))∧T 109=(iV ((k:Nat):Int))∧H 3=(bk 1 24 3 [[(iV (f.op)),(iV (f.arg)),(V.sl (List.map cF (f.kids)))]])∧H 6=(bk 1 24 3 [[(iV (0:Int)),(iV (0:Int)),V.nilsl]])∧H 7=(⟨0,false,false,0,0,[]⟩:Blk)∧H 8=(bk 1 24 3 [[(iV (f.op)),(iV (0:Int)),(V.ms 708 w 0 (k))]])∧(H 10).ver=v10∧H 708=(bz w 24 3 (List.map cF ((f.kids.take k).map (fun g=>mst g a o))))∧(k≤f.kids.length)) ?_ ?_
 ·
  refine ⟨_,0,1,0,rfl,t1,t2,t6,t8,t107,t108,(Eq.trans t109 rfl),h3,h6,h7,h8,(congrArg Blk.ver h10),(Eq.trans h708 (by rfl)),?_⟩
  · omega
 intro mm T H ⟨k,w,v10,hmm,t1,t2,t6,t8,t107,t108,t109,h3,h6,h7,h8,h10,h708,hk⟩ Q14 p114 p214 p314
 unfold b24_0
 refine W_r (R_lss t109 t108 (R_e ?_))
 refine W_seq_if rfl (fun c15=>?_) fun c15=>?_
 ·
  refine W_seq_skip (W_seq_blockg fun Q16 n16 x16 y16 z16=>(W_r (R_idxu (i:=k) t107 t109 (by omega) (cF_eq _) rfl (R_load_pp rfl rfl (R_alloc (i:=10) (n:=v10) (m:=3) rfl h10 rfl (R_sk rfl rfl rfl rfl rfl rfl rfl rfl rfl (R_e ?_)))))))
  refine W_t (R_fk t8 h8 (R_lk rfl h8 rfl rfl (R_lk rfl rfl rfl rfl (R_mv t1 (R_mv t2 (R_callk (ih (((nth (f.kids) (k)))) ((a)) ((o)) (Fm.sz_kid (by omega)) (hp.2 _ (by omega)) (Nat.le_trans (Nat.le_of_lt (Fm.sz_kid (by omega))) hz)) rfl (R_bslice rfl rfl ?_)))))))
  refine R_append1 (l:=((f.kids.take k).map (fun g=>mst g a o))) (f:=cF) (x:=((mst (((nth (f.kids) (k)))) ((a)) ((o))))) (@rfl V (V.ms 708 w 0 (k))) h708 (by (simp; omega)) (row_F1 (x:=((mst (((nth (f.kids) (k)))) ((a)) ((o))))) (@rfl V (V.sl [[(iV ((mst (((nth (f.kids) (k)))) ((a)) ((o))).op)),(iV ((mst (((nth (f.kids) (k)))) ((a)) ((o))).arg)),(V.sl (List.map cF ((mst (((nth (f.kids) (k)))) ((a)) ((o))).kids)))]]))) (cF_len _) (cF_one _) (by omega) (by omega) (R_fk t8 h8 (R_sk rfl rfl rfl h8 rfl rfl rfl rfl rfl (R_e (n16 _ _ (.done (W_t (R_addN t109 (@rfl V (iV ((1:Nat):Int))) (by omega) ?_)))))))
  refine R_mv rfl (R_e ?_)
  refine p114 _ _ _ ?_ ⟨(k+1),(w+1),(v10+1),rfl,t1,t2,t6,t8,t107,t108,(Eq.trans (@rfl V (iV ((k+1:Nat):Int))) (by rfl)),h3,h6,h7,(Eq.trans (@rfl Blk (bk 1 24 3 [[(iV (f.op)),(iV (0:Int)),(V.ms 708 (w+1) 0 (k+1))]])) (by rfl)),(congrArg Blk.ver rfl),(Eq.trans (@rfl Blk (bz (w+1) 24 3 (List.map cF ((f.kids.take k).map (fun g=>mst g a o)++[(mst (((nth (f.kids) (k)))) ((a)) ((o)))])))) (by (rw [mapTake (by omega)]; done))),?_⟩
  · omega
  · omega
 refine W_seq_exit (p314 _ _ _ (x13 _ _ (.done (W_r (R_lk t8 h8 rfl rfl (R_sk t6 rfl rfl h6 rfl rfl rfl rfl rfl (R_e ?_)))))))
 refine W_ret ?_
 refine RetC_1 (resV_c (u:=(V.agg [(iV (f.op)),(iV (0:Int)),(V.ms 708 w 0 (k))])) t6 (@rfl Blk (bk 1 24 3 [[(iV (f.op)),(iV (0:Int)),(V.ms 708 w 0 (k))]])) (lB oB rfl rfl)) (fz_agg3 (fz_int ?_) (fz_int ?_) (fz_ms h708 (by simp) (l:=((f.kids.take k).map (fun g=>mst g a o))) rfl (by (simp; omega)) (fun _=>by simp) ?_))
 · rw [mst_n (f:=f) (by omega)]; rfl
 · rw [mst_n (f:=f) (by omega)]; rfl
 · rw [mst_n (f:=f) (by omega),show k=f.kids.length by omega,List.take_length]; rfl
theorem after_pure (f:Fm) (a o:Int) (hok:okF f=true) (hz:f.sz≤4096):PureC Tryd.prog 24 [(V.agg [(iV (f.op)),(iV (f.arg)),(V.sl (List.map cF (f.kids)))]),(iV (a)),(iV (o))] (V.agg [(iV ((mst f a o).op)),(iV ((mst f a o).arg)),(V.sl (List.map cF ((mst f a o).kids)))]):=by
  have key: ∀ (mm:Nat) (f:Fm) (a o:Int),f.sz < mm→okF f=true→f.sz≤4096→PureC Tryd.prog 24 [(V.agg [(iV (f.op)),(iV (f.arg)),(V.sl (List.map cF (f.kids)))]),(iV (a)),(iV (o))] (V.agg [(iV ((mst f a o).op)),(iV ((mst f a o).arg)),(V.sl (List.map cF ((mst f a o).kids)))]):=by
    intro mm
    induction mm with
    |zero=>intro f a o hlt; exact absurd hlt (Nat.not_lt_zero _)
    | succ mm ih =>
      intro f a o hlt hok hz
      exact after_pure_step f a o hok hz fun f2 a2 o2 hlt2=>ih f2 a2 o2 (by omega)
  exact key (f.sz+1) f a o (Nat.lt_succ_self _) hok hz
theorem mstep_pure (f:Fm) (a o:Int):PureC Tryd.prog 11 [(V.agg [(iV (f.op)),(iV (f.arg)),(V.sl (List.map cF (f.kids)))]),(iV (a)),(iV (o))] (V.tup [(V.agg [(iV ((stM f a o).1.op)),(iV ((stM f a o).1.arg)),(V.sl (List.map cF ((stM f a o).1.kids)))]),(iV ((stM f a o).2))]):=by
 refine pW Tryd.func11 s11_ok fun hB=>?_
 unfold s11
 dsimp only
 refine W_r (R_box (i:=3) (n:=0) (m:=3) (cs:=[(iV (f.op)),(iV (f.arg)),(V.sl (List.map cF (f.kids)))]) rfl (congrArg Blk.ver rfl) rfl rfl rfl (R_alloc (i:=6) (n:=0) (m:=3) rfl (congrArg Blk.ver rfl) rfl (R_mv rfl (R_e (W_seq_seq (W_r (R_lk rfl rfl rfl rfl ?_)))))))
 refine R_callk (fvalid_pure f) rfl (R_mv rfl (R_e (W_seq_seq (W_r (R_mv rfl (R_neq rfl rfl (R_e ?_)))))))
 refine W_seq_if rfl (fun c1=>?_) fun c1=>?_
 ·
  have d1:=stM_e (a:=a) (o:=o) c1
  refine W_seq_seq (W_r (R_build rfl rfl (R_mv rfl (R_sk rfl rfl rfl rfl rfl rfl rfl rfl rfl (R_mv rfl (R_e (W_seq_ret ?_)))))))
  refine RetC_2 (resV_c (u:=(V.agg [(iV (0:Int)),(iV (0:Int)),V.nilsl])) rfl (@rfl Blk (bk 1 24 3 [[(iV (0:Int)),(iV (0:Int)),V.nilsl]])) (lB oB rfl rfl)) (resV_t (@rfl V (iV (fval f)))) (fz_agg3 (fz_int ?_) (fz_int ?_) (fz_nil ?_)) (fz_int ?_)
  · rw [d1]; rfl
  · rw [d1]; rfl
  · rw [d1]; rfl
  · rw [d1]
 have d0:=c1
 refine W_seq_skip (W_seq_seq (W_r (R_mv rfl (R_lss rfl rfl (R_mv rfl ?_)))))
 refine Ops_seg 3 (fun T H=>T 1=(iV (a))∧T 2=(iV (o))∧T 3=(V.mp 3 1 0 0)∧T 6=(V.mp 6 1 0 0)∧T 22=(V.bool (decide (((a) < (0:Int))∨((64:Int)≤(a)))))∧H 3=(bk 1 24 3 [[(iV (f.op)),(iV (f.arg)),(V.sl (List.map cF (f.kids)))]])∧H 6=(bk 1 24 3 [[(iV (0:Int)),(iV (0:Int)),V.nilsl]])∧H 9=(⟨0,false,false,0,0,[]⟩:Blk)∧True) ?_ ?_
 ·
  by_cases g2:(a) < (0:Int)
  ·
   refine G_n (edT g2 rfl) (G_n (edT g2 rfl) (R_pickT (edT g2 rfl) rfl ?_))
   exact ⟨rfl,rfl,rfl,rfl,(dec_orT g2),rfl,rfl,rfl,trivial⟩
  ·
   refine G_yes (edF g2 rfl) (R_mv rfl (G_yes (edF g2 rfl) (R_geq rfl rfl (R_pickF (edF g2 rfl) rfl ?_))))
   exact ⟨rfl,rfl,rfl,rfl,(dec_orF g2),rfl,rfl,rfl,trivial⟩
 intro T H ⟨t1,t2,t3,t6,t22,h3,h6,h9,_⟩
 refine R_mv t22 ?_
 refine Ops_seg 3 (fun T H=>T 1=(iV (a))∧T 2=(iV (o))∧T 3=(V.mp 3 1 0 0)∧T 6=(V.mp 6 1 0 0)∧T 26=(V.bool (decide ((((a) < (0:Int))∨((64:Int)≤(a)))∨((o) < (0:Int)))))∧H 3=(bk 1 24 3 [[(iV (f.op)),(iV (f.arg)),(V.sl (List.map cF (f.kids)))]])∧H 6=(bk 1 24 3 [[(iV (0:Int)),(iV (0:Int)),V.nilsl]])∧H 9=(⟨0,false,false,0,0,[]⟩:Blk)∧True) ?_ ?_
 ·
  by_cases g3:((a) < (0:Int))∨((64:Int)≤(a))
  ·
   refine G_n (edT g3 rfl) (G_n (edT g3 rfl) (R_pickT (edT g3 rfl) rfl ?_))
   exact ⟨t1,t2,t3,t6,(dec_orT g3),h3,h6,h9,trivial⟩
  ·
   refine G_yes (edF g3 rfl) (R_mv t2 (G_yes (edF g3 rfl) (R_lss rfl rfl (R_pickF (edF g3 rfl) rfl ?_))))
   exact ⟨t1,t2,t3,t6,(dec_orF g3),h3,h6,h9,trivial⟩
 intro T H ⟨t1,t2,t3,t6,t26,h3,h6,h9,_⟩
 refine R_mv t26 ?_
 refine Ops_seg 3 (fun T H=>T 1=(iV (a))∧T 2=(iV (o))∧T 3=(V.mp 3 1 0 0)∧T 6=(V.mp 6 1 0 0)∧T 30=(V.bool (decide (((((a) < (0:Int))∨((64:Int)≤(a)))∨((o) < (0:Int)))∨((1048576:Int) < (o)))))∧H 3=(bk 1 24 3 [[(iV (f.op)),(iV (f.arg)),(V.sl (List.map cF (f.kids)))]])∧H 6=(bk 1 24 3 [[(iV (0:Int)),(iV (0:Int)),V.nilsl]])∧H 9=(⟨0,false,false,0,0,[]⟩:Blk)∧True) ?_ ?_
 ·
  by_cases g4:(((a) < (0:Int))∨((64:Int)≤(a)))∨((o) < (0:Int))
  ·
   refine G_n (edT g4 rfl) (G_n (edT g4 rfl) (R_pickT (edT g4 rfl) rfl ?_))
   exact ⟨t1,t2,t3,t6,(dec_orT g4),h3,h6,h9,trivial⟩
  ·
   refine G_yes (edF g4 rfl) (R_mv t2 (G_yes (edF g4 rfl) (R_gtr rfl rfl (R_pickF (edF g4 rfl) rfl ?_))))
   exact ⟨t1,t2,t3,t6,(dec_orF g4),h3,h6,h9,trivial⟩
 intro T H ⟨t1,t2,t3,t6,t30,h3,h6,h9,_⟩
 refine R_e ?_
 refine W_seq_if t30 (fun c5=>?_) fun c5=>?_
 ·
  have d1:=stM_r (a:=a) (o:=o) d0 (by omega)
  refine W_seq_seq (W_r (R_build rfl rfl (R_sk t6 rfl rfl h6 rfl rfl rfl rfl rfl (R_mv rfl (R_e (W_seq_ret ?_))))))
  refine RetC_2 (resV_c (u:=(V.agg [(iV (0:Int)),(iV (0:Int)),V.nilsl])) t6 (@rfl Blk (bk 1 24 3 [[(iV (0:Int)),(iV (0:Int)),V.nilsl]])) (lB oB rfl rfl)) (resV_t (@rfl V (iV (2:Int)))) (fz_agg3 (fz_int ?_) (fz_int ?_) (fz_nil ?_)) (fz_int ?_)
  · rw [d1]; rfl
  · rw [d1]; rfl
  · rw [d1]; rfl
  · rw [d1]
 have d2: ¬(a < 0∨64≤a∨o < 0∨1048576 < o):=by omega
 refine W_seq_skip (W_r (R_lk t3 h3 rfl rfl (R_callk (simplify_pure f) rfl (R_mv rfl (R_ext rfl rfl (R_ext rfl rfl (R_alloc (i:=9) (n:=0) (m:=3) rfl (congrArg Blk.ver h9) rfl ?_)))))))
 refine R_sk rfl rfl rfl rfl rfl rfl rfl rfl rfl (R_mv rfl (R_e (W_seq_seq (W_r (R_mv rfl (R_neq rfl rfl (R_e ?_)))))))
 refine W_seq_if rfl (fun c6=>?_) fun c6=>?_
 ·
  have d1:=stM_s d0 d2 c6
  refine W_seq_seq (W_r (R_build rfl rfl (R_mv rfl (R_sk t6 rfl rfl h6 rfl rfl rfl rfl rfl (R_mv rfl (R_e (W_seq_ret ?_)))))))
  refine RetC_2 (resV_c (u:=(V.agg [(iV (0:Int)),(iV (0:Int)),V.nilsl])) t6 (@rfl Blk (bk 1 24 3 [[(iV (0:Int)),(iV (0:Int)),V.nilsl]])) (lB oB rfl rfl)) (resV_t (@rfl V (iV ((simp_ f).2)))) (fz_agg3 (fz_int ?_) (fz_int ?_) (fz_nil ?_)) (fz_int ?_)
  · rw [d1]; rfl
  · rw [d1]; rfl
  · rw [d1]; rfl
  · rw [d1]
 have d1:=stM_g d0 d2 c6
 have v1:=simp_val c6
 have v2:=simp_nn d0 c6
 refine W_seq_skip (W_r (R_lk rfl rfl rfl rfl (R_mv t1 (R_mv t2 (R_callk (after_pure ((simp_ f).1) ((a)) ((o)) v2.1 (fval_sz v1)) rfl (R_callk (checked_pure ((mst ((simp_ f).1) ((a)) ((o)))) (mst_ok _ a o v2.1 v2.2).1 (mst_sz2 v2.1 (fval_sz v1))) rfl (R_ext rfl rfl ?_)))))))
 refine R_ext rfl rfl (R_sk t6 rfl rfl h6 rfl rfl rfl rfl rfl (R_mv rfl (R_e (W_ret ?_))))
 refine RetC_2 (resV_c (u:=(V.agg [(iV ((chk ((mst ((simp_ f).1) ((a)) ((o))))).1.op)),(iV ((chk ((mst ((simp_ f).1) ((a)) ((o))))).1.arg)),(V.sl (List.map cF ((chk ((mst ((simp_ f).1) ((a)) ((o))))).1.kids)))])) t6 (@rfl Blk (bk 1 24 3 [[(iV ((chk ((mst ((simp_ f).1) ((a)) ((o))))).1.op)),(iV ((chk ((mst ((simp_ f).1) ((a)) ((o))))).1.arg)),(V.sl (List.map cF ((chk ((mst ((simp_ f).1) ((a)) ((o))))).1.kids)))]])) (lB oB rfl rfl)) (resV_t (@rfl V (iV ((chk ((mst ((simp_ f).1) ((a)) ((o))))).2)))) (fz_agg3 (fz_int ?_) (fz_int ?_) (fz_sl ?_ (fun _=>by simp))) (fz_int ?_)
 · rw [d1]
 · rw [d1]
 · rw [d1]
 · rw [d1]
def s12:SF:=⟨12,[.tmp 2,.tmp 3],.seq (.reg [sO 1 (.box 24 3 (.t 0)),sO 2 (.mv (.c (.bool false))),qI 3 0]) (.seq (.seq (.reg [qL 5 3 1,sO 6 (.call false 21 [.t 5]),qM 4 6]) (.seq (.reg [qM 7 4,qC 8 .neq 7 0]) (.cond (.t 8) (.seq (.reg [qM 9 4,sO 2 (.mv (.c (.bool false))),qM 3 9]) (.ret)) (.skip)))) (.seq (.reg [qL 10 3 1,sO 11 (.call false 25 [.t 10]),qM 2 11,qI 3 0]) (.ret)))⟩
theorem s12_ok:slimF Tryd.prog ⟨[32,48,55,93,94,95,100],[],[],[]⟩ Tryd.f12=some s12:=by kernel_rfl
def r25_6:List SO:=[
 qF 10 2 1,
 ql 11 10,
 sO 12 (.idx 3 (.t 11) (.c (.int .i64 0))),
 qL 13 3 12,
 sO 14 (.call false 25 [.t 13]),
 sO 15 (.un .not (.t 14)),
 qM 2 15]
def r25_8:List SO:=[
 qF 18 2 1,
 ql 19 18,
 sO 20 (.call false 39 [.t 19,.c (.fn 25 [] [])]),
 qF 21 2 1,
 ql 22 21,
 qN 23 22,
 qP 24 .eql 20 23,
 qM 2 24]
def s25:SF:=⟨39,[.tmp 2],.seq (.reg [sO 1 (.box 24 3 (.t 0)),sO 2 (.mv (.c (.bool false)))]) (.seq (.seq (.reg [qF 3 0 1,ql 4 3]) (.block 0 (.seq (.seq (.reg [qC 6 .eql 4 1,qM 5 6]) (.cond (.t 5) (.skip) (.reg [qC 7 .eql 4 9,qM 5 7]))) (.cond (.t 5) (.seq (.reg [sO 2 (.mv (.c (.bool true)))]) (.ret)) (.seq (.reg [qC 9 .eql 4 4,qM 8 9]) (.cond (.t 8) (.seq (.reg r25_6) (.ret)) (.seq (.reg [qC 17 .eql 4 5,qM 16 17]) (.cond (.t 16) (.seq (.reg r25_8) (.ret)) (.seq (.reg [qC 26 .eql 4 6,qM 25 26]) (.cond (.t 25) (.seq (.reg [qF 27 2 1,ql 28 27,sO 29 (.call false 39 [.t 28,.c (.fn 25 [] [])]),qC 30 .gtr 29 0,qM 2 30]) (.ret)) (.seq (.seq (.reg [qC 32 .eql 4 8,qM 31 32]) (.cond (.t 31) (.skip) (.reg [qC 33 .eql 4 10,qM 31 33]))) (.cond (.t 31) (.seq (.reg [qF 34 2 1,ql 35 34,sO 36 (.idx 3 (.t 35) (.c (.int .i64 1))),qL 37 3 36,sO 38 (.call false 25 [.t 37]),qM 2 38]) (.ret)) (.skip))))))))))))) (.seq (.reg [sO 2 (.mv (.c (.bool false)))]) (.ret)))⟩
theorem s25_ok:slimF Tryd.prog ⟨[32,48,55,93,94,95,100],[],[],[]⟩ Tryd.f25=some s25:=by kernel_rfl
theorem ends_pure_step (f:Fm) (hf:okF f=true) (hz:f.sz≤4096) (ih: ∀ (g:Fm),g.sz < f.sz→okF g=true→g.sz≤4096→PureC Tryd.prog 25 [(V.agg [(iV (g.op)),(iV (g.arg)),(V.sl (List.map cF (g.kids)))])] (V.bool (sat t0 g 0))):PureC Tryd.prog 25 [(V.agg [(iV (f.op)),(iV (f.arg)),(V.sl (List.map cF (f.kids)))])] (V.bool (sat t0 f 0)):=by
 refine pW Tryd.func25 s25_ok fun hB=>?_
 unfold s25
 dsimp only
 have hp:=okF_parts hf
 have hr:=rgt_ok hp.1
 have hln:=f.sz_len
 refine W_r (R_box (i:=1) (n:=0) (m:=3) (cs:=[(iV (f.op)),(iV (f.arg)),(V.sl (List.map cF (f.kids)))]) rfl (congrArg Blk.ver rfl) rfl rfl rfl (R_mv rfl (R_e (W_seq_seq (W_r (R_fk rfl rfl (R_lk rfl rfl rfl rfl ?_)))))))
 refine R_e (W_seq_blockg fun Q1 n1 x1 y1 z1=>(W_seq_seq (W_r (R_eql rfl rfl (R_mv rfl (R_e ?_))))))
 refine W_seq_if rfl (fun c2=>?_) fun c2=>?_
 ·
  refine W_seq_skip ?_
  refine W_if rfl (fun c3=>?_) fun c3=>?_
  ·
   refine W_r (R_mv rfl (R_e (W_ret (y1 _ _ ?_))))
   refine Ret_1 (@rfl V (V.bool true)) (fz_bool ?_)
   · rw [end_y (by omega)]
  · exact (c3 c2).elim
 refine W_r (R_eql rfl rfl (R_mv rfl (R_e ?_)))
 refine W_if rfl (fun c4=>?_) fun c4=>?_
 ·
  refine W_r (R_mv rfl (R_e (W_ret (y1 _ _ ?_))))
  refine Ret_1 (@rfl V (V.bool true)) (fz_bool ?_)
  · rw [end_y (by omega)]
 refine W_r (R_eql rfl rfl (R_mv rfl (R_e ?_)))
 refine W_if rfl (fun c5=>?_) fun c5=>?_
 ·
  refine W_r (R_fk rfl rfl (R_lk rfl rfl rfl rfl (R_idxu (i:=0) (@rfl V (V.sl (List.map cF (f.kids)))) (@rfl V (iV ((0:Nat):Int))) (by omega) (cF_eq _) rfl (R_load_pp rfl rfl (R_callk (ih (((nth (f.kids) (0)))) (Fm.sz_kid (by omega)) (hp.2 _ (by omega)) (Nat.le_trans (Nat.le_of_lt (Fm.sz_kid (by omega))) hz)) rfl (R_notb rfl (R_mv rfl ?_)))))))
  refine R_e (W_ret (y1 _ _ ?_))
  refine Ret_1 (@rfl V (V.bool ((!sat t0 (((nth (f.kids) (0)))) 0)))) (fz_bool ?_)
  · rw [end_4 hf (by omega)]
 refine W_r (R_eql rfl rfl (R_mv rfl (R_e ?_)))
 refine W_if rfl (fun c6=>?_) fun c6=>?_
 ·
  refine W_r (R_fk rfl rfl (R_lk rfl rfl rfl rfl (R_callk (cntf_pure (fun g=>sat t0 g 0) f.kids 25 ([]) (by simp) (by simp) (fun k h=>ih (nth f.kids k) (Fm.sz_kid h) (hp.2 k h) (Nat.le_trans (Nat.le_of_lt (Fm.sz_kid h)) hz)) (by omega)) rfl (R_fk rfl rfl (R_lk rfl rfl rfl rfl (R_len rfl (R_eql rfl rfl ?_)))))))
  refine R_mv rfl (R_e (W_ret (y1 _ _ ?_)))
  refine Ret_1 (@rfl V (V.bool (decide (((cntP (fun g=>sat t0 g 0) f.kids:Nat):Int)=((f.kids.length:Nat):Int))))) (fz_bool ?_)
  · rw [end_5 (by omega),← cntP_all]
 refine W_r (R_eql rfl rfl (R_mv rfl (R_e ?_)))
 refine W_if rfl (fun c7=>?_) fun c7=>?_
 ·
  refine W_r (R_fk rfl rfl (R_lk rfl rfl rfl rfl (R_callk (cntf_pure (fun g=>sat t0 g 0) f.kids 25 ([]) (by simp) (by simp) (fun k h=>ih (nth f.kids k) (Fm.sz_kid h) (hp.2 k h) (Nat.le_trans (Nat.le_of_lt (Fm.sz_kid h)) hz)) (by omega)) rfl (R_gtr rfl rfl (R_mv rfl (R_e (W_ret ?_)))))))
  refine y1 _ _ ?_
  refine Ret_1 (@rfl V (V.bool (decide ((0:Int) < ((cntP (fun g=>sat t0 g 0) f.kids:Nat):Int))))) (fz_bool ?_)
  · rw [end_6 (by omega),← cntP_any]
 refine W_seq_seq (W_r (R_eql rfl rfl (R_mv rfl (R_e ?_))))
 refine W_seq_if rfl (fun c8=>?_) fun c8=>?_
 ·
  refine W_seq_skip ?_
  refine W_if rfl (fun c9=>?_) fun c9=>?_
  ·
   refine W_r (R_fk rfl rfl (R_lk rfl rfl rfl rfl (R_idxu (i:=1) (@rfl V (V.sl (List.map cF (f.kids)))) (@rfl V (iV ((1:Nat):Int))) (by omega) (cF_eq _) rfl (R_load_pp rfl rfl (R_callk (ih (((nth (f.kids) (1)))) (Fm.sz_kid (by omega)) (hp.2 _ (by omega)) (Nat.le_trans (Nat.le_of_lt (Fm.sz_kid (by omega))) hz)) rfl (R_mv rfl (R_e ?_)))))))
   refine W_ret (y1 _ _ ?_)
   refine Ret_1 (@rfl V (V.bool (sat t0 (((nth (f.kids) (1)))) 0))) (fz_bool ?_)
   · rw [end_u hf (by omega)]
  · exact (c9 c8).elim
 refine W_r (R_eql rfl rfl (R_mv rfl (R_e ?_)))
 refine W_if rfl (fun c10=>?_) fun c10=>?_
 ·
  refine W_r (R_fk rfl rfl (R_lk rfl rfl rfl rfl (R_idxu (i:=1) (@rfl V (V.sl (List.map cF (f.kids)))) (@rfl V (iV ((1:Nat):Int))) (by omega) (cF_eq _) rfl (R_load_pp rfl rfl (R_callk (ih (((nth (f.kids) (1)))) (Fm.sz_kid (by omega)) (hp.2 _ (by omega)) (Nat.le_trans (Nat.le_of_lt (Fm.sz_kid (by omega))) hz)) rfl (R_mv rfl (R_e ?_)))))))
  refine W_ret (y1 _ _ ?_)
  refine Ret_1 (@rfl V (V.bool (sat t0 (((nth (f.kids) (1)))) 0))) (fz_bool ?_)
  · rw [end_u hf (by omega)]
 refine W_skip (n1 _ _ (.done (W_r (R_mv rfl (R_e (W_ret ?_))))))
 refine Ret_1 (@rfl V (V.bool false)) (fz_bool ?_)
 · rw [end_n hf (by omega) (by omega) (by omega) (by omega) (by omega)]
theorem ends_pure (f:Fm) (hf:okF f=true) (hz:f.sz≤4096):PureC Tryd.prog 25 [(V.agg [(iV (f.op)),(iV (f.arg)),(V.sl (List.map cF (f.kids)))])] (V.bool (sat t0 f 0)):=by
  have key: ∀ (mm:Nat) (f:Fm),f.sz < mm→okF f=true→f.sz≤4096→PureC Tryd.prog 25 [(V.agg [(iV (f.op)),(iV (f.arg)),(V.sl (List.map cF (f.kids)))])] (V.bool (sat t0 f 0)):=by
    intro mm
    induction mm with
    |zero=>intro f hlt; exact absurd hlt (Nat.not_lt_zero _)
    | succ mm ih =>
      intro f hlt hf hz
      exact ends_pure_step f hf hz fun f2 hlt2=>ih f2 (by omega)
  exact key (f.sz+1) f (Nat.lt_succ_self _) hf hz
theorem mends_pure (f:Fm):PureC Tryd.prog 12 [(V.agg [(iV (f.op)),(iV (f.arg)),(V.sl (List.map cF (f.kids)))])] (V.tup [(V.bool (hoB t0 f)),(iV (hoE t0 f))]):=by
 refine pW Tryd.func12 s12_ok fun hB=>?_
 unfold s12
 dsimp only
 refine W_r (R_box (i:=1) (n:=0) (m:=3) (cs:=[(iV (f.op)),(iV (f.arg)),(V.sl (List.map cF (f.kids)))]) rfl (congrArg Blk.ver rfl) rfl rfl rfl (R_mv rfl (R_mv rfl (R_e (W_seq_seq (W_r (R_lk rfl rfl rfl rfl ?_)))))))
 refine R_callk (fvalid_pure f) rfl (R_mv rfl (R_e (W_seq_seq (W_r (R_mv rfl (R_neq rfl rfl (R_e ?_)))))))
 refine W_seq_if rfl (fun c1=>?_) fun c1=>?_
 ·
  have h0:hoE t0 f=fval f:=if_pos c1
  have hb0:hoB t0 f=false:=by unfold hoB; rw [h0,decide_eq_false (by omega)]; rfl
  refine W_seq_seq (W_r (R_mv rfl (R_mv rfl (R_mv rfl (R_e (W_seq_ret ?_))))))
  refine Ret_2 (@rfl V (V.bool false)) (@rfl V (iV (fval f))) (fz_bool ?_) (fz_int ?_)
  · rw [hb0]
  · omega
 have h1:fval f=0:=by omega
 have h0:hoE t0 f=0:=by unfold hoE; rw [if_neg (by omega),if_neg (by decide),if_neg (by decide)]
 have hb0:hoB t0 f=sat t0 f 0:=by unfold hoB; rw [h0]; rfl
 refine W_seq_skip (W_r (R_lk rfl rfl rfl rfl (R_callk (ends_pure f (fval_ok h1) (fval_sz h1)) rfl (R_mv rfl (R_mv rfl (R_e (W_ret ?_)))))))
 refine Ret_2 (@rfl V (V.bool (sat t0 f 0))) (@rfl V (iV (0:Int))) (fz_bool ?_) (fz_int ?_)
 · rw [hb0]
 · omega
def r15_4:List SO:=[
 qM 27 1,
 qC 28 .lss 27 1,
 qM 29 28,
 ⟨some (29,false),some 30,.mv (.t 1)⟩,
 ⟨some (29,false),some 31,.bin .gtr (.t 30) (.c (.int .i64 64))⟩,
 sO 32 (.pick (.t 29) (.c (.bool true)) (.t 31)),
 qM 33 32,
 ⟨some (33,false),some 34,.mv (.t 2)⟩,
 ⟨some (33,false),some 35,.bin .lss (.t 34) (.c (.int .i64 1))⟩,
 sO 36 (.pick (.t 33) (.c (.bool true)) (.t 35)),
 qM 37 36,
 ⟨some (37,false),some 38,.mv (.t 2)⟩,
 ⟨some (37,false),some 39,.mv (.t 1)⟩,
 ⟨some (37,false),some 40,.bin .quo (.c (.int .i64 1024)) (.t 39)⟩,
 ⟨some (37,false),some 41,.bin .gtr (.t 38) (.t 40)⟩,
 sO 42 (.pick (.t 37) (.c (.bool true)) (.t 41))]
def r15_6:List SO:=[
 qL 45 3 3,
 sO 46 (.call false 9 [.t 45]),
 qM 44 46,
 qE 47 44 0,
 qE 48 44 1,
 sO 9 (.alloc 24 [.int .i64 0,.int .i64 0,.nilsl]),
 sN (.store 3 (.t 9) (.t 47)),
 qM 10 48]
def r15_15:List SO:=[
 qF 69 3 11,
 ql 70 69,
 qM 71 12,
 qM 72 14,
 qA 73 3 71 72,
 qL 74 3 73,
 sO 75 (.call false 25 [.t 74]),
 sO 76 (.bslice 4 1 false [.bool false] 1 [(0,.t 75)]),
 sO 77 (.append 4 1 1 (.t 70) (.t 76)),
 qF 78 3 11,
 sN (.store 1 (.t 78) (.t 77))]
def r15_20:List SO:=[
 qM 88 12,
 qM 89 14,
 qA 90 3 88 89,
 qL 91 3 90,
 qM 92 16,
 qM 93 2,
 qP 94 .quo 92 93,
 qM 95 16,
 qM 96 2,
 qP 97 .rem 95 96,
 sO 98 (.call false 11 [.t 91,.t 94,.t 97]),
 qM 87 98,
 qE 99 87 0,
 qE 100 87 1,
 sO 17 (.alloc 24 [.int .i64 0,.int .i64 0,.nilsl]),
 sN (.store 3 (.t 17) (.t 99)),
 qM 18 100]
def r15_23:List SO:=[
 qM 106 13,
 qL 107 3 17,
 sO 108 (.call false 27 [.t 107]),
 sO 109 (.mlook 0 true (.int .i64 0) (.t 106) (.t 108)),
 qM 105 109,
 qE 110 105 0,
 qE 111 105 1,
 qM 19 110,
 qM 20 111]
def b15_1:SC:=.seq (.reg [qP 85 .lss 84 83]) (.seq (.cond (.t 85) (.skip) (.exit 2)) (.seq (.block 3 (.seq (.reg [qM 86 84,qM 16 86]) (.seq (.dreg [17] r15_20) (.seq (.seq (.reg [qM 101 18,qC 102 .neq 101 0]) (.cond (.t 102) (.seq (.reg [sO 103 (.build [.int .i64 0,.int .i64 0,.nilsl,.nilsl] []),qM 104 18,sN (.store 4 (.t 6) (.t 103)),qM 7 104]) (.ret)) (.skip))) (.seq (.reg r15_23) (.seq (.seq (.reg [qM 112 20,sO 113 (.un .not (.t 112))]) (.cond (.t 113) (.seq (.reg [qM 114 12,qN 115 114,qM 19 115]) (.seq (.seq (.reg [qM 116 19,qC 117 .geq 116 128]) (.cond (.t 117) (.seq (.reg [sO 118 (.build [.int .i64 0,.int .i64 0,.nilsl,.nilsl] []),sN (.store 4 (.t 6) (.t 118)),qI 7 11]) (.ret)) (.skip))) (.seq (.reg [qM 119 13,qL 120 3 17,sO 121 (.call false 27 [.t 120]),qM 122 19,sN (.mset 0 (.t 119) (.t 121) (.t 122))]) (.reg [qM 123 12,qL 124 3 17,sO 125 (.bslice 24 3 false [.int .i64 0,.int .i64 0,.nilsl] 1 [(0,.t 124)]),sO 126 (.append 24 3 40 (.t 123) (.t 125)),qM 12 126])))) (.skip))) (.reg [qM 127 15,qM 128 19,sO 129 (.bslice 3 1 false [.int .i64 0] 1 [(0,.t 128)]),sO 130 (.append 3 1 8 (.t 127) (.t 129)),qM 15 130]))))))) (.reg [qC 131 .add 84 1,qM 84 131])))
def r15_32:List SO:=[
 qF 132 2 11,
 ql 133 132,
 qM 134 15,
 sO 135 (.bslice 25 1 false [.nilsl] 1 [(0,.t 134)]),
 sO 136 (.append 25 1 24 (.t 133) (.t 135)),
 qF 137 2 11,
 sN (.store 1 (.t 137) (.t 136))]
def b15_0:SC:=.seq (.seq (.reg [qM 63 14,qM 64 12,qN 65 64,qP 66 .lss 63 65]) (.cond (.t 66) (.skip) (.exit 0))) (.seq (.block 1 (.seq (.reg r15_15) (.seq (.reg [qF 79 0 11,ql 80 79,sO 81 (.mks 3 1 8 [.int .i64 0] (.c (.int .i64 0)) (.t 80)),qM 15 81]) (.seq (.seq (.reg [qF 82 0 11,ql 83 82,qI 84 0]) (.block 2 (.loop b15_1))) (.reg r15_32))))) (.reg [qM 67 14,qC 68 .add 67 1,qM 14 68]))
def s15:SF:=⟨139,[.cell 6 true 4,.tmp 7],.seq (.reg [sO 3 (.box 24 3 (.t 0)),sO 6 (.alloc 45 [.int .i64 0,.int .i64 0,.nilsl,.nilsl]),qI 7 0]) (.seq (.seq (.reg [qL 21 3 3,sO 22 (.call false 21 [.t 21]),qM 8 22]) (.seq (.reg [qM 23 8,qC 24 .neq 23 0]) (.cond (.t 24) (.seq (.reg [sO 25 (.build [.int .i64 0,.int .i64 0,.nilsl,.nilsl] []),qM 26 8,sN (.store 4 (.t 6) (.t 25)),qM 7 26]) (.ret)) (.skip)))) (.seq (.seq (.reg r15_4) (.cond (.t 42) (.seq (.reg [sO 43 (.build [.int .i64 0,.int .i64 0,.nilsl,.nilsl] []),sN (.store 4 (.t 6) (.t 43)),qI 7 2]) (.ret)) (.skip))) (.seq (.reg r15_6) (.seq (.seq (.reg [qM 49 10,qC 50 .neq 49 0]) (.cond (.t 50) (.seq (.reg [sO 51 (.build [.int .i64 0,.int .i64 0,.nilsl,.nilsl] []),qM 52 10,sN (.store 4 (.t 6) (.t 51)),qM 7 52]) (.ret)) (.skip))) (.seq (.reg [qM 53 1,qM 54 2,qP 55 .mul 53 54,sO 56 (.build [.int .i64 0,.int .i64 0,.nilsl,.nilsl] [(0,1,.t 55)]),sO 11 (.alloc 45 [.int .i64 0,.int .i64 0,.nilsl,.nilsl]),sN (.store 4 (.t 11) (.t 56))]) (.seq (.reg [qL 57 3 9,sO 58 (.bslice 24 3 true [.int .i64 0,.int .i64 0,.nilsl] 1 [(0,.t 57)]),qM 12 58]) (.seq (.reg [sO 59 (.mkmap),qL 60 3 9,sO 61 (.call false 27 [.t 60]),sN (.mset 0 (.t 59) (.t 61) (.c (.int .i64 0))),qM 62 59,qM 13 62]) (.seq (.seq (.reg [qI 14 0]) (.block 0 (.loop b15_0))) (.seq (.reg [qL 138 4 11,sN (.store 4 (.t 6) (.t 138)),qI 7 0]) (.ret))))))))))⟩
theorem s15_ok:slimF Tryd.prog ⟨[32,48,55,93,94,95,100],[58],[],[]⟩ Tryd.f15=some s15:=by kernel_rfl
def r27_1:List SO:=[
 qF 6 0 1,
 ql 7 6,
 sO 8 (.call false 41 [.t 7]),
 sO 9 (.sbin .add (.t 8) (.c (.str [46]))),
 qF 10 1 1,
 ql 11 10,
 sO 12 (.call false 41 [.t 11]),
 sO 13 (.sbin .add (.t 9) (.t 12)),
 sO 14 (.sbin .add (.t 13) (.c (.str [40]))),
 qM 3 14]
def b27_0:SC:=.seq (.reg [qP 19 .lss 18 17]) (.seq (.cond (.t 19) (.skip) (.exit 0)) (.seq (.block 1 (.seq (.reg [qA 20 3 16 18,qL 21 3 20,sO 5 (.alloc 24 [.int .i64 0,.int .i64 0,.nilsl]),sN (.store 3 (.t 5) (.t 21))]) (.reg [qM 22 3,qL 23 3 5,sO 24 (.call false 27 [.t 23]),sO 25 (.sbin .add (.t 22) (.t 24)),qM 3 25]))) (.reg [qC 26 .add 18 1,qM 18 26])))
def s27:SF:=⟨29,[.tmp 2],.seq (.reg [sO 1 (.box 24 3 (.t 0)),sO 2 (.mv (.c (.str [])))]) (.seq (.reg r27_1) (.seq (.seq (.reg [qF 15 2 1,ql 16 15,qN 17 16,qI 18 0]) (.block 0 (.loop b27_0))) (.seq (.reg [qM 27 3,sO 28 (.sbin .add (.t 27) (.c (.str [41]))),qM 2 28]) (.ret))))⟩
theorem s27_ok:slimF Tryd.prog ⟨[32,48,55,93,94,95,100],[],[],[]⟩ Tryd.f27=some s27:=by kernel_rfl
end Go.Proofs.YteehaobohaecmaaDoor
namespace Go.Proofs.YteehaobohaecmaaDoor
open Go Go.Lib
theorem dec_rng (u:Nat): ∀ c∈decDigits u,48≤c.toNat∧c.toNat≤57:=by
  induction u using Nat.strongRecOn with
  | _ u ih =>
    intro c hc
    have one: ∀ i,i < 10→ ∀ c,c=UInt8.ofNat (48+i)→48≤c.toNat∧c.toNat≤57:=fun i hi c e=>by
      rw [e,UInt8.toNat_ofNat']; omega
    rw [decDigits] at hc
    split at hc
    · rename_i h
      exact one u h c (by simpa using hc)
    · rename_i h
      rcases List.mem_append.1 hc with h1|h1
      · exact ih (u / 10) (Nat.div_lt_self (by omega) (by omega)) c h1
      · exact one (u % 10) (Nat.mod_lt _ (by omega)) c (by simpa using h1)
theorem dec_val (u:Nat):(decDigits u).foldl (fun n c=>n*10+(c.toNat - 48)) 0=u:=by
  induction u using Nat.strongRecOn with
  | _ u ih =>
    have one: ∀ i,i < 10→(UInt8.ofNat (48+i)).toNat - 48=i:=fun i hi=>by
      rw [UInt8.toNat_ofNat']; omega
    rw [decDigits]
    split
    · rename_i h
      simp only [List.foldl_cons,List.foldl_nil,Nat.zero_mul,Nat.zero_add]
      exact one u h
    · rename_i h
      rw [List.foldl_append,ih (u / 10) (Nat.div_lt_self (by omega) (by omega))]
      simp only [List.foldl_cons,List.foldl_nil]
      rw [one (u % 10) (Nat.mod_lt _ (by omega))]
      omega
theorem dec_inj {u v:Nat} (h:decDigits u=decDigits v):u=v:=by rw [← dec_val u,h,dec_val]
theorem dec_ne (u:Nat):decDigits u≠[]:=fun e=>by
  have h:=decDigits_length u
  rw [e] at h
  have:=nDigits_pos u
  simp at h; omega
theorem itoa_rng (n:Int): ∀ c∈itoa n,c.toNat=45∨(48≤c.toNat∧c.toNat≤57):=by
  intro c hc
  unfold itoa at hc
  split at hc
  · rcases List.mem_cons.1 hc with h|h
    · rw [h]; exact .inl rfl
    · exact .inr (dec_rng _ c h)
  · exact .inr (dec_rng _ c hc)
theorem itoa_inj {m n:Int} (h:itoa m=itoa n):m=n:=by
  have neg: ∀ a b:Nat,45::decDigits a≠decDigits b:=fun a b e=>by
    have:=dec_rng b 45 (by rw [← e]; exact List.mem_cons_self ..)
    have h2:(45:UInt8).toNat=45:=rfl
    omega
  unfold itoa at h
  split at h <;> split at h
  · injection h with _ h
    have:=dec_inj h; omega
  · exact absurd h (neg _ _)
  · exact absurd h.symm (neg _ _)
  · have:=dec_inj h; omega
theorem itoa_ne (n:Int):itoa n≠[]:=by
  unfold itoa
  split
  · simp
  · exact dec_ne _
theorem nDig_le: ∀ {k u:Nat},1≤k→u < 10 ^ k→nDigits u≤k
  |0,_,h,_=>absurd h (by omega)
  |1,u,_,h=>by rw [nDigits_small (by simpa using h)]; exact Nat.le_refl _
  | k + 2, u, _, h => by
    by_cases q:u < 10
    · rw [nDigits_small q]; omega
    · rw [nDigits_big q]
      have:=nDig_le (k:=k+1) (u:=u / 10) (by omega) (Nat.div_lt_of_lt_mul (by rw [Nat.pow_succ] at h; omega))
      omega
theorem itoa_len {n:Int} (h0:0≤n) (h1:n≤1048576):(itoa n).length≤7:=by
  unfold itoa
  rw [if_neg (by omega),decDigits_length]
  exact nDig_le (by omega) (by omega)
mutual
def kyF:Fm→List UInt8
  | .nd o a l=>itoa o++46::(itoa a++40::(kyL l++[41]))
def kyL:List Fm→List UInt8
  |[]=>[]
  |f::l=>kyF f++kyL l
end
theorem kyF_eq (f:Fm):kyF f=itoa f.op++46::(itoa f.arg++40::(kyL f.kids++[41])):=by cases f; rw [kyF]; rfl
theorem kyL_app: ∀ l m:List Fm,kyL (l++m)=kyL l++kyL m
  |[],_=>rfl
  |f::l,m=>by rw [List.cons_append,kyL,kyL,kyL_app l m,List.append_assoc]
theorem kyL_step {l:List Fm} {k:Nat} (h:k < l.length):kyL (l.take (k+1))=kyL (l.take k)++kyF (nth l k):=by
  rw [take_succ_nth h,kyL_app,kyL,kyL,List.append_nil]
theorem cut_at {c:UInt8}: ∀ {a b x y:List UInt8},c∉a→c∉b→a++c::x=b++c::y→a=b∧x=y
  |[],[],x,y,_,_,h=>by injection h with _ h; exact ⟨rfl,h⟩
  |[],d::b,x,y,_,hb,h=>by injection h with h _; exact absurd (List.mem_cons.2 (.inl h)) hb
  |d::a,[],x,y,ha,_,h=>by injection h with h _; exact absurd (List.mem_cons.2 (.inl h.symm)) ha
  | d :: a, e :: b, x, y, ha, hb, h => by
    injection h with h1 h2
    obtain ⟨g1,g2⟩:=cut_at (fun q=>ha (List.mem_cons_of_mem _ q)) (fun q=>hb (List.mem_cons_of_mem _ q)) h2
    exact ⟨by rw [h1,g1],g2⟩
theorem itoa_no {n:Int} {c:UInt8} (h:c.toNat=46∨c.toNat=40∨c.toNat=41):c∉itoa n:=fun q=>by
  have:=itoa_rng n c q; omega
theorem kyF_no (f:Fm) (x y:List UInt8):kyF f++x≠41::y:=fun e=>by
  rw [kyF_eq,List.append_assoc] at e
  cases q:itoa f.op with
  |nil=>exact itoa_ne _ q
  | cons c r =>
    rw [q] at e
    injection e with e _
    exact itoa_no (n:=f.op) (c:=41) (.inr (.inr rfl)) (by rw [q,e]; exact List.mem_cons_self ..)
mutual
theorem kyF_inj: ∀ (f g:Fm) (x y:List UInt8),kyF f++x=kyF g++y→f=g∧x=y
  | .nd o a l, .nd p b m, x, y, h => by
    rw [kyF,kyF] at h
    simp only [List.append_assoc,List.cons_append] at h
    obtain ⟨h1,h⟩:=cut_at (itoa_no (.inl rfl)) (itoa_no (.inl rfl)) h
    obtain ⟨h2,h⟩:=cut_at (itoa_no (.inr (.inl rfl))) (itoa_no (.inr (.inl rfl))) h
    obtain ⟨h3,h⟩:=kyL_inj l m x y (by simpa using h)
    exact ⟨by rw [itoa_inj h1,itoa_inj h2,h3],h⟩
theorem kyL_inj: ∀ (l m:List Fm) (x y:List UInt8),kyL l++41::x=kyL m++41::y→l=m∧x=y
  |[],[],x,y,h=>by injection h with _ h; exact ⟨rfl,h⟩
  | [], g :: m, x, y, h => by
    rw [kyL,kyL,List.append_assoc] at h
    exact absurd h.symm (kyF_no g _ _)
  | f :: l, [], x, y, h => by
    rw [kyL,kyL,List.append_assoc] at h
    exact absurd h (kyF_no f _ _)
  | f :: l, g :: m, x, y, h => by
    rw [kyL,kyL,List.append_assoc,List.append_assoc] at h
    obtain ⟨h1,h⟩:=kyF_inj f g _ _ h
    obtain ⟨h2,h⟩:=kyL_inj l m x y h
    exact ⟨by rw [h1,h2],h⟩
end
theorem ky_inj {f g:Fm} (h:kyF f=kyF g):f=g:=(kyF_inj f g [] [] (by rw [h])).1
theorem kyL_len {l:List Fm} (h: ∀ k,k < l.length→(kyF (nth l k)).length≤32*(nth l k).sz):(kyL l).length≤32*Fm.szs l:=by
  induction l with
  |nil=>simp [kyL,Fm.szs]
  | cons f l ih =>
    have h1:=h 0 (by simp)
    have h2:=ih fun k hk=>h (k+1) (by simpa using hk)
    rw [kyL,List.length_append,Fm.szs]
    have:nth (f::l) 0=f:=rfl
    rw [this] at h1
    omega
theorem ky_len (f:Fm):okF f=true→(kyF f).length≤32*f.sz:=by
  induction hn:f.sz using Nat.strongRecOn generalizing f with
  | _ n ih =>
    intro hok
    subst hn
    have hp:=okF_parts hok
    have hr:=rgt_ok hp.1
    have h1:=kyL_len (l:=f.kids) fun k hk=>ih _ (Fm.sz_kid hk) _ rfl (hp.2 k hk)
    have h2:=itoa_len (n:=f.op) (by omega) (by omega)
    have h3:=itoa_len (n:=f.arg) (by omega) (by omega)
    have h4:=Fm.sz_eq f
    rw [kyF_eq]
    simp only [List.length_append,List.length_cons,List.length_nil]
    omega
theorem kyT_len {f:Fm} (hok:okF f=true) (hz:f.sz≤4096):(kyF f).length≤131072:=by
  have:=ky_len f hok; omega
theorem kyL_take_le (l:List Fm) (k:Nat):(kyL (l.take k)).length≤(kyL l).length:=by
  have h:kyL l=kyL (l.take k)++kyL (l.drop k):=by rw [← kyL_app,List.take_append_drop]
  rw [h,List.length_append]; omega
theorem ky_bnd {f:Fm} (hok:okF f=true) (hz:f.sz≤4096) (k:Nat):(kyL (f.kids.take k)).length≤131072:=by
  have h1:=kyL_take_le f.kids k
  have h2:=kyT_len hok hz
  have h3:(kyL f.kids).length≤(kyF f).length:=by
    rw [kyF_eq f]
    simp only [List.length_append,List.length_cons,List.length_nil]; omega
  omega
end Go.Proofs.YteehaobohaecmaaDoor
namespace Go.Proofs.YteehaobohaecmaaDoor
open Go Go.Proofs Go.Shelf Go.Lib Go.Sort
theorem step_growN {x:Cx} (hx:Inv x) (k:Nat) (os:Array Obj):let y:Cx:={x with w:=grow (x.w.drewN k) os}; Inv y∧Frame x y:=by
  intro y
  have hlt: ∀ b,b < x.w.heap.size→y.w.heap[b]?=x.w.heap[b]?:=fun b hb=>by
    show (x.w.heap++os)[b]?=_
    exact Array.getElem?_append_left hb
  have hsz:x.w.heap.size≤y.w.heap.size:=by
    show _≤(x.w.heap++os).size
    rw [Array.size_append]; omega
  have hf:Frame x y:=by
    refine ⟨rfl,rfl,rfl,hsz,fun b hb _=>hlt b hb,fun _ h=>h,fun _ h=>.inl h,fun id=>⟨Nat.le_refl _,fun h _=>⟨h,rfl,rfl,fun _=>rfl,fun ho=>⟨rfl,?_⟩⟩⟩,fun _ h=>.inl ⟨h,rfl⟩,Nat.le_add_right _ _,fun _ _ _=>rfl⟩
    unfold rowSize
    rw [hlt _ (hx.lt ho)]
  refine ⟨⟨fun b hb=>Nat.lt_of_lt_of_le (hx.zlt b hb) hsz,hx.zown,fun id ho=>?_,hx.inj,hx.tab_of hf⟩,hf⟩
  obtain ⟨cc,h1,h2,h3,h4⟩:=hx.blk id ho
  exact ⟨cc,by rw [hlt _ (hx.lt ho)]; exact h1,h2,h3,fun r row j v hr hj=>(h4 r row j v hr hj).frame hx hf⟩
theorem itoa_pure {P:Program} {ρ:Go.Shelf.Ren} (L:LaysM.n171 P ρ) (hcf:callable P (ρ.f 171)) (hT:(ρ.g 17,p10C)∈tabs) (n:Int) (h0: -9223372036854775808≤n) (h1:n≤9223372036854775807):
    PureC P (ρ.f 171) [iV n] (.str (itoa n)):=by
  intro H
  refine ⟨hcf,fun x cs hxH hx hr=>?_⟩
  subst hxH
  obtain ⟨c0,rfl⟩: ∃ c0,cs=[c0]:=by
    have:=hr.1
    match cs with
    |[a]=>exact ⟨a,rfl⟩
    |[]=>simp at this
    |_::_::_=>simp at this
  have r0:R x (iV n) c0:=hr.2 0 _ rfl
  have hc0:c0=.int .i64 n:=by unfold iV at r0; cases r0; rfl
  subst hc0
  have htab : TabIs P x.w "internal/strconv.uint64pow10" .u64 pow10Tab := by
    obtain ⟨_,ty,m,h⟩:=hx.tab _ hT
    unfold TabIs World.var?
    rw [L.m17]
    simp only [Option.bind_some]
    rw [show x.w.heap[ρ.g 17]?=_ from h]
    rfl
  refine (Any.strconv_Itoa L n h0 h1 x.w htab).mono fun e w' h=>?_
  obtain ⟨rfl,k,os,rfl⟩:=h
  obtain ⟨g1,g2⟩:=step_growN hx k os
  exact ⟨_,{x with w:=grow (x.w.drewN k) os},rfl,rfl,rfl,g1,.str _,g2⟩
end Go.Proofs.YteehaobohaecmaaDoor
namespace Go.Proofs.YteehaobohaecmaaDoor
open Go Go.Proofs Go.Shelf
def itoRen41:Go.Shelf.Ren:=⟨fun|129=>72|171=>41|243=>50|246=>59|283=>74|284=>75|285=>76|286=>77|317=>87|318=>88|319=>89|320=>90|337=>98|338=>99|n=>n,fun|0=>0|2=>2|3=>3|4=>4|5=>5|9=>9|20=>20|37=>39|46=>94|51=>109|53=>111|171=>112|173=>114|212=>126|213=>127|232=>136|233=>137|n=>n,fun|17=>0|18=>1|19=>2|n=>n⟩
set_option maxRecDepth 100000 in
theorem itoLay41:LaysM.n171 Tryd.prog itoRen41:={
  mixed:=(by kernel_rfl),
  f129:=Tryd.func72.trans (congrArg some (by kernel_rfl)),
  f171:=Tryd.func41.trans (congrArg some (by kernel_rfl)),
  f243:=Tryd.func50.trans (congrArg some (by kernel_rfl)),
  f246:=Tryd.func59.trans (congrArg some (by kernel_rfl)),
  f283:=Tryd.func74.trans (congrArg some (by kernel_rfl)),
  f284:=Tryd.func75.trans (congrArg some (by kernel_rfl)),
  f285:=Tryd.func76.trans (congrArg some (by kernel_rfl)),
  f286:=Tryd.func77.trans (congrArg some (by kernel_rfl)),
  f317:=Tryd.func87.trans (congrArg some (by kernel_rfl)),
  f318:=Tryd.func88.trans (congrArg some (by kernel_rfl)),
  f319:=Tryd.func89.trans (congrArg some (by kernel_rfl)),
  f320:=Tryd.func90.trans (congrArg some (by kernel_rfl)),
  f337:=Tryd.func98.trans (congrArg some (by kernel_rfl)),
  f338:=Tryd.func99.trans (congrArg some (by kernel_rfl)),
  t0:=Tryd.underlying0,
  a0:=Tryd.isAgg0,
  z0:=Tryd.sizeOf0,
  v0:=Tryd.zeroValue0,
  t2:=Tryd.underlying2,
  a2:=Tryd.isAgg2,
  z2:=Tryd.sizeOf2,
  v2:=Tryd.zeroValue2,
  t3:=Tryd.underlying3,
  a3:=Tryd.isAgg3,
  z3:=Tryd.sizeOf3,
  v3:=Tryd.zeroValue3,
  t4:=Tryd.underlying4,
  a4:=Tryd.isAgg4,
  z4:=Tryd.sizeOf4,
  v4:=Tryd.zeroValue4,
  t5:=Tryd.underlying5,
  a5:=Tryd.isAgg5,
  z5:=Tryd.sizeOf5,
  v5:=Tryd.zeroValue5,
  t9:=Tryd.underlying9,
  a9:=Tryd.isAgg9,
  z9:=Tryd.sizeOf9,
  v9:=Tryd.zeroValue9,
  t20:=Tryd.underlying20,
  a20:=Tryd.isAgg20,
  z20:=Tryd.sizeOf20,
  v20:=Tryd.zeroValue20,
  t37:=Tryd.underlying39,
  a37:=Tryd.isAgg39,
  z37:=Tryd.sizeOf39,
  v37:=Tryd.zeroValue39,
  t46:=Tryd.underlying94,
  a46:=Tryd.isAgg94,
  z46:=Tryd.sizeOf94,
  v46:=Tryd.zeroValue94,
  t51:=Tryd.underlying109,
  a51:=Tryd.isAgg109,
  z51:=Tryd.sizeOf109,
  v51:=Tryd.zeroValue109,
  t53:=Tryd.underlying111,
  a53:=Tryd.isAgg111,
  z53:=Tryd.sizeOf111,
  v53:=Tryd.zeroValue111,
  t171:=Tryd.underlying112,
  a171:=Tryd.isAgg112,
  z171:=Tryd.sizeOf112,
  v171:=Tryd.zeroValue112,
  t173:=Tryd.underlying114,
  a173:=Tryd.isAgg114,
  z173:=Tryd.sizeOf114,
  v173:=Tryd.zeroValue114,
  t212:=Tryd.underlying126,
  a212:=Tryd.isAgg126,
  z212:=Tryd.sizeOf126,
  v212:=Tryd.zeroValue126,
  t213:=Tryd.underlying127,
  a213:=Tryd.isAgg127,
  z213:=Tryd.sizeOf127,
  t232:=Tryd.underlying136,
  a232:=Tryd.isAgg136,
  z232:=Tryd.sizeOf136,
  v232:=Tryd.zeroValue136,
  t233:=Tryd.underlying137,
  a233:=Tryd.isAgg137,
  z233:=Tryd.sizeOf137,
  v233:=Tryd.zeroValue137,
  g17:=(by kernel_rfl),
  g18:=(by kernel_rfl),
  g19:=(by kernel_rfl),
  i0:=(by kernel_rfl),
  i2:=(by kernel_rfl),
  i3:=(by kernel_rfl),
  i4:=(by kernel_rfl),
  i5:=(by kernel_rfl),
  i9:=(by kernel_rfl),
  i20:=(by kernel_rfl),
  i37:=(by kernel_rfl),
  i46:=(by kernel_rfl),
  i51:=(by kernel_rfl),
  i53:=(by kernel_rfl),
  i171:=(by kernel_rfl),
  i173:=(by kernel_rfl),
  i212:=(by kernel_rfl),
  i232:=(by kernel_rfl),
  i233:=(by kernel_rfl),
  m17:=(by kernel_rfl),
  m18:=(by kernel_rfl),
  m19:=(by kernel_rfl)}
theorem itoCall41:callable Tryd.prog 41:=⟨_,Tryd.func41,by kernel_rfl,by kernel_rfl⟩
theorem itoa41_pure (n:Int) (h0: -9223372036854775808≤n) (h1:n≤9223372036854775807):PureC Tryd.prog 41 [iV n] (.str (Lib.itoa n)):=itoa_pure itoLay41 itoCall41 (.head _) n h0 h1
end Go.Proofs.YteehaobohaecmaaDoor
namespace Go.Proofs.YteehaobohaecmaaDoor
open Go Go.Proofs
theorem key_pure_step (f:Fm) (hok:okF f=true) (hz:f.sz≤4096) (ih: ∀ (g:Fm),g.sz < f.sz→okF g=true→g.sz≤4096→PureC Tryd.prog 27 [(V.agg [(iV (g.op)),(iV (g.arg)),(V.sl (List.map cF (g.kids)))])] (V.str ((kyF g)))):PureC Tryd.prog 27 [(V.agg [(iV (f.op)),(iV (f.arg)),(V.sl (List.map cF (f.kids)))])] (V.str ((kyF f))):=by
 refine pW Tryd.func27 s27_ok fun hB=>?_
 unfold s27
 dsimp only
 have hp:=okF_parts hok
 have hr:=rgt_ok hp.1
 have hln:=f.sz_len
 have hi1:=itoa_len (n:=f.op) (by omega) (by omega)
 have hi2:=itoa_len (n:=f.arg) (by omega) (by omega)
 refine W_r (R_box (i:=1) (n:=0) (m:=3) (cs:=[(iV (f.op)),(iV (f.arg)),(V.sl (List.map cF (f.kids)))]) rfl (congrArg Blk.ver rfl) rfl rfl rfl (R_mv rfl (R_e (W_r (R_fk rfl rfl (R_lk rfl rfl rfl rfl (R_callk (itoa41_pure f.op (by omega) (by omega)) rfl ?_)))))))
 refine R_sadd (s:=((Lib.itoa f.op))) (t:=([46])) rfl rfl (by (simp only [List.length_append,List.length_cons,List.length_nil]; omega)) (R_fk rfl rfl (R_lk rfl rfl rfl rfl (R_callk (itoa41_pure f.arg (by omega) (by omega)) rfl (R_sadd (s:=((Lib.itoa f.op)++[46])) (t:=((Lib.itoa f.arg))) rfl rfl (by (simp only [List.length_append,List.length_cons,List.length_nil]; omega)) (R_sadd (s:=((Lib.itoa f.op)++[46]++(Lib.itoa f.arg))) (t:=([40])) rfl rfl (by (simp only [List.length_append,List.length_cons,List.length_nil]; omega)) (R_mv rfl (R_e ?_)))))))
 refine W_seq_seq (W_r (R_fk rfl rfl (R_lk rfl rfl rfl rfl (R_len rfl (R_mv rfl (R_e (W_seq_blockg fun Q1 n1 x1 y1 z1=>?_)))))))
 refine W_loop (fun mm T H=> ∃ (k:Nat) (v5:Nat),mm=f.kids.length - k∧T 3=(V.str (Lib.itoa f.op++[46]++Lib.itoa f.arg++[40]++kyL (f.kids.take k)))∧T 16=(V.sl (List.map cF (f.kids)))∧T 17=(iV ((f.kids.length:Nat):Int))∧T 18=(iV ((k:Nat):Int))∧H 1=(bk 1 24 3 [[(iV (f.op)),(iV (f.arg)),(V.sl (List.map cF (f.kids)))]])∧(H 5).ver=v5∧(k≤f.kids.length)) ?_ ?_
 ·
  refine ⟨_,0,0,rfl,(Eq.trans (@rfl V (V.str ((Lib.itoa f.op)++[46]++(Lib.itoa f.arg)++[40]))) (by simp [kyL])),rfl,rfl,(Eq.trans (@rfl V (iV (0:Int))) rfl),rfl,(congrArg Blk.ver rfl),?_⟩
  · omega
 intro mm T H ⟨k,v5,hmm,t3,t16,t17,t18,h1,h5,hk⟩ Q2 p12 p22 p32
 unfold b27_0
 have hq:=ky_bnd hok hz k
 have hq2:k < f.kids.length→(kyF (nth f.kids k)).length≤131072:=fun h=>kyT_len (hp.2 k h) (Nat.le_trans (Nat.le_of_lt (Fm.sz_kid h)) hz)
 refine W_r (R_lss t18 t17 (R_e ?_))
 refine W_seq_if rfl (fun c3=>?_) fun c3=>?_
 ·
  refine W_seq_skip (W_seq_blockg fun Q4 n4 x4 y4 z4=>(W_r (R_idxu (i:=k) t16 t18 (by omega) (cF_eq _) rfl (R_load_pp rfl rfl (R_alloc (i:=5) (n:=v5) (m:=3) rfl h5 rfl (R_sk rfl rfl rfl rfl rfl rfl rfl rfl rfl (R_e ?_)))))))
  refine W_t (R_mv t3 (R_lk rfl rfl rfl rfl (R_callk (ih (((nth (f.kids) (k)))) (Fm.sz_kid (by omega)) (hp.2 _ (by omega)) (Nat.le_trans (Nat.le_of_lt (Fm.sz_kid (by omega))) hz)) rfl (R_sadd (s:=(Lib.itoa f.op++[46]++Lib.itoa f.arg++[40]++kyL (f.kids.take k))) (t:=((kyF (((nth (f.kids) (k))))))) rfl rfl (by (simp only [List.length_append,List.length_cons,List.length_nil]; omega)) (R_mv rfl (R_e (n4 _ _ ?_)))))))
  refine .done (W_t (R_addN t18 (@rfl V (iV ((1:Nat):Int))) (by omega) (R_mv rfl (R_e ?_))))
  refine p12 _ _ _ ?_ ⟨(k+1),(v5+1),rfl,(Eq.trans (@rfl V (V.str (Lib.itoa f.op++[46]++Lib.itoa f.arg++[40]++kyL (f.kids.take k)++(kyF (((nth (f.kids) (k)))))))) (by (rw [kyL_step (by omega),← List.append_assoc]; done))),t16,t17,(Eq.trans (@rfl V (iV ((k+1:Nat):Int))) (by rfl)),h1,(congrArg Blk.ver rfl),?_⟩
  · omega
  · omega
 refine W_seq_exit (p32 _ _ _ (x1 _ _ (.done (W_r (R_mv t3 (R_sadd (s:=(Lib.itoa f.op++[46]++Lib.itoa f.arg++[40]++kyL (f.kids.take k))) (t:=([41])) rfl rfl (by (simp only [List.length_append,List.length_cons,List.length_nil]; omega)) (R_mv rfl ?_)))))))
 refine R_e (W_ret ?_)
 refine Ret_1 (@rfl V (V.str (Lib.itoa f.op++[46]++Lib.itoa f.arg++[40]++kyL (f.kids.take k)++[41]))) (fz_canon (by simp) ?_)
 · rw [kyF_eq,show k=f.kids.length by omega,List.take_length]; simp [List.append_assoc]
theorem key_pure (f:Fm) (hok:okF f=true) (hz:f.sz≤4096):PureC Tryd.prog 27 [(V.agg [(iV (f.op)),(iV (f.arg)),(V.sl (List.map cF (f.kids)))])] (V.str ((kyF f))):=by
  have key: ∀ (mm:Nat) (f:Fm),f.sz < mm→okF f=true→f.sz≤4096→PureC Tryd.prog 27 [(V.agg [(iV (f.op)),(iV (f.arg)),(V.sl (List.map cF (f.kids)))])] (V.str ((kyF f))):=by
    intro mm
    induction mm with
    |zero=>intro f hlt; exact absurd hlt (Nat.not_lt_zero _)
    | succ mm ih =>
      intro f hlt hok hz
      exact key_pure_step f hok hz fun f2 hlt2=>ih f2 (by omega)
  exact key (f.sz+1) f (Nat.lt_succ_self _) hok hz
end Go.Proofs.YteehaobohaecmaaDoor
namespace Go.Proofs.YteehaobohaecmaaDoor
open Go
structure Df where
  inp:Int
  st:Int
  nx:List (List Int)
  ac:List Bool
deriving DecidableEq
abbrev zD:Df:=⟨0,0,[],[]⟩
def plc:List Fm→Fm→Nat
  |[],_=>0
  |h::l,f=>if h=f then 0 else plc l f+1
theorem plc_nth {f:Fm}: ∀ {l:List Fm},plc l f < l.length→nth l (plc l f)=f
  |[],h=>absurd h (Nat.not_lt_zero _)
  | h :: l, hh => by
    rw [plc] at hh ⊢
    split
    · rename_i e; exact e
    · rename_i e
      rw [if_neg e] at hh
      exact plc_nth (l:=l) (by simpa using hh)
def aRow (cur : Fm) (o : Nat) : Nat → Nat → List Fm → List Int → Int × List Fm × List Int
  |0,_,l,r=>(0,l,r)
  | m + 1, x, l, r =>
    if (stM cur ((x / o:Nat):Int) ((x % o:Nat):Int)).2≠0 then ((stM cur ((x / o:Nat):Int) ((x % o:Nat):Int)).2,[],[])
    else if plc l (stM cur ((x / o:Nat):Int) ((x % o:Nat):Int)).1 < l.length then aRow cur o m (x+1) l (r++[(plc l (stM cur ((x / o:Nat):Int) ((x % o:Nat):Int)).1:Int)])
    else if 128≤l.length then (11,[],[])
    else aRow cur o m (x+1) (l++[(stM cur ((x / o:Nat):Int) ((x % o:Nat):Int)).1]) (r++[(l.length:Int)])
def lkV (l:List Fm) (g:Fm):Int:=if plc l g < l.length then plc l g else 0
section
variable {cur g:Fm} {o n k:Nat} {l:List Fm} {r:List Int}
theorem aRow_end (h:n≤k):aRow cur o (n - k) k l r=(0,l,r):=by rw [show n - k=0 by omega,aRow]
theorem aRow_err (h:k < n) (e:(stM cur ((k / o:Nat):Int) ((k % o:Nat):Int)).2≠0):aRow cur o (n - k) k l r=((stM cur ((k / o:Nat):Int) ((k % o:Nat):Int)).2,[],[]):=by
  rw [show n - k=(n - (k+1))+1 by omega,aRow,if_pos e]
theorem aRow_old (h:k < n) (e: ¬(stM cur ((k / o:Nat):Int) ((k % o:Nat):Int)).2≠0) (hp:plc l (stM cur ((k / o:Nat):Int) ((k % o:Nat):Int)).1 < l.length):
    aRow cur o (n - k) k l r=aRow cur o (n - (k+1)) (k+1) l (r++[lkV l (stM cur ((k / o:Nat):Int) ((k % o:Nat):Int)).1]):=by
  unfold lkV
  rw [show n - k=(n - (k+1))+1 by omega,aRow,if_neg e,if_pos hp,if_pos hp]
theorem aRow_lim (h:k < n) (e: ¬(stM cur ((k / o:Nat):Int) ((k % o:Nat):Int)).2≠0) (hp: ¬plc l (stM cur ((k / o:Nat):Int) ((k % o:Nat):Int)).1 < l.length) (hl:128≤l.length):
    aRow cur o (n - k) k l r=(11,[],[]):=by
  rw [show n - k=(n - (k+1))+1 by omega,aRow,if_neg e,if_neg hp,if_pos hl]
theorem aRow_new (h:k < n) (e: ¬(stM cur ((k / o:Nat):Int) ((k % o:Nat):Int)).2≠0) (hp: ¬plc l (stM cur ((k / o:Nat):Int) ((k % o:Nat):Int)).1 < l.length) (hl: ¬128≤l.length):
    aRow cur o (n - k) k l r=aRow cur o (n - (k+1)) (k+1) (l++[(stM cur ((k / o:Nat):Int) ((k % o:Nat):Int)).1]) (r++[(l.length:Int)]):=by
  rw [show n - k=(n - (k+1))+1 by omega,aRow,if_neg e,if_neg hp,if_neg hl]
end
def aOut (n o : Nat) : Nat → Nat → List Fm → List (List Int) → List Bool → Int × List (List Int) × List Bool
  |0,_,_,nx,ac=>(0,nx,ac)
  | m + 1, s, l, nx, ac =>
    if s < l.length then
      if (aRow (nth l s) o n 0 l []).1≠0 then ((aRow (nth l s) o n 0 l []).1,[],[])
      else aOut n o m (s+1) (aRow (nth l s) o n 0 l []).2.1 (nx++[(aRow (nth l s) o n 0 l []).2.2]) (ac++[sat t0 (nth l s) 0])
    else (0,nx,ac)
section
variable {n o s:Nat} {l l2:List Fm} {r:List Int} {nx:List (List Int)} {ac:List Bool} {e:Int}
theorem aOut_end (h:l.length≤s):aOut n o (129 - s) s l nx ac=(0,nx,ac):=by
  cases q:129 - s with
  |zero=>rw [aOut]
  |succ m=>rw [aOut,if_neg (by omega)]
theorem aOut_err (h:s < l.length) (hl:l.length≤128) (hr:aRow (nth l s) o n 0 l []=(e,[],[])) (he:e≠0):aOut n o (129 - s) s l nx ac=(e,[],[]):=by
  rw [show 129 - s=(129 - (s+1))+1 by omega,aOut,if_pos h,hr,if_pos he]
theorem aOut_go (h:s < l.length) (hl:l.length≤128) (hr:aRow (nth l s) o n 0 l []=(0,l2,r)):aOut n o (129 - s) s l nx ac=aOut n o (129 - (s+1)) (s+1) l2 (nx++[r]) (ac++[sat t0 (nth l s) 0]):=by
  rw [show 129 - s=(129 - (s+1))+1 by omega,aOut,if_pos h,hr,if_neg (by simp)]
end
def atmS (f:Fm) (n o:Nat):Int×List (List Int)×List Bool:=aOut n o (129 - 0) 0 [f] [] []
def atm (f:Fm) (i o:Int):Df×Int:=
  if fval f≠0 then (zD,fval f) else if i < 1∨64 < i∨o < 1∨((1024 / i.toNat:Nat):Int) < o then (zD,2) else if (simp_ f).2≠0 then (zD,(simp_ f).2)
  else if (atmS (simp_ f).1 (i*o).toNat o.toNat).1≠0 then (zD,(atmS (simp_ f).1 (i*o).toNat o.toNat).1)
  else (⟨i*o,0,(atmS (simp_ f).1 (i*o).toNat o.toNat).2.1,(atmS (simp_ f).1 (i*o).toNat o.toNat).2.2⟩,0)
section
variable {f:Fm} {i o:Int}
theorem atm_e (h:fval f≠0):atm f i o=(zD,fval f):=if_pos h
theorem atm_r (h: ¬fval f≠0) (h2:i < 1∨64 < i∨o < 1∨((1024 / i.toNat:Nat):Int) < o):atm f i o=(zD,2):=by unfold atm; rw [if_neg h,if_pos h2]
theorem atm_s (h: ¬fval f≠0) (h2: ¬(i < 1∨64 < i∨o < 1∨((1024 / i.toNat:Nat):Int) < o)) (h3:(simp_ f).2≠0):atm f i o=(zD,(simp_ f).2):=by unfold atm; rw [if_neg h,if_neg h2,if_pos h3]
theorem atm_x {e:Int} (h: ¬fval f≠0) (h2: ¬(i < 1∨64 < i∨o < 1∨((1024 / i.toNat:Nat):Int) < o)) (h3: ¬(simp_ f).2≠0) (h4:atmS (simp_ f).1 (i*o).toNat o.toNat=(e,[],[])) (he:e≠0):atm f i o=(zD,e):=by
  unfold atm; rw [if_neg h,if_neg h2,if_neg h3,h4,if_pos he]
theorem atm_g {nx:List (List Int)} {ac:List Bool} (h: ¬fval f≠0) (h2: ¬(i < 1∨64 < i∨o < 1∨((1024 / i.toNat:Nat):Int) < o)) (h3: ¬(simp_ f).2≠0) (h4:atmS (simp_ f).1 (i*o).toNat o.toNat=(0,nx,ac)):atm f i o=(⟨i*o,0,nx,ac⟩,0):=by
  unfold atm; rw [if_neg h,if_neg h2,if_neg h3,h4,if_neg (by simp)]
theorem io_bnd (h2: ¬(i < 1∨64 < i∨o < 1∨((1024 / i.toNat:Nat):Int) < o)):1≤i∧i≤64∧1≤o∧o≤1024∧1≤i*o∧i*o≤1024:=by
  have hq:i.toNat*(1024 / i.toNat)≤1024:=Nat.mul_div_le _ _
  have hle:o.toNat≤1024 / i.toNat:=by omega
  have hm:=Nat.mul_le_mul_left i.toNat hle
  have hi:((i.toNat:Nat):Int)=i:=Int.toNat_of_nonneg (by omega)
  have ho:((o.toNat:Nat):Int)=o:=Int.toNat_of_nonneg (by omega)
  have e:i*o=((i.toNat*o.toNat:Nat):Int):=by rw [Int.natCast_mul,hi,ho]
  have hp:1≤i.toNat*o.toNat:=Nat.mul_pos (by omega) (by omega)
  have h1:1024 / i.toNat≤1024:=Nat.div_le_self _ _
  omega
theorem chk_val (h: ¬(chk f).2≠0):fval (chk f).1=0:=by
  by_cases q:cErr (can f)≠0
  · rw [chk_e q] at h; exact absurd q h
  · by_cases q2:fval (fVal (can f))≠0
    · rw [chk_b q q2] at h; exact absurd q2 h
    · rw [chk_g q q2]; exact Decidable.of_not_not q2
theorem stM_val (h: ¬(stM f i o).2≠0):fval (stM f i o).1=0:=by
  by_cases q:fval f≠0
  · rw [stM_e q] at h; exact absurd q h
  · by_cases q2:i < 0∨64≤i∨o < 0∨1048576 < o
    · rw [stM_r q q2] at h; exact absurd (by decide) h
    · by_cases q3:(simp_ f).2≠0
      · rw [stM_s q q2 q3] at h; exact absurd q3 h
      · rw [stM_g q q2 q3] at h ⊢; exact chk_val h
end
def esA:List Fm→Nat→List (List UInt8×V)
  |[],_=>[]
  |g::l,i=>(kyF g,iV ((i:Nat):Int))::esA l (i+1)
theorem esA_app (g:Fm): ∀ (l:List Fm) (i:Nat),esA (l++[g]) i=esA l i++[(kyF g,iV ((i+l.length:Nat):Int))]
  |[],i=>rfl
  | h :: l, i => by
    rw [List.cons_append,esA,esA,esA_app g l (i+1),List.cons_append,List.length_cons,show i+1+l.length=i+(l.length+1) by omega]
theorem find_es (g:Fm): ∀ (l:List Fm) (i:Nat),(esA l i).find? (fun p=>decide (p.1=kyF g))=if plc l g < l.length then some (kyF g,iV ((i+plc l g:Nat):Int)) else none
  |[],i=>rfl
  | h :: l, i => by
    rw [esA,plc]
    by_cases e:h=g
    · rw [List.find?_cons_of_pos (by simp [e]),if_pos e,List.length_cons,if_pos (Nat.zero_lt_succ _),e]; rfl
    · rw [List.find?_cons_of_neg (by simpa using fun q=>e (ky_inj q)),if_neg e,find_es g l (i+1),List.length_cons,show i+1+plc l g=i+(plc l g+1) by omega]
      by_cases q:plc l g < l.length
      · rw [if_pos q,if_pos (by omega)]
      · rw [if_neg q,if_neg (by omega)]
section
variable {ver:Nat} {l:List Fm} {g:Fm}
theorem look_es:mlookB ⟨ver,true,true,mapH,2,entT (esA l 0)⟩ ver 0 (iV 0) (.str (kyF g))=some (iV (lkV l g),decide (plc l g < l.length)):=by
  rw [lookT,find_es]
  unfold lkV
  by_cases q:plc l g < l.length
  · rw [if_pos q,if_pos q,decide_eq_true q]; simp
  · rw [if_neg q,if_neg q,decide_eq_false q]
theorem set_es (h: ¬plc l g < l.length):msetB ⟨ver,true,true,mapH,2,entT (esA l 0)⟩ ver 0 (.str (kyF g)) (iV ((l.length:Nat):Int))=some ⟨ver,true,true,mapH,2,entT (esA (l++[g]) 0)⟩:=by
  rw [setT_new (by rw [find_es,if_neg h]),esA_app,Nat.zero_add]
end
end Go.Proofs.YteehaobohaecmaaDoor
namespace Go.Proofs.YteehaobohaecmaaDoor
theorem nth_snoc {l:List Fm} {g:Fm} {s:Nat} (h:s < l.length):nth (l++[g]) s=nth l s:=by
  unfold nth
  simp [List.getD_eq_getElem?_getD,List.getElem?_append_left h]
theorem val_snoc {l:List Fm} {g:Fm} (h: ∀ x∈l,fval x=0) (hg:fval g=0): ∀ x∈l++[g],fval x=0:=fun x hx=>by
  rcases List.mem_append.1 hx with q|q
  · exact h x q
  · rw [List.mem_singleton.1 q]; exact hg
end Go.Proofs.YteehaobohaecmaaDoor
namespace Go.Proofs.YteehaobohaecmaaDoor
open Go Go.Proofs
attribute [local irreducible] mksV
theorem atm_pure (f:Fm) (i o:Int):PureC Tryd.prog 15 [(V.agg [(iV (f.op)),(iV (f.arg)),(V.sl (List.map cF (f.kids)))]),(iV (i)),(iV (o))] (V.tup [(V.agg [(iV ((atm f i o).1.inp)),(iV ((atm f i o).1.st)),(intss ((atm f i o).1.nx)),(V.sl (List.map cB ((atm f i o).1.ac)))]),(iV ((atm f i o).2))]):=by
 refine pW Tryd.func15 s15_ok fun hB=>?_
 unfold s15
 dsimp only
 refine W_r (R_box (i:=3) (n:=0) (m:=3) (cs:=[(iV (f.op)),(iV (f.arg)),(V.sl (List.map cF (f.kids)))]) rfl (congrArg Blk.ver rfl) rfl rfl rfl (R_alloc (i:=6) (n:=0) (m:=4) rfl (congrArg Blk.ver rfl) rfl (R_mv rfl (R_e (W_seq_seq (W_r (R_lk rfl rfl rfl rfl ?_)))))))
 refine R_callk (fvalid_pure f) rfl (R_mv rfl (R_e (W_seq_seq (W_r (R_mv rfl (R_neq rfl rfl (R_e ?_)))))))
 refine W_seq_if rfl (fun c1=>?_) fun c1=>?_
 ·
  have d1:=atm_e (i:=i) (o:=o) c1
  refine W_seq_seq (W_r (R_build rfl rfl (R_mv rfl (R_sk rfl rfl rfl rfl rfl rfl rfl rfl rfl (R_mv rfl (R_e (W_seq_ret ?_)))))))
  refine RetC_2 (resV_c (u:=(V.agg [(iV (0:Int)),(iV (0:Int)),V.nilsl,V.nilsl])) rfl (@rfl Blk (bk 1 45 4 [[(iV (0:Int)),(iV (0:Int)),V.nilsl,V.nilsl]])) (lB oB rfl rfl)) (resV_t (@rfl V (iV (fval f)))) (fz_aggL (mcons (fz_int ?_) (mcons (fz_int ?_) (mcons (fz_nil ?_) (mcons (fz_nil ?_) rfl))))) (fz_int ?_)
  · rw [d1]; try rfl
  · rw [d1]; try rfl
  · rw [d1]; try rfl
  · rw [d1]; try rfl
  · rw [d1]; try rfl
 have d0:=c1
 refine W_seq_skip (W_seq_seq (W_r (R_mv rfl (R_lss rfl rfl (R_mv rfl ?_)))))
 refine Ops_seg 3 (fun T H=>T 1=(iV (i))∧T 2=(iV (o))∧T 3=(V.mp 3 1 0 0)∧T 6=(V.mp 6 1 0 0)∧T 32=(V.bool (decide (((i) < (1:Int))∨((64:Int) < (i)))))∧H 3=(bk 1 24 3 [[(iV (f.op)),(iV (f.arg)),(V.sl (List.map cF (f.kids)))]])∧H 6=(bk 1 45 4 [[(iV (0:Int)),(iV (0:Int)),V.nilsl,V.nilsl]])∧H 9=(⟨0,false,false,0,0,[]⟩:Blk)∧H 11=(⟨0,false,false,0,0,[]⟩:Blk)∧H 17=(⟨0,false,false,0,0,[]⟩:Blk)∧H 58=(⟨0,false,false,0,0,[]⟩:Blk)∧H 59=(⟨0,false,false,0,0,[]⟩:Blk)∧H 81=(⟨0,false,false,0,0,[]⟩:Blk)∧H 811=(⟨0,false,false,0,0,[]⟩:Blk)∧H 812=(⟨0,false,false,0,0,[]⟩:Blk)∧True) ?_ ?_
 ·
  by_cases g2:(i) < (1:Int)
  ·
   refine G_n (edT g2 rfl) (G_n (edT g2 rfl) (R_pickT (edT g2 rfl) rfl ?_))
   exact ⟨rfl,rfl,rfl,rfl,(dec_orT g2),rfl,rfl,rfl,rfl,rfl,rfl,rfl,rfl,rfl,rfl,trivial⟩
  ·
   refine G_yes (edF g2 rfl) (R_mv rfl (G_yes (edF g2 rfl) (R_gtr rfl rfl (R_pickF (edF g2 rfl) rfl ?_))))
   exact ⟨rfl,rfl,rfl,rfl,(dec_orF g2),rfl,rfl,rfl,rfl,rfl,rfl,rfl,rfl,rfl,rfl,trivial⟩
 intro T H ⟨t1,t2,t3,t6,t32,h3,h6,h9,h11,h17,h58,h59,h81,h811,h812,_⟩
 refine R_mv t32 ?_
 refine Ops_seg 3 (fun T H=>T 1=(iV (i))∧T 2=(iV (o))∧T 3=(V.mp 3 1 0 0)∧T 6=(V.mp 6 1 0 0)∧T 36=(V.bool (decide ((((i) < (1:Int))∨((64:Int) < (i)))∨((o) < (1:Int)))))∧H 3=(bk 1 24 3 [[(iV (f.op)),(iV (f.arg)),(V.sl (List.map cF (f.kids)))]])∧H 6=(bk 1 45 4 [[(iV (0:Int)),(iV (0:Int)),V.nilsl,V.nilsl]])∧H 9=(⟨0,false,false,0,0,[]⟩:Blk)∧H 11=(⟨0,false,false,0,0,[]⟩:Blk)∧H 17=(⟨0,false,false,0,0,[]⟩:Blk)∧H 58=(⟨0,false,false,0,0,[]⟩:Blk)∧H 59=(⟨0,false,false,0,0,[]⟩:Blk)∧H 81=(⟨0,false,false,0,0,[]⟩:Blk)∧H 811=(⟨0,false,false,0,0,[]⟩:Blk)∧H 812=(⟨0,false,false,0,0,[]⟩:Blk)∧True) ?_ ?_
 ·
  by_cases g3:((i) < (1:Int))∨((64:Int) < (i))
  ·
   refine G_n (edT g3 rfl) (G_n (edT g3 rfl) (R_pickT (edT g3 rfl) rfl ?_))
   exact ⟨t1,t2,t3,t6,(dec_orT g3),h3,h6,h9,h11,h17,h58,h59,h81,h811,h812,trivial⟩
  ·
   refine G_yes (edF g3 rfl) (R_mv t2 (G_yes (edF g3 rfl) (R_lss rfl rfl (R_pickF (edF g3 rfl) rfl ?_))))
   exact ⟨t1,t2,t3,t6,(dec_orF g3),h3,h6,h9,h11,h17,h58,h59,h81,h811,h812,trivial⟩
 intro T H ⟨t1,t2,t3,t6,t36,h3,h6,h9,h11,h17,h58,h59,h81,h811,h812,_⟩
 refine R_mv t36 ?_
 refine Ops_seg 5 (fun T H=>T 1=(iV (i))∧T 2=(iV (o))∧T 3=(V.mp 3 1 0 0)∧T 6=(V.mp 6 1 0 0)∧T 42=(V.bool (decide (((((i) < (1:Int))∨((64:Int) < (i)))∨((o) < (1:Int)))∨(((1024 / (((i)).toNat):Nat):Int) < (o)))))∧H 3=(bk 1 24 3 [[(iV (f.op)),(iV (f.arg)),(V.sl (List.map cF (f.kids)))]])∧H 6=(bk 1 45 4 [[(iV (0:Int)),(iV (0:Int)),V.nilsl,V.nilsl]])∧H 9=(⟨0,false,false,0,0,[]⟩:Blk)∧H 11=(⟨0,false,false,0,0,[]⟩:Blk)∧H 17=(⟨0,false,false,0,0,[]⟩:Blk)∧H 58=(⟨0,false,false,0,0,[]⟩:Blk)∧H 59=(⟨0,false,false,0,0,[]⟩:Blk)∧H 81=(⟨0,false,false,0,0,[]⟩:Blk)∧H 811=(⟨0,false,false,0,0,[]⟩:Blk)∧H 812=(⟨0,false,false,0,0,[]⟩:Blk)∧True) ?_ ?_
 ·
  by_cases g4:(((i) < (1:Int))∨((64:Int) < (i)))∨((o) < (1:Int))
  ·
   refine G_n (edT g4 rfl) (G_n (edT g4 rfl) (G_n (edT g4 rfl) (G_n (edT g4 rfl) (R_pickT (edT g4 rfl) rfl ?_))))
   exact ⟨t1,t2,t3,t6,(dec_orT g4),h3,h6,h9,h11,h17,h58,h59,h81,h811,h812,trivial⟩
  ·
   refine G_yes (edF g4 rfl) (R_mv t2 (G_yes (edF g4 rfl) (R_mv t1 (G_yes (edF g4 rfl) (R_quoN (m:=1024) (n:=(((i)).toNat)) (@rfl V (iV ((1024:Nat):Int))) (Eq.trans (@rfl V (iV (i))) (iv_toNat (by omega))) (by omega) (by omega) (G_yes (edF g4 rfl) (R_gtr rfl rfl ?_)))))))
   refine R_pickF (edF g4 rfl) rfl ?_
   exact ⟨t1,t2,t3,t6,(dec_orF g4),h3,h6,h9,h11,h17,h58,h59,h81,h811,h812,trivial⟩
 intro T H ⟨t1,t2,t3,t6,t42,h3,h6,h9,h11,h17,h58,h59,h81,h811,h812,_⟩
 refine R_e ?_
 refine W_seq_if t42 (fun c5=>?_) fun c5=>?_
 ·
  have d1:=atm_r (i:=i) (o:=o) d0 (by omega)
  refine W_seq_seq (W_r (R_build rfl rfl (R_sk t6 rfl rfl h6 rfl rfl rfl rfl rfl (R_mv rfl (R_e (W_seq_ret ?_))))))
  refine RetC_2 (resV_c (u:=(V.agg [(iV (0:Int)),(iV (0:Int)),V.nilsl,V.nilsl])) t6 (@rfl Blk (bk 1 45 4 [[(iV (0:Int)),(iV (0:Int)),V.nilsl,V.nilsl]])) (lB oB rfl rfl)) (resV_t (@rfl V (iV (2:Int)))) (fz_aggL (mcons (fz_int ?_) (mcons (fz_int ?_) (mcons (fz_nil ?_) (mcons (fz_nil ?_) rfl))))) (fz_int ?_)
  · rw [d1]; try rfl
  · rw [d1]; try rfl
  · rw [d1]; try rfl
  · rw [d1]; try rfl
  · rw [d1]; try rfl
 have d2: ¬(i < 1∨64 < i∨o < 1∨((1024 / i.toNat:Nat):Int) < o):=by omega
 have io:=io_bnd d2
 refine W_seq_skip (W_r (R_lk t3 h3 rfl rfl (R_callk (simplify_pure f) rfl (R_mv rfl (R_ext rfl rfl (R_ext rfl rfl (R_alloc (i:=9) (n:=0) (m:=3) rfl (congrArg Blk.ver h9) rfl ?_)))))))
 refine R_sk rfl rfl rfl rfl rfl rfl rfl rfl rfl (R_mv rfl (R_e (W_seq_seq (W_r (R_mv rfl (R_neq rfl rfl (R_e ?_)))))))
 refine W_seq_if rfl (fun c6=>?_) fun c6=>?_
 ·
  have d1:=atm_s d0 d2 c6
  refine W_seq_seq (W_r (R_build rfl rfl (R_mv rfl (R_sk t6 rfl rfl h6 rfl rfl rfl rfl rfl (R_mv rfl (R_e (W_seq_ret ?_)))))))
  refine RetC_2 (resV_c (u:=(V.agg [(iV (0:Int)),(iV (0:Int)),V.nilsl,V.nilsl])) t6 (@rfl Blk (bk 1 45 4 [[(iV (0:Int)),(iV (0:Int)),V.nilsl,V.nilsl]])) (lB oB rfl rfl)) (resV_t (@rfl V (iV ((simp_ f).2)))) (fz_aggL (mcons (fz_int ?_) (mcons (fz_int ?_) (mcons (fz_nil ?_) (mcons (fz_nil ?_) rfl))))) (fz_int ?_)
  · rw [d1]; try rfl
  · rw [d1]; try rfl
  · rw [d1]; try rfl
  · rw [d1]; try rfl
  · rw [d1]; try rfl
 have d3:=c6
 have v0:=simp_val c6
 refine W_seq_skip (W_r (R_mv t1 (R_mv t2 (R_mul rfl rfl (by omega) (by omega) (R_build rfl rfl (R_alloc (i:=11) (n:=0) (m:=4) rfl (congrArg Blk.ver h11) rfl (R_sk rfl rfl rfl rfl rfl rfl rfl rfl rfl ?_)))))))
 refine R_e (W_r (R_lk rfl rfl rfl rfl (R_bslice_own (i:=58) (n:=0) (qs:=[(0,(V.agg [(iV ((simp_ f).1.op)),(iV ((simp_ f).1.arg)),(V.sl (List.map cF ((simp_ f).1.kids)))]))]) (rows:=[[(iV ((simp_ f).1.op)),(iV ((simp_ f).1.arg)),(V.sl (List.map cF ((simp_ f).1.kids)))]]) rfl (congrArg Blk.ver h58) (mcons (congrArg (fun v=>(0,v)) rfl) rfl) rfl (R_mv rfl (R_e ?_)))))
 refine W_seq_regc (fun T H=>T 2=(iV (o))∧T 6=(V.mp 6 1 0 0)∧T 11=(V.mp 11 1 0 0)∧T 12=(V.ms 58 1 0 (1))∧T 13=(V.mm 59 1)∧H 3=(bk 1 24 3 [[(iV (f.op)),(iV (f.arg)),(V.sl (List.map cF (f.kids)))]])∧H 6=(bk 1 45 4 [[(iV (0:Int)),(iV (0:Int)),V.nilsl,V.nilsl]])∧H 9=(bk 1 24 3 [[(iV ((simp_ f).1.op)),(iV ((simp_ f).1.arg)),(V.sl (List.map cF ((simp_ f).1.kids)))]])∧H 11=(bk 1 45 4 [[(iV ((i)*(o))),(iV (0:Int)),V.nilsl,V.nilsl]])∧H 17=(⟨0,false,false,0,0,[]⟩:Blk)∧H 58=(bk 1 24 3 [[(iV ((simp_ f).1.op)),(iV ((simp_ f).1.arg)),(V.sl (List.map cF ((simp_ f).1.kids)))]])∧H 59=(bz 1 mapH 2 (entT (esA [(simp_ f).1] 0)))∧H 81=(⟨0,false,false,0,0,[]⟩:Blk)∧H 811=(⟨0,false,false,0,0,[]⟩:Blk)∧H 812=(⟨0,false,false,0,0,[]⟩:Blk)∧True) ?_ ?_
 ·
  refine R_mkmap (i:=59) (n:=0) (rows:=entT (esA [] 0)) rfl (congrArg Blk.ver h59) rfl (R_lk rfl rfl rfl rfl (R_callk (key_pure ((simp_ f).1) (fval_ok v0) (fval_sz v0)) rfl (R_mset (B':=(bz 1 mapH 2 (entT (esA [(simp_ f).1] 0)))) (@rfl V (V.mm 59 1)) (@rfl V (V.str ((kyF ((simp_ f).1))))) (@rfl V (iV (0:Int))) (@rfl Blk (bz 1 mapH 2 (entT (esA [] 0)))) (set_es (l:=[]) (g:=(simp_ f).1) (Nat.not_lt_zero _)) (R_mv rfl (R_mv rfl ?_)))))
  exact R_nil ⟨t2,t6,rfl,rfl,rfl,h3,h6,rfl,rfl,h17,rfl,rfl,h81,h811,h812,trivial⟩
 intro T H ⟨t2,t6,t11,t12,t13,h3,h6,h9,h11,h17,h58,h59,h81,h811,h812,_⟩
 refine W_seq_seq ?_
 refine W_seq_g (fun T H=>T 2=(iV (o))∧T 6=(V.mp 6 1 0 0)∧T 11=(V.mp 11 1 0 0)∧T 12=(V.ms 58 1 0 (1))∧T 13=(V.mm 59 1)∧T 14=(iV (0:Int))∧H 3=(bk 1 24 3 [[(iV (f.op)),(iV (f.arg)),(V.sl (List.map cF (f.kids)))]])∧H 6=(bk 1 45 4 [[(iV (0:Int)),(iV (0:Int)),V.nilsl,V.nilsl]])∧H 9=(bk 1 24 3 [[(iV ((simp_ f).1.op)),(iV ((simp_ f).1.arg)),(V.sl (List.map cF ((simp_ f).1.kids)))]])∧H 11=(bk 1 45 4 [[(iV ((i)*(o))),(iV (0:Int)),V.nilsl,V.nilsl]])∧H 17=(⟨0,false,false,0,0,[]⟩:Blk)∧H 58=(bk 1 24 3 [[(iV ((simp_ f).1.op)),(iV ((simp_ f).1.arg)),(V.sl (List.map cF ((simp_ f).1.kids)))]])∧H 59=(bz 1 mapH 2 (entT (esA [(simp_ f).1] 0)))∧H 81=(⟨0,false,false,0,0,[]⟩:Blk)∧H 811=(⟨0,false,false,0,0,[]⟩:Blk)∧H 812=(⟨0,false,false,0,0,[]⟩:Blk)∧True) ?_ ?_
 ·
  refine R_mv rfl ?_
  exact R_nil ⟨t2,t6,t11,t12,t13,rfl,h3,h6,h9,h11,h17,h58,h59,h81,h811,h812,trivial⟩
 intro T H ⟨t2,t6,t11,t12,t13,t14,h3,h6,h9,h11,h17,h58,h59,h81,h811,h812,_⟩
 refine .lazyCell 812 25 1 11 0 2 [(iV ((i)*(o))),(iV (0:Int)),V.nilsl,V.nilsl] (by decide) (by rw [h11]; rfl) (by rw [h11]; rfl) rfl (fork_ (R:=fun T H=>T 2=(iV (o))∧T 6=(V.mp 6 1 0 0)∧T 11=(V.mp 11 1 0 0)∧T 12=(V.ms 58 1 0 (1))∧T 13=(V.mm 59 1)∧T 14=(iV (0:Int))∧H 3=(bk 1 24 3 [[(iV (f.op)),(iV (f.arg)),(V.sl (List.map cF (f.kids)))]])∧H 6=(bk 1 45 4 [[(iV (0:Int)),(iV (0:Int)),V.nilsl,V.nilsl]])∧H 9=(bk 1 24 3 [[(iV ((simp_ f).1.op)),(iV ((simp_ f).1.arg)),(V.sl (List.map cF ((simp_ f).1.kids)))]])∧H 11=(bk 1 45 4 [[(iV ((i)*(o))),(iV (0:Int)),(V.ms 812 1 0 (0)),V.nilsl]])∧H 17=(⟨0,false,false,0,0,[]⟩:Blk)∧H 58=(bk 1 24 3 [[(iV ((simp_ f).1.op)),(iV ((simp_ f).1.arg)),(V.sl (List.map cF ((simp_ f).1.kids)))]])∧H 59=(bz 1 mapH 2 (entT (esA [(simp_ f).1] 0)))∧H 81=(⟨0,false,false,0,0,[]⟩:Blk)∧H 811=(⟨0,false,false,0,0,[]⟩:Blk)∧H 812=(bz 1 25 1 [])∧True) ⟨t2,t6,t11,t12,t13,t14,((upd_ne _ _ (by decide)).trans ((upd_ne _ _ (by decide)).trans h3)),((upd_ne _ _ (by decide)).trans ((upd_ne _ _ (by decide)).trans h6)),((upd_ne _ _ (by decide)).trans ((upd_ne _ _ (by decide)).trans h9)),(by rw [upd_same,h11,(congrArg Blk.ver h812)]; rfl),((upd_ne _ _ (by decide)).trans ((upd_ne _ _ (by decide)).trans h17)),((upd_ne _ _ (by decide)).trans ((upd_ne _ _ (by decide)).trans h58)),((upd_ne _ _ (by decide)).trans ((upd_ne _ _ (by decide)).trans h59)),((upd_ne _ _ (by decide)).trans ((upd_ne _ _ (by decide)).trans h81)),((upd_ne _ _ (by decide)).trans ((upd_ne _ _ (by decide)).trans h811)),(by rw [upd_ne _ _ (by decide),upd_same,(congrArg Blk.ver h812)]),trivial⟩ ?_)
 intro T H ⟨t2,t6,t11,t12,t13,t14,h3,h6,h9,h11,h17,h58,h59,h81,h811,h812,_⟩
 refine .lazyCell 811 4 1 11 0 3 [(iV ((i)*(o))),(iV (0:Int)),(V.ms 812 1 0 (0)),V.nilsl] (by decide) (by rw [h11]; rfl) (by rw [h11]; rfl) rfl (.done ?_)
 refine fork_ (R:=fun T H=>T 2=(iV (o))∧T 6=(V.mp 6 1 0 0)∧T 11=(V.mp 11 1 0 0)∧T 12=(V.ms 58 1 0 (1))∧T 13=(V.mm 59 1)∧T 14=(iV (0:Int))∧H 3=(bk 1 24 3 [[(iV (f.op)),(iV (f.arg)),(V.sl (List.map cF (f.kids)))]])∧H 6=(bk 1 45 4 [[(iV (0:Int)),(iV (0:Int)),V.nilsl,V.nilsl]])∧H 9=(bk 1 24 3 [[(iV ((simp_ f).1.op)),(iV ((simp_ f).1.arg)),(V.sl (List.map cF ((simp_ f).1.kids)))]])∧H 11=(bk 1 45 4 [[(iV ((i)*(o))),(iV (0:Int)),(V.ms 812 1 0 (0)),(V.ms 811 1 0 (0))]])∧H 17=(⟨0,false,false,0,0,[]⟩:Blk)∧H 58=(bk 1 24 3 [[(iV ((simp_ f).1.op)),(iV ((simp_ f).1.arg)),(V.sl (List.map cF ((simp_ f).1.kids)))]])∧H 59=(bz 1 mapH 2 (entT (esA [(simp_ f).1] 0)))∧H 81=(⟨0,false,false,0,0,[]⟩:Blk)∧H 811=(bz 1 4 1 [])∧H 812=(bz 1 25 1 [])∧True) ⟨t2,t6,t11,t12,t13,t14,((upd_ne _ _ (by decide)).trans ((upd_ne _ _ (by decide)).trans h3)),((upd_ne _ _ (by decide)).trans ((upd_ne _ _ (by decide)).trans h6)),((upd_ne _ _ (by decide)).trans ((upd_ne _ _ (by decide)).trans h9)),(by rw [upd_same,h11,(congrArg Blk.ver h811)]; rfl),((upd_ne _ _ (by decide)).trans ((upd_ne _ _ (by decide)).trans h17)),((upd_ne _ _ (by decide)).trans ((upd_ne _ _ (by decide)).trans h58)),((upd_ne _ _ (by decide)).trans ((upd_ne _ _ (by decide)).trans h59)),((upd_ne _ _ (by decide)).trans ((upd_ne _ _ (by decide)).trans h81)),(by rw [upd_ne _ _ (by decide),upd_same,(congrArg Blk.ver h811)]),((upd_ne _ _ (by decide)).trans ((upd_ne _ _ (by decide)).trans h812)),trivial⟩ ?_
 intro T H ⟨t2,t6,t11,t12,t13,t14,h3,h6,h9,h11,h17,h58,h59,h81,h811,h812,_⟩
 refine W_seq_blockg fun Q7 n7 x7 y7 z7=>?_
 refine W_loop (fun mm T H=> ∃ (s:Nat) (l:List Fm) (nx:List (List Int)) (ac:List Bool) (v:Nat) (v1:Nat) (v2:Nat) (v17:Nat) (v81:Nat),mm=129 - s∧T 2=(iV (o))∧T 6=(V.mp 6 1 0 0)∧T 11=(V.mp 11 1 0 0)∧T 12=(V.ms 58 v 0 (l.length))∧T 13=(V.mm 59 1)∧T 14=(iV ((s:Nat):Int))∧H 3=(bk 1 24 3 [[(iV (f.op)),(iV (f.arg)),(V.sl (List.map cF (f.kids)))]])∧H 6=(bk 1 45 4 [[(iV (0:Int)),(iV (0:Int)),V.nilsl,V.nilsl]])∧H 9=(bk 1 24 3 [[(iV ((simp_ f).1.op)),(iV ((simp_ f).1.arg)),(V.sl (List.map cF ((simp_ f).1.kids)))]])∧H 11=(bk 1 45 4 [[(iV ((i)*(o))),(iV (0:Int)),(V.ms 812 v1 0 (nx.length)),(V.ms 811 v2 0 (ac.length))]])∧((H 17).ver=v17∧(H 17).live=false)∧H 58=(bk v 24 3 (List.map cF (l)))∧H 59=(bz 1 mapH 2 (entT (esA l 0)))∧((H 81).ver=v81∧(H 81).live=false)∧H 811=(bz v2 4 1 (List.map cB (ac)))∧H 812=(bz v1 25 1 (List.map cL (nx)))∧(s≤l.length)∧(l.length≤128)∧(nx.length=s∧ac.length=s)∧(∀ g∈l,fval g=0)∧(atmS (simp_ f).1 (i*o).toNat o.toNat=aOut (i*o).toNat o.toNat (129 - s) s l nx ac)) ?_ ?_
 ·
  refine ⟨_,0,[(simp_ f).1],[],[],1,1,1,0,0,rfl,t2,t6,t11,(Eq.trans t12 (by rfl)),t13,(Eq.trans t14 rfl),h3,h6,h9,(Eq.trans h11 (by rfl)),⟨(congrArg Blk.ver h17),congrArg Blk.live h17⟩,(Eq.trans h58 (by (simp [cF_eq]; done))),(Eq.trans h59 (by rfl)),⟨(congrArg Blk.ver h81),congrArg Blk.live h81⟩,(Eq.trans h811 (by rfl)),(Eq.trans h812 (by rfl)),?_,?_,?_,?_,?_⟩
  · exact Nat.zero_le _
  · show 1≤128; decide
  · exact ⟨rfl,rfl⟩
  · exact fun g hg=>by rw [List.mem_singleton.1 hg]; exact v0
  · rfl
 intro mm T H ⟨s,l,nx,ac,v,v1,v2,v17,v81,hmm,t2,t6,t11,t12,t13,t14,h3,h6,h9,h11,h17,h58,h59,h81,h811,h812,hs,hl,hn,hv,hc⟩ Q8 p18 p28 p38
 unfold b15_0
 refine W_seq_seq (W_r (R_mv t14 (R_mv t12 (R_len_ms rfl h58 (by simp) (R_lss rfl rfl (R_e ?_))))))
 refine W_seq_if rfl (fun c9=>?_) fun c9=>?_
 ·
  refine W_seq_skip (W_seq_blockg fun Q10 n10 x10 y10 z10=>(W_r (R_fk t11 h11 (R_lk rfl h11 rfl rfl (R_mv t12 (R_mv t14 (R_idx_ms0 (i:=s) (@rfl V (V.ms 58 v 0 (l.length))) (@rfl V (iV ((s:Nat):Int))) h58 oB rfl (by omega) ?_)))))))
  refine R_load_mp (v:=(V.agg [(iV (((nth (l) (s))).op)),(iV (((nth (l) (s))).arg)),(V.sl (List.map cF (((nth (l) (s))).kids)))])) rfl h58 (ldB_map (by omega) (by (rw [cF_eq]; rfl))) (R_callk (ends_pure (((nth (l) (s)))) (fval_ok (hv _ (nth_mem (by omega)))) (fval_sz (hv _ (nth_mem (by omega))))) rfl (R_bslice rfl rfl (R_append1 (l:=ac) (f:=cB) (x:=(sat t0 (((nth (l) (s)))) 0)) (@rfl V (V.ms 811 v2 0 (ac.length))) h811 (by rfl) (@rfl V (V.sl [[(V.bool (sat t0 (((nth (l) (s)))) 0))]])) rfl rfl (by omega) (by omega) (R_fk t11 h11 (R_sk rfl rfl rfl h11 rfl rfl rfl rfl rfl (R_e (W_r ?_)))))))
  refine R_fk t11 rfl (R_lk rfl rfl rfl rfl (R_mksm (i:=81) (n:=v81) (m:=0) (q:=(((i)*(o)).toNat)) (f:=cI) (x:=0) rfl (h81).1 (@rfl V (iV (0:Int))) (Eq.trans (@rfl V (iV ((i)*(o)))) (congrArg (V.int .i64) (by omega))) rfl (by omega) (by omega) (by omega) (R_mv rfl (R_e (W_seq_seq (W_r (R_fk t11 rfl ?_)))))))
  refine R_lk rfl rfl rfl rfl (R_mv rfl (R_e (W_seq_blockg fun Q11 n11 x11 y11 z11=>?_)))
  refine W_loop (fun mm T H=> ∃ (k:Nat) (l2:List Fm) (r:List Int) (w:Nat) (q:Nat) (v17:Nat),mm=(i*o).toNat - k∧T 2=(iV (o))∧T 6=(V.mp 6 1 0 0)∧T 11=(V.mp 11 1 0 0)∧T 12=(V.ms 58 w 0 (l2.length))∧T 13=(V.mm 59 1)∧T 14=(iV ((s:Nat):Int))∧T 15=(V.ms 81 q 0 (r.length))∧T 83=(iV ((i)*(o)))∧T 84=(iV ((k:Nat):Int))∧H 3=(bk 1 24 3 [[(iV (f.op)),(iV (f.arg)),(V.sl (List.map cF (f.kids)))]])∧H 6=(bk 1 45 4 [[(iV (0:Int)),(iV (0:Int)),V.nilsl,V.nilsl]])∧H 9=(bk 1 24 3 [[(iV ((simp_ f).1.op)),(iV ((simp_ f).1.arg)),(V.sl (List.map cF ((simp_ f).1.kids)))]])∧H 11=(bk 1 45 4 [[(iV ((i)*(o))),(iV (0:Int)),(V.ms 812 v1 0 (nx.length)),(V.ms 811 (v2+1) 0 (ac.length+1))]])∧((H 17).ver=v17∧(H 17).live=false)∧H 58=(bk w 24 3 (List.map cF (l2)))∧H 59=(bz 1 mapH 2 (entT (esA l2 0)))∧H 81=(bk q 3 1 (List.map cI (r)))∧H 811=(bz (v2+1) 4 1 (List.map cB (ac++[sat t0 (((nth (l) (s)))) 0])))∧H 812=(bz v1 25 1 (List.map cL (nx)))∧(k≤(i*o).toNat)∧(r.length=k)∧(s < l2.length)∧(l2.length≤128)∧(nth l2 s=nth l s)∧(∀ g∈l2,fval g=0)∧(aRow (nth l s) o.toNat (i*o).toNat 0 l []=aRow (nth l2 s) o.toNat ((i*o).toNat - k) k l2 r)) ?_ ?_
  ·
   refine ⟨_,0,l,[],v,(v81+1),v17,rfl,t2,t6,t11,t12,t13,t14,(Eq.trans (@rfl V (V.ms 81 (v81+1) 0 (0))) (by rfl)),rfl,(Eq.trans (@rfl V (iV (0:Int))) rfl),h3,h6,h9,rfl,h17,h58,h59,(Eq.trans (@rfl Blk (bk (v81+1) 3 1 (List.map cI (List.replicate 0 0)))) (by rfl)),rfl,h812,?_,?_,?_,?_,?_,?_,?_⟩
   · omega
   · rfl
   · omega
   · omega
   · rfl
   · exact hv
   · rfl
  intro mm T H ⟨k,l2,r,w,q,v17,hmm,t2,t6,t11,t12,t13,t14,t15,t83,t84,h3,h6,h9,h11,h17,h58,h59,h81,h811,h812,hk,hr,hs2,hl2,he,hv2,hc2⟩ Q12 p112 p212 p312
  unfold b15_1
  refine W_r (R_lss t84 t83 (R_e ?_))
  refine W_seq_if rfl (fun c13=>?_) fun c13=>?_
  ·
   refine W_seq_skip (W_seq_blockg fun Q14 n14 x14 y14 z14=>(W_r (R_mv t84 (R_mv rfl (R_e (W_d (by exact (lateC (h17).2 lateN)) (R_mv t12 ?_)))))))
   refine R_mv t14 (R_idx_ms0 (i:=s) (@rfl V (V.ms 58 w 0 (l2.length))) (@rfl V (iV ((s:Nat):Int))) h58 oB rfl (by omega) (R_load_mp (v:=(V.agg [(iV (((nth (l2) (s))).op)),(iV (((nth (l2) (s))).arg)),(V.sl (List.map cF (((nth (l2) (s))).kids)))])) rfl h58 (ldB_map (by omega) (by (rw [cF_eq]; rfl))) (R_mv rfl (R_mv t2 (R_quoN (m:=k) (n:=(((o)).toNat)) rfl (Eq.trans (@rfl V (iV (o))) (iv_toNat (by omega))) (by omega) (by omega) (R_mv rfl (R_mv t2 ?_)))))))
   refine R_remN (m:=k) (n:=(((o)).toNat)) rfl (Eq.trans (@rfl V (iV (o))) (iv_toNat (by omega))) (by omega) (by omega) (R_callk (mstep_pure (((nth (l2) (s)))) (((k / (((o)).toNat):Nat):Int)) (((k % (((o)).toNat):Nat):Int))) rfl (R_mv rfl (R_ext rfl rfl (R_ext rfl rfl (R_alloc (i:=17) (n:=v17) (m:=3) rfl (h17).1 rfl (R_sk rfl rfl rfl rfl rfl rfl rfl rfl rfl (R_mv rfl ?_)))))))
   refine R_e (W_seq_seq (W_r (R_mv rfl (R_neq rfl rfl (R_e ?_)))))
   refine W_seq_if rfl (fun c15=>?_) fun c15=>?_
   ·
    have d1:=atm_x d0 d2 d3 (hc.trans (aOut_err (by omega) hl (hc2.trans (aRow_err (by omega) c15)) c15)) c15
    refine W_seq_seq (W_r (R_build rfl rfl (R_mv rfl (R_sk t6 rfl rfl h6 rfl rfl rfl rfl rfl (R_mv rfl (R_e (W_seq_ret ?_)))))))
    refine y14 _ _ (p212 _ _ (y11 _ _ (y10 _ _ (p28 _ _ (y7 _ _ ?_)))))
    refine RetC_2 (resV_c (u:=(V.agg [(iV (0:Int)),(iV (0:Int)),V.nilsl,V.nilsl])) t6 (@rfl Blk (bk 1 45 4 [[(iV (0:Int)),(iV (0:Int)),V.nilsl,V.nilsl]])) (lB oB rfl rfl)) (resV_t (@rfl V (iV ((stM (((nth (l2) (s)))) (((k / (((o)).toNat):Nat):Int)) (((k % (((o)).toNat):Nat):Int))).2)))) (fz_aggL (mcons (fz_int ?_) (mcons (fz_int ?_) (mcons (fz_nil ?_) (mcons (fz_nil ?_) rfl))))) (fz_int ?_)
    · rw [d1]; try rfl
    · rw [d1]; try rfl
    · rw [d1]; try rfl
    · rw [d1]; try rfl
    · rw [d1]; try rfl
   have e1:=c15
   have x1:=stM_val c15
   refine W_seq_skip (W_r (R_mv t13 (R_lk rfl rfl rfl rfl (R_callk (key_pure ((stM (((nth (l2) (s)))) (((k / (((o)).toNat):Nat):Int)) (((k % (((o)).toNat):Nat):Int))).1) (fval_ok x1) (fval_sz x1)) rfl (R_mlook (z:=(iV (0:Int))) (u:=(iV ((lkV l2 (stM (nth l2 s) ((k / o.toNat:Nat):Int) ((k % o.toNat:Nat):Int)).1)))) (f:=decide (plc l2 (stM (nth l2 s) ((k / o.toNat:Nat):Int) ((k % o.toNat:Nat):Int)).1 < l2.length)) (@rfl V (V.mm 59 1)) (@rfl V (V.str ((kyF ((stM (((nth (l2) (s)))) (((k / (((o)).toNat):Nat):Int)) (((k % (((o)).toNat):Nat):Int))).1))))) h59 (look_es) (R_mv rfl (R_ext rfl rfl ?_)))))))
   refine R_ext rfl rfl (R_mv rfl (R_mv rfl (R_e (W_seq_seq (W_r (R_mv rfl (R_not rfl ?_)))))))
   refine R_e ?_
   refine W_seq_if rfl (fun c16=>?_) fun c16=>?_
   ·
    have e2:=c16
    refine W_seq_seq (W_r (R_mv t12 (R_len_ms rfl h58 (by simp) (R_mv rfl (R_e (W_seq_seq (W_seq_seq ?_)))))))
    refine W_r (R_mv rfl (R_geq rfl rfl (R_e ?_)))
    refine W_seq_if rfl (fun c17=>?_) fun c17=>?_
    ·
     have d1:=atm_x d0 d2 d3 (hc.trans (aOut_err (by omega) hl (hc2.trans (aRow_lim (by omega) e1 e2 (by omega))) (by decide))) (by decide)
     refine W_seq_seq ?_
     refine W_seq_regc (fun T H=>T 6=(V.mp 6 1 0 0)∧T 7=(iV (11:Int))∧H 3=(bk 1 24 3 [[(iV (f.op)),(iV (f.arg)),(V.sl (List.map cF (f.kids)))]])∧H 6=(bk 1 45 4 [[(iV (0:Int)),(iV (0:Int)),V.nilsl,V.nilsl]])∧H 9=(bk 1 24 3 [[(iV ((simp_ f).1.op)),(iV ((simp_ f).1.arg)),(V.sl (List.map cF ((simp_ f).1.kids)))]])∧H 11=(bk 1 45 4 [[(iV ((i)*(o))),(iV (0:Int)),(V.ms 812 v1 0 (nx.length)),(V.ms 811 (v2+1) 0 (ac.length+1))]])∧H 17=(bk (v17+1) 24 3 [[(iV ((stM (((nth (l2) (s)))) (((k / (((o)).toNat):Nat):Int)) (((k % (((o)).toNat):Nat):Int))).1.op)),(iV ((stM (((nth (l2) (s)))) (((k / (((o)).toNat):Nat):Int)) (((k % (((o)).toNat):Nat):Int))).1.arg)),(V.sl (List.map cF ((stM (((nth (l2) (s)))) (((k / (((o)).toNat):Nat):Int)) (((k % (((o)).toNat):Nat):Int))).1.kids)))]])∧H 58=(bk w 24 3 (List.map cF (l2)))∧H 59=(bz 1 mapH 2 (entT (esA l2 0)))∧H 81=(bk q 3 1 (List.map cI (r)))∧H 811=(bz (v2+1) 4 1 (List.map cB (ac++[sat t0 (((nth (l) (s)))) 0])))∧H 812=(bz v1 25 1 (List.map cL (nx)))∧True) ?_ ?_
     ·
      refine R_build rfl rfl (R_sk t6 rfl rfl h6 rfl rfl rfl rfl rfl (R_mv rfl ?_))
      exact R_nil ⟨t6,rfl,h3,rfl,h9,h11,rfl,h58,h59,h81,h811,h812,trivial⟩
     intro T H ⟨t6,t7,h3,h6,h9,h11,h17,h58,h59,h81,h811,h812,_⟩
     refine W_seq_ret (y14 _ _ (p212 _ _ (y11 _ _ (y10 _ _ (p28 _ _ (y7 _ _ ?_))))))
     refine RetC_2 (resV_c (u:=(V.agg [(iV (0:Int)),(iV (0:Int)),V.nilsl,V.nilsl])) t6 h6 (lB oB rfl rfl)) (resV_t t7) (fz_aggL (mcons (fz_int ?_) (mcons (fz_int ?_) (mcons (fz_nil ?_) (mcons (fz_nil ?_) rfl))))) (fz_int ?_)
     · rw [d1]; try rfl
     · rw [d1]; try rfl
     · rw [d1]; try rfl
     · rw [d1]; try rfl
     · rw [d1]; try rfl
    have e3: ¬128≤l2.length:=by omega
    refine W_seq_skip (W_seq_seq ?_)
    refine W_seq_regc (fun T H=>T 2=(iV (o))∧T 6=(V.mp 6 1 0 0)∧T 11=(V.mp 11 1 0 0)∧T 12=(V.ms 58 w 0 (l2.length))∧T 13=(V.mm 59 1)∧T 14=(iV ((s:Nat):Int))∧T 15=(V.ms 81 q 0 (r.length))∧T 17=(V.mp 17 (v17+1) 0 0)∧T 19=(iV ((l2.length:Nat):Int))∧T 83=(iV ((i)*(o)))∧T 84=(iV ((k:Nat):Int))∧H 3=(bk 1 24 3 [[(iV (f.op)),(iV (f.arg)),(V.sl (List.map cF (f.kids)))]])∧H 6=(bk 1 45 4 [[(iV (0:Int)),(iV (0:Int)),V.nilsl,V.nilsl]])∧H 9=(bk 1 24 3 [[(iV ((simp_ f).1.op)),(iV ((simp_ f).1.arg)),(V.sl (List.map cF ((simp_ f).1.kids)))]])∧H 11=(bk 1 45 4 [[(iV ((i)*(o))),(iV (0:Int)),(V.ms 812 v1 0 (nx.length)),(V.ms 811 (v2+1) 0 (ac.length+1))]])∧H 17=(bk (v17+1) 24 3 [[(iV ((stM (((nth (l2) (s)))) (((k / (((o)).toNat):Nat):Int)) (((k % (((o)).toNat):Nat):Int))).1.op)),(iV ((stM (((nth (l2) (s)))) (((k / (((o)).toNat):Nat):Int)) (((k % (((o)).toNat):Nat):Int))).1.arg)),(V.sl (List.map cF ((stM (((nth (l2) (s)))) (((k / (((o)).toNat):Nat):Int)) (((k % (((o)).toNat):Nat):Int))).1.kids)))]])∧H 58=(bk w 24 3 (List.map cF (l2)))∧H 59=(bz 1 mapH 2 (entT (esA (l2++[(stM (nth l2 s) ((k / o.toNat:Nat):Int) ((k % o.toNat:Nat):Int)).1]) 0)))∧H 81=(bk q 3 1 (List.map cI (r)))∧H 811=(bz (v2+1) 4 1 (List.map cB (ac++[sat t0 (((nth (l) (s)))) 0])))∧H 812=(bz v1 25 1 (List.map cL (nx)))∧True) ?_ ?_
    ·
     refine R_mv t13 (R_lk rfl rfl rfl rfl (R_callk (key_pure ((stM (((nth (l2) (s)))) (((k / (((o)).toNat):Nat):Int)) (((k % (((o)).toNat):Nat):Int))).1) (fval_ok x1) (fval_sz x1)) rfl (R_mv rfl (R_mset (B':=(bz 1 mapH 2 (entT (esA (l2++[(stM (nth l2 s) ((k / o.toNat:Nat):Int) ((k % o.toNat:Nat):Int)).1]) 0)))) (@rfl V (V.mm 59 1)) (@rfl V (V.str ((kyF ((stM (((nth (l2) (s)))) (((k / (((o)).toNat):Nat):Int)) (((k % (((o)).toNat):Nat):Int))).1))))) (@rfl V (iV ((l2.length:Nat):Int))) h59 (set_es e2) ?_))))
     exact R_nil ⟨t2,t6,t11,t12,t13,t14,t15,rfl,rfl,t83,t84,h3,h6,h9,h11,rfl,h58,rfl,h81,h811,h812,trivial⟩
    intro T H ⟨t2,t6,t11,t12,t13,t14,t15,t17,t19,t83,t84,h3,h6,h9,h11,h17,h58,h59,h81,h811,h812,_⟩
    refine W_r (R_mv t12 (R_lk t17 h17 rfl rfl (R_bslice rfl rfl (R_append1 (l:=l2) (f:=cF) (x:=((stM (((nth (l2) (s)))) (((k / (((o)).toNat):Nat):Int)) (((k % (((o)).toNat):Nat):Int))).1)) (@rfl V (V.ms 58 w 0 (l2.length))) h58 (by rfl) (row_F1 (x:=((stM (((nth (l2) (s)))) (((k / (((o)).toNat):Nat):Int)) (((k % (((o)).toNat):Nat):Int))).1)) (@rfl V (V.sl [[(iV ((stM (((nth (l2) (s)))) (((k / (((o)).toNat):Nat):Int)) (((k % (((o)).toNat):Nat):Int))).1.op)),(iV ((stM (((nth (l2) (s)))) (((k / (((o)).toNat):Nat):Int)) (((k % (((o)).toNat):Nat):Int))).1.arg)),(V.sl (List.map cF ((stM (((nth (l2) (s)))) (((k / (((o)).toNat):Nat):Int)) (((k % (((o)).toNat):Nat):Int))).1.kids)))]]))) (cF_len _) (cF_one _) (by omega) (by omega) (R_mv rfl (R_e (W_t ?_)))))))
    refine R_mv t15 (R_mv t19 (R_bslice rfl rfl (R_append1 (l:=r) (f:=cI) (x:=(((l2.length:Nat):Int))) (@rfl V (V.ms 81 q 0 (r.length))) h81 (by rfl) (@rfl V (V.sl [[(iV ((l2.length:Nat):Int))]])) rfl rfl (by omega) (by omega) (R_mv rfl (R_e (n14 _ _ (fork_ (R:=fun T H=>T 2=(iV (o))∧T 6=(V.mp 6 1 0 0)∧T 11=(V.mp 11 1 0 0)∧T 12=(V.ms 58 (w+1) 0 (l2.length+1))∧T 13=(V.mm 59 1)∧T 14=(iV ((s:Nat):Int))∧T 15=(V.ms 81 (q+1) 0 (r.length+1))∧T 83=(iV ((i)*(o)))∧T 84=(iV ((k:Nat):Int))∧H 3=(bk 1 24 3 [[(iV (f.op)),(iV (f.arg)),(V.sl (List.map cF (f.kids)))]])∧H 6=(bk 1 45 4 [[(iV (0:Int)),(iV (0:Int)),V.nilsl,V.nilsl]])∧H 9=(bk 1 24 3 [[(iV ((simp_ f).1.op)),(iV ((simp_ f).1.arg)),(V.sl (List.map cF ((simp_ f).1.kids)))]])∧H 11=(bk 1 45 4 [[(iV ((i)*(o))),(iV (0:Int)),(V.ms 812 v1 0 (nx.length)),(V.ms 811 (v2+1) 0 (ac.length+1))]])∧H 17=(bk (v17+1) 24 3 [[(iV ((stM (((nth (l2) (s)))) (((k / (((o)).toNat):Nat):Int)) (((k % (((o)).toNat):Nat):Int))).1.op)),(iV ((stM (((nth (l2) (s)))) (((k / (((o)).toNat):Nat):Int)) (((k % (((o)).toNat):Nat):Int))).1.arg)),(V.sl (List.map cF ((stM (((nth (l2) (s)))) (((k / (((o)).toNat):Nat):Int)) (((k % (((o)).toNat):Nat):Int))).1.kids)))]])∧H 58=(bk (w+1) 24 3 (List.map cF (l2++[(stM (((nth (l2) (s)))) (((k / (((o)).toNat):Nat):Int)) (((k % (((o)).toNat):Nat):Int))).1])))∧H 59=(bz 1 mapH 2 (entT (esA (l2++[(stM (nth l2 s) ((k / o.toNat:Nat):Int) ((k % o.toNat:Nat):Int)).1]) 0)))∧H 81=(bk (q+1) 3 1 (List.map cI (r++[((l2.length:Nat):Int)])))∧H 811=(bz (v2+1) 4 1 (List.map cB (ac++[sat t0 (((nth (l) (s)))) 0])))∧H 812=(bz v1 25 1 (List.map cL (nx)))∧True) ⟨t2,t6,t11,(@rfl V (V.ms 58 (w+1) 0 (l2.length+1))),t13,t14,(@rfl V (V.ms 81 (q+1) 0 (r.length+1))),t83,t84,h3,h6,h9,h11,h17,rfl,h59,rfl,h811,h812,trivial⟩ ?_)))))))
    intro T H ⟨t2,t6,t11,t12,t13,t14,t15,t83,t84,h3,h6,h9,h11,h17,h58,h59,h81,h811,h812,_⟩
    refine .freeze 17 (.done ?_)
    refine fork_ (R:=fun T H=>T 2=(iV (o))∧T 6=(V.mp 6 1 0 0)∧T 11=(V.mp 11 1 0 0)∧T 12=(V.ms 58 (w+1) 0 (l2.length+1))∧T 13=(V.mm 59 1)∧T 14=(iV ((s:Nat):Int))∧T 15=(V.ms 81 (q+1) 0 (r.length+1))∧T 83=(iV ((i)*(o)))∧T 84=(iV ((k:Nat):Int))∧H 3=(bk 1 24 3 [[(iV (f.op)),(iV (f.arg)),(V.sl (List.map cF (f.kids)))]])∧H 6=(bk 1 45 4 [[(iV (0:Int)),(iV (0:Int)),V.nilsl,V.nilsl]])∧H 9=(bk 1 24 3 [[(iV ((simp_ f).1.op)),(iV ((simp_ f).1.arg)),(V.sl (List.map cF ((simp_ f).1.kids)))]])∧H 11=(bk 1 45 4 [[(iV ((i)*(o))),(iV (0:Int)),(V.ms 812 v1 0 (nx.length)),(V.ms 811 (v2+1) 0 (ac.length+1))]])∧((H 17).ver=v17+1∧(H 17).live=false)∧H 58=(bk (w+1) 24 3 (List.map cF (l2++[(stM (((nth (l2) (s)))) (((k / (((o)).toNat):Nat):Int)) (((k % (((o)).toNat):Nat):Int))).1])))∧H 59=(bz 1 mapH 2 (entT (esA (l2++[(stM (nth l2 s) ((k / o.toNat:Nat):Int) ((k % o.toNat:Nat):Int)).1]) 0)))∧H 81=(bk (q+1) 3 1 (List.map cI (r++[((l2.length:Nat):Int)])))∧H 811=(bz (v2+1) 4 1 (List.map cB (ac++[sat t0 (((nth (l) (s)))) 0])))∧H 812=(bz v1 25 1 (List.map cL (nx)))∧True) ⟨(fzT_q t2 rfl),(fzT_q t6 rfl),(fzT_q t11 rfl),(fzT_q t12 (fzq_other (by decide))),(fzT_q t13 rfl),(fzT_q t14 rfl),(fzT_q t15 (fzq_other (by decide))),(fzT_q t83 rfl),(fzT_q t84 rfl),(kill_ne h3 (by decide)),(kill_ne h6 (by decide)),(kill_ne h9 (by decide)),(kill_ne h11 (by decide)),(kill_self (congrArg Blk.ver h17)),(kill_ne h58 (by decide)),(kill_ne h59 (by decide)),(kill_ne h81 (by decide)),(kill_ne h811 (by decide)),(kill_ne h812 (by decide)),trivial⟩ ?_
    intro T H ⟨t2,t6,t11,t12,t13,t14,t15,t83,t84,h3,h6,h9,h11,h17,h58,h59,h81,h811,h812,_⟩
    refine W_t (R_addN t84 (@rfl V (iV ((1:Nat):Int))) (by omega) (R_mv rfl (R_e ?_)))
    refine p112 _ _ _ ?_ ⟨(k+1),(l2++[(stM (((nth (l2) (s)))) (((k / (((o)).toNat):Nat):Int)) (((k % (((o)).toNat):Nat):Int))).1]),(r++[((l2.length:Nat):Int)]),(w+1),(q+1),(v17+1),rfl,t2,t6,t11,(Eq.trans t12 (by simp)),t13,t14,(Eq.trans t15 (by simp)),t83,(Eq.trans (@rfl V (iV ((k+1:Nat):Int))) (by rfl)),h3,h6,h9,h11,h17,(Eq.trans h58 (by rfl)),(Eq.trans h59 (by rfl)),(Eq.trans h81 (by rfl)),h811,h812,?_,?_,?_,?_,?_,?_,?_⟩
    · omega
    · omega
    · rw [List.length_append,hr]; rfl
    · first|omega|(rw [List.length_append]; omega)
    · first|omega|(rw [List.length_append]; simp; omega)
    · first|exact he|(rw [nth_snoc hs2]; exact he)
    · first|exact hv2|exact val_snoc hv2 x1
    · first|exact hc2.trans (aRow_old (by omega) e1 e2)|(rw [nth_snoc hs2]; exact hc2.trans ((aRow_new (by omega) (by rw [← he] at*; exact e1) e2 e3).trans rfl))|(rw [nth_snoc hs2]; exact hc2.trans (aRow_new (by omega) e1 e2 e3))
   have e2:=Decidable.of_not_not c16
   refine W_seq_skip (W_t (R_mv t15 (R_mv rfl (R_bslice rfl rfl (R_append1 (l:=r) (f:=cI) (x:=(((lkV l2 (stM (nth l2 s) ((k / o.toNat:Nat):Int) ((k % o.toNat:Nat):Int)).1)))) (@rfl V (V.ms 81 q 0 (r.length))) h81 (by rfl) (@rfl V (V.sl [[(iV ((lkV l2 (stM (nth l2 s) ((k / o.toNat:Nat):Int) ((k % o.toNat:Nat):Int)).1)))]])) rfl rfl (by omega) (by omega) (R_mv rfl (R_e ?_)))))))
   refine n14 _ _ (fork_ (R:=fun T H=>T 2=(iV (o))∧T 6=(V.mp 6 1 0 0)∧T 11=(V.mp 11 1 0 0)∧T 12=(V.ms 58 w 0 (l2.length))∧T 13=(V.mm 59 1)∧T 14=(iV ((s:Nat):Int))∧T 15=(V.ms 81 (q+1) 0 (r.length+1))∧T 83=(iV ((i)*(o)))∧T 84=(iV ((k:Nat):Int))∧H 3=(bk 1 24 3 [[(iV (f.op)),(iV (f.arg)),(V.sl (List.map cF (f.kids)))]])∧H 6=(bk 1 45 4 [[(iV (0:Int)),(iV (0:Int)),V.nilsl,V.nilsl]])∧H 9=(bk 1 24 3 [[(iV ((simp_ f).1.op)),(iV ((simp_ f).1.arg)),(V.sl (List.map cF ((simp_ f).1.kids)))]])∧H 11=(bk 1 45 4 [[(iV ((i)*(o))),(iV (0:Int)),(V.ms 812 v1 0 (nx.length)),(V.ms 811 (v2+1) 0 (ac.length+1))]])∧H 17=(bk (v17+1) 24 3 [[(iV ((stM (((nth (l2) (s)))) (((k / (((o)).toNat):Nat):Int)) (((k % (((o)).toNat):Nat):Int))).1.op)),(iV ((stM (((nth (l2) (s)))) (((k / (((o)).toNat):Nat):Int)) (((k % (((o)).toNat):Nat):Int))).1.arg)),(V.sl (List.map cF ((stM (((nth (l2) (s)))) (((k / (((o)).toNat):Nat):Int)) (((k % (((o)).toNat):Nat):Int))).1.kids)))]])∧H 58=(bk w 24 3 (List.map cF (l2)))∧H 59=(bz 1 mapH 2 (entT (esA l2 0)))∧H 81=(bk (q+1) 3 1 (List.map cI (r++[((lkV l2 (stM (nth l2 s) ((k / o.toNat:Nat):Int) ((k % o.toNat:Nat):Int)).1))])))∧H 811=(bz (v2+1) 4 1 (List.map cB (ac++[sat t0 (((nth (l) (s)))) 0])))∧H 812=(bz v1 25 1 (List.map cL (nx)))∧True) ⟨t2,t6,t11,t12,t13,t14,(@rfl V (V.ms 81 (q+1) 0 (r.length+1))),t83,t84,h3,h6,h9,h11,rfl,h58,h59,rfl,h811,h812,trivial⟩ ?_)
   intro T H ⟨t2,t6,t11,t12,t13,t14,t15,t83,t84,h3,h6,h9,h11,h17,h58,h59,h81,h811,h812,_⟩
   refine .freeze 17 (.done ?_)
   refine fork_ (R:=fun T H=>T 2=(iV (o))∧T 6=(V.mp 6 1 0 0)∧T 11=(V.mp 11 1 0 0)∧T 12=(V.ms 58 w 0 (l2.length))∧T 13=(V.mm 59 1)∧T 14=(iV ((s:Nat):Int))∧T 15=(V.ms 81 (q+1) 0 (r.length+1))∧T 83=(iV ((i)*(o)))∧T 84=(iV ((k:Nat):Int))∧H 3=(bk 1 24 3 [[(iV (f.op)),(iV (f.arg)),(V.sl (List.map cF (f.kids)))]])∧H 6=(bk 1 45 4 [[(iV (0:Int)),(iV (0:Int)),V.nilsl,V.nilsl]])∧H 9=(bk 1 24 3 [[(iV ((simp_ f).1.op)),(iV ((simp_ f).1.arg)),(V.sl (List.map cF ((simp_ f).1.kids)))]])∧H 11=(bk 1 45 4 [[(iV ((i)*(o))),(iV (0:Int)),(V.ms 812 v1 0 (nx.length)),(V.ms 811 (v2+1) 0 (ac.length+1))]])∧((H 17).ver=v17+1∧(H 17).live=false)∧H 58=(bk w 24 3 (List.map cF (l2)))∧H 59=(bz 1 mapH 2 (entT (esA l2 0)))∧H 81=(bk (q+1) 3 1 (List.map cI (r++[((lkV l2 (stM (nth l2 s) ((k / o.toNat:Nat):Int) ((k % o.toNat:Nat):Int)).1))])))∧H 811=(bz (v2+1) 4 1 (List.map cB (ac++[sat t0 (((nth (l) (s)))) 0])))∧H 812=(bz v1 25 1 (List.map cL (nx)))∧True) ⟨(fzT_q t2 rfl),(fzT_q t6 rfl),(fzT_q t11 rfl),(fzT_q t12 (fzq_other (by decide))),(fzT_q t13 rfl),(fzT_q t14 rfl),(fzT_q t15 (fzq_other (by decide))),(fzT_q t83 rfl),(fzT_q t84 rfl),(kill_ne h3 (by decide)),(kill_ne h6 (by decide)),(kill_ne h9 (by decide)),(kill_ne h11 (by decide)),(kill_self (congrArg Blk.ver h17)),(kill_ne h58 (by decide)),(kill_ne h59 (by decide)),(kill_ne h81 (by decide)),(kill_ne h811 (by decide)),(kill_ne h812 (by decide)),trivial⟩ ?_
   intro T H ⟨t2,t6,t11,t12,t13,t14,t15,t83,t84,h3,h6,h9,h11,h17,h58,h59,h81,h811,h812,_⟩
   refine W_t (R_addN t84 (@rfl V (iV ((1:Nat):Int))) (by omega) (R_mv rfl (R_e ?_)))
   refine p112 _ _ _ ?_ ⟨(k+1),l2,(r++[((lkV l2 (stM (nth l2 s) ((k / o.toNat:Nat):Int) ((k % o.toNat:Nat):Int)).1))]),w,(q+1),(v17+1),rfl,t2,t6,t11,t12,t13,t14,(Eq.trans t15 (by simp)),t83,(Eq.trans (@rfl V (iV ((k+1:Nat):Int))) (by rfl)),h3,h6,h9,h11,h17,h58,h59,(Eq.trans h81 (by rfl)),h811,h812,?_,?_,?_,?_,?_,?_,?_⟩
   · omega
   · omega
   · rw [List.length_append,hr]; rfl
   · first|omega|(rw [List.length_append]; omega)
   · first|omega|(rw [List.length_append]; simp; omega)
   · first|exact he|(rw [nth_snoc hs2]; exact he)
   · first|exact hv2|exact val_snoc hv2 x1
   · first|exact hc2.trans (aRow_old (by omega) e1 e2)|(rw [nth_snoc hs2]; exact hc2.trans ((aRow_new (by omega) (by rw [← he] at*; exact e1) e2 e3).trans rfl))|(rw [nth_snoc hs2]; exact hc2.trans (aRow_new (by omega) e1 e2 e3))
  have hr0:=hc2.trans (aRow_end (by omega))
  refine W_seq_exit (p312 _ _ _ (x11 _ _ (fork_ (R:=fun T H=>T 2=(iV (o))∧T 6=(V.mp 6 1 0 0)∧T 11=(V.mp 11 1 0 0)∧T 12=(V.ms 58 w 0 (l2.length))∧T 13=(V.mm 59 1)∧T 14=(iV ((s:Nat):Int))∧T 15=(V.ms 81 q 0 (r.length))∧T 83=(iV ((i)*(o)))∧T 84=(iV ((k:Nat):Int))∧T 85=(V.bool (decide (((k:Nat):Int) < ((i)*(o)))))∧H 3=(bk 1 24 3 [[(iV (f.op)),(iV (f.arg)),(V.sl (List.map cF (f.kids)))]])∧H 6=(bk 1 45 4 [[(iV (0:Int)),(iV (0:Int)),V.nilsl,V.nilsl]])∧H 9=(bk 1 24 3 [[(iV ((simp_ f).1.op)),(iV ((simp_ f).1.arg)),(V.sl (List.map cF ((simp_ f).1.kids)))]])∧H 11=(bk 1 45 4 [[(iV ((i)*(o))),(iV (0:Int)),(V.ms 812 v1 0 (nx.length)),(V.ms 811 (v2+1) 0 (ac.length+1))]])∧((H 17).ver=v17∧(H 17).live=false)∧H 58=(bk w 24 3 (List.map cF (l2)))∧H 59=(bz 1 mapH 2 (entT (esA l2 0)))∧H 81=(bk q 3 1 (List.map cI (r)))∧H 811=(bz (v2+1) 4 1 (List.map cB (ac++[sat t0 (((nth (l) (s)))) 0])))∧H 812=(bz v1 25 1 (List.map cL (nx)))∧True) ⟨t2,t6,t11,t12,t13,t14,t15,t83,t84,(@rfl V (V.bool (decide (((k:Nat):Int) < ((i)*(o)))))),h3,h6,h9,h11,h17,h58,h59,h81,h811,h812,trivial⟩ ?_)))
  intro T H ⟨t2,t6,t11,t12,t13,t14,t15,t83,t84,t85,h3,h6,h9,h11,h17,h58,h59,h81,h811,h812,_⟩
  refine .freeze 81 (.done ?_)
  refine fork_ (R:=fun T H=>T 2=(iV (o))∧T 6=(V.mp 6 1 0 0)∧T 11=(V.mp 11 1 0 0)∧T 12=(V.ms 58 w 0 (l2.length))∧T 13=(V.mm 59 1)∧T 14=(iV ((s:Nat):Int))∧T 15=(ints r)∧T 83=(iV ((i)*(o)))∧T 84=(iV ((k:Nat):Int))∧T 85=(V.bool (decide (((k:Nat):Int) < ((i)*(o)))))∧H 3=(bk 1 24 3 [[(iV (f.op)),(iV (f.arg)),(V.sl (List.map cF (f.kids)))]])∧H 6=(bk 1 45 4 [[(iV (0:Int)),(iV (0:Int)),V.nilsl,V.nilsl]])∧H 9=(bk 1 24 3 [[(iV ((simp_ f).1.op)),(iV ((simp_ f).1.arg)),(V.sl (List.map cF ((simp_ f).1.kids)))]])∧H 11=(bk 1 45 4 [[(iV ((i)*(o))),(iV (0:Int)),(V.ms 812 v1 0 (nx.length)),(V.ms 811 (v2+1) 0 (ac.length+1))]])∧((H 17).ver=v17∧(H 17).live=false)∧H 58=(bk w 24 3 (List.map cF (l2)))∧H 59=(bz 1 mapH 2 (entT (esA l2 0)))∧((H 81).ver=q∧(H 81).live=false)∧H 811=(bz (v2+1) 4 1 (List.map cB (ac++[sat t0 (((nth (l) (s)))) 0])))∧H 812=(bz v1 25 1 (List.map cL (nx)))∧True) ⟨(fzT_q t2 rfl),(fzT_q t6 rfl),(fzT_q t11 rfl),(fzT_q t12 (fzq_other (by decide))),(fzT_q t13 rfl),(fzT_q t14 rfl),(fzT_q t15 (fzq_own h81 (by simp) (l:=r) rfl (by rfl))),(fzT_q t83 rfl),(fzT_q t84 rfl),(fzT_q t85 rfl),(kill_ne h3 (by decide)),(kill_ne h6 (by decide)),(kill_ne h9 (by decide)),(kill_ne h11 (by decide)),(kill_dead h17),(kill_ne h58 (by decide)),(kill_ne h59 (by decide)),(kill_self (congrArg Blk.ver h81)),(kill_ne h811 (by decide)),(kill_ne h812 (by decide)),trivial⟩ ?_
  intro T H ⟨t2,t6,t11,t12,t13,t14,t15,t83,t84,t85,h3,h6,h9,h11,h17,h58,h59,h81,h811,h812,_⟩
  refine W_t (R_fk t11 h11 (R_lk rfl h11 rfl rfl (R_mv t15 (R_bslice rfl rfl (R_append1 (l:=nx) (f:=cL) (x:=r) (@rfl V (V.ms 812 v1 0 (nx.length))) h812 (by rfl) (@rfl V (V.sl [[(ints r)]])) rfl rfl (by omega) (by omega) (R_fk t11 h11 (R_sk rfl rfl rfl h11 rfl rfl rfl rfl rfl ?_)))))))
  refine R_e (n10 _ _ (.done (W_t (R_mv t14 (R_addN rfl (@rfl V (iV ((1:Nat):Int))) (by omega) (R_mv rfl (R_e ?_)))))))
  refine p18 _ _ _ ?_ ⟨(s+1),l2,(nx++[r]),(ac++[sat t0 (nth l s) 0]),w,(v1+1),(v2+1),v17,q,rfl,t2,t6,t11,t12,t13,(Eq.trans (@rfl V (iV ((s+1:Nat):Int))) (by rfl)),h3,h6,h9,(Eq.trans (@rfl Blk (bk 1 45 4 [[(iV ((i)*(o))),(iV (0:Int)),(V.ms 812 (v1+1) 0 (nx.length+1)),(V.ms 811 (v2+1) 0 (ac.length+1))]])) (by (simp [cF_eq]; done))),h17,h58,h59,h81,(Eq.trans h811 (by rfl)),(Eq.trans (@rfl Blk (bz (v1+1) 25 1 (List.map cL (nx++[r])))) (by rfl)),?_,?_,?_,?_,?_⟩
  · omega
  · omega
  · exact hl2
  · exact ⟨by rw [List.length_append,hn.1]; rfl,by rw [List.length_append,hn.2]; rfl⟩
  · exact hv2
  · exact hc.trans (aOut_go (by omega) hl hr0)
 have d9:=atm_g d0 d2 d3 (hc.trans (aOut_end (by omega)))
 refine W_seq_exit (p38 _ _ _ (x7 _ _ (.done (W_r (R_lk t11 h11 rfl rfl (R_sk t6 rfl rfl h6 rfl rfl rfl rfl rfl (R_mv rfl ?_)))))))
 refine R_e (W_ret ?_)
 refine RetC_2 (resV_c (u:=(V.agg [(iV ((i)*(o))),(iV (0:Int)),(V.ms 812 v1 0 (nx.length)),(V.ms 811 v2 0 (ac.length))])) t6 (@rfl Blk (bk 1 45 4 [[(iV ((i)*(o))),(iV (0:Int)),(V.ms 812 v1 0 (nx.length)),(V.ms 811 v2 0 (ac.length))]])) (lB oB rfl rfl)) (resV_t (@rfl V (iV (0:Int)))) (fz_aggL (mcons (fz_int ?_) (mcons (fz_int ?_) (mcons (fz_ms h812 (by simp) (l:=nx) rfl (by rfl) (fun _=>by simp) ?_) (mcons (fz_ms h811 (by simp) (l:=ac) rfl (by rfl) (fun _=>by simp) ?_) rfl))))) (fz_int ?_)
 · rw [d9]; try rfl
 · rw [d9]; try rfl
 · rw [d9]; try rfl
 · rw [d9]; try rfl
 · rw [d9]; try rfl
end Go.Proofs.YteehaobohaecmaaDoor
namespace Go.Proofs.YteehaobohaecmaaDoor
open Go Go.Proofs
def r16_1:List SO:=[
 qF 6 0 2,
 ql 7 6,
 qF 8 0 3,
 ql 9 8,
 qP 10 .neq 7 9,
 qM 11 10,
 ⟨some (11,false),some 12,.fld 1 (.t 2)⟩,
 ⟨some (11,false),some 13,.load false 1 (.t 12)⟩,
 ⟨some (11,false),some 14,.fld 1 (.t 3)⟩,
 ⟨some (11,false),some 15,.load false 1 (.t 14)⟩,
 ⟨some (11,false),some 16,.bin .neq (.t 13) (.t 15)⟩,
 sO 17 (.pick (.t 11) (.c (.bool true)) (.t 16)),
 qM 18 17,
 ⟨some (18,false),some 19,.fld 2 (.t 2)⟩,
 ⟨some (18,false),some 20,.load false 1 (.t 19)⟩,
 ⟨some (18,false),some 21,.fld 2 (.t 3)⟩,
 ⟨some (18,false),some 22,.load false 1 (.t 21)⟩,
 ⟨some (18,false),some 23,.call false 28 [.t 20,.t 22]⟩,
 ⟨some (18,false),some 24,.un .not (.t 23)⟩,
 sO 25 (.pick (.t 18) (.c (.bool true)) (.t 24)),
 qM 26 25,
 ⟨some (26,false),some 27,.fld 3 (.t 2)⟩,
 ⟨some (26,false),some 28,.load false 1 (.t 27)⟩,
 ⟨some (26,false),some 29,.len (.t 28)⟩,
 ⟨some (26,false),some 30,.fld 3 (.t 3)⟩,
 ⟨some (26,false),some 31,.load false 1 (.t 30)⟩,
 ⟨some (26,false),some 32,.len (.t 31)⟩,
 ⟨some (26,false),some 33,.bin .neq (.t 29) (.t 32)⟩,
 sO 34 (.pick (.t 26) (.c (.bool true)) (.t 33))]
def r16_6:List SO:=[
 qF 42 3 2,
 ql 43 42,
 qM 44 5,
 qA 45 1 43 44,
 ql 46 45,
 qF 47 3 3,
 ql 48 47,
 qM 49 5,
 qA 50 1 48 49,
 ql 51 50,
 sO 52 (.bbin .neq (.t 46) (.t 51))]
def b16_0:SC:=.seq (.seq (.reg [qM 35 5,qF 36 3 2,ql 37 36,qN 38 37,qP 39 .lss 35 38]) (.cond (.t 39) (.skip) (.exit 0))) (.seq (.block 1 (.seq (.reg r16_6) (.cond (.t 52) (.seq (.reg [sO 4 (.mv (.c (.bool false)))]) (.ret)) (.skip)))) (.reg [qM 40 5,qC 41 .add 40 1,qM 5 41]))
def s16:SF:=⟨53,[.tmp 4],.seq (.reg [sO 2 (.box 45 4 (.t 0)),sO 3 (.box 45 4 (.t 1)),sO 4 (.mv (.c (.bool false)))]) (.seq (.seq (.reg r16_1) (.cond (.t 34) (.seq (.reg [sO 4 (.mv (.c (.bool false)))]) (.ret)) (.skip))) (.seq (.seq (.reg [qI 5 0]) (.block 0 (.loop b16_0))) (.seq (.reg [sO 4 (.mv (.c (.bool true)))]) (.ret))))⟩
theorem s16_ok:slimF Tryd.prog ⟨[32,48,55,93,94,95,100],[],[],[]⟩ Tryd.f16=some s16:=by kernel_rfl
def r28_6:List SO:=[
 qM 17 0,
 qM 18 5,
 qA 19 1 17 18,
 ql 20 19,
 qM 21 1,
 qM 22 5,
 qA 23 1 21 22,
 ql 24 23,
 sO 25 (.call false 42 [.t 20,.t 24]),
 sO 26 (.un .not (.t 25))]
def b28_0:SC:=.seq (.seq (.reg [qM 11 5,qM 12 0,qN 13 12,qP 14 .lss 11 13]) (.cond (.t 14) (.skip) (.exit 0))) (.seq (.block 1 (.seq (.reg r28_6) (.cond (.t 26) (.seq (.reg [sO 4 (.mv (.c (.bool false)))]) (.ret)) (.skip)))) (.reg [qM 15 5,qC 16 .add 15 1,qM 5 16]))
def s28:SF:=⟨27,[.tmp 4],.seq (.reg [sO 4 (.mv (.c (.bool false)))]) (.seq (.seq (.reg [qM 6 0,qN 7 6,qM 8 1,qN 9 8,qP 10 .neq 7 9]) (.cond (.t 10) (.seq (.reg [sO 4 (.mv (.c (.bool false)))]) (.ret)) (.skip))) (.seq (.seq (.reg [qI 5 0]) (.block 0 (.loop b28_0))) (.seq (.reg [sO 4 (.mv (.c (.bool true)))]) (.ret))))⟩
theorem s28_ok:slimF Tryd.prog ⟨[32,48,55,93,94,95,100],[],[],[]⟩ Tryd.f28=some s28:=by kernel_rfl
def r42_1:List SO:=[
 qM 5 0,
 qN 6 5,
 qM 7 1,
 qN 8 7,
 qP 9 .eql 6 8,
 qM 10 9,
 ⟨some (10,true),some 11,.mv (.t 0)⟩,
 ⟨some (10,true),some 12,.mv (.t 1)⟩,
 ⟨some (10,true),some 13,.call false 51 [.t 11,.t 12]⟩,
 ⟨some (10,true),some 14,.mv (.t 0)⟩,
 ⟨some (10,true),some 15,.len (.t 14)⟩,
 ⟨some (10,true),some 16,.bin .eql (.t 13) (.t 15)⟩,
 sO 17 (.pick (.t 10) (.t 16) (.c (.bool false))),
 qM 4 17]
def s42:SF:=⟨18,[.tmp 4],.seq (.reg [sO 4 (.mv (.c (.bool false)))]) (.seq (.reg r42_1) (.ret))⟩
theorem s42_ok:slimF Tryd.prog ⟨[32,48,55,93,94,95,100],[],[],[]⟩ Tryd.f42=some s42:=by kernel_rfl
def r51_2:List SO:=[
 qM 6 5,
 qM 7 0,
 qN 8 7,
 qP 9 .lss 6 8,
 qM 10 9,
 ⟨some (10,true),some 11,.mv (.t 5)⟩,
 ⟨some (10,true),some 12,.mv (.t 1)⟩,
 ⟨some (10,true),some 13,.len (.t 12)⟩,
 ⟨some (10,true),some 14,.bin .lss (.t 11) (.t 13)⟩,
 sO 15 (.pick (.t 10) (.t 14) (.c (.bool false))),
 qM 16 15,
 ⟨some (16,true),some 17,.mv (.t 0)⟩,
 ⟨some (16,true),some 18,.mv (.t 5)⟩,
 ⟨some (16,true),some 19,.idx 1 (.t 17) (.t 18)⟩,
 ⟨some (16,true),some 20,.load false 1 (.t 19)⟩,
 ⟨some (16,true),some 21,.mv (.t 1)⟩,
 ⟨some (16,true),some 22,.mv (.t 5)⟩,
 ⟨some (16,true),some 23,.idx 1 (.t 21) (.t 22)⟩,
 ⟨some (16,true),some 24,.load false 1 (.t 23)⟩,
 ⟨some (16,true),some 25,.bin .eql (.t 20) (.t 24)⟩,
 sO 26 (.pick (.t 16) (.t 25) (.c (.bool false)))]
def b51_0:SC:=.seq (.seq (.reg r51_2) (.cond (.t 26) (.skip) (.exit 0))) (.block 1 (.reg [qM 27 5,qC 28 .add 27 1,qM 5 28]))
def s51:SF:=⟨30,[.tmp 4],.seq (.reg [qI 4 0]) (.seq (.reg [qI 5 0]) (.seq (.block 0 (.loop b51_0)) (.seq (.reg [qM 29 5,qM 4 29]) (.ret))))⟩
theorem s51_ok:slimF Tryd.prog ⟨[32,48,55,93,94,95,100],[],[],[]⟩ Tryd.f51=some s51:=by kernel_rfl
theorem rcommon_pure (a b:List Int):PureC Tryd.prog 51 [(ints a),(ints b)] (iV ((cmn a b:Nat):Int)):=by
 refine pW Tryd.func51 s51_ok fun hB=>?_
 unfold s51
 dsimp only
 refine W_r (R_mv rfl (R_e (W_r (R_mv rfl (R_e (W_seq_blockg fun Q1 n1 x1 y1 z1=>?_))))))
 refine W_loop (fun mm T H=> ∃ (k:Nat),mm=a.length - k∧T 0=(ints a)∧T 1=(ints b)∧T 5=(iV ((k:Nat):Int))∧(k≤a.length)∧(k≤cmn a b)) ?_ ?_
 ·
  refine ⟨_,0,rfl,rfl,rfl,(Eq.trans (@rfl V (iV (0:Int))) rfl),?_,?_⟩
  · omega
  · exact Nat.zero_le _
 intro mm T H ⟨k,hmm,t0,t1,t5,hk,hc⟩ Q2 p12 p22 p32
 unfold b51_0
 refine W_seq_seq (W_r (R_mv t5 (R_mv t0 (R_len rfl (R_lss rfl rfl (R_mv rfl ?_))))))
 refine Ops_seg 5 (fun T H=>T 0=(ints a)∧T 1=(ints b)∧T 5=(iV ((k:Nat):Int))∧T 15=(V.bool (decide ((((k:Nat):Int) < ((a.length:Nat):Int))∧(((k:Nat):Int) < ((b.length:Nat):Int)))))∧True) ?_ ?_
 ·
  by_cases g3:((k:Nat):Int) < ((a.length:Nat):Int)
  ·
   refine G_yes (edT g3 rfl) (R_mv t5 (G_yes (edT g3 rfl) (R_mv t1 (G_yes (edT g3 rfl) (R_len rfl (G_yes (edT g3 rfl) (R_lss rfl rfl ?_)))))))
   refine R_pickT (edT g3 rfl) rfl ?_
   exact ⟨t0,t1,t5,(dec_andT g3),trivial⟩
  ·
   refine G_n (edF g3 rfl) (G_n (edF g3 rfl) (G_n (edF g3 rfl) (G_n (edF g3 rfl) (R_pickF (edF g3 rfl) rfl ?_))))
   exact ⟨t0,t1,t5,(dec_andF g3),trivial⟩
 intro T H ⟨t0,t1,t5,t15,_⟩
 refine R_mv t15 ?_
 refine Ops_seg 10 (fun T H=>T 0=(ints a)∧T 1=(ints b)∧T 5=(iV ((k:Nat):Int))∧T 26=(V.bool (decide (((((k:Nat):Int) < ((a.length:Nat):Int))∧(((k:Nat):Int) < ((b.length:Nat):Int)))∧(((nth (a) (k)))=((nth (b) (k)))))))∧True) ?_ ?_
 ·
  by_cases g4:(((k:Nat):Int) < ((a.length:Nat):Int))∧(((k:Nat):Int) < ((b.length:Nat):Int))
  ·
   refine G_yes (edT g4 rfl) (R_mv t0 (G_yes (edT g4 rfl) (R_mv t5 (G_yes (edT g4 rfl) (R_idx (i:=k) (@rfl V (ints a)) (@rfl V (iV ((k:Nat):Int))) (by omega) rfl (G_yes (edT g4 rfl) (R_load_pp rfl rfl ?_)))))))
   refine G_yes (edT g4 rfl) (R_mv t1 (G_yes (edT g4 rfl) (R_mv t5 (G_yes (edT g4 rfl) (R_idx (i:=k) (@rfl V (ints b)) (@rfl V (iV ((k:Nat):Int))) (by omega) rfl (G_yes (edT g4 rfl) (R_load_pp rfl rfl ?_)))))))
   refine G_yes (edT g4 rfl) (R_eql rfl rfl (R_pickT (edT g4 rfl) rfl ?_))
   exact ⟨t0,t1,t5,(dec_andT g4),trivial⟩
  ·
   refine G_n (edF g4 rfl) (G_n (edF g4 rfl) (G_n (edF g4 rfl) (G_n (edF g4 rfl) (G_n (edF g4 rfl) (G_n (edF g4 rfl) (G_n (edF g4 rfl) (G_n (edF g4 rfl) ?_)))))))
   refine G_n (edF g4 rfl) (R_pickF (edF g4 rfl) rfl ?_)
   exact ⟨t0,t1,t5,(dec_andF g4),trivial⟩
 intro T H ⟨t0,t1,t5,t26,_⟩
 refine R_e ?_
 refine W_seq_if t26 (fun c5=>?_) fun c5=>?_
 ·
  refine W_seq_skip (W_block fun Q6 n6 x6 y6 z6=>(W_t (R_mv t5 (R_addN rfl (@rfl V (iV ((1:Nat):Int))) (by omega) (R_mv rfl (R_e (n6 _ _ ?_)))))))
  refine p12 _ _ _ ?_ ⟨(k+1),rfl,t0,t1,(Eq.trans (@rfl V (iV ((k+1:Nat):Int))) (by rfl)),?_,?_⟩
  · omega
  · omega
  · exact cmn_next hc (by omega) (by omega) (by omega)
 refine W_seq_exit (p32 _ _ _ (x1 _ _ (.done (W_r (R_mv t5 (R_mv rfl (R_e ?_)))))))
 refine W_ret ?_
 refine Ret_1 (@rfl V (iV ((k:Nat):Int))) (fz_int ?_)
 · rw [cmn_at hc (by omega)]
end Go.Proofs.YteehaobohaecmaaDoor
namespace Go.Proofs.YteehaobohaecmaaDoor
theorem same_dec (a b:List Int):decide ((a.length:Int)=(b.length:Int)∧(cmn a b:Int)=(a.length:Int))=decide (a=b):=by
  have h:=cmn_spec a b
  refine decide_eq_decide.2 ⟨fun ⟨e1,e2⟩=>nth_ext (by omega) fun j hj=>h.2.2.1 j (by omega),fun e=>?_⟩
  subst e
  have:cmn a a=a.length:=by
    rcases Nat.lt_or_ge (cmn a a) a.length with q|q
    · exact (h.2.2.2 q q rfl).elim
    · omega
  exact ⟨rfl,by omega⟩
end Go.Proofs.YteehaobohaecmaaDoor
namespace Go.Proofs.YteehaobohaecmaaDoor
open Go Go.Proofs
theorem rsame1_pure (a b:List Int):PureC Tryd.prog 42 [(ints a),(ints b)] (V.bool (decide (a=b))):=by
 refine pW Tryd.func42 s42_ok fun hB=>?_
 unfold s42
 dsimp only
 refine W_r (R_mv rfl (R_e (W_r (R_mv rfl (R_len rfl (R_mv rfl (R_len rfl ?_)))))))
 refine R_eql rfl rfl (R_mv rfl ?_)
 refine Ops_seg 7 (fun T H=>T 17=(V.bool (decide ((((a.length:Nat):Int)=((b.length:Nat):Int))∧(((cmn a b:Nat):Int)=((a.length:Nat):Int)))))∧True) ?_ ?_
 ·
  by_cases g1:((a.length:Nat):Int)=((b.length:Nat):Int)
  ·
   refine G_yes (edT g1 rfl) (R_mv rfl (G_yes (edT g1 rfl) (R_mv rfl (G_yes (edT g1 rfl) ?_))))
   have q2:=cmn_l a b
   have q3:=cmn_r a b
   refine R_callk (rcommon_pure a b) rfl (G_yes (edT g1 rfl) (R_mv rfl (G_yes (edT g1 rfl) (R_len rfl (G_yes (edT g1 rfl) (R_eql rfl rfl (R_pickT (edT g1 rfl) rfl ?_)))))))
   exact ⟨(dec_andT g1),trivial⟩
  ·
   refine G_n (edF g1 rfl) (G_n (edF g1 rfl) (G_n (edF g1 rfl) (G_n (edF g1 rfl) (G_n (edF g1 rfl) (G_n (edF g1 rfl) (R_pickF (edF g1 rfl) rfl ?_))))))
   exact ⟨(dec_andF g1),trivial⟩
 intro T H ⟨t17,_⟩
 refine R_mv t17 (R_e (W_ret ?_))
 refine Ret_1 (@rfl V (V.bool (decide ((((a.length:Nat):Int)=((b.length:Nat):Int))∧(((cmn a b:Nat):Int)=((a.length:Nat):Int)))))) (fz_bool ?_)
 · exact same_dec a b
theorem swords_pure (a b:List (List Int)):PureC Tryd.prog 28 [(intss a),(intss b)] (V.bool (decide (a=b))):=by
 refine pW Tryd.func28 s28_ok fun hB=>?_
 unfold s28
 dsimp only
 refine W_r (R_mv rfl (R_e (W_seq_seq (W_r (R_mv rfl (R_len rfl (R_mv rfl ?_)))))))
 refine R_len rfl (R_neq rfl rfl (R_e ?_))
 refine W_seq_if rfl (fun c1=>?_) fun c1=>?_
 ·
  refine W_seq_seq (W_r (R_mv rfl (R_e (W_seq_ret ?_))))
  refine Ret_1 (@rfl V (V.bool false)) (fz_bool ?_)
  · exact (decide_eq_false (fun e=>by subst e; omega)).symm
 refine W_seq_skip (W_seq_seq (W_r (R_mv rfl (R_e (W_seq_blockg fun Q2 n2 x2 y2 z2=>?_)))))
 refine W_loop (fun mm T H=> ∃ (k:Nat),mm=a.length - k∧T 0=(intss a)∧T 1=(intss b)∧T 5=(iV ((k:Nat):Int))∧(k≤a.length)∧(a.length=b.length)∧(∀ j,j < k→nth a j=nth b j)) ?_ ?_
 ·
  refine ⟨_,0,rfl,rfl,rfl,(Eq.trans (@rfl V (iV (0:Int))) rfl),?_,?_,?_⟩
  · omega
  · omega
  · intro j hj; omega
 intro mm T H ⟨k,hmm,t0,t1,t5,hk,hl,hc⟩ Q3 p13 p23 p33
 unfold b28_0
 refine W_seq_seq (W_r (R_mv t5 (R_mv t0 (R_len rfl (R_lss rfl rfl (R_e ?_))))))
 refine W_seq_if rfl (fun c4=>?_) fun c4=>?_
 ·
  refine W_seq_skip (W_seq_blockg fun Q5 n5 x5 y5 z5=>(W_r (R_mv t0 (R_mv t5 (R_idx (i:=k) (@rfl V (intss a)) (@rfl V (iV ((k:Nat):Int))) (by omega) rfl (R_load_pp rfl rfl (R_mv t1 ?_)))))))
  refine R_mv t5 (R_idx (i:=k) (@rfl V (intss b)) (@rfl V (iV ((k:Nat):Int))) (by omega) rfl (R_load_pp rfl rfl (R_callk (rsame1_pure ((nth (a) (k))) ((nth (b) (k)))) rfl (R_not rfl (R_e ?_)))))
  refine W_if rfl (fun c6=>?_) fun c6=>?_
  ·
   have d1:=c6
   refine W_r (R_mv rfl (R_e (W_ret (y5 _ _ (p23 _ _ (y2 _ _ ?_))))))
   refine Ret_1 (@rfl V (V.bool false)) (fz_bool ?_)
   · exact (decide_eq_false (fun e=>d1 (by subst e; rfl))).symm
  have d1:=Decidable.not_not.1 c6
  refine W_skip (n5 _ _ (.done (W_t (R_mv t5 (R_addN rfl (@rfl V (iV ((1:Nat):Int))) (by omega) (R_mv rfl (R_e ?_)))))))
  refine p13 _ _ _ ?_ ⟨(k+1),rfl,t0,t1,(Eq.trans (@rfl V (iV ((k+1:Nat):Int))) (by rfl)),?_,?_,?_⟩
  · omega
  · omega
  · omega
  · intro j hj
    by_cases e:j=k
    · subst e; exact d1
    · exact hc j (by omega)
 refine W_seq_exit (p33 _ _ _ (x2 _ _ (.done (W_r (R_mv rfl (R_e (W_ret ?_)))))))
 refine Ret_1 (@rfl V (V.bool true)) (fz_bool ?_)
 · exact (decide_eq_true (nth_ext hl fun j hj=>hc j (by omega))).symm
end Go.Proofs.YteehaobohaecmaaDoor
namespace Go.Proofs.YteehaobohaecmaaDoor
open Go
theorem szm_sz {f:Fm} {m:Int} (h: ¬m < szm f m):(f.sz:Int)≤m:=by
  have:=szm_small f m (by omega); omega
structure PrF (f:Fm) (t:Tr):Prop where
  v:fval f=0
  z:f.sz≤30
  l:t.ni.length≤20
  e:t.no.length=t.ni.length
  r: ∀ j,j < t.ni.length→(0≤nth t.ni j∧nth t.ni j < 64∧0≤nth t.no j∧nth t.no j≤1048576)
structure RtG (f:Fm) (t:Tr):Prop where
  r:Run 31 (simp_ f).1
  s: ∀ i,sat t (simp_ f).1 i=sat t f i
  a:simp_ (simp_ f).1=((simp_ f).1,0)
  hb:hoB t (simp_ f).1=hoB t f
  he:hoE t (simp_ f).1=0
section
variable {f g:Fm} {t:Tr} {k:Nat}
end
theorem df_eq {a b:Df} (h1:a.inp=b.inp) (h2:a.st=b.st) (h3:a.nx=b.nx) (h4:a.ac.length=b.ac.length) (h5: ∀ j,j < a.ac.length→nth a.ac j=nth b.ac j):a=b:=by
  have h6:a.ac=b.ac:=nth_ext h4 h5
  cases a; cases b
  simp only at h1 h2 h3 h6
  rw [h1,h2,h3,h6]
structure Odr where
  f:Fm
  g:Fm
  h:Fm
  b:Bool
end Go.Proofs.YteehaobohaecmaaDoor
namespace Go.Proofs.YteehaobohaecmaaDoor
open Go Go.Proofs
theorem dfsame_pure (a b:Df):PureC Tryd.prog 16 [(V.agg [(iV (a.inp)),(iV (a.st)),(intss a.nx),(V.sl (List.map cB (a.ac)))]),(V.agg [(iV (b.inp)),(iV (b.st)),(intss b.nx),(V.sl (List.map cB (b.ac)))])] (V.bool (decide (a=b))):=by
 refine pW Tryd.func16 s16_ok fun hB=>?_
 unfold s16
 dsimp only
 refine W_r (R_box (i:=2) (n:=0) (m:=4) (cs:=[(iV (a.inp)),(iV (a.st)),(intss a.nx),(V.sl (List.map cB (a.ac)))]) rfl (congrArg Blk.ver rfl) rfl rfl rfl (R_box (i:=3) (n:=0) (m:=4) (cs:=[(iV (b.inp)),(iV (b.st)),(intss b.nx),(V.sl (List.map cB (b.ac)))]) rfl (congrArg Blk.ver rfl) rfl rfl rfl (R_mv rfl (R_e (W_seq_seq (W_r (R_fk rfl rfl ?_)))))))
 refine R_lk rfl rfl rfl rfl (R_fk rfl rfl (R_lk rfl rfl rfl rfl (R_neq rfl rfl (R_mv rfl ?_))))
 refine Ops_seg 6 (fun T H=>T 2=(V.mp 2 1 0 0)∧T 3=(V.mp 3 1 0 0)∧T 17=(V.bool (decide (((a.inp)≠(b.inp))∨((a.st)≠(b.st)))))∧H 2=(bk 1 45 4 [[(iV (a.inp)),(iV (a.st)),(intss a.nx),(V.sl (List.map cB (a.ac)))]])∧H 3=(bk 1 45 4 [[(iV (b.inp)),(iV (b.st)),(intss b.nx),(V.sl (List.map cB (b.ac)))]])∧True) ?_ ?_
 ·
  by_cases g1:(a.inp)≠(b.inp)
  ·
   refine G_n (edT g1 rfl) (G_n (edT g1 rfl) (G_n (edT g1 rfl) (G_n (edT g1 rfl) (G_n (edT g1 rfl) (R_pickT (edT g1 rfl) rfl ?_)))))
   exact ⟨rfl,rfl,(dec_orT g1),rfl,rfl,trivial⟩
  ·
   refine G_yes (edF g1 rfl) (R_fk rfl rfl (G_yes (edF g1 rfl) (R_lk rfl rfl rfl rfl (G_yes (edF g1 rfl) (R_fk rfl rfl (G_yes (edF g1 rfl) (R_lk rfl rfl rfl rfl ?_)))))))
   refine G_yes (edF g1 rfl) (R_neq rfl rfl (R_pickF (edF g1 rfl) rfl ?_))
   exact ⟨rfl,rfl,(dec_orF g1),rfl,rfl,trivial⟩
 intro T H ⟨t2,t3,t17,h2,h3,_⟩
 refine R_mv t17 ?_
 refine Ops_seg 7 (fun T H=>T 2=(V.mp 2 1 0 0)∧T 3=(V.mp 3 1 0 0)∧T 25=(V.bool (decide ((((a.inp)≠(b.inp))∨((a.st)≠(b.st)))∨(¬(a.nx=b.nx)))))∧H 2=(bk 1 45 4 [[(iV (a.inp)),(iV (a.st)),(intss a.nx),(V.sl (List.map cB (a.ac)))]])∧H 3=(bk 1 45 4 [[(iV (b.inp)),(iV (b.st)),(intss b.nx),(V.sl (List.map cB (b.ac)))]])∧True) ?_ ?_
 ·
  by_cases g2:((a.inp)≠(b.inp))∨((a.st)≠(b.st))
  ·
   refine G_n (edT g2 rfl) (G_n (edT g2 rfl) (G_n (edT g2 rfl) (G_n (edT g2 rfl) (G_n (edT g2 rfl) (G_n (edT g2 rfl) (R_pickT (edT g2 rfl) rfl ?_))))))
   exact ⟨t2,t3,(dec_orT g2),h2,h3,trivial⟩
  ·
   refine G_yes (edF g2 rfl) (R_fk t2 h2 (G_yes (edF g2 rfl) (R_lk rfl h2 rfl rfl (G_yes (edF g2 rfl) (R_fk t3 h3 (G_yes (edF g2 rfl) (R_lk rfl h3 rfl rfl ?_)))))))
   refine G_yes (edF g2 rfl) (R_callk (swords_pure a.nx b.nx) rfl (G_yes (edF g2 rfl) (R_not rfl (R_pickF (edF g2 rfl) rfl ?_))))
   exact ⟨t2,t3,(dec_orF g2),h2,h3,trivial⟩
 intro T H ⟨t2,t3,t25,h2,h3,_⟩
 refine R_mv t25 ?_
 refine Ops_seg 8 (fun T H=>T 2=(V.mp 2 1 0 0)∧T 3=(V.mp 3 1 0 0)∧T 34=(V.bool (decide (((((a.inp)≠(b.inp))∨((a.st)≠(b.st)))∨(¬(a.nx=b.nx)))∨(((a.ac.length:Nat):Int)≠((b.ac.length:Nat):Int)))))∧H 2=(bk 1 45 4 [[(iV (a.inp)),(iV (a.st)),(intss a.nx),(V.sl (List.map cB (a.ac)))]])∧H 3=(bk 1 45 4 [[(iV (b.inp)),(iV (b.st)),(intss b.nx),(V.sl (List.map cB (b.ac)))]])∧True) ?_ ?_
 ·
  by_cases g3:(((a.inp)≠(b.inp))∨((a.st)≠(b.st)))∨(¬(a.nx=b.nx))
  ·
   refine G_n (edT g3 rfl) (G_n (edT g3 rfl) (G_n (edT g3 rfl) (G_n (edT g3 rfl) (G_n (edT g3 rfl) (G_n (edT g3 rfl) (G_n (edT g3 rfl) (R_pickT (edT g3 rfl) rfl ?_)))))))
   exact ⟨t2,t3,(dec_orT g3),h2,h3,trivial⟩
  ·
   refine G_yes (edF g3 rfl) (R_fk t2 h2 (G_yes (edF g3 rfl) (R_lk rfl h2 rfl rfl (G_yes (edF g3 rfl) (R_len rfl (G_yes (edF g3 rfl) (R_fk t3 h3 ?_)))))))
   refine G_yes (edF g3 rfl) (R_lk rfl h3 rfl rfl (G_yes (edF g3 rfl) (R_len rfl (G_yes (edF g3 rfl) (R_neq rfl rfl (R_pickF (edF g3 rfl) rfl ?_))))))
   exact ⟨t2,t3,(dec_orF g3),h2,h3,trivial⟩
 intro T H ⟨t2,t3,t34,h2,h3,_⟩
 refine R_e ?_
 refine W_seq_if t34 (fun c4=>?_) fun c4=>?_
 ·
  have d1:=c4
  refine W_seq_seq (W_r (R_mv rfl (R_e (W_seq_ret ?_))))
  refine Ret_1 (@rfl V (V.bool false)) (fz_bool ?_)
  · exact (decide_eq_false fun e=>by subst e; simp at d1).symm
 have d1:=c4
 refine W_seq_skip (W_seq_seq (W_r (R_mv rfl (R_e (W_seq_blockg fun Q5 n5 x5 y5 z5=>?_)))))
 refine W_loop (fun mm T H=> ∃ (k:Nat),mm=a.ac.length - k∧T 2=(V.mp 2 1 0 0)∧T 3=(V.mp 3 1 0 0)∧T 5=(iV ((k:Nat):Int))∧H 2=(bk 1 45 4 [[(iV (a.inp)),(iV (a.st)),(intss a.nx),(V.sl (List.map cB (a.ac)))]])∧H 3=(bk 1 45 4 [[(iV (b.inp)),(iV (b.st)),(intss b.nx),(V.sl (List.map cB (b.ac)))]])∧(k≤a.ac.length)∧(a.ac.length=b.ac.length)∧(∀ j,j < k→nth a.ac j=nth b.ac j)) ?_ ?_
 ·
  refine ⟨_,0,rfl,t2,t3,(Eq.trans (@rfl V (iV (0:Int))) rfl),h2,h3,?_,?_,?_⟩
  · omega
  · omega
  · intro j hj; omega
 intro mm T H ⟨k,hmm,t2,t3,t5,h2,h3,hk,hl,hc⟩ Q6 p16 p26 p36
 unfold b16_0
 refine W_seq_seq (W_r (R_mv t5 (R_fk t2 h2 (R_lk rfl h2 rfl rfl (R_len rfl (R_lss rfl rfl (R_e ?_)))))))
 refine W_seq_if rfl (fun c7=>?_) fun c7=>?_
 ·
  refine W_seq_skip (W_seq_blockg fun Q8 n8 x8 y8 z8=>(W_r (R_fk t2 h2 (R_lk rfl h2 rfl rfl (R_mv t5 (R_idx (i:=k) (@rfl V (V.sl (List.map cB (a.ac)))) (@rfl V (iV ((k:Nat):Int))) (by omega) rfl (R_load_pp rfl rfl ?_)))))))
  refine R_fk t3 h3 (R_lk rfl h3 rfl rfl (R_mv t5 (R_idx (i:=k) (@rfl V (V.sl (List.map cB (b.ac)))) (@rfl V (iV ((k:Nat):Int))) (by omega) rfl (R_load_pp rfl rfl (R_bneq (x:=((nth (a.ac) (k)))) (y:=((nth (b.ac) (k)))) rfl rfl (R_e ?_))))))
  refine W_ifb rfl (fun c9=>?_) (fun c9=>?_)
  ·
   have d2:nth a.ac k≠nth b.ac k:=by have q:=c9; simpa using q
   refine W_r (R_mv rfl (R_e (W_ret (y8 _ _ (p26 _ _ (y5 _ _ ?_))))))
   refine Ret_1 (@rfl V (V.bool false)) (fz_bool ?_)
   · exact (decide_eq_false fun e=>by subst e; exact d2 rfl).symm
  have d2:nth a.ac k=nth b.ac k:=by have q:=c9; simpa using q
  refine W_skip (n8 _ _ (.done (W_t (R_mv t5 (R_addN rfl (@rfl V (iV ((1:Nat):Int))) (by omega) (R_mv rfl (R_e ?_)))))))
  refine p16 _ _ _ ?_ ⟨(k+1),rfl,t2,t3,(Eq.trans (@rfl V (iV ((k+1:Nat):Int))) (by rfl)),h2,h3,?_,?_,?_⟩
  · omega
  · omega
  · omega
  · intro j hj
    by_cases e:j=k
    · subst e; exact d2
    · exact hc j (by omega)
 refine W_seq_exit (p36 _ _ _ (x5 _ _ (.done (W_r (R_mv rfl (R_e (W_ret ?_)))))))
 refine Ret_1 (@rfl V (V.bool true)) (fz_bool ?_)
 · exact (decide_eq_true (df_eq (by omega) (by omega) (Decidable.of_not_not fun q=>d1 (.inl (.inr q))) hl fun j hj=>hc j (by omega))).symm
def s18:SF:=⟨11,[.cell 6 true 3],.seq (.reg [sO 6 (.alloc 24 [.int .i64 0,.int .i64 0,.nilsl])]) (.seq (.reg [qM 7 0,qM 8 1,qM 9 2,sO 10 (.build [.int .i64 0,.int .i64 0,.nilsl] [(0,1,.t 7),(1,1,.t 8),(2,1,.t 9)]),sN (.store 3 (.t 6) (.t 10))]) (.ret))⟩
theorem s18_ok:slimF Tryd.prog ⟨[32,48,55,93,94,95,100],[],[],[]⟩ Tryd.f18=some s18:=by kernel_rfl
theorem lnode_pure (o a:Int) (l:List Fm):PureC Tryd.prog 18 [(iV (o)),(iV (a)),(V.sl (List.map cF (l)))] (V.agg [(iV (o)),(iV (a)),(V.sl (List.map cF (l)))]):=by
 refine pW Tryd.func18 s18_ok fun hB=>?_
 unfold s18
 dsimp only
 refine W_r (R_alloc (i:=6) (n:=0) (m:=3) rfl (congrArg Blk.ver rfl) rfl (R_e (W_r (R_mv rfl (R_mv rfl (R_mv rfl (R_build rfl rfl ?_)))))))
 refine R_sk rfl rfl rfl rfl rfl rfl rfl rfl rfl (R_e (W_ret ?_))
 refine RetC_1 (resV_c (u:=(V.agg [(iV (o)),(iV (a)),(V.sl (List.map cF (l)))])) rfl (@rfl Blk (bk 1 24 3 [[(iV (o)),(iV (a)),(V.sl (List.map cF (l)))]])) (lB oB rfl rfl)) (fz_canon (by simp) rfl)
def s19:SF:=⟨4,[.cell 0 true 3],.seq (.reg [sO 0 (.alloc 24 [.int .i64 0,.int .i64 0,.nilsl])]) (.seq (.reg [sO 1 (.call false 18 [.c (.int .i64 1),.c (.int .i64 0),.c (.nilsl)]),sO 2 (.bslice 24 3 false [.int .i64 0,.int .i64 0,.nilsl] 1 [(0,.t 1)]),sO 3 (.call false 18 [.c (.int .i64 4),.c (.int .i64 0),.t 2]),sN (.store 3 (.t 0) (.t 3))]) (.ret))⟩
theorem s19_ok:slimF Tryd.prog ⟨[32,48,55,93,94,95,100],[],[],[]⟩ Tryd.f19=some s19:=by kernel_rfl
theorem lno_pure:PureC Tryd.prog 19 [] (V.agg [(iV (4:Int)),(iV (0:Int)),(V.sl (List.map cF ([Fm.nd 1 0 []])))]):=by
 refine pW Tryd.func19 s19_ok fun hB=>?_
 unfold s19
 dsimp only
 refine W_r (R_alloc (i:=0) (n:=0) (m:=3) rfl (congrArg Blk.ver rfl) rfl (R_e (W_r (R_call (evcons (@rfl V (iV (1:Int))) (evcons (@rfl V (iV (0:Int))) (evcons (@rfl V V.nilsl) evnil))) (lnode_pure ((1:Int)) ((0:Int)) ([])) (mcons (fzv_canon 6 _ (by simp [-List.map_take,-List.map_drop,-List.map_append,-List.map_reverse])) (mcons (fzv_canon 6 _ (by simp [-List.map_take,-List.map_drop,-List.map_append,-List.map_reverse])) (mcons (by rfl) rfl))) (by simp [-List.map_take,-List.map_drop,-List.map_append,-List.map_reverse]) (Or.inl (by simp [-List.map_take,-List.map_drop,-List.map_append,-List.map_reverse])) (R_bslice rfl rfl (R_callk (lnode_pure ((4:Int)) ((0:Int)) ([(Fm.nd (1:Int) (0:Int) [])])) (evcons rfl (evcons rfl (evcons (sl_F1 (x:=((Fm.nd (1:Int) (0:Int) []))) rfl) evnil))) (R_sk rfl rfl rfl rfl rfl rfl rfl rfl rfl ?_)))))))
 refine R_e (W_ret ?_)
 refine RetC_1 (resV_c (u:=(V.agg [(iV (((4:Int)))),(iV (((0:Int)))),(V.sl (List.map cF (([(Fm.nd (1:Int) (0:Int) [])]))))])) rfl (@rfl Blk (bk 1 24 3 [[(iV (((4:Int)))),(iV (((0:Int)))),(V.sl (List.map cF (([(Fm.nd (1:Int) (0:Int) [])]))))]])) (lB oB rfl rfl)) (fz_agg3 (fz_int ?_) (fz_int ?_) (fz_sl ?_ (fun _=>by simp)))
 · first|rfl|omega|simp_all
 · first|rfl|omega|simp_all
 · first|rfl|omega|simp_all
end Go.Proofs.YteehaobohaecmaaDoor
namespace Go.Proofs.YteehaobohaecmaaDoor
open Go Go.Proofs
set_option maxRecDepth 20000
theorem aw_a:PureC Tryd.prog 9 [(V.agg [(iV (6:Int)),(iV (0:Int)),(V.sl (List.map cF ([Fm.nd 5 0 [Fm.nd 2 1 [],Fm.nd 1 0 []],Fm.nd 2 0 [],Fm.nd 5 0 [Fm.nd 2 0 [],Fm.nd 7 0 [Fm.nd 1 0 []]]])))])] (V.tup [(V.agg [(iV (6:Int)),(iV (0:Int)),(V.sl (List.map cF ([Fm.nd 2 0 [],Fm.nd 2 1 []])))]),(iV (0:Int))]):=by
  have h:=simplify_pure (Fm.nd 6 0 [Fm.nd 5 0 [Fm.nd 2 1 [],Fm.nd 1 0 []],Fm.nd 2 0 [],Fm.nd 5 0 [Fm.nd 2 0 [],Fm.nd 7 0 [Fm.nd 1 0 []]]])
  rw [show simp_ (Fm.nd 6 0 [Fm.nd 5 0 [Fm.nd 2 1 [],Fm.nd 1 0 []],Fm.nd 2 0 [],Fm.nd 5 0 [Fm.nd 2 0 [],Fm.nd 7 0 [Fm.nd 1 0 []]]])=((Fm.nd 6 0 [Fm.nd 2 0 [],Fm.nd 2 1 []]),0) from by decide+kernel] at h
  exact h
theorem aw_b:PureC Tryd.prog 11 [(V.agg [(iV (10:Int)),(iV (0:Int)),(V.sl (List.map cF ([Fm.nd 4 0 [Fm.nd 1 0 []],Fm.nd 6 0 [Fm.nd 4 0 [Fm.nd 2 0 []],Fm.nd 3 1 []]])))]),iV 0,iV 1] (V.tup [(V.agg [(iV (10:Int)),(iV (0:Int)),(V.sl (List.map cF ([Fm.nd 4 0 [Fm.nd 1 0 []],Fm.nd 6 0 [Fm.nd 3 1 [],Fm.nd 4 0 [Fm.nd 2 0 []]]])))]),(iV (0:Int))]):=by
  have h:=mstep_pure (Fm.nd 10 0 [Fm.nd 4 0 [Fm.nd 1 0 []],Fm.nd 6 0 [Fm.nd 4 0 [Fm.nd 2 0 []],Fm.nd 3 1 []]]) 0 1
  rw [show stM (Fm.nd 10 0 [Fm.nd 4 0 [Fm.nd 1 0 []],Fm.nd 6 0 [Fm.nd 4 0 [Fm.nd 2 0 []],Fm.nd 3 1 []]]) 0 1=((Fm.nd 10 0 [Fm.nd 4 0 [Fm.nd 1 0 []],Fm.nd 6 0 [Fm.nd 3 1 [],Fm.nd 4 0 [Fm.nd 2 0 []]]]),0) from by decide+kernel] at h
  exact h
theorem aw_c:PureC Tryd.prog 11 [(V.agg [(iV (10:Int)),(iV (0:Int)),(V.sl (List.map cF ([Fm.nd 4 0 [Fm.nd 1 0 []],Fm.nd 6 0 [Fm.nd 4 0 [Fm.nd 2 0 []],Fm.nd 3 1 []]])))]),iV 0,iV 0] (V.tup [(V.agg [(iV (4:Int)),(iV (0:Int)),(V.sl (List.map cF ([Fm.nd 1 0 []])))]),(iV (0:Int))]):=by
  have h:=mstep_pure (Fm.nd 10 0 [Fm.nd 4 0 [Fm.nd 1 0 []],Fm.nd 6 0 [Fm.nd 4 0 [Fm.nd 2 0 []],Fm.nd 3 1 []]]) 0 0
  rw [show stM (Fm.nd 10 0 [Fm.nd 4 0 [Fm.nd 1 0 []],Fm.nd 6 0 [Fm.nd 4 0 [Fm.nd 2 0 []],Fm.nd 3 1 []]]) 0 0=((Fm.nd 4 0 [Fm.nd 1 0 []]),0) from by decide+kernel] at h
  exact h
theorem aw_d:PureC Tryd.prog 15 [(V.agg [(iV (10:Int)),(iV (0:Int)),(V.sl (List.map cF ([Fm.nd 4 0 [Fm.nd 1 0 []],Fm.nd 6 0 [Fm.nd 4 0 [Fm.nd 2 0 []],Fm.nd 3 1 []]])))]),iV 2,iV 3] (V.tup [(V.agg [(iV (6:Int)),(iV (0:Int)),(intss ([[1,0,1,0,0,0],[1,1,1,1,1,1]])),(V.sl (List.map cB ([true,false])))]),(iV (0:Int))]):=by
  have h:=atm_pure (Fm.nd 10 0 [Fm.nd 4 0 [Fm.nd 1 0 []],Fm.nd 6 0 [Fm.nd 4 0 [Fm.nd 2 0 []],Fm.nd 3 1 []]]) 2 3
  rw [show atm (Fm.nd 10 0 [Fm.nd 4 0 [Fm.nd 1 0 []],Fm.nd 6 0 [Fm.nd 4 0 [Fm.nd 2 0 []],Fm.nd 3 1 []]]) 2 3=(⟨6,0,[[1,0,1,0,0,0],[1,1,1,1,1,1]],[true,false]⟩,0) from by decide+kernel] at h
  exact h
theorem aw_e:PureC Tryd.prog 12 [(V.agg [(iV (9:Int)),(iV (0:Int)),(V.sl (List.map cF ([Fm.nd 4 0 [Fm.nd 1 0 []]])))])] (V.tup [(V.bool true),(iV (0:Int))]):=by
  have h:=mends_pure (Fm.nd 9 0 [Fm.nd 4 0 [Fm.nd 1 0 []]])
  rw [show hoB t0 (Fm.nd 9 0 [Fm.nd 4 0 [Fm.nd 1 0 []]])=true from by decide+kernel,show hoE t0 (Fm.nd 9 0 [Fm.nd 4 0 [Fm.nd 1 0 []]])=0 from by decide+kernel] at h
  exact h
theorem aw_f:PureC Tryd.prog 12 [(V.agg [(iV (7:Int)),(iV (0:Int)),(V.sl (List.map cF ([Fm.nd 1 0 []])))])] (V.tup [(V.bool false),(iV (0:Int))]):=by
  have h:=mends_pure (Fm.nd 7 0 [Fm.nd 1 0 []])
  rw [show hoB t0 (Fm.nd 7 0 [Fm.nd 1 0 []])=false from by decide+kernel,show hoE t0 (Fm.nd 7 0 [Fm.nd 1 0 []])=0 from by decide+kernel] at h
  exact h
abbrev w7_13:=(Fm.nd (2:Int) (0:Int) [])
abbrev w7_18:=(Fm.nd (2:Int) (1:Int) [])
abbrev w7_15:=(sameF (⟨((6:Int)),((0:Int)),([Fm.nd 2 0 [],Fm.nd 2 1 []])⟩:Fm) (⟨((((6:Int)))),((((0:Int)))),(([w7_13,w7_18]))⟩:Fm))
abbrev w7_19:=(Fm.nd (3:Int) (1:Int) [])
abbrev w7_17:=(Fm.nd (4:Int) (0:Int) [w7_13])
abbrev w7_2:=([(Fm.nd (4:Int) (0:Int) [Fm.nd 1 0 []]),(Fm.nd (6:Int) (0:Int) [w7_19,w7_17])])
abbrev w7_7:=((((w7_15&&decide ((0:Int)=(0:Int))))&&(sameF (⟨((10:Int)),((0:Int)),([Fm.nd 4 0 [Fm.nd 1 0 []],Fm.nd 6 0 [Fm.nd 3 1 [],Fm.nd 4 0 [Fm.nd 2 0 []]]])⟩:Fm) (⟨((((10:Int)))),((((0:Int)))),(w7_2)⟩:Fm))))
abbrev w7_0:=((((w7_7&&decide ((0:Int)=(0:Int))))&&(sameF (⟨((4:Int)),((0:Int)),([Fm.nd 1 0 []])⟩:Fm) (⟨((4:Int)),((0:Int)),([Fm.nd 1 0 []])⟩:Fm))))
abbrev w7_1:=(bk 1 24 3 [[(iV (((10:Int)))),(iV (((0:Int)))),(V.sl (List.map cF (([(Fm.nd (4:Int) (0:Int) [Fm.nd 1 0 []]),(Fm.nd (6:Int) (0:Int) [w7_17,w7_19])]))))]])
abbrev w7_3:=((((w7_0&&decide ((0:Int)=(0:Int))))&&decide ((⟨((6:Int)),((0:Int)),([[1,0,1,0,0,0],[1,1,1,1,1,1]]),([true,false])⟩:Df)=(⟨((6:Int)),((0:Int)),([[1,0,1,0,0,0],[1,1,1,1,1,1]]),([true,false])⟩:Df))))
abbrev w7_4:=(bk 1 24 3 [[(iV (10:Int)),(iV (0:Int)),(V.sl (List.map cF ([Fm.nd 4 0 [Fm.nd 1 0 []],Fm.nd 6 0 [Fm.nd 3 1 [],Fm.nd 4 0 [Fm.nd 2 0 []]]])))]])
abbrev w7_5:=(bk 1 45 4 [[(iV (6:Int)),(iV (0:Int)),(intss ([[1,0,1,0,0,0],[1,1,1,1,1,1]])),(V.sl (List.map cB ([true,false])))]])
abbrev w7_6:=(bk 1 24 3 [[(iV (6:Int)),(iV (0:Int)),(V.sl (List.map cF ([Fm.nd 2 0 [],Fm.nd 2 1 []])))]])
abbrev w7_8:=(bk 1 24 3 [[(iV (((2:Int)))),(iV (((0:Int)))),(V.sl (List.map cF (([]))))]])
abbrev w7_9:=(bk 1 24 3 [[(iV (((2:Int)))),(iV (((1:Int)))),(V.sl (List.map cF (([]))))]])
abbrev w7_10:=(bk 1 24 3 [[(iV (((1:Int)))),(iV (((0:Int)))),(V.sl (List.map cF (([]))))]])
abbrev w7_11:=(bk 1 24 3 [[(iV (4:Int)),(iV (0:Int)),(V.sl (List.map cF ([Fm.nd 1 0 []])))]])
abbrev w7_12:=(bk 1 24 3 [[(iV (((10:Int)))),(iV (((0:Int)))),(V.sl (List.map cF (w7_2)))]])
abbrev w7_14:=((((((w7_3&&decide ((0:Int)=(0:Int))))||false))&&decide ((0:Int)=(0:Int))))
abbrev w7_16:=(Fm.nd (1:Int) (0:Int) [])
theorem aw46_pure:PureC Tryd.prog 7 [] (V.bool true):=by
 refine pW Tryd.func7 s7_ok fun hB=>?_
 unfold s7
 dsimp only
 refine W_r (R_mv rfl (R_e (W_r (R_call (evcons (@rfl V (iV (2:Int))) (evcons (@rfl V (iV (0:Int))) (evcons (@rfl V V.nilsl) evnil))) (lnode_pure ((2:Int)) ((0:Int)) ([])) (mcons (fzv_canon 6 _ (by simp [-List.map_take,-List.map_drop,-List.map_append,-List.map_reverse])) (mcons (fzv_canon 6 _ (by simp [-List.map_take,-List.map_drop,-List.map_append,-List.map_reverse])) (mcons (by rfl) rfl))) (by simp [-List.map_take,-List.map_drop,-List.map_append,-List.map_reverse]) (Or.inl (by simp [-List.map_take,-List.map_drop,-List.map_append,-List.map_reverse])) (R_call (evcons (@rfl V (iV (2:Int))) (evcons (@rfl V (iV (1:Int))) (evcons (@rfl V V.nilsl) evnil))) (lnode_pure ((2:Int)) ((1:Int)) ([])) (mcons (fzv_canon 6 _ (by simp [-List.map_take,-List.map_drop,-List.map_append,-List.map_reverse])) (mcons (fzv_canon 6 _ (by simp [-List.map_take,-List.map_drop,-List.map_append,-List.map_reverse])) (mcons (by rfl) rfl))) (by simp [-List.map_take,-List.map_drop,-List.map_append,-List.map_reverse]) (Or.inl (by simp [-List.map_take,-List.map_drop,-List.map_append,-List.map_reverse])) (R_call (evcons (@rfl V (iV (1:Int))) (evcons (@rfl V (iV (0:Int))) (evcons (@rfl V V.nilsl) evnil))) (lnode_pure ((1:Int)) ((0:Int)) ([])) (mcons (fzv_canon 6 _ (by simp [-List.map_take,-List.map_drop,-List.map_append,-List.map_reverse])) (mcons (fzv_canon 6 _ (by simp [-List.map_take,-List.map_drop,-List.map_append,-List.map_reverse])) (mcons (by rfl) rfl))) (by simp [-List.map_take,-List.map_drop,-List.map_append,-List.map_reverse]) (Or.inl (by simp [-List.map_take,-List.map_drop,-List.map_append,-List.map_reverse])) (R_alloc (i:=1) (n:=0) (m:=3) rfl (congrArg Blk.ver rfl) rfl ?_)))))))
 refine R_alloc (i:=2) (n:=0) (m:=3) rfl (congrArg Blk.ver rfl) rfl (R_alloc (i:=3) (n:=0) (m:=3) rfl (congrArg Blk.ver rfl) rfl (R_sk rfl rfl rfl rfl rfl rfl rfl rfl rfl (R_sk rfl rfl rfl rfl rfl rfl rfl rfl rfl (R_sk rfl rfl rfl rfl rfl rfl rfl rfl rfl (R_e (W_d (by exact (lateC rfl lateN)) (R_lk rfl rfl rfl rfl ?_)))))))
 refine R_lk rfl rfl rfl rfl (R_bslice rfl rfl (R_callk (lnode_pure ((5:Int)) ((0:Int)) ([w7_18,w7_16])) (evcons rfl (evcons rfl (evcons (sl_F2 (x:=(w7_18)) (y:=(w7_16)) rfl) evnil))) (R_lk rfl rfl rfl rfl (R_lk rfl rfl rfl rfl (R_lk rfl rfl rfl rfl (R_bslice rfl rfl (R_callk (lnode_pure ((7:Int)) ((0:Int)) ([w7_16])) (evcons rfl (evcons rfl (evcons (sl_F1 (x:=(w7_16)) rfl) evnil))) ?_)))))))
 refine R_bslice rfl rfl (R_callk (lnode_pure ((5:Int)) ((0:Int)) ([w7_13,(Fm.nd (7:Int) (0:Int) [w7_16])])) (evcons rfl (evcons rfl (evcons (sl_F2 (x:=(w7_13)) (y:=((Fm.nd (7:Int) (0:Int) [w7_16]))) rfl) evnil))) (R_bslice rfl rfl (R_callk (lnode_pure ((6:Int)) ((0:Int)) ([(Fm.nd (5:Int) (0:Int) [w7_18,w7_16]),w7_13,(Fm.nd (5:Int) (0:Int) [w7_13,(Fm.nd (7:Int) (0:Int) [w7_16])])])) (evcons rfl (evcons rfl (evcons (sl_F3 (x:=((Fm.nd (5:Int) (0:Int) [w7_18,w7_16]))) (y:=(w7_13)) (z:=((Fm.nd (5:Int) (0:Int) [w7_13,(Fm.nd (7:Int) (0:Int) [w7_16])]))) rfl) evnil))) (R_callk (aw_a) rfl (R_mv rfl (R_ext rfl rfl (R_ext rfl rfl ?_)))))))
 refine R_alloc (i:=4) (n:=0) (m:=3) rfl (congrArg Blk.ver rfl) rfl (R_sk rfl rfl rfl rfl rfl rfl rfl rfl rfl (R_mv rfl (R_e ?_)))
 refine W_seq_dregc (fun T H=>T 1=(V.mp 1 1 0 0)∧T 2=(V.mp 2 1 0 0)∧T 3=(V.mp 3 1 0 0)∧T 4=(V.mp 4 1 0 0)∧T 5=(iV (0:Int))∧T 6=(V.mp 6 1 0 0)∧H 1=w7_8∧H 2=w7_9∧H 3=w7_10∧H 4=w7_6∧H 6=w7_1∧H 7=(⟨0,false,false,0,0,[]⟩:Blk)∧H 8=(⟨0,false,false,0,0,[]⟩:Blk)∧H 10=(⟨0,false,false,0,0,[]⟩:Blk)∧H 12=(⟨0,false,false,0,0,[]⟩:Blk)∧True) (by exact (lateC rfl lateN)) ?_ ?_
 ·
  refine R_callk (lno_pure) rfl (R_lk rfl rfl rfl rfl (R_bslice rfl rfl (R_callk (lnode_pure ((4:Int)) ((0:Int)) ([w7_13])) (evcons rfl (evcons rfl (evcons (sl_F1 (x:=(w7_13)) rfl) evnil))) (R_call (evcons (@rfl V (iV (3:Int))) (evcons (@rfl V (iV (1:Int))) (evcons (@rfl V V.nilsl) evnil))) (lnode_pure ((3:Int)) ((1:Int)) ([])) (mcons (fzv_canon 6 _ (by simp [-List.map_take,-List.map_drop,-List.map_append,-List.map_reverse])) (mcons (fzv_canon 6 _ (by simp [-List.map_take,-List.map_drop,-List.map_append,-List.map_reverse])) (mcons (by rfl) rfl))) (by simp [-List.map_take,-List.map_drop,-List.map_append,-List.map_reverse]) (Or.inl (by simp [-List.map_take,-List.map_drop,-List.map_append,-List.map_reverse])) (R_bslice rfl rfl (R_callk (lnode_pure ((6:Int)) ((0:Int)) ([w7_17,w7_19])) (evcons rfl (evcons rfl (evcons (sl_F2 (x:=(w7_17)) (y:=(w7_19)) rfl) evnil))) (R_bslice rfl rfl ?_)))))))
  refine R_callk (lnode_pure ((10:Int)) ((0:Int)) ([(Fm.nd (4:Int) (0:Int) [Fm.nd 1 0 []]),(Fm.nd (6:Int) (0:Int) [w7_17,w7_19])])) (evcons rfl (evcons rfl (evcons (sl_F2 (x:=((Fm.nd (4:Int) (0:Int) [Fm.nd 1 0 []]))) (y:=((Fm.nd (6:Int) (0:Int) [w7_17,w7_19]))) rfl) evnil))) (R_alloc (i:=6) (n:=0) (m:=3) rfl (congrArg Blk.ver rfl) rfl (R_sk rfl rfl rfl rfl rfl rfl rfl rfl rfl ?_))
  exact R_nil ⟨rfl,rfl,rfl,rfl,rfl,rfl,rfl,rfl,rfl,rfl,rfl,rfl,rfl,rfl,rfl,trivial⟩
 intro T H ⟨t1,t2,t3,t4,t5,t6,h1,h2,h3,h4,h6,h7,h8,h10,h12,_⟩
 refine W_d (by exact (lateC (congrArg Blk.live h7) lateN)) (R_callk (lno_pure) rfl (R_call (evcons (@rfl V (iV (3:Int))) (evcons (@rfl V (iV (1:Int))) (evcons (@rfl V V.nilsl) evnil))) (lnode_pure ((3:Int)) ((1:Int)) ([])) (mcons (fzv_canon 6 _ (by simp [-List.map_take,-List.map_drop,-List.map_append,-List.map_reverse])) (mcons (fzv_canon 6 _ (by simp [-List.map_take,-List.map_drop,-List.map_append,-List.map_reverse])) (mcons (by rfl) rfl))) (by simp [-List.map_take,-List.map_drop,-List.map_append,-List.map_reverse]) (Or.inl (by simp [-List.map_take,-List.map_drop,-List.map_append,-List.map_reverse])) (R_lk t1 h1 rfl rfl (R_bslice rfl rfl (R_callk (lnode_pure ((4:Int)) ((0:Int)) ([w7_13])) (evcons rfl (evcons rfl (evcons (sl_F1 (x:=(w7_13)) rfl) evnil))) (R_bslice rfl rfl (R_callk (lnode_pure ((6:Int)) ((0:Int)) ([w7_19,w7_17])) (evcons rfl (evcons rfl (evcons (sl_F2 (x:=(w7_19)) (y:=(w7_17)) rfl) evnil))) ?_)))))))
 refine R_bslice rfl rfl (R_callk (lnode_pure ((10:Int)) ((0:Int)) w7_2) (evcons rfl (evcons rfl (evcons (sl_F2 (x:=((Fm.nd (4:Int) (0:Int) [Fm.nd 1 0 []]))) (y:=((Fm.nd (6:Int) (0:Int) [w7_19,w7_17]))) rfl) evnil))) (R_alloc (i:=7) (n:=0) (m:=3) rfl (congrArg Blk.ver h7) rfl (R_sk rfl rfl rfl rfl rfl rfl rfl rfl rfl (R_e (W_r (R_lk t6 h6 rfl rfl (R_callk (aw_b) rfl ?_)))))))
 refine R_mv rfl (R_ext rfl rfl (R_ext rfl rfl (R_alloc (i:=8) (n:=0) (m:=3) rfl (congrArg Blk.ver h8) rfl (R_sk rfl rfl rfl rfl rfl rfl rfl rfl rfl (R_mv rfl (R_e (W_r ?_)))))))
 refine R_lk t6 h6 rfl rfl (R_callk (aw_c) rfl (R_mv rfl (R_ext rfl rfl (R_ext rfl rfl (R_alloc (i:=10) (n:=0) (m:=3) rfl (congrArg Blk.ver h10) rfl (R_sk rfl rfl rfl rfl rfl rfl rfl rfl rfl (R_mv rfl ?_)))))))
 refine R_e (W_r (R_lk t6 h6 rfl rfl (R_callk (aw_d) rfl (R_mv rfl (R_ext rfl rfl (R_ext rfl rfl (R_alloc (i:=12) (n:=0) (m:=4) rfl (congrArg Blk.ver h12) rfl ?_)))))))
 refine R_sk rfl rfl rfl rfl rfl rfl rfl rfl rfl (R_mv rfl (R_e ?_))
 refine W_seq_regc (fun T H=>T 1=(V.mp 1 1 0 0)∧T 2=(V.mp 2 1 0 0)∧T 3=(V.mp 3 1 0 0)∧T 4=(V.mp 4 1 0 0)∧T 5=(iV (0:Int))∧T 7=(V.mp 7 1 0 0)∧T 8=(V.mp 8 1 0 0)∧T 9=(iV (0:Int))∧T 10=(V.mp 10 1 0 0)∧T 11=(iV (0:Int))∧T 12=(V.mp 12 1 0 0)∧T 13=(iV (0:Int))∧T 14=(V.bool true)∧T 15=(iV (0:Int))∧H 1=w7_8∧H 2=w7_9∧H 3=w7_10∧H 4=w7_6∧H 6=w7_1∧H 7=w7_12∧H 8=w7_4∧H 10=w7_11∧H 12=w7_5∧True) ?_ ?_
 ·
  refine R_callk (lno_pure) rfl (R_bslice rfl rfl (R_callk (lnode_pure ((9:Int)) ((0:Int)) ([(Fm.nd (4:Int) (0:Int) [Fm.nd 1 0 []])])) (evcons rfl (evcons rfl (evcons (sl_F1 (x:=((Fm.nd (4:Int) (0:Int) [Fm.nd 1 0 []]))) rfl) evnil))) (R_callk (aw_e) rfl (R_mv rfl (R_ext rfl rfl (R_ext rfl rfl (R_mv rfl ?_)))))))
  refine R_mv rfl ?_
  exact R_nil ⟨t1,t2,t3,t4,t5,rfl,rfl,rfl,rfl,rfl,rfl,rfl,rfl,rfl,h1,h2,h3,h4,h6,rfl,rfl,rfl,rfl,trivial⟩
 intro T H ⟨t1,t2,t3,t4,t5,t7,t8,t9,t10,t11,t12,t13,t14,t15,h1,h2,h3,h4,h6,h7,h8,h10,h12,_⟩
 refine W_r (R_lk t3 h3 rfl rfl (R_bslice rfl rfl (R_callk (lnode_pure ((7:Int)) ((0:Int)) ([w7_16])) (evcons rfl (evcons rfl (evcons (sl_F1 (x:=(w7_16)) rfl) evnil))) (R_callk (aw_f) rfl (R_mv rfl (R_ext rfl rfl (R_ext rfl rfl ?_)))))))
 refine R_mv rfl (R_mv rfl (R_e ?_))
 refine W_seq_regc (fun T H=>T 0=(V.bool ((((w7_14||false))&&decide ((0:Int)=(0:Int)))))∧H 1=w7_8∧H 2=w7_9∧H 3=w7_10∧H 4=w7_6∧H 6=w7_1∧H 7=w7_12∧H 8=w7_4∧H 10=w7_11∧H 12=w7_5∧True) ?_ ?_
 ·
  refine R_lk t4 h4 rfl rfl (R_lk t1 h1 rfl rfl (R_lk t2 h2 rfl rfl (R_bslice rfl rfl (R_callk (lnode_pure ((6:Int)) ((0:Int)) ([w7_13,w7_18])) (evcons rfl (evcons rfl (evcons (sl_F2 (x:=(w7_13)) (y:=(w7_18)) rfl) evnil))) (R_callk (rsame_pure (⟨((6:Int)),((0:Int)),([Fm.nd 2 0 [],Fm.nd 2 1 []])⟩:Fm) (⟨((((6:Int)))),((((0:Int)))),(([w7_13,w7_18]))⟩:Fm)) rfl (R_mv rfl ?_))))))
  refine Ops_seg 3 (fun T H=>T 7=(V.mp 7 1 0 0)∧T 8=(V.mp 8 1 0 0)∧T 9=(iV (0:Int))∧T 10=(V.mp 10 1 0 0)∧T 11=(iV (0:Int))∧T 12=(V.mp 12 1 0 0)∧T 13=(iV (0:Int))∧T 14=(V.bool true)∧T 15=(iV (0:Int))∧T 16=(V.bool false)∧T 17=(iV (0:Int))∧T 94=(V.bool ((w7_15&&decide ((0:Int)=(0:Int)))))∧H 1=w7_8∧H 2=w7_9∧H 3=w7_10∧H 4=w7_6∧H 6=w7_1∧H 7=w7_12∧H 8=w7_4∧H 10=w7_11∧H 12=w7_5∧True) ?_ ?_
  ·
   by_cases g1:w7_15=true
   ·
    refine G_yes (ebT g1 rfl) (R_mv t5 (G_yes (ebT g1 rfl) (R_eql rfl rfl (R_pickT (ebT g1 rfl) rfl ?_))))
    exact ⟨t7,t8,t9,t10,t11,t12,t13,t14,t15,rfl,rfl,(bandT g1),h1,h2,h3,h4,h6,h7,h8,h10,h12,trivial⟩
   ·
    refine G_n (ebF g1 rfl) (G_n (ebF g1 rfl) (R_pickF (ebF g1 rfl) rfl ?_))
    exact ⟨t7,t8,t9,t10,t11,t12,t13,t14,t15,rfl,rfl,(bandF g1),h1,h2,h3,h4,h6,h7,h8,h10,h12,trivial⟩
  intro T H ⟨t7,t8,t9,t10,t11,t12,t13,t14,t15,t16,t17,t94,h1,h2,h3,h4,h6,h7,h8,h10,h12,_⟩
  refine R_mv t94 ?_
  refine Ops_seg 4 (fun T H=>T 9=(iV (0:Int))∧T 10=(V.mp 10 1 0 0)∧T 11=(iV (0:Int))∧T 12=(V.mp 12 1 0 0)∧T 13=(iV (0:Int))∧T 14=(V.bool true)∧T 15=(iV (0:Int))∧T 16=(V.bool false)∧T 17=(iV (0:Int))∧T 99=(V.bool w7_7)∧H 1=w7_8∧H 2=w7_9∧H 3=w7_10∧H 4=w7_6∧H 6=w7_1∧H 7=w7_12∧H 8=w7_4∧H 10=w7_11∧H 12=w7_5∧True) ?_ ?_
  ·
   by_cases g2:((w7_15&&decide ((0:Int)=(0:Int))))=true
   ·
    have g2x:=g2
    simp only [Bool.and_eq_true,Bool.or_eq_true,Bool.not_eq_true',decide_eq_true_eq] at g2x
    refine G_yes (ebT g2 rfl) (R_lk t8 h8 rfl rfl (G_yes (ebT g2 rfl) (R_lk t7 h7 rfl rfl (G_yes (ebT g2 rfl) (R_callk (rsame_pure (⟨((10:Int)),((0:Int)),([Fm.nd 4 0 [Fm.nd 1 0 []],Fm.nd 6 0 [Fm.nd 3 1 [],Fm.nd 4 0 [Fm.nd 2 0 []]]])⟩:Fm) (⟨((((10:Int)))),((((0:Int)))),(w7_2)⟩:Fm)) rfl (R_pickT (ebT g2 rfl) rfl ?_))))))
    exact ⟨t9,t10,t11,t12,t13,t14,t15,t16,t17,(bandT g2),h1,h2,h3,h4,h6,h7,h8,h10,h12,trivial⟩
   ·
    have g2x:=g2
    simp only [Bool.and_eq_true,Bool.or_eq_true,Bool.not_eq_true',decide_eq_true_eq] at g2x
    refine G_n (ebF g2 rfl) (G_n (ebF g2 rfl) (G_n (ebF g2 rfl) (R_pickF (ebF g2 rfl) rfl ?_)))
    exact ⟨t9,t10,t11,t12,t13,t14,t15,t16,t17,(bandF g2),h1,h2,h3,h4,h6,h7,h8,h10,h12,trivial⟩
  intro T H ⟨t9,t10,t11,t12,t13,t14,t15,t16,t17,t99,h1,h2,h3,h4,h6,h7,h8,h10,h12,_⟩
  refine R_mv t99 ?_
  refine Ops_seg 3 (fun T H=>T 10=(V.mp 10 1 0 0)∧T 11=(iV (0:Int))∧T 12=(V.mp 12 1 0 0)∧T 13=(iV (0:Int))∧T 14=(V.bool true)∧T 15=(iV (0:Int))∧T 16=(V.bool false)∧T 17=(iV (0:Int))∧T 103=(V.bool ((w7_7&&decide ((0:Int)=(0:Int)))))∧H 1=w7_8∧H 2=w7_9∧H 3=w7_10∧H 4=w7_6∧H 6=w7_1∧H 7=w7_12∧H 8=w7_4∧H 10=w7_11∧H 12=w7_5∧True) ?_ ?_
  ·
   by_cases g3:w7_7=true
   ·
    have g3x:=g3
    simp only [Bool.and_eq_true,Bool.or_eq_true,Bool.not_eq_true',decide_eq_true_eq] at g3x
    refine G_yes (ebT g3 rfl) (R_mv t9 (G_yes (ebT g3 rfl) (R_eql rfl rfl (R_pickT (ebT g3 rfl) rfl ?_))))
    exact ⟨t10,t11,t12,t13,t14,t15,t16,t17,(bandT g3),h1,h2,h3,h4,h6,h7,h8,h10,h12,trivial⟩
   ·
    have g3x:=g3
    simp only [Bool.and_eq_true,Bool.or_eq_true,Bool.not_eq_true',decide_eq_true_eq] at g3x
    refine G_n (ebF g3 rfl) (G_n (ebF g3 rfl) (R_pickF (ebF g3 rfl) rfl ?_))
    exact ⟨t10,t11,t12,t13,t14,t15,t16,t17,(bandF g3),h1,h2,h3,h4,h6,h7,h8,h10,h12,trivial⟩
  intro T H ⟨t10,t11,t12,t13,t14,t15,t16,t17,t103,h1,h2,h3,h4,h6,h7,h8,h10,h12,_⟩
  refine R_mv t103 ?_
  refine Ops_seg 4 (fun T H=>T 11=(iV (0:Int))∧T 12=(V.mp 12 1 0 0)∧T 13=(iV (0:Int))∧T 14=(V.bool true)∧T 15=(iV (0:Int))∧T 16=(V.bool false)∧T 17=(iV (0:Int))∧T 108=(V.bool w7_0)∧H 1=w7_8∧H 2=w7_9∧H 3=w7_10∧H 4=w7_6∧H 6=w7_1∧H 7=w7_12∧H 8=w7_4∧H 10=w7_11∧H 12=w7_5∧True) ?_ ?_
  ·
   by_cases g4:((w7_7&&decide ((0:Int)=(0:Int))))=true
   ·
    have g4x:=g4
    simp only [Bool.and_eq_true,Bool.or_eq_true,Bool.not_eq_true',decide_eq_true_eq] at g4x
    refine G_yes (ebT g4 rfl) (R_lk t10 h10 rfl rfl (G_yes (ebT g4 rfl) (R_callk (lno_pure) rfl (G_yes (ebT g4 rfl) (R_callk (rsame_pure (⟨((4:Int)),((0:Int)),([Fm.nd 1 0 []])⟩:Fm) (⟨((4:Int)),((0:Int)),([Fm.nd 1 0 []])⟩:Fm)) rfl (R_pickT (ebT g4 rfl) rfl ?_))))))
    exact ⟨t11,t12,t13,t14,t15,t16,t17,(bandT g4),h1,h2,h3,h4,h6,h7,h8,h10,h12,trivial⟩
   ·
    have g4x:=g4
    simp only [Bool.and_eq_true,Bool.or_eq_true,Bool.not_eq_true',decide_eq_true_eq] at g4x
    refine G_n (ebF g4 rfl) (G_n (ebF g4 rfl) (G_n (ebF g4 rfl) (R_pickF (ebF g4 rfl) rfl ?_)))
    exact ⟨t11,t12,t13,t14,t15,t16,t17,(bandF g4),h1,h2,h3,h4,h6,h7,h8,h10,h12,trivial⟩
  intro T H ⟨t11,t12,t13,t14,t15,t16,t17,t108,h1,h2,h3,h4,h6,h7,h8,h10,h12,_⟩
  refine R_mv t108 ?_
  refine Ops_seg 3 (fun T H=>T 12=(V.mp 12 1 0 0)∧T 13=(iV (0:Int))∧T 14=(V.bool true)∧T 15=(iV (0:Int))∧T 16=(V.bool false)∧T 17=(iV (0:Int))∧T 112=(V.bool ((w7_0&&decide ((0:Int)=(0:Int)))))∧H 1=w7_8∧H 2=w7_9∧H 3=w7_10∧H 4=w7_6∧H 6=w7_1∧H 7=w7_12∧H 8=w7_4∧H 10=w7_11∧H 12=w7_5∧True) ?_ ?_
  ·
   by_cases g5:w7_0=true
   ·
    have g5x:=g5
    simp only [Bool.and_eq_true,Bool.or_eq_true,Bool.not_eq_true',decide_eq_true_eq] at g5x
    refine G_yes (ebT g5 rfl) (R_mv t11 (G_yes (ebT g5 rfl) (R_eql rfl rfl (R_pickT (ebT g5 rfl) rfl ?_))))
    exact ⟨t12,t13,t14,t15,t16,t17,(bandT g5),h1,h2,h3,h4,h6,h7,h8,h10,h12,trivial⟩
   ·
    have g5x:=g5
    simp only [Bool.and_eq_true,Bool.or_eq_true,Bool.not_eq_true',decide_eq_true_eq] at g5x
    refine G_n (ebF g5 rfl) (G_n (ebF g5 rfl) (R_pickF (ebF g5 rfl) rfl ?_))
    exact ⟨t12,t13,t14,t15,t16,t17,(bandF g5),h1,h2,h3,h4,h6,h7,h8,h10,h12,trivial⟩
  intro T H ⟨t12,t13,t14,t15,t16,t17,t112,h1,h2,h3,h4,h6,h7,h8,h10,h12,_⟩
  refine R_mv t112 ?_
  refine Ops_seg 8 (fun T H=>T 13=(iV (0:Int))∧T 14=(V.bool true)∧T 15=(iV (0:Int))∧T 16=(V.bool false)∧T 17=(iV (0:Int))∧T 121=(V.bool w7_3)∧H 1=w7_8∧H 2=w7_9∧H 3=w7_10∧H 4=w7_6∧H 6=w7_1∧H 7=w7_12∧H 8=w7_4∧H 10=w7_11∧H 12=w7_5∧True) ?_ ?_
  ·
   by_cases g6:((w7_0&&decide ((0:Int)=(0:Int))))=true
   ·
    have g6x:=g6
    simp only [Bool.and_eq_true,Bool.or_eq_true,Bool.not_eq_true',decide_eq_true_eq] at g6x
    refine G_yes (ebT g6 rfl) (R_lk t12 h12 rfl rfl (G_yes (ebT g6 rfl) (R_bslice rfl rfl (G_yes (ebT g6 rfl) (R_bslice rfl rfl (G_yes (ebT g6 rfl) (R_bslice rfl rfl ?_)))))))
    refine G_yes (ebT g6 rfl) (R_bslice rfl rfl (G_yes (ebT g6 rfl) (R_build rfl rfl (G_yes (ebT g6 rfl) (R_callk (dfsame_pure (⟨((6:Int)),((0:Int)),([[1,0,1,0,0,0],[1,1,1,1,1,1]]),([true,false])⟩:Df) (⟨((6:Int)),((0:Int)),([[1,0,1,0,0,0],[1,1,1,1,1,1]]),([true,false])⟩:Df)) rfl (R_pickT (ebT g6 rfl) rfl ?_))))))
    exact ⟨t13,t14,t15,t16,t17,(bandT g6),h1,h2,h3,h4,h6,h7,h8,h10,h12,trivial⟩
   ·
    have g6x:=g6
    simp only [Bool.and_eq_true,Bool.or_eq_true,Bool.not_eq_true',decide_eq_true_eq] at g6x
    refine G_n (ebF g6 rfl) (G_n (ebF g6 rfl) (G_n (ebF g6 rfl) (G_n (ebF g6 rfl) (G_n (ebF g6 rfl) (G_n (ebF g6 rfl) (G_n (ebF g6 rfl) (R_pickF (ebF g6 rfl) rfl ?_)))))))
    exact ⟨t13,t14,t15,t16,t17,(bandF g6),h1,h2,h3,h4,h6,h7,h8,h10,h12,trivial⟩
  intro T H ⟨t13,t14,t15,t16,t17,t121,h1,h2,h3,h4,h6,h7,h8,h10,h12,_⟩
  refine R_mv t121 ?_
  refine Ops_seg 3 (fun T H=>T 14=(V.bool true)∧T 15=(iV (0:Int))∧T 16=(V.bool false)∧T 17=(iV (0:Int))∧T 125=(V.bool ((w7_3&&decide ((0:Int)=(0:Int)))))∧H 1=w7_8∧H 2=w7_9∧H 3=w7_10∧H 4=w7_6∧H 6=w7_1∧H 7=w7_12∧H 8=w7_4∧H 10=w7_11∧H 12=w7_5∧True) ?_ ?_
  ·
   by_cases g7:w7_3=true
   ·
    have g7x:=g7
    simp only [Bool.and_eq_true,Bool.or_eq_true,Bool.not_eq_true',decide_eq_true_eq] at g7x
    refine G_yes (ebT g7 rfl) (R_mv t13 (G_yes (ebT g7 rfl) (R_eql rfl rfl (R_pickT (ebT g7 rfl) rfl ?_))))
    exact ⟨t14,t15,t16,t17,(bandT g7),h1,h2,h3,h4,h6,h7,h8,h10,h12,trivial⟩
   ·
    have g7x:=g7
    simp only [Bool.and_eq_true,Bool.or_eq_true,Bool.not_eq_true',decide_eq_true_eq] at g7x
    refine G_n (ebF g7 rfl) (G_n (ebF g7 rfl) (R_pickF (ebF g7 rfl) rfl ?_))
    exact ⟨t14,t15,t16,t17,(bandF g7),h1,h2,h3,h4,h6,h7,h8,h10,h12,trivial⟩
  intro T H ⟨t14,t15,t16,t17,t125,h1,h2,h3,h4,h6,h7,h8,h10,h12,_⟩
  refine R_mv t125 ?_
  refine Ops_seg 2 (fun T H=>T 15=(iV (0:Int))∧T 16=(V.bool false)∧T 17=(iV (0:Int))∧T 128=(V.bool ((((w7_3&&decide ((0:Int)=(0:Int))))||false)))∧H 1=w7_8∧H 2=w7_9∧H 3=w7_10∧H 4=w7_6∧H 6=w7_1∧H 7=w7_12∧H 8=w7_4∧H 10=w7_11∧H 12=w7_5∧True) ?_ ?_
  ·
   by_cases g8:((w7_3&&decide ((0:Int)=(0:Int))))=true
   ·
    have g8x:=g8
    simp only [Bool.and_eq_true,Bool.or_eq_true,Bool.not_eq_true',decide_eq_true_eq] at g8x
    refine G_yes (ebT g8 rfl) (R_mv t14 (R_pickT (ebT g8 rfl) rfl ?_))
    exact ⟨t15,t16,t17,(borT g8),h1,h2,h3,h4,h6,h7,h8,h10,h12,trivial⟩
   ·
    have g8x:=g8
    simp only [Bool.and_eq_true,Bool.or_eq_true,Bool.not_eq_true',decide_eq_true_eq] at g8x
    refine G_n (ebF g8 rfl) (R_pickF (ebF g8 rfl) rfl ?_)
    exact ⟨t15,t16,t17,(borF g8),h1,h2,h3,h4,h6,h7,h8,h10,h12,trivial⟩
  intro T H ⟨t15,t16,t17,t128,h1,h2,h3,h4,h6,h7,h8,h10,h12,_⟩
  refine R_mv t128 ?_
  refine Ops_seg 3 (fun T H=>T 16=(V.bool false)∧T 17=(iV (0:Int))∧T 132=(V.bool w7_14)∧H 1=w7_8∧H 2=w7_9∧H 3=w7_10∧H 4=w7_6∧H 6=w7_1∧H 7=w7_12∧H 8=w7_4∧H 10=w7_11∧H 12=w7_5∧True) ?_ ?_
  ·
   by_cases g9:((((w7_3&&decide ((0:Int)=(0:Int))))||false))=true
   ·
    have g9x:=g9
    simp only [Bool.and_eq_true,Bool.or_eq_true,Bool.not_eq_true',decide_eq_true_eq] at g9x
    refine G_yes (ebT g9 rfl) (R_mv t15 (G_yes (ebT g9 rfl) (R_eql rfl rfl (R_pickT (ebT g9 rfl) rfl ?_))))
    exact ⟨t16,t17,(bandT g9),h1,h2,h3,h4,h6,h7,h8,h10,h12,trivial⟩
   ·
    have g9x:=g9
    simp only [Bool.and_eq_true,Bool.or_eq_true,Bool.not_eq_true',decide_eq_true_eq] at g9x
    refine G_n (ebF g9 rfl) (G_n (ebF g9 rfl) (R_pickF (ebF g9 rfl) rfl ?_))
    exact ⟨t16,t17,(bandF g9),h1,h2,h3,h4,h6,h7,h8,h10,h12,trivial⟩
  intro T H ⟨t16,t17,t132,h1,h2,h3,h4,h6,h7,h8,h10,h12,_⟩
  refine R_mv t132 ?_
  refine Ops_seg 3 (fun T H=>T 17=(iV (0:Int))∧T 136=(V.bool ((w7_14||false)))∧H 1=w7_8∧H 2=w7_9∧H 3=w7_10∧H 4=w7_6∧H 6=w7_1∧H 7=w7_12∧H 8=w7_4∧H 10=w7_11∧H 12=w7_5∧True) ?_ ?_
  ·
   by_cases g10:w7_14=true
   ·
    have g10x:=g10
    simp only [Bool.and_eq_true,Bool.or_eq_true,Bool.not_eq_true',decide_eq_true_eq] at g10x
    refine G_yes (ebT g10 rfl) (R_mv t16 (G_yes (ebT g10 rfl) (R_notb rfl (R_pickT (ebT g10 rfl) rfl ?_))))
    exact ⟨t17,(borT g10),h1,h2,h3,h4,h6,h7,h8,h10,h12,trivial⟩
   ·
    have g10x:=g10
    simp only [Bool.and_eq_true,Bool.or_eq_true,Bool.not_eq_true',decide_eq_true_eq] at g10x
    refine G_n (ebF g10 rfl) (G_n (ebF g10 rfl) (R_pickF (ebF g10 rfl) rfl ?_))
    exact ⟨t17,(borF g10),h1,h2,h3,h4,h6,h7,h8,h10,h12,trivial⟩
  intro T H ⟨t17,t136,h1,h2,h3,h4,h6,h7,h8,h10,h12,_⟩
  refine R_mv t136 ?_
  refine Ops_seg 3 (fun T H=>T 140=(V.bool ((((w7_14||false))&&decide ((0:Int)=(0:Int)))))∧H 1=w7_8∧H 2=w7_9∧H 3=w7_10∧H 4=w7_6∧H 6=w7_1∧H 7=w7_12∧H 8=w7_4∧H 10=w7_11∧H 12=w7_5∧True) ?_ ?_
  ·
   by_cases g11:((w7_14||false))=true
   ·
    have g11x:=g11
    simp only [Bool.and_eq_true,Bool.or_eq_true,Bool.not_eq_true',decide_eq_true_eq] at g11x
    refine G_yes (ebT g11 rfl) (R_mv t17 (G_yes (ebT g11 rfl) (R_eql rfl rfl (R_pickT (ebT g11 rfl) rfl ?_))))
    exact ⟨(bandT g11),h1,h2,h3,h4,h6,h7,h8,h10,h12,trivial⟩
   ·
    have g11x:=g11
    simp only [Bool.and_eq_true,Bool.or_eq_true,Bool.not_eq_true',decide_eq_true_eq] at g11x
    refine G_n (ebF g11 rfl) (G_n (ebF g11 rfl) (R_pickF (ebF g11 rfl) rfl ?_))
    exact ⟨(bandF g11),h1,h2,h3,h4,h6,h7,h8,h10,h12,trivial⟩
  intro T H ⟨t140,h1,h2,h3,h4,h6,h7,h8,h10,h12,_⟩
  refine R_mv t140 ?_
  exact R_nil ⟨rfl,h1,h2,h3,h4,h6,h7,h8,h10,h12,trivial⟩
 intro T H ⟨t0,h1,h2,h3,h4,h6,h7,h8,h10,h12,_⟩
 refine W_ret ?_
 refine Ret_1 t0 (fz_bool ?_)
 · decide+kernel
end Go.Proofs.YteehaobohaecmaaDoor
namespace Go.Proofs.YteehaobohaecmaaDoor
open Go Go.Proofs
def r8_5:List SO:=[
 qF 18 1 3,
 ql 19 18,
 qN 20 19,
 qF 21 0 3,
 ql 22 21,
 qN 23 22,
 qP 24 .neq 20 23,
 qM 17 24]
def r8_7:List SO:=[
 qL 25 3 2,
 qL 26 2 3,
 sO 27 (.call false 20 [.t 25,.t 26]),
 sO 28 (.idx 1 (.t 27) (.c (.int .i64 0))),
 ql 29 28,
 qM 4 29,
 qI 5 0]
def s8:SF:=⟨30,[.tmp 4,.tmp 5],.seq (.reg [sO 2 (.box 24 3 (.t 0)),sO 3 (.box 27 2 (.t 1)),sO 4 (.mv (.c (.bool false))),qI 5 0]) (.seq (.block 0 (.seq (.reg [qL 7 3 2,sO 8 (.call false 14 [.t 7]),qC 9 .neq 8 0,qM 6 9]) (.cond (.t 6) (.seq (.reg [qL 10 3 2,sO 11 (.call false 14 [.t 10]),sO 4 (.mv (.c (.bool false))),qM 5 11]) (.ret)) (.seq (.reg [qF 13 0 3,ql 14 13,qN 15 14,qC 16 .gtr 15 1024,qM 12 16]) (.cond (.t 12) (.seq (.reg [sO 4 (.mv (.c (.bool false))),qI 5 3]) (.ret)) (.seq (.reg r8_5) (.cond (.t 17) (.seq (.reg [sO 4 (.mv (.c (.bool false))),qI 5 1]) (.ret)) (.skip)))))))) (.seq (.reg r8_7) (.ret)))⟩
theorem s8_ok:slimF Tryd.prog ⟨[32,48,55,93,94,95,100],[],[],[]⟩ Tryd.f8=some s8:=by kernel_rfl
def r14_1:List SO:=[
 qL 6 3 1,
 sO 7 (.call false 26 [.t 6,.c (.int .i64 1),.c (.int .i64 0)]),
 qM 5 7,
 qE 8 5 0,
 qE 9 5 1,
 qM 3 8,
 qM 4 9]
def s14:SF:=⟨11,[.tmp 2],.seq (.reg [sO 1 (.box 24 3 (.t 0)),qI 2 0]) (.seq (.reg r14_1) (.seq (.reg [qM 10 4,qM 2 10]) (.ret)))⟩
theorem s14_ok:slimF Tryd.prog ⟨[32,48,55,93,94,95,100],[],[],[]⟩ Tryd.f14=some s14:=by kernel_rfl
def r26_11:List SO:=[
 qF 37 2 3,
 ql 38 37,
 qM 39 9,
 qA 40 3 38 39,
 qL 41 3 40,
 qM 42 1,
 qC 43 .add 42 1,
 qM 44 8,
 sO 45 (.call false 26 [.t 41,.t 43,.t 44]),
 qM 36 45,
 qE 46 36 0,
 qE 47 36 1,
 qM 10 46,
 qM 11 47]
def b26_0:SC:=.seq (.seq (.reg [qM 29 9,qF 30 2 3,ql 31 30,qN 32 31,qP 33 .lss 29 32]) (.cond (.t 33) (.skip) (.exit 1))) (.seq (.block 2 (.seq (.reg r26_11) (.seq (.seq (.reg [qM 48 11,qC 49 .neq 48 0]) (.cond (.t 49) (.seq (.reg [qM 50 10,qM 51 11,qM 6 50,qM 7 51]) (.ret)) (.skip))) (.reg [qM 52 10,qM 8 52])))) (.reg [qM 34 9,qC 35 .add 34 1,qM 9 35]))
def s26:SF:=⟨54,[.tmp 6,.tmp 7],.seq (.reg [sO 3 (.box 24 3 (.t 0)),qI 6 0,qI 7 0]) (.seq (.reg [qM 12 2,qC 13 .add 12 1,qM 8 13]) (.seq (.block 0 (.seq (.reg [qM 15 8,qC 16 .gtr 15 4096,qM 14 16]) (.cond (.t 14) (.seq (.reg [qM 17 8,qM 6 17,qI 7 11]) (.ret)) (.seq (.reg [qM 19 1,qC 20 .gtr 19 64,qM 18 20]) (.cond (.t 18) (.seq (.reg [qM 21 8,qM 6 21,qI 7 16]) (.ret)) (.seq (.reg [qL 23 3 3,sO 24 (.call false 40 [.t 23]),qC 25 .neq 24 0,qM 22 25]) (.cond (.t 22) (.seq (.reg [qM 26 8,qL 27 3 3,sO 28 (.call false 40 [.t 27]),qM 6 26,qM 7 28]) (.ret)) (.skip)))))))) (.seq (.seq (.reg [qI 9 0]) (.block 1 (.loop b26_0))) (.seq (.reg [qM 53 8,qM 6 53,qI 7 0]) (.ret)))))⟩
theorem s26_ok:slimF Tryd.prog ⟨[32,48,55,93,94,95,100],[],[],[]⟩ Tryd.f26=some s26:=by kernel_rfl
def r40_18:List SO:=[
 qF 33 0 1,
 ql 34 33,
 qC 35 .eql 34 2,
 qM 36 35,
 ⟨some (36,false),some 37,.fld 0 (.t 1)⟩,
 ⟨some (36,false),some 38,.load false 1 (.t 37)⟩,
 ⟨some (36,false),some 39,.bin .eql (.t 38) (.c (.int .i64 3))⟩,
 sO 40 (.pick (.t 36) (.c (.bool true)) (.t 39)),
 qM 5 40]
def r40_19:List SO:=[
 qM 42 4,
 sO 43 (.un .not (.t 42)),
 qM 44 43,
 ⟨some (44,false),some 45,.mv (.t 5)⟩,
 ⟨some (44,false),some 46,.un .not (.t 45)⟩,
 ⟨some (44,false),some 47,.mv (.t 46)⟩,
 ⟨some (47,true),some 48,.fld 1 (.t 1)⟩,
 ⟨some (47,true),some 49,.load false 1 (.t 48)⟩,
 ⟨some (47,true),some 50,.bin .neq (.t 49) (.c (.int .i64 0))⟩,
 ⟨some (44,false),some 51,.pick (.t 47) (.t 50) (.c (.bool false))⟩,
 sO 52 (.pick (.t 44) (.c (.bool true)) (.t 51)),
 qM 41 52]
def r40_21:List SO:=[
 qF 54 0 1,
 ql 55 54,
 qC 56 .eql 55 2,
 qM 57 56,
 ⟨some (57,true),some 58,.fld 1 (.t 1)⟩,
 ⟨some (57,true),some 59,.load false 1 (.t 58)⟩,
 ⟨some (57,true),some 60,.bin .lss (.t 59) (.c (.int .i64 0))⟩,
 ⟨some (57,true),some 61,.mv (.t 60)⟩,
 ⟨some (61,false),some 62,.fld 1 (.t 1)⟩,
 ⟨some (61,false),some 63,.load false 1 (.t 62)⟩,
 ⟨some (61,false),some 64,.bin .geq (.t 63) (.c (.int .i64 64))⟩,
 ⟨some (57,true),some 65,.pick (.t 61) (.c (.bool true)) (.t 64)⟩,
 sO 66 (.pick (.t 57) (.t 65) (.c (.bool false))),
 qM 53 66]
def r40_22:List SO:=[
 qF 67 0 1,
 ql 68 67,
 qC 69 .eql 68 3,
 qM 70 69,
 ⟨some (70,true),some 71,.fld 1 (.t 1)⟩,
 ⟨some (70,true),some 72,.load false 1 (.t 71)⟩,
 ⟨some (70,true),some 73,.bin .lss (.t 72) (.c (.int .i64 0))⟩,
 ⟨some (70,true),some 74,.mv (.t 73)⟩,
 ⟨some (74,false),some 75,.fld 1 (.t 1)⟩,
 ⟨some (74,false),some 76,.load false 1 (.t 75)⟩,
 ⟨some (74,false),some 77,.bin .gtr (.t 76) (.c (.int .i64 1048576))⟩,
 ⟨some (70,true),some 78,.pick (.t 74) (.c (.bool true)) (.t 77)⟩,
 sO 79 (.pick (.t 70) (.t 78) (.c (.bool false))),
 qM 53 79]
def s40:SF:=⟨80,[.tmp 2],.seq (.reg [sO 1 (.box 24 3 (.t 0)),qI 2 0]) (.seq (.reg [qF 6 2 1,ql 7 6,qN 8 7,qM 3 8]) (.seq (.reg [sO 4 (.mv (.c (.bool false)))]) (.seq (.seq (.reg [qF 9 0 1,ql 10 9]) (.block 0 (.seq (.seq (.reg [qC 12 .eql 10 1,qM 11 12]) (.cond (.t 11) (.skip) (.seq (.reg [qC 13 .eql 10 2,qM 11 13]) (.cond (.t 11) (.skip) (.reg [qC 14 .eql 10 3,qM 11 14]))))) (.cond (.t 11) (.reg [qM 15 3,qC 16 .eql 15 0,qM 4 16]) (.seq (.seq (.reg [qC 18 .eql 10 4,qM 17 18]) (.cond (.t 17) (.skip) (.seq (.reg [qC 19 .eql 10 7,qM 17 19]) (.cond (.t 17) (.skip) (.reg [qC 20 .eql 10 9,qM 17 20]))))) (.cond (.t 17) (.reg [qM 21 3,qC 22 .eql 21 1,qM 4 22]) (.seq (.seq (.reg [qC 24 .eql 10 5,qM 23 24]) (.cond (.t 23) (.skip) (.reg [qC 25 .eql 10 6,qM 23 25]))) (.cond (.t 23) (.reg [qM 26 3,qC 27 .geq 26 2,qM 4 27]) (.seq (.seq (.reg [qC 29 .eql 10 8,qM 28 29]) (.cond (.t 28) (.skip) (.reg [qC 30 .eql 10 10,qM 28 30]))) (.cond (.t 28) (.reg [qM 31 3,qC 32 .eql 31 2,qM 4 32]) (.skip))))))))))) (.seq (.reg r40_18) (.seq (.block 1 (.seq (.reg r40_19) (.cond (.t 41) (.seq (.reg [qI 2 1]) (.ret)) (.seq (.seq (.reg r40_21) (.cond (.t 53) (.skip) (.reg r40_22))) (.cond (.t 53) (.seq (.reg [qI 2 2]) (.ret)) (.skip)))))) (.seq (.reg [qI 2 0]) (.ret)))))))⟩
theorem s40_ok:slimF Tryd.prog ⟨[32,48,55,93,94,95,100],[],[],[]⟩ Tryd.f40=some s40:=by kernel_rfl
end Go.Proofs.YteehaobohaecmaaDoor
namespace Go.Proofs.YteehaobohaecmaaDoor
open Go
def kokB (f:Fm):Bool:=if f.op=1∨f.op=2∨f.op=3 then decide ((f.kids.length:Int)=0) else if f.op=4∨f.op=7∨f.op=9 then decide ((f.kids.length:Int)=1) else if f.op=5∨f.op=6 then decide (2≤(f.kids.length:Int)) else if f.op=8∨f.op=10 then decide ((f.kids.length:Int)=2) else false
section
variable {f:Fm}
theorem kok_1 (h:f.op=1∨f.op=2∨f.op=3):kokB f=decide ((f.kids.length:Int)=0):=if_pos h
theorem kok_4 (h:f.op=4∨f.op=7∨f.op=9):kokB f=decide ((f.kids.length:Int)=1):=by unfold kokB; rw [if_neg (by omega),if_pos h]
theorem kok_5 (h:f.op=5∨f.op=6):kokB f=decide (2≤(f.kids.length:Int)):=by unfold kokB; rw [if_neg (by omega),if_neg (by omega),if_pos h]
theorem kok_8 (h:f.op=8∨f.op=10):kokB f=decide ((f.kids.length:Int)=2):=by unfold kokB; rw [if_neg (by omega),if_neg (by omega),if_neg (by omega),if_pos h]
theorem kok_n (h: ¬(1≤f.op∧f.op≤10)):kokB f=false:=by unfold kokB; rw [if_neg (by omega),if_neg (by omega),if_neg (by omega),if_neg (by omega)]
theorem kok_iff:kokB f=true↔ ¬(f.op < 1∨10 < f.op∨(f.kids.length:Int) < kLo f.op∨(0≤kHi f.op∧kHi f.op < f.kids.length)):=by
  by_cases h:1≤f.op∧f.op≤10
  · have hc:(f.op=1∨f.op=2∨f.op=3)∨(f.op=4∨f.op=7∨f.op=9)∨(f.op=5∨f.op=6)∨(f.op=8∨f.op=10):=by omega
    rcases hc with q|q|q|q
    · rw [kok_1 q,decide_eq_true_eq]; simp only [kLo,kHi]; repeat (first|omega|split)
    · rw [kok_4 q,decide_eq_true_eq]; simp only [kLo,kHi]; repeat (first|omega|split)
    · rw [kok_5 q,decide_eq_true_eq]; simp only [kLo,kHi]; repeat (first|omega|split)
    · rw [kok_8 q,decide_eq_true_eq]; simp only [kLo,kHi]; repeat (first|omega|split)
  · rw [kok_n h]
    constructor
    · intro e; cases e
    · intro e; exact absurd (by omega) e
theorem rgt_k1 (h:kokB f=false∨(¬(f.op=2∨f.op=3)∧f.arg≠0)):rgt f=1:=by
  unfold rgt
  rw [if_pos]
  rcases h with h|h
  · have: ¬kokB f=true:=by rw [h]; decide
    rw [kok_iff] at this
    have:=Decidable.of_not_not this
    omega
  · omega
theorem rgt_k2 (h: ¬(kokB f=false∨(¬(f.op=2∨f.op=3)∧f.arg≠0))):rgt f=if (f.op=2∧(f.arg < 0∨64≤f.arg))∨(f.op=3∧(f.arg < 0∨1048576 < f.arg)) then 2 else 0:=by
  unfold rgt
  rw [if_neg]
  have h1:kokB f=true:=by
    cases q:kokB f with
    |true=>rfl
    |false=>exact absurd (.inl q) h
  have:=kok_iff.1 h1
  have h2: ¬(¬(f.op=2∨f.op=3)∧f.arg≠0):=fun e=>h (.inr e)
  omega
end
end Go.Proofs.YteehaobohaecmaaDoor
namespace Go.Proofs.YteehaobohaecmaaDoor
open Go Go.Proofs
theorem rright_pure (f:Fm):PureC Tryd.prog 40 [(V.agg [(iV (f.op)),(iV (f.arg)),(V.sl (List.map cF (f.kids)))])] (iV (rgt f)):=by
 refine pW Tryd.func40 s40_ok fun hB=>?_
 unfold s40
 dsimp only
 refine W_r (R_box (i:=1) (n:=0) (m:=3) (cs:=[(iV (f.op)),(iV (f.arg)),(V.sl (List.map cF (f.kids)))]) rfl (congrArg Blk.ver rfl) rfl rfl rfl (R_mv rfl (R_e (W_r (R_fk rfl rfl (R_lk rfl rfl rfl rfl (R_len rfl ?_)))))))
 refine R_mv rfl (R_e (W_r (R_mv rfl (R_e (W_seq_seq (W_r (R_fk rfl rfl ?_)))))))
 refine R_lk rfl rfl rfl rfl (R_e ?_)
 refine W_seq_blockJ (fun T H=>T 1=(V.mp 1 1 0 0)∧T 4=(V.bool (kokB f))∧H 1=(bk 1 24 3 [[(iV (f.op)),(iV (f.arg)),(V.sl (List.map cF (f.kids)))]])∧True) (fun Q1 n1 x1 y1 z1=>?_) ?_
 ·
  refine W_seq_seq (W_r (R_eql rfl rfl (R_mv rfl (R_e ?_))))
  refine W_seq_if rfl (fun c2=>?_) fun c2=>?_
  ·
   refine W_seq_skip ?_
   refine W_if rfl (fun c3=>?_) fun c3=>?_
   ·
    refine W_t (R_mv rfl (R_eql rfl rfl (R_mv rfl (R_e ?_))))
    exact n1 _ _ ⟨rfl,(Eq.trans (@rfl V (V.bool (decide (((f.kids.length:Nat):Int)=(0:Int))))) (by (rw [kok_1 (by omega)]; done))),rfl,trivial⟩
   · exact (c3 c2).elim
  refine W_seq_seq (W_r (R_eql rfl rfl (R_mv rfl (R_e ?_))))
  refine W_seq_if rfl (fun c4=>?_) fun c4=>?_
  ·
   refine W_seq_skip ?_
   refine W_if rfl (fun c5=>?_) fun c5=>?_
   ·
    refine W_t (R_mv rfl (R_eql rfl rfl (R_mv rfl (R_e ?_))))
    exact n1 _ _ ⟨rfl,(Eq.trans (@rfl V (V.bool (decide (((f.kids.length:Nat):Int)=(0:Int))))) (by (rw [kok_1 (by omega)]; done))),rfl,trivial⟩
   · exact (c5 c4).elim
  refine W_r (R_eql rfl rfl (R_mv rfl (R_e ?_)))
  refine W_if rfl (fun c6=>?_) fun c6=>?_
  ·
   refine W_t (R_mv rfl (R_eql rfl rfl (R_mv rfl (R_e ?_))))
   exact n1 _ _ ⟨rfl,(Eq.trans (@rfl V (V.bool (decide (((f.kids.length:Nat):Int)=(0:Int))))) (by (rw [kok_1 (by omega)]; done))),rfl,trivial⟩
  refine W_seq_seq (W_r (R_eql rfl rfl (R_mv rfl (R_e ?_))))
  refine W_seq_if rfl (fun c7=>?_) fun c7=>?_
  ·
   refine W_seq_skip ?_
   refine W_if rfl (fun c8=>?_) fun c8=>?_
   ·
    refine W_t (R_mv rfl (R_eql rfl rfl (R_mv rfl (R_e ?_))))
    exact n1 _ _ ⟨rfl,(Eq.trans (@rfl V (V.bool (decide (((f.kids.length:Nat):Int)=(1:Int))))) (by (rw [kok_4 (by omega)]; done))),rfl,trivial⟩
   · exact (c8 c7).elim
  refine W_seq_seq (W_r (R_eql rfl rfl (R_mv rfl (R_e ?_))))
  refine W_seq_if rfl (fun c9=>?_) fun c9=>?_
  ·
   refine W_seq_skip ?_
   refine W_if rfl (fun c10=>?_) fun c10=>?_
   ·
    refine W_t (R_mv rfl (R_eql rfl rfl (R_mv rfl (R_e ?_))))
    exact n1 _ _ ⟨rfl,(Eq.trans (@rfl V (V.bool (decide (((f.kids.length:Nat):Int)=(1:Int))))) (by (rw [kok_4 (by omega)]; done))),rfl,trivial⟩
   · exact (c10 c9).elim
  refine W_r (R_eql rfl rfl (R_mv rfl (R_e ?_)))
  refine W_if rfl (fun c11=>?_) fun c11=>?_
  ·
   refine W_t (R_mv rfl (R_eql rfl rfl (R_mv rfl (R_e ?_))))
   exact n1 _ _ ⟨rfl,(Eq.trans (@rfl V (V.bool (decide (((f.kids.length:Nat):Int)=(1:Int))))) (by (rw [kok_4 (by omega)]; done))),rfl,trivial⟩
  refine W_seq_seq (W_r (R_eql rfl rfl (R_mv rfl (R_e ?_))))
  refine W_seq_if rfl (fun c12=>?_) fun c12=>?_
  ·
   refine W_seq_skip ?_
   refine W_if rfl (fun c13=>?_) fun c13=>?_
   ·
    refine W_t (R_mv rfl (R_geq rfl rfl (R_mv rfl (R_e ?_))))
    exact n1 _ _ ⟨rfl,(Eq.trans (@rfl V (V.bool (decide ((2:Int)≤((f.kids.length:Nat):Int))))) (by (rw [kok_5 (by omega)]; done))),rfl,trivial⟩
   · exact (c13 c12).elim
  refine W_r (R_eql rfl rfl (R_mv rfl (R_e ?_)))
  refine W_if rfl (fun c14=>?_) fun c14=>?_
  ·
   refine W_t (R_mv rfl (R_geq rfl rfl (R_mv rfl (R_e ?_))))
   exact n1 _ _ ⟨rfl,(Eq.trans (@rfl V (V.bool (decide ((2:Int)≤((f.kids.length:Nat):Int))))) (by (rw [kok_5 (by omega)]; done))),rfl,trivial⟩
  refine W_seq_seq (W_r (R_eql rfl rfl (R_mv rfl (R_e ?_))))
  refine W_seq_if rfl (fun c15=>?_) fun c15=>?_
  ·
   refine W_seq_skip ?_
   refine W_if rfl (fun c16=>?_) fun c16=>?_
   ·
    refine W_t (R_mv rfl (R_eql rfl rfl (R_mv rfl (R_e ?_))))
    exact n1 _ _ ⟨rfl,(Eq.trans (@rfl V (V.bool (decide (((f.kids.length:Nat):Int)=(2:Int))))) (by (rw [kok_8 (by omega)]; done))),rfl,trivial⟩
   · exact (c16 c15).elim
  refine W_r (R_eql rfl rfl (R_mv rfl (R_e ?_)))
  refine W_if rfl (fun c17=>?_) fun c17=>?_
  ·
   refine W_t (R_mv rfl (R_eql rfl rfl (R_mv rfl (R_e ?_))))
   exact n1 _ _ ⟨rfl,(Eq.trans (@rfl V (V.bool (decide (((f.kids.length:Nat):Int)=(2:Int))))) (by (rw [kok_8 (by omega)]; done))),rfl,trivial⟩
  refine W_skip ?_
  exact n1 _ _ ⟨rfl,(Eq.trans (@rfl V (V.bool false)) (by (rw [kok_n (by omega)]; done))),rfl,trivial⟩
 intro T H ⟨t1,t4,h1,_⟩
 refine W_r (R_fk t1 h1 (R_lk rfl h1 rfl rfl (R_eql rfl rfl (R_mv rfl ?_))))
 refine Ops_seg 4 (fun T H=>T 1=(V.mp 1 1 0 0)∧T 4=(V.bool (kokB f))∧T 40=(V.bool (decide (((f.op)=(2:Int))∨((f.op)=(3:Int)))))∧H 1=(bk 1 24 3 [[(iV (f.op)),(iV (f.arg)),(V.sl (List.map cF (f.kids)))]])∧True) ?_ ?_
 ·
  by_cases g18:(f.op)=(2:Int)
  ·
   refine G_n (edT g18 rfl) (G_n (edT g18 rfl) (G_n (edT g18 rfl) (R_pickT (edT g18 rfl) rfl ?_)))
   exact ⟨t1,t4,(dec_orT g18),h1,trivial⟩
  ·
   refine G_yes (edF g18 rfl) (R_fk t1 h1 (G_yes (edF g18 rfl) (R_lk rfl h1 rfl rfl (G_yes (edF g18 rfl) (R_eql rfl rfl (R_pickF (edF g18 rfl) rfl ?_))))))
   exact ⟨t1,t4,(dec_orF g18),h1,trivial⟩
 intro T H ⟨t1,t4,t40,h1,_⟩
 refine R_mv t40 (R_e (W_seq_blockg fun Q19 n19 x19 y19 z19=>(W_r (R_mv t4 (R_notb rfl (R_mv rfl ?_))))))
 refine Ops_seg 8 (fun T H=>T 1=(V.mp 1 1 0 0)∧T 52=(V.bool ((((!kokB f))||decide ((¬(((f.op)=(2:Int))∨((f.op)=(3:Int))))∧((f.arg)≠(0:Int))))))∧H 1=(bk 1 24 3 [[(iV (f.op)),(iV (f.arg)),(V.sl (List.map cF (f.kids)))]])∧True) ?_ ?_
 ·
  by_cases g20:((!kokB f))=true
  ·
   refine G_n (ebT g20 rfl) (G_n (ebT g20 rfl) (G_n (ebT g20 rfl) (G_raw (@rfl V (V.raw undef)) (G_raw (@rfl V (V.raw undef)) (G_raw (@rfl V (V.raw undef)) (G_n (ebT g20 rfl) (R_pickT (ebT g20 rfl) rfl ?_)))))))
   exact ⟨t1,(borT g20),h1,trivial⟩
  ·
   refine G_yes (ebF g20 rfl) (R_mv rfl (G_yes (ebF g20 rfl) (R_not rfl (G_yes (ebF g20 rfl) (R_mv rfl ?_)))))
   refine Ops_seg 4 (fun T H=>T 1=(V.mp 1 1 0 0)∧T 44=(V.bool false)∧T 51=(V.bool (decide ((¬(((f.op)=(2:Int))∨((f.op)=(3:Int))))∧((f.arg)≠(0:Int)))))∧H 1=(bk 1 24 3 [[(iV (f.op)),(iV (f.arg)),(V.sl (List.map cF (f.kids)))]])∧True) ?_ ?_
   ·
    by_cases g21: ¬(((f.op)=(2:Int))∨((f.op)=(3:Int)))
    ·
     refine G_yes (edT g21 rfl) (R_fk t1 h1 (G_yes (edT g21 rfl) (R_lk rfl h1 rfl rfl (G_yes (edT g21 rfl) (R_neq rfl rfl (G_yes (ebF g20 rfl) (R_pickT (edT g21 rfl) rfl ?_)))))))
     exact ⟨t1,(ebF g20 rfl),(dec_andT g21),h1,trivial⟩
    ·
     refine G_n (edF g21 rfl) (G_n (edF g21 rfl) (G_n (edF g21 rfl) (G_yes (ebF g20 rfl) (R_pickF (edF g21 rfl) rfl ?_))))
     exact ⟨t1,(ebF g20 rfl),(dec_andF g21),h1,trivial⟩
   intro T H ⟨t1,t44,t51,h1,_⟩
   refine R_pickF t44 t51 ?_
   exact ⟨t1,(borF g20),h1,trivial⟩
 intro T H ⟨t1,t52,h1,_⟩
 refine R_mv t52 (R_e ?_)
 refine W_ifb rfl (fun c22=>?_) (fun c22=>?_)
 ·
  have d1:=rgt_k1 (f:=f) (by simpa using c22)
  refine W_r (R_mv rfl (R_e (W_ret (y19 _ _ ?_))))
  refine Ret_1 (@rfl V (iV (1:Int))) (fz_int ?_)
  · exact d1.symm
 have d1:=rgt_k2 (f:=f) (by simpa using c22)
 refine W_seq_seq (W_r (R_fk t1 h1 (R_lk rfl h1 rfl rfl (R_eql rfl rfl (R_mv rfl ?_)))))
 refine Ops_seg 9 (fun T H=>T 1=(V.mp 1 1 0 0)∧T 66=(V.bool (decide (((f.op)=(2:Int))∧(((f.arg) < (0:Int))∨((64:Int)≤(f.arg))))))∧H 1=(bk 1 24 3 [[(iV (f.op)),(iV (f.arg)),(V.sl (List.map cF (f.kids)))]])∧True) ?_ ?_
 ·
  by_cases g23:(f.op)=(2:Int)
  ·
   refine G_yes (edT g23 rfl) (R_fk t1 h1 (G_yes (edT g23 rfl) (R_lk rfl h1 rfl rfl (G_yes (edT g23 rfl) (R_lss rfl rfl (G_yes (edT g23 rfl) (R_mv rfl ?_)))))))
   refine Ops_seg 4 (fun T H=>T 1=(V.mp 1 1 0 0)∧T 57=(V.bool true)∧T 65=(V.bool (decide (((f.arg) < (0:Int))∨((64:Int)≤(f.arg)))))∧H 1=(bk 1 24 3 [[(iV (f.op)),(iV (f.arg)),(V.sl (List.map cF (f.kids)))]])∧True) ?_ ?_
   ·
    by_cases g24:(f.arg) < (0:Int)
    ·
     refine G_n (edT g24 rfl) (G_n (edT g24 rfl) (G_n (edT g24 rfl) (G_yes (edT g23 rfl) (R_pickT (edT g24 rfl) rfl ?_))))
     exact ⟨t1,(edT g23 rfl),(dec_orT g24),h1,trivial⟩
    ·
     refine G_yes (edF g24 rfl) (R_fk t1 h1 (G_yes (edF g24 rfl) (R_lk rfl h1 rfl rfl (G_yes (edF g24 rfl) (R_geq rfl rfl (G_yes (edT g23 rfl) (R_pickF (edF g24 rfl) rfl ?_)))))))
     exact ⟨t1,(edT g23 rfl),(dec_orF g24),h1,trivial⟩
   intro T H ⟨t1,t57,t65,h1,_⟩
   refine R_pickT t57 t65 ?_
   exact ⟨t1,(dec_andT g23),h1,trivial⟩
  ·
   refine G_n (edF g23 rfl) (G_n (edF g23 rfl) (G_n (edF g23 rfl) (G_n (edF g23 rfl) (G_raw (@rfl V (V.raw undef)) (G_raw (@rfl V (V.raw undef)) (G_raw (@rfl V (V.raw undef)) (G_n (edF g23 rfl) ?_)))))))
   refine R_pickF (edF g23 rfl) rfl ?_
   exact ⟨t1,(dec_andF g23),h1,trivial⟩
 intro T H ⟨t1,t66,h1,_⟩
 refine R_mv t66 (R_e ?_)
 refine W_seq_if rfl (fun c25=>?_) fun c25=>?_
 ·
  try rw [if_pos (by omega)] at d1
  refine W_seq_skip ?_
  refine W_if rfl (fun c26=>?_) fun c26=>?_
  ·
   try rw [if_pos (by omega)] at d1
   refine W_r (R_mv rfl (R_e (W_ret (y19 _ _ ?_))))
   refine Ret_1 (@rfl V (iV (2:Int))) (fz_int ?_)
   · exact d1.symm
  · exact (c26 c25).elim
 try rw [if_neg (by omega)] at d1
 refine W_r (R_fk t1 h1 (R_lk rfl h1 rfl rfl (R_eql rfl rfl (R_mv rfl ?_))))
 refine Ops_seg 9 (fun T H=>T 53=(V.bool (decide (((f.op)=(2:Int))∧(((f.arg) < (0:Int))∨((64:Int)≤(f.arg))))))∧T 79=(V.bool (decide (((f.op)=(3:Int))∧(((f.arg) < (0:Int))∨((1048576:Int) < (f.arg))))))∧H 1=(bk 1 24 3 [[(iV (f.op)),(iV (f.arg)),(V.sl (List.map cF (f.kids)))]])∧True) ?_ ?_
 ·
  by_cases g27:(f.op)=(3:Int)
  ·
   refine G_yes (edT g27 rfl) (R_fk t1 h1 (G_yes (edT g27 rfl) (R_lk rfl h1 rfl rfl (G_yes (edT g27 rfl) (R_lss rfl rfl (G_yes (edT g27 rfl) (R_mv rfl ?_)))))))
   refine Ops_seg 4 (fun T H=>T 53=(V.bool (decide (((f.op)=(2:Int))∧(((f.arg) < (0:Int))∨((64:Int)≤(f.arg))))))∧T 70=(V.bool true)∧T 78=(V.bool (decide (((f.arg) < (0:Int))∨((1048576:Int) < (f.arg)))))∧H 1=(bk 1 24 3 [[(iV (f.op)),(iV (f.arg)),(V.sl (List.map cF (f.kids)))]])∧True) ?_ ?_
   ·
    by_cases g28:(f.arg) < (0:Int)
    ·
     refine G_n (edT g28 rfl) (G_n (edT g28 rfl) (G_n (edT g28 rfl) (G_yes (edT g27 rfl) (R_pickT (edT g28 rfl) rfl ?_))))
     exact ⟨rfl,(edT g27 rfl),(dec_orT g28),h1,trivial⟩
    ·
     refine G_yes (edF g28 rfl) (R_fk t1 h1 (G_yes (edF g28 rfl) (R_lk rfl h1 rfl rfl (G_yes (edF g28 rfl) (R_gtr rfl rfl (G_yes (edT g27 rfl) (R_pickF (edF g28 rfl) rfl ?_)))))))
     exact ⟨rfl,(edT g27 rfl),(dec_orF g28),h1,trivial⟩
   intro T H ⟨t53,t70,t78,h1,_⟩
   refine R_pickT t70 t78 ?_
   exact ⟨t53,(dec_andT g27),h1,trivial⟩
  ·
   refine G_n (edF g27 rfl) (G_n (edF g27 rfl) (G_n (edF g27 rfl) (G_n (edF g27 rfl) (G_raw (@rfl V (V.raw undef)) (G_raw (@rfl V (V.raw undef)) (G_raw (@rfl V (V.raw undef)) (G_n (edF g27 rfl) ?_)))))))
   refine R_pickF (edF g27 rfl) rfl ?_
   exact ⟨rfl,(dec_andF g27),h1,trivial⟩
 intro T H ⟨t53,t79,h1,_⟩
 refine R_mv t79 (R_e ?_)
 refine W_if rfl (fun c29=>?_) fun c29=>?_
 ·
  try rw [if_pos (by omega)] at d1
  refine W_r (R_mv rfl (R_e (W_ret (y19 _ _ ?_))))
  refine Ret_1 (@rfl V (iV (2:Int))) (fz_int ?_)
  · exact d1.symm
 try rw [if_neg (by omega)] at d1
 refine W_skip (n19 _ _ (.done (W_r (R_mv rfl (R_e (W_ret ?_))))))
 refine Ret_1 (@rfl V (iV (0:Int))) (fz_int ?_)
 · exact d1.symm
theorem rexam_pure_step (f:Fm) (lv b:Int) (hb:0≤b∧b≤4096) (hl:0≤lv∧lv≤65) (ih: ∀ (g:Fm) (lv b:Int),g.sz < f.sz→0≤b∧b≤4096→0≤lv∧lv≤65→PureC Tryd.prog 26 [(V.agg [(iV (g.op)),(iV (g.arg)),(V.sl (List.map cF (g.kids)))]),(iV (lv)),(iV (b))] (V.tup [(iV ((exm g lv b).1)),(iV ((exm g lv b).2))])):PureC Tryd.prog 26 [(V.agg [(iV (f.op)),(iV (f.arg)),(V.sl (List.map cF (f.kids)))]),(iV (lv)),(iV (b))] (V.tup [(iV ((exm f lv b).1)),(iV ((exm f lv b).2))]):=by
 refine pW Tryd.func26 s26_ok fun hB=>?_
 unfold s26
 dsimp only
 refine W_r (R_box (i:=3) (n:=0) (m:=3) (cs:=[(iV (f.op)),(iV (f.arg)),(V.sl (List.map cF (f.kids)))]) rfl (congrArg Blk.ver rfl) rfl rfl rfl (R_mv rfl (R_mv rfl (R_e (W_r (R_mv rfl (R_add rfl rfl (by omega) (by omega) ?_)))))))
 refine R_mv rfl (R_e (W_seq_blockg fun Q1 n1 x1 y1 z1=>(W_r (R_mv rfl (R_gtr rfl rfl (R_mv rfl (R_e ?_)))))))
 refine W_if rfl (fun c2=>?_) fun c2=>?_
 ·
  refine W_r (R_mv rfl (R_mv rfl (R_mv rfl (R_e (W_ret (y1 _ _ ?_))))))
  refine Ret_2 (@rfl V (iV ((b)+(1:Int)))) (@rfl V (iV (11:Int))) (fz_int ?_) (fz_int ?_)
  · rw [exm_eq,if_pos (by omega)]
  · rw [exm_eq,if_pos (by omega)]
 refine W_r (R_mv rfl (R_gtr rfl rfl (R_mv rfl (R_e ?_))))
 refine W_if rfl (fun c3=>?_) fun c3=>?_
 ·
  refine W_r (R_mv rfl (R_mv rfl (R_mv rfl (R_e (W_ret (y1 _ _ ?_))))))
  refine Ret_2 (@rfl V (iV ((b)+(1:Int)))) (@rfl V (iV (16:Int))) (fz_int ?_) (fz_int ?_)
  · rw [exm_eq,if_neg (by omega),if_pos (by omega)]
  · rw [exm_eq,if_neg (by omega),if_pos (by omega)]
 refine W_r (R_lk rfl rfl rfl rfl (R_callk (rright_pure f) rfl (R_neq rfl rfl (R_mv rfl (R_e ?_)))))
 refine W_if rfl (fun c4=>?_) fun c4=>?_
 ·
  refine W_r (R_mv rfl (R_lk rfl rfl rfl rfl (R_callk (rright_pure f) rfl (R_mv rfl (R_mv rfl (R_e (W_ret ?_)))))))
  refine y1 _ _ ?_
  refine Ret_2 (@rfl V (iV ((b)+(1:Int)))) (@rfl V (iV (rgt f))) (fz_int ?_) (fz_int ?_)
  · rw [exm_eq,if_neg (by omega),if_neg (by omega),if_pos (by omega)]
  · rw [exm_eq,if_neg (by omega),if_neg (by omega),if_pos (by omega)]
 refine W_skip (n1 _ _ (.done (W_seq_seq (W_r (R_mv rfl (R_e (W_seq_blockg fun Q5 n5 x5 y5 z5=>?_)))))))
 refine W_loop (fun mm T H=> ∃ (k:Nat) (n:Int),mm=f.kids.length - k∧T 1=(iV (lv))∧T 3=(V.mp 3 1 0 0)∧T 8=(iV (n))∧T 9=(iV ((k:Nat):Int))∧H 3=(bk 1 24 3 [[(iV (f.op)),(iV (f.arg)),(V.sl (List.map cF (f.kids)))]])∧(k≤f.kids.length)∧(0≤n∧n≤4096)∧(exm f lv b=exmL (f.kids.drop k) (lv+1) n)) ?_ ?_
 ·
  refine ⟨_,0,b+1,rfl,rfl,rfl,(Eq.trans (@rfl V (iV ((b)+(1:Int)))) (by rfl)),(Eq.trans (@rfl V (iV (0:Int))) rfl),rfl,?_,?_,?_⟩
  · omega
  · omega
  · rw [exm_eq,if_neg (by omega),if_neg (by omega),if_neg (by omega)]; rfl
 intro mm T H ⟨k,n,hmm,t1,t3,t8,t9,h3,hk,hn,hc⟩ Q6 p16 p26 p36
 unfold b26_0
 refine W_seq_seq (W_r (R_mv t9 (R_fk t3 h3 (R_lk rfl h3 rfl rfl (R_len rfl (R_lss rfl rfl (R_e ?_)))))))
 refine W_seq_if rfl (fun c7=>?_) fun c7=>?_
 ·
  refine W_seq_skip (W_seq_blockg fun Q8 n8 x8 y8 z8=>(W_r (R_fk t3 h3 (R_lk rfl h3 rfl rfl (R_mv t9 (R_idxu (i:=k) (@rfl V (V.sl (List.map cF (f.kids)))) (@rfl V (iV ((k:Nat):Int))) (by omega) (cF_eq _) rfl (R_load_pp rfl rfl ?_)))))))
  refine R_mv t1 (R_add rfl rfl (by omega) (by omega) (R_mv t8 (R_callk (ih (((nth (f.kids) (k)))) (((lv)+(1:Int))) ((n)) (Fm.sz_kid (by omega)) (by omega) (by omega)) rfl (R_mv rfl (R_ext rfl rfl (R_ext rfl rfl (R_mv rfl ?_)))))))
  refine R_mv rfl (R_e (W_seq_seq (W_r (R_mv rfl (R_neq rfl rfl (R_e ?_))))))
  refine W_seq_if rfl (fun c9=>?_) fun c9=>?_
  ·
   have q0:=exm_rng (nth f.kids k) (lv+1) n
   refine W_seq_seq (W_r (R_mv rfl (R_mv rfl (R_mv rfl (R_mv rfl (R_e (W_seq_ret ?_)))))))
   refine y8 _ _ (p26 _ _ (y5 _ _ ?_))
   refine Ret_2 (@rfl V (iV ((exm (((nth (f.kids) (k)))) (((lv)+(1:Int))) ((n))).1))) (@rfl V (iV ((exm (((nth (f.kids) (k)))) (((lv)+(1:Int))) ((n))).2))) (fz_int ?_) (fz_int ?_)
   · rw [hc,exmL_yes (by omega) (by omega)]
   · rw [hc,exmL_yes (by omega) (by omega)]
  have q0:=exm_rng (nth f.kids k) (lv+1) n
  refine W_seq_skip (W_t (R_mv rfl (R_mv rfl (R_e (n8 _ _ (.done (W_t ?_)))))))
  refine R_mv t9 (R_addN rfl (@rfl V (iV ((1:Nat):Int))) (by omega) (R_mv rfl (R_e ?_)))
  refine p16 _ _ _ ?_ ⟨(k+1),(exm (nth f.kids k) (lv+1) n).1,rfl,t1,t3,(Eq.trans (@rfl V (iV ((exm (((nth (f.kids) (k)))) (((lv)+(1:Int))) ((n))).1))) (by rfl)),(Eq.trans (@rfl V (iV ((k+1:Nat):Int))) (by rfl)),h3,?_,?_,?_⟩
  · omega
  · omega
  · exact ⟨by omega,q0.2 (by omega)⟩
  · rw [hc,exmL_no (by omega) (by omega)]
 refine W_seq_exit (p36 _ _ _ (x5 _ _ (.done (W_r (R_mv t8 (R_mv rfl (R_mv rfl ?_)))))))
 refine R_e (W_ret ?_)
 refine Ret_2 (@rfl V (iV (n))) (@rfl V (iV (0:Int))) (fz_int ?_) (fz_int ?_)
 · rw [hc,exmL_end (by omega)]
 · rw [hc,exmL_end (by omega)]
theorem rexam_pure (f:Fm) (lv b:Int) (hb:0≤b∧b≤4096) (hl:0≤lv∧lv≤65):PureC Tryd.prog 26 [(V.agg [(iV (f.op)),(iV (f.arg)),(V.sl (List.map cF (f.kids)))]),(iV (lv)),(iV (b))] (V.tup [(iV ((exm f lv b).1)),(iV ((exm f lv b).2))]):=by
  have key: ∀ (mm:Nat) (f:Fm) (lv b:Int),f.sz < mm→0≤b∧b≤4096→0≤lv∧lv≤65→PureC Tryd.prog 26 [(V.agg [(iV (f.op)),(iV (f.arg)),(V.sl (List.map cF (f.kids)))]),(iV (lv)),(iV (b))] (V.tup [(iV ((exm f lv b).1)),(iV ((exm f lv b).2))]):=by
    intro mm
    induction mm with
    |zero=>intro f lv b hlt; exact absurd hlt (Nat.not_lt_zero _)
    | succ mm ih =>
      intro f lv b hlt hb hl
      exact rexam_pure_step f lv b hb hl fun f2 lv2 b2 hlt2=>ih f2 lv2 b2 (by omega)
  exact key (f.sz+1) f lv b (Nat.lt_succ_self _) hb hl
theorem rfvalid_pure (f:Fm):PureC Tryd.prog 14 [(V.agg [(iV (f.op)),(iV (f.arg)),(V.sl (List.map cF (f.kids)))])] (iV (fval f)):=by
 refine pW Tryd.func14 s14_ok fun hB=>?_
 unfold s14
 dsimp only
 refine W_r (R_box (i:=1) (n:=0) (m:=3) (cs:=[(iV (f.op)),(iV (f.arg)),(V.sl (List.map cF (f.kids)))]) rfl (congrArg Blk.ver rfl) rfl rfl rfl (R_mv rfl (R_e (W_r (R_lk rfl rfl rfl rfl (R_callk (rexam_pure f ((1:Int)) ((0:Int)) (by omega) (by omega)) rfl (R_mv rfl ?_)))))))
 refine R_ext rfl rfl (R_ext rfl rfl (R_mv rfl (R_mv rfl (R_e (W_r (R_mv rfl (R_mv rfl ?_)))))))
 refine R_e (W_ret ?_)
 refine Ret_1 (@rfl V (iV ((exm f ((1:Int)) ((0:Int))).2))) (fz_int ?_)
 · rfl
def r20_7:List SO:=[
 qM 29 7,
 qF 30 2 2,
 ql 31 30,
 qM 32 8,
 qA 33 3 31 32,
 qL 34 3 33,
 qL 35 2 3,
 sO 36 (.call false 20 [.t 34,.t 35]),
 sO 37 (.bslice 43 1 false [.nilsl] 1 [(0,.t 36)]),
 sO 38 (.append 43 1 24 (.t 29) (.t 37)),
 qM 7 38]
def b20_0:SC:=.seq (.seq (.reg [qM 22 8,qF 23 2 2,ql 24 23,qN 25 24,qP 26 .lss 22 25]) (.cond (.t 26) (.skip) (.exit 0))) (.seq (.block 1 (.reg r20_7)) (.reg [qM 27 8,qC 28 .add 27 1,qM 8 28]))
def r20_23:List SO:=[
 qM 103 6,
 qM 104 9,
 qM 105 10,
 qM 106 105,
 ⟨some (106,true),some 107,.fld 0 (.t 3)⟩,
 ⟨some (106,true),some 108,.load false 1 (.t 107)⟩,
 ⟨some (106,true),some 109,.mv (.t 9)⟩,
 ⟨some (106,true),some 110,.idx 1 (.t 108) (.t 109)⟩,
 ⟨some (106,true),some 111,.load false 1 (.t 110)⟩,
 ⟨some (106,true),some 112,.fld 1 (.t 2)⟩,
 ⟨some (106,true),some 113,.load false 1 (.t 112)⟩,
 ⟨some (106,true),some 114,.bin .eql (.t 111) (.t 113)⟩,
 sO 115 (.pick (.t 106) (.t 114) (.c (.bool false))),
 qA 116 1 103 104,
 sN (.store 1 (.t 116) (.t 115))]
def r20_25:List SO:=[
 qM 119 6,
 qM 120 9,
 qM 121 10,
 qM 122 121,
 ⟨some (122,true),some 123,.fld 1 (.t 3)⟩,
 ⟨some (122,true),some 124,.load false 1 (.t 123)⟩,
 ⟨some (122,true),some 125,.mv (.t 9)⟩,
 ⟨some (122,true),some 126,.idx 1 (.t 124) (.t 125)⟩,
 ⟨some (122,true),some 127,.load false 1 (.t 126)⟩,
 ⟨some (122,true),some 128,.fld 1 (.t 2)⟩,
 ⟨some (122,true),some 129,.load false 1 (.t 128)⟩,
 ⟨some (122,true),some 130,.bin .eql (.t 127) (.t 129)⟩,
 sO 131 (.pick (.t 122) (.t 130) (.c (.bool false))),
 qA 132 1 119 120,
 sN (.store 1 (.t 132) (.t 131))]
def r20_27:List SO:=[
 qM 135 6,
 qM 136 9,
 qM 137 7,
 sO 138 (.idx 1 (.t 137) (.c (.int .i64 0))),
 ql 139 138,
 qM 140 9,
 qA 141 1 139 140,
 ql 142 141,
 sO 143 (.un .not (.t 142)),
 qA 144 1 135 136,
 sN (.store 1 (.t 144) (.t 143))]
def r20_29:List SO:=[
 qM 147 6,
 qM 148 9,
 qM 149 10,
 qM 150 149,
 ⟨some (150,true),some 151,.mv (.t 7)⟩,
 ⟨some (150,true),some 152,.idx 1 (.t 151) (.c (.int .i64 0))⟩,
 ⟨some (150,true),some 153,.load false 1 (.t 152)⟩,
 ⟨some (150,true),some 154,.mv (.t 9)⟩,
 ⟨some (150,true),some 155,.bin .add (.t 154) (.c (.int .i64 1))⟩,
 ⟨some (150,true),some 156,.idx 1 (.t 153) (.t 155)⟩,
 ⟨some (150,true),some 157,.load false 1 (.t 156)⟩,
 sO 158 (.pick (.t 150) (.t 157) (.c (.bool false))),
 qA 159 1 147 148,
 sN (.store 1 (.t 159) (.t 158))]
def r20_31:List SO:=[
 qM 162 6,
 qM 163 9,
 qM 164 10,
 sO 165 (.un .not (.t 164)),
 qM 166 165,
 ⟨some (166,false),some 167,.mv (.t 7)⟩,
 ⟨some (166,false),some 168,.idx 1 (.t 167) (.c (.int .i64 0))⟩,
 ⟨some (166,false),some 169,.load false 1 (.t 168)⟩,
 ⟨some (166,false),some 170,.mv (.t 9)⟩,
 ⟨some (166,false),some 171,.bin .add (.t 170) (.c (.int .i64 1))⟩,
 ⟨some (166,false),some 172,.idx 1 (.t 169) (.t 171)⟩,
 ⟨some (166,false),some 173,.load false 1 (.t 172)⟩,
 sO 174 (.pick (.t 166) (.c (.bool true)) (.t 173)),
 qA 175 1 162 163,
 sN (.store 1 (.t 175) (.t 174))]
def r20_36:List SO:=[
 qM 187 6,
 qM 188 9,
 qM 189 6,
 qM 190 9,
 qA 191 1 189 190,
 ql 192 191,
 qM 193 192,
 ⟨some (193,false),some 194,.mv (.t 7)⟩,
 ⟨some (193,false),some 195,.idx 1 (.t 194) (.c (.int .i64 1))⟩,
 ⟨some (193,false),some 196,.load false 1 (.t 195)⟩,
 ⟨some (193,false),some 197,.mv (.t 11)⟩,
 ⟨some (193,false),some 198,.idx 1 (.t 196) (.t 197)⟩,
 ⟨some (193,false),some 199,.load false 1 (.t 198)⟩,
 sO 200 (.pick (.t 193) (.c (.bool true)) (.t 199)),
 qA 201 1 187 188,
 sN (.store 1 (.t 201) (.t 200))]
def r20_37:List SO:=[
 qM 202 7,
 sO 203 (.idx 1 (.t 202) (.c (.int .i64 0))),
 ql 204 203,
 qM 205 11,
 qA 206 1 204 205,
 ql 207 206,
 qM 12 207]
def b20_2:SC:=.seq (.seq (.reg [qM 179 11,qM 180 5,qP 181 .leq 179 180,qM 182 181,⟨some (182,true),some 183,.mv (.t 12)⟩,sO 184 (.pick (.t 182) (.t 183) (.c (.bool false)))]) (.cond (.t 184) (.skip) (.exit 7))) (.seq (.block 8 (.seq (.reg r20_36) (.reg r20_37))) (.reg [qM 185 11,qC 186 .add 185 1,qM 11 186]))
def r20_43:List SO:=[
 qM 222 6,
 qM 223 9,
 qM 224 6,
 qM 225 9,
 qA 226 1 224 225,
 ql 227 226,
 qM 228 227,
 ⟨some (228,true),some 229,.mv (.t 7)⟩,
 ⟨some (228,true),some 230,.idx 1 (.t 229) (.c (.int .i64 1))⟩,
 ⟨some (228,true),some 231,.load false 1 (.t 230)⟩,
 ⟨some (228,true),some 232,.mv (.t 13)⟩,
 ⟨some (228,true),some 233,.idx 1 (.t 231) (.t 232)⟩,
 ⟨some (228,true),some 234,.load false 1 (.t 233)⟩,
 sO 235 (.pick (.t 228) (.t 234) (.c (.bool false))),
 qA 236 1 222 223,
 sN (.store 1 (.t 236) (.t 235))]
def r20_44:List SO:=[
 qM 237 7,
 sO 238 (.idx 1 (.t 237) (.c (.int .i64 0))),
 ql 239 238,
 qM 240 13,
 qA 241 1 239 240,
 ql 242 241,
 sO 243 (.un .not (.t 242)),
 qM 14 243]
def b20_3:SC:=.seq (.seq (.reg [qM 214 13,qM 215 5,qP 216 .leq 214 215,qM 217 216,⟨some (217,true),some 218,.mv (.t 14)⟩,sO 219 (.pick (.t 217) (.t 218) (.c (.bool false)))]) (.cond (.t 219) (.skip) (.exit 9))) (.seq (.block 10 (.seq (.reg r20_43) (.reg r20_44))) (.reg [qM 220 13,qC 221 .add 220 1,qM 13 221]))
def r20_13:List SO:=[
 qM 49 6,
 qM 50 9,
 qF 51 0 2,
 ql 52 51,
 qC 53 .eql 52 5,
 qA 54 1 49 50,
 sN (.store 1 (.t 54) (.t 53))]
def r20_18:List SO:=[
 qM 64 6,
 qM 65 9,
 qM 66 6,
 qM 67 9,
 qA 68 1 66 67,
 ql 69 68,
 qM 70 69,
 ⟨some (70,true),some 71,.mv (.t 7)⟩,
 ⟨some (70,true),some 72,.mv (.t 15)⟩,
 ⟨some (70,true),some 73,.idx 1 (.t 71) (.t 72)⟩,
 ⟨some (70,true),some 74,.load false 1 (.t 73)⟩,
 ⟨some (70,true),some 75,.mv (.t 9)⟩,
 ⟨some (70,true),some 76,.idx 1 (.t 74) (.t 75)⟩,
 ⟨some (70,true),some 77,.load false 1 (.t 76)⟩,
 sO 78 (.pick (.t 70) (.t 77) (.c (.bool false))),
 qA 79 1 64 65,
 sN (.store 1 (.t 79) (.t 78))]
def r20_19:List SO:=[
 qM 80 6,
 qM 81 9,
 qM 82 6,
 qM 83 9,
 qA 84 1 82 83,
 ql 85 84,
 qM 86 85,
 ⟨some (86,false),some 87,.mv (.t 7)⟩,
 ⟨some (86,false),some 88,.mv (.t 15)⟩,
 ⟨some (86,false),some 89,.idx 1 (.t 87) (.t 88)⟩,
 ⟨some (86,false),some 90,.load false 1 (.t 89)⟩,
 ⟨some (86,false),some 91,.mv (.t 9)⟩,
 ⟨some (86,false),some 92,.idx 1 (.t 90) (.t 91)⟩,
 ⟨some (86,false),some 93,.load false 1 (.t 92)⟩,
 sO 94 (.pick (.t 86) (.c (.bool true)) (.t 93)),
 qA 95 1 80 81,
 sN (.store 1 (.t 95) (.t 94))]
def b20_4:SC:=.seq (.seq (.reg [qM 55 15,qM 56 7,qN 57 56,qP 58 .lss 55 57]) (.cond (.t 58) (.skip) (.exit 5))) (.seq (.block 6 (.seq (.reg [qF 61 0 2,ql 62 61,qC 63 .eql 62 5]) (.cond (.t 63) (.reg r20_18) (.reg r20_19)))) (.reg [qM 59 15,qC 60 .add 59 1,qM 15 60]))
def b20_1:SC:=.seq (.seq (.reg [qM 40 9,qC 41 .geq 40 0]) (.cond (.t 41) (.skip) (.exit 2))) (.seq (.block 3 (.seq (.reg [qM 44 9,qM 45 5,qP 46 .lss 44 45,qM 10 46]) (.seq (.reg [qF 47 0 2,ql 48 47]) (.block 4 (.seq (.reg [qC 97 .eql 48 1,qM 96 97]) (.cond (.t 96) (.reg [qM 98 6,qM 99 9,qA 100 1 98 99,sN (.store 1 (.t 100) (.c (.bool true)))]) (.seq (.reg [qC 102 .eql 48 2,qM 101 102]) (.cond (.t 101) (.reg r20_23) (.seq (.reg [qC 118 .eql 48 3,qM 117 118]) (.cond (.t 117) (.reg r20_25) (.seq (.reg [qC 134 .eql 48 4,qM 133 134]) (.cond (.t 133) (.reg r20_27) (.seq (.reg [qC 146 .eql 48 7,qM 145 146]) (.cond (.t 145) (.reg r20_29) (.seq (.reg [qC 161 .eql 48 9,qM 160 161]) (.cond (.t 160) (.reg r20_31) (.seq (.reg [qC 177 .eql 48 8,qM 176 177]) (.cond (.t 176) (.seq (.reg [qM 178 9,qM 11 178,sO 12 (.mv (.c (.bool true)))]) (.block 7 (.loop b20_2))) (.seq (.reg [qC 209 .eql 48 10,qM 208 209]) (.cond (.t 208) (.seq (.reg [qM 210 6,qM 211 9,qA 212 1 210 211,sN (.store 1 (.t 212) (.c (.bool true)))]) (.seq (.reg [qM 213 9,qM 13 213,sO 14 (.mv (.c (.bool true)))]) (.block 9 (.loop b20_3)))) (.seq (.reg r20_13) (.seq (.reg [qI 15 0]) (.block 5 (.loop b20_4)))))))))))))))))))))))) (.reg [qM 42 9,qC 43 .sub 42 1,qM 9 43]))
def s20:SF:=⟨245,[.tmp 4],.seq (.reg [sO 2 (.box 24 3 (.t 0)),sO 3 (.box 27 2 (.t 1)),sO 4 (.mv (.c (.nilsl)))]) (.seq (.reg [qF 16 0 3,ql 17 16,qN 18 17,qM 5 18]) (.seq (.reg [qM 19 5,qC 20 .add 19 1,sO 21 (.mks 4 1 1 [.bool false] (.t 20) (.t 20)),qM 6 21]) (.seq (.reg [sO 7 (.lazy 43 1)]) (.seq (.seq (.reg [qI 8 0]) (.block 0 (.loop b20_0))) (.seq (.seq (.reg [qM 39 5,qM 9 39]) (.block 2 (.loop b20_1))) (.seq (.reg [qM 244 6,qM 4 244]) (.ret)))))))⟩
theorem s20_ok:slimF Tryd.prog ⟨[32,48,55,93,94,95,100],[7],[],[]⟩ Tryd.f20=some s20:=by kernel_rfl
end Go.Proofs.YteehaobohaecmaaDoor
namespace Go.Proofs.YteehaobohaecmaaDoor
open Go
def kR (t:Tr) (f:Fm) (q:Nat):Nat→Bool:=fun j=>nth (nth (f.kids.map (rst t)) q) j
theorem kR_sat {t:Tr} {f:Fm} {q j:Nat} (hq:q < f.kids.length) (hj:j≤t.ni.length):kR t f q j=nth (f.kids.map (sat t)) q j:=by
  unfold kR; rw [nthM hq,nthM hq,rst_nth hj]
theorem untB_congr {g h g' h':Nat→Bool} {n:Nat}: ∀ {m i:Nat},i+m≤n→(∀ j,j≤n→g j=g' j)→(∀ j,j≤n→h j=h' j)→untB g h m i=untB g' h' m i
  |0,i,hi,_,h2=>h2 i (by omega)
  |m+1,i,hi,h1,h2=>by rw [untB,untB,h2 i (by omega),h1 i (by omega),untB_congr (m:=m) (by omega) h1 h2]
theorem relB_congr {g h g' h':Nat→Bool} {n:Nat}: ∀ {m i:Nat},i+m≤n→(∀ j,j≤n→g j=g' j)→(∀ j,j≤n→h j=h' j)→relB g h m i=relB g' h' m i
  |0,i,hi,_,h2=>h2 i (by omega)
  |m+1,i,hi,h1,h2=>by rw [relB,relB,h2 i (by omega),h1 i (by omega),relB_congr (m:=m) (by omega) h1 h2]
section
variable {t:Tr} {f:Fm} {j:Nat}
theorem sv1 (h:f.op=1):sat t f j=true:=by rw [sat_eq,satO,if_pos h]
theorem sv2 (h:f.op=2):sat t f j=(decide (j < t.ni.length)&&decide (nth t.ni j=f.arg)):=by rw [sat_eq,satO,if_neg (by omega),if_pos h]
theorem sv3 (h:f.op=3):sat t f j=(decide (j < t.ni.length)&&decide (nth t.no j=f.arg)):=by rw [sat_eq,satO,if_neg (by omega),if_neg (by omega),if_pos h]
theorem sv4 (hj:j≤t.ni.length) (hk:0 < f.kids.length) (h:f.op=4):sat t f j= !(kR t f 0 j):=by rw [sat_eq,satO,if_neg (by omega),if_neg (by omega),if_neg (by omega),if_pos h,kR_sat hk hj]
theorem sv7 (hk:0 < f.kids.length) (h:f.op=7):sat t f j=(decide (j < t.ni.length)&&kR t f 0 (j+1)):=by
  rw [sat_eq,satO,if_neg (by omega),if_neg (by omega),if_neg (by omega),if_neg (by omega),if_pos h]
  by_cases q:j < t.ni.length
  · rw [kR_sat hk q]
  · rw [decide_eq_false q,Bool.false_and,Bool.false_and]
theorem sv9 (hk:0 < f.kids.length) (h:f.op=9):sat t f j=(decide (¬j < t.ni.length)||kR t f 0 (j+1)):=by
  rw [sat_eq,satO,if_neg (by omega),if_neg (by omega),if_neg (by omega),if_neg (by omega),if_neg (by omega),if_pos h]
  by_cases q:j < t.ni.length
  · rw [kR_sat hk q]
  · rw [decide_eq_true q,Bool.true_or,Bool.true_or]
theorem sv8 (hj:j≤t.ni.length) (hk:1 < f.kids.length) (h:f.op=8):sat t f j=untB (kR t f 0) (kR t f 1) (t.ni.length - j) j:=by
  rw [sat_eq,satO,if_neg (by omega),if_neg (by omega),if_neg (by omega),if_neg (by omega),if_neg (by omega),if_neg (by omega),if_pos h]
  exact untB_congr (n:=t.ni.length) (by omega) (fun q hq=>(kR_sat (by omega) hq).symm) fun q hq=>(kR_sat hk hq).symm
theorem sv10 (hj:j≤t.ni.length) (hk:1 < f.kids.length) (h:f.op=10):sat t f j=relB (kR t f 0) (kR t f 1) (t.ni.length - j) j:=by
  rw [sat_eq,satO,if_neg (by omega),if_neg (by omega),if_neg (by omega),if_neg (by omega),if_neg (by omega),if_neg (by omega),if_neg (by omega),if_pos h]
  exact relB_congr (n:=t.ni.length) (by omega) (fun q hq=>(kR_sat (by omega) hq).symm) fun q hq=>(kR_sat hk hq).symm
theorem sv5 (hj:j≤t.ni.length) (h:f.op=5):sat t f j=(f.kids.map (rst t)).all fun r=>nth r j:=by
  rw [sat_eq,satO,if_neg (by omega),if_neg (by omega),if_neg (by omega),if_neg (by omega),if_neg (by omega),if_neg (by omega),if_neg (by omega),if_neg (by omega),if_pos h,List.all_map,List.all_map]
  congr 1; funext g; exact (rst_nth hj).symm
theorem sv6 (hj:j≤t.ni.length) (h:f.op=6):sat t f j=(f.kids.map (rst t)).any fun r=>nth r j:=by
  rw [sat_eq,satO,if_neg (by omega),if_neg (by omega),if_neg (by omega),if_neg (by omega),if_neg (by omega),if_neg (by omega),if_neg (by omega),if_neg (by omega),if_neg (by omega),List.any_map,List.any_map]
  congr 1; funext g; exact (rst_nth hj).symm
end
theorem outL_set2 {t:Tr} {f:Fm} {i:Int} {b:Bool} (h0:0≤i) (hi:i≤t.ni.length) (hb:b=sat t f i.toNat):(outL t f i).set i.toNat b=outL t f (i - 1):=by
  obtain ⟨j,rfl⟩: ∃ j:Nat,i=j:=⟨i.toNat,by omega⟩
  exact outL_set (by omega) hb
theorem outL_z {t:Tr} {f:Fm} {i:Int} (h0:0≤i) (hi:i≤t.ni.length):(outL t f i).set i.toNat false=outL t f i:=by
  apply List.ext_getElem
  · simp
  · intro q h1 h2
    rw [List.getElem_set]
    split
    · rename_i e
      subst e
      simp only [outL,List.getElem_map,List.getElem_range]
      rw [decide_eq_false (by omega),Bool.false_and]
    · rfl
theorem nth_set_at {α:Type} [Inhabited α] {l:List α} {i:Nat} {x:α} (h:i < l.length):nth (l.set i x) i=x:=by
  rw [← nth_getElem (by simpa using h),List.getElem_set_self]
def unI (t:Tr) (f:Fm) (i k:Int) (al x:Bool):Prop:=(x||(al&&decide (k≤t.ni.length)&&untB (kR t f 0) (kR t f 1) (t.ni.length - k.toNat) k.toNat))=sat t f i.toNat
theorem unI_start {t:Tr} {f:Fm} {i:Int} (h0:0≤i) (hi:i≤t.ni.length) (hk:1 < f.kids.length) (h:f.op=8):unI t f i i true false:=by
  unfold unI; rw [sv8 (by omega) hk h,decide_eq_true hi]; rfl
theorem unI_next {t:Tr} {f:Fm} {i k:Int} {al x:Bool} (h:unI t f i k al x) (h0:0≤k) (hk:k≤t.ni.length) (ha:al=true):unI t f i (k+1) (kR t f 0 k.toNat) (x||kR t f 1 k.toNat):=by
  unfold unI at h ⊢
  rw [← h,ha,decide_eq_true hk,untB_at (show k.toNat≤t.ni.length by omega),show (k+1).toNat=k.toNat+1 by omega]
  have e:decide (k+1≤(t.ni.length:Int))=decide (k.toNat < t.ni.length):=decide_eq_decide.2 (by omega)
  rw [e]
  cases x <;> cases kR t f 1 k.toNat <;> cases kR t f 0 k.toNat <;> cases decide (k.toNat < t.ni.length) <;> rfl
theorem unI_end {t:Tr} {f:Fm} {i k:Int} {al x:Bool} (h:unI t f i k al x) (he:(decide (k≤(t.ni.length:Int))&&al)=false):x=sat t f i.toNat:=by
  unfold unI at h
  rw [← h,Bool.and_comm al,he,Bool.false_and,Bool.or_false]
def reI (t:Tr) (f:Fm) (i k:Int) (al x:Bool):Prop:=(x&&(!(al&&decide (k≤t.ni.length))||relB (kR t f 0) (kR t f 1) (t.ni.length - k.toNat) k.toNat))=sat t f i.toNat
theorem reI_start {t:Tr} {f:Fm} {i:Int} (h0:0≤i) (hi:i≤t.ni.length) (hk:1 < f.kids.length) (h:f.op=10):reI t f i i true true:=by
  unfold reI; rw [sv10 (by omega) hk h,decide_eq_true hi]; simp
theorem reI_next {t:Tr} {f:Fm} {i k:Int} {al x:Bool} (h:reI t f i k al x) (h0:0≤k) (hk:k≤t.ni.length) (ha:al=true):reI t f i (k+1) (!(kR t f 0 k.toNat)) (x&&kR t f 1 k.toNat):=by
  unfold reI at h ⊢
  rw [← h,ha,decide_eq_true hk,relB_at (show k.toNat≤t.ni.length by omega),show (k+1).toNat=k.toNat+1 by omega]
  have e:decide (k+1≤(t.ni.length:Int))= !decide (¬k.toNat < t.ni.length):=by rw [decide_not,Bool.not_not]; exact decide_eq_decide.2 (by omega)
  rw [e]
  cases x <;> cases kR t f 1 k.toNat <;> cases kR t f 0 k.toNat <;> cases decide (¬k.toNat < t.ni.length) <;> rfl
theorem reI_end {t:Tr} {f:Fm} {i k:Int} {al x:Bool} (h:reI t f i k al x) (he:(decide (k≤(t.ni.length:Int))&&al)=false):x=sat t f i.toNat:=by
  unfold reI at h
  rw [← h,Bool.and_comm al,he]; simp
def aoI (t:Tr) (f:Fm) (i:Int) (q:Nat) (x:Bool):Prop:=
  (if f.op=5 then x&&((f.kids.map (rst t)).drop q).all fun r=>nth r i.toNat else x||((f.kids.map (rst t)).drop q).any fun r=>nth r i.toNat)=sat t f i.toNat
theorem aoI_start {t:Tr} {f:Fm} {i:Int} (h0:0≤i) (hi:i≤t.ni.length) (h:f.op=5∨f.op=6):aoI t f i 0 (decide (f.op=5)):=by
  unfold aoI
  by_cases e:f.op=5
  · rw [if_pos e,sv5 (by omega) e,decide_eq_true e]; rfl
  · rw [if_neg e,sv6 (by omega) (by omega),decide_eq_false e]; rfl
theorem aoI_and {t:Tr} {f:Fm} {i:Int} {q:Nat} {x:Bool} (h:aoI t f i q x) (hq:q < f.kids.length) (e:f.op=5):aoI t f i (q+1) (x&&nth (nth (f.kids.map (rst t)) q) i.toNat):=by
  unfold aoI at h ⊢
  rw [if_pos e] at h ⊢
  rw [← h,nth_drop (l:=f.kids.map (rst t)) (k:=q) (by simpa using hq),List.all_cons,Bool.and_assoc]
theorem aoI_or {t:Tr} {f:Fm} {i:Int} {q:Nat} {x:Bool} (h:aoI t f i q x) (hq:q < f.kids.length) (e: ¬f.op=5):aoI t f i (q+1) (x||nth (nth (f.kids.map (rst t)) q) i.toNat):=by
  unfold aoI at h ⊢
  rw [if_neg e] at h ⊢
  rw [← h,nth_drop (l:=f.kids.map (rst t)) (k:=q) (by simpa using hq),List.any_cons,Bool.or_assoc]
theorem aoI_end {t:Tr} {f:Fm} {i:Int} {q:Nat} {x:Bool} (h:aoI t f i q x) (hq:f.kids.length≤q):x=sat t f i.toNat:=by
  unfold aoI at h
  rw [List.drop_eq_nil_of_le (by simpa using hq)] at h
  split at h
  · rw [← h]; simp
  · rw [← h]; simp
end Go.Proofs.YteehaobohaecmaaDoor
namespace Go.Proofs.YteehaobohaecmaaDoor
open Go Go.Proofs
attribute [local irreducible] mksV
set_option maxHeartbeats 4000000 in
theorem rrests_pure_step (f:Fm) (t:Tr) (hf:okF f=true) (hz:f.sz≤4096) (ht:t.no.length=t.ni.length) (hn:t.ni.length≤1024) (ih: ∀ (g:Fm) (t:Tr),g.sz < f.sz→okF g=true→g.sz≤4096→t.no.length=t.ni.length→t.ni.length≤1024→PureC Tryd.prog 20 [(V.agg [(iV (g.op)),(iV (g.arg)),(V.sl (List.map cF (g.kids)))]),(V.agg [(ints t.ni),(ints t.no)])] (V.sl (List.map cB ((rst t g))))):PureC Tryd.prog 20 [(V.agg [(iV (f.op)),(iV (f.arg)),(V.sl (List.map cF (f.kids)))]),(V.agg [(ints t.ni),(ints t.no)])] (V.sl (List.map cB ((rst t f)))):=by
 refine pW Tryd.func20 s20_ok fun hB=>?_
 unfold s20
 dsimp only
 have hp:=okF_parts hf
 have hr:=rgt_ok hp.1
 have hln:=f.sz_len
 have hr0:0 < f.kids.length→(nth (f.kids.map (rst t)) 0).length=t.ni.length+1:=fun h=>by rw [nthM h,rst_len]
 have hr1:1 < f.kids.length→(nth (f.kids.map (rst t)) 1).length=t.ni.length+1:=fun h=>by rw [nthM h,rst_len]
 refine W_r (R_box (i:=2) (n:=0) (m:=3) (cs:=[(iV (f.op)),(iV (f.arg)),(V.sl (List.map cF (f.kids)))]) rfl (congrArg Blk.ver rfl) rfl rfl rfl (R_box (i:=3) (n:=0) (m:=2) (cs:=[(ints t.ni),(ints t.no)]) rfl (congrArg Blk.ver rfl) rfl rfl rfl (R_mv rfl (R_e (W_r (R_fk rfl rfl (R_lk rfl rfl rfl rfl ?_)))))))
 refine R_len rfl (R_mv rfl (R_e (W_r (R_mv rfl (R_addN rfl (@rfl V (iV ((1:Nat):Int))) (by omega) (R_mksm (i:=21) (n:=0) (m:=(t.ni.length+1)) (q:=(t.ni.length+1)) (f:=cB) (x:=false) rfl (congrArg Blk.ver rfl) (@rfl V (iV ((t.ni.length+1:Nat):Int))) (@rfl V (iV ((t.ni.length+1:Nat):Int))) rfl (by omega) (by omega) (by omega) (R_mv rfl ?_)))))))
 refine R_e (W_r (R_lazy (i:=7) (n:=0) rfl (congrArg Blk.ver rfl) (R_e (W_seq_seq (W_r (R_mv rfl (R_e ?_)))))))
 refine W_seq_blockg fun Q1 n1 x1 y1 z1=>?_
 refine W_loop (fun mm T H=> ∃ (k:Nat) (v:Nat),mm=f.kids.length - k∧T 2=(V.mp 2 1 0 0)∧T 3=(V.mp 3 1 0 0)∧T 5=(iV ((t.ni.length:Nat):Int))∧T 6=(V.ms 21 1 0 (t.ni.length+1))∧T 7=(V.ms 7 v 0 (k))∧T 8=(iV ((k:Nat):Int))∧H 2=(bk 1 24 3 [[(iV (f.op)),(iV (f.arg)),(V.sl (List.map cF (f.kids)))]])∧H 3=(bk 1 27 2 [[(ints t.ni),(ints t.no)]])∧H 7=(bz v 43 1 (List.map cBL ((f.kids.take k).map (rst t))))∧H 21=(bk 1 4 1 (List.map cB (List.replicate (t.ni.length+1) false)))∧(k≤f.kids.length)) ?_ ?_
 ·
  refine ⟨_,0,1,rfl,rfl,rfl,rfl,rfl,rfl,(Eq.trans (@rfl V (iV (0:Int))) rfl),rfl,rfl,(Eq.trans (@rfl Blk (bz 1 43 1 [])) (by rfl)),rfl,?_⟩
  · omega
 intro mm T H ⟨k,v,hmm,t2,t3,t5,t6,t7,t8,h2,h3,h7,h21,hk⟩ Q2 p12 p22 p32
 unfold b20_0
 refine W_seq_seq (W_r (R_mv t8 (R_fk t2 h2 (R_lk rfl h2 rfl rfl (R_len rfl (R_lss rfl rfl (R_e ?_)))))))
 refine W_seq_if rfl (fun c3=>?_) fun c3=>?_
 ·
  refine W_seq_skip (W_seq_blockg fun Q4 n4 x4 y4 z4=>(W_t (R_mv t7 (R_fk t2 h2 (R_lk rfl h2 rfl rfl (R_mv t8 (R_idxu (i:=k) (@rfl V (V.sl (List.map cF (f.kids)))) (@rfl V (iV ((k:Nat):Int))) (by omega) (cF_eq _) rfl ?_)))))))
  refine R_load_pp rfl rfl (R_lk t3 h3 rfl rfl (R_callk (ih (((nth (f.kids) (k)))) t (Fm.sz_kid (by omega)) (hp.2 _ (by omega)) (Nat.le_trans (Nat.le_of_lt (Fm.sz_kid (by omega))) hz) (by omega) (by omega)) rfl (R_bslice rfl rfl (R_append1 (l:=((f.kids.take k).map (rst t))) (f:=cBL) (x:=((rst t (((nth (f.kids) (k))))))) (@rfl V (V.ms 7 v 0 (k))) h7 (by (simp; omega)) (@rfl V (V.sl [[(V.sl (List.map cB ((rst t (((nth (f.kids) (k))))))))]])) rfl rfl (by omega) (by omega) (R_mv rfl (R_e (n4 _ _ ?_)))))))
  refine .done (W_t (R_mv t8 (R_addN rfl (@rfl V (iV ((1:Nat):Int))) (by omega) (R_mv rfl (R_e ?_)))))
  refine p12 _ _ _ ?_ ⟨(k+1),(v+1),rfl,t2,t3,t5,t6,(Eq.trans (@rfl V (V.ms 7 (v+1) 0 (k+1))) (by rfl)),(Eq.trans (@rfl V (iV ((k+1:Nat):Int))) (by rfl)),h2,h3,(Eq.trans (@rfl Blk (bz (v+1) 43 1 (List.map cBL ((f.kids.take k).map (rst t)++[(rst t (((nth (f.kids) (k)))))])))) (by (rw [mapTake (by omega)]; done))),h21,?_⟩
  · omega
  · omega
 refine W_seq_exit (p32 _ _ _ (x1 _ _ (.done (W_seq_seq (W_r (R_mv t5 (R_mv rfl ?_)))))))
 refine R_e (W_seq_blockg fun Q5 n5 x5 y5 z5=>?_)
 refine W_loop (fun mm T H=> ∃ (i:Int) (v:Nat),mm=(i+1).toNat∧T 2=(V.mp 2 1 0 0)∧T 3=(V.mp 3 1 0 0)∧T 5=(iV ((t.ni.length:Nat):Int))∧T 6=(V.ms 21 1 0 (t.ni.length+1))∧T 7=(V.ms 7 v 0 (f.kids.length))∧T 9=(iV (i))∧H 2=(bk 1 24 3 [[(iV (f.op)),(iV (f.arg)),(V.sl (List.map cF (f.kids)))]])∧H 3=(bk 1 27 2 [[(ints t.ni),(ints t.no)]])∧H 7=(bz v 43 1 (List.map cBL (f.kids.map (rst t))))∧H 21=(bk 1 4 1 (List.map cB (outL t f i)))∧(-1≤i∧i≤t.ni.length)) ?_ ?_
 ·
  refine ⟨_,((t.ni.length:Nat):Int),v,rfl,t2,t3,t5,t6,(Eq.trans t7 (by (rw [show k=f.kids.length by omega]; done))),(Eq.trans (@rfl V (iV ((t.ni.length:Nat):Int))) (by rfl)),h2,h3,(Eq.trans h7 (by (rw [show k=f.kids.length by omega,List.take_length]; done))),(Eq.trans h21 (by (rw [outL_start]; done))),?_⟩
  · omega
 intro mm T H ⟨i,v,hmm,t2,t3,t5,t6,t7,t9,h2,h3,h7,h21,hi⟩ Q6 p16 p26 p36
 unfold b20_1
 have hol:=outL_len t f i
 refine W_seq_seq (W_r (R_mv t9 (R_geq rfl rfl (R_e ?_))))
 refine W_seq_if rfl (fun c7=>?_) fun c7=>?_
 ·
  refine W_seq_skip (W_seq_blockg fun Q8 n8 x8 y8 z8=>(W_r (R_mv t9 (R_mv t5 (R_lss rfl rfl (R_mv rfl (R_e ?_)))))))
  refine W_r (R_fk t2 h2 (R_lk rfl h2 rfl rfl (R_e (W_block fun Q9 n9 x9 y9 z9=>(W_r (R_eql rfl rfl (R_mv rfl ?_)))))))
  refine R_e ?_
  refine W_if rfl (fun c10=>?_) fun c10=>?_
  ·
   refine W_t (R_mv t6 (R_mv t9 (R_idxI_ms0 (i:=(i)) (@rfl V (V.ms 21 1 0 (t.ni.length+1))) (@rfl V (iV (i))) h21 oB rfl (by omega) (by omega) (R_store (vs:=[(V.bool true)]) (B':=(bk 1 4 1 (List.map cB ((outL t f i).set (((i)).toNat) true)))) rfl rfl rfl h21 (stB_map (x:=true) (i:=(((i)).toNat)) (by omega) rfl rfl rfl rfl) (R_e (n9 _ _ (n8 _ _ ?_)))))))
   refine .done (W_t (R_mv t9 (R_sub rfl rfl (by omega) (by omega) (R_mv rfl (R_e ?_)))))
   refine p16 _ _ _ ?_ ⟨(i - 1),v,rfl,t2,t3,t5,t6,t7,(Eq.trans (@rfl V (iV ((i) - (1:Int)))) (by rfl)),h2,h3,h7,(Eq.trans (@rfl Blk (bk 1 4 1 (List.map cB ((outL t f i).set (((i)).toNat) true)))) (by (rw [outL_set2 (by omega) (by omega) (by rw [sv1 (by omega)])]; done))),?_⟩
   · omega
   · omega
  refine W_r (R_eql rfl rfl (R_mv rfl (R_e ?_)))
  refine W_if rfl (fun c11=>?_) fun c11=>?_
  ·
   refine W_t (R_mv t6 (R_mv t9 (R_mv rfl (R_mv rfl ?_))))
   refine Ops_seg 9 (fun T H=>T 2=(V.mp 2 1 0 0)∧T 3=(V.mp 3 1 0 0)∧T 5=(iV ((t.ni.length:Nat):Int))∧T 6=(V.ms 21 1 0 (t.ni.length+1))∧T 7=(V.ms 7 v 0 (f.kids.length))∧T 9=(iV (i))∧T 103=(V.ms 21 1 0 (t.ni.length+1))∧T 104=(iV (i))∧T 115=(V.bool (decide (((i) < ((t.ni.length:Nat):Int))∧(((nth (t.ni) (i).toNat))=(f.arg)))))∧H 2=(bk 1 24 3 [[(iV (f.op)),(iV (f.arg)),(V.sl (List.map cF (f.kids)))]])∧H 3=(bk 1 27 2 [[(ints t.ni),(ints t.no)]])∧H 7=(bz v 43 1 (List.map cBL (f.kids.map (rst t))))∧H 21=(bk 1 4 1 (List.map cB (outL t f i)))∧True) ?_ ?_
   ·
    by_cases g12:(i) < ((t.ni.length:Nat):Int)
    ·
     refine G_yes (edT g12 rfl) (R_fk t3 h3 (G_yes (edT g12 rfl) (R_lk rfl h3 rfl rfl (G_yes (edT g12 rfl) (R_mv t9 (G_yes (edT g12 rfl) (R_idxI (i:=(i)) (@rfl V (ints t.ni)) (@rfl V (iV (i))) (by omega) (by omega) rfl ?_)))))))
     refine G_yes (edT g12 rfl) (R_load_pp rfl rfl (G_yes (edT g12 rfl) (R_fk t2 h2 (G_yes (edT g12 rfl) (R_lk rfl h2 rfl rfl (G_yes (edT g12 rfl) (R_eql rfl rfl ?_)))))))
     refine R_pickT (edT g12 rfl) rfl ?_
     exact ⟨t2,t3,t5,t6,t7,t9,rfl,rfl,(dec_andT g12),h2,h3,h7,h21,trivial⟩
    ·
     refine G_n (edF g12 rfl) (G_n (edF g12 rfl) (G_n (edF g12 rfl) (G_n (edF g12 rfl) (G_n (edF g12 rfl) (G_n (edF g12 rfl) (G_n (edF g12 rfl) (G_n (edF g12 rfl) ?_)))))))
     refine R_pickF (edF g12 rfl) rfl ?_
     exact ⟨t2,t3,t5,t6,t7,t9,rfl,rfl,(dec_andF g12),h2,h3,h7,h21,trivial⟩
   intro T H ⟨t2,t3,t5,t6,t7,t9,t103,t104,t115,h2,h3,h7,h21,_⟩
   refine R_idxI_ms0 (i:=(i)) t103 t104 h21 oB rfl (by omega) (by omega) (R_store (vs:=[(V.bool (decide (((i) < ((t.ni.length:Nat):Int))∧(((nth (t.ni) (i).toNat))=(f.arg)))))]) (B':=(bk 1 4 1 (List.map cB ((outL t f i).set (((i)).toNat) (decide (((i) < ((t.ni.length:Nat):Int))∧(((nth (t.ni) (i).toNat))=(f.arg)))))))) rfl t115 rfl h21 (stB_map (x:=(decide (((i) < ((t.ni.length:Nat):Int))∧(((nth (t.ni) (i).toNat))=(f.arg))))) (i:=(((i)).toNat)) (by omega) rfl rfl rfl rfl) (R_e (n9 _ _ (n8 _ _ (.done (W_t (R_mv t9 ?_)))))))
   refine R_sub rfl rfl (by omega) (by omega) (R_mv rfl (R_e ?_))
   refine p16 _ _ _ ?_ ⟨(i - 1),v,rfl,t2,t3,t5,t6,t7,(Eq.trans (@rfl V (iV ((i) - (1:Int)))) (by rfl)),h2,h3,h7,(Eq.trans (@rfl Blk (bk 1 4 1 (List.map cB ((outL t f i).set (((i)).toNat) (decide (((i) < ((t.ni.length:Nat):Int))∧(((nth (t.ni) (i).toNat))=(f.arg)))))))) (by (rw [outL_set2 (by omega) (by omega) (by rw [sv2 (by omega),← Bool.decide_and]; exact decide_eq_decide.2 (by omega))]; done))),?_⟩
   · omega
   · omega
  refine W_r (R_eql rfl rfl (R_mv rfl (R_e ?_)))
  refine W_if rfl (fun c13=>?_) fun c13=>?_
  ·
   refine W_t (R_mv t6 (R_mv t9 (R_mv rfl (R_mv rfl ?_))))
   refine Ops_seg 9 (fun T H=>T 2=(V.mp 2 1 0 0)∧T 3=(V.mp 3 1 0 0)∧T 5=(iV ((t.ni.length:Nat):Int))∧T 6=(V.ms 21 1 0 (t.ni.length+1))∧T 7=(V.ms 7 v 0 (f.kids.length))∧T 9=(iV (i))∧T 119=(V.ms 21 1 0 (t.ni.length+1))∧T 120=(iV (i))∧T 131=(V.bool (decide (((i) < ((t.ni.length:Nat):Int))∧(((nth (t.no) (i).toNat))=(f.arg)))))∧H 2=(bk 1 24 3 [[(iV (f.op)),(iV (f.arg)),(V.sl (List.map cF (f.kids)))]])∧H 3=(bk 1 27 2 [[(ints t.ni),(ints t.no)]])∧H 7=(bz v 43 1 (List.map cBL (f.kids.map (rst t))))∧H 21=(bk 1 4 1 (List.map cB (outL t f i)))∧True) ?_ ?_
   ·
    by_cases g14:(i) < ((t.ni.length:Nat):Int)
    ·
     refine G_yes (edT g14 rfl) (R_fk t3 h3 (G_yes (edT g14 rfl) (R_lk rfl h3 rfl rfl (G_yes (edT g14 rfl) (R_mv t9 (G_yes (edT g14 rfl) (R_idxI (i:=(i)) (@rfl V (ints t.no)) (@rfl V (iV (i))) (by omega) (by omega) rfl ?_)))))))
     refine G_yes (edT g14 rfl) (R_load_pp rfl rfl (G_yes (edT g14 rfl) (R_fk t2 h2 (G_yes (edT g14 rfl) (R_lk rfl h2 rfl rfl (G_yes (edT g14 rfl) (R_eql rfl rfl ?_)))))))
     refine R_pickT (edT g14 rfl) rfl ?_
     exact ⟨t2,t3,t5,t6,t7,t9,rfl,rfl,(dec_andT g14),h2,h3,h7,h21,trivial⟩
    ·
     refine G_n (edF g14 rfl) (G_n (edF g14 rfl) (G_n (edF g14 rfl) (G_n (edF g14 rfl) (G_n (edF g14 rfl) (G_n (edF g14 rfl) (G_n (edF g14 rfl) (G_n (edF g14 rfl) ?_)))))))
     refine R_pickF (edF g14 rfl) rfl ?_
     exact ⟨t2,t3,t5,t6,t7,t9,rfl,rfl,(dec_andF g14),h2,h3,h7,h21,trivial⟩
   intro T H ⟨t2,t3,t5,t6,t7,t9,t119,t120,t131,h2,h3,h7,h21,_⟩
   refine R_idxI_ms0 (i:=(i)) t119 t120 h21 oB rfl (by omega) (by omega) (R_store (vs:=[(V.bool (decide (((i) < ((t.ni.length:Nat):Int))∧(((nth (t.no) (i).toNat))=(f.arg)))))]) (B':=(bk 1 4 1 (List.map cB ((outL t f i).set (((i)).toNat) (decide (((i) < ((t.ni.length:Nat):Int))∧(((nth (t.no) (i).toNat))=(f.arg)))))))) rfl t131 rfl h21 (stB_map (x:=(decide (((i) < ((t.ni.length:Nat):Int))∧(((nth (t.no) (i).toNat))=(f.arg))))) (i:=(((i)).toNat)) (by omega) rfl rfl rfl rfl) (R_e (n9 _ _ (n8 _ _ (.done (W_t (R_mv t9 ?_)))))))
   refine R_sub rfl rfl (by omega) (by omega) (R_mv rfl (R_e ?_))
   refine p16 _ _ _ ?_ ⟨(i - 1),v,rfl,t2,t3,t5,t6,t7,(Eq.trans (@rfl V (iV ((i) - (1:Int)))) (by rfl)),h2,h3,h7,(Eq.trans (@rfl Blk (bk 1 4 1 (List.map cB ((outL t f i).set (((i)).toNat) (decide (((i) < ((t.ni.length:Nat):Int))∧(((nth (t.no) (i).toNat))=(f.arg)))))))) (by (rw [outL_set2 (by omega) (by omega) (by rw [sv3 (by omega),← Bool.decide_and]; exact decide_eq_decide.2 (by omega))]; done))),?_⟩
   · omega
   · omega
  refine W_r (R_eql rfl rfl (R_mv rfl (R_e ?_)))
  refine W_if rfl (fun c15=>?_) fun c15=>?_
  ·
   refine W_t (R_mv t6 (R_mv t9 (R_mv t7 (R_idx_ms0 (i:=0) (@rfl V (V.ms 7 v 0 (f.kids.length))) (@rfl V (iV ((0:Nat):Int))) h7 (okB_map (by (simp only [List.length_map,List.length_set,outL_len]; omega))) rfl (by omega) (R_load_mp (v:=(V.sl (List.map cB ((nth (f.kids.map (rst t)) (0)))))) rfl h7 (ldB_map (by (simp only [List.length_map,List.length_set,outL_len]; omega)) (by rfl)) (R_mv t9 (R_idxI (i:=(i)) (@rfl V (V.sl (List.map cB ((nth (f.kids.map (rst t)) (0)))))) (@rfl V (iV (i))) (by omega) (by omega) rfl ?_)))))))
   refine R_load_pp rfl rfl (R_notb rfl (R_idxI_ms0 (i:=(i)) (@rfl V (V.ms 21 1 0 (t.ni.length+1))) (@rfl V (iV (i))) h21 oB rfl (by omega) (by omega) (R_store (vs:=[(V.bool ((!(nth ((nth (f.kids.map (rst t)) (0))) (i).toNat))))]) (B':=(bk 1 4 1 (List.map cB ((outL t f i).set (((i)).toNat) ((!(nth ((nth (f.kids.map (rst t)) (0))) (i).toNat))))))) rfl rfl rfl h21 (stB_map (x:=((!(nth ((nth (f.kids.map (rst t)) (0))) (i).toNat)))) (i:=(((i)).toNat)) (by omega) rfl rfl rfl rfl) (R_e (n9 _ _ (n8 _ _ (.done ?_)))))))
   refine W_t (R_mv t9 (R_sub rfl rfl (by omega) (by omega) (R_mv rfl (R_e ?_))))
   refine p16 _ _ _ ?_ ⟨(i - 1),v,rfl,t2,t3,t5,t6,t7,(Eq.trans (@rfl V (iV ((i) - (1:Int)))) (by rfl)),h2,h3,h7,(Eq.trans (@rfl Blk (bk 1 4 1 (List.map cB ((outL t f i).set (((i)).toNat) ((!(nth ((nth (f.kids.map (rst t)) (0))) (i).toNat))))))) (by (rw [outL_set2 (by omega) (by omega) (by rw [sv4 (by omega) (by omega) (by omega)]; rfl)]; done))),?_⟩
   · omega
   · omega
  refine W_r (R_eql rfl rfl (R_mv rfl (R_e ?_)))
  refine W_if rfl (fun c16=>?_) fun c16=>?_
  ·
   refine W_t (R_mv t6 (R_mv t9 (R_mv rfl (R_mv rfl ?_))))
   refine Ops_seg 8 (fun T H=>T 2=(V.mp 2 1 0 0)∧T 3=(V.mp 3 1 0 0)∧T 5=(iV ((t.ni.length:Nat):Int))∧T 6=(V.ms 21 1 0 (t.ni.length+1))∧T 7=(V.ms 7 v 0 (f.kids.length))∧T 9=(iV (i))∧T 147=(V.ms 21 1 0 (t.ni.length+1))∧T 148=(iV (i))∧T 158=(V.bool ((decide ((i) < ((t.ni.length:Nat):Int))&&((nth ((nth (f.kids.map (rst t)) (0))) ((i)+(1:Int)).toNat)))))∧H 2=(bk 1 24 3 [[(iV (f.op)),(iV (f.arg)),(V.sl (List.map cF (f.kids)))]])∧H 3=(bk 1 27 2 [[(ints t.ni),(ints t.no)]])∧H 7=(bz v 43 1 (List.map cBL (f.kids.map (rst t))))∧H 21=(bk 1 4 1 (List.map cB (outL t f i)))∧True) ?_ ?_
   ·
    by_cases g17:(i) < ((t.ni.length:Nat):Int)
    ·
     refine G_yes (edT g17 rfl) (R_mv t7 (G_yes (edT g17 rfl) (R_idx_ms0 (i:=0) (@rfl V (V.ms 7 v 0 (f.kids.length))) (@rfl V (iV ((0:Nat):Int))) h7 (okB_map (by (simp only [List.length_map,List.length_set,outL_len]; omega))) rfl (by omega) (G_yes (edT g17 rfl) (R_load_mp (v:=(V.sl (List.map cB ((nth (f.kids.map (rst t)) (0)))))) rfl h7 (ldB_map (by (simp only [List.length_map,List.length_set,outL_len]; omega)) (by rfl)) (G_yes (edT g17 rfl) (R_mv t9 ?_)))))))
     refine G_yes (edT g17 rfl) (R_add rfl rfl (by omega) (by omega) (G_yes (edT g17 rfl) (R_idxI (i:=((i)+(1:Int))) (@rfl V (V.sl (List.map cB ((nth (f.kids.map (rst t)) (0)))))) (@rfl V (iV ((i)+(1:Int)))) (by omega) (by omega) rfl (G_yes (edT g17 rfl) (R_load_pp rfl rfl (R_pickT (edT g17 rfl) rfl ?_))))))
     exact ⟨t2,t3,t5,t6,t7,t9,rfl,rfl,(dbandT g17),h2,h3,h7,h21,trivial⟩
    ·
     refine G_n (edF g17 rfl) (G_n (edF g17 rfl) (G_n (edF g17 rfl) (G_n (edF g17 rfl) (G_n (edF g17 rfl) (G_n (edF g17 rfl) (G_n (edF g17 rfl) (R_pickF (edF g17 rfl) rfl ?_)))))))
     exact ⟨t2,t3,t5,t6,t7,t9,rfl,rfl,(dbandF g17),h2,h3,h7,h21,trivial⟩
   intro T H ⟨t2,t3,t5,t6,t7,t9,t147,t148,t158,h2,h3,h7,h21,_⟩
   refine R_idxI_ms0 (i:=(i)) t147 t148 h21 oB rfl (by omega) (by omega) (R_store (vs:=[(V.bool ((decide ((i) < ((t.ni.length:Nat):Int))&&((nth ((nth (f.kids.map (rst t)) (0))) ((i)+(1:Int)).toNat)))))]) (B':=(bk 1 4 1 (List.map cB ((outL t f i).set (((i)).toNat) ((decide ((i) < ((t.ni.length:Nat):Int))&&((nth ((nth (f.kids.map (rst t)) (0))) ((i)+(1:Int)).toNat)))))))) rfl t158 rfl h21 (stB_map (x:=((decide ((i) < ((t.ni.length:Nat):Int))&&((nth ((nth (f.kids.map (rst t)) (0))) ((i)+(1:Int)).toNat))))) (i:=(((i)).toNat)) (by omega) rfl rfl rfl rfl) (R_e (n9 _ _ (n8 _ _ (.done (W_t (R_mv t9 ?_)))))))
   refine R_sub rfl rfl (by omega) (by omega) (R_mv rfl (R_e ?_))
   refine p16 _ _ _ ?_ ⟨(i - 1),v,rfl,t2,t3,t5,t6,t7,(Eq.trans (@rfl V (iV ((i) - (1:Int)))) (by rfl)),h2,h3,h7,(Eq.trans (@rfl Blk (bk 1 4 1 (List.map cB ((outL t f i).set (((i)).toNat) ((decide ((i) < ((t.ni.length:Nat):Int))&&((nth ((nth (f.kids.map (rst t)) (0))) ((i)+(1:Int)).toNat)))))))) (by (rw [outL_set2 (by omega) (by omega) (by rw [sv7 (by omega) (by omega),show (i+1).toNat=i.toNat+1 by omega]; congr 1; exact decide_eq_decide.2 (by omega))]; done))),?_⟩
   · omega
   · omega
  refine W_r (R_eql rfl rfl (R_mv rfl (R_e ?_)))
  refine W_if rfl (fun c18=>?_) fun c18=>?_
  ·
   refine W_t (R_mv t6 (R_mv t9 (R_mv rfl (R_not rfl (R_mv rfl ?_)))))
   refine Ops_seg 8 (fun T H=>T 2=(V.mp 2 1 0 0)∧T 3=(V.mp 3 1 0 0)∧T 5=(iV ((t.ni.length:Nat):Int))∧T 6=(V.ms 21 1 0 (t.ni.length+1))∧T 7=(V.ms 7 v 0 (f.kids.length))∧T 9=(iV (i))∧T 162=(V.ms 21 1 0 (t.ni.length+1))∧T 163=(iV (i))∧T 174=(V.bool ((decide (¬((i) < ((t.ni.length:Nat):Int)))||((nth ((nth (f.kids.map (rst t)) (0))) ((i)+(1:Int)).toNat)))))∧H 2=(bk 1 24 3 [[(iV (f.op)),(iV (f.arg)),(V.sl (List.map cF (f.kids)))]])∧H 3=(bk 1 27 2 [[(ints t.ni),(ints t.no)]])∧H 7=(bz v 43 1 (List.map cBL (f.kids.map (rst t))))∧H 21=(bk 1 4 1 (List.map cB (outL t f i)))∧True) ?_ ?_
   ·
    by_cases g19: ¬((i) < ((t.ni.length:Nat):Int))
    ·
     refine G_n (edT g19 rfl) (G_n (edT g19 rfl) (G_n (edT g19 rfl) (G_n (edT g19 rfl) (G_n (edT g19 rfl) (G_n (edT g19 rfl) (G_n (edT g19 rfl) (R_pickT (edT g19 rfl) rfl ?_)))))))
     exact ⟨t2,t3,t5,t6,t7,t9,rfl,rfl,(dborT g19),h2,h3,h7,h21,trivial⟩
    ·
     refine G_yes (edF g19 rfl) (R_mv t7 (G_yes (edF g19 rfl) (R_idx_ms0 (i:=0) (@rfl V (V.ms 7 v 0 (f.kids.length))) (@rfl V (iV ((0:Nat):Int))) h7 (okB_map (by (simp only [List.length_map,List.length_set,outL_len]; omega))) rfl (by omega) (G_yes (edF g19 rfl) (R_load_mp (v:=(V.sl (List.map cB ((nth (f.kids.map (rst t)) (0)))))) rfl h7 (ldB_map (by (simp only [List.length_map,List.length_set,outL_len]; omega)) (by rfl)) (G_yes (edF g19 rfl) (R_mv t9 ?_)))))))
     refine G_yes (edF g19 rfl) (R_add rfl rfl (by omega) (by omega) (G_yes (edF g19 rfl) (R_idxI (i:=((i)+(1:Int))) (@rfl V (V.sl (List.map cB ((nth (f.kids.map (rst t)) (0)))))) (@rfl V (iV ((i)+(1:Int)))) (by omega) (by omega) rfl (G_yes (edF g19 rfl) (R_load_pp rfl rfl (R_pickF (edF g19 rfl) rfl ?_))))))
     exact ⟨t2,t3,t5,t6,t7,t9,rfl,rfl,(dborF g19),h2,h3,h7,h21,trivial⟩
   intro T H ⟨t2,t3,t5,t6,t7,t9,t162,t163,t174,h2,h3,h7,h21,_⟩
   refine R_idxI_ms0 (i:=(i)) t162 t163 h21 oB rfl (by omega) (by omega) (R_store (vs:=[(V.bool ((decide (¬((i) < ((t.ni.length:Nat):Int)))||((nth ((nth (f.kids.map (rst t)) (0))) ((i)+(1:Int)).toNat)))))]) (B':=(bk 1 4 1 (List.map cB ((outL t f i).set (((i)).toNat) ((decide (¬((i) < ((t.ni.length:Nat):Int)))||((nth ((nth (f.kids.map (rst t)) (0))) ((i)+(1:Int)).toNat)))))))) rfl t174 rfl h21 (stB_map (x:=((decide (¬((i) < ((t.ni.length:Nat):Int)))||((nth ((nth (f.kids.map (rst t)) (0))) ((i)+(1:Int)).toNat))))) (i:=(((i)).toNat)) (by omega) rfl rfl rfl rfl) (R_e (n9 _ _ (n8 _ _ (.done (W_t (R_mv t9 ?_)))))))
   refine R_sub rfl rfl (by omega) (by omega) (R_mv rfl (R_e ?_))
   refine p16 _ _ _ ?_ ⟨(i - 1),v,rfl,t2,t3,t5,t6,t7,(Eq.trans (@rfl V (iV ((i) - (1:Int)))) (by rfl)),h2,h3,h7,(Eq.trans (@rfl Blk (bk 1 4 1 (List.map cB ((outL t f i).set (((i)).toNat) ((decide (¬((i) < ((t.ni.length:Nat):Int)))||((nth ((nth (f.kids.map (rst t)) (0))) ((i)+(1:Int)).toNat)))))))) (by (rw [outL_set2 (by omega) (by omega) (by rw [sv9 (by omega) (by omega),show (i+1).toNat=i.toNat+1 by omega]; congr 1; exact decide_eq_decide.2 (by omega))]; done))),?_⟩
   · omega
   · omega
  refine W_r (R_eql rfl rfl (R_mv rfl (R_e ?_)))
  refine W_if rfl (fun c20=>?_) fun c20=>?_
  ·
   refine W_r (R_mv t9 (R_mv rfl (R_mv rfl (R_e (W_block fun Q21 n21 x21 y21 z21=>?_)))))
   refine W_loop (fun mm T H=> ∃ (k:Int) (al:Bool) (x:Bool),mm=t.ni.length+1 - k.toNat∧T 2=(V.mp 2 1 0 0)∧T 3=(V.mp 3 1 0 0)∧T 5=(iV ((t.ni.length:Nat):Int))∧T 6=(V.ms 21 1 0 (t.ni.length+1))∧T 7=(V.ms 7 v 0 (f.kids.length))∧T 9=(iV (i))∧T 11=(iV (k))∧T 12=(V.bool al)∧H 2=(bk 1 24 3 [[(iV (f.op)),(iV (f.arg)),(V.sl (List.map cF (f.kids)))]])∧H 3=(bk 1 27 2 [[(ints t.ni),(ints t.no)]])∧H 7=(bz v 43 1 (List.map cBL (f.kids.map (rst t))))∧H 21=(bk 1 4 1 (List.map cB ((outL t f i).set i.toNat x)))∧(i≤k∧k≤t.ni.length+1)∧(unI t f i k al x)) ?_ ?_
   ·
    refine ⟨_,i,true,false,rfl,t2,t3,t5,t6,t7,t9,rfl,rfl,h2,h3,h7,(Eq.trans h21 (by (rw [outL_z (by omega) (by omega)]; done))),?_,?_⟩
    · omega
    · exact unI_start (by omega) (by omega) (by omega) (by omega)
   intro mm T H ⟨k,al,x,hmm,t2,t3,t5,t6,t7,t9,t11,t12,h2,h3,h7,h21,hk,hu⟩ Q22 p122 p222 p322
   unfold b20_2
   refine W_seq_seq (W_r (R_mv t11 (R_mv t5 (R_leq rfl rfl (R_mv rfl ?_)))))
   refine Ops_seg 2 (fun T H=>T 2=(V.mp 2 1 0 0)∧T 3=(V.mp 3 1 0 0)∧T 5=(iV ((t.ni.length:Nat):Int))∧T 6=(V.ms 21 1 0 (t.ni.length+1))∧T 7=(V.ms 7 v 0 (f.kids.length))∧T 9=(iV (i))∧T 11=(iV (k))∧T 184=(V.bool ((decide ((k)≤((t.ni.length:Nat):Int))&&al)))∧H 2=(bk 1 24 3 [[(iV (f.op)),(iV (f.arg)),(V.sl (List.map cF (f.kids)))]])∧H 3=(bk 1 27 2 [[(ints t.ni),(ints t.no)]])∧H 7=(bz v 43 1 (List.map cBL (f.kids.map (rst t))))∧H 21=(bk 1 4 1 (List.map cB ((outL t f i).set i.toNat x)))∧True) ?_ ?_
   ·
    by_cases g23:(k)≤((t.ni.length:Nat):Int)
    ·
     refine G_yes (edT g23 rfl) (R_mv t12 (R_pickT (edT g23 rfl) rfl ?_))
     exact ⟨t2,t3,t5,t6,t7,t9,t11,(dbandT g23),h2,h3,h7,h21,trivial⟩
    ·
     refine G_n (edF g23 rfl) (R_pickF (edF g23 rfl) rfl ?_)
     exact ⟨t2,t3,t5,t6,t7,t9,t11,(dbandF g23),h2,h3,h7,h21,trivial⟩
   intro T H ⟨t2,t3,t5,t6,t7,t9,t11,t184,h2,h3,h7,h21,_⟩
   refine R_e ?_
   refine W_seq_ifb t184 (fun c24=>?_) (fun c24=>?_)
   ·
    have q0:=c24
    rw [Bool.and_eq_true,decide_eq_true_eq] at q0
    obtain ⟨hk1,hal⟩:=q0
    refine W_seq_skip (W_seq_blockg fun Q25 n25 x25 y25 z25=>(W_r (R_mv t6 (R_mv t9 (R_mv t6 (R_mv t9 (R_idxI_ms0 (i:=(i)) (@rfl V (V.ms 21 1 0 (t.ni.length+1))) (@rfl V (iV (i))) h21 oB rfl (by omega) (by omega) ?_)))))))
    refine R_load_mp (v:=(V.bool ((nth ((outL t f i).set i.toNat x) (((i)).toNat))))) rfl h21 (ldB_map (by (simp only [List.length_map,List.length_set,outL_len]; omega)) (by rfl)) (R_mv rfl ?_)
    refine Ops_seg 7 (fun T H=>T 2=(V.mp 2 1 0 0)∧T 3=(V.mp 3 1 0 0)∧T 5=(iV ((t.ni.length:Nat):Int))∧T 6=(V.ms 21 1 0 (t.ni.length+1))∧T 7=(V.ms 7 v 0 (f.kids.length))∧T 9=(iV (i))∧T 11=(iV (k))∧T 187=(V.ms 21 1 0 (t.ni.length+1))∧T 188=(iV (i))∧T 200=(V.bool ((((nth ((outL t f i).set i.toNat x) (((i)).toNat)))||((nth ((nth (f.kids.map (rst t)) (1))) (k).toNat)))))∧H 2=(bk 1 24 3 [[(iV (f.op)),(iV (f.arg)),(V.sl (List.map cF (f.kids)))]])∧H 3=(bk 1 27 2 [[(ints t.ni),(ints t.no)]])∧H 7=(bz v 43 1 (List.map cBL (f.kids.map (rst t))))∧H 21=(bk 1 4 1 (List.map cB ((outL t f i).set i.toNat x)))∧True) ?_ ?_
    ·
     by_cases g26:((nth ((outL t f i).set i.toNat x) (((i)).toNat)))=true
     ·
      refine G_n (ebT g26 rfl) (G_n (ebT g26 rfl) (G_n (ebT g26 rfl) (G_n (ebT g26 rfl) (G_n (ebT g26 rfl) (G_n (ebT g26 rfl) (R_pickT (ebT g26 rfl) rfl ?_))))))
      exact ⟨t2,t3,t5,t6,t7,t9,t11,rfl,rfl,(borT g26),h2,h3,h7,h21,trivial⟩
     ·
      refine G_yes (ebF g26 rfl) (R_mv t7 (G_yes (ebF g26 rfl) (R_idx_ms0 (i:=1) (@rfl V (V.ms 7 v 0 (f.kids.length))) (@rfl V (iV ((1:Nat):Int))) h7 (okB_map (by (simp only [List.length_map,List.length_set,outL_len]; omega))) rfl (by omega) (G_yes (ebF g26 rfl) (R_load_mp (v:=(V.sl (List.map cB ((nth (f.kids.map (rst t)) (1)))))) rfl h7 (ldB_map (by (simp only [List.length_map,List.length_set,outL_len]; omega)) (by rfl)) (G_yes (ebF g26 rfl) (R_mv t11 ?_)))))))
      refine G_yes (ebF g26 rfl) (R_idxI (i:=(k)) (@rfl V (V.sl (List.map cB ((nth (f.kids.map (rst t)) (1)))))) (@rfl V (iV (k))) (by omega) (by omega) rfl (G_yes (ebF g26 rfl) (R_load_pp rfl rfl (R_pickF (ebF g26 rfl) rfl ?_))))
      exact ⟨t2,t3,t5,t6,t7,t9,t11,rfl,rfl,(borF g26),h2,h3,h7,h21,trivial⟩
    intro T H ⟨t2,t3,t5,t6,t7,t9,t11,t187,t188,t200,h2,h3,h7,h21,_⟩
    refine R_idxI_ms0 (i:=(i)) t187 t188 h21 oB rfl (by omega) (by omega) (R_store (vs:=[(V.bool ((((nth ((outL t f i).set i.toNat x) (((i)).toNat)))||((nth ((nth (f.kids.map (rst t)) (1))) (k).toNat)))))]) (B':=(bk 1 4 1 (List.map cB (((outL t f i).set i.toNat x).set (((i)).toNat) ((((nth ((outL t f i).set i.toNat x) (((i)).toNat)))||((nth ((nth (f.kids.map (rst t)) (1))) (k).toNat)))))))) rfl t200 rfl h21 (stB_map (x:=((((nth ((outL t f i).set i.toNat x) (((i)).toNat)))||((nth ((nth (f.kids.map (rst t)) (1))) (k).toNat))))) (i:=(((i)).toNat)) (by (simp only [List.length_map,List.length_set,outL_len]; omega)) rfl rfl rfl rfl) (R_e (W_t (R_mv t7 (R_idx_ms0 (i:=0) (@rfl V (V.ms 7 v 0 (f.kids.length))) (@rfl V (iV ((0:Nat):Int))) h7 (okB_map (by (simp only [List.length_map,List.length_set,outL_len]; omega))) rfl (by omega) (R_load_mp (v:=(V.sl (List.map cB ((nth (f.kids.map (rst t)) (0)))))) rfl h7 (ldB_map (by (simp only [List.length_map,List.length_set,outL_len]; omega)) (by rfl)) (R_mv t11 ?_)))))))
    refine R_idxI (i:=(k)) (@rfl V (V.sl (List.map cB ((nth (f.kids.map (rst t)) (0)))))) (@rfl V (iV (k))) (by omega) (by omega) rfl (R_load_pp rfl rfl (R_mv rfl (R_e (n25 _ _ (.done (W_t (R_mv t11 ?_)))))))
    refine R_add rfl rfl (by omega) (by omega) (R_mv rfl (R_e ?_))
    refine p122 _ _ _ ?_ ⟨(k+1),(kR t f 0 k.toNat),(x||kR t f 1 k.toNat),rfl,t2,t3,t5,t6,t7,t9,(Eq.trans (@rfl V (iV ((k)+(1:Int)))) (by rfl)),(Eq.trans (@rfl V (V.bool ((nth ((nth (f.kids.map (rst t)) (0))) (k).toNat)))) (by rfl)),h2,h3,h7,(Eq.trans (@rfl Blk (bk 1 4 1 (List.map cB (((outL t f i).set i.toNat x).set (((i)).toNat) ((((nth ((outL t f i).set i.toNat x) (((i)).toNat)))||((nth ((nth (f.kids.map (rst t)) (1))) (k).toNat)))))))) (by (rw [List.set_set,nth_set_at (by rw [outL_len]; omega)]; rfl))),?_,?_⟩
    · omega
    · omega
    · exact unI_next hu (by omega) (by omega) hal
   have hx:=unI_end hu c24
   refine W_seq_exit (p322 _ _ _ (x21 _ _ (n9 _ _ (n8 _ _ (.done (W_t (R_mv t9 ?_)))))))
   refine R_sub rfl rfl (by omega) (by omega) (R_mv rfl (R_e ?_))
   refine p16 _ _ _ ?_ ⟨(i - 1),v,rfl,t2,t3,t5,t6,t7,(Eq.trans (@rfl V (iV ((i) - (1:Int)))) (by rfl)),h2,h3,h7,(Eq.trans h21 (by (rw [outL_set2 (by omega) (by omega) hx]; done))),?_⟩
   · omega
   · omega
  refine W_r (R_eql rfl rfl (R_mv rfl (R_e ?_)))
  refine W_if rfl (fun c27=>?_) fun c27=>?_
  ·
   refine W_r (R_mv t6 (R_mv t9 (R_idxI_ms0 (i:=(i)) (@rfl V (V.ms 21 1 0 (t.ni.length+1))) (@rfl V (iV (i))) h21 oB rfl (by omega) (by omega) (R_store (vs:=[(V.bool true)]) (B':=(bk 1 4 1 (List.map cB ((outL t f i).set (((i)).toNat) true)))) rfl rfl rfl h21 (stB_map (x:=true) (i:=(((i)).toNat)) (by omega) rfl rfl rfl rfl) (R_e (W_r (R_mv t9 ?_)))))))
   refine R_mv rfl (R_mv rfl (R_e (W_block fun Q28 n28 x28 y28 z28=>?_)))
   refine W_loop (fun mm T H=> ∃ (k:Int) (al:Bool) (x:Bool),mm=t.ni.length+1 - k.toNat∧T 2=(V.mp 2 1 0 0)∧T 3=(V.mp 3 1 0 0)∧T 5=(iV ((t.ni.length:Nat):Int))∧T 6=(V.ms 21 1 0 (t.ni.length+1))∧T 7=(V.ms 7 v 0 (f.kids.length))∧T 9=(iV (i))∧T 13=(iV (k))∧T 14=(V.bool al)∧H 2=(bk 1 24 3 [[(iV (f.op)),(iV (f.arg)),(V.sl (List.map cF (f.kids)))]])∧H 3=(bk 1 27 2 [[(ints t.ni),(ints t.no)]])∧H 7=(bz v 43 1 (List.map cBL (f.kids.map (rst t))))∧H 21=(bk 1 4 1 (List.map cB ((outL t f i).set i.toNat x)))∧(i≤k∧k≤t.ni.length+1)∧(reI t f i k al x)) ?_ ?_
   ·
    refine ⟨_,i,true,true,rfl,t2,t3,t5,t6,t7,t9,rfl,rfl,h2,h3,h7,(Eq.trans (@rfl Blk (bk 1 4 1 (List.map cB ((outL t f i).set (((i)).toNat) true)))) (by rfl)),?_,?_⟩
    · omega
    · exact reI_start (by omega) (by omega) (by omega) (by omega)
   intro mm T H ⟨k,al,x,hmm,t2,t3,t5,t6,t7,t9,t13,t14,h2,h3,h7,h21,hk,hu⟩ Q29 p129 p229 p329
   unfold b20_3
   refine W_seq_seq (W_r (R_mv t13 (R_mv t5 (R_leq rfl rfl (R_mv rfl ?_)))))
   refine Ops_seg 2 (fun T H=>T 2=(V.mp 2 1 0 0)∧T 3=(V.mp 3 1 0 0)∧T 5=(iV ((t.ni.length:Nat):Int))∧T 6=(V.ms 21 1 0 (t.ni.length+1))∧T 7=(V.ms 7 v 0 (f.kids.length))∧T 9=(iV (i))∧T 13=(iV (k))∧T 219=(V.bool ((decide ((k)≤((t.ni.length:Nat):Int))&&al)))∧H 2=(bk 1 24 3 [[(iV (f.op)),(iV (f.arg)),(V.sl (List.map cF (f.kids)))]])∧H 3=(bk 1 27 2 [[(ints t.ni),(ints t.no)]])∧H 7=(bz v 43 1 (List.map cBL (f.kids.map (rst t))))∧H 21=(bk 1 4 1 (List.map cB ((outL t f i).set i.toNat x)))∧True) ?_ ?_
   ·
    by_cases g30:(k)≤((t.ni.length:Nat):Int)
    ·
     refine G_yes (edT g30 rfl) (R_mv t14 (R_pickT (edT g30 rfl) rfl ?_))
     exact ⟨t2,t3,t5,t6,t7,t9,t13,(dbandT g30),h2,h3,h7,h21,trivial⟩
    ·
     refine G_n (edF g30 rfl) (R_pickF (edF g30 rfl) rfl ?_)
     exact ⟨t2,t3,t5,t6,t7,t9,t13,(dbandF g30),h2,h3,h7,h21,trivial⟩
   intro T H ⟨t2,t3,t5,t6,t7,t9,t13,t219,h2,h3,h7,h21,_⟩
   refine R_e ?_
   refine W_seq_ifb t219 (fun c31=>?_) (fun c31=>?_)
   ·
    have q0:=c31
    rw [Bool.and_eq_true,decide_eq_true_eq] at q0
    obtain ⟨hk1,hal⟩:=q0
    refine W_seq_skip (W_seq_blockg fun Q32 n32 x32 y32 z32=>(W_r (R_mv t6 (R_mv t9 (R_mv t6 (R_mv t9 (R_idxI_ms0 (i:=(i)) (@rfl V (V.ms 21 1 0 (t.ni.length+1))) (@rfl V (iV (i))) h21 oB rfl (by omega) (by omega) ?_)))))))
    refine R_load_mp (v:=(V.bool ((nth ((outL t f i).set i.toNat x) (((i)).toNat))))) rfl h21 (ldB_map (by (simp only [List.length_map,List.length_set,outL_len]; omega)) (by rfl)) (R_mv rfl ?_)
    refine Ops_seg 7 (fun T H=>T 2=(V.mp 2 1 0 0)∧T 3=(V.mp 3 1 0 0)∧T 5=(iV ((t.ni.length:Nat):Int))∧T 6=(V.ms 21 1 0 (t.ni.length+1))∧T 7=(V.ms 7 v 0 (f.kids.length))∧T 9=(iV (i))∧T 13=(iV (k))∧T 222=(V.ms 21 1 0 (t.ni.length+1))∧T 223=(iV (i))∧T 235=(V.bool ((((nth ((outL t f i).set i.toNat x) (((i)).toNat)))&&((nth ((nth (f.kids.map (rst t)) (1))) (k).toNat)))))∧H 2=(bk 1 24 3 [[(iV (f.op)),(iV (f.arg)),(V.sl (List.map cF (f.kids)))]])∧H 3=(bk 1 27 2 [[(ints t.ni),(ints t.no)]])∧H 7=(bz v 43 1 (List.map cBL (f.kids.map (rst t))))∧H 21=(bk 1 4 1 (List.map cB ((outL t f i).set i.toNat x)))∧True) ?_ ?_
    ·
     by_cases g33:((nth ((outL t f i).set i.toNat x) (((i)).toNat)))=true
     ·
      refine G_yes (ebT g33 rfl) (R_mv t7 (G_yes (ebT g33 rfl) (R_idx_ms0 (i:=1) (@rfl V (V.ms 7 v 0 (f.kids.length))) (@rfl V (iV ((1:Nat):Int))) h7 (okB_map (by (simp only [List.length_map,List.length_set,outL_len]; omega))) rfl (by omega) (G_yes (ebT g33 rfl) (R_load_mp (v:=(V.sl (List.map cB ((nth (f.kids.map (rst t)) (1)))))) rfl h7 (ldB_map (by (simp only [List.length_map,List.length_set,outL_len]; omega)) (by rfl)) (G_yes (ebT g33 rfl) (R_mv t13 ?_)))))))
      refine G_yes (ebT g33 rfl) (R_idxI (i:=(k)) (@rfl V (V.sl (List.map cB ((nth (f.kids.map (rst t)) (1)))))) (@rfl V (iV (k))) (by omega) (by omega) rfl (G_yes (ebT g33 rfl) (R_load_pp rfl rfl (R_pickT (ebT g33 rfl) rfl ?_))))
      exact ⟨t2,t3,t5,t6,t7,t9,t13,rfl,rfl,(bandT g33),h2,h3,h7,h21,trivial⟩
     ·
      refine G_n (ebF g33 rfl) (G_n (ebF g33 rfl) (G_n (ebF g33 rfl) (G_n (ebF g33 rfl) (G_n (ebF g33 rfl) (G_n (ebF g33 rfl) (R_pickF (ebF g33 rfl) rfl ?_))))))
      exact ⟨t2,t3,t5,t6,t7,t9,t13,rfl,rfl,(bandF g33),h2,h3,h7,h21,trivial⟩
    intro T H ⟨t2,t3,t5,t6,t7,t9,t13,t222,t223,t235,h2,h3,h7,h21,_⟩
    refine R_idxI_ms0 (i:=(i)) t222 t223 h21 oB rfl (by omega) (by omega) (R_store (vs:=[(V.bool ((((nth ((outL t f i).set i.toNat x) (((i)).toNat)))&&((nth ((nth (f.kids.map (rst t)) (1))) (k).toNat)))))]) (B':=(bk 1 4 1 (List.map cB (((outL t f i).set i.toNat x).set (((i)).toNat) ((((nth ((outL t f i).set i.toNat x) (((i)).toNat)))&&((nth ((nth (f.kids.map (rst t)) (1))) (k).toNat)))))))) rfl t235 rfl h21 (stB_map (x:=((((nth ((outL t f i).set i.toNat x) (((i)).toNat)))&&((nth ((nth (f.kids.map (rst t)) (1))) (k).toNat))))) (i:=(((i)).toNat)) (by (simp only [List.length_map,List.length_set,outL_len]; omega)) rfl rfl rfl rfl) (R_e (W_t (R_mv t7 (R_idx_ms0 (i:=0) (@rfl V (V.ms 7 v 0 (f.kids.length))) (@rfl V (iV ((0:Nat):Int))) h7 (okB_map (by (simp only [List.length_map,List.length_set,outL_len]; omega))) rfl (by omega) (R_load_mp (v:=(V.sl (List.map cB ((nth (f.kids.map (rst t)) (0)))))) rfl h7 (ldB_map (by (simp only [List.length_map,List.length_set,outL_len]; omega)) (by rfl)) (R_mv t13 ?_)))))))
    refine R_idxI (i:=(k)) (@rfl V (V.sl (List.map cB ((nth (f.kids.map (rst t)) (0)))))) (@rfl V (iV (k))) (by omega) (by omega) rfl (R_load_pp rfl rfl (R_notb rfl (R_mv rfl (R_e (n32 _ _ (.done (W_t ?_)))))))
    refine R_mv t13 (R_add rfl rfl (by omega) (by omega) (R_mv rfl (R_e ?_)))
    refine p129 _ _ _ ?_ ⟨(k+1),(!(kR t f 0 k.toNat)),(x&&kR t f 1 k.toNat),rfl,t2,t3,t5,t6,t7,t9,(Eq.trans (@rfl V (iV ((k)+(1:Int)))) (by rfl)),(Eq.trans (@rfl V (V.bool ((!(nth ((nth (f.kids.map (rst t)) (0))) (k).toNat))))) (by rfl)),h2,h3,h7,(Eq.trans (@rfl Blk (bk 1 4 1 (List.map cB (((outL t f i).set i.toNat x).set (((i)).toNat) ((((nth ((outL t f i).set i.toNat x) (((i)).toNat)))&&((nth ((nth (f.kids.map (rst t)) (1))) (k).toNat)))))))) (by (rw [List.set_set,nth_set_at (by rw [outL_len]; omega)]; rfl))),?_,?_⟩
    · omega
    · omega
    · exact reI_next hu (by omega) (by omega) hal
   have hx:=reI_end hu c31
   refine W_seq_exit (p329 _ _ _ (x28 _ _ (n9 _ _ (n8 _ _ (.done (W_t (R_mv t9 ?_)))))))
   refine R_sub rfl rfl (by omega) (by omega) (R_mv rfl (R_e ?_))
   refine p16 _ _ _ ?_ ⟨(i - 1),v,rfl,t2,t3,t5,t6,t7,(Eq.trans (@rfl V (iV ((i) - (1:Int)))) (by rfl)),h2,h3,h7,(Eq.trans h21 (by (rw [outL_set2 (by omega) (by omega) hx]; done))),?_⟩
   · omega
   · omega
  refine W_r (R_mv t6 (R_mv t9 (R_fk t2 h2 (R_lk rfl h2 rfl rfl (R_eql rfl rfl (R_idxI_ms0 (i:=(i)) (@rfl V (V.ms 21 1 0 (t.ni.length+1))) (@rfl V (iV (i))) h21 oB rfl (by omega) (by omega) (R_store (vs:=[(V.bool (decide ((f.op)=(5:Int))))]) (B':=(bk 1 4 1 (List.map cB ((outL t f i).set (((i)).toNat) (decide ((f.op)=(5:Int))))))) rfl rfl rfl h21 (stB_map (x:=(decide ((f.op)=(5:Int)))) (i:=(((i)).toNat)) (by omega) rfl rfl rfl rfl) ?_)))))))
  refine R_e (W_r (R_mv rfl (R_e (W_block fun Q34 n34 x34 y34 z34=>?_))))
  refine W_loop (fun mm T H=> ∃ (q:Nat) (x:Bool),mm=f.kids.length - q∧T 2=(V.mp 2 1 0 0)∧T 3=(V.mp 3 1 0 0)∧T 5=(iV ((t.ni.length:Nat):Int))∧T 6=(V.ms 21 1 0 (t.ni.length+1))∧T 7=(V.ms 7 v 0 (f.kids.length))∧T 9=(iV (i))∧T 15=(iV ((q:Nat):Int))∧H 2=(bk 1 24 3 [[(iV (f.op)),(iV (f.arg)),(V.sl (List.map cF (f.kids)))]])∧H 3=(bk 1 27 2 [[(ints t.ni),(ints t.no)]])∧H 7=(bz v 43 1 (List.map cBL (f.kids.map (rst t))))∧H 21=(bk 1 4 1 (List.map cB ((outL t f i).set i.toNat x)))∧(q≤f.kids.length)∧(aoI t f i q x)) ?_ ?_
  ·
   refine ⟨_,0,(decide (f.op=5)),rfl,t2,t3,t5,t6,t7,t9,(Eq.trans (@rfl V (iV (0:Int))) rfl),h2,h3,h7,(Eq.trans (@rfl Blk (bk 1 4 1 (List.map cB ((outL t f i).set (((i)).toNat) (decide ((f.op)=(5:Int))))))) (by rfl)),?_,?_⟩
   · omega
   · exact aoI_start (by omega) (by omega) (by omega)
  intro mm T H ⟨q,x,hmm,t2,t3,t5,t6,t7,t9,t15,h2,h3,h7,h21,hq,ha⟩ Q35 p135 p235 p335
  unfold b20_4
  have hrq:q < f.kids.length→(nth (f.kids.map (rst t)) q).length=t.ni.length+1:=fun h=>by rw [nthM h,rst_len]
  refine W_seq_seq (W_r (R_mv t15 (R_mv t7 (R_len_ms rfl h7 (by simp) (R_lss rfl rfl (R_e ?_))))))
  refine W_seq_if rfl (fun c36=>?_) fun c36=>?_
  ·
   refine W_seq_skip (W_seq_blockg fun Q37 n37 x37 y37 z37=>(W_r (R_fk t2 h2 (R_lk rfl h2 rfl rfl (R_eql rfl rfl (R_e ?_))))))
   refine W_if rfl (fun c38=>?_) fun c38=>?_
   ·
    refine W_t (R_mv t6 (R_mv t9 (R_mv t6 (R_mv t9 (R_idxI_ms0 (i:=(i)) (@rfl V (V.ms 21 1 0 (t.ni.length+1))) (@rfl V (iV (i))) h21 oB rfl (by omega) (by omega) (R_load_mp (v:=(V.bool ((nth ((outL t f i).set i.toNat x) (((i)).toNat))))) rfl h21 (ldB_map (by (simp only [List.length_map,List.length_set,outL_len]; omega)) (by rfl)) (R_mv rfl ?_)))))))
    refine Ops_seg 8 (fun T H=>T 2=(V.mp 2 1 0 0)∧T 3=(V.mp 3 1 0 0)∧T 5=(iV ((t.ni.length:Nat):Int))∧T 6=(V.ms 21 1 0 (t.ni.length+1))∧T 7=(V.ms 7 v 0 (f.kids.length))∧T 9=(iV (i))∧T 15=(iV ((q:Nat):Int))∧T 64=(V.ms 21 1 0 (t.ni.length+1))∧T 65=(iV (i))∧T 78=(V.bool ((((nth ((outL t f i).set i.toNat x) (((i)).toNat)))&&((nth ((nth (f.kids.map (rst t)) (q))) (i).toNat)))))∧H 2=(bk 1 24 3 [[(iV (f.op)),(iV (f.arg)),(V.sl (List.map cF (f.kids)))]])∧H 3=(bk 1 27 2 [[(ints t.ni),(ints t.no)]])∧H 7=(bz v 43 1 (List.map cBL (f.kids.map (rst t))))∧H 21=(bk 1 4 1 (List.map cB ((outL t f i).set i.toNat x)))∧True) ?_ ?_
    ·
     by_cases g39:((nth ((outL t f i).set i.toNat x) (((i)).toNat)))=true
     ·
      refine G_yes (ebT g39 rfl) (R_mv t7 (G_yes (ebT g39 rfl) (R_mv t15 (G_yes (ebT g39 rfl) (R_idx_ms0 (i:=q) (@rfl V (V.ms 7 v 0 (f.kids.length))) (@rfl V (iV ((q:Nat):Int))) h7 (okB_map (by (simp only [List.length_map,List.length_set,outL_len]; omega))) rfl (by omega) (G_yes (ebT g39 rfl) (R_load_mp (v:=(V.sl (List.map cB ((nth (f.kids.map (rst t)) (q)))))) rfl h7 (ldB_map (by (simp only [List.length_map,List.length_set,outL_len]; omega)) (by rfl)) ?_)))))))
      refine G_yes (ebT g39 rfl) (R_mv t9 (G_yes (ebT g39 rfl) (R_idxI (i:=(i)) (@rfl V (V.sl (List.map cB ((nth (f.kids.map (rst t)) (q)))))) (@rfl V (iV (i))) (by omega) (by omega) rfl (G_yes (ebT g39 rfl) (R_load_pp rfl rfl (R_pickT (ebT g39 rfl) rfl ?_))))))
      exact ⟨t2,t3,t5,t6,t7,t9,t15,rfl,rfl,(bandT g39),h2,h3,h7,h21,trivial⟩
     ·
      refine G_n (ebF g39 rfl) (G_n (ebF g39 rfl) (G_n (ebF g39 rfl) (G_n (ebF g39 rfl) (G_n (ebF g39 rfl) (G_n (ebF g39 rfl) (G_n (ebF g39 rfl) (R_pickF (ebF g39 rfl) rfl ?_)))))))
      exact ⟨t2,t3,t5,t6,t7,t9,t15,rfl,rfl,(bandF g39),h2,h3,h7,h21,trivial⟩
    intro T H ⟨t2,t3,t5,t6,t7,t9,t15,t64,t65,t78,h2,h3,h7,h21,_⟩
    refine R_idxI_ms0 (i:=(i)) t64 t65 h21 oB rfl (by omega) (by omega) (R_store (vs:=[(V.bool ((((nth ((outL t f i).set i.toNat x) (((i)).toNat)))&&((nth ((nth (f.kids.map (rst t)) (q))) (i).toNat)))))]) (B':=(bk 1 4 1 (List.map cB (((outL t f i).set i.toNat x).set (((i)).toNat) ((((nth ((outL t f i).set i.toNat x) (((i)).toNat)))&&((nth ((nth (f.kids.map (rst t)) (q))) (i).toNat)))))))) rfl t78 rfl h21 (stB_map (x:=((((nth ((outL t f i).set i.toNat x) (((i)).toNat)))&&((nth ((nth (f.kids.map (rst t)) (q))) (i).toNat))))) (i:=(((i)).toNat)) (by (simp only [List.length_map,List.length_set,outL_len]; omega)) rfl rfl rfl rfl) (R_e (n37 _ _ (.done (W_t (R_mv t15 (R_addN rfl (@rfl V (iV ((1:Nat):Int))) (by omega) ?_)))))))
    refine R_mv rfl (R_e ?_)
    refine p135 _ _ _ ?_ ⟨(q+1),(x&&nth (nth (f.kids.map (rst t)) q) i.toNat),rfl,t2,t3,t5,t6,t7,t9,(Eq.trans (@rfl V (iV ((q+1:Nat):Int))) (by rfl)),h2,h3,h7,(Eq.trans (@rfl Blk (bk 1 4 1 (List.map cB (((outL t f i).set i.toNat x).set (((i)).toNat) ((((nth ((outL t f i).set i.toNat x) (((i)).toNat)))&&((nth ((nth (f.kids.map (rst t)) (q))) (i).toNat)))))))) (by (rw [List.set_set,nth_set_at (by rw [outL_len]; omega)]; done))),?_,?_⟩
    · omega
    · omega
    · first|exact aoI_and ha (by omega) (by omega)|exact aoI_or ha (by omega) (by omega)
   refine W_t (R_mv t6 (R_mv t9 (R_mv t6 (R_mv t9 (R_idxI_ms0 (i:=(i)) (@rfl V (V.ms 21 1 0 (t.ni.length+1))) (@rfl V (iV (i))) h21 oB rfl (by omega) (by omega) (R_load_mp (v:=(V.bool ((nth ((outL t f i).set i.toNat x) (((i)).toNat))))) rfl h21 (ldB_map (by (simp only [List.length_map,List.length_set,outL_len]; omega)) (by rfl)) (R_mv rfl ?_)))))))
   refine Ops_seg 8 (fun T H=>T 2=(V.mp 2 1 0 0)∧T 3=(V.mp 3 1 0 0)∧T 5=(iV ((t.ni.length:Nat):Int))∧T 6=(V.ms 21 1 0 (t.ni.length+1))∧T 7=(V.ms 7 v 0 (f.kids.length))∧T 9=(iV (i))∧T 15=(iV ((q:Nat):Int))∧T 80=(V.ms 21 1 0 (t.ni.length+1))∧T 81=(iV (i))∧T 94=(V.bool ((((nth ((outL t f i).set i.toNat x) (((i)).toNat)))||((nth ((nth (f.kids.map (rst t)) (q))) (i).toNat)))))∧H 2=(bk 1 24 3 [[(iV (f.op)),(iV (f.arg)),(V.sl (List.map cF (f.kids)))]])∧H 3=(bk 1 27 2 [[(ints t.ni),(ints t.no)]])∧H 7=(bz v 43 1 (List.map cBL (f.kids.map (rst t))))∧H 21=(bk 1 4 1 (List.map cB ((outL t f i).set i.toNat x)))∧True) ?_ ?_
   ·
    by_cases g40:((nth ((outL t f i).set i.toNat x) (((i)).toNat)))=true
    ·
     refine G_n (ebT g40 rfl) (G_n (ebT g40 rfl) (G_n (ebT g40 rfl) (G_n (ebT g40 rfl) (G_n (ebT g40 rfl) (G_n (ebT g40 rfl) (G_n (ebT g40 rfl) (R_pickT (ebT g40 rfl) rfl ?_)))))))
     exact ⟨t2,t3,t5,t6,t7,t9,t15,rfl,rfl,(borT g40),h2,h3,h7,h21,trivial⟩
    ·
     refine G_yes (ebF g40 rfl) (R_mv t7 (G_yes (ebF g40 rfl) (R_mv t15 (G_yes (ebF g40 rfl) (R_idx_ms0 (i:=q) (@rfl V (V.ms 7 v 0 (f.kids.length))) (@rfl V (iV ((q:Nat):Int))) h7 (okB_map (by (simp only [List.length_map,List.length_set,outL_len]; omega))) rfl (by omega) (G_yes (ebF g40 rfl) (R_load_mp (v:=(V.sl (List.map cB ((nth (f.kids.map (rst t)) (q)))))) rfl h7 (ldB_map (by (simp only [List.length_map,List.length_set,outL_len]; omega)) (by rfl)) ?_)))))))
     refine G_yes (ebF g40 rfl) (R_mv t9 (G_yes (ebF g40 rfl) (R_idxI (i:=(i)) (@rfl V (V.sl (List.map cB ((nth (f.kids.map (rst t)) (q)))))) (@rfl V (iV (i))) (by omega) (by omega) rfl (G_yes (ebF g40 rfl) (R_load_pp rfl rfl (R_pickF (ebF g40 rfl) rfl ?_))))))
     exact ⟨t2,t3,t5,t6,t7,t9,t15,rfl,rfl,(borF g40),h2,h3,h7,h21,trivial⟩
   intro T H ⟨t2,t3,t5,t6,t7,t9,t15,t80,t81,t94,h2,h3,h7,h21,_⟩
   refine R_idxI_ms0 (i:=(i)) t80 t81 h21 oB rfl (by omega) (by omega) (R_store (vs:=[(V.bool ((((nth ((outL t f i).set i.toNat x) (((i)).toNat)))||((nth ((nth (f.kids.map (rst t)) (q))) (i).toNat)))))]) (B':=(bk 1 4 1 (List.map cB (((outL t f i).set i.toNat x).set (((i)).toNat) ((((nth ((outL t f i).set i.toNat x) (((i)).toNat)))||((nth ((nth (f.kids.map (rst t)) (q))) (i).toNat)))))))) rfl t94 rfl h21 (stB_map (x:=((((nth ((outL t f i).set i.toNat x) (((i)).toNat)))||((nth ((nth (f.kids.map (rst t)) (q))) (i).toNat))))) (i:=(((i)).toNat)) (by (simp only [List.length_map,List.length_set,outL_len]; omega)) rfl rfl rfl rfl) (R_e (n37 _ _ (.done (W_t (R_mv t15 (R_addN rfl (@rfl V (iV ((1:Nat):Int))) (by omega) ?_)))))))
   refine R_mv rfl (R_e ?_)
   refine p135 _ _ _ ?_ ⟨(q+1),(x||nth (nth (f.kids.map (rst t)) q) i.toNat),rfl,t2,t3,t5,t6,t7,t9,(Eq.trans (@rfl V (iV ((q+1:Nat):Int))) (by rfl)),h2,h3,h7,(Eq.trans (@rfl Blk (bk 1 4 1 (List.map cB (((outL t f i).set i.toNat x).set (((i)).toNat) ((((nth ((outL t f i).set i.toNat x) (((i)).toNat)))||((nth ((nth (f.kids.map (rst t)) (q))) (i).toNat)))))))) (by (rw [List.set_set,nth_set_at (by rw [outL_len]; omega)]; done))),?_,?_⟩
   · omega
   · omega
   · first|exact aoI_and ha (by omega) (by omega)|exact aoI_or ha (by omega) (by omega)
  have hx:=aoI_end ha (by omega)
  refine W_seq_exit (p335 _ _ _ (x34 _ _ (n9 _ _ (n8 _ _ (.done (W_t (R_mv t9 ?_)))))))
  refine R_sub rfl rfl (by omega) (by omega) (R_mv rfl (R_e ?_))
  refine p16 _ _ _ ?_ ⟨(i - 1),v,rfl,t2,t3,t5,t6,t7,(Eq.trans (@rfl V (iV ((i) - (1:Int)))) (by rfl)),h2,h3,h7,(Eq.trans h21 (by (rw [outL_set2 (by omega) (by omega) hx]; done))),?_⟩
  · omega
  · omega
 refine W_seq_exit (p36 _ _ _ (x5 _ _ (.done (W_r (R_mv t6 (R_mv rfl (R_e ?_)))))))
 refine W_ret ?_
 refine Ret_1 (@rfl V (V.ms 21 1 0 (t.ni.length+1))) (fz_ms h21 (by rfl) (l:=(outL t f i)) rfl (by exact (outL_len _ _ _).symm) (fun _=>by simp) ?_)
 · rw [show i= -1 by omega,outL_end]
theorem rrests_pure (f:Fm) (t:Tr) (hf:okF f=true) (hz:f.sz≤4096) (ht:t.no.length=t.ni.length) (hn:t.ni.length≤1024):PureC Tryd.prog 20 [(V.agg [(iV (f.op)),(iV (f.arg)),(V.sl (List.map cF (f.kids)))]),(V.agg [(ints t.ni),(ints t.no)])] (V.sl (List.map cB ((rst t f)))):=by
  have key: ∀ (mm:Nat) (f:Fm) (t:Tr),f.sz < mm→okF f=true→f.sz≤4096→t.no.length=t.ni.length→t.ni.length≤1024→PureC Tryd.prog 20 [(V.agg [(iV (f.op)),(iV (f.arg)),(V.sl (List.map cF (f.kids)))]),(V.agg [(ints t.ni),(ints t.no)])] (V.sl (List.map cB ((rst t f)))):=by
    intro mm
    induction mm with
    |zero=>intro f t hlt; exact absurd hlt (Nat.not_lt_zero _)
    | succ mm ih =>
      intro f t hlt hf hz ht hn
      exact rrests_pure_step f t hf hz ht hn fun f2 t2 hlt2=>ih f2 t2 (by omega)
  exact key (f.sz+1) f t (Nat.lt_succ_self _) hf hz ht hn
end Go.Proofs.YteehaobohaecmaaDoor
namespace Go.Proofs.YteehaobohaecmaaDoor
open Go Go.Proofs
theorem rholds_pure (f:Fm) (t:Tr):PureC Tryd.prog 8 [(V.agg [(iV (f.op)),(iV (f.arg)),(V.sl (List.map cF (f.kids)))]),(V.agg [(ints t.ni),(ints t.no)])] (V.tup [(V.bool (hoB t f)),(iV (hoE t f))]):=by
 refine pW Tryd.func8 s8_ok fun hB=>?_
 unfold s8
 dsimp only
 refine W_r (R_box (i:=2) (n:=0) (m:=3) (cs:=[(iV (f.op)),(iV (f.arg)),(V.sl (List.map cF (f.kids)))]) rfl (congrArg Blk.ver rfl) rfl rfl rfl (R_box (i:=3) (n:=0) (m:=2) (cs:=[(ints t.ni),(ints t.no)]) rfl (congrArg Blk.ver rfl) rfl rfl rfl (R_mv rfl (R_mv rfl (R_e (W_seq_blockg fun Q1 n1 x1 y1 z1=>(W_r ?_)))))))
 refine R_lk rfl rfl rfl rfl (R_callk (rfvalid_pure f) rfl (R_neq rfl rfl (R_mv rfl (R_e ?_))))
 refine W_if rfl (fun c2=>?_) fun c2=>?_
 ·
  have h0:hoE t f=fval f:=if_pos c2
  have hb0:hoB t f=false:=by unfold hoB; rw [h0,decide_eq_false (by omega)]; rfl
  refine W_r (R_lk rfl rfl rfl rfl (R_callk (rfvalid_pure f) rfl (R_mv rfl (R_mv rfl (R_e (W_ret (y1 _ _ ?_)))))))
  refine Ret_2 (@rfl V (V.bool false)) (@rfl V (iV (fval f))) (fz_bool ?_) (fz_int ?_)
  · rw [hb0]
  · omega
 have h1:fval f=0:=by omega
 refine W_r (R_fk rfl rfl (R_lk rfl rfl rfl rfl (R_len rfl (R_gtr rfl rfl (R_mv rfl (R_e ?_))))))
 refine W_if rfl (fun c3=>?_) fun c3=>?_
 ·
  have h0:hoE t f=3:=by unfold hoE; rw [if_neg (by omega),if_pos (by omega)]
  have hb0:hoB t f=false:=by unfold hoB; rw [h0]; rfl
  refine W_r (R_mv rfl (R_mv rfl (R_e (W_ret (y1 _ _ ?_)))))
  refine Ret_2 (@rfl V (V.bool false)) (@rfl V (iV (3:Int))) (fz_bool ?_) (fz_int ?_)
  · rw [hb0]
  · omega
 refine W_r (R_fk rfl rfl (R_lk rfl rfl rfl rfl (R_len rfl (R_fk rfl rfl (R_lk rfl rfl rfl rfl (R_len rfl (R_neq rfl rfl ?_)))))))
 refine R_mv rfl (R_e ?_)
 refine W_if rfl (fun c4=>?_) fun c4=>?_
 ·
  have h0:hoE t f=1:=by unfold hoE; rw [if_neg (by omega),if_neg (by omega),if_pos (by omega)]
  have hb0:hoB t f=false:=by unfold hoB; rw [h0]; rfl
  refine W_r (R_mv rfl (R_mv rfl (R_e (W_ret (y1 _ _ ?_)))))
  refine Ret_2 (@rfl V (V.bool false)) (@rfl V (iV (1:Int))) (fz_bool ?_) (fz_int ?_)
  · rw [hb0]
  · omega
 have h0:hoE t f=0:=by unfold hoE; rw [if_neg (by omega),if_neg (by omega),if_neg (by omega)]
 have hb0:hoB t f=nth (rst t f) 0:=by unfold hoB; rw [h0,rst_nth (Nat.zero_le _)]; rfl
 have hrl:=rst_len t f
 refine W_skip (n1 _ _ (.done (W_r (R_lk rfl rfl rfl rfl (R_lk rfl rfl rfl rfl (R_callk (rrests_pure f t (fval_ok h1) (fval_sz h1) (by omega) (by omega)) rfl (R_idx (i:=0) (@rfl V (V.sl (List.map cB ((rst t f))))) (@rfl V (iV ((0:Nat):Int))) (by omega) rfl ?_)))))))
 refine R_load_pp rfl rfl (R_mv rfl (R_mv rfl (R_e (W_ret ?_))))
 refine Ret_2 (@rfl V (V.bool ((nth ((rst t f)) (0))))) (@rfl V (iV (0:Int))) (fz_bool ?_) (fz_int ?_)
 · rw [hb0]
 · omega
def r13_3:List SO:=[
 qM 7 6,
 qF 8 2 2,
 ql 9 8,
 qN 10 9,
 qP 11 .lss 7 10,
 qM 12 11,
 ⟨some (12,true),some 13,.mv (.t 5)⟩,
 ⟨some (12,true),some 14,.mv (.t 1)⟩,
 ⟨some (12,true),some 15,.bin .leq (.t 13) (.t 14)⟩,
 sO 16 (.pick (.t 12) (.t 15) (.c (.bool false)))]
def r13_5:List SO:=[
 qM 19 5,
 qF 20 2 2,
 ql 21 20,
 qM 22 6,
 qA 23 3 21 22,
 qL 24 3 23,
 qM 25 1,
 qM 26 5,
 qP 27 .sub 25 26,
 sO 28 (.call false 13 [.t 24,.t 27]),
 qP 29 .add 19 28,
 qM 5 29]
def b13_0:SC:=.seq (.seq (.reg r13_3) (.cond (.t 16) (.skip) (.exit 0))) (.seq (.block 1 (.reg r13_5)) (.reg [qM 17 6,qC 18 .add 17 1,qM 6 18]))
def s13:SF:=⟨31,[.tmp 4],.seq (.reg [sO 2 (.box 24 3 (.t 0)),qI 4 0]) (.seq (.reg [qI 5 1]) (.seq (.seq (.reg [qI 6 0]) (.block 0 (.loop b13_0))) (.seq (.reg [qM 30 5,qM 4 30]) (.ret))))⟩
theorem s13_ok:slimF Tryd.prog ⟨[32,48,55,93,94,95,100],[],[],[]⟩ Tryd.f13=some s13:=by kernel_rfl
theorem fsize_pure_step (f:Fm) (m:Int) (hm:m≤200∧ -1000000≤m) (ih: ∀ (g:Fm) (m:Int),g.sz < f.sz→m≤200∧ -1000000≤m→PureC Tryd.prog 13 [(V.agg [(iV (g.op)),(iV (g.arg)),(V.sl (List.map cF (g.kids)))]),(iV (m))] (iV (szm g m))):PureC Tryd.prog 13 [(V.agg [(iV (f.op)),(iV (f.arg)),(V.sl (List.map cF (f.kids)))]),(iV (m))] (iV (szm f m)):=by
 refine pW Tryd.func13 s13_ok fun hB=>?_
 unfold s13
 dsimp only
 refine W_r (R_box (i:=2) (n:=0) (m:=3) (cs:=[(iV (f.op)),(iV (f.arg)),(V.sl (List.map cF (f.kids)))]) rfl (congrArg Blk.ver rfl) rfl rfl rfl (R_mv rfl (R_e (W_r (R_mv rfl (R_e (W_seq_seq ?_)))))))
 refine W_r (R_mv rfl (R_e (W_seq_blockg fun Q1 n1 x1 y1 z1=>?_)))
 refine W_loop (fun mm T H=> ∃ (k:Nat) (n:Int),mm=f.kids.length - k∧T 1=(iV (m))∧T 2=(V.mp 2 1 0 0)∧T 5=(iV (n))∧T 6=(iV ((k:Nat):Int))∧H 2=(bk 1 24 3 [[(iV (f.op)),(iV (f.arg)),(V.sl (List.map cF (f.kids)))]])∧(k≤f.kids.length)∧(1≤n∧(n≤m+1∨n=1))∧(szm f m=szmL (f.kids.drop k) n m)) ?_ ?_
 ·
  refine ⟨_,0,1,rfl,rfl,rfl,rfl,(Eq.trans (@rfl V (iV (0:Int))) rfl),rfl,?_,?_,?_⟩
  · omega
  · omega
  · exact szm_eq f m
 intro mm T H ⟨k,n,hmm,t1,t2,t5,t6,h2,hk,hn,hc⟩ Q2 p12 p22 p32
 unfold b13_0
 refine W_seq_seq (W_r (R_mv t6 (R_fk t2 h2 (R_lk rfl h2 rfl rfl (R_len rfl (R_lss rfl rfl (R_mv rfl ?_)))))))
 refine Ops_seg 4 (fun T H=>T 1=(iV (m))∧T 2=(V.mp 2 1 0 0)∧T 5=(iV (n))∧T 6=(iV ((k:Nat):Int))∧T 16=(V.bool (decide ((((k:Nat):Int) < ((f.kids.length:Nat):Int))∧((n)≤(m)))))∧H 2=(bk 1 24 3 [[(iV (f.op)),(iV (f.arg)),(V.sl (List.map cF (f.kids)))]])∧True) ?_ ?_
 ·
  by_cases g3:((k:Nat):Int) < ((f.kids.length:Nat):Int)
  ·
   refine G_yes (edT g3 rfl) (R_mv t5 (G_yes (edT g3 rfl) (R_mv t1 (G_yes (edT g3 rfl) (R_leq rfl rfl (R_pickT (edT g3 rfl) rfl ?_))))))
   exact ⟨t1,t2,t5,t6,(dec_andT g3),h2,trivial⟩
  ·
   refine G_n (edF g3 rfl) (G_n (edF g3 rfl) (G_n (edF g3 rfl) (R_pickF (edF g3 rfl) rfl ?_)))
   exact ⟨t1,t2,t5,t6,(dec_andF g3),h2,trivial⟩
 intro T H ⟨t1,t2,t5,t6,t16,h2,_⟩
 refine R_e ?_
 refine W_seq_if t16 (fun c4=>?_) fun c4=>?_
 ·
  have q0:=szm_rng (nth f.kids k) (m - n)
  refine W_seq_skip (W_seq_blockg fun Q5 n5 x5 y5 z5=>(W_t (R_mv t5 (R_fk t2 h2 (R_lk rfl h2 rfl rfl (R_mv t6 (R_idxu (i:=k) (@rfl V (V.sl (List.map cF (f.kids)))) (@rfl V (iV ((k:Nat):Int))) (by omega) (cF_eq _) rfl ?_)))))))
  refine R_load_pp rfl rfl (R_mv t1 (R_mv t5 (R_sub rfl rfl (by omega) (by omega) (R_callk (ih (((nth (f.kids) (k)))) (((m) - (n))) (Fm.sz_kid (by omega)) (by omega)) rfl (R_add rfl rfl (by omega) (by omega) (R_mv rfl (R_e ?_)))))))
  refine n5 _ _ (.done (W_t (R_mv t6 (R_addN rfl (@rfl V (iV ((1:Nat):Int))) (by omega) (R_mv rfl (R_e ?_))))))
  refine p12 _ _ _ ?_ ⟨(k+1),n+szm (nth f.kids k) (m - n),rfl,t1,t2,(Eq.trans (@rfl V (iV ((n)+(szm (((nth (f.kids) (k)))) (((m) - (n))))))) (by rfl)),(Eq.trans (@rfl V (iV ((k+1:Nat):Int))) (by rfl)),h2,?_,?_,?_⟩
  · omega
  · omega
  · omega
  · rw [hc,szmL_yes (by omega) (by omega)]
 refine W_seq_exit (p32 _ _ _ (x1 _ _ (.done (W_r (R_mv t5 (R_mv rfl (R_e ?_)))))))
 refine W_ret ?_
 refine Ret_1 (@rfl V (iV (n))) (fz_int ?_)
 · rw [hc]; by_cases q:n≤m
   · rw [szmL_end (by omega)]
   · rw [szmL_no q]
theorem fsize_pure (f:Fm) (m:Int) (hm:m≤200∧ -1000000≤m):PureC Tryd.prog 13 [(V.agg [(iV (f.op)),(iV (f.arg)),(V.sl (List.map cF (f.kids)))]),(iV (m))] (iV (szm f m)):=by
  have key: ∀ (mm:Nat) (f:Fm) (m:Int),f.sz < mm→m≤200∧ -1000000≤m→PureC Tryd.prog 13 [(V.agg [(iV (f.op)),(iV (f.arg)),(V.sl (List.map cF (f.kids)))]),(iV (m))] (iV (szm f m)):=by
    intro mm
    induction mm with
    |zero=>intro f m hlt; exact absurd hlt (Nat.not_lt_zero _)
    | succ mm ih =>
      intro f m hlt hm
      exact fsize_pure_step f m hm fun f2 m2 hlt2=>ih f2 m2 (by omega)
  exact key (f.sz+1) f m (Nat.lt_succ_self _) hm
def r17_6:List SO:=[
 qF 19 3 2,
 ql 20 19,
 qL 21 4 2,
 qM 22 1,
 sO 23 (.call false 31 [.t 21,.t 22]),
 qA 24 1 20 23,
 ql 25 24,
 qM 4 25,
 qI 5 0]
def s17:SF:=⟨26,[.tmp 4,.tmp 5],.seq (.reg [sO 2 (.box 45 4 (.t 0)),sO 4 (.mv (.c (.bool false))),qI 5 0]) (.seq (.seq (.reg [qL 7 4 2,sO 8 (.call false 29 [.t 7]),qC 9 .neq 8 0]) (.cond (.t 9) (.seq (.reg [qL 10 4 2,sO 11 (.call false 29 [.t 10]),sO 4 (.mv (.c (.bool false))),qM 5 11]) (.ret)) (.skip))) (.seq (.reg [qM 12 1,qF 13 0 2,ql 14 13,sO 15 (.call false 30 [.t 12,.t 14]),qM 6 15]) (.seq (.seq (.reg [qM 16 6,qC 17 .neq 16 0]) (.cond (.t 17) (.seq (.reg [qM 18 6,sO 4 (.mv (.c (.bool false))),qM 5 18]) (.ret)) (.skip))) (.seq (.reg r17_6) (.ret)))))⟩
theorem s17_ok:slimF Tryd.prog ⟨[32,48,55,93,94,95,100],[],[],[]⟩ Tryd.f17=some s17:=by kernel_rfl
def r29_8:List SO:=[
 qF 21 1 1,
 ql 22 21,
 qC 23 .lss 22 0,
 qM 24 23,
 ⟨some (24,false),some 25,.fld 1 (.t 1)⟩,
 ⟨some (24,false),some 26,.load false 1 (.t 25)⟩,
 ⟨some (24,false),some 27,.mv (.t 3)⟩,
 ⟨some (24,false),some 28,.bin .geq (.t 26) (.t 27)⟩,
 sO 29 (.pick (.t 24) (.c (.bool true)) (.t 28)),
 qM 20 29]
def r29_15:List SO:=[
 qF 41 2 1,
 ql 42 41,
 qM 43 4,
 qA 44 1 42 43,
 ql 45 44,
 qN 46 45,
 qF 47 0 1,
 ql 48 47,
 qP 49 .neq 46 48]
def r29_20:List SO:=[
 qF 56 2 1,
 ql 57 56,
 qM 58 4,
 qA 59 1 57 58,
 ql 60 59,
 qM 61 5,
 qA 62 1 60 61,
 ql 63 62,
 qC 64 .lss 63 0,
 qM 65 64,
 ⟨some (65,false),some 66,.fld 2 (.t 1)⟩,
 ⟨some (65,false),some 67,.load false 1 (.t 66)⟩,
 ⟨some (65,false),some 68,.mv (.t 4)⟩,
 ⟨some (65,false),some 69,.idx 1 (.t 67) (.t 68)⟩,
 ⟨some (65,false),some 70,.load false 1 (.t 69)⟩,
 ⟨some (65,false),some 71,.mv (.t 5)⟩,
 ⟨some (65,false),some 72,.idx 1 (.t 70) (.t 71)⟩,
 ⟨some (65,false),some 73,.load false 1 (.t 72)⟩,
 ⟨some (65,false),some 74,.mv (.t 3)⟩,
 ⟨some (65,false),some 75,.bin .geq (.t 73) (.t 74)⟩,
 sO 76 (.pick (.t 65) (.c (.bool true)) (.t 75))]
def b29_1:SC:=.seq (.seq (.reg [qM 50 5,qF 51 0 1,ql 52 51,qP 53 .lss 50 52]) (.cond (.t 53) (.skip) (.exit 3))) (.seq (.block 4 (.seq (.reg r29_20) (.cond (.t 76) (.seq (.reg [qI 2 2]) (.ret)) (.skip)))) (.reg [qM 54 5,qC 55 .add 54 1,qM 5 55]))
def b29_0:SC:=.seq (.seq (.reg [qM 36 4,qM 37 3,qP 38 .lss 36 37]) (.cond (.t 38) (.skip) (.exit 1))) (.seq (.block 2 (.seq (.seq (.reg r29_15) (.cond (.t 49) (.seq (.reg [qI 2 1]) (.ret)) (.skip))) (.seq (.reg [qI 5 0]) (.block 3 (.loop b29_1))))) (.reg [qM 39 4,qC 40 .add 39 1,qM 4 40]))
def s29:SF:=⟨77,[.tmp 2],.seq (.reg [sO 1 (.box 45 4 (.t 0)),qI 2 0]) (.seq (.reg [qF 6 2 1,ql 7 6,qN 8 7,qM 3 8]) (.seq (.block 0 (.seq (.reg [qF 10 0 1,ql 11 10,sO 12 (.call false 43 [.t 11]),sO 13 (.un .not (.t 12)),qM 9 13]) (.cond (.t 9) (.seq (.reg [qI 2 2]) (.ret)) (.seq (.reg [qM 15 3,qC 16 .eql 15 0,qM 14 16]) (.cond (.t 14) (.seq (.reg [qI 2 19]) (.ret)) (.seq (.reg [qM 18 3,qC 19 .gtr 18 128,qM 17 19]) (.cond (.t 17) (.seq (.reg [qI 2 11]) (.ret)) (.seq (.reg r29_8) (.cond (.t 20) (.seq (.reg [qI 2 2]) (.ret)) (.seq (.reg [qF 31 3 1,ql 32 31,qN 33 32,qM 34 3,qP 35 .neq 33 34,qM 30 35]) (.cond (.t 30) (.seq (.reg [qI 2 1]) (.ret)) (.skip)))))))))))) (.seq (.seq (.reg [qI 4 0]) (.block 1 (.loop b29_0))) (.seq (.reg [qI 2 0]) (.ret)))))⟩
theorem s29_ok:slimF Tryd.prog ⟨[32,48,55,93,94,95,100],[],[],[]⟩ Tryd.f29=some s29:=by kernel_rfl
def r43_1:List SO:=[
 qM 3 0,
 qC 4 .geq 3 1,
 qM 5 4,
 ⟨some (5,true),some 6,.mv (.t 0)⟩,
 ⟨some (5,true),some 7,.bin .leq (.t 6) (.c (.int .i64 1024))⟩,
 sO 8 (.pick (.t 5) (.t 7) (.c (.bool false))),
 qM 2 8]
def s43:SF:=⟨9,[.tmp 2],.seq (.reg [sO 2 (.mv (.c (.bool false)))]) (.seq (.reg r43_1) (.ret))⟩
theorem s43_ok:slimF Tryd.prog ⟨[32,48,55,93,94,95,100],[],[],[]⟩ Tryd.f43=some s43:=by kernel_rfl
theorem size_pure (n:Int):PureC Tryd.prog 43 [(iV (n))] (V.bool (decide (1≤n∧n≤1024))):=by
 refine pW Tryd.func43 s43_ok fun hB=>?_
 unfold s43
 dsimp only
 refine W_r (R_mv rfl (R_e (W_r (R_mv rfl (R_geq rfl rfl (R_mv rfl ?_))))))
 refine Ops_seg 3 (fun T H=>T 8=(V.bool (decide (((1:Int)≤(n))∧((n)≤(1024:Int)))))∧True) ?_ ?_
 ·
  by_cases g1:(1:Int)≤(n)
  ·
   refine G_yes (edT g1 rfl) (R_mv rfl (G_yes (edT g1 rfl) (R_leq rfl rfl (R_pickT (edT g1 rfl) rfl ?_))))
   exact ⟨(dec_andT g1),trivial⟩
  ·
   refine G_n (edF g1 rfl) (G_n (edF g1 rfl) (R_pickF (edF g1 rfl) rfl ?_))
   exact ⟨(dec_andF g1),trivial⟩
 intro T H ⟨t8,_⟩
 refine R_mv t8 (R_e (W_ret ?_))
 refine Ret_1 (@rfl V (V.bool (decide (((1:Int)≤(n))∧((n)≤(1024:Int)))))) (fz_bool ?_)
 · first|rfl|omega|simp_all
end Go.Proofs.YteehaobohaecmaaDoor
