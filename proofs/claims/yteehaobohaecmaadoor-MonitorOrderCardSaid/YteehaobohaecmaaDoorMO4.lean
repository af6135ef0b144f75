/- Contracts of the functions that the law MO reaches, and the law itself, for every input; no condition. -/
import Derived.KernelRfl
import Derived.Test.YteehaobohaecmaaDoorRows
import Derived.LaidSub
import Derived.LaidMore
import Derived.Lib.LaidTab
import Derived.Test.YteehaobohaecmaaDoorTie
import Derived.Test.YteehaobohaecmaaDoorCards
import Derived.OpenShut
import Derived.Stop.Joined
import Derived.SevenTiedAt
import Derived.Test.YteehaobohaecmaaDoorMO3
set_option linter.unusedSimpArgs false
set_option linter.unusedVariables false
namespace Go.Proofs.YteehaobohaecmaaDoor
open Go Go.Proofs
theorem law5_pure (f g h:Fm) (b:Bool):PureC Tryd.prog 5 [(V.agg [(iV (f.op)),(iV (f.arg)),(V.sl (List.map cF (f.kids))),(iV (g.op)),(iV (g.arg)),(V.sl (List.map cF (g.kids))),(iV (h.op)),(iV (h.arg)),(V.sl (List.map cF (h.kids))),(V.bool b)])] (V.bool true):=by
 refine pW Tryd.func5 s5_ok fun hB=>?_
 unfold s5
 dsimp only
 refine W_r (R_box (i:=1) (n:=0) (m:=10) (cs:=[(iV (f.op)),(iV (f.arg)),(V.sl (List.map cF (f.kids))),(iV (g.op)),(iV (g.arg)),(V.sl (List.map cF (g.kids))),(iV (h.op)),(iV (h.arg)),(V.sl (List.map cF (h.kids))),(V.bool b)]) rfl (congrArg Blk.ver rfl) rfl rfl rfl (R_mv rfl (R_e (W_d (by exact (lateC rfl (lateC rfl (lateC rfl lateN)))) (R_fk rfl rfl (R_lk rfl rfl rfl rfl (R_fk rfl rfl ?_)))))))
 refine R_lk rfl rfl rfl rfl (R_fk rfl rfl (R_lk rfl rfl rfl rfl (R_fk rfl rfl (R_lk rfl rfl rfl rfl (R_alloc (i:=3) (n:=0) (m:=3) rfl (congrArg Blk.ver rfl) rfl (R_alloc (i:=4) (n:=0) (m:=3) rfl (congrArg Blk.ver rfl) rfl (R_alloc (i:=5) (n:=0) (m:=3) rfl (congrArg Blk.ver rfl) rfl ?_)))))))
 refine R_sk rfl rfl rfl rfl rfl rfl rfl rfl rfl (R_sk rfl rfl rfl rfl rfl rfl rfl rfl rfl (R_sk rfl rfl rfl rfl rfl rfl rfl rfl rfl (R_mv rfl (R_e (W_seq_seq ?_)))))
 refine W_seq_regc (fun T H=>T 3=(V.mp 3 1 0 0)∧T 4=(V.mp 4 1 0 0)∧T 5=(V.mp 5 1 0 0)∧T 6=(V.bool b)∧T 54=(V.bool (decide (((((((12:Int) < (szm f ((12:Int))))∨((12:Int) < (szm g ((12:Int)))))∨((12:Int) < (szm h ((12:Int)))))∨((fval f)≠(0:Int)))∨((fval g)≠(0:Int)))∨((fval h)≠(0:Int)))))∧H 1=(bk 1 52 10 [[(iV (f.op)),(iV (f.arg)),(V.sl (List.map cF (f.kids))),(iV (g.op)),(iV (g.arg)),(V.sl (List.map cF (g.kids))),(iV (h.op)),(iV (h.arg)),(V.sl (List.map cF (h.kids))),(V.bool b)]])∧H 3=(bk 1 24 3 [[(iV (f.op)),(iV (f.arg)),(V.sl (List.map cF (f.kids)))]])∧H 4=(bk 1 24 3 [[(iV (g.op)),(iV (g.arg)),(V.sl (List.map cF (g.kids)))]])∧H 5=(bk 1 24 3 [[(iV (h.op)),(iV (h.arg)),(V.sl (List.map cF (h.kids)))]])∧H 9=(⟨0,false,false,0,0,[]⟩:Blk)∧H 11=(⟨0,false,false,0,0,[]⟩:Blk)∧H 13=(⟨0,false,false,0,0,[]⟩:Blk)∧H 15=(⟨0,false,false,0,0,[]⟩:Blk)∧H 17=(⟨0,false,false,0,0,[]⟩:Blk)∧True) ?_ ?_
 ·
  refine R_lk rfl rfl rfl rfl (R_callk (size_pure f ((12:Int)) (by decide)) rfl (R_gtr rfl rfl (R_mv rfl ?_)))
  refine Ops_seg 4 (fun T H=>T 3=(V.mp 3 1 0 0)∧T 4=(V.mp 4 1 0 0)∧T 5=(V.mp 5 1 0 0)∧T 6=(V.bool b)∧T 34=(V.bool (decide (((12:Int) < (szm f ((12:Int))))∨((12:Int) < (szm g ((12:Int)))))))∧H 1=(bk 1 52 10 [[(iV (f.op)),(iV (f.arg)),(V.sl (List.map cF (f.kids))),(iV (g.op)),(iV (g.arg)),(V.sl (List.map cF (g.kids))),(iV (h.op)),(iV (h.arg)),(V.sl (List.map cF (h.kids))),(V.bool b)]])∧H 3=(bk 1 24 3 [[(iV (f.op)),(iV (f.arg)),(V.sl (List.map cF (f.kids)))]])∧H 4=(bk 1 24 3 [[(iV (g.op)),(iV (g.arg)),(V.sl (List.map cF (g.kids)))]])∧H 5=(bk 1 24 3 [[(iV (h.op)),(iV (h.arg)),(V.sl (List.map cF (h.kids)))]])∧H 9=(⟨0,false,false,0,0,[]⟩:Blk)∧H 11=(⟨0,false,false,0,0,[]⟩:Blk)∧H 13=(⟨0,false,false,0,0,[]⟩:Blk)∧H 15=(⟨0,false,false,0,0,[]⟩:Blk)∧H 17=(⟨0,false,false,0,0,[]⟩:Blk)∧True) ?_ ?_
  ·
   by_cases g1:(12:Int) < (szm f ((12:Int)))
   ·
    refine G_n (edT g1 rfl) (G_n (edT g1 rfl) (G_n (edT g1 rfl) (R_pickT (edT g1 rfl) rfl ?_)))
    exact ⟨rfl,rfl,rfl,rfl,(dec_orT g1),rfl,rfl,rfl,rfl,rfl,rfl,rfl,rfl,rfl,trivial⟩
   ·
    refine G_yes (edF g1 rfl) (R_lk rfl rfl rfl rfl (G_yes (edF g1 rfl) (R_callk (size_pure g ((12:Int)) (by decide)) rfl (G_yes (edF g1 rfl) (R_gtr rfl rfl (R_pickF (edF g1 rfl) rfl ?_))))))
    exact ⟨rfl,rfl,rfl,rfl,(dec_orF g1),rfl,rfl,rfl,rfl,rfl,rfl,rfl,rfl,rfl,trivial⟩
  intro T H ⟨t3,t4,t5,t6,t34,h1,h3,h4,h5,h9,h11,h13,h15,h17,_⟩
  refine R_mv t34 ?_
  refine Ops_seg 4 (fun T H=>T 3=(V.mp 3 1 0 0)∧T 4=(V.mp 4 1 0 0)∧T 5=(V.mp 5 1 0 0)∧T 6=(V.bool b)∧T 39=(V.bool (decide ((((12:Int) < (szm f ((12:Int))))∨((12:Int) < (szm g ((12:Int)))))∨((12:Int) < (szm h ((12:Int)))))))∧H 1=(bk 1 52 10 [[(iV (f.op)),(iV (f.arg)),(V.sl (List.map cF (f.kids))),(iV (g.op)),(iV (g.arg)),(V.sl (List.map cF (g.kids))),(iV (h.op)),(iV (h.arg)),(V.sl (List.map cF (h.kids))),(V.bool b)]])∧H 3=(bk 1 24 3 [[(iV (f.op)),(iV (f.arg)),(V.sl (List.map cF (f.kids)))]])∧H 4=(bk 1 24 3 [[(iV (g.op)),(iV (g.arg)),(V.sl (List.map cF (g.kids)))]])∧H 5=(bk 1 24 3 [[(iV (h.op)),(iV (h.arg)),(V.sl (List.map cF (h.kids)))]])∧H 9=(⟨0,false,false,0,0,[]⟩:Blk)∧H 11=(⟨0,false,false,0,0,[]⟩:Blk)∧H 13=(⟨0,false,false,0,0,[]⟩:Blk)∧H 15=(⟨0,false,false,0,0,[]⟩:Blk)∧H 17=(⟨0,false,false,0,0,[]⟩:Blk)∧True) ?_ ?_
  ·
   by_cases g2:((12:Int) < (szm f ((12:Int))))∨((12:Int) < (szm g ((12:Int))))
   ·
    refine G_n (edT g2 rfl) (G_n (edT g2 rfl) (G_n (edT g2 rfl) (R_pickT (edT g2 rfl) rfl ?_)))
    exact ⟨t3,t4,t5,t6,(dec_orT g2),h1,h3,h4,h5,h9,h11,h13,h15,h17,trivial⟩
   ·
    refine G_yes (edF g2 rfl) (R_lk t5 h5 rfl rfl (G_yes (edF g2 rfl) (R_callk (size_pure h ((12:Int)) (by decide)) rfl (G_yes (edF g2 rfl) (R_gtr rfl rfl (R_pickF (edF g2 rfl) rfl ?_))))))
    exact ⟨t3,t4,t5,t6,(dec_orF g2),h1,h3,h4,h5,h9,h11,h13,h15,h17,trivial⟩
  intro T H ⟨t3,t4,t5,t6,t39,h1,h3,h4,h5,h9,h11,h13,h15,h17,_⟩
  refine R_mv t39 ?_
  refine Ops_seg 4 (fun T H=>T 3=(V.mp 3 1 0 0)∧T 4=(V.mp 4 1 0 0)∧T 5=(V.mp 5 1 0 0)∧T 6=(V.bool b)∧T 44=(V.bool (decide (((((12:Int) < (szm f ((12:Int))))∨((12:Int) < (szm g ((12:Int)))))∨((12:Int) < (szm h ((12:Int)))))∨((fval f)≠(0:Int)))))∧H 1=(bk 1 52 10 [[(iV (f.op)),(iV (f.arg)),(V.sl (List.map cF (f.kids))),(iV (g.op)),(iV (g.arg)),(V.sl (List.map cF (g.kids))),(iV (h.op)),(iV (h.arg)),(V.sl (List.map cF (h.kids))),(V.bool b)]])∧H 3=(bk 1 24 3 [[(iV (f.op)),(iV (f.arg)),(V.sl (List.map cF (f.kids)))]])∧H 4=(bk 1 24 3 [[(iV (g.op)),(iV (g.arg)),(V.sl (List.map cF (g.kids)))]])∧H 5=(bk 1 24 3 [[(iV (h.op)),(iV (h.arg)),(V.sl (List.map cF (h.kids)))]])∧H 9=(⟨0,false,false,0,0,[]⟩:Blk)∧H 11=(⟨0,false,false,0,0,[]⟩:Blk)∧H 13=(⟨0,false,false,0,0,[]⟩:Blk)∧H 15=(⟨0,false,false,0,0,[]⟩:Blk)∧H 17=(⟨0,false,false,0,0,[]⟩:Blk)∧True) ?_ ?_
  ·
   by_cases g3:(((12:Int) < (szm f ((12:Int))))∨((12:Int) < (szm g ((12:Int)))))∨((12:Int) < (szm h ((12:Int))))
   ·
    refine G_n (edT g3 rfl) (G_n (edT g3 rfl) (G_n (edT g3 rfl) (R_pickT (edT g3 rfl) rfl ?_)))
    exact ⟨t3,t4,t5,t6,(dec_orT g3),h1,h3,h4,h5,h9,h11,h13,h15,h17,trivial⟩
   ·
    refine G_yes (edF g3 rfl) (R_lk t3 h3 rfl rfl (G_yes (edF g3 rfl) (R_callk (rfvalid_pure f) rfl (G_yes (edF g3 rfl) (R_neq rfl rfl (R_pickF (edF g3 rfl) rfl ?_))))))
    exact ⟨t3,t4,t5,t6,(dec_orF g3),h1,h3,h4,h5,h9,h11,h13,h15,h17,trivial⟩
  intro T H ⟨t3,t4,t5,t6,t44,h1,h3,h4,h5,h9,h11,h13,h15,h17,_⟩
  refine R_mv t44 ?_
  refine Ops_seg 4 (fun T H=>T 3=(V.mp 3 1 0 0)∧T 4=(V.mp 4 1 0 0)∧T 5=(V.mp 5 1 0 0)∧T 6=(V.bool b)∧T 49=(V.bool (decide ((((((12:Int) < (szm f ((12:Int))))∨((12:Int) < (szm g ((12:Int)))))∨((12:Int) < (szm h ((12:Int)))))∨((fval f)≠(0:Int)))∨((fval g)≠(0:Int)))))∧H 1=(bk 1 52 10 [[(iV (f.op)),(iV (f.arg)),(V.sl (List.map cF (f.kids))),(iV (g.op)),(iV (g.arg)),(V.sl (List.map cF (g.kids))),(iV (h.op)),(iV (h.arg)),(V.sl (List.map cF (h.kids))),(V.bool b)]])∧H 3=(bk 1 24 3 [[(iV (f.op)),(iV (f.arg)),(V.sl (List.map cF (f.kids)))]])∧H 4=(bk 1 24 3 [[(iV (g.op)),(iV (g.arg)),(V.sl (List.map cF (g.kids)))]])∧H 5=(bk 1 24 3 [[(iV (h.op)),(iV (h.arg)),(V.sl (List.map cF (h.kids)))]])∧H 9=(⟨0,false,false,0,0,[]⟩:Blk)∧H 11=(⟨0,false,false,0,0,[]⟩:Blk)∧H 13=(⟨0,false,false,0,0,[]⟩:Blk)∧H 15=(⟨0,false,false,0,0,[]⟩:Blk)∧H 17=(⟨0,false,false,0,0,[]⟩:Blk)∧True) ?_ ?_
  ·
   by_cases g4:((((12:Int) < (szm f ((12:Int))))∨((12:Int) < (szm g ((12:Int)))))∨((12:Int) < (szm h ((12:Int)))))∨((fval f)≠(0:Int))
   ·
    refine G_n (edT g4 rfl) (G_n (edT g4 rfl) (G_n (edT g4 rfl) (R_pickT (edT g4 rfl) rfl ?_)))
    exact ⟨t3,t4,t5,t6,(dec_orT g4),h1,h3,h4,h5,h9,h11,h13,h15,h17,trivial⟩
   ·
    refine G_yes (edF g4 rfl) (R_lk t4 h4 rfl rfl (G_yes (edF g4 rfl) (R_callk (rfvalid_pure g) rfl (G_yes (edF g4 rfl) (R_neq rfl rfl (R_pickF (edF g4 rfl) rfl ?_))))))
    exact ⟨t3,t4,t5,t6,(dec_orF g4),h1,h3,h4,h5,h9,h11,h13,h15,h17,trivial⟩
  intro T H ⟨t3,t4,t5,t6,t49,h1,h3,h4,h5,h9,h11,h13,h15,h17,_⟩
  refine R_mv t49 ?_
  refine Ops_seg 4 (fun T H=>T 3=(V.mp 3 1 0 0)∧T 4=(V.mp 4 1 0 0)∧T 5=(V.mp 5 1 0 0)∧T 6=(V.bool b)∧T 54=(V.bool (decide (((((((12:Int) < (szm f ((12:Int))))∨((12:Int) < (szm g ((12:Int)))))∨((12:Int) < (szm h ((12:Int)))))∨((fval f)≠(0:Int)))∨((fval g)≠(0:Int)))∨((fval h)≠(0:Int)))))∧H 1=(bk 1 52 10 [[(iV (f.op)),(iV (f.arg)),(V.sl (List.map cF (f.kids))),(iV (g.op)),(iV (g.arg)),(V.sl (List.map cF (g.kids))),(iV (h.op)),(iV (h.arg)),(V.sl (List.map cF (h.kids))),(V.bool b)]])∧H 3=(bk 1 24 3 [[(iV (f.op)),(iV (f.arg)),(V.sl (List.map cF (f.kids)))]])∧H 4=(bk 1 24 3 [[(iV (g.op)),(iV (g.arg)),(V.sl (List.map cF (g.kids)))]])∧H 5=(bk 1 24 3 [[(iV (h.op)),(iV (h.arg)),(V.sl (List.map cF (h.kids)))]])∧H 9=(⟨0,false,false,0,0,[]⟩:Blk)∧H 11=(⟨0,false,false,0,0,[]⟩:Blk)∧H 13=(⟨0,false,false,0,0,[]⟩:Blk)∧H 15=(⟨0,false,false,0,0,[]⟩:Blk)∧H 17=(⟨0,false,false,0,0,[]⟩:Blk)∧True) ?_ ?_
  ·
   by_cases g5:(((((12:Int) < (szm f ((12:Int))))∨((12:Int) < (szm g ((12:Int)))))∨((12:Int) < (szm h ((12:Int)))))∨((fval f)≠(0:Int)))∨((fval g)≠(0:Int))
   ·
    refine G_n (edT g5 rfl) (G_n (edT g5 rfl) (G_n (edT g5 rfl) (R_pickT (edT g5 rfl) rfl ?_)))
    exact ⟨t3,t4,t5,t6,(dec_orT g5),h1,h3,h4,h5,h9,h11,h13,h15,h17,trivial⟩
   ·
    refine G_yes (edF g5 rfl) (R_lk t5 h5 rfl rfl (G_yes (edF g5 rfl) (R_callk (rfvalid_pure h) rfl (G_yes (edF g5 rfl) (R_neq rfl rfl (R_pickF (edF g5 rfl) rfl ?_))))))
    exact ⟨t3,t4,t5,t6,(dec_orF g5),h1,h3,h4,h5,h9,h11,h13,h15,h17,trivial⟩
  intro T H ⟨t3,t4,t5,t6,t54,h1,h3,h4,h5,h9,h11,h13,h15,h17,_⟩
  exact R_nil ⟨t3,t4,t5,t6,t54,h1,h3,h4,h5,h9,h11,h13,h15,h17,trivial⟩
 intro T H ⟨t3,t4,t5,t6,t54,h1,h3,h4,h5,h9,h11,h13,h15,h17,_⟩
 refine W_seq_if t54 (fun c6=>?_) fun c6=>?_
 ·
  refine W_seq_seq (W_r (R_callk (aw46_pure) rfl (R_mv rfl (R_e (W_seq_ret ?_)))))
  refine Ret_1 (@rfl V (V.bool true)) (fz_canon (by simp) rfl)
 have v1:fval f=0:=by omega
 have v2:fval g=0:=by omega
 have v3:fval h=0:=by omega
 have z1:=szm_sz (f:=f) (m:=12) (by omega)
 have z2:=szm_sz (f:=g) (m:=12) (by omega)
 have z3:=szm_sz (f:=h) (m:=12) (by omega)
 refine W_seq_skip (W_r (R_mv rfl (R_mv rfl (R_e (W_seq_seq (W_r (R_mv t6 ?_)))))))
 refine R_e ?_
 refine W_seq_ifb rfl (fun c7=>?_) (fun c7=>?_)
 ·
  have od:=ordr (f:=f) (g:=g) (h:=h) (p:=6) (d:=5) (.inr ⟨rfl,rfl⟩) v1 v2 v3 (by omega) (by omega) (by omega)
  refine W_seq_seq (W_r (R_mv rfl (R_e (W_r (R_mv rfl (R_e (W_r ?_)))))))
  refine R_mv rfl (R_lk t3 h3 rfl rfl (R_lk t4 h4 rfl rfl (R_lk t5 h5 rfl rfl (R_bslice rfl rfl (R_callk (lnode_pure ((6:Int)) ((0:Int)) ([f,g,h])) (evcons rfl (evcons rfl (evcons (sl_F3 (x:=f) (y:=g) (z:=h) rfl) evnil))) (R_callk (simplify_pure (⟨((((6:Int)))),((((0:Int)))),(([f,g,h]))⟩:Fm)) rfl (R_mv rfl ?_)))))))
  refine R_ext rfl rfl (R_ext rfl rfl (R_alloc (i:=9) (n:=0) (m:=3) rfl (congrArg Blk.ver h9) rfl (R_sk rfl rfl rfl rfl rfl rfl rfl rfl rfl (R_mv rfl (R_e (W_d (by exact (lateC (congrArg Blk.live h11) lateN)) (R_mv rfl ?_)))))))
  refine R_lk t5 h5 rfl rfl (R_mv rfl (R_lk t4 h4 rfl rfl (R_lk t3 h3 rfl rfl (R_lk t4 h4 rfl rfl (R_bslice rfl rfl (R_callk (lnode_pure ((6:Int)) ((0:Int)) ([g,f,g])) (evcons rfl (evcons rfl (evcons (sl_F3 (x:=g) (y:=f) (z:=g) rfl) evnil))) (R_bslice rfl rfl ?_)))))))
  refine R_callk (lnode_pure ((6:Int)) ((0:Int)) ([h,(Fm.nd (6:Int) (0:Int) [g,f,g])])) (evcons rfl (evcons rfl (evcons (sl_F2 (x:=h) (y:=((Fm.nd (6:Int) (0:Int) [g,f,g]))) rfl) evnil))) (R_callk (simplify_pure (⟨((((6:Int)))),((((0:Int)))),(([h,(Fm.nd (6:Int) (0:Int) [g,f,g])]))⟩:Fm)) rfl (R_mv rfl (R_ext rfl rfl (R_ext rfl rfl (R_alloc (i:=11) (n:=0) (m:=3) rfl (congrArg Blk.ver h11) rfl (R_sk rfl rfl rfl rfl rfl rfl rfl rfl rfl (R_mv rfl ?_)))))))
  refine R_e ?_
  refine W_seq_dregc (fun T H=>T 3=(V.mp 3 1 0 0)∧T 4=(V.mp 4 1 0 0)∧T 7=(iV (6:Int))∧T 8=(iV (5:Int))∧T 9=(V.mp 9 1 0 0)∧T 10=(iV ((simp_ (⟨((((6:Int)))),((((0:Int)))),(([f,g,h]))⟩:Fm)).2))∧T 11=(V.mp 11 1 0 0)∧T 12=(iV ((simp_ (⟨((((6:Int)))),((((0:Int)))),(([h,(Fm.nd (6:Int) (0:Int) [g,f,g])]))⟩:Fm)).2))∧T 13=(V.mp 13 1 0 0)∧T 14=(iV ((simp_ (⟨((((6:Int)))),((((0:Int)))),(([(Fm.nd (6:Int) (0:Int) [f,h]),g,(Fm.nd (4:Int) (0:Int) [(Fm.nd (4:Int) (0:Int) [h])])]))⟩:Fm)).2))∧H 1=(bk 1 52 10 [[(iV (f.op)),(iV (f.arg)),(V.sl (List.map cF (f.kids))),(iV (g.op)),(iV (g.arg)),(V.sl (List.map cF (g.kids))),(iV (h.op)),(iV (h.arg)),(V.sl (List.map cF (h.kids))),(V.bool b)]])∧H 3=(bk 1 24 3 [[(iV (f.op)),(iV (f.arg)),(V.sl (List.map cF (f.kids)))]])∧H 4=(bk 1 24 3 [[(iV (g.op)),(iV (g.arg)),(V.sl (List.map cF (g.kids)))]])∧H 5=(bk 1 24 3 [[(iV (h.op)),(iV (h.arg)),(V.sl (List.map cF (h.kids)))]])∧H 9=(bk 1 24 3 [[(iV ((simp_ (⟨((((6:Int)))),((((0:Int)))),(([f,g,h]))⟩:Fm)).1.op)),(iV ((simp_ (⟨((((6:Int)))),((((0:Int)))),(([f,g,h]))⟩:Fm)).1.arg)),(V.sl (List.map cF ((simp_ (⟨((((6:Int)))),((((0:Int)))),(([f,g,h]))⟩:Fm)).1.kids)))]])∧H 11=(bk 1 24 3 [[(iV ((simp_ (⟨((((6:Int)))),((((0:Int)))),(([h,(Fm.nd (6:Int) (0:Int) [g,f,g])]))⟩:Fm)).1.op)),(iV ((simp_ (⟨((((6:Int)))),((((0:Int)))),(([h,(Fm.nd (6:Int) (0:Int) [g,f,g])]))⟩:Fm)).1.arg)),(V.sl (List.map cF ((simp_ (⟨((((6:Int)))),((((0:Int)))),(([h,(Fm.nd (6:Int) (0:Int) [g,f,g])]))⟩:Fm)).1.kids)))]])∧H 13=(bk 1 24 3 [[(iV ((simp_ (⟨((((6:Int)))),((((0:Int)))),(([(Fm.nd (6:Int) (0:Int) [f,h]),g,(Fm.nd (4:Int) (0:Int) [(Fm.nd (4:Int) (0:Int) [h])])]))⟩:Fm)).1.op)),(iV ((simp_ (⟨((((6:Int)))),((((0:Int)))),(([(Fm.nd (6:Int) (0:Int) [f,h]),g,(Fm.nd (4:Int) (0:Int) [(Fm.nd (4:Int) (0:Int) [h])])]))⟩:Fm)).1.arg)),(V.sl (List.map cF ((simp_ (⟨((((6:Int)))),((((0:Int)))),(([(Fm.nd (6:Int) (0:Int) [f,h]),g,(Fm.nd (4:Int) (0:Int) [(Fm.nd (4:Int) (0:Int) [h])])]))⟩:Fm)).1.kids)))]])∧H 15=(⟨0,false,false,0,0,[]⟩:Blk)∧H 17=(⟨0,false,false,0,0,[]⟩:Blk)∧True) (by exact (lateC (congrArg Blk.live h13) lateN)) ?_ ?_
  ·
   refine R_mv rfl (R_mv rfl (R_lk t3 h3 rfl rfl (R_lk t5 h5 rfl rfl (R_bslice rfl rfl (R_callk (lnode_pure ((6:Int)) ((0:Int)) ([f,h])) (evcons rfl (evcons rfl (evcons (sl_F2 (x:=f) (y:=h) rfl) evnil))) (R_lk t4 h4 rfl rfl (R_lk t5 h5 rfl rfl ?_)))))))
   refine R_bslice rfl rfl (R_callk (lnode_pure ((4:Int)) ((0:Int)) ([h])) (evcons rfl (evcons rfl (evcons (sl_F1 (x:=h) rfl) evnil))) (R_bslice rfl rfl (R_callk (lnode_pure ((4:Int)) ((0:Int)) ([(Fm.nd (4:Int) (0:Int) [h])])) (evcons rfl (evcons rfl (evcons (sl_F1 (x:=((Fm.nd (4:Int) (0:Int) [h]))) rfl) evnil))) (R_bslice rfl rfl (R_callk (lnode_pure ((6:Int)) ((0:Int)) ([(Fm.nd (6:Int) (0:Int) [f,h]),g,(Fm.nd (4:Int) (0:Int) [(Fm.nd (4:Int) (0:Int) [h])])])) (evcons rfl (evcons rfl (evcons (sl_F3 (x:=((Fm.nd (6:Int) (0:Int) [f,h]))) (y:=g) (z:=((Fm.nd (4:Int) (0:Int) [(Fm.nd (4:Int) (0:Int) [h])]))) rfl) evnil))) (R_callk (simplify_pure (⟨((((6:Int)))),((((0:Int)))),(([(Fm.nd (6:Int) (0:Int) [f,h]),g,(Fm.nd (4:Int) (0:Int) [(Fm.nd (4:Int) (0:Int) [h])])]))⟩:Fm)) rfl (R_mv rfl ?_)))))))
   refine R_ext rfl rfl (R_ext rfl rfl (R_alloc (i:=13) (n:=0) (m:=3) rfl (congrArg Blk.ver h13) rfl (R_sk rfl rfl rfl rfl rfl rfl rfl rfl rfl (R_mv rfl ?_))))
   exact R_nil ⟨t3,t4,rfl,rfl,rfl,rfl,rfl,rfl,rfl,rfl,h1,h3,h4,h5,rfl,rfl,rfl,h15,h17,trivial⟩
  intro T H ⟨t3,t4,t7,t8,t9,t10,t11,t12,t13,t14,h1,h3,h4,h5,h9,h11,h13,h15,h17,_⟩
  refine W_d (by exact (lateC (congrArg Blk.live h15) lateN)) (R_mv t7 (R_lk t3 h3 rfl rfl (R_mv t8 (R_lk t3 h3 rfl rfl (R_lk t4 h4 rfl rfl (R_bslice rfl rfl (R_callk (lnode_pure ((5:Int)) ((0:Int)) ([f,g])) (evcons rfl (evcons rfl (evcons (sl_F2 (x:=f) (y:=g) rfl) evnil))) ?_)))))))
  refine R_bslice rfl rfl (R_callk (lnode_pure ((6:Int)) ((0:Int)) ([f,(Fm.nd (5:Int) (0:Int) [f,g])])) (evcons rfl (evcons rfl (evcons (sl_F2 (x:=f) (y:=((Fm.nd (5:Int) (0:Int) [f,g]))) rfl) evnil))) (R_callk (simplify_pure (⟨((((6:Int)))),((((0:Int)))),(([f,(Fm.nd (5:Int) (0:Int) [f,g])]))⟩:Fm)) rfl (R_mv rfl (R_ext rfl rfl (R_ext rfl rfl (R_alloc (i:=15) (n:=0) (m:=3) rfl (congrArg Blk.ver h15) rfl (R_sk rfl rfl rfl rfl rfl rfl rfl rfl rfl ?_)))))))
  refine R_mv rfl (R_e (W_r (R_lk t3 h3 rfl rfl (R_callk (simplify_pure f) rfl (R_mv rfl (R_ext rfl rfl (R_ext rfl rfl ?_)))))))
  refine R_alloc (i:=17) (n:=0) (m:=3) rfl (congrArg Blk.ver h17) rfl (R_sk rfl rfl rfl rfl rfl rfl rfl rfl rfl (R_mv rfl (R_e (W_seq_seq ?_))))
  refine W_seq_regc (fun T H=>T 9=(V.mp 9 1 0 0)∧T 10=(iV ((simp_ (⟨((((6:Int)))),((((0:Int)))),(([f,g,h]))⟩:Fm)).2))∧T 11=(V.mp 11 1 0 0)∧T 12=(iV ((simp_ (⟨((((6:Int)))),((((0:Int)))),(([h,(Fm.nd (6:Int) (0:Int) [g,f,g])]))⟩:Fm)).2))∧T 13=(V.mp 13 1 0 0)∧T 14=(iV ((simp_ (⟨((((6:Int)))),((((0:Int)))),(([(Fm.nd (6:Int) (0:Int) [f,h]),g,(Fm.nd (4:Int) (0:Int) [(Fm.nd (4:Int) (0:Int) [h])])]))⟩:Fm)).2))∧T 15=(V.mp 15 1 0 0)∧T 16=(iV ((simp_ (⟨((((6:Int)))),((((0:Int)))),(([f,(Fm.nd (5:Int) (0:Int) [f,g])]))⟩:Fm)).2))∧T 17=(V.mp 17 1 0 0)∧T 18=(iV ((simp_ f).2))∧T 134=(V.bool (decide (((((((simp_ (⟨((((6:Int)))),((((0:Int)))),(([f,g,h]))⟩:Fm)).2)≠(0:Int))∨(((simp_ (⟨((((6:Int)))),((((0:Int)))),(([h,(Fm.nd (6:Int) (0:Int) [g,f,g])]))⟩:Fm)).2)≠(0:Int)))∨(((simp_ (⟨((((6:Int)))),((((0:Int)))),(([(Fm.nd (6:Int) (0:Int) [f,h]),g,(Fm.nd (4:Int) (0:Int) [(Fm.nd (4:Int) (0:Int) [h])])]))⟩:Fm)).2)≠(0:Int)))∨(((simp_ (⟨((((6:Int)))),((((0:Int)))),(([f,(Fm.nd (5:Int) (0:Int) [f,g])]))⟩:Fm)).2)≠(0:Int)))∨(((simp_ f).2)≠(0:Int)))))∧H 1=(bk 1 52 10 [[(iV (f.op)),(iV (f.arg)),(V.sl (List.map cF (f.kids))),(iV (g.op)),(iV (g.arg)),(V.sl (List.map cF (g.kids))),(iV (h.op)),(iV (h.arg)),(V.sl (List.map cF (h.kids))),(V.bool b)]])∧H 3=(bk 1 24 3 [[(iV (f.op)),(iV (f.arg)),(V.sl (List.map cF (f.kids)))]])∧H 4=(bk 1 24 3 [[(iV (g.op)),(iV (g.arg)),(V.sl (List.map cF (g.kids)))]])∧H 5=(bk 1 24 3 [[(iV (h.op)),(iV (h.arg)),(V.sl (List.map cF (h.kids)))]])∧H 9=(bk 1 24 3 [[(iV ((simp_ (⟨((((6:Int)))),((((0:Int)))),(([f,g,h]))⟩:Fm)).1.op)),(iV ((simp_ (⟨((((6:Int)))),((((0:Int)))),(([f,g,h]))⟩:Fm)).1.arg)),(V.sl (List.map cF ((simp_ (⟨((((6:Int)))),((((0:Int)))),(([f,g,h]))⟩:Fm)).1.kids)))]])∧H 11=(bk 1 24 3 [[(iV ((simp_ (⟨((((6:Int)))),((((0:Int)))),(([h,(Fm.nd (6:Int) (0:Int) [g,f,g])]))⟩:Fm)).1.op)),(iV ((simp_ (⟨((((6:Int)))),((((0:Int)))),(([h,(Fm.nd (6:Int) (0:Int) [g,f,g])]))⟩:Fm)).1.arg)),(V.sl (List.map cF ((simp_ (⟨((((6:Int)))),((((0:Int)))),(([h,(Fm.nd (6:Int) (0:Int) [g,f,g])]))⟩:Fm)).1.kids)))]])∧H 13=(bk 1 24 3 [[(iV ((simp_ (⟨((((6:Int)))),((((0:Int)))),(([(Fm.nd (6:Int) (0:Int) [f,h]),g,(Fm.nd (4:Int) (0:Int) [(Fm.nd (4:Int) (0:Int) [h])])]))⟩:Fm)).1.op)),(iV ((simp_ (⟨((((6:Int)))),((((0:Int)))),(([(Fm.nd (6:Int) (0:Int) [f,h]),g,(Fm.nd (4:Int) (0:Int) [(Fm.nd (4:Int) (0:Int) [h])])]))⟩:Fm)).1.arg)),(V.sl (List.map cF ((simp_ (⟨((((6:Int)))),((((0:Int)))),(([(Fm.nd (6:Int) (0:Int) [f,h]),g,(Fm.nd (4:Int) (0:Int) [(Fm.nd (4:Int) (0:Int) [h])])]))⟩:Fm)).1.kids)))]])∧H 15=(bk 1 24 3 [[(iV ((simp_ (⟨((((6:Int)))),((((0:Int)))),(([f,(Fm.nd (5:Int) (0:Int) [f,g])]))⟩:Fm)).1.op)),(iV ((simp_ (⟨((((6:Int)))),((((0:Int)))),(([f,(Fm.nd (5:Int) (0:Int) [f,g])]))⟩:Fm)).1.arg)),(V.sl (List.map cF ((simp_ (⟨((((6:Int)))),((((0:Int)))),(([f,(Fm.nd (5:Int) (0:Int) [f,g])]))⟩:Fm)).1.kids)))]])∧H 17=(bk 1 24 3 [[(iV ((simp_ f).1.op)),(iV ((simp_ f).1.arg)),(V.sl (List.map cF ((simp_ f).1.kids)))]])∧True) ?_ ?_
  ·
   refine R_mv t10 (R_neq rfl rfl (R_mv rfl ?_))
   refine Ops_seg 3 (fun T H=>T 9=(V.mp 9 1 0 0)∧T 10=(iV ((simp_ (⟨((((6:Int)))),((((0:Int)))),(([f,g,h]))⟩:Fm)).2))∧T 11=(V.mp 11 1 0 0)∧T 12=(iV ((simp_ (⟨((((6:Int)))),((((0:Int)))),(([h,(Fm.nd (6:Int) (0:Int) [g,f,g])]))⟩:Fm)).2))∧T 13=(V.mp 13 1 0 0)∧T 14=(iV ((simp_ (⟨((((6:Int)))),((((0:Int)))),(([(Fm.nd (6:Int) (0:Int) [f,h]),g,(Fm.nd (4:Int) (0:Int) [(Fm.nd (4:Int) (0:Int) [h])])]))⟩:Fm)).2))∧T 15=(V.mp 15 1 0 0)∧T 16=(iV ((simp_ (⟨((((6:Int)))),((((0:Int)))),(([f,(Fm.nd (5:Int) (0:Int) [f,g])]))⟩:Fm)).2))∧T 17=(V.mp 17 1 0 0)∧T 18=(iV ((simp_ f).2))∧T 122=(V.bool (decide ((((simp_ (⟨((((6:Int)))),((((0:Int)))),(([f,g,h]))⟩:Fm)).2)≠(0:Int))∨(((simp_ (⟨((((6:Int)))),((((0:Int)))),(([h,(Fm.nd (6:Int) (0:Int) [g,f,g])]))⟩:Fm)).2)≠(0:Int)))))∧H 1=(bk 1 52 10 [[(iV (f.op)),(iV (f.arg)),(V.sl (List.map cF (f.kids))),(iV (g.op)),(iV (g.arg)),(V.sl (List.map cF (g.kids))),(iV (h.op)),(iV (h.arg)),(V.sl (List.map cF (h.kids))),(V.bool b)]])∧H 3=(bk 1 24 3 [[(iV (f.op)),(iV (f.arg)),(V.sl (List.map cF (f.kids)))]])∧H 4=(bk 1 24 3 [[(iV (g.op)),(iV (g.arg)),(V.sl (List.map cF (g.kids)))]])∧H 5=(bk 1 24 3 [[(iV (h.op)),(iV (h.arg)),(V.sl (List.map cF (h.kids)))]])∧H 9=(bk 1 24 3 [[(iV ((simp_ (⟨((((6:Int)))),((((0:Int)))),(([f,g,h]))⟩:Fm)).1.op)),(iV ((simp_ (⟨((((6:Int)))),((((0:Int)))),(([f,g,h]))⟩:Fm)).1.arg)),(V.sl (List.map cF ((simp_ (⟨((((6:Int)))),((((0:Int)))),(([f,g,h]))⟩:Fm)).1.kids)))]])∧H 11=(bk 1 24 3 [[(iV ((simp_ (⟨((((6:Int)))),((((0:Int)))),(([h,(Fm.nd (6:Int) (0:Int) [g,f,g])]))⟩:Fm)).1.op)),(iV ((simp_ (⟨((((6:Int)))),((((0:Int)))),(([h,(Fm.nd (6:Int) (0:Int) [g,f,g])]))⟩:Fm)).1.arg)),(V.sl (List.map cF ((simp_ (⟨((((6:Int)))),((((0:Int)))),(([h,(Fm.nd (6:Int) (0:Int) [g,f,g])]))⟩:Fm)).1.kids)))]])∧H 13=(bk 1 24 3 [[(iV ((simp_ (⟨((((6:Int)))),((((0:Int)))),(([(Fm.nd (6:Int) (0:Int) [f,h]),g,(Fm.nd (4:Int) (0:Int) [(Fm.nd (4:Int) (0:Int) [h])])]))⟩:Fm)).1.op)),(iV ((simp_ (⟨((((6:Int)))),((((0:Int)))),(([(Fm.nd (6:Int) (0:Int) [f,h]),g,(Fm.nd (4:Int) (0:Int) [(Fm.nd (4:Int) (0:Int) [h])])]))⟩:Fm)).1.arg)),(V.sl (List.map cF ((simp_ (⟨((((6:Int)))),((((0:Int)))),(([(Fm.nd (6:Int) (0:Int) [f,h]),g,(Fm.nd (4:Int) (0:Int) [(Fm.nd (4:Int) (0:Int) [h])])]))⟩:Fm)).1.kids)))]])∧H 15=(bk 1 24 3 [[(iV ((simp_ (⟨((((6:Int)))),((((0:Int)))),(([f,(Fm.nd (5:Int) (0:Int) [f,g])]))⟩:Fm)).1.op)),(iV ((simp_ (⟨((((6:Int)))),((((0:Int)))),(([f,(Fm.nd (5:Int) (0:Int) [f,g])]))⟩:Fm)).1.arg)),(V.sl (List.map cF ((simp_ (⟨((((6:Int)))),((((0:Int)))),(([f,(Fm.nd (5:Int) (0:Int) [f,g])]))⟩:Fm)).1.kids)))]])∧H 17=(bk 1 24 3 [[(iV ((simp_ f).1.op)),(iV ((simp_ f).1.arg)),(V.sl (List.map cF ((simp_ f).1.kids)))]])∧True) ?_ ?_
   ·
    by_cases g8:((simp_ (⟨((((6:Int)))),((((0:Int)))),(([f,g,h]))⟩:Fm)).2)≠(0:Int)
    ·
     refine G_n (edT g8 rfl) (G_n (edT g8 rfl) (R_pickT (edT g8 rfl) rfl ?_))
     exact ⟨t9,t10,t11,t12,t13,t14,rfl,rfl,rfl,rfl,(dec_orT g8),h1,h3,h4,h5,h9,h11,h13,rfl,rfl,trivial⟩
    ·
     refine G_yes (edF g8 rfl) (R_mv t12 (G_yes (edF g8 rfl) (R_neq rfl rfl (R_pickF (edF g8 rfl) rfl ?_))))
     exact ⟨t9,t10,t11,t12,t13,t14,rfl,rfl,rfl,rfl,(dec_orF g8),h1,h3,h4,h5,h9,h11,h13,rfl,rfl,trivial⟩
   intro T H ⟨t9,t10,t11,t12,t13,t14,t15,t16,t17,t18,t122,h1,h3,h4,h5,h9,h11,h13,h15,h17,_⟩
   refine R_mv t122 ?_
   refine Ops_seg 3 (fun T H=>T 9=(V.mp 9 1 0 0)∧T 10=(iV ((simp_ (⟨((((6:Int)))),((((0:Int)))),(([f,g,h]))⟩:Fm)).2))∧T 11=(V.mp 11 1 0 0)∧T 12=(iV ((simp_ (⟨((((6:Int)))),((((0:Int)))),(([h,(Fm.nd (6:Int) (0:Int) [g,f,g])]))⟩:Fm)).2))∧T 13=(V.mp 13 1 0 0)∧T 14=(iV ((simp_ (⟨((((6:Int)))),((((0:Int)))),(([(Fm.nd (6:Int) (0:Int) [f,h]),g,(Fm.nd (4:Int) (0:Int) [(Fm.nd (4:Int) (0:Int) [h])])]))⟩:Fm)).2))∧T 15=(V.mp 15 1 0 0)∧T 16=(iV ((simp_ (⟨((((6:Int)))),((((0:Int)))),(([f,(Fm.nd (5:Int) (0:Int) [f,g])]))⟩:Fm)).2))∧T 17=(V.mp 17 1 0 0)∧T 18=(iV ((simp_ f).2))∧T 126=(V.bool (decide (((((simp_ (⟨((((6:Int)))),((((0:Int)))),(([f,g,h]))⟩:Fm)).2)≠(0:Int))∨(((simp_ (⟨((((6:Int)))),((((0:Int)))),(([h,(Fm.nd (6:Int) (0:Int) [g,f,g])]))⟩:Fm)).2)≠(0:Int)))∨(((simp_ (⟨((((6:Int)))),((((0:Int)))),(([(Fm.nd (6:Int) (0:Int) [f,h]),g,(Fm.nd (4:Int) (0:Int) [(Fm.nd (4:Int) (0:Int) [h])])]))⟩:Fm)).2)≠(0:Int)))))∧H 1=(bk 1 52 10 [[(iV (f.op)),(iV (f.arg)),(V.sl (List.map cF (f.kids))),(iV (g.op)),(iV (g.arg)),(V.sl (List.map cF (g.kids))),(iV (h.op)),(iV (h.arg)),(V.sl (List.map cF (h.kids))),(V.bool b)]])∧H 3=(bk 1 24 3 [[(iV (f.op)),(iV (f.arg)),(V.sl (List.map cF (f.kids)))]])∧H 4=(bk 1 24 3 [[(iV (g.op)),(iV (g.arg)),(V.sl (List.map cF (g.kids)))]])∧H 5=(bk 1 24 3 [[(iV (h.op)),(iV (h.arg)),(V.sl (List.map cF (h.kids)))]])∧H 9=(bk 1 24 3 [[(iV ((simp_ (⟨((((6:Int)))),((((0:Int)))),(([f,g,h]))⟩:Fm)).1.op)),(iV ((simp_ (⟨((((6:Int)))),((((0:Int)))),(([f,g,h]))⟩:Fm)).1.arg)),(V.sl (List.map cF ((simp_ (⟨((((6:Int)))),((((0:Int)))),(([f,g,h]))⟩:Fm)).1.kids)))]])∧H 11=(bk 1 24 3 [[(iV ((simp_ (⟨((((6:Int)))),((((0:Int)))),(([h,(Fm.nd (6:Int) (0:Int) [g,f,g])]))⟩:Fm)).1.op)),(iV ((simp_ (⟨((((6:Int)))),((((0:Int)))),(([h,(Fm.nd (6:Int) (0:Int) [g,f,g])]))⟩:Fm)).1.arg)),(V.sl (List.map cF ((simp_ (⟨((((6:Int)))),((((0:Int)))),(([h,(Fm.nd (6:Int) (0:Int) [g,f,g])]))⟩:Fm)).1.kids)))]])∧H 13=(bk 1 24 3 [[(iV ((simp_ (⟨((((6:Int)))),((((0:Int)))),(([(Fm.nd (6:Int) (0:Int) [f,h]),g,(Fm.nd (4:Int) (0:Int) [(Fm.nd (4:Int) (0:Int) [h])])]))⟩:Fm)).1.op)),(iV ((simp_ (⟨((((6:Int)))),((((0:Int)))),(([(Fm.nd (6:Int) (0:Int) [f,h]),g,(Fm.nd (4:Int) (0:Int) [(Fm.nd (4:Int) (0:Int) [h])])]))⟩:Fm)).1.arg)),(V.sl (List.map cF ((simp_ (⟨((((6:Int)))),((((0:Int)))),(([(Fm.nd (6:Int) (0:Int) [f,h]),g,(Fm.nd (4:Int) (0:Int) [(Fm.nd (4:Int) (0:Int) [h])])]))⟩:Fm)).1.kids)))]])∧H 15=(bk 1 24 3 [[(iV ((simp_ (⟨((((6:Int)))),((((0:Int)))),(([f,(Fm.nd (5:Int) (0:Int) [f,g])]))⟩:Fm)).1.op)),(iV ((simp_ (⟨((((6:Int)))),((((0:Int)))),(([f,(Fm.nd (5:Int) (0:Int) [f,g])]))⟩:Fm)).1.arg)),(V.sl (List.map cF ((simp_ (⟨((((6:Int)))),((((0:Int)))),(([f,(Fm.nd (5:Int) (0:Int) [f,g])]))⟩:Fm)).1.kids)))]])∧H 17=(bk 1 24 3 [[(iV ((simp_ f).1.op)),(iV ((simp_ f).1.arg)),(V.sl (List.map cF ((simp_ f).1.kids)))]])∧True) ?_ ?_
   ·
    by_cases g9:(((simp_ (⟨((((6:Int)))),((((0:Int)))),(([f,g,h]))⟩:Fm)).2)≠(0:Int))∨(((simp_ (⟨((((6:Int)))),((((0:Int)))),(([h,(Fm.nd (6:Int) (0:Int) [g,f,g])]))⟩:Fm)).2)≠(0:Int))
    ·
     refine G_n (edT g9 rfl) (G_n (edT g9 rfl) (R_pickT (edT g9 rfl) rfl ?_))
     exact ⟨t9,t10,t11,t12,t13,t14,t15,t16,t17,t18,(dec_orT g9),h1,h3,h4,h5,h9,h11,h13,h15,h17,trivial⟩
    ·
     refine G_yes (edF g9 rfl) (R_mv t14 (G_yes (edF g9 rfl) (R_neq rfl rfl (R_pickF (edF g9 rfl) rfl ?_))))
     exact ⟨t9,t10,t11,t12,t13,t14,t15,t16,t17,t18,(dec_orF g9),h1,h3,h4,h5,h9,h11,h13,h15,h17,trivial⟩
   intro T H ⟨t9,t10,t11,t12,t13,t14,t15,t16,t17,t18,t126,h1,h3,h4,h5,h9,h11,h13,h15,h17,_⟩
   refine R_mv t126 ?_
   refine Ops_seg 3 (fun T H=>T 9=(V.mp 9 1 0 0)∧T 10=(iV ((simp_ (⟨((((6:Int)))),((((0:Int)))),(([f,g,h]))⟩:Fm)).2))∧T 11=(V.mp 11 1 0 0)∧T 12=(iV ((simp_ (⟨((((6:Int)))),((((0:Int)))),(([h,(Fm.nd (6:Int) (0:Int) [g,f,g])]))⟩:Fm)).2))∧T 13=(V.mp 13 1 0 0)∧T 14=(iV ((simp_ (⟨((((6:Int)))),((((0:Int)))),(([(Fm.nd (6:Int) (0:Int) [f,h]),g,(Fm.nd (4:Int) (0:Int) [(Fm.nd (4:Int) (0:Int) [h])])]))⟩:Fm)).2))∧T 15=(V.mp 15 1 0 0)∧T 16=(iV ((simp_ (⟨((((6:Int)))),((((0:Int)))),(([f,(Fm.nd (5:Int) (0:Int) [f,g])]))⟩:Fm)).2))∧T 17=(V.mp 17 1 0 0)∧T 18=(iV ((simp_ f).2))∧T 130=(V.bool (decide ((((((simp_ (⟨((((6:Int)))),((((0:Int)))),(([f,g,h]))⟩:Fm)).2)≠(0:Int))∨(((simp_ (⟨((((6:Int)))),((((0:Int)))),(([h,(Fm.nd (6:Int) (0:Int) [g,f,g])]))⟩:Fm)).2)≠(0:Int)))∨(((simp_ (⟨((((6:Int)))),((((0:Int)))),(([(Fm.nd (6:Int) (0:Int) [f,h]),g,(Fm.nd (4:Int) (0:Int) [(Fm.nd (4:Int) (0:Int) [h])])]))⟩:Fm)).2)≠(0:Int)))∨(((simp_ (⟨((((6:Int)))),((((0:Int)))),(([f,(Fm.nd (5:Int) (0:Int) [f,g])]))⟩:Fm)).2)≠(0:Int)))))∧H 1=(bk 1 52 10 [[(iV (f.op)),(iV (f.arg)),(V.sl (List.map cF (f.kids))),(iV (g.op)),(iV (g.arg)),(V.sl (List.map cF (g.kids))),(iV (h.op)),(iV (h.arg)),(V.sl (List.map cF (h.kids))),(V.bool b)]])∧H 3=(bk 1 24 3 [[(iV (f.op)),(iV (f.arg)),(V.sl (List.map cF (f.kids)))]])∧H 4=(bk 1 24 3 [[(iV (g.op)),(iV (g.arg)),(V.sl (List.map cF (g.kids)))]])∧H 5=(bk 1 24 3 [[(iV (h.op)),(iV (h.arg)),(V.sl (List.map cF (h.kids)))]])∧H 9=(bk 1 24 3 [[(iV ((simp_ (⟨((((6:Int)))),((((0:Int)))),(([f,g,h]))⟩:Fm)).1.op)),(iV ((simp_ (⟨((((6:Int)))),((((0:Int)))),(([f,g,h]))⟩:Fm)).1.arg)),(V.sl (List.map cF ((simp_ (⟨((((6:Int)))),((((0:Int)))),(([f,g,h]))⟩:Fm)).1.kids)))]])∧H 11=(bk 1 24 3 [[(iV ((simp_ (⟨((((6:Int)))),((((0:Int)))),(([h,(Fm.nd (6:Int) (0:Int) [g,f,g])]))⟩:Fm)).1.op)),(iV ((simp_ (⟨((((6:Int)))),((((0:Int)))),(([h,(Fm.nd (6:Int) (0:Int) [g,f,g])]))⟩:Fm)).1.arg)),(V.sl (List.map cF ((simp_ (⟨((((6:Int)))),((((0:Int)))),(([h,(Fm.nd (6:Int) (0:Int) [g,f,g])]))⟩:Fm)).1.kids)))]])∧H 13=(bk 1 24 3 [[(iV ((simp_ (⟨((((6:Int)))),((((0:Int)))),(([(Fm.nd (6:Int) (0:Int) [f,h]),g,(Fm.nd (4:Int) (0:Int) [(Fm.nd (4:Int) (0:Int) [h])])]))⟩:Fm)).1.op)),(iV ((simp_ (⟨((((6:Int)))),((((0:Int)))),(([(Fm.nd (6:Int) (0:Int) [f,h]),g,(Fm.nd (4:Int) (0:Int) [(Fm.nd (4:Int) (0:Int) [h])])]))⟩:Fm)).1.arg)),(V.sl (List.map cF ((simp_ (⟨((((6:Int)))),((((0:Int)))),(([(Fm.nd (6:Int) (0:Int) [f,h]),g,(Fm.nd (4:Int) (0:Int) [(Fm.nd (4:Int) (0:Int) [h])])]))⟩:Fm)).1.kids)))]])∧H 15=(bk 1 24 3 [[(iV ((simp_ (⟨((((6:Int)))),((((0:Int)))),(([f,(Fm.nd (5:Int) (0:Int) [f,g])]))⟩:Fm)).1.op)),(iV ((simp_ (⟨((((6:Int)))),((((0:Int)))),(([f,(Fm.nd (5:Int) (0:Int) [f,g])]))⟩:Fm)).1.arg)),(V.sl (List.map cF ((simp_ (⟨((((6:Int)))),((((0:Int)))),(([f,(Fm.nd (5:Int) (0:Int) [f,g])]))⟩:Fm)).1.kids)))]])∧H 17=(bk 1 24 3 [[(iV ((simp_ f).1.op)),(iV ((simp_ f).1.arg)),(V.sl (List.map cF ((simp_ f).1.kids)))]])∧True) ?_ ?_
   ·
    by_cases g10:((((simp_ (⟨((((6:Int)))),((((0:Int)))),(([f,g,h]))⟩:Fm)).2)≠(0:Int))∨(((simp_ (⟨((((6:Int)))),((((0:Int)))),(([h,(Fm.nd (6:Int) (0:Int) [g,f,g])]))⟩:Fm)).2)≠(0:Int)))∨(((simp_ (⟨((((6:Int)))),((((0:Int)))),(([(Fm.nd (6:Int) (0:Int) [f,h]),g,(Fm.nd (4:Int) (0:Int) [(Fm.nd (4:Int) (0:Int) [h])])]))⟩:Fm)).2)≠(0:Int))
    ·
     refine G_n (edT g10 rfl) (G_n (edT g10 rfl) (R_pickT (edT g10 rfl) rfl ?_))
     exact ⟨t9,t10,t11,t12,t13,t14,t15,t16,t17,t18,(dec_orT g10),h1,h3,h4,h5,h9,h11,h13,h15,h17,trivial⟩
    ·
     refine G_yes (edF g10 rfl) (R_mv t16 (G_yes (edF g10 rfl) (R_neq rfl rfl (R_pickF (edF g10 rfl) rfl ?_))))
     exact ⟨t9,t10,t11,t12,t13,t14,t15,t16,t17,t18,(dec_orF g10),h1,h3,h4,h5,h9,h11,h13,h15,h17,trivial⟩
   intro T H ⟨t9,t10,t11,t12,t13,t14,t15,t16,t17,t18,t130,h1,h3,h4,h5,h9,h11,h13,h15,h17,_⟩
   refine R_mv t130 ?_
   refine Ops_seg 3 (fun T H=>T 9=(V.mp 9 1 0 0)∧T 10=(iV ((simp_ (⟨((((6:Int)))),((((0:Int)))),(([f,g,h]))⟩:Fm)).2))∧T 11=(V.mp 11 1 0 0)∧T 12=(iV ((simp_ (⟨((((6:Int)))),((((0:Int)))),(([h,(Fm.nd (6:Int) (0:Int) [g,f,g])]))⟩:Fm)).2))∧T 13=(V.mp 13 1 0 0)∧T 14=(iV ((simp_ (⟨((((6:Int)))),((((0:Int)))),(([(Fm.nd (6:Int) (0:Int) [f,h]),g,(Fm.nd (4:Int) (0:Int) [(Fm.nd (4:Int) (0:Int) [h])])]))⟩:Fm)).2))∧T 15=(V.mp 15 1 0 0)∧T 16=(iV ((simp_ (⟨((((6:Int)))),((((0:Int)))),(([f,(Fm.nd (5:Int) (0:Int) [f,g])]))⟩:Fm)).2))∧T 17=(V.mp 17 1 0 0)∧T 18=(iV ((simp_ f).2))∧T 134=(V.bool (decide (((((((simp_ (⟨((((6:Int)))),((((0:Int)))),(([f,g,h]))⟩:Fm)).2)≠(0:Int))∨(((simp_ (⟨((((6:Int)))),((((0:Int)))),(([h,(Fm.nd (6:Int) (0:Int) [g,f,g])]))⟩:Fm)).2)≠(0:Int)))∨(((simp_ (⟨((((6:Int)))),((((0:Int)))),(([(Fm.nd (6:Int) (0:Int) [f,h]),g,(Fm.nd (4:Int) (0:Int) [(Fm.nd (4:Int) (0:Int) [h])])]))⟩:Fm)).2)≠(0:Int)))∨(((simp_ (⟨((((6:Int)))),((((0:Int)))),(([f,(Fm.nd (5:Int) (0:Int) [f,g])]))⟩:Fm)).2)≠(0:Int)))∨(((simp_ f).2)≠(0:Int)))))∧H 1=(bk 1 52 10 [[(iV (f.op)),(iV (f.arg)),(V.sl (List.map cF (f.kids))),(iV (g.op)),(iV (g.arg)),(V.sl (List.map cF (g.kids))),(iV (h.op)),(iV (h.arg)),(V.sl (List.map cF (h.kids))),(V.bool b)]])∧H 3=(bk 1 24 3 [[(iV (f.op)),(iV (f.arg)),(V.sl (List.map cF (f.kids)))]])∧H 4=(bk 1 24 3 [[(iV (g.op)),(iV (g.arg)),(V.sl (List.map cF (g.kids)))]])∧H 5=(bk 1 24 3 [[(iV (h.op)),(iV (h.arg)),(V.sl (List.map cF (h.kids)))]])∧H 9=(bk 1 24 3 [[(iV ((simp_ (⟨((((6:Int)))),((((0:Int)))),(([f,g,h]))⟩:Fm)).1.op)),(iV ((simp_ (⟨((((6:Int)))),((((0:Int)))),(([f,g,h]))⟩:Fm)).1.arg)),(V.sl (List.map cF ((simp_ (⟨((((6:Int)))),((((0:Int)))),(([f,g,h]))⟩:Fm)).1.kids)))]])∧H 11=(bk 1 24 3 [[(iV ((simp_ (⟨((((6:Int)))),((((0:Int)))),(([h,(Fm.nd (6:Int) (0:Int) [g,f,g])]))⟩:Fm)).1.op)),(iV ((simp_ (⟨((((6:Int)))),((((0:Int)))),(([h,(Fm.nd (6:Int) (0:Int) [g,f,g])]))⟩:Fm)).1.arg)),(V.sl (List.map cF ((simp_ (⟨((((6:Int)))),((((0:Int)))),(([h,(Fm.nd (6:Int) (0:Int) [g,f,g])]))⟩:Fm)).1.kids)))]])∧H 13=(bk 1 24 3 [[(iV ((simp_ (⟨((((6:Int)))),((((0:Int)))),(([(Fm.nd (6:Int) (0:Int) [f,h]),g,(Fm.nd (4:Int) (0:Int) [(Fm.nd (4:Int) (0:Int) [h])])]))⟩:Fm)).1.op)),(iV ((simp_ (⟨((((6:Int)))),((((0:Int)))),(([(Fm.nd (6:Int) (0:Int) [f,h]),g,(Fm.nd (4:Int) (0:Int) [(Fm.nd (4:Int) (0:Int) [h])])]))⟩:Fm)).1.arg)),(V.sl (List.map cF ((simp_ (⟨((((6:Int)))),((((0:Int)))),(([(Fm.nd (6:Int) (0:Int) [f,h]),g,(Fm.nd (4:Int) (0:Int) [(Fm.nd (4:Int) (0:Int) [h])])]))⟩:Fm)).1.kids)))]])∧H 15=(bk 1 24 3 [[(iV ((simp_ (⟨((((6:Int)))),((((0:Int)))),(([f,(Fm.nd (5:Int) (0:Int) [f,g])]))⟩:Fm)).1.op)),(iV ((simp_ (⟨((((6:Int)))),((((0:Int)))),(([f,(Fm.nd (5:Int) (0:Int) [f,g])]))⟩:Fm)).1.arg)),(V.sl (List.map cF ((simp_ (⟨((((6:Int)))),((((0:Int)))),(([f,(Fm.nd (5:Int) (0:Int) [f,g])]))⟩:Fm)).1.kids)))]])∧H 17=(bk 1 24 3 [[(iV ((simp_ f).1.op)),(iV ((simp_ f).1.arg)),(V.sl (List.map cF ((simp_ f).1.kids)))]])∧True) ?_ ?_
   ·
    by_cases g11:(((((simp_ (⟨((((6:Int)))),((((0:Int)))),(([f,g,h]))⟩:Fm)).2)≠(0:Int))∨(((simp_ (⟨((((6:Int)))),((((0:Int)))),(([h,(Fm.nd (6:Int) (0:Int) [g,f,g])]))⟩:Fm)).2)≠(0:Int)))∨(((simp_ (⟨((((6:Int)))),((((0:Int)))),(([(Fm.nd (6:Int) (0:Int) [f,h]),g,(Fm.nd (4:Int) (0:Int) [(Fm.nd (4:Int) (0:Int) [h])])]))⟩:Fm)).2)≠(0:Int)))∨(((simp_ (⟨((((6:Int)))),((((0:Int)))),(([f,(Fm.nd (5:Int) (0:Int) [f,g])]))⟩:Fm)).2)≠(0:Int))
    ·
     refine G_n (edT g11 rfl) (G_n (edT g11 rfl) (R_pickT (edT g11 rfl) rfl ?_))
     exact ⟨t9,t10,t11,t12,t13,t14,t15,t16,t17,t18,(dec_orT g11),h1,h3,h4,h5,h9,h11,h13,h15,h17,trivial⟩
    ·
     refine G_yes (edF g11 rfl) (R_mv t18 (G_yes (edF g11 rfl) (R_neq rfl rfl (R_pickF (edF g11 rfl) rfl ?_))))
     exact ⟨t9,t10,t11,t12,t13,t14,t15,t16,t17,t18,(dec_orF g11),h1,h3,h4,h5,h9,h11,h13,h15,h17,trivial⟩
   intro T H ⟨t9,t10,t11,t12,t13,t14,t15,t16,t17,t18,t134,h1,h3,h4,h5,h9,h11,h13,h15,h17,_⟩
   exact R_nil ⟨t9,t10,t11,t12,t13,t14,t15,t16,t17,t18,t134,h1,h3,h4,h5,h9,h11,h13,h15,h17,trivial⟩
  intro T H ⟨t9,t10,t11,t12,t13,t14,t15,t16,t17,t18,t134,h1,h3,h4,h5,h9,h11,h13,h15,h17,_⟩
  refine W_seq_if t134 (fun c12=>?_) fun c12=>?_
  ·
   refine W_seq_seq ?_
   refine W_seq_regc (fun T H=>T 2=(V.bool (decide ((((((((simp_ (⟨((((6:Int)))),((((0:Int)))),(([f,g,h]))⟩:Fm)).2)=(0:Int))∨(((simp_ (⟨((((6:Int)))),((((0:Int)))),(([f,g,h]))⟩:Fm)).2)=(11:Int)))∧((((simp_ (⟨((((6:Int)))),((((0:Int)))),(([h,(Fm.nd (6:Int) (0:Int) [g,f,g])]))⟩:Fm)).2)=(0:Int))∨(((simp_ (⟨((((6:Int)))),((((0:Int)))),(([h,(Fm.nd (6:Int) (0:Int) [g,f,g])]))⟩:Fm)).2)=(11:Int))))∧((((simp_ (⟨((((6:Int)))),((((0:Int)))),(([(Fm.nd (6:Int) (0:Int) [f,h]),g,(Fm.nd (4:Int) (0:Int) [(Fm.nd (4:Int) (0:Int) [h])])]))⟩:Fm)).2)=(0:Int))∨(((simp_ (⟨((((6:Int)))),((((0:Int)))),(([(Fm.nd (6:Int) (0:Int) [f,h]),g,(Fm.nd (4:Int) (0:Int) [(Fm.nd (4:Int) (0:Int) [h])])]))⟩:Fm)).2)=(11:Int))))∧((((simp_ (⟨((((6:Int)))),((((0:Int)))),(([f,(Fm.nd (5:Int) (0:Int) [f,g])]))⟩:Fm)).2)=(0:Int))∨(((simp_ (⟨((((6:Int)))),((((0:Int)))),(([f,(Fm.nd (5:Int) (0:Int) [f,g])]))⟩:Fm)).2)=(11:Int))))∧((((simp_ f).2)=(0:Int))∨(((simp_ f).2)=(11:Int))))))∧H 1=(bk 1 52 10 [[(iV (f.op)),(iV (f.arg)),(V.sl (List.map cF (f.kids))),(iV (g.op)),(iV (g.arg)),(V.sl (List.map cF (g.kids))),(iV (h.op)),(iV (h.arg)),(V.sl (List.map cF (h.kids))),(V.bool b)]])∧H 3=(bk 1 24 3 [[(iV (f.op)),(iV (f.arg)),(V.sl (List.map cF (f.kids)))]])∧H 4=(bk 1 24 3 [[(iV (g.op)),(iV (g.arg)),(V.sl (List.map cF (g.kids)))]])∧H 5=(bk 1 24 3 [[(iV (h.op)),(iV (h.arg)),(V.sl (List.map cF (h.kids)))]])∧H 9=(bk 1 24 3 [[(iV ((simp_ (⟨((((6:Int)))),((((0:Int)))),(([f,g,h]))⟩:Fm)).1.op)),(iV ((simp_ (⟨((((6:Int)))),((((0:Int)))),(([f,g,h]))⟩:Fm)).1.arg)),(V.sl (List.map cF ((simp_ (⟨((((6:Int)))),((((0:Int)))),(([f,g,h]))⟩:Fm)).1.kids)))]])∧H 11=(bk 1 24 3 [[(iV ((simp_ (⟨((((6:Int)))),((((0:Int)))),(([h,(Fm.nd (6:Int) (0:Int) [g,f,g])]))⟩:Fm)).1.op)),(iV ((simp_ (⟨((((6:Int)))),((((0:Int)))),(([h,(Fm.nd (6:Int) (0:Int) [g,f,g])]))⟩:Fm)).1.arg)),(V.sl (List.map cF ((simp_ (⟨((((6:Int)))),((((0:Int)))),(([h,(Fm.nd (6:Int) (0:Int) [g,f,g])]))⟩:Fm)).1.kids)))]])∧H 13=(bk 1 24 3 [[(iV ((simp_ (⟨((((6:Int)))),((((0:Int)))),(([(Fm.nd (6:Int) (0:Int) [f,h]),g,(Fm.nd (4:Int) (0:Int) [(Fm.nd (4:Int) (0:Int) [h])])]))⟩:Fm)).1.op)),(iV ((simp_ (⟨((((6:Int)))),((((0:Int)))),(([(Fm.nd (6:Int) (0:Int) [f,h]),g,(Fm.nd (4:Int) (0:Int) [(Fm.nd (4:Int) (0:Int) [h])])]))⟩:Fm)).1.arg)),(V.sl (List.map cF ((simp_ (⟨((((6:Int)))),((((0:Int)))),(([(Fm.nd (6:Int) (0:Int) [f,h]),g,(Fm.nd (4:Int) (0:Int) [(Fm.nd (4:Int) (0:Int) [h])])]))⟩:Fm)).1.kids)))]])∧H 15=(bk 1 24 3 [[(iV ((simp_ (⟨((((6:Int)))),((((0:Int)))),(([f,(Fm.nd (5:Int) (0:Int) [f,g])]))⟩:Fm)).1.op)),(iV ((simp_ (⟨((((6:Int)))),((((0:Int)))),(([f,(Fm.nd (5:Int) (0:Int) [f,g])]))⟩:Fm)).1.arg)),(V.sl (List.map cF ((simp_ (⟨((((6:Int)))),((((0:Int)))),(([f,(Fm.nd (5:Int) (0:Int) [f,g])]))⟩:Fm)).1.kids)))]])∧H 17=(bk 1 24 3 [[(iV ((simp_ f).1.op)),(iV ((simp_ f).1.arg)),(V.sl (List.map cF ((simp_ f).1.kids)))]])∧True) ?_ ?_
   ·
    refine R_mv t10 (R_eql rfl rfl (R_mv rfl ?_))
    refine Ops_seg 3 (fun T H=>T 12=(iV ((simp_ (⟨((((6:Int)))),((((0:Int)))),(([h,(Fm.nd (6:Int) (0:Int) [g,f,g])]))⟩:Fm)).2))∧T 14=(iV ((simp_ (⟨((((6:Int)))),((((0:Int)))),(([(Fm.nd (6:Int) (0:Int) [f,h]),g,(Fm.nd (4:Int) (0:Int) [(Fm.nd (4:Int) (0:Int) [h])])]))⟩:Fm)).2))∧T 16=(iV ((simp_ (⟨((((6:Int)))),((((0:Int)))),(([f,(Fm.nd (5:Int) (0:Int) [f,g])]))⟩:Fm)).2))∧T 18=(iV ((simp_ f).2))∧T 140=(V.bool (decide ((((simp_ (⟨((((6:Int)))),((((0:Int)))),(([f,g,h]))⟩:Fm)).2)=(0:Int))∨(((simp_ (⟨((((6:Int)))),((((0:Int)))),(([f,g,h]))⟩:Fm)).2)=(11:Int)))))∧H 1=(bk 1 52 10 [[(iV (f.op)),(iV (f.arg)),(V.sl (List.map cF (f.kids))),(iV (g.op)),(iV (g.arg)),(V.sl (List.map cF (g.kids))),(iV (h.op)),(iV (h.arg)),(V.sl (List.map cF (h.kids))),(V.bool b)]])∧H 3=(bk 1 24 3 [[(iV (f.op)),(iV (f.arg)),(V.sl (List.map cF (f.kids)))]])∧H 4=(bk 1 24 3 [[(iV (g.op)),(iV (g.arg)),(V.sl (List.map cF (g.kids)))]])∧H 5=(bk 1 24 3 [[(iV (h.op)),(iV (h.arg)),(V.sl (List.map cF (h.kids)))]])∧H 9=(bk 1 24 3 [[(iV ((simp_ (⟨((((6:Int)))),((((0:Int)))),(([f,g,h]))⟩:Fm)).1.op)),(iV ((simp_ (⟨((((6:Int)))),((((0:Int)))),(([f,g,h]))⟩:Fm)).1.arg)),(V.sl (List.map cF ((simp_ (⟨((((6:Int)))),((((0:Int)))),(([f,g,h]))⟩:Fm)).1.kids)))]])∧H 11=(bk 1 24 3 [[(iV ((simp_ (⟨((((6:Int)))),((((0:Int)))),(([h,(Fm.nd (6:Int) (0:Int) [g,f,g])]))⟩:Fm)).1.op)),(iV ((simp_ (⟨((((6:Int)))),((((0:Int)))),(([h,(Fm.nd (6:Int) (0:Int) [g,f,g])]))⟩:Fm)).1.arg)),(V.sl (List.map cF ((simp_ (⟨((((6:Int)))),((((0:Int)))),(([h,(Fm.nd (6:Int) (0:Int) [g,f,g])]))⟩:Fm)).1.kids)))]])∧H 13=(bk 1 24 3 [[(iV ((simp_ (⟨((((6:Int)))),((((0:Int)))),(([(Fm.nd (6:Int) (0:Int) [f,h]),g,(Fm.nd (4:Int) (0:Int) [(Fm.nd (4:Int) (0:Int) [h])])]))⟩:Fm)).1.op)),(iV ((simp_ (⟨((((6:Int)))),((((0:Int)))),(([(Fm.nd (6:Int) (0:Int) [f,h]),g,(Fm.nd (4:Int) (0:Int) [(Fm.nd (4:Int) (0:Int) [h])])]))⟩:Fm)).1.arg)),(V.sl (List.map cF ((simp_ (⟨((((6:Int)))),((((0:Int)))),(([(Fm.nd (6:Int) (0:Int) [f,h]),g,(Fm.nd (4:Int) (0:Int) [(Fm.nd (4:Int) (0:Int) [h])])]))⟩:Fm)).1.kids)))]])∧H 15=(bk 1 24 3 [[(iV ((simp_ (⟨((((6:Int)))),((((0:Int)))),(([f,(Fm.nd (5:Int) (0:Int) [f,g])]))⟩:Fm)).1.op)),(iV ((simp_ (⟨((((6:Int)))),((((0:Int)))),(([f,(Fm.nd (5:Int) (0:Int) [f,g])]))⟩:Fm)).1.arg)),(V.sl (List.map cF ((simp_ (⟨((((6:Int)))),((((0:Int)))),(([f,(Fm.nd (5:Int) (0:Int) [f,g])]))⟩:Fm)).1.kids)))]])∧H 17=(bk 1 24 3 [[(iV ((simp_ f).1.op)),(iV ((simp_ f).1.arg)),(V.sl (List.map cF ((simp_ f).1.kids)))]])∧True) ?_ ?_
    ·
     by_cases g13:((simp_ (⟨((((6:Int)))),((((0:Int)))),(([f,g,h]))⟩:Fm)).2)=(0:Int)
     ·
      refine G_n (edT g13 rfl) (G_n (edT g13 rfl) (R_pickT (edT g13 rfl) rfl ?_))
      exact ⟨t12,t14,t16,t18,(dec_orT g13),h1,h3,h4,h5,h9,h11,h13,h15,h17,trivial⟩
     ·
      refine G_yes (edF g13 rfl) (R_mv t10 (G_yes (edF g13 rfl) (R_eql rfl rfl (R_pickF (edF g13 rfl) rfl ?_))))
      exact ⟨t12,t14,t16,t18,(dec_orF g13),h1,h3,h4,h5,h9,h11,h13,h15,h17,trivial⟩
    intro T H ⟨t12,t14,t16,t18,t140,h1,h3,h4,h5,h9,h11,h13,h15,h17,_⟩
    refine R_mv t140 ?_
    refine Ops_seg 7 (fun T H=>T 14=(iV ((simp_ (⟨((((6:Int)))),((((0:Int)))),(([(Fm.nd (6:Int) (0:Int) [f,h]),g,(Fm.nd (4:Int) (0:Int) [(Fm.nd (4:Int) (0:Int) [h])])]))⟩:Fm)).2))∧T 16=(iV ((simp_ (⟨((((6:Int)))),((((0:Int)))),(([f,(Fm.nd (5:Int) (0:Int) [f,g])]))⟩:Fm)).2))∧T 18=(iV ((simp_ f).2))∧T 148=(V.bool (decide (((((simp_ (⟨((((6:Int)))),((((0:Int)))),(([f,g,h]))⟩:Fm)).2)=(0:Int))∨(((simp_ (⟨((((6:Int)))),((((0:Int)))),(([f,g,h]))⟩:Fm)).2)=(11:Int)))∧((((simp_ (⟨((((6:Int)))),((((0:Int)))),(([h,(Fm.nd (6:Int) (0:Int) [g,f,g])]))⟩:Fm)).2)=(0:Int))∨(((simp_ (⟨((((6:Int)))),((((0:Int)))),(([h,(Fm.nd (6:Int) (0:Int) [g,f,g])]))⟩:Fm)).2)=(11:Int))))))∧H 1=(bk 1 52 10 [[(iV (f.op)),(iV (f.arg)),(V.sl (List.map cF (f.kids))),(iV (g.op)),(iV (g.arg)),(V.sl (List.map cF (g.kids))),(iV (h.op)),(iV (h.arg)),(V.sl (List.map cF (h.kids))),(V.bool b)]])∧H 3=(bk 1 24 3 [[(iV (f.op)),(iV (f.arg)),(V.sl (List.map cF (f.kids)))]])∧H 4=(bk 1 24 3 [[(iV (g.op)),(iV (g.arg)),(V.sl (List.map cF (g.kids)))]])∧H 5=(bk 1 24 3 [[(iV (h.op)),(iV (h.arg)),(V.sl (List.map cF (h.kids)))]])∧H 9=(bk 1 24 3 [[(iV ((simp_ (⟨((((6:Int)))),((((0:Int)))),(([f,g,h]))⟩:Fm)).1.op)),(iV ((simp_ (⟨((((6:Int)))),((((0:Int)))),(([f,g,h]))⟩:Fm)).1.arg)),(V.sl (List.map cF ((simp_ (⟨((((6:Int)))),((((0:Int)))),(([f,g,h]))⟩:Fm)).1.kids)))]])∧H 11=(bk 1 24 3 [[(iV ((simp_ (⟨((((6:Int)))),((((0:Int)))),(([h,(Fm.nd (6:Int) (0:Int) [g,f,g])]))⟩:Fm)).1.op)),(iV ((simp_ (⟨((((6:Int)))),((((0:Int)))),(([h,(Fm.nd (6:Int) (0:Int) [g,f,g])]))⟩:Fm)).1.arg)),(V.sl (List.map cF ((simp_ (⟨((((6:Int)))),((((0:Int)))),(([h,(Fm.nd (6:Int) (0:Int) [g,f,g])]))⟩:Fm)).1.kids)))]])∧H 13=(bk 1 24 3 [[(iV ((simp_ (⟨((((6:Int)))),((((0:Int)))),(([(Fm.nd (6:Int) (0:Int) [f,h]),g,(Fm.nd (4:Int) (0:Int) [(Fm.nd (4:Int) (0:Int) [h])])]))⟩:Fm)).1.op)),(iV ((simp_ (⟨((((6:Int)))),((((0:Int)))),(([(Fm.nd (6:Int) (0:Int) [f,h]),g,(Fm.nd (4:Int) (0:Int) [(Fm.nd (4:Int) (0:Int) [h])])]))⟩:Fm)).1.arg)),(V.sl (List.map cF ((simp_ (⟨((((6:Int)))),((((0:Int)))),(([(Fm.nd (6:Int) (0:Int) [f,h]),g,(Fm.nd (4:Int) (0:Int) [(Fm.nd (4:Int) (0:Int) [h])])]))⟩:Fm)).1.kids)))]])∧H 15=(bk 1 24 3 [[(iV ((simp_ (⟨((((6:Int)))),((((0:Int)))),(([f,(Fm.nd (5:Int) (0:Int) [f,g])]))⟩:Fm)).1.op)),(iV ((simp_ (⟨((((6:Int)))),((((0:Int)))),(([f,(Fm.nd (5:Int) (0:Int) [f,g])]))⟩:Fm)).1.arg)),(V.sl (List.map cF ((simp_ (⟨((((6:Int)))),((((0:Int)))),(([f,(Fm.nd (5:Int) (0:Int) [f,g])]))⟩:Fm)).1.kids)))]])∧H 17=(bk 1 24 3 [[(iV ((simp_ f).1.op)),(iV ((simp_ f).1.arg)),(V.sl (List.map cF ((simp_ f).1.kids)))]])∧True) ?_ ?_
    ·
     by_cases g14:(((simp_ (⟨((((6:Int)))),((((0:Int)))),(([f,g,h]))⟩:Fm)).2)=(0:Int))∨(((simp_ (⟨((((6:Int)))),((((0:Int)))),(([f,g,h]))⟩:Fm)).2)=(11:Int))
     ·
      refine G_yes (edT g14 rfl) (R_mv t12 (G_yes (edT g14 rfl) (R_eql rfl rfl (G_yes (edT g14 rfl) (R_mv rfl ?_)))))
      refine Ops_seg 3 (fun T H=>T 14=(iV ((simp_ (⟨((((6:Int)))),((((0:Int)))),(([(Fm.nd (6:Int) (0:Int) [f,h]),g,(Fm.nd (4:Int) (0:Int) [(Fm.nd (4:Int) (0:Int) [h])])]))⟩:Fm)).2))∧T 16=(iV ((simp_ (⟨((((6:Int)))),((((0:Int)))),(([f,(Fm.nd (5:Int) (0:Int) [f,g])]))⟩:Fm)).2))∧T 18=(iV ((simp_ f).2))∧T 141=(V.bool true)∧T 147=(V.bool (decide ((((simp_ (⟨((((6:Int)))),((((0:Int)))),(([h,(Fm.nd (6:Int) (0:Int) [g,f,g])]))⟩:Fm)).2)=(0:Int))∨(((simp_ (⟨((((6:Int)))),((((0:Int)))),(([h,(Fm.nd (6:Int) (0:Int) [g,f,g])]))⟩:Fm)).2)=(11:Int)))))∧H 1=(bk 1 52 10 [[(iV (f.op)),(iV (f.arg)),(V.sl (List.map cF (f.kids))),(iV (g.op)),(iV (g.arg)),(V.sl (List.map cF (g.kids))),(iV (h.op)),(iV (h.arg)),(V.sl (List.map cF (h.kids))),(V.bool b)]])∧H 3=(bk 1 24 3 [[(iV (f.op)),(iV (f.arg)),(V.sl (List.map cF (f.kids)))]])∧H 4=(bk 1 24 3 [[(iV (g.op)),(iV (g.arg)),(V.sl (List.map cF (g.kids)))]])∧H 5=(bk 1 24 3 [[(iV (h.op)),(iV (h.arg)),(V.sl (List.map cF (h.kids)))]])∧H 9=(bk 1 24 3 [[(iV ((simp_ (⟨((((6:Int)))),((((0:Int)))),(([f,g,h]))⟩:Fm)).1.op)),(iV ((simp_ (⟨((((6:Int)))),((((0:Int)))),(([f,g,h]))⟩:Fm)).1.arg)),(V.sl (List.map cF ((simp_ (⟨((((6:Int)))),((((0:Int)))),(([f,g,h]))⟩:Fm)).1.kids)))]])∧H 11=(bk 1 24 3 [[(iV ((simp_ (⟨((((6:Int)))),((((0:Int)))),(([h,(Fm.nd (6:Int) (0:Int) [g,f,g])]))⟩:Fm)).1.op)),(iV ((simp_ (⟨((((6:Int)))),((((0:Int)))),(([h,(Fm.nd (6:Int) (0:Int) [g,f,g])]))⟩:Fm)).1.arg)),(V.sl (List.map cF ((simp_ (⟨((((6:Int)))),((((0:Int)))),(([h,(Fm.nd (6:Int) (0:Int) [g,f,g])]))⟩:Fm)).1.kids)))]])∧H 13=(bk 1 24 3 [[(iV ((simp_ (⟨((((6:Int)))),((((0:Int)))),(([(Fm.nd (6:Int) (0:Int) [f,h]),g,(Fm.nd (4:Int) (0:Int) [(Fm.nd (4:Int) (0:Int) [h])])]))⟩:Fm)).1.op)),(iV ((simp_ (⟨((((6:Int)))),((((0:Int)))),(([(Fm.nd (6:Int) (0:Int) [f,h]),g,(Fm.nd (4:Int) (0:Int) [(Fm.nd (4:Int) (0:Int) [h])])]))⟩:Fm)).1.arg)),(V.sl (List.map cF ((simp_ (⟨((((6:Int)))),((((0:Int)))),(([(Fm.nd (6:Int) (0:Int) [f,h]),g,(Fm.nd (4:Int) (0:Int) [(Fm.nd (4:Int) (0:Int) [h])])]))⟩:Fm)).1.kids)))]])∧H 15=(bk 1 24 3 [[(iV ((simp_ (⟨((((6:Int)))),((((0:Int)))),(([f,(Fm.nd (5:Int) (0:Int) [f,g])]))⟩:Fm)).1.op)),(iV ((simp_ (⟨((((6:Int)))),((((0:Int)))),(([f,(Fm.nd (5:Int) (0:Int) [f,g])]))⟩:Fm)).1.arg)),(V.sl (List.map cF ((simp_ (⟨((((6:Int)))),((((0:Int)))),(([f,(Fm.nd (5:Int) (0:Int) [f,g])]))⟩:Fm)).1.kids)))]])∧H 17=(bk 1 24 3 [[(iV ((simp_ f).1.op)),(iV ((simp_ f).1.arg)),(V.sl (List.map cF ((simp_ f).1.kids)))]])∧True) ?_ ?_
      ·
       by_cases g15:((simp_ (⟨((((6:Int)))),((((0:Int)))),(([h,(Fm.nd (6:Int) (0:Int) [g,f,g])]))⟩:Fm)).2)=(0:Int)
       ·
        refine G_n (edT g15 rfl) (G_n (edT g15 rfl) (G_yes (edT g14 rfl) (R_pickT (edT g15 rfl) rfl ?_)))
        exact ⟨t14,t16,t18,(edT g14 rfl),(dec_orT g15),h1,h3,h4,h5,h9,h11,h13,h15,h17,trivial⟩
       ·
        refine G_yes (edF g15 rfl) (R_mv t12 (G_yes (edF g15 rfl) (R_eql rfl rfl (G_yes (edT g14 rfl) (R_pickF (edF g15 rfl) rfl ?_)))))
        exact ⟨t14,t16,t18,(edT g14 rfl),(dec_orF g15),h1,h3,h4,h5,h9,h11,h13,h15,h17,trivial⟩
      intro T H ⟨t14,t16,t18,t141,t147,h1,h3,h4,h5,h9,h11,h13,h15,h17,_⟩
      refine R_pickT t141 t147 ?_
      exact ⟨t14,t16,t18,(dec_andT g14),h1,h3,h4,h5,h9,h11,h13,h15,h17,trivial⟩
     ·
      refine G_n (edF g14 rfl) (G_n (edF g14 rfl) (G_n (edF g14 rfl) (G_raw (@rfl V (V.raw undef)) (G_raw (@rfl V (V.raw undef)) (G_n (edF g14 rfl) (R_pickF (edF g14 rfl) rfl ?_))))))
      exact ⟨t14,t16,t18,(dec_andF g14),h1,h3,h4,h5,h9,h11,h13,h15,h17,trivial⟩
    intro T H ⟨t14,t16,t18,t148,h1,h3,h4,h5,h9,h11,h13,h15,h17,_⟩
    refine R_mv t148 ?_
    refine Ops_seg 7 (fun T H=>T 16=(iV ((simp_ (⟨((((6:Int)))),((((0:Int)))),(([f,(Fm.nd (5:Int) (0:Int) [f,g])]))⟩:Fm)).2))∧T 18=(iV ((simp_ f).2))∧T 156=(V.bool (decide ((((((simp_ (⟨((((6:Int)))),((((0:Int)))),(([f,g,h]))⟩:Fm)).2)=(0:Int))∨(((simp_ (⟨((((6:Int)))),((((0:Int)))),(([f,g,h]))⟩:Fm)).2)=(11:Int)))∧((((simp_ (⟨((((6:Int)))),((((0:Int)))),(([h,(Fm.nd (6:Int) (0:Int) [g,f,g])]))⟩:Fm)).2)=(0:Int))∨(((simp_ (⟨((((6:Int)))),((((0:Int)))),(([h,(Fm.nd (6:Int) (0:Int) [g,f,g])]))⟩:Fm)).2)=(11:Int))))∧((((simp_ (⟨((((6:Int)))),((((0:Int)))),(([(Fm.nd (6:Int) (0:Int) [f,h]),g,(Fm.nd (4:Int) (0:Int) [(Fm.nd (4:Int) (0:Int) [h])])]))⟩:Fm)).2)=(0:Int))∨(((simp_ (⟨((((6:Int)))),((((0:Int)))),(([(Fm.nd (6:Int) (0:Int) [f,h]),g,(Fm.nd (4:Int) (0:Int) [(Fm.nd (4:Int) (0:Int) [h])])]))⟩:Fm)).2)=(11:Int))))))∧H 1=(bk 1 52 10 [[(iV (f.op)),(iV (f.arg)),(V.sl (List.map cF (f.kids))),(iV (g.op)),(iV (g.arg)),(V.sl (List.map cF (g.kids))),(iV (h.op)),(iV (h.arg)),(V.sl (List.map cF (h.kids))),(V.bool b)]])∧H 3=(bk 1 24 3 [[(iV (f.op)),(iV (f.arg)),(V.sl (List.map cF (f.kids)))]])∧H 4=(bk 1 24 3 [[(iV (g.op)),(iV (g.arg)),(V.sl (List.map cF (g.kids)))]])∧H 5=(bk 1 24 3 [[(iV (h.op)),(iV (h.arg)),(V.sl (List.map cF (h.kids)))]])∧H 9=(bk 1 24 3 [[(iV ((simp_ (⟨((((6:Int)))),((((0:Int)))),(([f,g,h]))⟩:Fm)).1.op)),(iV ((simp_ (⟨((((6:Int)))),((((0:Int)))),(([f,g,h]))⟩:Fm)).1.arg)),(V.sl (List.map cF ((simp_ (⟨((((6:Int)))),((((0:Int)))),(([f,g,h]))⟩:Fm)).1.kids)))]])∧H 11=(bk 1 24 3 [[(iV ((simp_ (⟨((((6:Int)))),((((0:Int)))),(([h,(Fm.nd (6:Int) (0:Int) [g,f,g])]))⟩:Fm)).1.op)),(iV ((simp_ (⟨((((6:Int)))),((((0:Int)))),(([h,(Fm.nd (6:Int) (0:Int) [g,f,g])]))⟩:Fm)).1.arg)),(V.sl (List.map cF ((simp_ (⟨((((6:Int)))),((((0:Int)))),(([h,(Fm.nd (6:Int) (0:Int) [g,f,g])]))⟩:Fm)).1.kids)))]])∧H 13=(bk 1 24 3 [[(iV ((simp_ (⟨((((6:Int)))),((((0:Int)))),(([(Fm.nd (6:Int) (0:Int) [f,h]),g,(Fm.nd (4:Int) (0:Int) [(Fm.nd (4:Int) (0:Int) [h])])]))⟩:Fm)).1.op)),(iV ((simp_ (⟨((((6:Int)))),((((0:Int)))),(([(Fm.nd (6:Int) (0:Int) [f,h]),g,(Fm.nd (4:Int) (0:Int) [(Fm.nd (4:Int) (0:Int) [h])])]))⟩:Fm)).1.arg)),(V.sl (List.map cF ((simp_ (⟨((((6:Int)))),((((0:Int)))),(([(Fm.nd (6:Int) (0:Int) [f,h]),g,(Fm.nd (4:Int) (0:Int) [(Fm.nd (4:Int) (0:Int) [h])])]))⟩:Fm)).1.kids)))]])∧H 15=(bk 1 24 3 [[(iV ((simp_ (⟨((((6:Int)))),((((0:Int)))),(([f,(Fm.nd (5:Int) (0:Int) [f,g])]))⟩:Fm)).1.op)),(iV ((simp_ (⟨((((6:Int)))),((((0:Int)))),(([f,(Fm.nd (5:Int) (0:Int) [f,g])]))⟩:Fm)).1.arg)),(V.sl (List.map cF ((simp_ (⟨((((6:Int)))),((((0:Int)))),(([f,(Fm.nd (5:Int) (0:Int) [f,g])]))⟩:Fm)).1.kids)))]])∧H 17=(bk 1 24 3 [[(iV ((simp_ f).1.op)),(iV ((simp_ f).1.arg)),(V.sl (List.map cF ((simp_ f).1.kids)))]])∧True) ?_ ?_
    ·
     by_cases g16:((((simp_ (⟨((((6:Int)))),((((0:Int)))),(([f,g,h]))⟩:Fm)).2)=(0:Int))∨(((simp_ (⟨((((6:Int)))),((((0:Int)))),(([f,g,h]))⟩:Fm)).2)=(11:Int)))∧((((simp_ (⟨((((6:Int)))),((((0:Int)))),(([h,(Fm.nd (6:Int) (0:Int) [g,f,g])]))⟩:Fm)).2)=(0:Int))∨(((simp_ (⟨((((6:Int)))),((((0:Int)))),(([h,(Fm.nd (6:Int) (0:Int) [g,f,g])]))⟩:Fm)).2)=(11:Int)))
     ·
      refine G_yes (edT g16 rfl) (R_mv t14 (G_yes (edT g16 rfl) (R_eql rfl rfl (G_yes (edT g16 rfl) (R_mv rfl ?_)))))
      refine Ops_seg 3 (fun T H=>T 16=(iV ((simp_ (⟨((((6:Int)))),((((0:Int)))),(([f,(Fm.nd (5:Int) (0:Int) [f,g])]))⟩:Fm)).2))∧T 18=(iV ((simp_ f).2))∧T 149=(V.bool true)∧T 155=(V.bool (decide ((((simp_ (⟨((((6:Int)))),((((0:Int)))),(([(Fm.nd (6:Int) (0:Int) [f,h]),g,(Fm.nd (4:Int) (0:Int) [(Fm.nd (4:Int) (0:Int) [h])])]))⟩:Fm)).2)=(0:Int))∨(((simp_ (⟨((((6:Int)))),((((0:Int)))),(([(Fm.nd (6:Int) (0:Int) [f,h]),g,(Fm.nd (4:Int) (0:Int) [(Fm.nd (4:Int) (0:Int) [h])])]))⟩:Fm)).2)=(11:Int)))))∧H 1=(bk 1 52 10 [[(iV (f.op)),(iV (f.arg)),(V.sl (List.map cF (f.kids))),(iV (g.op)),(iV (g.arg)),(V.sl (List.map cF (g.kids))),(iV (h.op)),(iV (h.arg)),(V.sl (List.map cF (h.kids))),(V.bool b)]])∧H 3=(bk 1 24 3 [[(iV (f.op)),(iV (f.arg)),(V.sl (List.map cF (f.kids)))]])∧H 4=(bk 1 24 3 [[(iV (g.op)),(iV (g.arg)),(V.sl (List.map cF (g.kids)))]])∧H 5=(bk 1 24 3 [[(iV (h.op)),(iV (h.arg)),(V.sl (List.map cF (h.kids)))]])∧H 9=(bk 1 24 3 [[(iV ((simp_ (⟨((((6:Int)))),((((0:Int)))),(([f,g,h]))⟩:Fm)).1.op)),(iV ((simp_ (⟨((((6:Int)))),((((0:Int)))),(([f,g,h]))⟩:Fm)).1.arg)),(V.sl (List.map cF ((simp_ (⟨((((6:Int)))),((((0:Int)))),(([f,g,h]))⟩:Fm)).1.kids)))]])∧H 11=(bk 1 24 3 [[(iV ((simp_ (⟨((((6:Int)))),((((0:Int)))),(([h,(Fm.nd (6:Int) (0:Int) [g,f,g])]))⟩:Fm)).1.op)),(iV ((simp_ (⟨((((6:Int)))),((((0:Int)))),(([h,(Fm.nd (6:Int) (0:Int) [g,f,g])]))⟩:Fm)).1.arg)),(V.sl (List.map cF ((simp_ (⟨((((6:Int)))),((((0:Int)))),(([h,(Fm.nd (6:Int) (0:Int) [g,f,g])]))⟩:Fm)).1.kids)))]])∧H 13=(bk 1 24 3 [[(iV ((simp_ (⟨((((6:Int)))),((((0:Int)))),(([(Fm.nd (6:Int) (0:Int) [f,h]),g,(Fm.nd (4:Int) (0:Int) [(Fm.nd (4:Int) (0:Int) [h])])]))⟩:Fm)).1.op)),(iV ((simp_ (⟨((((6:Int)))),((((0:Int)))),(([(Fm.nd (6:Int) (0:Int) [f,h]),g,(Fm.nd (4:Int) (0:Int) [(Fm.nd (4:Int) (0:Int) [h])])]))⟩:Fm)).1.arg)),(V.sl (List.map cF ((simp_ (⟨((((6:Int)))),((((0:Int)))),(([(Fm.nd (6:Int) (0:Int) [f,h]),g,(Fm.nd (4:Int) (0:Int) [(Fm.nd (4:Int) (0:Int) [h])])]))⟩:Fm)).1.kids)))]])∧H 15=(bk 1 24 3 [[(iV ((simp_ (⟨((((6:Int)))),((((0:Int)))),(([f,(Fm.nd (5:Int) (0:Int) [f,g])]))⟩:Fm)).1.op)),(iV ((simp_ (⟨((((6:Int)))),((((0:Int)))),(([f,(Fm.nd (5:Int) (0:Int) [f,g])]))⟩:Fm)).1.arg)),(V.sl (List.map cF ((simp_ (⟨((((6:Int)))),((((0:Int)))),(([f,(Fm.nd (5:Int) (0:Int) [f,g])]))⟩:Fm)).1.kids)))]])∧H 17=(bk 1 24 3 [[(iV ((simp_ f).1.op)),(iV ((simp_ f).1.arg)),(V.sl (List.map cF ((simp_ f).1.kids)))]])∧True) ?_ ?_
      ·
       by_cases g17:((simp_ (⟨((((6:Int)))),((((0:Int)))),(([(Fm.nd (6:Int) (0:Int) [f,h]),g,(Fm.nd (4:Int) (0:Int) [(Fm.nd (4:Int) (0:Int) [h])])]))⟩:Fm)).2)=(0:Int)
       ·
        refine G_n (edT g17 rfl) (G_n (edT g17 rfl) (G_yes (edT g16 rfl) (R_pickT (edT g17 rfl) rfl ?_)))
        exact ⟨t16,t18,(edT g16 rfl),(dec_orT g17),h1,h3,h4,h5,h9,h11,h13,h15,h17,trivial⟩
       ·
        refine G_yes (edF g17 rfl) (R_mv t14 (G_yes (edF g17 rfl) (R_eql rfl rfl (G_yes (edT g16 rfl) (R_pickF (edF g17 rfl) rfl ?_)))))
        exact ⟨t16,t18,(edT g16 rfl),(dec_orF g17),h1,h3,h4,h5,h9,h11,h13,h15,h17,trivial⟩
      intro T H ⟨t16,t18,t149,t155,h1,h3,h4,h5,h9,h11,h13,h15,h17,_⟩
      refine R_pickT t149 t155 ?_
      exact ⟨t16,t18,(dec_andT g16),h1,h3,h4,h5,h9,h11,h13,h15,h17,trivial⟩
     ·
      refine G_n (edF g16 rfl) (G_n (edF g16 rfl) (G_n (edF g16 rfl) (G_raw (@rfl V (V.raw undef)) (G_raw (@rfl V (V.raw undef)) (G_n (edF g16 rfl) (R_pickF (edF g16 rfl) rfl ?_))))))
      exact ⟨t16,t18,(dec_andF g16),h1,h3,h4,h5,h9,h11,h13,h15,h17,trivial⟩
    intro T H ⟨t16,t18,t156,h1,h3,h4,h5,h9,h11,h13,h15,h17,_⟩
    refine R_mv t156 ?_
    refine Ops_seg 7 (fun T H=>T 18=(iV ((simp_ f).2))∧T 164=(V.bool (decide (((((((simp_ (⟨((((6:Int)))),((((0:Int)))),(([f,g,h]))⟩:Fm)).2)=(0:Int))∨(((simp_ (⟨((((6:Int)))),((((0:Int)))),(([f,g,h]))⟩:Fm)).2)=(11:Int)))∧((((simp_ (⟨((((6:Int)))),((((0:Int)))),(([h,(Fm.nd (6:Int) (0:Int) [g,f,g])]))⟩:Fm)).2)=(0:Int))∨(((simp_ (⟨((((6:Int)))),((((0:Int)))),(([h,(Fm.nd (6:Int) (0:Int) [g,f,g])]))⟩:Fm)).2)=(11:Int))))∧((((simp_ (⟨((((6:Int)))),((((0:Int)))),(([(Fm.nd (6:Int) (0:Int) [f,h]),g,(Fm.nd (4:Int) (0:Int) [(Fm.nd (4:Int) (0:Int) [h])])]))⟩:Fm)).2)=(0:Int))∨(((simp_ (⟨((((6:Int)))),((((0:Int)))),(([(Fm.nd (6:Int) (0:Int) [f,h]),g,(Fm.nd (4:Int) (0:Int) [(Fm.nd (4:Int) (0:Int) [h])])]))⟩:Fm)).2)=(11:Int))))∧((((simp_ (⟨((((6:Int)))),((((0:Int)))),(([f,(Fm.nd (5:Int) (0:Int) [f,g])]))⟩:Fm)).2)=(0:Int))∨(((simp_ (⟨((((6:Int)))),((((0:Int)))),(([f,(Fm.nd (5:Int) (0:Int) [f,g])]))⟩:Fm)).2)=(11:Int))))))∧H 1=(bk 1 52 10 [[(iV (f.op)),(iV (f.arg)),(V.sl (List.map cF (f.kids))),(iV (g.op)),(iV (g.arg)),(V.sl (List.map cF (g.kids))),(iV (h.op)),(iV (h.arg)),(V.sl (List.map cF (h.kids))),(V.bool b)]])∧H 3=(bk 1 24 3 [[(iV (f.op)),(iV (f.arg)),(V.sl (List.map cF (f.kids)))]])∧H 4=(bk 1 24 3 [[(iV (g.op)),(iV (g.arg)),(V.sl (List.map cF (g.kids)))]])∧H 5=(bk 1 24 3 [[(iV (h.op)),(iV (h.arg)),(V.sl (List.map cF (h.kids)))]])∧H 9=(bk 1 24 3 [[(iV ((simp_ (⟨((((6:Int)))),((((0:Int)))),(([f,g,h]))⟩:Fm)).1.op)),(iV ((simp_ (⟨((((6:Int)))),((((0:Int)))),(([f,g,h]))⟩:Fm)).1.arg)),(V.sl (List.map cF ((simp_ (⟨((((6:Int)))),((((0:Int)))),(([f,g,h]))⟩:Fm)).1.kids)))]])∧H 11=(bk 1 24 3 [[(iV ((simp_ (⟨((((6:Int)))),((((0:Int)))),(([h,(Fm.nd (6:Int) (0:Int) [g,f,g])]))⟩:Fm)).1.op)),(iV ((simp_ (⟨((((6:Int)))),((((0:Int)))),(([h,(Fm.nd (6:Int) (0:Int) [g,f,g])]))⟩:Fm)).1.arg)),(V.sl (List.map cF ((simp_ (⟨((((6:Int)))),((((0:Int)))),(([h,(Fm.nd (6:Int) (0:Int) [g,f,g])]))⟩:Fm)).1.kids)))]])∧H 13=(bk 1 24 3 [[(iV ((simp_ (⟨((((6:Int)))),((((0:Int)))),(([(Fm.nd (6:Int) (0:Int) [f,h]),g,(Fm.nd (4:Int) (0:Int) [(Fm.nd (4:Int) (0:Int) [h])])]))⟩:Fm)).1.op)),(iV ((simp_ (⟨((((6:Int)))),((((0:Int)))),(([(Fm.nd (6:Int) (0:Int) [f,h]),g,(Fm.nd (4:Int) (0:Int) [(Fm.nd (4:Int) (0:Int) [h])])]))⟩:Fm)).1.arg)),(V.sl (List.map cF ((simp_ (⟨((((6:Int)))),((((0:Int)))),(([(Fm.nd (6:Int) (0:Int) [f,h]),g,(Fm.nd (4:Int) (0:Int) [(Fm.nd (4:Int) (0:Int) [h])])]))⟩:Fm)).1.kids)))]])∧H 15=(bk 1 24 3 [[(iV ((simp_ (⟨((((6:Int)))),((((0:Int)))),(([f,(Fm.nd (5:Int) (0:Int) [f,g])]))⟩:Fm)).1.op)),(iV ((simp_ (⟨((((6:Int)))),((((0:Int)))),(([f,(Fm.nd (5:Int) (0:Int) [f,g])]))⟩:Fm)).1.arg)),(V.sl (List.map cF ((simp_ (⟨((((6:Int)))),((((0:Int)))),(([f,(Fm.nd (5:Int) (0:Int) [f,g])]))⟩:Fm)).1.kids)))]])∧H 17=(bk 1 24 3 [[(iV ((simp_ f).1.op)),(iV ((simp_ f).1.arg)),(V.sl (List.map cF ((simp_ f).1.kids)))]])∧True) ?_ ?_
    ·
     by_cases g18:(((((simp_ (⟨((((6:Int)))),((((0:Int)))),(([f,g,h]))⟩:Fm)).2)=(0:Int))∨(((simp_ (⟨((((6:Int)))),((((0:Int)))),(([f,g,h]))⟩:Fm)).2)=(11:Int)))∧((((simp_ (⟨((((6:Int)))),((((0:Int)))),(([h,(Fm.nd (6:Int) (0:Int) [g,f,g])]))⟩:Fm)).2)=(0:Int))∨(((simp_ (⟨((((6:Int)))),((((0:Int)))),(([h,(Fm.nd (6:Int) (0:Int) [g,f,g])]))⟩:Fm)).2)=(11:Int))))∧((((simp_ (⟨((((6:Int)))),((((0:Int)))),(([(Fm.nd (6:Int) (0:Int) [f,h]),g,(Fm.nd (4:Int) (0:Int) [(Fm.nd (4:Int) (0:Int) [h])])]))⟩:Fm)).2)=(0:Int))∨(((simp_ (⟨((((6:Int)))),((((0:Int)))),(([(Fm.nd (6:Int) (0:Int) [f,h]),g,(Fm.nd (4:Int) (0:Int) [(Fm.nd (4:Int) (0:Int) [h])])]))⟩:Fm)).2)=(11:Int)))
     ·
      refine G_yes (edT g18 rfl) (R_mv t16 (G_yes (edT g18 rfl) (R_eql rfl rfl (G_yes (edT g18 rfl) (R_mv rfl ?_)))))
      refine Ops_seg 3 (fun T H=>T 18=(iV ((simp_ f).2))∧T 157=(V.bool true)∧T 163=(V.bool (decide ((((simp_ (⟨((((6:Int)))),((((0:Int)))),(([f,(Fm.nd (5:Int) (0:Int) [f,g])]))⟩:Fm)).2)=(0:Int))∨(((simp_ (⟨((((6:Int)))),((((0:Int)))),(([f,(Fm.nd (5:Int) (0:Int) [f,g])]))⟩:Fm)).2)=(11:Int)))))∧H 1=(bk 1 52 10 [[(iV (f.op)),(iV (f.arg)),(V.sl (List.map cF (f.kids))),(iV (g.op)),(iV (g.arg)),(V.sl (List.map cF (g.kids))),(iV (h.op)),(iV (h.arg)),(V.sl (List.map cF (h.kids))),(V.bool b)]])∧H 3=(bk 1 24 3 [[(iV (f.op)),(iV (f.arg)),(V.sl (List.map cF (f.kids)))]])∧H 4=(bk 1 24 3 [[(iV (g.op)),(iV (g.arg)),(V.sl (List.map cF (g.kids)))]])∧H 5=(bk 1 24 3 [[(iV (h.op)),(iV (h.arg)),(V.sl (List.map cF (h.kids)))]])∧H 9=(bk 1 24 3 [[(iV ((simp_ (⟨((((6:Int)))),((((0:Int)))),(([f,g,h]))⟩:Fm)).1.op)),(iV ((simp_ (⟨((((6:Int)))),((((0:Int)))),(([f,g,h]))⟩:Fm)).1.arg)),(V.sl (List.map cF ((simp_ (⟨((((6:Int)))),((((0:Int)))),(([f,g,h]))⟩:Fm)).1.kids)))]])∧H 11=(bk 1 24 3 [[(iV ((simp_ (⟨((((6:Int)))),((((0:Int)))),(([h,(Fm.nd (6:Int) (0:Int) [g,f,g])]))⟩:Fm)).1.op)),(iV ((simp_ (⟨((((6:Int)))),((((0:Int)))),(([h,(Fm.nd (6:Int) (0:Int) [g,f,g])]))⟩:Fm)).1.arg)),(V.sl (List.map cF ((simp_ (⟨((((6:Int)))),((((0:Int)))),(([h,(Fm.nd (6:Int) (0:Int) [g,f,g])]))⟩:Fm)).1.kids)))]])∧H 13=(bk 1 24 3 [[(iV ((simp_ (⟨((((6:Int)))),((((0:Int)))),(([(Fm.nd (6:Int) (0:Int) [f,h]),g,(Fm.nd (4:Int) (0:Int) [(Fm.nd (4:Int) (0:Int) [h])])]))⟩:Fm)).1.op)),(iV ((simp_ (⟨((((6:Int)))),((((0:Int)))),(([(Fm.nd (6:Int) (0:Int) [f,h]),g,(Fm.nd (4:Int) (0:Int) [(Fm.nd (4:Int) (0:Int) [h])])]))⟩:Fm)).1.arg)),(V.sl (List.map cF ((simp_ (⟨((((6:Int)))),((((0:Int)))),(([(Fm.nd (6:Int) (0:Int) [f,h]),g,(Fm.nd (4:Int) (0:Int) [(Fm.nd (4:Int) (0:Int) [h])])]))⟩:Fm)).1.kids)))]])∧H 15=(bk 1 24 3 [[(iV ((simp_ (⟨((((6:Int)))),((((0:Int)))),(([f,(Fm.nd (5:Int) (0:Int) [f,g])]))⟩:Fm)).1.op)),(iV ((simp_ (⟨((((6:Int)))),((((0:Int)))),(([f,(Fm.nd (5:Int) (0:Int) [f,g])]))⟩:Fm)).1.arg)),(V.sl (List.map cF ((simp_ (⟨((((6:Int)))),((((0:Int)))),(([f,(Fm.nd (5:Int) (0:Int) [f,g])]))⟩:Fm)).1.kids)))]])∧H 17=(bk 1 24 3 [[(iV ((simp_ f).1.op)),(iV ((simp_ f).1.arg)),(V.sl (List.map cF ((simp_ f).1.kids)))]])∧True) ?_ ?_
      ·
       by_cases g19:((simp_ (⟨((((6:Int)))),((((0:Int)))),(([f,(Fm.nd (5:Int) (0:Int) [f,g])]))⟩:Fm)).2)=(0:Int)
       ·
        refine G_n (edT g19 rfl) (G_n (edT g19 rfl) (G_yes (edT g18 rfl) (R_pickT (edT g19 rfl) rfl ?_)))
        exact ⟨t18,(edT g18 rfl),(dec_orT g19),h1,h3,h4,h5,h9,h11,h13,h15,h17,trivial⟩
       ·
        refine G_yes (edF g19 rfl) (R_mv t16 (G_yes (edF g19 rfl) (R_eql rfl rfl (G_yes (edT g18 rfl) (R_pickF (edF g19 rfl) rfl ?_)))))
        exact ⟨t18,(edT g18 rfl),(dec_orF g19),h1,h3,h4,h5,h9,h11,h13,h15,h17,trivial⟩
      intro T H ⟨t18,t157,t163,h1,h3,h4,h5,h9,h11,h13,h15,h17,_⟩
      refine R_pickT t157 t163 ?_
      exact ⟨t18,(dec_andT g18),h1,h3,h4,h5,h9,h11,h13,h15,h17,trivial⟩
     ·
      refine G_n (edF g18 rfl) (G_n (edF g18 rfl) (G_n (edF g18 rfl) (G_raw (@rfl V (V.raw undef)) (G_raw (@rfl V (V.raw undef)) (G_n (edF g18 rfl) (R_pickF (edF g18 rfl) rfl ?_))))))
      exact ⟨t18,(dec_andF g18),h1,h3,h4,h5,h9,h11,h13,h15,h17,trivial⟩
    intro T H ⟨t18,t164,h1,h3,h4,h5,h9,h11,h13,h15,h17,_⟩
    refine R_mv t164 ?_
    refine Ops_seg 7 (fun T H=>T 172=(V.bool (decide ((((((((simp_ (⟨((((6:Int)))),((((0:Int)))),(([f,g,h]))⟩:Fm)).2)=(0:Int))∨(((simp_ (⟨((((6:Int)))),((((0:Int)))),(([f,g,h]))⟩:Fm)).2)=(11:Int)))∧((((simp_ (⟨((((6:Int)))),((((0:Int)))),(([h,(Fm.nd (6:Int) (0:Int) [g,f,g])]))⟩:Fm)).2)=(0:Int))∨(((simp_ (⟨((((6:Int)))),((((0:Int)))),(([h,(Fm.nd (6:Int) (0:Int) [g,f,g])]))⟩:Fm)).2)=(11:Int))))∧((((simp_ (⟨((((6:Int)))),((((0:Int)))),(([(Fm.nd (6:Int) (0:Int) [f,h]),g,(Fm.nd (4:Int) (0:Int) [(Fm.nd (4:Int) (0:Int) [h])])]))⟩:Fm)).2)=(0:Int))∨(((simp_ (⟨((((6:Int)))),((((0:Int)))),(([(Fm.nd (6:Int) (0:Int) [f,h]),g,(Fm.nd (4:Int) (0:Int) [(Fm.nd (4:Int) (0:Int) [h])])]))⟩:Fm)).2)=(11:Int))))∧((((simp_ (⟨((((6:Int)))),((((0:Int)))),(([f,(Fm.nd (5:Int) (0:Int) [f,g])]))⟩:Fm)).2)=(0:Int))∨(((simp_ (⟨((((6:Int)))),((((0:Int)))),(([f,(Fm.nd (5:Int) (0:Int) [f,g])]))⟩:Fm)).2)=(11:Int))))∧((((simp_ f).2)=(0:Int))∨(((simp_ f).2)=(11:Int))))))∧H 1=(bk 1 52 10 [[(iV (f.op)),(iV (f.arg)),(V.sl (List.map cF (f.kids))),(iV (g.op)),(iV (g.arg)),(V.sl (List.map cF (g.kids))),(iV (h.op)),(iV (h.arg)),(V.sl (List.map cF (h.kids))),(V.bool b)]])∧H 3=(bk 1 24 3 [[(iV (f.op)),(iV (f.arg)),(V.sl (List.map cF (f.kids)))]])∧H 4=(bk 1 24 3 [[(iV (g.op)),(iV (g.arg)),(V.sl (List.map cF (g.kids)))]])∧H 5=(bk 1 24 3 [[(iV (h.op)),(iV (h.arg)),(V.sl (List.map cF (h.kids)))]])∧H 9=(bk 1 24 3 [[(iV ((simp_ (⟨((((6:Int)))),((((0:Int)))),(([f,g,h]))⟩:Fm)).1.op)),(iV ((simp_ (⟨((((6:Int)))),((((0:Int)))),(([f,g,h]))⟩:Fm)).1.arg)),(V.sl (List.map cF ((simp_ (⟨((((6:Int)))),((((0:Int)))),(([f,g,h]))⟩:Fm)).1.kids)))]])∧H 11=(bk 1 24 3 [[(iV ((simp_ (⟨((((6:Int)))),((((0:Int)))),(([h,(Fm.nd (6:Int) (0:Int) [g,f,g])]))⟩:Fm)).1.op)),(iV ((simp_ (⟨((((6:Int)))),((((0:Int)))),(([h,(Fm.nd (6:Int) (0:Int) [g,f,g])]))⟩:Fm)).1.arg)),(V.sl (List.map cF ((simp_ (⟨((((6:Int)))),((((0:Int)))),(([h,(Fm.nd (6:Int) (0:Int) [g,f,g])]))⟩:Fm)).1.kids)))]])∧H 13=(bk 1 24 3 [[(iV ((simp_ (⟨((((6:Int)))),((((0:Int)))),(([(Fm.nd (6:Int) (0:Int) [f,h]),g,(Fm.nd (4:Int) (0:Int) [(Fm.nd (4:Int) (0:Int) [h])])]))⟩:Fm)).1.op)),(iV ((simp_ (⟨((((6:Int)))),((((0:Int)))),(([(Fm.nd (6:Int) (0:Int) [f,h]),g,(Fm.nd (4:Int) (0:Int) [(Fm.nd (4:Int) (0:Int) [h])])]))⟩:Fm)).1.arg)),(V.sl (List.map cF ((simp_ (⟨((((6:Int)))),((((0:Int)))),(([(Fm.nd (6:Int) (0:Int) [f,h]),g,(Fm.nd (4:Int) (0:Int) [(Fm.nd (4:Int) (0:Int) [h])])]))⟩:Fm)).1.kids)))]])∧H 15=(bk 1 24 3 [[(iV ((simp_ (⟨((((6:Int)))),((((0:Int)))),(([f,(Fm.nd (5:Int) (0:Int) [f,g])]))⟩:Fm)).1.op)),(iV ((simp_ (⟨((((6:Int)))),((((0:Int)))),(([f,(Fm.nd (5:Int) (0:Int) [f,g])]))⟩:Fm)).1.arg)),(V.sl (List.map cF ((simp_ (⟨((((6:Int)))),((((0:Int)))),(([f,(Fm.nd (5:Int) (0:Int) [f,g])]))⟩:Fm)).1.kids)))]])∧H 17=(bk 1 24 3 [[(iV ((simp_ f).1.op)),(iV ((simp_ f).1.arg)),(V.sl (List.map cF ((simp_ f).1.kids)))]])∧True) ?_ ?_
    ·
     by_cases g20:((((((simp_ (⟨((((6:Int)))),((((0:Int)))),(([f,g,h]))⟩:Fm)).2)=(0:Int))∨(((simp_ (⟨((((6:Int)))),((((0:Int)))),(([f,g,h]))⟩:Fm)).2)=(11:Int)))∧((((simp_ (⟨((((6:Int)))),((((0:Int)))),(([h,(Fm.nd (6:Int) (0:Int) [g,f,g])]))⟩:Fm)).2)=(0:Int))∨(((simp_ (⟨((((6:Int)))),((((0:Int)))),(([h,(Fm.nd (6:Int) (0:Int) [g,f,g])]))⟩:Fm)).2)=(11:Int))))∧((((simp_ (⟨((((6:Int)))),((((0:Int)))),(([(Fm.nd (6:Int) (0:Int) [f,h]),g,(Fm.nd (4:Int) (0:Int) [(Fm.nd (4:Int) (0:Int) [h])])]))⟩:Fm)).2)=(0:Int))∨(((simp_ (⟨((((6:Int)))),((((0:Int)))),(([(Fm.nd (6:Int) (0:Int) [f,h]),g,(Fm.nd (4:Int) (0:Int) [(Fm.nd (4:Int) (0:Int) [h])])]))⟩:Fm)).2)=(11:Int))))∧((((simp_ (⟨((((6:Int)))),((((0:Int)))),(([f,(Fm.nd (5:Int) (0:Int) [f,g])]))⟩:Fm)).2)=(0:Int))∨(((simp_ (⟨((((6:Int)))),((((0:Int)))),(([f,(Fm.nd (5:Int) (0:Int) [f,g])]))⟩:Fm)).2)=(11:Int)))
     ·
      refine G_yes (edT g20 rfl) (R_mv t18 (G_yes (edT g20 rfl) (R_eql rfl rfl (G_yes (edT g20 rfl) (R_mv rfl ?_)))))
      refine Ops_seg 3 (fun T H=>T 165=(V.bool true)∧T 171=(V.bool (decide ((((simp_ f).2)=(0:Int))∨(((simp_ f).2)=(11:Int)))))∧H 1=(bk 1 52 10 [[(iV (f.op)),(iV (f.arg)),(V.sl (List.map cF (f.kids))),(iV (g.op)),(iV (g.arg)),(V.sl (List.map cF (g.kids))),(iV (h.op)),(iV (h.arg)),(V.sl (List.map cF (h.kids))),(V.bool b)]])∧H 3=(bk 1 24 3 [[(iV (f.op)),(iV (f.arg)),(V.sl (List.map cF (f.kids)))]])∧H 4=(bk 1 24 3 [[(iV (g.op)),(iV (g.arg)),(V.sl (List.map cF (g.kids)))]])∧H 5=(bk 1 24 3 [[(iV (h.op)),(iV (h.arg)),(V.sl (List.map cF (h.kids)))]])∧H 9=(bk 1 24 3 [[(iV ((simp_ (⟨((((6:Int)))),((((0:Int)))),(([f,g,h]))⟩:Fm)).1.op)),(iV ((simp_ (⟨((((6:Int)))),((((0:Int)))),(([f,g,h]))⟩:Fm)).1.arg)),(V.sl (List.map cF ((simp_ (⟨((((6:Int)))),((((0:Int)))),(([f,g,h]))⟩:Fm)).1.kids)))]])∧H 11=(bk 1 24 3 [[(iV ((simp_ (⟨((((6:Int)))),((((0:Int)))),(([h,(Fm.nd (6:Int) (0:Int) [g,f,g])]))⟩:Fm)).1.op)),(iV ((simp_ (⟨((((6:Int)))),((((0:Int)))),(([h,(Fm.nd (6:Int) (0:Int) [g,f,g])]))⟩:Fm)).1.arg)),(V.sl (List.map cF ((simp_ (⟨((((6:Int)))),((((0:Int)))),(([h,(Fm.nd (6:Int) (0:Int) [g,f,g])]))⟩:Fm)).1.kids)))]])∧H 13=(bk 1 24 3 [[(iV ((simp_ (⟨((((6:Int)))),((((0:Int)))),(([(Fm.nd (6:Int) (0:Int) [f,h]),g,(Fm.nd (4:Int) (0:Int) [(Fm.nd (4:Int) (0:Int) [h])])]))⟩:Fm)).1.op)),(iV ((simp_ (⟨((((6:Int)))),((((0:Int)))),(([(Fm.nd (6:Int) (0:Int) [f,h]),g,(Fm.nd (4:Int) (0:Int) [(Fm.nd (4:Int) (0:Int) [h])])]))⟩:Fm)).1.arg)),(V.sl (List.map cF ((simp_ (⟨((((6:Int)))),((((0:Int)))),(([(Fm.nd (6:Int) (0:Int) [f,h]),g,(Fm.nd (4:Int) (0:Int) [(Fm.nd (4:Int) (0:Int) [h])])]))⟩:Fm)).1.kids)))]])∧H 15=(bk 1 24 3 [[(iV ((simp_ (⟨((((6:Int)))),((((0:Int)))),(([f,(Fm.nd (5:Int) (0:Int) [f,g])]))⟩:Fm)).1.op)),(iV ((simp_ (⟨((((6:Int)))),((((0:Int)))),(([f,(Fm.nd (5:Int) (0:Int) [f,g])]))⟩:Fm)).1.arg)),(V.sl (List.map cF ((simp_ (⟨((((6:Int)))),((((0:Int)))),(([f,(Fm.nd (5:Int) (0:Int) [f,g])]))⟩:Fm)).1.kids)))]])∧H 17=(bk 1 24 3 [[(iV ((simp_ f).1.op)),(iV ((simp_ f).1.arg)),(V.sl (List.map cF ((simp_ f).1.kids)))]])∧True) ?_ ?_
      ·
       by_cases g21:((simp_ f).2)=(0:Int)
       ·
        refine G_n (edT g21 rfl) (G_n (edT g21 rfl) (G_yes (edT g20 rfl) (R_pickT (edT g21 rfl) rfl ?_)))
        exact ⟨(edT g20 rfl),(dec_orT g21),h1,h3,h4,h5,h9,h11,h13,h15,h17,trivial⟩
       ·
        refine G_yes (edF g21 rfl) (R_mv t18 (G_yes (edF g21 rfl) (R_eql rfl rfl (G_yes (edT g20 rfl) (R_pickF (edF g21 rfl) rfl ?_)))))
        exact ⟨(edT g20 rfl),(dec_orF g21),h1,h3,h4,h5,h9,h11,h13,h15,h17,trivial⟩
      intro T H ⟨t165,t171,h1,h3,h4,h5,h9,h11,h13,h15,h17,_⟩
      refine R_pickT t165 t171 ?_
      exact ⟨(dec_andT g20),h1,h3,h4,h5,h9,h11,h13,h15,h17,trivial⟩
     ·
      refine G_n (edF g20 rfl) (G_n (edF g20 rfl) (G_n (edF g20 rfl) (G_raw (@rfl V (V.raw undef)) (G_raw (@rfl V (V.raw undef)) (G_n (edF g20 rfl) (R_pickF (edF g20 rfl) rfl ?_))))))
      exact ⟨(dec_andF g20),h1,h3,h4,h5,h9,h11,h13,h15,h17,trivial⟩
    intro T H ⟨t172,h1,h3,h4,h5,h9,h11,h13,h15,h17,_⟩
    refine R_mv t172 ?_
    refine Ops_seg 2 (fun T H=>T 175=(V.bool (decide ((((((((simp_ (⟨((((6:Int)))),((((0:Int)))),(([f,g,h]))⟩:Fm)).2)=(0:Int))∨(((simp_ (⟨((((6:Int)))),((((0:Int)))),(([f,g,h]))⟩:Fm)).2)=(11:Int)))∧((((simp_ (⟨((((6:Int)))),((((0:Int)))),(([h,(Fm.nd (6:Int) (0:Int) [g,f,g])]))⟩:Fm)).2)=(0:Int))∨(((simp_ (⟨((((6:Int)))),((((0:Int)))),(([h,(Fm.nd (6:Int) (0:Int) [g,f,g])]))⟩:Fm)).2)=(11:Int))))∧((((simp_ (⟨((((6:Int)))),((((0:Int)))),(([(Fm.nd (6:Int) (0:Int) [f,h]),g,(Fm.nd (4:Int) (0:Int) [(Fm.nd (4:Int) (0:Int) [h])])]))⟩:Fm)).2)=(0:Int))∨(((simp_ (⟨((((6:Int)))),((((0:Int)))),(([(Fm.nd (6:Int) (0:Int) [f,h]),g,(Fm.nd (4:Int) (0:Int) [(Fm.nd (4:Int) (0:Int) [h])])]))⟩:Fm)).2)=(11:Int))))∧((((simp_ (⟨((((6:Int)))),((((0:Int)))),(([f,(Fm.nd (5:Int) (0:Int) [f,g])]))⟩:Fm)).2)=(0:Int))∨(((simp_ (⟨((((6:Int)))),((((0:Int)))),(([f,(Fm.nd (5:Int) (0:Int) [f,g])]))⟩:Fm)).2)=(11:Int))))∧((((simp_ f).2)=(0:Int))∨(((simp_ f).2)=(11:Int))))))∧H 1=(bk 1 52 10 [[(iV (f.op)),(iV (f.arg)),(V.sl (List.map cF (f.kids))),(iV (g.op)),(iV (g.arg)),(V.sl (List.map cF (g.kids))),(iV (h.op)),(iV (h.arg)),(V.sl (List.map cF (h.kids))),(V.bool b)]])∧H 3=(bk 1 24 3 [[(iV (f.op)),(iV (f.arg)),(V.sl (List.map cF (f.kids)))]])∧H 4=(bk 1 24 3 [[(iV (g.op)),(iV (g.arg)),(V.sl (List.map cF (g.kids)))]])∧H 5=(bk 1 24 3 [[(iV (h.op)),(iV (h.arg)),(V.sl (List.map cF (h.kids)))]])∧H 9=(bk 1 24 3 [[(iV ((simp_ (⟨((((6:Int)))),((((0:Int)))),(([f,g,h]))⟩:Fm)).1.op)),(iV ((simp_ (⟨((((6:Int)))),((((0:Int)))),(([f,g,h]))⟩:Fm)).1.arg)),(V.sl (List.map cF ((simp_ (⟨((((6:Int)))),((((0:Int)))),(([f,g,h]))⟩:Fm)).1.kids)))]])∧H 11=(bk 1 24 3 [[(iV ((simp_ (⟨((((6:Int)))),((((0:Int)))),(([h,(Fm.nd (6:Int) (0:Int) [g,f,g])]))⟩:Fm)).1.op)),(iV ((simp_ (⟨((((6:Int)))),((((0:Int)))),(([h,(Fm.nd (6:Int) (0:Int) [g,f,g])]))⟩:Fm)).1.arg)),(V.sl (List.map cF ((simp_ (⟨((((6:Int)))),((((0:Int)))),(([h,(Fm.nd (6:Int) (0:Int) [g,f,g])]))⟩:Fm)).1.kids)))]])∧H 13=(bk 1 24 3 [[(iV ((simp_ (⟨((((6:Int)))),((((0:Int)))),(([(Fm.nd (6:Int) (0:Int) [f,h]),g,(Fm.nd (4:Int) (0:Int) [(Fm.nd (4:Int) (0:Int) [h])])]))⟩:Fm)).1.op)),(iV ((simp_ (⟨((((6:Int)))),((((0:Int)))),(([(Fm.nd (6:Int) (0:Int) [f,h]),g,(Fm.nd (4:Int) (0:Int) [(Fm.nd (4:Int) (0:Int) [h])])]))⟩:Fm)).1.arg)),(V.sl (List.map cF ((simp_ (⟨((((6:Int)))),((((0:Int)))),(([(Fm.nd (6:Int) (0:Int) [f,h]),g,(Fm.nd (4:Int) (0:Int) [(Fm.nd (4:Int) (0:Int) [h])])]))⟩:Fm)).1.kids)))]])∧H 15=(bk 1 24 3 [[(iV ((simp_ (⟨((((6:Int)))),((((0:Int)))),(([f,(Fm.nd (5:Int) (0:Int) [f,g])]))⟩:Fm)).1.op)),(iV ((simp_ (⟨((((6:Int)))),((((0:Int)))),(([f,(Fm.nd (5:Int) (0:Int) [f,g])]))⟩:Fm)).1.arg)),(V.sl (List.map cF ((simp_ (⟨((((6:Int)))),((((0:Int)))),(([f,(Fm.nd (5:Int) (0:Int) [f,g])]))⟩:Fm)).1.kids)))]])∧H 17=(bk 1 24 3 [[(iV ((simp_ f).1.op)),(iV ((simp_ f).1.arg)),(V.sl (List.map cF ((simp_ f).1.kids)))]])∧True) ?_ ?_
    ·
     by_cases g22:(((((((simp_ (⟨((((6:Int)))),((((0:Int)))),(([f,g,h]))⟩:Fm)).2)=(0:Int))∨(((simp_ (⟨((((6:Int)))),((((0:Int)))),(([f,g,h]))⟩:Fm)).2)=(11:Int)))∧((((simp_ (⟨((((6:Int)))),((((0:Int)))),(([h,(Fm.nd (6:Int) (0:Int) [g,f,g])]))⟩:Fm)).2)=(0:Int))∨(((simp_ (⟨((((6:Int)))),((((0:Int)))),(([h,(Fm.nd (6:Int) (0:Int) [g,f,g])]))⟩:Fm)).2)=(11:Int))))∧((((simp_ (⟨((((6:Int)))),((((0:Int)))),(([(Fm.nd (6:Int) (0:Int) [f,h]),g,(Fm.nd (4:Int) (0:Int) [(Fm.nd (4:Int) (0:Int) [h])])]))⟩:Fm)).2)=(0:Int))∨(((simp_ (⟨((((6:Int)))),((((0:Int)))),(([(Fm.nd (6:Int) (0:Int) [f,h]),g,(Fm.nd (4:Int) (0:Int) [(Fm.nd (4:Int) (0:Int) [h])])]))⟩:Fm)).2)=(11:Int))))∧((((simp_ (⟨((((6:Int)))),((((0:Int)))),(([f,(Fm.nd (5:Int) (0:Int) [f,g])]))⟩:Fm)).2)=(0:Int))∨(((simp_ (⟨((((6:Int)))),((((0:Int)))),(([f,(Fm.nd (5:Int) (0:Int) [f,g])]))⟩:Fm)).2)=(11:Int))))∧((((simp_ f).2)=(0:Int))∨(((simp_ f).2)=(11:Int)))
     ·
      refine G_yes (edT g22 rfl) (R_callk (aw46_pure) rfl (R_pickT (edT g22 rfl) rfl ?_))
      exact ⟨(dec_T g22),h1,h3,h4,h5,h9,h11,h13,h15,h17,trivial⟩
     ·
      refine G_n (edF g22 rfl) (R_pickF (edF g22 rfl) rfl ?_)
      exact ⟨(dec_F g22),h1,h3,h4,h5,h9,h11,h13,h15,h17,trivial⟩
    intro T H ⟨t175,h1,h3,h4,h5,h9,h11,h13,h15,h17,_⟩
    refine R_mv t175 ?_
    exact R_nil ⟨rfl,h1,h3,h4,h5,h9,h11,h13,h15,h17,trivial⟩
   intro T H ⟨t2,h1,h3,h4,h5,h9,h11,h13,h15,h17,_⟩
   refine W_seq_ret ?_
   refine Ret_1 t2 (fz_bool ?_)
   · first|rfl|(have a1:=od.ea; have a2:=od.eb; have a3:=od.ec; have a4:=od.ed; have a5:=od.ex; simp [a1,a2,a3,a4,a5]; done)|(rw [← q1,← q2,q3]; simp [sameF_self])
  obtain ⟨q1,q2,q3⟩:=od.all (by omega) (by omega) (by omega) (by omega) (by omega)
  refine W_seq_skip (W_r (R_lk t9 h9 rfl rfl (R_lk t11 h11 rfl rfl (R_callk (rsame_pure ((simp_ (⟨((((6:Int)))),((((0:Int)))),(([f,g,h]))⟩:Fm)).1) ((simp_ (⟨((((6:Int)))),((((0:Int)))),(([h,(Fm.nd (6:Int) (0:Int) [g,f,g])]))⟩:Fm)).1)) rfl (R_mv rfl ?_)))))
  refine Ops_seg 4 (fun T H=>T 15=(V.mp 15 1 0 0)∧T 17=(V.mp 17 1 0 0)∧T 183=(V.bool (((sameF ((simp_ (⟨((((6:Int)))),((((0:Int)))),(([f,g,h]))⟩:Fm)).1) ((simp_ (⟨((((6:Int)))),((((0:Int)))),(([h,(Fm.nd (6:Int) (0:Int) [g,f,g])]))⟩:Fm)).1))&&(sameF ((simp_ (⟨((((6:Int)))),((((0:Int)))),(([f,g,h]))⟩:Fm)).1) ((simp_ (⟨((((6:Int)))),((((0:Int)))),(([(Fm.nd (6:Int) (0:Int) [f,h]),g,(Fm.nd (4:Int) (0:Int) [(Fm.nd (4:Int) (0:Int) [h])])]))⟩:Fm)).1)))))∧H 1=(bk 1 52 10 [[(iV (f.op)),(iV (f.arg)),(V.sl (List.map cF (f.kids))),(iV (g.op)),(iV (g.arg)),(V.sl (List.map cF (g.kids))),(iV (h.op)),(iV (h.arg)),(V.sl (List.map cF (h.kids))),(V.bool b)]])∧H 3=(bk 1 24 3 [[(iV (f.op)),(iV (f.arg)),(V.sl (List.map cF (f.kids)))]])∧H 4=(bk 1 24 3 [[(iV (g.op)),(iV (g.arg)),(V.sl (List.map cF (g.kids)))]])∧H 5=(bk 1 24 3 [[(iV (h.op)),(iV (h.arg)),(V.sl (List.map cF (h.kids)))]])∧H 9=(bk 1 24 3 [[(iV ((simp_ (⟨((((6:Int)))),((((0:Int)))),(([f,g,h]))⟩:Fm)).1.op)),(iV ((simp_ (⟨((((6:Int)))),((((0:Int)))),(([f,g,h]))⟩:Fm)).1.arg)),(V.sl (List.map cF ((simp_ (⟨((((6:Int)))),((((0:Int)))),(([f,g,h]))⟩:Fm)).1.kids)))]])∧H 11=(bk 1 24 3 [[(iV ((simp_ (⟨((((6:Int)))),((((0:Int)))),(([h,(Fm.nd (6:Int) (0:Int) [g,f,g])]))⟩:Fm)).1.op)),(iV ((simp_ (⟨((((6:Int)))),((((0:Int)))),(([h,(Fm.nd (6:Int) (0:Int) [g,f,g])]))⟩:Fm)).1.arg)),(V.sl (List.map cF ((simp_ (⟨((((6:Int)))),((((0:Int)))),(([h,(Fm.nd (6:Int) (0:Int) [g,f,g])]))⟩:Fm)).1.kids)))]])∧H 13=(bk 1 24 3 [[(iV ((simp_ (⟨((((6:Int)))),((((0:Int)))),(([(Fm.nd (6:Int) (0:Int) [f,h]),g,(Fm.nd (4:Int) (0:Int) [(Fm.nd (4:Int) (0:Int) [h])])]))⟩:Fm)).1.op)),(iV ((simp_ (⟨((((6:Int)))),((((0:Int)))),(([(Fm.nd (6:Int) (0:Int) [f,h]),g,(Fm.nd (4:Int) (0:Int) [(Fm.nd (4:Int) (0:Int) [h])])]))⟩:Fm)).1.arg)),(V.sl (List.map cF ((simp_ (⟨((((6:Int)))),((((0:Int)))),(([(Fm.nd (6:Int) (0:Int) [f,h]),g,(Fm.nd (4:Int) (0:Int) [(Fm.nd (4:Int) (0:Int) [h])])]))⟩:Fm)).1.kids)))]])∧H 15=(bk 1 24 3 [[(iV ((simp_ (⟨((((6:Int)))),((((0:Int)))),(([f,(Fm.nd (5:Int) (0:Int) [f,g])]))⟩:Fm)).1.op)),(iV ((simp_ (⟨((((6:Int)))),((((0:Int)))),(([f,(Fm.nd (5:Int) (0:Int) [f,g])]))⟩:Fm)).1.arg)),(V.sl (List.map cF ((simp_ (⟨((((6:Int)))),((((0:Int)))),(([f,(Fm.nd (5:Int) (0:Int) [f,g])]))⟩:Fm)).1.kids)))]])∧H 17=(bk 1 24 3 [[(iV ((simp_ f).1.op)),(iV ((simp_ f).1.arg)),(V.sl (List.map cF ((simp_ f).1.kids)))]])∧True) ?_ ?_
  ·
   by_cases g23:(sameF ((simp_ (⟨((((6:Int)))),((((0:Int)))),(([f,g,h]))⟩:Fm)).1) ((simp_ (⟨((((6:Int)))),((((0:Int)))),(([h,(Fm.nd (6:Int) (0:Int) [g,f,g])]))⟩:Fm)).1))=true
   ·
    refine G_yes (ebT g23 rfl) (R_lk t9 h9 rfl rfl (G_yes (ebT g23 rfl) (R_lk t13 h13 rfl rfl (G_yes (ebT g23 rfl) (R_callk (rsame_pure ((simp_ (⟨((((6:Int)))),((((0:Int)))),(([f,g,h]))⟩:Fm)).1) ((simp_ (⟨((((6:Int)))),((((0:Int)))),(([(Fm.nd (6:Int) (0:Int) [f,h]),g,(Fm.nd (4:Int) (0:Int) [(Fm.nd (4:Int) (0:Int) [h])])]))⟩:Fm)).1)) rfl (R_pickT (ebT g23 rfl) rfl ?_))))))
    exact ⟨t15,t17,(bandT g23),h1,h3,h4,h5,h9,h11,h13,h15,h17,trivial⟩
   ·
    refine G_n (ebF g23 rfl) (G_n (ebF g23 rfl) (G_n (ebF g23 rfl) (R_pickF (ebF g23 rfl) rfl ?_)))
    exact ⟨t15,t17,(bandF g23),h1,h3,h4,h5,h9,h11,h13,h15,h17,trivial⟩
  intro T H ⟨t15,t17,t183,h1,h3,h4,h5,h9,h11,h13,h15,h17,_⟩
  refine R_mv t183 ?_
  refine Ops_seg 4 (fun T H=>T 188=(V.bool (((((sameF ((simp_ (⟨((((6:Int)))),((((0:Int)))),(([f,g,h]))⟩:Fm)).1) ((simp_ (⟨((((6:Int)))),((((0:Int)))),(([h,(Fm.nd (6:Int) (0:Int) [g,f,g])]))⟩:Fm)).1))&&(sameF ((simp_ (⟨((((6:Int)))),((((0:Int)))),(([f,g,h]))⟩:Fm)).1) ((simp_ (⟨((((6:Int)))),((((0:Int)))),(([(Fm.nd (6:Int) (0:Int) [f,h]),g,(Fm.nd (4:Int) (0:Int) [(Fm.nd (4:Int) (0:Int) [h])])]))⟩:Fm)).1))))&&(sameF ((simp_ (⟨((((6:Int)))),((((0:Int)))),(([f,(Fm.nd (5:Int) (0:Int) [f,g])]))⟩:Fm)).1) ((simp_ f).1)))))∧H 1=(bk 1 52 10 [[(iV (f.op)),(iV (f.arg)),(V.sl (List.map cF (f.kids))),(iV (g.op)),(iV (g.arg)),(V.sl (List.map cF (g.kids))),(iV (h.op)),(iV (h.arg)),(V.sl (List.map cF (h.kids))),(V.bool b)]])∧H 3=(bk 1 24 3 [[(iV (f.op)),(iV (f.arg)),(V.sl (List.map cF (f.kids)))]])∧H 4=(bk 1 24 3 [[(iV (g.op)),(iV (g.arg)),(V.sl (List.map cF (g.kids)))]])∧H 5=(bk 1 24 3 [[(iV (h.op)),(iV (h.arg)),(V.sl (List.map cF (h.kids)))]])∧H 9=(bk 1 24 3 [[(iV ((simp_ (⟨((((6:Int)))),((((0:Int)))),(([f,g,h]))⟩:Fm)).1.op)),(iV ((simp_ (⟨((((6:Int)))),((((0:Int)))),(([f,g,h]))⟩:Fm)).1.arg)),(V.sl (List.map cF ((simp_ (⟨((((6:Int)))),((((0:Int)))),(([f,g,h]))⟩:Fm)).1.kids)))]])∧H 11=(bk 1 24 3 [[(iV ((simp_ (⟨((((6:Int)))),((((0:Int)))),(([h,(Fm.nd (6:Int) (0:Int) [g,f,g])]))⟩:Fm)).1.op)),(iV ((simp_ (⟨((((6:Int)))),((((0:Int)))),(([h,(Fm.nd (6:Int) (0:Int) [g,f,g])]))⟩:Fm)).1.arg)),(V.sl (List.map cF ((simp_ (⟨((((6:Int)))),((((0:Int)))),(([h,(Fm.nd (6:Int) (0:Int) [g,f,g])]))⟩:Fm)).1.kids)))]])∧H 13=(bk 1 24 3 [[(iV ((simp_ (⟨((((6:Int)))),((((0:Int)))),(([(Fm.nd (6:Int) (0:Int) [f,h]),g,(Fm.nd (4:Int) (0:Int) [(Fm.nd (4:Int) (0:Int) [h])])]))⟩:Fm)).1.op)),(iV ((simp_ (⟨((((6:Int)))),((((0:Int)))),(([(Fm.nd (6:Int) (0:Int) [f,h]),g,(Fm.nd (4:Int) (0:Int) [(Fm.nd (4:Int) (0:Int) [h])])]))⟩:Fm)).1.arg)),(V.sl (List.map cF ((simp_ (⟨((((6:Int)))),((((0:Int)))),(([(Fm.nd (6:Int) (0:Int) [f,h]),g,(Fm.nd (4:Int) (0:Int) [(Fm.nd (4:Int) (0:Int) [h])])]))⟩:Fm)).1.kids)))]])∧H 15=(bk 1 24 3 [[(iV ((simp_ (⟨((((6:Int)))),((((0:Int)))),(([f,(Fm.nd (5:Int) (0:Int) [f,g])]))⟩:Fm)).1.op)),(iV ((simp_ (⟨((((6:Int)))),((((0:Int)))),(([f,(Fm.nd (5:Int) (0:Int) [f,g])]))⟩:Fm)).1.arg)),(V.sl (List.map cF ((simp_ (⟨((((6:Int)))),((((0:Int)))),(([f,(Fm.nd (5:Int) (0:Int) [f,g])]))⟩:Fm)).1.kids)))]])∧H 17=(bk 1 24 3 [[(iV ((simp_ f).1.op)),(iV ((simp_ f).1.arg)),(V.sl (List.map cF ((simp_ f).1.kids)))]])∧True) ?_ ?_
  ·
   by_cases g24:(((sameF ((simp_ (⟨((((6:Int)))),((((0:Int)))),(([f,g,h]))⟩:Fm)).1) ((simp_ (⟨((((6:Int)))),((((0:Int)))),(([h,(Fm.nd (6:Int) (0:Int) [g,f,g])]))⟩:Fm)).1))&&(sameF ((simp_ (⟨((((6:Int)))),((((0:Int)))),(([f,g,h]))⟩:Fm)).1) ((simp_ (⟨((((6:Int)))),((((0:Int)))),(([(Fm.nd (6:Int) (0:Int) [f,h]),g,(Fm.nd (4:Int) (0:Int) [(Fm.nd (4:Int) (0:Int) [h])])]))⟩:Fm)).1))))=true
   ·
    have g24x:=g24
    simp only [Bool.and_eq_true,Bool.or_eq_true,Bool.not_eq_true',decide_eq_true_eq] at g24x
    refine G_yes (ebT g24 rfl) (R_lk t15 h15 rfl rfl (G_yes (ebT g24 rfl) (R_lk t17 h17 rfl rfl (G_yes (ebT g24 rfl) (R_callk (rsame_pure ((simp_ (⟨((((6:Int)))),((((0:Int)))),(([f,(Fm.nd (5:Int) (0:Int) [f,g])]))⟩:Fm)).1) ((simp_ f).1)) rfl (R_pickT (ebT g24 rfl) rfl ?_))))))
    exact ⟨(bandT g24),h1,h3,h4,h5,h9,h11,h13,h15,h17,trivial⟩
   ·
    have g24x:=g24
    simp only [Bool.and_eq_true,Bool.or_eq_true,Bool.not_eq_true',decide_eq_true_eq] at g24x
    refine G_n (ebF g24 rfl) (G_n (ebF g24 rfl) (G_n (ebF g24 rfl) (R_pickF (ebF g24 rfl) rfl ?_)))
    exact ⟨(bandF g24),h1,h3,h4,h5,h9,h11,h13,h15,h17,trivial⟩
  intro T H ⟨t188,h1,h3,h4,h5,h9,h11,h13,h15,h17,_⟩
  refine R_mv t188 ?_
  refine Ops_seg 2 (fun T H=>T 191=(V.bool (((((((sameF ((simp_ (⟨((((6:Int)))),((((0:Int)))),(([f,g,h]))⟩:Fm)).1) ((simp_ (⟨((((6:Int)))),((((0:Int)))),(([h,(Fm.nd (6:Int) (0:Int) [g,f,g])]))⟩:Fm)).1))&&(sameF ((simp_ (⟨((((6:Int)))),((((0:Int)))),(([f,g,h]))⟩:Fm)).1) ((simp_ (⟨((((6:Int)))),((((0:Int)))),(([(Fm.nd (6:Int) (0:Int) [f,h]),g,(Fm.nd (4:Int) (0:Int) [(Fm.nd (4:Int) (0:Int) [h])])]))⟩:Fm)).1))))&&(sameF ((simp_ (⟨((((6:Int)))),((((0:Int)))),(([f,(Fm.nd (5:Int) (0:Int) [f,g])]))⟩:Fm)).1) ((simp_ f).1))))||false)))∧H 1=(bk 1 52 10 [[(iV (f.op)),(iV (f.arg)),(V.sl (List.map cF (f.kids))),(iV (g.op)),(iV (g.arg)),(V.sl (List.map cF (g.kids))),(iV (h.op)),(iV (h.arg)),(V.sl (List.map cF (h.kids))),(V.bool b)]])∧H 3=(bk 1 24 3 [[(iV (f.op)),(iV (f.arg)),(V.sl (List.map cF (f.kids)))]])∧H 4=(bk 1 24 3 [[(iV (g.op)),(iV (g.arg)),(V.sl (List.map cF (g.kids)))]])∧H 5=(bk 1 24 3 [[(iV (h.op)),(iV (h.arg)),(V.sl (List.map cF (h.kids)))]])∧H 9=(bk 1 24 3 [[(iV ((simp_ (⟨((((6:Int)))),((((0:Int)))),(([f,g,h]))⟩:Fm)).1.op)),(iV ((simp_ (⟨((((6:Int)))),((((0:Int)))),(([f,g,h]))⟩:Fm)).1.arg)),(V.sl (List.map cF ((simp_ (⟨((((6:Int)))),((((0:Int)))),(([f,g,h]))⟩:Fm)).1.kids)))]])∧H 11=(bk 1 24 3 [[(iV ((simp_ (⟨((((6:Int)))),((((0:Int)))),(([h,(Fm.nd (6:Int) (0:Int) [g,f,g])]))⟩:Fm)).1.op)),(iV ((simp_ (⟨((((6:Int)))),((((0:Int)))),(([h,(Fm.nd (6:Int) (0:Int) [g,f,g])]))⟩:Fm)).1.arg)),(V.sl (List.map cF ((simp_ (⟨((((6:Int)))),((((0:Int)))),(([h,(Fm.nd (6:Int) (0:Int) [g,f,g])]))⟩:Fm)).1.kids)))]])∧H 13=(bk 1 24 3 [[(iV ((simp_ (⟨((((6:Int)))),((((0:Int)))),(([(Fm.nd (6:Int) (0:Int) [f,h]),g,(Fm.nd (4:Int) (0:Int) [(Fm.nd (4:Int) (0:Int) [h])])]))⟩:Fm)).1.op)),(iV ((simp_ (⟨((((6:Int)))),((((0:Int)))),(([(Fm.nd (6:Int) (0:Int) [f,h]),g,(Fm.nd (4:Int) (0:Int) [(Fm.nd (4:Int) (0:Int) [h])])]))⟩:Fm)).1.arg)),(V.sl (List.map cF ((simp_ (⟨((((6:Int)))),((((0:Int)))),(([(Fm.nd (6:Int) (0:Int) [f,h]),g,(Fm.nd (4:Int) (0:Int) [(Fm.nd (4:Int) (0:Int) [h])])]))⟩:Fm)).1.kids)))]])∧H 15=(bk 1 24 3 [[(iV ((simp_ (⟨((((6:Int)))),((((0:Int)))),(([f,(Fm.nd (5:Int) (0:Int) [f,g])]))⟩:Fm)).1.op)),(iV ((simp_ (⟨((((6:Int)))),((((0:Int)))),(([f,(Fm.nd (5:Int) (0:Int) [f,g])]))⟩:Fm)).1.arg)),(V.sl (List.map cF ((simp_ (⟨((((6:Int)))),((((0:Int)))),(([f,(Fm.nd (5:Int) (0:Int) [f,g])]))⟩:Fm)).1.kids)))]])∧H 17=(bk 1 24 3 [[(iV ((simp_ f).1.op)),(iV ((simp_ f).1.arg)),(V.sl (List.map cF ((simp_ f).1.kids)))]])∧True) ?_ ?_
  ·
   by_cases g25:(((((sameF ((simp_ (⟨((((6:Int)))),((((0:Int)))),(([f,g,h]))⟩:Fm)).1) ((simp_ (⟨((((6:Int)))),((((0:Int)))),(([h,(Fm.nd (6:Int) (0:Int) [g,f,g])]))⟩:Fm)).1))&&(sameF ((simp_ (⟨((((6:Int)))),((((0:Int)))),(([f,g,h]))⟩:Fm)).1) ((simp_ (⟨((((6:Int)))),((((0:Int)))),(([(Fm.nd (6:Int) (0:Int) [f,h]),g,(Fm.nd (4:Int) (0:Int) [(Fm.nd (4:Int) (0:Int) [h])])]))⟩:Fm)).1))))&&(sameF ((simp_ (⟨((((6:Int)))),((((0:Int)))),(([f,(Fm.nd (5:Int) (0:Int) [f,g])]))⟩:Fm)).1) ((simp_ f).1))))=true
   ·
    have g25x:=g25
    simp only [Bool.and_eq_true,Bool.or_eq_true,Bool.not_eq_true',decide_eq_true_eq] at g25x
    refine G_yes (ebT g25 rfl) (R_callk (aw46_pure) rfl (R_pickT (ebT g25 rfl) rfl ?_))
    exact ⟨(borT g25),h1,h3,h4,h5,h9,h11,h13,h15,h17,trivial⟩
   ·
    have g25x:=g25
    simp only [Bool.and_eq_true,Bool.or_eq_true,Bool.not_eq_true',decide_eq_true_eq] at g25x
    refine G_n (ebF g25 rfl) (R_pickF (ebF g25 rfl) rfl ?_)
    exact ⟨(borF g25),h1,h3,h4,h5,h9,h11,h13,h15,h17,trivial⟩
  intro T H ⟨t191,h1,h3,h4,h5,h9,h11,h13,h15,h17,_⟩
  refine R_mv t191 (R_e (W_ret ?_))
  refine Ret_1 (@rfl V (V.bool (((((((sameF ((simp_ (⟨((((6:Int)))),((((0:Int)))),(([f,g,h]))⟩:Fm)).1) ((simp_ (⟨((((6:Int)))),((((0:Int)))),(([h,(Fm.nd (6:Int) (0:Int) [g,f,g])]))⟩:Fm)).1))&&(sameF ((simp_ (⟨((((6:Int)))),((((0:Int)))),(([f,g,h]))⟩:Fm)).1) ((simp_ (⟨((((6:Int)))),((((0:Int)))),(([(Fm.nd (6:Int) (0:Int) [f,h]),g,(Fm.nd (4:Int) (0:Int) [(Fm.nd (4:Int) (0:Int) [h])])]))⟩:Fm)).1))))&&(sameF ((simp_ (⟨((((6:Int)))),((((0:Int)))),(([f,(Fm.nd (5:Int) (0:Int) [f,g])]))⟩:Fm)).1) ((simp_ f).1))))||false)))) (fz_bool ?_)
  · first|rfl|(have a1:=od.ea; have a2:=od.eb; have a3:=od.ec; have a4:=od.ed; have a5:=od.ex; simp [a1,a2,a3,a4,a5]; done)|(rw [← q1,← q2,q3]; simp [sameF_self])
 have od:=ordr (f:=f) (g:=g) (h:=h) (p:=5) (d:=6) (.inl ⟨rfl,rfl⟩) v1 v2 v3 (by omega) (by omega) (by omega)
 refine W_seq_skip (W_r (R_mv rfl (R_lk t3 h3 rfl rfl (R_lk t4 h4 rfl rfl (R_lk t5 h5 rfl rfl (R_bslice rfl rfl (R_callk (lnode_pure ((5:Int)) ((0:Int)) ([f,g,h])) (evcons rfl (evcons rfl (evcons (sl_F3 (x:=f) (y:=g) (z:=h) rfl) evnil))) ?_)))))))
 refine R_callk (simplify_pure (⟨((((5:Int)))),((((0:Int)))),(([f,g,h]))⟩:Fm)) rfl (R_mv rfl (R_ext rfl rfl (R_ext rfl rfl (R_alloc (i:=9) (n:=0) (m:=3) rfl (congrArg Blk.ver h9) rfl (R_sk rfl rfl rfl rfl rfl rfl rfl rfl rfl (R_mv rfl (R_e ?_)))))))
 refine W_d (by exact (lateC (congrArg Blk.live h11) lateN)) (R_mv rfl (R_lk t5 h5 rfl rfl (R_mv rfl (R_lk t4 h4 rfl rfl (R_lk t3 h3 rfl rfl (R_lk t4 h4 rfl rfl (R_bslice rfl rfl ?_)))))))
 refine R_callk (lnode_pure ((5:Int)) ((0:Int)) ([g,f,g])) (evcons rfl (evcons rfl (evcons (sl_F3 (x:=g) (y:=f) (z:=g) rfl) evnil))) (R_bslice rfl rfl (R_callk (lnode_pure ((5:Int)) ((0:Int)) ([h,(Fm.nd (5:Int) (0:Int) [g,f,g])])) (evcons rfl (evcons rfl (evcons (sl_F2 (x:=h) (y:=((Fm.nd (5:Int) (0:Int) [g,f,g]))) rfl) evnil))) (R_callk (simplify_pure (⟨((((5:Int)))),((((0:Int)))),(([h,(Fm.nd (5:Int) (0:Int) [g,f,g])]))⟩:Fm)) rfl (R_mv rfl (R_ext rfl rfl (R_ext rfl rfl (R_alloc (i:=11) (n:=0) (m:=3) rfl (congrArg Blk.ver h11) rfl ?_)))))))
 refine R_sk rfl rfl rfl rfl rfl rfl rfl rfl rfl (R_mv rfl (R_e ?_))
 refine W_seq_dregc (fun T H=>T 3=(V.mp 3 1 0 0)∧T 4=(V.mp 4 1 0 0)∧T 7=(iV (5:Int))∧T 8=(iV (6:Int))∧T 9=(V.mp 9 1 0 0)∧T 10=(iV ((simp_ (⟨((((5:Int)))),((((0:Int)))),(([f,g,h]))⟩:Fm)).2))∧T 11=(V.mp 11 1 0 0)∧T 12=(iV ((simp_ (⟨((((5:Int)))),((((0:Int)))),(([h,(Fm.nd (5:Int) (0:Int) [g,f,g])]))⟩:Fm)).2))∧T 13=(V.mp 13 1 0 0)∧T 14=(iV ((simp_ (⟨((((5:Int)))),((((0:Int)))),(([(Fm.nd (5:Int) (0:Int) [f,h]),g,(Fm.nd (4:Int) (0:Int) [(Fm.nd (4:Int) (0:Int) [h])])]))⟩:Fm)).2))∧H 1=(bk 1 52 10 [[(iV (f.op)),(iV (f.arg)),(V.sl (List.map cF (f.kids))),(iV (g.op)),(iV (g.arg)),(V.sl (List.map cF (g.kids))),(iV (h.op)),(iV (h.arg)),(V.sl (List.map cF (h.kids))),(V.bool b)]])∧H 3=(bk 1 24 3 [[(iV (f.op)),(iV (f.arg)),(V.sl (List.map cF (f.kids)))]])∧H 4=(bk 1 24 3 [[(iV (g.op)),(iV (g.arg)),(V.sl (List.map cF (g.kids)))]])∧H 5=(bk 1 24 3 [[(iV (h.op)),(iV (h.arg)),(V.sl (List.map cF (h.kids)))]])∧H 9=(bk 1 24 3 [[(iV ((simp_ (⟨((((5:Int)))),((((0:Int)))),(([f,g,h]))⟩:Fm)).1.op)),(iV ((simp_ (⟨((((5:Int)))),((((0:Int)))),(([f,g,h]))⟩:Fm)).1.arg)),(V.sl (List.map cF ((simp_ (⟨((((5:Int)))),((((0:Int)))),(([f,g,h]))⟩:Fm)).1.kids)))]])∧H 11=(bk 1 24 3 [[(iV ((simp_ (⟨((((5:Int)))),((((0:Int)))),(([h,(Fm.nd (5:Int) (0:Int) [g,f,g])]))⟩:Fm)).1.op)),(iV ((simp_ (⟨((((5:Int)))),((((0:Int)))),(([h,(Fm.nd (5:Int) (0:Int) [g,f,g])]))⟩:Fm)).1.arg)),(V.sl (List.map cF ((simp_ (⟨((((5:Int)))),((((0:Int)))),(([h,(Fm.nd (5:Int) (0:Int) [g,f,g])]))⟩:Fm)).1.kids)))]])∧H 13=(bk 1 24 3 [[(iV ((simp_ (⟨((((5:Int)))),((((0:Int)))),(([(Fm.nd (5:Int) (0:Int) [f,h]),g,(Fm.nd (4:Int) (0:Int) [(Fm.nd (4:Int) (0:Int) [h])])]))⟩:Fm)).1.op)),(iV ((simp_ (⟨((((5:Int)))),((((0:Int)))),(([(Fm.nd (5:Int) (0:Int) [f,h]),g,(Fm.nd (4:Int) (0:Int) [(Fm.nd (4:Int) (0:Int) [h])])]))⟩:Fm)).1.arg)),(V.sl (List.map cF ((simp_ (⟨((((5:Int)))),((((0:Int)))),(([(Fm.nd (5:Int) (0:Int) [f,h]),g,(Fm.nd (4:Int) (0:Int) [(Fm.nd (4:Int) (0:Int) [h])])]))⟩:Fm)).1.kids)))]])∧H 15=(⟨0,false,false,0,0,[]⟩:Blk)∧H 17=(⟨0,false,false,0,0,[]⟩:Blk)∧True) (by exact (lateC (congrArg Blk.live h13) lateN)) ?_ ?_
 ·
  refine R_mv rfl (R_mv rfl (R_lk t3 h3 rfl rfl (R_lk t5 h5 rfl rfl (R_bslice rfl rfl (R_callk (lnode_pure ((5:Int)) ((0:Int)) ([f,h])) (evcons rfl (evcons rfl (evcons (sl_F2 (x:=f) (y:=h) rfl) evnil))) (R_lk t4 h4 rfl rfl (R_lk t5 h5 rfl rfl ?_)))))))
  refine R_bslice rfl rfl (R_callk (lnode_pure ((4:Int)) ((0:Int)) ([h])) (evcons rfl (evcons rfl (evcons (sl_F1 (x:=h) rfl) evnil))) (R_bslice rfl rfl (R_callk (lnode_pure ((4:Int)) ((0:Int)) ([(Fm.nd (4:Int) (0:Int) [h])])) (evcons rfl (evcons rfl (evcons (sl_F1 (x:=((Fm.nd (4:Int) (0:Int) [h]))) rfl) evnil))) (R_bslice rfl rfl (R_callk (lnode_pure ((5:Int)) ((0:Int)) ([(Fm.nd (5:Int) (0:Int) [f,h]),g,(Fm.nd (4:Int) (0:Int) [(Fm.nd (4:Int) (0:Int) [h])])])) (evcons rfl (evcons rfl (evcons (sl_F3 (x:=((Fm.nd (5:Int) (0:Int) [f,h]))) (y:=g) (z:=((Fm.nd (4:Int) (0:Int) [(Fm.nd (4:Int) (0:Int) [h])]))) rfl) evnil))) (R_callk (simplify_pure (⟨((((5:Int)))),((((0:Int)))),(([(Fm.nd (5:Int) (0:Int) [f,h]),g,(Fm.nd (4:Int) (0:Int) [(Fm.nd (4:Int) (0:Int) [h])])]))⟩:Fm)) rfl (R_mv rfl ?_)))))))
  refine R_ext rfl rfl (R_ext rfl rfl (R_alloc (i:=13) (n:=0) (m:=3) rfl (congrArg Blk.ver h13) rfl (R_sk rfl rfl rfl rfl rfl rfl rfl rfl rfl (R_mv rfl ?_))))
  exact R_nil ⟨t3,t4,rfl,rfl,rfl,rfl,rfl,rfl,rfl,rfl,h1,h3,h4,h5,rfl,rfl,rfl,h15,h17,trivial⟩
 intro T H ⟨t3,t4,t7,t8,t9,t10,t11,t12,t13,t14,h1,h3,h4,h5,h9,h11,h13,h15,h17,_⟩
 refine W_d (by exact (lateC (congrArg Blk.live h15) lateN)) (R_mv t7 (R_lk t3 h3 rfl rfl (R_mv t8 (R_lk t3 h3 rfl rfl (R_lk t4 h4 rfl rfl (R_bslice rfl rfl (R_callk (lnode_pure ((6:Int)) ((0:Int)) ([f,g])) (evcons rfl (evcons rfl (evcons (sl_F2 (x:=f) (y:=g) rfl) evnil))) ?_)))))))
 refine R_bslice rfl rfl (R_callk (lnode_pure ((5:Int)) ((0:Int)) ([f,(Fm.nd (6:Int) (0:Int) [f,g])])) (evcons rfl (evcons rfl (evcons (sl_F2 (x:=f) (y:=((Fm.nd (6:Int) (0:Int) [f,g]))) rfl) evnil))) (R_callk (simplify_pure (⟨((((5:Int)))),((((0:Int)))),(([f,(Fm.nd (6:Int) (0:Int) [f,g])]))⟩:Fm)) rfl (R_mv rfl (R_ext rfl rfl (R_ext rfl rfl (R_alloc (i:=15) (n:=0) (m:=3) rfl (congrArg Blk.ver h15) rfl (R_sk rfl rfl rfl rfl rfl rfl rfl rfl rfl ?_)))))))
 refine R_mv rfl (R_e (W_r (R_lk t3 h3 rfl rfl (R_callk (simplify_pure f) rfl (R_mv rfl (R_ext rfl rfl (R_ext rfl rfl ?_)))))))
 refine R_alloc (i:=17) (n:=0) (m:=3) rfl (congrArg Blk.ver h17) rfl (R_sk rfl rfl rfl rfl rfl rfl rfl rfl rfl (R_mv rfl (R_e (W_seq_seq ?_))))
 refine W_seq_regc (fun T H=>T 9=(V.mp 9 1 0 0)∧T 10=(iV ((simp_ (⟨((((5:Int)))),((((0:Int)))),(([f,g,h]))⟩:Fm)).2))∧T 11=(V.mp 11 1 0 0)∧T 12=(iV ((simp_ (⟨((((5:Int)))),((((0:Int)))),(([h,(Fm.nd (5:Int) (0:Int) [g,f,g])]))⟩:Fm)).2))∧T 13=(V.mp 13 1 0 0)∧T 14=(iV ((simp_ (⟨((((5:Int)))),((((0:Int)))),(([(Fm.nd (5:Int) (0:Int) [f,h]),g,(Fm.nd (4:Int) (0:Int) [(Fm.nd (4:Int) (0:Int) [h])])]))⟩:Fm)).2))∧T 15=(V.mp 15 1 0 0)∧T 16=(iV ((simp_ (⟨((((5:Int)))),((((0:Int)))),(([f,(Fm.nd (6:Int) (0:Int) [f,g])]))⟩:Fm)).2))∧T 17=(V.mp 17 1 0 0)∧T 18=(iV ((simp_ f).2))∧T 134=(V.bool (decide (((((((simp_ (⟨((((5:Int)))),((((0:Int)))),(([f,g,h]))⟩:Fm)).2)≠(0:Int))∨(((simp_ (⟨((((5:Int)))),((((0:Int)))),(([h,(Fm.nd (5:Int) (0:Int) [g,f,g])]))⟩:Fm)).2)≠(0:Int)))∨(((simp_ (⟨((((5:Int)))),((((0:Int)))),(([(Fm.nd (5:Int) (0:Int) [f,h]),g,(Fm.nd (4:Int) (0:Int) [(Fm.nd (4:Int) (0:Int) [h])])]))⟩:Fm)).2)≠(0:Int)))∨(((simp_ (⟨((((5:Int)))),((((0:Int)))),(([f,(Fm.nd (6:Int) (0:Int) [f,g])]))⟩:Fm)).2)≠(0:Int)))∨(((simp_ f).2)≠(0:Int)))))∧H 1=(bk 1 52 10 [[(iV (f.op)),(iV (f.arg)),(V.sl (List.map cF (f.kids))),(iV (g.op)),(iV (g.arg)),(V.sl (List.map cF (g.kids))),(iV (h.op)),(iV (h.arg)),(V.sl (List.map cF (h.kids))),(V.bool b)]])∧H 3=(bk 1 24 3 [[(iV (f.op)),(iV (f.arg)),(V.sl (List.map cF (f.kids)))]])∧H 4=(bk 1 24 3 [[(iV (g.op)),(iV (g.arg)),(V.sl (List.map cF (g.kids)))]])∧H 5=(bk 1 24 3 [[(iV (h.op)),(iV (h.arg)),(V.sl (List.map cF (h.kids)))]])∧H 9=(bk 1 24 3 [[(iV ((simp_ (⟨((((5:Int)))),((((0:Int)))),(([f,g,h]))⟩:Fm)).1.op)),(iV ((simp_ (⟨((((5:Int)))),((((0:Int)))),(([f,g,h]))⟩:Fm)).1.arg)),(V.sl (List.map cF ((simp_ (⟨((((5:Int)))),((((0:Int)))),(([f,g,h]))⟩:Fm)).1.kids)))]])∧H 11=(bk 1 24 3 [[(iV ((simp_ (⟨((((5:Int)))),((((0:Int)))),(([h,(Fm.nd (5:Int) (0:Int) [g,f,g])]))⟩:Fm)).1.op)),(iV ((simp_ (⟨((((5:Int)))),((((0:Int)))),(([h,(Fm.nd (5:Int) (0:Int) [g,f,g])]))⟩:Fm)).1.arg)),(V.sl (List.map cF ((simp_ (⟨((((5:Int)))),((((0:Int)))),(([h,(Fm.nd (5:Int) (0:Int) [g,f,g])]))⟩:Fm)).1.kids)))]])∧H 13=(bk 1 24 3 [[(iV ((simp_ (⟨((((5:Int)))),((((0:Int)))),(([(Fm.nd (5:Int) (0:Int) [f,h]),g,(Fm.nd (4:Int) (0:Int) [(Fm.nd (4:Int) (0:Int) [h])])]))⟩:Fm)).1.op)),(iV ((simp_ (⟨((((5:Int)))),((((0:Int)))),(([(Fm.nd (5:Int) (0:Int) [f,h]),g,(Fm.nd (4:Int) (0:Int) [(Fm.nd (4:Int) (0:Int) [h])])]))⟩:Fm)).1.arg)),(V.sl (List.map cF ((simp_ (⟨((((5:Int)))),((((0:Int)))),(([(Fm.nd (5:Int) (0:Int) [f,h]),g,(Fm.nd (4:Int) (0:Int) [(Fm.nd (4:Int) (0:Int) [h])])]))⟩:Fm)).1.kids)))]])∧H 15=(bk 1 24 3 [[(iV ((simp_ (⟨((((5:Int)))),((((0:Int)))),(([f,(Fm.nd (6:Int) (0:Int) [f,g])]))⟩:Fm)).1.op)),(iV ((simp_ (⟨((((5:Int)))),((((0:Int)))),(([f,(Fm.nd (6:Int) (0:Int) [f,g])]))⟩:Fm)).1.arg)),(V.sl (List.map cF ((simp_ (⟨((((5:Int)))),((((0:Int)))),(([f,(Fm.nd (6:Int) (0:Int) [f,g])]))⟩:Fm)).1.kids)))]])∧H 17=(bk 1 24 3 [[(iV ((simp_ f).1.op)),(iV ((simp_ f).1.arg)),(V.sl (List.map cF ((simp_ f).1.kids)))]])∧True) ?_ ?_
 ·
  refine R_mv t10 (R_neq rfl rfl (R_mv rfl ?_))
  refine Ops_seg 3 (fun T H=>T 9=(V.mp 9 1 0 0)∧T 10=(iV ((simp_ (⟨((((5:Int)))),((((0:Int)))),(([f,g,h]))⟩:Fm)).2))∧T 11=(V.mp 11 1 0 0)∧T 12=(iV ((simp_ (⟨((((5:Int)))),((((0:Int)))),(([h,(Fm.nd (5:Int) (0:Int) [g,f,g])]))⟩:Fm)).2))∧T 13=(V.mp 13 1 0 0)∧T 14=(iV ((simp_ (⟨((((5:Int)))),((((0:Int)))),(([(Fm.nd (5:Int) (0:Int) [f,h]),g,(Fm.nd (4:Int) (0:Int) [(Fm.nd (4:Int) (0:Int) [h])])]))⟩:Fm)).2))∧T 15=(V.mp 15 1 0 0)∧T 16=(iV ((simp_ (⟨((((5:Int)))),((((0:Int)))),(([f,(Fm.nd (6:Int) (0:Int) [f,g])]))⟩:Fm)).2))∧T 17=(V.mp 17 1 0 0)∧T 18=(iV ((simp_ f).2))∧T 122=(V.bool (decide ((((simp_ (⟨((((5:Int)))),((((0:Int)))),(([f,g,h]))⟩:Fm)).2)≠(0:Int))∨(((simp_ (⟨((((5:Int)))),((((0:Int)))),(([h,(Fm.nd (5:Int) (0:Int) [g,f,g])]))⟩:Fm)).2)≠(0:Int)))))∧H 1=(bk 1 52 10 [[(iV (f.op)),(iV (f.arg)),(V.sl (List.map cF (f.kids))),(iV (g.op)),(iV (g.arg)),(V.sl (List.map cF (g.kids))),(iV (h.op)),(iV (h.arg)),(V.sl (List.map cF (h.kids))),(V.bool b)]])∧H 3=(bk 1 24 3 [[(iV (f.op)),(iV (f.arg)),(V.sl (List.map cF (f.kids)))]])∧H 4=(bk 1 24 3 [[(iV (g.op)),(iV (g.arg)),(V.sl (List.map cF (g.kids)))]])∧H 5=(bk 1 24 3 [[(iV (h.op)),(iV (h.arg)),(V.sl (List.map cF (h.kids)))]])∧H 9=(bk 1 24 3 [[(iV ((simp_ (⟨((((5:Int)))),((((0:Int)))),(([f,g,h]))⟩:Fm)).1.op)),(iV ((simp_ (⟨((((5:Int)))),((((0:Int)))),(([f,g,h]))⟩:Fm)).1.arg)),(V.sl (List.map cF ((simp_ (⟨((((5:Int)))),((((0:Int)))),(([f,g,h]))⟩:Fm)).1.kids)))]])∧H 11=(bk 1 24 3 [[(iV ((simp_ (⟨((((5:Int)))),((((0:Int)))),(([h,(Fm.nd (5:Int) (0:Int) [g,f,g])]))⟩:Fm)).1.op)),(iV ((simp_ (⟨((((5:Int)))),((((0:Int)))),(([h,(Fm.nd (5:Int) (0:Int) [g,f,g])]))⟩:Fm)).1.arg)),(V.sl (List.map cF ((simp_ (⟨((((5:Int)))),((((0:Int)))),(([h,(Fm.nd (5:Int) (0:Int) [g,f,g])]))⟩:Fm)).1.kids)))]])∧H 13=(bk 1 24 3 [[(iV ((simp_ (⟨((((5:Int)))),((((0:Int)))),(([(Fm.nd (5:Int) (0:Int) [f,h]),g,(Fm.nd (4:Int) (0:Int) [(Fm.nd (4:Int) (0:Int) [h])])]))⟩:Fm)).1.op)),(iV ((simp_ (⟨((((5:Int)))),((((0:Int)))),(([(Fm.nd (5:Int) (0:Int) [f,h]),g,(Fm.nd (4:Int) (0:Int) [(Fm.nd (4:Int) (0:Int) [h])])]))⟩:Fm)).1.arg)),(V.sl (List.map cF ((simp_ (⟨((((5:Int)))),((((0:Int)))),(([(Fm.nd (5:Int) (0:Int) [f,h]),g,(Fm.nd (4:Int) (0:Int) [(Fm.nd (4:Int) (0:Int) [h])])]))⟩:Fm)).1.kids)))]])∧H 15=(bk 1 24 3 [[(iV ((simp_ (⟨((((5:Int)))),((((0:Int)))),(([f,(Fm.nd (6:Int) (0:Int) [f,g])]))⟩:Fm)).1.op)),(iV ((simp_ (⟨((((5:Int)))),((((0:Int)))),(([f,(Fm.nd (6:Int) (0:Int) [f,g])]))⟩:Fm)).1.arg)),(V.sl (List.map cF ((simp_ (⟨((((5:Int)))),((((0:Int)))),(([f,(Fm.nd (6:Int) (0:Int) [f,g])]))⟩:Fm)).1.kids)))]])∧H 17=(bk 1 24 3 [[(iV ((simp_ f).1.op)),(iV ((simp_ f).1.arg)),(V.sl (List.map cF ((simp_ f).1.kids)))]])∧True) ?_ ?_
  ·
   by_cases g26:((simp_ (⟨((((5:Int)))),((((0:Int)))),(([f,g,h]))⟩:Fm)).2)≠(0:Int)
   ·
    refine G_n (edT g26 rfl) (G_n (edT g26 rfl) (R_pickT (edT g26 rfl) rfl ?_))
    exact ⟨t9,t10,t11,t12,t13,t14,rfl,rfl,rfl,rfl,(dec_orT g26),h1,h3,h4,h5,h9,h11,h13,rfl,rfl,trivial⟩
   ·
    refine G_yes (edF g26 rfl) (R_mv t12 (G_yes (edF g26 rfl) (R_neq rfl rfl (R_pickF (edF g26 rfl) rfl ?_))))
    exact ⟨t9,t10,t11,t12,t13,t14,rfl,rfl,rfl,rfl,(dec_orF g26),h1,h3,h4,h5,h9,h11,h13,rfl,rfl,trivial⟩
  intro T H ⟨t9,t10,t11,t12,t13,t14,t15,t16,t17,t18,t122,h1,h3,h4,h5,h9,h11,h13,h15,h17,_⟩
  refine R_mv t122 ?_
  refine Ops_seg 3 (fun T H=>T 9=(V.mp 9 1 0 0)∧T 10=(iV ((simp_ (⟨((((5:Int)))),((((0:Int)))),(([f,g,h]))⟩:Fm)).2))∧T 11=(V.mp 11 1 0 0)∧T 12=(iV ((simp_ (⟨((((5:Int)))),((((0:Int)))),(([h,(Fm.nd (5:Int) (0:Int) [g,f,g])]))⟩:Fm)).2))∧T 13=(V.mp 13 1 0 0)∧T 14=(iV ((simp_ (⟨((((5:Int)))),((((0:Int)))),(([(Fm.nd (5:Int) (0:Int) [f,h]),g,(Fm.nd (4:Int) (0:Int) [(Fm.nd (4:Int) (0:Int) [h])])]))⟩:Fm)).2))∧T 15=(V.mp 15 1 0 0)∧T 16=(iV ((simp_ (⟨((((5:Int)))),((((0:Int)))),(([f,(Fm.nd (6:Int) (0:Int) [f,g])]))⟩:Fm)).2))∧T 17=(V.mp 17 1 0 0)∧T 18=(iV ((simp_ f).2))∧T 126=(V.bool (decide (((((simp_ (⟨((((5:Int)))),((((0:Int)))),(([f,g,h]))⟩:Fm)).2)≠(0:Int))∨(((simp_ (⟨((((5:Int)))),((((0:Int)))),(([h,(Fm.nd (5:Int) (0:Int) [g,f,g])]))⟩:Fm)).2)≠(0:Int)))∨(((simp_ (⟨((((5:Int)))),((((0:Int)))),(([(Fm.nd (5:Int) (0:Int) [f,h]),g,(Fm.nd (4:Int) (0:Int) [(Fm.nd (4:Int) (0:Int) [h])])]))⟩:Fm)).2)≠(0:Int)))))∧H 1=(bk 1 52 10 [[(iV (f.op)),(iV (f.arg)),(V.sl (List.map cF (f.kids))),(iV (g.op)),(iV (g.arg)),(V.sl (List.map cF (g.kids))),(iV (h.op)),(iV (h.arg)),(V.sl (List.map cF (h.kids))),(V.bool b)]])∧H 3=(bk 1 24 3 [[(iV (f.op)),(iV (f.arg)),(V.sl (List.map cF (f.kids)))]])∧H 4=(bk 1 24 3 [[(iV (g.op)),(iV (g.arg)),(V.sl (List.map cF (g.kids)))]])∧H 5=(bk 1 24 3 [[(iV (h.op)),(iV (h.arg)),(V.sl (List.map cF (h.kids)))]])∧H 9=(bk 1 24 3 [[(iV ((simp_ (⟨((((5:Int)))),((((0:Int)))),(([f,g,h]))⟩:Fm)).1.op)),(iV ((simp_ (⟨((((5:Int)))),((((0:Int)))),(([f,g,h]))⟩:Fm)).1.arg)),(V.sl (List.map cF ((simp_ (⟨((((5:Int)))),((((0:Int)))),(([f,g,h]))⟩:Fm)).1.kids)))]])∧H 11=(bk 1 24 3 [[(iV ((simp_ (⟨((((5:Int)))),((((0:Int)))),(([h,(Fm.nd (5:Int) (0:Int) [g,f,g])]))⟩:Fm)).1.op)),(iV ((simp_ (⟨((((5:Int)))),((((0:Int)))),(([h,(Fm.nd (5:Int) (0:Int) [g,f,g])]))⟩:Fm)).1.arg)),(V.sl (List.map cF ((simp_ (⟨((((5:Int)))),((((0:Int)))),(([h,(Fm.nd (5:Int) (0:Int) [g,f,g])]))⟩:Fm)).1.kids)))]])∧H 13=(bk 1 24 3 [[(iV ((simp_ (⟨((((5:Int)))),((((0:Int)))),(([(Fm.nd (5:Int) (0:Int) [f,h]),g,(Fm.nd (4:Int) (0:Int) [(Fm.nd (4:Int) (0:Int) [h])])]))⟩:Fm)).1.op)),(iV ((simp_ (⟨((((5:Int)))),((((0:Int)))),(([(Fm.nd (5:Int) (0:Int) [f,h]),g,(Fm.nd (4:Int) (0:Int) [(Fm.nd (4:Int) (0:Int) [h])])]))⟩:Fm)).1.arg)),(V.sl (List.map cF ((simp_ (⟨((((5:Int)))),((((0:Int)))),(([(Fm.nd (5:Int) (0:Int) [f,h]),g,(Fm.nd (4:Int) (0:Int) [(Fm.nd (4:Int) (0:Int) [h])])]))⟩:Fm)).1.kids)))]])∧H 15=(bk 1 24 3 [[(iV ((simp_ (⟨((((5:Int)))),((((0:Int)))),(([f,(Fm.nd (6:Int) (0:Int) [f,g])]))⟩:Fm)).1.op)),(iV ((simp_ (⟨((((5:Int)))),((((0:Int)))),(([f,(Fm.nd (6:Int) (0:Int) [f,g])]))⟩:Fm)).1.arg)),(V.sl (List.map cF ((simp_ (⟨((((5:Int)))),((((0:Int)))),(([f,(Fm.nd (6:Int) (0:Int) [f,g])]))⟩:Fm)).1.kids)))]])∧H 17=(bk 1 24 3 [[(iV ((simp_ f).1.op)),(iV ((simp_ f).1.arg)),(V.sl (List.map cF ((simp_ f).1.kids)))]])∧True) ?_ ?_
  ·
   by_cases g27:(((simp_ (⟨((((5:Int)))),((((0:Int)))),(([f,g,h]))⟩:Fm)).2)≠(0:Int))∨(((simp_ (⟨((((5:Int)))),((((0:Int)))),(([h,(Fm.nd (5:Int) (0:Int) [g,f,g])]))⟩:Fm)).2)≠(0:Int))
   ·
    refine G_n (edT g27 rfl) (G_n (edT g27 rfl) (R_pickT (edT g27 rfl) rfl ?_))
    exact ⟨t9,t10,t11,t12,t13,t14,t15,t16,t17,t18,(dec_orT g27),h1,h3,h4,h5,h9,h11,h13,h15,h17,trivial⟩
   ·
    refine G_yes (edF g27 rfl) (R_mv t14 (G_yes (edF g27 rfl) (R_neq rfl rfl (R_pickF (edF g27 rfl) rfl ?_))))
    exact ⟨t9,t10,t11,t12,t13,t14,t15,t16,t17,t18,(dec_orF g27),h1,h3,h4,h5,h9,h11,h13,h15,h17,trivial⟩
  intro T H ⟨t9,t10,t11,t12,t13,t14,t15,t16,t17,t18,t126,h1,h3,h4,h5,h9,h11,h13,h15,h17,_⟩
  refine R_mv t126 ?_
  refine Ops_seg 3 (fun T H=>T 9=(V.mp 9 1 0 0)∧T 10=(iV ((simp_ (⟨((((5:Int)))),((((0:Int)))),(([f,g,h]))⟩:Fm)).2))∧T 11=(V.mp 11 1 0 0)∧T 12=(iV ((simp_ (⟨((((5:Int)))),((((0:Int)))),(([h,(Fm.nd (5:Int) (0:Int) [g,f,g])]))⟩:Fm)).2))∧T 13=(V.mp 13 1 0 0)∧T 14=(iV ((simp_ (⟨((((5:Int)))),((((0:Int)))),(([(Fm.nd (5:Int) (0:Int) [f,h]),g,(Fm.nd (4:Int) (0:Int) [(Fm.nd (4:Int) (0:Int) [h])])]))⟩:Fm)).2))∧T 15=(V.mp 15 1 0 0)∧T 16=(iV ((simp_ (⟨((((5:Int)))),((((0:Int)))),(([f,(Fm.nd (6:Int) (0:Int) [f,g])]))⟩:Fm)).2))∧T 17=(V.mp 17 1 0 0)∧T 18=(iV ((simp_ f).2))∧T 130=(V.bool (decide ((((((simp_ (⟨((((5:Int)))),((((0:Int)))),(([f,g,h]))⟩:Fm)).2)≠(0:Int))∨(((simp_ (⟨((((5:Int)))),((((0:Int)))),(([h,(Fm.nd (5:Int) (0:Int) [g,f,g])]))⟩:Fm)).2)≠(0:Int)))∨(((simp_ (⟨((((5:Int)))),((((0:Int)))),(([(Fm.nd (5:Int) (0:Int) [f,h]),g,(Fm.nd (4:Int) (0:Int) [(Fm.nd (4:Int) (0:Int) [h])])]))⟩:Fm)).2)≠(0:Int)))∨(((simp_ (⟨((((5:Int)))),((((0:Int)))),(([f,(Fm.nd (6:Int) (0:Int) [f,g])]))⟩:Fm)).2)≠(0:Int)))))∧H 1=(bk 1 52 10 [[(iV (f.op)),(iV (f.arg)),(V.sl (List.map cF (f.kids))),(iV (g.op)),(iV (g.arg)),(V.sl (List.map cF (g.kids))),(iV (h.op)),(iV (h.arg)),(V.sl (List.map cF (h.kids))),(V.bool b)]])∧H 3=(bk 1 24 3 [[(iV (f.op)),(iV (f.arg)),(V.sl (List.map cF (f.kids)))]])∧H 4=(bk 1 24 3 [[(iV (g.op)),(iV (g.arg)),(V.sl (List.map cF (g.kids)))]])∧H 5=(bk 1 24 3 [[(iV (h.op)),(iV (h.arg)),(V.sl (List.map cF (h.kids)))]])∧H 9=(bk 1 24 3 [[(iV ((simp_ (⟨((((5:Int)))),((((0:Int)))),(([f,g,h]))⟩:Fm)).1.op)),(iV ((simp_ (⟨((((5:Int)))),((((0:Int)))),(([f,g,h]))⟩:Fm)).1.arg)),(V.sl (List.map cF ((simp_ (⟨((((5:Int)))),((((0:Int)))),(([f,g,h]))⟩:Fm)).1.kids)))]])∧H 11=(bk 1 24 3 [[(iV ((simp_ (⟨((((5:Int)))),((((0:Int)))),(([h,(Fm.nd (5:Int) (0:Int) [g,f,g])]))⟩:Fm)).1.op)),(iV ((simp_ (⟨((((5:Int)))),((((0:Int)))),(([h,(Fm.nd (5:Int) (0:Int) [g,f,g])]))⟩:Fm)).1.arg)),(V.sl (List.map cF ((simp_ (⟨((((5:Int)))),((((0:Int)))),(([h,(Fm.nd (5:Int) (0:Int) [g,f,g])]))⟩:Fm)).1.kids)))]])∧H 13=(bk 1 24 3 [[(iV ((simp_ (⟨((((5:Int)))),((((0:Int)))),(([(Fm.nd (5:Int) (0:Int) [f,h]),g,(Fm.nd (4:Int) (0:Int) [(Fm.nd (4:Int) (0:Int) [h])])]))⟩:Fm)).1.op)),(iV ((simp_ (⟨((((5:Int)))),((((0:Int)))),(([(Fm.nd (5:Int) (0:Int) [f,h]),g,(Fm.nd (4:Int) (0:Int) [(Fm.nd (4:Int) (0:Int) [h])])]))⟩:Fm)).1.arg)),(V.sl (List.map cF ((simp_ (⟨((((5:Int)))),((((0:Int)))),(([(Fm.nd (5:Int) (0:Int) [f,h]),g,(Fm.nd (4:Int) (0:Int) [(Fm.nd (4:Int) (0:Int) [h])])]))⟩:Fm)).1.kids)))]])∧H 15=(bk 1 24 3 [[(iV ((simp_ (⟨((((5:Int)))),((((0:Int)))),(([f,(Fm.nd (6:Int) (0:Int) [f,g])]))⟩:Fm)).1.op)),(iV ((simp_ (⟨((((5:Int)))),((((0:Int)))),(([f,(Fm.nd (6:Int) (0:Int) [f,g])]))⟩:Fm)).1.arg)),(V.sl (List.map cF ((simp_ (⟨((((5:Int)))),((((0:Int)))),(([f,(Fm.nd (6:Int) (0:Int) [f,g])]))⟩:Fm)).1.kids)))]])∧H 17=(bk 1 24 3 [[(iV ((simp_ f).1.op)),(iV ((simp_ f).1.arg)),(V.sl (List.map cF ((simp_ f).1.kids)))]])∧True) ?_ ?_
  ·
   by_cases g28:((((simp_ (⟨((((5:Int)))),((((0:Int)))),(([f,g,h]))⟩:Fm)).2)≠(0:Int))∨(((simp_ (⟨((((5:Int)))),((((0:Int)))),(([h,(Fm.nd (5:Int) (0:Int) [g,f,g])]))⟩:Fm)).2)≠(0:Int)))∨(((simp_ (⟨((((5:Int)))),((((0:Int)))),(([(Fm.nd (5:Int) (0:Int) [f,h]),g,(Fm.nd (4:Int) (0:Int) [(Fm.nd (4:Int) (0:Int) [h])])]))⟩:Fm)).2)≠(0:Int))
   ·
    refine G_n (edT g28 rfl) (G_n (edT g28 rfl) (R_pickT (edT g28 rfl) rfl ?_))
    exact ⟨t9,t10,t11,t12,t13,t14,t15,t16,t17,t18,(dec_orT g28),h1,h3,h4,h5,h9,h11,h13,h15,h17,trivial⟩
   ·
    refine G_yes (edF g28 rfl) (R_mv t16 (G_yes (edF g28 rfl) (R_neq rfl rfl (R_pickF (edF g28 rfl) rfl ?_))))
    exact ⟨t9,t10,t11,t12,t13,t14,t15,t16,t17,t18,(dec_orF g28),h1,h3,h4,h5,h9,h11,h13,h15,h17,trivial⟩
  intro T H ⟨t9,t10,t11,t12,t13,t14,t15,t16,t17,t18,t130,h1,h3,h4,h5,h9,h11,h13,h15,h17,_⟩
  refine R_mv t130 ?_
  refine Ops_seg 3 (fun T H=>T 9=(V.mp 9 1 0 0)∧T 10=(iV ((simp_ (⟨((((5:Int)))),((((0:Int)))),(([f,g,h]))⟩:Fm)).2))∧T 11=(V.mp 11 1 0 0)∧T 12=(iV ((simp_ (⟨((((5:Int)))),((((0:Int)))),(([h,(Fm.nd (5:Int) (0:Int) [g,f,g])]))⟩:Fm)).2))∧T 13=(V.mp 13 1 0 0)∧T 14=(iV ((simp_ (⟨((((5:Int)))),((((0:Int)))),(([(Fm.nd (5:Int) (0:Int) [f,h]),g,(Fm.nd (4:Int) (0:Int) [(Fm.nd (4:Int) (0:Int) [h])])]))⟩:Fm)).2))∧T 15=(V.mp 15 1 0 0)∧T 16=(iV ((simp_ (⟨((((5:Int)))),((((0:Int)))),(([f,(Fm.nd (6:Int) (0:Int) [f,g])]))⟩:Fm)).2))∧T 17=(V.mp 17 1 0 0)∧T 18=(iV ((simp_ f).2))∧T 134=(V.bool (decide (((((((simp_ (⟨((((5:Int)))),((((0:Int)))),(([f,g,h]))⟩:Fm)).2)≠(0:Int))∨(((simp_ (⟨((((5:Int)))),((((0:Int)))),(([h,(Fm.nd (5:Int) (0:Int) [g,f,g])]))⟩:Fm)).2)≠(0:Int)))∨(((simp_ (⟨((((5:Int)))),((((0:Int)))),(([(Fm.nd (5:Int) (0:Int) [f,h]),g,(Fm.nd (4:Int) (0:Int) [(Fm.nd (4:Int) (0:Int) [h])])]))⟩:Fm)).2)≠(0:Int)))∨(((simp_ (⟨((((5:Int)))),((((0:Int)))),(([f,(Fm.nd (6:Int) (0:Int) [f,g])]))⟩:Fm)).2)≠(0:Int)))∨(((simp_ f).2)≠(0:Int)))))∧H 1=(bk 1 52 10 [[(iV (f.op)),(iV (f.arg)),(V.sl (List.map cF (f.kids))),(iV (g.op)),(iV (g.arg)),(V.sl (List.map cF (g.kids))),(iV (h.op)),(iV (h.arg)),(V.sl (List.map cF (h.kids))),(V.bool b)]])∧H 3=(bk 1 24 3 [[(iV (f.op)),(iV (f.arg)),(V.sl (List.map cF (f.kids)))]])∧H 4=(bk 1 24 3 [[(iV (g.op)),(iV (g.arg)),(V.sl (List.map cF (g.kids)))]])∧H 5=(bk 1 24 3 [[(iV (h.op)),(iV (h.arg)),(V.sl (List.map cF (h.kids)))]])∧H 9=(bk 1 24 3 [[(iV ((simp_ (⟨((((5:Int)))),((((0:Int)))),(([f,g,h]))⟩:Fm)).1.op)),(iV ((simp_ (⟨((((5:Int)))),((((0:Int)))),(([f,g,h]))⟩:Fm)).1.arg)),(V.sl (List.map cF ((simp_ (⟨((((5:Int)))),((((0:Int)))),(([f,g,h]))⟩:Fm)).1.kids)))]])∧H 11=(bk 1 24 3 [[(iV ((simp_ (⟨((((5:Int)))),((((0:Int)))),(([h,(Fm.nd (5:Int) (0:Int) [g,f,g])]))⟩:Fm)).1.op)),(iV ((simp_ (⟨((((5:Int)))),((((0:Int)))),(([h,(Fm.nd (5:Int) (0:Int) [g,f,g])]))⟩:Fm)).1.arg)),(V.sl (List.map cF ((simp_ (⟨((((5:Int)))),((((0:Int)))),(([h,(Fm.nd (5:Int) (0:Int) [g,f,g])]))⟩:Fm)).1.kids)))]])∧H 13=(bk 1 24 3 [[(iV ((simp_ (⟨((((5:Int)))),((((0:Int)))),(([(Fm.nd (5:Int) (0:Int) [f,h]),g,(Fm.nd (4:Int) (0:Int) [(Fm.nd (4:Int) (0:Int) [h])])]))⟩:Fm)).1.op)),(iV ((simp_ (⟨((((5:Int)))),((((0:Int)))),(([(Fm.nd (5:Int) (0:Int) [f,h]),g,(Fm.nd (4:Int) (0:Int) [(Fm.nd (4:Int) (0:Int) [h])])]))⟩:Fm)).1.arg)),(V.sl (List.map cF ((simp_ (⟨((((5:Int)))),((((0:Int)))),(([(Fm.nd (5:Int) (0:Int) [f,h]),g,(Fm.nd (4:Int) (0:Int) [(Fm.nd (4:Int) (0:Int) [h])])]))⟩:Fm)).1.kids)))]])∧H 15=(bk 1 24 3 [[(iV ((simp_ (⟨((((5:Int)))),((((0:Int)))),(([f,(Fm.nd (6:Int) (0:Int) [f,g])]))⟩:Fm)).1.op)),(iV ((simp_ (⟨((((5:Int)))),((((0:Int)))),(([f,(Fm.nd (6:Int) (0:Int) [f,g])]))⟩:Fm)).1.arg)),(V.sl (List.map cF ((simp_ (⟨((((5:Int)))),((((0:Int)))),(([f,(Fm.nd (6:Int) (0:Int) [f,g])]))⟩:Fm)).1.kids)))]])∧H 17=(bk 1 24 3 [[(iV ((simp_ f).1.op)),(iV ((simp_ f).1.arg)),(V.sl (List.map cF ((simp_ f).1.kids)))]])∧True) ?_ ?_
  ·
   by_cases g29:(((((simp_ (⟨((((5:Int)))),((((0:Int)))),(([f,g,h]))⟩:Fm)).2)≠(0:Int))∨(((simp_ (⟨((((5:Int)))),((((0:Int)))),(([h,(Fm.nd (5:Int) (0:Int) [g,f,g])]))⟩:Fm)).2)≠(0:Int)))∨(((simp_ (⟨((((5:Int)))),((((0:Int)))),(([(Fm.nd (5:Int) (0:Int) [f,h]),g,(Fm.nd (4:Int) (0:Int) [(Fm.nd (4:Int) (0:Int) [h])])]))⟩:Fm)).2)≠(0:Int)))∨(((simp_ (⟨((((5:Int)))),((((0:Int)))),(([f,(Fm.nd (6:Int) (0:Int) [f,g])]))⟩:Fm)).2)≠(0:Int))
   ·
    refine G_n (edT g29 rfl) (G_n (edT g29 rfl) (R_pickT (edT g29 rfl) rfl ?_))
    exact ⟨t9,t10,t11,t12,t13,t14,t15,t16,t17,t18,(dec_orT g29),h1,h3,h4,h5,h9,h11,h13,h15,h17,trivial⟩
   ·
    refine G_yes (edF g29 rfl) (R_mv t18 (G_yes (edF g29 rfl) (R_neq rfl rfl (R_pickF (edF g29 rfl) rfl ?_))))
    exact ⟨t9,t10,t11,t12,t13,t14,t15,t16,t17,t18,(dec_orF g29),h1,h3,h4,h5,h9,h11,h13,h15,h17,trivial⟩
  intro T H ⟨t9,t10,t11,t12,t13,t14,t15,t16,t17,t18,t134,h1,h3,h4,h5,h9,h11,h13,h15,h17,_⟩
  exact R_nil ⟨t9,t10,t11,t12,t13,t14,t15,t16,t17,t18,t134,h1,h3,h4,h5,h9,h11,h13,h15,h17,trivial⟩
 intro T H ⟨t9,t10,t11,t12,t13,t14,t15,t16,t17,t18,t134,h1,h3,h4,h5,h9,h11,h13,h15,h17,_⟩
 refine W_seq_if t134 (fun c30=>?_) fun c30=>?_
 ·
  refine W_seq_seq ?_
  refine W_seq_regc (fun T H=>T 2=(V.bool (decide ((((((((simp_ (⟨((((5:Int)))),((((0:Int)))),(([f,g,h]))⟩:Fm)).2)=(0:Int))∨(((simp_ (⟨((((5:Int)))),((((0:Int)))),(([f,g,h]))⟩:Fm)).2)=(11:Int)))∧((((simp_ (⟨((((5:Int)))),((((0:Int)))),(([h,(Fm.nd (5:Int) (0:Int) [g,f,g])]))⟩:Fm)).2)=(0:Int))∨(((simp_ (⟨((((5:Int)))),((((0:Int)))),(([h,(Fm.nd (5:Int) (0:Int) [g,f,g])]))⟩:Fm)).2)=(11:Int))))∧((((simp_ (⟨((((5:Int)))),((((0:Int)))),(([(Fm.nd (5:Int) (0:Int) [f,h]),g,(Fm.nd (4:Int) (0:Int) [(Fm.nd (4:Int) (0:Int) [h])])]))⟩:Fm)).2)=(0:Int))∨(((simp_ (⟨((((5:Int)))),((((0:Int)))),(([(Fm.nd (5:Int) (0:Int) [f,h]),g,(Fm.nd (4:Int) (0:Int) [(Fm.nd (4:Int) (0:Int) [h])])]))⟩:Fm)).2)=(11:Int))))∧((((simp_ (⟨((((5:Int)))),((((0:Int)))),(([f,(Fm.nd (6:Int) (0:Int) [f,g])]))⟩:Fm)).2)=(0:Int))∨(((simp_ (⟨((((5:Int)))),((((0:Int)))),(([f,(Fm.nd (6:Int) (0:Int) [f,g])]))⟩:Fm)).2)=(11:Int))))∧((((simp_ f).2)=(0:Int))∨(((simp_ f).2)=(11:Int))))))∧H 1=(bk 1 52 10 [[(iV (f.op)),(iV (f.arg)),(V.sl (List.map cF (f.kids))),(iV (g.op)),(iV (g.arg)),(V.sl (List.map cF (g.kids))),(iV (h.op)),(iV (h.arg)),(V.sl (List.map cF (h.kids))),(V.bool b)]])∧H 3=(bk 1 24 3 [[(iV (f.op)),(iV (f.arg)),(V.sl (List.map cF (f.kids)))]])∧H 4=(bk 1 24 3 [[(iV (g.op)),(iV (g.arg)),(V.sl (List.map cF (g.kids)))]])∧H 5=(bk 1 24 3 [[(iV (h.op)),(iV (h.arg)),(V.sl (List.map cF (h.kids)))]])∧H 9=(bk 1 24 3 [[(iV ((simp_ (⟨((((5:Int)))),((((0:Int)))),(([f,g,h]))⟩:Fm)).1.op)),(iV ((simp_ (⟨((((5:Int)))),((((0:Int)))),(([f,g,h]))⟩:Fm)).1.arg)),(V.sl (List.map cF ((simp_ (⟨((((5:Int)))),((((0:Int)))),(([f,g,h]))⟩:Fm)).1.kids)))]])∧H 11=(bk 1 24 3 [[(iV ((simp_ (⟨((((5:Int)))),((((0:Int)))),(([h,(Fm.nd (5:Int) (0:Int) [g,f,g])]))⟩:Fm)).1.op)),(iV ((simp_ (⟨((((5:Int)))),((((0:Int)))),(([h,(Fm.nd (5:Int) (0:Int) [g,f,g])]))⟩:Fm)).1.arg)),(V.sl (List.map cF ((simp_ (⟨((((5:Int)))),((((0:Int)))),(([h,(Fm.nd (5:Int) (0:Int) [g,f,g])]))⟩:Fm)).1.kids)))]])∧H 13=(bk 1 24 3 [[(iV ((simp_ (⟨((((5:Int)))),((((0:Int)))),(([(Fm.nd (5:Int) (0:Int) [f,h]),g,(Fm.nd (4:Int) (0:Int) [(Fm.nd (4:Int) (0:Int) [h])])]))⟩:Fm)).1.op)),(iV ((simp_ (⟨((((5:Int)))),((((0:Int)))),(([(Fm.nd (5:Int) (0:Int) [f,h]),g,(Fm.nd (4:Int) (0:Int) [(Fm.nd (4:Int) (0:Int) [h])])]))⟩:Fm)).1.arg)),(V.sl (List.map cF ((simp_ (⟨((((5:Int)))),((((0:Int)))),(([(Fm.nd (5:Int) (0:Int) [f,h]),g,(Fm.nd (4:Int) (0:Int) [(Fm.nd (4:Int) (0:Int) [h])])]))⟩:Fm)).1.kids)))]])∧H 15=(bk 1 24 3 [[(iV ((simp_ (⟨((((5:Int)))),((((0:Int)))),(([f,(Fm.nd (6:Int) (0:Int) [f,g])]))⟩:Fm)).1.op)),(iV ((simp_ (⟨((((5:Int)))),((((0:Int)))),(([f,(Fm.nd (6:Int) (0:Int) [f,g])]))⟩:Fm)).1.arg)),(V.sl (List.map cF ((simp_ (⟨((((5:Int)))),((((0:Int)))),(([f,(Fm.nd (6:Int) (0:Int) [f,g])]))⟩:Fm)).1.kids)))]])∧H 17=(bk 1 24 3 [[(iV ((simp_ f).1.op)),(iV ((simp_ f).1.arg)),(V.sl (List.map cF ((simp_ f).1.kids)))]])∧True) ?_ ?_
  ·
   refine R_mv t10 (R_eql rfl rfl (R_mv rfl ?_))
   refine Ops_seg 3 (fun T H=>T 12=(iV ((simp_ (⟨((((5:Int)))),((((0:Int)))),(([h,(Fm.nd (5:Int) (0:Int) [g,f,g])]))⟩:Fm)).2))∧T 14=(iV ((simp_ (⟨((((5:Int)))),((((0:Int)))),(([(Fm.nd (5:Int) (0:Int) [f,h]),g,(Fm.nd (4:Int) (0:Int) [(Fm.nd (4:Int) (0:Int) [h])])]))⟩:Fm)).2))∧T 16=(iV ((simp_ (⟨((((5:Int)))),((((0:Int)))),(([f,(Fm.nd (6:Int) (0:Int) [f,g])]))⟩:Fm)).2))∧T 18=(iV ((simp_ f).2))∧T 140=(V.bool (decide ((((simp_ (⟨((((5:Int)))),((((0:Int)))),(([f,g,h]))⟩:Fm)).2)=(0:Int))∨(((simp_ (⟨((((5:Int)))),((((0:Int)))),(([f,g,h]))⟩:Fm)).2)=(11:Int)))))∧H 1=(bk 1 52 10 [[(iV (f.op)),(iV (f.arg)),(V.sl (List.map cF (f.kids))),(iV (g.op)),(iV (g.arg)),(V.sl (List.map cF (g.kids))),(iV (h.op)),(iV (h.arg)),(V.sl (List.map cF (h.kids))),(V.bool b)]])∧H 3=(bk 1 24 3 [[(iV (f.op)),(iV (f.arg)),(V.sl (List.map cF (f.kids)))]])∧H 4=(bk 1 24 3 [[(iV (g.op)),(iV (g.arg)),(V.sl (List.map cF (g.kids)))]])∧H 5=(bk 1 24 3 [[(iV (h.op)),(iV (h.arg)),(V.sl (List.map cF (h.kids)))]])∧H 9=(bk 1 24 3 [[(iV ((simp_ (⟨((((5:Int)))),((((0:Int)))),(([f,g,h]))⟩:Fm)).1.op)),(iV ((simp_ (⟨((((5:Int)))),((((0:Int)))),(([f,g,h]))⟩:Fm)).1.arg)),(V.sl (List.map cF ((simp_ (⟨((((5:Int)))),((((0:Int)))),(([f,g,h]))⟩:Fm)).1.kids)))]])∧H 11=(bk 1 24 3 [[(iV ((simp_ (⟨((((5:Int)))),((((0:Int)))),(([h,(Fm.nd (5:Int) (0:Int) [g,f,g])]))⟩:Fm)).1.op)),(iV ((simp_ (⟨((((5:Int)))),((((0:Int)))),(([h,(Fm.nd (5:Int) (0:Int) [g,f,g])]))⟩:Fm)).1.arg)),(V.sl (List.map cF ((simp_ (⟨((((5:Int)))),((((0:Int)))),(([h,(Fm.nd (5:Int) (0:Int) [g,f,g])]))⟩:Fm)).1.kids)))]])∧H 13=(bk 1 24 3 [[(iV ((simp_ (⟨((((5:Int)))),((((0:Int)))),(([(Fm.nd (5:Int) (0:Int) [f,h]),g,(Fm.nd (4:Int) (0:Int) [(Fm.nd (4:Int) (0:Int) [h])])]))⟩:Fm)).1.op)),(iV ((simp_ (⟨((((5:Int)))),((((0:Int)))),(([(Fm.nd (5:Int) (0:Int) [f,h]),g,(Fm.nd (4:Int) (0:Int) [(Fm.nd (4:Int) (0:Int) [h])])]))⟩:Fm)).1.arg)),(V.sl (List.map cF ((simp_ (⟨((((5:Int)))),((((0:Int)))),(([(Fm.nd (5:Int) (0:Int) [f,h]),g,(Fm.nd (4:Int) (0:Int) [(Fm.nd (4:Int) (0:Int) [h])])]))⟩:Fm)).1.kids)))]])∧H 15=(bk 1 24 3 [[(iV ((simp_ (⟨((((5:Int)))),((((0:Int)))),(([f,(Fm.nd (6:Int) (0:Int) [f,g])]))⟩:Fm)).1.op)),(iV ((simp_ (⟨((((5:Int)))),((((0:Int)))),(([f,(Fm.nd (6:Int) (0:Int) [f,g])]))⟩:Fm)).1.arg)),(V.sl (List.map cF ((simp_ (⟨((((5:Int)))),((((0:Int)))),(([f,(Fm.nd (6:Int) (0:Int) [f,g])]))⟩:Fm)).1.kids)))]])∧H 17=(bk 1 24 3 [[(iV ((simp_ f).1.op)),(iV ((simp_ f).1.arg)),(V.sl (List.map cF ((simp_ f).1.kids)))]])∧True) ?_ ?_
   ·
    by_cases g31:((simp_ (⟨((((5:Int)))),((((0:Int)))),(([f,g,h]))⟩:Fm)).2)=(0:Int)
    ·
     refine G_n (edT g31 rfl) (G_n (edT g31 rfl) (R_pickT (edT g31 rfl) rfl ?_))
     exact ⟨t12,t14,t16,t18,(dec_orT g31),h1,h3,h4,h5,h9,h11,h13,h15,h17,trivial⟩
    ·
     refine G_yes (edF g31 rfl) (R_mv t10 (G_yes (edF g31 rfl) (R_eql rfl rfl (R_pickF (edF g31 rfl) rfl ?_))))
     exact ⟨t12,t14,t16,t18,(dec_orF g31),h1,h3,h4,h5,h9,h11,h13,h15,h17,trivial⟩
   intro T H ⟨t12,t14,t16,t18,t140,h1,h3,h4,h5,h9,h11,h13,h15,h17,_⟩
   refine R_mv t140 ?_
   refine Ops_seg 7 (fun T H=>T 14=(iV ((simp_ (⟨((((5:Int)))),((((0:Int)))),(([(Fm.nd (5:Int) (0:Int) [f,h]),g,(Fm.nd (4:Int) (0:Int) [(Fm.nd (4:Int) (0:Int) [h])])]))⟩:Fm)).2))∧T 16=(iV ((simp_ (⟨((((5:Int)))),((((0:Int)))),(([f,(Fm.nd (6:Int) (0:Int) [f,g])]))⟩:Fm)).2))∧T 18=(iV ((simp_ f).2))∧T 148=(V.bool (decide (((((simp_ (⟨((((5:Int)))),((((0:Int)))),(([f,g,h]))⟩:Fm)).2)=(0:Int))∨(((simp_ (⟨((((5:Int)))),((((0:Int)))),(([f,g,h]))⟩:Fm)).2)=(11:Int)))∧((((simp_ (⟨((((5:Int)))),((((0:Int)))),(([h,(Fm.nd (5:Int) (0:Int) [g,f,g])]))⟩:Fm)).2)=(0:Int))∨(((simp_ (⟨((((5:Int)))),((((0:Int)))),(([h,(Fm.nd (5:Int) (0:Int) [g,f,g])]))⟩:Fm)).2)=(11:Int))))))∧H 1=(bk 1 52 10 [[(iV (f.op)),(iV (f.arg)),(V.sl (List.map cF (f.kids))),(iV (g.op)),(iV (g.arg)),(V.sl (List.map cF (g.kids))),(iV (h.op)),(iV (h.arg)),(V.sl (List.map cF (h.kids))),(V.bool b)]])∧H 3=(bk 1 24 3 [[(iV (f.op)),(iV (f.arg)),(V.sl (List.map cF (f.kids)))]])∧H 4=(bk 1 24 3 [[(iV (g.op)),(iV (g.arg)),(V.sl (List.map cF (g.kids)))]])∧H 5=(bk 1 24 3 [[(iV (h.op)),(iV (h.arg)),(V.sl (List.map cF (h.kids)))]])∧H 9=(bk 1 24 3 [[(iV ((simp_ (⟨((((5:Int)))),((((0:Int)))),(([f,g,h]))⟩:Fm)).1.op)),(iV ((simp_ (⟨((((5:Int)))),((((0:Int)))),(([f,g,h]))⟩:Fm)).1.arg)),(V.sl (List.map cF ((simp_ (⟨((((5:Int)))),((((0:Int)))),(([f,g,h]))⟩:Fm)).1.kids)))]])∧H 11=(bk 1 24 3 [[(iV ((simp_ (⟨((((5:Int)))),((((0:Int)))),(([h,(Fm.nd (5:Int) (0:Int) [g,f,g])]))⟩:Fm)).1.op)),(iV ((simp_ (⟨((((5:Int)))),((((0:Int)))),(([h,(Fm.nd (5:Int) (0:Int) [g,f,g])]))⟩:Fm)).1.arg)),(V.sl (List.map cF ((simp_ (⟨((((5:Int)))),((((0:Int)))),(([h,(Fm.nd (5:Int) (0:Int) [g,f,g])]))⟩:Fm)).1.kids)))]])∧H 13=(bk 1 24 3 [[(iV ((simp_ (⟨((((5:Int)))),((((0:Int)))),(([(Fm.nd (5:Int) (0:Int) [f,h]),g,(Fm.nd (4:Int) (0:Int) [(Fm.nd (4:Int) (0:Int) [h])])]))⟩:Fm)).1.op)),(iV ((simp_ (⟨((((5:Int)))),((((0:Int)))),(([(Fm.nd (5:Int) (0:Int) [f,h]),g,(Fm.nd (4:Int) (0:Int) [(Fm.nd (4:Int) (0:Int) [h])])]))⟩:Fm)).1.arg)),(V.sl (List.map cF ((simp_ (⟨((((5:Int)))),((((0:Int)))),(([(Fm.nd (5:Int) (0:Int) [f,h]),g,(Fm.nd (4:Int) (0:Int) [(Fm.nd (4:Int) (0:Int) [h])])]))⟩:Fm)).1.kids)))]])∧H 15=(bk 1 24 3 [[(iV ((simp_ (⟨((((5:Int)))),((((0:Int)))),(([f,(Fm.nd (6:Int) (0:Int) [f,g])]))⟩:Fm)).1.op)),(iV ((simp_ (⟨((((5:Int)))),((((0:Int)))),(([f,(Fm.nd (6:Int) (0:Int) [f,g])]))⟩:Fm)).1.arg)),(V.sl (List.map cF ((simp_ (⟨((((5:Int)))),((((0:Int)))),(([f,(Fm.nd (6:Int) (0:Int) [f,g])]))⟩:Fm)).1.kids)))]])∧H 17=(bk 1 24 3 [[(iV ((simp_ f).1.op)),(iV ((simp_ f).1.arg)),(V.sl (List.map cF ((simp_ f).1.kids)))]])∧True) ?_ ?_
   ·
    by_cases g32:(((simp_ (⟨((((5:Int)))),((((0:Int)))),(([f,g,h]))⟩:Fm)).2)=(0:Int))∨(((simp_ (⟨((((5:Int)))),((((0:Int)))),(([f,g,h]))⟩:Fm)).2)=(11:Int))
    ·
     refine G_yes (edT g32 rfl) (R_mv t12 (G_yes (edT g32 rfl) (R_eql rfl rfl (G_yes (edT g32 rfl) (R_mv rfl ?_)))))
     refine Ops_seg 3 (fun T H=>T 14=(iV ((simp_ (⟨((((5:Int)))),((((0:Int)))),(([(Fm.nd (5:Int) (0:Int) [f,h]),g,(Fm.nd (4:Int) (0:Int) [(Fm.nd (4:Int) (0:Int) [h])])]))⟩:Fm)).2))∧T 16=(iV ((simp_ (⟨((((5:Int)))),((((0:Int)))),(([f,(Fm.nd (6:Int) (0:Int) [f,g])]))⟩:Fm)).2))∧T 18=(iV ((simp_ f).2))∧T 141=(V.bool true)∧T 147=(V.bool (decide ((((simp_ (⟨((((5:Int)))),((((0:Int)))),(([h,(Fm.nd (5:Int) (0:Int) [g,f,g])]))⟩:Fm)).2)=(0:Int))∨(((simp_ (⟨((((5:Int)))),((((0:Int)))),(([h,(Fm.nd (5:Int) (0:Int) [g,f,g])]))⟩:Fm)).2)=(11:Int)))))∧H 1=(bk 1 52 10 [[(iV (f.op)),(iV (f.arg)),(V.sl (List.map cF (f.kids))),(iV (g.op)),(iV (g.arg)),(V.sl (List.map cF (g.kids))),(iV (h.op)),(iV (h.arg)),(V.sl (List.map cF (h.kids))),(V.bool b)]])∧H 3=(bk 1 24 3 [[(iV (f.op)),(iV (f.arg)),(V.sl (List.map cF (f.kids)))]])∧H 4=(bk 1 24 3 [[(iV (g.op)),(iV (g.arg)),(V.sl (List.map cF (g.kids)))]])∧H 5=(bk 1 24 3 [[(iV (h.op)),(iV (h.arg)),(V.sl (List.map cF (h.kids)))]])∧H 9=(bk 1 24 3 [[(iV ((simp_ (⟨((((5:Int)))),((((0:Int)))),(([f,g,h]))⟩:Fm)).1.op)),(iV ((simp_ (⟨((((5:Int)))),((((0:Int)))),(([f,g,h]))⟩:Fm)).1.arg)),(V.sl (List.map cF ((simp_ (⟨((((5:Int)))),((((0:Int)))),(([f,g,h]))⟩:Fm)).1.kids)))]])∧H 11=(bk 1 24 3 [[(iV ((simp_ (⟨((((5:Int)))),((((0:Int)))),(([h,(Fm.nd (5:Int) (0:Int) [g,f,g])]))⟩:Fm)).1.op)),(iV ((simp_ (⟨((((5:Int)))),((((0:Int)))),(([h,(Fm.nd (5:Int) (0:Int) [g,f,g])]))⟩:Fm)).1.arg)),(V.sl (List.map cF ((simp_ (⟨((((5:Int)))),((((0:Int)))),(([h,(Fm.nd (5:Int) (0:Int) [g,f,g])]))⟩:Fm)).1.kids)))]])∧H 13=(bk 1 24 3 [[(iV ((simp_ (⟨((((5:Int)))),((((0:Int)))),(([(Fm.nd (5:Int) (0:Int) [f,h]),g,(Fm.nd (4:Int) (0:Int) [(Fm.nd (4:Int) (0:Int) [h])])]))⟩:Fm)).1.op)),(iV ((simp_ (⟨((((5:Int)))),((((0:Int)))),(([(Fm.nd (5:Int) (0:Int) [f,h]),g,(Fm.nd (4:Int) (0:Int) [(Fm.nd (4:Int) (0:Int) [h])])]))⟩:Fm)).1.arg)),(V.sl (List.map cF ((simp_ (⟨((((5:Int)))),((((0:Int)))),(([(Fm.nd (5:Int) (0:Int) [f,h]),g,(Fm.nd (4:Int) (0:Int) [(Fm.nd (4:Int) (0:Int) [h])])]))⟩:Fm)).1.kids)))]])∧H 15=(bk 1 24 3 [[(iV ((simp_ (⟨((((5:Int)))),((((0:Int)))),(([f,(Fm.nd (6:Int) (0:Int) [f,g])]))⟩:Fm)).1.op)),(iV ((simp_ (⟨((((5:Int)))),((((0:Int)))),(([f,(Fm.nd (6:Int) (0:Int) [f,g])]))⟩:Fm)).1.arg)),(V.sl (List.map cF ((simp_ (⟨((((5:Int)))),((((0:Int)))),(([f,(Fm.nd (6:Int) (0:Int) [f,g])]))⟩:Fm)).1.kids)))]])∧H 17=(bk 1 24 3 [[(iV ((simp_ f).1.op)),(iV ((simp_ f).1.arg)),(V.sl (List.map cF ((simp_ f).1.kids)))]])∧True) ?_ ?_
     ·
      by_cases g33:((simp_ (⟨((((5:Int)))),((((0:Int)))),(([h,(Fm.nd (5:Int) (0:Int) [g,f,g])]))⟩:Fm)).2)=(0:Int)
      ·
       refine G_n (edT g33 rfl) (G_n (edT g33 rfl) (G_yes (edT g32 rfl) (R_pickT (edT g33 rfl) rfl ?_)))
       exact ⟨t14,t16,t18,(edT g32 rfl),(dec_orT g33),h1,h3,h4,h5,h9,h11,h13,h15,h17,trivial⟩
      ·
       refine G_yes (edF g33 rfl) (R_mv t12 (G_yes (edF g33 rfl) (R_eql rfl rfl (G_yes (edT g32 rfl) (R_pickF (edF g33 rfl) rfl ?_)))))
       exact ⟨t14,t16,t18,(edT g32 rfl),(dec_orF g33),h1,h3,h4,h5,h9,h11,h13,h15,h17,trivial⟩
     intro T H ⟨t14,t16,t18,t141,t147,h1,h3,h4,h5,h9,h11,h13,h15,h17,_⟩
     refine R_pickT t141 t147 ?_
     exact ⟨t14,t16,t18,(dec_andT g32),h1,h3,h4,h5,h9,h11,h13,h15,h17,trivial⟩
    ·
     refine G_n (edF g32 rfl) (G_n (edF g32 rfl) (G_n (edF g32 rfl) (G_raw (@rfl V (V.raw undef)) (G_raw (@rfl V (V.raw undef)) (G_n (edF g32 rfl) (R_pickF (edF g32 rfl) rfl ?_))))))
     exact ⟨t14,t16,t18,(dec_andF g32),h1,h3,h4,h5,h9,h11,h13,h15,h17,trivial⟩
   intro T H ⟨t14,t16,t18,t148,h1,h3,h4,h5,h9,h11,h13,h15,h17,_⟩
   refine R_mv t148 ?_
   refine Ops_seg 7 (fun T H=>T 16=(iV ((simp_ (⟨((((5:Int)))),((((0:Int)))),(([f,(Fm.nd (6:Int) (0:Int) [f,g])]))⟩:Fm)).2))∧T 18=(iV ((simp_ f).2))∧T 156=(V.bool (decide ((((((simp_ (⟨((((5:Int)))),((((0:Int)))),(([f,g,h]))⟩:Fm)).2)=(0:Int))∨(((simp_ (⟨((((5:Int)))),((((0:Int)))),(([f,g,h]))⟩:Fm)).2)=(11:Int)))∧((((simp_ (⟨((((5:Int)))),((((0:Int)))),(([h,(Fm.nd (5:Int) (0:Int) [g,f,g])]))⟩:Fm)).2)=(0:Int))∨(((simp_ (⟨((((5:Int)))),((((0:Int)))),(([h,(Fm.nd (5:Int) (0:Int) [g,f,g])]))⟩:Fm)).2)=(11:Int))))∧((((simp_ (⟨((((5:Int)))),((((0:Int)))),(([(Fm.nd (5:Int) (0:Int) [f,h]),g,(Fm.nd (4:Int) (0:Int) [(Fm.nd (4:Int) (0:Int) [h])])]))⟩:Fm)).2)=(0:Int))∨(((simp_ (⟨((((5:Int)))),((((0:Int)))),(([(Fm.nd (5:Int) (0:Int) [f,h]),g,(Fm.nd (4:Int) (0:Int) [(Fm.nd (4:Int) (0:Int) [h])])]))⟩:Fm)).2)=(11:Int))))))∧H 1=(bk 1 52 10 [[(iV (f.op)),(iV (f.arg)),(V.sl (List.map cF (f.kids))),(iV (g.op)),(iV (g.arg)),(V.sl (List.map cF (g.kids))),(iV (h.op)),(iV (h.arg)),(V.sl (List.map cF (h.kids))),(V.bool b)]])∧H 3=(bk 1 24 3 [[(iV (f.op)),(iV (f.arg)),(V.sl (List.map cF (f.kids)))]])∧H 4=(bk 1 24 3 [[(iV (g.op)),(iV (g.arg)),(V.sl (List.map cF (g.kids)))]])∧H 5=(bk 1 24 3 [[(iV (h.op)),(iV (h.arg)),(V.sl (List.map cF (h.kids)))]])∧H 9=(bk 1 24 3 [[(iV ((simp_ (⟨((((5:Int)))),((((0:Int)))),(([f,g,h]))⟩:Fm)).1.op)),(iV ((simp_ (⟨((((5:Int)))),((((0:Int)))),(([f,g,h]))⟩:Fm)).1.arg)),(V.sl (List.map cF ((simp_ (⟨((((5:Int)))),((((0:Int)))),(([f,g,h]))⟩:Fm)).1.kids)))]])∧H 11=(bk 1 24 3 [[(iV ((simp_ (⟨((((5:Int)))),((((0:Int)))),(([h,(Fm.nd (5:Int) (0:Int) [g,f,g])]))⟩:Fm)).1.op)),(iV ((simp_ (⟨((((5:Int)))),((((0:Int)))),(([h,(Fm.nd (5:Int) (0:Int) [g,f,g])]))⟩:Fm)).1.arg)),(V.sl (List.map cF ((simp_ (⟨((((5:Int)))),((((0:Int)))),(([h,(Fm.nd (5:Int) (0:Int) [g,f,g])]))⟩:Fm)).1.kids)))]])∧H 13=(bk 1 24 3 [[(iV ((simp_ (⟨((((5:Int)))),((((0:Int)))),(([(Fm.nd (5:Int) (0:Int) [f,h]),g,(Fm.nd (4:Int) (0:Int) [(Fm.nd (4:Int) (0:Int) [h])])]))⟩:Fm)).1.op)),(iV ((simp_ (⟨((((5:Int)))),((((0:Int)))),(([(Fm.nd (5:Int) (0:Int) [f,h]),g,(Fm.nd (4:Int) (0:Int) [(Fm.nd (4:Int) (0:Int) [h])])]))⟩:Fm)).1.arg)),(V.sl (List.map cF ((simp_ (⟨((((5:Int)))),((((0:Int)))),(([(Fm.nd (5:Int) (0:Int) [f,h]),g,(Fm.nd (4:Int) (0:Int) [(Fm.nd (4:Int) (0:Int) [h])])]))⟩:Fm)).1.kids)))]])∧H 15=(bk 1 24 3 [[(iV ((simp_ (⟨((((5:Int)))),((((0:Int)))),(([f,(Fm.nd (6:Int) (0:Int) [f,g])]))⟩:Fm)).1.op)),(iV ((simp_ (⟨((((5:Int)))),((((0:Int)))),(([f,(Fm.nd (6:Int) (0:Int) [f,g])]))⟩:Fm)).1.arg)),(V.sl (List.map cF ((simp_ (⟨((((5:Int)))),((((0:Int)))),(([f,(Fm.nd (6:Int) (0:Int) [f,g])]))⟩:Fm)).1.kids)))]])∧H 17=(bk 1 24 3 [[(iV ((simp_ f).1.op)),(iV ((simp_ f).1.arg)),(V.sl (List.map cF ((simp_ f).1.kids)))]])∧True) ?_ ?_
   ·
    by_cases g34:((((simp_ (⟨((((5:Int)))),((((0:Int)))),(([f,g,h]))⟩:Fm)).2)=(0:Int))∨(((simp_ (⟨((((5:Int)))),((((0:Int)))),(([f,g,h]))⟩:Fm)).2)=(11:Int)))∧((((simp_ (⟨((((5:Int)))),((((0:Int)))),(([h,(Fm.nd (5:Int) (0:Int) [g,f,g])]))⟩:Fm)).2)=(0:Int))∨(((simp_ (⟨((((5:Int)))),((((0:Int)))),(([h,(Fm.nd (5:Int) (0:Int) [g,f,g])]))⟩:Fm)).2)=(11:Int)))
    ·
     refine G_yes (edT g34 rfl) (R_mv t14 (G_yes (edT g34 rfl) (R_eql rfl rfl (G_yes (edT g34 rfl) (R_mv rfl ?_)))))
     refine Ops_seg 3 (fun T H=>T 16=(iV ((simp_ (⟨((((5:Int)))),((((0:Int)))),(([f,(Fm.nd (6:Int) (0:Int) [f,g])]))⟩:Fm)).2))∧T 18=(iV ((simp_ f).2))∧T 149=(V.bool true)∧T 155=(V.bool (decide ((((simp_ (⟨((((5:Int)))),((((0:Int)))),(([(Fm.nd (5:Int) (0:Int) [f,h]),g,(Fm.nd (4:Int) (0:Int) [(Fm.nd (4:Int) (0:Int) [h])])]))⟩:Fm)).2)=(0:Int))∨(((simp_ (⟨((((5:Int)))),((((0:Int)))),(([(Fm.nd (5:Int) (0:Int) [f,h]),g,(Fm.nd (4:Int) (0:Int) [(Fm.nd (4:Int) (0:Int) [h])])]))⟩:Fm)).2)=(11:Int)))))∧H 1=(bk 1 52 10 [[(iV (f.op)),(iV (f.arg)),(V.sl (List.map cF (f.kids))),(iV (g.op)),(iV (g.arg)),(V.sl (List.map cF (g.kids))),(iV (h.op)),(iV (h.arg)),(V.sl (List.map cF (h.kids))),(V.bool b)]])∧H 3=(bk 1 24 3 [[(iV (f.op)),(iV (f.arg)),(V.sl (List.map cF (f.kids)))]])∧H 4=(bk 1 24 3 [[(iV (g.op)),(iV (g.arg)),(V.sl (List.map cF (g.kids)))]])∧H 5=(bk 1 24 3 [[(iV (h.op)),(iV (h.arg)),(V.sl (List.map cF (h.kids)))]])∧H 9=(bk 1 24 3 [[(iV ((simp_ (⟨((((5:Int)))),((((0:Int)))),(([f,g,h]))⟩:Fm)).1.op)),(iV ((simp_ (⟨((((5:Int)))),((((0:Int)))),(([f,g,h]))⟩:Fm)).1.arg)),(V.sl (List.map cF ((simp_ (⟨((((5:Int)))),((((0:Int)))),(([f,g,h]))⟩:Fm)).1.kids)))]])∧H 11=(bk 1 24 3 [[(iV ((simp_ (⟨((((5:Int)))),((((0:Int)))),(([h,(Fm.nd (5:Int) (0:Int) [g,f,g])]))⟩:Fm)).1.op)),(iV ((simp_ (⟨((((5:Int)))),((((0:Int)))),(([h,(Fm.nd (5:Int) (0:Int) [g,f,g])]))⟩:Fm)).1.arg)),(V.sl (List.map cF ((simp_ (⟨((((5:Int)))),((((0:Int)))),(([h,(Fm.nd (5:Int) (0:Int) [g,f,g])]))⟩:Fm)).1.kids)))]])∧H 13=(bk 1 24 3 [[(iV ((simp_ (⟨((((5:Int)))),((((0:Int)))),(([(Fm.nd (5:Int) (0:Int) [f,h]),g,(Fm.nd (4:Int) (0:Int) [(Fm.nd (4:Int) (0:Int) [h])])]))⟩:Fm)).1.op)),(iV ((simp_ (⟨((((5:Int)))),((((0:Int)))),(([(Fm.nd (5:Int) (0:Int) [f,h]),g,(Fm.nd (4:Int) (0:Int) [(Fm.nd (4:Int) (0:Int) [h])])]))⟩:Fm)).1.arg)),(V.sl (List.map cF ((simp_ (⟨((((5:Int)))),((((0:Int)))),(([(Fm.nd (5:Int) (0:Int) [f,h]),g,(Fm.nd (4:Int) (0:Int) [(Fm.nd (4:Int) (0:Int) [h])])]))⟩:Fm)).1.kids)))]])∧H 15=(bk 1 24 3 [[(iV ((simp_ (⟨((((5:Int)))),((((0:Int)))),(([f,(Fm.nd (6:Int) (0:Int) [f,g])]))⟩:Fm)).1.op)),(iV ((simp_ (⟨((((5:Int)))),((((0:Int)))),(([f,(Fm.nd (6:Int) (0:Int) [f,g])]))⟩:Fm)).1.arg)),(V.sl (List.map cF ((simp_ (⟨((((5:Int)))),((((0:Int)))),(([f,(Fm.nd (6:Int) (0:Int) [f,g])]))⟩:Fm)).1.kids)))]])∧H 17=(bk 1 24 3 [[(iV ((simp_ f).1.op)),(iV ((simp_ f).1.arg)),(V.sl (List.map cF ((simp_ f).1.kids)))]])∧True) ?_ ?_
     ·
      by_cases g35:((simp_ (⟨((((5:Int)))),((((0:Int)))),(([(Fm.nd (5:Int) (0:Int) [f,h]),g,(Fm.nd (4:Int) (0:Int) [(Fm.nd (4:Int) (0:Int) [h])])]))⟩:Fm)).2)=(0:Int)
      ·
       refine G_n (edT g35 rfl) (G_n (edT g35 rfl) (G_yes (edT g34 rfl) (R_pickT (edT g35 rfl) rfl ?_)))
       exact ⟨t16,t18,(edT g34 rfl),(dec_orT g35),h1,h3,h4,h5,h9,h11,h13,h15,h17,trivial⟩
      ·
       refine G_yes (edF g35 rfl) (R_mv t14 (G_yes (edF g35 rfl) (R_eql rfl rfl (G_yes (edT g34 rfl) (R_pickF (edF g35 rfl) rfl ?_)))))
       exact ⟨t16,t18,(edT g34 rfl),(dec_orF g35),h1,h3,h4,h5,h9,h11,h13,h15,h17,trivial⟩
     intro T H ⟨t16,t18,t149,t155,h1,h3,h4,h5,h9,h11,h13,h15,h17,_⟩
     refine R_pickT t149 t155 ?_
     exact ⟨t16,t18,(dec_andT g34),h1,h3,h4,h5,h9,h11,h13,h15,h17,trivial⟩
    ·
     refine G_n (edF g34 rfl) (G_n (edF g34 rfl) (G_n (edF g34 rfl) (G_raw (@rfl V (V.raw undef)) (G_raw (@rfl V (V.raw undef)) (G_n (edF g34 rfl) (R_pickF (edF g34 rfl) rfl ?_))))))
     exact ⟨t16,t18,(dec_andF g34),h1,h3,h4,h5,h9,h11,h13,h15,h17,trivial⟩
   intro T H ⟨t16,t18,t156,h1,h3,h4,h5,h9,h11,h13,h15,h17,_⟩
   refine R_mv t156 ?_
   refine Ops_seg 7 (fun T H=>T 18=(iV ((simp_ f).2))∧T 164=(V.bool (decide (((((((simp_ (⟨((((5:Int)))),((((0:Int)))),(([f,g,h]))⟩:Fm)).2)=(0:Int))∨(((simp_ (⟨((((5:Int)))),((((0:Int)))),(([f,g,h]))⟩:Fm)).2)=(11:Int)))∧((((simp_ (⟨((((5:Int)))),((((0:Int)))),(([h,(Fm.nd (5:Int) (0:Int) [g,f,g])]))⟩:Fm)).2)=(0:Int))∨(((simp_ (⟨((((5:Int)))),((((0:Int)))),(([h,(Fm.nd (5:Int) (0:Int) [g,f,g])]))⟩:Fm)).2)=(11:Int))))∧((((simp_ (⟨((((5:Int)))),((((0:Int)))),(([(Fm.nd (5:Int) (0:Int) [f,h]),g,(Fm.nd (4:Int) (0:Int) [(Fm.nd (4:Int) (0:Int) [h])])]))⟩:Fm)).2)=(0:Int))∨(((simp_ (⟨((((5:Int)))),((((0:Int)))),(([(Fm.nd (5:Int) (0:Int) [f,h]),g,(Fm.nd (4:Int) (0:Int) [(Fm.nd (4:Int) (0:Int) [h])])]))⟩:Fm)).2)=(11:Int))))∧((((simp_ (⟨((((5:Int)))),((((0:Int)))),(([f,(Fm.nd (6:Int) (0:Int) [f,g])]))⟩:Fm)).2)=(0:Int))∨(((simp_ (⟨((((5:Int)))),((((0:Int)))),(([f,(Fm.nd (6:Int) (0:Int) [f,g])]))⟩:Fm)).2)=(11:Int))))))∧H 1=(bk 1 52 10 [[(iV (f.op)),(iV (f.arg)),(V.sl (List.map cF (f.kids))),(iV (g.op)),(iV (g.arg)),(V.sl (List.map cF (g.kids))),(iV (h.op)),(iV (h.arg)),(V.sl (List.map cF (h.kids))),(V.bool b)]])∧H 3=(bk 1 24 3 [[(iV (f.op)),(iV (f.arg)),(V.sl (List.map cF (f.kids)))]])∧H 4=(bk 1 24 3 [[(iV (g.op)),(iV (g.arg)),(V.sl (List.map cF (g.kids)))]])∧H 5=(bk 1 24 3 [[(iV (h.op)),(iV (h.arg)),(V.sl (List.map cF (h.kids)))]])∧H 9=(bk 1 24 3 [[(iV ((simp_ (⟨((((5:Int)))),((((0:Int)))),(([f,g,h]))⟩:Fm)).1.op)),(iV ((simp_ (⟨((((5:Int)))),((((0:Int)))),(([f,g,h]))⟩:Fm)).1.arg)),(V.sl (List.map cF ((simp_ (⟨((((5:Int)))),((((0:Int)))),(([f,g,h]))⟩:Fm)).1.kids)))]])∧H 11=(bk 1 24 3 [[(iV ((simp_ (⟨((((5:Int)))),((((0:Int)))),(([h,(Fm.nd (5:Int) (0:Int) [g,f,g])]))⟩:Fm)).1.op)),(iV ((simp_ (⟨((((5:Int)))),((((0:Int)))),(([h,(Fm.nd (5:Int) (0:Int) [g,f,g])]))⟩:Fm)).1.arg)),(V.sl (List.map cF ((simp_ (⟨((((5:Int)))),((((0:Int)))),(([h,(Fm.nd (5:Int) (0:Int) [g,f,g])]))⟩:Fm)).1.kids)))]])∧H 13=(bk 1 24 3 [[(iV ((simp_ (⟨((((5:Int)))),((((0:Int)))),(([(Fm.nd (5:Int) (0:Int) [f,h]),g,(Fm.nd (4:Int) (0:Int) [(Fm.nd (4:Int) (0:Int) [h])])]))⟩:Fm)).1.op)),(iV ((simp_ (⟨((((5:Int)))),((((0:Int)))),(([(Fm.nd (5:Int) (0:Int) [f,h]),g,(Fm.nd (4:Int) (0:Int) [(Fm.nd (4:Int) (0:Int) [h])])]))⟩:Fm)).1.arg)),(V.sl (List.map cF ((simp_ (⟨((((5:Int)))),((((0:Int)))),(([(Fm.nd (5:Int) (0:Int) [f,h]),g,(Fm.nd (4:Int) (0:Int) [(Fm.nd (4:Int) (0:Int) [h])])]))⟩:Fm)).1.kids)))]])∧H 15=(bk 1 24 3 [[(iV ((simp_ (⟨((((5:Int)))),((((0:Int)))),(([f,(Fm.nd (6:Int) (0:Int) [f,g])]))⟩:Fm)).1.op)),(iV ((simp_ (⟨((((5:Int)))),((((0:Int)))),(([f,(Fm.nd (6:Int) (0:Int) [f,g])]))⟩:Fm)).1.arg)),(V.sl (List.map cF ((simp_ (⟨((((5:Int)))),((((0:Int)))),(([f,(Fm.nd (6:Int) (0:Int) [f,g])]))⟩:Fm)).1.kids)))]])∧H 17=(bk 1 24 3 [[(iV ((simp_ f).1.op)),(iV ((simp_ f).1.arg)),(V.sl (List.map cF ((simp_ f).1.kids)))]])∧True) ?_ ?_
   ·
    by_cases g36:(((((simp_ (⟨((((5:Int)))),((((0:Int)))),(([f,g,h]))⟩:Fm)).2)=(0:Int))∨(((simp_ (⟨((((5:Int)))),((((0:Int)))),(([f,g,h]))⟩:Fm)).2)=(11:Int)))∧((((simp_ (⟨((((5:Int)))),((((0:Int)))),(([h,(Fm.nd (5:Int) (0:Int) [g,f,g])]))⟩:Fm)).2)=(0:Int))∨(((simp_ (⟨((((5:Int)))),((((0:Int)))),(([h,(Fm.nd (5:Int) (0:Int) [g,f,g])]))⟩:Fm)).2)=(11:Int))))∧((((simp_ (⟨((((5:Int)))),((((0:Int)))),(([(Fm.nd (5:Int) (0:Int) [f,h]),g,(Fm.nd (4:Int) (0:Int) [(Fm.nd (4:Int) (0:Int) [h])])]))⟩:Fm)).2)=(0:Int))∨(((simp_ (⟨((((5:Int)))),((((0:Int)))),(([(Fm.nd (5:Int) (0:Int) [f,h]),g,(Fm.nd (4:Int) (0:Int) [(Fm.nd (4:Int) (0:Int) [h])])]))⟩:Fm)).2)=(11:Int)))
    ·
     refine G_yes (edT g36 rfl) (R_mv t16 (G_yes (edT g36 rfl) (R_eql rfl rfl (G_yes (edT g36 rfl) (R_mv rfl ?_)))))
     refine Ops_seg 3 (fun T H=>T 18=(iV ((simp_ f).2))∧T 157=(V.bool true)∧T 163=(V.bool (decide ((((simp_ (⟨((((5:Int)))),((((0:Int)))),(([f,(Fm.nd (6:Int) (0:Int) [f,g])]))⟩:Fm)).2)=(0:Int))∨(((simp_ (⟨((((5:Int)))),((((0:Int)))),(([f,(Fm.nd (6:Int) (0:Int) [f,g])]))⟩:Fm)).2)=(11:Int)))))∧H 1=(bk 1 52 10 [[(iV (f.op)),(iV (f.arg)),(V.sl (List.map cF (f.kids))),(iV (g.op)),(iV (g.arg)),(V.sl (List.map cF (g.kids))),(iV (h.op)),(iV (h.arg)),(V.sl (List.map cF (h.kids))),(V.bool b)]])∧H 3=(bk 1 24 3 [[(iV (f.op)),(iV (f.arg)),(V.sl (List.map cF (f.kids)))]])∧H 4=(bk 1 24 3 [[(iV (g.op)),(iV (g.arg)),(V.sl (List.map cF (g.kids)))]])∧H 5=(bk 1 24 3 [[(iV (h.op)),(iV (h.arg)),(V.sl (List.map cF (h.kids)))]])∧H 9=(bk 1 24 3 [[(iV ((simp_ (⟨((((5:Int)))),((((0:Int)))),(([f,g,h]))⟩:Fm)).1.op)),(iV ((simp_ (⟨((((5:Int)))),((((0:Int)))),(([f,g,h]))⟩:Fm)).1.arg)),(V.sl (List.map cF ((simp_ (⟨((((5:Int)))),((((0:Int)))),(([f,g,h]))⟩:Fm)).1.kids)))]])∧H 11=(bk 1 24 3 [[(iV ((simp_ (⟨((((5:Int)))),((((0:Int)))),(([h,(Fm.nd (5:Int) (0:Int) [g,f,g])]))⟩:Fm)).1.op)),(iV ((simp_ (⟨((((5:Int)))),((((0:Int)))),(([h,(Fm.nd (5:Int) (0:Int) [g,f,g])]))⟩:Fm)).1.arg)),(V.sl (List.map cF ((simp_ (⟨((((5:Int)))),((((0:Int)))),(([h,(Fm.nd (5:Int) (0:Int) [g,f,g])]))⟩:Fm)).1.kids)))]])∧H 13=(bk 1 24 3 [[(iV ((simp_ (⟨((((5:Int)))),((((0:Int)))),(([(Fm.nd (5:Int) (0:Int) [f,h]),g,(Fm.nd (4:Int) (0:Int) [(Fm.nd (4:Int) (0:Int) [h])])]))⟩:Fm)).1.op)),(iV ((simp_ (⟨((((5:Int)))),((((0:Int)))),(([(Fm.nd (5:Int) (0:Int) [f,h]),g,(Fm.nd (4:Int) (0:Int) [(Fm.nd (4:Int) (0:Int) [h])])]))⟩:Fm)).1.arg)),(V.sl (List.map cF ((simp_ (⟨((((5:Int)))),((((0:Int)))),(([(Fm.nd (5:Int) (0:Int) [f,h]),g,(Fm.nd (4:Int) (0:Int) [(Fm.nd (4:Int) (0:Int) [h])])]))⟩:Fm)).1.kids)))]])∧H 15=(bk 1 24 3 [[(iV ((simp_ (⟨((((5:Int)))),((((0:Int)))),(([f,(Fm.nd (6:Int) (0:Int) [f,g])]))⟩:Fm)).1.op)),(iV ((simp_ (⟨((((5:Int)))),((((0:Int)))),(([f,(Fm.nd (6:Int) (0:Int) [f,g])]))⟩:Fm)).1.arg)),(V.sl (List.map cF ((simp_ (⟨((((5:Int)))),((((0:Int)))),(([f,(Fm.nd (6:Int) (0:Int) [f,g])]))⟩:Fm)).1.kids)))]])∧H 17=(bk 1 24 3 [[(iV ((simp_ f).1.op)),(iV ((simp_ f).1.arg)),(V.sl (List.map cF ((simp_ f).1.kids)))]])∧True) ?_ ?_
     ·
      by_cases g37:((simp_ (⟨((((5:Int)))),((((0:Int)))),(([f,(Fm.nd (6:Int) (0:Int) [f,g])]))⟩:Fm)).2)=(0:Int)
      ·
       refine G_n (edT g37 rfl) (G_n (edT g37 rfl) (G_yes (edT g36 rfl) (R_pickT (edT g37 rfl) rfl ?_)))
       exact ⟨t18,(edT g36 rfl),(dec_orT g37),h1,h3,h4,h5,h9,h11,h13,h15,h17,trivial⟩
      ·
       refine G_yes (edF g37 rfl) (R_mv t16 (G_yes (edF g37 rfl) (R_eql rfl rfl (G_yes (edT g36 rfl) (R_pickF (edF g37 rfl) rfl ?_)))))
       exact ⟨t18,(edT g36 rfl),(dec_orF g37),h1,h3,h4,h5,h9,h11,h13,h15,h17,trivial⟩
     intro T H ⟨t18,t157,t163,h1,h3,h4,h5,h9,h11,h13,h15,h17,_⟩
     refine R_pickT t157 t163 ?_
     exact ⟨t18,(dec_andT g36),h1,h3,h4,h5,h9,h11,h13,h15,h17,trivial⟩
    ·
     refine G_n (edF g36 rfl) (G_n (edF g36 rfl) (G_n (edF g36 rfl) (G_raw (@rfl V (V.raw undef)) (G_raw (@rfl V (V.raw undef)) (G_n (edF g36 rfl) (R_pickF (edF g36 rfl) rfl ?_))))))
     exact ⟨t18,(dec_andF g36),h1,h3,h4,h5,h9,h11,h13,h15,h17,trivial⟩
   intro T H ⟨t18,t164,h1,h3,h4,h5,h9,h11,h13,h15,h17,_⟩
   refine R_mv t164 ?_
   refine Ops_seg 7 (fun T H=>T 172=(V.bool (decide ((((((((simp_ (⟨((((5:Int)))),((((0:Int)))),(([f,g,h]))⟩:Fm)).2)=(0:Int))∨(((simp_ (⟨((((5:Int)))),((((0:Int)))),(([f,g,h]))⟩:Fm)).2)=(11:Int)))∧((((simp_ (⟨((((5:Int)))),((((0:Int)))),(([h,(Fm.nd (5:Int) (0:Int) [g,f,g])]))⟩:Fm)).2)=(0:Int))∨(((simp_ (⟨((((5:Int)))),((((0:Int)))),(([h,(Fm.nd (5:Int) (0:Int) [g,f,g])]))⟩:Fm)).2)=(11:Int))))∧((((simp_ (⟨((((5:Int)))),((((0:Int)))),(([(Fm.nd (5:Int) (0:Int) [f,h]),g,(Fm.nd (4:Int) (0:Int) [(Fm.nd (4:Int) (0:Int) [h])])]))⟩:Fm)).2)=(0:Int))∨(((simp_ (⟨((((5:Int)))),((((0:Int)))),(([(Fm.nd (5:Int) (0:Int) [f,h]),g,(Fm.nd (4:Int) (0:Int) [(Fm.nd (4:Int) (0:Int) [h])])]))⟩:Fm)).2)=(11:Int))))∧((((simp_ (⟨((((5:Int)))),((((0:Int)))),(([f,(Fm.nd (6:Int) (0:Int) [f,g])]))⟩:Fm)).2)=(0:Int))∨(((simp_ (⟨((((5:Int)))),((((0:Int)))),(([f,(Fm.nd (6:Int) (0:Int) [f,g])]))⟩:Fm)).2)=(11:Int))))∧((((simp_ f).2)=(0:Int))∨(((simp_ f).2)=(11:Int))))))∧H 1=(bk 1 52 10 [[(iV (f.op)),(iV (f.arg)),(V.sl (List.map cF (f.kids))),(iV (g.op)),(iV (g.arg)),(V.sl (List.map cF (g.kids))),(iV (h.op)),(iV (h.arg)),(V.sl (List.map cF (h.kids))),(V.bool b)]])∧H 3=(bk 1 24 3 [[(iV (f.op)),(iV (f.arg)),(V.sl (List.map cF (f.kids)))]])∧H 4=(bk 1 24 3 [[(iV (g.op)),(iV (g.arg)),(V.sl (List.map cF (g.kids)))]])∧H 5=(bk 1 24 3 [[(iV (h.op)),(iV (h.arg)),(V.sl (List.map cF (h.kids)))]])∧H 9=(bk 1 24 3 [[(iV ((simp_ (⟨((((5:Int)))),((((0:Int)))),(([f,g,h]))⟩:Fm)).1.op)),(iV ((simp_ (⟨((((5:Int)))),((((0:Int)))),(([f,g,h]))⟩:Fm)).1.arg)),(V.sl (List.map cF ((simp_ (⟨((((5:Int)))),((((0:Int)))),(([f,g,h]))⟩:Fm)).1.kids)))]])∧H 11=(bk 1 24 3 [[(iV ((simp_ (⟨((((5:Int)))),((((0:Int)))),(([h,(Fm.nd (5:Int) (0:Int) [g,f,g])]))⟩:Fm)).1.op)),(iV ((simp_ (⟨((((5:Int)))),((((0:Int)))),(([h,(Fm.nd (5:Int) (0:Int) [g,f,g])]))⟩:Fm)).1.arg)),(V.sl (List.map cF ((simp_ (⟨((((5:Int)))),((((0:Int)))),(([h,(Fm.nd (5:Int) (0:Int) [g,f,g])]))⟩:Fm)).1.kids)))]])∧H 13=(bk 1 24 3 [[(iV ((simp_ (⟨((((5:Int)))),((((0:Int)))),(([(Fm.nd (5:Int) (0:Int) [f,h]),g,(Fm.nd (4:Int) (0:Int) [(Fm.nd (4:Int) (0:Int) [h])])]))⟩:Fm)).1.op)),(iV ((simp_ (⟨((((5:Int)))),((((0:Int)))),(([(Fm.nd (5:Int) (0:Int) [f,h]),g,(Fm.nd (4:Int) (0:Int) [(Fm.nd (4:Int) (0:Int) [h])])]))⟩:Fm)).1.arg)),(V.sl (List.map cF ((simp_ (⟨((((5:Int)))),((((0:Int)))),(([(Fm.nd (5:Int) (0:Int) [f,h]),g,(Fm.nd (4:Int) (0:Int) [(Fm.nd (4:Int) (0:Int) [h])])]))⟩:Fm)).1.kids)))]])∧H 15=(bk 1 24 3 [[(iV ((simp_ (⟨((((5:Int)))),((((0:Int)))),(([f,(Fm.nd (6:Int) (0:Int) [f,g])]))⟩:Fm)).1.op)),(iV ((simp_ (⟨((((5:Int)))),((((0:Int)))),(([f,(Fm.nd (6:Int) (0:Int) [f,g])]))⟩:Fm)).1.arg)),(V.sl (List.map cF ((simp_ (⟨((((5:Int)))),((((0:Int)))),(([f,(Fm.nd (6:Int) (0:Int) [f,g])]))⟩:Fm)).1.kids)))]])∧H 17=(bk 1 24 3 [[(iV ((simp_ f).1.op)),(iV ((simp_ f).1.arg)),(V.sl (List.map cF ((simp_ f).1.kids)))]])∧True) ?_ ?_
   ·
    by_cases g38:((((((simp_ (⟨((((5:Int)))),((((0:Int)))),(([f,g,h]))⟩:Fm)).2)=(0:Int))∨(((simp_ (⟨((((5:Int)))),((((0:Int)))),(([f,g,h]))⟩:Fm)).2)=(11:Int)))∧((((simp_ (⟨((((5:Int)))),((((0:Int)))),(([h,(Fm.nd (5:Int) (0:Int) [g,f,g])]))⟩:Fm)).2)=(0:Int))∨(((simp_ (⟨((((5:Int)))),((((0:Int)))),(([h,(Fm.nd (5:Int) (0:Int) [g,f,g])]))⟩:Fm)).2)=(11:Int))))∧((((simp_ (⟨((((5:Int)))),((((0:Int)))),(([(Fm.nd (5:Int) (0:Int) [f,h]),g,(Fm.nd (4:Int) (0:Int) [(Fm.nd (4:Int) (0:Int) [h])])]))⟩:Fm)).2)=(0:Int))∨(((simp_ (⟨((((5:Int)))),((((0:Int)))),(([(Fm.nd (5:Int) (0:Int) [f,h]),g,(Fm.nd (4:Int) (0:Int) [(Fm.nd (4:Int) (0:Int) [h])])]))⟩:Fm)).2)=(11:Int))))∧((((simp_ (⟨((((5:Int)))),((((0:Int)))),(([f,(Fm.nd (6:Int) (0:Int) [f,g])]))⟩:Fm)).2)=(0:Int))∨(((simp_ (⟨((((5:Int)))),((((0:Int)))),(([f,(Fm.nd (6:Int) (0:Int) [f,g])]))⟩:Fm)).2)=(11:Int)))
    ·
     refine G_yes (edT g38 rfl) (R_mv t18 (G_yes (edT g38 rfl) (R_eql rfl rfl (G_yes (edT g38 rfl) (R_mv rfl ?_)))))
     refine Ops_seg 3 (fun T H=>T 165=(V.bool true)∧T 171=(V.bool (decide ((((simp_ f).2)=(0:Int))∨(((simp_ f).2)=(11:Int)))))∧H 1=(bk 1 52 10 [[(iV (f.op)),(iV (f.arg)),(V.sl (List.map cF (f.kids))),(iV (g.op)),(iV (g.arg)),(V.sl (List.map cF (g.kids))),(iV (h.op)),(iV (h.arg)),(V.sl (List.map cF (h.kids))),(V.bool b)]])∧H 3=(bk 1 24 3 [[(iV (f.op)),(iV (f.arg)),(V.sl (List.map cF (f.kids)))]])∧H 4=(bk 1 24 3 [[(iV (g.op)),(iV (g.arg)),(V.sl (List.map cF (g.kids)))]])∧H 5=(bk 1 24 3 [[(iV (h.op)),(iV (h.arg)),(V.sl (List.map cF (h.kids)))]])∧H 9=(bk 1 24 3 [[(iV ((simp_ (⟨((((5:Int)))),((((0:Int)))),(([f,g,h]))⟩:Fm)).1.op)),(iV ((simp_ (⟨((((5:Int)))),((((0:Int)))),(([f,g,h]))⟩:Fm)).1.arg)),(V.sl (List.map cF ((simp_ (⟨((((5:Int)))),((((0:Int)))),(([f,g,h]))⟩:Fm)).1.kids)))]])∧H 11=(bk 1 24 3 [[(iV ((simp_ (⟨((((5:Int)))),((((0:Int)))),(([h,(Fm.nd (5:Int) (0:Int) [g,f,g])]))⟩:Fm)).1.op)),(iV ((simp_ (⟨((((5:Int)))),((((0:Int)))),(([h,(Fm.nd (5:Int) (0:Int) [g,f,g])]))⟩:Fm)).1.arg)),(V.sl (List.map cF ((simp_ (⟨((((5:Int)))),((((0:Int)))),(([h,(Fm.nd (5:Int) (0:Int) [g,f,g])]))⟩:Fm)).1.kids)))]])∧H 13=(bk 1 24 3 [[(iV ((simp_ (⟨((((5:Int)))),((((0:Int)))),(([(Fm.nd (5:Int) (0:Int) [f,h]),g,(Fm.nd (4:Int) (0:Int) [(Fm.nd (4:Int) (0:Int) [h])])]))⟩:Fm)).1.op)),(iV ((simp_ (⟨((((5:Int)))),((((0:Int)))),(([(Fm.nd (5:Int) (0:Int) [f,h]),g,(Fm.nd (4:Int) (0:Int) [(Fm.nd (4:Int) (0:Int) [h])])]))⟩:Fm)).1.arg)),(V.sl (List.map cF ((simp_ (⟨((((5:Int)))),((((0:Int)))),(([(Fm.nd (5:Int) (0:Int) [f,h]),g,(Fm.nd (4:Int) (0:Int) [(Fm.nd (4:Int) (0:Int) [h])])]))⟩:Fm)).1.kids)))]])∧H 15=(bk 1 24 3 [[(iV ((simp_ (⟨((((5:Int)))),((((0:Int)))),(([f,(Fm.nd (6:Int) (0:Int) [f,g])]))⟩:Fm)).1.op)),(iV ((simp_ (⟨((((5:Int)))),((((0:Int)))),(([f,(Fm.nd (6:Int) (0:Int) [f,g])]))⟩:Fm)).1.arg)),(V.sl (List.map cF ((simp_ (⟨((((5:Int)))),((((0:Int)))),(([f,(Fm.nd (6:Int) (0:Int) [f,g])]))⟩:Fm)).1.kids)))]])∧H 17=(bk 1 24 3 [[(iV ((simp_ f).1.op)),(iV ((simp_ f).1.arg)),(V.sl (List.map cF ((simp_ f).1.kids)))]])∧True) ?_ ?_
     ·
      by_cases g39:((simp_ f).2)=(0:Int)
      ·
       refine G_n (edT g39 rfl) (G_n (edT g39 rfl) (G_yes (edT g38 rfl) (R_pickT (edT g39 rfl) rfl ?_)))
       exact ⟨(edT g38 rfl),(dec_orT g39),h1,h3,h4,h5,h9,h11,h13,h15,h17,trivial⟩
      ·
       refine G_yes (edF g39 rfl) (R_mv t18 (G_yes (edF g39 rfl) (R_eql rfl rfl (G_yes (edT g38 rfl) (R_pickF (edF g39 rfl) rfl ?_)))))
       exact ⟨(edT g38 rfl),(dec_orF g39),h1,h3,h4,h5,h9,h11,h13,h15,h17,trivial⟩
     intro T H ⟨t165,t171,h1,h3,h4,h5,h9,h11,h13,h15,h17,_⟩
     refine R_pickT t165 t171 ?_
     exact ⟨(dec_andT g38),h1,h3,h4,h5,h9,h11,h13,h15,h17,trivial⟩
    ·
     refine G_n (edF g38 rfl) (G_n (edF g38 rfl) (G_n (edF g38 rfl) (G_raw (@rfl V (V.raw undef)) (G_raw (@rfl V (V.raw undef)) (G_n (edF g38 rfl) (R_pickF (edF g38 rfl) rfl ?_))))))
     exact ⟨(dec_andF g38),h1,h3,h4,h5,h9,h11,h13,h15,h17,trivial⟩
   intro T H ⟨t172,h1,h3,h4,h5,h9,h11,h13,h15,h17,_⟩
   refine R_mv t172 ?_
   refine Ops_seg 2 (fun T H=>T 175=(V.bool (decide ((((((((simp_ (⟨((((5:Int)))),((((0:Int)))),(([f,g,h]))⟩:Fm)).2)=(0:Int))∨(((simp_ (⟨((((5:Int)))),((((0:Int)))),(([f,g,h]))⟩:Fm)).2)=(11:Int)))∧((((simp_ (⟨((((5:Int)))),((((0:Int)))),(([h,(Fm.nd (5:Int) (0:Int) [g,f,g])]))⟩:Fm)).2)=(0:Int))∨(((simp_ (⟨((((5:Int)))),((((0:Int)))),(([h,(Fm.nd (5:Int) (0:Int) [g,f,g])]))⟩:Fm)).2)=(11:Int))))∧((((simp_ (⟨((((5:Int)))),((((0:Int)))),(([(Fm.nd (5:Int) (0:Int) [f,h]),g,(Fm.nd (4:Int) (0:Int) [(Fm.nd (4:Int) (0:Int) [h])])]))⟩:Fm)).2)=(0:Int))∨(((simp_ (⟨((((5:Int)))),((((0:Int)))),(([(Fm.nd (5:Int) (0:Int) [f,h]),g,(Fm.nd (4:Int) (0:Int) [(Fm.nd (4:Int) (0:Int) [h])])]))⟩:Fm)).2)=(11:Int))))∧((((simp_ (⟨((((5:Int)))),((((0:Int)))),(([f,(Fm.nd (6:Int) (0:Int) [f,g])]))⟩:Fm)).2)=(0:Int))∨(((simp_ (⟨((((5:Int)))),((((0:Int)))),(([f,(Fm.nd (6:Int) (0:Int) [f,g])]))⟩:Fm)).2)=(11:Int))))∧((((simp_ f).2)=(0:Int))∨(((simp_ f).2)=(11:Int))))))∧H 1=(bk 1 52 10 [[(iV (f.op)),(iV (f.arg)),(V.sl (List.map cF (f.kids))),(iV (g.op)),(iV (g.arg)),(V.sl (List.map cF (g.kids))),(iV (h.op)),(iV (h.arg)),(V.sl (List.map cF (h.kids))),(V.bool b)]])∧H 3=(bk 1 24 3 [[(iV (f.op)),(iV (f.arg)),(V.sl (List.map cF (f.kids)))]])∧H 4=(bk 1 24 3 [[(iV (g.op)),(iV (g.arg)),(V.sl (List.map cF (g.kids)))]])∧H 5=(bk 1 24 3 [[(iV (h.op)),(iV (h.arg)),(V.sl (List.map cF (h.kids)))]])∧H 9=(bk 1 24 3 [[(iV ((simp_ (⟨((((5:Int)))),((((0:Int)))),(([f,g,h]))⟩:Fm)).1.op)),(iV ((simp_ (⟨((((5:Int)))),((((0:Int)))),(([f,g,h]))⟩:Fm)).1.arg)),(V.sl (List.map cF ((simp_ (⟨((((5:Int)))),((((0:Int)))),(([f,g,h]))⟩:Fm)).1.kids)))]])∧H 11=(bk 1 24 3 [[(iV ((simp_ (⟨((((5:Int)))),((((0:Int)))),(([h,(Fm.nd (5:Int) (0:Int) [g,f,g])]))⟩:Fm)).1.op)),(iV ((simp_ (⟨((((5:Int)))),((((0:Int)))),(([h,(Fm.nd (5:Int) (0:Int) [g,f,g])]))⟩:Fm)).1.arg)),(V.sl (List.map cF ((simp_ (⟨((((5:Int)))),((((0:Int)))),(([h,(Fm.nd (5:Int) (0:Int) [g,f,g])]))⟩:Fm)).1.kids)))]])∧H 13=(bk 1 24 3 [[(iV ((simp_ (⟨((((5:Int)))),((((0:Int)))),(([(Fm.nd (5:Int) (0:Int) [f,h]),g,(Fm.nd (4:Int) (0:Int) [(Fm.nd (4:Int) (0:Int) [h])])]))⟩:Fm)).1.op)),(iV ((simp_ (⟨((((5:Int)))),((((0:Int)))),(([(Fm.nd (5:Int) (0:Int) [f,h]),g,(Fm.nd (4:Int) (0:Int) [(Fm.nd (4:Int) (0:Int) [h])])]))⟩:Fm)).1.arg)),(V.sl (List.map cF ((simp_ (⟨((((5:Int)))),((((0:Int)))),(([(Fm.nd (5:Int) (0:Int) [f,h]),g,(Fm.nd (4:Int) (0:Int) [(Fm.nd (4:Int) (0:Int) [h])])]))⟩:Fm)).1.kids)))]])∧H 15=(bk 1 24 3 [[(iV ((simp_ (⟨((((5:Int)))),((((0:Int)))),(([f,(Fm.nd (6:Int) (0:Int) [f,g])]))⟩:Fm)).1.op)),(iV ((simp_ (⟨((((5:Int)))),((((0:Int)))),(([f,(Fm.nd (6:Int) (0:Int) [f,g])]))⟩:Fm)).1.arg)),(V.sl (List.map cF ((simp_ (⟨((((5:Int)))),((((0:Int)))),(([f,(Fm.nd (6:Int) (0:Int) [f,g])]))⟩:Fm)).1.kids)))]])∧H 17=(bk 1 24 3 [[(iV ((simp_ f).1.op)),(iV ((simp_ f).1.arg)),(V.sl (List.map cF ((simp_ f).1.kids)))]])∧True) ?_ ?_
   ·
    by_cases g40:(((((((simp_ (⟨((((5:Int)))),((((0:Int)))),(([f,g,h]))⟩:Fm)).2)=(0:Int))∨(((simp_ (⟨((((5:Int)))),((((0:Int)))),(([f,g,h]))⟩:Fm)).2)=(11:Int)))∧((((simp_ (⟨((((5:Int)))),((((0:Int)))),(([h,(Fm.nd (5:Int) (0:Int) [g,f,g])]))⟩:Fm)).2)=(0:Int))∨(((simp_ (⟨((((5:Int)))),((((0:Int)))),(([h,(Fm.nd (5:Int) (0:Int) [g,f,g])]))⟩:Fm)).2)=(11:Int))))∧((((simp_ (⟨((((5:Int)))),((((0:Int)))),(([(Fm.nd (5:Int) (0:Int) [f,h]),g,(Fm.nd (4:Int) (0:Int) [(Fm.nd (4:Int) (0:Int) [h])])]))⟩:Fm)).2)=(0:Int))∨(((simp_ (⟨((((5:Int)))),((((0:Int)))),(([(Fm.nd (5:Int) (0:Int) [f,h]),g,(Fm.nd (4:Int) (0:Int) [(Fm.nd (4:Int) (0:Int) [h])])]))⟩:Fm)).2)=(11:Int))))∧((((simp_ (⟨((((5:Int)))),((((0:Int)))),(([f,(Fm.nd (6:Int) (0:Int) [f,g])]))⟩:Fm)).2)=(0:Int))∨(((simp_ (⟨((((5:Int)))),((((0:Int)))),(([f,(Fm.nd (6:Int) (0:Int) [f,g])]))⟩:Fm)).2)=(11:Int))))∧((((simp_ f).2)=(0:Int))∨(((simp_ f).2)=(11:Int)))
    ·
     refine G_yes (edT g40 rfl) (R_callk (aw46_pure) rfl (R_pickT (edT g40 rfl) rfl ?_))
     exact ⟨(dec_T g40),h1,h3,h4,h5,h9,h11,h13,h15,h17,trivial⟩
    ·
     refine G_n (edF g40 rfl) (R_pickF (edF g40 rfl) rfl ?_)
     exact ⟨(dec_F g40),h1,h3,h4,h5,h9,h11,h13,h15,h17,trivial⟩
   intro T H ⟨t175,h1,h3,h4,h5,h9,h11,h13,h15,h17,_⟩
   refine R_mv t175 ?_
   exact R_nil ⟨rfl,h1,h3,h4,h5,h9,h11,h13,h15,h17,trivial⟩
  intro T H ⟨t2,h1,h3,h4,h5,h9,h11,h13,h15,h17,_⟩
  refine W_seq_ret ?_
  refine Ret_1 t2 (fz_bool ?_)
  · first|rfl|(have a1:=od.ea; have a2:=od.eb; have a3:=od.ec; have a4:=od.ed; have a5:=od.ex; simp [a1,a2,a3,a4,a5]; done)|(rw [← q1,← q2,q3]; simp [sameF_self])
 obtain ⟨q1,q2,q3⟩:=od.all (by omega) (by omega) (by omega) (by omega) (by omega)
 refine W_seq_skip (W_r (R_lk t9 h9 rfl rfl (R_lk t11 h11 rfl rfl (R_callk (rsame_pure ((simp_ (⟨((((5:Int)))),((((0:Int)))),(([f,g,h]))⟩:Fm)).1) ((simp_ (⟨((((5:Int)))),((((0:Int)))),(([h,(Fm.nd (5:Int) (0:Int) [g,f,g])]))⟩:Fm)).1)) rfl (R_mv rfl ?_)))))
 refine Ops_seg 4 (fun T H=>T 15=(V.mp 15 1 0 0)∧T 17=(V.mp 17 1 0 0)∧T 183=(V.bool (((sameF ((simp_ (⟨((((5:Int)))),((((0:Int)))),(([f,g,h]))⟩:Fm)).1) ((simp_ (⟨((((5:Int)))),((((0:Int)))),(([h,(Fm.nd (5:Int) (0:Int) [g,f,g])]))⟩:Fm)).1))&&(sameF ((simp_ (⟨((((5:Int)))),((((0:Int)))),(([f,g,h]))⟩:Fm)).1) ((simp_ (⟨((((5:Int)))),((((0:Int)))),(([(Fm.nd (5:Int) (0:Int) [f,h]),g,(Fm.nd (4:Int) (0:Int) [(Fm.nd (4:Int) (0:Int) [h])])]))⟩:Fm)).1)))))∧H 1=(bk 1 52 10 [[(iV (f.op)),(iV (f.arg)),(V.sl (List.map cF (f.kids))),(iV (g.op)),(iV (g.arg)),(V.sl (List.map cF (g.kids))),(iV (h.op)),(iV (h.arg)),(V.sl (List.map cF (h.kids))),(V.bool b)]])∧H 3=(bk 1 24 3 [[(iV (f.op)),(iV (f.arg)),(V.sl (List.map cF (f.kids)))]])∧H 4=(bk 1 24 3 [[(iV (g.op)),(iV (g.arg)),(V.sl (List.map cF (g.kids)))]])∧H 5=(bk 1 24 3 [[(iV (h.op)),(iV (h.arg)),(V.sl (List.map cF (h.kids)))]])∧H 9=(bk 1 24 3 [[(iV ((simp_ (⟨((((5:Int)))),((((0:Int)))),(([f,g,h]))⟩:Fm)).1.op)),(iV ((simp_ (⟨((((5:Int)))),((((0:Int)))),(([f,g,h]))⟩:Fm)).1.arg)),(V.sl (List.map cF ((simp_ (⟨((((5:Int)))),((((0:Int)))),(([f,g,h]))⟩:Fm)).1.kids)))]])∧H 11=(bk 1 24 3 [[(iV ((simp_ (⟨((((5:Int)))),((((0:Int)))),(([h,(Fm.nd (5:Int) (0:Int) [g,f,g])]))⟩:Fm)).1.op)),(iV ((simp_ (⟨((((5:Int)))),((((0:Int)))),(([h,(Fm.nd (5:Int) (0:Int) [g,f,g])]))⟩:Fm)).1.arg)),(V.sl (List.map cF ((simp_ (⟨((((5:Int)))),((((0:Int)))),(([h,(Fm.nd (5:Int) (0:Int) [g,f,g])]))⟩:Fm)).1.kids)))]])∧H 13=(bk 1 24 3 [[(iV ((simp_ (⟨((((5:Int)))),((((0:Int)))),(([(Fm.nd (5:Int) (0:Int) [f,h]),g,(Fm.nd (4:Int) (0:Int) [(Fm.nd (4:Int) (0:Int) [h])])]))⟩:Fm)).1.op)),(iV ((simp_ (⟨((((5:Int)))),((((0:Int)))),(([(Fm.nd (5:Int) (0:Int) [f,h]),g,(Fm.nd (4:Int) (0:Int) [(Fm.nd (4:Int) (0:Int) [h])])]))⟩:Fm)).1.arg)),(V.sl (List.map cF ((simp_ (⟨((((5:Int)))),((((0:Int)))),(([(Fm.nd (5:Int) (0:Int) [f,h]),g,(Fm.nd (4:Int) (0:Int) [(Fm.nd (4:Int) (0:Int) [h])])]))⟩:Fm)).1.kids)))]])∧H 15=(bk 1 24 3 [[(iV ((simp_ (⟨((((5:Int)))),((((0:Int)))),(([f,(Fm.nd (6:Int) (0:Int) [f,g])]))⟩:Fm)).1.op)),(iV ((simp_ (⟨((((5:Int)))),((((0:Int)))),(([f,(Fm.nd (6:Int) (0:Int) [f,g])]))⟩:Fm)).1.arg)),(V.sl (List.map cF ((simp_ (⟨((((5:Int)))),((((0:Int)))),(([f,(Fm.nd (6:Int) (0:Int) [f,g])]))⟩:Fm)).1.kids)))]])∧H 17=(bk 1 24 3 [[(iV ((simp_ f).1.op)),(iV ((simp_ f).1.arg)),(V.sl (List.map cF ((simp_ f).1.kids)))]])∧True) ?_ ?_
 ·
  by_cases g41:(sameF ((simp_ (⟨((((5:Int)))),((((0:Int)))),(([f,g,h]))⟩:Fm)).1) ((simp_ (⟨((((5:Int)))),((((0:Int)))),(([h,(Fm.nd (5:Int) (0:Int) [g,f,g])]))⟩:Fm)).1))=true
  ·
   refine G_yes (ebT g41 rfl) (R_lk t9 h9 rfl rfl (G_yes (ebT g41 rfl) (R_lk t13 h13 rfl rfl (G_yes (ebT g41 rfl) (R_callk (rsame_pure ((simp_ (⟨((((5:Int)))),((((0:Int)))),(([f,g,h]))⟩:Fm)).1) ((simp_ (⟨((((5:Int)))),((((0:Int)))),(([(Fm.nd (5:Int) (0:Int) [f,h]),g,(Fm.nd (4:Int) (0:Int) [(Fm.nd (4:Int) (0:Int) [h])])]))⟩:Fm)).1)) rfl (R_pickT (ebT g41 rfl) rfl ?_))))))
   exact ⟨t15,t17,(bandT g41),h1,h3,h4,h5,h9,h11,h13,h15,h17,trivial⟩
  ·
   refine G_n (ebF g41 rfl) (G_n (ebF g41 rfl) (G_n (ebF g41 rfl) (R_pickF (ebF g41 rfl) rfl ?_)))
   exact ⟨t15,t17,(bandF g41),h1,h3,h4,h5,h9,h11,h13,h15,h17,trivial⟩
 intro T H ⟨t15,t17,t183,h1,h3,h4,h5,h9,h11,h13,h15,h17,_⟩
 refine R_mv t183 ?_
 refine Ops_seg 4 (fun T H=>T 188=(V.bool (((((sameF ((simp_ (⟨((((5:Int)))),((((0:Int)))),(([f,g,h]))⟩:Fm)).1) ((simp_ (⟨((((5:Int)))),((((0:Int)))),(([h,(Fm.nd (5:Int) (0:Int) [g,f,g])]))⟩:Fm)).1))&&(sameF ((simp_ (⟨((((5:Int)))),((((0:Int)))),(([f,g,h]))⟩:Fm)).1) ((simp_ (⟨((((5:Int)))),((((0:Int)))),(([(Fm.nd (5:Int) (0:Int) [f,h]),g,(Fm.nd (4:Int) (0:Int) [(Fm.nd (4:Int) (0:Int) [h])])]))⟩:Fm)).1))))&&(sameF ((simp_ (⟨((((5:Int)))),((((0:Int)))),(([f,(Fm.nd (6:Int) (0:Int) [f,g])]))⟩:Fm)).1) ((simp_ f).1)))))∧H 1=(bk 1 52 10 [[(iV (f.op)),(iV (f.arg)),(V.sl (List.map cF (f.kids))),(iV (g.op)),(iV (g.arg)),(V.sl (List.map cF (g.kids))),(iV (h.op)),(iV (h.arg)),(V.sl (List.map cF (h.kids))),(V.bool b)]])∧H 3=(bk 1 24 3 [[(iV (f.op)),(iV (f.arg)),(V.sl (List.map cF (f.kids)))]])∧H 4=(bk 1 24 3 [[(iV (g.op)),(iV (g.arg)),(V.sl (List.map cF (g.kids)))]])∧H 5=(bk 1 24 3 [[(iV (h.op)),(iV (h.arg)),(V.sl (List.map cF (h.kids)))]])∧H 9=(bk 1 24 3 [[(iV ((simp_ (⟨((((5:Int)))),((((0:Int)))),(([f,g,h]))⟩:Fm)).1.op)),(iV ((simp_ (⟨((((5:Int)))),((((0:Int)))),(([f,g,h]))⟩:Fm)).1.arg)),(V.sl (List.map cF ((simp_ (⟨((((5:Int)))),((((0:Int)))),(([f,g,h]))⟩:Fm)).1.kids)))]])∧H 11=(bk 1 24 3 [[(iV ((simp_ (⟨((((5:Int)))),((((0:Int)))),(([h,(Fm.nd (5:Int) (0:Int) [g,f,g])]))⟩:Fm)).1.op)),(iV ((simp_ (⟨((((5:Int)))),((((0:Int)))),(([h,(Fm.nd (5:Int) (0:Int) [g,f,g])]))⟩:Fm)).1.arg)),(V.sl (List.map cF ((simp_ (⟨((((5:Int)))),((((0:Int)))),(([h,(Fm.nd (5:Int) (0:Int) [g,f,g])]))⟩:Fm)).1.kids)))]])∧H 13=(bk 1 24 3 [[(iV ((simp_ (⟨((((5:Int)))),((((0:Int)))),(([(Fm.nd (5:Int) (0:Int) [f,h]),g,(Fm.nd (4:Int) (0:Int) [(Fm.nd (4:Int) (0:Int) [h])])]))⟩:Fm)).1.op)),(iV ((simp_ (⟨((((5:Int)))),((((0:Int)))),(([(Fm.nd (5:Int) (0:Int) [f,h]),g,(Fm.nd (4:Int) (0:Int) [(Fm.nd (4:Int) (0:Int) [h])])]))⟩:Fm)).1.arg)),(V.sl (List.map cF ((simp_ (⟨((((5:Int)))),((((0:Int)))),(([(Fm.nd (5:Int) (0:Int) [f,h]),g,(Fm.nd (4:Int) (0:Int) [(Fm.nd (4:Int) (0:Int) [h])])]))⟩:Fm)).1.kids)))]])∧H 15=(bk 1 24 3 [[(iV ((simp_ (⟨((((5:Int)))),((((0:Int)))),(([f,(Fm.nd (6:Int) (0:Int) [f,g])]))⟩:Fm)).1.op)),(iV ((simp_ (⟨((((5:Int)))),((((0:Int)))),(([f,(Fm.nd (6:Int) (0:Int) [f,g])]))⟩:Fm)).1.arg)),(V.sl (List.map cF ((simp_ (⟨((((5:Int)))),((((0:Int)))),(([f,(Fm.nd (6:Int) (0:Int) [f,g])]))⟩:Fm)).1.kids)))]])∧H 17=(bk 1 24 3 [[(iV ((simp_ f).1.op)),(iV ((simp_ f).1.arg)),(V.sl (List.map cF ((simp_ f).1.kids)))]])∧True) ?_ ?_
 ·
  by_cases g42:(((sameF ((simp_ (⟨((((5:Int)))),((((0:Int)))),(([f,g,h]))⟩:Fm)).1) ((simp_ (⟨((((5:Int)))),((((0:Int)))),(([h,(Fm.nd (5:Int) (0:Int) [g,f,g])]))⟩:Fm)).1))&&(sameF ((simp_ (⟨((((5:Int)))),((((0:Int)))),(([f,g,h]))⟩:Fm)).1) ((simp_ (⟨((((5:Int)))),((((0:Int)))),(([(Fm.nd (5:Int) (0:Int) [f,h]),g,(Fm.nd (4:Int) (0:Int) [(Fm.nd (4:Int) (0:Int) [h])])]))⟩:Fm)).1))))=true
  ·
   have g42x:=g42
   simp only [Bool.and_eq_true,Bool.or_eq_true,Bool.not_eq_true',decide_eq_true_eq] at g42x
   refine G_yes (ebT g42 rfl) (R_lk t15 h15 rfl rfl (G_yes (ebT g42 rfl) (R_lk t17 h17 rfl rfl (G_yes (ebT g42 rfl) (R_callk (rsame_pure ((simp_ (⟨((((5:Int)))),((((0:Int)))),(([f,(Fm.nd (6:Int) (0:Int) [f,g])]))⟩:Fm)).1) ((simp_ f).1)) rfl (R_pickT (ebT g42 rfl) rfl ?_))))))
   exact ⟨(bandT g42),h1,h3,h4,h5,h9,h11,h13,h15,h17,trivial⟩
  ·
   have g42x:=g42
   simp only [Bool.and_eq_true,Bool.or_eq_true,Bool.not_eq_true',decide_eq_true_eq] at g42x
   refine G_n (ebF g42 rfl) (G_n (ebF g42 rfl) (G_n (ebF g42 rfl) (R_pickF (ebF g42 rfl) rfl ?_)))
   exact ⟨(bandF g42),h1,h3,h4,h5,h9,h11,h13,h15,h17,trivial⟩
 intro T H ⟨t188,h1,h3,h4,h5,h9,h11,h13,h15,h17,_⟩
 refine R_mv t188 ?_
 refine Ops_seg 2 (fun T H=>T 191=(V.bool (((((((sameF ((simp_ (⟨((((5:Int)))),((((0:Int)))),(([f,g,h]))⟩:Fm)).1) ((simp_ (⟨((((5:Int)))),((((0:Int)))),(([h,(Fm.nd (5:Int) (0:Int) [g,f,g])]))⟩:Fm)).1))&&(sameF ((simp_ (⟨((((5:Int)))),((((0:Int)))),(([f,g,h]))⟩:Fm)).1) ((simp_ (⟨((((5:Int)))),((((0:Int)))),(([(Fm.nd (5:Int) (0:Int) [f,h]),g,(Fm.nd (4:Int) (0:Int) [(Fm.nd (4:Int) (0:Int) [h])])]))⟩:Fm)).1))))&&(sameF ((simp_ (⟨((((5:Int)))),((((0:Int)))),(([f,(Fm.nd (6:Int) (0:Int) [f,g])]))⟩:Fm)).1) ((simp_ f).1))))||false)))∧H 1=(bk 1 52 10 [[(iV (f.op)),(iV (f.arg)),(V.sl (List.map cF (f.kids))),(iV (g.op)),(iV (g.arg)),(V.sl (List.map cF (g.kids))),(iV (h.op)),(iV (h.arg)),(V.sl (List.map cF (h.kids))),(V.bool b)]])∧H 3=(bk 1 24 3 [[(iV (f.op)),(iV (f.arg)),(V.sl (List.map cF (f.kids)))]])∧H 4=(bk 1 24 3 [[(iV (g.op)),(iV (g.arg)),(V.sl (List.map cF (g.kids)))]])∧H 5=(bk 1 24 3 [[(iV (h.op)),(iV (h.arg)),(V.sl (List.map cF (h.kids)))]])∧H 9=(bk 1 24 3 [[(iV ((simp_ (⟨((((5:Int)))),((((0:Int)))),(([f,g,h]))⟩:Fm)).1.op)),(iV ((simp_ (⟨((((5:Int)))),((((0:Int)))),(([f,g,h]))⟩:Fm)).1.arg)),(V.sl (List.map cF ((simp_ (⟨((((5:Int)))),((((0:Int)))),(([f,g,h]))⟩:Fm)).1.kids)))]])∧H 11=(bk 1 24 3 [[(iV ((simp_ (⟨((((5:Int)))),((((0:Int)))),(([h,(Fm.nd (5:Int) (0:Int) [g,f,g])]))⟩:Fm)).1.op)),(iV ((simp_ (⟨((((5:Int)))),((((0:Int)))),(([h,(Fm.nd (5:Int) (0:Int) [g,f,g])]))⟩:Fm)).1.arg)),(V.sl (List.map cF ((simp_ (⟨((((5:Int)))),((((0:Int)))),(([h,(Fm.nd (5:Int) (0:Int) [g,f,g])]))⟩:Fm)).1.kids)))]])∧H 13=(bk 1 24 3 [[(iV ((simp_ (⟨((((5:Int)))),((((0:Int)))),(([(Fm.nd (5:Int) (0:Int) [f,h]),g,(Fm.nd (4:Int) (0:Int) [(Fm.nd (4:Int) (0:Int) [h])])]))⟩:Fm)).1.op)),(iV ((simp_ (⟨((((5:Int)))),((((0:Int)))),(([(Fm.nd (5:Int) (0:Int) [f,h]),g,(Fm.nd (4:Int) (0:Int) [(Fm.nd (4:Int) (0:Int) [h])])]))⟩:Fm)).1.arg)),(V.sl (List.map cF ((simp_ (⟨((((5:Int)))),((((0:Int)))),(([(Fm.nd (5:Int) (0:Int) [f,h]),g,(Fm.nd (4:Int) (0:Int) [(Fm.nd (4:Int) (0:Int) [h])])]))⟩:Fm)).1.kids)))]])∧H 15=(bk 1 24 3 [[(iV ((simp_ (⟨((((5:Int)))),((((0:Int)))),(([f,(Fm.nd (6:Int) (0:Int) [f,g])]))⟩:Fm)).1.op)),(iV ((simp_ (⟨((((5:Int)))),((((0:Int)))),(([f,(Fm.nd (6:Int) (0:Int) [f,g])]))⟩:Fm)).1.arg)),(V.sl (List.map cF ((simp_ (⟨((((5:Int)))),((((0:Int)))),(([f,(Fm.nd (6:Int) (0:Int) [f,g])]))⟩:Fm)).1.kids)))]])∧H 17=(bk 1 24 3 [[(iV ((simp_ f).1.op)),(iV ((simp_ f).1.arg)),(V.sl (List.map cF ((simp_ f).1.kids)))]])∧True) ?_ ?_
 ·
  by_cases g43:(((((sameF ((simp_ (⟨((((5:Int)))),((((0:Int)))),(([f,g,h]))⟩:Fm)).1) ((simp_ (⟨((((5:Int)))),((((0:Int)))),(([h,(Fm.nd (5:Int) (0:Int) [g,f,g])]))⟩:Fm)).1))&&(sameF ((simp_ (⟨((((5:Int)))),((((0:Int)))),(([f,g,h]))⟩:Fm)).1) ((simp_ (⟨((((5:Int)))),((((0:Int)))),(([(Fm.nd (5:Int) (0:Int) [f,h]),g,(Fm.nd (4:Int) (0:Int) [(Fm.nd (4:Int) (0:Int) [h])])]))⟩:Fm)).1))))&&(sameF ((simp_ (⟨((((5:Int)))),((((0:Int)))),(([f,(Fm.nd (6:Int) (0:Int) [f,g])]))⟩:Fm)).1) ((simp_ f).1))))=true
  ·
   have g43x:=g43
   simp only [Bool.and_eq_true,Bool.or_eq_true,Bool.not_eq_true',decide_eq_true_eq] at g43x
   refine G_yes (ebT g43 rfl) (R_callk (aw46_pure) rfl (R_pickT (ebT g43 rfl) rfl ?_))
   exact ⟨(borT g43),h1,h3,h4,h5,h9,h11,h13,h15,h17,trivial⟩
  ·
   have g43x:=g43
   simp only [Bool.and_eq_true,Bool.or_eq_true,Bool.not_eq_true',decide_eq_true_eq] at g43x
   refine G_n (ebF g43 rfl) (R_pickF (ebF g43 rfl) rfl ?_)
   exact ⟨(borF g43),h1,h3,h4,h5,h9,h11,h13,h15,h17,trivial⟩
 intro T H ⟨t191,h1,h3,h4,h5,h9,h11,h13,h15,h17,_⟩
 refine R_mv t191 (R_e (W_ret ?_))
 refine Ret_1 (@rfl V (V.bool (((((((sameF ((simp_ (⟨((((5:Int)))),((((0:Int)))),(([f,g,h]))⟩:Fm)).1) ((simp_ (⟨((((5:Int)))),((((0:Int)))),(([h,(Fm.nd (5:Int) (0:Int) [g,f,g])]))⟩:Fm)).1))&&(sameF ((simp_ (⟨((((5:Int)))),((((0:Int)))),(([f,g,h]))⟩:Fm)).1) ((simp_ (⟨((((5:Int)))),((((0:Int)))),(([(Fm.nd (5:Int) (0:Int) [f,h]),g,(Fm.nd (4:Int) (0:Int) [(Fm.nd (4:Int) (0:Int) [h])])]))⟩:Fm)).1))))&&(sameF ((simp_ (⟨((((5:Int)))),((((0:Int)))),(([f,(Fm.nd (6:Int) (0:Int) [f,g])]))⟩:Fm)).1) ((simp_ f).1))))||false)))) (fz_bool ?_)
 · first|rfl|(have a1:=od.ea; have a2:=od.eb; have a3:=od.ec; have a4:=od.ed; have a5:=od.ex; simp [a1,a2,a3,a4,a5]; done)|(rw [← q1,← q2,q3]; simp [sameF_self])
end Go.Proofs.YteehaobohaecmaaDoor
namespace Go.Proofs.YteehaobohaecmaaDoor
open Go Go.ChangeShapes Go.WideShapes Go.ChangeAt Go.RowKit
def okS (P:Program) (S:List TypeId) (t:TypeId):Bool:=match P.underlying t with
  |some .bool=>true
  |some (.int _)=>true
  |some .string=>true
  |some (.slice e)=>decide (e∈S)&&decide (P.cellsOf e≠0)
  |some (.struct fs)=>fs.toList.all (fun f=>decide (f.type∈S))&&tile P (P.cellsOf t) 0 fs.toList
  |some (.array m e)=>decide (e∈S)&&decide (m*P.cellsOf e=P.cellsOf t)
  |_=>false
section
variable {H:Type} {enc:TypeId×Value→H} {P:Program} {base:Nat} {spare:Nat→Bool} {held:Bool}
theorem trod_RS {x : Cx} (hZ : ∀ b, b < x.w.heap.size → x.Z b) {S : List TypeId} (hS : ∀ t ∈ S, okS P S t = true) : ∀ (fuel : Nat) (t : TypeId), t ∈ S → ∀ (cs : List Value) (y : DataW H × List MemPlace), DataW.trod enc P x.w base spare held fuel t cs = some y →
    ∃ vs,Shp P fuel t vs∧RC x vs cs:=by
  intro n
  induction n with
  |zero=>intro t _ cs y hy; simp [DataW.trod] at hy
  | succ n ih =>
    intro t hm cs y hy
    have hok:=hS t hm
    have one: ∀ {v:V} {c:Value},R x v c→RC x [v] [c]:=fun {v c} h=>⟨rfl,fun j u hj=>by
      cases j with
      |zero=>simp at hj; subst hj; exact h
      |succ j=>simp at hj⟩
    simp only [okS] at hok
    split at hok
    · rename_i ht
      simp only [Shp,ht]
      obtain ⟨b,rfl,_⟩:=DataW.trod_bool ht hy
      exact ⟨[.bool b],⟨b,rfl⟩,one (.bool b)⟩
    · rename_i k ht
      simp only [Shp,ht]
      obtain ⟨m,rfl,_⟩:=DataW.trod_int ht hy
      exact ⟨[.int k m],⟨m,rfl⟩,one (.int k m)⟩
    · rename_i ht
      simp only [Shp,ht]
      obtain ⟨s,rfl,_⟩:=DataW.trod_string ht hy
      exact ⟨[.str s.data.toList],⟨_,rfl⟩,one (R.str s.data.toList)⟩
    · rename_i e ht
      simp only [Shp,ht]
      simp only [Bool.and_eq_true,decide_eq_true_eq] at hok
      obtain ⟨hok,hnz⟩:=hok
      rcases DataW.trod_slice ht hy with ⟨rfl,_⟩|⟨a,len,cap,elems,rest,m,em,rfl,_,hb,hl,hc,hlen,hel,_,_⟩
      · exact ⟨[.sl []],⟨[],rfl,fun r hr=>by cases hr⟩,one .slnil⟩
      · obtain rfl:n=m:=by omega
        have hall: ∀ i,i < len→ ∃ r:List V,Shp P n e r∧ ∃ ci:List Value,x.w.cells? base (a.add (i*P.cellsOf e)) (P.cellsOf e)=some ci∧RC x r ci:=by
          intro i hi
          have h1:=hel i hi
          rw [List.getElem?_eq_getElem (by omega)] at h1
          cases h2:x.w.cells? base (a.add (i*P.cellsOf e)) (P.cellsOf e) with
          |none=>rw [h2] at h1; cases h1
          | some ci =>
            rw [h2] at h1
            obtain ⟨vs,h3,h4⟩:=ih e hok ci _ h1
            exact ⟨vs,h3,ci,rfl,h4⟩
        obtain ⟨rows,hrl,hrows⟩:=choiceL hall
        have hcell: ∀ (r:Nat) (row:List V) (j:Nat) (v:V),rows[r]?=some row→row[j]?=some v→
            ∃ c,x.w.cell? (a.add (r*P.cellsOf e+j))=some c∧R x v c:=by
          intro r row j v hr hj
          obtain ⟨_,ci,g1,g2⟩:=hrows r row hr
          obtain ⟨_,g4,g5⟩:=World.cells?_some g1
          have hjlt:j < ci.length:=by have:=(List.getElem?_eq_some_iff.1 hj).1; rw [← g2.1]; exact this
          have g6:=g5 j (by omega)
          rw [List.getElem?_eq_getElem hjlt,Addr.add_add] at g6
          refine ⟨_,g6,?_⟩
          have:=g2.2 j v hj
          rw [List.getD_eq_getElem?_getD,List.getElem?_eq_getElem hjlt] at this
          exact this
        have key:=R.sl (x:=x) rows a cap (P.cellsOf e) (fun k=>(x.w.cell? (a.add k)).getD undef) (by omega) hc ?_ ?_ ?_ ?_
        · rw [hrl] at key
          exact ⟨[.sl rows],⟨rows,rfl,fun r hr=>by obtain ⟨i,hi⟩:=List.getElem?_of_mem hr; exact (hrows i r hi).1⟩,one key⟩
        · intro hne
          cases hrr:rows with
          |nil=>exact (hne hrr).elim
          | cons r0 rs =>
            obtain ⟨_,ci,g1,g2⟩:=hrows 0 r0 (by rw [hrr]; rfl)
            · obtain ⟨_,g4,g5⟩:=World.cells?_some g1
              have g6:=g5 0 (by omega)
              rw [List.getElem?_eq_getElem (by omega),Addr.add_add] at g6
              have hlt:(a.add (0*P.cellsOf e+0)).block < x.w.heap.size:=by
                unfold World.cell? at g6
                split at g6
                · rename_i hh
                  exact (Array.getElem?_eq_some_iff.1 hh).1
                · cases g6
              exact hZ _ (by simpa [Addr.add] using hlt)
        · intro r hr
          obtain ⟨i,hi⟩:=List.getElem?_of_mem hr
          obtain ⟨_,ci,g1,g2⟩:=hrows i r hi
          rw [g2.1]
          exact (World.cells?_some g1).2.1
        · intro r row j v hr hj
          obtain ⟨c,g1,_⟩:=hcell r row j v hr hj
          rw [g1]; rfl
        · intro r row j v hr hj
          obtain ⟨c,g1,g2⟩:=hcell r row j v hr hj
          simp only [g1,Option.getD_some]
          exact g2
    · rename_i fs ht
      simp only [Shp,ht]
      simp only [Bool.and_eq_true] at hok
      obtain ⟨xs,m,em,_,hl,hxl,hf⟩:=DataW.trod_struct ht hy
      obtain rfl:n=m:=by omega
      have hfs: ∀ f∈fs.toList,∃ z,DataW.trod enc P x.w base spare held n f.type ((cs.drop f.offset).take (P.cellsOf f.type))=some z:=by
        intro f hm
        obtain ⟨i,hi⟩:=List.getElem?_of_mem hm
        have hi':fs[i]?=some f:=by simpa using hi
        have hlt:i < xs.length:=by
          have:=(Array.getElem?_eq_some_iff.1 hi').1
          omega
        exact ⟨xs[i],by rw [hf i f hi',List.getElem?_eq_getElem hlt]⟩
      have hok':=List.all_eq_true.1 hok.1
      have main: ∀ (l:List Field) (off:Nat),(∀ f∈l,f∈fs.toList)→tile P (P.cellsOf t) off l=true→off≤cs.length→ ∃ vs,ShpL (Shp P n) l vs∧RC x vs (cs.drop off):=by
        intro l
        induction l with
        | nil =>
          intro off _ htl hle
          simp only [tile,decide_eq_true_eq] at htl
          refine ⟨[],rfl,?_⟩
          rw [List.drop_of_length_le (by omega)]
          exact ⟨rfl,fun j v hj=>by simp at hj⟩
        | cons f r ihr =>
          intro off hsub htl hle
          simp only [tile,Bool.and_eq_true,decide_eq_true_eq] at htl
          obtain ⟨z,hz⟩:=hfs f (hsub f (List.mem_cons_self ..))
          obtain ⟨va,g1,g2⟩:=ih f.type (of_decide_eq_true (hok' f (hsub f (List.mem_cons_self ..)))) _ _ hz
          have hoff:off+P.cellsOf f.type≤cs.length:=by
            rw [hl]
            have: ∀ (l:List Field) (o:Nat),tile P (P.cellsOf t) o l=true→o≤P.cellsOf t:=by
              intro l
              induction l with
              |nil=>intro o h; simp only [tile,decide_eq_true_eq] at h; omega
              |cons f r ih=>intro o h; simp only [tile,Bool.and_eq_true,decide_eq_true_eq] at h; have:=ih _ h.2; omega
            exact this _ _ htl.2
          obtain ⟨vb,g3,g4⟩:=ihr (off+P.cellsOf f.type) (fun q hq=>hsub q (List.mem_cons_of_mem _ hq)) htl.2 hoff
          refine ⟨va++vb,⟨va,vb,rfl,g1,g3⟩,?_⟩
          have hsplit:cs.drop off=(cs.drop off).take (P.cellsOf f.type)++cs.drop (off+P.cellsOf f.type):=by
            rw [← List.drop_drop,List.take_append_drop]
          rw [hsplit]
          rw [htl.1] at g2
          exact RC_append g2 g4
      obtain ⟨vs,g1,g2⟩:=main fs.toList 0 (fun _ h=>h) hok.2 (Nat.zero_le _)
      exact ⟨vs,g1,by simpa using g2⟩
    · rename_i m e ht
      simp only [Shp,ht]
      simp only [Bool.and_eq_true,decide_eq_true_eq] at hok
      obtain ⟨xs,f,em,_,hl,hxl,hf⟩:=DataW.trod_array ht hy
      obtain rfl:n=f:=by omega
      have main: ∀ (k i:Nat),i+k=m→ ∃ vs,ShpR (Shp P n e) k vs∧RC x vs (cs.drop (i*P.cellsOf e)):=by
        intro k
        induction k with
        | zero =>
          intro i hi
          refine ⟨[],rfl,?_⟩
          rw [List.drop_of_length_le (by rw [hl,← hok.2,show i=m by omega]; exact Nat.le_refl _)]
          exact ⟨rfl,fun j v hj=>by simp at hj⟩
        | succ k ihk =>
          intro i hi
          have hlt:i < m:=by omega
          have hz:=hf i hlt
          rw [List.getElem?_eq_getElem (by omega)] at hz
          obtain ⟨va,g1,g2⟩:=ih e hok.1 _ _ hz
          obtain ⟨vb,g3,g4⟩:=ihk (i+1) (by omega)
          refine ⟨va++vb,⟨va,vb,rfl,g1,g3⟩,?_⟩
          have hsplit:cs.drop (i*P.cellsOf e)=(cs.drop (i*P.cellsOf e)).take (P.cellsOf e)++cs.drop ((i+1)*P.cellsOf e):=by
            rw [Nat.add_mul,Nat.one_mul,← List.drop_drop,List.take_append_drop]
          rw [hsplit]
          exact RC_append g2 g4
      obtain ⟨vs,g1,g2⟩:=main m 0 (by omega)
      exact ⟨vs,g1,by simpa using g2⟩
    · cases hok
theorem open_RS {x:Cx} (hZ: ∀ b,b < x.w.heap.size→x.Z b) {S:List TypeId} (hS: ∀ t∈S,okS P S t=true) {t:TypeId} (ht0:t∈S) {r:Reach} {b0 base:Nat} {spare:Nat→Bool} {held:Bool} {v:Value} {d:DataW H} {ps:List MemPlace}
    (hval:Value.okWide P x.w r b0 t v) (hd:DataW.Trod enc P x.w base spare held t v d ps): ∃ n vs,Shp P n t vs∧R x (packV P t vs) v:=by
  obtain ⟨fuel,hf⟩:=hd
  obtain ⟨vs,h1,h2⟩:=trod_RS hZ hS fuel t ht0 _ _ hf
  refine ⟨fuel,vs,h1,?_⟩
  have hok:=hS t ht0
  unfold packV
  simp only [okS] at hok
  split at hok
  · rename_i ht
    obtain ⟨b,rfl⟩:=okWide_bool ht hval
    rw [ht]; exact RC_one h2
  · rename_i k ht
    obtain ⟨m,rfl⟩:=okWide_int ht hval
    rw [ht]; exact RC_one h2
  · rename_i ht
    obtain ⟨s,rfl⟩:=okWide_string ht hval
    rw [ht]; exact RC_one h2
  · rename_i e ht
    obtain ⟨a,l,c,rfl⟩:=okWide_slice ht hval
    rw [ht]; exact RC_one h2
  · rename_i fs ht
    obtain ⟨cs,rfl,_⟩:=okWide_struct ht hval
    rw [ht]
    refine .agg vs cs (by have:=h2.1; simp [Value.cells] at this; omega) fun j u hj=>?_
    have:=h2.2 j u hj
    rw [List.getD_eq_getElem?_getD] at this
    rw [Array.getD_eq_getD_getElem?,← Array.getElem?_toList]
    exact this
  · rename_i m e ht
    have hval2:=hval
    simp only [Value.okWide,ht] at hval2
    obtain ⟨cs,rfl,_⟩:=hval2
    rw [ht]
    refine .agg vs cs (by have:=h2.1; simp [Value.cells] at this; omega) fun j u hj=>?_
    have:=h2.2 j u hj
    rw [List.getD_eq_getElem?_getD] at this
    rw [Array.getD_eq_getD_getElem?,← Array.getElem?_toList]
    exact this
  · cases hok
def ShpB (P:Program):List TypeId→List V→Prop
  |[],vs=>vs=[]
  |t::ts,vs=> ∃ n a b,vs=packV P t a::b∧Shp P n t a∧ShpB P ts b
theorem open_allS {x:Cx} (hZ: ∀ b,b < x.w.heap.size→x.Z b) {S:List TypeId} (hS: ∀ t∈S,okS P S t=true) {r:Reach} {b0 base:Nat} {spare:Nat→Bool} {held:Bool}: ∀ (ts:List TypeId) (vs:List Value) (ds:List (DataW H)) (ps:List MemPlace),
    (∀ t∈ts,t∈S)→(∀ (j:Nat) t v,ts[j]?=some t→vs[j]?=some v→Value.okWide P x.w r b0 t v)→DataW.TrodAll enc P x.w base spare held ts vs ds ps→
    ∃ us,ShpB P ts us∧RL x us vs
  | [], vs, ds, ps, _, _, h => by
    obtain ⟨rfl,rfl,rfl⟩:=trodAll_nil h
    exact ⟨[],rfl,rfl,fun j v hj=>by simp at hj⟩
  | t :: ts, vs, ds, ps, hok, hval, h => by
    obtain ⟨v,vs1,d,ds1,a,b,rfl,rfl,rfl,h1,h2⟩:=trodAll_cons h
    obtain ⟨n,ws,g1,g2⟩:=open_RS hZ hS (hok t (List.mem_cons_self ..)) (hval 0 t v rfl rfl) h1
    obtain ⟨us,g3,g4⟩:=open_allS hZ hS ts vs1 ds1 b (fun q hq=>hok q (List.mem_cons_of_mem _ hq)) (fun j q u hq hu=>hval (j+1) q u (by simpa using hq) (by simpa using hu)) h2
    refine ⟨packV P t ws::us,⟨n,ws,us,rfl,g1,g3⟩,by simp [g4.1],fun j u hj=>?_⟩
    cases j with
    |zero=>simp at hj; subst hj; exact g2
    |succ j=>exact g4.2 j u (by simpa using hj)
theorem law_postS {f:FuncId} {fn:Func} {s:ChangeSpec} {apart fresh handsOn again:Bool} {tb:Nat} {S:List TypeId} {W:World} {args:Array Value} {ds gs:List (DataW H)} {before:List MemPlace}
    (hl:laidOutB P=true) (hres:fn.resultTypes=#[tb]) (htb:P.underlying tb=some .bool) (hS: ∀ t∈S,okS P S t=true) (hts: ∀ t∈fn.params.toList,t∈S∧P.readableRec t=true∧t < P.types.size)
    (hvars:s.vars=[]) (hs:s.fn H (ds++gs)={results:=[.lit (.bool true)],args:=ds})
    (hlaw: ∀ us,ShpB P fn.params.toList us→PureC P f us (.bool true))
    (hval: ∀ (j:Nat) t v,fn.params[j]?=some t→args[j]?=some v→Value.okWide P W .any 0 t v)
    (hW:DataW.Whole enc P fn.params.toList s.vars apart W args.toList ds gs before) (htab:TabZ W (fun b=>b < W.heap.size):=by intro p hp; simp [tabs] at hp):
    Calls P f args W fun e W'=> ∃ v,e=.returned v∧s.post enc P fn apart fresh handsOn again W args v W':=by
  have hW':=hW
  obtain ⟨p,q,hA,hV,rfl,hfz,hnd⟩:=hW
  rw [hvars] at hV
  obtain ⟨rfl,rfl⟩:=trodVars_none hV
  have hlt:=hW'.lt
  let x:Cx:=start {w:=W,Z:=fun b=>b < W.heap.size,σ:=fun _=>0,H:=H0} (fun b=>b < W.heap.size)
  have hx:Inv x:=start_ok (fun b hb=>hb) htab
  obtain ⟨us,g1,g2⟩:=open_allS (x:=x) (fun b hb=>hb) hS fn.params.toList args.toList ds p (fun t ht=>(hts t ht).1) (fun j t v h1 h2=>hval j t v (by simpa using h1) (by simpa using h2)) hA
  have hc:=(hlaw us g1 H0).2 x args.toList rfl hx g2
  rw [Array.toArray_toList] at hc
  refine Calls.mono (show Calls P f args W _ from hc) fun e W' h=>?_
  obtain ⟨c,y,rfl,rfl,h3,h4,h5,h6⟩:=h
  cases h5
  have hb:Below W.heap.size W y.w:=below_of_frame h6 (fun _=>rfl) rfl
  refine ⟨_,rfl,post_of_below (pa:=p) (pv:=[]) hW' (fun b sp hd=>?_) (fun sp hsp=>?_) (fun sp _=>?_) (by simp) hb ?_⟩
  · rw [hs,hres]
    exact trodAll_mk1 (shut_bool htb true)
  · rw [hs]
    exact trodAll_stays hl hb _ _ _ _ (fun t ht=>(hts t ht).2) hA (fun z hz=>hlt z (by simpa using hz)) (fun z hz=>hsp z (by simpa using hz))
  · rw [hs,hvars]; rfl
  · exact ok_one hres rfl (okWide_bool_mk htb true)
end
section
variable {P:Program} {n t:Nat} {vs:List V}
theorem shq_int {k:IntKind} (ht:P.underlying t=some (.int k)) (h:Shp P n t vs): ∃ m:Int,vs=[.int k m]:=by
  cases n with
  |zero=>exact h.elim
  |succ n=>exact shp_int ht h
theorem shq_bool (ht:P.underlying t=some .bool) (h:Shp P n t vs): ∃ b:Bool,vs=[.bool b]:=by
  cases n with
  |zero=>exact h.elim
  |succ n=>exact shp_bool ht h
theorem shq_step {fs:Array Field} (ht:P.underlying t=some (.struct fs)) (h:Shp P n t vs): ∃ m,n=m+1∧ShpL (Shp P m) fs.toList vs:=by
  cases n with
  |zero=>exact h.elim
  |succ n=>exact ⟨n,rfl,shp_step ht h⟩
theorem shq_kids {e:Nat} {α:Type} {f:α→List V} {N:Nat} (ht:P.underlying t=some (.slice e)) (he: ∀ m,m < N→ ∀ vs,Shp P m e vs→ ∃ a,vs=f a) (hn:n < N) (h:Shp P n t vs): ∃ l:List α,vs=[.sl (l.map f)]:=by
  cases n with
  |zero=>exact h.elim
  |succ n=>exact shp_slice ht (he n (by omega)) h
theorem shpB_cons {ts:List TypeId} {us:List V} (h:ShpB P (t::ts) us): ∃ n a b,us=packV P t a::b∧Shp P n t a∧ShpB P ts b:=h
theorem shpB_nil {us:List V} (h:ShpB P [] us):us=[]:=h
end
end Go.Proofs.YteehaobohaecmaaDoor
namespace Go.Proofs.YteehaobohaecmaaDoor
open Go
structure Tri where
  ia:List (List UInt8)
  oa:List (List UInt8)
  f:Fm
  s:List UInt8
end Go.Proofs.YteehaobohaecmaaDoor
namespace Go.Proofs.YteehaobohaecmaaDoor
open Go Go.Proofs Go.Proofs.YteehaobohaecmaaDoor
theorem gPow : Tryd.prog.globalNamed "internal/strconv.uint64pow10" = some 0 := by kernel_rfl
theorem door_met (os:Os) (args:Array Value):laidMetH Tryd.prog Rows.monitorTracesRow.laid ((World.doorLaid Tryd.prog 400 os).forCall (fun _ _=>0) ⟨#[],args,[]⟩).memory:=
  laidMetH_of_parts3 (fuel:=8) (laidMet_of_run' 8 (by kernel_rfl) (by kernel_rfl)) (by kernel_rfl) (by kernel_rfl)
theorem tabZ_of_laid {W:World} (h:laidMetH Tryd.prog Rows.monitorTracesRow.laid W):TabZ W (fun b=>b < W.heap.size):=by
  have h2 := laidMetH.filter (fun x => x.1 == "internal/strconv.uint64pow10") h
  rw [show Rows.monitorTracesRow.laid.filter (fun x => x.1 == "internal/strconv.uint64pow10") = [("internal/strconv.uint64pow10", Lib.tabData .u64 Lib.pow10Tab)] from by kernel_rfl] at h2
  rw [MakeChecks.laidMetH_plain _ _ _ (by kernel_rfl)] at h2
  have h3 : Lib.TabIs Tryd.prog W "internal/strconv.uint64pow10" .u64 Lib.pow10Tab := Lib.tabIs_of_head (n := 20) gPow (show (Tryd.prog.globals[0]?).map (·.type) = some 126 from by kernel_rfl) Tryd.underlying126 Tryd.underlying111 (by kernel_rfl) (by kernel_rfl) h2
  unfold Lib.TabIs World.var? at h3
  rw [gPow] at h3
  simp only [Option.bind_some] at h3
  intro p hp
  rw [show p=(0,p10C) from by simpa [tabs] using hp]
  revert h3
  cases hq:W.heap[0]? with
  |none=>intro h3; cases h3
  | some o =>
    cases o with
    | cells cs ty m =>
      intro h3
      injection h3 with h3
      refine ⟨?_,ty,m,by rw [h3]; rfl⟩
      obtain ⟨hlt,_⟩:=Array.getElem?_eq_some_iff.1 hq
      exact hlt
    |_=>intro h3; cases h3
end Go.Proofs.YteehaobohaecmaaDoor
namespace Go.Proofs.YteehaobohaecmaaDoor
open Go Go.Proofs Go.Proofs.YteehaobohaecmaaDoor Go.ChangeShapes Go.WideShapes Go.ChangeAt Go.RowKit
structure UT (P:Program):Prop where
  u3:P.underlying 3=some (.int .i64)
  u22:P.underlying 22=some (.slice 24)
  u24: ∃ f0 f1 f2:Field,P.underlying 24=some (.struct #[f0,f1,f2])∧f0.type=3∧f1.type=3∧f2.type=22
  u4:P.underlying 4=some (.bool)
  u52: ∃ f0 f1 f2 f3:Field,P.underlying 52=some (.struct #[f0,f1,f2,f3])∧f0.type=24∧f1.type=24∧f2.type=24∧f3.type=4
theorem sh3 {P:Program} (U:UT P): ∀ (n:Nat) (vs:List V),Shp P n 3 vs→ ∃ a:Int,vs=cI a:=fun _ _ h=>shq_int U.u3 h
theorem sh24 {P:Program} (U:UT P): ∀ (n:Nat) (vs:List V),Shp P n 24 vs→ ∃ a:Fm,vs=cF a:=by
  intro n
  induction n using Nat.strongRecOn with
  | ind n ih =>
    intro vs h
    obtain ⟨f0,f1,f2,hu,k0,k1,k2⟩:=U.u24
    obtain ⟨m,hm,h0⟩:=shq_step hu h
    obtain ⟨x0,u0,e0,h1⟩:=shpL_cons (c:=cI) (fun vs h=>sh3 U m vs (by rw [k0] at h; exact h)) h0
    obtain ⟨x1,u1,e1,h2⟩:=shpL_cons (c:=cI) (fun vs h=>sh3 U m vs (by rw [k1] at h; exact h)) h1
    obtain ⟨x2,u2,e2,h3⟩:=shpL_cons (c:=fun l:List Fm=>[V.sl (List.map cF l)]) (fun vs h=>shq_kids (N:=n) (n:=m) U.u22 ih (by omega) (by rw [k2] at h; exact h)) h2
    have e3:=shpL_nil h3
    exact ⟨(Fm.nd x0 x1 x2),by rw [e0,e1,e2,e3,cF_eq]; rfl⟩
theorem sh4 {P:Program} (U:UT P): ∀ (n:Nat) (vs:List V),Shp P n 4 vs→ ∃ a:Bool,vs=(fun b=>[V.bool b]) a:=fun _ _ h=>shq_bool U.u4 h
theorem sh52 {P:Program} (U:UT P): ∀ (n:Nat) (vs:List V),Shp P n 52 vs→ ∃ a:Odr,vs=cOdr a:=by
  intro n
  induction n using Nat.strongRecOn with
  | ind n ih =>
    intro vs h
    obtain ⟨f0,f1,f2,f3,hu,k0,k1,k2,k3⟩:=U.u52
    obtain ⟨m,hm,h0⟩:=shq_step hu h
    obtain ⟨x0,u0,e0,h1⟩:=shpL_cons (c:=cF) (fun vs h=>sh24 U m vs (by rw [k0] at h; exact h)) h0
    obtain ⟨x1,u1,e1,h2⟩:=shpL_cons (c:=cF) (fun vs h=>sh24 U m vs (by rw [k1] at h; exact h)) h1
    obtain ⟨x2,u2,e2,h3⟩:=shpL_cons (c:=cF) (fun vs h=>sh24 U m vs (by rw [k2] at h; exact h)) h2
    obtain ⟨x3,u3,e3,h4⟩:=shpL_cons (c:=(fun b=>[V.bool b])) (fun vs h=>sh4 U m vs (by rw [k3] at h; exact h)) h3
    have e4:=shpL_nil h4
    exact ⟨⟨x0,x1,x2,x3⟩,by rw [e0,e1,e2,e3,e4,cF_eq,cF_eq,cF_eq]; rfl⟩
theorem ut:UT Tryd.prog:=⟨by kernel_rfl,by kernel_rfl,⟨_,_,_,Tryd.underlying24,rfl,rfl,rfl⟩,by kernel_rfl,⟨_,_,_,_,Tryd.underlying52,rfl,rfl,rfl,rfl⟩⟩
theorem args5 {P:Program} (U:UT P) {us:List V} (h:ShpB P [52] us): ∃ (d0:Odr),us=[V.agg (cOdr d0)]:=by
  obtain ⟨n0,a0,b0,e0,h0,h⟩:=shpB_cons h
  obtain ⟨d0,g0⟩:=sh52 U n0 a0 h0
  have q0:packV P 52 a0=V.agg (cOdr d0):=by obtain ⟨_,_,_,_,hu,_⟩:=U.u52; rw [g0]; exact pack_struct hu _
  have e1:=shpB_nil h
  exact ⟨d0,by rw [e0,q0,e1]⟩
theorem own5:ownKnob Tryd.prog.godebug=none:=by kernel_rfl
theorem okS5: ∀ t∈[3,4,22,24,52],okS Tryd.prog [3,4,22,24,52] t=true:=by
  intro t ht
  simp only [List.mem_cons,List.not_mem_nil,or_false] at ht
  rcases ht with rfl|rfl|rfl|rfl|rfl
  · kernel_rfl
  · kernel_rfl
  · kernel_rfl
  · kernel_rfl
  · kernel_rfl
set_option maxRecDepth 100000 in
theorem lifted5 (os:Os) (started:os.Started) (H:Type) (enc:TypeId×Value→H):
    ReturnsInHanded {} Tryd.checked os 5 .any (fun w args=>(Rows.monitorOrderSpec.pre enc Tryd.prog Tryd.f5 [] false w args∧laidMetH Tryd.prog Rows.monitorOrderRow.laid w)∧sizedMet enc Tryd.prog Tryd.f5 (OpenSpec.ofChange Rows.monitorOrderSpec) false w args)
      (Rows.monitorOrderSpec.post enc Tryd.prog Tryd.f5 false true false false):=by
  refine returnsInHanded_of_change_and (C:=Tryd.checked) (X:=fun w _=>laidMetH Tryd.prog Rows.monitorOrderRow.laid w) (fun _ _ _ hh h=>h.of_heap hh) own5 started (by kernel_rfl) Tryd.func5
    (ChangeSpec.witness_shaped (enc:=enc) (C:=Tryd.checked) (os:=os) (X:=fun w _=>laidMetH Tryd.prog Rows.monitorOrderRow.laid w) false (World.doorLaid Tryd.prog 400 os) #[.agg #[.int .i64 0,.int .i64 0,.slice none 0 0,.int .i64 0,.int .i64 0,.slice none 0 0,.int .i64 0,.int .i64 0,.slice none 0 0,.bool false]] 8 rfl (World.shaped_of_RefB (by kernel_rfl) (by kernel_rfl)) (by kernel_rfl) (by kernel_rfl) (by kernel_rfl) (door_met os _)) ?_
  intro W base args ds gs before hval0 hW _ _ hL _
  refine law_postS (S:=[3,4,22,24,52]) (tb:=4) (by kernel_rfl) (by kernel_rfl) (by kernel_rfl) okS5 (fun t ht=>?_) rfl ?_ (fun us hu=>?_) hval0 hW (tabZ_of_laid hL)
  · have h:t∈[52]:=ht
    simp only [List.mem_cons,List.not_mem_nil,or_false] at h
    rcases h with rfl
    · exact ⟨of_decide_eq_true (by kernel_rfl),by kernel_rfl,of_decide_eq_true (by kernel_rfl)⟩
  · obtain ⟨p,q,hA,hV,rfl,hfz,hnd⟩:=hW
    obtain ⟨rfl,rfl⟩:=trodVars_none hV
    change DataW.TrodAll enc Tryd.prog W 0 (fun _=>true) true [52] args.toList ds p at hA
    obtain ⟨v0,vs0,y0,ds0,pa0,pb0,hv0,rfl,rfl,_,hA⟩:=trodAll_cons hA
    obtain ⟨_,rfl,rfl⟩:=trodAll_nil hA
    rfl
  · obtain ⟨d0,rfl⟩:=args5 ut hu
    exact law5_pure d0.f d0.g d0.h d0.b
theorem row5:Rows.MonitorOrderSaid:=
  OpenClaim.holds_of_wide 5 Tryd.f5 rfl rfl rfl rfl rfl rfl rfl ⟨rfl,rfl,rfl,rfl,rfl⟩ rfl rfl rfl rfl rfl (by kernel_rfl) Tryd.func5 (by kernel_rfl)
    (of_decide_eq_true (by kernel_rfl)) (by unfold Func.isWrapper; first|(rw [if_pos (by decide+kernel)]; kernel_rfl)|(rw [if_neg (by decide+kernel)]; exact ⟨rfl,rfl⟩))
    (fun os started H enc _=>lifted5 os started H enc)
theorem proved5 : Rows.MonitorOrderCardSaid :=
  Claim7.holds_tied_plain_at .later [] [.data, .data, .data] true (true, "9750cd835fc6be56c868f17598e48ee6da7fc37918f78c04b1a6e4f014a09322") false
    row5 (fun _ h=>by cases h) (by kernel_rfl) (fun _ h=>by cases h) monitorOrder_row_tie rfl ⟨rfl,rfl⟩ (by kernel_rfl) rfl
    (fun f fn hf hfn=>by
      obtain rfl : f = 5 := Option.some.inj ((show Tryd.prog.funcNamed "learner/learnerlaw46.MonitorOrder" = some 5 by kernel_rfl).symm.trans hf) |>.symm
      obtain rfl:fn=Tryd.f5:=(Option.some.inj (Tryd.func5.symm.trans hfn)).symm
      exact ⟨by kernel_rfl,fun j t ht=>by
        rw [Tryd.params5] at ht
        have hm:t∈[52]:=by simpa using Array.mem_of_getElem? ht
        have hall:([52].all fun u=> !Tryd.prog.wantsStandIn u)=true:=by kernel_rfl
        exact (show Tryd.prog.wantsStandIn t=false by simpa using List.all_eq_true.1 hall t hm)⟩)
    (by kernel_rfl)
end Go.Proofs.YteehaobohaecmaaDoor
