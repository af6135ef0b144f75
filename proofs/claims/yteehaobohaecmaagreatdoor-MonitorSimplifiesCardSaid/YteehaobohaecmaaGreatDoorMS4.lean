/- Contracts of the functions that the law MS reaches, and the law itself, for every input; no condition. -/
import Derived.KernelRfl
import Derived.Test.YteehaobohaecmaaGreatDoorProg
import Derived.Test.YteehaobohaecmaaGreatDoorRows
import Derived.LaidSub
import Derived.LaidMore
import Derived.Lib.LaidTab
import Derived.Test.YteehaobohaecmaaGreatDoorTie
import Derived.Test.YteehaobohaecmaaGreatDoorCards
import Derived.OpenShut
import Derived.Stop.Joined
import Derived.SevenTiedAt
import Derived.Test.YteehaobohaecmaaGreatDoorMS3
set_option linter.unusedSimpArgs false
set_option linter.unusedVariables false
namespace Go.Proofs.YteehaobohaecmaaGreatDoor
open Go Go.Proofs
theorem rcan_pure (f:Fm) (hok:okF f=true) (hz:f.sz≤268435456) (hq:PureC Tryz.prog 92 [(V.agg [(iV (f.op)),(iV (f.arg)),(V.sl (List.map cF (f.kids)))])] (V.tup [(V.sl (List.map cCl (rsV f))),(V.bool (clB f))])):PureC Tryz.prog 64 [(V.agg [(iV (f.op)),(iV (f.arg)),(V.sl (List.map cF (f.kids)))])] (V.tup [(V.agg [(iV ((fVal (can f)).op)),(iV ((fVal (can f)).arg)),(V.sl (List.map cF ((fVal (can f)).kids)))]),(V.bool (canB f))]):=by
 refine pW Tryz.func64 s64_ok fun hB=>?_
 unfold s64
 dsimp only
 refine W_r (R_box (i:=1) (n:=0) (m:=3) (cs:=[(iV (f.op)),(iV (f.arg)),(V.sl (List.map cF (f.kids)))]) rfl (congrArg Blk.ver rfl) rfl rfl rfl (R_alloc (i:=2) (n:=0) (m:=3) rfl (congrArg Blk.ver rfl) rfl (R_mv rfl (R_e (W_r (R_lk rfl rfl rfl rfl (R_callk (hq) rfl ?_)))))))
 refine R_mv rfl (R_ext rfl rfl (R_ext rfl rfl (R_mv rfl (R_mv rfl (R_e (W_seq_seq (W_r ?_)))))))
 refine R_mv rfl (R_notb rfl (R_e ?_))
 refine W_seq_ifb rfl (fun c1=>?_) (fun c1=>?_)
 ·
  have d0:clB f=false:=by simpa using c1
  have d1:can f=none:=by unfold can; rw [clB_none d0]; rfl
  refine W_seq_seq (W_r (R_build rfl rfl (R_sk rfl rfl rfl rfl rfl rfl rfl rfl rfl (R_mv rfl (R_e (W_seq_ret ?_))))))
  refine RetC_2 (resV_c (u:=(V.agg [(iV (0:Int)),(iV (0:Int)),V.nilsl])) rfl (@rfl Blk (bk 1 24 3 [[(iV (0:Int)),(iV (0:Int)),V.nilsl]])) (lB oB rfl rfl)) (resV_t (@rfl V (V.bool false))) (fz_agg3 (fz_int ?_) (fz_int ?_) (fz_nil ?_)) (fz_bool ?_)
  · rw [d1]; rfl
  · rw [d1]; rfl
  · rw [d1]; rfl
  · rw [canB_cl,d0]
 have d0:=clB_some (f:=f) (by simpa using c1)
 have db:clB f=true:=by simpa using c1
 have d1:can f=some (fin (rsV f)):=by unfold can; rw [d0]; rfl
 have g1:=cls_good f hok _ d0
 have g2:=cls_clen f _ d0
 have g3:=g1.len
 refine W_seq_skip ?_
 refine W_seq_g (fun T H=>T 2=(V.mp 2 1 0 0)∧T 4=(V.sl (List.map cCl ((rsV f))))∧T 6=(V.mp 6 1 0 0)∧H 1=(bk 1 24 3 [[(iV (f.op)),(iV (f.arg)),(V.sl (List.map cF (f.kids)))]])∧H 2=(bk 1 24 3 [[(iV (0:Int)),(iV (0:Int)),V.nilsl]])∧H 6=(bk 1 24 3 [[(iV (1:Int)),(iV (0:Int)),V.nilsl]])∧True) ?_ ?_
 ·
  refine R_build rfl rfl (R_alloc (i:=6) (n:=0) (m:=3) rfl (congrArg Blk.ver rfl) rfl (R_sk rfl rfl rfl rfl rfl rfl rfl rfl rfl ?_))
  exact R_nil ⟨rfl,rfl,rfl,rfl,rfl,rfl,trivial⟩
 intro T H ⟨t2,t4,t6,h1,h2,h6,_⟩
 refine nz_one (r':=[(iV (1:Int)),(iV (0:Int)),(V.sl (List.map cF ([])))]) h6 rfl (.done ?_)
 refine fork_ (R:=fun T H=>T 2=(V.mp 2 1 0 0)∧T 4=(V.sl (List.map cCl ((rsV f))))∧T 6=(V.mp 6 1 0 0)∧H 1=(bk 1 24 3 [[(iV (f.op)),(iV (f.arg)),(V.sl (List.map cF (f.kids)))]])∧H 2=(bk 1 24 3 [[(iV (0:Int)),(iV (0:Int)),V.nilsl]])∧H 6=(bk 1 24 3 [[(iV (1:Int)),(iV (0:Int)),(V.sl (List.map cF ([])))]])∧True) ⟨t2,t4,t6,((upd_ne _ _ (by decide)).trans h1),((upd_ne _ _ (by decide)).trans h2),(upd_same _ _ _),trivial⟩ ?_
 intro T H ⟨t2,t4,t6,h1,h2,h6,_⟩
 refine W_seq_seq (W_r (R_mv t4 (R_len rfl (R_eql rfl rfl (R_e ?_)))))
 refine W_seq_if rfl (fun c2=>?_) fun c2=>?_
 ·
  rw [fin_0 (by omega)] at d1
  refine W_seq_seq (W_r (R_lk t6 h6 rfl rfl (R_bslice rfl rfl (R_build rfl rfl (R_sk t2 rfl rfl h2 rfl rfl rfl rfl rfl (R_mv rfl (R_e ?_)))))))
  refine W_seq_ret ?_
  refine RetC_2 (resV_c (u:=(V.agg [(iV (4:Int)),(iV (0:Int)),(V.sl [[(iV (1:Int)),(iV (0:Int)),(V.sl (List.map cF ([])))]])])) t2 (@rfl Blk (bk 1 24 3 [[(iV (4:Int)),(iV (0:Int)),(V.sl [[(iV (1:Int)),(iV (0:Int)),(V.sl (List.map cF ([])))]])]])) (lB oB rfl rfl)) (resV_t (@rfl V (V.bool true))) (fz_agg3 (fz_int ?_) (fz_int ?_) (fz_canon (by simp) (Eq.trans (sl_F1 (x:=((Fm.nd (1:Int) (0:Int) []))) rfl) (congrArg (fun l=>V.sl (List.map cF l)) ?_)))) (fz_bool ?_)
  · rw [d1]; rfl
  · rw [d1]; rfl
  · rw [d1]; rfl
  · rw [canB_cl,db]
 refine W_seq_skip (W_r (R_mv rfl (R_e (W_seq_seq ?_))))
 refine W_seq_g (fun T H=>T 2=(V.mp 2 1 0 0)∧T 4=(V.sl (List.map cCl ((rsV f))))∧T 6=(V.mp 6 1 0 0)∧T 7=V.nilsl∧T 8=(iV (0:Int))∧H 1=(bk 1 24 3 [[(iV (f.op)),(iV (f.arg)),(V.sl (List.map cF (f.kids)))]])∧H 2=(bk 1 24 3 [[(iV (0:Int)),(iV (0:Int)),V.nilsl]])∧H 6=(bk 1 24 3 [[(iV (1:Int)),(iV (0:Int)),(V.sl (List.map cF ([])))]])∧True) ?_ ?_
 ·
  refine R_mv rfl ?_
  exact R_nil ⟨t2,t4,t6,rfl,rfl,h1,h2,h6,trivial⟩
 intro T H ⟨t2,t4,t6,t7,t8,h1,h2,h6,_⟩
 refine G_nil t7 (fork_ (R:=fun T H=>T 2=(V.mp 2 1 0 0)∧T 4=(V.sl (List.map cCl ((rsV f))))∧T 6=(V.mp 6 1 0 0)∧T 7=(V.sl [])∧T 8=(iV (0:Int))∧H 1=(bk 1 24 3 [[(iV (f.op)),(iV (f.arg)),(V.sl (List.map cF (f.kids)))]])∧H 2=(bk 1 24 3 [[(iV (0:Int)),(iV (0:Int)),V.nilsl]])∧H 6=(bk 1 24 3 [[(iV (1:Int)),(iV (0:Int)),(V.sl (List.map cF ([])))]])∧True) ⟨((upd_ne _ _ (by decide)).trans t2),((upd_ne _ _ (by decide)).trans t4),((upd_ne _ _ (by decide)).trans t6),(upd_same _ _ _),((upd_ne _ _ (by decide)).trans t8),h1,h2,h6,trivial⟩ ?_)
 intro T H ⟨t2,t4,t6,t7,t8,h1,h2,h6,_⟩
 refine W_seq_blockg fun Q3 n3 x3 y3 z3=>?_
 refine W_loop (fun mm T H=> ∃ (k:Nat),mm=(rsV f).length - k∧T 2=(V.mp 2 1 0 0)∧T 4=(V.sl (List.map cCl ((rsV f))))∧T 6=(V.mp 6 1 0 0)∧T 7=(V.sl (List.map cF (unF [] (((rsV f).take k).map clF))))∧T 8=(iV ((k:Nat):Int))∧H 1=(bk 1 24 3 [[(iV (f.op)),(iV (f.arg)),(V.sl (List.map cF (f.kids)))]])∧H 2=(bk 1 24 3 [[(iV (0:Int)),(iV (0:Int)),V.nilsl]])∧H 6=(bk 1 24 3 [[(iV (1:Int)),(iV (0:Int)),(V.sl (List.map cF ([])))]])∧(k≤(rsV f).length)∧(∀ i,i < k→(nth (rsV f) i).length≠0)) ?_ ?_
 ·
  refine ⟨_,0,rfl,t2,t4,t6,(Eq.trans t7 (by rfl)),(Eq.trans t8 rfl),h1,h2,h6,?_,?_⟩
  · omega
  · intro i hi; omega
 intro mm T H ⟨k,hmm,t2,t4,t6,t7,t8,h1,h2,h6,hk,hn⟩ Q4 p14 p24 p34
 unfold b64_0
 have hU:=unF_len (((rsV f).take k).map clF) []
 have hU2:(((rsV f).take k).map clF).length=k:=by rw [List.length_map,List.length_take]; omega
 have hU3:([]:List Fm).length=0:=rfl
 refine W_seq_seq (W_r (R_mv t8 (R_mv t4 (R_len rfl (R_lss rfl rfl (R_e ?_))))))
 refine W_seq_if rfl (fun c5=>?_) fun c5=>?_
 ·
  refine W_seq_skip (W_seq_blockg fun Q6 n6 x6 y6 z6=>(W_seq_seq (W_r (R_mv t4 (R_mv t8 (R_idx (i:=k) (@rfl V (V.sl (List.map cCl ((rsV f))))) (@rfl V (iV ((k:Nat):Int))) (by omega) rfl (R_load_pp rfl rfl ?_)))))))
  refine R_len rfl (R_eql rfl rfl (R_e ?_))
  refine W_seq_if rfl (fun c7=>?_) fun c7=>?_
  ·
   rw [fin_y (k:=k) (by omega) (by omega)] at d1
   refine W_seq_seq (W_r (R_lk t6 h6 rfl rfl (R_sk t2 rfl rfl h2 rfl rfl rfl rfl rfl (R_mv rfl (R_e (W_seq_ret (y6 _ _ ?_)))))))
   refine p24 _ _ (y3 _ _ ?_)
   refine RetC_2 (resV_c (u:=(V.agg [(iV (1:Int)),(iV (0:Int)),(V.sl (List.map cF ([])))])) t2 (@rfl Blk (bk 1 24 3 [[(iV (1:Int)),(iV (0:Int)),(V.sl (List.map cF ([])))]])) (lB oB rfl rfl)) (resV_t (@rfl V (V.bool true))) (fz_agg3 (fz_int ?_) (fz_int ?_) (fz_sl ?_ (fun _=>by simp))) (fz_bool ?_)
   · rw [d1]; rfl
   · rw [d1]; rfl
   · rw [d1]; rfl
   · rw [canB_cl,db]
  have d2:(nth (rsV f) k).length≠0:=by omega
  refine W_seq_skip (W_t (R_mv t7 (R_mv t4 (R_mv t8 (R_idx (i:=k) (@rfl V (V.sl (List.map cCl ((rsV f))))) (@rfl V (iV ((k:Nat):Int))) (by omega) rfl (R_load_pp rfl rfl (R_callk (rjoin_pure ((5:Int)) ((nth ((rsV f)) (k)))) rfl ?_)))))))
  refine R_callk (rwith_pure (unF [] (((rsV f).take k).map clF)) ((jnd ((5:Int)) ((nth ((rsV f)) (k))))) (unF_srt List.Pairwise.nil) (by omega)) rfl (R_mv rfl (R_e (n6 _ _ (.done (W_t (R_mv t8 (R_addN rfl (@rfl V (iV ((1:Nat):Int))) (by omega) ?_)))))))
  refine R_mv rfl (R_e ?_)
  refine p14 _ _ _ ?_ ⟨(k+1),rfl,t2,t4,t6,(Eq.trans (@rfl V (V.sl (List.map cF (insF ((jnd ((5:Int)) ((nth ((rsV f)) (k))))) (unF [] (((rsV f).take k).map clF)))))) (by (rw [unM_step (by omega)]; rfl))),(Eq.trans (@rfl V (iV ((k+1:Nat):Int))) (by rfl)),h1,h2,h6,?_,?_⟩
  · omega
  · omega
  · intro i hi
    by_cases e:i=k
    · subst e; exact d2
    · exact hn i (by omega)
 rw [fin_j g1 (fun i hi=>hn i (by omega)) (by omega)] at d1
 have hk2:(rsV f).take k=(rsV f):=by rw [show k=(rsV f).length by omega,List.take_length]
 refine W_seq_exit (p34 _ _ _ (x3 _ _ (.done (W_r (R_mv t7 (R_callk (rjoin_pure ((6:Int)) (unF [] (((rsV f).take k).map clF))) rfl (R_sk t2 rfl rfl h2 rfl rfl rfl rfl rfl ?_)))))))
 refine R_mv rfl (R_e (W_ret ?_))
 refine RetC_2 (resV_c (u:=(V.agg [(iV ((jnd ((6:Int)) (unF [] (((rsV f).take k).map clF))).op)),(iV ((jnd ((6:Int)) (unF [] (((rsV f).take k).map clF))).arg)),(V.sl (List.map cF ((jnd ((6:Int)) (unF [] (((rsV f).take k).map clF))).kids)))])) t2 (@rfl Blk (bk 1 24 3 [[(iV ((jnd ((6:Int)) (unF [] (((rsV f).take k).map clF))).op)),(iV ((jnd ((6:Int)) (unF [] (((rsV f).take k).map clF))).arg)),(V.sl (List.map cF ((jnd ((6:Int)) (unF [] (((rsV f).take k).map clF))).kids)))]])) (lB oB rfl rfl)) (resV_t (@rfl V (V.bool true))) (fz_agg3 (fz_int ?_) (fz_int ?_) (fz_sl ?_ (fun _=>by simp))) (fz_bool ?_)
 · rw [d1,hk2]; rfl
 · rw [d1,hk2]; rfl
 · rw [d1,hk2]; rfl
 · rw [canB_cl,db]
def r92_14:List SO:=[
 qF 40 2 1,
 ql 41 40,
 qM 42 5,
 qA 43 3 41 42,
 qL 44 3 43,
 sO 45 (.call false 92 [.t 44]),
 qM 39 45,
 qE 46 39 0,
 qE 47 39 1,
 qM 6 46,
 qM 7 47]
def r92_24:List SO:=[
 qM 65 4,
 qM 66 6,
 qM 67 8,
 qA 68 1 66 67,
 ql 69 68,
 sO 70 (.call false 114 [.t 65,.t 69]),
 qM 4 70]
def b92_1:SC:=.seq (.seq (.reg [qM 59 8,qM 60 6,qN 61 60,qP 62 .lss 59 61]) (.cond (.t 62) (.skip) (.exit 3))) (.seq (.block 4 (.reg r92_24)) (.reg [qM 63 8,qC 64 .add 63 1,qM 8 64]))
def r92_25:List SO:=[
 qF 71 0 1,
 ql 72 71,
 qC 73 .eql 72 5,
 qM 74 73,
 ⟨some (74,true),some 75,.mv (.t 4)⟩,
 ⟨some (74,true),some 76,.len (.t 75)⟩,
 ⟨some (74,true),some 77,.bin .gtr (.t 76) (.c (.int .i64 64))⟩,
 sO 78 (.pick (.t 74) (.t 77) (.c (.bool false)))]
def b92_0:SC:=.seq (.seq (.reg [qM 32 5,qF 33 2 1,ql 34 33,qN 35 34,qP 36 .lss 32 35]) (.cond (.t 36) (.skip) (.exit 1))) (.seq (.block 2 (.seq (.reg r92_14) (.seq (.seq (.reg [qM 48 7,sO 49 (.un .not (.t 48))]) (.cond (.t 49) (.seq (.reg [sO 2 (.mv (.c (.nilsl))),sO 3 (.mv (.c (.bool false)))]) (.ret)) (.skip))) (.seq (.seq (.reg [qM 50 5,qC 51 .eql 50 0]) (.cond (.t 51) (.reg [qM 52 6,qM 4 52]) (.seq (.reg [qF 53 0 1,ql 54 53,qC 55 .eql 54 5]) (.cond (.t 55) (.reg [qM 56 4,qM 57 6,sO 58 (.call false 113 [.t 56,.t 57]),qM 4 58]) (.seq (.reg [qI 8 0]) (.block 3 (.loop b92_1))))))) (.seq (.reg r92_25) (.cond (.t 78) (.seq (.reg [sO 2 (.mv (.c (.nilsl))),sO 3 (.mv (.c (.bool false)))]) (.ret)) (.skip))))))) (.reg [qM 37 5,qC 38 .add 37 1,qM 5 38]))
def r92_28:List SO:=[
 qF 83 0 1,
 ql 84 83,
 qF 85 1 1,
 ql 86 85,
 sO 87 (.build [.int .i64 0,.int .i64 0,.nilsl] [(0,1,.t 84),(1,1,.t 86)]),
 sO 9 (.alloc 24 [.int .i64 0,.int .i64 0,.nilsl]),
 sN (.store 3 (.t 9) (.t 87))]
def r92_32:List SO:=[
 qF 96 2 1,
 ql 97 96,
 qM 98 10,
 qA 99 3 97 98,
 qL 100 3 99,
 sO 101 (.call false 64 [.t 100]),
 qM 95 101,
 qE 102 95 0,
 qE 103 95 1,
 sO 11 (.alloc 24 [.int .i64 0,.int .i64 0,.nilsl]),
 sN (.store 3 (.t 11) (.t 102)),
 qM 12 103]
def r92_35:List SO:=[
 qF 106 2 9,
 ql 107 106,
 qL 108 3 11,
 sO 109 (.bslice 24 3 false [.int .i64 0,.int .i64 0,.nilsl] 1 [(0,.t 108)]),
 sO 110 (.append 24 3 40 (.t 107) (.t 109)),
 qF 111 2 9,
 sN (.store 1 (.t 111) (.t 110))]
def b92_2:SC:=.seq (.seq (.reg [qM 88 10,qF 89 2 1,ql 90 89,qN 91 90,qP 92 .lss 88 91]) (.cond (.t 92) (.skip) (.exit 5))) (.seq (.block 6 (.seq (.reg r92_32) (.seq (.seq (.reg [qM 104 12,sO 105 (.un .not (.t 104))]) (.cond (.t 105) (.seq (.reg [sO 2 (.mv (.c (.nilsl))),sO 3 (.mv (.c (.bool false)))]) (.ret)) (.skip))) (.reg r92_35)))) (.reg [qM 93 10,qC 94 .add 93 1,qM 10 94]))
def s92:SF:=⟨115,[.tmp 2,.tmp 3],.seq (.reg [sO 1 (.box 24 3 (.t 0)),sO 2 (.mv (.c (.nilsl))),sO 3 (.mv (.c (.bool false)))]) (.seq (.seq (.reg [qF 13 0 1,ql 14 13]) (.block 0 (.seq (.reg [qC 16 .eql 14 1,qM 15 16]) (.cond (.t 15) (.seq (.reg [sO 17 (.bslice 22 1 false [.nilsl] 1 [(0,.c (.nilsl))]),qM 2 17,sO 3 (.mv (.c (.bool true)))]) (.ret)) (.seq (.reg [qC 19 .eql 14 4,qM 18 19]) (.cond (.t 18) (.seq (.seq (.reg [qF 20 2 1,ql 21 20,sO 22 (.idx 3 (.t 21) (.c (.int .i64 0))),qF 23 0 22,ql 24 23,qC 25 .eql 24 1]) (.cond (.t 25) (.seq (.reg [sO 2 (.mv (.c (.nilsl))),sO 3 (.mv (.c (.bool true)))]) (.ret)) (.skip))) (.seq (.reg [qL 26 3 1,sO 27 (.bslice 24 3 false [.int .i64 0,.int .i64 0,.nilsl] 1 [(0,.t 26)]),sO 28 (.bslice 22 1 false [.nilsl] 1 [(0,.t 27)]),qM 2 28,sO 3 (.mv (.c (.bool true)))]) (.ret))) (.seq (.seq (.reg [qC 30 .eql 14 5,qM 29 30]) (.cond (.t 29) (.skip) (.reg [qC 31 .eql 14 6,qM 29 31]))) (.cond (.t 29) (.seq (.reg [sO 4 (.mv (.c (.nilsl)))]) (.seq (.seq (.reg [qI 5 0]) (.block 1 (.loop b92_0))) (.seq (.reg [qM 79 4,qM 80 4,qN 81 80,qC 82 .leq 81 64,qM 2 79,qM 3 82]) (.ret)))) (.skip))))))))) (.seq (.reg r92_28) (.seq (.seq (.reg [qI 10 0]) (.block 5 (.loop b92_2))) (.seq (.reg [qL 112 3 9,sO 113 (.bslice 24 3 false [.int .i64 0,.int .i64 0,.nilsl] 1 [(0,.t 112)]),sO 114 (.bslice 22 1 false [.nilsl] 1 [(0,.t 113)]),qM 2 114,sO 3 (.mv (.c (.bool true)))]) (.ret)))))⟩
theorem s92_ok:slimF Tryz.prog ⟨[59,84,90,97,109,153,154,155,160],[],[],[]⟩ Tryz.f92=some s92:=by kernel_rfl
def r113_8:List SO:=[
 sO 22 (.lazy 24 3),
 qM 23 0,
 qM 24 6,
 qA 25 1 23 24,
 ql 26 25,
 sO 27 (.append 24 3 40 (.t 22) (.t 26)),
 qM 8 27]
def r113_10:List SO:=[
 qM 28 9,
 qM 29 1,
 qM 30 7,
 qA 31 1 29 30,
 ql 32 31,
 qN 33 32,
 qP 34 .lss 28 33]
def r113_12:List SO:=[
 qM 37 8,
 qM 38 1,
 qM 39 7,
 qA 40 1 38 39,
 ql 41 40,
 qM 42 9,
 qA 43 3 41 42,
 qL 44 3 43,
 sO 45 (.call false 93 [.t 37,.t 44]),
 qM 8 45]
def b113_2:SC:=.seq (.seq (.reg r113_10) (.cond (.t 34) (.skip) (.exit 4))) (.seq (.block 5 (.reg r113_12)) (.reg [qM 35 9,qC 36 .add 35 1,qM 9 36]))
def b113_1:SC:=.seq (.seq (.reg [qM 16 7,qM 17 1,qN 18 17,qP 19 .lss 16 18]) (.cond (.t 19) (.skip) (.exit 2))) (.seq (.block 3 (.seq (.reg r113_8) (.seq (.seq (.reg [qI 9 0]) (.block 4 (.loop b113_2))) (.reg [qM 46 5,qM 47 8,sO 48 (.call false 114 [.t 46,.t 47]),qM 5 48])))) (.reg [qM 20 7,qC 21 .add 20 1,qM 7 21]))
def b113_0:SC:=.seq (.seq (.reg [qM 10 6,qM 11 0,qN 12 11,qP 13 .lss 10 12]) (.cond (.t 13) (.skip) (.exit 0))) (.seq (.block 1 (.seq (.reg [qI 7 0]) (.block 2 (.loop b113_1)))) (.reg [qM 14 6,qC 15 .add 14 1,qM 6 15]))
def s113:SF:=⟨50,[.tmp 4],.seq (.reg [sO 4 (.mv (.c (.nilsl)))]) (.seq (.reg [sO 5 (.mv (.c (.nilsl)))]) (.seq (.seq (.reg [qI 6 0]) (.block 0 (.loop b113_0))) (.seq (.reg [qM 49 5,qM 4 49]) (.ret))))⟩
theorem s113_ok:slimF Tryz.prog ⟨[59,84,90,97,109,153,154,155,160],[22],[],[]⟩ Tryz.f113=some s113:=by kernel_rfl
def r114_7:List SO:=[
 qM 20 0,
 qM 21 6,
 qA 22 1 20 21,
 ql 23 22,
 qM 24 1,
 sO 25 (.call false 133 [.t 23,.t 24]),
 sO 26 (.un .not (.t 25))]
def r114_8:List SO:=[
 qM 27 5,
 qM 28 0,
 qM 29 6,
 qA 30 1 28 29,
 ql 31 30,
 sO 32 (.bslice 22 1 false [.nilsl] 1 [(0,.t 31)]),
 sO 33 (.append 22 1 24 (.t 27) (.t 32)),
 qM 5 33]
def b114_0:SC:=.seq (.seq (.reg [qM 7 6,qM 8 0,qN 9 8,qP 10 .lss 7 9]) (.cond (.t 10) (.skip) (.exit 0))) (.seq (.block 1 (.seq (.seq (.reg [qM 13 1,qM 14 0,qM 15 6,qA 16 1 14 15,ql 17 16,sO 18 (.call false 133 [.t 13,.t 17])]) (.cond (.t 18) (.seq (.reg [qM 19 0,qM 4 19]) (.ret)) (.skip))) (.seq (.reg r114_7) (.cond (.t 26) (.reg r114_8) (.skip))))) (.reg [qM 11 6,qC 12 .add 11 1,qM 6 12]))
def s114:SF:=⟨38,[.tmp 4],.seq (.reg [sO 4 (.mv (.c (.nilsl)))]) (.seq (.reg [sO 5 (.lazy 22 1)]) (.seq (.seq (.reg [qI 6 0]) (.block 0 (.loop b114_0))) (.seq (.reg [qM 34 5,qM 35 1,sO 36 (.bslice 22 1 false [.nilsl] 1 [(0,.t 35)]),sO 37 (.append 22 1 24 (.t 34) (.t 36)),qM 4 37]) (.ret))))⟩
theorem s114_ok:slimF Tryz.prog ⟨[59,84,90,97,109,153,154,155,160],[5],[],[]⟩ Tryz.f114=some s114:=by kernel_rfl
def r133_8:List SO:=[
 qM 20 6,
 qM 21 20,
 ⟨some (21,false),some 22,.mv (.t 0)⟩,
 ⟨some (21,false),some 23,.mv (.t 7)⟩,
 ⟨some (21,false),some 24,.idx 3 (.t 22) (.t 23)⟩,
 ⟨some (21,false),some 25,.load true 3 (.t 24)⟩,
 ⟨some (21,false),some 26,.mv (.t 1)⟩,
 ⟨some (21,false),some 27,.mv (.t 5)⟩,
 ⟨some (21,false),some 28,.idx 3 (.t 26) (.t 27)⟩,
 ⟨some (21,false),some 29,.load true 3 (.t 28)⟩,
 ⟨some (21,false),some 30,.call false 17 [.t 25,.t 29]⟩,
 sO 31 (.pick (.t 21) (.c (.bool true)) (.t 30)),
 qM 6 31]
def b133_1:SC:=.seq (.seq (.reg [qM 14 7,qM 15 0,qN 16 15,qP 17 .lss 14 16]) (.cond (.t 17) (.skip) (.exit 2))) (.seq (.block 3 (.reg r133_8)) (.reg [qM 18 7,qC 19 .add 18 1,qM 7 19]))
def b133_0:SC:=.seq (.seq (.reg [qM 8 5,qM 9 1,qN 10 9,qP 11 .lss 8 10]) (.cond (.t 11) (.skip) (.exit 0))) (.seq (.block 1 (.seq (.reg [sO 6 (.mv (.c (.bool false)))]) (.seq (.seq (.reg [qI 7 0]) (.block 2 (.loop b133_1))) (.seq (.reg [qM 32 6,sO 33 (.un .not (.t 32))]) (.cond (.t 33) (.seq (.reg [sO 4 (.mv (.c (.bool false)))]) (.ret)) (.skip)))))) (.reg [qM 12 5,qC 13 .add 12 1,qM 5 13]))
def s133:SF:=⟨34,[.tmp 4],.seq (.reg [sO 4 (.mv (.c (.bool false)))]) (.seq (.seq (.reg [qI 5 0]) (.block 0 (.loop b133_0))) (.seq (.reg [sO 4 (.mv (.c (.bool true)))]) (.ret)))⟩
theorem s133_ok:slimF Tryz.prog ⟨[59,84,90,97,109,153,154,155,160],[],[],[]⟩ Tryz.f133=some s133:=by kernel_rfl
theorem rcont_pure (c d:Cl):PureC Tryz.prog 133 [(V.sl (List.map cF (c))),(V.sl (List.map cF (d)))] (V.bool (conB c d)):=by
 refine pW Tryz.func133 s133_ok fun hB=>?_
 unfold s133
 dsimp only
 refine W_r (R_mv rfl (R_e (W_seq_seq (W_r (R_mv rfl (R_e (W_seq_blockg fun Q1 n1 x1 y1 z1=>?_)))))))
 refine W_loop (fun mm T H=> ∃ (k:Nat),mm=d.length - k∧T 0=(V.sl (List.map cF (c)))∧T 1=(V.sl (List.map cF (d)))∧T 5=(iV ((k:Nat):Int))∧(k≤d.length)∧(conB c d=conB c (d.drop k))) ?_ ?_
 ·
  refine ⟨_,0,rfl,rfl,rfl,(Eq.trans (@rfl V (iV (0:Int))) rfl),?_,?_⟩
  · omega
  · rfl
 intro mm T H ⟨k,hmm,t0,t1,t5,hk,hc⟩ Q2 p12 p22 p32
 unfold b133_0
 refine W_seq_seq (W_r (R_mv t5 (R_mv t1 (R_len rfl (R_lss rfl rfl (R_e ?_))))))
 refine W_seq_if rfl (fun c3=>?_) fun c3=>?_
 ·
  refine W_seq_skip (W_seq_blockg fun Q4 n4 x4 y4 z4=>(W_r (R_mv rfl (R_e (W_seq_seq (W_r (R_mv rfl ?_)))))))
  refine R_e (W_seq_blockg fun Q5 n5 x5 y5 z5=>?_)
  refine W_loop (fun mm T H=> ∃ (j:Nat) (x:Bool),mm=c.length - j∧T 0=(V.sl (List.map cF (c)))∧T 1=(V.sl (List.map cF (d)))∧T 5=(iV ((k:Nat):Int))∧T 6=(V.bool x)∧T 7=(iV ((j:Nat):Int))∧(j≤c.length)∧(x=(c.take j).any fun y=>sameF y (nth d k))) ?_ ?_
  ·
   refine ⟨_,0,false,rfl,t0,t1,t5,rfl,(Eq.trans (@rfl V (iV (0:Int))) rfl),?_,?_⟩
   · omega
   · simp
  intro mm T H ⟨j,x,hmm,t0,t1,t5,t6,t7,hj,hx⟩ Q6 p16 p26 p36
  unfold b133_1
  refine W_seq_seq (W_r (R_mv t7 (R_mv t0 (R_len rfl (R_lss rfl rfl (R_e ?_))))))
  refine W_seq_if rfl (fun c7=>?_) fun c7=>?_
  ·
   refine W_seq_skip (W_seq_blockg fun Q8 n8 x8 y8 z8=>(W_t (R_mv t6 (R_mv rfl ?_))))
   refine Ops_seg 10 (fun T H=>T 0=(V.sl (List.map cF (c)))∧T 1=(V.sl (List.map cF (d)))∧T 5=(iV ((k:Nat):Int))∧T 6=(V.bool x)∧T 7=(iV ((j:Nat):Int))∧T 31=(V.bool ((x||(sameF (((nth (c) (j)))) (((nth (d) (k))))))))∧True) ?_ ?_
   ·
    by_cases g9:x=true
    ·
     refine G_n (ebT g9 rfl) (G_n (ebT g9 rfl) (G_n (ebT g9 rfl) (G_n (ebT g9 rfl) (G_n (ebT g9 rfl) (G_n (ebT g9 rfl) (G_n (ebT g9 rfl) (G_n (ebT g9 rfl) ?_)))))))
     refine G_n (ebT g9 rfl) (R_pickT (ebT g9 rfl) rfl ?_)
     exact ⟨t0,t1,t5,t6,t7,(borT g9),trivial⟩
    ·
     refine G_yes (ebF g9 rfl) (R_mv t0 (G_yes (ebF g9 rfl) (R_mv t7 (G_yes (ebF g9 rfl) (R_idxu (i:=j) (@rfl V (V.sl (List.map cF (c)))) (@rfl V (iV ((j:Nat):Int))) (by omega) (cF_eq _) rfl (G_yes (ebF g9 rfl) (R_load_pp rfl rfl ?_)))))))
     refine G_yes (ebF g9 rfl) (R_mv t1 (G_yes (ebF g9 rfl) (R_mv t5 (G_yes (ebF g9 rfl) (R_idxu (i:=k) (@rfl V (V.sl (List.map cF (d)))) (@rfl V (iV ((k:Nat):Int))) (by omega) (cF_eq _) rfl (G_yes (ebF g9 rfl) (R_load_pp rfl rfl ?_)))))))
     refine G_yes (ebF g9 rfl) (R_callk (rsame_pure (((nth (c) (j)))) (((nth (d) (k))))) rfl (R_pickF (ebF g9 rfl) rfl ?_))
     exact ⟨t0,t1,t5,t6,t7,(borF g9),trivial⟩
   intro T H ⟨t0,t1,t5,t6,t7,t31,_⟩
   refine R_mv t31 (R_e (n8 _ _ (.done (W_t (R_mv t7 (R_addN rfl (@rfl V (iV ((1:Nat):Int))) (by omega) (R_mv rfl ?_)))))))
   refine R_e ?_
   refine p16 _ _ _ ?_ ⟨(j+1),(x||sameF (nth c j) (nth d k)),rfl,t0,t1,t5,(Eq.trans (@rfl V (V.bool ((x||(sameF (((nth (c) (j)))) (((nth (d) (k))))))))) (by rfl)),(Eq.trans (@rfl V (iV ((j+1:Nat):Int))) (by rfl)),?_,?_⟩
   · omega
   · omega
   · rw [anyF_step (by omega),← hx]
  have hx2:x=c.any fun y=>sameF y (nth d k):=by rw [hx,show j=c.length by omega,List.take_length]
  refine W_seq_exit (p36 _ _ _ (x5 _ _ (.done (W_r (R_mv t6 (R_notb rfl (R_e ?_)))))))
  refine W_ifb rfl (fun c10=>?_) (fun c10=>?_)
  ·
   have d1:(c.any fun y=>sameF y (nth d k))=false:=by rw [← hx2]; simpa using c10
   refine W_r (R_mv rfl (R_e (W_ret (y4 _ _ (p22 _ _ (y1 _ _ ?_))))))
   refine Ret_1 (@rfl V (V.bool false)) (fz_bool ?_)
   · rw [hc,con_no (by omega) d1]
  have d1:(c.any fun y=>sameF y (nth d k))=true:=by rw [← hx2]; simpa using c10
  refine W_skip (n4 _ _ (.done (W_t (R_mv t5 (R_addN rfl (@rfl V (iV ((1:Nat):Int))) (by omega) (R_mv rfl (R_e ?_)))))))
  refine p12 _ _ _ ?_ ⟨(k+1),rfl,t0,t1,(Eq.trans (@rfl V (iV ((k+1:Nat):Int))) (by rfl)),?_,?_⟩
  · omega
  · omega
  · rw [hc,con_go (by omega) d1]
 refine W_seq_exit (p32 _ _ _ (x1 _ _ (.done (W_r (R_mv rfl (R_e (W_ret ?_)))))))
 refine Ret_1 (@rfl V (V.bool true)) (fz_bool ?_)
 · rw [hc,con_end (by omega)]
theorem rput_pure (s:List Cl) (c:Cl) (hz:s.length≤2199023255552):PureC Tryz.prog 114 [(V.sl (List.map cCl (s))),(V.sl (List.map cF (c)))] (V.sl (List.map cCl (wth s c))):=by
 refine pW Tryz.func114 s114_ok fun hB=>?_
 unfold s114
 dsimp only
 refine W_r (R_mv rfl (R_e (W_r (R_lazy (i:=5) (n:=0) rfl (congrArg Blk.ver rfl) (R_e (W_seq_seq (W_r ?_)))))))
 refine R_mv rfl (R_e (W_seq_blockg fun Q1 n1 x1 y1 z1=>?_))
 refine W_loop (fun mm T H=> ∃ (k:Nat) (v:Nat),mm=s.length - k∧T 0=(V.sl (List.map cCl (s)))∧T 1=(V.sl (List.map cF (c)))∧T 5=(V.ms 5 v 0 (((s.take k).filter (fun d=> !conB d c)).length))∧T 6=(iV ((k:Nat):Int))∧H 5=(bz v 22 1 (List.map cCl ((s.take k).filter (fun d=> !conB d c))))∧(k≤s.length)∧(∀ i,i < k→conB c (nth s i)=false)) ?_ ?_
 ·
  refine ⟨_,0,1,rfl,rfl,rfl,(Eq.trans (@rfl V (V.ms 5 1 0 (0))) (by rfl)),(Eq.trans (@rfl V (iV (0:Int))) rfl),(Eq.trans (@rfl Blk (bz 1 22 1 [])) (by rfl)),?_,?_⟩
  · omega
  · intro i hi; omega
 intro mm T H ⟨k,v,hmm,t0,t1,t5,t6,h5,hk,hn⟩ Q2 p12 p22 p32
 unfold b114_0
 have hq1:=flt_len (fun d=> !conB d c) s k
 refine W_seq_seq (W_r (R_mv t6 (R_mv t0 (R_len rfl (R_lss rfl rfl (R_e ?_))))))
 refine W_seq_if rfl (fun c3=>?_) fun c3=>?_
 ·
  refine W_seq_skip (W_seq_blockg fun Q4 n4 x4 y4 z4=>(W_seq_seq (W_r (R_mv t1 (R_mv t0 (R_mv t6 (R_idx (i:=k) (@rfl V (V.sl (List.map cCl (s)))) (@rfl V (iV ((k:Nat):Int))) (by omega) rfl ?_)))))))
  refine R_load_pp rfl rfl (R_callk (rcont_pure c ((nth (s) (k)))) rfl (R_e ?_))
  refine W_seq_ifb rfl (fun c5=>?_) (fun c5=>?_)
  ·
   have d1:=put_old (by omega) c5
   refine W_seq_seq (W_r (R_mv t0 (R_mv rfl (R_e (W_seq_ret (y4 _ _ (p22 _ _ ?_)))))))
   refine y1 _ _ ?_
   refine Ret_1 (@rfl V (V.sl (List.map cCl (s)))) (fz_sl ?_ (fun _=>by simp))
   · exact d1
  have d1:=c5
  refine W_seq_skip (W_r (R_mv t0 (R_mv t6 (R_idx (i:=k) (@rfl V (V.sl (List.map cCl (s)))) (@rfl V (iV ((k:Nat):Int))) (by omega) rfl (R_load_pp rfl rfl (R_mv t1 (R_callk (rcont_pure ((nth (s) (k))) c) rfl ?_)))))))
  refine R_notb rfl (R_e ?_)
  refine W_ifb rfl (fun c6=>?_) (fun c6=>?_)
  ·
   have d2:(fun d=> !conB d c) (nth s k)=true:=c6
   refine W_t (R_mv t5 (R_mv t0 (R_mv t6 (R_idx (i:=k) (@rfl V (V.sl (List.map cCl (s)))) (@rfl V (iV ((k:Nat):Int))) (by omega) rfl (R_load_pp rfl rfl (R_bslice rfl rfl (R_append1 (l:=((s.take k).filter (fun d=> !conB d c))) (f:=cCl) (x:=((nth (s) (k)))) (@rfl V (V.ms 5 v 0 (((s.take k).filter (fun d=> !conB d c)).length))) h5 (by rfl) (@rfl V (V.sl [[(V.sl (List.map cF ((nth (s) (k)))))]])) rfl rfl (by omega) (by omega) ?_)))))))
   refine R_mv rfl (R_e (n4 _ _ (.done (W_t (R_mv t6 (R_addN rfl (@rfl V (iV ((1:Nat):Int))) (by omega) (R_mv rfl ?_)))))))
   refine R_e ?_
   refine p12 _ _ _ ?_ ⟨(k+1),(v+1),rfl,t0,t1,(Eq.trans (@rfl V (V.ms 5 (v+1) 0 ((((s.take k).filter (fun d=> !conB d c)).length)+1))) (by (rw [flt_yes (by omega) d2,List.length_append]; rfl))),(Eq.trans (@rfl V (iV ((k+1:Nat):Int))) (by rfl)),(Eq.trans (@rfl Blk (bz (v+1) 22 1 (List.map cCl ((s.take k).filter (fun d=> !conB d c)++[(nth (s) (k))])))) (by (rw [flt_yes (by omega) d2]; done))),?_,?_⟩
   · omega
   · omega
   · intro i hi
     by_cases e:i=k
     · subst e; exact d1
     · exact hn i (by omega)
  have d2: ¬(fun d=> !conB d c) (nth s k)=true:=by simpa using c6
  refine W_skip (n4 _ _ (.done (W_t (R_mv t6 (R_addN rfl (@rfl V (iV ((1:Nat):Int))) (by omega) (R_mv rfl (R_e ?_)))))))
  refine p12 _ _ _ ?_ ⟨(k+1),v,rfl,t0,t1,(Eq.trans t5 (by (rw [flt_no (by omega) d2]; done))),(Eq.trans (@rfl V (iV ((k+1:Nat):Int))) (by rfl)),(Eq.trans h5 (by (rw [flt_no (by omega) d2]; done))),?_,?_⟩
  · omega
  · omega
  · intro i hi
    by_cases e:i=k
    · subst e; exact d1
    · exact hn i (by omega)
 refine W_seq_exit (p32 _ _ _ (x1 _ _ (.done (W_r (R_mv t5 (R_mv t1 (R_bslice rfl rfl ?_)))))))
 refine R_append1 (l:=((s.take k).filter (fun d=> !conB d c))) (f:=cCl) (x:=c) (@rfl V (V.ms 5 v 0 (((s.take k).filter (fun d=> !conB d c)).length))) h5 (by rfl) (@rfl V (V.sl [[(V.sl (List.map cF (c)))]])) rfl rfl (by omega) (by omega) (R_mv rfl (R_e (W_ret ?_)))
 refine Ret_1 (@rfl V (V.ms 5 (v+1) 0 ((((s.take k).filter (fun d=> !conB d c)).length)+1))) (fz_ms (@rfl Blk (bz (v+1) 22 1 (List.map cCl ((s.take k).filter (fun d=> !conB d c)++[c])))) (by simp) (l:=((s.take k).filter (fun d=> !conB d c)++[c])) rfl (by simp) (fun _=>by simp) ?_)
 · rw [show k=s.length by omega,List.take_length]; exact put_new (fun i hi=>hn i (by omega))
theorem rtimes_pure (a b:List Cl) (ha: ∀ k,k < a.length→SrtF (nth a k)) (la: ∀ k,k < a.length→(nth a k).length≤536870912) (lb: ∀ k,k < b.length→(nth b k).length≤536870912) (na:a.length≤64) (nb:b.length≤65536):PureC Tryz.prog 113 [(V.sl (List.map cCl (a))),(V.sl (List.map cCl (b)))] (V.sl (List.map cCl (prd a b))):=by
 refine pW Tryz.func113 s113_ok fun hB=>?_
 unfold s113
 dsimp only
 refine W_r (R_mv rfl (R_e (W_r (R_mv rfl (R_e (W_seq_seq ?_))))))
 refine W_seq_g (fun T H=>T 0=(V.sl (List.map cCl (a)))∧T 1=(V.sl (List.map cCl (b)))∧T 5=V.nilsl∧T 6=(iV (0:Int))∧H 22=(⟨0,false,false,0,0,[]⟩:Blk)∧True) ?_ ?_
 ·
  refine R_mv rfl ?_
  exact R_nil ⟨rfl,rfl,rfl,rfl,rfl,trivial⟩
 intro T H ⟨t0,t1,t5,t6,h22,_⟩
 refine G_nil t5 (fork_ (R:=fun T H=>T 0=(V.sl (List.map cCl (a)))∧T 1=(V.sl (List.map cCl (b)))∧T 5=(V.sl [])∧T 6=(iV (0:Int))∧H 22=(⟨0,false,false,0,0,[]⟩:Blk)∧True) ⟨((upd_ne _ _ (by decide)).trans t0),((upd_ne _ _ (by decide)).trans t1),(upd_same _ _ _),((upd_ne _ _ (by decide)).trans t6),h22,trivial⟩ ?_)
 intro T H ⟨t0,t1,t5,t6,h22,_⟩
 refine W_seq_blockg fun Q1 n1 x1 y1 z1=>?_
 refine W_loop (fun mm T H=> ∃ (k:Nat) (v22:Nat),mm=a.length - k∧T 0=(V.sl (List.map cCl (a)))∧T 1=(V.sl (List.map cCl (b)))∧T 5=(V.sl (List.map cCl (prd (a.take k) b)))∧T 6=(iV ((k:Nat):Int))∧(H 22).ver=v22∧(k≤a.length)) ?_ ?_
 ·
  refine ⟨_,0,0,rfl,t0,t1,(Eq.trans t5 (by rfl)),(Eq.trans t6 rfl),(congrArg Blk.ver h22),?_⟩
  · omega
 intro mm T H ⟨k,v22,hmm,t0,t1,t5,t6,h22,hk⟩ Q2 p12 p22 p32
 unfold b113_0
 have hN:=prd_len2 na nb hk
 refine W_seq_seq (W_r (R_mv t6 (R_mv t0 (R_len rfl (R_lss rfl rfl (R_e ?_))))))
 refine W_seq_if rfl (fun c3=>?_) fun c3=>?_
 ·
  refine W_seq_skip (W_seq_blockg fun Q4 n4 x4 y4 z4=>(W_r (R_mv rfl (R_e (W_block fun Q5 n5 x5 y5 z5=>?_)))))
  refine W_loop (fun mm T H=> ∃ (j:Nat) (v22:Nat),mm=b.length - j∧T 0=(V.sl (List.map cCl (a)))∧T 1=(V.sl (List.map cCl (b)))∧T 5=(V.sl (List.map cCl (prC (prd (a.take k) b) (nth a k) (b.take j))))∧T 6=(iV ((k:Nat):Int))∧T 7=(iV ((j:Nat):Int))∧(H 22).ver=v22∧(j≤b.length)) ?_ ?_
  ·
   refine ⟨_,0,v22,rfl,t0,t1,(Eq.trans t5 (by rfl)),t6,(Eq.trans (@rfl V (iV (0:Int))) rfl),h22,?_⟩
   · omega
  intro mm T H ⟨j,v22,hmm,t0,t1,t5,t6,t7,h22,hj⟩ Q6 p16 p26 p36
  unfold b113_1
  have hM:=prC_len (prd (a.take k) b) (nth a k) (b.take j)
  have hM2:(b.take j).length=j:=by rw [List.length_take]; omega
  have hla:k < a.length→(nth a k).length≤536870912:=la k
  have hlb:j < b.length→(nth b j).length≤536870912:=lb j
  refine W_seq_seq (W_r (R_mv t7 (R_mv t1 (R_len rfl (R_lss rfl rfl (R_e ?_))))))
  refine W_seq_if rfl (fun c7=>?_) fun c7=>?_
  ·
   refine W_seq_skip (W_seq_blockg fun Q8 n8 x8 y8 z8=>?_)
   refine W_seq_g (fun T H=>T 0=(V.sl (List.map cCl (a)))∧T 1=(V.sl (List.map cCl (b)))∧T 5=(V.sl (List.map cCl (prC (prd (a.take k) b) (nth a k) (b.take j))))∧T 6=(iV ((k:Nat):Int))∧T 7=(iV ((j:Nat):Int))∧T 8=(V.ms 22 (v22+2) 0 (0+((nth (a) (k))).length))∧H 22=(bz (v22+2) 24 3 (List.map cF ([]++((nth (a) (k))))))∧True) ?_ ?_
   ·
    refine R_lazy (i:=22) (n:=v22) rfl h22 (R_mv t0 (R_mv t6 (R_idx (i:=k) (@rfl V (V.sl (List.map cCl (a)))) (@rfl V (iV ((k:Nat):Int))) (by omega) rfl (R_load_pp rfl rfl (R_appendS (l:=([])) (m:=((nth (a) (k)))) (f:=cF) (@rfl V (V.ms 22 (v22+1) 0 (0))) (show _=(bz (v22+1) 24 3 (List.map cF ([]))) from (@rfl Blk (bz (v22+1) 24 3 []))) (by rfl) (@rfl V (V.sl (List.map cF ((nth (a) (k)))))) cF_len cF_one (by omega) (by omega) (R_mv rfl ?_))))))
    exact R_nil ⟨t0,t1,t5,t6,t7,rfl,rfl,trivial⟩
   intro T H ⟨t0,t1,t5,t6,t7,t8,h22,_⟩
   refine .freeze 22 (.done ?_)
   refine fork_ (R:=fun T H=>T 0=(V.sl (List.map cCl (a)))∧T 1=(V.sl (List.map cCl (b)))∧T 5=(V.sl (List.map cCl (prC (prd (a.take k) b) (nth a k) (b.take j))))∧T 6=(iV ((k:Nat):Int))∧T 7=(iV ((j:Nat):Int))∧T 8=(V.sl (List.map cF ([]++((nth (a) (k))))))∧((H 22).ver=v22+2∧(H 22).live=false)∧True) ⟨(fzT_q t0 rfl),(fzT_q t1 rfl),(fzT_q t5 rfl),(fzT_q t6 rfl),(fzT_q t7 rfl),(fzT_q t8 (fzq_own h22 (by simp) (l:=([]++((nth (a) (k))))) rfl (by simp))),(kill_self (congrArg Blk.ver h22)),trivial⟩ ?_
   intro T H ⟨t0,t1,t5,t6,t7,t8,h22,_⟩
   refine W_seq_seq (W_r (R_mv rfl (R_e (W_seq_blockg fun Q9 n9 x9 y9 z9=>?_))))
   refine W_loop (fun mm T H=> ∃ (q:Nat),mm=(nth b j).length - q∧T 0=(V.sl (List.map cCl (a)))∧T 1=(V.sl (List.map cCl (b)))∧T 5=(V.sl (List.map cCl (prC (prd (a.take k) b) (nth a k) (b.take j))))∧T 6=(iV ((k:Nat):Int))∧T 7=(iV ((j:Nat):Int))∧T 8=(V.sl (List.map cF (unF (nth a k) ((nth b j).take q))))∧T 9=(iV ((q:Nat):Int))∧((H 22).ver=v22+2∧(H 22).live=false)∧(q≤(nth b j).length)) ?_ ?_
   ·
    refine ⟨_,0,rfl,t0,t1,t5,t6,t7,(Eq.trans t8 (by rfl)),(Eq.trans (@rfl V (iV (0:Int))) rfl),h22,?_⟩
    · omega
   intro mm T H ⟨q,hmm,t0,t1,t5,t6,t7,t8,t9,h22,hq⟩ Q10 p110 p210 p310
   unfold b113_2
   have hU:=unF_len ((nth b j).take q) (nth a k)
   have hU2:((nth b j).take q).length=q:=by rw [List.length_take]; omega
   refine W_seq_seq (W_r (R_mv t9 (R_mv t1 (R_mv t7 (R_idx (i:=j) (@rfl V (V.sl (List.map cCl (b)))) (@rfl V (iV ((j:Nat):Int))) (by omega) rfl (R_load_pp rfl rfl (R_len rfl ?_)))))))
   refine R_lss rfl rfl (R_e ?_)
   refine W_seq_if rfl (fun c11=>?_) fun c11=>?_
   ·
    refine W_seq_skip (W_seq_blockg fun Q12 n12 x12 y12 z12=>(W_t (R_mv t8 (R_mv t1 (R_mv t7 (R_idx (i:=j) (@rfl V (V.sl (List.map cCl (b)))) (@rfl V (iV ((j:Nat):Int))) (by omega) rfl (R_load_pp rfl rfl ?_)))))))
    refine R_mv t9 (R_idxu (i:=q) (@rfl V (V.sl (List.map cF ((nth (b) (j)))))) (@rfl V (iV ((q:Nat):Int))) (by omega) (cF_eq _) rfl (R_load_pp rfl rfl (R_callk (rwith_pure (unF (nth a k) ((nth b j).take q)) (((nth ((nth (b) (j))) (q)))) (unF_srt (ha k (by omega))) (by omega)) rfl (R_mv rfl (R_e (n12 _ _ (.done ?_)))))))
    refine W_t (R_mv t9 (R_addN rfl (@rfl V (iV ((1:Nat):Int))) (by omega) (R_mv rfl (R_e ?_))))
    refine p110 _ _ _ ?_ ⟨(q+1),rfl,t0,t1,t5,t6,t7,(Eq.trans (@rfl V (V.sl (List.map cF (insF (((nth ((nth (b) (j))) (q)))) (unF (nth a k) ((nth b j).take q)))))) (by (rw [un_step (by omega)]; done))),(Eq.trans (@rfl V (iV ((q+1:Nat):Int))) (by rfl)),h22,?_⟩
    · omega
    · omega
   refine W_seq_exit (p310 _ _ _ (x9 _ _ (.done (W_t (R_mv t5 (R_mv t8 (R_callk (rput_pure (prC (prd (a.take k) b) (nth a k) (b.take j)) (unF (nth a k) ((nth b j).take q)) (by omega)) rfl ?_)))))))
   refine R_mv rfl (R_e (n8 _ _ (.done (W_t (R_mv t7 (R_addN rfl (@rfl V (iV ((1:Nat):Int))) (by omega) (R_mv rfl ?_)))))))
   refine R_e ?_
   refine p16 _ _ _ ?_ ⟨(j+1),(v22+2),rfl,t0,t1,(Eq.trans (@rfl V (V.sl (List.map cCl (wth (prC (prd (a.take k) b) (nth a k) (b.take j)) (unF (nth a k) ((nth b j).take q)))))) (by (rw [show q=(nth b j).length by omega,List.take_length,prC_step (by omega)]; done))),t6,(Eq.trans (@rfl V (iV ((j+1:Nat):Int))) (by rfl)),(h22).1,?_⟩
   · omega
   · omega
  refine W_seq_exit (p36 _ _ _ (x5 _ _ (n4 _ _ (.done (W_t (R_mv t6 (R_addN rfl (@rfl V (iV ((1:Nat):Int))) (by omega) ?_)))))))
  refine R_mv rfl (R_e ?_)
  refine p12 _ _ _ ?_ ⟨(k+1),v22,rfl,t0,t1,(Eq.trans t5 (by (rw [prd_step (by omega),show j=b.length by omega,List.take_length]; done))),(Eq.trans (@rfl V (iV ((k+1:Nat):Int))) (by rfl)),h22,?_⟩
  · omega
  · omega
 refine W_seq_exit (p32 _ _ _ (x1 _ _ (.done (W_r (R_mv t5 (R_mv rfl (R_e ?_)))))))
 refine W_ret ?_
 refine Ret_1 (@rfl V (V.sl (List.map cCl (prd (a.take k) b)))) (fz_sl ?_ (fun _=>by simp))
 · rw [show k=a.length by omega,List.take_length]
set_option maxHeartbeats 2000000 in
theorem rset_pure_step (f:Fm) (hok:okF f=true) (hz:f.sz≤268435456) (ih: ∀ (g:Fm),g.sz < f.sz→okF g=true→g.sz≤268435456→PureC Tryz.prog 92 [(V.agg [(iV (g.op)),(iV (g.arg)),(V.sl (List.map cF (g.kids)))])] (V.tup [(V.sl (List.map cCl (rsV g))),(V.bool (clB g))])):PureC Tryz.prog 92 [(V.agg [(iV (f.op)),(iV (f.arg)),(V.sl (List.map cF (f.kids)))])] (V.tup [(V.sl (List.map cCl (rsV f))),(V.bool (clB f))]):=by
 refine pW Tryz.func92 s92_ok fun hB=>?_
 unfold s92
 dsimp only
 have hp:=okF_parts hok
 have hr:=rgt_ok hp.1
 have hln:=f.sz_len
 have hsz:=Fm.sz_eq f
 refine W_r (R_box (i:=1) (n:=0) (m:=3) (cs:=[(iV (f.op)),(iV (f.arg)),(V.sl (List.map cF (f.kids)))]) rfl (congrArg Blk.ver rfl) rfl rfl rfl (R_mv rfl (R_mv rfl (R_e (W_seq_seq (W_r (R_fk rfl rfl ?_)))))))
 refine R_lk rfl rfl rfl rfl (R_e (W_seq_blockg fun Q1 n1 x1 y1 z1=>(W_r (R_eql rfl rfl (R_mv rfl (R_e ?_))))))
 refine W_if rfl (fun c2=>?_) fun c2=>?_
 ·
  refine W_r (R_bslice rfl rfl (R_mv rfl (R_mv rfl (R_e (W_ret (y1 _ _ ?_))))))
  refine Ret_2 (@rfl V (V.sl [[V.nilsl]])) (@rfl V (V.bool true)) ?_ (fz_bool ?_)
  · rw [(rs_some (f:=f) (by omega) (cls_1 (by omega))).1]; simp [fzv,cCl]
  · rw [(rs_some (f:=f) (by omega) (cls_1 (by omega))).2]
 refine W_r (R_eql rfl rfl (R_mv rfl (R_e ?_)))
 refine W_if rfl (fun c3=>?_) fun c3=>?_
 ·
  refine W_seq_seq (W_r (R_fk rfl rfl (R_lk rfl rfl rfl rfl (R_idxu (i:=0) (@rfl V (V.sl (List.map cF (f.kids)))) (@rfl V (iV ((0:Nat):Int))) (by omega) (cF_eq _) rfl (R_fld_pp (cs':=[(iV (((nth (f.kids) (0))).op)),(iV (((nth (f.kids) (0))).arg)),(V.sl (List.map cF (((nth (f.kids) (0))).kids)))]) rfl rfl (R_load_pp rfl rfl (R_eql rfl rfl ?_)))))))
  refine R_e ?_
  refine W_seq_if rfl (fun c4=>?_) fun c4=>?_
  ·
   refine W_seq_seq (W_r (R_mv rfl (R_mv rfl (R_e (W_seq_ret (y1 _ _ ?_))))))
   refine Ret_2 (@rfl V V.nilsl) (@rfl V (V.bool true)) (fz_nil ?_) (fz_bool ?_)
   · rw [(rs_some (f:=f) (by omega) (cls_4 (by omega) (by omega))).1]
   · rw [(rs_some (f:=f) (by omega) (cls_4 (by omega) (by omega))).2]
  refine W_seq_skip (W_r (R_lk rfl rfl rfl rfl (R_bslice rfl rfl (R_bslice rfl rfl (R_mv rfl (R_mv rfl (R_e ?_)))))))
  refine W_ret (y1 _ _ ?_)
  refine Ret_2 (@rfl V (V.sl [[(V.sl [[(iV (f.op)),(iV (f.arg)),(V.sl (List.map cF (f.kids)))]])]])) (@rfl V (V.bool true)) (fz_canon (by simp) ?_) (fz_bool ?_)
  · rw [(rs_some (f:=f) (by omega) (cls_4n (by omega) (by omega))).1]; simp [cCl,cF_eq]
  · rw [(rs_some (f:=f) (by omega) (cls_4n (by omega) (by omega))).2]
 refine W_seq_seq (W_r (R_eql rfl rfl (R_mv rfl (R_e ?_))))
 refine W_seq_if rfl (fun c5=>?_) fun c5=>?_
 ·
  refine W_seq_skip ?_
  refine W_if rfl (fun c6=>?_) fun c6=>?_
  ·
   refine W_r (R_mv rfl (R_e (W_seq_seq ?_)))
   refine W_seq_g (fun T H=>T 1=(V.mp 1 1 0 0)∧T 4=V.nilsl∧T 5=(iV (0:Int))∧H 1=(bk 1 24 3 [[(iV (f.op)),(iV (f.arg)),(V.sl (List.map cF (f.kids)))]])∧H 9=(⟨0,false,false,0,0,[]⟩:Blk)∧H 11=(⟨0,false,false,0,0,[]⟩:Blk)∧H 709=(⟨0,false,false,0,0,[]⟩:Blk)∧True) ?_ ?_
   ·
    refine R_mv rfl ?_
    exact R_nil ⟨rfl,rfl,rfl,rfl,rfl,rfl,rfl,trivial⟩
   intro T H ⟨t1,t4,t5,h1,h9,h11,h709,_⟩
   refine G_nil t4 (fork_ (R:=fun T H=>T 1=(V.mp 1 1 0 0)∧T 4=(V.sl [])∧T 5=(iV (0:Int))∧H 1=(bk 1 24 3 [[(iV (f.op)),(iV (f.arg)),(V.sl (List.map cF (f.kids)))]])∧H 9=(⟨0,false,false,0,0,[]⟩:Blk)∧H 11=(⟨0,false,false,0,0,[]⟩:Blk)∧H 709=(⟨0,false,false,0,0,[]⟩:Blk)∧True) ⟨((upd_ne _ _ (by decide)).trans t1),(upd_same _ _ _),((upd_ne _ _ (by decide)).trans t5),h1,h9,h11,h709,trivial⟩ ?_)
   intro T H ⟨t1,t4,t5,h1,h9,h11,h709,_⟩
   refine W_seq_blockg fun Q7 n7 x7 y7 z7=>?_
   refine W_loop (fun mm T H=> ∃ (k:Nat) (out:List Cl),mm=f.kids.length - k∧T 1=(V.mp 1 1 0 0)∧T 4=(V.sl (List.map cCl (out)))∧T 5=(iV ((k:Nat):Int))∧H 1=(bk 1 24 3 [[(iV (f.op)),(iV (f.arg)),(V.sl (List.map cF (f.kids)))]])∧H 9=(⟨0,false,false,0,0,[]⟩:Blk)∧H 11=(⟨0,false,false,0,0,[]⟩:Blk)∧H 709=(⟨0,false,false,0,0,[]⟩:Blk)∧(k≤f.kids.length)∧(out.length≤4096*(k+1))∧(f.op=5→0 < k→GdS out∧CLen (Fm.szs (f.kids.take k)) out∧cjL f.kids [[]]=cjL (f.kids.drop k) out)∧(f.op=6→djO f.kids []=djO (f.kids.drop k) out)) ?_ ?_
   ·
    refine ⟨_,0,[],rfl,t1,(Eq.trans t4 (by rfl)),(Eq.trans t5 rfl),h1,h9,h11,h709,?_,?_,?_,?_⟩
    · omega
    · exact Nat.zero_le _
    · intro _ q; omega
    · intro _; rfl
   intro mm T H ⟨k,out,hmm,t1,t4,t5,h1,h9,h11,h709,hk,hn,h5,h6⟩ Q8 p18 p28 p38
   unfold b92_0
   refine W_seq_seq (W_r (R_mv t5 (R_fk t1 h1 (R_lk rfl h1 rfl rfl (R_len rfl (R_lss rfl rfl (R_e ?_)))))))
   refine W_seq_if rfl (fun c9=>?_) fun c9=>?_
   ·
    refine W_seq_skip (W_seq_blockg fun Q10 n10 x10 y10 z10=>(W_r (R_fk t1 h1 (R_lk rfl h1 rfl rfl (R_mv t5 (R_idxu (i:=k) (@rfl V (V.sl (List.map cF (f.kids)))) (@rfl V (iV ((k:Nat):Int))) (by omega) (cF_eq _) rfl (R_load_pp rfl rfl ?_)))))))
    refine R_callk (ih (((nth (f.kids) (k)))) (Fm.sz_kid (by omega)) (hp.2 _ (by omega)) (Nat.le_trans (Nat.le_of_lt (Fm.sz_kid (by omega))) hz)) rfl (R_mv rfl (R_ext rfl rfl (R_ext rfl rfl (R_mv rfl (R_mv rfl (R_e (W_seq_seq ?_)))))))
    refine W_r (R_mv rfl (R_notb rfl (R_e ?_)))
    refine W_seq_ifb rfl (fun c11=>?_) (fun c11=>?_)
    ·
     have d0:clB (nth f.kids k)=false:=by simpa using c11
     have d9:=rs_bad (by omega) (by omega) h5 h6 d0
     refine W_seq_seq (W_r (R_mv rfl (R_mv rfl (R_e (W_seq_ret (y10 _ _ (p28 _ _ ?_)))))))
     refine y7 _ _ (y1 _ _ ?_)
     refine Ret_2 (@rfl V V.nilsl) (@rfl V (V.bool false)) (fz_nil ?_) (fz_bool ?_)
     · rw [d9.1]
     · rw [d9.2]
    have d0:clB (nth f.kids k)=true:=by simpa using c11
    have g1:=rs_kid hok (show k < f.kids.length by omega) d0
    refine W_seq_skip (W_seq_seq (W_r (R_mv t5 (R_eql rfl rfl (R_e ?_)))))
    refine W_seq_if rfl (fun c12=>?_) fun c12=>?_
    ·
     have n5:f.op=5→Rs5 f k (rsV (nth f.kids k)):=fun _=>rs5_first hok (by omega) (by omega) d0
     have n6:f.op=6→djO f.kids []=djO (f.kids.drop (k+1)) (rsV (nth f.kids k)):=fun _=>rs6_first hok (by omega) (by omega) d0
     have nl:(rsV (nth f.kids k)).length≤4096*(k+1+1):=by have:=g1.2.1.len; omega
     refine W_r (R_mv rfl (R_mv rfl (R_e (W_r (R_fk t1 h1 (R_lk rfl h1 rfl rfl (R_eql rfl rfl ?_)))))))
     refine R_mv rfl ?_
     refine Ops_seg 4 (fun T H=>T 1=(V.mp 1 1 0 0)∧T 4=(V.sl (List.map cCl (rsV (((nth (f.kids) (k)))))))∧T 5=(iV ((k:Nat):Int))∧T 78=(V.bool (decide (((f.op)=(5:Int))∧((64:Int) < (((rsV (((nth (f.kids) (k))))).length:Nat):Int)))))∧H 1=(bk 1 24 3 [[(iV (f.op)),(iV (f.arg)),(V.sl (List.map cF (f.kids)))]])∧H 9=(⟨0,false,false,0,0,[]⟩:Blk)∧H 11=(⟨0,false,false,0,0,[]⟩:Blk)∧H 709=(⟨0,false,false,0,0,[]⟩:Blk)∧True) ?_ ?_
     ·
      by_cases g13:(f.op)=(5:Int)
      ·
       refine G_yes (edT g13 rfl) (R_mv rfl (G_yes (edT g13 rfl) (R_len rfl (G_yes (edT g13 rfl) (R_gtr rfl rfl (R_pickT (edT g13 rfl) rfl ?_))))))
       exact ⟨t1,rfl,t5,(dec_andT g13),h1,h9,h11,h709,trivial⟩
      ·
       refine G_n (edF g13 rfl) (G_n (edF g13 rfl) (G_n (edF g13 rfl) (R_pickF (edF g13 rfl) rfl ?_)))
       exact ⟨t1,rfl,t5,(dec_andF g13),h1,h9,h11,h709,trivial⟩
     intro T H ⟨t1,t4,t5,t78,h1,h9,h11,h709,_⟩
     refine R_e ?_
     refine W_if t78 (fun c14=>?_) fun c14=>?_
     ·
      have d9:=rs_none (f:=f) (rs5_fail (by omega) (n5 (by omega)) (by omega)) (fun q=>absurd q (by omega))
      refine W_r (R_mv rfl (R_mv rfl (R_e (W_ret (y10 _ _ (p28 _ _ (y7 _ _ ?_)))))))
      refine y1 _ _ ?_
      refine Ret_2 (@rfl V V.nilsl) (@rfl V (V.bool false)) (fz_nil ?_) (fz_bool ?_)
      · rw [d9.1]
      · rw [d9.2]
     have d78:=c14
     refine W_skip (n10 _ _ (.done (W_t (R_mv t5 (R_addN rfl (@rfl V (iV ((1:Nat):Int))) (by omega) (R_mv rfl (R_e ?_)))))))
     refine p18 _ _ _ ?_ ⟨(k+1),(rsV (((nth (f.kids) (k))))),rfl,t1,(Eq.trans t4 (by rfl)),(Eq.trans (@rfl V (iV ((k+1:Nat):Int))) (by rfl)),h1,h9,h11,h709,?_,?_,?_,?_⟩
     · omega
     · omega
     · exact nl
     · intro q1 _; exact rs5_next (n5 q1) (fun e=>d78 ⟨q1,by omega⟩)
     · exact n6
    refine W_seq_seq (W_r (R_fk t1 h1 (R_lk rfl h1 rfl rfl (R_eql rfl rfl (R_e ?_)))))
    refine W_seq_if rfl (fun c15=>?_) fun c15=>?_
    ·
     have h5x:=h5 (by omega) (by omega)
     have n5:f.op=5→Rs5 f k (prd out (rsV (nth f.kids k))):=fun _=>rs5_step hok (by omega) h5x.1 h5x.2.1 h5x.2.2 d0
     have n6:f.op=6→djO f.kids []=djO (f.kids.drop (k+1)) (prd out (rsV (nth f.kids k))):=fun q=>absurd q (by omega)
     have nl:(prd out (rsV (nth f.kids k))).length≤4096*(k+1+1):=by have q:=prd_len64 h5x.1.len g1.2.1.len; omega
     refine W_r (R_mv t4 (R_mv rfl (R_callk (rtimes_pure out (rsV (((nth (f.kids) (k))))) (fun q hq=>h5x.1.ant.at_ hq) (fun q hq=>Nat.le_trans (h5x.2.1.at_ hq) (by have:=szs_take_le f.kids k; omega)) (fun q hq=>Nat.le_trans (g1.2.2.at_ hq) (by have:=Fm.szs_nth (l:=f.kids) (k:=k) (by omega); omega)) h5x.1.len (Nat.le_trans g1.2.1.len (by decide))) rfl (R_mv rfl (R_e (W_r (R_fk t1 h1 ?_)))))))
     refine R_lk rfl h1 rfl rfl (R_eql rfl rfl (R_mv rfl ?_))
     refine Ops_seg 4 (fun T H=>T 1=(V.mp 1 1 0 0)∧T 4=(V.sl (List.map cCl (prd out (rsV (((nth (f.kids) (k))))))))∧T 5=(iV ((k:Nat):Int))∧T 78=(V.bool (decide (((f.op)=(5:Int))∧((64:Int) < (((prd out (rsV (((nth (f.kids) (k)))))).length:Nat):Int)))))∧H 1=(bk 1 24 3 [[(iV (f.op)),(iV (f.arg)),(V.sl (List.map cF (f.kids)))]])∧H 9=(⟨0,false,false,0,0,[]⟩:Blk)∧H 11=(⟨0,false,false,0,0,[]⟩:Blk)∧H 709=(⟨0,false,false,0,0,[]⟩:Blk)∧True) ?_ ?_
     ·
      by_cases g16:(f.op)=(5:Int)
      ·
       refine G_yes (edT g16 rfl) (R_mv rfl (G_yes (edT g16 rfl) (R_len rfl (G_yes (edT g16 rfl) (R_gtr rfl rfl (R_pickT (edT g16 rfl) rfl ?_))))))
       exact ⟨t1,rfl,t5,(dec_andT g16),h1,h9,h11,h709,trivial⟩
      ·
       refine G_n (edF g16 rfl) (G_n (edF g16 rfl) (G_n (edF g16 rfl) (R_pickF (edF g16 rfl) rfl ?_)))
       exact ⟨t1,rfl,t5,(dec_andF g16),h1,h9,h11,h709,trivial⟩
     intro T H ⟨t1,t4,t5,t78,h1,h9,h11,h709,_⟩
     refine R_e ?_
     refine W_if t78 (fun c17=>?_) fun c17=>?_
     ·
      have d9:=rs_none (f:=f) (rs5_fail (by omega) (n5 (by omega)) (by omega)) (fun q=>absurd q (by omega))
      refine W_r (R_mv rfl (R_mv rfl (R_e (W_ret (y10 _ _ (p28 _ _ (y7 _ _ ?_)))))))
      refine y1 _ _ ?_
      refine Ret_2 (@rfl V V.nilsl) (@rfl V (V.bool false)) (fz_nil ?_) (fz_bool ?_)
      · rw [d9.1]
      · rw [d9.2]
     have d78:=c17
     refine W_skip (n10 _ _ (.done (W_t (R_mv t5 (R_addN rfl (@rfl V (iV ((1:Nat):Int))) (by omega) (R_mv rfl (R_e ?_)))))))
     refine p18 _ _ _ ?_ ⟨(k+1),(prd out (rsV (((nth (f.kids) (k)))))),rfl,t1,(Eq.trans t4 (by rfl)),(Eq.trans (@rfl V (iV ((k+1:Nat):Int))) (by rfl)),h1,h9,h11,h709,?_,?_,?_,?_⟩
     · omega
     · omega
     · exact nl
     · intro q1 _; exact rs5_next (n5 q1) (fun e=>d78 ⟨q1,by omega⟩)
     · exact n6
    · exact (c15 c6).elim
   have d8:rsV f=out∧clB f=decide (out.length≤64):=rs_end hr (by omega) h5 h6 (by omega)
   refine W_seq_exit (p38 _ _ _ (x7 _ _ (.done (W_r (R_mv t4 (R_mv t4 (R_len rfl ?_)))))))
   refine R_leq rfl rfl (R_mv rfl (R_mv rfl (R_e (W_ret (y1 _ _ ?_)))))
   refine Ret_2 (@rfl V (V.sl (List.map cCl (out)))) (@rfl V (V.bool (decide (((out.length:Nat):Int)≤(64:Int))))) (fz_sl ?_ (fun _=>by simp)) (fz_bool ?_)
   · rw [d8.1]
   · rw [d8.2]; exact decide_eq_decide.2 (by omega)
  · exact (c6 c5).elim
 refine W_r (R_eql rfl rfl (R_mv rfl (R_e ?_)))
 refine W_if rfl (fun c18=>?_) fun c18=>?_
 ·
  refine W_r (R_mv rfl (R_e (W_seq_seq ?_)))
  refine W_seq_g (fun T H=>T 1=(V.mp 1 1 0 0)∧T 4=V.nilsl∧T 5=(iV (0:Int))∧H 1=(bk 1 24 3 [[(iV (f.op)),(iV (f.arg)),(V.sl (List.map cF (f.kids)))]])∧H 9=(⟨0,false,false,0,0,[]⟩:Blk)∧H 11=(⟨0,false,false,0,0,[]⟩:Blk)∧H 709=(⟨0,false,false,0,0,[]⟩:Blk)∧True) ?_ ?_
  ·
   refine R_mv rfl ?_
   exact R_nil ⟨rfl,rfl,rfl,rfl,rfl,rfl,rfl,trivial⟩
  intro T H ⟨t1,t4,t5,h1,h9,h11,h709,_⟩
  refine G_nil t4 (fork_ (R:=fun T H=>T 1=(V.mp 1 1 0 0)∧T 4=(V.sl [])∧T 5=(iV (0:Int))∧H 1=(bk 1 24 3 [[(iV (f.op)),(iV (f.arg)),(V.sl (List.map cF (f.kids)))]])∧H 9=(⟨0,false,false,0,0,[]⟩:Blk)∧H 11=(⟨0,false,false,0,0,[]⟩:Blk)∧H 709=(⟨0,false,false,0,0,[]⟩:Blk)∧True) ⟨((upd_ne _ _ (by decide)).trans t1),(upd_same _ _ _),((upd_ne _ _ (by decide)).trans t5),h1,h9,h11,h709,trivial⟩ ?_)
  intro T H ⟨t1,t4,t5,h1,h9,h11,h709,_⟩
  refine W_seq_blockg fun Q19 n19 x19 y19 z19=>?_
  refine W_loop (fun mm T H=> ∃ (k:Nat) (out:List Cl),mm=f.kids.length - k∧T 1=(V.mp 1 1 0 0)∧T 4=(V.sl (List.map cCl (out)))∧T 5=(iV ((k:Nat):Int))∧H 1=(bk 1 24 3 [[(iV (f.op)),(iV (f.arg)),(V.sl (List.map cF (f.kids)))]])∧H 9=(⟨0,false,false,0,0,[]⟩:Blk)∧H 11=(⟨0,false,false,0,0,[]⟩:Blk)∧H 709=(⟨0,false,false,0,0,[]⟩:Blk)∧(k≤f.kids.length)∧(out.length≤4096*(k+1))∧(f.op=5→0 < k→GdS out∧CLen (Fm.szs (f.kids.take k)) out∧cjL f.kids [[]]=cjL (f.kids.drop k) out)∧(f.op=6→djO f.kids []=djO (f.kids.drop k) out)) ?_ ?_
  ·
   refine ⟨_,0,[],rfl,t1,(Eq.trans t4 (by rfl)),(Eq.trans t5 rfl),h1,h9,h11,h709,?_,?_,?_,?_⟩
   · omega
   · exact Nat.zero_le _
   · intro _ q; omega
   · intro _; rfl
  intro mm T H ⟨k,out,hmm,t1,t4,t5,h1,h9,h11,h709,hk,hn,h5,h6⟩ Q20 p120 p220 p320
  unfold b92_0
  refine W_seq_seq (W_r (R_mv t5 (R_fk t1 h1 (R_lk rfl h1 rfl rfl (R_len rfl (R_lss rfl rfl (R_e ?_)))))))
  refine W_seq_if rfl (fun c21=>?_) fun c21=>?_
  ·
   refine W_seq_skip (W_seq_blockg fun Q22 n22 x22 y22 z22=>(W_r (R_fk t1 h1 (R_lk rfl h1 rfl rfl (R_mv t5 (R_idxu (i:=k) (@rfl V (V.sl (List.map cF (f.kids)))) (@rfl V (iV ((k:Nat):Int))) (by omega) (cF_eq _) rfl (R_load_pp rfl rfl ?_)))))))
   refine R_callk (ih (((nth (f.kids) (k)))) (Fm.sz_kid (by omega)) (hp.2 _ (by omega)) (Nat.le_trans (Nat.le_of_lt (Fm.sz_kid (by omega))) hz)) rfl (R_mv rfl (R_ext rfl rfl (R_ext rfl rfl (R_mv rfl (R_mv rfl (R_e (W_seq_seq ?_)))))))
   refine W_r (R_mv rfl (R_notb rfl (R_e ?_)))
   refine W_seq_ifb rfl (fun c23=>?_) (fun c23=>?_)
   ·
    have d0:clB (nth f.kids k)=false:=by simpa using c23
    have d9:=rs_bad (by omega) (by omega) h5 h6 d0
    refine W_seq_seq (W_r (R_mv rfl (R_mv rfl (R_e (W_seq_ret (y22 _ _ (p220 _ _ ?_)))))))
    refine y19 _ _ (y1 _ _ ?_)
    refine Ret_2 (@rfl V V.nilsl) (@rfl V (V.bool false)) (fz_nil ?_) (fz_bool ?_)
    · rw [d9.1]
    · rw [d9.2]
   have d0:clB (nth f.kids k)=true:=by simpa using c23
   have g1:=rs_kid hok (show k < f.kids.length by omega) d0
   refine W_seq_skip (W_seq_seq (W_r (R_mv t5 (R_eql rfl rfl (R_e ?_)))))
   refine W_seq_if rfl (fun c24=>?_) fun c24=>?_
   ·
    have n5:f.op=5→Rs5 f k (rsV (nth f.kids k)):=fun _=>rs5_first hok (by omega) (by omega) d0
    have n6:f.op=6→djO f.kids []=djO (f.kids.drop (k+1)) (rsV (nth f.kids k)):=fun _=>rs6_first hok (by omega) (by omega) d0
    have nl:(rsV (nth f.kids k)).length≤4096*(k+1+1):=by have:=g1.2.1.len; omega
    refine W_r (R_mv rfl (R_mv rfl (R_e (W_r (R_fk t1 h1 (R_lk rfl h1 rfl rfl (R_eql rfl rfl ?_)))))))
    refine R_mv rfl ?_
    refine Ops_seg 4 (fun T H=>T 1=(V.mp 1 1 0 0)∧T 4=(V.sl (List.map cCl (rsV (((nth (f.kids) (k)))))))∧T 5=(iV ((k:Nat):Int))∧T 78=(V.bool (decide (((f.op)=(5:Int))∧((64:Int) < (((rsV (((nth (f.kids) (k))))).length:Nat):Int)))))∧H 1=(bk 1 24 3 [[(iV (f.op)),(iV (f.arg)),(V.sl (List.map cF (f.kids)))]])∧H 9=(⟨0,false,false,0,0,[]⟩:Blk)∧H 11=(⟨0,false,false,0,0,[]⟩:Blk)∧H 709=(⟨0,false,false,0,0,[]⟩:Blk)∧True) ?_ ?_
    ·
     by_cases g25:(f.op)=(5:Int)
     ·
      refine G_yes (edT g25 rfl) (R_mv rfl (G_yes (edT g25 rfl) (R_len rfl (G_yes (edT g25 rfl) (R_gtr rfl rfl (R_pickT (edT g25 rfl) rfl ?_))))))
      exact ⟨t1,rfl,t5,(dec_andT g25),h1,h9,h11,h709,trivial⟩
     ·
      refine G_n (edF g25 rfl) (G_n (edF g25 rfl) (G_n (edF g25 rfl) (R_pickF (edF g25 rfl) rfl ?_)))
      exact ⟨t1,rfl,t5,(dec_andF g25),h1,h9,h11,h709,trivial⟩
    intro T H ⟨t1,t4,t5,t78,h1,h9,h11,h709,_⟩
    refine R_e ?_
    refine W_if t78 (fun c26=>?_) fun c26=>?_
    ·
     have d9:=rs_none (f:=f) (rs5_fail (by omega) (n5 (by omega)) (by omega)) (fun q=>absurd q (by omega))
     refine W_r (R_mv rfl (R_mv rfl (R_e (W_ret (y22 _ _ (p220 _ _ (y19 _ _ ?_)))))))
     refine y1 _ _ ?_
     refine Ret_2 (@rfl V V.nilsl) (@rfl V (V.bool false)) (fz_nil ?_) (fz_bool ?_)
     · rw [d9.1]
     · rw [d9.2]
    have d78:=c26
    refine W_skip (n22 _ _ (.done (W_t (R_mv t5 (R_addN rfl (@rfl V (iV ((1:Nat):Int))) (by omega) (R_mv rfl (R_e ?_)))))))
    refine p120 _ _ _ ?_ ⟨(k+1),(rsV (((nth (f.kids) (k))))),rfl,t1,(Eq.trans t4 (by rfl)),(Eq.trans (@rfl V (iV ((k+1:Nat):Int))) (by rfl)),h1,h9,h11,h709,?_,?_,?_,?_⟩
    · omega
    · omega
    · exact nl
    · intro q1 _; exact rs5_next (n5 q1) (fun e=>d78 ⟨q1,by omega⟩)
    · exact n6
   refine W_seq_seq (W_r (R_fk t1 h1 (R_lk rfl h1 rfl rfl (R_eql rfl rfl (R_e ?_)))))
   refine W_seq_if rfl (fun c27=>?_) fun c27=>?_
   · exact (c5 c27).elim
   refine W_seq_seq (W_r (R_mv rfl (R_e (W_seq_blockg fun Q28 n28 x28 y28 z28=>?_))))
   refine W_loop (fun mm T H=> ∃ (j:Nat),mm=(rsV (nth f.kids k)).length - j∧T 1=(V.mp 1 1 0 0)∧T 4=(V.sl (List.map cCl (wths out ((rsV (nth f.kids k)).take j))))∧T 5=(iV ((k:Nat):Int))∧T 6=(V.sl (List.map cCl (rsV (((nth (f.kids) (k)))))))∧T 8=(iV ((j:Nat):Int))∧H 1=(bk 1 24 3 [[(iV (f.op)),(iV (f.arg)),(V.sl (List.map cF (f.kids)))]])∧H 9=(⟨0,false,false,0,0,[]⟩:Blk)∧H 11=(⟨0,false,false,0,0,[]⟩:Blk)∧H 709=(⟨0,false,false,0,0,[]⟩:Blk)∧(j≤(rsV (nth f.kids k)).length)) ?_ ?_
   ·
    refine ⟨_,0,rfl,t1,(Eq.trans t4 (by rfl)),t5,rfl,(Eq.trans (@rfl V (iV (0:Int))) rfl),h1,h9,h11,h709,?_⟩
    · omega
   intro mm T H ⟨j,hmm,t1,t4,t5,t6,t8,h1,h9,h11,h709,hj⟩ Q29 p129 p229 p329
   unfold b92_1
   have hW:=wthsT_len out (rsV (nth f.kids k)) j
   have hG:=g1.2.1.len
   refine W_seq_seq (W_r (R_mv t8 (R_mv t6 (R_len rfl (R_lss rfl rfl (R_e ?_))))))
   refine W_seq_if rfl (fun c30=>?_) fun c30=>?_
   ·
    refine W_seq_skip (W_seq_blockg fun Q31 n31 x31 y31 z31=>(W_t (R_mv t4 (R_mv t6 (R_mv t8 (R_idx (i:=j) (@rfl V (V.sl (List.map cCl (rsV (((nth (f.kids) (k)))))))) (@rfl V (iV ((j:Nat):Int))) (by omega) rfl (R_load_pp rfl rfl ?_)))))))
    refine R_callk (rput_pure (wths out ((rsV (nth f.kids k)).take j)) ((nth (rsV (((nth (f.kids) (k))))) (j))) (by omega)) rfl (R_mv rfl (R_e (n31 _ _ (.done (W_t (R_mv t8 (R_addN rfl (@rfl V (iV ((1:Nat):Int))) (by omega) ?_)))))))
    refine R_mv rfl (R_e ?_)
    refine p129 _ _ _ ?_ ⟨(j+1),rfl,t1,(Eq.trans (@rfl V (V.sl (List.map cCl (wth (wths out ((rsV (nth f.kids k)).take j)) ((nth (rsV (((nth (f.kids) (k))))) (j))))))) (by (rw [wths_step (by omega)]; done))),t5,t6,(Eq.trans (@rfl V (iV ((j+1:Nat):Int))) (by rfl)),h1,h9,h11,h709,?_⟩
    · omega
    · omega
   have hj2:(rsV (nth f.kids k)).take j=(rsV (nth f.kids k)):=by rw [show j=(rsV (nth f.kids k)).length by omega,List.take_length]
   have n5:f.op=5→Rs5 f k (wths out ((rsV (nth f.kids k)).take j)):=fun q=>absurd q (by omega)
   have n6:f.op=6→djO f.kids []=djO (f.kids.drop (k+1)) (wths out ((rsV (nth f.kids k)).take j)):=fun q=>by rw [hj2]; exact rs6_step (by omega) (h6 q) d0
   have nl:(wths out ((rsV (nth f.kids k)).take j)).length≤4096*(k+1+1):=by omega
   refine W_seq_exit (p329 _ _ _ (x28 _ _ (.done (W_r (R_fk t1 h1 (R_lk rfl h1 rfl rfl (R_eql rfl rfl ?_)))))))
   refine R_mv rfl ?_
   refine Ops_seg 4 (fun T H=>T 1=(V.mp 1 1 0 0)∧T 4=(V.sl (List.map cCl (wths out ((rsV (nth f.kids k)).take j))))∧T 5=(iV ((k:Nat):Int))∧T 78=(V.bool (decide (((f.op)=(5:Int))∧((64:Int) < (((wths out ((rsV (nth f.kids k)).take j)).length:Nat):Int)))))∧H 1=(bk 1 24 3 [[(iV (f.op)),(iV (f.arg)),(V.sl (List.map cF (f.kids)))]])∧H 9=(⟨0,false,false,0,0,[]⟩:Blk)∧H 11=(⟨0,false,false,0,0,[]⟩:Blk)∧H 709=(⟨0,false,false,0,0,[]⟩:Blk)∧True) ?_ ?_
   ·
    by_cases g32:(f.op)=(5:Int)
    ·
     refine G_yes (edT g32 rfl) (R_mv t4 (G_yes (edT g32 rfl) (R_len rfl (G_yes (edT g32 rfl) (R_gtr rfl rfl (R_pickT (edT g32 rfl) rfl ?_))))))
     exact ⟨t1,t4,t5,(dec_andT g32),h1,h9,h11,h709,trivial⟩
    ·
     refine G_n (edF g32 rfl) (G_n (edF g32 rfl) (G_n (edF g32 rfl) (R_pickF (edF g32 rfl) rfl ?_)))
     exact ⟨t1,t4,t5,(dec_andF g32),h1,h9,h11,h709,trivial⟩
   intro T H ⟨t1,t4,t5,t78,h1,h9,h11,h709,_⟩
   refine R_e ?_
   refine W_if t78 (fun c33=>?_) fun c33=>?_
   ·
    have d9:=rs_none (f:=f) (rs5_fail (by omega) (n5 (by omega)) (by omega)) (fun q=>absurd q (by omega))
    refine W_r (R_mv rfl (R_mv rfl (R_e (W_ret (y22 _ _ (p220 _ _ (y19 _ _ ?_)))))))
    refine y1 _ _ ?_
    refine Ret_2 (@rfl V V.nilsl) (@rfl V (V.bool false)) (fz_nil ?_) (fz_bool ?_)
    · rw [d9.1]
    · rw [d9.2]
   have d78:=c33
   refine W_skip (n22 _ _ (.done (W_t (R_mv t5 (R_addN rfl (@rfl V (iV ((1:Nat):Int))) (by omega) (R_mv rfl (R_e ?_)))))))
   refine p120 _ _ _ ?_ ⟨(k+1),(wths out ((rsV (nth f.kids k)).take j)),rfl,t1,(Eq.trans t4 (by rfl)),(Eq.trans (@rfl V (iV ((k+1:Nat):Int))) (by rfl)),h1,h9,h11,h709,?_,?_,?_,?_⟩
   · omega
   · omega
   · exact nl
   · intro q1 _; exact rs5_next (n5 q1) (fun e=>d78 ⟨q1,by omega⟩)
   · exact n6
  have d8:rsV f=out∧clB f=decide (out.length≤64):=rs_end hr (by omega) h5 h6 (by omega)
  refine W_seq_exit (p320 _ _ _ (x19 _ _ (.done (W_r (R_mv t4 (R_mv t4 (R_len rfl ?_)))))))
  refine R_leq rfl rfl (R_mv rfl (R_mv rfl (R_e (W_ret (y1 _ _ ?_)))))
  refine Ret_2 (@rfl V (V.sl (List.map cCl (out)))) (@rfl V (V.bool (decide (((out.length:Nat):Int)≤(64:Int))))) (fz_sl ?_ (fun _=>by simp)) (fz_bool ?_)
  · rw [d8.1]
  · rw [d8.2]; exact decide_eq_decide.2 (by omega)
 refine W_skip (n1 _ _ (.done (W_r (R_fk rfl rfl (R_lk rfl rfl rfl rfl (R_fk rfl rfl (R_lk rfl rfl rfl rfl ?_)))))))
 refine R_build rfl rfl (R_alloc (i:=9) (n:=0) (m:=3) rfl (congrArg Blk.ver rfl) rfl (R_sk rfl rfl rfl rfl rfl rfl rfl rfl rfl (R_e (W_seq_seq ?_))))
 refine W_seq_g (fun T H=>T 1=(V.mp 1 1 0 0)∧T 9=(V.mp 9 1 0 0)∧T 10=(iV (0:Int))∧H 1=(bk 1 24 3 [[(iV (f.op)),(iV (f.arg)),(V.sl (List.map cF (f.kids)))]])∧H 9=(bk 1 24 3 [[(iV (f.op)),(iV (f.arg)),V.nilsl]])∧H 11=(⟨0,false,false,0,0,[]⟩:Blk)∧H 709=(⟨0,false,false,0,0,[]⟩:Blk)∧True) ?_ ?_
 ·
  refine R_mv rfl ?_
  exact R_nil ⟨rfl,rfl,rfl,rfl,rfl,rfl,rfl,trivial⟩
 intro T H ⟨t1,t9,t10,h1,h9,h11,h709,_⟩
 refine .lazyCell 709 24 3 9 0 2 [(iV (f.op)),(iV (f.arg)),V.nilsl] (by decide) (by rw [h9]; rfl) (by rw [h9]; rfl) rfl (.done ?_)
 refine fork_ (R:=fun T H=>T 1=(V.mp 1 1 0 0)∧T 9=(V.mp 9 1 0 0)∧T 10=(iV (0:Int))∧H 1=(bk 1 24 3 [[(iV (f.op)),(iV (f.arg)),(V.sl (List.map cF (f.kids)))]])∧H 9=(bk 1 24 3 [[(iV (f.op)),(iV (f.arg)),(V.ms 709 1 0 (0))]])∧H 11=(⟨0,false,false,0,0,[]⟩:Blk)∧H 709=(bz 1 24 3 [])∧True) ⟨t1,t9,t10,((upd_ne _ _ (by decide)).trans ((upd_ne _ _ (by decide)).trans h1)),(by rw [upd_same,h9,(congrArg Blk.ver h709)]; rfl),((upd_ne _ _ (by decide)).trans ((upd_ne _ _ (by decide)).trans h11)),(by rw [upd_ne _ _ (by decide),upd_same,(congrArg Blk.ver h709)]),trivial⟩ ?_
 intro T H ⟨t1,t9,t10,h1,h9,h11,h709,_⟩
 refine W_seq_blockg fun Q34 n34 x34 y34 z34=>?_
 refine W_loop (fun mm T H=> ∃ (k:Nat) (w:Nat) (g:List Fm) (v11:Nat),mm=f.kids.length - k∧T 1=(V.mp 1 1 0 0)∧T 9=(V.mp 9 1 0 0)∧T 10=(iV ((k:Nat):Int))∧H 1=(bk 1 24 3 [[(iV (f.op)),(iV (f.arg)),(V.sl (List.map cF (f.kids)))]])∧H 9=(bk 1 24 3 [[(iV (f.op)),(iV (f.arg)),(V.ms 709 w 0 (k))]])∧((H 11).ver=v11∧(H 11).live=false)∧H 709=(bz w 24 3 (List.map cF (g)))∧(k≤f.kids.length)∧(g.length=k)∧(canL f.kids=(canL (f.kids.drop k)).map fun r=>g++r)) ?_ ?_
 ·
  refine ⟨_,0,1,[],0,rfl,t1,t9,(Eq.trans t10 rfl),h1,h9,⟨(congrArg Blk.ver h11),congrArg Blk.live h11⟩,(Eq.trans h709 (by rfl)),?_,?_,?_⟩
  · omega
  · rfl
  · simp
 intro mm T H ⟨k,w,g,v11,hmm,t1,t9,t10,h1,h9,h11,h709,hk,hg,hc⟩ Q35 p135 p235 p335
 unfold b92_2
 refine W_seq_seq (W_r (R_mv t10 (R_fk t1 h1 (R_lk rfl h1 rfl rfl (R_len rfl (R_lss rfl rfl (R_e ?_)))))))
 refine W_seq_if rfl (fun c36=>?_) fun c36=>?_
 ·
  refine W_seq_skip (W_seq_blockg fun Q37 n37 x37 y37 z37=>(W_r (R_fk t1 h1 (R_lk rfl h1 rfl rfl (R_mv t10 (R_idxu (i:=k) (@rfl V (V.sl (List.map cF (f.kids)))) (@rfl V (iV ((k:Nat):Int))) (by omega) (cF_eq _) rfl (R_load_pp rfl rfl ?_)))))))
  refine R_callk (rcan_pure (((nth (f.kids) (k)))) (hp.2 k (by omega)) (Nat.le_trans (Nat.le_of_lt (Fm.sz_kid (by omega))) hz) ((fun k h=>ih (nth f.kids k) (Fm.sz_kid h) (hp.2 k h) (Nat.le_trans (Nat.le_of_lt (Fm.sz_kid h)) hz)) k (by omega))) rfl (R_mv rfl (R_ext rfl rfl (R_ext rfl rfl (R_alloc (i:=11) (n:=v11) (m:=3) rfl (h11).1 rfl (R_sk rfl rfl rfl rfl rfl rfl rfl rfl rfl (R_mv rfl (R_e ?_)))))))
  refine W_seq_seq (W_r (R_mv rfl (R_notb rfl (R_e ?_))))
  refine W_seq_ifb rfl (fun c38=>?_) (fun c38=>?_)
  ·
   have d9:=rs_none (f:=f) (cls_tno (by omega) hc (by omega) (cEB_no (by simpa using c38))) (fun q=>absurd q (by omega))
   refine W_seq_seq (W_r (R_mv rfl (R_mv rfl (R_e (W_seq_ret (y37 _ _ (p235 _ _ ?_)))))))
   refine y34 _ _ ?_
   refine Ret_2 (@rfl V V.nilsl) (@rfl V (V.bool false)) (fz_nil ?_) (fz_bool ?_)
   · rw [d9.1]
   · rw [d9.2]
  have d1:=cls_tgo hc (by omega) (cEB_yes (by simpa using c38))
  refine W_seq_skip (W_t (R_fk t9 h9 (R_lk rfl h9 rfl rfl (R_lk rfl rfl rfl rfl (R_bslice rfl rfl (R_append1 (l:=g) (f:=cF) (x:=((fVal (can (((nth (f.kids) (k)))))))) (@rfl V (V.ms 709 w 0 (k))) h709 (by exact hg.symm) (row_F1 (x:=((fVal (can (((nth (f.kids) (k)))))))) (@rfl V (V.sl [[(iV ((fVal (can (((nth (f.kids) (k)))))).op)),(iV ((fVal (can (((nth (f.kids) (k)))))).arg)),(V.sl (List.map cF ((fVal (can (((nth (f.kids) (k)))))).kids)))]]))) (cF_len _) (cF_one _) (by omega) (by omega) (R_fk t9 h9 ?_)))))))
  refine R_sk rfl rfl rfl h9 rfl rfl rfl rfl rfl (R_e (n37 _ _ (fork_ (R:=fun T H=>T 1=(V.mp 1 1 0 0)∧T 9=(V.mp 9 1 0 0)∧T 10=(iV ((k:Nat):Int))∧H 1=(bk 1 24 3 [[(iV (f.op)),(iV (f.arg)),(V.sl (List.map cF (f.kids)))]])∧H 9=(bk 1 24 3 [[(iV (f.op)),(iV (f.arg)),(V.ms 709 (w+1) 0 (k+1))]])∧H 11=(bk (v11+1) 24 3 [[(iV ((fVal (can (((nth (f.kids) (k)))))).op)),(iV ((fVal (can (((nth (f.kids) (k)))))).arg)),(V.sl (List.map cF ((fVal (can (((nth (f.kids) (k)))))).kids)))]])∧H 709=(bz (w+1) 24 3 (List.map cF (g++[(fVal (can (((nth (f.kids) (k))))))])))∧True) ⟨t1,t9,t10,h1,rfl,rfl,rfl,trivial⟩ ?_)))
  intro T H ⟨t1,t9,t10,h1,h9,h11,h709,_⟩
  refine .freeze 11 (.done ?_)
  refine fork_ (R:=fun T H=>T 1=(V.mp 1 1 0 0)∧T 9=(V.mp 9 1 0 0)∧T 10=(iV ((k:Nat):Int))∧H 1=(bk 1 24 3 [[(iV (f.op)),(iV (f.arg)),(V.sl (List.map cF (f.kids)))]])∧H 9=(bk 1 24 3 [[(iV (f.op)),(iV (f.arg)),(V.ms 709 (w+1) 0 (k+1))]])∧((H 11).ver=v11+1∧(H 11).live=false)∧H 709=(bz (w+1) 24 3 (List.map cF (g++[(fVal (can (((nth (f.kids) (k))))))])))∧True) ⟨(fzT_q t1 rfl),(fzT_q t9 rfl),(fzT_q t10 rfl),(kill_ne h1 (by decide)),(kill_ne h9 (by decide)),(kill_self (congrArg Blk.ver h11)),(kill_ne h709 (by decide)),trivial⟩ ?_
  intro T H ⟨t1,t9,t10,h1,h9,h11,h709,_⟩
  refine W_t (R_mv t10 (R_addN rfl (@rfl V (iV ((1:Nat):Int))) (by omega) (R_mv rfl (R_e ?_))))
  refine p135 _ _ _ ?_ ⟨(k+1),(w+1),(g++[fVal (can (nth f.kids k))]),(v11+1),rfl,t1,t9,(Eq.trans (@rfl V (iV ((k+1:Nat):Int))) (by rfl)),h1,(Eq.trans h9 (by rfl)),h11,(Eq.trans h709 (by rfl)),?_,?_,?_⟩
  · omega
  · omega
  · simp; exact hg
  · exact d1
 have d8:=rs_gen hr (by omega) hg hk hc (by omega)
 refine W_seq_exit (p335 _ _ _ (x34 _ _ (fork_ (R:=fun T H=>T 1=(V.mp 1 1 0 0)∧T 9=(V.mp 9 1 0 0)∧T 10=(iV ((k:Nat):Int))∧T 92=(V.bool (decide (((k:Nat):Int) < ((f.kids.length:Nat):Int))))∧H 1=(bk 1 24 3 [[(iV (f.op)),(iV (f.arg)),(V.sl (List.map cF (f.kids)))]])∧H 9=(bk 1 24 3 [[(iV (f.op)),(iV (f.arg)),(V.ms 709 w 0 (k))]])∧((H 11).ver=v11∧(H 11).live=false)∧H 709=(bz w 24 3 (List.map cF (g)))∧True) ⟨t1,t9,t10,(@rfl V (V.bool (decide (((k:Nat):Int) < ((f.kids.length:Nat):Int))))),h1,h9,h11,h709,trivial⟩ ?_)))
 intro T H ⟨t1,t9,t10,t92,h1,h9,h11,h709,_⟩
 refine frz_cellg (id:=709) (id2:=9) (rows:=[[(iV (f.op)),(iV (f.arg)),(V.ms 709 w 0 (k))]]) (i:=0) (off:=2) (r:=[(iV (f.op)),(iV (f.arg)),(V.ms 709 w 0 (k))]) (m:=g) (g:=cF) (by decide) h709 h9 (by (simp; done)) (by exact hg.symm) rfl (.done ?_)
 refine fork_ (R:=fun T H=>T 1=(V.mp 1 1 0 0)∧T 9=(V.mp 9 1 0 0)∧T 10=(iV ((k:Nat):Int))∧T 92=(V.bool (decide (((k:Nat):Int) < ((f.kids.length:Nat):Int))))∧H 1=(bk 1 24 3 [[(iV (f.op)),(iV (f.arg)),(V.sl (List.map cF (f.kids)))]])∧H 9=(bk 1 24 3 [[(iV (f.op)),(iV (f.arg)),(V.sl (List.map cF (g)))]])∧((H 11).ver=v11∧(H 11).live=false)∧((H 709).ver=w∧(H 709).live=false)∧True) ⟨(fzT_q t1 rfl),(fzT_q t9 rfl),(fzT_q t10 rfl),(fzT_q t92 rfl),((upd_ne _ _ (by decide)).trans (kill_ne h1 (by decide))),(upd_same _ _ _),⟨(congrArg Blk.ver (upd_ne _ _ (by decide))).trans (kill_dead h11).1,(congrArg Blk.live (upd_ne _ _ (by decide))).trans (kill_dead h11).2⟩,⟨(congrArg Blk.ver (upd_ne _ _ (by decide))).trans (kill_self (congrArg Blk.ver h709)).1,(congrArg Blk.live (upd_ne _ _ (by decide))).trans (kill_self (congrArg Blk.ver h709)).2⟩,trivial⟩ ?_
 intro T H ⟨t1,t9,t10,t92,h1,h9,h11,h709,_⟩
 refine W_r (R_lk t9 h9 rfl rfl (R_bslice rfl rfl (R_bslice rfl rfl (R_mv rfl (R_mv rfl (R_e (W_ret ?_)))))))
 refine Ret_2 (@rfl V (V.sl [[(V.sl [[(iV (f.op)),(iV (f.arg)),(V.sl (List.map cF (g)))]])]])) (@rfl V (V.bool true)) (fz_canon (by simp) ?_) (fz_bool ?_)
 · rw [d8.1]; simp [cCl,cF_eq]; exact ⟨rfl,rfl,rfl⟩
 · rw [d8.2]
theorem rset_pure (f:Fm) (hok:okF f=true) (hz:f.sz≤268435456):PureC Tryz.prog 92 [(V.agg [(iV (f.op)),(iV (f.arg)),(V.sl (List.map cF (f.kids)))])] (V.tup [(V.sl (List.map cCl (rsV f))),(V.bool (clB f))]):=by
  have key: ∀ (mm:Nat) (f:Fm),f.sz < mm→okF f=true→f.sz≤268435456→PureC Tryz.prog 92 [(V.agg [(iV (f.op)),(iV (f.arg)),(V.sl (List.map cF (f.kids)))])] (V.tup [(V.sl (List.map cCl (rsV f))),(V.bool (clB f))]):=by
    intro mm
    induction mm with
    |zero=>intro f hlt; exact absurd hlt (Nat.not_lt_zero _)
    | succ mm ih =>
      intro f hlt hok hz
      exact rset_pure_step f hok hz fun f2 hlt2=>ih f2 (by omega)
  exact key (f.sz+1) f (Nat.lt_succ_self _) hok hz
theorem rresult_pure (f:Fm) (hok:okF f=true) (hz:f.sz≤268435456):PureC Tryz.prog 38 [(V.agg [(iV (f.op)),(iV (f.arg)),(V.sl (List.map cF (f.kids)))])] (V.tup [(V.agg [(iV ((chk f).1.op)),(iV ((chk f).1.arg)),(V.sl (List.map cF ((chk f).1.kids)))]),(iV ((chk f).2))]):=by
 refine pW Tryz.func38 s38_ok fun hB=>?_
 unfold s38
 dsimp only
 refine W_r (R_box (i:=1) (n:=0) (m:=3) (cs:=[(iV (f.op)),(iV (f.arg)),(V.sl (List.map cF (f.kids)))]) rfl (congrArg Blk.ver rfl) rfl rfl rfl (R_alloc (i:=2) (n:=0) (m:=3) rfl (congrArg Blk.ver rfl) rfl (R_mv rfl (R_e (W_r (R_lk rfl rfl rfl rfl (R_callk (rcan_pure f hok hz (rset_pure f hok hz)) rfl ?_)))))))
 refine R_mv rfl (R_ext rfl rfl (R_ext rfl rfl (R_alloc (i:=4) (n:=0) (m:=3) rfl (congrArg Blk.ver rfl) rfl (R_sk rfl rfl rfl rfl rfl rfl rfl rfl rfl (R_mv rfl (R_e (W_seq_seq ?_)))))))
 refine W_r (R_mv rfl (R_notb rfl (R_e ?_)))
 refine W_seq_ifb rfl (fun c1=>?_) (fun c1=>?_)
 ·
  have d1:=chk_e (cEB_no (by simpa using c1))
  have d2:=cE_yes (cEB_no (by simpa using c1))
  refine W_seq_seq (W_r (R_build rfl rfl (R_sk rfl rfl rfl rfl rfl rfl rfl rfl rfl (R_mv rfl (R_e (W_seq_ret ?_))))))
  refine RetC_2 (resV_c (u:=(V.agg [(iV (0:Int)),(iV (0:Int)),V.nilsl])) rfl (@rfl Blk (bk 1 24 3 [[(iV (0:Int)),(iV (0:Int)),V.nilsl]])) (lB oB rfl rfl)) (resV_t (@rfl V (iV (11:Int)))) (fz_agg3 (fz_int ?_) (fz_int ?_) (fz_nil ?_)) (fz_int ?_)
  · rw [d1]; rfl
  · rw [d1]; rfl
  · rw [d1]; rfl
  · rw [d1,d2]; rfl
 have d0:=cEB_yes (by simpa using c1)
 refine W_seq_skip (W_seq_seq (W_r (R_lk rfl rfl rfl rfl (R_callk (rfvalid_pure ((fVal (can f)))) rfl (R_neq rfl rfl (R_e ?_))))))
 refine W_seq_if rfl (fun c2=>?_) fun c2=>?_
 ·
  have d1:=chk_b d0 c2
  refine W_seq_seq (W_r (R_build rfl rfl (R_lk rfl rfl rfl rfl (R_callk (rfvalid_pure ((fVal (can f)))) rfl (R_sk rfl rfl rfl rfl rfl rfl rfl rfl rfl (R_mv rfl (R_e ?_)))))))
  refine W_seq_ret ?_
  refine RetC_2 (resV_c (u:=(V.agg [(iV (0:Int)),(iV (0:Int)),V.nilsl])) rfl (@rfl Blk (bk 1 24 3 [[(iV (0:Int)),(iV (0:Int)),V.nilsl]])) (lB oB rfl rfl)) (resV_t (@rfl V (iV (fval ((fVal (can f))))))) (fz_agg3 (fz_int ?_) (fz_int ?_) (fz_nil ?_)) (fz_int ?_)
  · rw [d1]; rfl
  · rw [d1]; rfl
  · rw [d1]; rfl
  · rw [d1]
 have d1:=chk_g d0 c2
 refine W_seq_skip (W_r (R_lk rfl rfl rfl rfl (R_sk rfl rfl rfl rfl rfl rfl rfl rfl rfl (R_mv rfl (R_e (W_ret ?_))))))
 refine RetC_2 (resV_c (u:=(V.agg [(iV ((fVal (can f)).op)),(iV ((fVal (can f)).arg)),(V.sl (List.map cF ((fVal (can f)).kids)))])) rfl (@rfl Blk (bk 1 24 3 [[(iV ((fVal (can f)).op)),(iV ((fVal (can f)).arg)),(V.sl (List.map cF ((fVal (can f)).kids)))]])) (lB oB rfl rfl)) (resV_t (@rfl V (iV (0:Int)))) (fz_agg3 (fz_int ?_) (fz_int ?_) (fz_sl ?_ (fun _=>by simp))) (fz_int ?_)
 · rw [d1]
 · rw [d1]
 · rw [d1]
 · rw [d1]
def r39_2:List SO:=[
 qF 11 2 2,
 ql 12 11,
 sO 13 (.idx 3 (.t 12) (.c (.int .i64 0))),
 qL 14 3 13,
 qM 15 1,
 sO 16 (.un .not (.t 15)),
 sO 17 (.call false 39 [.t 14,.t 16]),
 sN (.store 3 (.t 4) (.t 17))]
def r39_26:List SO:=[
 qF 53 2 6,
 ql 54 53,
 qF 55 2 2,
 ql 56 55,
 qM 57 7,
 qA 58 3 56 57,
 qL 59 3 58,
 qM 60 1,
 sO 61 (.call false 39 [.t 59,.t 60]),
 sO 62 (.bslice 24 3 false [.int .i64 0,.int .i64 0,.nilsl] 1 [(0,.t 61)]),
 sO 63 (.append 24 3 40 (.t 54) (.t 62)),
 qF 64 2 6,
 sN (.store 1 (.t 64) (.t 63))]
def b39_0:SC:=.seq (.seq (.reg [qM 46 7,qF 47 2 2,ql 48 47,qN 49 48,qP 50 .lss 46 49]) (.cond (.t 50) (.skip) (.exit 1))) (.seq (.block 2 (.reg r39_26)) (.reg [qM 51 7,qC 52 .add 51 1,qM 7 52]))
def s39:SF:=⟨66,[.cell 4 true 3],.seq (.reg [sO 2 (.box 24 3 (.t 0)),sO 4 (.alloc 24 [.int .i64 0,.int .i64 0,.nilsl])]) (.seq (.seq (.reg [qF 8 0 2,ql 9 8,qC 10 .eql 9 4]) (.cond (.t 10) (.seq (.reg r39_2) (.ret)) (.skip))) (.seq (.seq (.reg [qF 18 2 2,ql 19 18,qN 20 19,qC 21 .eql 20 0]) (.cond (.t 21) (.seq (.seq (.reg [qM 22 1]) (.cond (.t 22) (.seq (.reg [qL 23 3 2,sO 24 (.bslice 24 3 false [.int .i64 0,.int .i64 0,.nilsl] 1 [(0,.t 23)]),sO 25 (.call false 65 [.c (.int .i64 4),.t 24]),sN (.store 3 (.t 4) (.t 25))]) (.ret)) (.skip))) (.seq (.reg [qL 26 3 2,sN (.store 3 (.t 4) (.t 26))]) (.ret))) (.skip))) (.seq (.reg [qF 27 0 2,ql 28 27,qM 5 28]) (.seq (.seq (.reg [qM 29 1]) (.cond (.t 29) (.seq (.reg [qF 30 0 2,ql 31 30]) (.block 0 (.seq (.reg [qC 33 .eql 31 5,qM 32 33]) (.cond (.t 32) (.reg [qI 5 6]) (.seq (.reg [qC 35 .eql 31 6,qM 34 35]) (.cond (.t 34) (.reg [qI 5 5]) (.seq (.reg [qC 37 .eql 31 7,qM 36 37]) (.cond (.t 36) (.reg [qI 5 9]) (.seq (.reg [qC 39 .eql 31 9,qM 38 39]) (.cond (.t 38) (.reg [qI 5 7]) (.seq (.reg [qC 41 .eql 31 8,qM 40 41]) (.cond (.t 40) (.reg [qI 5 10]) (.seq (.reg [qC 43 .eql 31 10,qM 42 43]) (.cond (.t 42) (.reg [qI 5 8]) (.skip))))))))))))))) (.skip))) (.seq (.reg [qM 44 5,sO 45 (.build [.int .i64 0,.int .i64 0,.nilsl] [(0,1,.t 44)]),sO 6 (.alloc 24 [.int .i64 0,.int .i64 0,.nilsl]),sN (.store 3 (.t 6) (.t 45))]) (.seq (.seq (.reg [qI 7 0]) (.block 1 (.loop b39_0))) (.seq (.reg [qL 65 3 6,sN (.store 3 (.t 4) (.t 65))]) (.ret))))))))⟩
theorem s39_ok:slimF Tryz.prog ⟨[59,84,90,97,109,153,154,155,160],[],[],[]⟩ Tryz.f39=some s39:=by kernel_rfl
def s65:SF:=⟨8,[.cell 4 true 3],.seq (.reg [sO 4 (.alloc 24 [.int .i64 0,.int .i64 0,.nilsl])]) (.seq (.reg [qM 5 0,qM 6 1,sO 7 (.build [.int .i64 0,.int .i64 0,.nilsl] [(0,1,.t 5),(2,1,.t 6)]),sN (.store 3 (.t 4) (.t 7))]) (.ret))⟩
theorem s65_ok:slimF Tryz.prog ⟨[59,84,90,97,109,153,154,155,160],[],[],[]⟩ Tryz.f65=some s65:=by kernel_rfl
theorem rnode_pure (o:Int) (l:List Fm):PureC Tryz.prog 65 [(iV (o)),(V.sl (List.map cF (l)))] (V.agg [(iV (o)),(iV (0:Int)),(V.sl (List.map cF (l)))]):=by
 refine pW Tryz.func65 s65_ok fun hB=>?_
 unfold s65
 dsimp only
 refine W_r (R_alloc (i:=4) (n:=0) (m:=3) rfl (congrArg Blk.ver rfl) rfl (R_e (W_r (R_mv rfl (R_mv rfl (R_build rfl rfl (R_sk rfl rfl rfl rfl rfl rfl rfl rfl rfl ?_)))))))
 refine R_e (W_ret ?_)
 refine RetC_1 (resV_c (u:=(V.agg [(iV (o)),(iV (0:Int)),(V.sl (List.map cF (l)))])) rfl (@rfl Blk (bk 1 24 3 [[(iV (o)),(iV (0:Int)),(V.sl (List.map cF (l)))]])) (lB oB rfl rfl)) (fz_canon (by simp) rfl)
theorem rnormal_pure_step (f:Fm) (b:Bool) (hf:okF f=true) (hz:f.sz≤4096) (ih: ∀ (g:Fm) (b:Bool),g.sz < f.sz→okF g=true→g.sz≤4096→PureC Tryz.prog 39 [(V.agg [(iV (g.op)),(iV (g.arg)),(V.sl (List.map cF (g.kids)))]),(V.bool b)] (V.agg [(iV ((nrm g b).op)),(iV ((nrm g b).arg)),(V.sl (List.map cF ((nrm g b).kids)))])):PureC Tryz.prog 39 [(V.agg [(iV (f.op)),(iV (f.arg)),(V.sl (List.map cF (f.kids)))]),(V.bool b)] (V.agg [(iV ((nrm f b).op)),(iV ((nrm f b).arg)),(V.sl (List.map cF ((nrm f b).kids)))]):=by
 refine pW Tryz.func39 s39_ok fun hB=>?_
 unfold s39
 dsimp only
 have hp:=okF_parts hf
 have hr:=rgt_ok hp.1
 have hln:=f.sz_len
 refine W_r (R_box (i:=2) (n:=0) (m:=3) (cs:=[(iV (f.op)),(iV (f.arg)),(V.sl (List.map cF (f.kids)))]) rfl (congrArg Blk.ver rfl) rfl rfl rfl (R_alloc (i:=4) (n:=0) (m:=3) rfl (congrArg Blk.ver rfl) rfl (R_e (W_seq_seq (W_r (R_fk rfl rfl (R_lk rfl rfl rfl rfl ?_)))))))
 refine R_eql rfl rfl (R_e ?_)
 refine W_seq_if rfl (fun c1=>?_) fun c1=>?_
 ·
  refine W_seq_seq (W_r (R_fk rfl rfl (R_lk rfl rfl rfl rfl (R_idxu (i:=0) (@rfl V (V.sl (List.map cF (f.kids)))) (@rfl V (iV ((0:Nat):Int))) (by omega) (cF_eq _) rfl (R_load_pp rfl rfl (R_mv rfl (R_notb rfl ?_)))))))
  refine R_callk (ih (((nth (f.kids) (0)))) ((!b)) (Fm.sz_kid (by omega)) (hp.2 _ (by omega)) (Nat.le_trans (Nat.le_of_lt (Fm.sz_kid (by omega))) hz)) rfl (R_sk rfl rfl rfl rfl rfl rfl rfl rfl rfl (R_e (W_seq_ret ?_)))
  refine RetC_1 (resV_c (u:=(V.agg [(iV ((nrm (((nth (f.kids) (0)))) ((!b))).op)),(iV ((nrm (((nth (f.kids) (0)))) ((!b))).arg)),(V.sl (List.map cF ((nrm (((nth (f.kids) (0)))) ((!b))).kids)))])) rfl (@rfl Blk (bk 1 24 3 [[(iV ((nrm (((nth (f.kids) (0)))) ((!b))).op)),(iV ((nrm (((nth (f.kids) (0)))) ((!b))).arg)),(V.sl (List.map cF ((nrm (((nth (f.kids) (0)))) ((!b))).kids)))]])) (lB oB rfl rfl)) (fz_agg3 (fz_int ?_) (fz_int ?_) (fz_sl ?_ (fun _=>by simp)))
  · rw [nrm_not (f:=f) (b:=b) (by omega) (by omega)]
  · rw [nrm_not (f:=f) (b:=b) (by omega) (by omega)]
  · rw [nrm_not (f:=f) (b:=b) (by omega) (by omega)]
 refine W_seq_skip (W_seq_seq (W_r (R_fk rfl rfl (R_lk rfl rfl rfl rfl (R_len rfl (R_eql rfl rfl (R_e ?_)))))))
 refine W_seq_if rfl (fun c2=>?_) fun c2=>?_
 ·
  refine W_seq_seq (W_seq_seq (W_r (R_mv rfl (R_e ?_))))
  refine W_seq_ifb rfl (fun c3=>?_) (fun c3=>?_)
  ·
   have hb:b=true:=c3
   refine W_seq_seq (W_r (R_lk rfl rfl rfl rfl (R_bslice rfl rfl (R_callk (rnode_pure ((4:Int)) ([f])) (evcons rfl (evcons (sl_F1 (x:=f) rfl) evnil)) (R_sk rfl rfl rfl rfl rfl rfl rfl rfl rfl (R_e (W_seq_ret ?_)))))))
   refine RetC_1 (resV_c (u:=(V.agg [(iV (((4:Int)))),(iV (0:Int)),(V.sl (List.map cF (([f]))))])) rfl (@rfl Blk (bk 1 24 3 [[(iV (((4:Int)))),(iV (0:Int)),(V.sl (List.map cF (([f]))))]])) (lB oB rfl rfl)) (fz_agg3 (fz_int ?_) (fz_int ?_) (fz_sl ?_ (fun _=>by simp)))
   · rw [hb,nrm_T (by omega) (by omega)]; rfl
   · rw [hb,nrm_T (by omega) (by omega)]; rfl
   · rw [hb,nrm_T (by omega) (by omega)]; rfl
  have hb:b=false:=by simpa using c3
  refine W_seq_skip (W_seq_seq (W_r (R_lk rfl rfl rfl rfl (R_sk rfl rfl rfl rfl rfl rfl rfl rfl rfl (R_e (W_seq_ret ?_))))))
  refine RetC_1 (resV_c (u:=(V.agg [(iV (f.op)),(iV (f.arg)),(V.sl (List.map cF (f.kids)))])) rfl (@rfl Blk (bk 1 24 3 [[(iV (f.op)),(iV (f.arg)),(V.sl (List.map cF (f.kids)))]])) (lB oB rfl rfl)) (fz_agg3 (fz_int ?_) (fz_int ?_) (fz_sl ?_ (fun _=>by simp)))
  · rw [hb,nrm_F (by omega) (by omega)]
  · rw [hb,nrm_F (by omega) (by omega)]
  · rw [hb,nrm_F (by omega) (by omega)]
 refine W_seq_skip (W_r (R_fk rfl rfl (R_lk rfl rfl rfl rfl (R_mv rfl (R_e (W_seq_seq (W_r ?_)))))))
 refine R_mv rfl (R_e ?_)
 refine W_seq_ifb rfl (fun c4=>?_) (fun c4=>?_)
 ·
  have hb:b=true:=c4
  refine W_seq_seq (W_r (R_fk rfl rfl (R_lk rfl rfl rfl rfl (R_e (W_seq_blockg fun Q5 n5 x5 y5 z5=>(W_r (R_eql rfl rfl ?_)))))))
  refine R_mv rfl (R_e ?_)
  refine W_if rfl (fun c6=>?_) fun c6=>?_
  ·
   refine W_t (R_mv rfl (R_e (n5 _ _ (.done (W_r (R_mv rfl (R_build rfl rfl ?_)))))))
   refine R_alloc (i:=6) (n:=0) (m:=3) rfl (congrArg Blk.ver rfl) rfl (R_sk rfl rfl rfl rfl rfl rfl rfl rfl rfl (R_e (W_seq_seq ?_)))
   refine W_seq_g (fun T H=>T 1=(V.bool b)∧T 2=(V.mp 2 1 0 0)∧T 4=(V.mp 4 1 0 0)∧T 6=(V.mp 6 1 0 0)∧T 7=(iV (0:Int))∧H 2=(bk 1 24 3 [[(iV (f.op)),(iV (f.arg)),(V.sl (List.map cF (f.kids)))]])∧H 4=(bk 1 24 3 [[(iV (0:Int)),(iV (0:Int)),V.nilsl]])∧H 6=(bk 1 24 3 [[(iV (6:Int)),(iV (0:Int)),V.nilsl]])∧H 653=(⟨0,false,false,0,0,[]⟩:Blk)∧True) ?_ ?_
   ·
    refine R_mv rfl ?_
    exact R_nil ⟨rfl,rfl,rfl,rfl,rfl,rfl,rfl,rfl,rfl,trivial⟩
   intro T H ⟨t1,t2,t4,t6,t7,h2,h4,h6,h653,_⟩
   refine .lazyCell 653 24 3 6 0 2 [(iV (6:Int)),(iV (0:Int)),V.nilsl] (by decide) (by rw [h6]; rfl) (by rw [h6]; rfl) rfl (.done ?_)
   refine fork_ (R:=fun T H=>T 1=(V.bool b)∧T 2=(V.mp 2 1 0 0)∧T 4=(V.mp 4 1 0 0)∧T 6=(V.mp 6 1 0 0)∧T 7=(iV (0:Int))∧H 2=(bk 1 24 3 [[(iV (f.op)),(iV (f.arg)),(V.sl (List.map cF (f.kids)))]])∧H 4=(bk 1 24 3 [[(iV (0:Int)),(iV (0:Int)),V.nilsl]])∧H 6=(bk 1 24 3 [[(iV (6:Int)),(iV (0:Int)),(V.ms 653 1 0 (0))]])∧H 653=(bz 1 24 3 [])∧True) ⟨t1,t2,t4,t6,t7,((upd_ne _ _ (by decide)).trans ((upd_ne _ _ (by decide)).trans h2)),((upd_ne _ _ (by decide)).trans ((upd_ne _ _ (by decide)).trans h4)),(by rw [upd_same,h6,(congrArg Blk.ver h653)]; rfl),(by rw [upd_ne _ _ (by decide),upd_same,(congrArg Blk.ver h653)]),trivial⟩ ?_
   intro T H ⟨t1,t2,t4,t6,t7,h2,h4,h6,h653,_⟩
   refine W_seq_blockg fun Q7 n7 x7 y7 z7=>?_
   refine W_loop (fun mm T H=> ∃ (k:Nat) (w:Nat),mm=f.kids.length - k∧T 1=(V.bool b)∧T 2=(V.mp 2 1 0 0)∧T 4=(V.mp 4 1 0 0)∧T 6=(V.mp 6 1 0 0)∧T 7=(iV ((k:Nat):Int))∧H 2=(bk 1 24 3 [[(iV (f.op)),(iV (f.arg)),(V.sl (List.map cF (f.kids)))]])∧H 4=(bk 1 24 3 [[(iV (0:Int)),(iV (0:Int)),V.nilsl]])∧H 6=(bk 1 24 3 [[(iV (nop f.op b)),(iV (0:Int)),(V.ms 653 w 0 (k))]])∧H 653=(bz w 24 3 (List.map cF ((f.kids.take k).map (fun g=>nrm g b))))∧(k≤f.kids.length)) ?_ ?_
   ·
    refine ⟨_,0,1,rfl,t1,t2,t4,t6,(Eq.trans t7 rfl),h2,h4,(Eq.trans h6 (by (exact bk_op (by simp only [nop,dualI,hb,if_true,Bool.false_eq_true,if_false]; repeat (first|rfl|omega|split))))),(Eq.trans h653 (by rfl)),?_⟩
    · omega
   intro mm T H ⟨k,w,hmm,t1,t2,t4,t6,t7,h2,h4,h6,h653,hk⟩ Q8 p18 p28 p38
   unfold b39_0
   refine W_seq_seq (W_r (R_mv t7 (R_fk t2 h2 (R_lk rfl h2 rfl rfl (R_len rfl (R_lss rfl rfl (R_e ?_)))))))
   refine W_seq_if rfl (fun c9=>?_) fun c9=>?_
   ·
    refine W_seq_skip (W_seq_blockg fun Q10 n10 x10 y10 z10=>(W_t (R_fk t6 h6 (R_lk rfl h6 rfl rfl (R_fk t2 h2 (R_lk rfl h2 rfl rfl (R_mv t7 ?_)))))))
    refine R_idxu (i:=k) (@rfl V (V.sl (List.map cF (f.kids)))) (@rfl V (iV ((k:Nat):Int))) (by omega) (cF_eq _) rfl (R_load_pp rfl rfl (R_mv t1 (R_callk (ih (((nth (f.kids) (k)))) b (Fm.sz_kid (by omega)) (hp.2 _ (by omega)) (Nat.le_trans (Nat.le_of_lt (Fm.sz_kid (by omega))) hz)) rfl (R_bslice rfl rfl (R_append1 (l:=((f.kids.take k).map (fun g=>nrm g b))) (f:=cF) (x:=((nrm (((nth (f.kids) (k)))) b))) (@rfl V (V.ms 653 w 0 (k))) h653 (by (simp; omega)) (row_F1 (x:=((nrm (((nth (f.kids) (k)))) b))) (@rfl V (V.sl [[(iV ((nrm (((nth (f.kids) (k)))) b).op)),(iV ((nrm (((nth (f.kids) (k)))) b).arg)),(V.sl (List.map cF ((nrm (((nth (f.kids) (k)))) b).kids)))]]))) (cF_len _) (cF_one _) (by omega) (by omega) (R_fk t6 h6 (R_sk rfl rfl rfl h6 rfl rfl rfl rfl rfl ?_)))))))
    refine R_e (n10 _ _ (.done (W_t (R_mv t7 (R_addN rfl (@rfl V (iV ((1:Nat):Int))) (by omega) (R_mv rfl (R_e ?_)))))))
    refine p18 _ _ _ ?_ ⟨(k+1),(w+1),rfl,t1,t2,t4,t6,(Eq.trans (@rfl V (iV ((k+1:Nat):Int))) (by rfl)),h2,h4,(Eq.trans (@rfl Blk (bk 1 24 3 [[(iV (nop f.op b)),(iV (0:Int)),(V.ms 653 (w+1) 0 (k+1))]])) (by rfl)),(Eq.trans (@rfl Blk (bz (w+1) 24 3 (List.map cF ((f.kids.take k).map (fun g=>nrm g b)++[(nrm (((nth (f.kids) (k)))) b)])))) (by (rw [mapTake (by omega)]; done))),?_⟩
    · omega
    · omega
   refine W_seq_exit (p38 _ _ _ (x7 _ _ (.done (W_r (R_lk t6 h6 rfl rfl (R_sk t4 rfl rfl h4 rfl rfl rfl rfl rfl (R_e ?_)))))))
   refine W_ret ?_
   refine RetC_1 (resV_c (u:=(V.agg [(iV (nop f.op b)),(iV (0:Int)),(V.ms 653 w 0 (k))])) t4 (@rfl Blk (bk 1 24 3 [[(iV (nop f.op b)),(iV (0:Int)),(V.ms 653 w 0 (k))]])) (lB oB rfl rfl)) (fz_agg3 (fz_int ?_) (fz_int ?_) (fz_ms h653 (by simp) (l:=((f.kids.take k).map (fun g=>nrm g b))) rfl (by (simp; omega)) (fun _=>by simp) ?_))
   · rw [nrm_node (by omega) (by omega)]; rfl
   · rw [nrm_node (by omega) (by omega)]; rfl
   · rw [nrm_node (by omega) (by omega)]; first|rfl|(show _=List.map _ f.kids; rw [show k=f.kids.length by omega,List.take_length]; done)
  refine W_r (R_eql rfl rfl (R_mv rfl (R_e ?_)))
  refine W_if rfl (fun c11=>?_) fun c11=>?_
  ·
   refine W_t (R_mv rfl (R_e (n5 _ _ (.done (W_r (R_mv rfl (R_build rfl rfl ?_)))))))
   refine R_alloc (i:=6) (n:=0) (m:=3) rfl (congrArg Blk.ver rfl) rfl (R_sk rfl rfl rfl rfl rfl rfl rfl rfl rfl (R_e (W_seq_seq ?_)))
   refine W_seq_g (fun T H=>T 1=(V.bool b)∧T 2=(V.mp 2 1 0 0)∧T 4=(V.mp 4 1 0 0)∧T 6=(V.mp 6 1 0 0)∧T 7=(iV (0:Int))∧H 2=(bk 1 24 3 [[(iV (f.op)),(iV (f.arg)),(V.sl (List.map cF (f.kids)))]])∧H 4=(bk 1 24 3 [[(iV (0:Int)),(iV (0:Int)),V.nilsl]])∧H 6=(bk 1 24 3 [[(iV (5:Int)),(iV (0:Int)),V.nilsl]])∧H 653=(⟨0,false,false,0,0,[]⟩:Blk)∧True) ?_ ?_
   ·
    refine R_mv rfl ?_
    exact R_nil ⟨rfl,rfl,rfl,rfl,rfl,rfl,rfl,rfl,rfl,trivial⟩
   intro T H ⟨t1,t2,t4,t6,t7,h2,h4,h6,h653,_⟩
   refine .lazyCell 653 24 3 6 0 2 [(iV (5:Int)),(iV (0:Int)),V.nilsl] (by decide) (by rw [h6]; rfl) (by rw [h6]; rfl) rfl (.done ?_)
   refine fork_ (R:=fun T H=>T 1=(V.bool b)∧T 2=(V.mp 2 1 0 0)∧T 4=(V.mp 4 1 0 0)∧T 6=(V.mp 6 1 0 0)∧T 7=(iV (0:Int))∧H 2=(bk 1 24 3 [[(iV (f.op)),(iV (f.arg)),(V.sl (List.map cF (f.kids)))]])∧H 4=(bk 1 24 3 [[(iV (0:Int)),(iV (0:Int)),V.nilsl]])∧H 6=(bk 1 24 3 [[(iV (5:Int)),(iV (0:Int)),(V.ms 653 1 0 (0))]])∧H 653=(bz 1 24 3 [])∧True) ⟨t1,t2,t4,t6,t7,((upd_ne _ _ (by decide)).trans ((upd_ne _ _ (by decide)).trans h2)),((upd_ne _ _ (by decide)).trans ((upd_ne _ _ (by decide)).trans h4)),(by rw [upd_same,h6,(congrArg Blk.ver h653)]; rfl),(by rw [upd_ne _ _ (by decide),upd_same,(congrArg Blk.ver h653)]),trivial⟩ ?_
   intro T H ⟨t1,t2,t4,t6,t7,h2,h4,h6,h653,_⟩
   refine W_seq_blockg fun Q12 n12 x12 y12 z12=>?_
   refine W_loop (fun mm T H=> ∃ (k:Nat) (w:Nat),mm=f.kids.length - k∧T 1=(V.bool b)∧T 2=(V.mp 2 1 0 0)∧T 4=(V.mp 4 1 0 0)∧T 6=(V.mp 6 1 0 0)∧T 7=(iV ((k:Nat):Int))∧H 2=(bk 1 24 3 [[(iV (f.op)),(iV (f.arg)),(V.sl (List.map cF (f.kids)))]])∧H 4=(bk 1 24 3 [[(iV (0:Int)),(iV (0:Int)),V.nilsl]])∧H 6=(bk 1 24 3 [[(iV (nop f.op b)),(iV (0:Int)),(V.ms 653 w 0 (k))]])∧H 653=(bz w 24 3 (List.map cF ((f.kids.take k).map (fun g=>nrm g b))))∧(k≤f.kids.length)) ?_ ?_
   ·
    refine ⟨_,0,1,rfl,t1,t2,t4,t6,(Eq.trans t7 rfl),h2,h4,(Eq.trans h6 (by (exact bk_op (by simp only [nop,dualI,hb,if_true,Bool.false_eq_true,if_false]; repeat (first|rfl|omega|split))))),(Eq.trans h653 (by rfl)),?_⟩
    · omega
   intro mm T H ⟨k,w,hmm,t1,t2,t4,t6,t7,h2,h4,h6,h653,hk⟩ Q13 p113 p213 p313
   unfold b39_0
   refine W_seq_seq (W_r (R_mv t7 (R_fk t2 h2 (R_lk rfl h2 rfl rfl (R_len rfl (R_lss rfl rfl (R_e ?_)))))))
   refine W_seq_if rfl (fun c14=>?_) fun c14=>?_
   ·
    refine W_seq_skip (W_seq_blockg fun Q15 n15 x15 y15 z15=>(W_t (R_fk t6 h6 (R_lk rfl h6 rfl rfl (R_fk t2 h2 (R_lk rfl h2 rfl rfl (R_mv t7 ?_)))))))
    refine R_idxu (i:=k) (@rfl V (V.sl (List.map cF (f.kids)))) (@rfl V (iV ((k:Nat):Int))) (by omega) (cF_eq _) rfl (R_load_pp rfl rfl (R_mv t1 (R_callk (ih (((nth (f.kids) (k)))) b (Fm.sz_kid (by omega)) (hp.2 _ (by omega)) (Nat.le_trans (Nat.le_of_lt (Fm.sz_kid (by omega))) hz)) rfl (R_bslice rfl rfl (R_append1 (l:=((f.kids.take k).map (fun g=>nrm g b))) (f:=cF) (x:=((nrm (((nth (f.kids) (k)))) b))) (@rfl V (V.ms 653 w 0 (k))) h653 (by (simp; omega)) (row_F1 (x:=((nrm (((nth (f.kids) (k)))) b))) (@rfl V (V.sl [[(iV ((nrm (((nth (f.kids) (k)))) b).op)),(iV ((nrm (((nth (f.kids) (k)))) b).arg)),(V.sl (List.map cF ((nrm (((nth (f.kids) (k)))) b).kids)))]]))) (cF_len _) (cF_one _) (by omega) (by omega) (R_fk t6 h6 (R_sk rfl rfl rfl h6 rfl rfl rfl rfl rfl ?_)))))))
    refine R_e (n15 _ _ (.done (W_t (R_mv t7 (R_addN rfl (@rfl V (iV ((1:Nat):Int))) (by omega) (R_mv rfl (R_e ?_)))))))
    refine p113 _ _ _ ?_ ⟨(k+1),(w+1),rfl,t1,t2,t4,t6,(Eq.trans (@rfl V (iV ((k+1:Nat):Int))) (by rfl)),h2,h4,(Eq.trans (@rfl Blk (bk 1 24 3 [[(iV (nop f.op b)),(iV (0:Int)),(V.ms 653 (w+1) 0 (k+1))]])) (by rfl)),(Eq.trans (@rfl Blk (bz (w+1) 24 3 (List.map cF ((f.kids.take k).map (fun g=>nrm g b)++[(nrm (((nth (f.kids) (k)))) b)])))) (by (rw [mapTake (by omega)]; done))),?_⟩
    · omega
    · omega
   refine W_seq_exit (p313 _ _ _ (x12 _ _ (.done (W_r (R_lk t6 h6 rfl rfl (R_sk t4 rfl rfl h4 rfl rfl rfl rfl rfl (R_e ?_)))))))
   refine W_ret ?_
   refine RetC_1 (resV_c (u:=(V.agg [(iV (nop f.op b)),(iV (0:Int)),(V.ms 653 w 0 (k))])) t4 (@rfl Blk (bk 1 24 3 [[(iV (nop f.op b)),(iV (0:Int)),(V.ms 653 w 0 (k))]])) (lB oB rfl rfl)) (fz_agg3 (fz_int ?_) (fz_int ?_) (fz_ms h653 (by simp) (l:=((f.kids.take k).map (fun g=>nrm g b))) rfl (by (simp; omega)) (fun _=>by simp) ?_))
   · rw [nrm_node (by omega) (by omega)]; rfl
   · rw [nrm_node (by omega) (by omega)]; rfl
   · rw [nrm_node (by omega) (by omega)]; first|rfl|(show _=List.map _ f.kids; rw [show k=f.kids.length by omega,List.take_length]; done)
  refine W_r (R_eql rfl rfl (R_mv rfl (R_e ?_)))
  refine W_if rfl (fun c16=>?_) fun c16=>?_
  ·
   refine W_t (R_mv rfl (R_e (n5 _ _ (.done (W_r (R_mv rfl (R_build rfl rfl ?_)))))))
   refine R_alloc (i:=6) (n:=0) (m:=3) rfl (congrArg Blk.ver rfl) rfl (R_sk rfl rfl rfl rfl rfl rfl rfl rfl rfl (R_e (W_seq_seq ?_)))
   refine W_seq_g (fun T H=>T 1=(V.bool b)∧T 2=(V.mp 2 1 0 0)∧T 4=(V.mp 4 1 0 0)∧T 6=(V.mp 6 1 0 0)∧T 7=(iV (0:Int))∧H 2=(bk 1 24 3 [[(iV (f.op)),(iV (f.arg)),(V.sl (List.map cF (f.kids)))]])∧H 4=(bk 1 24 3 [[(iV (0:Int)),(iV (0:Int)),V.nilsl]])∧H 6=(bk 1 24 3 [[(iV (9:Int)),(iV (0:Int)),V.nilsl]])∧H 653=(⟨0,false,false,0,0,[]⟩:Blk)∧True) ?_ ?_
   ·
    refine R_mv rfl ?_
    exact R_nil ⟨rfl,rfl,rfl,rfl,rfl,rfl,rfl,rfl,rfl,trivial⟩
   intro T H ⟨t1,t2,t4,t6,t7,h2,h4,h6,h653,_⟩
   refine .lazyCell 653 24 3 6 0 2 [(iV (9:Int)),(iV (0:Int)),V.nilsl] (by decide) (by rw [h6]; rfl) (by rw [h6]; rfl) rfl (.done ?_)
   refine fork_ (R:=fun T H=>T 1=(V.bool b)∧T 2=(V.mp 2 1 0 0)∧T 4=(V.mp 4 1 0 0)∧T 6=(V.mp 6 1 0 0)∧T 7=(iV (0:Int))∧H 2=(bk 1 24 3 [[(iV (f.op)),(iV (f.arg)),(V.sl (List.map cF (f.kids)))]])∧H 4=(bk 1 24 3 [[(iV (0:Int)),(iV (0:Int)),V.nilsl]])∧H 6=(bk 1 24 3 [[(iV (9:Int)),(iV (0:Int)),(V.ms 653 1 0 (0))]])∧H 653=(bz 1 24 3 [])∧True) ⟨t1,t2,t4,t6,t7,((upd_ne _ _ (by decide)).trans ((upd_ne _ _ (by decide)).trans h2)),((upd_ne _ _ (by decide)).trans ((upd_ne _ _ (by decide)).trans h4)),(by rw [upd_same,h6,(congrArg Blk.ver h653)]; rfl),(by rw [upd_ne _ _ (by decide),upd_same,(congrArg Blk.ver h653)]),trivial⟩ ?_
   intro T H ⟨t1,t2,t4,t6,t7,h2,h4,h6,h653,_⟩
   refine W_seq_blockg fun Q17 n17 x17 y17 z17=>?_
   refine W_loop (fun mm T H=> ∃ (k:Nat) (w:Nat),mm=f.kids.length - k∧T 1=(V.bool b)∧T 2=(V.mp 2 1 0 0)∧T 4=(V.mp 4 1 0 0)∧T 6=(V.mp 6 1 0 0)∧T 7=(iV ((k:Nat):Int))∧H 2=(bk 1 24 3 [[(iV (f.op)),(iV (f.arg)),(V.sl (List.map cF (f.kids)))]])∧H 4=(bk 1 24 3 [[(iV (0:Int)),(iV (0:Int)),V.nilsl]])∧H 6=(bk 1 24 3 [[(iV (nop f.op b)),(iV (0:Int)),(V.ms 653 w 0 (k))]])∧H 653=(bz w 24 3 (List.map cF ((f.kids.take k).map (fun g=>nrm g b))))∧(k≤f.kids.length)) ?_ ?_
   ·
    refine ⟨_,0,1,rfl,t1,t2,t4,t6,(Eq.trans t7 rfl),h2,h4,(Eq.trans h6 (by (exact bk_op (by simp only [nop,dualI,hb,if_true,Bool.false_eq_true,if_false]; repeat (first|rfl|omega|split))))),(Eq.trans h653 (by rfl)),?_⟩
    · omega
   intro mm T H ⟨k,w,hmm,t1,t2,t4,t6,t7,h2,h4,h6,h653,hk⟩ Q18 p118 p218 p318
   unfold b39_0
   refine W_seq_seq (W_r (R_mv t7 (R_fk t2 h2 (R_lk rfl h2 rfl rfl (R_len rfl (R_lss rfl rfl (R_e ?_)))))))
   refine W_seq_if rfl (fun c19=>?_) fun c19=>?_
   ·
    refine W_seq_skip (W_seq_blockg fun Q20 n20 x20 y20 z20=>(W_t (R_fk t6 h6 (R_lk rfl h6 rfl rfl (R_fk t2 h2 (R_lk rfl h2 rfl rfl (R_mv t7 ?_)))))))
    refine R_idxu (i:=k) (@rfl V (V.sl (List.map cF (f.kids)))) (@rfl V (iV ((k:Nat):Int))) (by omega) (cF_eq _) rfl (R_load_pp rfl rfl (R_mv t1 (R_callk (ih (((nth (f.kids) (k)))) b (Fm.sz_kid (by omega)) (hp.2 _ (by omega)) (Nat.le_trans (Nat.le_of_lt (Fm.sz_kid (by omega))) hz)) rfl (R_bslice rfl rfl (R_append1 (l:=((f.kids.take k).map (fun g=>nrm g b))) (f:=cF) (x:=((nrm (((nth (f.kids) (k)))) b))) (@rfl V (V.ms 653 w 0 (k))) h653 (by (simp; omega)) (row_F1 (x:=((nrm (((nth (f.kids) (k)))) b))) (@rfl V (V.sl [[(iV ((nrm (((nth (f.kids) (k)))) b).op)),(iV ((nrm (((nth (f.kids) (k)))) b).arg)),(V.sl (List.map cF ((nrm (((nth (f.kids) (k)))) b).kids)))]]))) (cF_len _) (cF_one _) (by omega) (by omega) (R_fk t6 h6 (R_sk rfl rfl rfl h6 rfl rfl rfl rfl rfl ?_)))))))
    refine R_e (n20 _ _ (.done (W_t (R_mv t7 (R_addN rfl (@rfl V (iV ((1:Nat):Int))) (by omega) (R_mv rfl (R_e ?_)))))))
    refine p118 _ _ _ ?_ ⟨(k+1),(w+1),rfl,t1,t2,t4,t6,(Eq.trans (@rfl V (iV ((k+1:Nat):Int))) (by rfl)),h2,h4,(Eq.trans (@rfl Blk (bk 1 24 3 [[(iV (nop f.op b)),(iV (0:Int)),(V.ms 653 (w+1) 0 (k+1))]])) (by rfl)),(Eq.trans (@rfl Blk (bz (w+1) 24 3 (List.map cF ((f.kids.take k).map (fun g=>nrm g b)++[(nrm (((nth (f.kids) (k)))) b)])))) (by (rw [mapTake (by omega)]; done))),?_⟩
    · omega
    · omega
   refine W_seq_exit (p318 _ _ _ (x17 _ _ (.done (W_r (R_lk t6 h6 rfl rfl (R_sk t4 rfl rfl h4 rfl rfl rfl rfl rfl (R_e ?_)))))))
   refine W_ret ?_
   refine RetC_1 (resV_c (u:=(V.agg [(iV (nop f.op b)),(iV (0:Int)),(V.ms 653 w 0 (k))])) t4 (@rfl Blk (bk 1 24 3 [[(iV (nop f.op b)),(iV (0:Int)),(V.ms 653 w 0 (k))]])) (lB oB rfl rfl)) (fz_agg3 (fz_int ?_) (fz_int ?_) (fz_ms h653 (by simp) (l:=((f.kids.take k).map (fun g=>nrm g b))) rfl (by (simp; omega)) (fun _=>by simp) ?_))
   · rw [nrm_node (by omega) (by omega)]; rfl
   · rw [nrm_node (by omega) (by omega)]; rfl
   · rw [nrm_node (by omega) (by omega)]; first|rfl|(show _=List.map _ f.kids; rw [show k=f.kids.length by omega,List.take_length]; done)
  refine W_r (R_eql rfl rfl (R_mv rfl (R_e ?_)))
  refine W_if rfl (fun c21=>?_) fun c21=>?_
  ·
   refine W_t (R_mv rfl (R_e (n5 _ _ (.done (W_r (R_mv rfl (R_build rfl rfl ?_)))))))
   refine R_alloc (i:=6) (n:=0) (m:=3) rfl (congrArg Blk.ver rfl) rfl (R_sk rfl rfl rfl rfl rfl rfl rfl rfl rfl (R_e (W_seq_seq ?_)))
   refine W_seq_g (fun T H=>T 1=(V.bool b)∧T 2=(V.mp 2 1 0 0)∧T 4=(V.mp 4 1 0 0)∧T 6=(V.mp 6 1 0 0)∧T 7=(iV (0:Int))∧H 2=(bk 1 24 3 [[(iV (f.op)),(iV (f.arg)),(V.sl (List.map cF (f.kids)))]])∧H 4=(bk 1 24 3 [[(iV (0:Int)),(iV (0:Int)),V.nilsl]])∧H 6=(bk 1 24 3 [[(iV (7:Int)),(iV (0:Int)),V.nilsl]])∧H 653=(⟨0,false,false,0,0,[]⟩:Blk)∧True) ?_ ?_
   ·
    refine R_mv rfl ?_
    exact R_nil ⟨rfl,rfl,rfl,rfl,rfl,rfl,rfl,rfl,rfl,trivial⟩
   intro T H ⟨t1,t2,t4,t6,t7,h2,h4,h6,h653,_⟩
   refine .lazyCell 653 24 3 6 0 2 [(iV (7:Int)),(iV (0:Int)),V.nilsl] (by decide) (by rw [h6]; rfl) (by rw [h6]; rfl) rfl (.done ?_)
   refine fork_ (R:=fun T H=>T 1=(V.bool b)∧T 2=(V.mp 2 1 0 0)∧T 4=(V.mp 4 1 0 0)∧T 6=(V.mp 6 1 0 0)∧T 7=(iV (0:Int))∧H 2=(bk 1 24 3 [[(iV (f.op)),(iV (f.arg)),(V.sl (List.map cF (f.kids)))]])∧H 4=(bk 1 24 3 [[(iV (0:Int)),(iV (0:Int)),V.nilsl]])∧H 6=(bk 1 24 3 [[(iV (7:Int)),(iV (0:Int)),(V.ms 653 1 0 (0))]])∧H 653=(bz 1 24 3 [])∧True) ⟨t1,t2,t4,t6,t7,((upd_ne _ _ (by decide)).trans ((upd_ne _ _ (by decide)).trans h2)),((upd_ne _ _ (by decide)).trans ((upd_ne _ _ (by decide)).trans h4)),(by rw [upd_same,h6,(congrArg Blk.ver h653)]; rfl),(by rw [upd_ne _ _ (by decide),upd_same,(congrArg Blk.ver h653)]),trivial⟩ ?_
   intro T H ⟨t1,t2,t4,t6,t7,h2,h4,h6,h653,_⟩
   refine W_seq_blockg fun Q22 n22 x22 y22 z22=>?_
   refine W_loop (fun mm T H=> ∃ (k:Nat) (w:Nat),mm=f.kids.length - k∧T 1=(V.bool b)∧T 2=(V.mp 2 1 0 0)∧T 4=(V.mp 4 1 0 0)∧T 6=(V.mp 6 1 0 0)∧T 7=(iV ((k:Nat):Int))∧H 2=(bk 1 24 3 [[(iV (f.op)),(iV (f.arg)),(V.sl (List.map cF (f.kids)))]])∧H 4=(bk 1 24 3 [[(iV (0:Int)),(iV (0:Int)),V.nilsl]])∧H 6=(bk 1 24 3 [[(iV (nop f.op b)),(iV (0:Int)),(V.ms 653 w 0 (k))]])∧H 653=(bz w 24 3 (List.map cF ((f.kids.take k).map (fun g=>nrm g b))))∧(k≤f.kids.length)) ?_ ?_
   ·
    refine ⟨_,0,1,rfl,t1,t2,t4,t6,(Eq.trans t7 rfl),h2,h4,(Eq.trans h6 (by (exact bk_op (by simp only [nop,dualI,hb,if_true,Bool.false_eq_true,if_false]; repeat (first|rfl|omega|split))))),(Eq.trans h653 (by rfl)),?_⟩
    · omega
   intro mm T H ⟨k,w,hmm,t1,t2,t4,t6,t7,h2,h4,h6,h653,hk⟩ Q23 p123 p223 p323
   unfold b39_0
   refine W_seq_seq (W_r (R_mv t7 (R_fk t2 h2 (R_lk rfl h2 rfl rfl (R_len rfl (R_lss rfl rfl (R_e ?_)))))))
   refine W_seq_if rfl (fun c24=>?_) fun c24=>?_
   ·
    refine W_seq_skip (W_seq_blockg fun Q25 n25 x25 y25 z25=>(W_t (R_fk t6 h6 (R_lk rfl h6 rfl rfl (R_fk t2 h2 (R_lk rfl h2 rfl rfl (R_mv t7 ?_)))))))
    refine R_idxu (i:=k) (@rfl V (V.sl (List.map cF (f.kids)))) (@rfl V (iV ((k:Nat):Int))) (by omega) (cF_eq _) rfl (R_load_pp rfl rfl (R_mv t1 (R_callk (ih (((nth (f.kids) (k)))) b (Fm.sz_kid (by omega)) (hp.2 _ (by omega)) (Nat.le_trans (Nat.le_of_lt (Fm.sz_kid (by omega))) hz)) rfl (R_bslice rfl rfl (R_append1 (l:=((f.kids.take k).map (fun g=>nrm g b))) (f:=cF) (x:=((nrm (((nth (f.kids) (k)))) b))) (@rfl V (V.ms 653 w 0 (k))) h653 (by (simp; omega)) (row_F1 (x:=((nrm (((nth (f.kids) (k)))) b))) (@rfl V (V.sl [[(iV ((nrm (((nth (f.kids) (k)))) b).op)),(iV ((nrm (((nth (f.kids) (k)))) b).arg)),(V.sl (List.map cF ((nrm (((nth (f.kids) (k)))) b).kids)))]]))) (cF_len _) (cF_one _) (by omega) (by omega) (R_fk t6 h6 (R_sk rfl rfl rfl h6 rfl rfl rfl rfl rfl ?_)))))))
    refine R_e (n25 _ _ (.done (W_t (R_mv t7 (R_addN rfl (@rfl V (iV ((1:Nat):Int))) (by omega) (R_mv rfl (R_e ?_)))))))
    refine p123 _ _ _ ?_ ⟨(k+1),(w+1),rfl,t1,t2,t4,t6,(Eq.trans (@rfl V (iV ((k+1:Nat):Int))) (by rfl)),h2,h4,(Eq.trans (@rfl Blk (bk 1 24 3 [[(iV (nop f.op b)),(iV (0:Int)),(V.ms 653 (w+1) 0 (k+1))]])) (by rfl)),(Eq.trans (@rfl Blk (bz (w+1) 24 3 (List.map cF ((f.kids.take k).map (fun g=>nrm g b)++[(nrm (((nth (f.kids) (k)))) b)])))) (by (rw [mapTake (by omega)]; done))),?_⟩
    · omega
    · omega
   refine W_seq_exit (p323 _ _ _ (x22 _ _ (.done (W_r (R_lk t6 h6 rfl rfl (R_sk t4 rfl rfl h4 rfl rfl rfl rfl rfl (R_e ?_)))))))
   refine W_ret ?_
   refine RetC_1 (resV_c (u:=(V.agg [(iV (nop f.op b)),(iV (0:Int)),(V.ms 653 w 0 (k))])) t4 (@rfl Blk (bk 1 24 3 [[(iV (nop f.op b)),(iV (0:Int)),(V.ms 653 w 0 (k))]])) (lB oB rfl rfl)) (fz_agg3 (fz_int ?_) (fz_int ?_) (fz_ms h653 (by simp) (l:=((f.kids.take k).map (fun g=>nrm g b))) rfl (by (simp; omega)) (fun _=>by simp) ?_))
   · rw [nrm_node (by omega) (by omega)]; rfl
   · rw [nrm_node (by omega) (by omega)]; rfl
   · rw [nrm_node (by omega) (by omega)]; first|rfl|(show _=List.map _ f.kids; rw [show k=f.kids.length by omega,List.take_length]; done)
  refine W_r (R_eql rfl rfl (R_mv rfl (R_e ?_)))
  refine W_if rfl (fun c26=>?_) fun c26=>?_
  ·
   refine W_t (R_mv rfl (R_e (n5 _ _ (.done (W_r (R_mv rfl (R_build rfl rfl ?_)))))))
   refine R_alloc (i:=6) (n:=0) (m:=3) rfl (congrArg Blk.ver rfl) rfl (R_sk rfl rfl rfl rfl rfl rfl rfl rfl rfl (R_e (W_seq_seq ?_)))
   refine W_seq_g (fun T H=>T 1=(V.bool b)∧T 2=(V.mp 2 1 0 0)∧T 4=(V.mp 4 1 0 0)∧T 6=(V.mp 6 1 0 0)∧T 7=(iV (0:Int))∧H 2=(bk 1 24 3 [[(iV (f.op)),(iV (f.arg)),(V.sl (List.map cF (f.kids)))]])∧H 4=(bk 1 24 3 [[(iV (0:Int)),(iV (0:Int)),V.nilsl]])∧H 6=(bk 1 24 3 [[(iV (10:Int)),(iV (0:Int)),V.nilsl]])∧H 653=(⟨0,false,false,0,0,[]⟩:Blk)∧True) ?_ ?_
   ·
    refine R_mv rfl ?_
    exact R_nil ⟨rfl,rfl,rfl,rfl,rfl,rfl,rfl,rfl,rfl,trivial⟩
   intro T H ⟨t1,t2,t4,t6,t7,h2,h4,h6,h653,_⟩
   refine .lazyCell 653 24 3 6 0 2 [(iV (10:Int)),(iV (0:Int)),V.nilsl] (by decide) (by rw [h6]; rfl) (by rw [h6]; rfl) rfl (.done ?_)
   refine fork_ (R:=fun T H=>T 1=(V.bool b)∧T 2=(V.mp 2 1 0 0)∧T 4=(V.mp 4 1 0 0)∧T 6=(V.mp 6 1 0 0)∧T 7=(iV (0:Int))∧H 2=(bk 1 24 3 [[(iV (f.op)),(iV (f.arg)),(V.sl (List.map cF (f.kids)))]])∧H 4=(bk 1 24 3 [[(iV (0:Int)),(iV (0:Int)),V.nilsl]])∧H 6=(bk 1 24 3 [[(iV (10:Int)),(iV (0:Int)),(V.ms 653 1 0 (0))]])∧H 653=(bz 1 24 3 [])∧True) ⟨t1,t2,t4,t6,t7,((upd_ne _ _ (by decide)).trans ((upd_ne _ _ (by decide)).trans h2)),((upd_ne _ _ (by decide)).trans ((upd_ne _ _ (by decide)).trans h4)),(by rw [upd_same,h6,(congrArg Blk.ver h653)]; rfl),(by rw [upd_ne _ _ (by decide),upd_same,(congrArg Blk.ver h653)]),trivial⟩ ?_
   intro T H ⟨t1,t2,t4,t6,t7,h2,h4,h6,h653,_⟩
   refine W_seq_blockg fun Q27 n27 x27 y27 z27=>?_
   refine W_loop (fun mm T H=> ∃ (k:Nat) (w:Nat),mm=f.kids.length - k∧T 1=(V.bool b)∧T 2=(V.mp 2 1 0 0)∧T 4=(V.mp 4 1 0 0)∧T 6=(V.mp 6 1 0 0)∧T 7=(iV ((k:Nat):Int))∧H 2=(bk 1 24 3 [[(iV (f.op)),(iV (f.arg)),(V.sl (List.map cF (f.kids)))]])∧H 4=(bk 1 24 3 [[(iV (0:Int)),(iV (0:Int)),V.nilsl]])∧H 6=(bk 1 24 3 [[(iV (nop f.op b)),(iV (0:Int)),(V.ms 653 w 0 (k))]])∧H 653=(bz w 24 3 (List.map cF ((f.kids.take k).map (fun g=>nrm g b))))∧(k≤f.kids.length)) ?_ ?_
   ·
    refine ⟨_,0,1,rfl,t1,t2,t4,t6,(Eq.trans t7 rfl),h2,h4,(Eq.trans h6 (by (exact bk_op (by simp only [nop,dualI,hb,if_true,Bool.false_eq_true,if_false]; repeat (first|rfl|omega|split))))),(Eq.trans h653 (by rfl)),?_⟩
    · omega
   intro mm T H ⟨k,w,hmm,t1,t2,t4,t6,t7,h2,h4,h6,h653,hk⟩ Q28 p128 p228 p328
   unfold b39_0
   refine W_seq_seq (W_r (R_mv t7 (R_fk t2 h2 (R_lk rfl h2 rfl rfl (R_len rfl (R_lss rfl rfl (R_e ?_)))))))
   refine W_seq_if rfl (fun c29=>?_) fun c29=>?_
   ·
    refine W_seq_skip (W_seq_blockg fun Q30 n30 x30 y30 z30=>(W_t (R_fk t6 h6 (R_lk rfl h6 rfl rfl (R_fk t2 h2 (R_lk rfl h2 rfl rfl (R_mv t7 ?_)))))))
    refine R_idxu (i:=k) (@rfl V (V.sl (List.map cF (f.kids)))) (@rfl V (iV ((k:Nat):Int))) (by omega) (cF_eq _) rfl (R_load_pp rfl rfl (R_mv t1 (R_callk (ih (((nth (f.kids) (k)))) b (Fm.sz_kid (by omega)) (hp.2 _ (by omega)) (Nat.le_trans (Nat.le_of_lt (Fm.sz_kid (by omega))) hz)) rfl (R_bslice rfl rfl (R_append1 (l:=((f.kids.take k).map (fun g=>nrm g b))) (f:=cF) (x:=((nrm (((nth (f.kids) (k)))) b))) (@rfl V (V.ms 653 w 0 (k))) h653 (by (simp; omega)) (row_F1 (x:=((nrm (((nth (f.kids) (k)))) b))) (@rfl V (V.sl [[(iV ((nrm (((nth (f.kids) (k)))) b).op)),(iV ((nrm (((nth (f.kids) (k)))) b).arg)),(V.sl (List.map cF ((nrm (((nth (f.kids) (k)))) b).kids)))]]))) (cF_len _) (cF_one _) (by omega) (by omega) (R_fk t6 h6 (R_sk rfl rfl rfl h6 rfl rfl rfl rfl rfl ?_)))))))
    refine R_e (n30 _ _ (.done (W_t (R_mv t7 (R_addN rfl (@rfl V (iV ((1:Nat):Int))) (by omega) (R_mv rfl (R_e ?_)))))))
    refine p128 _ _ _ ?_ ⟨(k+1),(w+1),rfl,t1,t2,t4,t6,(Eq.trans (@rfl V (iV ((k+1:Nat):Int))) (by rfl)),h2,h4,(Eq.trans (@rfl Blk (bk 1 24 3 [[(iV (nop f.op b)),(iV (0:Int)),(V.ms 653 (w+1) 0 (k+1))]])) (by rfl)),(Eq.trans (@rfl Blk (bz (w+1) 24 3 (List.map cF ((f.kids.take k).map (fun g=>nrm g b)++[(nrm (((nth (f.kids) (k)))) b)])))) (by (rw [mapTake (by omega)]; done))),?_⟩
    · omega
    · omega
   refine W_seq_exit (p328 _ _ _ (x27 _ _ (.done (W_r (R_lk t6 h6 rfl rfl (R_sk t4 rfl rfl h4 rfl rfl rfl rfl rfl (R_e ?_)))))))
   refine W_ret ?_
   refine RetC_1 (resV_c (u:=(V.agg [(iV (nop f.op b)),(iV (0:Int)),(V.ms 653 w 0 (k))])) t4 (@rfl Blk (bk 1 24 3 [[(iV (nop f.op b)),(iV (0:Int)),(V.ms 653 w 0 (k))]])) (lB oB rfl rfl)) (fz_agg3 (fz_int ?_) (fz_int ?_) (fz_ms h653 (by simp) (l:=((f.kids.take k).map (fun g=>nrm g b))) rfl (by (simp; omega)) (fun _=>by simp) ?_))
   · rw [nrm_node (by omega) (by omega)]; rfl
   · rw [nrm_node (by omega) (by omega)]; rfl
   · rw [nrm_node (by omega) (by omega)]; first|rfl|(show _=List.map _ f.kids; rw [show k=f.kids.length by omega,List.take_length]; done)
  refine W_r (R_eql rfl rfl (R_mv rfl (R_e ?_)))
  refine W_if rfl (fun c31=>?_) fun c31=>?_
  ·
   refine W_t (R_mv rfl (R_e (n5 _ _ (.done (W_r (R_mv rfl (R_build rfl rfl ?_)))))))
   refine R_alloc (i:=6) (n:=0) (m:=3) rfl (congrArg Blk.ver rfl) rfl (R_sk rfl rfl rfl rfl rfl rfl rfl rfl rfl (R_e (W_seq_seq ?_)))
   refine W_seq_g (fun T H=>T 1=(V.bool b)∧T 2=(V.mp 2 1 0 0)∧T 4=(V.mp 4 1 0 0)∧T 6=(V.mp 6 1 0 0)∧T 7=(iV (0:Int))∧H 2=(bk 1 24 3 [[(iV (f.op)),(iV (f.arg)),(V.sl (List.map cF (f.kids)))]])∧H 4=(bk 1 24 3 [[(iV (0:Int)),(iV (0:Int)),V.nilsl]])∧H 6=(bk 1 24 3 [[(iV (8:Int)),(iV (0:Int)),V.nilsl]])∧H 653=(⟨0,false,false,0,0,[]⟩:Blk)∧True) ?_ ?_
   ·
    refine R_mv rfl ?_
    exact R_nil ⟨rfl,rfl,rfl,rfl,rfl,rfl,rfl,rfl,rfl,trivial⟩
   intro T H ⟨t1,t2,t4,t6,t7,h2,h4,h6,h653,_⟩
   refine .lazyCell 653 24 3 6 0 2 [(iV (8:Int)),(iV (0:Int)),V.nilsl] (by decide) (by rw [h6]; rfl) (by rw [h6]; rfl) rfl (.done ?_)
   refine fork_ (R:=fun T H=>T 1=(V.bool b)∧T 2=(V.mp 2 1 0 0)∧T 4=(V.mp 4 1 0 0)∧T 6=(V.mp 6 1 0 0)∧T 7=(iV (0:Int))∧H 2=(bk 1 24 3 [[(iV (f.op)),(iV (f.arg)),(V.sl (List.map cF (f.kids)))]])∧H 4=(bk 1 24 3 [[(iV (0:Int)),(iV (0:Int)),V.nilsl]])∧H 6=(bk 1 24 3 [[(iV (8:Int)),(iV (0:Int)),(V.ms 653 1 0 (0))]])∧H 653=(bz 1 24 3 [])∧True) ⟨t1,t2,t4,t6,t7,((upd_ne _ _ (by decide)).trans ((upd_ne _ _ (by decide)).trans h2)),((upd_ne _ _ (by decide)).trans ((upd_ne _ _ (by decide)).trans h4)),(by rw [upd_same,h6,(congrArg Blk.ver h653)]; rfl),(by rw [upd_ne _ _ (by decide),upd_same,(congrArg Blk.ver h653)]),trivial⟩ ?_
   intro T H ⟨t1,t2,t4,t6,t7,h2,h4,h6,h653,_⟩
   refine W_seq_blockg fun Q32 n32 x32 y32 z32=>?_
   refine W_loop (fun mm T H=> ∃ (k:Nat) (w:Nat),mm=f.kids.length - k∧T 1=(V.bool b)∧T 2=(V.mp 2 1 0 0)∧T 4=(V.mp 4 1 0 0)∧T 6=(V.mp 6 1 0 0)∧T 7=(iV ((k:Nat):Int))∧H 2=(bk 1 24 3 [[(iV (f.op)),(iV (f.arg)),(V.sl (List.map cF (f.kids)))]])∧H 4=(bk 1 24 3 [[(iV (0:Int)),(iV (0:Int)),V.nilsl]])∧H 6=(bk 1 24 3 [[(iV (nop f.op b)),(iV (0:Int)),(V.ms 653 w 0 (k))]])∧H 653=(bz w 24 3 (List.map cF ((f.kids.take k).map (fun g=>nrm g b))))∧(k≤f.kids.length)) ?_ ?_
   ·
    refine ⟨_,0,1,rfl,t1,t2,t4,t6,(Eq.trans t7 rfl),h2,h4,(Eq.trans h6 (by (exact bk_op (by simp only [nop,dualI,hb,if_true,Bool.false_eq_true,if_false]; repeat (first|rfl|omega|split))))),(Eq.trans h653 (by rfl)),?_⟩
    · omega
   intro mm T H ⟨k,w,hmm,t1,t2,t4,t6,t7,h2,h4,h6,h653,hk⟩ Q33 p133 p233 p333
   unfold b39_0
   refine W_seq_seq (W_r (R_mv t7 (R_fk t2 h2 (R_lk rfl h2 rfl rfl (R_len rfl (R_lss rfl rfl (R_e ?_)))))))
   refine W_seq_if rfl (fun c34=>?_) fun c34=>?_
   ·
    refine W_seq_skip (W_seq_blockg fun Q35 n35 x35 y35 z35=>(W_t (R_fk t6 h6 (R_lk rfl h6 rfl rfl (R_fk t2 h2 (R_lk rfl h2 rfl rfl (R_mv t7 ?_)))))))
    refine R_idxu (i:=k) (@rfl V (V.sl (List.map cF (f.kids)))) (@rfl V (iV ((k:Nat):Int))) (by omega) (cF_eq _) rfl (R_load_pp rfl rfl (R_mv t1 (R_callk (ih (((nth (f.kids) (k)))) b (Fm.sz_kid (by omega)) (hp.2 _ (by omega)) (Nat.le_trans (Nat.le_of_lt (Fm.sz_kid (by omega))) hz)) rfl (R_bslice rfl rfl (R_append1 (l:=((f.kids.take k).map (fun g=>nrm g b))) (f:=cF) (x:=((nrm (((nth (f.kids) (k)))) b))) (@rfl V (V.ms 653 w 0 (k))) h653 (by (simp; omega)) (row_F1 (x:=((nrm (((nth (f.kids) (k)))) b))) (@rfl V (V.sl [[(iV ((nrm (((nth (f.kids) (k)))) b).op)),(iV ((nrm (((nth (f.kids) (k)))) b).arg)),(V.sl (List.map cF ((nrm (((nth (f.kids) (k)))) b).kids)))]]))) (cF_len _) (cF_one _) (by omega) (by omega) (R_fk t6 h6 (R_sk rfl rfl rfl h6 rfl rfl rfl rfl rfl ?_)))))))
    refine R_e (n35 _ _ (.done (W_t (R_mv t7 (R_addN rfl (@rfl V (iV ((1:Nat):Int))) (by omega) (R_mv rfl (R_e ?_)))))))
    refine p133 _ _ _ ?_ ⟨(k+1),(w+1),rfl,t1,t2,t4,t6,(Eq.trans (@rfl V (iV ((k+1:Nat):Int))) (by rfl)),h2,h4,(Eq.trans (@rfl Blk (bk 1 24 3 [[(iV (nop f.op b)),(iV (0:Int)),(V.ms 653 (w+1) 0 (k+1))]])) (by rfl)),(Eq.trans (@rfl Blk (bz (w+1) 24 3 (List.map cF ((f.kids.take k).map (fun g=>nrm g b)++[(nrm (((nth (f.kids) (k)))) b)])))) (by (rw [mapTake (by omega)]; done))),?_⟩
    · omega
    · omega
   refine W_seq_exit (p333 _ _ _ (x32 _ _ (.done (W_r (R_lk t6 h6 rfl rfl (R_sk t4 rfl rfl h4 rfl rfl rfl rfl rfl (R_e ?_)))))))
   refine W_ret ?_
   refine RetC_1 (resV_c (u:=(V.agg [(iV (nop f.op b)),(iV (0:Int)),(V.ms 653 w 0 (k))])) t4 (@rfl Blk (bk 1 24 3 [[(iV (nop f.op b)),(iV (0:Int)),(V.ms 653 w 0 (k))]])) (lB oB rfl rfl)) (fz_agg3 (fz_int ?_) (fz_int ?_) (fz_ms h653 (by simp) (l:=((f.kids.take k).map (fun g=>nrm g b))) rfl (by (simp; omega)) (fun _=>by simp) ?_))
   · rw [nrm_node (by omega) (by omega)]; rfl
   · rw [nrm_node (by omega) (by omega)]; rfl
   · rw [nrm_node (by omega) (by omega)]; first|rfl|(show _=List.map _ f.kids; rw [show k=f.kids.length by omega,List.take_length]; done)
  · exfalso; omega
 have hb:b=false:=by simpa using c4
 refine W_seq_skip (W_r (R_mv rfl (R_build rfl rfl (R_alloc (i:=6) (n:=0) (m:=3) rfl (congrArg Blk.ver rfl) rfl (R_sk rfl rfl rfl rfl rfl rfl rfl rfl rfl (R_e (W_seq_seq ?_)))))))
 refine W_seq_g (fun T H=>T 1=(V.bool b)∧T 2=(V.mp 2 1 0 0)∧T 4=(V.mp 4 1 0 0)∧T 6=(V.mp 6 1 0 0)∧T 7=(iV (0:Int))∧H 2=(bk 1 24 3 [[(iV (f.op)),(iV (f.arg)),(V.sl (List.map cF (f.kids)))]])∧H 4=(bk 1 24 3 [[(iV (0:Int)),(iV (0:Int)),V.nilsl]])∧H 6=(bk 1 24 3 [[(iV (f.op)),(iV (0:Int)),V.nilsl]])∧H 653=(⟨0,false,false,0,0,[]⟩:Blk)∧True) ?_ ?_
 ·
  refine R_mv rfl ?_
  exact R_nil ⟨rfl,rfl,rfl,rfl,rfl,rfl,rfl,rfl,rfl,trivial⟩
 intro T H ⟨t1,t2,t4,t6,t7,h2,h4,h6,h653,_⟩
 refine .lazyCell 653 24 3 6 0 2 [(iV (f.op)),(iV (0:Int)),V.nilsl] (by decide) (by rw [h6]; rfl) (by rw [h6]; rfl) rfl (.done ?_)
 refine fork_ (R:=fun T H=>T 1=(V.bool b)∧T 2=(V.mp 2 1 0 0)∧T 4=(V.mp 4 1 0 0)∧T 6=(V.mp 6 1 0 0)∧T 7=(iV (0:Int))∧H 2=(bk 1 24 3 [[(iV (f.op)),(iV (f.arg)),(V.sl (List.map cF (f.kids)))]])∧H 4=(bk 1 24 3 [[(iV (0:Int)),(iV (0:Int)),V.nilsl]])∧H 6=(bk 1 24 3 [[(iV (f.op)),(iV (0:Int)),(V.ms 653 1 0 (0))]])∧H 653=(bz 1 24 3 [])∧True) ⟨t1,t2,t4,t6,t7,((upd_ne _ _ (by decide)).trans ((upd_ne _ _ (by decide)).trans h2)),((upd_ne _ _ (by decide)).trans ((upd_ne _ _ (by decide)).trans h4)),(by rw [upd_same,h6,(congrArg Blk.ver h653)]; rfl),(by rw [upd_ne _ _ (by decide),upd_same,(congrArg Blk.ver h653)]),trivial⟩ ?_
 intro T H ⟨t1,t2,t4,t6,t7,h2,h4,h6,h653,_⟩
 refine W_seq_blockg fun Q36 n36 x36 y36 z36=>?_
 refine W_loop (fun mm T H=> ∃ (k:Nat) (w:Nat),mm=f.kids.length - k∧T 1=(V.bool b)∧T 2=(V.mp 2 1 0 0)∧T 4=(V.mp 4 1 0 0)∧T 6=(V.mp 6 1 0 0)∧T 7=(iV ((k:Nat):Int))∧H 2=(bk 1 24 3 [[(iV (f.op)),(iV (f.arg)),(V.sl (List.map cF (f.kids)))]])∧H 4=(bk 1 24 3 [[(iV (0:Int)),(iV (0:Int)),V.nilsl]])∧H 6=(bk 1 24 3 [[(iV (nop f.op b)),(iV (0:Int)),(V.ms 653 w 0 (k))]])∧H 653=(bz w 24 3 (List.map cF ((f.kids.take k).map (fun g=>nrm g b))))∧(k≤f.kids.length)) ?_ ?_
 ·
  refine ⟨_,0,1,rfl,t1,t2,t4,t6,(Eq.trans t7 rfl),h2,h4,(Eq.trans h6 (by (exact bk_op (by simp only [nop,dualI,hb,if_true,Bool.false_eq_true,if_false]; repeat (first|rfl|omega|split))))),(Eq.trans h653 (by rfl)),?_⟩
  · omega
 intro mm T H ⟨k,w,hmm,t1,t2,t4,t6,t7,h2,h4,h6,h653,hk⟩ Q37 p137 p237 p337
 unfold b39_0
 refine W_seq_seq (W_r (R_mv t7 (R_fk t2 h2 (R_lk rfl h2 rfl rfl (R_len rfl (R_lss rfl rfl (R_e ?_)))))))
 refine W_seq_if rfl (fun c38=>?_) fun c38=>?_
 ·
  refine W_seq_skip (W_seq_blockg fun Q39 n39 x39 y39 z39=>(W_t (R_fk t6 h6 (R_lk rfl h6 rfl rfl (R_fk t2 h2 (R_lk rfl h2 rfl rfl (R_mv t7 ?_)))))))
  refine R_idxu (i:=k) (@rfl V (V.sl (List.map cF (f.kids)))) (@rfl V (iV ((k:Nat):Int))) (by omega) (cF_eq _) rfl (R_load_pp rfl rfl (R_mv t1 (R_callk (ih (((nth (f.kids) (k)))) b (Fm.sz_kid (by omega)) (hp.2 _ (by omega)) (Nat.le_trans (Nat.le_of_lt (Fm.sz_kid (by omega))) hz)) rfl (R_bslice rfl rfl (R_append1 (l:=((f.kids.take k).map (fun g=>nrm g b))) (f:=cF) (x:=((nrm (((nth (f.kids) (k)))) b))) (@rfl V (V.ms 653 w 0 (k))) h653 (by (simp; omega)) (row_F1 (x:=((nrm (((nth (f.kids) (k)))) b))) (@rfl V (V.sl [[(iV ((nrm (((nth (f.kids) (k)))) b).op)),(iV ((nrm (((nth (f.kids) (k)))) b).arg)),(V.sl (List.map cF ((nrm (((nth (f.kids) (k)))) b).kids)))]]))) (cF_len _) (cF_one _) (by omega) (by omega) (R_fk t6 h6 (R_sk rfl rfl rfl h6 rfl rfl rfl rfl rfl ?_)))))))
  refine R_e (n39 _ _ (.done (W_t (R_mv t7 (R_addN rfl (@rfl V (iV ((1:Nat):Int))) (by omega) (R_mv rfl (R_e ?_)))))))
  refine p137 _ _ _ ?_ ⟨(k+1),(w+1),rfl,t1,t2,t4,t6,(Eq.trans (@rfl V (iV ((k+1:Nat):Int))) (by rfl)),h2,h4,(Eq.trans (@rfl Blk (bk 1 24 3 [[(iV (nop f.op b)),(iV (0:Int)),(V.ms 653 (w+1) 0 (k+1))]])) (by rfl)),(Eq.trans (@rfl Blk (bz (w+1) 24 3 (List.map cF ((f.kids.take k).map (fun g=>nrm g b)++[(nrm (((nth (f.kids) (k)))) b)])))) (by (rw [mapTake (by omega)]; done))),?_⟩
  · omega
  · omega
 refine W_seq_exit (p337 _ _ _ (x36 _ _ (.done (W_r (R_lk t6 h6 rfl rfl (R_sk t4 rfl rfl h4 rfl rfl rfl rfl rfl (R_e ?_)))))))
 refine W_ret ?_
 refine RetC_1 (resV_c (u:=(V.agg [(iV (nop f.op b)),(iV (0:Int)),(V.ms 653 w 0 (k))])) t4 (@rfl Blk (bk 1 24 3 [[(iV (nop f.op b)),(iV (0:Int)),(V.ms 653 w 0 (k))]])) (lB oB rfl rfl)) (fz_agg3 (fz_int ?_) (fz_int ?_) (fz_ms h653 (by simp) (l:=((f.kids.take k).map (fun g=>nrm g b))) rfl (by (simp; omega)) (fun _=>by simp) ?_))
 · rw [nrm_node (by omega) (by omega)]; rfl
 · rw [nrm_node (by omega) (by omega)]; rfl
 · rw [nrm_node (by omega) (by omega)]; first|rfl|(show _=List.map _ f.kids; rw [show k=f.kids.length by omega,List.take_length]; done)
theorem rnormal_pure (f:Fm) (b:Bool) (hf:okF f=true) (hz:f.sz≤4096):PureC Tryz.prog 39 [(V.agg [(iV (f.op)),(iV (f.arg)),(V.sl (List.map cF (f.kids)))]),(V.bool b)] (V.agg [(iV ((nrm f b).op)),(iV ((nrm f b).arg)),(V.sl (List.map cF ((nrm f b).kids)))]):=by
  have key: ∀ (mm:Nat) (f:Fm) (b:Bool),f.sz < mm→okF f=true→f.sz≤4096→PureC Tryz.prog 39 [(V.agg [(iV (f.op)),(iV (f.arg)),(V.sl (List.map cF (f.kids)))]),(V.bool b)] (V.agg [(iV ((nrm f b).op)),(iV ((nrm f b).arg)),(V.sl (List.map cF ((nrm f b).kids)))]):=by
    intro mm
    induction mm with
    |zero=>intro f b hlt; exact absurd hlt (Nat.not_lt_zero _)
    | succ mm ih =>
      intro f b hlt hf hz
      exact rnormal_pure_step f b hf hz fun f2 b2 hlt2=>ih f2 b2 (by omega)
  exact key (f.sz+1) f b (Nat.lt_succ_self _) hf hz
theorem rsimplify_pure (f:Fm):PureC Tryz.prog 12 [(V.agg [(iV (f.op)),(iV (f.arg)),(V.sl (List.map cF (f.kids)))])] (V.tup [(V.agg [(iV ((simp_ f).1.op)),(iV ((simp_ f).1.arg)),(V.sl (List.map cF ((simp_ f).1.kids)))]),(iV ((simp_ f).2))]):=by
 refine pW Tryz.func12 s12_ok fun hB=>?_
 unfold s12
 dsimp only
 refine W_r (R_box (i:=1) (n:=0) (m:=3) (cs:=[(iV (f.op)),(iV (f.arg)),(V.sl (List.map cF (f.kids)))]) rfl (congrArg Blk.ver rfl) rfl rfl rfl (R_alloc (i:=2) (n:=0) (m:=3) rfl (congrArg Blk.ver rfl) rfl (R_mv rfl (R_e (W_seq_seq (W_r (R_lk rfl rfl rfl rfl ?_)))))))
 refine R_callk (rfvalid_pure f) rfl (R_neq rfl rfl (R_e ?_))
 refine W_seq_if rfl (fun c1=>?_) fun c1=>?_
 ·
  have d1:=simp_e c1
  refine W_seq_seq (W_r (R_build rfl rfl (R_lk rfl rfl rfl rfl (R_callk (rfvalid_pure f) rfl (R_sk rfl rfl rfl rfl rfl rfl rfl rfl rfl (R_mv rfl (R_e ?_)))))))
  refine W_seq_ret ?_
  refine RetC_2 (resV_c (u:=(V.agg [(iV (0:Int)),(iV (0:Int)),V.nilsl])) rfl (@rfl Blk (bk 1 24 3 [[(iV (0:Int)),(iV (0:Int)),V.nilsl]])) (lB oB rfl rfl)) (resV_t (@rfl V (iV (fval f)))) (fz_agg3 (fz_int ?_) (fz_int ?_) (fz_nil ?_)) (fz_int ?_)
  · rw [d1]; rfl
  · rw [d1]; rfl
  · rw [d1]; rfl
  · rw [d1]
 have d1:=simp_g c1
 refine W_seq_skip (W_r (R_lk rfl rfl rfl rfl (R_callk (rnormal_pure f false (fval_ok (by omega)) (fval_sz (by omega))) rfl (R_callk (rresult_pure ((nrm f false)) (nrm_ok f (fval_ok (by omega)) false) (Nat.le_trans (nrm_sz f false) (by have:=fval_sz (f:=f) (by omega); omega))) rfl (R_ext rfl rfl (R_ext rfl rfl (R_sk rfl rfl rfl rfl rfl rfl rfl rfl rfl ?_)))))))
 refine R_mv rfl (R_e (W_ret ?_))
 refine RetC_2 (resV_c (u:=(V.agg [(iV ((chk ((nrm f false))).1.op)),(iV ((chk ((nrm f false))).1.arg)),(V.sl (List.map cF ((chk ((nrm f false))).1.kids)))])) rfl (@rfl Blk (bk 1 24 3 [[(iV ((chk ((nrm f false))).1.op)),(iV ((chk ((nrm f false))).1.arg)),(V.sl (List.map cF ((chk ((nrm f false))).1.kids)))]])) (lB oB rfl rfl)) (resV_t (@rfl V (iV ((chk ((nrm f false))).2)))) (fz_agg3 (fz_int ?_) (fz_int ?_) (fz_sl ?_ (fun _=>by simp))) (fz_int ?_)
 · rw [d1]
 · rw [d1]
 · rw [d1]
 · rw [d1]
def r14_3:List SO:=[
 qM 16 1,
 qC 17 .lss 16 0,
 qM 18 17,
 ⟨some (18,false),some 19,.mv (.t 1)⟩,
 ⟨some (18,false),some 20,.bin .geq (.t 19) (.c (.int .i64 64))⟩,
 sO 21 (.pick (.t 18) (.c (.bool true)) (.t 20)),
 qM 22 21,
 ⟨some (22,false),some 23,.mv (.t 2)⟩,
 ⟨some (22,false),some 24,.bin .lss (.t 23) (.c (.int .i64 0))⟩,
 sO 25 (.pick (.t 22) (.c (.bool true)) (.t 24)),
 qM 26 25,
 ⟨some (26,false),some 27,.mv (.t 2)⟩,
 ⟨some (26,false),some 28,.bin .gtr (.t 27) (.c (.int .i64 1048576))⟩,
 sO 29 (.pick (.t 26) (.c (.bool true)) (.t 28))]
def r14_5:List SO:=[
 qL 32 3 3,
 sO 33 (.call false 12 [.t 32]),
 qM 31 33,
 qE 34 31 0,
 qE 35 31 1,
 sO 8 (.alloc 24 [.int .i64 0,.int .i64 0,.nilsl]),
 sN (.store 3 (.t 8) (.t 34)),
 qM 9 35]
def r14_8:List SO:=[
 qL 40 3 8,
 qM 41 1,
 qM 42 2,
 sO 43 (.call false 41 [.t 40,.t 41,.t 42]),
 sO 44 (.call false 38 [.t 43]),
 qE 45 44 0,
 qE 46 44 1,
 sN (.store 3 (.t 6) (.t 45)),
 qM 7 46]
def s14:SF:=⟨47,[.cell 6 true 3,.tmp 7],.seq (.reg [sO 3 (.box 24 3 (.t 0)),sO 6 (.alloc 24 [.int .i64 0,.int .i64 0,.nilsl]),qI 7 0]) (.seq (.seq (.reg [qL 10 3 3,sO 11 (.call false 28 [.t 10]),qC 12 .neq 11 0]) (.cond (.t 12) (.seq (.reg [sO 13 (.build [.int .i64 0,.int .i64 0,.nilsl] []),qL 14 3 3,sO 15 (.call false 28 [.t 14]),sN (.store 3 (.t 6) (.t 13)),qM 7 15]) (.ret)) (.skip))) (.seq (.seq (.reg r14_3) (.cond (.t 29) (.seq (.reg [sO 30 (.build [.int .i64 0,.int .i64 0,.nilsl] []),sN (.store 3 (.t 6) (.t 30)),qI 7 2]) (.ret)) (.skip))) (.seq (.reg r14_5) (.seq (.seq (.reg [qM 36 9,qC 37 .neq 36 0]) (.cond (.t 37) (.seq (.reg [sO 38 (.build [.int .i64 0,.int .i64 0,.nilsl] []),qM 39 9,sN (.store 3 (.t 6) (.t 38)),qM 7 39]) (.ret)) (.skip))) (.seq (.reg r14_8) (.ret))))))⟩
theorem s14_ok:slimF Tryz.prog ⟨[59,84,90,97,109,153,154,155,160],[],[],[]⟩ Tryz.f14=some s14:=by kernel_rfl
def r41_9:List SO:=[
 qF 38 2 3,
 ql 39 38,
 sO 40 (.idx 3 (.t 39) (.c (.int .i64 0))),
 qL 41 3 40,
 qM 42 1,
 qM 43 2,
 sO 44 (.call false 41 [.t 41,.t 42,.t 43]),
 sO 45 (.part false 0 1 (.t 44)),
 qC 46 .neq 45 1,
 sO 47 (.call false 68 [.t 46]),
 sN (.store 3 (.t 6) (.t 47))]
def r41_19:List SO:=[
 qF 61 2 3,
 ql 62 61,
 sO 63 (.idx 3 (.t 62) (.c (.int .i64 0))),
 qL 64 3 63,
 qM 65 1,
 qM 66 2,
 sO 67 (.call false 41 [.t 64,.t 65,.t 66]),
 qF 68 2 3,
 ql 69 68,
 sO 70 (.idx 3 (.t 69) (.c (.int .i64 1))),
 qL 71 3 70,
 qM 72 1,
 qM 73 2,
 sO 74 (.call false 41 [.t 71,.t 72,.t 73]),
 sO 9 (.alloc 24 [.int .i64 0,.int .i64 0,.nilsl]),
 sO 10 (.alloc 24 [.int .i64 0,.int .i64 0,.nilsl]),
 sN (.store 3 (.t 9) (.t 67)),
 sN (.store 3 (.t 10) (.t 74))]
def r41_20:List SO:=[
 qM 75 7,
 qL 76 3 10,
 qM 77 8,
 qL 78 3 9,
 qL 79 3 3,
 sO 80 (.bslice 24 3 false [.int .i64 0,.int .i64 0,.nilsl] 2 [(0,.t 78),(1,.t 79)]),
 sO 81 (.build [.int .i64 0,.int .i64 0,.nilsl] [(0,1,.t 77),(2,1,.t 80)]),
 sO 82 (.bslice 24 3 false [.int .i64 0,.int .i64 0,.nilsl] 2 [(0,.t 76),(1,.t 81)]),
 sO 83 (.build [.int .i64 0,.int .i64 0,.nilsl] [(0,1,.t 75),(2,1,.t 82)]),
 sN (.store 3 (.t 6) (.t 83))]
def r41_25:List SO:=[
 qF 94 2 11,
 ql 95 94,
 qF 96 2 3,
 ql 97 96,
 qM 98 12,
 qA 99 3 97 98,
 qL 100 3 99,
 qM 101 1,
 qM 102 2,
 sO 103 (.call false 41 [.t 100,.t 101,.t 102]),
 sO 104 (.bslice 24 3 false [.int .i64 0,.int .i64 0,.nilsl] 1 [(0,.t 103)]),
 sO 105 (.append 24 3 40 (.t 95) (.t 104)),
 qF 106 2 11,
 sN (.store 1 (.t 106) (.t 105))]
def b41_0:SC:=.seq (.seq (.reg [qM 87 12,qF 88 2 3,ql 89 88,qN 90 89,qP 91 .lss 87 90]) (.cond (.t 91) (.skip) (.exit 1))) (.seq (.block 2 (.reg r41_25)) (.reg [qM 92 12,qC 93 .add 92 1,qM 12 93]))
def s41:SF:=⟨108,[.cell 6 true 3],.seq (.reg [sO 3 (.box 24 3 (.t 0)),sO 6 (.alloc 24 [.int .i64 0,.int .i64 0,.nilsl])]) (.seq (.seq (.reg [qF 13 0 3,ql 14 13]) (.block 0 (.seq (.reg [qC 16 .eql 14 2,qM 15 16]) (.cond (.t 15) (.seq (.reg [qF 17 1 3,ql 18 17,qM 19 1,qP 20 .eql 18 19,sO 21 (.call false 68 [.t 20]),sN (.store 3 (.t 6) (.t 21))]) (.ret)) (.seq (.reg [qC 23 .eql 14 3,qM 22 23]) (.cond (.t 22) (.seq (.reg [qF 24 1 3,ql 25 24,qM 26 2,qP 27 .eql 25 26,sO 28 (.call false 68 [.t 27]),sN (.store 3 (.t 6) (.t 28))]) (.ret)) (.seq (.reg [qC 30 .eql 14 4,qM 29 30]) (.cond (.t 29) (.seq (.seq (.reg [qF 31 2 3,ql 32 31,sO 33 (.idx 3 (.t 32) (.c (.int .i64 0))),qF 34 0 33,ql 35 34,qC 36 .eql 35 1]) (.cond (.t 36) (.seq (.reg [qL 37 3 3,sN (.store 3 (.t 6) (.t 37))]) (.ret)) (.skip))) (.seq (.reg r41_9) (.ret))) (.seq (.seq (.reg [qC 49 .eql 14 7,qM 48 49]) (.cond (.t 48) (.skip) (.reg [qC 50 .eql 14 9,qM 48 50]))) (.cond (.t 48) (.seq (.reg [qF 51 2 3,ql 52 51,sO 53 (.idx 3 (.t 52) (.c (.int .i64 0))),qL 54 3 53,sN (.store 3 (.t 6) (.t 54))]) (.ret)) (.seq (.seq (.reg [qC 56 .eql 14 8,qM 55 56]) (.cond (.t 55) (.skip) (.reg [qC 57 .eql 14 10,qM 55 57]))) (.cond (.t 55) (.seq (.reg [qI 7 6,qI 8 5]) (.seq (.seq (.reg [qF 58 0 3,ql 59 58,qC 60 .eql 59 10]) (.cond (.t 60) (.seq (.reg [qI 7 5]) (.reg [qI 8 6])) (.skip))) (.seq (.dreg [9,10] r41_19) (.seq (.reg r41_20) (.ret))))) (.skip))))))))))))) (.seq (.reg [qF 84 0 3,ql 85 84,sO 86 (.build [.int .i64 0,.int .i64 0,.nilsl] [(0,1,.t 85)]),sO 11 (.alloc 24 [.int .i64 0,.int .i64 0,.nilsl]),sN (.store 3 (.t 11) (.t 86))]) (.seq (.seq (.reg [qI 12 0]) (.block 1 (.loop b41_0))) (.seq (.reg [qL 107 3 11,sN (.store 3 (.t 6) (.t 107))]) (.ret)))))⟩
theorem s41_ok:slimF Tryz.prog ⟨[59,84,90,97,109,153,154,155,160],[],[],[]⟩ Tryz.f41=some s41:=by kernel_rfl
def s68:SF:=⟨10,[.cell 2 true 3],.seq (.reg [sO 2 (.alloc 24 [.int .i64 0,.int .i64 0,.nilsl])]) (.seq (.reg [sO 4 (.build [.int .i64 0,.int .i64 0,.nilsl] [(0,1,.c (.int .i64 1))]),sO 3 (.alloc 24 [.int .i64 0,.int .i64 0,.nilsl]),sN (.store 3 (.t 3) (.t 4))]) (.seq (.seq (.reg [qM 5 0]) (.cond (.t 5) (.seq (.reg [qL 6 3 3,sN (.store 3 (.t 2) (.t 6))]) (.ret)) (.skip))) (.seq (.reg [qL 7 3 3,sO 8 (.bslice 24 3 false [.int .i64 0,.int .i64 0,.nilsl] 1 [(0,.t 7)]),sO 9 (.build [.int .i64 0,.int .i64 0,.nilsl] [(0,1,.c (.int .i64 4)),(2,1,.t 8)]),sN (.store 3 (.t 2) (.t 9))]) (.ret))))⟩
theorem s68_ok:slimF Tryz.prog ⟨[59,84,90,97,109,153,154,155,160],[],[],[]⟩ Tryz.f68=some s68:=by kernel_rfl
theorem rtruth_pure (b:Bool):PureC Tryz.prog 68 [(V.bool b)] (V.agg [(iV ((trF b).op)),(iV ((trF b).arg)),(V.sl (List.map cF ((trF b).kids)))]):=by
 refine pW Tryz.func68 s68_ok fun hB=>?_
 unfold s68
 dsimp only
 refine W_r (R_alloc (i:=2) (n:=0) (m:=3) rfl (congrArg Blk.ver rfl) rfl (R_e ?_))
 refine W_seq_g (fun T H=>T 0=(V.bool b)∧T 2=(V.mp 2 1 0 0)∧T 3=(V.mp 3 1 0 0)∧H 2=(bk 1 24 3 [[(iV (0:Int)),(iV (0:Int)),V.nilsl]])∧H 3=(bk 1 24 3 [[(iV (1:Int)),(iV (0:Int)),V.nilsl]])∧True) ?_ ?_
 ·
  refine R_build rfl rfl (R_alloc (i:=3) (n:=0) (m:=3) rfl (congrArg Blk.ver rfl) rfl (R_sk rfl rfl rfl rfl rfl rfl rfl rfl rfl ?_))
  exact R_nil ⟨rfl,rfl,rfl,rfl,rfl,trivial⟩
 intro T H ⟨t0,t2,t3,h2,h3,_⟩
 refine nz_one (r':=[(iV (1:Int)),(iV (0:Int)),(V.sl (List.map cF ([])))]) h3 rfl (.done ?_)
 refine fork_ (R:=fun T H=>T 0=(V.bool b)∧T 2=(V.mp 2 1 0 0)∧T 3=(V.mp 3 1 0 0)∧H 2=(bk 1 24 3 [[(iV (0:Int)),(iV (0:Int)),V.nilsl]])∧H 3=(bk 1 24 3 [[(iV (1:Int)),(iV (0:Int)),(V.sl (List.map cF ([])))]])∧True) ⟨t0,t2,t3,((upd_ne _ _ (by decide)).trans h2),(upd_same _ _ _),trivial⟩ ?_
 intro T H ⟨t0,t2,t3,h2,h3,_⟩
 refine W_seq_seq (W_r (R_mv t0 (R_e ?_)))
 refine W_seq_ifb rfl (fun c1=>?_) (fun c1=>?_)
 ·
  refine W_seq_seq (W_r (R_lk t3 h3 rfl rfl (R_sk t2 rfl rfl h2 rfl rfl rfl rfl rfl (R_e (W_seq_ret ?_)))))
  refine RetC_1 (resV_c (u:=(V.agg [(iV (1:Int)),(iV (0:Int)),(V.sl (List.map cF ([])))])) t2 (@rfl Blk (bk 1 24 3 [[(iV (1:Int)),(iV (0:Int)),(V.sl (List.map cF ([])))]])) (lB oB rfl rfl)) (fz_agg3 (fz_int ?_) (fz_int ?_) (fz_sl ?_ (fun _=>by simp)))
  · cases b <;> first|rfl|(simp_all; done)
  · cases b <;> first|rfl|(simp_all; done)
  · cases b <;> first|rfl|(simp_all; done)
 refine W_seq_skip (W_r (R_lk t3 h3 rfl rfl (R_bslice rfl rfl (R_build rfl rfl (R_sk t2 rfl rfl h2 rfl rfl rfl rfl rfl (R_e (W_ret ?_)))))))
 refine RetC_1 (resV_c (u:=(V.agg [(iV (4:Int)),(iV (0:Int)),(V.sl [[(iV (1:Int)),(iV (0:Int)),(V.sl (List.map cF ([])))]])])) t2 (@rfl Blk (bk 1 24 3 [[(iV (4:Int)),(iV (0:Int)),(V.sl [[(iV (1:Int)),(iV (0:Int)),(V.sl (List.map cF ([])))]])]])) (lB oB rfl rfl)) (fz_agg3 (fz_int ?_) (fz_int ?_) (fz_canon (by simp) (Eq.trans (sl_F1 (x:=((Fm.nd (1:Int) (0:Int) []))) rfl) (congrArg (fun l=>V.sl (List.map cF l)) ?_))))
 · cases b <;> first|rfl|(simp_all; done)
 · cases b <;> first|rfl|(simp_all; done)
 · cases b <;> first|rfl|(simp_all; done)
theorem rafter_pure_step (f:Fm) (a o:Int) (hok:okF f=true) (hn:nnf f=true) (hz:f.sz≤4096) (ih: ∀ (g:Fm) (a o:Int),g.sz < f.sz→okF g=true→nnf g=true→g.sz≤4096→PureC Tryz.prog 41 [(V.agg [(iV (g.op)),(iV (g.arg)),(V.sl (List.map cF (g.kids)))]),(iV (a)),(iV (o))] (V.agg [(iV ((mst g a o).op)),(iV ((mst g a o).arg)),(V.sl (List.map cF ((mst g a o).kids)))])):PureC Tryz.prog 41 [(V.agg [(iV (f.op)),(iV (f.arg)),(V.sl (List.map cF (f.kids)))]),(iV (a)),(iV (o))] (V.agg [(iV ((mst f a o).op)),(iV ((mst f a o).arg)),(V.sl (List.map cF ((mst f a o).kids)))]):=by
 refine pW Tryz.func41 s41_ok fun hB=>?_
 unfold s41
 dsimp only
 have hp:=okF_parts hok
 have hr:=rgt_ok hp.1
 have hln:=f.sz_len
 refine W_r (R_box (i:=3) (n:=0) (m:=3) (cs:=[(iV (f.op)),(iV (f.arg)),(V.sl (List.map cF (f.kids)))]) rfl (congrArg Blk.ver rfl) rfl rfl rfl (R_alloc (i:=6) (n:=0) (m:=3) rfl (congrArg Blk.ver rfl) rfl (R_e (W_seq_seq (W_r (R_fk rfl rfl (R_lk rfl rfl rfl rfl ?_)))))))
 refine R_e (W_seq_blockg fun Q1 n1 x1 y1 z1=>(W_r (R_eql rfl rfl (R_mv rfl (R_e ?_)))))
 refine W_if rfl (fun c2=>?_) fun c2=>?_
 ·
  refine W_r (R_fk rfl rfl (R_lk rfl rfl rfl rfl (R_mv rfl (R_eql rfl rfl (R_callk (rtruth_pure ((decide ((f.arg)=(a))))) rfl (R_sk rfl rfl rfl rfl rfl rfl rfl rfl rfl (R_e ?_)))))))
  refine W_ret (y1 _ _ ?_)
  refine RetC_1 (resV_c (u:=(V.agg [(iV ((trF ((decide ((f.arg)=(a))))).op)),(iV ((trF ((decide ((f.arg)=(a))))).arg)),(V.sl (List.map cF ((trF ((decide ((f.arg)=(a))))).kids)))])) rfl (@rfl Blk (bk 1 24 3 [[(iV ((trF ((decide ((f.arg)=(a))))).op)),(iV ((trF ((decide ((f.arg)=(a))))).arg)),(V.sl (List.map cF ((trF ((decide ((f.arg)=(a))))).kids)))]])) (lB oB rfl rfl)) (fz_agg3 (fz_int ?_) (fz_int ?_) (fz_sl ?_ (fun _=>by simp)))
  · rw [mst_2 (f:=f) (by omega)]
  · rw [mst_2 (f:=f) (by omega)]
  · rw [mst_2 (f:=f) (by omega)]
 refine W_r (R_eql rfl rfl (R_mv rfl (R_e ?_)))
 refine W_if rfl (fun c3=>?_) fun c3=>?_
 ·
  refine W_r (R_fk rfl rfl (R_lk rfl rfl rfl rfl (R_mv rfl (R_eql rfl rfl (R_callk (rtruth_pure ((decide ((f.arg)=(o))))) rfl (R_sk rfl rfl rfl rfl rfl rfl rfl rfl rfl (R_e ?_)))))))
  refine W_ret (y1 _ _ ?_)
  refine RetC_1 (resV_c (u:=(V.agg [(iV ((trF ((decide ((f.arg)=(o))))).op)),(iV ((trF ((decide ((f.arg)=(o))))).arg)),(V.sl (List.map cF ((trF ((decide ((f.arg)=(o))))).kids)))])) rfl (@rfl Blk (bk 1 24 3 [[(iV ((trF ((decide ((f.arg)=(o))))).op)),(iV ((trF ((decide ((f.arg)=(o))))).arg)),(V.sl (List.map cF ((trF ((decide ((f.arg)=(o))))).kids)))]])) (lB oB rfl rfl)) (fz_agg3 (fz_int ?_) (fz_int ?_) (fz_sl ?_ (fun _=>by simp)))
  · rw [mst_3 (f:=f) (by omega)]
  · rw [mst_3 (f:=f) (by omega)]
  · rw [mst_3 (f:=f) (by omega)]
 refine W_r (R_eql rfl rfl (R_mv rfl (R_e ?_)))
 refine W_if rfl (fun c4=>?_) fun c4=>?_
 ·
  refine W_seq_seq (W_r (R_fk rfl rfl (R_lk rfl rfl rfl rfl (R_idxu (i:=0) (@rfl V (V.sl (List.map cF (f.kids)))) (@rfl V (iV ((0:Nat):Int))) (by omega) (cF_eq _) rfl (R_fld_pp (cs':=[(iV (((nth (f.kids) (0))).op)),(iV (((nth (f.kids) (0))).arg)),(V.sl (List.map cF (((nth (f.kids) (0))).kids)))]) rfl rfl (R_load_pp rfl rfl (R_eql rfl rfl ?_)))))))
  refine R_e ?_
  refine W_seq_if rfl (fun c5=>?_) fun c5=>?_
  ·
   refine W_seq_seq (W_r (R_lk rfl rfl rfl rfl (R_sk rfl rfl rfl rfl rfl rfl rfl rfl rfl (R_e (W_seq_ret (y1 _ _ ?_))))))
   refine RetC_1 (resV_c (u:=(V.agg [(iV (f.op)),(iV (f.arg)),(V.sl (List.map cF (f.kids)))])) rfl (@rfl Blk (bk 1 24 3 [[(iV (f.op)),(iV (f.arg)),(V.sl (List.map cF (f.kids)))]])) (lB oB rfl rfl)) (fz_agg3 (fz_int ?_) (fz_int ?_) (fz_sl ?_ (fun _=>by simp)))
   · rw [← kid4 hok hn (by omega) (by omega) a o]
   · rw [← kid4 hok hn (by omega) (by omega) a o]
   · rw [← kid4 hok hn (by omega) (by omega) a o]
  refine W_seq_skip (W_r (R_fk rfl rfl (R_lk rfl rfl rfl rfl (R_idxu (i:=0) (@rfl V (V.sl (List.map cF (f.kids)))) (@rfl V (iV ((0:Nat):Int))) (by omega) (cF_eq _) rfl (R_load_pp rfl rfl (R_mv rfl (R_mv rfl ?_)))))))
  refine R_callk (ih (((nth (f.kids) (0)))) ((a)) ((o)) (Fm.sz_kid (by omega)) (hp.2 _ (by omega)) (nnf_kid hn (by omega)).1 (Nat.le_trans (Nat.le_of_lt (Fm.sz_kid (by omega))) hz)) rfl (R_part (v:=(iV ((mst (((nth (f.kids) (0)))) ((a)) ((o))).op))) rfl (by rfl) (R_neq rfl rfl (R_callk (rtruth_pure ((decide (((mst (((nth (f.kids) (0)))) ((a)) ((o))).op)≠(1:Int))))) rfl (R_sk rfl rfl rfl rfl rfl rfl rfl rfl rfl (R_e (W_ret (y1 _ _ ?_)))))))
  refine RetC_1 (resV_c (u:=(V.agg [(iV ((trF ((decide (((mst (((nth (f.kids) (0)))) ((a)) ((o))).op)≠(1:Int))))).op)),(iV ((trF ((decide (((mst (((nth (f.kids) (0)))) ((a)) ((o))).op)≠(1:Int))))).arg)),(V.sl (List.map cF ((trF ((decide (((mst (((nth (f.kids) (0)))) ((a)) ((o))).op)≠(1:Int))))).kids)))])) rfl (@rfl Blk (bk 1 24 3 [[(iV ((trF ((decide (((mst (((nth (f.kids) (0)))) ((a)) ((o))).op)≠(1:Int))))).op)),(iV ((trF ((decide (((mst (((nth (f.kids) (0)))) ((a)) ((o))).op)≠(1:Int))))).arg)),(V.sl (List.map cF ((trF ((decide (((mst (((nth (f.kids) (0)))) ((a)) ((o))).op)≠(1:Int))))).kids)))]])) (lB oB rfl rfl)) (fz_agg3 (fz_int ?_) (fz_int ?_) (fz_sl ?_ (fun _=>by simp)))
  · rw [mst_4 (f:=f) (by omega),← kid4b hok hn (by omega) (by omega)]
  · rw [mst_4 (f:=f) (by omega),← kid4b hok hn (by omega) (by omega)]
  · rw [mst_4 (f:=f) (by omega),← kid4b hok hn (by omega) (by omega)]
 refine W_seq_seq (W_r (R_eql rfl rfl (R_mv rfl (R_e ?_))))
 refine W_seq_if rfl (fun c6=>?_) fun c6=>?_
 ·
  refine W_seq_skip ?_
  refine W_if rfl (fun c7=>?_) fun c7=>?_
  ·
   refine W_r (R_fk rfl rfl (R_lk rfl rfl rfl rfl (R_idxu (i:=0) (@rfl V (V.sl (List.map cF (f.kids)))) (@rfl V (iV ((0:Nat):Int))) (by omega) (cF_eq _) rfl (R_load_pp rfl rfl (R_sk rfl rfl rfl rfl rfl rfl rfl rfl rfl (R_e (W_ret ?_)))))))
   refine y1 _ _ ?_
   refine RetC_1 (resV_c (u:=(V.agg [(iV (((nth (f.kids) (0))).op)),(iV (((nth (f.kids) (0))).arg)),(V.sl (List.map cF (((nth (f.kids) (0))).kids)))])) rfl (@rfl Blk (bk 1 24 3 [[(iV (((nth (f.kids) (0))).op)),(iV (((nth (f.kids) (0))).arg)),(V.sl (List.map cF (((nth (f.kids) (0))).kids)))]])) (lB oB rfl rfl)) (fz_agg3 (fz_int ?_) (fz_int ?_) (fz_sl ?_ (fun _=>by simp)))
   · rw [mst_79 (f:=f) (by omega)]
   · rw [mst_79 (f:=f) (by omega)]
   · rw [mst_79 (f:=f) (by omega)]
  · exact (c7 c6).elim
 refine W_r (R_eql rfl rfl (R_mv rfl (R_e ?_)))
 refine W_if rfl (fun c8=>?_) fun c8=>?_
 ·
  refine W_r (R_fk rfl rfl (R_lk rfl rfl rfl rfl (R_idxu (i:=0) (@rfl V (V.sl (List.map cF (f.kids)))) (@rfl V (iV ((0:Nat):Int))) (by omega) (cF_eq _) rfl (R_load_pp rfl rfl (R_sk rfl rfl rfl rfl rfl rfl rfl rfl rfl (R_e (W_ret ?_)))))))
  refine y1 _ _ ?_
  refine RetC_1 (resV_c (u:=(V.agg [(iV (((nth (f.kids) (0))).op)),(iV (((nth (f.kids) (0))).arg)),(V.sl (List.map cF (((nth (f.kids) (0))).kids)))])) rfl (@rfl Blk (bk 1 24 3 [[(iV (((nth (f.kids) (0))).op)),(iV (((nth (f.kids) (0))).arg)),(V.sl (List.map cF (((nth (f.kids) (0))).kids)))]])) (lB oB rfl rfl)) (fz_agg3 (fz_int ?_) (fz_int ?_) (fz_sl ?_ (fun _=>by simp)))
  · rw [mst_79 (f:=f) (by omega)]
  · rw [mst_79 (f:=f) (by omega)]
  · rw [mst_79 (f:=f) (by omega)]
 refine W_seq_seq (W_r (R_eql rfl rfl (R_mv rfl (R_e ?_))))
 refine W_seq_if rfl (fun c9=>?_) fun c9=>?_
 ·
  refine W_seq_skip ?_
  refine W_if rfl (fun c10=>?_) fun c10=>?_
  ·
   refine W_r (R_mv rfl (R_mv rfl (R_e (W_seq_seq (W_r (R_fk rfl rfl (R_lk rfl rfl rfl rfl ?_)))))))
   refine R_eql rfl rfl (R_e ?_)
   refine W_seq_if rfl (fun c11=>?_) fun c11=>?_
   ·
    refine W_seq_seq (W_r (R_mv rfl (R_e (W_r (R_mv rfl (R_e ?_))))))
    refine W_seq_dregc (fun T H=>T 3=(V.mp 3 1 0 0)∧T 6=(V.mp 6 1 0 0)∧T 7=(iV (5:Int))∧T 8=(iV (6:Int))∧T 9=(V.mp 9 1 0 0)∧T 10=(V.mp 10 1 0 0)∧H 3=(bk 1 24 3 [[(iV (f.op)),(iV (f.arg)),(V.sl (List.map cF (f.kids)))]])∧H 6=(bk 1 24 3 [[(iV (0:Int)),(iV (0:Int)),V.nilsl]])∧H 9=(bk 1 24 3 [[(iV ((mst (((nth (f.kids) (0)))) ((a)) ((o))).op)),(iV ((mst (((nth (f.kids) (0)))) ((a)) ((o))).arg)),(V.sl (List.map cF ((mst (((nth (f.kids) (0)))) ((a)) ((o))).kids)))]])∧H 10=(bk 1 24 3 [[(iV ((mst (((nth (f.kids) (1)))) ((a)) ((o))).op)),(iV ((mst (((nth (f.kids) (1)))) ((a)) ((o))).arg)),(V.sl (List.map cF ((mst (((nth (f.kids) (1)))) ((a)) ((o))).kids)))]])∧H 11=(⟨0,false,false,0,0,[]⟩:Blk)∧H 708=(⟨0,false,false,0,0,[]⟩:Blk)∧True) (by exact (lateC rfl (lateC rfl lateN))) ?_ ?_
    ·
     refine R_fk rfl rfl (R_lk rfl rfl rfl rfl (R_idxu (i:=0) (@rfl V (V.sl (List.map cF (f.kids)))) (@rfl V (iV ((0:Nat):Int))) (by omega) (cF_eq _) rfl (R_load_pp rfl rfl (R_mv rfl (R_mv rfl (R_callk (ih (((nth (f.kids) (0)))) ((a)) ((o)) (Fm.sz_kid (by omega)) (hp.2 _ (by omega)) (nnf_kid hn (by omega)).1 (Nat.le_trans (Nat.le_of_lt (Fm.sz_kid (by omega))) hz)) rfl (R_fk rfl rfl ?_)))))))
     refine R_lk rfl rfl rfl rfl (R_idxu (i:=1) (@rfl V (V.sl (List.map cF (f.kids)))) (@rfl V (iV ((1:Nat):Int))) (by omega) (cF_eq _) rfl (R_load_pp rfl rfl (R_mv rfl (R_mv rfl (R_callk (ih (((nth (f.kids) (1)))) ((a)) ((o)) (Fm.sz_kid (by omega)) (hp.2 _ (by omega)) (nnf_kid hn (by omega)).1 (Nat.le_trans (Nat.le_of_lt (Fm.sz_kid (by omega))) hz)) rfl (R_alloc (i:=9) (n:=0) (m:=3) rfl (congrArg Blk.ver rfl) rfl (R_alloc (i:=10) (n:=0) (m:=3) rfl (congrArg Blk.ver rfl) rfl ?_)))))))
     refine R_sk rfl rfl rfl rfl rfl rfl rfl rfl rfl (R_sk rfl rfl rfl rfl rfl rfl rfl rfl rfl ?_)
     exact R_nil ⟨rfl,rfl,rfl,rfl,rfl,rfl,rfl,rfl,rfl,rfl,rfl,rfl,trivial⟩
    intro T H ⟨t3,t6,t7,t8,t9,t10,h3,h6,h9,h10,h11,h708,_⟩
    refine W_r (R_mv t7 (R_lk t10 h10 rfl rfl (R_mv t8 (R_lk t9 h9 rfl rfl (R_lk t3 h3 rfl rfl (R_bslice rfl rfl (R_build rfl rfl ?_)))))))
    refine R_bslice rfl rfl (R_build rfl rfl (R_sk t6 rfl rfl h6 rfl rfl rfl rfl rfl (R_e (W_ret (y1 _ _ ?_)))))
    refine RetC_1 (resV_c (u:=(V.agg [(iV (5:Int)),(iV (0:Int)),(V.sl [[(iV ((mst (((nth (f.kids) (1)))) ((a)) ((o))).op)),(iV ((mst (((nth (f.kids) (1)))) ((a)) ((o))).arg)),(V.sl (List.map cF ((mst (((nth (f.kids) (1)))) ((a)) ((o))).kids)))],[(iV (6:Int)),(iV (0:Int)),(V.sl [[(iV ((mst (((nth (f.kids) (0)))) ((a)) ((o))).op)),(iV ((mst (((nth (f.kids) (0)))) ((a)) ((o))).arg)),(V.sl (List.map cF ((mst (((nth (f.kids) (0)))) ((a)) ((o))).kids)))],[(iV (f.op)),(iV (f.arg)),(V.sl (List.map cF (f.kids)))]])]])])) t6 (@rfl Blk (bk 1 24 3 [[(iV (5:Int)),(iV (0:Int)),(V.sl [[(iV ((mst (((nth (f.kids) (1)))) ((a)) ((o))).op)),(iV ((mst (((nth (f.kids) (1)))) ((a)) ((o))).arg)),(V.sl (List.map cF ((mst (((nth (f.kids) (1)))) ((a)) ((o))).kids)))],[(iV (6:Int)),(iV (0:Int)),(V.sl [[(iV ((mst (((nth (f.kids) (0)))) ((a)) ((o))).op)),(iV ((mst (((nth (f.kids) (0)))) ((a)) ((o))).arg)),(V.sl (List.map cF ((mst (((nth (f.kids) (0)))) ((a)) ((o))).kids)))],[(iV (f.op)),(iV (f.arg)),(V.sl (List.map cF (f.kids)))]])]])]])) (lB oB rfl rfl)) (fz_agg3 (fz_int ?_) (fz_int ?_) (fz_canon (by simp) ?_))
    · exfalso; omega
    · exfalso; omega
    · exfalso; omega
   refine W_seq_skip (W_d (by exact (lateC rfl (lateC rfl lateN))) (R_fk rfl rfl (R_lk rfl rfl rfl rfl (R_idxu (i:=0) (@rfl V (V.sl (List.map cF (f.kids)))) (@rfl V (iV ((0:Nat):Int))) (by omega) (cF_eq _) rfl (R_load_pp rfl rfl (R_mv rfl (R_mv rfl ?_)))))))
   refine R_callk (ih (((nth (f.kids) (0)))) ((a)) ((o)) (Fm.sz_kid (by omega)) (hp.2 _ (by omega)) (nnf_kid hn (by omega)).1 (Nat.le_trans (Nat.le_of_lt (Fm.sz_kid (by omega))) hz)) rfl (R_fk rfl rfl (R_lk rfl rfl rfl rfl (R_idxu (i:=1) (@rfl V (V.sl (List.map cF (f.kids)))) (@rfl V (iV ((1:Nat):Int))) (by omega) (cF_eq _) rfl (R_load_pp rfl rfl (R_mv rfl (R_mv rfl (R_callk (ih (((nth (f.kids) (1)))) ((a)) ((o)) (Fm.sz_kid (by omega)) (hp.2 _ (by omega)) (nnf_kid hn (by omega)).1 (Nat.le_trans (Nat.le_of_lt (Fm.sz_kid (by omega))) hz)) rfl ?_)))))))
   refine R_alloc (i:=9) (n:=0) (m:=3) rfl (congrArg Blk.ver rfl) rfl (R_alloc (i:=10) (n:=0) (m:=3) rfl (congrArg Blk.ver rfl) rfl (R_sk rfl rfl rfl rfl rfl rfl rfl rfl rfl (R_sk rfl rfl rfl rfl rfl rfl rfl rfl rfl (R_e ?_))))
   refine W_seq_regc (fun T H=>T 6=(V.mp 6 1 0 0)∧H 3=(bk 1 24 3 [[(iV (f.op)),(iV (f.arg)),(V.sl (List.map cF (f.kids)))]])∧H 6=(bk 1 24 3 [[(iV (6:Int)),(iV (0:Int)),(V.sl [[(iV ((mst (((nth (f.kids) (1)))) ((a)) ((o))).op)),(iV ((mst (((nth (f.kids) (1)))) ((a)) ((o))).arg)),(V.sl (List.map cF ((mst (((nth (f.kids) (1)))) ((a)) ((o))).kids)))],[(iV (5:Int)),(iV (0:Int)),(V.sl [[(iV ((mst (((nth (f.kids) (0)))) ((a)) ((o))).op)),(iV ((mst (((nth (f.kids) (0)))) ((a)) ((o))).arg)),(V.sl (List.map cF ((mst (((nth (f.kids) (0)))) ((a)) ((o))).kids)))],[(iV (f.op)),(iV (f.arg)),(V.sl (List.map cF (f.kids)))]])]])]])∧H 9=(bk 1 24 3 [[(iV ((mst (((nth (f.kids) (0)))) ((a)) ((o))).op)),(iV ((mst (((nth (f.kids) (0)))) ((a)) ((o))).arg)),(V.sl (List.map cF ((mst (((nth (f.kids) (0)))) ((a)) ((o))).kids)))]])∧H 10=(bk 1 24 3 [[(iV ((mst (((nth (f.kids) (1)))) ((a)) ((o))).op)),(iV ((mst (((nth (f.kids) (1)))) ((a)) ((o))).arg)),(V.sl (List.map cF ((mst (((nth (f.kids) (1)))) ((a)) ((o))).kids)))]])∧H 11=(⟨0,false,false,0,0,[]⟩:Blk)∧H 708=(⟨0,false,false,0,0,[]⟩:Blk)∧True) ?_ ?_
   ·
    refine R_mv rfl (R_lk rfl rfl rfl rfl (R_mv rfl (R_lk rfl rfl rfl rfl (R_lk rfl rfl rfl rfl (R_bslice rfl rfl (R_build rfl rfl (R_bslice rfl rfl ?_)))))))
    refine R_build rfl rfl (R_sk rfl rfl rfl rfl rfl rfl rfl rfl rfl ?_)
    exact R_nil ⟨rfl,rfl,rfl,rfl,rfl,rfl,rfl,trivial⟩
   intro T H ⟨t6,h3,h6,h9,h10,h11,h708,_⟩
   refine W_ret (y1 _ _ ?_)
   refine RetC_1 (resV_c (u:=(V.agg [(iV (6:Int)),(iV (0:Int)),(V.sl [[(iV ((mst (((nth (f.kids) (1)))) ((a)) ((o))).op)),(iV ((mst (((nth (f.kids) (1)))) ((a)) ((o))).arg)),(V.sl (List.map cF ((mst (((nth (f.kids) (1)))) ((a)) ((o))).kids)))],[(iV (5:Int)),(iV (0:Int)),(V.sl [[(iV ((mst (((nth (f.kids) (0)))) ((a)) ((o))).op)),(iV ((mst (((nth (f.kids) (0)))) ((a)) ((o))).arg)),(V.sl (List.map cF ((mst (((nth (f.kids) (0)))) ((a)) ((o))).kids)))],[(iV (f.op)),(iV (f.arg)),(V.sl (List.map cF (f.kids)))]])]])])) t6 h6 (lB oB rfl rfl)) (fz_agg3 (fz_int ?_) (fz_int ?_) (fz_canon (by simp) ?_))
   · rw [mst_8 (f:=f) (by omega) (by omega)]; try rfl
   · rw [mst_8 (f:=f) (by omega) (by omega)]; try rfl
   · rw [mst_8 (f:=f) (by omega) (by omega)]; exact kids2
  · exact (c10 c9).elim
 refine W_r (R_eql rfl rfl (R_mv rfl (R_e ?_)))
 refine W_if rfl (fun c12=>?_) fun c12=>?_
 ·
  refine W_r (R_mv rfl (R_mv rfl (R_e (W_seq_seq (W_r (R_fk rfl rfl (R_lk rfl rfl rfl rfl ?_)))))))
  refine R_eql rfl rfl (R_e ?_)
  refine W_seq_if rfl (fun c13=>?_) fun c13=>?_
  ·
   refine W_seq_seq (W_r (R_mv rfl (R_e (W_r (R_mv rfl (R_e ?_))))))
   refine W_seq_dregc (fun T H=>T 3=(V.mp 3 1 0 0)∧T 6=(V.mp 6 1 0 0)∧T 7=(iV (5:Int))∧T 8=(iV (6:Int))∧T 9=(V.mp 9 1 0 0)∧T 10=(V.mp 10 1 0 0)∧H 3=(bk 1 24 3 [[(iV (f.op)),(iV (f.arg)),(V.sl (List.map cF (f.kids)))]])∧H 6=(bk 1 24 3 [[(iV (0:Int)),(iV (0:Int)),V.nilsl]])∧H 9=(bk 1 24 3 [[(iV ((mst (((nth (f.kids) (0)))) ((a)) ((o))).op)),(iV ((mst (((nth (f.kids) (0)))) ((a)) ((o))).arg)),(V.sl (List.map cF ((mst (((nth (f.kids) (0)))) ((a)) ((o))).kids)))]])∧H 10=(bk 1 24 3 [[(iV ((mst (((nth (f.kids) (1)))) ((a)) ((o))).op)),(iV ((mst (((nth (f.kids) (1)))) ((a)) ((o))).arg)),(V.sl (List.map cF ((mst (((nth (f.kids) (1)))) ((a)) ((o))).kids)))]])∧H 11=(⟨0,false,false,0,0,[]⟩:Blk)∧H 708=(⟨0,false,false,0,0,[]⟩:Blk)∧True) (by exact (lateC rfl (lateC rfl lateN))) ?_ ?_
   ·
    refine R_fk rfl rfl (R_lk rfl rfl rfl rfl (R_idxu (i:=0) (@rfl V (V.sl (List.map cF (f.kids)))) (@rfl V (iV ((0:Nat):Int))) (by omega) (cF_eq _) rfl (R_load_pp rfl rfl (R_mv rfl (R_mv rfl (R_callk (ih (((nth (f.kids) (0)))) ((a)) ((o)) (Fm.sz_kid (by omega)) (hp.2 _ (by omega)) (nnf_kid hn (by omega)).1 (Nat.le_trans (Nat.le_of_lt (Fm.sz_kid (by omega))) hz)) rfl (R_fk rfl rfl ?_)))))))
    refine R_lk rfl rfl rfl rfl (R_idxu (i:=1) (@rfl V (V.sl (List.map cF (f.kids)))) (@rfl V (iV ((1:Nat):Int))) (by omega) (cF_eq _) rfl (R_load_pp rfl rfl (R_mv rfl (R_mv rfl (R_callk (ih (((nth (f.kids) (1)))) ((a)) ((o)) (Fm.sz_kid (by omega)) (hp.2 _ (by omega)) (nnf_kid hn (by omega)).1 (Nat.le_trans (Nat.le_of_lt (Fm.sz_kid (by omega))) hz)) rfl (R_alloc (i:=9) (n:=0) (m:=3) rfl (congrArg Blk.ver rfl) rfl (R_alloc (i:=10) (n:=0) (m:=3) rfl (congrArg Blk.ver rfl) rfl ?_)))))))
    refine R_sk rfl rfl rfl rfl rfl rfl rfl rfl rfl (R_sk rfl rfl rfl rfl rfl rfl rfl rfl rfl ?_)
    exact R_nil ⟨rfl,rfl,rfl,rfl,rfl,rfl,rfl,rfl,rfl,rfl,rfl,rfl,trivial⟩
   intro T H ⟨t3,t6,t7,t8,t9,t10,h3,h6,h9,h10,h11,h708,_⟩
   refine W_r (R_mv t7 (R_lk t10 h10 rfl rfl (R_mv t8 (R_lk t9 h9 rfl rfl (R_lk t3 h3 rfl rfl (R_bslice rfl rfl (R_build rfl rfl ?_)))))))
   refine R_bslice rfl rfl (R_build rfl rfl (R_sk t6 rfl rfl h6 rfl rfl rfl rfl rfl (R_e (W_ret (y1 _ _ ?_)))))
   refine RetC_1 (resV_c (u:=(V.agg [(iV (5:Int)),(iV (0:Int)),(V.sl [[(iV ((mst (((nth (f.kids) (1)))) ((a)) ((o))).op)),(iV ((mst (((nth (f.kids) (1)))) ((a)) ((o))).arg)),(V.sl (List.map cF ((mst (((nth (f.kids) (1)))) ((a)) ((o))).kids)))],[(iV (6:Int)),(iV (0:Int)),(V.sl [[(iV ((mst (((nth (f.kids) (0)))) ((a)) ((o))).op)),(iV ((mst (((nth (f.kids) (0)))) ((a)) ((o))).arg)),(V.sl (List.map cF ((mst (((nth (f.kids) (0)))) ((a)) ((o))).kids)))],[(iV (f.op)),(iV (f.arg)),(V.sl (List.map cF (f.kids)))]])]])])) t6 (@rfl Blk (bk 1 24 3 [[(iV (5:Int)),(iV (0:Int)),(V.sl [[(iV ((mst (((nth (f.kids) (1)))) ((a)) ((o))).op)),(iV ((mst (((nth (f.kids) (1)))) ((a)) ((o))).arg)),(V.sl (List.map cF ((mst (((nth (f.kids) (1)))) ((a)) ((o))).kids)))],[(iV (6:Int)),(iV (0:Int)),(V.sl [[(iV ((mst (((nth (f.kids) (0)))) ((a)) ((o))).op)),(iV ((mst (((nth (f.kids) (0)))) ((a)) ((o))).arg)),(V.sl (List.map cF ((mst (((nth (f.kids) (0)))) ((a)) ((o))).kids)))],[(iV (f.op)),(iV (f.arg)),(V.sl (List.map cF (f.kids)))]])]])]])) (lB oB rfl rfl)) (fz_agg3 (fz_int ?_) (fz_int ?_) (fz_canon (by simp) ?_))
   · rw [mst_10 (f:=f) (by omega) (by omega)]; try rfl
   · rw [mst_10 (f:=f) (by omega) (by omega)]; try rfl
   · rw [mst_10 (f:=f) (by omega) (by omega)]; exact kids2
  · exact (c13 c12).elim
 refine W_skip (n1 _ _ (.done (W_r (R_fk rfl rfl (R_lk rfl rfl rfl rfl (R_build rfl rfl (R_alloc (i:=11) (n:=0) (m:=3) rfl (congrArg Blk.ver rfl) rfl ?_)))))))
 refine R_sk rfl rfl rfl rfl rfl rfl rfl rfl rfl (R_e (W_seq_seq ?_))
 refine W_seq_g (fun T H=>T 1=(iV (a))∧T 2=(iV (o))∧T 3=(V.mp 3 1 0 0)∧T 6=(V.mp 6 1 0 0)∧T 11=(V.mp 11 1 0 0)∧T 12=(iV (0:Int))∧H 3=(bk 1 24 3 [[(iV (f.op)),(iV (f.arg)),(V.sl (List.map cF (f.kids)))]])∧H 6=(bk 1 24 3 [[(iV (0:Int)),(iV (0:Int)),V.nilsl]])∧H 9=(⟨0,false,false,0,0,[]⟩:Blk)∧H 10=(⟨0,false,false,0,0,[]⟩:Blk)∧H 11=(bk 1 24 3 [[(iV (f.op)),(iV (0:Int)),V.nilsl]])∧H 708=(⟨0,false,false,0,0,[]⟩:Blk)∧True) ?_ ?_
 ·
  refine R_mv rfl ?_
  exact R_nil ⟨rfl,rfl,rfl,rfl,rfl,rfl,rfl,rfl,rfl,rfl,rfl,rfl,trivial⟩
 intro T H ⟨t1,t2,t3,t6,t11,t12,h3,h6,h9,h10,h11,h708,_⟩
 refine .lazyCell 708 24 3 11 0 2 [(iV (f.op)),(iV (0:Int)),V.nilsl] (by decide) (by rw [h11]; rfl) (by rw [h11]; rfl) rfl (.done ?_)
 refine fork_ (R:=fun T H=>T 1=(iV (a))∧T 2=(iV (o))∧T 3=(V.mp 3 1 0 0)∧T 6=(V.mp 6 1 0 0)∧T 11=(V.mp 11 1 0 0)∧T 12=(iV (0:Int))∧H 3=(bk 1 24 3 [[(iV (f.op)),(iV (f.arg)),(V.sl (List.map cF (f.kids)))]])∧H 6=(bk 1 24 3 [[(iV (0:Int)),(iV (0:Int)),V.nilsl]])∧H 9=(⟨0,false,false,0,0,[]⟩:Blk)∧H 10=(⟨0,false,false,0,0,[]⟩:Blk)∧H 11=(bk 1 24 3 [[(iV (f.op)),(iV (0:Int)),(V.ms 708 1 0 (0))]])∧H 708=(bz 1 24 3 [])∧True) ⟨t1,t2,t3,t6,t11,t12,((upd_ne _ _ (by decide)).trans ((upd_ne _ _ (by decide)).trans h3)),((upd_ne _ _ (by decide)).trans ((upd_ne _ _ (by decide)).trans h6)),((upd_ne _ _ (by decide)).trans ((upd_ne _ _ (by decide)).trans h9)),((upd_ne _ _ (by decide)).trans ((upd_ne _ _ (by decide)).trans h10)),(by rw [upd_same,h11,(congrArg Blk.ver h708)]; rfl),(by rw [upd_ne _ _ (by decide),upd_same,(congrArg Blk.ver h708)]),trivial⟩ ?_
 intro T H ⟨t1,t2,t3,t6,t11,t12,h3,h6,h9,h10,h11,h708,_⟩
 refine W_seq_blockg fun Q14 n14 x14 y14 z14=>?_
 refine W_loop (fun mm T H=> ∃ (k:Nat) (w:Nat),mm=f.kids.length - k∧T 1=(iV (a))∧T 2=(iV (o))∧T 3=(V.mp 3 1 0 0)∧T 6=(V.mp 6 1 0 0)∧T 11=(V.mp 11 1 0 0)∧T 12=(iV ((k:Nat):Int))∧H 3=(bk 1 24 3 [[(iV (f.op)),(iV (f.arg)),(V.sl (List.map cF (f.kids)))]])∧H 6=(bk 1 24 3 [[(iV (0:Int)),(iV (0:Int)),V.nilsl]])∧H 9=(⟨0,false,false,0,0,[]⟩:Blk)∧H 10=(⟨0,false,false,0,0,[]⟩:Blk)∧H 11=(bk 1 24 3 [[(iV (f.op)),(iV (0:Int)),(V.ms 708 w 0 (k))]])∧H 708=(bz w 24 3 (List.map cF ((f.kids.take k).map (fun g=>mst g a o))))∧(k≤f.kids.length)) ?_ ?_
 ·
  refine ⟨_,0,1,rfl,t1,t2,t3,t6,t11,(Eq.trans t12 rfl),h3,h6,h9,h10,h11,(Eq.trans h708 (by rfl)),?_⟩
  · omega
 intro mm T H ⟨k,w,hmm,t1,t2,t3,t6,t11,t12,h3,h6,h9,h10,h11,h708,hk⟩ Q15 p115 p215 p315
 unfold b41_0
 refine W_seq_seq (W_r (R_mv t12 (R_fk t3 h3 (R_lk rfl h3 rfl rfl (R_len rfl (R_lss rfl rfl (R_e ?_)))))))
 refine W_seq_if rfl (fun c16=>?_) fun c16=>?_
 ·
  refine W_seq_skip (W_seq_blockg fun Q17 n17 x17 y17 z17=>(W_t (R_fk t11 h11 (R_lk rfl h11 rfl rfl (R_fk t3 h3 (R_lk rfl h3 rfl rfl (R_mv t12 ?_)))))))
  refine R_idxu (i:=k) (@rfl V (V.sl (List.map cF (f.kids)))) (@rfl V (iV ((k:Nat):Int))) (by omega) (cF_eq _) rfl (R_load_pp rfl rfl (R_mv t1 (R_mv t2 (R_callk (ih (((nth (f.kids) (k)))) ((a)) ((o)) (Fm.sz_kid (by omega)) (hp.2 _ (by omega)) (nnf_kid hn (by omega)).1 (Nat.le_trans (Nat.le_of_lt (Fm.sz_kid (by omega))) hz)) rfl (R_bslice rfl rfl (R_append1 (l:=((f.kids.take k).map (fun g=>mst g a o))) (f:=cF) (x:=((mst (((nth (f.kids) (k)))) ((a)) ((o))))) (@rfl V (V.ms 708 w 0 (k))) h708 (by (simp; omega)) (row_F1 (x:=((mst (((nth (f.kids) (k)))) ((a)) ((o))))) (@rfl V (V.sl [[(iV ((mst (((nth (f.kids) (k)))) ((a)) ((o))).op)),(iV ((mst (((nth (f.kids) (k)))) ((a)) ((o))).arg)),(V.sl (List.map cF ((mst (((nth (f.kids) (k)))) ((a)) ((o))).kids)))]]))) (cF_len _) (cF_one _) (by omega) (by omega) (R_fk t11 h11 ?_)))))))
  refine R_sk rfl rfl rfl h11 rfl rfl rfl rfl rfl (R_e (n17 _ _ (.done (W_t (R_mv t12 (R_addN rfl (@rfl V (iV ((1:Nat):Int))) (by omega) (R_mv rfl ?_)))))))
  refine R_e ?_
  refine p115 _ _ _ ?_ ⟨(k+1),(w+1),rfl,t1,t2,t3,t6,t11,(Eq.trans (@rfl V (iV ((k+1:Nat):Int))) (by rfl)),h3,h6,h9,h10,(Eq.trans (@rfl Blk (bk 1 24 3 [[(iV (f.op)),(iV (0:Int)),(V.ms 708 (w+1) 0 (k+1))]])) (by rfl)),(Eq.trans (@rfl Blk (bz (w+1) 24 3 (List.map cF ((f.kids.take k).map (fun g=>mst g a o)++[(mst (((nth (f.kids) (k)))) ((a)) ((o)))])))) (by (rw [mapTake (by omega)]; done))),?_⟩
  · omega
  · omega
 refine W_seq_exit (p315 _ _ _ (x14 _ _ (.done (W_r (R_lk t11 h11 rfl rfl (R_sk t6 rfl rfl h6 rfl rfl rfl rfl rfl (R_e ?_)))))))
 refine W_ret ?_
 refine RetC_1 (resV_c (u:=(V.agg [(iV (f.op)),(iV (0:Int)),(V.ms 708 w 0 (k))])) t6 (@rfl Blk (bk 1 24 3 [[(iV (f.op)),(iV (0:Int)),(V.ms 708 w 0 (k))]])) (lB oB rfl rfl)) (fz_agg3 (fz_int ?_) (fz_int ?_) (fz_ms h708 (by simp) (l:=((f.kids.take k).map (fun g=>mst g a o))) rfl (by (simp; omega)) (fun _=>by simp) ?_))
 · rw [mst_n (f:=f) (by omega)]; rfl
 · rw [mst_n (f:=f) (by omega)]; rfl
 · rw [mst_n (f:=f) (by omega),show k=f.kids.length by omega,List.take_length]; rfl
theorem rafter_pure (f:Fm) (a o:Int) (hok:okF f=true) (hn:nnf f=true) (hz:f.sz≤4096):PureC Tryz.prog 41 [(V.agg [(iV (f.op)),(iV (f.arg)),(V.sl (List.map cF (f.kids)))]),(iV (a)),(iV (o))] (V.agg [(iV ((mst f a o).op)),(iV ((mst f a o).arg)),(V.sl (List.map cF ((mst f a o).kids)))]):=by
  have key: ∀ (mm:Nat) (f:Fm) (a o:Int),f.sz < mm→okF f=true→nnf f=true→f.sz≤4096→PureC Tryz.prog 41 [(V.agg [(iV (f.op)),(iV (f.arg)),(V.sl (List.map cF (f.kids)))]),(iV (a)),(iV (o))] (V.agg [(iV ((mst f a o).op)),(iV ((mst f a o).arg)),(V.sl (List.map cF ((mst f a o).kids)))]):=by
    intro mm
    induction mm with
    |zero=>intro f a o hlt; exact absurd hlt (Nat.not_lt_zero _)
    | succ mm ih =>
      intro f a o hlt hok hn hz
      exact rafter_pure_step f a o hok hn hz fun f2 a2 o2 hlt2=>ih f2 a2 o2 (by omega)
  exact key (f.sz+1) f a o (Nat.lt_succ_self _) hok hn hz
theorem rstep_pure (f:Fm) (a o:Int):PureC Tryz.prog 14 [(V.agg [(iV (f.op)),(iV (f.arg)),(V.sl (List.map cF (f.kids)))]),(iV (a)),(iV (o))] (V.tup [(V.agg [(iV ((stM f a o).1.op)),(iV ((stM f a o).1.arg)),(V.sl (List.map cF ((stM f a o).1.kids)))]),(iV ((stM f a o).2))]):=by
 refine pW Tryz.func14 s14_ok fun hB=>?_
 unfold s14
 dsimp only
 refine W_r (R_box (i:=3) (n:=0) (m:=3) (cs:=[(iV (f.op)),(iV (f.arg)),(V.sl (List.map cF (f.kids)))]) rfl (congrArg Blk.ver rfl) rfl rfl rfl (R_alloc (i:=6) (n:=0) (m:=3) rfl (congrArg Blk.ver rfl) rfl (R_mv rfl (R_e (W_seq_seq (W_r (R_lk rfl rfl rfl rfl ?_)))))))
 refine R_callk (rfvalid_pure f) rfl (R_neq rfl rfl (R_e ?_))
 refine W_seq_if rfl (fun c1=>?_) fun c1=>?_
 ·
  have d1:=stM_e (a:=a) (o:=o) c1
  refine W_seq_seq (W_r (R_build rfl rfl (R_lk rfl rfl rfl rfl (R_callk (rfvalid_pure f) rfl (R_sk rfl rfl rfl rfl rfl rfl rfl rfl rfl (R_mv rfl (R_e ?_)))))))
  refine W_seq_ret ?_
  refine RetC_2 (resV_c (u:=(V.agg [(iV (0:Int)),(iV (0:Int)),V.nilsl])) rfl (@rfl Blk (bk 1 24 3 [[(iV (0:Int)),(iV (0:Int)),V.nilsl]])) (lB oB rfl rfl)) (resV_t (@rfl V (iV (fval f)))) (fz_agg3 (fz_int ?_) (fz_int ?_) (fz_nil ?_)) (fz_int ?_)
  · rw [d1]; rfl
  · rw [d1]; rfl
  · rw [d1]; rfl
  · rw [d1]
 have d0:=c1
 refine W_seq_skip (W_seq_seq (W_r (R_mv rfl (R_lss rfl rfl (R_mv rfl ?_)))))
 refine Ops_seg 3 (fun T H=>T 1=(iV (a))∧T 2=(iV (o))∧T 3=(V.mp 3 1 0 0)∧T 6=(V.mp 6 1 0 0)∧T 21=(V.bool (decide (((a) < (0:Int))∨((64:Int)≤(a)))))∧H 3=(bk 1 24 3 [[(iV (f.op)),(iV (f.arg)),(V.sl (List.map cF (f.kids)))]])∧H 6=(bk 1 24 3 [[(iV (0:Int)),(iV (0:Int)),V.nilsl]])∧H 8=(⟨0,false,false,0,0,[]⟩:Blk)∧True) ?_ ?_
 ·
  by_cases g2:(a) < (0:Int)
  ·
   refine G_n (edT g2 rfl) (G_n (edT g2 rfl) (R_pickT (edT g2 rfl) rfl ?_))
   exact ⟨rfl,rfl,rfl,rfl,(dec_orT g2),rfl,rfl,rfl,trivial⟩
  ·
   refine G_yes (edF g2 rfl) (R_mv rfl (G_yes (edF g2 rfl) (R_geq rfl rfl (R_pickF (edF g2 rfl) rfl ?_))))
   exact ⟨rfl,rfl,rfl,rfl,(dec_orF g2),rfl,rfl,rfl,trivial⟩
 intro T H ⟨t1,t2,t3,t6,t21,h3,h6,h8,_⟩
 refine R_mv t21 ?_
 refine Ops_seg 3 (fun T H=>T 1=(iV (a))∧T 2=(iV (o))∧T 3=(V.mp 3 1 0 0)∧T 6=(V.mp 6 1 0 0)∧T 25=(V.bool (decide ((((a) < (0:Int))∨((64:Int)≤(a)))∨((o) < (0:Int)))))∧H 3=(bk 1 24 3 [[(iV (f.op)),(iV (f.arg)),(V.sl (List.map cF (f.kids)))]])∧H 6=(bk 1 24 3 [[(iV (0:Int)),(iV (0:Int)),V.nilsl]])∧H 8=(⟨0,false,false,0,0,[]⟩:Blk)∧True) ?_ ?_
 ·
  by_cases g3:((a) < (0:Int))∨((64:Int)≤(a))
  ·
   refine G_n (edT g3 rfl) (G_n (edT g3 rfl) (R_pickT (edT g3 rfl) rfl ?_))
   exact ⟨t1,t2,t3,t6,(dec_orT g3),h3,h6,h8,trivial⟩
  ·
   refine G_yes (edF g3 rfl) (R_mv t2 (G_yes (edF g3 rfl) (R_lss rfl rfl (R_pickF (edF g3 rfl) rfl ?_))))
   exact ⟨t1,t2,t3,t6,(dec_orF g3),h3,h6,h8,trivial⟩
 intro T H ⟨t1,t2,t3,t6,t25,h3,h6,h8,_⟩
 refine R_mv t25 ?_
 refine Ops_seg 3 (fun T H=>T 1=(iV (a))∧T 2=(iV (o))∧T 3=(V.mp 3 1 0 0)∧T 6=(V.mp 6 1 0 0)∧T 29=(V.bool (decide (((((a) < (0:Int))∨((64:Int)≤(a)))∨((o) < (0:Int)))∨((1048576:Int) < (o)))))∧H 3=(bk 1 24 3 [[(iV (f.op)),(iV (f.arg)),(V.sl (List.map cF (f.kids)))]])∧H 6=(bk 1 24 3 [[(iV (0:Int)),(iV (0:Int)),V.nilsl]])∧H 8=(⟨0,false,false,0,0,[]⟩:Blk)∧True) ?_ ?_
 ·
  by_cases g4:(((a) < (0:Int))∨((64:Int)≤(a)))∨((o) < (0:Int))
  ·
   refine G_n (edT g4 rfl) (G_n (edT g4 rfl) (R_pickT (edT g4 rfl) rfl ?_))
   exact ⟨t1,t2,t3,t6,(dec_orT g4),h3,h6,h8,trivial⟩
  ·
   refine G_yes (edF g4 rfl) (R_mv t2 (G_yes (edF g4 rfl) (R_gtr rfl rfl (R_pickF (edF g4 rfl) rfl ?_))))
   exact ⟨t1,t2,t3,t6,(dec_orF g4),h3,h6,h8,trivial⟩
 intro T H ⟨t1,t2,t3,t6,t29,h3,h6,h8,_⟩
 refine R_e ?_
 refine W_seq_if t29 (fun c5=>?_) fun c5=>?_
 ·
  have d1:=stM_r (a:=a) (o:=o) d0 (by omega)
  refine W_seq_seq (W_r (R_build rfl rfl (R_sk t6 rfl rfl h6 rfl rfl rfl rfl rfl (R_mv rfl (R_e (W_seq_ret ?_))))))
  refine RetC_2 (resV_c (u:=(V.agg [(iV (0:Int)),(iV (0:Int)),V.nilsl])) t6 (@rfl Blk (bk 1 24 3 [[(iV (0:Int)),(iV (0:Int)),V.nilsl]])) (lB oB rfl rfl)) (resV_t (@rfl V (iV (2:Int)))) (fz_agg3 (fz_int ?_) (fz_int ?_) (fz_nil ?_)) (fz_int ?_)
  · rw [d1]; rfl
  · rw [d1]; rfl
  · rw [d1]; rfl
  · rw [d1]
 have d2: ¬(a < 0∨64≤a∨o < 0∨1048576 < o):=by omega
 refine W_seq_skip (W_r (R_lk t3 h3 rfl rfl (R_callk (rsimplify_pure f) rfl (R_mv rfl (R_ext rfl rfl (R_ext rfl rfl (R_alloc (i:=8) (n:=0) (m:=3) rfl (congrArg Blk.ver h8) rfl ?_)))))))
 refine R_sk rfl rfl rfl rfl rfl rfl rfl rfl rfl (R_mv rfl (R_e (W_seq_seq (W_r (R_mv rfl (R_neq rfl rfl (R_e ?_)))))))
 refine W_seq_if rfl (fun c6=>?_) fun c6=>?_
 ·
  have d1:=stM_s d0 d2 c6
  refine W_seq_seq (W_r (R_build rfl rfl (R_mv rfl (R_sk t6 rfl rfl h6 rfl rfl rfl rfl rfl (R_mv rfl (R_e (W_seq_ret ?_)))))))
  refine RetC_2 (resV_c (u:=(V.agg [(iV (0:Int)),(iV (0:Int)),V.nilsl])) t6 (@rfl Blk (bk 1 24 3 [[(iV (0:Int)),(iV (0:Int)),V.nilsl]])) (lB oB rfl rfl)) (resV_t (@rfl V (iV ((simp_ f).2)))) (fz_agg3 (fz_int ?_) (fz_int ?_) (fz_nil ?_)) (fz_int ?_)
  · rw [d1]; rfl
  · rw [d1]; rfl
  · rw [d1]; rfl
  · rw [d1]
 have d1:=stM_g d0 d2 c6
 have v1:=simp_val c6
 have v2:=simp_nn d0 c6
 refine W_seq_skip (W_r (R_lk rfl rfl rfl rfl (R_mv t1 (R_mv t2 (R_callk (rafter_pure ((simp_ f).1) ((a)) ((o)) v2.1 v2.2 (fval_sz v1)) rfl (R_callk (rresult_pure ((mst ((simp_ f).1) ((a)) ((o)))) (mst_ok _ a o v2.1 v2.2).1 (mst_sz2 v2.1 (fval_sz v1))) rfl (R_ext rfl rfl ?_)))))))
 refine R_ext rfl rfl (R_sk t6 rfl rfl h6 rfl rfl rfl rfl rfl (R_mv rfl (R_e (W_ret ?_))))
 refine RetC_2 (resV_c (u:=(V.agg [(iV ((chk ((mst ((simp_ f).1) ((a)) ((o))))).1.op)),(iV ((chk ((mst ((simp_ f).1) ((a)) ((o))))).1.arg)),(V.sl (List.map cF ((chk ((mst ((simp_ f).1) ((a)) ((o))))).1.kids)))])) t6 (@rfl Blk (bk 1 24 3 [[(iV ((chk ((mst ((simp_ f).1) ((a)) ((o))))).1.op)),(iV ((chk ((mst ((simp_ f).1) ((a)) ((o))))).1.arg)),(V.sl (List.map cF ((chk ((mst ((simp_ f).1) ((a)) ((o))))).1.kids)))]])) (lB oB rfl rfl)) (resV_t (@rfl V (iV ((chk ((mst ((simp_ f).1) ((a)) ((o))))).2)))) (fz_agg3 (fz_int ?_) (fz_int ?_) (fz_sl ?_ (fun _=>by simp))) (fz_int ?_)
 · rw [d1]
 · rw [d1]
 · rw [d1]
 · rw [d1]
def r16_3:List SO:=[
 qL 9 3 1,
 sO 10 (.build [.nilsl,.nilsl] []),
 sO 11 (.call false 43 [.t 9,.t 10]),
 qE 12 11 0,
 qE 13 11 1,
 qM 2 12,
 qM 3 13]
def s16:SF:=⟨14,[.tmp 2,.tmp 3],.seq (.reg [sO 1 (.box 24 3 (.t 0)),sO 2 (.mv (.c (.bool false))),qI 3 0]) (.seq (.seq (.reg [qL 4 3 1,sO 5 (.call false 28 [.t 4]),qC 6 .neq 5 0]) (.cond (.t 6) (.seq (.reg [qL 7 3 1,sO 8 (.call false 28 [.t 7]),sO 2 (.mv (.c (.bool false))),qM 3 8]) (.ret)) (.skip))) (.seq (.reg r16_3) (.ret)))⟩
theorem s16_ok:slimF Tryz.prog ⟨[59,84,90,97,109,153,154,155,160],[],[],[]⟩ Tryz.f16=some s16:=by kernel_rfl
def r43_5:List SO:=[
 qF 18 1 3,
 ql 19 18,
 qN 20 19,
 qF 21 0 3,
 ql 22 21,
 qN 23 22,
 qP 24 .neq 20 23,
 qM 17 24]
def r43_7:List SO:=[
 qL 25 3 2,
 qL 26 2 3,
 sO 27 (.call false 70 [.t 25,.t 26]),
 sO 28 (.idx 1 (.t 27) (.c (.int .i64 0))),
 ql 29 28,
 qM 4 29,
 qI 5 0]
def s43:SF:=⟨30,[.tmp 4,.tmp 5],.seq (.reg [sO 2 (.box 24 3 (.t 0)),sO 3 (.box 54 2 (.t 1)),sO 4 (.mv (.c (.bool false))),qI 5 0]) (.seq (.block 0 (.seq (.reg [qL 7 3 2,sO 8 (.call false 28 [.t 7]),qC 9 .neq 8 0,qM 6 9]) (.cond (.t 6) (.seq (.reg [qL 10 3 2,sO 11 (.call false 28 [.t 10]),sO 4 (.mv (.c (.bool false))),qM 5 11]) (.ret)) (.seq (.reg [qF 13 0 3,ql 14 13,qN 15 14,qC 16 .gtr 15 1024,qM 12 16]) (.cond (.t 12) (.seq (.reg [sO 4 (.mv (.c (.bool false))),qI 5 3]) (.ret)) (.seq (.reg r43_5) (.cond (.t 17) (.seq (.reg [sO 4 (.mv (.c (.bool false))),qI 5 1]) (.ret)) (.skip)))))))) (.seq (.reg r43_7) (.ret)))⟩
theorem s43_ok:slimF Tryz.prog ⟨[59,84,90,97,109,153,154,155,160],[],[],[]⟩ Tryz.f43=some s43:=by kernel_rfl
def r70_7:List SO:=[
 qM 29 7,
 qF 30 2 2,
 ql 31 30,
 qM 32 8,
 qA 33 3 31 32,
 qL 34 3 33,
 qL 35 2 3,
 sO 36 (.call false 70 [.t 34,.t 35]),
 sO 37 (.bslice 41 1 false [.nilsl] 1 [(0,.t 36)]),
 sO 38 (.append 41 1 24 (.t 29) (.t 37)),
 qM 7 38]
def b70_0:SC:=.seq (.seq (.reg [qM 22 8,qF 23 2 2,ql 24 23,qN 25 24,qP 26 .lss 22 25]) (.cond (.t 26) (.skip) (.exit 0))) (.seq (.block 1 (.reg r70_7)) (.reg [qM 27 8,qC 28 .add 27 1,qM 8 28]))
def r70_23:List SO:=[
 qM 103 6,
 qM 104 9,
 qM 105 10,
 qM 106 105,
 ⟨some (106,true),some 107,.fld 0 (.t 3)⟩,
 ⟨some (106,true),some 108,.load false 1 (.t 107)⟩,
 ⟨some (106,true),some 109,.mv (.t 9)⟩,
 ⟨some (106,true),some 110,.idx 1 (.t 108) (.t 109)⟩,
 ⟨some (106,true),some 111,.load false 1 (.t 110)⟩,
 ⟨some (106,true),some 112,.fld 1 (.t 2)⟩,
 ⟨some (106,true),some 113,.load false 1 (.t 112)⟩,
 ⟨some (106,true),some 114,.bin .eql (.t 111) (.t 113)⟩,
 sO 115 (.pick (.t 106) (.t 114) (.c (.bool false))),
 qA 116 1 103 104,
 sN (.store 1 (.t 116) (.t 115))]
def r70_25:List SO:=[
 qM 119 6,
 qM 120 9,
 qM 121 10,
 qM 122 121,
 ⟨some (122,true),some 123,.fld 1 (.t 3)⟩,
 ⟨some (122,true),some 124,.load false 1 (.t 123)⟩,
 ⟨some (122,true),some 125,.mv (.t 9)⟩,
 ⟨some (122,true),some 126,.idx 1 (.t 124) (.t 125)⟩,
 ⟨some (122,true),some 127,.load false 1 (.t 126)⟩,
 ⟨some (122,true),some 128,.fld 1 (.t 2)⟩,
 ⟨some (122,true),some 129,.load false 1 (.t 128)⟩,
 ⟨some (122,true),some 130,.bin .eql (.t 127) (.t 129)⟩,
 sO 131 (.pick (.t 122) (.t 130) (.c (.bool false))),
 qA 132 1 119 120,
 sN (.store 1 (.t 132) (.t 131))]
def r70_27:List SO:=[
 qM 135 6,
 qM 136 9,
 qM 137 7,
 sO 138 (.idx 1 (.t 137) (.c (.int .i64 0))),
 ql 139 138,
 qM 140 9,
 qA 141 1 139 140,
 ql 142 141,
 sO 143 (.un .not (.t 142)),
 qA 144 1 135 136,
 sN (.store 1 (.t 144) (.t 143))]
def r70_29:List SO:=[
 qM 147 6,
 qM 148 9,
 qM 149 10,
 qM 150 149,
 ⟨some (150,true),some 151,.mv (.t 7)⟩,
 ⟨some (150,true),some 152,.idx 1 (.t 151) (.c (.int .i64 0))⟩,
 ⟨some (150,true),some 153,.load false 1 (.t 152)⟩,
 ⟨some (150,true),some 154,.mv (.t 9)⟩,
 ⟨some (150,true),some 155,.bin .add (.t 154) (.c (.int .i64 1))⟩,
 ⟨some (150,true),some 156,.idx 1 (.t 153) (.t 155)⟩,
 ⟨some (150,true),some 157,.load false 1 (.t 156)⟩,
 sO 158 (.pick (.t 150) (.t 157) (.c (.bool false))),
 qA 159 1 147 148,
 sN (.store 1 (.t 159) (.t 158))]
def r70_31:List SO:=[
 qM 162 6,
 qM 163 9,
 qM 164 10,
 sO 165 (.un .not (.t 164)),
 qM 166 165,
 ⟨some (166,false),some 167,.mv (.t 7)⟩,
 ⟨some (166,false),some 168,.idx 1 (.t 167) (.c (.int .i64 0))⟩,
 ⟨some (166,false),some 169,.load false 1 (.t 168)⟩,
 ⟨some (166,false),some 170,.mv (.t 9)⟩,
 ⟨some (166,false),some 171,.bin .add (.t 170) (.c (.int .i64 1))⟩,
 ⟨some (166,false),some 172,.idx 1 (.t 169) (.t 171)⟩,
 ⟨some (166,false),some 173,.load false 1 (.t 172)⟩,
 sO 174 (.pick (.t 166) (.c (.bool true)) (.t 173)),
 qA 175 1 162 163,
 sN (.store 1 (.t 175) (.t 174))]
def r70_36:List SO:=[
 qM 187 6,
 qM 188 9,
 qM 189 6,
 qM 190 9,
 qA 191 1 189 190,
 ql 192 191,
 qM 193 192,
 ⟨some (193,false),some 194,.mv (.t 7)⟩,
 ⟨some (193,false),some 195,.idx 1 (.t 194) (.c (.int .i64 1))⟩,
 ⟨some (193,false),some 196,.load false 1 (.t 195)⟩,
 ⟨some (193,false),some 197,.mv (.t 11)⟩,
 ⟨some (193,false),some 198,.idx 1 (.t 196) (.t 197)⟩,
 ⟨some (193,false),some 199,.load false 1 (.t 198)⟩,
 sO 200 (.pick (.t 193) (.c (.bool true)) (.t 199)),
 qA 201 1 187 188,
 sN (.store 1 (.t 201) (.t 200))]
def r70_37:List SO:=[
 qM 202 7,
 sO 203 (.idx 1 (.t 202) (.c (.int .i64 0))),
 ql 204 203,
 qM 205 11,
 qA 206 1 204 205,
 ql 207 206,
 qM 12 207]
def b70_2:SC:=.seq (.seq (.reg [qM 179 11,qM 180 5,qP 181 .leq 179 180,qM 182 181,⟨some (182,true),some 183,.mv (.t 12)⟩,sO 184 (.pick (.t 182) (.t 183) (.c (.bool false)))]) (.cond (.t 184) (.skip) (.exit 7))) (.seq (.block 8 (.seq (.reg r70_36) (.reg r70_37))) (.reg [qM 185 11,qC 186 .add 185 1,qM 11 186]))
def r70_43:List SO:=[
 qM 222 6,
 qM 223 9,
 qM 224 6,
 qM 225 9,
 qA 226 1 224 225,
 ql 227 226,
 qM 228 227,
 ⟨some (228,true),some 229,.mv (.t 7)⟩,
 ⟨some (228,true),some 230,.idx 1 (.t 229) (.c (.int .i64 1))⟩,
 ⟨some (228,true),some 231,.load false 1 (.t 230)⟩,
 ⟨some (228,true),some 232,.mv (.t 13)⟩,
 ⟨some (228,true),some 233,.idx 1 (.t 231) (.t 232)⟩,
 ⟨some (228,true),some 234,.load false 1 (.t 233)⟩,
 sO 235 (.pick (.t 228) (.t 234) (.c (.bool false))),
 qA 236 1 222 223,
 sN (.store 1 (.t 236) (.t 235))]
def r70_44:List SO:=[
 qM 237 7,
 sO 238 (.idx 1 (.t 237) (.c (.int .i64 0))),
 ql 239 238,
 qM 240 13,
 qA 241 1 239 240,
 ql 242 241,
 sO 243 (.un .not (.t 242)),
 qM 14 243]
def b70_3:SC:=.seq (.seq (.reg [qM 214 13,qM 215 5,qP 216 .leq 214 215,qM 217 216,⟨some (217,true),some 218,.mv (.t 14)⟩,sO 219 (.pick (.t 217) (.t 218) (.c (.bool false)))]) (.cond (.t 219) (.skip) (.exit 9))) (.seq (.block 10 (.seq (.reg r70_43) (.reg r70_44))) (.reg [qM 220 13,qC 221 .add 220 1,qM 13 221]))
def r70_13:List SO:=[
 qM 49 6,
 qM 50 9,
 qF 51 0 2,
 ql 52 51,
 qC 53 .eql 52 5,
 qA 54 1 49 50,
 sN (.store 1 (.t 54) (.t 53))]
def r70_18:List SO:=[
 qM 64 6,
 qM 65 9,
 qM 66 6,
 qM 67 9,
 qA 68 1 66 67,
 ql 69 68,
 qM 70 69,
 ⟨some (70,true),some 71,.mv (.t 7)⟩,
 ⟨some (70,true),some 72,.mv (.t 15)⟩,
 ⟨some (70,true),some 73,.idx 1 (.t 71) (.t 72)⟩,
 ⟨some (70,true),some 74,.load false 1 (.t 73)⟩,
 ⟨some (70,true),some 75,.mv (.t 9)⟩,
 ⟨some (70,true),some 76,.idx 1 (.t 74) (.t 75)⟩,
 ⟨some (70,true),some 77,.load false 1 (.t 76)⟩,
 sO 78 (.pick (.t 70) (.t 77) (.c (.bool false))),
 qA 79 1 64 65,
 sN (.store 1 (.t 79) (.t 78))]
def r70_19:List SO:=[
 qM 80 6,
 qM 81 9,
 qM 82 6,
 qM 83 9,
 qA 84 1 82 83,
 ql 85 84,
 qM 86 85,
 ⟨some (86,false),some 87,.mv (.t 7)⟩,
 ⟨some (86,false),some 88,.mv (.t 15)⟩,
 ⟨some (86,false),some 89,.idx 1 (.t 87) (.t 88)⟩,
 ⟨some (86,false),some 90,.load false 1 (.t 89)⟩,
 ⟨some (86,false),some 91,.mv (.t 9)⟩,
 ⟨some (86,false),some 92,.idx 1 (.t 90) (.t 91)⟩,
 ⟨some (86,false),some 93,.load false 1 (.t 92)⟩,
 sO 94 (.pick (.t 86) (.c (.bool true)) (.t 93)),
 qA 95 1 80 81,
 sN (.store 1 (.t 95) (.t 94))]
def b70_4:SC:=.seq (.seq (.reg [qM 55 15,qM 56 7,qN 57 56,qP 58 .lss 55 57]) (.cond (.t 58) (.skip) (.exit 5))) (.seq (.block 6 (.seq (.reg [qF 61 0 2,ql 62 61,qC 63 .eql 62 5]) (.cond (.t 63) (.reg r70_18) (.reg r70_19)))) (.reg [qM 59 15,qC 60 .add 59 1,qM 15 60]))
def b70_1:SC:=.seq (.seq (.reg [qM 40 9,qC 41 .geq 40 0]) (.cond (.t 41) (.skip) (.exit 2))) (.seq (.block 3 (.seq (.reg [qM 44 9,qM 45 5,qP 46 .lss 44 45,qM 10 46]) (.seq (.reg [qF 47 0 2,ql 48 47]) (.block 4 (.seq (.reg [qC 97 .eql 48 1,qM 96 97]) (.cond (.t 96) (.reg [qM 98 6,qM 99 9,qA 100 1 98 99,sN (.store 1 (.t 100) (.c (.bool true)))]) (.seq (.reg [qC 102 .eql 48 2,qM 101 102]) (.cond (.t 101) (.reg r70_23) (.seq (.reg [qC 118 .eql 48 3,qM 117 118]) (.cond (.t 117) (.reg r70_25) (.seq (.reg [qC 134 .eql 48 4,qM 133 134]) (.cond (.t 133) (.reg r70_27) (.seq (.reg [qC 146 .eql 48 7,qM 145 146]) (.cond (.t 145) (.reg r70_29) (.seq (.reg [qC 161 .eql 48 9,qM 160 161]) (.cond (.t 160) (.reg r70_31) (.seq (.reg [qC 177 .eql 48 8,qM 176 177]) (.cond (.t 176) (.seq (.reg [qM 178 9,qM 11 178,sO 12 (.mv (.c (.bool true)))]) (.block 7 (.loop b70_2))) (.seq (.reg [qC 209 .eql 48 10,qM 208 209]) (.cond (.t 208) (.seq (.reg [qM 210 6,qM 211 9,qA 212 1 210 211,sN (.store 1 (.t 212) (.c (.bool true)))]) (.seq (.reg [qM 213 9,qM 13 213,sO 14 (.mv (.c (.bool true)))]) (.block 9 (.loop b70_3)))) (.seq (.reg r70_13) (.seq (.reg [qI 15 0]) (.block 5 (.loop b70_4)))))))))))))))))))))))) (.reg [qM 42 9,qC 43 .sub 42 1,qM 9 43]))
def s70:SF:=⟨245,[.tmp 4],.seq (.reg [sO 2 (.box 24 3 (.t 0)),sO 3 (.box 54 2 (.t 1)),sO 4 (.mv (.c (.nilsl)))]) (.seq (.reg [qF 16 0 3,ql 17 16,qN 18 17,qM 5 18]) (.seq (.reg [qM 19 5,qC 20 .add 19 1,sO 21 (.mks 4 1 1 [.bool false] (.t 20) (.t 20)),qM 6 21]) (.seq (.reg [sO 7 (.lazy 41 1)]) (.seq (.seq (.reg [qI 8 0]) (.block 0 (.loop b70_0))) (.seq (.seq (.reg [qM 39 5,qM 9 39]) (.block 2 (.loop b70_1))) (.seq (.reg [qM 244 6,qM 4 244]) (.ret)))))))⟩
theorem s70_ok:slimF Tryz.prog ⟨[59,84,90,97,109,153,154,155,160],[7],[],[]⟩ Tryz.f70=some s70:=by kernel_rfl
end Go.Proofs.YteehaobohaecmaaGreatDoor
namespace Go.Proofs.YteehaobohaecmaaGreatDoor
open Go
def kR (t:Tr) (f:Fm) (q:Nat):Nat→Bool:=fun j=>nth (nth (f.kids.map (rst t)) q) j
theorem kR_sat {t:Tr} {f:Fm} {q j:Nat} (hq:q < f.kids.length) (hj:j≤t.ni.length):kR t f q j=nth (f.kids.map (sat t)) q j:=by
  unfold kR; rw [nthM hq,nthM hq,rst_nth hj]
theorem untB_congr {g h g' h':Nat→Bool} {n:Nat}: ∀ {m i:Nat},i+m≤n→(∀ j,j≤n→g j=g' j)→(∀ j,j≤n→h j=h' j)→untB g h m i=untB g' h' m i
  |0,i,hi,_,h2=>h2 i (by omega)
  |m+1,i,hi,h1,h2=>by rw [untB,untB,h2 i (by omega),h1 i (by omega),untB_congr (m:=m) (by omega) h1 h2]
theorem relB_congr {g h g' h':Nat→Bool} {n:Nat}: ∀ {m i:Nat},i+m≤n→(∀ j,j≤n→g j=g' j)→(∀ j,j≤n→h j=h' j)→relB g h m i=relB g' h' m i
  |0,i,hi,_,h2=>h2 i (by omega)
  |m+1,i,hi,h1,h2=>by rw [relB,relB,h2 i (by omega),h1 i (by omega),relB_congr (m:=m) (by omega) h1 h2]
section
variable {t:Tr} {f:Fm} {j:Nat}
theorem sv1 (h:f.op=1):sat t f j=true:=by rw [sat_eq,satO,if_pos h]
theorem sv2 (h:f.op=2):sat t f j=(decide (j < t.ni.length)&&decide (nth t.ni j=f.arg)):=by rw [sat_eq,satO,if_neg (by omega),if_pos h]
theorem sv3 (h:f.op=3):sat t f j=(decide (j < t.ni.length)&&decide (nth t.no j=f.arg)):=by rw [sat_eq,satO,if_neg (by omega),if_neg (by omega),if_pos h]
theorem sv4 (hj:j≤t.ni.length) (hk:0 < f.kids.length) (h:f.op=4):sat t f j= !(kR t f 0 j):=by rw [sat_eq,satO,if_neg (by omega),if_neg (by omega),if_neg (by omega),if_pos h,kR_sat hk hj]
theorem sv7 (hk:0 < f.kids.length) (h:f.op=7):sat t f j=(decide (j < t.ni.length)&&kR t f 0 (j+1)):=by
  rw [sat_eq,satO,if_neg (by omega),if_neg (by omega),if_neg (by omega),if_neg (by omega),if_pos h]
  by_cases q:j < t.ni.length
  · rw [kR_sat hk q]
  · rw [decide_eq_false q,Bool.false_and,Bool.false_and]
theorem sv9 (hk:0 < f.kids.length) (h:f.op=9):sat t f j=(decide (¬j < t.ni.length)||kR t f 0 (j+1)):=by
  rw [sat_eq,satO,if_neg (by omega),if_neg (by omega),if_neg (by omega),if_neg (by omega),if_neg (by omega),if_pos h]
  by_cases q:j < t.ni.length
  · rw [kR_sat hk q]
  · rw [decide_eq_true q,Bool.true_or,Bool.true_or]
theorem sv8 (hj:j≤t.ni.length) (hk:1 < f.kids.length) (h:f.op=8):sat t f j=untB (kR t f 0) (kR t f 1) (t.ni.length - j) j:=by
  rw [sat_eq,satO,if_neg (by omega),if_neg (by omega),if_neg (by omega),if_neg (by omega),if_neg (by omega),if_neg (by omega),if_pos h]
  exact untB_congr (n:=t.ni.length) (by omega) (fun q hq=>(kR_sat (by omega) hq).symm) fun q hq=>(kR_sat hk hq).symm
theorem sv10 (hj:j≤t.ni.length) (hk:1 < f.kids.length) (h:f.op=10):sat t f j=relB (kR t f 0) (kR t f 1) (t.ni.length - j) j:=by
  rw [sat_eq,satO,if_neg (by omega),if_neg (by omega),if_neg (by omega),if_neg (by omega),if_neg (by omega),if_neg (by omega),if_neg (by omega),if_pos h]
  exact relB_congr (n:=t.ni.length) (by omega) (fun q hq=>(kR_sat (by omega) hq).symm) fun q hq=>(kR_sat hk hq).symm
theorem sv5 (hj:j≤t.ni.length) (h:f.op=5):sat t f j=(f.kids.map (rst t)).all fun r=>nth r j:=by
  rw [sat_eq,satO,if_neg (by omega),if_neg (by omega),if_neg (by omega),if_neg (by omega),if_neg (by omega),if_neg (by omega),if_neg (by omega),if_neg (by omega),if_pos h,List.all_map,List.all_map]
  congr 1; funext g; exact (rst_nth hj).symm
theorem sv6 (hj:j≤t.ni.length) (h:f.op=6):sat t f j=(f.kids.map (rst t)).any fun r=>nth r j:=by
  rw [sat_eq,satO,if_neg (by omega),if_neg (by omega),if_neg (by omega),if_neg (by omega),if_neg (by omega),if_neg (by omega),if_neg (by omega),if_neg (by omega),if_neg (by omega),List.any_map,List.any_map]
  congr 1; funext g; exact (rst_nth hj).symm
end
theorem outL_set2 {t:Tr} {f:Fm} {i:Int} {b:Bool} (h0:0≤i) (hi:i≤t.ni.length) (hb:b=sat t f i.toNat):(outL t f i).set i.toNat b=outL t f (i - 1):=by
  obtain ⟨j,rfl⟩: ∃ j:Nat,i=j:=⟨i.toNat,by omega⟩
  exact outL_set (by omega) hb
theorem outL_z {t:Tr} {f:Fm} {i:Int} (h0:0≤i) (hi:i≤t.ni.length):(outL t f i).set i.toNat false=outL t f i:=by
  apply List.ext_getElem
  · simp
  · intro q h1 h2
    rw [List.getElem_set]
    split
    · rename_i e
      subst e
      simp only [outL,List.getElem_map,List.getElem_range]
      rw [decide_eq_false (by omega),Bool.false_and]
    · rfl
theorem nth_set_at {α:Type} [Inhabited α] {l:List α} {i:Nat} {x:α} (h:i < l.length):nth (l.set i x) i=x:=by
  rw [← nth_getElem (by simpa using h),List.getElem_set_self]
def unI (t:Tr) (f:Fm) (i k:Int) (al x:Bool):Prop:=(x||(al&&decide (k≤t.ni.length)&&untB (kR t f 0) (kR t f 1) (t.ni.length - k.toNat) k.toNat))=sat t f i.toNat
theorem unI_start {t:Tr} {f:Fm} {i:Int} (h0:0≤i) (hi:i≤t.ni.length) (hk:1 < f.kids.length) (h:f.op=8):unI t f i i true false:=by
  unfold unI; rw [sv8 (by omega) hk h,decide_eq_true hi]; rfl
theorem unI_next {t:Tr} {f:Fm} {i k:Int} {al x:Bool} (h:unI t f i k al x) (h0:0≤k) (hk:k≤t.ni.length) (ha:al=true):unI t f i (k+1) (kR t f 0 k.toNat) (x||kR t f 1 k.toNat):=by
  unfold unI at h ⊢
  rw [← h,ha,decide_eq_true hk,untB_at (show k.toNat≤t.ni.length by omega),show (k+1).toNat=k.toNat+1 by omega]
  have e:decide (k+1≤(t.ni.length:Int))=decide (k.toNat < t.ni.length):=decide_eq_decide.2 (by omega)
  rw [e]
  cases x <;> cases kR t f 1 k.toNat <;> cases kR t f 0 k.toNat <;> cases decide (k.toNat < t.ni.length) <;> rfl
theorem unI_end {t:Tr} {f:Fm} {i k:Int} {al x:Bool} (h:unI t f i k al x) (he:(decide (k≤(t.ni.length:Int))&&al)=false):x=sat t f i.toNat:=by
  unfold unI at h
  rw [← h,Bool.and_comm al,he,Bool.false_and,Bool.or_false]
def reI (t:Tr) (f:Fm) (i k:Int) (al x:Bool):Prop:=(x&&(!(al&&decide (k≤t.ni.length))||relB (kR t f 0) (kR t f 1) (t.ni.length - k.toNat) k.toNat))=sat t f i.toNat
theorem reI_start {t:Tr} {f:Fm} {i:Int} (h0:0≤i) (hi:i≤t.ni.length) (hk:1 < f.kids.length) (h:f.op=10):reI t f i i true true:=by
  unfold reI; rw [sv10 (by omega) hk h,decide_eq_true hi]; simp
theorem reI_next {t:Tr} {f:Fm} {i k:Int} {al x:Bool} (h:reI t f i k al x) (h0:0≤k) (hk:k≤t.ni.length) (ha:al=true):reI t f i (k+1) (!(kR t f 0 k.toNat)) (x&&kR t f 1 k.toNat):=by
  unfold reI at h ⊢
  rw [← h,ha,decide_eq_true hk,relB_at (show k.toNat≤t.ni.length by omega),show (k+1).toNat=k.toNat+1 by omega]
  have e:decide (k+1≤(t.ni.length:Int))= !decide (¬k.toNat < t.ni.length):=by rw [decide_not,Bool.not_not]; exact decide_eq_decide.2 (by omega)
  rw [e]
  cases x <;> cases kR t f 1 k.toNat <;> cases kR t f 0 k.toNat <;> cases decide (¬k.toNat < t.ni.length) <;> rfl
theorem reI_end {t:Tr} {f:Fm} {i k:Int} {al x:Bool} (h:reI t f i k al x) (he:(decide (k≤(t.ni.length:Int))&&al)=false):x=sat t f i.toNat:=by
  unfold reI at h
  rw [← h,Bool.and_comm al,he]; simp
def aoI (t:Tr) (f:Fm) (i:Int) (q:Nat) (x:Bool):Prop:=
  (if f.op=5 then x&&((f.kids.map (rst t)).drop q).all fun r=>nth r i.toNat else x||((f.kids.map (rst t)).drop q).any fun r=>nth r i.toNat)=sat t f i.toNat
theorem aoI_start {t:Tr} {f:Fm} {i:Int} (h0:0≤i) (hi:i≤t.ni.length) (h:f.op=5∨f.op=6):aoI t f i 0 (decide (f.op=5)):=by
  unfold aoI
  by_cases e:f.op=5
  · rw [if_pos e,sv5 (by omega) e,decide_eq_true e]; rfl
  · rw [if_neg e,sv6 (by omega) (by omega),decide_eq_false e]; rfl
theorem aoI_and {t:Tr} {f:Fm} {i:Int} {q:Nat} {x:Bool} (h:aoI t f i q x) (hq:q < f.kids.length) (e:f.op=5):aoI t f i (q+1) (x&&nth (nth (f.kids.map (rst t)) q) i.toNat):=by
  unfold aoI at h ⊢
  rw [if_pos e] at h ⊢
  rw [← h,nth_drop (l:=f.kids.map (rst t)) (k:=q) (by simpa using hq),List.all_cons,Bool.and_assoc]
theorem aoI_or {t:Tr} {f:Fm} {i:Int} {q:Nat} {x:Bool} (h:aoI t f i q x) (hq:q < f.kids.length) (e: ¬f.op=5):aoI t f i (q+1) (x||nth (nth (f.kids.map (rst t)) q) i.toNat):=by
  unfold aoI at h ⊢
  rw [if_neg e] at h ⊢
  rw [← h,nth_drop (l:=f.kids.map (rst t)) (k:=q) (by simpa using hq),List.any_cons,Bool.or_assoc]
theorem aoI_end {t:Tr} {f:Fm} {i:Int} {q:Nat} {x:Bool} (h:aoI t f i q x) (hq:f.kids.length≤q):x=sat t f i.toNat:=by
  unfold aoI at h
  rw [List.drop_eq_nil_of_le (by simpa using hq)] at h
  split at h
  · rw [← h]; simp
  · rw [← h]; simp
end Go.Proofs.YteehaobohaecmaaGreatDoor
namespace Go.Proofs.YteehaobohaecmaaGreatDoor
open Go Go.Proofs
attribute [local irreducible] mksV
set_option maxHeartbeats 4000000 in
theorem rrests_pure_step (f:Fm) (t:Tr) (hf:okF f=true) (hz:f.sz≤4096) (ht:t.no.length=t.ni.length) (hn:t.ni.length≤1024) (ih: ∀ (g:Fm) (t:Tr),g.sz < f.sz→okF g=true→g.sz≤4096→t.no.length=t.ni.length→t.ni.length≤1024→PureC Tryz.prog 70 [(V.agg [(iV (g.op)),(iV (g.arg)),(V.sl (List.map cF (g.kids)))]),(V.agg [(ints t.ni),(ints t.no)])] (V.sl (List.map cB ((rst t g))))):PureC Tryz.prog 70 [(V.agg [(iV (f.op)),(iV (f.arg)),(V.sl (List.map cF (f.kids)))]),(V.agg [(ints t.ni),(ints t.no)])] (V.sl (List.map cB ((rst t f)))):=by
 refine pW Tryz.func70 s70_ok fun hB=>?_
 unfold s70
 dsimp only
 have hp:=okF_parts hf
 have hr:=rgt_ok hp.1
 have hln:=f.sz_len
 have hr0:0 < f.kids.length→(nth (f.kids.map (rst t)) 0).length=t.ni.length+1:=fun h=>by rw [nthM h,rst_len]
 have hr1:1 < f.kids.length→(nth (f.kids.map (rst t)) 1).length=t.ni.length+1:=fun h=>by rw [nthM h,rst_len]
 refine W_r (R_box (i:=2) (n:=0) (m:=3) (cs:=[(iV (f.op)),(iV (f.arg)),(V.sl (List.map cF (f.kids)))]) rfl (congrArg Blk.ver rfl) rfl rfl rfl (R_box (i:=3) (n:=0) (m:=2) (cs:=[(ints t.ni),(ints t.no)]) rfl (congrArg Blk.ver rfl) rfl rfl rfl (R_mv rfl (R_e (W_r (R_fk rfl rfl (R_lk rfl rfl rfl rfl ?_)))))))
 refine R_len rfl (R_mv rfl (R_e (W_r (R_mv rfl (R_addN rfl (@rfl V (iV ((1:Nat):Int))) (by omega) (R_mksm (i:=21) (n:=0) (m:=(t.ni.length+1)) (q:=(t.ni.length+1)) (f:=cB) (x:=false) rfl (congrArg Blk.ver rfl) (@rfl V (iV ((t.ni.length+1:Nat):Int))) (@rfl V (iV ((t.ni.length+1:Nat):Int))) rfl (by omega) (by omega) (by omega) (R_mv rfl ?_)))))))
 refine R_e (W_r (R_lazy (i:=7) (n:=0) rfl (congrArg Blk.ver rfl) (R_e (W_seq_seq (W_r (R_mv rfl (R_e ?_)))))))
 refine W_seq_blockg fun Q1 n1 x1 y1 z1=>?_
 refine W_loop (fun mm T H=> ∃ (k:Nat) (v:Nat),mm=f.kids.length - k∧T 2=(V.mp 2 1 0 0)∧T 3=(V.mp 3 1 0 0)∧T 5=(iV ((t.ni.length:Nat):Int))∧T 6=(V.ms 21 1 0 (t.ni.length+1))∧T 7=(V.ms 7 v 0 (k))∧T 8=(iV ((k:Nat):Int))∧H 2=(bk 1 24 3 [[(iV (f.op)),(iV (f.arg)),(V.sl (List.map cF (f.kids)))]])∧H 3=(bk 1 54 2 [[(ints t.ni),(ints t.no)]])∧H 7=(bz v 41 1 (List.map cBL ((f.kids.take k).map (rst t))))∧H 21=(bk 1 4 1 (List.map cB (List.replicate (t.ni.length+1) false)))∧(k≤f.kids.length)) ?_ ?_
 ·
  refine ⟨_,0,1,rfl,rfl,rfl,rfl,rfl,rfl,(Eq.trans (@rfl V (iV (0:Int))) rfl),rfl,rfl,(Eq.trans (@rfl Blk (bz 1 41 1 [])) (by rfl)),rfl,?_⟩
  · omega
 intro mm T H ⟨k,v,hmm,t2,t3,t5,t6,t7,t8,h2,h3,h7,h21,hk⟩ Q2 p12 p22 p32
 unfold b70_0
 refine W_seq_seq (W_r (R_mv t8 (R_fk t2 h2 (R_lk rfl h2 rfl rfl (R_len rfl (R_lss rfl rfl (R_e ?_)))))))
 refine W_seq_if rfl (fun c3=>?_) fun c3=>?_
 ·
  refine W_seq_skip (W_seq_blockg fun Q4 n4 x4 y4 z4=>(W_t (R_mv t7 (R_fk t2 h2 (R_lk rfl h2 rfl rfl (R_mv t8 (R_idxu (i:=k) (@rfl V (V.sl (List.map cF (f.kids)))) (@rfl V (iV ((k:Nat):Int))) (by omega) (cF_eq _) rfl ?_)))))))
  refine R_load_pp rfl rfl (R_lk t3 h3 rfl rfl (R_callk (ih (((nth (f.kids) (k)))) t (Fm.sz_kid (by omega)) (hp.2 _ (by omega)) (Nat.le_trans (Nat.le_of_lt (Fm.sz_kid (by omega))) hz) (by omega) (by omega)) rfl (R_bslice rfl rfl (R_append1 (l:=((f.kids.take k).map (rst t))) (f:=cBL) (x:=((rst t (((nth (f.kids) (k))))))) (@rfl V (V.ms 7 v 0 (k))) h7 (by (simp; omega)) (@rfl V (V.sl [[(V.sl (List.map cB ((rst t (((nth (f.kids) (k))))))))]])) rfl rfl (by omega) (by omega) (R_mv rfl (R_e (n4 _ _ ?_)))))))
  refine .done (W_t (R_mv t8 (R_addN rfl (@rfl V (iV ((1:Nat):Int))) (by omega) (R_mv rfl (R_e ?_)))))
  refine p12 _ _ _ ?_ ⟨(k+1),(v+1),rfl,t2,t3,t5,t6,(Eq.trans (@rfl V (V.ms 7 (v+1) 0 (k+1))) (by rfl)),(Eq.trans (@rfl V (iV ((k+1:Nat):Int))) (by rfl)),h2,h3,(Eq.trans (@rfl Blk (bz (v+1) 41 1 (List.map cBL ((f.kids.take k).map (rst t)++[(rst t (((nth (f.kids) (k)))))])))) (by (rw [mapTake (by omega)]; done))),h21,?_⟩
  · omega
  · omega
 refine W_seq_exit (p32 _ _ _ (x1 _ _ (.done (W_seq_seq (W_r (R_mv t5 (R_mv rfl ?_)))))))
 refine R_e (W_seq_blockg fun Q5 n5 x5 y5 z5=>?_)
 refine W_loop (fun mm T H=> ∃ (i:Int) (v:Nat),mm=(i+1).toNat∧T 2=(V.mp 2 1 0 0)∧T 3=(V.mp 3 1 0 0)∧T 5=(iV ((t.ni.length:Nat):Int))∧T 6=(V.ms 21 1 0 (t.ni.length+1))∧T 7=(V.ms 7 v 0 (f.kids.length))∧T 9=(iV (i))∧H 2=(bk 1 24 3 [[(iV (f.op)),(iV (f.arg)),(V.sl (List.map cF (f.kids)))]])∧H 3=(bk 1 54 2 [[(ints t.ni),(ints t.no)]])∧H 7=(bz v 41 1 (List.map cBL (f.kids.map (rst t))))∧H 21=(bk 1 4 1 (List.map cB (outL t f i)))∧(-1≤i∧i≤t.ni.length)) ?_ ?_
 ·
  refine ⟨_,((t.ni.length:Nat):Int),v,rfl,t2,t3,t5,t6,(Eq.trans t7 (by (rw [show k=f.kids.length by omega]; done))),(Eq.trans (@rfl V (iV ((t.ni.length:Nat):Int))) (by rfl)),h2,h3,(Eq.trans h7 (by (rw [show k=f.kids.length by omega,List.take_length]; done))),(Eq.trans h21 (by (rw [outL_start]; done))),?_⟩
  · omega
 intro mm T H ⟨i,v,hmm,t2,t3,t5,t6,t7,t9,h2,h3,h7,h21,hi⟩ Q6 p16 p26 p36
 unfold b70_1
 have hol:=outL_len t f i
 refine W_seq_seq (W_r (R_mv t9 (R_geq rfl rfl (R_e ?_))))
 refine W_seq_if rfl (fun c7=>?_) fun c7=>?_
 ·
  refine W_seq_skip (W_seq_blockg fun Q8 n8 x8 y8 z8=>(W_r (R_mv t9 (R_mv t5 (R_lss rfl rfl (R_mv rfl (R_e ?_)))))))
  refine W_r (R_fk t2 h2 (R_lk rfl h2 rfl rfl (R_e (W_block fun Q9 n9 x9 y9 z9=>(W_r (R_eql rfl rfl (R_mv rfl ?_)))))))
  refine R_e ?_
  refine W_if rfl (fun c10=>?_) fun c10=>?_
  ·
   refine W_t (R_mv t6 (R_mv t9 (R_idxI_ms0 (i:=(i)) (@rfl V (V.ms 21 1 0 (t.ni.length+1))) (@rfl V (iV (i))) h21 oB rfl (by omega) (by omega) (R_store (vs:=[(V.bool true)]) (B':=(bk 1 4 1 (List.map cB ((outL t f i).set (((i)).toNat) true)))) rfl rfl rfl h21 (stB_map (x:=true) (i:=(((i)).toNat)) (by omega) rfl rfl rfl rfl) (R_e (n9 _ _ (n8 _ _ ?_)))))))
   refine .done (W_t (R_mv t9 (R_sub rfl rfl (by omega) (by omega) (R_mv rfl (R_e ?_)))))
   refine p16 _ _ _ ?_ ⟨(i - 1),v,rfl,t2,t3,t5,t6,t7,(Eq.trans (@rfl V (iV ((i) - (1:Int)))) (by rfl)),h2,h3,h7,(Eq.trans (@rfl Blk (bk 1 4 1 (List.map cB ((outL t f i).set (((i)).toNat) true)))) (by (rw [outL_set2 (by omega) (by omega) (by rw [sv1 (by omega)])]; done))),?_⟩
   · omega
   · omega
  refine W_r (R_eql rfl rfl (R_mv rfl (R_e ?_)))
  refine W_if rfl (fun c11=>?_) fun c11=>?_
  ·
   refine W_t (R_mv t6 (R_mv t9 (R_mv rfl (R_mv rfl ?_))))
   refine Ops_seg 9 (fun T H=>T 2=(V.mp 2 1 0 0)∧T 3=(V.mp 3 1 0 0)∧T 5=(iV ((t.ni.length:Nat):Int))∧T 6=(V.ms 21 1 0 (t.ni.length+1))∧T 7=(V.ms 7 v 0 (f.kids.length))∧T 9=(iV (i))∧T 103=(V.ms 21 1 0 (t.ni.length+1))∧T 104=(iV (i))∧T 115=(V.bool (decide (((i) < ((t.ni.length:Nat):Int))∧(((nth (t.ni) (i).toNat))=(f.arg)))))∧H 2=(bk 1 24 3 [[(iV (f.op)),(iV (f.arg)),(V.sl (List.map cF (f.kids)))]])∧H 3=(bk 1 54 2 [[(ints t.ni),(ints t.no)]])∧H 7=(bz v 41 1 (List.map cBL (f.kids.map (rst t))))∧H 21=(bk 1 4 1 (List.map cB (outL t f i)))∧True) ?_ ?_
   ·
    by_cases g12:(i) < ((t.ni.length:Nat):Int)
    ·
     refine G_yes (edT g12 rfl) (R_fk t3 h3 (G_yes (edT g12 rfl) (R_lk rfl h3 rfl rfl (G_yes (edT g12 rfl) (R_mv t9 (G_yes (edT g12 rfl) (R_idxI (i:=(i)) (@rfl V (ints t.ni)) (@rfl V (iV (i))) (by omega) (by omega) rfl ?_)))))))
     refine G_yes (edT g12 rfl) (R_load_pp rfl rfl (G_yes (edT g12 rfl) (R_fk t2 h2 (G_yes (edT g12 rfl) (R_lk rfl h2 rfl rfl (G_yes (edT g12 rfl) (R_eql rfl rfl ?_)))))))
     refine R_pickT (edT g12 rfl) rfl ?_
     exact ⟨t2,t3,t5,t6,t7,t9,rfl,rfl,(dec_andT g12),h2,h3,h7,h21,trivial⟩
    ·
     refine G_n (edF g12 rfl) (G_n (edF g12 rfl) (G_n (edF g12 rfl) (G_n (edF g12 rfl) (G_n (edF g12 rfl) (G_n (edF g12 rfl) (G_n (edF g12 rfl) (G_n (edF g12 rfl) ?_)))))))
     refine R_pickF (edF g12 rfl) rfl ?_
     exact ⟨t2,t3,t5,t6,t7,t9,rfl,rfl,(dec_andF g12),h2,h3,h7,h21,trivial⟩
   intro T H ⟨t2,t3,t5,t6,t7,t9,t103,t104,t115,h2,h3,h7,h21,_⟩
   refine R_idxI_ms0 (i:=(i)) t103 t104 h21 oB rfl (by omega) (by omega) (R_store (vs:=[(V.bool (decide (((i) < ((t.ni.length:Nat):Int))∧(((nth (t.ni) (i).toNat))=(f.arg)))))]) (B':=(bk 1 4 1 (List.map cB ((outL t f i).set (((i)).toNat) (decide (((i) < ((t.ni.length:Nat):Int))∧(((nth (t.ni) (i).toNat))=(f.arg)))))))) rfl t115 rfl h21 (stB_map (x:=(decide (((i) < ((t.ni.length:Nat):Int))∧(((nth (t.ni) (i).toNat))=(f.arg))))) (i:=(((i)).toNat)) (by omega) rfl rfl rfl rfl) (R_e (n9 _ _ (n8 _ _ (.done (W_t (R_mv t9 ?_)))))))
   refine R_sub rfl rfl (by omega) (by omega) (R_mv rfl (R_e ?_))
   refine p16 _ _ _ ?_ ⟨(i - 1),v,rfl,t2,t3,t5,t6,t7,(Eq.trans (@rfl V (iV ((i) - (1:Int)))) (by rfl)),h2,h3,h7,(Eq.trans (@rfl Blk (bk 1 4 1 (List.map cB ((outL t f i).set (((i)).toNat) (decide (((i) < ((t.ni.length:Nat):Int))∧(((nth (t.ni) (i).toNat))=(f.arg)))))))) (by (rw [outL_set2 (by omega) (by omega) (by rw [sv2 (by omega),← Bool.decide_and]; exact decide_eq_decide.2 (by omega))]; done))),?_⟩
   · omega
   · omega
  refine W_r (R_eql rfl rfl (R_mv rfl (R_e ?_)))
  refine W_if rfl (fun c13=>?_) fun c13=>?_
  ·
   refine W_t (R_mv t6 (R_mv t9 (R_mv rfl (R_mv rfl ?_))))
   refine Ops_seg 9 (fun T H=>T 2=(V.mp 2 1 0 0)∧T 3=(V.mp 3 1 0 0)∧T 5=(iV ((t.ni.length:Nat):Int))∧T 6=(V.ms 21 1 0 (t.ni.length+1))∧T 7=(V.ms 7 v 0 (f.kids.length))∧T 9=(iV (i))∧T 119=(V.ms 21 1 0 (t.ni.length+1))∧T 120=(iV (i))∧T 131=(V.bool (decide (((i) < ((t.ni.length:Nat):Int))∧(((nth (t.no) (i).toNat))=(f.arg)))))∧H 2=(bk 1 24 3 [[(iV (f.op)),(iV (f.arg)),(V.sl (List.map cF (f.kids)))]])∧H 3=(bk 1 54 2 [[(ints t.ni),(ints t.no)]])∧H 7=(bz v 41 1 (List.map cBL (f.kids.map (rst t))))∧H 21=(bk 1 4 1 (List.map cB (outL t f i)))∧True) ?_ ?_
   ·
    by_cases g14:(i) < ((t.ni.length:Nat):Int)
    ·
     refine G_yes (edT g14 rfl) (R_fk t3 h3 (G_yes (edT g14 rfl) (R_lk rfl h3 rfl rfl (G_yes (edT g14 rfl) (R_mv t9 (G_yes (edT g14 rfl) (R_idxI (i:=(i)) (@rfl V (ints t.no)) (@rfl V (iV (i))) (by omega) (by omega) rfl ?_)))))))
     refine G_yes (edT g14 rfl) (R_load_pp rfl rfl (G_yes (edT g14 rfl) (R_fk t2 h2 (G_yes (edT g14 rfl) (R_lk rfl h2 rfl rfl (G_yes (edT g14 rfl) (R_eql rfl rfl ?_)))))))
     refine R_pickT (edT g14 rfl) rfl ?_
     exact ⟨t2,t3,t5,t6,t7,t9,rfl,rfl,(dec_andT g14),h2,h3,h7,h21,trivial⟩
    ·
     refine G_n (edF g14 rfl) (G_n (edF g14 rfl) (G_n (edF g14 rfl) (G_n (edF g14 rfl) (G_n (edF g14 rfl) (G_n (edF g14 rfl) (G_n (edF g14 rfl) (G_n (edF g14 rfl) ?_)))))))
     refine R_pickF (edF g14 rfl) rfl ?_
     exact ⟨t2,t3,t5,t6,t7,t9,rfl,rfl,(dec_andF g14),h2,h3,h7,h21,trivial⟩
   intro T H ⟨t2,t3,t5,t6,t7,t9,t119,t120,t131,h2,h3,h7,h21,_⟩
   refine R_idxI_ms0 (i:=(i)) t119 t120 h21 oB rfl (by omega) (by omega) (R_store (vs:=[(V.bool (decide (((i) < ((t.ni.length:Nat):Int))∧(((nth (t.no) (i).toNat))=(f.arg)))))]) (B':=(bk 1 4 1 (List.map cB ((outL t f i).set (((i)).toNat) (decide (((i) < ((t.ni.length:Nat):Int))∧(((nth (t.no) (i).toNat))=(f.arg)))))))) rfl t131 rfl h21 (stB_map (x:=(decide (((i) < ((t.ni.length:Nat):Int))∧(((nth (t.no) (i).toNat))=(f.arg))))) (i:=(((i)).toNat)) (by omega) rfl rfl rfl rfl) (R_e (n9 _ _ (n8 _ _ (.done (W_t (R_mv t9 ?_)))))))
   refine R_sub rfl rfl (by omega) (by omega) (R_mv rfl (R_e ?_))
   refine p16 _ _ _ ?_ ⟨(i - 1),v,rfl,t2,t3,t5,t6,t7,(Eq.trans (@rfl V (iV ((i) - (1:Int)))) (by rfl)),h2,h3,h7,(Eq.trans (@rfl Blk (bk 1 4 1 (List.map cB ((outL t f i).set (((i)).toNat) (decide (((i) < ((t.ni.length:Nat):Int))∧(((nth (t.no) (i).toNat))=(f.arg)))))))) (by (rw [outL_set2 (by omega) (by omega) (by rw [sv3 (by omega),← Bool.decide_and]; exact decide_eq_decide.2 (by omega))]; done))),?_⟩
   · omega
   · omega
  refine W_r (R_eql rfl rfl (R_mv rfl (R_e ?_)))
  refine W_if rfl (fun c15=>?_) fun c15=>?_
  ·
   refine W_t (R_mv t6 (R_mv t9 (R_mv t7 (R_idx_ms0 (i:=0) (@rfl V (V.ms 7 v 0 (f.kids.length))) (@rfl V (iV ((0:Nat):Int))) h7 (okB_map (by (simp only [List.length_map,List.length_set,outL_len]; omega))) rfl (by omega) (R_load_mp (v:=(V.sl (List.map cB ((nth (f.kids.map (rst t)) (0)))))) rfl h7 (ldB_map (by (simp only [List.length_map,List.length_set,outL_len]; omega)) (by rfl)) (R_mv t9 (R_idxI (i:=(i)) (@rfl V (V.sl (List.map cB ((nth (f.kids.map (rst t)) (0)))))) (@rfl V (iV (i))) (by omega) (by omega) rfl ?_)))))))
   refine R_load_pp rfl rfl (R_notb rfl (R_idxI_ms0 (i:=(i)) (@rfl V (V.ms 21 1 0 (t.ni.length+1))) (@rfl V (iV (i))) h21 oB rfl (by omega) (by omega) (R_store (vs:=[(V.bool ((!(nth ((nth (f.kids.map (rst t)) (0))) (i).toNat))))]) (B':=(bk 1 4 1 (List.map cB ((outL t f i).set (((i)).toNat) ((!(nth ((nth (f.kids.map (rst t)) (0))) (i).toNat))))))) rfl rfl rfl h21 (stB_map (x:=((!(nth ((nth (f.kids.map (rst t)) (0))) (i).toNat)))) (i:=(((i)).toNat)) (by omega) rfl rfl rfl rfl) (R_e (n9 _ _ (n8 _ _ (.done ?_)))))))
   refine W_t (R_mv t9 (R_sub rfl rfl (by omega) (by omega) (R_mv rfl (R_e ?_))))
   refine p16 _ _ _ ?_ ⟨(i - 1),v,rfl,t2,t3,t5,t6,t7,(Eq.trans (@rfl V (iV ((i) - (1:Int)))) (by rfl)),h2,h3,h7,(Eq.trans (@rfl Blk (bk 1 4 1 (List.map cB ((outL t f i).set (((i)).toNat) ((!(nth ((nth (f.kids.map (rst t)) (0))) (i).toNat))))))) (by (rw [outL_set2 (by omega) (by omega) (by rw [sv4 (by omega) (by omega) (by omega)]; rfl)]; done))),?_⟩
   · omega
   · omega
  refine W_r (R_eql rfl rfl (R_mv rfl (R_e ?_)))
  refine W_if rfl (fun c16=>?_) fun c16=>?_
  ·
   refine W_t (R_mv t6 (R_mv t9 (R_mv rfl (R_mv rfl ?_))))
   refine Ops_seg 8 (fun T H=>T 2=(V.mp 2 1 0 0)∧T 3=(V.mp 3 1 0 0)∧T 5=(iV ((t.ni.length:Nat):Int))∧T 6=(V.ms 21 1 0 (t.ni.length+1))∧T 7=(V.ms 7 v 0 (f.kids.length))∧T 9=(iV (i))∧T 147=(V.ms 21 1 0 (t.ni.length+1))∧T 148=(iV (i))∧T 158=(V.bool ((decide ((i) < ((t.ni.length:Nat):Int))&&((nth ((nth (f.kids.map (rst t)) (0))) ((i)+(1:Int)).toNat)))))∧H 2=(bk 1 24 3 [[(iV (f.op)),(iV (f.arg)),(V.sl (List.map cF (f.kids)))]])∧H 3=(bk 1 54 2 [[(ints t.ni),(ints t.no)]])∧H 7=(bz v 41 1 (List.map cBL (f.kids.map (rst t))))∧H 21=(bk 1 4 1 (List.map cB (outL t f i)))∧True) ?_ ?_
   ·
    by_cases g17:(i) < ((t.ni.length:Nat):Int)
    ·
     refine G_yes (edT g17 rfl) (R_mv t7 (G_yes (edT g17 rfl) (R_idx_ms0 (i:=0) (@rfl V (V.ms 7 v 0 (f.kids.length))) (@rfl V (iV ((0:Nat):Int))) h7 (okB_map (by (simp only [List.length_map,List.length_set,outL_len]; omega))) rfl (by omega) (G_yes (edT g17 rfl) (R_load_mp (v:=(V.sl (List.map cB ((nth (f.kids.map (rst t)) (0)))))) rfl h7 (ldB_map (by (simp only [List.length_map,List.length_set,outL_len]; omega)) (by rfl)) (G_yes (edT g17 rfl) (R_mv t9 ?_)))))))
     refine G_yes (edT g17 rfl) (R_add rfl rfl (by omega) (by omega) (G_yes (edT g17 rfl) (R_idxI (i:=((i)+(1:Int))) (@rfl V (V.sl (List.map cB ((nth (f.kids.map (rst t)) (0)))))) (@rfl V (iV ((i)+(1:Int)))) (by omega) (by omega) rfl (G_yes (edT g17 rfl) (R_load_pp rfl rfl (R_pickT (edT g17 rfl) rfl ?_))))))
     exact ⟨t2,t3,t5,t6,t7,t9,rfl,rfl,(dbandT g17),h2,h3,h7,h21,trivial⟩
    ·
     refine G_n (edF g17 rfl) (G_n (edF g17 rfl) (G_n (edF g17 rfl) (G_n (edF g17 rfl) (G_n (edF g17 rfl) (G_n (edF g17 rfl) (G_n (edF g17 rfl) (R_pickF (edF g17 rfl) rfl ?_)))))))
     exact ⟨t2,t3,t5,t6,t7,t9,rfl,rfl,(dbandF g17),h2,h3,h7,h21,trivial⟩
   intro T H ⟨t2,t3,t5,t6,t7,t9,t147,t148,t158,h2,h3,h7,h21,_⟩
   refine R_idxI_ms0 (i:=(i)) t147 t148 h21 oB rfl (by omega) (by omega) (R_store (vs:=[(V.bool ((decide ((i) < ((t.ni.length:Nat):Int))&&((nth ((nth (f.kids.map (rst t)) (0))) ((i)+(1:Int)).toNat)))))]) (B':=(bk 1 4 1 (List.map cB ((outL t f i).set (((i)).toNat) ((decide ((i) < ((t.ni.length:Nat):Int))&&((nth ((nth (f.kids.map (rst t)) (0))) ((i)+(1:Int)).toNat)))))))) rfl t158 rfl h21 (stB_map (x:=((decide ((i) < ((t.ni.length:Nat):Int))&&((nth ((nth (f.kids.map (rst t)) (0))) ((i)+(1:Int)).toNat))))) (i:=(((i)).toNat)) (by omega) rfl rfl rfl rfl) (R_e (n9 _ _ (n8 _ _ (.done (W_t (R_mv t9 ?_)))))))
   refine R_sub rfl rfl (by omega) (by omega) (R_mv rfl (R_e ?_))
   refine p16 _ _ _ ?_ ⟨(i - 1),v,rfl,t2,t3,t5,t6,t7,(Eq.trans (@rfl V (iV ((i) - (1:Int)))) (by rfl)),h2,h3,h7,(Eq.trans (@rfl Blk (bk 1 4 1 (List.map cB ((outL t f i).set (((i)).toNat) ((decide ((i) < ((t.ni.length:Nat):Int))&&((nth ((nth (f.kids.map (rst t)) (0))) ((i)+(1:Int)).toNat)))))))) (by (rw [outL_set2 (by omega) (by omega) (by rw [sv7 (by omega) (by omega),show (i+1).toNat=i.toNat+1 by omega]; congr 1; exact decide_eq_decide.2 (by omega))]; done))),?_⟩
   · omega
   · omega
  refine W_r (R_eql rfl rfl (R_mv rfl (R_e ?_)))
  refine W_if rfl (fun c18=>?_) fun c18=>?_
  ·
   refine W_t (R_mv t6 (R_mv t9 (R_mv rfl (R_not rfl (R_mv rfl ?_)))))
   refine Ops_seg 8 (fun T H=>T 2=(V.mp 2 1 0 0)∧T 3=(V.mp 3 1 0 0)∧T 5=(iV ((t.ni.length:Nat):Int))∧T 6=(V.ms 21 1 0 (t.ni.length+1))∧T 7=(V.ms 7 v 0 (f.kids.length))∧T 9=(iV (i))∧T 162=(V.ms 21 1 0 (t.ni.length+1))∧T 163=(iV (i))∧T 174=(V.bool ((decide (¬((i) < ((t.ni.length:Nat):Int)))||((nth ((nth (f.kids.map (rst t)) (0))) ((i)+(1:Int)).toNat)))))∧H 2=(bk 1 24 3 [[(iV (f.op)),(iV (f.arg)),(V.sl (List.map cF (f.kids)))]])∧H 3=(bk 1 54 2 [[(ints t.ni),(ints t.no)]])∧H 7=(bz v 41 1 (List.map cBL (f.kids.map (rst t))))∧H 21=(bk 1 4 1 (List.map cB (outL t f i)))∧True) ?_ ?_
   ·
    by_cases g19: ¬((i) < ((t.ni.length:Nat):Int))
    ·
     refine G_n (edT g19 rfl) (G_n (edT g19 rfl) (G_n (edT g19 rfl) (G_n (edT g19 rfl) (G_n (edT g19 rfl) (G_n (edT g19 rfl) (G_n (edT g19 rfl) (R_pickT (edT g19 rfl) rfl ?_)))))))
     exact ⟨t2,t3,t5,t6,t7,t9,rfl,rfl,(dborT g19),h2,h3,h7,h21,trivial⟩
    ·
     refine G_yes (edF g19 rfl) (R_mv t7 (G_yes (edF g19 rfl) (R_idx_ms0 (i:=0) (@rfl V (V.ms 7 v 0 (f.kids.length))) (@rfl V (iV ((0:Nat):Int))) h7 (okB_map (by (simp only [List.length_map,List.length_set,outL_len]; omega))) rfl (by omega) (G_yes (edF g19 rfl) (R_load_mp (v:=(V.sl (List.map cB ((nth (f.kids.map (rst t)) (0)))))) rfl h7 (ldB_map (by (simp only [List.length_map,List.length_set,outL_len]; omega)) (by rfl)) (G_yes (edF g19 rfl) (R_mv t9 ?_)))))))
     refine G_yes (edF g19 rfl) (R_add rfl rfl (by omega) (by omega) (G_yes (edF g19 rfl) (R_idxI (i:=((i)+(1:Int))) (@rfl V (V.sl (List.map cB ((nth (f.kids.map (rst t)) (0)))))) (@rfl V (iV ((i)+(1:Int)))) (by omega) (by omega) rfl (G_yes (edF g19 rfl) (R_load_pp rfl rfl (R_pickF (edF g19 rfl) rfl ?_))))))
     exact ⟨t2,t3,t5,t6,t7,t9,rfl,rfl,(dborF g19),h2,h3,h7,h21,trivial⟩
   intro T H ⟨t2,t3,t5,t6,t7,t9,t162,t163,t174,h2,h3,h7,h21,_⟩
   refine R_idxI_ms0 (i:=(i)) t162 t163 h21 oB rfl (by omega) (by omega) (R_store (vs:=[(V.bool ((decide (¬((i) < ((t.ni.length:Nat):Int)))||((nth ((nth (f.kids.map (rst t)) (0))) ((i)+(1:Int)).toNat)))))]) (B':=(bk 1 4 1 (List.map cB ((outL t f i).set (((i)).toNat) ((decide (¬((i) < ((t.ni.length:Nat):Int)))||((nth ((nth (f.kids.map (rst t)) (0))) ((i)+(1:Int)).toNat)))))))) rfl t174 rfl h21 (stB_map (x:=((decide (¬((i) < ((t.ni.length:Nat):Int)))||((nth ((nth (f.kids.map (rst t)) (0))) ((i)+(1:Int)).toNat))))) (i:=(((i)).toNat)) (by omega) rfl rfl rfl rfl) (R_e (n9 _ _ (n8 _ _ (.done (W_t (R_mv t9 ?_)))))))
   refine R_sub rfl rfl (by omega) (by omega) (R_mv rfl (R_e ?_))
   refine p16 _ _ _ ?_ ⟨(i - 1),v,rfl,t2,t3,t5,t6,t7,(Eq.trans (@rfl V (iV ((i) - (1:Int)))) (by rfl)),h2,h3,h7,(Eq.trans (@rfl Blk (bk 1 4 1 (List.map cB ((outL t f i).set (((i)).toNat) ((decide (¬((i) < ((t.ni.length:Nat):Int)))||((nth ((nth (f.kids.map (rst t)) (0))) ((i)+(1:Int)).toNat)))))))) (by (rw [outL_set2 (by omega) (by omega) (by rw [sv9 (by omega) (by omega),show (i+1).toNat=i.toNat+1 by omega]; congr 1; exact decide_eq_decide.2 (by omega))]; done))),?_⟩
   · omega
   · omega
  refine W_r (R_eql rfl rfl (R_mv rfl (R_e ?_)))
  refine W_if rfl (fun c20=>?_) fun c20=>?_
  ·
   refine W_r (R_mv t9 (R_mv rfl (R_mv rfl (R_e (W_block fun Q21 n21 x21 y21 z21=>?_)))))
   refine W_loop (fun mm T H=> ∃ (k:Int) (al:Bool) (x:Bool),mm=t.ni.length+1 - k.toNat∧T 2=(V.mp 2 1 0 0)∧T 3=(V.mp 3 1 0 0)∧T 5=(iV ((t.ni.length:Nat):Int))∧T 6=(V.ms 21 1 0 (t.ni.length+1))∧T 7=(V.ms 7 v 0 (f.kids.length))∧T 9=(iV (i))∧T 11=(iV (k))∧T 12=(V.bool al)∧H 2=(bk 1 24 3 [[(iV (f.op)),(iV (f.arg)),(V.sl (List.map cF (f.kids)))]])∧H 3=(bk 1 54 2 [[(ints t.ni),(ints t.no)]])∧H 7=(bz v 41 1 (List.map cBL (f.kids.map (rst t))))∧H 21=(bk 1 4 1 (List.map cB ((outL t f i).set i.toNat x)))∧(i≤k∧k≤t.ni.length+1)∧(unI t f i k al x)) ?_ ?_
   ·
    refine ⟨_,i,true,false,rfl,t2,t3,t5,t6,t7,t9,rfl,rfl,h2,h3,h7,(Eq.trans h21 (by (rw [outL_z (by omega) (by omega)]; done))),?_,?_⟩
    · omega
    · exact unI_start (by omega) (by omega) (by omega) (by omega)
   intro mm T H ⟨k,al,x,hmm,t2,t3,t5,t6,t7,t9,t11,t12,h2,h3,h7,h21,hk,hu⟩ Q22 p122 p222 p322
   unfold b70_2
   refine W_seq_seq (W_r (R_mv t11 (R_mv t5 (R_leq rfl rfl (R_mv rfl ?_)))))
   refine Ops_seg 2 (fun T H=>T 2=(V.mp 2 1 0 0)∧T 3=(V.mp 3 1 0 0)∧T 5=(iV ((t.ni.length:Nat):Int))∧T 6=(V.ms 21 1 0 (t.ni.length+1))∧T 7=(V.ms 7 v 0 (f.kids.length))∧T 9=(iV (i))∧T 11=(iV (k))∧T 184=(V.bool ((decide ((k)≤((t.ni.length:Nat):Int))&&al)))∧H 2=(bk 1 24 3 [[(iV (f.op)),(iV (f.arg)),(V.sl (List.map cF (f.kids)))]])∧H 3=(bk 1 54 2 [[(ints t.ni),(ints t.no)]])∧H 7=(bz v 41 1 (List.map cBL (f.kids.map (rst t))))∧H 21=(bk 1 4 1 (List.map cB ((outL t f i).set i.toNat x)))∧True) ?_ ?_
   ·
    by_cases g23:(k)≤((t.ni.length:Nat):Int)
    ·
     refine G_yes (edT g23 rfl) (R_mv t12 (R_pickT (edT g23 rfl) rfl ?_))
     exact ⟨t2,t3,t5,t6,t7,t9,t11,(dbandT g23),h2,h3,h7,h21,trivial⟩
    ·
     refine G_n (edF g23 rfl) (R_pickF (edF g23 rfl) rfl ?_)
     exact ⟨t2,t3,t5,t6,t7,t9,t11,(dbandF g23),h2,h3,h7,h21,trivial⟩
   intro T H ⟨t2,t3,t5,t6,t7,t9,t11,t184,h2,h3,h7,h21,_⟩
   refine R_e ?_
   refine W_seq_ifb t184 (fun c24=>?_) (fun c24=>?_)
   ·
    have q0:=c24
    rw [Bool.and_eq_true,decide_eq_true_eq] at q0
    obtain ⟨hk1,hal⟩:=q0
    refine W_seq_skip (W_seq_blockg fun Q25 n25 x25 y25 z25=>(W_r (R_mv t6 (R_mv t9 (R_mv t6 (R_mv t9 (R_idxI_ms0 (i:=(i)) (@rfl V (V.ms 21 1 0 (t.ni.length+1))) (@rfl V (iV (i))) h21 oB rfl (by omega) (by omega) ?_)))))))
    refine R_load_mp (v:=(V.bool ((nth ((outL t f i).set i.toNat x) (((i)).toNat))))) rfl h21 (ldB_map (by (simp only [List.length_map,List.length_set,outL_len]; omega)) (by rfl)) (R_mv rfl ?_)
    refine Ops_seg 7 (fun T H=>T 2=(V.mp 2 1 0 0)∧T 3=(V.mp 3 1 0 0)∧T 5=(iV ((t.ni.length:Nat):Int))∧T 6=(V.ms 21 1 0 (t.ni.length+1))∧T 7=(V.ms 7 v 0 (f.kids.length))∧T 9=(iV (i))∧T 11=(iV (k))∧T 187=(V.ms 21 1 0 (t.ni.length+1))∧T 188=(iV (i))∧T 200=(V.bool ((((nth ((outL t f i).set i.toNat x) (((i)).toNat)))||((nth ((nth (f.kids.map (rst t)) (1))) (k).toNat)))))∧H 2=(bk 1 24 3 [[(iV (f.op)),(iV (f.arg)),(V.sl (List.map cF (f.kids)))]])∧H 3=(bk 1 54 2 [[(ints t.ni),(ints t.no)]])∧H 7=(bz v 41 1 (List.map cBL (f.kids.map (rst t))))∧H 21=(bk 1 4 1 (List.map cB ((outL t f i).set i.toNat x)))∧True) ?_ ?_
    ·
     by_cases g26:((nth ((outL t f i).set i.toNat x) (((i)).toNat)))=true
     ·
      refine G_n (ebT g26 rfl) (G_n (ebT g26 rfl) (G_n (ebT g26 rfl) (G_n (ebT g26 rfl) (G_n (ebT g26 rfl) (G_n (ebT g26 rfl) (R_pickT (ebT g26 rfl) rfl ?_))))))
      exact ⟨t2,t3,t5,t6,t7,t9,t11,rfl,rfl,(borT g26),h2,h3,h7,h21,trivial⟩
     ·
      refine G_yes (ebF g26 rfl) (R_mv t7 (G_yes (ebF g26 rfl) (R_idx_ms0 (i:=1) (@rfl V (V.ms 7 v 0 (f.kids.length))) (@rfl V (iV ((1:Nat):Int))) h7 (okB_map (by (simp only [List.length_map,List.length_set,outL_len]; omega))) rfl (by omega) (G_yes (ebF g26 rfl) (R_load_mp (v:=(V.sl (List.map cB ((nth (f.kids.map (rst t)) (1)))))) rfl h7 (ldB_map (by (simp only [List.length_map,List.length_set,outL_len]; omega)) (by rfl)) (G_yes (ebF g26 rfl) (R_mv t11 ?_)))))))
      refine G_yes (ebF g26 rfl) (R_idxI (i:=(k)) (@rfl V (V.sl (List.map cB ((nth (f.kids.map (rst t)) (1)))))) (@rfl V (iV (k))) (by omega) (by omega) rfl (G_yes (ebF g26 rfl) (R_load_pp rfl rfl (R_pickF (ebF g26 rfl) rfl ?_))))
      exact ⟨t2,t3,t5,t6,t7,t9,t11,rfl,rfl,(borF g26),h2,h3,h7,h21,trivial⟩
    intro T H ⟨t2,t3,t5,t6,t7,t9,t11,t187,t188,t200,h2,h3,h7,h21,_⟩
    refine R_idxI_ms0 (i:=(i)) t187 t188 h21 oB rfl (by omega) (by omega) (R_store (vs:=[(V.bool ((((nth ((outL t f i).set i.toNat x) (((i)).toNat)))||((nth ((nth (f.kids.map (rst t)) (1))) (k).toNat)))))]) (B':=(bk 1 4 1 (List.map cB (((outL t f i).set i.toNat x).set (((i)).toNat) ((((nth ((outL t f i).set i.toNat x) (((i)).toNat)))||((nth ((nth (f.kids.map (rst t)) (1))) (k).toNat)))))))) rfl t200 rfl h21 (stB_map (x:=((((nth ((outL t f i).set i.toNat x) (((i)).toNat)))||((nth ((nth (f.kids.map (rst t)) (1))) (k).toNat))))) (i:=(((i)).toNat)) (by (simp only [List.length_map,List.length_set,outL_len]; omega)) rfl rfl rfl rfl) (R_e (W_t (R_mv t7 (R_idx_ms0 (i:=0) (@rfl V (V.ms 7 v 0 (f.kids.length))) (@rfl V (iV ((0:Nat):Int))) h7 (okB_map (by (simp only [List.length_map,List.length_set,outL_len]; omega))) rfl (by omega) (R_load_mp (v:=(V.sl (List.map cB ((nth (f.kids.map (rst t)) (0)))))) rfl h7 (ldB_map (by (simp only [List.length_map,List.length_set,outL_len]; omega)) (by rfl)) (R_mv t11 ?_)))))))
    refine R_idxI (i:=(k)) (@rfl V (V.sl (List.map cB ((nth (f.kids.map (rst t)) (0)))))) (@rfl V (iV (k))) (by omega) (by omega) rfl (R_load_pp rfl rfl (R_mv rfl (R_e (n25 _ _ (.done (W_t (R_mv t11 ?_)))))))
    refine R_add rfl rfl (by omega) (by omega) (R_mv rfl (R_e ?_))
    refine p122 _ _ _ ?_ ⟨(k+1),(kR t f 0 k.toNat),(x||kR t f 1 k.toNat),rfl,t2,t3,t5,t6,t7,t9,(Eq.trans (@rfl V (iV ((k)+(1:Int)))) (by rfl)),(Eq.trans (@rfl V (V.bool ((nth ((nth (f.kids.map (rst t)) (0))) (k).toNat)))) (by rfl)),h2,h3,h7,(Eq.trans (@rfl Blk (bk 1 4 1 (List.map cB (((outL t f i).set i.toNat x).set (((i)).toNat) ((((nth ((outL t f i).set i.toNat x) (((i)).toNat)))||((nth ((nth (f.kids.map (rst t)) (1))) (k).toNat)))))))) (by (rw [List.set_set,nth_set_at (by rw [outL_len]; omega)]; rfl))),?_,?_⟩
    · omega
    · omega
    · exact unI_next hu (by omega) (by omega) hal
   have hx:=unI_end hu c24
   refine W_seq_exit (p322 _ _ _ (x21 _ _ (n9 _ _ (n8 _ _ (.done (W_t (R_mv t9 ?_)))))))
   refine R_sub rfl rfl (by omega) (by omega) (R_mv rfl (R_e ?_))
   refine p16 _ _ _ ?_ ⟨(i - 1),v,rfl,t2,t3,t5,t6,t7,(Eq.trans (@rfl V (iV ((i) - (1:Int)))) (by rfl)),h2,h3,h7,(Eq.trans h21 (by (rw [outL_set2 (by omega) (by omega) hx]; done))),?_⟩
   · omega
   · omega
  refine W_r (R_eql rfl rfl (R_mv rfl (R_e ?_)))
  refine W_if rfl (fun c27=>?_) fun c27=>?_
  ·
   refine W_r (R_mv t6 (R_mv t9 (R_idxI_ms0 (i:=(i)) (@rfl V (V.ms 21 1 0 (t.ni.length+1))) (@rfl V (iV (i))) h21 oB rfl (by omega) (by omega) (R_store (vs:=[(V.bool true)]) (B':=(bk 1 4 1 (List.map cB ((outL t f i).set (((i)).toNat) true)))) rfl rfl rfl h21 (stB_map (x:=true) (i:=(((i)).toNat)) (by omega) rfl rfl rfl rfl) (R_e (W_r (R_mv t9 ?_)))))))
   refine R_mv rfl (R_mv rfl (R_e (W_block fun Q28 n28 x28 y28 z28=>?_)))
   refine W_loop (fun mm T H=> ∃ (k:Int) (al:Bool) (x:Bool),mm=t.ni.length+1 - k.toNat∧T 2=(V.mp 2 1 0 0)∧T 3=(V.mp 3 1 0 0)∧T 5=(iV ((t.ni.length:Nat):Int))∧T 6=(V.ms 21 1 0 (t.ni.length+1))∧T 7=(V.ms 7 v 0 (f.kids.length))∧T 9=(iV (i))∧T 13=(iV (k))∧T 14=(V.bool al)∧H 2=(bk 1 24 3 [[(iV (f.op)),(iV (f.arg)),(V.sl (List.map cF (f.kids)))]])∧H 3=(bk 1 54 2 [[(ints t.ni),(ints t.no)]])∧H 7=(bz v 41 1 (List.map cBL (f.kids.map (rst t))))∧H 21=(bk 1 4 1 (List.map cB ((outL t f i).set i.toNat x)))∧(i≤k∧k≤t.ni.length+1)∧(reI t f i k al x)) ?_ ?_
   ·
    refine ⟨_,i,true,true,rfl,t2,t3,t5,t6,t7,t9,rfl,rfl,h2,h3,h7,(Eq.trans (@rfl Blk (bk 1 4 1 (List.map cB ((outL t f i).set (((i)).toNat) true)))) (by rfl)),?_,?_⟩
    · omega
    · exact reI_start (by omega) (by omega) (by omega) (by omega)
   intro mm T H ⟨k,al,x,hmm,t2,t3,t5,t6,t7,t9,t13,t14,h2,h3,h7,h21,hk,hu⟩ Q29 p129 p229 p329
   unfold b70_3
   refine W_seq_seq (W_r (R_mv t13 (R_mv t5 (R_leq rfl rfl (R_mv rfl ?_)))))
   refine Ops_seg 2 (fun T H=>T 2=(V.mp 2 1 0 0)∧T 3=(V.mp 3 1 0 0)∧T 5=(iV ((t.ni.length:Nat):Int))∧T 6=(V.ms 21 1 0 (t.ni.length+1))∧T 7=(V.ms 7 v 0 (f.kids.length))∧T 9=(iV (i))∧T 13=(iV (k))∧T 219=(V.bool ((decide ((k)≤((t.ni.length:Nat):Int))&&al)))∧H 2=(bk 1 24 3 [[(iV (f.op)),(iV (f.arg)),(V.sl (List.map cF (f.kids)))]])∧H 3=(bk 1 54 2 [[(ints t.ni),(ints t.no)]])∧H 7=(bz v 41 1 (List.map cBL (f.kids.map (rst t))))∧H 21=(bk 1 4 1 (List.map cB ((outL t f i).set i.toNat x)))∧True) ?_ ?_
   ·
    by_cases g30:(k)≤((t.ni.length:Nat):Int)
    ·
     refine G_yes (edT g30 rfl) (R_mv t14 (R_pickT (edT g30 rfl) rfl ?_))
     exact ⟨t2,t3,t5,t6,t7,t9,t13,(dbandT g30),h2,h3,h7,h21,trivial⟩
    ·
     refine G_n (edF g30 rfl) (R_pickF (edF g30 rfl) rfl ?_)
     exact ⟨t2,t3,t5,t6,t7,t9,t13,(dbandF g30),h2,h3,h7,h21,trivial⟩
   intro T H ⟨t2,t3,t5,t6,t7,t9,t13,t219,h2,h3,h7,h21,_⟩
   refine R_e ?_
   refine W_seq_ifb t219 (fun c31=>?_) (fun c31=>?_)
   ·
    have q0:=c31
    rw [Bool.and_eq_true,decide_eq_true_eq] at q0
    obtain ⟨hk1,hal⟩:=q0
    refine W_seq_skip (W_seq_blockg fun Q32 n32 x32 y32 z32=>(W_r (R_mv t6 (R_mv t9 (R_mv t6 (R_mv t9 (R_idxI_ms0 (i:=(i)) (@rfl V (V.ms 21 1 0 (t.ni.length+1))) (@rfl V (iV (i))) h21 oB rfl (by omega) (by omega) ?_)))))))
    refine R_load_mp (v:=(V.bool ((nth ((outL t f i).set i.toNat x) (((i)).toNat))))) rfl h21 (ldB_map (by (simp only [List.length_map,List.length_set,outL_len]; omega)) (by rfl)) (R_mv rfl ?_)
    refine Ops_seg 7 (fun T H=>T 2=(V.mp 2 1 0 0)∧T 3=(V.mp 3 1 0 0)∧T 5=(iV ((t.ni.length:Nat):Int))∧T 6=(V.ms 21 1 0 (t.ni.length+1))∧T 7=(V.ms 7 v 0 (f.kids.length))∧T 9=(iV (i))∧T 13=(iV (k))∧T 222=(V.ms 21 1 0 (t.ni.length+1))∧T 223=(iV (i))∧T 235=(V.bool ((((nth ((outL t f i).set i.toNat x) (((i)).toNat)))&&((nth ((nth (f.kids.map (rst t)) (1))) (k).toNat)))))∧H 2=(bk 1 24 3 [[(iV (f.op)),(iV (f.arg)),(V.sl (List.map cF (f.kids)))]])∧H 3=(bk 1 54 2 [[(ints t.ni),(ints t.no)]])∧H 7=(bz v 41 1 (List.map cBL (f.kids.map (rst t))))∧H 21=(bk 1 4 1 (List.map cB ((outL t f i).set i.toNat x)))∧True) ?_ ?_
    ·
     by_cases g33:((nth ((outL t f i).set i.toNat x) (((i)).toNat)))=true
     ·
      refine G_yes (ebT g33 rfl) (R_mv t7 (G_yes (ebT g33 rfl) (R_idx_ms0 (i:=1) (@rfl V (V.ms 7 v 0 (f.kids.length))) (@rfl V (iV ((1:Nat):Int))) h7 (okB_map (by (simp only [List.length_map,List.length_set,outL_len]; omega))) rfl (by omega) (G_yes (ebT g33 rfl) (R_load_mp (v:=(V.sl (List.map cB ((nth (f.kids.map (rst t)) (1)))))) rfl h7 (ldB_map (by (simp only [List.length_map,List.length_set,outL_len]; omega)) (by rfl)) (G_yes (ebT g33 rfl) (R_mv t13 ?_)))))))
      refine G_yes (ebT g33 rfl) (R_idxI (i:=(k)) (@rfl V (V.sl (List.map cB ((nth (f.kids.map (rst t)) (1)))))) (@rfl V (iV (k))) (by omega) (by omega) rfl (G_yes (ebT g33 rfl) (R_load_pp rfl rfl (R_pickT (ebT g33 rfl) rfl ?_))))
      exact ⟨t2,t3,t5,t6,t7,t9,t13,rfl,rfl,(bandT g33),h2,h3,h7,h21,trivial⟩
     ·
      refine G_n (ebF g33 rfl) (G_n (ebF g33 rfl) (G_n (ebF g33 rfl) (G_n (ebF g33 rfl) (G_n (ebF g33 rfl) (G_n (ebF g33 rfl) (R_pickF (ebF g33 rfl) rfl ?_))))))
      exact ⟨t2,t3,t5,t6,t7,t9,t13,rfl,rfl,(bandF g33),h2,h3,h7,h21,trivial⟩
    intro T H ⟨t2,t3,t5,t6,t7,t9,t13,t222,t223,t235,h2,h3,h7,h21,_⟩
    refine R_idxI_ms0 (i:=(i)) t222 t223 h21 oB rfl (by omega) (by omega) (R_store (vs:=[(V.bool ((((nth ((outL t f i).set i.toNat x) (((i)).toNat)))&&((nth ((nth (f.kids.map (rst t)) (1))) (k).toNat)))))]) (B':=(bk 1 4 1 (List.map cB (((outL t f i).set i.toNat x).set (((i)).toNat) ((((nth ((outL t f i).set i.toNat x) (((i)).toNat)))&&((nth ((nth (f.kids.map (rst t)) (1))) (k).toNat)))))))) rfl t235 rfl h21 (stB_map (x:=((((nth ((outL t f i).set i.toNat x) (((i)).toNat)))&&((nth ((nth (f.kids.map (rst t)) (1))) (k).toNat))))) (i:=(((i)).toNat)) (by (simp only [List.length_map,List.length_set,outL_len]; omega)) rfl rfl rfl rfl) (R_e (W_t (R_mv t7 (R_idx_ms0 (i:=0) (@rfl V (V.ms 7 v 0 (f.kids.length))) (@rfl V (iV ((0:Nat):Int))) h7 (okB_map (by (simp only [List.length_map,List.length_set,outL_len]; omega))) rfl (by omega) (R_load_mp (v:=(V.sl (List.map cB ((nth (f.kids.map (rst t)) (0)))))) rfl h7 (ldB_map (by (simp only [List.length_map,List.length_set,outL_len]; omega)) (by rfl)) (R_mv t13 ?_)))))))
    refine R_idxI (i:=(k)) (@rfl V (V.sl (List.map cB ((nth (f.kids.map (rst t)) (0)))))) (@rfl V (iV (k))) (by omega) (by omega) rfl (R_load_pp rfl rfl (R_notb rfl (R_mv rfl (R_e (n32 _ _ (.done (W_t ?_)))))))
    refine R_mv t13 (R_add rfl rfl (by omega) (by omega) (R_mv rfl (R_e ?_)))
    refine p129 _ _ _ ?_ ⟨(k+1),(!(kR t f 0 k.toNat)),(x&&kR t f 1 k.toNat),rfl,t2,t3,t5,t6,t7,t9,(Eq.trans (@rfl V (iV ((k)+(1:Int)))) (by rfl)),(Eq.trans (@rfl V (V.bool ((!(nth ((nth (f.kids.map (rst t)) (0))) (k).toNat))))) (by rfl)),h2,h3,h7,(Eq.trans (@rfl Blk (bk 1 4 1 (List.map cB (((outL t f i).set i.toNat x).set (((i)).toNat) ((((nth ((outL t f i).set i.toNat x) (((i)).toNat)))&&((nth ((nth (f.kids.map (rst t)) (1))) (k).toNat)))))))) (by (rw [List.set_set,nth_set_at (by rw [outL_len]; omega)]; rfl))),?_,?_⟩
    · omega
    · omega
    · exact reI_next hu (by omega) (by omega) hal
   have hx:=reI_end hu c31
   refine W_seq_exit (p329 _ _ _ (x28 _ _ (n9 _ _ (n8 _ _ (.done (W_t (R_mv t9 ?_)))))))
   refine R_sub rfl rfl (by omega) (by omega) (R_mv rfl (R_e ?_))
   refine p16 _ _ _ ?_ ⟨(i - 1),v,rfl,t2,t3,t5,t6,t7,(Eq.trans (@rfl V (iV ((i) - (1:Int)))) (by rfl)),h2,h3,h7,(Eq.trans h21 (by (rw [outL_set2 (by omega) (by omega) hx]; done))),?_⟩
   · omega
   · omega
  refine W_r (R_mv t6 (R_mv t9 (R_fk t2 h2 (R_lk rfl h2 rfl rfl (R_eql rfl rfl (R_idxI_ms0 (i:=(i)) (@rfl V (V.ms 21 1 0 (t.ni.length+1))) (@rfl V (iV (i))) h21 oB rfl (by omega) (by omega) (R_store (vs:=[(V.bool (decide ((f.op)=(5:Int))))]) (B':=(bk 1 4 1 (List.map cB ((outL t f i).set (((i)).toNat) (decide ((f.op)=(5:Int))))))) rfl rfl rfl h21 (stB_map (x:=(decide ((f.op)=(5:Int)))) (i:=(((i)).toNat)) (by omega) rfl rfl rfl rfl) ?_)))))))
  refine R_e (W_r (R_mv rfl (R_e (W_block fun Q34 n34 x34 y34 z34=>?_))))
  refine W_loop (fun mm T H=> ∃ (q:Nat) (x:Bool),mm=f.kids.length - q∧T 2=(V.mp 2 1 0 0)∧T 3=(V.mp 3 1 0 0)∧T 5=(iV ((t.ni.length:Nat):Int))∧T 6=(V.ms 21 1 0 (t.ni.length+1))∧T 7=(V.ms 7 v 0 (f.kids.length))∧T 9=(iV (i))∧T 15=(iV ((q:Nat):Int))∧H 2=(bk 1 24 3 [[(iV (f.op)),(iV (f.arg)),(V.sl (List.map cF (f.kids)))]])∧H 3=(bk 1 54 2 [[(ints t.ni),(ints t.no)]])∧H 7=(bz v 41 1 (List.map cBL (f.kids.map (rst t))))∧H 21=(bk 1 4 1 (List.map cB ((outL t f i).set i.toNat x)))∧(q≤f.kids.length)∧(aoI t f i q x)) ?_ ?_
  ·
   refine ⟨_,0,(decide (f.op=5)),rfl,t2,t3,t5,t6,t7,t9,(Eq.trans (@rfl V (iV (0:Int))) rfl),h2,h3,h7,(Eq.trans (@rfl Blk (bk 1 4 1 (List.map cB ((outL t f i).set (((i)).toNat) (decide ((f.op)=(5:Int))))))) (by rfl)),?_,?_⟩
   · omega
   · exact aoI_start (by omega) (by omega) (by omega)
  intro mm T H ⟨q,x,hmm,t2,t3,t5,t6,t7,t9,t15,h2,h3,h7,h21,hq,ha⟩ Q35 p135 p235 p335
  unfold b70_4
  have hrq:q < f.kids.length→(nth (f.kids.map (rst t)) q).length=t.ni.length+1:=fun h=>by rw [nthM h,rst_len]
  refine W_seq_seq (W_r (R_mv t15 (R_mv t7 (R_len_ms rfl h7 (by simp) (R_lss rfl rfl (R_e ?_))))))
  refine W_seq_if rfl (fun c36=>?_) fun c36=>?_
  ·
   refine W_seq_skip (W_seq_blockg fun Q37 n37 x37 y37 z37=>(W_r (R_fk t2 h2 (R_lk rfl h2 rfl rfl (R_eql rfl rfl (R_e ?_))))))
   refine W_if rfl (fun c38=>?_) fun c38=>?_
   ·
    refine W_t (R_mv t6 (R_mv t9 (R_mv t6 (R_mv t9 (R_idxI_ms0 (i:=(i)) (@rfl V (V.ms 21 1 0 (t.ni.length+1))) (@rfl V (iV (i))) h21 oB rfl (by omega) (by omega) (R_load_mp (v:=(V.bool ((nth ((outL t f i).set i.toNat x) (((i)).toNat))))) rfl h21 (ldB_map (by (simp only [List.length_map,List.length_set,outL_len]; omega)) (by rfl)) (R_mv rfl ?_)))))))
    refine Ops_seg 8 (fun T H=>T 2=(V.mp 2 1 0 0)∧T 3=(V.mp 3 1 0 0)∧T 5=(iV ((t.ni.length:Nat):Int))∧T 6=(V.ms 21 1 0 (t.ni.length+1))∧T 7=(V.ms 7 v 0 (f.kids.length))∧T 9=(iV (i))∧T 15=(iV ((q:Nat):Int))∧T 64=(V.ms 21 1 0 (t.ni.length+1))∧T 65=(iV (i))∧T 78=(V.bool ((((nth ((outL t f i).set i.toNat x) (((i)).toNat)))&&((nth ((nth (f.kids.map (rst t)) (q))) (i).toNat)))))∧H 2=(bk 1 24 3 [[(iV (f.op)),(iV (f.arg)),(V.sl (List.map cF (f.kids)))]])∧H 3=(bk 1 54 2 [[(ints t.ni),(ints t.no)]])∧H 7=(bz v 41 1 (List.map cBL (f.kids.map (rst t))))∧H 21=(bk 1 4 1 (List.map cB ((outL t f i).set i.toNat x)))∧True) ?_ ?_
    ·
     by_cases g39:((nth ((outL t f i).set i.toNat x) (((i)).toNat)))=true
     ·
      refine G_yes (ebT g39 rfl) (R_mv t7 (G_yes (ebT g39 rfl) (R_mv t15 (G_yes (ebT g39 rfl) (R_idx_ms0 (i:=q) (@rfl V (V.ms 7 v 0 (f.kids.length))) (@rfl V (iV ((q:Nat):Int))) h7 (okB_map (by (simp only [List.length_map,List.length_set,outL_len]; omega))) rfl (by omega) (G_yes (ebT g39 rfl) (R_load_mp (v:=(V.sl (List.map cB ((nth (f.kids.map (rst t)) (q)))))) rfl h7 (ldB_map (by (simp only [List.length_map,List.length_set,outL_len]; omega)) (by rfl)) ?_)))))))
      refine G_yes (ebT g39 rfl) (R_mv t9 (G_yes (ebT g39 rfl) (R_idxI (i:=(i)) (@rfl V (V.sl (List.map cB ((nth (f.kids.map (rst t)) (q)))))) (@rfl V (iV (i))) (by omega) (by omega) rfl (G_yes (ebT g39 rfl) (R_load_pp rfl rfl (R_pickT (ebT g39 rfl) rfl ?_))))))
      exact ⟨t2,t3,t5,t6,t7,t9,t15,rfl,rfl,(bandT g39),h2,h3,h7,h21,trivial⟩
     ·
      refine G_n (ebF g39 rfl) (G_n (ebF g39 rfl) (G_n (ebF g39 rfl) (G_n (ebF g39 rfl) (G_n (ebF g39 rfl) (G_n (ebF g39 rfl) (G_n (ebF g39 rfl) (R_pickF (ebF g39 rfl) rfl ?_)))))))
      exact ⟨t2,t3,t5,t6,t7,t9,t15,rfl,rfl,(bandF g39),h2,h3,h7,h21,trivial⟩
    intro T H ⟨t2,t3,t5,t6,t7,t9,t15,t64,t65,t78,h2,h3,h7,h21,_⟩
    refine R_idxI_ms0 (i:=(i)) t64 t65 h21 oB rfl (by omega) (by omega) (R_store (vs:=[(V.bool ((((nth ((outL t f i).set i.toNat x) (((i)).toNat)))&&((nth ((nth (f.kids.map (rst t)) (q))) (i).toNat)))))]) (B':=(bk 1 4 1 (List.map cB (((outL t f i).set i.toNat x).set (((i)).toNat) ((((nth ((outL t f i).set i.toNat x) (((i)).toNat)))&&((nth ((nth (f.kids.map (rst t)) (q))) (i).toNat)))))))) rfl t78 rfl h21 (stB_map (x:=((((nth ((outL t f i).set i.toNat x) (((i)).toNat)))&&((nth ((nth (f.kids.map (rst t)) (q))) (i).toNat))))) (i:=(((i)).toNat)) (by (simp only [List.length_map,List.length_set,outL_len]; omega)) rfl rfl rfl rfl) (R_e (n37 _ _ (.done (W_t (R_mv t15 (R_addN rfl (@rfl V (iV ((1:Nat):Int))) (by omega) ?_)))))))
    refine R_mv rfl (R_e ?_)
    refine p135 _ _ _ ?_ ⟨(q+1),(x&&nth (nth (f.kids.map (rst t)) q) i.toNat),rfl,t2,t3,t5,t6,t7,t9,(Eq.trans (@rfl V (iV ((q+1:Nat):Int))) (by rfl)),h2,h3,h7,(Eq.trans (@rfl Blk (bk 1 4 1 (List.map cB (((outL t f i).set i.toNat x).set (((i)).toNat) ((((nth ((outL t f i).set i.toNat x) (((i)).toNat)))&&((nth ((nth (f.kids.map (rst t)) (q))) (i).toNat)))))))) (by (rw [List.set_set,nth_set_at (by rw [outL_len]; omega)]; done))),?_,?_⟩
    · omega
    · omega
    · first|exact aoI_and ha (by omega) (by omega)|exact aoI_or ha (by omega) (by omega)
   refine W_t (R_mv t6 (R_mv t9 (R_mv t6 (R_mv t9 (R_idxI_ms0 (i:=(i)) (@rfl V (V.ms 21 1 0 (t.ni.length+1))) (@rfl V (iV (i))) h21 oB rfl (by omega) (by omega) (R_load_mp (v:=(V.bool ((nth ((outL t f i).set i.toNat x) (((i)).toNat))))) rfl h21 (ldB_map (by (simp only [List.length_map,List.length_set,outL_len]; omega)) (by rfl)) (R_mv rfl ?_)))))))
   refine Ops_seg 8 (fun T H=>T 2=(V.mp 2 1 0 0)∧T 3=(V.mp 3 1 0 0)∧T 5=(iV ((t.ni.length:Nat):Int))∧T 6=(V.ms 21 1 0 (t.ni.length+1))∧T 7=(V.ms 7 v 0 (f.kids.length))∧T 9=(iV (i))∧T 15=(iV ((q:Nat):Int))∧T 80=(V.ms 21 1 0 (t.ni.length+1))∧T 81=(iV (i))∧T 94=(V.bool ((((nth ((outL t f i).set i.toNat x) (((i)).toNat)))||((nth ((nth (f.kids.map (rst t)) (q))) (i).toNat)))))∧H 2=(bk 1 24 3 [[(iV (f.op)),(iV (f.arg)),(V.sl (List.map cF (f.kids)))]])∧H 3=(bk 1 54 2 [[(ints t.ni),(ints t.no)]])∧H 7=(bz v 41 1 (List.map cBL (f.kids.map (rst t))))∧H 21=(bk 1 4 1 (List.map cB ((outL t f i).set i.toNat x)))∧True) ?_ ?_
   ·
    by_cases g40:((nth ((outL t f i).set i.toNat x) (((i)).toNat)))=true
    ·
     refine G_n (ebT g40 rfl) (G_n (ebT g40 rfl) (G_n (ebT g40 rfl) (G_n (ebT g40 rfl) (G_n (ebT g40 rfl) (G_n (ebT g40 rfl) (G_n (ebT g40 rfl) (R_pickT (ebT g40 rfl) rfl ?_)))))))
     exact ⟨t2,t3,t5,t6,t7,t9,t15,rfl,rfl,(borT g40),h2,h3,h7,h21,trivial⟩
    ·
     refine G_yes (ebF g40 rfl) (R_mv t7 (G_yes (ebF g40 rfl) (R_mv t15 (G_yes (ebF g40 rfl) (R_idx_ms0 (i:=q) (@rfl V (V.ms 7 v 0 (f.kids.length))) (@rfl V (iV ((q:Nat):Int))) h7 (okB_map (by (simp only [List.length_map,List.length_set,outL_len]; omega))) rfl (by omega) (G_yes (ebF g40 rfl) (R_load_mp (v:=(V.sl (List.map cB ((nth (f.kids.map (rst t)) (q)))))) rfl h7 (ldB_map (by (simp only [List.length_map,List.length_set,outL_len]; omega)) (by rfl)) ?_)))))))
     refine G_yes (ebF g40 rfl) (R_mv t9 (G_yes (ebF g40 rfl) (R_idxI (i:=(i)) (@rfl V (V.sl (List.map cB ((nth (f.kids.map (rst t)) (q)))))) (@rfl V (iV (i))) (by omega) (by omega) rfl (G_yes (ebF g40 rfl) (R_load_pp rfl rfl (R_pickF (ebF g40 rfl) rfl ?_))))))
     exact ⟨t2,t3,t5,t6,t7,t9,t15,rfl,rfl,(borF g40),h2,h3,h7,h21,trivial⟩
   intro T H ⟨t2,t3,t5,t6,t7,t9,t15,t80,t81,t94,h2,h3,h7,h21,_⟩
   refine R_idxI_ms0 (i:=(i)) t80 t81 h21 oB rfl (by omega) (by omega) (R_store (vs:=[(V.bool ((((nth ((outL t f i).set i.toNat x) (((i)).toNat)))||((nth ((nth (f.kids.map (rst t)) (q))) (i).toNat)))))]) (B':=(bk 1 4 1 (List.map cB (((outL t f i).set i.toNat x).set (((i)).toNat) ((((nth ((outL t f i).set i.toNat x) (((i)).toNat)))||((nth ((nth (f.kids.map (rst t)) (q))) (i).toNat)))))))) rfl t94 rfl h21 (stB_map (x:=((((nth ((outL t f i).set i.toNat x) (((i)).toNat)))||((nth ((nth (f.kids.map (rst t)) (q))) (i).toNat))))) (i:=(((i)).toNat)) (by (simp only [List.length_map,List.length_set,outL_len]; omega)) rfl rfl rfl rfl) (R_e (n37 _ _ (.done (W_t (R_mv t15 (R_addN rfl (@rfl V (iV ((1:Nat):Int))) (by omega) ?_)))))))
   refine R_mv rfl (R_e ?_)
   refine p135 _ _ _ ?_ ⟨(q+1),(x||nth (nth (f.kids.map (rst t)) q) i.toNat),rfl,t2,t3,t5,t6,t7,t9,(Eq.trans (@rfl V (iV ((q+1:Nat):Int))) (by rfl)),h2,h3,h7,(Eq.trans (@rfl Blk (bk 1 4 1 (List.map cB (((outL t f i).set i.toNat x).set (((i)).toNat) ((((nth ((outL t f i).set i.toNat x) (((i)).toNat)))||((nth ((nth (f.kids.map (rst t)) (q))) (i).toNat)))))))) (by (rw [List.set_set,nth_set_at (by rw [outL_len]; omega)]; done))),?_,?_⟩
   · omega
   · omega
   · first|exact aoI_and ha (by omega) (by omega)|exact aoI_or ha (by omega) (by omega)
  have hx:=aoI_end ha (by omega)
  refine W_seq_exit (p335 _ _ _ (x34 _ _ (n9 _ _ (n8 _ _ (.done (W_t (R_mv t9 ?_)))))))
  refine R_sub rfl rfl (by omega) (by omega) (R_mv rfl (R_e ?_))
  refine p16 _ _ _ ?_ ⟨(i - 1),v,rfl,t2,t3,t5,t6,t7,(Eq.trans (@rfl V (iV ((i) - (1:Int)))) (by rfl)),h2,h3,h7,(Eq.trans h21 (by (rw [outL_set2 (by omega) (by omega) hx]; done))),?_⟩
  · omega
  · omega
 refine W_seq_exit (p36 _ _ _ (x5 _ _ (.done (W_r (R_mv t6 (R_mv rfl (R_e ?_)))))))
 refine W_ret ?_
 refine Ret_1 (@rfl V (V.ms 21 1 0 (t.ni.length+1))) (fz_ms h21 (by rfl) (l:=(outL t f i)) rfl (by exact (outL_len _ _ _).symm) (fun _=>by simp) ?_)
 · rw [show i= -1 by omega,outL_end]
theorem rrests_pure (f:Fm) (t:Tr) (hf:okF f=true) (hz:f.sz≤4096) (ht:t.no.length=t.ni.length) (hn:t.ni.length≤1024):PureC Tryz.prog 70 [(V.agg [(iV (f.op)),(iV (f.arg)),(V.sl (List.map cF (f.kids)))]),(V.agg [(ints t.ni),(ints t.no)])] (V.sl (List.map cB ((rst t f)))):=by
  have key: ∀ (mm:Nat) (f:Fm) (t:Tr),f.sz < mm→okF f=true→f.sz≤4096→t.no.length=t.ni.length→t.ni.length≤1024→PureC Tryz.prog 70 [(V.agg [(iV (f.op)),(iV (f.arg)),(V.sl (List.map cF (f.kids)))]),(V.agg [(ints t.ni),(ints t.no)])] (V.sl (List.map cB ((rst t f)))):=by
    intro mm
    induction mm with
    |zero=>intro f t hlt; exact absurd hlt (Nat.not_lt_zero _)
    | succ mm ih =>
      intro f t hlt hf hz ht hn
      exact rrests_pure_step f t hf hz ht hn fun f2 t2 hlt2=>ih f2 t2 (by omega)
  exact key (f.sz+1) f t (Nat.lt_succ_self _) hf hz ht hn
end Go.Proofs.YteehaobohaecmaaGreatDoor
namespace Go.Proofs.YteehaobohaecmaaGreatDoor
open Go Go.Proofs
theorem rholds_pure (f:Fm) (t:Tr):PureC Tryz.prog 43 [(V.agg [(iV (f.op)),(iV (f.arg)),(V.sl (List.map cF (f.kids)))]),(V.agg [(ints t.ni),(ints t.no)])] (V.tup [(V.bool (hoB t f)),(iV (hoE t f))]):=by
 refine pW Tryz.func43 s43_ok fun hB=>?_
 unfold s43
 dsimp only
 refine W_r (R_box (i:=2) (n:=0) (m:=3) (cs:=[(iV (f.op)),(iV (f.arg)),(V.sl (List.map cF (f.kids)))]) rfl (congrArg Blk.ver rfl) rfl rfl rfl (R_box (i:=3) (n:=0) (m:=2) (cs:=[(ints t.ni),(ints t.no)]) rfl (congrArg Blk.ver rfl) rfl rfl rfl (R_mv rfl (R_mv rfl (R_e (W_seq_blockg fun Q1 n1 x1 y1 z1=>(W_r ?_)))))))
 refine R_lk rfl rfl rfl rfl (R_callk (rfvalid_pure f) rfl (R_neq rfl rfl (R_mv rfl (R_e ?_))))
 refine W_if rfl (fun c2=>?_) fun c2=>?_
 ·
  have h0:hoE t f=fval f:=if_pos c2
  have hb0:hoB t f=false:=by unfold hoB; rw [h0,decide_eq_false (by omega)]; rfl
  refine W_r (R_lk rfl rfl rfl rfl (R_callk (rfvalid_pure f) rfl (R_mv rfl (R_mv rfl (R_e (W_ret (y1 _ _ ?_)))))))
  refine Ret_2 (@rfl V (V.bool false)) (@rfl V (iV (fval f))) (fz_bool ?_) (fz_int ?_)
  · rw [hb0]
  · omega
 have h1:fval f=0:=by omega
 refine W_r (R_fk rfl rfl (R_lk rfl rfl rfl rfl (R_len rfl (R_gtr rfl rfl (R_mv rfl (R_e ?_))))))
 refine W_if rfl (fun c3=>?_) fun c3=>?_
 ·
  have h0:hoE t f=3:=by unfold hoE; rw [if_neg (by omega),if_pos (by omega)]
  have hb0:hoB t f=false:=by unfold hoB; rw [h0]; rfl
  refine W_r (R_mv rfl (R_mv rfl (R_e (W_ret (y1 _ _ ?_)))))
  refine Ret_2 (@rfl V (V.bool false)) (@rfl V (iV (3:Int))) (fz_bool ?_) (fz_int ?_)
  · rw [hb0]
  · omega
 refine W_r (R_fk rfl rfl (R_lk rfl rfl rfl rfl (R_len rfl (R_fk rfl rfl (R_lk rfl rfl rfl rfl (R_len rfl (R_neq rfl rfl ?_)))))))
 refine R_mv rfl (R_e ?_)
 refine W_if rfl (fun c4=>?_) fun c4=>?_
 ·
  have h0:hoE t f=1:=by unfold hoE; rw [if_neg (by omega),if_neg (by omega),if_pos (by omega)]
  have hb0:hoB t f=false:=by unfold hoB; rw [h0]; rfl
  refine W_r (R_mv rfl (R_mv rfl (R_e (W_ret (y1 _ _ ?_)))))
  refine Ret_2 (@rfl V (V.bool false)) (@rfl V (iV (1:Int))) (fz_bool ?_) (fz_int ?_)
  · rw [hb0]
  · omega
 have h0:hoE t f=0:=by unfold hoE; rw [if_neg (by omega),if_neg (by omega),if_neg (by omega)]
 have hb0:hoB t f=nth (rst t f) 0:=by unfold hoB; rw [h0,rst_nth (Nat.zero_le _)]; rfl
 have hrl:=rst_len t f
 refine W_skip (n1 _ _ (.done (W_r (R_lk rfl rfl rfl rfl (R_lk rfl rfl rfl rfl (R_callk (rrests_pure f t (fval_ok h1) (fval_sz h1) (by omega) (by omega)) rfl (R_idx (i:=0) (@rfl V (V.sl (List.map cB ((rst t f))))) (@rfl V (iV ((0:Nat):Int))) (by omega) rfl ?_)))))))
 refine R_load_pp rfl rfl (R_mv rfl (R_mv rfl (R_e (W_ret ?_))))
 refine Ret_2 (@rfl V (V.bool ((nth ((rst t f)) (0))))) (@rfl V (iV (0:Int))) (fz_bool ?_) (fz_int ?_)
 · rw [hb0]
 · omega
theorem rends_pure (f:Fm):PureC Tryz.prog 16 [(V.agg [(iV (f.op)),(iV (f.arg)),(V.sl (List.map cF (f.kids)))])] (V.tup [(V.bool (hoB t0 f)),(iV (hoE t0 f))]):=by
 refine pW Tryz.func16 s16_ok fun hB=>?_
 unfold s16
 dsimp only
 refine W_r (R_box (i:=1) (n:=0) (m:=3) (cs:=[(iV (f.op)),(iV (f.arg)),(V.sl (List.map cF (f.kids)))]) rfl (congrArg Blk.ver rfl) rfl rfl rfl (R_mv rfl (R_mv rfl (R_e (W_seq_seq (W_r (R_lk rfl rfl rfl rfl ?_)))))))
 refine R_callk (rfvalid_pure f) rfl (R_neq rfl rfl (R_e ?_))
 refine W_seq_if rfl (fun c1=>?_) fun c1=>?_
 ·
  have h0:hoE t0 f=fval f:=if_pos c1
  have hb0:hoB t0 f=false:=by unfold hoB; rw [h0,decide_eq_false (by omega)]; rfl
  refine W_seq_seq (W_r (R_lk rfl rfl rfl rfl (R_callk (rfvalid_pure f) rfl (R_mv rfl (R_mv rfl (R_e (W_seq_ret ?_)))))))
  refine Ret_2 (@rfl V (V.bool false)) (@rfl V (iV (fval f))) (fz_bool ?_) (fz_int ?_)
  · rw [hb0]
  · omega
 refine W_seq_skip (W_r (R_lk rfl rfl rfl rfl (R_build rfl rfl (R_call (evcons (@rfl V (V.agg [(iV (f.op)),(iV (f.arg)),(V.sl (List.map cF (f.kids)))])) (evcons (@rfl V (V.agg [V.nilsl,V.nilsl])) evnil)) (rholds_pure f (⟨([]),([])⟩:Tr)) (mcons (fzv_canon 6 _ (by simp [-List.map_take,-List.map_drop,-List.map_append,-List.map_reverse])) (mcons (by rfl) rfl)) (by simp [-List.map_take,-List.map_drop,-List.map_append,-List.map_reverse]) (Or.inl (by simp [-List.map_take,-List.map_drop,-List.map_append,-List.map_reverse])) (R_ext rfl rfl (R_ext rfl rfl (R_mv rfl ?_)))))))
 refine R_mv rfl (R_e (W_ret ?_))
 refine Ret_2 (@rfl V (V.bool (hoB (⟨([]),([])⟩:Tr) f))) (@rfl V (iV (hoE (⟨([]),([])⟩:Tr) f))) (fz_bool ?_) (fz_int ?_)
 · rfl
 · rfl
theorem law3_pure (f:Fm) (a o:Int):PureC Tryz.prog 3 [(V.agg [(iV (f.op)),(iV (f.arg)),(V.sl (List.map cF (f.kids)))]),(iV (a)),(iV (o))] (V.bool true):=by
 refine pW Tryz.func3 s3_ok fun hB=>?_
 unfold s3
 dsimp only
 refine W_r (R_box (i:=3) (n:=0) (m:=3) (cs:=[(iV (f.op)),(iV (f.arg)),(V.sl (List.map cF (f.kids)))]) rfl (congrArg Blk.ver rfl) rfl rfl rfl (R_mv rfl (R_e (W_seq_seq (W_r (R_lk rfl rfl rfl rfl (R_callk (size_pure f ((40:Int)) (by decide)) rfl ?_)))))))
 refine R_gtr rfl rfl (R_e ?_)
 refine W_seq_if rfl (fun c1=>?_) fun c1=>?_
 ·
  refine W_seq_seq (W_r (R_callk (aw46_pure) rfl (R_mv rfl (R_e (W_seq_ret ?_)))))
  refine Ret_1 (@rfl V (V.bool true)) (fz_canon (by simp) rfl)
 refine W_seq_skip (W_r (R_lk rfl rfl rfl rfl (R_callk (simplify_pure f) rfl (R_mv rfl (R_ext rfl rfl (R_ext rfl rfl (R_alloc (i:=7) (n:=0) (m:=3) rfl (congrArg Blk.ver rfl) rfl ?_)))))))
 refine R_sk rfl rfl rfl rfl rfl rfl rfl rfl rfl (R_mv rfl (R_e (W_r (R_lk rfl rfl rfl rfl (R_callk (rsimplify_pure f) rfl (R_mv rfl (R_ext rfl rfl ?_)))))))
 refine R_ext rfl rfl (R_alloc (i:=9) (n:=0) (m:=3) rfl (congrArg Blk.ver rfl) rfl (R_sk rfl rfl rfl rfl rfl rfl rfl rfl rfl (R_mv rfl (R_e (W_r (R_lk rfl rfl rfl rfl (R_mv rfl ?_)))))))
 refine R_mv rfl (R_callk (mstep_pure f ((a)) ((o))) rfl (R_mv rfl (R_ext rfl rfl (R_ext rfl rfl (R_alloc (i:=11) (n:=0) (m:=3) rfl (congrArg Blk.ver rfl) rfl (R_sk rfl rfl rfl rfl rfl rfl rfl rfl rfl (R_mv rfl ?_)))))))
 refine R_e ?_
 refine W_seq_regc (fun T H=>T 3=(V.mp 3 1 0 0)∧T 7=(V.mp 7 1 0 0)∧T 8=(iV ((simp_ f).2))∧T 9=(V.mp 9 1 0 0)∧T 10=(iV ((simp_ f).2))∧T 11=(V.mp 11 1 0 0)∧T 12=(iV ((stM f ((a)) ((o))).2))∧T 13=(V.mp 13 1 0 0)∧T 14=(iV ((stM f ((a)) ((o))).2))∧H 3=(bk 1 24 3 [[(iV (f.op)),(iV (f.arg)),(V.sl (List.map cF (f.kids)))]])∧H 7=(bk 1 24 3 [[(iV ((simp_ f).1.op)),(iV ((simp_ f).1.arg)),(V.sl (List.map cF ((simp_ f).1.kids)))]])∧H 9=(bk 1 24 3 [[(iV ((simp_ f).1.op)),(iV ((simp_ f).1.arg)),(V.sl (List.map cF ((simp_ f).1.kids)))]])∧H 11=(bk 1 24 3 [[(iV ((stM f ((a)) ((o))).1.op)),(iV ((stM f ((a)) ((o))).1.arg)),(V.sl (List.map cF ((stM f ((a)) ((o))).1.kids)))]])∧H 13=(bk 1 24 3 [[(iV ((stM f ((a)) ((o))).1.op)),(iV ((stM f ((a)) ((o))).1.arg)),(V.sl (List.map cF ((stM f ((a)) ((o))).1.kids)))]])∧True) ?_ ?_
 ·
  refine R_lk rfl rfl rfl rfl (R_mv rfl (R_mv rfl (R_callk (rstep_pure f ((a)) ((o))) rfl (R_mv rfl (R_ext rfl rfl (R_ext rfl rfl (R_alloc (i:=13) (n:=0) (m:=3) rfl (congrArg Blk.ver rfl) rfl ?_)))))))
  refine R_sk rfl rfl rfl rfl rfl rfl rfl rfl rfl (R_mv rfl ?_)
  exact R_nil ⟨rfl,rfl,rfl,rfl,rfl,rfl,rfl,rfl,rfl,rfl,rfl,rfl,rfl,rfl,trivial⟩
 intro T H ⟨t3,t7,t8,t9,t10,t11,t12,t13,t14,h3,h7,h9,h11,h13,_⟩
 refine W_r (R_lk t3 h3 rfl rfl (R_callk (mends_pure f) rfl (R_mv rfl (R_ext rfl rfl (R_ext rfl rfl (R_mv rfl (R_mv rfl ?_)))))))
 refine R_e (W_r (R_lk t3 h3 rfl rfl (R_callk (rends_pure f) rfl (R_mv rfl (R_ext rfl rfl (R_ext rfl rfl (R_mv rfl ?_)))))))
 refine R_mv rfl (R_e ?_)
 refine W_seq_regc (fun T H=>T 6=(V.bool (((((((((((((sameF ((simp_ f).1) ((simp_ f).1))&&decide (((simp_ f).2)=((simp_ f).2))))&&(sameF ((stM f ((a)) ((o))).1) ((stM f ((a)) ((o))).1))))&&decide (((stM f ((a)) ((o))).2)=((stM f ((a)) ((o))).2))))&&(((hoB t0 f)==(hoB t0 f)))))&&decide ((hoE t0 f)=(hoE t0 f))))||false)))∧H 3=(bk 1 24 3 [[(iV (f.op)),(iV (f.arg)),(V.sl (List.map cF (f.kids)))]])∧H 7=(bk 1 24 3 [[(iV ((simp_ f).1.op)),(iV ((simp_ f).1.arg)),(V.sl (List.map cF ((simp_ f).1.kids)))]])∧H 9=(bk 1 24 3 [[(iV ((simp_ f).1.op)),(iV ((simp_ f).1.arg)),(V.sl (List.map cF ((simp_ f).1.kids)))]])∧H 11=(bk 1 24 3 [[(iV ((stM f ((a)) ((o))).1.op)),(iV ((stM f ((a)) ((o))).1.arg)),(V.sl (List.map cF ((stM f ((a)) ((o))).1.kids)))]])∧H 13=(bk 1 24 3 [[(iV ((stM f ((a)) ((o))).1.op)),(iV ((stM f ((a)) ((o))).1.arg)),(V.sl (List.map cF ((stM f ((a)) ((o))).1.kids)))]])∧True) ?_ ?_
 ·
  refine R_lk t7 h7 rfl rfl (R_lk t9 h9 rfl rfl (R_callk (rsame_pure ((simp_ f).1) ((simp_ f).1)) rfl (R_mv rfl ?_)))
  refine Ops_seg 4 (fun T H=>T 11=(V.mp 11 1 0 0)∧T 12=(iV ((stM f ((a)) ((o))).2))∧T 13=(V.mp 13 1 0 0)∧T 14=(iV ((stM f ((a)) ((o))).2))∧T 15=(V.bool (hoB t0 f))∧T 16=(iV (hoE t0 f))∧T 17=(V.bool (hoB t0 f))∧T 18=(iV (hoE t0 f))∧T 64=(V.bool (((sameF ((simp_ f).1) ((simp_ f).1))&&decide (((simp_ f).2)=((simp_ f).2)))))∧H 3=(bk 1 24 3 [[(iV (f.op)),(iV (f.arg)),(V.sl (List.map cF (f.kids)))]])∧H 7=(bk 1 24 3 [[(iV ((simp_ f).1.op)),(iV ((simp_ f).1.arg)),(V.sl (List.map cF ((simp_ f).1.kids)))]])∧H 9=(bk 1 24 3 [[(iV ((simp_ f).1.op)),(iV ((simp_ f).1.arg)),(V.sl (List.map cF ((simp_ f).1.kids)))]])∧H 11=(bk 1 24 3 [[(iV ((stM f ((a)) ((o))).1.op)),(iV ((stM f ((a)) ((o))).1.arg)),(V.sl (List.map cF ((stM f ((a)) ((o))).1.kids)))]])∧H 13=(bk 1 24 3 [[(iV ((stM f ((a)) ((o))).1.op)),(iV ((stM f ((a)) ((o))).1.arg)),(V.sl (List.map cF ((stM f ((a)) ((o))).1.kids)))]])∧True) ?_ ?_
  ·
   by_cases g2:(sameF ((simp_ f).1) ((simp_ f).1))=true
   ·
    refine G_yes (ebT g2 rfl) (R_mv t8 (G_yes (ebT g2 rfl) (R_mv t10 (G_yes (ebT g2 rfl) (R_eql rfl rfl (R_pickT (ebT g2 rfl) rfl ?_))))))
    exact ⟨t11,t12,t13,t14,rfl,rfl,rfl,rfl,(bandT g2),h3,h7,h9,h11,h13,trivial⟩
   ·
    refine G_n (ebF g2 rfl) (G_n (ebF g2 rfl) (G_n (ebF g2 rfl) (R_pickF (ebF g2 rfl) rfl ?_)))
    exact ⟨t11,t12,t13,t14,rfl,rfl,rfl,rfl,(bandF g2),h3,h7,h9,h11,h13,trivial⟩
  intro T H ⟨t11,t12,t13,t14,t15,t16,t17,t18,t64,h3,h7,h9,h11,h13,_⟩
  refine R_mv t64 ?_
  refine Ops_seg 4 (fun T H=>T 12=(iV ((stM f ((a)) ((o))).2))∧T 14=(iV ((stM f ((a)) ((o))).2))∧T 15=(V.bool (hoB t0 f))∧T 16=(iV (hoE t0 f))∧T 17=(V.bool (hoB t0 f))∧T 18=(iV (hoE t0 f))∧T 69=(V.bool (((((sameF ((simp_ f).1) ((simp_ f).1))&&decide (((simp_ f).2)=((simp_ f).2))))&&(sameF ((stM f ((a)) ((o))).1) ((stM f ((a)) ((o))).1)))))∧H 3=(bk 1 24 3 [[(iV (f.op)),(iV (f.arg)),(V.sl (List.map cF (f.kids)))]])∧H 7=(bk 1 24 3 [[(iV ((simp_ f).1.op)),(iV ((simp_ f).1.arg)),(V.sl (List.map cF ((simp_ f).1.kids)))]])∧H 9=(bk 1 24 3 [[(iV ((simp_ f).1.op)),(iV ((simp_ f).1.arg)),(V.sl (List.map cF ((simp_ f).1.kids)))]])∧H 11=(bk 1 24 3 [[(iV ((stM f ((a)) ((o))).1.op)),(iV ((stM f ((a)) ((o))).1.arg)),(V.sl (List.map cF ((stM f ((a)) ((o))).1.kids)))]])∧H 13=(bk 1 24 3 [[(iV ((stM f ((a)) ((o))).1.op)),(iV ((stM f ((a)) ((o))).1.arg)),(V.sl (List.map cF ((stM f ((a)) ((o))).1.kids)))]])∧True) ?_ ?_
  ·
   by_cases g3:(((sameF ((simp_ f).1) ((simp_ f).1))&&decide (((simp_ f).2)=((simp_ f).2))))=true
   ·
    have g3x:=g3
    simp only [Bool.and_eq_true,Bool.or_eq_true,Bool.not_eq_true',decide_eq_true_eq] at g3x
    refine G_yes (ebT g3 rfl) (R_lk t11 h11 rfl rfl (G_yes (ebT g3 rfl) (R_lk t13 h13 rfl rfl (G_yes (ebT g3 rfl) (R_callk (rsame_pure ((stM f ((a)) ((o))).1) ((stM f ((a)) ((o))).1)) rfl (R_pickT (ebT g3 rfl) rfl ?_))))))
    exact ⟨t12,t14,t15,t16,t17,t18,(bandT g3),h3,h7,h9,h11,h13,trivial⟩
   ·
    have g3x:=g3
    simp only [Bool.and_eq_true,Bool.or_eq_true,Bool.not_eq_true',decide_eq_true_eq] at g3x
    refine G_n (ebF g3 rfl) (G_n (ebF g3 rfl) (G_n (ebF g3 rfl) (R_pickF (ebF g3 rfl) rfl ?_)))
    exact ⟨t12,t14,t15,t16,t17,t18,(bandF g3),h3,h7,h9,h11,h13,trivial⟩
  intro T H ⟨t12,t14,t15,t16,t17,t18,t69,h3,h7,h9,h11,h13,_⟩
  refine R_mv t69 ?_
  refine Ops_seg 4 (fun T H=>T 15=(V.bool (hoB t0 f))∧T 16=(iV (hoE t0 f))∧T 17=(V.bool (hoB t0 f))∧T 18=(iV (hoE t0 f))∧T 74=(V.bool (((((((sameF ((simp_ f).1) ((simp_ f).1))&&decide (((simp_ f).2)=((simp_ f).2))))&&(sameF ((stM f ((a)) ((o))).1) ((stM f ((a)) ((o))).1))))&&decide (((stM f ((a)) ((o))).2)=((stM f ((a)) ((o))).2)))))∧H 3=(bk 1 24 3 [[(iV (f.op)),(iV (f.arg)),(V.sl (List.map cF (f.kids)))]])∧H 7=(bk 1 24 3 [[(iV ((simp_ f).1.op)),(iV ((simp_ f).1.arg)),(V.sl (List.map cF ((simp_ f).1.kids)))]])∧H 9=(bk 1 24 3 [[(iV ((simp_ f).1.op)),(iV ((simp_ f).1.arg)),(V.sl (List.map cF ((simp_ f).1.kids)))]])∧H 11=(bk 1 24 3 [[(iV ((stM f ((a)) ((o))).1.op)),(iV ((stM f ((a)) ((o))).1.arg)),(V.sl (List.map cF ((stM f ((a)) ((o))).1.kids)))]])∧H 13=(bk 1 24 3 [[(iV ((stM f ((a)) ((o))).1.op)),(iV ((stM f ((a)) ((o))).1.arg)),(V.sl (List.map cF ((stM f ((a)) ((o))).1.kids)))]])∧True) ?_ ?_
  ·
   by_cases g4:(((((sameF ((simp_ f).1) ((simp_ f).1))&&decide (((simp_ f).2)=((simp_ f).2))))&&(sameF ((stM f ((a)) ((o))).1) ((stM f ((a)) ((o))).1))))=true
   ·
    have g4x:=g4
    simp only [Bool.and_eq_true,Bool.or_eq_true,Bool.not_eq_true',decide_eq_true_eq] at g4x
    refine G_yes (ebT g4 rfl) (R_mv t12 (G_yes (ebT g4 rfl) (R_mv t14 (G_yes (ebT g4 rfl) (R_eql rfl rfl (R_pickT (ebT g4 rfl) rfl ?_))))))
    exact ⟨t15,t16,t17,t18,(bandT g4),h3,h7,h9,h11,h13,trivial⟩
   ·
    have g4x:=g4
    simp only [Bool.and_eq_true,Bool.or_eq_true,Bool.not_eq_true',decide_eq_true_eq] at g4x
    refine G_n (ebF g4 rfl) (G_n (ebF g4 rfl) (G_n (ebF g4 rfl) (R_pickF (ebF g4 rfl) rfl ?_)))
    exact ⟨t15,t16,t17,t18,(bandF g4),h3,h7,h9,h11,h13,trivial⟩
  intro T H ⟨t15,t16,t17,t18,t74,h3,h7,h9,h11,h13,_⟩
  refine R_mv t74 ?_
  refine Ops_seg 4 (fun T H=>T 16=(iV (hoE t0 f))∧T 18=(iV (hoE t0 f))∧T 79=(V.bool (((((((((sameF ((simp_ f).1) ((simp_ f).1))&&decide (((simp_ f).2)=((simp_ f).2))))&&(sameF ((stM f ((a)) ((o))).1) ((stM f ((a)) ((o))).1))))&&decide (((stM f ((a)) ((o))).2)=((stM f ((a)) ((o))).2))))&&(((hoB t0 f)==(hoB t0 f))))))∧H 3=(bk 1 24 3 [[(iV (f.op)),(iV (f.arg)),(V.sl (List.map cF (f.kids)))]])∧H 7=(bk 1 24 3 [[(iV ((simp_ f).1.op)),(iV ((simp_ f).1.arg)),(V.sl (List.map cF ((simp_ f).1.kids)))]])∧H 9=(bk 1 24 3 [[(iV ((simp_ f).1.op)),(iV ((simp_ f).1.arg)),(V.sl (List.map cF ((simp_ f).1.kids)))]])∧H 11=(bk 1 24 3 [[(iV ((stM f ((a)) ((o))).1.op)),(iV ((stM f ((a)) ((o))).1.arg)),(V.sl (List.map cF ((stM f ((a)) ((o))).1.kids)))]])∧H 13=(bk 1 24 3 [[(iV ((stM f ((a)) ((o))).1.op)),(iV ((stM f ((a)) ((o))).1.arg)),(V.sl (List.map cF ((stM f ((a)) ((o))).1.kids)))]])∧True) ?_ ?_
  ·
   by_cases g5:(((((((sameF ((simp_ f).1) ((simp_ f).1))&&decide (((simp_ f).2)=((simp_ f).2))))&&(sameF ((stM f ((a)) ((o))).1) ((stM f ((a)) ((o))).1))))&&decide (((stM f ((a)) ((o))).2)=((stM f ((a)) ((o))).2))))=true
   ·
    have g5x:=g5
    simp only [Bool.and_eq_true,Bool.or_eq_true,Bool.not_eq_true',decide_eq_true_eq] at g5x
    refine G_yes (ebT g5 rfl) (R_mv t15 (G_yes (ebT g5 rfl) (R_mv t17 (G_yes (ebT g5 rfl) (R_beql (x:=(hoB t0 f)) (y:=(hoB t0 f)) rfl rfl (R_pickT (ebT g5 rfl) rfl ?_))))))
    exact ⟨t16,t18,(bandT g5),h3,h7,h9,h11,h13,trivial⟩
   ·
    have g5x:=g5
    simp only [Bool.and_eq_true,Bool.or_eq_true,Bool.not_eq_true',decide_eq_true_eq] at g5x
    refine G_n (ebF g5 rfl) (G_n (ebF g5 rfl) (G_n (ebF g5 rfl) (R_pickF (ebF g5 rfl) rfl ?_)))
    exact ⟨t16,t18,(bandF g5),h3,h7,h9,h11,h13,trivial⟩
  intro T H ⟨t16,t18,t79,h3,h7,h9,h11,h13,_⟩
  refine R_mv t79 ?_
  refine Ops_seg 4 (fun T H=>T 84=(V.bool (((((((((((sameF ((simp_ f).1) ((simp_ f).1))&&decide (((simp_ f).2)=((simp_ f).2))))&&(sameF ((stM f ((a)) ((o))).1) ((stM f ((a)) ((o))).1))))&&decide (((stM f ((a)) ((o))).2)=((stM f ((a)) ((o))).2))))&&(((hoB t0 f)==(hoB t0 f)))))&&decide ((hoE t0 f)=(hoE t0 f)))))∧H 3=(bk 1 24 3 [[(iV (f.op)),(iV (f.arg)),(V.sl (List.map cF (f.kids)))]])∧H 7=(bk 1 24 3 [[(iV ((simp_ f).1.op)),(iV ((simp_ f).1.arg)),(V.sl (List.map cF ((simp_ f).1.kids)))]])∧H 9=(bk 1 24 3 [[(iV ((simp_ f).1.op)),(iV ((simp_ f).1.arg)),(V.sl (List.map cF ((simp_ f).1.kids)))]])∧H 11=(bk 1 24 3 [[(iV ((stM f ((a)) ((o))).1.op)),(iV ((stM f ((a)) ((o))).1.arg)),(V.sl (List.map cF ((stM f ((a)) ((o))).1.kids)))]])∧H 13=(bk 1 24 3 [[(iV ((stM f ((a)) ((o))).1.op)),(iV ((stM f ((a)) ((o))).1.arg)),(V.sl (List.map cF ((stM f ((a)) ((o))).1.kids)))]])∧True) ?_ ?_
  ·
   by_cases g6:(((((((((sameF ((simp_ f).1) ((simp_ f).1))&&decide (((simp_ f).2)=((simp_ f).2))))&&(sameF ((stM f ((a)) ((o))).1) ((stM f ((a)) ((o))).1))))&&decide (((stM f ((a)) ((o))).2)=((stM f ((a)) ((o))).2))))&&(((hoB t0 f)==(hoB t0 f)))))=true
   ·
    have g6x:=g6
    simp only [Bool.and_eq_true,Bool.or_eq_true,Bool.not_eq_true',decide_eq_true_eq] at g6x
    refine G_yes (ebT g6 rfl) (R_mv t16 (G_yes (ebT g6 rfl) (R_mv t18 (G_yes (ebT g6 rfl) (R_eql rfl rfl (R_pickT (ebT g6 rfl) rfl ?_))))))
    exact ⟨(bandT g6),h3,h7,h9,h11,h13,trivial⟩
   ·
    have g6x:=g6
    simp only [Bool.and_eq_true,Bool.or_eq_true,Bool.not_eq_true',decide_eq_true_eq] at g6x
    refine G_n (ebF g6 rfl) (G_n (ebF g6 rfl) (G_n (ebF g6 rfl) (R_pickF (ebF g6 rfl) rfl ?_)))
    exact ⟨(bandF g6),h3,h7,h9,h11,h13,trivial⟩
  intro T H ⟨t84,h3,h7,h9,h11,h13,_⟩
  refine R_mv t84 ?_
  refine Ops_seg 2 (fun T H=>T 87=(V.bool (((((((((((((sameF ((simp_ f).1) ((simp_ f).1))&&decide (((simp_ f).2)=((simp_ f).2))))&&(sameF ((stM f ((a)) ((o))).1) ((stM f ((a)) ((o))).1))))&&decide (((stM f ((a)) ((o))).2)=((stM f ((a)) ((o))).2))))&&(((hoB t0 f)==(hoB t0 f)))))&&decide ((hoE t0 f)=(hoE t0 f))))||false)))∧H 3=(bk 1 24 3 [[(iV (f.op)),(iV (f.arg)),(V.sl (List.map cF (f.kids)))]])∧H 7=(bk 1 24 3 [[(iV ((simp_ f).1.op)),(iV ((simp_ f).1.arg)),(V.sl (List.map cF ((simp_ f).1.kids)))]])∧H 9=(bk 1 24 3 [[(iV ((simp_ f).1.op)),(iV ((simp_ f).1.arg)),(V.sl (List.map cF ((simp_ f).1.kids)))]])∧H 11=(bk 1 24 3 [[(iV ((stM f ((a)) ((o))).1.op)),(iV ((stM f ((a)) ((o))).1.arg)),(V.sl (List.map cF ((stM f ((a)) ((o))).1.kids)))]])∧H 13=(bk 1 24 3 [[(iV ((stM f ((a)) ((o))).1.op)),(iV ((stM f ((a)) ((o))).1.arg)),(V.sl (List.map cF ((stM f ((a)) ((o))).1.kids)))]])∧True) ?_ ?_
  ·
   by_cases g7:(((((((((((sameF ((simp_ f).1) ((simp_ f).1))&&decide (((simp_ f).2)=((simp_ f).2))))&&(sameF ((stM f ((a)) ((o))).1) ((stM f ((a)) ((o))).1))))&&decide (((stM f ((a)) ((o))).2)=((stM f ((a)) ((o))).2))))&&(((hoB t0 f)==(hoB t0 f)))))&&decide ((hoE t0 f)=(hoE t0 f))))=true
   ·
    have g7x:=g7
    simp only [Bool.and_eq_true,Bool.or_eq_true,Bool.not_eq_true',decide_eq_true_eq] at g7x
    refine G_yes (ebT g7 rfl) (R_callk (aw46_pure) rfl (R_pickT (ebT g7 rfl) rfl ?_))
    exact ⟨(borT g7),h3,h7,h9,h11,h13,trivial⟩
   ·
    have g7x:=g7
    simp only [Bool.and_eq_true,Bool.or_eq_true,Bool.not_eq_true',decide_eq_true_eq] at g7x
    refine G_n (ebF g7 rfl) (R_pickF (ebF g7 rfl) rfl ?_)
    exact ⟨(borF g7),h3,h7,h9,h11,h13,trivial⟩
  intro T H ⟨t87,h3,h7,h9,h11,h13,_⟩
  refine R_mv t87 ?_
  exact R_nil ⟨rfl,h3,h7,h9,h11,h13,trivial⟩
 intro T H ⟨t6,h3,h7,h9,h11,h13,_⟩
 refine W_ret ?_
 refine Ret_1 t6 (fz_bool ?_)
 · simp [sameF_self]
end Go.Proofs.YteehaobohaecmaaGreatDoor
namespace Go.Proofs.YteehaobohaecmaaGreatDoor
open Go Go.ChangeShapes Go.WideShapes Go.ChangeAt Go.RowKit
def okS (P:Program) (S:List TypeId) (t:TypeId):Bool:=match P.underlying t with
  |some .bool=>true
  |some (.int _)=>true
  |some .string=>true
  |some (.slice e)=>decide (e∈S)&&decide (P.cellsOf e≠0)
  |some (.struct fs)=>fs.toList.all (fun f=>decide (f.type∈S))&&tile P (P.cellsOf t) 0 fs.toList
  |some (.array m e)=>decide (e∈S)&&decide (m*P.cellsOf e=P.cellsOf t)
  |_=>false
section
variable {H:Type} {enc:TypeId×Value→H} {P:Program} {base:Nat} {spare:Nat→Bool} {held:Bool}
theorem trod_RS {x : Cx} (hZ : ∀ b, b < x.w.heap.size → x.Z b) {S : List TypeId} (hS : ∀ t ∈ S, okS P S t = true) : ∀ (fuel : Nat) (t : TypeId), t ∈ S → ∀ (cs : List Value) (y : DataW H × List MemPlace), DataW.trod enc P x.w base spare held fuel t cs = some y →
    ∃ vs,Shp P fuel t vs∧RC x vs cs:=by
  intro n
  induction n with
  |zero=>intro t _ cs y hy; simp [DataW.trod] at hy
  | succ n ih =>
    intro t hm cs y hy
    have hok:=hS t hm
    have one: ∀ {v:V} {c:Value},R x v c→RC x [v] [c]:=fun {v c} h=>⟨rfl,fun j u hj=>by
      cases j with
      |zero=>simp at hj; subst hj; exact h
      |succ j=>simp at hj⟩
    simp only [okS] at hok
    split at hok
    · rename_i ht
      simp only [Shp,ht]
      obtain ⟨b,rfl,_⟩:=DataW.trod_bool ht hy
      exact ⟨[.bool b],⟨b,rfl⟩,one (.bool b)⟩
    · rename_i k ht
      simp only [Shp,ht]
      obtain ⟨m,rfl,_⟩:=DataW.trod_int ht hy
      exact ⟨[.int k m],⟨m,rfl⟩,one (.int k m)⟩
    · rename_i ht
      simp only [Shp,ht]
      obtain ⟨s,rfl,_⟩:=DataW.trod_string ht hy
      exact ⟨[.str s.data.toList],⟨_,rfl⟩,one (R.str s.data.toList)⟩
    · rename_i e ht
      simp only [Shp,ht]
      simp only [Bool.and_eq_true,decide_eq_true_eq] at hok
      obtain ⟨hok,hnz⟩:=hok
      rcases DataW.trod_slice ht hy with ⟨rfl,_⟩|⟨a,len,cap,elems,rest,m,em,rfl,_,hb,hl,hc,hlen,hel,_,_⟩
      · exact ⟨[.sl []],⟨[],rfl,fun r hr=>by cases hr⟩,one .slnil⟩
      · obtain rfl:n=m:=by omega
        have hall: ∀ i,i < len→ ∃ r:List V,Shp P n e r∧ ∃ ci:List Value,x.w.cells? base (a.add (i*P.cellsOf e)) (P.cellsOf e)=some ci∧RC x r ci:=by
          intro i hi
          have h1:=hel i hi
          rw [List.getElem?_eq_getElem (by omega)] at h1
          cases h2:x.w.cells? base (a.add (i*P.cellsOf e)) (P.cellsOf e) with
          |none=>rw [h2] at h1; cases h1
          | some ci =>
            rw [h2] at h1
            obtain ⟨vs,h3,h4⟩:=ih e hok ci _ h1
            exact ⟨vs,h3,ci,rfl,h4⟩
        obtain ⟨rows,hrl,hrows⟩:=choiceL hall
        have hcell: ∀ (r:Nat) (row:List V) (j:Nat) (v:V),rows[r]?=some row→row[j]?=some v→
            ∃ c,x.w.cell? (a.add (r*P.cellsOf e+j))=some c∧R x v c:=by
          intro r row j v hr hj
          obtain ⟨_,ci,g1,g2⟩:=hrows r row hr
          obtain ⟨_,g4,g5⟩:=World.cells?_some g1
          have hjlt:j < ci.length:=by have:=(List.getElem?_eq_some_iff.1 hj).1; rw [← g2.1]; exact this
          have g6:=g5 j (by omega)
          rw [List.getElem?_eq_getElem hjlt,Addr.add_add] at g6
          refine ⟨_,g6,?_⟩
          have:=g2.2 j v hj
          rw [List.getD_eq_getElem?_getD,List.getElem?_eq_getElem hjlt] at this
          exact this
        have key:=R.sl (x:=x) rows a cap (P.cellsOf e) (fun k=>(x.w.cell? (a.add k)).getD undef) (by omega) hc ?_ ?_ ?_ ?_
        · rw [hrl] at key
          exact ⟨[.sl rows],⟨rows,rfl,fun r hr=>by obtain ⟨i,hi⟩:=List.getElem?_of_mem hr; exact (hrows i r hi).1⟩,one key⟩
        · intro hne
          cases hrr:rows with
          |nil=>exact (hne hrr).elim
          | cons r0 rs =>
            obtain ⟨_,ci,g1,g2⟩:=hrows 0 r0 (by rw [hrr]; rfl)
            · obtain ⟨_,g4,g5⟩:=World.cells?_some g1
              have g6:=g5 0 (by omega)
              rw [List.getElem?_eq_getElem (by omega),Addr.add_add] at g6
              have hlt:(a.add (0*P.cellsOf e+0)).block < x.w.heap.size:=by
                unfold World.cell? at g6
                split at g6
                · rename_i hh
                  exact (Array.getElem?_eq_some_iff.1 hh).1
                · cases g6
              exact hZ _ (by simpa [Addr.add] using hlt)
        · intro r hr
          obtain ⟨i,hi⟩:=List.getElem?_of_mem hr
          obtain ⟨_,ci,g1,g2⟩:=hrows i r hi
          rw [g2.1]
          exact (World.cells?_some g1).2.1
        · intro r row j v hr hj
          obtain ⟨c,g1,_⟩:=hcell r row j v hr hj
          rw [g1]; rfl
        · intro r row j v hr hj
          obtain ⟨c,g1,g2⟩:=hcell r row j v hr hj
          simp only [g1,Option.getD_some]
          exact g2
    · rename_i fs ht
      simp only [Shp,ht]
      simp only [Bool.and_eq_true] at hok
      obtain ⟨xs,m,em,_,hl,hxl,hf⟩:=DataW.trod_struct ht hy
      obtain rfl:n=m:=by omega
      have hfs: ∀ f∈fs.toList,∃ z,DataW.trod enc P x.w base spare held n f.type ((cs.drop f.offset).take (P.cellsOf f.type))=some z:=by
        intro f hm
        obtain ⟨i,hi⟩:=List.getElem?_of_mem hm
        have hi':fs[i]?=some f:=by simpa using hi
        have hlt:i < xs.length:=by
          have:=(Array.getElem?_eq_some_iff.1 hi').1
          omega
        exact ⟨xs[i],by rw [hf i f hi',List.getElem?_eq_getElem hlt]⟩
      have hok':=List.all_eq_true.1 hok.1
      have main: ∀ (l:List Field) (off:Nat),(∀ f∈l,f∈fs.toList)→tile P (P.cellsOf t) off l=true→off≤cs.length→ ∃ vs,ShpL (Shp P n) l vs∧RC x vs (cs.drop off):=by
        intro l
        induction l with
        | nil =>
          intro off _ htl hle
          simp only [tile,decide_eq_true_eq] at htl
          refine ⟨[],rfl,?_⟩
          rw [List.drop_of_length_le (by omega)]
          exact ⟨rfl,fun j v hj=>by simp at hj⟩
        | cons f r ihr =>
          intro off hsub htl hle
          simp only [tile,Bool.and_eq_true,decide_eq_true_eq] at htl
          obtain ⟨z,hz⟩:=hfs f (hsub f (List.mem_cons_self ..))
          obtain ⟨va,g1,g2⟩:=ih f.type (of_decide_eq_true (hok' f (hsub f (List.mem_cons_self ..)))) _ _ hz
          have hoff:off+P.cellsOf f.type≤cs.length:=by
            rw [hl]
            have: ∀ (l:List Field) (o:Nat),tile P (P.cellsOf t) o l=true→o≤P.cellsOf t:=by
              intro l
              induction l with
              |nil=>intro o h; simp only [tile,decide_eq_true_eq] at h; omega
              |cons f r ih=>intro o h; simp only [tile,Bool.and_eq_true,decide_eq_true_eq] at h; have:=ih _ h.2; omega
            exact this _ _ htl.2
          obtain ⟨vb,g3,g4⟩:=ihr (off+P.cellsOf f.type) (fun q hq=>hsub q (List.mem_cons_of_mem _ hq)) htl.2 hoff
          refine ⟨va++vb,⟨va,vb,rfl,g1,g3⟩,?_⟩
          have hsplit:cs.drop off=(cs.drop off).take (P.cellsOf f.type)++cs.drop (off+P.cellsOf f.type):=by
            rw [← List.drop_drop,List.take_append_drop]
          rw [hsplit]
          rw [htl.1] at g2
          exact RC_append g2 g4
      obtain ⟨vs,g1,g2⟩:=main fs.toList 0 (fun _ h=>h) hok.2 (Nat.zero_le _)
      exact ⟨vs,g1,by simpa using g2⟩
    · rename_i m e ht
      simp only [Shp,ht]
      simp only [Bool.and_eq_true,decide_eq_true_eq] at hok
      obtain ⟨xs,f,em,_,hl,hxl,hf⟩:=DataW.trod_array ht hy
      obtain rfl:n=f:=by omega
      have main: ∀ (k i:Nat),i+k=m→ ∃ vs,ShpR (Shp P n e) k vs∧RC x vs (cs.drop (i*P.cellsOf e)):=by
        intro k
        induction k with
        | zero =>
          intro i hi
          refine ⟨[],rfl,?_⟩
          rw [List.drop_of_length_le (by rw [hl,← hok.2,show i=m by omega]; exact Nat.le_refl _)]
          exact ⟨rfl,fun j v hj=>by simp at hj⟩
        | succ k ihk =>
          intro i hi
          have hlt:i < m:=by omega
          have hz:=hf i hlt
          rw [List.getElem?_eq_getElem (by omega)] at hz
          obtain ⟨va,g1,g2⟩:=ih e hok.1 _ _ hz
          obtain ⟨vb,g3,g4⟩:=ihk (i+1) (by omega)
          refine ⟨va++vb,⟨va,vb,rfl,g1,g3⟩,?_⟩
          have hsplit:cs.drop (i*P.cellsOf e)=(cs.drop (i*P.cellsOf e)).take (P.cellsOf e)++cs.drop ((i+1)*P.cellsOf e):=by
            rw [Nat.add_mul,Nat.one_mul,← List.drop_drop,List.take_append_drop]
          rw [hsplit]
          exact RC_append g2 g4
      obtain ⟨vs,g1,g2⟩:=main m 0 (by omega)
      exact ⟨vs,g1,by simpa using g2⟩
    · cases hok
theorem open_RS {x:Cx} (hZ: ∀ b,b < x.w.heap.size→x.Z b) {S:List TypeId} (hS: ∀ t∈S,okS P S t=true) {t:TypeId} (ht0:t∈S) {r:Reach} {b0 base:Nat} {spare:Nat→Bool} {held:Bool} {v:Value} {d:DataW H} {ps:List MemPlace}
    (hval:Value.okWide P x.w r b0 t v) (hd:DataW.Trod enc P x.w base spare held t v d ps): ∃ n vs,Shp P n t vs∧R x (packV P t vs) v:=by
  obtain ⟨fuel,hf⟩:=hd
  obtain ⟨vs,h1,h2⟩:=trod_RS hZ hS fuel t ht0 _ _ hf
  refine ⟨fuel,vs,h1,?_⟩
  have hok:=hS t ht0
  unfold packV
  simp only [okS] at hok
  split at hok
  · rename_i ht
    obtain ⟨b,rfl⟩:=okWide_bool ht hval
    rw [ht]; exact RC_one h2
  · rename_i k ht
    obtain ⟨m,rfl⟩:=okWide_int ht hval
    rw [ht]; exact RC_one h2
  · rename_i ht
    obtain ⟨s,rfl⟩:=okWide_string ht hval
    rw [ht]; exact RC_one h2
  · rename_i e ht
    obtain ⟨a,l,c,rfl⟩:=okWide_slice ht hval
    rw [ht]; exact RC_one h2
  · rename_i fs ht
    obtain ⟨cs,rfl,_⟩:=okWide_struct ht hval
    rw [ht]
    refine .agg vs cs (by have:=h2.1; simp [Value.cells] at this; omega) fun j u hj=>?_
    have:=h2.2 j u hj
    rw [List.getD_eq_getElem?_getD] at this
    rw [Array.getD_eq_getD_getElem?,← Array.getElem?_toList]
    exact this
  · rename_i m e ht
    have hval2:=hval
    simp only [Value.okWide,ht] at hval2
    obtain ⟨cs,rfl,_⟩:=hval2
    rw [ht]
    refine .agg vs cs (by have:=h2.1; simp [Value.cells] at this; omega) fun j u hj=>?_
    have:=h2.2 j u hj
    rw [List.getD_eq_getElem?_getD] at this
    rw [Array.getD_eq_getD_getElem?,← Array.getElem?_toList]
    exact this
  · cases hok
def ShpB (P:Program):List TypeId→List V→Prop
  |[],vs=>vs=[]
  |t::ts,vs=> ∃ n a b,vs=packV P t a::b∧Shp P n t a∧ShpB P ts b
theorem open_allS {x:Cx} (hZ: ∀ b,b < x.w.heap.size→x.Z b) {S:List TypeId} (hS: ∀ t∈S,okS P S t=true) {r:Reach} {b0 base:Nat} {spare:Nat→Bool} {held:Bool}: ∀ (ts:List TypeId) (vs:List Value) (ds:List (DataW H)) (ps:List MemPlace),
    (∀ t∈ts,t∈S)→(∀ (j:Nat) t v,ts[j]?=some t→vs[j]?=some v→Value.okWide P x.w r b0 t v)→DataW.TrodAll enc P x.w base spare held ts vs ds ps→
    ∃ us,ShpB P ts us∧RL x us vs
  | [], vs, ds, ps, _, _, h => by
    obtain ⟨rfl,rfl,rfl⟩:=trodAll_nil h
    exact ⟨[],rfl,rfl,fun j v hj=>by simp at hj⟩
  | t :: ts, vs, ds, ps, hok, hval, h => by
    obtain ⟨v,vs1,d,ds1,a,b,rfl,rfl,rfl,h1,h2⟩:=trodAll_cons h
    obtain ⟨n,ws,g1,g2⟩:=open_RS hZ hS (hok t (List.mem_cons_self ..)) (hval 0 t v rfl rfl) h1
    obtain ⟨us,g3,g4⟩:=open_allS hZ hS ts vs1 ds1 b (fun q hq=>hok q (List.mem_cons_of_mem _ hq)) (fun j q u hq hu=>hval (j+1) q u (by simpa using hq) (by simpa using hu)) h2
    refine ⟨packV P t ws::us,⟨n,ws,us,rfl,g1,g3⟩,by simp [g4.1],fun j u hj=>?_⟩
    cases j with
    |zero=>simp at hj; subst hj; exact g2
    |succ j=>exact g4.2 j u (by simpa using hj)
theorem law_postS {f:FuncId} {fn:Func} {s:ChangeSpec} {apart fresh handsOn again:Bool} {tb:Nat} {S:List TypeId} {W:World} {args:Array Value} {ds gs:List (DataW H)} {before:List MemPlace}
    (hl:laidOutB P=true) (hres:fn.resultTypes=#[tb]) (htb:P.underlying tb=some .bool) (hS: ∀ t∈S,okS P S t=true) (hts: ∀ t∈fn.params.toList,t∈S∧P.readableRec t=true∧t < P.types.size)
    (hvars:s.vars=[]) (hs:s.fn H (ds++gs)={results:=[.lit (.bool true)],args:=ds})
    (hlaw: ∀ us,ShpB P fn.params.toList us→PureC P f us (.bool true))
    (hval: ∀ (j:Nat) t v,fn.params[j]?=some t→args[j]?=some v→Value.okWide P W .any 0 t v)
    (hW:DataW.Whole enc P fn.params.toList s.vars apart W args.toList ds gs before) (htab:TabZ W (fun b=>b < W.heap.size):=by intro p hp; simp [tabs] at hp):
    Calls P f args W fun e W'=> ∃ v,e=.returned v∧s.post enc P fn apart fresh handsOn again W args v W':=by
  have hW':=hW
  obtain ⟨p,q,hA,hV,rfl,hfz,hnd⟩:=hW
  rw [hvars] at hV
  obtain ⟨rfl,rfl⟩:=trodVars_none hV
  have hlt:=hW'.lt
  let x:Cx:=start {w:=W,Z:=fun b=>b < W.heap.size,σ:=fun _=>0,H:=H0} (fun b=>b < W.heap.size)
  have hx:Inv x:=start_ok (fun b hb=>hb) htab
  obtain ⟨us,g1,g2⟩:=open_allS (x:=x) (fun b hb=>hb) hS fn.params.toList args.toList ds p (fun t ht=>(hts t ht).1) (fun j t v h1 h2=>hval j t v (by simpa using h1) (by simpa using h2)) hA
  have hc:=(hlaw us g1 H0).2 x args.toList rfl hx g2
  rw [Array.toArray_toList] at hc
  refine Calls.mono (show Calls P f args W _ from hc) fun e W' h=>?_
  obtain ⟨c,y,rfl,rfl,h3,h4,h5,h6⟩:=h
  cases h5
  have hb:Below W.heap.size W y.w:=below_of_frame h6 (fun _=>rfl) rfl
  refine ⟨_,rfl,post_of_below (pa:=p) (pv:=[]) hW' (fun b sp hd=>?_) (fun sp hsp=>?_) (fun sp _=>?_) (by simp) hb ?_⟩
  · rw [hs,hres]
    exact trodAll_mk1 (shut_bool htb true)
  · rw [hs]
    exact trodAll_stays hl hb _ _ _ _ (fun t ht=>(hts t ht).2) hA (fun z hz=>hlt z (by simpa using hz)) (fun z hz=>hsp z (by simpa using hz))
  · rw [hs,hvars]; rfl
  · exact ok_one hres rfl (okWide_bool_mk htb true)
end
section
variable {P:Program} {n t:Nat} {vs:List V}
theorem shq_int {k:IntKind} (ht:P.underlying t=some (.int k)) (h:Shp P n t vs): ∃ m:Int,vs=[.int k m]:=by
  cases n with
  |zero=>exact h.elim
  |succ n=>exact shp_int ht h
theorem shq_step {fs:Array Field} (ht:P.underlying t=some (.struct fs)) (h:Shp P n t vs): ∃ m,n=m+1∧ShpL (Shp P m) fs.toList vs:=by
  cases n with
  |zero=>exact h.elim
  |succ n=>exact ⟨n,rfl,shp_step ht h⟩
theorem shq_kids {e:Nat} {α:Type} {f:α→List V} {N:Nat} (ht:P.underlying t=some (.slice e)) (he: ∀ m,m < N→ ∀ vs,Shp P m e vs→ ∃ a,vs=f a) (hn:n < N) (h:Shp P n t vs): ∃ l:List α,vs=[.sl (l.map f)]:=by
  cases n with
  |zero=>exact h.elim
  |succ n=>exact shp_slice ht (he n (by omega)) h
theorem shpB_cons {ts:List TypeId} {us:List V} (h:ShpB P (t::ts) us): ∃ n a b,us=packV P t a::b∧Shp P n t a∧ShpB P ts b:=h
theorem shpB_nil {us:List V} (h:ShpB P [] us):us=[]:=h
end
end Go.Proofs.YteehaobohaecmaaGreatDoor
namespace Go.Proofs.YteehaobohaecmaaGreatDoor
open Go
abbrev cFm (f:Fm):List V:=[iV f.op,iV f.arg,.sl (f.kids.map cF)]
structure Tri where
  ia:List (List UInt8)
  oa:List (List UInt8)
  f:Fm
  s:List UInt8
end Go.Proofs.YteehaobohaecmaaGreatDoor
namespace Go.Proofs.YteehaobohaecmaaGreatDoor
open Go Go.Proofs Go.Proofs.YteehaobohaecmaaGreatDoor
theorem gPow : Tryz.prog.globalNamed "internal/strconv.uint64pow10" = some 0 := by kernel_rfl
theorem door_met (os:Os) (args:Array Value):laidMetH Tryz.prog Rows.monitorSimplifiesRow.laid ((World.doorLaid Tryz.prog 400 os).forCall (fun _ _=>0) ⟨#[],args,[]⟩).memory:=
  laidMetH_of_parts3 (fuel:=8) (laidMet_of_run' 8 (by kernel_rfl) (by kernel_rfl)) (by kernel_rfl) (by kernel_rfl)
theorem tabZ_of_laid {W:World} (h:laidMetH Tryz.prog Rows.monitorSimplifiesRow.laid W):TabZ W (fun b=>b < W.heap.size):=by
  have h2 := laidMetH.filter (fun x => x.1 == "internal/strconv.uint64pow10") h
  rw [show Rows.monitorSimplifiesRow.laid.filter (fun x => x.1 == "internal/strconv.uint64pow10") = [("internal/strconv.uint64pow10", Lib.tabData .u64 Lib.pow10Tab)] from by kernel_rfl] at h2
  rw [MakeChecks.laidMetH_plain _ _ _ (by kernel_rfl)] at h2
  have h3 : Lib.TabIs Tryz.prog W "internal/strconv.uint64pow10" .u64 Lib.pow10Tab := Lib.tabIs_of_head (n := 20) gPow (show (Tryz.prog.globals[0]?).map (·.type) = some 195 from by kernel_rfl) Tryz.underlying195 Tryz.underlying177 (by kernel_rfl) (by kernel_rfl) h2
  unfold Lib.TabIs World.var? at h3
  rw [gPow] at h3
  simp only [Option.bind_some] at h3
  intro p hp
  rw [show p=(0,p10C) from by simpa [tabs] using hp]
  revert h3
  cases hq:W.heap[0]? with
  |none=>intro h3; cases h3
  | some o =>
    cases o with
    | cells cs ty m =>
      intro h3
      injection h3 with h3
      refine ⟨?_,ty,m,by rw [h3]; rfl⟩
      obtain ⟨hlt,_⟩:=Array.getElem?_eq_some_iff.1 hq
      exact hlt
    |_=>intro h3; cases h3
end Go.Proofs.YteehaobohaecmaaGreatDoor
namespace Go.Proofs.YteehaobohaecmaaGreatDoor
open Go Go.Proofs Go.Proofs.YteehaobohaecmaaGreatDoor Go.ChangeShapes Go.WideShapes Go.ChangeAt Go.RowKit
structure UT (P:Program):Prop where
  u3:P.underlying 3=some (.int .i64)
  u22:P.underlying 22=some (.slice 24)
  u24: ∃ f0 f1 f2:Field,P.underlying 24=some (.struct #[f0,f1,f2])∧f0.type=3∧f1.type=3∧f2.type=22
theorem sh3 {P:Program} (U:UT P): ∀ (n:Nat) (vs:List V),Shp P n 3 vs→ ∃ a:Int,vs=cI a:=fun _ _ h=>shq_int U.u3 h
theorem sh24 {P:Program} (U:UT P): ∀ (n:Nat) (vs:List V),Shp P n 24 vs→ ∃ a:Fm,vs=cF a:=by
  intro n
  induction n using Nat.strongRecOn with
  | ind n ih =>
    intro vs h
    obtain ⟨f0,f1,f2,hu,k0,k1,k2⟩:=U.u24
    obtain ⟨m,hm,h0⟩:=shq_step hu h
    obtain ⟨x0,u0,e0,h1⟩:=shpL_cons (c:=cI) (fun vs h=>sh3 U m vs (by rw [k0] at h; exact h)) h0
    obtain ⟨x1,u1,e1,h2⟩:=shpL_cons (c:=cI) (fun vs h=>sh3 U m vs (by rw [k1] at h; exact h)) h1
    obtain ⟨x2,u2,e2,h3⟩:=shpL_cons (c:=fun l:List Fm=>[V.sl (List.map cF l)]) (fun vs h=>shq_kids (N:=n) (n:=m) U.u22 ih (by omega) (by rw [k2] at h; exact h)) h2
    have e3:=shpL_nil h3
    exact ⟨(Fm.nd x0 x1 x2),by rw [e0,e1,e2,e3,cF_eq]; rfl⟩
theorem ut:UT Tryz.prog:=⟨by kernel_rfl,by kernel_rfl,⟨_,_,_,Tryz.underlying24,rfl,rfl,rfl⟩⟩
theorem args3 {P:Program} (U:UT P) {us:List V} (h:ShpB P [24,3,3] us): ∃ (d0:Fm) (d1:Int) (d2:Int),us=[V.agg (cFm d0),V.int .i64 d1,V.int .i64 d2]:=by
  obtain ⟨n0,a0,b0,e0,h0,h⟩:=shpB_cons h
  obtain ⟨d0,g0⟩:=sh24 U n0 a0 h0
  have q0:packV P 24 a0=V.agg (cFm d0):=by obtain ⟨_,_,_,hu,_⟩:=U.u24; rw [g0,cF_eq]; exact pack_struct hu _
  obtain ⟨n1,a1,b1,e1,h1,h⟩:=shpB_cons h
  obtain ⟨d1,g1⟩:=sh3 U n1 a1 h1
  have q1:packV P 3 a1=V.int .i64 d1:=by rw [g1]; exact pack_other (fun fs h=>by rw [U.u3] at h; cases h) (fun m e h=>by rw [U.u3] at h; cases h)
  obtain ⟨n2,a2,b2,e2,h2,h⟩:=shpB_cons h
  obtain ⟨d2,g2⟩:=sh3 U n2 a2 h2
  have q2:packV P 3 a2=V.int .i64 d2:=by rw [g2]; exact pack_other (fun fs h=>by rw [U.u3] at h; cases h) (fun m e h=>by rw [U.u3] at h; cases h)
  have e3:=shpB_nil h
  exact ⟨d0,d1,d2,by rw [e0,q0,e1,q1,e2,q2,e3]⟩
theorem own3:ownKnob Tryz.prog.godebug=none:=by kernel_rfl
theorem okS3: ∀ t∈[3,22,24],okS Tryz.prog [3,22,24] t=true:=by
  intro t ht
  simp only [List.mem_cons,List.not_mem_nil,or_false] at ht
  rcases ht with rfl|rfl|rfl
  · kernel_rfl
  · kernel_rfl
  · kernel_rfl
set_option maxRecDepth 100000 in
theorem lifted3 (os:Os) (started:os.Started) (H:Type) (enc:TypeId×Value→H):
    ReturnsInHanded {} Tryz.checked os 3 .any (fun w args=>(Rows.monitorSimplifiesSpec.pre enc Tryz.prog Tryz.f3 [] false w args∧laidMetH Tryz.prog Rows.monitorSimplifiesRow.laid w)∧sizedMet enc Tryz.prog Tryz.f3 (OpenSpec.ofChange Rows.monitorSimplifiesSpec) false w args)
      (Rows.monitorSimplifiesSpec.post enc Tryz.prog Tryz.f3 false true false false):=by
  refine returnsInHanded_of_change_and (C:=Tryz.checked) (X:=fun w _=>laidMetH Tryz.prog Rows.monitorSimplifiesRow.laid w) (fun _ _ _ hh h=>h.of_heap hh) own3 started (by kernel_rfl) Tryz.func3
    (ChangeSpec.witness_shaped (enc:=enc) (C:=Tryz.checked) (os:=os) (X:=fun w _=>laidMetH Tryz.prog Rows.monitorSimplifiesRow.laid w) false (World.doorLaid Tryz.prog 400 os) #[.agg #[.int .i64 0,.int .i64 0,.slice none 0 0],.int .i64 0,.int .i64 0] 8 rfl (World.shaped_of_RefB (by kernel_rfl) (by kernel_rfl)) (by kernel_rfl) (by kernel_rfl) (by kernel_rfl) (door_met os _)) ?_
  intro W base args ds gs before hval0 hW _ _ hL _
  refine law_postS (S:=[3,22,24]) (tb:=4) (by kernel_rfl) (by kernel_rfl) (by kernel_rfl) okS3 (fun t ht=>?_) rfl ?_ (fun us hu=>?_) hval0 hW (tabZ_of_laid hL)
  · have h:t∈[24,3,3]:=ht
    simp only [List.mem_cons,List.not_mem_nil,or_false] at h
    rcases h with rfl|rfl|rfl
    · exact ⟨of_decide_eq_true (by kernel_rfl),by kernel_rfl,of_decide_eq_true (by kernel_rfl)⟩
    · exact ⟨of_decide_eq_true (by kernel_rfl),by kernel_rfl,of_decide_eq_true (by kernel_rfl)⟩
    · exact ⟨of_decide_eq_true (by kernel_rfl),by kernel_rfl,of_decide_eq_true (by kernel_rfl)⟩
  · obtain ⟨p,q,hA,hV,rfl,hfz,hnd⟩:=hW
    obtain ⟨rfl,rfl⟩:=trodVars_none hV
    change DataW.TrodAll enc Tryz.prog W 0 (fun _=>true) true [24,3,3] args.toList ds p at hA
    obtain ⟨v0,vs0,y0,ds0,pa0,pb0,hv0,rfl,rfl,_,hA⟩:=trodAll_cons hA
    obtain ⟨v1,vs1,y1,ds1,pa1,pb1,hv1,rfl,rfl,_,hA⟩:=trodAll_cons hA
    obtain ⟨v2,vs2,y2,ds2,pa2,pb2,hv2,rfl,rfl,_,hA⟩:=trodAll_cons hA
    obtain ⟨_,rfl,rfl⟩:=trodAll_nil hA
    rfl
  · obtain ⟨d0,d1,d2,rfl⟩:=args3 ut hu
    exact law3_pure d0 d1 d2
theorem row3:Rows.MonitorSimplifiesSaid:=
  OpenClaim.holds_of_wide 3 Tryz.f3 rfl rfl rfl rfl rfl rfl rfl ⟨rfl,rfl,rfl,rfl,rfl⟩ rfl rfl rfl rfl rfl (by kernel_rfl) Tryz.func3 (by kernel_rfl)
    (of_decide_eq_true (by kernel_rfl)) (by unfold Func.isWrapper; first|(rw [if_pos (by decide+kernel)]; kernel_rfl)|(rw [if_neg (by decide+kernel)]; exact ⟨rfl,rfl⟩))
    (fun os started H enc _=>lifted3 os started H enc)
theorem proved3 : Rows.MonitorSimplifiesCardSaid :=
  Claim7.holds_tied_plain_at .later [] [.data, .data, .data] true (true, "98a18010de341d32116933fdf51a3dd8a8f2b57aa54f69519e37bffcb02f6549") false
    row3 (fun _ h=>by cases h) (by kernel_rfl) (fun _ h=>by cases h) monitorSimplifies_row_tie rfl ⟨rfl,rfl⟩ (by kernel_rfl) rfl
    (fun f fn hf hfn=>by
      obtain rfl : f = 3 := Option.some.inj ((show Tryz.prog.funcNamed "learner/learnerlaw46.MonitorSimplifies" = some 3 by kernel_rfl).symm.trans hf) |>.symm
      obtain rfl:fn=Tryz.f3:=(Option.some.inj (Tryz.func3.symm.trans hfn)).symm
      exact ⟨by kernel_rfl,fun j t ht=>by
        rw [Tryz.params3] at ht
        have hm:t∈[24,3,3]:=by simpa using Array.mem_of_getElem? ht
        have hall:([24,3,3].all fun u=> !Tryz.prog.wantsStandIn u)=true:=by kernel_rfl
        exact (show Tryz.prog.wantsStandIn t=false by simpa using List.all_eq_true.1 hall t hm)⟩)
    (by kernel_rfl)
end Go.Proofs.YteehaobohaecmaaGreatDoor
